/- Several texts in one: G58 G57 G74s0 G56s0 G76 G59 G39 G61 G77 G78 G62 G42 PlS G52 G72i0 G36 G73 G55 G38 PlU PlUo G35 -/
import Derived.WalkKit
import Derived.Maps.AppendAt
import Derived.Deep.AppendLies
import Derived.KernelRfl
import Derived.Laws.OwnMore
import Derived.Great.BuildSlice
import Derived.Orders
import Derived.Laws.StructEq
import Derived.ChangeKeysEq
import Derived.Defers
import Derived.Laws.BytesString
import Derived.RangeFuncNested
import Derived.RangeFuncBound
import Derived.RangeFuncCalls
import Derived.RangeFuncLeaves
import Derived.OrdersIn
import Derived.LoopNIn
import Derived.Test.YtmedbnjhgkcndaaProg
import Derived.ProofKit
import Derived.OpenShut
import Derived.ChangeOld
import Derived.Deep.Slices
import Derived.Lib.SmallJoins
import Derived.JoinedOf
import Derived.JoinedAt
import Derived.Below
import Derived.Test.YtmedbnjhgkcndaaRows
import Derived.Test.YtmedbnjhgkcndaaMPieceCharts2
namespace Go.Proofs.Ytmedbnjhgkcndaa
open Go.RowKit
set_option linter.unusedVariables false

noncomputable def F_stitch_Check (p0 : api_Stitch) : Option Int :=
  Option.bind (F_stitch_forms p0.Kind) fun r4 =>
  Option.bind (α := Bool) (
    if !r4.2 then
      some true
    else
      Option.bind (F_stitch_within p0.A r4.1.a) fun r13 =>
      if !r13 then
        some true
      else
        Option.bind (F_stitch_within p0.B r4.1.b) fun r16 =>
        if !r16 then
          some true
        else
          if p0.Purl then
            some (!r4.1.sided)
          else
            some false) fun o9 =>
  if o9 then
    some 8
  else
    some 0
set_option maxHeartbeats 4000000 in
set_option maxRecDepth 100000 in
theorem c_stitch_Check (E : Nat → Prop) (w0 : World) (p0 : api_Stitch) (v0 : Value) (r : Int) (h : F_stitch_Check p0 = some r) (S : St0 E [] w0 w0 [] [fRep r_api_Stitch (v0) p0]) :
    Calls Try.prog 58 #[v0] w0 (Ret (X := Unit) E [] w0 (fun _ => .int .i64 r) (fun _ => []) (fun _ => [])) := by
  unfold F_stitch_Check at h
  obtain rfl : v0 = .agg #[.int .u8 p0.Kind, .bool p0.Purl, iv p0.A, iv p0.B] := S.know (i := 0) (e := fRep r_api_Stitch (v0) p0) rfl
  refine sEnter (args := [.agg #[.int .u8 p0.Kind, .bool p0.Purl, iv p0.A, iv p0.B]]) 38 Try.func58 rfl rfl (by simp) S (fun a S => ?_)
  refine sSeq (fun K1 hK1 => ?_)
  refine sRegion ?_
  refine sBox (v := .agg #[.int .u8 p0.Kind, .bool p0.Purl, iv p0.A, iv p0.B]) S (wN rfl) rfl rfl [.int .u8 p0.Kind, .bool p0.Purl, iv p0.A, iv p0.B] rfl rfl (lb rfl) fun a b2 w S => ?_
  refine sMove (iv 0) S (wN rfl) (.inr rfl) rfl rfl (lb rfl) fun a S => ?_
  refine leafL (leafT (hK1 _ _ ?_))
  refine sSeq (fun K3 hK3 => ?_)
  refine sRegion ?_
  refine sField (b := b2) (off := 0) 0 0 S (wN rfl) rfl rfl rfl rfl rfl (lb rfl) fun a S => ?_
  refine sLoad1 (p := b2) (off := 0) (T := 82) (vs := [.int .u8 p0.Kind, .bool p0.Purl, iv p0.A, iv p0.B]) 0 (.int .u8 p0.Kind) S (wN rfl) rfl rfl rfl rfl rfl rfl (lb rfl) fun a S => ?_
  obtain ⟨r4, hx5, h⟩ := bindSome h
  refine sCall (X := Value) (f := 53) (vs := [.int .u8 p0.Kind]) (val := c_stitch_forms_val r4) (B' := fun _ => []) (D' := c_stitch_forms_D r4) [] [eBox b2 82 [.int .u8 p0.Kind, .bool p0.Purl, iv p0.A, iv p0.B]] [] [0] [] S (wN rfl) rfl callee53 rfl (by decide) rfl rfl (fun E1 w1 S1 => c_stitch_forms E1 w1 p0.Kind r4 hx5 S1) rfl (lb rfl) fun u6 a w S => ?_
  obtain rfl : u6 = gv_stitch_form r4.1 := S.mem.know (i := 0) (e := fRep r_stitch_form (u6) r4.1) rfl
  refine sMove (.tuple #[gv_stitch_form r4.1, .bool r4.2]) S (wN rfl) (.inl rfl) rfl rfl (lb rfl) fun a S => ?_
  refine sExtract (vs := [gv_stitch_form r4.1, .bool r4.2]) (gv_stitch_form r4.1) S (wN rfl) rfl rfl rfl rfl (lb rfl) fun a S => ?_
  refine sExtract (vs := [gv_stitch_form r4.1, .bool r4.2]) (.bool r4.2) S (wN rfl) rfl rfl rfl rfl (lb rfl) fun a S => ?_
  refine sAlloc (gv_stitch_form (stitch_form.mk (⟨#[]⟩ : ByteArray) (0, 0) (0, 0) false 0 0)) S (wN rfl) rfl rfl (gl_stitch_form (stitch_form.mk (⟨#[]⟩ : ByteArray) (0, 0) (0, 0) false 0 0)) rfl rfl (lb rfl) fun a b7 w S => ?_
  refine sStore (p := b7) (off := 0) (T := 109) (vs := [.string (⟨#[]⟩ : ByteArray), iv 0, iv 0, iv 0, iv 0, .bool false, iv 0, iv 0]) (v := gv_stitch_form r4.1) 0 [.string r4.1.letter, iv r4.1.a.1, iv r4.1.a.2, iv r4.1.b.1, iv r4.1.b.2, .bool r4.1.sided, iv r4.1.uses, iv r4.1.made] S (wN rfl) rfl rfl rfl rfl rfl rfl rfl (by simp) rfl fun a w S => ?_
  refine sMove (.bool r4.2) S (wN rfl) (.inr rfl) rfl rfl (lb rfl) fun a S => ?_
  refine leafL (leafT (hK3 _ _ ?_))
  refine sSeq (fun K8 hK8 => ?_)
  obtain ⟨t10, h, g11⟩ := bindSome h
  refine sCut (fun a w => ∃ o9, o9 = t10 ∧ St [] E [] w0 38 a w [(37, .bool o9)] [] []) ?_ (fun a w hI => ?_)
  rotate_left
  · obtain ⟨o9, rfl, S⟩ := hI
    have h := g11
    clear g11
    try dsimp only at h
    rcases iteSome h with ⟨hc20, h⟩ | ⟨hc20, h⟩
    · refine sCondT S rfl hc20 ?_
      refine sSeq (fun K21 hK21 => ?_)
      refine sRegion ?_
      refine sMove (iv 8) S (wN rfl) (.inr rfl) rfl rfl (lb rfl) fun a S => ?_
      refine leafL (leafT (hK21 _ _ ?_))
      obtain rfl := Option.some.inj h
      exact wp_ret (rThen (sRet (iv 8) S (rsl1 rfl (rvT (t := 2) (v := iv 8) S rfl)) ⟨(), rfl, S.mem.sel [] [] (by decide) rfl rfl⟩))
    refine sCondF S rfl hc20 ?_
    refine wp_skip (leafT (hK8 _ _ ?_))
    refine sSeq (fun K22 hK22 => ?_)
    refine sRegion ?_
    refine sMove (iv 0) S (wN rfl) (.inr rfl) rfl rfl (lb rfl) fun a S => ?_
    refine leafL (leafT (hK22 _ _ ?_))
    obtain rfl := Option.some.inj h
    exact wp_ret (sRet (iv 0) S (rsl1 rfl (rvT (t := 2) (v := iv 0) S rfl)) ⟨(), rfl, S.mem.sel [] [] (by decide) rfl rfl⟩)
  refine sRegion ?_
  refine sMove (.bool r4.2) S (wN rfl) (.inl rfl) rfl rfl (lb rfl) fun a S => ?_
  refine sNot (b := r4.2) S (wN rfl) rfl rfl rfl (lb rfl) fun a S => ?_
  refine sMove (.bool (!r4.2)) S (wN rfl) (.inl rfl) rfl rfl (lb rfl) fun a S => ?_
  rcases iteSome h with ⟨hc12, h⟩ | ⟨hc12, h⟩
  · refine sSkip 2 false 13 14 S rfl rfl rfl hc12 rfl (lb rfl) fun a S => ?_
    refine sSkip 2 false 13 15 S rfl rfl rfl hc12 rfl (lb rfl) fun a S => ?_
    refine sSkip 2 false 13 16 S rfl rfl rfl hc12 rfl (lb rfl) fun a S => ?_
    refine sSkip 2 false 13 17 S rfl rfl rfl hc12 rfl (lb rfl) fun a S => ?_
    refine sSkip 2 false 13 18 S rfl rfl rfl hc12 rfl (lb rfl) fun a S => ?_
    refine sSkip 2 false 13 19 S rfl rfl rfl hc12 rfl (lb rfl) fun a S => ?_
    refine sPickT (.bool true) S (wN rfl) rfl rfl hc12 rfl rfl (lb rfl) fun a S => ?_
    refine sMove (.bool true) S (wN rfl) (.inl rfl) rfl rfl (lb rfl) fun a S => ?_
    refine sSkip 10 false 21 22 S rfl rfl rfl rfl rfl (lb rfl) fun a S => ?_
    refine sSkip 10 false 21 23 S rfl rfl rfl rfl rfl (lb rfl) fun a S => ?_
    refine sSkip 10 false 21 24 S rfl rfl rfl rfl rfl (lb rfl) fun a S => ?_
    refine sSkip 10 false 21 25 S rfl rfl rfl rfl rfl (lb rfl) fun a S => ?_
    refine sSkip 10 false 21 26 S rfl rfl rfl rfl rfl (lb rfl) fun a S => ?_
    refine sSkip 10 false 21 27 S rfl rfl rfl rfl rfl (lb rfl) fun a S => ?_
    refine sPickT (.bool true) S (wN rfl) rfl rfl rfl rfl rfl (lb rfl) fun a S => ?_
    refine sMove (.bool true) S (wN rfl) (.inl rfl) rfl rfl (lb rfl) fun a S => ?_
    refine sSkip 18 false 29 30 S rfl rfl rfl rfl rfl (lb rfl) fun a S => ?_
    refine sSkip 18 false 29 31 S rfl rfl rfl rfl rfl (lb rfl) fun a S => ?_
    refine sSkip 18 false 29 32 S rfl rfl rfl rfl rfl (lb rfl) fun a S => ?_
    refine sSkipU 21 true 32 33 S rfl rfl rfl rfl (lb rfl) fun a S => ?_
    refine sSkipU 21 true 32 34 S rfl rfl rfl rfl (lb rfl) fun a S => ?_
    refine sSkipU 21 true 32 35 S rfl rfl rfl rfl (lb rfl) fun a S => ?_
    refine sSkip 18 false 29 36 S rfl rfl rfl rfl rfl (lb rfl) fun a S => ?_
    refine sPickT (.bool true) S (wN rfl) rfl rfl rfl rfl rfl (lb rfl) fun a S => ?_
    exact leafL (leafT (⟨true, Option.some.inj h, S.fix [] [] (by decide) rfl rfl rfl⟩))
  refine sField (b := b2) (off := 0) 2 2 S (wG 2 false 13 rfl rfl rfl hc12) rfl rfl rfl rfl rfl (lb rfl) fun a S => ?_
  refine sLoad1 (p := b2) (off := 2) (T := 82) (vs := [.int .u8 p0.Kind, .bool p0.Purl, iv p0.A, iv p0.B]) 1 (iv p0.A) S (wG 2 false 13 rfl rfl rfl hc12) rfl rfl rfl rfl rfl rfl (lb rfl) fun a S => ?_
  refine sField (b := b7) (off := 0) 1 1 S (wG 2 false 13 rfl rfl rfl hc12) rfl rfl rfl rfl rfl (lb rfl) fun a S => ?_
  refine sLoadN (p := b7) (off := 1) (T := 109) (vs := (gl_stitch_form r4.1)) 0 [iv r4.1.a.1, iv r4.1.a.2] S (wG 2 false 13 rfl rfl rfl hc12) rfl rfl rfl rfl rfl rfl rfl (lb rfl) fun a S => ?_
  obtain ⟨r13, hx14, h⟩ := bindSome h
  have S1 := S.mem
  have S1 := S1.learn (fRep r_A2_Int (.agg #[iv r4.1.a.1, iv r4.1.a.2]) r4.1.a) rfl
  refine sCallQ (X := Unit) (f := 75) (vs := [iv p0.A, .agg #[iv r4.1.a.1, iv r4.1.a.2]]) (val := fun _ => .bool r13) S (wG 2 false 13 rfl rfl rfl hc12) rfl callee75 rfl (S1.quiet [0] rfl) (fun E1 w1 S1 => c_stitch_within E1 w1 p0.A r4.1.a (.agg #[iv r4.1.a.1, iv r4.1.a.2]) r13 hx14 S1) rfl (lb rfl) fun _ a w S => ?_
  refine sNot (b := r13) S (wG 2 false 13 rfl rfl rfl hc12) rfl rfl rfl (lb rfl) fun a S => ?_
  refine sPickF (.bool (!r13)) S (wN rfl) rfl rfl hc12 rfl rfl (lb rfl) fun a S => ?_
  refine sMove (.bool (!r13)) S (wN rfl) (.inl rfl) rfl rfl (lb rfl) fun a S => ?_
  rcases iteSome h with ⟨hc15, h⟩ | ⟨hc15, h⟩
  · refine sSkip 10 false 21 22 S rfl rfl rfl hc15 rfl (lb rfl) fun a S => ?_
    refine sSkip 10 false 21 23 S rfl rfl rfl hc15 rfl (lb rfl) fun a S => ?_
    refine sSkip 10 false 21 24 S rfl rfl rfl hc15 rfl (lb rfl) fun a S => ?_
    refine sSkip 10 false 21 25 S rfl rfl rfl hc15 rfl (lb rfl) fun a S => ?_
    refine sSkip 10 false 21 26 S rfl rfl rfl hc15 rfl (lb rfl) fun a S => ?_
    refine sSkip 10 false 21 27 S rfl rfl rfl hc15 rfl (lb rfl) fun a S => ?_
    refine sPickT (.bool true) S (wN rfl) rfl rfl hc15 rfl rfl (lb rfl) fun a S => ?_
    refine sMove (.bool true) S (wN rfl) (.inl rfl) rfl rfl (lb rfl) fun a S => ?_
    refine sSkip 18 false 29 30 S rfl rfl rfl rfl rfl (lb rfl) fun a S => ?_
    refine sSkip 18 false 29 31 S rfl rfl rfl rfl rfl (lb rfl) fun a S => ?_
    refine sSkip 18 false 29 32 S rfl rfl rfl rfl rfl (lb rfl) fun a S => ?_
    refine sSkipU 21 true 32 33 S rfl rfl rfl rfl (lb rfl) fun a S => ?_
    refine sSkipU 21 true 32 34 S rfl rfl rfl rfl (lb rfl) fun a S => ?_
    refine sSkipU 21 true 32 35 S rfl rfl rfl rfl (lb rfl) fun a S => ?_
    refine sSkip 18 false 29 36 S rfl rfl rfl rfl rfl (lb rfl) fun a S => ?_
    refine sPickT (.bool true) S (wN rfl) rfl rfl rfl rfl rfl (lb rfl) fun a S => ?_
    exact leafL (leafT (⟨true, Option.some.inj h, S.fix [] [] (by decide) rfl rfl rfl⟩))
  refine sField (b := b2) (off := 0) 3 3 S (wG 10 false 21 rfl rfl rfl hc15) rfl rfl rfl rfl rfl (lb rfl) fun a S => ?_
  refine sLoad1 (p := b2) (off := 3) (T := 82) (vs := [.int .u8 p0.Kind, .bool p0.Purl, iv p0.A, iv p0.B]) 1 (iv p0.B) S (wG 10 false 21 rfl rfl rfl hc15) rfl rfl rfl rfl rfl rfl (lb rfl) fun a S => ?_
  refine sField (b := b7) (off := 0) 3 3 S (wG 10 false 21 rfl rfl rfl hc15) rfl rfl rfl rfl rfl (lb rfl) fun a S => ?_
  refine sLoadN (p := b7) (off := 3) (T := 109) (vs := (gl_stitch_form r4.1)) 0 [iv r4.1.b.1, iv r4.1.b.2] S (wG 10 false 21 rfl rfl rfl hc15) rfl rfl rfl rfl rfl rfl rfl (lb rfl) fun a S => ?_
  obtain ⟨r16, hx17, h⟩ := bindSome h
  have S1 := S.mem
  have S1 := S1.learn (fRep r_A2_Int (.agg #[iv r4.1.b.1, iv r4.1.b.2]) r4.1.b) rfl
  refine sCallQ (X := Unit) (f := 75) (vs := [iv p0.B, .agg #[iv r4.1.b.1, iv r4.1.b.2]]) (val := fun _ => .bool r16) S (wG 10 false 21 rfl rfl rfl hc15) rfl callee75 rfl (S1.quiet [0] rfl) (fun E1 w1 S1 => c_stitch_within E1 w1 p0.B r4.1.b (.agg #[iv r4.1.b.1, iv r4.1.b.2]) r16 hx17 S1) rfl (lb rfl) fun _ a w S => ?_
  refine sNot (b := r16) S (wG 10 false 21 rfl rfl rfl hc15) rfl rfl rfl (lb rfl) fun a S => ?_
  refine sPickF (.bool (!r16)) S (wN rfl) rfl rfl hc15 rfl rfl (lb rfl) fun a S => ?_
  refine sMove (.bool (!r16)) S (wN rfl) (.inl rfl) rfl rfl (lb rfl) fun a S => ?_
  rcases iteSome h with ⟨hc18, h⟩ | ⟨hc18, h⟩
  · refine sSkip 18 false 29 30 S rfl rfl rfl hc18 rfl (lb rfl) fun a S => ?_
    refine sSkip 18 false 29 31 S rfl rfl rfl hc18 rfl (lb rfl) fun a S => ?_
    refine sSkip 18 false 29 32 S rfl rfl rfl hc18 rfl (lb rfl) fun a S => ?_
    refine sSkipU 21 true 32 33 S rfl rfl rfl rfl (lb rfl) fun a S => ?_
    refine sSkipU 21 true 32 34 S rfl rfl rfl rfl (lb rfl) fun a S => ?_
    refine sSkipU 21 true 32 35 S rfl rfl rfl rfl (lb rfl) fun a S => ?_
    refine sSkip 18 false 29 36 S rfl rfl rfl hc18 rfl (lb rfl) fun a S => ?_
    refine sPickT (.bool true) S (wN rfl) rfl rfl hc18 rfl rfl (lb rfl) fun a S => ?_
    exact leafL (leafT (⟨true, Option.some.inj h, S.fix [] [] (by decide) rfl rfl rfl⟩))
  refine sField (b := b2) (off := 0) 1 1 S (wG 18 false 29 rfl rfl rfl hc18) rfl rfl rfl rfl rfl (lb rfl) fun a S => ?_
  refine sLoad1 (p := b2) (off := 1) (T := 82) (vs := [.int .u8 p0.Kind, .bool p0.Purl, iv p0.A, iv p0.B]) 1 (.bool p0.Purl) S (wG 18 false 29 rfl rfl rfl hc18) rfl rfl rfl rfl rfl rfl (lb rfl) fun a S => ?_
  refine sMove (.bool p0.Purl) S (wG 18 false 29 rfl rfl rfl hc18) (.inl rfl) rfl rfl (lb rfl) fun a S => ?_
  rcases iteSome h with ⟨hc19, h⟩ | ⟨hc19, h⟩
  rotate_left
  · refine sSkip 21 true 32 33 S rfl rfl rfl hc19 rfl (lb rfl) fun a S => ?_
    refine sSkip 21 true 32 34 S rfl rfl rfl hc19 rfl (lb rfl) fun a S => ?_
    refine sSkip 21 true 32 35 S rfl rfl rfl hc19 rfl (lb rfl) fun a S => ?_
    refine sPickF (.bool false) S (wG 18 false 29 rfl rfl rfl hc18) rfl rfl hc19 rfl rfl (lb rfl) fun a S => ?_
    refine sPickF (.bool false) S (wN rfl) rfl rfl hc18 rfl rfl (lb rfl) fun a S => ?_
    exact leafL (leafT (⟨false, Option.some.inj h, S.fix [] [] (by decide) rfl rfl rfl⟩))
  refine sField (b := b7) (off := 0) 5 5 S (wG 21 true 32 rfl rfl rfl hc19) rfl rfl rfl rfl rfl (lb rfl) fun a S => ?_
  refine sLoad1 (p := b7) (off := 5) (T := 109) (vs := (gl_stitch_form r4.1)) 0 (.bool r4.1.sided) S (wG 21 true 32 rfl rfl rfl hc19) rfl rfl rfl rfl rfl rfl (lb rfl) fun a S => ?_
  refine sNot (b := r4.1.sided) S (wG 21 true 32 rfl rfl rfl hc19) rfl rfl rfl (lb rfl) fun a S => ?_
  refine sPickT (.bool (!r4.1.sided)) S (wG 18 false 29 rfl rfl rfl hc18) rfl rfl hc19 rfl rfl (lb rfl) fun a S => ?_
  refine sPickF (.bool (!r4.1.sided)) S (wN rfl) rfl rfl hc18 rfl rfl (lb rfl) fun a S => ?_
  exact leafL (leafT (⟨!r4.1.sided, Option.some.inj h, S.fix [] [] (by decide) rfl rfl rfl⟩))

end Go.Proofs.Ytmedbnjhgkcndaa
namespace Go.Proofs.Ytmedbnjhgkcndaa
open Go.RowKit
set_option linter.unusedVariables false

noncomputable def F_stitch_All_1 (p0 : api_Stitch) : Option Bool :=
  Option.bind (F_stitch_Check p0) fun r4 =>
  some (r4 != 0)
set_option maxHeartbeats 4000000 in
set_option maxRecDepth 100000 in
theorem c_stitch_All_1 (E : Nat → Prop) (w0 : World) (p0 : api_Stitch) (v0 : Value) (r : Bool) (h : F_stitch_All_1 p0 = some r) (S : St0 E [] w0 w0 [] [fRep r_api_Stitch (v0) p0]) :
    Calls Try.prog 57 #[v0] w0 (Ret (X := Unit) E [] w0 (fun _ => .bool r) (fun _ => []) (fun _ => [])) := by
  unfold F_stitch_All_1 at h
  obtain rfl : v0 = .agg #[.int .u8 p0.Kind, .bool p0.Purl, iv p0.A, iv p0.B] := S.know (i := 0) (e := fRep r_api_Stitch (v0) p0) rfl
  refine sEnter (args := [.agg #[.int .u8 p0.Kind, .bool p0.Purl, iv p0.A, iv p0.B]]) 6 Try.func57 rfl rfl (by simp) S (fun a S => ?_)
  refine sSeq (fun K1 hK1 => ?_)
  refine sRegion ?_
  refine sBox (v := .agg #[.int .u8 p0.Kind, .bool p0.Purl, iv p0.A, iv p0.B]) S (wN rfl) rfl rfl [.int .u8 p0.Kind, .bool p0.Purl, iv p0.A, iv p0.B] rfl rfl (lb rfl) fun a b2 w S => ?_
  refine sMove (.bool false) S (wN rfl) (.inr rfl) rfl rfl (lb rfl) fun a S => ?_
  refine leafL (leafT (hK1 _ _ ?_))
  refine sSeq (fun K3 hK3 => ?_)
  refine sRegion ?_
  refine sLoadN (p := b2) (off := 0) (T := 82) (vs := [.int .u8 p0.Kind, .bool p0.Purl, iv p0.A, iv p0.B]) 0 [.int .u8 p0.Kind, .bool p0.Purl, iv p0.A, iv p0.B] S (wN rfl) rfl rfl rfl rfl rfl rfl rfl (lb rfl) fun a S => ?_
  obtain ⟨r4, hx5, h⟩ := bindSome h
  have S1 := S.mem
  refine sCallQ (X := Unit) (f := 58) (vs := [.agg #[.int .u8 p0.Kind, .bool p0.Purl, iv p0.A, iv p0.B]]) (val := fun _ => iv r4) S (wN rfl) rfl callee58 rfl (S1.quiet [0] rfl) (fun E1 w1 S1 => c_stitch_Check E1 w1 p0 (.agg #[.int .u8 p0.Kind, .bool p0.Purl, iv p0.A, iv p0.B]) r4 hx5 S1) rfl (lb rfl) fun _ a w S => ?_
  refine sBin (.bool (r4 != 0)) S (wN rfl) rfl rfl rfl (bNe _ _ _ _ .i64 r4 0) rfl (lb rfl) fun a S => ?_
  refine sMove (.bool (r4 != 0)) S (wN rfl) (.inr rfl) rfl rfl (lb rfl) fun a S => ?_
  refine leafL (leafT (hK3 _ _ ?_))
  obtain rfl := Option.some.inj h
  exact wp_ret (sRet (.bool (r4 != 0)) S (rsl1 rfl (rvT (t := 2) (v := .bool (r4 != 0)) S rfl)) ⟨(), rfl, S.mem.sel [] [] (by decide) rfl rfl⟩)

end Go.Proofs.Ytmedbnjhgkcndaa
namespace Go.Proofs.Ytmedbnjhgkcndaa
open Go.RowKit
set_option linter.unusedVariables false

noncomputable def slices_IndexFunc___api_Stitch_api_Stitch__s0_l1 (p0 : (List api_Stitch)) : Int → Option (Int ⊕ (Int ⊕ Unit)) := fun s0 => match s0 with
  | s7 =>
    if decide (s7 < (p0.length : Int)) then
      Option.bind (idxO p0 s7) fun x17 =>
      Option.bind (F_stitch_All_1 x17) fun r22 =>
      if r22 then
        some (.inr (.inl s7))
      else
        some (.inl (w64 (s7 + 1)))
    else
      some (.inr (.inr ()))
noncomputable def F_slices_IndexFunc___api_Stitch_api_Stitch__s0 (p0 : (List api_Stitch)) : Option Int :=
  Option.bind (α := Unit ⊕ Int) (
    Option.bind (whileO (slices_IndexFunc___api_Stitch_api_Stitch__s0_l1 p0) 0) fun z0 => match z0 with
      | .inl z =>
        some (.inr z)
      | .inr _ =>
        some (.inl ())) fun z0 => match z0 with
    | .inl _ =>
      some (-1)
    | .inr z =>
      some z
set_option maxHeartbeats 4000000 in
set_option maxRecDepth 100000 in
theorem c_slices_IndexFunc___api_Stitch_api_Stitch__s0 (E : Nat → Prop) (w0 : World) (p0 : (List api_Stitch)) (v0 : Value) (r : Int) (h : F_slices_IndexFunc___api_Stitch_api_Stitch__s0 p0 = some r) (S : St0 E [] w0 w0 [] [fRep (rL r_api_Stitch) (v0) p0]) :
    Calls Try.prog 74 #[v0, .func (.func 57) #[] #[]] w0 (Ret (X := Unit) E [] w0 (fun _ => .int .i64 r) (fun _ => []) (fun _ => [])) := by
  unfold F_slices_IndexFunc___api_Stitch_api_Stitch__s0 at h
  obtain ⟨ad1, cp2, _, rfl, _⟩ := S.know (i := 0) (e := fRep (rL r_api_Stitch) (v0) p0) rfl
  refine sEnter (args := [.slice ad1 p0.length cp2, .func (.func 57) #[] #[]]) 19 Try.func74 rfl rfl (by simp) S (fun a S => ?_)
  refine sSeq (fun K3 hK3 => ?_)
  refine sRegion ?_
  refine sMove (iv 0) S (wN rfl) (.inr rfl) rfl rfl (lb rfl) fun a S => ?_
  refine leafL (leafT (hK3 _ _ ?_))
  obtain ⟨t4, h, g5⟩ := bindSome h
  refine sCut (fun a w => .inl () = t4 ∧ St [] E [] w0 19 a w [] [] []) ?_ (fun a w hI => ?_)
  rotate_left
  · obtain ⟨rfl, S⟩ := hI
    have h := g5
    clear g5
    try dsimp only at h
    refine sSeq (fun K26 hK26 => ?_)
    refine sRegion ?_
    refine sMove (iv (-1)) S (wN rfl) (.inr rfl) rfl rfl (lb rfl) fun a S => ?_
    refine leafL (leafT (hK26 _ _ ?_))
    obtain rfl := Option.some.inj h
    exact wp_ret (sRet (iv (-1)) S (rsl1 rfl (rvT (t := 4) (v := iv (-1)) S rfl)) ⟨(), rfl, S.mem.sel [] [] (by decide) rfl rfl⟩)
  refine sSeq (fun K6 hK6 => ?_)
  refine sRegion ?_
  refine sMove (.slice ad1 p0.length cp2) S (wN rfl) (.inl rfl) rfl rfl (lb rfl) fun a S => ?_
  refine sLen (ad := ad1) (m := p0.length) (c := cp2) S (wN rfl) rfl Try.underlying78 rfl rfl (lb rfl) fun a S => ?_
  refine sMove (iv 0) S (wN rfl) (.inl rfl) rfl rfl (lb rfl) fun a S => ?_
  refine leafL (leafT (hK6 _ _ ?_))
  refine wp_block ?_
  obtain ⟨t10, hl, g9⟩ := bindSome h
  refine sLoop hl (fun s0 a w => match s0 with | s7 => St [] E [] w0 19 a w [(0, .slice ad1 p0.length cp2), (1, .func (.func 57) #[] #[]), (7, iv (p0.length : Int)), (8, iv s7)] [] [fRep (rL r_api_Stitch) (.slice ad1 p0.length cp2) p0]) (S.fix [] [0] (by decide) rfl rfl rfl) ?_
  clear hl h
  intro s7 a w c0 hI h hu8
  unfold slices_IndexFunc___api_Stitch_api_Stitch__s0_l1 at h
  dsimp only at h hI
  have S := hI
  refine sSeq (fun K11 hK11 => ?_)
  refine sRegion ?_
  refine sBin (.bool (decide (s7 < (p0.length : Int)))) S (wN rfl) rfl rfl rfl (bLt _ _ _ _ .i64 s7 (p0.length : Int)) rfl (lb rfl) fun a S => ?_
  refine leafL (leafT (hK11 _ _ ?_))
  refine sSeq (fun K12 hK12 => ?_)
  rcases iteSome h with ⟨hc13, h⟩ | ⟨hc13, h⟩
  rotate_left
  · refine sCondF S rfl hc13 ?_
    obtain rfl := Option.some.inj h
    obtain rfl := hu8 _ rfl
    have h := g9
    clear g9
    try dsimp only at h
    exact wp_exit (xThen (xThen (xHit (leafT (⟨Option.some.inj h, S.fix [] [] (by decide) rfl rfl rfl⟩)))))
  refine sCondT S rfl hc13 ?_
  refine wp_skip (leafT (hK12 _ _ ?_))
  refine sSeq (fun K14 hK14 => ?_)
  refine wp_block ?_
  refine sSeq (fun K15 hK15 => ?_)
  refine sRegion ?_
  refine sMove (iv s7) S (wN rfl) (.inl rfl) rfl rfl (lb rfl) fun a S => ?_
  refine sMove (iv s7) S (wN rfl) (.inr rfl) rfl rfl (lb rfl) fun a S => ?_
  refine leafL (leafT (hK15 _ _ ?_))
  refine sSeq (fun K16 hK16 => ?_)
  refine sRegion ?_
  refine sMove (.func (.func 57) #[] #[]) S (wN rfl) (.inl rfl) rfl rfl (lb rfl) fun a S => ?_
  refine sMove (.slice ad1 p0.length cp2) S (wN rfl) (.inl rfl) rfl rfl (lb rfl) fun a S => ?_
  refine sMove (iv s7) S (wN rfl) (.inl rfl) rfl rfl (lb rfl) fun a S => ?_
  obtain ⟨x17, hx18, h⟩ := bindSome h
  obtain ⟨q19, hq20, S⟩ := pIdx (P := Try.prog) (r := r_api_Stitch) (v := .slice ad1 p0.length cp2) (xs := p0) (j := s7) 78 82 0 S Try.underlying78 rfl rfl hx18
  refine sIdxV (v := .slice ad1 p0.length cp2) (k := .i64) (j := s7) S (wN rfl) rfl rfl rfl hq20 rfl (lb rfl) fun a S => ?_
  obtain ⟨u21, S⟩ := pLoad (r := r_api_Stitch) (q := q19) (x := x17) 0 S rfl
  obtain rfl : u21 = .agg #[.int .u8 x17.Kind, .bool x17.Purl, iv x17.A, iv x17.B] := S.mem.know (i := 1) (e := fRep r_api_Stitch (u21) x17) rfl
  refine sLoadVN (vq := q19) 0 [.int .u8 x17.Kind, .bool x17.Purl, iv x17.A, iv x17.B] S (wN rfl) rfl rfl rfl rfl rfl rfl (lb rfl) fun a S => ?_
  obtain ⟨r22, hx23, h⟩ := bindSome h
  have S1 := S.mem
  refine sCallVQ (X := Unit) (g := 57) (vs := [.agg #[.int .u8 x17.Kind, .bool x17.Purl, iv x17.A, iv x17.B]]) (caps := []) (val := fun _ => .bool r22) S (wN rfl) rfl rfl callee57 rfl (S1.quiet [1] rfl) (fun E1 w1 S1 => c_stitch_All_1 E1 w1 x17 (.agg #[.int .u8 x17.Kind, .bool x17.Purl, iv x17.A, iv x17.B]) r22 hx23 S1) rfl (lb rfl) fun _ a w S => ?_
  refine leafL (leafT (hK16 _ _ ?_))
  rcases iteSome h with ⟨hc24, h⟩ | ⟨hc24, h⟩
  rotate_left
  · refine sCondF S rfl hc24 ?_
    refine wp_skip (leafB (leafT (hK14 _ _ ?_)))
    refine sRegion ?_
    refine sBin (iv (w64 (s7 + 1))) S (wN rfl) rfl rfl rfl (bAdd _ _ _ _ s7 1) rfl (lb rfl) fun a S => ?_
    refine sMove (iv (w64 (s7 + 1))) S (wN rfl) (.inl rfl) rfl rfl (lb rfl) fun a S => ?_
    exact leafL (leafT (⟨w64 (s7 + 1), (Option.some.inj h).symm, (S.fix [] [3] (by decide) rfl rfl rfl)⟩))
  refine sCondT S rfl hc24 ?_
  refine sSeq (fun K25 hK25 => ?_)
  refine sRegion ?_
  refine sMove (iv s7) S (wN rfl) (.inl rfl) rfl rfl (lb rfl) fun a S => ?_
  refine sMove (iv s7) S (wN rfl) (.inr rfl) rfl rfl (lb rfl) fun a S => ?_
  refine leafL (leafT (hK25 _ _ ?_))
  obtain rfl := Option.some.inj h
  obtain rfl := hu8 _ rfl
  have h := g9
  clear g9
  try dsimp only at h
  obtain rfl := Option.some.inj h
  have h := g5
  clear g5
  try dsimp only at h
  obtain rfl := Option.some.inj h
  exact wp_ret (rBlock (rThen (rThen (rBlock (rThen (sRet (iv s7) S (rsl1 rfl (rvT (t := 4) (v := iv s7) S rfl)) ⟨(), rfl, S.mem.sel [] [] (by decide) rfl rfl⟩))))))

end Go.Proofs.Ytmedbnjhgkcndaa
namespace Go.Proofs.Ytmedbnjhgkcndaa
open Go.RowKit
set_option linter.unusedVariables false

noncomputable def F_slices_ContainsFunc___api_Stitch_api_Stitch__s0 (p0 : (List api_Stitch)) : Option Bool :=
  Option.bind (F_slices_IndexFunc___api_Stitch_api_Stitch__s0 p0) fun r5 =>
  some (decide (0 ≤ r5))
set_option maxHeartbeats 4000000 in
set_option maxRecDepth 100000 in
theorem c_slices_ContainsFunc___api_Stitch_api_Stitch__s0 (E : Nat → Prop) (w0 : World) (p0 : (List api_Stitch)) (v0 : Value) (r : Bool) (h : F_slices_ContainsFunc___api_Stitch_api_Stitch__s0 p0 = some r) (S : St0 E [] w0 w0 [] [fRep (rL r_api_Stitch) (v0) p0]) :
    Calls Try.prog 56 #[v0, .func (.func 57) #[] #[]] w0 (Ret (X := Unit) E [] w0 (fun _ => .bool r) (fun _ => []) (fun _ => [])) := by
  unfold F_slices_ContainsFunc___api_Stitch_api_Stitch__s0 at h
  obtain ⟨ad1, cp2, _, rfl, _⟩ := S.know (i := 0) (e := fRep (rL r_api_Stitch) (v0) p0) rfl
  refine sEnter (args := [.slice ad1 p0.length cp2, .func (.func 57) #[] #[]]) 9 Try.func56 rfl rfl (by simp) S (fun a S => ?_)
  refine sSeq (fun K3 hK3 => ?_)
  refine sRegion ?_
  refine sMove (.bool false) S (wN rfl) (.inr rfl) rfl rfl (lb rfl) fun a S => ?_
  refine leafL (leafT (hK3 _ _ ?_))
  refine sSeq (fun K4 hK4 => ?_)
  refine sRegion ?_
  refine sMove (.slice ad1 p0.length cp2) S (wN rfl) (.inl rfl) rfl rfl (lb rfl) fun a S => ?_
  refine sMove (.func (.func 57) #[] #[]) S (wN rfl) (.inl rfl) rfl rfl (lb rfl) fun a S => ?_
  obtain ⟨r5, hx6, h⟩ := bindSome h
  have S1 := S.mem
  refine sCallQ (X := Unit) (f := 74) (vs := [.slice ad1 p0.length cp2, .func (.func 57) #[] #[]]) (val := fun _ => iv r5) S (wN rfl) rfl callee74 rfl (S1.quiet [0] rfl) (fun E1 w1 S1 => c_slices_IndexFunc___api_Stitch_api_Stitch__s0 E1 w1 p0 (.slice ad1 p0.length cp2) r5 hx6 S1) rfl (lb rfl) fun _ a w S => ?_
  refine sBin (.bool (decide (0 ≤ r5))) S (wN rfl) rfl rfl rfl (bGe _ _ _ _ .i64 r5 0) rfl (lb rfl) fun a S => ?_
  refine sMove (.bool (decide (0 ≤ r5))) S (wN rfl) (.inr rfl) rfl rfl (lb rfl) fun a S => ?_
  refine leafL (leafT (hK4 _ _ ?_))
  obtain rfl := Option.some.inj h
  exact wp_ret (sRet (.bool (decide (0 ≤ r5))) S (rsl1 rfl (rvT (t := 4) (v := .bool (decide (0 ≤ r5))) S rfl)) ⟨(), rfl, S.mem.sel [] [] (by decide) rfl rfl⟩)

end Go.Proofs.Ytmedbnjhgkcndaa
namespace Go.Proofs.Ytmedbnjhgkcndaa
open Go.RowKit
set_option linter.unusedVariables false

noncomputable def F_stitch_loops (p0 : api_Stitch) (p1 : Int) : Option Int :=
  Option.bind (idxO ([0, 1, p0.A, w64 (p0.A + p0.B)] : List Int) p1) fun x4 =>
  some x4
set_option maxHeartbeats 4000000 in
set_option maxRecDepth 100000 in
theorem c_stitch_loops (E : Nat → Prop) (w0 : World) (p0 : api_Stitch) (v0 : Value) (p1 : Int) (r : Int) (h : F_stitch_loops p0 p1 = some r) (S : St0 E [] w0 w0 [] [fRep r_api_Stitch (v0) p0]) :
    Calls Try.prog 76 #[v0, iv p1] w0 (Ret (X := Unit) E [] w0 (fun _ => .int .i64 r) (fun _ => []) (fun _ => [])) := by
  unfold F_stitch_loops at h
  obtain rfl : v0 = .agg #[.int .u8 p0.Kind, .bool p0.Purl, iv p0.A, iv p0.B] := S.know (i := 0) (e := fRep r_api_Stitch (v0) p0) rfl
  refine sEnter (args := [.agg #[.int .u8 p0.Kind, .bool p0.Purl, iv p0.A, iv p0.B], iv p1]) 15 Try.func76 rfl rfl (by simp) S (fun a S => ?_)
  refine sSeq (fun K1 hK1 => ?_)
  refine sRegion ?_
  refine sBox (v := .agg #[.int .u8 p0.Kind, .bool p0.Purl, iv p0.A, iv p0.B]) S (wN rfl) rfl rfl [.int .u8 p0.Kind, .bool p0.Purl, iv p0.A, iv p0.B] rfl rfl (lb rfl) fun a b2 w S => ?_
  refine sMove (iv 0) S (wN rfl) (.inr rfl) rfl rfl (lb rfl) fun a S => ?_
  refine leafL (leafT (hK1 _ _ ?_))
  refine sSeq (fun K3 hK3 => ?_)
  refine sRegion ?_
  refine sField (b := b2) (off := 0) 2 2 S (wN rfl) rfl rfl rfl rfl rfl (lb rfl) fun a S => ?_
  refine sLoad1 (p := b2) (off := 2) (T := 82) (vs := [.int .u8 p0.Kind, .bool p0.Purl, iv p0.A, iv p0.B]) 0 (iv p0.A) S (wN rfl) rfl rfl rfl rfl rfl rfl (lb rfl) fun a S => ?_
  refine sField (b := b2) (off := 0) 2 2 S (wN rfl) rfl rfl rfl rfl rfl (lb rfl) fun a S => ?_
  refine sLoad1 (p := b2) (off := 2) (T := 82) (vs := [.int .u8 p0.Kind, .bool p0.Purl, iv p0.A, iv p0.B]) 0 (iv p0.A) S (wN rfl) rfl rfl rfl rfl rfl rfl (lb rfl) fun a S => ?_
  refine sField (b := b2) (off := 0) 3 3 S (wN rfl) rfl rfl rfl rfl rfl (lb rfl) fun a S => ?_
  refine sLoad1 (p := b2) (off := 3) (T := 82) (vs := [.int .u8 p0.Kind, .bool p0.Purl, iv p0.A, iv p0.B]) 0 (iv p0.B) S (wN rfl) rfl rfl rfl rfl rfl rfl (lb rfl) fun a S => ?_
  refine sBin (iv (w64 (p0.A + p0.B))) S (wN rfl) rfl rfl rfl (bAdd _ _ _ _ p0.A p0.B) rfl (lb rfl) fun a S => ?_
  refine sBuild [(0, iv 0), (1, iv 1), (2, iv p0.A), (3, iv (w64 (p0.A + p0.B)))] [iv 0, iv 1, iv p0.A, iv (w64 (p0.A + p0.B))] S (wN rfl) rfl rfl rfl rfl (lb rfl) fun a S => ?_
  refine sMove (iv p1) S (wN rfl) (.inl rfl) rfl rfl (lb rfl) fun a S => ?_
  obtain ⟨x4, hx5, h⟩ := bindSome h
  refine sIndexA (g := fun z => .int .i64 z) (xs := ([0, 1, p0.A, w64 (p0.A + p0.B)] : List Int)) (j := p1) (k := .i64) 4 [iv 0, iv 1, iv p0.A, iv (w64 (p0.A + p0.B))] S (wN rfl) rfl Try.underlying138 rfl rfl rfl rfl rfl rfl hx5 rfl (lb rfl) fun a S => ?_
  refine sMove (iv x4) S (wN rfl) (.inr rfl) rfl rfl (lb rfl) fun a S => ?_
  refine leafL (leafT (hK3 _ _ ?_))
  obtain rfl := Option.some.inj h
  exact wp_ret (sRet (iv x4) S (rsl1 rfl (rvT (t := 4) (v := iv x4) S rfl)) ⟨(), rfl, S.mem.sel [] [] (by decide) rfl rfl⟩)

end Go.Proofs.Ytmedbnjhgkcndaa
namespace Go.Proofs.Ytmedbnjhgkcndaa
open Go.RowKit
set_option linter.unusedVariables false

noncomputable def stitch_sum_l1 (p0 : (List api_Stitch)) : (Int × Int × Int) → Option ((Int × Int × Int) ⊕ (Int × Int)) := fun s0 => match s0 with
  | (s9, s10, s11) =>
    if decide (s11 < (p0.length : Int)) then
      Option.bind (idxO p0 s11) fun x22 =>
      Option.bind (F_stitch_forms x22.Kind) fun r29 =>
      Option.bind (F_stitch_loops x22 r29.1.uses) fun r34 =>
      Option.bind (F_stitch_loops x22 r29.1.made) fun r36 =>
      some (.inl (w64 (s9 + r34), w64 (s10 + r36), w64 (s11 + 1)))
    else
      some (.inr (s9, s10))
noncomputable def F_stitch_sum (p0 : (List api_Stitch)) : Option (Int × Int) :=
  Option.bind (α := (Int × Int)) (
    Option.bind (whileO (stitch_sum_l1 p0) (0, 0, 0)) fun (e15, e16) =>
      some (e15, e16)) fun (o4, o5) =>
  some (o4, o5)
set_option maxHeartbeats 4000000 in
set_option maxRecDepth 100000 in
theorem c_stitch_sum (E : Nat → Prop) (w0 : World) (p0 : (List api_Stitch)) (v0 : Value) (r : (Int × Int)) (h : F_stitch_sum p0 = some r) (S : St0 E [] w0 w0 [] [fRep (rL r_api_Stitch) (v0) p0]) :
    Calls Try.prog 59 #[v0] w0 (Ret (X := Unit) E [] w0 (fun _ => .tuple #[.int .i64 r.1, .int .i64 r.2]) (fun _ => []) (fun _ => [])) := by
  unfold F_stitch_sum at h
  obtain ⟨ad1, cp2, _, rfl, _⟩ := S.know (i := 0) (e := fRep (rL r_api_Stitch) (v0) p0) rfl
  refine sEnter (args := [.slice ad1 p0.length cp2]) 35 Try.func59 rfl rfl (by simp) S (fun a S => ?_)
  refine sSeq (fun K3 hK3 => ?_)
  refine sRegion ?_
  refine sMove (iv 0) S (wN rfl) (.inr rfl) rfl rfl (lb rfl) fun a S => ?_
  refine sMove (iv 0) S (wN rfl) (.inr rfl) rfl rfl (lb rfl) fun a S => ?_
  refine leafL (leafT (hK3 _ _ ?_))
  obtain ⟨t6, h, g7⟩ := bindSome h
  refine sCut (fun a w => ∃ o4, ∃ o5, (o4, o5) = t6 ∧ St [] E [] w0 35 a w [(2, iv o4), (3, iv o5)] [] []) ?_ (fun a w hI => ?_)
  rotate_left
  · obtain ⟨o4, o5, rfl, S⟩ := hI
    have h := g7
    clear g7
    try dsimp only at h
    refine sSeq (fun K38 hK38 => ?_)
    refine sRegion ?_
    refine sMove (iv o4) S (wN rfl) (.inl rfl) rfl rfl (lb rfl) fun a S => ?_
    refine sMove (iv o5) S (wN rfl) (.inl rfl) rfl rfl (lb rfl) fun a S => ?_
    refine sMove (iv o4) S (wN rfl) (.inr rfl) rfl rfl (lb rfl) fun a S => ?_
    refine sMove (iv o5) S (wN rfl) (.inr rfl) rfl rfl (lb rfl) fun a S => ?_
    refine leafL (leafT (hK38 _ _ ?_))
    obtain rfl := Option.some.inj h
    exact wp_ret (sRet (.tuple #[iv o4, iv o5]) S (rsl2 rfl (rvT (t := 2) (v := iv o4) S rfl) (rvT (t := 3) (v := iv o5) S rfl)) ⟨(), rfl, S.mem.sel [] [] (by decide) rfl rfl⟩)
  refine sSeq (fun K8 hK8 => ?_)
  refine sRegion ?_
  refine sMove (.slice ad1 p0.length cp2) S (wN rfl) (.inl rfl) rfl rfl (lb rfl) fun a S => ?_
  refine sLen (ad := ad1) (m := p0.length) (c := cp2) S (wN rfl) rfl Try.underlying78 rfl rfl (lb rfl) fun a S => ?_
  refine sMove (iv 0) S (wN rfl) (.inl rfl) rfl rfl (lb rfl) fun a S => ?_
  refine leafL (leafT (hK8 _ _ ?_))
  refine wp_block ?_
  obtain ⟨t14, hl, g13⟩ := bindSome h
  refine sLoop hl (fun s0 a w => match s0 with | (s9, s10, s11) => St [] E [] w0 35 a w [(2, iv s9), (3, iv s10), (8, .slice ad1 p0.length cp2), (9, iv (p0.length : Int)), (10, iv s11)] [] [fRep (rL r_api_Stitch) (.slice ad1 p0.length cp2) p0]) (S.fix [] [0] (by decide) rfl rfl rfl) ?_
  clear hl h
  intro s0 a w c0 hI h hu12
  obtain ⟨s9, s10, s11⟩ := s0
  unfold stitch_sum_l1 at h
  dsimp only at h hI
  have S := hI
  refine sSeq (fun K17 hK17 => ?_)
  refine sRegion ?_
  refine sBin (.bool (decide (s11 < (p0.length : Int)))) S (wN rfl) rfl rfl rfl (bLt _ _ _ _ .i64 s11 (p0.length : Int)) rfl (lb rfl) fun a S => ?_
  refine leafL (leafT (hK17 _ _ ?_))
  refine sSeq (fun K18 hK18 => ?_)
  rcases iteSome h with ⟨hc19, h⟩ | ⟨hc19, h⟩
  rotate_left
  · refine sCondF S rfl hc19 ?_
    obtain rfl := Option.some.inj h
    obtain rfl := hu12 _ rfl
    have h := g13
    clear g13
    try dsimp only at h
    exact wp_exit (xThen (xThen (xHit (leafT (⟨s9, s10, Option.some.inj h, S.fix [] [] (by decide) rfl rfl rfl⟩)))))
  refine sCondT S rfl hc19 ?_
  refine wp_skip (leafT (hK18 _ _ ?_))
  refine sSeq (fun K20 hK20 => ?_)
  refine wp_block ?_
  refine sSeq (fun K21 hK21 => ?_)
  refine sRegion ?_
  obtain ⟨x22, hx23, h⟩ := bindSome h
  obtain ⟨q24, hq25, S⟩ := pIdx (P := Try.prog) (r := r_api_Stitch) (v := .slice ad1 p0.length cp2) (xs := p0) (j := s11) 78 82 0 S Try.underlying78 rfl rfl hx23
  refine sIdxV (v := .slice ad1 p0.length cp2) (k := .i64) (j := s11) S (wN rfl) rfl rfl rfl hq25 rfl (lb rfl) fun a S => ?_
  obtain ⟨u26, S⟩ := pLoad (r := r_api_Stitch) (q := q24) (x := x22) 0 S rfl
  obtain rfl : u26 = .agg #[.int .u8 x22.Kind, .bool x22.Purl, iv x22.A, iv x22.B] := S.mem.know (i := 1) (e := fRep r_api_Stitch (u26) x22) rfl
  refine sLoadVN (vq := q24) 0 [.int .u8 x22.Kind, .bool x22.Purl, iv x22.A, iv x22.B] S (wN rfl) rfl rfl rfl rfl rfl rfl (lb rfl) fun a S => ?_
  refine sAlloc (.agg #[.int .u8 0, .bool false, iv 0, iv 0]) S (wN rfl) rfl rfl [.int .u8 0, .bool false, iv 0, iv 0] rfl rfl (lb rfl) fun a b27 w S => ?_
  refine sStore (p := b27) (off := 0) (T := 82) (vs := [.int .u8 0, .bool false, iv 0, iv 0]) (v := .agg #[.int .u8 x22.Kind, .bool x22.Purl, iv x22.A, iv x22.B]) 0 [.int .u8 x22.Kind, .bool x22.Purl, iv x22.A, iv x22.B] S (wN rfl) rfl rfl rfl rfl rfl rfl rfl (by simp) rfl fun a w S => ?_
  refine leafL (leafT (hK21 _ _ ?_))
  refine sSeq (fun K28 hK28 => ?_)
  refine sRegion ?_
  refine sField (b := b27) (off := 0) 0 0 S (wN rfl) rfl rfl rfl rfl rfl (lb rfl) fun a S => ?_
  refine sLoad1 (p := b27) (off := 0) (T := 82) (vs := [.int .u8 x22.Kind, .bool x22.Purl, iv x22.A, iv x22.B]) 0 (.int .u8 x22.Kind) S (wN rfl) rfl rfl rfl rfl rfl rfl (lb rfl) fun a S => ?_
  obtain ⟨r29, hx30, h⟩ := bindSome h
  refine sCall (X := Value) (f := 53) (vs := [.int .u8 x22.Kind]) (val := c_stitch_forms_val r29) (B' := fun _ => []) (D' := c_stitch_forms_D r29) [] [eBox b27 82 [.int .u8 x22.Kind, .bool x22.Purl, iv x22.A, iv x22.B]] [] [0] [] S (wN rfl) rfl callee53 rfl (by decide) rfl rfl (fun E1 w1 S1 => c_stitch_forms E1 w1 x22.Kind r29 hx30 S1) rfl (lb rfl) fun u31 a w S => ?_
  obtain rfl : u31 = gv_stitch_form r29.1 := S.mem.know (i := 0) (e := fRep r_stitch_form (u31) r29.1) rfl
  refine sMove (.tuple #[gv_stitch_form r29.1, .bool r29.2]) S (wN rfl) (.inl rfl) rfl rfl (lb rfl) fun a S => ?_
  refine sExtract (vs := [gv_stitch_form r29.1, .bool r29.2]) (gv_stitch_form r29.1) S (wN rfl) rfl rfl rfl rfl (lb rfl) fun a S => ?_
  refine sExtract (vs := [gv_stitch_form r29.1, .bool r29.2]) (.bool r29.2) S (wN rfl) rfl rfl rfl rfl (lb rfl) fun a S => ?_
  refine sAlloc (gv_stitch_form (stitch_form.mk (⟨#[]⟩ : ByteArray) (0, 0) (0, 0) false 0 0)) S (wN rfl) rfl rfl (gl_stitch_form (stitch_form.mk (⟨#[]⟩ : ByteArray) (0, 0) (0, 0) false 0 0)) rfl rfl (lb rfl) fun a b32 w S => ?_
  refine sStore (p := b32) (off := 0) (T := 109) (vs := [.string (⟨#[]⟩ : ByteArray), iv 0, iv 0, iv 0, iv 0, .bool false, iv 0, iv 0]) (v := gv_stitch_form r29.1) 0 [.string r29.1.letter, iv r29.1.a.1, iv r29.1.a.2, iv r29.1.b.1, iv r29.1.b.2, .bool r29.1.sided, iv r29.1.uses, iv r29.1.made] S (wN rfl) rfl rfl rfl rfl rfl rfl rfl (by simp) rfl fun a w S => ?_
  refine sMove (.bool r29.2) S (wN rfl) (.inr rfl) rfl rfl (lb rfl) fun a S => ?_
  refine leafL (leafT (hK28 _ _ ?_))
  refine sSeq (fun K33 hK33 => ?_)
  refine sRegion ?_
  refine sMove (iv s9) S (wN rfl) (.inl rfl) rfl rfl (lb rfl) fun a S => ?_
  refine sLoadN (p := b27) (off := 0) (T := 82) (vs := [.int .u8 x22.Kind, .bool x22.Purl, iv x22.A, iv x22.B]) 1 [.int .u8 x22.Kind, .bool x22.Purl, iv x22.A, iv x22.B] S (wN rfl) rfl rfl rfl rfl rfl rfl rfl (lb rfl) fun a S => ?_
  refine sField (b := b32) (off := 0) 6 6 S (wN rfl) rfl rfl rfl rfl rfl (lb rfl) fun a S => ?_
  refine sLoad1 (p := b32) (off := 6) (T := 109) (vs := (gl_stitch_form r29.1)) 0 (iv r29.1.uses) S (wN rfl) rfl rfl rfl rfl rfl rfl (lb rfl) fun a S => ?_
  obtain ⟨r34, hx35, h⟩ := bindSome h
  have S1 := S.mem
  refine sCallQ (X := Unit) (f := 76) (vs := [.agg #[.int .u8 x22.Kind, .bool x22.Purl, iv x22.A, iv x22.B], iv r29.1.uses]) (val := fun _ => iv r34) S (wN rfl) rfl callee76 rfl (S1.quiet [2] rfl) (fun E1 w1 S1 => c_stitch_loops E1 w1 x22 (.agg #[.int .u8 x22.Kind, .bool x22.Purl, iv x22.A, iv x22.B]) r29.1.uses r34 hx35 S1) rfl (lb rfl) fun _ a w S => ?_
  refine sBin (iv (w64 (s9 + r34))) S (wN rfl) rfl rfl rfl (bAdd _ _ _ _ s9 r34) rfl (lb rfl) fun a S => ?_
  refine sMove (iv (w64 (s9 + r34))) S (wN rfl) (.inr rfl) rfl rfl (lb rfl) fun a S => ?_
  refine leafL (leafT (hK33 _ _ ?_))
  refine sRegion ?_
  refine sMove (iv s10) S (wN rfl) (.inl rfl) rfl rfl (lb rfl) fun a S => ?_
  refine sLoadN (p := b27) (off := 0) (T := 82) (vs := [.int .u8 x22.Kind, .bool x22.Purl, iv x22.A, iv x22.B]) 1 [.int .u8 x22.Kind, .bool x22.Purl, iv x22.A, iv x22.B] S (wN rfl) rfl rfl rfl rfl rfl rfl rfl (lb rfl) fun a S => ?_
  refine sField (b := b32) (off := 0) 7 7 S (wN rfl) rfl rfl rfl rfl rfl (lb rfl) fun a S => ?_
  refine sLoad1 (p := b32) (off := 7) (T := 109) (vs := (gl_stitch_form r29.1)) 0 (iv r29.1.made) S (wN rfl) rfl rfl rfl rfl rfl rfl (lb rfl) fun a S => ?_
  obtain ⟨r36, hx37, h⟩ := bindSome h
  have S1 := S.mem
  refine sCallQ (X := Unit) (f := 76) (vs := [.agg #[.int .u8 x22.Kind, .bool x22.Purl, iv x22.A, iv x22.B], iv r29.1.made]) (val := fun _ => iv r36) S (wN rfl) rfl callee76 rfl (S1.quiet [2] rfl) (fun E1 w1 S1 => c_stitch_loops E1 w1 x22 (.agg #[.int .u8 x22.Kind, .bool x22.Purl, iv x22.A, iv x22.B]) r29.1.made r36 hx37 S1) rfl (lb rfl) fun _ a w S => ?_
  refine sBin (iv (w64 (s10 + r36))) S (wN rfl) rfl rfl rfl (bAdd _ _ _ _ s10 r36) rfl (lb rfl) fun a S => ?_
  refine sMove (iv (w64 (s10 + r36))) S (wN rfl) (.inr rfl) rfl rfl (lb rfl) fun a S => ?_
  refine leafL (leafB (leafT (hK20 _ _ ?_)))
  refine sRegion ?_
  refine sBin (iv (w64 (s11 + 1))) S (wN rfl) rfl rfl rfl (bAdd _ _ _ _ s11 1) rfl (lb rfl) fun a S => ?_
  refine sMove (iv (w64 (s11 + 1))) S (wN rfl) (.inl rfl) rfl rfl (lb rfl) fun a S => ?_
  exact leafL (leafT (⟨(w64 (s9 + r34), w64 (s10 + r36), w64 (s11 + 1)), (Option.some.inj h).symm, (S.fix [] [4] (by decide) rfl rfl rfl)⟩))

end Go.Proofs.Ytmedbnjhgkcndaa
namespace Go.Proofs.Ytmedbnjhgkcndaa
open Go.RowKit
set_option linter.unusedVariables false

noncomputable def F_stitch_All (p0 : (List api_Stitch)) : Option Int :=
  if decide (200 < (p0.length : Int)) then
    some 4
  else
    Option.bind (F_slices_ContainsFunc___api_Stitch_api_Stitch__s0 p0) fun r10 =>
    if r10 then
      some 8
    else
      Option.bind (F_stitch_sum p0) fun r16 =>
      if decide (200 < (if r16.1 < r16.2 then r16.2 else r16.1)) then
        some 4
      else
        some 0
set_option maxHeartbeats 4000000 in
set_option maxRecDepth 100000 in
theorem c_stitch_All (E : Nat → Prop) (w0 : World) (p0 : (List api_Stitch)) (v0 : Value) (r : Int) (h : F_stitch_All p0 = some r) (S : St0 E [] w0 w0 [] [fRep (rL r_api_Stitch) (v0) p0]) :
    Calls Try.prog 39 #[v0] w0 (Ret (X := Unit) E [] w0 (fun _ => .int .i64 r) (fun _ => []) (fun _ => [])) := by
  unfold F_stitch_All at h
  obtain ⟨ad1, cp2, _, rfl, _⟩ := S.know (i := 0) (e := fRep (rL r_api_Stitch) (v0) p0) rfl
  refine sEnter (args := [.slice ad1 p0.length cp2]) 19 Try.func39 rfl rfl (by simp) S (fun a S => ?_)
  refine sSeq (fun K3 hK3 => ?_)
  refine sRegion ?_
  refine sMove (iv 0) S (wN rfl) (.inr rfl) rfl rfl (lb rfl) fun a S => ?_
  refine leafL (leafT (hK3 _ _ ?_))
  refine sSeq (fun K4 hK4 => ?_)
  refine sSeq (fun K5 hK5 => ?_)
  refine sRegion ?_
  refine sMove (.slice ad1 p0.length cp2) S (wN rfl) (.inl rfl) rfl rfl (lb rfl) fun a S => ?_
  refine sLen (ad := ad1) (m := p0.length) (c := cp2) S (wN rfl) rfl Try.underlying78 rfl rfl (lb rfl) fun a S => ?_
  refine sBin (.bool (decide (200 < (p0.length : Int)))) S (wN rfl) rfl rfl rfl (bGt _ _ _ _ .i64 (p0.length : Int) 200) rfl (lb rfl) fun a S => ?_
  refine leafL (leafT (hK5 _ _ ?_))
  rcases iteSome h with ⟨hc6, h⟩ | ⟨hc6, h⟩
  · refine sCondT S rfl hc6 ?_
    refine sSeq (fun K7 hK7 => ?_)
    refine sRegion ?_
    refine sMove (iv 4) S (wN rfl) (.inr rfl) rfl rfl (lb rfl) fun a S => ?_
    refine leafL (leafT (hK7 _ _ ?_))
    obtain rfl := Option.some.inj h
    exact wp_ret (rThen (sRet (iv 4) S (rsl1 rfl (rvT (t := 2) (v := iv 4) S rfl)) ⟨(), rfl, S.mem.sel [] [] (by decide) rfl rfl⟩))
  refine sCondF S rfl hc6 ?_
  refine wp_skip (leafT (hK4 _ _ ?_))
  refine sSeq (fun K8 hK8 => ?_)
  refine sSeq (fun K9 hK9 => ?_)
  refine sRegion ?_
  refine sMove (.slice ad1 p0.length cp2) S (wN rfl) (.inl rfl) rfl rfl (lb rfl) fun a S => ?_
  obtain ⟨r10, hx11, h⟩ := bindSome h
  have S1 := S.mem
  refine sCallQ (X := Unit) (f := 56) (vs := [.slice ad1 p0.length cp2, .func (.func 57) #[] #[]]) (val := fun _ => .bool r10) S (wN rfl) rfl callee56 rfl (S1.quiet [0] rfl) (fun E1 w1 S1 => c_slices_ContainsFunc___api_Stitch_api_Stitch__s0 E1 w1 p0 (.slice ad1 p0.length cp2) r10 hx11 S1) rfl (lb rfl) fun _ a w S => ?_
  refine leafL (leafT (hK9 _ _ ?_))
  rcases iteSome h with ⟨hc12, h⟩ | ⟨hc12, h⟩
  · refine sCondT S rfl hc12 ?_
    refine sSeq (fun K13 hK13 => ?_)
    refine sRegion ?_
    refine sMove (iv 8) S (wN rfl) (.inr rfl) rfl rfl (lb rfl) fun a S => ?_
    refine leafL (leafT (hK13 _ _ ?_))
    obtain rfl := Option.some.inj h
    exact wp_ret (rThen (sRet (iv 8) S (rsl1 rfl (rvT (t := 2) (v := iv 8) S rfl)) ⟨(), rfl, S.mem.sel [] [] (by decide) rfl rfl⟩))
  refine sCondF S rfl hc12 ?_
  refine wp_skip (leafT (hK8 _ _ ?_))
  refine sSeq (fun K14 hK14 => ?_)
  refine sSeq (fun K15 hK15 => ?_)
  refine sRegion ?_
  refine sMove (.slice ad1 p0.length cp2) S (wN rfl) (.inl rfl) rfl rfl (lb rfl) fun a S => ?_
  obtain ⟨r16, hx17, h⟩ := bindSome h
  have S1 := S.mem
  refine sCallQ (X := Unit) (f := 59) (vs := [.slice ad1 p0.length cp2]) (val := fun _ => .tuple #[iv r16.1, iv r16.2]) S (wN rfl) rfl callee59 rfl (S1.quiet [0] rfl) (fun E1 w1 S1 => c_stitch_sum E1 w1 p0 (.slice ad1 p0.length cp2) r16 hx17 S1) rfl (lb rfl) fun _ a w S => ?_
  refine sMove (.tuple #[iv r16.1, iv r16.2]) S (wN rfl) (.inl rfl) rfl rfl (lb rfl) fun a S => ?_
  refine sExtract (vs := [iv r16.1, iv r16.2]) (iv r16.1) S (wN rfl) rfl rfl rfl rfl (lb rfl) fun a S => ?_
  refine sExtract (vs := [iv r16.1, iv r16.2]) (iv r16.2) S (wN rfl) rfl rfl rfl rfl (lb rfl) fun a S => ?_
  refine sMove (iv r16.1) S (wN rfl) (.inr rfl) rfl rfl (lb rfl) fun a S => ?_
  refine sMove (iv r16.2) S (wN rfl) (.inr rfl) rfl rfl (lb rfl) fun a S => ?_
  refine leafL (leafT (hK15 _ _ ?_))
  refine sSeq (fun K18 hK18 => ?_)
  refine sRegion ?_
  refine sMove (iv r16.1) S (wN rfl) (.inl rfl) rfl rfl (lb rfl) fun a S => ?_
  refine sMove (iv r16.2) S (wN rfl) (.inl rfl) rfl rfl (lb rfl) fun a S => ?_
  refine sMax2 (p := r16.1) (q := r16.2) S (wN rfl) rfl rfl rfl rfl (lb rfl) fun a S => ?_
  refine sBin (.bool (decide (200 < (if r16.1 < r16.2 then r16.2 else r16.1)))) S (wN rfl) rfl rfl rfl (bGt _ _ _ _ .i64 (if r16.1 < r16.2 then r16.2 else r16.1) 200) rfl (lb rfl) fun a S => ?_
  refine leafL (leafT (hK18 _ _ ?_))
  rcases iteSome h with ⟨hc19, h⟩ | ⟨hc19, h⟩
  · refine sCondT S rfl hc19 ?_
    refine sSeq (fun K20 hK20 => ?_)
    refine sRegion ?_
    refine sMove (iv 4) S (wN rfl) (.inr rfl) rfl rfl (lb rfl) fun a S => ?_
    refine leafL (leafT (hK20 _ _ ?_))
    obtain rfl := Option.some.inj h
    exact wp_ret (rThen (sRet (iv 4) S (rsl1 rfl (rvT (t := 2) (v := iv 4) S rfl)) ⟨(), rfl, S.mem.sel [] [] (by decide) rfl rfl⟩))
  refine sCondF S rfl hc19 ?_
  refine wp_skip (leafT (hK14 _ _ ?_))
  refine sSeq (fun K21 hK21 => ?_)
  refine sRegion ?_
  refine sMove (iv 0) S (wN rfl) (.inr rfl) rfl rfl (lb rfl) fun a S => ?_
  refine leafL (leafT (hK21 _ _ ?_))
  obtain rfl := Option.some.inj h
  exact wp_ret (sRet (iv 0) S (rsl1 rfl (rvT (t := 2) (v := iv 0) S rfl)) ⟨(), rfl, S.mem.sel [] [] (by decide) rfl rfl⟩)

end Go.Proofs.Ytmedbnjhgkcndaa
namespace Go.Proofs.Ytmedbnjhgkcndaa
open Go.RowKit
set_option linter.unusedVariables false

noncomputable def F_raddleref25_Check (p0 : api_Stitch) : Option Int :=
  Option.bind (α := Bool) (
    if p0.A == 0 then
      some (p0.B == 0)
    else
      some false) fun o3 =>
  Option.bind (α := Bool) (
    Option.bind (α := Bool) (
      if p0.Kind == 1 then
        some (p0.Kind == 1)
      else
        some (p0.Kind == 8)) fun o12 =>
    if o12 then
      some o3
    else
      if p0.Kind == 2 then
        if o3 then
          some (!p0.Purl)
        else
          some false
      else
        Option.bind (α := Bool) (
          if p0.Kind == 3 then
            some (p0.Kind == 3)
          else
            if p0.Kind == 4 then
              some (p0.Kind == 4)
            else
              some (p0.Kind == 5)) fun o21 =>
        if o21 then
          if p0.B == 0 then
            if decide (2 ≤ p0.A) then
              some (decide (p0.A ≤ 4))
            else
              some false
          else
            some false
        else
          Option.bind (α := Bool) (
            if p0.Kind == 6 then
              some (p0.Kind == 6)
            else
              some (p0.Kind == 7)) fun o31 =>
          if o31 then
            if decide (1 ≤ p0.A) then
              if decide (p0.A ≤ 6) then
                if decide (1 ≤ p0.B) then
                  some (decide (p0.B ≤ 6))
                else
                  some false
              else
                some false
            else
              some false
          else
            if p0.Kind == 9 then
              if p0.B == 0 then
                if !p0.Purl then
                  if decide (1 ≤ p0.A) then
                    some (decide (p0.A ≤ 200))
                  else
                    some false
                else
                  some false
              else
                some false
            else
              if p0.Kind == 10 then
                if p0.B == 0 then
                  if decide (1 ≤ p0.A) then
                    some (decide (p0.A ≤ 200))
                  else
                    some false
                else
                  some false
              else
                some false) fun o8 =>
  if !o8 then
    some 8
  else
    some 0
set_option maxHeartbeats 4000000 in
set_option maxRecDepth 100000 in
theorem c_raddleref25_Check (E : Nat → Prop) (w0 : World) (p0 : api_Stitch) (v0 : Value) (r : Int) (h : F_raddleref25_Check p0 = some r) (S : St0 E [] w0 w0 [] [fRep r_api_Stitch (v0) p0]) :
    Calls Try.prog 61 #[v0] w0 (Ret (X := Unit) E [] w0 (fun _ => .int .i64 r) (fun _ => []) (fun _ => [])) := by
  unfold F_raddleref25_Check at h
  obtain rfl : v0 = .agg #[.int .u8 p0.Kind, .bool p0.Purl, iv p0.A, iv p0.B] := S.know (i := 0) (e := fRep r_api_Stitch (v0) p0) rfl
  refine sEnter (args := [.agg #[.int .u8 p0.Kind, .bool p0.Purl, iv p0.A, iv p0.B]]) 102 Try.func61 rfl rfl (by simp) S (fun a S => ?_)
  refine sSeq (fun K1 hK1 => ?_)
  refine sRegion ?_
  refine sBox (v := .agg #[.int .u8 p0.Kind, .bool p0.Purl, iv p0.A, iv p0.B]) S (wN rfl) rfl rfl [.int .u8 p0.Kind, .bool p0.Purl, iv p0.A, iv p0.B] rfl rfl (lb rfl) fun a b2 w S => ?_
  refine sMove (iv 0) S (wN rfl) (.inr rfl) rfl rfl (lb rfl) fun a S => ?_
  refine leafL (leafT (hK1 _ _ ?_))
  obtain ⟨t4, h, g5⟩ := bindSome h
  refine sCut (fun a w => ∃ o3, o3 = t4 ∧ St [] E [] w0 102 a w [(1, .pointer (some ⟨b2, 0, none⟩)), (3, .bool o3)] [eBox b2 82 [.int .u8 p0.Kind, .bool p0.Purl, iv p0.A, iv p0.B]] []) ?_ (fun a w hI => ?_)
  · refine sRegion ?_
    refine sField (b := b2) (off := 0) 2 2 S (wN rfl) rfl rfl rfl rfl rfl (lb rfl) fun a S => ?_
    refine sLoad1 (p := b2) (off := 2) (T := 82) (vs := [.int .u8 p0.Kind, .bool p0.Purl, iv p0.A, iv p0.B]) 0 (iv p0.A) S (wN rfl) rfl rfl rfl rfl rfl rfl (lb rfl) fun a S => ?_
    refine sBin (.bool (p0.A == 0)) S (wN rfl) rfl rfl rfl (bEq _ _ _ _ .i64 p0.A 0) rfl (lb rfl) fun a S => ?_
    refine sMove (.bool (p0.A == 0)) S (wN rfl) (.inl rfl) rfl rfl (lb rfl) fun a S => ?_
    rcases iteSome h with ⟨hc6, h⟩ | ⟨hc6, h⟩
    rotate_left
    · refine sSkip 3 true 8 9 S rfl rfl rfl hc6 rfl (lb rfl) fun a S => ?_
      refine sSkip 3 true 8 10 S rfl rfl rfl hc6 rfl (lb rfl) fun a S => ?_
      refine sSkip 3 true 8 11 S rfl rfl rfl hc6 rfl (lb rfl) fun a S => ?_
      refine sPickF (.bool false) S (wN rfl) rfl rfl hc6 rfl rfl (lb rfl) fun a S => ?_
      refine sMove (.bool false) S (wN rfl) (.inr rfl) rfl rfl (lb rfl) fun a S => ?_
      exact leafL (leafT (⟨false, Option.some.inj h, S.fix [0] [] (by decide) rfl rfl rfl⟩))
    refine sField (b := b2) (off := 0) 3 3 S (wG 3 true 8 rfl rfl rfl hc6) rfl rfl rfl rfl rfl (lb rfl) fun a S => ?_
    refine sLoad1 (p := b2) (off := 3) (T := 82) (vs := [.int .u8 p0.Kind, .bool p0.Purl, iv p0.A, iv p0.B]) 0 (iv p0.B) S (wG 3 true 8 rfl rfl rfl hc6) rfl rfl rfl rfl rfl rfl (lb rfl) fun a S => ?_
    refine sBin (.bool (p0.B == 0)) S (wG 3 true 8 rfl rfl rfl hc6) rfl rfl rfl (bEq _ _ _ _ .i64 p0.B 0) rfl (lb rfl) fun a S => ?_
    refine sPickT (.bool (p0.B == 0)) S (wN rfl) rfl rfl hc6 rfl rfl (lb rfl) fun a S => ?_
    refine sMove (.bool (p0.B == 0)) S (wN rfl) (.inr rfl) rfl rfl (lb rfl) fun a S => ?_
    exact leafL (leafT (⟨p0.B == 0, Option.some.inj h, S.fix [0] [] (by decide) rfl rfl rfl⟩))
  obtain ⟨o3, rfl, S⟩ := hI
  have h := g5
  clear g5
  try dsimp only at h
  refine sSeq (fun K7 hK7 => ?_)
  refine sRegion ?_
  refine sMove (.bool false) S (wN rfl) (.inr rfl) rfl rfl (lb rfl) fun a S => ?_
  refine leafL (leafT (hK7 _ _ ?_))
  obtain ⟨t9, h, g10⟩ := bindSome h
  refine sCut (fun a w => ∃ o8, o8 = t9 ∧ St [] E [] w0 102 a w [(4, .bool o8)] [] []) ?_ (fun a w hI => ?_)
  rotate_left
  · obtain ⟨o8, rfl, S⟩ := hI
    have h := g10
    clear g10
    try dsimp only at h
    refine sSeq (fun K49 hK49 => ?_)
    refine sSeq (fun K50 hK50 => ?_)
    refine sRegion ?_
    refine sMove (.bool o8) S (wN rfl) (.inl rfl) rfl rfl (lb rfl) fun a S => ?_
    refine sNot (b := o8) S (wN rfl) rfl rfl rfl (lb rfl) fun a S => ?_
    refine leafL (leafT (hK50 _ _ ?_))
    rcases iteSome h with ⟨hc51, h⟩ | ⟨hc51, h⟩
    · refine sCondT S rfl hc51 ?_
      refine sSeq (fun K52 hK52 => ?_)
      refine sRegion ?_
      refine sMove (iv 8) S (wN rfl) (.inr rfl) rfl rfl (lb rfl) fun a S => ?_
      refine leafL (leafT (hK52 _ _ ?_))
      obtain rfl := Option.some.inj h
      exact wp_ret (rThen (sRet (iv 8) S (rsl1 rfl (rvT (t := 2) (v := iv 8) S rfl)) ⟨(), rfl, S.mem.sel [] [] (by decide) rfl rfl⟩))
    refine sCondF S rfl hc51 ?_
    refine wp_skip (leafT (hK49 _ _ ?_))
    refine sSeq (fun K53 hK53 => ?_)
    refine sRegion ?_
    refine sMove (iv 0) S (wN rfl) (.inr rfl) rfl rfl (lb rfl) fun a S => ?_
    refine leafL (leafT (hK53 _ _ ?_))
    obtain rfl := Option.some.inj h
    exact wp_ret (sRet (iv 0) S (rsl1 rfl (rvT (t := 2) (v := iv 0) S rfl)) ⟨(), rfl, S.mem.sel [] [] (by decide) rfl rfl⟩)
  refine sSeq (fun K11 hK11 => ?_)
  refine sRegion ?_
  refine sField (b := b2) (off := 0) 0 0 S (wN rfl) rfl rfl rfl rfl rfl (lb rfl) fun a S => ?_
  refine sLoad1 (p := b2) (off := 0) (T := 82) (vs := [.int .u8 p0.Kind, .bool p0.Purl, iv p0.A, iv p0.B]) 0 (.int .u8 p0.Kind) S (wN rfl) rfl rfl rfl rfl rfl rfl (lb rfl) fun a S => ?_
  refine leafL (leafT (hK11 _ _ ?_))
  refine wp_block ?_
  obtain ⟨t13, h, g14⟩ := bindSome h
  refine sCut (fun a w => ∃ o12, o12 = t13 ∧ St [] E [] w0 102 a w [(1, .pointer (some ⟨b2, 0, none⟩)), (3, .bool o3), (4, .bool false), (14, .int .u8 p0.Kind), (15, .bool o12)] [eBox b2 82 [.int .u8 p0.Kind, .bool p0.Purl, iv p0.A, iv p0.B]] []) ?_ (fun a w hI => ?_)
  · refine sSeq (fun K15 hK15 => ?_)
    refine sRegion ?_
    refine sBin (.bool (p0.Kind == 1)) S (wN rfl) rfl rfl rfl (bEq _ _ _ _ .u8 p0.Kind 1) rfl (lb rfl) fun a S => ?_
    refine sMove (.bool (p0.Kind == 1)) S (wN rfl) (.inr rfl) rfl rfl (lb rfl) fun a S => ?_
    refine leafL (leafT (hK15 _ _ ?_))
    rcases iteSome h with ⟨hc16, h⟩ | ⟨hc16, h⟩
    · refine sCondT S rfl hc16 ?_
      exact wp_skip (leafT (⟨p0.Kind == 1, Option.some.inj h, S.fix [0] [] (by decide) rfl rfl rfl⟩))
    refine sCondF S rfl hc16 ?_
    refine sRegion ?_
    refine sBin (.bool (p0.Kind == 8)) S (wN rfl) rfl rfl rfl (bEq _ _ _ _ .u8 p0.Kind 8) rfl (lb rfl) fun a S => ?_
    refine sMove (.bool (p0.Kind == 8)) S (wN rfl) (.inr rfl) rfl rfl (lb rfl) fun a S => ?_
    exact leafL (leafT (⟨p0.Kind == 8, Option.some.inj h, S.fix [0] [] (by decide) rfl rfl rfl⟩))
  obtain ⟨o12, rfl, S⟩ := hI
  have h := g14
  clear g14
  try dsimp only at h
  rcases iteSome h with ⟨hc17, h⟩ | ⟨hc17, h⟩
  · refine sCondT S rfl hc17 ?_
    refine sRegion ?_
    refine sMove (.bool o3) S (wN rfl) (.inl rfl) rfl rfl (lb rfl) fun a S => ?_
    refine sMove (.bool o3) S (wN rfl) (.inr rfl) rfl rfl (lb rfl) fun a S => ?_
    exact leafL (leafB (leafT (⟨o3, Option.some.inj h, S.fix [] [] (by decide) rfl rfl rfl⟩)))
  refine sCondF S rfl hc17 ?_
  refine sSeq (fun K18 hK18 => ?_)
  refine sRegion ?_
  refine sBin (.bool (p0.Kind == 2)) S (wN rfl) rfl rfl rfl (bEq _ _ _ _ .u8 p0.Kind 2) rfl (lb rfl) fun a S => ?_
  refine sMove (.bool (p0.Kind == 2)) S (wN rfl) (.inr rfl) rfl rfl (lb rfl) fun a S => ?_
  refine leafL (leafT (hK18 _ _ ?_))
  rcases iteSome h with ⟨hc19, h⟩ | ⟨hc19, h⟩
  · refine sCondT S rfl hc19 ?_
    refine sRegion ?_
    refine sMove (.bool o3) S (wN rfl) (.inl rfl) rfl rfl (lb rfl) fun a S => ?_
    refine sMove (.bool o3) S (wN rfl) (.inl rfl) rfl rfl (lb rfl) fun a S => ?_
    rcases iteSome h with ⟨hc20, h⟩ | ⟨hc20, h⟩
    rotate_left
    · refine sSkip 1 true 22 23 S rfl rfl rfl hc20 rfl (lb rfl) fun a S => ?_
      refine sSkip 1 true 22 24 S rfl rfl rfl hc20 rfl (lb rfl) fun a S => ?_
      refine sSkip 1 true 22 25 S rfl rfl rfl hc20 rfl (lb rfl) fun a S => ?_
      refine sPickF (.bool false) S (wN rfl) rfl rfl hc20 rfl rfl (lb rfl) fun a S => ?_
      refine sMove (.bool false) S (wN rfl) (.inr rfl) rfl rfl (lb rfl) fun a S => ?_
      exact leafL (leafB (leafT (⟨false, Option.some.inj h, S.fix [] [] (by decide) rfl rfl rfl⟩)))
    refine sField (b := b2) (off := 0) 1 1 S (wG 1 true 22 rfl rfl rfl hc20) rfl rfl rfl rfl rfl (lb rfl) fun a S => ?_
    refine sLoad1 (p := b2) (off := 1) (T := 82) (vs := [.int .u8 p0.Kind, .bool p0.Purl, iv p0.A, iv p0.B]) 0 (.bool p0.Purl) S (wG 1 true 22 rfl rfl rfl hc20) rfl rfl rfl rfl rfl rfl (lb rfl) fun a S => ?_
    refine sNot (b := p0.Purl) S (wG 1 true 22 rfl rfl rfl hc20) rfl rfl rfl (lb rfl) fun a S => ?_
    refine sPickT (.bool (!p0.Purl)) S (wN rfl) rfl rfl hc20 rfl rfl (lb rfl) fun a S => ?_
    refine sMove (.bool (!p0.Purl)) S (wN rfl) (.inr rfl) rfl rfl (lb rfl) fun a S => ?_
    exact leafL (leafB (leafT (⟨!p0.Purl, Option.some.inj h, S.fix [] [] (by decide) rfl rfl rfl⟩)))
  refine sCondF S rfl hc19 ?_
  obtain ⟨t22, h, g23⟩ := bindSome h
  refine sCut (fun a w => ∃ o21, o21 = t22 ∧ St [] E [] w0 102 a w [(1, .pointer (some ⟨b2, 0, none⟩)), (4, .bool false), (14, .int .u8 p0.Kind), (27, .bool o21)] [eBox b2 82 [.int .u8 p0.Kind, .bool p0.Purl, iv p0.A, iv p0.B]] []) ?_ (fun a w hI => ?_)
  · refine sSeq (fun K24 hK24 => ?_)
    refine sRegion ?_
    refine sBin (.bool (p0.Kind == 3)) S (wN rfl) rfl rfl rfl (bEq _ _ _ _ .u8 p0.Kind 3) rfl (lb rfl) fun a S => ?_
    refine sMove (.bool (p0.Kind == 3)) S (wN rfl) (.inr rfl) rfl rfl (lb rfl) fun a S => ?_
    refine leafL (leafT (hK24 _ _ ?_))
    rcases iteSome h with ⟨hc25, h⟩ | ⟨hc25, h⟩
    · refine sCondT S rfl hc25 ?_
      exact wp_skip (leafT (⟨p0.Kind == 3, Option.some.inj h, S.fix [0] [] (by decide) rfl rfl rfl⟩))
    refine sCondF S rfl hc25 ?_
    refine sSeq (fun K26 hK26 => ?_)
    refine sRegion ?_
    refine sBin (.bool (p0.Kind == 4)) S (wN rfl) rfl rfl rfl (bEq _ _ _ _ .u8 p0.Kind 4) rfl (lb rfl) fun a S => ?_
    refine sMove (.bool (p0.Kind == 4)) S (wN rfl) (.inr rfl) rfl rfl (lb rfl) fun a S => ?_
    refine leafL (leafT (hK26 _ _ ?_))
    rcases iteSome h with ⟨hc27, h⟩ | ⟨hc27, h⟩
    · refine sCondT S rfl hc27 ?_
      exact wp_skip (leafT (⟨p0.Kind == 4, Option.some.inj h, S.fix [0] [] (by decide) rfl rfl rfl⟩))
    refine sCondF S rfl hc27 ?_
    refine sRegion ?_
    refine sBin (.bool (p0.Kind == 5)) S (wN rfl) rfl rfl rfl (bEq _ _ _ _ .u8 p0.Kind 5) rfl (lb rfl) fun a S => ?_
    refine sMove (.bool (p0.Kind == 5)) S (wN rfl) (.inr rfl) rfl rfl (lb rfl) fun a S => ?_
    exact leafL (leafT (⟨p0.Kind == 5, Option.some.inj h, S.fix [0] [] (by decide) rfl rfl rfl⟩))
  obtain ⟨o21, rfl, S⟩ := hI
  have h := g23
  clear g23
  try dsimp only at h
  rcases iteSome h with ⟨hc28, h⟩ | ⟨hc28, h⟩
  · refine sCondT S rfl hc28 ?_
    refine sRegion ?_
    refine sField (b := b2) (off := 0) 3 3 S (wN rfl) rfl rfl rfl rfl rfl (lb rfl) fun a S => ?_
    refine sLoad1 (p := b2) (off := 3) (T := 82) (vs := [.int .u8 p0.Kind, .bool p0.Purl, iv p0.A, iv p0.B]) 0 (iv p0.B) S (wN rfl) rfl rfl rfl rfl rfl rfl (lb rfl) fun a S => ?_
    refine sBin (.bool (p0.B == 0)) S (wN rfl) rfl rfl rfl (bEq _ _ _ _ .i64 p0.B 0) rfl (lb rfl) fun a S => ?_
    refine sMove (.bool (p0.B == 0)) S (wN rfl) (.inl rfl) rfl rfl (lb rfl) fun a S => ?_
    rcases iteSome h with ⟨hc29, h⟩ | ⟨hc29, h⟩
    rotate_left
    · refine sSkip 3 true 34 35 S rfl rfl rfl hc29 rfl (lb rfl) fun a S => ?_
      refine sSkip 3 true 34 36 S rfl rfl rfl hc29 rfl (lb rfl) fun a S => ?_
      refine sSkip 3 true 34 37 S rfl rfl rfl hc29 rfl (lb rfl) fun a S => ?_
      refine sPickF (.bool false) S (wN rfl) rfl rfl hc29 rfl rfl (lb rfl) fun a S => ?_
      refine sMove (.bool false) S (wN rfl) (.inl rfl) rfl rfl (lb rfl) fun a S => ?_
      refine sSkip 8 true 39 40 S rfl rfl rfl rfl rfl (lb rfl) fun a S => ?_
      refine sSkip 8 true 39 41 S rfl rfl rfl rfl rfl (lb rfl) fun a S => ?_
      refine sSkip 8 true 39 42 S rfl rfl rfl rfl rfl (lb rfl) fun a S => ?_
      refine sPickF (.bool false) S (wN rfl) rfl rfl rfl rfl rfl (lb rfl) fun a S => ?_
      refine sMove (.bool false) S (wN rfl) (.inr rfl) rfl rfl (lb rfl) fun a S => ?_
      exact leafL (leafB (leafT (⟨false, Option.some.inj h, S.fix [] [] (by decide) rfl rfl rfl⟩)))
    refine sField (b := b2) (off := 0) 2 2 S (wG 3 true 34 rfl rfl rfl hc29) rfl rfl rfl rfl rfl (lb rfl) fun a S => ?_
    refine sLoad1 (p := b2) (off := 2) (T := 82) (vs := [.int .u8 p0.Kind, .bool p0.Purl, iv p0.A, iv p0.B]) 0 (iv p0.A) S (wG 3 true 34 rfl rfl rfl hc29) rfl rfl rfl rfl rfl rfl (lb rfl) fun a S => ?_
    refine sBin (.bool (decide (2 ≤ p0.A))) S (wG 3 true 34 rfl rfl rfl hc29) rfl rfl rfl (bGe _ _ _ _ .i64 p0.A 2) rfl (lb rfl) fun a S => ?_
    refine sPickT (.bool (decide (2 ≤ p0.A))) S (wN rfl) rfl rfl hc29 rfl rfl (lb rfl) fun a S => ?_
    refine sMove (.bool (decide (2 ≤ p0.A))) S (wN rfl) (.inl rfl) rfl rfl (lb rfl) fun a S => ?_
    rcases iteSome h with ⟨hc30, h⟩ | ⟨hc30, h⟩
    rotate_left
    · refine sSkip 8 true 39 40 S rfl rfl rfl hc30 rfl (lb rfl) fun a S => ?_
      refine sSkip 8 true 39 41 S rfl rfl rfl hc30 rfl (lb rfl) fun a S => ?_
      refine sSkip 8 true 39 42 S rfl rfl rfl hc30 rfl (lb rfl) fun a S => ?_
      refine sPickF (.bool false) S (wN rfl) rfl rfl hc30 rfl rfl (lb rfl) fun a S => ?_
      refine sMove (.bool false) S (wN rfl) (.inr rfl) rfl rfl (lb rfl) fun a S => ?_
      exact leafL (leafB (leafT (⟨false, Option.some.inj h, S.fix [] [] (by decide) rfl rfl rfl⟩)))
    refine sField (b := b2) (off := 0) 2 2 S (wG 8 true 39 rfl rfl rfl hc30) rfl rfl rfl rfl rfl (lb rfl) fun a S => ?_
    refine sLoad1 (p := b2) (off := 2) (T := 82) (vs := [.int .u8 p0.Kind, .bool p0.Purl, iv p0.A, iv p0.B]) 0 (iv p0.A) S (wG 8 true 39 rfl rfl rfl hc30) rfl rfl rfl rfl rfl rfl (lb rfl) fun a S => ?_
    refine sBin (.bool (decide (p0.A ≤ 4))) S (wG 8 true 39 rfl rfl rfl hc30) rfl rfl rfl (bLe _ _ _ _ .i64 p0.A 4) rfl (lb rfl) fun a S => ?_
    refine sPickT (.bool (decide (p0.A ≤ 4))) S (wN rfl) rfl rfl hc30 rfl rfl (lb rfl) fun a S => ?_
    refine sMove (.bool (decide (p0.A ≤ 4))) S (wN rfl) (.inr rfl) rfl rfl (lb rfl) fun a S => ?_
    exact leafL (leafB (leafT (⟨decide (p0.A ≤ 4), Option.some.inj h, S.fix [] [] (by decide) rfl rfl rfl⟩)))
  refine sCondF S rfl hc28 ?_
  obtain ⟨t32, h, g33⟩ := bindSome h
  refine sCut (fun a w => ∃ o31, o31 = t32 ∧ St [] E [] w0 102 a w [(1, .pointer (some ⟨b2, 0, none⟩)), (4, .bool false), (14, .int .u8 p0.Kind), (44, .bool o31)] [eBox b2 82 [.int .u8 p0.Kind, .bool p0.Purl, iv p0.A, iv p0.B]] []) ?_ (fun a w hI => ?_)
  · refine sSeq (fun K34 hK34 => ?_)
    refine sRegion ?_
    refine sBin (.bool (p0.Kind == 6)) S (wN rfl) rfl rfl rfl (bEq _ _ _ _ .u8 p0.Kind 6) rfl (lb rfl) fun a S => ?_
    refine sMove (.bool (p0.Kind == 6)) S (wN rfl) (.inr rfl) rfl rfl (lb rfl) fun a S => ?_
    refine leafL (leafT (hK34 _ _ ?_))
    rcases iteSome h with ⟨hc35, h⟩ | ⟨hc35, h⟩
    · refine sCondT S rfl hc35 ?_
      exact wp_skip (leafT (⟨p0.Kind == 6, Option.some.inj h, S.fix [0] [] (by decide) rfl rfl rfl⟩))
    refine sCondF S rfl hc35 ?_
    refine sRegion ?_
    refine sBin (.bool (p0.Kind == 7)) S (wN rfl) rfl rfl rfl (bEq _ _ _ _ .u8 p0.Kind 7) rfl (lb rfl) fun a S => ?_
    refine sMove (.bool (p0.Kind == 7)) S (wN rfl) (.inr rfl) rfl rfl (lb rfl) fun a S => ?_
    exact leafL (leafT (⟨p0.Kind == 7, Option.some.inj h, S.fix [0] [] (by decide) rfl rfl rfl⟩))
  obtain ⟨o31, rfl, S⟩ := hI
  have h := g33
  clear g33
  try dsimp only at h
  rcases iteSome h with ⟨hc36, h⟩ | ⟨hc36, h⟩
  · refine sCondT S rfl hc36 ?_
    refine sRegion ?_
    refine sField (b := b2) (off := 0) 2 2 S (wN rfl) rfl rfl rfl rfl rfl (lb rfl) fun a S => ?_
    refine sLoad1 (p := b2) (off := 2) (T := 82) (vs := [.int .u8 p0.Kind, .bool p0.Purl, iv p0.A, iv p0.B]) 0 (iv p0.A) S (wN rfl) rfl rfl rfl rfl rfl rfl (lb rfl) fun a S => ?_
    refine sBin (.bool (decide (1 ≤ p0.A))) S (wN rfl) rfl rfl rfl (bGe _ _ _ _ .i64 p0.A 1) rfl (lb rfl) fun a S => ?_
    refine sMove (.bool (decide (1 ≤ p0.A))) S (wN rfl) (.inl rfl) rfl rfl (lb rfl) fun a S => ?_
    rcases iteSome h with ⟨hc37, h⟩ | ⟨hc37, h⟩
    rotate_left
    · refine sSkip 3 true 50 51 S rfl rfl rfl hc37 rfl (lb rfl) fun a S => ?_
      refine sSkip 3 true 50 52 S rfl rfl rfl hc37 rfl (lb rfl) fun a S => ?_
      refine sSkip 3 true 50 53 S rfl rfl rfl hc37 rfl (lb rfl) fun a S => ?_
      refine sPickF (.bool false) S (wN rfl) rfl rfl hc37 rfl rfl (lb rfl) fun a S => ?_
      refine sMove (.bool false) S (wN rfl) (.inl rfl) rfl rfl (lb rfl) fun a S => ?_
      refine sSkip 8 true 55 56 S rfl rfl rfl rfl rfl (lb rfl) fun a S => ?_
      refine sSkip 8 true 55 57 S rfl rfl rfl rfl rfl (lb rfl) fun a S => ?_
      refine sSkip 8 true 55 58 S rfl rfl rfl rfl rfl (lb rfl) fun a S => ?_
      refine sPickF (.bool false) S (wN rfl) rfl rfl rfl rfl rfl (lb rfl) fun a S => ?_
      refine sMove (.bool false) S (wN rfl) (.inl rfl) rfl rfl (lb rfl) fun a S => ?_
      refine sSkip 13 true 60 61 S rfl rfl rfl rfl rfl (lb rfl) fun a S => ?_
      refine sSkip 13 true 60 62 S rfl rfl rfl rfl rfl (lb rfl) fun a S => ?_
      refine sSkip 13 true 60 63 S rfl rfl rfl rfl rfl (lb rfl) fun a S => ?_
      refine sPickF (.bool false) S (wN rfl) rfl rfl rfl rfl rfl (lb rfl) fun a S => ?_
      refine sMove (.bool false) S (wN rfl) (.inr rfl) rfl rfl (lb rfl) fun a S => ?_
      exact leafL (leafB (leafT (⟨false, Option.some.inj h, S.fix [] [] (by decide) rfl rfl rfl⟩)))
    refine sField (b := b2) (off := 0) 2 2 S (wG 3 true 50 rfl rfl rfl hc37) rfl rfl rfl rfl rfl (lb rfl) fun a S => ?_
    refine sLoad1 (p := b2) (off := 2) (T := 82) (vs := [.int .u8 p0.Kind, .bool p0.Purl, iv p0.A, iv p0.B]) 0 (iv p0.A) S (wG 3 true 50 rfl rfl rfl hc37) rfl rfl rfl rfl rfl rfl (lb rfl) fun a S => ?_
    refine sBin (.bool (decide (p0.A ≤ 6))) S (wG 3 true 50 rfl rfl rfl hc37) rfl rfl rfl (bLe _ _ _ _ .i64 p0.A 6) rfl (lb rfl) fun a S => ?_
    refine sPickT (.bool (decide (p0.A ≤ 6))) S (wN rfl) rfl rfl hc37 rfl rfl (lb rfl) fun a S => ?_
    refine sMove (.bool (decide (p0.A ≤ 6))) S (wN rfl) (.inl rfl) rfl rfl (lb rfl) fun a S => ?_
    rcases iteSome h with ⟨hc38, h⟩ | ⟨hc38, h⟩
    rotate_left
    · refine sSkip 8 true 55 56 S rfl rfl rfl hc38 rfl (lb rfl) fun a S => ?_
      refine sSkip 8 true 55 57 S rfl rfl rfl hc38 rfl (lb rfl) fun a S => ?_
      refine sSkip 8 true 55 58 S rfl rfl rfl hc38 rfl (lb rfl) fun a S => ?_
      refine sPickF (.bool false) S (wN rfl) rfl rfl hc38 rfl rfl (lb rfl) fun a S => ?_
      refine sMove (.bool false) S (wN rfl) (.inl rfl) rfl rfl (lb rfl) fun a S => ?_
      refine sSkip 13 true 60 61 S rfl rfl rfl rfl rfl (lb rfl) fun a S => ?_
      refine sSkip 13 true 60 62 S rfl rfl rfl rfl rfl (lb rfl) fun a S => ?_
      refine sSkip 13 true 60 63 S rfl rfl rfl rfl rfl (lb rfl) fun a S => ?_
      refine sPickF (.bool false) S (wN rfl) rfl rfl rfl rfl rfl (lb rfl) fun a S => ?_
      refine sMove (.bool false) S (wN rfl) (.inr rfl) rfl rfl (lb rfl) fun a S => ?_
      exact leafL (leafB (leafT (⟨false, Option.some.inj h, S.fix [] [] (by decide) rfl rfl rfl⟩)))
    refine sField (b := b2) (off := 0) 3 3 S (wG 8 true 55 rfl rfl rfl hc38) rfl rfl rfl rfl rfl (lb rfl) fun a S => ?_
    refine sLoad1 (p := b2) (off := 3) (T := 82) (vs := [.int .u8 p0.Kind, .bool p0.Purl, iv p0.A, iv p0.B]) 0 (iv p0.B) S (wG 8 true 55 rfl rfl rfl hc38) rfl rfl rfl rfl rfl rfl (lb rfl) fun a S => ?_
    refine sBin (.bool (decide (1 ≤ p0.B))) S (wG 8 true 55 rfl rfl rfl hc38) rfl rfl rfl (bGe _ _ _ _ .i64 p0.B 1) rfl (lb rfl) fun a S => ?_
    refine sPickT (.bool (decide (1 ≤ p0.B))) S (wN rfl) rfl rfl hc38 rfl rfl (lb rfl) fun a S => ?_
    refine sMove (.bool (decide (1 ≤ p0.B))) S (wN rfl) (.inl rfl) rfl rfl (lb rfl) fun a S => ?_
    rcases iteSome h with ⟨hc39, h⟩ | ⟨hc39, h⟩
    rotate_left
    · refine sSkip 13 true 60 61 S rfl rfl rfl hc39 rfl (lb rfl) fun a S => ?_
      refine sSkip 13 true 60 62 S rfl rfl rfl hc39 rfl (lb rfl) fun a S => ?_
      refine sSkip 13 true 60 63 S rfl rfl rfl hc39 rfl (lb rfl) fun a S => ?_
      refine sPickF (.bool false) S (wN rfl) rfl rfl hc39 rfl rfl (lb rfl) fun a S => ?_
      refine sMove (.bool false) S (wN rfl) (.inr rfl) rfl rfl (lb rfl) fun a S => ?_
      exact leafL (leafB (leafT (⟨false, Option.some.inj h, S.fix [] [] (by decide) rfl rfl rfl⟩)))
    refine sField (b := b2) (off := 0) 3 3 S (wG 13 true 60 rfl rfl rfl hc39) rfl rfl rfl rfl rfl (lb rfl) fun a S => ?_
    refine sLoad1 (p := b2) (off := 3) (T := 82) (vs := [.int .u8 p0.Kind, .bool p0.Purl, iv p0.A, iv p0.B]) 0 (iv p0.B) S (wG 13 true 60 rfl rfl rfl hc39) rfl rfl rfl rfl rfl rfl (lb rfl) fun a S => ?_
    refine sBin (.bool (decide (p0.B ≤ 6))) S (wG 13 true 60 rfl rfl rfl hc39) rfl rfl rfl (bLe _ _ _ _ .i64 p0.B 6) rfl (lb rfl) fun a S => ?_
    refine sPickT (.bool (decide (p0.B ≤ 6))) S (wN rfl) rfl rfl hc39 rfl rfl (lb rfl) fun a S => ?_
    refine sMove (.bool (decide (p0.B ≤ 6))) S (wN rfl) (.inr rfl) rfl rfl (lb rfl) fun a S => ?_
    exact leafL (leafB (leafT (⟨decide (p0.B ≤ 6), Option.some.inj h, S.fix [] [] (by decide) rfl rfl rfl⟩)))
  refine sCondF S rfl hc36 ?_
  refine sSeq (fun K40 hK40 => ?_)
  refine sRegion ?_
  refine sBin (.bool (p0.Kind == 9)) S (wN rfl) rfl rfl rfl (bEq _ _ _ _ .u8 p0.Kind 9) rfl (lb rfl) fun a S => ?_
  refine sMove (.bool (p0.Kind == 9)) S (wN rfl) (.inr rfl) rfl rfl (lb rfl) fun a S => ?_
  refine leafL (leafT (hK40 _ _ ?_))
  rcases iteSome h with ⟨hc41, h⟩ | ⟨hc41, h⟩
  rotate_left
  · refine sCondF S rfl hc41 ?_
    refine sSeq (fun K45 hK45 => ?_)
    refine sRegion ?_
    refine sBin (.bool (p0.Kind == 10)) S (wN rfl) rfl rfl rfl (bEq _ _ _ _ .u8 p0.Kind 10) rfl (lb rfl) fun a S => ?_
    refine sMove (.bool (p0.Kind == 10)) S (wN rfl) (.inr rfl) rfl rfl (lb rfl) fun a S => ?_
    refine leafL (leafT (hK45 _ _ ?_))
    rcases iteSome h with ⟨hc46, h⟩ | ⟨hc46, h⟩
    rotate_left
    · refine sCondF S rfl hc46 ?_
      exact wp_skip (leafB (leafT (⟨false, Option.some.inj h, S.fix [] [] (by decide) rfl rfl rfl⟩)))
    refine sCondT S rfl hc46 ?_
    refine sRegion ?_
    refine sField (b := b2) (off := 0) 3 3 S (wN rfl) rfl rfl rfl rfl rfl (lb rfl) fun a S => ?_
    refine sLoad1 (p := b2) (off := 3) (T := 82) (vs := [.int .u8 p0.Kind, .bool p0.Purl, iv p0.A, iv p0.B]) 0 (iv p0.B) S (wN rfl) rfl rfl rfl rfl rfl rfl (lb rfl) fun a S => ?_
    refine sBin (.bool (p0.B == 0)) S (wN rfl) rfl rfl rfl (bEq _ _ _ _ .i64 p0.B 0) rfl (lb rfl) fun a S => ?_
    refine sMove (.bool (p0.B == 0)) S (wN rfl) (.inl rfl) rfl rfl (lb rfl) fun a S => ?_
    rcases iteSome h with ⟨hc47, h⟩ | ⟨hc47, h⟩
    rotate_left
    · refine sSkip 3 true 90 91 S rfl rfl rfl hc47 rfl (lb rfl) fun a S => ?_
      refine sSkip 3 true 90 92 S rfl rfl rfl hc47 rfl (lb rfl) fun a S => ?_
      refine sSkip 3 true 90 93 S rfl rfl rfl hc47 rfl (lb rfl) fun a S => ?_
      refine sPickF (.bool false) S (wN rfl) rfl rfl hc47 rfl rfl (lb rfl) fun a S => ?_
      refine sMove (.bool false) S (wN rfl) (.inl rfl) rfl rfl (lb rfl) fun a S => ?_
      refine sSkip 8 true 95 96 S rfl rfl rfl rfl rfl (lb rfl) fun a S => ?_
      refine sSkip 8 true 95 97 S rfl rfl rfl rfl rfl (lb rfl) fun a S => ?_
      refine sSkip 8 true 95 98 S rfl rfl rfl rfl rfl (lb rfl) fun a S => ?_
      refine sPickF (.bool false) S (wN rfl) rfl rfl rfl rfl rfl (lb rfl) fun a S => ?_
      refine sMove (.bool false) S (wN rfl) (.inr rfl) rfl rfl (lb rfl) fun a S => ?_
      exact leafL (leafB (leafT (⟨false, Option.some.inj h, S.fix [] [] (by decide) rfl rfl rfl⟩)))
    refine sField (b := b2) (off := 0) 2 2 S (wG 3 true 90 rfl rfl rfl hc47) rfl rfl rfl rfl rfl (lb rfl) fun a S => ?_
    refine sLoad1 (p := b2) (off := 2) (T := 82) (vs := [.int .u8 p0.Kind, .bool p0.Purl, iv p0.A, iv p0.B]) 0 (iv p0.A) S (wG 3 true 90 rfl rfl rfl hc47) rfl rfl rfl rfl rfl rfl (lb rfl) fun a S => ?_
    refine sBin (.bool (decide (1 ≤ p0.A))) S (wG 3 true 90 rfl rfl rfl hc47) rfl rfl rfl (bGe _ _ _ _ .i64 p0.A 1) rfl (lb rfl) fun a S => ?_
    refine sPickT (.bool (decide (1 ≤ p0.A))) S (wN rfl) rfl rfl hc47 rfl rfl (lb rfl) fun a S => ?_
    refine sMove (.bool (decide (1 ≤ p0.A))) S (wN rfl) (.inl rfl) rfl rfl (lb rfl) fun a S => ?_
    rcases iteSome h with ⟨hc48, h⟩ | ⟨hc48, h⟩
    rotate_left
    · refine sSkip 8 true 95 96 S rfl rfl rfl hc48 rfl (lb rfl) fun a S => ?_
      refine sSkip 8 true 95 97 S rfl rfl rfl hc48 rfl (lb rfl) fun a S => ?_
      refine sSkip 8 true 95 98 S rfl rfl rfl hc48 rfl (lb rfl) fun a S => ?_
      refine sPickF (.bool false) S (wN rfl) rfl rfl hc48 rfl rfl (lb rfl) fun a S => ?_
      refine sMove (.bool false) S (wN rfl) (.inr rfl) rfl rfl (lb rfl) fun a S => ?_
      exact leafL (leafB (leafT (⟨false, Option.some.inj h, S.fix [] [] (by decide) rfl rfl rfl⟩)))
    refine sField (b := b2) (off := 0) 2 2 S (wG 8 true 95 rfl rfl rfl hc48) rfl rfl rfl rfl rfl (lb rfl) fun a S => ?_
    refine sLoad1 (p := b2) (off := 2) (T := 82) (vs := [.int .u8 p0.Kind, .bool p0.Purl, iv p0.A, iv p0.B]) 0 (iv p0.A) S (wG 8 true 95 rfl rfl rfl hc48) rfl rfl rfl rfl rfl rfl (lb rfl) fun a S => ?_
    refine sBin (.bool (decide (p0.A ≤ 200))) S (wG 8 true 95 rfl rfl rfl hc48) rfl rfl rfl (bLe _ _ _ _ .i64 p0.A 200) rfl (lb rfl) fun a S => ?_
    refine sPickT (.bool (decide (p0.A ≤ 200))) S (wN rfl) rfl rfl hc48 rfl rfl (lb rfl) fun a S => ?_
    refine sMove (.bool (decide (p0.A ≤ 200))) S (wN rfl) (.inr rfl) rfl rfl (lb rfl) fun a S => ?_
    exact leafL (leafB (leafT (⟨decide (p0.A ≤ 200), Option.some.inj h, S.fix [] [] (by decide) rfl rfl rfl⟩)))
  refine sCondT S rfl hc41 ?_
  refine sRegion ?_
  refine sField (b := b2) (off := 0) 3 3 S (wN rfl) rfl rfl rfl rfl rfl (lb rfl) fun a S => ?_
  refine sLoad1 (p := b2) (off := 3) (T := 82) (vs := [.int .u8 p0.Kind, .bool p0.Purl, iv p0.A, iv p0.B]) 0 (iv p0.B) S (wN rfl) rfl rfl rfl rfl rfl rfl (lb rfl) fun a S => ?_
  refine sBin (.bool (p0.B == 0)) S (wN rfl) rfl rfl rfl (bEq _ _ _ _ .i64 p0.B 0) rfl (lb rfl) fun a S => ?_
  refine sMove (.bool (p0.B == 0)) S (wN rfl) (.inl rfl) rfl rfl (lb rfl) fun a S => ?_
  rcases iteSome h with ⟨hc42, h⟩ | ⟨hc42, h⟩
  rotate_left
  · refine sSkip 3 true 70 71 S rfl rfl rfl hc42 rfl (lb rfl) fun a S => ?_
    refine sSkip 3 true 70 72 S rfl rfl rfl hc42 rfl (lb rfl) fun a S => ?_
    refine sSkip 3 true 70 73 S rfl rfl rfl hc42 rfl (lb rfl) fun a S => ?_
    refine sPickF (.bool false) S (wN rfl) rfl rfl hc42 rfl rfl (lb rfl) fun a S => ?_
    refine sMove (.bool false) S (wN rfl) (.inl rfl) rfl rfl (lb rfl) fun a S => ?_
    refine sSkip 8 true 75 76 S rfl rfl rfl rfl rfl (lb rfl) fun a S => ?_
    refine sSkip 8 true 75 77 S rfl rfl rfl rfl rfl (lb rfl) fun a S => ?_
    refine sSkip 8 true 75 78 S rfl rfl rfl rfl rfl (lb rfl) fun a S => ?_
    refine sPickF (.bool false) S (wN rfl) rfl rfl rfl rfl rfl (lb rfl) fun a S => ?_
    refine sMove (.bool false) S (wN rfl) (.inl rfl) rfl rfl (lb rfl) fun a S => ?_
    refine sSkip 13 true 80 81 S rfl rfl rfl rfl rfl (lb rfl) fun a S => ?_
    refine sSkip 13 true 80 82 S rfl rfl rfl rfl rfl (lb rfl) fun a S => ?_
    refine sSkip 13 true 80 83 S rfl rfl rfl rfl rfl (lb rfl) fun a S => ?_
    refine sPickF (.bool false) S (wN rfl) rfl rfl rfl rfl rfl (lb rfl) fun a S => ?_
    refine sMove (.bool false) S (wN rfl) (.inr rfl) rfl rfl (lb rfl) fun a S => ?_
    exact leafL (leafB (leafT (⟨false, Option.some.inj h, S.fix [] [] (by decide) rfl rfl rfl⟩)))
  refine sField (b := b2) (off := 0) 1 1 S (wG 3 true 70 rfl rfl rfl hc42) rfl rfl rfl rfl rfl (lb rfl) fun a S => ?_
  refine sLoad1 (p := b2) (off := 1) (T := 82) (vs := [.int .u8 p0.Kind, .bool p0.Purl, iv p0.A, iv p0.B]) 0 (.bool p0.Purl) S (wG 3 true 70 rfl rfl rfl hc42) rfl rfl rfl rfl rfl rfl (lb rfl) fun a S => ?_
  refine sNot (b := p0.Purl) S (wG 3 true 70 rfl rfl rfl hc42) rfl rfl rfl (lb rfl) fun a S => ?_
  refine sPickT (.bool (!p0.Purl)) S (wN rfl) rfl rfl hc42 rfl rfl (lb rfl) fun a S => ?_
  refine sMove (.bool (!p0.Purl)) S (wN rfl) (.inl rfl) rfl rfl (lb rfl) fun a S => ?_
  rcases iteSome h with ⟨hc43, h⟩ | ⟨hc43, h⟩
  rotate_left
  · refine sSkip 8 true 75 76 S rfl rfl rfl hc43 rfl (lb rfl) fun a S => ?_
    refine sSkip 8 true 75 77 S rfl rfl rfl hc43 rfl (lb rfl) fun a S => ?_
    refine sSkip 8 true 75 78 S rfl rfl rfl hc43 rfl (lb rfl) fun a S => ?_
    refine sPickF (.bool false) S (wN rfl) rfl rfl hc43 rfl rfl (lb rfl) fun a S => ?_
    refine sMove (.bool false) S (wN rfl) (.inl rfl) rfl rfl (lb rfl) fun a S => ?_
    refine sSkip 13 true 80 81 S rfl rfl rfl rfl rfl (lb rfl) fun a S => ?_
    refine sSkip 13 true 80 82 S rfl rfl rfl rfl rfl (lb rfl) fun a S => ?_
    refine sSkip 13 true 80 83 S rfl rfl rfl rfl rfl (lb rfl) fun a S => ?_
    refine sPickF (.bool false) S (wN rfl) rfl rfl rfl rfl rfl (lb rfl) fun a S => ?_
    refine sMove (.bool false) S (wN rfl) (.inr rfl) rfl rfl (lb rfl) fun a S => ?_
    exact leafL (leafB (leafT (⟨false, Option.some.inj h, S.fix [] [] (by decide) rfl rfl rfl⟩)))
  refine sField (b := b2) (off := 0) 2 2 S (wG 8 true 75 rfl rfl rfl hc43) rfl rfl rfl rfl rfl (lb rfl) fun a S => ?_
  refine sLoad1 (p := b2) (off := 2) (T := 82) (vs := [.int .u8 p0.Kind, .bool p0.Purl, iv p0.A, iv p0.B]) 0 (iv p0.A) S (wG 8 true 75 rfl rfl rfl hc43) rfl rfl rfl rfl rfl rfl (lb rfl) fun a S => ?_
  refine sBin (.bool (decide (1 ≤ p0.A))) S (wG 8 true 75 rfl rfl rfl hc43) rfl rfl rfl (bGe _ _ _ _ .i64 p0.A 1) rfl (lb rfl) fun a S => ?_
  refine sPickT (.bool (decide (1 ≤ p0.A))) S (wN rfl) rfl rfl hc43 rfl rfl (lb rfl) fun a S => ?_
  refine sMove (.bool (decide (1 ≤ p0.A))) S (wN rfl) (.inl rfl) rfl rfl (lb rfl) fun a S => ?_
  rcases iteSome h with ⟨hc44, h⟩ | ⟨hc44, h⟩
  rotate_left
  · refine sSkip 13 true 80 81 S rfl rfl rfl hc44 rfl (lb rfl) fun a S => ?_
    refine sSkip 13 true 80 82 S rfl rfl rfl hc44 rfl (lb rfl) fun a S => ?_
    refine sSkip 13 true 80 83 S rfl rfl rfl hc44 rfl (lb rfl) fun a S => ?_
    refine sPickF (.bool false) S (wN rfl) rfl rfl hc44 rfl rfl (lb rfl) fun a S => ?_
    refine sMove (.bool false) S (wN rfl) (.inr rfl) rfl rfl (lb rfl) fun a S => ?_
    exact leafL (leafB (leafT (⟨false, Option.some.inj h, S.fix [] [] (by decide) rfl rfl rfl⟩)))
  refine sField (b := b2) (off := 0) 2 2 S (wG 13 true 80 rfl rfl rfl hc44) rfl rfl rfl rfl rfl (lb rfl) fun a S => ?_
  refine sLoad1 (p := b2) (off := 2) (T := 82) (vs := [.int .u8 p0.Kind, .bool p0.Purl, iv p0.A, iv p0.B]) 0 (iv p0.A) S (wG 13 true 80 rfl rfl rfl hc44) rfl rfl rfl rfl rfl rfl (lb rfl) fun a S => ?_
  refine sBin (.bool (decide (p0.A ≤ 200))) S (wG 13 true 80 rfl rfl rfl hc44) rfl rfl rfl (bLe _ _ _ _ .i64 p0.A 200) rfl (lb rfl) fun a S => ?_
  refine sPickT (.bool (decide (p0.A ≤ 200))) S (wN rfl) rfl rfl hc44 rfl rfl (lb rfl) fun a S => ?_
  refine sMove (.bool (decide (p0.A ≤ 200))) S (wN rfl) (.inr rfl) rfl rfl (lb rfl) fun a S => ?_
  exact leafL (leafB (leafT (⟨decide (p0.A ≤ 200), Option.some.inj h, S.fix [] [] (by decide) rfl rfl rfl⟩)))

end Go.Proofs.Ytmedbnjhgkcndaa
namespace Go.Proofs.Ytmedbnjhgkcndaa
open Go.RowKit
set_option linter.unusedVariables false

noncomputable def F_raddleref25_Used (p0 : api_Stitch) : Option Int :=
  Option.bind (α := Bool) (
    if p0.Kind == 2 then
      some (p0.Kind == 2)
    else
      some (p0.Kind == 9)) fun o5 =>
  if o5 then
    some 0
  else
    Option.bind (α := Bool) (
      if p0.Kind == 3 then
        some (p0.Kind == 3)
      else
        if p0.Kind == 4 then
          some (p0.Kind == 4)
        else
          some (p0.Kind == 10)) fun o12 =>
    if o12 then
      some p0.A
    else
      Option.bind (α := Bool) (
        if p0.Kind == 6 then
          some (p0.Kind == 6)
        else
          some (p0.Kind == 7)) fun o21 =>
      if o21 then
        some (w64 (p0.A + p0.B))
      else
        some 1
set_option maxHeartbeats 4000000 in
set_option maxRecDepth 100000 in
theorem c_raddleref25_Used (E : Nat → Prop) (w0 : World) (p0 : api_Stitch) (v0 : Value) (r : Int) (h : F_raddleref25_Used p0 = some r) (S : St0 E [] w0 w0 [] [fRep r_api_Stitch (v0) p0]) :
    Calls Try.prog 77 #[v0] w0 (Ret (X := Unit) E [] w0 (fun _ => .int .i64 r) (fun _ => []) (fun _ => [])) := by
  unfold F_raddleref25_Used at h
  obtain rfl : v0 = .agg #[.int .u8 p0.Kind, .bool p0.Purl, iv p0.A, iv p0.B] := S.know (i := 0) (e := fRep r_api_Stitch (v0) p0) rfl
  refine sEnter (args := [.agg #[.int .u8 p0.Kind, .bool p0.Purl, iv p0.A, iv p0.B]]) 22 Try.func77 rfl rfl (by simp) S (fun a S => ?_)
  refine sSeq (fun K1 hK1 => ?_)
  refine sRegion ?_
  refine sBox (v := .agg #[.int .u8 p0.Kind, .bool p0.Purl, iv p0.A, iv p0.B]) S (wN rfl) rfl rfl [.int .u8 p0.Kind, .bool p0.Purl, iv p0.A, iv p0.B] rfl rfl (lb rfl) fun a b2 w S => ?_
  refine sMove (iv 0) S (wN rfl) (.inr rfl) rfl rfl (lb rfl) fun a S => ?_
  refine leafL (leafT (hK1 _ _ ?_))
  refine sSeq (fun K3 hK3 => ?_)
  refine sSeq (fun K4 hK4 => ?_)
  refine sRegion ?_
  refine sField (b := b2) (off := 0) 0 0 S (wN rfl) rfl rfl rfl rfl rfl (lb rfl) fun a S => ?_
  refine sLoad1 (p := b2) (off := 0) (T := 82) (vs := [.int .u8 p0.Kind, .bool p0.Purl, iv p0.A, iv p0.B]) 0 (.int .u8 p0.Kind) S (wN rfl) rfl rfl rfl rfl rfl rfl (lb rfl) fun a S => ?_
  refine leafL (leafT (hK4 _ _ ?_))
  refine wp_block ?_
  obtain ⟨t6, h, g7⟩ := bindSome h
  refine sCut (fun a w => ∃ o5, o5 = t6 ∧ St [] E [] w0 22 a w [(1, .pointer (some ⟨b2, 0, none⟩)), (4, .int .u8 p0.Kind), (5, .bool o5)] [eBox b2 82 [.int .u8 p0.Kind, .bool p0.Purl, iv p0.A, iv p0.B]] []) ?_ (fun a w hI => ?_)
  · refine sSeq (fun K8 hK8 => ?_)
    refine sRegion ?_
    refine sBin (.bool (p0.Kind == 2)) S (wN rfl) rfl rfl rfl (bEq _ _ _ _ .u8 p0.Kind 2) rfl (lb rfl) fun a S => ?_
    refine sMove (.bool (p0.Kind == 2)) S (wN rfl) (.inr rfl) rfl rfl (lb rfl) fun a S => ?_
    refine leafL (leafT (hK8 _ _ ?_))
    rcases iteSome h with ⟨hc9, h⟩ | ⟨hc9, h⟩
    · refine sCondT S rfl hc9 ?_
      exact wp_skip (leafT (⟨p0.Kind == 2, Option.some.inj h, S.fix [0] [] (by decide) rfl rfl rfl⟩))
    refine sCondF S rfl hc9 ?_
    refine sRegion ?_
    refine sBin (.bool (p0.Kind == 9)) S (wN rfl) rfl rfl rfl (bEq _ _ _ _ .u8 p0.Kind 9) rfl (lb rfl) fun a S => ?_
    refine sMove (.bool (p0.Kind == 9)) S (wN rfl) (.inr rfl) rfl rfl (lb rfl) fun a S => ?_
    exact leafL (leafT (⟨p0.Kind == 9, Option.some.inj h, S.fix [0] [] (by decide) rfl rfl rfl⟩))
  obtain ⟨o5, rfl, S⟩ := hI
  have h := g7
  clear g7
  try dsimp only at h
  rcases iteSome h with ⟨hc10, h⟩ | ⟨hc10, h⟩
  · refine sCondT S rfl hc10 ?_
    refine sSeq (fun K11 hK11 => ?_)
    refine sRegion ?_
    refine sMove (iv 0) S (wN rfl) (.inr rfl) rfl rfl (lb rfl) fun a S => ?_
    refine leafL (leafT (hK11 _ _ ?_))
    obtain rfl := Option.some.inj h
    exact wp_ret (rBlock (rThen (sRet (iv 0) S (rsl1 rfl (rvT (t := 2) (v := iv 0) S rfl)) ⟨(), rfl, S.mem.sel [] [] (by decide) rfl rfl⟩)))
  refine sCondF S rfl hc10 ?_
  obtain ⟨t13, h, g14⟩ := bindSome h
  refine sCut (fun a w => ∃ o12, o12 = t13 ∧ St [] E [] w0 22 a w [(1, .pointer (some ⟨b2, 0, none⟩)), (4, .int .u8 p0.Kind), (8, .bool o12)] [eBox b2 82 [.int .u8 p0.Kind, .bool p0.Purl, iv p0.A, iv p0.B]] []) ?_ (fun a w hI => ?_)
  · refine sSeq (fun K15 hK15 => ?_)
    refine sRegion ?_
    refine sBin (.bool (p0.Kind == 3)) S (wN rfl) rfl rfl rfl (bEq _ _ _ _ .u8 p0.Kind 3) rfl (lb rfl) fun a S => ?_
    refine sMove (.bool (p0.Kind == 3)) S (wN rfl) (.inr rfl) rfl rfl (lb rfl) fun a S => ?_
    refine leafL (leafT (hK15 _ _ ?_))
    rcases iteSome h with ⟨hc16, h⟩ | ⟨hc16, h⟩
    · refine sCondT S rfl hc16 ?_
      exact wp_skip (leafT (⟨p0.Kind == 3, Option.some.inj h, S.fix [0] [] (by decide) rfl rfl rfl⟩))
    refine sCondF S rfl hc16 ?_
    refine sSeq (fun K17 hK17 => ?_)
    refine sRegion ?_
    refine sBin (.bool (p0.Kind == 4)) S (wN rfl) rfl rfl rfl (bEq _ _ _ _ .u8 p0.Kind 4) rfl (lb rfl) fun a S => ?_
    refine sMove (.bool (p0.Kind == 4)) S (wN rfl) (.inr rfl) rfl rfl (lb rfl) fun a S => ?_
    refine leafL (leafT (hK17 _ _ ?_))
    rcases iteSome h with ⟨hc18, h⟩ | ⟨hc18, h⟩
    · refine sCondT S rfl hc18 ?_
      exact wp_skip (leafT (⟨p0.Kind == 4, Option.some.inj h, S.fix [0] [] (by decide) rfl rfl rfl⟩))
    refine sCondF S rfl hc18 ?_
    refine sRegion ?_
    refine sBin (.bool (p0.Kind == 10)) S (wN rfl) rfl rfl rfl (bEq _ _ _ _ .u8 p0.Kind 10) rfl (lb rfl) fun a S => ?_
    refine sMove (.bool (p0.Kind == 10)) S (wN rfl) (.inr rfl) rfl rfl (lb rfl) fun a S => ?_
    exact leafL (leafT (⟨p0.Kind == 10, Option.some.inj h, S.fix [0] [] (by decide) rfl rfl rfl⟩))
  obtain ⟨o12, rfl, S⟩ := hI
  have h := g14
  clear g14
  try dsimp only at h
  rcases iteSome h with ⟨hc19, h⟩ | ⟨hc19, h⟩
  · refine sCondT S rfl hc19 ?_
    refine sSeq (fun K20 hK20 => ?_)
    refine sRegion ?_
    refine sField (b := b2) (off := 0) 2 2 S (wN rfl) rfl rfl rfl rfl rfl (lb rfl) fun a S => ?_
    refine sLoad1 (p := b2) (off := 2) (T := 82) (vs := [.int .u8 p0.Kind, .bool p0.Purl, iv p0.A, iv p0.B]) 0 (iv p0.A) S (wN rfl) rfl rfl rfl rfl rfl rfl (lb rfl) fun a S => ?_
    refine sMove (iv p0.A) S (wN rfl) (.inr rfl) rfl rfl (lb rfl) fun a S => ?_
    refine leafL (leafT (hK20 _ _ ?_))
    obtain rfl := Option.some.inj h
    exact wp_ret (rBlock (rThen (sRet (iv p0.A) S (rsl1 rfl (rvT (t := 2) (v := iv p0.A) S rfl)) ⟨(), rfl, S.mem.sel [] [] (by decide) rfl rfl⟩)))
  refine sCondF S rfl hc19 ?_
  obtain ⟨t22, h, g23⟩ := bindSome h
  refine sCut (fun a w => ∃ o21, o21 = t22 ∧ St [] E [] w0 22 a w [(1, .pointer (some ⟨b2, 0, none⟩)), (14, .bool o21)] [eBox b2 82 [.int .u8 p0.Kind, .bool p0.Purl, iv p0.A, iv p0.B]] []) ?_ (fun a w hI => ?_)
  · refine sSeq (fun K24 hK24 => ?_)
    refine sRegion ?_
    refine sBin (.bool (p0.Kind == 6)) S (wN rfl) rfl rfl rfl (bEq _ _ _ _ .u8 p0.Kind 6) rfl (lb rfl) fun a S => ?_
    refine sMove (.bool (p0.Kind == 6)) S (wN rfl) (.inr rfl) rfl rfl (lb rfl) fun a S => ?_
    refine leafL (leafT (hK24 _ _ ?_))
    rcases iteSome h with ⟨hc25, h⟩ | ⟨hc25, h⟩
    · refine sCondT S rfl hc25 ?_
      exact wp_skip (leafT (⟨p0.Kind == 6, Option.some.inj h, S.fix [0] [] (by decide) rfl rfl rfl⟩))
    refine sCondF S rfl hc25 ?_
    refine sRegion ?_
    refine sBin (.bool (p0.Kind == 7)) S (wN rfl) rfl rfl rfl (bEq _ _ _ _ .u8 p0.Kind 7) rfl (lb rfl) fun a S => ?_
    refine sMove (.bool (p0.Kind == 7)) S (wN rfl) (.inr rfl) rfl rfl (lb rfl) fun a S => ?_
    exact leafL (leafT (⟨p0.Kind == 7, Option.some.inj h, S.fix [0] [] (by decide) rfl rfl rfl⟩))
  obtain ⟨o21, rfl, S⟩ := hI
  have h := g23
  clear g23
  try dsimp only at h
  rcases iteSome h with ⟨hc26, h⟩ | ⟨hc26, h⟩
  rotate_left
  · refine sCondF S rfl hc26 ?_
    refine wp_skip (leafB (leafT (hK3 _ _ ?_)))
    refine sSeq (fun K28 hK28 => ?_)
    refine sRegion ?_
    refine sMove (iv 1) S (wN rfl) (.inr rfl) rfl rfl (lb rfl) fun a S => ?_
    refine leafL (leafT (hK28 _ _ ?_))
    obtain rfl := Option.some.inj h
    exact wp_ret (sRet (iv 1) S (rsl1 rfl (rvT (t := 2) (v := iv 1) S rfl)) ⟨(), rfl, S.mem.sel [] [] (by decide) rfl rfl⟩)
  refine sCondT S rfl hc26 ?_
  refine sSeq (fun K27 hK27 => ?_)
  refine sRegion ?_
  refine sField (b := b2) (off := 0) 2 2 S (wN rfl) rfl rfl rfl rfl rfl (lb rfl) fun a S => ?_
  refine sLoad1 (p := b2) (off := 2) (T := 82) (vs := [.int .u8 p0.Kind, .bool p0.Purl, iv p0.A, iv p0.B]) 0 (iv p0.A) S (wN rfl) rfl rfl rfl rfl rfl rfl (lb rfl) fun a S => ?_
  refine sField (b := b2) (off := 0) 3 3 S (wN rfl) rfl rfl rfl rfl rfl (lb rfl) fun a S => ?_
  refine sLoad1 (p := b2) (off := 3) (T := 82) (vs := [.int .u8 p0.Kind, .bool p0.Purl, iv p0.A, iv p0.B]) 0 (iv p0.B) S (wN rfl) rfl rfl rfl rfl rfl rfl (lb rfl) fun a S => ?_
  refine sBin (iv (w64 (p0.A + p0.B))) S (wN rfl) rfl rfl rfl (bAdd _ _ _ _ p0.A p0.B) rfl (lb rfl) fun a S => ?_
  refine sMove (iv (w64 (p0.A + p0.B))) S (wN rfl) (.inr rfl) rfl rfl (lb rfl) fun a S => ?_
  refine leafL (leafT (hK27 _ _ ?_))
  obtain rfl := Option.some.inj h
  exact wp_ret (rBlock (rThen (sRet (iv (w64 (p0.A + p0.B))) S (rsl1 rfl (rvT (t := 2) (v := iv (w64 (p0.A + p0.B))) S rfl)) ⟨(), rfl, S.mem.sel [] [] (by decide) rfl rfl⟩)))

end Go.Proofs.Ytmedbnjhgkcndaa
namespace Go.Proofs.Ytmedbnjhgkcndaa
open Go.RowKit
set_option linter.unusedVariables false

noncomputable def F_raddleref25_Gives (p0 : api_Stitch) : Option Int :=
  if p0.Kind == 10 then
    some 0
  else
    Option.bind (α := Bool) (
      if p0.Kind == 5 then
        some (p0.Kind == 5)
      else
        some (p0.Kind == 9)) fun o8 =>
    if o8 then
      some p0.A
    else
      Option.bind (α := Bool) (
        if p0.Kind == 6 then
          some (p0.Kind == 6)
        else
          some (p0.Kind == 7)) fun o15 =>
      if o15 then
        some (w64 (p0.A + p0.B))
      else
        some 1
set_option maxHeartbeats 4000000 in
set_option maxRecDepth 100000 in
theorem c_raddleref25_Gives (E : Nat → Prop) (w0 : World) (p0 : api_Stitch) (v0 : Value) (r : Int) (h : F_raddleref25_Gives p0 = some r) (S : St0 E [] w0 w0 [] [fRep r_api_Stitch (v0) p0]) :
    Calls Try.prog 78 #[v0] w0 (Ret (X := Unit) E [] w0 (fun _ => .int .i64 r) (fun _ => []) (fun _ => [])) := by
  unfold F_raddleref25_Gives at h
  obtain rfl : v0 = .agg #[.int .u8 p0.Kind, .bool p0.Purl, iv p0.A, iv p0.B] := S.know (i := 0) (e := fRep r_api_Stitch (v0) p0) rfl
  refine sEnter (args := [.agg #[.int .u8 p0.Kind, .bool p0.Purl, iv p0.A, iv p0.B]]) 20 Try.func78 rfl rfl (by simp) S (fun a S => ?_)
  refine sSeq (fun K1 hK1 => ?_)
  refine sRegion ?_
  refine sBox (v := .agg #[.int .u8 p0.Kind, .bool p0.Purl, iv p0.A, iv p0.B]) S (wN rfl) rfl rfl [.int .u8 p0.Kind, .bool p0.Purl, iv p0.A, iv p0.B] rfl rfl (lb rfl) fun a b2 w S => ?_
  refine sMove (iv 0) S (wN rfl) (.inr rfl) rfl rfl (lb rfl) fun a S => ?_
  refine leafL (leafT (hK1 _ _ ?_))
  refine sSeq (fun K3 hK3 => ?_)
  refine sSeq (fun K4 hK4 => ?_)
  refine sRegion ?_
  refine sField (b := b2) (off := 0) 0 0 S (wN rfl) rfl rfl rfl rfl rfl (lb rfl) fun a S => ?_
  refine sLoad1 (p := b2) (off := 0) (T := 82) (vs := [.int .u8 p0.Kind, .bool p0.Purl, iv p0.A, iv p0.B]) 0 (.int .u8 p0.Kind) S (wN rfl) rfl rfl rfl rfl rfl rfl (lb rfl) fun a S => ?_
  refine leafL (leafT (hK4 _ _ ?_))
  refine wp_block ?_
  refine sSeq (fun K5 hK5 => ?_)
  refine sRegion ?_
  refine sBin (.bool (p0.Kind == 10)) S (wN rfl) rfl rfl rfl (bEq _ _ _ _ .u8 p0.Kind 10) rfl (lb rfl) fun a S => ?_
  refine sMove (.bool (p0.Kind == 10)) S (wN rfl) (.inr rfl) rfl rfl (lb rfl) fun a S => ?_
  refine leafL (leafT (hK5 _ _ ?_))
  rcases iteSome h with ⟨hc6, h⟩ | ⟨hc6, h⟩
  · refine sCondT S rfl hc6 ?_
    refine sSeq (fun K7 hK7 => ?_)
    refine sRegion ?_
    refine sMove (iv 0) S (wN rfl) (.inr rfl) rfl rfl (lb rfl) fun a S => ?_
    refine leafL (leafT (hK7 _ _ ?_))
    obtain rfl := Option.some.inj h
    exact wp_ret (rBlock (rThen (sRet (iv 0) S (rsl1 rfl (rvT (t := 2) (v := iv 0) S rfl)) ⟨(), rfl, S.mem.sel [] [] (by decide) rfl rfl⟩)))
  refine sCondF S rfl hc6 ?_
  obtain ⟨t9, h, g10⟩ := bindSome h
  refine sCut (fun a w => ∃ o8, o8 = t9 ∧ St [] E [] w0 20 a w [(1, .pointer (some ⟨b2, 0, none⟩)), (4, .int .u8 p0.Kind), (7, .bool o8)] [eBox b2 82 [.int .u8 p0.Kind, .bool p0.Purl, iv p0.A, iv p0.B]] []) ?_ (fun a w hI => ?_)
  · refine sSeq (fun K11 hK11 => ?_)
    refine sRegion ?_
    refine sBin (.bool (p0.Kind == 5)) S (wN rfl) rfl rfl rfl (bEq _ _ _ _ .u8 p0.Kind 5) rfl (lb rfl) fun a S => ?_
    refine sMove (.bool (p0.Kind == 5)) S (wN rfl) (.inr rfl) rfl rfl (lb rfl) fun a S => ?_
    refine leafL (leafT (hK11 _ _ ?_))
    rcases iteSome h with ⟨hc12, h⟩ | ⟨hc12, h⟩
    · refine sCondT S rfl hc12 ?_
      exact wp_skip (leafT (⟨p0.Kind == 5, Option.some.inj h, S.fix [0] [] (by decide) rfl rfl rfl⟩))
    refine sCondF S rfl hc12 ?_
    refine sRegion ?_
    refine sBin (.bool (p0.Kind == 9)) S (wN rfl) rfl rfl rfl (bEq _ _ _ _ .u8 p0.Kind 9) rfl (lb rfl) fun a S => ?_
    refine sMove (.bool (p0.Kind == 9)) S (wN rfl) (.inr rfl) rfl rfl (lb rfl) fun a S => ?_
    exact leafL (leafT (⟨p0.Kind == 9, Option.some.inj h, S.fix [0] [] (by decide) rfl rfl rfl⟩))
  obtain ⟨o8, rfl, S⟩ := hI
  have h := g10
  clear g10
  try dsimp only at h
  rcases iteSome h with ⟨hc13, h⟩ | ⟨hc13, h⟩
  · refine sCondT S rfl hc13 ?_
    refine sSeq (fun K14 hK14 => ?_)
    refine sRegion ?_
    refine sField (b := b2) (off := 0) 2 2 S (wN rfl) rfl rfl rfl rfl rfl (lb rfl) fun a S => ?_
    refine sLoad1 (p := b2) (off := 2) (T := 82) (vs := [.int .u8 p0.Kind, .bool p0.Purl, iv p0.A, iv p0.B]) 0 (iv p0.A) S (wN rfl) rfl rfl rfl rfl rfl rfl (lb rfl) fun a S => ?_
    refine sMove (iv p0.A) S (wN rfl) (.inr rfl) rfl rfl (lb rfl) fun a S => ?_
    refine leafL (leafT (hK14 _ _ ?_))
    obtain rfl := Option.some.inj h
    exact wp_ret (rBlock (rThen (sRet (iv p0.A) S (rsl1 rfl (rvT (t := 2) (v := iv p0.A) S rfl)) ⟨(), rfl, S.mem.sel [] [] (by decide) rfl rfl⟩)))
  refine sCondF S rfl hc13 ?_
  obtain ⟨t16, h, g17⟩ := bindSome h
  refine sCut (fun a w => ∃ o15, o15 = t16 ∧ St [] E [] w0 20 a w [(1, .pointer (some ⟨b2, 0, none⟩)), (12, .bool o15)] [eBox b2 82 [.int .u8 p0.Kind, .bool p0.Purl, iv p0.A, iv p0.B]] []) ?_ (fun a w hI => ?_)
  · refine sSeq (fun K18 hK18 => ?_)
    refine sRegion ?_
    refine sBin (.bool (p0.Kind == 6)) S (wN rfl) rfl rfl rfl (bEq _ _ _ _ .u8 p0.Kind 6) rfl (lb rfl) fun a S => ?_
    refine sMove (.bool (p0.Kind == 6)) S (wN rfl) (.inr rfl) rfl rfl (lb rfl) fun a S => ?_
    refine leafL (leafT (hK18 _ _ ?_))
    rcases iteSome h with ⟨hc19, h⟩ | ⟨hc19, h⟩
    · refine sCondT S rfl hc19 ?_
      exact wp_skip (leafT (⟨p0.Kind == 6, Option.some.inj h, S.fix [0] [] (by decide) rfl rfl rfl⟩))
    refine sCondF S rfl hc19 ?_
    refine sRegion ?_
    refine sBin (.bool (p0.Kind == 7)) S (wN rfl) rfl rfl rfl (bEq _ _ _ _ .u8 p0.Kind 7) rfl (lb rfl) fun a S => ?_
    refine sMove (.bool (p0.Kind == 7)) S (wN rfl) (.inr rfl) rfl rfl (lb rfl) fun a S => ?_
    exact leafL (leafT (⟨p0.Kind == 7, Option.some.inj h, S.fix [0] [] (by decide) rfl rfl rfl⟩))
  obtain ⟨o15, rfl, S⟩ := hI
  have h := g17
  clear g17
  try dsimp only at h
  rcases iteSome h with ⟨hc20, h⟩ | ⟨hc20, h⟩
  rotate_left
  · refine sCondF S rfl hc20 ?_
    refine wp_skip (leafB (leafT (hK3 _ _ ?_)))
    refine sSeq (fun K22 hK22 => ?_)
    refine sRegion ?_
    refine sMove (iv 1) S (wN rfl) (.inr rfl) rfl rfl (lb rfl) fun a S => ?_
    refine leafL (leafT (hK22 _ _ ?_))
    obtain rfl := Option.some.inj h
    exact wp_ret (sRet (iv 1) S (rsl1 rfl (rvT (t := 2) (v := iv 1) S rfl)) ⟨(), rfl, S.mem.sel [] [] (by decide) rfl rfl⟩)
  refine sCondT S rfl hc20 ?_
  refine sSeq (fun K21 hK21 => ?_)
  refine sRegion ?_
  refine sField (b := b2) (off := 0) 2 2 S (wN rfl) rfl rfl rfl rfl rfl (lb rfl) fun a S => ?_
  refine sLoad1 (p := b2) (off := 2) (T := 82) (vs := [.int .u8 p0.Kind, .bool p0.Purl, iv p0.A, iv p0.B]) 0 (iv p0.A) S (wN rfl) rfl rfl rfl rfl rfl rfl (lb rfl) fun a S => ?_
  refine sField (b := b2) (off := 0) 3 3 S (wN rfl) rfl rfl rfl rfl rfl (lb rfl) fun a S => ?_
  refine sLoad1 (p := b2) (off := 3) (T := 82) (vs := [.int .u8 p0.Kind, .bool p0.Purl, iv p0.A, iv p0.B]) 0 (iv p0.B) S (wN rfl) rfl rfl rfl rfl rfl rfl (lb rfl) fun a S => ?_
  refine sBin (iv (w64 (p0.A + p0.B))) S (wN rfl) rfl rfl rfl (bAdd _ _ _ _ p0.A p0.B) rfl (lb rfl) fun a S => ?_
  refine sMove (iv (w64 (p0.A + p0.B))) S (wN rfl) (.inr rfl) rfl rfl (lb rfl) fun a S => ?_
  refine leafL (leafT (hK21 _ _ ?_))
  obtain rfl := Option.some.inj h
  exact wp_ret (rBlock (rThen (sRet (iv (w64 (p0.A + p0.B))) S (rsl1 rfl (rvT (t := 2) (v := iv (w64 (p0.A + p0.B))) S rfl)) ⟨(), rfl, S.mem.sel [] [] (by decide) rfl rfl⟩)))

end Go.Proofs.Ytmedbnjhgkcndaa
namespace Go.Proofs.Ytmedbnjhgkcndaa
open Go.RowKit
set_option linter.unusedVariables false

noncomputable def raddleref25_sums_l1 (p0 : (List api_Stitch)) : (Int × Int × Int) → Option ((Int × Int × Int) ⊕ (Int × Int)) := fun s0 => match s0 with
  | (s10, s11, s12) =>
    if decide (s12 < (p0.length : Int)) then
      Option.bind (idxO p0 s12) fun x23 =>
      Option.bind (F_raddleref25_Used x23) fun r28 =>
      Option.bind (F_raddleref25_Gives x23) fun r33 =>
      some (.inl (w64 (s10 + r28), w64 (s11 + r33), w64 (s12 + 1)))
    else
      some (.inr (s10, s11))
noncomputable def F_raddleref25_sums (p0 : (List api_Stitch)) : Option (Int × Int) :=
  Option.bind (α := (Int × Int)) (
    Option.bind (whileO (raddleref25_sums_l1 p0) (0, 0, 0)) fun (e16, e17) =>
      some (e16, e17)) fun (o5, o6) =>
  some (o5, o6)
set_option maxHeartbeats 4000000 in
set_option maxRecDepth 100000 in
theorem c_raddleref25_sums (E : Nat → Prop) (w0 : World) (p0 : (List api_Stitch)) (v0 : Value) (r : (Int × Int)) (h : F_raddleref25_sums p0 = some r) (S : St0 E [] w0 w0 [] [fRep (rL r_api_Stitch) (v0) p0]) :
    Calls Try.prog 62 #[v0] w0 (Ret (X := Unit) E [] w0 (fun _ => .tuple #[.int .i64 r.1, .int .i64 r.2]) (fun _ => []) (fun _ => [])) := by
  unfold F_raddleref25_sums at h
  obtain ⟨ad1, cp2, _, rfl, _⟩ := S.know (i := 0) (e := fRep (rL r_api_Stitch) (v0) p0) rfl
  refine sEnter (args := [.slice ad1 p0.length cp2]) 29 Try.func62 rfl rfl (by simp) S (fun a S => ?_)
  refine sSeq (fun K3 hK3 => ?_)
  refine sRegion ?_
  refine sMove (iv 0) S (wN rfl) (.inr rfl) rfl rfl (lb rfl) fun a S => ?_
  refine sMove (iv 0) S (wN rfl) (.inr rfl) rfl rfl (lb rfl) fun a S => ?_
  refine leafL (leafT (hK3 _ _ ?_))
  refine sSeq (fun K4 hK4 => ?_)
  refine sRegion ?_
  refine sMove (iv 0) S (wN rfl) (.inr rfl) rfl rfl (lb rfl) fun a S => ?_
  refine sMove (iv 0) S (wN rfl) (.inr rfl) rfl rfl (lb rfl) fun a S => ?_
  refine leafL (leafT (hK4 _ _ ?_))
  obtain ⟨t7, h, g8⟩ := bindSome h
  refine sCut (fun a w => ∃ o5, ∃ o6, (o5, o6) = t7 ∧ St [] E [] w0 29 a w [(4, iv o5), (5, iv o6)] [] []) ?_ (fun a w hI => ?_)
  rotate_left
  · obtain ⟨o5, o6, rfl, S⟩ := hI
    have h := g8
    clear g8
    try dsimp only at h
    refine sSeq (fun K35 hK35 => ?_)
    refine sRegion ?_
    refine sMove (iv o5) S (wN rfl) (.inl rfl) rfl rfl (lb rfl) fun a S => ?_
    refine sMove (iv o6) S (wN rfl) (.inl rfl) rfl rfl (lb rfl) fun a S => ?_
    refine sMove (iv o5) S (wN rfl) (.inr rfl) rfl rfl (lb rfl) fun a S => ?_
    refine sMove (iv o6) S (wN rfl) (.inr rfl) rfl rfl (lb rfl) fun a S => ?_
    refine leafL (leafT (hK35 _ _ ?_))
    obtain rfl := Option.some.inj h
    exact wp_ret (sRet (.tuple #[iv o5, iv o6]) S (rsl2 rfl (rvT (t := 2) (v := iv o5) S rfl) (rvT (t := 3) (v := iv o6) S rfl)) ⟨(), rfl, S.mem.sel [] [] (by decide) rfl rfl⟩)
  refine sSeq (fun K9 hK9 => ?_)
  refine sRegion ?_
  refine sMove (iv 0) S (wN rfl) (.inr rfl) rfl rfl (lb rfl) fun a S => ?_
  refine leafL (leafT (hK9 _ _ ?_))
  refine wp_block ?_
  obtain ⟨t15, hl, g14⟩ := bindSome h
  refine sLoop hl (fun s0 a w => match s0 with | (s10, s11, s12) => St [] E [] w0 29 a w [(0, .slice ad1 p0.length cp2), (4, iv s10), (5, iv s11), (6, iv s12)] [] [fRep (rL r_api_Stitch) (.slice ad1 p0.length cp2) p0]) (S.fix [] [0] (by decide) rfl rfl rfl) ?_
  clear hl h
  intro s0 a w c0 hI h hu13
  obtain ⟨s10, s11, s12⟩ := s0
  unfold raddleref25_sums_l1 at h
  dsimp only at h hI
  have S := hI
  refine sSeq (fun K18 hK18 => ?_)
  refine sSeq (fun K19 hK19 => ?_)
  refine sRegion ?_
  refine sMove (iv s12) S (wN rfl) (.inl rfl) rfl rfl (lb rfl) fun a S => ?_
  refine sMove (.slice ad1 p0.length cp2) S (wN rfl) (.inl rfl) rfl rfl (lb rfl) fun a S => ?_
  refine sLen (ad := ad1) (m := p0.length) (c := cp2) S (wN rfl) rfl Try.underlying78 rfl rfl (lb rfl) fun a S => ?_
  refine sBin (.bool (decide (s12 < (p0.length : Int)))) S (wN rfl) rfl rfl rfl (bLt _ _ _ _ .i64 s12 (p0.length : Int)) rfl (lb rfl) fun a S => ?_
  refine leafL (leafT (hK19 _ _ ?_))
  rcases iteSome h with ⟨hc20, h⟩ | ⟨hc20, h⟩
  rotate_left
  · refine sCondF S rfl hc20 ?_
    obtain rfl := Option.some.inj h
    obtain rfl := hu13 _ rfl
    have h := g14
    clear g14
    try dsimp only at h
    exact wp_exit (xThen (xThen (xHit (leafT (⟨s10, s11, Option.some.inj h, S.fix [] [] (by decide) rfl rfl rfl⟩)))))
  refine sCondT S rfl hc20 ?_
  refine wp_skip (leafT (hK18 _ _ ?_))
  refine sSeq (fun K21 hK21 => ?_)
  refine wp_block ?_
  refine sSeq (fun K22 hK22 => ?_)
  refine sRegion ?_
  refine sMove (iv s10) S (wN rfl) (.inl rfl) rfl rfl (lb rfl) fun a S => ?_
  refine sMove (.slice ad1 p0.length cp2) S (wN rfl) (.inl rfl) rfl rfl (lb rfl) fun a S => ?_
  refine sMove (iv s12) S (wN rfl) (.inl rfl) rfl rfl (lb rfl) fun a S => ?_
  obtain ⟨x23, hx24, h⟩ := bindSome h
  obtain ⟨q25, hq26, S⟩ := pIdx (P := Try.prog) (r := r_api_Stitch) (v := .slice ad1 p0.length cp2) (xs := p0) (j := s12) 78 82 0 S Try.underlying78 rfl rfl hx24
  refine sIdxV (v := .slice ad1 p0.length cp2) (k := .i64) (j := s12) S (wN rfl) rfl rfl rfl hq26 rfl (lb rfl) fun a S => ?_
  obtain ⟨u27, S⟩ := pLoad (r := r_api_Stitch) (q := q25) (x := x23) 0 S rfl
  obtain rfl : u27 = .agg #[.int .u8 x23.Kind, .bool x23.Purl, iv x23.A, iv x23.B] := S.mem.know (i := 1) (e := fRep r_api_Stitch (u27) x23) rfl
  refine sLoadVN (vq := q25) 0 [.int .u8 x23.Kind, .bool x23.Purl, iv x23.A, iv x23.B] S (wN rfl) rfl rfl rfl rfl rfl rfl (lb rfl) fun a S => ?_
  obtain ⟨r28, hx29, h⟩ := bindSome h
  have S1 := S.mem
  refine sCallQ (X := Unit) (f := 77) (vs := [.agg #[.int .u8 x23.Kind, .bool x23.Purl, iv x23.A, iv x23.B]]) (val := fun _ => iv r28) S (wN rfl) rfl callee77 rfl (S1.quiet [1] rfl) (fun E1 w1 S1 => c_raddleref25_Used E1 w1 x23 (.agg #[.int .u8 x23.Kind, .bool x23.Purl, iv x23.A, iv x23.B]) r28 hx29 S1) rfl (lb rfl) fun _ a w S => ?_
  refine sBin (iv (w64 (s10 + r28))) S (wN rfl) rfl rfl rfl (bAdd _ _ _ _ s10 r28) rfl (lb rfl) fun a S => ?_
  refine sMove (iv (w64 (s10 + r28))) S (wN rfl) (.inr rfl) rfl rfl (lb rfl) fun a S => ?_
  refine leafL (leafT (hK22 _ _ ?_))
  refine sRegion ?_
  refine sMove (iv s11) S (wN rfl) (.inl rfl) rfl rfl (lb rfl) fun a S => ?_
  refine sMove (.slice ad1 p0.length cp2) S (wN rfl) (.inl rfl) rfl rfl (lb rfl) fun a S => ?_
  refine sMove (iv s12) S (wN rfl) (.inl rfl) rfl rfl (lb rfl) fun a S => ?_
  obtain ⟨q30, hq31, S⟩ := pIdx (P := Try.prog) (r := r_api_Stitch) (v := .slice ad1 p0.length cp2) (xs := p0) (j := s12) 78 82 3 S Try.underlying78 rfl rfl hx24
  refine sIdxV (v := .slice ad1 p0.length cp2) (k := .i64) (j := s12) S (wN rfl) rfl rfl rfl hq31 rfl (lb rfl) fun a S => ?_
  obtain ⟨u32, S⟩ := pLoad (r := r_api_Stitch) (q := q30) (x := x23) 0 S rfl
  obtain rfl : u32 = .agg #[.int .u8 x23.Kind, .bool x23.Purl, iv x23.A, iv x23.B] := S.mem.know (i := 1) (e := fRep r_api_Stitch (u32) x23) rfl
  refine sLoadVN (vq := q30) 0 [.int .u8 x23.Kind, .bool x23.Purl, iv x23.A, iv x23.B] S (wN rfl) rfl rfl rfl rfl rfl rfl (lb rfl) fun a S => ?_
  obtain ⟨r33, hx34, h⟩ := bindSome h
  have S1 := S.mem
  refine sCallQ (X := Unit) (f := 78) (vs := [.agg #[.int .u8 x23.Kind, .bool x23.Purl, iv x23.A, iv x23.B]]) (val := fun _ => iv r33) S (wN rfl) rfl callee78 rfl (S1.quiet [1] rfl) (fun E1 w1 S1 => c_raddleref25_Gives E1 w1 x23 (.agg #[.int .u8 x23.Kind, .bool x23.Purl, iv x23.A, iv x23.B]) r33 hx34 S1) rfl (lb rfl) fun _ a w S => ?_
  refine sBin (iv (w64 (s11 + r33))) S (wN rfl) rfl rfl rfl (bAdd _ _ _ _ s11 r33) rfl (lb rfl) fun a S => ?_
  refine sMove (iv (w64 (s11 + r33))) S (wN rfl) (.inr rfl) rfl rfl (lb rfl) fun a S => ?_
  refine leafL (leafB (leafT (hK21 _ _ ?_)))
  refine sRegion ?_
  refine sMove (iv s12) S (wN rfl) (.inl rfl) rfl rfl (lb rfl) fun a S => ?_
  refine sBin (iv (w64 (s12 + 1))) S (wN rfl) rfl rfl rfl (bAdd _ _ _ _ s12 1) rfl (lb rfl) fun a S => ?_
  refine sMove (iv (w64 (s12 + 1))) S (wN rfl) (.inr rfl) rfl rfl (lb rfl) fun a S => ?_
  exact leafL (leafT (⟨(w64 (s10 + r28), w64 (s11 + r33), w64 (s12 + 1)), (Option.some.inj h).symm, (S.fix [] [6] (by decide) rfl rfl rfl)⟩))

end Go.Proofs.Ytmedbnjhgkcndaa
namespace Go.Proofs.Ytmedbnjhgkcndaa
open Go.RowKit
set_option linter.unusedVariables false

noncomputable def raddleref25_All_l1 (p0 : (List api_Stitch)) : Int → Option (Int ⊕ (Int ⊕ Unit)) := fun s0 => match s0 with
  | s11 =>
    if decide (s11 < (p0.length : Int)) then
      Option.bind (idxO p0 s11) fun x20 =>
      Option.bind (F_raddleref25_Check x20) fun r25 =>
      if r25 != 0 then
        some (.inr (.inl 8))
      else
        some (.inl (w64 (s11 + 1)))
    else
      some (.inr (.inr ()))
noncomputable def F_raddleref25_All (p0 : (List api_Stitch)) : Option Int :=
  if decide (200 < (p0.length : Int)) then
    some 4
  else
    Option.bind (α := Unit ⊕ Int) (
      Option.bind (whileO (raddleref25_All_l1 p0) 0) fun z0 => match z0 with
        | .inl z =>
          some (.inr z)
        | .inr _ =>
          some (.inl ())) fun z0 => match z0 with
      | .inl _ =>
        Option.bind (F_raddleref25_sums p0) fun r30 =>
        Option.bind (α := Bool) (
          if decide (200 < r30.1) then
            some true
          else
            some (decide (200 < r30.2))) fun o33 =>
        if o33 then
          some 4
        else
          some 0
      | .inr z =>
        some z
set_option maxHeartbeats 4000000 in
set_option maxRecDepth 100000 in
theorem c_raddleref25_All (E : Nat → Prop) (w0 : World) (p0 : (List api_Stitch)) (v0 : Value) (r : Int) (h : F_raddleref25_All p0 = some r) (S : St0 E [] w0 w0 [] [fRep (rL r_api_Stitch) (v0) p0]) :
    Calls Try.prog 42 #[v0] w0 (Ret (X := Unit) E [] w0 (fun _ => .int .i64 r) (fun _ => []) (fun _ => [])) := by
  unfold F_raddleref25_All at h
  obtain ⟨ad1, cp2, _, rfl, _⟩ := S.know (i := 0) (e := fRep (rL r_api_Stitch) (v0) p0) rfl
  refine sEnter (args := [.slice ad1 p0.length cp2]) 32 Try.func42 rfl rfl (by simp) S (fun a S => ?_)
  refine sSeq (fun K3 hK3 => ?_)
  refine sRegion ?_
  refine sMove (iv 0) S (wN rfl) (.inr rfl) rfl rfl (lb rfl) fun a S => ?_
  refine leafL (leafT (hK3 _ _ ?_))
  refine sSeq (fun K4 hK4 => ?_)
  refine sSeq (fun K5 hK5 => ?_)
  refine sRegion ?_
  refine sMove (.slice ad1 p0.length cp2) S (wN rfl) (.inl rfl) rfl rfl (lb rfl) fun a S => ?_
  refine sLen (ad := ad1) (m := p0.length) (c := cp2) S (wN rfl) rfl Try.underlying78 rfl rfl (lb rfl) fun a S => ?_
  refine sBin (.bool (decide (200 < (p0.length : Int)))) S (wN rfl) rfl rfl rfl (bGt _ _ _ _ .i64 (p0.length : Int) 200) rfl (lb rfl) fun a S => ?_
  refine leafL (leafT (hK5 _ _ ?_))
  rcases iteSome h with ⟨hc6, h⟩ | ⟨hc6, h⟩
  · refine sCondT S rfl hc6 ?_
    refine sSeq (fun K7 hK7 => ?_)
    refine sRegion ?_
    refine sMove (iv 4) S (wN rfl) (.inr rfl) rfl rfl (lb rfl) fun a S => ?_
    refine leafL (leafT (hK7 _ _ ?_))
    obtain rfl := Option.some.inj h
    exact wp_ret (rThen (sRet (iv 4) S (rsl1 rfl (rvT (t := 2) (v := iv 4) S rfl)) ⟨(), rfl, S.mem.sel [] [] (by decide) rfl rfl⟩))
  refine sCondF S rfl hc6 ?_
  refine wp_skip (leafT (hK4 _ _ ?_))
  obtain ⟨t8, h, g9⟩ := bindSome h
  refine sCut (fun a w => .inl () = t8 ∧ St [] E [] w0 32 a w [(0, .slice ad1 p0.length cp2)] [] [fRep (rL r_api_Stitch) (.slice ad1 p0.length cp2) p0]) ?_ (fun a w hI => ?_)
  rotate_left
  · obtain ⟨rfl, S⟩ := hI
    have h := g9
    clear g9
    try dsimp only at h
    refine sSeq (fun K29 hK29 => ?_)
    refine sRegion ?_
    refine sMove (.slice ad1 p0.length cp2) S (wN rfl) (.inl rfl) rfl rfl (lb rfl) fun a S => ?_
    obtain ⟨r30, hx31, h⟩ := bindSome h
    have S1 := S.mem
    refine sCallQ (X := Unit) (f := 62) (vs := [.slice ad1 p0.length cp2]) (val := fun _ => .tuple #[iv r30.1, iv r30.2]) S (wN rfl) rfl callee62 rfl (S1.quiet [0] rfl) (fun E1 w1 S1 => c_raddleref25_sums E1 w1 p0 (.slice ad1 p0.length cp2) r30 hx31 S1) rfl (lb rfl) fun _ a w S => ?_
    refine sMove (.tuple #[iv r30.1, iv r30.2]) S (wN rfl) (.inl rfl) rfl rfl (lb rfl) fun a S => ?_
    refine sExtract (vs := [iv r30.1, iv r30.2]) (iv r30.1) S (wN rfl) rfl rfl rfl rfl (lb rfl) fun a S => ?_
    refine sExtract (vs := [iv r30.1, iv r30.2]) (iv r30.2) S (wN rfl) rfl rfl rfl rfl (lb rfl) fun a S => ?_
    refine sMove (iv r30.1) S (wN rfl) (.inr rfl) rfl rfl (lb rfl) fun a S => ?_
    refine sMove (iv r30.2) S (wN rfl) (.inr rfl) rfl rfl (lb rfl) fun a S => ?_
    refine leafL (leafT (hK29 _ _ ?_))
    refine sSeq (fun K32 hK32 => ?_)
    obtain ⟨t34, h, g35⟩ := bindSome h
    refine sCut (fun a w => ∃ o33, o33 = t34 ∧ St [] E [] w0 32 a w [(31, .bool o33)] [] []) ?_ (fun a w hI => ?_)
    rotate_left
    · obtain ⟨o33, rfl, S⟩ := hI
      have h := g35
      clear g35
      try dsimp only at h
      rcases iteSome h with ⟨hc37, h⟩ | ⟨hc37, h⟩
      · refine sCondT S rfl hc37 ?_
        refine sSeq (fun K38 hK38 => ?_)
        refine sRegion ?_
        refine sMove (iv 4) S (wN rfl) (.inr rfl) rfl rfl (lb rfl) fun a S => ?_
        refine leafL (leafT (hK38 _ _ ?_))
        obtain rfl := Option.some.inj h
        exact wp_ret (rThen (sRet (iv 4) S (rsl1 rfl (rvT (t := 2) (v := iv 4) S rfl)) ⟨(), rfl, S.mem.sel [] [] (by decide) rfl rfl⟩))
      refine sCondF S rfl hc37 ?_
      refine wp_skip (leafT (hK32 _ _ ?_))
      refine sSeq (fun K39 hK39 => ?_)
      refine sRegion ?_
      refine sMove (iv 0) S (wN rfl) (.inr rfl) rfl rfl (lb rfl) fun a S => ?_
      refine leafL (leafT (hK39 _ _ ?_))
      obtain rfl := Option.some.inj h
      exact wp_ret (sRet (iv 0) S (rsl1 rfl (rvT (t := 2) (v := iv 0) S rfl)) ⟨(), rfl, S.mem.sel [] [] (by decide) rfl rfl⟩)
    refine sRegion ?_
    refine sMove (iv r30.1) S (wN rfl) (.inl rfl) rfl rfl (lb rfl) fun a S => ?_
    refine sBin (.bool (decide (200 < r30.1))) S (wN rfl) rfl rfl rfl (bGt _ _ _ _ .i64 r30.1 200) rfl (lb rfl) fun a S => ?_
    refine sMove (.bool (decide (200 < r30.1))) S (wN rfl) (.inl rfl) rfl rfl (lb rfl) fun a S => ?_
    rcases iteSome h with ⟨hc36, h⟩ | ⟨hc36, h⟩
    · refine sSkip 2 false 28 29 S rfl rfl rfl hc36 rfl (lb rfl) fun a S => ?_
      refine sSkip 2 false 28 30 S rfl rfl rfl hc36 rfl (lb rfl) fun a S => ?_
      refine sPickT (.bool true) S (wN rfl) rfl rfl hc36 rfl rfl (lb rfl) fun a S => ?_
      exact leafL (leafT (⟨true, Option.some.inj h, S.fix [] [] (by decide) rfl rfl rfl⟩))
    refine sMove (iv r30.2) S (wG 2 false 28 rfl rfl rfl hc36) (.inl rfl) rfl rfl (lb rfl) fun a S => ?_
    refine sBin (.bool (decide (200 < r30.2))) S (wG 2 false 28 rfl rfl rfl hc36) rfl rfl rfl (bGt _ _ _ _ .i64 r30.2 200) rfl (lb rfl) fun a S => ?_
    refine sPickF (.bool (decide (200 < r30.2))) S (wN rfl) rfl rfl hc36 rfl rfl (lb rfl) fun a S => ?_
    exact leafL (leafT (⟨decide (200 < r30.2), Option.some.inj h, S.fix [] [] (by decide) rfl rfl rfl⟩))
  refine sSeq (fun K10 hK10 => ?_)
  refine sRegion ?_
  refine sMove (iv 0) S (wN rfl) (.inr rfl) rfl rfl (lb rfl) fun a S => ?_
  refine leafL (leafT (hK10 _ _ ?_))
  refine wp_block ?_
  obtain ⟨t14, hl, g13⟩ := bindSome h
  refine sLoop hl (fun s0 a w => match s0 with | s11 => St [] E [] w0 32 a w [(0, .slice ad1 p0.length cp2), (3, iv s11)] [] [fRep (rL r_api_Stitch) (.slice ad1 p0.length cp2) p0]) (S.fix [] [0] (by decide) rfl rfl rfl) ?_
  clear hl h
  intro s11 a w c0 hI h hu12
  unfold raddleref25_All_l1 at h
  dsimp only at h hI
  have S := hI
  refine sSeq (fun K15 hK15 => ?_)
  refine sSeq (fun K16 hK16 => ?_)
  refine sRegion ?_
  refine sMove (iv s11) S (wN rfl) (.inl rfl) rfl rfl (lb rfl) fun a S => ?_
  refine sMove (.slice ad1 p0.length cp2) S (wN rfl) (.inl rfl) rfl rfl (lb rfl) fun a S => ?_
  refine sLen (ad := ad1) (m := p0.length) (c := cp2) S (wN rfl) rfl Try.underlying78 rfl rfl (lb rfl) fun a S => ?_
  refine sBin (.bool (decide (s11 < (p0.length : Int)))) S (wN rfl) rfl rfl rfl (bLt _ _ _ _ .i64 s11 (p0.length : Int)) rfl (lb rfl) fun a S => ?_
  refine leafL (leafT (hK16 _ _ ?_))
  rcases iteSome h with ⟨hc17, h⟩ | ⟨hc17, h⟩
  rotate_left
  · refine sCondF S rfl hc17 ?_
    obtain rfl := Option.some.inj h
    obtain rfl := hu12 _ rfl
    have h := g13
    clear g13
    try dsimp only at h
    exact wp_exit (xThen (xThen (xHit (leafT (⟨Option.some.inj h, S.fix [] [0] (by decide) rfl rfl rfl⟩)))))
  refine sCondT S rfl hc17 ?_
  refine wp_skip (leafT (hK15 _ _ ?_))
  refine sSeq (fun K18 hK18 => ?_)
  refine wp_block ?_
  refine sSeq (fun K19 hK19 => ?_)
  refine sRegion ?_
  refine sMove (.slice ad1 p0.length cp2) S (wN rfl) (.inl rfl) rfl rfl (lb rfl) fun a S => ?_
  refine sMove (iv s11) S (wN rfl) (.inl rfl) rfl rfl (lb rfl) fun a S => ?_
  obtain ⟨x20, hx21, h⟩ := bindSome h
  obtain ⟨q22, hq23, S⟩ := pIdx (P := Try.prog) (r := r_api_Stitch) (v := .slice ad1 p0.length cp2) (xs := p0) (j := s11) 78 82 0 S Try.underlying78 rfl rfl hx21
  refine sIdxV (v := .slice ad1 p0.length cp2) (k := .i64) (j := s11) S (wN rfl) rfl rfl rfl hq23 rfl (lb rfl) fun a S => ?_
  obtain ⟨u24, S⟩ := pLoad (r := r_api_Stitch) (q := q22) (x := x20) 0 S rfl
  obtain rfl : u24 = .agg #[.int .u8 x20.Kind, .bool x20.Purl, iv x20.A, iv x20.B] := S.mem.know (i := 1) (e := fRep r_api_Stitch (u24) x20) rfl
  refine sLoadVN (vq := q22) 0 [.int .u8 x20.Kind, .bool x20.Purl, iv x20.A, iv x20.B] S (wN rfl) rfl rfl rfl rfl rfl rfl (lb rfl) fun a S => ?_
  obtain ⟨r25, hx26, h⟩ := bindSome h
  have S1 := S.mem
  refine sCallQ (X := Unit) (f := 61) (vs := [.agg #[.int .u8 x20.Kind, .bool x20.Purl, iv x20.A, iv x20.B]]) (val := fun _ => iv r25) S (wN rfl) rfl callee61 rfl (S1.quiet [1] rfl) (fun E1 w1 S1 => c_raddleref25_Check E1 w1 x20 (.agg #[.int .u8 x20.Kind, .bool x20.Purl, iv x20.A, iv x20.B]) r25 hx26 S1) rfl (lb rfl) fun _ a w S => ?_
  refine sBin (.bool (r25 != 0)) S (wN rfl) rfl rfl rfl (bNe _ _ _ _ .i64 r25 0) rfl (lb rfl) fun a S => ?_
  refine leafL (leafT (hK19 _ _ ?_))
  rcases iteSome h with ⟨hc27, h⟩ | ⟨hc27, h⟩
  rotate_left
  · refine sCondF S rfl hc27 ?_
    refine wp_skip (leafB (leafT (hK18 _ _ ?_)))
    refine sRegion ?_
    refine sMove (iv s11) S (wN rfl) (.inl rfl) rfl rfl (lb rfl) fun a S => ?_
    refine sBin (iv (w64 (s11 + 1))) S (wN rfl) rfl rfl rfl (bAdd _ _ _ _ s11 1) rfl (lb rfl) fun a S => ?_
    refine sMove (iv (w64 (s11 + 1))) S (wN rfl) (.inr rfl) rfl rfl (lb rfl) fun a S => ?_
    exact leafL (leafT (⟨w64 (s11 + 1), (Option.some.inj h).symm, (S.fix [] [3] (by decide) rfl rfl rfl)⟩))
  refine sCondT S rfl hc27 ?_
  refine sSeq (fun K28 hK28 => ?_)
  refine sRegion ?_
  refine sMove (iv 8) S (wN rfl) (.inr rfl) rfl rfl (lb rfl) fun a S => ?_
  refine leafL (leafT (hK28 _ _ ?_))
  obtain rfl := Option.some.inj h
  obtain rfl := hu12 _ rfl
  have h := g13
  clear g13
  try dsimp only at h
  obtain rfl := Option.some.inj h
  have h := g9
  clear g9
  try dsimp only at h
  obtain rfl := Option.some.inj h
  exact wp_ret (rBlock (rThen (rThen (rBlock (rThen (sRet (iv 8) S (rsl1 rfl (rvT (t := 2) (v := iv 8) S rfl)) ⟨(), rfl, S.mem.sel [] [] (by decide) rfl rfl⟩))))))

end Go.Proofs.Ytmedbnjhgkcndaa
namespace Go.Proofs.Ytmedbnjhgkcndaa
open Go.RowKit
set_option linter.unusedVariables false

/-- a loop by a count, whatever its state looks like -/
theorem loop_at {S σ τ : Type} {B : S → Option (S ⊕ τ)} (n : Nat) (st : Nat → σ → S) (I : Nat → σ → Prop) (Pt : τ → Prop) {s0 : σ} (h0 : I 0 s0)
    (step : ∀ k s, k < n → I k s → (∃ s', B (st k s) = some (.inl (st (k + 1) s')) ∧ I (k + 1) s') ∨ (∃ t, B (st k s) = some (.inr t) ∧ Pt t))
    (last : ∀ s, I n s → ∃ t, B (st n s) = some (.inr t) ∧ Pt t) : ∃ t, whileO B (st 0 s0) = some t ∧ Pt t := by
  have key : ∀ j k s, j + k = n → I k s → ∃ t, whileO B (st k s) = some t ∧ Pt t := by
    intro j
    induction j with
    | zero =>
      intro k s hk hI
      obtain rfl : k = n := by omega
      obtain ⟨t, h1, h2⟩ := last s hI
      exact ⟨t, whileO_done h1, h2⟩
    | succ j ih =>
      intro k s hk hI
      rcases step k s (by omega) hI with ⟨s', h1, h2⟩ | ⟨t, h1, h2⟩
      · rw [whileO_step h1]; exact ih _ _ (by omega) h2
      · exact ⟨t, whileO_done h1, h2⟩
  exact key n 0 s0 (by omega) h0
theorem whileO_none {σ τ : Type} {B : σ → Option (σ ⊕ τ)} {s : σ} (h : B s = none) : whileO B s = none := by
  cases hx : whileO B s with
  | none => rfl
  | some t =>
    obtain ⟨n, hn⟩ := whileO_some hx
    cases n with
    | zero => simp [iterO] at hn
    | succ n => rw [iterO, h] at hn; cases hn
theorem whileO_eq {σ τ : Type} (B : σ → Option (σ ⊕ τ)) (s : σ) : whileO B s = (B s).bind fun r => match r with | .inl s' => whileO B s' | .inr t => some t := by
  cases h : B s with
  | none => rw [whileO_none h]; rfl
  | some r =>
    cases r with
    | inl s' => rw [whileO_step h]; rfl
    | inr t => rw [whileO_done h]; rfl
/-- sums over a list -/
def sm {α : Type} (f : α → Int) : List α → Int
  | [] => 0
  | x :: l => f x + sm f l
theorem sm_append {α : Type} (f : α → Int) (l k : List α) : sm f (l ++ k) = sm f l + sm f k := by
  induction l with
  | nil => simp [sm]
  | cons x l ih => simp only [List.cons_append, sm, ih]; omega
theorem sm_take {α : Type} (f : α → Int) (l : List α) {k : Nat} (h : k < l.length) : sm f (l.take (k + 1)) = sm f (l.take k) + f l[k] := by
  rw [List.take_succ_eq_append_getElem h, sm_append]
  simp [sm]
theorem sm_bd {α : Type} {f : α → Int} {b : Int} {l : List α} (h : ∀ x, x ∈ l → 0 ≤ f x ∧ f x ≤ b) : 0 ≤ sm f l ∧ sm f l ≤ b * l.length := by
  induction l with
  | nil => simp [sm]
  | cons x l ih =>
    have h1 := h x (by simp)
    have h2 := ih fun y hy => h y (by simp [hy])
    simp only [sm, List.length_cons]
    have e : b * ((l.length + 1 : Nat) : Int) = b * l.length + b := by rw [Int.natCast_add, Int.mul_add]; simp
    rw [e]
    omega
def usedS (p : api_Stitch) : Int := if p.Kind = 2 ∨ p.Kind = 9 then 0 else if p.Kind = 3 ∨ p.Kind = 4 ∨ p.Kind = 10 then p.A else if p.Kind = 6 ∨ p.Kind = 7 then p.A + p.B else 1
def madeS (p : api_Stitch) : Int := if p.Kind = 10 then 0 else if p.Kind = 5 ∨ p.Kind = 9 then p.A else if p.Kind = 6 ∨ p.Kind = 7 then p.A + p.B else 1
def okS (p : api_Stitch) : Prop :=
  (p.Kind = 1 ∨ p.Kind = 8) ∧ p.A = 0 ∧ p.B = 0 ∨ p.Kind = 2 ∧ p.A = 0 ∧ p.B = 0 ∧ p.Purl = false ∨ (p.Kind = 3 ∨ p.Kind = 4 ∨ p.Kind = 5) ∧ 2 ≤ p.A ∧ p.A ≤ 4 ∧ p.B = 0 ∨
  (p.Kind = 6 ∨ p.Kind = 7) ∧ 1 ≤ p.A ∧ p.A ≤ 6 ∧ 1 ≤ p.B ∧ p.B ≤ 6 ∨ p.Kind = 9 ∧ 1 ≤ p.A ∧ p.A ≤ 200 ∧ p.B = 0 ∧ p.Purl = false ∨ p.Kind = 10 ∧ 1 ≤ p.A ∧ p.A ≤ 200 ∧ p.B = 0
instance (p : api_Stitch) : Decidable (okS p) := by unfold okS; infer_instance
theorem okS_bd {p : api_Stitch} (h : okS p) : 1 ≤ p.Kind ∧ p.Kind ≤ 10 ∧ 0 ≤ p.A ∧ p.A ≤ 200 ∧ 0 ≤ p.B ∧ p.B ≤ 6 := by
  unfold okS at h
  omega
theorem usedS_bd {p : api_Stitch} (h : okS p) : 0 ≤ usedS p ∧ usedS p ≤ 200 := by
  have hb := okS_bd h
  unfold okS at h
  unfold usedS
  split
  · omega
  · split
    · omega
    · split <;> omega
theorem madeS_bd {p : api_Stitch} (h : okS p) : 0 ≤ madeS p ∧ madeS p ≤ 200 := by
  have hb := okS_bd h
  unfold okS at h
  unfold madeS
  split
  · omega
  · split
    · omega
    · split <;> omega
theorem check_form (p : api_Stitch) (f : stitch_form) (h : F_stitch_forms p.Kind = some (f, true)) :
    F_stitch_Check p = some (if (f.a.1 ≤ p.A ∧ p.A ≤ f.a.2) ∧ (f.b.1 ≤ p.B ∧ p.B ≤ f.b.2) ∧ (p.Purl = true → f.sided = true) then 0 else 8) := by
  unfold F_stitch_Check F_stitch_within
  rw [h]
  by_cases a1 : f.a.1 ≤ p.A <;> by_cases a2 : p.A ≤ f.a.2 <;> by_cases b1 : f.b.1 ≤ p.B <;> by_cases b2 : p.B ≤ f.b.2 <;> cases hp : p.Purl <;> cases hs : f.sided <;> simp [a1, a2, b1, b2, hs]
theorem ifc {α : Type} {c d : Prop} [Decidable c] [Decidable d] {a b : α} (h : c ↔ d) : (if c then a else b) = if d then a else b := by
  by_cases hc : c
  · rw [if_pos hc, if_pos (h.1 hc)]
  · rw [if_neg hc, if_neg (fun hd => hc (h.2 hd))]
theorem kinds {x : Int} (h : 0 ≤ x ∧ x ≤ 255) : x = 0 ∨ x = 1 ∨ x = 2 ∨ x = 3 ∨ x = 4 ∨ x = 5 ∨ x = 6 ∨ x = 7 ∨ x = 8 ∨ x = 9 ∨ x = 10 ∨ 10 < x := by omega
theorem forms_none {x : Int} (h : 10 < x ∧ x ≤ 255) : ∃ f, F_stitch_forms x = some (f, false) := by
  unfold F_stitch_forms
  have hw : IntKind.i64.wrap x = x := w64_of (by omega) (by omega)
  simp only [dF (show ¬ x < 1 by omega), hw, Bool.false_eq_true, if_false, Option.bind_some, List.length_cons, List.length_nil]
  rw [dT (show ((0 + 1 + 1 + 1 + 1 + 1 + 1 + 1 + 1 + 1 + 1 : Nat) : Int) < x by omega)]
  exact ⟨_, rfl⟩
theorem check_none {p : api_Stitch} {f : stitch_form} (h : F_stitch_forms p.Kind = some (f, false)) : F_stitch_Check p = some 8 := by
  unfold F_stitch_Check
  rw [h]
  simp
theorem check_eq (p : api_Stitch) (hk : 0 ≤ p.Kind ∧ p.Kind ≤ 255) : F_stitch_Check p = some (if okS p then 0 else 8) := by
  rcases kinds hk with h | h | h | h | h | h | h | h | h | h | h | h
  · rw [check_none (f := ⟨⟨#[]⟩, (0, 0), (0, 0), false, 0, 0⟩) (by rw [h]; rfl), if_neg (by unfold okS; omega)]
  · rw [check_form p _ (by rw [h]; rfl)]; cases hp : p.Purl <;> exact congrArg some (ifc (by simp [okS, h]; omega))
  · rw [check_form p _ (by rw [h]; rfl)]; cases hp : p.Purl <;> exact congrArg some (ifc (by simp [okS, h, hp] <;> omega))
  · rw [check_form p _ (by rw [h]; rfl)]; cases hp : p.Purl <;> exact congrArg some (ifc (by simp [okS, h]; omega))
  · rw [check_form p _ (by rw [h]; rfl)]; cases hp : p.Purl <;> exact congrArg some (ifc (by simp [okS, h]; omega))
  · rw [check_form p _ (by rw [h]; rfl)]; cases hp : p.Purl <;> exact congrArg some (ifc (by simp [okS, h]; omega))
  · rw [check_form p _ (by rw [h]; rfl)]; cases hp : p.Purl <;> exact congrArg some (ifc (by simp [okS, h]; omega))
  · rw [check_form p _ (by rw [h]; rfl)]; cases hp : p.Purl <;> exact congrArg some (ifc (by simp [okS, h]; omega))
  · rw [check_form p _ (by rw [h]; rfl)]; cases hp : p.Purl <;> exact congrArg some (ifc (by simp [okS, h]; omega))
  · rw [check_form p _ (by rw [h]; rfl)]; cases hp : p.Purl <;> exact congrArg some (ifc (by simp [okS, h, hp] <;> omega))
  · rw [check_form p _ (by rw [h]; rfl)]; cases hp : p.Purl <;> exact congrArg some (ifc (by simp [okS, h]; omega))
  · obtain ⟨f, hf⟩ := forms_none ⟨h, hk.2⟩
    rw [check_none hf, if_neg (by unfold okS; omega)]
theorem rstitch_eq (p : api_Stitch) : F_raddleref25_Check p = some (if okS p then 0 else 8) := by
  have e3 : (if (p.A == 0) = true then some (p.B == 0) else some false) = some (p.A == 0 && p.B == 0) := by cases h : (p.A == 0) <;> simp
  unfold F_raddleref25_Check
  rw [e3, Option.bind_some]
  by_cases k1 : p.Kind = 1
  · by_cases hA : p.A = 0 <;> by_cases hB : p.B = 0 <;> simp [k1, hA, hB, okS]
  by_cases k8 : p.Kind = 8
  · by_cases hA : p.A = 0 <;> by_cases hB : p.B = 0 <;> simp [k8, hA, hB, okS]
  by_cases k2 : p.Kind = 2
  · by_cases hA : p.A = 0 <;> by_cases hB : p.B = 0 <;> cases hp : p.Purl <;> simp [k2, hA, hB, hp, okS]
  by_cases k3 : p.Kind = 3
  · by_cases h1 : 2 ≤ p.A <;> by_cases h2 : p.A ≤ 4 <;> by_cases hB : p.B = 0 <;> simp [k3, h1, h2, hB, okS]
  by_cases k4 : p.Kind = 4
  · by_cases h1 : 2 ≤ p.A <;> by_cases h2 : p.A ≤ 4 <;> by_cases hB : p.B = 0 <;> simp [k4, h1, h2, hB, okS]
  by_cases k5 : p.Kind = 5
  · by_cases h1 : 2 ≤ p.A <;> by_cases h2 : p.A ≤ 4 <;> by_cases hB : p.B = 0 <;> simp [k5, h1, h2, hB, okS]
  by_cases k6 : p.Kind = 6
  · by_cases h1 : 1 ≤ p.A <;> by_cases h2 : p.A ≤ 6 <;> by_cases h3 : 1 ≤ p.B <;> by_cases h4 : p.B ≤ 6 <;> simp [k6, h1, h2, h3, h4, okS]
  by_cases k7 : p.Kind = 7
  · by_cases h1 : 1 ≤ p.A <;> by_cases h2 : p.A ≤ 6 <;> by_cases h3 : 1 ≤ p.B <;> by_cases h4 : p.B ≤ 6 <;> simp [k7, h1, h2, h3, h4, okS]
  by_cases k9 : p.Kind = 9
  · by_cases h1 : 1 ≤ p.A <;> by_cases h2 : p.A ≤ 200 <;> by_cases hB : p.B = 0 <;> cases hp : p.Purl <;> simp [k9, h1, h2, hB, hp, okS]
  by_cases k10 : p.Kind = 10
  · by_cases h1 : 1 ≤ p.A <;> by_cases h2 : p.A ≤ 200 <;> by_cases hB : p.B = 0 <;> simp [k10, h1, h2, hB, okS]
  have hn : ¬ okS p := by unfold okS; omega
  simp [k1, k2, k3, k4, k5, k6, k7, k8, k9, k10, hn]
theorem form_ok {p : api_Stitch} (h : okS p) : ∃ f, F_stitch_forms p.Kind = some (f, true) ∧ F_stitch_loops p f.uses = some (usedS p) ∧ F_stitch_loops p f.made = some (madeS p) := by
  have hb := okS_bd h
  have hw : w64 (p.A + p.B) = p.A + p.B := w64_of (by omega) (by omega)
  have l0 : F_stitch_loops p 0 = some 0 := rfl
  have l1 : F_stitch_loops p 1 = some 1 := rfl
  have l2 : F_stitch_loops p 2 = some p.A := rfl
  have l3 : F_stitch_loops p 3 = some (p.A + p.B) := by rw [← hw]; rfl
  rcases kinds (x := p.Kind) (by omega) with k | k | k | k | k | k | k | k | k | k | k | k
  · omega
  · exact ⟨⟨⟨#[]⟩, (0, 0), (0, 0), true, 1, 1⟩, by rw [k]; rfl, by rw [l1]; simp [usedS, k], by rw [l1]; simp [madeS, k]⟩
  · exact ⟨⟨⟨#[]⟩, (0, 0), (0, 0), false, 0, 1⟩, by rw [k]; rfl, by rw [l0]; simp [usedS, k], by rw [l1]; simp [madeS, k]⟩
  · exact ⟨⟨⟨#[102]⟩, (2, 4), (0, 0), true, 2, 1⟩, by rw [k]; rfl, by rw [l2]; simp [usedS, k], by rw [l1]; simp [madeS, k]⟩
  · exact ⟨⟨⟨#[108]⟩, (2, 4), (0, 0), true, 2, 1⟩, by rw [k]; rfl, by rw [l2]; simp [usedS, k], by rw [l1]; simp [madeS, k]⟩
  · exact ⟨⟨⟨#[109]⟩, (2, 4), (0, 0), true, 1, 2⟩, by rw [k]; rfl, by rw [l1]; simp [usedS, k], by rw [l2]; simp [madeS, k]⟩
  · exact ⟨⟨⟨#[120]⟩, (1, 6), (1, 6), true, 3, 3⟩, by rw [k]; rfl, by rw [l3]; simp [usedS, k], by rw [l3]; simp [madeS, k]⟩
  · exact ⟨⟨⟨#[121]⟩, (1, 6), (1, 6), true, 3, 3⟩, by rw [k]; rfl, by rw [l3]; simp [usedS, k], by rw [l3]; simp [madeS, k]⟩
  · exact ⟨⟨⟨#[115]⟩, (0, 0), (0, 0), true, 1, 1⟩, by rw [k]; rfl, by rw [l1]; simp [usedS, k], by rw [l1]; simp [madeS, k]⟩
  · exact ⟨⟨⟨#[]⟩, (1, 200), (0, 0), false, 0, 2⟩, by rw [k]; rfl, by rw [l0]; simp [usedS, k], by rw [l2]; simp [madeS, k]⟩
  · exact ⟨⟨⟨#[111]⟩, (1, 200), (0, 0), true, 2, 0⟩, by rw [k]; rfl, by rw [l2]; simp [usedS, k], by rw [l0]; simp [madeS, k]⟩
  · omega
theorem rused_eq {p : api_Stitch} (h : okS p) : F_raddleref25_Used p = some (usedS p) := by
  have hb := okS_bd h
  have hw : w64 (p.A + p.B) = p.A + p.B := w64_of (by omega) (by omega)
  unfold F_raddleref25_Used usedS
  rcases kinds (x := p.Kind) (by omega) with k | k | k | k | k | k | k | k | k | k | k | k <;> first | omega | simp [k, hw]
theorem rgives_eq {p : api_Stitch} (h : okS p) : F_raddleref25_Gives p = some (madeS p) := by
  have hb := okS_bd h
  have hw : w64 (p.A + p.B) = p.A + p.B := w64_of (by omega) (by omega)
  unfold F_raddleref25_Gives madeS
  rcases kinds (x := p.Kind) (by omega) with k | k | k | k | k | k | k | k | k | k | k | k <;> first | omega | simp [k, hw]
/-- lists of stitches -/
def allOk (l : List api_Stitch) : Prop := ∀ p, p ∈ l → okS p
instance (l : List api_Stitch) : Decidable (allOk l) := by unfold allOk; infer_instance
def wfS (p : api_Stitch) : Prop := 0 ≤ p.Kind ∧ p.Kind ≤ 255
theorem used_bd {l : List api_Stitch} (h : allOk l) : 0 ≤ sm usedS l ∧ sm usedS l ≤ 200 * l.length := sm_bd fun _ hx => usedS_bd (h _ hx)
theorem made_bd {l : List api_Stitch} (h : allOk l) : 0 ≤ sm madeS l ∧ sm madeS l ≤ 200 * l.length := sm_bd fun _ hx => madeS_bd (h _ hx)
theorem take_ok {l : List api_Stitch} (h : allOk l) (k : Nat) : allOk (l.take k) := fun _ hx => h _ (List.mem_of_mem_take hx)
theorem sum_step {l : List api_Stitch} (h : allOk l) (hl : l.length ≤ 100000) {k : Nat} (hk : k < l.length) :
    w64 (sm usedS (l.take k) + usedS l[k]) = sm usedS (l.take (k + 1)) ∧ w64 (sm madeS (l.take k) + madeS l[k]) = sm madeS (l.take (k + 1)) := by
  have h1 := used_bd (take_ok h k)
  have h2 := made_bd (take_ok h k)
  have h3 := usedS_bd (h _ (List.getElem_mem hk))
  have h4 := madeS_bd (h _ (List.getElem_mem hk))
  have hlen : (l.take k).length ≤ 100000 := by rw [List.length_take]; omega
  rw [sm_take _ _ hk, sm_take _ _ hk]
  exact ⟨w64_of (by omega) (by omega), w64_of (by omega) (by omega)⟩
theorem sum_eq {l : List api_Stitch} (h : allOk l) (hl : l.length ≤ 100000) : F_stitch_sum l = some (sm usedS l, sm madeS l) := by
  have key : ∃ t, whileO (stitch_sum_l1 l) (0, 0, 0) = some t ∧ t = (sm usedS l, sm madeS l) := by
    refine loop_at (σ := Unit) l.length (fun k _ => (sm usedS (l.take k), sm madeS (l.take k), (k : Int))) (fun _ _ => True) _ (s0 := ()) trivial ?_ ?_
    · intro k _ hk _
      refine .inl ⟨(), ?_, trivial⟩
      obtain ⟨f, f1, f2, f3⟩ := form_ok (h _ (List.getElem_mem hk))
      have hs := sum_step h hl hk
      unfold stitch_sum_l1
      simp only [dT (show (k : Int) < (l.length : Int) by omega), if_true, idxO_nat hk, Option.bind_some, f1, f2, f3, hs.1, hs.2, w64_succ (show k < 9223372036854775807 by omega)]
    · intro _ _
      refine ⟨_, ?_, rfl⟩
      unfold stitch_sum_l1
      simp only [dF (show ¬ (l.length : Int) < (l.length : Int) by omega), Bool.false_eq_true, if_false, List.take_length]
  obtain ⟨t, h1, rfl⟩ := key
  unfold F_stitch_sum
  rw [h1]; rfl
theorem rsums_eq {l : List api_Stitch} (h : allOk l) (hl : l.length ≤ 100000) : F_raddleref25_sums l = some (sm usedS l, sm madeS l) := by
  have key : ∃ t, whileO (raddleref25_sums_l1 l) (0, 0, 0) = some t ∧ t = (sm usedS l, sm madeS l) := by
    refine loop_at (σ := Unit) l.length (fun k _ => (sm usedS (l.take k), sm madeS (l.take k), (k : Int))) (fun _ _ => True) _ (s0 := ()) trivial ?_ ?_
    · intro k _ hk _
      refine .inl ⟨(), ?_, trivial⟩
      have hs := sum_step h hl hk
      unfold raddleref25_sums_l1
      simp only [dT (show (k : Int) < (l.length : Int) by omega), if_true, idxO_nat hk, Option.bind_some, rused_eq (h _ (List.getElem_mem hk)), rgives_eq (h _ (List.getElem_mem hk)), hs.1, hs.2, w64_succ (show k < 9223372036854775807 by omega)]
    · intro _ _
      refine ⟨_, ?_, rfl⟩
      unfold raddleref25_sums_l1
      simp only [dF (show ¬ (l.length : Int) < (l.length : Int) by omega), Bool.false_eq_true, if_false, List.take_length]
  obtain ⟨t, h1, rfl⟩ := key
  unfold F_raddleref25_sums
  rw [h1]; rfl
/-- the error of a list -/
def allS (l : List api_Stitch) : Int := if 200 < l.length then 4 else if allOk l then (if 200 < sm usedS l ∨ 200 < sm madeS l then 4 else 0) else 8
theorem allOk_range {l : List api_Stitch} : (List.range l.length).all (fun k => decide (okS (l.getD k ⟨0, false, 0, 0⟩))) = true ↔ allOk l := by
  rw [List.all_eq_true]
  constructor
  · intro h p hp
    obtain ⟨k, hk, rfl⟩ := List.getElem_of_mem hp
    have := h k (List.mem_range.2 hk)
    simpa [hk] using this
  · intro h k hk
    have hk := List.mem_range.1 hk
    have := h _ (List.getElem_mem hk)
    simpa [hk] using this
theorem getD_of {α : Type} {l : List α} {k : Nat} (d : α) (h : k < l.length) : l.getD k d = l[k] := by simp [h]
theorem find_bad {l : List api_Stitch} (hw : ∀ p, p ∈ l → wfS p) (hl : l.length ≤ 100000) : ∃ j, F_slices_IndexFunc___api_Stitch_api_Stitch__s0 l = some j ∧ (0 ≤ j ↔ ¬ allOk l) := by
  have key : ∃ t, whileO (slices_IndexFunc___api_Stitch_api_Stitch__s0_l1 l) 0 = some t ∧ ((t = .inr () ∧ allOk l) ∨ (∃ k : Nat, t = .inl (k : Int) ∧ ¬ allOk l)) := by
    refine loop_ix l.length (fun k => allOk (l.take k)) _ (fun p hp => by simp at hp) ?_ ?_
    · intro k hk hI
      have hc := check_eq l[k] (hw _ (List.getElem_mem hk))
      unfold slices_IndexFunc___api_Stitch_api_Stitch__s0_l1 F_stitch_All_1
      simp only [dT (show (k : Int) < (l.length : Int) by omega), if_true, idxO_nat hk, Option.bind_some, hc, w64_succ (show k < 9223372036854775807 by omega)]
      by_cases ho : okS l[k]
      · refine .inl ⟨by simp [ho], fun p hp => ?_⟩
        rw [List.take_succ_eq_append_getElem hk, List.mem_append] at hp
        rcases hp with hp | hp
        · exact hI p hp
        · simp at hp; subst hp; exact ho
      · exact .inr ⟨.inl (k : Int), by simp [ho], .inr ⟨k, rfl, fun h => ho (h _ (List.getElem_mem hk))⟩⟩
    · intro hI
      refine ⟨.inr (), ?_, .inl ⟨rfl, by simpa using hI⟩⟩
      unfold slices_IndexFunc___api_Stitch_api_Stitch__s0_l1
      simp only [dF (show ¬ (l.length : Int) < (l.length : Int) by omega), Bool.false_eq_true, if_false]
  obtain ⟨t, h1, h2⟩ := key
  unfold F_slices_IndexFunc___api_Stitch_api_Stitch__s0
  rw [h1]
  rcases h2 with ⟨rfl, h⟩ | ⟨k, rfl, h⟩
  · exact ⟨-1, rfl, by simp [h]⟩
  · exact ⟨(k : Int), rfl, by simp [h]⟩
theorem all_eq {l : List api_Stitch} (hw : ∀ p, p ∈ l → wfS p) : F_stitch_All l = some (allS l) := by
  unfold F_stitch_All allS
  by_cases hl : 200 < l.length
  · simp only [dT (show (200 : Int) < (l.length : Int) by omega), if_true, if_pos hl]
  simp only [dF (show ¬ (200 : Int) < (l.length : Int) by omega), Bool.false_eq_true, if_false, if_neg hl]
  obtain ⟨j, h1, h2⟩ := find_bad hw (by omega)
  unfold F_slices_ContainsFunc___api_Stitch_api_Stitch__s0
  rw [h1]
  by_cases ho : allOk l
  · have : ¬ 0 ≤ j := fun h => h2.1 h ho
    simp only [Option.bind_some, dF this, Bool.false_eq_true, if_false, sum_eq ho (show l.length ≤ 100000 by omega), if_pos ho]
    by_cases hm : 200 < sm usedS l ∨ 200 < sm madeS l
    · rw [dT (show (200 : Int) < if sm usedS l < sm madeS l then sm madeS l else sm usedS l by split <;> omega)]
      simp [hm]
    · rw [dF (show ¬ (200 : Int) < if sm usedS l < sm madeS l then sm madeS l else sm usedS l by split <;> omega)]
      simp [hm]
  · have : 0 ≤ j := h2.2 ho
    simp only [Option.bind_some, dT this, if_true, if_neg ho]
theorem rall_eq (l : List api_Stitch) : F_raddleref25_All l = some (allS l) := by
  unfold F_raddleref25_All allS
  by_cases hl : 200 < l.length
  · simp only [dT (show (200 : Int) < (l.length : Int) by omega), if_true, if_pos hl]
  simp only [dF (show ¬ (200 : Int) < (l.length : Int) by omega), Bool.false_eq_true, if_false, if_neg hl]
  have hloop : whileO (raddleref25_All_l1 l) 0 = some (if (List.range l.length).all (fun k => decide (okS (l.getD k ⟨0, false, 0, 0⟩))) = true then .inr () else .inl 8) := by
    refine loop_all l.length _ _ _ ?_ ?_
    · intro k hk
      unfold raddleref25_All_l1
      simp only [dT (show (k : Int) < (l.length : Int) by omega), if_true, idxO_nat hk, Option.bind_some, rstitch_eq, w64_succ (show k < 9223372036854775807 by omega), getD_of _ hk]
      by_cases ho : okS l[k] <;> simp [ho]
    · unfold raddleref25_All_l1
      simp only [dF (show ¬ (l.length : Int) < (l.length : Int) by omega), Bool.false_eq_true, if_false]
  rw [hloop]
  by_cases ho : allOk l
  · rw [if_pos (allOk_range.2 ho), if_pos ho]
    simp only [Option.bind_some, rsums_eq ho (show l.length ≤ 100000 by omega)]
    by_cases hu : 200 < sm usedS l
    · simp [hu]
    · by_cases hm : 200 < sm madeS l <;> simp [hu, hm]
  · rw [if_neg (fun h => ho (allOk_range.1 h)), if_neg ho]
    rfl
theorem allS_ok {l : List api_Stitch} (h : allS l = 0) : l.length ≤ 200 ∧ allOk l ∧ sm usedS l ≤ 200 ∧ sm madeS l ≤ 200 := by
  unfold allS at h
  split at h
  · omega
  · split at h
    · rename_i h1 h2
      split at h
      · omega
      · rename_i h3
        exact ⟨by omega, h2, by omega, by omega⟩
    · omega
def fin3 {σ τ : Type} (z0 : (σ ⊕ τ) ⊕ σ) : Option (σ ⊕ τ) := match z0 with
  | .inl z => some z
  | .inr g => some (.inl g)

end Go.Proofs.Ytmedbnjhgkcndaa
namespace Go.Proofs.Ytmedbnjhgkcndaa
open Go.RowKit
set_option linter.unusedVariables false

noncomputable def F_slices_Backward___api_Stitch_api_Stitch_ (p0 : (List api_Stitch)) : Option (List api_Stitch) :=
  some p0
def c_slices_Backward___api_Stitch_api_Stitch__val (r : (List api_Stitch)) (x : Value) : Value := .func (.func 72) #[] #[x]
def c_slices_Backward___api_Stitch_api_Stitch__D (r : (List api_Stitch)) (x : Value) : List Fact := [fPtr (rL r_api_Stitch) x r]
set_option maxHeartbeats 4000000 in
set_option maxRecDepth 100000 in
theorem c_slices_Backward___api_Stitch_api_Stitch_ (E : Nat → Prop) (w0 : World) (p0 : (List api_Stitch)) (v0 : Value) (r : (List api_Stitch)) (h : F_slices_Backward___api_Stitch_api_Stitch_ p0 = some r) (S : St0 E [] w0 w0 [] [fRep (rL r_api_Stitch) (v0) p0]) :
    Calls Try.prog 52 #[v0] w0 (Ret (X := Value) E [] w0 (c_slices_Backward___api_Stitch_api_Stitch__val r) (fun _ => []) (c_slices_Backward___api_Stitch_api_Stitch__D r)) := by
  unfold F_slices_Backward___api_Stitch_api_Stitch_ at h
  obtain ⟨ad1, cp2, _, rfl, _⟩ := S.know (i := 0) (e := fRep (rL r_api_Stitch) (v0) p0) rfl
  refine sEnter (args := [.slice ad1 p0.length cp2]) 4 Try.func52 rfl rfl (by simp) S (fun a S => ?_)
  refine sSeq (fun K3 hK3 => ?_)
  refine sRegion ?_
  refine sBox (v := .slice ad1 p0.length cp2) S (wN rfl) rfl rfl [.slice ad1 p0.length cp2] rfl rfl (lb rfl) fun a b4 w S => ?_
  refine sMove (.nilFunc) S (wN rfl) (.inr rfl) rfl rfl (lb rfl) fun a S => ?_
  refine leafL (leafT (hK3 _ _ ?_))
  refine sSeq (fun K5 hK5 => ?_)
  refine sRegion ?_
  refine sFunc (g := 72) (vs := [.pointer (some ⟨b4, 0, none⟩)]) S (wN rfl) rfl rfl rfl (lb rfl) fun a S => ?_
  refine sMove (.func (.func 72) #[] #[.pointer (some ⟨b4, 0, none⟩)]) S (wN rfl) (.inr rfl) rfl rfl (lb rfl) fun a S => ?_
  refine leafL (leafT (hK5 _ _ ?_))
  have S := S.shutB (r := (rL r_api_Stitch)) (T := 78) (b := b4) (cs := [.slice ad1 p0.length cp2]) 0 (.slice ad1 p0.length cp2) p0 rfl rfl (S.mem.know (i := 0) (e := fRep (rL r_api_Stitch) (.slice ad1 p0.length cp2) p0) rfl)
  obtain rfl := Option.some.inj h
  exact wp_ret (sRet (.func (.func 72) #[] #[.pointer (some ⟨b4, 0, none⟩)]) S (rsl1 rfl (rvT (t := 2) (v := .func (.func 72) #[] #[.pointer (some ⟨b4, 0, none⟩)]) S rfl)) ⟨(.pointer (some ⟨b4, 0, none⟩)), rfl, S.mem.sel [] [0] (by decide) rfl rfl⟩)

end Go.Proofs.Ytmedbnjhgkcndaa
namespace Go.Proofs.Ytmedbnjhgkcndaa
open Go.RowKit
set_option linter.unusedVariables false

noncomputable def slices_Backward___api_Stitch_api_Stitch__1_l1 {σ τ : Type} (p0 : (List api_Stitch)) (B : σ → (Int × api_Stitch) → Option (σ ⊕ τ)) : (Int × σ) → Option ((Int × σ) ⊕ ((σ ⊕ τ) ⊕ (σ))) := fun s0 => match s0 with
  | (s5, gz6) =>
    if decide (0 ≤ s5) then
      Option.bind (idxO p0 s5) fun x20 =>
      Option.bind (B gz6 (s5, x20)) fun y25 =>
      match y25 with
      | .inl gz27 =>
        some (.inl (w64 (s5 - 1), gz27))
      | .inr tz28 =>
        some (.inr (.inl (.inr tz28)))
    else
      some (.inr (.inr gz6))
noncomputable def I_slices_Backward___api_Stitch_api_Stitch__1 (p0 : (List api_Stitch)) (σ τ : Type) (B : σ → (Int × api_Stitch) → Option (σ ⊕ τ)) (gz0 : σ) : Option (σ ⊕ τ) :=
  Option.bind (whileO (slices_Backward___api_Stitch_api_Stitch__1_l1 p0 B) (w64 ((p0.length : Int) - 1), gz0)) fun z0 => match z0 with
    | .inl z =>
      some z
    | .inr gz10 =>
      some (.inl gz10)
set_option maxHeartbeats 4000000 in
set_option maxRecDepth 100000 in
theorem it_slices_Backward___api_Stitch_api_Stitch__1 (p0 : (List api_Stitch)) (v0 : Value) : SeqF Try.prog 72 #[v0] (fA2 (rI .i64) r_api_Stitch) (I_slices_Backward___api_Stitch_api_Stitch__1 p0) [fPtr (rL r_api_Stitch) (v0) p0] := by
  refine seqF_of (lb := [v0]) (fun σ τ B gz0 r h l J Jx E w0 hC S hJ => ?_)
  unfold I_slices_Backward___api_Stitch_api_Stitch__1 at h
  refine sEnterI (args := [.func (.yield l) #[] #[], v0]) 19 Try.func72 rfl rfl (by simp) S (fun a S => ?_)
  refine sSeq (fun K1 hK1 => ?_)
  refine sRegion ?_
  obtain ⟨u2, S⟩ := pLoad (r := (rL r_api_Stitch)) (q := v0) (x := p0) 0 S rfl
  obtain ⟨ad3, cp4, _, rfl, _⟩ := S.mem.know (i := 1) (e := fRep (rL r_api_Stitch) (u2) p0) rfl
  refine sLoadV1 (vq := v0) 0 (.slice ad3 p0.length cp4) S (wN rfl) rfl rfl rfl rfl rfl (lb rfl) fun a S => ?_
  refine sLen (ad := ad3) (m := p0.length) (c := cp4) S (wN rfl) rfl Try.underlying78 rfl rfl (lb rfl) fun a S => ?_
  refine sBin (iv (w64 ((p0.length : Int) - 1))) S (wN rfl) rfl rfl rfl (bSub _ _ _ _ (p0.length : Int) 1) rfl (lb rfl) fun a S => ?_
  refine sMove (iv (w64 ((p0.length : Int) - 1))) S (wN rfl) (.inr rfl) rfl rfl (lb rfl) fun a S => ?_
  refine leafL (leafT (hK1 _ _ ?_))
  refine wp_block ?_
  obtain ⟨t9, hl, g8⟩ := bindSome h
  refine sLoop hl (fun s0 a w => match s0 with | (s5, gz6) => ∃ E w0, J gz6 E w0 ∧ St [] E [] w0 19 a w [(0, .func (.yield l) #[] #[]), (1, v0), (3, iv s5)] [] [fPtr (rL r_api_Stitch) (v0) p0]) ⟨_, _, hJ, S.fix [] [2] (by decide) rfl rfl rfl⟩ ?_
  clear hl h
  intro s0 a w c0 hI h hu7
  obtain ⟨s5, gz6⟩ := s0
  unfold slices_Backward___api_Stitch_api_Stitch__1_l1 at h
  dsimp only at h hI
  obtain ⟨E, w0, hJ, S⟩ := hI
  refine sSeq (fun K11 hK11 => ?_)
  refine sSeq (fun K12 hK12 => ?_)
  refine sRegion ?_
  refine sMove (iv s5) S (wN rfl) (.inl rfl) rfl rfl (lb rfl) fun a S => ?_
  refine sBin (.bool (decide (0 ≤ s5))) S (wN rfl) rfl rfl rfl (bGe _ _ _ _ .i64 s5 0) rfl (lb rfl) fun a S => ?_
  refine leafL (leafT (hK12 _ _ ?_))
  rcases iteSome h with ⟨hc13, h⟩ | ⟨hc13, h⟩
  rotate_left
  · refine sCondF S rfl hc13 ?_
    obtain rfl := Option.some.inj h
    obtain rfl := hu7 _ rfl
    have h := g8
    clear g8
    try dsimp only at h
    exact wp_exit (xThen (xThen (xHit (sEnd (.tuple #[]) S (res0 rfl) (sGoI S hC hJ (Option.some.inj h) _)))))
  refine sCondT S rfl hc13 ?_
  refine wp_skip (leafT (hK11 _ _ ?_))
  refine sSeq (fun K14 hK14 => ?_)
  refine wp_block ?_
  refine sSeq (fun K15 hK15 => ?_)
  refine sRegionY ?_
  refine sSplitR (by repeat (first | exact roundU_out | exact it_out | exact lo_false | refine lo_then ?_ | refine lo_block ?_)) 6 rfl (fun K16 hK16 => ?_)
  refine sMove (.func (.yield l) #[] #[]) S (wN rfl) (.inl rfl) rfl rfl (lb rfl) fun a S => ?_
  refine sMove (iv s5) S (wN rfl) (.inl rfl) rfl rfl (lb rfl) fun a S => ?_
  obtain ⟨u17, S⟩ := pLoad (r := (rL r_api_Stitch)) (q := v0) (x := p0) 0 S rfl
  obtain ⟨ad18, cp19, _, rfl, _⟩ := S.mem.know (i := 1) (e := fRep (rL r_api_Stitch) (u17) p0) rfl
  refine sLoadV1 (vq := v0) 0 (.slice ad18 p0.length cp19) S (wN rfl) rfl rfl rfl rfl rfl (lb rfl) fun a S => ?_
  refine sMove (iv s5) S (wN rfl) (.inl rfl) rfl rfl (lb rfl) fun a S => ?_
  obtain ⟨x20, hx21, h⟩ := bindSome h
  obtain ⟨q22, hq23, S⟩ := pIdx (P := Try.prog) (r := r_api_Stitch) (v := .slice ad18 p0.length cp19) (xs := p0) (j := s5) 78 82 1 S Try.underlying78 rfl rfl hx21
  refine sIdxV (v := .slice ad18 p0.length cp19) (k := .i64) (j := s5) S (wN rfl) rfl rfl rfl hq23 rfl (lb rfl) fun a S => ?_
  obtain ⟨u24, S⟩ := pLoad (r := r_api_Stitch) (q := q22) (x := x20) 0 S rfl
  obtain rfl : u24 = .agg #[.int .u8 x20.Kind, .bool x20.Purl, iv x20.A, iv x20.B] := S.mem.know (i := 1) (e := fRep r_api_Stitch (u24) x20) rfl
  refine sLoadVN (vq := q22) 0 [.int .u8 x20.Kind, .bool x20.Purl, iv x20.A, iv x20.B] S (wN rfl) rfl rfl rfl rfl rfl rfl (lb rfl) fun a S => ?_
  refine leafL ⟨rfl, hK16 _ _ ?_⟩
  obtain ⟨y25, hy26, h⟩ := bindSome h
  refine sYieldI (s5, x20) [iv s5, .agg #[.int .u8 x20.Kind, .bool x20.Purl, iv x20.A, iv x20.B]] S hC hJ hy26 (fA2_mk (rfl) (S.mem.know (i := 1) (e := fRep r_api_Stitch (.agg #[.int .u8 x20.Kind, .bool x20.Purl, iv x20.A, iv x20.B]) x20) rfl)) (wN rfl) rfl rfl rfl rfl (by decide) (fun gz27 E a w hb hJ S => ?_) (fun tz28 a w hb hJ S => ?_)
  · obtain rfl := hb
    dsimp only at h
    refine list_inR (by repeat (first | exact roundU_out | exact it_out | exact lo_false | refine lo_then ?_ | refine lo_block ?_)) _ rfl _ _ ?_
    refine sNot (b := true) S (wN rfl) rfl rfl rfl (lb rfl) fun a S => ?_
    refine leafL (leafT (hK15 _ _ ?_))
    refine sCondF S rfl rfl ?_
    refine wp_skip (leafB (leafT (hK14 _ _ ?_)))
    refine sRegion ?_
    refine sMove (iv s5) S (wN rfl) (.inl rfl) rfl rfl (lb rfl) fun a S => ?_
    refine sBin (iv (w64 (s5 - 1))) S (wN rfl) rfl rfl rfl (bSub _ _ _ _ s5 1) rfl (lb rfl) fun a S => ?_
    refine sMove (iv (w64 (s5 - 1))) S (wN rfl) (.inr rfl) rfl rfl (lb rfl) fun a S => ?_
    exact leafL (leafT (⟨(w64 (s5 - 1), gz27), (Option.some.inj h).symm, ⟨_, _, hJ, S.fix [] [5] (by decide) rfl rfl rfl⟩⟩))
  · obtain rfl := hb
    dsimp only at h
    refine list_inR (by repeat (first | exact roundU_out | exact it_out | exact lo_false | refine lo_then ?_ | refine lo_block ?_)) _ rfl _ _ ?_
    refine sNot (b := false) S (wN rfl) rfl rfl rfl (lb rfl) fun a S => ?_
    refine leafL (leafT (hK15 _ _ ?_))
    refine sCondT S rfl rfl ?_
    obtain rfl := Option.some.inj h
    obtain rfl := hu7 _ rfl
    have h := g8
    clear g8
    try dsimp only at h
    exact wp_ret (rBlock (rThen (rThen (rBlock (sRet (.tuple #[]) S (res0 rfl) (sStopI S hC hJ (Option.some.inj h) _))))))

end Go.Proofs.Ytmedbnjhgkcndaa
namespace Go.Proofs.Ytmedbnjhgkcndaa
open Go.RowKit
set_option linter.unusedVariables false

noncomputable def stitch_Turn_l2  : List api_Stitch → (Int × api_Stitch) → Option (List api_Stitch ⊕ Empty) := fun s0 x0 => match s0, x0 with
  | s22, (x25, x27) =>
    Option.bind (F_stitch_forms x27.Kind) fun r31 =>
    Option.bind (α := Bool) (
      if r31.1.sided then
        some (!x27.Purl)
      else
        some false) fun o35 =>
    Option.bind (α := (Int × Int)) (
      if decide (0 < r31.1.b.2) then
        some (x27.B, x27.A)
      else
        some (x27.A, x27.B)) fun (o39, o40) =>
    Option.bind (appO s22 [(api_Stitch.mk x27.Kind o35 o39 o40)]) fun l47 =>
    some (.inl l47)
noncomputable def F_stitch_Turn (p0 : (List api_Stitch)) : Option ((List api_Stitch) × Int) :=
  Option.bind (F_stitch_All p0) fun r6 =>
  if r6 != 0 then
    some (([] : (List api_Stitch)), r6)
  else
    Option.bind (capO (p0.length : Int)) fun z14 =>
    Option.bind (F_slices_Backward___api_Stitch_api_Stitch_ p0) fun r19 =>
    Option.bind (I_slices_Backward___api_Stitch_api_Stitch__1 r19 _ _ (stitch_Turn_l2) ([] : List api_Stitch)) fun z0 => match z0 with
      | .inl s22 =>
        some (s22, 0)
      | .inr z0 =>
        nomatch z0
def c_stitch_Turn_val (r : ((List api_Stitch) × Int)) (x : Value) : Value := .tuple #[x, .int .i64 r.2]
def c_stitch_Turn_D (r : ((List api_Stitch) × Int)) (x : Value) : List Fact := [fRep (rL r_api_Stitch) x r.1]
set_option maxHeartbeats 4000000 in
set_option maxRecDepth 100000 in
theorem c_stitch_Turn (E : Nat → Prop) (w0 : World) (p0 : (List api_Stitch)) (v0 : Value) (r : ((List api_Stitch) × Int)) (h : F_stitch_Turn p0 = some r) (S : St0 E [] w0 w0 [] [fRep (rL r_api_Stitch) (v0) p0]) :
    Calls Try.prog 36 #[v0] w0 (Ret (X := Value) E [] w0 (c_stitch_Turn_val r) (fun _ => []) (c_stitch_Turn_D r)) := by
  unfold F_stitch_Turn at h
  obtain ⟨ad1, cp2, _, rfl, _⟩ := S.know (i := 0) (e := fRep (rL r_api_Stitch) (v0) p0) rfl
  refine sEnterM (args := [.slice ad1 p0.length cp2]) 51 Try.func36 rfl rfl (by simp) S (fun a S => ?_)
  refine sSeq (fun K3 hK3 => ?_)
  refine sRegion ?_
  refine sMove (.slice none 0 0) S (wN rfl) (.inr rfl) rfl rfl (lb rfl) fun a S => ?_
  refine sMove (iv 0) S (wN rfl) (.inr rfl) rfl rfl (lb rfl) fun a S => ?_
  refine leafL (leafT (hK3 _ _ ?_))
  refine sSeq (fun K4 hK4 => ?_)
  refine sSeq (fun K5 hK5 => ?_)
  refine sRegion ?_
  refine sMove (.slice ad1 p0.length cp2) S (wN rfl) (.inl rfl) rfl rfl (lb rfl) fun a S => ?_
  obtain ⟨r6, hx7, h⟩ := bindSome h
  have S1 := S.mem
  refine sCallQ (X := Unit) (f := 39) (vs := [.slice ad1 p0.length cp2]) (val := fun _ => iv r6) S (wN rfl) rfl callee39 rfl (S1.quiet [0] rfl) (fun E1 w1 S1 => c_stitch_All E1 w1 p0 (.slice ad1 p0.length cp2) r6 hx7 S1) rfl (lb rfl) fun _ a w S => ?_
  refine sMove (iv r6) S (wN rfl) (.inr rfl) rfl rfl (lb rfl) fun a S => ?_
  refine leafL (leafT (hK5 _ _ ?_))
  refine sSeq (fun K8 hK8 => ?_)
  refine sRegion ?_
  refine sMove (iv r6) S (wN rfl) (.inl rfl) rfl rfl (lb rfl) fun a S => ?_
  refine sBin (.bool (r6 != 0)) S (wN rfl) rfl rfl rfl (bNe _ _ _ _ .i64 r6 0) rfl (lb rfl) fun a S => ?_
  refine leafL (leafT (hK8 _ _ ?_))
  rcases iteSome h with ⟨hc9, h⟩ | ⟨hc9, h⟩
  · refine sCondT S rfl hc9 ?_
    refine sSeq (fun K10 hK10 => ?_)
    refine sRegion ?_
    refine sMove (iv r6) S (wN rfl) (.inl rfl) rfl rfl (lb rfl) fun a S => ?_
    refine sMove (.slice none 0 0) S (wN rfl) (.inr rfl) rfl rfl (lb rfl) fun a S => ?_
    refine sMove (iv r6) S (wN rfl) (.inr rfl) rfl rfl (lb rfl) fun a S => ?_
    refine leafL (leafT (hK10 _ _ ?_))
    obtain rfl := Option.some.inj h
    have S := S.learn (fRep (rL r_api_Stitch) (.slice none 0 0) ([] : (List api_Stitch))) (rL_nil _ _ _)
    exact wp_ret (rThen (sRetM0 (.tuple #[.slice none 0 0, iv r6]) S (rsl2 rfl (rvT (t := 2) (v := .slice none 0 0) S rfl) (rvT (t := 3) (v := iv r6) S rfl)) ⟨(.slice none 0 0), rfl, S.mem.sel [] [0] (by decide) rfl rfl⟩))
  refine sCondF S rfl hc9 ?_
  refine wp_skip (leafT (hK4 _ _ ?_))
  refine sSeq (fun K11 hK11 => ?_)
  refine sRegion ?_
  refine sMove (.slice ad1 p0.length cp2) S (wN rfl) (.inl rfl) rfl rfl (lb rfl) fun a S => ?_
  refine sLen (ad := ad1) (m := p0.length) (c := cp2) S (wN rfl) rfl Try.underlying78 rfl rfl (lb rfl) fun a S => ?_
  obtain ⟨z14, hx15, h⟩ := bindSome h
  refine sMake0 r_api_Stitch (m := (p0.length : Int)) (u := z14) (.agg #[.int .u8 0, .bool false, iv 0, iv 0]) 24 S (wN rfl) rfl Try.underlying78 rfl (by decide) rfl rfl hx15 rfl (lb rfl) fun a w ad12 cp13 S => ?_
  refine sAlloc (.slice none 0 0) S (wN rfl) rfl rfl [.slice none 0 0] rfl rfl (lb rfl) fun a b16 w S => ?_
  refine sStore (p := b16) (off := 0) (T := 78) (vs := [.slice none 0 0]) (v := .slice ad12 ([] : List api_Stitch).length cp13) 0 [.slice ad12 ([] : List api_Stitch).length cp13] S (wN rfl) rfl rfl rfl rfl rfl rfl rfl (by simp) rfl fun a w S => ?_
  refine leafL (leafT (hK11 _ _ ?_))
  refine sSeq (fun K17 hK17 => ?_)
  refine sSeq (fun K18 hK18 => ?_)
  refine sRegion ?_
  refine sMove (.slice ad1 p0.length cp2) S (wN rfl) (.inl rfl) rfl rfl (lb rfl) fun a S => ?_
  obtain ⟨r19, hx20, h⟩ := bindSome h
  refine sCall (X := Value) (f := 52) (vs := [.slice ad1 p0.length cp2]) (val := c_slices_Backward___api_Stitch_api_Stitch__val r19) (B' := fun _ => []) (D' := c_slices_Backward___api_Stitch_api_Stitch__D r19) [] [eBox b16 78 [.slice ad12 ([] : List api_Stitch).length cp13], eRow r_api_Stitch 82 (.slice ad12 ([] : List api_Stitch).length cp13) ([] : List api_Stitch)] [fRep (rL r_api_Stitch) (.slice ad1 p0.length cp2) p0] [0, 1] [0] S (wN rfl) rfl callee52 rfl (by decide) rfl rfl (fun E1 w1 S1 => c_slices_Backward___api_Stitch_api_Stitch_ E1 w1 p0 (.slice ad1 p0.length cp2) r19 hx20 S1) rfl (lb rfl) fun u21 a w S => ?_
  refine leafL (leafT (hK18 _ _ ?_))
  refine wp_block ?_
  obtain ⟨t53, hl54, g52⟩ := bindSome h
  replace S : St [] E [] w0 51 a w [(5, .pointer (some ⟨b16, 0, none⟩)), (19, .func (.func 72) #[] #[u21])] [eBox b16 78 [.slice ad12 ([] : List api_Stitch).length cp13], eRow r_api_Stitch 82 (.slice ad12 ([] : List api_Stitch).length cp13) ([] : List api_Stitch)] [fPtr (rL r_api_Stitch) (u21) r19] := S.fix [0, 1] [0] (by decide) rfl rfl rfl
  refine sRange2 (B := stitch_Turn_l2) (fun s0 L D => match s0 with | s22 => ∃ ad23, ∃ cp24, L = [eBox b16 78 [.slice ad23 s22.length cp24], eRow r_api_Stitch 82 (.slice ad23 s22.length cp24) s22] ∧ D = [fPtr (rL r_api_Stitch) (u21) r19]) (fun _ _ _ _ => False) [0] S hl54 rfl callee72 (it_slices_Backward___api_Stitch_api_Stitch__1 r19 u21) rfl (by decide) (by decide) ⟨ad12, cp13, rfl, rfl⟩ ?_ ?_ ?_
  · intro E l0 s22 x25 x27 u26 u28 b L D K a w0 hK hIL hB S
    clear hl54 g52 h hK
    unfold stitch_Turn_l2 at hB
    dsimp only at hB hIL
    obtain ⟨ad23, cp24, rfl, rfl⟩ := hIL
    have h := hB
    clear hB
    obtain rfl : u26 = iv x25 := S.mem.know (i := 0) (e := fRep (rI .i64) (u26) x25) rfl
    obtain rfl : u28 = .agg #[.int .u8 x27.Kind, .bool x27.Purl, iv x27.A, iv x27.B] := S.mem.know (i := 1) (e := fRep r_api_Stitch (u28) x27) rfl
    refine sRegionR (by repeat (first | exact roundU_out | exact it_out | exact lo_false | refine lo_then ?_ | refine lo_block ?_)) rfl ?_
    refine sAlloc (.agg #[.int .u8 0, .bool false, iv 0, iv 0]) S (wN rfl) rfl rfl [.int .u8 0, .bool false, iv 0, iv 0] rfl rfl (lb rfl) fun a b29 w S => ?_
    refine sStore (p := b29) (off := 0) (T := 82) (vs := [.int .u8 0, .bool false, iv 0, iv 0]) (v := .agg #[.int .u8 x27.Kind, .bool x27.Purl, iv x27.A, iv x27.B]) 0 [.int .u8 x27.Kind, .bool x27.Purl, iv x27.A, iv x27.B] S (wN rfl) rfl rfl rfl rfl rfl rfl rfl (by simp) rfl fun a w S => ?_
    refine leafL (leafT (⟨_, _, _, S, fun K a w0 hK S => ?_⟩))
    refine wpIn_block ?_
    refine sSeqR (fun K30 hK30 => ?_)
    refine sRegionR (by repeat (first | exact roundU_out | exact it_out | exact lo_false | refine lo_then ?_ | refine lo_block ?_)) rfl ?_
    refine sField (b := b29) (off := 0) 0 0 S (wN rfl) rfl rfl rfl rfl rfl (lb rfl) fun a S => ?_
    refine sLoad1 (p := b29) (off := 0) (T := 82) (vs := [.int .u8 x27.Kind, .bool x27.Purl, iv x27.A, iv x27.B]) 0 (.int .u8 x27.Kind) S (wN rfl) rfl rfl rfl rfl rfl rfl (lb rfl) fun a S => ?_
    obtain ⟨r31, hx32, h⟩ := bindSome h
    refine sCall (X := Value) (f := 53) (vs := [.int .u8 x27.Kind]) (val := c_stitch_forms_val r31) (B' := fun _ => []) (D' := c_stitch_forms_D r31) [] [eBox b29 82 [.int .u8 x27.Kind, .bool x27.Purl, iv x27.A, iv x27.B], eBox b16 78 [.slice ad23 s22.length cp24], eRow r_api_Stitch 82 (.slice ad23 s22.length cp24) s22] [] [0, 1, 2] [] S (wN rfl) rfl callee53 rfl (by decide) rfl rfl (fun E1 w1 S1 => c_stitch_forms E1 w1 x27.Kind r31 hx32 S1) rfl (lb rfl) fun u33 a w S => ?_
    obtain rfl : u33 = gv_stitch_form r31.1 := S.mem.know (i := 0) (e := fRep r_stitch_form (u33) r31.1) rfl
    refine sMove (.tuple #[gv_stitch_form r31.1, .bool r31.2]) S (wN rfl) (.inl rfl) rfl rfl (lb rfl) fun a S => ?_
    refine sExtract (vs := [gv_stitch_form r31.1, .bool r31.2]) (gv_stitch_form r31.1) S (wN rfl) rfl rfl rfl rfl (lb rfl) fun a S => ?_
    refine sExtract (vs := [gv_stitch_form r31.1, .bool r31.2]) (.bool r31.2) S (wN rfl) rfl rfl rfl rfl (lb rfl) fun a S => ?_
    refine sAlloc (gv_stitch_form (stitch_form.mk (⟨#[]⟩ : ByteArray) (0, 0) (0, 0) false 0 0)) S (wN rfl) rfl rfl (gl_stitch_form (stitch_form.mk (⟨#[]⟩ : ByteArray) (0, 0) (0, 0) false 0 0)) rfl rfl (lb rfl) fun a b34 w S => ?_
    refine sStore (p := b34) (off := 0) (T := 109) (vs := [.string (⟨#[]⟩ : ByteArray), iv 0, iv 0, iv 0, iv 0, .bool false, iv 0, iv 0]) (v := gv_stitch_form r31.1) 0 [.string r31.1.letter, iv r31.1.a.1, iv r31.1.a.2, iv r31.1.b.1, iv r31.1.b.2, .bool r31.1.sided, iv r31.1.uses, iv r31.1.made] S (wN rfl) rfl rfl rfl rfl rfl rfl rfl (by simp) rfl fun a w S => ?_
    refine sMove (.bool r31.2) S (wN rfl) (.inr rfl) rfl rfl (lb rfl) fun a S => ?_
    refine leafL (leafT (hK30 _ _ ?_))
    obtain ⟨t36, h, g37⟩ := bindSome h
    refine sCutR (fun a w => ∃ o35, o35 = t36 ∧ St [] E K w0 51 a w [(5, .pointer (some ⟨b16, 0, none⟩)), (7, .pointer (some ⟨b29, 0, none⟩)), (8, .pointer (some ⟨b34, 0, none⟩)), (19, .func (.func 72) #[] #[u21]), (21, .agg #[.int .u8 x27.Kind, .bool x27.Purl, iv x27.A, iv x27.B])] [eBox b16 78 [.slice ad23 s22.length cp24], eBox b29 82 [.int .u8 x27.Kind, .bool o35, iv x27.A, iv x27.B], eBox b34 109 (gl_stitch_form r31.1), eRow r_api_Stitch 82 (.slice ad23 s22.length cp24) s22] [fPtr (rL r_api_Stitch) (u21) r19]) ?_ (fun a w hI => ?_)
    · refine sRegionR (by repeat (first | exact roundU_out | exact it_out | exact lo_false | refine lo_then ?_ | refine lo_block ?_)) rfl ?_
      refine sField (b := b34) (off := 0) 5 5 S (wN rfl) rfl rfl rfl rfl rfl (lb rfl) fun a S => ?_
      refine sLoad1 (p := b34) (off := 5) (T := 109) (vs := (gl_stitch_form r31.1)) 0 (.bool r31.1.sided) S (wN rfl) rfl rfl rfl rfl rfl rfl (lb rfl) fun a S => ?_
      refine sMove (.bool r31.1.sided) S (wN rfl) (.inl rfl) rfl rfl (lb rfl) fun a S => ?_
      rcases iteSome h with ⟨hc38, h⟩ | ⟨hc38, h⟩
      rotate_left
      · refine sSkip 2 true 30 31 S rfl rfl rfl hc38 rfl (lb rfl) fun a S => ?_
        refine sSkip 2 true 30 32 S rfl rfl rfl hc38 rfl (lb rfl) fun a S => ?_
        refine sSkip 2 true 30 33 S rfl rfl rfl hc38 rfl (lb rfl) fun a S => ?_
        refine sPickF (.bool false) S (wN rfl) rfl rfl hc38 rfl rfl (lb rfl) fun a S => ?_
        refine sField (b := b29) (off := 0) 1 1 S (wN rfl) rfl rfl rfl rfl rfl (lb rfl) fun a S => ?_
        refine sStore (p := b29) (off := 1) (T := 82) (vs := [.int .u8 x27.Kind, .bool x27.Purl, iv x27.A, iv x27.B]) (v := .bool false) 1 [.bool false] S (wN rfl) rfl rfl rfl rfl rfl rfl rfl (by simp) rfl fun a w S => ?_
        exact leafL (leafT (⟨false, Option.some.inj h, S.fix [2, 0, 1, 3] [3] (by decide) rfl rfl rfl⟩))
      refine sField (b := b29) (off := 0) 1 1 S (wG 2 true 30 rfl rfl rfl hc38) rfl rfl rfl rfl rfl (lb rfl) fun a S => ?_
      refine sLoad1 (p := b29) (off := 1) (T := 82) (vs := [.int .u8 x27.Kind, .bool x27.Purl, iv x27.A, iv x27.B]) 1 (.bool x27.Purl) S (wG 2 true 30 rfl rfl rfl hc38) rfl rfl rfl rfl rfl rfl (lb rfl) fun a S => ?_
      refine sNot (b := x27.Purl) S (wG 2 true 30 rfl rfl rfl hc38) rfl rfl rfl (lb rfl) fun a S => ?_
      refine sPickT (.bool (!x27.Purl)) S (wN rfl) rfl rfl hc38 rfl rfl (lb rfl) fun a S => ?_
      refine sField (b := b29) (off := 0) 1 1 S (wN rfl) rfl rfl rfl rfl rfl (lb rfl) fun a S => ?_
      refine sStore (p := b29) (off := 1) (T := 82) (vs := [.int .u8 x27.Kind, .bool x27.Purl, iv x27.A, iv x27.B]) (v := .bool (!x27.Purl)) 1 [.bool (!x27.Purl)] S (wN rfl) rfl rfl rfl rfl rfl rfl rfl (by simp) rfl fun a w S => ?_
      exact leafL (leafT (⟨!x27.Purl, Option.some.inj h, S.fix [2, 0, 1, 3] [3] (by decide) rfl rfl rfl⟩))
    obtain ⟨o35, rfl, S⟩ := hI
    have h := g37
    clear g37
    try dsimp only at h
    obtain ⟨t41, h, g42⟩ := bindSome h
    refine sCutR (fun a w => ∃ o39, ∃ o40, (o39, o40) = t41 ∧ St [] E K w0 51 a w [(5, .pointer (some ⟨b16, 0, none⟩)), (7, .pointer (some ⟨b29, 0, none⟩)), (19, .func (.func 72) #[] #[u21]), (21, .agg #[.int .u8 x27.Kind, .bool x27.Purl, iv x27.A, iv x27.B])] [eBox b16 78 [.slice ad23 s22.length cp24], eBox b29 82 [.int .u8 x27.Kind, .bool o35, iv o39, iv o40], eRow r_api_Stitch 82 (.slice ad23 s22.length cp24) s22] [fPtr (rL r_api_Stitch) (u21) r19]) ?_ (fun a w hI => ?_)
    rotate_left
    · obtain ⟨o39, o40, rfl, S⟩ := hI
      have h := g42
      clear g42
      try dsimp only at h
      refine sRegionR (by repeat (first | exact roundU_out | exact it_out | exact lo_false | refine lo_then ?_ | refine lo_block ?_)) rfl ?_
      refine sLoad1 (p := b16) (off := 0) (T := 78) (vs := [.slice ad23 s22.length cp24]) 0 (.slice ad23 s22.length cp24) S (wN rfl) rfl rfl rfl rfl rfl rfl (lb rfl) fun a S => ?_
      refine sLoadN (p := b29) (off := 0) (T := 82) (vs := [.int .u8 x27.Kind, .bool o35, iv o39, iv o40]) 1 [.int .u8 x27.Kind, .bool o35, iv o39, iv o40] S (wN rfl) rfl rfl rfl rfl rfl rfl rfl (lb rfl) fun a S => ?_
      have S := S.learn (fRep r_api_Stitch (.agg #[.int .u8 x27.Kind, .bool o35, iv o39, iv o40]) (api_Stitch.mk x27.Kind o35 o39 o40)) rfl
      refine sLit (r := r_api_Stitch) (T := 82) (xs := [(api_Stitch.mk x27.Kind o35 o39 o40)]) [(0, .agg #[.int .u8 x27.Kind, .bool o35, iv o39, iv o40])] 1 [.agg #[.int .u8 x27.Kind, .bool o35, iv o39, iv o40]] [.int .u8 x27.Kind, .bool o35, iv o39, iv o40] (.agg #[.int .u8 0, .bool false, iv 0, iv 0]) 24 S (wN rfl) rfl rfl Try.underlying78 rfl (by decide) (by decide) (by kernel_rfl) rfl (fun E1 w1 hE => All.cons (r_api_Stitch.mono hE (S.mem.know (i := 0) (e := fRep r_api_Stitch (.agg #[.int .u8 x27.Kind, .bool o35, iv o39, iv o40]) (api_Stitch.mk x27.Kind o35 o39 o40)) rfl)) (All.nil _ _ _)) rfl rfl (lb rfl) fun a w ad45 cp46 S => ?_
      obtain ⟨l47, hx48, h⟩ := bindSome h
      refine sApp (r := r_api_Stitch) (T := 82) (xs := s22) (ys := [(api_Stitch.mk x27.Kind o35 o39 o40)]) (v := .slice ad23 s22.length cp24) (u := .slice ad45 [(api_Stitch.mk x27.Kind o35 o39 o40)].length cp46) 3 (.agg #[.int .u8 0, .bool false, iv 0, iv 0]) 24 S (wN rfl) rfl Try.underlying78 rfl rfl (by decide) rfl rfl rfl (src_R (T := 82) 0 S.mem rfl) hx48 rfl (lb rfl) fun a w ad49 cp50 S => ?_
      refine sStore (p := b16) (off := 0) (T := 78) (vs := [.slice ad23 s22.length cp24]) (v := .slice ad49 l47.length cp50) 2 [.slice ad49 l47.length cp50] S (wN rfl) rfl rfl rfl rfl rfl rfl rfl (by simp) rfl fun a w S => ?_
      exact leafL (leafB (rnN l47 _ _ [] (Option.some.inj h) ⟨ad49, cp50, rfl, rfl⟩ (S.fix [0, 1] [1] (by decide) rfl rfl rfl)))
    refine sSeqR (fun K43 hK43 => ?_)
    refine sRegionR (by repeat (first | exact roundU_out | exact it_out | exact lo_false | refine lo_then ?_ | refine lo_block ?_)) rfl ?_
    refine sField (b := b34) (off := 0) 3 3 S (wN rfl) rfl rfl rfl rfl rfl (lb rfl) fun a S => ?_
    refine sIdxV (v := .pointer (some ⟨b34, 3, none⟩)) (k := .i64) (j := 1) (q := .pointer (some ⟨b34, 4, none⟩)) S (wN rfl) rfl rfl rfl (idxV_arr (m := 2) (sz := 1) Try.underlying53 rfl (by decide) (by decide) 3) rfl (lb rfl) fun a S => ?_
    refine sLoad1 (p := b34) (off := 4) (T := 109) (vs := (gl_stitch_form r31.1)) 2 (iv r31.1.b.2) S (wN rfl) rfl rfl rfl rfl rfl rfl (lb rfl) fun a S => ?_
    refine sBin (.bool (decide (0 < r31.1.b.2))) S (wN rfl) rfl rfl rfl (bGt _ _ _ _ .i64 r31.1.b.2 0) rfl (lb rfl) fun a S => ?_
    refine leafL (leafT (hK43 _ _ ?_))
    rcases iteSome h with ⟨hc44, h⟩ | ⟨hc44, h⟩
    rotate_left
    · refine sCondFR S rfl hc44 ?_
      exact wpIn_skip (leafT (⟨x27.A, x27.B, Option.some.inj h, S.fix [0, 1, 3] [0] (by decide) rfl rfl rfl⟩))
    refine sCondTR S rfl hc44 ?_
    refine sRegionR (by repeat (first | exact roundU_out | exact it_out | exact lo_false | refine lo_then ?_ | refine lo_block ?_)) rfl ?_
    refine sField (b := b29) (off := 0) 3 3 S (wN rfl) rfl rfl rfl rfl rfl (lb rfl) fun a S => ?_
    refine sLoad1 (p := b29) (off := 3) (T := 82) (vs := [.int .u8 x27.Kind, .bool o35, iv x27.A, iv x27.B]) 1 (iv x27.B) S (wN rfl) rfl rfl rfl rfl rfl rfl (lb rfl) fun a S => ?_
    refine sField (b := b29) (off := 0) 2 2 S (wN rfl) rfl rfl rfl rfl rfl (lb rfl) fun a S => ?_
    refine sLoad1 (p := b29) (off := 2) (T := 82) (vs := [.int .u8 x27.Kind, .bool o35, iv x27.A, iv x27.B]) 1 (iv x27.A) S (wN rfl) rfl rfl rfl rfl rfl rfl (lb rfl) fun a S => ?_
    refine sField (b := b29) (off := 0) 2 2 S (wN rfl) rfl rfl rfl rfl rfl (lb rfl) fun a S => ?_
    refine sStore (p := b29) (off := 2) (T := 82) (vs := [.int .u8 x27.Kind, .bool o35, iv x27.A, iv x27.B]) (v := iv x27.B) 1 [iv x27.B] S (wN rfl) rfl rfl rfl rfl rfl rfl rfl (by simp) rfl fun a w S => ?_
    refine sField (b := b29) (off := 0) 3 3 S (wN rfl) rfl rfl rfl rfl rfl (lb rfl) fun a S => ?_
    refine sStore (p := b29) (off := 3) (T := 82) (vs := [.int .u8 x27.Kind, .bool o35, iv x27.B, iv x27.B]) (v := iv x27.A) 0 [iv x27.A] S (wN rfl) rfl rfl rfl rfl rfl rfl rfl (by simp) rfl fun a w S => ?_
    exact leafL (leafT (⟨x27.B, x27.A, Option.some.inj h, S.fix [1, 0, 3] [0] (by decide) rfl rfl rfl⟩))
  · intro dk51 s22 L D a w hr hIL S
    clear h
    obtain rfl := hr
    dsimp only at g52 hIL
    obtain ⟨ad23, cp24, rfl, rfl⟩ := hIL
    have h := g52
    clear g52 hl54
    replace S : St [mark dk51] E [] w0 51 a w [(5, .pointer (some ⟨b16, 0, none⟩)), (19, .func (.func 72) #[] #[u21])] [eBox b16 78 [.slice ad23 s22.length cp24], eRow r_api_Stitch 82 (.slice ad23 s22.length cp24) s22, eDef dk51] [fPtr (rL r_api_Stitch) (u21) r19] := S
    refine leafB (leafT (hK17 _ _ ?_))
    refine sSeq (fun K55 hK55 => ?_)
    refine sRegion ?_
    refine sLoad1 (p := b16) (off := 0) (T := 78) (vs := [.slice ad23 s22.length cp24]) 0 (.slice ad23 s22.length cp24) S (wN rfl) rfl rfl rfl rfl rfl rfl (lb rfl) fun a S => ?_
    refine sMove (.slice ad23 s22.length cp24) S (wN rfl) (.inr rfl) rfl rfl (lb rfl) fun a S => ?_
    refine sMove (iv 0) S (wN rfl) (.inr rfl) rfl rfl (lb rfl) fun a S => ?_
    refine leafL (leafT (hK55 _ _ ?_))
    refine wp_ret (sRetM1 2 S rfl (fun a w S => ?_))
    obtain rfl := Option.some.inj h
    have S := S.shutR (r := r_api_Stitch) (T := 82) (v := .slice ad23 s22.length cp24) (xs := s22) 1 rfl
    exact sFin (.tuple #[.slice ad23 s22.length cp24, iv 0]) S (rsl2 rfl (rvT (t := 2) (v := .slice ad23 s22.length cp24) S rfl) (rvT (t := 3) (v := iv 0) S rfl)) ⟨(.slice ad23 s22.length cp24), rfl, S.mem.sel [] [0] (by decide) rfl rfl⟩
  · intro dk51 c0 t0 L D a w hr hIX S
    clear h
    exact hIX.elim

end Go.Proofs.Ytmedbnjhgkcndaa
namespace Go.Proofs.Ytmedbnjhgkcndaa
open Go.RowKit
set_option linter.unusedVariables false

noncomputable def F_raddleref25_Other (p0 : api_Stitch) : Option api_Stitch :=
  Option.bind (α := Bool) (
    Option.bind (α := Bool) (
      if p0.Kind != 2 then
        some (p0.Kind != 9)
      else
        some false) fun o7 =>
    if o7 then
      some (!p0.Purl)
    else
      some p0.Purl) fun o4 =>
  Option.bind (α := (Int × Int)) (
    Option.bind (α := Bool) (
      if p0.Kind == 6 then
        some true
      else
        some (p0.Kind == 7)) fun o16 =>
    if o16 then
      some (p0.B, p0.A)
    else
      some (p0.A, p0.B)) fun (o12, o13) =>
  some (api_Stitch.mk p0.Kind o4 o12 o13)
def c_raddleref25_Other_val (r : api_Stitch) (x : Value) : Value := x
def c_raddleref25_Other_D (r : api_Stitch) (x : Value) : List Fact := [fRep r_api_Stitch x r]
set_option maxHeartbeats 4000000 in
set_option maxRecDepth 100000 in
theorem c_raddleref25_Other (E : Nat → Prop) (w0 : World) (p0 : api_Stitch) (v0 : Value) (r : api_Stitch) (h : F_raddleref25_Other p0 = some r) (S : St0 E [] w0 w0 [] [fRep r_api_Stitch (v0) p0]) :
    Calls Try.prog 73 #[v0] w0 (Ret (X := Value) E [] w0 (c_raddleref25_Other_val r) (fun _ => []) (c_raddleref25_Other_D r)) := by
  unfold F_raddleref25_Other at h
  obtain rfl : v0 = .agg #[.int .u8 p0.Kind, .bool p0.Purl, iv p0.A, iv p0.B] := S.know (i := 0) (e := fRep r_api_Stitch (v0) p0) rfl
  refine sEnter (args := [.agg #[.int .u8 p0.Kind, .bool p0.Purl, iv p0.A, iv p0.B]]) 30 Try.func73 rfl rfl (by simp) S (fun a S => ?_)
  refine sSeq (fun K1 hK1 => ?_)
  refine sRegion ?_
  refine sBox (v := .agg #[.int .u8 p0.Kind, .bool p0.Purl, iv p0.A, iv p0.B]) S (wN rfl) rfl rfl [.int .u8 p0.Kind, .bool p0.Purl, iv p0.A, iv p0.B] rfl rfl (lb rfl) fun a b2 w S => ?_
  refine sAlloc (.agg #[.int .u8 0, .bool false, iv 0, iv 0]) S (wN rfl) rfl rfl [.int .u8 0, .bool false, iv 0, iv 0] rfl rfl (lb rfl) fun a b3 w S => ?_
  refine leafL (leafT (hK1 _ _ ?_))
  obtain ⟨t5, h, g6⟩ := bindSome h
  refine sCut (fun a w => ∃ o4, o4 = t5 ∧ St [] E [] w0 30 a w [(1, .pointer (some ⟨b2, 0, none⟩)), (2, .pointer (some ⟨b3, 0, none⟩))] [eBox b2 82 [.int .u8 p0.Kind, .bool o4, iv p0.A, iv p0.B], eBox b3 82 [.int .u8 0, .bool false, iv 0, iv 0]] []) ?_ (fun a w hI => ?_)
  · obtain ⟨t8, h, g9⟩ := bindSome h
    refine sCut (fun a w => ∃ o7, o7 = t8 ∧ St [] E [] w0 30 a w [(1, .pointer (some ⟨b2, 0, none⟩)), (2, .pointer (some ⟨b3, 0, none⟩)), (10, .bool o7)] [eBox b2 82 [.int .u8 p0.Kind, .bool p0.Purl, iv p0.A, iv p0.B], eBox b3 82 [.int .u8 0, .bool false, iv 0, iv 0]] []) ?_ (fun a w hI => ?_)
    rotate_left
    · obtain ⟨o7, rfl, S⟩ := hI
      have h := g9
      clear g9
      try dsimp only at h
      rcases iteSome h with ⟨hc11, h⟩ | ⟨hc11, h⟩
      rotate_left
      · refine sCondF S rfl hc11 ?_
        exact wp_skip (leafT (⟨p0.Purl, Option.some.inj h, S.fix [0, 1] [] (by decide) rfl rfl rfl⟩))
      refine sCondT S rfl hc11 ?_
      refine sRegion ?_
      refine sField (b := b2) (off := 0) 1 1 S (wN rfl) rfl rfl rfl rfl rfl (lb rfl) fun a S => ?_
      refine sLoad1 (p := b2) (off := 1) (T := 82) (vs := [.int .u8 p0.Kind, .bool p0.Purl, iv p0.A, iv p0.B]) 0 (.bool p0.Purl) S (wN rfl) rfl rfl rfl rfl rfl rfl (lb rfl) fun a S => ?_
      refine sNot (b := p0.Purl) S (wN rfl) rfl rfl rfl (lb rfl) fun a S => ?_
      refine sField (b := b2) (off := 0) 1 1 S (wN rfl) rfl rfl rfl rfl rfl (lb rfl) fun a S => ?_
      refine sStore (p := b2) (off := 1) (T := 82) (vs := [.int .u8 p0.Kind, .bool p0.Purl, iv p0.A, iv p0.B]) (v := .bool (!p0.Purl)) 0 [.bool (!p0.Purl)] S (wN rfl) rfl rfl rfl rfl rfl rfl rfl (by simp) rfl fun a w S => ?_
      exact leafL (leafT (⟨!p0.Purl, Option.some.inj h, S.fix [0, 1] [] (by decide) rfl rfl rfl⟩))
    refine sRegion ?_
    refine sField (b := b2) (off := 0) 0 0 S (wN rfl) rfl rfl rfl rfl rfl (lb rfl) fun a S => ?_
    refine sLoad1 (p := b2) (off := 0) (T := 82) (vs := [.int .u8 p0.Kind, .bool p0.Purl, iv p0.A, iv p0.B]) 1 (.int .u8 p0.Kind) S (wN rfl) rfl rfl rfl rfl rfl rfl (lb rfl) fun a S => ?_
    refine sBin (.bool (p0.Kind != 2)) S (wN rfl) rfl rfl rfl (bNe _ _ _ _ .u8 p0.Kind 2) rfl (lb rfl) fun a S => ?_
    refine sMove (.bool (p0.Kind != 2)) S (wN rfl) (.inl rfl) rfl rfl (lb rfl) fun a S => ?_
    rcases iteSome h with ⟨hc10, h⟩ | ⟨hc10, h⟩
    rotate_left
    · refine sSkip 3 true 6 7 S rfl rfl rfl hc10 rfl (lb rfl) fun a S => ?_
      refine sSkip 3 true 6 8 S rfl rfl rfl hc10 rfl (lb rfl) fun a S => ?_
      refine sSkip 3 true 6 9 S rfl rfl rfl hc10 rfl (lb rfl) fun a S => ?_
      refine sPickF (.bool false) S (wN rfl) rfl rfl hc10 rfl rfl (lb rfl) fun a S => ?_
      exact leafL (leafT (⟨false, Option.some.inj h, S.fix [1, 0] [] (by decide) rfl rfl rfl⟩))
    refine sField (b := b2) (off := 0) 0 0 S (wG 3 true 6 rfl rfl rfl hc10) rfl rfl rfl rfl rfl (lb rfl) fun a S => ?_
    refine sLoad1 (p := b2) (off := 0) (T := 82) (vs := [.int .u8 p0.Kind, .bool p0.Purl, iv p0.A, iv p0.B]) 1 (.int .u8 p0.Kind) S (wG 3 true 6 rfl rfl rfl hc10) rfl rfl rfl rfl rfl rfl (lb rfl) fun a S => ?_
    refine sBin (.bool (p0.Kind != 9)) S (wG 3 true 6 rfl rfl rfl hc10) rfl rfl rfl (bNe _ _ _ _ .u8 p0.Kind 9) rfl (lb rfl) fun a S => ?_
    refine sPickT (.bool (p0.Kind != 9)) S (wN rfl) rfl rfl hc10 rfl rfl (lb rfl) fun a S => ?_
    exact leafL (leafT (⟨p0.Kind != 9, Option.some.inj h, S.fix [1, 0] [] (by decide) rfl rfl rfl⟩))
  obtain ⟨o4, rfl, S⟩ := hI
  have h := g6
  clear g6
  try dsimp only at h
  obtain ⟨t14, h, g15⟩ := bindSome h
  refine sCut (fun a w => ∃ o12, ∃ o13, (o12, o13) = t14 ∧ St [] E [] w0 30 a w [(1, .pointer (some ⟨b2, 0, none⟩)), (2, .pointer (some ⟨b3, 0, none⟩))] [eBox b2 82 [.int .u8 p0.Kind, .bool o4, iv o12, iv o13], eBox b3 82 [.int .u8 0, .bool false, iv 0, iv 0]] []) ?_ (fun a w hI => ?_)
  rotate_left
  · obtain ⟨o12, o13, rfl, S⟩ := hI
    have h := g15
    clear g15
    try dsimp only at h
    refine sSeq (fun K21 hK21 => ?_)
    refine sRegion ?_
    refine sLoadN (p := b2) (off := 0) (T := 82) (vs := [.int .u8 p0.Kind, .bool o4, iv o12, iv o13]) 0 [.int .u8 p0.Kind, .bool o4, iv o12, iv o13] S (wN rfl) rfl rfl rfl rfl rfl rfl rfl (lb rfl) fun a S => ?_
    refine sStore (p := b3) (off := 0) (T := 82) (vs := [.int .u8 0, .bool false, iv 0, iv 0]) (v := .agg #[.int .u8 p0.Kind, .bool o4, iv o12, iv o13]) 1 [.int .u8 p0.Kind, .bool o4, iv o12, iv o13] S (wN rfl) rfl rfl rfl rfl rfl rfl rfl (by simp) rfl fun a w S => ?_
    refine leafL (leafT (hK21 _ _ ?_))
    obtain rfl := Option.some.inj h
    have S := S.learn (fRep r_api_Stitch (.agg #[.int .u8 p0.Kind, .bool o4, iv o12, iv o13]) (api_Stitch.mk p0.Kind o4 o12 o13)) rfl
    exact wp_ret (sRet (.agg #[.int .u8 p0.Kind, .bool o4, iv o12, iv o13]) S (rsl1 rfl (rvN (c := 2) (t := 82) (T := 82) (p := b3) 0 [.int .u8 p0.Kind, .bool o4, iv o12, iv o13] S rfl rfl rfl rfl)) ⟨(.agg #[.int .u8 p0.Kind, .bool o4, iv o12, iv o13]), rfl, S.mem.sel [] [0] (by decide) rfl rfl⟩)
  obtain ⟨t17, h, g18⟩ := bindSome h
  refine sCut (fun a w => ∃ o16, o16 = t17 ∧ St [] E [] w0 30 a w [(1, .pointer (some ⟨b2, 0, none⟩)), (2, .pointer (some ⟨b3, 0, none⟩)), (22, .bool o16)] [eBox b2 82 [.int .u8 p0.Kind, .bool o4, iv p0.A, iv p0.B], eBox b3 82 [.int .u8 0, .bool false, iv 0, iv 0]] []) ?_ (fun a w hI => ?_)
  rotate_left
  · obtain ⟨o16, rfl, S⟩ := hI
    have h := g18
    clear g18
    try dsimp only at h
    rcases iteSome h with ⟨hc20, h⟩ | ⟨hc20, h⟩
    rotate_left
    · refine sCondF S rfl hc20 ?_
      exact wp_skip (leafT (⟨p0.A, p0.B, Option.some.inj h, S.fix [0, 1] [] (by decide) rfl rfl rfl⟩))
    refine sCondT S rfl hc20 ?_
    refine sRegion ?_
    refine sField (b := b2) (off := 0) 3 3 S (wN rfl) rfl rfl rfl rfl rfl (lb rfl) fun a S => ?_
    refine sLoad1 (p := b2) (off := 3) (T := 82) (vs := [.int .u8 p0.Kind, .bool o4, iv p0.A, iv p0.B]) 0 (iv p0.B) S (wN rfl) rfl rfl rfl rfl rfl rfl (lb rfl) fun a S => ?_
    refine sField (b := b2) (off := 0) 2 2 S (wN rfl) rfl rfl rfl rfl rfl (lb rfl) fun a S => ?_
    refine sLoad1 (p := b2) (off := 2) (T := 82) (vs := [.int .u8 p0.Kind, .bool o4, iv p0.A, iv p0.B]) 0 (iv p0.A) S (wN rfl) rfl rfl rfl rfl rfl rfl (lb rfl) fun a S => ?_
    refine sField (b := b2) (off := 0) 2 2 S (wN rfl) rfl rfl rfl rfl rfl (lb rfl) fun a S => ?_
    refine sStore (p := b2) (off := 2) (T := 82) (vs := [.int .u8 p0.Kind, .bool o4, iv p0.A, iv p0.B]) (v := iv p0.B) 0 [iv p0.B] S (wN rfl) rfl rfl rfl rfl rfl rfl rfl (by simp) rfl fun a w S => ?_
    refine sField (b := b2) (off := 0) 3 3 S (wN rfl) rfl rfl rfl rfl rfl (lb rfl) fun a S => ?_
    refine sStore (p := b2) (off := 3) (T := 82) (vs := [.int .u8 p0.Kind, .bool o4, iv p0.B, iv p0.B]) (v := iv p0.A) 0 [iv p0.A] S (wN rfl) rfl rfl rfl rfl rfl rfl rfl (by simp) rfl fun a w S => ?_
    exact leafL (leafT (⟨p0.B, p0.A, Option.some.inj h, S.fix [0, 1] [] (by decide) rfl rfl rfl⟩))
  refine sRegion ?_
  refine sField (b := b2) (off := 0) 0 0 S (wN rfl) rfl rfl rfl rfl rfl (lb rfl) fun a S => ?_
  refine sLoad1 (p := b2) (off := 0) (T := 82) (vs := [.int .u8 p0.Kind, .bool o4, iv p0.A, iv p0.B]) 0 (.int .u8 p0.Kind) S (wN rfl) rfl rfl rfl rfl rfl rfl (lb rfl) fun a S => ?_
  refine sBin (.bool (p0.Kind == 6)) S (wN rfl) rfl rfl rfl (bEq _ _ _ _ .u8 p0.Kind 6) rfl (lb rfl) fun a S => ?_
  refine sMove (.bool (p0.Kind == 6)) S (wN rfl) (.inl rfl) rfl rfl (lb rfl) fun a S => ?_
  rcases iteSome h with ⟨hc19, h⟩ | ⟨hc19, h⟩
  · refine sSkip 3 false 18 19 S rfl rfl rfl hc19 rfl (lb rfl) fun a S => ?_
    refine sSkip 3 false 18 20 S rfl rfl rfl hc19 rfl (lb rfl) fun a S => ?_
    refine sSkip 3 false 18 21 S rfl rfl rfl hc19 rfl (lb rfl) fun a S => ?_
    refine sPickT (.bool true) S (wN rfl) rfl rfl hc19 rfl rfl (lb rfl) fun a S => ?_
    exact leafL (leafT (⟨true, Option.some.inj h, S.fix [0, 1] [] (by decide) rfl rfl rfl⟩))
  refine sField (b := b2) (off := 0) 0 0 S (wG 3 false 18 rfl rfl rfl hc19) rfl rfl rfl rfl rfl (lb rfl) fun a S => ?_
  refine sLoad1 (p := b2) (off := 0) (T := 82) (vs := [.int .u8 p0.Kind, .bool o4, iv p0.A, iv p0.B]) 0 (.int .u8 p0.Kind) S (wG 3 false 18 rfl rfl rfl hc19) rfl rfl rfl rfl rfl rfl (lb rfl) fun a S => ?_
  refine sBin (.bool (p0.Kind == 7)) S (wG 3 false 18 rfl rfl rfl hc19) rfl rfl rfl (bEq _ _ _ _ .u8 p0.Kind 7) rfl (lb rfl) fun a S => ?_
  refine sPickF (.bool (p0.Kind == 7)) S (wN rfl) rfl rfl hc19 rfl rfl (lb rfl) fun a S => ?_
  exact leafL (leafT (⟨p0.Kind == 7, Option.some.inj h, S.fix [0, 1] [] (by decide) rfl rfl rfl⟩))

end Go.Proofs.Ytmedbnjhgkcndaa
namespace Go.Proofs.Ytmedbnjhgkcndaa
open Go.RowKit
set_option linter.unusedVariables false

noncomputable def raddleref25_Turned_l1 (p0 : (List api_Stitch)) : (List api_Stitch × Int) → Option ((List api_Stitch × Int) ⊕ List api_Stitch) := fun s0 => match s0 with
  | (s11, s14) =>
    if decide (0 ≤ s14) then
      Option.bind (idxO p0 s14) fun x25 =>
      Option.bind (F_raddleref25_Other x25) fun r30 =>
      Option.bind (appO s11 [r30]) fun l35 =>
      some (.inl (l35, w64 (s14 - 1)))
    else
      some (.inr s11)
noncomputable def F_raddleref25_Turned (p0 : (List api_Stitch)) : Option (List api_Stitch) :=
  Option.bind (α := List api_Stitch) (
    Option.bind (whileO (raddleref25_Turned_l1 p0) (([] : List api_Stitch), w64 ((p0.length : Int) - 1))) fun e18 =>
      some e18) fun o5 =>
  some o5
def c_raddleref25_Turned_val (r : (List api_Stitch)) (x : Value) : Value := x
def c_raddleref25_Turned_D (r : (List api_Stitch)) (x : Value) : List Fact := [fRep (rL r_api_Stitch) x r]
set_option maxHeartbeats 4000000 in
set_option maxRecDepth 100000 in
theorem c_raddleref25_Turned (E : Nat → Prop) (w0 : World) (p0 : (List api_Stitch)) (v0 : Value) (r : (List api_Stitch)) (h : F_raddleref25_Turned p0 = some r) (S : St0 E [] w0 w0 [] [fRep (rL r_api_Stitch) (v0) p0]) :
    Calls Try.prog 55 #[v0] w0 (Ret (X := Value) E [] w0 (c_raddleref25_Turned_val r) (fun _ => []) (c_raddleref25_Turned_D r)) := by
  unfold F_raddleref25_Turned at h
  obtain ⟨ad1, cp2, _, rfl, _⟩ := S.know (i := 0) (e := fRep (rL r_api_Stitch) (v0) p0) rfl
  refine sEnter (args := [.slice ad1 p0.length cp2]) 21 Try.func55 rfl rfl (by simp) S (fun a S => ?_)
  refine sSeq (fun K3 hK3 => ?_)
  refine sRegion ?_
  refine sMove (.slice none 0 0) S (wN rfl) (.inr rfl) rfl rfl (lb rfl) fun a S => ?_
  refine leafL (leafT (hK3 _ _ ?_))
  refine sSeq (fun K4 hK4 => ?_)
  refine sRegion ?_
  refine sMove (.slice none 0 0) S (wN rfl) (.inr rfl) rfl rfl (lb rfl) fun a S => ?_
  refine leafL (leafT (hK4 _ _ ?_))
  obtain ⟨t8, h, g9⟩ := bindSome h
  refine sCut (fun a w => ∃ o5, o5 = t8 ∧ ∃ ad6, ∃ cp7, St [] E [] w0 21 a w [(3, .slice ad6 o5.length cp7)] [eRow r_api_Stitch 82 (.slice ad6 o5.length cp7) o5] []) ?_ (fun a w hI => ?_)
  rotate_left
  · obtain ⟨o5, rfl, ad6, cp7, S⟩ := hI
    have h := g9
    clear g9
    try dsimp only at h
    refine sSeq (fun K39 hK39 => ?_)
    refine sRegion ?_
    refine sMove (.slice ad6 o5.length cp7) S (wN rfl) (.inl rfl) rfl rfl (lb rfl) fun a S => ?_
    refine sMove (.slice ad6 o5.length cp7) S (wN rfl) (.inr rfl) rfl rfl (lb rfl) fun a S => ?_
    refine leafL (leafT (hK39 _ _ ?_))
    obtain rfl := Option.some.inj h
    have S := S.shutR (r := r_api_Stitch) (T := 82) (v := .slice ad6 o5.length cp7) (xs := o5) 0 rfl
    exact wp_ret (sRet (.slice ad6 o5.length cp7) S (rsl1 rfl (rvT (t := 2) (v := .slice ad6 o5.length cp7) S rfl)) ⟨(.slice ad6 o5.length cp7), rfl, S.mem.sel [] [0] (by decide) rfl rfl⟩)
  refine sSeq (fun K10 hK10 => ?_)
  refine sRegion ?_
  refine sMove (.slice ad1 p0.length cp2) S (wN rfl) (.inl rfl) rfl rfl (lb rfl) fun a S => ?_
  refine sLen (ad := ad1) (m := p0.length) (c := cp2) S (wN rfl) rfl Try.underlying78 rfl rfl (lb rfl) fun a S => ?_
  refine sBin (iv (w64 ((p0.length : Int) - 1))) S (wN rfl) rfl rfl rfl (bSub _ _ _ _ (p0.length : Int) 1) rfl (lb rfl) fun a S => ?_
  refine sMove (iv (w64 ((p0.length : Int) - 1))) S (wN rfl) (.inr rfl) rfl rfl (lb rfl) fun a S => ?_
  refine leafL (leafT (hK10 _ _ ?_))
  refine wp_block ?_
  have S := S.nilRow r_api_Stitch 82 (α := api_Stitch)
  obtain ⟨t17, hl, g16⟩ := bindSome h
  refine sLoop hl (fun s0 a w => match s0 with | (s11, s14) => ∃ ad12, ∃ cp13, St [] E [] w0 21 a w [(0, .slice ad1 p0.length cp2), (3, .slice ad12 s11.length cp13), (4, iv s14)] [eRow r_api_Stitch 82 (.slice ad12 s11.length cp13) s11] [fRep (rL r_api_Stitch) (.slice ad1 p0.length cp2) p0]) ⟨none, 0, S.fix [0] [0] (by decide) rfl rfl rfl⟩ ?_
  clear hl h
  intro s0 a w c0 hI h hu15
  obtain ⟨s11, s14⟩ := s0
  unfold raddleref25_Turned_l1 at h
  dsimp only at h hI
  obtain ⟨ad12, cp13, S⟩ := hI
  refine sSeq (fun K21 hK21 => ?_)
  refine sSeq (fun K22 hK22 => ?_)
  refine sRegion ?_
  refine sMove (iv s14) S (wN rfl) (.inl rfl) rfl rfl (lb rfl) fun a S => ?_
  refine sBin (.bool (decide (0 ≤ s14))) S (wN rfl) rfl rfl rfl (bGe _ _ _ _ .i64 s14 0) rfl (lb rfl) fun a S => ?_
  refine leafL (leafT (hK22 _ _ ?_))
  rcases iteSome h with ⟨hc23, h⟩ | ⟨hc23, h⟩
  rotate_left
  · refine sCondF S rfl hc23 ?_
    obtain rfl := Option.some.inj h
    obtain rfl := hu15 _ rfl
    have h := g16
    clear g16
    try dsimp only at h
    exact wp_exit (xThen (xThen (xHit (leafT (⟨s11, Option.some.inj h, ad12, cp13, S.fix [0] [] (by decide) rfl rfl rfl⟩)))))
  refine sCondT S rfl hc23 ?_
  refine wp_skip (leafT (hK21 _ _ ?_))
  refine sSeq (fun K24 hK24 => ?_)
  refine wp_block ?_
  refine sRegion ?_
  refine sMove (.slice ad12 s11.length cp13) S (wN rfl) (.inl rfl) rfl rfl (lb rfl) fun a S => ?_
  refine sMove (.slice ad1 p0.length cp2) S (wN rfl) (.inl rfl) rfl rfl (lb rfl) fun a S => ?_
  refine sMove (iv s14) S (wN rfl) (.inl rfl) rfl rfl (lb rfl) fun a S => ?_
  obtain ⟨x25, hx26, h⟩ := bindSome h
  obtain ⟨q27, hq28, S⟩ := pIdx (P := Try.prog) (r := r_api_Stitch) (v := .slice ad1 p0.length cp2) (xs := p0) (j := s14) 78 82 0 S Try.underlying78 rfl rfl hx26
  refine sIdxV (v := .slice ad1 p0.length cp2) (k := .i64) (j := s14) S (wN rfl) rfl rfl rfl hq28 rfl (lb rfl) fun a S => ?_
  obtain ⟨u29, S⟩ := pLoad (r := r_api_Stitch) (q := q27) (x := x25) 0 S rfl
  obtain rfl : u29 = .agg #[.int .u8 x25.Kind, .bool x25.Purl, iv x25.A, iv x25.B] := S.mem.know (i := 1) (e := fRep r_api_Stitch (u29) x25) rfl
  refine sLoadVN (vq := q27) 0 [.int .u8 x25.Kind, .bool x25.Purl, iv x25.A, iv x25.B] S (wN rfl) rfl rfl rfl rfl rfl rfl (lb rfl) fun a S => ?_
  obtain ⟨r30, hx31, h⟩ := bindSome h
  refine sCall (X := Value) (f := 73) (vs := [.agg #[.int .u8 x25.Kind, .bool x25.Purl, iv x25.A, iv x25.B]]) (val := c_raddleref25_Other_val r30) (B' := fun _ => []) (D' := c_raddleref25_Other_D r30) [] [eRow r_api_Stitch 82 (.slice ad12 s11.length cp13) s11] [fRep r_api_Stitch (.agg #[.int .u8 x25.Kind, .bool x25.Purl, iv x25.A, iv x25.B]) x25] [0] [1] S (wN rfl) rfl callee73 rfl (by decide) rfl rfl (fun E1 w1 S1 => c_raddleref25_Other E1 w1 x25 (.agg #[.int .u8 x25.Kind, .bool x25.Purl, iv x25.A, iv x25.B]) r30 hx31 S1) rfl (lb rfl) fun u32 a w S => ?_
  obtain rfl : u32 = .agg #[.int .u8 r30.Kind, .bool r30.Purl, iv r30.A, iv r30.B] := S.mem.know (i := 0) (e := fRep r_api_Stitch (u32) r30) rfl
  refine sLit (r := r_api_Stitch) (T := 82) (xs := [r30]) [(0, .agg #[.int .u8 r30.Kind, .bool r30.Purl, iv r30.A, iv r30.B])] 1 [.agg #[.int .u8 r30.Kind, .bool r30.Purl, iv r30.A, iv r30.B]] [.int .u8 r30.Kind, .bool r30.Purl, iv r30.A, iv r30.B] (.agg #[.int .u8 0, .bool false, iv 0, iv 0]) 24 S (wN rfl) rfl rfl Try.underlying78 rfl (by decide) (by decide) (by kernel_rfl) rfl (fun E1 w1 hE => All.cons (r_api_Stitch.mono hE (S.mem.know (i := 0) (e := fRep r_api_Stitch (.agg #[.int .u8 r30.Kind, .bool r30.Purl, iv r30.A, iv r30.B]) r30) rfl)) (All.nil _ _ _)) rfl rfl (lb rfl) fun a w ad33 cp34 S => ?_
  obtain ⟨l35, hx36, h⟩ := bindSome h
  refine sApp (r := r_api_Stitch) (T := 82) (xs := s11) (ys := [r30]) (v := .slice ad12 s11.length cp13) (u := .slice ad33 [r30].length cp34) 1 (.agg #[.int .u8 0, .bool false, iv 0, iv 0]) 24 S (wN rfl) rfl Try.underlying78 rfl rfl (by decide) rfl rfl rfl (src_R (T := 82) 0 S.mem rfl) hx36 rfl (lb rfl) fun a w ad37 cp38 S => ?_
  refine sMove (.slice ad37 l35.length cp38) S (wN rfl) (.inr rfl) rfl rfl (lb rfl) fun a S => ?_
  refine leafL (leafB (leafT (hK24 _ _ ?_)))
  refine sRegion ?_
  refine sMove (iv s14) S (wN rfl) (.inl rfl) rfl rfl (lb rfl) fun a S => ?_
  refine sBin (iv (w64 (s14 - 1))) S (wN rfl) rfl rfl rfl (bSub _ _ _ _ s14 1) rfl (lb rfl) fun a S => ?_
  refine sMove (iv (w64 (s14 - 1))) S (wN rfl) (.inr rfl) rfl rfl (lb rfl) fun a S => ?_
  exact leafL (leafT (⟨(l35, w64 (s14 - 1)), (Option.some.inj h).symm, ⟨ad37, cp38, S.fix [0] [4] (by decide) rfl rfl rfl⟩⟩))

end Go.Proofs.Ytmedbnjhgkcndaa
namespace Go.Proofs.Ytmedbnjhgkcndaa
open Go.RowKit
set_option linter.unusedVariables false

noncomputable def F_raddleref25_Turn (p0 : (List api_Stitch)) : Option ((List api_Stitch) × Int) :=
  Option.bind (F_raddleref25_All p0) fun r6 =>
  if r6 != 0 then
    some (([] : (List api_Stitch)), r6)
  else
    Option.bind (F_raddleref25_Turned p0) fun r11 =>
    some (r11, 0)
def c_raddleref25_Turn_val (r : ((List api_Stitch) × Int)) (x : Value) : Value := .tuple #[x, .int .i64 r.2]
def c_raddleref25_Turn_D (r : ((List api_Stitch) × Int)) (x : Value) : List Fact := [fRep (rL r_api_Stitch) x r.1]
set_option maxHeartbeats 4000000 in
set_option maxRecDepth 100000 in
theorem c_raddleref25_Turn (E : Nat → Prop) (w0 : World) (p0 : (List api_Stitch)) (v0 : Value) (r : ((List api_Stitch) × Int)) (h : F_raddleref25_Turn p0 = some r) (S : St0 E [] w0 w0 [] [fRep (rL r_api_Stitch) (v0) p0]) :
    Calls Try.prog 38 #[v0] w0 (Ret (X := Value) E [] w0 (c_raddleref25_Turn_val r) (fun _ => []) (c_raddleref25_Turn_D r)) := by
  unfold F_raddleref25_Turn at h
  obtain ⟨ad1, cp2, _, rfl, _⟩ := S.know (i := 0) (e := fRep (rL r_api_Stitch) (v0) p0) rfl
  refine sEnter (args := [.slice ad1 p0.length cp2]) 11 Try.func38 rfl rfl (by simp) S (fun a S => ?_)
  refine sSeq (fun K3 hK3 => ?_)
  refine sRegion ?_
  refine sMove (.slice none 0 0) S (wN rfl) (.inr rfl) rfl rfl (lb rfl) fun a S => ?_
  refine sMove (iv 0) S (wN rfl) (.inr rfl) rfl rfl (lb rfl) fun a S => ?_
  refine leafL (leafT (hK3 _ _ ?_))
  refine sSeq (fun K4 hK4 => ?_)
  refine sSeq (fun K5 hK5 => ?_)
  refine sRegion ?_
  refine sMove (.slice ad1 p0.length cp2) S (wN rfl) (.inl rfl) rfl rfl (lb rfl) fun a S => ?_
  obtain ⟨r6, hx7, h⟩ := bindSome h
  have S1 := S.mem
  refine sCallQ (X := Unit) (f := 42) (vs := [.slice ad1 p0.length cp2]) (val := fun _ => iv r6) S (wN rfl) rfl callee42 rfl (S1.quiet [0] rfl) (fun E1 w1 S1 => c_raddleref25_All E1 w1 p0 (.slice ad1 p0.length cp2) r6 hx7 S1) rfl (lb rfl) fun _ a w S => ?_
  refine sBin (.bool (r6 != 0)) S (wN rfl) rfl rfl rfl (bNe _ _ _ _ .i64 r6 0) rfl (lb rfl) fun a S => ?_
  refine leafL (leafT (hK5 _ _ ?_))
  rcases iteSome h with ⟨hc8, h⟩ | ⟨hc8, h⟩
  · refine sCondT S rfl hc8 ?_
    refine sSeq (fun K9 hK9 => ?_)
    refine sRegion ?_
    refine sMove (.slice ad1 p0.length cp2) S (wN rfl) (.inl rfl) rfl rfl (lb rfl) fun a S => ?_
    have S1 := S.mem
    refine sCallQ (X := Unit) (f := 42) (vs := [.slice ad1 p0.length cp2]) (val := fun _ => iv r6) S (wN rfl) rfl callee42 rfl (S1.quiet [0] rfl) (fun E1 w1 S1 => c_raddleref25_All E1 w1 p0 (.slice ad1 p0.length cp2) r6 hx7 S1) rfl (lb rfl) fun _ a w S => ?_
    refine sMove (.slice none 0 0) S (wN rfl) (.inr rfl) rfl rfl (lb rfl) fun a S => ?_
    refine sMove (iv r6) S (wN rfl) (.inr rfl) rfl rfl (lb rfl) fun a S => ?_
    refine leafL (leafT (hK9 _ _ ?_))
    obtain rfl := Option.some.inj h
    have S := S.learn (fRep (rL r_api_Stitch) (.slice none 0 0) ([] : (List api_Stitch))) (rL_nil _ _ _)
    exact wp_ret (rThen (sRet (.tuple #[.slice none 0 0, iv r6]) S (rsl2 rfl (rvT (t := 2) (v := .slice none 0 0) S rfl) (rvT (t := 3) (v := iv r6) S rfl)) ⟨(.slice none 0 0), rfl, S.mem.sel [] [0] (by decide) rfl rfl⟩))
  refine sCondF S rfl hc8 ?_
  refine wp_skip (leafT (hK4 _ _ ?_))
  refine sSeq (fun K10 hK10 => ?_)
  refine sRegion ?_
  refine sMove (.slice ad1 p0.length cp2) S (wN rfl) (.inl rfl) rfl rfl (lb rfl) fun a S => ?_
  obtain ⟨r11, hx12, h⟩ := bindSome h
  refine sCall (X := Value) (f := 55) (vs := [.slice ad1 p0.length cp2]) (val := c_raddleref25_Turned_val r11) (B' := fun _ => []) (D' := c_raddleref25_Turned_D r11) [] [] [fRep (rL r_api_Stitch) (.slice ad1 p0.length cp2) p0] [] [0] S (wN rfl) rfl callee55 rfl (by decide) rfl rfl (fun E1 w1 S1 => c_raddleref25_Turned E1 w1 p0 (.slice ad1 p0.length cp2) r11 hx12 S1) rfl (lb rfl) fun u13 a w S => ?_
  obtain ⟨ad14, cp15, _, rfl, _⟩ := S.mem.know (i := 0) (e := fRep (rL r_api_Stitch) (u13) r11) rfl
  refine sMove (.slice ad14 r11.length cp15) S (wN rfl) (.inr rfl) rfl rfl (lb rfl) fun a S => ?_
  refine sMove (iv 0) S (wN rfl) (.inr rfl) rfl rfl (lb rfl) fun a S => ?_
  refine leafL (leafT (hK10 _ _ ?_))
  obtain rfl := Option.some.inj h
  exact wp_ret (sRet (.tuple #[.slice ad14 r11.length cp15, iv 0]) S (rsl2 rfl (rvT (t := 2) (v := .slice ad14 r11.length cp15) S rfl) (rvT (t := 3) (v := iv 0) S rfl)) ⟨(.slice ad14 r11.length cp15), rfl, S.mem.sel [] [0] (by decide) rfl rfl⟩)

end Go.Proofs.Ytmedbnjhgkcndaa
namespace Go.Proofs.Ytmedbnjhgkcndaa
open Go.RowKit
set_option linter.unusedVariables false

theorem take_one {α : Type} (l : List α) {k : Nat} (hk : k < l.length) : l.take (k + 1) = l.take k ++ [l[k]] := by
  rw [List.take_add_one, List.getElem?_eq_getElem hk]; rfl
def othS (p : api_Stitch) : api_Stitch := ⟨p.Kind, if p.Kind = 2 ∨ p.Kind = 9 then p.Purl else !p.Purl, if p.Kind = 6 ∨ p.Kind = 7 then p.B else p.A, if p.Kind = 6 ∨ p.Kind = 7 then p.A else p.B⟩
theorem purl_no {p : api_Stitch} (h : okS p) (k : p.Kind = 2 ∨ p.Kind = 9) : p.Purl = false := by
  rcases h with h | h | h | h | h | h
  · omega
  · exact h.2.2.2
  · omega
  · omega
  · exact h.2.2.2.2
  · omega
theorem turn_form {p : api_Stitch} (h : okS p) : ∃ f, F_stitch_forms p.Kind = some (f, true) ∧ (if f.sided = true then some (!p.Purl) else some false) = some (othS p).Purl ∧ (if decide (0 < f.b.2) = true then some (p.B, p.A) else some (p.A, p.B)) = some ((othS p).A, (othS p).B) := by
  have hb := okS_bd h
  unfold othS
  rcases kinds (x := p.Kind) (by omega) with k | k | k | k | k | k | k | k | k | k | k | k
  · omega
  · exact ⟨⟨⟨#[]⟩, (0, 0), (0, 0), true, 1, 1⟩, by rw [k]; rfl, by simp [k], by simp [k]⟩
  · exact ⟨⟨⟨#[]⟩, (0, 0), (0, 0), false, 0, 1⟩, by rw [k]; rfl, by simp [k, purl_no h (.inl k)], by simp [k]⟩
  · exact ⟨⟨⟨#[102]⟩, (2, 4), (0, 0), true, 2, 1⟩, by rw [k]; rfl, by simp [k], by simp [k]⟩
  · exact ⟨⟨⟨#[108]⟩, (2, 4), (0, 0), true, 2, 1⟩, by rw [k]; rfl, by simp [k], by simp [k]⟩
  · exact ⟨⟨⟨#[109]⟩, (2, 4), (0, 0), true, 1, 2⟩, by rw [k]; rfl, by simp [k], by simp [k]⟩
  · exact ⟨⟨⟨#[120]⟩, (1, 6), (1, 6), true, 3, 3⟩, by rw [k]; rfl, by simp [k], by simp [k]⟩
  · exact ⟨⟨⟨#[121]⟩, (1, 6), (1, 6), true, 3, 3⟩, by rw [k]; rfl, by simp [k], by simp [k]⟩
  · exact ⟨⟨⟨#[115]⟩, (0, 0), (0, 0), true, 1, 1⟩, by rw [k]; rfl, by simp [k], by simp [k]⟩
  · exact ⟨⟨⟨#[]⟩, (1, 200), (0, 0), false, 0, 2⟩, by rw [k]; rfl, by simp [k, purl_no h (.inr k)], by simp [k]⟩
  · exact ⟨⟨⟨#[111]⟩, (1, 200), (0, 0), true, 2, 0⟩, by rw [k]; rfl, by simp [k], by simp [k]⟩
  · omega
theorem turn_step {p : api_Stitch} (h : okS p) (s : List api_Stitch) (hs : s.length ≤ 1000000000) (i : Int) : stitch_Turn_l2 s (i, p) = some (.inl (s ++ [othS p])) := by
  obtain ⟨f, f1, f2, f3⟩ := turn_form h
  unfold stitch_Turn_l2
  simp only [f1, Option.bind_some, f2, f3]
  rw [appO_of (by simp; omega)]
  rfl
/-- a list from its end on -/
def bkw {α : Type} (l : List α) : Nat → List (Int × α)
  | 0 => []
  | k + 1 => match l[k]? with
    | some x => ((k : Int), x) :: bkw l k
    | none => bkw l k
theorem bkw_fold {α β τ : Type} {B : List β → (Int × α) → Option (List β ⊕ τ)} (l : List α) (g : α → β) (m : Nat) (hB : ∀ s x i, x ∈ l → s.length ≤ m → B s (i, x) = some (.inl (s ++ [g x]))) : ∀ (k : Nat) (s : List β), k ≤ l.length → s.length + k ≤ m → foldO B s (bkw l k) = some (.inl (s ++ ((l.take k).map g).reverse)) := by
  intro k
  induction k with
  | zero => intro s _ _; simp [bkw, foldO]
  | succ k ih =>
    intro s hk hs
    have hx : l[k]? = some (l[k]'(by omega)) := List.getElem?_eq_getElem (by omega)
    simp only [bkw, hx, foldO]
    rw [hB s _ _ (List.getElem_mem _) (by omega)]
    simp only [Option.bind_some]
    rw [ih _ (by omega) (by simp; omega), take_one l (by omega), List.map_append, List.reverse_append, List.append_assoc]
    rfl
theorem back_loop {σ τ : Type} (l : List api_Stitch) (hl : l.length ≤ 1000000000) (B : σ → (Int × api_Stitch) → Option (σ ⊕ τ)) : ∀ (k : Nat) (z : σ), k ≤ l.length → (whileO (slices_Backward___api_Stitch_api_Stitch__1_l1 l B) ((k : Int) - 1, z)).bind fin3 = foldO B z (bkw l k) := by
  intro k
  induction k with
  | zero =>
    intro z _
    have : slices_Backward___api_Stitch_api_Stitch__1_l1 l B (((0 : Nat) : Int) - 1, z) = some (.inr (.inr z)) := by
      unfold slices_Backward___api_Stitch_api_Stitch__1_l1
      simp only [dF (show ¬ (0 : Int) ≤ ((0 : Nat) : Int) - 1 by omega), Bool.false_eq_true, if_false]
    rw [whileO_done this]
    rfl
  | succ k ih =>
    intro z hk
    have e : ((k + 1 : Nat) : Int) - 1 = (k : Int) := by omega
    have hx : l[k]? = some (l[k]'(by omega)) := List.getElem?_eq_getElem (by omega)
    have e1 : slices_Backward___api_Stitch_api_Stitch__1_l1 l B ((k : Int), z) = (B z ((k : Int), l[k]'(by omega))).bind fun y => match y with | .inl z' => some (.inl ((k : Int) - 1, z')) | .inr t => some (.inr (.inl (.inr t))) := by
      unfold slices_Backward___api_Stitch_api_Stitch__1_l1
      simp only [dT (show (0 : Int) ≤ (k : Int) by omega), if_true, idxO_nat (show k < l.length by omega), Option.bind_some, w64_of (show (-9223372036854775808 : Int) ≤ (k : Int) - 1 by omega) (by omega)]
      try congr 1
    simp only [bkw, hx]
    rw [e, whileO_eq, e1, foldO]
    cases hb : B z ((k : Int), l[k]'(by omega)) with
    | none => rfl
    | some y =>
      cases y with
      | inl z' => exact ih z' (by omega)
      | inr t => rfl
theorem backI_eq {σ τ : Type} (l : List api_Stitch) (hl : l.length ≤ 1000000000) (B : σ → (Int × api_Stitch) → Option (σ ⊕ τ)) (z : σ) : I_slices_Backward___api_Stitch_api_Stitch__1 l σ τ B z = foldO B z (bkw l l.length) := by
  rw [← back_loop l hl B l.length z (Nat.le_refl _)]
  unfold I_slices_Backward___api_Stitch_api_Stitch__1
  rw [w64_of (show (-9223372036854775808 : Int) ≤ (l.length : Int) - 1 by omega) (by omega)]
  try congr 1
theorem turn_eq {l : List api_Stitch} (hw : ∀ p, p ∈ l → wfS p) : F_stitch_Turn l = some (if allS l = 0 then ((l.map othS).reverse, 0) else ([], allS l)) := by
  unfold F_stitch_Turn F_slices_Backward___api_Stitch_api_Stitch_
  rw [all_eq hw]
  by_cases h : allS l = 0
  case neg => simp only [Option.bind_some, nT h, if_true, if_neg h]
  have hk := allS_ok h
  simp only [Option.bind_some, nF h, Bool.false_eq_true, if_false, capO_of (n := (l.length : Int)) (k := l.length) rfl (by omega), if_pos h]
  rw [backI_eq l (by omega), bkw_fold l othS 1000000000 (fun s x i hx hs => turn_step (hk.2.1 x hx) s hs i) l.length [] (Nat.le_refl _) (by simp; omega), List.take_length]
  rfl
theorem rother_eq (p : api_Stitch) : F_raddleref25_Other p = some (othS p) := by
  unfold F_raddleref25_Other othS
  by_cases k2 : p.Kind = 2
  · simp [k2]
  by_cases k9 : p.Kind = 9
  · simp [k9]
  by_cases k6 : p.Kind = 6
  · simp [k6]
  by_cases k7 : p.Kind = 7
  · simp [k7]
  simp [k2, k9, k6, k7]
theorem rturned_eq {l : List api_Stitch} (hl : l.length ≤ 1000000000) : F_raddleref25_Turned l = some ((l.map othS).reverse) := by
  have key : ∀ (k : Nat) (s : List api_Stitch), k ≤ l.length → s.length + k ≤ 1000000000 → whileO (raddleref25_Turned_l1 l) (s, (k : Int) - 1) = some (s ++ ((l.take k).map othS).reverse) := by
    intro k
    induction k with
    | zero =>
      intro s _ _
      have : raddleref25_Turned_l1 l (s, ((0 : Nat) : Int) - 1) = some (.inr s) := by
        unfold raddleref25_Turned_l1
        simp only [dF (show ¬ (0 : Int) ≤ ((0 : Nat) : Int) - 1 by omega), Bool.false_eq_true, if_false]
      rw [whileO_done this]
      simp
    | succ k ih =>
      intro s hk hs
      have hx : l[k]? = some (l[k]'(by omega)) := List.getElem?_eq_getElem (by omega)
      have e : ((k + 1 : Nat) : Int) - 1 = (k : Int) := by omega
      have e1 : raddleref25_Turned_l1 l (s, (k : Int)) = some (.inl (s ++ [othS (l[k]'(by omega))], (k : Int) - 1)) := by
        unfold raddleref25_Turned_l1
        simp only [dT (show (0 : Int) ≤ (k : Int) by omega), if_true, idxO_nat (show k < l.length by omega), Option.bind_some, rother_eq, appO_of (show s.length + [othS (l[k]'(by omega))].length ≤ 68719476736 by simp; omega), w64_of (show (-9223372036854775808 : Int) ≤ (k : Int) - 1 by omega) (by omega)]
      rw [e, whileO_step e1, ih _ (by omega) (by simp; omega), take_one l (by omega), List.map_append, List.reverse_append, List.append_assoc]
      rfl
  have h0 := key l.length [] (Nat.le_refl _) (by simp; omega)
  unfold F_raddleref25_Turned
  rw [w64_of (show (-9223372036854775808 : Int) ≤ (l.length : Int) - 1 by omega) (by omega), h0, List.take_length]
  rfl
theorem rturn_eq (l : List api_Stitch) : F_raddleref25_Turn l = some (if allS l = 0 then ((l.map othS).reverse, 0) else ([], allS l)) := by
  unfold F_raddleref25_Turn
  rw [rall_eq]
  by_cases h : allS l = 0
  case neg => simp only [Option.bind_some, nT h, if_true, if_neg h]
  have hk := allS_ok h
  simp only [Option.bind_some, nF h, Bool.false_eq_true, if_false, rturned_eq (show l.length ≤ 1000000000 by omega), if_pos h]

end Go.Proofs.Ytmedbnjhgkcndaa
namespace Go.Proofs.Ytmedbnjhgkcndaa
open Go.RowKit
set_option linter.unusedVariables false

theorem oth_ok {p : api_Stitch} (h : okS p) : okS (othS p) ∧ usedS (othS p) = usedS p ∧ madeS (othS p) = madeS p := by
  have hb := okS_bd h
  have hk : (othS p).Kind = p.Kind := rfl
  rcases kinds (x := p.Kind) (by omega) with k | k | k | k | k | k | k | k | k | k | k | k
  · omega
  · refine ⟨?_, ?_, ?_⟩ <;> simp [okS, usedS, madeS, othS, k] at h ⊢ <;> omega
  · refine ⟨?_, ?_, ?_⟩ <;> simp [okS, usedS, madeS, othS, k] at h ⊢ <;> exact h
  · refine ⟨?_, ?_, ?_⟩ <;> simp [okS, usedS, madeS, othS, k] at h ⊢ <;> omega
  · refine ⟨?_, ?_, ?_⟩ <;> simp [okS, usedS, madeS, othS, k] at h ⊢ <;> omega
  · refine ⟨?_, ?_, ?_⟩ <;> simp [okS, usedS, madeS, othS, k] at h ⊢ <;> omega
  · refine ⟨?_, ?_, ?_⟩ <;> simp [okS, usedS, madeS, othS, k] at h ⊢ <;> omega
  · refine ⟨?_, ?_, ?_⟩ <;> simp [okS, usedS, madeS, othS, k] at h ⊢ <;> omega
  · refine ⟨?_, ?_, ?_⟩ <;> simp [okS, usedS, madeS, othS, k] at h ⊢ <;> omega
  · refine ⟨?_, ?_, ?_⟩ <;> simp [okS, usedS, madeS, othS, k] at h ⊢ <;> first | exact h | omega
  · refine ⟨?_, ?_, ?_⟩ <;> simp [okS, usedS, madeS, othS, k] at h ⊢ <;> omega
  · omega
theorem sm_reverse {α : Type} (f : α → Int) (l : List α) : sm f l.reverse = sm f l := by
  induction l with
  | nil => rfl
  | cons x l ih => rw [List.reverse_cons, sm_append, ih]; simp only [sm]; omega
theorem sm_oth {l : List api_Stitch} (h : allOk l) : sm usedS (l.map othS) = sm usedS l ∧ sm madeS (l.map othS) = sm madeS l := by
  induction l with
  | nil => exact ⟨rfl, rfl⟩
  | cons x l ih =>
    have hx := oth_ok (h x (by simp))
    have ih := ih fun y hy => h y (by simp [hy])
    simp only [List.map_cons, sm, hx.2.1, hx.2.2, ih.1, ih.2, and_self]
theorem turned_ok {l : List api_Stitch} (h : allS l = 0) : allS ((l.map othS).reverse) = 0 ∧ sm usedS ((l.map othS).reverse) = sm usedS l ∧ sm madeS ((l.map othS).reverse) = sm madeS l := by
  obtain ⟨h1, h2, h3, h4⟩ := allS_ok h
  have hs := sm_oth h2
  have hok : allOk ((l.map othS).reverse) := by
    intro p hp
    rw [List.mem_reverse] at hp
    obtain ⟨q, hq, rfl⟩ := List.mem_map.1 hp
    exact (oth_ok (h2 q hq)).1
  rw [sm_reverse, sm_reverse, hs.1, hs.2]
  refine ⟨?_, rfl, rfl⟩
  unfold allS
  rw [sm_reverse, sm_reverse, hs.1, hs.2, if_neg (by simp; omega), if_pos hok, if_neg (by omega)]
end Go.Proofs.Ytmedbnjhgkcndaa
namespace Go.Proofs.Ytmedbnjhgkcndaa
open Go.RowKit
set_option linter.unusedVariables false

noncomputable def F_piece_bend (p0 : Int) (p1 : Int) : Option piece_edge :=
  if p0 == 0 then
    some (piece_edge.mk (api_Stitch.mk 0 false 0 0) 0)
  else
    if decide (4 ≤ p0) then
      some (piece_edge.mk (api_Stitch.mk 9 false p0 0) 0)
    else
      if decide (0 < p0) then
        some (piece_edge.mk (api_Stitch.mk 5 false (w64 (p0 + 1)) 0) 1)
      else
        if decide ((-4) < p0) then
          some (piece_edge.mk (api_Stitch.mk p1 false (w64 (1 - p0)) 0) (w64 (1 - p0)))
        else
          some (piece_edge.mk (api_Stitch.mk 10 false (w64 (0 - p0)) 0) (w64 (0 - p0)))
def c_piece_bend_val (r : piece_edge) (x : Value) : Value := x
def c_piece_bend_D (r : piece_edge) (x : Value) : List Fact := [fRep r_piece_edge x r]
set_option maxHeartbeats 4000000 in
set_option maxRecDepth 100000 in
theorem c_piece_bend (E : Nat → Prop) (w0 : World) (p0 : Int) (p1 : Int) (r : piece_edge) (h : F_piece_bend p0 p1 = some r) (S : St0 E [] w0 w0 [] []) :
    Calls Try.prog 35 #[iv p0, .int .u8 p1] w0 (Ret (X := Value) E [] w0 (c_piece_bend_val r) (fun _ => []) (c_piece_bend_D r)) := by
  unfold F_piece_bend at h
  refine sEnter (args := [iv p0, .int .u8 p1]) 38 Try.func35 rfl rfl (by simp) S (fun a S => ?_)
  refine sSeq (fun K1 hK1 => ?_)
  refine sRegion ?_
  refine sAlloc (.agg #[.int .u8 0, .bool false, iv 0, iv 0, iv 0]) S (wN rfl) rfl rfl [.int .u8 0, .bool false, iv 0, iv 0, iv 0] rfl rfl (lb rfl) fun a b2 w S => ?_
  refine leafL (leafT (hK1 _ _ ?_))
  refine sSeq (fun K3 hK3 => ?_)
  refine wp_block ?_
  refine sSeq (fun K4 hK4 => ?_)
  refine sRegion ?_
  refine sMove (iv p0) S (wN rfl) (.inl rfl) rfl rfl (lb rfl) fun a S => ?_
  refine sBin (.bool (p0 == 0)) S (wN rfl) rfl rfl rfl (bEq _ _ _ _ .i64 p0 0) rfl (lb rfl) fun a S => ?_
  refine sMove (.bool (p0 == 0)) S (wN rfl) (.inr rfl) rfl rfl (lb rfl) fun a S => ?_
  refine leafL (leafT (hK4 _ _ ?_))
  rcases iteSome h with ⟨hc5, h⟩ | ⟨hc5, h⟩
  · refine sCondT S rfl hc5 ?_
    refine sSeq (fun K6 hK6 => ?_)
    refine sRegion ?_
    refine sBuild [] [.int .u8 0, .bool false, iv 0, iv 0, iv 0] S (wN rfl) rfl rfl rfl rfl (lb rfl) fun a S => ?_
    refine sStore (p := b2) (off := 0) (T := 84) (vs := [.int .u8 0, .bool false, iv 0, iv 0, iv 0]) (v := .agg #[.int .u8 0, .bool false, iv 0, iv 0, iv 0]) 0 [.int .u8 0, .bool false, iv 0, iv 0, iv 0] S (wN rfl) rfl rfl rfl rfl rfl rfl rfl (by simp) rfl fun a w S => ?_
    refine leafL (leafT (hK6 _ _ ?_))
    obtain rfl := Option.some.inj h
    have S := S.learn (fRep r_piece_edge (.agg #[.int .u8 0, .bool false, iv 0, iv 0, iv 0]) (piece_edge.mk (api_Stitch.mk 0 false 0 0) 0)) rfl
    exact wp_ret (rBlock (rThen (sRet (.agg #[.int .u8 0, .bool false, iv 0, iv 0, iv 0]) S (rsl1 rfl (rvN (c := 4) (t := 84) (T := 84) (p := b2) 0 [.int .u8 0, .bool false, iv 0, iv 0, iv 0] S rfl rfl rfl rfl)) ⟨(.agg #[.int .u8 0, .bool false, iv 0, iv 0, iv 0]), rfl, S.mem.sel [] [0] (by decide) rfl rfl⟩)))
  refine sCondF S rfl hc5 ?_
  refine sSeq (fun K7 hK7 => ?_)
  refine sRegion ?_
  refine sMove (iv p0) S (wN rfl) (.inl rfl) rfl rfl (lb rfl) fun a S => ?_
  refine sBin (.bool (decide (4 ≤ p0))) S (wN rfl) rfl rfl rfl (bGe _ _ _ _ .i64 p0 4) rfl (lb rfl) fun a S => ?_
  refine sMove (.bool (decide (4 ≤ p0))) S (wN rfl) (.inr rfl) rfl rfl (lb rfl) fun a S => ?_
  refine leafL (leafT (hK7 _ _ ?_))
  rcases iteSome h with ⟨hc8, h⟩ | ⟨hc8, h⟩
  · refine sCondT S rfl hc8 ?_
    refine sSeq (fun K9 hK9 => ?_)
    refine sRegion ?_
    refine sMove (iv p0) S (wN rfl) (.inl rfl) rfl rfl (lb rfl) fun a S => ?_
    refine sBuild [(0, .int .u8 9), (2, iv p0)] [.int .u8 9, .bool false, iv p0, iv 0] S (wN rfl) rfl rfl rfl rfl (lb rfl) fun a S => ?_
    refine sBuild [(0, .agg #[.int .u8 9, .bool false, iv p0, iv 0])] [.int .u8 9, .bool false, iv p0, iv 0, iv 0] S (wN rfl) rfl rfl rfl rfl (lb rfl) fun a S => ?_
    refine sStore (p := b2) (off := 0) (T := 84) (vs := [.int .u8 0, .bool false, iv 0, iv 0, iv 0]) (v := .agg #[.int .u8 9, .bool false, iv p0, iv 0, iv 0]) 0 [.int .u8 9, .bool false, iv p0, iv 0, iv 0] S (wN rfl) rfl rfl rfl rfl rfl rfl rfl (by simp) rfl fun a w S => ?_
    refine leafL (leafT (hK9 _ _ ?_))
    obtain rfl := Option.some.inj h
    have S := S.learn (fRep r_piece_edge (.agg #[.int .u8 9, .bool false, iv p0, iv 0, iv 0]) (piece_edge.mk (api_Stitch.mk 9 false p0 0) 0)) rfl
    exact wp_ret (rBlock (rThen (sRet (.agg #[.int .u8 9, .bool false, iv p0, iv 0, iv 0]) S (rsl1 rfl (rvN (c := 4) (t := 84) (T := 84) (p := b2) 0 [.int .u8 9, .bool false, iv p0, iv 0, iv 0] S rfl rfl rfl rfl)) ⟨(.agg #[.int .u8 9, .bool false, iv p0, iv 0, iv 0]), rfl, S.mem.sel [] [0] (by decide) rfl rfl⟩)))
  refine sCondF S rfl hc8 ?_
  refine sSeq (fun K10 hK10 => ?_)
  refine sRegion ?_
  refine sMove (iv p0) S (wN rfl) (.inl rfl) rfl rfl (lb rfl) fun a S => ?_
  refine sBin (.bool (decide (0 < p0))) S (wN rfl) rfl rfl rfl (bGt _ _ _ _ .i64 p0 0) rfl (lb rfl) fun a S => ?_
  refine sMove (.bool (decide (0 < p0))) S (wN rfl) (.inr rfl) rfl rfl (lb rfl) fun a S => ?_
  refine leafL (leafT (hK10 _ _ ?_))
  rcases iteSome h with ⟨hc11, h⟩ | ⟨hc11, h⟩
  · refine sCondT S rfl hc11 ?_
    refine sSeq (fun K12 hK12 => ?_)
    refine sRegion ?_
    refine sMove (iv p0) S (wN rfl) (.inl rfl) rfl rfl (lb rfl) fun a S => ?_
    refine sBin (iv (w64 (p0 + 1))) S (wN rfl) rfl rfl rfl (bAdd _ _ _ _ p0 1) rfl (lb rfl) fun a S => ?_
    refine sBuild [(0, .int .u8 5), (2, iv (w64 (p0 + 1)))] [.int .u8 5, .bool false, iv (w64 (p0 + 1)), iv 0] S (wN rfl) rfl rfl rfl rfl (lb rfl) fun a S => ?_
    refine sBuild [(0, .agg #[.int .u8 5, .bool false, iv (w64 (p0 + 1)), iv 0]), (1, iv 1)] [.int .u8 5, .bool false, iv (w64 (p0 + 1)), iv 0, iv 1] S (wN rfl) rfl rfl rfl rfl (lb rfl) fun a S => ?_
    refine sStore (p := b2) (off := 0) (T := 84) (vs := [.int .u8 0, .bool false, iv 0, iv 0, iv 0]) (v := .agg #[.int .u8 5, .bool false, iv (w64 (p0 + 1)), iv 0, iv 1]) 0 [.int .u8 5, .bool false, iv (w64 (p0 + 1)), iv 0, iv 1] S (wN rfl) rfl rfl rfl rfl rfl rfl rfl (by simp) rfl fun a w S => ?_
    refine leafL (leafT (hK12 _ _ ?_))
    obtain rfl := Option.some.inj h
    have S := S.learn (fRep r_piece_edge (.agg #[.int .u8 5, .bool false, iv (w64 (p0 + 1)), iv 0, iv 1]) (piece_edge.mk (api_Stitch.mk 5 false (w64 (p0 + 1)) 0) 1)) rfl
    exact wp_ret (rBlock (rThen (sRet (.agg #[.int .u8 5, .bool false, iv (w64 (p0 + 1)), iv 0, iv 1]) S (rsl1 rfl (rvN (c := 4) (t := 84) (T := 84) (p := b2) 0 [.int .u8 5, .bool false, iv (w64 (p0 + 1)), iv 0, iv 1] S rfl rfl rfl rfl)) ⟨(.agg #[.int .u8 5, .bool false, iv (w64 (p0 + 1)), iv 0, iv 1]), rfl, S.mem.sel [] [0] (by decide) rfl rfl⟩)))
  refine sCondF S rfl hc11 ?_
  refine sSeq (fun K13 hK13 => ?_)
  refine sRegion ?_
  refine sMove (iv p0) S (wN rfl) (.inl rfl) rfl rfl (lb rfl) fun a S => ?_
  refine sBin (.bool (decide ((-4) < p0))) S (wN rfl) rfl rfl rfl (bGt _ _ _ _ .i64 p0 (-4)) rfl (lb rfl) fun a S => ?_
  refine sMove (.bool (decide ((-4) < p0))) S (wN rfl) (.inr rfl) rfl rfl (lb rfl) fun a S => ?_
  refine leafL (leafT (hK13 _ _ ?_))
  rcases iteSome h with ⟨hc14, h⟩ | ⟨hc14, h⟩
  rotate_left
  · refine sCondF S rfl hc14 ?_
    refine wp_skip (leafB (leafT (hK3 _ _ ?_)))
    refine sSeq (fun K16 hK16 => ?_)
    refine sRegion ?_
    refine sMove (iv p0) S (wN rfl) (.inl rfl) rfl rfl (lb rfl) fun a S => ?_
    refine sNeg (b := p0) S (wN rfl) rfl rfl rfl (lb rfl) fun a S => ?_
    refine sBuild [(0, .int .u8 10), (2, iv (w64 (0 - p0)))] [.int .u8 10, .bool false, iv (w64 (0 - p0)), iv 0] S (wN rfl) rfl rfl rfl rfl (lb rfl) fun a S => ?_
    refine sMove (iv p0) S (wN rfl) (.inl rfl) rfl rfl (lb rfl) fun a S => ?_
    refine sNeg (b := p0) S (wN rfl) rfl rfl rfl (lb rfl) fun a S => ?_
    refine sBuild [(0, .agg #[.int .u8 10, .bool false, iv (w64 (0 - p0)), iv 0]), (1, iv (w64 (0 - p0)))] [.int .u8 10, .bool false, iv (w64 (0 - p0)), iv 0, iv (w64 (0 - p0))] S (wN rfl) rfl rfl rfl rfl (lb rfl) fun a S => ?_
    refine sStore (p := b2) (off := 0) (T := 84) (vs := [.int .u8 0, .bool false, iv 0, iv 0, iv 0]) (v := .agg #[.int .u8 10, .bool false, iv (w64 (0 - p0)), iv 0, iv (w64 (0 - p0))]) 0 [.int .u8 10, .bool false, iv (w64 (0 - p0)), iv 0, iv (w64 (0 - p0))] S (wN rfl) rfl rfl rfl rfl rfl rfl rfl (by simp) rfl fun a w S => ?_
    refine leafL (leafT (hK16 _ _ ?_))
    obtain rfl := Option.some.inj h
    have S := S.learn (fRep r_piece_edge (.agg #[.int .u8 10, .bool false, iv (w64 (0 - p0)), iv 0, iv (w64 (0 - p0))]) (piece_edge.mk (api_Stitch.mk 10 false (w64 (0 - p0)) 0) (w64 (0 - p0)))) rfl
    exact wp_ret (sRet (.agg #[.int .u8 10, .bool false, iv (w64 (0 - p0)), iv 0, iv (w64 (0 - p0))]) S (rsl1 rfl (rvN (c := 4) (t := 84) (T := 84) (p := b2) 0 [.int .u8 10, .bool false, iv (w64 (0 - p0)), iv 0, iv (w64 (0 - p0))] S rfl rfl rfl rfl)) ⟨(.agg #[.int .u8 10, .bool false, iv (w64 (0 - p0)), iv 0, iv (w64 (0 - p0))]), rfl, S.mem.sel [] [0] (by decide) rfl rfl⟩)
  refine sCondT S rfl hc14 ?_
  refine sSeq (fun K15 hK15 => ?_)
  refine sRegion ?_
  refine sMove (.int .u8 p1) S (wN rfl) (.inl rfl) rfl rfl (lb rfl) fun a S => ?_
  refine sMove (iv p0) S (wN rfl) (.inl rfl) rfl rfl (lb rfl) fun a S => ?_
  refine sBin (iv (w64 (1 - p0))) S (wN rfl) rfl rfl rfl (bSub _ _ _ _ 1 p0) rfl (lb rfl) fun a S => ?_
  refine sBuild [(0, .int .u8 p1), (2, iv (w64 (1 - p0)))] [.int .u8 p1, .bool false, iv (w64 (1 - p0)), iv 0] S (wN rfl) rfl rfl rfl rfl (lb rfl) fun a S => ?_
  refine sMove (iv p0) S (wN rfl) (.inl rfl) rfl rfl (lb rfl) fun a S => ?_
  refine sBin (iv (w64 (1 - p0))) S (wN rfl) rfl rfl rfl (bSub _ _ _ _ 1 p0) rfl (lb rfl) fun a S => ?_
  refine sBuild [(0, .agg #[.int .u8 p1, .bool false, iv (w64 (1 - p0)), iv 0]), (1, iv (w64 (1 - p0)))] [.int .u8 p1, .bool false, iv (w64 (1 - p0)), iv 0, iv (w64 (1 - p0))] S (wN rfl) rfl rfl rfl rfl (lb rfl) fun a S => ?_
  refine sStore (p := b2) (off := 0) (T := 84) (vs := [.int .u8 0, .bool false, iv 0, iv 0, iv 0]) (v := .agg #[.int .u8 p1, .bool false, iv (w64 (1 - p0)), iv 0, iv (w64 (1 - p0))]) 0 [.int .u8 p1, .bool false, iv (w64 (1 - p0)), iv 0, iv (w64 (1 - p0))] S (wN rfl) rfl rfl rfl rfl rfl rfl rfl (by simp) rfl fun a w S => ?_
  refine leafL (leafT (hK15 _ _ ?_))
  obtain rfl := Option.some.inj h
  have S := S.learn (fRep r_piece_edge (.agg #[.int .u8 p1, .bool false, iv (w64 (1 - p0)), iv 0, iv (w64 (1 - p0))]) (piece_edge.mk (api_Stitch.mk p1 false (w64 (1 - p0)) 0) (w64 (1 - p0)))) rfl
  exact wp_ret (rBlock (rThen (sRet (.agg #[.int .u8 p1, .bool false, iv (w64 (1 - p0)), iv 0, iv (w64 (1 - p0))]) S (rsl1 rfl (rvN (c := 4) (t := 84) (T := 84) (p := b2) 0 [.int .u8 p1, .bool false, iv (w64 (1 - p0)), iv 0, iv (w64 (1 - p0))] S rfl rfl rfl rfl)) ⟨(.agg #[.int .u8 p1, .bool false, iv (w64 (1 - p0)), iv 0, iv (w64 (1 - p0))]), rfl, S.mem.sel [] [0] (by decide) rfl rfl⟩)))

end Go.Proofs.Ytmedbnjhgkcndaa
