/- Several texts in one: G82 G99i0 G50 G39 PlT G19 G52 G53 G51s0 -/
import Derived.WalkKit
import Derived.Maps.AppendAt
import Derived.Deep.AppendLies
import Derived.KernelRfl
import Derived.Laws.OwnMore
import Derived.Great.BuildSlice
import Derived.Orders
import Derived.Laws.StructEq
import Derived.ChangeKeysEq
import Derived.Defers
import Derived.Laws.BytesString
import Derived.RangeFuncNested
import Derived.RangeFuncBound
import Derived.RangeFuncCalls
import Derived.RangeFuncLeaves
import Derived.OrdersIn
import Derived.LoopNIn
import Derived.ArgAppend
import Derived.Test.YtffikfajljbmnaaProg
import Derived.ProofKit
import Derived.OpenShut
import Derived.ChangeOld
import Derived.Deep.Slices
import Derived.Lib.SmallJoins
import Derived.JoinedOf
import Derived.JoinedAt
import Derived.Below
import Derived.Test.YtffikfajljbmnaaRows
import Derived.Test.YtffikfajljbmnaaMCompareCharts3
namespace Go.Proofs.Ytffikfajljbmnaa
open Go.RowKit
set_option linter.unusedVariables false

noncomputable def F_chart_counted (p0 : api_Chart) : Option api_Chart :=
  some p0
def c_chart_counted_val (r : api_Chart) (x : Value) : Value := .func (.func 99) #[] #[x]
def c_chart_counted_D (r : api_Chart) (x : Value) : List Fact := [fPtr r_api_Chart x r]
set_option maxHeartbeats 4000000 in
set_option maxRecDepth 100000 in
theorem c_chart_counted (E : Nat → Prop) (w0 : World) (p0 : api_Chart) (v0 : Value) (r : api_Chart) (h : F_chart_counted p0 = some r) (S : St0 E [] w0 w0 [] [fRep r_api_Chart (v0) p0]) :
    Calls Try.prog 82 #[v0] w0 (Ret (X := Value) E [] w0 (c_chart_counted_val r) (fun _ => []) (c_chart_counted_D r)) := by
  unfold F_chart_counted at h
  obtain ⟨u1, rfl, hu2⟩ := S.know (i := 0) (e := fRep r_api_Chart (v0) p0) rfl
  have S := S.learn (fRep (rL r_api_Row) u1 p0.Rows) hu2
  obtain ⟨ad3, cp4, _, rfl, _⟩ := hu2
  refine sEnter (args := [.agg #[iv p0.Start, .slice ad3 p0.Rows.length cp4]]) 4 Try.func82 rfl rfl (by simp) S (fun a S => ?_)
  refine sSeq (fun K5 hK5 => ?_)
  refine sRegion ?_
  refine sBox (v := .agg #[iv p0.Start, .slice ad3 p0.Rows.length cp4]) S (wN rfl) rfl rfl [iv p0.Start, .slice ad3 p0.Rows.length cp4] rfl rfl (lb rfl) fun a b6 w S => ?_
  refine sMove (.nilFunc) S (wN rfl) (.inr rfl) rfl rfl (lb rfl) fun a S => ?_
  refine leafL (leafT (hK5 _ _ ?_))
  refine sSeq (fun K7 hK7 => ?_)
  refine sRegion ?_
  refine sFunc (g := 99) (vs := [.pointer (some ⟨b6, 0, none⟩)]) S (wN rfl) rfl rfl rfl (lb rfl) fun a S => ?_
  refine sMove (.func (.func 99) #[] #[.pointer (some ⟨b6, 0, none⟩)]) S (wN rfl) (.inr rfl) rfl rfl (lb rfl) fun a S => ?_
  refine leafL (leafT (hK7 _ _ ?_))
  have S := S.shutB (r := r_api_Chart) (T := 42) (b := b6) (cs := [iv p0.Start, .slice ad3 p0.Rows.length cp4]) 0 (.agg #[iv p0.Start, .slice ad3 p0.Rows.length cp4]) p0 rfl rfl (S.mem.know (i := 1) (e := fRep r_api_Chart (.agg #[iv p0.Start, .slice ad3 p0.Rows.length cp4]) p0) rfl)
  obtain rfl := Option.some.inj h
  exact wp_ret (sRet (.func (.func 99) #[] #[.pointer (some ⟨b6, 0, none⟩)]) S (rsl1 rfl (rvT (t := 2) (v := .func (.func 99) #[] #[.pointer (some ⟨b6, 0, none⟩)]) S rfl)) ⟨(.pointer (some ⟨b6, 0, none⟩)), rfl, S.mem.sel [] [0] (by decide) rfl rfl⟩)

end Go.Proofs.Ytffikfajljbmnaa
namespace Go.Proofs.Ytffikfajljbmnaa
open Go.RowKit
set_option linter.unusedVariables false

noncomputable def chart_counted_1_l1 {σ τ : Type} (p0 : api_Chart) (B : σ → (Int × chart_count) → Option (σ ⊕ τ)) : (Int × Int × σ) → Option ((Int × Int × σ) ⊕ ((σ ⊕ τ) ⊕ (σ))) := fun s0 => match s0 with
  | (s11, s12, gz13) =>
    if decide (s12 < (p0.Rows.length : Int)) then
      Option.bind (idxO p0.Rows s12) fun x23 =>
      Option.bind (F_stitch_Uses x23.Cells) fun r36 =>
      Option.bind (α := (Int × Int)) (
        if r36.2 != 0 then
          some (0, r36.2)
        else
          if r36.1 != s11 then
            some (0, 26)
          else
            Option.bind (F_stitch_Makes x23.Cells) fun r46 =>
            some (r46.1, 0)) fun (o38, o39) =>
      Option.bind (B gz13 (s12, (chart_count.mk s11 o38 o39))) fun y51 =>
      match y51 with
      | .inl gz53 =>
        if ((chart_count.mk s11 o38 o39).e) != 0 then
          some (.inr (.inl (.inl gz53)))
        else
          some (.inl ((chart_count.mk s11 o38 o39).after, w64 (s12 + 1), gz53))
      | .inr tz54 =>
        some (.inr (.inl (.inr tz54)))
    else
      some (.inr (.inr gz13))
noncomputable def I_chart_counted_1 (p0 : api_Chart) (σ τ : Type) (B : σ → (Int × chart_count) → Option (σ ⊕ τ)) (gz0 : σ) : Option (σ ⊕ τ) :=
  Option.bind (whileO (chart_counted_1_l1 p0 B) (p0.Start, 0, gz0)) fun z0 => match z0 with
    | .inl z =>
      some z
    | .inr gz17 =>
      some (.inl gz17)
set_option maxHeartbeats 4000000 in
set_option maxRecDepth 100000 in
theorem it_chart_counted_1 (p0 : api_Chart) (v0 : Value) : SeqF Try.prog 99 #[v0] (fA2 (rI .i64) r_chart_count) (I_chart_counted_1 p0) [fPtr r_api_Chart (v0) p0] := by
  refine seqF_of (lb := [v0]) (fun σ τ B gz0 r h l J Jx E w0 hC S hJ => ?_)
  unfold I_chart_counted_1 at h
  refine sEnterI (args := [.func (.yield l) #[] #[], v0]) 57 Try.func99 rfl rfl (by simp) S (fun a S => ?_)
  refine sSeq (fun K1 hK1 => ?_)
  refine sRegion ?_
  obtain ⟨q2, hq3, S⟩ := pFld (P := Try.prog) (r := r_api_Chart) (s2 := (rI .i64)) (g := (·.Start)) (q := v0) (z := p0) 42 0 0 0 S rfl rfl comp_api_Chart_Start
  refine sFldV (q := v0) S (wN rfl) rfl rfl hq3 rfl (lb rfl) fun a S => ?_
  obtain ⟨u4, S⟩ := pLoad (r := (rI .i64)) (q := q2) (x := p0.Start) 0 S rfl
  obtain rfl : u4 = iv p0.Start := S.mem.know (i := 1) (e := fRep (rI .i64) (u4) p0.Start) rfl
  refine sLoadV1 (vq := q2) 0 (iv p0.Start) S (wN rfl) rfl rfl rfl rfl rfl (lb rfl) fun a S => ?_
  refine sMove (iv p0.Start) S (wN rfl) (.inr rfl) rfl rfl (lb rfl) fun a S => ?_
  refine leafL (leafT (hK1 _ _ ?_))
  refine sSeq (fun K5 hK5 => ?_)
  refine sRegion ?_
  obtain ⟨q6, hq7, S⟩ := pFld (P := Try.prog) (r := r_api_Chart) (s2 := (rL r_api_Row)) (g := (·.Rows)) (q := v0) (z := p0) 42 1 3 1 S rfl rfl comp_api_Chart_Rows
  refine sFldV (q := v0) S (wN rfl) rfl rfl hq7 rfl (lb rfl) fun a S => ?_
  obtain ⟨u8, S⟩ := pLoad (r := (rL r_api_Row)) (q := q6) (x := p0.Rows) 0 S rfl
  obtain ⟨ad9, cp10, _, rfl, _⟩ := S.mem.know (i := 1) (e := fRep (rL r_api_Row) (u8) p0.Rows) rfl
  refine sLoadV1 (vq := q6) 0 (.slice ad9 p0.Rows.length cp10) S (wN rfl) rfl rfl rfl rfl rfl (lb rfl) fun a S => ?_
  refine sLen (ad := ad9) (m := p0.Rows.length) (c := cp10) S (wN rfl) rfl Try.underlying40 rfl rfl (lb rfl) fun a S => ?_
  refine sMove (iv 0) S (wN rfl) (.inl rfl) rfl rfl (lb rfl) fun a S => ?_
  refine leafL (leafT (hK5 _ _ ?_))
  refine wp_block ?_
  obtain ⟨t16, hl, g15⟩ := bindSome h
  refine sLoop hl (fun s0 a w => match s0 with | (s11, s12, gz13) => ∃ E w0, J gz13 E w0 ∧ St [] E [] w0 57 a w [(0, .func (.yield l) #[] #[]), (3, iv s11), (12, .slice ad9 p0.Rows.length cp10), (13, iv (p0.Rows.length : Int)), (14, iv s12)] [] [fRep (rL r_api_Row) (.slice ad9 p0.Rows.length cp10) p0.Rows]) ⟨_, _, hJ, S.fix [] [1] (by decide) rfl rfl rfl⟩ ?_
  clear hl h
  intro s0 a w c0 hI h hu14
  obtain ⟨s11, s12, gz13⟩ := s0
  unfold chart_counted_1_l1 at h
  dsimp only at h hI
  obtain ⟨E, w0, hJ, S⟩ := hI
  refine sSeq (fun K18 hK18 => ?_)
  refine sRegion ?_
  refine sBin (.bool (decide (s12 < (p0.Rows.length : Int)))) S (wN rfl) rfl rfl rfl (bLt _ _ _ _ .i64 s12 (p0.Rows.length : Int)) rfl (lb rfl) fun a S => ?_
  refine leafL (leafT (hK18 _ _ ?_))
  refine sSeq (fun K19 hK19 => ?_)
  rcases iteSome h with ⟨hc20, h⟩ | ⟨hc20, h⟩
  rotate_left
  · refine sCondF S rfl hc20 ?_
    obtain rfl := Option.some.inj h
    obtain rfl := hu14 _ rfl
    have h := g15
    clear g15
    try dsimp only at h
    exact wp_exit (xThen (xThen (xHit (sEnd (.tuple #[]) S (res0 rfl) (sGoI S hC hJ (Option.some.inj h) _)))))
  refine sCondT S rfl hc20 ?_
  refine wp_skip (leafT (hK19 _ _ ?_))
  refine sSeq (fun K21 hK21 => ?_)
  refine wp_block ?_
  refine sSeq (fun K22 hK22 => ?_)
  refine sRegion ?_
  refine sMove (iv s12) S (wN rfl) (.inl rfl) rfl rfl (lb rfl) fun a S => ?_
  obtain ⟨x23, hx24, h⟩ := bindSome h
  obtain ⟨q25, hq26, S⟩ := pIdx (P := Try.prog) (r := r_api_Row) (v := .slice ad9 p0.Rows.length cp10) (xs := p0.Rows) (j := s12) 40 87 0 S Try.underlying40 rfl rfl hx24
  refine sIdxV (v := .slice ad9 p0.Rows.length cp10) (k := .i64) (j := s12) S (wN rfl) rfl rfl rfl hq26 rfl (lb rfl) fun a S => ?_
  obtain ⟨u27, S⟩ := pLoad (r := r_api_Row) (q := q25) (x := x23) 0 S rfl
  obtain ⟨u28, rfl, hu29⟩ := S.mem.know (i := 1) (e := fRep r_api_Row (u27) x23) rfl
  have S := S.learn (fRep (rL r_api_Stitch) u28 x23.Cells) hu29
  obtain ⟨ad30, cp31, _, rfl, _⟩ := hu29
  refine sLoadVN (vq := q25) 1 [.bool x23.Back, .slice ad30 x23.Cells.length cp31] S (wN rfl) rfl rfl rfl rfl rfl rfl (lb rfl) fun a S => ?_
  refine sAlloc (.agg #[.bool false, .slice none 0 0]) S (wN rfl) rfl rfl [.bool false, .slice none 0 0] rfl rfl (lb rfl) fun a b32 w S => ?_
  refine sMove (iv s12) S (wN rfl) (.inr rfl) rfl rfl (lb rfl) fun a S => ?_
  refine sStore (p := b32) (off := 0) (T := 87) (vs := [.bool false, .slice none 0 0]) (v := .agg #[.bool x23.Back, .slice ad30 x23.Cells.length cp31]) 0 [.bool x23.Back, .slice ad30 x23.Cells.length cp31] S (wN rfl) rfl rfl rfl rfl rfl rfl rfl (by simp) rfl fun a w S => ?_
  refine leafL (leafT (hK22 _ _ ?_))
  refine sSeq (fun K33 hK33 => ?_)
  refine sRegion ?_
  refine sMove (iv s11) S (wN rfl) (.inl rfl) rfl rfl (lb rfl) fun a S => ?_
  refine sBuild [(0, iv s11)] [iv s11, iv 0, iv 0] S (wN rfl) rfl rfl rfl rfl (lb rfl) fun a S => ?_
  refine sAlloc (.agg #[iv 0, iv 0, iv 0]) S (wN rfl) rfl rfl [iv 0, iv 0, iv 0] rfl rfl (lb rfl) fun a b34 w S => ?_
  refine sStore (p := b34) (off := 0) (T := 134) (vs := [iv 0, iv 0, iv 0]) (v := .agg #[iv s11, iv 0, iv 0]) 0 [iv s11, iv 0, iv 0] S (wN rfl) rfl rfl rfl rfl rfl rfl rfl (by simp) rfl fun a w S => ?_
  refine leafL (leafT (hK33 _ _ ?_))
  refine sSeq (fun K35 hK35 => ?_)
  refine sRegion ?_
  refine sField (b := b32) (off := 0) 1 1 S (wN rfl) rfl rfl rfl rfl rfl (lb rfl) fun a S => ?_
  refine sLoad1 (p := b32) (off := 1) (T := 87) (vs := [.bool x23.Back, .slice ad30 x23.Cells.length cp31]) 1 (.slice ad30 x23.Cells.length cp31) S (wN rfl) rfl rfl rfl rfl rfl rfl (lb rfl) fun a S => ?_
  obtain ⟨r36, hx37, h⟩ := bindSome h
  have S1 := S.mem
  refine sCallQ (X := Unit) (f := 100) (vs := [.slice ad30 x23.Cells.length cp31]) (val := fun _ => .tuple #[iv r36.1, iv r36.2]) S (wN rfl) rfl callee100 rfl (S1.quiet [0] rfl) (fun E1 w1 S1 => c_stitch_Uses E1 w1 x23.Cells (.slice ad30 x23.Cells.length cp31) r36 hx37 S1) rfl (lb rfl) fun _ a w S => ?_
  refine sMove (.tuple #[iv r36.1, iv r36.2]) S (wN rfl) (.inl rfl) rfl rfl (lb rfl) fun a S => ?_
  refine sExtract (vs := [iv r36.1, iv r36.2]) (iv r36.1) S (wN rfl) rfl rfl rfl rfl (lb rfl) fun a S => ?_
  refine sExtract (vs := [iv r36.1, iv r36.2]) (iv r36.2) S (wN rfl) rfl rfl rfl rfl (lb rfl) fun a S => ?_
  refine sMove (iv r36.1) S (wN rfl) (.inr rfl) rfl rfl (lb rfl) fun a S => ?_
  refine sMove (iv r36.2) S (wN rfl) (.inr rfl) rfl rfl (lb rfl) fun a S => ?_
  refine leafL (leafT (hK35 _ _ ?_))
  obtain ⟨t40, h, g41⟩ := bindSome h
  refine sCut (fun a w => ∃ o38, ∃ o39, (o38, o39) = t40 ∧ ∃ E w0, J gz13 E w0 ∧ St [] E [] w0 57 a w [(0, .func (.yield l) #[] #[]), (4, iv s12), (6, .pointer (some ⟨b34, 0, none⟩)), (12, .slice ad9 p0.Rows.length cp10), (13, iv (p0.Rows.length : Int)), (14, iv s12)] [eBox b34 134 [iv s11, iv o38, iv o39]] [fRep (rL r_api_Row) (.slice ad9 p0.Rows.length cp10) p0.Rows]) ?_ (fun a w hI => ?_)
  · refine wp_block ?_
    refine sSeq (fun K42 hK42 => ?_)
    refine sRegion ?_
    refine sMove (iv r36.2) S (wN rfl) (.inl rfl) rfl rfl (lb rfl) fun a S => ?_
    refine sBin (.bool (r36.2 != 0)) S (wN rfl) rfl rfl rfl (bNe _ _ _ _ .i64 r36.2 0) rfl (lb rfl) fun a S => ?_
    refine sMove (.bool (r36.2 != 0)) S (wN rfl) (.inr rfl) rfl rfl (lb rfl) fun a S => ?_
    refine leafL (leafT (hK42 _ _ ?_))
    rcases iteSome h with ⟨hc43, h⟩ | ⟨hc43, h⟩
    · refine sCondT S rfl hc43 ?_
      refine sRegion ?_
      refine sMove (iv r36.2) S (wN rfl) (.inl rfl) rfl rfl (lb rfl) fun a S => ?_
      refine sField (b := b34) (off := 0) 2 2 S (wN rfl) rfl rfl rfl rfl rfl (lb rfl) fun a S => ?_
      refine sStore (p := b34) (off := 2) (T := 134) (vs := [iv s11, iv 0, iv 0]) (v := iv r36.2) 0 [iv r36.2] S (wN rfl) rfl rfl rfl rfl rfl rfl rfl (by simp) rfl fun a w S => ?_
      exact leafL (leafB (leafT (⟨0, r36.2, Option.some.inj h, _, _, hJ, S.fix [0] [4] (by decide) rfl rfl rfl⟩)))
    refine sCondF S rfl hc43 ?_
    refine sSeq (fun K44 hK44 => ?_)
    refine sRegion ?_
    refine sMove (iv r36.1) S (wN rfl) (.inl rfl) rfl rfl (lb rfl) fun a S => ?_
    refine sMove (iv s11) S (wN rfl) (.inl rfl) rfl rfl (lb rfl) fun a S => ?_
    refine sBin (.bool (r36.1 != s11)) S (wN rfl) rfl rfl rfl (bNe _ _ _ _ .i64 r36.1 s11) rfl (lb rfl) fun a S => ?_
    refine sMove (.bool (r36.1 != s11)) S (wN rfl) (.inr rfl) rfl rfl (lb rfl) fun a S => ?_
    refine leafL (leafT (hK44 _ _ ?_))
    rcases iteSome h with ⟨hc45, h⟩ | ⟨hc45, h⟩
    · refine sCondT S rfl hc45 ?_
      refine sRegion ?_
      refine sField (b := b34) (off := 0) 2 2 S (wN rfl) rfl rfl rfl rfl rfl (lb rfl) fun a S => ?_
      refine sStore (p := b34) (off := 2) (T := 134) (vs := [iv s11, iv 0, iv 0]) (v := iv 26) 0 [iv 26] S (wN rfl) rfl rfl rfl rfl rfl rfl rfl (by simp) rfl fun a w S => ?_
      exact leafL (leafB (leafT (⟨0, 26, Option.some.inj h, _, _, hJ, S.fix [0] [4] (by decide) rfl rfl rfl⟩)))
    refine sCondF S rfl hc45 ?_
    refine sRegion ?_
    refine sField (b := b32) (off := 0) 1 1 S (wN rfl) rfl rfl rfl rfl rfl (lb rfl) fun a S => ?_
    refine sLoad1 (p := b32) (off := 1) (T := 87) (vs := [.bool x23.Back, .slice ad30 x23.Cells.length cp31]) 1 (.slice ad30 x23.Cells.length cp31) S (wN rfl) rfl rfl rfl rfl rfl rfl (lb rfl) fun a S => ?_
    obtain ⟨r46, hx47, h⟩ := bindSome h
    have S1 := S.mem
    refine sCallQ (X := Unit) (f := 101) (vs := [.slice ad30 x23.Cells.length cp31]) (val := fun _ => .tuple #[iv r46.1, iv r46.2]) S (wN rfl) rfl callee101 rfl (S1.quiet [0] rfl) (fun E1 w1 S1 => c_stitch_Makes E1 w1 x23.Cells (.slice ad30 x23.Cells.length cp31) r46 hx47 S1) rfl (lb rfl) fun _ a w S => ?_
    refine sMove (.tuple #[iv r46.1, iv r46.2]) S (wN rfl) (.inl rfl) rfl rfl (lb rfl) fun a S => ?_
    refine sExtract (vs := [iv r46.1, iv r46.2]) (iv r46.1) S (wN rfl) rfl rfl rfl rfl (lb rfl) fun a S => ?_
    refine sExtract (vs := [iv r46.1, iv r46.2]) (iv r46.2) S (wN rfl) rfl rfl rfl rfl (lb rfl) fun a S => ?_
    refine sField (b := b34) (off := 0) 1 1 S (wN rfl) rfl rfl rfl rfl rfl (lb rfl) fun a S => ?_
    refine sStore (p := b34) (off := 1) (T := 134) (vs := [iv s11, iv 0, iv 0]) (v := iv r46.1) 0 [iv r46.1] S (wN rfl) rfl rfl rfl rfl rfl rfl rfl (by simp) rfl fun a w S => ?_
    exact leafL (leafB (leafT (⟨r46.1, 0, Option.some.inj h, _, _, hJ, S.fix [0] [4] (by decide) rfl rfl rfl⟩)))
  obtain ⟨o38, o39, rfl, E, w0, hJ, S⟩ := hI
  have h := g41
  clear g41
  try dsimp only at h
  refine sSeq (fun K48 hK48 => ?_)
  refine sSeq (fun K49 hK49 => ?_)
  refine sRegionY ?_
  refine sSplitR (by repeat (first | exact roundU_out | exact it_out | exact lo_false | refine lo_then ?_ | refine lo_block ?_)) 3 rfl (fun K50 hK50 => ?_)
  refine sMove (.func (.yield l) #[] #[]) S (wN rfl) (.inl rfl) rfl rfl (lb rfl) fun a S => ?_
  refine sMove (iv s12) S (wN rfl) (.inl rfl) rfl rfl (lb rfl) fun a S => ?_
  refine sLoadN (p := b34) (off := 0) (T := 134) (vs := [iv s11, iv o38, iv o39]) 0 [iv s11, iv o38, iv o39] S (wN rfl) rfl rfl rfl rfl rfl rfl rfl (lb rfl) fun a S => ?_
  refine leafL ⟨rfl, hK50 _ _ ?_⟩
  have S := S.learn (fRep r_chart_count (.agg #[iv s11, iv o38, iv o39]) (chart_count.mk s11 o38 o39)) rfl
  have S := S.shutB (r := r_chart_count) (T := 134) (b := b34) (cs := [iv s11, iv o38, iv o39]) 0 (.agg #[iv s11, iv o38, iv o39]) (chart_count.mk s11 o38 o39) rfl rfl (S.mem.know (i := 0) (e := fRep r_chart_count (.agg #[iv s11, iv o38, iv o39]) (chart_count.mk s11 o38 o39)) rfl)
  obtain ⟨y51, hy52, h⟩ := bindSome h
  refine sYieldI (s12, (chart_count.mk s11 o38 o39)) [iv s12, .agg #[iv s11, iv o38, iv o39]] S hC hJ hy52 (fA2_mk (rfl) (S.mem.know (i := 1) (e := fRep r_chart_count (.agg #[iv s11, iv o38, iv o39]) (chart_count.mk s11 o38 o39)) rfl)) (wN rfl) rfl rfl rfl rfl (by decide) (fun gz53 E a w hb hJ S => ?_) (fun tz54 a w hb hJ S => ?_)
  · obtain rfl := hb
    dsimp only at h
    refine list_inR (by repeat (first | exact roundU_out | exact it_out | exact lo_false | refine lo_then ?_ | refine lo_block ?_)) _ rfl _ _ ?_
    refine sNot (b := true) S (wN rfl) rfl rfl rfl (lb rfl) fun a S => ?_
    refine sMove (.bool false) S (wN rfl) (.inl rfl) rfl rfl (lb rfl) fun a S => ?_
    obtain ⟨q55, hq56, S⟩ := pFld (P := Try.prog) (r := r_chart_count) (s2 := (rI .i64)) (g := (·.e)) (q := .pointer (some ⟨b34, 0, none⟩)) (z := (chart_count.mk s11 o38 o39)) 134 2 0 2 S rfl rfl comp_chart_count_e
    refine sFldV (q := .pointer (some ⟨b34, 0, none⟩)) S (wG 5 false 49 rfl rfl rfl rfl) rfl rfl hq56 rfl (lb rfl) fun a S => ?_
    obtain ⟨u57, S⟩ := pLoad (r := (rI .i64)) (q := q55) (x := (chart_count.mk s11 o38 o39).e) 0 S rfl
    obtain rfl : u57 = iv ((chart_count.mk s11 o38 o39).e) := S.mem.know (i := 1) (e := fRep (rI .i64) (u57) ((chart_count.mk s11 o38 o39).e)) rfl
    refine sLoadV1 (vq := q55) 0 (iv ((chart_count.mk s11 o38 o39).e)) S (wG 5 false 49 rfl rfl rfl rfl) rfl rfl rfl rfl rfl (lb rfl) fun a S => ?_
    refine sBin (.bool (((chart_count.mk s11 o38 o39).e) != 0)) S (wG 5 false 49 rfl rfl rfl rfl) rfl rfl rfl (bNe _ _ _ _ .i64 ((chart_count.mk s11 o38 o39).e) 0) rfl (lb rfl) fun a S => ?_
    refine sPickF (.bool (((chart_count.mk s11 o38 o39).e) != 0)) S (wN rfl) rfl rfl rfl rfl rfl (lb rfl) fun a S => ?_
    refine leafL (leafT (hK49 _ _ ?_))
    rcases iteSome h with ⟨hc58, h⟩ | ⟨hc58, h⟩
    · refine sCondT S rfl hc58 ?_
      obtain rfl := Option.some.inj h
      obtain rfl := hu14 _ rfl
      have h := g15
      clear g15
      try dsimp only at h
      exact wp_ret (rThen (rBlock (rThen (rThen (rBlock (sRet (.tuple #[]) S (res0 rfl) (sGoI S hC hJ (Option.some.inj h) _)))))))
    refine sCondF S rfl hc58 ?_
    refine wp_skip (leafT (hK48 _ _ ?_))
    refine sRegion ?_
    obtain ⟨q59, hq60, S⟩ := pFld (P := Try.prog) (r := r_chart_count) (s2 := (rI .i64)) (g := (·.after)) (q := .pointer (some ⟨b34, 0, none⟩)) (z := (chart_count.mk s11 o38 o39)) 134 1 3 1 S rfl rfl comp_chart_count_after
    refine sFldV (q := .pointer (some ⟨b34, 0, none⟩)) S (wN rfl) rfl rfl hq60 rfl (lb rfl) fun a S => ?_
    obtain ⟨u61, S⟩ := pLoad (r := (rI .i64)) (q := q59) (x := (chart_count.mk s11 o38 o39).after) 0 S rfl
    obtain rfl : u61 = iv ((chart_count.mk s11 o38 o39).after) := S.mem.know (i := 1) (e := fRep (rI .i64) (u61) ((chart_count.mk s11 o38 o39).after)) rfl
    refine sLoadV1 (vq := q59) 0 (iv ((chart_count.mk s11 o38 o39).after)) S (wN rfl) rfl rfl rfl rfl rfl (lb rfl) fun a S => ?_
    refine sMove (iv ((chart_count.mk s11 o38 o39).after)) S (wN rfl) (.inr rfl) rfl rfl (lb rfl) fun a S => ?_
    refine leafL (leafB (leafT (hK21 _ _ ?_)))
    refine sRegion ?_
    refine sBin (iv (w64 (s12 + 1))) S (wN rfl) rfl rfl rfl (bAdd _ _ _ _ s12 1) rfl (lb rfl) fun a S => ?_
    refine sMove (iv (w64 (s12 + 1))) S (wN rfl) (.inl rfl) rfl rfl (lb rfl) fun a S => ?_
    exact leafL (leafT (⟨((chart_count.mk s11 o38 o39).after, w64 (s12 + 1), gz53), (Option.some.inj h).symm, ⟨_, _, hJ, S.fix [] [8] (by decide) rfl rfl rfl⟩⟩))
  · obtain rfl := hb
    dsimp only at h
    refine list_inR (by repeat (first | exact roundU_out | exact it_out | exact lo_false | refine lo_then ?_ | refine lo_block ?_)) _ rfl _ _ ?_
    refine sNot (b := false) S (wN rfl) rfl rfl rfl (lb rfl) fun a S => ?_
    refine sMove (.bool true) S (wN rfl) (.inl rfl) rfl rfl (lb rfl) fun a S => ?_
    refine sSkip 5 false 49 50 S rfl rfl rfl rfl rfl (lb rfl) fun a S => ?_
    refine sSkip 5 false 49 51 S rfl rfl rfl rfl rfl (lb rfl) fun a S => ?_
    refine sSkip 5 false 49 52 S rfl rfl rfl rfl rfl (lb rfl) fun a S => ?_
    refine sPickT (.bool true) S (wN rfl) rfl rfl rfl rfl rfl (lb rfl) fun a S => ?_
    refine leafL (leafT (hK49 _ _ ?_))
    refine sCondT S rfl rfl ?_
    obtain rfl := Option.some.inj h
    obtain rfl := hu14 _ rfl
    have h := g15
    clear g15
    try dsimp only at h
    exact wp_ret (rThen (rBlock (rThen (rThen (rBlock (sRet (.tuple #[]) S (res0 rfl) (sStopI S hC hJ (Option.some.inj h) _)))))))

end Go.Proofs.Ytffikfajljbmnaa
namespace Go.Proofs.Ytffikfajljbmnaa
open Go.RowKit
set_option linter.unusedVariables false

noncomputable def chart_Check_l2  : Unit → (Int × chart_count) → Option (Unit ⊕ Int) := fun s0 x0 => match s0, x0 with
  | _, (x25, x27) =>
    if x27.e != 0 then
      some (.inr x27.e)
    else
      some (.inl ())
noncomputable def F_chart_Check (p0 : api_Chart) : Option Int :=
  if decide (100 < (p0.Rows.length : Int)) then
    some 4
  else
    Option.bind (α := Bool) (
      if decide (p0.Start < 0) then
        some true
      else
        some (decide (200 < p0.Start))) fun o13 =>
    if o13 then
      some 8
    else
      Option.bind (F_chart_counted p0) fun r21 =>
      Option.bind (I_chart_counted_1 r21 _ _ (chart_Check_l2) ()) fun z0 => match z0 with
        | .inl _ =>
          some 0
        | .inr e24 =>
          some e24
set_option maxHeartbeats 4000000 in
set_option maxRecDepth 100000 in
theorem c_chart_Check (E : Nat → Prop) (w0 : World) (p0 : api_Chart) (v0 : Value) (r : Int) (h : F_chart_Check p0 = some r) (S : St0 E [] w0 w0 [] [fRep r_api_Chart (v0) p0]) :
    Calls Try.prog 50 #[v0] w0 (Ret (X := Unit) E [] w0 (fun _ => .int .i64 r) (fun _ => []) (fun _ => [])) := by
  unfold F_chart_Check at h
  obtain ⟨u1, rfl, hu2⟩ := S.know (i := 0) (e := fRep r_api_Chart (v0) p0) rfl
  have S := S.learn (fRep (rL r_api_Row) u1 p0.Rows) hu2
  obtain ⟨ad3, cp4, _, rfl, _⟩ := hu2
  refine sEnterM (args := [.agg #[iv p0.Start, .slice ad3 p0.Rows.length cp4]]) 26 Try.func50 rfl rfl (by simp) S (fun a S => ?_)
  refine sSeq (fun K5 hK5 => ?_)
  refine sRegion ?_
  refine sBox (v := .agg #[iv p0.Start, .slice ad3 p0.Rows.length cp4]) S (wN rfl) rfl rfl [iv p0.Start, .slice ad3 p0.Rows.length cp4] rfl rfl (lb rfl) fun a b6 w S => ?_
  refine sAlloc (iv 0) S (wN rfl) rfl rfl [iv 0] rfl rfl (lb rfl) fun a b7 w S => ?_
  refine leafL (leafT (hK5 _ _ ?_))
  refine sSeq (fun K8 hK8 => ?_)
  refine sSeq (fun K9 hK9 => ?_)
  refine sRegion ?_
  refine sField (b := b6) (off := 0) 1 1 S (wN rfl) rfl rfl rfl rfl rfl (lb rfl) fun a S => ?_
  refine sLoad1 (p := b6) (off := 1) (T := 42) (vs := [iv p0.Start, .slice ad3 p0.Rows.length cp4]) 1 (.slice ad3 p0.Rows.length cp4) S (wN rfl) rfl rfl rfl rfl rfl rfl (lb rfl) fun a S => ?_
  refine sLen (ad := ad3) (m := p0.Rows.length) (c := cp4) S (wN rfl) rfl Try.underlying40 rfl rfl (lb rfl) fun a S => ?_
  refine sBin (.bool (decide (100 < (p0.Rows.length : Int)))) S (wN rfl) rfl rfl rfl (bGt _ _ _ _ .i64 (p0.Rows.length : Int) 100) rfl (lb rfl) fun a S => ?_
  refine leafL (leafT (hK9 _ _ ?_))
  rcases iteSome h with ⟨hc10, h⟩ | ⟨hc10, h⟩
  · refine sCondT S rfl hc10 ?_
    refine sSeq (fun K11 hK11 => ?_)
    refine sRegion ?_
    refine sStore (p := b7) (off := 0) (T := 27) (vs := [iv 0]) (v := iv 4) 0 [iv 4] S (wN rfl) rfl rfl rfl rfl rfl rfl rfl (by simp) rfl fun a w S => ?_
    refine leafL (leafT (hK11 _ _ ?_))
    obtain rfl := Option.some.inj h
    exact wp_ret (rThen (sRetM0 (iv 4) S (rsl1 rfl (rv1 (c := 2) (t := 27) (T := 27) (p := b7) 0 (iv 4) S rfl rfl rfl)) ⟨(), rfl, S.mem.sel [] [] (by decide) rfl rfl⟩))
  refine sCondF S rfl hc10 ?_
  refine wp_skip (leafT (hK8 _ _ ?_))
  refine sSeq (fun K12 hK12 => ?_)
  obtain ⟨t14, h, g15⟩ := bindSome h
  refine sCut (fun a w => ∃ o13, o13 = t14 ∧ St [] E [] w0 26 a w [(1, .pointer (some ⟨b6, 0, none⟩)), (2, .pointer (some ⟨b7, 0, none⟩)), (16, .bool o13)] [eBox b6 42 [iv p0.Start, .slice ad3 p0.Rows.length cp4], eBox b7 27 [iv 0]] [fRep (rL r_api_Row) (.slice ad3 p0.Rows.length cp4) p0.Rows]) ?_ (fun a w hI => ?_)
  · refine sRegion ?_
    refine sField (b := b6) (off := 0) 0 0 S (wN rfl) rfl rfl rfl rfl rfl (lb rfl) fun a S => ?_
    refine sLoad1 (p := b6) (off := 0) (T := 42) (vs := [iv p0.Start, .slice ad3 p0.Rows.length cp4]) 1 (iv p0.Start) S (wN rfl) rfl rfl rfl rfl rfl rfl (lb rfl) fun a S => ?_
    refine sBin (.bool (decide (p0.Start < 0))) S (wN rfl) rfl rfl rfl (bLt _ _ _ _ .i64 p0.Start 0) rfl (lb rfl) fun a S => ?_
    refine sMove (.bool (decide (p0.Start < 0))) S (wN rfl) (.inl rfl) rfl rfl (lb rfl) fun a S => ?_
    rcases iteSome h with ⟨hc16, h⟩ | ⟨hc16, h⟩
    · refine sSkip 3 false 12 13 S rfl rfl rfl hc16 rfl (lb rfl) fun a S => ?_
      refine sSkip 3 false 12 14 S rfl rfl rfl hc16 rfl (lb rfl) fun a S => ?_
      refine sSkip 3 false 12 15 S rfl rfl rfl hc16 rfl (lb rfl) fun a S => ?_
      refine sPickT (.bool true) S (wN rfl) rfl rfl hc16 rfl rfl (lb rfl) fun a S => ?_
      exact leafL (leafT (⟨true, Option.some.inj h, S.fix [1, 0] [0] (by decide) rfl rfl rfl⟩))
    refine sField (b := b6) (off := 0) 0 0 S (wG 3 false 12 rfl rfl rfl hc16) rfl rfl rfl rfl rfl (lb rfl) fun a S => ?_
    refine sLoad1 (p := b6) (off := 0) (T := 42) (vs := [iv p0.Start, .slice ad3 p0.Rows.length cp4]) 1 (iv p0.Start) S (wG 3 false 12 rfl rfl rfl hc16) rfl rfl rfl rfl rfl rfl (lb rfl) fun a S => ?_
    refine sBin (.bool (decide (200 < p0.Start))) S (wG 3 false 12 rfl rfl rfl hc16) rfl rfl rfl (bGt _ _ _ _ .i64 p0.Start 200) rfl (lb rfl) fun a S => ?_
    refine sPickF (.bool (decide (200 < p0.Start))) S (wN rfl) rfl rfl hc16 rfl rfl (lb rfl) fun a S => ?_
    exact leafL (leafT (⟨decide (200 < p0.Start), Option.some.inj h, S.fix [1, 0] [0] (by decide) rfl rfl rfl⟩))
  obtain ⟨o13, rfl, S⟩ := hI
  have h := g15
  clear g15
  try dsimp only at h
  rcases iteSome h with ⟨hc17, h⟩ | ⟨hc17, h⟩
  · refine sCondT S rfl hc17 ?_
    refine sSeq (fun K18 hK18 => ?_)
    refine sRegion ?_
    refine sStore (p := b7) (off := 0) (T := 27) (vs := [iv 0]) (v := iv 8) 1 [iv 8] S (wN rfl) rfl rfl rfl rfl rfl rfl rfl (by simp) rfl fun a w S => ?_
    refine leafL (leafT (hK18 _ _ ?_))
    obtain rfl := Option.some.inj h
    exact wp_ret (rThen (sRetM0 (iv 8) S (rsl1 rfl (rv1 (c := 2) (t := 27) (T := 27) (p := b7) 0 (iv 8) S rfl rfl rfl)) ⟨(), rfl, S.mem.sel [] [] (by decide) rfl rfl⟩))
  refine sCondF S rfl hc17 ?_
  refine wp_skip (leafT (hK12 _ _ ?_))
  refine sSeq (fun K19 hK19 => ?_)
  refine sSeq (fun K20 hK20 => ?_)
  refine sRegion ?_
  refine sLoadN (p := b6) (off := 0) (T := 42) (vs := [iv p0.Start, .slice ad3 p0.Rows.length cp4]) 0 [iv p0.Start, .slice ad3 p0.Rows.length cp4] S (wN rfl) rfl rfl rfl rfl rfl rfl rfl (lb rfl) fun a S => ?_
  obtain ⟨r21, hx22, h⟩ := bindSome h
  have S := S.learn (fRep r_api_Chart (.agg #[iv p0.Start, .slice ad3 p0.Rows.length cp4]) p0) ⟨_, rfl, S.mem.know (i := 0) (e := fRep (rL r_api_Row) (.slice ad3 p0.Rows.length cp4) p0.Rows) rfl⟩
  refine sCall (X := Value) (f := 82) (vs := [.agg #[iv p0.Start, .slice ad3 p0.Rows.length cp4]]) (val := c_chart_counted_val r21) (B' := fun _ => []) (D' := c_chart_counted_D r21) [] [eBox b6 42 [iv p0.Start, .slice ad3 p0.Rows.length cp4], eBox b7 27 [iv 0]] [fRep r_api_Chart (.agg #[iv p0.Start, .slice ad3 p0.Rows.length cp4]) p0] [0, 1] [0] S (wN rfl) rfl callee82 rfl (by decide) rfl rfl (fun E1 w1 S1 => c_chart_counted E1 w1 p0 (.agg #[iv p0.Start, .slice ad3 p0.Rows.length cp4]) r21 hx22 S1) rfl (lb rfl) fun u23 a w S => ?_
  refine leafL (leafT (hK20 _ _ ?_))
  refine wp_block ?_
  obtain ⟨t35, hl36, g34⟩ := bindSome h
  replace S : St [] E [] w0 26 a w [(2, .pointer (some ⟨b7, 0, none⟩)), (18, .func (.func 99) #[] #[u23])] [eBox b7 27 [iv 0]] [fPtr r_api_Chart (u23) r21] := S.fix [1] [0] (by decide) rfl rfl rfl
  refine sRange2 (B := chart_Check_l2) (fun s0 L D => match s0 with | _ => L = [eBox b7 27 [iv 0]] ∧ D = [fPtr r_api_Chart (u23) r21]) (fun t0 c L D => match t0 with | e24 => c = .ret ∧ L = [eBox b7 27 [iv e24]] ∧ D = []) [0] S hl36 rfl callee99 (it_chart_counted_1 r21 u23) rfl (by decide) (by decide) ⟨rfl, rfl⟩ ?_ ?_ ?_
  · intro E l0 s0 x25 x27 u26 u28 b L D K a w0 hK hIL hB S
    clear hl36 g34 h hK
    unfold chart_Check_l2 at hB
    dsimp only at hB hIL
    obtain ⟨rfl, rfl⟩ := hIL
    have h := hB
    clear hB
    obtain rfl : u26 = iv x25 := S.mem.know (i := 0) (e := fRep (rI .i64) (u26) x25) rfl
    obtain rfl : u28 = .agg #[iv x27.before, iv x27.after, iv x27.e] := S.mem.know (i := 1) (e := fRep r_chart_count (u28) x27) rfl
    refine sRegionR (by repeat (first | exact roundU_out | exact it_out | exact lo_false | refine lo_then ?_ | refine lo_block ?_)) rfl ?_
    refine sAlloc (.agg #[iv 0, iv 0, iv 0]) S (wN rfl) rfl rfl [iv 0, iv 0, iv 0] rfl rfl (lb rfl) fun a b29 w S => ?_
    refine sStore (p := b29) (off := 0) (T := 134) (vs := [iv 0, iv 0, iv 0]) (v := .agg #[iv x27.before, iv x27.after, iv x27.e]) 0 [iv x27.before, iv x27.after, iv x27.e] S (wN rfl) rfl rfl rfl rfl rfl rfl rfl (by simp) rfl fun a w S => ?_
    refine leafL (leafT (⟨_, _, _, S, fun K a w0 hK S => ?_⟩))
    refine wpIn_block ?_
    refine sSeqR (fun K30 hK30 => ?_)
    refine sRegionR (by repeat (first | exact roundU_out | exact it_out | exact lo_false | refine lo_then ?_ | refine lo_block ?_)) rfl ?_
    refine sField (b := b29) (off := 0) 2 2 S (wN rfl) rfl rfl rfl rfl rfl (lb rfl) fun a S => ?_
    refine sLoad1 (p := b29) (off := 2) (T := 134) (vs := [iv x27.before, iv x27.after, iv x27.e]) 0 (iv x27.e) S (wN rfl) rfl rfl rfl rfl rfl rfl (lb rfl) fun a S => ?_
    refine sBin (.bool (x27.e != 0)) S (wN rfl) rfl rfl rfl (bNe _ _ _ _ .i64 x27.e 0) rfl (lb rfl) fun a S => ?_
    refine leafL (leafT (hK30 _ _ ?_))
    rcases iteSome h with ⟨hc31, h⟩ | ⟨hc31, h⟩
    rotate_left
    · refine sCondFR S rfl hc31 ?_
      exact wpIn_skip (leafB (rnN () _ _ [] (Option.some.inj h) ⟨rfl, rfl⟩ (S.fix [1] [2] (by decide) rfl rfl rfl)))
    refine sCondTR S rfl hc31 ?_
    refine sSeqR (fun K32 hK32 => ?_)
    refine sRegionR (by repeat (first | exact roundU_out | exact it_out | exact lo_false | refine lo_then ?_ | refine lo_block ?_)) rfl ?_
    refine sField (b := b29) (off := 0) 2 2 S (wN rfl) rfl rfl rfl rfl rfl (lb rfl) fun a S => ?_
    refine sLoad1 (p := b29) (off := 2) (T := 134) (vs := [iv x27.before, iv x27.after, iv x27.e]) 0 (iv x27.e) S (wN rfl) rfl rfl rfl rfl rfl rfl (lb rfl) fun a S => ?_
    refine sStore (p := b7) (off := 0) (T := 27) (vs := [iv 0]) (v := iv x27.e) 1 [iv x27.e] S (wN rfl) rfl rfl rfl rfl rfl rfl rfl (by simp) rfl fun a w S => ?_
    refine leafL (leafT (hK32 _ _ ?_))
    exact wpIn_ret (rBlock (rnR x27.e _ _ [] (Option.some.inj h) ⟨rfl, rfl, rfl⟩ (S.fix [0] [] (by decide) rfl rfl rfl)))
  · intro dk33 s0 L D a w hr hIL S
    clear h
    obtain rfl := hr
    dsimp only at g34 hIL
    obtain ⟨rfl, rfl⟩ := hIL
    have h := g34
    clear g34 hl36
    replace S : St [mark dk33] E [] w0 26 a w [(2, .pointer (some ⟨b7, 0, none⟩)), (18, .func (.func 99) #[] #[u23])] [eBox b7 27 [iv 0], eDef dk33] [fPtr r_api_Chart (u23) r21] := S
    refine leafB (leafT (hK19 _ _ ?_))
    refine sSeq (fun K37 hK37 => ?_)
    refine sRegion ?_
    refine sStore (p := b7) (off := 0) (T := 27) (vs := [iv 0]) (v := iv 0) 0 [iv 0] S (wN rfl) rfl rfl rfl rfl rfl rfl rfl (by simp) rfl fun a w S => ?_
    refine leafL (leafT (hK37 _ _ ?_))
    refine wp_ret (sRetM1 1 S rfl (fun a w S => ?_))
    obtain rfl := Option.some.inj h
    exact sFin (iv 0) S (rsl1 rfl (rv1 (c := 2) (t := 27) (T := 27) (p := b7) 0 (iv 0) S rfl rfl rfl)) ⟨(), rfl, S.mem.sel [] [] (by decide) rfl rfl⟩
  · intro dk33 c0 e24 L D a w hr hIX S
    clear h
    obtain rfl := hr
    dsimp only at g34 hIX
    obtain ⟨rfl, rfl, rfl⟩ := hIX
    have h := g34
    clear g34 hl36
    replace S : St [mark dk33] E [] w0 26 a w [(2, .pointer (some ⟨b7, 0, none⟩)), (18, .func (.func 99) #[] #[u23])] [eBox b7 27 [iv e24], eDef dk33] [] := S
    refine wp_ret (rBlock (rThen (sRetM1 1 S rfl (fun a w S => ?_))))
    obtain rfl := Option.some.inj h
    exact sFin (iv e24) S (rsl1 rfl (rv1 (c := 2) (t := 27) (T := 27) (p := b7) 0 (iv e24) S rfl rfl rfl)) ⟨(), rfl, S.mem.sel [] [] (by decide) rfl rfl⟩

end Go.Proofs.Ytffikfajljbmnaa
namespace Go.Proofs.Ytffikfajljbmnaa
open Go.RowKit
set_option linter.unusedVariables false

noncomputable def raddleref26_Check_l1 (p0 : api_Chart) : (Int × Int) → Option ((Int × Int) ⊕ (Int ⊕ Unit)) := fun s0 => match s0 with
  | (s22, s23) =>
    if decide (s23 < (p0.Rows.length : Int)) then
      Option.bind (idxO p0.Rows s23) fun x32 =>
      Option.bind (F_raddleref25_Uses x32.Cells) fun r41 =>
      if r41.2 != 0 then
        some (.inr (.inl r41.2))
      else
        if r41.1 != s22 then
          some (.inr (.inl 26))
        else
          Option.bind (F_raddleref25_Makes x32.Cells) fun r58 =>
          some (.inl (r58.1, w64 (s23 + 1)))
    else
      some (.inr (.inr ()))
noncomputable def F_raddleref26_Check (p0 : api_Chart) : Option Int :=
  if decide (100 < (p0.Rows.length : Int)) then
    some 4
  else
    Option.bind (α := Bool) (
      if decide (p0.Start < 0) then
        some true
      else
        some (decide (200 < p0.Start))) fun o12 =>
    if o12 then
      some 8
    else
      Option.bind (α := Unit ⊕ Int) (
        Option.bind (whileO (raddleref26_Check_l1 p0) (p0.Start, 0)) fun z0 => match z0 with
          | .inl z =>
            some (.inr z)
          | .inr _ =>
            some (.inl ())) fun z0 => match z0 with
        | .inl _ =>
          some 0
        | .inr z =>
          some z
set_option maxHeartbeats 4000000 in
set_option maxRecDepth 100000 in
theorem c_raddleref26_Check (E : Nat → Prop) (w0 : World) (p0 : api_Chart) (v0 : Value) (r : Int) (h : F_raddleref26_Check p0 = some r) (S : St0 E [] w0 w0 [] [fRep r_api_Chart (v0) p0]) :
    Calls Try.prog 39 #[v0] w0 (Ret (X := Unit) E [] w0 (fun _ => .int .i64 r) (fun _ => []) (fun _ => [])) := by
  unfold F_raddleref26_Check at h
  obtain ⟨u1, rfl, hu2⟩ := S.know (i := 0) (e := fRep r_api_Chart (v0) p0) rfl
  have S := S.learn (fRep (rL r_api_Row) u1 p0.Rows) hu2
  obtain ⟨ad3, cp4, _, rfl, _⟩ := hu2
  refine sEnter (args := [.agg #[iv p0.Start, .slice ad3 p0.Rows.length cp4]]) 54 Try.func39 rfl rfl (by simp) S (fun a S => ?_)
  refine sSeq (fun K5 hK5 => ?_)
  refine sRegion ?_
  refine sBox (v := .agg #[iv p0.Start, .slice ad3 p0.Rows.length cp4]) S (wN rfl) rfl rfl [iv p0.Start, .slice ad3 p0.Rows.length cp4] rfl rfl (lb rfl) fun a b6 w S => ?_
  refine sMove (iv 0) S (wN rfl) (.inr rfl) rfl rfl (lb rfl) fun a S => ?_
  refine leafL (leafT (hK5 _ _ ?_))
  refine sSeq (fun K7 hK7 => ?_)
  refine sSeq (fun K8 hK8 => ?_)
  refine sRegion ?_
  refine sField (b := b6) (off := 0) 1 1 S (wN rfl) rfl rfl rfl rfl rfl (lb rfl) fun a S => ?_
  refine sLoad1 (p := b6) (off := 1) (T := 42) (vs := [iv p0.Start, .slice ad3 p0.Rows.length cp4]) 0 (.slice ad3 p0.Rows.length cp4) S (wN rfl) rfl rfl rfl rfl rfl rfl (lb rfl) fun a S => ?_
  refine sLen (ad := ad3) (m := p0.Rows.length) (c := cp4) S (wN rfl) rfl Try.underlying40 rfl rfl (lb rfl) fun a S => ?_
  refine sBin (.bool (decide (100 < (p0.Rows.length : Int)))) S (wN rfl) rfl rfl rfl (bGt _ _ _ _ .i64 (p0.Rows.length : Int) 100) rfl (lb rfl) fun a S => ?_
  refine leafL (leafT (hK8 _ _ ?_))
  rcases iteSome h with ⟨hc9, h⟩ | ⟨hc9, h⟩
  · refine sCondT S rfl hc9 ?_
    refine sSeq (fun K10 hK10 => ?_)
    refine sRegion ?_
    refine sMove (iv 4) S (wN rfl) (.inr rfl) rfl rfl (lb rfl) fun a S => ?_
    refine leafL (leafT (hK10 _ _ ?_))
    obtain rfl := Option.some.inj h
    exact wp_ret (rThen (sRet (iv 4) S (rsl1 rfl (rvT (t := 2) (v := iv 4) S rfl)) ⟨(), rfl, S.mem.sel [] [] (by decide) rfl rfl⟩))
  refine sCondF S rfl hc9 ?_
  refine wp_skip (leafT (hK7 _ _ ?_))
  refine sSeq (fun K11 hK11 => ?_)
  obtain ⟨t13, h, g14⟩ := bindSome h
  refine sCut (fun a w => ∃ o12, o12 = t13 ∧ St [] E [] w0 54 a w [(1, .pointer (some ⟨b6, 0, none⟩)), (18, .bool o12)] [eBox b6 42 [iv p0.Start, .slice ad3 p0.Rows.length cp4]] [fRep (rL r_api_Row) (.slice ad3 p0.Rows.length cp4) p0.Rows]) ?_ (fun a w hI => ?_)
  · refine sRegion ?_
    refine sField (b := b6) (off := 0) 0 0 S (wN rfl) rfl rfl rfl rfl rfl (lb rfl) fun a S => ?_
    refine sLoad1 (p := b6) (off := 0) (T := 42) (vs := [iv p0.Start, .slice ad3 p0.Rows.length cp4]) 0 (iv p0.Start) S (wN rfl) rfl rfl rfl rfl rfl rfl (lb rfl) fun a S => ?_
    refine sBin (.bool (decide (p0.Start < 0))) S (wN rfl) rfl rfl rfl (bLt _ _ _ _ .i64 p0.Start 0) rfl (lb rfl) fun a S => ?_
    refine sMove (.bool (decide (p0.Start < 0))) S (wN rfl) (.inl rfl) rfl rfl (lb rfl) fun a S => ?_
    rcases iteSome h with ⟨hc15, h⟩ | ⟨hc15, h⟩
    · refine sSkip 3 false 14 15 S rfl rfl rfl hc15 rfl (lb rfl) fun a S => ?_
      refine sSkip 3 false 14 16 S rfl rfl rfl hc15 rfl (lb rfl) fun a S => ?_
      refine sSkip 3 false 14 17 S rfl rfl rfl hc15 rfl (lb rfl) fun a S => ?_
      refine sPickT (.bool true) S (wN rfl) rfl rfl hc15 rfl rfl (lb rfl) fun a S => ?_
      exact leafL (leafT (⟨true, Option.some.inj h, S.fix [0] [0] (by decide) rfl rfl rfl⟩))
    refine sField (b := b6) (off := 0) 0 0 S (wG 3 false 14 rfl rfl rfl hc15) rfl rfl rfl rfl rfl (lb rfl) fun a S => ?_
    refine sLoad1 (p := b6) (off := 0) (T := 42) (vs := [iv p0.Start, .slice ad3 p0.Rows.length cp4]) 0 (iv p0.Start) S (wG 3 false 14 rfl rfl rfl hc15) rfl rfl rfl rfl rfl rfl (lb rfl) fun a S => ?_
    refine sBin (.bool (decide (200 < p0.Start))) S (wG 3 false 14 rfl rfl rfl hc15) rfl rfl rfl (bGt _ _ _ _ .i64 p0.Start 200) rfl (lb rfl) fun a S => ?_
    refine sPickF (.bool (decide (200 < p0.Start))) S (wN rfl) rfl rfl hc15 rfl rfl (lb rfl) fun a S => ?_
    exact leafL (leafT (⟨decide (200 < p0.Start), Option.some.inj h, S.fix [0] [0] (by decide) rfl rfl rfl⟩))
  obtain ⟨o12, rfl, S⟩ := hI
  have h := g14
  clear g14
  try dsimp only at h
  rcases iteSome h with ⟨hc16, h⟩ | ⟨hc16, h⟩
  · refine sCondT S rfl hc16 ?_
    refine sSeq (fun K17 hK17 => ?_)
    refine sRegion ?_
    refine sMove (iv 8) S (wN rfl) (.inr rfl) rfl rfl (lb rfl) fun a S => ?_
    refine leafL (leafT (hK17 _ _ ?_))
    obtain rfl := Option.some.inj h
    exact wp_ret (rThen (sRet (iv 8) S (rsl1 rfl (rvT (t := 2) (v := iv 8) S rfl)) ⟨(), rfl, S.mem.sel [] [] (by decide) rfl rfl⟩))
  refine sCondF S rfl hc16 ?_
  refine wp_skip (leafT (hK11 _ _ ?_))
  refine sSeq (fun K18 hK18 => ?_)
  refine sRegion ?_
  refine sField (b := b6) (off := 0) 0 0 S (wN rfl) rfl rfl rfl rfl rfl (lb rfl) fun a S => ?_
  refine sLoad1 (p := b6) (off := 0) (T := 42) (vs := [iv p0.Start, .slice ad3 p0.Rows.length cp4]) 0 (iv p0.Start) S (wN rfl) rfl rfl rfl rfl rfl rfl (lb rfl) fun a S => ?_
  refine sMove (iv p0.Start) S (wN rfl) (.inr rfl) rfl rfl (lb rfl) fun a S => ?_
  refine leafL (leafT (hK18 _ _ ?_))
  obtain ⟨t19, h, g20⟩ := bindSome h
  refine sCut (fun a w => .inl () = t19 ∧ St [] E [] w0 54 a w [] [] []) ?_ (fun a w hI => ?_)
  rotate_left
  · obtain ⟨rfl, S⟩ := hI
    have h := g20
    clear g20
    try dsimp only at h
    refine sSeq (fun K60 hK60 => ?_)
    refine sRegion ?_
    refine sMove (iv 0) S (wN rfl) (.inr rfl) rfl rfl (lb rfl) fun a S => ?_
    refine leafL (leafT (hK60 _ _ ?_))
    obtain rfl := Option.some.inj h
    exact wp_ret (sRet (iv 0) S (rsl1 rfl (rvT (t := 2) (v := iv 0) S rfl)) ⟨(), rfl, S.mem.sel [] [] (by decide) rfl rfl⟩)
  refine sSeq (fun K21 hK21 => ?_)
  refine sRegion ?_
  refine sMove (iv 0) S (wN rfl) (.inr rfl) rfl rfl (lb rfl) fun a S => ?_
  refine leafL (leafT (hK21 _ _ ?_))
  refine wp_block ?_
  obtain ⟨t26, hl, g25⟩ := bindSome h
  refine sLoop hl (fun s0 a w => match s0 with | (s22, s23) => St [] E [] w0 54 a w [(1, .pointer (some ⟨b6, 0, none⟩)), (3, iv s22), (4, iv s23)] [eBox b6 42 [iv p0.Start, .slice ad3 p0.Rows.length cp4]] [fRep (rL r_api_Row) (.slice ad3 p0.Rows.length cp4) p0.Rows]) (S.fix [0] [0] (by decide) rfl rfl rfl) ?_
  clear hl h
  intro s0 a w c0 hI h hu24
  obtain ⟨s22, s23⟩ := s0
  unfold raddleref26_Check_l1 at h
  dsimp only at h hI
  have S := hI
  refine sSeq (fun K27 hK27 => ?_)
  refine sSeq (fun K28 hK28 => ?_)
  refine sRegion ?_
  refine sMove (iv s23) S (wN rfl) (.inl rfl) rfl rfl (lb rfl) fun a S => ?_
  refine sField (b := b6) (off := 0) 1 1 S (wN rfl) rfl rfl rfl rfl rfl (lb rfl) fun a S => ?_
  refine sLoad1 (p := b6) (off := 1) (T := 42) (vs := [iv p0.Start, .slice ad3 p0.Rows.length cp4]) 0 (.slice ad3 p0.Rows.length cp4) S (wN rfl) rfl rfl rfl rfl rfl rfl (lb rfl) fun a S => ?_
  refine sLen (ad := ad3) (m := p0.Rows.length) (c := cp4) S (wN rfl) rfl Try.underlying40 rfl rfl (lb rfl) fun a S => ?_
  refine sBin (.bool (decide (s23 < (p0.Rows.length : Int)))) S (wN rfl) rfl rfl rfl (bLt _ _ _ _ .i64 s23 (p0.Rows.length : Int)) rfl (lb rfl) fun a S => ?_
  refine leafL (leafT (hK28 _ _ ?_))
  rcases iteSome h with ⟨hc29, h⟩ | ⟨hc29, h⟩
  rotate_left
  · refine sCondF S rfl hc29 ?_
    obtain rfl := Option.some.inj h
    obtain rfl := hu24 _ rfl
    have h := g25
    clear g25
    try dsimp only at h
    exact wp_exit (xThen (xThen (xHit (leafT (⟨Option.some.inj h, S.fix [] [] (by decide) rfl rfl rfl⟩)))))
  refine sCondT S rfl hc29 ?_
  refine wp_skip (leafT (hK27 _ _ ?_))
  refine sSeq (fun K30 hK30 => ?_)
  refine wp_block ?_
  refine sSeq (fun K31 hK31 => ?_)
  refine sRegion ?_
  refine sField (b := b6) (off := 0) 1 1 S (wN rfl) rfl rfl rfl rfl rfl (lb rfl) fun a S => ?_
  refine sLoad1 (p := b6) (off := 1) (T := 42) (vs := [iv p0.Start, .slice ad3 p0.Rows.length cp4]) 0 (.slice ad3 p0.Rows.length cp4) S (wN rfl) rfl rfl rfl rfl rfl rfl (lb rfl) fun a S => ?_
  refine sMove (iv s23) S (wN rfl) (.inl rfl) rfl rfl (lb rfl) fun a S => ?_
  obtain ⟨x32, hx33, h⟩ := bindSome h
  obtain ⟨q34, hq35, S⟩ := pIdx (P := Try.prog) (r := r_api_Row) (v := .slice ad3 p0.Rows.length cp4) (xs := p0.Rows) (j := s23) 40 87 0 S Try.underlying40 rfl rfl hx33
  refine sIdxV (v := .slice ad3 p0.Rows.length cp4) (k := .i64) (j := s23) S (wN rfl) rfl rfl rfl hq35 rfl (lb rfl) fun a S => ?_
  obtain ⟨q36, hq37, S⟩ := pFld (P := Try.prog) (r := r_api_Row) (s2 := (rL r_api_Stitch)) (g := (·.Cells)) (q := q34) (z := x32) 87 1 0 1 S rfl rfl comp_api_Row_Cells
  refine sFldV (q := q34) S (wN rfl) rfl rfl hq37 rfl (lb rfl) fun a S => ?_
  obtain ⟨u38, S⟩ := pLoad (r := (rL r_api_Stitch)) (q := q36) (x := x32.Cells) 0 S rfl
  obtain ⟨ad39, cp40, _, rfl, _⟩ := S.mem.know (i := 1) (e := fRep (rL r_api_Stitch) (u38) x32.Cells) rfl
  refine sLoadV1 (vq := q36) 0 (.slice ad39 x32.Cells.length cp40) S (wN rfl) rfl rfl rfl rfl rfl (lb rfl) fun a S => ?_
  obtain ⟨r41, hx42, h⟩ := bindSome h
  have S1 := S.mem
  refine sCallQ (X := Unit) (f := 75) (vs := [.slice ad39 x32.Cells.length cp40]) (val := fun _ => .tuple #[iv r41.1, iv r41.2]) S (wN rfl) rfl callee75 rfl (S1.quiet [1] rfl) (fun E1 w1 S1 => c_raddleref25_Uses E1 w1 x32.Cells (.slice ad39 x32.Cells.length cp40) r41 hx42 S1) rfl (lb rfl) fun _ a w S => ?_
  refine sMove (.tuple #[iv r41.1, iv r41.2]) S (wN rfl) (.inl rfl) rfl rfl (lb rfl) fun a S => ?_
  refine sExtract (vs := [iv r41.1, iv r41.2]) (iv r41.1) S (wN rfl) rfl rfl rfl rfl (lb rfl) fun a S => ?_
  refine sExtract (vs := [iv r41.1, iv r41.2]) (iv r41.2) S (wN rfl) rfl rfl rfl rfl (lb rfl) fun a S => ?_
  refine sMove (iv r41.1) S (wN rfl) (.inr rfl) rfl rfl (lb rfl) fun a S => ?_
  refine sMove (iv r41.2) S (wN rfl) (.inr rfl) rfl rfl (lb rfl) fun a S => ?_
  refine leafL (leafT (hK31 _ _ ?_))
  refine sSeq (fun K43 hK43 => ?_)
  refine sSeq (fun K44 hK44 => ?_)
  refine sRegion ?_
  refine sMove (iv r41.2) S (wN rfl) (.inl rfl) rfl rfl (lb rfl) fun a S => ?_
  refine sBin (.bool (r41.2 != 0)) S (wN rfl) rfl rfl rfl (bNe _ _ _ _ .i64 r41.2 0) rfl (lb rfl) fun a S => ?_
  refine leafL (leafT (hK44 _ _ ?_))
  rcases iteSome h with ⟨hc45, h⟩ | ⟨hc45, h⟩
  · refine sCondT S rfl hc45 ?_
    refine sSeq (fun K46 hK46 => ?_)
    refine sRegion ?_
    refine sMove (iv r41.2) S (wN rfl) (.inl rfl) rfl rfl (lb rfl) fun a S => ?_
    refine sMove (iv r41.2) S (wN rfl) (.inr rfl) rfl rfl (lb rfl) fun a S => ?_
    refine leafL (leafT (hK46 _ _ ?_))
    obtain rfl := Option.some.inj h
    obtain rfl := hu24 _ rfl
    have h := g25
    clear g25
    try dsimp only at h
    obtain rfl := Option.some.inj h
    have h := g20
    clear g20
    try dsimp only at h
    obtain rfl := Option.some.inj h
    exact wp_ret (rThen (rBlock (rThen (rThen (rBlock (rThen (sRet (iv r41.2) S (rsl1 rfl (rvT (t := 2) (v := iv r41.2) S rfl)) ⟨(), rfl, S.mem.sel [] [] (by decide) rfl rfl⟩)))))))
  refine sCondF S rfl hc45 ?_
  refine wp_skip (leafT (hK43 _ _ ?_))
  refine sSeq (fun K47 hK47 => ?_)
  refine sSeq (fun K48 hK48 => ?_)
  refine sRegion ?_
  refine sMove (iv r41.1) S (wN rfl) (.inl rfl) rfl rfl (lb rfl) fun a S => ?_
  refine sMove (iv s22) S (wN rfl) (.inl rfl) rfl rfl (lb rfl) fun a S => ?_
  refine sBin (.bool (r41.1 != s22)) S (wN rfl) rfl rfl rfl (bNe _ _ _ _ .i64 r41.1 s22) rfl (lb rfl) fun a S => ?_
  refine leafL (leafT (hK48 _ _ ?_))
  rcases iteSome h with ⟨hc49, h⟩ | ⟨hc49, h⟩
  · refine sCondT S rfl hc49 ?_
    refine sSeq (fun K50 hK50 => ?_)
    refine sRegion ?_
    refine sMove (iv 26) S (wN rfl) (.inr rfl) rfl rfl (lb rfl) fun a S => ?_
    refine leafL (leafT (hK50 _ _ ?_))
    obtain rfl := Option.some.inj h
    obtain rfl := hu24 _ rfl
    have h := g25
    clear g25
    try dsimp only at h
    obtain rfl := Option.some.inj h
    have h := g20
    clear g20
    try dsimp only at h
    obtain rfl := Option.some.inj h
    exact wp_ret (rThen (rBlock (rThen (rThen (rBlock (rThen (sRet (iv 26) S (rsl1 rfl (rvT (t := 2) (v := iv 26) S rfl)) ⟨(), rfl, S.mem.sel [] [] (by decide) rfl rfl⟩)))))))
  refine sCondF S rfl hc49 ?_
  refine wp_skip (leafT (hK47 _ _ ?_))
  refine sRegion ?_
  refine sField (b := b6) (off := 0) 1 1 S (wN rfl) rfl rfl rfl rfl rfl (lb rfl) fun a S => ?_
  refine sLoad1 (p := b6) (off := 1) (T := 42) (vs := [iv p0.Start, .slice ad3 p0.Rows.length cp4]) 0 (.slice ad3 p0.Rows.length cp4) S (wN rfl) rfl rfl rfl rfl rfl rfl (lb rfl) fun a S => ?_
  refine sMove (iv s23) S (wN rfl) (.inl rfl) rfl rfl (lb rfl) fun a S => ?_
  obtain ⟨q51, hq52, S⟩ := pIdx (P := Try.prog) (r := r_api_Row) (v := .slice ad3 p0.Rows.length cp4) (xs := p0.Rows) (j := s23) 40 87 4 S Try.underlying40 rfl rfl hx33
  refine sIdxV (v := .slice ad3 p0.Rows.length cp4) (k := .i64) (j := s23) S (wN rfl) rfl rfl rfl hq52 rfl (lb rfl) fun a S => ?_
  obtain ⟨q53, hq54, S⟩ := pFld (P := Try.prog) (r := r_api_Row) (s2 := (rL r_api_Stitch)) (g := (·.Cells)) (q := q51) (z := x32) 87 1 0 1 S rfl rfl comp_api_Row_Cells
  refine sFldV (q := q51) S (wN rfl) rfl rfl hq54 rfl (lb rfl) fun a S => ?_
  obtain ⟨u55, S⟩ := pLoad (r := (rL r_api_Stitch)) (q := q53) (x := x32.Cells) 0 S rfl
  obtain ⟨ad56, cp57, _, rfl, _⟩ := S.mem.know (i := 1) (e := fRep (rL r_api_Stitch) (u55) x32.Cells) rfl
  refine sLoadV1 (vq := q53) 0 (.slice ad56 x32.Cells.length cp57) S (wN rfl) rfl rfl rfl rfl rfl (lb rfl) fun a S => ?_
  obtain ⟨r58, hx59, h⟩ := bindSome h
  have S1 := S.mem
  refine sCallQ (X := Unit) (f := 76) (vs := [.slice ad56 x32.Cells.length cp57]) (val := fun _ => .tuple #[iv r58.1, iv r58.2]) S (wN rfl) rfl callee76 rfl (S1.quiet [1] rfl) (fun E1 w1 S1 => c_raddleref25_Makes E1 w1 x32.Cells (.slice ad56 x32.Cells.length cp57) r58 hx59 S1) rfl (lb rfl) fun _ a w S => ?_
  refine sMove (.tuple #[iv r58.1, iv r58.2]) S (wN rfl) (.inl rfl) rfl rfl (lb rfl) fun a S => ?_
  refine sExtract (vs := [iv r58.1, iv r58.2]) (iv r58.1) S (wN rfl) rfl rfl rfl rfl (lb rfl) fun a S => ?_
  refine sExtract (vs := [iv r58.1, iv r58.2]) (iv r58.2) S (wN rfl) rfl rfl rfl rfl (lb rfl) fun a S => ?_
  refine sMove (iv r58.1) S (wN rfl) (.inr rfl) rfl rfl (lb rfl) fun a S => ?_
  refine leafL (leafB (leafT (hK30 _ _ ?_)))
  refine sRegion ?_
  refine sMove (iv s23) S (wN rfl) (.inl rfl) rfl rfl (lb rfl) fun a S => ?_
  refine sBin (iv (w64 (s23 + 1))) S (wN rfl) rfl rfl rfl (bAdd _ _ _ _ s23 1) rfl (lb rfl) fun a S => ?_
  refine sMove (iv (w64 (s23 + 1))) S (wN rfl) (.inr rfl) rfl rfl (lb rfl) fun a S => ?_
  exact leafL (leafT (⟨(r58.1, w64 (s23 + 1)), (Option.some.inj h).symm, (S.fix [0] [8] (by decide) rfl rfl rfl)⟩))

end Go.Proofs.Ytffikfajljbmnaa
namespace Go.Proofs.Ytffikfajljbmnaa
open Go.RowKit
set_option linter.unusedVariables false

def wfR (rows : List api_Row) : Prop := ∀ r, r ∈ rows → ∀ p, p ∈ r.Cells → wfS p
/-- the error of rows behind n loops -/
def chkR : Int → List api_Row → Int
  | _, [] => 0
  | n, r :: rs => if allS r.Cells ≠ 0 then allS r.Cells else if sm usedS r.Cells ≠ n then 26 else chkR (sm madeS r.Cells) rs
/-- what the iterator goes over -/
def ctl : Nat → Int → List api_Row → List (Int × chart_count)
  | _, _, [] => []
  | i, n, r :: rs => if allS r.Cells ≠ 0 then [((i : Int), ⟨n, 0, allS r.Cells⟩)] else if sm usedS r.Cells ≠ n then [((i : Int), ⟨n, 0, 26⟩)] else ((i : Int), ⟨n, sm madeS r.Cells, 0⟩) :: ctl (i + 1) (sm madeS r.Cells) rs
theorem counted_loop {σ τ : Type} (c : api_Chart) (hw : wfR c.Rows) (hl : c.Rows.length ≤ 1000000000) (B : σ → (Int × chart_count) → Option (σ ⊕ τ)) : ∀ (rs : List api_Row) (i : Nat) (n : Int) (z : σ), c.Rows.drop i = rs → (whileO (chart_counted_1_l1 c B) (n, (i : Int), z)).bind fin3 = foldO B z (ctl i n rs) := by
  intro rs
  induction rs with
  | nil =>
    intro i n z hd
    have hi : c.Rows.length ≤ i := by
      have := congrArg List.length hd
      simp at this; omega
    have : chart_counted_1_l1 c B (n, (i : Int), z) = some (.inr (.inr z)) := by
      unfold chart_counted_1_l1
      simp only [dF (show ¬ (i : Int) < (c.Rows.length : Int) by omega), Bool.false_eq_true, if_false]
    rw [whileO_done this]
    rfl
  | cons r rs ih =>
    intro i n z hd
    have hi : i < c.Rows.length := by
      have := congrArg List.length hd
      simp at this; omega
    have hr : c.Rows[i] = r := by
      have := List.getElem_drop (xs := c.Rows) (i := i) (j := 0) (h := by rw [hd]; simp)
      simp only [hd, List.getElem_cons_zero, Nat.add_zero] at this
      exact this.symm
    have hrs : c.Rows.drop (i + 1) = rs := by
      rw [← List.drop_drop, hd]; rfl
    have hwr : ∀ p, p ∈ r.Cells → wfS p := hw r (hr ▸ List.getElem_mem hi)
    have hs : w64 ((i : Int) + 1) = ((i + 1 : Nat) : Int) := w64_succ (by omega)
    simp only [ctl]
    by_cases ha : allS r.Cells = 0
    · have eu : F_stitch_Uses r.Cells = some (sm usedS r.Cells, 0) := by rw [uses_eq hwr, if_pos ha]
      have em : F_stitch_Makes r.Cells = some (sm madeS r.Cells, 0) := by rw [makes_eq hwr, if_pos ha]
      rw [if_neg (by simp [ha])]
      by_cases hu : sm usedS r.Cells = n
      · have e1 : chart_counted_1_l1 c B (n, (i : Int), z) = (B z ((i : Int), ⟨n, sm madeS r.Cells, 0⟩)).bind fun y => match y with | .inl z' => some (.inl (sm madeS r.Cells, ((i + 1 : Nat) : Int), z')) | .inr t => some (.inr (.inl (.inr t))) := by
          unfold chart_counted_1_l1
          simp only [dT (show (i : Int) < (c.Rows.length : Int) by omega), if_true, idxO_nat hi, hr, Option.bind_some, eu, em, bne_self_eq_false, Bool.false_eq_true, if_false, nF hu, hs]
          try congr 1
        rw [if_neg (by simp [hu]), whileO_eq, e1, foldO]
        cases hb : B z ((i : Int), ⟨n, sm madeS r.Cells, 0⟩) with
        | none => rfl
        | some y =>
          cases y with
          | inl z' => exact ih (i + 1) (sm madeS r.Cells) z' hrs
          | inr t => rfl
      · have e1 : chart_counted_1_l1 c B (n, (i : Int), z) = (B z ((i : Int), ⟨n, 0, 26⟩)).bind fun y => match y with | .inl z' => some (.inr (.inl (.inl z'))) | .inr t => some (.inr (.inl (.inr t))) := by
          unfold chart_counted_1_l1
          simp only [dT (show (i : Int) < (c.Rows.length : Int) by omega), if_true, idxO_nat hi, hr, Option.bind_some, eu, em, bne_self_eq_false, Bool.false_eq_true, if_false, nT hu, nT (show ¬ (26 : Int) = 0 by omega)]
          try congr 1
        rw [if_pos (by simp [hu]), whileO_eq, e1, foldO]
        cases hb : B z ((i : Int), ⟨n, 0, 26⟩) with
        | none => rfl
        | some y => cases y <;> rfl
    · have eu : F_stitch_Uses r.Cells = some (0, allS r.Cells) := by rw [uses_eq hwr, if_neg ha]
      have e1 : chart_counted_1_l1 c B (n, (i : Int), z) = (B z ((i : Int), ⟨n, 0, allS r.Cells⟩)).bind fun y => match y with | .inl z' => some (.inr (.inl (.inl z'))) | .inr t => some (.inr (.inl (.inr t))) := by
        unfold chart_counted_1_l1
        simp only [dT (show (i : Int) < (c.Rows.length : Int) by omega), if_true, idxO_nat hi, hr, Option.bind_some, eu, nT ha]
        try congr 1
      rw [if_pos (by simp [ha]), whileO_eq, e1, foldO]
      cases hb : B z ((i : Int), ⟨n, 0, allS r.Cells⟩) with
      | none => rfl
      | some y => cases y <;> rfl
theorem chcount_eq {σ τ : Type} (c : api_Chart) (hw : wfR c.Rows) (hl : c.Rows.length ≤ 1000000000) (B : σ → (Int × chart_count) → Option (σ ⊕ τ)) (z : σ) : I_chart_counted_1 c σ τ B z = foldO B z (ctl 0 c.Start c.Rows) := by
  rw [← counted_loop c hw hl B c.Rows 0 c.Start z rfl]
  unfold I_chart_counted_1
  try congr 1
/-- the error of a chart -/
def chk (c : api_Chart) : Int := if 100 < c.Rows.length then 4 else if c.Start < 0 ∨ 200 < c.Start then 8 else chkR c.Start c.Rows
theorem check_fold : ∀ (rs : List api_Row) (i : Nat) (n : Int), foldO chart_Check_l2 () (ctl i n rs) = some (if chkR n rs = 0 then .inl () else .inr (chkR n rs)) := by
  intro rs
  induction rs with
  | nil => intro i n; rfl
  | cons r rs ih =>
    intro i n
    simp only [ctl, chkR]
    by_cases ha : allS r.Cells = 0
    · simp only [ha, ne_eq, not_true_eq_false, if_false]
      by_cases hu : sm usedS r.Cells = n
      · simp only [hu, not_true_eq_false, if_false, foldO, chart_Check_l2, bne_self_eq_false, Bool.false_eq_true, Option.bind_some]
        exact ih _ _
      · simp only [hu, not_false_eq_true, if_true, foldO, chart_Check_l2, nT (show ¬ (26 : Int) = 0 by omega), Option.bind_some]
        rfl
    · simp only [ha, ne_eq, not_false_eq_true, if_true, foldO, chart_Check_l2, nT ha, Option.bind_some, if_false]
theorem chart_check_eq (c : api_Chart) (hw : wfR c.Rows) : F_chart_Check c = some (chk c) := by
  unfold F_chart_Check chk F_chart_counted
  by_cases h1 : 100 < c.Rows.length
  · simp only [dT (show (100 : Int) < (c.Rows.length : Int) by omega), if_true, if_pos h1]
  simp only [dF (show ¬ (100 : Int) < (c.Rows.length : Int) by omega), Bool.false_eq_true, if_false, if_neg h1, Option.bind_some, chcount_eq c hw (show c.Rows.length ≤ 1000000000 by omega), check_fold]
  by_cases h2 : c.Start < 0
  · simp [h2]
  by_cases h3 : 200 < c.Start
  · simp [h2, h3]
  by_cases h4 : chkR c.Start c.Rows = 0 <;> simp [h2, h3, h4]
theorem rchart_loop (c : api_Chart) (hl : c.Rows.length ≤ 1000000000) : ∀ (rs : List api_Row) (i : Nat) (n : Int), c.Rows.drop i = rs → whileO (raddleref26_Check_l1 c) (n, (i : Int)) = some (if chkR n rs = 0 then .inr () else .inl (chkR n rs)) := by
  intro rs
  induction rs with
  | nil =>
    intro i n hd
    have hi : c.Rows.length ≤ i := by
      have := congrArg List.length hd
      simp at this; omega
    have : raddleref26_Check_l1 c (n, (i : Int)) = some (.inr (.inr ())) := by
      unfold raddleref26_Check_l1
      simp only [dF (show ¬ (i : Int) < (c.Rows.length : Int) by omega), Bool.false_eq_true, if_false]
    rw [whileO_done this]
    rfl
  | cons r rs ih =>
    intro i n hd
    have hi : i < c.Rows.length := by
      have := congrArg List.length hd
      simp at this; omega
    have hr : c.Rows[i] = r := by
      have := List.getElem_drop (xs := c.Rows) (i := i) (j := 0) (h := by rw [hd]; simp)
      simp only [hd, List.getElem_cons_zero, Nat.add_zero] at this
      exact this.symm
    have hrs : c.Rows.drop (i + 1) = rs := by
      rw [← List.drop_drop, hd]; rfl
    have hs : w64 ((i : Int) + 1) = ((i + 1 : Nat) : Int) := w64_succ (by omega)
    by_cases ha : allS r.Cells = 0
    · have eu : F_raddleref25_Uses r.Cells = some (sm usedS r.Cells, 0) := by rw [ruses_eq, if_pos ha]
      have em : F_raddleref25_Makes r.Cells = some (sm madeS r.Cells, 0) := by rw [rmakes_eq, if_pos ha]
      by_cases hu : sm usedS r.Cells = n
      · have e1 : raddleref26_Check_l1 c (n, (i : Int)) = some (.inl (sm madeS r.Cells, ((i + 1 : Nat) : Int))) := by
          unfold raddleref26_Check_l1
          simp only [dT (show (i : Int) < (c.Rows.length : Int) by omega), if_true, idxO_nat hi, hr, Option.bind_some, eu, em, bne_self_eq_false, Bool.false_eq_true, if_false, nF hu, hs]
        have hc : chkR n (r :: rs) = chkR (sm madeS r.Cells) rs := by simp [chkR, ha, hu]
        rw [whileO_step e1, ih (i + 1) (sm madeS r.Cells) hrs, hc]
      · have e1 : raddleref26_Check_l1 c (n, (i : Int)) = some (.inr (.inl 26)) := by
          unfold raddleref26_Check_l1
          simp only [dT (show (i : Int) < (c.Rows.length : Int) by omega), if_true, idxO_nat hi, hr, Option.bind_some, eu, em, bne_self_eq_false, Bool.false_eq_true, if_false, nT hu]
        have hc : chkR n (r :: rs) = 26 := by simp [chkR, ha, hu]
        rw [whileO_done e1, hc]
        rfl
    · have eu : F_raddleref25_Uses r.Cells = some (0, allS r.Cells) := by rw [ruses_eq, if_neg ha]
      have e1 : raddleref26_Check_l1 c (n, (i : Int)) = some (.inr (.inl (allS r.Cells))) := by
        unfold raddleref26_Check_l1
        simp only [dT (show (i : Int) < (c.Rows.length : Int) by omega), if_true, idxO_nat hi, hr, Option.bind_some, eu, nT ha]
      have hc : chkR n (r :: rs) = allS r.Cells := by simp [chkR, ha]
      rw [whileO_done e1, hc, if_neg ha]
theorem rchart_check_eq (c : api_Chart) : F_raddleref26_Check c = some (chk c) := by
  unfold F_raddleref26_Check chk
  by_cases h1 : 100 < c.Rows.length
  · simp only [dT (show (100 : Int) < (c.Rows.length : Int) by omega), if_true, if_pos h1]
  simp only [dF (show ¬ (100 : Int) < (c.Rows.length : Int) by omega), Bool.false_eq_true, if_false, if_neg h1]
  have hloop := rchart_loop c (by omega) c.Rows 0 c.Start rfl
  have h0 : ((0 : Nat) : Int) = 0 := rfl
  rw [h0] at hloop
  rw [hloop]
  by_cases h2 : c.Start < 0
  · simp [h2]
  by_cases h3 : 200 < c.Start
  · simp [h2, h3]
  by_cases h4 : chkR c.Start c.Rows = 0 <;> simp [h2, h3, h4]
/-- a chart without an error: every row is one, uses what the row before made -/
theorem chk_ok {c : api_Chart} (h : chk c = 0) : c.Rows.length ≤ 100 ∧ 0 ≤ c.Start ∧ c.Start ≤ 200 ∧ chkR c.Start c.Rows = 0 := by
  unfold chk at h
  split at h
  · omega
  · split at h
    · omega
    · rename_i h1 h2
      exact ⟨by omega, by omega, by omega, h⟩
theorem chkR_cons {n : Int} {r : api_Row} {rs : List api_Row} : chkR n (r :: rs) = 0 ↔ allS r.Cells = 0 ∧ sm usedS r.Cells = n ∧ chkR (sm madeS r.Cells) rs = 0 := by
  simp only [chkR]
  by_cases ha : allS r.Cells = 0
  · by_cases hu : sm usedS r.Cells = n
    · simp [ha, hu]
    · simp [ha, hu]
  · simp [ha]
theorem chkR_mem : ∀ {rs : List api_Row} {n : Int}, chkR n rs = 0 → ∀ r, r ∈ rs → allS r.Cells = 0 := by
  intro rs
  induction rs with
  | nil => intro n _ r hr; cases hr
  | cons x rs ih =>
    intro n h r hr
    obtain ⟨h1, h2, h3⟩ := chkR_cons.1 h
    rcases List.mem_cons.1 hr with rfl | hr
    · exact h1
    · exact ih h3 r hr
theorem wfR_of {c : api_Chart} (h : wf_api_Chart c) : wfR c.Rows := fun r hr p hp => inK_u8 ((((h.2.2 r hr).2).2 p hp).1)

end Go.Proofs.Ytffikfajljbmnaa
namespace Go.Proofs.Ytffikfajljbmnaa
open Go.RowKit
set_option linter.unusedVariables false

noncomputable def raddleref46_GreatChart_l1 (p0 : api_Chart) : Int → Option (Int ⊕ (Bool ⊕ Unit)) := fun s0 => match s0 with
  | s10 =>
    if decide (s10 < (p0.Rows.length : Int)) then
      Option.bind (idxO p0.Rows s10) fun x19 =>
      if decide (24 < (x19.Cells.length : Int)) then
        some (.inr (.inl true))
      else
        some (.inl (w64 (s10 + 1)))
    else
      some (.inr (.inr ()))
noncomputable def F_raddleref46_GreatChart (p0 : api_Chart) : Option Bool :=
  Option.bind (α := Unit ⊕ Bool) (
    Option.bind (whileO (raddleref46_GreatChart_l1 p0) 0) fun z0 => match z0 with
      | .inl z =>
        some (.inr z)
      | .inr _ =>
        some (.inl ())) fun z0 => match z0 with
    | .inl _ =>
      Option.bind (α := Bool) (
        if decide (8 < (p0.Rows.length : Int)) then
          if decide ((p0.Rows.length : Int) ≤ 100) then
            some true
          else
            some (decide (110 < (p0.Rows.length : Int)))
        else
          some (decide (110 < (p0.Rows.length : Int)))) fun o30 =>
      some o30
    | .inr z =>
      some z
set_option maxHeartbeats 4000000 in
set_option maxRecDepth 100000 in
theorem c_raddleref46_GreatChart (E : Nat → Prop) (w0 : World) (p0 : api_Chart) (v0 : Value) (r : Bool) (h : F_raddleref46_GreatChart p0 = some r) (S : St0 E [] w0 w0 [] [fRep r_api_Chart (v0) p0]) :
    Calls Try.prog 19 #[v0] w0 (Ret (X := Unit) E [] w0 (fun _ => .bool r) (fun _ => []) (fun _ => [])) := by
  unfold F_raddleref46_GreatChart at h
  obtain ⟨u1, rfl, hu2⟩ := S.know (i := 0) (e := fRep r_api_Chart (v0) p0) rfl
  have S := S.learn (fRep (rL r_api_Row) u1 p0.Rows) hu2
  obtain ⟨ad3, cp4, _, rfl, _⟩ := hu2
  refine sEnter (args := [.agg #[iv p0.Start, .slice ad3 p0.Rows.length cp4]]) 35 Try.func19 rfl rfl (by simp) S (fun a S => ?_)
  refine sSeq (fun K5 hK5 => ?_)
  refine sRegion ?_
  refine sBox (v := .agg #[iv p0.Start, .slice ad3 p0.Rows.length cp4]) S (wN rfl) rfl rfl [iv p0.Start, .slice ad3 p0.Rows.length cp4] rfl rfl (lb rfl) fun a b6 w S => ?_
  refine sMove (.bool false) S (wN rfl) (.inr rfl) rfl rfl (lb rfl) fun a S => ?_
  refine leafL (leafT (hK5 _ _ ?_))
  obtain ⟨t7, h, g8⟩ := bindSome h
  refine sCut (fun a w => .inl () = t7 ∧ St [] E [] w0 35 a w [(1, .pointer (some ⟨b6, 0, none⟩))] [eBox b6 42 [iv p0.Start, .slice ad3 p0.Rows.length cp4]] [fRep (rL r_api_Row) (.slice ad3 p0.Rows.length cp4) p0.Rows]) ?_ (fun a w hI => ?_)
  · refine sSeq (fun K9 hK9 => ?_)
    refine sRegion ?_
    refine sMove (iv 0) S (wN rfl) (.inr rfl) rfl rfl (lb rfl) fun a S => ?_
    refine leafL (leafT (hK9 _ _ ?_))
    refine wp_block ?_
    obtain ⟨t13, hl, g12⟩ := bindSome h
    refine sLoop hl (fun s0 a w => match s0 with | s10 => St [] E [] w0 35 a w [(1, .pointer (some ⟨b6, 0, none⟩)), (3, iv s10)] [eBox b6 42 [iv p0.Start, .slice ad3 p0.Rows.length cp4]] [fRep (rL r_api_Row) (.slice ad3 p0.Rows.length cp4) p0.Rows]) (S.fix [0] [0] (by decide) rfl rfl rfl) ?_
    clear hl h
    intro s10 a w c0 hI h hu11
    unfold raddleref46_GreatChart_l1 at h
    dsimp only at h hI
    have S := hI
    refine sSeq (fun K14 hK14 => ?_)
    refine sSeq (fun K15 hK15 => ?_)
    refine sRegion ?_
    refine sMove (iv s10) S (wN rfl) (.inl rfl) rfl rfl (lb rfl) fun a S => ?_
    refine sField (b := b6) (off := 0) 1 1 S (wN rfl) rfl rfl rfl rfl rfl (lb rfl) fun a S => ?_
    refine sLoad1 (p := b6) (off := 1) (T := 42) (vs := [iv p0.Start, .slice ad3 p0.Rows.length cp4]) 0 (.slice ad3 p0.Rows.length cp4) S (wN rfl) rfl rfl rfl rfl rfl rfl (lb rfl) fun a S => ?_
    refine sLen (ad := ad3) (m := p0.Rows.length) (c := cp4) S (wN rfl) rfl Try.underlying40 rfl rfl (lb rfl) fun a S => ?_
    refine sBin (.bool (decide (s10 < (p0.Rows.length : Int)))) S (wN rfl) rfl rfl rfl (bLt _ _ _ _ .i64 s10 (p0.Rows.length : Int)) rfl (lb rfl) fun a S => ?_
    refine leafL (leafT (hK15 _ _ ?_))
    rcases iteSome h with ⟨hc16, h⟩ | ⟨hc16, h⟩
    rotate_left
    · refine sCondF S rfl hc16 ?_
      obtain rfl := Option.some.inj h
      obtain rfl := hu11 _ rfl
      have h := g12
      clear g12
      try dsimp only at h
      exact wp_exit (xThen (xThen (xHit (leafT (⟨Option.some.inj h, S.fix [0] [0] (by decide) rfl rfl rfl⟩)))))
    refine sCondT S rfl hc16 ?_
    refine wp_skip (leafT (hK14 _ _ ?_))
    refine sSeq (fun K17 hK17 => ?_)
    refine wp_block ?_
    refine sSeq (fun K18 hK18 => ?_)
    refine sRegion ?_
    refine sField (b := b6) (off := 0) 1 1 S (wN rfl) rfl rfl rfl rfl rfl (lb rfl) fun a S => ?_
    refine sLoad1 (p := b6) (off := 1) (T := 42) (vs := [iv p0.Start, .slice ad3 p0.Rows.length cp4]) 0 (.slice ad3 p0.Rows.length cp4) S (wN rfl) rfl rfl rfl rfl rfl rfl (lb rfl) fun a S => ?_
    refine sMove (iv s10) S (wN rfl) (.inl rfl) rfl rfl (lb rfl) fun a S => ?_
    obtain ⟨x19, hx20, h⟩ := bindSome h
    obtain ⟨q21, hq22, S⟩ := pIdx (P := Try.prog) (r := r_api_Row) (v := .slice ad3 p0.Rows.length cp4) (xs := p0.Rows) (j := s10) 40 87 0 S Try.underlying40 rfl rfl hx20
    refine sIdxV (v := .slice ad3 p0.Rows.length cp4) (k := .i64) (j := s10) S (wN rfl) rfl rfl rfl hq22 rfl (lb rfl) fun a S => ?_
    obtain ⟨q23, hq24, S⟩ := pFld (P := Try.prog) (r := r_api_Row) (s2 := (rL r_api_Stitch)) (g := (·.Cells)) (q := q21) (z := x19) 87 1 0 1 S rfl rfl comp_api_Row_Cells
    refine sFldV (q := q21) S (wN rfl) rfl rfl hq24 rfl (lb rfl) fun a S => ?_
    obtain ⟨u25, S⟩ := pLoad (r := (rL r_api_Stitch)) (q := q23) (x := x19.Cells) 0 S rfl
    obtain ⟨ad26, cp27, _, rfl, _⟩ := S.mem.know (i := 1) (e := fRep (rL r_api_Stitch) (u25) x19.Cells) rfl
    refine sLoadV1 (vq := q23) 0 (.slice ad26 x19.Cells.length cp27) S (wN rfl) rfl rfl rfl rfl rfl (lb rfl) fun a S => ?_
    refine sLen (ad := ad26) (m := x19.Cells.length) (c := cp27) S (wN rfl) rfl Try.underlying47 rfl rfl (lb rfl) fun a S => ?_
    refine sBin (.bool (decide (24 < (x19.Cells.length : Int)))) S (wN rfl) rfl rfl rfl (bGt _ _ _ _ .i64 (x19.Cells.length : Int) 24) rfl (lb rfl) fun a S => ?_
    refine leafL (leafT (hK18 _ _ ?_))
    rcases iteSome h with ⟨hc28, h⟩ | ⟨hc28, h⟩
    rotate_left
    · refine sCondF S rfl hc28 ?_
      refine wp_skip (leafB (leafT (hK17 _ _ ?_)))
      refine sRegion ?_
      refine sMove (iv s10) S (wN rfl) (.inl rfl) rfl rfl (lb rfl) fun a S => ?_
      refine sBin (iv (w64 (s10 + 1))) S (wN rfl) rfl rfl rfl (bAdd _ _ _ _ s10 1) rfl (lb rfl) fun a S => ?_
      refine sMove (iv (w64 (s10 + 1))) S (wN rfl) (.inr rfl) rfl rfl (lb rfl) fun a S => ?_
      exact leafL (leafT (⟨w64 (s10 + 1), (Option.some.inj h).symm, (S.fix [0] [4] (by decide) rfl rfl rfl)⟩))
    refine sCondT S rfl hc28 ?_
    refine sSeq (fun K29 hK29 => ?_)
    refine sRegion ?_
    refine sMove (.bool true) S (wN rfl) (.inr rfl) rfl rfl (lb rfl) fun a S => ?_
    refine leafL (leafT (hK29 _ _ ?_))
    obtain rfl := Option.some.inj h
    obtain rfl := hu11 _ rfl
    have h := g12
    clear g12
    try dsimp only at h
    obtain rfl := Option.some.inj h
    have h := g8
    clear g8
    try dsimp only at h
    obtain rfl := Option.some.inj h
    exact wp_ret (rBlock (rThen (rThen (rBlock (rThen (sRet (.bool true) S (rsl1 rfl (rvT (t := 2) (v := .bool true) S rfl)) ⟨(), rfl, S.mem.sel [] [] (by decide) rfl rfl⟩))))))
  obtain ⟨rfl, S⟩ := hI
  have h := g8
  clear g8
  try dsimp only at h
  obtain ⟨t31, h, g32⟩ := bindSome h
  refine sCut (fun a w => ∃ o30, o30 = t31 ∧ St [] E [] w0 35 a w [(2, .bool o30)] [] []) ?_ (fun a w hI => ?_)
  rotate_left
  · obtain ⟨o30, rfl, S⟩ := hI
    have h := g32
    clear g32
    try dsimp only at h
    obtain rfl := Option.some.inj h
    exact wp_ret (sRet (.bool o30) S (rsl1 rfl (rvT (t := 2) (v := .bool o30) S rfl)) ⟨(), rfl, S.mem.sel [] [] (by decide) rfl rfl⟩)
  refine sRegion ?_
  refine sField (b := b6) (off := 0) 1 1 S (wN rfl) rfl rfl rfl rfl rfl (lb rfl) fun a S => ?_
  refine sLoad1 (p := b6) (off := 1) (T := 42) (vs := [iv p0.Start, .slice ad3 p0.Rows.length cp4]) 0 (.slice ad3 p0.Rows.length cp4) S (wN rfl) rfl rfl rfl rfl rfl rfl (lb rfl) fun a S => ?_
  refine sLen (ad := ad3) (m := p0.Rows.length) (c := cp4) S (wN rfl) rfl Try.underlying40 rfl rfl (lb rfl) fun a S => ?_
  refine sBin (.bool (decide (8 < (p0.Rows.length : Int)))) S (wN rfl) rfl rfl rfl (bGt _ _ _ _ .i64 (p0.Rows.length : Int) 8) rfl (lb rfl) fun a S => ?_
  refine sMove (.bool (decide (8 < (p0.Rows.length : Int)))) S (wN rfl) (.inl rfl) rfl rfl (lb rfl) fun a S => ?_
  rcases iteSome h with ⟨hc33, h⟩ | ⟨hc33, h⟩
  rotate_left
  · refine sSkip 4 true 23 24 S rfl rfl rfl hc33 rfl (lb rfl) fun a S => ?_
    refine sSkip 4 true 23 25 S rfl rfl rfl hc33 rfl (lb rfl) fun a S => ?_
    refine sSkip 4 true 23 26 S rfl rfl rfl hc33 rfl (lb rfl) fun a S => ?_
    refine sSkip 4 true 23 27 S rfl rfl rfl hc33 rfl (lb rfl) fun a S => ?_
    refine sPickF (.bool false) S (wN rfl) rfl rfl hc33 rfl rfl (lb rfl) fun a S => ?_
    refine sMove (.bool false) S (wN rfl) (.inl rfl) rfl rfl (lb rfl) fun a S => ?_
    refine sField (b := b6) (off := 0) 1 1 S (wG 10 false 29 rfl rfl rfl rfl) rfl rfl rfl rfl rfl (lb rfl) fun a S => ?_
    refine sLoad1 (p := b6) (off := 1) (T := 42) (vs := [iv p0.Start, .slice ad3 p0.Rows.length cp4]) 0 (.slice ad3 p0.Rows.length cp4) S (wG 10 false 29 rfl rfl rfl rfl) rfl rfl rfl rfl rfl rfl (lb rfl) fun a S => ?_
    refine sLen (ad := ad3) (m := p0.Rows.length) (c := cp4) S (wG 10 false 29 rfl rfl rfl rfl) rfl Try.underlying40 rfl rfl (lb rfl) fun a S => ?_
    refine sBin (.bool (decide (110 < (p0.Rows.length : Int)))) S (wG 10 false 29 rfl rfl rfl rfl) rfl rfl rfl (bGt _ _ _ _ .i64 (p0.Rows.length : Int) 110) rfl (lb rfl) fun a S => ?_
    refine sPickF (.bool (decide (110 < (p0.Rows.length : Int)))) S (wN rfl) rfl rfl rfl rfl rfl (lb rfl) fun a S => ?_
    refine sMove (.bool (decide (110 < (p0.Rows.length : Int)))) S (wN rfl) (.inr rfl) rfl rfl (lb rfl) fun a S => ?_
    exact leafL (leafT (⟨decide (110 < (p0.Rows.length : Int)), Option.some.inj h, S.fix [] [] (by decide) rfl rfl rfl⟩))
  refine sField (b := b6) (off := 0) 1 1 S (wG 4 true 23 rfl rfl rfl hc33) rfl rfl rfl rfl rfl (lb rfl) fun a S => ?_
  refine sLoad1 (p := b6) (off := 1) (T := 42) (vs := [iv p0.Start, .slice ad3 p0.Rows.length cp4]) 0 (.slice ad3 p0.Rows.length cp4) S (wG 4 true 23 rfl rfl rfl hc33) rfl rfl rfl rfl rfl rfl (lb rfl) fun a S => ?_
  refine sLen (ad := ad3) (m := p0.Rows.length) (c := cp4) S (wG 4 true 23 rfl rfl rfl hc33) rfl Try.underlying40 rfl rfl (lb rfl) fun a S => ?_
  refine sBin (.bool (decide ((p0.Rows.length : Int) ≤ 100))) S (wG 4 true 23 rfl rfl rfl hc33) rfl rfl rfl (bLe _ _ _ _ .i64 (p0.Rows.length : Int) 100) rfl (lb rfl) fun a S => ?_
  refine sPickT (.bool (decide ((p0.Rows.length : Int) ≤ 100))) S (wN rfl) rfl rfl hc33 rfl rfl (lb rfl) fun a S => ?_
  refine sMove (.bool (decide ((p0.Rows.length : Int) ≤ 100))) S (wN rfl) (.inl rfl) rfl rfl (lb rfl) fun a S => ?_
  rcases iteSome h with ⟨hc34, h⟩ | ⟨hc34, h⟩
  · refine sSkip 10 false 29 30 S rfl rfl rfl hc34 rfl (lb rfl) fun a S => ?_
    refine sSkip 10 false 29 31 S rfl rfl rfl hc34 rfl (lb rfl) fun a S => ?_
    refine sSkip 10 false 29 32 S rfl rfl rfl hc34 rfl (lb rfl) fun a S => ?_
    refine sSkip 10 false 29 33 S rfl rfl rfl hc34 rfl (lb rfl) fun a S => ?_
    refine sPickT (.bool true) S (wN rfl) rfl rfl hc34 rfl rfl (lb rfl) fun a S => ?_
    refine sMove (.bool true) S (wN rfl) (.inr rfl) rfl rfl (lb rfl) fun a S => ?_
    exact leafL (leafT (⟨true, Option.some.inj h, S.fix [] [] (by decide) rfl rfl rfl⟩))
  refine sField (b := b6) (off := 0) 1 1 S (wG 10 false 29 rfl rfl rfl hc34) rfl rfl rfl rfl rfl (lb rfl) fun a S => ?_
  refine sLoad1 (p := b6) (off := 1) (T := 42) (vs := [iv p0.Start, .slice ad3 p0.Rows.length cp4]) 0 (.slice ad3 p0.Rows.length cp4) S (wG 10 false 29 rfl rfl rfl hc34) rfl rfl rfl rfl rfl rfl (lb rfl) fun a S => ?_
  refine sLen (ad := ad3) (m := p0.Rows.length) (c := cp4) S (wG 10 false 29 rfl rfl rfl hc34) rfl Try.underlying40 rfl rfl (lb rfl) fun a S => ?_
  refine sBin (.bool (decide (110 < (p0.Rows.length : Int)))) S (wG 10 false 29 rfl rfl rfl hc34) rfl rfl rfl (bGt _ _ _ _ .i64 (p0.Rows.length : Int) 110) rfl (lb rfl) fun a S => ?_
  refine sPickF (.bool (decide (110 < (p0.Rows.length : Int)))) S (wN rfl) rfl rfl hc34 rfl rfl (lb rfl) fun a S => ?_
  refine sMove (.bool (decide (110 < (p0.Rows.length : Int)))) S (wN rfl) (.inr rfl) rfl rfl (lb rfl) fun a S => ?_
  exact leafL (leafT (⟨decide (110 < (p0.Rows.length : Int)), Option.some.inj h, S.fix [] [] (by decide) rfl rfl rfl⟩))

end Go.Proofs.Ytffikfajljbmnaa
namespace Go.Proofs.Ytffikfajljbmnaa
open Go.RowKit
set_option linter.unusedVariables false

noncomputable def F_compare_Charts_1 (p0 : api_Row) : Option Int :=
  some (w64 (1 + (p0.Cells.length : Int)))
set_option maxHeartbeats 4000000 in
set_option maxRecDepth 100000 in
theorem c_compare_Charts_1 (E : Nat → Prop) (w0 : World) (p0 : api_Row) (v0 : Value) (r : Int) (h : F_compare_Charts_1 p0 = some r) (S : St0 E [] w0 w0 [] [fRep r_api_Row (v0) p0]) :
    Calls Try.prog 52 #[v0] w0 (Ret (X := Unit) E [] w0 (fun _ => .int .i64 r) (fun _ => []) (fun _ => [])) := by
  unfold F_compare_Charts_1 at h
  obtain ⟨u1, rfl, hu2⟩ := S.know (i := 0) (e := fRep r_api_Row (v0) p0) rfl
  have S := S.learn (fRep (rL r_api_Stitch) u1 p0.Cells) hu2
  obtain ⟨ad3, cp4, _, rfl, _⟩ := hu2
  refine sEnter (args := [.agg #[.bool p0.Back, .slice ad3 p0.Cells.length cp4]]) 7 Try.func52 rfl rfl (by simp) S (fun a S => ?_)
  refine sSeq (fun K5 hK5 => ?_)
  refine sRegion ?_
  refine sBox (v := .agg #[.bool p0.Back, .slice ad3 p0.Cells.length cp4]) S (wN rfl) rfl rfl [.bool p0.Back, .slice ad3 p0.Cells.length cp4] rfl rfl (lb rfl) fun a b6 w S => ?_
  refine sMove (iv 0) S (wN rfl) (.inr rfl) rfl rfl (lb rfl) fun a S => ?_
  refine leafL (leafT (hK5 _ _ ?_))
  refine sSeq (fun K7 hK7 => ?_)
  refine sRegion ?_
  refine sField (b := b6) (off := 0) 1 1 S (wN rfl) rfl rfl rfl rfl rfl (lb rfl) fun a S => ?_
  refine sLoad1 (p := b6) (off := 1) (T := 87) (vs := [.bool p0.Back, .slice ad3 p0.Cells.length cp4]) 0 (.slice ad3 p0.Cells.length cp4) S (wN rfl) rfl rfl rfl rfl rfl rfl (lb rfl) fun a S => ?_
  refine sLen (ad := ad3) (m := p0.Cells.length) (c := cp4) S (wN rfl) rfl Try.underlying47 rfl rfl (lb rfl) fun a S => ?_
  refine sBin (iv (w64 (1 + (p0.Cells.length : Int)))) S (wN rfl) rfl rfl rfl (bAdd _ _ _ _ 1 (p0.Cells.length : Int)) rfl (lb rfl) fun a S => ?_
  refine sMove (iv (w64 (1 + (p0.Cells.length : Int)))) S (wN rfl) (.inr rfl) rfl rfl (lb rfl) fun a S => ?_
  refine leafL (leafT (hK7 _ _ ?_))
  obtain rfl := Option.some.inj h
  exact wp_ret (sRet (iv (w64 (1 + (p0.Cells.length : Int)))) S (rsl1 rfl (rvT (t := 2) (v := iv (w64 (1 + (p0.Cells.length : Int)))) S rfl)) ⟨(), rfl, S.mem.sel [] [] (by decide) rfl rfl⟩)

end Go.Proofs.Ytffikfajljbmnaa
namespace Go.Proofs.Ytffikfajljbmnaa
open Go.RowKit
set_option linter.unusedVariables false

noncomputable def F_compare_Charts_2 (p0 : api_Row) (p1 : api_Row) : Option Int :=
  Option.bind (F_compare_cellTable p0.Cells p1.Cells) fun r13 =>
  Option.bind (idxO r13 0) fun x18 =>
  Option.bind (idxO x18 0) fun x25 =>
  Option.bind (α := Int) (
    if p0.Back != p1.Back then
      some (w64 (x25 + 1))
    else
      some x25) fun o30 =>
  some o30
set_option maxHeartbeats 4000000 in
set_option maxRecDepth 100000 in
theorem c_compare_Charts_2 (E : Nat → Prop) (w0 : World) (p0 : api_Row) (v0 : Value) (p1 : api_Row) (v1 : Value) (r : Int) (h : F_compare_Charts_2 p0 p1 = some r) (S : St0 E [] w0 w0 [] [fRep r_api_Row (v0) p0, fRep r_api_Row (v1) p1]) :
    Calls Try.prog 53 #[v0, v1] w0 (Ret (X := Unit) E [] w0 (fun _ => .int .i64 r) (fun _ => []) (fun _ => [])) := by
  unfold F_compare_Charts_2 at h
  obtain ⟨u1, rfl, hu2⟩ := S.know (i := 0) (e := fRep r_api_Row (v0) p0) rfl
  have S := S.learn (fRep (rL r_api_Stitch) u1 p0.Cells) hu2
  obtain ⟨ad3, cp4, _, rfl, _⟩ := hu2
  obtain ⟨u5, rfl, hu6⟩ := S.know (i := 2) (e := fRep r_api_Row (v1) p1) rfl
  have S := S.learn (fRep (rL r_api_Stitch) u5 p1.Cells) hu6
  obtain ⟨ad7, cp8, _, rfl, _⟩ := hu6
  refine sEnter (args := [.agg #[.bool p0.Back, .slice ad3 p0.Cells.length cp4], .agg #[.bool p1.Back, .slice ad7 p1.Cells.length cp8]]) 23 Try.func53 rfl rfl (by simp) S (fun a S => ?_)
  refine sSeq (fun K9 hK9 => ?_)
  refine sRegion ?_
  refine sBox (v := .agg #[.bool p0.Back, .slice ad3 p0.Cells.length cp4]) S (wN rfl) rfl rfl [.bool p0.Back, .slice ad3 p0.Cells.length cp4] rfl rfl (lb rfl) fun a b10 w S => ?_
  refine sBox (v := .agg #[.bool p1.Back, .slice ad7 p1.Cells.length cp8]) S (wN rfl) rfl rfl [.bool p1.Back, .slice ad7 p1.Cells.length cp8] rfl rfl (lb rfl) fun a b11 w S => ?_
  refine sMove (iv 0) S (wN rfl) (.inr rfl) rfl rfl (lb rfl) fun a S => ?_
  refine leafL (leafT (hK9 _ _ ?_))
  refine sSeq (fun K12 hK12 => ?_)
  refine sRegion ?_
  refine sField (b := b10) (off := 0) 1 1 S (wN rfl) rfl rfl rfl rfl rfl (lb rfl) fun a S => ?_
  refine sLoad1 (p := b10) (off := 1) (T := 87) (vs := [.bool p0.Back, .slice ad3 p0.Cells.length cp4]) 1 (.slice ad3 p0.Cells.length cp4) S (wN rfl) rfl rfl rfl rfl rfl rfl (lb rfl) fun a S => ?_
  refine sField (b := b11) (off := 0) 1 1 S (wN rfl) rfl rfl rfl rfl rfl (lb rfl) fun a S => ?_
  refine sLoad1 (p := b11) (off := 1) (T := 87) (vs := [.bool p1.Back, .slice ad7 p1.Cells.length cp8]) 0 (.slice ad7 p1.Cells.length cp8) S (wN rfl) rfl rfl rfl rfl rfl rfl (lb rfl) fun a S => ?_
  obtain ⟨r13, hx14, h⟩ := bindSome h
  refine sCall (X := Value) (f := 54) (vs := [.slice ad3 p0.Cells.length cp4, .slice ad7 p1.Cells.length cp8]) (val := c_compare_cellTable_val r13) (B' := fun _ => []) (D' := c_compare_cellTable_D r13) [] [eBox b11 87 [.bool p1.Back, .slice ad7 p1.Cells.length cp8], eBox b10 87 [.bool p0.Back, .slice ad3 p0.Cells.length cp4]] [fRep (rL r_api_Stitch) (.slice ad3 p0.Cells.length cp4) p0.Cells, fRep (rL r_api_Stitch) (.slice ad7 p1.Cells.length cp8) p1.Cells] [0, 1] [1, 0] S (wN rfl) rfl callee54 rfl (by decide) rfl rfl (fun E1 w1 S1 => c_compare_cellTable E1 w1 p0.Cells (.slice ad3 p0.Cells.length cp4) p1.Cells (.slice ad7 p1.Cells.length cp8) r13 hx14 S1) rfl (lb rfl) fun u15 a w S => ?_
  obtain ⟨ad16, cp17, _, rfl, _⟩ := S.mem.know (i := 0) (e := fRep (rL (rL (rI .i64))) (u15) r13) rfl
  obtain ⟨x18, hx19, h⟩ := bindSome h
  obtain ⟨q20, hq21, S⟩ := pIdx (P := Try.prog) (r := (rL (rI .i64))) (v := .slice ad16 r13.length cp17) (xs := r13) (j := 0) 98 101 0 S Try.underlying98 rfl rfl hx19
  refine sIdxV (v := .slice ad16 r13.length cp17) (k := .i64) (j := 0) S (wN rfl) rfl rfl rfl hq21 rfl (lb rfl) fun a S => ?_
  obtain ⟨u22, S⟩ := pLoad (r := (rL (rI .i64))) (q := q20) (x := x18) 0 S rfl
  obtain ⟨ad23, cp24, _, rfl, _⟩ := S.mem.know (i := 1) (e := fRep (rL (rI .i64)) (u22) x18) rfl
  refine sLoadV1 (vq := q20) 0 (.slice ad23 x18.length cp24) S (wN rfl) rfl rfl rfl rfl rfl (lb rfl) fun a S => ?_
  obtain ⟨x25, hx26, h⟩ := bindSome h
  obtain ⟨q27, hq28, S⟩ := pIdx (P := Try.prog) (r := (rI .i64)) (v := .slice ad23 x18.length cp24) (xs := x18) (j := 0) 101 3 1 S Try.underlying101 rfl rfl hx26
  refine sIdxV (v := .slice ad23 x18.length cp24) (k := .i64) (j := 0) S (wN rfl) rfl rfl rfl hq28 rfl (lb rfl) fun a S => ?_
  obtain ⟨u29, S⟩ := pLoad (r := (rI .i64)) (q := q27) (x := x25) 0 S rfl
  obtain rfl : u29 = iv x25 := S.mem.know (i := 1) (e := fRep (rI .i64) (u29) x25) rfl
  refine sLoadV1 (vq := q27) 0 (iv x25) S (wN rfl) rfl rfl rfl rfl rfl (lb rfl) fun a S => ?_
  refine sMove (iv x25) S (wN rfl) (.inr rfl) rfl rfl (lb rfl) fun a S => ?_
  refine leafL (leafT (hK12 _ _ ?_))
  obtain ⟨t31, h, g32⟩ := bindSome h
  refine sCut (fun a w => ∃ o30, o30 = t31 ∧ St [] E [] w0 23 a w [(5, iv o30)] [] []) ?_ (fun a w hI => ?_)
  rotate_left
  · obtain ⟨o30, rfl, S⟩ := hI
    have h := g32
    clear g32
    try dsimp only at h
    refine sSeq (fun K35 hK35 => ?_)
    refine sRegion ?_
    refine sMove (iv o30) S (wN rfl) (.inl rfl) rfl rfl (lb rfl) fun a S => ?_
    refine sMove (iv o30) S (wN rfl) (.inr rfl) rfl rfl (lb rfl) fun a S => ?_
    refine leafL (leafT (hK35 _ _ ?_))
    obtain rfl := Option.some.inj h
    exact wp_ret (sRet (iv o30) S (rsl1 rfl (rvT (t := 4) (v := iv o30) S rfl)) ⟨(), rfl, S.mem.sel [] [] (by decide) rfl rfl⟩)
  refine sSeq (fun K33 hK33 => ?_)
  refine sRegion ?_
  refine sField (b := b10) (off := 0) 0 0 S (wN rfl) rfl rfl rfl rfl rfl (lb rfl) fun a S => ?_
  refine sLoad1 (p := b10) (off := 0) (T := 87) (vs := [.bool p0.Back, .slice ad3 p0.Cells.length cp4]) 1 (.bool p0.Back) S (wN rfl) rfl rfl rfl rfl rfl rfl (lb rfl) fun a S => ?_
  refine sField (b := b11) (off := 0) 0 0 S (wN rfl) rfl rfl rfl rfl rfl (lb rfl) fun a S => ?_
  refine sLoad1 (p := b11) (off := 0) (T := 87) (vs := [.bool p1.Back, .slice ad7 p1.Cells.length cp8]) 0 (.bool p1.Back) S (wN rfl) rfl rfl rfl rfl rfl rfl (lb rfl) fun a S => ?_
  refine sBin (.bool (p0.Back != p1.Back)) S (wN rfl) rfl rfl rfl (bNeB _ _ _ _ Try.underlying4 p0.Back p1.Back) rfl (lb rfl) fun a S => ?_
  refine leafL (leafT (hK33 _ _ ?_))
  rcases iteSome h with ⟨hc34, h⟩ | ⟨hc34, h⟩
  rotate_left
  · refine sCondF S rfl hc34 ?_
    exact wp_skip (leafT (⟨x25, Option.some.inj h, S.fix [] [] (by decide) rfl rfl rfl⟩))
  refine sCondT S rfl hc34 ?_
  refine sRegion ?_
  refine sMove (iv x25) S (wN rfl) (.inl rfl) rfl rfl (lb rfl) fun a S => ?_
  refine sBin (iv (w64 (x25 + 1))) S (wN rfl) rfl rfl rfl (bAdd _ _ _ _ x25 1) rfl (lb rfl) fun a S => ?_
  refine sMove (iv (w64 (x25 + 1))) S (wN rfl) (.inr rfl) rfl rfl (lb rfl) fun a S => ?_
  exact leafL (leafT (⟨w64 (x25 + 1), Option.some.inj h, S.fix [] [] (by decide) rfl rfl rfl⟩))

end Go.Proofs.Ytffikfajljbmnaa
namespace Go.Proofs.Ytffikfajljbmnaa
open Go.RowKit
set_option linter.unusedVariables false

def anc_compare_table_api_Row__s0_0 : List (List Nat) := [[], [], [0, 1], [0, 1, 2], [], [], [], [5, 6], [5, 6, 7], [], [9], [5, 6, 7, 8, 9, 10], [5, 6, 7, 8, 9, 10, 11], [], [], [], [14, 15], [14, 15, 16], [13, 14, 15, 16, 17], [5, 6, 7, 8, 9, 10, 11, 12, 13, 14, 15, 16, 17, 18], [0, 1, 2, 3, 4, 5, 6, 7, 8, 9, 10, 11, 12, 13, 14, 15, 16, 17, 18, 19], [0, 1, 2, 3, 4, 5, 6, 7, 8, 9, 10, 11, 12, 13, 14, 15, 16, 17, 18, 19, 20]]
def anc_compare_table_api_Row__s0_1 : List (List Nat) := [[], [], [0, 1], [0, 1, 2], [], [], [], [6], [5, 6, 7], [5, 6, 7, 8], [], [5, 6, 7, 8, 9, 10], [5, 6, 7, 8, 9, 10, 11], [], [], [], [14, 15], [14, 15, 16], [13, 14, 15, 16, 17], [5, 6, 7, 8, 9, 10, 11, 12, 13, 14, 15, 16, 17, 18], [0, 1, 2, 3, 4, 5, 6, 7, 8, 9, 10, 11, 12, 13, 14, 15, 16, 17, 18, 19], [0, 1, 2, 3, 4, 5, 6, 7, 8, 9, 10, 11, 12, 13, 14, 15, 16, 17, 18, 19, 20]]
def anc_compare_table_api_Row__s0_2 : List (List Nat) := [[], [], [0, 1], [0, 1, 2], [], [], [], [6], [5, 6, 7], [5, 6, 7, 8], [], [5, 6, 7, 8, 9, 10], [5, 6, 7, 8, 9, 10, 11], [], [], [], [14, 15], [14, 15, 16], [13, 14, 15, 16, 17], [5, 6, 7, 8, 9, 10, 11, 12, 13, 14, 15, 16, 17, 18], [], [], [20, 21], [20, 21, 22], [], [24], [20, 21, 22, 23, 24, 25], [20, 21, 22, 23, 24, 25, 26], [], [], [], [29, 30], [29, 30, 31], [13, 14, 15, 16, 17, 18, 28, 29, 30, 31, 32], [13, 14, 15, 16, 17, 18, 20, 21, 22, 23, 24, 25, 26, 27, 28, 29, 30, 31, 32, 33], [], [], [36], [35, 36, 37], [35, 36, 37, 38], [], [40], [35, 36, 37, 38, 39, 40, 41], [35, 36, 37, 38, 39, 40, 41, 42], [], [], [], [45, 46], [45, 46, 47], [], [], [49, 50], [49, 50, 51], [13, 14, 15, 16, 17, 18, 28, 29, 30, 31, 32, 33, 44, 45, 46, 47, 48, 49, 50, 51, 52], [13, 14, 15, 16, 17, 18, 28, 29, 30, 31, 32, 33, 35, 36, 37, 38, 39, 40, 41, 42, 43, 44, 45, 46, 47, 48, 49, 50, 51, 52, 53], [5, 6, 7, 8, 9, 10, 11, 12, 13, 14, 15, 16, 17, 18, 19, 20, 21, 22, 23, 24, 25, 26, 27, 28, 29, 30, 31, 32, 33, 34, 35, 36, 37, 38, 39, 40, 41, 42, 43, 44, 45, 46, 47, 48, 49, 50, 51, 52, 53, 54], [0, 1, 2, 3, 4, 5, 6, 7, 8, 9, 10, 11, 12, 13, 14, 15, 16, 17, 18, 19, 20, 21, 22, 23, 24, 25, 26, 27, 28, 29, 30, 31, 32, 33, 34, 35, 36, 37, 38, 39, 40, 41, 42, 43, 44, 45, 46, 47, 48, 49, 50, 51, 52, 53, 54, 55], [0, 1, 2, 3, 4, 5, 6, 7, 8, 9, 10, 11, 12, 13, 14, 15, 16, 17, 18, 19, 20, 21, 22, 23, 24, 25, 26, 27, 28, 29, 30, 31, 32, 33, 34, 35, 36, 37, 38, 39, 40, 41, 42, 43, 44, 45, 46, 47, 48, 49, 50, 51, 52, 53, 54, 55, 56]]
noncomputable def compare_table_api_Row__s0_l1 (s16 : Int) (p0 : (List api_Row)) (p1 : (List api_Row)) (s15 : List (List Int)) : (Int × List Int) → Option ((Int × List Int) ⊕ List Int) := fun s0 => match s0 with
  | (s40, s41) =>
    if decide (0 ≤ s40) then
      Option.bind (α := List Int) (
        Option.bind (α := Bool) (
          if s16 == (p0.length : Int) then
            some (s40 == (p1.length : Int))
          else
            some false) fun o52 =>
        if o52 then
          some s41
        else
          if s16 == (p0.length : Int) then
            Option.bind (idxO s41 (w64 (s40 + 1))) fun x65 =>
            Option.bind (idxO p1 s40) fun x70 =>
            Option.bind (F_compare_Charts_1 x70) fun r79 =>
            Option.bind (idxO s41 s40) fun x81 =>
            Option.bind (setO s41 s40 (w64 (x65 + r79))) fun l86 =>
            some l86
          else
            if s40 == (p1.length : Int) then
              Option.bind (idxO s15 (w64 (s16 + 1))) fun x112 =>
              Option.bind (idxO x112 s40) fun x120 =>
              Option.bind (idxO p0 s16) fun x125 =>
              Option.bind (F_compare_Charts_1 x125) fun r134 =>
              Option.bind (idxO s41 s40) fun x136 =>
              Option.bind (setO s41 s40 (w64 (x120 + r134))) fun l141 =>
              some l141
            else
              Option.bind (idxO s15 (w64 (s16 + 1))) fun x168 =>
              Option.bind (idxO x168 s40) fun x176 =>
              Option.bind (idxO p0 s16) fun x181 =>
              Option.bind (F_compare_Charts_1 x181) fun r190 =>
              Option.bind (idxO s41 (w64 (s40 + 1))) fun x195 =>
              Option.bind (idxO p1 s40) fun x200 =>
              Option.bind (F_compare_Charts_1 x200) fun r209 =>
              Option.bind (idxO x168 (w64 (s40 + 1))) fun x217 =>
              Option.bind (F_compare_Charts_2 x181 x200) fun r236 =>
              Option.bind (idxO s41 s40) fun x238 =>
              Option.bind (setO s41 s40 (min3 (w64 (x176 + r190)) (w64 (x195 + r209)) (w64 (x217 + r236)))) fun l243 =>
              some l243) fun o49 =>
      some (.inl (w64 (s40 - 1), o49))
    else
      some (.inr s41)
noncomputable def compare_table_api_Row__s0_l2 (p1 : (List api_Row)) (p0 : (List api_Row)) : (List (List Int) × Int) → Option ((List (List Int) × Int) ⊕ List (List Int)) := fun s0 => match s0 with
  | (s15, s16) =>
    if decide (0 ≤ s16) then
      Option.bind (α := List Int) (
        Option.bind (makeO (w64 ((p1.length : Int) + 1)) (0 : Int)) fun m32 =>
        Option.bind (idxO s15 s16) fun x34 =>
        Option.bind (whileO (compare_table_api_Row__s0_l1 s16 p0 p1 s15) ((p1.length : Int), m32)) fun e45 =>
          some e45) fun o24 =>
      some (.inl ((s15.set (s16).toNat o24), w64 (s16 - 1)))
    else
      some (.inr s15)
noncomputable def F_compare_table_api_Row__s0 (p0 : (List api_Row)) (p1 : (List api_Row)) : Option (List (List Int)) :=
  Option.bind (makeO (w64 ((p0.length : Int) + 1)) ([] : (List Int))) fun m9 =>
  Option.bind (α := List (List Int)) (
    Option.bind (whileO (compare_table_api_Row__s0_l2 p1 p0) (m9, (p0.length : Int))) fun e20 =>
      some e20) fun o11 =>
  some o11
def c_compare_table_api_Row__s0_val (r : (List (List Int))) (x : Value) : Value := x
def c_compare_table_api_Row__s0_D (r : (List (List Int))) (x : Value) : List Fact := [fRep (rL (rL (rI .i64))) x r]
set_option maxHeartbeats 4000000 in
set_option maxRecDepth 100000 in
theorem c_compare_table_api_Row__s0 (E : Nat → Prop) (w0 : World) (p0 : (List api_Row)) (v0 : Value) (p1 : (List api_Row)) (v1 : Value) (r : (List (List Int))) (h : F_compare_table_api_Row__s0 p0 p1 = some r) (S : St0 E [] w0 w0 [] [fRep (rL r_api_Row) (v0) p0, fRep (rL r_api_Row) (v1) p1]) :
    Calls Try.prog 51 #[v0, v1, .func (.func 52) #[] #[], .func (.func 53) #[] #[]] w0 (Ret (X := Value) E [] w0 (c_compare_table_api_Row__s0_val r) (fun _ => []) (c_compare_table_api_Row__s0_D r)) := by
  unfold F_compare_table_api_Row__s0 at h
  obtain ⟨ad1, cp2, _, rfl, _⟩ := S.know (i := 0) (e := fRep (rL r_api_Row) (v0) p0) rfl
  obtain ⟨ad3, cp4, _, rfl, _⟩ := S.know (i := 1) (e := fRep (rL r_api_Row) (v1) p1) rfl
  refine sEnter (args := [.slice ad1 p0.length cp2, .slice ad3 p1.length cp4, .func (.func 52) #[] #[], .func (.func 53) #[] #[]]) 156 Try.func51 rfl rfl (by simp) S (fun a S => ?_)
  refine sSeq (fun K5 hK5 => ?_)
  refine sRegion ?_
  refine sMove (.slice none 0 0) S (wN rfl) (.inr rfl) rfl rfl (lb rfl) fun a S => ?_
  refine leafL (leafT (hK5 _ _ ?_))
  refine sSeq (fun K6 hK6 => ?_)
  refine sRegion ?_
  refine sMove (.slice ad1 p0.length cp2) S (wN rfl) (.inl rfl) rfl rfl (lb rfl) fun a S => ?_
  refine sLen (ad := ad1) (m := p0.length) (c := cp2) S (wN rfl) rfl Try.underlying40 rfl rfl (lb rfl) fun a S => ?_
  refine sBin (iv (w64 ((p0.length : Int) + 1))) S (wN rfl) rfl rfl rfl (bAdd _ _ _ _ (p0.length : Int) 1) rfl (lb rfl) fun a S => ?_
  obtain ⟨m9, hx10, h⟩ := bindSome h
  refine sMake (r := (rL (rI .i64))) (m := w64 ((p0.length : Int) + 1)) (xs := m9) (.slice none 0 0) ([] : (List Int)) 24 S (wN rfl) rfl Try.underlying98 rfl rfl (by decide) (fun E w => rL_nil _ E w) rfl rfl hx10 rfl (lb rfl) fun a w ad7 cp8 S => ?_
  refine sMove (.slice ad7 m9.length cp8) S (wN rfl) (.inr rfl) rfl rfl (lb rfl) fun a S => ?_
  refine leafL (leafT (hK6 _ _ ?_))
  obtain ⟨t12, h, g13⟩ := bindSome h
  refine sCut (fun a w => ∃ o11, o11 = t12 ∧ St [] E [] w0 156 a w [(9, .slice ad7 o11.length cp8)] [eRow (rL (rI .i64)) 101 (.slice ad7 o11.length cp8) o11] []) ?_ (fun a w hI => ?_)
  rotate_left
  · obtain ⟨o11, rfl, S⟩ := hI
    have h := g13
    clear g13
    try dsimp only at h
    refine sSeq (fun K318 hK318 => ?_)
    refine sRegion ?_
    refine sMove (.slice ad7 o11.length cp8) S (wN rfl) (.inl rfl) rfl rfl (lb rfl) fun a S => ?_
    refine sMove (.slice ad7 o11.length cp8) S (wN rfl) (.inr rfl) rfl rfl (lb rfl) fun a S => ?_
    refine leafL (leafT (hK318 _ _ ?_))
    obtain rfl := Option.some.inj h
    have S := S.shutR (r := (rL (rI .i64))) (T := 101) (v := .slice ad7 o11.length cp8) (xs := o11) 0 rfl
    exact wp_ret (sRet (.slice ad7 o11.length cp8) S (rsl1 rfl (rvT (t := 8) (v := .slice ad7 o11.length cp8) S rfl)) ⟨(.slice ad7 o11.length cp8), rfl, S.mem.sel [] [0] (by decide) rfl rfl⟩)
  refine sSeq (fun K14 hK14 => ?_)
  refine sRegion ?_
  refine sMove (.slice ad1 p0.length cp2) S (wN rfl) (.inl rfl) rfl rfl (lb rfl) fun a S => ?_
  refine sLen (ad := ad1) (m := p0.length) (c := cp2) S (wN rfl) rfl Try.underlying40 rfl rfl (lb rfl) fun a S => ?_
  refine sMove (iv (p0.length : Int)) S (wN rfl) (.inr rfl) rfl rfl (lb rfl) fun a S => ?_
  refine leafL (leafT (hK14 _ _ ?_))
  refine wp_block ?_
  obtain ⟨t19, hl, g18⟩ := bindSome h
  refine sLoop hl (fun s0 a w => match s0 with | (s15, s16) => St [] E [] w0 156 a w [(0, .slice ad1 p0.length cp2), (1, .slice ad3 p1.length cp4), (2, .func (.func 52) #[] #[]), (3, .func (.func 53) #[] #[]), (9, .slice ad7 s15.length cp8), (10, iv s16)] [eRow (rL (rI .i64)) 101 (.slice ad7 s15.length cp8) s15] [fRep (rL r_api_Row) (.slice ad1 p0.length cp2) p0, fRep (rL r_api_Row) (.slice ad3 p1.length cp4) p1]) (S.fix [0] [0, 1] (by decide) rfl rfl rfl) ?_
  clear hl h
  intro s0 a w c0 hI h hu17
  obtain ⟨s15, s16⟩ := s0
  unfold compare_table_api_Row__s0_l2 at h
  dsimp only at h hI
  have S := hI
  refine sSeq (fun K21 hK21 => ?_)
  refine sSeq (fun K22 hK22 => ?_)
  refine sRegion ?_
  refine sMove (iv s16) S (wN rfl) (.inl rfl) rfl rfl (lb rfl) fun a S => ?_
  refine sBin (.bool (decide (0 ≤ s16))) S (wN rfl) rfl rfl rfl (bGe _ _ _ _ .i64 s16 0) rfl (lb rfl) fun a S => ?_
  refine leafL (leafT (hK22 _ _ ?_))
  rcases iteSome h with ⟨hc23, h⟩ | ⟨hc23, h⟩
  rotate_left
  · refine sCondF S rfl hc23 ?_
    obtain rfl := Option.some.inj h
    obtain rfl := hu17 _ rfl
    have h := g18
    clear g18
    try dsimp only at h
    exact wp_exit (xThen (xThen (xHit (leafT (⟨s15, Option.some.inj h, S.fix [0] [] (by decide) rfl rfl rfl⟩)))))
  refine sCondT S rfl hc23 ?_
  refine wp_skip (leafT (hK21 _ _ ?_))
  obtain ⟨t27, h, g28⟩ := bindSome h
  refine sCut (fun a w => ∃ o24, o24 = t27 ∧ ∃ ad25, ∃ cp26, St [] E [] w0 156 a w [(0, .slice ad1 p0.length cp2), (1, .slice ad3 p1.length cp4), (2, .func (.func 52) #[] #[]), (3, .func (.func 53) #[] #[]), (9, .slice ad7 s15.length cp8), (10, iv s16)] [eHole (rL (rI .i64)) 101 (.slice ad7 s15.length cp8) s15 ((s16).toNat * (rL (rI .i64)).sz + 0) (.slice ad25 o24.length cp26), eRow (rI .i64) 3 (.slice ad25 o24.length cp26) o24] [fRep (rL r_api_Row) (.slice ad1 p0.length cp2) p0, fRep (rL r_api_Row) (.slice ad3 p1.length cp4) p1]) ?_ (fun a w hI => ?_)
  rotate_left
  · obtain ⟨o24, rfl, ad25, cp26, S⟩ := hI
    have h := g28
    clear g28
    try dsimp only at h
    refine sRegion ?_
    refine sMove (iv s16) S (wN rfl) (.inl rfl) rfl rfl (lb rfl) fun a S => ?_
    refine sBin (iv (w64 (s16 - 1))) S (wN rfl) rfl rfl rfl (bSub _ _ _ _ s16 1) rfl (lb rfl) fun a S => ?_
    refine sMove (iv (w64 (s16 - 1))) S (wN rfl) (.inr rfl) rfl rfl (lb rfl) fun a S => ?_
    have S := S.shutR (r := (rI .i64)) (T := 3) (v := .slice ad25 o24.length cp26) (xs := o24) 1 rfl
    have S := S.closeHN (r := (rL (rI .i64))) (T := 101) (xs := s15) (y := o24) (v := .slice ad7 s15.length cp8) (u := .slice ad25 o24.length cp26) (j := s16) 0 rfl (S.mem.know (i := 0) (e := fRep (rL (rI .i64)) (.slice ad25 o24.length cp26) o24) rfl) rfl (scal_L _)
    rw [set_v s15 (s16).toNat o24 ad7 cp8] at S
    exact leafL (leafT (⟨((s15.set (s16).toNat o24), w64 (s16 - 1)), (Option.some.inj h).symm, (S.fix [0] [1, 2] (by decide) rfl rfl rfl)⟩))
  refine wp_block ?_
  refine sSeq (fun K29 hK29 => ?_)
  refine sRegion ?_
  refine sMove (.slice ad7 s15.length cp8) S (wN rfl) (.inl rfl) rfl rfl (lb rfl) fun a S => ?_
  refine sMove (iv s16) S (wN rfl) (.inl rfl) rfl rfl (lb rfl) fun a S => ?_
  refine sMove (.slice ad3 p1.length cp4) S (wN rfl) (.inl rfl) rfl rfl (lb rfl) fun a S => ?_
  refine sLen (ad := ad3) (m := p1.length) (c := cp4) S (wN rfl) rfl Try.underlying40 rfl rfl (lb rfl) fun a S => ?_
  refine sBin (iv (w64 ((p1.length : Int) + 1))) S (wN rfl) rfl rfl rfl (bAdd _ _ _ _ (p1.length : Int) 1) rfl (lb rfl) fun a S => ?_
  obtain ⟨m32, hx33, h⟩ := bindSome h
  refine sMake (r := (rI .i64)) (m := w64 ((p1.length : Int) + 1)) (xs := m32) (iv 0) (0 : Int) 8 S (wN rfl) rfl Try.underlying101 rfl rfl (by decide) (fun _ _ => rfl) rfl rfl hx33 rfl (lb rfl) fun a w ad30 cp31 S => ?_
  obtain ⟨x34, hx35, h⟩ := bindSome h
  obtain ⟨q36, hq37, hp38⟩ := pIdxR (P := Try.prog) (r := (rL (rI .i64))) (T := 101) (v := .slice ad7 s15.length cp8) (xs := s15) (j := s16) 98 101 1 S Try.underlying98 rfl rfl hx35
  refine sIdxV (v := .slice ad7 s15.length cp8) (k := .i64) (j := s16) S (wN rfl) rfl rfl rfl hq37 rfl (lb rfl) fun a S => ?_
  refine sStoreHE (r := (rL (rI .i64))) (T := 101) (xs := s15) (x := x34) (v := .slice ad7 s15.length cp8) (vq := q36) (u := .slice ad30 m32.length cp31) (j := s16) 1 S hp38 (wN rfl) rfl rfl rfl rfl hx35 rfl rfl rfl rfl fun a w S => ?_
  refine leafL (leafT (hK29 _ _ ?_))
  refine sSeq (fun K39 hK39 => ?_)
  refine sRegion ?_
  refine sMove (.slice ad3 p1.length cp4) S (wN rfl) (.inl rfl) rfl rfl (lb rfl) fun a S => ?_
  refine sLen (ad := ad3) (m := p1.length) (c := cp4) S (wN rfl) rfl Try.underlying40 rfl rfl (lb rfl) fun a S => ?_
  refine sMove (iv (p1.length : Int)) S (wN rfl) (.inr rfl) rfl rfl (lb rfl) fun a S => ?_
  refine leafL (leafT (hK39 _ _ ?_))
  refine wp_block ?_
  obtain ⟨t44, hl, g43⟩ := bindSome h
  refine sLoop hl (fun s0 a w => match s0 with | (s40, s41) => St [] E [] w0 156 a w [(0, .slice ad1 p0.length cp2), (1, .slice ad3 p1.length cp4), (2, .func (.func 52) #[] #[]), (3, .func (.func 53) #[] #[]), (9, .slice ad7 s15.length cp8), (10, iv s16), (11, iv s40)] [eHole (rL (rI .i64)) 101 (.slice ad7 s15.length cp8) s15 ((s16).toNat * (rL (rI .i64)).sz + 0) (.slice ad30 s41.length cp31), eRow (rI .i64) 3 (.slice ad30 s41.length cp31) s41] [fRep (rL r_api_Row) (.slice ad1 p0.length cp2) p0, fRep (rL r_api_Row) (.slice ad3 p1.length cp4) p1]) (S.fix [0, 1] [0, 1] (by decide) rfl rfl rfl) ?_
  clear hl h
  intro s0 a w c0 hI h hu42
  obtain ⟨s40, s41⟩ := s0
  unfold compare_table_api_Row__s0_l1 at h
  dsimp only at h hI
  have S := hI
  refine sSeq (fun K46 hK46 => ?_)
  refine sSeq (fun K47 hK47 => ?_)
  refine sRegion ?_
  refine sMove (iv s40) S (wN rfl) (.inl rfl) rfl rfl (lb rfl) fun a S => ?_
  refine sBin (.bool (decide (0 ≤ s40))) S (wN rfl) rfl rfl rfl (bGe _ _ _ _ .i64 s40 0) rfl (lb rfl) fun a S => ?_
  refine leafL (leafT (hK47 _ _ ?_))
  rcases iteSome h with ⟨hc48, h⟩ | ⟨hc48, h⟩
  rotate_left
  · refine sCondF S rfl hc48 ?_
    obtain rfl := Option.some.inj h
    obtain rfl := hu42 _ rfl
    have h := g43
    clear g43
    try dsimp only at h
    exact wp_exit (xThen (xThen (xHit (leafB (leafT (⟨s41, Option.some.inj h, ad30, cp31, S.fix [0, 1] [0, 1] (by decide) rfl rfl rfl⟩))))))
  refine sCondT S rfl hc48 ?_
  refine wp_skip (leafT (hK46 _ _ ?_))
  obtain ⟨t50, h, g51⟩ := bindSome h
  refine sCut (fun a w => ∃ o49, o49 = t50 ∧ St [] E [] w0 156 a w [(0, .slice ad1 p0.length cp2), (1, .slice ad3 p1.length cp4), (2, .func (.func 52) #[] #[]), (3, .func (.func 53) #[] #[]), (9, .slice ad7 s15.length cp8), (10, iv s16), (11, iv s40)] [eHole (rL (rI .i64)) 101 (.slice ad7 s15.length cp8) s15 ((s16).toNat * (rL (rI .i64)).sz + 0) (.slice ad30 o49.length cp31), eRow (rI .i64) 3 (.slice ad30 o49.length cp31) o49] [fRep (rL r_api_Row) (.slice ad1 p0.length cp2) p0, fRep (rL r_api_Row) (.slice ad3 p1.length cp4) p1]) ?_ (fun a w hI => ?_)
  rotate_left
  · obtain ⟨o49, rfl, S⟩ := hI
    have h := g51
    clear g51
    try dsimp only at h
    refine sRegion ?_
    refine sMove (iv s40) S (wN rfl) (.inl rfl) rfl rfl (lb rfl) fun a S => ?_
    refine sBin (iv (w64 (s40 - 1))) S (wN rfl) rfl rfl rfl (bSub _ _ _ _ s40 1) rfl (lb rfl) fun a S => ?_
    refine sMove (iv (w64 (s40 - 1))) S (wN rfl) (.inr rfl) rfl rfl (lb rfl) fun a S => ?_
    exact leafL (leafT (⟨(w64 (s40 - 1), o49), (Option.some.inj h).symm, (S.fix [0, 1] [0, 1] (by decide) rfl rfl rfl)⟩))
  refine wp_block ?_
  refine wp_block ?_
  obtain ⟨t53, h, g54⟩ := bindSome h
  refine sCut (fun a w => ∃ o52, o52 = t53 ∧ St [] E [] w0 156 a w [(0, .slice ad1 p0.length cp2), (1, .slice ad3 p1.length cp4), (2, .func (.func 52) #[] #[]), (3, .func (.func 53) #[] #[]), (9, .slice ad7 s15.length cp8), (10, iv s16), (11, iv s40), (92, .bool o52)] [eHole (rL (rI .i64)) 101 (.slice ad7 s15.length cp8) s15 ((s16).toNat * (rL (rI .i64)).sz + 0) (.slice ad30 s41.length cp31), eRow (rI .i64) 3 (.slice ad30 s41.length cp31) s41] [fRep (rL r_api_Row) (.slice ad1 p0.length cp2) p0, fRep (rL r_api_Row) (.slice ad3 p1.length cp4) p1]) ?_ (fun a w hI => ?_)
  · refine sRegion ?_
    refine sMove (iv s16) S (wN rfl) (.inl rfl) rfl rfl (lb rfl) fun a S => ?_
    refine sMove (.slice ad1 p0.length cp2) S (wN rfl) (.inl rfl) rfl rfl (lb rfl) fun a S => ?_
    refine sLen (ad := ad1) (m := p0.length) (c := cp2) S (wN rfl) rfl Try.underlying40 rfl rfl (lb rfl) fun a S => ?_
    refine sBin (.bool (s16 == (p0.length : Int))) S (wN rfl) rfl rfl rfl (bEq _ _ _ _ .i64 s16 (p0.length : Int)) rfl (lb rfl) fun a S => ?_
    refine sMove (.bool (s16 == (p0.length : Int))) S (wN rfl) (.inl rfl) rfl rfl (lb rfl) fun a S => ?_
    rcases iteSome h with ⟨hc55, h⟩ | ⟨hc55, h⟩
    rotate_left
    · refine sSkip 4 true 97 98 S rfl rfl rfl hc55 rfl (lb rfl) fun a S => ?_
      refine sSkip 4 true 97 99 S rfl rfl rfl hc55 rfl (lb rfl) fun a S => ?_
      refine sSkip 4 true 97 100 S rfl rfl rfl hc55 rfl (lb rfl) fun a S => ?_
      refine sSkip 4 true 97 101 S rfl rfl rfl hc55 rfl (lb rfl) fun a S => ?_
      refine sPickF (.bool false) S (wN rfl) rfl rfl hc55 rfl rfl (lb rfl) fun a S => ?_
      refine sMove (.bool false) S (wN rfl) (.inr rfl) rfl rfl (lb rfl) fun a S => ?_
      exact leafL (leafT (⟨false, Option.some.inj h, S.fix [0, 1] [0, 1] (by decide) rfl rfl rfl⟩))
    refine sMove (iv s40) S (wG 4 true 97 rfl rfl rfl hc55) (.inl rfl) rfl rfl (lb rfl) fun a S => ?_
    refine sMove (.slice ad3 p1.length cp4) S (wG 4 true 97 rfl rfl rfl hc55) (.inl rfl) rfl rfl (lb rfl) fun a S => ?_
    refine sLen (ad := ad3) (m := p1.length) (c := cp4) S (wG 4 true 97 rfl rfl rfl hc55) rfl Try.underlying40 rfl rfl (lb rfl) fun a S => ?_
    refine sBin (.bool (s40 == (p1.length : Int))) S (wG 4 true 97 rfl rfl rfl hc55) rfl rfl rfl (bEq _ _ _ _ .i64 s40 (p1.length : Int)) rfl (lb rfl) fun a S => ?_
    refine sPickT (.bool (s40 == (p1.length : Int))) S (wN rfl) rfl rfl hc55 rfl rfl (lb rfl) fun a S => ?_
    refine sMove (.bool (s40 == (p1.length : Int))) S (wN rfl) (.inr rfl) rfl rfl (lb rfl) fun a S => ?_
    exact leafL (leafT (⟨s40 == (p1.length : Int), Option.some.inj h, S.fix [0, 1] [0, 1] (by decide) rfl rfl rfl⟩))
  obtain ⟨o52, rfl, S⟩ := hI
  have h := g54
  clear g54
  try dsimp only at h
  rcases iteSome h with ⟨hc56, h⟩ | ⟨hc56, h⟩
  · refine sCondT S rfl hc56 ?_
    exact wp_skip (leafB (leafB (leafT (⟨s41, Option.some.inj h, S.fix [0, 1] [0, 1] (by decide) rfl rfl rfl⟩))))
  refine sCondF S rfl hc56 ?_
  refine sSeq (fun K57 hK57 => ?_)
  refine sRegion ?_
  refine sMove (iv s16) S (wN rfl) (.inl rfl) rfl rfl (lb rfl) fun a S => ?_
  refine sMove (.slice ad1 p0.length cp2) S (wN rfl) (.inl rfl) rfl rfl (lb rfl) fun a S => ?_
  refine sLen (ad := ad1) (m := p0.length) (c := cp2) S (wN rfl) rfl Try.underlying40 rfl rfl (lb rfl) fun a S => ?_
  refine sBin (.bool (s16 == (p0.length : Int))) S (wN rfl) rfl rfl rfl (bEq _ _ _ _ .i64 s16 (p0.length : Int)) rfl (lb rfl) fun a S => ?_
  refine sMove (.bool (s16 == (p0.length : Int))) S (wN rfl) (.inr rfl) rfl rfl (lb rfl) fun a S => ?_
  refine leafL (leafT (hK57 _ _ ?_))
  rcases iteSome h with ⟨hc58, h⟩ | ⟨hc58, h⟩
  · refine sCondT S rfl hc58 ?_
    obtain ⟨x65, hx66, h⟩ := bindSome h
    obtain ⟨x70, hx71, h⟩ := bindSome h
    obtain ⟨r79, hx80, h⟩ := bindSome h
    obtain ⟨x81, hx82, h⟩ := bindSome h
    obtain ⟨l86, hx87, h⟩ := bindSome h
    obtain ⟨q88, hq89, hp90⟩ := pIdxH (P := Try.prog) (r := (rL (rI .i64))) (T := 101) (v := .slice ad7 s15.length cp8) (xs := s15) (j := s16) 98 101 0 S Try.underlying98 rfl rfl hx35
    obtain ⟨q91, hq92, hp93⟩ := pIdxH (P := Try.prog) (r := (rL (rI .i64))) (T := 101) (v := .slice ad7 s15.length cp8) (xs := s15) (j := s16) 98 101 0 S Try.underlying98 rfl rfl hx35
    obtain ⟨q94, hq95, hp96⟩ := pIdxR (P := Try.prog) (r := (rI .i64)) (T := 3) (v := .slice ad30 s41.length cp31) (xs := s41) (j := w64 (s40 + 1)) 101 3 1 S Try.underlying101 rfl rfl hx66
    obtain ⟨q97, hq98, S⟩ := pIdx (P := Try.prog) (r := r_api_Row) (v := .slice ad3 p1.length cp4) (xs := p1) (j := s40) 40 87 1 S Try.underlying40 rfl rfl hx71
    obtain ⟨u99, S⟩ := pLoad (r := r_api_Row) (q := q97) (x := x70) 0 S rfl
    obtain ⟨u100, rfl, hu101⟩ := S.mem.know (i := 1) (e := fRep r_api_Row (u99) x70) rfl
    have S := S.learn (fRep (rL r_api_Stitch) u100 x70.Cells) hu101
    obtain ⟨ad102, cp103, _, rfl, _⟩ := hu101
    obtain ⟨q104, hq105, hp106⟩ := pIdxR (P := Try.prog) (r := (rI .i64)) (T := 3) (v := .slice ad30 s41.length cp31) (xs := s41) (j := s40) 101 3 1 S Try.underlying101 rfl rfl hx82
    refine sDraw (nf := [21]) (W := [(0, 108, .slice ad7 s15.length cp8), (1, 109, iv s16), (2, 110, q88), (3, 111, .slice ad30 s41.length cp31), (4, 112, iv s40), (5, 113, .slice ad7 s15.length cp8), (6, 114, iv s16), (7, 115, q91), (8, 116, .slice ad30 s41.length cp31), (9, 117, iv s40), (10, 118, iv (w64 (s40 + 1))), (11, 119, q94), (12, 120, iv x65), (13, 121, .func (.func 52) #[] #[]), (14, 122, .slice ad3 p1.length cp4), (15, 123, iv s40), (16, 124, q97), (17, 125, .agg #[.bool x70.Back, .slice ad102 x70.Cells.length cp103]), (18, 126, iv r79), (19, 127, iv (w64 (x65 + r79))), (20, 128, q104)]) rfl S ?_
    refine node_by (A := anc_compare_table_api_Row__s0_0) (nf := [21]) (Y := []) (W := [(0, 108, .slice ad7 s15.length cp8), (1, 109, iv s16), (2, 110, q88), (3, 111, .slice ad30 s41.length cp31), (4, 112, iv s40), (5, 113, .slice ad7 s15.length cp8), (6, 114, iv s16), (7, 115, q91), (8, 116, .slice ad30 s41.length cp31), (9, 117, iv s40), (10, 118, iv (w64 (s40 + 1))), (11, 119, q94), (12, 120, iv x65), (13, 121, .func (.func 52) #[] #[]), (14, 122, .slice ad3 p1.length cp4), (15, 123, iv s40), (16, 124, q97), (17, 125, .agg #[.bool x70.Back, .slice ad102 x70.Cells.length cp103]), (18, 126, iv r79), (19, 127, iv (w64 (x65 + r79))), (20, 128, q104)]) 22 (by kernel_rfl) (by kernel_rfl) (by kernel_rfl) (by kernel_rfl) (by kernel_rfl) [0, 1, 2, 3, 4, 5, 6, 7, 8, 9, 10, 11, 12, 13, 14, 15, 16, 17, 18, 19, 20] (by kernel_rfl) (by decide) (by decide) (aF 0 21 (by decide) ?_ (aF 1 20 (by decide) ?_ (aF 2 19 (by decide) ?_ (aF 3 18 (by decide) ?_ (aF 4 17 (by decide) ?_ (aF 5 16 (by decide) ?_ (aF 6 15 (by decide) ?_ (aF 7 14 (by decide) ?_ (aF 8 13 (by decide) ?_ (aF 9 12 (by decide) ?_ (aF 10 11 (by decide) ?_ (aF 11 10 (by decide) ?_ (aF 12 9 (by decide) ?_ (aF 13 8 (by decide) ?_ (aF 14 7 (by decide) ?_ (aF 15 6 (by decide) ?_ (aF 16 5 (by decide) ?_ (aF 17 4 (by decide) ?_ (aF 18 3 (by decide) ?_ (aF 19 2 (by decide) ?_ (aF 20 1 (by decide) ?_ (aN 21 0 (by decide) ?_ (trivial))))))))))))))))))))))) [] (fun q hq => by cases hq) (fun hY => absurd (hY 21 (by decide)) (by decide))
    · refine fI 108 (.slice ad7 s15.length cp8) [(9, .slice ad7 s15.length cp8)] 0 [none] rfl rfl rfl rfl rfl rfl fun G a w S => ?_
      refine sMove (.slice ad7 s15.length cp8) S (wN rfl) (.inl rfl) rfl rfl (lb rfl) fun a S => ?_
      exact leafL ⟨rfl, S⟩
    · refine fI 109 (iv s16) [(10, iv s16)] 1 [none] rfl rfl rfl rfl rfl rfl fun G a w S => ?_
      refine sMove (iv s16) S (wN rfl) (.inl rfl) rfl rfl (lb rfl) fun a S => ?_
      exact leafL ⟨rfl, S⟩
    · refine fI 110 q88 [(108, .slice ad7 s15.length cp8), (109, iv s16)] 2 [some 0, some 1] rfl rfl rfl rfl rfl rfl fun G a w S => ?_
      refine sIdxV (v := .slice ad7 s15.length cp8) (k := .i64) (j := s16) S (wN rfl) rfl rfl rfl hq89 rfl (lb rfl) fun a S => ?_
      exact leafL ⟨rfl, S⟩
    · refine fI 111 (.slice ad30 s41.length cp31) [(110, q88)] 3 [some 2] rfl rfl rfl rfl rfl rfl fun G a w S => ?_
      refine sLoadHE (r := (rL (rI .i64))) (T := 101) (xs := s15) (u := .slice ad30 s41.length cp31) (v := .slice ad7 s15.length cp8) (vq := q88) (j := s16) 0 S hp90 (wN rfl) rfl rfl rfl rfl rfl (lb rfl) fun a S => ?_
      exact leafL ⟨rfl, S⟩
    · refine fI 112 (iv s40) [(11, iv s40)] 4 [none] rfl rfl rfl rfl rfl rfl fun G a w S => ?_
      refine sMove (iv s40) S (wN rfl) (.inl rfl) rfl rfl (lb rfl) fun a S => ?_
      exact leafL ⟨rfl, S⟩
    · refine fI 113 (.slice ad7 s15.length cp8) [(9, .slice ad7 s15.length cp8)] 5 [none] rfl rfl rfl rfl rfl rfl fun G a w S => ?_
      refine sMove (.slice ad7 s15.length cp8) S (wN rfl) (.inl rfl) rfl rfl (lb rfl) fun a S => ?_
      exact leafL ⟨rfl, S⟩
    · refine fI 114 (iv s16) [(10, iv s16)] 6 [none] rfl rfl rfl rfl rfl rfl fun G a w S => ?_
      refine sMove (iv s16) S (wN rfl) (.inl rfl) rfl rfl (lb rfl) fun a S => ?_
      exact leafL ⟨rfl, S⟩
    · refine fI 115 q91 [(113, .slice ad7 s15.length cp8), (114, iv s16)] 7 [some 5, some 6] rfl rfl rfl rfl rfl rfl fun G a w S => ?_
      refine sIdxV (v := .slice ad7 s15.length cp8) (k := .i64) (j := s16) S (wN rfl) rfl rfl rfl hq92 rfl (lb rfl) fun a S => ?_
      exact leafL ⟨rfl, S⟩
    · refine fI 116 (.slice ad30 s41.length cp31) [(115, q91)] 8 [some 7] rfl rfl rfl rfl rfl rfl fun G a w S => ?_
      refine sLoadHE (r := (rL (rI .i64))) (T := 101) (xs := s15) (u := .slice ad30 s41.length cp31) (v := .slice ad7 s15.length cp8) (vq := q91) (j := s16) 0 S hp93 (wN rfl) rfl rfl rfl rfl rfl (lb rfl) fun a S => ?_
      exact leafL ⟨rfl, S⟩
    · refine fI 117 (iv s40) [(11, iv s40)] 9 [none] rfl rfl rfl rfl rfl rfl fun G a w S => ?_
      refine sMove (iv s40) S (wN rfl) (.inl rfl) rfl rfl (lb rfl) fun a S => ?_
      exact leafL ⟨rfl, S⟩
    · refine fI 118 (iv (w64 (s40 + 1))) [(117, iv s40)] 10 [some 9] rfl rfl rfl rfl rfl rfl fun G a w S => ?_
      refine sBin (iv (w64 (s40 + 1))) S (wN rfl) rfl rfl rfl (bAdd _ _ _ _ s40 1) rfl (lb rfl) fun a S => ?_
      exact leafL ⟨rfl, S⟩
    · refine fI 119 q94 [(116, .slice ad30 s41.length cp31), (118, iv (w64 (s40 + 1)))] 11 [some 8, some 10] rfl rfl rfl rfl rfl rfl fun G a w S => ?_
      refine sIdxV (v := .slice ad30 s41.length cp31) (k := .i64) (j := w64 (s40 + 1)) S (wN rfl) rfl rfl rfl hq95 rfl (lb rfl) fun a S => ?_
      exact leafL ⟨rfl, S⟩
    · refine fI 120 (iv x65) [(119, q94)] 12 [some 11] rfl rfl rfl rfl rfl rfl fun G a w S => ?_
      refine sLoadR (r := (rI .i64)) (T := 3) (xs := s41) (x := x65) (v := .slice ad30 s41.length cp31) (vq := q94) (j := w64 (s40 + 1)) 1 (iv x65) S hp96 (wN rfl) rfl rfl rfl hx66 (fun _ _ _ h => h) (scal_I _) rfl rfl (lb rfl) fun a S => ?_
      exact leafL ⟨rfl, S⟩
    · refine fI 121 (.func (.func 52) #[] #[]) [(2, .func (.func 52) #[] #[])] 13 [none] rfl rfl rfl rfl rfl rfl fun G a w S => ?_
      refine sMove (.func (.func 52) #[] #[]) S (wN rfl) (.inl rfl) rfl rfl (lb rfl) fun a S => ?_
      exact leafL ⟨rfl, S⟩
    · refine fI 122 (.slice ad3 p1.length cp4) [(1, .slice ad3 p1.length cp4)] 14 [none] rfl rfl rfl rfl rfl rfl fun G a w S => ?_
      refine sMove (.slice ad3 p1.length cp4) S (wN rfl) (.inl rfl) rfl rfl (lb rfl) fun a S => ?_
      exact leafL ⟨rfl, S⟩
    · refine fI 123 (iv s40) [(11, iv s40)] 15 [none] rfl rfl rfl rfl rfl rfl fun G a w S => ?_
      refine sMove (iv s40) S (wN rfl) (.inl rfl) rfl rfl (lb rfl) fun a S => ?_
      exact leafL ⟨rfl, S⟩
    · refine fI 124 q97 [(122, .slice ad3 p1.length cp4), (123, iv s40)] 16 [some 14, some 15] rfl rfl rfl rfl rfl rfl fun G a w S => ?_
      refine sIdxV (v := .slice ad3 p1.length cp4) (k := .i64) (j := s40) S (wN rfl) rfl rfl rfl hq98 rfl (lb rfl) fun a S => ?_
      exact leafL ⟨rfl, S⟩
    · refine fI 125 (.agg #[.bool x70.Back, .slice ad102 x70.Cells.length cp103]) [(124, q97)] 17 [some 16] rfl rfl rfl rfl rfl rfl fun G a w S => ?_
      refine sLoadVN (vq := q97) 1 [.bool x70.Back, .slice ad102 x70.Cells.length cp103] S (wN rfl) rfl rfl rfl rfl rfl rfl (lb rfl) fun a S => ?_
      exact leafL ⟨rfl, S⟩
    · refine fI 126 (iv r79) [(121, .func (.func 52) #[] #[]), (125, .agg #[.bool x70.Back, .slice ad102 x70.Cells.length cp103])] 18 [some 13, some 17] rfl rfl rfl rfl rfl rfl fun G a w S => ?_
      have S1 := S.mem
      refine sCallVQ (X := Unit) (g := 52) (vs := [.agg #[.bool x70.Back, .slice ad102 x70.Cells.length cp103]]) (caps := []) (val := fun _ => iv r79) S (wN rfl) rfl rfl callee52 rfl (S1.quiet [2] rfl) (fun E1 w1 S1 => c_compare_Charts_1 E1 w1 x70 (.agg #[.bool x70.Back, .slice ad102 x70.Cells.length cp103]) r79 hx80 S1) rfl (lb rfl) fun _ a w S => ?_
      exact leafL ⟨rfl, S⟩
    · refine fI 127 (iv (w64 (x65 + r79))) [(120, iv x65), (126, iv r79)] 19 [some 12, some 18] rfl rfl rfl rfl rfl rfl fun G a w S => ?_
      refine sBin (iv (w64 (x65 + r79))) S (wN rfl) rfl rfl rfl (bAdd _ _ _ _ x65 r79) rfl (lb rfl) fun a S => ?_
      exact leafL ⟨rfl, S⟩
    · refine fI 128 q104 [(111, .slice ad30 s41.length cp31), (112, iv s40)] 20 [some 3, some 4] rfl rfl rfl rfl rfl rfl fun G a w S => ?_
      refine sIdxV (v := .slice ad30 s41.length cp31) (k := .i64) (j := s40) S (wN rfl) rfl rfl rfl hq105 rfl (lb rfl) fun a S => ?_
      exact leafL ⟨rfl, S⟩
    refine ⟨_, [(127, iv (w64 (x65 + r79))), (128, q104)], rfl, (srcs_of [some 19, some 20] rfl rfl rfl), fun G a w S => ?_⟩
    refine sStoreR (r := (rI .i64)) (T := 3) (xs := s41) (ys := l86) (y := (w64 (x65 + r79))) (v := .slice ad30 s41.length cp31) (vq := q104) (u := iv (w64 (x65 + r79))) (j := s40) 1 S hp106 (wN rfl) rfl rfl rfl rfl rfl hx87 rfl rfl fun a w S => ?_
    refine leafL ⟨rfl, _, _, .inr ⟨[], rfl, S, hz_of rfl, ?_⟩⟩
    refine node_by (A := anc_compare_table_api_Row__s0_0) (nf := [21]) (Y := [21]) 22 (by kernel_rfl) (by kernel_rfl) (by kernel_rfl) (by kernel_rfl) (by kernel_rfl) [0, 1, 2, 3, 4, 5, 6, 7, 8, 9, 10, 11, 12, 13, 14, 15, 16, 17, 18, 19, 20] (by kernel_rfl) (by decide) (by decide) (aD 0 21 21 (by decide) (aD 1 20 21 (by decide) (aD 2 19 21 (by decide) (aD 3 18 21 (by decide) (aD 4 17 21 (by decide) (aD 5 16 21 (by decide) (aD 6 15 21 (by decide) (aD 7 14 21 (by decide) (aD 8 13 21 (by decide) (aD 9 12 21 (by decide) (aD 10 11 21 (by decide) (aD 11 10 21 (by decide) (aD 12 9 21 (by decide) (aD 13 8 21 (by decide) (aD 14 7 21 (by decide) (aD 15 6 21 (by decide) (aD 16 5 21 (by decide) (aD 17 4 21 (by decide) (aD 18 3 21 (by decide) (aD 19 2 21 (by decide) (aD 20 1 21 (by decide) (aY 21 0 (by decide) (trivial))))))))))))))))))))))) [(0, .slice ad1 p0.length cp2), (1, .slice ad3 p1.length cp4), (2, .func (.func 52) #[] #[]), (3, .func (.func 53) #[] #[]), (9, .slice ad7 s15.length cp8), (10, iv s16), (11, iv s40)] (fin_of [none, none, none, none, none, none, none] rfl (by kernel_rfl) (by kernel_rfl)) (fun _ a w S => ?_)
    rw [setO_v hx87 ad30 cp31] at S
    exact leafB (leafB (leafT (⟨l86, Option.some.inj h, S.fix [1, 0] [4, 5] (by decide) rfl rfl rfl⟩)))
  refine sCondF S rfl hc58 ?_
  refine sSeq (fun K107 hK107 => ?_)
  refine sRegion ?_
  refine sMove (iv s40) S (wN rfl) (.inl rfl) rfl rfl (lb rfl) fun a S => ?_
  refine sMove (.slice ad3 p1.length cp4) S (wN rfl) (.inl rfl) rfl rfl (lb rfl) fun a S => ?_
  refine sLen (ad := ad3) (m := p1.length) (c := cp4) S (wN rfl) rfl Try.underlying40 rfl rfl (lb rfl) fun a S => ?_
  refine sBin (.bool (s40 == (p1.length : Int))) S (wN rfl) rfl rfl rfl (bEq _ _ _ _ .i64 s40 (p1.length : Int)) rfl (lb rfl) fun a S => ?_
  refine sMove (.bool (s40 == (p1.length : Int))) S (wN rfl) (.inr rfl) rfl rfl (lb rfl) fun a S => ?_
  refine leafL (leafT (hK107 _ _ ?_))
  rcases iteSome h with ⟨hc108, h⟩ | ⟨hc108, h⟩
  · refine sCondT S rfl hc108 ?_
    obtain ⟨x112, hx113, h⟩ := bindSome h
    obtain ⟨x120, hx121, h⟩ := bindSome h
    obtain ⟨x125, hx126, h⟩ := bindSome h
    obtain ⟨r134, hx135, h⟩ := bindSome h
    obtain ⟨x136, hx137, h⟩ := bindSome h
    obtain ⟨l141, hx142, h⟩ := bindSome h
    obtain ⟨q143, hq144, hp145⟩ := pIdxH (P := Try.prog) (r := (rL (rI .i64))) (T := 101) (v := .slice ad7 s15.length cp8) (xs := s15) (j := s16) 98 101 0 S Try.underlying98 rfl rfl hx35
    obtain ⟨q146, hq147, hp148⟩ := pIdxH (P := Try.prog) (r := (rL (rI .i64))) (T := 101) (v := .slice ad7 s15.length cp8) (xs := s15) (j := w64 (s16 + 1)) 98 101 0 S Try.underlying98 rfl rfl hx113
    obtain ⟨q149, hq150, S⟩ := pIdx (P := Try.prog) (r := r_api_Row) (v := .slice ad1 p0.length cp2) (xs := p0) (j := s16) 40 87 0 S Try.underlying40 rfl rfl hx126
    obtain ⟨u151, S⟩ := pLoad (r := r_api_Row) (q := q149) (x := x125) 0 S rfl
    obtain ⟨u152, rfl, hu153⟩ := S.mem.know (i := 1) (e := fRep r_api_Row (u151) x125) rfl
    have S := S.learn (fRep (rL r_api_Stitch) u152 x125.Cells) hu153
    obtain ⟨ad154, cp155, _, rfl, _⟩ := hu153
    refine sDraw (nf := [9, 21]) (W := [(0, 134, .slice ad7 s15.length cp8), (1, 135, iv s16), (2, 136, q143), (3, 137, .slice ad30 s41.length cp31), (4, 138, iv s40), (5, 139, .slice ad7 s15.length cp8), (6, 140, iv s16), (7, 141, iv (w64 (s16 + 1))), (8, 142, q146), (10, 144, iv s40), (13, 147, .func (.func 52) #[] #[]), (14, 148, .slice ad1 p0.length cp2), (15, 149, iv s16), (16, 150, q149), (17, 151, .agg #[.bool x125.Back, .slice ad154 x125.Cells.length cp155]), (18, 152, iv r134)]) rfl S ?_
    refine node_by (A := anc_compare_table_api_Row__s0_1) (nf := [9, 21]) (Y := []) (W := [(0, 134, .slice ad7 s15.length cp8), (1, 135, iv s16), (2, 136, q143), (3, 137, .slice ad30 s41.length cp31), (4, 138, iv s40), (5, 139, .slice ad7 s15.length cp8), (6, 140, iv s16), (7, 141, iv (w64 (s16 + 1))), (8, 142, q146), (10, 144, iv s40), (13, 147, .func (.func 52) #[] #[]), (14, 148, .slice ad1 p0.length cp2), (15, 149, iv s16), (16, 150, q149), (17, 151, .agg #[.bool x125.Back, .slice ad154 x125.Cells.length cp155]), (18, 152, iv r134)]) 22 (by kernel_rfl) (by kernel_rfl) (by kernel_rfl) (by kernel_rfl) (by kernel_rfl) [0, 1, 2, 3, 4, 5, 6, 7, 8, 10, 13, 14, 15, 16, 17, 18] (by kernel_rfl) (by decide) (by decide) (aF 0 21 (by decide) ?_ (aF 1 20 (by decide) ?_ (aF 2 19 (by decide) ?_ (aF 3 18 (by decide) ?_ (aF 4 17 (by decide) ?_ (aF 5 16 (by decide) ?_ (aF 6 15 (by decide) ?_ (aF 7 14 (by decide) ?_ (aF 8 13 (by decide) ?_ (aN 9 12 (by decide) ?_ (aF 10 11 (by decide) ?_ (aE 11 10 9 (by decide) (aE 12 9 9 (by decide) (aF 13 8 (by decide) ?_ (aF 14 7 (by decide) ?_ (aF 15 6 (by decide) ?_ (aF 16 5 (by decide) ?_ (aF 17 4 (by decide) ?_ (aF 18 3 (by decide) ?_ (aE 19 2 9 (by decide) (aE 20 1 9 (by decide) (aB 21 0 9 (by decide) (trivial))))))))))))))))))))))) [] (fun q hq => by cases hq) (fun hY => absurd (hY 9 (by decide)) (by decide))
    · refine fI 134 (.slice ad7 s15.length cp8) [(9, .slice ad7 s15.length cp8)] 0 [none] rfl rfl rfl rfl rfl rfl fun G a w S => ?_
      refine sMove (.slice ad7 s15.length cp8) S (wN rfl) (.inl rfl) rfl rfl (lb rfl) fun a S => ?_
      exact leafL ⟨rfl, S⟩
    · refine fI 135 (iv s16) [(10, iv s16)] 1 [none] rfl rfl rfl rfl rfl rfl fun G a w S => ?_
      refine sMove (iv s16) S (wN rfl) (.inl rfl) rfl rfl (lb rfl) fun a S => ?_
      exact leafL ⟨rfl, S⟩
    · refine fI 136 q143 [(134, .slice ad7 s15.length cp8), (135, iv s16)] 2 [some 0, some 1] rfl rfl rfl rfl rfl rfl fun G a w S => ?_
      refine sIdxV (v := .slice ad7 s15.length cp8) (k := .i64) (j := s16) S (wN rfl) rfl rfl rfl hq144 rfl (lb rfl) fun a S => ?_
      exact leafL ⟨rfl, S⟩
    · refine fI 137 (.slice ad30 s41.length cp31) [(136, q143)] 3 [some 2] rfl rfl rfl rfl rfl rfl fun G a w S => ?_
      refine sLoadHE (r := (rL (rI .i64))) (T := 101) (xs := s15) (u := .slice ad30 s41.length cp31) (v := .slice ad7 s15.length cp8) (vq := q143) (j := s16) 0 S hp145 (wN rfl) rfl rfl rfl rfl rfl (lb rfl) fun a S => ?_
      exact leafL ⟨rfl, S⟩
    · refine fI 138 (iv s40) [(11, iv s40)] 4 [none] rfl rfl rfl rfl rfl rfl fun G a w S => ?_
      refine sMove (iv s40) S (wN rfl) (.inl rfl) rfl rfl (lb rfl) fun a S => ?_
      exact leafL ⟨rfl, S⟩
    · refine fI 139 (.slice ad7 s15.length cp8) [(9, .slice ad7 s15.length cp8)] 5 [none] rfl rfl rfl rfl rfl rfl fun G a w S => ?_
      refine sMove (.slice ad7 s15.length cp8) S (wN rfl) (.inl rfl) rfl rfl (lb rfl) fun a S => ?_
      exact leafL ⟨rfl, S⟩
    · refine fI 140 (iv s16) [(10, iv s16)] 6 [none] rfl rfl rfl rfl rfl rfl fun G a w S => ?_
      refine sMove (iv s16) S (wN rfl) (.inl rfl) rfl rfl (lb rfl) fun a S => ?_
      exact leafL ⟨rfl, S⟩
    · refine fI 141 (iv (w64 (s16 + 1))) [(140, iv s16)] 7 [some 6] rfl rfl rfl rfl rfl rfl fun G a w S => ?_
      refine sBin (iv (w64 (s16 + 1))) S (wN rfl) rfl rfl rfl (bAdd _ _ _ _ s16 1) rfl (lb rfl) fun a S => ?_
      exact leafL ⟨rfl, S⟩
    · refine fI 142 q146 [(139, .slice ad7 s15.length cp8), (141, iv (w64 (s16 + 1)))] 8 [some 5, some 7] rfl rfl rfl rfl rfl rfl fun G a w S => ?_
      refine sIdxV (v := .slice ad7 s15.length cp8) (k := .i64) (j := w64 (s16 + 1)) S (wN rfl) rfl rfl rfl hq147 rfl (lb rfl) fun a S => ?_
      exact leafL ⟨rfl, S⟩
    · refine ⟨_, [(142, q146)], rfl, (srcs_of [some 8] rfl rfl rfl), fun G a w S => ?_⟩
      refine sLoadHo (r := (rL (rI .i64))) (T := 101) (xs := s15) (x := x112) (p := (s16).toNat * (rL (rI .i64)).sz + 0) (u := .slice ad30 s41.length cp31) (v := .slice ad7 s15.length cp8) (vq := q146) (j := w64 (s16 + 1)) 0 S hp148 (wN rfl) rfl rfl rfl hx113 (idx_next (by decide) (hole_lim 0 S.mem rfl) hx35 hx113) (scal_L _) rfl rfl (lb rfl) fun a u156 S => ?_
      obtain ⟨ad157, cp158, _, rfl, _⟩ := S.mem.know (i := 0) (e := fRep (rL (rI .i64)) (u156) x112) rfl
      obtain ⟨q159, hq160, S⟩ := pIdx (P := Try.prog) (r := (rI .i64)) (v := .slice ad157 x112.length cp158) (xs := x112) (j := s40) 101 3 0 S Try.underlying101 rfl rfl hx121
      obtain ⟨u161, S⟩ := pLoad (r := (rI .i64)) (q := q159) (x := x120) 0 S rfl
      obtain rfl : u161 = iv x120 := S.mem.know (i := 1) (e := fRep (rI .i64) (u161) x120) rfl
      obtain ⟨q162, hq163, hp164⟩ := pIdxR (P := Try.prog) (r := (rI .i64)) (T := 3) (v := .slice ad30 s41.length cp31) (xs := s41) (j := s40) 101 3 1 S Try.underlying101 rfl rfl hx137
      refine leafL ⟨rfl, _, _, .inl ⟨143, (.slice ad157 x112.length cp158), [(11, 145, q159), (12, 146, iv x120), (19, 153, iv (w64 (x120 + r134))), (20, 154, q162)], rfl, S, hz_of rfl, ?_⟩⟩
      refine node_by (A := anc_compare_table_api_Row__s0_1) (nf := [9, 21]) (Y := [9]) 22 (by kernel_rfl) (by kernel_rfl) (by kernel_rfl) (by kernel_rfl) (by kernel_rfl) [11, 12, 19, 20, 9, 0, 1, 2, 3, 4, 5, 6, 7, 8, 10, 13, 14, 15, 16, 17, 18] (by kernel_rfl) (by decide) (by decide) (aF 0 21 (by decide) ?_ (aF 1 20 (by decide) ?_ (aF 2 19 (by decide) ?_ (aF 3 18 (by decide) ?_ (aF 4 17 (by decide) ?_ (aD 5 16 9 (by decide) (aD 6 15 9 (by decide) (aD 7 14 9 (by decide) (aD 8 13 9 (by decide) (aY 9 12 (by decide) (aF 10 11 (by decide) ?_ (aF 11 10 (by decide) ?_ (aF 12 9 (by decide) ?_ (aF 13 8 (by decide) ?_ (aF 14 7 (by decide) ?_ (aF 15 6 (by decide) ?_ (aF 16 5 (by decide) ?_ (aF 17 4 (by decide) ?_ (aF 18 3 (by decide) ?_ (aF 19 2 (by decide) ?_ (aF 20 1 (by decide) ?_ (aN 21 0 (by decide) ?_ (trivial))))))))))))))))))))))) [] (fun q hq => by cases hq) (fun hY => absurd (hY 21 (by decide)) (by decide))
      · refine fI 134 (.slice ad7 s15.length cp8) [(9, .slice ad7 s15.length cp8)] 5 [none] rfl rfl rfl rfl rfl rfl fun G a w S => ?_
        refine sMove (.slice ad7 s15.length cp8) S (wN rfl) (.inl rfl) rfl rfl (lb rfl) fun a S => ?_
        exact leafL ⟨rfl, S⟩
      · refine fI 135 (iv s16) [(10, iv s16)] 6 [none] rfl rfl rfl rfl rfl rfl fun G a w S => ?_
        refine sMove (iv s16) S (wN rfl) (.inl rfl) rfl rfl (lb rfl) fun a S => ?_
        exact leafL ⟨rfl, S⟩
      · refine fI 136 q143 [(134, .slice ad7 s15.length cp8), (135, iv s16)] 7 [some 5, some 6] rfl rfl rfl rfl rfl rfl fun G a w S => ?_
        refine sIdxV (v := .slice ad7 s15.length cp8) (k := .i64) (j := s16) S (wN rfl) rfl rfl rfl hq144 rfl (lb rfl) fun a S => ?_
        exact leafL ⟨rfl, S⟩
      · refine fI 137 (.slice ad30 s41.length cp31) [(136, q143)] 8 [some 7] rfl rfl rfl rfl rfl rfl fun G a w S => ?_
        refine sLoadHE (r := (rL (rI .i64))) (T := 101) (xs := s15) (u := .slice ad30 s41.length cp31) (v := .slice ad7 s15.length cp8) (vq := q143) (j := s16) 0 S hp145 (wN rfl) rfl rfl rfl rfl rfl (lb rfl) fun a S => ?_
        exact leafL ⟨rfl, S⟩
      · refine fI 138 (iv s40) [(11, iv s40)] 9 [none] rfl rfl rfl rfl rfl rfl fun G a w S => ?_
        refine sMove (iv s40) S (wN rfl) (.inl rfl) rfl rfl (lb rfl) fun a S => ?_
        exact leafL ⟨rfl, S⟩
      · refine fI 144 (iv s40) [(11, iv s40)] 14 [none] rfl rfl rfl rfl rfl rfl fun G a w S => ?_
        refine sMove (iv s40) S (wN rfl) (.inl rfl) rfl rfl (lb rfl) fun a S => ?_
        exact leafL ⟨rfl, S⟩
      · refine fI 145 q159 [(143, .slice ad157 x112.length cp158), (144, iv s40)] 0 [some 4, some 14] rfl rfl rfl rfl rfl rfl fun G a w S => ?_
        refine sIdxV (v := .slice ad157 x112.length cp158) (k := .i64) (j := s40) S (wN rfl) rfl rfl rfl hq160 rfl (lb rfl) fun a S => ?_
        exact leafL ⟨rfl, S⟩
      · refine fI 146 (iv x120) [(145, q159)] 1 [some 0] rfl rfl rfl rfl rfl rfl fun G a w S => ?_
        refine sLoadV1 (vq := q159) 0 (iv x120) S (wN rfl) rfl rfl rfl rfl rfl (lb rfl) fun a S => ?_
        exact leafL ⟨rfl, S⟩
      · refine fI 147 (.func (.func 52) #[] #[]) [(2, .func (.func 52) #[] #[])] 15 [none] rfl rfl rfl rfl rfl rfl fun G a w S => ?_
        refine sMove (.func (.func 52) #[] #[]) S (wN rfl) (.inl rfl) rfl rfl (lb rfl) fun a S => ?_
        exact leafL ⟨rfl, S⟩
      · refine fI 148 (.slice ad1 p0.length cp2) [(0, .slice ad1 p0.length cp2)] 16 [none] rfl rfl rfl rfl rfl rfl fun G a w S => ?_
        refine sMove (.slice ad1 p0.length cp2) S (wN rfl) (.inl rfl) rfl rfl (lb rfl) fun a S => ?_
        exact leafL ⟨rfl, S⟩
      · refine fI 149 (iv s16) [(10, iv s16)] 17 [none] rfl rfl rfl rfl rfl rfl fun G a w S => ?_
        refine sMove (iv s16) S (wN rfl) (.inl rfl) rfl rfl (lb rfl) fun a S => ?_
        exact leafL ⟨rfl, S⟩
      · refine fI 150 q149 [(148, .slice ad1 p0.length cp2), (149, iv s16)] 18 [some 16, some 17] rfl rfl rfl rfl rfl rfl fun G a w S => ?_
        refine sIdxV (v := .slice ad1 p0.length cp2) (k := .i64) (j := s16) S (wN rfl) rfl rfl rfl hq150 rfl (lb rfl) fun a S => ?_
        exact leafL ⟨rfl, S⟩
      · refine fI 151 (.agg #[.bool x125.Back, .slice ad154 x125.Cells.length cp155]) [(150, q149)] 19 [some 18] rfl rfl rfl rfl rfl rfl fun G a w S => ?_
        refine sLoadVN (vq := q149) 5 [.bool x125.Back, .slice ad154 x125.Cells.length cp155] S (wN rfl) rfl rfl rfl rfl rfl rfl (lb rfl) fun a S => ?_
        exact leafL ⟨rfl, S⟩
      · refine fI 152 (iv r134) [(147, .func (.func 52) #[] #[]), (151, .agg #[.bool x125.Back, .slice ad154 x125.Cells.length cp155])] 20 [some 15, some 19] rfl rfl rfl rfl rfl rfl fun G a w S => ?_
        have S1 := S.mem
        refine sCallVQ (X := Unit) (g := 52) (vs := [.agg #[.bool x125.Back, .slice ad154 x125.Cells.length cp155]]) (caps := []) (val := fun _ => iv r134) S (wN rfl) rfl rfl callee52 rfl (S1.quiet [6] rfl) (fun E1 w1 S1 => c_compare_Charts_1 E1 w1 x125 (.agg #[.bool x125.Back, .slice ad154 x125.Cells.length cp155]) r134 hx135 S1) rfl (lb rfl) fun _ a w S => ?_
        exact leafL ⟨rfl, S⟩
      · refine fI 153 (iv (w64 (x120 + r134))) [(146, iv x120), (152, iv r134)] 2 [some 1, some 20] rfl rfl rfl rfl rfl rfl fun G a w S => ?_
        refine sBin (iv (w64 (x120 + r134))) S (wN rfl) rfl rfl rfl (bAdd _ _ _ _ x120 r134) rfl (lb rfl) fun a S => ?_
        exact leafL ⟨rfl, S⟩
      · refine fI 154 q162 [(137, .slice ad30 s41.length cp31), (138, iv s40)] 3 [some 8, some 9] rfl rfl rfl rfl rfl rfl fun G a w S => ?_
        refine sIdxV (v := .slice ad30 s41.length cp31) (k := .i64) (j := s40) S (wN rfl) rfl rfl rfl hq163 rfl (lb rfl) fun a S => ?_
        exact leafL ⟨rfl, S⟩
      refine ⟨_, [(153, iv (w64 (x120 + r134))), (154, q162)], rfl, (srcs_of [some 2, some 3] rfl rfl rfl), fun G a w S => ?_⟩
      refine sStoreR (r := (rI .i64)) (T := 3) (xs := s41) (ys := l141) (y := (w64 (x120 + r134))) (v := .slice ad30 s41.length cp31) (vq := q162) (u := iv (w64 (x120 + r134))) (j := s40) 1 S hp164 (wN rfl) rfl rfl rfl rfl rfl hx142 rfl rfl fun a w S => ?_
      refine leafL ⟨rfl, _, _, .inr ⟨[], rfl, S, hz_of rfl, ?_⟩⟩
      refine node_by (A := anc_compare_table_api_Row__s0_1) (nf := [9, 21]) (Y := [21, 9]) 22 (by kernel_rfl) (by kernel_rfl) (by kernel_rfl) (by kernel_rfl) (by kernel_rfl) [11, 12, 19, 20, 9, 0, 1, 2, 3, 4, 5, 6, 7, 8, 10, 13, 14, 15, 16, 17, 18] (by kernel_rfl) (by decide) (by decide) (aD 0 21 21 (by decide) (aD 1 20 21 (by decide) (aD 2 19 21 (by decide) (aD 3 18 21 (by decide) (aD 4 17 21 (by decide) (aD 5 16 21 (by decide) (aD 6 15 21 (by decide) (aD 7 14 21 (by decide) (aD 8 13 21 (by decide) (aY 9 12 (by decide) (aD 10 11 21 (by decide) (aD 11 10 21 (by decide) (aD 12 9 21 (by decide) (aD 13 8 21 (by decide) (aD 14 7 21 (by decide) (aD 15 6 21 (by decide) (aD 16 5 21 (by decide) (aD 17 4 21 (by decide) (aD 18 3 21 (by decide) (aD 19 2 21 (by decide) (aD 20 1 21 (by decide) (aY 21 0 (by decide) (trivial))))))))))))))))))))))) [(0, .slice ad1 p0.length cp2), (1, .slice ad3 p1.length cp4), (2, .func (.func 52) #[] #[]), (3, .func (.func 53) #[] #[]), (9, .slice ad7 s15.length cp8), (10, iv s16), (11, iv s40)] (fin_of [none, none, none, none, none, none, none] rfl (by kernel_rfl) (by kernel_rfl)) (fun _ a w S => ?_)
      rw [setO_v hx142 ad30 cp31] at S
      exact leafB (leafB (leafT (⟨l141, Option.some.inj h, S.fix [1, 0] [8, 9] (by decide) rfl rfl rfl⟩)))
    · refine fI 144 (iv s40) [(11, iv s40)] 9 [none] rfl rfl rfl rfl rfl rfl fun G a w S => ?_
      refine sMove (iv s40) S (wN rfl) (.inl rfl) rfl rfl (lb rfl) fun a S => ?_
      exact leafL ⟨rfl, S⟩
    · refine fI 147 (.func (.func 52) #[] #[]) [(2, .func (.func 52) #[] #[])] 10 [none] rfl rfl rfl rfl rfl rfl fun G a w S => ?_
      refine sMove (.func (.func 52) #[] #[]) S (wN rfl) (.inl rfl) rfl rfl (lb rfl) fun a S => ?_
      exact leafL ⟨rfl, S⟩
    · refine fI 148 (.slice ad1 p0.length cp2) [(0, .slice ad1 p0.length cp2)] 11 [none] rfl rfl rfl rfl rfl rfl fun G a w S => ?_
      refine sMove (.slice ad1 p0.length cp2) S (wN rfl) (.inl rfl) rfl rfl (lb rfl) fun a S => ?_
      exact leafL ⟨rfl, S⟩
    · refine fI 149 (iv s16) [(10, iv s16)] 12 [none] rfl rfl rfl rfl rfl rfl fun G a w S => ?_
      refine sMove (iv s16) S (wN rfl) (.inl rfl) rfl rfl (lb rfl) fun a S => ?_
      exact leafL ⟨rfl, S⟩
    · refine fI 150 q149 [(148, .slice ad1 p0.length cp2), (149, iv s16)] 13 [some 11, some 12] rfl rfl rfl rfl rfl rfl fun G a w S => ?_
      refine sIdxV (v := .slice ad1 p0.length cp2) (k := .i64) (j := s16) S (wN rfl) rfl rfl rfl hq150 rfl (lb rfl) fun a S => ?_
      exact leafL ⟨rfl, S⟩
    · refine fI 151 (.agg #[.bool x125.Back, .slice ad154 x125.Cells.length cp155]) [(150, q149)] 14 [some 13] rfl rfl rfl rfl rfl rfl fun G a w S => ?_
      refine sLoadVN (vq := q149) 1 [.bool x125.Back, .slice ad154 x125.Cells.length cp155] S (wN rfl) rfl rfl rfl rfl rfl rfl (lb rfl) fun a S => ?_
      exact leafL ⟨rfl, S⟩
    refine fI 152 (iv r134) [(147, .func (.func 52) #[] #[]), (151, .agg #[.bool x125.Back, .slice ad154 x125.Cells.length cp155])] 15 [some 10, some 14] rfl rfl rfl rfl rfl rfl fun G a w S => ?_
    have S1 := S.mem
    refine sCallVQ (X := Unit) (g := 52) (vs := [.agg #[.bool x125.Back, .slice ad154 x125.Cells.length cp155]]) (caps := []) (val := fun _ => iv r134) S (wN rfl) rfl rfl callee52 rfl (S1.quiet [2] rfl) (fun E1 w1 S1 => c_compare_Charts_1 E1 w1 x125 (.agg #[.bool x125.Back, .slice ad154 x125.Cells.length cp155]) r134 hx135 S1) rfl (lb rfl) fun _ a w S => ?_
    exact leafL ⟨rfl, S⟩
  refine sCondF S rfl hc108 ?_
  obtain ⟨x168, hx169, h⟩ := bindSome h
  obtain ⟨x176, hx177, h⟩ := bindSome h
  obtain ⟨x181, hx182, h⟩ := bindSome h
  obtain ⟨r190, hx191, h⟩ := bindSome h
  obtain ⟨x195, hx196, h⟩ := bindSome h
  obtain ⟨x200, hx201, h⟩ := bindSome h
  obtain ⟨r209, hx210, h⟩ := bindSome h
  obtain ⟨x217, hx218, h⟩ := bindSome h
  obtain ⟨r236, hx237, h⟩ := bindSome h
  obtain ⟨x238, hx239, h⟩ := bindSome h
  obtain ⟨l243, hx244, h⟩ := bindSome h
  obtain ⟨q245, hq246, hp247⟩ := pIdxH (P := Try.prog) (r := (rL (rI .i64))) (T := 101) (v := .slice ad7 s15.length cp8) (xs := s15) (j := s16) 98 101 0 S Try.underlying98 rfl rfl hx35
  obtain ⟨q248, hq249, hp250⟩ := pIdxH (P := Try.prog) (r := (rL (rI .i64))) (T := 101) (v := .slice ad7 s15.length cp8) (xs := s15) (j := w64 (s16 + 1)) 98 101 0 S Try.underlying98 rfl rfl hx169
  obtain ⟨q251, hq252, S⟩ := pIdx (P := Try.prog) (r := r_api_Row) (v := .slice ad1 p0.length cp2) (xs := p0) (j := s16) 40 87 0 S Try.underlying40 rfl rfl hx182
  obtain ⟨u253, S⟩ := pLoad (r := r_api_Row) (q := q251) (x := x181) 0 S rfl
  obtain ⟨u254, rfl, hu255⟩ := S.mem.know (i := 1) (e := fRep r_api_Row (u253) x181) rfl
  have S := S.learn (fRep (rL r_api_Stitch) u254 x181.Cells) hu255
  obtain ⟨ad256, cp257, _, rfl, _⟩ := hu255
  obtain ⟨q258, hq259, hp260⟩ := pIdxH (P := Try.prog) (r := (rL (rI .i64))) (T := 101) (v := .slice ad7 s15.length cp8) (xs := s15) (j := s16) 98 101 0 S Try.underlying98 rfl rfl hx35
  obtain ⟨q261, hq262, hp263⟩ := pIdxR (P := Try.prog) (r := (rI .i64)) (T := 3) (v := .slice ad30 s41.length cp31) (xs := s41) (j := w64 (s40 + 1)) 101 3 1 S Try.underlying101 rfl rfl hx196
  obtain ⟨q264, hq265, S⟩ := pIdx (P := Try.prog) (r := r_api_Row) (v := .slice ad3 p1.length cp4) (xs := p1) (j := s40) 40 87 5 S Try.underlying40 rfl rfl hx201
  obtain ⟨u266, S⟩ := pLoad (r := r_api_Row) (q := q264) (x := x200) 0 S rfl
  obtain ⟨u267, rfl, hu268⟩ := S.mem.know (i := 1) (e := fRep r_api_Row (u266) x200) rfl
  have S := S.learn (fRep (rL r_api_Stitch) u267 x200.Cells) hu268
  obtain ⟨ad269, cp270, _, rfl, _⟩ := hu268
  obtain ⟨q271, hq272, hp273⟩ := pIdxH (P := Try.prog) (r := (rL (rI .i64))) (T := 101) (v := .slice ad7 s15.length cp8) (xs := s15) (j := w64 (s16 + 1)) 98 101 0 S Try.underlying98 rfl rfl hx169
  obtain ⟨q274, hq275, S⟩ := pIdx (P := Try.prog) (r := r_api_Row) (v := .slice ad1 p0.length cp2) (xs := p0) (j := s16) 40 87 8 S Try.underlying40 rfl rfl hx182
  obtain ⟨u276, S⟩ := pLoad (r := r_api_Row) (q := q274) (x := x181) 0 S rfl
  obtain ⟨u277, rfl, hu278⟩ := S.mem.know (i := 1) (e := fRep r_api_Row (u276) x181) rfl
  have S := S.learn (fRep (rL r_api_Stitch) u277 x181.Cells) hu278
  obtain ⟨ad279, cp280, _, rfl, _⟩ := hu278
  obtain ⟨q281, hq282, S⟩ := pIdx (P := Try.prog) (r := r_api_Row) (v := .slice ad3 p1.length cp4) (xs := p1) (j := s40) 40 87 13 S Try.underlying40 rfl rfl hx201
  obtain ⟨u283, S⟩ := pLoad (r := r_api_Row) (q := q281) (x := x200) 0 S rfl
  obtain ⟨u284, rfl, hu285⟩ := S.mem.know (i := 1) (e := fRep r_api_Row (u283) x200) rfl
  have S := S.learn (fRep (rL r_api_Stitch) u284 x200.Cells) hu285
  obtain ⟨ad286, cp287, _, rfl, _⟩ := hu285
  refine sDraw (nf := [9, 39, 57]) (W := [(0, 35, .slice ad7 s15.length cp8), (1, 36, iv s16), (2, 37, q245), (3, 38, .slice ad30 s41.length cp31), (4, 39, iv s40), (5, 40, .slice ad7 s15.length cp8), (6, 41, iv s16), (7, 42, iv (w64 (s16 + 1))), (8, 43, q248), (10, 45, iv s40), (13, 48, .func (.func 52) #[] #[]), (14, 49, .slice ad1 p0.length cp2), (15, 50, iv s16), (16, 51, q251), (17, 52, .agg #[.bool x181.Back, .slice ad256 x181.Cells.length cp257]), (18, 53, iv r190), (20, 55, .slice ad7 s15.length cp8), (21, 56, iv s16), (22, 57, q258), (23, 58, .slice ad30 s41.length cp31), (24, 59, iv s40), (25, 60, iv (w64 (s40 + 1))), (26, 61, q261), (27, 62, iv x195), (28, 63, .func (.func 52) #[] #[]), (29, 64, .slice ad3 p1.length cp4), (30, 65, iv s40), (31, 66, q264), (32, 67, .agg #[.bool x200.Back, .slice ad269 x200.Cells.length cp270]), (33, 68, iv r209), (34, 69, iv (w64 (x195 + r209))), (35, 70, .slice ad7 s15.length cp8), (36, 71, iv s16), (37, 72, iv (w64 (s16 + 1))), (38, 73, q271), (40, 75, iv s40), (41, 76, iv (w64 (s40 + 1))), (44, 79, .func (.func 53) #[] #[]), (45, 80, .slice ad1 p0.length cp2), (46, 81, iv s16), (47, 82, q274), (48, 83, .agg #[.bool x181.Back, .slice ad279 x181.Cells.length cp280]), (49, 84, .slice ad3 p1.length cp4), (50, 85, iv s40), (51, 86, q281), (52, 87, .agg #[.bool x200.Back, .slice ad286 x200.Cells.length cp287]), (53, 88, iv r236)]) rfl S ?_
  refine node_by (A := anc_compare_table_api_Row__s0_2) (nf := [9, 39, 57]) (Y := []) (W := [(0, 35, .slice ad7 s15.length cp8), (1, 36, iv s16), (2, 37, q245), (3, 38, .slice ad30 s41.length cp31), (4, 39, iv s40), (5, 40, .slice ad7 s15.length cp8), (6, 41, iv s16), (7, 42, iv (w64 (s16 + 1))), (8, 43, q248), (10, 45, iv s40), (13, 48, .func (.func 52) #[] #[]), (14, 49, .slice ad1 p0.length cp2), (15, 50, iv s16), (16, 51, q251), (17, 52, .agg #[.bool x181.Back, .slice ad256 x181.Cells.length cp257]), (18, 53, iv r190), (20, 55, .slice ad7 s15.length cp8), (21, 56, iv s16), (22, 57, q258), (23, 58, .slice ad30 s41.length cp31), (24, 59, iv s40), (25, 60, iv (w64 (s40 + 1))), (26, 61, q261), (27, 62, iv x195), (28, 63, .func (.func 52) #[] #[]), (29, 64, .slice ad3 p1.length cp4), (30, 65, iv s40), (31, 66, q264), (32, 67, .agg #[.bool x200.Back, .slice ad269 x200.Cells.length cp270]), (33, 68, iv r209), (34, 69, iv (w64 (x195 + r209))), (35, 70, .slice ad7 s15.length cp8), (36, 71, iv s16), (37, 72, iv (w64 (s16 + 1))), (38, 73, q271), (40, 75, iv s40), (41, 76, iv (w64 (s40 + 1))), (44, 79, .func (.func 53) #[] #[]), (45, 80, .slice ad1 p0.length cp2), (46, 81, iv s16), (47, 82, q274), (48, 83, .agg #[.bool x181.Back, .slice ad279 x181.Cells.length cp280]), (49, 84, .slice ad3 p1.length cp4), (50, 85, iv s40), (51, 86, q281), (52, 87, .agg #[.bool x200.Back, .slice ad286 x200.Cells.length cp287]), (53, 88, iv r236)]) 58 (by kernel_rfl) (by kernel_rfl) (by kernel_rfl) (by kernel_rfl) (by kernel_rfl) [0, 1, 2, 3, 4, 5, 6, 7, 8, 10, 13, 14, 15, 16, 17, 18, 20, 21, 22, 23, 24, 25, 26, 27, 28, 29, 30, 31, 32, 33, 34, 35, 36, 37, 38, 40, 41, 44, 45, 46, 47, 48, 49, 50, 51, 52, 53] (by kernel_rfl) (by decide) (by decide) (aF 0 57 (by decide) ?_ (aF 1 56 (by decide) ?_ (aF 2 55 (by decide) ?_ (aF 3 54 (by decide) ?_ (aF 4 53 (by decide) ?_ (aF 5 52 (by decide) ?_ (aF 6 51 (by decide) ?_ (aF 7 50 (by decide) ?_ (aF 8 49 (by decide) ?_ (aN 9 48 (by decide) ?_ (aF 10 47 (by decide) ?_ (aE 11 46 9 (by decide) (aE 12 45 9 (by decide) (aF 13 44 (by decide) ?_ (aF 14 43 (by decide) ?_ (aF 15 42 (by decide) ?_ (aF 16 41 (by decide) ?_ (aF 17 40 (by decide) ?_ (aF 18 39 (by decide) ?_ (aE 19 38 9 (by decide) (aF 20 37 (by decide) ?_ (aF 21 36 (by decide) ?_ (aF 22 35 (by decide) ?_ (aF 23 34 (by decide) ?_ (aF 24 33 (by decide) ?_ (aF 25 32 (by decide) ?_ (aF 26 31 (by decide) ?_ (aF 27 30 (by decide) ?_ (aF 28 29 (by decide) ?_ (aF 29 28 (by decide) ?_ (aF 30 27 (by decide) ?_ (aF 31 26 (by decide) ?_ (aF 32 25 (by decide) ?_ (aF 33 24 (by decide) ?_ (aF 34 23 (by decide) ?_ (aF 35 22 (by decide) ?_ (aF 36 21 (by decide) ?_ (aF 37 20 (by decide) ?_ (aF 38 19 (by decide) ?_ (aN 39 18 (by decide) ?_ (aF 40 17 (by decide) ?_ (aF 41 16 (by decide) ?_ (aE 42 15 39 (by decide) (aE 43 14 39 (by decide) (aF 44 13 (by decide) ?_ (aF 45 12 (by decide) ?_ (aF 46 11 (by decide) ?_ (aF 47 10 (by decide) ?_ (aF 48 9 (by decide) ?_ (aF 49 8 (by decide) ?_ (aF 50 7 (by decide) ?_ (aF 51 6 (by decide) ?_ (aF 52 5 (by decide) ?_ (aF 53 4 (by decide) ?_ (aE 54 3 39 (by decide) (aE 55 2 9 (by decide) (aE 56 1 9 (by decide) (aB 57 0 9 (by decide) (trivial))))))))))))))))))))))))))))))))))))))))))))))))))))))))))) [] (fun q hq => by cases hq) (fun hY => absurd (hY 9 (by decide)) (by decide))
  · refine fI 35 (.slice ad7 s15.length cp8) [(9, .slice ad7 s15.length cp8)] 0 [none] rfl rfl rfl rfl rfl rfl fun G a w S => ?_
    refine sMove (.slice ad7 s15.length cp8) S (wN rfl) (.inl rfl) rfl rfl (lb rfl) fun a S => ?_
    exact leafL ⟨rfl, S⟩
  · refine fI 36 (iv s16) [(10, iv s16)] 1 [none] rfl rfl rfl rfl rfl rfl fun G a w S => ?_
    refine sMove (iv s16) S (wN rfl) (.inl rfl) rfl rfl (lb rfl) fun a S => ?_
    exact leafL ⟨rfl, S⟩
  · refine fI 37 q245 [(35, .slice ad7 s15.length cp8), (36, iv s16)] 2 [some 0, some 1] rfl rfl rfl rfl rfl rfl fun G a w S => ?_
    refine sIdxV (v := .slice ad7 s15.length cp8) (k := .i64) (j := s16) S (wN rfl) rfl rfl rfl hq246 rfl (lb rfl) fun a S => ?_
    exact leafL ⟨rfl, S⟩
  · refine fI 38 (.slice ad30 s41.length cp31) [(37, q245)] 3 [some 2] rfl rfl rfl rfl rfl rfl fun G a w S => ?_
    refine sLoadHE (r := (rL (rI .i64))) (T := 101) (xs := s15) (u := .slice ad30 s41.length cp31) (v := .slice ad7 s15.length cp8) (vq := q245) (j := s16) 0 S hp247 (wN rfl) rfl rfl rfl rfl rfl (lb rfl) fun a S => ?_
    exact leafL ⟨rfl, S⟩
  · refine fI 39 (iv s40) [(11, iv s40)] 4 [none] rfl rfl rfl rfl rfl rfl fun G a w S => ?_
    refine sMove (iv s40) S (wN rfl) (.inl rfl) rfl rfl (lb rfl) fun a S => ?_
    exact leafL ⟨rfl, S⟩
  · refine fI 40 (.slice ad7 s15.length cp8) [(9, .slice ad7 s15.length cp8)] 5 [none] rfl rfl rfl rfl rfl rfl fun G a w S => ?_
    refine sMove (.slice ad7 s15.length cp8) S (wN rfl) (.inl rfl) rfl rfl (lb rfl) fun a S => ?_
    exact leafL ⟨rfl, S⟩
  · refine fI 41 (iv s16) [(10, iv s16)] 6 [none] rfl rfl rfl rfl rfl rfl fun G a w S => ?_
    refine sMove (iv s16) S (wN rfl) (.inl rfl) rfl rfl (lb rfl) fun a S => ?_
    exact leafL ⟨rfl, S⟩
  · refine fI 42 (iv (w64 (s16 + 1))) [(41, iv s16)] 7 [some 6] rfl rfl rfl rfl rfl rfl fun G a w S => ?_
    refine sBin (iv (w64 (s16 + 1))) S (wN rfl) rfl rfl rfl (bAdd _ _ _ _ s16 1) rfl (lb rfl) fun a S => ?_
    exact leafL ⟨rfl, S⟩
  · refine fI 43 q248 [(40, .slice ad7 s15.length cp8), (42, iv (w64 (s16 + 1)))] 8 [some 5, some 7] rfl rfl rfl rfl rfl rfl fun G a w S => ?_
    refine sIdxV (v := .slice ad7 s15.length cp8) (k := .i64) (j := w64 (s16 + 1)) S (wN rfl) rfl rfl rfl hq249 rfl (lb rfl) fun a S => ?_
    exact leafL ⟨rfl, S⟩
  · refine ⟨_, [(43, q248)], rfl, (srcs_of [some 8] rfl rfl rfl), fun G a w S => ?_⟩
    refine sLoadHo (r := (rL (rI .i64))) (T := 101) (xs := s15) (x := x168) (p := (s16).toNat * (rL (rI .i64)).sz + 0) (u := .slice ad30 s41.length cp31) (v := .slice ad7 s15.length cp8) (vq := q248) (j := w64 (s16 + 1)) 0 S hp250 (wN rfl) rfl rfl rfl hx169 (idx_next (by decide) (hole_lim 0 S.mem rfl) hx35 hx169) (scal_L _) rfl rfl (lb rfl) fun a u288 S => ?_
    obtain ⟨ad289, cp290, _, rfl, _⟩ := S.mem.know (i := 0) (e := fRep (rL (rI .i64)) (u288) x168) rfl
    obtain ⟨q291, hq292, S⟩ := pIdx (P := Try.prog) (r := (rI .i64)) (v := .slice ad289 x168.length cp290) (xs := x168) (j := s40) 101 3 0 S Try.underlying101 rfl rfl hx177
    obtain ⟨u293, S⟩ := pLoad (r := (rI .i64)) (q := q291) (x := x176) 0 S rfl
    obtain rfl : u293 = iv x176 := S.mem.know (i := 1) (e := fRep (rI .i64) (u293) x176) rfl
    refine leafL ⟨rfl, _, _, .inl ⟨44, (.slice ad289 x168.length cp290), [(11, 46, q291), (12, 47, iv x176), (19, 54, iv (w64 (x176 + r190)))], rfl, S, hz_of rfl, ?_⟩⟩
    refine node_by (A := anc_compare_table_api_Row__s0_2) (nf := [9, 39, 57]) (Y := [9]) 58 (by kernel_rfl) (by kernel_rfl) (by kernel_rfl) (by kernel_rfl) (by kernel_rfl) [11, 12, 19, 9, 0, 1, 2, 3, 4, 5, 6, 7, 8, 10, 13, 14, 15, 16, 17, 18, 20, 21, 22, 23, 24, 25, 26, 27, 28, 29, 30, 31, 32, 33, 34, 35, 36, 37, 38, 40, 41, 44, 45, 46, 47, 48, 49, 50, 51, 52, 53] (by kernel_rfl) (by decide) (by decide) (aF 0 57 (by decide) ?_ (aF 1 56 (by decide) ?_ (aF 2 55 (by decide) ?_ (aF 3 54 (by decide) ?_ (aF 4 53 (by decide) ?_ (aD 5 52 9 (by decide) (aD 6 51 9 (by decide) (aD 7 50 9 (by decide) (aD 8 49 9 (by decide) (aY 9 48 (by decide) (aF 10 47 (by decide) ?_ (aF 11 46 (by decide) ?_ (aF 12 45 (by decide) ?_ (aF 13 44 (by decide) ?_ (aF 14 43 (by decide) ?_ (aF 15 42 (by decide) ?_ (aF 16 41 (by decide) ?_ (aF 17 40 (by decide) ?_ (aF 18 39 (by decide) ?_ (aF 19 38 (by decide) ?_ (aF 20 37 (by decide) ?_ (aF 21 36 (by decide) ?_ (aF 22 35 (by decide) ?_ (aF 23 34 (by decide) ?_ (aF 24 33 (by decide) ?_ (aF 25 32 (by decide) ?_ (aF 26 31 (by decide) ?_ (aF 27 30 (by decide) ?_ (aF 28 29 (by decide) ?_ (aF 29 28 (by decide) ?_ (aF 30 27 (by decide) ?_ (aF 31 26 (by decide) ?_ (aF 32 25 (by decide) ?_ (aF 33 24 (by decide) ?_ (aF 34 23 (by decide) ?_ (aF 35 22 (by decide) ?_ (aF 36 21 (by decide) ?_ (aF 37 20 (by decide) ?_ (aF 38 19 (by decide) ?_ (aN 39 18 (by decide) ?_ (aF 40 17 (by decide) ?_ (aF 41 16 (by decide) ?_ (aE 42 15 39 (by decide) (aE 43 14 39 (by decide) (aF 44 13 (by decide) ?_ (aF 45 12 (by decide) ?_ (aF 46 11 (by decide) ?_ (aF 47 10 (by decide) ?_ (aF 48 9 (by decide) ?_ (aF 49 8 (by decide) ?_ (aF 50 7 (by decide) ?_ (aF 51 6 (by decide) ?_ (aF 52 5 (by decide) ?_ (aF 53 4 (by decide) ?_ (aE 54 3 39 (by decide) (aE 55 2 39 (by decide) (aE 56 1 39 (by decide) (aB 57 0 39 (by decide) (trivial))))))))))))))))))))))))))))))))))))))))))))))))))))))))))) [] (fun q hq => by cases hq) (fun hY => absurd (hY 39 (by decide)) (by decide))
    · refine fI 35 (.slice ad7 s15.length cp8) [(9, .slice ad7 s15.length cp8)] 4 [none] rfl rfl rfl rfl rfl rfl fun G a w S => ?_
      refine sMove (.slice ad7 s15.length cp8) S (wN rfl) (.inl rfl) rfl rfl (lb rfl) fun a S => ?_
      exact leafL ⟨rfl, S⟩
    · refine fI 36 (iv s16) [(10, iv s16)] 5 [none] rfl rfl rfl rfl rfl rfl fun G a w S => ?_
      refine sMove (iv s16) S (wN rfl) (.inl rfl) rfl rfl (lb rfl) fun a S => ?_
      exact leafL ⟨rfl, S⟩
    · refine fI 37 q245 [(35, .slice ad7 s15.length cp8), (36, iv s16)] 6 [some 4, some 5] rfl rfl rfl rfl rfl rfl fun G a w S => ?_
      refine sIdxV (v := .slice ad7 s15.length cp8) (k := .i64) (j := s16) S (wN rfl) rfl rfl rfl hq246 rfl (lb rfl) fun a S => ?_
      exact leafL ⟨rfl, S⟩
    · refine fI 38 (.slice ad30 s41.length cp31) [(37, q245)] 7 [some 6] rfl rfl rfl rfl rfl rfl fun G a w S => ?_
      refine sLoadHE (r := (rL (rI .i64))) (T := 101) (xs := s15) (u := .slice ad30 s41.length cp31) (v := .slice ad7 s15.length cp8) (vq := q245) (j := s16) 0 S hp247 (wN rfl) rfl rfl rfl rfl rfl (lb rfl) fun a S => ?_
      exact leafL ⟨rfl, S⟩
    · refine fI 39 (iv s40) [(11, iv s40)] 8 [none] rfl rfl rfl rfl rfl rfl fun G a w S => ?_
      refine sMove (iv s40) S (wN rfl) (.inl rfl) rfl rfl (lb rfl) fun a S => ?_
      exact leafL ⟨rfl, S⟩
    · refine fI 45 (iv s40) [(11, iv s40)] 13 [none] rfl rfl rfl rfl rfl rfl fun G a w S => ?_
      refine sMove (iv s40) S (wN rfl) (.inl rfl) rfl rfl (lb rfl) fun a S => ?_
      exact leafL ⟨rfl, S⟩
    · refine fI 46 q291 [(44, .slice ad289 x168.length cp290), (45, iv s40)] 0 [some 3, some 13] rfl rfl rfl rfl rfl rfl fun G a w S => ?_
      refine sIdxV (v := .slice ad289 x168.length cp290) (k := .i64) (j := s40) S (wN rfl) rfl rfl rfl hq292 rfl (lb rfl) fun a S => ?_
      exact leafL ⟨rfl, S⟩
    · refine fI 47 (iv x176) [(46, q291)] 1 [some 0] rfl rfl rfl rfl rfl rfl fun G a w S => ?_
      refine sLoadV1 (vq := q291) 0 (iv x176) S (wN rfl) rfl rfl rfl rfl rfl (lb rfl) fun a S => ?_
      exact leafL ⟨rfl, S⟩
    · refine fI 48 (.func (.func 52) #[] #[]) [(2, .func (.func 52) #[] #[])] 14 [none] rfl rfl rfl rfl rfl rfl fun G a w S => ?_
      refine sMove (.func (.func 52) #[] #[]) S (wN rfl) (.inl rfl) rfl rfl (lb rfl) fun a S => ?_
      exact leafL ⟨rfl, S⟩
    · refine fI 49 (.slice ad1 p0.length cp2) [(0, .slice ad1 p0.length cp2)] 15 [none] rfl rfl rfl rfl rfl rfl fun G a w S => ?_
      refine sMove (.slice ad1 p0.length cp2) S (wN rfl) (.inl rfl) rfl rfl (lb rfl) fun a S => ?_
      exact leafL ⟨rfl, S⟩
    · refine fI 50 (iv s16) [(10, iv s16)] 16 [none] rfl rfl rfl rfl rfl rfl fun G a w S => ?_
      refine sMove (iv s16) S (wN rfl) (.inl rfl) rfl rfl (lb rfl) fun a S => ?_
      exact leafL ⟨rfl, S⟩
    · refine fI 51 q251 [(49, .slice ad1 p0.length cp2), (50, iv s16)] 17 [some 15, some 16] rfl rfl rfl rfl rfl rfl fun G a w S => ?_
      refine sIdxV (v := .slice ad1 p0.length cp2) (k := .i64) (j := s16) S (wN rfl) rfl rfl rfl hq252 rfl (lb rfl) fun a S => ?_
      exact leafL ⟨rfl, S⟩
    · refine fI 52 (.agg #[.bool x181.Back, .slice ad256 x181.Cells.length cp257]) [(51, q251)] 18 [some 17] rfl rfl rfl rfl rfl rfl fun G a w S => ?_
      refine sLoadVN (vq := q251) 17 [.bool x181.Back, .slice ad256 x181.Cells.length cp257] S (wN rfl) rfl rfl rfl rfl rfl rfl (lb rfl) fun a S => ?_
      exact leafL ⟨rfl, S⟩
    · refine fI 53 (iv r190) [(48, .func (.func 52) #[] #[]), (52, .agg #[.bool x181.Back, .slice ad256 x181.Cells.length cp257])] 19 [some 14, some 18] rfl rfl rfl rfl rfl rfl fun G a w S => ?_
      have S1 := S.mem
      refine sCallVQ (X := Unit) (g := 52) (vs := [.agg #[.bool x181.Back, .slice ad256 x181.Cells.length cp257]]) (caps := []) (val := fun _ => iv r190) S (wN rfl) rfl rfl callee52 rfl (S1.quiet [18] rfl) (fun E1 w1 S1 => c_compare_Charts_1 E1 w1 x181 (.agg #[.bool x181.Back, .slice ad256 x181.Cells.length cp257]) r190 hx191 S1) rfl (lb rfl) fun _ a w S => ?_
      exact leafL ⟨rfl, S⟩
    · refine fI 54 (iv (w64 (x176 + r190))) [(47, iv x176), (53, iv r190)] 2 [some 1, some 19] rfl rfl rfl rfl rfl rfl fun G a w S => ?_
      refine sBin (iv (w64 (x176 + r190))) S (wN rfl) rfl rfl rfl (bAdd _ _ _ _ x176 r190) rfl (lb rfl) fun a S => ?_
      exact leafL ⟨rfl, S⟩
    · refine fI 55 (.slice ad7 s15.length cp8) [(9, .slice ad7 s15.length cp8)] 20 [none] rfl rfl rfl rfl rfl rfl fun G a w S => ?_
      refine sMove (.slice ad7 s15.length cp8) S (wN rfl) (.inl rfl) rfl rfl (lb rfl) fun a S => ?_
      exact leafL ⟨rfl, S⟩
    · refine fI 56 (iv s16) [(10, iv s16)] 21 [none] rfl rfl rfl rfl rfl rfl fun G a w S => ?_
      refine sMove (iv s16) S (wN rfl) (.inl rfl) rfl rfl (lb rfl) fun a S => ?_
      exact leafL ⟨rfl, S⟩
    · refine fI 57 q258 [(55, .slice ad7 s15.length cp8), (56, iv s16)] 22 [some 20, some 21] rfl rfl rfl rfl rfl rfl fun G a w S => ?_
      refine sIdxV (v := .slice ad7 s15.length cp8) (k := .i64) (j := s16) S (wN rfl) rfl rfl rfl hq259 rfl (lb rfl) fun a S => ?_
      exact leafL ⟨rfl, S⟩
    · refine fI 58 (.slice ad30 s41.length cp31) [(57, q258)] 23 [some 22] rfl rfl rfl rfl rfl rfl fun G a w S => ?_
      refine sLoadHE (r := (rL (rI .i64))) (T := 101) (xs := s15) (u := .slice ad30 s41.length cp31) (v := .slice ad7 s15.length cp8) (vq := q258) (j := s16) 0 S hp260 (wN rfl) rfl rfl rfl rfl rfl (lb rfl) fun a S => ?_
      exact leafL ⟨rfl, S⟩
    · refine fI 59 (iv s40) [(11, iv s40)] 24 [none] rfl rfl rfl rfl rfl rfl fun G a w S => ?_
      refine sMove (iv s40) S (wN rfl) (.inl rfl) rfl rfl (lb rfl) fun a S => ?_
      exact leafL ⟨rfl, S⟩
    · refine fI 60 (iv (w64 (s40 + 1))) [(59, iv s40)] 25 [some 24] rfl rfl rfl rfl rfl rfl fun G a w S => ?_
      refine sBin (iv (w64 (s40 + 1))) S (wN rfl) rfl rfl rfl (bAdd _ _ _ _ s40 1) rfl (lb rfl) fun a S => ?_
      exact leafL ⟨rfl, S⟩
    · refine fI 61 q261 [(58, .slice ad30 s41.length cp31), (60, iv (w64 (s40 + 1)))] 26 [some 23, some 25] rfl rfl rfl rfl rfl rfl fun G a w S => ?_
      refine sIdxV (v := .slice ad30 s41.length cp31) (k := .i64) (j := w64 (s40 + 1)) S (wN rfl) rfl rfl rfl hq262 rfl (lb rfl) fun a S => ?_
      exact leafL ⟨rfl, S⟩
    · refine fI 62 (iv x195) [(61, q261)] 27 [some 26] rfl rfl rfl rfl rfl rfl fun G a w S => ?_
      refine sLoadR (r := (rI .i64)) (T := 3) (xs := s41) (x := x195) (v := .slice ad30 s41.length cp31) (vq := q261) (j := w64 (s40 + 1)) 1 (iv x195) S hp263 (wN rfl) rfl rfl rfl hx196 (fun _ _ _ h => h) (scal_I _) rfl rfl (lb rfl) fun a S => ?_
      exact leafL ⟨rfl, S⟩
    · refine fI 63 (.func (.func 52) #[] #[]) [(2, .func (.func 52) #[] #[])] 28 [none] rfl rfl rfl rfl rfl rfl fun G a w S => ?_
      refine sMove (.func (.func 52) #[] #[]) S (wN rfl) (.inl rfl) rfl rfl (lb rfl) fun a S => ?_
      exact leafL ⟨rfl, S⟩
    · refine fI 64 (.slice ad3 p1.length cp4) [(1, .slice ad3 p1.length cp4)] 29 [none] rfl rfl rfl rfl rfl rfl fun G a w S => ?_
      refine sMove (.slice ad3 p1.length cp4) S (wN rfl) (.inl rfl) rfl rfl (lb rfl) fun a S => ?_
      exact leafL ⟨rfl, S⟩
    · refine fI 65 (iv s40) [(11, iv s40)] 30 [none] rfl rfl rfl rfl rfl rfl fun G a w S => ?_
      refine sMove (iv s40) S (wN rfl) (.inl rfl) rfl rfl (lb rfl) fun a S => ?_
      exact leafL ⟨rfl, S⟩
    · refine fI 66 q264 [(64, .slice ad3 p1.length cp4), (65, iv s40)] 31 [some 29, some 30] rfl rfl rfl rfl rfl rfl fun G a w S => ?_
      refine sIdxV (v := .slice ad3 p1.length cp4) (k := .i64) (j := s40) S (wN rfl) rfl rfl rfl hq265 rfl (lb rfl) fun a S => ?_
      exact leafL ⟨rfl, S⟩
    · refine fI 67 (.agg #[.bool x200.Back, .slice ad269 x200.Cells.length cp270]) [(66, q264)] 32 [some 31] rfl rfl rfl rfl rfl rfl fun G a w S => ?_
      refine sLoadVN (vq := q264) 13 [.bool x200.Back, .slice ad269 x200.Cells.length cp270] S (wN rfl) rfl rfl rfl rfl rfl rfl (lb rfl) fun a S => ?_
      exact leafL ⟨rfl, S⟩
    · refine fI 68 (iv r209) [(63, .func (.func 52) #[] #[]), (67, .agg #[.bool x200.Back, .slice ad269 x200.Cells.length cp270])] 33 [some 28, some 32] rfl rfl rfl rfl rfl rfl fun G a w S => ?_
      have S1 := S.mem
      refine sCallVQ (X := Unit) (g := 52) (vs := [.agg #[.bool x200.Back, .slice ad269 x200.Cells.length cp270]]) (caps := []) (val := fun _ => iv r209) S (wN rfl) rfl rfl callee52 rfl (S1.quiet [14] rfl) (fun E1 w1 S1 => c_compare_Charts_1 E1 w1 x200 (.agg #[.bool x200.Back, .slice ad269 x200.Cells.length cp270]) r209 hx210 S1) rfl (lb rfl) fun _ a w S => ?_
      exact leafL ⟨rfl, S⟩
    · refine fI 69 (iv (w64 (x195 + r209))) [(62, iv x195), (68, iv r209)] 34 [some 27, some 33] rfl rfl rfl rfl rfl rfl fun G a w S => ?_
      refine sBin (iv (w64 (x195 + r209))) S (wN rfl) rfl rfl rfl (bAdd _ _ _ _ x195 r209) rfl (lb rfl) fun a S => ?_
      exact leafL ⟨rfl, S⟩
    · refine fI 70 (.slice ad7 s15.length cp8) [(9, .slice ad7 s15.length cp8)] 35 [none] rfl rfl rfl rfl rfl rfl fun G a w S => ?_
      refine sMove (.slice ad7 s15.length cp8) S (wN rfl) (.inl rfl) rfl rfl (lb rfl) fun a S => ?_
      exact leafL ⟨rfl, S⟩
    · refine fI 71 (iv s16) [(10, iv s16)] 36 [none] rfl rfl rfl rfl rfl rfl fun G a w S => ?_
      refine sMove (iv s16) S (wN rfl) (.inl rfl) rfl rfl (lb rfl) fun a S => ?_
      exact leafL ⟨rfl, S⟩
    · refine fI 72 (iv (w64 (s16 + 1))) [(71, iv s16)] 37 [some 36] rfl rfl rfl rfl rfl rfl fun G a w S => ?_
      refine sBin (iv (w64 (s16 + 1))) S (wN rfl) rfl rfl rfl (bAdd _ _ _ _ s16 1) rfl (lb rfl) fun a S => ?_
      exact leafL ⟨rfl, S⟩
    · refine fI 73 q271 [(70, .slice ad7 s15.length cp8), (72, iv (w64 (s16 + 1)))] 38 [some 35, some 37] rfl rfl rfl rfl rfl rfl fun G a w S => ?_
      refine sIdxV (v := .slice ad7 s15.length cp8) (k := .i64) (j := w64 (s16 + 1)) S (wN rfl) rfl rfl rfl hq272 rfl (lb rfl) fun a S => ?_
      exact leafL ⟨rfl, S⟩
    · refine ⟨_, [(73, q271)], rfl, (srcs_of [some 38] rfl rfl rfl), fun G a w S => ?_⟩
      refine sLoadHo (r := (rL (rI .i64))) (T := 101) (xs := s15) (x := x168) (p := (s16).toNat * (rL (rI .i64)).sz + 0) (u := .slice ad30 s41.length cp31) (v := .slice ad7 s15.length cp8) (vq := q271) (j := w64 (s16 + 1)) 0 S hp273 (wN rfl) rfl rfl rfl hx169 (idx_next (by decide) (hole_lim 0 S.mem rfl) hx35 hx169) (scal_L _) rfl rfl (lb rfl) fun a u294 S => ?_
      obtain ⟨ad295, cp296, _, rfl, _⟩ := S.mem.know (i := 0) (e := fRep (rL (rI .i64)) (u294) x168) rfl
      obtain ⟨q297, hq298, S⟩ := pIdx (P := Try.prog) (r := (rI .i64)) (v := .slice ad295 x168.length cp296) (xs := x168) (j := w64 (s40 + 1)) 101 3 0 S Try.underlying101 rfl rfl hx218
      obtain ⟨u299, S⟩ := pLoad (r := (rI .i64)) (q := q297) (x := x217) 0 S rfl
      obtain rfl : u299 = iv x217 := S.mem.know (i := 1) (e := fRep (rI .i64) (u299) x217) rfl
      obtain ⟨q300, hq301, hp302⟩ := pIdxR (P := Try.prog) (r := (rI .i64)) (T := 3) (v := .slice ad30 s41.length cp31) (xs := s41) (j := s40) 101 3 1 S Try.underlying101 rfl rfl hx239
      refine leafL ⟨rfl, _, _, .inl ⟨74, (.slice ad295 x168.length cp296), [(42, 77, q297), (43, 78, iv x217), (54, 89, iv (w64 (x217 + r236))), (55, 90, iv (min3 (w64 (x176 + r190)) (w64 (x195 + r209)) (w64 (x217 + r236)))), (56, 91, q300)], rfl, S, hz_of rfl, ?_⟩⟩
      refine node_by (A := anc_compare_table_api_Row__s0_2) (nf := [9, 39, 57]) (Y := [39, 9]) 58 (by kernel_rfl) (by kernel_rfl) (by kernel_rfl) (by kernel_rfl) (by kernel_rfl) [42, 43, 54, 55, 56, 39, 11, 12, 19, 9, 0, 1, 2, 3, 4, 5, 6, 7, 8, 10, 13, 14, 15, 16, 17, 18, 20, 21, 22, 23, 24, 25, 26, 27, 28, 29, 30, 31, 32, 33, 34, 35, 36, 37, 38, 40, 41, 44, 45, 46, 47, 48, 49, 50, 51, 52, 53] (by kernel_rfl) (by decide) (by decide) (aF 0 57 (by decide) ?_ (aF 1 56 (by decide) ?_ (aF 2 55 (by decide) ?_ (aF 3 54 (by decide) ?_ (aF 4 53 (by decide) ?_ (aD 5 52 9 (by decide) (aD 6 51 9 (by decide) (aD 7 50 9 (by decide) (aD 8 49 9 (by decide) (aY 9 48 (by decide) (aF 10 47 (by decide) ?_ (aF 11 46 (by decide) ?_ (aF 12 45 (by decide) ?_ (aF 13 44 (by decide) ?_ (aF 14 43 (by decide) ?_ (aF 15 42 (by decide) ?_ (aF 16 41 (by decide) ?_ (aF 17 40 (by decide) ?_ (aF 18 39 (by decide) ?_ (aF 19 38 (by decide) ?_ (aF 20 37 (by decide) ?_ (aF 21 36 (by decide) ?_ (aF 22 35 (by decide) ?_ (aF 23 34 (by decide) ?_ (aF 24 33 (by decide) ?_ (aF 25 32 (by decide) ?_ (aF 26 31 (by decide) ?_ (aF 27 30 (by decide) ?_ (aF 28 29 (by decide) ?_ (aF 29 28 (by decide) ?_ (aF 30 27 (by decide) ?_ (aF 31 26 (by decide) ?_ (aF 32 25 (by decide) ?_ (aF 33 24 (by decide) ?_ (aF 34 23 (by decide) ?_ (aD 35 22 39 (by decide) (aD 36 21 39 (by decide) (aD 37 20 39 (by decide) (aD 38 19 39 (by decide) (aY 39 18 (by decide) (aF 40 17 (by decide) ?_ (aF 41 16 (by decide) ?_ (aF 42 15 (by decide) ?_ (aF 43 14 (by decide) ?_ (aF 44 13 (by decide) ?_ (aF 45 12 (by decide) ?_ (aF 46 11 (by decide) ?_ (aF 47 10 (by decide) ?_ (aF 48 9 (by decide) ?_ (aF 49 8 (by decide) ?_ (aF 50 7 (by decide) ?_ (aF 51 6 (by decide) ?_ (aF 52 5 (by decide) ?_ (aF 53 4 (by decide) ?_ (aF 54 3 (by decide) ?_ (aF 55 2 (by decide) ?_ (aF 56 1 (by decide) ?_ (aN 57 0 (by decide) ?_ (trivial))))))))))))))))))))))))))))))))))))))))))))))))))))))))))) [] (fun q hq => by cases hq) (fun hY => absurd (hY 57 (by decide)) (by decide))
      · refine fI 35 (.slice ad7 s15.length cp8) [(9, .slice ad7 s15.length cp8)] 10 [none] rfl rfl rfl rfl rfl rfl fun G a w S => ?_
        refine sMove (.slice ad7 s15.length cp8) S (wN rfl) (.inl rfl) rfl rfl (lb rfl) fun a S => ?_
        exact leafL ⟨rfl, S⟩
      · refine fI 36 (iv s16) [(10, iv s16)] 11 [none] rfl rfl rfl rfl rfl rfl fun G a w S => ?_
        refine sMove (iv s16) S (wN rfl) (.inl rfl) rfl rfl (lb rfl) fun a S => ?_
        exact leafL ⟨rfl, S⟩
      · refine fI 37 q245 [(35, .slice ad7 s15.length cp8), (36, iv s16)] 12 [some 10, some 11] rfl rfl rfl rfl rfl rfl fun G a w S => ?_
        refine sIdxV (v := .slice ad7 s15.length cp8) (k := .i64) (j := s16) S (wN rfl) rfl rfl rfl hq246 rfl (lb rfl) fun a S => ?_
        exact leafL ⟨rfl, S⟩
      · refine fI 38 (.slice ad30 s41.length cp31) [(37, q245)] 13 [some 12] rfl rfl rfl rfl rfl rfl fun G a w S => ?_
        refine sLoadHE (r := (rL (rI .i64))) (T := 101) (xs := s15) (u := .slice ad30 s41.length cp31) (v := .slice ad7 s15.length cp8) (vq := q245) (j := s16) 0 S hp247 (wN rfl) rfl rfl rfl rfl rfl (lb rfl) fun a S => ?_
        exact leafL ⟨rfl, S⟩
      · refine fI 39 (iv s40) [(11, iv s40)] 14 [none] rfl rfl rfl rfl rfl rfl fun G a w S => ?_
        refine sMove (iv s40) S (wN rfl) (.inl rfl) rfl rfl (lb rfl) fun a S => ?_
        exact leafL ⟨rfl, S⟩
      · refine fI 45 (iv s40) [(11, iv s40)] 19 [none] rfl rfl rfl rfl rfl rfl fun G a w S => ?_
        refine sMove (iv s40) S (wN rfl) (.inl rfl) rfl rfl (lb rfl) fun a S => ?_
        exact leafL ⟨rfl, S⟩
      · refine fI 46 q291 [(44, .slice ad289 x168.length cp290), (45, iv s40)] 6 [some 9, some 19] rfl rfl rfl rfl rfl rfl fun G a w S => ?_
        refine sIdxV (v := .slice ad289 x168.length cp290) (k := .i64) (j := s40) S (wN rfl) rfl rfl rfl hq292 rfl (lb rfl) fun a S => ?_
        exact leafL ⟨rfl, S⟩
      · refine fI 47 (iv x176) [(46, q291)] 7 [some 6] rfl rfl rfl rfl rfl rfl fun G a w S => ?_
        refine sLoadV1 (vq := q291) 4 (iv x176) S (wN rfl) rfl rfl rfl rfl rfl (lb rfl) fun a S => ?_
        exact leafL ⟨rfl, S⟩
      · refine fI 48 (.func (.func 52) #[] #[]) [(2, .func (.func 52) #[] #[])] 20 [none] rfl rfl rfl rfl rfl rfl fun G a w S => ?_
        refine sMove (.func (.func 52) #[] #[]) S (wN rfl) (.inl rfl) rfl rfl (lb rfl) fun a S => ?_
        exact leafL ⟨rfl, S⟩
      · refine fI 49 (.slice ad1 p0.length cp2) [(0, .slice ad1 p0.length cp2)] 21 [none] rfl rfl rfl rfl rfl rfl fun G a w S => ?_
        refine sMove (.slice ad1 p0.length cp2) S (wN rfl) (.inl rfl) rfl rfl (lb rfl) fun a S => ?_
        exact leafL ⟨rfl, S⟩
      · refine fI 50 (iv s16) [(10, iv s16)] 22 [none] rfl rfl rfl rfl rfl rfl fun G a w S => ?_
        refine sMove (iv s16) S (wN rfl) (.inl rfl) rfl rfl (lb rfl) fun a S => ?_
        exact leafL ⟨rfl, S⟩
      · refine fI 51 q251 [(49, .slice ad1 p0.length cp2), (50, iv s16)] 23 [some 21, some 22] rfl rfl rfl rfl rfl rfl fun G a w S => ?_
        refine sIdxV (v := .slice ad1 p0.length cp2) (k := .i64) (j := s16) S (wN rfl) rfl rfl rfl hq252 rfl (lb rfl) fun a S => ?_
        exact leafL ⟨rfl, S⟩
      · refine fI 52 (.agg #[.bool x181.Back, .slice ad256 x181.Cells.length cp257]) [(51, q251)] 24 [some 23] rfl rfl rfl rfl rfl rfl fun G a w S => ?_
        refine sLoadVN (vq := q251) 21 [.bool x181.Back, .slice ad256 x181.Cells.length cp257] S (wN rfl) rfl rfl rfl rfl rfl rfl (lb rfl) fun a S => ?_
        exact leafL ⟨rfl, S⟩
      · refine fI 53 (iv r190) [(48, .func (.func 52) #[] #[]), (52, .agg #[.bool x181.Back, .slice ad256 x181.Cells.length cp257])] 25 [some 20, some 24] rfl rfl rfl rfl rfl rfl fun G a w S => ?_
        have S1 := S.mem
        refine sCallVQ (X := Unit) (g := 52) (vs := [.agg #[.bool x181.Back, .slice ad256 x181.Cells.length cp257]]) (caps := []) (val := fun _ => iv r190) S (wN rfl) rfl rfl callee52 rfl (S1.quiet [22] rfl) (fun E1 w1 S1 => c_compare_Charts_1 E1 w1 x181 (.agg #[.bool x181.Back, .slice ad256 x181.Cells.length cp257]) r190 hx191 S1) rfl (lb rfl) fun _ a w S => ?_
        exact leafL ⟨rfl, S⟩
      · refine fI 54 (iv (w64 (x176 + r190))) [(47, iv x176), (53, iv r190)] 8 [some 7, some 25] rfl rfl rfl rfl rfl rfl fun G a w S => ?_
        refine sBin (iv (w64 (x176 + r190))) S (wN rfl) rfl rfl rfl (bAdd _ _ _ _ x176 r190) rfl (lb rfl) fun a S => ?_
        exact leafL ⟨rfl, S⟩
      · refine fI 55 (.slice ad7 s15.length cp8) [(9, .slice ad7 s15.length cp8)] 26 [none] rfl rfl rfl rfl rfl rfl fun G a w S => ?_
        refine sMove (.slice ad7 s15.length cp8) S (wN rfl) (.inl rfl) rfl rfl (lb rfl) fun a S => ?_
        exact leafL ⟨rfl, S⟩
      · refine fI 56 (iv s16) [(10, iv s16)] 27 [none] rfl rfl rfl rfl rfl rfl fun G a w S => ?_
        refine sMove (iv s16) S (wN rfl) (.inl rfl) rfl rfl (lb rfl) fun a S => ?_
        exact leafL ⟨rfl, S⟩
      · refine fI 57 q258 [(55, .slice ad7 s15.length cp8), (56, iv s16)] 28 [some 26, some 27] rfl rfl rfl rfl rfl rfl fun G a w S => ?_
        refine sIdxV (v := .slice ad7 s15.length cp8) (k := .i64) (j := s16) S (wN rfl) rfl rfl rfl hq259 rfl (lb rfl) fun a S => ?_
        exact leafL ⟨rfl, S⟩
      · refine fI 58 (.slice ad30 s41.length cp31) [(57, q258)] 29 [some 28] rfl rfl rfl rfl rfl rfl fun G a w S => ?_
        refine sLoadHE (r := (rL (rI .i64))) (T := 101) (xs := s15) (u := .slice ad30 s41.length cp31) (v := .slice ad7 s15.length cp8) (vq := q258) (j := s16) 0 S hp260 (wN rfl) rfl rfl rfl rfl rfl (lb rfl) fun a S => ?_
        exact leafL ⟨rfl, S⟩
      · refine fI 59 (iv s40) [(11, iv s40)] 30 [none] rfl rfl rfl rfl rfl rfl fun G a w S => ?_
        refine sMove (iv s40) S (wN rfl) (.inl rfl) rfl rfl (lb rfl) fun a S => ?_
        exact leafL ⟨rfl, S⟩
      · refine fI 60 (iv (w64 (s40 + 1))) [(59, iv s40)] 31 [some 30] rfl rfl rfl rfl rfl rfl fun G a w S => ?_
        refine sBin (iv (w64 (s40 + 1))) S (wN rfl) rfl rfl rfl (bAdd _ _ _ _ s40 1) rfl (lb rfl) fun a S => ?_
        exact leafL ⟨rfl, S⟩
      · refine fI 61 q261 [(58, .slice ad30 s41.length cp31), (60, iv (w64 (s40 + 1)))] 32 [some 29, some 31] rfl rfl rfl rfl rfl rfl fun G a w S => ?_
        refine sIdxV (v := .slice ad30 s41.length cp31) (k := .i64) (j := w64 (s40 + 1)) S (wN rfl) rfl rfl rfl hq262 rfl (lb rfl) fun a S => ?_
        exact leafL ⟨rfl, S⟩
      · refine fI 62 (iv x195) [(61, q261)] 33 [some 32] rfl rfl rfl rfl rfl rfl fun G a w S => ?_
        refine sLoadR (r := (rI .i64)) (T := 3) (xs := s41) (x := x195) (v := .slice ad30 s41.length cp31) (vq := q261) (j := w64 (s40 + 1)) 1 (iv x195) S hp263 (wN rfl) rfl rfl rfl hx196 (fun _ _ _ h => h) (scal_I _) rfl rfl (lb rfl) fun a S => ?_
        exact leafL ⟨rfl, S⟩
      · refine fI 63 (.func (.func 52) #[] #[]) [(2, .func (.func 52) #[] #[])] 34 [none] rfl rfl rfl rfl rfl rfl fun G a w S => ?_
        refine sMove (.func (.func 52) #[] #[]) S (wN rfl) (.inl rfl) rfl rfl (lb rfl) fun a S => ?_
        exact leafL ⟨rfl, S⟩
      · refine fI 64 (.slice ad3 p1.length cp4) [(1, .slice ad3 p1.length cp4)] 35 [none] rfl rfl rfl rfl rfl rfl fun G a w S => ?_
        refine sMove (.slice ad3 p1.length cp4) S (wN rfl) (.inl rfl) rfl rfl (lb rfl) fun a S => ?_
        exact leafL ⟨rfl, S⟩
      · refine fI 65 (iv s40) [(11, iv s40)] 36 [none] rfl rfl rfl rfl rfl rfl fun G a w S => ?_
        refine sMove (iv s40) S (wN rfl) (.inl rfl) rfl rfl (lb rfl) fun a S => ?_
        exact leafL ⟨rfl, S⟩
      · refine fI 66 q264 [(64, .slice ad3 p1.length cp4), (65, iv s40)] 37 [some 35, some 36] rfl rfl rfl rfl rfl rfl fun G a w S => ?_
        refine sIdxV (v := .slice ad3 p1.length cp4) (k := .i64) (j := s40) S (wN rfl) rfl rfl rfl hq265 rfl (lb rfl) fun a S => ?_
        exact leafL ⟨rfl, S⟩
      · refine fI 67 (.agg #[.bool x200.Back, .slice ad269 x200.Cells.length cp270]) [(66, q264)] 38 [some 37] rfl rfl rfl rfl rfl rfl fun G a w S => ?_
        refine sLoadVN (vq := q264) 17 [.bool x200.Back, .slice ad269 x200.Cells.length cp270] S (wN rfl) rfl rfl rfl rfl rfl rfl (lb rfl) fun a S => ?_
        exact leafL ⟨rfl, S⟩
      · refine fI 68 (iv r209) [(63, .func (.func 52) #[] #[]), (67, .agg #[.bool x200.Back, .slice ad269 x200.Cells.length cp270])] 39 [some 34, some 38] rfl rfl rfl rfl rfl rfl fun G a w S => ?_
        have S1 := S.mem
        refine sCallVQ (X := Unit) (g := 52) (vs := [.agg #[.bool x200.Back, .slice ad269 x200.Cells.length cp270]]) (caps := []) (val := fun _ => iv r209) S (wN rfl) rfl rfl callee52 rfl (S1.quiet [18] rfl) (fun E1 w1 S1 => c_compare_Charts_1 E1 w1 x200 (.agg #[.bool x200.Back, .slice ad269 x200.Cells.length cp270]) r209 hx210 S1) rfl (lb rfl) fun _ a w S => ?_
        exact leafL ⟨rfl, S⟩
      · refine fI 69 (iv (w64 (x195 + r209))) [(62, iv x195), (68, iv r209)] 40 [some 33, some 39] rfl rfl rfl rfl rfl rfl fun G a w S => ?_
        refine sBin (iv (w64 (x195 + r209))) S (wN rfl) rfl rfl rfl (bAdd _ _ _ _ x195 r209) rfl (lb rfl) fun a S => ?_
        exact leafL ⟨rfl, S⟩
      · refine fI 75 (iv s40) [(11, iv s40)] 45 [none] rfl rfl rfl rfl rfl rfl fun G a w S => ?_
        refine sMove (iv s40) S (wN rfl) (.inl rfl) rfl rfl (lb rfl) fun a S => ?_
        exact leafL ⟨rfl, S⟩
      · refine fI 76 (iv (w64 (s40 + 1))) [(75, iv s40)] 46 [some 45] rfl rfl rfl rfl rfl rfl fun G a w S => ?_
        refine sBin (iv (w64 (s40 + 1))) S (wN rfl) rfl rfl rfl (bAdd _ _ _ _ s40 1) rfl (lb rfl) fun a S => ?_
        exact leafL ⟨rfl, S⟩
      · refine fI 77 q297 [(74, .slice ad295 x168.length cp296), (76, iv (w64 (s40 + 1)))] 0 [some 5, some 46] rfl rfl rfl rfl rfl rfl fun G a w S => ?_
        refine sIdxV (v := .slice ad295 x168.length cp296) (k := .i64) (j := w64 (s40 + 1)) S (wN rfl) rfl rfl rfl hq298 rfl (lb rfl) fun a S => ?_
        exact leafL ⟨rfl, S⟩
      · refine fI 78 (iv x217) [(77, q297)] 1 [some 0] rfl rfl rfl rfl rfl rfl fun G a w S => ?_
        refine sLoadV1 (vq := q297) 0 (iv x217) S (wN rfl) rfl rfl rfl rfl rfl (lb rfl) fun a S => ?_
        exact leafL ⟨rfl, S⟩
      · refine fI 79 (.func (.func 53) #[] #[]) [(3, .func (.func 53) #[] #[])] 47 [none] rfl rfl rfl rfl rfl rfl fun G a w S => ?_
        refine sMove (.func (.func 53) #[] #[]) S (wN rfl) (.inl rfl) rfl rfl (lb rfl) fun a S => ?_
        exact leafL ⟨rfl, S⟩
      · refine fI 80 (.slice ad1 p0.length cp2) [(0, .slice ad1 p0.length cp2)] 48 [none] rfl rfl rfl rfl rfl rfl fun G a w S => ?_
        refine sMove (.slice ad1 p0.length cp2) S (wN rfl) (.inl rfl) rfl rfl (lb rfl) fun a S => ?_
        exact leafL ⟨rfl, S⟩
      · refine fI 81 (iv s16) [(10, iv s16)] 49 [none] rfl rfl rfl rfl rfl rfl fun G a w S => ?_
        refine sMove (iv s16) S (wN rfl) (.inl rfl) rfl rfl (lb rfl) fun a S => ?_
        exact leafL ⟨rfl, S⟩
      · refine fI 82 q274 [(80, .slice ad1 p0.length cp2), (81, iv s16)] 50 [some 48, some 49] rfl rfl rfl rfl rfl rfl fun G a w S => ?_
        refine sIdxV (v := .slice ad1 p0.length cp2) (k := .i64) (j := s16) S (wN rfl) rfl rfl rfl hq275 rfl (lb rfl) fun a S => ?_
        exact leafL ⟨rfl, S⟩
      · refine fI 83 (.agg #[.bool x181.Back, .slice ad279 x181.Cells.length cp280]) [(82, q274)] 51 [some 50] rfl rfl rfl rfl rfl rfl fun G a w S => ?_
        refine sLoadVN (vq := q274) 13 [.bool x181.Back, .slice ad279 x181.Cells.length cp280] S (wN rfl) rfl rfl rfl rfl rfl rfl (lb rfl) fun a S => ?_
        exact leafL ⟨rfl, S⟩
      · refine fI 84 (.slice ad3 p1.length cp4) [(1, .slice ad3 p1.length cp4)] 52 [none] rfl rfl rfl rfl rfl rfl fun G a w S => ?_
        refine sMove (.slice ad3 p1.length cp4) S (wN rfl) (.inl rfl) rfl rfl (lb rfl) fun a S => ?_
        exact leafL ⟨rfl, S⟩
      · refine fI 85 (iv s40) [(11, iv s40)] 53 [none] rfl rfl rfl rfl rfl rfl fun G a w S => ?_
        refine sMove (iv s40) S (wN rfl) (.inl rfl) rfl rfl (lb rfl) fun a S => ?_
        exact leafL ⟨rfl, S⟩
      · refine fI 86 q281 [(84, .slice ad3 p1.length cp4), (85, iv s40)] 54 [some 52, some 53] rfl rfl rfl rfl rfl rfl fun G a w S => ?_
        refine sIdxV (v := .slice ad3 p1.length cp4) (k := .i64) (j := s40) S (wN rfl) rfl rfl rfl hq282 rfl (lb rfl) fun a S => ?_
        exact leafL ⟨rfl, S⟩
      · refine fI 87 (.agg #[.bool x200.Back, .slice ad286 x200.Cells.length cp287]) [(86, q281)] 55 [some 54] rfl rfl rfl rfl rfl rfl fun G a w S => ?_
        refine sLoadVN (vq := q281) 9 [.bool x200.Back, .slice ad286 x200.Cells.length cp287] S (wN rfl) rfl rfl rfl rfl rfl rfl (lb rfl) fun a S => ?_
        exact leafL ⟨rfl, S⟩
      · refine fI 88 (iv r236) [(79, .func (.func 53) #[] #[]), (83, .agg #[.bool x181.Back, .slice ad279 x181.Cells.length cp280]), (87, .agg #[.bool x200.Back, .slice ad286 x200.Cells.length cp287])] 56 [some 47, some 51, some 55] rfl rfl rfl rfl rfl rfl fun G a w S => ?_
        have S1 := S.mem
        refine sCallVQ (X := Unit) (g := 53) (vs := [.agg #[.bool x181.Back, .slice ad279 x181.Cells.length cp280], .agg #[.bool x200.Back, .slice ad286 x200.Cells.length cp287]]) (caps := []) (val := fun _ => iv r236) S (wN rfl) rfl rfl callee53 rfl (S1.quiet [14, 10] rfl) (fun E1 w1 S1 => c_compare_Charts_2 E1 w1 x181 (.agg #[.bool x181.Back, .slice ad279 x181.Cells.length cp280]) x200 (.agg #[.bool x200.Back, .slice ad286 x200.Cells.length cp287]) r236 hx237 S1) rfl (lb rfl) fun _ a w S => ?_
        exact leafL ⟨rfl, S⟩
      · refine fI 89 (iv (w64 (x217 + r236))) [(78, iv x217), (88, iv r236)] 2 [some 1, some 56] rfl rfl rfl rfl rfl rfl fun G a w S => ?_
        refine sBin (iv (w64 (x217 + r236))) S (wN rfl) rfl rfl rfl (bAdd _ _ _ _ x217 r236) rfl (lb rfl) fun a S => ?_
        exact leafL ⟨rfl, S⟩
      · refine fI 90 (iv (min3 (w64 (x176 + r190)) (w64 (x195 + r209)) (w64 (x217 + r236)))) [(54, iv (w64 (x176 + r190))), (69, iv (w64 (x195 + r209))), (89, iv (w64 (x217 + r236)))] 3 [some 8, some 40, some 2] rfl rfl rfl rfl rfl rfl fun G a w S => ?_
        refine sMin3 (p := w64 (x176 + r190)) (q := w64 (x195 + r209)) (r := w64 (x217 + r236)) S (wN rfl) rfl rfl rfl rfl rfl (lb rfl) fun a S => ?_
        exact leafL ⟨rfl, S⟩
      · refine fI 91 q300 [(38, .slice ad30 s41.length cp31), (39, iv s40)] 4 [some 13, some 14] rfl rfl rfl rfl rfl rfl fun G a w S => ?_
        refine sIdxV (v := .slice ad30 s41.length cp31) (k := .i64) (j := s40) S (wN rfl) rfl rfl rfl hq301 rfl (lb rfl) fun a S => ?_
        exact leafL ⟨rfl, S⟩
      refine ⟨_, [(90, iv (min3 (w64 (x176 + r190)) (w64 (x195 + r209)) (w64 (x217 + r236)))), (91, q300)], rfl, (srcs_of [some 3, some 4] rfl rfl rfl), fun G a w S => ?_⟩
      refine sStoreR (r := (rI .i64)) (T := 3) (xs := s41) (ys := l243) (y := (min3 (w64 (x176 + r190)) (w64 (x195 + r209)) (w64 (x217 + r236)))) (v := .slice ad30 s41.length cp31) (vq := q300) (u := iv (min3 (w64 (x176 + r190)) (w64 (x195 + r209)) (w64 (x217 + r236)))) (j := s40) 1 S hp302 (wN rfl) rfl rfl rfl rfl rfl hx244 rfl rfl fun a w S => ?_
      refine leafL ⟨rfl, _, _, .inr ⟨[], rfl, S, hz_of rfl, ?_⟩⟩
      refine node_by (A := anc_compare_table_api_Row__s0_2) (nf := [9, 39, 57]) (Y := [57, 39, 9]) 58 (by kernel_rfl) (by kernel_rfl) (by kernel_rfl) (by kernel_rfl) (by kernel_rfl) [42, 43, 54, 55, 56, 39, 11, 12, 19, 9, 0, 1, 2, 3, 4, 5, 6, 7, 8, 10, 13, 14, 15, 16, 17, 18, 20, 21, 22, 23, 24, 25, 26, 27, 28, 29, 30, 31, 32, 33, 34, 35, 36, 37, 38, 40, 41, 44, 45, 46, 47, 48, 49, 50, 51, 52, 53] (by kernel_rfl) (by decide) (by decide) (aD 0 57 57 (by decide) (aD 1 56 57 (by decide) (aD 2 55 57 (by decide) (aD 3 54 57 (by decide) (aD 4 53 57 (by decide) (aD 5 52 57 (by decide) (aD 6 51 57 (by decide) (aD 7 50 57 (by decide) (aD 8 49 57 (by decide) (aY 9 48 (by decide) (aD 10 47 57 (by decide) (aD 11 46 57 (by decide) (aD 12 45 57 (by decide) (aD 13 44 57 (by decide) (aD 14 43 57 (by decide) (aD 15 42 57 (by decide) (aD 16 41 57 (by decide) (aD 17 40 57 (by decide) (aD 18 39 57 (by decide) (aD 19 38 57 (by decide) (aD 20 37 57 (by decide) (aD 21 36 57 (by decide) (aD 22 35 57 (by decide) (aD 23 34 57 (by decide) (aD 24 33 57 (by decide) (aD 25 32 57 (by decide) (aD 26 31 57 (by decide) (aD 27 30 57 (by decide) (aD 28 29 57 (by decide) (aD 29 28 57 (by decide) (aD 30 27 57 (by decide) (aD 31 26 57 (by decide) (aD 32 25 57 (by decide) (aD 33 24 57 (by decide) (aD 34 23 57 (by decide) (aD 35 22 57 (by decide) (aD 36 21 57 (by decide) (aD 37 20 57 (by decide) (aD 38 19 57 (by decide) (aY 39 18 (by decide) (aD 40 17 57 (by decide) (aD 41 16 57 (by decide) (aD 42 15 57 (by decide) (aD 43 14 57 (by decide) (aD 44 13 57 (by decide) (aD 45 12 57 (by decide) (aD 46 11 57 (by decide) (aD 47 10 57 (by decide) (aD 48 9 57 (by decide) (aD 49 8 57 (by decide) (aD 50 7 57 (by decide) (aD 51 6 57 (by decide) (aD 52 5 57 (by decide) (aD 53 4 57 (by decide) (aD 54 3 57 (by decide) (aD 55 2 57 (by decide) (aD 56 1 57 (by decide) (aY 57 0 (by decide) (trivial))))))))))))))))))))))))))))))))))))))))))))))))))))))))))) [(0, .slice ad1 p0.length cp2), (1, .slice ad3 p1.length cp4), (2, .func (.func 52) #[] #[]), (3, .func (.func 53) #[] #[]), (9, .slice ad7 s15.length cp8), (10, iv s16), (11, iv s40)] (fin_of [none, none, none, none, none, none, none] rfl (by kernel_rfl) (by kernel_rfl)) (fun _ a w S => ?_)
      rw [setO_v hx244 ad30 cp31] at S
      exact leafB (leafB (leafT (⟨l243, Option.some.inj h, S.fix [1, 0] [24, 25] (by decide) rfl rfl rfl⟩)))
    · refine fI 75 (iv s40) [(11, iv s40)] 39 [none] rfl rfl rfl rfl rfl rfl fun G a w S => ?_
      refine sMove (iv s40) S (wN rfl) (.inl rfl) rfl rfl (lb rfl) fun a S => ?_
      exact leafL ⟨rfl, S⟩
    · refine fI 76 (iv (w64 (s40 + 1))) [(75, iv s40)] 40 [some 39] rfl rfl rfl rfl rfl rfl fun G a w S => ?_
      refine sBin (iv (w64 (s40 + 1))) S (wN rfl) rfl rfl rfl (bAdd _ _ _ _ s40 1) rfl (lb rfl) fun a S => ?_
      exact leafL ⟨rfl, S⟩
    · refine fI 79 (.func (.func 53) #[] #[]) [(3, .func (.func 53) #[] #[])] 41 [none] rfl rfl rfl rfl rfl rfl fun G a w S => ?_
      refine sMove (.func (.func 53) #[] #[]) S (wN rfl) (.inl rfl) rfl rfl (lb rfl) fun a S => ?_
      exact leafL ⟨rfl, S⟩
    · refine fI 80 (.slice ad1 p0.length cp2) [(0, .slice ad1 p0.length cp2)] 42 [none] rfl rfl rfl rfl rfl rfl fun G a w S => ?_
      refine sMove (.slice ad1 p0.length cp2) S (wN rfl) (.inl rfl) rfl rfl (lb rfl) fun a S => ?_
      exact leafL ⟨rfl, S⟩
    · refine fI 81 (iv s16) [(10, iv s16)] 43 [none] rfl rfl rfl rfl rfl rfl fun G a w S => ?_
      refine sMove (iv s16) S (wN rfl) (.inl rfl) rfl rfl (lb rfl) fun a S => ?_
      exact leafL ⟨rfl, S⟩
    · refine fI 82 q274 [(80, .slice ad1 p0.length cp2), (81, iv s16)] 44 [some 42, some 43] rfl rfl rfl rfl rfl rfl fun G a w S => ?_
      refine sIdxV (v := .slice ad1 p0.length cp2) (k := .i64) (j := s16) S (wN rfl) rfl rfl rfl hq275 rfl (lb rfl) fun a S => ?_
      exact leafL ⟨rfl, S⟩
    · refine fI 83 (.agg #[.bool x181.Back, .slice ad279 x181.Cells.length cp280]) [(82, q274)] 45 [some 44] rfl rfl rfl rfl rfl rfl fun G a w S => ?_
      refine sLoadVN (vq := q274) 9 [.bool x181.Back, .slice ad279 x181.Cells.length cp280] S (wN rfl) rfl rfl rfl rfl rfl rfl (lb rfl) fun a S => ?_
      exact leafL ⟨rfl, S⟩
    · refine fI 84 (.slice ad3 p1.length cp4) [(1, .slice ad3 p1.length cp4)] 46 [none] rfl rfl rfl rfl rfl rfl fun G a w S => ?_
      refine sMove (.slice ad3 p1.length cp4) S (wN rfl) (.inl rfl) rfl rfl (lb rfl) fun a S => ?_
      exact leafL ⟨rfl, S⟩
    · refine fI 85 (iv s40) [(11, iv s40)] 47 [none] rfl rfl rfl rfl rfl rfl fun G a w S => ?_
      refine sMove (iv s40) S (wN rfl) (.inl rfl) rfl rfl (lb rfl) fun a S => ?_
      exact leafL ⟨rfl, S⟩
    · refine fI 86 q281 [(84, .slice ad3 p1.length cp4), (85, iv s40)] 48 [some 46, some 47] rfl rfl rfl rfl rfl rfl fun G a w S => ?_
      refine sIdxV (v := .slice ad3 p1.length cp4) (k := .i64) (j := s40) S (wN rfl) rfl rfl rfl hq282 rfl (lb rfl) fun a S => ?_
      exact leafL ⟨rfl, S⟩
    · refine fI 87 (.agg #[.bool x200.Back, .slice ad286 x200.Cells.length cp287]) [(86, q281)] 49 [some 48] rfl rfl rfl rfl rfl rfl fun G a w S => ?_
      refine sLoadVN (vq := q281) 5 [.bool x200.Back, .slice ad286 x200.Cells.length cp287] S (wN rfl) rfl rfl rfl rfl rfl rfl (lb rfl) fun a S => ?_
      exact leafL ⟨rfl, S⟩
    refine fI 88 (iv r236) [(79, .func (.func 53) #[] #[]), (83, .agg #[.bool x181.Back, .slice ad279 x181.Cells.length cp280]), (87, .agg #[.bool x200.Back, .slice ad286 x200.Cells.length cp287])] 50 [some 41, some 45, some 49] rfl rfl rfl rfl rfl rfl fun G a w S => ?_
    have S1 := S.mem
    refine sCallVQ (X := Unit) (g := 53) (vs := [.agg #[.bool x181.Back, .slice ad279 x181.Cells.length cp280], .agg #[.bool x200.Back, .slice ad286 x200.Cells.length cp287]]) (caps := []) (val := fun _ => iv r236) S (wN rfl) rfl rfl callee53 rfl (S1.quiet [10, 6] rfl) (fun E1 w1 S1 => c_compare_Charts_2 E1 w1 x181 (.agg #[.bool x181.Back, .slice ad279 x181.Cells.length cp280]) x200 (.agg #[.bool x200.Back, .slice ad286 x200.Cells.length cp287]) r236 hx237 S1) rfl (lb rfl) fun _ a w S => ?_
    exact leafL ⟨rfl, S⟩
  · refine fI 45 (iv s40) [(11, iv s40)] 9 [none] rfl rfl rfl rfl rfl rfl fun G a w S => ?_
    refine sMove (iv s40) S (wN rfl) (.inl rfl) rfl rfl (lb rfl) fun a S => ?_
    exact leafL ⟨rfl, S⟩
  · refine fI 48 (.func (.func 52) #[] #[]) [(2, .func (.func 52) #[] #[])] 10 [none] rfl rfl rfl rfl rfl rfl fun G a w S => ?_
    refine sMove (.func (.func 52) #[] #[]) S (wN rfl) (.inl rfl) rfl rfl (lb rfl) fun a S => ?_
    exact leafL ⟨rfl, S⟩
  · refine fI 49 (.slice ad1 p0.length cp2) [(0, .slice ad1 p0.length cp2)] 11 [none] rfl rfl rfl rfl rfl rfl fun G a w S => ?_
    refine sMove (.slice ad1 p0.length cp2) S (wN rfl) (.inl rfl) rfl rfl (lb rfl) fun a S => ?_
    exact leafL ⟨rfl, S⟩
  · refine fI 50 (iv s16) [(10, iv s16)] 12 [none] rfl rfl rfl rfl rfl rfl fun G a w S => ?_
    refine sMove (iv s16) S (wN rfl) (.inl rfl) rfl rfl (lb rfl) fun a S => ?_
    exact leafL ⟨rfl, S⟩
  · refine fI 51 q251 [(49, .slice ad1 p0.length cp2), (50, iv s16)] 13 [some 11, some 12] rfl rfl rfl rfl rfl rfl fun G a w S => ?_
    refine sIdxV (v := .slice ad1 p0.length cp2) (k := .i64) (j := s16) S (wN rfl) rfl rfl rfl hq252 rfl (lb rfl) fun a S => ?_
    exact leafL ⟨rfl, S⟩
  · refine fI 52 (.agg #[.bool x181.Back, .slice ad256 x181.Cells.length cp257]) [(51, q251)] 14 [some 13] rfl rfl rfl rfl rfl rfl fun G a w S => ?_
    refine sLoadVN (vq := q251) 13 [.bool x181.Back, .slice ad256 x181.Cells.length cp257] S (wN rfl) rfl rfl rfl rfl rfl rfl (lb rfl) fun a S => ?_
    exact leafL ⟨rfl, S⟩
  · refine fI 53 (iv r190) [(48, .func (.func 52) #[] #[]), (52, .agg #[.bool x181.Back, .slice ad256 x181.Cells.length cp257])] 15 [some 10, some 14] rfl rfl rfl rfl rfl rfl fun G a w S => ?_
    have S1 := S.mem
    refine sCallVQ (X := Unit) (g := 52) (vs := [.agg #[.bool x181.Back, .slice ad256 x181.Cells.length cp257]]) (caps := []) (val := fun _ => iv r190) S (wN rfl) rfl rfl callee52 rfl (S1.quiet [14] rfl) (fun E1 w1 S1 => c_compare_Charts_1 E1 w1 x181 (.agg #[.bool x181.Back, .slice ad256 x181.Cells.length cp257]) r190 hx191 S1) rfl (lb rfl) fun _ a w S => ?_
    exact leafL ⟨rfl, S⟩
  · refine fI 55 (.slice ad7 s15.length cp8) [(9, .slice ad7 s15.length cp8)] 16 [none] rfl rfl rfl rfl rfl rfl fun G a w S => ?_
    refine sMove (.slice ad7 s15.length cp8) S (wN rfl) (.inl rfl) rfl rfl (lb rfl) fun a S => ?_
    exact leafL ⟨rfl, S⟩
  · refine fI 56 (iv s16) [(10, iv s16)] 17 [none] rfl rfl rfl rfl rfl rfl fun G a w S => ?_
    refine sMove (iv s16) S (wN rfl) (.inl rfl) rfl rfl (lb rfl) fun a S => ?_
    exact leafL ⟨rfl, S⟩
  · refine fI 57 q258 [(55, .slice ad7 s15.length cp8), (56, iv s16)] 18 [some 16, some 17] rfl rfl rfl rfl rfl rfl fun G a w S => ?_
    refine sIdxV (v := .slice ad7 s15.length cp8) (k := .i64) (j := s16) S (wN rfl) rfl rfl rfl hq259 rfl (lb rfl) fun a S => ?_
    exact leafL ⟨rfl, S⟩
  · refine fI 58 (.slice ad30 s41.length cp31) [(57, q258)] 19 [some 18] rfl rfl rfl rfl rfl rfl fun G a w S => ?_
    refine sLoadHE (r := (rL (rI .i64))) (T := 101) (xs := s15) (u := .slice ad30 s41.length cp31) (v := .slice ad7 s15.length cp8) (vq := q258) (j := s16) 0 S hp260 (wN rfl) rfl rfl rfl rfl rfl (lb rfl) fun a S => ?_
    exact leafL ⟨rfl, S⟩
  · refine fI 59 (iv s40) [(11, iv s40)] 20 [none] rfl rfl rfl rfl rfl rfl fun G a w S => ?_
    refine sMove (iv s40) S (wN rfl) (.inl rfl) rfl rfl (lb rfl) fun a S => ?_
    exact leafL ⟨rfl, S⟩
  · refine fI 60 (iv (w64 (s40 + 1))) [(59, iv s40)] 21 [some 20] rfl rfl rfl rfl rfl rfl fun G a w S => ?_
    refine sBin (iv (w64 (s40 + 1))) S (wN rfl) rfl rfl rfl (bAdd _ _ _ _ s40 1) rfl (lb rfl) fun a S => ?_
    exact leafL ⟨rfl, S⟩
  · refine fI 61 q261 [(58, .slice ad30 s41.length cp31), (60, iv (w64 (s40 + 1)))] 22 [some 19, some 21] rfl rfl rfl rfl rfl rfl fun G a w S => ?_
    refine sIdxV (v := .slice ad30 s41.length cp31) (k := .i64) (j := w64 (s40 + 1)) S (wN rfl) rfl rfl rfl hq262 rfl (lb rfl) fun a S => ?_
    exact leafL ⟨rfl, S⟩
  · refine fI 62 (iv x195) [(61, q261)] 23 [some 22] rfl rfl rfl rfl rfl rfl fun G a w S => ?_
    refine sLoadR (r := (rI .i64)) (T := 3) (xs := s41) (x := x195) (v := .slice ad30 s41.length cp31) (vq := q261) (j := w64 (s40 + 1)) 1 (iv x195) S hp263 (wN rfl) rfl rfl rfl hx196 (fun _ _ _ h => h) (scal_I _) rfl rfl (lb rfl) fun a S => ?_
    exact leafL ⟨rfl, S⟩
  · refine fI 63 (.func (.func 52) #[] #[]) [(2, .func (.func 52) #[] #[])] 24 [none] rfl rfl rfl rfl rfl rfl fun G a w S => ?_
    refine sMove (.func (.func 52) #[] #[]) S (wN rfl) (.inl rfl) rfl rfl (lb rfl) fun a S => ?_
    exact leafL ⟨rfl, S⟩
  · refine fI 64 (.slice ad3 p1.length cp4) [(1, .slice ad3 p1.length cp4)] 25 [none] rfl rfl rfl rfl rfl rfl fun G a w S => ?_
    refine sMove (.slice ad3 p1.length cp4) S (wN rfl) (.inl rfl) rfl rfl (lb rfl) fun a S => ?_
    exact leafL ⟨rfl, S⟩
  · refine fI 65 (iv s40) [(11, iv s40)] 26 [none] rfl rfl rfl rfl rfl rfl fun G a w S => ?_
    refine sMove (iv s40) S (wN rfl) (.inl rfl) rfl rfl (lb rfl) fun a S => ?_
    exact leafL ⟨rfl, S⟩
  · refine fI 66 q264 [(64, .slice ad3 p1.length cp4), (65, iv s40)] 27 [some 25, some 26] rfl rfl rfl rfl rfl rfl fun G a w S => ?_
    refine sIdxV (v := .slice ad3 p1.length cp4) (k := .i64) (j := s40) S (wN rfl) rfl rfl rfl hq265 rfl (lb rfl) fun a S => ?_
    exact leafL ⟨rfl, S⟩
  · refine fI 67 (.agg #[.bool x200.Back, .slice ad269 x200.Cells.length cp270]) [(66, q264)] 28 [some 27] rfl rfl rfl rfl rfl rfl fun G a w S => ?_
    refine sLoadVN (vq := q264) 9 [.bool x200.Back, .slice ad269 x200.Cells.length cp270] S (wN rfl) rfl rfl rfl rfl rfl rfl (lb rfl) fun a S => ?_
    exact leafL ⟨rfl, S⟩
  · refine fI 68 (iv r209) [(63, .func (.func 52) #[] #[]), (67, .agg #[.bool x200.Back, .slice ad269 x200.Cells.length cp270])] 29 [some 24, some 28] rfl rfl rfl rfl rfl rfl fun G a w S => ?_
    have S1 := S.mem
    refine sCallVQ (X := Unit) (g := 52) (vs := [.agg #[.bool x200.Back, .slice ad269 x200.Cells.length cp270]]) (caps := []) (val := fun _ => iv r209) S (wN rfl) rfl rfl callee52 rfl (S1.quiet [10] rfl) (fun E1 w1 S1 => c_compare_Charts_1 E1 w1 x200 (.agg #[.bool x200.Back, .slice ad269 x200.Cells.length cp270]) r209 hx210 S1) rfl (lb rfl) fun _ a w S => ?_
    exact leafL ⟨rfl, S⟩
  · refine fI 69 (iv (w64 (x195 + r209))) [(62, iv x195), (68, iv r209)] 30 [some 23, some 29] rfl rfl rfl rfl rfl rfl fun G a w S => ?_
    refine sBin (iv (w64 (x195 + r209))) S (wN rfl) rfl rfl rfl (bAdd _ _ _ _ x195 r209) rfl (lb rfl) fun a S => ?_
    exact leafL ⟨rfl, S⟩
  · refine fI 70 (.slice ad7 s15.length cp8) [(9, .slice ad7 s15.length cp8)] 31 [none] rfl rfl rfl rfl rfl rfl fun G a w S => ?_
    refine sMove (.slice ad7 s15.length cp8) S (wN rfl) (.inl rfl) rfl rfl (lb rfl) fun a S => ?_
    exact leafL ⟨rfl, S⟩
  · refine fI 71 (iv s16) [(10, iv s16)] 32 [none] rfl rfl rfl rfl rfl rfl fun G a w S => ?_
    refine sMove (iv s16) S (wN rfl) (.inl rfl) rfl rfl (lb rfl) fun a S => ?_
    exact leafL ⟨rfl, S⟩
  · refine fI 72 (iv (w64 (s16 + 1))) [(71, iv s16)] 33 [some 32] rfl rfl rfl rfl rfl rfl fun G a w S => ?_
    refine sBin (iv (w64 (s16 + 1))) S (wN rfl) rfl rfl rfl (bAdd _ _ _ _ s16 1) rfl (lb rfl) fun a S => ?_
    exact leafL ⟨rfl, S⟩
  · refine fI 73 q271 [(70, .slice ad7 s15.length cp8), (72, iv (w64 (s16 + 1)))] 34 [some 31, some 33] rfl rfl rfl rfl rfl rfl fun G a w S => ?_
    refine sIdxV (v := .slice ad7 s15.length cp8) (k := .i64) (j := w64 (s16 + 1)) S (wN rfl) rfl rfl rfl hq272 rfl (lb rfl) fun a S => ?_
    exact leafL ⟨rfl, S⟩
  · refine ⟨_, [(73, q271)], rfl, (srcs_of [some 34] rfl rfl rfl), fun G a w S => ?_⟩
    refine sLoadHo (r := (rL (rI .i64))) (T := 101) (xs := s15) (x := x168) (p := (s16).toNat * (rL (rI .i64)).sz + 0) (u := .slice ad30 s41.length cp31) (v := .slice ad7 s15.length cp8) (vq := q271) (j := w64 (s16 + 1)) 0 S hp273 (wN rfl) rfl rfl rfl hx169 (idx_next (by decide) (hole_lim 0 S.mem rfl) hx35 hx169) (scal_L _) rfl rfl (lb rfl) fun a u303 S => ?_
    obtain ⟨ad304, cp305, _, rfl, _⟩ := S.mem.know (i := 0) (e := fRep (rL (rI .i64)) (u303) x168) rfl
    obtain ⟨q306, hq307, S⟩ := pIdx (P := Try.prog) (r := (rI .i64)) (v := .slice ad304 x168.length cp305) (xs := x168) (j := w64 (s40 + 1)) 101 3 0 S Try.underlying101 rfl rfl hx218
    obtain ⟨u308, S⟩ := pLoad (r := (rI .i64)) (q := q306) (x := x217) 0 S rfl
    obtain rfl : u308 = iv x217 := S.mem.know (i := 1) (e := fRep (rI .i64) (u308) x217) rfl
    refine leafL ⟨rfl, _, _, .inl ⟨74, (.slice ad304 x168.length cp305), [(42, 77, q306), (43, 78, iv x217), (54, 89, iv (w64 (x217 + r236)))], rfl, S, hz_of rfl, ?_⟩⟩
    refine node_by (A := anc_compare_table_api_Row__s0_2) (nf := [9, 39, 57]) (Y := [39]) 58 (by kernel_rfl) (by kernel_rfl) (by kernel_rfl) (by kernel_rfl) (by kernel_rfl) [42, 43, 54, 39, 0, 1, 2, 3, 4, 5, 6, 7, 8, 10, 13, 14, 15, 16, 17, 18, 20, 21, 22, 23, 24, 25, 26, 27, 28, 29, 30, 31, 32, 33, 34, 35, 36, 37, 38, 40, 41, 44, 45, 46, 47, 48, 49, 50, 51, 52, 53] (by kernel_rfl) (by decide) (by decide) (aF 0 57 (by decide) ?_ (aF 1 56 (by decide) ?_ (aF 2 55 (by decide) ?_ (aF 3 54 (by decide) ?_ (aF 4 53 (by decide) ?_ (aF 5 52 (by decide) ?_ (aF 6 51 (by decide) ?_ (aF 7 50 (by decide) ?_ (aF 8 49 (by decide) ?_ (aN 9 48 (by decide) ?_ (aF 10 47 (by decide) ?_ (aE 11 46 9 (by decide) (aE 12 45 9 (by decide) (aF 13 44 (by decide) ?_ (aF 14 43 (by decide) ?_ (aF 15 42 (by decide) ?_ (aF 16 41 (by decide) ?_ (aF 17 40 (by decide) ?_ (aF 18 39 (by decide) ?_ (aE 19 38 9 (by decide) (aF 20 37 (by decide) ?_ (aF 21 36 (by decide) ?_ (aF 22 35 (by decide) ?_ (aF 23 34 (by decide) ?_ (aF 24 33 (by decide) ?_ (aF 25 32 (by decide) ?_ (aF 26 31 (by decide) ?_ (aF 27 30 (by decide) ?_ (aF 28 29 (by decide) ?_ (aF 29 28 (by decide) ?_ (aF 30 27 (by decide) ?_ (aF 31 26 (by decide) ?_ (aF 32 25 (by decide) ?_ (aF 33 24 (by decide) ?_ (aF 34 23 (by decide) ?_ (aD 35 22 39 (by decide) (aD 36 21 39 (by decide) (aD 37 20 39 (by decide) (aD 38 19 39 (by decide) (aY 39 18 (by decide) (aF 40 17 (by decide) ?_ (aF 41 16 (by decide) ?_ (aF 42 15 (by decide) ?_ (aF 43 14 (by decide) ?_ (aF 44 13 (by decide) ?_ (aF 45 12 (by decide) ?_ (aF 46 11 (by decide) ?_ (aF 47 10 (by decide) ?_ (aF 48 9 (by decide) ?_ (aF 49 8 (by decide) ?_ (aF 50 7 (by decide) ?_ (aF 51 6 (by decide) ?_ (aF 52 5 (by decide) ?_ (aF 53 4 (by decide) ?_ (aF 54 3 (by decide) ?_ (aE 55 2 9 (by decide) (aE 56 1 9 (by decide) (aB 57 0 9 (by decide) (trivial))))))))))))))))))))))))))))))))))))))))))))))))))))))))))) [] (fun q hq => by cases hq) (fun hY => absurd (hY 9 (by decide)) (by decide))
    · refine fI 35 (.slice ad7 s15.length cp8) [(9, .slice ad7 s15.length cp8)] 4 [none] rfl rfl rfl rfl rfl rfl fun G a w S => ?_
      refine sMove (.slice ad7 s15.length cp8) S (wN rfl) (.inl rfl) rfl rfl (lb rfl) fun a S => ?_
      exact leafL ⟨rfl, S⟩
    · refine fI 36 (iv s16) [(10, iv s16)] 5 [none] rfl rfl rfl rfl rfl rfl fun G a w S => ?_
      refine sMove (iv s16) S (wN rfl) (.inl rfl) rfl rfl (lb rfl) fun a S => ?_
      exact leafL ⟨rfl, S⟩
    · refine fI 37 q245 [(35, .slice ad7 s15.length cp8), (36, iv s16)] 6 [some 4, some 5] rfl rfl rfl rfl rfl rfl fun G a w S => ?_
      refine sIdxV (v := .slice ad7 s15.length cp8) (k := .i64) (j := s16) S (wN rfl) rfl rfl rfl hq246 rfl (lb rfl) fun a S => ?_
      exact leafL ⟨rfl, S⟩
    · refine fI 38 (.slice ad30 s41.length cp31) [(37, q245)] 7 [some 6] rfl rfl rfl rfl rfl rfl fun G a w S => ?_
      refine sLoadHE (r := (rL (rI .i64))) (T := 101) (xs := s15) (u := .slice ad30 s41.length cp31) (v := .slice ad7 s15.length cp8) (vq := q245) (j := s16) 0 S hp247 (wN rfl) rfl rfl rfl rfl rfl (lb rfl) fun a S => ?_
      exact leafL ⟨rfl, S⟩
    · refine fI 39 (iv s40) [(11, iv s40)] 8 [none] rfl rfl rfl rfl rfl rfl fun G a w S => ?_
      refine sMove (iv s40) S (wN rfl) (.inl rfl) rfl rfl (lb rfl) fun a S => ?_
      exact leafL ⟨rfl, S⟩
    · refine fI 40 (.slice ad7 s15.length cp8) [(9, .slice ad7 s15.length cp8)] 9 [none] rfl rfl rfl rfl rfl rfl fun G a w S => ?_
      refine sMove (.slice ad7 s15.length cp8) S (wN rfl) (.inl rfl) rfl rfl (lb rfl) fun a S => ?_
      exact leafL ⟨rfl, S⟩
    · refine fI 41 (iv s16) [(10, iv s16)] 10 [none] rfl rfl rfl rfl rfl rfl fun G a w S => ?_
      refine sMove (iv s16) S (wN rfl) (.inl rfl) rfl rfl (lb rfl) fun a S => ?_
      exact leafL ⟨rfl, S⟩
    · refine fI 42 (iv (w64 (s16 + 1))) [(41, iv s16)] 11 [some 10] rfl rfl rfl rfl rfl rfl fun G a w S => ?_
      refine sBin (iv (w64 (s16 + 1))) S (wN rfl) rfl rfl rfl (bAdd _ _ _ _ s16 1) rfl (lb rfl) fun a S => ?_
      exact leafL ⟨rfl, S⟩
    · refine fI 43 q248 [(40, .slice ad7 s15.length cp8), (42, iv (w64 (s16 + 1)))] 12 [some 9, some 11] rfl rfl rfl rfl rfl rfl fun G a w S => ?_
      refine sIdxV (v := .slice ad7 s15.length cp8) (k := .i64) (j := w64 (s16 + 1)) S (wN rfl) rfl rfl rfl hq249 rfl (lb rfl) fun a S => ?_
      exact leafL ⟨rfl, S⟩
    · refine ⟨_, [(43, q248)], rfl, (srcs_of [some 12] rfl rfl rfl), fun G a w S => ?_⟩
      refine sLoadHo (r := (rL (rI .i64))) (T := 101) (xs := s15) (x := x168) (p := (s16).toNat * (rL (rI .i64)).sz + 0) (u := .slice ad30 s41.length cp31) (v := .slice ad7 s15.length cp8) (vq := q248) (j := w64 (s16 + 1)) 0 S hp250 (wN rfl) rfl rfl rfl hx169 (idx_next (by decide) (hole_lim 0 S.mem rfl) hx35 hx169) (scal_L _) rfl rfl (lb rfl) fun a u309 S => ?_
      obtain ⟨ad310, cp311, _, rfl, _⟩ := S.mem.know (i := 0) (e := fRep (rL (rI .i64)) (u309) x168) rfl
      obtain ⟨q312, hq313, S⟩ := pIdx (P := Try.prog) (r := (rI .i64)) (v := .slice ad310 x168.length cp311) (xs := x168) (j := s40) 101 3 0 S Try.underlying101 rfl rfl hx177
      obtain ⟨u314, S⟩ := pLoad (r := (rI .i64)) (q := q312) (x := x176) 0 S rfl
      obtain rfl : u314 = iv x176 := S.mem.know (i := 1) (e := fRep (rI .i64) (u314) x176) rfl
      obtain ⟨q315, hq316, hp317⟩ := pIdxR (P := Try.prog) (r := (rI .i64)) (T := 3) (v := .slice ad30 s41.length cp31) (xs := s41) (j := s40) 101 3 1 S Try.underlying101 rfl rfl hx239
      refine leafL ⟨rfl, _, _, .inl ⟨44, (.slice ad310 x168.length cp311), [(11, 46, q312), (12, 47, iv x176), (19, 54, iv (w64 (x176 + r190))), (55, 90, iv (min3 (w64 (x176 + r190)) (w64 (x195 + r209)) (w64 (x217 + r236)))), (56, 91, q315)], rfl, S, hz_of rfl, ?_⟩⟩
      refine node_by (A := anc_compare_table_api_Row__s0_2) (nf := [9, 39, 57]) (Y := [9, 39]) 58 (by kernel_rfl) (by kernel_rfl) (by kernel_rfl) (by kernel_rfl) (by kernel_rfl) [11, 12, 19, 55, 56, 9, 42, 43, 54, 39, 0, 1, 2, 3, 4, 5, 6, 7, 8, 10, 13, 14, 15, 16, 17, 18, 20, 21, 22, 23, 24, 25, 26, 27, 28, 29, 30, 31, 32, 33, 34, 35, 36, 37, 38, 40, 41, 44, 45, 46, 47, 48, 49, 50, 51, 52, 53] (by kernel_rfl) (by decide) (by decide) (aF 0 57 (by decide) ?_ (aF 1 56 (by decide) ?_ (aF 2 55 (by decide) ?_ (aF 3 54 (by decide) ?_ (aF 4 53 (by decide) ?_ (aD 5 52 9 (by decide) (aD 6 51 9 (by decide) (aD 7 50 9 (by decide) (aD 8 49 9 (by decide) (aY 9 48 (by decide) (aF 10 47 (by decide) ?_ (aF 11 46 (by decide) ?_ (aF 12 45 (by decide) ?_ (aF 13 44 (by decide) ?_ (aF 14 43 (by decide) ?_ (aF 15 42 (by decide) ?_ (aF 16 41 (by decide) ?_ (aF 17 40 (by decide) ?_ (aF 18 39 (by decide) ?_ (aF 19 38 (by decide) ?_ (aF 20 37 (by decide) ?_ (aF 21 36 (by decide) ?_ (aF 22 35 (by decide) ?_ (aF 23 34 (by decide) ?_ (aF 24 33 (by decide) ?_ (aF 25 32 (by decide) ?_ (aF 26 31 (by decide) ?_ (aF 27 30 (by decide) ?_ (aF 28 29 (by decide) ?_ (aF 29 28 (by decide) ?_ (aF 30 27 (by decide) ?_ (aF 31 26 (by decide) ?_ (aF 32 25 (by decide) ?_ (aF 33 24 (by decide) ?_ (aF 34 23 (by decide) ?_ (aD 35 22 39 (by decide) (aD 36 21 39 (by decide) (aD 37 20 39 (by decide) (aD 38 19 39 (by decide) (aY 39 18 (by decide) (aF 40 17 (by decide) ?_ (aF 41 16 (by decide) ?_ (aF 42 15 (by decide) ?_ (aF 43 14 (by decide) ?_ (aF 44 13 (by decide) ?_ (aF 45 12 (by decide) ?_ (aF 46 11 (by decide) ?_ (aF 47 10 (by decide) ?_ (aF 48 9 (by decide) ?_ (aF 49 8 (by decide) ?_ (aF 50 7 (by decide) ?_ (aF 51 6 (by decide) ?_ (aF 52 5 (by decide) ?_ (aF 53 4 (by decide) ?_ (aF 54 3 (by decide) ?_ (aF 55 2 (by decide) ?_ (aF 56 1 (by decide) ?_ (aN 57 0 (by decide) ?_ (trivial))))))))))))))))))))))))))))))))))))))))))))))))))))))))))) [] (fun q hq => by cases hq) (fun hY => absurd (hY 57 (by decide)) (by decide))
      · refine fI 35 (.slice ad7 s15.length cp8) [(9, .slice ad7 s15.length cp8)] 10 [none] rfl rfl rfl rfl rfl rfl fun G a w S => ?_
        refine sMove (.slice ad7 s15.length cp8) S (wN rfl) (.inl rfl) rfl rfl (lb rfl) fun a S => ?_
        exact leafL ⟨rfl, S⟩
      · refine fI 36 (iv s16) [(10, iv s16)] 11 [none] rfl rfl rfl rfl rfl rfl fun G a w S => ?_
        refine sMove (iv s16) S (wN rfl) (.inl rfl) rfl rfl (lb rfl) fun a S => ?_
        exact leafL ⟨rfl, S⟩
      · refine fI 37 q245 [(35, .slice ad7 s15.length cp8), (36, iv s16)] 12 [some 10, some 11] rfl rfl rfl rfl rfl rfl fun G a w S => ?_
        refine sIdxV (v := .slice ad7 s15.length cp8) (k := .i64) (j := s16) S (wN rfl) rfl rfl rfl hq246 rfl (lb rfl) fun a S => ?_
        exact leafL ⟨rfl, S⟩
      · refine fI 38 (.slice ad30 s41.length cp31) [(37, q245)] 13 [some 12] rfl rfl rfl rfl rfl rfl fun G a w S => ?_
        refine sLoadHE (r := (rL (rI .i64))) (T := 101) (xs := s15) (u := .slice ad30 s41.length cp31) (v := .slice ad7 s15.length cp8) (vq := q245) (j := s16) 0 S hp247 (wN rfl) rfl rfl rfl rfl rfl (lb rfl) fun a S => ?_
        exact leafL ⟨rfl, S⟩
      · refine fI 39 (iv s40) [(11, iv s40)] 14 [none] rfl rfl rfl rfl rfl rfl fun G a w S => ?_
        refine sMove (iv s40) S (wN rfl) (.inl rfl) rfl rfl (lb rfl) fun a S => ?_
        exact leafL ⟨rfl, S⟩
      · refine fI 45 (iv s40) [(11, iv s40)] 19 [none] rfl rfl rfl rfl rfl rfl fun G a w S => ?_
        refine sMove (iv s40) S (wN rfl) (.inl rfl) rfl rfl (lb rfl) fun a S => ?_
        exact leafL ⟨rfl, S⟩
      · refine fI 46 q312 [(44, .slice ad310 x168.length cp311), (45, iv s40)] 0 [some 5, some 19] rfl rfl rfl rfl rfl rfl fun G a w S => ?_
        refine sIdxV (v := .slice ad310 x168.length cp311) (k := .i64) (j := s40) S (wN rfl) rfl rfl rfl hq313 rfl (lb rfl) fun a S => ?_
        exact leafL ⟨rfl, S⟩
      · refine fI 47 (iv x176) [(46, q312)] 1 [some 0] rfl rfl rfl rfl rfl rfl fun G a w S => ?_
        refine sLoadV1 (vq := q312) 0 (iv x176) S (wN rfl) rfl rfl rfl rfl rfl (lb rfl) fun a S => ?_
        exact leafL ⟨rfl, S⟩
      · refine fI 48 (.func (.func 52) #[] #[]) [(2, .func (.func 52) #[] #[])] 20 [none] rfl rfl rfl rfl rfl rfl fun G a w S => ?_
        refine sMove (.func (.func 52) #[] #[]) S (wN rfl) (.inl rfl) rfl rfl (lb rfl) fun a S => ?_
        exact leafL ⟨rfl, S⟩
      · refine fI 49 (.slice ad1 p0.length cp2) [(0, .slice ad1 p0.length cp2)] 21 [none] rfl rfl rfl rfl rfl rfl fun G a w S => ?_
        refine sMove (.slice ad1 p0.length cp2) S (wN rfl) (.inl rfl) rfl rfl (lb rfl) fun a S => ?_
        exact leafL ⟨rfl, S⟩
      · refine fI 50 (iv s16) [(10, iv s16)] 22 [none] rfl rfl rfl rfl rfl rfl fun G a w S => ?_
        refine sMove (iv s16) S (wN rfl) (.inl rfl) rfl rfl (lb rfl) fun a S => ?_
        exact leafL ⟨rfl, S⟩
      · refine fI 51 q251 [(49, .slice ad1 p0.length cp2), (50, iv s16)] 23 [some 21, some 22] rfl rfl rfl rfl rfl rfl fun G a w S => ?_
        refine sIdxV (v := .slice ad1 p0.length cp2) (k := .i64) (j := s16) S (wN rfl) rfl rfl rfl hq252 rfl (lb rfl) fun a S => ?_
        exact leafL ⟨rfl, S⟩
      · refine fI 52 (.agg #[.bool x181.Back, .slice ad256 x181.Cells.length cp257]) [(51, q251)] 24 [some 23] rfl rfl rfl rfl rfl rfl fun G a w S => ?_
        refine sLoadVN (vq := q251) 21 [.bool x181.Back, .slice ad256 x181.Cells.length cp257] S (wN rfl) rfl rfl rfl rfl rfl rfl (lb rfl) fun a S => ?_
        exact leafL ⟨rfl, S⟩
      · refine fI 53 (iv r190) [(48, .func (.func 52) #[] #[]), (52, .agg #[.bool x181.Back, .slice ad256 x181.Cells.length cp257])] 25 [some 20, some 24] rfl rfl rfl rfl rfl rfl fun G a w S => ?_
        have S1 := S.mem
        refine sCallVQ (X := Unit) (g := 52) (vs := [.agg #[.bool x181.Back, .slice ad256 x181.Cells.length cp257]]) (caps := []) (val := fun _ => iv r190) S (wN rfl) rfl rfl callee52 rfl (S1.quiet [22] rfl) (fun E1 w1 S1 => c_compare_Charts_1 E1 w1 x181 (.agg #[.bool x181.Back, .slice ad256 x181.Cells.length cp257]) r190 hx191 S1) rfl (lb rfl) fun _ a w S => ?_
        exact leafL ⟨rfl, S⟩
      · refine fI 54 (iv (w64 (x176 + r190))) [(47, iv x176), (53, iv r190)] 2 [some 1, some 25] rfl rfl rfl rfl rfl rfl fun G a w S => ?_
        refine sBin (iv (w64 (x176 + r190))) S (wN rfl) rfl rfl rfl (bAdd _ _ _ _ x176 r190) rfl (lb rfl) fun a S => ?_
        exact leafL ⟨rfl, S⟩
      · refine fI 55 (.slice ad7 s15.length cp8) [(9, .slice ad7 s15.length cp8)] 26 [none] rfl rfl rfl rfl rfl rfl fun G a w S => ?_
        refine sMove (.slice ad7 s15.length cp8) S (wN rfl) (.inl rfl) rfl rfl (lb rfl) fun a S => ?_
        exact leafL ⟨rfl, S⟩
      · refine fI 56 (iv s16) [(10, iv s16)] 27 [none] rfl rfl rfl rfl rfl rfl fun G a w S => ?_
        refine sMove (iv s16) S (wN rfl) (.inl rfl) rfl rfl (lb rfl) fun a S => ?_
        exact leafL ⟨rfl, S⟩
      · refine fI 57 q258 [(55, .slice ad7 s15.length cp8), (56, iv s16)] 28 [some 26, some 27] rfl rfl rfl rfl rfl rfl fun G a w S => ?_
        refine sIdxV (v := .slice ad7 s15.length cp8) (k := .i64) (j := s16) S (wN rfl) rfl rfl rfl hq259 rfl (lb rfl) fun a S => ?_
        exact leafL ⟨rfl, S⟩
      · refine fI 58 (.slice ad30 s41.length cp31) [(57, q258)] 29 [some 28] rfl rfl rfl rfl rfl rfl fun G a w S => ?_
        refine sLoadHE (r := (rL (rI .i64))) (T := 101) (xs := s15) (u := .slice ad30 s41.length cp31) (v := .slice ad7 s15.length cp8) (vq := q258) (j := s16) 0 S hp260 (wN rfl) rfl rfl rfl rfl rfl (lb rfl) fun a S => ?_
        exact leafL ⟨rfl, S⟩
      · refine fI 59 (iv s40) [(11, iv s40)] 30 [none] rfl rfl rfl rfl rfl rfl fun G a w S => ?_
        refine sMove (iv s40) S (wN rfl) (.inl rfl) rfl rfl (lb rfl) fun a S => ?_
        exact leafL ⟨rfl, S⟩
      · refine fI 60 (iv (w64 (s40 + 1))) [(59, iv s40)] 31 [some 30] rfl rfl rfl rfl rfl rfl fun G a w S => ?_
        refine sBin (iv (w64 (s40 + 1))) S (wN rfl) rfl rfl rfl (bAdd _ _ _ _ s40 1) rfl (lb rfl) fun a S => ?_
        exact leafL ⟨rfl, S⟩
      · refine fI 61 q261 [(58, .slice ad30 s41.length cp31), (60, iv (w64 (s40 + 1)))] 32 [some 29, some 31] rfl rfl rfl rfl rfl rfl fun G a w S => ?_
        refine sIdxV (v := .slice ad30 s41.length cp31) (k := .i64) (j := w64 (s40 + 1)) S (wN rfl) rfl rfl rfl hq262 rfl (lb rfl) fun a S => ?_
        exact leafL ⟨rfl, S⟩
      · refine fI 62 (iv x195) [(61, q261)] 33 [some 32] rfl rfl rfl rfl rfl rfl fun G a w S => ?_
        refine sLoadR (r := (rI .i64)) (T := 3) (xs := s41) (x := x195) (v := .slice ad30 s41.length cp31) (vq := q261) (j := w64 (s40 + 1)) 1 (iv x195) S hp263 (wN rfl) rfl rfl rfl hx196 (fun _ _ _ h => h) (scal_I _) rfl rfl (lb rfl) fun a S => ?_
        exact leafL ⟨rfl, S⟩
      · refine fI 63 (.func (.func 52) #[] #[]) [(2, .func (.func 52) #[] #[])] 34 [none] rfl rfl rfl rfl rfl rfl fun G a w S => ?_
        refine sMove (.func (.func 52) #[] #[]) S (wN rfl) (.inl rfl) rfl rfl (lb rfl) fun a S => ?_
        exact leafL ⟨rfl, S⟩
      · refine fI 64 (.slice ad3 p1.length cp4) [(1, .slice ad3 p1.length cp4)] 35 [none] rfl rfl rfl rfl rfl rfl fun G a w S => ?_
        refine sMove (.slice ad3 p1.length cp4) S (wN rfl) (.inl rfl) rfl rfl (lb rfl) fun a S => ?_
        exact leafL ⟨rfl, S⟩
      · refine fI 65 (iv s40) [(11, iv s40)] 36 [none] rfl rfl rfl rfl rfl rfl fun G a w S => ?_
        refine sMove (iv s40) S (wN rfl) (.inl rfl) rfl rfl (lb rfl) fun a S => ?_
        exact leafL ⟨rfl, S⟩
      · refine fI 66 q264 [(64, .slice ad3 p1.length cp4), (65, iv s40)] 37 [some 35, some 36] rfl rfl rfl rfl rfl rfl fun G a w S => ?_
        refine sIdxV (v := .slice ad3 p1.length cp4) (k := .i64) (j := s40) S (wN rfl) rfl rfl rfl hq265 rfl (lb rfl) fun a S => ?_
        exact leafL ⟨rfl, S⟩
      · refine fI 67 (.agg #[.bool x200.Back, .slice ad269 x200.Cells.length cp270]) [(66, q264)] 38 [some 37] rfl rfl rfl rfl rfl rfl fun G a w S => ?_
        refine sLoadVN (vq := q264) 17 [.bool x200.Back, .slice ad269 x200.Cells.length cp270] S (wN rfl) rfl rfl rfl rfl rfl rfl (lb rfl) fun a S => ?_
        exact leafL ⟨rfl, S⟩
      · refine fI 68 (iv r209) [(63, .func (.func 52) #[] #[]), (67, .agg #[.bool x200.Back, .slice ad269 x200.Cells.length cp270])] 39 [some 34, some 38] rfl rfl rfl rfl rfl rfl fun G a w S => ?_
        have S1 := S.mem
        refine sCallVQ (X := Unit) (g := 52) (vs := [.agg #[.bool x200.Back, .slice ad269 x200.Cells.length cp270]]) (caps := []) (val := fun _ => iv r209) S (wN rfl) rfl rfl callee52 rfl (S1.quiet [18] rfl) (fun E1 w1 S1 => c_compare_Charts_1 E1 w1 x200 (.agg #[.bool x200.Back, .slice ad269 x200.Cells.length cp270]) r209 hx210 S1) rfl (lb rfl) fun _ a w S => ?_
        exact leafL ⟨rfl, S⟩
      · refine fI 69 (iv (w64 (x195 + r209))) [(62, iv x195), (68, iv r209)] 40 [some 33, some 39] rfl rfl rfl rfl rfl rfl fun G a w S => ?_
        refine sBin (iv (w64 (x195 + r209))) S (wN rfl) rfl rfl rfl (bAdd _ _ _ _ x195 r209) rfl (lb rfl) fun a S => ?_
        exact leafL ⟨rfl, S⟩
      · refine fI 75 (iv s40) [(11, iv s40)] 45 [none] rfl rfl rfl rfl rfl rfl fun G a w S => ?_
        refine sMove (iv s40) S (wN rfl) (.inl rfl) rfl rfl (lb rfl) fun a S => ?_
        exact leafL ⟨rfl, S⟩
      · refine fI 76 (iv (w64 (s40 + 1))) [(75, iv s40)] 46 [some 45] rfl rfl rfl rfl rfl rfl fun G a w S => ?_
        refine sBin (iv (w64 (s40 + 1))) S (wN rfl) rfl rfl rfl (bAdd _ _ _ _ s40 1) rfl (lb rfl) fun a S => ?_
        exact leafL ⟨rfl, S⟩
      · refine fI 77 q306 [(74, .slice ad304 x168.length cp305), (76, iv (w64 (s40 + 1)))] 6 [some 9, some 46] rfl rfl rfl rfl rfl rfl fun G a w S => ?_
        refine sIdxV (v := .slice ad304 x168.length cp305) (k := .i64) (j := w64 (s40 + 1)) S (wN rfl) rfl rfl rfl hq307 rfl (lb rfl) fun a S => ?_
        exact leafL ⟨rfl, S⟩
      · refine fI 78 (iv x217) [(77, q306)] 7 [some 6] rfl rfl rfl rfl rfl rfl fun G a w S => ?_
        refine sLoadV1 (vq := q306) 4 (iv x217) S (wN rfl) rfl rfl rfl rfl rfl (lb rfl) fun a S => ?_
        exact leafL ⟨rfl, S⟩
      · refine fI 79 (.func (.func 53) #[] #[]) [(3, .func (.func 53) #[] #[])] 47 [none] rfl rfl rfl rfl rfl rfl fun G a w S => ?_
        refine sMove (.func (.func 53) #[] #[]) S (wN rfl) (.inl rfl) rfl rfl (lb rfl) fun a S => ?_
        exact leafL ⟨rfl, S⟩
      · refine fI 80 (.slice ad1 p0.length cp2) [(0, .slice ad1 p0.length cp2)] 48 [none] rfl rfl rfl rfl rfl rfl fun G a w S => ?_
        refine sMove (.slice ad1 p0.length cp2) S (wN rfl) (.inl rfl) rfl rfl (lb rfl) fun a S => ?_
        exact leafL ⟨rfl, S⟩
      · refine fI 81 (iv s16) [(10, iv s16)] 49 [none] rfl rfl rfl rfl rfl rfl fun G a w S => ?_
        refine sMove (iv s16) S (wN rfl) (.inl rfl) rfl rfl (lb rfl) fun a S => ?_
        exact leafL ⟨rfl, S⟩
      · refine fI 82 q274 [(80, .slice ad1 p0.length cp2), (81, iv s16)] 50 [some 48, some 49] rfl rfl rfl rfl rfl rfl fun G a w S => ?_
        refine sIdxV (v := .slice ad1 p0.length cp2) (k := .i64) (j := s16) S (wN rfl) rfl rfl rfl hq275 rfl (lb rfl) fun a S => ?_
        exact leafL ⟨rfl, S⟩
      · refine fI 83 (.agg #[.bool x181.Back, .slice ad279 x181.Cells.length cp280]) [(82, q274)] 51 [some 50] rfl rfl rfl rfl rfl rfl fun G a w S => ?_
        refine sLoadVN (vq := q274) 13 [.bool x181.Back, .slice ad279 x181.Cells.length cp280] S (wN rfl) rfl rfl rfl rfl rfl rfl (lb rfl) fun a S => ?_
        exact leafL ⟨rfl, S⟩
      · refine fI 84 (.slice ad3 p1.length cp4) [(1, .slice ad3 p1.length cp4)] 52 [none] rfl rfl rfl rfl rfl rfl fun G a w S => ?_
        refine sMove (.slice ad3 p1.length cp4) S (wN rfl) (.inl rfl) rfl rfl (lb rfl) fun a S => ?_
        exact leafL ⟨rfl, S⟩
      · refine fI 85 (iv s40) [(11, iv s40)] 53 [none] rfl rfl rfl rfl rfl rfl fun G a w S => ?_
        refine sMove (iv s40) S (wN rfl) (.inl rfl) rfl rfl (lb rfl) fun a S => ?_
        exact leafL ⟨rfl, S⟩
      · refine fI 86 q281 [(84, .slice ad3 p1.length cp4), (85, iv s40)] 54 [some 52, some 53] rfl rfl rfl rfl rfl rfl fun G a w S => ?_
        refine sIdxV (v := .slice ad3 p1.length cp4) (k := .i64) (j := s40) S (wN rfl) rfl rfl rfl hq282 rfl (lb rfl) fun a S => ?_
        exact leafL ⟨rfl, S⟩
      · refine fI 87 (.agg #[.bool x200.Back, .slice ad286 x200.Cells.length cp287]) [(86, q281)] 55 [some 54] rfl rfl rfl rfl rfl rfl fun G a w S => ?_
        refine sLoadVN (vq := q281) 9 [.bool x200.Back, .slice ad286 x200.Cells.length cp287] S (wN rfl) rfl rfl rfl rfl rfl rfl (lb rfl) fun a S => ?_
        exact leafL ⟨rfl, S⟩
      · refine fI 88 (iv r236) [(79, .func (.func 53) #[] #[]), (83, .agg #[.bool x181.Back, .slice ad279 x181.Cells.length cp280]), (87, .agg #[.bool x200.Back, .slice ad286 x200.Cells.length cp287])] 56 [some 47, some 51, some 55] rfl rfl rfl rfl rfl rfl fun G a w S => ?_
        have S1 := S.mem
        refine sCallVQ (X := Unit) (g := 53) (vs := [.agg #[.bool x181.Back, .slice ad279 x181.Cells.length cp280], .agg #[.bool x200.Back, .slice ad286 x200.Cells.length cp287]]) (caps := []) (val := fun _ => iv r236) S (wN rfl) rfl rfl callee53 rfl (S1.quiet [14, 10] rfl) (fun E1 w1 S1 => c_compare_Charts_2 E1 w1 x181 (.agg #[.bool x181.Back, .slice ad279 x181.Cells.length cp280]) x200 (.agg #[.bool x200.Back, .slice ad286 x200.Cells.length cp287]) r236 hx237 S1) rfl (lb rfl) fun _ a w S => ?_
        exact leafL ⟨rfl, S⟩
      · refine fI 89 (iv (w64 (x217 + r236))) [(78, iv x217), (88, iv r236)] 8 [some 7, some 56] rfl rfl rfl rfl rfl rfl fun G a w S => ?_
        refine sBin (iv (w64 (x217 + r236))) S (wN rfl) rfl rfl rfl (bAdd _ _ _ _ x217 r236) rfl (lb rfl) fun a S => ?_
        exact leafL ⟨rfl, S⟩
      · refine fI 90 (iv (min3 (w64 (x176 + r190)) (w64 (x195 + r209)) (w64 (x217 + r236)))) [(54, iv (w64 (x176 + r190))), (69, iv (w64 (x195 + r209))), (89, iv (w64 (x217 + r236)))] 3 [some 2, some 40, some 8] rfl rfl rfl rfl rfl rfl fun G a w S => ?_
        refine sMin3 (p := w64 (x176 + r190)) (q := w64 (x195 + r209)) (r := w64 (x217 + r236)) S (wN rfl) rfl rfl rfl rfl rfl (lb rfl) fun a S => ?_
        exact leafL ⟨rfl, S⟩
      · refine fI 91 q315 [(38, .slice ad30 s41.length cp31), (39, iv s40)] 4 [some 13, some 14] rfl rfl rfl rfl rfl rfl fun G a w S => ?_
        refine sIdxV (v := .slice ad30 s41.length cp31) (k := .i64) (j := s40) S (wN rfl) rfl rfl rfl hq316 rfl (lb rfl) fun a S => ?_
        exact leafL ⟨rfl, S⟩
      refine ⟨_, [(90, iv (min3 (w64 (x176 + r190)) (w64 (x195 + r209)) (w64 (x217 + r236)))), (91, q315)], rfl, (srcs_of [some 3, some 4] rfl rfl rfl), fun G a w S => ?_⟩
      refine sStoreR (r := (rI .i64)) (T := 3) (xs := s41) (ys := l243) (y := (min3 (w64 (x176 + r190)) (w64 (x195 + r209)) (w64 (x217 + r236)))) (v := .slice ad30 s41.length cp31) (vq := q315) (u := iv (min3 (w64 (x176 + r190)) (w64 (x195 + r209)) (w64 (x217 + r236)))) (j := s40) 1 S hp317 (wN rfl) rfl rfl rfl rfl rfl hx244 rfl rfl fun a w S => ?_
      refine leafL ⟨rfl, _, _, .inr ⟨[], rfl, S, hz_of rfl, ?_⟩⟩
      refine node_by (A := anc_compare_table_api_Row__s0_2) (nf := [9, 39, 57]) (Y := [57, 9, 39]) 58 (by kernel_rfl) (by kernel_rfl) (by kernel_rfl) (by kernel_rfl) (by kernel_rfl) [11, 12, 19, 55, 56, 9, 42, 43, 54, 39, 0, 1, 2, 3, 4, 5, 6, 7, 8, 10, 13, 14, 15, 16, 17, 18, 20, 21, 22, 23, 24, 25, 26, 27, 28, 29, 30, 31, 32, 33, 34, 35, 36, 37, 38, 40, 41, 44, 45, 46, 47, 48, 49, 50, 51, 52, 53] (by kernel_rfl) (by decide) (by decide) (aD 0 57 57 (by decide) (aD 1 56 57 (by decide) (aD 2 55 57 (by decide) (aD 3 54 57 (by decide) (aD 4 53 57 (by decide) (aD 5 52 57 (by decide) (aD 6 51 57 (by decide) (aD 7 50 57 (by decide) (aD 8 49 57 (by decide) (aY 9 48 (by decide) (aD 10 47 57 (by decide) (aD 11 46 57 (by decide) (aD 12 45 57 (by decide) (aD 13 44 57 (by decide) (aD 14 43 57 (by decide) (aD 15 42 57 (by decide) (aD 16 41 57 (by decide) (aD 17 40 57 (by decide) (aD 18 39 57 (by decide) (aD 19 38 57 (by decide) (aD 20 37 57 (by decide) (aD 21 36 57 (by decide) (aD 22 35 57 (by decide) (aD 23 34 57 (by decide) (aD 24 33 57 (by decide) (aD 25 32 57 (by decide) (aD 26 31 57 (by decide) (aD 27 30 57 (by decide) (aD 28 29 57 (by decide) (aD 29 28 57 (by decide) (aD 30 27 57 (by decide) (aD 31 26 57 (by decide) (aD 32 25 57 (by decide) (aD 33 24 57 (by decide) (aD 34 23 57 (by decide) (aD 35 22 57 (by decide) (aD 36 21 57 (by decide) (aD 37 20 57 (by decide) (aD 38 19 57 (by decide) (aY 39 18 (by decide) (aD 40 17 57 (by decide) (aD 41 16 57 (by decide) (aD 42 15 57 (by decide) (aD 43 14 57 (by decide) (aD 44 13 57 (by decide) (aD 45 12 57 (by decide) (aD 46 11 57 (by decide) (aD 47 10 57 (by decide) (aD 48 9 57 (by decide) (aD 49 8 57 (by decide) (aD 50 7 57 (by decide) (aD 51 6 57 (by decide) (aD 52 5 57 (by decide) (aD 53 4 57 (by decide) (aD 54 3 57 (by decide) (aD 55 2 57 (by decide) (aD 56 1 57 (by decide) (aY 57 0 (by decide) (trivial))))))))))))))))))))))))))))))))))))))))))))))))))))))))))) [(0, .slice ad1 p0.length cp2), (1, .slice ad3 p1.length cp4), (2, .func (.func 52) #[] #[]), (3, .func (.func 53) #[] #[]), (9, .slice ad7 s15.length cp8), (10, iv s16), (11, iv s40)] (fin_of [none, none, none, none, none, none, none] rfl (by kernel_rfl) (by kernel_rfl)) (fun _ a w S => ?_)
      rw [setO_v hx244 ad30 cp31] at S
      exact leafB (leafB (leafT (⟨l243, Option.some.inj h, S.fix [1, 0] [24, 25] (by decide) rfl rfl rfl⟩)))
    · refine fI 45 (iv s40) [(11, iv s40)] 13 [none] rfl rfl rfl rfl rfl rfl fun G a w S => ?_
      refine sMove (iv s40) S (wN rfl) (.inl rfl) rfl rfl (lb rfl) fun a S => ?_
      exact leafL ⟨rfl, S⟩
    · refine fI 48 (.func (.func 52) #[] #[]) [(2, .func (.func 52) #[] #[])] 14 [none] rfl rfl rfl rfl rfl rfl fun G a w S => ?_
      refine sMove (.func (.func 52) #[] #[]) S (wN rfl) (.inl rfl) rfl rfl (lb rfl) fun a S => ?_
      exact leafL ⟨rfl, S⟩
    · refine fI 49 (.slice ad1 p0.length cp2) [(0, .slice ad1 p0.length cp2)] 15 [none] rfl rfl rfl rfl rfl rfl fun G a w S => ?_
      refine sMove (.slice ad1 p0.length cp2) S (wN rfl) (.inl rfl) rfl rfl (lb rfl) fun a S => ?_
      exact leafL ⟨rfl, S⟩
    · refine fI 50 (iv s16) [(10, iv s16)] 16 [none] rfl rfl rfl rfl rfl rfl fun G a w S => ?_
      refine sMove (iv s16) S (wN rfl) (.inl rfl) rfl rfl (lb rfl) fun a S => ?_
      exact leafL ⟨rfl, S⟩
    · refine fI 51 q251 [(49, .slice ad1 p0.length cp2), (50, iv s16)] 17 [some 15, some 16] rfl rfl rfl rfl rfl rfl fun G a w S => ?_
      refine sIdxV (v := .slice ad1 p0.length cp2) (k := .i64) (j := s16) S (wN rfl) rfl rfl rfl hq252 rfl (lb rfl) fun a S => ?_
      exact leafL ⟨rfl, S⟩
    · refine fI 52 (.agg #[.bool x181.Back, .slice ad256 x181.Cells.length cp257]) [(51, q251)] 18 [some 17] rfl rfl rfl rfl rfl rfl fun G a w S => ?_
      refine sLoadVN (vq := q251) 17 [.bool x181.Back, .slice ad256 x181.Cells.length cp257] S (wN rfl) rfl rfl rfl rfl rfl rfl (lb rfl) fun a S => ?_
      exact leafL ⟨rfl, S⟩
    · refine fI 53 (iv r190) [(48, .func (.func 52) #[] #[]), (52, .agg #[.bool x181.Back, .slice ad256 x181.Cells.length cp257])] 19 [some 14, some 18] rfl rfl rfl rfl rfl rfl fun G a w S => ?_
      have S1 := S.mem
      refine sCallVQ (X := Unit) (g := 52) (vs := [.agg #[.bool x181.Back, .slice ad256 x181.Cells.length cp257]]) (caps := []) (val := fun _ => iv r190) S (wN rfl) rfl rfl callee52 rfl (S1.quiet [18] rfl) (fun E1 w1 S1 => c_compare_Charts_1 E1 w1 x181 (.agg #[.bool x181.Back, .slice ad256 x181.Cells.length cp257]) r190 hx191 S1) rfl (lb rfl) fun _ a w S => ?_
      exact leafL ⟨rfl, S⟩
    · refine fI 55 (.slice ad7 s15.length cp8) [(9, .slice ad7 s15.length cp8)] 20 [none] rfl rfl rfl rfl rfl rfl fun G a w S => ?_
      refine sMove (.slice ad7 s15.length cp8) S (wN rfl) (.inl rfl) rfl rfl (lb rfl) fun a S => ?_
      exact leafL ⟨rfl, S⟩
    · refine fI 56 (iv s16) [(10, iv s16)] 21 [none] rfl rfl rfl rfl rfl rfl fun G a w S => ?_
      refine sMove (iv s16) S (wN rfl) (.inl rfl) rfl rfl (lb rfl) fun a S => ?_
      exact leafL ⟨rfl, S⟩
    · refine fI 57 q258 [(55, .slice ad7 s15.length cp8), (56, iv s16)] 22 [some 20, some 21] rfl rfl rfl rfl rfl rfl fun G a w S => ?_
      refine sIdxV (v := .slice ad7 s15.length cp8) (k := .i64) (j := s16) S (wN rfl) rfl rfl rfl hq259 rfl (lb rfl) fun a S => ?_
      exact leafL ⟨rfl, S⟩
    · refine fI 58 (.slice ad30 s41.length cp31) [(57, q258)] 23 [some 22] rfl rfl rfl rfl rfl rfl fun G a w S => ?_
      refine sLoadHE (r := (rL (rI .i64))) (T := 101) (xs := s15) (u := .slice ad30 s41.length cp31) (v := .slice ad7 s15.length cp8) (vq := q258) (j := s16) 0 S hp260 (wN rfl) rfl rfl rfl rfl rfl (lb rfl) fun a S => ?_
      exact leafL ⟨rfl, S⟩
    · refine fI 59 (iv s40) [(11, iv s40)] 24 [none] rfl rfl rfl rfl rfl rfl fun G a w S => ?_
      refine sMove (iv s40) S (wN rfl) (.inl rfl) rfl rfl (lb rfl) fun a S => ?_
      exact leafL ⟨rfl, S⟩
    · refine fI 60 (iv (w64 (s40 + 1))) [(59, iv s40)] 25 [some 24] rfl rfl rfl rfl rfl rfl fun G a w S => ?_
      refine sBin (iv (w64 (s40 + 1))) S (wN rfl) rfl rfl rfl (bAdd _ _ _ _ s40 1) rfl (lb rfl) fun a S => ?_
      exact leafL ⟨rfl, S⟩
    · refine fI 61 q261 [(58, .slice ad30 s41.length cp31), (60, iv (w64 (s40 + 1)))] 26 [some 23, some 25] rfl rfl rfl rfl rfl rfl fun G a w S => ?_
      refine sIdxV (v := .slice ad30 s41.length cp31) (k := .i64) (j := w64 (s40 + 1)) S (wN rfl) rfl rfl rfl hq262 rfl (lb rfl) fun a S => ?_
      exact leafL ⟨rfl, S⟩
    · refine fI 62 (iv x195) [(61, q261)] 27 [some 26] rfl rfl rfl rfl rfl rfl fun G a w S => ?_
      refine sLoadR (r := (rI .i64)) (T := 3) (xs := s41) (x := x195) (v := .slice ad30 s41.length cp31) (vq := q261) (j := w64 (s40 + 1)) 1 (iv x195) S hp263 (wN rfl) rfl rfl rfl hx196 (fun _ _ _ h => h) (scal_I _) rfl rfl (lb rfl) fun a S => ?_
      exact leafL ⟨rfl, S⟩
    · refine fI 63 (.func (.func 52) #[] #[]) [(2, .func (.func 52) #[] #[])] 28 [none] rfl rfl rfl rfl rfl rfl fun G a w S => ?_
      refine sMove (.func (.func 52) #[] #[]) S (wN rfl) (.inl rfl) rfl rfl (lb rfl) fun a S => ?_
      exact leafL ⟨rfl, S⟩
    · refine fI 64 (.slice ad3 p1.length cp4) [(1, .slice ad3 p1.length cp4)] 29 [none] rfl rfl rfl rfl rfl rfl fun G a w S => ?_
      refine sMove (.slice ad3 p1.length cp4) S (wN rfl) (.inl rfl) rfl rfl (lb rfl) fun a S => ?_
      exact leafL ⟨rfl, S⟩
    · refine fI 65 (iv s40) [(11, iv s40)] 30 [none] rfl rfl rfl rfl rfl rfl fun G a w S => ?_
      refine sMove (iv s40) S (wN rfl) (.inl rfl) rfl rfl (lb rfl) fun a S => ?_
      exact leafL ⟨rfl, S⟩
    · refine fI 66 q264 [(64, .slice ad3 p1.length cp4), (65, iv s40)] 31 [some 29, some 30] rfl rfl rfl rfl rfl rfl fun G a w S => ?_
      refine sIdxV (v := .slice ad3 p1.length cp4) (k := .i64) (j := s40) S (wN rfl) rfl rfl rfl hq265 rfl (lb rfl) fun a S => ?_
      exact leafL ⟨rfl, S⟩
    · refine fI 67 (.agg #[.bool x200.Back, .slice ad269 x200.Cells.length cp270]) [(66, q264)] 32 [some 31] rfl rfl rfl rfl rfl rfl fun G a w S => ?_
      refine sLoadVN (vq := q264) 13 [.bool x200.Back, .slice ad269 x200.Cells.length cp270] S (wN rfl) rfl rfl rfl rfl rfl rfl (lb rfl) fun a S => ?_
      exact leafL ⟨rfl, S⟩
    · refine fI 68 (iv r209) [(63, .func (.func 52) #[] #[]), (67, .agg #[.bool x200.Back, .slice ad269 x200.Cells.length cp270])] 33 [some 28, some 32] rfl rfl rfl rfl rfl rfl fun G a w S => ?_
      have S1 := S.mem
      refine sCallVQ (X := Unit) (g := 52) (vs := [.agg #[.bool x200.Back, .slice ad269 x200.Cells.length cp270]]) (caps := []) (val := fun _ => iv r209) S (wN rfl) rfl rfl callee52 rfl (S1.quiet [14] rfl) (fun E1 w1 S1 => c_compare_Charts_1 E1 w1 x200 (.agg #[.bool x200.Back, .slice ad269 x200.Cells.length cp270]) r209 hx210 S1) rfl (lb rfl) fun _ a w S => ?_
      exact leafL ⟨rfl, S⟩
    · refine fI 69 (iv (w64 (x195 + r209))) [(62, iv x195), (68, iv r209)] 34 [some 27, some 33] rfl rfl rfl rfl rfl rfl fun G a w S => ?_
      refine sBin (iv (w64 (x195 + r209))) S (wN rfl) rfl rfl rfl (bAdd _ _ _ _ x195 r209) rfl (lb rfl) fun a S => ?_
      exact leafL ⟨rfl, S⟩
    · refine fI 75 (iv s40) [(11, iv s40)] 39 [none] rfl rfl rfl rfl rfl rfl fun G a w S => ?_
      refine sMove (iv s40) S (wN rfl) (.inl rfl) rfl rfl (lb rfl) fun a S => ?_
      exact leafL ⟨rfl, S⟩
    · refine fI 76 (iv (w64 (s40 + 1))) [(75, iv s40)] 40 [some 39] rfl rfl rfl rfl rfl rfl fun G a w S => ?_
      refine sBin (iv (w64 (s40 + 1))) S (wN rfl) rfl rfl rfl (bAdd _ _ _ _ s40 1) rfl (lb rfl) fun a S => ?_
      exact leafL ⟨rfl, S⟩
    · refine fI 77 q306 [(74, .slice ad304 x168.length cp305), (76, iv (w64 (s40 + 1)))] 0 [some 3, some 40] rfl rfl rfl rfl rfl rfl fun G a w S => ?_
      refine sIdxV (v := .slice ad304 x168.length cp305) (k := .i64) (j := w64 (s40 + 1)) S (wN rfl) rfl rfl rfl hq307 rfl (lb rfl) fun a S => ?_
      exact leafL ⟨rfl, S⟩
    · refine fI 78 (iv x217) [(77, q306)] 1 [some 0] rfl rfl rfl rfl rfl rfl fun G a w S => ?_
      refine sLoadV1 (vq := q306) 0 (iv x217) S (wN rfl) rfl rfl rfl rfl rfl (lb rfl) fun a S => ?_
      exact leafL ⟨rfl, S⟩
    · refine fI 79 (.func (.func 53) #[] #[]) [(3, .func (.func 53) #[] #[])] 41 [none] rfl rfl rfl rfl rfl rfl fun G a w S => ?_
      refine sMove (.func (.func 53) #[] #[]) S (wN rfl) (.inl rfl) rfl rfl (lb rfl) fun a S => ?_
      exact leafL ⟨rfl, S⟩
    · refine fI 80 (.slice ad1 p0.length cp2) [(0, .slice ad1 p0.length cp2)] 42 [none] rfl rfl rfl rfl rfl rfl fun G a w S => ?_
      refine sMove (.slice ad1 p0.length cp2) S (wN rfl) (.inl rfl) rfl rfl (lb rfl) fun a S => ?_
      exact leafL ⟨rfl, S⟩
    · refine fI 81 (iv s16) [(10, iv s16)] 43 [none] rfl rfl rfl rfl rfl rfl fun G a w S => ?_
      refine sMove (iv s16) S (wN rfl) (.inl rfl) rfl rfl (lb rfl) fun a S => ?_
      exact leafL ⟨rfl, S⟩
    · refine fI 82 q274 [(80, .slice ad1 p0.length cp2), (81, iv s16)] 44 [some 42, some 43] rfl rfl rfl rfl rfl rfl fun G a w S => ?_
      refine sIdxV (v := .slice ad1 p0.length cp2) (k := .i64) (j := s16) S (wN rfl) rfl rfl rfl hq275 rfl (lb rfl) fun a S => ?_
      exact leafL ⟨rfl, S⟩
    · refine fI 83 (.agg #[.bool x181.Back, .slice ad279 x181.Cells.length cp280]) [(82, q274)] 45 [some 44] rfl rfl rfl rfl rfl rfl fun G a w S => ?_
      refine sLoadVN (vq := q274) 9 [.bool x181.Back, .slice ad279 x181.Cells.length cp280] S (wN rfl) rfl rfl rfl rfl rfl rfl (lb rfl) fun a S => ?_
      exact leafL ⟨rfl, S⟩
    · refine fI 84 (.slice ad3 p1.length cp4) [(1, .slice ad3 p1.length cp4)] 46 [none] rfl rfl rfl rfl rfl rfl fun G a w S => ?_
      refine sMove (.slice ad3 p1.length cp4) S (wN rfl) (.inl rfl) rfl rfl (lb rfl) fun a S => ?_
      exact leafL ⟨rfl, S⟩
    · refine fI 85 (iv s40) [(11, iv s40)] 47 [none] rfl rfl rfl rfl rfl rfl fun G a w S => ?_
      refine sMove (iv s40) S (wN rfl) (.inl rfl) rfl rfl (lb rfl) fun a S => ?_
      exact leafL ⟨rfl, S⟩
    · refine fI 86 q281 [(84, .slice ad3 p1.length cp4), (85, iv s40)] 48 [some 46, some 47] rfl rfl rfl rfl rfl rfl fun G a w S => ?_
      refine sIdxV (v := .slice ad3 p1.length cp4) (k := .i64) (j := s40) S (wN rfl) rfl rfl rfl hq282 rfl (lb rfl) fun a S => ?_
      exact leafL ⟨rfl, S⟩
    · refine fI 87 (.agg #[.bool x200.Back, .slice ad286 x200.Cells.length cp287]) [(86, q281)] 49 [some 48] rfl rfl rfl rfl rfl rfl fun G a w S => ?_
      refine sLoadVN (vq := q281) 5 [.bool x200.Back, .slice ad286 x200.Cells.length cp287] S (wN rfl) rfl rfl rfl rfl rfl rfl (lb rfl) fun a S => ?_
      exact leafL ⟨rfl, S⟩
    · refine fI 88 (iv r236) [(79, .func (.func 53) #[] #[]), (83, .agg #[.bool x181.Back, .slice ad279 x181.Cells.length cp280]), (87, .agg #[.bool x200.Back, .slice ad286 x200.Cells.length cp287])] 50 [some 41, some 45, some 49] rfl rfl rfl rfl rfl rfl fun G a w S => ?_
      have S1 := S.mem
      refine sCallVQ (X := Unit) (g := 53) (vs := [.agg #[.bool x181.Back, .slice ad279 x181.Cells.length cp280], .agg #[.bool x200.Back, .slice ad286 x200.Cells.length cp287]]) (caps := []) (val := fun _ => iv r236) S (wN rfl) rfl rfl callee53 rfl (S1.quiet [10, 6] rfl) (fun E1 w1 S1 => c_compare_Charts_2 E1 w1 x181 (.agg #[.bool x181.Back, .slice ad279 x181.Cells.length cp280]) x200 (.agg #[.bool x200.Back, .slice ad286 x200.Cells.length cp287]) r236 hx237 S1) rfl (lb rfl) fun _ a w S => ?_
      exact leafL ⟨rfl, S⟩
    refine fI 89 (iv (w64 (x217 + r236))) [(78, iv x217), (88, iv r236)] 2 [some 1, some 50] rfl rfl rfl rfl rfl rfl fun G a w S => ?_
    refine sBin (iv (w64 (x217 + r236))) S (wN rfl) rfl rfl rfl (bAdd _ _ _ _ x217 r236) rfl (lb rfl) fun a S => ?_
    exact leafL ⟨rfl, S⟩
  · refine fI 75 (iv s40) [(11, iv s40)] 35 [none] rfl rfl rfl rfl rfl rfl fun G a w S => ?_
    refine sMove (iv s40) S (wN rfl) (.inl rfl) rfl rfl (lb rfl) fun a S => ?_
    exact leafL ⟨rfl, S⟩
  · refine fI 76 (iv (w64 (s40 + 1))) [(75, iv s40)] 36 [some 35] rfl rfl rfl rfl rfl rfl fun G a w S => ?_
    refine sBin (iv (w64 (s40 + 1))) S (wN rfl) rfl rfl rfl (bAdd _ _ _ _ s40 1) rfl (lb rfl) fun a S => ?_
    exact leafL ⟨rfl, S⟩
  · refine fI 79 (.func (.func 53) #[] #[]) [(3, .func (.func 53) #[] #[])] 37 [none] rfl rfl rfl rfl rfl rfl fun G a w S => ?_
    refine sMove (.func (.func 53) #[] #[]) S (wN rfl) (.inl rfl) rfl rfl (lb rfl) fun a S => ?_
    exact leafL ⟨rfl, S⟩
  · refine fI 80 (.slice ad1 p0.length cp2) [(0, .slice ad1 p0.length cp2)] 38 [none] rfl rfl rfl rfl rfl rfl fun G a w S => ?_
    refine sMove (.slice ad1 p0.length cp2) S (wN rfl) (.inl rfl) rfl rfl (lb rfl) fun a S => ?_
    exact leafL ⟨rfl, S⟩
  · refine fI 81 (iv s16) [(10, iv s16)] 39 [none] rfl rfl rfl rfl rfl rfl fun G a w S => ?_
    refine sMove (iv s16) S (wN rfl) (.inl rfl) rfl rfl (lb rfl) fun a S => ?_
    exact leafL ⟨rfl, S⟩
  · refine fI 82 q274 [(80, .slice ad1 p0.length cp2), (81, iv s16)] 40 [some 38, some 39] rfl rfl rfl rfl rfl rfl fun G a w S => ?_
    refine sIdxV (v := .slice ad1 p0.length cp2) (k := .i64) (j := s16) S (wN rfl) rfl rfl rfl hq275 rfl (lb rfl) fun a S => ?_
    exact leafL ⟨rfl, S⟩
  · refine fI 83 (.agg #[.bool x181.Back, .slice ad279 x181.Cells.length cp280]) [(82, q274)] 41 [some 40] rfl rfl rfl rfl rfl rfl fun G a w S => ?_
    refine sLoadVN (vq := q274) 5 [.bool x181.Back, .slice ad279 x181.Cells.length cp280] S (wN rfl) rfl rfl rfl rfl rfl rfl (lb rfl) fun a S => ?_
    exact leafL ⟨rfl, S⟩
  · refine fI 84 (.slice ad3 p1.length cp4) [(1, .slice ad3 p1.length cp4)] 42 [none] rfl rfl rfl rfl rfl rfl fun G a w S => ?_
    refine sMove (.slice ad3 p1.length cp4) S (wN rfl) (.inl rfl) rfl rfl (lb rfl) fun a S => ?_
    exact leafL ⟨rfl, S⟩
  · refine fI 85 (iv s40) [(11, iv s40)] 43 [none] rfl rfl rfl rfl rfl rfl fun G a w S => ?_
    refine sMove (iv s40) S (wN rfl) (.inl rfl) rfl rfl (lb rfl) fun a S => ?_
    exact leafL ⟨rfl, S⟩
  · refine fI 86 q281 [(84, .slice ad3 p1.length cp4), (85, iv s40)] 44 [some 42, some 43] rfl rfl rfl rfl rfl rfl fun G a w S => ?_
    refine sIdxV (v := .slice ad3 p1.length cp4) (k := .i64) (j := s40) S (wN rfl) rfl rfl rfl hq282 rfl (lb rfl) fun a S => ?_
    exact leafL ⟨rfl, S⟩
  · refine fI 87 (.agg #[.bool x200.Back, .slice ad286 x200.Cells.length cp287]) [(86, q281)] 45 [some 44] rfl rfl rfl rfl rfl rfl fun G a w S => ?_
    refine sLoadVN (vq := q281) 1 [.bool x200.Back, .slice ad286 x200.Cells.length cp287] S (wN rfl) rfl rfl rfl rfl rfl rfl (lb rfl) fun a S => ?_
    exact leafL ⟨rfl, S⟩
  refine fI 88 (iv r236) [(79, .func (.func 53) #[] #[]), (83, .agg #[.bool x181.Back, .slice ad279 x181.Cells.length cp280]), (87, .agg #[.bool x200.Back, .slice ad286 x200.Cells.length cp287])] 46 [some 37, some 41, some 45] rfl rfl rfl rfl rfl rfl fun G a w S => ?_
  have S1 := S.mem
  refine sCallVQ (X := Unit) (g := 53) (vs := [.agg #[.bool x181.Back, .slice ad279 x181.Cells.length cp280], .agg #[.bool x200.Back, .slice ad286 x200.Cells.length cp287]]) (caps := []) (val := fun _ => iv r236) S (wN rfl) rfl rfl callee53 rfl (S1.quiet [6, 2] rfl) (fun E1 w1 S1 => c_compare_Charts_2 E1 w1 x181 (.agg #[.bool x181.Back, .slice ad279 x181.Cells.length cp280]) x200 (.agg #[.bool x200.Back, .slice ad286 x200.Cells.length cp287]) r236 hx237 S1) rfl (lb rfl) fun _ a w S => ?_
  exact leafL ⟨rfl, S⟩

end Go.Proofs.Ytffikfajljbmnaa
