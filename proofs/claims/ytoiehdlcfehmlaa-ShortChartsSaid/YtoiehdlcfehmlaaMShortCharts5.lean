/- Several texts in one: G18 PlH G13 G14 G4 LHC FrShortCharts -/
import Derived.WalkKit
import Derived.Maps.AppendAt
import Derived.Deep.AppendLies
import Derived.KernelRfl
import Derived.Laws.OwnMore
import Derived.Great.BuildSlice
import Derived.Orders
import Derived.Laws.StructEq
import Derived.ChangeKeysEq
import Derived.Defers
import Derived.Laws.BytesString
import Derived.RangeFuncNested
import Derived.RangeFuncBound
import Derived.RangeFuncCalls
import Derived.RangeFuncLeaves
import Derived.OrdersIn
import Derived.LoopNIn
import Derived.Test.YtoiehdlcfehmlaaProg
import Derived.ProofKit
import Derived.OpenShut
import Derived.ChangeOld
import Derived.Deep.Slices
import Derived.Lib.SmallJoins
import Derived.JoinedOf
import Derived.JoinedAt
import Derived.Below
import Derived.Test.YtoiehdlcfehmlaaRows
import Derived.Test.YtoiehdlcfehmlaaMShortCharts4
namespace Go.Proofs.Ytoiehdlcfehmlaa
open Go.RowKit
set_option linter.unusedVariables false

noncomputable def raddleref38_Read_l1 (p0 : api_Chart) (s17 : Int) : (Int × Int) → Option ((Int × Int) ⊕ Int) := fun s0 => match s0 with
  | (s37, s38) =>
    Option.bind (idxO p0.Rows s17) fun x45 =>
    if decide (s38 < (x45.Cells.length : Int)) then
      Option.bind (α := Int) (
        Option.bind (idxO x45.Cells s38) fun x66 =>
        if x66.Kind == 1 then
          some (w64 (s37 + 1))
        else
          some s37) fun o55 =>
      some (.inl (o55, w64 (s38 + 1)))
    else
      some (.inr s37)
noncomputable def raddleref38_Read_l2 (p0 : api_Chart) : (List Int × Int) → Option ((List Int × Int) ⊕ List Int) := fun s0 => match s0 with
  | (s14, s17) =>
    if decide (s17 < (p0.Rows.length : Int)) then
      Option.bind (α := List Int) (
        Option.bind (α := Int) (
          Option.bind (whileO (raddleref38_Read_l1 p0 s17) (0, 0)) fun e42 =>
            some e42) fun o33 =>
        Option.bind (appO s14 ([o33] : List Int)) fun l76 =>
        some l76) fun o27 =>
      some (.inl (o27, w64 (s17 + 2)))
    else
      some (.inr s14)
noncomputable def F_raddleref38_Read (p0 : api_Chart) : Option (Int × (List Int) × Int) :=
  Option.bind (α := List Int) (
    Option.bind (whileO (raddleref38_Read_l2 p0) (([] : List Int), 0)) fun e21 =>
      some e21) fun o8 =>
  Option.bind (F_raddleref38_Chart p0.Start o8) fun r81 =>
  Option.bind (α := Bool) (
    if r81.2 != 0 then
      some true
    else
      Option.bind (F_raddleref37_SameChart p0 r81.1) fun r94 =>
      some (!r94)) fun o90 =>
  if o90 then
    some (0, ([] : (List Int)), 8)
  else
    some (p0.Start, o8, 0)
def c_raddleref38_Read_val (r : (Int × (List Int) × Int)) (x : Value) : Value := .tuple #[.int .i64 r.1, x, .int .i64 r.2.2]
def c_raddleref38_Read_D (r : (Int × (List Int) × Int)) (x : Value) : List Fact := [fRep (rL (rI .i64)) x r.2.1]
set_option maxHeartbeats 4000000 in
set_option maxRecDepth 100000 in
theorem c_raddleref38_Read (E : Nat → Prop) (w0 : World) (p0 : api_Chart) (v0 : Value) (r : (Int × (List Int) × Int)) (h : F_raddleref38_Read p0 = some r) (S : St0 E [] w0 w0 [] [fRep r_api_Chart (v0) p0]) :
    Calls Try.prog 18 #[v0] w0 (Ret (X := Value) E [] w0 (c_raddleref38_Read_val r) (fun _ => []) (c_raddleref38_Read_D r)) := by
  unfold F_raddleref38_Read at h
  obtain ⟨u1, rfl, hu2⟩ := S.know (i := 0) (e := fRep r_api_Chart (v0) p0) (by kernel_rfl)
  have S := S.learn (fRep (rL r_api_Row) u1 p0.Rows) hu2
  obtain ⟨ad3, cp4, _, rfl, _⟩ := hu2
  refine sEnter (args := [.agg #[.int .i64 p0.Start, .slice ad3 p0.Rows.length cp4]]) 64 Try.func18 rfl rfl (by simp) S (fun a S => ?_)
  refine sSeq (fun K5 hK5 => ?_)
  refine sRegion ?_
  refine sBox (v := .agg #[.int .i64 p0.Start, .slice ad3 p0.Rows.length cp4]) S (wN rfl) rfl (by kernel_rfl) [.int .i64 p0.Start, .slice ad3 p0.Rows.length cp4] rfl rfl (by decide) (fun a b6 w S => ?_)
  refine sMove (.int .i64 0) S (wN rfl) (.inr rfl) (by kernel_rfl) rfl (by decide) (fun a S => ?_)
  refine sMove (.slice none 0 0) S (wN rfl) (.inr rfl) (by kernel_rfl) rfl (by decide) (fun a S => ?_)
  refine sMove (.int .i64 0) S (wN rfl) (.inr rfl) (by kernel_rfl) rfl (by decide) (fun a S => ?_)
  refine leafL (leafT (hK5 _ _ ?_))
  refine sSeq (fun K7 hK7 => ?_)
  refine sRegion ?_
  refine sMove (.slice none 0 0) S (wN rfl) (.inr rfl) (by kernel_rfl) rfl (by decide) (fun a S => ?_)
  refine leafL (leafT (hK7 _ _ ?_))
  obtain ⟨t11, h, g12⟩ := bindSome h
  refine sCut (fun a w => ∃ o8, o8 = t11 ∧ ∃ ad9, ∃ cp10, St [] E [] w0 64 a w [(1, .pointer (some ⟨b6, 0, none⟩)), (5, .slice ad9 o8.length cp10)] [eBox b6 40 [.int .i64 p0.Start, .slice ad3 p0.Rows.length cp4], eRow (rI .i64) 3 (.slice ad9 o8.length cp10) o8] [fRep (rL r_api_Row) (.slice ad3 p0.Rows.length cp4) p0.Rows]) ?_ (fun a w hI => ?_)
  · refine sSeq (fun K13 hK13 => ?_)
    refine sRegion ?_
    refine sMove (.int .i64 0) S (wN rfl) (.inr rfl) (by kernel_rfl) rfl (by decide) (fun a S => ?_)
    refine leafL (leafT (hK13 _ _ ?_))
    refine wp_block ?_
    have S := S.nilRow (rI .i64) 3 (α := Int)
    obtain ⟨t20, hl, g19⟩ := bindSome h
    refine sLoop hl (fun s0 a w => match s0 with | (s14, s17) => ∃ ad15, ∃ cp16, St [] E [] w0 64 a w [(1, .pointer (some ⟨b6, 0, none⟩)), (5, .slice ad15 s14.length cp16), (6, .int .i64 s17)] [eBox b6 40 [.int .i64 p0.Start, .slice ad3 p0.Rows.length cp4], eRow (rI .i64) 3 (.slice ad15 s14.length cp16) s14] [fRep (rL r_api_Row) (.slice ad3 p0.Rows.length cp4) p0.Rows]) ⟨none, 0, S.fix [1, 0] [0] (by decide) (by kernel_rfl) (by kernel_rfl) (by kernel_rfl)⟩ ?_
    clear hl h
    intro s0 a w c0 hI h hu18
    obtain ⟨s14, s17⟩ := s0
    unfold raddleref38_Read_l2 at h
    dsimp only at h hI
    obtain ⟨ad15, cp16, S⟩ := hI
    refine sSeq (fun K24 hK24 => ?_)
    refine sSeq (fun K25 hK25 => ?_)
    refine sRegion ?_
    refine sMove (.int .i64 s17) S (wN rfl) (.inl rfl) (by kernel_rfl) rfl (by decide) (fun a S => ?_)
    refine sField (b := b6) (off := 0) 1 1 S (wN rfl) rfl (by kernel_rfl) (by kernel_rfl) rfl rfl (by decide) (fun a S => ?_)
    refine sLoad1 (p := b6) (off := 1) (T := 40) (vs := [.int .i64 p0.Start, .slice ad3 p0.Rows.length cp4]) 0 (.slice ad3 p0.Rows.length cp4) S (wN rfl) rfl (by kernel_rfl) (by kernel_rfl) (by kernel_rfl) rfl rfl (by decide) (fun a S => ?_)
    refine sLen (ad := ad3) (m := p0.Rows.length) (c := cp4) S (wN rfl) rfl Try.underlying38 (by kernel_rfl) rfl (by decide) (fun a S => ?_)
    refine sBin (.bool (decide (s17 < (p0.Rows.length : Int)))) S (wN rfl) rfl (by kernel_rfl) (by kernel_rfl) (bLt _ _ _ _ .i64 s17 (p0.Rows.length : Int)) rfl (by decide) (fun a S => ?_)
    refine leafL (leafT (hK25 _ _ ?_))
    rcases iteSome h with ⟨hc26, h⟩ | ⟨hc26, h⟩
    · refine sCondT (b := decide (s17 < (p0.Rows.length : Int))) S (by kernel_rfl) hc26 ?_
      refine wp_skip (leafT (hK24 _ _ ?_))
      obtain ⟨t30, h, g31⟩ := bindSome h
      refine sCut (fun a w => ∃ o27, o27 = t30 ∧ ∃ ad28, ∃ cp29, St [] E [] w0 64 a w [(1, .pointer (some ⟨b6, 0, none⟩)), (5, .slice ad28 o27.length cp29), (6, .int .i64 s17)] [eBox b6 40 [.int .i64 p0.Start, .slice ad3 p0.Rows.length cp4], eRow (rI .i64) 3 (.slice ad28 o27.length cp29) o27] [fRep (rL r_api_Row) (.slice ad3 p0.Rows.length cp4) p0.Rows]) ?_ (fun a w hI => ?_)
      · refine wp_block ?_
        refine sSeq (fun K32 hK32 => ?_)
        refine sRegion ?_
        refine sMove (.int .i64 0) S (wN rfl) (.inr rfl) (by kernel_rfl) rfl (by decide) (fun a S => ?_)
        refine leafL (leafT (hK32 _ _ ?_))
        obtain ⟨t34, h, g35⟩ := bindSome h
        refine sCut (fun a w => ∃ o33, o33 = t34 ∧ St [] E [] w0 64 a w [(1, .pointer (some ⟨b6, 0, none⟩)), (5, .slice ad15 s14.length cp16), (6, .int .i64 s17), (7, .int .i64 o33)] [eBox b6 40 [.int .i64 p0.Start, .slice ad3 p0.Rows.length cp4], eRow (rI .i64) 3 (.slice ad15 s14.length cp16) s14] [fRep (rL r_api_Row) (.slice ad3 p0.Rows.length cp4) p0.Rows]) ?_ (fun a w hI => ?_)
        · refine sSeq (fun K36 hK36 => ?_)
          refine sRegion ?_
          refine sMove (.int .i64 0) S (wN rfl) (.inr rfl) (by kernel_rfl) rfl (by decide) (fun a S => ?_)
          refine leafL (leafT (hK36 _ _ ?_))
          refine wp_block ?_
          obtain ⟨t41, hl, g40⟩ := bindSome h
          refine sLoop hl (fun s0 a w => match s0 with | (s37, s38) => St [] E [] w0 64 a w [(1, .pointer (some ⟨b6, 0, none⟩)), (5, .slice ad15 s14.length cp16), (6, .int .i64 s17), (7, .int .i64 s37), (8, .int .i64 s38)] [eBox b6 40 [.int .i64 p0.Start, .slice ad3 p0.Rows.length cp4], eRow (rI .i64) 3 (.slice ad15 s14.length cp16) s14] [fRep (rL r_api_Row) (.slice ad3 p0.Rows.length cp4) p0.Rows]) (S.fix [0, 1] [0] (by decide) (by kernel_rfl) (by kernel_rfl) (by kernel_rfl)) ?_
          clear hl h
          intro s0 a w c0 hI h hu39
          obtain ⟨s37, s38⟩ := s0
          unfold raddleref38_Read_l1 at h
          dsimp only at h hI
          have S := hI
          refine sSeq (fun K43 hK43 => ?_)
          refine sSeq (fun K44 hK44 => ?_)
          refine sRegion ?_
          refine sMove (.int .i64 s38) S (wN rfl) (.inl rfl) (by kernel_rfl) rfl (by decide) (fun a S => ?_)
          refine sField (b := b6) (off := 0) 1 1 S (wN rfl) rfl (by kernel_rfl) (by kernel_rfl) rfl rfl (by decide) (fun a S => ?_)
          refine sLoad1 (p := b6) (off := 1) (T := 40) (vs := [.int .i64 p0.Start, .slice ad3 p0.Rows.length cp4]) 0 (.slice ad3 p0.Rows.length cp4) S (wN rfl) rfl (by kernel_rfl) (by kernel_rfl) (by kernel_rfl) rfl rfl (by decide) (fun a S => ?_)
          refine sMove (.int .i64 s17) S (wN rfl) (.inl rfl) (by kernel_rfl) rfl (by decide) (fun a S => ?_)
          obtain ⟨x45, hx46, h⟩ := bindSome h
          obtain ⟨q47, hq48, S⟩ := pIdx (P := Try.prog) (r := r_api_Row) (v := .slice ad3 p0.Rows.length cp4) (xs := p0.Rows) (j := s17) 38 57 0 S Try.underlying38 (by kernel_rfl) (by kernel_rfl) hx46
          refine sIdxV (v := .slice ad3 p0.Rows.length cp4) (k := .i64) (j := s17) S (wN rfl) rfl (by kernel_rfl) (by kernel_rfl) hq48 rfl (by decide) (fun a S => ?_)
          obtain ⟨q49, hq50, S⟩ := pFld (P := Try.prog) (r := r_api_Row) (s2 := (rL r_api_Stitch)) (g := (·.Cells)) (q := q47) (z := x45) 57 1 0 1 S (by kernel_rfl) (by kernel_rfl) comp_api_Row_Cells
          refine sFldV (q := q47) S (wN rfl) rfl (by kernel_rfl) hq50 rfl (by decide) (fun a S => ?_)
          obtain ⟨u51, S⟩ := pLoad (r := (rL r_api_Stitch)) (q := q49) (x := x45.Cells) 0 S (by kernel_rfl)
          obtain ⟨ad52, cp53, _, rfl, _⟩ := S.mem.know (i := 1) (e := fRep (rL r_api_Stitch) (u51) x45.Cells) (by kernel_rfl)
          refine sLoadV1 (vq := q49) 0 (.slice ad52 x45.Cells.length cp53) S (wN rfl) rfl (by kernel_rfl) (by kernel_rfl) (by kernel_rfl) rfl (by decide) (fun a S => ?_)
          refine sLen (ad := ad52) (m := x45.Cells.length) (c := cp53) S (wN rfl) rfl Try.underlying55 (by kernel_rfl) rfl (by decide) (fun a S => ?_)
          refine sBin (.bool (decide (s38 < (x45.Cells.length : Int)))) S (wN rfl) rfl (by kernel_rfl) (by kernel_rfl) (bLt _ _ _ _ .i64 s38 (x45.Cells.length : Int)) rfl (by decide) (fun a S => ?_)
          refine leafL (leafT (hK44 _ _ ?_))
          rcases iteSome h with ⟨hc54, h⟩ | ⟨hc54, h⟩
          · refine sCondT (b := decide (s38 < (x45.Cells.length : Int))) S (by kernel_rfl) hc54 ?_
            refine wp_skip (leafT (hK43 _ _ ?_))
            obtain ⟨t56, h, g57⟩ := bindSome h
            refine sCut (fun a w => ∃ o55, o55 = t56 ∧ St [] E [] w0 64 a w [(1, .pointer (some ⟨b6, 0, none⟩)), (5, .slice ad15 s14.length cp16), (6, .int .i64 s17), (7, .int .i64 o55), (8, .int .i64 s38)] [eBox b6 40 [.int .i64 p0.Start, .slice ad3 p0.Rows.length cp4], eRow (rI .i64) 3 (.slice ad15 s14.length cp16) s14] [fRep (rL r_api_Row) (.slice ad3 p0.Rows.length cp4) p0.Rows]) ?_ (fun a w hI => ?_)
            · refine wp_block ?_
              refine sSeq (fun K58 hK58 => ?_)
              refine sRegion ?_
              refine sField (b := b6) (off := 0) 1 1 S (wN rfl) rfl (by kernel_rfl) (by kernel_rfl) rfl rfl (by decide) (fun a S => ?_)
              refine sLoad1 (p := b6) (off := 1) (T := 40) (vs := [.int .i64 p0.Start, .slice ad3 p0.Rows.length cp4]) 0 (.slice ad3 p0.Rows.length cp4) S (wN rfl) rfl (by kernel_rfl) (by kernel_rfl) (by kernel_rfl) rfl rfl (by decide) (fun a S => ?_)
              refine sMove (.int .i64 s17) S (wN rfl) (.inl rfl) (by kernel_rfl) rfl (by decide) (fun a S => ?_)
              obtain ⟨q59, hq60, S⟩ := pIdx (P := Try.prog) (r := r_api_Row) (v := .slice ad3 p0.Rows.length cp4) (xs := p0.Rows) (j := s17) 38 57 4 S Try.underlying38 (by kernel_rfl) (by kernel_rfl) hx46
              refine sIdxV (v := .slice ad3 p0.Rows.length cp4) (k := .i64) (j := s17) S (wN rfl) rfl (by kernel_rfl) (by kernel_rfl) hq60 rfl (by decide) (fun a S => ?_)
              obtain ⟨q61, hq62, S⟩ := pFld (P := Try.prog) (r := r_api_Row) (s2 := (rL r_api_Stitch)) (g := (·.Cells)) (q := q59) (z := x45) 57 1 0 1 S (by kernel_rfl) (by kernel_rfl) comp_api_Row_Cells
              refine sFldV (q := q59) S (wN rfl) rfl (by kernel_rfl) hq62 rfl (by decide) (fun a S => ?_)
              obtain ⟨u63, S⟩ := pLoad (r := (rL r_api_Stitch)) (q := q61) (x := x45.Cells) 0 S (by kernel_rfl)
              obtain ⟨ad64, cp65, _, rfl, _⟩ := S.mem.know (i := 1) (e := fRep (rL r_api_Stitch) (u63) x45.Cells) (by kernel_rfl)
              refine sLoadV1 (vq := q61) 0 (.slice ad64 x45.Cells.length cp65) S (wN rfl) rfl (by kernel_rfl) (by kernel_rfl) (by kernel_rfl) rfl (by decide) (fun a S => ?_)
              refine sMove (.int .i64 s38) S (wN rfl) (.inl rfl) (by kernel_rfl) rfl (by decide) (fun a S => ?_)
              obtain ⟨x66, hx67, h⟩ := bindSome h
              obtain ⟨q68, hq69, S⟩ := pIdx (P := Try.prog) (r := r_api_Stitch) (v := .slice ad64 x45.Cells.length cp65) (xs := x45.Cells) (j := s38) 55 63 1 S Try.underlying55 (by kernel_rfl) (by kernel_rfl) hx67
              refine sIdxV (v := .slice ad64 x45.Cells.length cp65) (k := .i64) (j := s38) S (wN rfl) rfl (by kernel_rfl) (by kernel_rfl) hq69 rfl (by decide) (fun a S => ?_)
              obtain ⟨q70, hq71, S⟩ := pFld (P := Try.prog) (r := r_api_Stitch) (s2 := (rI .u8)) (g := (·.Kind)) (q := q68) (z := x66) 63 0 0 0 S (by kernel_rfl) (by kernel_rfl) comp_api_Stitch_Kind
              refine sFldV (q := q68) S (wN rfl) rfl (by kernel_rfl) hq71 rfl (by decide) (fun a S => ?_)
              obtain ⟨u72, S⟩ := pLoad (r := (rI .u8)) (q := q70) (x := x66.Kind) 0 S (by kernel_rfl)
              obtain rfl : u72 = .int .u8 x66.Kind := S.mem.know (i := 1) (e := fRep (rI .u8) (u72) x66.Kind) (by kernel_rfl)
              refine sLoadV1 (vq := q70) 0 (.int .u8 x66.Kind) S (wN rfl) rfl (by kernel_rfl) (by kernel_rfl) (by kernel_rfl) rfl (by decide) (fun a S => ?_)
              refine sBin (.bool (x66.Kind == 1)) S (wN rfl) rfl (by kernel_rfl) (by kernel_rfl) (bEq _ _ _ _ .u8 x66.Kind 1) rfl (by decide) (fun a S => ?_)
              refine leafL (leafT (hK58 _ _ ?_))
              rcases iteSome h with ⟨hc73, h⟩ | ⟨hc73, h⟩
              · refine sCondT (b := x66.Kind == 1) S (by kernel_rfl) hc73 ?_
                refine sRegion ?_
                refine sMove (.int .i64 s37) S (wN rfl) (.inl rfl) (by kernel_rfl) rfl (by decide) (fun a S => ?_)
                refine sBin (.int .i64 (w64 (s37 + 1))) S (wN rfl) rfl (by kernel_rfl) (by kernel_rfl) (bAdd _ _ _ _ s37 1) rfl (by decide) (fun a S => ?_)
                refine sMove (.int .i64 (w64 (s37 + 1))) S (wN rfl) (.inr rfl) (by kernel_rfl) rfl (by decide) (fun a S => ?_)
                exact leafL (leafB (leafT (⟨w64 (s37 + 1), Option.some.inj h, S.fix [0, 1] [12] (by decide) (by kernel_rfl) (by kernel_rfl) (by kernel_rfl)⟩)))
              · refine sCondF (b := x66.Kind == 1) S (by kernel_rfl) hc73 ?_
                exact wp_skip (leafB (leafT (⟨s37, Option.some.inj h, S.fix [0, 1] [12] (by decide) (by kernel_rfl) (by kernel_rfl) (by kernel_rfl)⟩)))
            · obtain ⟨o55, rfl, S⟩ := hI
              have h := g57
              clear g57
              try dsimp only at h
              refine sRegion ?_
              refine sMove (.int .i64 s38) S (wN rfl) (.inl rfl) (by kernel_rfl) rfl (by decide) (fun a S => ?_)
              refine sBin (.int .i64 (w64 (s38 + 1))) S (wN rfl) rfl (by kernel_rfl) (by kernel_rfl) (bAdd _ _ _ _ s38 1) rfl (by decide) (fun a S => ?_)
              refine sMove (.int .i64 (w64 (s38 + 1))) S (wN rfl) (.inr rfl) (by kernel_rfl) rfl (by decide) (fun a S => ?_)
              exact leafL (leafT (⟨(o55, w64 (s38 + 1)), (Option.some.inj h).symm, (S.fix [0, 1] [0] (by decide) (by kernel_rfl) (by kernel_rfl) (by kernel_rfl))⟩))
          · refine sCondF (b := decide (s38 < (x45.Cells.length : Int))) S (by kernel_rfl) hc54 ?_
            obtain rfl := Option.some.inj h
            obtain rfl := hu39 _ rfl
            have h := g40
            clear g40
            try dsimp only at h
            exact wp_exit (xThen (xThen (xHit (leafT (⟨s37, Option.some.inj h, S.fix [0, 1] [4] (by decide) (by kernel_rfl) (by kernel_rfl) (by kernel_rfl)⟩)))))
        · obtain ⟨o33, rfl, S⟩ := hI
          have h := g35
          clear g35
          try dsimp only at h
          refine sRegion ?_
          refine sMove (.slice ad15 s14.length cp16) S (wN rfl) (.inl rfl) (by kernel_rfl) rfl (by decide) (fun a S => ?_)
          refine sMove (.int .i64 o33) S (wN rfl) (.inl rfl) (by kernel_rfl) rfl (by decide) (fun a S => ?_)
          refine sLit (r := (rI .i64)) (T := 3) (xs := ([o33] : List Int)) [(0, .int .i64 o33)] 1 [.int .i64 o33] [.int .i64 o33] (.int .i64 0) 8 S (wN rfl) rfl (by kernel_rfl) Try.underlying22 (by kernel_rfl) (by decide) (by decide) (by kernel_rfl) rfl (fun E1 w1 hE => All.cons rfl (All.nil _ _ _)) rfl rfl (by decide) (fun a w ad74 cp75 S => ?_)
          obtain ⟨l76, hx77, h⟩ := bindSome h
          refine sApp (r := (rI .i64)) (T := 3) (xs := s14) (ys := ([o33] : List Int)) (v := .slice ad15 s14.length cp16) (u := .slice ad74 ([o33] : List Int).length cp75) 2 (.int .i64 0) 8 S (wN rfl) rfl Try.underlying22 (by kernel_rfl) rfl (by decide) (by kernel_rfl) (by kernel_rfl) (by kernel_rfl) (src_R (T := 3) 0 S.mem (by kernel_rfl)) hx77 rfl (by decide) (fun a w ad78 cp79 S => ?_)
          refine sMove (.slice ad78 l76.length cp79) S (wN rfl) (.inr rfl) (by kernel_rfl) rfl (by decide) (fun a S => ?_)
          exact leafL (leafB (leafT (⟨l76, Option.some.inj h, ad78, cp79, S.fix [2, 0] [0] (by decide) (by kernel_rfl) (by kernel_rfl) (by kernel_rfl)⟩)))
      · obtain ⟨o27, rfl, ad28, cp29, S⟩ := hI
        have h := g31
        clear g31
        try dsimp only at h
        refine sRegion ?_
        refine sMove (.int .i64 s17) S (wN rfl) (.inl rfl) (by kernel_rfl) rfl (by decide) (fun a S => ?_)
        refine sBin (.int .i64 (w64 (s17 + 2))) S (wN rfl) rfl (by kernel_rfl) (by kernel_rfl) (bAdd _ _ _ _ s17 2) rfl (by decide) (fun a S => ?_)
        refine sMove (.int .i64 (w64 (s17 + 2))) S (wN rfl) (.inr rfl) (by kernel_rfl) rfl (by decide) (fun a S => ?_)
        exact leafL (leafT (⟨(o27, w64 (s17 + 2)), (Option.some.inj h).symm, ⟨ad28, cp29, S.fix [0, 1] [0] (by decide) (by kernel_rfl) (by kernel_rfl) (by kernel_rfl)⟩⟩))
    · refine sCondF (b := decide (s17 < (p0.Rows.length : Int))) S (by kernel_rfl) hc26 ?_
      obtain rfl := Option.some.inj h
      obtain rfl := hu18 _ rfl
      have h := g19
      clear g19
      try dsimp only at h
      exact wp_exit (xThen (xThen (xHit (leafT (⟨s14, Option.some.inj h, ad15, cp16, S.fix [0, 1] [0] (by decide) (by kernel_rfl) (by kernel_rfl) (by kernel_rfl)⟩)))))
  · obtain ⟨o8, rfl, ad9, cp10, S⟩ := hI
    have h := g12
    clear g12
    try dsimp only at h
    refine sSeq (fun K80 hK80 => ?_)
    refine sRegion ?_
    refine sField (b := b6) (off := 0) 0 0 S (wN rfl) rfl (by kernel_rfl) (by kernel_rfl) rfl rfl (by decide) (fun a S => ?_)
    refine sLoad1 (p := b6) (off := 0) (T := 40) (vs := [.int .i64 p0.Start, .slice ad3 p0.Rows.length cp4]) 0 (.int .i64 p0.Start) S (wN rfl) rfl (by kernel_rfl) (by kernel_rfl) (by kernel_rfl) rfl rfl (by decide) (fun a S => ?_)
    refine sMove (.slice ad9 o8.length cp10) S (wN rfl) (.inl rfl) (by kernel_rfl) rfl (by decide) (fun a S => ?_)
    obtain ⟨r81, hx82, h⟩ := bindSome h
    have S := S.shutR (r := (rI .i64)) (T := 3) (v := .slice ad9 o8.length cp10) (xs := o8) 1 (by kernel_rfl)
    refine sCall (X := Value) (f := 16) (vs := [.int .i64 p0.Start, .slice ad9 o8.length cp10]) (val := c_raddleref38_Chart_val r81) (B' := fun _ => []) (D' := c_raddleref38_Chart_D r81) [] [eBox b6 40 [.int .i64 p0.Start, .slice ad3 p0.Rows.length cp4]] [fRep (rL (rI .i64)) (.slice ad9 o8.length cp10) o8] [0] [0] S (wN rfl) rfl callee16 (by kernel_rfl) (by decide) (by kernel_rfl) (by kernel_rfl) (fun E1 w1 S1 => c_raddleref38_Chart E1 w1 p0.Start o8 (.slice ad9 o8.length cp10) r81 hx82 S1) rfl (by decide) (fun u83 a w S => ?_)
    obtain ⟨u84, rfl, hu85⟩ := S.mem.know (i := 0) (e := fRep r_api_Chart (u83) r81.1) (by kernel_rfl)
    have S := S.learn (fRep (rL r_api_Row) u84 r81.1.Rows) hu85
    obtain ⟨ad86, cp87, _, rfl, _⟩ := hu85
    refine sMove (.tuple #[.agg #[.int .i64 r81.1.Start, .slice ad86 r81.1.Rows.length cp87], .int .i64 r81.2]) S (wN rfl) (.inl rfl) (by kernel_rfl) rfl (by decide) (fun a S => ?_)
    refine sExtract (vs := [.agg #[.int .i64 r81.1.Start, .slice ad86 r81.1.Rows.length cp87], .int .i64 r81.2]) (.agg #[.int .i64 r81.1.Start, .slice ad86 r81.1.Rows.length cp87]) S (wN rfl) rfl (by kernel_rfl) rfl rfl (by decide) (fun a S => ?_)
    refine sExtract (vs := [.agg #[.int .i64 r81.1.Start, .slice ad86 r81.1.Rows.length cp87], .int .i64 r81.2]) (.int .i64 r81.2) S (wN rfl) rfl (by kernel_rfl) rfl rfl (by decide) (fun a S => ?_)
    refine sAlloc (.agg #[.int .i64 0, .slice none 0 0]) S (wN rfl) rfl (by kernel_rfl) [.int .i64 0, .slice none 0 0] rfl rfl (by decide) (fun a b88 w S => ?_)
    refine sStore (p := b88) (off := 0) (T := 40) (vs := [.int .i64 0, .slice none 0 0]) (v := .agg #[.int .i64 r81.1.Start, .slice ad86 r81.1.Rows.length cp87]) 0 [.int .i64 r81.1.Start, .slice ad86 r81.1.Rows.length cp87] S (wN rfl) rfl (by kernel_rfl) (by kernel_rfl) rfl (by kernel_rfl) (by kernel_rfl) rfl (by simp) rfl (fun a w S => ?_)
    refine sMove (.int .i64 r81.2) S (wN rfl) (.inr rfl) (by kernel_rfl) rfl (by decide) (fun a S => ?_)
    refine leafL (leafT (hK80 _ _ ?_))
    refine sSeq (fun K89 hK89 => ?_)
    obtain ⟨t91, h, g92⟩ := bindSome h
    refine sCut (fun a w => ∃ o90, o90 = t91 ∧ St [] E [] w0 64 a w [(1, .pointer (some ⟨b6, 0, none⟩)), (5, .slice ad9 o8.length cp10), (60, .bool o90)] [eBox b6 40 [.int .i64 p0.Start, .slice ad3 p0.Rows.length cp4]] [fRep (rL (rI .i64)) (.slice ad9 o8.length cp10) o8, fRep (rL r_api_Row) (.slice ad3 p0.Rows.length cp4) p0.Rows]) ?_ (fun a w hI => ?_)
    · refine sRegion ?_
      refine sMove (.int .i64 r81.2) S (wN rfl) (.inl rfl) (by kernel_rfl) rfl (by decide) (fun a S => ?_)
      refine sBin (.bool (r81.2 != 0)) S (wN rfl) rfl (by kernel_rfl) (by kernel_rfl) (bNe _ _ _ _ .i64 r81.2 0) rfl (by decide) (fun a S => ?_)
      refine sMove (.bool (r81.2 != 0)) S (wN rfl) (.inl rfl) (by kernel_rfl) rfl (by decide) (fun a S => ?_)
      rcases iteSome h with ⟨hc93, h⟩ | ⟨hc93, h⟩
      · refine sSkip (c := r81.2 != 0) 2 false 55 56 S rfl rfl (by kernel_rfl) hc93 rfl (by decide) (fun a S => ?_)
        refine sSkip (c := r81.2 != 0) 2 false 55 57 S rfl rfl (by kernel_rfl) hc93 rfl (by decide) (fun a S => ?_)
        refine sSkip (c := r81.2 != 0) 2 false 55 58 S rfl rfl (by kernel_rfl) hc93 rfl (by decide) (fun a S => ?_)
        refine sSkip (c := r81.2 != 0) 2 false 55 59 S rfl rfl (by kernel_rfl) hc93 rfl (by decide) (fun a S => ?_)
        refine sPickT (b := r81.2 != 0) (.bool true) S (wN rfl) rfl (by kernel_rfl) hc93 (by kernel_rfl) rfl (by decide) (fun a S => ?_)
        exact leafL (leafT (⟨true, Option.some.inj h, S.fix [1] [2, 3] (by decide) (by kernel_rfl) (by kernel_rfl) (by kernel_rfl)⟩))
      · refine sLoadN (p := b6) (off := 0) (T := 40) (vs := [.int .i64 p0.Start, .slice ad3 p0.Rows.length cp4]) 1 [.int .i64 p0.Start, .slice ad3 p0.Rows.length cp4] S (wG (c := r81.2 != 0) 2 false 55 rfl rfl (by kernel_rfl) hc93) rfl (by kernel_rfl) (by kernel_rfl) (by kernel_rfl) (by kernel_rfl) rfl rfl (by decide) (fun a S => ?_)
        refine sLoadN (p := b88) (off := 0) (T := 40) (vs := [.int .i64 r81.1.Start, .slice ad86 r81.1.Rows.length cp87]) 0 [.int .i64 r81.1.Start, .slice ad86 r81.1.Rows.length cp87] S (wG (c := r81.2 != 0) 2 false 55 rfl rfl (by kernel_rfl) hc93) rfl (by kernel_rfl) (by kernel_rfl) (by kernel_rfl) (by kernel_rfl) rfl rfl (by decide) (fun a S => ?_)
        obtain ⟨r94, hx95, h⟩ := bindSome h
        have S1 := S.mem
        have S1 := S1.learn (fRep r_api_Chart (.agg #[.int .i64 p0.Start, .slice ad3 p0.Rows.length cp4]) p0) ⟨_, rfl, S1.know (i := 3) (e := fRep (rL r_api_Row) (.slice ad3 p0.Rows.length cp4) p0.Rows) (by kernel_rfl)⟩
        refine sCallQ (X := Unit) (f := 19) (vs := [.agg #[.int .i64 p0.Start, .slice ad3 p0.Rows.length cp4], .agg #[.int .i64 r81.1.Start, .slice ad86 r81.1.Rows.length cp87]]) (val := fun _ => .bool r94) S (wG (c := r81.2 != 0) 2 false 55 rfl rfl (by kernel_rfl) hc93) rfl callee19 (by kernel_rfl) (S1.quiet [0, 2] (by kernel_rfl)) (fun E1 w1 S1 => c_raddleref37_SameChart E1 w1 p0 (.agg #[.int .i64 p0.Start, .slice ad3 p0.Rows.length cp4]) r81.1 (.agg #[.int .i64 r81.1.Start, .slice ad86 r81.1.Rows.length cp87]) r94 hx95 S1) rfl (by decide) (fun _ a w S => ?_)
        refine sNot (b := r94) S (wG (c := r81.2 != 0) 2 false 55 rfl rfl (by kernel_rfl) hc93) rfl (by kernel_rfl) rfl (by decide) (fun a S => ?_)
        refine sPickF (b := r81.2 != 0) (.bool (!r94)) S (wN rfl) rfl (by kernel_rfl) hc93 (by kernel_rfl) rfl (by decide) (fun a S => ?_)
        exact leafL (leafT (⟨!r94, Option.some.inj h, S.fix [1] [2, 3] (by decide) (by kernel_rfl) (by kernel_rfl) (by kernel_rfl)⟩))
    · obtain ⟨o90, rfl, S⟩ := hI
      have h := g92
      clear g92
      try dsimp only at h
      rcases iteSome h with ⟨hc96, h⟩ | ⟨hc96, h⟩
      · refine sCondT (b := o90) S (by kernel_rfl) hc96 ?_
        refine sSeq (fun K97 hK97 => ?_)
        refine sRegion ?_
        refine sMove (.int .i64 0) S (wN rfl) (.inr rfl) (by kernel_rfl) rfl (by decide) (fun a S => ?_)
        refine sMove (.slice none 0 0) S (wN rfl) (.inr rfl) (by kernel_rfl) rfl (by decide) (fun a S => ?_)
        refine sMove (.int .i64 8) S (wN rfl) (.inr rfl) (by kernel_rfl) rfl (by decide) (fun a S => ?_)
        refine leafL (leafT (hK97 _ _ ?_))
        obtain rfl := Option.some.inj h
        have S := S.learn (fRep (rL (rI .i64)) (.slice none 0 0) ([] : (List Int))) (rL_nil _ _ _)
        exact wp_ret (rThen (sRet (.tuple #[.int .i64 0, .slice none 0 0, .int .i64 8]) S (rsl3 rfl (rvT (t := 2) (v := .int .i64 0) S (by kernel_rfl)) (rvT (t := 3) (v := .slice none 0 0) S (by kernel_rfl)) (rvT (t := 4) (v := .int .i64 8) S (by kernel_rfl))) ⟨(.slice none 0 0), rfl, S.mem.sel [] [0] (by decide) (by kernel_rfl) (by kernel_rfl)⟩))
      · refine sCondF (b := o90) S (by kernel_rfl) hc96 ?_
        refine wp_skip (leafT (hK89 _ _ ?_))
        refine sSeq (fun K98 hK98 => ?_)
        refine sRegion ?_
        refine sField (b := b6) (off := 0) 0 0 S (wN rfl) rfl (by kernel_rfl) (by kernel_rfl) rfl rfl (by decide) (fun a S => ?_)
        refine sLoad1 (p := b6) (off := 0) (T := 40) (vs := [.int .i64 p0.Start, .slice ad3 p0.Rows.length cp4]) 0 (.int .i64 p0.Start) S (wN rfl) rfl (by kernel_rfl) (by kernel_rfl) (by kernel_rfl) rfl rfl (by decide) (fun a S => ?_)
        refine sMove (.slice ad9 o8.length cp10) S (wN rfl) (.inl rfl) (by kernel_rfl) rfl (by decide) (fun a S => ?_)
        refine sMove (.int .i64 p0.Start) S (wN rfl) (.inr rfl) (by kernel_rfl) rfl (by decide) (fun a S => ?_)
        refine sMove (.slice ad9 o8.length cp10) S (wN rfl) (.inr rfl) (by kernel_rfl) rfl (by decide) (fun a S => ?_)
        refine sMove (.int .i64 0) S (wN rfl) (.inr rfl) (by kernel_rfl) rfl (by decide) (fun a S => ?_)
        refine leafL (leafT (hK98 _ _ ?_))
        obtain rfl := Option.some.inj h
        exact wp_ret (sRet (.tuple #[.int .i64 p0.Start, .slice ad9 o8.length cp10, .int .i64 0]) S (rsl3 rfl (rvT (t := 2) (v := .int .i64 p0.Start) S (by kernel_rfl)) (rvT (t := 3) (v := .slice ad9 o8.length cp10) S (by kernel_rfl)) (rvT (t := 4) (v := .int .i64 0) S (by kernel_rfl))) ⟨(.slice ad9 o8.length cp10), rfl, S.mem.sel [] [0] (by decide) (by kernel_rfl) (by kernel_rfl)⟩)

end Go.Proofs.Ytoiehdlcfehmlaa
namespace Go.Proofs.Ytoiehdlcfehmlaa
open Go.RowKit
set_option linter.unusedVariables false

def kS : api_Stitch := ⟨1, false, 0, 0⟩
def sS : api_Stitch := ⟨8, false, 0, 0⟩
def kn (n p : Int) : List api_Stitch := List.replicate p.toNat kS ++ List.replicate (n - p).toNat sS
def tchk (n : Int) (l : List Int) : Int := if 1 ≤ n ∧ n ≤ 200 then (if 50 < l.length then 4 else if (∀ p, p ∈ l → 1 ≤ p ∧ p ≤ n) then 0 else 2) else 2
theorem tchk_ok {n : Int} {l : List Int} (h : tchk n l = 0) : 1 ≤ n ∧ n ≤ 200 ∧ l.length ≤ 50 ∧ ∀ p, p ∈ l → 1 ≤ p ∧ p ≤ n := by
  unfold tchk at h
  by_cases h1 : 1 ≤ n ∧ n ≤ 200
  case neg => rw [if_neg h1] at h; cases h
  rw [if_pos h1] at h
  by_cases h2 : 50 < l.length
  · rw [if_pos h2] at h; cases h
  rw [if_neg h2] at h
  by_cases h3 : ∀ p, p ∈ l → 1 ≤ p ∧ p ≤ n
  case neg => rw [if_neg h3] at h; cases h
  exact ⟨h1.1, h1.2, by omega, h3⟩
theorem within_eq (x a b : Int) : F_short_within x a b = some (decide (a ≤ x ∧ x ≤ b)) := by
  unfold F_short_within
  by_cases h : a ≤ x <;> simp [h]
theorem range_mem {l : List Int} {n : Int} : (List.range l.length).all (fun k => decide (1 ≤ l.getD k 0 ∧ l.getD k 0 ≤ n)) = true ↔ ∀ p, p ∈ l → 1 ≤ p ∧ p ≤ n := by
  rw [List.all_eq_true]
  constructor
  · intro h p hp
    obtain ⟨k, hk, rfl⟩ := List.getElem_of_mem hp
    have := h k (List.mem_range.2 hk)
    rw [getD_of _ hk] at this
    exact of_decide_eq_true this
  · intro h k hk
    have hk := List.mem_range.1 hk
    rw [getD_of _ hk]
    exact decide_eq_true (h _ (List.getElem_mem hk))
theorem tcheck_eq (n : Int) (l : List Int) : F_short_check n l = some (tchk n l) := by
  unfold F_short_check tchk
  rw [within_eq]
  by_cases h1 : 1 ≤ n ∧ n ≤ 200
  case neg => simp only [Option.bind_some, dF h1, Bool.not_false, if_true, if_neg h1]
  simp only [Option.bind_some, dT h1, Bool.not_true, Bool.false_eq_true, if_false, if_pos h1]
  by_cases h2 : 50 < l.length
  · simp only [dT (show (50 : Int) < (l.length : Int) by omega), if_true, if_pos h2]
  simp only [dF (show ¬ (50 : Int) < (l.length : Int) by omega), Bool.false_eq_true, if_false, if_neg h2]
  rw [loop_all (B := short_check_l1 l n) l.length (fun k => decide (1 ≤ l.getD k 0 ∧ l.getD k 0 ≤ n)) (.inr ()) (.inl 2) ?_ ?_]
  · by_cases h3 : ∀ p, p ∈ l → 1 ≤ p ∧ p ≤ n
    · rw [if_pos (range_mem.2 h3), if_pos h3]; rfl
    · rw [if_neg (fun h => h3 (range_mem.1 h)), if_neg h3]; rfl
  · intro k hk
    unfold short_check_l1
    simp only [dT (show (k : Int) < (l.length : Int) by omega), if_true, idxO_nat hk, Option.bind_some, within_eq, getD_of _ hk, w64_succ (show k < 9223372036854775807 by omega)]
    by_cases h : 1 ≤ l[k] ∧ l[k] ≤ n
    · simp only [dT h, Bool.not_true, Bool.false_eq_true, if_false, if_true]
    · simp only [dF h, Bool.not_false, Bool.false_eq_true, if_false, if_true]
  · unfold short_check_l1
    simp only [dF (show ¬ (l.length : Int) < (l.length : Int) by omega), Bool.false_eq_true, if_false]
theorem rtcheck_eq (n : Int) (l : List Int) : F_raddleref38_Check n l = some (tchk n l) := by
  unfold F_raddleref38_Check tchk
  by_cases h1 : 1 ≤ n ∧ n ≤ 200
  case neg =>
    rw [if_neg h1]
    by_cases h : n < 1
    · simp only [dT h, if_true, Option.bind_some]
    · simp only [dF h, dT (show 200 < n by omega), Bool.false_eq_true, if_false, if_true, Option.bind_some]
  simp only [dF (show ¬ n < 1 by omega), dF (show ¬ 200 < n by omega), Option.bind_some, Bool.false_eq_true, if_false, if_pos h1]
  by_cases h2 : 50 < l.length
  · simp only [dT (show (50 : Int) < (l.length : Int) by omega), if_true, if_pos h2]
  simp only [dF (show ¬ (50 : Int) < (l.length : Int) by omega), Bool.false_eq_true, if_false, if_neg h2]
  rw [loop_all (B := raddleref38_Check_l1 l n) l.length (fun k => decide (1 ≤ l.getD k 0 ∧ l.getD k 0 ≤ n)) (.inr ()) (.inl 2) ?_ ?_]
  · by_cases h3 : ∀ p, p ∈ l → 1 ≤ p ∧ p ≤ n
    · rw [if_pos (range_mem.2 h3), if_pos h3]; rfl
    · rw [if_neg (fun h => h3 (range_mem.1 h)), if_neg h3]; rfl
  · intro k hk
    unfold raddleref38_Check_l1
    simp only [dT (show (k : Int) < (l.length : Int) by omega), if_true, idxO_nat hk, Option.bind_some, getD_of _ hk, w64_succ (show k < 9223372036854775807 by omega)]
    by_cases h : l[k] < 1
    · simp only [dT h, if_true, Option.bind_some, dF (show ¬ (1 ≤ l[k] ∧ l[k] ≤ n) by omega), Bool.false_eq_true, if_false]
    · by_cases h' : n < l[k]
      · simp only [dF h, dT h', if_true, Option.bind_some, dF (show ¬ (1 ≤ l[k] ∧ l[k] ≤ n) by omega), Bool.false_eq_true, if_false]
      · simp only [dF h, dF h', if_true, Option.bind_some, dT (show (1 ≤ l[k] ∧ l[k] ≤ n) by omega), Bool.false_eq_true, if_false]
  · unfold raddleref38_Check_l1
    simp only [dF (show ¬ (l.length : Int) < (l.length : Int) by omega), Bool.false_eq_true, if_false]
theorem map_const {α : Type} (n : Nat) (c : α) : (List.range n).map (fun _ => c) = List.replicate n c := by
  rw [List.map_const', List.length_range]
theorem several_eq (kind x : Int) (h0 : 0 ≤ x) (h1 : x ≤ 1000000) : F_short_several kind x = some (List.replicate x.toNat ⟨kind, false, 0, 0⟩) := by
  obtain ⟨n, rfl⟩ : ∃ n : Nat, x = n := ⟨x.toNat, by omega⟩
  have hl : whileO (short_several_l1 (n : Int) kind) ([], 0) = some ((List.range n).map fun _ => (⟨kind, false, 0, 0⟩ : api_Stitch)) := by
    refine loop_map n (fun _ => (⟨kind, false, 0, 0⟩ : api_Stitch)) ?_ ?_
    · rintro k s hk rfl
      unfold short_several_l1
      simp only [dT (show (k : Int) < (n : Int) by omega), if_true, appO_of (show ((List.range k).map fun _ => (⟨kind, false, 0, 0⟩ : api_Stitch)).length + [(api_Stitch.mk kind false 0 0)].length ≤ 68719476736 by simp; omega), Option.bind_some, w64_succ (show k < 9223372036854775807 by omega)]
    · unfold short_several_l1
      simp only [dF (show ¬ (n : Int) < (n : Int) by omega), Bool.false_eq_true, if_false]
  unfold F_short_several
  rw [capO_of (k := n) rfl (by omega), hl, map_const]
  rfl
theorem joined_eq (a b : List api_Stitch) (h : a.length + b.length ≤ 1000000) : F_short_joined [a, b] = some (a ++ b) := by
  have i0 : idxO [a, b] 0 = some a := rfl
  have i1 : idxO [a, b] 1 = some b := rfl
  have w1 : w64 (0 + 1) = 1 := rfl
  have w2 : w64 (1 + 1) = 2 := rfl
  have s0 : short_joined_l1 [a, b] ([], 0) = some (.inl (a, 1)) := by
    unfold short_joined_l1
    simp only [dT (show (0 : Int) < (([a, b] : List (List api_Stitch)).length : Int) by simp), if_true, i0, Option.bind_some, appO_of (show ([] : List api_Stitch).length + a.length ≤ 68719476736 by simp; omega), List.nil_append, w1]
  have s1 : short_joined_l1 [a, b] (a, 1) = some (.inl (a ++ b, 2)) := by
    unfold short_joined_l1
    simp only [dT (show (1 : Int) < (([a, b] : List (List api_Stitch)).length : Int) by simp), if_true, i1, Option.bind_some, appO_of (show a.length + b.length ≤ 68719476736 by omega), w2]
  have s2 : short_joined_l1 [a, b] (a ++ b, 2) = some (.inr (a ++ b)) := by
    unfold short_joined_l1
    simp only [dF (show ¬ (2 : Int) < (([a, b] : List (List api_Stitch)).length : Int) by simp), Bool.false_eq_true, if_false]
  unfold F_short_joined
  rw [whileO_step s0, whileO_step s1, whileO_done s2]
  rfl
theorem sm_rep {α : Type} (f : α → Int) (n : Nat) (x : α) : sm f (List.replicate n x) = f x * (n : Int) := by
  induction n with
  | zero => simp [sm]
  | succ n ih =>
    rw [List.replicate_succ]
    simp only [sm, ih]
    rw [Int.natCast_add, Int.mul_add]
    simp
    omega
theorem kn_len {n p : Int} (h0 : 0 ≤ p) (h1 : p ≤ n) : (kn n p).length = n.toNat := by
  unfold kn; simp; omega
theorem kn_ok {n p : Int} (h0 : 0 ≤ p) (h1 : p ≤ n) (h2 : n ≤ 200) : allS (kn n p) = 0 ∧ sm usedS (kn n p) = n ∧ sm madeS (kn n p) = n := by
  have u : sm usedS (kn n p) = n := by
    unfold kn; rw [sm_append, sm_rep, sm_rep]
    have a1 : usedS kS = 1 := rfl
    have a2 : usedS sS = 1 := rfl
    rw [a1, a2]; omega
  have m : sm madeS (kn n p) = n := by
    unfold kn; rw [sm_append, sm_rep, sm_rep]
    have a1 : madeS kS = 1 := rfl
    have a2 : madeS sS = 1 := rfl
    rw [a1, a2]; omega
  have hl := kn_len h0 h1
  have hok : allOk (kn n p) := by
    intro x hx
    unfold kn at hx
    rw [List.mem_append, List.mem_replicate, List.mem_replicate] at hx
    rcases hx with ⟨_, rfl⟩ | ⟨_, rfl⟩ <;> decide
  refine ⟨?_, u, m⟩
  unfold allS
  rw [if_neg (by omega), if_pos hok, u, m, if_neg (by omega)]
theorem kn_wf {n p : Int} : ∀ x, x ∈ kn n p → wfS x := by
  intro x hx
  unfold kn at hx
  rw [List.mem_append, List.mem_replicate, List.mem_replicate] at hx
  rcases hx with ⟨_, rfl⟩ | ⟨_, rfl⟩ <;> simp [wfS, kS, sS]
def rowsOf (n : Int) : List Int → List api_Row
  | [] => []
  | p :: l => ⟨false, kn n p⟩ :: ⟨true, ((kn n p).map othS).reverse⟩ :: rowsOf n l
theorem rowsOf_len (n : Int) (l : List Int) : (rowsOf n l).length = 2 * l.length := by
  induction l with
  | nil => rfl
  | cons p l ih => simp only [rowsOf, List.length_cons, ih]; omega
theorem rowsOf_app (n : Int) (l k : List Int) : rowsOf n (l ++ k) = rowsOf n l ++ rowsOf n k := by
  induction l with
  | nil => rfl
  | cons p l ih => simp only [rowsOf, List.cons_append, ih]
theorem rowsOf_get (n : Int) (l : List Int) (i : Nat) : (rowsOf n l)[2 * i]? = l[i]?.map fun p => (⟨false, kn n p⟩ : api_Row) := by
  induction l generalizing i with
  | nil => simp [rowsOf]
  | cons p l ih =>
    cases i with
    | zero => rfl
    | succ i =>
      rw [show 2 * (i + 1) = 2 * i + 1 + 1 by omega]
      simp only [rowsOf, List.getElem?_cons_succ]
      exact ih i
def chartOf (n : Int) (l : List Int) : api_Chart × Int := if tchk n l = 0 then (⟨n, rowsOf n l⟩, 0) else (⟨0, []⟩, tchk n l)
theorem rows_step {n : Int} {l : List Int} (hl : l.length ≤ 50) {k : Nat} (hk : k < l.length) : appO (rowsOf n (l.take k)) [⟨false, kn n l[k]⟩, ⟨true, ((kn n l[k]).map othS).reverse⟩] = some (rowsOf n (l.take (k + 1))) := by
  rw [appO_of (by rw [rowsOf_len, List.length_take]; simp; omega), take_one l hk, rowsOf_app]
  rfl
theorem chart_eq (n : Int) (l : List Int) : F_short_Chart n l = some (chartOf n l) := by
  unfold F_short_Chart chartOf
  rw [tcheck_eq]
  by_cases h : tchk n l = 0
  case neg => simp only [Option.bind_some, nT h, if_true, if_neg h]
  obtain ⟨n0, n1, hl, hp⟩ := tchk_ok h
  have key : ∃ t, whileO (short_Chart_l1 l n) (0, []) = some t ∧ t = rowsOf n l := by
    refine loop_at (σ := Unit) l.length (fun k _ => ((k : Int), rowsOf n (l.take k))) (fun _ _ => True) _ (s0 := ()) trivial ?_ ?_
    · intro k _ hk _
      refine .inl ⟨(), ?_, trivial⟩
      have hq := hp _ (List.getElem_mem hk)
      have hko := kn_ok (n := n) (p := l[k]) (by omega) hq.2 n1
      have hkl := kn_len (n := n) (p := l[k]) (by omega) hq.2
      have ew : w64 (n - l[k]) = n - l[k] := w64_of (by omega) (by omega)
      have ej : F_short_joined [List.replicate l[k].toNat (⟨1, false, 0, 0⟩ : api_Stitch), List.replicate (n - l[k]).toNat (⟨8, false, 0, 0⟩ : api_Stitch)] = some (kn n l[k]) := joined_eq _ _ (by simp; omega)
      have et : F_stitch_Turn (kn n l[k]) = some (((kn n l[k]).map othS).reverse, 0) := by rw [turn_eq kn_wf, if_pos hko.1]
      unfold short_Chart_l1
      simp only [dT (show (k : Int) < (l.length : Int) by omega), if_true, idxO_nat hk, Option.bind_some, several_eq 1 l[k] (by omega) (by omega), ew, several_eq 8 (n - l[k]) (by omega) (by omega), ej, et, rows_step hl hk, w64_succ (show k < 9223372036854775807 by omega)]
    · intro _ _
      refine ⟨_, ?_, rfl⟩
      unfold short_Chart_l1
      simp only [dF (show ¬ (l.length : Int) < (l.length : Int) by omega), Bool.false_eq_true, if_false, List.take_length]
  obtain ⟨t, h1, rfl⟩ := key
  simp only [Option.bind_some, nF h, Bool.false_eq_true, if_false, h1, if_pos h]
theorem kn_map {n p : Int} (h0 : 0 ≤ p) (h1 : p ≤ n) : (List.range n.toNat).map (fun k : Nat => if (k : Int) < p then kS else sS) = kn n p := by
  apply List.ext_getElem?
  intro j
  unfold kn
  rw [List.getElem?_append]
  simp only [List.length_replicate, List.getElem?_map, List.getElem?_replicate]
  by_cases hj : j < n.toNat
  · rw [List.getElem?_range hj]
    by_cases hp : j < p.toNat
    · simp only [Option.map_some, hp, if_true, if_pos (show (j : Int) < p by omega)]
    · simp only [Option.map_some, hp, if_false, if_neg (show ¬ (j : Int) < p by omega), if_pos (show j - p.toNat < (n - p).toNat by omega)]
  · rw [List.getElem?_eq_none (by simp; omega), if_neg (show ¬ j < p.toNat by omega), if_neg (show ¬ j - p.toNat < (n - p).toNat by omega)]
    rfl
theorem rkn_loop {n : Int} {l : List Int} {i : Nat} (hi : i < l.length) (h0 : 0 ≤ l[i]) (h1 : l[i] ≤ n) (h2 : n ≤ 200) : whileO (raddleref38_Chart_l1 n l (i : Int)) ([], 0) = some (kn n l[i]) := by
  rw [← kn_map h0 h1]
  refine loop_map n.toNat (fun k : Nat => if (k : Int) < l[i] then kS else sS) ?_ ?_
  · rintro k s hk rfl
    unfold raddleref38_Chart_l1
    simp only [dT (show (k : Int) < n by omega), if_true, idxO_nat hi, Option.bind_some, w64_succ (show k < 9223372036854775807 by omega)]
    by_cases h : (k : Int) < l[i]
    · simp only [dT h, if_true, appO_of (show ((List.range k).map fun (k : Nat) => if (k : Int) < l[i] then kS else sS).length + [(api_Stitch.mk 1 false 0 0)].length ≤ 68719476736 by simp; omega), Option.bind_some, h]
      rfl
    · simp only [dF h, Bool.false_eq_true, if_false, appO_of (show ((List.range k).map fun (k : Nat) => if (k : Int) < l[i] then kS else sS).length + [(api_Stitch.mk 8 false 0 0)].length ≤ 68719476736 by simp; omega), Option.bind_some, h]
      rfl
  · unfold raddleref38_Chart_l1
    simp only [dF (show ¬ (n.toNat : Int) < n by omega), Bool.false_eq_true, if_false]
theorem rchart_eq (n : Int) (l : List Int) : F_raddleref38_Chart n l = some (chartOf n l) := by
  unfold F_raddleref38_Chart chartOf
  rw [rtcheck_eq]
  by_cases h : tchk n l = 0
  case neg => simp only [Option.bind_some, nT h, if_true, if_neg h]
  obtain ⟨n0, n1, hl, hp⟩ := tchk_ok h
  have key : ∃ t, whileO (raddleref38_Chart_l2 l n) (0, []) = some t ∧ t = rowsOf n l := by
    refine loop_at (σ := Unit) l.length (fun k _ => ((k : Int), rowsOf n (l.take k))) (fun _ _ => True) _ (s0 := ()) trivial ?_ ?_
    · intro k _ hk _
      refine .inl ⟨(), ?_, trivial⟩
      have hq := hp _ (List.getElem_mem hk)
      have hko := kn_ok (n := n) (p := l[k]) (by omega) hq.2 n1
      have et : F_raddleref25_Turn (kn n l[k]) = some (((kn n l[k]).map othS).reverse, 0) := by rw [rturn_eq, if_pos hko.1]
      unfold raddleref38_Chart_l2
      simp only [dT (show (k : Int) < (l.length : Int) by omega), if_true, rkn_loop hk (by omega) hq.2 n1, Option.bind_some, et, rows_step hl hk, w64_succ (show k < 9223372036854775807 by omega)]
    · intro _ _
      refine ⟨_, ?_, rfl⟩
      unfold raddleref38_Chart_l2
      simp only [dF (show ¬ (l.length : Int) < (l.length : Int) by omega), Bool.false_eq_true, if_false, List.take_length]
  obtain ⟨t, h1, rfl⟩ := key
  simp only [Option.bind_some, nF h, Bool.false_eq_true, if_false, h1, if_pos h]
/-- how many stitches are knit: at the start of a row, and in all -/
def lead : List api_Stitch → Nat
  | [] => 0
  | p :: l => if p.Kind = 1 then lead l + 1 else 0
def cntK : List api_Stitch → Nat
  | [] => 0
  | p :: l => if p.Kind = 1 then cntK l + 1 else cntK l
theorem lead_le (l : List api_Stitch) : lead l ≤ l.length := by
  induction l with
  | nil => simp [lead]
  | cons p l ih => simp only [lead]; split <;> simp <;> omega
theorem lead_lt {l : List api_Stitch} {j : Nat} (h : j < lead l) : ∃ hj : j < l.length, l[j].Kind = 1 := by
  induction l generalizing j with
  | nil => simp [lead] at h
  | cons p l ih =>
    simp only [lead] at h
    split at h
    · rename_i hp
      cases j with
      | zero => exact ⟨by simp, hp⟩
      | succ j =>
        obtain ⟨hj, h1⟩ := ih (show j < lead l by omega)
        exact ⟨by simp; omega, by simpa using h1⟩
    · omega
theorem lead_at {l : List api_Stitch} (h : lead l < l.length) : l[lead l].Kind ≠ 1 := by
  have key : ∀ j (hj : j < l.length), j = lead l → l[j].Kind ≠ 1 := by
    clear h
    induction l with
    | nil => intro j hj; simp at hj
    | cons p l ih =>
      intro j hj e
      simp only [lead] at e
      split at e
      · subst e
        simp only [List.getElem_cons_succ]
        exact ih _ (by simpa using hj) rfl
      · subst e
        simpa using ‹¬ p.Kind = 1›
  exact key _ h rfl
theorem lead_kn {n p : Int} : lead (kn n p) = p.toNat := by
  unfold kn
  induction p.toNat with
  | zero =>
    rw [List.replicate_zero, List.nil_append]
    cases (n - p).toNat with
    | zero => rfl
    | succ m => rfl
  | succ m ih => rw [List.replicate_succ, List.cons_append]; simp only [lead, kS, if_true] at ih ⊢; rw [ih]
theorem cntK_kn {n p : Int} : cntK (kn n p) = p.toNat := by
  have z : ∀ m, cntK (List.replicate m sS) = 0 := by
    intro m
    induction m with
    | zero => rfl
    | succ m ih => rw [List.replicate_succ]; show (if sS.Kind = 1 then _ else _) = 0; rw [if_neg (by decide)]; exact ih
  unfold kn
  induction p.toNat with
  | zero => rw [List.replicate_zero, List.nil_append, z]
  | succ m ih => rw [List.replicate_succ, List.cons_append]; simp only [cntK, kS, if_true] at ih ⊢; rw [ih]
theorem cntK_take (l : List api_Stitch) {k : Nat} (hk : k < l.length) : cntK (l.take (k + 1)) = cntK (l.take k) + (if l[k].Kind = 1 then 1 else 0) := by
  have app : ∀ a b : List api_Stitch, cntK (a ++ b) = cntK a + cntK b := by
    intro a b
    induction a with
    | nil => simp [cntK]
    | cons p a ih => simp only [cntK, List.cons_append, ih]; split <;> omega
  rw [take_one l hk, app]
  simp only [cntK]
theorem lead_loop (x : api_Row) (hx : x.Cells.length ≤ 1000000) (i : Nat) : ∀ (m j : Nat) (s : List Int), lead x.Cells = j + m → s[i]? = some (j : Int) → whileO (short_Read_l1 (i : Int) x) s = some (s.set i (lead x.Cells : Int)) := by
  intro m
  have hle := lead_le x.Cells
  induction m with
  | zero =>
    intro j s e hs
    have hi := (List.getElem?_eq_some_iff.1 hs).1
    have hv := (List.getElem?_eq_some_iff.1 hs).2
    have e1 : short_Read_l1 (i : Int) x s = some (.inr s) := by
      unfold short_Read_l1
      simp only [idxO_nat hi, hv, Option.bind_some]
      by_cases hj : j < x.Cells.length
      · have hk : x.Cells[j].Kind ≠ 1 := by
          have := lead_at (l := x.Cells) (by omega)
          simpa [e] using this
        simp only [dT (show (j : Int) < (x.Cells.length : Int) by omega), if_true, idxO_nat hj, Option.bind_some, bF hk, Bool.false_eq_true, if_false]
      · simp only [dF (show ¬ (j : Int) < (x.Cells.length : Int) by omega), Bool.false_eq_true, if_false, Option.bind_some]
    rw [whileO_done e1, show (lead x.Cells : Int) = s[i] by rw [hv]; omega, List.set_getElem_self]
  | succ m ih =>
    intro j s e hs
    have hi := (List.getElem?_eq_some_iff.1 hs).1
    have hv := (List.getElem?_eq_some_iff.1 hs).2
    obtain ⟨hj, hk⟩ := lead_lt (l := x.Cells) (j := j) (by omega)
    have e1 : short_Read_l1 (i : Int) x s = some (.inl (s.set i ((j + 1 : Nat) : Int))) := by
      unfold short_Read_l1
      simp only [idxO_nat hi, hv, Option.bind_some, dT (show (j : Int) < (x.Cells.length : Int) by omega), if_true, idxO_nat hj, bT hk, w64_succ (show j < 9223372036854775807 by omega), setO_nat hi]
    rw [whileO_step e1, ih (j + 1) _ (by omega) (by simp [hi]), List.set_set]
/-- the list of turns that Read looks at -/
def leads (c : api_Chart) : List Int := (List.range (c.Rows.length / 2)).map fun i => (lead (c.Rows.getD (2 * i) ⟨false, []⟩).Cells : Int)
def cnts (c : api_Chart) : List Int := (List.range ((c.Rows.length + 1) / 2)).map fun i => (cntK (c.Rows.getD (2 * i) ⟨false, []⟩).Cells : Int)
theorem leads_loop (c : api_Chart) (hl : c.Rows.length ≤ 1000000) (hc : ∀ r, r ∈ c.Rows → r.Cells.length ≤ 1000000) : whileO (short_Read_l2 (List.replicate (c.Rows.length / 2) 0) c) (List.replicate (c.Rows.length / 2) 0, 0) = some (leads c) := by
  unfold leads
  generalize hn : c.Rows.length / 2 = n
  have key : ∃ t, whileO (short_Read_l2 (List.replicate n 0) c) (List.replicate n 0, 0) = some t ∧ t = (List.range n).map fun i => (lead (c.Rows.getD (2 * i) ⟨false, []⟩).Cells : Int) := by
    refine loop_st n (fun k s => s = ((List.range k).map fun i => (lead (c.Rows.getD (2 * i) ⟨false, []⟩).Cells : Int)) ++ List.replicate (n - k) 0) _ (by simp) ?_ ?_
    · rintro k s hk rfl
      refine .inl ⟨_, ?_, rfl⟩
      have h2 : 2 * k < c.Rows.length := by omega
      have e2 : w64 (2 * (k : Int)) = ((2 * k : Nat) : Int) := by rw [w64_of (by omega) (by omega)]; omega
      have er : List.replicate (n - k) (0 : Int) = 0 :: List.replicate (n - (k + 1)) 0 := by rw [show n - k = (n - (k + 1)) + 1 by omega, List.replicate_succ]
      have hlp := lead_loop c.Rows[2 * k] (hc _ (List.getElem_mem h2)) k (lead c.Rows[2 * k].Cells) 0 (((List.range k).map fun i => (lead (c.Rows.getD (2 * i) ⟨false, []⟩).Cells : Int)) ++ List.replicate (n - k) 0) (by omega) (by rw [er, List.getElem?_append_right (by simp)]; simp)
      unfold short_Read_l2
      simp only [List.length_replicate, dT (show (k : Int) < (n : Int) by omega), if_true, e2, idxO_nat h2, Option.bind_some, hlp, w64_succ (show k < 9223372036854775807 by omega)]
      congr 4
      rw [er, List.set_append_right _ _ (by simp), List.range_succ, List.map_append, List.map_singleton, getD_of _ h2, List.length_map, List.length_range, Nat.sub_self, List.set_cons_zero, List.append_assoc]
      rfl
    · rintro s rfl
      refine ⟨_, ?_, rfl⟩
      unfold short_Read_l2
      simp only [List.length_replicate, dF (show ¬ (n : Int) < (n : Int) by omega), Bool.false_eq_true, if_false, Nat.sub_self, List.replicate_zero, List.append_nil]
  obtain ⟨t, h1, rfl⟩ := key
  exact h1
theorem cnt_loop (c : api_Chart) {i : Nat} (hi : i < c.Rows.length) (hl : c.Rows[i].Cells.length ≤ 1000000) : whileO (raddleref38_Read_l1 c (i : Int)) (0, 0) = some (cntK c.Rows[i].Cells : Int) := by
  have key : ∃ t, whileO (raddleref38_Read_l1 c (i : Int)) (0, 0) = some t ∧ t = (cntK c.Rows[i].Cells : Int) := by
    refine loop_st c.Rows[i].Cells.length (fun k s => s = (cntK (c.Rows[i].Cells.take k) : Int) ∧ cntK (c.Rows[i].Cells.take k) ≤ k) _ ⟨rfl, by simp [cntK]⟩ ?_ ?_
    · rintro k s hk ⟨rfl, hb⟩
      have ht := cntK_take c.Rows[i].Cells hk
      by_cases h : c.Rows[i].Cells[k].Kind = 1
      · rw [if_pos h] at ht
        refine .inl ⟨_, ?_, rfl, by omega⟩
        unfold raddleref38_Read_l1
        simp only [idxO_nat hi, Option.bind_some, dT (show (k : Int) < (c.Rows[i].Cells.length : Int) by omega), if_true, idxO_nat hk, bT h, w64_succ (show k < 9223372036854775807 by omega), w64_succ (show cntK (c.Rows[i].Cells.take k) < 9223372036854775807 by omega), ht]
      · rw [if_neg h] at ht
        refine .inl ⟨_, ?_, rfl, by omega⟩
        unfold raddleref38_Read_l1
        simp only [idxO_nat hi, Option.bind_some, dT (show (k : Int) < (c.Rows[i].Cells.length : Int) by omega), if_true, idxO_nat hk, bF h, Bool.false_eq_true, if_false, w64_succ (show k < 9223372036854775807 by omega), ht, Nat.add_zero]
    · rintro s ⟨rfl, _⟩
      refine ⟨_, ?_, rfl⟩
      unfold raddleref38_Read_l1
      simp only [idxO_nat hi, Option.bind_some, dF (show ¬ (c.Rows[i].Cells.length : Int) < (c.Rows[i].Cells.length : Int) by omega), Bool.false_eq_true, if_false, List.take_length]
  obtain ⟨t, h1, rfl⟩ := key
  exact h1
theorem cnts_loop (c : api_Chart) (hl : c.Rows.length ≤ 1000000) (hc : ∀ r, r ∈ c.Rows → r.Cells.length ≤ 1000000) : whileO (raddleref38_Read_l2 c) ([], 0) = some (cnts c) := by
  unfold cnts
  have key : ∃ t, whileO (raddleref38_Read_l2 c) ([], 0) = some t ∧ t = (List.range ((c.Rows.length + 1) / 2)).map fun i => (cntK (c.Rows.getD (2 * i) ⟨false, []⟩).Cells : Int) := by
    refine loop_at (σ := Unit) ((c.Rows.length + 1) / 2) (fun k _ => ((List.range k).map fun i => (cntK (c.Rows.getD (2 * i) ⟨false, []⟩).Cells : Int), ((2 * k : Nat) : Int))) (fun _ _ => True) _ (s0 := ()) trivial ?_ ?_
    · intro k _ hk _
      have h2 : 2 * k < c.Rows.length := by omega
      have e2 : w64 (((2 * k : Nat) : Int) + 2) = ((2 * (k + 1) : Nat) : Int) := by rw [w64_of (by omega) (by omega)]; omega
      refine .inl ⟨(), ?_, trivial⟩
      unfold raddleref38_Read_l2
      simp only [dT (show ((2 * k : Nat) : Int) < (c.Rows.length : Int) by omega), if_true, cnt_loop c h2 (hc _ (List.getElem_mem h2)), Option.bind_some, appO_of (show ((List.range k).map fun i => (cntK (c.Rows.getD (2 * i) ⟨false, []⟩).Cells : Int)).length + [(cntK c.Rows[2 * k].Cells : Int)].length ≤ 68719476736 by simp; omega), e2]
      rw [List.range_succ, List.map_append, List.map_singleton, getD_of _ h2]
    · intro _ _
      refine ⟨_, ?_, rfl⟩
      unfold raddleref38_Read_l2
      simp only [dF (show ¬ ((2 * ((c.Rows.length + 1) / 2) : Nat) : Int) < (c.Rows.length : Int) by omega), Bool.false_eq_true, if_false]
  obtain ⟨t, h1, rfl⟩ := key
  exact h1
/-- what Read finds, if it finds any -/
theorem leads_of {c : api_Chart} {V : List Int} (hv : tchk c.Start V = 0) (h : c.Rows = rowsOf c.Start V) : leads c = V ∧ cnts c = V := by
  have hl : c.Rows.length = 2 * V.length := by rw [h, rowsOf_len]
  obtain ⟨_, _, _, hp⟩ := tchk_ok hv
  have get : ∀ i (hi : i < V.length), c.Rows.getD (2 * i) ⟨false, []⟩ = ⟨false, kn c.Start V[i]⟩ := by
    intro i hi
    have e : c.Rows[2 * i]? = some ⟨false, kn c.Start V[i]⟩ := by
      have := rowsOf_get c.Start V i
      rw [← h, List.getElem?_eq_getElem hi] at this
      exact this
    rw [List.getD_eq_getElem?_getD, e]; rfl
  constructor
  · unfold leads
    rw [hl, show 2 * V.length / 2 = V.length by omega]
    apply List.ext_getElem (by simp)
    intro i h1 h2
    simp only [List.getElem_map, List.getElem_range, get i h2, lead_kn]
    have := hp _ (List.getElem_mem h2)
    omega
  · unfold cnts
    rw [hl, show (2 * V.length + 1) / 2 = V.length by omega]
    apply List.ext_getElem (by simp)
    intro i h1 h2
    simp only [List.getElem_map, List.getElem_range, get i h2, cntK_kn]
    have := hp _ (List.getElem_mem h2)
    omega
open Classical in
noncomputable def readOf (c : api_Chart) : Int × List Int × Int := if tchk c.Start (leads c) = 0 ∧ c.Rows = rowsOf c.Start (leads c) then (c.Start, leads c, 0) else (0, [], 8)
theorem read_eq (c : api_Chart) (hl : c.Rows.length ≤ 1000000) (hc : ∀ r, r ∈ c.Rows → r.Cells.length ≤ 1000000) : F_short_Read c = some (readOf c) := by
  have hr : remI (c.Rows.length : Int) 2 = some ((c.Rows.length % 2 : Nat) : Int) := by
    unfold remI; rw [if_neg (by omega)]; rfl
  have hq : quoI (c.Rows.length : Int) 2 = some ((c.Rows.length / 2 : Nat) : Int) := by
    unfold quoI; rw [if_neg (by omega)]
    have : ((c.Rows.length : Int)).tdiv 2 = ((c.Rows.length / 2 : Nat) : Int) := rfl
    rw [this, w64_of (by omega) (by omega)]
  unfold F_short_Read readOf
  simp only [hr, hq, Option.bind_some]
  by_cases odd : c.Rows.length % 2 = 1
  · have : ¬ (tchk c.Start (leads c) = 0 ∧ c.Rows = rowsOf c.Start (leads c)) := fun h => by
      have := congrArg List.length h.2
      rw [rowsOf_len] at this
      omega
    simp only [bT (show ((c.Rows.length % 2 : Nat) : Int) = 1 by omega), if_true, if_neg this]
  simp only [bF (show ¬ ((c.Rows.length % 2 : Nat) : Int) = 1 by omega), Bool.false_eq_true, if_false, makeO_of (k := c.Rows.length / 2) (z := (0 : Int)) rfl (by omega), Option.bind_some, leads_loop c hl hc, chart_eq]
  unfold chartOf
  by_cases ht : tchk c.Start (leads c) = 0
  case neg => simp only [if_neg ht, nT ht, if_true, ht, false_and, if_false]
  simp only [ht, if_true, bne_self_eq_false, Bool.false_eq_true, if_false, true_and]
  have hlen : c.Rows.length = (rowsOf c.Start (leads c)).length := by
    rw [rowsOf_len]; unfold leads; simp; omega
  have key : ∃ t : Bool, (t = true ↔ c.Rows = (rowsOf c.Start (leads c))) ∧ whileO (short_Read_l3 c (⟨c.Start, rowsOf c.Start (leads c)⟩, 0)) 0 = some (if t = true then .inr () else .inl (0, [], 8)) := by
    refine loop_eq c.Rows (rowsOf c.Start (leads c)) hlen _ _ (fun k hk => ?_) ?_
    · have hk2 : k < (rowsOf c.Start (leads c)).length := by omega
      obtain ⟨t, t1, t2⟩ := same_eq c.Rows[k].Cells ((rowsOf c.Start (leads c))[k]).Cells (by have := hc _ (List.getElem_mem hk); omega)
      by_cases hb : c.Rows[k].Back = ((rowsOf c.Start (leads c))[k]).Back
      · refine ⟨t, t1.trans ⟨fun e => row_ext.2 ⟨hb, e⟩, fun e => (row_ext.1 e).2⟩, ?_⟩
        unfold short_Read_l3
        simp only [dT (show (k : Int) < (c.Rows.length : Int) by omega), if_true, idxO_nat hk, idxO_nat hk2, Option.bind_some, w64_succ (show k < 9223372036854775807 by omega), hb, bne_self_eq_false, Bool.false_eq_true, if_false, t2]
        cases t <;> rfl
      · refine ⟨false, ⟨fun h => (by cases h), fun e => absurd (row_ext.1 e).1 hb⟩, ?_⟩
        unfold short_Read_l3
        simp only [dT (show (k : Int) < (c.Rows.length : Int) by omega), if_true, idxO_nat hk, idxO_nat hk2, Option.bind_some, bne_iff_ne.2 hb, Bool.false_eq_true, if_false]
    · unfold short_Read_l3
      simp only [dF (show ¬ (c.Rows.length : Int) < (c.Rows.length : Int) by omega), Bool.false_eq_true, if_false]
  obtain ⟨t, t1, t2⟩ := key
  rw [t2]
  cases t with
  | true =>
    have hp : tchk c.Start (leads c) = 0 ∧ c.Rows = rowsOf c.Start (leads c) := ⟨ht, t1.1 rfl⟩
    rw [if_pos hp]; rfl
  | false =>
    have hn : ¬ (tchk c.Start (leads c) = 0 ∧ c.Rows = rowsOf c.Start (leads c)) := fun h => by cases t1.2 h.2
    rw [if_neg hn]; rfl
theorem rread_eq (c : api_Chart) (hl : c.Rows.length ≤ 1000000) (hc : ∀ r, r ∈ c.Rows → r.Cells.length ≤ 1000000) : F_raddleref38_Read c = some (readOf c) := by
  unfold F_raddleref38_Read readOf
  simp only [cnts_loop c hl hc, Option.bind_some, rchart_eq]
  unfold chartOf
  by_cases ht : tchk c.Start (cnts c) = 0
  case neg =>
    have : ¬ (tchk c.Start (leads c) = 0 ∧ c.Rows = rowsOf c.Start (leads c)) := fun h => by
      have := leads_of h.1 h.2
      rw [this.2, ← this.1] at ht
      exact ht (by rw [this.1]; exact this.1 ▸ h.1)
    simp only [if_neg ht, nT ht, if_true, Option.bind_some, if_neg this]
  obtain ⟨t, t1, t2⟩ := samechart_eq c ⟨c.Start, rowsOf c.Start (cnts c)⟩ (by omega) (fun r hr => by have := hc r hr; omega)
  simp only [if_pos ht, bne_self_eq_false, Bool.false_eq_true, if_false, t2, Option.bind_some]
  cases t with
  | true =>
    have e : c.Rows = rowsOf c.Start (cnts c) := congrArg api_Chart.Rows (t1.1 rfl)
    have hq := (leads_of ht e).1
    have hp : tchk c.Start (cnts c) = 0 ∧ c.Rows = rowsOf c.Start (cnts c) := ⟨ht, e⟩
    rw [hq, if_pos hp]
    rfl
  | false =>
    have : ¬ (tchk c.Start (leads c) = 0 ∧ c.Rows = rowsOf c.Start (leads c)) := fun h => by
      have h1 := leads_of h.1 h.2
      have : c = ⟨c.Start, rowsOf c.Start (cnts c)⟩ := by
        rw [h1.2, ← h1.1]
        conv => lhs; rw [show c = ⟨c.Start, c.Rows⟩ from rfl, h.2]
      cases t1.2 this
    simp only [Bool.not_false, if_true, if_neg this]

end Go.Proofs.Ytoiehdlcfehmlaa
namespace Go.Proofs.Ytoiehdlcfehmlaa
open Go.RowKit
set_option linter.unusedVariables false

def anc_raddleref36_Same_0 : List (List Nat) := [[], [], [0, 1], [0, 1, 2], [], [], [4, 5], [4, 5, 6], [0, 1, 2, 3, 4, 5, 6, 7]]
noncomputable def raddleref36_Same_l1 (p0 : (List Int)) (p1 : (List Int)) : Int → Option (Int ⊕ (Bool ⊕ Unit)) := fun s0 => match s0 with
  | s13 =>
    if decide (s13 < (p0.length : Int)) then
      Option.bind (idxO p0 s13) fun x22 =>
      Option.bind (idxO p1 s13) fun x27 =>
      if x22 != x27 then
        some (.inr (.inl false))
      else
        some (.inl (w64 (s13 + 1)))
    else
      some (.inr (.inr ()))
noncomputable def F_raddleref36_Same (p0 : (List Int)) (p1 : (List Int)) : Option Bool :=
  if (p0.length : Int) != (p1.length : Int) then
    some false
  else
    Option.bind (α := Unit ⊕ Bool) (
      Option.bind (whileO (raddleref36_Same_l1 p0 p1) 0) fun z0 => match z0 with
        | .inl z =>
          some (.inr z)
        | .inr _ =>
          some (.inl ())) fun z0 => match z0 with
      | .inl _ =>
        some true
      | .inr z =>
        some z
set_option maxHeartbeats 4000000 in
set_option maxRecDepth 100000 in
theorem c_raddleref36_Same (E : Nat → Prop) (w0 : World) (p0 : (List Int)) (v0 : Value) (p1 : (List Int)) (v1 : Value) (r : Bool) (h : F_raddleref36_Same p0 p1 = some r) (S : St0 E [] w0 w0 [] [fRep (rL (rI .i64)) (v0) p0, fRep (rL (rI .i64)) (v1) p1]) :
    Calls Try.prog 13 #[v0, v1] w0 (Ret (X := Unit) E [] w0 (fun _ => .bool r) (fun _ => []) (fun _ => [])) := by
  unfold F_raddleref36_Same at h
  obtain ⟨ad1, cp2, _, rfl, _⟩ := S.know (i := 0) (e := fRep (rL (rI .i64)) (v0) p0) (by kernel_rfl)
  obtain ⟨ad3, cp4, _, rfl, _⟩ := S.know (i := 1) (e := fRep (rL (rI .i64)) (v1) p1) (by kernel_rfl)
  refine sEnter (args := [.slice ad1 p0.length cp2, .slice ad3 p1.length cp4]) 26 Try.func13 rfl rfl (by simp) S (fun a S => ?_)
  refine sSeq (fun K5 hK5 => ?_)
  refine sRegion ?_
  refine sMove (.bool false) S (wN rfl) (.inr rfl) (by kernel_rfl) rfl (by decide) (fun a S => ?_)
  refine leafL (leafT (hK5 _ _ ?_))
  refine sSeq (fun K6 hK6 => ?_)
  refine sSeq (fun K7 hK7 => ?_)
  refine sRegion ?_
  refine sMove (.slice ad1 p0.length cp2) S (wN rfl) (.inl rfl) (by kernel_rfl) rfl (by decide) (fun a S => ?_)
  refine sLen (ad := ad1) (m := p0.length) (c := cp2) S (wN rfl) rfl Try.underlying22 (by kernel_rfl) rfl (by decide) (fun a S => ?_)
  refine sMove (.slice ad3 p1.length cp4) S (wN rfl) (.inl rfl) (by kernel_rfl) rfl (by decide) (fun a S => ?_)
  refine sLen (ad := ad3) (m := p1.length) (c := cp4) S (wN rfl) rfl Try.underlying22 (by kernel_rfl) rfl (by decide) (fun a S => ?_)
  refine sBin (.bool ((p0.length : Int) != (p1.length : Int))) S (wN rfl) rfl (by kernel_rfl) (by kernel_rfl) (bNe _ _ _ _ .i64 (p0.length : Int) (p1.length : Int)) rfl (by decide) (fun a S => ?_)
  refine leafL (leafT (hK7 _ _ ?_))
  rcases iteSome h with ⟨hc8, h⟩ | ⟨hc8, h⟩
  · refine sCondT (b := (p0.length : Int) != (p1.length : Int)) S (by kernel_rfl) hc8 ?_
    refine sSeq (fun K9 hK9 => ?_)
    refine sRegion ?_
    refine sMove (.bool false) S (wN rfl) (.inr rfl) (by kernel_rfl) rfl (by decide) (fun a S => ?_)
    refine leafL (leafT (hK9 _ _ ?_))
    obtain rfl := Option.some.inj h
    exact wp_ret (rThen (sRet (.bool false) S (rsl1 rfl (rvT (t := 4) (v := .bool false) S (by kernel_rfl))) ⟨(), rfl, S.mem.sel [] [] (by decide) (by kernel_rfl) (by kernel_rfl)⟩))
  · refine sCondF (b := (p0.length : Int) != (p1.length : Int)) S (by kernel_rfl) hc8 ?_
    refine wp_skip (leafT (hK6 _ _ ?_))
    obtain ⟨t10, h, g11⟩ := bindSome h
    refine sCut (fun a w => .inl () = t10 ∧ St [] E [] w0 26 a w [] [] []) ?_ (fun a w hI => ?_)
    · refine sSeq (fun K12 hK12 => ?_)
      refine sRegion ?_
      refine sMove (.int .i64 0) S (wN rfl) (.inr rfl) (by kernel_rfl) rfl (by decide) (fun a S => ?_)
      refine leafL (leafT (hK12 _ _ ?_))
      refine wp_block ?_
      obtain ⟨t16, hl, g15⟩ := bindSome h
      refine sLoop hl (fun s0 a w => match s0 with | s13 => St [] E [] w0 26 a w [(0, .slice ad1 p0.length cp2), (1, .slice ad3 p1.length cp4), (5, .int .i64 s13)] [] [fRep (rL (rI .i64)) (.slice ad1 p0.length cp2) p0, fRep (rL (rI .i64)) (.slice ad3 p1.length cp4) p1]) (S.fix [] [0, 1] (by decide) (by kernel_rfl) (by kernel_rfl) (by kernel_rfl)) ?_
      clear hl h
      intro s13 a w c0 hI h hu14
      unfold raddleref36_Same_l1 at h
      dsimp only at h hI
      have S := hI
      refine sSeq (fun K17 hK17 => ?_)
      refine sSeq (fun K18 hK18 => ?_)
      refine sRegion ?_
      refine sMove (.int .i64 s13) S (wN rfl) (.inl rfl) (by kernel_rfl) rfl (by decide) (fun a S => ?_)
      refine sMove (.slice ad1 p0.length cp2) S (wN rfl) (.inl rfl) (by kernel_rfl) rfl (by decide) (fun a S => ?_)
      refine sLen (ad := ad1) (m := p0.length) (c := cp2) S (wN rfl) rfl Try.underlying22 (by kernel_rfl) rfl (by decide) (fun a S => ?_)
      refine sBin (.bool (decide (s13 < (p0.length : Int)))) S (wN rfl) rfl (by kernel_rfl) (by kernel_rfl) (bLt _ _ _ _ .i64 s13 (p0.length : Int)) rfl (by decide) (fun a S => ?_)
      refine leafL (leafT (hK18 _ _ ?_))
      rcases iteSome h with ⟨hc19, h⟩ | ⟨hc19, h⟩
      · refine sCondT (b := decide (s13 < (p0.length : Int))) S (by kernel_rfl) hc19 ?_
        refine wp_skip (leafT (hK17 _ _ ?_))
        refine sSeq (fun K20 hK20 => ?_)
        refine wp_block ?_
        refine sSeq (fun K21 hK21 => ?_)
        obtain ⟨x22, hx23, h⟩ := bindSome h
        obtain ⟨x27, hx28, h⟩ := bindSome h
        obtain ⟨q32, hq33, S⟩ := pIdx (P := Try.prog) (r := (rI .i64)) (v := .slice ad1 p0.length cp2) (xs := p0) (j := s13) 22 3 0 S Try.underlying22 (by kernel_rfl) (by kernel_rfl) hx23
        obtain ⟨u34, S⟩ := pLoad (r := (rI .i64)) (q := q32) (x := x22) 0 S (by kernel_rfl)
        obtain rfl : u34 = .int .i64 x22 := S.mem.know (i := 1) (e := fRep (rI .i64) (u34) x22) (by kernel_rfl)
        obtain ⟨q35, hq36, S⟩ := pIdx (P := Try.prog) (r := (rI .i64)) (v := .slice ad3 p1.length cp4) (xs := p1) (j := s13) 22 3 4 S Try.underlying22 (by kernel_rfl) (by kernel_rfl) hx28
        obtain ⟨u37, S⟩ := pLoad (r := (rI .i64)) (q := q35) (x := x27) 0 S (by kernel_rfl)
        obtain rfl : u37 = .int .i64 x27 := S.mem.know (i := 1) (e := fRep (rI .i64) (u37) x27) (by kernel_rfl)
        refine sDraw (nf := []) (W := [(0, 17, .slice ad1 p0.length cp2), (1, 18, .int .i64 s13), (2, 19, q32), (3, 20, .int .i64 x22), (4, 21, .slice ad3 p1.length cp4), (5, 22, .int .i64 s13), (6, 23, q35), (7, 24, .int .i64 x27), (8, 25, .bool (x22 != x27))]) (by kernel_rfl) S ?_
        refine node_by (A := anc_raddleref36_Same_0) (nf := []) (Y := []) (W := [(0, 17, .slice ad1 p0.length cp2), (1, 18, .int .i64 s13), (2, 19, q32), (3, 20, .int .i64 x22), (4, 21, .slice ad3 p1.length cp4), (5, 22, .int .i64 s13), (6, 23, q35), (7, 24, .int .i64 x27), (8, 25, .bool (x22 != x27))]) 9 (by kernel_rfl) (by kernel_rfl) (by kernel_rfl) (by kernel_rfl) (by kernel_rfl) [0, 1, 2, 3, 4, 5, 6, 7, 8] (by kernel_rfl) (by decide) (by decide) (aF 0 8 (by decide) ?_ (aF 1 7 (by decide) ?_ (aF 2 6 (by decide) ?_ (aF 3 5 (by decide) ?_ (aF 4 4 (by decide) ?_ (aF 5 3 (by decide) ?_ (aF 6 2 (by decide) ?_ (aF 7 1 (by decide) ?_ (aF 8 0 (by decide) ?_ (trivial)))))))))) [(0, .slice ad1 p0.length cp2), (1, .slice ad3 p1.length cp4), (5, .int .i64 s13), (25, .bool (x22 != x27))] (fin_of [none, none, none, some 8] rfl (by kernel_rfl) (by kernel_rfl)) (fun _ a w S => ?_)
        · refine fI 17 (.slice ad1 p0.length cp2) [(0, .slice ad1 p0.length cp2)] 0 [none] rfl rfl (by kernel_rfl) rfl (by kernel_rfl) (by kernel_rfl) fun G a w S => ?_
          refine sMove (.slice ad1 p0.length cp2) S (wN rfl) (.inl rfl) (by kernel_rfl) rfl (by decide) (fun a S => ?_)
          exact leafL ⟨rfl, S⟩
        · refine fI 18 (.int .i64 s13) [(5, .int .i64 s13)] 1 [none] rfl rfl (by kernel_rfl) rfl (by kernel_rfl) (by kernel_rfl) fun G a w S => ?_
          refine sMove (.int .i64 s13) S (wN rfl) (.inl rfl) (by kernel_rfl) rfl (by decide) (fun a S => ?_)
          exact leafL ⟨rfl, S⟩
        · refine fI 19 q32 [(17, .slice ad1 p0.length cp2), (18, .int .i64 s13)] 2 [some 0, some 1] rfl rfl (by kernel_rfl) rfl (by kernel_rfl) (by kernel_rfl) fun G a w S => ?_
          refine sIdxV (v := .slice ad1 p0.length cp2) (k := .i64) (j := s13) S (wN rfl) rfl (by kernel_rfl) (by kernel_rfl) hq33 rfl (by decide) (fun a S => ?_)
          exact leafL ⟨rfl, S⟩
        · refine fI 20 (.int .i64 x22) [(19, q32)] 3 [some 2] rfl rfl (by kernel_rfl) rfl (by kernel_rfl) (by kernel_rfl) fun G a w S => ?_
          refine sLoadV1 (vq := q32) 3 (.int .i64 x22) S (wN rfl) rfl (by kernel_rfl) (by kernel_rfl) (by kernel_rfl) rfl (by decide) (fun a S => ?_)
          exact leafL ⟨rfl, S⟩
        · refine fI 21 (.slice ad3 p1.length cp4) [(1, .slice ad3 p1.length cp4)] 4 [none] rfl rfl (by kernel_rfl) rfl (by kernel_rfl) (by kernel_rfl) fun G a w S => ?_
          refine sMove (.slice ad3 p1.length cp4) S (wN rfl) (.inl rfl) (by kernel_rfl) rfl (by decide) (fun a S => ?_)
          exact leafL ⟨rfl, S⟩
        · refine fI 22 (.int .i64 s13) [(5, .int .i64 s13)] 5 [none] rfl rfl (by kernel_rfl) rfl (by kernel_rfl) (by kernel_rfl) fun G a w S => ?_
          refine sMove (.int .i64 s13) S (wN rfl) (.inl rfl) (by kernel_rfl) rfl (by decide) (fun a S => ?_)
          exact leafL ⟨rfl, S⟩
        · refine fI 23 q35 [(21, .slice ad3 p1.length cp4), (22, .int .i64 s13)] 6 [some 4, some 5] rfl rfl (by kernel_rfl) rfl (by kernel_rfl) (by kernel_rfl) fun G a w S => ?_
          refine sIdxV (v := .slice ad3 p1.length cp4) (k := .i64) (j := s13) S (wN rfl) rfl (by kernel_rfl) (by kernel_rfl) hq36 rfl (by decide) (fun a S => ?_)
          exact leafL ⟨rfl, S⟩
        · refine fI 24 (.int .i64 x27) [(23, q35)] 7 [some 6] rfl rfl (by kernel_rfl) rfl (by kernel_rfl) (by kernel_rfl) fun G a w S => ?_
          refine sLoadV1 (vq := q35) 0 (.int .i64 x27) S (wN rfl) rfl (by kernel_rfl) (by kernel_rfl) (by kernel_rfl) rfl (by decide) (fun a S => ?_)
          exact leafL ⟨rfl, S⟩
        · refine fI 25 (.bool (x22 != x27)) [(20, .int .i64 x22), (24, .int .i64 x27)] 8 [some 3, some 7] rfl rfl (by kernel_rfl) rfl (by kernel_rfl) (by kernel_rfl) fun G a w S => ?_
          refine sBin (.bool (x22 != x27)) S (wN rfl) rfl (by kernel_rfl) (by kernel_rfl) (bNe _ _ _ _ .i64 x22 x27) rfl (by decide) (fun a S => ?_)
          exact leafL ⟨rfl, S⟩
        · refine leafT (hK21 _ _ ?_)
          rcases iteSome h with ⟨hc38, h⟩ | ⟨hc38, h⟩
          · refine sCondT (b := x22 != x27) S (by kernel_rfl) hc38 ?_
            refine sSeq (fun K39 hK39 => ?_)
            refine sRegion ?_
            refine sMove (.bool false) S (wN rfl) (.inr rfl) (by kernel_rfl) rfl (by decide) (fun a S => ?_)
            refine leafL (leafT (hK39 _ _ ?_))
            obtain rfl := Option.some.inj h
            obtain rfl := hu14 _ rfl
            have h := g15
            clear g15
            try dsimp only at h
            obtain rfl := Option.some.inj h
            have h := g11
            clear g11
            try dsimp only at h
            obtain rfl := Option.some.inj h
            exact wp_ret (rBlock (rThen (rThen (rBlock (rThen (sRet (.bool false) S (rsl1 rfl (rvT (t := 4) (v := .bool false) S (by kernel_rfl))) ⟨(), rfl, S.mem.sel [] [] (by decide) (by kernel_rfl) (by kernel_rfl)⟩))))))
          · refine sCondF (b := x22 != x27) S (by kernel_rfl) hc38 ?_
            refine wp_skip (leafB (leafT (hK20 _ _ ?_)))
            refine sRegion ?_
            refine sMove (.int .i64 s13) S (wN rfl) (.inl rfl) (by kernel_rfl) rfl (by decide) (fun a S => ?_)
            refine sBin (.int .i64 (w64 (s13 + 1))) S (wN rfl) rfl (by kernel_rfl) (by kernel_rfl) (bAdd _ _ _ _ s13 1) rfl (by decide) (fun a S => ?_)
            refine sMove (.int .i64 (w64 (s13 + 1))) S (wN rfl) (.inr rfl) (by kernel_rfl) rfl (by decide) (fun a S => ?_)
            exact leafL (leafT (⟨w64 (s13 + 1), (Option.some.inj h).symm, (S.fix [] [6, 7] (by decide) (by kernel_rfl) (by kernel_rfl) (by kernel_rfl))⟩))
      · refine sCondF (b := decide (s13 < (p0.length : Int))) S (by kernel_rfl) hc19 ?_
        obtain rfl := Option.some.inj h
        obtain rfl := hu14 _ rfl
        have h := g15
        clear g15
        try dsimp only at h
        exact wp_exit (xThen (xThen (xHit (leafT (⟨Option.some.inj h, S.fix [] [] (by decide) (by kernel_rfl) (by kernel_rfl) (by kernel_rfl)⟩)))))
    · obtain ⟨rfl, S⟩ := hI
      have h := g11
      clear g11
      try dsimp only at h
      refine sSeq (fun K40 hK40 => ?_)
      refine sRegion ?_
      refine sMove (.bool true) S (wN rfl) (.inr rfl) (by kernel_rfl) rfl (by decide) (fun a S => ?_)
      refine leafL (leafT (hK40 _ _ ?_))
      obtain rfl := Option.some.inj h
      exact wp_ret (sRet (.bool true) S (rsl1 rfl (rvT (t := 4) (v := .bool true) S (by kernel_rfl))) ⟨(), rfl, S.mem.sel [] [] (by decide) (by kernel_rfl) (by kernel_rfl)⟩)

end Go.Proofs.Ytoiehdlcfehmlaa
namespace Go.Proofs.Ytoiehdlcfehmlaa
open Go.RowKit
set_option linter.unusedVariables false

noncomputable def raddleref38_GreatChart_l1 (p0 : api_Chart) : Int → Option (Int ⊕ (Bool ⊕ Unit)) := fun s0 => match s0 with
  | s10 =>
    if decide (s10 < (p0.Rows.length : Int)) then
      Option.bind (idxO p0.Rows s10) fun x19 =>
      if decide (60 < (x19.Cells.length : Int)) then
        some (.inr (.inl true))
      else
        some (.inl (w64 (s10 + 1)))
    else
      some (.inr (.inr ()))
noncomputable def F_raddleref38_GreatChart (p0 : api_Chart) : Option Bool :=
  Option.bind (α := Unit ⊕ Bool) (
    Option.bind (whileO (raddleref38_GreatChart_l1 p0) 0) fun z0 => match z0 with
      | .inl z =>
        some (.inr z)
      | .inr _ =>
        some (.inl ())) fun z0 => match z0 with
    | .inl _ =>
      some (decide (120 < (p0.Rows.length : Int)))
    | .inr z =>
      some z
set_option maxHeartbeats 4000000 in
set_option maxRecDepth 100000 in
theorem c_raddleref38_GreatChart (E : Nat → Prop) (w0 : World) (p0 : api_Chart) (v0 : Value) (r : Bool) (h : F_raddleref38_GreatChart p0 = some r) (S : St0 E [] w0 w0 [] [fRep r_api_Chart (v0) p0]) :
    Calls Try.prog 14 #[v0] w0 (Ret (X := Unit) E [] w0 (fun _ => .bool r) (fun _ => []) (fun _ => [])) := by
  unfold F_raddleref38_GreatChart at h
  obtain ⟨u1, rfl, hu2⟩ := S.know (i := 0) (e := fRep r_api_Chart (v0) p0) (by kernel_rfl)
  have S := S.learn (fRep (rL r_api_Row) u1 p0.Rows) hu2
  obtain ⟨ad3, cp4, _, rfl, _⟩ := hu2
  refine sEnter (args := [.agg #[.int .i64 p0.Start, .slice ad3 p0.Rows.length cp4]]) 23 Try.func14 rfl rfl (by simp) S (fun a S => ?_)
  refine sSeq (fun K5 hK5 => ?_)
  refine sRegion ?_
  refine sBox (v := .agg #[.int .i64 p0.Start, .slice ad3 p0.Rows.length cp4]) S (wN rfl) rfl (by kernel_rfl) [.int .i64 p0.Start, .slice ad3 p0.Rows.length cp4] rfl rfl (by decide) (fun a b6 w S => ?_)
  refine sMove (.bool false) S (wN rfl) (.inr rfl) (by kernel_rfl) rfl (by decide) (fun a S => ?_)
  refine leafL (leafT (hK5 _ _ ?_))
  obtain ⟨t7, h, g8⟩ := bindSome h
  refine sCut (fun a w => .inl () = t7 ∧ St [] E [] w0 23 a w [(1, .pointer (some ⟨b6, 0, none⟩))] [eBox b6 40 [.int .i64 p0.Start, .slice ad3 p0.Rows.length cp4]] [fRep (rL r_api_Row) (.slice ad3 p0.Rows.length cp4) p0.Rows]) ?_ (fun a w hI => ?_)
  · refine sSeq (fun K9 hK9 => ?_)
    refine sRegion ?_
    refine sMove (.int .i64 0) S (wN rfl) (.inr rfl) (by kernel_rfl) rfl (by decide) (fun a S => ?_)
    refine leafL (leafT (hK9 _ _ ?_))
    refine wp_block ?_
    obtain ⟨t13, hl, g12⟩ := bindSome h
    refine sLoop hl (fun s0 a w => match s0 with | s10 => St [] E [] w0 23 a w [(1, .pointer (some ⟨b6, 0, none⟩)), (3, .int .i64 s10)] [eBox b6 40 [.int .i64 p0.Start, .slice ad3 p0.Rows.length cp4]] [fRep (rL r_api_Row) (.slice ad3 p0.Rows.length cp4) p0.Rows]) (S.fix [0] [0] (by decide) (by kernel_rfl) (by kernel_rfl) (by kernel_rfl)) ?_
    clear hl h
    intro s10 a w c0 hI h hu11
    unfold raddleref38_GreatChart_l1 at h
    dsimp only at h hI
    have S := hI
    refine sSeq (fun K14 hK14 => ?_)
    refine sSeq (fun K15 hK15 => ?_)
    refine sRegion ?_
    refine sMove (.int .i64 s10) S (wN rfl) (.inl rfl) (by kernel_rfl) rfl (by decide) (fun a S => ?_)
    refine sField (b := b6) (off := 0) 1 1 S (wN rfl) rfl (by kernel_rfl) (by kernel_rfl) rfl rfl (by decide) (fun a S => ?_)
    refine sLoad1 (p := b6) (off := 1) (T := 40) (vs := [.int .i64 p0.Start, .slice ad3 p0.Rows.length cp4]) 0 (.slice ad3 p0.Rows.length cp4) S (wN rfl) rfl (by kernel_rfl) (by kernel_rfl) (by kernel_rfl) rfl rfl (by decide) (fun a S => ?_)
    refine sLen (ad := ad3) (m := p0.Rows.length) (c := cp4) S (wN rfl) rfl Try.underlying38 (by kernel_rfl) rfl (by decide) (fun a S => ?_)
    refine sBin (.bool (decide (s10 < (p0.Rows.length : Int)))) S (wN rfl) rfl (by kernel_rfl) (by kernel_rfl) (bLt _ _ _ _ .i64 s10 (p0.Rows.length : Int)) rfl (by decide) (fun a S => ?_)
    refine leafL (leafT (hK15 _ _ ?_))
    rcases iteSome h with ⟨hc16, h⟩ | ⟨hc16, h⟩
    · refine sCondT (b := decide (s10 < (p0.Rows.length : Int))) S (by kernel_rfl) hc16 ?_
      refine wp_skip (leafT (hK14 _ _ ?_))
      refine sSeq (fun K17 hK17 => ?_)
      refine wp_block ?_
      refine sSeq (fun K18 hK18 => ?_)
      refine sRegion ?_
      refine sField (b := b6) (off := 0) 1 1 S (wN rfl) rfl (by kernel_rfl) (by kernel_rfl) rfl rfl (by decide) (fun a S => ?_)
      refine sLoad1 (p := b6) (off := 1) (T := 40) (vs := [.int .i64 p0.Start, .slice ad3 p0.Rows.length cp4]) 0 (.slice ad3 p0.Rows.length cp4) S (wN rfl) rfl (by kernel_rfl) (by kernel_rfl) (by kernel_rfl) rfl rfl (by decide) (fun a S => ?_)
      refine sMove (.int .i64 s10) S (wN rfl) (.inl rfl) (by kernel_rfl) rfl (by decide) (fun a S => ?_)
      obtain ⟨x19, hx20, h⟩ := bindSome h
      obtain ⟨q21, hq22, S⟩ := pIdx (P := Try.prog) (r := r_api_Row) (v := .slice ad3 p0.Rows.length cp4) (xs := p0.Rows) (j := s10) 38 57 0 S Try.underlying38 (by kernel_rfl) (by kernel_rfl) hx20
      refine sIdxV (v := .slice ad3 p0.Rows.length cp4) (k := .i64) (j := s10) S (wN rfl) rfl (by kernel_rfl) (by kernel_rfl) hq22 rfl (by decide) (fun a S => ?_)
      obtain ⟨q23, hq24, S⟩ := pFld (P := Try.prog) (r := r_api_Row) (s2 := (rL r_api_Stitch)) (g := (·.Cells)) (q := q21) (z := x19) 57 1 0 1 S (by kernel_rfl) (by kernel_rfl) comp_api_Row_Cells
      refine sFldV (q := q21) S (wN rfl) rfl (by kernel_rfl) hq24 rfl (by decide) (fun a S => ?_)
      obtain ⟨u25, S⟩ := pLoad (r := (rL r_api_Stitch)) (q := q23) (x := x19.Cells) 0 S (by kernel_rfl)
      obtain ⟨ad26, cp27, _, rfl, _⟩ := S.mem.know (i := 1) (e := fRep (rL r_api_Stitch) (u25) x19.Cells) (by kernel_rfl)
      refine sLoadV1 (vq := q23) 0 (.slice ad26 x19.Cells.length cp27) S (wN rfl) rfl (by kernel_rfl) (by kernel_rfl) (by kernel_rfl) rfl (by decide) (fun a S => ?_)
      refine sLen (ad := ad26) (m := x19.Cells.length) (c := cp27) S (wN rfl) rfl Try.underlying55 (by kernel_rfl) rfl (by decide) (fun a S => ?_)
      refine sBin (.bool (decide (60 < (x19.Cells.length : Int)))) S (wN rfl) rfl (by kernel_rfl) (by kernel_rfl) (bGt _ _ _ _ .i64 (x19.Cells.length : Int) 60) rfl (by decide) (fun a S => ?_)
      refine leafL (leafT (hK18 _ _ ?_))
      rcases iteSome h with ⟨hc28, h⟩ | ⟨hc28, h⟩
      · refine sCondT (b := decide (60 < (x19.Cells.length : Int))) S (by kernel_rfl) hc28 ?_
        refine sSeq (fun K29 hK29 => ?_)
        refine sRegion ?_
        refine sMove (.bool true) S (wN rfl) (.inr rfl) (by kernel_rfl) rfl (by decide) (fun a S => ?_)
        refine leafL (leafT (hK29 _ _ ?_))
        obtain rfl := Option.some.inj h
        obtain rfl := hu11 _ rfl
        have h := g12
        clear g12
        try dsimp only at h
        obtain rfl := Option.some.inj h
        have h := g8
        clear g8
        try dsimp only at h
        obtain rfl := Option.some.inj h
        exact wp_ret (rBlock (rThen (rThen (rBlock (rThen (sRet (.bool true) S (rsl1 rfl (rvT (t := 2) (v := .bool true) S (by kernel_rfl))) ⟨(), rfl, S.mem.sel [] [] (by decide) (by kernel_rfl) (by kernel_rfl)⟩))))))
      · refine sCondF (b := decide (60 < (x19.Cells.length : Int))) S (by kernel_rfl) hc28 ?_
        refine wp_skip (leafB (leafT (hK17 _ _ ?_)))
        refine sRegion ?_
        refine sMove (.int .i64 s10) S (wN rfl) (.inl rfl) (by kernel_rfl) rfl (by decide) (fun a S => ?_)
        refine sBin (.int .i64 (w64 (s10 + 1))) S (wN rfl) rfl (by kernel_rfl) (by kernel_rfl) (bAdd _ _ _ _ s10 1) rfl (by decide) (fun a S => ?_)
        refine sMove (.int .i64 (w64 (s10 + 1))) S (wN rfl) (.inr rfl) (by kernel_rfl) rfl (by decide) (fun a S => ?_)
        exact leafL (leafT (⟨w64 (s10 + 1), (Option.some.inj h).symm, (S.fix [0] [4] (by decide) (by kernel_rfl) (by kernel_rfl) (by kernel_rfl))⟩))
    · refine sCondF (b := decide (s10 < (p0.Rows.length : Int))) S (by kernel_rfl) hc16 ?_
      obtain rfl := Option.some.inj h
      obtain rfl := hu11 _ rfl
      have h := g12
      clear g12
      try dsimp only at h
      exact wp_exit (xThen (xThen (xHit (leafT (⟨Option.some.inj h, S.fix [0] [0] (by decide) (by kernel_rfl) (by kernel_rfl) (by kernel_rfl)⟩)))))
  · obtain ⟨rfl, S⟩ := hI
    have h := g8
    clear g8
    try dsimp only at h
    refine sSeq (fun K30 hK30 => ?_)
    refine sRegion ?_
    refine sField (b := b6) (off := 0) 1 1 S (wN rfl) rfl (by kernel_rfl) (by kernel_rfl) rfl rfl (by decide) (fun a S => ?_)
    refine sLoad1 (p := b6) (off := 1) (T := 40) (vs := [.int .i64 p0.Start, .slice ad3 p0.Rows.length cp4]) 0 (.slice ad3 p0.Rows.length cp4) S (wN rfl) rfl (by kernel_rfl) (by kernel_rfl) (by kernel_rfl) rfl rfl (by decide) (fun a S => ?_)
    refine sLen (ad := ad3) (m := p0.Rows.length) (c := cp4) S (wN rfl) rfl Try.underlying38 (by kernel_rfl) rfl (by decide) (fun a S => ?_)
    refine sBin (.bool (decide (120 < (p0.Rows.length : Int)))) S (wN rfl) rfl (by kernel_rfl) (by kernel_rfl) (bGt _ _ _ _ .i64 (p0.Rows.length : Int) 120) rfl (by decide) (fun a S => ?_)
    refine sMove (.bool (decide (120 < (p0.Rows.length : Int)))) S (wN rfl) (.inr rfl) (by kernel_rfl) rfl (by decide) (fun a S => ?_)
    refine leafL (leafT (hK30 _ _ ?_))
    obtain rfl := Option.some.inj h
    exact wp_ret (sRet (.bool (decide (120 < (p0.Rows.length : Int)))) S (rsl1 rfl (rvT (t := 2) (v := .bool (decide (120 < (p0.Rows.length : Int)))) S (by kernel_rfl))) ⟨(), rfl, S.mem.sel [] [] (by decide) (by kernel_rfl) (by kernel_rfl)⟩)

end Go.Proofs.Ytoiehdlcfehmlaa
namespace Go.Proofs.Ytoiehdlcfehmlaa
open Go.RowKit
set_option linter.unusedVariables false

noncomputable def F_raddlelaw38_ShortCharts (p0 : Int) (p1 : (List Int)) (p2 : api_Chart) : Option Bool :=
  Option.bind (α := Bool) (
    if decide (60 < p0) then
      if decide (p0 ≤ 200) then
        some true
      else
        if decide (60 < (p1.length : Int)) then
          some true
        else
          Option.bind (F_raddleref38_GreatChart p2) fun r16 =>
          some r16
    else
      if decide (60 < (p1.length : Int)) then
        some true
      else
        Option.bind (F_raddleref38_GreatChart p2) fun r19 =>
        some r19) fun o10 =>
  if o10 then
    some true
  else
    Option.bind (F_short_Chart p0 p1) fun r24 =>
    Option.bind (F_raddleref38_Chart p0 p1) fun r33 =>
    Option.bind (F_short_Read p2) fun r42 =>
    Option.bind (F_raddleref38_Read p2) fun r48 =>
    Option.bind (α := Bool) (
      Option.bind (F_raddleref37_SameChart r24.1 r33.1) fun r56 =>
      if r56 then
        if r24.2 == r33.2 then
          if r42.1 == r48.1 then
            Option.bind (F_raddleref36_Same r42.2.1 r48.2.1) fun r61 =>
            if r61 then
              some (r42.2.2 == r48.2.2)
            else
              some false
          else
            some false
        else
          some false
      else
        some false) fun o53 =>
    some o53
set_option maxHeartbeats 4000000 in
set_option maxRecDepth 100000 in
theorem c_raddlelaw38_ShortCharts (E : Nat → Prop) (w0 : World) (p0 : Int) (p1 : (List Int)) (v1 : Value) (p2 : api_Chart) (v2 : Value) (r : Bool) (h : F_raddlelaw38_ShortCharts p0 p1 p2 = some r) (S : St0 E [] w0 w0 [] [fRep (rL (rI .i64)) (v1) p1, fRep r_api_Chart (v2) p2]) :
    Calls Try.prog 4 #[.int .i64 p0, v1, v2] w0 (Ret (X := Unit) E [] w0 (fun _ => .bool r) (fun _ => []) (fun _ => [])) := by
  unfold F_raddlelaw38_ShortCharts at h
  obtain ⟨ad1, cp2, _, rfl, _⟩ := S.know (i := 0) (e := fRep (rL (rI .i64)) (v1) p1) (by kernel_rfl)
  obtain ⟨u3, rfl, hu4⟩ := S.know (i := 1) (e := fRep r_api_Chart (v2) p2) (by kernel_rfl)
  have S := S.learn (fRep (rL r_api_Row) u3 p2.Rows) hu4
  obtain ⟨ad5, cp6, _, rfl, _⟩ := hu4
  refine sEnter (args := [.int .i64 p0, .slice ad1 p1.length cp2, .agg #[.int .i64 p2.Start, .slice ad5 p2.Rows.length cp6]]) 79 Try.func4 rfl rfl (by simp) S (fun a S => ?_)
  refine sSeq (fun K7 hK7 => ?_)
  refine sRegion ?_
  refine sBox (v := .agg #[.int .i64 p2.Start, .slice ad5 p2.Rows.length cp6]) S (wN rfl) rfl (by kernel_rfl) [.int .i64 p2.Start, .slice ad5 p2.Rows.length cp6] rfl rfl (by decide) (fun a b8 w S => ?_)
  refine sMove (.bool false) S (wN rfl) (.inr rfl) (by kernel_rfl) rfl (by decide) (fun a S => ?_)
  refine leafL (leafT (hK7 _ _ ?_))
  refine sSeq (fun K9 hK9 => ?_)
  obtain ⟨t11, h, g12⟩ := bindSome h
  refine sCut (fun a w => ∃ o10, o10 = t11 ∧ St [] E [] w0 79 a w [(0, .int .i64 p0), (1, .slice ad1 p1.length cp2), (5, .pointer (some ⟨b8, 0, none⟩)), (31, .bool o10)] [eBox b8 40 [.int .i64 p2.Start, .slice ad5 p2.Rows.length cp6]] [fRep (rL (rI .i64)) (.slice ad1 p1.length cp2) p1, fRep (rL r_api_Row) (.slice ad5 p2.Rows.length cp6) p2.Rows]) ?_ (fun a w hI => ?_)
  · refine sRegion ?_
    refine sMove (.int .i64 p0) S (wN rfl) (.inl rfl) (by kernel_rfl) rfl (by decide) (fun a S => ?_)
    refine sBin (.bool (decide (60 < p0))) S (wN rfl) rfl (by kernel_rfl) (by kernel_rfl) (bGt _ _ _ _ .i64 p0 60) rfl (by decide) (fun a S => ?_)
    refine sMove (.bool (decide (60 < p0))) S (wN rfl) (.inl rfl) (by kernel_rfl) rfl (by decide) (fun a S => ?_)
    rcases iteSome h with ⟨hc13, h⟩ | ⟨hc13, h⟩
    · refine sMove (.int .i64 p0) S (wG (c := decide (60 < p0)) 2 true 19 rfl rfl (by kernel_rfl) hc13) (.inl rfl) (by kernel_rfl) rfl (by decide) (fun a S => ?_)
      refine sBin (.bool (decide (p0 ≤ 200))) S (wG (c := decide (60 < p0)) 2 true 19 rfl rfl (by kernel_rfl) hc13) rfl (by kernel_rfl) (by kernel_rfl) (bLe _ _ _ _ .i64 p0 200) rfl (by decide) (fun a S => ?_)
      refine sPickT (b := decide (60 < p0)) (.bool (decide (p0 ≤ 200))) S (wN rfl) rfl (by kernel_rfl) hc13 (by kernel_rfl) rfl (by decide) (fun a S => ?_)
      refine sMove (.bool (decide (p0 ≤ 200))) S (wN rfl) (.inl rfl) (by kernel_rfl) rfl (by decide) (fun a S => ?_)
      rcases iteSome h with ⟨hc14, h⟩ | ⟨hc14, h⟩
      · refine sSkip (c := decide (p0 ≤ 200)) 6 false 23 24 S rfl rfl (by kernel_rfl) hc14 rfl (by decide) (fun a S => ?_)
        refine sSkip (c := decide (p0 ≤ 200)) 6 false 23 25 S rfl rfl (by kernel_rfl) hc14 rfl (by decide) (fun a S => ?_)
        refine sSkip (c := decide (p0 ≤ 200)) 6 false 23 26 S rfl rfl (by kernel_rfl) hc14 rfl (by decide) (fun a S => ?_)
        refine sPickT (b := decide (p0 ≤ 200)) (.bool true) S (wN rfl) rfl (by kernel_rfl) hc14 (by kernel_rfl) rfl (by decide) (fun a S => ?_)
        refine sMove (.bool true) S (wN rfl) (.inl rfl) (by kernel_rfl) rfl (by decide) (fun a S => ?_)
        refine sSkip (c := true) 11 false 28 29 S rfl rfl (by kernel_rfl) rfl rfl (by decide) (fun a S => ?_)
        refine sSkip (c := true) 11 false 28 30 S rfl rfl (by kernel_rfl) rfl rfl (by decide) (fun a S => ?_)
        refine sPickT (b := true) (.bool true) S (wN rfl) rfl (by kernel_rfl) rfl (by kernel_rfl) rfl (by decide) (fun a S => ?_)
        exact leafL (leafT (⟨true, Option.some.inj h, S.fix [0] [1, 0] (by decide) (by kernel_rfl) (by kernel_rfl) (by kernel_rfl)⟩))
      · refine sMove (.slice ad1 p1.length cp2) S (wG (c := decide (p0 ≤ 200)) 6 false 23 rfl rfl (by kernel_rfl) hc14) (.inl rfl) (by kernel_rfl) rfl (by decide) (fun a S => ?_)
        refine sLen (ad := ad1) (m := p1.length) (c := cp2) S (wG (c := decide (p0 ≤ 200)) 6 false 23 rfl rfl (by kernel_rfl) hc14) rfl Try.underlying22 (by kernel_rfl) rfl (by decide) (fun a S => ?_)
        refine sBin (.bool (decide (60 < (p1.length : Int)))) S (wG (c := decide (p0 ≤ 200)) 6 false 23 rfl rfl (by kernel_rfl) hc14) rfl (by kernel_rfl) (by kernel_rfl) (bGt _ _ _ _ .i64 (p1.length : Int) 60) rfl (by decide) (fun a S => ?_)
        refine sPickF (b := decide (p0 ≤ 200)) (.bool (decide (60 < (p1.length : Int)))) S (wN rfl) rfl (by kernel_rfl) hc14 (by kernel_rfl) rfl (by decide) (fun a S => ?_)
        refine sMove (.bool (decide (60 < (p1.length : Int)))) S (wN rfl) (.inl rfl) (by kernel_rfl) rfl (by decide) (fun a S => ?_)
        rcases iteSome h with ⟨hc15, h⟩ | ⟨hc15, h⟩
        · refine sSkip (c := decide (60 < (p1.length : Int))) 11 false 28 29 S rfl rfl (by kernel_rfl) hc15 rfl (by decide) (fun a S => ?_)
          refine sSkip (c := decide (60 < (p1.length : Int))) 11 false 28 30 S rfl rfl (by kernel_rfl) hc15 rfl (by decide) (fun a S => ?_)
          refine sPickT (b := decide (60 < (p1.length : Int))) (.bool true) S (wN rfl) rfl (by kernel_rfl) hc15 (by kernel_rfl) rfl (by decide) (fun a S => ?_)
          exact leafL (leafT (⟨true, Option.some.inj h, S.fix [0] [1, 0] (by decide) (by kernel_rfl) (by kernel_rfl) (by kernel_rfl)⟩))
        · refine sLoadN (p := b8) (off := 0) (T := 40) (vs := [.int .i64 p2.Start, .slice ad5 p2.Rows.length cp6]) 0 [.int .i64 p2.Start, .slice ad5 p2.Rows.length cp6] S (wG (c := decide (60 < (p1.length : Int))) 11 false 28 rfl rfl (by kernel_rfl) hc15) rfl (by kernel_rfl) (by kernel_rfl) (by kernel_rfl) (by kernel_rfl) rfl rfl (by decide) (fun a S => ?_)
          obtain ⟨r16, hx17, h⟩ := bindSome h
          have S1 := S.mem
          refine sCallQ (X := Unit) (f := 14) (vs := [.agg #[.int .i64 p2.Start, .slice ad5 p2.Rows.length cp6]]) (val := fun _ => .bool r16) S (wG (c := decide (60 < (p1.length : Int))) 11 false 28 rfl rfl (by kernel_rfl) hc15) rfl callee14 (by kernel_rfl) (S1.quiet [2] (by kernel_rfl)) (fun E1 w1 S1 => c_raddleref38_GreatChart E1 w1 p2 (.agg #[.int .i64 p2.Start, .slice ad5 p2.Rows.length cp6]) r16 hx17 S1) rfl (by decide) (fun _ a w S => ?_)
          refine sPickF (b := decide (60 < (p1.length : Int))) (.bool r16) S (wN rfl) rfl (by kernel_rfl) hc15 (by kernel_rfl) rfl (by decide) (fun a S => ?_)
          exact leafL (leafT (⟨r16, Option.some.inj h, S.fix [0] [1, 0] (by decide) (by kernel_rfl) (by kernel_rfl) (by kernel_rfl)⟩))
    · refine sSkip (c := decide (60 < p0)) 2 true 19 20 S rfl rfl (by kernel_rfl) hc13 rfl (by decide) (fun a S => ?_)
      refine sSkip (c := decide (60 < p0)) 2 true 19 21 S rfl rfl (by kernel_rfl) hc13 rfl (by decide) (fun a S => ?_)
      refine sPickF (b := decide (60 < p0)) (.bool false) S (wN rfl) rfl (by kernel_rfl) hc13 (by kernel_rfl) rfl (by decide) (fun a S => ?_)
      refine sMove (.bool false) S (wN rfl) (.inl rfl) (by kernel_rfl) rfl (by decide) (fun a S => ?_)
      refine sMove (.slice ad1 p1.length cp2) S (wG (c := false) 6 false 23 rfl rfl (by kernel_rfl) rfl) (.inl rfl) (by kernel_rfl) rfl (by decide) (fun a S => ?_)
      refine sLen (ad := ad1) (m := p1.length) (c := cp2) S (wG (c := false) 6 false 23 rfl rfl (by kernel_rfl) rfl) rfl Try.underlying22 (by kernel_rfl) rfl (by decide) (fun a S => ?_)
      refine sBin (.bool (decide (60 < (p1.length : Int)))) S (wG (c := false) 6 false 23 rfl rfl (by kernel_rfl) rfl) rfl (by kernel_rfl) (by kernel_rfl) (bGt _ _ _ _ .i64 (p1.length : Int) 60) rfl (by decide) (fun a S => ?_)
      refine sPickF (b := false) (.bool (decide (60 < (p1.length : Int)))) S (wN rfl) rfl (by kernel_rfl) rfl (by kernel_rfl) rfl (by decide) (fun a S => ?_)
      refine sMove (.bool (decide (60 < (p1.length : Int)))) S (wN rfl) (.inl rfl) (by kernel_rfl) rfl (by decide) (fun a S => ?_)
      rcases iteSome h with ⟨hc18, h⟩ | ⟨hc18, h⟩
      · refine sSkip (c := decide (60 < (p1.length : Int))) 11 false 28 29 S rfl rfl (by kernel_rfl) hc18 rfl (by decide) (fun a S => ?_)
        refine sSkip (c := decide (60 < (p1.length : Int))) 11 false 28 30 S rfl rfl (by kernel_rfl) hc18 rfl (by decide) (fun a S => ?_)
        refine sPickT (b := decide (60 < (p1.length : Int))) (.bool true) S (wN rfl) rfl (by kernel_rfl) hc18 (by kernel_rfl) rfl (by decide) (fun a S => ?_)
        exact leafL (leafT (⟨true, Option.some.inj h, S.fix [0] [1, 0] (by decide) (by kernel_rfl) (by kernel_rfl) (by kernel_rfl)⟩))
      · refine sLoadN (p := b8) (off := 0) (T := 40) (vs := [.int .i64 p2.Start, .slice ad5 p2.Rows.length cp6]) 0 [.int .i64 p2.Start, .slice ad5 p2.Rows.length cp6] S (wG (c := decide (60 < (p1.length : Int))) 11 false 28 rfl rfl (by kernel_rfl) hc18) rfl (by kernel_rfl) (by kernel_rfl) (by kernel_rfl) (by kernel_rfl) rfl rfl (by decide) (fun a S => ?_)
        obtain ⟨r19, hx20, h⟩ := bindSome h
        have S1 := S.mem
        refine sCallQ (X := Unit) (f := 14) (vs := [.agg #[.int .i64 p2.Start, .slice ad5 p2.Rows.length cp6]]) (val := fun _ => .bool r19) S (wG (c := decide (60 < (p1.length : Int))) 11 false 28 rfl rfl (by kernel_rfl) hc18) rfl callee14 (by kernel_rfl) (S1.quiet [2] (by kernel_rfl)) (fun E1 w1 S1 => c_raddleref38_GreatChart E1 w1 p2 (.agg #[.int .i64 p2.Start, .slice ad5 p2.Rows.length cp6]) r19 hx20 S1) rfl (by decide) (fun _ a w S => ?_)
        refine sPickF (b := decide (60 < (p1.length : Int))) (.bool r19) S (wN rfl) rfl (by kernel_rfl) hc18 (by kernel_rfl) rfl (by decide) (fun a S => ?_)
        exact leafL (leafT (⟨r19, Option.some.inj h, S.fix [0] [1, 0] (by decide) (by kernel_rfl) (by kernel_rfl) (by kernel_rfl)⟩))
  · obtain ⟨o10, rfl, S⟩ := hI
    have h := g12
    clear g12
    try dsimp only at h
    rcases iteSome h with ⟨hc21, h⟩ | ⟨hc21, h⟩
    · refine sCondT (b := o10) S (by kernel_rfl) hc21 ?_
      refine sSeq (fun K22 hK22 => ?_)
      refine sRegion ?_
      refine sMove (.bool true) S (wN rfl) (.inr rfl) (by kernel_rfl) rfl (by decide) (fun a S => ?_)
      refine leafL (leafT (hK22 _ _ ?_))
      obtain rfl := Option.some.inj h
      exact wp_ret (rThen (sRet (.bool true) S (rsl1 rfl (rvT (t := 6) (v := .bool true) S (by kernel_rfl))) ⟨(), rfl, S.mem.sel [] [] (by decide) (by kernel_rfl) (by kernel_rfl)⟩))
    · refine sCondF (b := o10) S (by kernel_rfl) hc21 ?_
      refine wp_skip (leafT (hK9 _ _ ?_))
      refine sSeq (fun K23 hK23 => ?_)
      refine sRegion ?_
      refine sMove (.int .i64 p0) S (wN rfl) (.inl rfl) (by kernel_rfl) rfl (by decide) (fun a S => ?_)
      refine sMove (.slice ad1 p1.length cp2) S (wN rfl) (.inl rfl) (by kernel_rfl) rfl (by decide) (fun a S => ?_)
      obtain ⟨r24, hx25, h⟩ := bindSome h
      refine sCall (X := Value) (f := 15) (vs := [.int .i64 p0, .slice ad1 p1.length cp2]) (val := c_short_Chart_val r24) (B' := fun _ => []) (D' := c_short_Chart_D r24) [] [eBox b8 40 [.int .i64 p2.Start, .slice ad5 p2.Rows.length cp6]] [fRep (rL (rI .i64)) (.slice ad1 p1.length cp2) p1] [0] [0] S (wN rfl) rfl callee15 (by kernel_rfl) (by decide) (by kernel_rfl) (by kernel_rfl) (fun E1 w1 S1 => c_short_Chart E1 w1 p0 p1 (.slice ad1 p1.length cp2) r24 hx25 S1) rfl (by decide) (fun u26 a w S => ?_)
      obtain ⟨u27, rfl, hu28⟩ := S.mem.know (i := 0) (e := fRep r_api_Chart (u26) r24.1) (by kernel_rfl)
      have S := S.learn (fRep (rL r_api_Row) u27 r24.1.Rows) hu28
      obtain ⟨ad29, cp30, _, rfl, _⟩ := hu28
      refine sMove (.tuple #[.agg #[.int .i64 r24.1.Start, .slice ad29 r24.1.Rows.length cp30], .int .i64 r24.2]) S (wN rfl) (.inl rfl) (by kernel_rfl) rfl (by decide) (fun a S => ?_)
      refine sExtract (vs := [.agg #[.int .i64 r24.1.Start, .slice ad29 r24.1.Rows.length cp30], .int .i64 r24.2]) (.agg #[.int .i64 r24.1.Start, .slice ad29 r24.1.Rows.length cp30]) S (wN rfl) rfl (by kernel_rfl) rfl rfl (by decide) (fun a S => ?_)
      refine sExtract (vs := [.agg #[.int .i64 r24.1.Start, .slice ad29 r24.1.Rows.length cp30], .int .i64 r24.2]) (.int .i64 r24.2) S (wN rfl) rfl (by kernel_rfl) rfl rfl (by decide) (fun a S => ?_)
      refine sAlloc (.agg #[.int .i64 0, .slice none 0 0]) S (wN rfl) rfl (by kernel_rfl) [.int .i64 0, .slice none 0 0] rfl rfl (by decide) (fun a b31 w S => ?_)
      refine sStore (p := b31) (off := 0) (T := 40) (vs := [.int .i64 0, .slice none 0 0]) (v := .agg #[.int .i64 r24.1.Start, .slice ad29 r24.1.Rows.length cp30]) 0 [.int .i64 r24.1.Start, .slice ad29 r24.1.Rows.length cp30] S (wN rfl) rfl (by kernel_rfl) (by kernel_rfl) rfl (by kernel_rfl) (by kernel_rfl) rfl (by simp) rfl (fun a w S => ?_)
      refine sMove (.int .i64 r24.2) S (wN rfl) (.inr rfl) (by kernel_rfl) rfl (by decide) (fun a S => ?_)
      refine leafL (leafT (hK23 _ _ ?_))
      refine sSeq (fun K32 hK32 => ?_)
      refine sRegion ?_
      refine sMove (.int .i64 p0) S (wN rfl) (.inl rfl) (by kernel_rfl) rfl (by decide) (fun a S => ?_)
      refine sMove (.slice ad1 p1.length cp2) S (wN rfl) (.inl rfl) (by kernel_rfl) rfl (by decide) (fun a S => ?_)
      obtain ⟨r33, hx34, h⟩ := bindSome h
      refine sCall (X := Value) (f := 16) (vs := [.int .i64 p0, .slice ad1 p1.length cp2]) (val := c_raddleref38_Chart_val r33) (B' := fun _ => []) (D' := c_raddleref38_Chart_D r33) [] [eBox b31 40 [.int .i64 r24.1.Start, .slice ad29 r24.1.Rows.length cp30], eBox b8 40 [.int .i64 p2.Start, .slice ad5 p2.Rows.length cp6]] [fRep (rL (rI .i64)) (.slice ad1 p1.length cp2) p1] [0, 1] [2] S (wN rfl) rfl callee16 (by kernel_rfl) (by decide) (by kernel_rfl) (by kernel_rfl) (fun E1 w1 S1 => c_raddleref38_Chart E1 w1 p0 p1 (.slice ad1 p1.length cp2) r33 hx34 S1) rfl (by decide) (fun u35 a w S => ?_)
      obtain ⟨u36, rfl, hu37⟩ := S.mem.know (i := 0) (e := fRep r_api_Chart (u35) r33.1) (by kernel_rfl)
      have S := S.learn (fRep (rL r_api_Row) u36 r33.1.Rows) hu37
      obtain ⟨ad38, cp39, _, rfl, _⟩ := hu37
      refine sMove (.tuple #[.agg #[.int .i64 r33.1.Start, .slice ad38 r33.1.Rows.length cp39], .int .i64 r33.2]) S (wN rfl) (.inl rfl) (by kernel_rfl) rfl (by decide) (fun a S => ?_)
      refine sExtract (vs := [.agg #[.int .i64 r33.1.Start, .slice ad38 r33.1.Rows.length cp39], .int .i64 r33.2]) (.agg #[.int .i64 r33.1.Start, .slice ad38 r33.1.Rows.length cp39]) S (wN rfl) rfl (by kernel_rfl) rfl rfl (by decide) (fun a S => ?_)
      refine sExtract (vs := [.agg #[.int .i64 r33.1.Start, .slice ad38 r33.1.Rows.length cp39], .int .i64 r33.2]) (.int .i64 r33.2) S (wN rfl) rfl (by kernel_rfl) rfl rfl (by decide) (fun a S => ?_)
      refine sAlloc (.agg #[.int .i64 0, .slice none 0 0]) S (wN rfl) rfl (by kernel_rfl) [.int .i64 0, .slice none 0 0] rfl rfl (by decide) (fun a b40 w S => ?_)
      refine sStore (p := b40) (off := 0) (T := 40) (vs := [.int .i64 0, .slice none 0 0]) (v := .agg #[.int .i64 r33.1.Start, .slice ad38 r33.1.Rows.length cp39]) 0 [.int .i64 r33.1.Start, .slice ad38 r33.1.Rows.length cp39] S (wN rfl) rfl (by kernel_rfl) (by kernel_rfl) rfl (by kernel_rfl) (by kernel_rfl) rfl (by simp) rfl (fun a w S => ?_)
      refine sMove (.int .i64 r33.2) S (wN rfl) (.inr rfl) (by kernel_rfl) rfl (by decide) (fun a S => ?_)
      refine leafL (leafT (hK32 _ _ ?_))
      refine sSeq (fun K41 hK41 => ?_)
      refine sRegion ?_
      refine sLoadN (p := b8) (off := 0) (T := 40) (vs := [.int .i64 p2.Start, .slice ad5 p2.Rows.length cp6]) 2 [.int .i64 p2.Start, .slice ad5 p2.Rows.length cp6] S (wN rfl) rfl (by kernel_rfl) (by kernel_rfl) (by kernel_rfl) (by kernel_rfl) rfl rfl (by decide) (fun a S => ?_)
      obtain ⟨r42, hx43, h⟩ := bindSome h
      have S := S.learn (fRep r_api_Chart (.agg #[.int .i64 p2.Start, .slice ad5 p2.Rows.length cp6]) p2) ⟨_, rfl, S.mem.know (i := 5) (e := fRep (rL r_api_Row) (.slice ad5 p2.Rows.length cp6) p2.Rows) (by kernel_rfl)⟩
      refine sCall (X := Value) (f := 17) (vs := [.agg #[.int .i64 p2.Start, .slice ad5 p2.Rows.length cp6]]) (val := c_short_Read_val r42) (B' := fun _ => []) (D' := c_short_Read_D r42) [] [eBox b40 40 [.int .i64 r33.1.Start, .slice ad38 r33.1.Rows.length cp39], eBox b31 40 [.int .i64 r24.1.Start, .slice ad29 r24.1.Rows.length cp30], eBox b8 40 [.int .i64 p2.Start, .slice ad5 p2.Rows.length cp6]] [fRep r_api_Chart (.agg #[.int .i64 p2.Start, .slice ad5 p2.Rows.length cp6]) p2] [0, 1, 2] [0] S (wN rfl) rfl callee17 (by kernel_rfl) (by decide) (by kernel_rfl) (by kernel_rfl) (fun E1 w1 S1 => c_short_Read E1 w1 p2 (.agg #[.int .i64 p2.Start, .slice ad5 p2.Rows.length cp6]) r42 hx43 S1) rfl (by decide) (fun u44 a w S => ?_)
      obtain ⟨ad45, cp46, _, rfl, _⟩ := S.mem.know (i := 0) (e := fRep (rL (rI .i64)) (u44) r42.2.1) (by kernel_rfl)
      refine sMove (.tuple #[.int .i64 r42.1, .slice ad45 r42.2.1.length cp46, .int .i64 r42.2.2]) S (wN rfl) (.inl rfl) (by kernel_rfl) rfl (by decide) (fun a S => ?_)
      refine sExtract (vs := [.int .i64 r42.1, .slice ad45 r42.2.1.length cp46, .int .i64 r42.2.2]) (.int .i64 r42.1) S (wN rfl) rfl (by kernel_rfl) rfl rfl (by decide) (fun a S => ?_)
      refine sExtract (vs := [.int .i64 r42.1, .slice ad45 r42.2.1.length cp46, .int .i64 r42.2.2]) (.slice ad45 r42.2.1.length cp46) S (wN rfl) rfl (by kernel_rfl) rfl rfl (by decide) (fun a S => ?_)
      refine sExtract (vs := [.int .i64 r42.1, .slice ad45 r42.2.1.length cp46, .int .i64 r42.2.2]) (.int .i64 r42.2.2) S (wN rfl) rfl (by kernel_rfl) rfl rfl (by decide) (fun a S => ?_)
      refine sMove (.int .i64 r42.1) S (wN rfl) (.inr rfl) (by kernel_rfl) rfl (by decide) (fun a S => ?_)
      refine sMove (.slice ad45 r42.2.1.length cp46) S (wN rfl) (.inr rfl) (by kernel_rfl) rfl (by decide) (fun a S => ?_)
      refine sMove (.int .i64 r42.2.2) S (wN rfl) (.inr rfl) (by kernel_rfl) rfl (by decide) (fun a S => ?_)
      refine leafL (leafT (hK41 _ _ ?_))
      refine sSeq (fun K47 hK47 => ?_)
      refine sRegion ?_
      refine sLoadN (p := b8) (off := 0) (T := 40) (vs := [.int .i64 p2.Start, .slice ad5 p2.Rows.length cp6]) 2 [.int .i64 p2.Start, .slice ad5 p2.Rows.length cp6] S (wN rfl) rfl (by kernel_rfl) (by kernel_rfl) (by kernel_rfl) (by kernel_rfl) rfl rfl (by decide) (fun a S => ?_)
      obtain ⟨r48, hx49, h⟩ := bindSome h
      refine sCall (X := Value) (f := 18) (vs := [.agg #[.int .i64 p2.Start, .slice ad5 p2.Rows.length cp6]]) (val := c_raddleref38_Read_val r48) (B' := fun _ => []) (D' := c_raddleref38_Read_D r48) [] [eBox b40 40 [.int .i64 r33.1.Start, .slice ad38 r33.1.Rows.length cp39], eBox b31 40 [.int .i64 r24.1.Start, .slice ad29 r24.1.Rows.length cp30], eBox b8 40 [.int .i64 p2.Start, .slice ad5 p2.Rows.length cp6]] [fRep r_api_Chart (.agg #[.int .i64 p2.Start, .slice ad5 p2.Rows.length cp6]) p2] [0, 1, 2] [1] S (wN rfl) rfl callee18 (by kernel_rfl) (by decide) (by kernel_rfl) (by kernel_rfl) (fun E1 w1 S1 => c_raddleref38_Read E1 w1 p2 (.agg #[.int .i64 p2.Start, .slice ad5 p2.Rows.length cp6]) r48 hx49 S1) rfl (by decide) (fun u50 a w S => ?_)
      obtain ⟨ad51, cp52, _, rfl, _⟩ := S.mem.know (i := 0) (e := fRep (rL (rI .i64)) (u50) r48.2.1) (by kernel_rfl)
      refine sMove (.tuple #[.int .i64 r48.1, .slice ad51 r48.2.1.length cp52, .int .i64 r48.2.2]) S (wN rfl) (.inl rfl) (by kernel_rfl) rfl (by decide) (fun a S => ?_)
      refine sExtract (vs := [.int .i64 r48.1, .slice ad51 r48.2.1.length cp52, .int .i64 r48.2.2]) (.int .i64 r48.1) S (wN rfl) rfl (by kernel_rfl) rfl rfl (by decide) (fun a S => ?_)
      refine sExtract (vs := [.int .i64 r48.1, .slice ad51 r48.2.1.length cp52, .int .i64 r48.2.2]) (.slice ad51 r48.2.1.length cp52) S (wN rfl) rfl (by kernel_rfl) rfl rfl (by decide) (fun a S => ?_)
      refine sExtract (vs := [.int .i64 r48.1, .slice ad51 r48.2.1.length cp52, .int .i64 r48.2.2]) (.int .i64 r48.2.2) S (wN rfl) rfl (by kernel_rfl) rfl rfl (by decide) (fun a S => ?_)
      refine sMove (.int .i64 r48.1) S (wN rfl) (.inr rfl) (by kernel_rfl) rfl (by decide) (fun a S => ?_)
      refine sMove (.slice ad51 r48.2.1.length cp52) S (wN rfl) (.inr rfl) (by kernel_rfl) rfl (by decide) (fun a S => ?_)
      refine sMove (.int .i64 r48.2.2) S (wN rfl) (.inr rfl) (by kernel_rfl) rfl (by decide) (fun a S => ?_)
      refine leafL (leafT (hK47 _ _ ?_))
      obtain ⟨t54, h, g55⟩ := bindSome h
      refine sCut (fun a w => ∃ o53, o53 = t54 ∧ St [] E [] w0 79 a w [(6, .bool o53)] [] []) ?_ (fun a w hI => ?_)
      · refine sRegion ?_
        refine sLoadN (p := b31) (off := 0) (T := 40) (vs := [.int .i64 r24.1.Start, .slice ad29 r24.1.Rows.length cp30]) 1 [.int .i64 r24.1.Start, .slice ad29 r24.1.Rows.length cp30] S (wN rfl) rfl (by kernel_rfl) (by kernel_rfl) (by kernel_rfl) (by kernel_rfl) rfl rfl (by decide) (fun a S => ?_)
        refine sLoadN (p := b40) (off := 0) (T := 40) (vs := [.int .i64 r33.1.Start, .slice ad38 r33.1.Rows.length cp39]) 0 [.int .i64 r33.1.Start, .slice ad38 r33.1.Rows.length cp39] S (wN rfl) rfl (by kernel_rfl) (by kernel_rfl) (by kernel_rfl) (by kernel_rfl) rfl rfl (by decide) (fun a S => ?_)
        obtain ⟨r56, hx57, h⟩ := bindSome h
        have S1 := S.mem
        refine sCallQ (X := Unit) (f := 19) (vs := [.agg #[.int .i64 r24.1.Start, .slice ad29 r24.1.Rows.length cp30], .agg #[.int .i64 r33.1.Start, .slice ad38 r33.1.Rows.length cp39]]) (val := fun _ => .bool r56) S (wN rfl) rfl callee19 (by kernel_rfl) (S1.quiet [6, 4] (by kernel_rfl)) (fun E1 w1 S1 => c_raddleref37_SameChart E1 w1 r24.1 (.agg #[.int .i64 r24.1.Start, .slice ad29 r24.1.Rows.length cp30]) r33.1 (.agg #[.int .i64 r33.1.Start, .slice ad38 r33.1.Rows.length cp39]) r56 hx57 S1) rfl (by decide) (fun _ a w S => ?_)
        refine sMove (.bool r56) S (wN rfl) (.inl rfl) (by kernel_rfl) rfl (by decide) (fun a S => ?_)
        rcases iteSome h with ⟨hc58, h⟩ | ⟨hc58, h⟩
        · refine sMove (.int .i64 r24.2) S (wG (c := r56) 3 true 59 rfl rfl (by kernel_rfl) hc58) (.inl rfl) (by kernel_rfl) rfl (by decide) (fun a S => ?_)
          refine sMove (.int .i64 r33.2) S (wG (c := r56) 3 true 59 rfl rfl (by kernel_rfl) hc58) (.inl rfl) (by kernel_rfl) rfl (by decide) (fun a S => ?_)
          refine sBin (.bool (r24.2 == r33.2)) S (wG (c := r56) 3 true 59 rfl rfl (by kernel_rfl) hc58) rfl (by kernel_rfl) (by kernel_rfl) (bEq _ _ _ _ .i64 r24.2 r33.2) rfl (by decide) (fun a S => ?_)
          refine sPickT (b := r56) (.bool (r24.2 == r33.2)) S (wN rfl) rfl (by kernel_rfl) hc58 (by kernel_rfl) rfl (by decide) (fun a S => ?_)
          refine sMove (.bool (r24.2 == r33.2)) S (wN rfl) (.inl rfl) (by kernel_rfl) rfl (by decide) (fun a S => ?_)
          rcases iteSome h with ⟨hc59, h⟩ | ⟨hc59, h⟩
          · refine sMove (.int .i64 r42.1) S (wG (c := r24.2 == r33.2) 8 true 64 rfl rfl (by kernel_rfl) hc59) (.inl rfl) (by kernel_rfl) rfl (by decide) (fun a S => ?_)
            refine sMove (.int .i64 r48.1) S (wG (c := r24.2 == r33.2) 8 true 64 rfl rfl (by kernel_rfl) hc59) (.inl rfl) (by kernel_rfl) rfl (by decide) (fun a S => ?_)
            refine sBin (.bool (r42.1 == r48.1)) S (wG (c := r24.2 == r33.2) 8 true 64 rfl rfl (by kernel_rfl) hc59) rfl (by kernel_rfl) (by kernel_rfl) (bEq _ _ _ _ .i64 r42.1 r48.1) rfl (by decide) (fun a S => ?_)
            refine sPickT (b := r24.2 == r33.2) (.bool (r42.1 == r48.1)) S (wN rfl) rfl (by kernel_rfl) hc59 (by kernel_rfl) rfl (by decide) (fun a S => ?_)
            refine sMove (.bool (r42.1 == r48.1)) S (wN rfl) (.inl rfl) (by kernel_rfl) rfl (by decide) (fun a S => ?_)
            rcases iteSome h with ⟨hc60, h⟩ | ⟨hc60, h⟩
            · refine sMove (.slice ad45 r42.2.1.length cp46) S (wG (c := r42.1 == r48.1) 13 true 69 rfl rfl (by kernel_rfl) hc60) (.inl rfl) (by kernel_rfl) rfl (by decide) (fun a S => ?_)
              refine sMove (.slice ad51 r48.2.1.length cp52) S (wG (c := r42.1 == r48.1) 13 true 69 rfl rfl (by kernel_rfl) hc60) (.inl rfl) (by kernel_rfl) rfl (by decide) (fun a S => ?_)
              obtain ⟨r61, hx62, h⟩ := bindSome h
              have S1 := S.mem
              refine sCallQ (X := Unit) (f := 13) (vs := [.slice ad45 r42.2.1.length cp46, .slice ad51 r48.2.1.length cp52]) (val := fun _ => .bool r61) S (wG (c := r42.1 == r48.1) 13 true 69 rfl rfl (by kernel_rfl) hc60) rfl callee13 (by kernel_rfl) (S1.quiet [1, 0] (by kernel_rfl)) (fun E1 w1 S1 => c_raddleref36_Same E1 w1 r42.2.1 (.slice ad45 r42.2.1.length cp46) r48.2.1 (.slice ad51 r48.2.1.length cp52) r61 hx62 S1) rfl (by decide) (fun _ a w S => ?_)
              refine sPickT (b := r42.1 == r48.1) (.bool r61) S (wN rfl) rfl (by kernel_rfl) hc60 (by kernel_rfl) rfl (by decide) (fun a S => ?_)
              refine sMove (.bool r61) S (wN rfl) (.inl rfl) (by kernel_rfl) rfl (by decide) (fun a S => ?_)
              rcases iteSome h with ⟨hc63, h⟩ | ⟨hc63, h⟩
              · refine sMove (.int .i64 r42.2.2) S (wG (c := r61) 18 true 74 rfl rfl (by kernel_rfl) hc63) (.inl rfl) (by kernel_rfl) rfl (by decide) (fun a S => ?_)
                refine sMove (.int .i64 r48.2.2) S (wG (c := r61) 18 true 74 rfl rfl (by kernel_rfl) hc63) (.inl rfl) (by kernel_rfl) rfl (by decide) (fun a S => ?_)
                refine sBin (.bool (r42.2.2 == r48.2.2)) S (wG (c := r61) 18 true 74 rfl rfl (by kernel_rfl) hc63) rfl (by kernel_rfl) (by kernel_rfl) (bEq _ _ _ _ .i64 r42.2.2 r48.2.2) rfl (by decide) (fun a S => ?_)
                refine sPickT (b := r61) (.bool (r42.2.2 == r48.2.2)) S (wN rfl) rfl (by kernel_rfl) hc63 (by kernel_rfl) rfl (by decide) (fun a S => ?_)
                refine sMove (.bool (r42.2.2 == r48.2.2)) S (wN rfl) (.inr rfl) (by kernel_rfl) rfl (by decide) (fun a S => ?_)
                exact leafL (leafT (⟨r42.2.2 == r48.2.2, Option.some.inj h, S.fix [] [] (by decide) (by kernel_rfl) (by kernel_rfl) (by kernel_rfl)⟩))
              · refine sSkip (c := r61) 18 true 74 75 S rfl rfl (by kernel_rfl) hc63 rfl (by decide) (fun a S => ?_)
                refine sSkip (c := r61) 18 true 74 76 S rfl rfl (by kernel_rfl) hc63 rfl (by decide) (fun a S => ?_)
                refine sSkip (c := r61) 18 true 74 77 S rfl rfl (by kernel_rfl) hc63 rfl (by decide) (fun a S => ?_)
                refine sPickF (b := r61) (.bool false) S (wN rfl) rfl (by kernel_rfl) hc63 (by kernel_rfl) rfl (by decide) (fun a S => ?_)
                refine sMove (.bool false) S (wN rfl) (.inr rfl) (by kernel_rfl) rfl (by decide) (fun a S => ?_)
                exact leafL (leafT (⟨false, Option.some.inj h, S.fix [] [] (by decide) (by kernel_rfl) (by kernel_rfl) (by kernel_rfl)⟩))
            · refine sSkip (c := r42.1 == r48.1) 13 true 69 70 S rfl rfl (by kernel_rfl) hc60 rfl (by decide) (fun a S => ?_)
              refine sSkip (c := r42.1 == r48.1) 13 true 69 71 S rfl rfl (by kernel_rfl) hc60 rfl (by decide) (fun a S => ?_)
              refine sSkip (c := r42.1 == r48.1) 13 true 69 72 S rfl rfl (by kernel_rfl) hc60 rfl (by decide) (fun a S => ?_)
              refine sPickF (b := r42.1 == r48.1) (.bool false) S (wN rfl) rfl (by kernel_rfl) hc60 (by kernel_rfl) rfl (by decide) (fun a S => ?_)
              refine sMove (.bool false) S (wN rfl) (.inl rfl) (by kernel_rfl) rfl (by decide) (fun a S => ?_)
              refine sSkip (c := false) 18 true 74 75 S rfl rfl (by kernel_rfl) rfl rfl (by decide) (fun a S => ?_)
              refine sSkip (c := false) 18 true 74 76 S rfl rfl (by kernel_rfl) rfl rfl (by decide) (fun a S => ?_)
              refine sSkip (c := false) 18 true 74 77 S rfl rfl (by kernel_rfl) rfl rfl (by decide) (fun a S => ?_)
              refine sPickF (b := false) (.bool false) S (wN rfl) rfl (by kernel_rfl) rfl (by kernel_rfl) rfl (by decide) (fun a S => ?_)
              refine sMove (.bool false) S (wN rfl) (.inr rfl) (by kernel_rfl) rfl (by decide) (fun a S => ?_)
              exact leafL (leafT (⟨false, Option.some.inj h, S.fix [] [] (by decide) (by kernel_rfl) (by kernel_rfl) (by kernel_rfl)⟩))
          · refine sSkip (c := r24.2 == r33.2) 8 true 64 65 S rfl rfl (by kernel_rfl) hc59 rfl (by decide) (fun a S => ?_)
            refine sSkip (c := r24.2 == r33.2) 8 true 64 66 S rfl rfl (by kernel_rfl) hc59 rfl (by decide) (fun a S => ?_)
            refine sSkip (c := r24.2 == r33.2) 8 true 64 67 S rfl rfl (by kernel_rfl) hc59 rfl (by decide) (fun a S => ?_)
            refine sPickF (b := r24.2 == r33.2) (.bool false) S (wN rfl) rfl (by kernel_rfl) hc59 (by kernel_rfl) rfl (by decide) (fun a S => ?_)
            refine sMove (.bool false) S (wN rfl) (.inl rfl) (by kernel_rfl) rfl (by decide) (fun a S => ?_)
            refine sSkip (c := false) 13 true 69 70 S rfl rfl (by kernel_rfl) rfl rfl (by decide) (fun a S => ?_)
            refine sSkip (c := false) 13 true 69 71 S rfl rfl (by kernel_rfl) rfl rfl (by decide) (fun a S => ?_)
            refine sSkip (c := false) 13 true 69 72 S rfl rfl (by kernel_rfl) rfl rfl (by decide) (fun a S => ?_)
            refine sPickF (b := false) (.bool false) S (wN rfl) rfl (by kernel_rfl) rfl (by kernel_rfl) rfl (by decide) (fun a S => ?_)
            refine sMove (.bool false) S (wN rfl) (.inl rfl) (by kernel_rfl) rfl (by decide) (fun a S => ?_)
            refine sSkip (c := false) 18 true 74 75 S rfl rfl (by kernel_rfl) rfl rfl (by decide) (fun a S => ?_)
            refine sSkip (c := false) 18 true 74 76 S rfl rfl (by kernel_rfl) rfl rfl (by decide) (fun a S => ?_)
            refine sSkip (c := false) 18 true 74 77 S rfl rfl (by kernel_rfl) rfl rfl (by decide) (fun a S => ?_)
            refine sPickF (b := false) (.bool false) S (wN rfl) rfl (by kernel_rfl) rfl (by kernel_rfl) rfl (by decide) (fun a S => ?_)
            refine sMove (.bool false) S (wN rfl) (.inr rfl) (by kernel_rfl) rfl (by decide) (fun a S => ?_)
            exact leafL (leafT (⟨false, Option.some.inj h, S.fix [] [] (by decide) (by kernel_rfl) (by kernel_rfl) (by kernel_rfl)⟩))
        · refine sSkip (c := r56) 3 true 59 60 S rfl rfl (by kernel_rfl) hc58 rfl (by decide) (fun a S => ?_)
          refine sSkip (c := r56) 3 true 59 61 S rfl rfl (by kernel_rfl) hc58 rfl (by decide) (fun a S => ?_)
          refine sSkip (c := r56) 3 true 59 62 S rfl rfl (by kernel_rfl) hc58 rfl (by decide) (fun a S => ?_)
          refine sPickF (b := r56) (.bool false) S (wN rfl) rfl (by kernel_rfl) hc58 (by kernel_rfl) rfl (by decide) (fun a S => ?_)
          refine sMove (.bool false) S (wN rfl) (.inl rfl) (by kernel_rfl) rfl (by decide) (fun a S => ?_)
          refine sSkip (c := false) 8 true 64 65 S rfl rfl (by kernel_rfl) rfl rfl (by decide) (fun a S => ?_)
          refine sSkip (c := false) 8 true 64 66 S rfl rfl (by kernel_rfl) rfl rfl (by decide) (fun a S => ?_)
          refine sSkip (c := false) 8 true 64 67 S rfl rfl (by kernel_rfl) rfl rfl (by decide) (fun a S => ?_)
          refine sPickF (b := false) (.bool false) S (wN rfl) rfl (by kernel_rfl) rfl (by kernel_rfl) rfl (by decide) (fun a S => ?_)
          refine sMove (.bool false) S (wN rfl) (.inl rfl) (by kernel_rfl) rfl (by decide) (fun a S => ?_)
          refine sSkip (c := false) 13 true 69 70 S rfl rfl (by kernel_rfl) rfl rfl (by decide) (fun a S => ?_)
          refine sSkip (c := false) 13 true 69 71 S rfl rfl (by kernel_rfl) rfl rfl (by decide) (fun a S => ?_)
          refine sSkip (c := false) 13 true 69 72 S rfl rfl (by kernel_rfl) rfl rfl (by decide) (fun a S => ?_)
          refine sPickF (b := false) (.bool false) S (wN rfl) rfl (by kernel_rfl) rfl (by kernel_rfl) rfl (by decide) (fun a S => ?_)
          refine sMove (.bool false) S (wN rfl) (.inl rfl) (by kernel_rfl) rfl (by decide) (fun a S => ?_)
          refine sSkip (c := false) 18 true 74 75 S rfl rfl (by kernel_rfl) rfl rfl (by decide) (fun a S => ?_)
          refine sSkip (c := false) 18 true 74 76 S rfl rfl (by kernel_rfl) rfl rfl (by decide) (fun a S => ?_)
          refine sSkip (c := false) 18 true 74 77 S rfl rfl (by kernel_rfl) rfl rfl (by decide) (fun a S => ?_)
          refine sPickF (b := false) (.bool false) S (wN rfl) rfl (by kernel_rfl) rfl (by kernel_rfl) rfl (by decide) (fun a S => ?_)
          refine sMove (.bool false) S (wN rfl) (.inr rfl) (by kernel_rfl) rfl (by decide) (fun a S => ?_)
          exact leafL (leafT (⟨false, Option.some.inj h, S.fix [] [] (by decide) (by kernel_rfl) (by kernel_rfl) (by kernel_rfl)⟩))
      · obtain ⟨o53, rfl, S⟩ := hI
        have h := g55
        clear g55
        try dsimp only at h
        obtain rfl := Option.some.inj h
        exact wp_ret (sRet (.bool o53) S (rsl1 rfl (rvT (t := 6) (v := .bool o53) S (by kernel_rfl))) ⟨(), rfl, S.mem.sel [] [] (by decide) (by kernel_rfl) (by kernel_rfl)⟩)

end Go.Proofs.Ytoiehdlcfehmlaa
namespace Go.Proofs.Ytoiehdlcfehmlaa
open Go.RowKit
set_option linter.unusedVariables false

theorem great38 (c : api_Chart) (hl : c.Rows.length ≤ 9223372036854775807) : ∃ b, F_raddleref38_GreatChart c = some b ∧ (b = false → c.Rows.length ≤ 120 ∧ ∀ r, r ∈ c.Rows → r.Cells.length ≤ 60) := by
  have hloop : whileO (raddleref38_GreatChart_l1 c) 0 = some (if (List.range c.Rows.length).all (fun k => decide ((c.Rows.getD k ⟨false, []⟩).Cells.length ≤ 60)) = true then .inr () else .inl true) := by
    refine loop_all c.Rows.length _ _ _ ?_ ?_
    · intro k hk
      unfold raddleref38_GreatChart_l1
      simp only [dT (show (k : Int) < (c.Rows.length : Int) by omega), if_true, idxO_nat hk, Option.bind_some, w64_succ (show k < 9223372036854775807 by omega), getD_of _ hk]
      by_cases hc : c.Rows[k].Cells.length ≤ 60
      · simp only [dF (show ¬ (60 : Int) < (c.Rows[k].Cells.length : Int) by omega), Bool.false_eq_true, if_false, dT hc, if_true]
      · simp only [dT (show (60 : Int) < (c.Rows[k].Cells.length : Int) by omega), if_true, dF hc, Bool.false_eq_true, if_false]
    · unfold raddleref38_GreatChart_l1
      simp only [dF (show ¬ (c.Rows.length : Int) < (c.Rows.length : Int) by omega), Bool.false_eq_true, if_false]
  unfold F_raddleref38_GreatChart
  rw [hloop]
  cases h : (List.range c.Rows.length).all (fun k => decide ((c.Rows.getD k ⟨false, []⟩).Cells.length ≤ 60)) with
  | false => exact ⟨_, rfl, fun h => by cases h⟩
  | true =>
    refine ⟨_, rfl, fun hb => ?_⟩
    have hb := of_decide_eq_false hb
    refine ⟨by omega, fun r hr => ?_⟩
    obtain ⟨k, hk, rfl⟩ := List.getElem_of_mem hr
    rw [List.all_eq_true] at h
    have := h k (List.mem_range.2 hk)
    rw [getD_of _ hk] at this
    exact of_decide_eq_true this
theorem ints_same (l : List Int) (hl : l.length ≤ 1000000) : F_raddleref36_Same l l = some true := by
  have key : ∃ t : Bool, (t = true ↔ l = l) ∧ whileO (raddleref36_Same_l1 l l) 0 = some (if t = true then .inr () else .inl false) := by
    refine loop_eq l l rfl _ _ (fun k hk => ?_) ?_
    · refine ⟨true, ⟨fun _ => rfl, fun _ => rfl⟩, ?_⟩
      unfold raddleref36_Same_l1
      simp only [dT (show (k : Int) < (l.length : Int) by omega), if_true, idxO_nat hk, Option.bind_some, bne_self_eq_false, Bool.false_eq_true, if_false, w64_succ (show k < 9223372036854775807 by omega)]
    · unfold raddleref36_Same_l1
      simp only [dF (show ¬ (l.length : Int) < (l.length : Int) by omega), Bool.false_eq_true, if_false]
  obtain ⟨t, t1, t2⟩ := key
  cases t with
  | true =>
    unfold F_raddleref36_Same
    simp only [bne_self_eq_false, Bool.false_eq_true, if_false, t2, if_true, Option.bind_some]
  | false => cases t1.2 rfl
theorem law_ShortCharts (n : Int) (l : List Int) (c : api_Chart) (wn : InK .i64 n) (wl : Wl (InK .i64) l) (wc : wf_api_Chart c) : F_raddlelaw38_ShortCharts n l c = some true := by
  obtain ⟨b, b1, b2⟩ := great38 c wc.2.1
  unfold F_raddlelaw38_ShortCharts
  have fin : ∀ b, (b = false → c.Rows.length ≤ 120 ∧ ∀ r, r ∈ c.Rows → r.Cells.length ≤ 60) → (if b = true then some true else
    Option.bind (F_short_Chart n l) fun r24 => Option.bind (F_raddleref38_Chart n l) fun r33 => Option.bind (F_short_Read c) fun r42 => Option.bind (F_raddleref38_Read c) fun r48 =>
    Option.bind (α := Bool) (Option.bind (F_raddleref37_SameChart r24.1 r33.1) fun r56 => if r56 = true then if (r24.2 == r33.2) = true then if (r42.1 == r48.1) = true then Option.bind (F_raddleref36_Same r42.2.1 r48.2.1) fun r61 => if r61 = true then some (r42.2.2 == r48.2.2) else some false else some false else some false else some false) fun o53 => some o53) = some true := by
    intro b hb
    cases b with
    | true => rfl
    | false =>
    obtain ⟨h1, h2⟩ := hb rfl
    have hc : ∀ r, r ∈ c.Rows → r.Cells.length ≤ 1000000 := fun r hr => by have := h2 r hr; omega
    have hlen : (readOf c).2.1.length ≤ 1000000 := by
      unfold readOf
      split
      · unfold leads; simp; omega
      · simp
    have hch : (chartOf n l).1.Rows.length ≤ 1000000 ∧ ∀ r, r ∈ (chartOf n l).1.Rows → r.Cells.length ≤ 1000000 := by
      unfold chartOf
      split
      · rename_i ht
        obtain ⟨n0, n1, k1, k2⟩ := tchk_ok ht
        refine ⟨by dsimp only; rw [rowsOf_len]; omega, ?_⟩
        dsimp only
        clear ht k1
        induction l with
        | nil => intro r hr; simp [rowsOf] at hr
        | cons p l ih =>
          intro r hr
          have hp := k2 p (by simp)
          have e := kn_len (n := n) (p := p) (by omega) hp.2
          simp only [rowsOf, List.mem_cons] at hr
          rcases hr with rfl | rfl | hr
          · dsimp only; omega
          · simp; omega
          · exact ih ⟨by have := wl.1; simp at this; omega, fun x hx => wl.2 x (by simp [hx])⟩ (fun q hq => k2 q (by simp [hq])) r hr
      · exact ⟨by simp, fun r hr => by simp at hr⟩
    obtain ⟨t, t1, t2⟩ := samechart_eq (chartOf n l).1 (chartOf n l).1 (by omega) (fun r hr => by have := hch.2 r hr; omega)
    obtain rfl : t = true := t1.2 rfl
    simp only [chart_eq, rchart_eq, read_eq c (by omega) hc, rread_eq c (by omega) hc, Option.bind_some, Bool.false_eq_true, if_false, t2, if_true, beq_self_eq_true, ints_same _ hlen]
  by_cases c1 : 60 < n
  · by_cases c2 : n ≤ 200
    · simp only [dT c1, dT c2, if_true, Option.bind_some]
    · simp only [dT c1, dF c2, Bool.false_eq_true, if_true, if_false]
      by_cases c3 : 60 < l.length
      · simp only [dT (show (60 : Int) < (l.length : Int) by omega), if_true, Option.bind_some]
      · simp only [dF (show ¬ (60 : Int) < (l.length : Int) by omega), Bool.false_eq_true, if_false, b1, Option.bind_some]
        exact fin b b2
  · simp only [dF c1, Bool.false_eq_true, if_false]
    by_cases c3 : 60 < l.length
    · simp only [dT (show (60 : Int) < (l.length : Int) by omega), if_true, Option.bind_some]
    · simp only [dF (show ¬ (60 : Int) < (l.length : Int) by omega), Bool.false_eq_true, if_false, b1, Option.bind_some]
      exact fin b b2

end Go.Proofs.Ytoiehdlcfehmlaa
namespace Go.Proofs.Ytoiehdlcfehmlaa
open Go.RowKit
set_option linter.unusedVariables false

namespace frameShortCharts
open Go.ChangeShapes Go.WideShapes Go.ChangeAt Go.Joins
theorem own : ownKnob Try.prog.godebug = none := by kernel_rfl
theorem laidOut : laidOutB Try.prog = true := by kernel_rfl
set_option maxRecDepth 100000 in
theorem lifted (os : Os) (started : os.Started) (H : Type) (enc : TypeId × Value → H) :
    ReturnsInHanded {} Try.checked os 4 .any (Rows.shortChartsSpec.pre6 enc Try.prog Try.f4 Rows.shortChartsRow.domain false) (Rows.shortChartsSpec.post enc Try.prog Try.f4 false true false false) := by
  refine returnsInHanded_of_change (C := Try.checked) own started (by kernel_rfl) Try.func4
    (ChangeSpec.witness6 (enc := enc) (C := Try.checked) false ⟨#[], #[.int .i64 0, .slice none 0 0, .agg #[.int .i64 0, .slice none 0 0]], []⟩ 8 (by kernel_rfl) (by kernel_rfl) (by kernel_rfl) (by kernel_rfl)) ?_
  intro W base args ds gs before hval0 hW hcnd _
  have hval : ∀ (j : Nat) t v, Try.f4.params[j]? = some t → args[j]? = some v → Value.okWide Try.prog W .any base t v := hval0
  have hW' := hW
  obtain ⟨p, q, hA0, hV, rfl, hfz, hnd⟩ := hW
  have hA : DataW.TrodAll enc Try.prog W 0 (fun _ => true) true Try.f4.params.toList args.toList ds p := hA0
  rw [Try.params4] at hA hval
  obtain ⟨v0, vs0, d0, ds0, p0, q0, hargs, rfl, rfl, h0, r0⟩ := trodAll_cons hA
  obtain ⟨v1, vs1, d1, ds1, p1, q1, rfl, rfl, rfl, h1, r1⟩ := trodAll_cons r0
  obtain ⟨v2, vs2, d2, ds2, p2, q2, rfl, rfl, rfl, h2, r2⟩ := trodAll_cons r1
  obtain ⟨rfl, rfl, rfl⟩ := trodAll_nil r2
  obtain rfl : args = #[v0, v1, v2] := by cases args; simp_all
  obtain ⟨rfl, rfl⟩ := trodVars_none hV
  have k0 := h0
  have lt0 : ∀ x ∈ p0, x.block < W.heap.size := by obtain ⟨m, hm⟩ := k0; exact DataW.trod_lt m _ _ _ hm
  have k1 := h1
  have lt1 : ∀ x ∈ p1, x.block < W.heap.size := by obtain ⟨m, hm⟩ := k1; exact DataW.trod_lt m _ _ _ hm
  have k2 := h2
  have lt2 : ∀ x ∈ p2, x.block < W.heap.size := by obtain ⟨m, hm⟩ := k2; exact DataW.trod_lt m _ _ _ hm
  obtain ⟨x0, rfl, rfl, rfl, wf0⟩ := open_int Try.underlying3 (hval 0 _ v0 rfl rfl) h0
  obtain ⟨x1, rep1, wf1⟩ := top_slice Try.underlying22 (op_slice (r := (rI .i64)) Try.underlying22 (by kernel_rfl) (op_int .i64 Try.underlying3)) (hval 1 _ v1 rfl rfl) h1
  obtain ⟨x2, rep2, wf2⟩ := top_agg Try.underlying40 aggr_api_Chart op_api_Chart (hval 2 _ v2 rfl rfl) h2
  clear hA0 hval0
  refine (c_raddlelaw38_ShortCharts (fun _ => False) W x0 x1 v1 x2 v2 true (law_ShortCharts x0 x1 x2 wf0 wf1 wf2) (St0.start (by intro d hd; simp only [List.mem_cons, List.not_mem_nil, or_false] at hd; rcases hd with rfl | rfl; exact rep1; exact rep2))).mono fun e W' hr => ?_
  obtain ⟨_, he, hS⟩ := hr
  have bel := hS.chg.below
  subst he
  exact ⟨_, rfl, _, _, _, [], _, [], hW', trodAll_mk1 (shut_bool Try.underlying4 _), (trodAll_cons_mk (Below.trod laidOut (by kernel_rfl) (of_decide_eq_true (by kernel_rfl)) k0 bel lt0) (trodAll_cons_mk (Below.trod laidOut (by kernel_rfl) (of_decide_eq_true (by kernel_rfl)) k1 bel lt1) (trodAll_cons_mk (Below.trod laidOut (by kernel_rfl) (of_decide_eq_true (by kernel_rfl)) k2 bel lt2) trodAll_mk0))), rfl, bel.frame _, fun h => by cases h⟩
theorem over : Rows.shortChartsRow.holds Try.pinned (OpenSpec.ofChange Rows.shortChartsSpec) :=
  OpenClaim.holds_of_wide 4 Try.f4 rfl rfl rfl rfl rfl rfl rfl ⟨rfl, rfl, rfl, rfl, rfl⟩ rfl rfl rfl rfl rfl (by kernel_rfl) Try.func4 (by kernel_rfl)
    (of_decide_eq_true (by kernel_rfl)) (by unfold Func.isWrapper; first | (rw [if_pos (by decide +kernel)]; kernel_rfl) | (rw [if_neg (by decide +kernel)]; exact ⟨rfl, rfl⟩))
    (fun os started H enc _ => lifted os started H enc)
end frameShortCharts
theorem shortCharts_holds : Rows.ShortChartsSaid := frameShortCharts.over

end Go.Proofs.Ytoiehdlcfehmlaa
