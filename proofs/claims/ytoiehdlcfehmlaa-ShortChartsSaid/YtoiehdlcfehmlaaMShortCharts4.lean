/- Several texts in one: G19 PlV G22 G20 G23 G24 G15 G17 G21 G16 -/
import Derived.WalkKit
import Derived.Maps.AppendAt
import Derived.Deep.AppendLies
import Derived.KernelRfl
import Derived.Laws.OwnMore
import Derived.Great.BuildSlice
import Derived.Orders
import Derived.Laws.StructEq
import Derived.ChangeKeysEq
import Derived.Defers
import Derived.Laws.BytesString
import Derived.RangeFuncNested
import Derived.RangeFuncBound
import Derived.RangeFuncCalls
import Derived.RangeFuncLeaves
import Derived.OrdersIn
import Derived.LoopNIn
import Derived.Test.YtoiehdlcfehmlaaProg
import Derived.ProofKit
import Derived.OpenShut
import Derived.ChangeOld
import Derived.Deep.Slices
import Derived.Lib.SmallJoins
import Derived.JoinedOf
import Derived.JoinedAt
import Derived.Below
import Derived.Test.YtoiehdlcfehmlaaRows
import Derived.Test.YtoiehdlcfehmlaaMShortCharts3
namespace Go.Proofs.Ytoiehdlcfehmlaa
open Go.RowKit
set_option linter.unusedVariables false

def anc_raddleref37_SameChart_0 : List (List Nat) := [[], [0], [], [0, 1, 2], [0, 1, 2, 3], [0, 1, 2, 3, 4], [], [6], [], [6, 7, 8], [6, 7, 8, 9], [6, 7, 8, 9, 10], [0, 1, 2, 3, 4, 5, 6, 7, 8, 9, 10, 11], [0, 1, 2, 3, 4, 5, 6, 7, 8, 9, 10, 11, 12], [0, 1, 2, 3, 4, 5, 6, 7, 8, 9, 10, 11, 12, 13], [0, 1, 2, 3, 4, 5, 6, 7, 8, 9, 10, 11, 12, 13, 14], [0, 1, 2, 3, 4, 5, 6, 7, 8, 9, 10, 11, 12, 13], [0, 1, 2, 3, 4, 5, 6, 7, 8, 9, 10, 11, 12, 13, 14, 15, 16], [0, 1, 2, 3, 4, 5, 6, 7, 8, 9, 10, 11, 12, 13, 14, 15, 16, 17], [0, 1, 2, 3, 4, 5, 6, 7, 8, 9, 10, 11, 12, 13, 14, 15, 16, 17, 18], [0, 1, 2, 3, 4, 5, 6, 7, 8, 9, 10, 11, 12, 13], [0, 1, 2, 3, 4, 5, 6, 7, 8, 9, 10, 11, 12, 13, 20], [0, 1, 2, 3, 4, 5, 6, 7, 8, 9, 10, 11, 12, 13], [0, 1, 2, 3, 4, 5, 6, 7, 8, 9, 10, 11, 12, 13, 20, 21, 22], [0, 1, 2, 3, 4, 5, 6, 7, 8, 9, 10, 11, 12, 13, 20, 21, 22, 23], [0, 1, 2, 3, 4, 5, 6, 7, 8, 9, 10, 11, 12, 13, 20, 21, 22, 23, 24], [0, 1, 2, 3, 4, 5, 6, 7, 8, 9, 10, 11, 12, 13, 14, 15, 16, 17, 18, 19, 20, 21, 22, 23, 24, 25], [0, 1, 2, 3, 4, 5, 6, 7, 8, 9, 10, 11, 12, 13, 14, 15, 16, 17, 18, 19, 20, 21, 22, 23, 24, 25, 26], [0, 1, 2, 3, 4, 5, 6, 7, 8, 9, 10, 11, 12, 13, 14, 15, 16, 17, 18, 19, 20, 21, 22, 23, 24, 25, 26, 27]]
noncomputable def raddleref37_SameChart_l1 (p0 : api_Chart) (p1 : api_Chart) : Int → Option (Int ⊕ (Bool ⊕ Unit)) := fun s0 => match s0 with
  | s22 =>
    if decide (s22 < (p0.Rows.length : Int)) then
      Option.bind (α := Bool) (
        Option.bind (idxO p0.Rows s22) fun x33 =>
        Option.bind (idxO p1.Rows s22) fun x40 =>
        if x33.Back != x40.Back then
          some true
        else
          Option.bind (F_raddleref25_Same x33.Cells x40.Cells) fun r72 =>
          some (!r72)) fun o30 =>
      if o30 then
        some (.inr (.inl false))
      else
        some (.inl (w64 (s22 + 1)))
    else
      some (.inr (.inr ()))
noncomputable def F_raddleref37_SameChart (p0 : api_Chart) (p1 : api_Chart) : Option Bool :=
  Option.bind (α := Bool) (
    if p0.Start != p1.Start then
      some true
    else
      some ((p0.Rows.length : Int) != (p1.Rows.length : Int))) fun o13 =>
  if o13 then
    some false
  else
    Option.bind (α := Unit ⊕ Bool) (
      Option.bind (whileO (raddleref37_SameChart_l1 p0 p1) 0) fun z0 => match z0 with
        | .inl z =>
          some (.inr z)
        | .inr _ =>
          some (.inl ())) fun z0 => match z0 with
      | .inl _ =>
        some true
      | .inr z =>
        some z
set_option maxHeartbeats 4000000 in
set_option maxRecDepth 100000 in
theorem c_raddleref37_SameChart (E : Nat → Prop) (w0 : World) (p0 : api_Chart) (v0 : Value) (p1 : api_Chart) (v1 : Value) (r : Bool) (h : F_raddleref37_SameChart p0 p1 = some r) (S : St0 E [] w0 w0 [] [fRep r_api_Chart (v0) p0, fRep r_api_Chart (v1) p1]) :
    Calls Try.prog 19 #[v0, v1] w0 (Ret (X := Unit) E [] w0 (fun _ => .bool r) (fun _ => []) (fun _ => [])) := by
  unfold F_raddleref37_SameChart at h
  obtain ⟨u1, rfl, hu2⟩ := S.know (i := 0) (e := fRep r_api_Chart (v0) p0) (by kernel_rfl)
  have S := S.learn (fRep (rL r_api_Row) u1 p0.Rows) hu2
  obtain ⟨ad3, cp4, _, rfl, _⟩ := hu2
  obtain ⟨u5, rfl, hu6⟩ := S.know (i := 2) (e := fRep r_api_Chart (v1) p1) (by kernel_rfl)
  have S := S.learn (fRep (rL r_api_Row) u5 p1.Rows) hu6
  obtain ⟨ad7, cp8, _, rfl, _⟩ := hu6
  refine sEnter (args := [.agg #[.int .i64 p0.Start, .slice ad3 p0.Rows.length cp4], .agg #[.int .i64 p1.Start, .slice ad7 p1.Rows.length cp8]]) 56 Try.func19 rfl rfl (by simp) S (fun a S => ?_)
  refine sSeq (fun K9 hK9 => ?_)
  refine sRegion ?_
  refine sBox (v := .agg #[.int .i64 p0.Start, .slice ad3 p0.Rows.length cp4]) S (wN rfl) rfl (by kernel_rfl) [.int .i64 p0.Start, .slice ad3 p0.Rows.length cp4] rfl rfl (by decide) (fun a b10 w S => ?_)
  refine sBox (v := .agg #[.int .i64 p1.Start, .slice ad7 p1.Rows.length cp8]) S (wN rfl) rfl (by kernel_rfl) [.int .i64 p1.Start, .slice ad7 p1.Rows.length cp8] rfl rfl (by decide) (fun a b11 w S => ?_)
  refine sMove (.bool false) S (wN rfl) (.inr rfl) (by kernel_rfl) rfl (by decide) (fun a S => ?_)
  refine leafL (leafT (hK9 _ _ ?_))
  refine sSeq (fun K12 hK12 => ?_)
  obtain ⟨t14, h, g15⟩ := bindSome h
  refine sCut (fun a w => ∃ o13, o13 = t14 ∧ St [] E [] w0 56 a w [(2, .pointer (some ⟨b10, 0, none⟩)), (3, .pointer (some ⟨b11, 0, none⟩)), (19, .bool o13)] [eBox b10 40 [.int .i64 p0.Start, .slice ad3 p0.Rows.length cp4], eBox b11 40 [.int .i64 p1.Start, .slice ad7 p1.Rows.length cp8]] [fRep (rL r_api_Row) (.slice ad3 p0.Rows.length cp4) p0.Rows, fRep (rL r_api_Row) (.slice ad7 p1.Rows.length cp8) p1.Rows]) ?_ (fun a w hI => ?_)
  · refine sRegion ?_
    refine sField (b := b10) (off := 0) 0 0 S (wN rfl) rfl (by kernel_rfl) (by kernel_rfl) rfl rfl (by decide) (fun a S => ?_)
    refine sLoad1 (p := b10) (off := 0) (T := 40) (vs := [.int .i64 p0.Start, .slice ad3 p0.Rows.length cp4]) 1 (.int .i64 p0.Start) S (wN rfl) rfl (by kernel_rfl) (by kernel_rfl) (by kernel_rfl) rfl rfl (by decide) (fun a S => ?_)
    refine sField (b := b11) (off := 0) 0 0 S (wN rfl) rfl (by kernel_rfl) (by kernel_rfl) rfl rfl (by decide) (fun a S => ?_)
    refine sLoad1 (p := b11) (off := 0) (T := 40) (vs := [.int .i64 p1.Start, .slice ad7 p1.Rows.length cp8]) 0 (.int .i64 p1.Start) S (wN rfl) rfl (by kernel_rfl) (by kernel_rfl) (by kernel_rfl) rfl rfl (by decide) (fun a S => ?_)
    refine sBin (.bool (p0.Start != p1.Start)) S (wN rfl) rfl (by kernel_rfl) (by kernel_rfl) (bNe _ _ _ _ .i64 p0.Start p1.Start) rfl (by decide) (fun a S => ?_)
    refine sMove (.bool (p0.Start != p1.Start)) S (wN rfl) (.inl rfl) (by kernel_rfl) rfl (by decide) (fun a S => ?_)
    rcases iteSome h with ⟨hc16, h⟩ | ⟨hc16, h⟩
    · refine sSkip (c := p0.Start != p1.Start) 5 false 11 12 S rfl rfl (by kernel_rfl) hc16 rfl (by decide) (fun a S => ?_)
      refine sSkip (c := p0.Start != p1.Start) 5 false 11 13 S rfl rfl (by kernel_rfl) hc16 rfl (by decide) (fun a S => ?_)
      refine sSkip (c := p0.Start != p1.Start) 5 false 11 14 S rfl rfl (by kernel_rfl) hc16 rfl (by decide) (fun a S => ?_)
      refine sSkip (c := p0.Start != p1.Start) 5 false 11 15 S rfl rfl (by kernel_rfl) hc16 rfl (by decide) (fun a S => ?_)
      refine sSkip (c := p0.Start != p1.Start) 5 false 11 16 S rfl rfl (by kernel_rfl) hc16 rfl (by decide) (fun a S => ?_)
      refine sSkip (c := p0.Start != p1.Start) 5 false 11 17 S rfl rfl (by kernel_rfl) hc16 rfl (by decide) (fun a S => ?_)
      refine sSkip (c := p0.Start != p1.Start) 5 false 11 18 S rfl rfl (by kernel_rfl) hc16 rfl (by decide) (fun a S => ?_)
      refine sPickT (b := p0.Start != p1.Start) (.bool true) S (wN rfl) rfl (by kernel_rfl) hc16 (by kernel_rfl) rfl (by decide) (fun a S => ?_)
      exact leafL (leafT (⟨true, Option.some.inj h, S.fix [1, 0] [1, 0] (by decide) (by kernel_rfl) (by kernel_rfl) (by kernel_rfl)⟩))
    · refine sField (b := b10) (off := 0) 1 1 S (wG (c := p0.Start != p1.Start) 5 false 11 rfl rfl (by kernel_rfl) hc16) rfl (by kernel_rfl) (by kernel_rfl) rfl rfl (by decide) (fun a S => ?_)
      refine sLoad1 (p := b10) (off := 1) (T := 40) (vs := [.int .i64 p0.Start, .slice ad3 p0.Rows.length cp4]) 1 (.slice ad3 p0.Rows.length cp4) S (wG (c := p0.Start != p1.Start) 5 false 11 rfl rfl (by kernel_rfl) hc16) rfl (by kernel_rfl) (by kernel_rfl) (by kernel_rfl) rfl rfl (by decide) (fun a S => ?_)
      refine sLen (ad := ad3) (m := p0.Rows.length) (c := cp4) S (wG (c := p0.Start != p1.Start) 5 false 11 rfl rfl (by kernel_rfl) hc16) rfl Try.underlying38 (by kernel_rfl) rfl (by decide) (fun a S => ?_)
      refine sField (b := b11) (off := 0) 1 1 S (wG (c := p0.Start != p1.Start) 5 false 11 rfl rfl (by kernel_rfl) hc16) rfl (by kernel_rfl) (by kernel_rfl) rfl rfl (by decide) (fun a S => ?_)
      refine sLoad1 (p := b11) (off := 1) (T := 40) (vs := [.int .i64 p1.Start, .slice ad7 p1.Rows.length cp8]) 0 (.slice ad7 p1.Rows.length cp8) S (wG (c := p0.Start != p1.Start) 5 false 11 rfl rfl (by kernel_rfl) hc16) rfl (by kernel_rfl) (by kernel_rfl) (by kernel_rfl) rfl rfl (by decide) (fun a S => ?_)
      refine sLen (ad := ad7) (m := p1.Rows.length) (c := cp8) S (wG (c := p0.Start != p1.Start) 5 false 11 rfl rfl (by kernel_rfl) hc16) rfl Try.underlying38 (by kernel_rfl) rfl (by decide) (fun a S => ?_)
      refine sBin (.bool ((p0.Rows.length : Int) != (p1.Rows.length : Int))) S (wG (c := p0.Start != p1.Start) 5 false 11 rfl rfl (by kernel_rfl) hc16) rfl (by kernel_rfl) (by kernel_rfl) (bNe _ _ _ _ .i64 (p0.Rows.length : Int) (p1.Rows.length : Int)) rfl (by decide) (fun a S => ?_)
      refine sPickF (b := p0.Start != p1.Start) (.bool ((p0.Rows.length : Int) != (p1.Rows.length : Int))) S (wN rfl) rfl (by kernel_rfl) hc16 (by kernel_rfl) rfl (by decide) (fun a S => ?_)
      exact leafL (leafT (⟨(p0.Rows.length : Int) != (p1.Rows.length : Int), Option.some.inj h, S.fix [1, 0] [1, 0] (by decide) (by kernel_rfl) (by kernel_rfl) (by kernel_rfl)⟩))
  · obtain ⟨o13, rfl, S⟩ := hI
    have h := g15
    clear g15
    try dsimp only at h
    rcases iteSome h with ⟨hc17, h⟩ | ⟨hc17, h⟩
    · refine sCondT (b := o13) S (by kernel_rfl) hc17 ?_
      refine sSeq (fun K18 hK18 => ?_)
      refine sRegion ?_
      refine sMove (.bool false) S (wN rfl) (.inr rfl) (by kernel_rfl) rfl (by decide) (fun a S => ?_)
      refine leafL (leafT (hK18 _ _ ?_))
      obtain rfl := Option.some.inj h
      exact wp_ret (rThen (sRet (.bool false) S (rsl1 rfl (rvT (t := 4) (v := .bool false) S (by kernel_rfl))) ⟨(), rfl, S.mem.sel [] [] (by decide) (by kernel_rfl) (by kernel_rfl)⟩))
    · refine sCondF (b := o13) S (by kernel_rfl) hc17 ?_
      refine wp_skip (leafT (hK12 _ _ ?_))
      obtain ⟨t19, h, g20⟩ := bindSome h
      refine sCut (fun a w => .inl () = t19 ∧ St [] E [] w0 56 a w [] [] []) ?_ (fun a w hI => ?_)
      · refine sSeq (fun K21 hK21 => ?_)
        refine sRegion ?_
        refine sMove (.int .i64 0) S (wN rfl) (.inr rfl) (by kernel_rfl) rfl (by decide) (fun a S => ?_)
        refine leafL (leafT (hK21 _ _ ?_))
        refine wp_block ?_
        obtain ⟨t25, hl, g24⟩ := bindSome h
        refine sLoop hl (fun s0 a w => match s0 with | s22 => St [] E [] w0 56 a w [(2, .pointer (some ⟨b10, 0, none⟩)), (3, .pointer (some ⟨b11, 0, none⟩)), (5, .int .i64 s22)] [eBox b10 40 [.int .i64 p0.Start, .slice ad3 p0.Rows.length cp4], eBox b11 40 [.int .i64 p1.Start, .slice ad7 p1.Rows.length cp8]] [fRep (rL r_api_Row) (.slice ad3 p0.Rows.length cp4) p0.Rows, fRep (rL r_api_Row) (.slice ad7 p1.Rows.length cp8) p1.Rows]) (S.fix [0, 1] [0, 1] (by decide) (by kernel_rfl) (by kernel_rfl) (by kernel_rfl)) ?_
        clear hl h
        intro s22 a w c0 hI h hu23
        unfold raddleref37_SameChart_l1 at h
        dsimp only at h hI
        have S := hI
        refine sSeq (fun K26 hK26 => ?_)
        refine sSeq (fun K27 hK27 => ?_)
        refine sRegion ?_
        refine sMove (.int .i64 s22) S (wN rfl) (.inl rfl) (by kernel_rfl) rfl (by decide) (fun a S => ?_)
        refine sField (b := b10) (off := 0) 1 1 S (wN rfl) rfl (by kernel_rfl) (by kernel_rfl) rfl rfl (by decide) (fun a S => ?_)
        refine sLoad1 (p := b10) (off := 1) (T := 40) (vs := [.int .i64 p0.Start, .slice ad3 p0.Rows.length cp4]) 0 (.slice ad3 p0.Rows.length cp4) S (wN rfl) rfl (by kernel_rfl) (by kernel_rfl) (by kernel_rfl) rfl rfl (by decide) (fun a S => ?_)
        refine sLen (ad := ad3) (m := p0.Rows.length) (c := cp4) S (wN rfl) rfl Try.underlying38 (by kernel_rfl) rfl (by decide) (fun a S => ?_)
        refine sBin (.bool (decide (s22 < (p0.Rows.length : Int)))) S (wN rfl) rfl (by kernel_rfl) (by kernel_rfl) (bLt _ _ _ _ .i64 s22 (p0.Rows.length : Int)) rfl (by decide) (fun a S => ?_)
        refine leafL (leafT (hK27 _ _ ?_))
        rcases iteSome h with ⟨hc28, h⟩ | ⟨hc28, h⟩
        · refine sCondT (b := decide (s22 < (p0.Rows.length : Int))) S (by kernel_rfl) hc28 ?_
          refine wp_skip (leafT (hK26 _ _ ?_))
          refine sSeq (fun K29 hK29 => ?_)
          refine wp_block ?_
          obtain ⟨t31, h, g32⟩ := bindSome h
          refine sCut (fun a w => ∃ o30, o30 = t31 ∧ St [] E [] w0 56 a w [(2, .pointer (some ⟨b10, 0, none⟩)), (3, .pointer (some ⟨b11, 0, none⟩)), (5, .int .i64 s22), (55, .bool o30)] [eBox b10 40 [.int .i64 p0.Start, .slice ad3 p0.Rows.length cp4], eBox b11 40 [.int .i64 p1.Start, .slice ad7 p1.Rows.length cp8]] [fRep (rL r_api_Row) (.slice ad3 p0.Rows.length cp4) p0.Rows, fRep (rL r_api_Row) (.slice ad7 p1.Rows.length cp8) p1.Rows]) ?_ (fun a w hI => ?_)
          · obtain ⟨x33, hx34, h⟩ := bindSome h
            obtain ⟨x40, hx41, h⟩ := bindSome h
            rcases iteSome h with ⟨hc47, h⟩ | ⟨hc47, h⟩
            · obtain ⟨q48, hq49, S⟩ := pIdx (P := Try.prog) (r := r_api_Row) (v := .slice ad3 p0.Rows.length cp4) (xs := p0.Rows) (j := s22) 38 57 0 S Try.underlying38 (by kernel_rfl) (by kernel_rfl) hx34
              obtain ⟨q50, hq51, S⟩ := pFld (P := Try.prog) (r := r_api_Row) (s2 := rB) (g := (·.Back)) (q := q48) (z := x33) 57 0 0 0 S (by kernel_rfl) (by kernel_rfl) comp_api_Row_Back
              obtain ⟨u52, S⟩ := pLoad (r := rB) (q := q50) (x := x33.Back) 0 S (by kernel_rfl)
              obtain rfl : u52 = .bool x33.Back := S.mem.know (i := 1) (e := fRep rB (u52) x33.Back) (by kernel_rfl)
              obtain ⟨q53, hq54, S⟩ := pIdx (P := Try.prog) (r := r_api_Row) (v := .slice ad7 p1.Rows.length cp8) (xs := p1.Rows) (j := s22) 38 57 5 S Try.underlying38 (by kernel_rfl) (by kernel_rfl) hx41
              obtain ⟨q55, hq56, S⟩ := pFld (P := Try.prog) (r := r_api_Row) (s2 := rB) (g := (·.Back)) (q := q53) (z := x40) 57 0 0 0 S (by kernel_rfl) (by kernel_rfl) comp_api_Row_Back
              obtain ⟨u57, S⟩ := pLoad (r := rB) (q := q55) (x := x40.Back) 0 S (by kernel_rfl)
              obtain rfl : u57 = .bool x40.Back := S.mem.know (i := 1) (e := fRep rB (u57) x40.Back) (by kernel_rfl)
              refine sDraw (nf := []) (W := [(0, 27, .pointer (some ⟨b10, 1, none⟩)), (1, 28, .slice ad3 p0.Rows.length cp4), (2, 29, .int .i64 s22), (3, 30, q48), (4, 31, q50), (5, 32, .bool x33.Back), (6, 33, .pointer (some ⟨b11, 1, none⟩)), (7, 34, .slice ad7 p1.Rows.length cp8), (8, 35, .int .i64 s22), (9, 36, q53), (10, 37, q55), (11, 38, .bool x40.Back), (12, 39, .bool (x33.Back != x40.Back)), (13, 40, .bool (x33.Back != x40.Back)), (14, 41, undef), (15, 42, undef), (16, 43, undef), (17, 44, undef), (18, 45, undef), (19, 46, undef), (20, 47, undef), (21, 48, undef), (22, 49, undef), (23, 50, undef), (24, 51, undef), (25, 52, undef), (26, 53, undef), (27, 54, undef), (28, 55, .bool true)]) (by kernel_rfl) S ?_
              refine node_by (A := anc_raddleref37_SameChart_0) (nf := []) (Y := []) (W := [(0, 27, .pointer (some ⟨b10, 1, none⟩)), (1, 28, .slice ad3 p0.Rows.length cp4), (2, 29, .int .i64 s22), (3, 30, q48), (4, 31, q50), (5, 32, .bool x33.Back), (6, 33, .pointer (some ⟨b11, 1, none⟩)), (7, 34, .slice ad7 p1.Rows.length cp8), (8, 35, .int .i64 s22), (9, 36, q53), (10, 37, q55), (11, 38, .bool x40.Back), (12, 39, .bool (x33.Back != x40.Back)), (13, 40, .bool (x33.Back != x40.Back)), (14, 41, undef), (15, 42, undef), (16, 43, undef), (17, 44, undef), (18, 45, undef), (19, 46, undef), (20, 47, undef), (21, 48, undef), (22, 49, undef), (23, 50, undef), (24, 51, undef), (25, 52, undef), (26, 53, undef), (27, 54, undef), (28, 55, .bool true)]) 29 (by kernel_rfl) (by kernel_rfl) (by kernel_rfl) (by kernel_rfl) (by kernel_rfl) [0, 1, 2, 3, 4, 5, 6, 7, 8, 9, 10, 11, 12, 13, 14, 15, 16, 17, 18, 19, 20, 21, 22, 23, 24, 25, 26, 27, 28] (by kernel_rfl) (by decide) (by decide) (aF 0 28 (by decide) ?_ (aF 1 27 (by decide) ?_ (aF 2 26 (by decide) ?_ (aF 3 25 (by decide) ?_ (aF 4 24 (by decide) ?_ (aF 5 23 (by decide) ?_ (aF 6 22 (by decide) ?_ (aF 7 21 (by decide) ?_ (aF 8 20 (by decide) ?_ (aF 9 19 (by decide) ?_ (aF 10 18 (by decide) ?_ (aF 11 17 (by decide) ?_ (aF 12 16 (by decide) ?_ (aF 13 15 (by decide) ?_ (aF 14 14 (by decide) ?_ (aF 15 13 (by decide) ?_ (aF 16 12 (by decide) ?_ (aF 17 11 (by decide) ?_ (aF 18 10 (by decide) ?_ (aF 19 9 (by decide) ?_ (aF 20 8 (by decide) ?_ (aF 21 7 (by decide) ?_ (aF 22 6 (by decide) ?_ (aF 23 5 (by decide) ?_ (aF 24 4 (by decide) ?_ (aF 25 3 (by decide) ?_ (aF 26 2 (by decide) ?_ (aF 27 1 (by decide) ?_ (aF 28 0 (by decide) ?_ (trivial)))))))))))))))))))))))))))))) [(2, .pointer (some ⟨b10, 0, none⟩)), (3, .pointer (some ⟨b11, 0, none⟩)), (5, .int .i64 s22), (41, undef), (42, undef), (43, undef), (44, undef), (45, undef), (46, undef), (47, undef), (48, undef), (49, undef), (50, undef), (51, undef), (52, undef), (53, undef), (54, undef), (55, .bool true)] (fin_of [none, none, none, some 14, some 15, some 16, some 17, some 18, some 19, some 20, some 21, some 22, some 23, some 24, some 25, some 26, some 27, some 28] rfl (by kernel_rfl) (by kernel_rfl)) (fun _ a w S => ?_)
              · refine fI 27 (.pointer (some ⟨b10, 1, none⟩)) [(2, .pointer (some ⟨b10, 0, none⟩))] 0 [none] rfl rfl (by kernel_rfl) rfl (by kernel_rfl) (by kernel_rfl) fun G a w S => ?_
                refine sField (b := b10) (off := 0) 1 1 S (wN rfl) rfl (by kernel_rfl) (by kernel_rfl) rfl rfl (by decide) (fun a S => ?_)
                exact leafL ⟨rfl, S⟩
              · refine fI 28 (.slice ad3 p0.Rows.length cp4) [(27, .pointer (some ⟨b10, 1, none⟩))] 1 [some 0] rfl rfl (by kernel_rfl) rfl (by kernel_rfl) (by kernel_rfl) fun G a w S => ?_
                refine sLoad1 (p := b10) (off := 1) (T := 40) (vs := [.int .i64 p0.Start, .slice ad3 p0.Rows.length cp4]) 0 (.slice ad3 p0.Rows.length cp4) S (wN rfl) rfl (by kernel_rfl) (by kernel_rfl) (by kernel_rfl) rfl rfl (by decide) (fun a S => ?_)
                exact leafL ⟨rfl, S⟩
              · refine fI 29 (.int .i64 s22) [(5, .int .i64 s22)] 2 [none] rfl rfl (by kernel_rfl) rfl (by kernel_rfl) (by kernel_rfl) fun G a w S => ?_
                refine sMove (.int .i64 s22) S (wN rfl) (.inl rfl) (by kernel_rfl) rfl (by decide) (fun a S => ?_)
                exact leafL ⟨rfl, S⟩
              · refine fI 30 q48 [(28, .slice ad3 p0.Rows.length cp4), (29, .int .i64 s22)] 3 [some 1, some 2] rfl rfl (by kernel_rfl) rfl (by kernel_rfl) (by kernel_rfl) fun G a w S => ?_
                refine sIdxV (v := .slice ad3 p0.Rows.length cp4) (k := .i64) (j := s22) S (wN rfl) rfl (by kernel_rfl) (by kernel_rfl) hq49 rfl (by decide) (fun a S => ?_)
                exact leafL ⟨rfl, S⟩
              · refine fI 31 q50 [(30, q48)] 4 [some 3] rfl rfl (by kernel_rfl) rfl (by kernel_rfl) (by kernel_rfl) fun G a w S => ?_
                refine sFldV (q := q48) S (wN rfl) rfl (by kernel_rfl) hq51 rfl (by decide) (fun a S => ?_)
                exact leafL ⟨rfl, S⟩
              · refine fI 32 (.bool x33.Back) [(31, q50)] 5 [some 4] rfl rfl (by kernel_rfl) rfl (by kernel_rfl) (by kernel_rfl) fun G a w S => ?_
                refine sLoadV1 (vq := q50) 4 (.bool x33.Back) S (wN rfl) rfl (by kernel_rfl) (by kernel_rfl) (by kernel_rfl) rfl (by decide) (fun a S => ?_)
                exact leafL ⟨rfl, S⟩
              · refine fI 33 (.pointer (some ⟨b11, 1, none⟩)) [(3, .pointer (some ⟨b11, 0, none⟩))] 6 [none] rfl rfl (by kernel_rfl) rfl (by kernel_rfl) (by kernel_rfl) fun G a w S => ?_
                refine sField (b := b11) (off := 0) 1 1 S (wN rfl) rfl (by kernel_rfl) (by kernel_rfl) rfl rfl (by decide) (fun a S => ?_)
                exact leafL ⟨rfl, S⟩
              · refine fI 34 (.slice ad7 p1.Rows.length cp8) [(33, .pointer (some ⟨b11, 1, none⟩))] 7 [some 6] rfl rfl (by kernel_rfl) rfl (by kernel_rfl) (by kernel_rfl) fun G a w S => ?_
                refine sLoad1 (p := b11) (off := 1) (T := 40) (vs := [.int .i64 p1.Start, .slice ad7 p1.Rows.length cp8]) 1 (.slice ad7 p1.Rows.length cp8) S (wN rfl) rfl (by kernel_rfl) (by kernel_rfl) (by kernel_rfl) rfl rfl (by decide) (fun a S => ?_)
                exact leafL ⟨rfl, S⟩
              · refine fI 35 (.int .i64 s22) [(5, .int .i64 s22)] 8 [none] rfl rfl (by kernel_rfl) rfl (by kernel_rfl) (by kernel_rfl) fun G a w S => ?_
                refine sMove (.int .i64 s22) S (wN rfl) (.inl rfl) (by kernel_rfl) rfl (by decide) (fun a S => ?_)
                exact leafL ⟨rfl, S⟩
              · refine fI 36 q53 [(34, .slice ad7 p1.Rows.length cp8), (35, .int .i64 s22)] 9 [some 7, some 8] rfl rfl (by kernel_rfl) rfl (by kernel_rfl) (by kernel_rfl) fun G a w S => ?_
                refine sIdxV (v := .slice ad7 p1.Rows.length cp8) (k := .i64) (j := s22) S (wN rfl) rfl (by kernel_rfl) (by kernel_rfl) hq54 rfl (by decide) (fun a S => ?_)
                exact leafL ⟨rfl, S⟩
              · refine fI 37 q55 [(36, q53)] 10 [some 9] rfl rfl (by kernel_rfl) rfl (by kernel_rfl) (by kernel_rfl) fun G a w S => ?_
                refine sFldV (q := q53) S (wN rfl) rfl (by kernel_rfl) hq56 rfl (by decide) (fun a S => ?_)
                exact leafL ⟨rfl, S⟩
              · refine fI 38 (.bool x40.Back) [(37, q55)] 11 [some 10] rfl rfl (by kernel_rfl) rfl (by kernel_rfl) (by kernel_rfl) fun G a w S => ?_
                refine sLoadV1 (vq := q55) 0 (.bool x40.Back) S (wN rfl) rfl (by kernel_rfl) (by kernel_rfl) (by kernel_rfl) rfl (by decide) (fun a S => ?_)
                exact leafL ⟨rfl, S⟩
              · refine fI 39 (.bool (x33.Back != x40.Back)) [(32, .bool x33.Back), (38, .bool x40.Back)] 12 [some 5, some 11] rfl rfl (by kernel_rfl) rfl (by kernel_rfl) (by kernel_rfl) fun G a w S => ?_
                refine sBin (.bool (x33.Back != x40.Back)) S (wN rfl) rfl (by kernel_rfl) (by kernel_rfl) (bNeB _ _ _ _ Try.underlying4 x33.Back x40.Back) rfl (by decide) (fun a S => ?_)
                exact leafL ⟨rfl, S⟩
              · refine fI 40 (.bool (x33.Back != x40.Back)) [(39, .bool (x33.Back != x40.Back))] 13 [some 12] rfl rfl (by kernel_rfl) rfl (by kernel_rfl) (by kernel_rfl) fun G a w S => ?_
                refine sMove (.bool (x33.Back != x40.Back)) S (wN rfl) (.inl rfl) (by kernel_rfl) rfl (by decide) (fun a S => ?_)
                exact leafL ⟨rfl, S⟩
              · refine fI 41 undef [(2, .pointer (some ⟨b10, 0, none⟩)), (40, .bool (x33.Back != x40.Back))] 14 [none, some 13] rfl rfl (by kernel_rfl) rfl (by kernel_rfl) (by kernel_rfl) fun G a w S => ?_
                refine sSkip (c := x33.Back != x40.Back) 13 false 40 41 S rfl rfl (by kernel_rfl) hc47 rfl (by decide) (fun a S => ?_)
                exact leafL ⟨rfl, S⟩
              · refine fI 42 undef [(41, undef), (40, .bool (x33.Back != x40.Back))] 15 [some 14, some 13] rfl rfl (by kernel_rfl) rfl (by kernel_rfl) (by kernel_rfl) fun G a w S => ?_
                refine sSkip (c := x33.Back != x40.Back) 13 false 40 42 S rfl rfl (by kernel_rfl) hc47 rfl (by decide) (fun a S => ?_)
                exact leafL ⟨rfl, S⟩
              · refine fI 43 undef [(5, .int .i64 s22), (40, .bool (x33.Back != x40.Back))] 16 [none, some 13] rfl rfl (by kernel_rfl) rfl (by kernel_rfl) (by kernel_rfl) fun G a w S => ?_
                refine sSkip (c := x33.Back != x40.Back) 13 false 40 43 S rfl rfl (by kernel_rfl) hc47 rfl (by decide) (fun a S => ?_)
                exact leafL ⟨rfl, S⟩
              · refine fI 44 undef [(42, undef), (43, undef), (40, .bool (x33.Back != x40.Back))] 17 [some 15, some 16, some 13] rfl rfl (by kernel_rfl) rfl (by kernel_rfl) (by kernel_rfl) fun G a w S => ?_
                refine sSkip (c := x33.Back != x40.Back) 13 false 40 44 S rfl rfl (by kernel_rfl) hc47 rfl (by decide) (fun a S => ?_)
                exact leafL ⟨rfl, S⟩
              · refine fI 45 undef [(44, undef), (40, .bool (x33.Back != x40.Back))] 18 [some 17, some 13] rfl rfl (by kernel_rfl) rfl (by kernel_rfl) (by kernel_rfl) fun G a w S => ?_
                refine sSkip (c := x33.Back != x40.Back) 13 false 40 45 S rfl rfl (by kernel_rfl) hc47 rfl (by decide) (fun a S => ?_)
                exact leafL ⟨rfl, S⟩
              · refine fI 46 undef [(45, undef), (40, .bool (x33.Back != x40.Back))] 19 [some 18, some 13] rfl rfl (by kernel_rfl) rfl (by kernel_rfl) (by kernel_rfl) fun G a w S => ?_
                refine sSkip (c := x33.Back != x40.Back) 13 false 40 46 S rfl rfl (by kernel_rfl) hc47 rfl (by decide) (fun a S => ?_)
                exact leafL ⟨rfl, S⟩
              · refine fI 47 undef [(3, .pointer (some ⟨b11, 0, none⟩)), (40, .bool (x33.Back != x40.Back))] 20 [none, some 13] rfl rfl (by kernel_rfl) rfl (by kernel_rfl) (by kernel_rfl) fun G a w S => ?_
                refine sSkip (c := x33.Back != x40.Back) 13 false 40 47 S rfl rfl (by kernel_rfl) hc47 rfl (by decide) (fun a S => ?_)
                exact leafL ⟨rfl, S⟩
              · refine fI 48 undef [(47, undef), (40, .bool (x33.Back != x40.Back))] 21 [some 20, some 13] rfl rfl (by kernel_rfl) rfl (by kernel_rfl) (by kernel_rfl) fun G a w S => ?_
                refine sSkip (c := x33.Back != x40.Back) 13 false 40 48 S rfl rfl (by kernel_rfl) hc47 rfl (by decide) (fun a S => ?_)
                exact leafL ⟨rfl, S⟩
              · refine fI 49 undef [(5, .int .i64 s22), (40, .bool (x33.Back != x40.Back))] 22 [none, some 13] rfl rfl (by kernel_rfl) rfl (by kernel_rfl) (by kernel_rfl) fun G a w S => ?_
                refine sSkip (c := x33.Back != x40.Back) 13 false 40 49 S rfl rfl (by kernel_rfl) hc47 rfl (by decide) (fun a S => ?_)
                exact leafL ⟨rfl, S⟩
              · refine fI 50 undef [(48, undef), (49, undef), (40, .bool (x33.Back != x40.Back))] 23 [some 21, some 22, some 13] rfl rfl (by kernel_rfl) rfl (by kernel_rfl) (by kernel_rfl) fun G a w S => ?_
                refine sSkip (c := x33.Back != x40.Back) 13 false 40 50 S rfl rfl (by kernel_rfl) hc47 rfl (by decide) (fun a S => ?_)
                exact leafL ⟨rfl, S⟩
              · refine fI 51 undef [(50, undef), (40, .bool (x33.Back != x40.Back))] 24 [some 23, some 13] rfl rfl (by kernel_rfl) rfl (by kernel_rfl) (by kernel_rfl) fun G a w S => ?_
                refine sSkip (c := x33.Back != x40.Back) 13 false 40 51 S rfl rfl (by kernel_rfl) hc47 rfl (by decide) (fun a S => ?_)
                exact leafL ⟨rfl, S⟩
              · refine fI 52 undef [(51, undef), (40, .bool (x33.Back != x40.Back))] 25 [some 24, some 13] rfl rfl (by kernel_rfl) rfl (by kernel_rfl) (by kernel_rfl) fun G a w S => ?_
                refine sSkip (c := x33.Back != x40.Back) 13 false 40 52 S rfl rfl (by kernel_rfl) hc47 rfl (by decide) (fun a S => ?_)
                exact leafL ⟨rfl, S⟩
              · refine fI 53 undef [(46, undef), (52, undef), (40, .bool (x33.Back != x40.Back))] 26 [some 19, some 25, some 13] rfl rfl (by kernel_rfl) rfl (by kernel_rfl) (by kernel_rfl) fun G a w S => ?_
                refine sSkip (c := x33.Back != x40.Back) 13 false 40 53 S rfl rfl (by kernel_rfl) hc47 rfl (by decide) (fun a S => ?_)
                exact leafL ⟨rfl, S⟩
              · refine fI 54 undef [(53, undef), (40, .bool (x33.Back != x40.Back))] 27 [some 26, some 13] rfl rfl (by kernel_rfl) rfl (by kernel_rfl) (by kernel_rfl) fun G a w S => ?_
                refine sSkip (c := x33.Back != x40.Back) 13 false 40 54 S rfl rfl (by kernel_rfl) hc47 rfl (by decide) (fun a S => ?_)
                exact leafL ⟨rfl, S⟩
              · refine fI 55 (.bool true) [(40, .bool (x33.Back != x40.Back)), (54, undef)] 28 [some 13, some 27] rfl rfl (by kernel_rfl) rfl (by kernel_rfl) (by kernel_rfl) fun G a w S => ?_
                refine sPickT (b := x33.Back != x40.Back) (.bool true) S (wN rfl) rfl (by kernel_rfl) hc47 (by kernel_rfl) rfl (by decide) (fun a S => ?_)
                exact leafL ⟨rfl, S⟩
              · exact leafT (⟨true, Option.some.inj h, S.fix [0, 1] [8, 9] (by decide) (by kernel_rfl) (by kernel_rfl) (by kernel_rfl)⟩)
            · obtain ⟨r72, hx73, h⟩ := bindSome h
              obtain ⟨q74, hq75, S⟩ := pIdx (P := Try.prog) (r := r_api_Row) (v := .slice ad3 p0.Rows.length cp4) (xs := p0.Rows) (j := s22) 38 57 0 S Try.underlying38 (by kernel_rfl) (by kernel_rfl) hx34
              obtain ⟨q76, hq77, S⟩ := pFld (P := Try.prog) (r := r_api_Row) (s2 := rB) (g := (·.Back)) (q := q74) (z := x33) 57 0 0 0 S (by kernel_rfl) (by kernel_rfl) comp_api_Row_Back
              obtain ⟨u78, S⟩ := pLoad (r := rB) (q := q76) (x := x33.Back) 0 S (by kernel_rfl)
              obtain rfl : u78 = .bool x33.Back := S.mem.know (i := 1) (e := fRep rB (u78) x33.Back) (by kernel_rfl)
              obtain ⟨q79, hq80, S⟩ := pIdx (P := Try.prog) (r := r_api_Row) (v := .slice ad7 p1.Rows.length cp8) (xs := p1.Rows) (j := s22) 38 57 5 S Try.underlying38 (by kernel_rfl) (by kernel_rfl) hx41
              obtain ⟨q81, hq82, S⟩ := pFld (P := Try.prog) (r := r_api_Row) (s2 := rB) (g := (·.Back)) (q := q79) (z := x40) 57 0 0 0 S (by kernel_rfl) (by kernel_rfl) comp_api_Row_Back
              obtain ⟨u83, S⟩ := pLoad (r := rB) (q := q81) (x := x40.Back) 0 S (by kernel_rfl)
              obtain rfl : u83 = .bool x40.Back := S.mem.know (i := 1) (e := fRep rB (u83) x40.Back) (by kernel_rfl)
              obtain ⟨q84, hq85, S⟩ := pIdx (P := Try.prog) (r := r_api_Row) (v := .slice ad3 p0.Rows.length cp4) (xs := p0.Rows) (j := s22) 38 57 8 S Try.underlying38 (by kernel_rfl) (by kernel_rfl) hx34
              obtain ⟨q86, hq87, S⟩ := pFld (P := Try.prog) (r := r_api_Row) (s2 := (rL r_api_Stitch)) (g := (·.Cells)) (q := q84) (z := x33) 57 1 0 1 S (by kernel_rfl) (by kernel_rfl) comp_api_Row_Cells
              obtain ⟨u88, S⟩ := pLoad (r := (rL r_api_Stitch)) (q := q86) (x := x33.Cells) 0 S (by kernel_rfl)
              obtain ⟨ad89, cp90, _, rfl, _⟩ := S.mem.know (i := 1) (e := fRep (rL r_api_Stitch) (u88) x33.Cells) (by kernel_rfl)
              obtain ⟨q91, hq92, S⟩ := pIdx (P := Try.prog) (r := r_api_Row) (v := .slice ad7 p1.Rows.length cp8) (xs := p1.Rows) (j := s22) 38 57 13 S Try.underlying38 (by kernel_rfl) (by kernel_rfl) hx41
              obtain ⟨q93, hq94, S⟩ := pFld (P := Try.prog) (r := r_api_Row) (s2 := (rL r_api_Stitch)) (g := (·.Cells)) (q := q91) (z := x40) 57 1 0 1 S (by kernel_rfl) (by kernel_rfl) comp_api_Row_Cells
              obtain ⟨u95, S⟩ := pLoad (r := (rL r_api_Stitch)) (q := q93) (x := x40.Cells) 0 S (by kernel_rfl)
              obtain ⟨ad96, cp97, _, rfl, _⟩ := S.mem.know (i := 1) (e := fRep (rL r_api_Stitch) (u95) x40.Cells) (by kernel_rfl)
              refine sDraw (nf := []) (W := [(0, 27, .pointer (some ⟨b10, 1, none⟩)), (1, 28, .slice ad3 p0.Rows.length cp4), (2, 29, .int .i64 s22), (3, 30, q74), (4, 31, q76), (5, 32, .bool x33.Back), (6, 33, .pointer (some ⟨b11, 1, none⟩)), (7, 34, .slice ad7 p1.Rows.length cp8), (8, 35, .int .i64 s22), (9, 36, q79), (10, 37, q81), (11, 38, .bool x40.Back), (12, 39, .bool (x33.Back != x40.Back)), (13, 40, .bool (x33.Back != x40.Back)), (14, 41, .pointer (some ⟨b10, 1, none⟩)), (15, 42, .slice ad3 p0.Rows.length cp4), (16, 43, .int .i64 s22), (17, 44, q84), (18, 45, q86), (19, 46, .slice ad89 x33.Cells.length cp90), (20, 47, .pointer (some ⟨b11, 1, none⟩)), (21, 48, .slice ad7 p1.Rows.length cp8), (22, 49, .int .i64 s22), (23, 50, q91), (24, 51, q93), (25, 52, .slice ad96 x40.Cells.length cp97), (26, 53, .bool r72), (27, 54, .bool (!r72)), (28, 55, .bool (!r72))]) (by kernel_rfl) S ?_
              refine node_by (A := anc_raddleref37_SameChart_0) (nf := []) (Y := []) (W := [(0, 27, .pointer (some ⟨b10, 1, none⟩)), (1, 28, .slice ad3 p0.Rows.length cp4), (2, 29, .int .i64 s22), (3, 30, q74), (4, 31, q76), (5, 32, .bool x33.Back), (6, 33, .pointer (some ⟨b11, 1, none⟩)), (7, 34, .slice ad7 p1.Rows.length cp8), (8, 35, .int .i64 s22), (9, 36, q79), (10, 37, q81), (11, 38, .bool x40.Back), (12, 39, .bool (x33.Back != x40.Back)), (13, 40, .bool (x33.Back != x40.Back)), (14, 41, .pointer (some ⟨b10, 1, none⟩)), (15, 42, .slice ad3 p0.Rows.length cp4), (16, 43, .int .i64 s22), (17, 44, q84), (18, 45, q86), (19, 46, .slice ad89 x33.Cells.length cp90), (20, 47, .pointer (some ⟨b11, 1, none⟩)), (21, 48, .slice ad7 p1.Rows.length cp8), (22, 49, .int .i64 s22), (23, 50, q91), (24, 51, q93), (25, 52, .slice ad96 x40.Cells.length cp97), (26, 53, .bool r72), (27, 54, .bool (!r72)), (28, 55, .bool (!r72))]) 29 (by kernel_rfl) (by kernel_rfl) (by kernel_rfl) (by kernel_rfl) (by kernel_rfl) [0, 1, 2, 3, 4, 5, 6, 7, 8, 9, 10, 11, 12, 13, 14, 15, 16, 17, 18, 19, 20, 21, 22, 23, 24, 25, 26, 27, 28] (by kernel_rfl) (by decide) (by decide) (aF 0 28 (by decide) ?_ (aF 1 27 (by decide) ?_ (aF 2 26 (by decide) ?_ (aF 3 25 (by decide) ?_ (aF 4 24 (by decide) ?_ (aF 5 23 (by decide) ?_ (aF 6 22 (by decide) ?_ (aF 7 21 (by decide) ?_ (aF 8 20 (by decide) ?_ (aF 9 19 (by decide) ?_ (aF 10 18 (by decide) ?_ (aF 11 17 (by decide) ?_ (aF 12 16 (by decide) ?_ (aF 13 15 (by decide) ?_ (aF 14 14 (by decide) ?_ (aF 15 13 (by decide) ?_ (aF 16 12 (by decide) ?_ (aF 17 11 (by decide) ?_ (aF 18 10 (by decide) ?_ (aF 19 9 (by decide) ?_ (aF 20 8 (by decide) ?_ (aF 21 7 (by decide) ?_ (aF 22 6 (by decide) ?_ (aF 23 5 (by decide) ?_ (aF 24 4 (by decide) ?_ (aF 25 3 (by decide) ?_ (aF 26 2 (by decide) ?_ (aF 27 1 (by decide) ?_ (aF 28 0 (by decide) ?_ (trivial)))))))))))))))))))))))))))))) [(2, .pointer (some ⟨b10, 0, none⟩)), (3, .pointer (some ⟨b11, 0, none⟩)), (5, .int .i64 s22), (41, .pointer (some ⟨b10, 1, none⟩)), (42, .slice ad3 p0.Rows.length cp4), (43, .int .i64 s22), (44, q84), (45, q86), (46, .slice ad89 x33.Cells.length cp90), (47, .pointer (some ⟨b11, 1, none⟩)), (48, .slice ad7 p1.Rows.length cp8), (49, .int .i64 s22), (50, q91), (51, q93), (52, .slice ad96 x40.Cells.length cp97), (53, .bool r72), (54, .bool (!r72)), (55, .bool (!r72))] (fin_of [none, none, none, some 14, some 15, some 16, some 17, some 18, some 19, some 20, some 21, some 22, some 23, some 24, some 25, some 26, some 27, some 28] rfl (by kernel_rfl) (by kernel_rfl)) (fun _ a w S => ?_)
              · refine fI 27 (.pointer (some ⟨b10, 1, none⟩)) [(2, .pointer (some ⟨b10, 0, none⟩))] 0 [none] rfl rfl (by kernel_rfl) rfl (by kernel_rfl) (by kernel_rfl) fun G a w S => ?_
                refine sField (b := b10) (off := 0) 1 1 S (wN rfl) rfl (by kernel_rfl) (by kernel_rfl) rfl rfl (by decide) (fun a S => ?_)
                exact leafL ⟨rfl, S⟩
              · refine fI 28 (.slice ad3 p0.Rows.length cp4) [(27, .pointer (some ⟨b10, 1, none⟩))] 1 [some 0] rfl rfl (by kernel_rfl) rfl (by kernel_rfl) (by kernel_rfl) fun G a w S => ?_
                refine sLoad1 (p := b10) (off := 1) (T := 40) (vs := [.int .i64 p0.Start, .slice ad3 p0.Rows.length cp4]) 0 (.slice ad3 p0.Rows.length cp4) S (wN rfl) rfl (by kernel_rfl) (by kernel_rfl) (by kernel_rfl) rfl rfl (by decide) (fun a S => ?_)
                exact leafL ⟨rfl, S⟩
              · refine fI 29 (.int .i64 s22) [(5, .int .i64 s22)] 2 [none] rfl rfl (by kernel_rfl) rfl (by kernel_rfl) (by kernel_rfl) fun G a w S => ?_
                refine sMove (.int .i64 s22) S (wN rfl) (.inl rfl) (by kernel_rfl) rfl (by decide) (fun a S => ?_)
                exact leafL ⟨rfl, S⟩
              · refine fI 30 q74 [(28, .slice ad3 p0.Rows.length cp4), (29, .int .i64 s22)] 3 [some 1, some 2] rfl rfl (by kernel_rfl) rfl (by kernel_rfl) (by kernel_rfl) fun G a w S => ?_
                refine sIdxV (v := .slice ad3 p0.Rows.length cp4) (k := .i64) (j := s22) S (wN rfl) rfl (by kernel_rfl) (by kernel_rfl) hq75 rfl (by decide) (fun a S => ?_)
                exact leafL ⟨rfl, S⟩
              · refine fI 31 q76 [(30, q74)] 4 [some 3] rfl rfl (by kernel_rfl) rfl (by kernel_rfl) (by kernel_rfl) fun G a w S => ?_
                refine sFldV (q := q74) S (wN rfl) rfl (by kernel_rfl) hq77 rfl (by decide) (fun a S => ?_)
                exact leafL ⟨rfl, S⟩
              · refine fI 32 (.bool x33.Back) [(31, q76)] 5 [some 4] rfl rfl (by kernel_rfl) rfl (by kernel_rfl) (by kernel_rfl) fun G a w S => ?_
                refine sLoadV1 (vq := q76) 12 (.bool x33.Back) S (wN rfl) rfl (by kernel_rfl) (by kernel_rfl) (by kernel_rfl) rfl (by decide) (fun a S => ?_)
                exact leafL ⟨rfl, S⟩
              · refine fI 33 (.pointer (some ⟨b11, 1, none⟩)) [(3, .pointer (some ⟨b11, 0, none⟩))] 6 [none] rfl rfl (by kernel_rfl) rfl (by kernel_rfl) (by kernel_rfl) fun G a w S => ?_
                refine sField (b := b11) (off := 0) 1 1 S (wN rfl) rfl (by kernel_rfl) (by kernel_rfl) rfl rfl (by decide) (fun a S => ?_)
                exact leafL ⟨rfl, S⟩
              · refine fI 34 (.slice ad7 p1.Rows.length cp8) [(33, .pointer (some ⟨b11, 1, none⟩))] 7 [some 6] rfl rfl (by kernel_rfl) rfl (by kernel_rfl) (by kernel_rfl) fun G a w S => ?_
                refine sLoad1 (p := b11) (off := 1) (T := 40) (vs := [.int .i64 p1.Start, .slice ad7 p1.Rows.length cp8]) 1 (.slice ad7 p1.Rows.length cp8) S (wN rfl) rfl (by kernel_rfl) (by kernel_rfl) (by kernel_rfl) rfl rfl (by decide) (fun a S => ?_)
                exact leafL ⟨rfl, S⟩
              · refine fI 35 (.int .i64 s22) [(5, .int .i64 s22)] 8 [none] rfl rfl (by kernel_rfl) rfl (by kernel_rfl) (by kernel_rfl) fun G a w S => ?_
                refine sMove (.int .i64 s22) S (wN rfl) (.inl rfl) (by kernel_rfl) rfl (by decide) (fun a S => ?_)
                exact leafL ⟨rfl, S⟩
              · refine fI 36 q79 [(34, .slice ad7 p1.Rows.length cp8), (35, .int .i64 s22)] 9 [some 7, some 8] rfl rfl (by kernel_rfl) rfl (by kernel_rfl) (by kernel_rfl) fun G a w S => ?_
                refine sIdxV (v := .slice ad7 p1.Rows.length cp8) (k := .i64) (j := s22) S (wN rfl) rfl (by kernel_rfl) (by kernel_rfl) hq80 rfl (by decide) (fun a S => ?_)
                exact leafL ⟨rfl, S⟩
              · refine fI 37 q81 [(36, q79)] 10 [some 9] rfl rfl (by kernel_rfl) rfl (by kernel_rfl) (by kernel_rfl) fun G a w S => ?_
                refine sFldV (q := q79) S (wN rfl) rfl (by kernel_rfl) hq82 rfl (by decide) (fun a S => ?_)
                exact leafL ⟨rfl, S⟩
              · refine fI 38 (.bool x40.Back) [(37, q81)] 11 [some 10] rfl rfl (by kernel_rfl) rfl (by kernel_rfl) (by kernel_rfl) fun G a w S => ?_
                refine sLoadV1 (vq := q81) 8 (.bool x40.Back) S (wN rfl) rfl (by kernel_rfl) (by kernel_rfl) (by kernel_rfl) rfl (by decide) (fun a S => ?_)
                exact leafL ⟨rfl, S⟩
              · refine fI 39 (.bool (x33.Back != x40.Back)) [(32, .bool x33.Back), (38, .bool x40.Back)] 12 [some 5, some 11] rfl rfl (by kernel_rfl) rfl (by kernel_rfl) (by kernel_rfl) fun G a w S => ?_
                refine sBin (.bool (x33.Back != x40.Back)) S (wN rfl) rfl (by kernel_rfl) (by kernel_rfl) (bNeB _ _ _ _ Try.underlying4 x33.Back x40.Back) rfl (by decide) (fun a S => ?_)
                exact leafL ⟨rfl, S⟩
              · refine fI 40 (.bool (x33.Back != x40.Back)) [(39, .bool (x33.Back != x40.Back))] 13 [some 12] rfl rfl (by kernel_rfl) rfl (by kernel_rfl) (by kernel_rfl) fun G a w S => ?_
                refine sMove (.bool (x33.Back != x40.Back)) S (wN rfl) (.inl rfl) (by kernel_rfl) rfl (by decide) (fun a S => ?_)
                exact leafL ⟨rfl, S⟩
              · refine fI 41 (.pointer (some ⟨b10, 1, none⟩)) [(2, .pointer (some ⟨b10, 0, none⟩)), (40, .bool (x33.Back != x40.Back))] 14 [none, some 13] rfl rfl (by kernel_rfl) rfl (by kernel_rfl) (by kernel_rfl) fun G a w S => ?_
                refine sField (b := b10) (off := 0) 1 1 S (wG (c := x33.Back != x40.Back) 13 false 40 rfl rfl (by kernel_rfl) hc47) rfl (by kernel_rfl) (by kernel_rfl) rfl rfl (by decide) (fun a S => ?_)
                exact leafL ⟨rfl, S⟩
              · refine fI 42 (.slice ad3 p0.Rows.length cp4) [(41, .pointer (some ⟨b10, 1, none⟩)), (40, .bool (x33.Back != x40.Back))] 15 [some 14, some 13] rfl rfl (by kernel_rfl) rfl (by kernel_rfl) (by kernel_rfl) fun G a w S => ?_
                refine sLoad1 (p := b10) (off := 1) (T := 40) (vs := [.int .i64 p0.Start, .slice ad3 p0.Rows.length cp4]) 0 (.slice ad3 p0.Rows.length cp4) S (wG (c := x33.Back != x40.Back) 13 false 40 rfl rfl (by kernel_rfl) hc47) rfl (by kernel_rfl) (by kernel_rfl) (by kernel_rfl) rfl rfl (by decide) (fun a S => ?_)
                exact leafL ⟨rfl, S⟩
              · refine fI 43 (.int .i64 s22) [(5, .int .i64 s22), (40, .bool (x33.Back != x40.Back))] 16 [none, some 13] rfl rfl (by kernel_rfl) rfl (by kernel_rfl) (by kernel_rfl) fun G a w S => ?_
                refine sMove (.int .i64 s22) S (wG (c := x33.Back != x40.Back) 13 false 40 rfl rfl (by kernel_rfl) hc47) (.inl rfl) (by kernel_rfl) rfl (by decide) (fun a S => ?_)
                exact leafL ⟨rfl, S⟩
              · refine fI 44 q84 [(42, .slice ad3 p0.Rows.length cp4), (43, .int .i64 s22), (40, .bool (x33.Back != x40.Back))] 17 [some 15, some 16, some 13] rfl rfl (by kernel_rfl) rfl (by kernel_rfl) (by kernel_rfl) fun G a w S => ?_
                refine sIdxV (v := .slice ad3 p0.Rows.length cp4) (k := .i64) (j := s22) S (wG (c := x33.Back != x40.Back) 13 false 40 rfl rfl (by kernel_rfl) hc47) rfl (by kernel_rfl) (by kernel_rfl) hq85 rfl (by decide) (fun a S => ?_)
                exact leafL ⟨rfl, S⟩
              · refine fI 45 q86 [(44, q84), (40, .bool (x33.Back != x40.Back))] 18 [some 17, some 13] rfl rfl (by kernel_rfl) rfl (by kernel_rfl) (by kernel_rfl) fun G a w S => ?_
                refine sFldV (q := q84) S (wG (c := x33.Back != x40.Back) 13 false 40 rfl rfl (by kernel_rfl) hc47) rfl (by kernel_rfl) hq87 rfl (by decide) (fun a S => ?_)
                exact leafL ⟨rfl, S⟩
              · refine fI 46 (.slice ad89 x33.Cells.length cp90) [(45, q86), (40, .bool (x33.Back != x40.Back))] 19 [some 18, some 13] rfl rfl (by kernel_rfl) rfl (by kernel_rfl) (by kernel_rfl) fun G a w S => ?_
                refine sLoadV1 (vq := q86) 4 (.slice ad89 x33.Cells.length cp90) S (wG (c := x33.Back != x40.Back) 13 false 40 rfl rfl (by kernel_rfl) hc47) rfl (by kernel_rfl) (by kernel_rfl) (by kernel_rfl) rfl (by decide) (fun a S => ?_)
                exact leafL ⟨rfl, S⟩
              · refine fI 47 (.pointer (some ⟨b11, 1, none⟩)) [(3, .pointer (some ⟨b11, 0, none⟩)), (40, .bool (x33.Back != x40.Back))] 20 [none, some 13] rfl rfl (by kernel_rfl) rfl (by kernel_rfl) (by kernel_rfl) fun G a w S => ?_
                refine sField (b := b11) (off := 0) 1 1 S (wG (c := x33.Back != x40.Back) 13 false 40 rfl rfl (by kernel_rfl) hc47) rfl (by kernel_rfl) (by kernel_rfl) rfl rfl (by decide) (fun a S => ?_)
                exact leafL ⟨rfl, S⟩
              · refine fI 48 (.slice ad7 p1.Rows.length cp8) [(47, .pointer (some ⟨b11, 1, none⟩)), (40, .bool (x33.Back != x40.Back))] 21 [some 20, some 13] rfl rfl (by kernel_rfl) rfl (by kernel_rfl) (by kernel_rfl) fun G a w S => ?_
                refine sLoad1 (p := b11) (off := 1) (T := 40) (vs := [.int .i64 p1.Start, .slice ad7 p1.Rows.length cp8]) 1 (.slice ad7 p1.Rows.length cp8) S (wG (c := x33.Back != x40.Back) 13 false 40 rfl rfl (by kernel_rfl) hc47) rfl (by kernel_rfl) (by kernel_rfl) (by kernel_rfl) rfl rfl (by decide) (fun a S => ?_)
                exact leafL ⟨rfl, S⟩
              · refine fI 49 (.int .i64 s22) [(5, .int .i64 s22), (40, .bool (x33.Back != x40.Back))] 22 [none, some 13] rfl rfl (by kernel_rfl) rfl (by kernel_rfl) (by kernel_rfl) fun G a w S => ?_
                refine sMove (.int .i64 s22) S (wG (c := x33.Back != x40.Back) 13 false 40 rfl rfl (by kernel_rfl) hc47) (.inl rfl) (by kernel_rfl) rfl (by decide) (fun a S => ?_)
                exact leafL ⟨rfl, S⟩
              · refine fI 50 q91 [(48, .slice ad7 p1.Rows.length cp8), (49, .int .i64 s22), (40, .bool (x33.Back != x40.Back))] 23 [some 21, some 22, some 13] rfl rfl (by kernel_rfl) rfl (by kernel_rfl) (by kernel_rfl) fun G a w S => ?_
                refine sIdxV (v := .slice ad7 p1.Rows.length cp8) (k := .i64) (j := s22) S (wG (c := x33.Back != x40.Back) 13 false 40 rfl rfl (by kernel_rfl) hc47) rfl (by kernel_rfl) (by kernel_rfl) hq92 rfl (by decide) (fun a S => ?_)
                exact leafL ⟨rfl, S⟩
              · refine fI 51 q93 [(50, q91), (40, .bool (x33.Back != x40.Back))] 24 [some 23, some 13] rfl rfl (by kernel_rfl) rfl (by kernel_rfl) (by kernel_rfl) fun G a w S => ?_
                refine sFldV (q := q91) S (wG (c := x33.Back != x40.Back) 13 false 40 rfl rfl (by kernel_rfl) hc47) rfl (by kernel_rfl) hq94 rfl (by decide) (fun a S => ?_)
                exact leafL ⟨rfl, S⟩
              · refine fI 52 (.slice ad96 x40.Cells.length cp97) [(51, q93), (40, .bool (x33.Back != x40.Back))] 25 [some 24, some 13] rfl rfl (by kernel_rfl) rfl (by kernel_rfl) (by kernel_rfl) fun G a w S => ?_
                refine sLoadV1 (vq := q93) 0 (.slice ad96 x40.Cells.length cp97) S (wG (c := x33.Back != x40.Back) 13 false 40 rfl rfl (by kernel_rfl) hc47) rfl (by kernel_rfl) (by kernel_rfl) (by kernel_rfl) rfl (by decide) (fun a S => ?_)
                exact leafL ⟨rfl, S⟩
              · refine fI 53 (.bool r72) [(46, .slice ad89 x33.Cells.length cp90), (52, .slice ad96 x40.Cells.length cp97), (40, .bool (x33.Back != x40.Back))] 26 [some 19, some 25, some 13] rfl rfl (by kernel_rfl) rfl (by kernel_rfl) (by kernel_rfl) fun G a w S => ?_
                have S1 := S.mem
                refine sCallQ (X := Unit) (f := 28) (vs := [.slice ad89 x33.Cells.length cp90, .slice ad96 x40.Cells.length cp97]) (val := fun _ => .bool r72) S (wG (c := x33.Back != x40.Back) 13 false 40 rfl rfl (by kernel_rfl) hc47) rfl callee28 (by kernel_rfl) (S1.quiet [5, 1] (by kernel_rfl)) (fun E1 w1 S1 => c_raddleref25_Same E1 w1 x33.Cells (.slice ad89 x33.Cells.length cp90) x40.Cells (.slice ad96 x40.Cells.length cp97) r72 hx73 S1) rfl (by decide) (fun _ a w S => ?_)
                exact leafL ⟨rfl, S⟩
              · refine fI 54 (.bool (!r72)) [(53, .bool r72), (40, .bool (x33.Back != x40.Back))] 27 [some 26, some 13] rfl rfl (by kernel_rfl) rfl (by kernel_rfl) (by kernel_rfl) fun G a w S => ?_
                refine sNot (b := r72) S (wG (c := x33.Back != x40.Back) 13 false 40 rfl rfl (by kernel_rfl) hc47) rfl (by kernel_rfl) rfl (by decide) (fun a S => ?_)
                exact leafL ⟨rfl, S⟩
              · refine fI 55 (.bool (!r72)) [(40, .bool (x33.Back != x40.Back)), (54, .bool (!r72))] 28 [some 13, some 27] rfl rfl (by kernel_rfl) rfl (by kernel_rfl) (by kernel_rfl) fun G a w S => ?_
                refine sPickF (b := x33.Back != x40.Back) (.bool (!r72)) S (wN rfl) rfl (by kernel_rfl) hc47 (by kernel_rfl) rfl (by decide) (fun a S => ?_)
                exact leafL ⟨rfl, S⟩
              · exact leafT (⟨!r72, Option.some.inj h, S.fix [0, 1] [16, 17] (by decide) (by kernel_rfl) (by kernel_rfl) (by kernel_rfl)⟩)
          · obtain ⟨o30, rfl, S⟩ := hI
            have h := g32
            clear g32
            try dsimp only at h
            rcases iteSome h with ⟨hc98, h⟩ | ⟨hc98, h⟩
            · refine sCondT (b := o30) S (by kernel_rfl) hc98 ?_
              refine sSeq (fun K99 hK99 => ?_)
              refine sRegion ?_
              refine sMove (.bool false) S (wN rfl) (.inr rfl) (by kernel_rfl) rfl (by decide) (fun a S => ?_)
              refine leafL (leafT (hK99 _ _ ?_))
              obtain rfl := Option.some.inj h
              obtain rfl := hu23 _ rfl
              have h := g24
              clear g24
              try dsimp only at h
              obtain rfl := Option.some.inj h
              have h := g20
              clear g20
              try dsimp only at h
              obtain rfl := Option.some.inj h
              exact wp_ret (rBlock (rThen (rThen (rBlock (rThen (sRet (.bool false) S (rsl1 rfl (rvT (t := 4) (v := .bool false) S (by kernel_rfl))) ⟨(), rfl, S.mem.sel [] [] (by decide) (by kernel_rfl) (by kernel_rfl)⟩))))))
            · refine sCondF (b := o30) S (by kernel_rfl) hc98 ?_
              refine wp_skip (leafB (leafT (hK29 _ _ ?_)))
              refine sRegion ?_
              refine sMove (.int .i64 s22) S (wN rfl) (.inl rfl) (by kernel_rfl) rfl (by decide) (fun a S => ?_)
              refine sBin (.int .i64 (w64 (s22 + 1))) S (wN rfl) rfl (by kernel_rfl) (by kernel_rfl) (bAdd _ _ _ _ s22 1) rfl (by decide) (fun a S => ?_)
              refine sMove (.int .i64 (w64 (s22 + 1))) S (wN rfl) (.inr rfl) (by kernel_rfl) rfl (by decide) (fun a S => ?_)
              exact leafL (leafT (⟨w64 (s22 + 1), (Option.some.inj h).symm, (S.fix [0, 1] [0, 1] (by decide) (by kernel_rfl) (by kernel_rfl) (by kernel_rfl))⟩))
        · refine sCondF (b := decide (s22 < (p0.Rows.length : Int))) S (by kernel_rfl) hc28 ?_
          obtain rfl := Option.some.inj h
          obtain rfl := hu23 _ rfl
          have h := g24
          clear g24
          try dsimp only at h
          exact wp_exit (xThen (xThen (xHit (leafT (⟨Option.some.inj h, S.fix [] [] (by decide) (by kernel_rfl) (by kernel_rfl) (by kernel_rfl)⟩)))))
      · obtain ⟨rfl, S⟩ := hI
        have h := g20
        clear g20
        try dsimp only at h
        refine sSeq (fun K100 hK100 => ?_)
        refine sRegion ?_
        refine sMove (.bool true) S (wN rfl) (.inr rfl) (by kernel_rfl) rfl (by decide) (fun a S => ?_)
        refine leafL (leafT (hK100 _ _ ?_))
        obtain rfl := Option.some.inj h
        exact wp_ret (sRet (.bool true) S (rsl1 rfl (rvT (t := 4) (v := .bool true) S (by kernel_rfl))) ⟨(), rfl, S.mem.sel [] [] (by decide) (by kernel_rfl) (by kernel_rfl)⟩)

end Go.Proofs.Ytoiehdlcfehmlaa
namespace Go.Proofs.Ytoiehdlcfehmlaa
open Go.RowKit
set_option linter.unusedVariables false

/-- a loop that compares two lists -/
theorem loop_eq {α τ : Type} {B : Int → Option (Int ⊕ τ)} (a b : List α) (hl : a.length = b.length) (good bad : τ)
    (h : ∀ k (hk : k < a.length), ∃ t : Bool, (t = true ↔ a[k] = b[k]'(by omega)) ∧ B (k : Int) = some (if t = true then .inl ((k + 1 : Nat) : Int) else .inr bad)) (hn : B (a.length : Int) = some (.inr good)) :
    ∃ t : Bool, (t = true ↔ a = b) ∧ whileO B 0 = some (if t = true then good else bad) := by
  have key : ∃ u, whileO B 0 = some u ∧ ∃ t : Bool, (t = true ↔ a = b) ∧ u = (if t = true then good else bad) := by
    refine loop_ix a.length (fun k => ∀ j, j < k → a[j]? = b[j]?) _ (fun j hj => absurd hj (Nat.not_lt_zero j)) ?_ ?_
    · intro k hk hI
      obtain ⟨t, h1, h2⟩ := h k hk
      cases t with
      | true =>
        refine .inl ⟨by rw [h2, if_pos rfl], fun j hj => ?_⟩
        by_cases e : j = k
        · subst e
          rw [List.getElem?_eq_getElem hk, List.getElem?_eq_getElem (by omega), h1.1 rfl]
        · exact hI j (by omega)
      | false =>
        refine .inr ⟨bad, by rw [h2]; rfl, false, ⟨fun h => (by cases h), fun h => ?_⟩, rfl⟩
        subst h
        exact absurd (h1.2 rfl) (by simp)
    · intro hI
      refine ⟨good, hn, true, ⟨fun _ => ?_, fun _ => rfl⟩, rfl⟩
      apply List.ext_getElem?
      intro j
      by_cases hj : j < a.length
      · exact hI j hj
      · rw [List.getElem?_eq_none (by omega), List.getElem?_eq_none (by omega)]
  obtain ⟨u, h1, t, h2, rfl⟩ := key
  exact ⟨t, h2, h1⟩
theorem eqS_iff (x y : api_Stitch) : ((x.Kind == y.Kind) && ((x.Purl == y.Purl) && ((x.A == y.A) && ((x.B == y.B) && true)))) = true ↔ x = y := by
  cases x; cases y; simp
theorem same_eq (a b : List api_Stitch) (hl : a.length ≤ 9223372036854775807) : ∃ t : Bool, (t = true ↔ a = b) ∧ F_stitch_Same a b = some t := by
  unfold F_stitch_Same F_slices_Equal___api_Stitch_api_Stitch_
  by_cases h : a.length = b.length
  case neg =>
    exact ⟨false, ⟨fun h => (by cases h), fun e => absurd (congrArg List.length e) h⟩, by simp only [nT (show ¬ (a.length : Int) = (b.length : Int) by omega), if_true, Option.bind_some]⟩
  simp only [nF (show (a.length : Int) = (b.length : Int) by omega), Bool.false_eq_true, if_false]
  have key : ∃ t : Bool, (t = true ↔ a = b) ∧ whileO (slices_Equal___api_Stitch_api_Stitch__l1 a b) 0 = some (if t = true then .inr () else .inl false) := by
    refine loop_eq a b h _ _ (fun k hk => ?_) ?_
    · refine ⟨_, eqS_iff a[k] (b[k]'(by omega)), ?_⟩
      unfold slices_Equal___api_Stitch_api_Stitch__l1
      simp only [dT (show (k : Int) < (a.length : Int) by omega), if_true, idxO_nat hk, idxO_nat (show k < b.length by omega), Option.bind_some, w64_succ (show k < 9223372036854775807 by omega)]
      cases ((a[k].Kind == (b[k]'(by omega)).Kind) && ((a[k].Purl == (b[k]'(by omega)).Purl) && ((a[k].A == (b[k]'(by omega)).A) && ((a[k].B == (b[k]'(by omega)).B) && true)))) <;> rfl
    · unfold slices_Equal___api_Stitch_api_Stitch__l1
      simp only [dF (show ¬ (a.length : Int) < (a.length : Int) by omega), Bool.false_eq_true, if_false]
  obtain ⟨t, t1, t2⟩ := key
  refine ⟨t, t1, ?_⟩
  rw [t2]
  cases t <;> rfl
theorem rsame_eq (a b : List api_Stitch) (hl : a.length ≤ 9223372036854775807) : ∃ t : Bool, (t = true ↔ a = b) ∧ F_raddleref25_Same a b = some t := by
  unfold F_raddleref25_Same
  by_cases h : a.length = b.length
  case neg =>
    exact ⟨false, ⟨fun h => (by cases h), fun e => absurd (congrArg List.length e) h⟩, by simp only [nT (show ¬ (a.length : Int) = (b.length : Int) by omega), if_true]⟩
  simp only [nF (show (a.length : Int) = (b.length : Int) by omega), Bool.false_eq_true, if_false]
  have key : ∃ t : Bool, (t = true ↔ a = b) ∧ whileO (raddleref25_Same_l1 a b) 0 = some (if t = true then .inr () else .inl false) := by
    refine loop_eq a b h _ _ (fun k hk => ?_) ?_
    · refine ⟨_, eqS_iff a[k] (b[k]'(by omega)), ?_⟩
      unfold raddleref25_Same_l1
      simp only [dT (show (k : Int) < (a.length : Int) by omega), if_true, idxO_nat hk, idxO_nat (show k < b.length by omega), Option.bind_some, w64_succ (show k < 9223372036854775807 by omega)]
      cases ((a[k].Kind == (b[k]'(by omega)).Kind) && ((a[k].Purl == (b[k]'(by omega)).Purl) && ((a[k].A == (b[k]'(by omega)).A) && ((a[k].B == (b[k]'(by omega)).B) && true)))) <;> rfl
    · unfold raddleref25_Same_l1
      simp only [dF (show ¬ (a.length : Int) < (a.length : Int) by omega), Bool.false_eq_true, if_false]
  obtain ⟨t, t1, t2⟩ := key
  refine ⟨t, t1, ?_⟩
  rw [t2]
  cases t <;> rfl
theorem row_ext {x y : api_Row} : x = y ↔ x.Back = y.Back ∧ x.Cells = y.Cells := by cases x; cases y; simp
theorem samechart_eq (a b : api_Chart) (hl : a.Rows.length ≤ 9223372036854775807) (hc : ∀ r, r ∈ a.Rows → r.Cells.length ≤ 9223372036854775807) : ∃ t : Bool, (t = true ↔ a = b) ∧ F_raddleref37_SameChart a b = some t := by
  have ext : a = b ↔ a.Start = b.Start ∧ a.Rows = b.Rows := by cases a; cases b; simp
  unfold F_raddleref37_SameChart
  by_cases h0 : a.Start = b.Start
  case neg =>
    exact ⟨false, ⟨fun h => (by cases h), fun e => absurd (ext.1 e).1 h0⟩, by simp only [nT h0, if_true, Option.bind_some]⟩
  by_cases h : a.Rows.length = b.Rows.length
  case neg =>
    exact ⟨false, ⟨fun h => (by cases h), fun e => absurd (congrArg List.length (ext.1 e).2) h⟩, by simp only [nF h0, Bool.false_eq_true, if_false, nT (show ¬ (a.Rows.length : Int) = (b.Rows.length : Int) by omega), if_true, Option.bind_some]⟩
  simp only [nF h0, nF (show (a.Rows.length : Int) = (b.Rows.length : Int) by omega), Bool.false_eq_true, if_false, Option.bind_some]
  have key : ∃ t : Bool, (t = true ↔ a.Rows = b.Rows) ∧ whileO (raddleref37_SameChart_l1 a b) 0 = some (if t = true then .inr () else .inl false) := by
    refine loop_eq a.Rows b.Rows h _ _ (fun k hk => ?_) ?_
    · obtain ⟨t, t1, t2⟩ := rsame_eq a.Rows[k].Cells (b.Rows[k]'(by omega)).Cells (hc _ (List.getElem_mem hk))
      by_cases hb : a.Rows[k].Back = (b.Rows[k]'(by omega)).Back
      · refine ⟨t, t1.trans ⟨fun e => row_ext.2 ⟨hb, e⟩, fun e => (row_ext.1 e).2⟩, ?_⟩
        unfold raddleref37_SameChart_l1
        simp only [dT (show (k : Int) < (a.Rows.length : Int) by omega), if_true, idxO_nat hk, idxO_nat (show k < b.Rows.length by omega), Option.bind_some, w64_succ (show k < 9223372036854775807 by omega), hb, bne_self_eq_false, Bool.false_eq_true, if_false, t2]
        cases t <;> rfl
      · refine ⟨false, ⟨fun h => (by cases h), fun e => absurd (row_ext.1 e).1 hb⟩, ?_⟩
        unfold raddleref37_SameChart_l1
        simp only [dT (show (k : Int) < (a.Rows.length : Int) by omega), if_true, idxO_nat hk, idxO_nat (show k < b.Rows.length by omega), Option.bind_some, bne_iff_ne.2 hb, Bool.false_eq_true, if_false]
    · unfold raddleref37_SameChart_l1
      simp only [dF (show ¬ (a.Rows.length : Int) < (a.Rows.length : Int) by omega), Bool.false_eq_true, if_false]
  obtain ⟨t, t1, t2⟩ := key
  refine ⟨t, t1.trans ⟨fun e => ext.2 ⟨h0, e⟩, fun e => (ext.1 e).2⟩, ?_⟩
  rw [t2]
  cases t <;> rfl

end Go.Proofs.Ytoiehdlcfehmlaa
namespace Go.Proofs.Ytoiehdlcfehmlaa
open Go.RowKit
set_option linter.unusedVariables false

noncomputable def F_short_within (p0 : Int) (p1 : Int) (p2 : Int) : Option Bool :=
  Option.bind (α := Bool) (
    if decide (p1 ≤ p0) then
      some (decide (p0 ≤ p2))
    else
      some false) fun o2 =>
  some o2
set_option maxHeartbeats 4000000 in
set_option maxRecDepth 100000 in
theorem c_short_within (E : Nat → Prop) (w0 : World) (p0 : Int) (p1 : Int) (p2 : Int) (r : Bool) (h : F_short_within p0 p1 p2 = some r) (S : St0 E [] w0 w0 [] []) :
    Calls Try.prog 22 #[.int .i64 p0, .int .i64 p1, .int .i64 p2] w0 (Ret (X := Unit) E [] w0 (fun _ => .bool r) (fun _ => []) (fun _ => [])) := by
  unfold F_short_within at h
  refine sEnter (args := [.int .i64 p0, .int .i64 p1, .int .i64 p2]) 15 Try.func22 rfl rfl (by simp) S (fun a S => ?_)
  refine sSeq (fun K1 hK1 => ?_)
  refine sRegion ?_
  refine sMove (.bool false) S (wN rfl) (.inr rfl) (by kernel_rfl) rfl (by decide) (fun a S => ?_)
  refine leafL (leafT (hK1 _ _ ?_))
  obtain ⟨t3, h, g4⟩ := bindSome h
  refine sCut (fun a w => ∃ o2, o2 = t3 ∧ St [] E [] w0 15 a w [(6, .bool o2)] [] []) ?_ (fun a w hI => ?_)
  · refine sRegion ?_
    refine sMove (.int .i64 p0) S (wN rfl) (.inl rfl) (by kernel_rfl) rfl (by decide) (fun a S => ?_)
    refine sMove (.int .i64 p1) S (wN rfl) (.inl rfl) (by kernel_rfl) rfl (by decide) (fun a S => ?_)
    refine sBin (.bool (decide (p1 ≤ p0))) S (wN rfl) rfl (by kernel_rfl) (by kernel_rfl) (bGe _ _ _ _ .i64 p0 p1) rfl (by decide) (fun a S => ?_)
    refine sMove (.bool (decide (p1 ≤ p0))) S (wN rfl) (.inl rfl) (by kernel_rfl) rfl (by decide) (fun a S => ?_)
    rcases iteSome h with ⟨hc5, h⟩ | ⟨hc5, h⟩
    · refine sMove (.int .i64 p0) S (wG (c := decide (p1 ≤ p0)) 3 true 10 rfl rfl (by kernel_rfl) hc5) (.inl rfl) (by kernel_rfl) rfl (by decide) (fun a S => ?_)
      refine sMove (.int .i64 p2) S (wG (c := decide (p1 ≤ p0)) 3 true 10 rfl rfl (by kernel_rfl) hc5) (.inl rfl) (by kernel_rfl) rfl (by decide) (fun a S => ?_)
      refine sBin (.bool (decide (p0 ≤ p2))) S (wG (c := decide (p1 ≤ p0)) 3 true 10 rfl rfl (by kernel_rfl) hc5) rfl (by kernel_rfl) (by kernel_rfl) (bLe _ _ _ _ .i64 p0 p2) rfl (by decide) (fun a S => ?_)
      refine sPickT (b := decide (p1 ≤ p0)) (.bool (decide (p0 ≤ p2))) S (wN rfl) rfl (by kernel_rfl) hc5 (by kernel_rfl) rfl (by decide) (fun a S => ?_)
      refine sMove (.bool (decide (p0 ≤ p2))) S (wN rfl) (.inr rfl) (by kernel_rfl) rfl (by decide) (fun a S => ?_)
      exact leafL (leafT (⟨decide (p0 ≤ p2), Option.some.inj h, S.fix [] [] (by decide) (by kernel_rfl) (by kernel_rfl) (by kernel_rfl)⟩))
    · refine sSkip (c := decide (p1 ≤ p0)) 3 true 10 11 S rfl rfl (by kernel_rfl) hc5 rfl (by decide) (fun a S => ?_)
      refine sSkip (c := decide (p1 ≤ p0)) 3 true 10 12 S rfl rfl (by kernel_rfl) hc5 rfl (by decide) (fun a S => ?_)
      refine sSkip (c := decide (p1 ≤ p0)) 3 true 10 13 S rfl rfl (by kernel_rfl) hc5 rfl (by decide) (fun a S => ?_)
      refine sPickF (b := decide (p1 ≤ p0)) (.bool false) S (wN rfl) rfl (by kernel_rfl) hc5 (by kernel_rfl) rfl (by decide) (fun a S => ?_)
      refine sMove (.bool false) S (wN rfl) (.inr rfl) (by kernel_rfl) rfl (by decide) (fun a S => ?_)
      exact leafL (leafT (⟨false, Option.some.inj h, S.fix [] [] (by decide) (by kernel_rfl) (by kernel_rfl) (by kernel_rfl)⟩))
  · obtain ⟨o2, rfl, S⟩ := hI
    have h := g4
    clear g4
    try dsimp only at h
    obtain rfl := Option.some.inj h
    exact wp_ret (sRet (.bool o2) S (rsl1 rfl (rvT (t := 6) (v := .bool o2) S (by kernel_rfl))) ⟨(), rfl, S.mem.sel [] [] (by decide) (by kernel_rfl) (by kernel_rfl)⟩)

end Go.Proofs.Ytoiehdlcfehmlaa
namespace Go.Proofs.Ytoiehdlcfehmlaa
open Go.RowKit
set_option linter.unusedVariables false

noncomputable def short_check_l1 (p1 : (List Int)) (p0 : Int) : Int → Option (Int ⊕ (Int ⊕ Unit)) := fun s0 => match s0 with
  | s17 =>
    if decide (s17 < (p1.length : Int)) then
      Option.bind (idxO p1 s17) fun x26 =>
      Option.bind (F_short_within x26 1 p0) fun r32 =>
      if !r32 then
        some (.inr (.inl 2))
      else
        some (.inl (w64 (s17 + 1)))
    else
      some (.inr (.inr ()))
noncomputable def F_short_check (p0 : Int) (p1 : (List Int)) : Option Int :=
  Option.bind (F_short_within p0 1 200) fun r6 =>
  if !r6 then
    some 2
  else
    if decide (50 < (p1.length : Int)) then
      some 4
    else
      Option.bind (α := Unit ⊕ Int) (
        Option.bind (whileO (short_check_l1 p1 p0) 0) fun z0 => match z0 with
          | .inl z =>
            some (.inr z)
          | .inr _ =>
            some (.inl ())) fun z0 => match z0 with
        | .inl _ =>
          some 0
        | .inr z =>
          some z
set_option maxHeartbeats 4000000 in
set_option maxRecDepth 100000 in
theorem c_short_check (E : Nat → Prop) (w0 : World) (p0 : Int) (p1 : (List Int)) (v1 : Value) (r : Int) (h : F_short_check p0 p1 = some r) (S : St0 E [] w0 w0 [] [fRep (rL (rI .i64)) (v1) p1]) :
    Calls Try.prog 20 #[.int .i64 p0, v1] w0 (Ret (X := Unit) E [] w0 (fun _ => .int .i64 r) (fun _ => []) (fun _ => [])) := by
  unfold F_short_check at h
  obtain ⟨ad1, cp2, _, rfl, _⟩ := S.know (i := 0) (e := fRep (rL (rI .i64)) (v1) p1) (by kernel_rfl)
  refine sEnter (args := [.int .i64 p0, .slice ad1 p1.length cp2]) 24 Try.func20 rfl rfl (by simp) S (fun a S => ?_)
  refine sSeq (fun K3 hK3 => ?_)
  refine sRegion ?_
  refine sMove (.int .i64 0) S (wN rfl) (.inr rfl) (by kernel_rfl) rfl (by decide) (fun a S => ?_)
  refine leafL (leafT (hK3 _ _ ?_))
  refine sSeq (fun K4 hK4 => ?_)
  refine sSeq (fun K5 hK5 => ?_)
  refine sRegion ?_
  refine sMove (.int .i64 p0) S (wN rfl) (.inl rfl) (by kernel_rfl) rfl (by decide) (fun a S => ?_)
  obtain ⟨r6, hx7, h⟩ := bindSome h
  have S1 := S.mem
  refine sCallQ (X := Unit) (f := 22) (vs := [.int .i64 p0, .int .i64 1, .int .i64 200]) (val := fun _ => .bool r6) S (wN rfl) rfl callee22 (by kernel_rfl) (S1.quiet [] (by kernel_rfl)) (fun E1 w1 S1 => c_short_within E1 w1 p0 1 200 r6 hx7 S1) rfl (by decide) (fun _ a w S => ?_)
  refine sNot (b := r6) S (wN rfl) rfl (by kernel_rfl) rfl (by decide) (fun a S => ?_)
  refine leafL (leafT (hK5 _ _ ?_))
  rcases iteSome h with ⟨hc8, h⟩ | ⟨hc8, h⟩
  · refine sCondT (b := !r6) S (by kernel_rfl) hc8 ?_
    refine sSeq (fun K9 hK9 => ?_)
    refine sRegion ?_
    refine sMove (.int .i64 2) S (wN rfl) (.inr rfl) (by kernel_rfl) rfl (by decide) (fun a S => ?_)
    refine leafL (leafT (hK9 _ _ ?_))
    obtain rfl := Option.some.inj h
    exact wp_ret (rThen (sRet (.int .i64 2) S (rsl1 rfl (rvT (t := 4) (v := .int .i64 2) S (by kernel_rfl))) ⟨(), rfl, S.mem.sel [] [] (by decide) (by kernel_rfl) (by kernel_rfl)⟩))
  · refine sCondF (b := !r6) S (by kernel_rfl) hc8 ?_
    refine wp_skip (leafT (hK4 _ _ ?_))
    refine sSeq (fun K10 hK10 => ?_)
    refine sSeq (fun K11 hK11 => ?_)
    refine sRegion ?_
    refine sMove (.slice ad1 p1.length cp2) S (wN rfl) (.inl rfl) (by kernel_rfl) rfl (by decide) (fun a S => ?_)
    refine sLen (ad := ad1) (m := p1.length) (c := cp2) S (wN rfl) rfl Try.underlying22 (by kernel_rfl) rfl (by decide) (fun a S => ?_)
    refine sBin (.bool (decide (50 < (p1.length : Int)))) S (wN rfl) rfl (by kernel_rfl) (by kernel_rfl) (bGt _ _ _ _ .i64 (p1.length : Int) 50) rfl (by decide) (fun a S => ?_)
    refine leafL (leafT (hK11 _ _ ?_))
    rcases iteSome h with ⟨hc12, h⟩ | ⟨hc12, h⟩
    · refine sCondT (b := decide (50 < (p1.length : Int))) S (by kernel_rfl) hc12 ?_
      refine sSeq (fun K13 hK13 => ?_)
      refine sRegion ?_
      refine sMove (.int .i64 4) S (wN rfl) (.inr rfl) (by kernel_rfl) rfl (by decide) (fun a S => ?_)
      refine leafL (leafT (hK13 _ _ ?_))
      obtain rfl := Option.some.inj h
      exact wp_ret (rThen (sRet (.int .i64 4) S (rsl1 rfl (rvT (t := 4) (v := .int .i64 4) S (by kernel_rfl))) ⟨(), rfl, S.mem.sel [] [] (by decide) (by kernel_rfl) (by kernel_rfl)⟩))
    · refine sCondF (b := decide (50 < (p1.length : Int))) S (by kernel_rfl) hc12 ?_
      refine wp_skip (leafT (hK10 _ _ ?_))
      obtain ⟨t14, h, g15⟩ := bindSome h
      refine sCut (fun a w => .inl () = t14 ∧ St [] E [] w0 24 a w [] [] []) ?_ (fun a w hI => ?_)
      · refine sSeq (fun K16 hK16 => ?_)
        refine sRegion ?_
        refine sMove (.slice ad1 p1.length cp2) S (wN rfl) (.inl rfl) (by kernel_rfl) rfl (by decide) (fun a S => ?_)
        refine sLen (ad := ad1) (m := p1.length) (c := cp2) S (wN rfl) rfl Try.underlying22 (by kernel_rfl) rfl (by decide) (fun a S => ?_)
        refine sMove (.int .i64 0) S (wN rfl) (.inl rfl) (by kernel_rfl) rfl (by decide) (fun a S => ?_)
        refine leafL (leafT (hK16 _ _ ?_))
        refine wp_block ?_
        obtain ⟨t20, hl, g19⟩ := bindSome h
        refine sLoop hl (fun s0 a w => match s0 with | s17 => St [] E [] w0 24 a w [(0, .int .i64 p0), (13, .slice ad1 p1.length cp2), (14, .int .i64 (p1.length : Int)), (15, .int .i64 s17)] [] [fRep (rL (rI .i64)) (.slice ad1 p1.length cp2) p1]) (S.fix [] [0] (by decide) (by kernel_rfl) (by kernel_rfl) (by kernel_rfl)) ?_
        clear hl h
        intro s17 a w c0 hI h hu18
        unfold short_check_l1 at h
        dsimp only at h hI
        have S := hI
        refine sSeq (fun K21 hK21 => ?_)
        refine sRegion ?_
        refine sBin (.bool (decide (s17 < (p1.length : Int)))) S (wN rfl) rfl (by kernel_rfl) (by kernel_rfl) (bLt _ _ _ _ .i64 s17 (p1.length : Int)) rfl (by decide) (fun a S => ?_)
        refine leafL (leafT (hK21 _ _ ?_))
        refine sSeq (fun K22 hK22 => ?_)
        rcases iteSome h with ⟨hc23, h⟩ | ⟨hc23, h⟩
        · refine sCondT (b := decide (s17 < (p1.length : Int))) S (by kernel_rfl) hc23 ?_
          refine wp_skip (leafT (hK22 _ _ ?_))
          refine sSeq (fun K24 hK24 => ?_)
          refine wp_block ?_
          refine sSeq (fun K25 hK25 => ?_)
          refine sRegion ?_
          obtain ⟨x26, hx27, h⟩ := bindSome h
          obtain ⟨q28, hq29, S⟩ := pIdx (P := Try.prog) (r := (rI .i64)) (v := .slice ad1 p1.length cp2) (xs := p1) (j := s17) 22 3 0 S Try.underlying22 (by kernel_rfl) (by kernel_rfl) hx27
          refine sIdxV (v := .slice ad1 p1.length cp2) (k := .i64) (j := s17) S (wN rfl) rfl (by kernel_rfl) (by kernel_rfl) hq29 rfl (by decide) (fun a S => ?_)
          obtain ⟨u30, S⟩ := pLoad (r := (rI .i64)) (q := q28) (x := x26) 0 S (by kernel_rfl)
          obtain rfl : u30 = .int .i64 x26 := S.mem.know (i := 1) (e := fRep (rI .i64) (u30) x26) (by kernel_rfl)
          refine sLoadV1 (vq := q28) 0 (.int .i64 x26) S (wN rfl) rfl (by kernel_rfl) (by kernel_rfl) (by kernel_rfl) rfl (by decide) (fun a S => ?_)
          refine sMove (.int .i64 x26) S (wN rfl) (.inr rfl) (by kernel_rfl) rfl (by decide) (fun a S => ?_)
          refine leafL (leafT (hK25 _ _ ?_))
          refine sSeq (fun K31 hK31 => ?_)
          refine sRegion ?_
          refine sMove (.int .i64 x26) S (wN rfl) (.inl rfl) (by kernel_rfl) rfl (by decide) (fun a S => ?_)
          refine sMove (.int .i64 p0) S (wN rfl) (.inl rfl) (by kernel_rfl) rfl (by decide) (fun a S => ?_)
          obtain ⟨r32, hx33, h⟩ := bindSome h
          have S1 := S.mem
          refine sCallQ (X := Unit) (f := 22) (vs := [.int .i64 x26, .int .i64 1, .int .i64 p0]) (val := fun _ => .bool r32) S (wN rfl) rfl callee22 (by kernel_rfl) (S1.quiet [] (by kernel_rfl)) (fun E1 w1 S1 => c_short_within E1 w1 x26 1 p0 r32 hx33 S1) rfl (by decide) (fun _ a w S => ?_)
          refine sNot (b := r32) S (wN rfl) rfl (by kernel_rfl) rfl (by decide) (fun a S => ?_)
          refine leafL (leafT (hK31 _ _ ?_))
          rcases iteSome h with ⟨hc34, h⟩ | ⟨hc34, h⟩
          · refine sCondT (b := !r32) S (by kernel_rfl) hc34 ?_
            refine sSeq (fun K35 hK35 => ?_)
            refine sRegion ?_
            refine sMove (.int .i64 2) S (wN rfl) (.inr rfl) (by kernel_rfl) rfl (by decide) (fun a S => ?_)
            refine leafL (leafT (hK35 _ _ ?_))
            obtain rfl := Option.some.inj h
            obtain rfl := hu18 _ rfl
            have h := g19
            clear g19
            try dsimp only at h
            obtain rfl := Option.some.inj h
            have h := g15
            clear g15
            try dsimp only at h
            obtain rfl := Option.some.inj h
            exact wp_ret (rBlock (rThen (rThen (rBlock (rThen (sRet (.int .i64 2) S (rsl1 rfl (rvT (t := 4) (v := .int .i64 2) S (by kernel_rfl))) ⟨(), rfl, S.mem.sel [] [] (by decide) (by kernel_rfl) (by kernel_rfl)⟩))))))
          · refine sCondF (b := !r32) S (by kernel_rfl) hc34 ?_
            refine wp_skip (leafB (leafT (hK24 _ _ ?_)))
            refine sRegion ?_
            refine sBin (.int .i64 (w64 (s17 + 1))) S (wN rfl) rfl (by kernel_rfl) (by kernel_rfl) (bAdd _ _ _ _ s17 1) rfl (by decide) (fun a S => ?_)
            refine sMove (.int .i64 (w64 (s17 + 1))) S (wN rfl) (.inl rfl) (by kernel_rfl) rfl (by decide) (fun a S => ?_)
            exact leafL (leafT (⟨w64 (s17 + 1), (Option.some.inj h).symm, (S.fix [] [3] (by decide) (by kernel_rfl) (by kernel_rfl) (by kernel_rfl))⟩))
        · refine sCondF (b := decide (s17 < (p1.length : Int))) S (by kernel_rfl) hc23 ?_
          obtain rfl := Option.some.inj h
          obtain rfl := hu18 _ rfl
          have h := g19
          clear g19
          try dsimp only at h
          exact wp_exit (xThen (xThen (xHit (leafT (⟨Option.some.inj h, S.fix [] [] (by decide) (by kernel_rfl) (by kernel_rfl) (by kernel_rfl)⟩)))))
      · obtain ⟨rfl, S⟩ := hI
        have h := g15
        clear g15
        try dsimp only at h
        refine sSeq (fun K36 hK36 => ?_)
        refine sRegion ?_
        refine sMove (.int .i64 0) S (wN rfl) (.inr rfl) (by kernel_rfl) rfl (by decide) (fun a S => ?_)
        refine leafL (leafT (hK36 _ _ ?_))
        obtain rfl := Option.some.inj h
        exact wp_ret (sRet (.int .i64 0) S (rsl1 rfl (rvT (t := 4) (v := .int .i64 0) S (by kernel_rfl))) ⟨(), rfl, S.mem.sel [] [] (by decide) (by kernel_rfl) (by kernel_rfl)⟩)

end Go.Proofs.Ytoiehdlcfehmlaa
namespace Go.Proofs.Ytoiehdlcfehmlaa
open Go.RowKit
set_option linter.unusedVariables false

noncomputable def short_joined_l1 (p0 : (List (List api_Stitch))) : (List api_Stitch × Int) → Option ((List api_Stitch × Int) ⊕ List api_Stitch) := fun s0 => match s0 with
  | (s11, s14) =>
    if decide (s14 < (p0.length : Int)) then
      Option.bind (idxO p0 s14) fun x26 =>
      Option.bind (appO s11 x26) fun l33 =>
      some (.inl (l33, w64 (s14 + 1)))
    else
      some (.inr s11)
noncomputable def F_short_joined (p0 : (List (List api_Stitch))) : Option (List api_Stitch) :=
  Option.bind (α := List api_Stitch) (
    Option.bind (whileO (short_joined_l1 p0) (([] : List api_Stitch), 0)) fun e18 =>
      some e18) fun o5 =>
  some o5
def c_short_joined_val (r : (List api_Stitch)) (x : Value) : Value := x
def c_short_joined_D (r : (List api_Stitch)) (x : Value) : List Fact := [fRep (rL r_api_Stitch) x r]
set_option maxHeartbeats 4000000 in
set_option maxRecDepth 100000 in
theorem c_short_joined (E : Nat → Prop) (w0 : World) (p0 : (List (List api_Stitch))) (v0 : Value) (r : (List api_Stitch)) (h : F_short_joined p0 = some r) (S : St0 E [] w0 w0 [] [fRep (rL (rL r_api_Stitch)) (v0) p0]) :
    Calls Try.prog 23 #[v0] w0 (Ret (X := Value) E [] w0 (c_short_joined_val r) (fun _ => []) (c_short_joined_D r)) := by
  unfold F_short_joined at h
  obtain ⟨ad1, cp2, _, rfl, _⟩ := S.know (i := 0) (e := fRep (rL (rL r_api_Stitch)) (v0) p0) (by kernel_rfl)
  refine sEnter (args := [.slice ad1 p0.length cp2]) 17 Try.func23 rfl rfl (by simp) S (fun a S => ?_)
  refine sSeq (fun K3 hK3 => ?_)
  refine sRegion ?_
  refine sMove (.slice none 0 0) S (wN rfl) (.inr rfl) (by kernel_rfl) rfl (by decide) (fun a S => ?_)
  refine leafL (leafT (hK3 _ _ ?_))
  refine sSeq (fun K4 hK4 => ?_)
  refine sRegion ?_
  refine sMove (.slice none 0 0) S (wN rfl) (.inr rfl) (by kernel_rfl) rfl (by decide) (fun a S => ?_)
  refine leafL (leafT (hK4 _ _ ?_))
  obtain ⟨t8, h, g9⟩ := bindSome h
  refine sCut (fun a w => ∃ o5, o5 = t8 ∧ ∃ ad6, ∃ cp7, St [] E [] w0 17 a w [(3, .slice ad6 o5.length cp7)] [eRow r_api_Stitch 63 (.slice ad6 o5.length cp7) o5] []) ?_ (fun a w hI => ?_)
  · refine sSeq (fun K10 hK10 => ?_)
    refine sRegion ?_
    refine sMove (.slice ad1 p0.length cp2) S (wN rfl) (.inl rfl) (by kernel_rfl) rfl (by decide) (fun a S => ?_)
    refine sLen (ad := ad1) (m := p0.length) (c := cp2) S (wN rfl) rfl Try.underlying67 (by kernel_rfl) rfl (by decide) (fun a S => ?_)
    refine sMove (.int .i64 0) S (wN rfl) (.inl rfl) (by kernel_rfl) rfl (by decide) (fun a S => ?_)
    refine leafL (leafT (hK10 _ _ ?_))
    refine wp_block ?_
    have S := S.nilRow r_api_Stitch 63 (α := api_Stitch)
    obtain ⟨t17, hl, g16⟩ := bindSome h
    refine sLoop hl (fun s0 a w => match s0 with | (s11, s14) => ∃ ad12, ∃ cp13, St [] E [] w0 17 a w [(3, .slice ad12 s11.length cp13), (6, .slice ad1 p0.length cp2), (7, .int .i64 (p0.length : Int)), (8, .int .i64 s14)] [eRow r_api_Stitch 63 (.slice ad12 s11.length cp13) s11] [fRep (rL (rL r_api_Stitch)) (.slice ad1 p0.length cp2) p0]) ⟨none, 0, S.fix [0] [0] (by decide) (by kernel_rfl) (by kernel_rfl) (by kernel_rfl)⟩ ?_
    clear hl h
    intro s0 a w c0 hI h hu15
    obtain ⟨s11, s14⟩ := s0
    unfold short_joined_l1 at h
    dsimp only at h hI
    obtain ⟨ad12, cp13, S⟩ := hI
    refine sSeq (fun K21 hK21 => ?_)
    refine sRegion ?_
    refine sBin (.bool (decide (s14 < (p0.length : Int)))) S (wN rfl) rfl (by kernel_rfl) (by kernel_rfl) (bLt _ _ _ _ .i64 s14 (p0.length : Int)) rfl (by decide) (fun a S => ?_)
    refine leafL (leafT (hK21 _ _ ?_))
    refine sSeq (fun K22 hK22 => ?_)
    rcases iteSome h with ⟨hc23, h⟩ | ⟨hc23, h⟩
    · refine sCondT (b := decide (s14 < (p0.length : Int))) S (by kernel_rfl) hc23 ?_
      refine wp_skip (leafT (hK22 _ _ ?_))
      refine sSeq (fun K24 hK24 => ?_)
      refine wp_block ?_
      refine sSeq (fun K25 hK25 => ?_)
      refine sRegion ?_
      obtain ⟨x26, hx27, h⟩ := bindSome h
      obtain ⟨q28, hq29, S⟩ := pIdx (P := Try.prog) (r := (rL r_api_Stitch)) (v := .slice ad1 p0.length cp2) (xs := p0) (j := s14) 67 55 0 S Try.underlying67 (by kernel_rfl) (by kernel_rfl) hx27
      refine sIdxV (v := .slice ad1 p0.length cp2) (k := .i64) (j := s14) S (wN rfl) rfl (by kernel_rfl) (by kernel_rfl) hq29 rfl (by decide) (fun a S => ?_)
      obtain ⟨u30, S⟩ := pLoad (r := (rL r_api_Stitch)) (q := q28) (x := x26) 0 S (by kernel_rfl)
      obtain ⟨ad31, cp32, _, rfl, _⟩ := S.mem.know (i := 1) (e := fRep (rL r_api_Stitch) (u30) x26) (by kernel_rfl)
      refine sLoadV1 (vq := q28) 0 (.slice ad31 x26.length cp32) S (wN rfl) rfl (by kernel_rfl) (by kernel_rfl) (by kernel_rfl) rfl (by decide) (fun a S => ?_)
      refine sMove (.slice ad31 x26.length cp32) S (wN rfl) (.inr rfl) (by kernel_rfl) rfl (by decide) (fun a S => ?_)
      refine leafL (leafT (hK25 _ _ ?_))
      refine sRegion ?_
      refine sMove (.slice ad12 s11.length cp13) S (wN rfl) (.inl rfl) (by kernel_rfl) rfl (by decide) (fun a S => ?_)
      refine sMove (.slice ad31 x26.length cp32) S (wN rfl) (.inl rfl) (by kernel_rfl) rfl (by decide) (fun a S => ?_)
      obtain ⟨l33, hx34, h⟩ := bindSome h
      refine sApp (r := r_api_Stitch) (T := 63) (xs := s11) (ys := x26) (v := .slice ad12 s11.length cp13) (u := .slice ad31 x26.length cp32) 0 (.agg #[.int .u8 0, .bool false, .int .i64 0, .int .i64 0]) 24 S (wN rfl) rfl Try.underlying55 (by kernel_rfl) rfl (by decide) (by kernel_rfl) (by kernel_rfl) (by kernel_rfl) (src_D 1 S.mem (by kernel_rfl)) hx34 rfl (by decide) (fun a w ad35 cp36 S => ?_)
      refine sMove (.slice ad35 l33.length cp36) S (wN rfl) (.inr rfl) (by kernel_rfl) rfl (by decide) (fun a S => ?_)
      refine leafL (leafB (leafT (hK24 _ _ ?_)))
      refine sRegion ?_
      refine sBin (.int .i64 (w64 (s14 + 1))) S (wN rfl) rfl (by kernel_rfl) (by kernel_rfl) (bAdd _ _ _ _ s14 1) rfl (by decide) (fun a S => ?_)
      refine sMove (.int .i64 (w64 (s14 + 1))) S (wN rfl) (.inl rfl) (by kernel_rfl) rfl (by decide) (fun a S => ?_)
      exact leafL (leafT (⟨(l33, w64 (s14 + 1)), (Option.some.inj h).symm, ⟨ad35, cp36, S.fix [0] [3] (by decide) (by kernel_rfl) (by kernel_rfl) (by kernel_rfl)⟩⟩))
    · refine sCondF (b := decide (s14 < (p0.length : Int))) S (by kernel_rfl) hc23 ?_
      obtain rfl := Option.some.inj h
      obtain rfl := hu15 _ rfl
      have h := g16
      clear g16
      try dsimp only at h
      exact wp_exit (xThen (xThen (xHit (leafT (⟨s11, Option.some.inj h, ad12, cp13, S.fix [0] [] (by decide) (by kernel_rfl) (by kernel_rfl) (by kernel_rfl)⟩)))))
  · obtain ⟨o5, rfl, ad6, cp7, S⟩ := hI
    have h := g9
    clear g9
    try dsimp only at h
    refine sSeq (fun K37 hK37 => ?_)
    refine sRegion ?_
    refine sMove (.slice ad6 o5.length cp7) S (wN rfl) (.inl rfl) (by kernel_rfl) rfl (by decide) (fun a S => ?_)
    refine sMove (.slice ad6 o5.length cp7) S (wN rfl) (.inr rfl) (by kernel_rfl) rfl (by decide) (fun a S => ?_)
    refine leafL (leafT (hK37 _ _ ?_))
    obtain rfl := Option.some.inj h
    have S := S.shutR (r := r_api_Stitch) (T := 63) (v := .slice ad6 o5.length cp7) (xs := o5) 0 (by kernel_rfl)
    exact wp_ret (sRet (.slice ad6 o5.length cp7) S (rsl1 rfl (rvT (t := 2) (v := .slice ad6 o5.length cp7) S (by kernel_rfl))) ⟨(.slice ad6 o5.length cp7), rfl, S.mem.sel [] [0] (by decide) (by kernel_rfl) (by kernel_rfl)⟩)

end Go.Proofs.Ytoiehdlcfehmlaa
namespace Go.Proofs.Ytoiehdlcfehmlaa
open Go.RowKit
set_option linter.unusedVariables false

noncomputable def short_several_l1 (p1 : Int) (p0 : Int) : (List api_Stitch × Int) → Option ((List api_Stitch × Int) ⊕ List api_Stitch) := fun s0 => match s0 with
  | (s13, s16) =>
    if decide (s16 < p1) then
      Option.bind (appO s13 [(api_Stitch.mk p0 false 0 0)]) fun l29 =>
      some (.inl (l29, w64 (s16 + 1)))
    else
      some (.inr s13)
noncomputable def F_short_several (p0 : Int) (p1 : Int) : Option (List api_Stitch) :=
  Option.bind (capO p1) fun z5 =>
  Option.bind (α := List api_Stitch) (
    Option.bind (whileO (short_several_l1 p1 p0) (([] : List api_Stitch), 0)) fun e20 =>
      some e20) fun o7 =>
  some o7
def c_short_several_val (r : (List api_Stitch)) (x : Value) : Value := x
def c_short_several_D (r : (List api_Stitch)) (x : Value) : List Fact := [fRep (rL r_api_Stitch) x r]
set_option maxHeartbeats 4000000 in
set_option maxRecDepth 100000 in
theorem c_short_several (E : Nat → Prop) (w0 : World) (p0 : Int) (p1 : Int) (r : (List api_Stitch)) (h : F_short_several p0 p1 = some r) (S : St0 E [] w0 w0 [] []) :
    Calls Try.prog 24 #[.int .u8 p0, .int .i64 p1] w0 (Ret (X := Value) E [] w0 (c_short_several_val r) (fun _ => []) (c_short_several_D r)) := by
  unfold F_short_several at h
  refine sEnter (args := [.int .u8 p0, .int .i64 p1]) 18 Try.func24 rfl rfl (by simp) S (fun a S => ?_)
  refine sSeq (fun K1 hK1 => ?_)
  refine sRegion ?_
  refine sMove (.slice none 0 0) S (wN rfl) (.inr rfl) (by kernel_rfl) rfl (by decide) (fun a S => ?_)
  refine leafL (leafT (hK1 _ _ ?_))
  refine sSeq (fun K2 hK2 => ?_)
  refine sRegion ?_
  refine sMove (.int .i64 p1) S (wN rfl) (.inl rfl) (by kernel_rfl) rfl (by decide) (fun a S => ?_)
  obtain ⟨z5, hx6, h⟩ := bindSome h
  refine sMake0 r_api_Stitch (m := p1) (u := z5) (.agg #[.int .u8 0, .bool false, .int .i64 0, .int .i64 0]) 24 S (wN rfl) rfl Try.underlying55 (by kernel_rfl) (by decide) (by kernel_rfl) (by kernel_rfl) hx6 rfl (by decide) (fun a w ad3 cp4 S => ?_)
  refine sMove (.slice ad3 ([] : List api_Stitch).length cp4) S (wN rfl) (.inr rfl) (by kernel_rfl) rfl (by decide) (fun a S => ?_)
  refine leafL (leafT (hK2 _ _ ?_))
  obtain ⟨t10, h, g11⟩ := bindSome h
  refine sCut (fun a w => ∃ o7, o7 = t10 ∧ ∃ ad8, ∃ cp9, St [] E [] w0 18 a w [(5, .slice ad8 o7.length cp9)] [eRow r_api_Stitch 63 (.slice ad8 o7.length cp9) o7] []) ?_ (fun a w hI => ?_)
  · refine sSeq (fun K12 hK12 => ?_)
    refine sRegion ?_
    refine sMove (.int .i64 p1) S (wN rfl) (.inl rfl) (by kernel_rfl) rfl (by decide) (fun a S => ?_)
    refine sMove (.int .i64 0) S (wN rfl) (.inl rfl) (by kernel_rfl) rfl (by decide) (fun a S => ?_)
    refine leafL (leafT (hK12 _ _ ?_))
    refine wp_block ?_
    obtain ⟨t19, hl, g18⟩ := bindSome h
    refine sLoop hl (fun s0 a w => match s0 with | (s13, s16) => ∃ ad14, ∃ cp15, St [] E [] w0 18 a w [(0, .int .u8 p0), (5, .slice ad14 s13.length cp15), (8, .int .i64 p1), (9, .int .i64 s16)] [eRow r_api_Stitch 63 (.slice ad14 s13.length cp15) s13] []) ⟨ad3, cp4, S.fix [0] [] (by decide) (by kernel_rfl) (by kernel_rfl) (by kernel_rfl)⟩ ?_
    clear hl h
    intro s0 a w c0 hI h hu17
    obtain ⟨s13, s16⟩ := s0
    unfold short_several_l1 at h
    dsimp only at h hI
    obtain ⟨ad14, cp15, S⟩ := hI
    refine sSeq (fun K23 hK23 => ?_)
    refine sRegion ?_
    refine sBin (.bool (decide (s16 < p1))) S (wN rfl) rfl (by kernel_rfl) (by kernel_rfl) (bLt _ _ _ _ .i64 s16 p1) rfl (by decide) (fun a S => ?_)
    refine leafL (leafT (hK23 _ _ ?_))
    refine sSeq (fun K24 hK24 => ?_)
    rcases iteSome h with ⟨hc25, h⟩ | ⟨hc25, h⟩
    · refine sCondT (b := decide (s16 < p1)) S (by kernel_rfl) hc25 ?_
      refine wp_skip (leafT (hK24 _ _ ?_))
      refine sSeq (fun K26 hK26 => ?_)
      refine wp_block ?_
      refine sRegion ?_
      refine sMove (.slice ad14 s13.length cp15) S (wN rfl) (.inl rfl) (by kernel_rfl) rfl (by decide) (fun a S => ?_)
      refine sMove (.int .u8 p0) S (wN rfl) (.inl rfl) (by kernel_rfl) rfl (by decide) (fun a S => ?_)
      refine sBuild [(0, .int .u8 p0)] [.int .u8 p0, .bool false, .int .i64 0, .int .i64 0] S (wN rfl) rfl (by kernel_rfl) (by kernel_rfl) rfl (by decide) (fun a S => ?_)
      have S := S.learn (fRep r_api_Stitch (.agg #[.int .u8 p0, .bool false, .int .i64 0, .int .i64 0]) (api_Stitch.mk p0 false 0 0)) rfl
      refine sLit (r := r_api_Stitch) (T := 63) (xs := [(api_Stitch.mk p0 false 0 0)]) [(0, .agg #[.int .u8 p0, .bool false, .int .i64 0, .int .i64 0])] 1 [.agg #[.int .u8 p0, .bool false, .int .i64 0, .int .i64 0]] [.int .u8 p0, .bool false, .int .i64 0, .int .i64 0] (.agg #[.int .u8 0, .bool false, .int .i64 0, .int .i64 0]) 24 S (wN rfl) rfl (by kernel_rfl) Try.underlying55 (by kernel_rfl) (by decide) (by decide) (by kernel_rfl) rfl (fun E1 w1 hE => All.cons (r_api_Stitch.mono hE (S.mem.know (i := 0) (e := fRep r_api_Stitch (.agg #[.int .u8 p0, .bool false, .int .i64 0, .int .i64 0]) (api_Stitch.mk p0 false 0 0)) (by kernel_rfl))) (All.nil _ _ _)) rfl rfl (by decide) (fun a w ad27 cp28 S => ?_)
      obtain ⟨l29, hx30, h⟩ := bindSome h
      refine sApp (r := r_api_Stitch) (T := 63) (xs := s13) (ys := [(api_Stitch.mk p0 false 0 0)]) (v := .slice ad14 s13.length cp15) (u := .slice ad27 [(api_Stitch.mk p0 false 0 0)].length cp28) 1 (.agg #[.int .u8 0, .bool false, .int .i64 0, .int .i64 0]) 24 S (wN rfl) rfl Try.underlying55 (by kernel_rfl) rfl (by decide) (by kernel_rfl) (by kernel_rfl) (by kernel_rfl) (src_R (T := 63) 0 S.mem (by kernel_rfl)) hx30 rfl (by decide) (fun a w ad31 cp32 S => ?_)
      refine sMove (.slice ad31 l29.length cp32) S (wN rfl) (.inr rfl) (by kernel_rfl) rfl (by decide) (fun a S => ?_)
      refine leafL (leafB (leafT (hK26 _ _ ?_)))
      refine sRegion ?_
      refine sBin (.int .i64 (w64 (s16 + 1))) S (wN rfl) rfl (by kernel_rfl) (by kernel_rfl) (bAdd _ _ _ _ s16 1) rfl (by decide) (fun a S => ?_)
      refine sMove (.int .i64 (w64 (s16 + 1))) S (wN rfl) (.inl rfl) (by kernel_rfl) rfl (by decide) (fun a S => ?_)
      exact leafL (leafT (⟨(l29, w64 (s16 + 1)), (Option.some.inj h).symm, ⟨ad31, cp32, S.fix [0] [] (by decide) (by kernel_rfl) (by kernel_rfl) (by kernel_rfl)⟩⟩))
    · refine sCondF (b := decide (s16 < p1)) S (by kernel_rfl) hc25 ?_
      obtain rfl := Option.some.inj h
      obtain rfl := hu17 _ rfl
      have h := g18
      clear g18
      try dsimp only at h
      exact wp_exit (xThen (xThen (xHit (leafT (⟨s13, Option.some.inj h, ad14, cp15, S.fix [0] [] (by decide) (by kernel_rfl) (by kernel_rfl) (by kernel_rfl)⟩)))))
  · obtain ⟨o7, rfl, ad8, cp9, S⟩ := hI
    have h := g11
    clear g11
    try dsimp only at h
    refine sSeq (fun K33 hK33 => ?_)
    refine sRegion ?_
    refine sMove (.slice ad8 o7.length cp9) S (wN rfl) (.inl rfl) (by kernel_rfl) rfl (by decide) (fun a S => ?_)
    refine sMove (.slice ad8 o7.length cp9) S (wN rfl) (.inr rfl) (by kernel_rfl) rfl (by decide) (fun a S => ?_)
    refine leafL (leafT (hK33 _ _ ?_))
    obtain rfl := Option.some.inj h
    have S := S.shutR (r := r_api_Stitch) (T := 63) (v := .slice ad8 o7.length cp9) (xs := o7) 0 (by kernel_rfl)
    exact wp_ret (sRet (.slice ad8 o7.length cp9) S (rsl1 rfl (rvT (t := 4) (v := .slice ad8 o7.length cp9) S (by kernel_rfl))) ⟨(.slice ad8 o7.length cp9), rfl, S.mem.sel [] [0] (by decide) (by kernel_rfl) (by kernel_rfl)⟩)

end Go.Proofs.Ytoiehdlcfehmlaa
namespace Go.Proofs.Ytoiehdlcfehmlaa
open Go.RowKit
set_option linter.unusedVariables false

noncomputable def short_Chart_l1 (p1 : (List Int)) (p0 : Int) : (Int × List api_Row) → Option ((Int × List api_Row) ⊕ List api_Row) := fun s0 => match s0 with
  | (s20, s21) =>
    if decide (s20 < (p1.length : Int)) then
      Option.bind (idxO p1 s20) fun x35 =>
      Option.bind (F_short_several 1 x35) fun r41 =>
      Option.bind (F_short_several 8 (w64 (p0 - x35))) fun r46 =>
      Option.bind (F_short_joined [r41, r46]) fun r53 =>
      Option.bind (F_stitch_Turn r53) fun r59 =>
      Option.bind (appO s21 [(api_Row.mk false r53), (api_Row.mk true r59.1)]) fun l66 =>
      some (.inl (w64 (s20 + 1), l66))
    else
      some (.inr s21)
noncomputable def F_short_Chart (p0 : Int) (p1 : (List Int)) : Option (api_Chart × Int) :=
  Option.bind (F_short_check p0 p1) fun r7 =>
  if r7 != 0 then
    some ((api_Chart.mk 0 ([] : (List api_Row))), r7)
  else
    Option.bind (α := List api_Row) (
      Option.bind (whileO (short_Chart_l1 p1 p0) (0, ([] : List api_Row))) fun e27 =>
        some e27) fun o14 =>
    some ((api_Chart.mk p0 o14), 0)
def c_short_Chart_val (r : (api_Chart × Int)) (x : Value) : Value := .tuple #[x, .int .i64 r.2]
def c_short_Chart_D (r : (api_Chart × Int)) (x : Value) : List Fact := [fRep r_api_Chart x r.1]
set_option maxHeartbeats 4000000 in
set_option maxRecDepth 100000 in
theorem c_short_Chart (E : Nat → Prop) (w0 : World) (p0 : Int) (p1 : (List Int)) (v1 : Value) (r : (api_Chart × Int)) (h : F_short_Chart p0 p1 = some r) (S : St0 E [] w0 w0 [] [fRep (rL (rI .i64)) (v1) p1]) :
    Calls Try.prog 15 #[.int .i64 p0, v1] w0 (Ret (X := Value) E [] w0 (c_short_Chart_val r) (fun _ => []) (c_short_Chart_D r)) := by
  unfold F_short_Chart at h
  obtain ⟨ad1, cp2, _, rfl, _⟩ := S.know (i := 0) (e := fRep (rL (rI .i64)) (v1) p1) (by kernel_rfl)
  refine sEnter (args := [.int .i64 p0, .slice ad1 p1.length cp2]) 52 Try.func15 rfl rfl (by simp) S (fun a S => ?_)
  refine sSeq (fun K3 hK3 => ?_)
  refine sRegion ?_
  refine sAlloc (.agg #[.int .i64 0, .slice none 0 0]) S (wN rfl) rfl (by kernel_rfl) [.int .i64 0, .slice none 0 0] rfl rfl (by decide) (fun a b4 w S => ?_)
  refine sMove (.int .i64 0) S (wN rfl) (.inr rfl) (by kernel_rfl) rfl (by decide) (fun a S => ?_)
  refine leafL (leafT (hK3 _ _ ?_))
  refine sSeq (fun K5 hK5 => ?_)
  refine sSeq (fun K6 hK6 => ?_)
  refine sRegion ?_
  refine sMove (.int .i64 p0) S (wN rfl) (.inl rfl) (by kernel_rfl) rfl (by decide) (fun a S => ?_)
  refine sMove (.slice ad1 p1.length cp2) S (wN rfl) (.inl rfl) (by kernel_rfl) rfl (by decide) (fun a S => ?_)
  obtain ⟨r7, hx8, h⟩ := bindSome h
  have S1 := S.mem
  refine sCallQ (X := Unit) (f := 20) (vs := [.int .i64 p0, .slice ad1 p1.length cp2]) (val := fun _ => .int .i64 r7) S (wN rfl) rfl callee20 (by kernel_rfl) (S1.quiet [0] (by kernel_rfl)) (fun E1 w1 S1 => c_short_check E1 w1 p0 p1 (.slice ad1 p1.length cp2) r7 hx8 S1) rfl (by decide) (fun _ a w S => ?_)
  refine sMove (.int .i64 r7) S (wN rfl) (.inr rfl) (by kernel_rfl) rfl (by decide) (fun a S => ?_)
  refine leafL (leafT (hK6 _ _ ?_))
  refine sSeq (fun K9 hK9 => ?_)
  refine sRegion ?_
  refine sMove (.int .i64 r7) S (wN rfl) (.inl rfl) (by kernel_rfl) rfl (by decide) (fun a S => ?_)
  refine sBin (.bool (r7 != 0)) S (wN rfl) rfl (by kernel_rfl) (by kernel_rfl) (bNe _ _ _ _ .i64 r7 0) rfl (by decide) (fun a S => ?_)
  refine leafL (leafT (hK9 _ _ ?_))
  rcases iteSome h with ⟨hc10, h⟩ | ⟨hc10, h⟩
  · refine sCondT (b := r7 != 0) S (by kernel_rfl) hc10 ?_
    refine sSeq (fun K11 hK11 => ?_)
    refine sRegion ?_
    refine sBuild [] [.int .i64 0, .slice none 0 0] S (wN rfl) rfl (by kernel_rfl) (by kernel_rfl) rfl (by decide) (fun a S => ?_)
    refine sMove (.int .i64 r7) S (wN rfl) (.inl rfl) (by kernel_rfl) rfl (by decide) (fun a S => ?_)
    refine sStore (p := b4) (off := 0) (T := 40) (vs := [.int .i64 0, .slice none 0 0]) (v := .agg #[.int .i64 0, .slice none 0 0]) 0 [.int .i64 0, .slice none 0 0] S (wN rfl) rfl (by kernel_rfl) (by kernel_rfl) rfl (by kernel_rfl) (by kernel_rfl) rfl (by simp) rfl (fun a w S => ?_)
    refine sMove (.int .i64 r7) S (wN rfl) (.inr rfl) (by kernel_rfl) rfl (by decide) (fun a S => ?_)
    refine leafL (leafT (hK11 _ _ ?_))
    obtain rfl := Option.some.inj h
    have S := S.learn (fRep (rL r_api_Row) (.slice none 0 0) ([] : (List api_Row))) (rL_nil _ _ _)
    have S := S.learn (fRep r_api_Chart (.agg #[.int .i64 0, .slice none 0 0]) (api_Chart.mk 0 ([] : (List api_Row)))) ⟨_, rfl, S.mem.know (i := 0) (e := fRep (rL r_api_Row) (.slice none 0 0) ([] : (List api_Row))) (by kernel_rfl)⟩
    exact wp_ret (rThen (sRet (.tuple #[.agg #[.int .i64 0, .slice none 0 0], .int .i64 r7]) S (rsl2 rfl (rvN (c := 4) (t := 40) (T := 40) (p := b4) 0 [.int .i64 0, .slice none 0 0] S (by kernel_rfl) (by kernel_rfl) (by kernel_rfl) (by kernel_rfl)) (rvT (t := 5) (v := .int .i64 r7) S (by kernel_rfl))) ⟨(.agg #[.int .i64 0, .slice none 0 0]), rfl, S.mem.sel [] [0] (by decide) (by kernel_rfl) (by kernel_rfl)⟩))
  · refine sCondF (b := r7 != 0) S (by kernel_rfl) hc10 ?_
    refine wp_skip (leafT (hK5 _ _ ?_))
    refine sSeq (fun K12 hK12 => ?_)
    refine sRegion ?_
    refine sMove (.int .i64 p0) S (wN rfl) (.inl rfl) (by kernel_rfl) rfl (by decide) (fun a S => ?_)
    refine sBuild [(0, .int .i64 p0)] [.int .i64 p0, .slice none 0 0] S (wN rfl) rfl (by kernel_rfl) (by kernel_rfl) rfl (by decide) (fun a S => ?_)
    refine sAlloc (.agg #[.int .i64 0, .slice none 0 0]) S (wN rfl) rfl (by kernel_rfl) [.int .i64 0, .slice none 0 0] rfl rfl (by decide) (fun a b13 w S => ?_)
    refine sStore (p := b13) (off := 0) (T := 40) (vs := [.int .i64 0, .slice none 0 0]) (v := .agg #[.int .i64 p0, .slice none 0 0]) 0 [.int .i64 p0, .slice none 0 0] S (wN rfl) rfl (by kernel_rfl) (by kernel_rfl) rfl (by kernel_rfl) (by kernel_rfl) rfl (by simp) rfl (fun a w S => ?_)
    refine leafL (leafT (hK12 _ _ ?_))
    obtain ⟨t17, h, g18⟩ := bindSome h
    refine sCut (fun a w => ∃ o14, o14 = t17 ∧ ∃ ad15, ∃ cp16, St [] E [] w0 52 a w [(4, .pointer (some ⟨b4, 0, none⟩)), (7, .pointer (some ⟨b13, 0, none⟩))] [eBox b4 40 [.int .i64 0, .slice none 0 0], eBox b13 40 [.int .i64 p0, .slice ad15 o14.length cp16], eRow r_api_Row 57 (.slice ad15 o14.length cp16) o14] []) ?_ (fun a w hI => ?_)
    · refine sSeq (fun K19 hK19 => ?_)
      refine sRegion ?_
      refine sMove (.slice ad1 p1.length cp2) S (wN rfl) (.inl rfl) (by kernel_rfl) rfl (by decide) (fun a S => ?_)
      refine sLen (ad := ad1) (m := p1.length) (c := cp2) S (wN rfl) rfl Try.underlying22 (by kernel_rfl) rfl (by decide) (fun a S => ?_)
      refine sMove (.int .i64 0) S (wN rfl) (.inl rfl) (by kernel_rfl) rfl (by decide) (fun a S => ?_)
      refine leafL (leafT (hK19 _ _ ?_))
      refine wp_block ?_
      have S := S.nilRow r_api_Row 57 (α := api_Row)
      obtain ⟨t26, hl, g25⟩ := bindSome h
      refine sLoop hl (fun s0 a w => match s0 with | (s20, s21) => ∃ ad22, ∃ cp23, St [] E [] w0 52 a w [(0, .int .i64 p0), (4, .pointer (some ⟨b4, 0, none⟩)), (7, .pointer (some ⟨b13, 0, none⟩)), (22, .slice ad1 p1.length cp2), (23, .int .i64 (p1.length : Int)), (24, .int .i64 s20)] [eBox b4 40 [.int .i64 0, .slice none 0 0], eBox b13 40 [.int .i64 p0, .slice ad22 s21.length cp23], eRow r_api_Row 57 (.slice ad22 s21.length cp23) s21] [fRep (rL (rI .i64)) (.slice ad1 p1.length cp2) p1]) ⟨none, 0, S.fix [2, 1, 0] [0] (by decide) (by kernel_rfl) (by kernel_rfl) (by kernel_rfl)⟩ ?_
      clear hl h
      intro s0 a w c0 hI h hu24
      obtain ⟨s20, s21⟩ := s0
      unfold short_Chart_l1 at h
      dsimp only at h hI
      obtain ⟨ad22, cp23, S⟩ := hI
      refine sSeq (fun K30 hK30 => ?_)
      refine sRegion ?_
      refine sBin (.bool (decide (s20 < (p1.length : Int)))) S (wN rfl) rfl (by kernel_rfl) (by kernel_rfl) (bLt _ _ _ _ .i64 s20 (p1.length : Int)) rfl (by decide) (fun a S => ?_)
      refine leafL (leafT (hK30 _ _ ?_))
      refine sSeq (fun K31 hK31 => ?_)
      rcases iteSome h with ⟨hc32, h⟩ | ⟨hc32, h⟩
      · refine sCondT (b := decide (s20 < (p1.length : Int))) S (by kernel_rfl) hc32 ?_
        refine wp_skip (leafT (hK31 _ _ ?_))
        refine sSeq (fun K33 hK33 => ?_)
        refine wp_block ?_
        refine sSeq (fun K34 hK34 => ?_)
        refine sRegion ?_
        obtain ⟨x35, hx36, h⟩ := bindSome h
        obtain ⟨q37, hq38, S⟩ := pIdx (P := Try.prog) (r := (rI .i64)) (v := .slice ad1 p1.length cp2) (xs := p1) (j := s20) 22 3 0 S Try.underlying22 (by kernel_rfl) (by kernel_rfl) hx36
        refine sIdxV (v := .slice ad1 p1.length cp2) (k := .i64) (j := s20) S (wN rfl) rfl (by kernel_rfl) (by kernel_rfl) hq38 rfl (by decide) (fun a S => ?_)
        obtain ⟨u39, S⟩ := pLoad (r := (rI .i64)) (q := q37) (x := x35) 0 S (by kernel_rfl)
        obtain rfl : u39 = .int .i64 x35 := S.mem.know (i := 1) (e := fRep (rI .i64) (u39) x35) (by kernel_rfl)
        refine sLoadV1 (vq := q37) 0 (.int .i64 x35) S (wN rfl) rfl (by kernel_rfl) (by kernel_rfl) (by kernel_rfl) rfl (by decide) (fun a S => ?_)
        refine sMove (.int .i64 x35) S (wN rfl) (.inr rfl) (by kernel_rfl) rfl (by decide) (fun a S => ?_)
        refine leafL (leafT (hK34 _ _ ?_))
        refine sSeq (fun K40 hK40 => ?_)
        refine sRegion ?_
        refine sMove (.int .i64 x35) S (wN rfl) (.inl rfl) (by kernel_rfl) rfl (by decide) (fun a S => ?_)
        obtain ⟨r41, hx42, h⟩ := bindSome h
        refine sCall (X := Value) (f := 24) (vs := [.int .u8 1, .int .i64 x35]) (val := c_short_several_val r41) (B' := fun _ => []) (D' := c_short_several_D r41) [] [eBox b4 40 [.int .i64 0, .slice none 0 0], eBox b13 40 [.int .i64 p0, .slice ad22 s21.length cp23], eRow r_api_Row 57 (.slice ad22 s21.length cp23) s21] [] [0, 1, 2] [] S (wN rfl) rfl callee24 (by kernel_rfl) (by decide) (by kernel_rfl) (by kernel_rfl) (fun E1 w1 S1 => c_short_several E1 w1 1 x35 r41 hx42 S1) rfl (by decide) (fun u43 a w S => ?_)
        obtain ⟨ad44, cp45, _, rfl, _⟩ := S.mem.know (i := 0) (e := fRep (rL r_api_Stitch) (u43) r41) (by kernel_rfl)
        refine sMove (.int .i64 p0) S (wN rfl) (.inl rfl) (by kernel_rfl) rfl (by decide) (fun a S => ?_)
        refine sMove (.int .i64 x35) S (wN rfl) (.inl rfl) (by kernel_rfl) rfl (by decide) (fun a S => ?_)
        refine sBin (.int .i64 (w64 (p0 - x35))) S (wN rfl) rfl (by kernel_rfl) (by kernel_rfl) (bSub _ _ _ _ p0 x35) rfl (by decide) (fun a S => ?_)
        obtain ⟨r46, hx47, h⟩ := bindSome h
        refine sCall (X := Value) (f := 24) (vs := [.int .u8 8, .int .i64 (w64 (p0 - x35))]) (val := c_short_several_val r46) (B' := fun _ => []) (D' := c_short_several_D r46) [] [eBox b4 40 [.int .i64 0, .slice none 0 0], eBox b13 40 [.int .i64 p0, .slice ad22 s21.length cp23], eRow r_api_Row 57 (.slice ad22 s21.length cp23) s21] [] [0, 1, 2] [] S (wN rfl) rfl callee24 (by kernel_rfl) (by decide) (by kernel_rfl) (by kernel_rfl) (fun E1 w1 S1 => c_short_several E1 w1 8 (w64 (p0 - x35)) r46 hx47 S1) rfl (by decide) (fun u48 a w S => ?_)
        obtain ⟨ad49, cp50, _, rfl, _⟩ := S.mem.know (i := 0) (e := fRep (rL r_api_Stitch) (u48) r46) (by kernel_rfl)
        refine sLit (r := (rL r_api_Stitch)) (T := 55) (xs := [r41, r46]) [(0, .slice ad44 r41.length cp45), (1, .slice ad49 r46.length cp50)] 2 [.slice ad44 r41.length cp45, .slice ad49 r46.length cp50] [.slice ad44 r41.length cp45, .slice ad49 r46.length cp50] (.slice none 0 0) 24 S (wN rfl) rfl (by kernel_rfl) Try.underlying67 (by kernel_rfl) (by decide) (by decide) (by kernel_rfl) rfl (fun E1 w1 hE => All.cons ((rL r_api_Stitch).mono hE (S.mem.know (i := 1) (e := fRep (rL r_api_Stitch) (.slice ad44 r41.length cp45) r41) (by kernel_rfl))) (All.cons ((rL r_api_Stitch).mono hE (S.mem.know (i := 0) (e := fRep (rL r_api_Stitch) (.slice ad49 r46.length cp50) r46) (by kernel_rfl))) (All.nil _ _ _))) rfl rfl (by decide) (fun a w ad51 cp52 S => ?_)
        obtain ⟨r53, hx54, h⟩ := bindSome h
        have S := S.shutR (r := (rL r_api_Stitch)) (T := 55) (v := .slice ad51 [r41, r46].length cp52) (xs := [r41, r46]) 0 (by kernel_rfl)
        refine sCall (X := Value) (f := 23) (vs := [.slice ad51 [r41, r46].length cp52]) (val := c_short_joined_val r53) (B' := fun _ => []) (D' := c_short_joined_D r53) [] [eBox b4 40 [.int .i64 0, .slice none 0 0], eBox b13 40 [.int .i64 p0, .slice ad22 s21.length cp23], eRow r_api_Row 57 (.slice ad22 s21.length cp23) s21] [fRep (rL (rL r_api_Stitch)) (.slice ad51 [r41, r46].length cp52) [r41, r46]] [0, 1, 2] [0] S (wN rfl) rfl callee23 (by kernel_rfl) (by decide) (by kernel_rfl) (by kernel_rfl) (fun E1 w1 S1 => c_short_joined E1 w1 [r41, r46] (.slice ad51 [r41, r46].length cp52) r53 hx54 S1) rfl (by decide) (fun u55 a w S => ?_)
        obtain ⟨ad56, cp57, _, rfl, _⟩ := S.mem.know (i := 0) (e := fRep (rL r_api_Stitch) (u55) r53) (by kernel_rfl)
        refine sMove (.slice ad56 r53.length cp57) S (wN rfl) (.inr rfl) (by kernel_rfl) rfl (by decide) (fun a S => ?_)
        refine leafL (leafT (hK40 _ _ ?_))
        refine sSeq (fun K58 hK58 => ?_)
        refine sRegion ?_
        refine sMove (.slice ad56 r53.length cp57) S (wN rfl) (.inl rfl) (by kernel_rfl) rfl (by decide) (fun a S => ?_)
        obtain ⟨r59, hx60, h⟩ := bindSome h
        refine sCall (X := Value) (f := 25) (vs := [.slice ad56 r53.length cp57]) (val := c_stitch_Turn_val r59) (B' := fun _ => []) (D' := c_stitch_Turn_D r59) [] [eBox b4 40 [.int .i64 0, .slice none 0 0], eBox b13 40 [.int .i64 p0, .slice ad22 s21.length cp23], eRow r_api_Row 57 (.slice ad22 s21.length cp23) s21] [fRep (rL r_api_Stitch) (.slice ad56 r53.length cp57) r53] [0, 1, 2] [0] S (wN rfl) rfl callee25 (by kernel_rfl) (by decide) (by kernel_rfl) (by kernel_rfl) (fun E1 w1 S1 => c_stitch_Turn E1 w1 r53 (.slice ad56 r53.length cp57) r59 hx60 S1) rfl (by decide) (fun u61 a w S => ?_)
        obtain ⟨ad62, cp63, _, rfl, _⟩ := S.mem.know (i := 0) (e := fRep (rL r_api_Stitch) (u61) r59.1) (by kernel_rfl)
        refine sMove (.tuple #[.slice ad62 r59.1.length cp63, .int .i64 r59.2]) S (wN rfl) (.inl rfl) (by kernel_rfl) rfl (by decide) (fun a S => ?_)
        refine sExtract (vs := [.slice ad62 r59.1.length cp63, .int .i64 r59.2]) (.slice ad62 r59.1.length cp63) S (wN rfl) rfl (by kernel_rfl) rfl rfl (by decide) (fun a S => ?_)
        refine sExtract (vs := [.slice ad62 r59.1.length cp63, .int .i64 r59.2]) (.int .i64 r59.2) S (wN rfl) rfl (by kernel_rfl) rfl rfl (by decide) (fun a S => ?_)
        refine sMove (.slice ad62 r59.1.length cp63) S (wN rfl) (.inr rfl) (by kernel_rfl) rfl (by decide) (fun a S => ?_)
        refine sMove (.int .i64 r59.2) S (wN rfl) (.inr rfl) (by kernel_rfl) rfl (by decide) (fun a S => ?_)
        refine leafL (leafT (hK58 _ _ ?_))
        refine sRegion ?_
        refine sField (b := b13) (off := 0) 1 1 S (wN rfl) rfl (by kernel_rfl) (by kernel_rfl) rfl rfl (by decide) (fun a S => ?_)
        refine sLoad1 (p := b13) (off := 1) (T := 40) (vs := [.int .i64 p0, .slice ad22 s21.length cp23]) 1 (.slice ad22 s21.length cp23) S (wN rfl) rfl (by kernel_rfl) (by kernel_rfl) (by kernel_rfl) rfl rfl (by decide) (fun a S => ?_)
        refine sMove (.slice ad56 r53.length cp57) S (wN rfl) (.inl rfl) (by kernel_rfl) rfl (by decide) (fun a S => ?_)
        refine sBuild [(1, .slice ad56 r53.length cp57)] [.bool false, .slice ad56 r53.length cp57] S (wN rfl) rfl (by kernel_rfl) (by kernel_rfl) rfl (by decide) (fun a S => ?_)
        refine sMove (.slice ad62 r59.1.length cp63) S (wN rfl) (.inl rfl) (by kernel_rfl) rfl (by decide) (fun a S => ?_)
        refine sBuild [(0, .bool true), (1, .slice ad62 r59.1.length cp63)] [.bool true, .slice ad62 r59.1.length cp63] S (wN rfl) rfl (by kernel_rfl) (by kernel_rfl) rfl (by decide) (fun a S => ?_)
        have S := S.learn (fRep r_api_Row (.agg #[.bool false, .slice ad56 r53.length cp57]) (api_Row.mk false r53)) ⟨_, rfl, S.mem.know (i := 1) (e := fRep (rL r_api_Stitch) (.slice ad56 r53.length cp57) r53) (by kernel_rfl)⟩
        have S := S.learn (fRep r_api_Row (.agg #[.bool true, .slice ad62 r59.1.length cp63]) (api_Row.mk true r59.1)) ⟨_, rfl, S.mem.know (i := 1) (e := fRep (rL r_api_Stitch) (.slice ad62 r59.1.length cp63) r59.1) (by kernel_rfl)⟩
        refine sLit (r := r_api_Row) (T := 57) (xs := [(api_Row.mk false r53), (api_Row.mk true r59.1)]) [(0, .agg #[.bool false, .slice ad56 r53.length cp57]), (1, .agg #[.bool true, .slice ad62 r59.1.length cp63])] 2 [.agg #[.bool false, .slice ad56 r53.length cp57], .agg #[.bool true, .slice ad62 r59.1.length cp63]] [.bool false, .slice ad56 r53.length cp57, .bool true, .slice ad62 r59.1.length cp63] (.agg #[.bool false, .slice none 0 0]) 32 S (wN rfl) rfl (by kernel_rfl) Try.underlying38 (by kernel_rfl) (by decide) (by decide) (by kernel_rfl) rfl (fun E1 w1 hE => All.cons (r_api_Row.mono hE (S.mem.know (i := 1) (e := fRep r_api_Row (.agg #[.bool false, .slice ad56 r53.length cp57]) (api_Row.mk false r53)) (by kernel_rfl))) (All.cons (r_api_Row.mono hE (S.mem.know (i := 0) (e := fRep r_api_Row (.agg #[.bool true, .slice ad62 r59.1.length cp63]) (api_Row.mk true r59.1)) (by kernel_rfl))) (All.nil _ _ _))) rfl rfl (by decide) (fun a w ad64 cp65 S => ?_)
        obtain ⟨l66, hx67, h⟩ := bindSome h
        refine sApp (r := r_api_Row) (T := 57) (xs := s21) (ys := [(api_Row.mk false r53), (api_Row.mk true r59.1)]) (v := .slice ad22 s21.length cp23) (u := .slice ad64 [(api_Row.mk false r53), (api_Row.mk true r59.1)].length cp65) 3 (.agg #[.bool false, .slice none 0 0]) 32 S (wN rfl) rfl Try.underlying38 (by kernel_rfl) rfl (by decide) (by kernel_rfl) (by kernel_rfl) (by kernel_rfl) (src_R (T := 57) 0 S.mem (by kernel_rfl)) hx67 rfl (by decide) (fun a w ad68 cp69 S => ?_)
        refine sField (b := b13) (off := 0) 1 1 S (wN rfl) rfl (by kernel_rfl) (by kernel_rfl) rfl rfl (by decide) (fun a S => ?_)
        refine sStore (p := b13) (off := 1) (T := 40) (vs := [.int .i64 p0, .slice ad22 s21.length cp23]) (v := .slice ad68 l66.length cp69) 3 [.slice ad68 l66.length cp69] S (wN rfl) rfl (by kernel_rfl) (by kernel_rfl) rfl (by kernel_rfl) (by kernel_rfl) rfl (by simp) rfl (fun a w S => ?_)
        refine leafL (leafB (leafT (hK33 _ _ ?_)))
        refine sRegion ?_
        refine sBin (.int .i64 (w64 (s20 + 1))) S (wN rfl) rfl (by kernel_rfl) (by kernel_rfl) (bAdd _ _ _ _ s20 1) rfl (by decide) (fun a S => ?_)
        refine sMove (.int .i64 (w64 (s20 + 1))) S (wN rfl) (.inl rfl) (by kernel_rfl) rfl (by decide) (fun a S => ?_)
        exact leafL (leafT (⟨(w64 (s20 + 1), l66), (Option.some.inj h).symm, ⟨ad68, cp69, S.fix [3, 0, 1] [10] (by decide) (by kernel_rfl) (by kernel_rfl) (by kernel_rfl)⟩⟩))
      · refine sCondF (b := decide (s20 < (p1.length : Int))) S (by kernel_rfl) hc32 ?_
        obtain rfl := Option.some.inj h
        obtain rfl := hu24 _ rfl
        have h := g25
        clear g25
        try dsimp only at h
        exact wp_exit (xThen (xThen (xHit (leafT (⟨s21, Option.some.inj h, ad22, cp23, S.fix [0, 1, 2] [] (by decide) (by kernel_rfl) (by kernel_rfl) (by kernel_rfl)⟩)))))
    · obtain ⟨o14, rfl, ad15, cp16, S⟩ := hI
      have h := g18
      clear g18
      try dsimp only at h
      refine sSeq (fun K70 hK70 => ?_)
      refine sRegion ?_
      refine sLoadN (p := b13) (off := 0) (T := 40) (vs := [.int .i64 p0, .slice ad15 o14.length cp16]) 1 [.int .i64 p0, .slice ad15 o14.length cp16] S (wN rfl) rfl (by kernel_rfl) (by kernel_rfl) (by kernel_rfl) (by kernel_rfl) rfl rfl (by decide) (fun a S => ?_)
      refine sStore (p := b4) (off := 0) (T := 40) (vs := [.int .i64 0, .slice none 0 0]) (v := .agg #[.int .i64 p0, .slice ad15 o14.length cp16]) 0 [.int .i64 p0, .slice ad15 o14.length cp16] S (wN rfl) rfl (by kernel_rfl) (by kernel_rfl) rfl (by kernel_rfl) (by kernel_rfl) rfl (by simp) rfl (fun a w S => ?_)
      refine sMove (.int .i64 0) S (wN rfl) (.inr rfl) (by kernel_rfl) rfl (by decide) (fun a S => ?_)
      refine leafL (leafT (hK70 _ _ ?_))
      obtain rfl := Option.some.inj h
      have S := S.shutR (r := r_api_Row) (T := 57) (v := .slice ad15 o14.length cp16) (xs := o14) 2 (by kernel_rfl)
      have S := S.learn (fRep r_api_Chart (.agg #[.int .i64 p0, .slice ad15 o14.length cp16]) (api_Chart.mk p0 o14)) ⟨_, rfl, S.mem.know (i := 0) (e := fRep (rL r_api_Row) (.slice ad15 o14.length cp16) o14) (by kernel_rfl)⟩
      exact wp_ret (sRet (.tuple #[.agg #[.int .i64 p0, .slice ad15 o14.length cp16], .int .i64 0]) S (rsl2 rfl (rvN (c := 4) (t := 40) (T := 40) (p := b4) 0 [.int .i64 p0, .slice ad15 o14.length cp16] S (by kernel_rfl) (by kernel_rfl) (by kernel_rfl) (by kernel_rfl)) (rvT (t := 5) (v := .int .i64 0) S (by kernel_rfl))) ⟨(.agg #[.int .i64 p0, .slice ad15 o14.length cp16]), rfl, S.mem.sel [] [0] (by decide) (by kernel_rfl) (by kernel_rfl)⟩)

end Go.Proofs.Ytoiehdlcfehmlaa
namespace Go.Proofs.Ytoiehdlcfehmlaa
open Go.RowKit
set_option linter.unusedVariables false

def anc_short_Read_0 : List (List Nat) := [[], [0], [], [2], [], [2, 3, 4], [2, 3, 4, 5], [2, 3, 4, 5, 6], [0, 1, 2, 3, 4, 5, 6, 7], [0, 1, 2, 3, 4, 5, 6, 7, 8], [0, 1, 2, 3, 4, 5, 6, 7, 8, 9], [0, 1, 2, 3, 4, 5, 6, 7, 8, 9, 10], [0, 1, 2, 3, 4, 5, 6, 7, 8, 9], [0, 1, 2, 3, 4, 5, 6, 7, 8, 9, 12], [0, 1, 2, 3, 4, 5, 6, 7, 8, 9], [0, 1, 2, 3, 4, 5, 6, 7, 8, 9, 12, 13, 14], [0, 1, 2, 3, 4, 5, 6, 7, 8, 9, 12, 13, 14, 15], [0, 1, 2, 3, 4, 5, 6, 7, 8, 9, 12, 13, 14, 15, 16], [0, 1, 2, 3, 4, 5, 6, 7, 8, 9, 10, 11, 12, 13, 14, 15, 16, 17], [0, 1, 2, 3, 4, 5, 6, 7, 8, 9, 10, 11, 12, 13, 14, 15, 16, 17, 18], [0, 1, 2, 3, 4, 5, 6, 7, 8, 9, 10, 11, 12, 13, 14, 15, 16, 17, 18, 19]]
noncomputable def short_Read_l1 (s29 : Int) (x46 : api_Row) : List Int → Option (List Int ⊕ List Int) := fun s0 => match s0 with
  | s55 =>
    Option.bind (α := Bool) (
      Option.bind (idxO s55 s29) fun x68 =>
      if decide (x68 < (x46.Cells.length : Int)) then
        Option.bind (idxO x46.Cells x68) fun x77 =>
        some (x77.Kind == 1)
      else
        some false) fun o65 =>
    if o65 then
      Option.bind (idxO s55 s29) fun x85 =>
      Option.bind (setO s55 s29 (w64 (x85 + 1))) fun l93 =>
      some (.inl l93)
    else
      some (.inr s55)
noncomputable def short_Read_l2 (m18 : List Int) (p0 : api_Chart) : (List Int × Int) → Option ((List Int × Int) ⊕ List Int) := fun s0 => match s0 with
  | (s26, s29) =>
    if decide (s29 < (m18.length : Int)) then
      Option.bind (α := List Int) (
        Option.bind (idxO p0.Rows (w64 (2 * s29))) fun x46 =>
        Option.bind (whileO (short_Read_l1 s29 x46) s26) fun e61 =>
          some e61) fun o39 =>
      some (.inl (o39, w64 (s29 + 1)))
    else
      some (.inr s26)
noncomputable def short_Read_l3 (p0 : api_Chart) (r96 : (api_Chart × Int)) : Int → Option (Int ⊕ ((Int × (List Int) × Int) ⊕ Unit)) := fun s0 => match s0 with
  | s111 =>
    if decide (s111 < (p0.Rows.length : Int)) then
      Option.bind (idxO p0.Rows s111) fun x120 =>
      Option.bind (α := Bool) (
        Option.bind (idxO r96.1.Rows s111) fun x133 =>
        if x120.Back != x133.Back then
          some true
        else
          Option.bind (F_stitch_Same x120.Cells x133.Cells) fun r153 =>
          some (!r153)) fun o130 =>
      if o130 then
        some (.inr (.inl (0, ([] : (List Int)), 8)))
      else
        some (.inl (w64 (s111 + 1)))
    else
      some (.inr (.inr ()))
noncomputable def F_short_Read (p0 : api_Chart) : Option (Int × (List Int) × Int) :=
  Option.bind (remI (p0.Rows.length : Int) 2) fun z9 =>
  if z9 == 1 then
    some (0, ([] : (List Int)), 8)
  else
    Option.bind (quoI (p0.Rows.length : Int) 2) fun z14 =>
    Option.bind (makeO z14 (0 : Int)) fun m18 =>
    Option.bind (α := List Int) (
      Option.bind (whileO (short_Read_l2 m18 p0) (m18, 0)) fun e33 =>
        some e33) fun o20 =>
    Option.bind (F_short_Chart p0.Start o20) fun r96 =>
    if r96.2 != 0 then
      some (0, ([] : (List Int)), 8)
    else
      Option.bind (α := Unit ⊕ (Int × (List Int) × Int)) (
        Option.bind (whileO (short_Read_l3 p0 r96) 0) fun z0 => match z0 with
          | .inl z =>
            some (.inr z)
          | .inr _ =>
            some (.inl ())) fun z0 => match z0 with
        | .inl _ =>
          some (p0.Start, o20, 0)
        | .inr z =>
          some z
def c_short_Read_val (r : (Int × (List Int) × Int)) (x : Value) : Value := .tuple #[.int .i64 r.1, x, .int .i64 r.2.2]
def c_short_Read_D (r : (Int × (List Int) × Int)) (x : Value) : List Fact := [fRep (rL (rI .i64)) x r.2.1]
set_option maxHeartbeats 4000000 in
set_option maxRecDepth 100000 in
theorem c_short_Read (E : Nat → Prop) (w0 : World) (p0 : api_Chart) (v0 : Value) (r : (Int × (List Int) × Int)) (h : F_short_Read p0 = some r) (S : St0 E [] w0 w0 [] [fRep r_api_Chart (v0) p0]) :
    Calls Try.prog 17 #[v0] w0 (Ret (X := Value) E [] w0 (c_short_Read_val r) (fun _ => []) (c_short_Read_D r)) := by
  unfold F_short_Read at h
  obtain ⟨u1, rfl, hu2⟩ := S.know (i := 0) (e := fRep r_api_Chart (v0) p0) (by kernel_rfl)
  have S := S.learn (fRep (rL r_api_Row) u1 p0.Rows) hu2
  obtain ⟨ad3, cp4, _, rfl, _⟩ := hu2
  refine sEnter (args := [.agg #[.int .i64 p0.Start, .slice ad3 p0.Rows.length cp4]]) 101 Try.func17 rfl rfl (by simp) S (fun a S => ?_)
  refine sSeq (fun K5 hK5 => ?_)
  refine sRegion ?_
  refine sBox (v := .agg #[.int .i64 p0.Start, .slice ad3 p0.Rows.length cp4]) S (wN rfl) rfl (by kernel_rfl) [.int .i64 p0.Start, .slice ad3 p0.Rows.length cp4] rfl rfl (by decide) (fun a b6 w S => ?_)
  refine sMove (.int .i64 0) S (wN rfl) (.inr rfl) (by kernel_rfl) rfl (by decide) (fun a S => ?_)
  refine sMove (.slice none 0 0) S (wN rfl) (.inr rfl) (by kernel_rfl) rfl (by decide) (fun a S => ?_)
  refine sMove (.int .i64 0) S (wN rfl) (.inr rfl) (by kernel_rfl) rfl (by decide) (fun a S => ?_)
  refine leafL (leafT (hK5 _ _ ?_))
  refine sSeq (fun K7 hK7 => ?_)
  refine sSeq (fun K8 hK8 => ?_)
  refine sRegion ?_
  refine sField (b := b6) (off := 0) 1 1 S (wN rfl) rfl (by kernel_rfl) (by kernel_rfl) rfl rfl (by decide) (fun a S => ?_)
  refine sLoad1 (p := b6) (off := 1) (T := 40) (vs := [.int .i64 p0.Start, .slice ad3 p0.Rows.length cp4]) 0 (.slice ad3 p0.Rows.length cp4) S (wN rfl) rfl (by kernel_rfl) (by kernel_rfl) (by kernel_rfl) rfl rfl (by decide) (fun a S => ?_)
  refine sLen (ad := ad3) (m := p0.Rows.length) (c := cp4) S (wN rfl) rfl Try.underlying38 (by kernel_rfl) rfl (by decide) (fun a S => ?_)
  obtain ⟨z9, hx10, h⟩ := bindSome h
  refine sBin (.int .i64 z9) S (wN rfl) rfl (by kernel_rfl) (by kernel_rfl) (bRem _ _ _ _ (x := (p0.Rows.length : Int)) (y := 2) hx10) rfl (by decide) (fun a S => ?_)
  refine sBin (.bool (z9 == 1)) S (wN rfl) rfl (by kernel_rfl) (by kernel_rfl) (bEq _ _ _ _ .i64 z9 1) rfl (by decide) (fun a S => ?_)
  refine leafL (leafT (hK8 _ _ ?_))
  rcases iteSome h with ⟨hc11, h⟩ | ⟨hc11, h⟩
  · refine sCondT (b := z9 == 1) S (by kernel_rfl) hc11 ?_
    refine sSeq (fun K12 hK12 => ?_)
    refine sRegion ?_
    refine sMove (.int .i64 0) S (wN rfl) (.inr rfl) (by kernel_rfl) rfl (by decide) (fun a S => ?_)
    refine sMove (.slice none 0 0) S (wN rfl) (.inr rfl) (by kernel_rfl) rfl (by decide) (fun a S => ?_)
    refine sMove (.int .i64 8) S (wN rfl) (.inr rfl) (by kernel_rfl) rfl (by decide) (fun a S => ?_)
    refine leafL (leafT (hK12 _ _ ?_))
    obtain rfl := Option.some.inj h
    have S := S.learn (fRep (rL (rI .i64)) (.slice none 0 0) ([] : (List Int))) (rL_nil _ _ _)
    exact wp_ret (rThen (sRet (.tuple #[.int .i64 0, .slice none 0 0, .int .i64 8]) S (rsl3 rfl (rvT (t := 2) (v := .int .i64 0) S (by kernel_rfl)) (rvT (t := 3) (v := .slice none 0 0) S (by kernel_rfl)) (rvT (t := 4) (v := .int .i64 8) S (by kernel_rfl))) ⟨(.slice none 0 0), rfl, S.mem.sel [] [0] (by decide) (by kernel_rfl) (by kernel_rfl)⟩))
  · refine sCondF (b := z9 == 1) S (by kernel_rfl) hc11 ?_
    refine wp_skip (leafT (hK7 _ _ ?_))
    refine sSeq (fun K13 hK13 => ?_)
    refine sRegion ?_
    refine sField (b := b6) (off := 0) 1 1 S (wN rfl) rfl (by kernel_rfl) (by kernel_rfl) rfl rfl (by decide) (fun a S => ?_)
    refine sLoad1 (p := b6) (off := 1) (T := 40) (vs := [.int .i64 p0.Start, .slice ad3 p0.Rows.length cp4]) 0 (.slice ad3 p0.Rows.length cp4) S (wN rfl) rfl (by kernel_rfl) (by kernel_rfl) (by kernel_rfl) rfl rfl (by decide) (fun a S => ?_)
    refine sLen (ad := ad3) (m := p0.Rows.length) (c := cp4) S (wN rfl) rfl Try.underlying38 (by kernel_rfl) rfl (by decide) (fun a S => ?_)
    obtain ⟨z14, hx15, h⟩ := bindSome h
    refine sBin (.int .i64 z14) S (wN rfl) rfl (by kernel_rfl) (by kernel_rfl) (bQuo _ _ _ _ (x := (p0.Rows.length : Int)) (y := 2) hx15) rfl (by decide) (fun a S => ?_)
    obtain ⟨m18, hx19, h⟩ := bindSome h
    refine sMake (r := (rI .i64)) (m := z14) (xs := m18) (.int .i64 0) (0 : Int) 8 S (wN rfl) rfl Try.underlying22 (by kernel_rfl) rfl (by decide) (fun _ _ => rfl) (by kernel_rfl) (by kernel_rfl) hx19 rfl (by decide) (fun a w ad16 cp17 S => ?_)
    refine sMove (.slice ad16 m18.length cp17) S (wN rfl) (.inr rfl) (by kernel_rfl) rfl (by decide) (fun a S => ?_)
    refine leafL (leafT (hK13 _ _ ?_))
    obtain ⟨t23, h, g24⟩ := bindSome h
    refine sCut (fun a w => ∃ o20, o20 = t23 ∧ ∃ ad21, ∃ cp22, St [] E [] w0 101 a w [(1, .pointer (some ⟨b6, 0, none⟩)), (5, .slice ad21 o20.length cp22)] [eBox b6 40 [.int .i64 p0.Start, .slice ad3 p0.Rows.length cp4], eRow (rI .i64) 3 (.slice ad21 o20.length cp22) o20] [fRep (rL r_api_Row) (.slice ad3 p0.Rows.length cp4) p0.Rows]) ?_ (fun a w hI => ?_)
    · refine sSeq (fun K25 hK25 => ?_)
      refine sRegion ?_
      refine sMove (.slice ad16 m18.length cp17) S (wN rfl) (.inl rfl) (by kernel_rfl) rfl (by decide) (fun a S => ?_)
      refine sLen (ad := ad16) (m := m18.length) (c := cp17) S (wN rfl) rfl Try.underlying22 (by kernel_rfl) rfl (by decide) (fun a S => ?_)
      refine sMove (.int .i64 0) S (wN rfl) (.inl rfl) (by kernel_rfl) rfl (by decide) (fun a S => ?_)
      refine leafL (leafT (hK25 _ _ ?_))
      refine wp_block ?_
      obtain ⟨t32, hl, g31⟩ := bindSome h
      refine sLoop hl (fun s0 a w => match s0 with | (s26, s29) => ∃ ad27, ∃ cp28, St [] E [] w0 101 a w [(1, .pointer (some ⟨b6, 0, none⟩)), (5, .slice ad27 s26.length cp28), (23, .int .i64 (m18.length : Int)), (24, .int .i64 s29)] [eBox b6 40 [.int .i64 p0.Start, .slice ad3 p0.Rows.length cp4], eRow (rI .i64) 3 (.slice ad27 s26.length cp28) s26] [fRep (rL r_api_Row) (.slice ad3 p0.Rows.length cp4) p0.Rows]) ⟨ad16, cp17, S.fix [1, 0] [0] (by decide) (by kernel_rfl) (by kernel_rfl) (by kernel_rfl)⟩ ?_
      clear hl h
      intro s0 a w c0 hI h hu30
      obtain ⟨s26, s29⟩ := s0
      unfold short_Read_l2 at h
      dsimp only at h hI
      obtain ⟨ad27, cp28, S⟩ := hI
      refine sSeq (fun K36 hK36 => ?_)
      refine sRegion ?_
      refine sBin (.bool (decide (s29 < (m18.length : Int)))) S (wN rfl) rfl (by kernel_rfl) (by kernel_rfl) (bLt _ _ _ _ .i64 s29 (m18.length : Int)) rfl (by decide) (fun a S => ?_)
      refine leafL (leafT (hK36 _ _ ?_))
      refine sSeq (fun K37 hK37 => ?_)
      rcases iteSome h with ⟨hc38, h⟩ | ⟨hc38, h⟩
      · refine sCondT (b := decide (s29 < (m18.length : Int))) S (by kernel_rfl) hc38 ?_
        refine wp_skip (leafT (hK37 _ _ ?_))
        obtain ⟨t42, h, g43⟩ := bindSome h
        refine sCut (fun a w => ∃ o39, o39 = t42 ∧ ∃ ad40, ∃ cp41, St [] E [] w0 101 a w [(1, .pointer (some ⟨b6, 0, none⟩)), (5, .slice ad40 o39.length cp41), (23, .int .i64 (m18.length : Int)), (24, .int .i64 s29)] [eBox b6 40 [.int .i64 p0.Start, .slice ad3 p0.Rows.length cp4], eRow (rI .i64) 3 (.slice ad40 o39.length cp41) o39] [fRep (rL r_api_Row) (.slice ad3 p0.Rows.length cp4) p0.Rows]) ?_ (fun a w hI => ?_)
        · refine wp_block ?_
          refine sSeq (fun K44 hK44 => ?_)
          refine sRegion ?_
          refine sMove (.int .i64 s29) S (wN rfl) (.inl rfl) (by kernel_rfl) rfl (by decide) (fun a S => ?_)
          refine sMove (.int .i64 s29) S (wN rfl) (.inr rfl) (by kernel_rfl) rfl (by decide) (fun a S => ?_)
          refine leafL (leafT (hK44 _ _ ?_))
          refine sSeq (fun K45 hK45 => ?_)
          refine sRegion ?_
          refine sField (b := b6) (off := 0) 1 1 S (wN rfl) rfl (by kernel_rfl) (by kernel_rfl) rfl rfl (by decide) (fun a S => ?_)
          refine sLoad1 (p := b6) (off := 1) (T := 40) (vs := [.int .i64 p0.Start, .slice ad3 p0.Rows.length cp4]) 0 (.slice ad3 p0.Rows.length cp4) S (wN rfl) rfl (by kernel_rfl) (by kernel_rfl) (by kernel_rfl) rfl rfl (by decide) (fun a S => ?_)
          refine sMove (.int .i64 s29) S (wN rfl) (.inl rfl) (by kernel_rfl) rfl (by decide) (fun a S => ?_)
          refine sBin (.int .i64 (w64 (2 * s29))) S (wN rfl) rfl (by kernel_rfl) (by kernel_rfl) (bMul _ _ _ _ 2 s29) rfl (by decide) (fun a S => ?_)
          obtain ⟨x46, hx47, h⟩ := bindSome h
          obtain ⟨q48, hq49, S⟩ := pIdx (P := Try.prog) (r := r_api_Row) (v := .slice ad3 p0.Rows.length cp4) (xs := p0.Rows) (j := w64 (2 * s29)) 38 57 0 S Try.underlying38 (by kernel_rfl) (by kernel_rfl) hx47
          refine sIdxV (v := .slice ad3 p0.Rows.length cp4) (k := .i64) (j := w64 (2 * s29)) S (wN rfl) rfl (by kernel_rfl) (by kernel_rfl) hq49 rfl (by decide) (fun a S => ?_)
          obtain ⟨q50, hq51, S⟩ := pFld (P := Try.prog) (r := r_api_Row) (s2 := (rL r_api_Stitch)) (g := (·.Cells)) (q := q48) (z := x46) 57 1 0 1 S (by kernel_rfl) (by kernel_rfl) comp_api_Row_Cells
          refine sFldV (q := q48) S (wN rfl) rfl (by kernel_rfl) hq51 rfl (by decide) (fun a S => ?_)
          obtain ⟨u52, S⟩ := pLoad (r := (rL r_api_Stitch)) (q := q50) (x := x46.Cells) 0 S (by kernel_rfl)
          obtain ⟨ad53, cp54, _, rfl, _⟩ := S.mem.know (i := 1) (e := fRep (rL r_api_Stitch) (u52) x46.Cells) (by kernel_rfl)
          refine sLoadV1 (vq := q50) 0 (.slice ad53 x46.Cells.length cp54) S (wN rfl) rfl (by kernel_rfl) (by kernel_rfl) (by kernel_rfl) rfl (by decide) (fun a S => ?_)
          refine sMove (.slice ad53 x46.Cells.length cp54) S (wN rfl) (.inr rfl) (by kernel_rfl) rfl (by decide) (fun a S => ?_)
          refine leafL (leafT (hK45 _ _ ?_))
          refine wp_block ?_
          obtain ⟨t60, hl, g59⟩ := bindSome h
          refine sLoop hl (fun s0 a w => match s0 with | s55 => ∃ ad56, ∃ cp57, St [] E [] w0 101 a w [(1, .pointer (some ⟨b6, 0, none⟩)), (5, .slice ad56 s55.length cp57), (6, .int .i64 s29), (7, .slice ad53 x46.Cells.length cp54), (23, .int .i64 (m18.length : Int)), (24, .int .i64 s29)] [eBox b6 40 [.int .i64 p0.Start, .slice ad3 p0.Rows.length cp4], eRow (rI .i64) 3 (.slice ad56 s55.length cp57) s55] [fRep (rL r_api_Stitch) (.slice ad53 x46.Cells.length cp54) x46.Cells, fRep (rL r_api_Row) (.slice ad3 p0.Rows.length cp4) p0.Rows]) ⟨ad27, cp28, S.fix [0, 1] [1, 4] (by decide) (by kernel_rfl) (by kernel_rfl) (by kernel_rfl)⟩ ?_
          clear hl h
          intro s55 a w c0 hI h hu58
          unfold short_Read_l1 at h
          dsimp only at h hI
          obtain ⟨ad56, cp57, S⟩ := hI
          refine sSeq (fun K64 hK64 => ?_)
          obtain ⟨t66, h, g67⟩ := bindSome h
          refine sCut (fun a w => ∃ o65, o65 = t66 ∧ St [] E [] w0 101 a w [(1, .pointer (some ⟨b6, 0, none⟩)), (5, .slice ad56 s55.length cp57), (6, .int .i64 s29), (7, .slice ad53 x46.Cells.length cp54), (23, .int .i64 (m18.length : Int)), (24, .int .i64 s29), (51, .bool o65)] [eBox b6 40 [.int .i64 p0.Start, .slice ad3 p0.Rows.length cp4], eRow (rI .i64) 3 (.slice ad56 s55.length cp57) s55] [fRep (rL r_api_Stitch) (.slice ad53 x46.Cells.length cp54) x46.Cells, fRep (rL r_api_Row) (.slice ad3 p0.Rows.length cp4) p0.Rows]) ?_ (fun a w hI => ?_)
          · refine sRegion ?_
            refine sMove (.slice ad56 s55.length cp57) S (wN rfl) (.inl rfl) (by kernel_rfl) rfl (by decide) (fun a S => ?_)
            refine sMove (.int .i64 s29) S (wN rfl) (.inl rfl) (by kernel_rfl) rfl (by decide) (fun a S => ?_)
            obtain ⟨x68, hx69, h⟩ := bindSome h
            obtain ⟨q70, hq71, hp72⟩ := pIdxR (P := Try.prog) (r := (rI .i64)) (T := 3) (v := .slice ad56 s55.length cp57) (xs := s55) (j := s29) 22 3 1 S Try.underlying22 (by kernel_rfl) (by kernel_rfl) hx69
            refine sIdxV (v := .slice ad56 s55.length cp57) (k := .i64) (j := s29) S (wN rfl) rfl (by kernel_rfl) (by kernel_rfl) hq71 rfl (by decide) (fun a S => ?_)
            refine sLoadR (r := (rI .i64)) (T := 3) (xs := s55) (x := x68) (v := .slice ad56 s55.length cp57) (vq := q70) (j := s29) 1 (.int .i64 x68) S hp72 (wN rfl) rfl (by kernel_rfl) (by kernel_rfl) hx69 (fun _ _ _ h => h) (scal_I _) (by kernel_rfl) rfl (by decide) (fun a S => ?_)
            refine sMove (.slice ad53 x46.Cells.length cp54) S (wN rfl) (.inl rfl) (by kernel_rfl) rfl (by decide) (fun a S => ?_)
            refine sLen (ad := ad53) (m := x46.Cells.length) (c := cp54) S (wN rfl) rfl Try.underlying55 (by kernel_rfl) rfl (by decide) (fun a S => ?_)
            refine sBin (.bool (decide (x68 < (x46.Cells.length : Int)))) S (wN rfl) rfl (by kernel_rfl) (by kernel_rfl) (bLt _ _ _ _ .i64 x68 (x46.Cells.length : Int)) rfl (by decide) (fun a S => ?_)
            refine sMove (.bool (decide (x68 < (x46.Cells.length : Int)))) S (wN rfl) (.inl rfl) (by kernel_rfl) rfl (by decide) (fun a S => ?_)
            rcases iteSome h with ⟨hc73, h⟩ | ⟨hc73, h⟩
            · refine sMove (.slice ad53 x46.Cells.length cp54) S (wG (c := decide (x68 < (x46.Cells.length : Int))) 7 true 41 rfl rfl (by kernel_rfl) hc73) (.inl rfl) (by kernel_rfl) rfl (by decide) (fun a S => ?_)
              refine sMove (.slice ad56 s55.length cp57) S (wG (c := decide (x68 < (x46.Cells.length : Int))) 7 true 41 rfl rfl (by kernel_rfl) hc73) (.inl rfl) (by kernel_rfl) rfl (by decide) (fun a S => ?_)
              refine sMove (.int .i64 s29) S (wG (c := decide (x68 < (x46.Cells.length : Int))) 7 true 41 rfl rfl (by kernel_rfl) hc73) (.inl rfl) (by kernel_rfl) rfl (by decide) (fun a S => ?_)
              obtain ⟨q74, hq75, hp76⟩ := pIdxR (P := Try.prog) (r := (rI .i64)) (T := 3) (v := .slice ad56 s55.length cp57) (xs := s55) (j := s29) 22 3 1 S Try.underlying22 (by kernel_rfl) (by kernel_rfl) hx69
              refine sIdxV (v := .slice ad56 s55.length cp57) (k := .i64) (j := s29) S (wG (c := decide (x68 < (x46.Cells.length : Int))) 7 true 41 rfl rfl (by kernel_rfl) hc73) rfl (by kernel_rfl) (by kernel_rfl) hq75 rfl (by decide) (fun a S => ?_)
              refine sLoadR (r := (rI .i64)) (T := 3) (xs := s55) (x := x68) (v := .slice ad56 s55.length cp57) (vq := q74) (j := s29) 1 (.int .i64 x68) S hp76 (wG (c := decide (x68 < (x46.Cells.length : Int))) 7 true 41 rfl rfl (by kernel_rfl) hc73) rfl (by kernel_rfl) (by kernel_rfl) hx69 (fun _ _ _ h => h) (scal_I _) (by kernel_rfl) rfl (by decide) (fun a S => ?_)
              obtain ⟨x77, hx78, h⟩ := bindSome h
              obtain ⟨q79, hq80, S⟩ := pIdx (P := Try.prog) (r := r_api_Stitch) (v := .slice ad53 x46.Cells.length cp54) (xs := x46.Cells) (j := x68) 55 63 0 S Try.underlying55 (by kernel_rfl) (by kernel_rfl) hx78
              refine sIdxV (v := .slice ad53 x46.Cells.length cp54) (k := .i64) (j := x68) S (wG (c := decide (x68 < (x46.Cells.length : Int))) 7 true 41 rfl rfl (by kernel_rfl) hc73) rfl (by kernel_rfl) (by kernel_rfl) hq80 rfl (by decide) (fun a S => ?_)
              obtain ⟨q81, hq82, S⟩ := pFld (P := Try.prog) (r := r_api_Stitch) (s2 := (rI .u8)) (g := (·.Kind)) (q := q79) (z := x77) 63 0 0 0 S (by kernel_rfl) (by kernel_rfl) comp_api_Stitch_Kind
              refine sFldV (q := q79) S (wG (c := decide (x68 < (x46.Cells.length : Int))) 7 true 41 rfl rfl (by kernel_rfl) hc73) rfl (by kernel_rfl) hq82 rfl (by decide) (fun a S => ?_)
              obtain ⟨u83, S⟩ := pLoad (r := (rI .u8)) (q := q81) (x := x77.Kind) 0 S (by kernel_rfl)
              obtain rfl : u83 = .int .u8 x77.Kind := S.mem.know (i := 1) (e := fRep (rI .u8) (u83) x77.Kind) (by kernel_rfl)
              refine sLoadV1 (vq := q81) 0 (.int .u8 x77.Kind) S (wG (c := decide (x68 < (x46.Cells.length : Int))) 7 true 41 rfl rfl (by kernel_rfl) hc73) rfl (by kernel_rfl) (by kernel_rfl) (by kernel_rfl) rfl (by decide) (fun a S => ?_)
              refine sBin (.bool (x77.Kind == 1)) S (wG (c := decide (x68 < (x46.Cells.length : Int))) 7 true 41 rfl rfl (by kernel_rfl) hc73) rfl (by kernel_rfl) (by kernel_rfl) (bEq _ _ _ _ .u8 x77.Kind 1) rfl (by decide) (fun a S => ?_)
              refine sPickT (b := decide (x68 < (x46.Cells.length : Int))) (.bool (x77.Kind == 1)) S (wN rfl) rfl (by kernel_rfl) hc73 (by kernel_rfl) rfl (by decide) (fun a S => ?_)
              exact leafL (leafT (⟨x77.Kind == 1, Option.some.inj h, S.fix [0, 1] [4, 5] (by decide) (by kernel_rfl) (by kernel_rfl) (by kernel_rfl)⟩))
            · refine sSkip (c := decide (x68 < (x46.Cells.length : Int))) 7 true 41 42 S rfl rfl (by kernel_rfl) hc73 rfl (by decide) (fun a S => ?_)
              refine sSkip (c := decide (x68 < (x46.Cells.length : Int))) 7 true 41 43 S rfl rfl (by kernel_rfl) hc73 rfl (by decide) (fun a S => ?_)
              refine sSkip (c := decide (x68 < (x46.Cells.length : Int))) 7 true 41 44 S rfl rfl (by kernel_rfl) hc73 rfl (by decide) (fun a S => ?_)
              refine sSkip (c := decide (x68 < (x46.Cells.length : Int))) 7 true 41 45 S rfl rfl (by kernel_rfl) hc73 rfl (by decide) (fun a S => ?_)
              refine sSkip (c := decide (x68 < (x46.Cells.length : Int))) 7 true 41 46 S rfl rfl (by kernel_rfl) hc73 rfl (by decide) (fun a S => ?_)
              refine sSkip (c := decide (x68 < (x46.Cells.length : Int))) 7 true 41 47 S rfl rfl (by kernel_rfl) hc73 rfl (by decide) (fun a S => ?_)
              refine sSkip (c := decide (x68 < (x46.Cells.length : Int))) 7 true 41 48 S rfl rfl (by kernel_rfl) hc73 rfl (by decide) (fun a S => ?_)
              refine sSkip (c := decide (x68 < (x46.Cells.length : Int))) 7 true 41 49 S rfl rfl (by kernel_rfl) hc73 rfl (by decide) (fun a S => ?_)
              refine sSkip (c := decide (x68 < (x46.Cells.length : Int))) 7 true 41 50 S rfl rfl (by kernel_rfl) hc73 rfl (by decide) (fun a S => ?_)
              refine sPickF (b := decide (x68 < (x46.Cells.length : Int))) (.bool false) S (wN rfl) rfl (by kernel_rfl) hc73 (by kernel_rfl) rfl (by decide) (fun a S => ?_)
              exact leafL (leafT (⟨false, Option.some.inj h, S.fix [0, 1] [0, 1] (by decide) (by kernel_rfl) (by kernel_rfl) (by kernel_rfl)⟩))
          · obtain ⟨o65, rfl, S⟩ := hI
            have h := g67
            clear g67
            try dsimp only at h
            rcases iteSome h with ⟨hc84, h⟩ | ⟨hc84, h⟩
            · refine sCondT (b := o65) S (by kernel_rfl) hc84 ?_
              refine wp_skip (leafT (hK64 _ _ ?_))
              refine wp_block ?_
              refine sRegion ?_
              refine sMove (.slice ad56 s55.length cp57) S (wN rfl) (.inl rfl) (by kernel_rfl) rfl (by decide) (fun a S => ?_)
              refine sMove (.int .i64 s29) S (wN rfl) (.inl rfl) (by kernel_rfl) rfl (by decide) (fun a S => ?_)
              obtain ⟨x85, hx86, h⟩ := bindSome h
              obtain ⟨q87, hq88, hp89⟩ := pIdxR (P := Try.prog) (r := (rI .i64)) (T := 3) (v := .slice ad56 s55.length cp57) (xs := s55) (j := s29) 22 3 1 S Try.underlying22 (by kernel_rfl) (by kernel_rfl) hx86
              refine sIdxV (v := .slice ad56 s55.length cp57) (k := .i64) (j := s29) S (wN rfl) rfl (by kernel_rfl) (by kernel_rfl) hq88 rfl (by decide) (fun a S => ?_)
              refine sLoadR (r := (rI .i64)) (T := 3) (xs := s55) (x := x85) (v := .slice ad56 s55.length cp57) (vq := q87) (j := s29) 1 (.int .i64 x85) S hp89 (wN rfl) rfl (by kernel_rfl) (by kernel_rfl) hx86 (fun _ _ _ h => h) (scal_I _) (by kernel_rfl) rfl (by decide) (fun a S => ?_)
              refine sBin (.int .i64 (w64 (x85 + 1))) S (wN rfl) rfl (by kernel_rfl) (by kernel_rfl) (bAdd _ _ _ _ x85 1) rfl (by decide) (fun a S => ?_)
              obtain ⟨q90, hq91, hp92⟩ := pIdxR (P := Try.prog) (r := (rI .i64)) (T := 3) (v := .slice ad56 s55.length cp57) (xs := s55) (j := s29) 22 3 1 S Try.underlying22 (by kernel_rfl) (by kernel_rfl) hx86
              refine sIdxV (v := .slice ad56 s55.length cp57) (k := .i64) (j := s29) S (wN rfl) rfl (by kernel_rfl) (by kernel_rfl) hq91 rfl (by decide) (fun a S => ?_)
              obtain ⟨l93, hx94, h⟩ := bindSome h
              refine sStoreR (r := (rI .i64)) (T := 3) (xs := s55) (ys := l93) (y := (w64 (x85 + 1))) (v := .slice ad56 s55.length cp57) (vq := q90) (u := .int .i64 (w64 (x85 + 1))) (j := s29) 1 S hp92 (wN rfl) rfl (by kernel_rfl) (by kernel_rfl) (by kernel_rfl) rfl hx94 (by kernel_rfl) rfl (fun a w S => ?_)
              rw [setO_v hx94 ad56 cp57] at S
              exact leafL (leafB (leafT (⟨l93, (Option.some.inj h).symm, ⟨ad56, cp57, S.fix [1, 0] [0, 1] (by decide) (by kernel_rfl) (by kernel_rfl) (by kernel_rfl)⟩⟩)))
            · refine sCondF (b := o65) S (by kernel_rfl) hc84 ?_
              obtain rfl := Option.some.inj h
              obtain rfl := hu58 _ rfl
              have h := g59
              clear g59
              try dsimp only at h
              exact wp_exit (xThen (xThen (xHit (leafB (leafT (⟨s55, Option.some.inj h, ad56, cp57, S.fix [0, 1] [1] (by decide) (by kernel_rfl) (by kernel_rfl) (by kernel_rfl)⟩))))))
        · obtain ⟨o39, rfl, ad40, cp41, S⟩ := hI
          have h := g43
          clear g43
          try dsimp only at h
          refine sRegion ?_
          refine sBin (.int .i64 (w64 (s29 + 1))) S (wN rfl) rfl (by kernel_rfl) (by kernel_rfl) (bAdd _ _ _ _ s29 1) rfl (by decide) (fun a S => ?_)
          refine sMove (.int .i64 (w64 (s29 + 1))) S (wN rfl) (.inl rfl) (by kernel_rfl) rfl (by decide) (fun a S => ?_)
          exact leafL (leafT (⟨(o39, w64 (s29 + 1)), (Option.some.inj h).symm, ⟨ad40, cp41, S.fix [0, 1] [0] (by decide) (by kernel_rfl) (by kernel_rfl) (by kernel_rfl)⟩⟩))
      · refine sCondF (b := decide (s29 < (m18.length : Int))) S (by kernel_rfl) hc38 ?_
        obtain rfl := Option.some.inj h
        obtain rfl := hu30 _ rfl
        have h := g31
        clear g31
        try dsimp only at h
        exact wp_exit (xThen (xThen (xHit (leafT (⟨s26, Option.some.inj h, ad27, cp28, S.fix [0, 1] [0] (by decide) (by kernel_rfl) (by kernel_rfl) (by kernel_rfl)⟩)))))
    · obtain ⟨o20, rfl, ad21, cp22, S⟩ := hI
      have h := g24
      clear g24
      try dsimp only at h
      refine sSeq (fun K95 hK95 => ?_)
      refine sRegion ?_
      refine sField (b := b6) (off := 0) 0 0 S (wN rfl) rfl (by kernel_rfl) (by kernel_rfl) rfl rfl (by decide) (fun a S => ?_)
      refine sLoad1 (p := b6) (off := 0) (T := 40) (vs := [.int .i64 p0.Start, .slice ad3 p0.Rows.length cp4]) 0 (.int .i64 p0.Start) S (wN rfl) rfl (by kernel_rfl) (by kernel_rfl) (by kernel_rfl) rfl rfl (by decide) (fun a S => ?_)
      refine sMove (.slice ad21 o20.length cp22) S (wN rfl) (.inl rfl) (by kernel_rfl) rfl (by decide) (fun a S => ?_)
      obtain ⟨r96, hx97, h⟩ := bindSome h
      have S := S.shutR (r := (rI .i64)) (T := 3) (v := .slice ad21 o20.length cp22) (xs := o20) 1 (by kernel_rfl)
      refine sCall (X := Value) (f := 15) (vs := [.int .i64 p0.Start, .slice ad21 o20.length cp22]) (val := c_short_Chart_val r96) (B' := fun _ => []) (D' := c_short_Chart_D r96) [] [eBox b6 40 [.int .i64 p0.Start, .slice ad3 p0.Rows.length cp4]] [fRep (rL (rI .i64)) (.slice ad21 o20.length cp22) o20] [0] [0] S (wN rfl) rfl callee15 (by kernel_rfl) (by decide) (by kernel_rfl) (by kernel_rfl) (fun E1 w1 S1 => c_short_Chart E1 w1 p0.Start o20 (.slice ad21 o20.length cp22) r96 hx97 S1) rfl (by decide) (fun u98 a w S => ?_)
      obtain ⟨u99, rfl, hu100⟩ := S.mem.know (i := 0) (e := fRep r_api_Chart (u98) r96.1) (by kernel_rfl)
      have S := S.learn (fRep (rL r_api_Row) u99 r96.1.Rows) hu100
      obtain ⟨ad101, cp102, _, rfl, _⟩ := hu100
      refine sMove (.tuple #[.agg #[.int .i64 r96.1.Start, .slice ad101 r96.1.Rows.length cp102], .int .i64 r96.2]) S (wN rfl) (.inl rfl) (by kernel_rfl) rfl (by decide) (fun a S => ?_)
      refine sExtract (vs := [.agg #[.int .i64 r96.1.Start, .slice ad101 r96.1.Rows.length cp102], .int .i64 r96.2]) (.agg #[.int .i64 r96.1.Start, .slice ad101 r96.1.Rows.length cp102]) S (wN rfl) rfl (by kernel_rfl) rfl rfl (by decide) (fun a S => ?_)
      refine sExtract (vs := [.agg #[.int .i64 r96.1.Start, .slice ad101 r96.1.Rows.length cp102], .int .i64 r96.2]) (.int .i64 r96.2) S (wN rfl) rfl (by kernel_rfl) rfl rfl (by decide) (fun a S => ?_)
      refine sAlloc (.agg #[.int .i64 0, .slice none 0 0]) S (wN rfl) rfl (by kernel_rfl) [.int .i64 0, .slice none 0 0] rfl rfl (by decide) (fun a b103 w S => ?_)
      refine sStore (p := b103) (off := 0) (T := 40) (vs := [.int .i64 0, .slice none 0 0]) (v := .agg #[.int .i64 r96.1.Start, .slice ad101 r96.1.Rows.length cp102]) 0 [.int .i64 r96.1.Start, .slice ad101 r96.1.Rows.length cp102] S (wN rfl) rfl (by kernel_rfl) (by kernel_rfl) rfl (by kernel_rfl) (by kernel_rfl) rfl (by simp) rfl (fun a w S => ?_)
      refine sMove (.int .i64 r96.2) S (wN rfl) (.inr rfl) (by kernel_rfl) rfl (by decide) (fun a S => ?_)
      refine leafL (leafT (hK95 _ _ ?_))
      refine sSeq (fun K104 hK104 => ?_)
      refine sSeq (fun K105 hK105 => ?_)
      refine sRegion ?_
      refine sMove (.int .i64 r96.2) S (wN rfl) (.inl rfl) (by kernel_rfl) rfl (by decide) (fun a S => ?_)
      refine sBin (.bool (r96.2 != 0)) S (wN rfl) rfl (by kernel_rfl) (by kernel_rfl) (bNe _ _ _ _ .i64 r96.2 0) rfl (by decide) (fun a S => ?_)
      refine leafL (leafT (hK105 _ _ ?_))
      rcases iteSome h with ⟨hc106, h⟩ | ⟨hc106, h⟩
      · refine sCondT (b := r96.2 != 0) S (by kernel_rfl) hc106 ?_
        refine sSeq (fun K107 hK107 => ?_)
        refine sRegion ?_
        refine sMove (.int .i64 0) S (wN rfl) (.inr rfl) (by kernel_rfl) rfl (by decide) (fun a S => ?_)
        refine sMove (.slice none 0 0) S (wN rfl) (.inr rfl) (by kernel_rfl) rfl (by decide) (fun a S => ?_)
        refine sMove (.int .i64 8) S (wN rfl) (.inr rfl) (by kernel_rfl) rfl (by decide) (fun a S => ?_)
        refine leafL (leafT (hK107 _ _ ?_))
        obtain rfl := Option.some.inj h
        have S := S.learn (fRep (rL (rI .i64)) (.slice none 0 0) ([] : (List Int))) (rL_nil _ _ _)
        exact wp_ret (rThen (sRet (.tuple #[.int .i64 0, .slice none 0 0, .int .i64 8]) S (rsl3 rfl (rvT (t := 2) (v := .int .i64 0) S (by kernel_rfl)) (rvT (t := 3) (v := .slice none 0 0) S (by kernel_rfl)) (rvT (t := 4) (v := .int .i64 8) S (by kernel_rfl))) ⟨(.slice none 0 0), rfl, S.mem.sel [] [0] (by decide) (by kernel_rfl) (by kernel_rfl)⟩))
      · refine sCondF (b := r96.2 != 0) S (by kernel_rfl) hc106 ?_
        refine wp_skip (leafT (hK104 _ _ ?_))
        obtain ⟨t108, h, g109⟩ := bindSome h
        refine sCut (fun a w => .inl () = t108 ∧ St [] E [] w0 101 a w [(1, .pointer (some ⟨b6, 0, none⟩)), (5, .slice ad21 o20.length cp22)] [eBox b6 40 [.int .i64 p0.Start, .slice ad3 p0.Rows.length cp4]] [fRep (rL (rI .i64)) (.slice ad21 o20.length cp22) o20, fRep (rL r_api_Row) (.slice ad3 p0.Rows.length cp4) p0.Rows]) ?_ (fun a w hI => ?_)
        · refine sSeq (fun K110 hK110 => ?_)
          refine sRegion ?_
          refine sField (b := b6) (off := 0) 1 1 S (wN rfl) rfl (by kernel_rfl) (by kernel_rfl) rfl rfl (by decide) (fun a S => ?_)
          refine sLoad1 (p := b6) (off := 1) (T := 40) (vs := [.int .i64 p0.Start, .slice ad3 p0.Rows.length cp4]) 1 (.slice ad3 p0.Rows.length cp4) S (wN rfl) rfl (by kernel_rfl) (by kernel_rfl) (by kernel_rfl) rfl rfl (by decide) (fun a S => ?_)
          refine sLen (ad := ad3) (m := p0.Rows.length) (c := cp4) S (wN rfl) rfl Try.underlying38 (by kernel_rfl) rfl (by decide) (fun a S => ?_)
          refine sMove (.int .i64 0) S (wN rfl) (.inl rfl) (by kernel_rfl) rfl (by decide) (fun a S => ?_)
          refine leafL (leafT (hK110 _ _ ?_))
          refine wp_block ?_
          obtain ⟨t114, hl, g113⟩ := bindSome h
          refine sLoop hl (fun s0 a w => match s0 with | s111 => St [] E [] w0 101 a w [(1, .pointer (some ⟨b6, 0, none⟩)), (5, .slice ad21 o20.length cp22), (8, .pointer (some ⟨b103, 0, none⟩)), (69, .slice ad3 p0.Rows.length cp4), (70, .int .i64 (p0.Rows.length : Int)), (71, .int .i64 s111)] [eBox b6 40 [.int .i64 p0.Start, .slice ad3 p0.Rows.length cp4], eBox b103 40 [.int .i64 r96.1.Start, .slice ad101 r96.1.Rows.length cp102]] [fRep (rL (rI .i64)) (.slice ad21 o20.length cp22) o20, fRep (rL r_api_Row) (.slice ad3 p0.Rows.length cp4) p0.Rows, fRep (rL r_api_Row) (.slice ad101 r96.1.Rows.length cp102) r96.1.Rows]) (S.fix [1, 0] [2, 3, 0] (by decide) (by kernel_rfl) (by kernel_rfl) (by kernel_rfl)) ?_
          clear hl h
          intro s111 a w c0 hI h hu112
          unfold short_Read_l3 at h
          dsimp only at h hI
          have S := hI
          refine sSeq (fun K115 hK115 => ?_)
          refine sRegion ?_
          refine sBin (.bool (decide (s111 < (p0.Rows.length : Int)))) S (wN rfl) rfl (by kernel_rfl) (by kernel_rfl) (bLt _ _ _ _ .i64 s111 (p0.Rows.length : Int)) rfl (by decide) (fun a S => ?_)
          refine leafL (leafT (hK115 _ _ ?_))
          refine sSeq (fun K116 hK116 => ?_)
          rcases iteSome h with ⟨hc117, h⟩ | ⟨hc117, h⟩
          · refine sCondT (b := decide (s111 < (p0.Rows.length : Int))) S (by kernel_rfl) hc117 ?_
            refine wp_skip (leafT (hK116 _ _ ?_))
            refine sSeq (fun K118 hK118 => ?_)
            refine wp_block ?_
            refine sSeq (fun K119 hK119 => ?_)
            refine sRegion ?_
            refine sMove (.int .i64 s111) S (wN rfl) (.inl rfl) (by kernel_rfl) rfl (by decide) (fun a S => ?_)
            obtain ⟨x120, hx121, h⟩ := bindSome h
            obtain ⟨q122, hq123, S⟩ := pIdx (P := Try.prog) (r := r_api_Row) (v := .slice ad3 p0.Rows.length cp4) (xs := p0.Rows) (j := s111) 38 57 1 S Try.underlying38 (by kernel_rfl) (by kernel_rfl) hx121
            refine sIdxV (v := .slice ad3 p0.Rows.length cp4) (k := .i64) (j := s111) S (wN rfl) rfl (by kernel_rfl) (by kernel_rfl) hq123 rfl (by decide) (fun a S => ?_)
            obtain ⟨u124, S⟩ := pLoad (r := r_api_Row) (q := q122) (x := x120) 0 S (by kernel_rfl)
            obtain ⟨u125, rfl, hu126⟩ := S.mem.know (i := 1) (e := fRep r_api_Row (u124) x120) (by kernel_rfl)
            have S := S.learn (fRep (rL r_api_Stitch) u125 x120.Cells) hu126
            obtain ⟨ad127, cp128, _, rfl, _⟩ := hu126
            refine sLoadVN (vq := q122) 1 [.bool x120.Back, .slice ad127 x120.Cells.length cp128] S (wN rfl) rfl (by kernel_rfl) (by kernel_rfl) (by kernel_rfl) (by kernel_rfl) rfl (by decide) (fun a S => ?_)
            refine sAlloc (.agg #[.bool false, .slice none 0 0]) S (wN rfl) rfl (by kernel_rfl) [.bool false, .slice none 0 0] rfl rfl (by decide) (fun a b129 w S => ?_)
            refine sMove (.int .i64 s111) S (wN rfl) (.inr rfl) (by kernel_rfl) rfl (by decide) (fun a S => ?_)
            refine sStore (p := b129) (off := 0) (T := 57) (vs := [.bool false, .slice none 0 0]) (v := .agg #[.bool x120.Back, .slice ad127 x120.Cells.length cp128]) 0 [.bool x120.Back, .slice ad127 x120.Cells.length cp128] S (wN rfl) rfl (by kernel_rfl) (by kernel_rfl) rfl (by kernel_rfl) (by kernel_rfl) rfl (by simp) rfl (fun a w S => ?_)
            refine leafL (leafT (hK119 _ _ ?_))
            obtain ⟨t131, h, g132⟩ := bindSome h
            refine sCut (fun a w => ∃ o130, o130 = t131 ∧ St [] E [] w0 101 a w [(1, .pointer (some ⟨b6, 0, none⟩)), (5, .slice ad21 o20.length cp22), (8, .pointer (some ⟨b103, 0, none⟩)), (69, .slice ad3 p0.Rows.length cp4), (70, .int .i64 (p0.Rows.length : Int)), (71, .int .i64 s111), (96, .bool o130)] [eBox b6 40 [.int .i64 p0.Start, .slice ad3 p0.Rows.length cp4], eBox b103 40 [.int .i64 r96.1.Start, .slice ad101 r96.1.Rows.length cp102]] [fRep (rL (rI .i64)) (.slice ad21 o20.length cp22) o20, fRep (rL r_api_Row) (.slice ad3 p0.Rows.length cp4) p0.Rows, fRep (rL r_api_Row) (.slice ad101 r96.1.Rows.length cp102) r96.1.Rows]) ?_ (fun a w hI => ?_)
            · obtain ⟨x133, hx134, h⟩ := bindSome h
              rcases iteSome h with ⟨hc140, h⟩ | ⟨hc140, h⟩
              · obtain ⟨q141, hq142, S⟩ := pIdx (P := Try.prog) (r := r_api_Row) (v := .slice ad101 r96.1.Rows.length cp102) (xs := r96.1.Rows) (j := s111) 38 57 6 S Try.underlying38 (by kernel_rfl) (by kernel_rfl) hx134
                obtain ⟨q143, hq144, S⟩ := pFld (P := Try.prog) (r := r_api_Row) (s2 := rB) (g := (·.Back)) (q := q141) (z := x133) 57 0 0 0 S (by kernel_rfl) (by kernel_rfl) comp_api_Row_Back
                obtain ⟨u145, S⟩ := pLoad (r := rB) (q := q143) (x := x133.Back) 0 S (by kernel_rfl)
                obtain rfl : u145 = .bool x133.Back := S.mem.know (i := 1) (e := fRep rB (u145) x133.Back) (by kernel_rfl)
                refine sDraw (nf := []) (W := [(0, 76, .pointer (some ⟨b129, 0, none⟩)), (1, 77, .bool x120.Back), (2, 78, .pointer (some ⟨b103, 1, none⟩)), (3, 79, .slice ad101 r96.1.Rows.length cp102), (4, 80, .int .i64 s111), (5, 81, q141), (6, 82, q143), (7, 83, .bool x133.Back), (8, 84, .bool (x120.Back != x133.Back)), (9, 85, .bool (x120.Back != x133.Back)), (10, 86, undef), (11, 87, undef), (12, 88, undef), (13, 89, undef), (14, 90, undef), (15, 91, undef), (16, 92, undef), (17, 93, undef), (18, 94, undef), (19, 95, undef), (20, 96, .bool true)]) (by kernel_rfl) S ?_
                refine node_by (A := anc_short_Read_0) (nf := []) (Y := []) (W := [(0, 76, .pointer (some ⟨b129, 0, none⟩)), (1, 77, .bool x120.Back), (2, 78, .pointer (some ⟨b103, 1, none⟩)), (3, 79, .slice ad101 r96.1.Rows.length cp102), (4, 80, .int .i64 s111), (5, 81, q141), (6, 82, q143), (7, 83, .bool x133.Back), (8, 84, .bool (x120.Back != x133.Back)), (9, 85, .bool (x120.Back != x133.Back)), (10, 86, undef), (11, 87, undef), (12, 88, undef), (13, 89, undef), (14, 90, undef), (15, 91, undef), (16, 92, undef), (17, 93, undef), (18, 94, undef), (19, 95, undef), (20, 96, .bool true)]) 21 (by kernel_rfl) (by kernel_rfl) (by kernel_rfl) (by kernel_rfl) (by kernel_rfl) [0, 1, 2, 3, 4, 5, 6, 7, 8, 9, 10, 11, 12, 13, 14, 15, 16, 17, 18, 19, 20] (by kernel_rfl) (by decide) (by decide) (aF 0 20 (by decide) ?_ (aF 1 19 (by decide) ?_ (aF 2 18 (by decide) ?_ (aF 3 17 (by decide) ?_ (aF 4 16 (by decide) ?_ (aF 5 15 (by decide) ?_ (aF 6 14 (by decide) ?_ (aF 7 13 (by decide) ?_ (aF 8 12 (by decide) ?_ (aF 9 11 (by decide) ?_ (aF 10 10 (by decide) ?_ (aF 11 9 (by decide) ?_ (aF 12 8 (by decide) ?_ (aF 13 7 (by decide) ?_ (aF 14 6 (by decide) ?_ (aF 15 5 (by decide) ?_ (aF 16 4 (by decide) ?_ (aF 17 3 (by decide) ?_ (aF 18 2 (by decide) ?_ (aF 19 1 (by decide) ?_ (aF 20 0 (by decide) ?_ (trivial)))))))))))))))))))))) [(1, .pointer (some ⟨b6, 0, none⟩)), (5, .slice ad21 o20.length cp22), (8, .pointer (some ⟨b103, 0, none⟩)), (69, .slice ad3 p0.Rows.length cp4), (70, .int .i64 (p0.Rows.length : Int)), (71, .int .i64 s111), (86, undef), (87, undef), (88, undef), (89, undef), (90, undef), (91, undef), (92, undef), (93, undef), (94, undef), (95, undef), (96, .bool true)] (fin_of [none, none, none, none, none, none, some 10, some 11, some 12, some 13, some 14, some 15, some 16, some 17, some 18, some 19, some 20] rfl (by kernel_rfl) (by kernel_rfl)) (fun _ a w S => ?_)
                · refine fI 76 (.pointer (some ⟨b129, 0, none⟩)) [(11, .pointer (some ⟨b129, 0, none⟩))] 0 [none] rfl rfl (by kernel_rfl) rfl (by kernel_rfl) (by kernel_rfl) fun G a w S => ?_
                  refine sField (b := b129) (off := 0) 0 0 S (wN rfl) rfl (by kernel_rfl) (by kernel_rfl) rfl rfl (by decide) (fun a S => ?_)
                  exact leafL ⟨rfl, S⟩
                · refine fI 77 (.bool x120.Back) [(76, .pointer (some ⟨b129, 0, none⟩))] 1 [some 0] rfl rfl (by kernel_rfl) rfl (by kernel_rfl) (by kernel_rfl) fun G a w S => ?_
                  refine sLoad1 (p := b129) (off := 0) (T := 57) (vs := [.bool x120.Back, .slice ad127 x120.Cells.length cp128]) 0 (.bool x120.Back) S (wN rfl) rfl (by kernel_rfl) (by kernel_rfl) (by kernel_rfl) rfl rfl (by decide) (fun a S => ?_)
                  exact leafL ⟨rfl, S⟩
                · refine fI 78 (.pointer (some ⟨b103, 1, none⟩)) [(8, .pointer (some ⟨b103, 0, none⟩))] 2 [none] rfl rfl (by kernel_rfl) rfl (by kernel_rfl) (by kernel_rfl) fun G a w S => ?_
                  refine sField (b := b103) (off := 0) 1 1 S (wN rfl) rfl (by kernel_rfl) (by kernel_rfl) rfl rfl (by decide) (fun a S => ?_)
                  exact leafL ⟨rfl, S⟩
                · refine fI 79 (.slice ad101 r96.1.Rows.length cp102) [(78, .pointer (some ⟨b103, 1, none⟩))] 3 [some 2] rfl rfl (by kernel_rfl) rfl (by kernel_rfl) (by kernel_rfl) fun G a w S => ?_
                  refine sLoad1 (p := b103) (off := 1) (T := 40) (vs := [.int .i64 r96.1.Start, .slice ad101 r96.1.Rows.length cp102]) 2 (.slice ad101 r96.1.Rows.length cp102) S (wN rfl) rfl (by kernel_rfl) (by kernel_rfl) (by kernel_rfl) rfl rfl (by decide) (fun a S => ?_)
                  exact leafL ⟨rfl, S⟩
                · refine fI 80 (.int .i64 s111) [(10, .int .i64 s111)] 4 [none] rfl rfl (by kernel_rfl) rfl (by kernel_rfl) (by kernel_rfl) fun G a w S => ?_
                  refine sMove (.int .i64 s111) S (wN rfl) (.inl rfl) (by kernel_rfl) rfl (by decide) (fun a S => ?_)
                  exact leafL ⟨rfl, S⟩
                · refine fI 81 q141 [(79, .slice ad101 r96.1.Rows.length cp102), (80, .int .i64 s111)] 5 [some 3, some 4] rfl rfl (by kernel_rfl) rfl (by kernel_rfl) (by kernel_rfl) fun G a w S => ?_
                  refine sIdxV (v := .slice ad101 r96.1.Rows.length cp102) (k := .i64) (j := s111) S (wN rfl) rfl (by kernel_rfl) (by kernel_rfl) hq142 rfl (by decide) (fun a S => ?_)
                  exact leafL ⟨rfl, S⟩
                · refine fI 82 q143 [(81, q141)] 6 [some 5] rfl rfl (by kernel_rfl) rfl (by kernel_rfl) (by kernel_rfl) fun G a w S => ?_
                  refine sFldV (q := q141) S (wN rfl) rfl (by kernel_rfl) hq144 rfl (by decide) (fun a S => ?_)
                  exact leafL ⟨rfl, S⟩
                · refine fI 83 (.bool x133.Back) [(82, q143)] 7 [some 6] rfl rfl (by kernel_rfl) rfl (by kernel_rfl) (by kernel_rfl) fun G a w S => ?_
                  refine sLoadV1 (vq := q143) 0 (.bool x133.Back) S (wN rfl) rfl (by kernel_rfl) (by kernel_rfl) (by kernel_rfl) rfl (by decide) (fun a S => ?_)
                  exact leafL ⟨rfl, S⟩
                · refine fI 84 (.bool (x120.Back != x133.Back)) [(77, .bool x120.Back), (83, .bool x133.Back)] 8 [some 1, some 7] rfl rfl (by kernel_rfl) rfl (by kernel_rfl) (by kernel_rfl) fun G a w S => ?_
                  refine sBin (.bool (x120.Back != x133.Back)) S (wN rfl) rfl (by kernel_rfl) (by kernel_rfl) (bNeB _ _ _ _ Try.underlying4 x120.Back x133.Back) rfl (by decide) (fun a S => ?_)
                  exact leafL ⟨rfl, S⟩
                · refine fI 85 (.bool (x120.Back != x133.Back)) [(84, .bool (x120.Back != x133.Back))] 9 [some 8] rfl rfl (by kernel_rfl) rfl (by kernel_rfl) (by kernel_rfl) fun G a w S => ?_
                  refine sMove (.bool (x120.Back != x133.Back)) S (wN rfl) (.inl rfl) (by kernel_rfl) rfl (by decide) (fun a S => ?_)
                  exact leafL ⟨rfl, S⟩
                · refine fI 86 undef [(11, .pointer (some ⟨b129, 0, none⟩)), (85, .bool (x120.Back != x133.Back))] 10 [none, some 9] rfl rfl (by kernel_rfl) rfl (by kernel_rfl) (by kernel_rfl) fun G a w S => ?_
                  refine sSkip (c := x120.Back != x133.Back) 9 false 85 86 S rfl rfl (by kernel_rfl) hc140 rfl (by decide) (fun a S => ?_)
                  exact leafL ⟨rfl, S⟩
                · refine fI 87 undef [(86, undef), (85, .bool (x120.Back != x133.Back))] 11 [some 10, some 9] rfl rfl (by kernel_rfl) rfl (by kernel_rfl) (by kernel_rfl) fun G a w S => ?_
                  refine sSkip (c := x120.Back != x133.Back) 9 false 85 87 S rfl rfl (by kernel_rfl) hc140 rfl (by decide) (fun a S => ?_)
                  exact leafL ⟨rfl, S⟩
                · refine fI 88 undef [(8, .pointer (some ⟨b103, 0, none⟩)), (85, .bool (x120.Back != x133.Back))] 12 [none, some 9] rfl rfl (by kernel_rfl) rfl (by kernel_rfl) (by kernel_rfl) fun G a w S => ?_
                  refine sSkip (c := x120.Back != x133.Back) 9 false 85 88 S rfl rfl (by kernel_rfl) hc140 rfl (by decide) (fun a S => ?_)
                  exact leafL ⟨rfl, S⟩
                · refine fI 89 undef [(88, undef), (85, .bool (x120.Back != x133.Back))] 13 [some 12, some 9] rfl rfl (by kernel_rfl) rfl (by kernel_rfl) (by kernel_rfl) fun G a w S => ?_
                  refine sSkip (c := x120.Back != x133.Back) 9 false 85 89 S rfl rfl (by kernel_rfl) hc140 rfl (by decide) (fun a S => ?_)
                  exact leafL ⟨rfl, S⟩
                · refine fI 90 undef [(10, .int .i64 s111), (85, .bool (x120.Back != x133.Back))] 14 [none, some 9] rfl rfl (by kernel_rfl) rfl (by kernel_rfl) (by kernel_rfl) fun G a w S => ?_
                  refine sSkip (c := x120.Back != x133.Back) 9 false 85 90 S rfl rfl (by kernel_rfl) hc140 rfl (by decide) (fun a S => ?_)
                  exact leafL ⟨rfl, S⟩
                · refine fI 91 undef [(89, undef), (90, undef), (85, .bool (x120.Back != x133.Back))] 15 [some 13, some 14, some 9] rfl rfl (by kernel_rfl) rfl (by kernel_rfl) (by kernel_rfl) fun G a w S => ?_
                  refine sSkip (c := x120.Back != x133.Back) 9 false 85 91 S rfl rfl (by kernel_rfl) hc140 rfl (by decide) (fun a S => ?_)
                  exact leafL ⟨rfl, S⟩
                · refine fI 92 undef [(91, undef), (85, .bool (x120.Back != x133.Back))] 16 [some 15, some 9] rfl rfl (by kernel_rfl) rfl (by kernel_rfl) (by kernel_rfl) fun G a w S => ?_
                  refine sSkip (c := x120.Back != x133.Back) 9 false 85 92 S rfl rfl (by kernel_rfl) hc140 rfl (by decide) (fun a S => ?_)
                  exact leafL ⟨rfl, S⟩
                · refine fI 93 undef [(92, undef), (85, .bool (x120.Back != x133.Back))] 17 [some 16, some 9] rfl rfl (by kernel_rfl) rfl (by kernel_rfl) (by kernel_rfl) fun G a w S => ?_
                  refine sSkip (c := x120.Back != x133.Back) 9 false 85 93 S rfl rfl (by kernel_rfl) hc140 rfl (by decide) (fun a S => ?_)
                  exact leafL ⟨rfl, S⟩
                · refine fI 94 undef [(87, undef), (93, undef), (85, .bool (x120.Back != x133.Back))] 18 [some 11, some 17, some 9] rfl rfl (by kernel_rfl) rfl (by kernel_rfl) (by kernel_rfl) fun G a w S => ?_
                  refine sSkip (c := x120.Back != x133.Back) 9 false 85 94 S rfl rfl (by kernel_rfl) hc140 rfl (by decide) (fun a S => ?_)
                  exact leafL ⟨rfl, S⟩
                · refine fI 95 undef [(94, undef), (85, .bool (x120.Back != x133.Back))] 19 [some 18, some 9] rfl rfl (by kernel_rfl) rfl (by kernel_rfl) (by kernel_rfl) fun G a w S => ?_
                  refine sSkip (c := x120.Back != x133.Back) 9 false 85 95 S rfl rfl (by kernel_rfl) hc140 rfl (by decide) (fun a S => ?_)
                  exact leafL ⟨rfl, S⟩
                · refine fI 96 (.bool true) [(85, .bool (x120.Back != x133.Back)), (95, undef)] 20 [some 9, some 19] rfl rfl (by kernel_rfl) rfl (by kernel_rfl) (by kernel_rfl) fun G a w S => ?_
                  refine sPickT (b := x120.Back != x133.Back) (.bool true) S (wN rfl) rfl (by kernel_rfl) hc140 (by kernel_rfl) rfl (by decide) (fun a S => ?_)
                  exact leafL ⟨rfl, S⟩
                · exact leafT (⟨true, Option.some.inj h, S.fix [1, 2] [8, 9, 10] (by decide) (by kernel_rfl) (by kernel_rfl) (by kernel_rfl)⟩)
              · obtain ⟨r153, hx154, h⟩ := bindSome h
                obtain ⟨q155, hq156, S⟩ := pIdx (P := Try.prog) (r := r_api_Row) (v := .slice ad101 r96.1.Rows.length cp102) (xs := r96.1.Rows) (j := s111) 38 57 6 S Try.underlying38 (by kernel_rfl) (by kernel_rfl) hx134
                obtain ⟨q157, hq158, S⟩ := pFld (P := Try.prog) (r := r_api_Row) (s2 := rB) (g := (·.Back)) (q := q155) (z := x133) 57 0 0 0 S (by kernel_rfl) (by kernel_rfl) comp_api_Row_Back
                obtain ⟨u159, S⟩ := pLoad (r := rB) (q := q157) (x := x133.Back) 0 S (by kernel_rfl)
                obtain rfl : u159 = .bool x133.Back := S.mem.know (i := 1) (e := fRep rB (u159) x133.Back) (by kernel_rfl)
                obtain ⟨q160, hq161, S⟩ := pIdx (P := Try.prog) (r := r_api_Row) (v := .slice ad101 r96.1.Rows.length cp102) (xs := r96.1.Rows) (j := s111) 38 57 10 S Try.underlying38 (by kernel_rfl) (by kernel_rfl) hx134
                obtain ⟨q162, hq163, S⟩ := pFld (P := Try.prog) (r := r_api_Row) (s2 := (rL r_api_Stitch)) (g := (·.Cells)) (q := q160) (z := x133) 57 1 0 1 S (by kernel_rfl) (by kernel_rfl) comp_api_Row_Cells
                obtain ⟨u164, S⟩ := pLoad (r := (rL r_api_Stitch)) (q := q162) (x := x133.Cells) 0 S (by kernel_rfl)
                obtain ⟨ad165, cp166, _, rfl, _⟩ := S.mem.know (i := 1) (e := fRep (rL r_api_Stitch) (u164) x133.Cells) (by kernel_rfl)
                refine sDraw (nf := []) (W := [(0, 76, .pointer (some ⟨b129, 0, none⟩)), (1, 77, .bool x120.Back), (2, 78, .pointer (some ⟨b103, 1, none⟩)), (3, 79, .slice ad101 r96.1.Rows.length cp102), (4, 80, .int .i64 s111), (5, 81, q155), (6, 82, q157), (7, 83, .bool x133.Back), (8, 84, .bool (x120.Back != x133.Back)), (9, 85, .bool (x120.Back != x133.Back)), (10, 86, .pointer (some ⟨b129, 1, none⟩)), (11, 87, .slice ad127 x120.Cells.length cp128), (12, 88, .pointer (some ⟨b103, 1, none⟩)), (13, 89, .slice ad101 r96.1.Rows.length cp102), (14, 90, .int .i64 s111), (15, 91, q160), (16, 92, q162), (17, 93, .slice ad165 x133.Cells.length cp166), (18, 94, .bool r153), (19, 95, .bool (!r153)), (20, 96, .bool (!r153))]) (by kernel_rfl) S ?_
                refine node_by (A := anc_short_Read_0) (nf := []) (Y := []) (W := [(0, 76, .pointer (some ⟨b129, 0, none⟩)), (1, 77, .bool x120.Back), (2, 78, .pointer (some ⟨b103, 1, none⟩)), (3, 79, .slice ad101 r96.1.Rows.length cp102), (4, 80, .int .i64 s111), (5, 81, q155), (6, 82, q157), (7, 83, .bool x133.Back), (8, 84, .bool (x120.Back != x133.Back)), (9, 85, .bool (x120.Back != x133.Back)), (10, 86, .pointer (some ⟨b129, 1, none⟩)), (11, 87, .slice ad127 x120.Cells.length cp128), (12, 88, .pointer (some ⟨b103, 1, none⟩)), (13, 89, .slice ad101 r96.1.Rows.length cp102), (14, 90, .int .i64 s111), (15, 91, q160), (16, 92, q162), (17, 93, .slice ad165 x133.Cells.length cp166), (18, 94, .bool r153), (19, 95, .bool (!r153)), (20, 96, .bool (!r153))]) 21 (by kernel_rfl) (by kernel_rfl) (by kernel_rfl) (by kernel_rfl) (by kernel_rfl) [0, 1, 2, 3, 4, 5, 6, 7, 8, 9, 10, 11, 12, 13, 14, 15, 16, 17, 18, 19, 20] (by kernel_rfl) (by decide) (by decide) (aF 0 20 (by decide) ?_ (aF 1 19 (by decide) ?_ (aF 2 18 (by decide) ?_ (aF 3 17 (by decide) ?_ (aF 4 16 (by decide) ?_ (aF 5 15 (by decide) ?_ (aF 6 14 (by decide) ?_ (aF 7 13 (by decide) ?_ (aF 8 12 (by decide) ?_ (aF 9 11 (by decide) ?_ (aF 10 10 (by decide) ?_ (aF 11 9 (by decide) ?_ (aF 12 8 (by decide) ?_ (aF 13 7 (by decide) ?_ (aF 14 6 (by decide) ?_ (aF 15 5 (by decide) ?_ (aF 16 4 (by decide) ?_ (aF 17 3 (by decide) ?_ (aF 18 2 (by decide) ?_ (aF 19 1 (by decide) ?_ (aF 20 0 (by decide) ?_ (trivial)))))))))))))))))))))) [(1, .pointer (some ⟨b6, 0, none⟩)), (5, .slice ad21 o20.length cp22), (8, .pointer (some ⟨b103, 0, none⟩)), (69, .slice ad3 p0.Rows.length cp4), (70, .int .i64 (p0.Rows.length : Int)), (71, .int .i64 s111), (86, .pointer (some ⟨b129, 1, none⟩)), (87, .slice ad127 x120.Cells.length cp128), (88, .pointer (some ⟨b103, 1, none⟩)), (89, .slice ad101 r96.1.Rows.length cp102), (90, .int .i64 s111), (91, q160), (92, q162), (93, .slice ad165 x133.Cells.length cp166), (94, .bool r153), (95, .bool (!r153)), (96, .bool (!r153))] (fin_of [none, none, none, none, none, none, some 10, some 11, some 12, some 13, some 14, some 15, some 16, some 17, some 18, some 19, some 20] rfl (by kernel_rfl) (by kernel_rfl)) (fun _ a w S => ?_)
                · refine fI 76 (.pointer (some ⟨b129, 0, none⟩)) [(11, .pointer (some ⟨b129, 0, none⟩))] 0 [none] rfl rfl (by kernel_rfl) rfl (by kernel_rfl) (by kernel_rfl) fun G a w S => ?_
                  refine sField (b := b129) (off := 0) 0 0 S (wN rfl) rfl (by kernel_rfl) (by kernel_rfl) rfl rfl (by decide) (fun a S => ?_)
                  exact leafL ⟨rfl, S⟩
                · refine fI 77 (.bool x120.Back) [(76, .pointer (some ⟨b129, 0, none⟩))] 1 [some 0] rfl rfl (by kernel_rfl) rfl (by kernel_rfl) (by kernel_rfl) fun G a w S => ?_
                  refine sLoad1 (p := b129) (off := 0) (T := 57) (vs := [.bool x120.Back, .slice ad127 x120.Cells.length cp128]) 0 (.bool x120.Back) S (wN rfl) rfl (by kernel_rfl) (by kernel_rfl) (by kernel_rfl) rfl rfl (by decide) (fun a S => ?_)
                  exact leafL ⟨rfl, S⟩
                · refine fI 78 (.pointer (some ⟨b103, 1, none⟩)) [(8, .pointer (some ⟨b103, 0, none⟩))] 2 [none] rfl rfl (by kernel_rfl) rfl (by kernel_rfl) (by kernel_rfl) fun G a w S => ?_
                  refine sField (b := b103) (off := 0) 1 1 S (wN rfl) rfl (by kernel_rfl) (by kernel_rfl) rfl rfl (by decide) (fun a S => ?_)
                  exact leafL ⟨rfl, S⟩
                · refine fI 79 (.slice ad101 r96.1.Rows.length cp102) [(78, .pointer (some ⟨b103, 1, none⟩))] 3 [some 2] rfl rfl (by kernel_rfl) rfl (by kernel_rfl) (by kernel_rfl) fun G a w S => ?_
                  refine sLoad1 (p := b103) (off := 1) (T := 40) (vs := [.int .i64 r96.1.Start, .slice ad101 r96.1.Rows.length cp102]) 2 (.slice ad101 r96.1.Rows.length cp102) S (wN rfl) rfl (by kernel_rfl) (by kernel_rfl) (by kernel_rfl) rfl rfl (by decide) (fun a S => ?_)
                  exact leafL ⟨rfl, S⟩
                · refine fI 80 (.int .i64 s111) [(10, .int .i64 s111)] 4 [none] rfl rfl (by kernel_rfl) rfl (by kernel_rfl) (by kernel_rfl) fun G a w S => ?_
                  refine sMove (.int .i64 s111) S (wN rfl) (.inl rfl) (by kernel_rfl) rfl (by decide) (fun a S => ?_)
                  exact leafL ⟨rfl, S⟩
                · refine fI 81 q155 [(79, .slice ad101 r96.1.Rows.length cp102), (80, .int .i64 s111)] 5 [some 3, some 4] rfl rfl (by kernel_rfl) rfl (by kernel_rfl) (by kernel_rfl) fun G a w S => ?_
                  refine sIdxV (v := .slice ad101 r96.1.Rows.length cp102) (k := .i64) (j := s111) S (wN rfl) rfl (by kernel_rfl) (by kernel_rfl) hq156 rfl (by decide) (fun a S => ?_)
                  exact leafL ⟨rfl, S⟩
                · refine fI 82 q157 [(81, q155)] 6 [some 5] rfl rfl (by kernel_rfl) rfl (by kernel_rfl) (by kernel_rfl) fun G a w S => ?_
                  refine sFldV (q := q155) S (wN rfl) rfl (by kernel_rfl) hq158 rfl (by decide) (fun a S => ?_)
                  exact leafL ⟨rfl, S⟩
                · refine fI 83 (.bool x133.Back) [(82, q157)] 7 [some 6] rfl rfl (by kernel_rfl) rfl (by kernel_rfl) (by kernel_rfl) fun G a w S => ?_
                  refine sLoadV1 (vq := q157) 4 (.bool x133.Back) S (wN rfl) rfl (by kernel_rfl) (by kernel_rfl) (by kernel_rfl) rfl (by decide) (fun a S => ?_)
                  exact leafL ⟨rfl, S⟩
                · refine fI 84 (.bool (x120.Back != x133.Back)) [(77, .bool x120.Back), (83, .bool x133.Back)] 8 [some 1, some 7] rfl rfl (by kernel_rfl) rfl (by kernel_rfl) (by kernel_rfl) fun G a w S => ?_
                  refine sBin (.bool (x120.Back != x133.Back)) S (wN rfl) rfl (by kernel_rfl) (by kernel_rfl) (bNeB _ _ _ _ Try.underlying4 x120.Back x133.Back) rfl (by decide) (fun a S => ?_)
                  exact leafL ⟨rfl, S⟩
                · refine fI 85 (.bool (x120.Back != x133.Back)) [(84, .bool (x120.Back != x133.Back))] 9 [some 8] rfl rfl (by kernel_rfl) rfl (by kernel_rfl) (by kernel_rfl) fun G a w S => ?_
                  refine sMove (.bool (x120.Back != x133.Back)) S (wN rfl) (.inl rfl) (by kernel_rfl) rfl (by decide) (fun a S => ?_)
                  exact leafL ⟨rfl, S⟩
                · refine fI 86 (.pointer (some ⟨b129, 1, none⟩)) [(11, .pointer (some ⟨b129, 0, none⟩)), (85, .bool (x120.Back != x133.Back))] 10 [none, some 9] rfl rfl (by kernel_rfl) rfl (by kernel_rfl) (by kernel_rfl) fun G a w S => ?_
                  refine sField (b := b129) (off := 0) 1 1 S (wG (c := x120.Back != x133.Back) 9 false 85 rfl rfl (by kernel_rfl) hc140) rfl (by kernel_rfl) (by kernel_rfl) rfl rfl (by decide) (fun a S => ?_)
                  exact leafL ⟨rfl, S⟩
                · refine fI 87 (.slice ad127 x120.Cells.length cp128) [(86, .pointer (some ⟨b129, 1, none⟩)), (85, .bool (x120.Back != x133.Back))] 11 [some 10, some 9] rfl rfl (by kernel_rfl) rfl (by kernel_rfl) (by kernel_rfl) fun G a w S => ?_
                  refine sLoad1 (p := b129) (off := 1) (T := 57) (vs := [.bool x120.Back, .slice ad127 x120.Cells.length cp128]) 0 (.slice ad127 x120.Cells.length cp128) S (wG (c := x120.Back != x133.Back) 9 false 85 rfl rfl (by kernel_rfl) hc140) rfl (by kernel_rfl) (by kernel_rfl) (by kernel_rfl) rfl rfl (by decide) (fun a S => ?_)
                  exact leafL ⟨rfl, S⟩
                · refine fI 88 (.pointer (some ⟨b103, 1, none⟩)) [(8, .pointer (some ⟨b103, 0, none⟩)), (85, .bool (x120.Back != x133.Back))] 12 [none, some 9] rfl rfl (by kernel_rfl) rfl (by kernel_rfl) (by kernel_rfl) fun G a w S => ?_
                  refine sField (b := b103) (off := 0) 1 1 S (wG (c := x120.Back != x133.Back) 9 false 85 rfl rfl (by kernel_rfl) hc140) rfl (by kernel_rfl) (by kernel_rfl) rfl rfl (by decide) (fun a S => ?_)
                  exact leafL ⟨rfl, S⟩
                · refine fI 89 (.slice ad101 r96.1.Rows.length cp102) [(88, .pointer (some ⟨b103, 1, none⟩)), (85, .bool (x120.Back != x133.Back))] 13 [some 12, some 9] rfl rfl (by kernel_rfl) rfl (by kernel_rfl) (by kernel_rfl) fun G a w S => ?_
                  refine sLoad1 (p := b103) (off := 1) (T := 40) (vs := [.int .i64 r96.1.Start, .slice ad101 r96.1.Rows.length cp102]) 2 (.slice ad101 r96.1.Rows.length cp102) S (wG (c := x120.Back != x133.Back) 9 false 85 rfl rfl (by kernel_rfl) hc140) rfl (by kernel_rfl) (by kernel_rfl) (by kernel_rfl) rfl rfl (by decide) (fun a S => ?_)
                  exact leafL ⟨rfl, S⟩
                · refine fI 90 (.int .i64 s111) [(10, .int .i64 s111), (85, .bool (x120.Back != x133.Back))] 14 [none, some 9] rfl rfl (by kernel_rfl) rfl (by kernel_rfl) (by kernel_rfl) fun G a w S => ?_
                  refine sMove (.int .i64 s111) S (wG (c := x120.Back != x133.Back) 9 false 85 rfl rfl (by kernel_rfl) hc140) (.inl rfl) (by kernel_rfl) rfl (by decide) (fun a S => ?_)
                  exact leafL ⟨rfl, S⟩
                · refine fI 91 q160 [(89, .slice ad101 r96.1.Rows.length cp102), (90, .int .i64 s111), (85, .bool (x120.Back != x133.Back))] 15 [some 13, some 14, some 9] rfl rfl (by kernel_rfl) rfl (by kernel_rfl) (by kernel_rfl) fun G a w S => ?_
                  refine sIdxV (v := .slice ad101 r96.1.Rows.length cp102) (k := .i64) (j := s111) S (wG (c := x120.Back != x133.Back) 9 false 85 rfl rfl (by kernel_rfl) hc140) rfl (by kernel_rfl) (by kernel_rfl) hq161 rfl (by decide) (fun a S => ?_)
                  exact leafL ⟨rfl, S⟩
                · refine fI 92 q162 [(91, q160), (85, .bool (x120.Back != x133.Back))] 16 [some 15, some 9] rfl rfl (by kernel_rfl) rfl (by kernel_rfl) (by kernel_rfl) fun G a w S => ?_
                  refine sFldV (q := q160) S (wG (c := x120.Back != x133.Back) 9 false 85 rfl rfl (by kernel_rfl) hc140) rfl (by kernel_rfl) hq163 rfl (by decide) (fun a S => ?_)
                  exact leafL ⟨rfl, S⟩
                · refine fI 93 (.slice ad165 x133.Cells.length cp166) [(92, q162), (85, .bool (x120.Back != x133.Back))] 17 [some 16, some 9] rfl rfl (by kernel_rfl) rfl (by kernel_rfl) (by kernel_rfl) fun G a w S => ?_
                  refine sLoadV1 (vq := q162) 0 (.slice ad165 x133.Cells.length cp166) S (wG (c := x120.Back != x133.Back) 9 false 85 rfl rfl (by kernel_rfl) hc140) rfl (by kernel_rfl) (by kernel_rfl) (by kernel_rfl) rfl (by decide) (fun a S => ?_)
                  exact leafL ⟨rfl, S⟩
                · refine fI 94 (.bool r153) [(87, .slice ad127 x120.Cells.length cp128), (93, .slice ad165 x133.Cells.length cp166), (85, .bool (x120.Back != x133.Back))] 18 [some 11, some 17, some 9] rfl rfl (by kernel_rfl) rfl (by kernel_rfl) (by kernel_rfl) fun G a w S => ?_
                  have S1 := S.mem
                  refine sCallQ (X := Unit) (f := 27) (vs := [.slice ad127 x120.Cells.length cp128, .slice ad165 x133.Cells.length cp166]) (val := fun _ => .bool r153) S (wG (c := x120.Back != x133.Back) 9 false 85 rfl rfl (by kernel_rfl) hc140) rfl callee27 (by kernel_rfl) (S1.quiet [8, 1] (by kernel_rfl)) (fun E1 w1 S1 => c_stitch_Same E1 w1 x120.Cells (.slice ad127 x120.Cells.length cp128) x133.Cells (.slice ad165 x133.Cells.length cp166) r153 hx154 S1) rfl (by decide) (fun _ a w S => ?_)
                  exact leafL ⟨rfl, S⟩
                · refine fI 95 (.bool (!r153)) [(94, .bool r153), (85, .bool (x120.Back != x133.Back))] 19 [some 18, some 9] rfl rfl (by kernel_rfl) rfl (by kernel_rfl) (by kernel_rfl) fun G a w S => ?_
                  refine sNot (b := r153) S (wG (c := x120.Back != x133.Back) 9 false 85 rfl rfl (by kernel_rfl) hc140) rfl (by kernel_rfl) rfl (by decide) (fun a S => ?_)
                  exact leafL ⟨rfl, S⟩
                · refine fI 96 (.bool (!r153)) [(85, .bool (x120.Back != x133.Back)), (95, .bool (!r153))] 20 [some 9, some 19] rfl rfl (by kernel_rfl) rfl (by kernel_rfl) (by kernel_rfl) fun G a w S => ?_
                  refine sPickF (b := x120.Back != x133.Back) (.bool (!r153)) S (wN rfl) rfl (by kernel_rfl) hc140 (by kernel_rfl) rfl (by decide) (fun a S => ?_)
                  exact leafL ⟨rfl, S⟩
                · exact leafT (⟨!r153, Option.some.inj h, S.fix [1, 2] [12, 13, 14] (by decide) (by kernel_rfl) (by kernel_rfl) (by kernel_rfl)⟩)
            · obtain ⟨o130, rfl, S⟩ := hI
              have h := g132
              clear g132
              try dsimp only at h
              rcases iteSome h with ⟨hc167, h⟩ | ⟨hc167, h⟩
              · refine sCondT (b := o130) S (by kernel_rfl) hc167 ?_
                refine sSeq (fun K168 hK168 => ?_)
                refine sRegion ?_
                refine sMove (.int .i64 0) S (wN rfl) (.inr rfl) (by kernel_rfl) rfl (by decide) (fun a S => ?_)
                refine sMove (.slice none 0 0) S (wN rfl) (.inr rfl) (by kernel_rfl) rfl (by decide) (fun a S => ?_)
                refine sMove (.int .i64 8) S (wN rfl) (.inr rfl) (by kernel_rfl) rfl (by decide) (fun a S => ?_)
                refine leafL (leafT (hK168 _ _ ?_))
                obtain rfl := Option.some.inj h
                obtain rfl := hu112 _ rfl
                have h := g113
                clear g113
                try dsimp only at h
                obtain rfl := Option.some.inj h
                have h := g109
                clear g109
                try dsimp only at h
                obtain rfl := Option.some.inj h
                have S := S.learn (fRep (rL (rI .i64)) (.slice none 0 0) ([] : (List Int))) (rL_nil _ _ _)
                exact wp_ret (rBlock (rThen (rThen (rBlock (rThen (sRet (.tuple #[.int .i64 0, .slice none 0 0, .int .i64 8]) S (rsl3 rfl (rvT (t := 2) (v := .int .i64 0) S (by kernel_rfl)) (rvT (t := 3) (v := .slice none 0 0) S (by kernel_rfl)) (rvT (t := 4) (v := .int .i64 8) S (by kernel_rfl))) ⟨(.slice none 0 0), rfl, S.mem.sel [] [0] (by decide) (by kernel_rfl) (by kernel_rfl)⟩))))))
              · refine sCondF (b := o130) S (by kernel_rfl) hc167 ?_
                refine wp_skip (leafB (leafT (hK118 _ _ ?_)))
                refine sRegion ?_
                refine sBin (.int .i64 (w64 (s111 + 1))) S (wN rfl) rfl (by kernel_rfl) (by kernel_rfl) (bAdd _ _ _ _ s111 1) rfl (by decide) (fun a S => ?_)
                refine sMove (.int .i64 (w64 (s111 + 1))) S (wN rfl) (.inl rfl) (by kernel_rfl) rfl (by decide) (fun a S => ?_)
                exact leafL (leafT (⟨w64 (s111 + 1), (Option.some.inj h).symm, (S.fix [0, 1] [0, 1, 2] (by decide) (by kernel_rfl) (by kernel_rfl) (by kernel_rfl))⟩))
          · refine sCondF (b := decide (s111 < (p0.Rows.length : Int))) S (by kernel_rfl) hc117 ?_
            obtain rfl := Option.some.inj h
            obtain rfl := hu112 _ rfl
            have h := g113
            clear g113
            try dsimp only at h
            exact wp_exit (xThen (xThen (xHit (leafT (⟨Option.some.inj h, S.fix [0] [0, 1] (by decide) (by kernel_rfl) (by kernel_rfl) (by kernel_rfl)⟩)))))
        · obtain ⟨rfl, S⟩ := hI
          have h := g109
          clear g109
          try dsimp only at h
          refine sSeq (fun K169 hK169 => ?_)
          refine sRegion ?_
          refine sField (b := b6) (off := 0) 0 0 S (wN rfl) rfl (by kernel_rfl) (by kernel_rfl) rfl rfl (by decide) (fun a S => ?_)
          refine sLoad1 (p := b6) (off := 0) (T := 40) (vs := [.int .i64 p0.Start, .slice ad3 p0.Rows.length cp4]) 0 (.int .i64 p0.Start) S (wN rfl) rfl (by kernel_rfl) (by kernel_rfl) (by kernel_rfl) rfl rfl (by decide) (fun a S => ?_)
          refine sMove (.slice ad21 o20.length cp22) S (wN rfl) (.inl rfl) (by kernel_rfl) rfl (by decide) (fun a S => ?_)
          refine sMove (.int .i64 p0.Start) S (wN rfl) (.inr rfl) (by kernel_rfl) rfl (by decide) (fun a S => ?_)
          refine sMove (.slice ad21 o20.length cp22) S (wN rfl) (.inr rfl) (by kernel_rfl) rfl (by decide) (fun a S => ?_)
          refine sMove (.int .i64 0) S (wN rfl) (.inr rfl) (by kernel_rfl) rfl (by decide) (fun a S => ?_)
          refine leafL (leafT (hK169 _ _ ?_))
          obtain rfl := Option.some.inj h
          exact wp_ret (sRet (.tuple #[.int .i64 p0.Start, .slice ad21 o20.length cp22, .int .i64 0]) S (rsl3 rfl (rvT (t := 2) (v := .int .i64 p0.Start) S (by kernel_rfl)) (rvT (t := 3) (v := .slice ad21 o20.length cp22) S (by kernel_rfl)) (rvT (t := 4) (v := .int .i64 0) S (by kernel_rfl))) ⟨(.slice ad21 o20.length cp22), rfl, S.mem.sel [] [0] (by decide) (by kernel_rfl) (by kernel_rfl)⟩)

end Go.Proofs.Ytoiehdlcfehmlaa
namespace Go.Proofs.Ytoiehdlcfehmlaa
open Go.RowKit
set_option linter.unusedVariables false

noncomputable def raddleref38_Check_l1 (p1 : (List Int)) (p0 : Int) : Int → Option (Int ⊕ (Int ⊕ Unit)) := fun s0 => match s0 with
  | s18 =>
    if decide (s18 < (p1.length : Int)) then
      Option.bind (α := Bool) (
        Option.bind (idxO p1 s18) fun x29 =>
        if decide (x29 < 1) then
          some true
        else
          some (decide (p0 < x29))) fun o26 =>
      if o26 then
        some (.inr (.inl 2))
      else
        some (.inl (w64 (s18 + 1)))
    else
      some (.inr (.inr ()))
noncomputable def F_raddleref38_Check (p0 : Int) (p1 : (List Int)) : Option Int :=
  Option.bind (α := Bool) (
    if decide (p0 < 1) then
      some true
    else
      some (decide (200 < p0))) fun o5 =>
  if o5 then
    some 2
  else
    if decide (50 < (p1.length : Int)) then
      some 4
    else
      Option.bind (α := Unit ⊕ Int) (
        Option.bind (whileO (raddleref38_Check_l1 p1 p0) 0) fun z0 => match z0 with
          | .inl z =>
            some (.inr z)
          | .inr _ =>
            some (.inl ())) fun z0 => match z0 with
        | .inl _ =>
          some 0
        | .inr z =>
          some z
set_option maxHeartbeats 4000000 in
set_option maxRecDepth 100000 in
theorem c_raddleref38_Check (E : Nat → Prop) (w0 : World) (p0 : Int) (p1 : (List Int)) (v1 : Value) (r : Int) (h : F_raddleref38_Check p0 p1 = some r) (S : St0 E [] w0 w0 [] [fRep (rL (rI .i64)) (v1) p1]) :
    Calls Try.prog 21 #[.int .i64 p0, v1] w0 (Ret (X := Unit) E [] w0 (fun _ => .int .i64 r) (fun _ => []) (fun _ => [])) := by
  unfold F_raddleref38_Check at h
  obtain ⟨ad1, cp2, _, rfl, _⟩ := S.know (i := 0) (e := fRep (rL (rI .i64)) (v1) p1) (by kernel_rfl)
  refine sEnter (args := [.int .i64 p0, .slice ad1 p1.length cp2]) 34 Try.func21 rfl rfl (by simp) S (fun a S => ?_)
  refine sSeq (fun K3 hK3 => ?_)
  refine sRegion ?_
  refine sMove (.int .i64 0) S (wN rfl) (.inr rfl) (by kernel_rfl) rfl (by decide) (fun a S => ?_)
  refine leafL (leafT (hK3 _ _ ?_))
  refine sSeq (fun K4 hK4 => ?_)
  obtain ⟨t6, h, g7⟩ := bindSome h
  refine sCut (fun a w => ∃ o5, o5 = t6 ∧ St [] E [] w0 34 a w [(0, .int .i64 p0), (1, .slice ad1 p1.length cp2), (11, .bool o5)] [] [fRep (rL (rI .i64)) (.slice ad1 p1.length cp2) p1]) ?_ (fun a w hI => ?_)
  · refine sRegion ?_
    refine sMove (.int .i64 p0) S (wN rfl) (.inl rfl) (by kernel_rfl) rfl (by decide) (fun a S => ?_)
    refine sBin (.bool (decide (p0 < 1))) S (wN rfl) rfl (by kernel_rfl) (by kernel_rfl) (bLt _ _ _ _ .i64 p0 1) rfl (by decide) (fun a S => ?_)
    refine sMove (.bool (decide (p0 < 1))) S (wN rfl) (.inl rfl) (by kernel_rfl) rfl (by decide) (fun a S => ?_)
    rcases iteSome h with ⟨hc8, h⟩ | ⟨hc8, h⟩
    · refine sSkip (c := decide (p0 < 1)) 2 false 8 9 S rfl rfl (by kernel_rfl) hc8 rfl (by decide) (fun a S => ?_)
      refine sSkip (c := decide (p0 < 1)) 2 false 8 10 S rfl rfl (by kernel_rfl) hc8 rfl (by decide) (fun a S => ?_)
      refine sPickT (b := decide (p0 < 1)) (.bool true) S (wN rfl) rfl (by kernel_rfl) hc8 (by kernel_rfl) rfl (by decide) (fun a S => ?_)
      exact leafL (leafT (⟨true, Option.some.inj h, S.fix [] [0] (by decide) (by kernel_rfl) (by kernel_rfl) (by kernel_rfl)⟩))
    · refine sMove (.int .i64 p0) S (wG (c := decide (p0 < 1)) 2 false 8 rfl rfl (by kernel_rfl) hc8) (.inl rfl) (by kernel_rfl) rfl (by decide) (fun a S => ?_)
      refine sBin (.bool (decide (200 < p0))) S (wG (c := decide (p0 < 1)) 2 false 8 rfl rfl (by kernel_rfl) hc8) rfl (by kernel_rfl) (by kernel_rfl) (bGt _ _ _ _ .i64 p0 200) rfl (by decide) (fun a S => ?_)
      refine sPickF (b := decide (p0 < 1)) (.bool (decide (200 < p0))) S (wN rfl) rfl (by kernel_rfl) hc8 (by kernel_rfl) rfl (by decide) (fun a S => ?_)
      exact leafL (leafT (⟨decide (200 < p0), Option.some.inj h, S.fix [] [0] (by decide) (by kernel_rfl) (by kernel_rfl) (by kernel_rfl)⟩))
  · obtain ⟨o5, rfl, S⟩ := hI
    have h := g7
    clear g7
    try dsimp only at h
    rcases iteSome h with ⟨hc9, h⟩ | ⟨hc9, h⟩
    · refine sCondT (b := o5) S (by kernel_rfl) hc9 ?_
      refine sSeq (fun K10 hK10 => ?_)
      refine sRegion ?_
      refine sMove (.int .i64 2) S (wN rfl) (.inr rfl) (by kernel_rfl) rfl (by decide) (fun a S => ?_)
      refine leafL (leafT (hK10 _ _ ?_))
      obtain rfl := Option.some.inj h
      exact wp_ret (rThen (sRet (.int .i64 2) S (rsl1 rfl (rvT (t := 4) (v := .int .i64 2) S (by kernel_rfl))) ⟨(), rfl, S.mem.sel [] [] (by decide) (by kernel_rfl) (by kernel_rfl)⟩))
    · refine sCondF (b := o5) S (by kernel_rfl) hc9 ?_
      refine wp_skip (leafT (hK4 _ _ ?_))
      refine sSeq (fun K11 hK11 => ?_)
      refine sSeq (fun K12 hK12 => ?_)
      refine sRegion ?_
      refine sMove (.slice ad1 p1.length cp2) S (wN rfl) (.inl rfl) (by kernel_rfl) rfl (by decide) (fun a S => ?_)
      refine sLen (ad := ad1) (m := p1.length) (c := cp2) S (wN rfl) rfl Try.underlying22 (by kernel_rfl) rfl (by decide) (fun a S => ?_)
      refine sBin (.bool (decide (50 < (p1.length : Int)))) S (wN rfl) rfl (by kernel_rfl) (by kernel_rfl) (bGt _ _ _ _ .i64 (p1.length : Int) 50) rfl (by decide) (fun a S => ?_)
      refine leafL (leafT (hK12 _ _ ?_))
      rcases iteSome h with ⟨hc13, h⟩ | ⟨hc13, h⟩
      · refine sCondT (b := decide (50 < (p1.length : Int))) S (by kernel_rfl) hc13 ?_
        refine sSeq (fun K14 hK14 => ?_)
        refine sRegion ?_
        refine sMove (.int .i64 4) S (wN rfl) (.inr rfl) (by kernel_rfl) rfl (by decide) (fun a S => ?_)
        refine leafL (leafT (hK14 _ _ ?_))
        obtain rfl := Option.some.inj h
        exact wp_ret (rThen (sRet (.int .i64 4) S (rsl1 rfl (rvT (t := 4) (v := .int .i64 4) S (by kernel_rfl))) ⟨(), rfl, S.mem.sel [] [] (by decide) (by kernel_rfl) (by kernel_rfl)⟩))
      · refine sCondF (b := decide (50 < (p1.length : Int))) S (by kernel_rfl) hc13 ?_
        refine wp_skip (leafT (hK11 _ _ ?_))
        obtain ⟨t15, h, g16⟩ := bindSome h
        refine sCut (fun a w => .inl () = t15 ∧ St [] E [] w0 34 a w [] [] []) ?_ (fun a w hI => ?_)
        · refine sSeq (fun K17 hK17 => ?_)
          refine sRegion ?_
          refine sMove (.int .i64 0) S (wN rfl) (.inr rfl) (by kernel_rfl) rfl (by decide) (fun a S => ?_)
          refine leafL (leafT (hK17 _ _ ?_))
          refine wp_block ?_
          obtain ⟨t21, hl, g20⟩ := bindSome h
          refine sLoop hl (fun s0 a w => match s0 with | s18 => St [] E [] w0 34 a w [(0, .int .i64 p0), (1, .slice ad1 p1.length cp2), (5, .int .i64 s18)] [] [fRep (rL (rI .i64)) (.slice ad1 p1.length cp2) p1]) (S.fix [] [0] (by decide) (by kernel_rfl) (by kernel_rfl) (by kernel_rfl)) ?_
          clear hl h
          intro s18 a w c0 hI h hu19
          unfold raddleref38_Check_l1 at h
          dsimp only at h hI
          have S := hI
          refine sSeq (fun K22 hK22 => ?_)
          refine sSeq (fun K23 hK23 => ?_)
          refine sRegion ?_
          refine sMove (.int .i64 s18) S (wN rfl) (.inl rfl) (by kernel_rfl) rfl (by decide) (fun a S => ?_)
          refine sMove (.slice ad1 p1.length cp2) S (wN rfl) (.inl rfl) (by kernel_rfl) rfl (by decide) (fun a S => ?_)
          refine sLen (ad := ad1) (m := p1.length) (c := cp2) S (wN rfl) rfl Try.underlying22 (by kernel_rfl) rfl (by decide) (fun a S => ?_)
          refine sBin (.bool (decide (s18 < (p1.length : Int)))) S (wN rfl) rfl (by kernel_rfl) (by kernel_rfl) (bLt _ _ _ _ .i64 s18 (p1.length : Int)) rfl (by decide) (fun a S => ?_)
          refine leafL (leafT (hK23 _ _ ?_))
          rcases iteSome h with ⟨hc24, h⟩ | ⟨hc24, h⟩
          · refine sCondT (b := decide (s18 < (p1.length : Int))) S (by kernel_rfl) hc24 ?_
            refine wp_skip (leafT (hK22 _ _ ?_))
            refine sSeq (fun K25 hK25 => ?_)
            refine wp_block ?_
            obtain ⟨t27, h, g28⟩ := bindSome h
            refine sCut (fun a w => ∃ o26, o26 = t27 ∧ St [] E [] w0 34 a w [(0, .int .i64 p0), (1, .slice ad1 p1.length cp2), (5, .int .i64 s18), (33, .bool o26)] [] [fRep (rL (rI .i64)) (.slice ad1 p1.length cp2) p1]) ?_ (fun a w hI => ?_)
            · refine sRegion ?_
              refine sMove (.slice ad1 p1.length cp2) S (wN rfl) (.inl rfl) (by kernel_rfl) rfl (by decide) (fun a S => ?_)
              refine sMove (.int .i64 s18) S (wN rfl) (.inl rfl) (by kernel_rfl) rfl (by decide) (fun a S => ?_)
              obtain ⟨x29, hx30, h⟩ := bindSome h
              obtain ⟨q31, hq32, S⟩ := pIdx (P := Try.prog) (r := (rI .i64)) (v := .slice ad1 p1.length cp2) (xs := p1) (j := s18) 22 3 0 S Try.underlying22 (by kernel_rfl) (by kernel_rfl) hx30
              refine sIdxV (v := .slice ad1 p1.length cp2) (k := .i64) (j := s18) S (wN rfl) rfl (by kernel_rfl) (by kernel_rfl) hq32 rfl (by decide) (fun a S => ?_)
              obtain ⟨u33, S⟩ := pLoad (r := (rI .i64)) (q := q31) (x := x29) 0 S (by kernel_rfl)
              obtain rfl : u33 = .int .i64 x29 := S.mem.know (i := 1) (e := fRep (rI .i64) (u33) x29) (by kernel_rfl)
              refine sLoadV1 (vq := q31) 0 (.int .i64 x29) S (wN rfl) rfl (by kernel_rfl) (by kernel_rfl) (by kernel_rfl) rfl (by decide) (fun a S => ?_)
              refine sBin (.bool (decide (x29 < 1))) S (wN rfl) rfl (by kernel_rfl) (by kernel_rfl) (bLt _ _ _ _ .i64 x29 1) rfl (by decide) (fun a S => ?_)
              refine sMove (.bool (decide (x29 < 1))) S (wN rfl) (.inl rfl) (by kernel_rfl) rfl (by decide) (fun a S => ?_)
              rcases iteSome h with ⟨hc34, h⟩ | ⟨hc34, h⟩
              · refine sSkip (c := decide (x29 < 1)) 5 false 26 27 S rfl rfl (by kernel_rfl) hc34 rfl (by decide) (fun a S => ?_)
                refine sSkip (c := decide (x29 < 1)) 5 false 26 28 S rfl rfl (by kernel_rfl) hc34 rfl (by decide) (fun a S => ?_)
                refine sSkip (c := decide (x29 < 1)) 5 false 26 29 S rfl rfl (by kernel_rfl) hc34 rfl (by decide) (fun a S => ?_)
                refine sSkip (c := decide (x29 < 1)) 5 false 26 30 S rfl rfl (by kernel_rfl) hc34 rfl (by decide) (fun a S => ?_)
                refine sSkip (c := decide (x29 < 1)) 5 false 26 31 S rfl rfl (by kernel_rfl) hc34 rfl (by decide) (fun a S => ?_)
                refine sSkip (c := decide (x29 < 1)) 5 false 26 32 S rfl rfl (by kernel_rfl) hc34 rfl (by decide) (fun a S => ?_)
                refine sPickT (b := decide (x29 < 1)) (.bool true) S (wN rfl) rfl (by kernel_rfl) hc34 (by kernel_rfl) rfl (by decide) (fun a S => ?_)
                exact leafL (leafT (⟨true, Option.some.inj h, S.fix [] [3] (by decide) (by kernel_rfl) (by kernel_rfl) (by kernel_rfl)⟩))
              · refine sMove (.slice ad1 p1.length cp2) S (wG (c := decide (x29 < 1)) 5 false 26 rfl rfl (by kernel_rfl) hc34) (.inl rfl) (by kernel_rfl) rfl (by decide) (fun a S => ?_)
                refine sMove (.int .i64 s18) S (wG (c := decide (x29 < 1)) 5 false 26 rfl rfl (by kernel_rfl) hc34) (.inl rfl) (by kernel_rfl) rfl (by decide) (fun a S => ?_)
                obtain ⟨q35, hq36, S⟩ := pIdx (P := Try.prog) (r := (rI .i64)) (v := .slice ad1 p1.length cp2) (xs := p1) (j := s18) 22 3 3 S Try.underlying22 (by kernel_rfl) (by kernel_rfl) hx30
                refine sIdxV (v := .slice ad1 p1.length cp2) (k := .i64) (j := s18) S (wG (c := decide (x29 < 1)) 5 false 26 rfl rfl (by kernel_rfl) hc34) rfl (by kernel_rfl) (by kernel_rfl) hq36 rfl (by decide) (fun a S => ?_)
                obtain ⟨u37, S⟩ := pLoad (r := (rI .i64)) (q := q35) (x := x29) 0 S (by kernel_rfl)
                obtain rfl : u37 = .int .i64 x29 := S.mem.know (i := 1) (e := fRep (rI .i64) (u37) x29) (by kernel_rfl)
                refine sLoadV1 (vq := q35) 0 (.int .i64 x29) S (wG (c := decide (x29 < 1)) 5 false 26 rfl rfl (by kernel_rfl) hc34) rfl (by kernel_rfl) (by kernel_rfl) (by kernel_rfl) rfl (by decide) (fun a S => ?_)
                refine sMove (.int .i64 p0) S (wG (c := decide (x29 < 1)) 5 false 26 rfl rfl (by kernel_rfl) hc34) (.inl rfl) (by kernel_rfl) rfl (by decide) (fun a S => ?_)
                refine sBin (.bool (decide (p0 < x29))) S (wG (c := decide (x29 < 1)) 5 false 26 rfl rfl (by kernel_rfl) hc34) rfl (by kernel_rfl) (by kernel_rfl) (bGt _ _ _ _ .i64 x29 p0) rfl (by decide) (fun a S => ?_)
                refine sPickF (b := decide (x29 < 1)) (.bool (decide (p0 < x29))) S (wN rfl) rfl (by kernel_rfl) hc34 (by kernel_rfl) rfl (by decide) (fun a S => ?_)
                exact leafL (leafT (⟨decide (p0 < x29), Option.some.inj h, S.fix [] [6] (by decide) (by kernel_rfl) (by kernel_rfl) (by kernel_rfl)⟩))
            · obtain ⟨o26, rfl, S⟩ := hI
              have h := g28
              clear g28
              try dsimp only at h
              rcases iteSome h with ⟨hc38, h⟩ | ⟨hc38, h⟩
              · refine sCondT (b := o26) S (by kernel_rfl) hc38 ?_
                refine sSeq (fun K39 hK39 => ?_)
                refine sRegion ?_
                refine sMove (.int .i64 2) S (wN rfl) (.inr rfl) (by kernel_rfl) rfl (by decide) (fun a S => ?_)
                refine leafL (leafT (hK39 _ _ ?_))
                obtain rfl := Option.some.inj h
                obtain rfl := hu19 _ rfl
                have h := g20
                clear g20
                try dsimp only at h
                obtain rfl := Option.some.inj h
                have h := g16
                clear g16
                try dsimp only at h
                obtain rfl := Option.some.inj h
                exact wp_ret (rBlock (rThen (rThen (rBlock (rThen (sRet (.int .i64 2) S (rsl1 rfl (rvT (t := 4) (v := .int .i64 2) S (by kernel_rfl))) ⟨(), rfl, S.mem.sel [] [] (by decide) (by kernel_rfl) (by kernel_rfl)⟩))))))
              · refine sCondF (b := o26) S (by kernel_rfl) hc38 ?_
                refine wp_skip (leafB (leafT (hK25 _ _ ?_)))
                refine sRegion ?_
                refine sMove (.int .i64 s18) S (wN rfl) (.inl rfl) (by kernel_rfl) rfl (by decide) (fun a S => ?_)
                refine sBin (.int .i64 (w64 (s18 + 1))) S (wN rfl) rfl (by kernel_rfl) (by kernel_rfl) (bAdd _ _ _ _ s18 1) rfl (by decide) (fun a S => ?_)
                refine sMove (.int .i64 (w64 (s18 + 1))) S (wN rfl) (.inr rfl) (by kernel_rfl) rfl (by decide) (fun a S => ?_)
                exact leafL (leafT (⟨w64 (s18 + 1), (Option.some.inj h).symm, (S.fix [] [0] (by decide) (by kernel_rfl) (by kernel_rfl) (by kernel_rfl))⟩))
          · refine sCondF (b := decide (s18 < (p1.length : Int))) S (by kernel_rfl) hc24 ?_
            obtain rfl := Option.some.inj h
            obtain rfl := hu19 _ rfl
            have h := g20
            clear g20
            try dsimp only at h
            exact wp_exit (xThen (xThen (xHit (leafT (⟨Option.some.inj h, S.fix [] [] (by decide) (by kernel_rfl) (by kernel_rfl) (by kernel_rfl)⟩)))))
        · obtain ⟨rfl, S⟩ := hI
          have h := g16
          clear g16
          try dsimp only at h
          refine sSeq (fun K40 hK40 => ?_)
          refine sRegion ?_
          refine sMove (.int .i64 0) S (wN rfl) (.inr rfl) (by kernel_rfl) rfl (by decide) (fun a S => ?_)
          refine leafL (leafT (hK40 _ _ ?_))
          obtain rfl := Option.some.inj h
          exact wp_ret (sRet (.int .i64 0) S (rsl1 rfl (rvT (t := 4) (v := .int .i64 0) S (by kernel_rfl))) ⟨(), rfl, S.mem.sel [] [] (by decide) (by kernel_rfl) (by kernel_rfl)⟩)

end Go.Proofs.Ytoiehdlcfehmlaa
namespace Go.Proofs.Ytoiehdlcfehmlaa
open Go.RowKit
set_option linter.unusedVariables false

noncomputable def raddleref38_Chart_l1 (p0 : Int) (p1 : (List Int)) (s20 : Int) : (List api_Stitch × Int) → Option ((List api_Stitch × Int) ⊕ List api_Stitch) := fun s0 => match s0 with
  | (s45, s48) =>
    if decide (s48 < p0) then
      Option.bind (α := List api_Stitch) (
        Option.bind (idxO p1 s20) fun x64 =>
        if decide (s48 < x64) then
          Option.bind (appO s45 [(api_Stitch.mk 1 false 0 0)]) fun l72 =>
          some l72
        else
          Option.bind (appO s45 [(api_Stitch.mk 8 false 0 0)]) fun l78 =>
          some l78) fun o58 =>
      some (.inl (o58, w64 (s48 + 1)))
    else
      some (.inr s45)
noncomputable def raddleref38_Chart_l2 (p1 : (List Int)) (p0 : Int) : (Int × List api_Row) → Option ((Int × List api_Row) ⊕ List api_Row) := fun s0 => match s0 with
  | (s20, s21) =>
    if decide (s20 < (p1.length : Int)) then
      Option.bind (α := List api_Row) (
        Option.bind (α := List api_Stitch) (
          Option.bind (whileO (raddleref38_Chart_l1 p0 p1 s20) (([] : List api_Stitch), 0)) fun e52 =>
            some e52) fun o39 =>
        Option.bind (F_raddleref25_Turn o39) fun r83 =>
        Option.bind (appO s21 [(api_Row.mk false o39), (api_Row.mk true r83.1)]) fun l90 =>
        some l90) fun o33 =>
      some (.inl (w64 (s20 + 1), o33))
    else
      some (.inr s21)
noncomputable def F_raddleref38_Chart (p0 : Int) (p1 : (List Int)) : Option (api_Chart × Int) :=
  Option.bind (F_raddleref38_Check p0 p1) fun r7 =>
  if r7 != 0 then
    some ((api_Chart.mk 0 ([] : (List api_Row))), r7)
  else
    Option.bind (α := List api_Row) (
      Option.bind (whileO (raddleref38_Chart_l2 p1 p0) (0, ([] : List api_Row))) fun e27 =>
        some e27) fun o14 =>
    some ((api_Chart.mk p0 o14), 0)
def c_raddleref38_Chart_val (r : (api_Chart × Int)) (x : Value) : Value := .tuple #[x, .int .i64 r.2]
def c_raddleref38_Chart_D (r : (api_Chart × Int)) (x : Value) : List Fact := [fRep r_api_Chart x r.1]
set_option maxHeartbeats 4000000 in
set_option maxRecDepth 100000 in
theorem c_raddleref38_Chart (E : Nat → Prop) (w0 : World) (p0 : Int) (p1 : (List Int)) (v1 : Value) (r : (api_Chart × Int)) (h : F_raddleref38_Chart p0 p1 = some r) (S : St0 E [] w0 w0 [] [fRep (rL (rI .i64)) (v1) p1]) :
    Calls Try.prog 16 #[.int .i64 p0, v1] w0 (Ret (X := Value) E [] w0 (c_raddleref38_Chart_val r) (fun _ => []) (c_raddleref38_Chart_D r)) := by
  unfold F_raddleref38_Chart at h
  obtain ⟨ad1, cp2, _, rfl, _⟩ := S.know (i := 0) (e := fRep (rL (rI .i64)) (v1) p1) (by kernel_rfl)
  refine sEnter (args := [.int .i64 p0, .slice ad1 p1.length cp2]) 62 Try.func16 rfl rfl (by simp) S (fun a S => ?_)
  refine sSeq (fun K3 hK3 => ?_)
  refine sRegion ?_
  refine sAlloc (.agg #[.int .i64 0, .slice none 0 0]) S (wN rfl) rfl (by kernel_rfl) [.int .i64 0, .slice none 0 0] rfl rfl (by decide) (fun a b4 w S => ?_)
  refine sMove (.int .i64 0) S (wN rfl) (.inr rfl) (by kernel_rfl) rfl (by decide) (fun a S => ?_)
  refine leafL (leafT (hK3 _ _ ?_))
  refine sSeq (fun K5 hK5 => ?_)
  refine sSeq (fun K6 hK6 => ?_)
  refine sRegion ?_
  refine sMove (.int .i64 p0) S (wN rfl) (.inl rfl) (by kernel_rfl) rfl (by decide) (fun a S => ?_)
  refine sMove (.slice ad1 p1.length cp2) S (wN rfl) (.inl rfl) (by kernel_rfl) rfl (by decide) (fun a S => ?_)
  obtain ⟨r7, hx8, h⟩ := bindSome h
  have S1 := S.mem
  refine sCallQ (X := Unit) (f := 21) (vs := [.int .i64 p0, .slice ad1 p1.length cp2]) (val := fun _ => .int .i64 r7) S (wN rfl) rfl callee21 (by kernel_rfl) (S1.quiet [0] (by kernel_rfl)) (fun E1 w1 S1 => c_raddleref38_Check E1 w1 p0 p1 (.slice ad1 p1.length cp2) r7 hx8 S1) rfl (by decide) (fun _ a w S => ?_)
  refine sMove (.int .i64 r7) S (wN rfl) (.inr rfl) (by kernel_rfl) rfl (by decide) (fun a S => ?_)
  refine leafL (leafT (hK6 _ _ ?_))
  refine sSeq (fun K9 hK9 => ?_)
  refine sRegion ?_
  refine sMove (.int .i64 r7) S (wN rfl) (.inl rfl) (by kernel_rfl) rfl (by decide) (fun a S => ?_)
  refine sBin (.bool (r7 != 0)) S (wN rfl) rfl (by kernel_rfl) (by kernel_rfl) (bNe _ _ _ _ .i64 r7 0) rfl (by decide) (fun a S => ?_)
  refine leafL (leafT (hK9 _ _ ?_))
  rcases iteSome h with ⟨hc10, h⟩ | ⟨hc10, h⟩
  · refine sCondT (b := r7 != 0) S (by kernel_rfl) hc10 ?_
    refine sSeq (fun K11 hK11 => ?_)
    refine sRegion ?_
    refine sBuild [] [.int .i64 0, .slice none 0 0] S (wN rfl) rfl (by kernel_rfl) (by kernel_rfl) rfl (by decide) (fun a S => ?_)
    refine sMove (.int .i64 r7) S (wN rfl) (.inl rfl) (by kernel_rfl) rfl (by decide) (fun a S => ?_)
    refine sStore (p := b4) (off := 0) (T := 40) (vs := [.int .i64 0, .slice none 0 0]) (v := .agg #[.int .i64 0, .slice none 0 0]) 0 [.int .i64 0, .slice none 0 0] S (wN rfl) rfl (by kernel_rfl) (by kernel_rfl) rfl (by kernel_rfl) (by kernel_rfl) rfl (by simp) rfl (fun a w S => ?_)
    refine sMove (.int .i64 r7) S (wN rfl) (.inr rfl) (by kernel_rfl) rfl (by decide) (fun a S => ?_)
    refine leafL (leafT (hK11 _ _ ?_))
    obtain rfl := Option.some.inj h
    have S := S.learn (fRep (rL r_api_Row) (.slice none 0 0) ([] : (List api_Row))) (rL_nil _ _ _)
    have S := S.learn (fRep r_api_Chart (.agg #[.int .i64 0, .slice none 0 0]) (api_Chart.mk 0 ([] : (List api_Row)))) ⟨_, rfl, S.mem.know (i := 0) (e := fRep (rL r_api_Row) (.slice none 0 0) ([] : (List api_Row))) (by kernel_rfl)⟩
    exact wp_ret (rThen (sRet (.tuple #[.agg #[.int .i64 0, .slice none 0 0], .int .i64 r7]) S (rsl2 rfl (rvN (c := 4) (t := 40) (T := 40) (p := b4) 0 [.int .i64 0, .slice none 0 0] S (by kernel_rfl) (by kernel_rfl) (by kernel_rfl) (by kernel_rfl)) (rvT (t := 5) (v := .int .i64 r7) S (by kernel_rfl))) ⟨(.agg #[.int .i64 0, .slice none 0 0]), rfl, S.mem.sel [] [0] (by decide) (by kernel_rfl) (by kernel_rfl)⟩))
  · refine sCondF (b := r7 != 0) S (by kernel_rfl) hc10 ?_
    refine wp_skip (leafT (hK5 _ _ ?_))
    refine sSeq (fun K12 hK12 => ?_)
    refine sRegion ?_
    refine sMove (.int .i64 p0) S (wN rfl) (.inl rfl) (by kernel_rfl) rfl (by decide) (fun a S => ?_)
    refine sBuild [(0, .int .i64 p0)] [.int .i64 p0, .slice none 0 0] S (wN rfl) rfl (by kernel_rfl) (by kernel_rfl) rfl (by decide) (fun a S => ?_)
    refine sAlloc (.agg #[.int .i64 0, .slice none 0 0]) S (wN rfl) rfl (by kernel_rfl) [.int .i64 0, .slice none 0 0] rfl rfl (by decide) (fun a b13 w S => ?_)
    refine sStore (p := b13) (off := 0) (T := 40) (vs := [.int .i64 0, .slice none 0 0]) (v := .agg #[.int .i64 p0, .slice none 0 0]) 0 [.int .i64 p0, .slice none 0 0] S (wN rfl) rfl (by kernel_rfl) (by kernel_rfl) rfl (by kernel_rfl) (by kernel_rfl) rfl (by simp) rfl (fun a w S => ?_)
    refine leafL (leafT (hK12 _ _ ?_))
    obtain ⟨t17, h, g18⟩ := bindSome h
    refine sCut (fun a w => ∃ o14, o14 = t17 ∧ ∃ ad15, ∃ cp16, St [] E [] w0 62 a w [(4, .pointer (some ⟨b4, 0, none⟩)), (7, .pointer (some ⟨b13, 0, none⟩))] [eBox b4 40 [.int .i64 0, .slice none 0 0], eBox b13 40 [.int .i64 p0, .slice ad15 o14.length cp16], eRow r_api_Row 57 (.slice ad15 o14.length cp16) o14] []) ?_ (fun a w hI => ?_)
    · refine sSeq (fun K19 hK19 => ?_)
      refine sRegion ?_
      refine sMove (.int .i64 0) S (wN rfl) (.inr rfl) (by kernel_rfl) rfl (by decide) (fun a S => ?_)
      refine leafL (leafT (hK19 _ _ ?_))
      refine wp_block ?_
      have S := S.nilRow r_api_Row 57 (α := api_Row)
      obtain ⟨t26, hl, g25⟩ := bindSome h
      refine sLoop hl (fun s0 a w => match s0 with | (s20, s21) => ∃ ad22, ∃ cp23, St [] E [] w0 62 a w [(0, .int .i64 p0), (1, .slice ad1 p1.length cp2), (4, .pointer (some ⟨b4, 0, none⟩)), (7, .pointer (some ⟨b13, 0, none⟩)), (8, .int .i64 s20)] [eBox b4 40 [.int .i64 0, .slice none 0 0], eBox b13 40 [.int .i64 p0, .slice ad22 s21.length cp23], eRow r_api_Row 57 (.slice ad22 s21.length cp23) s21] [fRep (rL (rI .i64)) (.slice ad1 p1.length cp2) p1]) ⟨none, 0, S.fix [2, 1, 0] [0] (by decide) (by kernel_rfl) (by kernel_rfl) (by kernel_rfl)⟩ ?_
      clear hl h
      intro s0 a w c0 hI h hu24
      obtain ⟨s20, s21⟩ := s0
      unfold raddleref38_Chart_l2 at h
      dsimp only at h hI
      obtain ⟨ad22, cp23, S⟩ := hI
      refine sSeq (fun K30 hK30 => ?_)
      refine sSeq (fun K31 hK31 => ?_)
      refine sRegion ?_
      refine sMove (.int .i64 s20) S (wN rfl) (.inl rfl) (by kernel_rfl) rfl (by decide) (fun a S => ?_)
      refine sMove (.slice ad1 p1.length cp2) S (wN rfl) (.inl rfl) (by kernel_rfl) rfl (by decide) (fun a S => ?_)
      refine sLen (ad := ad1) (m := p1.length) (c := cp2) S (wN rfl) rfl Try.underlying22 (by kernel_rfl) rfl (by decide) (fun a S => ?_)
      refine sBin (.bool (decide (s20 < (p1.length : Int)))) S (wN rfl) rfl (by kernel_rfl) (by kernel_rfl) (bLt _ _ _ _ .i64 s20 (p1.length : Int)) rfl (by decide) (fun a S => ?_)
      refine leafL (leafT (hK31 _ _ ?_))
      rcases iteSome h with ⟨hc32, h⟩ | ⟨hc32, h⟩
      · refine sCondT (b := decide (s20 < (p1.length : Int))) S (by kernel_rfl) hc32 ?_
        refine wp_skip (leafT (hK30 _ _ ?_))
        obtain ⟨t36, h, g37⟩ := bindSome h
        refine sCut (fun a w => ∃ o33, o33 = t36 ∧ ∃ ad34, ∃ cp35, St [] E [] w0 62 a w [(0, .int .i64 p0), (1, .slice ad1 p1.length cp2), (4, .pointer (some ⟨b4, 0, none⟩)), (7, .pointer (some ⟨b13, 0, none⟩)), (8, .int .i64 s20)] [eBox b4 40 [.int .i64 0, .slice none 0 0], eBox b13 40 [.int .i64 p0, .slice ad34 o33.length cp35], eRow r_api_Row 57 (.slice ad34 o33.length cp35) o33] [fRep (rL (rI .i64)) (.slice ad1 p1.length cp2) p1]) ?_ (fun a w hI => ?_)
        · refine wp_block ?_
          refine sSeq (fun K38 hK38 => ?_)
          refine sRegion ?_
          refine sMove (.slice none 0 0) S (wN rfl) (.inr rfl) (by kernel_rfl) rfl (by decide) (fun a S => ?_)
          refine leafL (leafT (hK38 _ _ ?_))
          obtain ⟨t42, h, g43⟩ := bindSome h
          refine sCut (fun a w => ∃ o39, o39 = t42 ∧ ∃ ad40, ∃ cp41, St [] E [] w0 62 a w [(0, .int .i64 p0), (1, .slice ad1 p1.length cp2), (4, .pointer (some ⟨b4, 0, none⟩)), (7, .pointer (some ⟨b13, 0, none⟩)), (8, .int .i64 s20), (9, .slice ad40 o39.length cp41)] [eBox b4 40 [.int .i64 0, .slice none 0 0], eBox b13 40 [.int .i64 p0, .slice ad22 s21.length cp23], eRow r_api_Stitch 63 (.slice ad40 o39.length cp41) o39, eRow r_api_Row 57 (.slice ad22 s21.length cp23) s21] [fRep (rL (rI .i64)) (.slice ad1 p1.length cp2) p1]) ?_ (fun a w hI => ?_)
          · refine sSeq (fun K44 hK44 => ?_)
            refine sRegion ?_
            refine sMove (.int .i64 0) S (wN rfl) (.inr rfl) (by kernel_rfl) rfl (by decide) (fun a S => ?_)
            refine leafL (leafT (hK44 _ _ ?_))
            refine wp_block ?_
            have S := S.nilRow r_api_Stitch 63 (α := api_Stitch)
            obtain ⟨t51, hl, g50⟩ := bindSome h
            refine sLoop hl (fun s0 a w => match s0 with | (s45, s48) => ∃ ad46, ∃ cp47, St [] E [] w0 62 a w [(0, .int .i64 p0), (1, .slice ad1 p1.length cp2), (4, .pointer (some ⟨b4, 0, none⟩)), (7, .pointer (some ⟨b13, 0, none⟩)), (8, .int .i64 s20), (9, .slice ad46 s45.length cp47), (10, .int .i64 s48)] [eBox b4 40 [.int .i64 0, .slice none 0 0], eBox b13 40 [.int .i64 p0, .slice ad22 s21.length cp23], eRow r_api_Stitch 63 (.slice ad46 s45.length cp47) s45, eRow r_api_Row 57 (.slice ad22 s21.length cp23) s21] [fRep (rL (rI .i64)) (.slice ad1 p1.length cp2) p1]) ⟨none, 0, S.fix [1, 2, 0, 3] [0] (by decide) (by kernel_rfl) (by kernel_rfl) (by kernel_rfl)⟩ ?_
            clear hl h
            intro s0 a w c0 hI h hu49
            obtain ⟨s45, s48⟩ := s0
            unfold raddleref38_Chart_l1 at h
            dsimp only at h hI
            obtain ⟨ad46, cp47, S⟩ := hI
            refine sSeq (fun K55 hK55 => ?_)
            refine sSeq (fun K56 hK56 => ?_)
            refine sRegion ?_
            refine sMove (.int .i64 s48) S (wN rfl) (.inl rfl) (by kernel_rfl) rfl (by decide) (fun a S => ?_)
            refine sMove (.int .i64 p0) S (wN rfl) (.inl rfl) (by kernel_rfl) rfl (by decide) (fun a S => ?_)
            refine sBin (.bool (decide (s48 < p0))) S (wN rfl) rfl (by kernel_rfl) (by kernel_rfl) (bLt _ _ _ _ .i64 s48 p0) rfl (by decide) (fun a S => ?_)
            refine leafL (leafT (hK56 _ _ ?_))
            rcases iteSome h with ⟨hc57, h⟩ | ⟨hc57, h⟩
            · refine sCondT (b := decide (s48 < p0)) S (by kernel_rfl) hc57 ?_
              refine wp_skip (leafT (hK55 _ _ ?_))
              obtain ⟨t61, h, g62⟩ := bindSome h
              refine sCut (fun a w => ∃ o58, o58 = t61 ∧ ∃ ad59, ∃ cp60, St [] E [] w0 62 a w [(0, .int .i64 p0), (1, .slice ad1 p1.length cp2), (4, .pointer (some ⟨b4, 0, none⟩)), (7, .pointer (some ⟨b13, 0, none⟩)), (8, .int .i64 s20), (9, .slice ad59 o58.length cp60), (10, .int .i64 s48)] [eBox b4 40 [.int .i64 0, .slice none 0 0], eBox b13 40 [.int .i64 p0, .slice ad22 s21.length cp23], eRow r_api_Stitch 63 (.slice ad59 o58.length cp60) o58, eRow r_api_Row 57 (.slice ad22 s21.length cp23) s21] [fRep (rL (rI .i64)) (.slice ad1 p1.length cp2) p1]) ?_ (fun a w hI => ?_)
              · refine wp_block ?_
                refine sSeq (fun K63 hK63 => ?_)
                refine sRegion ?_
                refine sMove (.int .i64 s48) S (wN rfl) (.inl rfl) (by kernel_rfl) rfl (by decide) (fun a S => ?_)
                refine sMove (.slice ad1 p1.length cp2) S (wN rfl) (.inl rfl) (by kernel_rfl) rfl (by decide) (fun a S => ?_)
                refine sMove (.int .i64 s20) S (wN rfl) (.inl rfl) (by kernel_rfl) rfl (by decide) (fun a S => ?_)
                obtain ⟨x64, hx65, h⟩ := bindSome h
                obtain ⟨q66, hq67, S⟩ := pIdx (P := Try.prog) (r := (rI .i64)) (v := .slice ad1 p1.length cp2) (xs := p1) (j := s20) 22 3 0 S Try.underlying22 (by kernel_rfl) (by kernel_rfl) hx65
                refine sIdxV (v := .slice ad1 p1.length cp2) (k := .i64) (j := s20) S (wN rfl) rfl (by kernel_rfl) (by kernel_rfl) hq67 rfl (by decide) (fun a S => ?_)
                obtain ⟨u68, S⟩ := pLoad (r := (rI .i64)) (q := q66) (x := x64) 0 S (by kernel_rfl)
                obtain rfl : u68 = .int .i64 x64 := S.mem.know (i := 1) (e := fRep (rI .i64) (u68) x64) (by kernel_rfl)
                refine sLoadV1 (vq := q66) 0 (.int .i64 x64) S (wN rfl) rfl (by kernel_rfl) (by kernel_rfl) (by kernel_rfl) rfl (by decide) (fun a S => ?_)
                refine sBin (.bool (decide (s48 < x64))) S (wN rfl) rfl (by kernel_rfl) (by kernel_rfl) (bLt _ _ _ _ .i64 s48 x64) rfl (by decide) (fun a S => ?_)
                refine leafL (leafT (hK63 _ _ ?_))
                rcases iteSome h with ⟨hc69, h⟩ | ⟨hc69, h⟩
                · refine sCondT (b := decide (s48 < x64)) S (by kernel_rfl) hc69 ?_
                  refine sRegion ?_
                  refine sMove (.slice ad46 s45.length cp47) S (wN rfl) (.inl rfl) (by kernel_rfl) rfl (by decide) (fun a S => ?_)
                  refine sBuild [(0, .int .u8 1)] [.int .u8 1, .bool false, .int .i64 0, .int .i64 0] S (wN rfl) rfl (by kernel_rfl) (by kernel_rfl) rfl (by decide) (fun a S => ?_)
                  have S := S.learn (fRep r_api_Stitch (.agg #[.int .u8 1, .bool false, .int .i64 0, .int .i64 0]) (api_Stitch.mk 1 false 0 0)) rfl
                  refine sLit (r := r_api_Stitch) (T := 63) (xs := [(api_Stitch.mk 1 false 0 0)]) [(0, .agg #[.int .u8 1, .bool false, .int .i64 0, .int .i64 0])] 1 [.agg #[.int .u8 1, .bool false, .int .i64 0, .int .i64 0]] [.int .u8 1, .bool false, .int .i64 0, .int .i64 0] (.agg #[.int .u8 0, .bool false, .int .i64 0, .int .i64 0]) 24 S (wN rfl) rfl (by kernel_rfl) Try.underlying55 (by kernel_rfl) (by decide) (by decide) (by kernel_rfl) rfl (fun E1 w1 hE => All.cons (r_api_Stitch.mono hE (S.mem.know (i := 0) (e := fRep r_api_Stitch (.agg #[.int .u8 1, .bool false, .int .i64 0, .int .i64 0]) (api_Stitch.mk 1 false 0 0)) (by kernel_rfl))) (All.nil _ _ _)) rfl rfl (by decide) (fun a w ad70 cp71 S => ?_)
                  obtain ⟨l72, hx73, h⟩ := bindSome h
                  refine sApp (r := r_api_Stitch) (T := 63) (xs := s45) (ys := [(api_Stitch.mk 1 false 0 0)]) (v := .slice ad46 s45.length cp47) (u := .slice ad70 [(api_Stitch.mk 1 false 0 0)].length cp71) 3 (.agg #[.int .u8 0, .bool false, .int .i64 0, .int .i64 0]) 24 S (wN rfl) rfl Try.underlying55 (by kernel_rfl) rfl (by decide) (by kernel_rfl) (by kernel_rfl) (by kernel_rfl) (src_R (T := 63) 0 S.mem (by kernel_rfl)) hx73 rfl (by decide) (fun a w ad74 cp75 S => ?_)
                  refine sMove (.slice ad74 l72.length cp75) S (wN rfl) (.inr rfl) (by kernel_rfl) rfl (by decide) (fun a S => ?_)
                  exact leafL (leafB (leafT (⟨l72, Option.some.inj h, ad74, cp75, S.fix [2, 3, 0, 4] [4] (by decide) (by kernel_rfl) (by kernel_rfl) (by kernel_rfl)⟩)))
                · refine sCondF (b := decide (s48 < x64)) S (by kernel_rfl) hc69 ?_
                  refine sRegion ?_
                  refine sMove (.slice ad46 s45.length cp47) S (wN rfl) (.inl rfl) (by kernel_rfl) rfl (by decide) (fun a S => ?_)
                  refine sBuild [(0, .int .u8 8)] [.int .u8 8, .bool false, .int .i64 0, .int .i64 0] S (wN rfl) rfl (by kernel_rfl) (by kernel_rfl) rfl (by decide) (fun a S => ?_)
                  have S := S.learn (fRep r_api_Stitch (.agg #[.int .u8 8, .bool false, .int .i64 0, .int .i64 0]) (api_Stitch.mk 8 false 0 0)) rfl
                  refine sLit (r := r_api_Stitch) (T := 63) (xs := [(api_Stitch.mk 8 false 0 0)]) [(0, .agg #[.int .u8 8, .bool false, .int .i64 0, .int .i64 0])] 1 [.agg #[.int .u8 8, .bool false, .int .i64 0, .int .i64 0]] [.int .u8 8, .bool false, .int .i64 0, .int .i64 0] (.agg #[.int .u8 0, .bool false, .int .i64 0, .int .i64 0]) 24 S (wN rfl) rfl (by kernel_rfl) Try.underlying55 (by kernel_rfl) (by decide) (by decide) (by kernel_rfl) rfl (fun E1 w1 hE => All.cons (r_api_Stitch.mono hE (S.mem.know (i := 0) (e := fRep r_api_Stitch (.agg #[.int .u8 8, .bool false, .int .i64 0, .int .i64 0]) (api_Stitch.mk 8 false 0 0)) (by kernel_rfl))) (All.nil _ _ _)) rfl rfl (by decide) (fun a w ad76 cp77 S => ?_)
                  obtain ⟨l78, hx79, h⟩ := bindSome h
                  refine sApp (r := r_api_Stitch) (T := 63) (xs := s45) (ys := [(api_Stitch.mk 8 false 0 0)]) (v := .slice ad46 s45.length cp47) (u := .slice ad76 [(api_Stitch.mk 8 false 0 0)].length cp77) 3 (.agg #[.int .u8 0, .bool false, .int .i64 0, .int .i64 0]) 24 S (wN rfl) rfl Try.underlying55 (by kernel_rfl) rfl (by decide) (by kernel_rfl) (by kernel_rfl) (by kernel_rfl) (src_R (T := 63) 0 S.mem (by kernel_rfl)) hx79 rfl (by decide) (fun a w ad80 cp81 S => ?_)
                  refine sMove (.slice ad80 l78.length cp81) S (wN rfl) (.inr rfl) (by kernel_rfl) rfl (by decide) (fun a S => ?_)
                  exact leafL (leafB (leafT (⟨l78, Option.some.inj h, ad80, cp81, S.fix [2, 3, 0, 4] [4] (by decide) (by kernel_rfl) (by kernel_rfl) (by kernel_rfl)⟩)))
              · obtain ⟨o58, rfl, ad59, cp60, S⟩ := hI
                have h := g62
                clear g62
                try dsimp only at h
                refine sRegion ?_
                refine sMove (.int .i64 s48) S (wN rfl) (.inl rfl) (by kernel_rfl) rfl (by decide) (fun a S => ?_)
                refine sBin (.int .i64 (w64 (s48 + 1))) S (wN rfl) rfl (by kernel_rfl) (by kernel_rfl) (bAdd _ _ _ _ s48 1) rfl (by decide) (fun a S => ?_)
                refine sMove (.int .i64 (w64 (s48 + 1))) S (wN rfl) (.inr rfl) (by kernel_rfl) rfl (by decide) (fun a S => ?_)
                exact leafL (leafT (⟨(o58, w64 (s48 + 1)), (Option.some.inj h).symm, ⟨ad59, cp60, S.fix [0, 1, 2, 3] [0] (by decide) (by kernel_rfl) (by kernel_rfl) (by kernel_rfl)⟩⟩))
            · refine sCondF (b := decide (s48 < p0)) S (by kernel_rfl) hc57 ?_
              obtain rfl := Option.some.inj h
              obtain rfl := hu49 _ rfl
              have h := g50
              clear g50
              try dsimp only at h
              exact wp_exit (xThen (xThen (xHit (leafT (⟨s45, Option.some.inj h, ad46, cp47, S.fix [0, 1, 2, 3] [0] (by decide) (by kernel_rfl) (by kernel_rfl) (by kernel_rfl)⟩)))))
          · obtain ⟨o39, rfl, ad40, cp41, S⟩ := hI
            have h := g43
            clear g43
            try dsimp only at h
            refine sSeq (fun K82 hK82 => ?_)
            refine sRegion ?_
            refine sMove (.slice ad40 o39.length cp41) S (wN rfl) (.inl rfl) (by kernel_rfl) rfl (by decide) (fun a S => ?_)
            obtain ⟨r83, hx84, h⟩ := bindSome h
            have S := S.shutR (r := r_api_Stitch) (T := 63) (v := .slice ad40 o39.length cp41) (xs := o39) 2 (by kernel_rfl)
            refine sCall (X := Value) (f := 26) (vs := [.slice ad40 o39.length cp41]) (val := c_raddleref25_Turn_val r83) (B' := fun _ => []) (D' := c_raddleref25_Turn_D r83) [] [eBox b4 40 [.int .i64 0, .slice none 0 0], eBox b13 40 [.int .i64 p0, .slice ad22 s21.length cp23], eRow r_api_Row 57 (.slice ad22 s21.length cp23) s21] [fRep (rL r_api_Stitch) (.slice ad40 o39.length cp41) o39] [0, 1, 2] [0] S (wN rfl) rfl callee26 (by kernel_rfl) (by decide) (by kernel_rfl) (by kernel_rfl) (fun E1 w1 S1 => c_raddleref25_Turn E1 w1 o39 (.slice ad40 o39.length cp41) r83 hx84 S1) rfl (by decide) (fun u85 a w S => ?_)
            obtain ⟨ad86, cp87, _, rfl, _⟩ := S.mem.know (i := 0) (e := fRep (rL r_api_Stitch) (u85) r83.1) (by kernel_rfl)
            refine sMove (.tuple #[.slice ad86 r83.1.length cp87, .int .i64 r83.2]) S (wN rfl) (.inl rfl) (by kernel_rfl) rfl (by decide) (fun a S => ?_)
            refine sExtract (vs := [.slice ad86 r83.1.length cp87, .int .i64 r83.2]) (.slice ad86 r83.1.length cp87) S (wN rfl) rfl (by kernel_rfl) rfl rfl (by decide) (fun a S => ?_)
            refine sExtract (vs := [.slice ad86 r83.1.length cp87, .int .i64 r83.2]) (.int .i64 r83.2) S (wN rfl) rfl (by kernel_rfl) rfl rfl (by decide) (fun a S => ?_)
            refine sMove (.slice ad86 r83.1.length cp87) S (wN rfl) (.inr rfl) (by kernel_rfl) rfl (by decide) (fun a S => ?_)
            refine sMove (.int .i64 r83.2) S (wN rfl) (.inr rfl) (by kernel_rfl) rfl (by decide) (fun a S => ?_)
            refine leafL (leafT (hK82 _ _ ?_))
            refine sRegion ?_
            refine sField (b := b13) (off := 0) 1 1 S (wN rfl) rfl (by kernel_rfl) (by kernel_rfl) rfl rfl (by decide) (fun a S => ?_)
            refine sLoad1 (p := b13) (off := 1) (T := 40) (vs := [.int .i64 p0, .slice ad22 s21.length cp23]) 1 (.slice ad22 s21.length cp23) S (wN rfl) rfl (by kernel_rfl) (by kernel_rfl) (by kernel_rfl) rfl rfl (by decide) (fun a S => ?_)
            refine sMove (.slice ad40 o39.length cp41) S (wN rfl) (.inl rfl) (by kernel_rfl) rfl (by decide) (fun a S => ?_)
            refine sBuild [(1, .slice ad40 o39.length cp41)] [.bool false, .slice ad40 o39.length cp41] S (wN rfl) rfl (by kernel_rfl) (by kernel_rfl) rfl (by decide) (fun a S => ?_)
            refine sMove (.slice ad86 r83.1.length cp87) S (wN rfl) (.inl rfl) (by kernel_rfl) rfl (by decide) (fun a S => ?_)
            refine sBuild [(0, .bool true), (1, .slice ad86 r83.1.length cp87)] [.bool true, .slice ad86 r83.1.length cp87] S (wN rfl) rfl (by kernel_rfl) (by kernel_rfl) rfl (by decide) (fun a S => ?_)
            have S := S.learn (fRep r_api_Row (.agg #[.bool false, .slice ad40 o39.length cp41]) (api_Row.mk false o39)) ⟨_, rfl, S.mem.know (i := 1) (e := fRep (rL r_api_Stitch) (.slice ad40 o39.length cp41) o39) (by kernel_rfl)⟩
            have S := S.learn (fRep r_api_Row (.agg #[.bool true, .slice ad86 r83.1.length cp87]) (api_Row.mk true r83.1)) ⟨_, rfl, S.mem.know (i := 1) (e := fRep (rL r_api_Stitch) (.slice ad86 r83.1.length cp87) r83.1) (by kernel_rfl)⟩
            refine sLit (r := r_api_Row) (T := 57) (xs := [(api_Row.mk false o39), (api_Row.mk true r83.1)]) [(0, .agg #[.bool false, .slice ad40 o39.length cp41]), (1, .agg #[.bool true, .slice ad86 r83.1.length cp87])] 2 [.agg #[.bool false, .slice ad40 o39.length cp41], .agg #[.bool true, .slice ad86 r83.1.length cp87]] [.bool false, .slice ad40 o39.length cp41, .bool true, .slice ad86 r83.1.length cp87] (.agg #[.bool false, .slice none 0 0]) 32 S (wN rfl) rfl (by kernel_rfl) Try.underlying38 (by kernel_rfl) (by decide) (by decide) (by kernel_rfl) rfl (fun E1 w1 hE => All.cons (r_api_Row.mono hE (S.mem.know (i := 1) (e := fRep r_api_Row (.agg #[.bool false, .slice ad40 o39.length cp41]) (api_Row.mk false o39)) (by kernel_rfl))) (All.cons (r_api_Row.mono hE (S.mem.know (i := 0) (e := fRep r_api_Row (.agg #[.bool true, .slice ad86 r83.1.length cp87]) (api_Row.mk true r83.1)) (by kernel_rfl))) (All.nil _ _ _))) rfl rfl (by decide) (fun a w ad88 cp89 S => ?_)
            obtain ⟨l90, hx91, h⟩ := bindSome h
            refine sApp (r := r_api_Row) (T := 57) (xs := s21) (ys := [(api_Row.mk false o39), (api_Row.mk true r83.1)]) (v := .slice ad22 s21.length cp23) (u := .slice ad88 [(api_Row.mk false o39), (api_Row.mk true r83.1)].length cp89) 3 (.agg #[.bool false, .slice none 0 0]) 32 S (wN rfl) rfl Try.underlying38 (by kernel_rfl) rfl (by decide) (by kernel_rfl) (by kernel_rfl) (by kernel_rfl) (src_R (T := 57) 0 S.mem (by kernel_rfl)) hx91 rfl (by decide) (fun a w ad92 cp93 S => ?_)
            refine sField (b := b13) (off := 0) 1 1 S (wN rfl) rfl (by kernel_rfl) (by kernel_rfl) rfl rfl (by decide) (fun a S => ?_)
            refine sStore (p := b13) (off := 1) (T := 40) (vs := [.int .i64 p0, .slice ad22 s21.length cp23]) (v := .slice ad92 l90.length cp93) 3 [.slice ad92 l90.length cp93] S (wN rfl) rfl (by kernel_rfl) (by kernel_rfl) rfl (by kernel_rfl) (by kernel_rfl) rfl (by simp) rfl (fun a w S => ?_)
            exact leafL (leafB (leafT (⟨l90, Option.some.inj h, ad92, cp93, S.fix [3, 0, 1] [4] (by decide) (by kernel_rfl) (by kernel_rfl) (by kernel_rfl)⟩)))
        · obtain ⟨o33, rfl, ad34, cp35, S⟩ := hI
          have h := g37
          clear g37
          try dsimp only at h
          refine sRegion ?_
          refine sMove (.int .i64 s20) S (wN rfl) (.inl rfl) (by kernel_rfl) rfl (by decide) (fun a S => ?_)
          refine sBin (.int .i64 (w64 (s20 + 1))) S (wN rfl) rfl (by kernel_rfl) (by kernel_rfl) (bAdd _ _ _ _ s20 1) rfl (by decide) (fun a S => ?_)
          refine sMove (.int .i64 (w64 (s20 + 1))) S (wN rfl) (.inr rfl) (by kernel_rfl) rfl (by decide) (fun a S => ?_)
          exact leafL (leafT (⟨(w64 (s20 + 1), o33), (Option.some.inj h).symm, ⟨ad34, cp35, S.fix [0, 1, 2] [0] (by decide) (by kernel_rfl) (by kernel_rfl) (by kernel_rfl)⟩⟩))
      · refine sCondF (b := decide (s20 < (p1.length : Int))) S (by kernel_rfl) hc32 ?_
        obtain rfl := Option.some.inj h
        obtain rfl := hu24 _ rfl
        have h := g25
        clear g25
        try dsimp only at h
        exact wp_exit (xThen (xThen (xHit (leafT (⟨s21, Option.some.inj h, ad22, cp23, S.fix [0, 1, 2] [] (by decide) (by kernel_rfl) (by kernel_rfl) (by kernel_rfl)⟩)))))
    · obtain ⟨o14, rfl, ad15, cp16, S⟩ := hI
      have h := g18
      clear g18
      try dsimp only at h
      refine sSeq (fun K94 hK94 => ?_)
      refine sRegion ?_
      refine sLoadN (p := b13) (off := 0) (T := 40) (vs := [.int .i64 p0, .slice ad15 o14.length cp16]) 1 [.int .i64 p0, .slice ad15 o14.length cp16] S (wN rfl) rfl (by kernel_rfl) (by kernel_rfl) (by kernel_rfl) (by kernel_rfl) rfl rfl (by decide) (fun a S => ?_)
      refine sStore (p := b4) (off := 0) (T := 40) (vs := [.int .i64 0, .slice none 0 0]) (v := .agg #[.int .i64 p0, .slice ad15 o14.length cp16]) 0 [.int .i64 p0, .slice ad15 o14.length cp16] S (wN rfl) rfl (by kernel_rfl) (by kernel_rfl) rfl (by kernel_rfl) (by kernel_rfl) rfl (by simp) rfl (fun a w S => ?_)
      refine sMove (.int .i64 0) S (wN rfl) (.inr rfl) (by kernel_rfl) rfl (by decide) (fun a S => ?_)
      refine leafL (leafT (hK94 _ _ ?_))
      obtain rfl := Option.some.inj h
      have S := S.shutR (r := r_api_Row) (T := 57) (v := .slice ad15 o14.length cp16) (xs := o14) 2 (by kernel_rfl)
      have S := S.learn (fRep r_api_Chart (.agg #[.int .i64 p0, .slice ad15 o14.length cp16]) (api_Chart.mk p0 o14)) ⟨_, rfl, S.mem.know (i := 0) (e := fRep (rL r_api_Row) (.slice ad15 o14.length cp16) o14) (by kernel_rfl)⟩
      exact wp_ret (sRet (.tuple #[.agg #[.int .i64 p0, .slice ad15 o14.length cp16], .int .i64 0]) S (rsl2 rfl (rvN (c := 4) (t := 40) (T := 40) (p := b4) 0 [.int .i64 p0, .slice ad15 o14.length cp16] S (by kernel_rfl) (by kernel_rfl) (by kernel_rfl) (by kernel_rfl)) (rvT (t := 5) (v := .int .i64 0) S (by kernel_rfl))) ⟨(.agg #[.int .i64 p0, .slice ad15 o14.length cp16]), rfl, S.mem.sel [] [0] (by decide) (by kernel_rfl) (by kernel_rfl)⟩)

end Go.Proofs.Ytoiehdlcfehmlaa
