/- Several texts in one: G9 G3 PlTd PlTy PlTp PlTq PlTr LYT FrYarnTexts -/
import Derived.WalkKit
import Derived.Maps.AppendAt
import Derived.Deep.AppendLies
import Derived.KernelRfl
import Derived.Laws.OwnMore
import Derived.Great.BuildSlice
import Derived.Orders
import Derived.Laws.StructEq
import Derived.ChangeKeysEq
import Derived.Defers
import Derived.Laws.BytesString
import Derived.RangeFuncNested
import Derived.RangeFuncBound
import Derived.RangeFuncCalls
import Derived.RangeFuncLeaves
import Derived.OrdersIn
import Derived.LoopNIn
import Derived.ArgAppend
import Derived.Lib.AppendZeros
import Derived.Lib.OthersKept
import Derived.Laws.RangeString
import Derived.Lib.LaidTab
import Derived.Test.YtdfjcpnflmgdoaaDoorProg
import Derived.ProofKit
import Derived.OpenShut
import Derived.ChangeOld
import Derived.Deep.Slices
import Derived.Lib.SmallJoins
import Derived.JoinedOf
import Derived.JoinedAt
import Derived.Below
import Derived.Shelf.Small.Wraps
import Derived.Shelf.Strconv.Itoa0
import Derived.Shelf.Strconv.Itoa1
import Derived.Shelf.LaysM
import Derived.Shelf.Strconv.Itoa2
import Derived.Shelf.Strconv.Itoa3
import Derived.Shelf.Strconv.Itoa4
import Derived.Shelf.Strings.Search1
import Derived.Shelf.Strings.Search2
import Derived.Shelf.Strings.Cut
import Derived.Shelf.Strings.Shaped
import Derived.Shelf.Strings.Prefix
import Derived.Lib.ItoaLen
import Derived.Lib.TrimUEq
import Derived.Test.YtdfjcpnflmgdoaaDoorRows
import Derived.LaidSub
import Derived.MakeChecks
import Derived.Shelf.Vars
import Derived.Deep.DeepHandedRow
import Derived.LaidMore
import Derived.SevenTiedAt
import Derived.Test.YtdfjcpnflmgdoaaDoorCards
import Derived.Test.YtdfjcpnflmgdoaaDoorTie
import Derived.ChangeMaps5
import Derived.Test.YtdfjcpnflmgdoaaDoorMYarnTexts2
namespace Go.Proofs.YtdfjcpnflmgdoaaDoor
open Go.RowKit
set_option linter.unusedVariables false

noncomputable def raddleref23_Parse_l1 (p0 : ByteArray) : Int → Option (Int ⊕ Int) := fun s0 => match s0 with
  | s7 =>
    Option.bind (α := Bool) (
      if decide (s7 < (p0.size : Int)) then
        Option.bind (idxS p0 s7) fun x17 =>
        some (x17 != 47)
      else
        some false) fun o13 =>
    if o13 then
      some (.inl (w64 (s7 + 1)))
    else
      some (.inr s7)
noncomputable def F_raddleref23_Parse (p0 : ByteArray) : Option (api_Ratio × Int) :=
  Option.bind (α := Int) (
    Option.bind (whileO (raddleref23_Parse_l1 p0) 0) fun e11 =>
      some e11) fun o4 =>
  Option.bind (sliceS p0 0 o4) fun y24 =>
  Option.bind (F_raddleref23_Number y24) fun r26 =>
  if !r26.2 then
    some ((api_Ratio.mk 0 0), 12)
  else
    Option.bind (α := Int ⊕ (api_Ratio × Int)) (
      if decide (o4 < (p0.size : Int)) then
        Option.bind (sliceS p0 (w64 (o4 + 1)) (p0.size : Int)) fun y38 =>
        Option.bind (F_raddleref23_Number y38) fun r40 =>
        Option.bind (α := Bool) (
          if !r40.2 then
            some true
          else
            some (r40.1 == 1)) fun o42 =>
        if o42 then
          some (.inr ((api_Ratio.mk 0 0), 12))
        else
          some (.inl r40.1)
      else
        some (.inl 1)) fun z0 => match z0 with
      | .inl o32 =>
        Option.bind (F_raddleref23_Check (api_Ratio.mk r26.1 o32)) fun r50 =>
        if r50 != 0 then
          some ((api_Ratio.mk 0 0), 12)
        else
          some ((api_Ratio.mk r26.1 o32), 0)
      | .inr z =>
        some z
def c_raddleref23_Parse_val (r : (api_Ratio × Int)) (x : Value) : Value := .tuple #[x, .int .i64 r.2]
def c_raddleref23_Parse_D (r : (api_Ratio × Int)) (x : Value) : List Fact := [fRep r_api_Ratio x r.1]
set_option maxHeartbeats 4000000 in
set_option maxRecDepth 100000 in
theorem c_raddleref23_Parse (E : Nat → Prop) (w0 : World) (p0 : ByteArray) (r : (api_Ratio × Int)) (h : F_raddleref23_Parse p0 = some r) (S : St0 E [] w0 w0 [] []) :
    Calls Tryd.prog 9 #[.string p0] w0 (Ret (X := Value) E [] w0 (c_raddleref23_Parse_val r) (fun _ => []) (c_raddleref23_Parse_D r)) := by
  unfold F_raddleref23_Parse at h
  refine sEnter (args := [.string p0]) 57 Tryd.func9 rfl rfl (by simp) S (fun a S => ?_)
  refine sSeq (fun K1 hK1 => ?_)
  refine sRegion ?_
  refine sAlloc (.agg #[iv 0, iv 0]) S (wN rfl) rfl rfl [iv 0, iv 0] rfl rfl (lb rfl) fun a b2 w S => ?_
  refine sMove (iv 0) S (wN rfl) (.inr rfl) rfl rfl (lb rfl) fun a S => ?_
  refine leafL (leafT (hK1 _ _ ?_))
  refine sSeq (fun K3 hK3 => ?_)
  refine sRegion ?_
  refine sMove (iv 0) S (wN rfl) (.inr rfl) rfl rfl (lb rfl) fun a S => ?_
  refine leafL (leafT (hK3 _ _ ?_))
  obtain ⟨t5, h, g6⟩ := bindSome h
  refine sCut (fun a w => ∃ o4, o4 = t5 ∧ St [] E [] w0 57 a w [(0, .string p0), (2, .pointer (some ⟨b2, 0, none⟩)), (4, iv o4)] [eBox b2 23 [iv 0, iv 0]] []) ?_ (fun a w hI => ?_)
  · refine wp_block ?_
    obtain ⟨t10, hl, g9⟩ := bindSome h
    refine sLoop hl (fun s0 a w => match s0 with | s7 => St [] E [] w0 57 a w [(0, .string p0), (2, .pointer (some ⟨b2, 0, none⟩)), (4, iv s7)] [eBox b2 23 [iv 0, iv 0]] []) (S.fix [0] [] (by decide) rfl rfl rfl) ?_
    clear hl h
    intro s7 a w c0 hI h hu8
    unfold raddleref23_Parse_l1 at h
    dsimp only at h hI
    have S := hI
    refine sSeq (fun K12 hK12 => ?_)
    obtain ⟨t14, h, g15⟩ := bindSome h
    refine sCut (fun a w => ∃ o13, o13 = t14 ∧ St [] E [] w0 57 a w [(0, .string p0), (2, .pointer (some ⟨b2, 0, none⟩)), (4, iv s7), (16, .bool o13)] [eBox b2 23 [iv 0, iv 0]] []) ?_ (fun a w hI => ?_)
    rotate_left
    · obtain ⟨o13, rfl, S⟩ := hI
      have h := g15
      clear g15
      try dsimp only at h
      rcases iteSome h with ⟨hc19, h⟩ | ⟨hc19, h⟩
      rotate_left
      · refine sCondF S rfl hc19 ?_
        obtain rfl := Option.some.inj h
        obtain rfl := hu8 _ rfl
        have h := g9
        clear g9
        try dsimp only at h
        exact wp_exit (xThen (xThen (xHit (leafT (⟨s7, Option.some.inj h, S.fix [0] [] (by decide) rfl rfl rfl⟩)))))
      refine sCondT S rfl hc19 ?_
      refine wp_skip (leafT (hK12 _ _ ?_))
      refine wp_block ?_
      refine sRegion ?_
      refine sMove (iv s7) S (wN rfl) (.inl rfl) rfl rfl (lb rfl) fun a S => ?_
      refine sBin (iv (w64 (s7 + 1))) S (wN rfl) rfl rfl rfl (bAdd _ _ _ _ s7 1) rfl (lb rfl) fun a S => ?_
      refine sMove (iv (w64 (s7 + 1))) S (wN rfl) (.inr rfl) rfl rfl (lb rfl) fun a S => ?_
      exact leafL (leafB (leafT (⟨w64 (s7 + 1), (Option.some.inj h).symm, (S.fix [0] [] (by decide) rfl rfl rfl)⟩)))
    refine sRegion ?_
    refine sMove (iv s7) S (wN rfl) (.inl rfl) rfl rfl (lb rfl) fun a S => ?_
    refine sMove (.string p0) S (wN rfl) (.inl rfl) rfl rfl (lb rfl) fun a S => ?_
    refine sLenS (v := p0) S (wN rfl) rfl Tryd.underlying9 rfl rfl (lb rfl) fun a S => ?_
    refine sBin (.bool (decide (s7 < (p0.size : Int)))) S (wN rfl) rfl rfl rfl (bLt _ _ _ _ .i64 s7 (p0.size : Int)) rfl (lb rfl) fun a S => ?_
    refine sMove (.bool (decide (s7 < (p0.size : Int)))) S (wN rfl) (.inl rfl) rfl rfl (lb rfl) fun a S => ?_
    rcases iteSome h with ⟨hc16, h⟩ | ⟨hc16, h⟩
    rotate_left
    · refine sSkip 4 true 11 12 S rfl rfl rfl hc16 rfl (lb rfl) fun a S => ?_
      refine sSkip 4 true 11 13 S rfl rfl rfl hc16 rfl (lb rfl) fun a S => ?_
      refine sSkip 4 true 11 14 S rfl rfl rfl hc16 rfl (lb rfl) fun a S => ?_
      refine sSkip 4 true 11 15 S rfl rfl rfl hc16 rfl (lb rfl) fun a S => ?_
      refine sPickF (.bool false) S (wN rfl) rfl rfl hc16 rfl rfl (lb rfl) fun a S => ?_
      exact leafL (leafT (⟨false, Option.some.inj h, S.fix [0] [] (by decide) rfl rfl rfl⟩))
    refine sMove (.string p0) S (wG 4 true 11 rfl rfl rfl hc16) (.inl rfl) rfl rfl (lb rfl) fun a S => ?_
    refine sMove (iv s7) S (wG 4 true 11 rfl rfl rfl hc16) (.inl rfl) rfl rfl (lb rfl) fun a S => ?_
    obtain ⟨x17, hx18, h⟩ := bindSome h
    refine sIndexS (v := p0) (j := s7) (k := .i64) S (wG 4 true 11 rfl rfl rfl hc16) rfl Tryd.underlying9 rfl rfl hx18 rfl (lb rfl) fun a S => ?_
    refine sBin (.bool (x17 != 47)) S (wG 4 true 11 rfl rfl rfl hc16) rfl rfl rfl (bNe _ _ _ _ .u8 x17 47) rfl (lb rfl) fun a S => ?_
    refine sPickT (.bool (x17 != 47)) S (wN rfl) rfl rfl hc16 rfl rfl (lb rfl) fun a S => ?_
    exact leafL (leafT (⟨x17 != 47, Option.some.inj h, S.fix [0] [] (by decide) rfl rfl rfl⟩))
  obtain ⟨o4, rfl, S⟩ := hI
  have h := g6
  clear g6
  try dsimp only at h
  refine sSeq (fun K20 hK20 => ?_)
  refine sRegion ?_
  refine sBuild [(1, iv 1)] [iv 0, iv 1] S (wN rfl) rfl rfl rfl rfl (lb rfl) fun a S => ?_
  refine sAlloc (.agg #[iv 0, iv 0]) S (wN rfl) rfl rfl [iv 0, iv 0] rfl rfl (lb rfl) fun a b21 w S => ?_
  refine sStore (p := b21) (off := 0) (T := 23) (vs := [iv 0, iv 0]) (v := .agg #[iv 0, iv 1]) 0 [iv 0, iv 1] S (wN rfl) rfl rfl rfl rfl rfl rfl rfl (by simp) rfl fun a w S => ?_
  refine leafL (leafT (hK20 _ _ ?_))
  refine sSeq (fun K22 hK22 => ?_)
  refine sRegion ?_
  refine sMove (.bool false) S (wN rfl) (.inr rfl) rfl rfl (lb rfl) fun a S => ?_
  refine leafL (leafT (hK22 _ _ ?_))
  refine sSeq (fun K23 hK23 => ?_)
  refine sRegion ?_
  refine sMove (.string p0) S (wN rfl) (.inl rfl) rfl rfl (lb rfl) fun a S => ?_
  refine sMove (iv o4) S (wN rfl) (.inl rfl) rfl rfl (lb rfl) fun a S => ?_
  obtain ⟨y24, hx25, h⟩ := bindSome h
  refine sSliceS (v := p0) (u := y24) (vlo := none) (vhi := (some (.int .i64 o4))) (lo' := 0) (hi' := o4) S (wN rfl) rfl Tryd.underlying9 rfl rfl rfl (.inr ⟨rfl, rfl⟩) (.inl rfl) hx25 rfl (lb rfl) fun a S => ?_
  obtain ⟨r26, hx27, h⟩ := bindSome h
  have S1 := S.mem
  refine sCallQ (X := Unit) (f := 20) (vs := [.string y24]) (val := fun _ => .tuple #[iv r26.1, .bool r26.2]) S (wN rfl) rfl callee20 rfl (S1.quiet [] rfl) (fun E1 w1 S1 => c_raddleref23_Number E1 w1 y24 r26 hx27 S1) rfl (lb rfl) fun _ a w S => ?_
  refine sMove (.tuple #[iv r26.1, .bool r26.2]) S (wN rfl) (.inl rfl) rfl rfl (lb rfl) fun a S => ?_
  refine sExtract (vs := [iv r26.1, .bool r26.2]) (iv r26.1) S (wN rfl) rfl rfl rfl rfl (lb rfl) fun a S => ?_
  refine sExtract (vs := [iv r26.1, .bool r26.2]) (.bool r26.2) S (wN rfl) rfl rfl rfl rfl (lb rfl) fun a S => ?_
  refine sField (b := b21) (off := 0) 0 0 S (wN rfl) rfl rfl rfl rfl rfl (lb rfl) fun a S => ?_
  refine sStore (p := b21) (off := 0) (T := 23) (vs := [iv 0, iv 1]) (v := iv r26.1) 0 [iv r26.1] S (wN rfl) rfl rfl rfl rfl rfl rfl rfl (by simp) rfl fun a w S => ?_
  refine sMove (.bool r26.2) S (wN rfl) (.inr rfl) rfl rfl (lb rfl) fun a S => ?_
  refine leafL (leafT (hK23 _ _ ?_))
  refine sSeq (fun K28 hK28 => ?_)
  refine sSeq (fun K29 hK29 => ?_)
  refine sRegion ?_
  refine sMove (.bool r26.2) S (wN rfl) (.inl rfl) rfl rfl (lb rfl) fun a S => ?_
  refine sNot (b := r26.2) S (wN rfl) rfl rfl rfl (lb rfl) fun a S => ?_
  refine leafL (leafT (hK29 _ _ ?_))
  rcases iteSome h with ⟨hc30, h⟩ | ⟨hc30, h⟩
  · refine sCondT S rfl hc30 ?_
    refine sSeq (fun K31 hK31 => ?_)
    refine sRegion ?_
    refine sBuild [] [iv 0, iv 0] S (wN rfl) rfl rfl rfl rfl (lb rfl) fun a S => ?_
    refine sStore (p := b2) (off := 0) (T := 23) (vs := [iv 0, iv 0]) (v := .agg #[iv 0, iv 0]) 1 [iv 0, iv 0] S (wN rfl) rfl rfl rfl rfl rfl rfl rfl (by simp) rfl fun a w S => ?_
    refine sMove (iv 12) S (wN rfl) (.inr rfl) rfl rfl (lb rfl) fun a S => ?_
    refine leafL (leafT (hK31 _ _ ?_))
    obtain rfl := Option.some.inj h
    have S := S.learn (fRep r_api_Ratio (.agg #[iv 0, iv 0]) (api_Ratio.mk 0 0)) rfl
    exact wp_ret (rThen (sRet (.tuple #[.agg #[iv 0, iv 0], iv 12]) S (rsl2 rfl (rvN (c := 2) (t := 23) (T := 23) (p := b2) 0 [iv 0, iv 0] S rfl rfl rfl rfl) (rvT (t := 3) (v := iv 12) S rfl)) ⟨(.agg #[iv 0, iv 0]), rfl, S.mem.sel [] [0] (by decide) rfl rfl⟩))
  refine sCondF S rfl hc30 ?_
  refine wp_skip (leafT (hK28 _ _ ?_))
  obtain ⟨t33, h, g34⟩ := bindSome h
  refine sCut (fun a w => ∃ o32, .inl o32 = t33 ∧ St [] E [] w0 57 a w [(2, .pointer (some ⟨b2, 0, none⟩)), (5, .pointer (some ⟨b21, 0, none⟩))] [eBox b2 23 [iv 0, iv 0], eBox b21 23 [iv r26.1, iv o32]] []) ?_ (fun a w hI => ?_)
  rotate_left
  · obtain ⟨o32, rfl, S⟩ := hI
    have h := g34
    clear g34
    try dsimp only at h
    refine sSeq (fun K48 hK48 => ?_)
    refine sSeq (fun K49 hK49 => ?_)
    refine sRegion ?_
    refine sLoadN (p := b21) (off := 0) (T := 23) (vs := [iv r26.1, iv o32]) 1 [iv r26.1, iv o32] S (wN rfl) rfl rfl rfl rfl rfl rfl rfl (lb rfl) fun a S => ?_
    obtain ⟨r50, hx51, h⟩ := bindSome h
    have S1 := S.mem
    have S1 := S1.learn (fRep r_api_Ratio (.agg #[iv r26.1, iv o32]) (api_Ratio.mk r26.1 o32)) rfl
    refine sCallQ (X := Unit) (f := 13) (vs := [.agg #[iv r26.1, iv o32]]) (val := fun _ => iv r50) S (wN rfl) rfl callee13 rfl (S1.quiet [0] rfl) (fun E1 w1 S1 => c_raddleref23_Check E1 w1 (api_Ratio.mk r26.1 o32) (.agg #[iv r26.1, iv o32]) r50 hx51 S1) rfl (lb rfl) fun _ a w S => ?_
    refine sBin (.bool (r50 != 0)) S (wN rfl) rfl rfl rfl (bNe _ _ _ _ .i64 r50 0) rfl (lb rfl) fun a S => ?_
    refine leafL (leafT (hK49 _ _ ?_))
    rcases iteSome h with ⟨hc52, h⟩ | ⟨hc52, h⟩
    · refine sCondT S rfl hc52 ?_
      refine sSeq (fun K53 hK53 => ?_)
      refine sRegion ?_
      refine sBuild [] [iv 0, iv 0] S (wN rfl) rfl rfl rfl rfl (lb rfl) fun a S => ?_
      refine sStore (p := b2) (off := 0) (T := 23) (vs := [iv 0, iv 0]) (v := .agg #[iv 0, iv 0]) 0 [iv 0, iv 0] S (wN rfl) rfl rfl rfl rfl rfl rfl rfl (by simp) rfl fun a w S => ?_
      refine sMove (iv 12) S (wN rfl) (.inr rfl) rfl rfl (lb rfl) fun a S => ?_
      refine leafL (leafT (hK53 _ _ ?_))
      obtain rfl := Option.some.inj h
      have S := S.learn (fRep r_api_Ratio (.agg #[iv 0, iv 0]) (api_Ratio.mk 0 0)) rfl
      exact wp_ret (rThen (sRet (.tuple #[.agg #[iv 0, iv 0], iv 12]) S (rsl2 rfl (rvN (c := 2) (t := 23) (T := 23) (p := b2) 0 [iv 0, iv 0] S rfl rfl rfl rfl) (rvT (t := 3) (v := iv 12) S rfl)) ⟨(.agg #[iv 0, iv 0]), rfl, S.mem.sel [] [0] (by decide) rfl rfl⟩))
    refine sCondF S rfl hc52 ?_
    refine wp_skip (leafT (hK48 _ _ ?_))
    refine sSeq (fun K54 hK54 => ?_)
    refine sRegion ?_
    refine sLoadN (p := b21) (off := 0) (T := 23) (vs := [iv r26.1, iv o32]) 1 [iv r26.1, iv o32] S (wN rfl) rfl rfl rfl rfl rfl rfl rfl (lb rfl) fun a S => ?_
    refine sStore (p := b2) (off := 0) (T := 23) (vs := [iv 0, iv 0]) (v := .agg #[iv r26.1, iv o32]) 0 [iv r26.1, iv o32] S (wN rfl) rfl rfl rfl rfl rfl rfl rfl (by simp) rfl fun a w S => ?_
    refine sMove (iv 0) S (wN rfl) (.inr rfl) rfl rfl (lb rfl) fun a S => ?_
    refine leafL (leafT (hK54 _ _ ?_))
    obtain rfl := Option.some.inj h
    have S := S.learn (fRep r_api_Ratio (.agg #[iv r26.1, iv o32]) (api_Ratio.mk r26.1 o32)) rfl
    exact wp_ret (sRet (.tuple #[.agg #[iv r26.1, iv o32], iv 0]) S (rsl2 rfl (rvN (c := 2) (t := 23) (T := 23) (p := b2) 0 [iv r26.1, iv o32] S rfl rfl rfl rfl) (rvT (t := 3) (v := iv 0) S rfl)) ⟨(.agg #[iv r26.1, iv o32]), rfl, S.mem.sel [] [0] (by decide) rfl rfl⟩)
  refine sSeq (fun K35 hK35 => ?_)
  refine sRegion ?_
  refine sMove (iv o4) S (wN rfl) (.inl rfl) rfl rfl (lb rfl) fun a S => ?_
  refine sMove (.string p0) S (wN rfl) (.inl rfl) rfl rfl (lb rfl) fun a S => ?_
  refine sLenS (v := p0) S (wN rfl) rfl Tryd.underlying9 rfl rfl (lb rfl) fun a S => ?_
  refine sBin (.bool (decide (o4 < (p0.size : Int)))) S (wN rfl) rfl rfl rfl (bLt _ _ _ _ .i64 o4 (p0.size : Int)) rfl (lb rfl) fun a S => ?_
  refine leafL (leafT (hK35 _ _ ?_))
  rcases iteSome h with ⟨hc36, h⟩ | ⟨hc36, h⟩
  rotate_left
  · refine sCondF S rfl hc36 ?_
    exact wp_skip (leafT (⟨1, Option.some.inj h, S.fix [1, 0] [] (by decide) rfl rfl rfl⟩))
  refine sCondT S rfl hc36 ?_
  refine sSeq (fun K37 hK37 => ?_)
  refine sRegion ?_
  refine sMove (.string p0) S (wN rfl) (.inl rfl) rfl rfl (lb rfl) fun a S => ?_
  refine sMove (iv o4) S (wN rfl) (.inl rfl) rfl rfl (lb rfl) fun a S => ?_
  refine sBin (iv (w64 (o4 + 1))) S (wN rfl) rfl rfl rfl (bAdd _ _ _ _ o4 1) rfl (lb rfl) fun a S => ?_
  obtain ⟨y38, hx39, h⟩ := bindSome h
  refine sSliceS (v := p0) (u := y38) (vlo := (some (.int .i64 (w64 (o4 + 1))))) (vhi := none) (lo' := w64 (o4 + 1)) (hi' := (p0.size : Int)) S (wN rfl) rfl Tryd.underlying9 rfl rfl rfl (.inl rfl) (.inr ⟨rfl, rfl⟩) hx39 rfl (lb rfl) fun a S => ?_
  obtain ⟨r40, hx41, h⟩ := bindSome h
  have S1 := S.mem
  refine sCallQ (X := Unit) (f := 20) (vs := [.string y38]) (val := fun _ => .tuple #[iv r40.1, .bool r40.2]) S (wN rfl) rfl callee20 rfl (S1.quiet [] rfl) (fun E1 w1 S1 => c_raddleref23_Number E1 w1 y38 r40 hx41 S1) rfl (lb rfl) fun _ a w S => ?_
  refine sMove (.tuple #[iv r40.1, .bool r40.2]) S (wN rfl) (.inl rfl) rfl rfl (lb rfl) fun a S => ?_
  refine sExtract (vs := [iv r40.1, .bool r40.2]) (iv r40.1) S (wN rfl) rfl rfl rfl rfl (lb rfl) fun a S => ?_
  refine sExtract (vs := [iv r40.1, .bool r40.2]) (.bool r40.2) S (wN rfl) rfl rfl rfl rfl (lb rfl) fun a S => ?_
  refine sField (b := b21) (off := 0) 1 1 S (wN rfl) rfl rfl rfl rfl rfl (lb rfl) fun a S => ?_
  refine sStore (p := b21) (off := 1) (T := 23) (vs := [iv r26.1, iv 1]) (v := iv r40.1) 0 [iv r40.1] S (wN rfl) rfl rfl rfl rfl rfl rfl rfl (by simp) rfl fun a w S => ?_
  refine sMove (.bool r40.2) S (wN rfl) (.inr rfl) rfl rfl (lb rfl) fun a S => ?_
  refine leafL (leafT (hK37 _ _ ?_))
  obtain ⟨t43, h, g44⟩ := bindSome h
  refine sCut (fun a w => ∃ o42, o42 = t43 ∧ St [] E [] w0 57 a w [(2, .pointer (some ⟨b2, 0, none⟩)), (5, .pointer (some ⟨b21, 0, none⟩)), (50, .bool o42)] [eBox b2 23 [iv 0, iv 0], eBox b21 23 [iv r26.1, iv r40.1]] []) ?_ (fun a w hI => ?_)
  rotate_left
  · obtain ⟨o42, rfl, S⟩ := hI
    have h := g44
    clear g44
    try dsimp only at h
    rcases iteSome h with ⟨hc46, h⟩ | ⟨hc46, h⟩
    rotate_left
    · refine sCondF S rfl hc46 ?_
      exact wp_skip (leafT (⟨r40.1, Option.some.inj h, S.fix [0, 1] [] (by decide) rfl rfl rfl⟩))
    refine sCondT S rfl hc46 ?_
    refine sSeq (fun K47 hK47 => ?_)
    refine sRegion ?_
    refine sBuild [] [iv 0, iv 0] S (wN rfl) rfl rfl rfl rfl (lb rfl) fun a S => ?_
    refine sStore (p := b2) (off := 0) (T := 23) (vs := [iv 0, iv 0]) (v := .agg #[iv 0, iv 0]) 0 [iv 0, iv 0] S (wN rfl) rfl rfl rfl rfl rfl rfl rfl (by simp) rfl fun a w S => ?_
    refine sMove (iv 12) S (wN rfl) (.inr rfl) rfl rfl (lb rfl) fun a S => ?_
    refine leafL (leafT (hK47 _ _ ?_))
    obtain rfl := Option.some.inj h
    have h := g34
    clear g34
    try dsimp only at h
    obtain rfl := Option.some.inj h
    have S := S.learn (fRep r_api_Ratio (.agg #[iv 0, iv 0]) (api_Ratio.mk 0 0)) rfl
    exact wp_ret (rThen (sRet (.tuple #[.agg #[iv 0, iv 0], iv 12]) S (rsl2 rfl (rvN (c := 2) (t := 23) (T := 23) (p := b2) 0 [iv 0, iv 0] S rfl rfl rfl rfl) (rvT (t := 3) (v := iv 12) S rfl)) ⟨(.agg #[iv 0, iv 0]), rfl, S.mem.sel [] [0] (by decide) rfl rfl⟩))
  refine sRegion ?_
  refine sMove (.bool r40.2) S (wN rfl) (.inl rfl) rfl rfl (lb rfl) fun a S => ?_
  refine sNot (b := r40.2) S (wN rfl) rfl rfl rfl (lb rfl) fun a S => ?_
  refine sMove (.bool (!r40.2)) S (wN rfl) (.inl rfl) rfl rfl (lb rfl) fun a S => ?_
  rcases iteSome h with ⟨hc45, h⟩ | ⟨hc45, h⟩
  · refine sSkip 2 false 46 47 S rfl rfl rfl hc45 rfl (lb rfl) fun a S => ?_
    refine sSkip 2 false 46 48 S rfl rfl rfl hc45 rfl (lb rfl) fun a S => ?_
    refine sSkip 2 false 46 49 S rfl rfl rfl hc45 rfl (lb rfl) fun a S => ?_
    refine sPickT (.bool true) S (wN rfl) rfl rfl hc45 rfl rfl (lb rfl) fun a S => ?_
    exact leafL (leafT (⟨true, Option.some.inj h, S.fix [1, 0] [] (by decide) rfl rfl rfl⟩))
  refine sField (b := b21) (off := 0) 1 1 S (wG 2 false 46 rfl rfl rfl hc45) rfl rfl rfl rfl rfl (lb rfl) fun a S => ?_
  refine sLoad1 (p := b21) (off := 1) (T := 23) (vs := [iv r26.1, iv r40.1]) 0 (iv r40.1) S (wG 2 false 46 rfl rfl rfl hc45) rfl rfl rfl rfl rfl rfl (lb rfl) fun a S => ?_
  refine sBin (.bool (r40.1 == 1)) S (wG 2 false 46 rfl rfl rfl hc45) rfl rfl rfl (bEq _ _ _ _ .i64 r40.1 1) rfl (lb rfl) fun a S => ?_
  refine sPickF (.bool (r40.1 == 1)) S (wN rfl) rfl rfl hc45 rfl rfl (lb rfl) fun a S => ?_
  exact leafL (leafT (⟨r40.1 == 1, Option.some.inj h, S.fix [1, 0] [] (by decide) rfl rfl rfl⟩))

end Go.Proofs.YtdfjcpnflmgdoaaDoor
namespace Go.Proofs.YtdfjcpnflmgdoaaDoor
open Go.RowKit
set_option linter.unusedVariables false

noncomputable def F_raddlelaw23_YarnTexts (p0 : Int) (p1 : Int) (p2 : api_Ratio) (p3 : ByteArray) : Option Bool :=
  if decide (200 < (p3.size : Int)) then
    some true
  else
    Option.bind (F_yarn_Make p0 p1) fun r8 =>
    Option.bind (F_raddleref23_Make p0 p1) fun r13 =>
    Option.bind (F_yarn_Text p2) fun r18 =>
    Option.bind (F_raddleref23_Text p2) fun r21 =>
    Option.bind (F_yarn_Parse p3) fun r24 =>
    Option.bind (F_raddleref23_Parse p3) fun r29 =>
    Option.bind (α := Bool) (
      if ((r8.1.Num == r13.1.Num) && ((r8.1.Den == r13.1.Den) && true)) then
        if r8.2 == r13.2 then
          if r18.1 == r21.1 then
            if r18.2 == r21.2 then
              if ((r24.1.Num == r29.1.Num) && ((r24.1.Den == r29.1.Den) && true)) then
                some (r24.2 == r29.2)
              else
                some false
            else
              some false
          else
            some false
        else
          some false
      else
        some false) fun o33 =>
    some o33
set_option maxHeartbeats 4000000 in
set_option maxRecDepth 100000 in
theorem c_raddlelaw23_YarnTexts (E : Nat → Prop) (w0 : World) (p0 : Int) (p1 : Int) (p2 : api_Ratio) (v2 : Value) (p3 : ByteArray) (r : Bool) (h : F_raddlelaw23_YarnTexts p0 p1 p2 p3 = some r) (S : St0 E [] w0 w0 [] [fRep r_api_Ratio (v2) p2, fGv gMax cMax, fGv gTab cTab]) :
    Calls Tryd.prog 3 #[iv p0, iv p1, v2, .string p3] w0 (Ret (X := Unit) E [] w0 (fun _ => .bool r) (fun _ => []) (fun _ => [])) := by
  unfold F_raddlelaw23_YarnTexts at h
  obtain rfl : v2 = .agg #[iv p2.Num, iv p2.Den] := S.know (i := 0) (e := fRep r_api_Ratio (v2) p2) rfl
  refine sEnter (args := [iv p0, iv p1, .agg #[iv p2.Num, iv p2.Den], .string p3]) 84 Tryd.func3 rfl rfl (by simp) S (fun a S => ?_)
  refine sSeq (fun K1 hK1 => ?_)
  refine sRegion ?_
  refine sBox (v := .agg #[iv p2.Num, iv p2.Den]) S (wN rfl) rfl rfl [iv p2.Num, iv p2.Den] rfl rfl (lb rfl) fun a b2 w S => ?_
  refine sMove (.bool false) S (wN rfl) (.inr rfl) rfl rfl (lb rfl) fun a S => ?_
  refine leafL (leafT (hK1 _ _ ?_))
  refine sSeq (fun K3 hK3 => ?_)
  refine sSeq (fun K4 hK4 => ?_)
  refine sRegion ?_
  refine sMove (.string p3) S (wN rfl) (.inl rfl) rfl rfl (lb rfl) fun a S => ?_
  refine sLenS (v := p3) S (wN rfl) rfl Tryd.underlying9 rfl rfl (lb rfl) fun a S => ?_
  refine sBin (.bool (decide (200 < (p3.size : Int)))) S (wN rfl) rfl rfl rfl (bGt _ _ _ _ .i64 (p3.size : Int) 200) rfl (lb rfl) fun a S => ?_
  refine leafL (leafT (hK4 _ _ ?_))
  rcases iteSome h with ⟨hc5, h⟩ | ⟨hc5, h⟩
  · refine sCondT S rfl hc5 ?_
    refine sSeq (fun K6 hK6 => ?_)
    refine sRegion ?_
    refine sMove (.bool true) S (wN rfl) (.inr rfl) rfl rfl (lb rfl) fun a S => ?_
    refine leafL (leafT (hK6 _ _ ?_))
    obtain rfl := Option.some.inj h
    exact wp_ret (rThen (sRet (.bool true) S (rsl1 rfl (rvT (t := 8) (v := .bool true) S rfl)) ⟨(), rfl, S.mem.sel [] [] (by decide) rfl rfl⟩))
  refine sCondF S rfl hc5 ?_
  refine wp_skip (leafT (hK3 _ _ ?_))
  refine sSeq (fun K7 hK7 => ?_)
  refine sRegion ?_
  refine sMove (iv p0) S (wN rfl) (.inl rfl) rfl rfl (lb rfl) fun a S => ?_
  refine sMove (iv p1) S (wN rfl) (.inl rfl) rfl rfl (lb rfl) fun a S => ?_
  obtain ⟨r8, hx9, h⟩ := bindSome h
  refine sCall (X := Value) (f := 4) (vs := [iv p0, iv p1]) (val := c_yarn_Make_val r8) (B' := fun _ => []) (D' := c_yarn_Make_D r8) [] [eBox b2 23 [iv p2.Num, iv p2.Den]] [] [0] [] S (wN rfl) rfl callee4 rfl (by decide) rfl rfl (fun E1 w1 S1 => c_yarn_Make E1 w1 p0 p1 r8 hx9 S1) rfl (lb rfl) fun u10 a w S => ?_
  obtain rfl : u10 = .agg #[iv r8.1.Num, iv r8.1.Den] := S.mem.know (i := 0) (e := fRep r_api_Ratio (u10) r8.1) rfl
  refine sMove (.tuple #[.agg #[iv r8.1.Num, iv r8.1.Den], iv r8.2]) S (wN rfl) (.inl rfl) rfl rfl (lb rfl) fun a S => ?_
  refine sExtract (vs := [.agg #[iv r8.1.Num, iv r8.1.Den], iv r8.2]) (.agg #[iv r8.1.Num, iv r8.1.Den]) S (wN rfl) rfl rfl rfl rfl (lb rfl) fun a S => ?_
  refine sExtract (vs := [.agg #[iv r8.1.Num, iv r8.1.Den], iv r8.2]) (iv r8.2) S (wN rfl) rfl rfl rfl rfl (lb rfl) fun a S => ?_
  refine sAlloc (.agg #[iv 0, iv 0]) S (wN rfl) rfl rfl [iv 0, iv 0] rfl rfl (lb rfl) fun a b11 w S => ?_
  refine sStore (p := b11) (off := 0) (T := 23) (vs := [iv 0, iv 0]) (v := .agg #[iv r8.1.Num, iv r8.1.Den]) 0 [iv r8.1.Num, iv r8.1.Den] S (wN rfl) rfl rfl rfl rfl rfl rfl rfl (by simp) rfl fun a w S => ?_
  refine sMove (iv r8.2) S (wN rfl) (.inr rfl) rfl rfl (lb rfl) fun a S => ?_
  refine leafL (leafT (hK7 _ _ ?_))
  refine sSeq (fun K12 hK12 => ?_)
  refine sRegion ?_
  refine sMove (iv p0) S (wN rfl) (.inl rfl) rfl rfl (lb rfl) fun a S => ?_
  refine sMove (iv p1) S (wN rfl) (.inl rfl) rfl rfl (lb rfl) fun a S => ?_
  obtain ⟨r13, hx14, h⟩ := bindSome h
  refine sCall (X := Value) (f := 5) (vs := [iv p0, iv p1]) (val := c_raddleref23_Make_val r13) (B' := fun _ => []) (D' := c_raddleref23_Make_D r13) [] [eBox b11 23 [iv r8.1.Num, iv r8.1.Den], eBox b2 23 [iv p2.Num, iv p2.Den]] [] [0, 1] [] S (wN rfl) rfl callee5 rfl (by decide) rfl rfl (fun E1 w1 S1 => c_raddleref23_Make E1 w1 p0 p1 r13 hx14 S1) rfl (lb rfl) fun u15 a w S => ?_
  obtain rfl : u15 = .agg #[iv r13.1.Num, iv r13.1.Den] := S.mem.know (i := 0) (e := fRep r_api_Ratio (u15) r13.1) rfl
  refine sMove (.tuple #[.agg #[iv r13.1.Num, iv r13.1.Den], iv r13.2]) S (wN rfl) (.inl rfl) rfl rfl (lb rfl) fun a S => ?_
  refine sExtract (vs := [.agg #[iv r13.1.Num, iv r13.1.Den], iv r13.2]) (.agg #[iv r13.1.Num, iv r13.1.Den]) S (wN rfl) rfl rfl rfl rfl (lb rfl) fun a S => ?_
  refine sExtract (vs := [.agg #[iv r13.1.Num, iv r13.1.Den], iv r13.2]) (iv r13.2) S (wN rfl) rfl rfl rfl rfl (lb rfl) fun a S => ?_
  refine sAlloc (.agg #[iv 0, iv 0]) S (wN rfl) rfl rfl [iv 0, iv 0] rfl rfl (lb rfl) fun a b16 w S => ?_
  refine sStore (p := b16) (off := 0) (T := 23) (vs := [iv 0, iv 0]) (v := .agg #[iv r13.1.Num, iv r13.1.Den]) 0 [iv r13.1.Num, iv r13.1.Den] S (wN rfl) rfl rfl rfl rfl rfl rfl rfl (by simp) rfl fun a w S => ?_
  refine sMove (iv r13.2) S (wN rfl) (.inr rfl) rfl rfl (lb rfl) fun a S => ?_
  refine leafL (leafT (hK12 _ _ ?_))
  refine sSeq (fun K17 hK17 => ?_)
  refine sRegion ?_
  refine sLoadN (p := b2) (off := 0) (T := 23) (vs := [iv p2.Num, iv p2.Den]) 2 [iv p2.Num, iv p2.Den] S (wN rfl) rfl rfl rfl rfl rfl rfl rfl (lb rfl) fun a S => ?_
  obtain ⟨r18, hx19, h⟩ := bindSome h
  have S1 := S.mem
  refine sCallQ (X := Unit) (f := 6) (vs := [.agg #[iv p2.Num, iv p2.Den]]) (val := fun _ => .tuple #[.string r18.1, iv r18.2]) S (wN rfl) rfl callee6 rfl (S1.quiet [2, 4] rfl) (fun E1 w1 S1 => c_yarn_Text E1 w1 p2 (.agg #[iv p2.Num, iv p2.Den]) r18 hx19 S1) rfl (lb rfl) fun _ a w S => ?_
  refine sMove (.tuple #[.string r18.1, iv r18.2]) S (wN rfl) (.inl rfl) rfl rfl (lb rfl) fun a S => ?_
  refine sExtract (vs := [.string r18.1, iv r18.2]) (.string r18.1) S (wN rfl) rfl rfl rfl rfl (lb rfl) fun a S => ?_
  refine sExtract (vs := [.string r18.1, iv r18.2]) (iv r18.2) S (wN rfl) rfl rfl rfl rfl (lb rfl) fun a S => ?_
  refine sMove (.string r18.1) S (wN rfl) (.inr rfl) rfl rfl (lb rfl) fun a S => ?_
  refine sMove (iv r18.2) S (wN rfl) (.inr rfl) rfl rfl (lb rfl) fun a S => ?_
  refine leafL (leafT (hK17 _ _ ?_))
  refine sSeq (fun K20 hK20 => ?_)
  refine sRegion ?_
  refine sLoadN (p := b2) (off := 0) (T := 23) (vs := [iv p2.Num, iv p2.Den]) 2 [iv p2.Num, iv p2.Den] S (wN rfl) rfl rfl rfl rfl rfl rfl rfl (lb rfl) fun a S => ?_
  obtain ⟨r21, hx22, h⟩ := bindSome h
  have S1 := S.mem
  refine sCallQ (X := Unit) (f := 7) (vs := [.agg #[iv p2.Num, iv p2.Den]]) (val := fun _ => .tuple #[.string r21.1, iv r21.2]) S (wN rfl) rfl callee7 rfl (S1.quiet [2] rfl) (fun E1 w1 S1 => c_raddleref23_Text E1 w1 p2 (.agg #[iv p2.Num, iv p2.Den]) r21 hx22 S1) rfl (lb rfl) fun _ a w S => ?_
  refine sMove (.tuple #[.string r21.1, iv r21.2]) S (wN rfl) (.inl rfl) rfl rfl (lb rfl) fun a S => ?_
  refine sExtract (vs := [.string r21.1, iv r21.2]) (.string r21.1) S (wN rfl) rfl rfl rfl rfl (lb rfl) fun a S => ?_
  refine sExtract (vs := [.string r21.1, iv r21.2]) (iv r21.2) S (wN rfl) rfl rfl rfl rfl (lb rfl) fun a S => ?_
  refine sMove (.string r21.1) S (wN rfl) (.inr rfl) rfl rfl (lb rfl) fun a S => ?_
  refine sMove (iv r21.2) S (wN rfl) (.inr rfl) rfl rfl (lb rfl) fun a S => ?_
  refine leafL (leafT (hK20 _ _ ?_))
  refine sSeq (fun K23 hK23 => ?_)
  refine sRegion ?_
  refine sMove (.string p3) S (wN rfl) (.inl rfl) rfl rfl (lb rfl) fun a S => ?_
  obtain ⟨r24, hx25, h⟩ := bindSome h
  refine sCall (X := Value) (f := 8) (vs := [.string p3]) (val := c_yarn_Parse_val r24) (B' := fun _ => []) (D' := c_yarn_Parse_D r24) [] [eBox b16 23 [iv r13.1.Num, iv r13.1.Den], eBox b11 23 [iv r8.1.Num, iv r8.1.Den], eBox b2 23 [iv p2.Num, iv p2.Den]] [fGv gMax cMax, fGv gTab cTab] [0, 1, 2] [3, 4] S (wN rfl) rfl callee8 rfl (by decide) rfl rfl (fun E1 w1 S1 => c_yarn_Parse E1 w1 p3 r24 hx25 S1) rfl (lb rfl) fun u26 a w S => ?_
  obtain rfl : u26 = .agg #[iv r24.1.Num, iv r24.1.Den] := S.mem.know (i := 0) (e := fRep r_api_Ratio (u26) r24.1) rfl
  refine sMove (.tuple #[.agg #[iv r24.1.Num, iv r24.1.Den], iv r24.2]) S (wN rfl) (.inl rfl) rfl rfl (lb rfl) fun a S => ?_
  refine sExtract (vs := [.agg #[iv r24.1.Num, iv r24.1.Den], iv r24.2]) (.agg #[iv r24.1.Num, iv r24.1.Den]) S (wN rfl) rfl rfl rfl rfl (lb rfl) fun a S => ?_
  refine sExtract (vs := [.agg #[iv r24.1.Num, iv r24.1.Den], iv r24.2]) (iv r24.2) S (wN rfl) rfl rfl rfl rfl (lb rfl) fun a S => ?_
  refine sAlloc (.agg #[iv 0, iv 0]) S (wN rfl) rfl rfl [iv 0, iv 0] rfl rfl (lb rfl) fun a b27 w S => ?_
  refine sStore (p := b27) (off := 0) (T := 23) (vs := [iv 0, iv 0]) (v := .agg #[iv r24.1.Num, iv r24.1.Den]) 0 [iv r24.1.Num, iv r24.1.Den] S (wN rfl) rfl rfl rfl rfl rfl rfl rfl (by simp) rfl fun a w S => ?_
  refine sMove (iv r24.2) S (wN rfl) (.inr rfl) rfl rfl (lb rfl) fun a S => ?_
  refine leafL (leafT (hK23 _ _ ?_))
  refine sSeq (fun K28 hK28 => ?_)
  refine sRegion ?_
  refine sMove (.string p3) S (wN rfl) (.inl rfl) rfl rfl (lb rfl) fun a S => ?_
  obtain ⟨r29, hx30, h⟩ := bindSome h
  refine sCall (X := Value) (f := 9) (vs := [.string p3]) (val := c_raddleref23_Parse_val r29) (B' := fun _ => []) (D' := c_raddleref23_Parse_D r29) [] [eBox b27 23 [iv r24.1.Num, iv r24.1.Den], eBox b16 23 [iv r13.1.Num, iv r13.1.Den], eBox b11 23 [iv r8.1.Num, iv r8.1.Den], eBox b2 23 [iv p2.Num, iv p2.Den]] [] [0, 1, 2, 3] [] S (wN rfl) rfl callee9 rfl (by decide) rfl rfl (fun E1 w1 S1 => c_raddleref23_Parse E1 w1 p3 r29 hx30 S1) rfl (lb rfl) fun u31 a w S => ?_
  obtain rfl : u31 = .agg #[iv r29.1.Num, iv r29.1.Den] := S.mem.know (i := 0) (e := fRep r_api_Ratio (u31) r29.1) rfl
  refine sMove (.tuple #[.agg #[iv r29.1.Num, iv r29.1.Den], iv r29.2]) S (wN rfl) (.inl rfl) rfl rfl (lb rfl) fun a S => ?_
  refine sExtract (vs := [.agg #[iv r29.1.Num, iv r29.1.Den], iv r29.2]) (.agg #[iv r29.1.Num, iv r29.1.Den]) S (wN rfl) rfl rfl rfl rfl (lb rfl) fun a S => ?_
  refine sExtract (vs := [.agg #[iv r29.1.Num, iv r29.1.Den], iv r29.2]) (iv r29.2) S (wN rfl) rfl rfl rfl rfl (lb rfl) fun a S => ?_
  refine sAlloc (.agg #[iv 0, iv 0]) S (wN rfl) rfl rfl [iv 0, iv 0] rfl rfl (lb rfl) fun a b32 w S => ?_
  refine sStore (p := b32) (off := 0) (T := 23) (vs := [iv 0, iv 0]) (v := .agg #[iv r29.1.Num, iv r29.1.Den]) 0 [iv r29.1.Num, iv r29.1.Den] S (wN rfl) rfl rfl rfl rfl rfl rfl rfl (by simp) rfl fun a w S => ?_
  refine sMove (iv r29.2) S (wN rfl) (.inr rfl) rfl rfl (lb rfl) fun a S => ?_
  refine leafL (leafT (hK28 _ _ ?_))
  obtain ⟨t34, h, g35⟩ := bindSome h
  refine sCut (fun a w => ∃ o33, o33 = t34 ∧ St [] E [] w0 84 a w [(8, .bool o33)] [] [fGv gMax cMax, fGv gTab cTab]) ?_ (fun a w hI => ?_)
  rotate_left
  · obtain ⟨o33, rfl, S⟩ := hI
    have h := g35
    clear g35
    try dsimp only at h
    obtain rfl := Option.some.inj h
    exact wp_ret (sRet (.bool o33) S (rsl1 rfl (rvT (t := 8) (v := .bool o33) S rfl)) ⟨(), rfl, S.mem.sel [] [] (by decide) rfl rfl⟩)
  refine sRegion ?_
  refine sLoadN (p := b11) (off := 0) (T := 23) (vs := [iv r8.1.Num, iv r8.1.Den]) 3 [iv r8.1.Num, iv r8.1.Den] S (wN rfl) rfl rfl rfl rfl rfl rfl rfl (lb rfl) fun a S => ?_
  refine sLoadN (p := b16) (off := 0) (T := 23) (vs := [iv r13.1.Num, iv r13.1.Den]) 2 [iv r13.1.Num, iv r13.1.Den] S (wN rfl) rfl rfl rfl rfl rfl rfl rfl (lb rfl) fun a S => ?_
  refine sBin (.bool ((r8.1.Num == r13.1.Num) && ((r8.1.Den == r13.1.Den) && true))) S (wN rfl) rfl rfl rfl (bEqV _ _ _ _ #[iv r8.1.Num, iv r8.1.Den] #[iv r13.1.Num, iv r13.1.Den] ((r8.1.Num == r13.1.Num) && ((r8.1.Den == r13.1.Den) && true)) (by kernel_rfl) (eqlV_of (by kernel_rfl))) rfl (lb rfl) fun a S => ?_
  refine sMove (.bool ((r8.1.Num == r13.1.Num) && ((r8.1.Den == r13.1.Den) && true))) S (wN rfl) (.inl rfl) rfl rfl (lb rfl) fun a S => ?_
  rcases iteSome h with ⟨hc36, h⟩ | ⟨hc36, h⟩
  rotate_left
  · refine sSkip 3 true 59 60 S rfl rfl rfl hc36 rfl (lb rfl) fun a S => ?_
    refine sSkip 3 true 59 61 S rfl rfl rfl hc36 rfl (lb rfl) fun a S => ?_
    refine sSkip 3 true 59 62 S rfl rfl rfl hc36 rfl (lb rfl) fun a S => ?_
    refine sPickF (.bool false) S (wN rfl) rfl rfl hc36 rfl rfl (lb rfl) fun a S => ?_
    refine sMove (.bool false) S (wN rfl) (.inl rfl) rfl rfl (lb rfl) fun a S => ?_
    refine sSkip 8 true 64 65 S rfl rfl rfl rfl rfl (lb rfl) fun a S => ?_
    refine sSkip 8 true 64 66 S rfl rfl rfl rfl rfl (lb rfl) fun a S => ?_
    refine sSkip 8 true 64 67 S rfl rfl rfl rfl rfl (lb rfl) fun a S => ?_
    refine sPickF (.bool false) S (wN rfl) rfl rfl rfl rfl rfl (lb rfl) fun a S => ?_
    refine sMove (.bool false) S (wN rfl) (.inl rfl) rfl rfl (lb rfl) fun a S => ?_
    refine sSkip 13 true 69 70 S rfl rfl rfl rfl rfl (lb rfl) fun a S => ?_
    refine sSkip 13 true 69 71 S rfl rfl rfl rfl rfl (lb rfl) fun a S => ?_
    refine sSkip 13 true 69 72 S rfl rfl rfl rfl rfl (lb rfl) fun a S => ?_
    refine sPickF (.bool false) S (wN rfl) rfl rfl rfl rfl rfl (lb rfl) fun a S => ?_
    refine sMove (.bool false) S (wN rfl) (.inl rfl) rfl rfl (lb rfl) fun a S => ?_
    refine sSkip 18 true 74 75 S rfl rfl rfl rfl rfl (lb rfl) fun a S => ?_
    refine sSkip 18 true 74 76 S rfl rfl rfl rfl rfl (lb rfl) fun a S => ?_
    refine sSkip 18 true 74 77 S rfl rfl rfl rfl rfl (lb rfl) fun a S => ?_
    refine sPickF (.bool false) S (wN rfl) rfl rfl rfl rfl rfl (lb rfl) fun a S => ?_
    refine sMove (.bool false) S (wN rfl) (.inl rfl) rfl rfl (lb rfl) fun a S => ?_
    refine sSkip 23 true 79 80 S rfl rfl rfl rfl rfl (lb rfl) fun a S => ?_
    refine sSkip 23 true 79 81 S rfl rfl rfl rfl rfl (lb rfl) fun a S => ?_
    refine sSkip 23 true 79 82 S rfl rfl rfl rfl rfl (lb rfl) fun a S => ?_
    refine sPickF (.bool false) S (wN rfl) rfl rfl rfl rfl rfl (lb rfl) fun a S => ?_
    refine sMove (.bool false) S (wN rfl) (.inr rfl) rfl rfl (lb rfl) fun a S => ?_
    exact leafL (leafT (⟨false, Option.some.inj h, S.fix [] [5, 6] (by decide) rfl rfl rfl⟩))
  refine sMove (iv r8.2) S (wG 3 true 59 rfl rfl rfl hc36) (.inl rfl) rfl rfl (lb rfl) fun a S => ?_
  refine sMove (iv r13.2) S (wG 3 true 59 rfl rfl rfl hc36) (.inl rfl) rfl rfl (lb rfl) fun a S => ?_
  refine sBin (.bool (r8.2 == r13.2)) S (wG 3 true 59 rfl rfl rfl hc36) rfl rfl rfl (bEq _ _ _ _ .i64 r8.2 r13.2) rfl (lb rfl) fun a S => ?_
  refine sPickT (.bool (r8.2 == r13.2)) S (wN rfl) rfl rfl hc36 rfl rfl (lb rfl) fun a S => ?_
  refine sMove (.bool (r8.2 == r13.2)) S (wN rfl) (.inl rfl) rfl rfl (lb rfl) fun a S => ?_
  rcases iteSome h with ⟨hc37, h⟩ | ⟨hc37, h⟩
  rotate_left
  · refine sSkip 8 true 64 65 S rfl rfl rfl hc37 rfl (lb rfl) fun a S => ?_
    refine sSkip 8 true 64 66 S rfl rfl rfl hc37 rfl (lb rfl) fun a S => ?_
    refine sSkip 8 true 64 67 S rfl rfl rfl hc37 rfl (lb rfl) fun a S => ?_
    refine sPickF (.bool false) S (wN rfl) rfl rfl hc37 rfl rfl (lb rfl) fun a S => ?_
    refine sMove (.bool false) S (wN rfl) (.inl rfl) rfl rfl (lb rfl) fun a S => ?_
    refine sSkip 13 true 69 70 S rfl rfl rfl rfl rfl (lb rfl) fun a S => ?_
    refine sSkip 13 true 69 71 S rfl rfl rfl rfl rfl (lb rfl) fun a S => ?_
    refine sSkip 13 true 69 72 S rfl rfl rfl rfl rfl (lb rfl) fun a S => ?_
    refine sPickF (.bool false) S (wN rfl) rfl rfl rfl rfl rfl (lb rfl) fun a S => ?_
    refine sMove (.bool false) S (wN rfl) (.inl rfl) rfl rfl (lb rfl) fun a S => ?_
    refine sSkip 18 true 74 75 S rfl rfl rfl rfl rfl (lb rfl) fun a S => ?_
    refine sSkip 18 true 74 76 S rfl rfl rfl rfl rfl (lb rfl) fun a S => ?_
    refine sSkip 18 true 74 77 S rfl rfl rfl rfl rfl (lb rfl) fun a S => ?_
    refine sPickF (.bool false) S (wN rfl) rfl rfl rfl rfl rfl (lb rfl) fun a S => ?_
    refine sMove (.bool false) S (wN rfl) (.inl rfl) rfl rfl (lb rfl) fun a S => ?_
    refine sSkip 23 true 79 80 S rfl rfl rfl rfl rfl (lb rfl) fun a S => ?_
    refine sSkip 23 true 79 81 S rfl rfl rfl rfl rfl (lb rfl) fun a S => ?_
    refine sSkip 23 true 79 82 S rfl rfl rfl rfl rfl (lb rfl) fun a S => ?_
    refine sPickF (.bool false) S (wN rfl) rfl rfl rfl rfl rfl (lb rfl) fun a S => ?_
    refine sMove (.bool false) S (wN rfl) (.inr rfl) rfl rfl (lb rfl) fun a S => ?_
    exact leafL (leafT (⟨false, Option.some.inj h, S.fix [] [5, 6] (by decide) rfl rfl rfl⟩))
  refine sMove (.string r18.1) S (wG 8 true 64 rfl rfl rfl hc37) (.inl rfl) rfl rfl (lb rfl) fun a S => ?_
  refine sMove (.string r21.1) S (wG 8 true 64 rfl rfl rfl hc37) (.inl rfl) rfl rfl (lb rfl) fun a S => ?_
  refine sBin (.bool (r18.1 == r21.1)) S (wG 8 true 64 rfl rfl rfl hc37) rfl rfl rfl (bEqS _ _ _ _ r18.1 r21.1) rfl (lb rfl) fun a S => ?_
  refine sPickT (.bool (r18.1 == r21.1)) S (wN rfl) rfl rfl hc37 rfl rfl (lb rfl) fun a S => ?_
  refine sMove (.bool (r18.1 == r21.1)) S (wN rfl) (.inl rfl) rfl rfl (lb rfl) fun a S => ?_
  rcases iteSome h with ⟨hc38, h⟩ | ⟨hc38, h⟩
  rotate_left
  · refine sSkip 13 true 69 70 S rfl rfl rfl hc38 rfl (lb rfl) fun a S => ?_
    refine sSkip 13 true 69 71 S rfl rfl rfl hc38 rfl (lb rfl) fun a S => ?_
    refine sSkip 13 true 69 72 S rfl rfl rfl hc38 rfl (lb rfl) fun a S => ?_
    refine sPickF (.bool false) S (wN rfl) rfl rfl hc38 rfl rfl (lb rfl) fun a S => ?_
    refine sMove (.bool false) S (wN rfl) (.inl rfl) rfl rfl (lb rfl) fun a S => ?_
    refine sSkip 18 true 74 75 S rfl rfl rfl rfl rfl (lb rfl) fun a S => ?_
    refine sSkip 18 true 74 76 S rfl rfl rfl rfl rfl (lb rfl) fun a S => ?_
    refine sSkip 18 true 74 77 S rfl rfl rfl rfl rfl (lb rfl) fun a S => ?_
    refine sPickF (.bool false) S (wN rfl) rfl rfl rfl rfl rfl (lb rfl) fun a S => ?_
    refine sMove (.bool false) S (wN rfl) (.inl rfl) rfl rfl (lb rfl) fun a S => ?_
    refine sSkip 23 true 79 80 S rfl rfl rfl rfl rfl (lb rfl) fun a S => ?_
    refine sSkip 23 true 79 81 S rfl rfl rfl rfl rfl (lb rfl) fun a S => ?_
    refine sSkip 23 true 79 82 S rfl rfl rfl rfl rfl (lb rfl) fun a S => ?_
    refine sPickF (.bool false) S (wN rfl) rfl rfl rfl rfl rfl (lb rfl) fun a S => ?_
    refine sMove (.bool false) S (wN rfl) (.inr rfl) rfl rfl (lb rfl) fun a S => ?_
    exact leafL (leafT (⟨false, Option.some.inj h, S.fix [] [5, 6] (by decide) rfl rfl rfl⟩))
  refine sMove (iv r18.2) S (wG 13 true 69 rfl rfl rfl hc38) (.inl rfl) rfl rfl (lb rfl) fun a S => ?_
  refine sMove (iv r21.2) S (wG 13 true 69 rfl rfl rfl hc38) (.inl rfl) rfl rfl (lb rfl) fun a S => ?_
  refine sBin (.bool (r18.2 == r21.2)) S (wG 13 true 69 rfl rfl rfl hc38) rfl rfl rfl (bEq _ _ _ _ .i64 r18.2 r21.2) rfl (lb rfl) fun a S => ?_
  refine sPickT (.bool (r18.2 == r21.2)) S (wN rfl) rfl rfl hc38 rfl rfl (lb rfl) fun a S => ?_
  refine sMove (.bool (r18.2 == r21.2)) S (wN rfl) (.inl rfl) rfl rfl (lb rfl) fun a S => ?_
  rcases iteSome h with ⟨hc39, h⟩ | ⟨hc39, h⟩
  rotate_left
  · refine sSkip 18 true 74 75 S rfl rfl rfl hc39 rfl (lb rfl) fun a S => ?_
    refine sSkip 18 true 74 76 S rfl rfl rfl hc39 rfl (lb rfl) fun a S => ?_
    refine sSkip 18 true 74 77 S rfl rfl rfl hc39 rfl (lb rfl) fun a S => ?_
    refine sPickF (.bool false) S (wN rfl) rfl rfl hc39 rfl rfl (lb rfl) fun a S => ?_
    refine sMove (.bool false) S (wN rfl) (.inl rfl) rfl rfl (lb rfl) fun a S => ?_
    refine sSkip 23 true 79 80 S rfl rfl rfl rfl rfl (lb rfl) fun a S => ?_
    refine sSkip 23 true 79 81 S rfl rfl rfl rfl rfl (lb rfl) fun a S => ?_
    refine sSkip 23 true 79 82 S rfl rfl rfl rfl rfl (lb rfl) fun a S => ?_
    refine sPickF (.bool false) S (wN rfl) rfl rfl rfl rfl rfl (lb rfl) fun a S => ?_
    refine sMove (.bool false) S (wN rfl) (.inr rfl) rfl rfl (lb rfl) fun a S => ?_
    exact leafL (leafT (⟨false, Option.some.inj h, S.fix [] [5, 6] (by decide) rfl rfl rfl⟩))
  refine sLoadN (p := b27) (off := 0) (T := 23) (vs := [iv r24.1.Num, iv r24.1.Den]) 1 [iv r24.1.Num, iv r24.1.Den] S (wG 18 true 74 rfl rfl rfl hc39) rfl rfl rfl rfl rfl rfl rfl (lb rfl) fun a S => ?_
  refine sLoadN (p := b32) (off := 0) (T := 23) (vs := [iv r29.1.Num, iv r29.1.Den]) 0 [iv r29.1.Num, iv r29.1.Den] S (wG 18 true 74 rfl rfl rfl hc39) rfl rfl rfl rfl rfl rfl rfl (lb rfl) fun a S => ?_
  refine sBin (.bool ((r24.1.Num == r29.1.Num) && ((r24.1.Den == r29.1.Den) && true))) S (wG 18 true 74 rfl rfl rfl hc39) rfl rfl rfl (bEqV _ _ _ _ #[iv r24.1.Num, iv r24.1.Den] #[iv r29.1.Num, iv r29.1.Den] ((r24.1.Num == r29.1.Num) && ((r24.1.Den == r29.1.Den) && true)) (by kernel_rfl) (eqlV_of (by kernel_rfl))) rfl (lb rfl) fun a S => ?_
  refine sPickT (.bool ((r24.1.Num == r29.1.Num) && ((r24.1.Den == r29.1.Den) && true))) S (wN rfl) rfl rfl hc39 rfl rfl (lb rfl) fun a S => ?_
  refine sMove (.bool ((r24.1.Num == r29.1.Num) && ((r24.1.Den == r29.1.Den) && true))) S (wN rfl) (.inl rfl) rfl rfl (lb rfl) fun a S => ?_
  rcases iteSome h with ⟨hc40, h⟩ | ⟨hc40, h⟩
  rotate_left
  · refine sSkip 23 true 79 80 S rfl rfl rfl hc40 rfl (lb rfl) fun a S => ?_
    refine sSkip 23 true 79 81 S rfl rfl rfl hc40 rfl (lb rfl) fun a S => ?_
    refine sSkip 23 true 79 82 S rfl rfl rfl hc40 rfl (lb rfl) fun a S => ?_
    refine sPickF (.bool false) S (wN rfl) rfl rfl hc40 rfl rfl (lb rfl) fun a S => ?_
    refine sMove (.bool false) S (wN rfl) (.inr rfl) rfl rfl (lb rfl) fun a S => ?_
    exact leafL (leafT (⟨false, Option.some.inj h, S.fix [] [5, 6] (by decide) rfl rfl rfl⟩))
  refine sMove (iv r24.2) S (wG 23 true 79 rfl rfl rfl hc40) (.inl rfl) rfl rfl (lb rfl) fun a S => ?_
  refine sMove (iv r29.2) S (wG 23 true 79 rfl rfl rfl hc40) (.inl rfl) rfl rfl (lb rfl) fun a S => ?_
  refine sBin (.bool (r24.2 == r29.2)) S (wG 23 true 79 rfl rfl rfl hc40) rfl rfl rfl (bEq _ _ _ _ .i64 r24.2 r29.2) rfl (lb rfl) fun a S => ?_
  refine sPickT (.bool (r24.2 == r29.2)) S (wN rfl) rfl rfl hc40 rfl rfl (lb rfl) fun a S => ?_
  refine sMove (.bool (r24.2 == r29.2)) S (wN rfl) (.inr rfl) rfl rfl (lb rfl) fun a S => ?_
  exact leafL (leafT (⟨r24.2 == r29.2, Option.some.inj h, S.fix [] [5, 6] (by decide) rfl rfl rfl⟩))

end Go.Proofs.YtdfjcpnflmgdoaaDoor
namespace Go.Proofs.YtdfjcpnflmgdoaaDoor
open Go.RowKit
set_option linter.unusedVariables false

/-- a loop whose states are known -/
theorem loop_sq {S τ : Type} {B : S → Option (S ⊕ τ)} (c : Nat → S) (n : Nat) {t : τ} (h : ∀ k, k < n → B (c k) = some (.inl (c (k + 1)))) (hn : B (c n) = some (.inr t)) : whileO B (c 0) = some t := by
  have key : ∀ d k, k + d = n → whileO B (c k) = some t := by
    intro d
    induction d with
    | zero => intro k hk; obtain rfl : k = n := by omega
              exact whileO_done hn
    | succ d ih => intro k hk; rw [whileO_step (h k (by omega))]; exact ih (k + 1) (by omega)
  exact key n 0 (by omega)
abbrev bs (l : List UInt8) : ByteArray := ⟨l.toArray⟩
theorem bs_size (l : List UInt8) : (bs l).size = l.length := rfl
theorem ba_beq (l m : List UInt8) : (bs l == bs m) = decide (l = m) := by
  have e : (bs l == bs m) = (l.toArray == m.toArray) := rfl
  rw [e]
  by_cases h : l = m
  · subst h; simp
  · simp [h]
theorem addS_bs {l m : List UInt8} (h : l.length + m.length ≤ 1000000) : addS (bs l) (bs m) = some (bs (l ++ m)) := by
  unfold addS
  rw [bs_size, bs_size, if_neg (by simp only [IntKind.max, IntKind.bits, IntKind.signed]; omega)]
  congr 1
theorem idxS_bs {l : List UInt8} {k : Nat} (h : k < l.length) : idxS (bs l) (k : Int) = some ((l[k]).toNat : Int) := by
  unfold idxS
  rw [if_pos (by omega)]
  have e : (bs l)[((k : Nat) : Int).toNat]? = some l[k] := by
    have : (((k : Nat) : Int).toNat) = k := rfl
    rw [this]
    show (if h : k < (bs l).size then some ((bs l)[k]) else none) = _
    rw [dif_pos (by rw [bs_size]; exact h)]
    rfl
  rw [e]
  rfl
theorem sliceS_bs {l : List UInt8} {a b : Nat} (h1 : a ≤ b) (h2 : b ≤ l.length) : sliceS (bs l) (a : Int) (b : Int) = some (bs ((l.drop a).take (b - a))) := by
  unfold sliceS
  rw [if_pos ⟨by omega, by omega, by rw [bs_size]; omega⟩]
  exact congrArg some (ByteArray.extract_mk l a b)
theorem str_one (c : Int) : strO [c] = bs [UInt8.ofNat c.toNat] := rfl
/-- a digit's byte -/
theorem u8_dig {d : Nat} (h : d < 10) : (UInt8.ofNat (48 + d)).toNat = 48 + d := by
  rw [UInt8.toNat_ofNat']
  exact Nat.mod_eq_of_lt (by omega)
theorem u8_wrap {d : Nat} (h : d < 10) : IntKind.u8.wrap (w64 (48 + (d : Int))) = ((48 + d : Nat) : Int) := by
  rw [w64_of (by omega) (by omega)]
  unfold IntKind.wrap
  simp [IntKind.bits, IntKind.signed]
  omega
theorem dec_big {m : Nat} (h : ¬ m < 10) : Lib.decDigits m = Lib.decDigits (m / 10) ++ [UInt8.ofNat (48 + m % 10)] := by
  rw [Lib.decDigits, dif_neg h]
theorem dec_len {u : Nat} (h : u ≤ 9223372036854775807) : (Lib.decDigits u).length ≤ 21 := by
  have := Lib.itoa_length_le (u : Int) (by omega) (by omega)
  rwa [Lib.itoa_nonneg] at this
theorem dec_loop {B : Int × ByteArray → Option ((Int × ByteArray) ⊕ ByteArray)}
    (hB : ∀ (a : Int) (s : ByteArray), B (a, s) = Option.bind (remI a 10) fun z13 => Option.bind (addS (strO ([IntKind.u8.wrap (w64 (48 + z13))] : List Int)) s) fun z17 => Option.bind (quoI a 10) fun z20 => if (z20 == 0) = true then some (.inr z17) else some (.inl (z20, z17)))
    (n : Nat) (hn : n ≤ 9223372036854775807) : whileO B ((n : Int), (⟨#[]⟩ : ByteArray)) = some (bs (Lib.decDigits n)) := by
  have key : ∃ t, whileO B ((n : Int), (⟨#[]⟩ : ByteArray)) = some t ∧ t = bs (Lib.decDigits n) := by
    refine whileO_inv (fun s => ∃ (m : Nat) (acc : List UInt8), s = ((m : Int), bs acc) ∧ Lib.decDigits m ++ acc = Lib.decDigits n ∧ m ≤ n) (fun s => s.1.toNat) _ ⟨n, [], rfl, List.append_nil _, Nat.le_refl _⟩ ?_
    rintro s ⟨m, acc, rfl, he, hm⟩
    have hlen : acc.length ≤ 21 := by
      have h1 := dec_len hn
      rw [← he, List.length_append] at h1
      omega
    have hr : remI (m : Int) 10 = some ((m % 10 : Nat) : Int) := rfl
    have hq : quoI (m : Int) 10 = some ((m / 10 : Nat) : Int) := quo_nat (a := m) (g := 10) (by omega) (by omega)
    have hd : m % 10 < 10 := Nat.mod_lt _ (by omega)
    rw [hB, hr, hq]
    simp only [Option.bind_some]
    rw [u8_wrap hd, str_one, Int.toNat_natCast, addS_bs (by simp; omega)]
    simp only [Option.bind_some]
    by_cases h : m < 10
    · refine .inr ⟨bs (Lib.decDigits n), ?_, rfl⟩
      rw [if_pos (bT (by omega)), ← he, Lib.decDigits_one h, Nat.mod_eq_of_lt h]
    · refine .inl ⟨(((m / 10 : Nat) : Int), bs ([UInt8.ofNat (48 + m % 10)] ++ acc)), ?_, ⟨m / 10, _, rfl, ?_, by omega⟩, ?_⟩
      · rw [if_neg]
        intro hc
        have := eq_of_beq hc
        omega
      · rw [← he, dec_big h, List.append_assoc]
      · show ((m / 10 : Nat) : Int).toNat < ((m : Nat) : Int).toNat
        omega
  obtain ⟨t, h1, rfl⟩ := key
  exact h1
theorem rdec0 (n : Nat) (hn : n ≤ 9223372036854775807) : F_raddleref23_Decimal_s0 (n : Int) = some (bs (Lib.decDigits n)) := by
  unfold F_raddleref23_Decimal_s0
  simp only [dF (show ¬ (n : Int) < 0 by omega), Bool.false_eq_true, if_false]
  rw [dec_loop (fun a s => rfl) n hn]
  rfl
theorem rdec (n : Int) (hn : n.natAbs ≤ 9223372036854775807) : F_raddleref23_Decimal n = some (bs (Lib.itoa n)) := by
  unfold F_raddleref23_Decimal
  by_cases h : n < 0
  · have e : w64 (0 - n) = ((n.natAbs : Nat) : Int) := by rw [w64_of (by omega) (by omega)]; omega
    simp only [dT h, if_true, e, rdec0 n.natAbs hn, Option.bind_some]
    have e2 : (⟨#[45]⟩ : ByteArray) = bs [45] := rfl
    have := dec_len hn
    rw [e2, addS_bs (by simp; omega)]
    unfold Lib.itoa
    rw [if_pos h]
    rfl
  · have e : n = ((n.natAbs : Nat) : Int) := by omega
    simp only [dF h, Bool.false_eq_true, if_false]
    rw [e, dec_loop (fun a s => rfl) _ hn, Lib.itoa_nonneg]
    rfl
theorem fmt (n : Int) (h0 : -9223372036854775808 ≤ n) (h1 : n ≤ 9223372036854775807) : F_strconv_FormatInt n 10 = some (bs (Lib.itoa n)) := by
  unfold F_strconv_FormatInt
  rw [if_pos (dT ⟨rfl, h0, h1⟩)]
/-- the text of a ratio -/
def txt (n d : Int) : List UInt8 := Lib.itoa n ++ (if d = 1 then [] else 47 :: Lib.itoa d)
theorem itoa_len {n : Int} (h0 : n.natAbs ≤ 9223372036854775807) : (Lib.itoa n).length ≤ 21 := Lib.itoa_length_le n (by omega) (by omega)
theorem txt_len {n d : Int} (h0 : n.natAbs ≤ 9223372036854775807) (h1 : d.natAbs ≤ 9223372036854775807) : (txt n d).length ≤ 43 := by
  unfold txt
  have a1 := itoa_len h0
  have a2 := itoa_len h1
  rw [List.length_append]
  split
  · simp; omega
  · simp; omega
theorem ytext (r : api_Ratio) (h0 : -9223372036854775808 ≤ r.Num) (h1 : r.Num ≤ 9223372036854775807) (h2 : r.Den ≤ 9223372036854775807) : F_yarn_Text r = some (if okr r then (bs (txt r.Num r.Den), 0) else (bs [], 8)) := by
  unfold F_yarn_Text
  rw [ycheck_any r h0 h1 h2]
  by_cases ho : okr r
  · rw [if_pos ho, if_pos ho]
    have a1 := ho.1
    have a2 := ho.2.1
    have a3 := ho.2.2.1
    simp only [Option.bind_some, bne_self_eq_false, Bool.false_eq_true, if_false]
    rw [fmt r.Num h0 h1, fmt r.Den (by omega) h2]
    simp only [Option.bind_some]
    have l1 := itoa_len (n := r.Num) (by omega)
    have l2 := itoa_len (n := r.Den) (by omega)
    unfold txt
    by_cases hd : r.Den = 1
    · rw [if_pos hd, List.append_nil]
      simp only [nF hd, Bool.false_eq_true, if_false, Option.bind_some]
    · rw [if_neg hd]
      have e : (⟨#[47]⟩ : ByteArray) = bs [47] := rfl
      simp only [nT hd, if_true]
      rw [e, addS_bs (by simp; omega)]
      simp only [Option.bind_some]
      rw [addS_bs (by simp; omega)]
      rfl
  · rw [if_neg ho, if_neg ho]
    simp only [Option.bind_some, nT (show ¬ (8 : Int) = 0 by omega), if_true]
theorem rtext (r : api_Ratio) (h0 : -9223372036854775808 ≤ r.Num) (h1 : r.Num ≤ 9223372036854775807) (h2 : r.Den ≤ 9223372036854775807) : F_raddleref23_Text r = some (if okr r then (bs (txt r.Num r.Den), 0) else (bs [], 8)) := by
  unfold F_raddleref23_Text
  rw [rcheck_any r h0 h1 h2]
  by_cases ho : okr r
  · rw [if_pos ho, if_pos ho]
    have a1 := ho.1
    have a2 := ho.2.1
    have a3 := ho.2.2.1
    simp only [Option.bind_some, bne_self_eq_false, Bool.false_eq_true, if_false]
    rw [rdec r.Num (by omega), rdec r.Den (by omega)]
    simp only [Option.bind_some]
    have l1 := itoa_len (n := r.Num) (by omega)
    have l2 := itoa_len (n := r.Den) (by omega)
    unfold txt
    by_cases hd : r.Den = 1
    · rw [if_pos hd, List.append_nil]
      simp only [bT hd, if_true]
    · rw [if_neg hd]
      have e : (⟨#[47]⟩ : ByteArray) = bs [47] := rfl
      simp only [bF hd, Bool.false_eq_true, if_false]
      rw [e, addS_bs (by simp; omega)]
      simp only [Option.bind_some]
      rw [addS_bs (by simp; omega)]
      simp only [Option.bind_some, List.append_assoc, List.singleton_append]
  · rw [if_neg ho, if_neg ho]
    simp only [Option.bind_some, nT (show ¬ (8 : Int) = 0 by omega), if_true]

end Go.Proofs.YtdfjcpnflmgdoaaDoor
namespace Go.Proofs.YtdfjcpnflmgdoaaDoor
open Go.RowKit
set_option linter.unusedVariables false

theorem dec_width (s : ByteArray) (i : Nat) : 1 ≤ (Utf8.decode s i).2 := by
  unfold Utf8.decode
  dsimp only
  repeat' split
  all_goals exact Nat.succ_le_succ (Nat.zero_le _)
theorem dec_at {l : List UInt8} {k : Nat} (hk : k < l.length) (h : (l[k]).toNat < 128) : Utf8.decode (bs l) k = ((l[k]).toNat, 1) := by
  rw [Lib.decode_N]
  have e : (bs l).data.toList.getD k 0 = l[k] := by
    show l.getD k 0 = _
    rw [List.getD, List.getElem?_eq_getElem hk]
    rfl
  rw [e]
  exact Lib.decodeN_ascii _ _ _ _ _ h
theorem dec_at_i {l : List UInt8} {k : Nat} (hk : k < l.length) {d : Nat} (hd : d < 10) (h : l[k] = UInt8.ofNat (48 + d)) : Utf8.decode (bs l) k = (48 + d, 1) := by
  have e : (l[k]).toNat = 48 + d := by rw [h, u8_dig hd]
  rw [dec_at hk (by omega), e]
/-- what digits answers, whatever it is asked -/
theorem dig_some (l : List UInt8) : ∃ n ok, F_yarn_digits (bs l) = some (n, ok) ∧ 0 ≤ n ∧ n ≤ 9999999999 := by
  unfold F_yarn_digits
  by_cases e0 : l.length = 0
  · refine ⟨0, false, ?_, by omega, by omega⟩
    simp only [bs_size, bT (show (l.length : Int) = 0 by omega), if_true, Option.bind_some]
  by_cases e1 : 10 < l.length
  · refine ⟨0, false, ?_, by omega, by omega⟩
    simp only [bs_size, bF (show ¬ (l.length : Int) = 0 by omega), dT (show (10 : Int) < (l.length : Int) by omega), Bool.false_eq_true, if_false, if_true, Option.bind_some]
  have hx : idxS (bs l) 0 = some ((l[0]'(by omega)).toNat : Int) := idxS_bs (k := 0) (by omega)
  have ho : ∃ b, (if ((l[0]'(by omega)).toNat : Int) == 48 then some (decide (1 < (l.length : Int))) else some false) = some b := by
    split
    · exact ⟨_, rfl⟩
    · exact ⟨_, rfl⟩
  obtain ⟨b, hb⟩ := ho
  simp only [bs_size, bF (show ¬ (l.length : Int) = 0 by omega), dF (show ¬ (10 : Int) < (l.length : Int) by omega), Bool.false_eq_true, if_false, hx, Option.bind_some, hb]
  cases b
  case true => exact ⟨0, false, rfl, by omega, by omega⟩
  simp only [Bool.false_eq_true, if_false]
  have key : ∃ t, whileO (yarn_digits_l1 (bs l)) (0, 0) = some t ∧ (∀ z, t = .inl z → z = (0, false)) ∧ ∀ n, t = .inr n → 0 ≤ n ∧ n ≤ 9999999999 := by
    refine whileO_inv (fun s => 0 ≤ s.1 ∧ s.1 ≤ 9999999999 ∧ (s.2 ≤ 10 → s.1 < 10 ^ s.2)) (fun s => 10 - s.2) _ ⟨by decide, by decide, fun _ => by decide⟩ ?_
    rintro ⟨x, p⟩ ⟨h0, h1, h2⟩
    dsimp only at h0 h1 h2
    unfold yarn_digits_l1
    dsimp only
    by_cases hp : p < l.length
    · simp only [bs_size, dT hp, if_true]
      have hw := dec_width (bs l) p
      generalize (Utf8.decode (bs l) p).2 = w at *
      generalize (Utf8.decode (bs l) p).1 = c at *
      by_cases c1 : (c : Int) < 48
      · simp only [dT c1, if_true, Option.bind_some]
        exact .inr ⟨_, rfl, fun z hz => (Sum.inl.inj hz).symm, fun n hn => nomatch hn⟩
      by_cases c2 : 57 < (c : Int)
      · simp only [dF c1, dT c2, Bool.false_eq_true, if_false, if_true, Option.bind_some]
        exact .inr ⟨_, rfl, fun z hz => (Sum.inl.inj hz).symm, fun n hn => nomatch hn⟩
      simp only [dF c1, dF c2, Bool.false_eq_true, if_false, Option.bind_some]
      have hx := h2 (by omega)
      have k1 : IntKind.i32.wrap ((c : Int) - 48) = (c : Int) - 48 := by
        unfold IntKind.wrap
        simp [IntKind.bits, IntKind.signed]
        omega
      have k2 : IntKind.i64.wrap ((c : Int) - 48) = (c : Int) - 48 := i64_of (by omega) (by omega)
      have k3 : w64 (10 * x) = 10 * x := w64_of (by omega) (by omega)
      have k4 : w64 (10 * x + ((c : Int) - 48)) = 10 * x + ((c : Int) - 48) := w64_of (by omega) (by omega)
      rw [k1, k2, k3, k4]
      have hp9 : (10 : Int) ^ p ≤ 10 ^ 9 := by
        have : 10 ^ p ≤ 10 ^ 9 := Nat.pow_le_pow_right (by decide) (show p ≤ 9 by omega)
        exact_mod_cast this
      refine .inl ⟨_, rfl, ⟨by omega, by omega, fun hw2 => ?_⟩, by show 10 - (p + w) < 10 - p; omega⟩
      have hp2 : (10 : Int) ^ (p + 1) ≤ 10 ^ (p + w) := by
        have : 10 ^ (p + 1) ≤ 10 ^ (p + w) := Nat.pow_le_pow_right (by decide) (by omega)
        exact_mod_cast this
      rw [Int.pow_succ] at hp2
      show 10 * x + ((c : Int) - 48) < 10 ^ (p + w)
      omega
    · simp only [bs_size, dF hp, Bool.false_eq_true, if_false]
      refine .inr ⟨_, rfl, ?_, ?_⟩
      · intro z hz
        cases hz
      · intro n hn
        cases hn
        exact ⟨h0, h1⟩
  obtain ⟨t, t1, t2, t3⟩ := key
  rw [t1]
  rcases t with z | n
  · obtain rfl := t2 z rfl
    exact ⟨0, false, rfl, by omega, by omega⟩
  · obtain ⟨a, b⟩ := t3 n rfl
    exact ⟨n, true, rfl, a, b⟩
theorem dec_get (u k : Nat) (h : k < (Lib.decDigits u).length) : (Lib.decDigits u)[k] = UInt8.ofNat (48 + u / 10 ^ (Lib.nDigits u - 1 - k) % 10) := by
  have h3 : (Lib.decDigits u)[k]? = some (UInt8.ofNat (48 + u / 10 ^ (Lib.nDigits u - 1 - k) % 10)) := by
    rw [Lib.decDigits_eq, List.getElem?_map, List.getElem?_range (by rw [← Lib.decDigits_length]; exact h)]
    rfl
  rw [List.getElem?_eq_getElem h] at h3
  exact Option.some.inj h3
theorem nd_le {u : Nat} (h : u ≤ 9999999999) : Lib.nDigits u ≤ 10 := by
  by_cases h0 : u = 0
  · subst h0; rw [Lib.nDigits_small (by omega)]; omega
  refine Nat.le_of_not_lt fun hn => ?_
  have key : ∀ u : Nat, u ≠ 0 → 10 ^ (Lib.nDigits u - 1) ≤ u := by
    intro u
    induction u using Nat.strongRecOn with
    | _ u ih =>
      intro hu
      by_cases h : u < 10
      · rw [Lib.nDigits_small h]; simp; omega
      · have h1 := ih (u / 10) (by omega) (by omega)
        have h2 := Lib.nDigits_pos (u / 10)
        rw [Lib.nDigits_big h, show Lib.nDigits (u / 10) + 1 - 1 = (Lib.nDigits (u / 10) - 1) + 1 by omega, Nat.pow_succ]
        omega
  have h1 := key u h0
  have h2 : 10 ^ 10 ≤ 10 ^ (Lib.nDigits u - 1) := Nat.pow_le_pow_right (by decide) (by omega)
  have h3 : (10 : Nat) ^ 10 = 10000000000 := by decide
  omega
/-- the value of the first digits -/
theorem dig_step (u m k : Nat) (h : k < m) : u / 10 ^ (m - k) * 10 + u / 10 ^ (m - 1 - k) % 10 = u / 10 ^ (m - (k + 1)) := by
  have e1 : m - k = (m - (k + 1)) + 1 := by omega
  have e2 : m - 1 - k = m - (k + 1) := by omega
  rw [e1, e2, Nat.pow_succ, ← Nat.div_div_eq_div_mul]
  omega
theorem dec_ne (u : Nat) : (Lib.decDigits u).length ≠ 0 := by
  rw [Lib.decDigits_length]
  have := Lib.nDigits_pos u
  omega
theorem dec_lead {u : Nat} (h : 1 < (Lib.decDigits u).length) : u / 10 ^ (Lib.nDigits u - 1) % 10 ≠ 0 := by
  rw [Lib.decDigits_length] at h
  have h1 := Lib.lt_pow_nDigits u
  have key : ∀ u : Nat, 1 < Lib.nDigits u → 10 ^ (Lib.nDigits u - 1) ≤ u := by
    intro u
    induction u using Nat.strongRecOn with
    | _ u ih =>
      intro hu
      by_cases h : u < 10
      · rw [Lib.nDigits_small h] at hu; omega
      · by_cases h3 : u / 10 < 10
        · rw [Lib.nDigits_big h, Lib.nDigits_small h3]; simp; omega
        · have h4 : 1 < Lib.nDigits (u / 10) := by
            rw [Lib.nDigits_big h3]
            have := Lib.nDigits_pos (u / 10 / 10)
            omega
          have h5 := ih (u / 10) (by omega) h4
          rw [Lib.nDigits_big h, show Lib.nDigits (u / 10) + 1 - 1 = (Lib.nDigits (u / 10) - 1) + 1 by omega, Nat.pow_succ]
          omega
  have h2 := key u h
  have h6 : 0 < 10 ^ (Lib.nDigits u - 1) := Nat.pow_pos (by decide)
  have h7 : 10 ^ Lib.nDigits u = 10 * 10 ^ (Lib.nDigits u - 1) := by
    conv => lhs; rw [show Lib.nDigits u = (Lib.nDigits u - 1) + 1 by omega, Nat.pow_succ]
    exact Nat.mul_comm _ _
  have h8 : u / 10 ^ (Lib.nDigits u - 1) < 10 := by
    rw [Nat.div_lt_iff_lt_mul h6]
    omega
  have h9 : 1 ≤ u / 10 ^ (Lib.nDigits u - 1) := (Nat.le_div_iff_mul_le h6).2 (by omega)
  omega
theorem dig_dec (u : Nat) (hu : u ≤ 9999999999) : F_yarn_digits (bs (Lib.decDigits u)) = some ((u : Int), true) := by
  have hn := nd_le hu
  have hl := Lib.decDigits_length u
  have hp := Lib.nDigits_pos u
  unfold F_yarn_digits
  have hx : idxS (bs (Lib.decDigits u)) 0 = some (((Lib.decDigits u)[0]'(by omega)).toNat : Int) := idxS_bs (k := 0) (by omega)
  have ho : (if (((Lib.decDigits u)[0]'(by omega)).toNat : Int) == 48 then some (decide (1 < ((Lib.decDigits u).length : Int))) else some false) = some false := by
    by_cases h1 : 1 < (Lib.decDigits u).length
    · have h2 := dec_lead h1
      have h3 : u / 10 ^ (Lib.nDigits u - 1) % 10 < 10 := Nat.mod_lt _ (by omega)
      rw [dec_get u 0 (by omega), Nat.sub_zero, u8_dig h3, if_neg]
      intro hc
      have := eq_of_beq hc
      omega
    · rw [dF (show ¬ (1 : Int) < ((Lib.decDigits u).length : Int) by omega)]
      split <;> rfl
  simp only [bs_size, bF (show ¬ ((Lib.decDigits u).length : Int) = 0 by omega), dF (show ¬ (10 : Int) < ((Lib.decDigits u).length : Int) by omega), Bool.false_eq_true, if_false, hx, Option.bind_some, ho]
  have hw : whileO (yarn_digits_l1 (bs (Lib.decDigits u))) (0, 0) = some (.inr (u : Int)) := by
    have := loop_sq (B := yarn_digits_l1 (bs (Lib.decDigits u))) (fun k => (((u / 10 ^ (Lib.nDigits u - k) : Nat) : Int), k)) (Lib.nDigits u) (t := .inr (u : Int)) ?_ ?_
    · have e : u / 10 ^ (Lib.nDigits u - 0) = 0 := Nat.div_eq_of_lt (Lib.lt_pow_nDigits u)
      rw [e] at this
      exact this
    · intro k hk
      unfold yarn_digits_l1
      have hd : u / 10 ^ (Lib.nDigits u - 1 - k) % 10 < 10 := Nat.mod_lt _ (by omega)
      have hdec := dec_at_i (l := Lib.decDigits u) (k := k) (by omega) hd (dec_get u k (by omega))
      have hs := dig_step u (Lib.nDigits u) k hk
      have hb : u / 10 ^ (Lib.nDigits u - (k + 1)) ≤ u := Nat.div_le_self _ _
      rw [← hs] at hb
      simp only [bs_size, dT (show k < (Lib.decDigits u).length by omega), if_true, hdec]
      rw [← hs]
      generalize u / 10 ^ (Lib.nDigits u - 1 - k) % 10 = d at *
      generalize u / 10 ^ (Lib.nDigits u - k) = x at *
      have k1 : IntKind.i32.wrap (((48 + d : Nat) : Int) - 48) = (d : Int) := by
        unfold IntKind.wrap
        simp [IntKind.bits, IntKind.signed]
        omega
      have k2 : IntKind.i64.wrap (d : Int) = (d : Int) := i64_of (by omega) (by omega)
      have k3 : w64 (10 * (x : Int)) = 10 * (x : Int) := w64_of (by omega) (by omega)
      have k4 : w64 (10 * (x : Int) + (d : Int)) = ((x * 10 + d : Nat) : Int) := by rw [w64_of (by omega) (by omega)]; omega
      simp only [dF (show ¬ ((48 + d : Nat) : Int) < 48 by omega), dF (show ¬ (57 : Int) < ((48 + d : Nat) : Int) by omega), Bool.false_eq_true, if_false, Option.bind_some, k1, k2, k3, k4]
    · unfold yarn_digits_l1
      simp only [bs_size, dF (show ¬ Lib.nDigits u < (Lib.decDigits u).length by omega), Bool.false_eq_true, if_false, Nat.sub_self, Nat.pow_zero, Nat.div_one]
  rw [hw]
  rfl

end Go.Proofs.YtdfjcpnflmgdoaaDoor
namespace Go.Proofs.YtdfjcpnflmgdoaaDoor
open Go.RowKit
set_option linter.unusedVariables false

theorem dec_mem {u : Nat} {b : UInt8} (h : b ∈ Lib.decDigits u) : 48 ≤ b.toNat ∧ b.toNat ≤ 57 := by
  obtain ⟨k, hk, rfl⟩ := List.mem_iff_getElem.1 h
  have hd : u / 10 ^ (Lib.nDigits u - 1 - k) % 10 < 10 := Nat.mod_lt _ (by omega)
  rw [dec_get u k hk, u8_dig hd]
  omega
theorem dec_no {u : Nat} {b c : UInt8} (h : b ∈ Lib.decDigits u) (hc : c.toNat < 48) : b ≠ c := by
  intro e
  subst e
  have := dec_mem h
  omega
theorem idx_miss {l : List UInt8} (h : ∀ b, b ∈ l → b ≠ 47) : Lib.index l [47] = -1 := by
  induction l with
  | nil => rfl
  | cons b l ih =>
    have hb := h b (List.mem_cons_self ..)
    have e : List.isPrefixOf [47] (b :: l) = false := by
      simp only [List.isPrefixOf, Bool.and_true]
      exact beq_false_of_ne (fun e => hb e.symm)
    unfold Lib.index
    rw [e, ih (fun c hc => h c (List.mem_cons_of_mem _ hc))]
    rfl
theorem idx_hit {l : List UInt8} (r : List UInt8) (h : ∀ b, b ∈ l → b ≠ 47) : Lib.index (l ++ 47 :: r) [47] = (l.length : Int) := by
  induction l with
  | nil =>
    show Lib.index (47 :: r) [47] = _
    unfold Lib.index
    simp only [List.isPrefixOf, beq_self_eq_true, Bool.and_true, if_true]
    rfl
  | cons b l ih =>
    have hb := h b (List.mem_cons_self ..)
    have e : List.isPrefixOf [47] (b :: (l ++ 47 :: r)) = false := by
      simp only [List.isPrefixOf, Bool.and_true]
      exact beq_false_of_ne (fun e => hb e.symm)
    show Lib.index (b :: (l ++ 47 :: r)) [47] = _
    unfold Lib.index
    rw [e, ih (fun c hc => h c (List.mem_cons_of_mem _ hc))]
    simp only [Bool.false_eq_true, if_false]
    rw [if_neg]
    · simp
    · intro hc
      have := eq_of_beq hc
      omega
theorem cut_miss {l : List UInt8} (h : ∀ b, b ∈ l → b ≠ 47) : Lib.cut l [47] = (l, [], false) := by
  unfold Lib.cut
  rw [idx_miss h]
  rfl
theorem cut_hit {l : List UInt8} (r : List UInt8) (h : ∀ b, b ∈ l → b ≠ 47) : Lib.cut (l ++ 47 :: r) [47] = (l, r, true) := by
  unfold Lib.cut
  rw [idx_hit r h, if_pos (by omega)]
  simp
theorem cutp (l : List UInt8) : F_strings_CutPrefix (bs l) (⟨#[45]⟩ : ByteArray) = some (bs (Lib.trimPrefix l [45]), Lib.hasPrefix l [45]) := rfl
theorem cuts {l : List UInt8} (h : l.length ≤ 200) : F_strings_Cut (bs l) (⟨#[47]⟩ : ByteArray) = some (bs (Lib.cut l [47]).1, bs (Lib.cut l [47]).2.1, (Lib.cut l [47]).2.2) := by
  unfold F_strings_Cut
  rw [if_pos (dT (by rw [bs_size]; omega))]
theorem trim_len (l : List UInt8) : (Lib.trimPrefix l [45]).length ≤ l.length := by
  unfold Lib.trimPrefix
  split
  · rw [List.length_drop]; omega
  · exact Nat.le_refl _
theorem ba_bne (l m : List UInt8) : (bs l != bs m) = !decide (l = m) := by
  show (!(bs l == bs m)) = _
  rw [ba_beq]
/-- what Parse does with the parts -/
theorem parse_end (l : List UInt8) (mi : Bool) (n d : Int) (a b : Bool) (h0 : 0 ≤ n) (h1 : n ≤ 9999999999) (h2 : 0 ≤ d) (h3 : d ≤ 9999999999) :
    (Option.bind (α := Int) (if mi = true then some (w64 (0 - n)) else some n) fun o20 =>
      Option.bind (α := Bool) (if (!a) = true then some true else if (!b) = true then some true else Option.bind (F_yarn_Check (api_Ratio.mk o20 d)) fun r33 => some (r33 != 0)) fun o28 =>
      if o28 = true then some ((api_Ratio.mk 0 0), (12 : Int)) else
        Option.bind (F_yarn_Text (api_Ratio.mk o20 d)) fun r39 => if (r39.1 != bs l) = true then some ((api_Ratio.mk 0 0), 12) else some ((api_Ratio.mk o20 d), 0)) =
    some (if a = true ∧ b = true ∧ okr ⟨if mi = true then -n else n, d⟩ ∧ txt (if mi = true then -n else n) d = l then (⟨if mi = true then -n else n, d⟩, 0) else (⟨0, 0⟩, 12)) := by
  have e : (if mi = true then some (w64 (0 - n)) else some n) = some (if mi = true then -n else n) := by
    cases mi
    · rfl
    · simp only [if_true]
      rw [w64_of (by omega) (by omega)]
      congr 1
      omega
  have hz : ∃ z : Int, (if mi = true then -n else n) = z ∧ -9999999999 ≤ z ∧ z ≤ 9999999999 := by
    refine ⟨_, rfl, ?_, ?_⟩
    · split <;> omega
    · split <;> omega
  rw [e]
  obtain ⟨z, hz, z0, z1⟩ := hz
  rw [hz]
  simp only [Option.bind_some]
  cases a
  · simp
  cases b
  · simp
  rw [ycheck_any ⟨z, d⟩ (by show _ ≤ z; omega) (by show z ≤ _; omega) (by show d ≤ _; omega), ytext ⟨z, d⟩ (by show _ ≤ z; omega) (by show z ≤ _; omega) (by show d ≤ _; omega)]
  simp only [Bool.not_true, Bool.false_eq_true, if_false, true_and]
  by_cases ho : okr ⟨z, d⟩
  · rw [if_pos ho, if_pos ho]
    simp only [Option.bind_some, bne_self_eq_false, Bool.false_eq_true, if_false, ba_bne, ho, true_and]
    by_cases ht : txt z d = l
    · rw [if_neg (by simp [ht]), if_pos ht]
    · rw [if_pos (by simp [ht]), if_neg ht]
  · rw [if_neg ho, if_neg (fun h : okr ⟨z, d⟩ ∧ txt z d = l => ho h.1)]
    simp only [Option.bind_some, nT (show ¬ (8 : Int) = 0 by omega), if_true]
theorem yparse_eq (l : List UInt8) (hl : l.length ≤ 200) {x y : List UInt8} {n d : Int} {a b : Bool} (hx : (Lib.cut (Lib.trimPrefix l [45]) [47]).1 = x) (hy : (if (Lib.cut (Lib.trimPrefix l [45]) [47]).2.2 = true then (Lib.cut (Lib.trimPrefix l [45]) [47]).2.1 else [49]) = y)
    (h1 : F_yarn_digits (bs x) = some (n, a)) (h2 : F_yarn_digits (bs y) = some (d, b)) (n0 : 0 ≤ n) (n1 : n ≤ 9999999999) (d0 : 0 ≤ d) (d1 : d ≤ 9999999999) :
    F_yarn_Parse (bs l) = some (if a = true ∧ b = true ∧ okr ⟨if Lib.hasPrefix l [45] = true then -n else n, d⟩ ∧ txt (if Lib.hasPrefix l [45] = true then -n else n) d = l then (⟨if Lib.hasPrefix l [45] = true then -n else n, d⟩, 0) else (⟨0, 0⟩, 12)) := by
  rw [← parse_end l (Lib.hasPrefix l [45]) n d a b n0 n1 d0 d1]
  unfold F_yarn_Parse
  have ht := trim_len l
  rw [cutp]
  simp only [Option.bind_some]
  rw [cuts (by omega)]
  simp only [Option.bind_some]
  have hy2 : (if (!(Lib.cut (Lib.trimPrefix l [45]) [47]).2.2) = true then some (⟨#[49]⟩ : ByteArray) else some (bs (Lib.cut (Lib.trimPrefix l [45]) [47]).2.1)) = some (bs y) := by
    rw [← hy]
    cases (Lib.cut (Lib.trimPrefix l [45]) [47]).2.2
    · rfl
    · rfl
  rw [hy2, hx, h1]
  simp only [Option.bind_some]
  rw [h2]
  rfl
theorem yparse_some (l : List UInt8) (hl : l.length ≤ 200) : ∃ v, F_yarn_Parse (bs l) = some v ∧ ((∃ r : api_Ratio, okr r ∧ txt r.Num r.Den = l ∧ v = (r, 0)) ∨ v = (⟨0, 0⟩, 12)) := by
  obtain ⟨n, a, h1, n0, n1⟩ := dig_some (Lib.cut (Lib.trimPrefix l [45]) [47]).1
  obtain ⟨d, b, h2, d0, d1⟩ := dig_some (if (Lib.cut (Lib.trimPrefix l [45]) [47]).2.2 = true then (Lib.cut (Lib.trimPrefix l [45]) [47]).2.1 else [49])
  have e := yparse_eq l hl rfl rfl h1 h2 n0 n1 d0 d1
  refine ⟨_, e, ?_⟩
  generalize (if Lib.hasPrefix l [45] = true then -n else n) = z
  split
  · rename_i h
    exact .inl ⟨_, h.2.2.1, h.2.2.2, rfl⟩
  · exact .inr rfl
theorem yparse_txt (r : api_Ratio) (ho : okr r) : F_yarn_Parse (bs (txt r.Num r.Den)) = some (r, 0) := by
  obtain ⟨n, d⟩ := r
  have a1 : 1 ≤ d := ho.1
  have a2 : d ≤ 1000000000 := ho.2.1
  have a3 : n.natAbs ≤ 1000000000 := ho.2.2.1
  have hlen := txt_len (n := n) (d := d) (by omega) (by omega)
  have hd : Lib.itoa d = Lib.decDigits d.natAbs := by
    have e : d = ((d.natAbs : Nat) : Int) := by omega
    conv => lhs; rw [e]
    exact Lib.itoa_nonneg _
  have hs : Lib.trimPrefix (txt n d) [45] = Lib.decDigits n.natAbs ++ (if d = 1 then [] else 47 :: Lib.decDigits d.natAbs) ∧ (if Lib.hasPrefix (txt n d) [45] = true then -((n.natAbs : Nat) : Int) else ((n.natAbs : Nat) : Int)) = n := by
    unfold txt
    rw [hd]
    by_cases hn : n < 0
    · have e : Lib.itoa n = 45 :: Lib.decDigits n.natAbs := by unfold Lib.itoa; rw [if_pos hn]
      have hp : ∀ t : List UInt8, Lib.hasPrefix (45 :: t) [45] = true := fun t => by
        unfold Lib.hasPrefix
        simp [List.isPrefixOf]
      rw [e]
      refine ⟨?_, ?_⟩
      · unfold Lib.trimPrefix
        rw [List.cons_append, if_pos (hp _)]
        rfl
      · rw [List.cons_append, if_pos (hp _)]
        omega
    · have e : Lib.itoa n = Lib.decDigits n.natAbs := by
        have e : n = ((n.natAbs : Nat) : Int) := by omega
        conv => lhs; rw [e]
        exact Lib.itoa_nonneg _
      have hp : ∀ t : List UInt8, Lib.hasPrefix (Lib.decDigits n.natAbs ++ t) [45] = false := fun t => by
        have h0 := dec_ne n.natAbs
        have hm : ∀ b, b ∈ Lib.decDigits n.natAbs → b ≠ 45 := fun b hb => dec_no hb (by decide)
        generalize Lib.decDigits n.natAbs = m at *
        cases m with
        | nil => exact absurd rfl h0
        | cons b m =>
          unfold Lib.hasPrefix
          simp only [List.cons_append, List.isPrefixOf, Bool.and_true]
          exact beq_false_of_ne (fun e => hm b (List.mem_cons_self ..) e.symm)
      rw [e]
      refine ⟨?_, ?_⟩
      · unfold Lib.trimPrefix
        rw [hp]
        rfl
      · rw [hp]
        simp only [Bool.false_eq_true, if_false]
        omega
  have hno : ∀ b, b ∈ Lib.decDigits n.natAbs → b ≠ 47 := fun b hb => dec_no hb (by decide)
  have hcut : (Lib.cut (Lib.trimPrefix (txt n d) [45]) [47]).1 = Lib.decDigits n.natAbs ∧ (if (Lib.cut (Lib.trimPrefix (txt n d) [45]) [47]).2.2 = true then (Lib.cut (Lib.trimPrefix (txt n d) [45]) [47]).2.1 else [49]) = Lib.decDigits d.natAbs := by
    rw [hs.1]
    by_cases h1 : d = 1
    · rw [if_pos h1, List.append_nil, cut_miss hno]
      refine ⟨rfl, ?_⟩
      subst h1
      rw [show Int.natAbs 1 = 1 from rfl, Lib.decDigits_one (i := 1) (by omega)]
      rfl
    · rw [if_neg h1, cut_hit _ hno]
      exact ⟨rfl, rfl⟩
  have e := yparse_eq (txt n d) (by omega) hcut.1 hcut.2 (dig_dec n.natAbs (by omega)) (dig_dec d.natAbs (by omega)) (by omega) (by omega) (by omega) (by omega)
  have e2 : ((d.natAbs : Nat) : Int) = d := by omega
  rw [hs.2, e2] at e
  rw [e, if_pos ⟨rfl, rfl, ho, rfl⟩]

end Go.Proofs.YtdfjcpnflmgdoaaDoor
namespace Go.Proofs.YtdfjcpnflmgdoaaDoor
open Go.RowKit
set_option linter.unusedVariables false

theorem u8_sub {c : Int} (h0 : 48 ≤ c) (h1 : c ≤ 57) : IntKind.i64.wrap (IntKind.u8.wrap (c - 48)) = c - 48 := by
  have e : IntKind.u8.wrap (c - 48) = c - 48 := by
    unfold IntKind.wrap
    simp [IntKind.bits, IntKind.signed]
    omega
  rw [e]
  exact i64_of (by omega) (by omega)
/-- the loop of Number, whatever the bytes are -/
theorem num_loop (l : List UInt8) (hl : l.length ≤ 200) (f : Nat) (hf : f ≤ 1) : ∃ t, whileO (raddleref23_Number_l1 (bs l) (f : Int)) (0, (f : Int)) = some t ∧ (∀ z, t = .inl z → z = (0, false)) ∧ ∀ n, t = .inr n → 0 ≤ n ∧ n ≤ 9999999999 := by
  refine whileO_inv (fun s => ∃ k : Nat, s.2 = ((f + k : Nat) : Int) ∧ k ≤ 10 ∧ 0 ≤ s.1 ∧ s.1 < 10 ^ k) (fun s => 300 - s.2.toNat) _ ⟨0, rfl, by omega, Int.le_refl 0, show (0 : Int) < 10 ^ 0 by decide⟩ ?_
  rintro ⟨x, p⟩ ⟨k, hk, hk10, h0, h1⟩
  dsimp only at hk h0 h1
  subst hk
  have hp10 : (10 : Int) ^ k ≤ 10 ^ 10 := by
    have : 10 ^ k ≤ 10 ^ 10 := Nat.pow_le_pow_right (by decide) hk10
    exact_mod_cast this
  have h10 : (10 : Int) ^ 10 = 10000000000 := by decide
  unfold raddleref23_Number_l1
  dsimp only
  by_cases hp : f + k < l.length
  · simp only [bs_size, dT (show ((f + k : Nat) : Int) < (l.length : Int) by omega), if_true, idxS_bs hp, Option.bind_some]
    have hb := UInt8.toNat_lt (l[f + k])
    generalize (l[f + k]).toNat = c at *
    have hw : w64 ((f : Int) + 9) = (f : Int) + 9 := w64_of (by omega) (by omega)
    by_cases c1 : (c : Int) < 48
    · simp only [dT c1, if_true, Option.bind_some]
      exact .inr ⟨_, rfl, fun z hz => (Sum.inl.inj hz).symm, fun n hn => nomatch hn⟩
    by_cases c2 : 57 < (c : Int)
    · simp only [dF c1, dT c2, Bool.false_eq_true, if_false, if_true, Option.bind_some]
      exact .inr ⟨_, rfl, fun z hz => (Sum.inl.inj hz).symm, fun n hn => nomatch hn⟩
    by_cases c3 : (f : Int) + 9 < ((f + k : Nat) : Int)
    · simp only [dF c1, dF c2, hw, dT c3, Bool.false_eq_true, if_false, if_true, Option.bind_some]
      exact .inr ⟨_, rfl, fun z hz => (Sum.inl.inj hz).symm, fun n hn => nomatch hn⟩
    have hp9 : (10 : Int) ^ k ≤ 10 ^ 9 := by
      have : 10 ^ k ≤ 10 ^ 9 := Nat.pow_le_pow_right (by decide) (show k ≤ 9 by omega)
      exact_mod_cast this
    have h9 : (10 : Int) ^ 9 = 1000000000 := by decide
    have k3 : w64 (10 * x) = 10 * x := w64_of (by omega) (by omega)
    have k4 : w64 (10 * x + ((c : Int) - 48)) = 10 * x + ((c : Int) - 48) := w64_of (by omega) (by omega)
    have k5 : w64 (((f + k : Nat) : Int) + 1) = ((f + (k + 1) : Nat) : Int) := by rw [w64_of (by omega) (by omega)]; omega
    simp only [dF c1, dF c2, hw, dF c3, Bool.false_eq_true, if_false, Option.bind_some, u8_sub (show (48 : Int) ≤ (c : Int) by omega) (show (c : Int) ≤ 57 by omega), k3, k4, k5]
    refine .inl ⟨_, rfl, ⟨k + 1, rfl, by omega, by show 0 ≤ 10 * x + ((c : Int) - 48); omega, ?_⟩, ?_⟩
    · show 10 * x + ((c : Int) - 48) < 10 ^ (k + 1)
      rw [Int.pow_succ]
      omega
    · show 300 - (((f + (k + 1) : Nat) : Int)).toNat < 300 - (((f + k : Nat) : Int)).toNat
      omega
  · simp only [bs_size, dF (show ¬ ((f + k : Nat) : Int) < (l.length : Int) by omega), Bool.false_eq_true, if_false]
    refine .inr ⟨_, rfl, ?_, ?_⟩
    · intro z hz
      cases hz
    · intro n hn
      cases hn
      exact ⟨h0, by omega⟩
theorem num_from (l : List UInt8) : (Option.bind (α := Bool) (if decide (0 < ((bs l).size : Int)) = true then Option.bind (idxS (bs l) 0) fun x10 => some (x10 == 45) else some false) fun o6 => if o6 = true then some (1 : Int) else some 0) = some (((if l.head? = some 45 then 1 else 0 : Nat) : Nat) : Int) := by
  cases l with
  | nil => rfl
  | cons b l =>
    have hx : idxS (bs (b :: l)) 0 = some ((b.toNat : Nat) : Int) := idxS_bs (l := b :: l) (k := 0) (by simp)
    rw [if_pos (dT (by rw [bs_size]; simp)), hx]
    simp only [Option.bind_some, List.head?_cons, Option.some.injEq]
    by_cases h : b = 45
    · subst h
      rfl
    · rw [if_neg h, if_neg]
      · rfl
      · intro hc
        have := eq_of_beq hc
        refine h (UInt8.toNat_inj.1 ?_)
        show b.toNat = 45
        omega
theorem num_some (l : List UInt8) (hl : l.length ≤ 200) : ∃ n ok, F_raddleref23_Number (bs l) = some (n, ok) ∧ -9999999999 ≤ n ∧ n ≤ 9999999999 ∧ (ok = true → Lib.itoa n = l) := by
  unfold F_raddleref23_Number
  rw [num_from]
  simp only [Option.bind_some]
  generalize hf : (if l.head? = some 45 then 1 else 0 : Nat) = f
  have hf1 : f ≤ 1 := by rw [← hf]; split <;> omega
  obtain ⟨t, t1, t2, t3⟩ := num_loop l hl f hf1
  rw [t1]
  rcases t with z | n
  · obtain rfl := t2 z rfl
    exact ⟨0, false, rfl, by omega, by omega, fun h => nomatch h⟩
  · obtain ⟨n0, n1⟩ := t3 n rfl
    simp only [Option.bind_some]
    have e : ∃ z, (if ((f : Int) == 1) = true then some (w64 (0 - n)) else some n) = some z ∧ -9999999999 ≤ z ∧ z ≤ 9999999999 := by
      split
      · exact ⟨-n, by rw [w64_of (by omega) (by omega)]; congr 1; omega, by omega, by omega⟩
      · exact ⟨n, rfl, by omega, by omega⟩
    obtain ⟨z, z1, z2, z3⟩ := e
    rw [z1]
    simp only [Option.bind_some, rdec z (by omega)]
    by_cases h : (f : Int) < ((bs l).size : Int)
    · simp only [dT h, if_true, Option.bind_some, ba_beq]
      exact ⟨z, _, rfl, z2, z3, fun h => of_decide_eq_true h⟩
    · simp only [dF h, Bool.false_eq_true, if_false, Option.bind_some]
      exact ⟨z, false, rfl, z2, z3, fun h => nomatch h⟩
/-- the loop of Number, at digits -/
theorem num_run (pre : List UInt8) (u : Nat) (hu : u ≤ 9999999999) (hp : pre.length ≤ 1) : whileO (raddleref23_Number_l1 (bs (pre ++ Lib.decDigits u)) (pre.length : Int)) (0, (pre.length : Int)) = some (.inr (u : Int)) := by
  have hn := nd_le hu
  have hl := Lib.decDigits_length u
  have := loop_sq (B := raddleref23_Number_l1 (bs (pre ++ Lib.decDigits u)) (pre.length : Int)) (fun k => (((u / 10 ^ (Lib.nDigits u - k) : Nat) : Int), ((pre.length + k : Nat) : Int))) (Lib.nDigits u) (t := .inr (u : Int)) ?_ ?_
  · have e : u / 10 ^ (Lib.nDigits u - 0) = 0 := Nat.div_eq_of_lt (Lib.lt_pow_nDigits u)
    rw [e] at this
    exact this
  · intro k hk
    unfold raddleref23_Number_l1
    have hd : u / 10 ^ (Lib.nDigits u - 1 - k) % 10 < 10 := Nat.mod_lt _ (by omega)
    have hlen : pre.length + k < (pre ++ Lib.decDigits u).length := by rw [List.length_append]; omega
    have hget : ((pre ++ Lib.decDigits u)[pre.length + k]).toNat = 48 + u / 10 ^ (Lib.nDigits u - 1 - k) % 10 := by
      rw [List.getElem_append_right (by omega)]
      simp only [Nat.add_sub_cancel_left]
      rw [dec_get u k (by omega), u8_dig hd]
    have hs := dig_step u (Lib.nDigits u) k hk
    have hb : u / 10 ^ (Lib.nDigits u - (k + 1)) ≤ u := Nat.div_le_self _ _
    rw [← hs] at hb
    have hw : w64 ((pre.length : Int) + 9) = (pre.length : Int) + 9 := w64_of (by omega) (by omega)
    simp only [bs_size, dT (show ((pre.length + k : Nat) : Int) < ((pre ++ Lib.decDigits u).length : Int) by omega), if_true, idxS_bs hlen, hget, Option.bind_some]
    rw [← hs]
    generalize u / 10 ^ (Lib.nDigits u - 1 - k) % 10 = d at *
    generalize u / 10 ^ (Lib.nDigits u - k) = x at *
    have k1 := u8_sub (c := ((48 + d : Nat) : Int)) (by omega) (by omega)
    have k3 : w64 (10 * (x : Int)) = 10 * (x : Int) := w64_of (by omega) (by omega)
    have k4 : w64 (10 * (x : Int) + (((48 + d : Nat) : Int) - 48)) = ((x * 10 + d : Nat) : Int) := by rw [w64_of (by omega) (by omega)]; omega
    have k5 : w64 (((pre.length + k : Nat) : Int) + 1) = ((pre.length + (k + 1) : Nat) : Int) := by rw [w64_of (by omega) (by omega)]; omega
    simp only [dF (show ¬ ((48 + d : Nat) : Int) < 48 by omega), dF (show ¬ (57 : Int) < ((48 + d : Nat) : Int) by omega), hw, dF (show ¬ (pre.length : Int) + 9 < ((pre.length + k : Nat) : Int) by omega), Bool.false_eq_true, if_false, Option.bind_some, k1, k3, k4, k5]
  · unfold raddleref23_Number_l1
    simp only [bs_size, dF (show ¬ ((pre.length + Lib.nDigits u : Nat) : Int) < ((pre ++ Lib.decDigits u).length : Int) by rw [List.length_append]; omega), Bool.false_eq_true, if_false, Nat.sub_self, Nat.pow_zero, Nat.div_one]
theorem num_itoa (n : Int) (h : n.natAbs ≤ 9999999999) : F_raddleref23_Number (bs (Lib.itoa n)) = some (n, true) := by
  have hne := dec_ne n.natAbs
  unfold F_raddleref23_Number
  rw [num_from]
  simp only [Option.bind_some]
  by_cases hn : n < 0
  · have e : Lib.itoa n = [45] ++ Lib.decDigits n.natAbs := by unfold Lib.itoa; rw [if_pos hn]; rfl
    have hr := num_run [45] n.natAbs h (by simp)
    rw [← e] at hr
    have hh : (if (Lib.itoa n).head? = some 45 then 1 else 0 : Nat) = 1 := by rw [e]; rfl
    rw [show ((([45] : List UInt8).length : Nat) : Int) = ((1 : Nat) : Int) from rfl] at hr
    rw [hh, hr]
    simp only [Option.bind_some, bT (show ((1 : Nat) : Int) = 1 from rfl), if_true]
    have e2 : w64 (0 - ((n.natAbs : Nat) : Int)) = n := by rw [w64_of (by omega) (by omega)]; omega
    have hl : ((1 : Nat) : Int) < ((bs (Lib.itoa n)).size : Int) := by rw [bs_size, e, List.length_append]; simp; omega
    rw [e2, if_pos (dT hl), rdec n (by omega)]
    simp only [Option.bind_some, ba_beq]
    simp
  · have e : Lib.itoa n = [] ++ Lib.decDigits n.natAbs := by
      have e : n = ((n.natAbs : Nat) : Int) := by omega
      conv => lhs; rw [e]
      exact Lib.itoa_nonneg _
    have hr := num_run [] n.natAbs h (by simp)
    rw [← e] at hr
    have hh : (if (Lib.itoa n).head? = some 45 then 1 else 0 : Nat) = 0 := by
      rw [e, if_neg]
      intro hc
      have hm : (45 : UInt8) ∈ Lib.decDigits n.natAbs := List.mem_of_head? hc
      exact dec_no hm (by decide) rfl
    rw [hh]
    rw [show ((([] : List UInt8).length : Nat) : Int) = ((0 : Nat) : Int) from rfl] at hr
    rw [hr]
    simp only [Option.bind_some, bF (show ¬ ((0 : Nat) : Int) = 1 by omega), Bool.false_eq_true, if_false]
    have e2 : ((n.natAbs : Nat) : Int) = n := by omega
    have hl : ((0 : Nat) : Int) < ((bs (Lib.itoa n)).size : Int) := by rw [bs_size, e]; simp; omega
    rw [e2, if_pos (dT hl), rdec n (by omega)]
    simp only [Option.bind_some, ba_beq]
    simp

end Go.Proofs.YtdfjcpnflmgdoaaDoor
namespace Go.Proofs.YtdfjcpnflmgdoaaDoor
open Go.RowKit
set_option linter.unusedVariables false

theorem at_loop (x r : List UInt8) (hx : ∀ b, b ∈ x → b ≠ 47) (hr : r = [] ∨ ∃ y, r = 47 :: y) (hl : (x ++ r).length ≤ 200) : whileO (raddleref23_Parse_l1 (bs (x ++ r))) 0 = some ((x.length : Nat) : Int) := by
  rw [List.length_append] at hl
  refine loop_sq (B := raddleref23_Parse_l1 (bs (x ++ r))) (fun k => ((k : Nat) : Int)) x.length (fun k hk => ?_) ?_
  · unfold raddleref23_Parse_l1
    have hk2 : k < (x ++ r).length := by rw [List.length_append]; omega
    have hne : ¬ (((x ++ r)[k]).toNat : Int) = 47 := by
      rw [List.getElem_append_left hk]
      intro h
      refine hx _ (List.getElem_mem hk) (UInt8.toNat_inj.1 ?_)
      show (x[k]).toNat = 47
      omega
    simp only [bs_size, dT (show ((k : Nat) : Int) < ((x ++ r).length : Int) by omega), if_true, idxS_bs hk2, Option.bind_some, nT hne]
    rw [w64_of (by omega) (by omega)]
    rfl
  · unfold raddleref23_Parse_l1
    rcases hr with rfl | ⟨y, rfl⟩
    · rw [List.append_nil]
      simp only [bs_size, dF (show ¬ ((x.length : Nat) : Int) < (x.length : Int) by omega), Bool.false_eq_true, if_false, Option.bind_some]
    · have hk2 : x.length < (x ++ 47 :: y).length := by rw [List.length_append]; simp
      have he : (((x ++ 47 :: y)[x.length]).toNat : Int) = 47 := by
        rw [List.getElem_append_right (by omega)]
        simp
      simp only [bs_size, dT (show ((x.length : Nat) : Int) < ((x ++ 47 :: y).length : Int) by omega), if_true, idxS_bs hk2, Option.bind_some, nF he, Bool.false_eq_true, if_false]
theorem rparse_nil (x : List UInt8) (hx : ∀ b, b ∈ x → b ≠ 47) (hl : x.length ≤ 200) {n : Int} {a : Bool} (h1 : F_raddleref23_Number (bs x) = some (n, a)) (n0 : -9999999999 ≤ n) (n1 : n ≤ 9999999999) :
    F_raddleref23_Parse (bs x) = some (if a = true ∧ okr ⟨n, 1⟩ then (⟨n, 1⟩, 0) else (⟨0, 0⟩, 12)) := by
  have hw := at_loop x [] hx (.inl rfl) (by rw [List.append_nil]; exact hl)
  rw [List.append_nil] at hw
  have hs : sliceS (bs x) 0 ((x.length : Nat) : Int) = some (bs x) := by
    have := sliceS_bs (l := x) (a := 0) (b := x.length) (by omega) (by omega)
    rw [List.drop_zero, Nat.sub_zero, List.take_of_length_le (Nat.le_refl _)] at this
    exact this
  unfold F_raddleref23_Parse
  rw [hw]
  simp only [Option.bind_some]
  rw [hs]
  simp only [Option.bind_some]
  rw [h1]
  cases a
  · simp
  simp only [Option.bind_some, Bool.not_true, Bool.false_eq_true, if_false, bs_size, dF (show ¬ ((x.length : Nat) : Int) < (x.length : Int) by omega), true_and]
  rw [rcheck_any ⟨n, 1⟩ (by show _ ≤ n; omega) (by show n ≤ _; omega) (by show (1 : Int) ≤ _; omega)]
  by_cases ho : okr ⟨n, 1⟩
  · rw [if_pos ho, if_pos ho]
    rfl
  · rw [if_neg ho, if_neg ho]
    rfl
theorem rparse_cons (x y : List UInt8) (hx : ∀ b, b ∈ x → b ≠ 47) (hl : (x ++ 47 :: y).length ≤ 200) {n d : Int} {a b : Bool} (h1 : F_raddleref23_Number (bs x) = some (n, a)) (h2 : F_raddleref23_Number (bs y) = some (d, b)) (n0 : -9999999999 ≤ n) (n1 : n ≤ 9999999999) (d0 : -9999999999 ≤ d) (d1 : d ≤ 9999999999) :
    F_raddleref23_Parse (bs (x ++ 47 :: y)) = some (if a = true ∧ b = true ∧ d ≠ 1 ∧ okr ⟨n, d⟩ then (⟨n, d⟩, 0) else (⟨0, 0⟩, 12)) := by
  have hw := at_loop x (47 :: y) hx (.inr ⟨y, rfl⟩) hl
  have hlen : (x ++ 47 :: y).length = x.length + (y.length + 1) := by rw [List.length_append]; rfl
  have hs : sliceS (bs (x ++ 47 :: y)) 0 ((x.length : Nat) : Int) = some (bs x) := by
    have := sliceS_bs (l := x ++ 47 :: y) (a := 0) (b := x.length) (by omega) (by omega)
    rw [List.drop_zero, Nat.sub_zero, List.take_left] at this
    exact this
  have hs2 : sliceS (bs (x ++ 47 :: y)) (w64 (((x.length : Nat) : Int) + 1)) (((x ++ 47 :: y).length : Nat) : Int) = some (bs y) := by
    have e : w64 (((x.length : Nat) : Int) + 1) = ((x.length + 1 : Nat) : Int) := by rw [w64_of (by omega) (by omega)]; omega
    have := sliceS_bs (l := x ++ 47 :: y) (a := x.length + 1) (b := (x ++ 47 :: y).length) (by omega) (by omega)
    rw [e, this]
    have e2 : (x ++ 47 :: y).drop (x.length + 1) = y := by
      rw [List.drop_append, List.drop_eq_nil_of_le (by omega)]
      simp
    rw [e2, List.take_of_length_le (by omega)]
  unfold F_raddleref23_Parse
  rw [hw]
  simp only [Option.bind_some]
  rw [hs]
  simp only [Option.bind_some]
  rw [h1]
  cases a
  · simp
  simp only [Option.bind_some, Bool.not_true, Bool.false_eq_true, if_false, bs_size, dT (show ((x.length : Nat) : Int) < (((x ++ 47 :: y).length : Nat) : Int) by omega), if_true, true_and, hs2, h2]
  cases b
  · simp
  by_cases hd : d = 1
  · simp [hd]
  simp only [Bool.not_true, Bool.false_eq_true, if_false, bF hd, Option.bind_some, true_and, ne_eq, hd, not_false_eq_true]
  rw [rcheck_any ⟨n, d⟩ (by show _ ≤ n; omega) (by show n ≤ _; omega) (by show d ≤ _; omega)]
  by_cases ho : okr ⟨n, d⟩
  · rw [if_pos ho, if_pos ho]
    rfl
  · rw [if_neg ho, if_neg ho]
    rfl
theorem split47 (l : List UInt8) : ∃ x r, l = x ++ r ∧ (∀ b, b ∈ x → b ≠ 47) ∧ (r = [] ∨ ∃ y, r = 47 :: y) := by
  induction l with
  | nil => exact ⟨[], [], rfl, by simp, .inl rfl⟩
  | cons b l ih =>
    by_cases hb : b = 47
    · subst hb
      exact ⟨[], 47 :: l, rfl, by simp, .inr ⟨l, rfl⟩⟩
    · obtain ⟨x, r, rfl, h1, h2⟩ := ih
      refine ⟨b :: x, r, rfl, fun c hc => ?_, h2⟩
      rcases List.mem_cons.1 hc with rfl | hc
      · exact hb
      · exact h1 c hc
theorem itoa_no {n : Int} {b : UInt8} (h : b ∈ Lib.itoa n) : b ≠ 47 := by
  unfold Lib.itoa at h
  split at h
  · rcases List.mem_cons.1 h with rfl | h
    · decide
    · exact dec_no h (by decide)
  · exact dec_no h (by decide)
theorem rparse_some (l : List UInt8) (hl : l.length ≤ 200) : ∃ v, F_raddleref23_Parse (bs l) = some v ∧ ((∃ r : api_Ratio, okr r ∧ txt r.Num r.Den = l ∧ v = (r, 0)) ∨ v = (⟨0, 0⟩, 12)) := by
  obtain ⟨x, r, rfl, hx, hr⟩ := split47 l
  have hlx : x.length ≤ 200 := by rw [List.length_append] at hl; omega
  obtain ⟨n, a, h1, n0, n1, hn⟩ := num_some x hlx
  rcases hr with rfl | ⟨y, rfl⟩
  · rw [List.append_nil]
    refine ⟨_, rparse_nil x hx hlx h1 n0 n1, ?_⟩
    split
    · rename_i h
      refine .inl ⟨_, h.2, ?_, rfl⟩
      unfold txt
      rw [if_pos rfl, List.append_nil]
      exact hn h.1
    · exact .inr rfl
  · have hly : y.length ≤ 200 := by rw [List.length_append] at hl; simp at hl; omega
    obtain ⟨d, b, h2, d0, d1, hd⟩ := num_some y hly
    refine ⟨_, rparse_cons x y hx hl h1 h2 n0 n1 d0 d1, ?_⟩
    split
    · rename_i h
      refine .inl ⟨_, h.2.2.2, ?_, rfl⟩
      unfold txt
      rw [if_neg h.2.2.1, hn h.1, hd h.2.1]
    · exact .inr rfl
theorem rparse_txt (r : api_Ratio) (ho : okr r) : F_raddleref23_Parse (bs (txt r.Num r.Den)) = some (r, 0) := by
  obtain ⟨n, d⟩ := r
  have a1 : 1 ≤ d := ho.1
  have a2 : d ≤ 1000000000 := ho.2.1
  have a3 : n.natAbs ≤ 1000000000 := ho.2.2.1
  have hlen := txt_len (n := n) (d := d) (by omega) (by omega)
  have k1 := num_itoa n (by omega)
  have k2 := num_itoa d (by omega)
  show F_raddleref23_Parse (bs (txt n d)) = some (⟨n, d⟩, 0)
  unfold txt at hlen ⊢
  by_cases h1 : d = 1
  · rw [if_pos h1, List.append_nil] at hlen ⊢
    rw [rparse_nil (Lib.itoa n) (fun b hb => itoa_no hb) (by omega) k1 (by omega) (by omega)]
    subst h1
    rw [if_pos ⟨rfl, ho⟩]
  · rw [if_neg h1] at hlen ⊢
    rw [rparse_cons (Lib.itoa n) (Lib.itoa d) (fun b hb => itoa_no hb) (by omega) k1 k2 (by omega) (by omega) (by omega) (by omega)]
    rw [if_pos ⟨rfl, rfl, h1, ho⟩]
/-- both accept the same strings, with the same ratio -/
theorem parse_same (l : List UInt8) (hl : l.length ≤ 200) : ∃ v, F_yarn_Parse (bs l) = some v ∧ F_raddleref23_Parse (bs l) = some v := by
  obtain ⟨v, h1, c1⟩ := yparse_some l hl
  obtain ⟨u, h2, c2⟩ := rparse_some l hl
  rcases c1 with ⟨r, r1, r2, rfl⟩ | rfl
  · refine ⟨_, h1, ?_⟩
    rw [← r2]
    exact rparse_txt r r1
  · rcases c2 with ⟨r, r1, r2, rfl⟩ | rfl
    · refine ⟨_, ?_, h2⟩
      rw [← r2]
      exact yparse_txt r r1
    · exact ⟨_, h1, h2⟩

end Go.Proofs.YtdfjcpnflmgdoaaDoor
namespace Go.Proofs.YtdfjcpnflmgdoaaDoor
open Go.RowKit
set_option linter.unusedVariables false

theorem law_YarnTexts (x0 x1 : Int) (x2 : api_Ratio) (x3 : ByteArray) (w0 : InK .i64 x0) (w1 : InK .i64 x1) (w2 : wf_api_Ratio x2) (_ : x3.size ≤ 9223372036854775807) : F_raddlelaw23_YarnTexts x0 x1 x2 x3 = some true := by
  unfold F_raddlelaw23_YarnTexts
  by_cases h : 200 < (x3.size : Int)
  · rw [if_pos (dT h)]
  have hb : ∀ x, InK .i64 x → -9223372036854775808 ≤ x ∧ x ≤ 9223372036854775807 := fun x hx => inK_64 hx
  obtain ⟨a0, a1⟩ := hb _ w0
  obtain ⟨b0, b1⟩ := hb _ w1
  obtain ⟨c0, c1⟩ := hb _ w2.1
  obtain ⟨d0, d1⟩ := hb _ w2.2
  have e3 : x3 = bs x3.data.toList := rfl
  have hl : x3.data.toList.length ≤ 200 := by
    rw [e3, bs_size] at h
    omega
  obtain ⟨v, v1, v2⟩ := parse_same x3.data.toList hl
  rw [← e3] at v1 v2
  rw [if_neg (by rw [dF h]; decide), ymake_full x0 x1 a0 a1 b0 b1, rmake_full x0 x1 a0 a1 b0 b1, ytext x2 c0 c1 d1, rtext x2 c0 c1 d1, v1, v2]
  have hs : ∀ l : List UInt8, (bs l == bs l) = true := fun l => by rw [ba_beq]; simp
  simp only [Option.bind_some, beq_self_eq_true, Bool.and_true, if_true]
  have ht : ((if okr x2 then (bs (txt x2.Num x2.Den), (0 : Int)) else (bs [], 8)).1 == (if okr x2 then (bs (txt x2.Num x2.Den), (0 : Int)) else (bs [], 8)).1) = true := by
    split
    · exact hs _
    · exact hs _
  rw [ht]
  simp

end Go.Proofs.YtdfjcpnflmgdoaaDoor
namespace Go.Proofs.YtdfjcpnflmgdoaaDoor
open Go.RowKit
set_option linter.unusedVariables false

namespace frameYarnTexts
open Go.ChangeShapes Go.WideShapes Go.ChangeAt Go.Joins
theorem own : ownKnob Tryd.prog.godebug = none := by kernel_rfl
theorem laidOut : laidOutB Tryd.prog = true := by kernel_rfl
set_option maxRecDepth 100000 in
theorem door_met (os : Os) (args : Array Value) : laidMetH Tryd.prog Rows.yarnTextsRow.laid ((World.doorLaid Tryd.prog 400 os).forCall (fun _ _ => 0) ⟨#[], args, []⟩).memory :=
  laidMetH_of_parts3 (fuel := 8) (laidMet_of_run' 8 (by kernel_rfl) (by kernel_rfl)) (by kernel_rfl) (by kernel_rfl)
set_option maxRecDepth 100000 in
theorem gtab {W : World} (h : laidMetH Tryd.prog Rows.yarnTextsRow.laid W) : (fGv gTab cTab).p (fun _ => False) W := by
  rw [MakeChecks.laidMetH_plain _ _ _ (by kernel_rfl)] at h
  have h2 := h.filter (fun x => x.1 == "internal/strconv.uint64pow10")
  rw [show Rows.yarnTextsRow.laid.filter (fun x => x.1 == "internal/strconv.uint64pow10") = [("internal/strconv.uint64pow10", Lib.tabData .u64 Lib.pow10Tab)] by kernel_rfl] at h2
  exact gv_tab (Lib.tabIs_of_head (g := gTab) (t := 61) (e := 36) (n := 20) (by kernel_rfl) (by kernel_rfl) Tryd.underlying61 Tryd.underlying36 (by kernel_rfl) (by kernel_rfl) h2)
theorem gmax {W : World} (h : W.ShapedOpen Tryd.prog) : (fGv gMax cMax).p (fun _ => False) W :=
  gv_max (cell_of_shapedOpen_int (P := Tryd.prog) (g := gMax) (t := 3) (zero := #[.int .i64 0]) h (of_decide_eq_true (by kernel_rfl)) (by kernel_rfl) rfl (by kernel_rfl) (by kernel_rfl) Tryd.underlying3)
set_option maxRecDepth 100000 in
theorem lifted (os : Os) (started : os.Started) (H : Type) (enc : TypeId × Value → H) :
    ReturnsInHanded {} Tryd.checked os 3 .any (fun w args => (Rows.yarnTextsSpec.pre enc Tryd.prog Tryd.f3 Rows.yarnTextsRow.domain false w args ∧ laidMetH Tryd.prog Rows.yarnTextsRow.laid w) ∧ sizedMet enc Tryd.prog Tryd.f3 (OpenSpec.ofChange Rows.yarnTextsSpec) false w args) (Rows.yarnTextsSpec.post enc Tryd.prog Tryd.f3 false true false false) := by
  refine returnsInHanded_of_row (C := Tryd.checked) (s := OpenSpec.ofChange Rows.yarnTextsSpec) (F := fun _ _ _ => 0) (conds := Rows.yarnTextsRow.domain) (laid := Rows.yarnTextsRow.laid) own started (by kernel_rfl) Tryd.func3
    (ChangeSpec.witness_shaped (enc := enc) (C := Tryd.checked) (os := os) (X := fun w _ => laidMetH Tryd.prog Rows.yarnTextsRow.laid w) false (World.doorLaid Tryd.prog 400 os) #[.int .i64 0, .int .i64 0, .agg #[iv 0, iv 0], .string ⟨#[]⟩] 8 rfl (World.shaped_of_RefB (by kernel_rfl) (by kernel_rfl)) (by kernel_rfl) (by kernel_rfl) (by kernel_rfl) (door_met os _)) ?_
  intro W base args ds gs before hval0 hW _ _ _ hlaid hshape _
  have hval : ∀ (j : Nat) t v, Tryd.f3.params[j]? = some t → args[j]? = some v → Value.okWide Tryd.prog W .any base t v := hval0
  have hW' := hW
  obtain ⟨p, q, hA0, hV, rfl, hfz, hnd⟩ := hW
  have hA : DataW.TrodAll enc Tryd.prog W 0 (fun _ => true) true Tryd.f3.params.toList args.toList ds p := hA0
  rw [Tryd.params3] at hA hval
  obtain ⟨v0, vs0, d0, ds0, p0, q0, hargs, rfl, rfl, h0, r0⟩ := trodAll_cons hA
  obtain ⟨v1, vs1, d1, ds1, p1, q1, rfl, rfl, rfl, h1, r1⟩ := trodAll_cons r0
  obtain ⟨v2, vs2, d2, ds2, p2, q2, rfl, rfl, rfl, h2, r2⟩ := trodAll_cons r1
  obtain ⟨v3, vs3, d3, ds3, p3, q3, rfl, rfl, rfl, h3, r3⟩ := trodAll_cons r2
  obtain ⟨rfl, rfl, rfl⟩ := trodAll_nil r3
  obtain rfl : args = #[v0, v1, v2, v3] := by cases args; simp_all
  obtain ⟨rfl, rfl⟩ := trodVars_none hV
  have k0 := h0
  have lt0 : ∀ x ∈ p0, x.block < W.heap.size := by obtain ⟨m, hm⟩ := k0; exact DataW.trod_lt m _ _ _ hm
  have k1 := h1
  have lt1 : ∀ x ∈ p1, x.block < W.heap.size := by obtain ⟨m, hm⟩ := k1; exact DataW.trod_lt m _ _ _ hm
  have k2 := h2
  have lt2 : ∀ x ∈ p2, x.block < W.heap.size := by obtain ⟨m, hm⟩ := k2; exact DataW.trod_lt m _ _ _ hm
  have k3 := h3
  have lt3 : ∀ x ∈ p3, x.block < W.heap.size := by obtain ⟨m, hm⟩ := k3; exact DataW.trod_lt m _ _ _ hm
  obtain ⟨x0, rfl, rfl, rfl, wf0⟩ := open_int Tryd.underlying2 (hval 0 _ v0 rfl rfl) h0
  obtain ⟨x1, rfl, rfl, rfl, wf1⟩ := open_int Tryd.underlying2 (hval 1 _ v1 rfl rfl) h1
  obtain ⟨x2, rep2, wf2⟩ := top_agg Tryd.underlying23 aggr_api_Ratio op_api_Ratio (hval 2 _ v2 rfl rfl) h2
  obtain ⟨x3, rfl, rfl, rfl, wf3⟩ := Go.ChangeMaps.open_string Tryd.underlying9 (hval 3 _ v3 rfl rfl) h3
  clear hA0 hval0
  refine (c_raddlelaw23_YarnTexts (fun _ => False) W x0 x1 x2 v2 x3 true (law_YarnTexts x0 x1 x2 x3 wf0 wf1 wf2 wf3) (St0.start (by intro d hd; simp only [List.mem_cons, List.not_mem_nil, or_false] at hd; rcases hd with rfl | rfl | rfl; exact rep2; exact (gmax hshape); exact (gtab hlaid)))).mono fun e W' hr => ?_
  obtain ⟨_, he, hS⟩ := hr
  have bel := hS.chg.below
  subst he
  exact ⟨_, rfl, _, _, _, [], _, [], hW', trodAll_mk1 (shut_bool Tryd.underlying4 _), (trodAll_cons_mk (Below.trod laidOut (by kernel_rfl) (of_decide_eq_true (by kernel_rfl)) k0 bel lt0) (trodAll_cons_mk (Below.trod laidOut (by kernel_rfl) (of_decide_eq_true (by kernel_rfl)) k1 bel lt1) (trodAll_cons_mk (Below.trod laidOut (by kernel_rfl) (of_decide_eq_true (by kernel_rfl)) k2 bel lt2) (trodAll_cons_mk (Below.trod laidOut (by kernel_rfl) (of_decide_eq_true (by kernel_rfl)) k3 bel lt3) trodAll_mk0)))), rfl, bel.frame _, fun h => by cases h⟩
theorem over : Rows.yarnTextsRow.holds Tryd.pinned (OpenSpec.ofChange Rows.yarnTextsSpec) :=
  OpenClaim.holds_of_wide 3 Tryd.f3 rfl rfl rfl rfl rfl rfl rfl ⟨rfl, rfl, rfl, rfl, rfl⟩ rfl rfl rfl rfl rfl (by kernel_rfl) Tryd.func3 (by kernel_rfl)
    (of_decide_eq_true (by kernel_rfl)) (by unfold Func.isWrapper; first | (rw [if_pos (by decide +kernel)]; kernel_rfl) | (rw [if_neg (by decide +kernel)]; exact ⟨rfl, rfl⟩))
    (fun os started H enc _ => lifted os started H enc)
theorem card : Rows.YarnTextsCardSaid :=
  Claim7.holds_tied_plain_at .later [] [.data, .data, .data] true (true, "ebbae7013ad4c2bd0d21abe59b7bf5063ac423382a1234d151175f26ca12a032") false
    over (fun _ h => by cases h) (by kernel_rfl) (fun _ h => by cases h) yarnTexts_row_tie rfl ⟨rfl, rfl⟩ (by kernel_rfl) rfl
    (fun f fn hf hfn => by
      obtain rfl : f = 3 := Option.some.inj ((show Tryd.prog.funcNamed "raddle/raddlelaw23.YarnTexts" = some 3 by kernel_rfl).symm.trans hf) |>.symm
      obtain rfl : fn = Tryd.f3 := (Option.some.inj (Tryd.func3.symm.trans hfn)).symm
      exact ⟨by kernel_rfl, fun j t ht => by
        rw [Tryd.params3] at ht
        have hm : t ∈ [2, 2, 23, 9] := by simpa using Array.mem_of_getElem? ht
        have hall : ([2, 2, 23, 9].all fun u => !Tryd.prog.wantsStandIn u) = true := by kernel_rfl
        exact (show Tryd.prog.wantsStandIn t = false by simpa using List.all_eq_true.1 hall t hm)⟩)
    (by kernel_rfl)
end frameYarnTexts
theorem yarnTexts_holds : Rows.YarnTextsCardSaid := frameYarnTexts.card

end Go.Proofs.YtdfjcpnflmgdoaaDoor
