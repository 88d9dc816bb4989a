/- Several texts in one: G32 G39s0 G31s0 G25 G27 G35i0 G22 G12 G29 G23 G13 G14 G48 G54 G55 G49 G45 G41 G37 G36 GJn -/
import Derived.WalkKit
import Derived.Maps.AppendAt
import Derived.Deep.AppendLies
import Derived.KernelRfl
import Derived.Laws.OwnMore
import Derived.Great.BuildSlice
import Derived.Orders
import Derived.Laws.StructEq
import Derived.ChangeKeysEq
import Derived.Defers
import Derived.Laws.BytesString
import Derived.RangeFuncNested
import Derived.RangeFuncBound
import Derived.RangeFuncCalls
import Derived.RangeFuncLeaves
import Derived.OrdersIn
import Derived.LoopNIn
import Derived.Test.YtoiehdlcfehmlaaDoorProg
import Derived.ProofKit
import Derived.OpenShut
import Derived.ChangeOld
import Derived.Deep.Slices
import Derived.Lib.SmallJoins
import Derived.JoinedOf
import Derived.JoinedAt
import Derived.Below
import Derived.Shelf.Strings.Builder1
import Derived.Shelf.Strings.Builder2
import Derived.Shelf.Strings.OnBuilder
import Derived.Test.YtoiehdlcfehmlaaDoorRows
import Derived.LaidMore
import Derived.SevenTiedAt
import Derived.Test.YtoiehdlcfehmlaaDoorCards
import Derived.Test.YtoiehdlcfehmlaaDoorTie
import Derived.Test.YtoiehdlcfehmlaaDoorMShortKnits2
namespace Go.Proofs.YtoiehdlcfehmlaaDoor
open Go.RowKit
set_option linter.unusedVariables false

noncomputable def F_stitch_All_1 (p0 : api_Stitch) : Option Bool :=
  Option.bind (F_stitch_Check p0) fun r4 =>
  some (r4 != 0)
set_option maxHeartbeats 4000000 in
set_option maxRecDepth 100000 in
theorem c_stitch_All_1 (E : Nat → Prop) (w0 : World) (p0 : api_Stitch) (v0 : Value) (r : Bool) (h : F_stitch_All_1 p0 = some r) (S : St0 E [] w0 w0 [] [fRep r_api_Stitch (v0) p0]) :
    Calls Tryd.prog 32 #[v0] w0 (Ret (X := Unit) E [] w0 (fun _ => .bool r) (fun _ => []) (fun _ => [])) := by
  unfold F_stitch_All_1 at h
  obtain rfl : v0 = .agg #[.int .u8 p0.Kind, .bool p0.Purl, iv p0.A, iv p0.B] := S.know (i := 0) (e := fRep r_api_Stitch (v0) p0) rfl
  refine sEnter (args := [.agg #[.int .u8 p0.Kind, .bool p0.Purl, iv p0.A, iv p0.B]]) 6 Tryd.func32 rfl rfl (by simp) S (fun a S => ?_)
  refine sSeq (fun K1 hK1 => ?_)
  refine sRegion ?_
  refine sBox (v := .agg #[.int .u8 p0.Kind, .bool p0.Purl, iv p0.A, iv p0.B]) S (wN rfl) rfl rfl [.int .u8 p0.Kind, .bool p0.Purl, iv p0.A, iv p0.B] rfl rfl (lb rfl) fun a b2 w S => ?_
  refine sMove (.bool false) S (wN rfl) (.inr rfl) rfl rfl (lb rfl) fun a S => ?_
  refine leafL (leafT (hK1 _ _ ?_))
  refine sSeq (fun K3 hK3 => ?_)
  refine sRegion ?_
  refine sLoadN (p := b2) (off := 0) (T := 38) (vs := [.int .u8 p0.Kind, .bool p0.Purl, iv p0.A, iv p0.B]) 0 [.int .u8 p0.Kind, .bool p0.Purl, iv p0.A, iv p0.B] S (wN rfl) rfl rfl rfl rfl rfl rfl rfl (lb rfl) fun a S => ?_
  obtain ⟨r4, hx5, h⟩ := bindSome h
  have S1 := S.mem
  refine sCallQ (X := Unit) (f := 33) (vs := [.agg #[.int .u8 p0.Kind, .bool p0.Purl, iv p0.A, iv p0.B]]) (val := fun _ => iv r4) S (wN rfl) rfl callee33 rfl (S1.quiet [0] rfl) (fun E1 w1 S1 => c_stitch_Check E1 w1 p0 (.agg #[.int .u8 p0.Kind, .bool p0.Purl, iv p0.A, iv p0.B]) r4 hx5 S1) rfl (lb rfl) fun _ a w S => ?_
  refine sBin (.bool (r4 != 0)) S (wN rfl) rfl rfl rfl (bNe _ _ _ _ .i64 r4 0) rfl (lb rfl) fun a S => ?_
  refine sMove (.bool (r4 != 0)) S (wN rfl) (.inr rfl) rfl rfl (lb rfl) fun a S => ?_
  refine leafL (leafT (hK3 _ _ ?_))
  obtain rfl := Option.some.inj h
  exact wp_ret (sRet (.bool (r4 != 0)) S (rsl1 rfl (rvT (t := 2) (v := .bool (r4 != 0)) S rfl)) ⟨(), rfl, S.mem.sel [] [] (by decide) rfl rfl⟩)

end Go.Proofs.YtoiehdlcfehmlaaDoor
namespace Go.Proofs.YtoiehdlcfehmlaaDoor
open Go.RowKit
set_option linter.unusedVariables false

noncomputable def slices_IndexFunc___api_Stitch_api_Stitch__s0_l1 (p0 : (List api_Stitch)) : Int → Option (Int ⊕ (Int ⊕ Unit)) := fun s0 => match s0 with
  | s7 =>
    if decide (s7 < (p0.length : Int)) then
      Option.bind (idxO p0 s7) fun x17 =>
      Option.bind (F_stitch_All_1 x17) fun r22 =>
      if r22 then
        some (.inr (.inl s7))
      else
        some (.inl (w64 (s7 + 1)))
    else
      some (.inr (.inr ()))
noncomputable def F_slices_IndexFunc___api_Stitch_api_Stitch__s0 (p0 : (List api_Stitch)) : Option Int :=
  Option.bind (α := Unit ⊕ Int) (
    Option.bind (whileO (slices_IndexFunc___api_Stitch_api_Stitch__s0_l1 p0) 0) fun z0 => match z0 with
      | .inl z =>
        some (.inr z)
      | .inr _ =>
        some (.inl ())) fun z0 => match z0 with
    | .inl _ =>
      some (-1)
    | .inr z =>
      some z
set_option maxHeartbeats 4000000 in
set_option maxRecDepth 100000 in
theorem c_slices_IndexFunc___api_Stitch_api_Stitch__s0 (E : Nat → Prop) (w0 : World) (p0 : (List api_Stitch)) (v0 : Value) (r : Int) (h : F_slices_IndexFunc___api_Stitch_api_Stitch__s0 p0 = some r) (S : St0 E [] w0 w0 [] [fRep (rL r_api_Stitch) (v0) p0]) :
    Calls Tryd.prog 39 #[v0, .func (.func 32) #[] #[]] w0 (Ret (X := Unit) E [] w0 (fun _ => .int .i64 r) (fun _ => []) (fun _ => [])) := by
  unfold F_slices_IndexFunc___api_Stitch_api_Stitch__s0 at h
  obtain ⟨ad1, cp2, _, rfl, _⟩ := S.know (i := 0) (e := fRep (rL r_api_Stitch) (v0) p0) rfl
  refine sEnter (args := [.slice ad1 p0.length cp2, .func (.func 32) #[] #[]]) 19 Tryd.func39 rfl rfl (by simp) S (fun a S => ?_)
  refine sSeq (fun K3 hK3 => ?_)
  refine sRegion ?_
  refine sMove (iv 0) S (wN rfl) (.inr rfl) rfl rfl (lb rfl) fun a S => ?_
  refine leafL (leafT (hK3 _ _ ?_))
  obtain ⟨t4, h, g5⟩ := bindSome h
  refine sCut (fun a w => .inl () = t4 ∧ St [] E [] w0 19 a w [] [] []) ?_ (fun a w hI => ?_)
  rotate_left
  · obtain ⟨rfl, S⟩ := hI
    have h := g5
    clear g5
    try dsimp only at h
    refine sSeq (fun K26 hK26 => ?_)
    refine sRegion ?_
    refine sMove (iv (-1)) S (wN rfl) (.inr rfl) rfl rfl (lb rfl) fun a S => ?_
    refine leafL (leafT (hK26 _ _ ?_))
    obtain rfl := Option.some.inj h
    exact wp_ret (sRet (iv (-1)) S (rsl1 rfl (rvT (t := 4) (v := iv (-1)) S rfl)) ⟨(), rfl, S.mem.sel [] [] (by decide) rfl rfl⟩)
  refine sSeq (fun K6 hK6 => ?_)
  refine sRegion ?_
  refine sMove (.slice ad1 p0.length cp2) S (wN rfl) (.inl rfl) rfl rfl (lb rfl) fun a S => ?_
  refine sLen (ad := ad1) (m := p0.length) (c := cp2) S (wN rfl) rfl Tryd.underlying39 rfl rfl (lb rfl) fun a S => ?_
  refine sMove (iv 0) S (wN rfl) (.inl rfl) rfl rfl (lb rfl) fun a S => ?_
  refine leafL (leafT (hK6 _ _ ?_))
  refine wp_block ?_
  obtain ⟨t10, hl, g9⟩ := bindSome h
  refine sLoop hl (fun s0 a w => match s0 with | s7 => St [] E [] w0 19 a w [(0, .slice ad1 p0.length cp2), (1, .func (.func 32) #[] #[]), (7, iv (p0.length : Int)), (8, iv s7)] [] [fRep (rL r_api_Stitch) (.slice ad1 p0.length cp2) p0]) (S.fix [] [0] (by decide) rfl rfl rfl) ?_
  clear hl h
  intro s7 a w c0 hI h hu8
  unfold slices_IndexFunc___api_Stitch_api_Stitch__s0_l1 at h
  dsimp only at h hI
  have S := hI
  refine sSeq (fun K11 hK11 => ?_)
  refine sRegion ?_
  refine sBin (.bool (decide (s7 < (p0.length : Int)))) S (wN rfl) rfl rfl rfl (bLt _ _ _ _ .i64 s7 (p0.length : Int)) rfl (lb rfl) fun a S => ?_
  refine leafL (leafT (hK11 _ _ ?_))
  refine sSeq (fun K12 hK12 => ?_)
  rcases iteSome h with ⟨hc13, h⟩ | ⟨hc13, h⟩
  rotate_left
  · refine sCondF S rfl hc13 ?_
    obtain rfl := Option.some.inj h
    obtain rfl := hu8 _ rfl
    have h := g9
    clear g9
    try dsimp only at h
    exact wp_exit (xThen (xThen (xHit (leafT (⟨Option.some.inj h, S.fix [] [] (by decide) rfl rfl rfl⟩)))))
  refine sCondT S rfl hc13 ?_
  refine wp_skip (leafT (hK12 _ _ ?_))
  refine sSeq (fun K14 hK14 => ?_)
  refine wp_block ?_
  refine sSeq (fun K15 hK15 => ?_)
  refine sRegion ?_
  refine sMove (iv s7) S (wN rfl) (.inl rfl) rfl rfl (lb rfl) fun a S => ?_
  refine sMove (iv s7) S (wN rfl) (.inr rfl) rfl rfl (lb rfl) fun a S => ?_
  refine leafL (leafT (hK15 _ _ ?_))
  refine sSeq (fun K16 hK16 => ?_)
  refine sRegion ?_
  refine sMove (.func (.func 32) #[] #[]) S (wN rfl) (.inl rfl) rfl rfl (lb rfl) fun a S => ?_
  refine sMove (.slice ad1 p0.length cp2) S (wN rfl) (.inl rfl) rfl rfl (lb rfl) fun a S => ?_
  refine sMove (iv s7) S (wN rfl) (.inl rfl) rfl rfl (lb rfl) fun a S => ?_
  obtain ⟨x17, hx18, h⟩ := bindSome h
  obtain ⟨q19, hq20, S⟩ := pIdx (P := Tryd.prog) (r := r_api_Stitch) (v := .slice ad1 p0.length cp2) (xs := p0) (j := s7) 39 38 0 S Tryd.underlying39 rfl rfl hx18
  refine sIdxV (v := .slice ad1 p0.length cp2) (k := .i64) (j := s7) S (wN rfl) rfl rfl rfl hq20 rfl (lb rfl) fun a S => ?_
  obtain ⟨u21, S⟩ := pLoad (r := r_api_Stitch) (q := q19) (x := x17) 0 S rfl
  obtain rfl : u21 = .agg #[.int .u8 x17.Kind, .bool x17.Purl, iv x17.A, iv x17.B] := S.mem.know (i := 1) (e := fRep r_api_Stitch (u21) x17) rfl
  refine sLoadVN (vq := q19) 0 [.int .u8 x17.Kind, .bool x17.Purl, iv x17.A, iv x17.B] S (wN rfl) rfl rfl rfl rfl rfl rfl (lb rfl) fun a S => ?_
  obtain ⟨r22, hx23, h⟩ := bindSome h
  have S1 := S.mem
  refine sCallVQ (X := Unit) (g := 32) (vs := [.agg #[.int .u8 x17.Kind, .bool x17.Purl, iv x17.A, iv x17.B]]) (caps := []) (val := fun _ => .bool r22) S (wN rfl) rfl rfl callee32 rfl (S1.quiet [1] rfl) (fun E1 w1 S1 => c_stitch_All_1 E1 w1 x17 (.agg #[.int .u8 x17.Kind, .bool x17.Purl, iv x17.A, iv x17.B]) r22 hx23 S1) rfl (lb rfl) fun _ a w S => ?_
  refine leafL (leafT (hK16 _ _ ?_))
  rcases iteSome h with ⟨hc24, h⟩ | ⟨hc24, h⟩
  rotate_left
  · refine sCondF S rfl hc24 ?_
    refine wp_skip (leafB (leafT (hK14 _ _ ?_)))
    refine sRegion ?_
    refine sBin (iv (w64 (s7 + 1))) S (wN rfl) rfl rfl rfl (bAdd _ _ _ _ s7 1) rfl (lb rfl) fun a S => ?_
    refine sMove (iv (w64 (s7 + 1))) S (wN rfl) (.inl rfl) rfl rfl (lb rfl) fun a S => ?_
    exact leafL (leafT (⟨w64 (s7 + 1), (Option.some.inj h).symm, (S.fix [] [3] (by decide) rfl rfl rfl)⟩))
  refine sCondT S rfl hc24 ?_
  refine sSeq (fun K25 hK25 => ?_)
  refine sRegion ?_
  refine sMove (iv s7) S (wN rfl) (.inl rfl) rfl rfl (lb rfl) fun a S => ?_
  refine sMove (iv s7) S (wN rfl) (.inr rfl) rfl rfl (lb rfl) fun a S => ?_
  refine leafL (leafT (hK25 _ _ ?_))
  obtain rfl := Option.some.inj h
  obtain rfl := hu8 _ rfl
  have h := g9
  clear g9
  try dsimp only at h
  obtain rfl := Option.some.inj h
  have h := g5
  clear g5
  try dsimp only at h
  obtain rfl := Option.some.inj h
  exact wp_ret (rBlock (rThen (rThen (rBlock (rThen (sRet (iv s7) S (rsl1 rfl (rvT (t := 4) (v := iv s7) S rfl)) ⟨(), rfl, S.mem.sel [] [] (by decide) rfl rfl⟩))))))

end Go.Proofs.YtoiehdlcfehmlaaDoor
namespace Go.Proofs.YtoiehdlcfehmlaaDoor
open Go.RowKit
set_option linter.unusedVariables false

noncomputable def F_slices_ContainsFunc___api_Stitch_api_Stitch__s0 (p0 : (List api_Stitch)) : Option Bool :=
  Option.bind (F_slices_IndexFunc___api_Stitch_api_Stitch__s0 p0) fun r5 =>
  some (decide (0 ≤ r5))
set_option maxHeartbeats 4000000 in
set_option maxRecDepth 100000 in
theorem c_slices_ContainsFunc___api_Stitch_api_Stitch__s0 (E : Nat → Prop) (w0 : World) (p0 : (List api_Stitch)) (v0 : Value) (r : Bool) (h : F_slices_ContainsFunc___api_Stitch_api_Stitch__s0 p0 = some r) (S : St0 E [] w0 w0 [] [fRep (rL r_api_Stitch) (v0) p0]) :
    Calls Tryd.prog 31 #[v0, .func (.func 32) #[] #[]] w0 (Ret (X := Unit) E [] w0 (fun _ => .bool r) (fun _ => []) (fun _ => [])) := by
  unfold F_slices_ContainsFunc___api_Stitch_api_Stitch__s0 at h
  obtain ⟨ad1, cp2, _, rfl, _⟩ := S.know (i := 0) (e := fRep (rL r_api_Stitch) (v0) p0) rfl
  refine sEnter (args := [.slice ad1 p0.length cp2, .func (.func 32) #[] #[]]) 9 Tryd.func31 rfl rfl (by simp) S (fun a S => ?_)
  refine sSeq (fun K3 hK3 => ?_)
  refine sRegion ?_
  refine sMove (.bool false) S (wN rfl) (.inr rfl) rfl rfl (lb rfl) fun a S => ?_
  refine leafL (leafT (hK3 _ _ ?_))
  refine sSeq (fun K4 hK4 => ?_)
  refine sRegion ?_
  refine sMove (.slice ad1 p0.length cp2) S (wN rfl) (.inl rfl) rfl rfl (lb rfl) fun a S => ?_
  refine sMove (.func (.func 32) #[] #[]) S (wN rfl) (.inl rfl) rfl rfl (lb rfl) fun a S => ?_
  obtain ⟨r5, hx6, h⟩ := bindSome h
  have S1 := S.mem
  refine sCallQ (X := Unit) (f := 39) (vs := [.slice ad1 p0.length cp2, .func (.func 32) #[] #[]]) (val := fun _ => iv r5) S (wN rfl) rfl callee39 rfl (S1.quiet [0] rfl) (fun E1 w1 S1 => c_slices_IndexFunc___api_Stitch_api_Stitch__s0 E1 w1 p0 (.slice ad1 p0.length cp2) r5 hx6 S1) rfl (lb rfl) fun _ a w S => ?_
  refine sBin (.bool (decide (0 ≤ r5))) S (wN rfl) rfl rfl rfl (bGe _ _ _ _ .i64 r5 0) rfl (lb rfl) fun a S => ?_
  refine sMove (.bool (decide (0 ≤ r5))) S (wN rfl) (.inr rfl) rfl rfl (lb rfl) fun a S => ?_
  refine leafL (leafT (hK4 _ _ ?_))
  obtain rfl := Option.some.inj h
  exact wp_ret (sRet (.bool (decide (0 ≤ r5))) S (rsl1 rfl (rvT (t := 4) (v := .bool (decide (0 ≤ r5))) S rfl)) ⟨(), rfl, S.mem.sel [] [] (by decide) rfl rfl⟩)

end Go.Proofs.YtoiehdlcfehmlaaDoor
namespace Go.Proofs.YtoiehdlcfehmlaaDoor
open Go.RowKit
set_option linter.unusedVariables false

noncomputable def F_stitch_All (p0 : (List api_Stitch)) : Option Int :=
  if decide (200 < (p0.length : Int)) then
    some 4
  else
    Option.bind (F_slices_ContainsFunc___api_Stitch_api_Stitch__s0 p0) fun r10 =>
    if r10 then
      some 8
    else
      Option.bind (F_stitch_sum p0) fun r16 =>
      if decide (200 < (if r16.1 < r16.2 then r16.2 else r16.1)) then
        some 4
      else
        some 0
set_option maxHeartbeats 4000000 in
set_option maxRecDepth 100000 in
theorem c_stitch_All (E : Nat → Prop) (w0 : World) (p0 : (List api_Stitch)) (v0 : Value) (r : Int) (h : F_stitch_All p0 = some r) (S : St0 E [] w0 w0 [] [fRep (rL r_api_Stitch) (v0) p0]) :
    Calls Tryd.prog 25 #[v0] w0 (Ret (X := Unit) E [] w0 (fun _ => .int .i64 r) (fun _ => []) (fun _ => [])) := by
  unfold F_stitch_All at h
  obtain ⟨ad1, cp2, _, rfl, _⟩ := S.know (i := 0) (e := fRep (rL r_api_Stitch) (v0) p0) rfl
  refine sEnter (args := [.slice ad1 p0.length cp2]) 19 Tryd.func25 rfl rfl (by simp) S (fun a S => ?_)
  refine sSeq (fun K3 hK3 => ?_)
  refine sRegion ?_
  refine sMove (iv 0) S (wN rfl) (.inr rfl) rfl rfl (lb rfl) fun a S => ?_
  refine leafL (leafT (hK3 _ _ ?_))
  refine sSeq (fun K4 hK4 => ?_)
  refine sSeq (fun K5 hK5 => ?_)
  refine sRegion ?_
  refine sMove (.slice ad1 p0.length cp2) S (wN rfl) (.inl rfl) rfl rfl (lb rfl) fun a S => ?_
  refine sLen (ad := ad1) (m := p0.length) (c := cp2) S (wN rfl) rfl Tryd.underlying39 rfl rfl (lb rfl) fun a S => ?_
  refine sBin (.bool (decide (200 < (p0.length : Int)))) S (wN rfl) rfl rfl rfl (bGt _ _ _ _ .i64 (p0.length : Int) 200) rfl (lb rfl) fun a S => ?_
  refine leafL (leafT (hK5 _ _ ?_))
  rcases iteSome h with ⟨hc6, h⟩ | ⟨hc6, h⟩
  · refine sCondT S rfl hc6 ?_
    refine sSeq (fun K7 hK7 => ?_)
    refine sRegion ?_
    refine sMove (iv 4) S (wN rfl) (.inr rfl) rfl rfl (lb rfl) fun a S => ?_
    refine leafL (leafT (hK7 _ _ ?_))
    obtain rfl := Option.some.inj h
    exact wp_ret (rThen (sRet (iv 4) S (rsl1 rfl (rvT (t := 2) (v := iv 4) S rfl)) ⟨(), rfl, S.mem.sel [] [] (by decide) rfl rfl⟩))
  refine sCondF S rfl hc6 ?_
  refine wp_skip (leafT (hK4 _ _ ?_))
  refine sSeq (fun K8 hK8 => ?_)
  refine sSeq (fun K9 hK9 => ?_)
  refine sRegion ?_
  refine sMove (.slice ad1 p0.length cp2) S (wN rfl) (.inl rfl) rfl rfl (lb rfl) fun a S => ?_
  obtain ⟨r10, hx11, h⟩ := bindSome h
  have S1 := S.mem
  refine sCallQ (X := Unit) (f := 31) (vs := [.slice ad1 p0.length cp2, .func (.func 32) #[] #[]]) (val := fun _ => .bool r10) S (wN rfl) rfl callee31 rfl (S1.quiet [0] rfl) (fun E1 w1 S1 => c_slices_ContainsFunc___api_Stitch_api_Stitch__s0 E1 w1 p0 (.slice ad1 p0.length cp2) r10 hx11 S1) rfl (lb rfl) fun _ a w S => ?_
  refine leafL (leafT (hK9 _ _ ?_))
  rcases iteSome h with ⟨hc12, h⟩ | ⟨hc12, h⟩
  · refine sCondT S rfl hc12 ?_
    refine sSeq (fun K13 hK13 => ?_)
    refine sRegion ?_
    refine sMove (iv 8) S (wN rfl) (.inr rfl) rfl rfl (lb rfl) fun a S => ?_
    refine leafL (leafT (hK13 _ _ ?_))
    obtain rfl := Option.some.inj h
    exact wp_ret (rThen (sRet (iv 8) S (rsl1 rfl (rvT (t := 2) (v := iv 8) S rfl)) ⟨(), rfl, S.mem.sel [] [] (by decide) rfl rfl⟩))
  refine sCondF S rfl hc12 ?_
  refine wp_skip (leafT (hK8 _ _ ?_))
  refine sSeq (fun K14 hK14 => ?_)
  refine sSeq (fun K15 hK15 => ?_)
  refine sRegion ?_
  refine sMove (.slice ad1 p0.length cp2) S (wN rfl) (.inl rfl) rfl rfl (lb rfl) fun a S => ?_
  obtain ⟨r16, hx17, h⟩ := bindSome h
  have S1 := S.mem
  refine sCallQ (X := Unit) (f := 26) (vs := [.slice ad1 p0.length cp2]) (val := fun _ => .tuple #[iv r16.1, iv r16.2]) S (wN rfl) rfl callee26 rfl (S1.quiet [0] rfl) (fun E1 w1 S1 => c_stitch_sum E1 w1 p0 (.slice ad1 p0.length cp2) r16 hx17 S1) rfl (lb rfl) fun _ a w S => ?_
  refine sMove (.tuple #[iv r16.1, iv r16.2]) S (wN rfl) (.inl rfl) rfl rfl (lb rfl) fun a S => ?_
  refine sExtract (vs := [iv r16.1, iv r16.2]) (iv r16.1) S (wN rfl) rfl rfl rfl rfl (lb rfl) fun a S => ?_
  refine sExtract (vs := [iv r16.1, iv r16.2]) (iv r16.2) S (wN rfl) rfl rfl rfl rfl (lb rfl) fun a S => ?_
  refine sMove (iv r16.1) S (wN rfl) (.inr rfl) rfl rfl (lb rfl) fun a S => ?_
  refine sMove (iv r16.2) S (wN rfl) (.inr rfl) rfl rfl (lb rfl) fun a S => ?_
  refine leafL (leafT (hK15 _ _ ?_))
  refine sSeq (fun K18 hK18 => ?_)
  refine sRegion ?_
  refine sMove (iv r16.1) S (wN rfl) (.inl rfl) rfl rfl (lb rfl) fun a S => ?_
  refine sMove (iv r16.2) S (wN rfl) (.inl rfl) rfl rfl (lb rfl) fun a S => ?_
  refine sMax2 (p := r16.1) (q := r16.2) S (wN rfl) rfl rfl rfl rfl (lb rfl) fun a S => ?_
  refine sBin (.bool (decide (200 < (if r16.1 < r16.2 then r16.2 else r16.1)))) S (wN rfl) rfl rfl rfl (bGt _ _ _ _ .i64 (if r16.1 < r16.2 then r16.2 else r16.1) 200) rfl (lb rfl) fun a S => ?_
  refine leafL (leafT (hK18 _ _ ?_))
  rcases iteSome h with ⟨hc19, h⟩ | ⟨hc19, h⟩
  · refine sCondT S rfl hc19 ?_
    refine sSeq (fun K20 hK20 => ?_)
    refine sRegion ?_
    refine sMove (iv 4) S (wN rfl) (.inr rfl) rfl rfl (lb rfl) fun a S => ?_
    refine leafL (leafT (hK20 _ _ ?_))
    obtain rfl := Option.some.inj h
    exact wp_ret (rThen (sRet (iv 4) S (rsl1 rfl (rvT (t := 2) (v := iv 4) S rfl)) ⟨(), rfl, S.mem.sel [] [] (by decide) rfl rfl⟩))
  refine sCondF S rfl hc19 ?_
  refine wp_skip (leafT (hK14 _ _ ?_))
  refine sSeq (fun K21 hK21 => ?_)
  refine sRegion ?_
  refine sMove (iv 0) S (wN rfl) (.inr rfl) rfl rfl (lb rfl) fun a S => ?_
  refine leafL (leafT (hK21 _ _ ?_))
  obtain rfl := Option.some.inj h
  exact wp_ret (sRet (iv 0) S (rsl1 rfl (rvT (t := 2) (v := iv 0) S rfl)) ⟨(), rfl, S.mem.sel [] [] (by decide) rfl rfl⟩)

end Go.Proofs.YtoiehdlcfehmlaaDoor
namespace Go.Proofs.YtoiehdlcfehmlaaDoor
open Go.RowKit
set_option linter.unusedVariables false

noncomputable def F_slices_Backward___api_Stitch_api_Stitch_ (p0 : (List api_Stitch)) : Option (List api_Stitch) :=
  some p0
def c_slices_Backward___api_Stitch_api_Stitch__val (r : (List api_Stitch)) (x : Value) : Value := .func (.func 35) #[] #[x]
def c_slices_Backward___api_Stitch_api_Stitch__D (r : (List api_Stitch)) (x : Value) : List Fact := [fPtr (rL r_api_Stitch) x r]
set_option maxHeartbeats 4000000 in
set_option maxRecDepth 100000 in
theorem c_slices_Backward___api_Stitch_api_Stitch_ (E : Nat → Prop) (w0 : World) (p0 : (List api_Stitch)) (v0 : Value) (r : (List api_Stitch)) (h : F_slices_Backward___api_Stitch_api_Stitch_ p0 = some r) (S : St0 E [] w0 w0 [] [fRep (rL r_api_Stitch) (v0) p0]) :
    Calls Tryd.prog 27 #[v0] w0 (Ret (X := Value) E [] w0 (c_slices_Backward___api_Stitch_api_Stitch__val r) (fun _ => []) (c_slices_Backward___api_Stitch_api_Stitch__D r)) := by
  unfold F_slices_Backward___api_Stitch_api_Stitch_ at h
  obtain ⟨ad1, cp2, _, rfl, _⟩ := S.know (i := 0) (e := fRep (rL r_api_Stitch) (v0) p0) rfl
  refine sEnter (args := [.slice ad1 p0.length cp2]) 4 Tryd.func27 rfl rfl (by simp) S (fun a S => ?_)
  refine sSeq (fun K3 hK3 => ?_)
  refine sRegion ?_
  refine sBox (v := .slice ad1 p0.length cp2) S (wN rfl) rfl rfl [.slice ad1 p0.length cp2] rfl rfl (lb rfl) fun a b4 w S => ?_
  refine sMove (.nilFunc) S (wN rfl) (.inr rfl) rfl rfl (lb rfl) fun a S => ?_
  refine leafL (leafT (hK3 _ _ ?_))
  refine sSeq (fun K5 hK5 => ?_)
  refine sRegion ?_
  refine sFunc (g := 35) (vs := [.pointer (some ⟨b4, 0, none⟩)]) S (wN rfl) rfl rfl rfl (lb rfl) fun a S => ?_
  refine sMove (.func (.func 35) #[] #[.pointer (some ⟨b4, 0, none⟩)]) S (wN rfl) (.inr rfl) rfl rfl (lb rfl) fun a S => ?_
  refine leafL (leafT (hK5 _ _ ?_))
  have S := S.shutB (r := (rL r_api_Stitch)) (T := 39) (b := b4) (cs := [.slice ad1 p0.length cp2]) 0 (.slice ad1 p0.length cp2) p0 rfl rfl (S.mem.know (i := 0) (e := fRep (rL r_api_Stitch) (.slice ad1 p0.length cp2) p0) rfl)
  obtain rfl := Option.some.inj h
  exact wp_ret (sRet (.func (.func 35) #[] #[.pointer (some ⟨b4, 0, none⟩)]) S (rsl1 rfl (rvT (t := 2) (v := .func (.func 35) #[] #[.pointer (some ⟨b4, 0, none⟩)]) S rfl)) ⟨(.pointer (some ⟨b4, 0, none⟩)), rfl, S.mem.sel [] [0] (by decide) rfl rfl⟩)

end Go.Proofs.YtoiehdlcfehmlaaDoor
namespace Go.Proofs.YtoiehdlcfehmlaaDoor
open Go.RowKit
set_option linter.unusedVariables false

noncomputable def slices_Backward___api_Stitch_api_Stitch__1_l1 {σ τ : Type} (p0 : (List api_Stitch)) (B : σ → (Int × api_Stitch) → Option (σ ⊕ τ)) : (Int × σ) → Option ((Int × σ) ⊕ ((σ ⊕ τ) ⊕ (σ))) := fun s0 => match s0 with
  | (s5, gz6) =>
    if decide (0 ≤ s5) then
      Option.bind (idxO p0 s5) fun x20 =>
      Option.bind (B gz6 (s5, x20)) fun y25 =>
      match y25 with
      | .inl gz27 =>
        some (.inl (w64 (s5 - 1), gz27))
      | .inr tz28 =>
        some (.inr (.inl (.inr tz28)))
    else
      some (.inr (.inr gz6))
noncomputable def I_slices_Backward___api_Stitch_api_Stitch__1 (p0 : (List api_Stitch)) (σ τ : Type) (B : σ → (Int × api_Stitch) → Option (σ ⊕ τ)) (gz0 : σ) : Option (σ ⊕ τ) :=
  Option.bind (whileO (slices_Backward___api_Stitch_api_Stitch__1_l1 p0 B) (w64 ((p0.length : Int) - 1), gz0)) fun z0 => match z0 with
    | .inl z =>
      some z
    | .inr gz10 =>
      some (.inl gz10)
set_option maxHeartbeats 4000000 in
set_option maxRecDepth 100000 in
theorem it_slices_Backward___api_Stitch_api_Stitch__1 (p0 : (List api_Stitch)) (v0 : Value) : SeqF Tryd.prog 35 #[v0] (fA2 (rI .i64) r_api_Stitch) (I_slices_Backward___api_Stitch_api_Stitch__1 p0) [fPtr (rL r_api_Stitch) (v0) p0] := by
  refine seqF_of (lb := [v0]) (fun σ τ B gz0 r h l J Jx E w0 hC S hJ => ?_)
  unfold I_slices_Backward___api_Stitch_api_Stitch__1 at h
  refine sEnterI (args := [.func (.yield l) #[] #[], v0]) 19 Tryd.func35 rfl rfl (by simp) S (fun a S => ?_)
  refine sSeq (fun K1 hK1 => ?_)
  refine sRegion ?_
  obtain ⟨u2, S⟩ := pLoad (r := (rL r_api_Stitch)) (q := v0) (x := p0) 0 S rfl
  obtain ⟨ad3, cp4, _, rfl, _⟩ := S.mem.know (i := 1) (e := fRep (rL r_api_Stitch) (u2) p0) rfl
  refine sLoadV1 (vq := v0) 0 (.slice ad3 p0.length cp4) S (wN rfl) rfl rfl rfl rfl rfl (lb rfl) fun a S => ?_
  refine sLen (ad := ad3) (m := p0.length) (c := cp4) S (wN rfl) rfl Tryd.underlying39 rfl rfl (lb rfl) fun a S => ?_
  refine sBin (iv (w64 ((p0.length : Int) - 1))) S (wN rfl) rfl rfl rfl (bSub _ _ _ _ (p0.length : Int) 1) rfl (lb rfl) fun a S => ?_
  refine sMove (iv (w64 ((p0.length : Int) - 1))) S (wN rfl) (.inr rfl) rfl rfl (lb rfl) fun a S => ?_
  refine leafL (leafT (hK1 _ _ ?_))
  refine wp_block ?_
  obtain ⟨t9, hl, g8⟩ := bindSome h
  refine sLoop hl (fun s0 a w => match s0 with | (s5, gz6) => ∃ E w0, J gz6 E w0 ∧ St [] E [] w0 19 a w [(0, .func (.yield l) #[] #[]), (1, v0), (3, iv s5)] [] [fPtr (rL r_api_Stitch) (v0) p0]) ⟨_, _, hJ, S.fix [] [2] (by decide) rfl rfl rfl⟩ ?_
  clear hl h
  intro s0 a w c0 hI h hu7
  obtain ⟨s5, gz6⟩ := s0
  unfold slices_Backward___api_Stitch_api_Stitch__1_l1 at h
  dsimp only at h hI
  obtain ⟨E, w0, hJ, S⟩ := hI
  refine sSeq (fun K11 hK11 => ?_)
  refine sSeq (fun K12 hK12 => ?_)
  refine sRegion ?_
  refine sMove (iv s5) S (wN rfl) (.inl rfl) rfl rfl (lb rfl) fun a S => ?_
  refine sBin (.bool (decide (0 ≤ s5))) S (wN rfl) rfl rfl rfl (bGe _ _ _ _ .i64 s5 0) rfl (lb rfl) fun a S => ?_
  refine leafL (leafT (hK12 _ _ ?_))
  rcases iteSome h with ⟨hc13, h⟩ | ⟨hc13, h⟩
  rotate_left
  · refine sCondF S rfl hc13 ?_
    obtain rfl := Option.some.inj h
    obtain rfl := hu7 _ rfl
    have h := g8
    clear g8
    try dsimp only at h
    exact wp_exit (xThen (xThen (xHit (sEnd (.tuple #[]) S (res0 rfl) (sGoI S hC hJ (Option.some.inj h) _)))))
  refine sCondT S rfl hc13 ?_
  refine wp_skip (leafT (hK11 _ _ ?_))
  refine sSeq (fun K14 hK14 => ?_)
  refine wp_block ?_
  refine sSeq (fun K15 hK15 => ?_)
  refine sRegionY ?_
  refine sSplitR (by repeat (first | exact roundU_out | exact it_out | exact lo_false | refine lo_then ?_ | refine lo_block ?_)) 6 rfl (fun K16 hK16 => ?_)
  refine sMove (.func (.yield l) #[] #[]) S (wN rfl) (.inl rfl) rfl rfl (lb rfl) fun a S => ?_
  refine sMove (iv s5) S (wN rfl) (.inl rfl) rfl rfl (lb rfl) fun a S => ?_
  obtain ⟨u17, S⟩ := pLoad (r := (rL r_api_Stitch)) (q := v0) (x := p0) 0 S rfl
  obtain ⟨ad18, cp19, _, rfl, _⟩ := S.mem.know (i := 1) (e := fRep (rL r_api_Stitch) (u17) p0) rfl
  refine sLoadV1 (vq := v0) 0 (.slice ad18 p0.length cp19) S (wN rfl) rfl rfl rfl rfl rfl (lb rfl) fun a S => ?_
  refine sMove (iv s5) S (wN rfl) (.inl rfl) rfl rfl (lb rfl) fun a S => ?_
  obtain ⟨x20, hx21, h⟩ := bindSome h
  obtain ⟨q22, hq23, S⟩ := pIdx (P := Tryd.prog) (r := r_api_Stitch) (v := .slice ad18 p0.length cp19) (xs := p0) (j := s5) 39 38 1 S Tryd.underlying39 rfl rfl hx21
  refine sIdxV (v := .slice ad18 p0.length cp19) (k := .i64) (j := s5) S (wN rfl) rfl rfl rfl hq23 rfl (lb rfl) fun a S => ?_
  obtain ⟨u24, S⟩ := pLoad (r := r_api_Stitch) (q := q22) (x := x20) 0 S rfl
  obtain rfl : u24 = .agg #[.int .u8 x20.Kind, .bool x20.Purl, iv x20.A, iv x20.B] := S.mem.know (i := 1) (e := fRep r_api_Stitch (u24) x20) rfl
  refine sLoadVN (vq := q22) 0 [.int .u8 x20.Kind, .bool x20.Purl, iv x20.A, iv x20.B] S (wN rfl) rfl rfl rfl rfl rfl rfl (lb rfl) fun a S => ?_
  refine leafL ⟨rfl, hK16 _ _ ?_⟩
  obtain ⟨y25, hy26, h⟩ := bindSome h
  refine sYieldI (s5, x20) [iv s5, .agg #[.int .u8 x20.Kind, .bool x20.Purl, iv x20.A, iv x20.B]] S hC hJ hy26 (fA2_mk (rfl) (S.mem.know (i := 1) (e := fRep r_api_Stitch (.agg #[.int .u8 x20.Kind, .bool x20.Purl, iv x20.A, iv x20.B]) x20) rfl)) (wN rfl) rfl rfl rfl rfl (by decide) (fun gz27 E a w hb hJ S => ?_) (fun tz28 a w hb hJ S => ?_)
  · obtain rfl := hb
    dsimp only at h
    refine list_inR (by repeat (first | exact roundU_out | exact it_out | exact lo_false | refine lo_then ?_ | refine lo_block ?_)) _ rfl _ _ ?_
    refine sNot (b := true) S (wN rfl) rfl rfl rfl (lb rfl) fun a S => ?_
    refine leafL (leafT (hK15 _ _ ?_))
    refine sCondF S rfl rfl ?_
    refine wp_skip (leafB (leafT (hK14 _ _ ?_)))
    refine sRegion ?_
    refine sMove (iv s5) S (wN rfl) (.inl rfl) rfl rfl (lb rfl) fun a S => ?_
    refine sBin (iv (w64 (s5 - 1))) S (wN rfl) rfl rfl rfl (bSub _ _ _ _ s5 1) rfl (lb rfl) fun a S => ?_
    refine sMove (iv (w64 (s5 - 1))) S (wN rfl) (.inr rfl) rfl rfl (lb rfl) fun a S => ?_
    exact leafL (leafT (⟨(w64 (s5 - 1), gz27), (Option.some.inj h).symm, ⟨_, _, hJ, S.fix [] [5] (by decide) rfl rfl rfl⟩⟩))
  · obtain rfl := hb
    dsimp only at h
    refine list_inR (by repeat (first | exact roundU_out | exact it_out | exact lo_false | refine lo_then ?_ | refine lo_block ?_)) _ rfl _ _ ?_
    refine sNot (b := false) S (wN rfl) rfl rfl rfl (lb rfl) fun a S => ?_
    refine leafL (leafT (hK15 _ _ ?_))
    refine sCondT S rfl rfl ?_
    obtain rfl := Option.some.inj h
    obtain rfl := hu7 _ rfl
    have h := g8
    clear g8
    try dsimp only at h
    exact wp_ret (rBlock (rThen (rThen (rBlock (sRet (.tuple #[]) S (res0 rfl) (sStopI S hC hJ (Option.some.inj h) _))))))

end Go.Proofs.YtoiehdlcfehmlaaDoor
namespace Go.Proofs.YtoiehdlcfehmlaaDoor
open Go.RowKit
set_option linter.unusedVariables false

noncomputable def stitch_Turn_l1  : List api_Stitch → (Int × api_Stitch) → Option (List api_Stitch ⊕ Empty) := fun s0 x0 => match s0, x0 with
  | s21, (x24, x26) =>
    Option.bind (F_stitch_forms x26.Kind) fun r30 =>
    Option.bind (α := Bool) (
      if r30.1.sided then
        some (!x26.Purl)
      else
        some false) fun o34 =>
    Option.bind (α := (Int × Int)) (
      if decide (0 < r30.1.b.2) then
        some (x26.B, x26.A)
      else
        some (x26.A, x26.B)) fun (o38, o39) =>
    Option.bind (appO s21 [(api_Stitch.mk x26.Kind o34 o38 o39)]) fun l46 =>
    some (.inl l46)
noncomputable def stitch_Turn_l2  : List api_Stitch → (Int × api_Stitch) → Option (List api_Stitch ⊕ Empty) := fun s0 x0 => match s0, x0 with
  | s22, (x25, x27) =>
    Option.bind (F_stitch_forms x27.Kind) fun r31 =>
    Option.bind (α := Bool) (
      if r31.1.sided then
        some (!x27.Purl)
      else
        some false) fun o35 =>
    Option.bind (α := (Int × Int)) (
      if decide (0 < r31.1.b.2) then
        some (x27.B, x27.A)
      else
        some (x27.A, x27.B)) fun (o39, o40) =>
    Option.bind (appO s22 [(api_Stitch.mk x27.Kind o35 o39 o40)]) fun l47 =>
    some (.inl l47)
noncomputable def F_stitch_Turn (p0 : (List api_Stitch)) : Option ((List api_Stitch) × Int) :=
  Option.bind (F_stitch_All p0) fun r6 =>
  if r6 != 0 then
    some (([] : (List api_Stitch)), r6)
  else
    Option.bind (capO (p0.length : Int)) fun z14 =>
    Option.bind (F_slices_Backward___api_Stitch_api_Stitch_ p0) fun r19 =>
    Option.bind (I_slices_Backward___api_Stitch_api_Stitch__1 r19 _ _ (stitch_Turn_l2) ([] : List api_Stitch)) fun z0 => match z0 with
      | .inl s22 =>
        some (s22, 0)
      | .inr z0 =>
        nomatch z0
def c_stitch_Turn_val (r : ((List api_Stitch) × Int)) (x : Value) : Value := .tuple #[x, .int .i64 r.2]
def c_stitch_Turn_D (r : ((List api_Stitch) × Int)) (x : Value) : List Fact := [fRep (rL r_api_Stitch) x r.1]
set_option maxHeartbeats 4000000 in
set_option maxRecDepth 100000 in
theorem c_stitch_Turn (E : Nat → Prop) (w0 : World) (p0 : (List api_Stitch)) (v0 : Value) (r : ((List api_Stitch) × Int)) (h : F_stitch_Turn p0 = some r) (S : St0 E [] w0 w0 [] [fRep (rL r_api_Stitch) (v0) p0]) :
    Calls Tryd.prog 22 #[v0] w0 (Ret (X := Value) E [] w0 (c_stitch_Turn_val r) (fun _ => []) (c_stitch_Turn_D r)) := by
  unfold F_stitch_Turn at h
  obtain ⟨ad1, cp2, _, rfl, _⟩ := S.know (i := 0) (e := fRep (rL r_api_Stitch) (v0) p0) rfl
  refine sEnterM (args := [.slice ad1 p0.length cp2]) 51 Tryd.func22 rfl rfl (by simp) S (fun a S => ?_)
  refine sSeq (fun K3 hK3 => ?_)
  refine sRegion ?_
  refine sMove (.slice none 0 0) S (wN rfl) (.inr rfl) rfl rfl (lb rfl) fun a S => ?_
  refine sMove (iv 0) S (wN rfl) (.inr rfl) rfl rfl (lb rfl) fun a S => ?_
  refine leafL (leafT (hK3 _ _ ?_))
  refine sSeq (fun K4 hK4 => ?_)
  refine sSeq (fun K5 hK5 => ?_)
  refine sRegion ?_
  refine sMove (.slice ad1 p0.length cp2) S (wN rfl) (.inl rfl) rfl rfl (lb rfl) fun a S => ?_
  obtain ⟨r6, hx7, h⟩ := bindSome h
  have S1 := S.mem
  refine sCallQ (X := Unit) (f := 25) (vs := [.slice ad1 p0.length cp2]) (val := fun _ => iv r6) S (wN rfl) rfl callee25 rfl (S1.quiet [0] rfl) (fun E1 w1 S1 => c_stitch_All E1 w1 p0 (.slice ad1 p0.length cp2) r6 hx7 S1) rfl (lb rfl) fun _ a w S => ?_
  refine sMove (iv r6) S (wN rfl) (.inr rfl) rfl rfl (lb rfl) fun a S => ?_
  refine leafL (leafT (hK5 _ _ ?_))
  refine sSeq (fun K8 hK8 => ?_)
  refine sRegion ?_
  refine sMove (iv r6) S (wN rfl) (.inl rfl) rfl rfl (lb rfl) fun a S => ?_
  refine sBin (.bool (r6 != 0)) S (wN rfl) rfl rfl rfl (bNe _ _ _ _ .i64 r6 0) rfl (lb rfl) fun a S => ?_
  refine leafL (leafT (hK8 _ _ ?_))
  rcases iteSome h with ⟨hc9, h⟩ | ⟨hc9, h⟩
  · refine sCondT S rfl hc9 ?_
    refine sSeq (fun K10 hK10 => ?_)
    refine sRegion ?_
    refine sMove (iv r6) S (wN rfl) (.inl rfl) rfl rfl (lb rfl) fun a S => ?_
    refine sMove (.slice none 0 0) S (wN rfl) (.inr rfl) rfl rfl (lb rfl) fun a S => ?_
    refine sMove (iv r6) S (wN rfl) (.inr rfl) rfl rfl (lb rfl) fun a S => ?_
    refine leafL (leafT (hK10 _ _ ?_))
    obtain rfl := Option.some.inj h
    have S := S.learn (fRep (rL r_api_Stitch) (.slice none 0 0) ([] : (List api_Stitch))) (rL_nil _ _ _)
    exact wp_ret (rThen (sRetM0 (.tuple #[.slice none 0 0, iv r6]) S (rsl2 rfl (rvT (t := 2) (v := .slice none 0 0) S rfl) (rvT (t := 3) (v := iv r6) S rfl)) ⟨(.slice none 0 0), rfl, S.mem.sel [] [0] (by decide) rfl rfl⟩))
  refine sCondF S rfl hc9 ?_
  refine wp_skip (leafT (hK4 _ _ ?_))
  refine sSeq (fun K11 hK11 => ?_)
  refine sRegion ?_
  refine sMove (.slice ad1 p0.length cp2) S (wN rfl) (.inl rfl) rfl rfl (lb rfl) fun a S => ?_
  refine sLen (ad := ad1) (m := p0.length) (c := cp2) S (wN rfl) rfl Tryd.underlying39 rfl rfl (lb rfl) fun a S => ?_
  obtain ⟨z14, hx15, h⟩ := bindSome h
  refine sMake0 r_api_Stitch (m := (p0.length : Int)) (u := z14) (.agg #[.int .u8 0, .bool false, iv 0, iv 0]) 24 S (wN rfl) rfl Tryd.underlying39 rfl (by decide) rfl rfl hx15 rfl (lb rfl) fun a w ad12 cp13 S => ?_
  refine sAlloc (.slice none 0 0) S (wN rfl) rfl rfl [.slice none 0 0] rfl rfl (lb rfl) fun a b16 w S => ?_
  refine sStore (p := b16) (off := 0) (T := 39) (vs := [.slice none 0 0]) (v := .slice ad12 ([] : List api_Stitch).length cp13) 0 [.slice ad12 ([] : List api_Stitch).length cp13] S (wN rfl) rfl rfl rfl rfl rfl rfl rfl (by simp) rfl fun a w S => ?_
  refine leafL (leafT (hK11 _ _ ?_))
  refine sSeq (fun K17 hK17 => ?_)
  refine sSeq (fun K18 hK18 => ?_)
  refine sRegion ?_
  refine sMove (.slice ad1 p0.length cp2) S (wN rfl) (.inl rfl) rfl rfl (lb rfl) fun a S => ?_
  obtain ⟨r19, hx20, h⟩ := bindSome h
  refine sCall (X := Value) (f := 27) (vs := [.slice ad1 p0.length cp2]) (val := c_slices_Backward___api_Stitch_api_Stitch__val r19) (B' := fun _ => []) (D' := c_slices_Backward___api_Stitch_api_Stitch__D r19) [] [eBox b16 39 [.slice ad12 ([] : List api_Stitch).length cp13], eRow r_api_Stitch 38 (.slice ad12 ([] : List api_Stitch).length cp13) ([] : List api_Stitch)] [fRep (rL r_api_Stitch) (.slice ad1 p0.length cp2) p0] [0, 1] [0] S (wN rfl) rfl callee27 rfl (by decide) rfl rfl (fun E1 w1 S1 => c_slices_Backward___api_Stitch_api_Stitch_ E1 w1 p0 (.slice ad1 p0.length cp2) r19 hx20 S1) rfl (lb rfl) fun u21 a w S => ?_
  refine leafL (leafT (hK18 _ _ ?_))
  refine wp_block ?_
  obtain ⟨t53, hl54, g52⟩ := bindSome h
  replace S : St [] E [] w0 51 a w [(5, .pointer (some ⟨b16, 0, none⟩)), (19, .func (.func 35) #[] #[u21])] [eBox b16 39 [.slice ad12 ([] : List api_Stitch).length cp13], eRow r_api_Stitch 38 (.slice ad12 ([] : List api_Stitch).length cp13) ([] : List api_Stitch)] [fPtr (rL r_api_Stitch) (u21) r19] := S.fix [0, 1] [0] (by decide) rfl rfl rfl
  refine sRange2 (B := stitch_Turn_l2) (fun s0 L D => match s0 with | s22 => ∃ ad23, ∃ cp24, L = [eBox b16 39 [.slice ad23 s22.length cp24], eRow r_api_Stitch 38 (.slice ad23 s22.length cp24) s22] ∧ D = [fPtr (rL r_api_Stitch) (u21) r19]) (fun _ _ _ _ => False) [0] S hl54 rfl callee35 (it_slices_Backward___api_Stitch_api_Stitch__1 r19 u21) rfl (by decide) (by decide) ⟨ad12, cp13, rfl, rfl⟩ ?_ ?_ ?_
  · intro E l0 s22 x25 x27 u26 u28 b L D K a w0 hK hIL hB S
    clear hl54 g52 h hK
    unfold stitch_Turn_l2 at hB
    dsimp only at hB hIL
    obtain ⟨ad23, cp24, rfl, rfl⟩ := hIL
    have h := hB
    clear hB
    obtain rfl : u26 = iv x25 := S.mem.know (i := 0) (e := fRep (rI .i64) (u26) x25) rfl
    obtain rfl : u28 = .agg #[.int .u8 x27.Kind, .bool x27.Purl, iv x27.A, iv x27.B] := S.mem.know (i := 1) (e := fRep r_api_Stitch (u28) x27) rfl
    refine sRegionR (by repeat (first | exact roundU_out | exact it_out | exact lo_false | refine lo_then ?_ | refine lo_block ?_)) rfl ?_
    refine sAlloc (.agg #[.int .u8 0, .bool false, iv 0, iv 0]) S (wN rfl) rfl rfl [.int .u8 0, .bool false, iv 0, iv 0] rfl rfl (lb rfl) fun a b29 w S => ?_
    refine sStore (p := b29) (off := 0) (T := 38) (vs := [.int .u8 0, .bool false, iv 0, iv 0]) (v := .agg #[.int .u8 x27.Kind, .bool x27.Purl, iv x27.A, iv x27.B]) 0 [.int .u8 x27.Kind, .bool x27.Purl, iv x27.A, iv x27.B] S (wN rfl) rfl rfl rfl rfl rfl rfl rfl (by simp) rfl fun a w S => ?_
    refine leafL (leafT (⟨_, _, _, S, fun K a w0 hK S => ?_⟩))
    refine wpIn_block ?_
    refine sSeqR (fun K30 hK30 => ?_)
    refine sRegionR (by repeat (first | exact roundU_out | exact it_out | exact lo_false | refine lo_then ?_ | refine lo_block ?_)) rfl ?_
    refine sField (b := b29) (off := 0) 0 0 S (wN rfl) rfl rfl rfl rfl rfl (lb rfl) fun a S => ?_
    refine sLoad1 (p := b29) (off := 0) (T := 38) (vs := [.int .u8 x27.Kind, .bool x27.Purl, iv x27.A, iv x27.B]) 0 (.int .u8 x27.Kind) S (wN rfl) rfl rfl rfl rfl rfl rfl (lb rfl) fun a S => ?_
    obtain ⟨r31, hx32, h⟩ := bindSome h
    refine sCall (X := Value) (f := 28) (vs := [.int .u8 x27.Kind]) (val := c_stitch_forms_val r31) (B' := fun _ => []) (D' := c_stitch_forms_D r31) [] [eBox b29 38 [.int .u8 x27.Kind, .bool x27.Purl, iv x27.A, iv x27.B], eBox b16 39 [.slice ad23 s22.length cp24], eRow r_api_Stitch 38 (.slice ad23 s22.length cp24) s22] [] [0, 1, 2] [] S (wN rfl) rfl callee28 rfl (by decide) rfl rfl (fun E1 w1 S1 => c_stitch_forms E1 w1 x27.Kind r31 hx32 S1) rfl (lb rfl) fun u33 a w S => ?_
    obtain rfl : u33 = gv_stitch_form r31.1 := S.mem.know (i := 0) (e := fRep r_stitch_form (u33) r31.1) rfl
    refine sMove (.tuple #[gv_stitch_form r31.1, .bool r31.2]) S (wN rfl) (.inl rfl) rfl rfl (lb rfl) fun a S => ?_
    refine sExtract (vs := [gv_stitch_form r31.1, .bool r31.2]) (gv_stitch_form r31.1) S (wN rfl) rfl rfl rfl rfl (lb rfl) fun a S => ?_
    refine sExtract (vs := [gv_stitch_form r31.1, .bool r31.2]) (.bool r31.2) S (wN rfl) rfl rfl rfl rfl (lb rfl) fun a S => ?_
    refine sAlloc (gv_stitch_form (stitch_form.mk (⟨#[]⟩ : ByteArray) (0, 0) (0, 0) false 0 0)) S (wN rfl) rfl rfl (gl_stitch_form (stitch_form.mk (⟨#[]⟩ : ByteArray) (0, 0) (0, 0) false 0 0)) rfl rfl (lb rfl) fun a b34 w S => ?_
    refine sStore (p := b34) (off := 0) (T := 67) (vs := [.string (⟨#[]⟩ : ByteArray), iv 0, iv 0, iv 0, iv 0, .bool false, iv 0, iv 0]) (v := gv_stitch_form r31.1) 0 [.string r31.1.letter, iv r31.1.a.1, iv r31.1.a.2, iv r31.1.b.1, iv r31.1.b.2, .bool r31.1.sided, iv r31.1.uses, iv r31.1.made] S (wN rfl) rfl rfl rfl rfl rfl rfl rfl (by simp) rfl fun a w S => ?_
    refine sMove (.bool r31.2) S (wN rfl) (.inr rfl) rfl rfl (lb rfl) fun a S => ?_
    refine leafL (leafT (hK30 _ _ ?_))
    obtain ⟨t36, h, g37⟩ := bindSome h
    refine sCutR (fun a w => ∃ o35, o35 = t36 ∧ St [] E K w0 51 a w [(5, .pointer (some ⟨b16, 0, none⟩)), (7, .pointer (some ⟨b29, 0, none⟩)), (8, .pointer (some ⟨b34, 0, none⟩)), (19, .func (.func 35) #[] #[u21]), (21, .agg #[.int .u8 x27.Kind, .bool x27.Purl, iv x27.A, iv x27.B])] [eBox b16 39 [.slice ad23 s22.length cp24], eBox b29 38 [.int .u8 x27.Kind, .bool o35, iv x27.A, iv x27.B], eBox b34 67 (gl_stitch_form r31.1), eRow r_api_Stitch 38 (.slice ad23 s22.length cp24) s22] [fPtr (rL r_api_Stitch) (u21) r19]) ?_ (fun a w hI => ?_)
    · refine sRegionR (by repeat (first | exact roundU_out | exact it_out | exact lo_false | refine lo_then ?_ | refine lo_block ?_)) rfl ?_
      refine sField (b := b34) (off := 0) 5 5 S (wN rfl) rfl rfl rfl rfl rfl (lb rfl) fun a S => ?_
      refine sLoad1 (p := b34) (off := 5) (T := 67) (vs := (gl_stitch_form r31.1)) 0 (.bool r31.1.sided) S (wN rfl) rfl rfl rfl rfl rfl rfl (lb rfl) fun a S => ?_
      refine sMove (.bool r31.1.sided) S (wN rfl) (.inl rfl) rfl rfl (lb rfl) fun a S => ?_
      rcases iteSome h with ⟨hc38, h⟩ | ⟨hc38, h⟩
      rotate_left
      · refine sSkip 2 true 30 31 S rfl rfl rfl hc38 rfl (lb rfl) fun a S => ?_
        refine sSkip 2 true 30 32 S rfl rfl rfl hc38 rfl (lb rfl) fun a S => ?_
        refine sSkip 2 true 30 33 S rfl rfl rfl hc38 rfl (lb rfl) fun a S => ?_
        refine sPickF (.bool false) S (wN rfl) rfl rfl hc38 rfl rfl (lb rfl) fun a S => ?_
        refine sField (b := b29) (off := 0) 1 1 S (wN rfl) rfl rfl rfl rfl rfl (lb rfl) fun a S => ?_
        refine sStore (p := b29) (off := 1) (T := 38) (vs := [.int .u8 x27.Kind, .bool x27.Purl, iv x27.A, iv x27.B]) (v := .bool false) 1 [.bool false] S (wN rfl) rfl rfl rfl rfl rfl rfl rfl (by simp) rfl fun a w S => ?_
        exact leafL (leafT (⟨false, Option.some.inj h, S.fix [2, 0, 1, 3] [3] (by decide) rfl rfl rfl⟩))
      refine sField (b := b29) (off := 0) 1 1 S (wG 2 true 30 rfl rfl rfl hc38) rfl rfl rfl rfl rfl (lb rfl) fun a S => ?_
      refine sLoad1 (p := b29) (off := 1) (T := 38) (vs := [.int .u8 x27.Kind, .bool x27.Purl, iv x27.A, iv x27.B]) 1 (.bool x27.Purl) S (wG 2 true 30 rfl rfl rfl hc38) rfl rfl rfl rfl rfl rfl (lb rfl) fun a S => ?_
      refine sNot (b := x27.Purl) S (wG 2 true 30 rfl rfl rfl hc38) rfl rfl rfl (lb rfl) fun a S => ?_
      refine sPickT (.bool (!x27.Purl)) S (wN rfl) rfl rfl hc38 rfl rfl (lb rfl) fun a S => ?_
      refine sField (b := b29) (off := 0) 1 1 S (wN rfl) rfl rfl rfl rfl rfl (lb rfl) fun a S => ?_
      refine sStore (p := b29) (off := 1) (T := 38) (vs := [.int .u8 x27.Kind, .bool x27.Purl, iv x27.A, iv x27.B]) (v := .bool (!x27.Purl)) 1 [.bool (!x27.Purl)] S (wN rfl) rfl rfl rfl rfl rfl rfl rfl (by simp) rfl fun a w S => ?_
      exact leafL (leafT (⟨!x27.Purl, Option.some.inj h, S.fix [2, 0, 1, 3] [3] (by decide) rfl rfl rfl⟩))
    obtain ⟨o35, rfl, S⟩ := hI
    have h := g37
    clear g37
    try dsimp only at h
    obtain ⟨t41, h, g42⟩ := bindSome h
    refine sCutR (fun a w => ∃ o39, ∃ o40, (o39, o40) = t41 ∧ St [] E K w0 51 a w [(5, .pointer (some ⟨b16, 0, none⟩)), (7, .pointer (some ⟨b29, 0, none⟩)), (19, .func (.func 35) #[] #[u21]), (21, .agg #[.int .u8 x27.Kind, .bool x27.Purl, iv x27.A, iv x27.B])] [eBox b16 39 [.slice ad23 s22.length cp24], eBox b29 38 [.int .u8 x27.Kind, .bool o35, iv o39, iv o40], eRow r_api_Stitch 38 (.slice ad23 s22.length cp24) s22] [fPtr (rL r_api_Stitch) (u21) r19]) ?_ (fun a w hI => ?_)
    rotate_left
    · obtain ⟨o39, o40, rfl, S⟩ := hI
      have h := g42
      clear g42
      try dsimp only at h
      refine sRegionR (by repeat (first | exact roundU_out | exact it_out | exact lo_false | refine lo_then ?_ | refine lo_block ?_)) rfl ?_
      refine sLoad1 (p := b16) (off := 0) (T := 39) (vs := [.slice ad23 s22.length cp24]) 0 (.slice ad23 s22.length cp24) S (wN rfl) rfl rfl rfl rfl rfl rfl (lb rfl) fun a S => ?_
      refine sLoadN (p := b29) (off := 0) (T := 38) (vs := [.int .u8 x27.Kind, .bool o35, iv o39, iv o40]) 1 [.int .u8 x27.Kind, .bool o35, iv o39, iv o40] S (wN rfl) rfl rfl rfl rfl rfl rfl rfl (lb rfl) fun a S => ?_
      have S := S.learn (fRep r_api_Stitch (.agg #[.int .u8 x27.Kind, .bool o35, iv o39, iv o40]) (api_Stitch.mk x27.Kind o35 o39 o40)) rfl
      refine sLit (r := r_api_Stitch) (T := 38) (xs := [(api_Stitch.mk x27.Kind o35 o39 o40)]) [(0, .agg #[.int .u8 x27.Kind, .bool o35, iv o39, iv o40])] 1 [.agg #[.int .u8 x27.Kind, .bool o35, iv o39, iv o40]] [.int .u8 x27.Kind, .bool o35, iv o39, iv o40] (.agg #[.int .u8 0, .bool false, iv 0, iv 0]) 24 S (wN rfl) rfl rfl Tryd.underlying39 rfl (by decide) (by decide) (by kernel_rfl) rfl (fun E1 w1 hE => All.cons (r_api_Stitch.mono hE (S.mem.know (i := 0) (e := fRep r_api_Stitch (.agg #[.int .u8 x27.Kind, .bool o35, iv o39, iv o40]) (api_Stitch.mk x27.Kind o35 o39 o40)) rfl)) (All.nil _ _ _)) rfl rfl (lb rfl) fun a w ad45 cp46 S => ?_
      obtain ⟨l47, hx48, h⟩ := bindSome h
      refine sApp (r := r_api_Stitch) (T := 38) (xs := s22) (ys := [(api_Stitch.mk x27.Kind o35 o39 o40)]) (v := .slice ad23 s22.length cp24) (u := .slice ad45 [(api_Stitch.mk x27.Kind o35 o39 o40)].length cp46) 3 (.agg #[.int .u8 0, .bool false, iv 0, iv 0]) 24 S (wN rfl) rfl Tryd.underlying39 rfl rfl (by decide) rfl rfl rfl (src_R (T := 38) 0 S.mem rfl) hx48 rfl (lb rfl) fun a w ad49 cp50 S => ?_
      refine sStore (p := b16) (off := 0) (T := 39) (vs := [.slice ad23 s22.length cp24]) (v := .slice ad49 l47.length cp50) 2 [.slice ad49 l47.length cp50] S (wN rfl) rfl rfl rfl rfl rfl rfl rfl (by simp) rfl fun a w S => ?_
      exact leafL (leafB (rnN l47 _ _ [] (Option.some.inj h) ⟨ad49, cp50, rfl, rfl⟩ (S.fix [0, 1] [1] (by decide) rfl rfl rfl)))
    refine sSeqR (fun K43 hK43 => ?_)
    refine sRegionR (by repeat (first | exact roundU_out | exact it_out | exact lo_false | refine lo_then ?_ | refine lo_block ?_)) rfl ?_
    refine sField (b := b34) (off := 0) 3 3 S (wN rfl) rfl rfl rfl rfl rfl (lb rfl) fun a S => ?_
    refine sIdxV (v := .pointer (some ⟨b34, 3, none⟩)) (k := .i64) (j := 1) (q := .pointer (some ⟨b34, 4, none⟩)) S (wN rfl) rfl rfl rfl (idxV_arr (m := 2) (sz := 1) Tryd.underlying65 rfl (by decide) (by decide) 3) rfl (lb rfl) fun a S => ?_
    refine sLoad1 (p := b34) (off := 4) (T := 67) (vs := (gl_stitch_form r31.1)) 2 (iv r31.1.b.2) S (wN rfl) rfl rfl rfl rfl rfl rfl (lb rfl) fun a S => ?_
    refine sBin (.bool (decide (0 < r31.1.b.2))) S (wN rfl) rfl rfl rfl (bGt _ _ _ _ .i64 r31.1.b.2 0) rfl (lb rfl) fun a S => ?_
    refine leafL (leafT (hK43 _ _ ?_))
    rcases iteSome h with ⟨hc44, h⟩ | ⟨hc44, h⟩
    rotate_left
    · refine sCondFR S rfl hc44 ?_
      exact wpIn_skip (leafT (⟨x27.A, x27.B, Option.some.inj h, S.fix [0, 1, 3] [0] (by decide) rfl rfl rfl⟩))
    refine sCondTR S rfl hc44 ?_
    refine sRegionR (by repeat (first | exact roundU_out | exact it_out | exact lo_false | refine lo_then ?_ | refine lo_block ?_)) rfl ?_
    refine sField (b := b29) (off := 0) 3 3 S (wN rfl) rfl rfl rfl rfl rfl (lb rfl) fun a S => ?_
    refine sLoad1 (p := b29) (off := 3) (T := 38) (vs := [.int .u8 x27.Kind, .bool o35, iv x27.A, iv x27.B]) 1 (iv x27.B) S (wN rfl) rfl rfl rfl rfl rfl rfl (lb rfl) fun a S => ?_
    refine sField (b := b29) (off := 0) 2 2 S (wN rfl) rfl rfl rfl rfl rfl (lb rfl) fun a S => ?_
    refine sLoad1 (p := b29) (off := 2) (T := 38) (vs := [.int .u8 x27.Kind, .bool o35, iv x27.A, iv x27.B]) 1 (iv x27.A) S (wN rfl) rfl rfl rfl rfl rfl rfl (lb rfl) fun a S => ?_
    refine sField (b := b29) (off := 0) 2 2 S (wN rfl) rfl rfl rfl rfl rfl (lb rfl) fun a S => ?_
    refine sStore (p := b29) (off := 2) (T := 38) (vs := [.int .u8 x27.Kind, .bool o35, iv x27.A, iv x27.B]) (v := iv x27.B) 1 [iv x27.B] S (wN rfl) rfl rfl rfl rfl rfl rfl rfl (by simp) rfl fun a w S => ?_
    refine sField (b := b29) (off := 0) 3 3 S (wN rfl) rfl rfl rfl rfl rfl (lb rfl) fun a S => ?_
    refine sStore (p := b29) (off := 3) (T := 38) (vs := [.int .u8 x27.Kind, .bool o35, iv x27.B, iv x27.B]) (v := iv x27.A) 0 [iv x27.A] S (wN rfl) rfl rfl rfl rfl rfl rfl rfl (by simp) rfl fun a w S => ?_
    exact leafL (leafT (⟨x27.B, x27.A, Option.some.inj h, S.fix [1, 0, 3] [0] (by decide) rfl rfl rfl⟩))
  · intro dk51 s22 L D a w hr hIL S
    clear h
    obtain rfl := hr
    dsimp only at g52 hIL
    obtain ⟨ad23, cp24, rfl, rfl⟩ := hIL
    have h := g52
    clear g52 hl54
    replace S : St [mark dk51] E [] w0 51 a w [(5, .pointer (some ⟨b16, 0, none⟩)), (19, .func (.func 35) #[] #[u21])] [eBox b16 39 [.slice ad23 s22.length cp24], eRow r_api_Stitch 38 (.slice ad23 s22.length cp24) s22, eDef dk51] [fPtr (rL r_api_Stitch) (u21) r19] := S
    refine leafB (leafT (hK17 _ _ ?_))
    refine sSeq (fun K55 hK55 => ?_)
    refine sRegion ?_
    refine sLoad1 (p := b16) (off := 0) (T := 39) (vs := [.slice ad23 s22.length cp24]) 0 (.slice ad23 s22.length cp24) S (wN rfl) rfl rfl rfl rfl rfl rfl (lb rfl) fun a S => ?_
    refine sMove (.slice ad23 s22.length cp24) S (wN rfl) (.inr rfl) rfl rfl (lb rfl) fun a S => ?_
    refine sMove (iv 0) S (wN rfl) (.inr rfl) rfl rfl (lb rfl) fun a S => ?_
    refine leafL (leafT (hK55 _ _ ?_))
    refine wp_ret (sRetM1 2 S rfl (fun a w S => ?_))
    obtain rfl := Option.some.inj h
    have S := S.shutR (r := r_api_Stitch) (T := 38) (v := .slice ad23 s22.length cp24) (xs := s22) 1 rfl
    exact sFin (.tuple #[.slice ad23 s22.length cp24, iv 0]) S (rsl2 rfl (rvT (t := 2) (v := .slice ad23 s22.length cp24) S rfl) (rvT (t := 3) (v := iv 0) S rfl)) ⟨(.slice ad23 s22.length cp24), rfl, S.mem.sel [] [0] (by decide) rfl rfl⟩
  · intro dk51 c0 t0 L D a w hr hIX S
    clear h
    exact hIX.elim

end Go.Proofs.YtoiehdlcfehmlaaDoor
namespace Go.Proofs.YtoiehdlcfehmlaaDoor
open Go.RowKit
set_option linter.unusedVariables false

noncomputable def short_Chart_l1 (p1 : (List Int)) (p0 : Int) : (Int × List api_Row) → Option ((Int × List api_Row) ⊕ List api_Row) := fun s0 => match s0 with
  | (s20, s21) =>
    if decide (s20 < (p1.length : Int)) then
      Option.bind (idxO p1 s20) fun x35 =>
      Option.bind (F_short_several 1 x35) fun r41 =>
      Option.bind (F_short_several 8 (w64 (p0 - x35))) fun r46 =>
      Option.bind (F_short_joined [r41, r46]) fun r53 =>
      Option.bind (F_stitch_Turn r53) fun r59 =>
      Option.bind (appO s21 [(api_Row.mk false r53), (api_Row.mk true r59.1)]) fun l66 =>
      some (.inl (w64 (s20 + 1), l66))
    else
      some (.inr s21)
noncomputable def F_short_Chart (p0 : Int) (p1 : (List Int)) : Option (api_Chart × Int) :=
  Option.bind (F_short_check p0 p1) fun r7 =>
  if r7 != 0 then
    some ((api_Chart.mk 0 ([] : (List api_Row))), r7)
  else
    Option.bind (α := List api_Row) (
      Option.bind (whileO (short_Chart_l1 p1 p0) (0, ([] : List api_Row))) fun e27 =>
        some e27) fun o14 =>
    some ((api_Chart.mk p0 o14), 0)
def c_short_Chart_val (r : (api_Chart × Int)) (x : Value) : Value := .tuple #[x, .int .i64 r.2]
def c_short_Chart_D (r : (api_Chart × Int)) (x : Value) : List Fact := [fRep r_api_Chart x r.1]
set_option maxHeartbeats 4000000 in
set_option maxRecDepth 100000 in
theorem c_short_Chart (E : Nat → Prop) (w0 : World) (p0 : Int) (p1 : (List Int)) (v1 : Value) (r : (api_Chart × Int)) (h : F_short_Chart p0 p1 = some r) (S : St0 E [] w0 w0 [] [fRep (rL (rI .i64)) (v1) p1]) :
    Calls Tryd.prog 12 #[iv p0, v1] w0 (Ret (X := Value) E [] w0 (c_short_Chart_val r) (fun _ => []) (c_short_Chart_D r)) := by
  unfold F_short_Chart at h
  obtain ⟨ad1, cp2, _, rfl, _⟩ := S.know (i := 0) (e := fRep (rL (rI .i64)) (v1) p1) rfl
  refine sEnter (args := [iv p0, .slice ad1 p1.length cp2]) 52 Tryd.func12 rfl rfl (by simp) S (fun a S => ?_)
  refine sSeq (fun K3 hK3 => ?_)
  refine sRegion ?_
  refine sAlloc (.agg #[iv 0, .slice none 0 0]) S (wN rfl) rfl rfl [iv 0, .slice none 0 0] rfl rfl (lb rfl) fun a b4 w S => ?_
  refine sMove (iv 0) S (wN rfl) (.inr rfl) rfl rfl (lb rfl) fun a S => ?_
  refine leafL (leafT (hK3 _ _ ?_))
  refine sSeq (fun K5 hK5 => ?_)
  refine sSeq (fun K6 hK6 => ?_)
  refine sRegion ?_
  refine sMove (iv p0) S (wN rfl) (.inl rfl) rfl rfl (lb rfl) fun a S => ?_
  refine sMove (.slice ad1 p1.length cp2) S (wN rfl) (.inl rfl) rfl rfl (lb rfl) fun a S => ?_
  obtain ⟨r7, hx8, h⟩ := bindSome h
  have S1 := S.mem
  refine sCallQ (X := Unit) (f := 19) (vs := [iv p0, .slice ad1 p1.length cp2]) (val := fun _ => iv r7) S (wN rfl) rfl callee19 rfl (S1.quiet [0] rfl) (fun E1 w1 S1 => c_short_check E1 w1 p0 p1 (.slice ad1 p1.length cp2) r7 hx8 S1) rfl (lb rfl) fun _ a w S => ?_
  refine sMove (iv r7) S (wN rfl) (.inr rfl) rfl rfl (lb rfl) fun a S => ?_
  refine leafL (leafT (hK6 _ _ ?_))
  refine sSeq (fun K9 hK9 => ?_)
  refine sRegion ?_
  refine sMove (iv r7) S (wN rfl) (.inl rfl) rfl rfl (lb rfl) fun a S => ?_
  refine sBin (.bool (r7 != 0)) S (wN rfl) rfl rfl rfl (bNe _ _ _ _ .i64 r7 0) rfl (lb rfl) fun a S => ?_
  refine leafL (leafT (hK9 _ _ ?_))
  rcases iteSome h with ⟨hc10, h⟩ | ⟨hc10, h⟩
  · refine sCondT S rfl hc10 ?_
    refine sSeq (fun K11 hK11 => ?_)
    refine sRegion ?_
    refine sBuild [] [iv 0, .slice none 0 0] S (wN rfl) rfl rfl rfl rfl (lb rfl) fun a S => ?_
    refine sMove (iv r7) S (wN rfl) (.inl rfl) rfl rfl (lb rfl) fun a S => ?_
    refine sStore (p := b4) (off := 0) (T := 32) (vs := [iv 0, .slice none 0 0]) (v := .agg #[iv 0, .slice none 0 0]) 0 [iv 0, .slice none 0 0] S (wN rfl) rfl rfl rfl rfl rfl rfl rfl (by simp) rfl fun a w S => ?_
    refine sMove (iv r7) S (wN rfl) (.inr rfl) rfl rfl (lb rfl) fun a S => ?_
    refine leafL (leafT (hK11 _ _ ?_))
    obtain rfl := Option.some.inj h
    have S := S.learn (fRep (rL r_api_Row) (.slice none 0 0) ([] : (List api_Row))) (rL_nil _ _ _)
    have S := S.learn (fRep r_api_Chart (.agg #[iv 0, .slice none 0 0]) (api_Chart.mk 0 ([] : (List api_Row)))) ⟨_, rfl, S.mem.know (i := 0) (e := fRep (rL r_api_Row) (.slice none 0 0) ([] : (List api_Row))) rfl⟩
    exact wp_ret (rThen (sRet (.tuple #[.agg #[iv 0, .slice none 0 0], iv r7]) S (rsl2 rfl (rvN (c := 4) (t := 32) (T := 32) (p := b4) 0 [iv 0, .slice none 0 0] S rfl rfl rfl rfl) (rvT (t := 5) (v := iv r7) S rfl)) ⟨(.agg #[iv 0, .slice none 0 0]), rfl, S.mem.sel [] [0] (by decide) rfl rfl⟩))
  refine sCondF S rfl hc10 ?_
  refine wp_skip (leafT (hK5 _ _ ?_))
  refine sSeq (fun K12 hK12 => ?_)
  refine sRegion ?_
  refine sMove (iv p0) S (wN rfl) (.inl rfl) rfl rfl (lb rfl) fun a S => ?_
  refine sBuild [(0, iv p0)] [iv p0, .slice none 0 0] S (wN rfl) rfl rfl rfl rfl (lb rfl) fun a S => ?_
  refine sAlloc (.agg #[iv 0, .slice none 0 0]) S (wN rfl) rfl rfl [iv 0, .slice none 0 0] rfl rfl (lb rfl) fun a b13 w S => ?_
  refine sStore (p := b13) (off := 0) (T := 32) (vs := [iv 0, .slice none 0 0]) (v := .agg #[iv p0, .slice none 0 0]) 0 [iv p0, .slice none 0 0] S (wN rfl) rfl rfl rfl rfl rfl rfl rfl (by simp) rfl fun a w S => ?_
  refine leafL (leafT (hK12 _ _ ?_))
  obtain ⟨t17, h, g18⟩ := bindSome h
  refine sCut (fun a w => ∃ o14, o14 = t17 ∧ ∃ ad15, ∃ cp16, St [] E [] w0 52 a w [(4, .pointer (some ⟨b4, 0, none⟩)), (7, .pointer (some ⟨b13, 0, none⟩))] [eBox b4 32 [iv 0, .slice none 0 0], eBox b13 32 [iv p0, .slice ad15 o14.length cp16], eRow r_api_Row 41 (.slice ad15 o14.length cp16) o14] []) ?_ (fun a w hI => ?_)
  rotate_left
  · obtain ⟨o14, rfl, ad15, cp16, S⟩ := hI
    have h := g18
    clear g18
    try dsimp only at h
    refine sSeq (fun K70 hK70 => ?_)
    refine sRegion ?_
    refine sLoadN (p := b13) (off := 0) (T := 32) (vs := [iv p0, .slice ad15 o14.length cp16]) 1 [iv p0, .slice ad15 o14.length cp16] S (wN rfl) rfl rfl rfl rfl rfl rfl rfl (lb rfl) fun a S => ?_
    refine sStore (p := b4) (off := 0) (T := 32) (vs := [iv 0, .slice none 0 0]) (v := .agg #[iv p0, .slice ad15 o14.length cp16]) 0 [iv p0, .slice ad15 o14.length cp16] S (wN rfl) rfl rfl rfl rfl rfl rfl rfl (by simp) rfl fun a w S => ?_
    refine sMove (iv 0) S (wN rfl) (.inr rfl) rfl rfl (lb rfl) fun a S => ?_
    refine leafL (leafT (hK70 _ _ ?_))
    obtain rfl := Option.some.inj h
    have S := S.shutR (r := r_api_Row) (T := 41) (v := .slice ad15 o14.length cp16) (xs := o14) 2 rfl
    have S := S.learn (fRep r_api_Chart (.agg #[iv p0, .slice ad15 o14.length cp16]) (api_Chart.mk p0 o14)) ⟨_, rfl, S.mem.know (i := 0) (e := fRep (rL r_api_Row) (.slice ad15 o14.length cp16) o14) rfl⟩
    exact wp_ret (sRet (.tuple #[.agg #[iv p0, .slice ad15 o14.length cp16], iv 0]) S (rsl2 rfl (rvN (c := 4) (t := 32) (T := 32) (p := b4) 0 [iv p0, .slice ad15 o14.length cp16] S rfl rfl rfl rfl) (rvT (t := 5) (v := iv 0) S rfl)) ⟨(.agg #[iv p0, .slice ad15 o14.length cp16]), rfl, S.mem.sel [] [0] (by decide) rfl rfl⟩)
  refine sSeq (fun K19 hK19 => ?_)
  refine sRegion ?_
  refine sMove (.slice ad1 p1.length cp2) S (wN rfl) (.inl rfl) rfl rfl (lb rfl) fun a S => ?_
  refine sLen (ad := ad1) (m := p1.length) (c := cp2) S (wN rfl) rfl Tryd.underlying22 rfl rfl (lb rfl) fun a S => ?_
  refine sMove (iv 0) S (wN rfl) (.inl rfl) rfl rfl (lb rfl) fun a S => ?_
  refine leafL (leafT (hK19 _ _ ?_))
  refine wp_block ?_
  have S := S.nilRow r_api_Row 41 (α := api_Row)
  obtain ⟨t26, hl, g25⟩ := bindSome h
  refine sLoop hl (fun s0 a w => match s0 with | (s20, s21) => ∃ ad22, ∃ cp23, St [] E [] w0 52 a w [(0, iv p0), (4, .pointer (some ⟨b4, 0, none⟩)), (7, .pointer (some ⟨b13, 0, none⟩)), (22, .slice ad1 p1.length cp2), (23, iv (p1.length : Int)), (24, iv s20)] [eBox b4 32 [iv 0, .slice none 0 0], eBox b13 32 [iv p0, .slice ad22 s21.length cp23], eRow r_api_Row 41 (.slice ad22 s21.length cp23) s21] [fRep (rL (rI .i64)) (.slice ad1 p1.length cp2) p1]) ⟨none, 0, S.fix [2, 1, 0] [0] (by decide) rfl rfl rfl⟩ ?_
  clear hl h
  intro s0 a w c0 hI h hu24
  obtain ⟨s20, s21⟩ := s0
  unfold short_Chart_l1 at h
  dsimp only at h hI
  obtain ⟨ad22, cp23, S⟩ := hI
  refine sSeq (fun K30 hK30 => ?_)
  refine sRegion ?_
  refine sBin (.bool (decide (s20 < (p1.length : Int)))) S (wN rfl) rfl rfl rfl (bLt _ _ _ _ .i64 s20 (p1.length : Int)) rfl (lb rfl) fun a S => ?_
  refine leafL (leafT (hK30 _ _ ?_))
  refine sSeq (fun K31 hK31 => ?_)
  rcases iteSome h with ⟨hc32, h⟩ | ⟨hc32, h⟩
  rotate_left
  · refine sCondF S rfl hc32 ?_
    obtain rfl := Option.some.inj h
    obtain rfl := hu24 _ rfl
    have h := g25
    clear g25
    try dsimp only at h
    exact wp_exit (xThen (xThen (xHit (leafT (⟨s21, Option.some.inj h, ad22, cp23, S.fix [0, 1, 2] [] (by decide) rfl rfl rfl⟩)))))
  refine sCondT S rfl hc32 ?_
  refine wp_skip (leafT (hK31 _ _ ?_))
  refine sSeq (fun K33 hK33 => ?_)
  refine wp_block ?_
  refine sSeq (fun K34 hK34 => ?_)
  refine sRegion ?_
  obtain ⟨x35, hx36, h⟩ := bindSome h
  obtain ⟨q37, hq38, S⟩ := pIdx (P := Tryd.prog) (r := (rI .i64)) (v := .slice ad1 p1.length cp2) (xs := p1) (j := s20) 22 3 0 S Tryd.underlying22 rfl rfl hx36
  refine sIdxV (v := .slice ad1 p1.length cp2) (k := .i64) (j := s20) S (wN rfl) rfl rfl rfl hq38 rfl (lb rfl) fun a S => ?_
  obtain ⟨u39, S⟩ := pLoad (r := (rI .i64)) (q := q37) (x := x35) 0 S rfl
  obtain rfl : u39 = iv x35 := S.mem.know (i := 1) (e := fRep (rI .i64) (u39) x35) rfl
  refine sLoadV1 (vq := q37) 0 (iv x35) S (wN rfl) rfl rfl rfl rfl rfl (lb rfl) fun a S => ?_
  refine sMove (iv x35) S (wN rfl) (.inr rfl) rfl rfl (lb rfl) fun a S => ?_
  refine leafL (leafT (hK34 _ _ ?_))
  refine sSeq (fun K40 hK40 => ?_)
  refine sRegion ?_
  refine sMove (iv x35) S (wN rfl) (.inl rfl) rfl rfl (lb rfl) fun a S => ?_
  obtain ⟨r41, hx42, h⟩ := bindSome h
  refine sCall (X := Value) (f := 21) (vs := [.int .u8 1, iv x35]) (val := c_short_several_val r41) (B' := fun _ => []) (D' := c_short_several_D r41) [] [eBox b4 32 [iv 0, .slice none 0 0], eBox b13 32 [iv p0, .slice ad22 s21.length cp23], eRow r_api_Row 41 (.slice ad22 s21.length cp23) s21] [] [0, 1, 2] [] S (wN rfl) rfl callee21 rfl (by decide) rfl rfl (fun E1 w1 S1 => c_short_several E1 w1 1 x35 r41 hx42 S1) rfl (lb rfl) fun u43 a w S => ?_
  obtain ⟨ad44, cp45, _, rfl, _⟩ := S.mem.know (i := 0) (e := fRep (rL r_api_Stitch) (u43) r41) rfl
  refine sMove (iv p0) S (wN rfl) (.inl rfl) rfl rfl (lb rfl) fun a S => ?_
  refine sMove (iv x35) S (wN rfl) (.inl rfl) rfl rfl (lb rfl) fun a S => ?_
  refine sBin (iv (w64 (p0 - x35))) S (wN rfl) rfl rfl rfl (bSub _ _ _ _ p0 x35) rfl (lb rfl) fun a S => ?_
  obtain ⟨r46, hx47, h⟩ := bindSome h
  refine sCall (X := Value) (f := 21) (vs := [.int .u8 8, iv (w64 (p0 - x35))]) (val := c_short_several_val r46) (B' := fun _ => []) (D' := c_short_several_D r46) [] [eBox b4 32 [iv 0, .slice none 0 0], eBox b13 32 [iv p0, .slice ad22 s21.length cp23], eRow r_api_Row 41 (.slice ad22 s21.length cp23) s21] [] [0, 1, 2] [] S (wN rfl) rfl callee21 rfl (by decide) rfl rfl (fun E1 w1 S1 => c_short_several E1 w1 8 (w64 (p0 - x35)) r46 hx47 S1) rfl (lb rfl) fun u48 a w S => ?_
  obtain ⟨ad49, cp50, _, rfl, _⟩ := S.mem.know (i := 0) (e := fRep (rL r_api_Stitch) (u48) r46) rfl
  refine sLit (r := (rL r_api_Stitch)) (T := 39) (xs := [r41, r46]) [(0, .slice ad44 r41.length cp45), (1, .slice ad49 r46.length cp50)] 2 [.slice ad44 r41.length cp45, .slice ad49 r46.length cp50] [.slice ad44 r41.length cp45, .slice ad49 r46.length cp50] (.slice none 0 0) 24 S (wN rfl) rfl rfl Tryd.underlying61 rfl (by decide) (by decide) (by kernel_rfl) rfl (fun E1 w1 hE => All.cons ((rL r_api_Stitch).mono hE (S.mem.know (i := 1) (e := fRep (rL r_api_Stitch) (.slice ad44 r41.length cp45) r41) rfl)) (All.cons ((rL r_api_Stitch).mono hE (S.mem.know (i := 0) (e := fRep (rL r_api_Stitch) (.slice ad49 r46.length cp50) r46) rfl)) (All.nil _ _ _))) rfl rfl (lb rfl) fun a w ad51 cp52 S => ?_
  obtain ⟨r53, hx54, h⟩ := bindSome h
  have S := S.shutR (r := (rL r_api_Stitch)) (T := 39) (v := .slice ad51 [r41, r46].length cp52) (xs := [r41, r46]) 0 rfl
  refine sCall (X := Value) (f := 20) (vs := [.slice ad51 [r41, r46].length cp52]) (val := c_short_joined_val r53) (B' := fun _ => []) (D' := c_short_joined_D r53) [] [eBox b4 32 [iv 0, .slice none 0 0], eBox b13 32 [iv p0, .slice ad22 s21.length cp23], eRow r_api_Row 41 (.slice ad22 s21.length cp23) s21] [fRep (rL (rL r_api_Stitch)) (.slice ad51 [r41, r46].length cp52) [r41, r46]] [0, 1, 2] [0] S (wN rfl) rfl callee20 rfl (by decide) rfl rfl (fun E1 w1 S1 => c_short_joined E1 w1 [r41, r46] (.slice ad51 [r41, r46].length cp52) r53 hx54 S1) rfl (lb rfl) fun u55 a w S => ?_
  obtain ⟨ad56, cp57, _, rfl, _⟩ := S.mem.know (i := 0) (e := fRep (rL r_api_Stitch) (u55) r53) rfl
  refine sMove (.slice ad56 r53.length cp57) S (wN rfl) (.inr rfl) rfl rfl (lb rfl) fun a S => ?_
  refine leafL (leafT (hK40 _ _ ?_))
  refine sSeq (fun K58 hK58 => ?_)
  refine sRegion ?_
  refine sMove (.slice ad56 r53.length cp57) S (wN rfl) (.inl rfl) rfl rfl (lb rfl) fun a S => ?_
  obtain ⟨r59, hx60, h⟩ := bindSome h
  refine sCall (X := Value) (f := 22) (vs := [.slice ad56 r53.length cp57]) (val := c_stitch_Turn_val r59) (B' := fun _ => []) (D' := c_stitch_Turn_D r59) [] [eBox b4 32 [iv 0, .slice none 0 0], eBox b13 32 [iv p0, .slice ad22 s21.length cp23], eRow r_api_Row 41 (.slice ad22 s21.length cp23) s21] [fRep (rL r_api_Stitch) (.slice ad56 r53.length cp57) r53] [0, 1, 2] [0] S (wN rfl) rfl callee22 rfl (by decide) rfl rfl (fun E1 w1 S1 => c_stitch_Turn E1 w1 r53 (.slice ad56 r53.length cp57) r59 hx60 S1) rfl (lb rfl) fun u61 a w S => ?_
  obtain ⟨ad62, cp63, _, rfl, _⟩ := S.mem.know (i := 0) (e := fRep (rL r_api_Stitch) (u61) r59.1) rfl
  refine sMove (.tuple #[.slice ad62 r59.1.length cp63, iv r59.2]) S (wN rfl) (.inl rfl) rfl rfl (lb rfl) fun a S => ?_
  refine sExtract (vs := [.slice ad62 r59.1.length cp63, iv r59.2]) (.slice ad62 r59.1.length cp63) S (wN rfl) rfl rfl rfl rfl (lb rfl) fun a S => ?_
  refine sExtract (vs := [.slice ad62 r59.1.length cp63, iv r59.2]) (iv r59.2) S (wN rfl) rfl rfl rfl rfl (lb rfl) fun a S => ?_
  refine sMove (.slice ad62 r59.1.length cp63) S (wN rfl) (.inr rfl) rfl rfl (lb rfl) fun a S => ?_
  refine sMove (iv r59.2) S (wN rfl) (.inr rfl) rfl rfl (lb rfl) fun a S => ?_
  refine leafL (leafT (hK58 _ _ ?_))
  refine sRegion ?_
  refine sField (b := b13) (off := 0) 1 1 S (wN rfl) rfl rfl rfl rfl rfl (lb rfl) fun a S => ?_
  refine sLoad1 (p := b13) (off := 1) (T := 32) (vs := [iv p0, .slice ad22 s21.length cp23]) 1 (.slice ad22 s21.length cp23) S (wN rfl) rfl rfl rfl rfl rfl rfl (lb rfl) fun a S => ?_
  refine sMove (.slice ad56 r53.length cp57) S (wN rfl) (.inl rfl) rfl rfl (lb rfl) fun a S => ?_
  refine sBuild [(1, .slice ad56 r53.length cp57)] [.bool false, .slice ad56 r53.length cp57] S (wN rfl) rfl rfl rfl rfl (lb rfl) fun a S => ?_
  refine sMove (.slice ad62 r59.1.length cp63) S (wN rfl) (.inl rfl) rfl rfl (lb rfl) fun a S => ?_
  refine sBuild [(0, .bool true), (1, .slice ad62 r59.1.length cp63)] [.bool true, .slice ad62 r59.1.length cp63] S (wN rfl) rfl rfl rfl rfl (lb rfl) fun a S => ?_
  have S := S.learn (fRep r_api_Row (.agg #[.bool false, .slice ad56 r53.length cp57]) (api_Row.mk false r53)) ⟨_, rfl, S.mem.know (i := 1) (e := fRep (rL r_api_Stitch) (.slice ad56 r53.length cp57) r53) rfl⟩
  have S := S.learn (fRep r_api_Row (.agg #[.bool true, .slice ad62 r59.1.length cp63]) (api_Row.mk true r59.1)) ⟨_, rfl, S.mem.know (i := 1) (e := fRep (rL r_api_Stitch) (.slice ad62 r59.1.length cp63) r59.1) rfl⟩
  refine sLit (r := r_api_Row) (T := 41) (xs := [(api_Row.mk false r53), (api_Row.mk true r59.1)]) [(0, .agg #[.bool false, .slice ad56 r53.length cp57]), (1, .agg #[.bool true, .slice ad62 r59.1.length cp63])] 2 [.agg #[.bool false, .slice ad56 r53.length cp57], .agg #[.bool true, .slice ad62 r59.1.length cp63]] [.bool false, .slice ad56 r53.length cp57, .bool true, .slice ad62 r59.1.length cp63] (.agg #[.bool false, .slice none 0 0]) 32 S (wN rfl) rfl rfl Tryd.underlying30 rfl (by decide) (by decide) (by kernel_rfl) rfl (fun E1 w1 hE => All.cons (r_api_Row.mono hE (S.mem.know (i := 1) (e := fRep r_api_Row (.agg #[.bool false, .slice ad56 r53.length cp57]) (api_Row.mk false r53)) rfl)) (All.cons (r_api_Row.mono hE (S.mem.know (i := 0) (e := fRep r_api_Row (.agg #[.bool true, .slice ad62 r59.1.length cp63]) (api_Row.mk true r59.1)) rfl)) (All.nil _ _ _))) rfl rfl (lb rfl) fun a w ad64 cp65 S => ?_
  obtain ⟨l66, hx67, h⟩ := bindSome h
  refine sApp (r := r_api_Row) (T := 41) (xs := s21) (ys := [(api_Row.mk false r53), (api_Row.mk true r59.1)]) (v := .slice ad22 s21.length cp23) (u := .slice ad64 [(api_Row.mk false r53), (api_Row.mk true r59.1)].length cp65) 3 (.agg #[.bool false, .slice none 0 0]) 32 S (wN rfl) rfl Tryd.underlying30 rfl rfl (by decide) rfl rfl rfl (src_R (T := 41) 0 S.mem rfl) hx67 rfl (lb rfl) fun a w ad68 cp69 S => ?_
  refine sField (b := b13) (off := 0) 1 1 S (wN rfl) rfl rfl rfl rfl rfl (lb rfl) fun a S => ?_
  refine sStore (p := b13) (off := 1) (T := 32) (vs := [iv p0, .slice ad22 s21.length cp23]) (v := .slice ad68 l66.length cp69) 3 [.slice ad68 l66.length cp69] S (wN rfl) rfl rfl rfl rfl rfl rfl rfl (by simp) rfl fun a w S => ?_
  refine leafL (leafB (leafT (hK33 _ _ ?_)))
  refine sRegion ?_
  refine sBin (iv (w64 (s20 + 1))) S (wN rfl) rfl rfl rfl (bAdd _ _ _ _ s20 1) rfl (lb rfl) fun a S => ?_
  refine sMove (iv (w64 (s20 + 1))) S (wN rfl) (.inl rfl) rfl rfl (lb rfl) fun a S => ?_
  exact leafL (leafT (⟨(w64 (s20 + 1), l66), (Option.some.inj h).symm, ⟨ad68, cp69, S.fix [3, 0, 1] [10] (by decide) rfl rfl rfl⟩⟩))

end Go.Proofs.YtoiehdlcfehmlaaDoor
namespace Go.Proofs.YtoiehdlcfehmlaaDoor
open Go.RowKit
set_option linter.unusedVariables false

def anc_slices_Equal___api_Stitch_api_Stitch__0 : List (List Nat) := [[], [], [0, 1], [0, 1, 2], [], [], [4, 5], [4, 5, 6], [0, 1, 2, 3, 4, 5, 6, 7]]
noncomputable def slices_Equal___api_Stitch_api_Stitch__l1 (p0 : (List api_Stitch)) (p1 : (List api_Stitch)) : Int → Option (Int ⊕ (Bool ⊕ Unit)) := fun s0 => match s0 with
  | s13 =>
    if decide (s13 < (p0.length : Int)) then
      Option.bind (idxO p0 s13) fun x23 =>
      Option.bind (idxO p1 s13) fun x28 =>
      if !((x23.Kind == x28.Kind) && ((x23.Purl == x28.Purl) && ((x23.A == x28.A) && ((x23.B == x28.B) && true)))) then
        some (.inr (.inl false))
      else
        some (.inl (w64 (s13 + 1)))
    else
      some (.inr (.inr ()))
noncomputable def F_slices_Equal___api_Stitch_api_Stitch_ (p0 : (List api_Stitch)) (p1 : (List api_Stitch)) : Option Bool :=
  if (p0.length : Int) != (p1.length : Int) then
    some false
  else
    Option.bind (α := Unit ⊕ Bool) (
      Option.bind (whileO (slices_Equal___api_Stitch_api_Stitch__l1 p0 p1) 0) fun z0 => match z0 with
        | .inl z =>
          some (.inr z)
        | .inr _ =>
          some (.inl ())) fun z0 => match z0 with
      | .inl _ =>
        some true
      | .inr z =>
        some z
set_option maxHeartbeats 4000000 in
set_option maxRecDepth 100000 in
theorem c_slices_Equal___api_Stitch_api_Stitch_ (E : Nat → Prop) (w0 : World) (p0 : (List api_Stitch)) (v0 : Value) (p1 : (List api_Stitch)) (v1 : Value) (r : Bool) (h : F_slices_Equal___api_Stitch_api_Stitch_ p0 p1 = some r) (S : St0 E [] w0 w0 [] [fRep (rL r_api_Stitch) (v0) p0, fRep (rL r_api_Stitch) (v1) p1]) :
    Calls Tryd.prog 29 #[v0, v1] w0 (Ret (X := Unit) E [] w0 (fun _ => .bool r) (fun _ => []) (fun _ => [])) := by
  unfold F_slices_Equal___api_Stitch_api_Stitch_ at h
  obtain ⟨ad1, cp2, _, rfl, _⟩ := S.know (i := 0) (e := fRep (rL r_api_Stitch) (v0) p0) rfl
  obtain ⟨ad3, cp4, _, rfl, _⟩ := S.know (i := 1) (e := fRep (rL r_api_Stitch) (v1) p1) rfl
  refine sEnter (args := [.slice ad1 p0.length cp2, .slice ad3 p1.length cp4]) 26 Tryd.func29 rfl rfl (by simp) S (fun a S => ?_)
  refine sSeq (fun K5 hK5 => ?_)
  refine sRegion ?_
  refine sMove (.bool false) S (wN rfl) (.inr rfl) rfl rfl (lb rfl) fun a S => ?_
  refine leafL (leafT (hK5 _ _ ?_))
  refine sSeq (fun K6 hK6 => ?_)
  refine sSeq (fun K7 hK7 => ?_)
  refine sRegion ?_
  refine sMove (.slice ad1 p0.length cp2) S (wN rfl) (.inl rfl) rfl rfl (lb rfl) fun a S => ?_
  refine sLen (ad := ad1) (m := p0.length) (c := cp2) S (wN rfl) rfl Tryd.underlying39 rfl rfl (lb rfl) fun a S => ?_
  refine sMove (.slice ad3 p1.length cp4) S (wN rfl) (.inl rfl) rfl rfl (lb rfl) fun a S => ?_
  refine sLen (ad := ad3) (m := p1.length) (c := cp4) S (wN rfl) rfl Tryd.underlying39 rfl rfl (lb rfl) fun a S => ?_
  refine sBin (.bool ((p0.length : Int) != (p1.length : Int))) S (wN rfl) rfl rfl rfl (bNe _ _ _ _ .i64 (p0.length : Int) (p1.length : Int)) rfl (lb rfl) fun a S => ?_
  refine leafL (leafT (hK7 _ _ ?_))
  rcases iteSome h with ⟨hc8, h⟩ | ⟨hc8, h⟩
  · refine sCondT S rfl hc8 ?_
    refine sSeq (fun K9 hK9 => ?_)
    refine sRegion ?_
    refine sMove (.bool false) S (wN rfl) (.inr rfl) rfl rfl (lb rfl) fun a S => ?_
    refine leafL (leafT (hK9 _ _ ?_))
    obtain rfl := Option.some.inj h
    exact wp_ret (rThen (sRet (.bool false) S (rsl1 rfl (rvT (t := 4) (v := .bool false) S rfl)) ⟨(), rfl, S.mem.sel [] [] (by decide) rfl rfl⟩))
  refine sCondF S rfl hc8 ?_
  refine wp_skip (leafT (hK6 _ _ ?_))
  obtain ⟨t10, h, g11⟩ := bindSome h
  refine sCut (fun a w => .inl () = t10 ∧ St [] E [] w0 26 a w [] [] []) ?_ (fun a w hI => ?_)
  rotate_left
  · obtain ⟨rfl, S⟩ := hI
    have h := g11
    clear g11
    try dsimp only at h
    refine sSeq (fun K41 hK41 => ?_)
    refine sRegion ?_
    refine sMove (.bool true) S (wN rfl) (.inr rfl) rfl rfl (lb rfl) fun a S => ?_
    refine leafL (leafT (hK41 _ _ ?_))
    obtain rfl := Option.some.inj h
    exact wp_ret (sRet (.bool true) S (rsl1 rfl (rvT (t := 4) (v := .bool true) S rfl)) ⟨(), rfl, S.mem.sel [] [] (by decide) rfl rfl⟩)
  refine sSeq (fun K12 hK12 => ?_)
  refine sRegion ?_
  refine sMove (.slice ad1 p0.length cp2) S (wN rfl) (.inl rfl) rfl rfl (lb rfl) fun a S => ?_
  refine sLen (ad := ad1) (m := p0.length) (c := cp2) S (wN rfl) rfl Tryd.underlying39 rfl rfl (lb rfl) fun a S => ?_
  refine sMove (iv 0) S (wN rfl) (.inl rfl) rfl rfl (lb rfl) fun a S => ?_
  refine leafL (leafT (hK12 _ _ ?_))
  refine wp_block ?_
  obtain ⟨t16, hl, g15⟩ := bindSome h
  refine sLoop hl (fun s0 a w => match s0 with | s13 => St [] E [] w0 26 a w [(0, .slice ad1 p0.length cp2), (1, .slice ad3 p1.length cp4), (12, iv (p0.length : Int)), (13, iv s13)] [] [fRep (rL r_api_Stitch) (.slice ad1 p0.length cp2) p0, fRep (rL r_api_Stitch) (.slice ad3 p1.length cp4) p1]) (S.fix [] [0, 1] (by decide) rfl rfl rfl) ?_
  clear hl h
  intro s13 a w c0 hI h hu14
  unfold slices_Equal___api_Stitch_api_Stitch__l1 at h
  dsimp only at h hI
  have S := hI
  refine sSeq (fun K17 hK17 => ?_)
  refine sRegion ?_
  refine sBin (.bool (decide (s13 < (p0.length : Int)))) S (wN rfl) rfl rfl rfl (bLt _ _ _ _ .i64 s13 (p0.length : Int)) rfl (lb rfl) fun a S => ?_
  refine leafL (leafT (hK17 _ _ ?_))
  refine sSeq (fun K18 hK18 => ?_)
  rcases iteSome h with ⟨hc19, h⟩ | ⟨hc19, h⟩
  rotate_left
  · refine sCondF S rfl hc19 ?_
    obtain rfl := Option.some.inj h
    obtain rfl := hu14 _ rfl
    have h := g15
    clear g15
    try dsimp only at h
    exact wp_exit (xThen (xThen (xHit (leafT (⟨Option.some.inj h, S.fix [] [] (by decide) rfl rfl rfl⟩)))))
  refine sCondT S rfl hc19 ?_
  refine wp_skip (leafT (hK18 _ _ ?_))
  refine sSeq (fun K20 hK20 => ?_)
  refine wp_block ?_
  refine sSeq (fun K21 hK21 => ?_)
  refine sRegion ?_
  refine sMove (iv s13) S (wN rfl) (.inl rfl) rfl rfl (lb rfl) fun a S => ?_
  refine sMove (iv s13) S (wN rfl) (.inr rfl) rfl rfl (lb rfl) fun a S => ?_
  refine leafL (leafT (hK21 _ _ ?_))
  refine sSeq (fun K22 hK22 => ?_)
  obtain ⟨x23, hx24, h⟩ := bindSome h
  obtain ⟨x28, hx29, h⟩ := bindSome h
  obtain ⟨q33, hq34, S⟩ := pIdx (P := Tryd.prog) (r := r_api_Stitch) (v := .slice ad1 p0.length cp2) (xs := p0) (j := s13) 39 38 0 S Tryd.underlying39 rfl rfl hx24
  obtain ⟨u35, S⟩ := pLoad (r := r_api_Stitch) (q := q33) (x := x23) 0 S rfl
  obtain rfl : u35 = .agg #[.int .u8 x23.Kind, .bool x23.Purl, iv x23.A, iv x23.B] := S.mem.know (i := 1) (e := fRep r_api_Stitch (u35) x23) rfl
  obtain ⟨q36, hq37, S⟩ := pIdx (P := Tryd.prog) (r := r_api_Stitch) (v := .slice ad3 p1.length cp4) (xs := p1) (j := s13) 39 38 4 S Tryd.underlying39 rfl rfl hx29
  obtain ⟨u38, S⟩ := pLoad (r := r_api_Stitch) (q := q36) (x := x28) 0 S rfl
  obtain rfl : u38 = .agg #[.int .u8 x28.Kind, .bool x28.Purl, iv x28.A, iv x28.B] := S.mem.know (i := 1) (e := fRep r_api_Stitch (u38) x28) rfl
  refine sDraw (nf := []) (W := [(0, 16, .slice ad1 p0.length cp2), (1, 17, iv s13), (2, 18, q33), (3, 19, .agg #[.int .u8 x23.Kind, .bool x23.Purl, iv x23.A, iv x23.B]), (4, 20, .slice ad3 p1.length cp4), (5, 21, iv s13), (6, 22, q36), (7, 23, .agg #[.int .u8 x28.Kind, .bool x28.Purl, iv x28.A, iv x28.B]), (8, 24, .bool (!((x23.Kind == x28.Kind) && ((x23.Purl == x28.Purl) && ((x23.A == x28.A) && ((x23.B == x28.B) && true))))))]) rfl S ?_
  refine node_by (A := anc_slices_Equal___api_Stitch_api_Stitch__0) (nf := []) (Y := []) (W := [(0, 16, .slice ad1 p0.length cp2), (1, 17, iv s13), (2, 18, q33), (3, 19, .agg #[.int .u8 x23.Kind, .bool x23.Purl, iv x23.A, iv x23.B]), (4, 20, .slice ad3 p1.length cp4), (5, 21, iv s13), (6, 22, q36), (7, 23, .agg #[.int .u8 x28.Kind, .bool x28.Purl, iv x28.A, iv x28.B]), (8, 24, .bool (!((x23.Kind == x28.Kind) && ((x23.Purl == x28.Purl) && ((x23.A == x28.A) && ((x23.B == x28.B) && true))))))]) 9 (by kernel_rfl) (by kernel_rfl) (by kernel_rfl) (by kernel_rfl) (by kernel_rfl) [0, 1, 2, 3, 4, 5, 6, 7, 8] (by kernel_rfl) (by decide) (by decide) (aF 0 8 (by decide) ?_ (aF 1 7 (by decide) ?_ (aF 2 6 (by decide) ?_ (aF 3 5 (by decide) ?_ (aF 4 4 (by decide) ?_ (aF 5 3 (by decide) ?_ (aF 6 2 (by decide) ?_ (aF 7 1 (by decide) ?_ (aF 8 0 (by decide) ?_ (trivial)))))))))) [(0, .slice ad1 p0.length cp2), (1, .slice ad3 p1.length cp4), (12, iv (p0.length : Int)), (13, iv s13), (24, .bool (!((x23.Kind == x28.Kind) && ((x23.Purl == x28.Purl) && ((x23.A == x28.A) && ((x23.B == x28.B) && true))))))] (fin_of [none, none, none, none, some 8] rfl (by kernel_rfl) (by kernel_rfl)) (fun _ a w S => ?_)
  · refine fI 16 (.slice ad1 p0.length cp2) [(0, .slice ad1 p0.length cp2)] 0 [none] rfl rfl rfl rfl rfl rfl fun G a w S => ?_
    refine sMove (.slice ad1 p0.length cp2) S (wN rfl) (.inl rfl) rfl rfl (lb rfl) fun a S => ?_
    exact leafL ⟨rfl, S⟩
  · refine fI 17 (iv s13) [(5, iv s13)] 1 [none] rfl rfl rfl rfl rfl rfl fun G a w S => ?_
    refine sMove (iv s13) S (wN rfl) (.inl rfl) rfl rfl (lb rfl) fun a S => ?_
    exact leafL ⟨rfl, S⟩
  · refine fI 18 q33 [(16, .slice ad1 p0.length cp2), (17, iv s13)] 2 [some 0, some 1] rfl rfl rfl rfl rfl rfl fun G a w S => ?_
    refine sIdxV (v := .slice ad1 p0.length cp2) (k := .i64) (j := s13) S (wN rfl) rfl rfl rfl hq34 rfl (lb rfl) fun a S => ?_
    exact leafL ⟨rfl, S⟩
  · refine fI 19 (.agg #[.int .u8 x23.Kind, .bool x23.Purl, iv x23.A, iv x23.B]) [(18, q33)] 3 [some 2] rfl rfl rfl rfl rfl rfl fun G a w S => ?_
    refine sLoadVN (vq := q33) 3 [.int .u8 x23.Kind, .bool x23.Purl, iv x23.A, iv x23.B] S (wN rfl) rfl rfl rfl rfl rfl rfl (lb rfl) fun a S => ?_
    exact leafL ⟨rfl, S⟩
  · refine fI 20 (.slice ad3 p1.length cp4) [(1, .slice ad3 p1.length cp4)] 4 [none] rfl rfl rfl rfl rfl rfl fun G a w S => ?_
    refine sMove (.slice ad3 p1.length cp4) S (wN rfl) (.inl rfl) rfl rfl (lb rfl) fun a S => ?_
    exact leafL ⟨rfl, S⟩
  · refine fI 21 (iv s13) [(5, iv s13)] 5 [none] rfl rfl rfl rfl rfl rfl fun G a w S => ?_
    refine sMove (iv s13) S (wN rfl) (.inl rfl) rfl rfl (lb rfl) fun a S => ?_
    exact leafL ⟨rfl, S⟩
  · refine fI 22 q36 [(20, .slice ad3 p1.length cp4), (21, iv s13)] 6 [some 4, some 5] rfl rfl rfl rfl rfl rfl fun G a w S => ?_
    refine sIdxV (v := .slice ad3 p1.length cp4) (k := .i64) (j := s13) S (wN rfl) rfl rfl rfl hq37 rfl (lb rfl) fun a S => ?_
    exact leafL ⟨rfl, S⟩
  · refine fI 23 (.agg #[.int .u8 x28.Kind, .bool x28.Purl, iv x28.A, iv x28.B]) [(22, q36)] 7 [some 6] rfl rfl rfl rfl rfl rfl fun G a w S => ?_
    refine sLoadVN (vq := q36) 0 [.int .u8 x28.Kind, .bool x28.Purl, iv x28.A, iv x28.B] S (wN rfl) rfl rfl rfl rfl rfl rfl (lb rfl) fun a S => ?_
    exact leafL ⟨rfl, S⟩
  · refine fI 24 (.bool (!((x23.Kind == x28.Kind) && ((x23.Purl == x28.Purl) && ((x23.A == x28.A) && ((x23.B == x28.B) && true)))))) [(19, .agg #[.int .u8 x23.Kind, .bool x23.Purl, iv x23.A, iv x23.B]), (23, .agg #[.int .u8 x28.Kind, .bool x28.Purl, iv x28.A, iv x28.B])] 8 [some 3, some 7] rfl rfl rfl rfl rfl rfl fun G a w S => ?_
    refine sBin (.bool (!((x23.Kind == x28.Kind) && ((x23.Purl == x28.Purl) && ((x23.A == x28.A) && ((x23.B == x28.B) && true)))))) S (wN rfl) rfl rfl rfl (bNeV _ _ _ _ #[.int .u8 x23.Kind, .bool x23.Purl, iv x23.A, iv x23.B] #[.int .u8 x28.Kind, .bool x28.Purl, iv x28.A, iv x28.B] ((x23.Kind == x28.Kind) && ((x23.Purl == x28.Purl) && ((x23.A == x28.A) && ((x23.B == x28.B) && true)))) (by kernel_rfl) (eqlV_of (by kernel_rfl))) rfl (lb rfl) fun a S => ?_
    exact leafL ⟨rfl, S⟩
  refine leafT (hK22 _ _ ?_)
  rcases iteSome h with ⟨hc39, h⟩ | ⟨hc39, h⟩
  rotate_left
  · refine sCondF S rfl hc39 ?_
    refine wp_skip (leafB (leafT (hK20 _ _ ?_)))
    refine sRegion ?_
    refine sBin (iv (w64 (s13 + 1))) S (wN rfl) rfl rfl rfl (bAdd _ _ _ _ s13 1) rfl (lb rfl) fun a S => ?_
    refine sMove (iv (w64 (s13 + 1))) S (wN rfl) (.inl rfl) rfl rfl (lb rfl) fun a S => ?_
    exact leafL (leafT (⟨w64 (s13 + 1), (Option.some.inj h).symm, (S.fix [] [6, 7] (by decide) rfl rfl rfl)⟩))
  refine sCondT S rfl hc39 ?_
  refine sSeq (fun K40 hK40 => ?_)
  refine sRegion ?_
  refine sMove (.bool false) S (wN rfl) (.inr rfl) rfl rfl (lb rfl) fun a S => ?_
  refine leafL (leafT (hK40 _ _ ?_))
  obtain rfl := Option.some.inj h
  obtain rfl := hu14 _ rfl
  have h := g15
  clear g15
  try dsimp only at h
  obtain rfl := Option.some.inj h
  have h := g11
  clear g11
  try dsimp only at h
  obtain rfl := Option.some.inj h
  exact wp_ret (rBlock (rThen (rThen (rBlock (rThen (sRet (.bool false) S (rsl1 rfl (rvT (t := 4) (v := .bool false) S rfl)) ⟨(), rfl, S.mem.sel [] [] (by decide) rfl rfl⟩))))))

end Go.Proofs.YtoiehdlcfehmlaaDoor
namespace Go.Proofs.YtoiehdlcfehmlaaDoor
open Go.RowKit
set_option linter.unusedVariables false

noncomputable def F_stitch_Same (p0 : (List api_Stitch)) (p1 : (List api_Stitch)) : Option Bool :=
  Option.bind (F_slices_Equal___api_Stitch_api_Stitch_ p0 p1) fun r7 =>
  some r7
set_option maxHeartbeats 4000000 in
set_option maxRecDepth 100000 in
theorem c_stitch_Same (E : Nat → Prop) (w0 : World) (p0 : (List api_Stitch)) (v0 : Value) (p1 : (List api_Stitch)) (v1 : Value) (r : Bool) (h : F_stitch_Same p0 p1 = some r) (S : St0 E [] w0 w0 [] [fRep (rL r_api_Stitch) (v0) p0, fRep (rL r_api_Stitch) (v1) p1]) :
    Calls Tryd.prog 23 #[v0, v1] w0 (Ret (X := Unit) E [] w0 (fun _ => .bool r) (fun _ => []) (fun _ => [])) := by
  unfold F_stitch_Same at h
  obtain ⟨ad1, cp2, _, rfl, _⟩ := S.know (i := 0) (e := fRep (rL r_api_Stitch) (v0) p0) rfl
  obtain ⟨ad3, cp4, _, rfl, _⟩ := S.know (i := 1) (e := fRep (rL r_api_Stitch) (v1) p1) rfl
  refine sEnter (args := [.slice ad1 p0.length cp2, .slice ad3 p1.length cp4]) 8 Tryd.func23 rfl rfl (by simp) S (fun a S => ?_)
  refine sSeq (fun K5 hK5 => ?_)
  refine sRegion ?_
  refine sMove (.bool false) S (wN rfl) (.inr rfl) rfl rfl (lb rfl) fun a S => ?_
  refine leafL (leafT (hK5 _ _ ?_))
  refine sSeq (fun K6 hK6 => ?_)
  refine sRegion ?_
  refine sMove (.slice ad1 p0.length cp2) S (wN rfl) (.inl rfl) rfl rfl (lb rfl) fun a S => ?_
  refine sMove (.slice ad3 p1.length cp4) S (wN rfl) (.inl rfl) rfl rfl (lb rfl) fun a S => ?_
  obtain ⟨r7, hx8, h⟩ := bindSome h
  have S1 := S.mem
  refine sCallQ (X := Unit) (f := 29) (vs := [.slice ad1 p0.length cp2, .slice ad3 p1.length cp4]) (val := fun _ => .bool r7) S (wN rfl) rfl callee29 rfl (S1.quiet [0, 1] rfl) (fun E1 w1 S1 => c_slices_Equal___api_Stitch_api_Stitch_ E1 w1 p0 (.slice ad1 p0.length cp2) p1 (.slice ad3 p1.length cp4) r7 hx8 S1) rfl (lb rfl) fun _ a w S => ?_
  refine sMove (.bool r7) S (wN rfl) (.inr rfl) rfl rfl (lb rfl) fun a S => ?_
  refine leafL (leafT (hK6 _ _ ?_))
  obtain rfl := Option.some.inj h
  exact wp_ret (sRet (.bool r7) S (rsl1 rfl (rvT (t := 4) (v := .bool r7) S rfl)) ⟨(), rfl, S.mem.sel [] [] (by decide) rfl rfl⟩)

end Go.Proofs.YtoiehdlcfehmlaaDoor
namespace Go.Proofs.YtoiehdlcfehmlaaDoor
open Go.RowKit
set_option linter.unusedVariables false

def anc_short_Read_0 : List (List Nat) := [[], [0], [], [2], [], [2, 3, 4], [2, 3, 4, 5], [2, 3, 4, 5, 6], [0, 1, 2, 3, 4, 5, 6, 7], [0, 1, 2, 3, 4, 5, 6, 7, 8], [0, 1, 2, 3, 4, 5, 6, 7, 8, 9], [0, 1, 2, 3, 4, 5, 6, 7, 8, 9, 10], [0, 1, 2, 3, 4, 5, 6, 7, 8, 9], [0, 1, 2, 3, 4, 5, 6, 7, 8, 9, 12], [0, 1, 2, 3, 4, 5, 6, 7, 8, 9], [0, 1, 2, 3, 4, 5, 6, 7, 8, 9, 12, 13, 14], [0, 1, 2, 3, 4, 5, 6, 7, 8, 9, 12, 13, 14, 15], [0, 1, 2, 3, 4, 5, 6, 7, 8, 9, 12, 13, 14, 15, 16], [0, 1, 2, 3, 4, 5, 6, 7, 8, 9, 10, 11, 12, 13, 14, 15, 16, 17], [0, 1, 2, 3, 4, 5, 6, 7, 8, 9, 10, 11, 12, 13, 14, 15, 16, 17, 18], [0, 1, 2, 3, 4, 5, 6, 7, 8, 9, 10, 11, 12, 13, 14, 15, 16, 17, 18, 19]]
noncomputable def short_Read_l1 (s29 : Int) (x46 : api_Row) : List Int → Option (List Int ⊕ List Int) := fun s0 => match s0 with
  | s55 =>
    Option.bind (α := Bool) (
      Option.bind (idxO s55 s29) fun x68 =>
      if decide (x68 < (x46.Cells.length : Int)) then
        Option.bind (idxO x46.Cells x68) fun x77 =>
        some (x77.Kind == 1)
      else
        some false) fun o65 =>
    if o65 then
      Option.bind (idxO s55 s29) fun x85 =>
      Option.bind (setO s55 s29 (w64 (x85 + 1))) fun l93 =>
      some (.inl l93)
    else
      some (.inr s55)
noncomputable def short_Read_l2 (m18 : List Int) (p0 : api_Chart) : (List Int × Int) → Option ((List Int × Int) ⊕ List Int) := fun s0 => match s0 with
  | (s26, s29) =>
    if decide (s29 < (m18.length : Int)) then
      Option.bind (α := List Int) (
        Option.bind (idxO p0.Rows (w64 (2 * s29))) fun x46 =>
        Option.bind (whileO (short_Read_l1 s29 x46) s26) fun e61 =>
          some e61) fun o39 =>
      some (.inl (o39, w64 (s29 + 1)))
    else
      some (.inr s26)
noncomputable def short_Read_l3 (p0 : api_Chart) (r96 : (api_Chart × Int)) : Int → Option (Int ⊕ ((Int × (List Int) × Int) ⊕ Unit)) := fun s0 => match s0 with
  | s111 =>
    if decide (s111 < (p0.Rows.length : Int)) then
      Option.bind (idxO p0.Rows s111) fun x120 =>
      Option.bind (α := Bool) (
        Option.bind (idxO r96.1.Rows s111) fun x133 =>
        if x120.Back != x133.Back then
          some true
        else
          Option.bind (F_stitch_Same x120.Cells x133.Cells) fun r153 =>
          some (!r153)) fun o130 =>
      if o130 then
        some (.inr (.inl (0, ([] : (List Int)), 8)))
      else
        some (.inl (w64 (s111 + 1)))
    else
      some (.inr (.inr ()))
noncomputable def F_short_Read (p0 : api_Chart) : Option (Int × (List Int) × Int) :=
  Option.bind (remI (p0.Rows.length : Int) 2) fun z9 =>
  if z9 == 1 then
    some (0, ([] : (List Int)), 8)
  else
    Option.bind (quoI (p0.Rows.length : Int) 2) fun z14 =>
    Option.bind (makeO z14 (0 : Int)) fun m18 =>
    Option.bind (α := List Int) (
      Option.bind (whileO (short_Read_l2 m18 p0) (m18, 0)) fun e33 =>
        some e33) fun o20 =>
    Option.bind (F_short_Chart p0.Start o20) fun r96 =>
    if r96.2 != 0 then
      some (0, ([] : (List Int)), 8)
    else
      Option.bind (α := Unit ⊕ (Int × (List Int) × Int)) (
        Option.bind (whileO (short_Read_l3 p0 r96) 0) fun z0 => match z0 with
          | .inl z =>
            some (.inr z)
          | .inr _ =>
            some (.inl ())) fun z0 => match z0 with
        | .inl _ =>
          some (p0.Start, o20, 0)
        | .inr z =>
          some z
def c_short_Read_val (r : (Int × (List Int) × Int)) (x : Value) : Value := .tuple #[.int .i64 r.1, x, .int .i64 r.2.2]
def c_short_Read_D (r : (Int × (List Int) × Int)) (x : Value) : List Fact := [fRep (rL (rI .i64)) x r.2.1]
set_option maxHeartbeats 4000000 in
set_option maxRecDepth 100000 in
theorem c_short_Read (E : Nat → Prop) (w0 : World) (p0 : api_Chart) (v0 : Value) (r : (Int × (List Int) × Int)) (h : F_short_Read p0 = some r) (S : St0 E [] w0 w0 [] [fRep r_api_Chart (v0) p0]) :
    Calls Tryd.prog 13 #[v0] w0 (Ret (X := Value) E [] w0 (c_short_Read_val r) (fun _ => []) (c_short_Read_D r)) := by
  unfold F_short_Read at h
  obtain ⟨u1, rfl, hu2⟩ := S.know (i := 0) (e := fRep r_api_Chart (v0) p0) rfl
  have S := S.learn (fRep (rL r_api_Row) u1 p0.Rows) hu2
  obtain ⟨ad3, cp4, _, rfl, _⟩ := hu2
  refine sEnter (args := [.agg #[iv p0.Start, .slice ad3 p0.Rows.length cp4]]) 101 Tryd.func13 rfl rfl (by simp) S (fun a S => ?_)
  refine sSeq (fun K5 hK5 => ?_)
  refine sRegion ?_
  refine sBox (v := .agg #[iv p0.Start, .slice ad3 p0.Rows.length cp4]) S (wN rfl) rfl rfl [iv p0.Start, .slice ad3 p0.Rows.length cp4] rfl rfl (lb rfl) fun a b6 w S => ?_
  refine sMove (iv 0) S (wN rfl) (.inr rfl) rfl rfl (lb rfl) fun a S => ?_
  refine sMove (.slice none 0 0) S (wN rfl) (.inr rfl) rfl rfl (lb rfl) fun a S => ?_
  refine sMove (iv 0) S (wN rfl) (.inr rfl) rfl rfl (lb rfl) fun a S => ?_
  refine leafL (leafT (hK5 _ _ ?_))
  refine sSeq (fun K7 hK7 => ?_)
  refine sSeq (fun K8 hK8 => ?_)
  refine sRegion ?_
  refine sField (b := b6) (off := 0) 1 1 S (wN rfl) rfl rfl rfl rfl rfl (lb rfl) fun a S => ?_
  refine sLoad1 (p := b6) (off := 1) (T := 32) (vs := [iv p0.Start, .slice ad3 p0.Rows.length cp4]) 0 (.slice ad3 p0.Rows.length cp4) S (wN rfl) rfl rfl rfl rfl rfl rfl (lb rfl) fun a S => ?_
  refine sLen (ad := ad3) (m := p0.Rows.length) (c := cp4) S (wN rfl) rfl Tryd.underlying30 rfl rfl (lb rfl) fun a S => ?_
  obtain ⟨z9, hx10, h⟩ := bindSome h
  refine sBin (iv z9) S (wN rfl) rfl rfl rfl (bRem _ _ _ _ (x := (p0.Rows.length : Int)) (y := 2) hx10) rfl (lb rfl) fun a S => ?_
  refine sBin (.bool (z9 == 1)) S (wN rfl) rfl rfl rfl (bEq _ _ _ _ .i64 z9 1) rfl (lb rfl) fun a S => ?_
  refine leafL (leafT (hK8 _ _ ?_))
  rcases iteSome h with ⟨hc11, h⟩ | ⟨hc11, h⟩
  · refine sCondT S rfl hc11 ?_
    refine sSeq (fun K12 hK12 => ?_)
    refine sRegion ?_
    refine sMove (iv 0) S (wN rfl) (.inr rfl) rfl rfl (lb rfl) fun a S => ?_
    refine sMove (.slice none 0 0) S (wN rfl) (.inr rfl) rfl rfl (lb rfl) fun a S => ?_
    refine sMove (iv 8) S (wN rfl) (.inr rfl) rfl rfl (lb rfl) fun a S => ?_
    refine leafL (leafT (hK12 _ _ ?_))
    obtain rfl := Option.some.inj h
    have S := S.learn (fRep (rL (rI .i64)) (.slice none 0 0) ([] : (List Int))) (rL_nil _ _ _)
    exact wp_ret (rThen (sRet (.tuple #[iv 0, .slice none 0 0, iv 8]) S (rsl3 rfl (rvT (t := 2) (v := iv 0) S rfl) (rvT (t := 3) (v := .slice none 0 0) S rfl) (rvT (t := 4) (v := iv 8) S rfl)) ⟨(.slice none 0 0), rfl, S.mem.sel [] [0] (by decide) rfl rfl⟩))
  refine sCondF S rfl hc11 ?_
  refine wp_skip (leafT (hK7 _ _ ?_))
  refine sSeq (fun K13 hK13 => ?_)
  refine sRegion ?_
  refine sField (b := b6) (off := 0) 1 1 S (wN rfl) rfl rfl rfl rfl rfl (lb rfl) fun a S => ?_
  refine sLoad1 (p := b6) (off := 1) (T := 32) (vs := [iv p0.Start, .slice ad3 p0.Rows.length cp4]) 0 (.slice ad3 p0.Rows.length cp4) S (wN rfl) rfl rfl rfl rfl rfl rfl (lb rfl) fun a S => ?_
  refine sLen (ad := ad3) (m := p0.Rows.length) (c := cp4) S (wN rfl) rfl Tryd.underlying30 rfl rfl (lb rfl) fun a S => ?_
  obtain ⟨z14, hx15, h⟩ := bindSome h
  refine sBin (iv z14) S (wN rfl) rfl rfl rfl (bQuo _ _ _ _ (x := (p0.Rows.length : Int)) (y := 2) hx15) rfl (lb rfl) fun a S => ?_
  obtain ⟨m18, hx19, h⟩ := bindSome h
  refine sMake (r := (rI .i64)) (m := z14) (xs := m18) (iv 0) (0 : Int) 8 S (wN rfl) rfl Tryd.underlying22 rfl rfl (by decide) (fun _ _ => rfl) rfl rfl hx19 rfl (lb rfl) fun a w ad16 cp17 S => ?_
  refine sMove (.slice ad16 m18.length cp17) S (wN rfl) (.inr rfl) rfl rfl (lb rfl) fun a S => ?_
  refine leafL (leafT (hK13 _ _ ?_))
  obtain ⟨t23, h, g24⟩ := bindSome h
  refine sCut (fun a w => ∃ o20, o20 = t23 ∧ ∃ ad21, ∃ cp22, St [] E [] w0 101 a w [(1, .pointer (some ⟨b6, 0, none⟩)), (5, .slice ad21 o20.length cp22)] [eBox b6 32 [iv p0.Start, .slice ad3 p0.Rows.length cp4], eRow (rI .i64) 3 (.slice ad21 o20.length cp22) o20] [fRep (rL r_api_Row) (.slice ad3 p0.Rows.length cp4) p0.Rows]) ?_ (fun a w hI => ?_)
  · refine sSeq (fun K25 hK25 => ?_)
    refine sRegion ?_
    refine sMove (.slice ad16 m18.length cp17) S (wN rfl) (.inl rfl) rfl rfl (lb rfl) fun a S => ?_
    refine sLen (ad := ad16) (m := m18.length) (c := cp17) S (wN rfl) rfl Tryd.underlying22 rfl rfl (lb rfl) fun a S => ?_
    refine sMove (iv 0) S (wN rfl) (.inl rfl) rfl rfl (lb rfl) fun a S => ?_
    refine leafL (leafT (hK25 _ _ ?_))
    refine wp_block ?_
    obtain ⟨t32, hl, g31⟩ := bindSome h
    refine sLoop hl (fun s0 a w => match s0 with | (s26, s29) => ∃ ad27, ∃ cp28, St [] E [] w0 101 a w [(1, .pointer (some ⟨b6, 0, none⟩)), (5, .slice ad27 s26.length cp28), (23, iv (m18.length : Int)), (24, iv s29)] [eBox b6 32 [iv p0.Start, .slice ad3 p0.Rows.length cp4], eRow (rI .i64) 3 (.slice ad27 s26.length cp28) s26] [fRep (rL r_api_Row) (.slice ad3 p0.Rows.length cp4) p0.Rows]) ⟨ad16, cp17, S.fix [1, 0] [0] (by decide) rfl rfl rfl⟩ ?_
    clear hl h
    intro s0 a w c0 hI h hu30
    obtain ⟨s26, s29⟩ := s0
    unfold short_Read_l2 at h
    dsimp only at h hI
    obtain ⟨ad27, cp28, S⟩ := hI
    refine sSeq (fun K36 hK36 => ?_)
    refine sRegion ?_
    refine sBin (.bool (decide (s29 < (m18.length : Int)))) S (wN rfl) rfl rfl rfl (bLt _ _ _ _ .i64 s29 (m18.length : Int)) rfl (lb rfl) fun a S => ?_
    refine leafL (leafT (hK36 _ _ ?_))
    refine sSeq (fun K37 hK37 => ?_)
    rcases iteSome h with ⟨hc38, h⟩ | ⟨hc38, h⟩
    rotate_left
    · refine sCondF S rfl hc38 ?_
      obtain rfl := Option.some.inj h
      obtain rfl := hu30 _ rfl
      have h := g31
      clear g31
      try dsimp only at h
      exact wp_exit (xThen (xThen (xHit (leafT (⟨s26, Option.some.inj h, ad27, cp28, S.fix [0, 1] [0] (by decide) rfl rfl rfl⟩)))))
    refine sCondT S rfl hc38 ?_
    refine wp_skip (leafT (hK37 _ _ ?_))
    obtain ⟨t42, h, g43⟩ := bindSome h
    refine sCut (fun a w => ∃ o39, o39 = t42 ∧ ∃ ad40, ∃ cp41, St [] E [] w0 101 a w [(1, .pointer (some ⟨b6, 0, none⟩)), (5, .slice ad40 o39.length cp41), (23, iv (m18.length : Int)), (24, iv s29)] [eBox b6 32 [iv p0.Start, .slice ad3 p0.Rows.length cp4], eRow (rI .i64) 3 (.slice ad40 o39.length cp41) o39] [fRep (rL r_api_Row) (.slice ad3 p0.Rows.length cp4) p0.Rows]) ?_ (fun a w hI => ?_)
    rotate_left
    · obtain ⟨o39, rfl, ad40, cp41, S⟩ := hI
      have h := g43
      clear g43
      try dsimp only at h
      refine sRegion ?_
      refine sBin (iv (w64 (s29 + 1))) S (wN rfl) rfl rfl rfl (bAdd _ _ _ _ s29 1) rfl (lb rfl) fun a S => ?_
      refine sMove (iv (w64 (s29 + 1))) S (wN rfl) (.inl rfl) rfl rfl (lb rfl) fun a S => ?_
      exact leafL (leafT (⟨(o39, w64 (s29 + 1)), (Option.some.inj h).symm, ⟨ad40, cp41, S.fix [0, 1] [0] (by decide) rfl rfl rfl⟩⟩))
    refine wp_block ?_
    refine sSeq (fun K44 hK44 => ?_)
    refine sRegion ?_
    refine sMove (iv s29) S (wN rfl) (.inl rfl) rfl rfl (lb rfl) fun a S => ?_
    refine sMove (iv s29) S (wN rfl) (.inr rfl) rfl rfl (lb rfl) fun a S => ?_
    refine leafL (leafT (hK44 _ _ ?_))
    refine sSeq (fun K45 hK45 => ?_)
    refine sRegion ?_
    refine sField (b := b6) (off := 0) 1 1 S (wN rfl) rfl rfl rfl rfl rfl (lb rfl) fun a S => ?_
    refine sLoad1 (p := b6) (off := 1) (T := 32) (vs := [iv p0.Start, .slice ad3 p0.Rows.length cp4]) 0 (.slice ad3 p0.Rows.length cp4) S (wN rfl) rfl rfl rfl rfl rfl rfl (lb rfl) fun a S => ?_
    refine sMove (iv s29) S (wN rfl) (.inl rfl) rfl rfl (lb rfl) fun a S => ?_
    refine sBin (iv (w64 (2 * s29))) S (wN rfl) rfl rfl rfl (bMul _ _ _ _ 2 s29) rfl (lb rfl) fun a S => ?_
    obtain ⟨x46, hx47, h⟩ := bindSome h
    obtain ⟨q48, hq49, S⟩ := pIdx (P := Tryd.prog) (r := r_api_Row) (v := .slice ad3 p0.Rows.length cp4) (xs := p0.Rows) (j := w64 (2 * s29)) 30 41 0 S Tryd.underlying30 rfl rfl hx47
    refine sIdxV (v := .slice ad3 p0.Rows.length cp4) (k := .i64) (j := w64 (2 * s29)) S (wN rfl) rfl rfl rfl hq49 rfl (lb rfl) fun a S => ?_
    obtain ⟨q50, hq51, S⟩ := pFld (P := Tryd.prog) (r := r_api_Row) (s2 := (rL r_api_Stitch)) (g := (·.Cells)) (q := q48) (z := x46) 41 1 0 1 S rfl rfl comp_api_Row_Cells
    refine sFldV (q := q48) S (wN rfl) rfl rfl hq51 rfl (lb rfl) fun a S => ?_
    obtain ⟨u52, S⟩ := pLoad (r := (rL r_api_Stitch)) (q := q50) (x := x46.Cells) 0 S rfl
    obtain ⟨ad53, cp54, _, rfl, _⟩ := S.mem.know (i := 1) (e := fRep (rL r_api_Stitch) (u52) x46.Cells) rfl
    refine sLoadV1 (vq := q50) 0 (.slice ad53 x46.Cells.length cp54) S (wN rfl) rfl rfl rfl rfl rfl (lb rfl) fun a S => ?_
    refine sMove (.slice ad53 x46.Cells.length cp54) S (wN rfl) (.inr rfl) rfl rfl (lb rfl) fun a S => ?_
    refine leafL (leafT (hK45 _ _ ?_))
    refine wp_block ?_
    obtain ⟨t60, hl, g59⟩ := bindSome h
    refine sLoop hl (fun s0 a w => match s0 with | s55 => ∃ ad56, ∃ cp57, St [] E [] w0 101 a w [(1, .pointer (some ⟨b6, 0, none⟩)), (5, .slice ad56 s55.length cp57), (6, iv s29), (7, .slice ad53 x46.Cells.length cp54), (23, iv (m18.length : Int)), (24, iv s29)] [eBox b6 32 [iv p0.Start, .slice ad3 p0.Rows.length cp4], eRow (rI .i64) 3 (.slice ad56 s55.length cp57) s55] [fRep (rL r_api_Stitch) (.slice ad53 x46.Cells.length cp54) x46.Cells, fRep (rL r_api_Row) (.slice ad3 p0.Rows.length cp4) p0.Rows]) ⟨ad27, cp28, S.fix [0, 1] [1, 4] (by decide) rfl rfl rfl⟩ ?_
    clear hl h
    intro s55 a w c0 hI h hu58
    unfold short_Read_l1 at h
    dsimp only at h hI
    obtain ⟨ad56, cp57, S⟩ := hI
    refine sSeq (fun K64 hK64 => ?_)
    obtain ⟨t66, h, g67⟩ := bindSome h
    refine sCut (fun a w => ∃ o65, o65 = t66 ∧ St [] E [] w0 101 a w [(1, .pointer (some ⟨b6, 0, none⟩)), (5, .slice ad56 s55.length cp57), (6, iv s29), (7, .slice ad53 x46.Cells.length cp54), (23, iv (m18.length : Int)), (24, iv s29), (51, .bool o65)] [eBox b6 32 [iv p0.Start, .slice ad3 p0.Rows.length cp4], eRow (rI .i64) 3 (.slice ad56 s55.length cp57) s55] [fRep (rL r_api_Stitch) (.slice ad53 x46.Cells.length cp54) x46.Cells, fRep (rL r_api_Row) (.slice ad3 p0.Rows.length cp4) p0.Rows]) ?_ (fun a w hI => ?_)
    rotate_left
    · obtain ⟨o65, rfl, S⟩ := hI
      have h := g67
      clear g67
      try dsimp only at h
      rcases iteSome h with ⟨hc84, h⟩ | ⟨hc84, h⟩
      rotate_left
      · refine sCondF S rfl hc84 ?_
        obtain rfl := Option.some.inj h
        obtain rfl := hu58 _ rfl
        have h := g59
        clear g59
        try dsimp only at h
        exact wp_exit (xThen (xThen (xHit (leafB (leafT (⟨s55, Option.some.inj h, ad56, cp57, S.fix [0, 1] [1] (by decide) rfl rfl rfl⟩))))))
      refine sCondT S rfl hc84 ?_
      refine wp_skip (leafT (hK64 _ _ ?_))
      refine wp_block ?_
      refine sRegion ?_
      refine sMove (.slice ad56 s55.length cp57) S (wN rfl) (.inl rfl) rfl rfl (lb rfl) fun a S => ?_
      refine sMove (iv s29) S (wN rfl) (.inl rfl) rfl rfl (lb rfl) fun a S => ?_
      obtain ⟨x85, hx86, h⟩ := bindSome h
      obtain ⟨q87, hq88, hp89⟩ := pIdxR (P := Tryd.prog) (r := (rI .i64)) (T := 3) (v := .slice ad56 s55.length cp57) (xs := s55) (j := s29) 22 3 1 S Tryd.underlying22 rfl rfl hx86
      refine sIdxV (v := .slice ad56 s55.length cp57) (k := .i64) (j := s29) S (wN rfl) rfl rfl rfl hq88 rfl (lb rfl) fun a S => ?_
      refine sLoadR (r := (rI .i64)) (T := 3) (xs := s55) (x := x85) (v := .slice ad56 s55.length cp57) (vq := q87) (j := s29) 1 (iv x85) S hp89 (wN rfl) rfl rfl rfl hx86 (fun _ _ _ h => h) (scal_I _) rfl rfl (lb rfl) fun a S => ?_
      refine sBin (iv (w64 (x85 + 1))) S (wN rfl) rfl rfl rfl (bAdd _ _ _ _ x85 1) rfl (lb rfl) fun a S => ?_
      obtain ⟨q90, hq91, hp92⟩ := pIdxR (P := Tryd.prog) (r := (rI .i64)) (T := 3) (v := .slice ad56 s55.length cp57) (xs := s55) (j := s29) 22 3 1 S Tryd.underlying22 rfl rfl hx86
      refine sIdxV (v := .slice ad56 s55.length cp57) (k := .i64) (j := s29) S (wN rfl) rfl rfl rfl hq91 rfl (lb rfl) fun a S => ?_
      obtain ⟨l93, hx94, h⟩ := bindSome h
      refine sStoreR (r := (rI .i64)) (T := 3) (xs := s55) (ys := l93) (y := (w64 (x85 + 1))) (v := .slice ad56 s55.length cp57) (vq := q90) (u := iv (w64 (x85 + 1))) (j := s29) 1 S hp92 (wN rfl) rfl rfl rfl rfl rfl hx94 rfl rfl fun a w S => ?_
      rw [setO_v hx94 ad56 cp57] at S
      exact leafL (leafB (leafT (⟨l93, (Option.some.inj h).symm, ⟨ad56, cp57, S.fix [1, 0] [0, 1] (by decide) rfl rfl rfl⟩⟩)))
    refine sRegion ?_
    refine sMove (.slice ad56 s55.length cp57) S (wN rfl) (.inl rfl) rfl rfl (lb rfl) fun a S => ?_
    refine sMove (iv s29) S (wN rfl) (.inl rfl) rfl rfl (lb rfl) fun a S => ?_
    obtain ⟨x68, hx69, h⟩ := bindSome h
    obtain ⟨q70, hq71, hp72⟩ := pIdxR (P := Tryd.prog) (r := (rI .i64)) (T := 3) (v := .slice ad56 s55.length cp57) (xs := s55) (j := s29) 22 3 1 S Tryd.underlying22 rfl rfl hx69
    refine sIdxV (v := .slice ad56 s55.length cp57) (k := .i64) (j := s29) S (wN rfl) rfl rfl rfl hq71 rfl (lb rfl) fun a S => ?_
    refine sLoadR (r := (rI .i64)) (T := 3) (xs := s55) (x := x68) (v := .slice ad56 s55.length cp57) (vq := q70) (j := s29) 1 (iv x68) S hp72 (wN rfl) rfl rfl rfl hx69 (fun _ _ _ h => h) (scal_I _) rfl rfl (lb rfl) fun a S => ?_
    refine sMove (.slice ad53 x46.Cells.length cp54) S (wN rfl) (.inl rfl) rfl rfl (lb rfl) fun a S => ?_
    refine sLen (ad := ad53) (m := x46.Cells.length) (c := cp54) S (wN rfl) rfl Tryd.underlying39 rfl rfl (lb rfl) fun a S => ?_
    refine sBin (.bool (decide (x68 < (x46.Cells.length : Int)))) S (wN rfl) rfl rfl rfl (bLt _ _ _ _ .i64 x68 (x46.Cells.length : Int)) rfl (lb rfl) fun a S => ?_
    refine sMove (.bool (decide (x68 < (x46.Cells.length : Int)))) S (wN rfl) (.inl rfl) rfl rfl (lb rfl) fun a S => ?_
    rcases iteSome h with ⟨hc73, h⟩ | ⟨hc73, h⟩
    rotate_left
    · refine sSkip 7 true 41 42 S rfl rfl rfl hc73 rfl (lb rfl) fun a S => ?_
      refine sSkip 7 true 41 43 S rfl rfl rfl hc73 rfl (lb rfl) fun a S => ?_
      refine sSkip 7 true 41 44 S rfl rfl rfl hc73 rfl (lb rfl) fun a S => ?_
      refine sSkip 7 true 41 45 S rfl rfl rfl hc73 rfl (lb rfl) fun a S => ?_
      refine sSkip 7 true 41 46 S rfl rfl rfl hc73 rfl (lb rfl) fun a S => ?_
      refine sSkip 7 true 41 47 S rfl rfl rfl hc73 rfl (lb rfl) fun a S => ?_
      refine sSkip 7 true 41 48 S rfl rfl rfl hc73 rfl (lb rfl) fun a S => ?_
      refine sSkip 7 true 41 49 S rfl rfl rfl hc73 rfl (lb rfl) fun a S => ?_
      refine sSkip 7 true 41 50 S rfl rfl rfl hc73 rfl (lb rfl) fun a S => ?_
      refine sPickF (.bool false) S (wN rfl) rfl rfl hc73 rfl rfl (lb rfl) fun a S => ?_
      exact leafL (leafT (⟨false, Option.some.inj h, S.fix [0, 1] [0, 1] (by decide) rfl rfl rfl⟩))
    refine sMove (.slice ad53 x46.Cells.length cp54) S (wG 7 true 41 rfl rfl rfl hc73) (.inl rfl) rfl rfl (lb rfl) fun a S => ?_
    refine sMove (.slice ad56 s55.length cp57) S (wG 7 true 41 rfl rfl rfl hc73) (.inl rfl) rfl rfl (lb rfl) fun a S => ?_
    refine sMove (iv s29) S (wG 7 true 41 rfl rfl rfl hc73) (.inl rfl) rfl rfl (lb rfl) fun a S => ?_
    obtain ⟨q74, hq75, hp76⟩ := pIdxR (P := Tryd.prog) (r := (rI .i64)) (T := 3) (v := .slice ad56 s55.length cp57) (xs := s55) (j := s29) 22 3 1 S Tryd.underlying22 rfl rfl hx69
    refine sIdxV (v := .slice ad56 s55.length cp57) (k := .i64) (j := s29) S (wG 7 true 41 rfl rfl rfl hc73) rfl rfl rfl hq75 rfl (lb rfl) fun a S => ?_
    refine sLoadR (r := (rI .i64)) (T := 3) (xs := s55) (x := x68) (v := .slice ad56 s55.length cp57) (vq := q74) (j := s29) 1 (iv x68) S hp76 (wG 7 true 41 rfl rfl rfl hc73) rfl rfl rfl hx69 (fun _ _ _ h => h) (scal_I _) rfl rfl (lb rfl) fun a S => ?_
    obtain ⟨x77, hx78, h⟩ := bindSome h
    obtain ⟨q79, hq80, S⟩ := pIdx (P := Tryd.prog) (r := r_api_Stitch) (v := .slice ad53 x46.Cells.length cp54) (xs := x46.Cells) (j := x68) 39 38 0 S Tryd.underlying39 rfl rfl hx78
    refine sIdxV (v := .slice ad53 x46.Cells.length cp54) (k := .i64) (j := x68) S (wG 7 true 41 rfl rfl rfl hc73) rfl rfl rfl hq80 rfl (lb rfl) fun a S => ?_
    obtain ⟨q81, hq82, S⟩ := pFld (P := Tryd.prog) (r := r_api_Stitch) (s2 := (rI .u8)) (g := (·.Kind)) (q := q79) (z := x77) 38 0 0 0 S rfl rfl comp_api_Stitch_Kind
    refine sFldV (q := q79) S (wG 7 true 41 rfl rfl rfl hc73) rfl rfl hq82 rfl (lb rfl) fun a S => ?_
    obtain ⟨u83, S⟩ := pLoad (r := (rI .u8)) (q := q81) (x := x77.Kind) 0 S rfl
    obtain rfl : u83 = .int .u8 x77.Kind := S.mem.know (i := 1) (e := fRep (rI .u8) (u83) x77.Kind) rfl
    refine sLoadV1 (vq := q81) 0 (.int .u8 x77.Kind) S (wG 7 true 41 rfl rfl rfl hc73) rfl rfl rfl rfl rfl (lb rfl) fun a S => ?_
    refine sBin (.bool (x77.Kind == 1)) S (wG 7 true 41 rfl rfl rfl hc73) rfl rfl rfl (bEq _ _ _ _ .u8 x77.Kind 1) rfl (lb rfl) fun a S => ?_
    refine sPickT (.bool (x77.Kind == 1)) S (wN rfl) rfl rfl hc73 rfl rfl (lb rfl) fun a S => ?_
    exact leafL (leafT (⟨x77.Kind == 1, Option.some.inj h, S.fix [0, 1] [4, 5] (by decide) rfl rfl rfl⟩))
  obtain ⟨o20, rfl, ad21, cp22, S⟩ := hI
  have h := g24
  clear g24
  try dsimp only at h
  refine sSeq (fun K95 hK95 => ?_)
  refine sRegion ?_
  refine sField (b := b6) (off := 0) 0 0 S (wN rfl) rfl rfl rfl rfl rfl (lb rfl) fun a S => ?_
  refine sLoad1 (p := b6) (off := 0) (T := 32) (vs := [iv p0.Start, .slice ad3 p0.Rows.length cp4]) 0 (iv p0.Start) S (wN rfl) rfl rfl rfl rfl rfl rfl (lb rfl) fun a S => ?_
  refine sMove (.slice ad21 o20.length cp22) S (wN rfl) (.inl rfl) rfl rfl (lb rfl) fun a S => ?_
  obtain ⟨r96, hx97, h⟩ := bindSome h
  have S := S.shutR (r := (rI .i64)) (T := 3) (v := .slice ad21 o20.length cp22) (xs := o20) 1 rfl
  refine sCall (X := Value) (f := 12) (vs := [iv p0.Start, .slice ad21 o20.length cp22]) (val := c_short_Chart_val r96) (B' := fun _ => []) (D' := c_short_Chart_D r96) [] [eBox b6 32 [iv p0.Start, .slice ad3 p0.Rows.length cp4]] [fRep (rL (rI .i64)) (.slice ad21 o20.length cp22) o20] [0] [0] S (wN rfl) rfl callee12 rfl (by decide) rfl rfl (fun E1 w1 S1 => c_short_Chart E1 w1 p0.Start o20 (.slice ad21 o20.length cp22) r96 hx97 S1) rfl (lb rfl) fun u98 a w S => ?_
  obtain ⟨u99, rfl, hu100⟩ := S.mem.know (i := 0) (e := fRep r_api_Chart (u98) r96.1) rfl
  have S := S.learn (fRep (rL r_api_Row) u99 r96.1.Rows) hu100
  obtain ⟨ad101, cp102, _, rfl, _⟩ := hu100
  refine sMove (.tuple #[.agg #[iv r96.1.Start, .slice ad101 r96.1.Rows.length cp102], iv r96.2]) S (wN rfl) (.inl rfl) rfl rfl (lb rfl) fun a S => ?_
  refine sExtract (vs := [.agg #[iv r96.1.Start, .slice ad101 r96.1.Rows.length cp102], iv r96.2]) (.agg #[iv r96.1.Start, .slice ad101 r96.1.Rows.length cp102]) S (wN rfl) rfl rfl rfl rfl (lb rfl) fun a S => ?_
  refine sExtract (vs := [.agg #[iv r96.1.Start, .slice ad101 r96.1.Rows.length cp102], iv r96.2]) (iv r96.2) S (wN rfl) rfl rfl rfl rfl (lb rfl) fun a S => ?_
  refine sAlloc (.agg #[iv 0, .slice none 0 0]) S (wN rfl) rfl rfl [iv 0, .slice none 0 0] rfl rfl (lb rfl) fun a b103 w S => ?_
  refine sStore (p := b103) (off := 0) (T := 32) (vs := [iv 0, .slice none 0 0]) (v := .agg #[iv r96.1.Start, .slice ad101 r96.1.Rows.length cp102]) 0 [iv r96.1.Start, .slice ad101 r96.1.Rows.length cp102] S (wN rfl) rfl rfl rfl rfl rfl rfl rfl (by simp) rfl fun a w S => ?_
  refine sMove (iv r96.2) S (wN rfl) (.inr rfl) rfl rfl (lb rfl) fun a S => ?_
  refine leafL (leafT (hK95 _ _ ?_))
  refine sSeq (fun K104 hK104 => ?_)
  refine sSeq (fun K105 hK105 => ?_)
  refine sRegion ?_
  refine sMove (iv r96.2) S (wN rfl) (.inl rfl) rfl rfl (lb rfl) fun a S => ?_
  refine sBin (.bool (r96.2 != 0)) S (wN rfl) rfl rfl rfl (bNe _ _ _ _ .i64 r96.2 0) rfl (lb rfl) fun a S => ?_
  refine leafL (leafT (hK105 _ _ ?_))
  rcases iteSome h with ⟨hc106, h⟩ | ⟨hc106, h⟩
  · refine sCondT S rfl hc106 ?_
    refine sSeq (fun K107 hK107 => ?_)
    refine sRegion ?_
    refine sMove (iv 0) S (wN rfl) (.inr rfl) rfl rfl (lb rfl) fun a S => ?_
    refine sMove (.slice none 0 0) S (wN rfl) (.inr rfl) rfl rfl (lb rfl) fun a S => ?_
    refine sMove (iv 8) S (wN rfl) (.inr rfl) rfl rfl (lb rfl) fun a S => ?_
    refine leafL (leafT (hK107 _ _ ?_))
    obtain rfl := Option.some.inj h
    have S := S.learn (fRep (rL (rI .i64)) (.slice none 0 0) ([] : (List Int))) (rL_nil _ _ _)
    exact wp_ret (rThen (sRet (.tuple #[iv 0, .slice none 0 0, iv 8]) S (rsl3 rfl (rvT (t := 2) (v := iv 0) S rfl) (rvT (t := 3) (v := .slice none 0 0) S rfl) (rvT (t := 4) (v := iv 8) S rfl)) ⟨(.slice none 0 0), rfl, S.mem.sel [] [0] (by decide) rfl rfl⟩))
  refine sCondF S rfl hc106 ?_
  refine wp_skip (leafT (hK104 _ _ ?_))
  obtain ⟨t108, h, g109⟩ := bindSome h
  refine sCut (fun a w => .inl () = t108 ∧ St [] E [] w0 101 a w [(1, .pointer (some ⟨b6, 0, none⟩)), (5, .slice ad21 o20.length cp22)] [eBox b6 32 [iv p0.Start, .slice ad3 p0.Rows.length cp4]] [fRep (rL (rI .i64)) (.slice ad21 o20.length cp22) o20, fRep (rL r_api_Row) (.slice ad3 p0.Rows.length cp4) p0.Rows]) ?_ (fun a w hI => ?_)
  rotate_left
  · obtain ⟨rfl, S⟩ := hI
    have h := g109
    clear g109
    try dsimp only at h
    refine sSeq (fun K169 hK169 => ?_)
    refine sRegion ?_
    refine sField (b := b6) (off := 0) 0 0 S (wN rfl) rfl rfl rfl rfl rfl (lb rfl) fun a S => ?_
    refine sLoad1 (p := b6) (off := 0) (T := 32) (vs := [iv p0.Start, .slice ad3 p0.Rows.length cp4]) 0 (iv p0.Start) S (wN rfl) rfl rfl rfl rfl rfl rfl (lb rfl) fun a S => ?_
    refine sMove (.slice ad21 o20.length cp22) S (wN rfl) (.inl rfl) rfl rfl (lb rfl) fun a S => ?_
    refine sMove (iv p0.Start) S (wN rfl) (.inr rfl) rfl rfl (lb rfl) fun a S => ?_
    refine sMove (.slice ad21 o20.length cp22) S (wN rfl) (.inr rfl) rfl rfl (lb rfl) fun a S => ?_
    refine sMove (iv 0) S (wN rfl) (.inr rfl) rfl rfl (lb rfl) fun a S => ?_
    refine leafL (leafT (hK169 _ _ ?_))
    obtain rfl := Option.some.inj h
    exact wp_ret (sRet (.tuple #[iv p0.Start, .slice ad21 o20.length cp22, iv 0]) S (rsl3 rfl (rvT (t := 2) (v := iv p0.Start) S rfl) (rvT (t := 3) (v := .slice ad21 o20.length cp22) S rfl) (rvT (t := 4) (v := iv 0) S rfl)) ⟨(.slice ad21 o20.length cp22), rfl, S.mem.sel [] [0] (by decide) rfl rfl⟩)
  refine sSeq (fun K110 hK110 => ?_)
  refine sRegion ?_
  refine sField (b := b6) (off := 0) 1 1 S (wN rfl) rfl rfl rfl rfl rfl (lb rfl) fun a S => ?_
  refine sLoad1 (p := b6) (off := 1) (T := 32) (vs := [iv p0.Start, .slice ad3 p0.Rows.length cp4]) 1 (.slice ad3 p0.Rows.length cp4) S (wN rfl) rfl rfl rfl rfl rfl rfl (lb rfl) fun a S => ?_
  refine sLen (ad := ad3) (m := p0.Rows.length) (c := cp4) S (wN rfl) rfl Tryd.underlying30 rfl rfl (lb rfl) fun a S => ?_
  refine sMove (iv 0) S (wN rfl) (.inl rfl) rfl rfl (lb rfl) fun a S => ?_
  refine leafL (leafT (hK110 _ _ ?_))
  refine wp_block ?_
  obtain ⟨t114, hl, g113⟩ := bindSome h
  refine sLoop hl (fun s0 a w => match s0 with | s111 => St [] E [] w0 101 a w [(1, .pointer (some ⟨b6, 0, none⟩)), (5, .slice ad21 o20.length cp22), (8, .pointer (some ⟨b103, 0, none⟩)), (69, .slice ad3 p0.Rows.length cp4), (70, iv (p0.Rows.length : Int)), (71, iv s111)] [eBox b6 32 [iv p0.Start, .slice ad3 p0.Rows.length cp4], eBox b103 32 [iv r96.1.Start, .slice ad101 r96.1.Rows.length cp102]] [fRep (rL (rI .i64)) (.slice ad21 o20.length cp22) o20, fRep (rL r_api_Row) (.slice ad3 p0.Rows.length cp4) p0.Rows, fRep (rL r_api_Row) (.slice ad101 r96.1.Rows.length cp102) r96.1.Rows]) (S.fix [1, 0] [2, 3, 0] (by decide) rfl rfl rfl) ?_
  clear hl h
  intro s111 a w c0 hI h hu112
  unfold short_Read_l3 at h
  dsimp only at h hI
  have S := hI
  refine sSeq (fun K115 hK115 => ?_)
  refine sRegion ?_
  refine sBin (.bool (decide (s111 < (p0.Rows.length : Int)))) S (wN rfl) rfl rfl rfl (bLt _ _ _ _ .i64 s111 (p0.Rows.length : Int)) rfl (lb rfl) fun a S => ?_
  refine leafL (leafT (hK115 _ _ ?_))
  refine sSeq (fun K116 hK116 => ?_)
  rcases iteSome h with ⟨hc117, h⟩ | ⟨hc117, h⟩
  rotate_left
  · refine sCondF S rfl hc117 ?_
    obtain rfl := Option.some.inj h
    obtain rfl := hu112 _ rfl
    have h := g113
    clear g113
    try dsimp only at h
    exact wp_exit (xThen (xThen (xHit (leafT (⟨Option.some.inj h, S.fix [0] [0, 1] (by decide) rfl rfl rfl⟩)))))
  refine sCondT S rfl hc117 ?_
  refine wp_skip (leafT (hK116 _ _ ?_))
  refine sSeq (fun K118 hK118 => ?_)
  refine wp_block ?_
  refine sSeq (fun K119 hK119 => ?_)
  refine sRegion ?_
  refine sMove (iv s111) S (wN rfl) (.inl rfl) rfl rfl (lb rfl) fun a S => ?_
  obtain ⟨x120, hx121, h⟩ := bindSome h
  obtain ⟨q122, hq123, S⟩ := pIdx (P := Tryd.prog) (r := r_api_Row) (v := .slice ad3 p0.Rows.length cp4) (xs := p0.Rows) (j := s111) 30 41 1 S Tryd.underlying30 rfl rfl hx121
  refine sIdxV (v := .slice ad3 p0.Rows.length cp4) (k := .i64) (j := s111) S (wN rfl) rfl rfl rfl hq123 rfl (lb rfl) fun a S => ?_
  obtain ⟨u124, S⟩ := pLoad (r := r_api_Row) (q := q122) (x := x120) 0 S rfl
  obtain ⟨u125, rfl, hu126⟩ := S.mem.know (i := 1) (e := fRep r_api_Row (u124) x120) rfl
  have S := S.learn (fRep (rL r_api_Stitch) u125 x120.Cells) hu126
  obtain ⟨ad127, cp128, _, rfl, _⟩ := hu126
  refine sLoadVN (vq := q122) 1 [.bool x120.Back, .slice ad127 x120.Cells.length cp128] S (wN rfl) rfl rfl rfl rfl rfl rfl (lb rfl) fun a S => ?_
  refine sAlloc (.agg #[.bool false, .slice none 0 0]) S (wN rfl) rfl rfl [.bool false, .slice none 0 0] rfl rfl (lb rfl) fun a b129 w S => ?_
  refine sMove (iv s111) S (wN rfl) (.inr rfl) rfl rfl (lb rfl) fun a S => ?_
  refine sStore (p := b129) (off := 0) (T := 41) (vs := [.bool false, .slice none 0 0]) (v := .agg #[.bool x120.Back, .slice ad127 x120.Cells.length cp128]) 0 [.bool x120.Back, .slice ad127 x120.Cells.length cp128] S (wN rfl) rfl rfl rfl rfl rfl rfl rfl (by simp) rfl fun a w S => ?_
  refine leafL (leafT (hK119 _ _ ?_))
  obtain ⟨t131, h, g132⟩ := bindSome h
  refine sCut (fun a w => ∃ o130, o130 = t131 ∧ St [] E [] w0 101 a w [(1, .pointer (some ⟨b6, 0, none⟩)), (5, .slice ad21 o20.length cp22), (8, .pointer (some ⟨b103, 0, none⟩)), (69, .slice ad3 p0.Rows.length cp4), (70, iv (p0.Rows.length : Int)), (71, iv s111), (96, .bool o130)] [eBox b6 32 [iv p0.Start, .slice ad3 p0.Rows.length cp4], eBox b103 32 [iv r96.1.Start, .slice ad101 r96.1.Rows.length cp102]] [fRep (rL (rI .i64)) (.slice ad21 o20.length cp22) o20, fRep (rL r_api_Row) (.slice ad3 p0.Rows.length cp4) p0.Rows, fRep (rL r_api_Row) (.slice ad101 r96.1.Rows.length cp102) r96.1.Rows]) ?_ (fun a w hI => ?_)
  rotate_left
  · obtain ⟨o130, rfl, S⟩ := hI
    have h := g132
    clear g132
    try dsimp only at h
    rcases iteSome h with ⟨hc167, h⟩ | ⟨hc167, h⟩
    rotate_left
    · refine sCondF S rfl hc167 ?_
      refine wp_skip (leafB (leafT (hK118 _ _ ?_)))
      refine sRegion ?_
      refine sBin (iv (w64 (s111 + 1))) S (wN rfl) rfl rfl rfl (bAdd _ _ _ _ s111 1) rfl (lb rfl) fun a S => ?_
      refine sMove (iv (w64 (s111 + 1))) S (wN rfl) (.inl rfl) rfl rfl (lb rfl) fun a S => ?_
      exact leafL (leafT (⟨w64 (s111 + 1), (Option.some.inj h).symm, (S.fix [0, 1] [0, 1, 2] (by decide) rfl rfl rfl)⟩))
    refine sCondT S rfl hc167 ?_
    refine sSeq (fun K168 hK168 => ?_)
    refine sRegion ?_
    refine sMove (iv 0) S (wN rfl) (.inr rfl) rfl rfl (lb rfl) fun a S => ?_
    refine sMove (.slice none 0 0) S (wN rfl) (.inr rfl) rfl rfl (lb rfl) fun a S => ?_
    refine sMove (iv 8) S (wN rfl) (.inr rfl) rfl rfl (lb rfl) fun a S => ?_
    refine leafL (leafT (hK168 _ _ ?_))
    obtain rfl := Option.some.inj h
    obtain rfl := hu112 _ rfl
    have h := g113
    clear g113
    try dsimp only at h
    obtain rfl := Option.some.inj h
    have h := g109
    clear g109
    try dsimp only at h
    obtain rfl := Option.some.inj h
    have S := S.learn (fRep (rL (rI .i64)) (.slice none 0 0) ([] : (List Int))) (rL_nil _ _ _)
    exact wp_ret (rBlock (rThen (rThen (rBlock (rThen (sRet (.tuple #[iv 0, .slice none 0 0, iv 8]) S (rsl3 rfl (rvT (t := 2) (v := iv 0) S rfl) (rvT (t := 3) (v := .slice none 0 0) S rfl) (rvT (t := 4) (v := iv 8) S rfl)) ⟨(.slice none 0 0), rfl, S.mem.sel [] [0] (by decide) rfl rfl⟩))))))
  obtain ⟨x133, hx134, h⟩ := bindSome h
  rcases iteSome h with ⟨hc140, h⟩ | ⟨hc140, h⟩
  · obtain ⟨q141, hq142, S⟩ := pIdx (P := Tryd.prog) (r := r_api_Row) (v := .slice ad101 r96.1.Rows.length cp102) (xs := r96.1.Rows) (j := s111) 30 41 6 S Tryd.underlying30 rfl rfl hx134
    obtain ⟨q143, hq144, S⟩ := pFld (P := Tryd.prog) (r := r_api_Row) (s2 := rB) (g := (·.Back)) (q := q141) (z := x133) 41 0 0 0 S rfl rfl comp_api_Row_Back
    obtain ⟨u145, S⟩ := pLoad (r := rB) (q := q143) (x := x133.Back) 0 S rfl
    obtain rfl : u145 = .bool x133.Back := S.mem.know (i := 1) (e := fRep rB (u145) x133.Back) rfl
    refine sDraw (nf := []) (W := [(0, 76, .pointer (some ⟨b129, 0, none⟩)), (1, 77, .bool x120.Back), (2, 78, .pointer (some ⟨b103, 1, none⟩)), (3, 79, .slice ad101 r96.1.Rows.length cp102), (4, 80, iv s111), (5, 81, q141), (6, 82, q143), (7, 83, .bool x133.Back), (8, 84, .bool (x120.Back != x133.Back)), (9, 85, .bool (x120.Back != x133.Back)), (10, 86, undef), (11, 87, undef), (12, 88, undef), (13, 89, undef), (14, 90, undef), (15, 91, undef), (16, 92, undef), (17, 93, undef), (18, 94, undef), (19, 95, undef), (20, 96, .bool true)]) rfl S ?_
    refine node_by (A := anc_short_Read_0) (nf := []) (Y := []) (W := [(0, 76, .pointer (some ⟨b129, 0, none⟩)), (1, 77, .bool x120.Back), (2, 78, .pointer (some ⟨b103, 1, none⟩)), (3, 79, .slice ad101 r96.1.Rows.length cp102), (4, 80, iv s111), (5, 81, q141), (6, 82, q143), (7, 83, .bool x133.Back), (8, 84, .bool (x120.Back != x133.Back)), (9, 85, .bool (x120.Back != x133.Back)), (10, 86, undef), (11, 87, undef), (12, 88, undef), (13, 89, undef), (14, 90, undef), (15, 91, undef), (16, 92, undef), (17, 93, undef), (18, 94, undef), (19, 95, undef), (20, 96, .bool true)]) 21 (by kernel_rfl) (by kernel_rfl) (by kernel_rfl) (by kernel_rfl) (by kernel_rfl) [0, 1, 2, 3, 4, 5, 6, 7, 8, 9, 10, 11, 12, 13, 14, 15, 16, 17, 18, 19, 20] (by kernel_rfl) (by decide) (by decide) (aF 0 20 (by decide) ?_ (aF 1 19 (by decide) ?_ (aF 2 18 (by decide) ?_ (aF 3 17 (by decide) ?_ (aF 4 16 (by decide) ?_ (aF 5 15 (by decide) ?_ (aF 6 14 (by decide) ?_ (aF 7 13 (by decide) ?_ (aF 8 12 (by decide) ?_ (aF 9 11 (by decide) ?_ (aF 10 10 (by decide) ?_ (aF 11 9 (by decide) ?_ (aF 12 8 (by decide) ?_ (aF 13 7 (by decide) ?_ (aF 14 6 (by decide) ?_ (aF 15 5 (by decide) ?_ (aF 16 4 (by decide) ?_ (aF 17 3 (by decide) ?_ (aF 18 2 (by decide) ?_ (aF 19 1 (by decide) ?_ (aF 20 0 (by decide) ?_ (trivial)))))))))))))))))))))) [(1, .pointer (some ⟨b6, 0, none⟩)), (5, .slice ad21 o20.length cp22), (8, .pointer (some ⟨b103, 0, none⟩)), (69, .slice ad3 p0.Rows.length cp4), (70, iv (p0.Rows.length : Int)), (71, iv s111), (86, undef), (87, undef), (88, undef), (89, undef), (90, undef), (91, undef), (92, undef), (93, undef), (94, undef), (95, undef), (96, .bool true)] (fin_of [none, none, none, none, none, none, some 10, some 11, some 12, some 13, some 14, some 15, some 16, some 17, some 18, some 19, some 20] rfl (by kernel_rfl) (by kernel_rfl)) (fun _ a w S => ?_)
    · refine fI 76 (.pointer (some ⟨b129, 0, none⟩)) [(11, .pointer (some ⟨b129, 0, none⟩))] 0 [none] rfl rfl rfl rfl rfl rfl fun G a w S => ?_
      refine sField (b := b129) (off := 0) 0 0 S (wN rfl) rfl rfl rfl rfl rfl (lb rfl) fun a S => ?_
      exact leafL ⟨rfl, S⟩
    · refine fI 77 (.bool x120.Back) [(76, .pointer (some ⟨b129, 0, none⟩))] 1 [some 0] rfl rfl rfl rfl rfl rfl fun G a w S => ?_
      refine sLoad1 (p := b129) (off := 0) (T := 41) (vs := [.bool x120.Back, .slice ad127 x120.Cells.length cp128]) 0 (.bool x120.Back) S (wN rfl) rfl rfl rfl rfl rfl rfl (lb rfl) fun a S => ?_
      exact leafL ⟨rfl, S⟩
    · refine fI 78 (.pointer (some ⟨b103, 1, none⟩)) [(8, .pointer (some ⟨b103, 0, none⟩))] 2 [none] rfl rfl rfl rfl rfl rfl fun G a w S => ?_
      refine sField (b := b103) (off := 0) 1 1 S (wN rfl) rfl rfl rfl rfl rfl (lb rfl) fun a S => ?_
      exact leafL ⟨rfl, S⟩
    · refine fI 79 (.slice ad101 r96.1.Rows.length cp102) [(78, .pointer (some ⟨b103, 1, none⟩))] 3 [some 2] rfl rfl rfl rfl rfl rfl fun G a w S => ?_
      refine sLoad1 (p := b103) (off := 1) (T := 32) (vs := [iv r96.1.Start, .slice ad101 r96.1.Rows.length cp102]) 2 (.slice ad101 r96.1.Rows.length cp102) S (wN rfl) rfl rfl rfl rfl rfl rfl (lb rfl) fun a S => ?_
      exact leafL ⟨rfl, S⟩
    · refine fI 80 (iv s111) [(10, iv s111)] 4 [none] rfl rfl rfl rfl rfl rfl fun G a w S => ?_
      refine sMove (iv s111) S (wN rfl) (.inl rfl) rfl rfl (lb rfl) fun a S => ?_
      exact leafL ⟨rfl, S⟩
    · refine fI 81 q141 [(79, .slice ad101 r96.1.Rows.length cp102), (80, iv s111)] 5 [some 3, some 4] rfl rfl rfl rfl rfl rfl fun G a w S => ?_
      refine sIdxV (v := .slice ad101 r96.1.Rows.length cp102) (k := .i64) (j := s111) S (wN rfl) rfl rfl rfl hq142 rfl (lb rfl) fun a S => ?_
      exact leafL ⟨rfl, S⟩
    · refine fI 82 q143 [(81, q141)] 6 [some 5] rfl rfl rfl rfl rfl rfl fun G a w S => ?_
      refine sFldV (q := q141) S (wN rfl) rfl rfl hq144 rfl (lb rfl) fun a S => ?_
      exact leafL ⟨rfl, S⟩
    · refine fI 83 (.bool x133.Back) [(82, q143)] 7 [some 6] rfl rfl rfl rfl rfl rfl fun G a w S => ?_
      refine sLoadV1 (vq := q143) 0 (.bool x133.Back) S (wN rfl) rfl rfl rfl rfl rfl (lb rfl) fun a S => ?_
      exact leafL ⟨rfl, S⟩
    · refine fI 84 (.bool (x120.Back != x133.Back)) [(77, .bool x120.Back), (83, .bool x133.Back)] 8 [some 1, some 7] rfl rfl rfl rfl rfl rfl fun G a w S => ?_
      refine sBin (.bool (x120.Back != x133.Back)) S (wN rfl) rfl rfl rfl (bNeB _ _ _ _ Tryd.underlying4 x120.Back x133.Back) rfl (lb rfl) fun a S => ?_
      exact leafL ⟨rfl, S⟩
    · refine fI 85 (.bool (x120.Back != x133.Back)) [(84, .bool (x120.Back != x133.Back))] 9 [some 8] rfl rfl rfl rfl rfl rfl fun G a w S => ?_
      refine sMove (.bool (x120.Back != x133.Back)) S (wN rfl) (.inl rfl) rfl rfl (lb rfl) fun a S => ?_
      exact leafL ⟨rfl, S⟩
    · refine fI 86 undef [(11, .pointer (some ⟨b129, 0, none⟩)), (85, .bool (x120.Back != x133.Back))] 10 [none, some 9] rfl rfl rfl rfl rfl rfl fun G a w S => ?_
      refine sSkip 9 false 85 86 S rfl rfl rfl hc140 rfl (lb rfl) fun a S => ?_
      exact leafL ⟨rfl, S⟩
    · refine fI 87 undef [(86, undef), (85, .bool (x120.Back != x133.Back))] 11 [some 10, some 9] rfl rfl rfl rfl rfl rfl fun G a w S => ?_
      refine sSkip 9 false 85 87 S rfl rfl rfl hc140 rfl (lb rfl) fun a S => ?_
      exact leafL ⟨rfl, S⟩
    · refine fI 88 undef [(8, .pointer (some ⟨b103, 0, none⟩)), (85, .bool (x120.Back != x133.Back))] 12 [none, some 9] rfl rfl rfl rfl rfl rfl fun G a w S => ?_
      refine sSkip 9 false 85 88 S rfl rfl rfl hc140 rfl (lb rfl) fun a S => ?_
      exact leafL ⟨rfl, S⟩
    · refine fI 89 undef [(88, undef), (85, .bool (x120.Back != x133.Back))] 13 [some 12, some 9] rfl rfl rfl rfl rfl rfl fun G a w S => ?_
      refine sSkip 9 false 85 89 S rfl rfl rfl hc140 rfl (lb rfl) fun a S => ?_
      exact leafL ⟨rfl, S⟩
    · refine fI 90 undef [(10, iv s111), (85, .bool (x120.Back != x133.Back))] 14 [none, some 9] rfl rfl rfl rfl rfl rfl fun G a w S => ?_
      refine sSkip 9 false 85 90 S rfl rfl rfl hc140 rfl (lb rfl) fun a S => ?_
      exact leafL ⟨rfl, S⟩
    · refine fI 91 undef [(89, undef), (90, undef), (85, .bool (x120.Back != x133.Back))] 15 [some 13, some 14, some 9] rfl rfl rfl rfl rfl rfl fun G a w S => ?_
      refine sSkip 9 false 85 91 S rfl rfl rfl hc140 rfl (lb rfl) fun a S => ?_
      exact leafL ⟨rfl, S⟩
    · refine fI 92 undef [(91, undef), (85, .bool (x120.Back != x133.Back))] 16 [some 15, some 9] rfl rfl rfl rfl rfl rfl fun G a w S => ?_
      refine sSkip 9 false 85 92 S rfl rfl rfl hc140 rfl (lb rfl) fun a S => ?_
      exact leafL ⟨rfl, S⟩
    · refine fI 93 undef [(92, undef), (85, .bool (x120.Back != x133.Back))] 17 [some 16, some 9] rfl rfl rfl rfl rfl rfl fun G a w S => ?_
      refine sSkip 9 false 85 93 S rfl rfl rfl hc140 rfl (lb rfl) fun a S => ?_
      exact leafL ⟨rfl, S⟩
    · refine fI 94 undef [(87, undef), (93, undef), (85, .bool (x120.Back != x133.Back))] 18 [some 11, some 17, some 9] rfl rfl rfl rfl rfl rfl fun G a w S => ?_
      refine sSkip 9 false 85 94 S rfl rfl rfl hc140 rfl (lb rfl) fun a S => ?_
      exact leafL ⟨rfl, S⟩
    · refine fI 95 undef [(94, undef), (85, .bool (x120.Back != x133.Back))] 19 [some 18, some 9] rfl rfl rfl rfl rfl rfl fun G a w S => ?_
      refine sSkip 9 false 85 95 S rfl rfl rfl hc140 rfl (lb rfl) fun a S => ?_
      exact leafL ⟨rfl, S⟩
    · refine fI 96 (.bool true) [(85, .bool (x120.Back != x133.Back)), (95, undef)] 20 [some 9, some 19] rfl rfl rfl rfl rfl rfl fun G a w S => ?_
      refine sPickT (.bool true) S (wN rfl) rfl rfl hc140 rfl rfl (lb rfl) fun a S => ?_
      exact leafL ⟨rfl, S⟩
    exact leafT (⟨true, Option.some.inj h, S.fix [1, 2] [8, 9, 10] (by decide) rfl rfl rfl⟩)
  obtain ⟨r153, hx154, h⟩ := bindSome h
  obtain ⟨q155, hq156, S⟩ := pIdx (P := Tryd.prog) (r := r_api_Row) (v := .slice ad101 r96.1.Rows.length cp102) (xs := r96.1.Rows) (j := s111) 30 41 6 S Tryd.underlying30 rfl rfl hx134
  obtain ⟨q157, hq158, S⟩ := pFld (P := Tryd.prog) (r := r_api_Row) (s2 := rB) (g := (·.Back)) (q := q155) (z := x133) 41 0 0 0 S rfl rfl comp_api_Row_Back
  obtain ⟨u159, S⟩ := pLoad (r := rB) (q := q157) (x := x133.Back) 0 S rfl
  obtain rfl : u159 = .bool x133.Back := S.mem.know (i := 1) (e := fRep rB (u159) x133.Back) rfl
  obtain ⟨q160, hq161, S⟩ := pIdx (P := Tryd.prog) (r := r_api_Row) (v := .slice ad101 r96.1.Rows.length cp102) (xs := r96.1.Rows) (j := s111) 30 41 10 S Tryd.underlying30 rfl rfl hx134
  obtain ⟨q162, hq163, S⟩ := pFld (P := Tryd.prog) (r := r_api_Row) (s2 := (rL r_api_Stitch)) (g := (·.Cells)) (q := q160) (z := x133) 41 1 0 1 S rfl rfl comp_api_Row_Cells
  obtain ⟨u164, S⟩ := pLoad (r := (rL r_api_Stitch)) (q := q162) (x := x133.Cells) 0 S rfl
  obtain ⟨ad165, cp166, _, rfl, _⟩ := S.mem.know (i := 1) (e := fRep (rL r_api_Stitch) (u164) x133.Cells) rfl
  refine sDraw (nf := []) (W := [(0, 76, .pointer (some ⟨b129, 0, none⟩)), (1, 77, .bool x120.Back), (2, 78, .pointer (some ⟨b103, 1, none⟩)), (3, 79, .slice ad101 r96.1.Rows.length cp102), (4, 80, iv s111), (5, 81, q155), (6, 82, q157), (7, 83, .bool x133.Back), (8, 84, .bool (x120.Back != x133.Back)), (9, 85, .bool (x120.Back != x133.Back)), (10, 86, .pointer (some ⟨b129, 1, none⟩)), (11, 87, .slice ad127 x120.Cells.length cp128), (12, 88, .pointer (some ⟨b103, 1, none⟩)), (13, 89, .slice ad101 r96.1.Rows.length cp102), (14, 90, iv s111), (15, 91, q160), (16, 92, q162), (17, 93, .slice ad165 x133.Cells.length cp166), (18, 94, .bool r153), (19, 95, .bool (!r153)), (20, 96, .bool (!r153))]) rfl S ?_
  refine node_by (A := anc_short_Read_0) (nf := []) (Y := []) (W := [(0, 76, .pointer (some ⟨b129, 0, none⟩)), (1, 77, .bool x120.Back), (2, 78, .pointer (some ⟨b103, 1, none⟩)), (3, 79, .slice ad101 r96.1.Rows.length cp102), (4, 80, iv s111), (5, 81, q155), (6, 82, q157), (7, 83, .bool x133.Back), (8, 84, .bool (x120.Back != x133.Back)), (9, 85, .bool (x120.Back != x133.Back)), (10, 86, .pointer (some ⟨b129, 1, none⟩)), (11, 87, .slice ad127 x120.Cells.length cp128), (12, 88, .pointer (some ⟨b103, 1, none⟩)), (13, 89, .slice ad101 r96.1.Rows.length cp102), (14, 90, iv s111), (15, 91, q160), (16, 92, q162), (17, 93, .slice ad165 x133.Cells.length cp166), (18, 94, .bool r153), (19, 95, .bool (!r153)), (20, 96, .bool (!r153))]) 21 (by kernel_rfl) (by kernel_rfl) (by kernel_rfl) (by kernel_rfl) (by kernel_rfl) [0, 1, 2, 3, 4, 5, 6, 7, 8, 9, 10, 11, 12, 13, 14, 15, 16, 17, 18, 19, 20] (by kernel_rfl) (by decide) (by decide) (aF 0 20 (by decide) ?_ (aF 1 19 (by decide) ?_ (aF 2 18 (by decide) ?_ (aF 3 17 (by decide) ?_ (aF 4 16 (by decide) ?_ (aF 5 15 (by decide) ?_ (aF 6 14 (by decide) ?_ (aF 7 13 (by decide) ?_ (aF 8 12 (by decide) ?_ (aF 9 11 (by decide) ?_ (aF 10 10 (by decide) ?_ (aF 11 9 (by decide) ?_ (aF 12 8 (by decide) ?_ (aF 13 7 (by decide) ?_ (aF 14 6 (by decide) ?_ (aF 15 5 (by decide) ?_ (aF 16 4 (by decide) ?_ (aF 17 3 (by decide) ?_ (aF 18 2 (by decide) ?_ (aF 19 1 (by decide) ?_ (aF 20 0 (by decide) ?_ (trivial)))))))))))))))))))))) [(1, .pointer (some ⟨b6, 0, none⟩)), (5, .slice ad21 o20.length cp22), (8, .pointer (some ⟨b103, 0, none⟩)), (69, .slice ad3 p0.Rows.length cp4), (70, iv (p0.Rows.length : Int)), (71, iv s111), (86, .pointer (some ⟨b129, 1, none⟩)), (87, .slice ad127 x120.Cells.length cp128), (88, .pointer (some ⟨b103, 1, none⟩)), (89, .slice ad101 r96.1.Rows.length cp102), (90, iv s111), (91, q160), (92, q162), (93, .slice ad165 x133.Cells.length cp166), (94, .bool r153), (95, .bool (!r153)), (96, .bool (!r153))] (fin_of [none, none, none, none, none, none, some 10, some 11, some 12, some 13, some 14, some 15, some 16, some 17, some 18, some 19, some 20] rfl (by kernel_rfl) (by kernel_rfl)) (fun _ a w S => ?_)
  · refine fI 76 (.pointer (some ⟨b129, 0, none⟩)) [(11, .pointer (some ⟨b129, 0, none⟩))] 0 [none] rfl rfl rfl rfl rfl rfl fun G a w S => ?_
    refine sField (b := b129) (off := 0) 0 0 S (wN rfl) rfl rfl rfl rfl rfl (lb rfl) fun a S => ?_
    exact leafL ⟨rfl, S⟩
  · refine fI 77 (.bool x120.Back) [(76, .pointer (some ⟨b129, 0, none⟩))] 1 [some 0] rfl rfl rfl rfl rfl rfl fun G a w S => ?_
    refine sLoad1 (p := b129) (off := 0) (T := 41) (vs := [.bool x120.Back, .slice ad127 x120.Cells.length cp128]) 0 (.bool x120.Back) S (wN rfl) rfl rfl rfl rfl rfl rfl (lb rfl) fun a S => ?_
    exact leafL ⟨rfl, S⟩
  · refine fI 78 (.pointer (some ⟨b103, 1, none⟩)) [(8, .pointer (some ⟨b103, 0, none⟩))] 2 [none] rfl rfl rfl rfl rfl rfl fun G a w S => ?_
    refine sField (b := b103) (off := 0) 1 1 S (wN rfl) rfl rfl rfl rfl rfl (lb rfl) fun a S => ?_
    exact leafL ⟨rfl, S⟩
  · refine fI 79 (.slice ad101 r96.1.Rows.length cp102) [(78, .pointer (some ⟨b103, 1, none⟩))] 3 [some 2] rfl rfl rfl rfl rfl rfl fun G a w S => ?_
    refine sLoad1 (p := b103) (off := 1) (T := 32) (vs := [iv r96.1.Start, .slice ad101 r96.1.Rows.length cp102]) 2 (.slice ad101 r96.1.Rows.length cp102) S (wN rfl) rfl rfl rfl rfl rfl rfl (lb rfl) fun a S => ?_
    exact leafL ⟨rfl, S⟩
  · refine fI 80 (iv s111) [(10, iv s111)] 4 [none] rfl rfl rfl rfl rfl rfl fun G a w S => ?_
    refine sMove (iv s111) S (wN rfl) (.inl rfl) rfl rfl (lb rfl) fun a S => ?_
    exact leafL ⟨rfl, S⟩
  · refine fI 81 q155 [(79, .slice ad101 r96.1.Rows.length cp102), (80, iv s111)] 5 [some 3, some 4] rfl rfl rfl rfl rfl rfl fun G a w S => ?_
    refine sIdxV (v := .slice ad101 r96.1.Rows.length cp102) (k := .i64) (j := s111) S (wN rfl) rfl rfl rfl hq156 rfl (lb rfl) fun a S => ?_
    exact leafL ⟨rfl, S⟩
  · refine fI 82 q157 [(81, q155)] 6 [some 5] rfl rfl rfl rfl rfl rfl fun G a w S => ?_
    refine sFldV (q := q155) S (wN rfl) rfl rfl hq158 rfl (lb rfl) fun a S => ?_
    exact leafL ⟨rfl, S⟩
  · refine fI 83 (.bool x133.Back) [(82, q157)] 7 [some 6] rfl rfl rfl rfl rfl rfl fun G a w S => ?_
    refine sLoadV1 (vq := q157) 4 (.bool x133.Back) S (wN rfl) rfl rfl rfl rfl rfl (lb rfl) fun a S => ?_
    exact leafL ⟨rfl, S⟩
  · refine fI 84 (.bool (x120.Back != x133.Back)) [(77, .bool x120.Back), (83, .bool x133.Back)] 8 [some 1, some 7] rfl rfl rfl rfl rfl rfl fun G a w S => ?_
    refine sBin (.bool (x120.Back != x133.Back)) S (wN rfl) rfl rfl rfl (bNeB _ _ _ _ Tryd.underlying4 x120.Back x133.Back) rfl (lb rfl) fun a S => ?_
    exact leafL ⟨rfl, S⟩
  · refine fI 85 (.bool (x120.Back != x133.Back)) [(84, .bool (x120.Back != x133.Back))] 9 [some 8] rfl rfl rfl rfl rfl rfl fun G a w S => ?_
    refine sMove (.bool (x120.Back != x133.Back)) S (wN rfl) (.inl rfl) rfl rfl (lb rfl) fun a S => ?_
    exact leafL ⟨rfl, S⟩
  · refine fI 86 (.pointer (some ⟨b129, 1, none⟩)) [(11, .pointer (some ⟨b129, 0, none⟩)), (85, .bool (x120.Back != x133.Back))] 10 [none, some 9] rfl rfl rfl rfl rfl rfl fun G a w S => ?_
    refine sField (b := b129) (off := 0) 1 1 S (wG 9 false 85 rfl rfl rfl hc140) rfl rfl rfl rfl rfl (lb rfl) fun a S => ?_
    exact leafL ⟨rfl, S⟩
  · refine fI 87 (.slice ad127 x120.Cells.length cp128) [(86, .pointer (some ⟨b129, 1, none⟩)), (85, .bool (x120.Back != x133.Back))] 11 [some 10, some 9] rfl rfl rfl rfl rfl rfl fun G a w S => ?_
    refine sLoad1 (p := b129) (off := 1) (T := 41) (vs := [.bool x120.Back, .slice ad127 x120.Cells.length cp128]) 0 (.slice ad127 x120.Cells.length cp128) S (wG 9 false 85 rfl rfl rfl hc140) rfl rfl rfl rfl rfl rfl (lb rfl) fun a S => ?_
    exact leafL ⟨rfl, S⟩
  · refine fI 88 (.pointer (some ⟨b103, 1, none⟩)) [(8, .pointer (some ⟨b103, 0, none⟩)), (85, .bool (x120.Back != x133.Back))] 12 [none, some 9] rfl rfl rfl rfl rfl rfl fun G a w S => ?_
    refine sField (b := b103) (off := 0) 1 1 S (wG 9 false 85 rfl rfl rfl hc140) rfl rfl rfl rfl rfl (lb rfl) fun a S => ?_
    exact leafL ⟨rfl, S⟩
  · refine fI 89 (.slice ad101 r96.1.Rows.length cp102) [(88, .pointer (some ⟨b103, 1, none⟩)), (85, .bool (x120.Back != x133.Back))] 13 [some 12, some 9] rfl rfl rfl rfl rfl rfl fun G a w S => ?_
    refine sLoad1 (p := b103) (off := 1) (T := 32) (vs := [iv r96.1.Start, .slice ad101 r96.1.Rows.length cp102]) 2 (.slice ad101 r96.1.Rows.length cp102) S (wG 9 false 85 rfl rfl rfl hc140) rfl rfl rfl rfl rfl rfl (lb rfl) fun a S => ?_
    exact leafL ⟨rfl, S⟩
  · refine fI 90 (iv s111) [(10, iv s111), (85, .bool (x120.Back != x133.Back))] 14 [none, some 9] rfl rfl rfl rfl rfl rfl fun G a w S => ?_
    refine sMove (iv s111) S (wG 9 false 85 rfl rfl rfl hc140) (.inl rfl) rfl rfl (lb rfl) fun a S => ?_
    exact leafL ⟨rfl, S⟩
  · refine fI 91 q160 [(89, .slice ad101 r96.1.Rows.length cp102), (90, iv s111), (85, .bool (x120.Back != x133.Back))] 15 [some 13, some 14, some 9] rfl rfl rfl rfl rfl rfl fun G a w S => ?_
    refine sIdxV (v := .slice ad101 r96.1.Rows.length cp102) (k := .i64) (j := s111) S (wG 9 false 85 rfl rfl rfl hc140) rfl rfl rfl hq161 rfl (lb rfl) fun a S => ?_
    exact leafL ⟨rfl, S⟩
  · refine fI 92 q162 [(91, q160), (85, .bool (x120.Back != x133.Back))] 16 [some 15, some 9] rfl rfl rfl rfl rfl rfl fun G a w S => ?_
    refine sFldV (q := q160) S (wG 9 false 85 rfl rfl rfl hc140) rfl rfl hq163 rfl (lb rfl) fun a S => ?_
    exact leafL ⟨rfl, S⟩
  · refine fI 93 (.slice ad165 x133.Cells.length cp166) [(92, q162), (85, .bool (x120.Back != x133.Back))] 17 [some 16, some 9] rfl rfl rfl rfl rfl rfl fun G a w S => ?_
    refine sLoadV1 (vq := q162) 0 (.slice ad165 x133.Cells.length cp166) S (wG 9 false 85 rfl rfl rfl hc140) rfl rfl rfl rfl rfl (lb rfl) fun a S => ?_
    exact leafL ⟨rfl, S⟩
  · refine fI 94 (.bool r153) [(87, .slice ad127 x120.Cells.length cp128), (93, .slice ad165 x133.Cells.length cp166), (85, .bool (x120.Back != x133.Back))] 18 [some 11, some 17, some 9] rfl rfl rfl rfl rfl rfl fun G a w S => ?_
    have S1 := S.mem
    refine sCallQ (X := Unit) (f := 23) (vs := [.slice ad127 x120.Cells.length cp128, .slice ad165 x133.Cells.length cp166]) (val := fun _ => .bool r153) S (wG 9 false 85 rfl rfl rfl hc140) rfl callee23 rfl (S1.quiet [8, 1] rfl) (fun E1 w1 S1 => c_stitch_Same E1 w1 x120.Cells (.slice ad127 x120.Cells.length cp128) x133.Cells (.slice ad165 x133.Cells.length cp166) r153 hx154 S1) rfl (lb rfl) fun _ a w S => ?_
    exact leafL ⟨rfl, S⟩
  · refine fI 95 (.bool (!r153)) [(94, .bool r153), (85, .bool (x120.Back != x133.Back))] 19 [some 18, some 9] rfl rfl rfl rfl rfl rfl fun G a w S => ?_
    refine sNot (b := r153) S (wG 9 false 85 rfl rfl rfl hc140) rfl rfl rfl (lb rfl) fun a S => ?_
    exact leafL ⟨rfl, S⟩
  · refine fI 96 (.bool (!r153)) [(85, .bool (x120.Back != x133.Back)), (95, .bool (!r153))] 20 [some 9, some 19] rfl rfl rfl rfl rfl rfl fun G a w S => ?_
    refine sPickF (.bool (!r153)) S (wN rfl) rfl rfl hc140 rfl rfl (lb rfl) fun a S => ?_
    exact leafL ⟨rfl, S⟩
  exact leafT (⟨!r153, Option.some.inj h, S.fix [1, 2] [12, 13, 14] (by decide) rfl rfl rfl⟩)

end Go.Proofs.YtoiehdlcfehmlaaDoor
namespace Go.Proofs.YtoiehdlcfehmlaaDoor
open Go.RowKit
set_option linter.unusedVariables false

def anc_raddleref36_Same_0 : List (List Nat) := [[], [], [0, 1], [0, 1, 2], [], [], [4, 5], [4, 5, 6], [0, 1, 2, 3, 4, 5, 6, 7]]
noncomputable def raddleref36_Same_l1 (p0 : (List Int)) (p1 : (List Int)) : Int → Option (Int ⊕ (Bool ⊕ Unit)) := fun s0 => match s0 with
  | s13 =>
    if decide (s13 < (p0.length : Int)) then
      Option.bind (idxO p0 s13) fun x22 =>
      Option.bind (idxO p1 s13) fun x27 =>
      if x22 != x27 then
        some (.inr (.inl false))
      else
        some (.inl (w64 (s13 + 1)))
    else
      some (.inr (.inr ()))
noncomputable def F_raddleref36_Same (p0 : (List Int)) (p1 : (List Int)) : Option Bool :=
  if (p0.length : Int) != (p1.length : Int) then
    some false
  else
    Option.bind (α := Unit ⊕ Bool) (
      Option.bind (whileO (raddleref36_Same_l1 p0 p1) 0) fun z0 => match z0 with
        | .inl z =>
          some (.inr z)
        | .inr _ =>
          some (.inl ())) fun z0 => match z0 with
      | .inl _ =>
        some true
      | .inr z =>
        some z
set_option maxHeartbeats 4000000 in
set_option maxRecDepth 100000 in
theorem c_raddleref36_Same (E : Nat → Prop) (w0 : World) (p0 : (List Int)) (v0 : Value) (p1 : (List Int)) (v1 : Value) (r : Bool) (h : F_raddleref36_Same p0 p1 = some r) (S : St0 E [] w0 w0 [] [fRep (rL (rI .i64)) (v0) p0, fRep (rL (rI .i64)) (v1) p1]) :
    Calls Tryd.prog 14 #[v0, v1] w0 (Ret (X := Unit) E [] w0 (fun _ => .bool r) (fun _ => []) (fun _ => [])) := by
  unfold F_raddleref36_Same at h
  obtain ⟨ad1, cp2, _, rfl, _⟩ := S.know (i := 0) (e := fRep (rL (rI .i64)) (v0) p0) rfl
  obtain ⟨ad3, cp4, _, rfl, _⟩ := S.know (i := 1) (e := fRep (rL (rI .i64)) (v1) p1) rfl
  refine sEnter (args := [.slice ad1 p0.length cp2, .slice ad3 p1.length cp4]) 26 Tryd.func14 rfl rfl (by simp) S (fun a S => ?_)
  refine sSeq (fun K5 hK5 => ?_)
  refine sRegion ?_
  refine sMove (.bool false) S (wN rfl) (.inr rfl) rfl rfl (lb rfl) fun a S => ?_
  refine leafL (leafT (hK5 _ _ ?_))
  refine sSeq (fun K6 hK6 => ?_)
  refine sSeq (fun K7 hK7 => ?_)
  refine sRegion ?_
  refine sMove (.slice ad1 p0.length cp2) S (wN rfl) (.inl rfl) rfl rfl (lb rfl) fun a S => ?_
  refine sLen (ad := ad1) (m := p0.length) (c := cp2) S (wN rfl) rfl Tryd.underlying22 rfl rfl (lb rfl) fun a S => ?_
  refine sMove (.slice ad3 p1.length cp4) S (wN rfl) (.inl rfl) rfl rfl (lb rfl) fun a S => ?_
  refine sLen (ad := ad3) (m := p1.length) (c := cp4) S (wN rfl) rfl Tryd.underlying22 rfl rfl (lb rfl) fun a S => ?_
  refine sBin (.bool ((p0.length : Int) != (p1.length : Int))) S (wN rfl) rfl rfl rfl (bNe _ _ _ _ .i64 (p0.length : Int) (p1.length : Int)) rfl (lb rfl) fun a S => ?_
  refine leafL (leafT (hK7 _ _ ?_))
  rcases iteSome h with ⟨hc8, h⟩ | ⟨hc8, h⟩
  · refine sCondT S rfl hc8 ?_
    refine sSeq (fun K9 hK9 => ?_)
    refine sRegion ?_
    refine sMove (.bool false) S (wN rfl) (.inr rfl) rfl rfl (lb rfl) fun a S => ?_
    refine leafL (leafT (hK9 _ _ ?_))
    obtain rfl := Option.some.inj h
    exact wp_ret (rThen (sRet (.bool false) S (rsl1 rfl (rvT (t := 4) (v := .bool false) S rfl)) ⟨(), rfl, S.mem.sel [] [] (by decide) rfl rfl⟩))
  refine sCondF S rfl hc8 ?_
  refine wp_skip (leafT (hK6 _ _ ?_))
  obtain ⟨t10, h, g11⟩ := bindSome h
  refine sCut (fun a w => .inl () = t10 ∧ St [] E [] w0 26 a w [] [] []) ?_ (fun a w hI => ?_)
  rotate_left
  · obtain ⟨rfl, S⟩ := hI
    have h := g11
    clear g11
    try dsimp only at h
    refine sSeq (fun K40 hK40 => ?_)
    refine sRegion ?_
    refine sMove (.bool true) S (wN rfl) (.inr rfl) rfl rfl (lb rfl) fun a S => ?_
    refine leafL (leafT (hK40 _ _ ?_))
    obtain rfl := Option.some.inj h
    exact wp_ret (sRet (.bool true) S (rsl1 rfl (rvT (t := 4) (v := .bool true) S rfl)) ⟨(), rfl, S.mem.sel [] [] (by decide) rfl rfl⟩)
  refine sSeq (fun K12 hK12 => ?_)
  refine sRegion ?_
  refine sMove (iv 0) S (wN rfl) (.inr rfl) rfl rfl (lb rfl) fun a S => ?_
  refine leafL (leafT (hK12 _ _ ?_))
  refine wp_block ?_
  obtain ⟨t16, hl, g15⟩ := bindSome h
  refine sLoop hl (fun s0 a w => match s0 with | s13 => St [] E [] w0 26 a w [(0, .slice ad1 p0.length cp2), (1, .slice ad3 p1.length cp4), (5, iv s13)] [] [fRep (rL (rI .i64)) (.slice ad1 p0.length cp2) p0, fRep (rL (rI .i64)) (.slice ad3 p1.length cp4) p1]) (S.fix [] [0, 1] (by decide) rfl rfl rfl) ?_
  clear hl h
  intro s13 a w c0 hI h hu14
  unfold raddleref36_Same_l1 at h
  dsimp only at h hI
  have S := hI
  refine sSeq (fun K17 hK17 => ?_)
  refine sSeq (fun K18 hK18 => ?_)
  refine sRegion ?_
  refine sMove (iv s13) S (wN rfl) (.inl rfl) rfl rfl (lb rfl) fun a S => ?_
  refine sMove (.slice ad1 p0.length cp2) S (wN rfl) (.inl rfl) rfl rfl (lb rfl) fun a S => ?_
  refine sLen (ad := ad1) (m := p0.length) (c := cp2) S (wN rfl) rfl Tryd.underlying22 rfl rfl (lb rfl) fun a S => ?_
  refine sBin (.bool (decide (s13 < (p0.length : Int)))) S (wN rfl) rfl rfl rfl (bLt _ _ _ _ .i64 s13 (p0.length : Int)) rfl (lb rfl) fun a S => ?_
  refine leafL (leafT (hK18 _ _ ?_))
  rcases iteSome h with ⟨hc19, h⟩ | ⟨hc19, h⟩
  rotate_left
  · refine sCondF S rfl hc19 ?_
    obtain rfl := Option.some.inj h
    obtain rfl := hu14 _ rfl
    have h := g15
    clear g15
    try dsimp only at h
    exact wp_exit (xThen (xThen (xHit (leafT (⟨Option.some.inj h, S.fix [] [] (by decide) rfl rfl rfl⟩)))))
  refine sCondT S rfl hc19 ?_
  refine wp_skip (leafT (hK17 _ _ ?_))
  refine sSeq (fun K20 hK20 => ?_)
  refine wp_block ?_
  refine sSeq (fun K21 hK21 => ?_)
  obtain ⟨x22, hx23, h⟩ := bindSome h
  obtain ⟨x27, hx28, h⟩ := bindSome h
  obtain ⟨q32, hq33, S⟩ := pIdx (P := Tryd.prog) (r := (rI .i64)) (v := .slice ad1 p0.length cp2) (xs := p0) (j := s13) 22 3 0 S Tryd.underlying22 rfl rfl hx23
  obtain ⟨u34, S⟩ := pLoad (r := (rI .i64)) (q := q32) (x := x22) 0 S rfl
  obtain rfl : u34 = iv x22 := S.mem.know (i := 1) (e := fRep (rI .i64) (u34) x22) rfl
  obtain ⟨q35, hq36, S⟩ := pIdx (P := Tryd.prog) (r := (rI .i64)) (v := .slice ad3 p1.length cp4) (xs := p1) (j := s13) 22 3 4 S Tryd.underlying22 rfl rfl hx28
  obtain ⟨u37, S⟩ := pLoad (r := (rI .i64)) (q := q35) (x := x27) 0 S rfl
  obtain rfl : u37 = iv x27 := S.mem.know (i := 1) (e := fRep (rI .i64) (u37) x27) rfl
  refine sDraw (nf := []) (W := [(0, 17, .slice ad1 p0.length cp2), (1, 18, iv s13), (2, 19, q32), (3, 20, iv x22), (4, 21, .slice ad3 p1.length cp4), (5, 22, iv s13), (6, 23, q35), (7, 24, iv x27), (8, 25, .bool (x22 != x27))]) rfl S ?_
  refine node_by (A := anc_raddleref36_Same_0) (nf := []) (Y := []) (W := [(0, 17, .slice ad1 p0.length cp2), (1, 18, iv s13), (2, 19, q32), (3, 20, iv x22), (4, 21, .slice ad3 p1.length cp4), (5, 22, iv s13), (6, 23, q35), (7, 24, iv x27), (8, 25, .bool (x22 != x27))]) 9 (by kernel_rfl) (by kernel_rfl) (by kernel_rfl) (by kernel_rfl) (by kernel_rfl) [0, 1, 2, 3, 4, 5, 6, 7, 8] (by kernel_rfl) (by decide) (by decide) (aF 0 8 (by decide) ?_ (aF 1 7 (by decide) ?_ (aF 2 6 (by decide) ?_ (aF 3 5 (by decide) ?_ (aF 4 4 (by decide) ?_ (aF 5 3 (by decide) ?_ (aF 6 2 (by decide) ?_ (aF 7 1 (by decide) ?_ (aF 8 0 (by decide) ?_ (trivial)))))))))) [(0, .slice ad1 p0.length cp2), (1, .slice ad3 p1.length cp4), (5, iv s13), (25, .bool (x22 != x27))] (fin_of [none, none, none, some 8] rfl (by kernel_rfl) (by kernel_rfl)) (fun _ a w S => ?_)
  · refine fI 17 (.slice ad1 p0.length cp2) [(0, .slice ad1 p0.length cp2)] 0 [none] rfl rfl rfl rfl rfl rfl fun G a w S => ?_
    refine sMove (.slice ad1 p0.length cp2) S (wN rfl) (.inl rfl) rfl rfl (lb rfl) fun a S => ?_
    exact leafL ⟨rfl, S⟩
  · refine fI 18 (iv s13) [(5, iv s13)] 1 [none] rfl rfl rfl rfl rfl rfl fun G a w S => ?_
    refine sMove (iv s13) S (wN rfl) (.inl rfl) rfl rfl (lb rfl) fun a S => ?_
    exact leafL ⟨rfl, S⟩
  · refine fI 19 q32 [(17, .slice ad1 p0.length cp2), (18, iv s13)] 2 [some 0, some 1] rfl rfl rfl rfl rfl rfl fun G a w S => ?_
    refine sIdxV (v := .slice ad1 p0.length cp2) (k := .i64) (j := s13) S (wN rfl) rfl rfl rfl hq33 rfl (lb rfl) fun a S => ?_
    exact leafL ⟨rfl, S⟩
  · refine fI 20 (iv x22) [(19, q32)] 3 [some 2] rfl rfl rfl rfl rfl rfl fun G a w S => ?_
    refine sLoadV1 (vq := q32) 3 (iv x22) S (wN rfl) rfl rfl rfl rfl rfl (lb rfl) fun a S => ?_
    exact leafL ⟨rfl, S⟩
  · refine fI 21 (.slice ad3 p1.length cp4) [(1, .slice ad3 p1.length cp4)] 4 [none] rfl rfl rfl rfl rfl rfl fun G a w S => ?_
    refine sMove (.slice ad3 p1.length cp4) S (wN rfl) (.inl rfl) rfl rfl (lb rfl) fun a S => ?_
    exact leafL ⟨rfl, S⟩
  · refine fI 22 (iv s13) [(5, iv s13)] 5 [none] rfl rfl rfl rfl rfl rfl fun G a w S => ?_
    refine sMove (iv s13) S (wN rfl) (.inl rfl) rfl rfl (lb rfl) fun a S => ?_
    exact leafL ⟨rfl, S⟩
  · refine fI 23 q35 [(21, .slice ad3 p1.length cp4), (22, iv s13)] 6 [some 4, some 5] rfl rfl rfl rfl rfl rfl fun G a w S => ?_
    refine sIdxV (v := .slice ad3 p1.length cp4) (k := .i64) (j := s13) S (wN rfl) rfl rfl rfl hq36 rfl (lb rfl) fun a S => ?_
    exact leafL ⟨rfl, S⟩
  · refine fI 24 (iv x27) [(23, q35)] 7 [some 6] rfl rfl rfl rfl rfl rfl fun G a w S => ?_
    refine sLoadV1 (vq := q35) 0 (iv x27) S (wN rfl) rfl rfl rfl rfl rfl (lb rfl) fun a S => ?_
    exact leafL ⟨rfl, S⟩
  · refine fI 25 (.bool (x22 != x27)) [(20, iv x22), (24, iv x27)] 8 [some 3, some 7] rfl rfl rfl rfl rfl rfl fun G a w S => ?_
    refine sBin (.bool (x22 != x27)) S (wN rfl) rfl rfl rfl (bNe _ _ _ _ .i64 x22 x27) rfl (lb rfl) fun a S => ?_
    exact leafL ⟨rfl, S⟩
  refine leafT (hK21 _ _ ?_)
  rcases iteSome h with ⟨hc38, h⟩ | ⟨hc38, h⟩
  rotate_left
  · refine sCondF S rfl hc38 ?_
    refine wp_skip (leafB (leafT (hK20 _ _ ?_)))
    refine sRegion ?_
    refine sMove (iv s13) S (wN rfl) (.inl rfl) rfl rfl (lb rfl) fun a S => ?_
    refine sBin (iv (w64 (s13 + 1))) S (wN rfl) rfl rfl rfl (bAdd _ _ _ _ s13 1) rfl (lb rfl) fun a S => ?_
    refine sMove (iv (w64 (s13 + 1))) S (wN rfl) (.inr rfl) rfl rfl (lb rfl) fun a S => ?_
    exact leafL (leafT (⟨w64 (s13 + 1), (Option.some.inj h).symm, (S.fix [] [6, 7] (by decide) rfl rfl rfl)⟩))
  refine sCondT S rfl hc38 ?_
  refine sSeq (fun K39 hK39 => ?_)
  refine sRegion ?_
  refine sMove (.bool false) S (wN rfl) (.inr rfl) rfl rfl (lb rfl) fun a S => ?_
  refine leafL (leafT (hK39 _ _ ?_))
  obtain rfl := Option.some.inj h
  obtain rfl := hu14 _ rfl
  have h := g15
  clear g15
  try dsimp only at h
  obtain rfl := Option.some.inj h
  have h := g11
  clear g11
  try dsimp only at h
  obtain rfl := Option.some.inj h
  exact wp_ret (rBlock (rThen (rThen (rBlock (rThen (sRet (.bool false) S (rsl1 rfl (rvT (t := 4) (v := .bool false) S rfl)) ⟨(), rfl, S.mem.sel [] [] (by decide) rfl rfl⟩))))))

end Go.Proofs.YtoiehdlcfehmlaaDoor
namespace Go.Proofs.YtoiehdlcfehmlaaDoor
open Go.RowKit
set_option linter.unusedVariables false

noncomputable def F_internal_strconv_small (p0 : Int) : Option ByteArray :=
  if decide (p0 < 10) then
    Option.bind (sliceS (⟨#[48, 49, 50, 51, 52, 53, 54, 55, 56, 57, 97, 98, 99, 100, 101, 102, 103, 104, 105, 106, 107, 108, 109, 110, 111, 112, 113, 114, 115, 116, 117, 118, 119, 120, 121, 122]⟩ : ByteArray) p0 (w64 (p0 + 1))) fun y6 =>
    some y6
  else
    Option.bind (sliceS (⟨#[48, 48, 48, 49, 48, 50, 48, 51, 48, 52, 48, 53, 48, 54, 48, 55, 48, 56, 48, 57, 49, 48, 49, 49, 49, 50, 49, 51, 49, 52, 49, 53, 49, 54, 49, 55, 49, 56, 49, 57, 50, 48, 50, 49, 50, 50, 50, 51, 50, 52, 50, 53, 50, 54, 50, 55, 50, 56, 50, 57, 51, 48, 51, 49, 51, 50, 51, 51, 51, 52, 51, 53, 51, 54, 51, 55, 51, 56, 51, 57, 52, 48, 52, 49, 52, 50, 52, 51, 52, 52, 52, 53, 52, 54, 52, 55, 52, 56, 52, 57, 53, 48, 53, 49, 53, 50, 53, 51, 53, 52, 53, 53, 53, 54, 53, 55, 53, 56, 53, 57, 54, 48, 54, 49, 54, 50, 54, 51, 54, 52, 54, 53, 54, 54, 54, 55, 54, 56, 54, 57, 55, 48, 55, 49, 55, 50, 55, 51, 55, 52, 55, 53, 55, 54, 55, 55, 55, 56, 55, 57, 56, 48, 56, 49, 56, 50, 56, 51, 56, 52, 56, 53, 56, 54, 56, 55, 56, 56, 56, 57, 57, 48, 57, 49, 57, 50, 57, 51, 57, 52, 57, 53, 57, 54, 57, 55, 57, 56, 57, 57]⟩ : ByteArray) (w64 (p0 * 2)) (w64 ((w64 (p0 * 2)) + 2))) fun y9 =>
    some y9
set_option maxHeartbeats 4000000 in
set_option maxRecDepth 100000 in
theorem c_internal_strconv_small (E : Nat → Prop) (w0 : World) (p0 : Int) (r : ByteArray) (h : F_internal_strconv_small p0 = some r) (S : St0 E [] w0 w0 [] []) :
    Calls Tryd.prog 48 #[iv p0] w0 (Ret (X := Unit) E [] w0 (fun _ => .string r) (fun _ => []) (fun _ => [])) := by
  unfold F_internal_strconv_small at h
  refine sEnter (args := [iv p0]) 15 Tryd.func48 rfl rfl (by simp) S (fun a S => ?_)
  refine sSeq (fun K1 hK1 => ?_)
  refine sRegion ?_
  refine sMove (.string (⟨#[]⟩ : ByteArray)) S (wN rfl) (.inr rfl) rfl rfl (lb rfl) fun a S => ?_
  refine leafL (leafT (hK1 _ _ ?_))
  refine sSeq (fun K2 hK2 => ?_)
  refine sSeq (fun K3 hK3 => ?_)
  refine sRegion ?_
  refine sMove (iv p0) S (wN rfl) (.inl rfl) rfl rfl (lb rfl) fun a S => ?_
  refine sBin (.bool (decide (p0 < 10))) S (wN rfl) rfl rfl rfl (bLt _ _ _ _ .i64 p0 10) rfl (lb rfl) fun a S => ?_
  refine leafL (leafT (hK3 _ _ ?_))
  rcases iteSome h with ⟨hc4, h⟩ | ⟨hc4, h⟩
  · refine sCondT S rfl hc4 ?_
    refine sSeq (fun K5 hK5 => ?_)
    refine sRegion ?_
    refine sMove (iv p0) S (wN rfl) (.inl rfl) rfl rfl (lb rfl) fun a S => ?_
    refine sMove (iv p0) S (wN rfl) (.inl rfl) rfl rfl (lb rfl) fun a S => ?_
    refine sBin (iv (w64 (p0 + 1))) S (wN rfl) rfl rfl rfl (bAdd _ _ _ _ p0 1) rfl (lb rfl) fun a S => ?_
    obtain ⟨y6, hx7, h⟩ := bindSome h
    refine sSliceS (v := (⟨#[48, 49, 50, 51, 52, 53, 54, 55, 56, 57, 97, 98, 99, 100, 101, 102, 103, 104, 105, 106, 107, 108, 109, 110, 111, 112, 113, 114, 115, 116, 117, 118, 119, 120, 121, 122]⟩ : ByteArray)) (u := y6) (vlo := (some (.int .i64 p0))) (vhi := (some (.int .i64 (w64 (p0 + 1))))) (lo' := p0) (hi' := w64 (p0 + 1)) S (wN rfl) rfl Tryd.underlying9 rfl rfl rfl (.inl rfl) (.inl rfl) hx7 rfl (lb rfl) fun a S => ?_
    refine sMove (.string y6) S (wN rfl) (.inr rfl) rfl rfl (lb rfl) fun a S => ?_
    refine leafL (leafT (hK5 _ _ ?_))
    obtain rfl := Option.some.inj h
    exact wp_ret (rThen (sRet (.string y6) S (rsl1 rfl (rvT (t := 2) (v := .string y6) S rfl)) ⟨(), rfl, S.mem.sel [] [] (by decide) rfl rfl⟩))
  refine sCondF S rfl hc4 ?_
  refine wp_skip (leafT (hK2 _ _ ?_))
  refine sSeq (fun K8 hK8 => ?_)
  refine sRegion ?_
  refine sMove (iv p0) S (wN rfl) (.inl rfl) rfl rfl (lb rfl) fun a S => ?_
  refine sBin (iv (w64 (p0 * 2))) S (wN rfl) rfl rfl rfl (bMul _ _ _ _ p0 2) rfl (lb rfl) fun a S => ?_
  refine sMove (iv p0) S (wN rfl) (.inl rfl) rfl rfl (lb rfl) fun a S => ?_
  refine sBin (iv (w64 (p0 * 2))) S (wN rfl) rfl rfl rfl (bMul _ _ _ _ p0 2) rfl (lb rfl) fun a S => ?_
  refine sBin (iv (w64 ((w64 (p0 * 2)) + 2))) S (wN rfl) rfl rfl rfl (bAdd _ _ _ _ (w64 (p0 * 2)) 2) rfl (lb rfl) fun a S => ?_
  obtain ⟨y9, hx10, h⟩ := bindSome h
  refine sSliceS (v := (⟨#[48, 48, 48, 49, 48, 50, 48, 51, 48, 52, 48, 53, 48, 54, 48, 55, 48, 56, 48, 57, 49, 48, 49, 49, 49, 50, 49, 51, 49, 52, 49, 53, 49, 54, 49, 55, 49, 56, 49, 57, 50, 48, 50, 49, 50, 50, 50, 51, 50, 52, 50, 53, 50, 54, 50, 55, 50, 56, 50, 57, 51, 48, 51, 49, 51, 50, 51, 51, 51, 52, 51, 53, 51, 54, 51, 55, 51, 56, 51, 57, 52, 48, 52, 49, 52, 50, 52, 51, 52, 52, 52, 53, 52, 54, 52, 55, 52, 56, 52, 57, 53, 48, 53, 49, 53, 50, 53, 51, 53, 52, 53, 53, 53, 54, 53, 55, 53, 56, 53, 57, 54, 48, 54, 49, 54, 50, 54, 51, 54, 52, 54, 53, 54, 54, 54, 55, 54, 56, 54, 57, 55, 48, 55, 49, 55, 50, 55, 51, 55, 52, 55, 53, 55, 54, 55, 55, 55, 56, 55, 57, 56, 48, 56, 49, 56, 50, 56, 51, 56, 52, 56, 53, 56, 54, 56, 55, 56, 56, 56, 57, 57, 48, 57, 49, 57, 50, 57, 51, 57, 52, 57, 53, 57, 54, 57, 55, 57, 56, 57, 57]⟩ : ByteArray)) (u := y9) (vlo := (some (.int .i64 (w64 (p0 * 2))))) (vhi := (some (.int .i64 (w64 ((w64 (p0 * 2)) + 2))))) (lo' := w64 (p0 * 2)) (hi' := w64 ((w64 (p0 * 2)) + 2)) S (wN rfl) rfl Tryd.underlying9 rfl rfl rfl (.inl rfl) (.inl rfl) hx10 rfl (lb rfl) fun a S => ?_
  refine sMove (.string y9) S (wN rfl) (.inr rfl) rfl rfl (lb rfl) fun a S => ?_
  refine leafL (leafT (hK8 _ _ ?_))
  obtain rfl := Option.some.inj h
  exact wp_ret (sRet (.string y9) S (rsl1 rfl (rvT (t := 2) (v := .string y9) S rfl)) ⟨(), rfl, S.mem.sel [] [] (by decide) rfl rfl⟩)

end Go.Proofs.YtoiehdlcfehmlaaDoor
namespace Go.Proofs.YtoiehdlcfehmlaaDoor
open Go.RowKit
set_option linter.unusedVariables false

noncomputable def F_internal_strconv_log10Pow2 (p0 : Int) : Option Int :=
  Option.bind (shrI .i64 (w64 (p0 * 78913)) 18) fun z3 =>
  some z3
set_option maxHeartbeats 4000000 in
set_option maxRecDepth 100000 in
theorem c_internal_strconv_log10Pow2 (E : Nat → Prop) (w0 : World) (p0 : Int) (r : Int) (h : F_internal_strconv_log10Pow2 p0 = some r) (S : St0 E [] w0 w0 [] []) :
    Calls Tryd.prog 54 #[iv p0] w0 (Ret (X := Unit) E [] w0 (fun _ => .int .i64 r) (fun _ => []) (fun _ => [])) := by
  unfold F_internal_strconv_log10Pow2 at h
  refine sEnter (args := [iv p0]) 6 Tryd.func54 rfl rfl (by simp) S (fun a S => ?_)
  refine sSeq (fun K1 hK1 => ?_)
  refine sRegion ?_
  refine sMove (iv 0) S (wN rfl) (.inr rfl) rfl rfl (lb rfl) fun a S => ?_
  refine leafL (leafT (hK1 _ _ ?_))
  refine sSeq (fun K2 hK2 => ?_)
  refine sRegion ?_
  refine sMove (iv p0) S (wN rfl) (.inl rfl) rfl rfl (lb rfl) fun a S => ?_
  refine sBin (iv (w64 (p0 * 78913))) S (wN rfl) rfl rfl rfl (bMul _ _ _ _ p0 78913) rfl (lb rfl) fun a S => ?_
  obtain ⟨z3, hx4, h⟩ := bindSome h
  refine sBin (iv z3) S (wN rfl) rfl rfl rfl (bShrK _ _ _ _ (k := .i64) (k' := .u64) (x := w64 (p0 * 78913)) (y := 18) hx4) rfl (lb rfl) fun a S => ?_
  refine sMove (iv z3) S (wN rfl) (.inr rfl) rfl rfl (lb rfl) fun a S => ?_
  refine leafL (leafT (hK2 _ _ ?_))
  obtain rfl := Option.some.inj h
  exact wp_ret (sRet (iv z3) S (rsl1 rfl (rvT (t := 2) (v := iv z3) S rfl)) ⟨(), rfl, S.mem.sel [] [] (by decide) rfl rfl⟩)

end Go.Proofs.YtoiehdlcfehmlaaDoor
namespace Go.Proofs.YtoiehdlcfehmlaaDoor
open Go.RowKit
set_option linter.unusedVariables false

noncomputable def F_math_bits_Len64 (p0 : Int) : Option Int :=
  Option.bind (α := (Int × Int)) (
    if decide (4294967296 ≤ p0) then
      Option.bind (shrI .u64 p0 32) fun z9 =>
      some (z9, 32)
    else
      some (p0, 0)) fun (o2, o3) =>
  Option.bind (α := (Int × Int)) (
    if decide (65536 ≤ o2) then
      Option.bind (shrI .u64 o2 16) fun z18 =>
      some (z18, w64 (o3 + 16))
    else
      some (o2, o3)) fun (o11, o12) =>
  Option.bind (α := (Int × Int)) (
    if decide (256 ≤ o11) then
      Option.bind (shrI .u64 o11 8) fun z27 =>
      some (z27, w64 (o12 + 8))
    else
      some (o11, o12)) fun (o20, o21) =>
  Option.bind (idxS (⟨#[0, 1, 2, 2, 3, 3, 3, 3, 4, 4, 4, 4, 4, 4, 4, 4, 5, 5, 5, 5, 5, 5, 5, 5, 5, 5, 5, 5, 5, 5, 5, 5, 6, 6, 6, 6, 6, 6, 6, 6, 6, 6, 6, 6, 6, 6, 6, 6, 6, 6, 6, 6, 6, 6, 6, 6, 6, 6, 6, 6, 6, 6, 6, 6, 7, 7, 7, 7, 7, 7, 7, 7, 7, 7, 7, 7, 7, 7, 7, 7, 7, 7, 7, 7, 7, 7, 7, 7, 7, 7, 7, 7, 7, 7, 7, 7, 7, 7, 7, 7, 7, 7, 7, 7, 7, 7, 7, 7, 7, 7, 7, 7, 7, 7, 7, 7, 7, 7, 7, 7, 7, 7, 7, 7, 7, 7, 7, 7, 8, 8, 8, 8, 8, 8, 8, 8, 8, 8, 8, 8, 8, 8, 8, 8, 8, 8, 8, 8, 8, 8, 8, 8, 8, 8, 8, 8, 8, 8, 8, 8, 8, 8, 8, 8, 8, 8, 8, 8, 8, 8, 8, 8, 8, 8, 8, 8, 8, 8, 8, 8, 8, 8, 8, 8, 8, 8, 8, 8, 8, 8, 8, 8, 8, 8, 8, 8, 8, 8, 8, 8, 8, 8, 8, 8, 8, 8, 8, 8, 8, 8, 8, 8, 8, 8, 8, 8, 8, 8, 8, 8, 8, 8, 8, 8, 8, 8, 8, 8, 8, 8, 8, 8, 8, 8, 8, 8, 8, 8, 8, 8, 8, 8, 8, 8, 8, 8, 8, 8, 8, 8, 8, 8, 8, 8, 8, 8]⟩ : ByteArray) (IntKind.u8.wrap o20)) fun x30 =>
  some (w64 (o21 + (IntKind.i64.wrap x30)))
set_option maxHeartbeats 4000000 in
set_option maxRecDepth 100000 in
theorem c_math_bits_Len64 (E : Nat → Prop) (w0 : World) (p0 : Int) (r : Int) (h : F_math_bits_Len64 p0 = some r) (S : St0 E [] w0 w0 [] []) :
    Calls Tryd.prog 55 #[.int .u64 p0] w0 (Ret (X := Unit) E [] w0 (fun _ => .int .i64 r) (fun _ => []) (fun _ => [])) := by
  unfold F_math_bits_Len64 at h
  refine sEnter (args := [.int .u64 p0]) 25 Tryd.func55 rfl rfl (by simp) S (fun a S => ?_)
  refine sSeq (fun K1 hK1 => ?_)
  refine sRegion ?_
  refine sMove (iv 0) S (wN rfl) (.inr rfl) rfl rfl (lb rfl) fun a S => ?_
  refine leafL (leafT (hK1 _ _ ?_))
  obtain ⟨t4, h, g5⟩ := bindSome h
  refine sCut (fun a w => ∃ o2, ∃ o3, (o2, o3) = t4 ∧ St [] E [] w0 25 a w [(0, .int .u64 o2), (2, iv o3)] [] []) ?_ (fun a w hI => ?_)
  · refine sSeq (fun K6 hK6 => ?_)
    refine sRegion ?_
    refine sMove (.int .u64 p0) S (wN rfl) (.inl rfl) rfl rfl (lb rfl) fun a S => ?_
    refine sBin (.bool (decide (4294967296 ≤ p0))) S (wN rfl) rfl rfl rfl (bGe _ _ _ _ .u64 p0 4294967296) rfl (lb rfl) fun a S => ?_
    refine leafL (leafT (hK6 _ _ ?_))
    rcases iteSome h with ⟨hc7, h⟩ | ⟨hc7, h⟩
    rotate_left
    · refine sCondF S rfl hc7 ?_
      exact wp_skip (leafT (⟨p0, 0, Option.some.inj h, S.fix [] [] (by decide) rfl rfl rfl⟩))
    refine sCondT S rfl hc7 ?_
    refine sSeq (fun K8 hK8 => ?_)
    refine sRegion ?_
    refine sMove (.int .u64 p0) S (wN rfl) (.inl rfl) rfl rfl (lb rfl) fun a S => ?_
    obtain ⟨z9, hx10, h⟩ := bindSome h
    refine sBin (.int .u64 z9) S (wN rfl) rfl rfl rfl (bShrK _ _ _ _ (k := .u64) (k' := .u64) (x := p0) (y := 32) hx10) rfl (lb rfl) fun a S => ?_
    refine sMove (.int .u64 z9) S (wN rfl) (.inr rfl) rfl rfl (lb rfl) fun a S => ?_
    refine leafL (leafT (hK8 _ _ ?_))
    refine sRegion ?_
    refine sMove (iv 32) S (wN rfl) (.inr rfl) rfl rfl (lb rfl) fun a S => ?_
    exact leafL (leafT (⟨z9, 32, Option.some.inj h, S.fix [] [] (by decide) rfl rfl rfl⟩))
  obtain ⟨o2, o3, rfl, S⟩ := hI
  have h := g5
  clear g5
  try dsimp only at h
  obtain ⟨t13, h, g14⟩ := bindSome h
  refine sCut (fun a w => ∃ o11, ∃ o12, (o11, o12) = t13 ∧ St [] E [] w0 25 a w [(0, .int .u64 o11), (2, iv o12)] [] []) ?_ (fun a w hI => ?_)
  · refine sSeq (fun K15 hK15 => ?_)
    refine sRegion ?_
    refine sMove (.int .u64 o2) S (wN rfl) (.inl rfl) rfl rfl (lb rfl) fun a S => ?_
    refine sBin (.bool (decide (65536 ≤ o2))) S (wN rfl) rfl rfl rfl (bGe _ _ _ _ .u64 o2 65536) rfl (lb rfl) fun a S => ?_
    refine leafL (leafT (hK15 _ _ ?_))
    rcases iteSome h with ⟨hc16, h⟩ | ⟨hc16, h⟩
    rotate_left
    · refine sCondF S rfl hc16 ?_
      exact wp_skip (leafT (⟨o2, o3, Option.some.inj h, S.fix [] [] (by decide) rfl rfl rfl⟩))
    refine sCondT S rfl hc16 ?_
    refine sSeq (fun K17 hK17 => ?_)
    refine sRegion ?_
    refine sMove (.int .u64 o2) S (wN rfl) (.inl rfl) rfl rfl (lb rfl) fun a S => ?_
    obtain ⟨z18, hx19, h⟩ := bindSome h
    refine sBin (.int .u64 z18) S (wN rfl) rfl rfl rfl (bShrK _ _ _ _ (k := .u64) (k' := .u64) (x := o2) (y := 16) hx19) rfl (lb rfl) fun a S => ?_
    refine sMove (.int .u64 z18) S (wN rfl) (.inr rfl) rfl rfl (lb rfl) fun a S => ?_
    refine leafL (leafT (hK17 _ _ ?_))
    refine sRegion ?_
    refine sMove (iv o3) S (wN rfl) (.inl rfl) rfl rfl (lb rfl) fun a S => ?_
    refine sBin (iv (w64 (o3 + 16))) S (wN rfl) rfl rfl rfl (bAdd _ _ _ _ o3 16) rfl (lb rfl) fun a S => ?_
    refine sMove (iv (w64 (o3 + 16))) S (wN rfl) (.inr rfl) rfl rfl (lb rfl) fun a S => ?_
    exact leafL (leafT (⟨z18, w64 (o3 + 16), Option.some.inj h, S.fix [] [] (by decide) rfl rfl rfl⟩))
  obtain ⟨o11, o12, rfl, S⟩ := hI
  have h := g14
  clear g14
  try dsimp only at h
  obtain ⟨t22, h, g23⟩ := bindSome h
  refine sCut (fun a w => ∃ o20, ∃ o21, (o20, o21) = t22 ∧ St [] E [] w0 25 a w [(0, .int .u64 o20), (2, iv o21)] [] []) ?_ (fun a w hI => ?_)
  · refine sSeq (fun K24 hK24 => ?_)
    refine sRegion ?_
    refine sMove (.int .u64 o11) S (wN rfl) (.inl rfl) rfl rfl (lb rfl) fun a S => ?_
    refine sBin (.bool (decide (256 ≤ o11))) S (wN rfl) rfl rfl rfl (bGe _ _ _ _ .u64 o11 256) rfl (lb rfl) fun a S => ?_
    refine leafL (leafT (hK24 _ _ ?_))
    rcases iteSome h with ⟨hc25, h⟩ | ⟨hc25, h⟩
    rotate_left
    · refine sCondF S rfl hc25 ?_
      exact wp_skip (leafT (⟨o11, o12, Option.some.inj h, S.fix [] [] (by decide) rfl rfl rfl⟩))
    refine sCondT S rfl hc25 ?_
    refine sSeq (fun K26 hK26 => ?_)
    refine sRegion ?_
    refine sMove (.int .u64 o11) S (wN rfl) (.inl rfl) rfl rfl (lb rfl) fun a S => ?_
    obtain ⟨z27, hx28, h⟩ := bindSome h
    refine sBin (.int .u64 z27) S (wN rfl) rfl rfl rfl (bShrK _ _ _ _ (k := .u64) (k' := .u64) (x := o11) (y := 8) hx28) rfl (lb rfl) fun a S => ?_
    refine sMove (.int .u64 z27) S (wN rfl) (.inr rfl) rfl rfl (lb rfl) fun a S => ?_
    refine leafL (leafT (hK26 _ _ ?_))
    refine sRegion ?_
    refine sMove (iv o12) S (wN rfl) (.inl rfl) rfl rfl (lb rfl) fun a S => ?_
    refine sBin (iv (w64 (o12 + 8))) S (wN rfl) rfl rfl rfl (bAdd _ _ _ _ o12 8) rfl (lb rfl) fun a S => ?_
    refine sMove (iv (w64 (o12 + 8))) S (wN rfl) (.inr rfl) rfl rfl (lb rfl) fun a S => ?_
    exact leafL (leafT (⟨z27, w64 (o12 + 8), Option.some.inj h, S.fix [] [] (by decide) rfl rfl rfl⟩))
  obtain ⟨o20, o21, rfl, S⟩ := hI
  have h := g23
  clear g23
  try dsimp only at h
  refine sSeq (fun K29 hK29 => ?_)
  refine sRegion ?_
  refine sMove (iv o21) S (wN rfl) (.inl rfl) rfl rfl (lb rfl) fun a S => ?_
  refine sMove (.int .u64 o20) S (wN rfl) (.inl rfl) rfl rfl (lb rfl) fun a S => ?_
  refine sConv (k := .u64) (k2 := .u8) (b := o20) S (wN rfl) rfl Tryd.underlying97 Tryd.underlying5 rfl rfl (lb rfl) fun a S => ?_
  obtain ⟨x30, hx31, h⟩ := bindSome h
  refine sIndexS (v := (⟨#[0, 1, 2, 2, 3, 3, 3, 3, 4, 4, 4, 4, 4, 4, 4, 4, 5, 5, 5, 5, 5, 5, 5, 5, 5, 5, 5, 5, 5, 5, 5, 5, 6, 6, 6, 6, 6, 6, 6, 6, 6, 6, 6, 6, 6, 6, 6, 6, 6, 6, 6, 6, 6, 6, 6, 6, 6, 6, 6, 6, 6, 6, 6, 6, 7, 7, 7, 7, 7, 7, 7, 7, 7, 7, 7, 7, 7, 7, 7, 7, 7, 7, 7, 7, 7, 7, 7, 7, 7, 7, 7, 7, 7, 7, 7, 7, 7, 7, 7, 7, 7, 7, 7, 7, 7, 7, 7, 7, 7, 7, 7, 7, 7, 7, 7, 7, 7, 7, 7, 7, 7, 7, 7, 7, 7, 7, 7, 7, 8, 8, 8, 8, 8, 8, 8, 8, 8, 8, 8, 8, 8, 8, 8, 8, 8, 8, 8, 8, 8, 8, 8, 8, 8, 8, 8, 8, 8, 8, 8, 8, 8, 8, 8, 8, 8, 8, 8, 8, 8, 8, 8, 8, 8, 8, 8, 8, 8, 8, 8, 8, 8, 8, 8, 8, 8, 8, 8, 8, 8, 8, 8, 8, 8, 8, 8, 8, 8, 8, 8, 8, 8, 8, 8, 8, 8, 8, 8, 8, 8, 8, 8, 8, 8, 8, 8, 8, 8, 8, 8, 8, 8, 8, 8, 8, 8, 8, 8, 8, 8, 8, 8, 8, 8, 8, 8, 8, 8, 8, 8, 8, 8, 8, 8, 8, 8, 8, 8, 8, 8, 8, 8, 8, 8, 8, 8, 8]⟩ : ByteArray)) (j := IntKind.u8.wrap o20) (k := .u8) S (wN rfl) rfl Tryd.underlying9 rfl rfl hx31 rfl (lb rfl) fun a S => ?_
  refine sConv (k := .u8) (k2 := .i64) (b := x30) S (wN rfl) rfl Tryd.underlying5 Tryd.underlying3 rfl rfl (lb rfl) fun a S => ?_
  refine sBin (iv (w64 (o21 + (IntKind.i64.wrap x30)))) S (wN rfl) rfl rfl rfl (bAdd _ _ _ _ o21 (IntKind.i64.wrap x30)) rfl (lb rfl) fun a S => ?_
  refine sMove (iv (w64 (o21 + (IntKind.i64.wrap x30)))) S (wN rfl) (.inr rfl) rfl rfl (lb rfl) fun a S => ?_
  refine leafL (leafT (hK29 _ _ ?_))
  obtain rfl := Option.some.inj h
  exact wp_ret (sRet (iv (w64 (o21 + (IntKind.i64.wrap x30)))) S (rsl1 rfl (rvT (t := 2) (v := iv (w64 (o21 + (IntKind.i64.wrap x30)))) S rfl)) ⟨(), rfl, S.mem.sel [] [] (by decide) rfl rfl⟩)

end Go.Proofs.YtoiehdlcfehmlaaDoor
namespace Go.Proofs.YtoiehdlcfehmlaaDoor
open Go.RowKit
set_option linter.unusedVariables false

noncomputable def F_internal_strconv_numDigits (p0 : Int) : Option Int :=
  Option.bind (F_math_bits_Len64 p0) fun r3 =>
  Option.bind (F_internal_strconv_log10Pow2 r3) fun r5 =>
  none
set_option maxHeartbeats 4000000 in
set_option maxRecDepth 100000 in
theorem c_internal_strconv_numDigits (E : Nat → Prop) (w0 : World) (p0 : Int) (r : Int) (h : F_internal_strconv_numDigits p0 = some r) (S : St0 E [] w0 w0 [] []) :
    Calls Tryd.prog 49 #[.int .u64 p0] w0 (Ret (X := Unit) E [] w0 (fun _ => .int .i64 r) (fun _ => []) (fun _ => [])) := by
  unfold F_internal_strconv_numDigits at h
  refine sEnter (args := [.int .u64 p0]) 15 Tryd.func49 rfl rfl (by simp) S (fun a S => ?_)
  refine sSeq (fun K1 hK1 => ?_)
  refine sRegion ?_
  refine sMove (iv 0) S (wN rfl) (.inr rfl) rfl rfl (lb rfl) fun a S => ?_
  refine leafL (leafT (hK1 _ _ ?_))
  refine sSeq (fun K2 hK2 => ?_)
  refine sRegion ?_
  refine sMove (.int .u64 p0) S (wN rfl) (.inl rfl) rfl rfl (lb rfl) fun a S => ?_
  obtain ⟨r3, hx4, h⟩ := bindSome h
  have S1 := S.mem
  refine sCallQ (X := Unit) (f := 55) (vs := [.int .u64 p0]) (val := fun _ => iv r3) S (wN rfl) rfl callee55 rfl (S1.quiet [] rfl) (fun E1 w1 S1 => c_math_bits_Len64 E1 w1 p0 r3 hx4 S1) rfl (lb rfl) fun _ a w S => ?_
  obtain ⟨r5, hx6, h⟩ := bindSome h
  have S1 := S.mem
  refine sCallQ (X := Unit) (f := 54) (vs := [iv r3]) (val := fun _ => iv r5) S (wN rfl) rfl callee54 rfl (S1.quiet [] rfl) (fun E1 w1 S1 => c_internal_strconv_log10Pow2 E1 w1 r3 r5 hx6 S1) rfl (lb rfl) fun _ a w S => ?_
  refine sMove (iv r5) S (wN rfl) (.inr rfl) rfl rfl (lb rfl) fun a S => ?_
  refine leafL (leafT (hK2 _ _ ?_))
  refine sSeq (fun K7 hK7 => ?_)
  refine sRegion ?_
  refine sMove (iv r5) S (wN rfl) (.inl rfl) rfl rfl (lb rfl) fun a S => ?_
  refine sMove (.int .u64 p0) S (wN rfl) (.inl rfl) rfl rfl (lb rfl) fun a S => ?_
  refine sMove (iv r5) S (wN rfl) (.inl rfl) rfl rfl (lb rfl) fun a S => ?_
  cases h

end Go.Proofs.YtoiehdlcfehmlaaDoor
namespace Go.Proofs.YtoiehdlcfehmlaaDoor
open Go.RowKit
set_option linter.unusedVariables false

noncomputable def F_internal_strconv_FormatInt (p0 : Int) (p1 : Int) : Option ByteArray :=
  if p1 == 10 then
    Option.bind (α := Bool) (
      if decide (0 ≤ p0) then
        some (decide (p0 < 100))
      else
        some false) fun o6 =>
    if o6 then
      Option.bind (F_internal_strconv_small p0) fun r12 =>
      some r12
    else
      Option.bind (α := Int) (
        if decide (p0 < 0) then
          some (IntKind.u64.wrap (0 - (IntKind.u64.wrap p0)))
        else
          some (IntKind.u64.wrap p0)) fun o17 =>
      Option.bind (F_internal_strconv_numDigits o17) fun r23 =>
      none
  else
    none
set_option maxHeartbeats 4000000 in
set_option maxRecDepth 100000 in
theorem c_internal_strconv_FormatInt (E : Nat → Prop) (w0 : World) (p0 : Int) (p1 : Int) (r : ByteArray) (h : F_internal_strconv_FormatInt p0 p1 = some r) (S : St0 E [] w0 w0 [] []) :
    Calls Tryd.prog 45 #[iv p0, iv p1] w0 (Ret (X := Unit) E [] w0 (fun _ => .string r) (fun _ => []) (fun _ => [])) := by
  unfold F_internal_strconv_FormatInt at h
  refine sEnter (args := [iv p0, iv p1]) 54 Tryd.func45 rfl rfl (by simp) S (fun a S => ?_)
  refine sSeq (fun K1 hK1 => ?_)
  refine sRegion ?_
  refine sMove (.string (⟨#[]⟩ : ByteArray)) S (wN rfl) (.inr rfl) rfl rfl (lb rfl) fun a S => ?_
  refine leafL (leafT (hK1 _ _ ?_))
  refine sSeq (fun K2 hK2 => ?_)
  refine sSeq (fun K3 hK3 => ?_)
  refine sRegion ?_
  refine sMove (iv p1) S (wN rfl) (.inl rfl) rfl rfl (lb rfl) fun a S => ?_
  refine sBin (.bool (p1 == 10)) S (wN rfl) rfl rfl rfl (bEq _ _ _ _ .i64 p1 10) rfl (lb rfl) fun a S => ?_
  refine leafL (leafT (hK3 _ _ ?_))
  rcases iteSome h with ⟨hc4, h⟩ | ⟨hc4, h⟩
  rotate_left
  · refine sCondF S rfl hc4 ?_
    refine wp_skip (leafT (hK2 _ _ ?_))
    refine sSeq (fun K26 hK26 => ?_)
    refine sRegion ?_
    refine sMove (iv p0) S (wN rfl) (.inl rfl) rfl rfl (lb rfl) fun a S => ?_
    refine sConv (k := .i64) (k2 := .u64) (b := p0) S (wN rfl) rfl Tryd.underlying2 Tryd.underlying97 rfl rfl (lb rfl) fun a S => ?_
    refine sMove (iv p1) S (wN rfl) (.inl rfl) rfl rfl (lb rfl) fun a S => ?_
    refine sMove (iv p0) S (wN rfl) (.inl rfl) rfl rfl (lb rfl) fun a S => ?_
    refine sBin (.bool (decide (p0 < 0))) S (wN rfl) rfl rfl rfl (bLt _ _ _ _ .i64 p0 0) rfl (lb rfl) fun a S => ?_
    cases h
  refine sCondT S rfl hc4 ?_
  refine sSeq (fun K5 hK5 => ?_)
  obtain ⟨t7, h, g8⟩ := bindSome h
  refine sCut (fun a w => ∃ o6, o6 = t7 ∧ St [] E [] w0 54 a w [(0, iv p0), (17, .bool o6)] [] []) ?_ (fun a w hI => ?_)
  · refine sRegion ?_
    refine sMove (iv p0) S (wN rfl) (.inl rfl) rfl rfl (lb rfl) fun a S => ?_
    refine sBin (.bool (decide (0 ≤ p0))) S (wN rfl) rfl rfl rfl (bLe _ _ _ _ .i64 0 p0) rfl (lb rfl) fun a S => ?_
    refine sMove (.bool (decide (0 ≤ p0))) S (wN rfl) (.inl rfl) rfl rfl (lb rfl) fun a S => ?_
    rcases iteSome h with ⟨hc9, h⟩ | ⟨hc9, h⟩
    rotate_left
    · refine sSkip 2 true 14 15 S rfl rfl rfl hc9 rfl (lb rfl) fun a S => ?_
      refine sSkip 2 true 14 16 S rfl rfl rfl hc9 rfl (lb rfl) fun a S => ?_
      refine sPickF (.bool false) S (wN rfl) rfl rfl hc9 rfl rfl (lb rfl) fun a S => ?_
      exact leafL (leafT (⟨false, Option.some.inj h, S.fix [] [] (by decide) rfl rfl rfl⟩))
    refine sMove (iv p0) S (wG 2 true 14 rfl rfl rfl hc9) (.inl rfl) rfl rfl (lb rfl) fun a S => ?_
    refine sBin (.bool (decide (p0 < 100))) S (wG 2 true 14 rfl rfl rfl hc9) rfl rfl rfl (bLt _ _ _ _ .i64 p0 100) rfl (lb rfl) fun a S => ?_
    refine sPickT (.bool (decide (p0 < 100))) S (wN rfl) rfl rfl hc9 rfl rfl (lb rfl) fun a S => ?_
    exact leafL (leafT (⟨decide (p0 < 100), Option.some.inj h, S.fix [] [] (by decide) rfl rfl rfl⟩))
  obtain ⟨o6, rfl, S⟩ := hI
  have h := g8
  clear g8
  try dsimp only at h
  rcases iteSome h with ⟨hc10, h⟩ | ⟨hc10, h⟩
  · refine sCondT S rfl hc10 ?_
    refine sSeq (fun K11 hK11 => ?_)
    refine sRegion ?_
    refine sMove (iv p0) S (wN rfl) (.inl rfl) rfl rfl (lb rfl) fun a S => ?_
    obtain ⟨r12, hx13, h⟩ := bindSome h
    have S1 := S.mem
    refine sCallQ (X := Unit) (f := 48) (vs := [iv p0]) (val := fun _ => .string r12) S (wN rfl) rfl callee48 rfl (S1.quiet [] rfl) (fun E1 w1 S1 => c_internal_strconv_small E1 w1 p0 r12 hx13 S1) rfl (lb rfl) fun _ a w S => ?_
    refine sMove (.string r12) S (wN rfl) (.inr rfl) rfl rfl (lb rfl) fun a S => ?_
    refine leafL (leafT (hK11 _ _ ?_))
    obtain rfl := Option.some.inj h
    exact wp_ret (rThen (rThen (sRet (.string r12) S (rsl1 rfl (rvT (t := 4) (v := .string r12) S rfl)) ⟨(), rfl, S.mem.sel [] [] (by decide) rfl rfl⟩)))
  refine sCondF S rfl hc10 ?_
  refine wp_skip (leafT (hK5 _ _ ?_))
  refine sSeq (fun K14 hK14 => ?_)
  refine sRegion ?_
  refine sAlloc (gv_A24_Int (0, 0, 0, 0, 0, 0, 0, 0, 0, 0, 0, 0, 0, 0, 0, 0, 0, 0, 0, 0, 0, 0, 0, 0)) S (wN rfl) rfl rfl (gl_A24_Int (0, 0, 0, 0, 0, 0, 0, 0, 0, 0, 0, 0, 0, 0, 0, 0, 0, 0, 0, 0, 0, 0, 0, 0)) rfl rfl (lb rfl) fun a b15 w S => ?_
  refine leafL (leafT (hK14 _ _ ?_))
  refine sSeq (fun K16 hK16 => ?_)
  refine sRegion ?_
  refine sMove (iv p0) S (wN rfl) (.inl rfl) rfl rfl (lb rfl) fun a S => ?_
  refine sConv (k := .i64) (k2 := .u64) (b := p0) S (wN rfl) rfl Tryd.underlying2 Tryd.underlying97 rfl rfl (lb rfl) fun a S => ?_
  refine sMove (.int .u64 (IntKind.u64.wrap p0)) S (wN rfl) (.inr rfl) rfl rfl (lb rfl) fun a S => ?_
  refine leafL (leafT (hK16 _ _ ?_))
  obtain ⟨t18, h, g19⟩ := bindSome h
  refine sCut (fun a w => ∃ o17, o17 = t18 ∧ St [] E [] w0 54 a w [(0, iv p0), (5, .pointer (some ⟨b15, 0, none⟩)), (6, .int .u64 o17)] [eBox b15 96 (gl_A24_Int (0, 0, 0, 0, 0, 0, 0, 0, 0, 0, 0, 0, 0, 0, 0, 0, 0, 0, 0, 0, 0, 0, 0, 0))] []) ?_ (fun a w hI => ?_)
  rotate_left
  · obtain ⟨o17, rfl, S⟩ := hI
    have h := g19
    clear g19
    try dsimp only at h
    refine sSeq (fun K22 hK22 => ?_)
    refine sRegion ?_
    refine sMove (.int .u64 o17) S (wN rfl) (.inl rfl) rfl rfl (lb rfl) fun a S => ?_
    obtain ⟨r23, hx24, h⟩ := bindSome h
    have S1 := S.mem
    refine sCallQ (X := Unit) (f := 49) (vs := [.int .u64 o17]) (val := fun _ => iv r23) S (wN rfl) rfl callee49 rfl (S1.quiet [] rfl) (fun E1 w1 S1 => c_internal_strconv_numDigits E1 w1 o17 r23 hx24 S1) rfl (lb rfl) fun _ a w S => ?_
    refine sMove (iv r23) S (wN rfl) (.inr rfl) rfl rfl (lb rfl) fun a S => ?_
    refine leafL (leafT (hK22 _ _ ?_))
    refine sSeq (fun K25 hK25 => ?_)
    refine sRegion ?_
    refine sMove (iv r23) S (wN rfl) (.inl rfl) rfl rfl (lb rfl) fun a S => ?_
    refine sBin (iv (w64 (1 + r23))) S (wN rfl) rfl rfl rfl (bAdd _ _ _ _ 1 r23) rfl (lb rfl) fun a S => ?_
    cases h
  refine sSeq (fun K20 hK20 => ?_)
  refine sRegion ?_
  refine sMove (iv p0) S (wN rfl) (.inl rfl) rfl rfl (lb rfl) fun a S => ?_
  refine sBin (.bool (decide (p0 < 0))) S (wN rfl) rfl rfl rfl (bLt _ _ _ _ .i64 p0 0) rfl (lb rfl) fun a S => ?_
  refine leafL (leafT (hK20 _ _ ?_))
  rcases iteSome h with ⟨hc21, h⟩ | ⟨hc21, h⟩
  rotate_left
  · refine sCondF S rfl hc21 ?_
    exact wp_skip (leafT (⟨IntKind.u64.wrap p0, Option.some.inj h, S.fix [0] [] (by decide) rfl rfl rfl⟩))
  refine sCondT S rfl hc21 ?_
  refine sRegion ?_
  refine sMove (.int .u64 (IntKind.u64.wrap p0)) S (wN rfl) (.inl rfl) rfl rfl (lb rfl) fun a S => ?_
  refine sNegK (k := .u64) (b := IntKind.u64.wrap p0) S (wN rfl) rfl rfl rfl (lb rfl) fun a S => ?_
  refine sMove (.int .u64 (IntKind.u64.wrap (0 - (IntKind.u64.wrap p0)))) S (wN rfl) (.inr rfl) rfl rfl (lb rfl) fun a S => ?_
  exact leafL (leafT (⟨IntKind.u64.wrap (0 - (IntKind.u64.wrap p0)), Option.some.inj h, S.fix [0] [] (by decide) rfl rfl rfl⟩))

end Go.Proofs.YtoiehdlcfehmlaaDoor
namespace Go.Proofs.YtoiehdlcfehmlaaDoor
open Go.RowKit
set_option linter.unusedVariables false

noncomputable def F_internal_strconv_Itoa (p0 : Int) : Option ByteArray :=
  Option.bind (F_internal_strconv_FormatInt p0 10) fun r3 =>
  some r3
set_option maxHeartbeats 4000000 in
set_option maxRecDepth 100000 in
theorem c_internal_strconv_Itoa (E : Nat → Prop) (w0 : World) (p0 : Int) (r : ByteArray) (h : F_internal_strconv_Itoa p0 = some r) (S : St0 E [] w0 w0 [] []) :
    Calls Tryd.prog 41 #[iv p0] w0 (Ret (X := Unit) E [] w0 (fun _ => .string r) (fun _ => []) (fun _ => [])) := by
  unfold F_internal_strconv_Itoa at h
  refine sEnter (args := [iv p0]) 5 Tryd.func41 rfl rfl (by simp) S (fun a S => ?_)
  refine sSeq (fun K1 hK1 => ?_)
  refine sRegion ?_
  refine sMove (.string (⟨#[]⟩ : ByteArray)) S (wN rfl) (.inr rfl) rfl rfl (lb rfl) fun a S => ?_
  refine leafL (leafT (hK1 _ _ ?_))
  refine sSeq (fun K2 hK2 => ?_)
  refine sRegion ?_
  refine sMove (iv p0) S (wN rfl) (.inl rfl) rfl rfl (lb rfl) fun a S => ?_
  obtain ⟨r3, hx4, h⟩ := bindSome h
  have S1 := S.mem
  refine sCallQ (X := Unit) (f := 45) (vs := [iv p0, iv 10]) (val := fun _ => .string r3) S (wN rfl) rfl callee45 rfl (S1.quiet [] rfl) (fun E1 w1 S1 => c_internal_strconv_FormatInt E1 w1 p0 10 r3 hx4 S1) rfl (lb rfl) fun _ a w S => ?_
  refine sMove (.string r3) S (wN rfl) (.inr rfl) rfl rfl (lb rfl) fun a S => ?_
  refine leafL (leafT (hK2 _ _ ?_))
  obtain rfl := Option.some.inj h
  exact wp_ret (sRet (.string r3) S (rsl1 rfl (rvT (t := 2) (v := .string r3) S rfl)) ⟨(), rfl, S.mem.sel [] [] (by decide) rfl rfl⟩)

end Go.Proofs.YtoiehdlcfehmlaaDoor
namespace Go.Proofs.YtoiehdlcfehmlaaDoor
open Go.RowKit
set_option linter.unusedVariables false

noncomputable def F_strconv_Itoa (p0 : Int) : Option ByteArray :=
  Option.bind (F_internal_strconv_Itoa p0) fun r3 =>
  some r3
set_option maxHeartbeats 4000000 in
set_option maxRecDepth 100000 in
theorem c_strconv_Itoa (E : Nat → Prop) (w0 : World) (p0 : Int) (r : ByteArray) (h : F_strconv_Itoa p0 = some r) (S : St0 E [] w0 w0 [] []) :
    Calls Tryd.prog 37 #[iv p0] w0 (Ret (X := Unit) E [] w0 (fun _ => .string r) (fun _ => []) (fun _ => [])) := by
  unfold F_strconv_Itoa at h
  refine sEnter (args := [iv p0]) 5 Tryd.func37 rfl rfl (by simp) S (fun a S => ?_)
  refine sSeq (fun K1 hK1 => ?_)
  refine sRegion ?_
  refine sMove (.string (⟨#[]⟩ : ByteArray)) S (wN rfl) (.inr rfl) rfl rfl (lb rfl) fun a S => ?_
  refine leafL (leafT (hK1 _ _ ?_))
  refine sSeq (fun K2 hK2 => ?_)
  refine sRegion ?_
  refine sMove (iv p0) S (wN rfl) (.inl rfl) rfl rfl (lb rfl) fun a S => ?_
  obtain ⟨r3, hx4, h⟩ := bindSome h
  have S1 := S.mem
  refine sCallQ (X := Unit) (f := 41) (vs := [iv p0]) (val := fun _ => .string r3) S (wN rfl) rfl callee41 rfl (S1.quiet [] rfl) (fun E1 w1 S1 => c_internal_strconv_Itoa E1 w1 p0 r3 hx4 S1) rfl (lb rfl) fun _ a w S => ?_
  refine sMove (.string r3) S (wN rfl) (.inr rfl) rfl rfl (lb rfl) fun a S => ?_
  refine leafL (leafT (hK2 _ _ ?_))
  obtain rfl := Option.some.inj h
  exact wp_ret (sRet (.string r3) S (rsl1 rfl (rvT (t := 2) (v := .string r3) S rfl)) ⟨(), rfl, S.mem.sel [] [] (by decide) rfl rfl⟩)

end Go.Proofs.YtoiehdlcfehmlaaDoor
namespace Go.Proofs.YtoiehdlcfehmlaaDoor
open Go.RowKit
set_option linter.unusedVariables false

noncomputable def F_stitch_word (p0 : api_Stitch) : Option ByteArray :=
  if p0.Kind == 2 then
    some (⟨#[121, 111]⟩ : ByteArray)
  else
    if p0.Kind == 9 then
      Option.bind (F_strconv_Itoa p0.A) fun r11 =>
      Option.bind (addS (⟨#[111, 110]⟩ : ByteArray) r11) fun z13 =>
      some z13
    else
      Option.bind (F_stitch_forms p0.Kind) fun r16 =>
      Option.bind (α := ByteArray) (
        if p0.Purl then
          some (⟨#[112]⟩ : ByteArray)
        else
          some (⟨#[107]⟩ : ByteArray)) fun o21 =>
      Option.bind (addS o21 r16.1.letter) fun z27 =>
      Option.bind (α := ByteArray) (
        if decide (0 < r16.1.a.2) then
          Option.bind (F_strconv_Itoa p0.A) fun r34 =>
          Option.bind (addS z27 r34) fun z36 =>
          some z36
        else
          some z27) fun o29 =>
      Option.bind (α := ByteArray) (
        if decide (0 < r16.1.b.2) then
          Option.bind (F_strconv_Itoa p0.B) fun r43 =>
          Option.bind (addS (⟨#[47]⟩ : ByteArray) r43) fun z45 =>
          Option.bind (addS o29 z45) fun z47 =>
          some z47
        else
          some o29) fun o38 =>
      some o38
set_option maxHeartbeats 4000000 in
set_option maxRecDepth 100000 in
theorem c_stitch_word (E : Nat → Prop) (w0 : World) (p0 : api_Stitch) (v0 : Value) (r : ByteArray) (h : F_stitch_word p0 = some r) (S : St0 E [] w0 w0 [] [fRep r_api_Stitch (v0) p0]) :
    Calls Tryd.prog 36 #[v0] w0 (Ret (X := Unit) E [] w0 (fun _ => .string r) (fun _ => []) (fun _ => [])) := by
  unfold F_stitch_word at h
  obtain rfl : v0 = .agg #[.int .u8 p0.Kind, .bool p0.Purl, iv p0.A, iv p0.B] := S.know (i := 0) (e := fRep r_api_Stitch (v0) p0) rfl
  refine sEnter (args := [.agg #[.int .u8 p0.Kind, .bool p0.Purl, iv p0.A, iv p0.B]]) 48 Tryd.func36 rfl rfl (by simp) S (fun a S => ?_)
  refine sSeq (fun K1 hK1 => ?_)
  refine sRegion ?_
  refine sBox (v := .agg #[.int .u8 p0.Kind, .bool p0.Purl, iv p0.A, iv p0.B]) S (wN rfl) rfl rfl [.int .u8 p0.Kind, .bool p0.Purl, iv p0.A, iv p0.B] rfl rfl (lb rfl) fun a b2 w S => ?_
  refine sMove (.string (⟨#[]⟩ : ByteArray)) S (wN rfl) (.inr rfl) rfl rfl (lb rfl) fun a S => ?_
  refine leafL (leafT (hK1 _ _ ?_))
  refine sSeq (fun K3 hK3 => ?_)
  refine sSeq (fun K4 hK4 => ?_)
  refine sRegion ?_
  refine sField (b := b2) (off := 0) 0 0 S (wN rfl) rfl rfl rfl rfl rfl (lb rfl) fun a S => ?_
  refine sLoad1 (p := b2) (off := 0) (T := 38) (vs := [.int .u8 p0.Kind, .bool p0.Purl, iv p0.A, iv p0.B]) 0 (.int .u8 p0.Kind) S (wN rfl) rfl rfl rfl rfl rfl rfl (lb rfl) fun a S => ?_
  refine leafL (leafT (hK4 _ _ ?_))
  refine wp_block ?_
  refine sSeq (fun K5 hK5 => ?_)
  refine sRegion ?_
  refine sBin (.bool (p0.Kind == 2)) S (wN rfl) rfl rfl rfl (bEq _ _ _ _ .u8 p0.Kind 2) rfl (lb rfl) fun a S => ?_
  refine sMove (.bool (p0.Kind == 2)) S (wN rfl) (.inr rfl) rfl rfl (lb rfl) fun a S => ?_
  refine leafL (leafT (hK5 _ _ ?_))
  rcases iteSome h with ⟨hc6, h⟩ | ⟨hc6, h⟩
  · refine sCondT S rfl hc6 ?_
    refine sSeq (fun K7 hK7 => ?_)
    refine sRegion ?_
    refine sMove (.string (⟨#[121, 111]⟩ : ByteArray)) S (wN rfl) (.inr rfl) rfl rfl (lb rfl) fun a S => ?_
    refine leafL (leafT (hK7 _ _ ?_))
    obtain rfl := Option.some.inj h
    exact wp_ret (rBlock (rThen (sRet (.string (⟨#[121, 111]⟩ : ByteArray)) S (rsl1 rfl (rvT (t := 2) (v := .string (⟨#[121, 111]⟩ : ByteArray)) S rfl)) ⟨(), rfl, S.mem.sel [] [] (by decide) rfl rfl⟩)))
  refine sCondF S rfl hc6 ?_
  refine sSeq (fun K8 hK8 => ?_)
  refine sRegion ?_
  refine sBin (.bool (p0.Kind == 9)) S (wN rfl) rfl rfl rfl (bEq _ _ _ _ .u8 p0.Kind 9) rfl (lb rfl) fun a S => ?_
  refine sMove (.bool (p0.Kind == 9)) S (wN rfl) (.inr rfl) rfl rfl (lb rfl) fun a S => ?_
  refine leafL (leafT (hK8 _ _ ?_))
  rcases iteSome h with ⟨hc9, h⟩ | ⟨hc9, h⟩
  · refine sCondT S rfl hc9 ?_
    refine sSeq (fun K10 hK10 => ?_)
    refine sRegion ?_
    refine sField (b := b2) (off := 0) 2 2 S (wN rfl) rfl rfl rfl rfl rfl (lb rfl) fun a S => ?_
    refine sLoad1 (p := b2) (off := 2) (T := 38) (vs := [.int .u8 p0.Kind, .bool p0.Purl, iv p0.A, iv p0.B]) 0 (iv p0.A) S (wN rfl) rfl rfl rfl rfl rfl rfl (lb rfl) fun a S => ?_
    obtain ⟨r11, hx12, h⟩ := bindSome h
    have S1 := S.mem
    refine sCallQ (X := Unit) (f := 37) (vs := [iv p0.A]) (val := fun _ => .string r11) S (wN rfl) rfl callee37 rfl (S1.quiet [] rfl) (fun E1 w1 S1 => c_strconv_Itoa E1 w1 p0.A r11 hx12 S1) rfl (lb rfl) fun _ a w S => ?_
    obtain ⟨z13, hx14, h⟩ := bindSome h
    refine sBin (.string z13) S (wN rfl) rfl rfl rfl (bAddS _ _ _ _ (x := (⟨#[111, 110]⟩ : ByteArray)) (y := r11) hx14) rfl (lb rfl) fun a S => ?_
    refine sMove (.string z13) S (wN rfl) (.inr rfl) rfl rfl (lb rfl) fun a S => ?_
    refine leafL (leafT (hK10 _ _ ?_))
    obtain rfl := Option.some.inj h
    exact wp_ret (rBlock (rThen (sRet (.string z13) S (rsl1 rfl (rvT (t := 2) (v := .string z13) S rfl)) ⟨(), rfl, S.mem.sel [] [] (by decide) rfl rfl⟩)))
  refine sCondF S rfl hc9 ?_
  refine wp_skip (leafB (leafT (hK3 _ _ ?_)))
  refine sSeq (fun K15 hK15 => ?_)
  refine sRegion ?_
  refine sField (b := b2) (off := 0) 0 0 S (wN rfl) rfl rfl rfl rfl rfl (lb rfl) fun a S => ?_
  refine sLoad1 (p := b2) (off := 0) (T := 38) (vs := [.int .u8 p0.Kind, .bool p0.Purl, iv p0.A, iv p0.B]) 0 (.int .u8 p0.Kind) S (wN rfl) rfl rfl rfl rfl rfl rfl (lb rfl) fun a S => ?_
  obtain ⟨r16, hx17, h⟩ := bindSome h
  refine sCall (X := Value) (f := 28) (vs := [.int .u8 p0.Kind]) (val := c_stitch_forms_val r16) (B' := fun _ => []) (D' := c_stitch_forms_D r16) [] [eBox b2 38 [.int .u8 p0.Kind, .bool p0.Purl, iv p0.A, iv p0.B]] [] [0] [] S (wN rfl) rfl callee28 rfl (by decide) rfl rfl (fun E1 w1 S1 => c_stitch_forms E1 w1 p0.Kind r16 hx17 S1) rfl (lb rfl) fun u18 a w S => ?_
  obtain rfl : u18 = gv_stitch_form r16.1 := S.mem.know (i := 0) (e := fRep r_stitch_form (u18) r16.1) rfl
  refine sMove (.tuple #[gv_stitch_form r16.1, .bool r16.2]) S (wN rfl) (.inl rfl) rfl rfl (lb rfl) fun a S => ?_
  refine sExtract (vs := [gv_stitch_form r16.1, .bool r16.2]) (gv_stitch_form r16.1) S (wN rfl) rfl rfl rfl rfl (lb rfl) fun a S => ?_
  refine sExtract (vs := [gv_stitch_form r16.1, .bool r16.2]) (.bool r16.2) S (wN rfl) rfl rfl rfl rfl (lb rfl) fun a S => ?_
  refine sAlloc (gv_stitch_form (stitch_form.mk (⟨#[]⟩ : ByteArray) (0, 0) (0, 0) false 0 0)) S (wN rfl) rfl rfl (gl_stitch_form (stitch_form.mk (⟨#[]⟩ : ByteArray) (0, 0) (0, 0) false 0 0)) rfl rfl (lb rfl) fun a b19 w S => ?_
  refine sStore (p := b19) (off := 0) (T := 67) (vs := [.string (⟨#[]⟩ : ByteArray), iv 0, iv 0, iv 0, iv 0, .bool false, iv 0, iv 0]) (v := gv_stitch_form r16.1) 0 [.string r16.1.letter, iv r16.1.a.1, iv r16.1.a.2, iv r16.1.b.1, iv r16.1.b.2, .bool r16.1.sided, iv r16.1.uses, iv r16.1.made] S (wN rfl) rfl rfl rfl rfl rfl rfl rfl (by simp) rfl fun a w S => ?_
  refine sMove (.bool r16.2) S (wN rfl) (.inr rfl) rfl rfl (lb rfl) fun a S => ?_
  refine leafL (leafT (hK15 _ _ ?_))
  refine sSeq (fun K20 hK20 => ?_)
  refine sRegion ?_
  refine sMove (.string (⟨#[107]⟩ : ByteArray)) S (wN rfl) (.inr rfl) rfl rfl (lb rfl) fun a S => ?_
  refine leafL (leafT (hK20 _ _ ?_))
  obtain ⟨t22, h, g23⟩ := bindSome h
  refine sCut (fun a w => ∃ o21, o21 = t22 ∧ St [] E [] w0 48 a w [(1, .pointer (some ⟨b2, 0, none⟩)), (3, .pointer (some ⟨b19, 0, none⟩)), (5, .string o21)] [eBox b2 38 [.int .u8 p0.Kind, .bool p0.Purl, iv p0.A, iv p0.B], eBox b19 67 (gl_stitch_form r16.1)] []) ?_ (fun a w hI => ?_)
  · refine sSeq (fun K24 hK24 => ?_)
    refine sRegion ?_
    refine sField (b := b2) (off := 0) 1 1 S (wN rfl) rfl rfl rfl rfl rfl (lb rfl) fun a S => ?_
    refine sLoad1 (p := b2) (off := 1) (T := 38) (vs := [.int .u8 p0.Kind, .bool p0.Purl, iv p0.A, iv p0.B]) 1 (.bool p0.Purl) S (wN rfl) rfl rfl rfl rfl rfl rfl (lb rfl) fun a S => ?_
    refine leafL (leafT (hK24 _ _ ?_))
    rcases iteSome h with ⟨hc25, h⟩ | ⟨hc25, h⟩
    rotate_left
    · refine sCondF S rfl hc25 ?_
      exact wp_skip (leafT (⟨(⟨#[107]⟩ : ByteArray), Option.some.inj h, S.fix [1, 0] [] (by decide) rfl rfl rfl⟩))
    refine sCondT S rfl hc25 ?_
    refine sRegion ?_
    refine sMove (.string (⟨#[112]⟩ : ByteArray)) S (wN rfl) (.inr rfl) rfl rfl (lb rfl) fun a S => ?_
    exact leafL (leafT (⟨(⟨#[112]⟩ : ByteArray), Option.some.inj h, S.fix [1, 0] [] (by decide) rfl rfl rfl⟩))
  obtain ⟨o21, rfl, S⟩ := hI
  have h := g23
  clear g23
  try dsimp only at h
  refine sSeq (fun K26 hK26 => ?_)
  refine sRegion ?_
  refine sMove (.string o21) S (wN rfl) (.inl rfl) rfl rfl (lb rfl) fun a S => ?_
  refine sField (b := b19) (off := 0) 0 0 S (wN rfl) rfl rfl rfl rfl rfl (lb rfl) fun a S => ?_
  refine sLoad1 (p := b19) (off := 0) (T := 67) (vs := (gl_stitch_form r16.1)) 1 (.string r16.1.letter) S (wN rfl) rfl rfl rfl rfl rfl rfl (lb rfl) fun a S => ?_
  obtain ⟨z27, hx28, h⟩ := bindSome h
  refine sBin (.string z27) S (wN rfl) rfl rfl rfl (bAddS _ _ _ _ (x := o21) (y := r16.1.letter) hx28) rfl (lb rfl) fun a S => ?_
  refine sMove (.string z27) S (wN rfl) (.inr rfl) rfl rfl (lb rfl) fun a S => ?_
  refine leafL (leafT (hK26 _ _ ?_))
  obtain ⟨t30, h, g31⟩ := bindSome h
  refine sCut (fun a w => ∃ o29, o29 = t30 ∧ St [] E [] w0 48 a w [(1, .pointer (some ⟨b2, 0, none⟩)), (3, .pointer (some ⟨b19, 0, none⟩)), (5, .string o29)] [eBox b2 38 [.int .u8 p0.Kind, .bool p0.Purl, iv p0.A, iv p0.B], eBox b19 67 (gl_stitch_form r16.1)] []) ?_ (fun a w hI => ?_)
  · refine sSeq (fun K32 hK32 => ?_)
    refine sRegion ?_
    refine sField (b := b19) (off := 0) 1 1 S (wN rfl) rfl rfl rfl rfl rfl (lb rfl) fun a S => ?_
    refine sIdxV (v := .pointer (some ⟨b19, 1, none⟩)) (k := .i64) (j := 1) (q := .pointer (some ⟨b19, 2, none⟩)) S (wN rfl) rfl rfl rfl (idxV_arr (m := 2) (sz := 1) Tryd.underlying65 rfl (by decide) (by decide) 1) rfl (lb rfl) fun a S => ?_
    refine sLoad1 (p := b19) (off := 2) (T := 67) (vs := (gl_stitch_form r16.1)) 1 (iv r16.1.a.2) S (wN rfl) rfl rfl rfl rfl rfl rfl (lb rfl) fun a S => ?_
    refine sBin (.bool (decide (0 < r16.1.a.2))) S (wN rfl) rfl rfl rfl (bGt _ _ _ _ .i64 r16.1.a.2 0) rfl (lb rfl) fun a S => ?_
    refine leafL (leafT (hK32 _ _ ?_))
    rcases iteSome h with ⟨hc33, h⟩ | ⟨hc33, h⟩
    rotate_left
    · refine sCondF S rfl hc33 ?_
      exact wp_skip (leafT (⟨z27, Option.some.inj h, S.fix [0, 1] [] (by decide) rfl rfl rfl⟩))
    refine sCondT S rfl hc33 ?_
    refine sRegion ?_
    refine sMove (.string z27) S (wN rfl) (.inl rfl) rfl rfl (lb rfl) fun a S => ?_
    refine sField (b := b2) (off := 0) 2 2 S (wN rfl) rfl rfl rfl rfl rfl (lb rfl) fun a S => ?_
    refine sLoad1 (p := b2) (off := 2) (T := 38) (vs := [.int .u8 p0.Kind, .bool p0.Purl, iv p0.A, iv p0.B]) 0 (iv p0.A) S (wN rfl) rfl rfl rfl rfl rfl rfl (lb rfl) fun a S => ?_
    obtain ⟨r34, hx35, h⟩ := bindSome h
    have S1 := S.mem
    refine sCallQ (X := Unit) (f := 37) (vs := [iv p0.A]) (val := fun _ => .string r34) S (wN rfl) rfl callee37 rfl (S1.quiet [] rfl) (fun E1 w1 S1 => c_strconv_Itoa E1 w1 p0.A r34 hx35 S1) rfl (lb rfl) fun _ a w S => ?_
    obtain ⟨z36, hx37, h⟩ := bindSome h
    refine sBin (.string z36) S (wN rfl) rfl rfl rfl (bAddS _ _ _ _ (x := z27) (y := r34) hx37) rfl (lb rfl) fun a S => ?_
    refine sMove (.string z36) S (wN rfl) (.inr rfl) rfl rfl (lb rfl) fun a S => ?_
    exact leafL (leafT (⟨z36, Option.some.inj h, S.fix [0, 1] [] (by decide) rfl rfl rfl⟩))
  obtain ⟨o29, rfl, S⟩ := hI
  have h := g31
  clear g31
  try dsimp only at h
  obtain ⟨t39, h, g40⟩ := bindSome h
  refine sCut (fun a w => ∃ o38, o38 = t39 ∧ St [] E [] w0 48 a w [(5, .string o38)] [] []) ?_ (fun a w hI => ?_)
  rotate_left
  · obtain ⟨o38, rfl, S⟩ := hI
    have h := g40
    clear g40
    try dsimp only at h
    refine sSeq (fun K49 hK49 => ?_)
    refine sRegion ?_
    refine sMove (.string o38) S (wN rfl) (.inl rfl) rfl rfl (lb rfl) fun a S => ?_
    refine sMove (.string o38) S (wN rfl) (.inr rfl) rfl rfl (lb rfl) fun a S => ?_
    refine leafL (leafT (hK49 _ _ ?_))
    obtain rfl := Option.some.inj h
    exact wp_ret (sRet (.string o38) S (rsl1 rfl (rvT (t := 2) (v := .string o38) S rfl)) ⟨(), rfl, S.mem.sel [] [] (by decide) rfl rfl⟩)
  refine sSeq (fun K41 hK41 => ?_)
  refine sRegion ?_
  refine sField (b := b19) (off := 0) 3 3 S (wN rfl) rfl rfl rfl rfl rfl (lb rfl) fun a S => ?_
  refine sIdxV (v := .pointer (some ⟨b19, 3, none⟩)) (k := .i64) (j := 1) (q := .pointer (some ⟨b19, 4, none⟩)) S (wN rfl) rfl rfl rfl (idxV_arr (m := 2) (sz := 1) Tryd.underlying65 rfl (by decide) (by decide) 3) rfl (lb rfl) fun a S => ?_
  refine sLoad1 (p := b19) (off := 4) (T := 67) (vs := (gl_stitch_form r16.1)) 1 (iv r16.1.b.2) S (wN rfl) rfl rfl rfl rfl rfl rfl (lb rfl) fun a S => ?_
  refine sBin (.bool (decide (0 < r16.1.b.2))) S (wN rfl) rfl rfl rfl (bGt _ _ _ _ .i64 r16.1.b.2 0) rfl (lb rfl) fun a S => ?_
  refine leafL (leafT (hK41 _ _ ?_))
  rcases iteSome h with ⟨hc42, h⟩ | ⟨hc42, h⟩
  rotate_left
  · refine sCondF S rfl hc42 ?_
    exact wp_skip (leafT (⟨o29, Option.some.inj h, S.fix [] [] (by decide) rfl rfl rfl⟩))
  refine sCondT S rfl hc42 ?_
  refine sRegion ?_
  refine sMove (.string o29) S (wN rfl) (.inl rfl) rfl rfl (lb rfl) fun a S => ?_
  refine sField (b := b2) (off := 0) 3 3 S (wN rfl) rfl rfl rfl rfl rfl (lb rfl) fun a S => ?_
  refine sLoad1 (p := b2) (off := 3) (T := 38) (vs := [.int .u8 p0.Kind, .bool p0.Purl, iv p0.A, iv p0.B]) 0 (iv p0.B) S (wN rfl) rfl rfl rfl rfl rfl rfl (lb rfl) fun a S => ?_
  obtain ⟨r43, hx44, h⟩ := bindSome h
  have S1 := S.mem
  refine sCallQ (X := Unit) (f := 37) (vs := [iv p0.B]) (val := fun _ => .string r43) S (wN rfl) rfl callee37 rfl (S1.quiet [] rfl) (fun E1 w1 S1 => c_strconv_Itoa E1 w1 p0.B r43 hx44 S1) rfl (lb rfl) fun _ a w S => ?_
  obtain ⟨z45, hx46, h⟩ := bindSome h
  refine sBin (.string z45) S (wN rfl) rfl rfl rfl (bAddS _ _ _ _ (x := (⟨#[47]⟩ : ByteArray)) (y := r43) hx46) rfl (lb rfl) fun a S => ?_
  obtain ⟨z47, hx48, h⟩ := bindSome h
  refine sBin (.string z47) S (wN rfl) rfl rfl rfl (bAddS _ _ _ _ (x := o29) (y := z45) hx48) rfl (lb rfl) fun a S => ?_
  refine sMove (.string z47) S (wN rfl) (.inr rfl) rfl rfl (lb rfl) fun a S => ?_
  exact leafL (leafT (⟨z47, Option.some.inj h, S.fix [] [] (by decide) rfl rfl rfl⟩))

end Go.Proofs.YtoiehdlcfehmlaaDoor
namespace Go.Proofs
open Go.Shelf
def Tryd.lays156_ren : Go.Shelf.Ren := ⟨fun | 156 => 38 | 165 => 42 | 166 => 43 | 169 => 44 | 240 => 46 | 241 => 47 | 276 => 52 | 277 => 53 | n => n, fun | 31 => 77 | 9 => 9 | 3 => 3 | 4 => 4 | 0 => 0 | 20 => 20 | 72 => 87 | 76 => 91 | 70 => 84 | 37 => 85 | 75 => 90 | 127 => 95 | 164 => 102 | 5 => 5 | 80 => 93 | n => n, fun | n => n⟩
theorem Tryd.lays156 : Go.Proofs.Lays.n156 Tryd.prog Tryd.lays156_ren := {
  mixed := by kernel_rfl
  f156 := Tryd.func38.trans (congrArg some (by kernel_rfl))
  f165 := Tryd.func42.trans (congrArg some (by kernel_rfl))
  f166 := Tryd.func43.trans (congrArg some (by kernel_rfl))
  f169 := Tryd.func44.trans (congrArg some (by kernel_rfl))
  f240 := Tryd.func46.trans (congrArg some (by kernel_rfl))
  f241 := Tryd.func47.trans (congrArg some (by kernel_rfl))
  f276 := Tryd.func52.trans (congrArg some (by kernel_rfl))
  f277 := Tryd.func53.trans (congrArg some (by kernel_rfl))
  t0 := Tryd.underlying0
  a0 := Tryd.isAgg0
  z0 := Tryd.sizeOf0
  v0 := Tryd.zeroValue0
  t3 := Tryd.underlying3
  a3 := Tryd.isAgg3
  z3 := Tryd.sizeOf3
  v3 := Tryd.zeroValue3
  t4 := Tryd.underlying4
  a4 := Tryd.isAgg4
  z4 := Tryd.sizeOf4
  v4 := Tryd.zeroValue4
  t9 := Tryd.underlying9
  a9 := Tryd.isAgg9
  z9 := Tryd.sizeOf9
  v9 := Tryd.zeroValue9
  t20 := Tryd.underlying20
  a20 := Tryd.isAgg20
  z20 := Tryd.sizeOf20
  v20 := Tryd.zeroValue20
  t31 := Tryd.underlying77
  a31 := Tryd.isAgg77
  z31 := Tryd.sizeOf77
  v31 := Tryd.zeroValue77
  t37 := Tryd.underlying85
  a37 := Tryd.isAgg85
  z37 := Tryd.sizeOf85
  v37 := Tryd.zeroValue85
  t70 := Tryd.underlying84
  a70 := Tryd.isAgg84
  z70 := Tryd.sizeOf84
  v70 := Tryd.zeroValue84
  t72 := Tryd.underlying87
  a72 := Tryd.isAgg87
  z72 := Tryd.sizeOf87
  v72 := Tryd.zeroValue87
  t75 := Tryd.underlying90
  a75 := Tryd.isAgg90
  z75 := Tryd.sizeOf90
  v75 := Tryd.zeroValue90
  t76 := Tryd.underlying91
  a76 := Tryd.isAgg91
  z76 := Tryd.sizeOf91
  v76 := Tryd.zeroValue91
  t127 := Tryd.underlying95
  a127 := Tryd.isAgg95
  z127 := Tryd.sizeOf95
  v127 := Tryd.zeroValue95
  t164 := Tryd.underlying102
  a164 := Tryd.isAgg102
  z164 := Tryd.sizeOf102
  v164 := Tryd.zeroValue102 }
theorem Tryd.Builder_Extra_156 : Builder.Extra Tryd.prog Tryd.lays156_ren := {
  sizeBuilder := by kernel_rfl
  liesBuilder := by kernel_rfl
  t5 := Tryd.underlying5
  a5 := Tryd.isAgg5
  z5 := Tryd.sizeOf5
  v5 := Tryd.zeroValue5
  infoByte := by kernel_rfl
  cellsByte := by kernel_rfl
  sizeByte := by kernel_rfl
  neB5 := by decide }
open Go.RowKit in
theorem Tryd.strings_Join_none (a : Option Addr) (c : Nat) (sep : ByteArray) (w : World) :
    Calls Tryd.prog 38 #[.slice a 0 c, .string sep] w fun e w' => e = .returned (.string ⟨#[]⟩) ∧ w' = w := Any.strings_Join_none Tryd.lays156 Tryd.Builder_Extra_156 a c sep w
open Go.RowKit in
theorem Tryd.strings_Join (bk o c : Nat) (xs : List ByteArray) (sep : ByteArray) (w : World) (hcells : ∀ (j : Nat) x, xs[j]? = some x → w.cell? ⟨bk, o + j, none⟩ = some (.string x)) (hbk : bk < w.heap.size) (hN : xs.length ≤ 140737488355328) (hcap : xs.length ≤ c) (hlen : (Lib.join (xs.map (·.data.toList)) sep.data.toList).length ≤ 140737488355328) :
    Calls Tryd.prog 38 #[.slice (some ⟨bk, o, none⟩) xs.length c, .string sep] w fun e w' => e = .returned (.string ⟨(Lib.join (xs.map (·.data.toList)) sep.data.toList).toArray⟩) ∧ Below w.heap.size w w' := Any.strings_Join Tryd.lays156 Tryd.Builder_Extra_156 bk o c xs sep w hcells hbk hN hcap hlen
end Go.Proofs
namespace Go.Proofs.YtoiehdlcfehmlaaDoor
open Go.RowKit
set_option linter.unusedVariables false

noncomputable def F_strings_Join (p0 : List ByteArray) (p1 : ByteArray) : Option ByteArray :=
  if decide (p0.length ≤ 140737488355328 ∧ (Lib.join (p0.map (·.data.toList)) p1.data.toList).length ≤ 140737488355328) then
    some ⟨(Lib.join (p0.map (·.data.toList)) p1.data.toList).toArray⟩
  else
    none
theorem all_str {E : Nat → Prop} {w : World} {us : List Value} {ys : List ByteArray} (h : All rS E w us ys) : us = ys.map Value.string := by
  apply List.ext_getElem?
  intro j
  by_cases hj : j < ys.length
  · have hu : j < us.length := by rw [h.1]; exact hj
    have := h.2 j us[j] ys[j] (List.getElem?_eq_getElem hu) (List.getElem?_eq_getElem hj)
    rw [List.getElem?_eq_getElem hu, List.getElem?_map, List.getElem?_eq_getElem hj]
    exact congrArg some this
  · rw [List.getElem?_eq_none (by rw [h.1]; omega), List.getElem?_eq_none (by simp; omega)]
theorem flat_str (ys : List ByteArray) : flat (ys.map Value.string) = ys.map Value.string := by
  induction ys with
  | nil => rfl
  | cons y ys ih => simp only [flat, List.map_cons, List.flatten_cons] at ih ⊢; rw [ih]; rfl
theorem c_strings_Join (E : Nat → Prop) (w0 : World) (p0 : List ByteArray) (v0 : Value) (p1 : ByteArray) (r : ByteArray) (h : F_strings_Join p0 p1 = some r) (S : St0 E [] w0 w0 [] [fRep (rL rS) v0 p0]) :
    Calls Tryd.prog 38 #[v0, .string p1] w0 (Ret (X := Unit) E [] w0 (fun _ => .string r) (fun _ => []) (fun _ => [])) := by
  unfold F_strings_Join at h
  rcases iteSome h with ⟨hc, h⟩ | ⟨hc, h⟩
  · have hc := of_decide_eq_true hc
    obtain rfl := Option.some.inj h
    obtain ⟨ad, c, vs, rfl, hcap, hm, hvs, hcell⟩ := S.know (i := 0) (e := fRep (rL rS) v0 p0) rfl
    have hv := all_str hvs
    subst hv
    rw [flat_str] at hcell
    have fin : ∀ w', Chg [] w0 w' → St0 E [] w0 w' [] [] := fun w' hg => (S.calm hg).sub (fun e he => (by cases he)) (by simp [keysL]) (fun d hd => (by cases hd))
    cases p0 with
    | nil =>
      refine (Tryd.strings_Join_none ad c p1 w0).mono ?_
      rintro e w' ⟨rfl, rfl⟩
      exact ⟨(), rfl, fin _ (Chg.refl _ _)⟩
    | cons x xs =>
      obtain ⟨b, off, rfl, _, hlt, _⟩ := hcell 0 _ rfl
      refine (Tryd.strings_Join b off c (x :: xs) p1 w0 ?_ hlt hc.1 hcap hc.2).mono ?_
      · intro j y hy
        obtain ⟨b', off', h1, _, _, h4⟩ := hcell j (.string y) (by rw [List.getElem?_map, hy]; rfl)
        cases h1
        exact h4
      · rintro e w' ⟨rfl, hb⟩
        exact ⟨(), rfl, fin _ ⟨hb.os, hb.tape, hb.output, hb.size, fun k hk _ => hb.block k hk⟩⟩
  · cases h

end Go.Proofs.YtoiehdlcfehmlaaDoor
