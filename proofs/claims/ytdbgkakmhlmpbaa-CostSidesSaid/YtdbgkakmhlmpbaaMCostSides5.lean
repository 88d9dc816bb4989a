/- Several texts in one: G67 G48 G69 G49 G27 G28 G29 G44 -/
import Derived.WalkKit
import Derived.Maps.AppendAt
import Derived.Deep.AppendLies
import Derived.KernelRfl
import Derived.Laws.OwnMore
import Derived.Great.BuildSlice
import Derived.Orders
import Derived.Laws.StructEq
import Derived.ChangeKeysEq
import Derived.Defers
import Derived.Laws.BytesString
import Derived.RangeFuncNested
import Derived.RangeFuncBound
import Derived.RangeFuncCalls
import Derived.RangeFuncLeaves
import Derived.OrdersIn
import Derived.LoopNIn
import Derived.Test.YtdbgkakmhlmpbaaProg
import Derived.ProofKit
import Derived.OpenShut
import Derived.ChangeOld
import Derived.Deep.Slices
import Derived.Lib.SmallJoins
import Derived.JoinedOf
import Derived.JoinedAt
import Derived.Below
import Derived.Test.YtdbgkakmhlmpbaaRows
import Derived.Test.YtdbgkakmhlmpbaaMCostSides4
namespace Go.Proofs.Ytdbgkakmhlmpbaa
open Go.RowKit
set_option linter.unusedVariables false

def anc_raddleref25_Written_0 : List (List Nat) := [[], [], [0, 1], [0, 1, 2], [0, 1, 2, 3], [0, 1, 2, 3, 4], [0, 1, 2, 3, 4, 5], [0, 1, 2, 3, 4, 5, 6], [0, 1, 2, 3, 4, 5, 6, 7], [0, 1, 2, 3, 4, 5, 6], [0, 1, 2, 3, 4, 5, 6, 9], [0, 1, 2, 3, 4, 5, 6, 7, 8, 9, 10], [0, 1, 2, 3, 4, 5, 6, 7, 8, 9, 10, 11], [0, 1, 2, 3, 4, 5, 6, 7, 8, 9, 10, 11, 12], [0, 1, 2, 3, 4, 5, 6, 7, 8, 9, 10, 11, 12, 13], [0, 1, 2, 3, 4, 5, 6, 7, 8, 9, 10, 11, 12, 13], [0, 1, 2, 3, 4, 5, 6, 7, 8, 9, 10, 11, 12, 13, 15], [0, 1, 2, 3, 4, 5, 6, 7, 8, 9, 10, 11, 12, 13, 14, 15, 16], [0, 1, 2, 3, 4, 5, 6, 7, 8, 9, 10, 11, 12, 13, 14, 15, 16, 17], [0, 1, 2, 3, 4, 5, 6, 7, 8, 9, 10, 11, 12, 13], [0, 1, 2, 3, 4, 5, 6, 7, 8, 9, 10, 11, 12, 13], [0, 1, 2, 3, 4, 5, 6, 7, 8, 9, 10, 11, 12, 13, 19, 20], [0, 1, 2, 3, 4, 5, 6, 7, 8, 9, 10, 11, 12, 13, 19, 20, 21], [0, 1, 2, 3, 4, 5, 6, 7, 8, 9, 10, 11, 12, 13, 14, 15, 16, 17, 18, 19, 20, 21, 22], [0, 1, 2, 3, 4, 5, 6, 7, 8, 9, 10, 11, 12, 13, 14, 15, 16, 17, 18, 19, 20, 21, 22, 23]]
noncomputable def raddleref25_Written_l1 (p0 : (List api_Stitch)) : (Int × Int) → Option ((Int × Int) ⊕ (Int × Int)) := fun s0 => match s0 with
  | (s44, s45) =>
    Option.bind (α := Bool) (
      Option.bind (idxO p0 s44) fun x55 =>
      if x55.Kind == 1 then
        if decide ((w64 (s44 + 1)) < (p0.length : Int)) then
          Option.bind (idxO p0 (w64 (s44 + 1))) fun x64 =>
          some ((x64.Kind == x55.Kind) && ((x64.Purl == x55.Purl) && ((x64.A == x55.A) && ((x64.B == x55.B) && true))))
        else
          some false
      else
        some false) fun o52 =>
    if o52 then
      some (.inl (w64 (s44 + 1), w64 (s45 + 1)))
    else
      some (.inr (s44, s45))
noncomputable def raddleref25_Written_l2 (p0 : (List api_Stitch)) : (ByteArray × Int) → Option ((ByteArray × Int) ⊕ ByteArray) := fun s0 => match s0 with
  | (s9, s10) =>
    if decide (s10 < (p0.length : Int)) then
      Option.bind (α := (ByteArray × Int)) (
        Option.bind (α := ByteArray) (
          if decide (0 < s10) then
            Option.bind (addS s9 (⟨#[32]⟩ : ByteArray)) fun z27 =>
            some z27
          else
            some s9) fun o22 =>
        Option.bind (idxO p0 s10) fun x30 =>
        Option.bind (F_raddleref25_one x30) fun r35 =>
        Option.bind (addS o22 r35) fun z37 =>
        Option.bind (α := (Int × Int)) (
          Option.bind (whileO (raddleref25_Written_l1 p0) (s10, 1)) fun (e49, e50) =>
            some (e49, e50)) fun (o40, o41) =>
        if decide (1 < o41) then
          Option.bind (F_raddleref25_Decimal o41) fun r97 =>
          Option.bind (addS z37 r97) fun z99 =>
          some (z99, o40)
        else
          some (z37, o40)) fun (o18, o19) =>
      some (.inl (o18, w64 (o19 + 1)))
    else
      some (.inr s9)
noncomputable def F_raddleref25_Written (p0 : (List api_Stitch)) : Option ByteArray :=
  Option.bind (α := ByteArray) (
    Option.bind (whileO (raddleref25_Written_l2 p0) ((⟨#[]⟩ : ByteArray), 0)) fun e14 =>
      some e14) fun o5 =>
  some o5
set_option maxHeartbeats 4000000 in
set_option maxRecDepth 100000 in
theorem c_raddleref25_Written (E : Nat → Prop) (w0 : World) (p0 : (List api_Stitch)) (v0 : Value) (r : ByteArray) (h : F_raddleref25_Written p0 = some r) (S : St0 E [] w0 w0 [] [fRep (rL r_api_Stitch) (v0) p0]) :
    Calls Try.prog 67 #[v0] w0 (Ret (X := Unit) E [] w0 (fun _ => .string r) (fun _ => []) (fun _ => [])) := by
  unfold F_raddleref25_Written at h
  obtain ⟨ad1, cp2, _, rfl, _⟩ := S.know (i := 0) (e := fRep (rL r_api_Stitch) (v0) p0) rfl
  refine sEnter (args := [.slice ad1 p0.length cp2]) 59 Try.func67 rfl rfl (by simp) S (fun a S => ?_)
  refine sSeq (fun K3 hK3 => ?_)
  refine sRegion ?_
  refine sMove (.string (⟨#[]⟩ : ByteArray)) S (wN rfl) (.inr rfl) rfl rfl (lb rfl) fun a S => ?_
  refine leafL (leafT (hK3 _ _ ?_))
  refine sSeq (fun K4 hK4 => ?_)
  refine sRegion ?_
  refine sMove (.string (⟨#[]⟩ : ByteArray)) S (wN rfl) (.inr rfl) rfl rfl (lb rfl) fun a S => ?_
  refine leafL (leafT (hK4 _ _ ?_))
  obtain ⟨t6, h, g7⟩ := bindSome h
  refine sCut (fun a w => ∃ o5, o5 = t6 ∧ St [] E [] w0 59 a w [(3, .string o5)] [] []) ?_ (fun a w hI => ?_)
  rotate_left
  · obtain ⟨o5, rfl, S⟩ := hI
    have h := g7
    clear g7
    try dsimp only at h
    refine sSeq (fun K101 hK101 => ?_)
    refine sRegion ?_
    refine sMove (.string o5) S (wN rfl) (.inl rfl) rfl rfl (lb rfl) fun a S => ?_
    refine sMove (.string o5) S (wN rfl) (.inr rfl) rfl rfl (lb rfl) fun a S => ?_
    refine leafL (leafT (hK101 _ _ ?_))
    obtain rfl := Option.some.inj h
    exact wp_ret (sRet (.string o5) S (rsl1 rfl (rvT (t := 2) (v := .string o5) S rfl)) ⟨(), rfl, S.mem.sel [] [] (by decide) rfl rfl⟩)
  refine sSeq (fun K8 hK8 => ?_)
  refine sRegion ?_
  refine sMove (iv 0) S (wN rfl) (.inr rfl) rfl rfl (lb rfl) fun a S => ?_
  refine leafL (leafT (hK8 _ _ ?_))
  refine wp_block ?_
  obtain ⟨t13, hl, g12⟩ := bindSome h
  refine sLoop hl (fun s0 a w => match s0 with | (s9, s10) => St [] E [] w0 59 a w [(0, .slice ad1 p0.length cp2), (3, .string s9), (4, iv s10)] [] [fRep (rL r_api_Stitch) (.slice ad1 p0.length cp2) p0]) (S.fix [] [0] (by decide) rfl rfl rfl) ?_
  clear hl h
  intro s0 a w c0 hI h hu11
  obtain ⟨s9, s10⟩ := s0
  unfold raddleref25_Written_l2 at h
  dsimp only at h hI
  have S := hI
  refine sSeq (fun K15 hK15 => ?_)
  refine sSeq (fun K16 hK16 => ?_)
  refine sRegion ?_
  refine sMove (iv s10) S (wN rfl) (.inl rfl) rfl rfl (lb rfl) fun a S => ?_
  refine sMove (.slice ad1 p0.length cp2) S (wN rfl) (.inl rfl) rfl rfl (lb rfl) fun a S => ?_
  refine sLen (ad := ad1) (m := p0.length) (c := cp2) S (wN rfl) rfl Try.underlying70 rfl rfl (lb rfl) fun a S => ?_
  refine sBin (.bool (decide (s10 < (p0.length : Int)))) S (wN rfl) rfl rfl rfl (bLt _ _ _ _ .i64 s10 (p0.length : Int)) rfl (lb rfl) fun a S => ?_
  refine leafL (leafT (hK16 _ _ ?_))
  rcases iteSome h with ⟨hc17, h⟩ | ⟨hc17, h⟩
  rotate_left
  · refine sCondF S rfl hc17 ?_
    obtain rfl := Option.some.inj h
    obtain rfl := hu11 _ rfl
    have h := g12
    clear g12
    try dsimp only at h
    exact wp_exit (xThen (xThen (xHit (leafT (⟨s9, Option.some.inj h, S.fix [] [] (by decide) rfl rfl rfl⟩)))))
  refine sCondT S rfl hc17 ?_
  refine wp_skip (leafT (hK15 _ _ ?_))
  obtain ⟨t20, h, g21⟩ := bindSome h
  refine sCut (fun a w => ∃ o18, ∃ o19, (o18, o19) = t20 ∧ St [] E [] w0 59 a w [(0, .slice ad1 p0.length cp2), (3, .string o18), (4, iv o19)] [] [fRep (rL r_api_Stitch) (.slice ad1 p0.length cp2) p0]) ?_ (fun a w hI => ?_)
  rotate_left
  · obtain ⟨o18, o19, rfl, S⟩ := hI
    have h := g21
    clear g21
    try dsimp only at h
    refine sRegion ?_
    refine sMove (iv o19) S (wN rfl) (.inl rfl) rfl rfl (lb rfl) fun a S => ?_
    refine sBin (iv (w64 (o19 + 1))) S (wN rfl) rfl rfl rfl (bAdd _ _ _ _ o19 1) rfl (lb rfl) fun a S => ?_
    refine sMove (iv (w64 (o19 + 1))) S (wN rfl) (.inr rfl) rfl rfl (lb rfl) fun a S => ?_
    exact leafL (leafT (⟨(o18, w64 (o19 + 1)), (Option.some.inj h).symm, (S.fix [] [0] (by decide) rfl rfl rfl)⟩))
  refine wp_block ?_
  obtain ⟨t23, h, g24⟩ := bindSome h
  refine sCut (fun a w => ∃ o22, o22 = t23 ∧ St [] E [] w0 59 a w [(0, .slice ad1 p0.length cp2), (3, .string o22), (4, iv s10)] [] [fRep (rL r_api_Stitch) (.slice ad1 p0.length cp2) p0]) ?_ (fun a w hI => ?_)
  · refine sSeq (fun K25 hK25 => ?_)
    refine sRegion ?_
    refine sMove (iv s10) S (wN rfl) (.inl rfl) rfl rfl (lb rfl) fun a S => ?_
    refine sBin (.bool (decide (0 < s10))) S (wN rfl) rfl rfl rfl (bGt _ _ _ _ .i64 s10 0) rfl (lb rfl) fun a S => ?_
    refine leafL (leafT (hK25 _ _ ?_))
    rcases iteSome h with ⟨hc26, h⟩ | ⟨hc26, h⟩
    rotate_left
    · refine sCondF S rfl hc26 ?_
      exact wp_skip (leafT (⟨s9, Option.some.inj h, S.fix [] [0] (by decide) rfl rfl rfl⟩))
    refine sCondT S rfl hc26 ?_
    refine sRegion ?_
    refine sMove (.string s9) S (wN rfl) (.inl rfl) rfl rfl (lb rfl) fun a S => ?_
    obtain ⟨z27, hx28, h⟩ := bindSome h
    refine sBin (.string z27) S (wN rfl) rfl rfl rfl (bAddS _ _ _ _ (x := s9) (y := (⟨#[32]⟩ : ByteArray)) hx28) rfl (lb rfl) fun a S => ?_
    refine sMove (.string z27) S (wN rfl) (.inr rfl) rfl rfl (lb rfl) fun a S => ?_
    exact leafL (leafT (⟨z27, Option.some.inj h, S.fix [] [0] (by decide) rfl rfl rfl⟩))
  obtain ⟨o22, rfl, S⟩ := hI
  have h := g24
  clear g24
  try dsimp only at h
  refine sSeq (fun K29 hK29 => ?_)
  refine sRegion ?_
  refine sMove (.string o22) S (wN rfl) (.inl rfl) rfl rfl (lb rfl) fun a S => ?_
  refine sMove (.slice ad1 p0.length cp2) S (wN rfl) (.inl rfl) rfl rfl (lb rfl) fun a S => ?_
  refine sMove (iv s10) S (wN rfl) (.inl rfl) rfl rfl (lb rfl) fun a S => ?_
  obtain ⟨x30, hx31, h⟩ := bindSome h
  obtain ⟨q32, hq33, S⟩ := pIdx (P := Try.prog) (r := r_api_Stitch) (v := .slice ad1 p0.length cp2) (xs := p0) (j := s10) 70 74 0 S Try.underlying70 rfl rfl hx31
  refine sIdxV (v := .slice ad1 p0.length cp2) (k := .i64) (j := s10) S (wN rfl) rfl rfl rfl hq33 rfl (lb rfl) fun a S => ?_
  obtain ⟨u34, S⟩ := pLoad (r := r_api_Stitch) (q := q32) (x := x30) 0 S rfl
  obtain rfl : u34 = .agg #[.int .u8 x30.Kind, .bool x30.Purl, iv x30.A, iv x30.B] := S.mem.know (i := 1) (e := fRep r_api_Stitch (u34) x30) rfl
  refine sLoadVN (vq := q32) 0 [.int .u8 x30.Kind, .bool x30.Purl, iv x30.A, iv x30.B] S (wN rfl) rfl rfl rfl rfl rfl rfl (lb rfl) fun a S => ?_
  obtain ⟨r35, hx36, h⟩ := bindSome h
  have S1 := S.mem
  refine sCallQ (X := Unit) (f := 89) (vs := [.agg #[.int .u8 x30.Kind, .bool x30.Purl, iv x30.A, iv x30.B]]) (val := fun _ => .string r35) S (wN rfl) rfl callee89 rfl (S1.quiet [1] rfl) (fun E1 w1 S1 => c_raddleref25_one E1 w1 x30 (.agg #[.int .u8 x30.Kind, .bool x30.Purl, iv x30.A, iv x30.B]) r35 hx36 S1) rfl (lb rfl) fun _ a w S => ?_
  obtain ⟨z37, hx38, h⟩ := bindSome h
  refine sBin (.string z37) S (wN rfl) rfl rfl rfl (bAddS _ _ _ _ (x := o22) (y := r35) hx38) rfl (lb rfl) fun a S => ?_
  refine sMove (.string z37) S (wN rfl) (.inr rfl) rfl rfl (lb rfl) fun a S => ?_
  refine leafL (leafT (hK29 _ _ ?_))
  refine sSeq (fun K39 hK39 => ?_)
  refine sRegion ?_
  refine sMove (iv 1) S (wN rfl) (.inr rfl) rfl rfl (lb rfl) fun a S => ?_
  refine leafL (leafT (hK39 _ _ ?_))
  obtain ⟨t42, h, g43⟩ := bindSome h
  refine sCut (fun a w => ∃ o40, ∃ o41, (o40, o41) = t42 ∧ St [] E [] w0 59 a w [(0, .slice ad1 p0.length cp2), (3, .string z37), (4, iv o40), (5, iv o41)] [] [fRep (rL r_api_Stitch) (.slice ad1 p0.length cp2) p0]) ?_ (fun a w hI => ?_)
  rotate_left
  · obtain ⟨o40, o41, rfl, S⟩ := hI
    have h := g43
    clear g43
    try dsimp only at h
    refine sSeq (fun K95 hK95 => ?_)
    refine sRegion ?_
    refine sMove (iv o41) S (wN rfl) (.inl rfl) rfl rfl (lb rfl) fun a S => ?_
    refine sBin (.bool (decide (1 < o41))) S (wN rfl) rfl rfl rfl (bGt _ _ _ _ .i64 o41 1) rfl (lb rfl) fun a S => ?_
    refine leafL (leafT (hK95 _ _ ?_))
    rcases iteSome h with ⟨hc96, h⟩ | ⟨hc96, h⟩
    rotate_left
    · refine sCondF S rfl hc96 ?_
      exact wp_skip (leafB (leafT (⟨z37, o40, Option.some.inj h, S.fix [] [0] (by decide) rfl rfl rfl⟩)))
    refine sCondT S rfl hc96 ?_
    refine sRegion ?_
    refine sMove (.string z37) S (wN rfl) (.inl rfl) rfl rfl (lb rfl) fun a S => ?_
    refine sMove (iv o41) S (wN rfl) (.inl rfl) rfl rfl (lb rfl) fun a S => ?_
    obtain ⟨r97, hx98, h⟩ := bindSome h
    have S1 := S.mem
    refine sCallQ (X := Unit) (f := 68) (vs := [iv o41]) (val := fun _ => .string r97) S (wN rfl) rfl callee68 rfl (S1.quiet [] rfl) (fun E1 w1 S1 => c_raddleref25_Decimal E1 w1 o41 r97 hx98 S1) rfl (lb rfl) fun _ a w S => ?_
    obtain ⟨z99, hx100, h⟩ := bindSome h
    refine sBin (.string z99) S (wN rfl) rfl rfl rfl (bAddS _ _ _ _ (x := z37) (y := r97) hx100) rfl (lb rfl) fun a S => ?_
    refine sMove (.string z99) S (wN rfl) (.inr rfl) rfl rfl (lb rfl) fun a S => ?_
    exact leafL (leafB (leafT (⟨z99, o40, Option.some.inj h, S.fix [] [0] (by decide) rfl rfl rfl⟩)))
  refine wp_block ?_
  obtain ⟨t48, hl, g47⟩ := bindSome h
  refine sLoop hl (fun s0 a w => match s0 with | (s44, s45) => St [] E [] w0 59 a w [(0, .slice ad1 p0.length cp2), (3, .string z37), (4, iv s44), (5, iv s45)] [] [fRep (rL r_api_Stitch) (.slice ad1 p0.length cp2) p0]) (S.fix [] [3] (by decide) rfl rfl rfl) ?_
  clear hl h
  intro s0 a w c0 hI h hu46
  obtain ⟨s44, s45⟩ := s0
  unfold raddleref25_Written_l1 at h
  dsimp only at h hI
  have S := hI
  refine sSeq (fun K51 hK51 => ?_)
  obtain ⟨t53, h, g54⟩ := bindSome h
  refine sCut (fun a w => ∃ o52, o52 = t53 ∧ St [] E [] w0 59 a w [(0, .slice ad1 p0.length cp2), (3, .string z37), (4, iv s44), (5, iv s45), (47, .bool o52)] [] [fRep (rL r_api_Stitch) (.slice ad1 p0.length cp2) p0]) ?_ (fun a w hI => ?_)
  rotate_left
  · obtain ⟨o52, rfl, S⟩ := hI
    have h := g54
    clear g54
    try dsimp only at h
    rcases iteSome h with ⟨hc93, h⟩ | ⟨hc93, h⟩
    rotate_left
    · refine sCondF S rfl hc93 ?_
      obtain rfl := Option.some.inj h
      obtain rfl := hu46 _ rfl
      have h := g47
      clear g47
      try dsimp only at h
      exact wp_exit (xThen (xThen (xHit (leafT (⟨s44, s45, Option.some.inj h, S.fix [] [0] (by decide) rfl rfl rfl⟩)))))
    refine sCondT S rfl hc93 ?_
    refine wp_skip (leafT (hK51 _ _ ?_))
    refine wp_block ?_
    refine sSeq (fun K94 hK94 => ?_)
    refine sRegion ?_
    refine sMove (iv s44) S (wN rfl) (.inl rfl) rfl rfl (lb rfl) fun a S => ?_
    refine sBin (iv (w64 (s44 + 1))) S (wN rfl) rfl rfl rfl (bAdd _ _ _ _ s44 1) rfl (lb rfl) fun a S => ?_
    refine sMove (iv (w64 (s44 + 1))) S (wN rfl) (.inr rfl) rfl rfl (lb rfl) fun a S => ?_
    refine leafL (leafT (hK94 _ _ ?_))
    refine sRegion ?_
    refine sMove (iv s45) S (wN rfl) (.inl rfl) rfl rfl (lb rfl) fun a S => ?_
    refine sBin (iv (w64 (s45 + 1))) S (wN rfl) rfl rfl rfl (bAdd _ _ _ _ s45 1) rfl (lb rfl) fun a S => ?_
    refine sMove (iv (w64 (s45 + 1))) S (wN rfl) (.inr rfl) rfl rfl (lb rfl) fun a S => ?_
    exact leafL (leafB (leafT (⟨(w64 (s44 + 1), w64 (s45 + 1)), (Option.some.inj h).symm, (S.fix [] [0] (by decide) rfl rfl rfl)⟩)))
  obtain ⟨x55, hx56, h⟩ := bindSome h
  rcases iteSome h with ⟨hc62, h⟩ | ⟨hc62, h⟩
  rotate_left
  · obtain ⟨q88, hq89, S⟩ := pIdx (P := Try.prog) (r := r_api_Stitch) (v := .slice ad1 p0.length cp2) (xs := p0) (j := s44) 70 74 0 S Try.underlying70 rfl rfl hx56
    obtain ⟨q90, hq91, S⟩ := pFld (P := Try.prog) (r := r_api_Stitch) (s2 := (rI .u8)) (g := (·.Kind)) (q := q88) (z := x55) 74 0 0 0 S rfl rfl comp_api_Stitch_Kind
    obtain ⟨u92, S⟩ := pLoad (r := (rI .u8)) (q := q90) (x := x55.Kind) 0 S rfl
    obtain rfl : u92 = .int .u8 x55.Kind := S.mem.know (i := 1) (e := fRep (rI .u8) (u92) x55.Kind) rfl
    refine sDraw (nf := []) (W := [(0, 23, .slice ad1 p0.length cp2), (1, 24, iv s44), (2, 25, q88), (3, 26, q90), (4, 27, .int .u8 x55.Kind), (5, 28, .bool (x55.Kind == 1)), (6, 29, .bool (x55.Kind == 1)), (7, 30, undef), (8, 31, undef), (9, 32, undef), (10, 33, undef), (11, 34, undef), (12, 35, .bool false), (13, 36, .bool false), (14, 37, undef), (15, 38, undef), (16, 39, undef), (17, 40, undef), (18, 41, undef), (19, 42, undef), (20, 43, undef), (21, 44, undef), (22, 45, undef), (23, 46, undef), (24, 47, .bool false)]) rfl S ?_
    refine node_by (A := anc_raddleref25_Written_0) (nf := []) (Y := []) (W := [(0, 23, .slice ad1 p0.length cp2), (1, 24, iv s44), (2, 25, q88), (3, 26, q90), (4, 27, .int .u8 x55.Kind), (5, 28, .bool (x55.Kind == 1)), (6, 29, .bool (x55.Kind == 1)), (7, 30, undef), (8, 31, undef), (9, 32, undef), (10, 33, undef), (11, 34, undef), (12, 35, .bool false), (13, 36, .bool false), (14, 37, undef), (15, 38, undef), (16, 39, undef), (17, 40, undef), (18, 41, undef), (19, 42, undef), (20, 43, undef), (21, 44, undef), (22, 45, undef), (23, 46, undef), (24, 47, .bool false)]) 25 (by kernel_rfl) (by kernel_rfl) (by kernel_rfl) (by kernel_rfl) (by kernel_rfl) [0, 1, 2, 3, 4, 5, 6, 7, 8, 9, 10, 11, 12, 13, 14, 15, 16, 17, 18, 19, 20, 21, 22, 23, 24] (by kernel_rfl) (by decide) (by decide) (aF 0 24 (by decide) ?_ (aF 1 23 (by decide) ?_ (aF 2 22 (by decide) ?_ (aF 3 21 (by decide) ?_ (aF 4 20 (by decide) ?_ (aF 5 19 (by decide) ?_ (aF 6 18 (by decide) ?_ (aF 7 17 (by decide) ?_ (aF 8 16 (by decide) ?_ (aF 9 15 (by decide) ?_ (aF 10 14 (by decide) ?_ (aF 11 13 (by decide) ?_ (aF 12 12 (by decide) ?_ (aF 13 11 (by decide) ?_ (aF 14 10 (by decide) ?_ (aF 15 9 (by decide) ?_ (aF 16 8 (by decide) ?_ (aF 17 7 (by decide) ?_ (aF 18 6 (by decide) ?_ (aF 19 5 (by decide) ?_ (aF 20 4 (by decide) ?_ (aF 21 3 (by decide) ?_ (aF 22 2 (by decide) ?_ (aF 23 1 (by decide) ?_ (aF 24 0 (by decide) ?_ (trivial)))))))))))))))))))))))))) [(0, .slice ad1 p0.length cp2), (3, .string z37), (4, iv s44), (5, iv s45), (30, undef), (31, undef), (32, undef), (33, undef), (34, undef), (37, undef), (38, undef), (39, undef), (40, undef), (41, undef), (42, undef), (43, undef), (44, undef), (45, undef), (46, undef), (47, .bool false)] (fin_of [none, none, none, none, some 7, some 8, some 9, some 10, some 11, some 14, some 15, some 16, some 17, some 18, some 19, some 20, some 21, some 22, some 23, some 24] rfl (by kernel_rfl) (by kernel_rfl)) (fun _ a w S => ?_)
    · refine fI 23 (.slice ad1 p0.length cp2) [(0, .slice ad1 p0.length cp2)] 0 [none] rfl rfl rfl rfl rfl rfl fun G a w S => ?_
      refine sMove (.slice ad1 p0.length cp2) S (wN rfl) (.inl rfl) rfl rfl (lb rfl) fun a S => ?_
      exact leafL ⟨rfl, S⟩
    · refine fI 24 (iv s44) [(4, iv s44)] 1 [none] rfl rfl rfl rfl rfl rfl fun G a w S => ?_
      refine sMove (iv s44) S (wN rfl) (.inl rfl) rfl rfl (lb rfl) fun a S => ?_
      exact leafL ⟨rfl, S⟩
    · refine fI 25 q88 [(23, .slice ad1 p0.length cp2), (24, iv s44)] 2 [some 0, some 1] rfl rfl rfl rfl rfl rfl fun G a w S => ?_
      refine sIdxV (v := .slice ad1 p0.length cp2) (k := .i64) (j := s44) S (wN rfl) rfl rfl rfl hq89 rfl (lb rfl) fun a S => ?_
      exact leafL ⟨rfl, S⟩
    · refine fI 26 q90 [(25, q88)] 3 [some 2] rfl rfl rfl rfl rfl rfl fun G a w S => ?_
      refine sFldV (q := q88) S (wN rfl) rfl rfl hq91 rfl (lb rfl) fun a S => ?_
      exact leafL ⟨rfl, S⟩
    · refine fI 27 (.int .u8 x55.Kind) [(26, q90)] 4 [some 3] rfl rfl rfl rfl rfl rfl fun G a w S => ?_
      refine sLoadV1 (vq := q90) 0 (.int .u8 x55.Kind) S (wN rfl) rfl rfl rfl rfl rfl (lb rfl) fun a S => ?_
      exact leafL ⟨rfl, S⟩
    · refine fI 28 (.bool (x55.Kind == 1)) [(27, .int .u8 x55.Kind)] 5 [some 4] rfl rfl rfl rfl rfl rfl fun G a w S => ?_
      refine sBin (.bool (x55.Kind == 1)) S (wN rfl) rfl rfl rfl (bEq _ _ _ _ .u8 x55.Kind 1) rfl (lb rfl) fun a S => ?_
      exact leafL ⟨rfl, S⟩
    · refine fI 29 (.bool (x55.Kind == 1)) [(28, .bool (x55.Kind == 1))] 6 [some 5] rfl rfl rfl rfl rfl rfl fun G a w S => ?_
      refine sMove (.bool (x55.Kind == 1)) S (wN rfl) (.inl rfl) rfl rfl (lb rfl) fun a S => ?_
      exact leafL ⟨rfl, S⟩
    · refine fI 30 undef [(4, iv s44), (29, .bool (x55.Kind == 1))] 7 [none, some 6] rfl rfl rfl rfl rfl rfl fun G a w S => ?_
      refine sSkip 6 true 29 30 S rfl rfl rfl hc62 rfl (lb rfl) fun a S => ?_
      exact leafL ⟨rfl, S⟩
    · refine fI 31 undef [(30, undef), (29, .bool (x55.Kind == 1))] 8 [some 7, some 6] rfl rfl rfl rfl rfl rfl fun G a w S => ?_
      refine sSkip 6 true 29 31 S rfl rfl rfl hc62 rfl (lb rfl) fun a S => ?_
      exact leafL ⟨rfl, S⟩
    · refine fI 32 undef [(0, .slice ad1 p0.length cp2), (29, .bool (x55.Kind == 1))] 9 [none, some 6] rfl rfl rfl rfl rfl rfl fun G a w S => ?_
      refine sSkip 6 true 29 32 S rfl rfl rfl hc62 rfl (lb rfl) fun a S => ?_
      exact leafL ⟨rfl, S⟩
    · refine fI 33 undef [(32, undef), (29, .bool (x55.Kind == 1))] 10 [some 9, some 6] rfl rfl rfl rfl rfl rfl fun G a w S => ?_
      refine sSkip 6 true 29 33 S rfl rfl rfl hc62 rfl (lb rfl) fun a S => ?_
      exact leafL ⟨rfl, S⟩
    · refine fI 34 undef [(31, undef), (33, undef), (29, .bool (x55.Kind == 1))] 11 [some 8, some 10, some 6] rfl rfl rfl rfl rfl rfl fun G a w S => ?_
      refine sSkip 6 true 29 34 S rfl rfl rfl hc62 rfl (lb rfl) fun a S => ?_
      exact leafL ⟨rfl, S⟩
    · refine fI 35 (.bool false) [(29, .bool (x55.Kind == 1)), (34, undef)] 12 [some 6, some 11] rfl rfl rfl rfl rfl rfl fun G a w S => ?_
      refine sPickF (.bool false) S (wN rfl) rfl rfl hc62 rfl rfl (lb rfl) fun a S => ?_
      exact leafL ⟨rfl, S⟩
    · refine fI 36 (.bool false) [(35, .bool false)] 13 [some 12] rfl rfl rfl rfl rfl rfl fun G a w S => ?_
      refine sMove (.bool false) S (wN rfl) (.inl rfl) rfl rfl (lb rfl) fun a S => ?_
      exact leafL ⟨rfl, S⟩
    · refine fI 37 undef [(0, .slice ad1 p0.length cp2), (36, .bool false)] 14 [none, some 13] rfl rfl rfl rfl rfl rfl fun G a w S => ?_
      refine sSkip 13 true 36 37 S rfl rfl rfl rfl rfl (lb rfl) fun a S => ?_
      exact leafL ⟨rfl, S⟩
    · refine fI 38 undef [(4, iv s44), (36, .bool false)] 15 [none, some 13] rfl rfl rfl rfl rfl rfl fun G a w S => ?_
      refine sSkip 13 true 36 38 S rfl rfl rfl rfl rfl (lb rfl) fun a S => ?_
      exact leafL ⟨rfl, S⟩
    · refine fI 39 undef [(38, undef), (36, .bool false)] 16 [some 15, some 13] rfl rfl rfl rfl rfl rfl fun G a w S => ?_
      refine sSkip 13 true 36 39 S rfl rfl rfl rfl rfl (lb rfl) fun a S => ?_
      exact leafL ⟨rfl, S⟩
    · refine fI 40 undef [(37, undef), (39, undef), (36, .bool false)] 17 [some 14, some 16, some 13] rfl rfl rfl rfl rfl rfl fun G a w S => ?_
      refine sSkip 13 true 36 40 S rfl rfl rfl rfl rfl (lb rfl) fun a S => ?_
      exact leafL ⟨rfl, S⟩
    · refine fI 41 undef [(40, undef), (36, .bool false)] 18 [some 17, some 13] rfl rfl rfl rfl rfl rfl fun G a w S => ?_
      refine sSkip 13 true 36 41 S rfl rfl rfl rfl rfl (lb rfl) fun a S => ?_
      exact leafL ⟨rfl, S⟩
    · refine fI 42 undef [(0, .slice ad1 p0.length cp2), (36, .bool false)] 19 [none, some 13] rfl rfl rfl rfl rfl rfl fun G a w S => ?_
      refine sSkip 13 true 36 42 S rfl rfl rfl rfl rfl (lb rfl) fun a S => ?_
      exact leafL ⟨rfl, S⟩
    · refine fI 43 undef [(4, iv s44), (36, .bool false)] 20 [none, some 13] rfl rfl rfl rfl rfl rfl fun G a w S => ?_
      refine sSkip 13 true 36 43 S rfl rfl rfl rfl rfl (lb rfl) fun a S => ?_
      exact leafL ⟨rfl, S⟩
    · refine fI 44 undef [(42, undef), (43, undef), (36, .bool false)] 21 [some 19, some 20, some 13] rfl rfl rfl rfl rfl rfl fun G a w S => ?_
      refine sSkip 13 true 36 44 S rfl rfl rfl rfl rfl (lb rfl) fun a S => ?_
      exact leafL ⟨rfl, S⟩
    · refine fI 45 undef [(44, undef), (36, .bool false)] 22 [some 21, some 13] rfl rfl rfl rfl rfl rfl fun G a w S => ?_
      refine sSkip 13 true 36 45 S rfl rfl rfl rfl rfl (lb rfl) fun a S => ?_
      exact leafL ⟨rfl, S⟩
    · refine fI 46 undef [(41, undef), (45, undef), (36, .bool false)] 23 [some 18, some 22, some 13] rfl rfl rfl rfl rfl rfl fun G a w S => ?_
      refine sSkip 13 true 36 46 S rfl rfl rfl rfl rfl (lb rfl) fun a S => ?_
      exact leafL ⟨rfl, S⟩
    · refine fI 47 (.bool false) [(36, .bool false), (46, undef)] 24 [some 13, some 23] rfl rfl rfl rfl rfl rfl fun G a w S => ?_
      refine sPickF (.bool false) S (wN rfl) rfl rfl rfl rfl rfl (lb rfl) fun a S => ?_
      exact leafL ⟨rfl, S⟩
    exact leafT (⟨false, Option.some.inj h, S.fix [] [4] (by decide) rfl rfl rfl⟩)
  rcases iteSome h with ⟨hc63, h⟩ | ⟨hc63, h⟩
  rotate_left
  · obtain ⟨q83, hq84, S⟩ := pIdx (P := Try.prog) (r := r_api_Stitch) (v := .slice ad1 p0.length cp2) (xs := p0) (j := s44) 70 74 0 S Try.underlying70 rfl rfl hx56
    obtain ⟨q85, hq86, S⟩ := pFld (P := Try.prog) (r := r_api_Stitch) (s2 := (rI .u8)) (g := (·.Kind)) (q := q83) (z := x55) 74 0 0 0 S rfl rfl comp_api_Stitch_Kind
    obtain ⟨u87, S⟩ := pLoad (r := (rI .u8)) (q := q85) (x := x55.Kind) 0 S rfl
    obtain rfl : u87 = .int .u8 x55.Kind := S.mem.know (i := 1) (e := fRep (rI .u8) (u87) x55.Kind) rfl
    refine sDraw (nf := []) (W := [(0, 23, .slice ad1 p0.length cp2), (1, 24, iv s44), (2, 25, q83), (3, 26, q85), (4, 27, .int .u8 x55.Kind), (5, 28, .bool (x55.Kind == 1)), (6, 29, .bool (x55.Kind == 1)), (7, 30, iv s44), (8, 31, iv (w64 (s44 + 1))), (9, 32, .slice ad1 p0.length cp2), (10, 33, iv (p0.length : Int)), (11, 34, .bool (decide ((w64 (s44 + 1)) < (p0.length : Int)))), (12, 35, .bool (decide ((w64 (s44 + 1)) < (p0.length : Int)))), (13, 36, .bool (decide ((w64 (s44 + 1)) < (p0.length : Int)))), (14, 37, undef), (15, 38, undef), (16, 39, undef), (17, 40, undef), (18, 41, undef), (19, 42, undef), (20, 43, undef), (21, 44, undef), (22, 45, undef), (23, 46, undef), (24, 47, .bool false)]) rfl S ?_
    refine node_by (A := anc_raddleref25_Written_0) (nf := []) (Y := []) (W := [(0, 23, .slice ad1 p0.length cp2), (1, 24, iv s44), (2, 25, q83), (3, 26, q85), (4, 27, .int .u8 x55.Kind), (5, 28, .bool (x55.Kind == 1)), (6, 29, .bool (x55.Kind == 1)), (7, 30, iv s44), (8, 31, iv (w64 (s44 + 1))), (9, 32, .slice ad1 p0.length cp2), (10, 33, iv (p0.length : Int)), (11, 34, .bool (decide ((w64 (s44 + 1)) < (p0.length : Int)))), (12, 35, .bool (decide ((w64 (s44 + 1)) < (p0.length : Int)))), (13, 36, .bool (decide ((w64 (s44 + 1)) < (p0.length : Int)))), (14, 37, undef), (15, 38, undef), (16, 39, undef), (17, 40, undef), (18, 41, undef), (19, 42, undef), (20, 43, undef), (21, 44, undef), (22, 45, undef), (23, 46, undef), (24, 47, .bool false)]) 25 (by kernel_rfl) (by kernel_rfl) (by kernel_rfl) (by kernel_rfl) (by kernel_rfl) [0, 1, 2, 3, 4, 5, 6, 7, 8, 9, 10, 11, 12, 13, 14, 15, 16, 17, 18, 19, 20, 21, 22, 23, 24] (by kernel_rfl) (by decide) (by decide) (aF 0 24 (by decide) ?_ (aF 1 23 (by decide) ?_ (aF 2 22 (by decide) ?_ (aF 3 21 (by decide) ?_ (aF 4 20 (by decide) ?_ (aF 5 19 (by decide) ?_ (aF 6 18 (by decide) ?_ (aF 7 17 (by decide) ?_ (aF 8 16 (by decide) ?_ (aF 9 15 (by decide) ?_ (aF 10 14 (by decide) ?_ (aF 11 13 (by decide) ?_ (aF 12 12 (by decide) ?_ (aF 13 11 (by decide) ?_ (aF 14 10 (by decide) ?_ (aF 15 9 (by decide) ?_ (aF 16 8 (by decide) ?_ (aF 17 7 (by decide) ?_ (aF 18 6 (by decide) ?_ (aF 19 5 (by decide) ?_ (aF 20 4 (by decide) ?_ (aF 21 3 (by decide) ?_ (aF 22 2 (by decide) ?_ (aF 23 1 (by decide) ?_ (aF 24 0 (by decide) ?_ (trivial)))))))))))))))))))))))))) [(0, .slice ad1 p0.length cp2), (3, .string z37), (4, iv s44), (5, iv s45), (30, iv s44), (31, iv (w64 (s44 + 1))), (32, .slice ad1 p0.length cp2), (33, iv (p0.length : Int)), (34, .bool (decide ((w64 (s44 + 1)) < (p0.length : Int)))), (37, undef), (38, undef), (39, undef), (40, undef), (41, undef), (42, undef), (43, undef), (44, undef), (45, undef), (46, undef), (47, .bool false)] (fin_of [none, none, none, none, some 7, some 8, some 9, some 10, some 11, some 14, some 15, some 16, some 17, some 18, some 19, some 20, some 21, some 22, some 23, some 24] rfl (by kernel_rfl) (by kernel_rfl)) (fun _ a w S => ?_)
    · refine fI 23 (.slice ad1 p0.length cp2) [(0, .slice ad1 p0.length cp2)] 0 [none] rfl rfl rfl rfl rfl rfl fun G a w S => ?_
      refine sMove (.slice ad1 p0.length cp2) S (wN rfl) (.inl rfl) rfl rfl (lb rfl) fun a S => ?_
      exact leafL ⟨rfl, S⟩
    · refine fI 24 (iv s44) [(4, iv s44)] 1 [none] rfl rfl rfl rfl rfl rfl fun G a w S => ?_
      refine sMove (iv s44) S (wN rfl) (.inl rfl) rfl rfl (lb rfl) fun a S => ?_
      exact leafL ⟨rfl, S⟩
    · refine fI 25 q83 [(23, .slice ad1 p0.length cp2), (24, iv s44)] 2 [some 0, some 1] rfl rfl rfl rfl rfl rfl fun G a w S => ?_
      refine sIdxV (v := .slice ad1 p0.length cp2) (k := .i64) (j := s44) S (wN rfl) rfl rfl rfl hq84 rfl (lb rfl) fun a S => ?_
      exact leafL ⟨rfl, S⟩
    · refine fI 26 q85 [(25, q83)] 3 [some 2] rfl rfl rfl rfl rfl rfl fun G a w S => ?_
      refine sFldV (q := q83) S (wN rfl) rfl rfl hq86 rfl (lb rfl) fun a S => ?_
      exact leafL ⟨rfl, S⟩
    · refine fI 27 (.int .u8 x55.Kind) [(26, q85)] 4 [some 3] rfl rfl rfl rfl rfl rfl fun G a w S => ?_
      refine sLoadV1 (vq := q85) 0 (.int .u8 x55.Kind) S (wN rfl) rfl rfl rfl rfl rfl (lb rfl) fun a S => ?_
      exact leafL ⟨rfl, S⟩
    · refine fI 28 (.bool (x55.Kind == 1)) [(27, .int .u8 x55.Kind)] 5 [some 4] rfl rfl rfl rfl rfl rfl fun G a w S => ?_
      refine sBin (.bool (x55.Kind == 1)) S (wN rfl) rfl rfl rfl (bEq _ _ _ _ .u8 x55.Kind 1) rfl (lb rfl) fun a S => ?_
      exact leafL ⟨rfl, S⟩
    · refine fI 29 (.bool (x55.Kind == 1)) [(28, .bool (x55.Kind == 1))] 6 [some 5] rfl rfl rfl rfl rfl rfl fun G a w S => ?_
      refine sMove (.bool (x55.Kind == 1)) S (wN rfl) (.inl rfl) rfl rfl (lb rfl) fun a S => ?_
      exact leafL ⟨rfl, S⟩
    · refine fI 30 (iv s44) [(4, iv s44), (29, .bool (x55.Kind == 1))] 7 [none, some 6] rfl rfl rfl rfl rfl rfl fun G a w S => ?_
      refine sMove (iv s44) S (wG 6 true 29 rfl rfl rfl hc62) (.inl rfl) rfl rfl (lb rfl) fun a S => ?_
      exact leafL ⟨rfl, S⟩
    · refine fI 31 (iv (w64 (s44 + 1))) [(30, iv s44), (29, .bool (x55.Kind == 1))] 8 [some 7, some 6] rfl rfl rfl rfl rfl rfl fun G a w S => ?_
      refine sBin (iv (w64 (s44 + 1))) S (wG 6 true 29 rfl rfl rfl hc62) rfl rfl rfl (bAdd _ _ _ _ s44 1) rfl (lb rfl) fun a S => ?_
      exact leafL ⟨rfl, S⟩
    · refine fI 32 (.slice ad1 p0.length cp2) [(0, .slice ad1 p0.length cp2), (29, .bool (x55.Kind == 1))] 9 [none, some 6] rfl rfl rfl rfl rfl rfl fun G a w S => ?_
      refine sMove (.slice ad1 p0.length cp2) S (wG 6 true 29 rfl rfl rfl hc62) (.inl rfl) rfl rfl (lb rfl) fun a S => ?_
      exact leafL ⟨rfl, S⟩
    · refine fI 33 (iv (p0.length : Int)) [(32, .slice ad1 p0.length cp2), (29, .bool (x55.Kind == 1))] 10 [some 9, some 6] rfl rfl rfl rfl rfl rfl fun G a w S => ?_
      refine sLen (ad := ad1) (m := p0.length) (c := cp2) S (wG 6 true 29 rfl rfl rfl hc62) rfl Try.underlying70 rfl rfl (lb rfl) fun a S => ?_
      exact leafL ⟨rfl, S⟩
    · refine fI 34 (.bool (decide ((w64 (s44 + 1)) < (p0.length : Int)))) [(31, iv (w64 (s44 + 1))), (33, iv (p0.length : Int)), (29, .bool (x55.Kind == 1))] 11 [some 8, some 10, some 6] rfl rfl rfl rfl rfl rfl fun G a w S => ?_
      refine sBin (.bool (decide ((w64 (s44 + 1)) < (p0.length : Int)))) S (wG 6 true 29 rfl rfl rfl hc62) rfl rfl rfl (bLt _ _ _ _ .i64 (w64 (s44 + 1)) (p0.length : Int)) rfl (lb rfl) fun a S => ?_
      exact leafL ⟨rfl, S⟩
    · refine fI 35 (.bool (decide ((w64 (s44 + 1)) < (p0.length : Int)))) [(29, .bool (x55.Kind == 1)), (34, .bool (decide ((w64 (s44 + 1)) < (p0.length : Int))))] 12 [some 6, some 11] rfl rfl rfl rfl rfl rfl fun G a w S => ?_
      refine sPickT (.bool (decide ((w64 (s44 + 1)) < (p0.length : Int)))) S (wN rfl) rfl rfl hc62 rfl rfl (lb rfl) fun a S => ?_
      exact leafL ⟨rfl, S⟩
    · refine fI 36 (.bool (decide ((w64 (s44 + 1)) < (p0.length : Int)))) [(35, .bool (decide ((w64 (s44 + 1)) < (p0.length : Int))))] 13 [some 12] rfl rfl rfl rfl rfl rfl fun G a w S => ?_
      refine sMove (.bool (decide ((w64 (s44 + 1)) < (p0.length : Int)))) S (wN rfl) (.inl rfl) rfl rfl (lb rfl) fun a S => ?_
      exact leafL ⟨rfl, S⟩
    · refine fI 37 undef [(0, .slice ad1 p0.length cp2), (36, .bool (decide ((w64 (s44 + 1)) < (p0.length : Int))))] 14 [none, some 13] rfl rfl rfl rfl rfl rfl fun G a w S => ?_
      refine sSkip 13 true 36 37 S rfl rfl rfl hc63 rfl (lb rfl) fun a S => ?_
      exact leafL ⟨rfl, S⟩
    · refine fI 38 undef [(4, iv s44), (36, .bool (decide ((w64 (s44 + 1)) < (p0.length : Int))))] 15 [none, some 13] rfl rfl rfl rfl rfl rfl fun G a w S => ?_
      refine sSkip 13 true 36 38 S rfl rfl rfl hc63 rfl (lb rfl) fun a S => ?_
      exact leafL ⟨rfl, S⟩
    · refine fI 39 undef [(38, undef), (36, .bool (decide ((w64 (s44 + 1)) < (p0.length : Int))))] 16 [some 15, some 13] rfl rfl rfl rfl rfl rfl fun G a w S => ?_
      refine sSkip 13 true 36 39 S rfl rfl rfl hc63 rfl (lb rfl) fun a S => ?_
      exact leafL ⟨rfl, S⟩
    · refine fI 40 undef [(37, undef), (39, undef), (36, .bool (decide ((w64 (s44 + 1)) < (p0.length : Int))))] 17 [some 14, some 16, some 13] rfl rfl rfl rfl rfl rfl fun G a w S => ?_
      refine sSkip 13 true 36 40 S rfl rfl rfl hc63 rfl (lb rfl) fun a S => ?_
      exact leafL ⟨rfl, S⟩
    · refine fI 41 undef [(40, undef), (36, .bool (decide ((w64 (s44 + 1)) < (p0.length : Int))))] 18 [some 17, some 13] rfl rfl rfl rfl rfl rfl fun G a w S => ?_
      refine sSkip 13 true 36 41 S rfl rfl rfl hc63 rfl (lb rfl) fun a S => ?_
      exact leafL ⟨rfl, S⟩
    · refine fI 42 undef [(0, .slice ad1 p0.length cp2), (36, .bool (decide ((w64 (s44 + 1)) < (p0.length : Int))))] 19 [none, some 13] rfl rfl rfl rfl rfl rfl fun G a w S => ?_
      refine sSkip 13 true 36 42 S rfl rfl rfl hc63 rfl (lb rfl) fun a S => ?_
      exact leafL ⟨rfl, S⟩
    · refine fI 43 undef [(4, iv s44), (36, .bool (decide ((w64 (s44 + 1)) < (p0.length : Int))))] 20 [none, some 13] rfl rfl rfl rfl rfl rfl fun G a w S => ?_
      refine sSkip 13 true 36 43 S rfl rfl rfl hc63 rfl (lb rfl) fun a S => ?_
      exact leafL ⟨rfl, S⟩
    · refine fI 44 undef [(42, undef), (43, undef), (36, .bool (decide ((w64 (s44 + 1)) < (p0.length : Int))))] 21 [some 19, some 20, some 13] rfl rfl rfl rfl rfl rfl fun G a w S => ?_
      refine sSkip 13 true 36 44 S rfl rfl rfl hc63 rfl (lb rfl) fun a S => ?_
      exact leafL ⟨rfl, S⟩
    · refine fI 45 undef [(44, undef), (36, .bool (decide ((w64 (s44 + 1)) < (p0.length : Int))))] 22 [some 21, some 13] rfl rfl rfl rfl rfl rfl fun G a w S => ?_
      refine sSkip 13 true 36 45 S rfl rfl rfl hc63 rfl (lb rfl) fun a S => ?_
      exact leafL ⟨rfl, S⟩
    · refine fI 46 undef [(41, undef), (45, undef), (36, .bool (decide ((w64 (s44 + 1)) < (p0.length : Int))))] 23 [some 18, some 22, some 13] rfl rfl rfl rfl rfl rfl fun G a w S => ?_
      refine sSkip 13 true 36 46 S rfl rfl rfl hc63 rfl (lb rfl) fun a S => ?_
      exact leafL ⟨rfl, S⟩
    · refine fI 47 (.bool false) [(36, .bool (decide ((w64 (s44 + 1)) < (p0.length : Int)))), (46, undef)] 24 [some 13, some 23] rfl rfl rfl rfl rfl rfl fun G a w S => ?_
      refine sPickF (.bool false) S (wN rfl) rfl rfl hc63 rfl rfl (lb rfl) fun a S => ?_
      exact leafL ⟨rfl, S⟩
    exact leafT (⟨false, Option.some.inj h, S.fix [] [4] (by decide) rfl rfl rfl⟩)
  obtain ⟨x64, hx65, h⟩ := bindSome h
  obtain ⟨q72, hq73, S⟩ := pIdx (P := Try.prog) (r := r_api_Stitch) (v := .slice ad1 p0.length cp2) (xs := p0) (j := s44) 70 74 0 S Try.underlying70 rfl rfl hx56
  obtain ⟨q74, hq75, S⟩ := pFld (P := Try.prog) (r := r_api_Stitch) (s2 := (rI .u8)) (g := (·.Kind)) (q := q72) (z := x55) 74 0 0 0 S rfl rfl comp_api_Stitch_Kind
  obtain ⟨u76, S⟩ := pLoad (r := (rI .u8)) (q := q74) (x := x55.Kind) 0 S rfl
  obtain rfl : u76 = .int .u8 x55.Kind := S.mem.know (i := 1) (e := fRep (rI .u8) (u76) x55.Kind) rfl
  obtain ⟨q77, hq78, S⟩ := pIdx (P := Try.prog) (r := r_api_Stitch) (v := .slice ad1 p0.length cp2) (xs := p0) (j := w64 (s44 + 1)) 70 74 4 S Try.underlying70 rfl rfl hx65
  obtain ⟨u79, S⟩ := pLoad (r := r_api_Stitch) (q := q77) (x := x64) 0 S rfl
  obtain rfl : u79 = .agg #[.int .u8 x64.Kind, .bool x64.Purl, iv x64.A, iv x64.B] := S.mem.know (i := 1) (e := fRep r_api_Stitch (u79) x64) rfl
  obtain ⟨q80, hq81, S⟩ := pIdx (P := Try.prog) (r := r_api_Stitch) (v := .slice ad1 p0.length cp2) (xs := p0) (j := s44) 70 74 7 S Try.underlying70 rfl rfl hx56
  obtain ⟨u82, S⟩ := pLoad (r := r_api_Stitch) (q := q80) (x := x55) 0 S rfl
  obtain rfl : u82 = .agg #[.int .u8 x55.Kind, .bool x55.Purl, iv x55.A, iv x55.B] := S.mem.know (i := 1) (e := fRep r_api_Stitch (u82) x55) rfl
  refine sDraw (nf := []) (W := [(0, 23, .slice ad1 p0.length cp2), (1, 24, iv s44), (2, 25, q72), (3, 26, q74), (4, 27, .int .u8 x55.Kind), (5, 28, .bool (x55.Kind == 1)), (6, 29, .bool (x55.Kind == 1)), (7, 30, iv s44), (8, 31, iv (w64 (s44 + 1))), (9, 32, .slice ad1 p0.length cp2), (10, 33, iv (p0.length : Int)), (11, 34, .bool (decide ((w64 (s44 + 1)) < (p0.length : Int)))), (12, 35, .bool (decide ((w64 (s44 + 1)) < (p0.length : Int)))), (13, 36, .bool (decide ((w64 (s44 + 1)) < (p0.length : Int)))), (14, 37, .slice ad1 p0.length cp2), (15, 38, iv s44), (16, 39, iv (w64 (s44 + 1))), (17, 40, q77), (18, 41, .agg #[.int .u8 x64.Kind, .bool x64.Purl, iv x64.A, iv x64.B]), (19, 42, .slice ad1 p0.length cp2), (20, 43, iv s44), (21, 44, q80), (22, 45, .agg #[.int .u8 x55.Kind, .bool x55.Purl, iv x55.A, iv x55.B]), (23, 46, .bool ((x64.Kind == x55.Kind) && ((x64.Purl == x55.Purl) && ((x64.A == x55.A) && ((x64.B == x55.B) && true))))), (24, 47, .bool ((x64.Kind == x55.Kind) && ((x64.Purl == x55.Purl) && ((x64.A == x55.A) && ((x64.B == x55.B) && true)))))]) rfl S ?_
  refine node_by (A := anc_raddleref25_Written_0) (nf := []) (Y := []) (W := [(0, 23, .slice ad1 p0.length cp2), (1, 24, iv s44), (2, 25, q72), (3, 26, q74), (4, 27, .int .u8 x55.Kind), (5, 28, .bool (x55.Kind == 1)), (6, 29, .bool (x55.Kind == 1)), (7, 30, iv s44), (8, 31, iv (w64 (s44 + 1))), (9, 32, .slice ad1 p0.length cp2), (10, 33, iv (p0.length : Int)), (11, 34, .bool (decide ((w64 (s44 + 1)) < (p0.length : Int)))), (12, 35, .bool (decide ((w64 (s44 + 1)) < (p0.length : Int)))), (13, 36, .bool (decide ((w64 (s44 + 1)) < (p0.length : Int)))), (14, 37, .slice ad1 p0.length cp2), (15, 38, iv s44), (16, 39, iv (w64 (s44 + 1))), (17, 40, q77), (18, 41, .agg #[.int .u8 x64.Kind, .bool x64.Purl, iv x64.A, iv x64.B]), (19, 42, .slice ad1 p0.length cp2), (20, 43, iv s44), (21, 44, q80), (22, 45, .agg #[.int .u8 x55.Kind, .bool x55.Purl, iv x55.A, iv x55.B]), (23, 46, .bool ((x64.Kind == x55.Kind) && ((x64.Purl == x55.Purl) && ((x64.A == x55.A) && ((x64.B == x55.B) && true))))), (24, 47, .bool ((x64.Kind == x55.Kind) && ((x64.Purl == x55.Purl) && ((x64.A == x55.A) && ((x64.B == x55.B) && true)))))]) 25 (by kernel_rfl) (by kernel_rfl) (by kernel_rfl) (by kernel_rfl) (by kernel_rfl) [0, 1, 2, 3, 4, 5, 6, 7, 8, 9, 10, 11, 12, 13, 14, 15, 16, 17, 18, 19, 20, 21, 22, 23, 24] (by kernel_rfl) (by decide) (by decide) (aF 0 24 (by decide) ?_ (aF 1 23 (by decide) ?_ (aF 2 22 (by decide) ?_ (aF 3 21 (by decide) ?_ (aF 4 20 (by decide) ?_ (aF 5 19 (by decide) ?_ (aF 6 18 (by decide) ?_ (aF 7 17 (by decide) ?_ (aF 8 16 (by decide) ?_ (aF 9 15 (by decide) ?_ (aF 10 14 (by decide) ?_ (aF 11 13 (by decide) ?_ (aF 12 12 (by decide) ?_ (aF 13 11 (by decide) ?_ (aF 14 10 (by decide) ?_ (aF 15 9 (by decide) ?_ (aF 16 8 (by decide) ?_ (aF 17 7 (by decide) ?_ (aF 18 6 (by decide) ?_ (aF 19 5 (by decide) ?_ (aF 20 4 (by decide) ?_ (aF 21 3 (by decide) ?_ (aF 22 2 (by decide) ?_ (aF 23 1 (by decide) ?_ (aF 24 0 (by decide) ?_ (trivial)))))))))))))))))))))))))) [(0, .slice ad1 p0.length cp2), (3, .string z37), (4, iv s44), (5, iv s45), (30, iv s44), (31, iv (w64 (s44 + 1))), (32, .slice ad1 p0.length cp2), (33, iv (p0.length : Int)), (34, .bool (decide ((w64 (s44 + 1)) < (p0.length : Int)))), (37, .slice ad1 p0.length cp2), (38, iv s44), (39, iv (w64 (s44 + 1))), (40, q77), (41, .agg #[.int .u8 x64.Kind, .bool x64.Purl, iv x64.A, iv x64.B]), (42, .slice ad1 p0.length cp2), (43, iv s44), (44, q80), (45, .agg #[.int .u8 x55.Kind, .bool x55.Purl, iv x55.A, iv x55.B]), (46, .bool ((x64.Kind == x55.Kind) && ((x64.Purl == x55.Purl) && ((x64.A == x55.A) && ((x64.B == x55.B) && true))))), (47, .bool ((x64.Kind == x55.Kind) && ((x64.Purl == x55.Purl) && ((x64.A == x55.A) && ((x64.B == x55.B) && true)))))] (fin_of [none, none, none, none, some 7, some 8, some 9, some 10, some 11, some 14, some 15, some 16, some 17, some 18, some 19, some 20, some 21, some 22, some 23, some 24] rfl (by kernel_rfl) (by kernel_rfl)) (fun _ a w S => ?_)
  · refine fI 23 (.slice ad1 p0.length cp2) [(0, .slice ad1 p0.length cp2)] 0 [none] rfl rfl rfl rfl rfl rfl fun G a w S => ?_
    refine sMove (.slice ad1 p0.length cp2) S (wN rfl) (.inl rfl) rfl rfl (lb rfl) fun a S => ?_
    exact leafL ⟨rfl, S⟩
  · refine fI 24 (iv s44) [(4, iv s44)] 1 [none] rfl rfl rfl rfl rfl rfl fun G a w S => ?_
    refine sMove (iv s44) S (wN rfl) (.inl rfl) rfl rfl (lb rfl) fun a S => ?_
    exact leafL ⟨rfl, S⟩
  · refine fI 25 q72 [(23, .slice ad1 p0.length cp2), (24, iv s44)] 2 [some 0, some 1] rfl rfl rfl rfl rfl rfl fun G a w S => ?_
    refine sIdxV (v := .slice ad1 p0.length cp2) (k := .i64) (j := s44) S (wN rfl) rfl rfl rfl hq73 rfl (lb rfl) fun a S => ?_
    exact leafL ⟨rfl, S⟩
  · refine fI 26 q74 [(25, q72)] 3 [some 2] rfl rfl rfl rfl rfl rfl fun G a w S => ?_
    refine sFldV (q := q72) S (wN rfl) rfl rfl hq75 rfl (lb rfl) fun a S => ?_
    exact leafL ⟨rfl, S⟩
  · refine fI 27 (.int .u8 x55.Kind) [(26, q74)] 4 [some 3] rfl rfl rfl rfl rfl rfl fun G a w S => ?_
    refine sLoadV1 (vq := q74) 6 (.int .u8 x55.Kind) S (wN rfl) rfl rfl rfl rfl rfl (lb rfl) fun a S => ?_
    exact leafL ⟨rfl, S⟩
  · refine fI 28 (.bool (x55.Kind == 1)) [(27, .int .u8 x55.Kind)] 5 [some 4] rfl rfl rfl rfl rfl rfl fun G a w S => ?_
    refine sBin (.bool (x55.Kind == 1)) S (wN rfl) rfl rfl rfl (bEq _ _ _ _ .u8 x55.Kind 1) rfl (lb rfl) fun a S => ?_
    exact leafL ⟨rfl, S⟩
  · refine fI 29 (.bool (x55.Kind == 1)) [(28, .bool (x55.Kind == 1))] 6 [some 5] rfl rfl rfl rfl rfl rfl fun G a w S => ?_
    refine sMove (.bool (x55.Kind == 1)) S (wN rfl) (.inl rfl) rfl rfl (lb rfl) fun a S => ?_
    exact leafL ⟨rfl, S⟩
  · refine fI 30 (iv s44) [(4, iv s44), (29, .bool (x55.Kind == 1))] 7 [none, some 6] rfl rfl rfl rfl rfl rfl fun G a w S => ?_
    refine sMove (iv s44) S (wG 6 true 29 rfl rfl rfl hc62) (.inl rfl) rfl rfl (lb rfl) fun a S => ?_
    exact leafL ⟨rfl, S⟩
  · refine fI 31 (iv (w64 (s44 + 1))) [(30, iv s44), (29, .bool (x55.Kind == 1))] 8 [some 7, some 6] rfl rfl rfl rfl rfl rfl fun G a w S => ?_
    refine sBin (iv (w64 (s44 + 1))) S (wG 6 true 29 rfl rfl rfl hc62) rfl rfl rfl (bAdd _ _ _ _ s44 1) rfl (lb rfl) fun a S => ?_
    exact leafL ⟨rfl, S⟩
  · refine fI 32 (.slice ad1 p0.length cp2) [(0, .slice ad1 p0.length cp2), (29, .bool (x55.Kind == 1))] 9 [none, some 6] rfl rfl rfl rfl rfl rfl fun G a w S => ?_
    refine sMove (.slice ad1 p0.length cp2) S (wG 6 true 29 rfl rfl rfl hc62) (.inl rfl) rfl rfl (lb rfl) fun a S => ?_
    exact leafL ⟨rfl, S⟩
  · refine fI 33 (iv (p0.length : Int)) [(32, .slice ad1 p0.length cp2), (29, .bool (x55.Kind == 1))] 10 [some 9, some 6] rfl rfl rfl rfl rfl rfl fun G a w S => ?_
    refine sLen (ad := ad1) (m := p0.length) (c := cp2) S (wG 6 true 29 rfl rfl rfl hc62) rfl Try.underlying70 rfl rfl (lb rfl) fun a S => ?_
    exact leafL ⟨rfl, S⟩
  · refine fI 34 (.bool (decide ((w64 (s44 + 1)) < (p0.length : Int)))) [(31, iv (w64 (s44 + 1))), (33, iv (p0.length : Int)), (29, .bool (x55.Kind == 1))] 11 [some 8, some 10, some 6] rfl rfl rfl rfl rfl rfl fun G a w S => ?_
    refine sBin (.bool (decide ((w64 (s44 + 1)) < (p0.length : Int)))) S (wG 6 true 29 rfl rfl rfl hc62) rfl rfl rfl (bLt _ _ _ _ .i64 (w64 (s44 + 1)) (p0.length : Int)) rfl (lb rfl) fun a S => ?_
    exact leafL ⟨rfl, S⟩
  · refine fI 35 (.bool (decide ((w64 (s44 + 1)) < (p0.length : Int)))) [(29, .bool (x55.Kind == 1)), (34, .bool (decide ((w64 (s44 + 1)) < (p0.length : Int))))] 12 [some 6, some 11] rfl rfl rfl rfl rfl rfl fun G a w S => ?_
    refine sPickT (.bool (decide ((w64 (s44 + 1)) < (p0.length : Int)))) S (wN rfl) rfl rfl hc62 rfl rfl (lb rfl) fun a S => ?_
    exact leafL ⟨rfl, S⟩
  · refine fI 36 (.bool (decide ((w64 (s44 + 1)) < (p0.length : Int)))) [(35, .bool (decide ((w64 (s44 + 1)) < (p0.length : Int))))] 13 [some 12] rfl rfl rfl rfl rfl rfl fun G a w S => ?_
    refine sMove (.bool (decide ((w64 (s44 + 1)) < (p0.length : Int)))) S (wN rfl) (.inl rfl) rfl rfl (lb rfl) fun a S => ?_
    exact leafL ⟨rfl, S⟩
  · refine fI 37 (.slice ad1 p0.length cp2) [(0, .slice ad1 p0.length cp2), (36, .bool (decide ((w64 (s44 + 1)) < (p0.length : Int))))] 14 [none, some 13] rfl rfl rfl rfl rfl rfl fun G a w S => ?_
    refine sMove (.slice ad1 p0.length cp2) S (wG 13 true 36 rfl rfl rfl hc63) (.inl rfl) rfl rfl (lb rfl) fun a S => ?_
    exact leafL ⟨rfl, S⟩
  · refine fI 38 (iv s44) [(4, iv s44), (36, .bool (decide ((w64 (s44 + 1)) < (p0.length : Int))))] 15 [none, some 13] rfl rfl rfl rfl rfl rfl fun G a w S => ?_
    refine sMove (iv s44) S (wG 13 true 36 rfl rfl rfl hc63) (.inl rfl) rfl rfl (lb rfl) fun a S => ?_
    exact leafL ⟨rfl, S⟩
  · refine fI 39 (iv (w64 (s44 + 1))) [(38, iv s44), (36, .bool (decide ((w64 (s44 + 1)) < (p0.length : Int))))] 16 [some 15, some 13] rfl rfl rfl rfl rfl rfl fun G a w S => ?_
    refine sBin (iv (w64 (s44 + 1))) S (wG 13 true 36 rfl rfl rfl hc63) rfl rfl rfl (bAdd _ _ _ _ s44 1) rfl (lb rfl) fun a S => ?_
    exact leafL ⟨rfl, S⟩
  · refine fI 40 q77 [(37, .slice ad1 p0.length cp2), (39, iv (w64 (s44 + 1))), (36, .bool (decide ((w64 (s44 + 1)) < (p0.length : Int))))] 17 [some 14, some 16, some 13] rfl rfl rfl rfl rfl rfl fun G a w S => ?_
    refine sIdxV (v := .slice ad1 p0.length cp2) (k := .i64) (j := w64 (s44 + 1)) S (wG 13 true 36 rfl rfl rfl hc63) rfl rfl rfl hq78 rfl (lb rfl) fun a S => ?_
    exact leafL ⟨rfl, S⟩
  · refine fI 41 (.agg #[.int .u8 x64.Kind, .bool x64.Purl, iv x64.A, iv x64.B]) [(40, q77), (36, .bool (decide ((w64 (s44 + 1)) < (p0.length : Int))))] 18 [some 17, some 13] rfl rfl rfl rfl rfl rfl fun G a w S => ?_
    refine sLoadVN (vq := q77) 3 [.int .u8 x64.Kind, .bool x64.Purl, iv x64.A, iv x64.B] S (wG 13 true 36 rfl rfl rfl hc63) rfl rfl rfl rfl rfl rfl (lb rfl) fun a S => ?_
    exact leafL ⟨rfl, S⟩
  · refine fI 42 (.slice ad1 p0.length cp2) [(0, .slice ad1 p0.length cp2), (36, .bool (decide ((w64 (s44 + 1)) < (p0.length : Int))))] 19 [none, some 13] rfl rfl rfl rfl rfl rfl fun G a w S => ?_
    refine sMove (.slice ad1 p0.length cp2) S (wG 13 true 36 rfl rfl rfl hc63) (.inl rfl) rfl rfl (lb rfl) fun a S => ?_
    exact leafL ⟨rfl, S⟩
  · refine fI 43 (iv s44) [(4, iv s44), (36, .bool (decide ((w64 (s44 + 1)) < (p0.length : Int))))] 20 [none, some 13] rfl rfl rfl rfl rfl rfl fun G a w S => ?_
    refine sMove (iv s44) S (wG 13 true 36 rfl rfl rfl hc63) (.inl rfl) rfl rfl (lb rfl) fun a S => ?_
    exact leafL ⟨rfl, S⟩
  · refine fI 44 q80 [(42, .slice ad1 p0.length cp2), (43, iv s44), (36, .bool (decide ((w64 (s44 + 1)) < (p0.length : Int))))] 21 [some 19, some 20, some 13] rfl rfl rfl rfl rfl rfl fun G a w S => ?_
    refine sIdxV (v := .slice ad1 p0.length cp2) (k := .i64) (j := s44) S (wG 13 true 36 rfl rfl rfl hc63) rfl rfl rfl hq81 rfl (lb rfl) fun a S => ?_
    exact leafL ⟨rfl, S⟩
  · refine fI 45 (.agg #[.int .u8 x55.Kind, .bool x55.Purl, iv x55.A, iv x55.B]) [(44, q80), (36, .bool (decide ((w64 (s44 + 1)) < (p0.length : Int))))] 22 [some 21, some 13] rfl rfl rfl rfl rfl rfl fun G a w S => ?_
    refine sLoadVN (vq := q80) 0 [.int .u8 x55.Kind, .bool x55.Purl, iv x55.A, iv x55.B] S (wG 13 true 36 rfl rfl rfl hc63) rfl rfl rfl rfl rfl rfl (lb rfl) fun a S => ?_
    exact leafL ⟨rfl, S⟩
  · refine fI 46 (.bool ((x64.Kind == x55.Kind) && ((x64.Purl == x55.Purl) && ((x64.A == x55.A) && ((x64.B == x55.B) && true))))) [(41, .agg #[.int .u8 x64.Kind, .bool x64.Purl, iv x64.A, iv x64.B]), (45, .agg #[.int .u8 x55.Kind, .bool x55.Purl, iv x55.A, iv x55.B]), (36, .bool (decide ((w64 (s44 + 1)) < (p0.length : Int))))] 23 [some 18, some 22, some 13] rfl rfl rfl rfl rfl rfl fun G a w S => ?_
    refine sBin (.bool ((x64.Kind == x55.Kind) && ((x64.Purl == x55.Purl) && ((x64.A == x55.A) && ((x64.B == x55.B) && true))))) S (wG 13 true 36 rfl rfl rfl hc63) rfl rfl rfl (bEqV _ _ _ _ #[.int .u8 x64.Kind, .bool x64.Purl, iv x64.A, iv x64.B] #[.int .u8 x55.Kind, .bool x55.Purl, iv x55.A, iv x55.B] ((x64.Kind == x55.Kind) && ((x64.Purl == x55.Purl) && ((x64.A == x55.A) && ((x64.B == x55.B) && true)))) (by kernel_rfl) (eqlV_of (by kernel_rfl))) rfl (lb rfl) fun a S => ?_
    exact leafL ⟨rfl, S⟩
  · refine fI 47 (.bool ((x64.Kind == x55.Kind) && ((x64.Purl == x55.Purl) && ((x64.A == x55.A) && ((x64.B == x55.B) && true))))) [(36, .bool (decide ((w64 (s44 + 1)) < (p0.length : Int)))), (46, .bool ((x64.Kind == x55.Kind) && ((x64.Purl == x55.Purl) && ((x64.A == x55.A) && ((x64.B == x55.B) && true)))))] 24 [some 13, some 23] rfl rfl rfl rfl rfl rfl fun G a w S => ?_
    refine sPickT (.bool ((x64.Kind == x55.Kind) && ((x64.Purl == x55.Purl) && ((x64.A == x55.A) && ((x64.B == x55.B) && true))))) S (wN rfl) rfl rfl hc63 rfl rfl (lb rfl) fun a S => ?_
    exact leafL ⟨rfl, S⟩
  exact leafT (⟨((x64.Kind == x55.Kind) && ((x64.Purl == x55.Purl) && ((x64.A == x55.A) && ((x64.B == x55.B) && true)))), Option.some.inj h, S.fix [] [10] (by decide) rfl rfl rfl⟩)

end Go.Proofs.Ytdbgkakmhlmpbaa
namespace Go.Proofs.Ytdbgkakmhlmpbaa
open Go.RowKit
set_option linter.unusedVariables false

noncomputable def raddleref25_Parse_l1 (r11 : (List ByteArray)) : (List api_Stitch × Int) → Option ((List api_Stitch × Int) ⊕ (((List api_Stitch) × Int) ⊕ (List api_Stitch))) := fun s0 => match s0 with
  | (s23, s26) =>
    if decide (s26 < (r11.length : Int)) then
      Option.bind (idxO r11 s26) fun x38 =>
      Option.bind (F_raddleref25_word x38) fun r43 =>
      if !r43.2 then
        some (.inr (.inl (([] : (List api_Stitch)), 12)))
      else
        Option.bind (appO s23 r43.1) fun l53 =>
        if decide (200 < (l53.length : Int)) then
          some (.inr (.inl (([] : (List api_Stitch)), 12)))
        else
          some (.inl (l53, w64 (s26 + 1)))
    else
      some (.inr (.inr s23))
noncomputable def F_raddleref25_Parse (p0 : ByteArray) : Option ((List api_Stitch) × Int) :=
  if decide (3000 < (p0.size : Int)) then
    some (([] : (List api_Stitch)), 12)
  else
    if p0 == (⟨#[]⟩ : ByteArray) then
      some (([] : (List api_Stitch)), 0)
    else
      Option.bind (F_raddleref25_Cut p0 32) fun r11 =>
      Option.bind (α := List api_Stitch ⊕ ((List api_Stitch) × Int)) (
        Option.bind (whileO (raddleref25_Parse_l1 r11) (([] : List api_Stitch), 0)) fun z0 => match z0 with
          | .inl z =>
            some (.inr z)
          | .inr e30 =>
            some (.inl e30)) fun z0 => match z0 with
        | .inl o17 =>
          Option.bind (α := Bool) (
            Option.bind (F_raddleref25_All o17) fun r64 =>
            if r64 != 0 then
              some true
            else
              Option.bind (F_raddleref25_Written o17) fun r67 =>
              some (r67 != p0)) fun o61 =>
          if o61 then
            some (([] : (List api_Stitch)), 12)
          else
            some (o17, 0)
        | .inr z =>
          some z
def c_raddleref25_Parse_val (r : ((List api_Stitch) × Int)) (x : Value) : Value := .tuple #[x, .int .i64 r.2]
def c_raddleref25_Parse_D (r : ((List api_Stitch) × Int)) (x : Value) : List Fact := [fRep (rL r_api_Stitch) x r.1]
set_option maxHeartbeats 4000000 in
set_option maxRecDepth 100000 in
theorem c_raddleref25_Parse (E : Nat → Prop) (w0 : World) (p0 : ByteArray) (r : ((List api_Stitch) × Int)) (h : F_raddleref25_Parse p0 = some r) (S : St0 E [] w0 w0 [] []) :
    Calls Try.prog 48 #[.string p0] w0 (Ret (X := Value) E [] w0 (c_raddleref25_Parse_val r) (fun _ => []) (c_raddleref25_Parse_D r)) := by
  unfold F_raddleref25_Parse at h
  refine sEnter (args := [.string p0]) 48 Try.func48 rfl rfl (by simp) S (fun a S => ?_)
  refine sSeq (fun K1 hK1 => ?_)
  refine sRegion ?_
  refine sMove (.slice none 0 0) S (wN rfl) (.inr rfl) rfl rfl (lb rfl) fun a S => ?_
  refine sMove (iv 0) S (wN rfl) (.inr rfl) rfl rfl (lb rfl) fun a S => ?_
  refine leafL (leafT (hK1 _ _ ?_))
  refine sSeq (fun K2 hK2 => ?_)
  refine sSeq (fun K3 hK3 => ?_)
  refine sRegion ?_
  refine sMove (.string p0) S (wN rfl) (.inl rfl) rfl rfl (lb rfl) fun a S => ?_
  refine sLenS (v := p0) S (wN rfl) rfl Try.underlying9 rfl rfl (lb rfl) fun a S => ?_
  refine sBin (.bool (decide (3000 < (p0.size : Int)))) S (wN rfl) rfl rfl rfl (bGt _ _ _ _ .i64 (p0.size : Int) 3000) rfl (lb rfl) fun a S => ?_
  refine leafL (leafT (hK3 _ _ ?_))
  rcases iteSome h with ⟨hc4, h⟩ | ⟨hc4, h⟩
  · refine sCondT S rfl hc4 ?_
    refine sSeq (fun K5 hK5 => ?_)
    refine sRegion ?_
    refine sMove (.slice none 0 0) S (wN rfl) (.inr rfl) rfl rfl (lb rfl) fun a S => ?_
    refine sMove (iv 12) S (wN rfl) (.inr rfl) rfl rfl (lb rfl) fun a S => ?_
    refine leafL (leafT (hK5 _ _ ?_))
    obtain rfl := Option.some.inj h
    have S := S.learn (fRep (rL r_api_Stitch) (.slice none 0 0) ([] : (List api_Stitch))) (rL_nil _ _ _)
    exact wp_ret (rThen (sRet (.tuple #[.slice none 0 0, iv 12]) S (rsl2 rfl (rvT (t := 2) (v := .slice none 0 0) S rfl) (rvT (t := 3) (v := iv 12) S rfl)) ⟨(.slice none 0 0), rfl, S.mem.sel [] [0] (by decide) rfl rfl⟩))
  refine sCondF S rfl hc4 ?_
  refine wp_skip (leafT (hK2 _ _ ?_))
  refine sSeq (fun K6 hK6 => ?_)
  refine sSeq (fun K7 hK7 => ?_)
  refine sRegion ?_
  refine sMove (.string p0) S (wN rfl) (.inl rfl) rfl rfl (lb rfl) fun a S => ?_
  refine sBin (.bool (p0 == (⟨#[]⟩ : ByteArray))) S (wN rfl) rfl rfl rfl (bEqS _ _ _ _ p0 (⟨#[]⟩ : ByteArray)) rfl (lb rfl) fun a S => ?_
  refine leafL (leafT (hK7 _ _ ?_))
  rcases iteSome h with ⟨hc8, h⟩ | ⟨hc8, h⟩
  · refine sCondT S rfl hc8 ?_
    refine sSeq (fun K9 hK9 => ?_)
    refine sRegion ?_
    refine sMove (.slice none 0 0) S (wN rfl) (.inr rfl) rfl rfl (lb rfl) fun a S => ?_
    refine sMove (iv 0) S (wN rfl) (.inr rfl) rfl rfl (lb rfl) fun a S => ?_
    refine leafL (leafT (hK9 _ _ ?_))
    obtain rfl := Option.some.inj h
    have S := S.learn (fRep (rL r_api_Stitch) (.slice none 0 0) ([] : (List api_Stitch))) (rL_nil _ _ _)
    exact wp_ret (rThen (sRet (.tuple #[.slice none 0 0, iv 0]) S (rsl2 rfl (rvT (t := 2) (v := .slice none 0 0) S rfl) (rvT (t := 3) (v := iv 0) S rfl)) ⟨(.slice none 0 0), rfl, S.mem.sel [] [0] (by decide) rfl rfl⟩))
  refine sCondF S rfl hc8 ?_
  refine wp_skip (leafT (hK6 _ _ ?_))
  refine sSeq (fun K10 hK10 => ?_)
  refine sRegion ?_
  refine sMove (.string p0) S (wN rfl) (.inl rfl) rfl rfl (lb rfl) fun a S => ?_
  obtain ⟨r11, hx12, h⟩ := bindSome h
  refine sCall (X := Value) (f := 46) (vs := [.string p0, .int .u8 32]) (val := c_raddleref25_Cut_val r11) (B' := fun _ => []) (D' := c_raddleref25_Cut_D r11) [] [] [] [] [] S (wN rfl) rfl callee46 rfl (by decide) rfl rfl (fun E1 w1 S1 => c_raddleref25_Cut E1 w1 p0 32 r11 hx12 S1) rfl (lb rfl) fun u13 a w S => ?_
  obtain ⟨ad14, cp15, _, rfl, _⟩ := S.mem.know (i := 0) (e := fRep (rL rS) (u13) r11) rfl
  refine sMove (.slice ad14 r11.length cp15) S (wN rfl) (.inr rfl) rfl rfl (lb rfl) fun a S => ?_
  refine leafL (leafT (hK10 _ _ ?_))
  refine sSeq (fun K16 hK16 => ?_)
  refine sRegion ?_
  refine sMove (.slice none 0 0) S (wN rfl) (.inr rfl) rfl rfl (lb rfl) fun a S => ?_
  refine leafL (leafT (hK16 _ _ ?_))
  obtain ⟨t20, h, g21⟩ := bindSome h
  refine sCut (fun a w => ∃ o17, .inl o17 = t20 ∧ ∃ ad18, ∃ cp19, St [] E [] w0 48 a w [(0, .string p0), (5, .slice ad18 o17.length cp19)] [eRow r_api_Stitch 74 (.slice ad18 o17.length cp19) o17] []) ?_ (fun a w hI => ?_)
  rotate_left
  · obtain ⟨o17, rfl, ad18, cp19, S⟩ := hI
    have h := g21
    clear g21
    try dsimp only at h
    refine sSeq (fun K60 hK60 => ?_)
    obtain ⟨t62, h, g63⟩ := bindSome h
    refine sCut (fun a w => ∃ o61, o61 = t62 ∧ St [] E [] w0 48 a w [(5, .slice ad18 o17.length cp19), (46, .bool o61)] [eRow r_api_Stitch 74 (.slice ad18 o17.length cp19) o17] []) ?_ (fun a w hI => ?_)
    rotate_left
    · obtain ⟨o61, rfl, S⟩ := hI
      have h := g63
      clear g63
      try dsimp only at h
      rcases iteSome h with ⟨hc69, h⟩ | ⟨hc69, h⟩
      · refine sCondT S rfl hc69 ?_
        refine sSeq (fun K70 hK70 => ?_)
        refine sRegion ?_
        refine sMove (.slice none 0 0) S (wN rfl) (.inr rfl) rfl rfl (lb rfl) fun a S => ?_
        refine sMove (iv 12) S (wN rfl) (.inr rfl) rfl rfl (lb rfl) fun a S => ?_
        refine leafL (leafT (hK70 _ _ ?_))
        obtain rfl := Option.some.inj h
        have S := S.learn (fRep (rL r_api_Stitch) (.slice none 0 0) ([] : (List api_Stitch))) (rL_nil _ _ _)
        exact wp_ret (rThen (sRet (.tuple #[.slice none 0 0, iv 12]) S (rsl2 rfl (rvT (t := 2) (v := .slice none 0 0) S rfl) (rvT (t := 3) (v := iv 12) S rfl)) ⟨(.slice none 0 0), rfl, S.mem.sel [] [0] (by decide) rfl rfl⟩))
      refine sCondF S rfl hc69 ?_
      refine wp_skip (leafT (hK60 _ _ ?_))
      refine sSeq (fun K71 hK71 => ?_)
      refine sRegion ?_
      refine sMove (.slice ad18 o17.length cp19) S (wN rfl) (.inl rfl) rfl rfl (lb rfl) fun a S => ?_
      refine sMove (.slice ad18 o17.length cp19) S (wN rfl) (.inr rfl) rfl rfl (lb rfl) fun a S => ?_
      refine sMove (iv 0) S (wN rfl) (.inr rfl) rfl rfl (lb rfl) fun a S => ?_
      refine leafL (leafT (hK71 _ _ ?_))
      obtain rfl := Option.some.inj h
      have S := S.shutR (r := r_api_Stitch) (T := 74) (v := .slice ad18 o17.length cp19) (xs := o17) 0 rfl
      exact wp_ret (sRet (.tuple #[.slice ad18 o17.length cp19, iv 0]) S (rsl2 rfl (rvT (t := 2) (v := .slice ad18 o17.length cp19) S rfl) (rvT (t := 3) (v := iv 0) S rfl)) ⟨(.slice ad18 o17.length cp19), rfl, S.mem.sel [] [0] (by decide) rfl rfl⟩)
    refine sRegion ?_
    refine sMove (.slice ad18 o17.length cp19) S (wN rfl) (.inl rfl) rfl rfl (lb rfl) fun a S => ?_
    obtain ⟨r64, hx65, h⟩ := bindSome h
    have S1 := S.mem
    have S1 := S1.shutR (r := r_api_Stitch) (T := 74) (v := .slice ad18 o17.length cp19) (xs := o17) 0 rfl
    refine sCallQ (X := Unit) (f := 66) (vs := [.slice ad18 o17.length cp19]) (val := fun _ => iv r64) S (wN rfl) rfl callee66 rfl (S1.quiet [0] rfl) (fun E1 w1 S1 => c_raddleref25_All E1 w1 o17 (.slice ad18 o17.length cp19) r64 hx65 S1) rfl (lb rfl) fun _ a w S => ?_
    refine sBin (.bool (r64 != 0)) S (wN rfl) rfl rfl rfl (bNe _ _ _ _ .i64 r64 0) rfl (lb rfl) fun a S => ?_
    refine sMove (.bool (r64 != 0)) S (wN rfl) (.inl rfl) rfl rfl (lb rfl) fun a S => ?_
    rcases iteSome h with ⟨hc66, h⟩ | ⟨hc66, h⟩
    · refine sSkip 3 false 41 42 S rfl rfl rfl hc66 rfl (lb rfl) fun a S => ?_
      refine sSkip 3 false 41 43 S rfl rfl rfl hc66 rfl (lb rfl) fun a S => ?_
      refine sSkip 3 false 41 44 S rfl rfl rfl hc66 rfl (lb rfl) fun a S => ?_
      refine sSkip 3 false 41 45 S rfl rfl rfl hc66 rfl (lb rfl) fun a S => ?_
      refine sPickT (.bool true) S (wN rfl) rfl rfl hc66 rfl rfl (lb rfl) fun a S => ?_
      exact leafL (leafT (⟨true, Option.some.inj h, S.fix [0] [] (by decide) rfl rfl rfl⟩))
    refine sMove (.slice ad18 o17.length cp19) S (wG 3 false 41 rfl rfl rfl hc66) (.inl rfl) rfl rfl (lb rfl) fun a S => ?_
    obtain ⟨r67, hx68, h⟩ := bindSome h
    have S1 := S.mem
    have S1 := S1.shutR (r := r_api_Stitch) (T := 74) (v := .slice ad18 o17.length cp19) (xs := o17) 0 rfl
    refine sCallQ (X := Unit) (f := 67) (vs := [.slice ad18 o17.length cp19]) (val := fun _ => .string r67) S (wG 3 false 41 rfl rfl rfl hc66) rfl callee67 rfl (S1.quiet [0] rfl) (fun E1 w1 S1 => c_raddleref25_Written E1 w1 o17 (.slice ad18 o17.length cp19) r67 hx68 S1) rfl (lb rfl) fun _ a w S => ?_
    refine sMove (.string p0) S (wG 3 false 41 rfl rfl rfl hc66) (.inl rfl) rfl rfl (lb rfl) fun a S => ?_
    refine sBin (.bool (r67 != p0)) S (wG 3 false 41 rfl rfl rfl hc66) rfl rfl rfl (bNeS _ _ _ _ r67 p0) rfl (lb rfl) fun a S => ?_
    refine sPickF (.bool (r67 != p0)) S (wN rfl) rfl rfl hc66 rfl rfl (lb rfl) fun a S => ?_
    exact leafL (leafT (⟨r67 != p0, Option.some.inj h, S.fix [0] [] (by decide) rfl rfl rfl⟩))
  refine sSeq (fun K22 hK22 => ?_)
  refine sRegion ?_
  refine sMove (iv 0) S (wN rfl) (.inr rfl) rfl rfl (lb rfl) fun a S => ?_
  refine leafL (leafT (hK22 _ _ ?_))
  refine wp_block ?_
  have S := S.nilRow r_api_Stitch 74 (α := api_Stitch)
  obtain ⟨t29, hl, g28⟩ := bindSome h
  refine sLoop hl (fun s0 a w => match s0 with | (s23, s26) => ∃ ad24, ∃ cp25, St [] E [] w0 48 a w [(0, .string p0), (4, .slice ad14 r11.length cp15), (5, .slice ad24 s23.length cp25), (6, iv s26)] [eRow r_api_Stitch 74 (.slice ad24 s23.length cp25) s23] [fRep (rL rS) (.slice ad14 r11.length cp15) r11]) ⟨none, 0, S.fix [0] [0] (by decide) rfl rfl rfl⟩ ?_
  clear hl h
  intro s0 a w c0 hI h hu27
  obtain ⟨s23, s26⟩ := s0
  unfold raddleref25_Parse_l1 at h
  dsimp only at h hI
  obtain ⟨ad24, cp25, S⟩ := hI
  refine sSeq (fun K33 hK33 => ?_)
  refine sSeq (fun K34 hK34 => ?_)
  refine sRegion ?_
  refine sMove (iv s26) S (wN rfl) (.inl rfl) rfl rfl (lb rfl) fun a S => ?_
  refine sMove (.slice ad14 r11.length cp15) S (wN rfl) (.inl rfl) rfl rfl (lb rfl) fun a S => ?_
  refine sLen (ad := ad14) (m := r11.length) (c := cp15) S (wN rfl) rfl Try.underlying94 rfl rfl (lb rfl) fun a S => ?_
  refine sBin (.bool (decide (s26 < (r11.length : Int)))) S (wN rfl) rfl rfl rfl (bLt _ _ _ _ .i64 s26 (r11.length : Int)) rfl (lb rfl) fun a S => ?_
  refine leafL (leafT (hK34 _ _ ?_))
  rcases iteSome h with ⟨hc35, h⟩ | ⟨hc35, h⟩
  rotate_left
  · refine sCondF S rfl hc35 ?_
    obtain rfl := Option.some.inj h
    obtain rfl := hu27 _ rfl
    have h := g28
    clear g28
    try dsimp only at h
    exact wp_exit (xThen (xThen (xHit (leafT (⟨s23, Option.some.inj h, ad24, cp25, S.fix [0] [] (by decide) rfl rfl rfl⟩)))))
  refine sCondT S rfl hc35 ?_
  refine wp_skip (leafT (hK33 _ _ ?_))
  refine sSeq (fun K36 hK36 => ?_)
  refine wp_block ?_
  refine sSeq (fun K37 hK37 => ?_)
  refine sRegion ?_
  refine sMove (.slice ad14 r11.length cp15) S (wN rfl) (.inl rfl) rfl rfl (lb rfl) fun a S => ?_
  refine sMove (iv s26) S (wN rfl) (.inl rfl) rfl rfl (lb rfl) fun a S => ?_
  obtain ⟨x38, hx39, h⟩ := bindSome h
  obtain ⟨q40, hq41, S⟩ := pIdx (P := Try.prog) (r := rS) (v := .slice ad14 r11.length cp15) (xs := r11) (j := s26) 94 9 0 S Try.underlying94 rfl rfl hx39
  refine sIdxV (v := .slice ad14 r11.length cp15) (k := .i64) (j := s26) S (wN rfl) rfl rfl rfl hq41 rfl (lb rfl) fun a S => ?_
  obtain ⟨u42, S⟩ := pLoad (r := rS) (q := q40) (x := x38) 0 S rfl
  obtain rfl : u42 = .string x38 := S.mem.know (i := 1) (e := fRep rS (u42) x38) rfl
  refine sLoadV1 (vq := q40) 0 (.string x38) S (wN rfl) rfl rfl rfl rfl rfl (lb rfl) fun a S => ?_
  obtain ⟨r43, hx44, h⟩ := bindSome h
  refine sCall (X := Value) (f := 65) (vs := [.string x38]) (val := c_raddleref25_word_val r43) (B' := fun _ => []) (D' := c_raddleref25_word_D r43) [] [eRow r_api_Stitch 74 (.slice ad24 s23.length cp25) s23] [] [0] [] S (wN rfl) rfl callee65 rfl (by decide) rfl rfl (fun E1 w1 S1 => c_raddleref25_word E1 w1 x38 r43 hx44 S1) rfl (lb rfl) fun u45 a w S => ?_
  obtain ⟨ad46, cp47, _, rfl, _⟩ := S.mem.know (i := 0) (e := fRep (rL r_api_Stitch) (u45) r43.1) rfl
  refine sMove (.tuple #[.slice ad46 r43.1.length cp47, .bool r43.2]) S (wN rfl) (.inl rfl) rfl rfl (lb rfl) fun a S => ?_
  refine sExtract (vs := [.slice ad46 r43.1.length cp47, .bool r43.2]) (.slice ad46 r43.1.length cp47) S (wN rfl) rfl rfl rfl rfl (lb rfl) fun a S => ?_
  refine sExtract (vs := [.slice ad46 r43.1.length cp47, .bool r43.2]) (.bool r43.2) S (wN rfl) rfl rfl rfl rfl (lb rfl) fun a S => ?_
  refine sMove (.slice ad46 r43.1.length cp47) S (wN rfl) (.inr rfl) rfl rfl (lb rfl) fun a S => ?_
  refine sMove (.bool r43.2) S (wN rfl) (.inr rfl) rfl rfl (lb rfl) fun a S => ?_
  refine leafL (leafT (hK37 _ _ ?_))
  refine sSeq (fun K48 hK48 => ?_)
  refine sSeq (fun K49 hK49 => ?_)
  refine sRegion ?_
  refine sMove (.bool r43.2) S (wN rfl) (.inl rfl) rfl rfl (lb rfl) fun a S => ?_
  refine sNot (b := r43.2) S (wN rfl) rfl rfl rfl (lb rfl) fun a S => ?_
  refine leafL (leafT (hK49 _ _ ?_))
  rcases iteSome h with ⟨hc50, h⟩ | ⟨hc50, h⟩
  · refine sCondT S rfl hc50 ?_
    refine sSeq (fun K51 hK51 => ?_)
    refine sRegion ?_
    refine sMove (.slice none 0 0) S (wN rfl) (.inr rfl) rfl rfl (lb rfl) fun a S => ?_
    refine sMove (iv 12) S (wN rfl) (.inr rfl) rfl rfl (lb rfl) fun a S => ?_
    refine leafL (leafT (hK51 _ _ ?_))
    obtain rfl := Option.some.inj h
    obtain rfl := hu27 _ rfl
    have h := g28
    clear g28
    try dsimp only at h
    obtain rfl := Option.some.inj h
    have h := g21
    clear g21
    try dsimp only at h
    obtain rfl := Option.some.inj h
    have S := S.learn (fRep (rL r_api_Stitch) (.slice none 0 0) ([] : (List api_Stitch))) (rL_nil _ _ _)
    exact wp_ret (rThen (rBlock (rThen (rThen (rBlock (rThen (sRet (.tuple #[.slice none 0 0, iv 12]) S (rsl2 rfl (rvT (t := 2) (v := .slice none 0 0) S rfl) (rvT (t := 3) (v := iv 12) S rfl)) ⟨(.slice none 0 0), rfl, S.mem.sel [] [0] (by decide) rfl rfl⟩)))))))
  refine sCondF S rfl hc50 ?_
  refine wp_skip (leafT (hK48 _ _ ?_))
  refine sSeq (fun K52 hK52 => ?_)
  refine sRegion ?_
  refine sMove (.slice ad24 s23.length cp25) S (wN rfl) (.inl rfl) rfl rfl (lb rfl) fun a S => ?_
  refine sMove (.slice ad46 r43.1.length cp47) S (wN rfl) (.inl rfl) rfl rfl (lb rfl) fun a S => ?_
  obtain ⟨l53, hx54, h⟩ := bindSome h
  refine sApp (r := r_api_Stitch) (T := 74) (xs := s23) (ys := r43.1) (v := .slice ad24 s23.length cp25) (u := .slice ad46 r43.1.length cp47) 0 (.agg #[.int .u8 0, .bool false, iv 0, iv 0]) 24 S (wN rfl) rfl Try.underlying70 rfl rfl (by decide) rfl rfl rfl (src_D 0 S.mem rfl) hx54 rfl (lb rfl) fun a w ad55 cp56 S => ?_
  refine sMove (.slice ad55 l53.length cp56) S (wN rfl) (.inr rfl) rfl rfl (lb rfl) fun a S => ?_
  refine leafL (leafT (hK52 _ _ ?_))
  refine sSeq (fun K57 hK57 => ?_)
  refine sRegion ?_
  refine sMove (.slice ad55 l53.length cp56) S (wN rfl) (.inl rfl) rfl rfl (lb rfl) fun a S => ?_
  refine sLen (ad := ad55) (m := l53.length) (c := cp56) S (wN rfl) rfl Try.underlying70 rfl rfl (lb rfl) fun a S => ?_
  refine sBin (.bool (decide (200 < (l53.length : Int)))) S (wN rfl) rfl rfl rfl (bGt _ _ _ _ .i64 (l53.length : Int) 200) rfl (lb rfl) fun a S => ?_
  refine leafL (leafT (hK57 _ _ ?_))
  rcases iteSome h with ⟨hc58, h⟩ | ⟨hc58, h⟩
  rotate_left
  · refine sCondF S rfl hc58 ?_
    refine wp_skip (leafB (leafT (hK36 _ _ ?_)))
    refine sRegion ?_
    refine sMove (iv s26) S (wN rfl) (.inl rfl) rfl rfl (lb rfl) fun a S => ?_
    refine sBin (iv (w64 (s26 + 1))) S (wN rfl) rfl rfl rfl (bAdd _ _ _ _ s26 1) rfl (lb rfl) fun a S => ?_
    refine sMove (iv (w64 (s26 + 1))) S (wN rfl) (.inr rfl) rfl rfl (lb rfl) fun a S => ?_
    exact leafL (leafT (⟨(l53, w64 (s26 + 1)), (Option.some.inj h).symm, ⟨ad55, cp56, S.fix [0] [4] (by decide) rfl rfl rfl⟩⟩))
  refine sCondT S rfl hc58 ?_
  refine sSeq (fun K59 hK59 => ?_)
  refine sRegion ?_
  refine sMove (.slice none 0 0) S (wN rfl) (.inr rfl) rfl rfl (lb rfl) fun a S => ?_
  refine sMove (iv 12) S (wN rfl) (.inr rfl) rfl rfl (lb rfl) fun a S => ?_
  refine leafL (leafT (hK59 _ _ ?_))
  obtain rfl := Option.some.inj h
  obtain rfl := hu27 _ rfl
  have h := g28
  clear g28
  try dsimp only at h
  obtain rfl := Option.some.inj h
  have h := g21
  clear g21
  try dsimp only at h
  obtain rfl := Option.some.inj h
  have S := S.learn (fRep (rL r_api_Stitch) (.slice none 0 0) ([] : (List api_Stitch))) (rL_nil _ _ _)
  exact wp_ret (rBlock (rThen (rThen (rBlock (rThen (sRet (.tuple #[.slice none 0 0, iv 12]) S (rsl2 rfl (rvT (t := 2) (v := .slice none 0 0) S rfl) (rvT (t := 3) (v := iv 12) S rfl)) ⟨(.slice none 0 0), rfl, S.mem.sel [] [0] (by decide) rfl rfl⟩))))))

end Go.Proofs.Ytdbgkakmhlmpbaa
namespace Go.Proofs.Ytdbgkakmhlmpbaa
open Go.RowKit
set_option linter.unusedVariables false

noncomputable def F_raddleref26_side (p0 : Bool) : Option ByteArray :=
  if p0 then
    some (⟨#[98, 97, 99, 107]⟩ : ByteArray)
  else
    some (⟨#[102, 114, 111, 110, 116]⟩ : ByteArray)
set_option maxHeartbeats 4000000 in
set_option maxRecDepth 100000 in
theorem c_raddleref26_side (E : Nat → Prop) (w0 : World) (p0 : Bool) (r : ByteArray) (h : F_raddleref26_side p0 = some r) (S : St0 E [] w0 w0 [] []) :
    Calls Try.prog 69 #[.bool p0] w0 (Ret (X := Unit) E [] w0 (fun _ => .string r) (fun _ => []) (fun _ => [])) := by
  unfold F_raddleref26_side at h
  refine sEnter (args := [.bool p0]) 4 Try.func69 rfl rfl (by simp) S (fun a S => ?_)
  refine sSeq (fun K1 hK1 => ?_)
  refine sRegion ?_
  refine sMove (.string (⟨#[]⟩ : ByteArray)) S (wN rfl) (.inr rfl) rfl rfl (lb rfl) fun a S => ?_
  refine leafL (leafT (hK1 _ _ ?_))
  refine sSeq (fun K2 hK2 => ?_)
  refine sSeq (fun K3 hK3 => ?_)
  refine sRegion ?_
  refine sMove (.bool p0) S (wN rfl) (.inl rfl) rfl rfl (lb rfl) fun a S => ?_
  refine leafL (leafT (hK3 _ _ ?_))
  rcases iteSome h with ⟨hc4, h⟩ | ⟨hc4, h⟩
  · refine sCondT S rfl hc4 ?_
    refine sSeq (fun K5 hK5 => ?_)
    refine sRegion ?_
    refine sMove (.string (⟨#[98, 97, 99, 107]⟩ : ByteArray)) S (wN rfl) (.inr rfl) rfl rfl (lb rfl) fun a S => ?_
    refine leafL (leafT (hK5 _ _ ?_))
    obtain rfl := Option.some.inj h
    exact wp_ret (rThen (sRet (.string (⟨#[98, 97, 99, 107]⟩ : ByteArray)) S (rsl1 rfl (rvT (t := 2) (v := .string (⟨#[98, 97, 99, 107]⟩ : ByteArray)) S rfl)) ⟨(), rfl, S.mem.sel [] [] (by decide) rfl rfl⟩))
  refine sCondF S rfl hc4 ?_
  refine wp_skip (leafT (hK2 _ _ ?_))
  refine sSeq (fun K6 hK6 => ?_)
  refine sRegion ?_
  refine sMove (.string (⟨#[102, 114, 111, 110, 116]⟩ : ByteArray)) S (wN rfl) (.inr rfl) rfl rfl (lb rfl) fun a S => ?_
  refine leafL (leafT (hK6 _ _ ?_))
  obtain rfl := Option.some.inj h
  exact wp_ret (sRet (.string (⟨#[102, 114, 111, 110, 116]⟩ : ByteArray)) S (rsl1 rfl (rvT (t := 2) (v := .string (⟨#[102, 114, 111, 110, 116]⟩ : ByteArray)) S rfl)) ⟨(), rfl, S.mem.sel [] [] (by decide) rfl rfl⟩)

end Go.Proofs.Ytdbgkakmhlmpbaa
namespace Go.Proofs.Ytdbgkakmhlmpbaa
open Go.RowKit
set_option linter.unusedVariables false

noncomputable def raddleref26_Written_l1 (p0 : api_Chart) : (ByteArray × Int) → Option ((ByteArray × Int) ⊕ ((ByteArray × Bool) ⊕ ByteArray)) := fun s0 => match s0 with
  | (s18, s19) =>
    if decide (s19 < (p0.Rows.length : Int)) then
      Option.bind (idxO p0.Rows s19) fun x29 =>
      Option.bind (F_raddleref25_Written x29.Cells) fun r38 =>
      if decide (3000 < (r38.size : Int)) then
        some (.inr (.inl ((⟨#[]⟩ : ByteArray), false)))
      else
        Option.bind (F_raddleref26_side x29.Back) fun r50 =>
        Option.bind (addS s18 r50) fun z52 =>
        Option.bind (α := ByteArray) (
          if r38 != (⟨#[]⟩ : ByteArray) then
            Option.bind (addS z52 (⟨#[32]⟩ : ByteArray)) fun z59 =>
            Option.bind (addS z59 r38) fun z61 =>
            some z61
          else
            some z52) fun o54 =>
        Option.bind (addS o54 (⟨#[10]⟩ : ByteArray)) fun z63 =>
        some (.inl (z63, w64 (s19 + 1)))
    else
      some (.inr (.inr s18))
noncomputable def F_raddleref26_Written (p0 : api_Chart) : Option (ByteArray × Bool) :=
  Option.bind (F_raddleref25_Decimal p0.Start) fun r8 =>
  Option.bind (addS (⟨#[115, 116, 97, 114, 116, 32]⟩ : ByteArray) r8) fun z10 =>
  Option.bind (addS z10 (⟨#[10]⟩ : ByteArray)) fun z12 =>
  Option.bind (α := ByteArray ⊕ (ByteArray × Bool)) (
    Option.bind (whileO (raddleref26_Written_l1 p0) (z12, 0)) fun z0 => match z0 with
      | .inl z =>
        some (.inr z)
      | .inr e23 =>
        some (.inl e23)) fun z0 => match z0 with
    | .inl o14 =>
      some (o14, true)
    | .inr z =>
      some z
set_option maxHeartbeats 4000000 in
set_option maxRecDepth 100000 in
theorem c_raddleref26_Written (E : Nat → Prop) (w0 : World) (p0 : api_Chart) (v0 : Value) (r : (ByteArray × Bool)) (h : F_raddleref26_Written p0 = some r) (S : St0 E [] w0 w0 [] [fRep r_api_Chart (v0) p0]) :
    Calls Try.prog 49 #[v0] w0 (Ret (X := Unit) E [] w0 (fun _ => .tuple #[.string r.1, .bool r.2]) (fun _ => []) (fun _ => [])) := by
  unfold F_raddleref26_Written at h
  obtain ⟨u1, rfl, hu2⟩ := S.know (i := 0) (e := fRep r_api_Chart (v0) p0) rfl
  have S := S.learn (fRep (rL r_api_Row) u1 p0.Rows) hu2
  obtain ⟨ad3, cp4, _, rfl, _⟩ := hu2
  refine sEnter (args := [.agg #[iv p0.Start, .slice ad3 p0.Rows.length cp4]]) 47 Try.func49 rfl rfl (by simp) S (fun a S => ?_)
  refine sSeq (fun K5 hK5 => ?_)
  refine sRegion ?_
  refine sBox (v := .agg #[iv p0.Start, .slice ad3 p0.Rows.length cp4]) S (wN rfl) rfl rfl [iv p0.Start, .slice ad3 p0.Rows.length cp4] rfl rfl (lb rfl) fun a b6 w S => ?_
  refine sMove (.string (⟨#[]⟩ : ByteArray)) S (wN rfl) (.inr rfl) rfl rfl (lb rfl) fun a S => ?_
  refine sMove (.bool false) S (wN rfl) (.inr rfl) rfl rfl (lb rfl) fun a S => ?_
  refine leafL (leafT (hK5 _ _ ?_))
  refine sSeq (fun K7 hK7 => ?_)
  refine sRegion ?_
  refine sField (b := b6) (off := 0) 0 0 S (wN rfl) rfl rfl rfl rfl rfl (lb rfl) fun a S => ?_
  refine sLoad1 (p := b6) (off := 0) (T := 41) (vs := [iv p0.Start, .slice ad3 p0.Rows.length cp4]) 0 (iv p0.Start) S (wN rfl) rfl rfl rfl rfl rfl rfl (lb rfl) fun a S => ?_
  obtain ⟨r8, hx9, h⟩ := bindSome h
  have S1 := S.mem
  refine sCallQ (X := Unit) (f := 68) (vs := [iv p0.Start]) (val := fun _ => .string r8) S (wN rfl) rfl callee68 rfl (S1.quiet [] rfl) (fun E1 w1 S1 => c_raddleref25_Decimal E1 w1 p0.Start r8 hx9 S1) rfl (lb rfl) fun _ a w S => ?_
  obtain ⟨z10, hx11, h⟩ := bindSome h
  refine sBin (.string z10) S (wN rfl) rfl rfl rfl (bAddS _ _ _ _ (x := (⟨#[115, 116, 97, 114, 116, 32]⟩ : ByteArray)) (y := r8) hx11) rfl (lb rfl) fun a S => ?_
  obtain ⟨z12, hx13, h⟩ := bindSome h
  refine sBin (.string z12) S (wN rfl) rfl rfl rfl (bAddS _ _ _ _ (x := z10) (y := (⟨#[10]⟩ : ByteArray)) hx13) rfl (lb rfl) fun a S => ?_
  refine sMove (.string z12) S (wN rfl) (.inr rfl) rfl rfl (lb rfl) fun a S => ?_
  refine leafL (leafT (hK7 _ _ ?_))
  obtain ⟨t15, h, g16⟩ := bindSome h
  refine sCut (fun a w => ∃ o14, .inl o14 = t15 ∧ St [] E [] w0 47 a w [(4, .string o14)] [] []) ?_ (fun a w hI => ?_)
  rotate_left
  · obtain ⟨o14, rfl, S⟩ := hI
    have h := g16
    clear g16
    try dsimp only at h
    refine sSeq (fun K65 hK65 => ?_)
    refine sRegion ?_
    refine sMove (.string o14) S (wN rfl) (.inl rfl) rfl rfl (lb rfl) fun a S => ?_
    refine sMove (.string o14) S (wN rfl) (.inr rfl) rfl rfl (lb rfl) fun a S => ?_
    refine sMove (.bool true) S (wN rfl) (.inr rfl) rfl rfl (lb rfl) fun a S => ?_
    refine leafL (leafT (hK65 _ _ ?_))
    obtain rfl := Option.some.inj h
    exact wp_ret (sRet (.tuple #[.string o14, .bool true]) S (rsl2 rfl (rvT (t := 2) (v := .string o14) S rfl) (rvT (t := 3) (v := .bool true) S rfl)) ⟨(), rfl, S.mem.sel [] [] (by decide) rfl rfl⟩)
  refine sSeq (fun K17 hK17 => ?_)
  refine sRegion ?_
  refine sMove (iv 0) S (wN rfl) (.inr rfl) rfl rfl (lb rfl) fun a S => ?_
  refine leafL (leafT (hK17 _ _ ?_))
  refine wp_block ?_
  obtain ⟨t22, hl, g21⟩ := bindSome h
  refine sLoop hl (fun s0 a w => match s0 with | (s18, s19) => St [] E [] w0 47 a w [(1, .pointer (some ⟨b6, 0, none⟩)), (4, .string s18), (5, iv s19)] [eBox b6 41 [iv p0.Start, .slice ad3 p0.Rows.length cp4]] [fRep (rL r_api_Row) (.slice ad3 p0.Rows.length cp4) p0.Rows]) (S.fix [0] [0] (by decide) rfl rfl rfl) ?_
  clear hl h
  intro s0 a w c0 hI h hu20
  obtain ⟨s18, s19⟩ := s0
  unfold raddleref26_Written_l1 at h
  dsimp only at h hI
  have S := hI
  refine sSeq (fun K24 hK24 => ?_)
  refine sSeq (fun K25 hK25 => ?_)
  refine sRegion ?_
  refine sMove (iv s19) S (wN rfl) (.inl rfl) rfl rfl (lb rfl) fun a S => ?_
  refine sField (b := b6) (off := 0) 1 1 S (wN rfl) rfl rfl rfl rfl rfl (lb rfl) fun a S => ?_
  refine sLoad1 (p := b6) (off := 1) (T := 41) (vs := [iv p0.Start, .slice ad3 p0.Rows.length cp4]) 0 (.slice ad3 p0.Rows.length cp4) S (wN rfl) rfl rfl rfl rfl rfl rfl (lb rfl) fun a S => ?_
  refine sLen (ad := ad3) (m := p0.Rows.length) (c := cp4) S (wN rfl) rfl Try.underlying39 rfl rfl (lb rfl) fun a S => ?_
  refine sBin (.bool (decide (s19 < (p0.Rows.length : Int)))) S (wN rfl) rfl rfl rfl (bLt _ _ _ _ .i64 s19 (p0.Rows.length : Int)) rfl (lb rfl) fun a S => ?_
  refine leafL (leafT (hK25 _ _ ?_))
  rcases iteSome h with ⟨hc26, h⟩ | ⟨hc26, h⟩
  rotate_left
  · refine sCondF S rfl hc26 ?_
    obtain rfl := Option.some.inj h
    obtain rfl := hu20 _ rfl
    have h := g21
    clear g21
    try dsimp only at h
    exact wp_exit (xThen (xThen (xHit (leafT (⟨s18, Option.some.inj h, S.fix [] [] (by decide) rfl rfl rfl⟩)))))
  refine sCondT S rfl hc26 ?_
  refine wp_skip (leafT (hK24 _ _ ?_))
  refine sSeq (fun K27 hK27 => ?_)
  refine wp_block ?_
  refine sSeq (fun K28 hK28 => ?_)
  refine sRegion ?_
  refine sField (b := b6) (off := 0) 1 1 S (wN rfl) rfl rfl rfl rfl rfl (lb rfl) fun a S => ?_
  refine sLoad1 (p := b6) (off := 1) (T := 41) (vs := [iv p0.Start, .slice ad3 p0.Rows.length cp4]) 0 (.slice ad3 p0.Rows.length cp4) S (wN rfl) rfl rfl rfl rfl rfl rfl (lb rfl) fun a S => ?_
  refine sMove (iv s19) S (wN rfl) (.inl rfl) rfl rfl (lb rfl) fun a S => ?_
  obtain ⟨x29, hx30, h⟩ := bindSome h
  obtain ⟨q31, hq32, S⟩ := pIdx (P := Try.prog) (r := r_api_Row) (v := .slice ad3 p0.Rows.length cp4) (xs := p0.Rows) (j := s19) 39 72 0 S Try.underlying39 rfl rfl hx30
  refine sIdxV (v := .slice ad3 p0.Rows.length cp4) (k := .i64) (j := s19) S (wN rfl) rfl rfl rfl hq32 rfl (lb rfl) fun a S => ?_
  obtain ⟨q33, hq34, S⟩ := pFld (P := Try.prog) (r := r_api_Row) (s2 := (rL r_api_Stitch)) (g := (·.Cells)) (q := q31) (z := x29) 72 1 0 1 S rfl rfl comp_api_Row_Cells
  refine sFldV (q := q31) S (wN rfl) rfl rfl hq34 rfl (lb rfl) fun a S => ?_
  obtain ⟨u35, S⟩ := pLoad (r := (rL r_api_Stitch)) (q := q33) (x := x29.Cells) 0 S rfl
  obtain ⟨ad36, cp37, _, rfl, _⟩ := S.mem.know (i := 1) (e := fRep (rL r_api_Stitch) (u35) x29.Cells) rfl
  refine sLoadV1 (vq := q33) 0 (.slice ad36 x29.Cells.length cp37) S (wN rfl) rfl rfl rfl rfl rfl (lb rfl) fun a S => ?_
  obtain ⟨r38, hx39, h⟩ := bindSome h
  have S1 := S.mem
  refine sCallQ (X := Unit) (f := 67) (vs := [.slice ad36 x29.Cells.length cp37]) (val := fun _ => .string r38) S (wN rfl) rfl callee67 rfl (S1.quiet [1] rfl) (fun E1 w1 S1 => c_raddleref25_Written E1 w1 x29.Cells (.slice ad36 x29.Cells.length cp37) r38 hx39 S1) rfl (lb rfl) fun _ a w S => ?_
  refine sMove (.string r38) S (wN rfl) (.inr rfl) rfl rfl (lb rfl) fun a S => ?_
  refine leafL (leafT (hK28 _ _ ?_))
  refine sSeq (fun K40 hK40 => ?_)
  refine sSeq (fun K41 hK41 => ?_)
  refine sRegion ?_
  refine sMove (.string r38) S (wN rfl) (.inl rfl) rfl rfl (lb rfl) fun a S => ?_
  refine sLenS (v := r38) S (wN rfl) rfl Try.underlying9 rfl rfl (lb rfl) fun a S => ?_
  refine sBin (.bool (decide (3000 < (r38.size : Int)))) S (wN rfl) rfl rfl rfl (bGt _ _ _ _ .i64 (r38.size : Int) 3000) rfl (lb rfl) fun a S => ?_
  refine leafL (leafT (hK41 _ _ ?_))
  rcases iteSome h with ⟨hc42, h⟩ | ⟨hc42, h⟩
  · refine sCondT S rfl hc42 ?_
    refine sSeq (fun K43 hK43 => ?_)
    refine sRegion ?_
    refine sMove (.string (⟨#[]⟩ : ByteArray)) S (wN rfl) (.inr rfl) rfl rfl (lb rfl) fun a S => ?_
    refine sMove (.bool false) S (wN rfl) (.inr rfl) rfl rfl (lb rfl) fun a S => ?_
    refine leafL (leafT (hK43 _ _ ?_))
    obtain rfl := Option.some.inj h
    obtain rfl := hu20 _ rfl
    have h := g21
    clear g21
    try dsimp only at h
    obtain rfl := Option.some.inj h
    have h := g16
    clear g16
    try dsimp only at h
    obtain rfl := Option.some.inj h
    exact wp_ret (rThen (rBlock (rThen (rThen (rBlock (rThen (sRet (.tuple #[.string (⟨#[]⟩ : ByteArray), .bool false]) S (rsl2 rfl (rvT (t := 2) (v := .string (⟨#[]⟩ : ByteArray)) S rfl) (rvT (t := 3) (v := .bool false) S rfl)) ⟨(), rfl, S.mem.sel [] [] (by decide) rfl rfl⟩)))))))
  refine sCondF S rfl hc42 ?_
  refine wp_skip (leafT (hK40 _ _ ?_))
  refine sSeq (fun K44 hK44 => ?_)
  refine sRegion ?_
  refine sMove (.string s18) S (wN rfl) (.inl rfl) rfl rfl (lb rfl) fun a S => ?_
  refine sField (b := b6) (off := 0) 1 1 S (wN rfl) rfl rfl rfl rfl rfl (lb rfl) fun a S => ?_
  refine sLoad1 (p := b6) (off := 1) (T := 41) (vs := [iv p0.Start, .slice ad3 p0.Rows.length cp4]) 0 (.slice ad3 p0.Rows.length cp4) S (wN rfl) rfl rfl rfl rfl rfl rfl (lb rfl) fun a S => ?_
  refine sMove (iv s19) S (wN rfl) (.inl rfl) rfl rfl (lb rfl) fun a S => ?_
  obtain ⟨q45, hq46, S⟩ := pIdx (P := Try.prog) (r := r_api_Row) (v := .slice ad3 p0.Rows.length cp4) (xs := p0.Rows) (j := s19) 39 72 4 S Try.underlying39 rfl rfl hx30
  refine sIdxV (v := .slice ad3 p0.Rows.length cp4) (k := .i64) (j := s19) S (wN rfl) rfl rfl rfl hq46 rfl (lb rfl) fun a S => ?_
  obtain ⟨q47, hq48, S⟩ := pFld (P := Try.prog) (r := r_api_Row) (s2 := rB) (g := (·.Back)) (q := q45) (z := x29) 72 0 0 0 S rfl rfl comp_api_Row_Back
  refine sFldV (q := q45) S (wN rfl) rfl rfl hq48 rfl (lb rfl) fun a S => ?_
  obtain ⟨u49, S⟩ := pLoad (r := rB) (q := q47) (x := x29.Back) 0 S rfl
  obtain rfl : u49 = .bool x29.Back := S.mem.know (i := 1) (e := fRep rB (u49) x29.Back) rfl
  refine sLoadV1 (vq := q47) 0 (.bool x29.Back) S (wN rfl) rfl rfl rfl rfl rfl (lb rfl) fun a S => ?_
  obtain ⟨r50, hx51, h⟩ := bindSome h
  have S1 := S.mem
  refine sCallQ (X := Unit) (f := 69) (vs := [.bool x29.Back]) (val := fun _ => .string r50) S (wN rfl) rfl callee69 rfl (S1.quiet [] rfl) (fun E1 w1 S1 => c_raddleref26_side E1 w1 x29.Back r50 hx51 S1) rfl (lb rfl) fun _ a w S => ?_
  obtain ⟨z52, hx53, h⟩ := bindSome h
  refine sBin (.string z52) S (wN rfl) rfl rfl rfl (bAddS _ _ _ _ (x := s18) (y := r50) hx53) rfl (lb rfl) fun a S => ?_
  refine sMove (.string z52) S (wN rfl) (.inr rfl) rfl rfl (lb rfl) fun a S => ?_
  refine leafL (leafT (hK44 _ _ ?_))
  obtain ⟨t55, h, g56⟩ := bindSome h
  refine sCut (fun a w => ∃ o54, o54 = t55 ∧ St [] E [] w0 47 a w [(1, .pointer (some ⟨b6, 0, none⟩)), (4, .string o54), (5, iv s19)] [eBox b6 41 [iv p0.Start, .slice ad3 p0.Rows.length cp4]] [fRep (rL r_api_Row) (.slice ad3 p0.Rows.length cp4) p0.Rows]) ?_ (fun a w hI => ?_)
  rotate_left
  · obtain ⟨o54, rfl, S⟩ := hI
    have h := g56
    clear g56
    try dsimp only at h
    refine sRegion ?_
    refine sMove (.string o54) S (wN rfl) (.inl rfl) rfl rfl (lb rfl) fun a S => ?_
    obtain ⟨z63, hx64, h⟩ := bindSome h
    refine sBin (.string z63) S (wN rfl) rfl rfl rfl (bAddS _ _ _ _ (x := o54) (y := (⟨#[10]⟩ : ByteArray)) hx64) rfl (lb rfl) fun a S => ?_
    refine sMove (.string z63) S (wN rfl) (.inr rfl) rfl rfl (lb rfl) fun a S => ?_
    refine leafL (leafB (leafT (hK27 _ _ ?_)))
    refine sRegion ?_
    refine sMove (iv s19) S (wN rfl) (.inl rfl) rfl rfl (lb rfl) fun a S => ?_
    refine sBin (iv (w64 (s19 + 1))) S (wN rfl) rfl rfl rfl (bAdd _ _ _ _ s19 1) rfl (lb rfl) fun a S => ?_
    refine sMove (iv (w64 (s19 + 1))) S (wN rfl) (.inr rfl) rfl rfl (lb rfl) fun a S => ?_
    exact leafL (leafT (⟨(z63, w64 (s19 + 1)), (Option.some.inj h).symm, (S.fix [0] [0] (by decide) rfl rfl rfl)⟩))
  refine sSeq (fun K57 hK57 => ?_)
  refine sRegion ?_
  refine sMove (.string r38) S (wN rfl) (.inl rfl) rfl rfl (lb rfl) fun a S => ?_
  refine sBin (.bool (r38 != (⟨#[]⟩ : ByteArray))) S (wN rfl) rfl rfl rfl (bNeS _ _ _ _ r38 (⟨#[]⟩ : ByteArray)) rfl (lb rfl) fun a S => ?_
  refine leafL (leafT (hK57 _ _ ?_))
  rcases iteSome h with ⟨hc58, h⟩ | ⟨hc58, h⟩
  rotate_left
  · refine sCondF S rfl hc58 ?_
    exact wp_skip (leafT (⟨z52, Option.some.inj h, S.fix [0] [8] (by decide) rfl rfl rfl⟩))
  refine sCondT S rfl hc58 ?_
  refine sRegion ?_
  refine sMove (.string z52) S (wN rfl) (.inl rfl) rfl rfl (lb rfl) fun a S => ?_
  obtain ⟨z59, hx60, h⟩ := bindSome h
  refine sBin (.string z59) S (wN rfl) rfl rfl rfl (bAddS _ _ _ _ (x := z52) (y := (⟨#[32]⟩ : ByteArray)) hx60) rfl (lb rfl) fun a S => ?_
  refine sMove (.string r38) S (wN rfl) (.inl rfl) rfl rfl (lb rfl) fun a S => ?_
  obtain ⟨z61, hx62, h⟩ := bindSome h
  refine sBin (.string z61) S (wN rfl) rfl rfl rfl (bAddS _ _ _ _ (x := z59) (y := r38) hx62) rfl (lb rfl) fun a S => ?_
  refine sMove (.string z61) S (wN rfl) (.inr rfl) rfl rfl (lb rfl) fun a S => ?_
  exact leafL (leafT (⟨z61, Option.some.inj h, S.fix [0] [8] (by decide) rfl rfl rfl⟩))

end Go.Proofs.Ytdbgkakmhlmpbaa
namespace Go.Proofs.Ytdbgkakmhlmpbaa
open Go.RowKit
set_option linter.unusedVariables false

noncomputable def raddleref26_Parse_l1 (r8 : (List ByteArray)) (s54 : Int) : Int → Option (Int ⊕ Int) := fun s0 => match s0 with
  | s76 =>
    Option.bind (α := Bool) (
      Option.bind (idxO r8 s54) fun x85 =>
      if decide (s76 < (x85.size : Int)) then
        Option.bind (idxS x85 s76) fun x94 =>
        some (x94 != 32)
      else
        some false) fun o82 =>
    if o82 then
      some (.inl (w64 (s76 + 1)))
    else
      some (.inr s76)
noncomputable def raddleref26_Parse_l2 (r8 : (List ByteArray)) : (Int × List api_Row) → Option ((Int × List api_Row) ⊕ ((api_Chart × Int) ⊕ (List api_Row))) := fun s0 => match s0 with
  | (s54, s55) =>
    if decide ((w64 (s54 + 1)) < (r8.length : Int)) then
      Option.bind (α := List api_Row ⊕ (api_Chart × Int)) (
        Option.bind (α := Int) (
          Option.bind (whileO (raddleref26_Parse_l1 r8 s54) 0) fun e80 =>
            some e80) fun o73 =>
        Option.bind (α := Bool) (
          Option.bind (idxO r8 s54) fun x101 =>
          Option.bind (sliceS x101 0 o73) fun y106 =>
          if y106 != (⟨#[102, 114, 111, 110, 116]⟩ : ByteArray) then
            some (y106 != (⟨#[98, 97, 99, 107]⟩ : ByteArray))
          else
            some false) fun o98 =>
        if o98 then
          some (.inr ((api_Chart.mk 0 ([] : (List api_Row))), 12))
        else
          Option.bind (idxO r8 s54) fun x115 =>
          Option.bind (sliceS x115 0 o73) fun y120 =>
          Option.bind (α := List api_Stitch ⊕ (api_Chart × Int)) (
            if decide (o73 < (x115.size : Int)) then
              Option.bind (sliceS x115 (w64 (o73 + 1)) (x115.size : Int)) fun y137 =>
              Option.bind (F_raddleref25_Parse y137) fun r139 =>
              if r139.2 != 0 then
                some (.inr ((api_Chart.mk 0 ([] : (List api_Row))), 12))
              else
                some (.inl r139.1)
            else
              some (.inl ([] : List api_Stitch))) fun z0 => match z0 with
            | .inl o123 =>
              Option.bind (appO s55 [(api_Row.mk (y120 == (⟨#[98, 97, 99, 107]⟩ : ByteArray)) o123)]) fun l150 =>
              some (.inl l150)
            | .inr z =>
              some (.inr z)) fun z0 => match z0 with
        | .inl o67 =>
          some (.inl (w64 (s54 + 1), o67))
        | .inr z =>
          some (.inr (.inl z))
    else
      some (.inr (.inr s55))
noncomputable def F_raddleref26_Parse (p0 : ByteArray) : Option (api_Chart × Int) :=
  if decide (20000 < (p0.size : Int)) then
    some ((api_Chart.mk 0 ([] : (List api_Row))), 12)
  else
    Option.bind (F_raddleref25_Cut p0 10) fun r8 =>
    Option.bind (α := Bool) (
      if decide ((r8.length : Int) < 2) then
        some true
      else
        if decide (100 < (w64 ((r8.length : Int) - 2))) then
          some true
        else
          Option.bind (idxO r8 0) fun x19 =>
          if decide ((x19.size : Int) < 7) then
            some true
          else
            Option.bind (sliceS x19 0 6) fun y28 =>
            some (y28 != (⟨#[115, 116, 97, 114, 116, 32]⟩ : ByteArray))) fun o14 =>
    if o14 then
      some ((api_Chart.mk 0 ([] : (List api_Row))), 12)
    else
      Option.bind (idxO r8 0) fun x33 =>
      Option.bind (sliceS x33 6 (x33.size : Int)) fun y38 =>
      Option.bind (F_raddleref25_Number y38) fun r40 =>
      if !r40.2 then
        some ((api_Chart.mk 0 ([] : (List api_Row))), 12)
      else
        Option.bind (α := List api_Row ⊕ (api_Chart × Int)) (
          Option.bind (whileO (raddleref26_Parse_l2 r8) (1, ([] : List api_Row))) fun z0 => match z0 with
            | .inl z =>
              some (.inr z)
            | .inr e61 =>
              some (.inl e61)) fun z0 => match z0 with
          | .inl o48 =>
            Option.bind (F_raddleref26_Check (api_Chart.mk r40.1 o48)) fun r156 =>
            if r156 != 0 then
              some ((api_Chart.mk 0 ([] : (List api_Row))), 12)
            else
              Option.bind (F_raddleref26_Written (api_Chart.mk r40.1 o48)) fun r161 =>
              Option.bind (α := Bool) (
                if !r161.2 then
                  some true
                else
                  some (r161.1 != p0)) fun o164 =>
              if o164 then
                some ((api_Chart.mk 0 ([] : (List api_Row))), 12)
              else
                some ((api_Chart.mk r40.1 o48), 0)
          | .inr z =>
            some z
def c_raddleref26_Parse_val (r : (api_Chart × Int)) (x : Value) : Value := .tuple #[x, .int .i64 r.2]
def c_raddleref26_Parse_D (r : (api_Chart × Int)) (x : Value) : List Fact := [fRep r_api_Chart x r.1]
set_option maxHeartbeats 4000000 in
set_option maxRecDepth 100000 in
theorem c_raddleref26_Parse (E : Nat → Prop) (w0 : World) (p0 : ByteArray) (r : (api_Chart × Int)) (h : F_raddleref26_Parse p0 = some r) (S : St0 E [] w0 w0 [] []) :
    Calls Try.prog 27 #[.string p0] w0 (Ret (X := Value) E [] w0 (c_raddleref26_Parse_val r) (fun _ => []) (c_raddleref26_Parse_D r)) := by
  unfold F_raddleref26_Parse at h
  refine sEnter (args := [.string p0]) 155 Try.func27 rfl rfl (by simp) S (fun a S => ?_)
  refine sSeq (fun K1 hK1 => ?_)
  refine sRegion ?_
  refine sAlloc (.agg #[iv 0, .slice none 0 0]) S (wN rfl) rfl rfl [iv 0, .slice none 0 0] rfl rfl (lb rfl) fun a b2 w S => ?_
  refine sMove (iv 0) S (wN rfl) (.inr rfl) rfl rfl (lb rfl) fun a S => ?_
  refine leafL (leafT (hK1 _ _ ?_))
  refine sSeq (fun K3 hK3 => ?_)
  refine sSeq (fun K4 hK4 => ?_)
  refine sRegion ?_
  refine sMove (.string p0) S (wN rfl) (.inl rfl) rfl rfl (lb rfl) fun a S => ?_
  refine sLenS (v := p0) S (wN rfl) rfl Try.underlying9 rfl rfl (lb rfl) fun a S => ?_
  refine sBin (.bool (decide (20000 < (p0.size : Int)))) S (wN rfl) rfl rfl rfl (bGt _ _ _ _ .i64 (p0.size : Int) 20000) rfl (lb rfl) fun a S => ?_
  refine leafL (leafT (hK4 _ _ ?_))
  rcases iteSome h with ⟨hc5, h⟩ | ⟨hc5, h⟩
  · refine sCondT S rfl hc5 ?_
    refine sSeq (fun K6 hK6 => ?_)
    refine sRegion ?_
    refine sBuild [] [iv 0, .slice none 0 0] S (wN rfl) rfl rfl rfl rfl (lb rfl) fun a S => ?_
    refine sStore (p := b2) (off := 0) (T := 41) (vs := [iv 0, .slice none 0 0]) (v := .agg #[iv 0, .slice none 0 0]) 0 [iv 0, .slice none 0 0] S (wN rfl) rfl rfl rfl rfl rfl rfl rfl (by simp) rfl fun a w S => ?_
    refine sMove (iv 12) S (wN rfl) (.inr rfl) rfl rfl (lb rfl) fun a S => ?_
    refine leafL (leafT (hK6 _ _ ?_))
    obtain rfl := Option.some.inj h
    have S := S.learn (fRep (rL r_api_Row) (.slice none 0 0) ([] : (List api_Row))) (rL_nil _ _ _)
    have S := S.learn (fRep r_api_Chart (.agg #[iv 0, .slice none 0 0]) (api_Chart.mk 0 ([] : (List api_Row)))) ⟨_, rfl, S.mem.know (i := 0) (e := fRep (rL r_api_Row) (.slice none 0 0) ([] : (List api_Row))) rfl⟩
    exact wp_ret (rThen (sRet (.tuple #[.agg #[iv 0, .slice none 0 0], iv 12]) S (rsl2 rfl (rvN (c := 2) (t := 41) (T := 41) (p := b2) 0 [iv 0, .slice none 0 0] S rfl rfl rfl rfl) (rvT (t := 3) (v := iv 12) S rfl)) ⟨(.agg #[iv 0, .slice none 0 0]), rfl, S.mem.sel [] [0] (by decide) rfl rfl⟩))
  refine sCondF S rfl hc5 ?_
  refine wp_skip (leafT (hK3 _ _ ?_))
  refine sSeq (fun K7 hK7 => ?_)
  refine sRegion ?_
  refine sMove (.string p0) S (wN rfl) (.inl rfl) rfl rfl (lb rfl) fun a S => ?_
  obtain ⟨r8, hx9, h⟩ := bindSome h
  refine sCall (X := Value) (f := 46) (vs := [.string p0, .int .u8 10]) (val := c_raddleref25_Cut_val r8) (B' := fun _ => []) (D' := c_raddleref25_Cut_D r8) [] [eBox b2 41 [iv 0, .slice none 0 0]] [] [0] [] S (wN rfl) rfl callee46 rfl (by decide) rfl rfl (fun E1 w1 S1 => c_raddleref25_Cut E1 w1 p0 10 r8 hx9 S1) rfl (lb rfl) fun u10 a w S => ?_
  obtain ⟨ad11, cp12, _, rfl, _⟩ := S.mem.know (i := 0) (e := fRep (rL rS) (u10) r8) rfl
  refine sMove (.slice ad11 r8.length cp12) S (wN rfl) (.inr rfl) rfl rfl (lb rfl) fun a S => ?_
  refine leafL (leafT (hK7 _ _ ?_))
  refine sSeq (fun K13 hK13 => ?_)
  obtain ⟨t15, h, g16⟩ := bindSome h
  refine sCut (fun a w => ∃ o14, o14 = t15 ∧ St [] E [] w0 155 a w [(0, .string p0), (2, .pointer (some ⟨b2, 0, none⟩)), (4, .slice ad11 r8.length cp12), (43, .bool o14)] [eBox b2 41 [iv 0, .slice none 0 0]] [fRep (rL rS) (.slice ad11 r8.length cp12) r8]) ?_ (fun a w hI => ?_)
  · refine sRegion ?_
    refine sMove (.slice ad11 r8.length cp12) S (wN rfl) (.inl rfl) rfl rfl (lb rfl) fun a S => ?_
    refine sLen (ad := ad11) (m := r8.length) (c := cp12) S (wN rfl) rfl Try.underlying94 rfl rfl (lb rfl) fun a S => ?_
    refine sBin (.bool (decide ((r8.length : Int) < 2))) S (wN rfl) rfl rfl rfl (bLt _ _ _ _ .i64 (r8.length : Int) 2) rfl (lb rfl) fun a S => ?_
    refine sMove (.bool (decide ((r8.length : Int) < 2))) S (wN rfl) (.inl rfl) rfl rfl (lb rfl) fun a S => ?_
    rcases iteSome h with ⟨hc17, h⟩ | ⟨hc17, h⟩
    · refine sSkip 3 false 24 25 S rfl rfl rfl hc17 rfl (lb rfl) fun a S => ?_
      refine sSkip 3 false 24 26 S rfl rfl rfl hc17 rfl (lb rfl) fun a S => ?_
      refine sSkip 3 false 24 27 S rfl rfl rfl hc17 rfl (lb rfl) fun a S => ?_
      refine sSkip 3 false 24 28 S rfl rfl rfl hc17 rfl (lb rfl) fun a S => ?_
      refine sPickT (.bool true) S (wN rfl) rfl rfl hc17 rfl rfl (lb rfl) fun a S => ?_
      refine sMove (.bool true) S (wN rfl) (.inl rfl) rfl rfl (lb rfl) fun a S => ?_
      refine sSkip 9 false 30 31 S rfl rfl rfl rfl rfl (lb rfl) fun a S => ?_
      refine sSkip 9 false 30 32 S rfl rfl rfl rfl rfl (lb rfl) fun a S => ?_
      refine sSkip 9 false 30 33 S rfl rfl rfl rfl rfl (lb rfl) fun a S => ?_
      refine sSkip 9 false 30 34 S rfl rfl rfl rfl rfl (lb rfl) fun a S => ?_
      refine sSkip 9 false 30 35 S rfl rfl rfl rfl rfl (lb rfl) fun a S => ?_
      refine sPickT (.bool true) S (wN rfl) rfl rfl rfl rfl rfl (lb rfl) fun a S => ?_
      refine sMove (.bool true) S (wN rfl) (.inl rfl) rfl rfl (lb rfl) fun a S => ?_
      refine sSkip 16 false 37 38 S rfl rfl rfl rfl rfl (lb rfl) fun a S => ?_
      refine sSkip 16 false 37 39 S rfl rfl rfl rfl rfl (lb rfl) fun a S => ?_
      refine sSkip 16 false 37 40 S rfl rfl rfl rfl rfl (lb rfl) fun a S => ?_
      refine sSkip 16 false 37 41 S rfl rfl rfl rfl rfl (lb rfl) fun a S => ?_
      refine sSkip 16 false 37 42 S rfl rfl rfl rfl rfl (lb rfl) fun a S => ?_
      refine sPickT (.bool true) S (wN rfl) rfl rfl rfl rfl rfl (lb rfl) fun a S => ?_
      exact leafL (leafT (⟨true, Option.some.inj h, S.fix [0] [0] (by decide) rfl rfl rfl⟩))
    refine sMove (.slice ad11 r8.length cp12) S (wG 3 false 24 rfl rfl rfl hc17) (.inl rfl) rfl rfl (lb rfl) fun a S => ?_
    refine sLen (ad := ad11) (m := r8.length) (c := cp12) S (wG 3 false 24 rfl rfl rfl hc17) rfl Try.underlying94 rfl rfl (lb rfl) fun a S => ?_
    refine sBin (iv (w64 ((r8.length : Int) - 2))) S (wG 3 false 24 rfl rfl rfl hc17) rfl rfl rfl (bSub _ _ _ _ (r8.length : Int) 2) rfl (lb rfl) fun a S => ?_
    refine sBin (.bool (decide (100 < (w64 ((r8.length : Int) - 2))))) S (wG 3 false 24 rfl rfl rfl hc17) rfl rfl rfl (bGt _ _ _ _ .i64 (w64 ((r8.length : Int) - 2)) 100) rfl (lb rfl) fun a S => ?_
    refine sPickF (.bool (decide (100 < (w64 ((r8.length : Int) - 2))))) S (wN rfl) rfl rfl hc17 rfl rfl (lb rfl) fun a S => ?_
    refine sMove (.bool (decide (100 < (w64 ((r8.length : Int) - 2))))) S (wN rfl) (.inl rfl) rfl rfl (lb rfl) fun a S => ?_
    rcases iteSome h with ⟨hc18, h⟩ | ⟨hc18, h⟩
    · refine sSkip 9 false 30 31 S rfl rfl rfl hc18 rfl (lb rfl) fun a S => ?_
      refine sSkip 9 false 30 32 S rfl rfl rfl hc18 rfl (lb rfl) fun a S => ?_
      refine sSkip 9 false 30 33 S rfl rfl rfl hc18 rfl (lb rfl) fun a S => ?_
      refine sSkip 9 false 30 34 S rfl rfl rfl hc18 rfl (lb rfl) fun a S => ?_
      refine sSkip 9 false 30 35 S rfl rfl rfl hc18 rfl (lb rfl) fun a S => ?_
      refine sPickT (.bool true) S (wN rfl) rfl rfl hc18 rfl rfl (lb rfl) fun a S => ?_
      refine sMove (.bool true) S (wN rfl) (.inl rfl) rfl rfl (lb rfl) fun a S => ?_
      refine sSkip 16 false 37 38 S rfl rfl rfl rfl rfl (lb rfl) fun a S => ?_
      refine sSkip 16 false 37 39 S rfl rfl rfl rfl rfl (lb rfl) fun a S => ?_
      refine sSkip 16 false 37 40 S rfl rfl rfl rfl rfl (lb rfl) fun a S => ?_
      refine sSkip 16 false 37 41 S rfl rfl rfl rfl rfl (lb rfl) fun a S => ?_
      refine sSkip 16 false 37 42 S rfl rfl rfl rfl rfl (lb rfl) fun a S => ?_
      refine sPickT (.bool true) S (wN rfl) rfl rfl rfl rfl rfl (lb rfl) fun a S => ?_
      exact leafL (leafT (⟨true, Option.some.inj h, S.fix [0] [0] (by decide) rfl rfl rfl⟩))
    refine sMove (.slice ad11 r8.length cp12) S (wG 9 false 30 rfl rfl rfl hc18) (.inl rfl) rfl rfl (lb rfl) fun a S => ?_
    obtain ⟨x19, hx20, h⟩ := bindSome h
    obtain ⟨q21, hq22, S⟩ := pIdx (P := Try.prog) (r := rS) (v := .slice ad11 r8.length cp12) (xs := r8) (j := 0) 94 9 0 S Try.underlying94 rfl rfl hx20
    refine sIdxV (v := .slice ad11 r8.length cp12) (k := .i64) (j := 0) S (wG 9 false 30 rfl rfl rfl hc18) rfl rfl rfl hq22 rfl (lb rfl) fun a S => ?_
    obtain ⟨u23, S⟩ := pLoad (r := rS) (q := q21) (x := x19) 0 S rfl
    obtain rfl : u23 = .string x19 := S.mem.know (i := 1) (e := fRep rS (u23) x19) rfl
    refine sLoadV1 (vq := q21) 0 (.string x19) S (wG 9 false 30 rfl rfl rfl hc18) rfl rfl rfl rfl rfl (lb rfl) fun a S => ?_
    refine sLenS (v := x19) S (wG 9 false 30 rfl rfl rfl hc18) rfl Try.underlying9 rfl rfl (lb rfl) fun a S => ?_
    refine sBin (.bool (decide ((x19.size : Int) < 7))) S (wG 9 false 30 rfl rfl rfl hc18) rfl rfl rfl (bLt _ _ _ _ .i64 (x19.size : Int) 7) rfl (lb rfl) fun a S => ?_
    refine sPickF (.bool (decide ((x19.size : Int) < 7))) S (wN rfl) rfl rfl hc18 rfl rfl (lb rfl) fun a S => ?_
    refine sMove (.bool (decide ((x19.size : Int) < 7))) S (wN rfl) (.inl rfl) rfl rfl (lb rfl) fun a S => ?_
    rcases iteSome h with ⟨hc24, h⟩ | ⟨hc24, h⟩
    · refine sSkip 16 false 37 38 S rfl rfl rfl hc24 rfl (lb rfl) fun a S => ?_
      refine sSkip 16 false 37 39 S rfl rfl rfl hc24 rfl (lb rfl) fun a S => ?_
      refine sSkip 16 false 37 40 S rfl rfl rfl hc24 rfl (lb rfl) fun a S => ?_
      refine sSkip 16 false 37 41 S rfl rfl rfl hc24 rfl (lb rfl) fun a S => ?_
      refine sSkip 16 false 37 42 S rfl rfl rfl hc24 rfl (lb rfl) fun a S => ?_
      refine sPickT (.bool true) S (wN rfl) rfl rfl hc24 rfl rfl (lb rfl) fun a S => ?_
      exact leafL (leafT (⟨true, Option.some.inj h, S.fix [0] [3] (by decide) rfl rfl rfl⟩))
    refine sMove (.slice ad11 r8.length cp12) S (wG 16 false 37 rfl rfl rfl hc24) (.inl rfl) rfl rfl (lb rfl) fun a S => ?_
    obtain ⟨q25, hq26, S⟩ := pIdx (P := Try.prog) (r := rS) (v := .slice ad11 r8.length cp12) (xs := r8) (j := 0) 94 9 3 S Try.underlying94 rfl rfl hx20
    refine sIdxV (v := .slice ad11 r8.length cp12) (k := .i64) (j := 0) S (wG 16 false 37 rfl rfl rfl hc24) rfl rfl rfl hq26 rfl (lb rfl) fun a S => ?_
    obtain ⟨u27, S⟩ := pLoad (r := rS) (q := q25) (x := x19) 0 S rfl
    obtain rfl : u27 = .string x19 := S.mem.know (i := 1) (e := fRep rS (u27) x19) rfl
    refine sLoadV1 (vq := q25) 0 (.string x19) S (wG 16 false 37 rfl rfl rfl hc24) rfl rfl rfl rfl rfl (lb rfl) fun a S => ?_
    obtain ⟨y28, hx29, h⟩ := bindSome h
    refine sSliceS (v := x19) (u := y28) (vlo := none) (vhi := (some (.int .i64 6))) (lo' := 0) (hi' := 6) S (wG 16 false 37 rfl rfl rfl hc24) rfl Try.underlying9 rfl rfl rfl (.inr ⟨rfl, rfl⟩) (.inl rfl) hx29 rfl (lb rfl) fun a S => ?_
    refine sBin (.bool (y28 != (⟨#[115, 116, 97, 114, 116, 32]⟩ : ByteArray))) S (wG 16 false 37 rfl rfl rfl hc24) rfl rfl rfl (bNeS _ _ _ _ y28 (⟨#[115, 116, 97, 114, 116, 32]⟩ : ByteArray)) rfl (lb rfl) fun a S => ?_
    refine sPickF (.bool (y28 != (⟨#[115, 116, 97, 114, 116, 32]⟩ : ByteArray))) S (wN rfl) rfl rfl hc24 rfl rfl (lb rfl) fun a S => ?_
    exact leafL (leafT (⟨y28 != (⟨#[115, 116, 97, 114, 116, 32]⟩ : ByteArray), Option.some.inj h, S.fix [0] [6] (by decide) rfl rfl rfl⟩))
  obtain ⟨o14, rfl, S⟩ := hI
  have h := g16
  clear g16
  try dsimp only at h
  rcases iteSome h with ⟨hc30, h⟩ | ⟨hc30, h⟩
  · refine sCondT S rfl hc30 ?_
    refine sSeq (fun K31 hK31 => ?_)
    refine sRegion ?_
    refine sBuild [] [iv 0, .slice none 0 0] S (wN rfl) rfl rfl rfl rfl (lb rfl) fun a S => ?_
    refine sStore (p := b2) (off := 0) (T := 41) (vs := [iv 0, .slice none 0 0]) (v := .agg #[iv 0, .slice none 0 0]) 0 [iv 0, .slice none 0 0] S (wN rfl) rfl rfl rfl rfl rfl rfl rfl (by simp) rfl fun a w S => ?_
    refine sMove (iv 12) S (wN rfl) (.inr rfl) rfl rfl (lb rfl) fun a S => ?_
    refine leafL (leafT (hK31 _ _ ?_))
    obtain rfl := Option.some.inj h
    have S := S.learn (fRep (rL r_api_Row) (.slice none 0 0) ([] : (List api_Row))) (rL_nil _ _ _)
    have S := S.learn (fRep r_api_Chart (.agg #[iv 0, .slice none 0 0]) (api_Chart.mk 0 ([] : (List api_Row)))) ⟨_, rfl, S.mem.know (i := 0) (e := fRep (rL r_api_Row) (.slice none 0 0) ([] : (List api_Row))) rfl⟩
    exact wp_ret (rThen (sRet (.tuple #[.agg #[iv 0, .slice none 0 0], iv 12]) S (rsl2 rfl (rvN (c := 2) (t := 41) (T := 41) (p := b2) 0 [iv 0, .slice none 0 0] S rfl rfl rfl rfl) (rvT (t := 3) (v := iv 12) S rfl)) ⟨(.agg #[iv 0, .slice none 0 0]), rfl, S.mem.sel [] [0] (by decide) rfl rfl⟩))
  refine sCondF S rfl hc30 ?_
  refine wp_skip (leafT (hK13 _ _ ?_))
  refine sSeq (fun K32 hK32 => ?_)
  refine sRegion ?_
  refine sMove (.slice ad11 r8.length cp12) S (wN rfl) (.inl rfl) rfl rfl (lb rfl) fun a S => ?_
  obtain ⟨x33, hx34, h⟩ := bindSome h
  obtain ⟨q35, hq36, S⟩ := pIdx (P := Try.prog) (r := rS) (v := .slice ad11 r8.length cp12) (xs := r8) (j := 0) 94 9 0 S Try.underlying94 rfl rfl hx34
  refine sIdxV (v := .slice ad11 r8.length cp12) (k := .i64) (j := 0) S (wN rfl) rfl rfl rfl hq36 rfl (lb rfl) fun a S => ?_
  obtain ⟨u37, S⟩ := pLoad (r := rS) (q := q35) (x := x33) 0 S rfl
  obtain rfl : u37 = .string x33 := S.mem.know (i := 1) (e := fRep rS (u37) x33) rfl
  refine sLoadV1 (vq := q35) 0 (.string x33) S (wN rfl) rfl rfl rfl rfl rfl (lb rfl) fun a S => ?_
  obtain ⟨y38, hx39, h⟩ := bindSome h
  refine sSliceS (v := x33) (u := y38) (vlo := (some (.int .i64 6))) (vhi := none) (lo' := 6) (hi' := (x33.size : Int)) S (wN rfl) rfl Try.underlying9 rfl rfl rfl (.inl rfl) (.inr ⟨rfl, rfl⟩) hx39 rfl (lb rfl) fun a S => ?_
  obtain ⟨r40, hx41, h⟩ := bindSome h
  have S1 := S.mem
  refine sCallQ (X := Unit) (f := 47) (vs := [.string y38]) (val := fun _ => .tuple #[iv r40.1, .bool r40.2]) S (wN rfl) rfl callee47 rfl (S1.quiet [] rfl) (fun E1 w1 S1 => c_raddleref25_Number E1 w1 y38 r40 hx41 S1) rfl (lb rfl) fun _ a w S => ?_
  refine sMove (.tuple #[iv r40.1, .bool r40.2]) S (wN rfl) (.inl rfl) rfl rfl (lb rfl) fun a S => ?_
  refine sExtract (vs := [iv r40.1, .bool r40.2]) (iv r40.1) S (wN rfl) rfl rfl rfl rfl (lb rfl) fun a S => ?_
  refine sExtract (vs := [iv r40.1, .bool r40.2]) (.bool r40.2) S (wN rfl) rfl rfl rfl rfl (lb rfl) fun a S => ?_
  refine sMove (iv r40.1) S (wN rfl) (.inr rfl) rfl rfl (lb rfl) fun a S => ?_
  refine sMove (.bool r40.2) S (wN rfl) (.inr rfl) rfl rfl (lb rfl) fun a S => ?_
  refine leafL (leafT (hK32 _ _ ?_))
  refine sSeq (fun K42 hK42 => ?_)
  refine sSeq (fun K43 hK43 => ?_)
  refine sRegion ?_
  refine sMove (.bool r40.2) S (wN rfl) (.inl rfl) rfl rfl (lb rfl) fun a S => ?_
  refine sNot (b := r40.2) S (wN rfl) rfl rfl rfl (lb rfl) fun a S => ?_
  refine leafL (leafT (hK43 _ _ ?_))
  rcases iteSome h with ⟨hc44, h⟩ | ⟨hc44, h⟩
  · refine sCondT S rfl hc44 ?_
    refine sSeq (fun K45 hK45 => ?_)
    refine sRegion ?_
    refine sBuild [] [iv 0, .slice none 0 0] S (wN rfl) rfl rfl rfl rfl (lb rfl) fun a S => ?_
    refine sStore (p := b2) (off := 0) (T := 41) (vs := [iv 0, .slice none 0 0]) (v := .agg #[iv 0, .slice none 0 0]) 0 [iv 0, .slice none 0 0] S (wN rfl) rfl rfl rfl rfl rfl rfl rfl (by simp) rfl fun a w S => ?_
    refine sMove (iv 12) S (wN rfl) (.inr rfl) rfl rfl (lb rfl) fun a S => ?_
    refine leafL (leafT (hK45 _ _ ?_))
    obtain rfl := Option.some.inj h
    have S := S.learn (fRep (rL r_api_Row) (.slice none 0 0) ([] : (List api_Row))) (rL_nil _ _ _)
    have S := S.learn (fRep r_api_Chart (.agg #[iv 0, .slice none 0 0]) (api_Chart.mk 0 ([] : (List api_Row)))) ⟨_, rfl, S.mem.know (i := 0) (e := fRep (rL r_api_Row) (.slice none 0 0) ([] : (List api_Row))) rfl⟩
    exact wp_ret (rThen (sRet (.tuple #[.agg #[iv 0, .slice none 0 0], iv 12]) S (rsl2 rfl (rvN (c := 2) (t := 41) (T := 41) (p := b2) 0 [iv 0, .slice none 0 0] S rfl rfl rfl rfl) (rvT (t := 3) (v := iv 12) S rfl)) ⟨(.agg #[iv 0, .slice none 0 0]), rfl, S.mem.sel [] [0] (by decide) rfl rfl⟩))
  refine sCondF S rfl hc44 ?_
  refine wp_skip (leafT (hK42 _ _ ?_))
  refine sSeq (fun K46 hK46 => ?_)
  refine sRegion ?_
  refine sMove (iv r40.1) S (wN rfl) (.inl rfl) rfl rfl (lb rfl) fun a S => ?_
  refine sBuild [(0, iv r40.1)] [iv r40.1, .slice none 0 0] S (wN rfl) rfl rfl rfl rfl (lb rfl) fun a S => ?_
  refine sAlloc (.agg #[iv 0, .slice none 0 0]) S (wN rfl) rfl rfl [iv 0, .slice none 0 0] rfl rfl (lb rfl) fun a b47 w S => ?_
  refine sStore (p := b47) (off := 0) (T := 41) (vs := [iv 0, .slice none 0 0]) (v := .agg #[iv r40.1, .slice none 0 0]) 0 [iv r40.1, .slice none 0 0] S (wN rfl) rfl rfl rfl rfl rfl rfl rfl (by simp) rfl fun a w S => ?_
  refine leafL (leafT (hK46 _ _ ?_))
  obtain ⟨t51, h, g52⟩ := bindSome h
  refine sCut (fun a w => ∃ o48, .inl o48 = t51 ∧ ∃ ad49, ∃ cp50, St [] E [] w0 155 a w [(0, .string p0), (2, .pointer (some ⟨b2, 0, none⟩)), (7, .pointer (some ⟨b47, 0, none⟩))] [eBox b2 41 [iv 0, .slice none 0 0], eBox b47 41 [iv r40.1, .slice ad49 o48.length cp50], eRow r_api_Row 72 (.slice ad49 o48.length cp50) o48] []) ?_ (fun a w hI => ?_)
  rotate_left
  · obtain ⟨o48, rfl, ad49, cp50, S⟩ := hI
    have h := g52
    clear g52
    try dsimp only at h
    refine sSeq (fun K154 hK154 => ?_)
    refine sSeq (fun K155 hK155 => ?_)
    refine sRegion ?_
    refine sLoadN (p := b47) (off := 0) (T := 41) (vs := [iv r40.1, .slice ad49 o48.length cp50]) 1 [iv r40.1, .slice ad49 o48.length cp50] S (wN rfl) rfl rfl rfl rfl rfl rfl rfl (lb rfl) fun a S => ?_
    obtain ⟨r156, hx157, h⟩ := bindSome h
    have S1 := S.mem
    have S1 := S1.shutR (r := r_api_Row) (T := 72) (v := .slice ad49 o48.length cp50) (xs := o48) 2 rfl
    have S1 := S1.learn (fRep r_api_Chart (.agg #[iv r40.1, .slice ad49 o48.length cp50]) (api_Chart.mk r40.1 o48)) ⟨_, rfl, S1.know (i := 0) (e := fRep (rL r_api_Row) (.slice ad49 o48.length cp50) o48) rfl⟩
    refine sCallQ (X := Unit) (f := 30) (vs := [.agg #[iv r40.1, .slice ad49 o48.length cp50]]) (val := fun _ => iv r156) S (wN rfl) rfl callee30 rfl (S1.quiet [0] rfl) (fun E1 w1 S1 => c_raddleref26_Check E1 w1 (api_Chart.mk r40.1 o48) (.agg #[iv r40.1, .slice ad49 o48.length cp50]) r156 hx157 S1) rfl (lb rfl) fun _ a w S => ?_
    refine sBin (.bool (r156 != 0)) S (wN rfl) rfl rfl rfl (bNe _ _ _ _ .i64 r156 0) rfl (lb rfl) fun a S => ?_
    refine leafL (leafT (hK155 _ _ ?_))
    rcases iteSome h with ⟨hc158, h⟩ | ⟨hc158, h⟩
    · refine sCondT S rfl hc158 ?_
      refine sSeq (fun K159 hK159 => ?_)
      refine sRegion ?_
      refine sBuild [] [iv 0, .slice none 0 0] S (wN rfl) rfl rfl rfl rfl (lb rfl) fun a S => ?_
      refine sStore (p := b2) (off := 0) (T := 41) (vs := [iv 0, .slice none 0 0]) (v := .agg #[iv 0, .slice none 0 0]) 0 [iv 0, .slice none 0 0] S (wN rfl) rfl rfl rfl rfl rfl rfl rfl (by simp) rfl fun a w S => ?_
      refine sMove (iv 12) S (wN rfl) (.inr rfl) rfl rfl (lb rfl) fun a S => ?_
      refine leafL (leafT (hK159 _ _ ?_))
      obtain rfl := Option.some.inj h
      have S := S.learn (fRep (rL r_api_Row) (.slice none 0 0) ([] : (List api_Row))) (rL_nil _ _ _)
      have S := S.learn (fRep r_api_Chart (.agg #[iv 0, .slice none 0 0]) (api_Chart.mk 0 ([] : (List api_Row)))) ⟨_, rfl, S.mem.know (i := 0) (e := fRep (rL r_api_Row) (.slice none 0 0) ([] : (List api_Row))) rfl⟩
      exact wp_ret (rThen (sRet (.tuple #[.agg #[iv 0, .slice none 0 0], iv 12]) S (rsl2 rfl (rvN (c := 2) (t := 41) (T := 41) (p := b2) 0 [iv 0, .slice none 0 0] S rfl rfl rfl rfl) (rvT (t := 3) (v := iv 12) S rfl)) ⟨(.agg #[iv 0, .slice none 0 0]), rfl, S.mem.sel [] [0] (by decide) rfl rfl⟩))
    refine sCondF S rfl hc158 ?_
    refine wp_skip (leafT (hK154 _ _ ?_))
    refine sSeq (fun K160 hK160 => ?_)
    refine sRegion ?_
    refine sLoadN (p := b47) (off := 0) (T := 41) (vs := [iv r40.1, .slice ad49 o48.length cp50]) 1 [iv r40.1, .slice ad49 o48.length cp50] S (wN rfl) rfl rfl rfl rfl rfl rfl rfl (lb rfl) fun a S => ?_
    obtain ⟨r161, hx162, h⟩ := bindSome h
    have S1 := S.mem
    have S1 := S1.shutR (r := r_api_Row) (T := 72) (v := .slice ad49 o48.length cp50) (xs := o48) 2 rfl
    have S1 := S1.learn (fRep r_api_Chart (.agg #[iv r40.1, .slice ad49 o48.length cp50]) (api_Chart.mk r40.1 o48)) ⟨_, rfl, S1.know (i := 0) (e := fRep (rL r_api_Row) (.slice ad49 o48.length cp50) o48) rfl⟩
    refine sCallQ (X := Unit) (f := 49) (vs := [.agg #[iv r40.1, .slice ad49 o48.length cp50]]) (val := fun _ => .tuple #[.string r161.1, .bool r161.2]) S (wN rfl) rfl callee49 rfl (S1.quiet [0] rfl) (fun E1 w1 S1 => c_raddleref26_Written E1 w1 (api_Chart.mk r40.1 o48) (.agg #[iv r40.1, .slice ad49 o48.length cp50]) r161 hx162 S1) rfl (lb rfl) fun _ a w S => ?_
    refine sMove (.tuple #[.string r161.1, .bool r161.2]) S (wN rfl) (.inl rfl) rfl rfl (lb rfl) fun a S => ?_
    refine sExtract (vs := [.string r161.1, .bool r161.2]) (.string r161.1) S (wN rfl) rfl rfl rfl rfl (lb rfl) fun a S => ?_
    refine sExtract (vs := [.string r161.1, .bool r161.2]) (.bool r161.2) S (wN rfl) rfl rfl rfl rfl (lb rfl) fun a S => ?_
    refine sMove (.string r161.1) S (wN rfl) (.inr rfl) rfl rfl (lb rfl) fun a S => ?_
    refine sMove (.bool r161.2) S (wN rfl) (.inr rfl) rfl rfl (lb rfl) fun a S => ?_
    refine leafL (leafT (hK160 _ _ ?_))
    refine sSeq (fun K163 hK163 => ?_)
    obtain ⟨t165, h, g166⟩ := bindSome h
    refine sCut (fun a w => ∃ o164, o164 = t165 ∧ St [] E [] w0 155 a w [(2, .pointer (some ⟨b2, 0, none⟩)), (7, .pointer (some ⟨b47, 0, none⟩)), (152, .bool o164)] [eBox b2 41 [iv 0, .slice none 0 0], eBox b47 41 [iv r40.1, .slice ad49 o48.length cp50], eRow r_api_Row 72 (.slice ad49 o48.length cp50) o48] []) ?_ (fun a w hI => ?_)
    · refine sRegion ?_
      refine sMove (.bool r161.2) S (wN rfl) (.inl rfl) rfl rfl (lb rfl) fun a S => ?_
      refine sNot (b := r161.2) S (wN rfl) rfl rfl rfl (lb rfl) fun a S => ?_
      refine sMove (.bool (!r161.2)) S (wN rfl) (.inl rfl) rfl rfl (lb rfl) fun a S => ?_
      rcases iteSome h with ⟨hc167, h⟩ | ⟨hc167, h⟩
      · refine sSkip 2 false 148 149 S rfl rfl rfl hc167 rfl (lb rfl) fun a S => ?_
        refine sSkip 2 false 148 150 S rfl rfl rfl hc167 rfl (lb rfl) fun a S => ?_
        refine sSkip 2 false 148 151 S rfl rfl rfl hc167 rfl (lb rfl) fun a S => ?_
        refine sPickT (.bool true) S (wN rfl) rfl rfl hc167 rfl rfl (lb rfl) fun a S => ?_
        exact leafL (leafT (⟨true, Option.some.inj h, S.fix [0, 1, 2] [] (by decide) rfl rfl rfl⟩))
      refine sMove (.string r161.1) S (wG 2 false 148 rfl rfl rfl hc167) (.inl rfl) rfl rfl (lb rfl) fun a S => ?_
      refine sMove (.string p0) S (wG 2 false 148 rfl rfl rfl hc167) (.inl rfl) rfl rfl (lb rfl) fun a S => ?_
      refine sBin (.bool (r161.1 != p0)) S (wG 2 false 148 rfl rfl rfl hc167) rfl rfl rfl (bNeS _ _ _ _ r161.1 p0) rfl (lb rfl) fun a S => ?_
      refine sPickF (.bool (r161.1 != p0)) S (wN rfl) rfl rfl hc167 rfl rfl (lb rfl) fun a S => ?_
      exact leafL (leafT (⟨r161.1 != p0, Option.some.inj h, S.fix [0, 1, 2] [] (by decide) rfl rfl rfl⟩))
    obtain ⟨o164, rfl, S⟩ := hI
    have h := g166
    clear g166
    try dsimp only at h
    rcases iteSome h with ⟨hc168, h⟩ | ⟨hc168, h⟩
    · refine sCondT S rfl hc168 ?_
      refine sSeq (fun K169 hK169 => ?_)
      refine sRegion ?_
      refine sBuild [] [iv 0, .slice none 0 0] S (wN rfl) rfl rfl rfl rfl (lb rfl) fun a S => ?_
      refine sStore (p := b2) (off := 0) (T := 41) (vs := [iv 0, .slice none 0 0]) (v := .agg #[iv 0, .slice none 0 0]) 0 [iv 0, .slice none 0 0] S (wN rfl) rfl rfl rfl rfl rfl rfl rfl (by simp) rfl fun a w S => ?_
      refine sMove (iv 12) S (wN rfl) (.inr rfl) rfl rfl (lb rfl) fun a S => ?_
      refine leafL (leafT (hK169 _ _ ?_))
      obtain rfl := Option.some.inj h
      have S := S.learn (fRep (rL r_api_Row) (.slice none 0 0) ([] : (List api_Row))) (rL_nil _ _ _)
      have S := S.learn (fRep r_api_Chart (.agg #[iv 0, .slice none 0 0]) (api_Chart.mk 0 ([] : (List api_Row)))) ⟨_, rfl, S.mem.know (i := 0) (e := fRep (rL r_api_Row) (.slice none 0 0) ([] : (List api_Row))) rfl⟩
      exact wp_ret (rThen (sRet (.tuple #[.agg #[iv 0, .slice none 0 0], iv 12]) S (rsl2 rfl (rvN (c := 2) (t := 41) (T := 41) (p := b2) 0 [iv 0, .slice none 0 0] S rfl rfl rfl rfl) (rvT (t := 3) (v := iv 12) S rfl)) ⟨(.agg #[iv 0, .slice none 0 0]), rfl, S.mem.sel [] [0] (by decide) rfl rfl⟩))
    refine sCondF S rfl hc168 ?_
    refine wp_skip (leafT (hK163 _ _ ?_))
    refine sSeq (fun K170 hK170 => ?_)
    refine sRegion ?_
    refine sLoadN (p := b47) (off := 0) (T := 41) (vs := [iv r40.1, .slice ad49 o48.length cp50]) 1 [iv r40.1, .slice ad49 o48.length cp50] S (wN rfl) rfl rfl rfl rfl rfl rfl rfl (lb rfl) fun a S => ?_
    refine sStore (p := b2) (off := 0) (T := 41) (vs := [iv 0, .slice none 0 0]) (v := .agg #[iv r40.1, .slice ad49 o48.length cp50]) 0 [iv r40.1, .slice ad49 o48.length cp50] S (wN rfl) rfl rfl rfl rfl rfl rfl rfl (by simp) rfl fun a w S => ?_
    refine sMove (iv 0) S (wN rfl) (.inr rfl) rfl rfl (lb rfl) fun a S => ?_
    refine leafL (leafT (hK170 _ _ ?_))
    obtain rfl := Option.some.inj h
    have S := S.shutR (r := r_api_Row) (T := 72) (v := .slice ad49 o48.length cp50) (xs := o48) 2 rfl
    have S := S.learn (fRep r_api_Chart (.agg #[iv r40.1, .slice ad49 o48.length cp50]) (api_Chart.mk r40.1 o48)) ⟨_, rfl, S.mem.know (i := 0) (e := fRep (rL r_api_Row) (.slice ad49 o48.length cp50) o48) rfl⟩
    exact wp_ret (sRet (.tuple #[.agg #[iv r40.1, .slice ad49 o48.length cp50], iv 0]) S (rsl2 rfl (rvN (c := 2) (t := 41) (T := 41) (p := b2) 0 [iv r40.1, .slice ad49 o48.length cp50] S rfl rfl rfl rfl) (rvT (t := 3) (v := iv 0) S rfl)) ⟨(.agg #[iv r40.1, .slice ad49 o48.length cp50]), rfl, S.mem.sel [] [0] (by decide) rfl rfl⟩)
  refine sSeq (fun K53 hK53 => ?_)
  refine sRegion ?_
  refine sMove (iv 1) S (wN rfl) (.inr rfl) rfl rfl (lb rfl) fun a S => ?_
  refine leafL (leafT (hK53 _ _ ?_))
  refine wp_block ?_
  have S := S.nilRow r_api_Row 72 (α := api_Row)
  obtain ⟨t60, hl, g59⟩ := bindSome h
  refine sLoop hl (fun s0 a w => match s0 with | (s54, s55) => ∃ ad56, ∃ cp57, St [] E [] w0 155 a w [(0, .string p0), (2, .pointer (some ⟨b2, 0, none⟩)), (4, .slice ad11 r8.length cp12), (7, .pointer (some ⟨b47, 0, none⟩)), (8, iv s54)] [eBox b2 41 [iv 0, .slice none 0 0], eBox b47 41 [iv r40.1, .slice ad56 s55.length cp57], eRow r_api_Row 72 (.slice ad56 s55.length cp57) s55] [fRep (rL rS) (.slice ad11 r8.length cp12) r8]) ⟨none, 0, S.fix [2, 1, 0] [3] (by decide) rfl rfl rfl⟩ ?_
  clear hl h
  intro s0 a w c0 hI h hu58
  obtain ⟨s54, s55⟩ := s0
  unfold raddleref26_Parse_l2 at h
  dsimp only at h hI
  obtain ⟨ad56, cp57, S⟩ := hI
  refine sSeq (fun K64 hK64 => ?_)
  refine sSeq (fun K65 hK65 => ?_)
  refine sRegion ?_
  refine sMove (iv s54) S (wN rfl) (.inl rfl) rfl rfl (lb rfl) fun a S => ?_
  refine sBin (iv (w64 (s54 + 1))) S (wN rfl) rfl rfl rfl (bAdd _ _ _ _ s54 1) rfl (lb rfl) fun a S => ?_
  refine sMove (.slice ad11 r8.length cp12) S (wN rfl) (.inl rfl) rfl rfl (lb rfl) fun a S => ?_
  refine sLen (ad := ad11) (m := r8.length) (c := cp12) S (wN rfl) rfl Try.underlying94 rfl rfl (lb rfl) fun a S => ?_
  refine sBin (.bool (decide ((w64 (s54 + 1)) < (r8.length : Int)))) S (wN rfl) rfl rfl rfl (bLt _ _ _ _ .i64 (w64 (s54 + 1)) (r8.length : Int)) rfl (lb rfl) fun a S => ?_
  refine leafL (leafT (hK65 _ _ ?_))
  rcases iteSome h with ⟨hc66, h⟩ | ⟨hc66, h⟩
  rotate_left
  · refine sCondF S rfl hc66 ?_
    obtain rfl := Option.some.inj h
    obtain rfl := hu58 _ rfl
    have h := g59
    clear g59
    try dsimp only at h
    exact wp_exit (xThen (xThen (xHit (leafT (⟨s55, Option.some.inj h, ad56, cp57, S.fix [0, 1, 2] [] (by decide) rfl rfl rfl⟩)))))
  refine sCondT S rfl hc66 ?_
  refine wp_skip (leafT (hK64 _ _ ?_))
  obtain ⟨t70, h, g71⟩ := bindSome h
  refine sCut (fun a w => ∃ o67, .inl o67 = t70 ∧ ∃ ad68, ∃ cp69, St [] E [] w0 155 a w [(0, .string p0), (2, .pointer (some ⟨b2, 0, none⟩)), (4, .slice ad11 r8.length cp12), (7, .pointer (some ⟨b47, 0, none⟩)), (8, iv s54)] [eBox b2 41 [iv 0, .slice none 0 0], eBox b47 41 [iv r40.1, .slice ad68 o67.length cp69], eRow r_api_Row 72 (.slice ad68 o67.length cp69) o67] [fRep (rL rS) (.slice ad11 r8.length cp12) r8]) ?_ (fun a w hI => ?_)
  rotate_left
  · obtain ⟨o67, rfl, ad68, cp69, S⟩ := hI
    have h := g71
    clear g71
    try dsimp only at h
    refine sRegion ?_
    refine sMove (iv s54) S (wN rfl) (.inl rfl) rfl rfl (lb rfl) fun a S => ?_
    refine sBin (iv (w64 (s54 + 1))) S (wN rfl) rfl rfl rfl (bAdd _ _ _ _ s54 1) rfl (lb rfl) fun a S => ?_
    refine sMove (iv (w64 (s54 + 1))) S (wN rfl) (.inr rfl) rfl rfl (lb rfl) fun a S => ?_
    exact leafL (leafT (⟨(w64 (s54 + 1), o67), (Option.some.inj h).symm, ⟨ad68, cp69, S.fix [0, 1, 2] [0] (by decide) rfl rfl rfl⟩⟩))
  refine wp_block ?_
  refine sSeq (fun K72 hK72 => ?_)
  refine sRegion ?_
  refine sMove (iv 0) S (wN rfl) (.inr rfl) rfl rfl (lb rfl) fun a S => ?_
  refine leafL (leafT (hK72 _ _ ?_))
  obtain ⟨t74, h, g75⟩ := bindSome h
  refine sCut (fun a w => ∃ o73, o73 = t74 ∧ St [] E [] w0 155 a w [(0, .string p0), (2, .pointer (some ⟨b2, 0, none⟩)), (4, .slice ad11 r8.length cp12), (7, .pointer (some ⟨b47, 0, none⟩)), (8, iv s54), (9, iv o73)] [eBox b2 41 [iv 0, .slice none 0 0], eBox b47 41 [iv r40.1, .slice ad56 s55.length cp57], eRow r_api_Row 72 (.slice ad56 s55.length cp57) s55] [fRep (rL rS) (.slice ad11 r8.length cp12) r8]) ?_ (fun a w hI => ?_)
  · refine wp_block ?_
    obtain ⟨t79, hl, g78⟩ := bindSome h
    refine sLoop hl (fun s0 a w => match s0 with | s76 => St [] E [] w0 155 a w [(0, .string p0), (2, .pointer (some ⟨b2, 0, none⟩)), (4, .slice ad11 r8.length cp12), (7, .pointer (some ⟨b47, 0, none⟩)), (8, iv s54), (9, iv s76)] [eBox b2 41 [iv 0, .slice none 0 0], eBox b47 41 [iv r40.1, .slice ad56 s55.length cp57], eRow r_api_Row 72 (.slice ad56 s55.length cp57) s55] [fRep (rL rS) (.slice ad11 r8.length cp12) r8]) (S.fix [0, 1, 2] [0] (by decide) rfl rfl rfl) ?_
    clear hl h
    intro s76 a w c0 hI h hu77
    unfold raddleref26_Parse_l1 at h
    dsimp only at h hI
    have S := hI
    refine sSeq (fun K81 hK81 => ?_)
    obtain ⟨t83, h, g84⟩ := bindSome h
    refine sCut (fun a w => ∃ o82, o82 = t83 ∧ St [] E [] w0 155 a w [(0, .string p0), (2, .pointer (some ⟨b2, 0, none⟩)), (4, .slice ad11 r8.length cp12), (7, .pointer (some ⟨b47, 0, none⟩)), (8, iv s54), (9, iv s76), (80, .bool o82)] [eBox b2 41 [iv 0, .slice none 0 0], eBox b47 41 [iv r40.1, .slice ad56 s55.length cp57], eRow r_api_Row 72 (.slice ad56 s55.length cp57) s55] [fRep (rL rS) (.slice ad11 r8.length cp12) r8]) ?_ (fun a w hI => ?_)
    rotate_left
    · obtain ⟨o82, rfl, S⟩ := hI
      have h := g84
      clear g84
      try dsimp only at h
      rcases iteSome h with ⟨hc96, h⟩ | ⟨hc96, h⟩
      rotate_left
      · refine sCondF S rfl hc96 ?_
        obtain rfl := Option.some.inj h
        obtain rfl := hu77 _ rfl
        have h := g78
        clear g78
        try dsimp only at h
        exact wp_exit (xThen (xThen (xHit (leafT (⟨s76, Option.some.inj h, S.fix [0, 1, 2] [0] (by decide) rfl rfl rfl⟩)))))
      refine sCondT S rfl hc96 ?_
      refine wp_skip (leafT (hK81 _ _ ?_))
      refine wp_block ?_
      refine sRegion ?_
      refine sMove (iv s76) S (wN rfl) (.inl rfl) rfl rfl (lb rfl) fun a S => ?_
      refine sBin (iv (w64 (s76 + 1))) S (wN rfl) rfl rfl rfl (bAdd _ _ _ _ s76 1) rfl (lb rfl) fun a S => ?_
      refine sMove (iv (w64 (s76 + 1))) S (wN rfl) (.inr rfl) rfl rfl (lb rfl) fun a S => ?_
      exact leafL (leafB (leafT (⟨w64 (s76 + 1), (Option.some.inj h).symm, (S.fix [0, 1, 2] [0] (by decide) rfl rfl rfl)⟩)))
    refine sRegion ?_
    refine sMove (iv s76) S (wN rfl) (.inl rfl) rfl rfl (lb rfl) fun a S => ?_
    refine sMove (.slice ad11 r8.length cp12) S (wN rfl) (.inl rfl) rfl rfl (lb rfl) fun a S => ?_
    refine sMove (iv s54) S (wN rfl) (.inl rfl) rfl rfl (lb rfl) fun a S => ?_
    obtain ⟨x85, hx86, h⟩ := bindSome h
    obtain ⟨q87, hq88, S⟩ := pIdx (P := Try.prog) (r := rS) (v := .slice ad11 r8.length cp12) (xs := r8) (j := s54) 94 9 0 S Try.underlying94 rfl rfl hx86
    refine sIdxV (v := .slice ad11 r8.length cp12) (k := .i64) (j := s54) S (wN rfl) rfl rfl rfl hq88 rfl (lb rfl) fun a S => ?_
    obtain ⟨u89, S⟩ := pLoad (r := rS) (q := q87) (x := x85) 0 S rfl
    obtain rfl : u89 = .string x85 := S.mem.know (i := 1) (e := fRep rS (u89) x85) rfl
    refine sLoadV1 (vq := q87) 0 (.string x85) S (wN rfl) rfl rfl rfl rfl rfl (lb rfl) fun a S => ?_
    refine sLenS (v := x85) S (wN rfl) rfl Try.underlying9 rfl rfl (lb rfl) fun a S => ?_
    refine sBin (.bool (decide (s76 < (x85.size : Int)))) S (wN rfl) rfl rfl rfl (bLt _ _ _ _ .i64 s76 (x85.size : Int)) rfl (lb rfl) fun a S => ?_
    refine sMove (.bool (decide (s76 < (x85.size : Int)))) S (wN rfl) (.inl rfl) rfl rfl (lb rfl) fun a S => ?_
    rcases iteSome h with ⟨hc90, h⟩ | ⟨hc90, h⟩
    rotate_left
    · refine sSkip 7 true 72 73 S rfl rfl rfl hc90 rfl (lb rfl) fun a S => ?_
      refine sSkip 7 true 72 74 S rfl rfl rfl hc90 rfl (lb rfl) fun a S => ?_
      refine sSkip 7 true 72 75 S rfl rfl rfl hc90 rfl (lb rfl) fun a S => ?_
      refine sSkip 7 true 72 76 S rfl rfl rfl hc90 rfl (lb rfl) fun a S => ?_
      refine sSkip 7 true 72 77 S rfl rfl rfl hc90 rfl (lb rfl) fun a S => ?_
      refine sSkip 7 true 72 78 S rfl rfl rfl hc90 rfl (lb rfl) fun a S => ?_
      refine sSkip 7 true 72 79 S rfl rfl rfl hc90 rfl (lb rfl) fun a S => ?_
      refine sPickF (.bool false) S (wN rfl) rfl rfl hc90 rfl rfl (lb rfl) fun a S => ?_
      exact leafL (leafT (⟨false, Option.some.inj h, S.fix [0, 1, 2] [3] (by decide) rfl rfl rfl⟩))
    refine sMove (.slice ad11 r8.length cp12) S (wG 7 true 72 rfl rfl rfl hc90) (.inl rfl) rfl rfl (lb rfl) fun a S => ?_
    refine sMove (iv s54) S (wG 7 true 72 rfl rfl rfl hc90) (.inl rfl) rfl rfl (lb rfl) fun a S => ?_
    obtain ⟨q91, hq92, S⟩ := pIdx (P := Try.prog) (r := rS) (v := .slice ad11 r8.length cp12) (xs := r8) (j := s54) 94 9 3 S Try.underlying94 rfl rfl hx86
    refine sIdxV (v := .slice ad11 r8.length cp12) (k := .i64) (j := s54) S (wG 7 true 72 rfl rfl rfl hc90) rfl rfl rfl hq92 rfl (lb rfl) fun a S => ?_
    obtain ⟨u93, S⟩ := pLoad (r := rS) (q := q91) (x := x85) 0 S rfl
    obtain rfl : u93 = .string x85 := S.mem.know (i := 1) (e := fRep rS (u93) x85) rfl
    refine sLoadV1 (vq := q91) 0 (.string x85) S (wG 7 true 72 rfl rfl rfl hc90) rfl rfl rfl rfl rfl (lb rfl) fun a S => ?_
    refine sMove (iv s76) S (wG 7 true 72 rfl rfl rfl hc90) (.inl rfl) rfl rfl (lb rfl) fun a S => ?_
    obtain ⟨x94, hx95, h⟩ := bindSome h
    refine sIndexS (v := x85) (j := s76) (k := .i64) S (wG 7 true 72 rfl rfl rfl hc90) rfl Try.underlying9 rfl rfl hx95 rfl (lb rfl) fun a S => ?_
    refine sBin (.bool (x94 != 32)) S (wG 7 true 72 rfl rfl rfl hc90) rfl rfl rfl (bNe _ _ _ _ .u8 x94 32) rfl (lb rfl) fun a S => ?_
    refine sPickT (.bool (x94 != 32)) S (wN rfl) rfl rfl hc90 rfl rfl (lb rfl) fun a S => ?_
    exact leafL (leafT (⟨x94 != 32, Option.some.inj h, S.fix [0, 1, 2] [6] (by decide) rfl rfl rfl⟩))
  obtain ⟨o73, rfl, S⟩ := hI
  have h := g75
  clear g75
  try dsimp only at h
  refine sSeq (fun K97 hK97 => ?_)
  obtain ⟨t99, h, g100⟩ := bindSome h
  refine sCut (fun a w => ∃ o98, o98 = t99 ∧ St [] E [] w0 155 a w [(0, .string p0), (2, .pointer (some ⟨b2, 0, none⟩)), (4, .slice ad11 r8.length cp12), (7, .pointer (some ⟨b47, 0, none⟩)), (8, iv s54), (9, iv o73), (98, .bool o98)] [eBox b2 41 [iv 0, .slice none 0 0], eBox b47 41 [iv r40.1, .slice ad56 s55.length cp57], eRow r_api_Row 72 (.slice ad56 s55.length cp57) s55] [fRep (rL rS) (.slice ad11 r8.length cp12) r8]) ?_ (fun a w hI => ?_)
  · refine sRegion ?_
    refine sMove (.slice ad11 r8.length cp12) S (wN rfl) (.inl rfl) rfl rfl (lb rfl) fun a S => ?_
    refine sMove (iv s54) S (wN rfl) (.inl rfl) rfl rfl (lb rfl) fun a S => ?_
    obtain ⟨x101, hx102, h⟩ := bindSome h
    obtain ⟨q103, hq104, S⟩ := pIdx (P := Try.prog) (r := rS) (v := .slice ad11 r8.length cp12) (xs := r8) (j := s54) 94 9 0 S Try.underlying94 rfl rfl hx102
    refine sIdxV (v := .slice ad11 r8.length cp12) (k := .i64) (j := s54) S (wN rfl) rfl rfl rfl hq104 rfl (lb rfl) fun a S => ?_
    obtain ⟨u105, S⟩ := pLoad (r := rS) (q := q103) (x := x101) 0 S rfl
    obtain rfl : u105 = .string x101 := S.mem.know (i := 1) (e := fRep rS (u105) x101) rfl
    refine sLoadV1 (vq := q103) 0 (.string x101) S (wN rfl) rfl rfl rfl rfl rfl (lb rfl) fun a S => ?_
    refine sMove (iv o73) S (wN rfl) (.inl rfl) rfl rfl (lb rfl) fun a S => ?_
    obtain ⟨y106, hx107, h⟩ := bindSome h
    refine sSliceS (v := x101) (u := y106) (vlo := none) (vhi := (some (.int .i64 o73))) (lo' := 0) (hi' := o73) S (wN rfl) rfl Try.underlying9 rfl rfl rfl (.inr ⟨rfl, rfl⟩) (.inl rfl) hx107 rfl (lb rfl) fun a S => ?_
    refine sBin (.bool (y106 != (⟨#[102, 114, 111, 110, 116]⟩ : ByteArray))) S (wN rfl) rfl rfl rfl (bNeS _ _ _ _ y106 (⟨#[102, 114, 111, 110, 116]⟩ : ByteArray)) rfl (lb rfl) fun a S => ?_
    refine sMove (.bool (y106 != (⟨#[102, 114, 111, 110, 116]⟩ : ByteArray))) S (wN rfl) (.inl rfl) rfl rfl (lb rfl) fun a S => ?_
    rcases iteSome h with ⟨hc108, h⟩ | ⟨hc108, h⟩
    rotate_left
    · refine sSkip 7 true 90 91 S rfl rfl rfl hc108 rfl (lb rfl) fun a S => ?_
      refine sSkip 7 true 90 92 S rfl rfl rfl hc108 rfl (lb rfl) fun a S => ?_
      refine sSkip 7 true 90 93 S rfl rfl rfl hc108 rfl (lb rfl) fun a S => ?_
      refine sSkip 7 true 90 94 S rfl rfl rfl hc108 rfl (lb rfl) fun a S => ?_
      refine sSkip 7 true 90 95 S rfl rfl rfl hc108 rfl (lb rfl) fun a S => ?_
      refine sSkip 7 true 90 96 S rfl rfl rfl hc108 rfl (lb rfl) fun a S => ?_
      refine sSkip 7 true 90 97 S rfl rfl rfl hc108 rfl (lb rfl) fun a S => ?_
      refine sPickF (.bool false) S (wN rfl) rfl rfl hc108 rfl rfl (lb rfl) fun a S => ?_
      exact leafL (leafT (⟨false, Option.some.inj h, S.fix [0, 1, 2] [3] (by decide) rfl rfl rfl⟩))
    refine sMove (.slice ad11 r8.length cp12) S (wG 7 true 90 rfl rfl rfl hc108) (.inl rfl) rfl rfl (lb rfl) fun a S => ?_
    refine sMove (iv s54) S (wG 7 true 90 rfl rfl rfl hc108) (.inl rfl) rfl rfl (lb rfl) fun a S => ?_
    obtain ⟨q109, hq110, S⟩ := pIdx (P := Try.prog) (r := rS) (v := .slice ad11 r8.length cp12) (xs := r8) (j := s54) 94 9 3 S Try.underlying94 rfl rfl hx102
    refine sIdxV (v := .slice ad11 r8.length cp12) (k := .i64) (j := s54) S (wG 7 true 90 rfl rfl rfl hc108) rfl rfl rfl hq110 rfl (lb rfl) fun a S => ?_
    obtain ⟨u111, S⟩ := pLoad (r := rS) (q := q109) (x := x101) 0 S rfl
    obtain rfl : u111 = .string x101 := S.mem.know (i := 1) (e := fRep rS (u111) x101) rfl
    refine sLoadV1 (vq := q109) 0 (.string x101) S (wG 7 true 90 rfl rfl rfl hc108) rfl rfl rfl rfl rfl (lb rfl) fun a S => ?_
    refine sMove (iv o73) S (wG 7 true 90 rfl rfl rfl hc108) (.inl rfl) rfl rfl (lb rfl) fun a S => ?_
    refine sSliceS (v := x101) (u := y106) (vlo := none) (vhi := (some (.int .i64 o73))) (lo' := 0) (hi' := o73) S (wG 7 true 90 rfl rfl rfl hc108) rfl Try.underlying9 rfl rfl rfl (.inr ⟨rfl, rfl⟩) (.inl rfl) hx107 rfl (lb rfl) fun a S => ?_
    refine sBin (.bool (y106 != (⟨#[98, 97, 99, 107]⟩ : ByteArray))) S (wG 7 true 90 rfl rfl rfl hc108) rfl rfl rfl (bNeS _ _ _ _ y106 (⟨#[98, 97, 99, 107]⟩ : ByteArray)) rfl (lb rfl) fun a S => ?_
    refine sPickT (.bool (y106 != (⟨#[98, 97, 99, 107]⟩ : ByteArray))) S (wN rfl) rfl rfl hc108 rfl rfl (lb rfl) fun a S => ?_
    exact leafL (leafT (⟨y106 != (⟨#[98, 97, 99, 107]⟩ : ByteArray), Option.some.inj h, S.fix [0, 1, 2] [6] (by decide) rfl rfl rfl⟩))
  obtain ⟨o98, rfl, S⟩ := hI
  have h := g100
  clear g100
  try dsimp only at h
  rcases iteSome h with ⟨hc112, h⟩ | ⟨hc112, h⟩
  · refine sCondT S rfl hc112 ?_
    refine sSeq (fun K113 hK113 => ?_)
    refine sRegion ?_
    refine sBuild [] [iv 0, .slice none 0 0] S (wN rfl) rfl rfl rfl rfl (lb rfl) fun a S => ?_
    refine sStore (p := b2) (off := 0) (T := 41) (vs := [iv 0, .slice none 0 0]) (v := .agg #[iv 0, .slice none 0 0]) 0 [iv 0, .slice none 0 0] S (wN rfl) rfl rfl rfl rfl rfl rfl rfl (by simp) rfl fun a w S => ?_
    refine sMove (iv 12) S (wN rfl) (.inr rfl) rfl rfl (lb rfl) fun a S => ?_
    refine leafL (leafT (hK113 _ _ ?_))
    obtain rfl := Option.some.inj h
    have h := g71
    clear g71
    try dsimp only at h
    obtain rfl := Option.some.inj h
    obtain rfl := hu58 _ rfl
    have h := g59
    clear g59
    try dsimp only at h
    obtain rfl := Option.some.inj h
    have h := g52
    clear g52
    try dsimp only at h
    obtain rfl := Option.some.inj h
    have S := S.learn (fRep (rL r_api_Row) (.slice none 0 0) ([] : (List api_Row))) (rL_nil _ _ _)
    have S := S.learn (fRep r_api_Chart (.agg #[iv 0, .slice none 0 0]) (api_Chart.mk 0 ([] : (List api_Row)))) ⟨_, rfl, S.mem.know (i := 0) (e := fRep (rL r_api_Row) (.slice none 0 0) ([] : (List api_Row))) rfl⟩
    exact wp_ret (rThen (rBlock (rThen (rThen (rBlock (rThen (sRet (.tuple #[.agg #[iv 0, .slice none 0 0], iv 12]) S (rsl2 rfl (rvN (c := 2) (t := 41) (T := 41) (p := b2) 0 [iv 0, .slice none 0 0] S rfl rfl rfl rfl) (rvT (t := 3) (v := iv 12) S rfl)) ⟨(.agg #[iv 0, .slice none 0 0]), rfl, S.mem.sel [] [0] (by decide) rfl rfl⟩)))))))
  refine sCondF S rfl hc112 ?_
  refine wp_skip (leafT (hK97 _ _ ?_))
  refine sSeq (fun K114 hK114 => ?_)
  refine sRegion ?_
  refine sMove (.slice ad11 r8.length cp12) S (wN rfl) (.inl rfl) rfl rfl (lb rfl) fun a S => ?_
  refine sMove (iv s54) S (wN rfl) (.inl rfl) rfl rfl (lb rfl) fun a S => ?_
  obtain ⟨x115, hx116, h⟩ := bindSome h
  obtain ⟨q117, hq118, S⟩ := pIdx (P := Try.prog) (r := rS) (v := .slice ad11 r8.length cp12) (xs := r8) (j := s54) 94 9 0 S Try.underlying94 rfl rfl hx116
  refine sIdxV (v := .slice ad11 r8.length cp12) (k := .i64) (j := s54) S (wN rfl) rfl rfl rfl hq118 rfl (lb rfl) fun a S => ?_
  obtain ⟨u119, S⟩ := pLoad (r := rS) (q := q117) (x := x115) 0 S rfl
  obtain rfl : u119 = .string x115 := S.mem.know (i := 1) (e := fRep rS (u119) x115) rfl
  refine sLoadV1 (vq := q117) 0 (.string x115) S (wN rfl) rfl rfl rfl rfl rfl (lb rfl) fun a S => ?_
  refine sMove (iv o73) S (wN rfl) (.inl rfl) rfl rfl (lb rfl) fun a S => ?_
  obtain ⟨y120, hx121, h⟩ := bindSome h
  refine sSliceS (v := x115) (u := y120) (vlo := none) (vhi := (some (.int .i64 o73))) (lo' := 0) (hi' := o73) S (wN rfl) rfl Try.underlying9 rfl rfl rfl (.inr ⟨rfl, rfl⟩) (.inl rfl) hx121 rfl (lb rfl) fun a S => ?_
  refine sBin (.bool (y120 == (⟨#[98, 97, 99, 107]⟩ : ByteArray))) S (wN rfl) rfl rfl rfl (bEqS _ _ _ _ y120 (⟨#[98, 97, 99, 107]⟩ : ByteArray)) rfl (lb rfl) fun a S => ?_
  refine sBuild [(0, .bool (y120 == (⟨#[98, 97, 99, 107]⟩ : ByteArray)))] [.bool (y120 == (⟨#[98, 97, 99, 107]⟩ : ByteArray)), .slice none 0 0] S (wN rfl) rfl rfl rfl rfl (lb rfl) fun a S => ?_
  refine sAlloc (.agg #[.bool false, .slice none 0 0]) S (wN rfl) rfl rfl [.bool false, .slice none 0 0] rfl rfl (lb rfl) fun a b122 w S => ?_
  refine sStore (p := b122) (off := 0) (T := 72) (vs := [.bool false, .slice none 0 0]) (v := .agg #[.bool (y120 == (⟨#[98, 97, 99, 107]⟩ : ByteArray)), .slice none 0 0]) 0 [.bool (y120 == (⟨#[98, 97, 99, 107]⟩ : ByteArray)), .slice none 0 0] S (wN rfl) rfl rfl rfl rfl rfl rfl rfl (by simp) rfl fun a w S => ?_
  refine leafL (leafT (hK114 _ _ ?_))
  obtain ⟨t126, h, g127⟩ := bindSome h
  refine sCut (fun a w => ∃ o123, .inl o123 = t126 ∧ ∃ ad124, ∃ cp125, St [] E [] w0 155 a w [(0, .string p0), (2, .pointer (some ⟨b2, 0, none⟩)), (4, .slice ad11 r8.length cp12), (7, .pointer (some ⟨b47, 0, none⟩)), (8, iv s54), (10, .pointer (some ⟨b122, 0, none⟩))] [eBox b2 41 [iv 0, .slice none 0 0], eBox b47 41 [iv r40.1, .slice ad56 s55.length cp57], eBox b122 72 [.bool (y120 == (⟨#[98, 97, 99, 107]⟩ : ByteArray)), .slice ad124 o123.length cp125], eRow r_api_Row 72 (.slice ad56 s55.length cp57) s55] [fRep (rL rS) (.slice ad11 r8.length cp12) r8, fRep (rL r_api_Stitch) (.slice ad124 o123.length cp125) o123]) ?_ (fun a w hI => ?_)
  rotate_left
  · obtain ⟨o123, rfl, ad124, cp125, S⟩ := hI
    have h := g127
    clear g127
    try dsimp only at h
    refine sRegion ?_
    refine sField (b := b47) (off := 0) 1 1 S (wN rfl) rfl rfl rfl rfl rfl (lb rfl) fun a S => ?_
    refine sLoad1 (p := b47) (off := 1) (T := 41) (vs := [iv r40.1, .slice ad56 s55.length cp57]) 1 (.slice ad56 s55.length cp57) S (wN rfl) rfl rfl rfl rfl rfl rfl (lb rfl) fun a S => ?_
    refine sLoadN (p := b122) (off := 0) (T := 72) (vs := [.bool (y120 == (⟨#[98, 97, 99, 107]⟩ : ByteArray)), .slice ad124 o123.length cp125]) 2 [.bool (y120 == (⟨#[98, 97, 99, 107]⟩ : ByteArray)), .slice ad124 o123.length cp125] S (wN rfl) rfl rfl rfl rfl rfl rfl rfl (lb rfl) fun a S => ?_
    have S := S.learn (fRep r_api_Row (.agg #[.bool (y120 == (⟨#[98, 97, 99, 107]⟩ : ByteArray)), .slice ad124 o123.length cp125]) (api_Row.mk (y120 == (⟨#[98, 97, 99, 107]⟩ : ByteArray)) o123)) ⟨_, rfl, S.mem.know (i := 1) (e := fRep (rL r_api_Stitch) (.slice ad124 o123.length cp125) o123) rfl⟩
    refine sLit (r := r_api_Row) (T := 72) (xs := [(api_Row.mk (y120 == (⟨#[98, 97, 99, 107]⟩ : ByteArray)) o123)]) [(0, .agg #[.bool (y120 == (⟨#[98, 97, 99, 107]⟩ : ByteArray)), .slice ad124 o123.length cp125])] 1 [.agg #[.bool (y120 == (⟨#[98, 97, 99, 107]⟩ : ByteArray)), .slice ad124 o123.length cp125]] [.bool (y120 == (⟨#[98, 97, 99, 107]⟩ : ByteArray)), .slice ad124 o123.length cp125] (.agg #[.bool false, .slice none 0 0]) 32 S (wN rfl) rfl rfl Try.underlying39 rfl (by decide) (by decide) (by kernel_rfl) rfl (fun E1 w1 hE => All.cons (r_api_Row.mono hE (S.mem.know (i := 0) (e := fRep r_api_Row (.agg #[.bool (y120 == (⟨#[98, 97, 99, 107]⟩ : ByteArray)), .slice ad124 o123.length cp125]) (api_Row.mk (y120 == (⟨#[98, 97, 99, 107]⟩ : ByteArray)) o123)) rfl)) (All.nil _ _ _)) rfl rfl (lb rfl) fun a w ad148 cp149 S => ?_
    obtain ⟨l150, hx151, h⟩ := bindSome h
    refine sApp (r := r_api_Row) (T := 72) (xs := s55) (ys := [(api_Row.mk (y120 == (⟨#[98, 97, 99, 107]⟩ : ByteArray)) o123)]) (v := .slice ad56 s55.length cp57) (u := .slice ad148 [(api_Row.mk (y120 == (⟨#[98, 97, 99, 107]⟩ : ByteArray)) o123)].length cp149) 4 (.agg #[.bool false, .slice none 0 0]) 32 S (wN rfl) rfl Try.underlying39 rfl rfl (by decide) rfl rfl rfl (src_R (T := 72) 0 S.mem rfl) hx151 rfl (lb rfl) fun a w ad152 cp153 S => ?_
    refine sField (b := b47) (off := 0) 1 1 S (wN rfl) rfl rfl rfl rfl rfl (lb rfl) fun a S => ?_
    refine sStore (p := b47) (off := 1) (T := 41) (vs := [iv r40.1, .slice ad56 s55.length cp57]) (v := .slice ad152 l150.length cp153) 3 [.slice ad152 l150.length cp153] S (wN rfl) rfl rfl rfl rfl rfl rfl rfl (by simp) rfl fun a w S => ?_
    exact leafL (leafB (leafT (⟨l150, Option.some.inj h, ad152, cp153, S.fix [3, 0, 1] [1] (by decide) rfl rfl rfl⟩)))
  refine sSeq (fun K128 hK128 => ?_)
  refine sRegion ?_
  refine sMove (iv o73) S (wN rfl) (.inl rfl) rfl rfl (lb rfl) fun a S => ?_
  refine sMove (.slice ad11 r8.length cp12) S (wN rfl) (.inl rfl) rfl rfl (lb rfl) fun a S => ?_
  refine sMove (iv s54) S (wN rfl) (.inl rfl) rfl rfl (lb rfl) fun a S => ?_
  obtain ⟨q129, hq130, S⟩ := pIdx (P := Try.prog) (r := rS) (v := .slice ad11 r8.length cp12) (xs := r8) (j := s54) 94 9 3 S Try.underlying94 rfl rfl hx116
  refine sIdxV (v := .slice ad11 r8.length cp12) (k := .i64) (j := s54) S (wN rfl) rfl rfl rfl hq130 rfl (lb rfl) fun a S => ?_
  obtain ⟨u131, S⟩ := pLoad (r := rS) (q := q129) (x := x115) 0 S rfl
  obtain rfl : u131 = .string x115 := S.mem.know (i := 1) (e := fRep rS (u131) x115) rfl
  refine sLoadV1 (vq := q129) 0 (.string x115) S (wN rfl) rfl rfl rfl rfl rfl (lb rfl) fun a S => ?_
  refine sLenS (v := x115) S (wN rfl) rfl Try.underlying9 rfl rfl (lb rfl) fun a S => ?_
  refine sBin (.bool (decide (o73 < (x115.size : Int)))) S (wN rfl) rfl rfl rfl (bLt _ _ _ _ .i64 o73 (x115.size : Int)) rfl (lb rfl) fun a S => ?_
  refine leafL (leafT (hK128 _ _ ?_))
  rcases iteSome h with ⟨hc132, h⟩ | ⟨hc132, h⟩
  rotate_left
  · refine sCondF S rfl hc132 ?_
    have S := S.learn (fRep (rL r_api_Stitch) (.slice none 0 0) ([] : (List api_Stitch))) (rL_nil _ _ _)
    exact wp_skip (leafT (⟨([] : List api_Stitch), Option.some.inj h, none, 0, S.fix [1, 2, 0, 3] [7, 0] (by decide) rfl rfl rfl⟩))
  refine sCondT S rfl hc132 ?_
  refine sSeq (fun K133 hK133 => ?_)
  refine sRegion ?_
  refine sMove (.slice ad11 r8.length cp12) S (wN rfl) (.inl rfl) rfl rfl (lb rfl) fun a S => ?_
  refine sMove (iv s54) S (wN rfl) (.inl rfl) rfl rfl (lb rfl) fun a S => ?_
  obtain ⟨q134, hq135, S⟩ := pIdx (P := Try.prog) (r := rS) (v := .slice ad11 r8.length cp12) (xs := r8) (j := s54) 94 9 6 S Try.underlying94 rfl rfl hx116
  refine sIdxV (v := .slice ad11 r8.length cp12) (k := .i64) (j := s54) S (wN rfl) rfl rfl rfl hq135 rfl (lb rfl) fun a S => ?_
  obtain ⟨u136, S⟩ := pLoad (r := rS) (q := q134) (x := x115) 0 S rfl
  obtain rfl : u136 = .string x115 := S.mem.know (i := 1) (e := fRep rS (u136) x115) rfl
  refine sLoadV1 (vq := q134) 0 (.string x115) S (wN rfl) rfl rfl rfl rfl rfl (lb rfl) fun a S => ?_
  refine sMove (iv o73) S (wN rfl) (.inl rfl) rfl rfl (lb rfl) fun a S => ?_
  refine sBin (iv (w64 (o73 + 1))) S (wN rfl) rfl rfl rfl (bAdd _ _ _ _ o73 1) rfl (lb rfl) fun a S => ?_
  obtain ⟨y137, hx138, h⟩ := bindSome h
  refine sSliceS (v := x115) (u := y137) (vlo := (some (.int .i64 (w64 (o73 + 1))))) (vhi := none) (lo' := w64 (o73 + 1)) (hi' := (x115.size : Int)) S (wN rfl) rfl Try.underlying9 rfl rfl rfl (.inl rfl) (.inr ⟨rfl, rfl⟩) hx138 rfl (lb rfl) fun a S => ?_
  obtain ⟨r139, hx140, h⟩ := bindSome h
  refine sCall (X := Value) (f := 48) (vs := [.string y137]) (val := c_raddleref25_Parse_val r139) (B' := fun _ => []) (D' := c_raddleref25_Parse_D r139) [] [eBox b122 72 [.bool (y120 == (⟨#[98, 97, 99, 107]⟩ : ByteArray)), .slice none 0 0], eBox b2 41 [iv 0, .slice none 0 0], eBox b47 41 [iv r40.1, .slice ad56 s55.length cp57], eRow r_api_Row 72 (.slice ad56 s55.length cp57) s55] [] [0, 1, 2, 3] [] S (wN rfl) rfl callee48 rfl (by decide) rfl rfl (fun E1 w1 S1 => c_raddleref25_Parse E1 w1 y137 r139 hx140 S1) rfl (lb rfl) fun u141 a w S => ?_
  obtain ⟨ad142, cp143, _, rfl, _⟩ := S.mem.know (i := 0) (e := fRep (rL r_api_Stitch) (u141) r139.1) rfl
  refine sMove (.tuple #[.slice ad142 r139.1.length cp143, iv r139.2]) S (wN rfl) (.inl rfl) rfl rfl (lb rfl) fun a S => ?_
  refine sExtract (vs := [.slice ad142 r139.1.length cp143, iv r139.2]) (.slice ad142 r139.1.length cp143) S (wN rfl) rfl rfl rfl rfl (lb rfl) fun a S => ?_
  refine sExtract (vs := [.slice ad142 r139.1.length cp143, iv r139.2]) (iv r139.2) S (wN rfl) rfl rfl rfl rfl (lb rfl) fun a S => ?_
  refine sMove (.slice ad142 r139.1.length cp143) S (wN rfl) (.inr rfl) rfl rfl (lb rfl) fun a S => ?_
  refine sMove (iv r139.2) S (wN rfl) (.inr rfl) rfl rfl (lb rfl) fun a S => ?_
  refine leafL (leafT (hK133 _ _ ?_))
  refine sSeq (fun K144 hK144 => ?_)
  refine sSeq (fun K145 hK145 => ?_)
  refine sRegion ?_
  refine sMove (iv r139.2) S (wN rfl) (.inl rfl) rfl rfl (lb rfl) fun a S => ?_
  refine sBin (.bool (r139.2 != 0)) S (wN rfl) rfl rfl rfl (bNe _ _ _ _ .i64 r139.2 0) rfl (lb rfl) fun a S => ?_
  refine leafL (leafT (hK145 _ _ ?_))
  rcases iteSome h with ⟨hc146, h⟩ | ⟨hc146, h⟩
  rotate_left
  · refine sCondF S rfl hc146 ?_
    refine wp_skip (leafT (hK144 _ _ ?_))
    refine sRegion ?_
    refine sMove (.slice ad142 r139.1.length cp143) S (wN rfl) (.inl rfl) rfl rfl (lb rfl) fun a S => ?_
    refine sField (b := b122) (off := 0) 1 1 S (wN rfl) rfl rfl rfl rfl rfl (lb rfl) fun a S => ?_
    refine sStore (p := b122) (off := 1) (T := 72) (vs := [.bool (y120 == (⟨#[98, 97, 99, 107]⟩ : ByteArray)), .slice none 0 0]) (v := .slice ad142 r139.1.length cp143) 0 [.slice ad142 r139.1.length cp143] S (wN rfl) rfl rfl rfl rfl rfl rfl rfl (by simp) rfl fun a w S => ?_
    exact leafL (leafT (⟨r139.1, Option.some.inj h, ad142, cp143, S.fix [1, 2, 0, 3] [10, 0] (by decide) rfl rfl rfl⟩))
  refine sCondT S rfl hc146 ?_
  refine sSeq (fun K147 hK147 => ?_)
  refine sRegion ?_
  refine sBuild [] [iv 0, .slice none 0 0] S (wN rfl) rfl rfl rfl rfl (lb rfl) fun a S => ?_
  refine sStore (p := b2) (off := 0) (T := 41) (vs := [iv 0, .slice none 0 0]) (v := .agg #[iv 0, .slice none 0 0]) 1 [iv 0, .slice none 0 0] S (wN rfl) rfl rfl rfl rfl rfl rfl rfl (by simp) rfl fun a w S => ?_
  refine sMove (iv 12) S (wN rfl) (.inr rfl) rfl rfl (lb rfl) fun a S => ?_
  refine leafL (leafT (hK147 _ _ ?_))
  obtain rfl := Option.some.inj h
  have h := g127
  clear g127
  try dsimp only at h
  obtain rfl := Option.some.inj h
  have h := g71
  clear g71
  try dsimp only at h
  obtain rfl := Option.some.inj h
  obtain rfl := hu58 _ rfl
  have h := g59
  clear g59
  try dsimp only at h
  obtain rfl := Option.some.inj h
  have h := g52
  clear g52
  try dsimp only at h
  obtain rfl := Option.some.inj h
  have S := S.learn (fRep (rL r_api_Row) (.slice none 0 0) ([] : (List api_Row))) (rL_nil _ _ _)
  have S := S.learn (fRep r_api_Chart (.agg #[iv 0, .slice none 0 0]) (api_Chart.mk 0 ([] : (List api_Row)))) ⟨_, rfl, S.mem.know (i := 0) (e := fRep (rL r_api_Row) (.slice none 0 0) ([] : (List api_Row))) rfl⟩
  exact wp_ret (rThen (rThen (rBlock (rThen (rThen (rBlock (rThen (sRet (.tuple #[.agg #[iv 0, .slice none 0 0], iv 12]) S (rsl2 rfl (rvN (c := 2) (t := 41) (T := 41) (p := b2) 0 [iv 0, .slice none 0 0] S rfl rfl rfl rfl) (rvT (t := 3) (v := iv 12) S rfl)) ⟨(.agg #[iv 0, .slice none 0 0]), rfl, S.mem.sel [] [0] (by decide) rfl rfl⟩))))))))

end Go.Proofs.Ytdbgkakmhlmpbaa
namespace Go.Proofs.Ytdbgkakmhlmpbaa
open Go.RowKit
set_option linter.unusedVariables false

noncomputable def F_raddlelaw45_rates  : Option api_Rates :=
  some (api_Rates.mk (0, 100, 150, 0, 90, 0, 0, 0, 0, 0, 0) (0, 1000, 500, 0, 1500, 0, 0, 0, 0, 0, 0) 2000)
def c_raddlelaw45_rates_val (r : api_Rates) (x : Value) : Value := x
def c_raddlelaw45_rates_D (r : api_Rates) (x : Value) : List Fact := [fRep r_api_Rates x r]
set_option maxHeartbeats 4000000 in
set_option maxRecDepth 100000 in
theorem c_raddlelaw45_rates (E : Nat → Prop) (w0 : World)  (r : api_Rates) (h : F_raddlelaw45_rates  = some r) (S : St0 E [] w0 w0 [] []) :
    Calls Try.prog 28 #[] w0 (Ret (X := Value) E [] w0 (c_raddlelaw45_rates_val r) (fun _ => []) (c_raddlelaw45_rates_D r)) := by
  unfold F_raddlelaw45_rates at h
  refine sEnter (args := []) 16 Try.func28 rfl rfl (by simp) S (fun a S => ?_)
  refine sSeq (fun K1 hK1 => ?_)
  refine sRegion ?_
  refine sAlloc (gv_api_Rates (api_Rates.mk (0, 0, 0, 0, 0, 0, 0, 0, 0, 0, 0) (0, 0, 0, 0, 0, 0, 0, 0, 0, 0, 0) 0)) S (wN rfl) rfl rfl (gl_api_Rates (api_Rates.mk (0, 0, 0, 0, 0, 0, 0, 0, 0, 0, 0) (0, 0, 0, 0, 0, 0, 0, 0, 0, 0, 0) 0)) rfl rfl (lb rfl) fun a b2 w S => ?_
  refine leafL (leafT (hK1 _ _ ?_))
  refine sSeq (fun K3 hK3 => ?_)
  refine sRegion ?_
  refine sBuild [(2, iv 2000)] (gl_api_Rates (api_Rates.mk (0, 0, 0, 0, 0, 0, 0, 0, 0, 0, 0) (0, 0, 0, 0, 0, 0, 0, 0, 0, 0, 0) 2000)) S (wN rfl) rfl rfl rfl rfl (lb rfl) fun a S => ?_
  refine sAlloc (gv_api_Rates (api_Rates.mk (0, 0, 0, 0, 0, 0, 0, 0, 0, 0, 0) (0, 0, 0, 0, 0, 0, 0, 0, 0, 0, 0) 0)) S (wN rfl) rfl rfl (gl_api_Rates (api_Rates.mk (0, 0, 0, 0, 0, 0, 0, 0, 0, 0, 0) (0, 0, 0, 0, 0, 0, 0, 0, 0, 0, 0) 0)) rfl rfl (lb rfl) fun a b4 w S => ?_
  refine sStore (p := b4) (off := 0) (T := 44) (vs := [iv 0, iv 0, iv 0, iv 0, iv 0, iv 0, iv 0, iv 0, iv 0, iv 0, iv 0, iv 0, iv 0, iv 0, iv 0, iv 0, iv 0, iv 0, iv 0, iv 0, iv 0, iv 0, iv 0]) (v := gv_api_Rates (api_Rates.mk (0, 0, 0, 0, 0, 0, 0, 0, 0, 0, 0) (0, 0, 0, 0, 0, 0, 0, 0, 0, 0, 0) 2000)) 0 [iv 0, iv 0, iv 0, iv 0, iv 0, iv 0, iv 0, iv 0, iv 0, iv 0, iv 0, iv 0, iv 0, iv 0, iv 0, iv 0, iv 0, iv 0, iv 0, iv 0, iv 0, iv 0, iv 2000] S (wN rfl) rfl rfl rfl rfl rfl rfl rfl (by simp) rfl fun a w S => ?_
  refine leafL (leafT (hK3 _ _ ?_))
  refine sSeq (fun K5 hK5 => ?_)
  refine sRegion ?_
  refine sField (b := b4) (off := 0) 0 0 S (wN rfl) rfl rfl rfl rfl rfl (lb rfl) fun a S => ?_
  refine sIdxV (v := .pointer (some ⟨b4, 0, none⟩)) (k := .u8) (j := 1) (q := .pointer (some ⟨b4, 1, none⟩)) S (wN rfl) rfl rfl rfl (idxV_arr (m := 11) (sz := 1) Try.underlying42 rfl (by decide) (by decide) 0) rfl (lb rfl) fun a S => ?_
  refine sStore (p := b4) (off := 1) (T := 44) (vs := [iv 0, iv 0, iv 0, iv 0, iv 0, iv 0, iv 0, iv 0, iv 0, iv 0, iv 0, iv 0, iv 0, iv 0, iv 0, iv 0, iv 0, iv 0, iv 0, iv 0, iv 0, iv 0, iv 2000]) (v := iv 100) 0 [iv 100] S (wN rfl) rfl rfl rfl rfl rfl rfl rfl (by simp) rfl fun a w S => ?_
  refine sField (b := b4) (off := 0) 11 11 S (wN rfl) rfl rfl rfl rfl rfl (lb rfl) fun a S => ?_
  refine sIdxV (v := .pointer (some ⟨b4, 11, none⟩)) (k := .u8) (j := 1) (q := .pointer (some ⟨b4, 12, none⟩)) S (wN rfl) rfl rfl rfl (idxV_arr (m := 11) (sz := 1) Try.underlying42 rfl (by decide) (by decide) 11) rfl (lb rfl) fun a S => ?_
  refine sStore (p := b4) (off := 12) (T := 44) (vs := [iv 0, iv 100, iv 0, iv 0, iv 0, iv 0, iv 0, iv 0, iv 0, iv 0, iv 0, iv 0, iv 0, iv 0, iv 0, iv 0, iv 0, iv 0, iv 0, iv 0, iv 0, iv 0, iv 2000]) (v := iv 1000) 0 [iv 1000] S (wN rfl) rfl rfl rfl rfl rfl rfl rfl (by simp) rfl fun a w S => ?_
  refine leafL (leafT (hK5 _ _ ?_))
  refine sSeq (fun K6 hK6 => ?_)
  refine sRegion ?_
  refine sField (b := b4) (off := 0) 0 0 S (wN rfl) rfl rfl rfl rfl rfl (lb rfl) fun a S => ?_
  refine sIdxV (v := .pointer (some ⟨b4, 0, none⟩)) (k := .u8) (j := 2) (q := .pointer (some ⟨b4, 2, none⟩)) S (wN rfl) rfl rfl rfl (idxV_arr (m := 11) (sz := 1) Try.underlying42 rfl (by decide) (by decide) 0) rfl (lb rfl) fun a S => ?_
  refine sStore (p := b4) (off := 2) (T := 44) (vs := [iv 0, iv 100, iv 0, iv 0, iv 0, iv 0, iv 0, iv 0, iv 0, iv 0, iv 0, iv 0, iv 1000, iv 0, iv 0, iv 0, iv 0, iv 0, iv 0, iv 0, iv 0, iv 0, iv 2000]) (v := iv 150) 0 [iv 150] S (wN rfl) rfl rfl rfl rfl rfl rfl rfl (by simp) rfl fun a w S => ?_
  refine sField (b := b4) (off := 0) 11 11 S (wN rfl) rfl rfl rfl rfl rfl (lb rfl) fun a S => ?_
  refine sIdxV (v := .pointer (some ⟨b4, 11, none⟩)) (k := .u8) (j := 2) (q := .pointer (some ⟨b4, 13, none⟩)) S (wN rfl) rfl rfl rfl (idxV_arr (m := 11) (sz := 1) Try.underlying42 rfl (by decide) (by decide) 11) rfl (lb rfl) fun a S => ?_
  refine sStore (p := b4) (off := 13) (T := 44) (vs := [iv 0, iv 100, iv 150, iv 0, iv 0, iv 0, iv 0, iv 0, iv 0, iv 0, iv 0, iv 0, iv 1000, iv 0, iv 0, iv 0, iv 0, iv 0, iv 0, iv 0, iv 0, iv 0, iv 2000]) (v := iv 500) 0 [iv 500] S (wN rfl) rfl rfl rfl rfl rfl rfl rfl (by simp) rfl fun a w S => ?_
  refine leafL (leafT (hK6 _ _ ?_))
  refine sSeq (fun K7 hK7 => ?_)
  refine sRegion ?_
  refine sField (b := b4) (off := 0) 0 0 S (wN rfl) rfl rfl rfl rfl rfl (lb rfl) fun a S => ?_
  refine sIdxV (v := .pointer (some ⟨b4, 0, none⟩)) (k := .u8) (j := 4) (q := .pointer (some ⟨b4, 4, none⟩)) S (wN rfl) rfl rfl rfl (idxV_arr (m := 11) (sz := 1) Try.underlying42 rfl (by decide) (by decide) 0) rfl (lb rfl) fun a S => ?_
  refine sStore (p := b4) (off := 4) (T := 44) (vs := [iv 0, iv 100, iv 150, iv 0, iv 0, iv 0, iv 0, iv 0, iv 0, iv 0, iv 0, iv 0, iv 1000, iv 500, iv 0, iv 0, iv 0, iv 0, iv 0, iv 0, iv 0, iv 0, iv 2000]) (v := iv 90) 0 [iv 90] S (wN rfl) rfl rfl rfl rfl rfl rfl rfl (by simp) rfl fun a w S => ?_
  refine sField (b := b4) (off := 0) 11 11 S (wN rfl) rfl rfl rfl rfl rfl (lb rfl) fun a S => ?_
  refine sIdxV (v := .pointer (some ⟨b4, 11, none⟩)) (k := .u8) (j := 4) (q := .pointer (some ⟨b4, 15, none⟩)) S (wN rfl) rfl rfl rfl (idxV_arr (m := 11) (sz := 1) Try.underlying42 rfl (by decide) (by decide) 11) rfl (lb rfl) fun a S => ?_
  refine sStore (p := b4) (off := 15) (T := 44) (vs := [iv 0, iv 100, iv 150, iv 0, iv 90, iv 0, iv 0, iv 0, iv 0, iv 0, iv 0, iv 0, iv 1000, iv 500, iv 0, iv 0, iv 0, iv 0, iv 0, iv 0, iv 0, iv 0, iv 2000]) (v := iv 1500) 0 [iv 1500] S (wN rfl) rfl rfl rfl rfl rfl rfl rfl (by simp) rfl fun a w S => ?_
  refine leafL (leafT (hK7 _ _ ?_))
  refine sSeq (fun K8 hK8 => ?_)
  refine sRegion ?_
  refine sLoadN (p := b4) (off := 0) (T := 44) (vs := (gl_api_Rates (api_Rates.mk (0, 100, 150, 0, 90, 0, 0, 0, 0, 0, 0) (0, 1000, 500, 0, 1500, 0, 0, 0, 0, 0, 0) 2000))) 0 (gl_api_Rates (api_Rates.mk (0, 100, 150, 0, 90, 0, 0, 0, 0, 0, 0) (0, 1000, 500, 0, 1500, 0, 0, 0, 0, 0, 0) 2000)) S (wN rfl) rfl rfl rfl rfl rfl rfl rfl (lb rfl) fun a S => ?_
  refine sStore (p := b2) (off := 0) (T := 44) (vs := [iv 0, iv 0, iv 0, iv 0, iv 0, iv 0, iv 0, iv 0, iv 0, iv 0, iv 0, iv 0, iv 0, iv 0, iv 0, iv 0, iv 0, iv 0, iv 0, iv 0, iv 0, iv 0, iv 0]) (v := gv_api_Rates (api_Rates.mk (0, 100, 150, 0, 90, 0, 0, 0, 0, 0, 0) (0, 1000, 500, 0, 1500, 0, 0, 0, 0, 0, 0) 2000)) 1 [iv 0, iv 100, iv 150, iv 0, iv 90, iv 0, iv 0, iv 0, iv 0, iv 0, iv 0, iv 0, iv 1000, iv 500, iv 0, iv 1500, iv 0, iv 0, iv 0, iv 0, iv 0, iv 0, iv 2000] S (wN rfl) rfl rfl rfl rfl rfl rfl rfl (by simp) rfl fun a w S => ?_
  refine leafL (leafT (hK8 _ _ ?_))
  obtain rfl := Option.some.inj h
  have S := S.learn (fRep r_api_Rates (gv_api_Rates (api_Rates.mk (0, 100, 150, 0, 90, 0, 0, 0, 0, 0, 0) (0, 1000, 500, 0, 1500, 0, 0, 0, 0, 0, 0) 2000)) (api_Rates.mk (0, 100, 150, 0, 90, 0, 0, 0, 0, 0, 0) (0, 1000, 500, 0, 1500, 0, 0, 0, 0, 0, 0) 2000)) rfl
  exact wp_ret (sRet (gv_api_Rates (api_Rates.mk (0, 100, 150, 0, 90, 0, 0, 0, 0, 0, 0) (0, 1000, 500, 0, 1500, 0, 0, 0, 0, 0, 0) 2000)) S (rsl1 rfl (rvN (c := 0) (t := 44) (T := 44) (p := b2) 0 [iv 0, iv 100, iv 150, iv 0, iv 90, iv 0, iv 0, iv 0, iv 0, iv 0, iv 0, iv 0, iv 1000, iv 500, iv 0, iv 1500, iv 0, iv 0, iv 0, iv 0, iv 0, iv 0, iv 2000] S rfl rfl rfl rfl)) ⟨(gv_api_Rates (api_Rates.mk (0, 100, 150, 0, 90, 0, 0, 0, 0, 0, 0) (0, 1000, 500, 0, 1500, 0, 0, 0, 0, 0, 0) 2000)), rfl, S.mem.sel [] [0] (by decide) rfl rfl⟩)

end Go.Proofs.Ytdbgkakmhlmpbaa
namespace Go.Proofs.Ytdbgkakmhlmpbaa
open Go.RowKit
set_option linter.unusedVariables false

noncomputable def F_raddlelaw45_tex (p0 : Int) : Option api_Count :=
  some (api_Count.mk 1 (api_Ratio.mk p0 1))
def c_raddlelaw45_tex_val (r : api_Count) (x : Value) : Value := x
def c_raddlelaw45_tex_D (r : api_Count) (x : Value) : List Fact := [fRep r_api_Count x r]
set_option maxHeartbeats 4000000 in
set_option maxRecDepth 100000 in
theorem c_raddlelaw45_tex (E : Nat → Prop) (w0 : World) (p0 : Int) (r : api_Count) (h : F_raddlelaw45_tex p0 = some r) (S : St0 E [] w0 w0 [] []) :
    Calls Try.prog 29 #[iv p0] w0 (Ret (X := Value) E [] w0 (c_raddlelaw45_tex_val r) (fun _ => []) (c_raddlelaw45_tex_D r)) := by
  unfold F_raddlelaw45_tex at h
  refine sEnter (args := [iv p0]) 6 Try.func29 rfl rfl (by simp) S (fun a S => ?_)
  refine sSeq (fun K1 hK1 => ?_)
  refine sRegion ?_
  refine sAlloc (.agg #[.int .u8 0, iv 0, iv 0]) S (wN rfl) rfl rfl [.int .u8 0, iv 0, iv 0] rfl rfl (lb rfl) fun a b2 w S => ?_
  refine leafL (leafT (hK1 _ _ ?_))
  refine sSeq (fun K3 hK3 => ?_)
  refine sRegion ?_
  refine sMove (iv p0) S (wN rfl) (.inl rfl) rfl rfl (lb rfl) fun a S => ?_
  refine sBuild [(0, iv p0), (1, iv 1)] [iv p0, iv 1] S (wN rfl) rfl rfl rfl rfl (lb rfl) fun a S => ?_
  refine sBuild [(0, .int .u8 1), (1, .agg #[iv p0, iv 1])] [.int .u8 1, iv p0, iv 1] S (wN rfl) rfl rfl rfl rfl (lb rfl) fun a S => ?_
  refine sStore (p := b2) (off := 0) (T := 27) (vs := [.int .u8 0, iv 0, iv 0]) (v := .agg #[.int .u8 1, iv p0, iv 1]) 0 [.int .u8 1, iv p0, iv 1] S (wN rfl) rfl rfl rfl rfl rfl rfl rfl (by simp) rfl fun a w S => ?_
  refine leafL (leafT (hK3 _ _ ?_))
  obtain rfl := Option.some.inj h
  have S := S.learn (fRep r_api_Count (.agg #[.int .u8 1, iv p0, iv 1]) (api_Count.mk 1 (api_Ratio.mk p0 1))) rfl
  exact wp_ret (sRet (.agg #[.int .u8 1, iv p0, iv 1]) S (rsl1 rfl (rvN (c := 2) (t := 27) (T := 27) (p := b2) 0 [.int .u8 1, iv p0, iv 1] S rfl rfl rfl rfl)) ⟨(.agg #[.int .u8 1, iv p0, iv 1]), rfl, S.mem.sel [] [0] (by decide) rfl rfl⟩)

end Go.Proofs.Ytdbgkakmhlmpbaa
namespace Go.Proofs.Ytdbgkakmhlmpbaa
open Go.RowKit
set_option linter.unusedVariables false

noncomputable def F_raddlelaw45_given  : Option api_Chart :=
  Option.bind (F_raddleref26_Parse (⟨#[115, 116, 97, 114, 116, 32, 51, 10, 102, 114, 111, 110, 116, 32, 107, 32, 121, 111, 32, 107, 108, 50, 10, 98, 97, 99, 107, 32, 112, 51, 10]⟩ : ByteArray)) fun r4 =>
  if r4.2 != 0 then
    some (api_Chart.mk 0 ([] : (List api_Row)))
  else
    some r4.1
def c_raddlelaw45_given_val (r : api_Chart) (x : Value) : Value := x
def c_raddlelaw45_given_D (r : api_Chart) (x : Value) : List Fact := [fRep r_api_Chart x r]
set_option maxHeartbeats 4000000 in
set_option maxRecDepth 100000 in
theorem c_raddlelaw45_given (E : Nat → Prop) (w0 : World)  (r : api_Chart) (h : F_raddlelaw45_given  = some r) (S : St0 E [] w0 w0 [] []) :
    Calls Try.prog 44 #[] w0 (Ret (X := Value) E [] w0 (c_raddlelaw45_given_val r) (fun _ => []) (c_raddlelaw45_given_D r)) := by
  unfold F_raddlelaw45_given at h
  refine sEnter (args := []) 11 Try.func44 rfl rfl (by simp) S (fun a S => ?_)
  refine sSeq (fun K1 hK1 => ?_)
  refine sRegion ?_
  refine sAlloc (.agg #[iv 0, .slice none 0 0]) S (wN rfl) rfl rfl [iv 0, .slice none 0 0] rfl rfl (lb rfl) fun a b2 w S => ?_
  refine leafL (leafT (hK1 _ _ ?_))
  refine sSeq (fun K3 hK3 => ?_)
  refine sRegion ?_
  obtain ⟨r4, hx5, h⟩ := bindSome h
  refine sCall (X := Value) (f := 27) (vs := [.string (⟨#[115, 116, 97, 114, 116, 32, 51, 10, 102, 114, 111, 110, 116, 32, 107, 32, 121, 111, 32, 107, 108, 50, 10, 98, 97, 99, 107, 32, 112, 51, 10]⟩ : ByteArray)]) (val := c_raddleref26_Parse_val r4) (B' := fun _ => []) (D' := c_raddleref26_Parse_D r4) [] [eBox b2 41 [iv 0, .slice none 0 0]] [] [0] [] S (wN rfl) rfl callee27 rfl (by decide) rfl rfl (fun E1 w1 S1 => c_raddleref26_Parse E1 w1 (⟨#[115, 116, 97, 114, 116, 32, 51, 10, 102, 114, 111, 110, 116, 32, 107, 32, 121, 111, 32, 107, 108, 50, 10, 98, 97, 99, 107, 32, 112, 51, 10]⟩ : ByteArray) r4 hx5 S1) rfl (lb rfl) fun u6 a w S => ?_
  obtain ⟨u7, rfl, hu8⟩ := S.mem.know (i := 0) (e := fRep r_api_Chart (u6) r4.1) rfl
  have S := S.learn (fRep (rL r_api_Row) u7 r4.1.Rows) hu8
  obtain ⟨ad9, cp10, _, rfl, _⟩ := hu8
  refine sMove (.tuple #[.agg #[iv r4.1.Start, .slice ad9 r4.1.Rows.length cp10], iv r4.2]) S (wN rfl) (.inl rfl) rfl rfl (lb rfl) fun a S => ?_
  refine sExtract (vs := [.agg #[iv r4.1.Start, .slice ad9 r4.1.Rows.length cp10], iv r4.2]) (.agg #[iv r4.1.Start, .slice ad9 r4.1.Rows.length cp10]) S (wN rfl) rfl rfl rfl rfl (lb rfl) fun a S => ?_
  refine sExtract (vs := [.agg #[iv r4.1.Start, .slice ad9 r4.1.Rows.length cp10], iv r4.2]) (iv r4.2) S (wN rfl) rfl rfl rfl rfl (lb rfl) fun a S => ?_
  refine sAlloc (.agg #[iv 0, .slice none 0 0]) S (wN rfl) rfl rfl [iv 0, .slice none 0 0] rfl rfl (lb rfl) fun a b11 w S => ?_
  refine sStore (p := b11) (off := 0) (T := 41) (vs := [iv 0, .slice none 0 0]) (v := .agg #[iv r4.1.Start, .slice ad9 r4.1.Rows.length cp10]) 0 [iv r4.1.Start, .slice ad9 r4.1.Rows.length cp10] S (wN rfl) rfl rfl rfl rfl rfl rfl rfl (by simp) rfl fun a w S => ?_
  refine sMove (iv r4.2) S (wN rfl) (.inr rfl) rfl rfl (lb rfl) fun a S => ?_
  refine leafL (leafT (hK3 _ _ ?_))
  refine sSeq (fun K12 hK12 => ?_)
  refine sSeq (fun K13 hK13 => ?_)
  refine sRegion ?_
  refine sMove (iv r4.2) S (wN rfl) (.inl rfl) rfl rfl (lb rfl) fun a S => ?_
  refine sBin (.bool (r4.2 != 0)) S (wN rfl) rfl rfl rfl (bNe _ _ _ _ .i64 r4.2 0) rfl (lb rfl) fun a S => ?_
  refine leafL (leafT (hK13 _ _ ?_))
  rcases iteSome h with ⟨hc14, h⟩ | ⟨hc14, h⟩
  rotate_left
  · refine sCondF S rfl hc14 ?_
    refine wp_skip (leafT (hK12 _ _ ?_))
    refine sSeq (fun K16 hK16 => ?_)
    refine sRegion ?_
    refine sLoadN (p := b11) (off := 0) (T := 41) (vs := [iv r4.1.Start, .slice ad9 r4.1.Rows.length cp10]) 0 [iv r4.1.Start, .slice ad9 r4.1.Rows.length cp10] S (wN rfl) rfl rfl rfl rfl rfl rfl rfl (lb rfl) fun a S => ?_
    refine sStore (p := b2) (off := 0) (T := 41) (vs := [iv 0, .slice none 0 0]) (v := .agg #[iv r4.1.Start, .slice ad9 r4.1.Rows.length cp10]) 1 [iv r4.1.Start, .slice ad9 r4.1.Rows.length cp10] S (wN rfl) rfl rfl rfl rfl rfl rfl rfl (by simp) rfl fun a w S => ?_
    refine leafL (leafT (hK16 _ _ ?_))
    obtain rfl := Option.some.inj h
    exact wp_ret (sRet (.agg #[iv r4.1.Start, .slice ad9 r4.1.Rows.length cp10]) S (rsl1 rfl (rvN (c := 0) (t := 41) (T := 41) (p := b2) 0 [iv r4.1.Start, .slice ad9 r4.1.Rows.length cp10] S rfl rfl rfl rfl)) ⟨(.agg #[iv r4.1.Start, .slice ad9 r4.1.Rows.length cp10]), rfl, S.mem.sel [] [1] (by decide) rfl rfl⟩)
  refine sCondT S rfl hc14 ?_
  refine sSeq (fun K15 hK15 => ?_)
  refine sRegion ?_
  refine sBuild [] [iv 0, .slice none 0 0] S (wN rfl) rfl rfl rfl rfl (lb rfl) fun a S => ?_
  refine sStore (p := b2) (off := 0) (T := 41) (vs := [iv 0, .slice none 0 0]) (v := .agg #[iv 0, .slice none 0 0]) 1 [iv 0, .slice none 0 0] S (wN rfl) rfl rfl rfl rfl rfl rfl rfl (by simp) rfl fun a w S => ?_
  refine leafL (leafT (hK15 _ _ ?_))
  obtain rfl := Option.some.inj h
  have S := S.learn (fRep (rL r_api_Row) (.slice none 0 0) ([] : (List api_Row))) (rL_nil _ _ _)
  have S := S.learn (fRep r_api_Chart (.agg #[iv 0, .slice none 0 0]) (api_Chart.mk 0 ([] : (List api_Row)))) ⟨_, rfl, S.mem.know (i := 0) (e := fRep (rL r_api_Row) (.slice none 0 0) ([] : (List api_Row))) rfl⟩
  exact wp_ret (rThen (sRet (.agg #[iv 0, .slice none 0 0]) S (rsl1 rfl (rvN (c := 0) (t := 41) (T := 41) (p := b2) 0 [iv 0, .slice none 0 0] S rfl rfl rfl rfl)) ⟨(.agg #[iv 0, .slice none 0 0]), rfl, S.mem.sel [] [0] (by decide) rfl rfl⟩))

end Go.Proofs.Ytdbgkakmhlmpbaa
