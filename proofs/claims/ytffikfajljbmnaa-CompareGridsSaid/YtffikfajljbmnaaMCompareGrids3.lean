/- Several texts in one: G81i0 G16 G32 G35 G66s0 G67s0 G68 G69 G36 G70 G71 G13s0 G72 G37 -/
import Derived.WalkKit
import Derived.Maps.AppendAt
import Derived.Deep.AppendLies
import Derived.KernelRfl
import Derived.Laws.OwnMore
import Derived.Great.BuildSlice
import Derived.Orders
import Derived.Laws.StructEq
import Derived.ChangeKeysEq
import Derived.Defers
import Derived.Laws.BytesString
import Derived.RangeFuncNested
import Derived.RangeFuncBound
import Derived.RangeFuncCalls
import Derived.RangeFuncLeaves
import Derived.OrdersIn
import Derived.LoopNIn
import Derived.ArgAppend
import Derived.Test.YtffikfajljbmnaaProg
import Derived.ProofKit
import Derived.OpenShut
import Derived.ChangeOld
import Derived.Deep.Slices
import Derived.Lib.SmallJoins
import Derived.JoinedOf
import Derived.JoinedAt
import Derived.Below
import Derived.Test.YtffikfajljbmnaaRows
import Derived.Test.YtffikfajljbmnaaMCompareGrids2
namespace Go.Proofs.Ytffikfajljbmnaa
open Go.RowKit
set_option linter.unusedVariables false

noncomputable def compare_ways_1_l1 {σ τ : Type} (p1 : api_Grid) (r24 : (api_Grid × Int)) (s36 : Int) (B : σ → (compare_way × api_Grid) → Option (σ ⊕ τ)) (s6 : Int) : (Int × σ) → Option ((Int × σ) ⊕ ((σ ⊕ τ) ⊕ (σ))) := fun s0 => match s0 with
  | (s53, gz54) =>
    if decide (s53 < p1.W) then
      Option.bind (F_grid_Shift r24.1 s53 s36) fun r70 =>
      Option.bind (B gz54 ((compare_way.mk s6 (api_Point.mk s53 s36)), r70.1)) fun y80 =>
      match y80 with
      | .inl gz82 =>
        some (.inl (w64 (s53 + 1), gz82))
      | .inr tz83 =>
        some (.inr (.inl (.inr tz83)))
    else
      some (.inr (.inr gz54))
noncomputable def compare_ways_1_l2 {σ τ : Type} (p1 : api_Grid) (r24 : (api_Grid × Int)) (B : σ → (compare_way × api_Grid) → Option (σ ⊕ τ)) (s6 : Int) : (Int × σ) → Option ((Int × σ) ⊕ ((σ ⊕ τ) ⊕ (σ))) := fun s0 => match s0 with
  | (s36, gz37) =>
    if decide (s36 < p1.H) then
      Option.bind (α := σ ⊕ (σ ⊕ τ)) (
        Option.bind (whileO (compare_ways_1_l1 p1 r24 s36 B s6) (0, gz37)) fun z0 => match z0 with
          | .inl z =>
            some (.inr z)
          | .inr gz58 =>
            some (.inl gz58)) fun z0 => match z0 with
        | .inl gz45 =>
          some (.inl (w64 (s36 + 1), gz45))
        | .inr z =>
          some (.inr (.inl z))
    else
      some (.inr (.inr gz37))
noncomputable def compare_ways_1_l3 {σ τ : Type} (x3 : Int) (p1 : api_Grid) (B : σ → (compare_way × api_Grid) → Option (σ ⊕ τ)) : (Int × σ) → Option ((Int × σ) ⊕ ((σ ⊕ τ) ⊕ (σ))) := fun s0 => match s0 with
  | (s6, gz7) =>
    if decide (s6 ≤ x3) then
      Option.bind (α := σ ⊕ (σ ⊕ τ)) (
        Option.bind (F_symmetry_Apply p1 s6) fun r24 =>
        Option.bind (whileO (compare_ways_1_l2 p1 r24 B s6) (0, gz7)) fun z0 => match z0 with
          | .inl z =>
            some (.inr z)
          | .inr gz41 =>
            some (.inl gz41)) fun z0 => match z0 with
        | .inl gz15 =>
          some (.inl (w64 (s6 + 1), gz15))
        | .inr z =>
          some (.inr (.inl z))
    else
      some (.inr (.inr gz7))
noncomputable def I_compare_ways_1 (p0 : Int) (p1 : api_Grid) (σ τ : Type) (B : σ → (compare_way × api_Grid) → Option (σ ⊕ τ)) (gz0 : σ) : Option (σ ⊕ τ) :=
  Option.bind (idxO ([0, 3, 7, 15] : List Int) p0) fun x3 =>
  Option.bind (whileO (compare_ways_1_l3 x3 p1 B) (0, gz0)) fun z0 => match z0 with
    | .inl z =>
      some z
    | .inr gz11 =>
      some (.inl gz11)
set_option maxHeartbeats 4000000 in
set_option maxRecDepth 100000 in
theorem it_compare_ways_1 (p0 : Int) (v0 : Value) (p1 : api_Grid) (v1 : Value) : SeqF Try.prog 81 #[v0, v1] (fA2 r_compare_way r_api_Grid) (I_compare_ways_1 p0 p1) [fPtr (rI .i64) (v0) p0, fPtr r_api_Grid (v1) p1] := by
  refine seqF_of (lb := [v0, v1]) (fun σ τ B gz0 r h l J Jx E w0 hC S hJ => ?_)
  unfold I_compare_ways_1 at h
  refine sEnterI (args := [.func (.yield l) #[] #[], v0, v1]) 54 Try.func81 rfl rfl (by simp) S (fun a S => ?_)
  refine sSeq (fun K1 hK1 => ?_)
  refine sRegion ?_
  refine sBuild [(0, iv 0), (1, iv 3), (2, iv 7), (3, iv 15)] [iv 0, iv 3, iv 7, iv 15] S (wN rfl) rfl rfl rfl rfl (lb rfl) fun a S => ?_
  obtain ⟨u2, S⟩ := pLoad (r := (rI .i64)) (q := v0) (x := p0) 0 S rfl
  obtain rfl : u2 = iv p0 := S.mem.know (i := 1) (e := fRep (rI .i64) (u2) p0) rfl
  refine sLoadV1 (vq := v0) 0 (iv p0) S (wN rfl) rfl rfl rfl rfl rfl (lb rfl) fun a S => ?_
  obtain ⟨x3, hx4, h⟩ := bindSome h
  refine sIndexA (g := fun z => .int .i64 z) (xs := ([0, 3, 7, 15] : List Int)) (j := p0) (k := .i64) 4 [iv 0, iv 3, iv 7, iv 15] S (wN rfl) rfl Try.underlying129 rfl rfl rfl rfl rfl rfl hx4 rfl (lb rfl) fun a S => ?_
  refine sMove (iv x3) S (wN rfl) (.inr rfl) rfl rfl (lb rfl) fun a S => ?_
  refine leafL (leafT (hK1 _ _ ?_))
  refine sSeq (fun K5 hK5 => ?_)
  refine sRegion ?_
  refine sMove (iv 0) S (wN rfl) (.inr rfl) rfl rfl (lb rfl) fun a S => ?_
  refine leafL (leafT (hK5 _ _ ?_))
  refine wp_block ?_
  obtain ⟨t10, hl, g9⟩ := bindSome h
  refine sLoop hl (fun s0 a w => match s0 with | (s6, gz7) => ∃ E w0, J gz7 E w0 ∧ St [] E [] w0 54 a w [(0, .func (.yield l) #[] #[]), (2, v1), (4, iv x3), (5, iv s6)] [] [fPtr r_api_Grid (v1) p1]) ⟨_, _, hJ, S.fix [] [3] (by decide) rfl rfl rfl⟩ ?_
  clear hl h
  intro s0 a w c0 hI h hu8
  obtain ⟨s6, gz7⟩ := s0
  unfold compare_ways_1_l3 at h
  dsimp only at h hI
  obtain ⟨E, w0, hJ, S⟩ := hI
  refine sSeq (fun K12 hK12 => ?_)
  refine sSeq (fun K13 hK13 => ?_)
  refine sRegion ?_
  refine sMove (iv s6) S (wN rfl) (.inl rfl) rfl rfl (lb rfl) fun a S => ?_
  refine sMove (iv x3) S (wN rfl) (.inl rfl) rfl rfl (lb rfl) fun a S => ?_
  refine sBin (.bool (decide (s6 ≤ x3))) S (wN rfl) rfl rfl rfl (bLe _ _ _ _ .i64 s6 x3) rfl (lb rfl) fun a S => ?_
  refine leafL (leafT (hK13 _ _ ?_))
  rcases iteSome h with ⟨hc14, h⟩ | ⟨hc14, h⟩
  rotate_left
  · refine sCondF S rfl hc14 ?_
    obtain rfl := Option.some.inj h
    obtain rfl := hu8 _ rfl
    have h := g9
    clear g9
    try dsimp only at h
    exact wp_exit (xThen (xThen (xHit (sEnd (.tuple #[]) S (res0 rfl) (sGoI S hC hJ (Option.some.inj h) _)))))
  refine sCondT S rfl hc14 ?_
  refine wp_skip (leafT (hK12 _ _ ?_))
  obtain ⟨t16, h, g17⟩ := bindSome h
  refine sCut (fun a w => ∃ gz15, .inl gz15 = t16 ∧ ∃ E w0, J gz15 E w0 ∧ St [] E [] w0 54 a w [(0, .func (.yield l) #[] #[]), (2, v1), (4, iv x3), (5, iv s6)] [] [fPtr r_api_Grid (v1) p1]) ?_ (fun a w hI => ?_)
  rotate_left
  · obtain ⟨gz15, rfl, E, w0, hJ, S⟩ := hI
    have h := g17
    clear g17
    try dsimp only at h
    refine sRegion ?_
    refine sMove (iv s6) S (wN rfl) (.inl rfl) rfl rfl (lb rfl) fun a S => ?_
    refine sBin (iv (w64 (s6 + 1))) S (wN rfl) rfl rfl rfl (bAdd _ _ _ _ s6 1) rfl (lb rfl) fun a S => ?_
    refine sMove (iv (w64 (s6 + 1))) S (wN rfl) (.inr rfl) rfl rfl (lb rfl) fun a S => ?_
    exact leafL (leafT (⟨(w64 (s6 + 1), gz15), (Option.some.inj h).symm, ⟨_, _, hJ, S.fix [] [0] (by decide) rfl rfl rfl⟩⟩))
  refine wp_block ?_
  refine sSeq (fun K18 hK18 => ?_)
  refine sRegion ?_
  obtain ⟨u19, S⟩ := pLoad (r := r_api_Grid) (q := v1) (x := p1) 0 S rfl
  obtain ⟨u20, rfl, hu21⟩ := S.mem.know (i := 1) (e := fRep r_api_Grid (u19) p1) rfl
  have S := S.learn (fRep (rL rB) u20 p1.Bits) hu21
  obtain ⟨ad22, cp23, _, rfl, _⟩ := hu21
  refine sLoadVN (vq := v1) 1 [iv p1.W, iv p1.H, .slice ad22 p1.Bits.length cp23] S (wN rfl) rfl rfl rfl rfl rfl rfl (lb rfl) fun a S => ?_
  refine sMove (iv s6) S (wN rfl) (.inl rfl) rfl rfl (lb rfl) fun a S => ?_
  obtain ⟨r24, hx25, h⟩ := bindSome h
  refine sCall (X := Value) (f := 33) (vs := [.agg #[iv p1.W, iv p1.H, .slice ad22 p1.Bits.length cp23], iv s6]) (val := c_symmetry_Apply_val r24) (B' := fun _ => []) (D' := c_symmetry_Apply_D r24) [] [] [fRep r_api_Grid (.agg #[iv p1.W, iv p1.H, .slice ad22 p1.Bits.length cp23]) p1] [] [2] S (wN rfl) rfl callee33 rfl (by decide) rfl rfl (fun E1 w1 S1 => c_symmetry_Apply E1 w1 p1 (.agg #[iv p1.W, iv p1.H, .slice ad22 p1.Bits.length cp23]) s6 r24 hx25 S1) rfl (lb rfl) fun u26 a w S => ?_
  obtain ⟨u27, rfl, hu28⟩ := S.mem.know (i := 0) (e := fRep r_api_Grid (u26) r24.1) rfl
  have S := S.learn (fRep (rL rB) u27 r24.1.Bits) hu28
  obtain ⟨ad29, cp30, _, rfl, _⟩ := hu28
  refine sMove (.tuple #[.agg #[iv r24.1.W, iv r24.1.H, .slice ad29 r24.1.Bits.length cp30], iv r24.2]) S (wN rfl) (.inl rfl) rfl rfl (lb rfl) fun a S => ?_
  refine sExtract (vs := [.agg #[iv r24.1.W, iv r24.1.H, .slice ad29 r24.1.Bits.length cp30], iv r24.2]) (.agg #[iv r24.1.W, iv r24.1.H, .slice ad29 r24.1.Bits.length cp30]) S (wN rfl) rfl rfl rfl rfl (lb rfl) fun a S => ?_
  refine sExtract (vs := [.agg #[iv r24.1.W, iv r24.1.H, .slice ad29 r24.1.Bits.length cp30], iv r24.2]) (iv r24.2) S (wN rfl) rfl rfl rfl rfl (lb rfl) fun a S => ?_
  refine sAlloc (.agg #[iv 0, iv 0, .slice none 0 0]) S (wN rfl) rfl rfl [iv 0, iv 0, .slice none 0 0] rfl rfl (lb rfl) fun a b31 w S => ?_
  refine sStore (p := b31) (off := 0) (T := 24) (vs := [iv 0, iv 0, .slice none 0 0]) (v := .agg #[iv r24.1.W, iv r24.1.H, .slice ad29 r24.1.Bits.length cp30]) 0 [iv r24.1.W, iv r24.1.H, .slice ad29 r24.1.Bits.length cp30] S (wN rfl) rfl rfl rfl rfl rfl rfl rfl (by simp) rfl fun a w S => ?_
  refine sMove (iv r24.2) S (wN rfl) (.inr rfl) rfl rfl (lb rfl) fun a S => ?_
  refine leafL (leafT (hK18 _ _ ?_))
  refine sSeq (fun K32 hK32 => ?_)
  refine sRegion ?_
  obtain ⟨q33, hq34, S⟩ := pFld (P := Try.prog) (r := r_api_Grid) (s2 := (rI .i64)) (g := (·.H)) (q := v1) (z := p1) 24 1 5 1 S rfl rfl comp_api_Grid_H
  refine sFldV (q := v1) S (wN rfl) rfl rfl hq34 rfl (lb rfl) fun a S => ?_
  obtain ⟨u35, S⟩ := pLoad (r := (rI .i64)) (q := q33) (x := p1.H) 0 S rfl
  obtain rfl : u35 = iv p1.H := S.mem.know (i := 1) (e := fRep (rI .i64) (u35) p1.H) rfl
  refine sLoadV1 (vq := q33) 0 (iv p1.H) S (wN rfl) rfl rfl rfl rfl rfl (lb rfl) fun a S => ?_
  refine sMove (iv 0) S (wN rfl) (.inl rfl) rfl rfl (lb rfl) fun a S => ?_
  refine leafL (leafT (hK32 _ _ ?_))
  refine wp_block ?_
  have S := S.shutB (r := r_api_Grid) (T := 24) (b := b31) (cs := [iv r24.1.W, iv r24.1.H, .slice ad29 r24.1.Bits.length cp30]) 0 (.agg #[iv r24.1.W, iv r24.1.H, .slice ad29 r24.1.Bits.length cp30]) r24.1 rfl rfl (S.mem.know (i := 4) (e := fRep r_api_Grid (.agg #[iv r24.1.W, iv r24.1.H, .slice ad29 r24.1.Bits.length cp30]) r24.1) rfl)
  obtain ⟨t40, hl, g39⟩ := bindSome h
  refine sLoop hl (fun s0 a w => match s0 with | (s36, gz37) => ∃ E w0, J gz37 E w0 ∧ St [] E [] w0 54 a w [(0, .func (.yield l) #[] #[]), (2, v1), (4, iv x3), (5, iv s6), (6, .pointer (some ⟨b31, 0, none⟩)), (27, iv p1.H), (28, iv s36)] [] [fPtr r_api_Grid (v1) p1, fPtr r_api_Grid (.pointer (some ⟨b31, 0, none⟩)) r24.1]) ⟨_, _, hJ, S.fix [] [9, 0] (by decide) rfl rfl rfl⟩ ?_
  clear hl h
  intro s0 a w c0 hI h hu38
  obtain ⟨s36, gz37⟩ := s0
  unfold compare_ways_1_l2 at h
  dsimp only at h hI
  obtain ⟨E, w0, hJ, S⟩ := hI
  refine sSeq (fun K42 hK42 => ?_)
  refine sRegion ?_
  refine sBin (.bool (decide (s36 < p1.H))) S (wN rfl) rfl rfl rfl (bLt _ _ _ _ .i64 s36 p1.H) rfl (lb rfl) fun a S => ?_
  refine leafL (leafT (hK42 _ _ ?_))
  refine sSeq (fun K43 hK43 => ?_)
  rcases iteSome h with ⟨hc44, h⟩ | ⟨hc44, h⟩
  rotate_left
  · refine sCondF S rfl hc44 ?_
    obtain rfl := Option.some.inj h
    obtain rfl := hu38 _ rfl
    have h := g39
    clear g39
    try dsimp only at h
    exact wp_exit (xThen (xThen (xHit (leafB (leafT (⟨gz37, Option.some.inj h, _, _, hJ, S.fix [] [0] (by decide) rfl rfl rfl⟩))))))
  refine sCondT S rfl hc44 ?_
  refine wp_skip (leafT (hK43 _ _ ?_))
  obtain ⟨t46, h, g47⟩ := bindSome h
  refine sCut (fun a w => ∃ gz45, .inl gz45 = t46 ∧ ∃ E w0, J gz45 E w0 ∧ St [] E [] w0 54 a w [(0, .func (.yield l) #[] #[]), (2, v1), (4, iv x3), (5, iv s6), (6, .pointer (some ⟨b31, 0, none⟩)), (27, iv p1.H), (28, iv s36)] [] [fPtr r_api_Grid (v1) p1, fPtr r_api_Grid (.pointer (some ⟨b31, 0, none⟩)) r24.1]) ?_ (fun a w hI => ?_)
  rotate_left
  · obtain ⟨gz45, rfl, E, w0, hJ, S⟩ := hI
    have h := g47
    clear g47
    try dsimp only at h
    refine sRegion ?_
    refine sBin (iv (w64 (s36 + 1))) S (wN rfl) rfl rfl rfl (bAdd _ _ _ _ s36 1) rfl (lb rfl) fun a S => ?_
    refine sMove (iv (w64 (s36 + 1))) S (wN rfl) (.inl rfl) rfl rfl (lb rfl) fun a S => ?_
    exact leafL (leafT (⟨(w64 (s36 + 1), gz45), (Option.some.inj h).symm, ⟨_, _, hJ, S.fix [] [0, 1] (by decide) rfl rfl rfl⟩⟩))
  refine wp_block ?_
  refine sSeq (fun K48 hK48 => ?_)
  refine sRegion ?_
  refine sMove (iv s36) S (wN rfl) (.inl rfl) rfl rfl (lb rfl) fun a S => ?_
  refine sMove (iv s36) S (wN rfl) (.inr rfl) rfl rfl (lb rfl) fun a S => ?_
  refine leafL (leafT (hK48 _ _ ?_))
  refine sSeq (fun K49 hK49 => ?_)
  refine sRegion ?_
  obtain ⟨q50, hq51, S⟩ := pFld (P := Try.prog) (r := r_api_Grid) (s2 := (rI .i64)) (g := (·.W)) (q := v1) (z := p1) 24 0 0 0 S rfl rfl comp_api_Grid_W
  refine sFldV (q := v1) S (wN rfl) rfl rfl hq51 rfl (lb rfl) fun a S => ?_
  obtain ⟨u52, S⟩ := pLoad (r := (rI .i64)) (q := q50) (x := p1.W) 0 S rfl
  obtain rfl : u52 = iv p1.W := S.mem.know (i := 1) (e := fRep (rI .i64) (u52) p1.W) rfl
  refine sLoadV1 (vq := q50) 0 (iv p1.W) S (wN rfl) rfl rfl rfl rfl rfl (lb rfl) fun a S => ?_
  refine sMove (iv 0) S (wN rfl) (.inl rfl) rfl rfl (lb rfl) fun a S => ?_
  refine leafL (leafT (hK49 _ _ ?_))
  refine wp_block ?_
  obtain ⟨t57, hl, g56⟩ := bindSome h
  refine sLoop hl (fun s0 a w => match s0 with | (s53, gz54) => ∃ E w0, J gz54 E w0 ∧ St [] E [] w0 54 a w [(0, .func (.yield l) #[] #[]), (2, v1), (4, iv x3), (5, iv s6), (6, .pointer (some ⟨b31, 0, none⟩)), (8, iv s36), (27, iv p1.H), (28, iv s36), (32, iv p1.W), (33, iv s53)] [] [fPtr r_api_Grid (v1) p1, fPtr r_api_Grid (.pointer (some ⟨b31, 0, none⟩)) r24.1]) ⟨_, _, hJ, S.fix [] [3, 4] (by decide) rfl rfl rfl⟩ ?_
  clear hl h
  intro s0 a w c0 hI h hu55
  obtain ⟨s53, gz54⟩ := s0
  unfold compare_ways_1_l1 at h
  dsimp only at h hI
  obtain ⟨E, w0, hJ, S⟩ := hI
  refine sSeq (fun K59 hK59 => ?_)
  refine sRegion ?_
  refine sBin (.bool (decide (s53 < p1.W))) S (wN rfl) rfl rfl rfl (bLt _ _ _ _ .i64 s53 p1.W) rfl (lb rfl) fun a S => ?_
  refine leafL (leafT (hK59 _ _ ?_))
  refine sSeq (fun K60 hK60 => ?_)
  rcases iteSome h with ⟨hc61, h⟩ | ⟨hc61, h⟩
  rotate_left
  · refine sCondF S rfl hc61 ?_
    obtain rfl := Option.some.inj h
    obtain rfl := hu55 _ rfl
    have h := g56
    clear g56
    try dsimp only at h
    exact wp_exit (xThen (xThen (xHit (leafB (leafT (⟨gz54, Option.some.inj h, _, _, hJ, S.fix [] [0, 1] (by decide) rfl rfl rfl⟩))))))
  refine sCondT S rfl hc61 ?_
  refine wp_skip (leafT (hK60 _ _ ?_))
  refine sSeq (fun K62 hK62 => ?_)
  refine wp_block ?_
  refine sSeq (fun K63 hK63 => ?_)
  refine sRegion ?_
  refine sMove (iv s53) S (wN rfl) (.inl rfl) rfl rfl (lb rfl) fun a S => ?_
  refine sMove (iv s53) S (wN rfl) (.inr rfl) rfl rfl (lb rfl) fun a S => ?_
  refine leafL (leafT (hK63 _ _ ?_))
  refine sSeq (fun K64 hK64 => ?_)
  refine sRegion ?_
  obtain ⟨u65, S⟩ := pLoad (r := r_api_Grid) (q := .pointer (some ⟨b31, 0, none⟩)) (x := r24.1) 1 S rfl
  obtain ⟨u66, rfl, hu67⟩ := S.mem.know (i := 1) (e := fRep r_api_Grid (u65) r24.1) rfl
  have S := S.learn (fRep (rL rB) u66 r24.1.Bits) hu67
  obtain ⟨ad68, cp69, _, rfl, _⟩ := hu67
  refine sLoadVN (vq := .pointer (some ⟨b31, 0, none⟩)) 1 [iv r24.1.W, iv r24.1.H, .slice ad68 r24.1.Bits.length cp69] S (wN rfl) rfl rfl rfl rfl rfl rfl (lb rfl) fun a S => ?_
  refine sMove (iv s53) S (wN rfl) (.inl rfl) rfl rfl (lb rfl) fun a S => ?_
  refine sMove (iv s36) S (wN rfl) (.inl rfl) rfl rfl (lb rfl) fun a S => ?_
  obtain ⟨r70, hx71, h⟩ := bindSome h
  refine sCall (X := Value) (f := 34) (vs := [.agg #[iv r24.1.W, iv r24.1.H, .slice ad68 r24.1.Bits.length cp69], iv s53, iv s36]) (val := c_grid_Shift_val r70) (B' := fun _ => []) (D' := c_grid_Shift_D r70) [] [] [fRep r_api_Grid (.agg #[iv r24.1.W, iv r24.1.H, .slice ad68 r24.1.Bits.length cp69]) r24.1] [] [2] S (wN rfl) rfl callee34 rfl (by decide) rfl rfl (fun E1 w1 S1 => c_grid_Shift E1 w1 r24.1 (.agg #[iv r24.1.W, iv r24.1.H, .slice ad68 r24.1.Bits.length cp69]) s53 s36 r70 hx71 S1) rfl (lb rfl) fun u72 a w S => ?_
  obtain ⟨u73, rfl, hu74⟩ := S.mem.know (i := 0) (e := fRep r_api_Grid (u72) r70.1) rfl
  have S := S.learn (fRep (rL rB) u73 r70.1.Bits) hu74
  obtain ⟨ad75, cp76, _, rfl, _⟩ := hu74
  refine sMove (.tuple #[.agg #[iv r70.1.W, iv r70.1.H, .slice ad75 r70.1.Bits.length cp76], iv r70.2]) S (wN rfl) (.inl rfl) rfl rfl (lb rfl) fun a S => ?_
  refine sExtract (vs := [.agg #[iv r70.1.W, iv r70.1.H, .slice ad75 r70.1.Bits.length cp76], iv r70.2]) (.agg #[iv r70.1.W, iv r70.1.H, .slice ad75 r70.1.Bits.length cp76]) S (wN rfl) rfl rfl rfl rfl (lb rfl) fun a S => ?_
  refine sExtract (vs := [.agg #[iv r70.1.W, iv r70.1.H, .slice ad75 r70.1.Bits.length cp76], iv r70.2]) (iv r70.2) S (wN rfl) rfl rfl rfl rfl (lb rfl) fun a S => ?_
  refine sAlloc (.agg #[iv 0, iv 0, .slice none 0 0]) S (wN rfl) rfl rfl [iv 0, iv 0, .slice none 0 0] rfl rfl (lb rfl) fun a b77 w S => ?_
  refine sStore (p := b77) (off := 0) (T := 24) (vs := [iv 0, iv 0, .slice none 0 0]) (v := .agg #[iv r70.1.W, iv r70.1.H, .slice ad75 r70.1.Bits.length cp76]) 0 [iv r70.1.W, iv r70.1.H, .slice ad75 r70.1.Bits.length cp76] S (wN rfl) rfl rfl rfl rfl rfl rfl rfl (by simp) rfl fun a w S => ?_
  refine sMove (iv r70.2) S (wN rfl) (.inr rfl) rfl rfl (lb rfl) fun a S => ?_
  refine leafL (leafT (hK64 _ _ ?_))
  refine sSeq (fun K78 hK78 => ?_)
  refine sRegionY ?_
  refine sSplitR (by repeat (first | exact roundU_out | exact it_out | exact lo_false | refine lo_then ?_ | refine lo_block ?_)) 7 rfl (fun K79 hK79 => ?_)
  refine sMove (.func (.yield l) #[] #[]) S (wN rfl) (.inl rfl) rfl rfl (lb rfl) fun a S => ?_
  refine sMove (iv s6) S (wN rfl) (.inl rfl) rfl rfl (lb rfl) fun a S => ?_
  refine sMove (iv s53) S (wN rfl) (.inl rfl) rfl rfl (lb rfl) fun a S => ?_
  refine sMove (iv s36) S (wN rfl) (.inl rfl) rfl rfl (lb rfl) fun a S => ?_
  refine sBuild [(0, iv s53), (1, iv s36)] [iv s53, iv s36] S (wN rfl) rfl rfl rfl rfl (lb rfl) fun a S => ?_
  refine sBuild [(0, iv s6), (1, .agg #[iv s53, iv s36])] [iv s6, iv s53, iv s36] S (wN rfl) rfl rfl rfl rfl (lb rfl) fun a S => ?_
  refine sLoadN (p := b77) (off := 0) (T := 24) (vs := [iv r70.1.W, iv r70.1.H, .slice ad75 r70.1.Bits.length cp76]) 0 [iv r70.1.W, iv r70.1.H, .slice ad75 r70.1.Bits.length cp76] S (wN rfl) rfl rfl rfl rfl rfl rfl rfl (lb rfl) fun a S => ?_
  refine leafL ⟨rfl, hK79 _ _ ?_⟩
  have S := S.shutB (r := r_api_Grid) (T := 24) (b := b77) (cs := [iv r70.1.W, iv r70.1.H, .slice ad75 r70.1.Bits.length cp76]) 0 (.agg #[iv r70.1.W, iv r70.1.H, .slice ad75 r70.1.Bits.length cp76]) r70.1 rfl rfl (S.mem.know (i := 1) (e := fRep r_api_Grid (.agg #[iv r70.1.W, iv r70.1.H, .slice ad75 r70.1.Bits.length cp76]) r70.1) rfl)
  have S := S.learn (fRep r_compare_way (.agg #[iv s6, iv s53, iv s36]) (compare_way.mk s6 (api_Point.mk s53 s36))) rfl
  obtain ⟨y80, hy81, h⟩ := bindSome h
  refine sYieldI ((compare_way.mk s6 (api_Point.mk s53 s36)), r70.1) [.agg #[iv s6, iv s53, iv s36], .agg #[iv r70.1.W, iv r70.1.H, .slice ad75 r70.1.Bits.length cp76]] S hC hJ hy81 (fA2_mk (S.mem.know (i := 0) (e := fRep r_compare_way (.agg #[iv s6, iv s53, iv s36]) (compare_way.mk s6 (api_Point.mk s53 s36))) rfl) (S.mem.know (i := 3) (e := fRep r_api_Grid (.agg #[iv r70.1.W, iv r70.1.H, .slice ad75 r70.1.Bits.length cp76]) r70.1) rfl)) (wN rfl) rfl rfl rfl rfl (by decide) (fun gz82 E a w hb hJ S => ?_) (fun tz83 a w hb hJ S => ?_)
  · obtain rfl := hb
    dsimp only at h
    refine list_inR (by repeat (first | exact roundU_out | exact it_out | exact lo_false | refine lo_then ?_ | refine lo_block ?_)) _ rfl _ _ ?_
    refine sNot (b := true) S (wN rfl) rfl rfl rfl (lb rfl) fun a S => ?_
    refine leafL (leafT (hK78 _ _ ?_))
    refine sCondF S rfl rfl ?_
    refine wp_skip (leafB (leafT (hK62 _ _ ?_)))
    refine sRegion ?_
    refine sBin (iv (w64 (s53 + 1))) S (wN rfl) rfl rfl rfl (bAdd _ _ _ _ s53 1) rfl (lb rfl) fun a S => ?_
    refine sMove (iv (w64 (s53 + 1))) S (wN rfl) (.inl rfl) rfl rfl (lb rfl) fun a S => ?_
    exact leafL (leafT (⟨(w64 (s53 + 1), gz82), (Option.some.inj h).symm, ⟨_, _, hJ, S.fix [] [7, 8] (by decide) rfl rfl rfl⟩⟩))
  · obtain rfl := hb
    dsimp only at h
    refine list_inR (by repeat (first | exact roundU_out | exact it_out | exact lo_false | refine lo_then ?_ | refine lo_block ?_)) _ rfl _ _ ?_
    refine sNot (b := false) S (wN rfl) rfl rfl rfl (lb rfl) fun a S => ?_
    refine leafL (leafT (hK78 _ _ ?_))
    refine sCondT S rfl rfl ?_
    obtain rfl := Option.some.inj h
    obtain rfl := hu55 _ rfl
    have h := g56
    clear g56
    try dsimp only at h
    obtain rfl := Option.some.inj h
    have h := g47
    clear g47
    try dsimp only at h
    obtain rfl := Option.some.inj h
    obtain rfl := hu38 _ rfl
    have h := g39
    clear g39
    try dsimp only at h
    obtain rfl := Option.some.inj h
    have h := g17
    clear g17
    try dsimp only at h
    obtain rfl := Option.some.inj h
    obtain rfl := hu8 _ rfl
    have h := g9
    clear g9
    try dsimp only at h
    exact wp_ret (rBlock (rThen (rThen (rBlock (rBlock (rThen (rThen (rBlock (rBlock (rThen (rThen (rBlock (sRet (.tuple #[]) S (res0 rfl) (sStopI S hC hJ (Option.some.inj h) _))))))))))))))

end Go.Proofs.Ytffikfajljbmnaa
namespace Go.Proofs.Ytffikfajljbmnaa
open Go.RowKit
set_option linter.unusedVariables false

def anc_compare_Nearest_0 : List (List Nat) := [[], [], [1], [], [3], [0], [0, 1, 2, 5], [0, 1, 2, 3, 4, 5, 6], [0, 1, 2, 3, 4, 5, 6, 7]]
noncomputable def compare_Nearest_l2 (p1 : api_Grid) : (Int × Int × Int × Int) → (compare_way × api_Grid) → Option ((Int × Int × Int × Int) ⊕ (Int × Int × Int × Int)) := fun s0 x0 => match s0, x0 with
  | (s57, s58, s59, s60), (x65, x67) =>
    Option.bind (α := (Int × Int × Int × Int)) (
      Option.bind (F_compare_differ x67.Bits p1.Bits) fun r83 =>
      if decide (r83 < s57) then
        some (r83, x65.op, x65.at_.X, x65.at_.Y)
      else
        some (s57, s58, s59, s60)) fun (o76, o77, o78, o79) =>
    if o76 == 0 then
      some (.inr (o76, o77, o78, o79))
    else
      some (.inl (o76, o77, o78, o79))
noncomputable def F_compare_Nearest (p0 : api_Grid) (p1 : api_Grid) (p2 : Int) : Option (Int × Int × api_Point × Int) :=
  Option.bind (F_grid_Check p0) fun r15 =>
  if r15 != 0 then
    some (0, 0, (api_Point.mk 0 0), r15)
  else
    Option.bind (F_grid_Check p1) fun r22 =>
    if r22 != 0 then
      some (0, 0, (api_Point.mk 0 0), r22)
    else
      if decide (16 < (max4 p0.W p0.H p1.W p1.H)) then
        some (0, 0, (api_Point.mk 0 0), 4)
      else
        Option.bind (α := Bool) (
          if decide (p2 < 0) then
            some true
          else
            if decide (3 < p2) then
              some true
            else
              if p0.W != p1.W then
                some true
              else
                if p0.H != p1.H then
                  some true
                else
                  if decide (1 < p2) then
                    some (p0.W != p0.H)
                  else
                    some false) fun o32 =>
        if o32 then
          some (0, 0, (api_Point.mk 0 0), 2)
        else
          Option.bind (α := (Int × Int × Int × Int)) (
            Option.bind (F_compare_ways p0 p2) fun r53 =>
            Option.bind (I_compare_ways_1 r53.1 r53.2 _ _ (compare_Nearest_l2 p1) (w64 ((p0.Bits.length : Int) + 1), 0, 0, 0)) fun z0 => match z0 with
              | .inl (s57, s58, s59, s60) =>
                some (s57, s58, s59, s60)
              | .inr (e61, e62, e63, e64) =>
                some (e61, e62, e63, e64)) fun (o45, o46, o47, o48) =>
          some (o45, o46, (api_Point.mk o47 o48), 0)
def c_compare_Nearest_val (r : (Int × Int × api_Point × Int)) (x : Value) : Value := .tuple #[.int .i64 r.1, .int .i64 r.2.1, x, .int .i64 r.2.2.2]
def c_compare_Nearest_D (r : (Int × Int × api_Point × Int)) (x : Value) : List Fact := [fRep r_api_Point x r.2.2.1]
set_option maxHeartbeats 4000000 in
set_option maxRecDepth 100000 in
theorem c_compare_Nearest (E : Nat → Prop) (w0 : World) (p0 : api_Grid) (v0 : Value) (p1 : api_Grid) (v1 : Value) (p2 : Int) (r : (Int × Int × api_Point × Int)) (h : F_compare_Nearest p0 p1 p2 = some r) (S : St0 E [] w0 w0 [] [fRep r_api_Grid (v0) p0, fRep r_api_Grid (v1) p1]) :
    Calls Try.prog 16 #[v0, v1, iv p2] w0 (Ret (X := Value) E [] w0 (c_compare_Nearest_val r) (fun _ => []) (c_compare_Nearest_D r)) := by
  unfold F_compare_Nearest at h
  obtain ⟨u1, rfl, hu2⟩ := S.know (i := 0) (e := fRep r_api_Grid (v0) p0) rfl
  have S := S.learn (fRep (rL rB) u1 p0.Bits) hu2
  obtain ⟨ad3, cp4, _, rfl, _⟩ := hu2
  obtain ⟨u5, rfl, hu6⟩ := S.know (i := 2) (e := fRep r_api_Grid (v1) p1) rfl
  have S := S.learn (fRep (rL rB) u5 p1.Bits) hu6
  obtain ⟨ad7, cp8, _, rfl, _⟩ := hu6
  refine sEnterM (args := [.agg #[iv p0.W, iv p0.H, .slice ad3 p0.Bits.length cp4], .agg #[iv p1.W, iv p1.H, .slice ad7 p1.Bits.length cp8], iv p2]) 99 Try.func16 rfl rfl (by simp) S (fun a S => ?_)
  refine sSeq (fun K9 hK9 => ?_)
  refine sRegion ?_
  refine sBox (v := .agg #[iv p0.W, iv p0.H, .slice ad3 p0.Bits.length cp4]) S (wN rfl) rfl rfl [iv p0.W, iv p0.H, .slice ad3 p0.Bits.length cp4] rfl rfl (lb rfl) fun a b10 w S => ?_
  refine sBox (v := .agg #[iv p1.W, iv p1.H, .slice ad7 p1.Bits.length cp8]) S (wN rfl) rfl rfl [iv p1.W, iv p1.H, .slice ad7 p1.Bits.length cp8] rfl rfl (lb rfl) fun a b11 w S => ?_
  refine sMove (iv 0) S (wN rfl) (.inr rfl) rfl rfl (lb rfl) fun a S => ?_
  refine sMove (iv 0) S (wN rfl) (.inr rfl) rfl rfl (lb rfl) fun a S => ?_
  refine sAlloc (.agg #[iv 0, iv 0]) S (wN rfl) rfl rfl [iv 0, iv 0] rfl rfl (lb rfl) fun a b12 w S => ?_
  refine sMove (iv 0) S (wN rfl) (.inr rfl) rfl rfl (lb rfl) fun a S => ?_
  refine leafL (leafT (hK9 _ _ ?_))
  refine sSeq (fun K13 hK13 => ?_)
  refine sSeq (fun K14 hK14 => ?_)
  refine sRegion ?_
  refine sLoadN (p := b10) (off := 0) (T := 24) (vs := [iv p0.W, iv p0.H, .slice ad3 p0.Bits.length cp4]) 2 [iv p0.W, iv p0.H, .slice ad3 p0.Bits.length cp4] S (wN rfl) rfl rfl rfl rfl rfl rfl rfl (lb rfl) fun a S => ?_
  obtain ⟨r15, hx16, h⟩ := bindSome h
  have S1 := S.mem
  refine sCallQ (X := Unit) (f := 45) (vs := [.agg #[iv p0.W, iv p0.H, .slice ad3 p0.Bits.length cp4]]) (val := fun _ => iv r15) S (wN rfl) rfl callee45 rfl (S1.quiet [2] rfl) (fun E1 w1 S1 => c_grid_Check E1 w1 p0 (.agg #[iv p0.W, iv p0.H, .slice ad3 p0.Bits.length cp4]) r15 hx16 S1) rfl (lb rfl) fun _ a w S => ?_
  refine sMove (iv r15) S (wN rfl) (.inr rfl) rfl rfl (lb rfl) fun a S => ?_
  refine leafL (leafT (hK14 _ _ ?_))
  refine sSeq (fun K17 hK17 => ?_)
  refine sRegion ?_
  refine sMove (iv r15) S (wN rfl) (.inl rfl) rfl rfl (lb rfl) fun a S => ?_
  refine sBin (.bool (r15 != 0)) S (wN rfl) rfl rfl rfl (bNe _ _ _ _ .i64 r15 0) rfl (lb rfl) fun a S => ?_
  refine leafL (leafT (hK17 _ _ ?_))
  rcases iteSome h with ⟨hc18, h⟩ | ⟨hc18, h⟩
  · refine sCondT S rfl hc18 ?_
    refine sSeq (fun K19 hK19 => ?_)
    refine sRegion ?_
    refine sBuild [] [iv 0, iv 0] S (wN rfl) rfl rfl rfl rfl (lb rfl) fun a S => ?_
    refine sMove (iv r15) S (wN rfl) (.inl rfl) rfl rfl (lb rfl) fun a S => ?_
    refine sMove (iv 0) S (wN rfl) (.inr rfl) rfl rfl (lb rfl) fun a S => ?_
    refine sMove (iv 0) S (wN rfl) (.inr rfl) rfl rfl (lb rfl) fun a S => ?_
    refine sStore (p := b12) (off := 0) (T := 33) (vs := [iv 0, iv 0]) (v := .agg #[iv 0, iv 0]) 0 [iv 0, iv 0] S (wN rfl) rfl rfl rfl rfl rfl rfl rfl (by simp) rfl fun a w S => ?_
    refine sMove (iv r15) S (wN rfl) (.inr rfl) rfl rfl (lb rfl) fun a S => ?_
    refine leafL (leafT (hK19 _ _ ?_))
    obtain rfl := Option.some.inj h
    have S := S.learn (fRep r_api_Point (.agg #[iv 0, iv 0]) (api_Point.mk 0 0)) rfl
    exact wp_ret (rThen (sRetM0 (.tuple #[iv 0, iv 0, .agg #[iv 0, iv 0], iv r15]) S (rsl4 rfl (rvT (t := 6) (v := iv 0) S rfl) (rvT (t := 7) (v := iv 0) S rfl) (rvN (c := 8) (t := 33) (T := 33) (p := b12) 0 [iv 0, iv 0] S rfl rfl rfl rfl) (rvT (t := 9) (v := iv r15) S rfl)) ⟨(.agg #[iv 0, iv 0]), rfl, S.mem.sel [] [0] (by decide) rfl rfl⟩))
  refine sCondF S rfl hc18 ?_
  refine wp_skip (leafT (hK13 _ _ ?_))
  refine sSeq (fun K20 hK20 => ?_)
  refine sSeq (fun K21 hK21 => ?_)
  refine sRegion ?_
  refine sLoadN (p := b11) (off := 0) (T := 24) (vs := [iv p1.W, iv p1.H, .slice ad7 p1.Bits.length cp8]) 1 [iv p1.W, iv p1.H, .slice ad7 p1.Bits.length cp8] S (wN rfl) rfl rfl rfl rfl rfl rfl rfl (lb rfl) fun a S => ?_
  obtain ⟨r22, hx23, h⟩ := bindSome h
  have S1 := S.mem
  refine sCallQ (X := Unit) (f := 45) (vs := [.agg #[iv p1.W, iv p1.H, .slice ad7 p1.Bits.length cp8]]) (val := fun _ => iv r22) S (wN rfl) rfl callee45 rfl (S1.quiet [3] rfl) (fun E1 w1 S1 => c_grid_Check E1 w1 p1 (.agg #[iv p1.W, iv p1.H, .slice ad7 p1.Bits.length cp8]) r22 hx23 S1) rfl (lb rfl) fun _ a w S => ?_
  refine sMove (iv r22) S (wN rfl) (.inr rfl) rfl rfl (lb rfl) fun a S => ?_
  refine leafL (leafT (hK21 _ _ ?_))
  refine sSeq (fun K24 hK24 => ?_)
  refine sRegion ?_
  refine sMove (iv r22) S (wN rfl) (.inl rfl) rfl rfl (lb rfl) fun a S => ?_
  refine sBin (.bool (r22 != 0)) S (wN rfl) rfl rfl rfl (bNe _ _ _ _ .i64 r22 0) rfl (lb rfl) fun a S => ?_
  refine leafL (leafT (hK24 _ _ ?_))
  rcases iteSome h with ⟨hc25, h⟩ | ⟨hc25, h⟩
  · refine sCondT S rfl hc25 ?_
    refine sSeq (fun K26 hK26 => ?_)
    refine sRegion ?_
    refine sBuild [] [iv 0, iv 0] S (wN rfl) rfl rfl rfl rfl (lb rfl) fun a S => ?_
    refine sMove (iv r22) S (wN rfl) (.inl rfl) rfl rfl (lb rfl) fun a S => ?_
    refine sMove (iv 0) S (wN rfl) (.inr rfl) rfl rfl (lb rfl) fun a S => ?_
    refine sMove (iv 0) S (wN rfl) (.inr rfl) rfl rfl (lb rfl) fun a S => ?_
    refine sStore (p := b12) (off := 0) (T := 33) (vs := [iv 0, iv 0]) (v := .agg #[iv 0, iv 0]) 0 [iv 0, iv 0] S (wN rfl) rfl rfl rfl rfl rfl rfl rfl (by simp) rfl fun a w S => ?_
    refine sMove (iv r22) S (wN rfl) (.inr rfl) rfl rfl (lb rfl) fun a S => ?_
    refine leafL (leafT (hK26 _ _ ?_))
    obtain rfl := Option.some.inj h
    have S := S.learn (fRep r_api_Point (.agg #[iv 0, iv 0]) (api_Point.mk 0 0)) rfl
    exact wp_ret (rThen (sRetM0 (.tuple #[iv 0, iv 0, .agg #[iv 0, iv 0], iv r22]) S (rsl4 rfl (rvT (t := 6) (v := iv 0) S rfl) (rvT (t := 7) (v := iv 0) S rfl) (rvN (c := 8) (t := 33) (T := 33) (p := b12) 0 [iv 0, iv 0] S rfl rfl rfl rfl) (rvT (t := 9) (v := iv r22) S rfl)) ⟨(.agg #[iv 0, iv 0]), rfl, S.mem.sel [] [0] (by decide) rfl rfl⟩))
  refine sCondF S rfl hc25 ?_
  refine wp_skip (leafT (hK20 _ _ ?_))
  refine sSeq (fun K27 hK27 => ?_)
  refine sSeq (fun K28 hK28 => ?_)
  refine sRegion ?_
  refine sField (b := b10) (off := 0) 0 0 S (wN rfl) rfl rfl rfl rfl rfl (lb rfl) fun a S => ?_
  refine sLoad1 (p := b10) (off := 0) (T := 24) (vs := [iv p0.W, iv p0.H, .slice ad3 p0.Bits.length cp4]) 2 (iv p0.W) S (wN rfl) rfl rfl rfl rfl rfl rfl (lb rfl) fun a S => ?_
  refine sField (b := b10) (off := 0) 1 1 S (wN rfl) rfl rfl rfl rfl rfl (lb rfl) fun a S => ?_
  refine sLoad1 (p := b10) (off := 1) (T := 24) (vs := [iv p0.W, iv p0.H, .slice ad3 p0.Bits.length cp4]) 2 (iv p0.H) S (wN rfl) rfl rfl rfl rfl rfl rfl (lb rfl) fun a S => ?_
  refine sField (b := b11) (off := 0) 0 0 S (wN rfl) rfl rfl rfl rfl rfl (lb rfl) fun a S => ?_
  refine sLoad1 (p := b11) (off := 0) (T := 24) (vs := [iv p1.W, iv p1.H, .slice ad7 p1.Bits.length cp8]) 1 (iv p1.W) S (wN rfl) rfl rfl rfl rfl rfl rfl (lb rfl) fun a S => ?_
  refine sField (b := b11) (off := 0) 1 1 S (wN rfl) rfl rfl rfl rfl rfl (lb rfl) fun a S => ?_
  refine sLoad1 (p := b11) (off := 1) (T := 24) (vs := [iv p1.W, iv p1.H, .slice ad7 p1.Bits.length cp8]) 1 (iv p1.H) S (wN rfl) rfl rfl rfl rfl rfl rfl (lb rfl) fun a S => ?_
  refine sMax4 (p := p0.W) (q := p0.H) (r := p1.W) (s := p1.H) S (wN rfl) rfl rfl rfl rfl rfl rfl (lb rfl) fun a S => ?_
  refine sBin (.bool (decide (16 < (max4 p0.W p0.H p1.W p1.H)))) S (wN rfl) rfl rfl rfl (bGt _ _ _ _ .i64 (max4 p0.W p0.H p1.W p1.H) 16) rfl (lb rfl) fun a S => ?_
  refine leafL (leafT (hK28 _ _ ?_))
  rcases iteSome h with ⟨hc29, h⟩ | ⟨hc29, h⟩
  · refine sCondT S rfl hc29 ?_
    refine sSeq (fun K30 hK30 => ?_)
    refine sRegion ?_
    refine sBuild [] [iv 0, iv 0] S (wN rfl) rfl rfl rfl rfl (lb rfl) fun a S => ?_
    refine sMove (iv 0) S (wN rfl) (.inr rfl) rfl rfl (lb rfl) fun a S => ?_
    refine sMove (iv 0) S (wN rfl) (.inr rfl) rfl rfl (lb rfl) fun a S => ?_
    refine sStore (p := b12) (off := 0) (T := 33) (vs := [iv 0, iv 0]) (v := .agg #[iv 0, iv 0]) 0 [iv 0, iv 0] S (wN rfl) rfl rfl rfl rfl rfl rfl rfl (by simp) rfl fun a w S => ?_
    refine sMove (iv 4) S (wN rfl) (.inr rfl) rfl rfl (lb rfl) fun a S => ?_
    refine leafL (leafT (hK30 _ _ ?_))
    obtain rfl := Option.some.inj h
    have S := S.learn (fRep r_api_Point (.agg #[iv 0, iv 0]) (api_Point.mk 0 0)) rfl
    exact wp_ret (rThen (sRetM0 (.tuple #[iv 0, iv 0, .agg #[iv 0, iv 0], iv 4]) S (rsl4 rfl (rvT (t := 6) (v := iv 0) S rfl) (rvT (t := 7) (v := iv 0) S rfl) (rvN (c := 8) (t := 33) (T := 33) (p := b12) 0 [iv 0, iv 0] S rfl rfl rfl rfl) (rvT (t := 9) (v := iv 4) S rfl)) ⟨(.agg #[iv 0, iv 0]), rfl, S.mem.sel [] [0] (by decide) rfl rfl⟩))
  refine sCondF S rfl hc29 ?_
  refine wp_skip (leafT (hK27 _ _ ?_))
  refine sSeq (fun K31 hK31 => ?_)
  obtain ⟨t33, h, g34⟩ := bindSome h
  refine sCut (fun a w => ∃ o32, o32 = t33 ∧ St [] E [] w0 99 a w [(2, iv p2), (3, .pointer (some ⟨b10, 0, none⟩)), (4, .pointer (some ⟨b11, 0, none⟩)), (8, .pointer (some ⟨b12, 0, none⟩)), (70, .bool o32)] [eBox b10 24 [iv p0.W, iv p0.H, .slice ad3 p0.Bits.length cp4], eBox b11 24 [iv p1.W, iv p1.H, .slice ad7 p1.Bits.length cp8], eBox b12 33 [iv 0, iv 0]] [fRep (rL rB) (.slice ad3 p0.Bits.length cp4) p0.Bits, fRep (rL rB) (.slice ad7 p1.Bits.length cp8) p1.Bits]) ?_ (fun a w hI => ?_)
  · refine sRegion ?_
    refine sMove (iv p2) S (wN rfl) (.inl rfl) rfl rfl (lb rfl) fun a S => ?_
    refine sBin (.bool (decide (p2 < 0))) S (wN rfl) rfl rfl rfl (bLt _ _ _ _ .i64 p2 0) rfl (lb rfl) fun a S => ?_
    refine sMove (.bool (decide (p2 < 0))) S (wN rfl) (.inl rfl) rfl rfl (lb rfl) fun a S => ?_
    rcases iteSome h with ⟨hc35, h⟩ | ⟨hc35, h⟩
    · refine sSkip 2 false 42 43 S rfl rfl rfl hc35 rfl (lb rfl) fun a S => ?_
      refine sSkip 2 false 42 44 S rfl rfl rfl hc35 rfl (lb rfl) fun a S => ?_
      refine sPickT (.bool true) S (wN rfl) rfl rfl hc35 rfl rfl (lb rfl) fun a S => ?_
      refine sMove (.bool true) S (wN rfl) (.inl rfl) rfl rfl (lb rfl) fun a S => ?_
      refine sSkip 6 false 46 47 S rfl rfl rfl rfl rfl (lb rfl) fun a S => ?_
      refine sSkip 6 false 46 48 S rfl rfl rfl rfl rfl (lb rfl) fun a S => ?_
      refine sSkip 6 false 46 49 S rfl rfl rfl rfl rfl (lb rfl) fun a S => ?_
      refine sSkip 6 false 46 50 S rfl rfl rfl rfl rfl (lb rfl) fun a S => ?_
      refine sSkip 6 false 46 51 S rfl rfl rfl rfl rfl (lb rfl) fun a S => ?_
      refine sPickT (.bool true) S (wN rfl) rfl rfl rfl rfl rfl (lb rfl) fun a S => ?_
      refine sMove (.bool true) S (wN rfl) (.inl rfl) rfl rfl (lb rfl) fun a S => ?_
      refine sSkip 13 false 53 54 S rfl rfl rfl rfl rfl (lb rfl) fun a S => ?_
      refine sSkip 13 false 53 55 S rfl rfl rfl rfl rfl (lb rfl) fun a S => ?_
      refine sSkip 13 false 53 56 S rfl rfl rfl rfl rfl (lb rfl) fun a S => ?_
      refine sSkip 13 false 53 57 S rfl rfl rfl rfl rfl (lb rfl) fun a S => ?_
      refine sSkip 13 false 53 58 S rfl rfl rfl rfl rfl (lb rfl) fun a S => ?_
      refine sPickT (.bool true) S (wN rfl) rfl rfl rfl rfl rfl (lb rfl) fun a S => ?_
      refine sMove (.bool true) S (wN rfl) (.inl rfl) rfl rfl (lb rfl) fun a S => ?_
      refine sSkip 20 false 60 61 S rfl rfl rfl rfl rfl (lb rfl) fun a S => ?_
      refine sSkip 20 false 60 62 S rfl rfl rfl rfl rfl (lb rfl) fun a S => ?_
      refine sSkip 20 false 60 63 S rfl rfl rfl rfl rfl (lb rfl) fun a S => ?_
      refine sSkipU 23 true 63 64 S rfl rfl rfl rfl (lb rfl) fun a S => ?_
      refine sSkipU 23 true 63 65 S rfl rfl rfl rfl (lb rfl) fun a S => ?_
      refine sSkipU 23 true 63 66 S rfl rfl rfl rfl (lb rfl) fun a S => ?_
      refine sSkipU 23 true 63 67 S rfl rfl rfl rfl (lb rfl) fun a S => ?_
      refine sSkipU 23 true 63 68 S rfl rfl rfl rfl (lb rfl) fun a S => ?_
      refine sSkip 20 false 60 69 S rfl rfl rfl rfl rfl (lb rfl) fun a S => ?_
      refine sPickT (.bool true) S (wN rfl) rfl rfl rfl rfl rfl (lb rfl) fun a S => ?_
      exact leafL (leafT (⟨true, Option.some.inj h, S.fix [2, 1, 0] [1, 0] (by decide) rfl rfl rfl⟩))
    refine sMove (iv p2) S (wG 2 false 42 rfl rfl rfl hc35) (.inl rfl) rfl rfl (lb rfl) fun a S => ?_
    refine sBin (.bool (decide (3 < p2))) S (wG 2 false 42 rfl rfl rfl hc35) rfl rfl rfl (bGt _ _ _ _ .i64 p2 3) rfl (lb rfl) fun a S => ?_
    refine sPickF (.bool (decide (3 < p2))) S (wN rfl) rfl rfl hc35 rfl rfl (lb rfl) fun a S => ?_
    refine sMove (.bool (decide (3 < p2))) S (wN rfl) (.inl rfl) rfl rfl (lb rfl) fun a S => ?_
    rcases iteSome h with ⟨hc36, h⟩ | ⟨hc36, h⟩
    · refine sSkip 6 false 46 47 S rfl rfl rfl hc36 rfl (lb rfl) fun a S => ?_
      refine sSkip 6 false 46 48 S rfl rfl rfl hc36 rfl (lb rfl) fun a S => ?_
      refine sSkip 6 false 46 49 S rfl rfl rfl hc36 rfl (lb rfl) fun a S => ?_
      refine sSkip 6 false 46 50 S rfl rfl rfl hc36 rfl (lb rfl) fun a S => ?_
      refine sSkip 6 false 46 51 S rfl rfl rfl hc36 rfl (lb rfl) fun a S => ?_
      refine sPickT (.bool true) S (wN rfl) rfl rfl hc36 rfl rfl (lb rfl) fun a S => ?_
      refine sMove (.bool true) S (wN rfl) (.inl rfl) rfl rfl (lb rfl) fun a S => ?_
      refine sSkip 13 false 53 54 S rfl rfl rfl rfl rfl (lb rfl) fun a S => ?_
      refine sSkip 13 false 53 55 S rfl rfl rfl rfl rfl (lb rfl) fun a S => ?_
      refine sSkip 13 false 53 56 S rfl rfl rfl rfl rfl (lb rfl) fun a S => ?_
      refine sSkip 13 false 53 57 S rfl rfl rfl rfl rfl (lb rfl) fun a S => ?_
      refine sSkip 13 false 53 58 S rfl rfl rfl rfl rfl (lb rfl) fun a S => ?_
      refine sPickT (.bool true) S (wN rfl) rfl rfl rfl rfl rfl (lb rfl) fun a S => ?_
      refine sMove (.bool true) S (wN rfl) (.inl rfl) rfl rfl (lb rfl) fun a S => ?_
      refine sSkip 20 false 60 61 S rfl rfl rfl rfl rfl (lb rfl) fun a S => ?_
      refine sSkip 20 false 60 62 S rfl rfl rfl rfl rfl (lb rfl) fun a S => ?_
      refine sSkip 20 false 60 63 S rfl rfl rfl rfl rfl (lb rfl) fun a S => ?_
      refine sSkipU 23 true 63 64 S rfl rfl rfl rfl (lb rfl) fun a S => ?_
      refine sSkipU 23 true 63 65 S rfl rfl rfl rfl (lb rfl) fun a S => ?_
      refine sSkipU 23 true 63 66 S rfl rfl rfl rfl (lb rfl) fun a S => ?_
      refine sSkipU 23 true 63 67 S rfl rfl rfl rfl (lb rfl) fun a S => ?_
      refine sSkipU 23 true 63 68 S rfl rfl rfl rfl (lb rfl) fun a S => ?_
      refine sSkip 20 false 60 69 S rfl rfl rfl rfl rfl (lb rfl) fun a S => ?_
      refine sPickT (.bool true) S (wN rfl) rfl rfl rfl rfl rfl (lb rfl) fun a S => ?_
      exact leafL (leafT (⟨true, Option.some.inj h, S.fix [2, 1, 0] [1, 0] (by decide) rfl rfl rfl⟩))
    refine sField (b := b10) (off := 0) 0 0 S (wG 6 false 46 rfl rfl rfl hc36) rfl rfl rfl rfl rfl (lb rfl) fun a S => ?_
    refine sLoad1 (p := b10) (off := 0) (T := 24) (vs := [iv p0.W, iv p0.H, .slice ad3 p0.Bits.length cp4]) 2 (iv p0.W) S (wG 6 false 46 rfl rfl rfl hc36) rfl rfl rfl rfl rfl rfl (lb rfl) fun a S => ?_
    refine sField (b := b11) (off := 0) 0 0 S (wG 6 false 46 rfl rfl rfl hc36) rfl rfl rfl rfl rfl (lb rfl) fun a S => ?_
    refine sLoad1 (p := b11) (off := 0) (T := 24) (vs := [iv p1.W, iv p1.H, .slice ad7 p1.Bits.length cp8]) 1 (iv p1.W) S (wG 6 false 46 rfl rfl rfl hc36) rfl rfl rfl rfl rfl rfl (lb rfl) fun a S => ?_
    refine sBin (.bool (p0.W != p1.W)) S (wG 6 false 46 rfl rfl rfl hc36) rfl rfl rfl (bNe _ _ _ _ .i64 p0.W p1.W) rfl (lb rfl) fun a S => ?_
    refine sPickF (.bool (p0.W != p1.W)) S (wN rfl) rfl rfl hc36 rfl rfl (lb rfl) fun a S => ?_
    refine sMove (.bool (p0.W != p1.W)) S (wN rfl) (.inl rfl) rfl rfl (lb rfl) fun a S => ?_
    rcases iteSome h with ⟨hc37, h⟩ | ⟨hc37, h⟩
    · refine sSkip 13 false 53 54 S rfl rfl rfl hc37 rfl (lb rfl) fun a S => ?_
      refine sSkip 13 false 53 55 S rfl rfl rfl hc37 rfl (lb rfl) fun a S => ?_
      refine sSkip 13 false 53 56 S rfl rfl rfl hc37 rfl (lb rfl) fun a S => ?_
      refine sSkip 13 false 53 57 S rfl rfl rfl hc37 rfl (lb rfl) fun a S => ?_
      refine sSkip 13 false 53 58 S rfl rfl rfl hc37 rfl (lb rfl) fun a S => ?_
      refine sPickT (.bool true) S (wN rfl) rfl rfl hc37 rfl rfl (lb rfl) fun a S => ?_
      refine sMove (.bool true) S (wN rfl) (.inl rfl) rfl rfl (lb rfl) fun a S => ?_
      refine sSkip 20 false 60 61 S rfl rfl rfl rfl rfl (lb rfl) fun a S => ?_
      refine sSkip 20 false 60 62 S rfl rfl rfl rfl rfl (lb rfl) fun a S => ?_
      refine sSkip 20 false 60 63 S rfl rfl rfl rfl rfl (lb rfl) fun a S => ?_
      refine sSkipU 23 true 63 64 S rfl rfl rfl rfl (lb rfl) fun a S => ?_
      refine sSkipU 23 true 63 65 S rfl rfl rfl rfl (lb rfl) fun a S => ?_
      refine sSkipU 23 true 63 66 S rfl rfl rfl rfl (lb rfl) fun a S => ?_
      refine sSkipU 23 true 63 67 S rfl rfl rfl rfl (lb rfl) fun a S => ?_
      refine sSkipU 23 true 63 68 S rfl rfl rfl rfl (lb rfl) fun a S => ?_
      refine sSkip 20 false 60 69 S rfl rfl rfl rfl rfl (lb rfl) fun a S => ?_
      refine sPickT (.bool true) S (wN rfl) rfl rfl rfl rfl rfl (lb rfl) fun a S => ?_
      exact leafL (leafT (⟨true, Option.some.inj h, S.fix [2, 1, 0] [1, 0] (by decide) rfl rfl rfl⟩))
    refine sField (b := b10) (off := 0) 1 1 S (wG 13 false 53 rfl rfl rfl hc37) rfl rfl rfl rfl rfl (lb rfl) fun a S => ?_
    refine sLoad1 (p := b10) (off := 1) (T := 24) (vs := [iv p0.W, iv p0.H, .slice ad3 p0.Bits.length cp4]) 2 (iv p0.H) S (wG 13 false 53 rfl rfl rfl hc37) rfl rfl rfl rfl rfl rfl (lb rfl) fun a S => ?_
    refine sField (b := b11) (off := 0) 1 1 S (wG 13 false 53 rfl rfl rfl hc37) rfl rfl rfl rfl rfl (lb rfl) fun a S => ?_
    refine sLoad1 (p := b11) (off := 1) (T := 24) (vs := [iv p1.W, iv p1.H, .slice ad7 p1.Bits.length cp8]) 1 (iv p1.H) S (wG 13 false 53 rfl rfl rfl hc37) rfl rfl rfl rfl rfl rfl (lb rfl) fun a S => ?_
    refine sBin (.bool (p0.H != p1.H)) S (wG 13 false 53 rfl rfl rfl hc37) rfl rfl rfl (bNe _ _ _ _ .i64 p0.H p1.H) rfl (lb rfl) fun a S => ?_
    refine sPickF (.bool (p0.H != p1.H)) S (wN rfl) rfl rfl hc37 rfl rfl (lb rfl) fun a S => ?_
    refine sMove (.bool (p0.H != p1.H)) S (wN rfl) (.inl rfl) rfl rfl (lb rfl) fun a S => ?_
    rcases iteSome h with ⟨hc38, h⟩ | ⟨hc38, h⟩
    · refine sSkip 20 false 60 61 S rfl rfl rfl hc38 rfl (lb rfl) fun a S => ?_
      refine sSkip 20 false 60 62 S rfl rfl rfl hc38 rfl (lb rfl) fun a S => ?_
      refine sSkip 20 false 60 63 S rfl rfl rfl hc38 rfl (lb rfl) fun a S => ?_
      refine sSkipU 23 true 63 64 S rfl rfl rfl rfl (lb rfl) fun a S => ?_
      refine sSkipU 23 true 63 65 S rfl rfl rfl rfl (lb rfl) fun a S => ?_
      refine sSkipU 23 true 63 66 S rfl rfl rfl rfl (lb rfl) fun a S => ?_
      refine sSkipU 23 true 63 67 S rfl rfl rfl rfl (lb rfl) fun a S => ?_
      refine sSkipU 23 true 63 68 S rfl rfl rfl rfl (lb rfl) fun a S => ?_
      refine sSkip 20 false 60 69 S rfl rfl rfl hc38 rfl (lb rfl) fun a S => ?_
      refine sPickT (.bool true) S (wN rfl) rfl rfl hc38 rfl rfl (lb rfl) fun a S => ?_
      exact leafL (leafT (⟨true, Option.some.inj h, S.fix [2, 1, 0] [1, 0] (by decide) rfl rfl rfl⟩))
    refine sMove (iv p2) S (wG 20 false 60 rfl rfl rfl hc38) (.inl rfl) rfl rfl (lb rfl) fun a S => ?_
    refine sBin (.bool (decide (1 < p2))) S (wG 20 false 60 rfl rfl rfl hc38) rfl rfl rfl (bGt _ _ _ _ .i64 p2 1) rfl (lb rfl) fun a S => ?_
    refine sMove (.bool (decide (1 < p2))) S (wG 20 false 60 rfl rfl rfl hc38) (.inl rfl) rfl rfl (lb rfl) fun a S => ?_
    rcases iteSome h with ⟨hc39, h⟩ | ⟨hc39, h⟩
    rotate_left
    · refine sSkip 23 true 63 64 S rfl rfl rfl hc39 rfl (lb rfl) fun a S => ?_
      refine sSkip 23 true 63 65 S rfl rfl rfl hc39 rfl (lb rfl) fun a S => ?_
      refine sSkip 23 true 63 66 S rfl rfl rfl hc39 rfl (lb rfl) fun a S => ?_
      refine sSkip 23 true 63 67 S rfl rfl rfl hc39 rfl (lb rfl) fun a S => ?_
      refine sSkip 23 true 63 68 S rfl rfl rfl hc39 rfl (lb rfl) fun a S => ?_
      refine sPickF (.bool false) S (wG 20 false 60 rfl rfl rfl hc38) rfl rfl hc39 rfl rfl (lb rfl) fun a S => ?_
      refine sPickF (.bool false) S (wN rfl) rfl rfl hc38 rfl rfl (lb rfl) fun a S => ?_
      exact leafL (leafT (⟨false, Option.some.inj h, S.fix [2, 1, 0] [1, 0] (by decide) rfl rfl rfl⟩))
    refine sField (b := b10) (off := 0) 0 0 S (wG 23 true 63 rfl rfl rfl hc39) rfl rfl rfl rfl rfl (lb rfl) fun a S => ?_
    refine sLoad1 (p := b10) (off := 0) (T := 24) (vs := [iv p0.W, iv p0.H, .slice ad3 p0.Bits.length cp4]) 2 (iv p0.W) S (wG 23 true 63 rfl rfl rfl hc39) rfl rfl rfl rfl rfl rfl (lb rfl) fun a S => ?_
    refine sField (b := b10) (off := 0) 1 1 S (wG 23 true 63 rfl rfl rfl hc39) rfl rfl rfl rfl rfl (lb rfl) fun a S => ?_
    refine sLoad1 (p := b10) (off := 1) (T := 24) (vs := [iv p0.W, iv p0.H, .slice ad3 p0.Bits.length cp4]) 2 (iv p0.H) S (wG 23 true 63 rfl rfl rfl hc39) rfl rfl rfl rfl rfl rfl (lb rfl) fun a S => ?_
    refine sBin (.bool (p0.W != p0.H)) S (wG 23 true 63 rfl rfl rfl hc39) rfl rfl rfl (bNe _ _ _ _ .i64 p0.W p0.H) rfl (lb rfl) fun a S => ?_
    refine sPickT (.bool (p0.W != p0.H)) S (wG 20 false 60 rfl rfl rfl hc38) rfl rfl hc39 rfl rfl (lb rfl) fun a S => ?_
    refine sPickF (.bool (p0.W != p0.H)) S (wN rfl) rfl rfl hc38 rfl rfl (lb rfl) fun a S => ?_
    exact leafL (leafT (⟨p0.W != p0.H, Option.some.inj h, S.fix [2, 1, 0] [1, 0] (by decide) rfl rfl rfl⟩))
  obtain ⟨o32, rfl, S⟩ := hI
  have h := g34
  clear g34
  try dsimp only at h
  rcases iteSome h with ⟨hc40, h⟩ | ⟨hc40, h⟩
  · refine sCondT S rfl hc40 ?_
    refine sSeq (fun K41 hK41 => ?_)
    refine sRegion ?_
    refine sBuild [] [iv 0, iv 0] S (wN rfl) rfl rfl rfl rfl (lb rfl) fun a S => ?_
    refine sMove (iv 0) S (wN rfl) (.inr rfl) rfl rfl (lb rfl) fun a S => ?_
    refine sMove (iv 0) S (wN rfl) (.inr rfl) rfl rfl (lb rfl) fun a S => ?_
    refine sStore (p := b12) (off := 0) (T := 33) (vs := [iv 0, iv 0]) (v := .agg #[iv 0, iv 0]) 2 [iv 0, iv 0] S (wN rfl) rfl rfl rfl rfl rfl rfl rfl (by simp) rfl fun a w S => ?_
    refine sMove (iv 2) S (wN rfl) (.inr rfl) rfl rfl (lb rfl) fun a S => ?_
    refine leafL (leafT (hK41 _ _ ?_))
    obtain rfl := Option.some.inj h
    have S := S.learn (fRep r_api_Point (.agg #[iv 0, iv 0]) (api_Point.mk 0 0)) rfl
    exact wp_ret (rThen (sRetM0 (.tuple #[iv 0, iv 0, .agg #[iv 0, iv 0], iv 2]) S (rsl4 rfl (rvT (t := 6) (v := iv 0) S rfl) (rvT (t := 7) (v := iv 0) S rfl) (rvN (c := 8) (t := 33) (T := 33) (p := b12) 0 [iv 0, iv 0] S rfl rfl rfl rfl) (rvT (t := 9) (v := iv 2) S rfl)) ⟨(.agg #[iv 0, iv 0]), rfl, S.mem.sel [] [0] (by decide) rfl rfl⟩))
  refine sCondF S rfl hc40 ?_
  refine wp_skip (leafT (hK31 _ _ ?_))
  refine sSeq (fun K42 hK42 => ?_)
  refine sRegion ?_
  refine sField (b := b10) (off := 0) 2 2 S (wN rfl) rfl rfl rfl rfl rfl (lb rfl) fun a S => ?_
  refine sLoad1 (p := b10) (off := 2) (T := 24) (vs := [iv p0.W, iv p0.H, .slice ad3 p0.Bits.length cp4]) 0 (.slice ad3 p0.Bits.length cp4) S (wN rfl) rfl rfl rfl rfl rfl rfl (lb rfl) fun a S => ?_
  refine sLen (ad := ad3) (m := p0.Bits.length) (c := cp4) S (wN rfl) rfl Try.underlying22 rfl rfl (lb rfl) fun a S => ?_
  refine sBin (iv (w64 ((p0.Bits.length : Int) + 1))) S (wN rfl) rfl rfl rfl (bAdd _ _ _ _ (p0.Bits.length : Int) 1) rfl (lb rfl) fun a S => ?_
  refine sBuild [] [iv 0, iv 0, iv 0] S (wN rfl) rfl rfl rfl rfl (lb rfl) fun a S => ?_
  refine sAlloc (iv 0) S (wN rfl) rfl rfl [iv 0] rfl rfl (lb rfl) fun a b43 w S => ?_
  refine sAlloc (.agg #[iv 0, iv 0, iv 0]) S (wN rfl) rfl rfl [iv 0, iv 0, iv 0] rfl rfl (lb rfl) fun a b44 w S => ?_
  refine sStore (p := b43) (off := 0) (T := 3) (vs := [iv 0]) (v := iv (w64 ((p0.Bits.length : Int) + 1))) 1 [iv (w64 ((p0.Bits.length : Int) + 1))] S (wN rfl) rfl rfl rfl rfl rfl rfl rfl (by simp) rfl fun a w S => ?_
  refine sStore (p := b44) (off := 0) (T := 93) (vs := [iv 0, iv 0, iv 0]) (v := .agg #[iv 0, iv 0, iv 0]) 1 [iv 0, iv 0, iv 0] S (wN rfl) rfl rfl rfl rfl rfl rfl rfl (by simp) rfl fun a w S => ?_
  refine leafL (leafT (hK42 _ _ ?_))
  obtain ⟨t50, h, g51⟩ := bindSome h
  refine sCut (fun a w => ∃ o45, ∃ o46, ∃ o47, ∃ o48, (o45, o46, o47, o48) = t50 ∧ ∃ dk49, St [mark dk49] E [] w0 99 a w [(8, .pointer (some ⟨b12, 0, none⟩)), (12, .pointer (some ⟨b43, 0, none⟩)), (13, .pointer (some ⟨b44, 0, none⟩))] [eBox b12 33 [iv 0, iv 0], eBox b43 3 [iv o45], eBox b44 93 [iv o46, iv o47, iv o48], eDef dk49] []) ?_ (fun a w hI => ?_)
  rotate_left
  · obtain ⟨o45, o46, o47, o48, rfl, dk49, S⟩ := hI
    have h := g51
    clear g51
    try dsimp only at h
    refine sSeq (fun K93 hK93 => ?_)
    refine sDraw (nf := [7]) (W := [(0, 94, iv o45), (1, 95, .pointer (some ⟨b44, 0, none⟩)), (2, 96, iv o46), (3, 97, .pointer (some ⟨b44, 1, none⟩)), (4, 98, .agg #[iv o47, iv o48]), (5, 6, iv o45), (6, 7, iv o46)]) rfl S ?_
    refine node_by (A := anc_compare_Nearest_0) (nf := [7]) (Y := []) (W := [(0, 94, iv o45), (1, 95, .pointer (some ⟨b44, 0, none⟩)), (2, 96, iv o46), (3, 97, .pointer (some ⟨b44, 1, none⟩)), (4, 98, .agg #[iv o47, iv o48]), (5, 6, iv o45), (6, 7, iv o46)]) 9 (by kernel_rfl) (by kernel_rfl) (by kernel_rfl) (by kernel_rfl) (by kernel_rfl) [0, 1, 2, 3, 4, 5, 6] (by kernel_rfl) (by decide) (by decide) (aF 0 8 (by decide) ?_ (aF 1 7 (by decide) ?_ (aF 2 6 (by decide) ?_ (aF 3 5 (by decide) ?_ (aF 4 4 (by decide) ?_ (aF 5 3 (by decide) ?_ (aF 6 2 (by decide) ?_ (aN 7 1 (by decide) ?_ (aE 8 0 7 (by decide) (trivial)))))))))) [] (fun q hq => by cases hq) (fun hY => absurd (hY 7 (by decide)) (by decide))
    · refine fI 94 (iv o45) [(12, .pointer (some ⟨b43, 0, none⟩))] 0 [none] rfl rfl rfl rfl rfl rfl fun G a w S => ?_
      refine sLoad1 (p := b43) (off := 0) (T := 3) (vs := [iv o45]) 1 (iv o45) S (wN rfl) rfl rfl rfl rfl rfl rfl (lb rfl) fun a S => ?_
      exact leafL ⟨rfl, S⟩
    · refine fI 95 (.pointer (some ⟨b44, 0, none⟩)) [(13, .pointer (some ⟨b44, 0, none⟩))] 1 [none] rfl rfl rfl rfl rfl rfl fun G a w S => ?_
      refine sField (b := b44) (off := 0) 0 0 S (wN rfl) rfl rfl rfl rfl rfl (lb rfl) fun a S => ?_
      exact leafL ⟨rfl, S⟩
    · refine fI 96 (iv o46) [(95, .pointer (some ⟨b44, 0, none⟩))] 2 [some 1] rfl rfl rfl rfl rfl rfl fun G a w S => ?_
      refine sLoad1 (p := b44) (off := 0) (T := 93) (vs := [iv o46, iv o47, iv o48]) 2 (iv o46) S (wN rfl) rfl rfl rfl rfl rfl rfl (lb rfl) fun a S => ?_
      exact leafL ⟨rfl, S⟩
    · refine fI 97 (.pointer (some ⟨b44, 1, none⟩)) [(13, .pointer (some ⟨b44, 0, none⟩))] 3 [none] rfl rfl rfl rfl rfl rfl fun G a w S => ?_
      refine sField (b := b44) (off := 0) 1 1 S (wN rfl) rfl rfl rfl rfl rfl (lb rfl) fun a S => ?_
      exact leafL ⟨rfl, S⟩
    · refine fI 98 (.agg #[iv o47, iv o48]) [(97, .pointer (some ⟨b44, 1, none⟩))] 4 [some 3] rfl rfl rfl rfl rfl rfl fun G a w S => ?_
      refine sLoadN (p := b44) (off := 1) (T := 93) (vs := [iv o46, iv o47, iv o48]) 2 [iv o47, iv o48] S (wN rfl) rfl rfl rfl rfl rfl rfl rfl (lb rfl) fun a S => ?_
      exact leafL ⟨rfl, S⟩
    · refine fI 6 (iv o45) [(94, iv o45)] 5 [some 0] rfl rfl rfl rfl rfl rfl fun G a w S => ?_
      refine sMove (iv o45) S (wN rfl) (.inr rfl) rfl rfl (lb rfl) fun a S => ?_
      exact leafL ⟨rfl, S⟩
    · refine fI 7 (iv o46) [(96, iv o46)] 6 [some 2] rfl rfl rfl rfl rfl rfl fun G a w S => ?_
      refine sMove (iv o46) S (wN rfl) (.inr rfl) rfl rfl (lb rfl) fun a S => ?_
      exact leafL ⟨rfl, S⟩
    refine ⟨_, [(8, .pointer (some ⟨b12, 0, none⟩)), (98, .agg #[iv o47, iv o48])], rfl, (srcs_of [none, some 4] rfl rfl rfl), fun G a w S => ?_⟩
    refine sStore (p := b12) (off := 0) (T := 33) (vs := [iv 0, iv 0]) (v := .agg #[iv o47, iv o48]) 0 [iv o47, iv o48] S (wN rfl) rfl rfl rfl rfl rfl rfl rfl (by simp) rfl fun a w S => ?_
    refine leafL ⟨rfl, _, _, .inr ⟨[(8, 9, iv 0)], rfl, S, hz_of rfl, ?_⟩⟩
    refine node_by (A := anc_compare_Nearest_0) (nf := [7]) (Y := [7]) 9 (by kernel_rfl) (by kernel_rfl) (by kernel_rfl) (by kernel_rfl) (by kernel_rfl) [8, 0, 1, 2, 3, 4, 5, 6] (by kernel_rfl) (by decide) (by decide) (aD 0 8 7 (by decide) (aD 1 7 7 (by decide) (aD 2 6 7 (by decide) (aD 3 5 7 (by decide) (aD 4 4 7 (by decide) (aD 5 3 7 (by decide) (aD 6 2 7 (by decide) (aY 7 1 (by decide) (aF 8 0 (by decide) ?_ (trivial)))))))))) [(6, iv o45), (7, iv o46), (8, .pointer (some ⟨b12, 0, none⟩)), (9, iv 0)] (fin_of [some 6, some 7, none, some 0] rfl (by kernel_rfl) (by kernel_rfl)) (fun _ a w S => ?_)
    · refine fI 9 (iv 0) [] 0 [] rfl rfl rfl rfl rfl rfl fun G a w S => ?_
      refine sMove (iv 0) S (wN rfl) (.inr rfl) rfl rfl (lb rfl) fun a S => ?_
      exact leafL ⟨rfl, S⟩
    refine leafT (hK93 _ _ ?_)
    refine wp_ret (sRetM1 3 S rfl (fun a w S => ?_))
    obtain rfl := Option.some.inj h
    have S := S.learn (fRep r_api_Point (.agg #[iv o47, iv o48]) (api_Point.mk o47 o48)) rfl
    exact sFin (.tuple #[iv o45, iv o46, .agg #[iv o47, iv o48], iv 0]) S (rsl4 rfl (rvT (t := 6) (v := iv o45) S rfl) (rvT (t := 7) (v := iv o46) S rfl) (rvN (c := 8) (t := 33) (T := 33) (p := b12) 0 [iv o47, iv o48] S rfl rfl rfl rfl) (rvT (t := 9) (v := iv 0) S rfl)) ⟨(.agg #[iv o47, iv o48]), rfl, S.mem.sel [] [0] (by decide) rfl rfl⟩
  refine sSeq (fun K52 hK52 => ?_)
  refine sRegion ?_
  refine sLoadN (p := b10) (off := 0) (T := 24) (vs := [iv p0.W, iv p0.H, .slice ad3 p0.Bits.length cp4]) 2 [iv p0.W, iv p0.H, .slice ad3 p0.Bits.length cp4] S (wN rfl) rfl rfl rfl rfl rfl rfl rfl (lb rfl) fun a S => ?_
  refine sMove (iv p2) S (wN rfl) (.inl rfl) rfl rfl (lb rfl) fun a S => ?_
  obtain ⟨r53, hx54, h⟩ := bindSome h
  have S := S.learn (fRep r_api_Grid (.agg #[iv p0.W, iv p0.H, .slice ad3 p0.Bits.length cp4]) p0) ⟨_, rfl, S.mem.know (i := 0) (e := fRep (rL rB) (.slice ad3 p0.Bits.length cp4) p0.Bits) rfl⟩
  refine sCall (X := Value × Value) (f := 49) (vs := [.agg #[iv p0.W, iv p0.H, .slice ad3 p0.Bits.length cp4], iv p2]) (val := c_compare_ways_val r53) (B' := fun _ => []) (D' := c_compare_ways_D r53) [] [eBox b44 93 [iv 0, iv 0, iv 0], eBox b43 3 [iv (w64 ((p0.Bits.length : Int) + 1))], eBox b10 24 [iv p0.W, iv p0.H, .slice ad3 p0.Bits.length cp4], eBox b11 24 [iv p1.W, iv p1.H, .slice ad7 p1.Bits.length cp8], eBox b12 33 [iv 0, iv 0]] [fRep r_api_Grid (.agg #[iv p0.W, iv p0.H, .slice ad3 p0.Bits.length cp4]) p0] [0, 1, 2, 3, 4] [0] S (wN rfl) rfl callee49 rfl (by decide) rfl rfl (fun E1 w1 S1 => c_compare_ways E1 w1 p0 (.agg #[iv p0.W, iv p0.H, .slice ad3 p0.Bits.length cp4]) p2 r53 hx54 S1) rfl (lb rfl) fun xx a w S => ?_
  obtain ⟨u55, u56⟩ := xx
  refine leafL (leafT (hK52 _ _ ?_))
  refine wp_block ?_
  obtain ⟨t91, hl92, g90⟩ := bindSome h
  replace S : St [] E [] w0 99 a w [(4, .pointer (some ⟨b11, 0, none⟩)), (8, .pointer (some ⟨b12, 0, none⟩)), (12, .pointer (some ⟨b43, 0, none⟩)), (13, .pointer (some ⟨b44, 0, none⟩)), (79, .func (.func 81) #[] #[u55, u56])] [eBox b11 24 [iv p1.W, iv p1.H, .slice ad7 p1.Bits.length cp8], eBox b12 33 [iv 0, iv 0], eBox b43 3 [iv (w64 ((p0.Bits.length : Int) + 1))], eBox b44 93 [iv 0, iv 0, iv 0]] [fPtr (rI .i64) (u55) r53.1, fPtr r_api_Grid (u56) r53.2, fRep (rL rB) (.slice ad7 p1.Bits.length cp8) p1.Bits] := S.fix [3, 4, 1, 0] [0, 1, 4] (by decide) rfl rfl rfl
  refine sRange2 (B := compare_Nearest_l2 p1) (fun s0 L D => match s0 with | (s57, s58, s59, s60) => L = [eBox b11 24 [iv p1.W, iv p1.H, .slice ad7 p1.Bits.length cp8], eBox b12 33 [iv 0, iv 0], eBox b43 3 [iv s57], eBox b44 93 [iv s58, iv s59, iv s60]] ∧ D = [fPtr (rI .i64) (u55) r53.1, fPtr r_api_Grid (u56) r53.2, fRep (rL rB) (.slice ad7 p1.Bits.length cp8) p1.Bits]) (fun t0 c L D => match t0 with | (e61, e62, e63, e64) => c = .exit 0 ∧ L = [eBox b12 33 [iv 0, iv 0], eBox b43 3 [iv e61], eBox b44 93 [iv e62, iv e63, iv e64]] ∧ D = []) [0, 1] S hl92 rfl callee81 (it_compare_ways_1 r53.1 u55 r53.2 u56) rfl (by decide) (by decide) ⟨rfl, rfl⟩ ?_ ?_ ?_
  · intro E l0 s0 x65 x67 u66 u68 b L D K a w0 hK hIL hB S
    clear hl92 g90 h hK
    obtain ⟨s57, s58, s59, s60⟩ := s0
    unfold compare_Nearest_l2 at hB
    dsimp only at hB hIL
    obtain ⟨rfl, rfl⟩ := hIL
    have h := hB
    clear hB
    obtain rfl : u66 = .agg #[iv x65.op, iv x65.at_.X, iv x65.at_.Y] := S.mem.know (i := 0) (e := fRep r_compare_way (u66) x65) rfl
    obtain ⟨u69, rfl, hu70⟩ := S.mem.know (i := 1) (e := fRep r_api_Grid (u68) x67) rfl
    have S := S.learn (fRep (rL rB) u69 x67.Bits) hu70
    obtain ⟨ad71, cp72, _, rfl, _⟩ := hu70
    refine sSeqR (fun K73 hK73 => ?_)
    refine sRegionR (by repeat (first | exact roundU_out | exact it_out | exact lo_false | refine lo_then ?_ | refine lo_block ?_)) rfl ?_
    refine sAlloc (.agg #[iv 0, iv 0, iv 0]) S (wN rfl) rfl rfl [iv 0, iv 0, iv 0] rfl rfl (lb rfl) fun a b74 w S => ?_
    refine sStore (p := b74) (off := 0) (T := 93) (vs := [iv 0, iv 0, iv 0]) (v := .agg #[iv x65.op, iv x65.at_.X, iv x65.at_.Y]) 0 [iv x65.op, iv x65.at_.X, iv x65.at_.Y] S (wN rfl) rfl rfl rfl rfl rfl rfl rfl (by simp) rfl fun a w S => ?_
    refine leafL (leafT (hK73 _ _ ?_))
    refine sRegionR (by repeat (first | exact roundU_out | exact it_out | exact lo_false | refine lo_then ?_ | refine lo_block ?_)) rfl ?_
    refine sAlloc (.agg #[iv 0, iv 0, .slice none 0 0]) S (wN rfl) rfl rfl [iv 0, iv 0, .slice none 0 0] rfl rfl (lb rfl) fun a b75 w S => ?_
    refine sStore (p := b75) (off := 0) (T := 24) (vs := [iv 0, iv 0, .slice none 0 0]) (v := .agg #[iv x67.W, iv x67.H, .slice ad71 x67.Bits.length cp72]) 0 [iv x67.W, iv x67.H, .slice ad71 x67.Bits.length cp72] S (wN rfl) rfl rfl rfl rfl rfl rfl rfl (by simp) rfl fun a w S => ?_
    refine leafL (leafT (⟨_, _, _, S, fun K a w0 hK S => ?_⟩))
    refine wpIn_block ?_
    obtain ⟨t80, h, g81⟩ := bindSome h
    refine sCutR (fun a w => ∃ o76, ∃ o77, ∃ o78, ∃ o79, (o76, o77, o78, o79) = t80 ∧ St [] E K w0 99 a w [(4, .pointer (some ⟨b11, 0, none⟩)), (8, .pointer (some ⟨b12, 0, none⟩)), (12, .pointer (some ⟨b43, 0, none⟩)), (13, .pointer (some ⟨b44, 0, none⟩)), (79, .func (.func 81) #[] #[u55, u56]), (80, .agg #[iv x65.op, iv x65.at_.X, iv x65.at_.Y]), (81, .agg #[iv x67.W, iv x67.H, .slice ad71 x67.Bits.length cp72])] [eBox b11 24 [iv p1.W, iv p1.H, .slice ad7 p1.Bits.length cp8], eBox b12 33 [iv 0, iv 0], eBox b43 3 [iv o76], eBox b44 93 [iv o77, iv o78, iv o79]] [fPtr (rI .i64) (u55) r53.1, fPtr r_api_Grid (u56) r53.2, fRep (rL rB) (.slice ad71 x67.Bits.length cp72) x67.Bits, fRep (rL rB) (.slice ad7 p1.Bits.length cp8) p1.Bits]) ?_ (fun a w hI => ?_)
    rotate_left
    · obtain ⟨o76, o77, o78, o79, rfl, S⟩ := hI
      have h := g81
      clear g81
      try dsimp only at h
      refine sSeqR (fun K87 hK87 => ?_)
      refine sRegionR (by repeat (first | exact roundU_out | exact it_out | exact lo_false | refine lo_then ?_ | refine lo_block ?_)) rfl ?_
      refine sLoad1 (p := b43) (off := 0) (T := 3) (vs := [iv o76]) 2 (iv o76) S (wN rfl) rfl rfl rfl rfl rfl rfl (lb rfl) fun a S => ?_
      refine sBin (.bool (o76 == 0)) S (wN rfl) rfl rfl rfl (bEq _ _ _ _ .i64 o76 0) rfl (lb rfl) fun a S => ?_
      refine leafL (leafT (hK87 _ _ ?_))
      rcases iteSome h with ⟨hc88, h⟩ | ⟨hc88, h⟩
      · refine sCondTR S rfl hc88 ?_
        exact wpIn_exit (xMiss rfl (rnX (o76, o77, o78, o79) _ _ [] (Option.some.inj h) ⟨rfl, rfl, rfl⟩ (S.fix [1, 2, 3] [] (by decide) rfl rfl rfl)))
      refine sCondFR S rfl hc88 ?_
      exact wpIn_skip (leafB (rnN (o76, o77, o78, o79) _ _ [] (Option.some.inj h) ⟨rfl, rfl⟩ (S.fix [0, 1, 2, 3] [0, 1, 3] (by decide) rfl rfl rfl)))
    refine sSeqR (fun K82 hK82 => ?_)
    refine sRegionR (by repeat (first | exact roundU_out | exact it_out | exact lo_false | refine lo_then ?_ | refine lo_block ?_)) rfl ?_
    refine sField (b := b75) (off := 0) 2 2 S (wN rfl) rfl rfl rfl rfl rfl (lb rfl) fun a S => ?_
    refine sLoad1 (p := b75) (off := 2) (T := 24) (vs := [iv x67.W, iv x67.H, .slice ad71 x67.Bits.length cp72]) 0 (.slice ad71 x67.Bits.length cp72) S (wN rfl) rfl rfl rfl rfl rfl rfl (lb rfl) fun a S => ?_
    refine sField (b := b11) (off := 0) 2 2 S (wN rfl) rfl rfl rfl rfl rfl (lb rfl) fun a S => ?_
    refine sLoad1 (p := b11) (off := 2) (T := 24) (vs := [iv p1.W, iv p1.H, .slice ad7 p1.Bits.length cp8]) 2 (.slice ad7 p1.Bits.length cp8) S (wN rfl) rfl rfl rfl rfl rfl rfl (lb rfl) fun a S => ?_
    obtain ⟨r83, hx84, h⟩ := bindSome h
    have S1 := S.mem
    refine sCallQ (X := Unit) (f := 46) (vs := [.slice ad71 x67.Bits.length cp72, .slice ad7 p1.Bits.length cp8]) (val := fun _ => iv r83) S (wN rfl) rfl callee46 rfl (S1.quiet [0, 5] rfl) (fun E1 w1 S1 => c_compare_differ E1 w1 x67.Bits (.slice ad71 x67.Bits.length cp72) p1.Bits (.slice ad7 p1.Bits.length cp8) r83 hx84 S1) rfl (lb rfl) fun _ a w S => ?_
    refine sMove (iv r83) S (wN rfl) (.inr rfl) rfl rfl (lb rfl) fun a S => ?_
    refine leafL (leafT (hK82 _ _ ?_))
    refine sSeqR (fun K85 hK85 => ?_)
    refine sRegionR (by repeat (first | exact roundU_out | exact it_out | exact lo_false | refine lo_then ?_ | refine lo_block ?_)) rfl ?_
    refine sMove (iv r83) S (wN rfl) (.inl rfl) rfl rfl (lb rfl) fun a S => ?_
    refine sLoad1 (p := b43) (off := 0) (T := 3) (vs := [iv s57]) 4 (iv s57) S (wN rfl) rfl rfl rfl rfl rfl rfl (lb rfl) fun a S => ?_
    refine sBin (.bool (decide (r83 < s57))) S (wN rfl) rfl rfl rfl (bLt _ _ _ _ .i64 r83 s57) rfl (lb rfl) fun a S => ?_
    refine leafL (leafT (hK85 _ _ ?_))
    rcases iteSome h with ⟨hc86, h⟩ | ⟨hc86, h⟩
    rotate_left
    · refine sCondFR S rfl hc86 ?_
      exact wpIn_skip (leafT (⟨s57, s58, s59, s60, Option.some.inj h, S.fix [2, 3, 4, 5] [3, 4, 0, 5] (by decide) rfl rfl rfl⟩))
    refine sCondTR S rfl hc86 ?_
    refine sDrawR (A := []) (nf := [2, 3]) (W := [(0, 90, iv r83), (1, 91, .agg #[iv x65.op, iv x65.at_.X, iv x65.at_.Y])]) (by repeat (first | exact roundU_out | exact it_out | exact lo_false | refine lo_then ?_ | refine lo_block ?_)) rfl rfl S ?_
    refine node_by (A := [[], [], [0], [0, 1, 2]]) (nf := [2, 3]) (Y := []) (W := [(0, 90, iv r83), (1, 91, .agg #[iv x65.op, iv x65.at_.X, iv x65.at_.Y])]) 4 (by kernel_rfl) (by kernel_rfl) (by kernel_rfl) (by kernel_rfl) (by kernel_rfl) [0, 1] (by kernel_rfl) (by decide) (by decide) (aF 0 3 (by decide) ?_ (aF 1 2 (by decide) ?_ (aN 2 1 (by decide) ?_ (aB 3 0 2 (by decide) (trivial))))) [] (fun q hq => by cases hq) (fun hY => absurd (hY 2 (by decide)) (by decide))
    · refine fI 90 (iv r83) [(16, iv r83)] 0 [none] rfl rfl rfl rfl rfl rfl fun G a w S => ?_
      refine sMove (iv r83) S (wN rfl) (.inl rfl) rfl rfl (lb rfl) fun a S => ?_
      exact leafL ⟨rfl, S⟩
    · refine fI 91 (.agg #[iv x65.op, iv x65.at_.X, iv x65.at_.Y]) [(14, .pointer (some ⟨b74, 0, none⟩))] 1 [none] rfl rfl rfl rfl rfl rfl fun G a w S => ?_
      refine sLoadN (p := b74) (off := 0) (T := 93) (vs := [iv x65.op, iv x65.at_.X, iv x65.at_.Y]) 1 [iv x65.op, iv x65.at_.X, iv x65.at_.Y] S (wN rfl) rfl rfl rfl rfl rfl rfl rfl (lb rfl) fun a S => ?_
      exact leafL ⟨rfl, S⟩
    refine ⟨_, [(12, .pointer (some ⟨b43, 0, none⟩)), (90, iv r83)], rfl, (srcs_of [none, some 0] rfl rfl rfl), fun G a w S => ?_⟩
    refine sStore (p := b43) (off := 0) (T := 3) (vs := [iv s57]) (v := iv r83) 4 [iv r83] S (wN rfl) rfl rfl rfl rfl rfl rfl rfl (by simp) rfl fun a w S => ?_
    refine leafL ⟨rfl, _, _, .inr ⟨[], rfl, S, hz_of rfl, ?_⟩⟩
    refine node_by (A := [[], [], [0], [0, 1, 2]]) (nf := [2, 3]) (Y := [2]) 4 (by kernel_rfl) (by kernel_rfl) (by kernel_rfl) (by kernel_rfl) (by kernel_rfl) [0, 1] (by kernel_rfl) (by decide) (by decide) (aD 0 3 2 (by decide) (aF 1 2 (by decide) ?_ (aY 2 1 (by decide) (aN 3 0 (by decide) ?_ (trivial))))) [] (fun q hq => by cases hq) (fun hY => absurd (hY 3 (by decide)) (by decide))
    · refine fI 91 (.agg #[iv x65.op, iv x65.at_.X, iv x65.at_.Y]) [(14, .pointer (some ⟨b74, 0, none⟩))] 1 [none] rfl rfl rfl rfl rfl rfl fun G a w S => ?_
      refine sLoadN (p := b74) (off := 0) (T := 93) (vs := [iv x65.op, iv x65.at_.X, iv x65.at_.Y]) 2 [iv x65.op, iv x65.at_.X, iv x65.at_.Y] S (wN rfl) rfl rfl rfl rfl rfl rfl rfl (lb rfl) fun a S => ?_
      exact leafL ⟨rfl, S⟩
    refine ⟨_, [(13, .pointer (some ⟨b44, 0, none⟩)), (91, .agg #[iv x65.op, iv x65.at_.X, iv x65.at_.Y])], rfl, (srcs_of [none, some 1] rfl rfl rfl), fun G a w S => ?_⟩
    refine sStore (p := b44) (off := 0) (T := 93) (vs := [iv s58, iv s59, iv s60]) (v := .agg #[iv x65.op, iv x65.at_.X, iv x65.at_.Y]) 5 [iv x65.op, iv x65.at_.X, iv x65.at_.Y] S (wN rfl) rfl rfl rfl rfl rfl rfl rfl (by simp) rfl fun a w S => ?_
    refine leafL ⟨rfl, _, _, .inr ⟨[], rfl, S, hz_of rfl, ?_⟩⟩
    refine node_by (A := [[], [], [0], [0, 1, 2]]) (nf := [2, 3]) (Y := [3, 2]) 4 (by kernel_rfl) (by kernel_rfl) (by kernel_rfl) (by kernel_rfl) (by kernel_rfl) [0, 1] (by kernel_rfl) (by decide) (by decide) (aD 0 3 3 (by decide) (aD 1 2 3 (by decide) (aY 2 1 (by decide) (aY 3 0 (by decide) (trivial))))) [(4, .pointer (some ⟨b11, 0, none⟩)), (8, .pointer (some ⟨b12, 0, none⟩)), (12, .pointer (some ⟨b43, 0, none⟩)), (13, .pointer (some ⟨b44, 0, none⟩)), (79, .func (.func 81) #[] #[u55, u56]), (80, .agg #[iv x65.op, iv x65.at_.X, iv x65.at_.Y]), (81, .agg #[iv x67.W, iv x67.H, .slice ad71 x67.Bits.length cp72])] (fin_of [none, none, none, none, none, none, none] rfl (by kernel_rfl) (by kernel_rfl)) (fun _ a w S => ?_)
    exact leafT (⟨r83, x65.op, x65.at_.X, x65.at_.Y, Option.some.inj h, S.fix [4, 5, 1, 0] [3, 4, 0, 5] (by decide) rfl rfl rfl⟩)
  · intro dk89 s0 L D a w hr hIL S
    clear h
    obtain ⟨s57, s58, s59, s60⟩ := s0
    obtain rfl := hr
    dsimp only at g90 hIL
    obtain ⟨rfl, rfl⟩ := hIL
    have h := g90
    clear g90 hl92
    replace S : St [mark dk89] E [] w0 99 a w [(4, .pointer (some ⟨b11, 0, none⟩)), (8, .pointer (some ⟨b12, 0, none⟩)), (12, .pointer (some ⟨b43, 0, none⟩)), (13, .pointer (some ⟨b44, 0, none⟩)), (79, .func (.func 81) #[] #[u55, u56])] [eBox b11 24 [iv p1.W, iv p1.H, .slice ad7 p1.Bits.length cp8], eBox b12 33 [iv 0, iv 0], eBox b43 3 [iv s57], eBox b44 93 [iv s58, iv s59, iv s60], eDef dk89] [fPtr (rI .i64) (u55) r53.1, fPtr r_api_Grid (u56) r53.2, fRep (rL rB) (.slice ad7 p1.Bits.length cp8) p1.Bits] := S
    exact leafB (leafT (⟨s57, s58, s59, s60, Option.some.inj h, dk89, S.fix [1, 2, 3, 4] [] (by decide) rfl rfl rfl⟩))
  · intro dk89 c0 t0 L D a w hr hIX S
    clear h
    obtain rfl := hr
    obtain ⟨e61, e62, e63, e64⟩ := t0
    dsimp only at g90 hIX
    obtain ⟨rfl, rfl, rfl⟩ := hIX
    have h := g90
    clear g90 hl92
    replace S : St [mark dk89] E [] w0 99 a w [(4, .pointer (some ⟨b11, 0, none⟩)), (8, .pointer (some ⟨b12, 0, none⟩)), (12, .pointer (some ⟨b43, 0, none⟩)), (13, .pointer (some ⟨b44, 0, none⟩)), (79, .func (.func 81) #[] #[u55, u56])] [eBox b12 33 [iv 0, iv 0], eBox b43 3 [iv e61], eBox b44 93 [iv e62, iv e63, iv e64], eDef dk89] [] := S
    exact wp_exit (xHit (leafT (⟨e61, e62, e63, e64, Option.some.inj h, dk89, S.fix [0, 1, 2, 3] [] (by decide) rfl rfl rfl⟩)))

end Go.Proofs.Ytffikfajljbmnaa
namespace Go.Proofs.Ytffikfajljbmnaa
open Go.RowKit
set_option linter.unusedVariables false

noncomputable def F_raddleref46_Start (p0 : api_Grid) (p1 : api_Grid) (p2 : Int) : Option Int :=
  Option.bind (F_raddleref01_Both p0 p1) fun r14 =>
  if r14 != 0 then
    some r14
  else
    Option.bind (α := Bool) (
      if decide (16 < p0.W) then
        some true
      else
        if decide (16 < p0.H) then
          some true
        else
          if decide (16 < p1.W) then
            some true
          else
            some (decide (16 < p1.H))) fun o20 =>
    if o20 then
      some 4
    else
      Option.bind (α := Bool) (
        if decide (p2 < 0) then
          some true
        else
          if decide (3 < p2) then
            some true
          else
            if p0.W != p1.W then
              some true
            else
              if p0.H != p1.H then
                some true
              else
                if decide (1 < p2) then
                  some (p0.W != p0.H)
                else
                  some false) fun o29 =>
      if o29 then
        some 2
      else
        some 0
set_option maxHeartbeats 4000000 in
set_option maxRecDepth 100000 in
theorem c_raddleref46_Start (E : Nat → Prop) (w0 : World) (p0 : api_Grid) (v0 : Value) (p1 : api_Grid) (v1 : Value) (p2 : Int) (r : Int) (h : F_raddleref46_Start p0 p1 p2 = some r) (S : St0 E [] w0 w0 [] [fRep r_api_Grid (v0) p0, fRep r_api_Grid (v1) p1]) :
    Calls Try.prog 32 #[v0, v1, iv p2] w0 (Ret (X := Unit) E [] w0 (fun _ => .int .i64 r) (fun _ => []) (fun _ => [])) := by
  unfold F_raddleref46_Start at h
  obtain ⟨u1, rfl, hu2⟩ := S.know (i := 0) (e := fRep r_api_Grid (v0) p0) rfl
  have S := S.learn (fRep (rL rB) u1 p0.Bits) hu2
  obtain ⟨ad3, cp4, _, rfl, _⟩ := hu2
  obtain ⟨u5, rfl, hu6⟩ := S.know (i := 2) (e := fRep r_api_Grid (v1) p1) rfl
  have S := S.learn (fRep (rL rB) u5 p1.Bits) hu6
  obtain ⟨ad7, cp8, _, rfl, _⟩ := hu6
  refine sEnter (args := [.agg #[iv p0.W, iv p0.H, .slice ad3 p0.Bits.length cp4], .agg #[iv p1.W, iv p1.H, .slice ad7 p1.Bits.length cp8], iv p2]) 63 Try.func32 rfl rfl (by simp) S (fun a S => ?_)
  refine sSeq (fun K9 hK9 => ?_)
  refine sRegion ?_
  refine sBox (v := .agg #[iv p0.W, iv p0.H, .slice ad3 p0.Bits.length cp4]) S (wN rfl) rfl rfl [iv p0.W, iv p0.H, .slice ad3 p0.Bits.length cp4] rfl rfl (lb rfl) fun a b10 w S => ?_
  refine sBox (v := .agg #[iv p1.W, iv p1.H, .slice ad7 p1.Bits.length cp8]) S (wN rfl) rfl rfl [iv p1.W, iv p1.H, .slice ad7 p1.Bits.length cp8] rfl rfl (lb rfl) fun a b11 w S => ?_
  refine sMove (iv 0) S (wN rfl) (.inr rfl) rfl rfl (lb rfl) fun a S => ?_
  refine leafL (leafT (hK9 _ _ ?_))
  refine sSeq (fun K12 hK12 => ?_)
  refine sSeq (fun K13 hK13 => ?_)
  refine sRegion ?_
  refine sLoadN (p := b10) (off := 0) (T := 24) (vs := [iv p0.W, iv p0.H, .slice ad3 p0.Bits.length cp4]) 1 [iv p0.W, iv p0.H, .slice ad3 p0.Bits.length cp4] S (wN rfl) rfl rfl rfl rfl rfl rfl rfl (lb rfl) fun a S => ?_
  refine sLoadN (p := b11) (off := 0) (T := 24) (vs := [iv p1.W, iv p1.H, .slice ad7 p1.Bits.length cp8]) 0 [iv p1.W, iv p1.H, .slice ad7 p1.Bits.length cp8] S (wN rfl) rfl rfl rfl rfl rfl rfl rfl (lb rfl) fun a S => ?_
  obtain ⟨r14, hx15, h⟩ := bindSome h
  have S1 := S.mem
  refine sCallQ (X := Unit) (f := 47) (vs := [.agg #[iv p0.W, iv p0.H, .slice ad3 p0.Bits.length cp4], .agg #[iv p1.W, iv p1.H, .slice ad7 p1.Bits.length cp8]]) (val := fun _ => iv r14) S (wN rfl) rfl callee47 rfl (S1.quiet [2, 3] rfl) (fun E1 w1 S1 => c_raddleref01_Both E1 w1 p0 (.agg #[iv p0.W, iv p0.H, .slice ad3 p0.Bits.length cp4]) p1 (.agg #[iv p1.W, iv p1.H, .slice ad7 p1.Bits.length cp8]) r14 hx15 S1) rfl (lb rfl) fun _ a w S => ?_
  refine sMove (iv r14) S (wN rfl) (.inr rfl) rfl rfl (lb rfl) fun a S => ?_
  refine leafL (leafT (hK13 _ _ ?_))
  refine sSeq (fun K16 hK16 => ?_)
  refine sRegion ?_
  refine sMove (iv r14) S (wN rfl) (.inl rfl) rfl rfl (lb rfl) fun a S => ?_
  refine sBin (.bool (r14 != 0)) S (wN rfl) rfl rfl rfl (bNe _ _ _ _ .i64 r14 0) rfl (lb rfl) fun a S => ?_
  refine leafL (leafT (hK16 _ _ ?_))
  rcases iteSome h with ⟨hc17, h⟩ | ⟨hc17, h⟩
  · refine sCondT S rfl hc17 ?_
    refine sSeq (fun K18 hK18 => ?_)
    refine sRegion ?_
    refine sMove (iv r14) S (wN rfl) (.inl rfl) rfl rfl (lb rfl) fun a S => ?_
    refine sMove (iv r14) S (wN rfl) (.inr rfl) rfl rfl (lb rfl) fun a S => ?_
    refine leafL (leafT (hK18 _ _ ?_))
    obtain rfl := Option.some.inj h
    exact wp_ret (rThen (sRet (iv r14) S (rsl1 rfl (rvT (t := 6) (v := iv r14) S rfl)) ⟨(), rfl, S.mem.sel [] [] (by decide) rfl rfl⟩))
  refine sCondF S rfl hc17 ?_
  refine wp_skip (leafT (hK12 _ _ ?_))
  refine sSeq (fun K19 hK19 => ?_)
  obtain ⟨t21, h, g22⟩ := bindSome h
  refine sCut (fun a w => ∃ o20, o20 = t21 ∧ St [] E [] w0 63 a w [(2, iv p2), (3, .pointer (some ⟨b10, 0, none⟩)), (4, .pointer (some ⟨b11, 0, none⟩)), (31, .bool o20)] [eBox b10 24 [iv p0.W, iv p0.H, .slice ad3 p0.Bits.length cp4], eBox b11 24 [iv p1.W, iv p1.H, .slice ad7 p1.Bits.length cp8]] [fRep (rL rB) (.slice ad3 p0.Bits.length cp4) p0.Bits, fRep (rL rB) (.slice ad7 p1.Bits.length cp8) p1.Bits]) ?_ (fun a w hI => ?_)
  · refine sRegion ?_
    refine sField (b := b10) (off := 0) 0 0 S (wN rfl) rfl rfl rfl rfl rfl (lb rfl) fun a S => ?_
    refine sLoad1 (p := b10) (off := 0) (T := 24) (vs := [iv p0.W, iv p0.H, .slice ad3 p0.Bits.length cp4]) 1 (iv p0.W) S (wN rfl) rfl rfl rfl rfl rfl rfl (lb rfl) fun a S => ?_
    refine sBin (.bool (decide (16 < p0.W))) S (wN rfl) rfl rfl rfl (bGt _ _ _ _ .i64 p0.W 16) rfl (lb rfl) fun a S => ?_
    refine sMove (.bool (decide (16 < p0.W))) S (wN rfl) (.inl rfl) rfl rfl (lb rfl) fun a S => ?_
    rcases iteSome h with ⟨hc23, h⟩ | ⟨hc23, h⟩
    · refine sSkip 3 false 17 18 S rfl rfl rfl hc23 rfl (lb rfl) fun a S => ?_
      refine sSkip 3 false 17 19 S rfl rfl rfl hc23 rfl (lb rfl) fun a S => ?_
      refine sSkip 3 false 17 20 S rfl rfl rfl hc23 rfl (lb rfl) fun a S => ?_
      refine sPickT (.bool true) S (wN rfl) rfl rfl hc23 rfl rfl (lb rfl) fun a S => ?_
      refine sMove (.bool true) S (wN rfl) (.inl rfl) rfl rfl (lb rfl) fun a S => ?_
      refine sSkip 8 false 22 23 S rfl rfl rfl rfl rfl (lb rfl) fun a S => ?_
      refine sSkip 8 false 22 24 S rfl rfl rfl rfl rfl (lb rfl) fun a S => ?_
      refine sSkip 8 false 22 25 S rfl rfl rfl rfl rfl (lb rfl) fun a S => ?_
      refine sPickT (.bool true) S (wN rfl) rfl rfl rfl rfl rfl (lb rfl) fun a S => ?_
      refine sMove (.bool true) S (wN rfl) (.inl rfl) rfl rfl (lb rfl) fun a S => ?_
      refine sSkip 13 false 27 28 S rfl rfl rfl rfl rfl (lb rfl) fun a S => ?_
      refine sSkip 13 false 27 29 S rfl rfl rfl rfl rfl (lb rfl) fun a S => ?_
      refine sSkip 13 false 27 30 S rfl rfl rfl rfl rfl (lb rfl) fun a S => ?_
      refine sPickT (.bool true) S (wN rfl) rfl rfl rfl rfl rfl (lb rfl) fun a S => ?_
      exact leafL (leafT (⟨true, Option.some.inj h, S.fix [1, 0] [1, 0] (by decide) rfl rfl rfl⟩))
    refine sField (b := b10) (off := 0) 1 1 S (wG 3 false 17 rfl rfl rfl hc23) rfl rfl rfl rfl rfl (lb rfl) fun a S => ?_
    refine sLoad1 (p := b10) (off := 1) (T := 24) (vs := [iv p0.W, iv p0.H, .slice ad3 p0.Bits.length cp4]) 1 (iv p0.H) S (wG 3 false 17 rfl rfl rfl hc23) rfl rfl rfl rfl rfl rfl (lb rfl) fun a S => ?_
    refine sBin (.bool (decide (16 < p0.H))) S (wG 3 false 17 rfl rfl rfl hc23) rfl rfl rfl (bGt _ _ _ _ .i64 p0.H 16) rfl (lb rfl) fun a S => ?_
    refine sPickF (.bool (decide (16 < p0.H))) S (wN rfl) rfl rfl hc23 rfl rfl (lb rfl) fun a S => ?_
    refine sMove (.bool (decide (16 < p0.H))) S (wN rfl) (.inl rfl) rfl rfl (lb rfl) fun a S => ?_
    rcases iteSome h with ⟨hc24, h⟩ | ⟨hc24, h⟩
    · refine sSkip 8 false 22 23 S rfl rfl rfl hc24 rfl (lb rfl) fun a S => ?_
      refine sSkip 8 false 22 24 S rfl rfl rfl hc24 rfl (lb rfl) fun a S => ?_
      refine sSkip 8 false 22 25 S rfl rfl rfl hc24 rfl (lb rfl) fun a S => ?_
      refine sPickT (.bool true) S (wN rfl) rfl rfl hc24 rfl rfl (lb rfl) fun a S => ?_
      refine sMove (.bool true) S (wN rfl) (.inl rfl) rfl rfl (lb rfl) fun a S => ?_
      refine sSkip 13 false 27 28 S rfl rfl rfl rfl rfl (lb rfl) fun a S => ?_
      refine sSkip 13 false 27 29 S rfl rfl rfl rfl rfl (lb rfl) fun a S => ?_
      refine sSkip 13 false 27 30 S rfl rfl rfl rfl rfl (lb rfl) fun a S => ?_
      refine sPickT (.bool true) S (wN rfl) rfl rfl rfl rfl rfl (lb rfl) fun a S => ?_
      exact leafL (leafT (⟨true, Option.some.inj h, S.fix [1, 0] [1, 0] (by decide) rfl rfl rfl⟩))
    refine sField (b := b11) (off := 0) 0 0 S (wG 8 false 22 rfl rfl rfl hc24) rfl rfl rfl rfl rfl (lb rfl) fun a S => ?_
    refine sLoad1 (p := b11) (off := 0) (T := 24) (vs := [iv p1.W, iv p1.H, .slice ad7 p1.Bits.length cp8]) 0 (iv p1.W) S (wG 8 false 22 rfl rfl rfl hc24) rfl rfl rfl rfl rfl rfl (lb rfl) fun a S => ?_
    refine sBin (.bool (decide (16 < p1.W))) S (wG 8 false 22 rfl rfl rfl hc24) rfl rfl rfl (bGt _ _ _ _ .i64 p1.W 16) rfl (lb rfl) fun a S => ?_
    refine sPickF (.bool (decide (16 < p1.W))) S (wN rfl) rfl rfl hc24 rfl rfl (lb rfl) fun a S => ?_
    refine sMove (.bool (decide (16 < p1.W))) S (wN rfl) (.inl rfl) rfl rfl (lb rfl) fun a S => ?_
    rcases iteSome h with ⟨hc25, h⟩ | ⟨hc25, h⟩
    · refine sSkip 13 false 27 28 S rfl rfl rfl hc25 rfl (lb rfl) fun a S => ?_
      refine sSkip 13 false 27 29 S rfl rfl rfl hc25 rfl (lb rfl) fun a S => ?_
      refine sSkip 13 false 27 30 S rfl rfl rfl hc25 rfl (lb rfl) fun a S => ?_
      refine sPickT (.bool true) S (wN rfl) rfl rfl hc25 rfl rfl (lb rfl) fun a S => ?_
      exact leafL (leafT (⟨true, Option.some.inj h, S.fix [1, 0] [1, 0] (by decide) rfl rfl rfl⟩))
    refine sField (b := b11) (off := 0) 1 1 S (wG 13 false 27 rfl rfl rfl hc25) rfl rfl rfl rfl rfl (lb rfl) fun a S => ?_
    refine sLoad1 (p := b11) (off := 1) (T := 24) (vs := [iv p1.W, iv p1.H, .slice ad7 p1.Bits.length cp8]) 0 (iv p1.H) S (wG 13 false 27 rfl rfl rfl hc25) rfl rfl rfl rfl rfl rfl (lb rfl) fun a S => ?_
    refine sBin (.bool (decide (16 < p1.H))) S (wG 13 false 27 rfl rfl rfl hc25) rfl rfl rfl (bGt _ _ _ _ .i64 p1.H 16) rfl (lb rfl) fun a S => ?_
    refine sPickF (.bool (decide (16 < p1.H))) S (wN rfl) rfl rfl hc25 rfl rfl (lb rfl) fun a S => ?_
    exact leafL (leafT (⟨decide (16 < p1.H), Option.some.inj h, S.fix [1, 0] [1, 0] (by decide) rfl rfl rfl⟩))
  obtain ⟨o20, rfl, S⟩ := hI
  have h := g22
  clear g22
  try dsimp only at h
  rcases iteSome h with ⟨hc26, h⟩ | ⟨hc26, h⟩
  · refine sCondT S rfl hc26 ?_
    refine sSeq (fun K27 hK27 => ?_)
    refine sRegion ?_
    refine sMove (iv 4) S (wN rfl) (.inr rfl) rfl rfl (lb rfl) fun a S => ?_
    refine leafL (leafT (hK27 _ _ ?_))
    obtain rfl := Option.some.inj h
    exact wp_ret (rThen (sRet (iv 4) S (rsl1 rfl (rvT (t := 6) (v := iv 4) S rfl)) ⟨(), rfl, S.mem.sel [] [] (by decide) rfl rfl⟩))
  refine sCondF S rfl hc26 ?_
  refine wp_skip (leafT (hK19 _ _ ?_))
  refine sSeq (fun K28 hK28 => ?_)
  obtain ⟨t30, h, g31⟩ := bindSome h
  refine sCut (fun a w => ∃ o29, o29 = t30 ∧ St [] E [] w0 63 a w [(62, .bool o29)] [] []) ?_ (fun a w hI => ?_)
  rotate_left
  · obtain ⟨o29, rfl, S⟩ := hI
    have h := g31
    clear g31
    try dsimp only at h
    rcases iteSome h with ⟨hc37, h⟩ | ⟨hc37, h⟩
    · refine sCondT S rfl hc37 ?_
      refine sSeq (fun K38 hK38 => ?_)
      refine sRegion ?_
      refine sMove (iv 2) S (wN rfl) (.inr rfl) rfl rfl (lb rfl) fun a S => ?_
      refine leafL (leafT (hK38 _ _ ?_))
      obtain rfl := Option.some.inj h
      exact wp_ret (rThen (sRet (iv 2) S (rsl1 rfl (rvT (t := 6) (v := iv 2) S rfl)) ⟨(), rfl, S.mem.sel [] [] (by decide) rfl rfl⟩))
    refine sCondF S rfl hc37 ?_
    refine wp_skip (leafT (hK28 _ _ ?_))
    refine sSeq (fun K39 hK39 => ?_)
    refine sRegion ?_
    refine sMove (iv 0) S (wN rfl) (.inr rfl) rfl rfl (lb rfl) fun a S => ?_
    refine leafL (leafT (hK39 _ _ ?_))
    obtain rfl := Option.some.inj h
    exact wp_ret (sRet (iv 0) S (rsl1 rfl (rvT (t := 6) (v := iv 0) S rfl)) ⟨(), rfl, S.mem.sel [] [] (by decide) rfl rfl⟩)
  refine sRegion ?_
  refine sMove (iv p2) S (wN rfl) (.inl rfl) rfl rfl (lb rfl) fun a S => ?_
  refine sBin (.bool (decide (p2 < 0))) S (wN rfl) rfl rfl rfl (bLt _ _ _ _ .i64 p2 0) rfl (lb rfl) fun a S => ?_
  refine sMove (.bool (decide (p2 < 0))) S (wN rfl) (.inl rfl) rfl rfl (lb rfl) fun a S => ?_
  rcases iteSome h with ⟨hc32, h⟩ | ⟨hc32, h⟩
  · refine sSkip 2 false 34 35 S rfl rfl rfl hc32 rfl (lb rfl) fun a S => ?_
    refine sSkip 2 false 34 36 S rfl rfl rfl hc32 rfl (lb rfl) fun a S => ?_
    refine sPickT (.bool true) S (wN rfl) rfl rfl hc32 rfl rfl (lb rfl) fun a S => ?_
    refine sMove (.bool true) S (wN rfl) (.inl rfl) rfl rfl (lb rfl) fun a S => ?_
    refine sSkip 6 false 38 39 S rfl rfl rfl rfl rfl (lb rfl) fun a S => ?_
    refine sSkip 6 false 38 40 S rfl rfl rfl rfl rfl (lb rfl) fun a S => ?_
    refine sSkip 6 false 38 41 S rfl rfl rfl rfl rfl (lb rfl) fun a S => ?_
    refine sSkip 6 false 38 42 S rfl rfl rfl rfl rfl (lb rfl) fun a S => ?_
    refine sSkip 6 false 38 43 S rfl rfl rfl rfl rfl (lb rfl) fun a S => ?_
    refine sPickT (.bool true) S (wN rfl) rfl rfl rfl rfl rfl (lb rfl) fun a S => ?_
    refine sMove (.bool true) S (wN rfl) (.inl rfl) rfl rfl (lb rfl) fun a S => ?_
    refine sSkip 13 false 45 46 S rfl rfl rfl rfl rfl (lb rfl) fun a S => ?_
    refine sSkip 13 false 45 47 S rfl rfl rfl rfl rfl (lb rfl) fun a S => ?_
    refine sSkip 13 false 45 48 S rfl rfl rfl rfl rfl (lb rfl) fun a S => ?_
    refine sSkip 13 false 45 49 S rfl rfl rfl rfl rfl (lb rfl) fun a S => ?_
    refine sSkip 13 false 45 50 S rfl rfl rfl rfl rfl (lb rfl) fun a S => ?_
    refine sPickT (.bool true) S (wN rfl) rfl rfl rfl rfl rfl (lb rfl) fun a S => ?_
    refine sMove (.bool true) S (wN rfl) (.inl rfl) rfl rfl (lb rfl) fun a S => ?_
    refine sSkip 20 false 52 53 S rfl rfl rfl rfl rfl (lb rfl) fun a S => ?_
    refine sSkip 20 false 52 54 S rfl rfl rfl rfl rfl (lb rfl) fun a S => ?_
    refine sSkip 20 false 52 55 S rfl rfl rfl rfl rfl (lb rfl) fun a S => ?_
    refine sSkipU 23 true 55 56 S rfl rfl rfl rfl (lb rfl) fun a S => ?_
    refine sSkipU 23 true 55 57 S rfl rfl rfl rfl (lb rfl) fun a S => ?_
    refine sSkipU 23 true 55 58 S rfl rfl rfl rfl (lb rfl) fun a S => ?_
    refine sSkipU 23 true 55 59 S rfl rfl rfl rfl (lb rfl) fun a S => ?_
    refine sSkipU 23 true 55 60 S rfl rfl rfl rfl (lb rfl) fun a S => ?_
    refine sSkip 20 false 52 61 S rfl rfl rfl rfl rfl (lb rfl) fun a S => ?_
    refine sPickT (.bool true) S (wN rfl) rfl rfl rfl rfl rfl (lb rfl) fun a S => ?_
    exact leafL (leafT (⟨true, Option.some.inj h, S.fix [] [] (by decide) rfl rfl rfl⟩))
  refine sMove (iv p2) S (wG 2 false 34 rfl rfl rfl hc32) (.inl rfl) rfl rfl (lb rfl) fun a S => ?_
  refine sBin (.bool (decide (3 < p2))) S (wG 2 false 34 rfl rfl rfl hc32) rfl rfl rfl (bGt _ _ _ _ .i64 p2 3) rfl (lb rfl) fun a S => ?_
  refine sPickF (.bool (decide (3 < p2))) S (wN rfl) rfl rfl hc32 rfl rfl (lb rfl) fun a S => ?_
  refine sMove (.bool (decide (3 < p2))) S (wN rfl) (.inl rfl) rfl rfl (lb rfl) fun a S => ?_
  rcases iteSome h with ⟨hc33, h⟩ | ⟨hc33, h⟩
  · refine sSkip 6 false 38 39 S rfl rfl rfl hc33 rfl (lb rfl) fun a S => ?_
    refine sSkip 6 false 38 40 S rfl rfl rfl hc33 rfl (lb rfl) fun a S => ?_
    refine sSkip 6 false 38 41 S rfl rfl rfl hc33 rfl (lb rfl) fun a S => ?_
    refine sSkip 6 false 38 42 S rfl rfl rfl hc33 rfl (lb rfl) fun a S => ?_
    refine sSkip 6 false 38 43 S rfl rfl rfl hc33 rfl (lb rfl) fun a S => ?_
    refine sPickT (.bool true) S (wN rfl) rfl rfl hc33 rfl rfl (lb rfl) fun a S => ?_
    refine sMove (.bool true) S (wN rfl) (.inl rfl) rfl rfl (lb rfl) fun a S => ?_
    refine sSkip 13 false 45 46 S rfl rfl rfl rfl rfl (lb rfl) fun a S => ?_
    refine sSkip 13 false 45 47 S rfl rfl rfl rfl rfl (lb rfl) fun a S => ?_
    refine sSkip 13 false 45 48 S rfl rfl rfl rfl rfl (lb rfl) fun a S => ?_
    refine sSkip 13 false 45 49 S rfl rfl rfl rfl rfl (lb rfl) fun a S => ?_
    refine sSkip 13 false 45 50 S rfl rfl rfl rfl rfl (lb rfl) fun a S => ?_
    refine sPickT (.bool true) S (wN rfl) rfl rfl rfl rfl rfl (lb rfl) fun a S => ?_
    refine sMove (.bool true) S (wN rfl) (.inl rfl) rfl rfl (lb rfl) fun a S => ?_
    refine sSkip 20 false 52 53 S rfl rfl rfl rfl rfl (lb rfl) fun a S => ?_
    refine sSkip 20 false 52 54 S rfl rfl rfl rfl rfl (lb rfl) fun a S => ?_
    refine sSkip 20 false 52 55 S rfl rfl rfl rfl rfl (lb rfl) fun a S => ?_
    refine sSkipU 23 true 55 56 S rfl rfl rfl rfl (lb rfl) fun a S => ?_
    refine sSkipU 23 true 55 57 S rfl rfl rfl rfl (lb rfl) fun a S => ?_
    refine sSkipU 23 true 55 58 S rfl rfl rfl rfl (lb rfl) fun a S => ?_
    refine sSkipU 23 true 55 59 S rfl rfl rfl rfl (lb rfl) fun a S => ?_
    refine sSkipU 23 true 55 60 S rfl rfl rfl rfl (lb rfl) fun a S => ?_
    refine sSkip 20 false 52 61 S rfl rfl rfl rfl rfl (lb rfl) fun a S => ?_
    refine sPickT (.bool true) S (wN rfl) rfl rfl rfl rfl rfl (lb rfl) fun a S => ?_
    exact leafL (leafT (⟨true, Option.some.inj h, S.fix [] [] (by decide) rfl rfl rfl⟩))
  refine sField (b := b10) (off := 0) 0 0 S (wG 6 false 38 rfl rfl rfl hc33) rfl rfl rfl rfl rfl (lb rfl) fun a S => ?_
  refine sLoad1 (p := b10) (off := 0) (T := 24) (vs := [iv p0.W, iv p0.H, .slice ad3 p0.Bits.length cp4]) 0 (iv p0.W) S (wG 6 false 38 rfl rfl rfl hc33) rfl rfl rfl rfl rfl rfl (lb rfl) fun a S => ?_
  refine sField (b := b11) (off := 0) 0 0 S (wG 6 false 38 rfl rfl rfl hc33) rfl rfl rfl rfl rfl (lb rfl) fun a S => ?_
  refine sLoad1 (p := b11) (off := 0) (T := 24) (vs := [iv p1.W, iv p1.H, .slice ad7 p1.Bits.length cp8]) 1 (iv p1.W) S (wG 6 false 38 rfl rfl rfl hc33) rfl rfl rfl rfl rfl rfl (lb rfl) fun a S => ?_
  refine sBin (.bool (p0.W != p1.W)) S (wG 6 false 38 rfl rfl rfl hc33) rfl rfl rfl (bNe _ _ _ _ .i64 p0.W p1.W) rfl (lb rfl) fun a S => ?_
  refine sPickF (.bool (p0.W != p1.W)) S (wN rfl) rfl rfl hc33 rfl rfl (lb rfl) fun a S => ?_
  refine sMove (.bool (p0.W != p1.W)) S (wN rfl) (.inl rfl) rfl rfl (lb rfl) fun a S => ?_
  rcases iteSome h with ⟨hc34, h⟩ | ⟨hc34, h⟩
  · refine sSkip 13 false 45 46 S rfl rfl rfl hc34 rfl (lb rfl) fun a S => ?_
    refine sSkip 13 false 45 47 S rfl rfl rfl hc34 rfl (lb rfl) fun a S => ?_
    refine sSkip 13 false 45 48 S rfl rfl rfl hc34 rfl (lb rfl) fun a S => ?_
    refine sSkip 13 false 45 49 S rfl rfl rfl hc34 rfl (lb rfl) fun a S => ?_
    refine sSkip 13 false 45 50 S rfl rfl rfl hc34 rfl (lb rfl) fun a S => ?_
    refine sPickT (.bool true) S (wN rfl) rfl rfl hc34 rfl rfl (lb rfl) fun a S => ?_
    refine sMove (.bool true) S (wN rfl) (.inl rfl) rfl rfl (lb rfl) fun a S => ?_
    refine sSkip 20 false 52 53 S rfl rfl rfl rfl rfl (lb rfl) fun a S => ?_
    refine sSkip 20 false 52 54 S rfl rfl rfl rfl rfl (lb rfl) fun a S => ?_
    refine sSkip 20 false 52 55 S rfl rfl rfl rfl rfl (lb rfl) fun a S => ?_
    refine sSkipU 23 true 55 56 S rfl rfl rfl rfl (lb rfl) fun a S => ?_
    refine sSkipU 23 true 55 57 S rfl rfl rfl rfl (lb rfl) fun a S => ?_
    refine sSkipU 23 true 55 58 S rfl rfl rfl rfl (lb rfl) fun a S => ?_
    refine sSkipU 23 true 55 59 S rfl rfl rfl rfl (lb rfl) fun a S => ?_
    refine sSkipU 23 true 55 60 S rfl rfl rfl rfl (lb rfl) fun a S => ?_
    refine sSkip 20 false 52 61 S rfl rfl rfl rfl rfl (lb rfl) fun a S => ?_
    refine sPickT (.bool true) S (wN rfl) rfl rfl rfl rfl rfl (lb rfl) fun a S => ?_
    exact leafL (leafT (⟨true, Option.some.inj h, S.fix [] [] (by decide) rfl rfl rfl⟩))
  refine sField (b := b10) (off := 0) 1 1 S (wG 13 false 45 rfl rfl rfl hc34) rfl rfl rfl rfl rfl (lb rfl) fun a S => ?_
  refine sLoad1 (p := b10) (off := 1) (T := 24) (vs := [iv p0.W, iv p0.H, .slice ad3 p0.Bits.length cp4]) 0 (iv p0.H) S (wG 13 false 45 rfl rfl rfl hc34) rfl rfl rfl rfl rfl rfl (lb rfl) fun a S => ?_
  refine sField (b := b11) (off := 0) 1 1 S (wG 13 false 45 rfl rfl rfl hc34) rfl rfl rfl rfl rfl (lb rfl) fun a S => ?_
  refine sLoad1 (p := b11) (off := 1) (T := 24) (vs := [iv p1.W, iv p1.H, .slice ad7 p1.Bits.length cp8]) 1 (iv p1.H) S (wG 13 false 45 rfl rfl rfl hc34) rfl rfl rfl rfl rfl rfl (lb rfl) fun a S => ?_
  refine sBin (.bool (p0.H != p1.H)) S (wG 13 false 45 rfl rfl rfl hc34) rfl rfl rfl (bNe _ _ _ _ .i64 p0.H p1.H) rfl (lb rfl) fun a S => ?_
  refine sPickF (.bool (p0.H != p1.H)) S (wN rfl) rfl rfl hc34 rfl rfl (lb rfl) fun a S => ?_
  refine sMove (.bool (p0.H != p1.H)) S (wN rfl) (.inl rfl) rfl rfl (lb rfl) fun a S => ?_
  rcases iteSome h with ⟨hc35, h⟩ | ⟨hc35, h⟩
  · refine sSkip 20 false 52 53 S rfl rfl rfl hc35 rfl (lb rfl) fun a S => ?_
    refine sSkip 20 false 52 54 S rfl rfl rfl hc35 rfl (lb rfl) fun a S => ?_
    refine sSkip 20 false 52 55 S rfl rfl rfl hc35 rfl (lb rfl) fun a S => ?_
    refine sSkipU 23 true 55 56 S rfl rfl rfl rfl (lb rfl) fun a S => ?_
    refine sSkipU 23 true 55 57 S rfl rfl rfl rfl (lb rfl) fun a S => ?_
    refine sSkipU 23 true 55 58 S rfl rfl rfl rfl (lb rfl) fun a S => ?_
    refine sSkipU 23 true 55 59 S rfl rfl rfl rfl (lb rfl) fun a S => ?_
    refine sSkipU 23 true 55 60 S rfl rfl rfl rfl (lb rfl) fun a S => ?_
    refine sSkip 20 false 52 61 S rfl rfl rfl hc35 rfl (lb rfl) fun a S => ?_
    refine sPickT (.bool true) S (wN rfl) rfl rfl hc35 rfl rfl (lb rfl) fun a S => ?_
    exact leafL (leafT (⟨true, Option.some.inj h, S.fix [] [] (by decide) rfl rfl rfl⟩))
  refine sMove (iv p2) S (wG 20 false 52 rfl rfl rfl hc35) (.inl rfl) rfl rfl (lb rfl) fun a S => ?_
  refine sBin (.bool (decide (1 < p2))) S (wG 20 false 52 rfl rfl rfl hc35) rfl rfl rfl (bGt _ _ _ _ .i64 p2 1) rfl (lb rfl) fun a S => ?_
  refine sMove (.bool (decide (1 < p2))) S (wG 20 false 52 rfl rfl rfl hc35) (.inl rfl) rfl rfl (lb rfl) fun a S => ?_
  rcases iteSome h with ⟨hc36, h⟩ | ⟨hc36, h⟩
  rotate_left
  · refine sSkip 23 true 55 56 S rfl rfl rfl hc36 rfl (lb rfl) fun a S => ?_
    refine sSkip 23 true 55 57 S rfl rfl rfl hc36 rfl (lb rfl) fun a S => ?_
    refine sSkip 23 true 55 58 S rfl rfl rfl hc36 rfl (lb rfl) fun a S => ?_
    refine sSkip 23 true 55 59 S rfl rfl rfl hc36 rfl (lb rfl) fun a S => ?_
    refine sSkip 23 true 55 60 S rfl rfl rfl hc36 rfl (lb rfl) fun a S => ?_
    refine sPickF (.bool false) S (wG 20 false 52 rfl rfl rfl hc35) rfl rfl hc36 rfl rfl (lb rfl) fun a S => ?_
    refine sPickF (.bool false) S (wN rfl) rfl rfl hc35 rfl rfl (lb rfl) fun a S => ?_
    exact leafL (leafT (⟨false, Option.some.inj h, S.fix [] [] (by decide) rfl rfl rfl⟩))
  refine sField (b := b10) (off := 0) 0 0 S (wG 23 true 55 rfl rfl rfl hc36) rfl rfl rfl rfl rfl (lb rfl) fun a S => ?_
  refine sLoad1 (p := b10) (off := 0) (T := 24) (vs := [iv p0.W, iv p0.H, .slice ad3 p0.Bits.length cp4]) 0 (iv p0.W) S (wG 23 true 55 rfl rfl rfl hc36) rfl rfl rfl rfl rfl rfl (lb rfl) fun a S => ?_
  refine sField (b := b10) (off := 0) 1 1 S (wG 23 true 55 rfl rfl rfl hc36) rfl rfl rfl rfl rfl (lb rfl) fun a S => ?_
  refine sLoad1 (p := b10) (off := 1) (T := 24) (vs := [iv p0.W, iv p0.H, .slice ad3 p0.Bits.length cp4]) 0 (iv p0.H) S (wG 23 true 55 rfl rfl rfl hc36) rfl rfl rfl rfl rfl rfl (lb rfl) fun a S => ?_
  refine sBin (.bool (p0.W != p0.H)) S (wG 23 true 55 rfl rfl rfl hc36) rfl rfl rfl (bNe _ _ _ _ .i64 p0.W p0.H) rfl (lb rfl) fun a S => ?_
  refine sPickT (.bool (p0.W != p0.H)) S (wG 20 false 52 rfl rfl rfl hc35) rfl rfl hc36 rfl rfl (lb rfl) fun a S => ?_
  refine sPickF (.bool (p0.W != p0.H)) S (wN rfl) rfl rfl hc35 rfl rfl (lb rfl) fun a S => ?_
  exact leafL (leafT (⟨p0.W != p0.H, Option.some.inj h, S.fix [] [] (by decide) rfl rfl rfl⟩))

end Go.Proofs.Ytffikfajljbmnaa
namespace Go.Proofs.Ytffikfajljbmnaa
open Go.RowKit
set_option linter.unusedVariables false

noncomputable def F_raddleref46_Last (p0 : Int) : Option Int :=
  if p0 == 0 then
    some 0
  else
    if p0 == 1 then
      some 3
    else
      if p0 == 2 then
        some 7
      else
        some 15
set_option maxHeartbeats 4000000 in
set_option maxRecDepth 100000 in
theorem c_raddleref46_Last (E : Nat → Prop) (w0 : World) (p0 : Int) (r : Int) (h : F_raddleref46_Last p0 = some r) (S : St0 E [] w0 w0 [] []) :
    Calls Try.prog 35 #[iv p0] w0 (Ret (X := Unit) E [] w0 (fun _ => .int .i64 r) (fun _ => []) (fun _ => [])) := by
  unfold F_raddleref46_Last at h
  refine sEnter (args := [iv p0]) 10 Try.func35 rfl rfl (by simp) S (fun a S => ?_)
  refine sSeq (fun K1 hK1 => ?_)
  refine sRegion ?_
  refine sMove (iv 0) S (wN rfl) (.inr rfl) rfl rfl (lb rfl) fun a S => ?_
  refine leafL (leafT (hK1 _ _ ?_))
  refine sSeq (fun K2 hK2 => ?_)
  refine sSeq (fun K3 hK3 => ?_)
  refine sRegion ?_
  refine sMove (iv p0) S (wN rfl) (.inl rfl) rfl rfl (lb rfl) fun a S => ?_
  refine leafL (leafT (hK3 _ _ ?_))
  refine wp_block ?_
  refine sSeq (fun K4 hK4 => ?_)
  refine sRegion ?_
  refine sBin (.bool (p0 == 0)) S (wN rfl) rfl rfl rfl (bEq _ _ _ _ .i64 p0 0) rfl (lb rfl) fun a S => ?_
  refine sMove (.bool (p0 == 0)) S (wN rfl) (.inr rfl) rfl rfl (lb rfl) fun a S => ?_
  refine leafL (leafT (hK4 _ _ ?_))
  rcases iteSome h with ⟨hc5, h⟩ | ⟨hc5, h⟩
  · refine sCondT S rfl hc5 ?_
    refine sSeq (fun K6 hK6 => ?_)
    refine sRegion ?_
    refine sMove (iv 0) S (wN rfl) (.inr rfl) rfl rfl (lb rfl) fun a S => ?_
    refine leafL (leafT (hK6 _ _ ?_))
    obtain rfl := Option.some.inj h
    exact wp_ret (rBlock (rThen (sRet (iv 0) S (rsl1 rfl (rvT (t := 2) (v := iv 0) S rfl)) ⟨(), rfl, S.mem.sel [] [] (by decide) rfl rfl⟩)))
  refine sCondF S rfl hc5 ?_
  refine sSeq (fun K7 hK7 => ?_)
  refine sRegion ?_
  refine sBin (.bool (p0 == 1)) S (wN rfl) rfl rfl rfl (bEq _ _ _ _ .i64 p0 1) rfl (lb rfl) fun a S => ?_
  refine sMove (.bool (p0 == 1)) S (wN rfl) (.inr rfl) rfl rfl (lb rfl) fun a S => ?_
  refine leafL (leafT (hK7 _ _ ?_))
  rcases iteSome h with ⟨hc8, h⟩ | ⟨hc8, h⟩
  · refine sCondT S rfl hc8 ?_
    refine sSeq (fun K9 hK9 => ?_)
    refine sRegion ?_
    refine sMove (iv 3) S (wN rfl) (.inr rfl) rfl rfl (lb rfl) fun a S => ?_
    refine leafL (leafT (hK9 _ _ ?_))
    obtain rfl := Option.some.inj h
    exact wp_ret (rBlock (rThen (sRet (iv 3) S (rsl1 rfl (rvT (t := 2) (v := iv 3) S rfl)) ⟨(), rfl, S.mem.sel [] [] (by decide) rfl rfl⟩)))
  refine sCondF S rfl hc8 ?_
  refine sSeq (fun K10 hK10 => ?_)
  refine sRegion ?_
  refine sBin (.bool (p0 == 2)) S (wN rfl) rfl rfl rfl (bEq _ _ _ _ .i64 p0 2) rfl (lb rfl) fun a S => ?_
  refine sMove (.bool (p0 == 2)) S (wN rfl) (.inr rfl) rfl rfl (lb rfl) fun a S => ?_
  refine leafL (leafT (hK10 _ _ ?_))
  rcases iteSome h with ⟨hc11, h⟩ | ⟨hc11, h⟩
  · refine sCondT S rfl hc11 ?_
    refine sSeq (fun K12 hK12 => ?_)
    refine sRegion ?_
    refine sMove (iv 7) S (wN rfl) (.inr rfl) rfl rfl (lb rfl) fun a S => ?_
    refine leafL (leafT (hK12 _ _ ?_))
    obtain rfl := Option.some.inj h
    exact wp_ret (rBlock (rThen (sRet (iv 7) S (rsl1 rfl (rvT (t := 2) (v := iv 7) S rfl)) ⟨(), rfl, S.mem.sel [] [] (by decide) rfl rfl⟩)))
  refine sCondF S rfl hc11 ?_
  refine wp_skip (leafB (leafT (hK2 _ _ ?_)))
  refine sSeq (fun K13 hK13 => ?_)
  refine sRegion ?_
  refine sMove (iv 15) S (wN rfl) (.inr rfl) rfl rfl (lb rfl) fun a S => ?_
  refine leafL (leafT (hK13 _ _ ?_))
  obtain rfl := Option.some.inj h
  exact wp_ret (sRet (iv 15) S (rsl1 rfl (rvT (t := 2) (v := iv 15) S rfl)) ⟨(), rfl, S.mem.sel [] [] (by decide) rfl rfl⟩)

end Go.Proofs.Ytffikfajljbmnaa
namespace Go.Proofs.Ytffikfajljbmnaa
open Go.RowKit
set_option linter.unusedVariables false

noncomputable def F_raddleref01_Zero_s0 (p0 : Int) (p1 : Int) : Option api_Grid :=
  Option.bind (makeO (w64 (p0 * p1)) false) fun m6 =>
  some (api_Grid.mk p0 p1 m6)
set_option maxHeartbeats 4000000 in
set_option maxRecDepth 100000 in
theorem c_raddleref01_Zero_s0 (E : Nat → Prop) (w0 : World) (p0 : Int) (p1 : Int) (r : api_Grid) (h : F_raddleref01_Zero_s0 p0 p1 = some r) (S : St0 E [] w0 w0 [] []) :
    Calls Try.prog 66 #[iv p0, iv p1] w0 (Ret (X := Option Addr × Nat) E [] w0 (fun x => .agg #[iv r.W, iv r.H, .slice x.1 r.Bits.length x.2]) (fun x => [eRow rB 4 (.slice x.1 r.Bits.length x.2) r.Bits]) (fun _ => [])) := by
  unfold F_raddleref01_Zero_s0 at h
  refine sEnter (args := [iv p0, iv p1]) 12 Try.func66 rfl rfl (by simp) S (fun a S => ?_)
  refine sSeq (fun K1 hK1 => ?_)
  refine sRegion ?_
  refine sAlloc (.agg #[iv 0, iv 0, .slice none 0 0]) S (wN rfl) rfl rfl [iv 0, iv 0, .slice none 0 0] rfl rfl (lb rfl) fun a b2 w S => ?_
  refine leafL (leafT (hK1 _ _ ?_))
  refine sSeq (fun K3 hK3 => ?_)
  refine sRegion ?_
  refine sMove (iv p0) S (wN rfl) (.inl rfl) rfl rfl (lb rfl) fun a S => ?_
  refine sMove (iv p1) S (wN rfl) (.inl rfl) rfl rfl (lb rfl) fun a S => ?_
  refine sMove (iv p0) S (wN rfl) (.inl rfl) rfl rfl (lb rfl) fun a S => ?_
  refine sMove (iv p1) S (wN rfl) (.inl rfl) rfl rfl (lb rfl) fun a S => ?_
  refine sBin (iv (w64 (p0 * p1))) S (wN rfl) rfl rfl rfl (bMul _ _ _ _ p0 p1) rfl (lb rfl) fun a S => ?_
  obtain ⟨m6, hx7, h⟩ := bindSome h
  refine sMake (r := rB) (m := w64 (p0 * p1)) (xs := m6) (.bool false) false 1 S (wN rfl) rfl Try.underlying22 rfl rfl (by decide) (fun _ _ => rfl) rfl rfl hx7 rfl (lb rfl) fun a w ad4 cp5 S => ?_
  refine sBuild [(0, iv p0), (1, iv p1), (2, .slice ad4 m6.length cp5)] [iv p0, iv p1, .slice ad4 m6.length cp5] S (wN rfl) rfl rfl rfl rfl (lb rfl) fun a S => ?_
  refine sStore (p := b2) (off := 0) (T := 24) (vs := [iv 0, iv 0, .slice none 0 0]) (v := .agg #[iv p0, iv p1, .slice ad4 m6.length cp5]) 1 [iv p0, iv p1, .slice ad4 m6.length cp5] S (wN rfl) rfl rfl rfl rfl rfl rfl rfl (by simp) rfl fun a w S => ?_
  refine leafL (leafT (hK3 _ _ ?_))
  obtain rfl := Option.some.inj h
  exact wp_ret (sRet (.agg #[iv p0, iv p1, .slice ad4 m6.length cp5]) S (rsl1 rfl (rvN (c := 4) (t := 24) (T := 24) (p := b2) 0 [iv p0, iv p1, .slice ad4 m6.length cp5] S rfl rfl rfl rfl)) ⟨(ad4, cp5), rfl, S.mem.sel [1] [] (by decide) rfl rfl⟩)

end Go.Proofs.Ytffikfajljbmnaa
namespace Go.Proofs.Ytffikfajljbmnaa
open Go.RowKit
set_option linter.unusedVariables false

noncomputable def F_raddleref01_Set_s0 (p0 : Int) (p1 : Int) (p2 : (List Bool)) (p3 : Int) (p4 : Int) (p5 : Bool) : Option (List Bool) :=
  Option.bind (idxO p2 (w64 ((w64 (p4 * p0)) + p3))) fun x3 =>
  Option.bind (setO p2 (w64 ((w64 (p4 * p0)) + p3)) p5) fun l8 =>
  (keepO p2 l8).bind fun _ =>
  some l8
set_option maxHeartbeats 4000000 in
set_option maxRecDepth 100000 in
theorem c_raddleref01_Set_s0 (E : Nat → Prop) (w0 : World) (p0 : Int) (p1 : Int) (p2 : (List Bool)) (ad_2 : Option Addr) (cp_2 : Nat) (p3 : Int) (p4 : Int) (p5 : Bool) (r : (List Bool)) (h : F_raddleref01_Set_s0 p0 p1 p2 p3 p4 p5 = some r) (S : St0 E (keysL [eRow rB 4 (.slice ad_2 p2.length cp_2) p2]) w0 w0 [eRow rB 4 (.slice ad_2 p2.length cp_2) p2] []) :
    Calls Try.prog 67 #[.agg #[iv p0, iv p1, .slice ad_2 p2.length cp_2], iv p3, iv p4, .bool p5] w0 (Ret (X := Unit) E (keysL [eRow rB 4 (.slice ad_2 p2.length cp_2) p2]) w0 (fun _ => .tuple #[]) (fun _ => [eRow rB 4 (.slice ad_2 p2.length cp_2) r]) (fun _ => [])) := by
  unfold F_raddleref01_Set_s0 at h
  refine sEnter (args := [.agg #[iv p0, iv p1, .slice ad_2 p2.length cp_2], iv p3, iv p4, .bool p5]) 18 Try.func67 rfl rfl (by simp) S (fun a S => ?_)
  refine sSeq (fun K1 hK1 => ?_)
  refine sRegion ?_
  refine sBox (v := .agg #[iv p0, iv p1, .slice ad_2 p2.length cp_2]) S (wN rfl) rfl rfl [iv p0, iv p1, .slice ad_2 p2.length cp_2] rfl rfl (lb rfl) fun a b2 w S => ?_
  refine leafL (leafT (hK1 _ _ ?_))
  refine sRegion ?_
  refine sField (b := b2) (off := 0) 2 2 S (wN rfl) rfl rfl rfl rfl rfl (lb rfl) fun a S => ?_
  refine sLoad1 (p := b2) (off := 2) (T := 24) (vs := [iv p0, iv p1, .slice ad_2 p2.length cp_2]) 0 (.slice ad_2 p2.length cp_2) S (wN rfl) rfl rfl rfl rfl rfl rfl (lb rfl) fun a S => ?_
  refine sMove (iv p4) S (wN rfl) (.inl rfl) rfl rfl (lb rfl) fun a S => ?_
  refine sField (b := b2) (off := 0) 0 0 S (wN rfl) rfl rfl rfl rfl rfl (lb rfl) fun a S => ?_
  refine sLoad1 (p := b2) (off := 0) (T := 24) (vs := [iv p0, iv p1, .slice ad_2 p2.length cp_2]) 0 (iv p0) S (wN rfl) rfl rfl rfl rfl rfl rfl (lb rfl) fun a S => ?_
  refine sBin (iv (w64 (p4 * p0))) S (wN rfl) rfl rfl rfl (bMul _ _ _ _ p4 p0) rfl (lb rfl) fun a S => ?_
  refine sMove (iv p3) S (wN rfl) (.inl rfl) rfl rfl (lb rfl) fun a S => ?_
  refine sBin (iv (w64 ((w64 (p4 * p0)) + p3))) S (wN rfl) rfl rfl rfl (bAdd _ _ _ _ (w64 (p4 * p0)) p3) rfl (lb rfl) fun a S => ?_
  refine sMove (.bool p5) S (wN rfl) (.inl rfl) rfl rfl (lb rfl) fun a S => ?_
  obtain ⟨x3, hx4, h⟩ := bindSome h
  obtain ⟨q5, hq6, hp7⟩ := pIdxR (P := Try.prog) (r := rB) (T := 4) (v := .slice ad_2 p2.length cp_2) (xs := p2) (j := w64 ((w64 (p4 * p0)) + p3)) 22 4 1 S Try.underlying22 rfl rfl hx4
  refine sIdxV (v := .slice ad_2 p2.length cp_2) (k := .i64) (j := w64 ((w64 (p4 * p0)) + p3)) S (wN rfl) rfl rfl rfl hq6 rfl (lb rfl) fun a S => ?_
  obtain ⟨l8, hx9, h⟩ := bindSome h
  refine sStoreR (r := rB) (T := 4) (xs := p2) (ys := l8) (y := p5) (v := .slice ad_2 p2.length cp_2) (vq := q5) (u := .bool p5) (j := w64 ((w64 (p4 * p0)) + p3)) 1 S hp7 (wN rfl) rfl rfl rfl rfl rfl hx9 rfl rfl fun a w S => ?_
  rw [setO_v hx9 ad_2 cp_2] at S
  obtain ⟨_, hk10, h⟩ := bindSome h
  rw [keepO_v hk10 ad_2 cp_2] at S
  obtain rfl := Option.some.inj h
  exact leafL (sEnd (.tuple #[]) S (rsl0 rfl ) ⟨(), rfl, S.mem.sel [0] [] (by decide) rfl rfl⟩)

end Go.Proofs.Ytffikfajljbmnaa
namespace Go.Proofs.Ytffikfajljbmnaa
open Go.RowKit
set_option linter.unusedVariables false

noncomputable def F_raddleref01_Mod (p0 : Int) (p1 : Int) : Option Int :=
  Option.bind (remI p0 p1) fun z3 =>
  Option.bind (remI (w64 (z3 + p1)) p1) fun z5 =>
  some z5
set_option maxHeartbeats 4000000 in
set_option maxRecDepth 100000 in
theorem c_raddleref01_Mod (E : Nat → Prop) (w0 : World) (p0 : Int) (p1 : Int) (r : Int) (h : F_raddleref01_Mod p0 p1 = some r) (S : St0 E [] w0 w0 [] []) :
    Calls Try.prog 68 #[iv p0, iv p1] w0 (Ret (X := Unit) E [] w0 (fun _ => .int .i64 r) (fun _ => []) (fun _ => [])) := by
  unfold F_raddleref01_Mod at h
  refine sEnter (args := [iv p0, iv p1]) 12 Try.func68 rfl rfl (by simp) S (fun a S => ?_)
  refine sSeq (fun K1 hK1 => ?_)
  refine sRegion ?_
  refine sMove (iv 0) S (wN rfl) (.inr rfl) rfl rfl (lb rfl) fun a S => ?_
  refine leafL (leafT (hK1 _ _ ?_))
  refine sSeq (fun K2 hK2 => ?_)
  refine sRegion ?_
  refine sMove (iv p0) S (wN rfl) (.inl rfl) rfl rfl (lb rfl) fun a S => ?_
  refine sMove (iv p1) S (wN rfl) (.inl rfl) rfl rfl (lb rfl) fun a S => ?_
  obtain ⟨z3, hx4, h⟩ := bindSome h
  refine sBin (iv z3) S (wN rfl) rfl rfl rfl (bRem _ _ _ _ (x := p0) (y := p1) hx4) rfl (lb rfl) fun a S => ?_
  refine sMove (iv p1) S (wN rfl) (.inl rfl) rfl rfl (lb rfl) fun a S => ?_
  refine sBin (iv (w64 (z3 + p1))) S (wN rfl) rfl rfl rfl (bAdd _ _ _ _ z3 p1) rfl (lb rfl) fun a S => ?_
  refine sMove (iv p1) S (wN rfl) (.inl rfl) rfl rfl (lb rfl) fun a S => ?_
  obtain ⟨z5, hx6, h⟩ := bindSome h
  refine sBin (iv z5) S (wN rfl) rfl rfl rfl (bRem _ _ _ _ (x := w64 (z3 + p1)) (y := p1) hx6) rfl (lb rfl) fun a S => ?_
  refine sMove (iv z5) S (wN rfl) (.inr rfl) rfl rfl (lb rfl) fun a S => ?_
  refine leafL (leafT (hK2 _ _ ?_))
  obtain rfl := Option.some.inj h
  exact wp_ret (sRet (iv z5) S (rsl1 rfl (rvT (t := 4) (v := iv z5) S rfl)) ⟨(), rfl, S.mem.sel [] [] (by decide) rfl rfl⟩)

end Go.Proofs.Ytffikfajljbmnaa
namespace Go.Proofs.Ytffikfajljbmnaa
open Go.RowKit
set_option linter.unusedVariables false

noncomputable def F_raddleref01_At (p0 : api_Grid) (p1 : Int) (p2 : Int) : Option Bool :=
  Option.bind (idxO p0.Bits (w64 ((w64 (p2 * p0.W)) + p1))) fun x8 =>
  some x8
set_option maxHeartbeats 4000000 in
set_option maxRecDepth 100000 in
theorem c_raddleref01_At (E : Nat → Prop) (w0 : World) (p0 : api_Grid) (v0 : Value) (p1 : Int) (p2 : Int) (r : Bool) (h : F_raddleref01_At p0 p1 p2 = some r) (S : St0 E [] w0 w0 [] [fRep r_api_Grid (v0) p0]) :
    Calls Try.prog 69 #[v0, iv p1, iv p2] w0 (Ret (X := Unit) E [] w0 (fun _ => .bool r) (fun _ => []) (fun _ => [])) := by
  unfold F_raddleref01_At at h
  obtain ⟨u1, rfl, hu2⟩ := S.know (i := 0) (e := fRep r_api_Grid (v0) p0) rfl
  have S := S.learn (fRep (rL rB) u1 p0.Bits) hu2
  obtain ⟨ad3, cp4, _, rfl, _⟩ := hu2
  refine sEnter (args := [.agg #[iv p0.W, iv p0.H, .slice ad3 p0.Bits.length cp4], iv p1, iv p2]) 17 Try.func69 rfl rfl (by simp) S (fun a S => ?_)
  refine sSeq (fun K5 hK5 => ?_)
  refine sRegion ?_
  refine sBox (v := .agg #[iv p0.W, iv p0.H, .slice ad3 p0.Bits.length cp4]) S (wN rfl) rfl rfl [iv p0.W, iv p0.H, .slice ad3 p0.Bits.length cp4] rfl rfl (lb rfl) fun a b6 w S => ?_
  refine sMove (.bool false) S (wN rfl) (.inr rfl) rfl rfl (lb rfl) fun a S => ?_
  refine leafL (leafT (hK5 _ _ ?_))
  refine sSeq (fun K7 hK7 => ?_)
  refine sRegion ?_
  refine sField (b := b6) (off := 0) 2 2 S (wN rfl) rfl rfl rfl rfl rfl (lb rfl) fun a S => ?_
  refine sLoad1 (p := b6) (off := 2) (T := 24) (vs := [iv p0.W, iv p0.H, .slice ad3 p0.Bits.length cp4]) 0 (.slice ad3 p0.Bits.length cp4) S (wN rfl) rfl rfl rfl rfl rfl rfl (lb rfl) fun a S => ?_
  refine sMove (iv p2) S (wN rfl) (.inl rfl) rfl rfl (lb rfl) fun a S => ?_
  refine sField (b := b6) (off := 0) 0 0 S (wN rfl) rfl rfl rfl rfl rfl (lb rfl) fun a S => ?_
  refine sLoad1 (p := b6) (off := 0) (T := 24) (vs := [iv p0.W, iv p0.H, .slice ad3 p0.Bits.length cp4]) 0 (iv p0.W) S (wN rfl) rfl rfl rfl rfl rfl rfl (lb rfl) fun a S => ?_
  refine sBin (iv (w64 (p2 * p0.W))) S (wN rfl) rfl rfl rfl (bMul _ _ _ _ p2 p0.W) rfl (lb rfl) fun a S => ?_
  refine sMove (iv p1) S (wN rfl) (.inl rfl) rfl rfl (lb rfl) fun a S => ?_
  refine sBin (iv (w64 ((w64 (p2 * p0.W)) + p1))) S (wN rfl) rfl rfl rfl (bAdd _ _ _ _ (w64 (p2 * p0.W)) p1) rfl (lb rfl) fun a S => ?_
  obtain ⟨x8, hx9, h⟩ := bindSome h
  obtain ⟨q10, hq11, S⟩ := pIdx (P := Try.prog) (r := rB) (v := .slice ad3 p0.Bits.length cp4) (xs := p0.Bits) (j := w64 ((w64 (p2 * p0.W)) + p1)) 22 4 0 S Try.underlying22 rfl rfl hx9
  refine sIdxV (v := .slice ad3 p0.Bits.length cp4) (k := .i64) (j := w64 ((w64 (p2 * p0.W)) + p1)) S (wN rfl) rfl rfl rfl hq11 rfl (lb rfl) fun a S => ?_
  obtain ⟨u12, S⟩ := pLoad (r := rB) (q := q10) (x := x8) 0 S rfl
  obtain rfl : u12 = .bool x8 := S.mem.know (i := 1) (e := fRep rB (u12) x8) rfl
  refine sLoadV1 (vq := q10) 0 (.bool x8) S (wN rfl) rfl rfl rfl rfl rfl (lb rfl) fun a S => ?_
  refine sMove (.bool x8) S (wN rfl) (.inr rfl) rfl rfl (lb rfl) fun a S => ?_
  refine leafL (leafT (hK7 _ _ ?_))
  obtain rfl := Option.some.inj h
  exact wp_ret (sRet (.bool x8) S (rsl1 rfl (rvT (t := 6) (v := .bool x8) S rfl)) ⟨(), rfl, S.mem.sel [] [] (by decide) rfl rfl⟩)

end Go.Proofs.Ytffikfajljbmnaa
namespace Go.Proofs.Ytffikfajljbmnaa
open Go.RowKit
set_option linter.unusedVariables false

def anc_raddleref01_Shifted_0 : List (List Nat) := [[], [], [], [], [3], [2, 3, 4], [1, 2, 3, 4, 5], [], [7], [1, 2, 3, 4, 5, 6, 7, 8], [], [], [], [12], [1, 2, 3, 4, 5, 6, 7, 8, 9, 11, 12, 13], [1, 2, 3, 4, 5, 6, 7, 8, 9, 10, 11, 12, 13, 14], [], [16], [1, 2, 3, 4, 5, 6, 7, 8, 9, 10, 11, 12, 13, 14, 15, 16, 17], [], [], [], [1, 2, 3, 4, 5, 6, 7, 8, 9, 10, 11, 12, 13, 14, 15, 16, 17, 18, 19, 20, 21], [0, 1, 2, 3, 4, 5, 6, 7, 8, 9, 10, 11, 12, 13, 14, 15, 16, 17, 18, 19, 20, 21, 22]]
noncomputable def raddleref01_Shifted_l1 (p0 : api_Grid) (p1 : Int) (s18 : Int) (p2 : Int) (r9 : api_Grid) : (Int × List Bool) → Option ((Int × List Bool) ⊕ List Bool) := fun s0 => match s0 with
  | (s31, s32) =>
    if decide (s31 < p0.H) then
      Option.bind (F_raddleref01_Mod p1 p0.W) fun r41 =>
      Option.bind (F_raddleref01_Mod (w64 (s18 + r41)) p0.W) fun r43 =>
      Option.bind (F_raddleref01_Mod p2 p0.H) fun r45 =>
      Option.bind (F_raddleref01_Mod (w64 (s31 + r45)) p0.H) fun r47 =>
      Option.bind (F_raddleref01_At p0 s18 s31) fun r49 =>
      Option.bind (F_raddleref01_Set_s0 r9.W r9.H s32 r43 r47 r49) fun r51 =>
      some (.inl (w64 (s31 + 1), r51))
    else
      some (.inr s32)
noncomputable def raddleref01_Shifted_l2 (p0 : api_Grid) (p1 : Int) (p2 : Int) (r9 : api_Grid) : (Int × List Bool) → Option ((Int × List Bool) ⊕ List Bool) := fun s0 => match s0 with
  | (s18, s19) =>
    if decide (s18 < p0.W) then
      Option.bind (α := List Bool) (
        Option.bind (whileO (raddleref01_Shifted_l1 p0 p1 s18 p2 r9) (0, s19)) fun e36 =>
          some e36) fun o27 =>
      some (.inl (w64 (s18 + 1), o27))
    else
      some (.inr s19)
noncomputable def F_raddleref01_Shifted (p0 : api_Grid) (p1 : Int) (p2 : Int) : Option api_Grid :=
  Option.bind (F_raddleref01_Zero_s0 p0.W p0.H) fun r9 =>
  Option.bind (α := List Bool) (
    Option.bind (whileO (raddleref01_Shifted_l2 p0 p1 p2 r9) (0, r9.Bits)) fun e23 =>
      some e23) fun o14 =>
  some (api_Grid.mk r9.W r9.H o14)
def c_raddleref01_Shifted_val (r : api_Grid) (x : Value) : Value := x
def c_raddleref01_Shifted_D (r : api_Grid) (x : Value) : List Fact := [fRep r_api_Grid x r]
set_option maxHeartbeats 4000000 in
set_option maxRecDepth 100000 in
theorem c_raddleref01_Shifted (E : Nat → Prop) (w0 : World) (p0 : api_Grid) (v0 : Value) (p1 : Int) (p2 : Int) (r : api_Grid) (h : F_raddleref01_Shifted p0 p1 p2 = some r) (S : St0 E [] w0 w0 [] [fRep r_api_Grid (v0) p0]) :
    Calls Try.prog 36 #[v0, iv p1, iv p2] w0 (Ret (X := Value) E [] w0 (c_raddleref01_Shifted_val r) (fun _ => []) (c_raddleref01_Shifted_D r)) := by
  unfold F_raddleref01_Shifted at h
  obtain ⟨u1, rfl, hu2⟩ := S.know (i := 0) (e := fRep r_api_Grid (v0) p0) rfl
  have S := S.learn (fRep (rL rB) u1 p0.Bits) hu2
  obtain ⟨ad3, cp4, _, rfl, _⟩ := hu2
  refine sEnter (args := [.agg #[iv p0.W, iv p0.H, .slice ad3 p0.Bits.length cp4], iv p1, iv p2]) 52 Try.func36 rfl rfl (by simp) S (fun a S => ?_)
  refine sSeq (fun K5 hK5 => ?_)
  refine sRegion ?_
  refine sBox (v := .agg #[iv p0.W, iv p0.H, .slice ad3 p0.Bits.length cp4]) S (wN rfl) rfl rfl [iv p0.W, iv p0.H, .slice ad3 p0.Bits.length cp4] rfl rfl (lb rfl) fun a b6 w S => ?_
  refine sAlloc (.agg #[iv 0, iv 0, .slice none 0 0]) S (wN rfl) rfl rfl [iv 0, iv 0, .slice none 0 0] rfl rfl (lb rfl) fun a b7 w S => ?_
  refine leafL (leafT (hK5 _ _ ?_))
  refine sSeq (fun K8 hK8 => ?_)
  refine sRegion ?_
  refine sField (b := b6) (off := 0) 0 0 S (wN rfl) rfl rfl rfl rfl rfl (lb rfl) fun a S => ?_
  refine sLoad1 (p := b6) (off := 0) (T := 24) (vs := [iv p0.W, iv p0.H, .slice ad3 p0.Bits.length cp4]) 1 (iv p0.W) S (wN rfl) rfl rfl rfl rfl rfl rfl (lb rfl) fun a S => ?_
  refine sField (b := b6) (off := 0) 1 1 S (wN rfl) rfl rfl rfl rfl rfl (lb rfl) fun a S => ?_
  refine sLoad1 (p := b6) (off := 1) (T := 24) (vs := [iv p0.W, iv p0.H, .slice ad3 p0.Bits.length cp4]) 1 (iv p0.H) S (wN rfl) rfl rfl rfl rfl rfl rfl (lb rfl) fun a S => ?_
  obtain ⟨r9, hx10, h⟩ := bindSome h
  refine sCall (X := Option Addr × Nat) (f := 66) (vs := [iv p0.W, iv p0.H]) (val := fun x => .agg #[iv r9.W, iv r9.H, .slice x.1 r9.Bits.length x.2]) (B' := fun x => [eRow rB 4 (.slice x.1 r9.Bits.length x.2) r9.Bits]) (D' := fun _ => []) [] [eBox b7 24 [iv 0, iv 0, .slice none 0 0], eBox b6 24 [iv p0.W, iv p0.H, .slice ad3 p0.Bits.length cp4]] [] [0, 1] [] S (wN rfl) rfl callee66 rfl (by decide) rfl rfl (fun E1 w1 S1 => c_raddleref01_Zero_s0 E1 w1 p0.W p0.H r9 hx10 S1) rfl (lb rfl) fun xx a w S => ?_
  obtain ⟨ad11, cp12⟩ := xx
  dsimp only at S
  refine sAlloc (.agg #[iv 0, iv 0, .slice none 0 0]) S (wN rfl) rfl rfl [iv 0, iv 0, .slice none 0 0] rfl rfl (lb rfl) fun a b13 w S => ?_
  refine sStore (p := b13) (off := 0) (T := 24) (vs := [iv 0, iv 0, .slice none 0 0]) (v := .agg #[iv r9.W, iv r9.H, .slice ad11 r9.Bits.length cp12]) 0 [iv r9.W, iv r9.H, .slice ad11 r9.Bits.length cp12] S (wN rfl) rfl rfl rfl rfl rfl rfl rfl (by simp) rfl fun a w S => ?_
  refine leafL (leafT (hK8 _ _ ?_))
  obtain ⟨t15, h, g16⟩ := bindSome h
  refine sCut (fun a w => ∃ o14, o14 = t15 ∧ St [] E [] w0 52 a w [(6, .pointer (some ⟨b7, 0, none⟩)), (7, .pointer (some ⟨b13, 0, none⟩))] [eBox b7 24 [iv 0, iv 0, .slice none 0 0], eBox b13 24 [iv r9.W, iv r9.H, .slice ad11 o14.length cp12], eRow rB 4 (.slice ad11 o14.length cp12) o14] []) ?_ (fun a w hI => ?_)
  rotate_left
  · obtain ⟨o14, rfl, S⟩ := hI
    have h := g16
    clear g16
    try dsimp only at h
    refine sSeq (fun K54 hK54 => ?_)
    refine sRegion ?_
    refine sLoadN (p := b13) (off := 0) (T := 24) (vs := [iv r9.W, iv r9.H, .slice ad11 o14.length cp12]) 1 [iv r9.W, iv r9.H, .slice ad11 o14.length cp12] S (wN rfl) rfl rfl rfl rfl rfl rfl rfl (lb rfl) fun a S => ?_
    refine sStore (p := b7) (off := 0) (T := 24) (vs := [iv 0, iv 0, .slice none 0 0]) (v := .agg #[iv r9.W, iv r9.H, .slice ad11 o14.length cp12]) 0 [iv r9.W, iv r9.H, .slice ad11 o14.length cp12] S (wN rfl) rfl rfl rfl rfl rfl rfl rfl (by simp) rfl fun a w S => ?_
    refine leafL (leafT (hK54 _ _ ?_))
    obtain rfl := Option.some.inj h
    have S := S.shutR (r := rB) (T := 4) (v := .slice ad11 o14.length cp12) (xs := o14) 2 rfl
    have S := S.learn (fRep r_api_Grid (.agg #[iv r9.W, iv r9.H, .slice ad11 o14.length cp12]) (api_Grid.mk r9.W r9.H o14)) ⟨_, rfl, S.mem.know (i := 0) (e := fRep (rL rB) (.slice ad11 o14.length cp12) o14) rfl⟩
    exact wp_ret (sRet (.agg #[iv r9.W, iv r9.H, .slice ad11 o14.length cp12]) S (rsl1 rfl (rvN (c := 6) (t := 24) (T := 24) (p := b7) 0 [iv r9.W, iv r9.H, .slice ad11 o14.length cp12] S rfl rfl rfl rfl)) ⟨(.agg #[iv r9.W, iv r9.H, .slice ad11 o14.length cp12]), rfl, S.mem.sel [] [0] (by decide) rfl rfl⟩)
  refine sSeq (fun K17 hK17 => ?_)
  refine sRegion ?_
  refine sMove (iv 0) S (wN rfl) (.inr rfl) rfl rfl (lb rfl) fun a S => ?_
  refine leafL (leafT (hK17 _ _ ?_))
  refine wp_block ?_
  obtain ⟨t22, hl, g21⟩ := bindSome h
  refine sLoop hl (fun s0 a w => match s0 with | (s18, s19) => St [] E [] w0 52 a w [(1, iv p1), (2, iv p2), (3, .pointer (some ⟨b6, 0, none⟩)), (6, .pointer (some ⟨b7, 0, none⟩)), (7, .pointer (some ⟨b13, 0, none⟩)), (8, iv s18)] [eBox b6 24 [iv p0.W, iv p0.H, .slice ad3 p0.Bits.length cp4], eBox b7 24 [iv 0, iv 0, .slice none 0 0], eBox b13 24 [iv r9.W, iv r9.H, .slice ad11 s19.length cp12], eRow rB 4 (.slice ad11 s19.length cp12) s19] [fRep (rL rB) (.slice ad3 p0.Bits.length cp4) p0.Bits]) (S.fix [3, 2, 0, 1] [0] (by decide) rfl rfl rfl) ?_
  clear hl h
  intro s0 a w c0 hI h hu20
  obtain ⟨s18, s19⟩ := s0
  unfold raddleref01_Shifted_l2 at h
  dsimp only at h hI
  have S := hI
  refine sSeq (fun K24 hK24 => ?_)
  refine sSeq (fun K25 hK25 => ?_)
  refine sRegion ?_
  refine sMove (iv s18) S (wN rfl) (.inl rfl) rfl rfl (lb rfl) fun a S => ?_
  refine sField (b := b6) (off := 0) 0 0 S (wN rfl) rfl rfl rfl rfl rfl (lb rfl) fun a S => ?_
  refine sLoad1 (p := b6) (off := 0) (T := 24) (vs := [iv p0.W, iv p0.H, .slice ad3 p0.Bits.length cp4]) 0 (iv p0.W) S (wN rfl) rfl rfl rfl rfl rfl rfl (lb rfl) fun a S => ?_
  refine sBin (.bool (decide (s18 < p0.W))) S (wN rfl) rfl rfl rfl (bLt _ _ _ _ .i64 s18 p0.W) rfl (lb rfl) fun a S => ?_
  refine leafL (leafT (hK25 _ _ ?_))
  rcases iteSome h with ⟨hc26, h⟩ | ⟨hc26, h⟩
  rotate_left
  · refine sCondF S rfl hc26 ?_
    obtain rfl := Option.some.inj h
    obtain rfl := hu20 _ rfl
    have h := g21
    clear g21
    try dsimp only at h
    exact wp_exit (xThen (xThen (xHit (leafT (⟨s19, Option.some.inj h, S.fix [1, 2, 3] [] (by decide) rfl rfl rfl⟩)))))
  refine sCondT S rfl hc26 ?_
  refine wp_skip (leafT (hK24 _ _ ?_))
  obtain ⟨t28, h, g29⟩ := bindSome h
  refine sCut (fun a w => ∃ o27, o27 = t28 ∧ St [] E [] w0 52 a w [(1, iv p1), (2, iv p2), (3, .pointer (some ⟨b6, 0, none⟩)), (6, .pointer (some ⟨b7, 0, none⟩)), (7, .pointer (some ⟨b13, 0, none⟩)), (8, iv s18)] [eBox b6 24 [iv p0.W, iv p0.H, .slice ad3 p0.Bits.length cp4], eBox b7 24 [iv 0, iv 0, .slice none 0 0], eBox b13 24 [iv r9.W, iv r9.H, .slice ad11 o27.length cp12], eRow rB 4 (.slice ad11 o27.length cp12) o27] [fRep (rL rB) (.slice ad3 p0.Bits.length cp4) p0.Bits]) ?_ (fun a w hI => ?_)
  rotate_left
  · obtain ⟨o27, rfl, S⟩ := hI
    have h := g29
    clear g29
    try dsimp only at h
    refine sRegion ?_
    refine sMove (iv s18) S (wN rfl) (.inl rfl) rfl rfl (lb rfl) fun a S => ?_
    refine sBin (iv (w64 (s18 + 1))) S (wN rfl) rfl rfl rfl (bAdd _ _ _ _ s18 1) rfl (lb rfl) fun a S => ?_
    refine sMove (iv (w64 (s18 + 1))) S (wN rfl) (.inr rfl) rfl rfl (lb rfl) fun a S => ?_
    exact leafL (leafT (⟨(w64 (s18 + 1), o27), (Option.some.inj h).symm, (S.fix [0, 1, 2, 3] [0] (by decide) rfl rfl rfl)⟩))
  refine wp_block ?_
  refine sSeq (fun K30 hK30 => ?_)
  refine sRegion ?_
  refine sMove (iv 0) S (wN rfl) (.inr rfl) rfl rfl (lb rfl) fun a S => ?_
  refine leafL (leafT (hK30 _ _ ?_))
  refine wp_block ?_
  obtain ⟨t35, hl, g34⟩ := bindSome h
  refine sLoop hl (fun s0 a w => match s0 with | (s31, s32) => St [] E [] w0 52 a w [(1, iv p1), (2, iv p2), (3, .pointer (some ⟨b6, 0, none⟩)), (6, .pointer (some ⟨b7, 0, none⟩)), (7, .pointer (some ⟨b13, 0, none⟩)), (8, iv s18), (9, iv s31)] [eBox b6 24 [iv p0.W, iv p0.H, .slice ad3 p0.Bits.length cp4], eBox b7 24 [iv 0, iv 0, .slice none 0 0], eBox b13 24 [iv r9.W, iv r9.H, .slice ad11 s32.length cp12], eRow rB 4 (.slice ad11 s32.length cp12) s32] [fRep (rL rB) (.slice ad3 p0.Bits.length cp4) p0.Bits]) (S.fix [0, 1, 2, 3] [0] (by decide) rfl rfl rfl) ?_
  clear hl h
  intro s0 a w c0 hI h hu33
  obtain ⟨s31, s32⟩ := s0
  unfold raddleref01_Shifted_l1 at h
  dsimp only at h hI
  have S := hI
  refine sSeq (fun K37 hK37 => ?_)
  refine sSeq (fun K38 hK38 => ?_)
  refine sRegion ?_
  refine sMove (iv s31) S (wN rfl) (.inl rfl) rfl rfl (lb rfl) fun a S => ?_
  refine sField (b := b6) (off := 0) 1 1 S (wN rfl) rfl rfl rfl rfl rfl (lb rfl) fun a S => ?_
  refine sLoad1 (p := b6) (off := 1) (T := 24) (vs := [iv p0.W, iv p0.H, .slice ad3 p0.Bits.length cp4]) 0 (iv p0.H) S (wN rfl) rfl rfl rfl rfl rfl rfl (lb rfl) fun a S => ?_
  refine sBin (.bool (decide (s31 < p0.H))) S (wN rfl) rfl rfl rfl (bLt _ _ _ _ .i64 s31 p0.H) rfl (lb rfl) fun a S => ?_
  refine leafL (leafT (hK38 _ _ ?_))
  rcases iteSome h with ⟨hc39, h⟩ | ⟨hc39, h⟩
  rotate_left
  · refine sCondF S rfl hc39 ?_
    obtain rfl := Option.some.inj h
    obtain rfl := hu33 _ rfl
    have h := g34
    clear g34
    try dsimp only at h
    exact wp_exit (xThen (xThen (xHit (leafB (leafT (⟨s32, Option.some.inj h, S.fix [0, 1, 2, 3] [0] (by decide) rfl rfl rfl⟩))))))
  refine sCondT S rfl hc39 ?_
  refine wp_skip (leafT (hK37 _ _ ?_))
  refine sSeq (fun K40 hK40 => ?_)
  refine wp_block ?_
  obtain ⟨r41, hx42, h⟩ := bindSome h
  obtain ⟨r43, hx44, h⟩ := bindSome h
  obtain ⟨r45, hx46, h⟩ := bindSome h
  obtain ⟨r47, hx48, h⟩ := bindSome h
  obtain ⟨r49, hx50, h⟩ := bindSome h
  obtain ⟨r51, hx52, h⟩ := bindSome h
  refine sDraw (nf := [23]) (W := [(0, 27, .agg #[iv r9.W, iv r9.H, .slice ad11 s32.length cp12]), (1, 28, iv s18), (2, 29, iv p1), (3, 30, .pointer (some ⟨b6, 0, none⟩)), (4, 31, iv p0.W), (5, 32, iv r41), (6, 33, iv (w64 (s18 + r41))), (7, 34, .pointer (some ⟨b6, 0, none⟩)), (8, 35, iv p0.W), (9, 36, iv r43), (10, 37, iv s31), (11, 38, iv p2), (12, 39, .pointer (some ⟨b6, 1, none⟩)), (13, 40, iv p0.H), (14, 41, iv r45), (15, 42, iv (w64 (s31 + r45))), (16, 43, .pointer (some ⟨b6, 1, none⟩)), (17, 44, iv p0.H), (18, 45, iv r47), (19, 46, .agg #[iv p0.W, iv p0.H, .slice ad3 p0.Bits.length cp4]), (20, 47, iv s18), (21, 48, iv s31), (22, 49, .bool r49)]) rfl S ?_
  refine node_by (A := anc_raddleref01_Shifted_0) (nf := [23]) (Y := []) (W := [(0, 27, .agg #[iv r9.W, iv r9.H, .slice ad11 s32.length cp12]), (1, 28, iv s18), (2, 29, iv p1), (3, 30, .pointer (some ⟨b6, 0, none⟩)), (4, 31, iv p0.W), (5, 32, iv r41), (6, 33, iv (w64 (s18 + r41))), (7, 34, .pointer (some ⟨b6, 0, none⟩)), (8, 35, iv p0.W), (9, 36, iv r43), (10, 37, iv s31), (11, 38, iv p2), (12, 39, .pointer (some ⟨b6, 1, none⟩)), (13, 40, iv p0.H), (14, 41, iv r45), (15, 42, iv (w64 (s31 + r45))), (16, 43, .pointer (some ⟨b6, 1, none⟩)), (17, 44, iv p0.H), (18, 45, iv r47), (19, 46, .agg #[iv p0.W, iv p0.H, .slice ad3 p0.Bits.length cp4]), (20, 47, iv s18), (21, 48, iv s31), (22, 49, .bool r49)]) 24 (by kernel_rfl) (by kernel_rfl) (by kernel_rfl) (by kernel_rfl) (by kernel_rfl) [0, 1, 2, 3, 4, 5, 6, 7, 8, 9, 10, 11, 12, 13, 14, 15, 16, 17, 18, 19, 20, 21, 22] (by kernel_rfl) (by decide) (by decide) (aF 0 23 (by decide) ?_ (aF 1 22 (by decide) ?_ (aF 2 21 (by decide) ?_ (aF 3 20 (by decide) ?_ (aF 4 19 (by decide) ?_ (aF 5 18 (by decide) ?_ (aF 6 17 (by decide) ?_ (aF 7 16 (by decide) ?_ (aF 8 15 (by decide) ?_ (aF 9 14 (by decide) ?_ (aF 10 13 (by decide) ?_ (aF 11 12 (by decide) ?_ (aF 12 11 (by decide) ?_ (aF 13 10 (by decide) ?_ (aF 14 9 (by decide) ?_ (aF 15 8 (by decide) ?_ (aF 16 7 (by decide) ?_ (aF 17 6 (by decide) ?_ (aF 18 5 (by decide) ?_ (aF 19 4 (by decide) ?_ (aF 20 3 (by decide) ?_ (aF 21 2 (by decide) ?_ (aF 22 1 (by decide) ?_ (aN 23 0 (by decide) ?_ (trivial))))))))))))))))))))))))) [] (fun q hq => by cases hq) (fun hY => absurd (hY 23 (by decide)) (by decide))
  · refine fI 27 (.agg #[iv r9.W, iv r9.H, .slice ad11 s32.length cp12]) [(7, .pointer (some ⟨b13, 0, none⟩))] 0 [none] rfl rfl rfl rfl rfl rfl fun G a w S => ?_
    refine sLoadN (p := b13) (off := 0) (T := 24) (vs := [iv r9.W, iv r9.H, .slice ad11 s32.length cp12]) 2 [iv r9.W, iv r9.H, .slice ad11 s32.length cp12] S (wN rfl) rfl rfl rfl rfl rfl rfl rfl (lb rfl) fun a S => ?_
    exact leafL ⟨rfl, S⟩
  · refine fI 28 (iv s18) [(8, iv s18)] 1 [none] rfl rfl rfl rfl rfl rfl fun G a w S => ?_
    refine sMove (iv s18) S (wN rfl) (.inl rfl) rfl rfl (lb rfl) fun a S => ?_
    exact leafL ⟨rfl, S⟩
  · refine fI 29 (iv p1) [(1, iv p1)] 2 [none] rfl rfl rfl rfl rfl rfl fun G a w S => ?_
    refine sMove (iv p1) S (wN rfl) (.inl rfl) rfl rfl (lb rfl) fun a S => ?_
    exact leafL ⟨rfl, S⟩
  · refine fI 30 (.pointer (some ⟨b6, 0, none⟩)) [(3, .pointer (some ⟨b6, 0, none⟩))] 3 [none] rfl rfl rfl rfl rfl rfl fun G a w S => ?_
    refine sField (b := b6) (off := 0) 0 0 S (wN rfl) rfl rfl rfl rfl rfl (lb rfl) fun a S => ?_
    exact leafL ⟨rfl, S⟩
  · refine fI 31 (iv p0.W) [(30, .pointer (some ⟨b6, 0, none⟩))] 4 [some 3] rfl rfl rfl rfl rfl rfl fun G a w S => ?_
    refine sLoad1 (p := b6) (off := 0) (T := 24) (vs := [iv p0.W, iv p0.H, .slice ad3 p0.Bits.length cp4]) 0 (iv p0.W) S (wN rfl) rfl rfl rfl rfl rfl rfl (lb rfl) fun a S => ?_
    exact leafL ⟨rfl, S⟩
  · refine fI 32 (iv r41) [(29, iv p1), (31, iv p0.W)] 5 [some 2, some 4] rfl rfl rfl rfl rfl rfl fun G a w S => ?_
    have S1 := S.mem
    refine sCallQ (X := Unit) (f := 68) (vs := [iv p1, iv p0.W]) (val := fun _ => iv r41) S (wN rfl) rfl callee68 rfl (S1.quiet [] rfl) (fun E1 w1 S1 => c_raddleref01_Mod E1 w1 p1 p0.W r41 hx42 S1) rfl (lb rfl) fun _ a w S => ?_
    exact leafL ⟨rfl, S⟩
  · refine fI 33 (iv (w64 (s18 + r41))) [(28, iv s18), (32, iv r41)] 6 [some 1, some 5] rfl rfl rfl rfl rfl rfl fun G a w S => ?_
    refine sBin (iv (w64 (s18 + r41))) S (wN rfl) rfl rfl rfl (bAdd _ _ _ _ s18 r41) rfl (lb rfl) fun a S => ?_
    exact leafL ⟨rfl, S⟩
  · refine fI 34 (.pointer (some ⟨b6, 0, none⟩)) [(3, .pointer (some ⟨b6, 0, none⟩))] 7 [none] rfl rfl rfl rfl rfl rfl fun G a w S => ?_
    refine sField (b := b6) (off := 0) 0 0 S (wN rfl) rfl rfl rfl rfl rfl (lb rfl) fun a S => ?_
    exact leafL ⟨rfl, S⟩
  · refine fI 35 (iv p0.W) [(34, .pointer (some ⟨b6, 0, none⟩))] 8 [some 7] rfl rfl rfl rfl rfl rfl fun G a w S => ?_
    refine sLoad1 (p := b6) (off := 0) (T := 24) (vs := [iv p0.W, iv p0.H, .slice ad3 p0.Bits.length cp4]) 0 (iv p0.W) S (wN rfl) rfl rfl rfl rfl rfl rfl (lb rfl) fun a S => ?_
    exact leafL ⟨rfl, S⟩
  · refine fI 36 (iv r43) [(33, iv (w64 (s18 + r41))), (35, iv p0.W)] 9 [some 6, some 8] rfl rfl rfl rfl rfl rfl fun G a w S => ?_
    have S1 := S.mem
    refine sCallQ (X := Unit) (f := 68) (vs := [iv (w64 (s18 + r41)), iv p0.W]) (val := fun _ => iv r43) S (wN rfl) rfl callee68 rfl (S1.quiet [] rfl) (fun E1 w1 S1 => c_raddleref01_Mod E1 w1 (w64 (s18 + r41)) p0.W r43 hx44 S1) rfl (lb rfl) fun _ a w S => ?_
    exact leafL ⟨rfl, S⟩
  · refine fI 37 (iv s31) [(9, iv s31)] 10 [none] rfl rfl rfl rfl rfl rfl fun G a w S => ?_
    refine sMove (iv s31) S (wN rfl) (.inl rfl) rfl rfl (lb rfl) fun a S => ?_
    exact leafL ⟨rfl, S⟩
  · refine fI 38 (iv p2) [(2, iv p2)] 11 [none] rfl rfl rfl rfl rfl rfl fun G a w S => ?_
    refine sMove (iv p2) S (wN rfl) (.inl rfl) rfl rfl (lb rfl) fun a S => ?_
    exact leafL ⟨rfl, S⟩
  · refine fI 39 (.pointer (some ⟨b6, 1, none⟩)) [(3, .pointer (some ⟨b6, 0, none⟩))] 12 [none] rfl rfl rfl rfl rfl rfl fun G a w S => ?_
    refine sField (b := b6) (off := 0) 1 1 S (wN rfl) rfl rfl rfl rfl rfl (lb rfl) fun a S => ?_
    exact leafL ⟨rfl, S⟩
  · refine fI 40 (iv p0.H) [(39, .pointer (some ⟨b6, 1, none⟩))] 13 [some 12] rfl rfl rfl rfl rfl rfl fun G a w S => ?_
    refine sLoad1 (p := b6) (off := 1) (T := 24) (vs := [iv p0.W, iv p0.H, .slice ad3 p0.Bits.length cp4]) 0 (iv p0.H) S (wN rfl) rfl rfl rfl rfl rfl rfl (lb rfl) fun a S => ?_
    exact leafL ⟨rfl, S⟩
  · refine fI 41 (iv r45) [(38, iv p2), (40, iv p0.H)] 14 [some 11, some 13] rfl rfl rfl rfl rfl rfl fun G a w S => ?_
    have S1 := S.mem
    refine sCallQ (X := Unit) (f := 68) (vs := [iv p2, iv p0.H]) (val := fun _ => iv r45) S (wN rfl) rfl callee68 rfl (S1.quiet [] rfl) (fun E1 w1 S1 => c_raddleref01_Mod E1 w1 p2 p0.H r45 hx46 S1) rfl (lb rfl) fun _ a w S => ?_
    exact leafL ⟨rfl, S⟩
  · refine fI 42 (iv (w64 (s31 + r45))) [(37, iv s31), (41, iv r45)] 15 [some 10, some 14] rfl rfl rfl rfl rfl rfl fun G a w S => ?_
    refine sBin (iv (w64 (s31 + r45))) S (wN rfl) rfl rfl rfl (bAdd _ _ _ _ s31 r45) rfl (lb rfl) fun a S => ?_
    exact leafL ⟨rfl, S⟩
  · refine fI 43 (.pointer (some ⟨b6, 1, none⟩)) [(3, .pointer (some ⟨b6, 0, none⟩))] 16 [none] rfl rfl rfl rfl rfl rfl fun G a w S => ?_
    refine sField (b := b6) (off := 0) 1 1 S (wN rfl) rfl rfl rfl rfl rfl (lb rfl) fun a S => ?_
    exact leafL ⟨rfl, S⟩
  · refine fI 44 (iv p0.H) [(43, .pointer (some ⟨b6, 1, none⟩))] 17 [some 16] rfl rfl rfl rfl rfl rfl fun G a w S => ?_
    refine sLoad1 (p := b6) (off := 1) (T := 24) (vs := [iv p0.W, iv p0.H, .slice ad3 p0.Bits.length cp4]) 0 (iv p0.H) S (wN rfl) rfl rfl rfl rfl rfl rfl (lb rfl) fun a S => ?_
    exact leafL ⟨rfl, S⟩
  · refine fI 45 (iv r47) [(42, iv (w64 (s31 + r45))), (44, iv p0.H)] 18 [some 15, some 17] rfl rfl rfl rfl rfl rfl fun G a w S => ?_
    have S1 := S.mem
    refine sCallQ (X := Unit) (f := 68) (vs := [iv (w64 (s31 + r45)), iv p0.H]) (val := fun _ => iv r47) S (wN rfl) rfl callee68 rfl (S1.quiet [] rfl) (fun E1 w1 S1 => c_raddleref01_Mod E1 w1 (w64 (s31 + r45)) p0.H r47 hx48 S1) rfl (lb rfl) fun _ a w S => ?_
    exact leafL ⟨rfl, S⟩
  · refine fI 46 (.agg #[iv p0.W, iv p0.H, .slice ad3 p0.Bits.length cp4]) [(3, .pointer (some ⟨b6, 0, none⟩))] 19 [none] rfl rfl rfl rfl rfl rfl fun G a w S => ?_
    refine sLoadN (p := b6) (off := 0) (T := 24) (vs := [iv p0.W, iv p0.H, .slice ad3 p0.Bits.length cp4]) 0 [iv p0.W, iv p0.H, .slice ad3 p0.Bits.length cp4] S (wN rfl) rfl rfl rfl rfl rfl rfl rfl (lb rfl) fun a S => ?_
    exact leafL ⟨rfl, S⟩
  · refine fI 47 (iv s18) [(8, iv s18)] 20 [none] rfl rfl rfl rfl rfl rfl fun G a w S => ?_
    refine sMove (iv s18) S (wN rfl) (.inl rfl) rfl rfl (lb rfl) fun a S => ?_
    exact leafL ⟨rfl, S⟩
  · refine fI 48 (iv s31) [(9, iv s31)] 21 [none] rfl rfl rfl rfl rfl rfl fun G a w S => ?_
    refine sMove (iv s31) S (wN rfl) (.inl rfl) rfl rfl (lb rfl) fun a S => ?_
    exact leafL ⟨rfl, S⟩
  · refine fI 49 (.bool r49) [(46, .agg #[iv p0.W, iv p0.H, .slice ad3 p0.Bits.length cp4]), (47, iv s18), (48, iv s31)] 22 [some 19, some 20, some 21] rfl rfl rfl rfl rfl rfl fun G a w S => ?_
    have S1 := S.mem
    have S1 := S1.learn (fRep r_api_Grid (.agg #[iv p0.W, iv p0.H, .slice ad3 p0.Bits.length cp4]) p0) ⟨_, rfl, S1.know (i := 0) (e := fRep (rL rB) (.slice ad3 p0.Bits.length cp4) p0.Bits) rfl⟩
    refine sCallQ (X := Unit) (f := 69) (vs := [.agg #[iv p0.W, iv p0.H, .slice ad3 p0.Bits.length cp4], iv s18, iv s31]) (val := fun _ => .bool r49) S (wN rfl) rfl callee69 rfl (S1.quiet [0] rfl) (fun E1 w1 S1 => c_raddleref01_At E1 w1 p0 (.agg #[iv p0.W, iv p0.H, .slice ad3 p0.Bits.length cp4]) s18 s31 r49 hx50 S1) rfl (lb rfl) fun _ a w S => ?_
    exact leafL ⟨rfl, S⟩
  refine ⟨_, [(27, .agg #[iv r9.W, iv r9.H, .slice ad11 s32.length cp12]), (36, iv r43), (45, iv r47), (49, .bool r49)], rfl, (srcs_of [some 0, some 9, some 18, some 22] rfl rfl rfl), fun G a w S => ?_⟩
  refine sCall (X := Unit) (f := 67) (vs := [.agg #[iv r9.W, iv r9.H, .slice ad11 s32.length cp12], iv r43, iv r47, .bool r49]) (val := fun _ => .tuple #[]) (B' := fun _ => [eRow rB 4 (.slice ad11 s32.length cp12) r51]) (D' := fun _ => []) [eRow rB 4 (.slice ad11 s32.length cp12) s32] [eBox b6 24 [iv p0.W, iv p0.H, .slice ad3 p0.Bits.length cp4], eBox b7 24 [iv 0, iv 0, .slice none 0 0], eBox b13 24 [iv r9.W, iv r9.H, .slice ad11 s32.length cp12]] [] [3, 0, 1, 2] [] S (wN rfl) rfl callee67 rfl (by decide) rfl rfl (fun E1 w1 S1 => c_raddleref01_Set_s0 E1 w1 r9.W r9.H s32 ad11 cp12 r43 r47 r49 r51 hx52 S1) rfl (lb rfl) fun _ a w S => ?_
  refine leafL ⟨rfl, _, _, .inl ⟨50, (.tuple #[]), [], rfl, S, hz_of rfl, ?_⟩⟩
  refine node_by (A := anc_raddleref01_Shifted_0) (nf := [23]) (Y := [23]) 24 (by kernel_rfl) (by kernel_rfl) (by kernel_rfl) (by kernel_rfl) (by kernel_rfl) [23, 0, 1, 2, 3, 4, 5, 6, 7, 8, 9, 10, 11, 12, 13, 14, 15, 16, 17, 18, 19, 20, 21, 22] (by kernel_rfl) (by decide) (by decide) (aD 0 23 23 (by decide) (aD 1 22 23 (by decide) (aD 2 21 23 (by decide) (aD 3 20 23 (by decide) (aD 4 19 23 (by decide) (aD 5 18 23 (by decide) (aD 6 17 23 (by decide) (aD 7 16 23 (by decide) (aD 8 15 23 (by decide) (aD 9 14 23 (by decide) (aD 10 13 23 (by decide) (aD 11 12 23 (by decide) (aD 12 11 23 (by decide) (aD 13 10 23 (by decide) (aD 14 9 23 (by decide) (aD 15 8 23 (by decide) (aD 16 7 23 (by decide) (aD 17 6 23 (by decide) (aD 18 5 23 (by decide) (aD 19 4 23 (by decide) (aD 20 3 23 (by decide) (aD 21 2 23 (by decide) (aD 22 1 23 (by decide) (aY 23 0 (by decide) (trivial))))))))))))))))))))))))) [(1, iv p1), (2, iv p2), (3, .pointer (some ⟨b6, 0, none⟩)), (6, .pointer (some ⟨b7, 0, none⟩)), (7, .pointer (some ⟨b13, 0, none⟩)), (8, iv s18), (9, iv s31)] (fin_of [none, none, none, none, none, none, none] rfl (by kernel_rfl) (by kernel_rfl)) (fun _ a w S => ?_)
  have hr53 := row_v (S.mem.hold (i := 0) (e := eRow rB 4 (.slice ad11 s32.length cp12) r51) rfl)
  rw [hr53] at S
  refine leafB (leafT (hK40 _ _ ?_))
  refine sRegion ?_
  refine sMove (iv s31) S (wN rfl) (.inl rfl) rfl rfl (lb rfl) fun a S => ?_
  refine sBin (iv (w64 (s31 + 1))) S (wN rfl) rfl rfl rfl (bAdd _ _ _ _ s31 1) rfl (lb rfl) fun a S => ?_
  refine sMove (iv (w64 (s31 + 1))) S (wN rfl) (.inr rfl) rfl rfl (lb rfl) fun a S => ?_
  exact leafL (leafT (⟨(w64 (s31 + 1), r51), (Option.some.inj h).symm, (S.fix [1, 2, 3, 0] [0] (by decide) rfl rfl rfl)⟩))

end Go.Proofs.Ytffikfajljbmnaa
namespace Go.Proofs.Ytffikfajljbmnaa
open Go.RowKit
set_option linter.unusedVariables false

def anc_raddleref01_Mirror_0 : List (List Nat) := [[], [], [], [], [], [4], [4, 5], [], [4, 5, 6, 7], [], [3, 4, 5, 6, 7, 8, 9], [0, 1, 2, 3, 4, 5, 6, 7, 8, 9, 10]]
def anc_raddleref01_Mirror_1 : List (List Nat) := [[], [], [], [], [], [], [5], [5, 6], [], [5, 6, 7, 8], [3, 4, 5, 6, 7, 8, 9], [0, 1, 2, 3, 4, 5, 6, 7, 8, 9, 10]]
noncomputable def raddleref01_Mirror_l1 (p0 : api_Grid) (p1 : Int) (s31 : Int) (r22 : api_Grid) : (Int × List Bool) → Option ((Int × List Bool) ⊕ List Bool) := fun s0 => match s0 with
  | (s44, s45) =>
    if decide (s44 < p0.H) then
      Option.bind (α := List Bool) (
        if p1 == 0 then
          Option.bind (F_raddleref01_At p0 (w64 ((w64 (p0.W - 1)) - s31)) s44) fun r58 =>
          Option.bind (F_raddleref01_Set_s0 r22.W r22.H s45 s31 s44 r58) fun r60 =>
          some r60
        else
          Option.bind (F_raddleref01_At p0 s31 (w64 ((w64 (p0.H - 1)) - s44))) fun r63 =>
          Option.bind (F_raddleref01_Set_s0 r22.W r22.H s45 s31 s44 r63) fun r65 =>
          some r65) fun o53 =>
      some (.inl (w64 (s44 + 1), o53))
    else
      some (.inr s45)
noncomputable def raddleref01_Mirror_l2 (p0 : api_Grid) (p1 : Int) (r22 : api_Grid) : (Int × List Bool) → Option ((Int × List Bool) ⊕ List Bool) := fun s0 => match s0 with
  | (s31, s32) =>
    if decide (s31 < p0.W) then
      Option.bind (α := List Bool) (
        Option.bind (whileO (raddleref01_Mirror_l1 p0 p1 s31 r22) (0, s32)) fun e49 =>
          some e49) fun o40 =>
      some (.inl (w64 (s31 + 1), o40))
    else
      some (.inr s32)
noncomputable def F_raddleref01_Mirror (p0 : api_Grid) (p1 : Int) : Option (api_Grid × Int) :=
  Option.bind (F_raddleref01_Check p0) fun r10 =>
  if r10 != 0 then
    some ((api_Grid.mk 0 0 ([] : (List Bool))), r10)
  else
    Option.bind (α := Bool) (
      if p1 != 0 then
        some (p1 != 1)
      else
        some false) fun o15 =>
    if o15 then
      some ((api_Grid.mk 0 0 ([] : (List Bool))), 2)
    else
      Option.bind (F_raddleref01_Zero_s0 p0.W p0.H) fun r22 =>
      Option.bind (α := List Bool) (
        Option.bind (whileO (raddleref01_Mirror_l2 p0 p1 r22) (0, r22.Bits)) fun e36 =>
          some e36) fun o27 =>
      some ((api_Grid.mk r22.W r22.H o27), 0)
def c_raddleref01_Mirror_val (r : (api_Grid × Int)) (x : Value) : Value := .tuple #[x, .int .i64 r.2]
def c_raddleref01_Mirror_D (r : (api_Grid × Int)) (x : Value) : List Fact := [fRep r_api_Grid x r.1]
set_option maxHeartbeats 4000000 in
set_option maxRecDepth 100000 in
theorem c_raddleref01_Mirror (E : Nat → Prop) (w0 : World) (p0 : api_Grid) (v0 : Value) (p1 : Int) (r : (api_Grid × Int)) (h : F_raddleref01_Mirror p0 p1 = some r) (S : St0 E [] w0 w0 [] [fRep r_api_Grid (v0) p0]) :
    Calls Try.prog 70 #[v0, iv p1] w0 (Ret (X := Value) E [] w0 (c_raddleref01_Mirror_val r) (fun _ => []) (c_raddleref01_Mirror_D r)) := by
  unfold F_raddleref01_Mirror at h
  obtain ⟨u1, rfl, hu2⟩ := S.know (i := 0) (e := fRep r_api_Grid (v0) p0) rfl
  have S := S.learn (fRep (rL rB) u1 p0.Bits) hu2
  obtain ⟨ad3, cp4, _, rfl, _⟩ := hu2
  refine sEnter (args := [.agg #[iv p0.W, iv p0.H, .slice ad3 p0.Bits.length cp4], iv p1]) 66 Try.func70 rfl rfl (by simp) S (fun a S => ?_)
  refine sSeq (fun K5 hK5 => ?_)
  refine sRegion ?_
  refine sBox (v := .agg #[iv p0.W, iv p0.H, .slice ad3 p0.Bits.length cp4]) S (wN rfl) rfl rfl [iv p0.W, iv p0.H, .slice ad3 p0.Bits.length cp4] rfl rfl (lb rfl) fun a b6 w S => ?_
  refine sAlloc (.agg #[iv 0, iv 0, .slice none 0 0]) S (wN rfl) rfl rfl [iv 0, iv 0, .slice none 0 0] rfl rfl (lb rfl) fun a b7 w S => ?_
  refine sMove (iv 0) S (wN rfl) (.inr rfl) rfl rfl (lb rfl) fun a S => ?_
  refine leafL (leafT (hK5 _ _ ?_))
  refine sSeq (fun K8 hK8 => ?_)
  refine sSeq (fun K9 hK9 => ?_)
  refine sRegion ?_
  refine sLoadN (p := b6) (off := 0) (T := 24) (vs := [iv p0.W, iv p0.H, .slice ad3 p0.Bits.length cp4]) 1 [iv p0.W, iv p0.H, .slice ad3 p0.Bits.length cp4] S (wN rfl) rfl rfl rfl rfl rfl rfl rfl (lb rfl) fun a S => ?_
  obtain ⟨r10, hx11, h⟩ := bindSome h
  have S1 := S.mem
  refine sCallQ (X := Unit) (f := 80) (vs := [.agg #[iv p0.W, iv p0.H, .slice ad3 p0.Bits.length cp4]]) (val := fun _ => iv r10) S (wN rfl) rfl callee80 rfl (S1.quiet [1] rfl) (fun E1 w1 S1 => c_raddleref01_Check E1 w1 p0 (.agg #[iv p0.W, iv p0.H, .slice ad3 p0.Bits.length cp4]) r10 hx11 S1) rfl (lb rfl) fun _ a w S => ?_
  refine sBin (.bool (r10 != 0)) S (wN rfl) rfl rfl rfl (bNe _ _ _ _ .i64 r10 0) rfl (lb rfl) fun a S => ?_
  refine leafL (leafT (hK9 _ _ ?_))
  rcases iteSome h with ⟨hc12, h⟩ | ⟨hc12, h⟩
  · refine sCondT S rfl hc12 ?_
    refine sSeq (fun K13 hK13 => ?_)
    refine sRegion ?_
    refine sBuild [] [iv 0, iv 0, .slice none 0 0] S (wN rfl) rfl rfl rfl rfl (lb rfl) fun a S => ?_
    refine sLoadN (p := b6) (off := 0) (T := 24) (vs := [iv p0.W, iv p0.H, .slice ad3 p0.Bits.length cp4]) 1 [iv p0.W, iv p0.H, .slice ad3 p0.Bits.length cp4] S (wN rfl) rfl rfl rfl rfl rfl rfl rfl (lb rfl) fun a S => ?_
    have S1 := S.mem
    refine sCallQ (X := Unit) (f := 80) (vs := [.agg #[iv p0.W, iv p0.H, .slice ad3 p0.Bits.length cp4]]) (val := fun _ => iv r10) S (wN rfl) rfl callee80 rfl (S1.quiet [1] rfl) (fun E1 w1 S1 => c_raddleref01_Check E1 w1 p0 (.agg #[iv p0.W, iv p0.H, .slice ad3 p0.Bits.length cp4]) r10 hx11 S1) rfl (lb rfl) fun _ a w S => ?_
    refine sStore (p := b7) (off := 0) (T := 24) (vs := [iv 0, iv 0, .slice none 0 0]) (v := .agg #[iv 0, iv 0, .slice none 0 0]) 0 [iv 0, iv 0, .slice none 0 0] S (wN rfl) rfl rfl rfl rfl rfl rfl rfl (by simp) rfl fun a w S => ?_
    refine sMove (iv r10) S (wN rfl) (.inr rfl) rfl rfl (lb rfl) fun a S => ?_
    refine leafL (leafT (hK13 _ _ ?_))
    obtain rfl := Option.some.inj h
    have S := S.learn (fRep (rL rB) (.slice none 0 0) ([] : (List Bool))) (rL_nil _ _ _)
    have S := S.learn (fRep r_api_Grid (.agg #[iv 0, iv 0, .slice none 0 0]) (api_Grid.mk 0 0 ([] : (List Bool)))) ⟨_, rfl, S.mem.know (i := 0) (e := fRep (rL rB) (.slice none 0 0) ([] : (List Bool))) rfl⟩
    exact wp_ret (rThen (sRet (.tuple #[.agg #[iv 0, iv 0, .slice none 0 0], iv r10]) S (rsl2 rfl (rvN (c := 4) (t := 24) (T := 24) (p := b7) 0 [iv 0, iv 0, .slice none 0 0] S rfl rfl rfl rfl) (rvT (t := 5) (v := iv r10) S rfl)) ⟨(.agg #[iv 0, iv 0, .slice none 0 0]), rfl, S.mem.sel [] [0] (by decide) rfl rfl⟩))
  refine sCondF S rfl hc12 ?_
  refine wp_skip (leafT (hK8 _ _ ?_))
  refine sSeq (fun K14 hK14 => ?_)
  obtain ⟨t16, h, g17⟩ := bindSome h
  refine sCut (fun a w => ∃ o15, o15 = t16 ∧ St [] E [] w0 66 a w [(1, iv p1), (2, .pointer (some ⟨b6, 0, none⟩)), (4, .pointer (some ⟨b7, 0, none⟩)), (20, .bool o15)] [eBox b6 24 [iv p0.W, iv p0.H, .slice ad3 p0.Bits.length cp4], eBox b7 24 [iv 0, iv 0, .slice none 0 0]] [fRep (rL rB) (.slice ad3 p0.Bits.length cp4) p0.Bits]) ?_ (fun a w hI => ?_)
  · refine sRegion ?_
    refine sMove (iv p1) S (wN rfl) (.inl rfl) rfl rfl (lb rfl) fun a S => ?_
    refine sBin (.bool (p1 != 0)) S (wN rfl) rfl rfl rfl (bNe _ _ _ _ .i64 p1 0) rfl (lb rfl) fun a S => ?_
    refine sMove (.bool (p1 != 0)) S (wN rfl) (.inl rfl) rfl rfl (lb rfl) fun a S => ?_
    rcases iteSome h with ⟨hc18, h⟩ | ⟨hc18, h⟩
    rotate_left
    · refine sSkip 2 true 17 18 S rfl rfl rfl hc18 rfl (lb rfl) fun a S => ?_
      refine sSkip 2 true 17 19 S rfl rfl rfl hc18 rfl (lb rfl) fun a S => ?_
      refine sPickF (.bool false) S (wN rfl) rfl rfl hc18 rfl rfl (lb rfl) fun a S => ?_
      exact leafL (leafT (⟨false, Option.some.inj h, S.fix [1, 0] [0] (by decide) rfl rfl rfl⟩))
    refine sMove (iv p1) S (wG 2 true 17 rfl rfl rfl hc18) (.inl rfl) rfl rfl (lb rfl) fun a S => ?_
    refine sBin (.bool (p1 != 1)) S (wG 2 true 17 rfl rfl rfl hc18) rfl rfl rfl (bNe _ _ _ _ .i64 p1 1) rfl (lb rfl) fun a S => ?_
    refine sPickT (.bool (p1 != 1)) S (wN rfl) rfl rfl hc18 rfl rfl (lb rfl) fun a S => ?_
    exact leafL (leafT (⟨p1 != 1, Option.some.inj h, S.fix [1, 0] [0] (by decide) rfl rfl rfl⟩))
  obtain ⟨o15, rfl, S⟩ := hI
  have h := g17
  clear g17
  try dsimp only at h
  rcases iteSome h with ⟨hc19, h⟩ | ⟨hc19, h⟩
  · refine sCondT S rfl hc19 ?_
    refine sSeq (fun K20 hK20 => ?_)
    refine sRegion ?_
    refine sBuild [] [iv 0, iv 0, .slice none 0 0] S (wN rfl) rfl rfl rfl rfl (lb rfl) fun a S => ?_
    refine sStore (p := b7) (off := 0) (T := 24) (vs := [iv 0, iv 0, .slice none 0 0]) (v := .agg #[iv 0, iv 0, .slice none 0 0]) 1 [iv 0, iv 0, .slice none 0 0] S (wN rfl) rfl rfl rfl rfl rfl rfl rfl (by simp) rfl fun a w S => ?_
    refine sMove (iv 2) S (wN rfl) (.inr rfl) rfl rfl (lb rfl) fun a S => ?_
    refine leafL (leafT (hK20 _ _ ?_))
    obtain rfl := Option.some.inj h
    have S := S.learn (fRep (rL rB) (.slice none 0 0) ([] : (List Bool))) (rL_nil _ _ _)
    have S := S.learn (fRep r_api_Grid (.agg #[iv 0, iv 0, .slice none 0 0]) (api_Grid.mk 0 0 ([] : (List Bool)))) ⟨_, rfl, S.mem.know (i := 0) (e := fRep (rL rB) (.slice none 0 0) ([] : (List Bool))) rfl⟩
    exact wp_ret (rThen (sRet (.tuple #[.agg #[iv 0, iv 0, .slice none 0 0], iv 2]) S (rsl2 rfl (rvN (c := 4) (t := 24) (T := 24) (p := b7) 0 [iv 0, iv 0, .slice none 0 0] S rfl rfl rfl rfl) (rvT (t := 5) (v := iv 2) S rfl)) ⟨(.agg #[iv 0, iv 0, .slice none 0 0]), rfl, S.mem.sel [] [0] (by decide) rfl rfl⟩))
  refine sCondF S rfl hc19 ?_
  refine wp_skip (leafT (hK14 _ _ ?_))
  refine sSeq (fun K21 hK21 => ?_)
  refine sRegion ?_
  refine sField (b := b6) (off := 0) 0 0 S (wN rfl) rfl rfl rfl rfl rfl (lb rfl) fun a S => ?_
  refine sLoad1 (p := b6) (off := 0) (T := 24) (vs := [iv p0.W, iv p0.H, .slice ad3 p0.Bits.length cp4]) 0 (iv p0.W) S (wN rfl) rfl rfl rfl rfl rfl rfl (lb rfl) fun a S => ?_
  refine sField (b := b6) (off := 0) 1 1 S (wN rfl) rfl rfl rfl rfl rfl (lb rfl) fun a S => ?_
  refine sLoad1 (p := b6) (off := 1) (T := 24) (vs := [iv p0.W, iv p0.H, .slice ad3 p0.Bits.length cp4]) 0 (iv p0.H) S (wN rfl) rfl rfl rfl rfl rfl rfl (lb rfl) fun a S => ?_
  obtain ⟨r22, hx23, h⟩ := bindSome h
  refine sCall (X := Option Addr × Nat) (f := 66) (vs := [iv p0.W, iv p0.H]) (val := fun x => .agg #[iv r22.W, iv r22.H, .slice x.1 r22.Bits.length x.2]) (B' := fun x => [eRow rB 4 (.slice x.1 r22.Bits.length x.2) r22.Bits]) (D' := fun _ => []) [] [eBox b6 24 [iv p0.W, iv p0.H, .slice ad3 p0.Bits.length cp4], eBox b7 24 [iv 0, iv 0, .slice none 0 0]] [] [0, 1] [] S (wN rfl) rfl callee66 rfl (by decide) rfl rfl (fun E1 w1 S1 => c_raddleref01_Zero_s0 E1 w1 p0.W p0.H r22 hx23 S1) rfl (lb rfl) fun xx a w S => ?_
  obtain ⟨ad24, cp25⟩ := xx
  dsimp only at S
  refine sAlloc (.agg #[iv 0, iv 0, .slice none 0 0]) S (wN rfl) rfl rfl [iv 0, iv 0, .slice none 0 0] rfl rfl (lb rfl) fun a b26 w S => ?_
  refine sStore (p := b26) (off := 0) (T := 24) (vs := [iv 0, iv 0, .slice none 0 0]) (v := .agg #[iv r22.W, iv r22.H, .slice ad24 r22.Bits.length cp25]) 0 [iv r22.W, iv r22.H, .slice ad24 r22.Bits.length cp25] S (wN rfl) rfl rfl rfl rfl rfl rfl rfl (by simp) rfl fun a w S => ?_
  refine leafL (leafT (hK21 _ _ ?_))
  obtain ⟨t28, h, g29⟩ := bindSome h
  refine sCut (fun a w => ∃ o27, o27 = t28 ∧ St [] E [] w0 66 a w [(4, .pointer (some ⟨b7, 0, none⟩)), (6, .pointer (some ⟨b26, 0, none⟩))] [eBox b7 24 [iv 0, iv 0, .slice none 0 0], eBox b26 24 [iv r22.W, iv r22.H, .slice ad24 o27.length cp25], eRow rB 4 (.slice ad24 o27.length cp25) o27] []) ?_ (fun a w hI => ?_)
  rotate_left
  · obtain ⟨o27, rfl, S⟩ := hI
    have h := g29
    clear g29
    try dsimp only at h
    refine sSeq (fun K68 hK68 => ?_)
    refine sRegion ?_
    refine sLoadN (p := b26) (off := 0) (T := 24) (vs := [iv r22.W, iv r22.H, .slice ad24 o27.length cp25]) 1 [iv r22.W, iv r22.H, .slice ad24 o27.length cp25] S (wN rfl) rfl rfl rfl rfl rfl rfl rfl (lb rfl) fun a S => ?_
    refine sStore (p := b7) (off := 0) (T := 24) (vs := [iv 0, iv 0, .slice none 0 0]) (v := .agg #[iv r22.W, iv r22.H, .slice ad24 o27.length cp25]) 0 [iv r22.W, iv r22.H, .slice ad24 o27.length cp25] S (wN rfl) rfl rfl rfl rfl rfl rfl rfl (by simp) rfl fun a w S => ?_
    refine sMove (iv 0) S (wN rfl) (.inr rfl) rfl rfl (lb rfl) fun a S => ?_
    refine leafL (leafT (hK68 _ _ ?_))
    obtain rfl := Option.some.inj h
    have S := S.shutR (r := rB) (T := 4) (v := .slice ad24 o27.length cp25) (xs := o27) 2 rfl
    have S := S.learn (fRep r_api_Grid (.agg #[iv r22.W, iv r22.H, .slice ad24 o27.length cp25]) (api_Grid.mk r22.W r22.H o27)) ⟨_, rfl, S.mem.know (i := 0) (e := fRep (rL rB) (.slice ad24 o27.length cp25) o27) rfl⟩
    exact wp_ret (sRet (.tuple #[.agg #[iv r22.W, iv r22.H, .slice ad24 o27.length cp25], iv 0]) S (rsl2 rfl (rvN (c := 4) (t := 24) (T := 24) (p := b7) 0 [iv r22.W, iv r22.H, .slice ad24 o27.length cp25] S rfl rfl rfl rfl) (rvT (t := 5) (v := iv 0) S rfl)) ⟨(.agg #[iv r22.W, iv r22.H, .slice ad24 o27.length cp25]), rfl, S.mem.sel [] [0] (by decide) rfl rfl⟩)
  refine sSeq (fun K30 hK30 => ?_)
  refine sRegion ?_
  refine sMove (iv 0) S (wN rfl) (.inr rfl) rfl rfl (lb rfl) fun a S => ?_
  refine leafL (leafT (hK30 _ _ ?_))
  refine wp_block ?_
  obtain ⟨t35, hl, g34⟩ := bindSome h
  refine sLoop hl (fun s0 a w => match s0 with | (s31, s32) => St [] E [] w0 66 a w [(1, iv p1), (2, .pointer (some ⟨b6, 0, none⟩)), (4, .pointer (some ⟨b7, 0, none⟩)), (6, .pointer (some ⟨b26, 0, none⟩)), (7, iv s31)] [eBox b6 24 [iv p0.W, iv p0.H, .slice ad3 p0.Bits.length cp4], eBox b7 24 [iv 0, iv 0, .slice none 0 0], eBox b26 24 [iv r22.W, iv r22.H, .slice ad24 s32.length cp25], eRow rB 4 (.slice ad24 s32.length cp25) s32] [fRep (rL rB) (.slice ad3 p0.Bits.length cp4) p0.Bits]) (S.fix [2, 3, 0, 1] [0] (by decide) rfl rfl rfl) ?_
  clear hl h
  intro s0 a w c0 hI h hu33
  obtain ⟨s31, s32⟩ := s0
  unfold raddleref01_Mirror_l2 at h
  dsimp only at h hI
  have S := hI
  refine sSeq (fun K37 hK37 => ?_)
  refine sSeq (fun K38 hK38 => ?_)
  refine sRegion ?_
  refine sMove (iv s31) S (wN rfl) (.inl rfl) rfl rfl (lb rfl) fun a S => ?_
  refine sField (b := b6) (off := 0) 0 0 S (wN rfl) rfl rfl rfl rfl rfl (lb rfl) fun a S => ?_
  refine sLoad1 (p := b6) (off := 0) (T := 24) (vs := [iv p0.W, iv p0.H, .slice ad3 p0.Bits.length cp4]) 0 (iv p0.W) S (wN rfl) rfl rfl rfl rfl rfl rfl (lb rfl) fun a S => ?_
  refine sBin (.bool (decide (s31 < p0.W))) S (wN rfl) rfl rfl rfl (bLt _ _ _ _ .i64 s31 p0.W) rfl (lb rfl) fun a S => ?_
  refine leafL (leafT (hK38 _ _ ?_))
  rcases iteSome h with ⟨hc39, h⟩ | ⟨hc39, h⟩
  rotate_left
  · refine sCondF S rfl hc39 ?_
    obtain rfl := Option.some.inj h
    obtain rfl := hu33 _ rfl
    have h := g34
    clear g34
    try dsimp only at h
    exact wp_exit (xThen (xThen (xHit (leafT (⟨s32, Option.some.inj h, S.fix [1, 2, 3] [] (by decide) rfl rfl rfl⟩)))))
  refine sCondT S rfl hc39 ?_
  refine wp_skip (leafT (hK37 _ _ ?_))
  obtain ⟨t41, h, g42⟩ := bindSome h
  refine sCut (fun a w => ∃ o40, o40 = t41 ∧ St [] E [] w0 66 a w [(1, iv p1), (2, .pointer (some ⟨b6, 0, none⟩)), (4, .pointer (some ⟨b7, 0, none⟩)), (6, .pointer (some ⟨b26, 0, none⟩)), (7, iv s31)] [eBox b6 24 [iv p0.W, iv p0.H, .slice ad3 p0.Bits.length cp4], eBox b7 24 [iv 0, iv 0, .slice none 0 0], eBox b26 24 [iv r22.W, iv r22.H, .slice ad24 o40.length cp25], eRow rB 4 (.slice ad24 o40.length cp25) o40] [fRep (rL rB) (.slice ad3 p0.Bits.length cp4) p0.Bits]) ?_ (fun a w hI => ?_)
  rotate_left
  · obtain ⟨o40, rfl, S⟩ := hI
    have h := g42
    clear g42
    try dsimp only at h
    refine sRegion ?_
    refine sMove (iv s31) S (wN rfl) (.inl rfl) rfl rfl (lb rfl) fun a S => ?_
    refine sBin (iv (w64 (s31 + 1))) S (wN rfl) rfl rfl rfl (bAdd _ _ _ _ s31 1) rfl (lb rfl) fun a S => ?_
    refine sMove (iv (w64 (s31 + 1))) S (wN rfl) (.inr rfl) rfl rfl (lb rfl) fun a S => ?_
    exact leafL (leafT (⟨(w64 (s31 + 1), o40), (Option.some.inj h).symm, (S.fix [0, 1, 2, 3] [0] (by decide) rfl rfl rfl)⟩))
  refine wp_block ?_
  refine sSeq (fun K43 hK43 => ?_)
  refine sRegion ?_
  refine sMove (iv 0) S (wN rfl) (.inr rfl) rfl rfl (lb rfl) fun a S => ?_
  refine leafL (leafT (hK43 _ _ ?_))
  refine wp_block ?_
  obtain ⟨t48, hl, g47⟩ := bindSome h
  refine sLoop hl (fun s0 a w => match s0 with | (s44, s45) => St [] E [] w0 66 a w [(1, iv p1), (2, .pointer (some ⟨b6, 0, none⟩)), (4, .pointer (some ⟨b7, 0, none⟩)), (6, .pointer (some ⟨b26, 0, none⟩)), (7, iv s31), (8, iv s44)] [eBox b6 24 [iv p0.W, iv p0.H, .slice ad3 p0.Bits.length cp4], eBox b7 24 [iv 0, iv 0, .slice none 0 0], eBox b26 24 [iv r22.W, iv r22.H, .slice ad24 s45.length cp25], eRow rB 4 (.slice ad24 s45.length cp25) s45] [fRep (rL rB) (.slice ad3 p0.Bits.length cp4) p0.Bits]) (S.fix [0, 1, 2, 3] [0] (by decide) rfl rfl rfl) ?_
  clear hl h
  intro s0 a w c0 hI h hu46
  obtain ⟨s44, s45⟩ := s0
  unfold raddleref01_Mirror_l1 at h
  dsimp only at h hI
  have S := hI
  refine sSeq (fun K50 hK50 => ?_)
  refine sSeq (fun K51 hK51 => ?_)
  refine sRegion ?_
  refine sMove (iv s44) S (wN rfl) (.inl rfl) rfl rfl (lb rfl) fun a S => ?_
  refine sField (b := b6) (off := 0) 1 1 S (wN rfl) rfl rfl rfl rfl rfl (lb rfl) fun a S => ?_
  refine sLoad1 (p := b6) (off := 1) (T := 24) (vs := [iv p0.W, iv p0.H, .slice ad3 p0.Bits.length cp4]) 0 (iv p0.H) S (wN rfl) rfl rfl rfl rfl rfl rfl (lb rfl) fun a S => ?_
  refine sBin (.bool (decide (s44 < p0.H))) S (wN rfl) rfl rfl rfl (bLt _ _ _ _ .i64 s44 p0.H) rfl (lb rfl) fun a S => ?_
  refine leafL (leafT (hK51 _ _ ?_))
  rcases iteSome h with ⟨hc52, h⟩ | ⟨hc52, h⟩
  rotate_left
  · refine sCondF S rfl hc52 ?_
    obtain rfl := Option.some.inj h
    obtain rfl := hu46 _ rfl
    have h := g47
    clear g47
    try dsimp only at h
    exact wp_exit (xThen (xThen (xHit (leafB (leafT (⟨s45, Option.some.inj h, S.fix [0, 1, 2, 3] [0] (by decide) rfl rfl rfl⟩))))))
  refine sCondT S rfl hc52 ?_
  refine wp_skip (leafT (hK50 _ _ ?_))
  obtain ⟨t54, h, g55⟩ := bindSome h
  refine sCut (fun a w => ∃ o53, o53 = t54 ∧ St [] E [] w0 66 a w [(1, iv p1), (2, .pointer (some ⟨b6, 0, none⟩)), (4, .pointer (some ⟨b7, 0, none⟩)), (6, .pointer (some ⟨b26, 0, none⟩)), (7, iv s31), (8, iv s44)] [eBox b6 24 [iv p0.W, iv p0.H, .slice ad3 p0.Bits.length cp4], eBox b7 24 [iv 0, iv 0, .slice none 0 0], eBox b26 24 [iv r22.W, iv r22.H, .slice ad24 o53.length cp25], eRow rB 4 (.slice ad24 o53.length cp25) o53] [fRep (rL rB) (.slice ad3 p0.Bits.length cp4) p0.Bits]) ?_ (fun a w hI => ?_)
  rotate_left
  · obtain ⟨o53, rfl, S⟩ := hI
    have h := g55
    clear g55
    try dsimp only at h
    refine sRegion ?_
    refine sMove (iv s44) S (wN rfl) (.inl rfl) rfl rfl (lb rfl) fun a S => ?_
    refine sBin (iv (w64 (s44 + 1))) S (wN rfl) rfl rfl rfl (bAdd _ _ _ _ s44 1) rfl (lb rfl) fun a S => ?_
    refine sMove (iv (w64 (s44 + 1))) S (wN rfl) (.inr rfl) rfl rfl (lb rfl) fun a S => ?_
    exact leafL (leafT (⟨(w64 (s44 + 1), o53), (Option.some.inj h).symm, (S.fix [0, 1, 2, 3] [0] (by decide) rfl rfl rfl)⟩))
  refine wp_block ?_
  refine sSeq (fun K56 hK56 => ?_)
  refine sRegion ?_
  refine sMove (iv p1) S (wN rfl) (.inl rfl) rfl rfl (lb rfl) fun a S => ?_
  refine sBin (.bool (p1 == 0)) S (wN rfl) rfl rfl rfl (bEq _ _ _ _ .i64 p1 0) rfl (lb rfl) fun a S => ?_
  refine leafL (leafT (hK56 _ _ ?_))
  rcases iteSome h with ⟨hc57, h⟩ | ⟨hc57, h⟩
  · refine sCondT S rfl hc57 ?_
    obtain ⟨r58, hx59, h⟩ := bindSome h
    obtain ⟨r60, hx61, h⟩ := bindSome h
    refine sDraw (nf := [11]) (W := [(0, 41, .agg #[iv r22.W, iv r22.H, .slice ad24 s45.length cp25]), (1, 42, iv s31), (2, 43, iv s44), (3, 44, .agg #[iv p0.W, iv p0.H, .slice ad3 p0.Bits.length cp4]), (4, 45, .pointer (some ⟨b6, 0, none⟩)), (5, 46, iv p0.W), (6, 47, iv (w64 (p0.W - 1))), (7, 48, iv s31), (8, 49, iv (w64 ((w64 (p0.W - 1)) - s31))), (9, 50, iv s44), (10, 51, .bool r58)]) rfl S ?_
    refine node_by (A := anc_raddleref01_Mirror_0) (nf := [11]) (Y := []) (W := [(0, 41, .agg #[iv r22.W, iv r22.H, .slice ad24 s45.length cp25]), (1, 42, iv s31), (2, 43, iv s44), (3, 44, .agg #[iv p0.W, iv p0.H, .slice ad3 p0.Bits.length cp4]), (4, 45, .pointer (some ⟨b6, 0, none⟩)), (5, 46, iv p0.W), (6, 47, iv (w64 (p0.W - 1))), (7, 48, iv s31), (8, 49, iv (w64 ((w64 (p0.W - 1)) - s31))), (9, 50, iv s44), (10, 51, .bool r58)]) 12 (by kernel_rfl) (by kernel_rfl) (by kernel_rfl) (by kernel_rfl) (by kernel_rfl) [0, 1, 2, 3, 4, 5, 6, 7, 8, 9, 10] (by kernel_rfl) (by decide) (by decide) (aF 0 11 (by decide) ?_ (aF 1 10 (by decide) ?_ (aF 2 9 (by decide) ?_ (aF 3 8 (by decide) ?_ (aF 4 7 (by decide) ?_ (aF 5 6 (by decide) ?_ (aF 6 5 (by decide) ?_ (aF 7 4 (by decide) ?_ (aF 8 3 (by decide) ?_ (aF 9 2 (by decide) ?_ (aF 10 1 (by decide) ?_ (aN 11 0 (by decide) ?_ (trivial))))))))))))) [] (fun q hq => by cases hq) (fun hY => absurd (hY 11 (by decide)) (by decide))
    · refine fI 41 (.agg #[iv r22.W, iv r22.H, .slice ad24 s45.length cp25]) [(6, .pointer (some ⟨b26, 0, none⟩))] 0 [none] rfl rfl rfl rfl rfl rfl fun G a w S => ?_
      refine sLoadN (p := b26) (off := 0) (T := 24) (vs := [iv r22.W, iv r22.H, .slice ad24 s45.length cp25]) 2 [iv r22.W, iv r22.H, .slice ad24 s45.length cp25] S (wN rfl) rfl rfl rfl rfl rfl rfl rfl (lb rfl) fun a S => ?_
      exact leafL ⟨rfl, S⟩
    · refine fI 42 (iv s31) [(7, iv s31)] 1 [none] rfl rfl rfl rfl rfl rfl fun G a w S => ?_
      refine sMove (iv s31) S (wN rfl) (.inl rfl) rfl rfl (lb rfl) fun a S => ?_
      exact leafL ⟨rfl, S⟩
    · refine fI 43 (iv s44) [(8, iv s44)] 2 [none] rfl rfl rfl rfl rfl rfl fun G a w S => ?_
      refine sMove (iv s44) S (wN rfl) (.inl rfl) rfl rfl (lb rfl) fun a S => ?_
      exact leafL ⟨rfl, S⟩
    · refine fI 44 (.agg #[iv p0.W, iv p0.H, .slice ad3 p0.Bits.length cp4]) [(2, .pointer (some ⟨b6, 0, none⟩))] 3 [none] rfl rfl rfl rfl rfl rfl fun G a w S => ?_
      refine sLoadN (p := b6) (off := 0) (T := 24) (vs := [iv p0.W, iv p0.H, .slice ad3 p0.Bits.length cp4]) 0 [iv p0.W, iv p0.H, .slice ad3 p0.Bits.length cp4] S (wN rfl) rfl rfl rfl rfl rfl rfl rfl (lb rfl) fun a S => ?_
      exact leafL ⟨rfl, S⟩
    · refine fI 45 (.pointer (some ⟨b6, 0, none⟩)) [(2, .pointer (some ⟨b6, 0, none⟩))] 4 [none] rfl rfl rfl rfl rfl rfl fun G a w S => ?_
      refine sField (b := b6) (off := 0) 0 0 S (wN rfl) rfl rfl rfl rfl rfl (lb rfl) fun a S => ?_
      exact leafL ⟨rfl, S⟩
    · refine fI 46 (iv p0.W) [(45, .pointer (some ⟨b6, 0, none⟩))] 5 [some 4] rfl rfl rfl rfl rfl rfl fun G a w S => ?_
      refine sLoad1 (p := b6) (off := 0) (T := 24) (vs := [iv p0.W, iv p0.H, .slice ad3 p0.Bits.length cp4]) 0 (iv p0.W) S (wN rfl) rfl rfl rfl rfl rfl rfl (lb rfl) fun a S => ?_
      exact leafL ⟨rfl, S⟩
    · refine fI 47 (iv (w64 (p0.W - 1))) [(46, iv p0.W)] 6 [some 5] rfl rfl rfl rfl rfl rfl fun G a w S => ?_
      refine sBin (iv (w64 (p0.W - 1))) S (wN rfl) rfl rfl rfl (bSub _ _ _ _ p0.W 1) rfl (lb rfl) fun a S => ?_
      exact leafL ⟨rfl, S⟩
    · refine fI 48 (iv s31) [(7, iv s31)] 7 [none] rfl rfl rfl rfl rfl rfl fun G a w S => ?_
      refine sMove (iv s31) S (wN rfl) (.inl rfl) rfl rfl (lb rfl) fun a S => ?_
      exact leafL ⟨rfl, S⟩
    · refine fI 49 (iv (w64 ((w64 (p0.W - 1)) - s31))) [(47, iv (w64 (p0.W - 1))), (48, iv s31)] 8 [some 6, some 7] rfl rfl rfl rfl rfl rfl fun G a w S => ?_
      refine sBin (iv (w64 ((w64 (p0.W - 1)) - s31))) S (wN rfl) rfl rfl rfl (bSub _ _ _ _ (w64 (p0.W - 1)) s31) rfl (lb rfl) fun a S => ?_
      exact leafL ⟨rfl, S⟩
    · refine fI 50 (iv s44) [(8, iv s44)] 9 [none] rfl rfl rfl rfl rfl rfl fun G a w S => ?_
      refine sMove (iv s44) S (wN rfl) (.inl rfl) rfl rfl (lb rfl) fun a S => ?_
      exact leafL ⟨rfl, S⟩
    · refine fI 51 (.bool r58) [(44, .agg #[iv p0.W, iv p0.H, .slice ad3 p0.Bits.length cp4]), (49, iv (w64 ((w64 (p0.W - 1)) - s31))), (50, iv s44)] 10 [some 3, some 8, some 9] rfl rfl rfl rfl rfl rfl fun G a w S => ?_
      have S1 := S.mem
      have S1 := S1.learn (fRep r_api_Grid (.agg #[iv p0.W, iv p0.H, .slice ad3 p0.Bits.length cp4]) p0) ⟨_, rfl, S1.know (i := 0) (e := fRep (rL rB) (.slice ad3 p0.Bits.length cp4) p0.Bits) rfl⟩
      refine sCallQ (X := Unit) (f := 69) (vs := [.agg #[iv p0.W, iv p0.H, .slice ad3 p0.Bits.length cp4], iv (w64 ((w64 (p0.W - 1)) - s31)), iv s44]) (val := fun _ => .bool r58) S (wN rfl) rfl callee69 rfl (S1.quiet [0] rfl) (fun E1 w1 S1 => c_raddleref01_At E1 w1 p0 (.agg #[iv p0.W, iv p0.H, .slice ad3 p0.Bits.length cp4]) (w64 ((w64 (p0.W - 1)) - s31)) s44 r58 hx59 S1) rfl (lb rfl) fun _ a w S => ?_
      exact leafL ⟨rfl, S⟩
    refine ⟨_, [(41, .agg #[iv r22.W, iv r22.H, .slice ad24 s45.length cp25]), (42, iv s31), (43, iv s44), (51, .bool r58)], rfl, (srcs_of [some 0, some 1, some 2, some 10] rfl rfl rfl), fun G a w S => ?_⟩
    refine sCall (X := Unit) (f := 67) (vs := [.agg #[iv r22.W, iv r22.H, .slice ad24 s45.length cp25], iv s31, iv s44, .bool r58]) (val := fun _ => .tuple #[]) (B' := fun _ => [eRow rB 4 (.slice ad24 s45.length cp25) r60]) (D' := fun _ => []) [eRow rB 4 (.slice ad24 s45.length cp25) s45] [eBox b6 24 [iv p0.W, iv p0.H, .slice ad3 p0.Bits.length cp4], eBox b7 24 [iv 0, iv 0, .slice none 0 0], eBox b26 24 [iv r22.W, iv r22.H, .slice ad24 s45.length cp25]] [] [3, 0, 1, 2] [] S (wN rfl) rfl callee67 rfl (by decide) rfl rfl (fun E1 w1 S1 => c_raddleref01_Set_s0 E1 w1 r22.W r22.H s45 ad24 cp25 s31 s44 r58 r60 hx61 S1) rfl (lb rfl) fun _ a w S => ?_
    refine leafL ⟨rfl, _, _, .inl ⟨52, (.tuple #[]), [], rfl, S, hz_of rfl, ?_⟩⟩
    refine node_by (A := anc_raddleref01_Mirror_0) (nf := [11]) (Y := [11]) 12 (by kernel_rfl) (by kernel_rfl) (by kernel_rfl) (by kernel_rfl) (by kernel_rfl) [11, 0, 1, 2, 3, 4, 5, 6, 7, 8, 9, 10] (by kernel_rfl) (by decide) (by decide) (aD 0 11 11 (by decide) (aD 1 10 11 (by decide) (aD 2 9 11 (by decide) (aD 3 8 11 (by decide) (aD 4 7 11 (by decide) (aD 5 6 11 (by decide) (aD 6 5 11 (by decide) (aD 7 4 11 (by decide) (aD 8 3 11 (by decide) (aD 9 2 11 (by decide) (aD 10 1 11 (by decide) (aY 11 0 (by decide) (trivial))))))))))))) [(1, iv p1), (2, .pointer (some ⟨b6, 0, none⟩)), (4, .pointer (some ⟨b7, 0, none⟩)), (6, .pointer (some ⟨b26, 0, none⟩)), (7, iv s31), (8, iv s44)] (fin_of [none, none, none, none, none, none] rfl (by kernel_rfl) (by kernel_rfl)) (fun _ a w S => ?_)
    have hr62 := row_v (S.mem.hold (i := 0) (e := eRow rB 4 (.slice ad24 s45.length cp25) r60) rfl)
    rw [hr62] at S
    exact leafB (leafT (⟨r60, Option.some.inj h, S.fix [1, 2, 3, 0] [0] (by decide) rfl rfl rfl⟩))
  refine sCondF S rfl hc57 ?_
  obtain ⟨r63, hx64, h⟩ := bindSome h
  obtain ⟨r65, hx66, h⟩ := bindSome h
  refine sDraw (nf := [11]) (W := [(0, 53, .agg #[iv r22.W, iv r22.H, .slice ad24 s45.length cp25]), (1, 54, iv s31), (2, 55, iv s44), (3, 56, .agg #[iv p0.W, iv p0.H, .slice ad3 p0.Bits.length cp4]), (4, 57, iv s31), (5, 58, .pointer (some ⟨b6, 1, none⟩)), (6, 59, iv p0.H), (7, 60, iv (w64 (p0.H - 1))), (8, 61, iv s44), (9, 62, iv (w64 ((w64 (p0.H - 1)) - s44))), (10, 63, .bool r63)]) rfl S ?_
  refine node_by (A := anc_raddleref01_Mirror_1) (nf := [11]) (Y := []) (W := [(0, 53, .agg #[iv r22.W, iv r22.H, .slice ad24 s45.length cp25]), (1, 54, iv s31), (2, 55, iv s44), (3, 56, .agg #[iv p0.W, iv p0.H, .slice ad3 p0.Bits.length cp4]), (4, 57, iv s31), (5, 58, .pointer (some ⟨b6, 1, none⟩)), (6, 59, iv p0.H), (7, 60, iv (w64 (p0.H - 1))), (8, 61, iv s44), (9, 62, iv (w64 ((w64 (p0.H - 1)) - s44))), (10, 63, .bool r63)]) 12 (by kernel_rfl) (by kernel_rfl) (by kernel_rfl) (by kernel_rfl) (by kernel_rfl) [0, 1, 2, 3, 4, 5, 6, 7, 8, 9, 10] (by kernel_rfl) (by decide) (by decide) (aF 0 11 (by decide) ?_ (aF 1 10 (by decide) ?_ (aF 2 9 (by decide) ?_ (aF 3 8 (by decide) ?_ (aF 4 7 (by decide) ?_ (aF 5 6 (by decide) ?_ (aF 6 5 (by decide) ?_ (aF 7 4 (by decide) ?_ (aF 8 3 (by decide) ?_ (aF 9 2 (by decide) ?_ (aF 10 1 (by decide) ?_ (aN 11 0 (by decide) ?_ (trivial))))))))))))) [] (fun q hq => by cases hq) (fun hY => absurd (hY 11 (by decide)) (by decide))
  · refine fI 53 (.agg #[iv r22.W, iv r22.H, .slice ad24 s45.length cp25]) [(6, .pointer (some ⟨b26, 0, none⟩))] 0 [none] rfl rfl rfl rfl rfl rfl fun G a w S => ?_
    refine sLoadN (p := b26) (off := 0) (T := 24) (vs := [iv r22.W, iv r22.H, .slice ad24 s45.length cp25]) 2 [iv r22.W, iv r22.H, .slice ad24 s45.length cp25] S (wN rfl) rfl rfl rfl rfl rfl rfl rfl (lb rfl) fun a S => ?_
    exact leafL ⟨rfl, S⟩
  · refine fI 54 (iv s31) [(7, iv s31)] 1 [none] rfl rfl rfl rfl rfl rfl fun G a w S => ?_
    refine sMove (iv s31) S (wN rfl) (.inl rfl) rfl rfl (lb rfl) fun a S => ?_
    exact leafL ⟨rfl, S⟩
  · refine fI 55 (iv s44) [(8, iv s44)] 2 [none] rfl rfl rfl rfl rfl rfl fun G a w S => ?_
    refine sMove (iv s44) S (wN rfl) (.inl rfl) rfl rfl (lb rfl) fun a S => ?_
    exact leafL ⟨rfl, S⟩
  · refine fI 56 (.agg #[iv p0.W, iv p0.H, .slice ad3 p0.Bits.length cp4]) [(2, .pointer (some ⟨b6, 0, none⟩))] 3 [none] rfl rfl rfl rfl rfl rfl fun G a w S => ?_
    refine sLoadN (p := b6) (off := 0) (T := 24) (vs := [iv p0.W, iv p0.H, .slice ad3 p0.Bits.length cp4]) 0 [iv p0.W, iv p0.H, .slice ad3 p0.Bits.length cp4] S (wN rfl) rfl rfl rfl rfl rfl rfl rfl (lb rfl) fun a S => ?_
    exact leafL ⟨rfl, S⟩
  · refine fI 57 (iv s31) [(7, iv s31)] 4 [none] rfl rfl rfl rfl rfl rfl fun G a w S => ?_
    refine sMove (iv s31) S (wN rfl) (.inl rfl) rfl rfl (lb rfl) fun a S => ?_
    exact leafL ⟨rfl, S⟩
  · refine fI 58 (.pointer (some ⟨b6, 1, none⟩)) [(2, .pointer (some ⟨b6, 0, none⟩))] 5 [none] rfl rfl rfl rfl rfl rfl fun G a w S => ?_
    refine sField (b := b6) (off := 0) 1 1 S (wN rfl) rfl rfl rfl rfl rfl (lb rfl) fun a S => ?_
    exact leafL ⟨rfl, S⟩
  · refine fI 59 (iv p0.H) [(58, .pointer (some ⟨b6, 1, none⟩))] 6 [some 5] rfl rfl rfl rfl rfl rfl fun G a w S => ?_
    refine sLoad1 (p := b6) (off := 1) (T := 24) (vs := [iv p0.W, iv p0.H, .slice ad3 p0.Bits.length cp4]) 0 (iv p0.H) S (wN rfl) rfl rfl rfl rfl rfl rfl (lb rfl) fun a S => ?_
    exact leafL ⟨rfl, S⟩
  · refine fI 60 (iv (w64 (p0.H - 1))) [(59, iv p0.H)] 7 [some 6] rfl rfl rfl rfl rfl rfl fun G a w S => ?_
    refine sBin (iv (w64 (p0.H - 1))) S (wN rfl) rfl rfl rfl (bSub _ _ _ _ p0.H 1) rfl (lb rfl) fun a S => ?_
    exact leafL ⟨rfl, S⟩
  · refine fI 61 (iv s44) [(8, iv s44)] 8 [none] rfl rfl rfl rfl rfl rfl fun G a w S => ?_
    refine sMove (iv s44) S (wN rfl) (.inl rfl) rfl rfl (lb rfl) fun a S => ?_
    exact leafL ⟨rfl, S⟩
  · refine fI 62 (iv (w64 ((w64 (p0.H - 1)) - s44))) [(60, iv (w64 (p0.H - 1))), (61, iv s44)] 9 [some 7, some 8] rfl rfl rfl rfl rfl rfl fun G a w S => ?_
    refine sBin (iv (w64 ((w64 (p0.H - 1)) - s44))) S (wN rfl) rfl rfl rfl (bSub _ _ _ _ (w64 (p0.H - 1)) s44) rfl (lb rfl) fun a S => ?_
    exact leafL ⟨rfl, S⟩
  · refine fI 63 (.bool r63) [(56, .agg #[iv p0.W, iv p0.H, .slice ad3 p0.Bits.length cp4]), (57, iv s31), (62, iv (w64 ((w64 (p0.H - 1)) - s44)))] 10 [some 3, some 4, some 9] rfl rfl rfl rfl rfl rfl fun G a w S => ?_
    have S1 := S.mem
    have S1 := S1.learn (fRep r_api_Grid (.agg #[iv p0.W, iv p0.H, .slice ad3 p0.Bits.length cp4]) p0) ⟨_, rfl, S1.know (i := 0) (e := fRep (rL rB) (.slice ad3 p0.Bits.length cp4) p0.Bits) rfl⟩
    refine sCallQ (X := Unit) (f := 69) (vs := [.agg #[iv p0.W, iv p0.H, .slice ad3 p0.Bits.length cp4], iv s31, iv (w64 ((w64 (p0.H - 1)) - s44))]) (val := fun _ => .bool r63) S (wN rfl) rfl callee69 rfl (S1.quiet [0] rfl) (fun E1 w1 S1 => c_raddleref01_At E1 w1 p0 (.agg #[iv p0.W, iv p0.H, .slice ad3 p0.Bits.length cp4]) s31 (w64 ((w64 (p0.H - 1)) - s44)) r63 hx64 S1) rfl (lb rfl) fun _ a w S => ?_
    exact leafL ⟨rfl, S⟩
  refine ⟨_, [(53, .agg #[iv r22.W, iv r22.H, .slice ad24 s45.length cp25]), (54, iv s31), (55, iv s44), (63, .bool r63)], rfl, (srcs_of [some 0, some 1, some 2, some 10] rfl rfl rfl), fun G a w S => ?_⟩
  refine sCall (X := Unit) (f := 67) (vs := [.agg #[iv r22.W, iv r22.H, .slice ad24 s45.length cp25], iv s31, iv s44, .bool r63]) (val := fun _ => .tuple #[]) (B' := fun _ => [eRow rB 4 (.slice ad24 s45.length cp25) r65]) (D' := fun _ => []) [eRow rB 4 (.slice ad24 s45.length cp25) s45] [eBox b6 24 [iv p0.W, iv p0.H, .slice ad3 p0.Bits.length cp4], eBox b7 24 [iv 0, iv 0, .slice none 0 0], eBox b26 24 [iv r22.W, iv r22.H, .slice ad24 s45.length cp25]] [] [3, 0, 1, 2] [] S (wN rfl) rfl callee67 rfl (by decide) rfl rfl (fun E1 w1 S1 => c_raddleref01_Set_s0 E1 w1 r22.W r22.H s45 ad24 cp25 s31 s44 r63 r65 hx66 S1) rfl (lb rfl) fun _ a w S => ?_
  refine leafL ⟨rfl, _, _, .inl ⟨64, (.tuple #[]), [], rfl, S, hz_of rfl, ?_⟩⟩
  refine node_by (A := anc_raddleref01_Mirror_1) (nf := [11]) (Y := [11]) 12 (by kernel_rfl) (by kernel_rfl) (by kernel_rfl) (by kernel_rfl) (by kernel_rfl) [11, 0, 1, 2, 3, 4, 5, 6, 7, 8, 9, 10] (by kernel_rfl) (by decide) (by decide) (aD 0 11 11 (by decide) (aD 1 10 11 (by decide) (aD 2 9 11 (by decide) (aD 3 8 11 (by decide) (aD 4 7 11 (by decide) (aD 5 6 11 (by decide) (aD 6 5 11 (by decide) (aD 7 4 11 (by decide) (aD 8 3 11 (by decide) (aD 9 2 11 (by decide) (aD 10 1 11 (by decide) (aY 11 0 (by decide) (trivial))))))))))))) [(1, iv p1), (2, .pointer (some ⟨b6, 0, none⟩)), (4, .pointer (some ⟨b7, 0, none⟩)), (6, .pointer (some ⟨b26, 0, none⟩)), (7, iv s31), (8, iv s44)] (fin_of [none, none, none, none, none, none] rfl (by kernel_rfl) (by kernel_rfl)) (fun _ a w S => ?_)
  have hr67 := row_v (S.mem.hold (i := 0) (e := eRow rB 4 (.slice ad24 s45.length cp25) r65) rfl)
  rw [hr67] at S
  exact leafB (leafT (⟨r65, Option.some.inj h, S.fix [1, 2, 3, 0] [0] (by decide) rfl rfl rfl⟩))

end Go.Proofs.Ytffikfajljbmnaa
namespace Go.Proofs.Ytffikfajljbmnaa
open Go.RowKit
set_option linter.unusedVariables false

noncomputable def raddleref01_Turned_l1 (r9 : api_Grid) (p0 : api_Grid) (s18 : Int) : (Int × List Bool) → Option ((Int × List Bool) ⊕ List Bool) := fun s0 => match s0 with
  | (s31, s32) =>
    if decide (s31 < r9.H) then
      Option.bind (F_raddleref01_At p0 s31 s18) fun r41 =>
      Option.bind (F_raddleref01_Set_s0 r9.W r9.H s32 s18 s31 r41) fun r43 =>
      some (.inl (w64 (s31 + 1), r43))
    else
      some (.inr s32)
noncomputable def raddleref01_Turned_l2 (r9 : api_Grid) (p0 : api_Grid) : (Int × List Bool) → Option ((Int × List Bool) ⊕ List Bool) := fun s0 => match s0 with
  | (s18, s19) =>
    if decide (s18 < r9.W) then
      Option.bind (α := List Bool) (
        Option.bind (whileO (raddleref01_Turned_l1 r9 p0 s18) (0, s19)) fun e36 =>
          some e36) fun o27 =>
      some (.inl (w64 (s18 + 1), o27))
    else
      some (.inr s19)
noncomputable def F_raddleref01_Turned (p0 : api_Grid) : Option api_Grid :=
  Option.bind (F_raddleref01_Zero_s0 p0.H p0.W) fun r9 =>
  Option.bind (α := List Bool) (
    Option.bind (whileO (raddleref01_Turned_l2 r9 p0) (0, r9.Bits)) fun e23 =>
      some e23) fun o14 =>
  some (api_Grid.mk r9.W r9.H o14)
def c_raddleref01_Turned_val (r : api_Grid) (x : Value) : Value := x
def c_raddleref01_Turned_D (r : api_Grid) (x : Value) : List Fact := [fRep r_api_Grid x r]
set_option maxHeartbeats 4000000 in
set_option maxRecDepth 100000 in
theorem c_raddleref01_Turned (E : Nat → Prop) (w0 : World) (p0 : api_Grid) (v0 : Value) (r : api_Grid) (h : F_raddleref01_Turned p0 = some r) (S : St0 E [] w0 w0 [] [fRep r_api_Grid (v0) p0]) :
    Calls Try.prog 71 #[v0] w0 (Ret (X := Value) E [] w0 (c_raddleref01_Turned_val r) (fun _ => []) (c_raddleref01_Turned_D r)) := by
  unfold F_raddleref01_Turned at h
  obtain ⟨u1, rfl, hu2⟩ := S.know (i := 0) (e := fRep r_api_Grid (v0) p0) rfl
  have S := S.learn (fRep (rL rB) u1 p0.Bits) hu2
  obtain ⟨ad3, cp4, _, rfl, _⟩ := hu2
  refine sEnter (args := [.agg #[iv p0.W, iv p0.H, .slice ad3 p0.Bits.length cp4]]) 32 Try.func71 rfl rfl (by simp) S (fun a S => ?_)
  refine sSeq (fun K5 hK5 => ?_)
  refine sRegion ?_
  refine sBox (v := .agg #[iv p0.W, iv p0.H, .slice ad3 p0.Bits.length cp4]) S (wN rfl) rfl rfl [iv p0.W, iv p0.H, .slice ad3 p0.Bits.length cp4] rfl rfl (lb rfl) fun a b6 w S => ?_
  refine sAlloc (.agg #[iv 0, iv 0, .slice none 0 0]) S (wN rfl) rfl rfl [iv 0, iv 0, .slice none 0 0] rfl rfl (lb rfl) fun a b7 w S => ?_
  refine leafL (leafT (hK5 _ _ ?_))
  refine sSeq (fun K8 hK8 => ?_)
  refine sRegion ?_
  refine sField (b := b6) (off := 0) 1 1 S (wN rfl) rfl rfl rfl rfl rfl (lb rfl) fun a S => ?_
  refine sLoad1 (p := b6) (off := 1) (T := 24) (vs := [iv p0.W, iv p0.H, .slice ad3 p0.Bits.length cp4]) 1 (iv p0.H) S (wN rfl) rfl rfl rfl rfl rfl rfl (lb rfl) fun a S => ?_
  refine sField (b := b6) (off := 0) 0 0 S (wN rfl) rfl rfl rfl rfl rfl (lb rfl) fun a S => ?_
  refine sLoad1 (p := b6) (off := 0) (T := 24) (vs := [iv p0.W, iv p0.H, .slice ad3 p0.Bits.length cp4]) 1 (iv p0.W) S (wN rfl) rfl rfl rfl rfl rfl rfl (lb rfl) fun a S => ?_
  obtain ⟨r9, hx10, h⟩ := bindSome h
  refine sCall (X := Option Addr × Nat) (f := 66) (vs := [iv p0.H, iv p0.W]) (val := fun x => .agg #[iv r9.W, iv r9.H, .slice x.1 r9.Bits.length x.2]) (B' := fun x => [eRow rB 4 (.slice x.1 r9.Bits.length x.2) r9.Bits]) (D' := fun _ => []) [] [eBox b7 24 [iv 0, iv 0, .slice none 0 0], eBox b6 24 [iv p0.W, iv p0.H, .slice ad3 p0.Bits.length cp4]] [] [0, 1] [] S (wN rfl) rfl callee66 rfl (by decide) rfl rfl (fun E1 w1 S1 => c_raddleref01_Zero_s0 E1 w1 p0.H p0.W r9 hx10 S1) rfl (lb rfl) fun xx a w S => ?_
  obtain ⟨ad11, cp12⟩ := xx
  dsimp only at S
  refine sAlloc (.agg #[iv 0, iv 0, .slice none 0 0]) S (wN rfl) rfl rfl [iv 0, iv 0, .slice none 0 0] rfl rfl (lb rfl) fun a b13 w S => ?_
  refine sStore (p := b13) (off := 0) (T := 24) (vs := [iv 0, iv 0, .slice none 0 0]) (v := .agg #[iv r9.W, iv r9.H, .slice ad11 r9.Bits.length cp12]) 0 [iv r9.W, iv r9.H, .slice ad11 r9.Bits.length cp12] S (wN rfl) rfl rfl rfl rfl rfl rfl rfl (by simp) rfl fun a w S => ?_
  refine leafL (leafT (hK8 _ _ ?_))
  obtain ⟨t15, h, g16⟩ := bindSome h
  refine sCut (fun a w => ∃ o14, o14 = t15 ∧ St [] E [] w0 32 a w [(2, .pointer (some ⟨b7, 0, none⟩)), (3, .pointer (some ⟨b13, 0, none⟩))] [eBox b7 24 [iv 0, iv 0, .slice none 0 0], eBox b13 24 [iv r9.W, iv r9.H, .slice ad11 o14.length cp12], eRow rB 4 (.slice ad11 o14.length cp12) o14] []) ?_ (fun a w hI => ?_)
  rotate_left
  · obtain ⟨o14, rfl, S⟩ := hI
    have h := g16
    clear g16
    try dsimp only at h
    refine sSeq (fun K46 hK46 => ?_)
    refine sRegion ?_
    refine sLoadN (p := b13) (off := 0) (T := 24) (vs := [iv r9.W, iv r9.H, .slice ad11 o14.length cp12]) 1 [iv r9.W, iv r9.H, .slice ad11 o14.length cp12] S (wN rfl) rfl rfl rfl rfl rfl rfl rfl (lb rfl) fun a S => ?_
    refine sStore (p := b7) (off := 0) (T := 24) (vs := [iv 0, iv 0, .slice none 0 0]) (v := .agg #[iv r9.W, iv r9.H, .slice ad11 o14.length cp12]) 0 [iv r9.W, iv r9.H, .slice ad11 o14.length cp12] S (wN rfl) rfl rfl rfl rfl rfl rfl rfl (by simp) rfl fun a w S => ?_
    refine leafL (leafT (hK46 _ _ ?_))
    obtain rfl := Option.some.inj h
    have S := S.shutR (r := rB) (T := 4) (v := .slice ad11 o14.length cp12) (xs := o14) 2 rfl
    have S := S.learn (fRep r_api_Grid (.agg #[iv r9.W, iv r9.H, .slice ad11 o14.length cp12]) (api_Grid.mk r9.W r9.H o14)) ⟨_, rfl, S.mem.know (i := 0) (e := fRep (rL rB) (.slice ad11 o14.length cp12) o14) rfl⟩
    exact wp_ret (sRet (.agg #[iv r9.W, iv r9.H, .slice ad11 o14.length cp12]) S (rsl1 rfl (rvN (c := 2) (t := 24) (T := 24) (p := b7) 0 [iv r9.W, iv r9.H, .slice ad11 o14.length cp12] S rfl rfl rfl rfl)) ⟨(.agg #[iv r9.W, iv r9.H, .slice ad11 o14.length cp12]), rfl, S.mem.sel [] [0] (by decide) rfl rfl⟩)
  refine sSeq (fun K17 hK17 => ?_)
  refine sRegion ?_
  refine sMove (iv 0) S (wN rfl) (.inr rfl) rfl rfl (lb rfl) fun a S => ?_
  refine leafL (leafT (hK17 _ _ ?_))
  refine wp_block ?_
  obtain ⟨t22, hl, g21⟩ := bindSome h
  refine sLoop hl (fun s0 a w => match s0 with | (s18, s19) => St [] E [] w0 32 a w [(1, .pointer (some ⟨b6, 0, none⟩)), (2, .pointer (some ⟨b7, 0, none⟩)), (3, .pointer (some ⟨b13, 0, none⟩)), (4, iv s18)] [eBox b6 24 [iv p0.W, iv p0.H, .slice ad3 p0.Bits.length cp4], eBox b7 24 [iv 0, iv 0, .slice none 0 0], eBox b13 24 [iv r9.W, iv r9.H, .slice ad11 s19.length cp12], eRow rB 4 (.slice ad11 s19.length cp12) s19] [fRep (rL rB) (.slice ad3 p0.Bits.length cp4) p0.Bits]) (S.fix [3, 2, 0, 1] [0] (by decide) rfl rfl rfl) ?_
  clear hl h
  intro s0 a w c0 hI h hu20
  obtain ⟨s18, s19⟩ := s0
  unfold raddleref01_Turned_l2 at h
  dsimp only at h hI
  have S := hI
  refine sSeq (fun K24 hK24 => ?_)
  refine sSeq (fun K25 hK25 => ?_)
  refine sRegion ?_
  refine sMove (iv s18) S (wN rfl) (.inl rfl) rfl rfl (lb rfl) fun a S => ?_
  refine sField (b := b13) (off := 0) 0 0 S (wN rfl) rfl rfl rfl rfl rfl (lb rfl) fun a S => ?_
  refine sLoad1 (p := b13) (off := 0) (T := 24) (vs := [iv r9.W, iv r9.H, .slice ad11 s19.length cp12]) 2 (iv r9.W) S (wN rfl) rfl rfl rfl rfl rfl rfl (lb rfl) fun a S => ?_
  refine sBin (.bool (decide (s18 < r9.W))) S (wN rfl) rfl rfl rfl (bLt _ _ _ _ .i64 s18 r9.W) rfl (lb rfl) fun a S => ?_
  refine leafL (leafT (hK25 _ _ ?_))
  rcases iteSome h with ⟨hc26, h⟩ | ⟨hc26, h⟩
  rotate_left
  · refine sCondF S rfl hc26 ?_
    obtain rfl := Option.some.inj h
    obtain rfl := hu20 _ rfl
    have h := g21
    clear g21
    try dsimp only at h
    exact wp_exit (xThen (xThen (xHit (leafT (⟨s19, Option.some.inj h, S.fix [1, 2, 3] [] (by decide) rfl rfl rfl⟩)))))
  refine sCondT S rfl hc26 ?_
  refine wp_skip (leafT (hK24 _ _ ?_))
  obtain ⟨t28, h, g29⟩ := bindSome h
  refine sCut (fun a w => ∃ o27, o27 = t28 ∧ St [] E [] w0 32 a w [(1, .pointer (some ⟨b6, 0, none⟩)), (2, .pointer (some ⟨b7, 0, none⟩)), (3, .pointer (some ⟨b13, 0, none⟩)), (4, iv s18)] [eBox b6 24 [iv p0.W, iv p0.H, .slice ad3 p0.Bits.length cp4], eBox b7 24 [iv 0, iv 0, .slice none 0 0], eBox b13 24 [iv r9.W, iv r9.H, .slice ad11 o27.length cp12], eRow rB 4 (.slice ad11 o27.length cp12) o27] [fRep (rL rB) (.slice ad3 p0.Bits.length cp4) p0.Bits]) ?_ (fun a w hI => ?_)
  rotate_left
  · obtain ⟨o27, rfl, S⟩ := hI
    have h := g29
    clear g29
    try dsimp only at h
    refine sRegion ?_
    refine sMove (iv s18) S (wN rfl) (.inl rfl) rfl rfl (lb rfl) fun a S => ?_
    refine sBin (iv (w64 (s18 + 1))) S (wN rfl) rfl rfl rfl (bAdd _ _ _ _ s18 1) rfl (lb rfl) fun a S => ?_
    refine sMove (iv (w64 (s18 + 1))) S (wN rfl) (.inr rfl) rfl rfl (lb rfl) fun a S => ?_
    exact leafL (leafT (⟨(w64 (s18 + 1), o27), (Option.some.inj h).symm, (S.fix [0, 1, 2, 3] [0] (by decide) rfl rfl rfl)⟩))
  refine wp_block ?_
  refine sSeq (fun K30 hK30 => ?_)
  refine sRegion ?_
  refine sMove (iv 0) S (wN rfl) (.inr rfl) rfl rfl (lb rfl) fun a S => ?_
  refine leafL (leafT (hK30 _ _ ?_))
  refine wp_block ?_
  obtain ⟨t35, hl, g34⟩ := bindSome h
  refine sLoop hl (fun s0 a w => match s0 with | (s31, s32) => St [] E [] w0 32 a w [(1, .pointer (some ⟨b6, 0, none⟩)), (2, .pointer (some ⟨b7, 0, none⟩)), (3, .pointer (some ⟨b13, 0, none⟩)), (4, iv s18), (5, iv s31)] [eBox b6 24 [iv p0.W, iv p0.H, .slice ad3 p0.Bits.length cp4], eBox b7 24 [iv 0, iv 0, .slice none 0 0], eBox b13 24 [iv r9.W, iv r9.H, .slice ad11 s32.length cp12], eRow rB 4 (.slice ad11 s32.length cp12) s32] [fRep (rL rB) (.slice ad3 p0.Bits.length cp4) p0.Bits]) (S.fix [0, 1, 2, 3] [0] (by decide) rfl rfl rfl) ?_
  clear hl h
  intro s0 a w c0 hI h hu33
  obtain ⟨s31, s32⟩ := s0
  unfold raddleref01_Turned_l1 at h
  dsimp only at h hI
  have S := hI
  refine sSeq (fun K37 hK37 => ?_)
  refine sSeq (fun K38 hK38 => ?_)
  refine sRegion ?_
  refine sMove (iv s31) S (wN rfl) (.inl rfl) rfl rfl (lb rfl) fun a S => ?_
  refine sField (b := b13) (off := 0) 1 1 S (wN rfl) rfl rfl rfl rfl rfl (lb rfl) fun a S => ?_
  refine sLoad1 (p := b13) (off := 1) (T := 24) (vs := [iv r9.W, iv r9.H, .slice ad11 s32.length cp12]) 2 (iv r9.H) S (wN rfl) rfl rfl rfl rfl rfl rfl (lb rfl) fun a S => ?_
  refine sBin (.bool (decide (s31 < r9.H))) S (wN rfl) rfl rfl rfl (bLt _ _ _ _ .i64 s31 r9.H) rfl (lb rfl) fun a S => ?_
  refine leafL (leafT (hK38 _ _ ?_))
  rcases iteSome h with ⟨hc39, h⟩ | ⟨hc39, h⟩
  rotate_left
  · refine sCondF S rfl hc39 ?_
    obtain rfl := Option.some.inj h
    obtain rfl := hu33 _ rfl
    have h := g34
    clear g34
    try dsimp only at h
    exact wp_exit (xThen (xThen (xHit (leafB (leafT (⟨s32, Option.some.inj h, S.fix [0, 1, 2, 3] [0] (by decide) rfl rfl rfl⟩))))))
  refine sCondT S rfl hc39 ?_
  refine wp_skip (leafT (hK37 _ _ ?_))
  refine sSeq (fun K40 hK40 => ?_)
  refine wp_block ?_
  obtain ⟨r41, hx42, h⟩ := bindSome h
  obtain ⟨r43, hx44, h⟩ := bindSome h
  refine sDraw (nf := [7]) (W := [(0, 23, .agg #[iv r9.W, iv r9.H, .slice ad11 s32.length cp12]), (1, 24, iv s18), (2, 25, iv s31), (3, 26, .agg #[iv p0.W, iv p0.H, .slice ad3 p0.Bits.length cp4]), (4, 27, iv s31), (5, 28, iv s18), (6, 29, .bool r41)]) rfl S ?_
  refine node_by (A := [[], [], [], [], [], [], [3, 4, 5], [0, 1, 2, 3, 4, 5, 6]]) (nf := [7]) (Y := []) (W := [(0, 23, .agg #[iv r9.W, iv r9.H, .slice ad11 s32.length cp12]), (1, 24, iv s18), (2, 25, iv s31), (3, 26, .agg #[iv p0.W, iv p0.H, .slice ad3 p0.Bits.length cp4]), (4, 27, iv s31), (5, 28, iv s18), (6, 29, .bool r41)]) 8 (by kernel_rfl) (by kernel_rfl) (by kernel_rfl) (by kernel_rfl) (by kernel_rfl) [0, 1, 2, 3, 4, 5, 6] (by kernel_rfl) (by decide) (by decide) (aF 0 7 (by decide) ?_ (aF 1 6 (by decide) ?_ (aF 2 5 (by decide) ?_ (aF 3 4 (by decide) ?_ (aF 4 3 (by decide) ?_ (aF 5 2 (by decide) ?_ (aF 6 1 (by decide) ?_ (aN 7 0 (by decide) ?_ (trivial))))))))) [] (fun q hq => by cases hq) (fun hY => absurd (hY 7 (by decide)) (by decide))
  · refine fI 23 (.agg #[iv r9.W, iv r9.H, .slice ad11 s32.length cp12]) [(3, .pointer (some ⟨b13, 0, none⟩))] 0 [none] rfl rfl rfl rfl rfl rfl fun G a w S => ?_
    refine sLoadN (p := b13) (off := 0) (T := 24) (vs := [iv r9.W, iv r9.H, .slice ad11 s32.length cp12]) 2 [iv r9.W, iv r9.H, .slice ad11 s32.length cp12] S (wN rfl) rfl rfl rfl rfl rfl rfl rfl (lb rfl) fun a S => ?_
    exact leafL ⟨rfl, S⟩
  · refine fI 24 (iv s18) [(4, iv s18)] 1 [none] rfl rfl rfl rfl rfl rfl fun G a w S => ?_
    refine sMove (iv s18) S (wN rfl) (.inl rfl) rfl rfl (lb rfl) fun a S => ?_
    exact leafL ⟨rfl, S⟩
  · refine fI 25 (iv s31) [(5, iv s31)] 2 [none] rfl rfl rfl rfl rfl rfl fun G a w S => ?_
    refine sMove (iv s31) S (wN rfl) (.inl rfl) rfl rfl (lb rfl) fun a S => ?_
    exact leafL ⟨rfl, S⟩
  · refine fI 26 (.agg #[iv p0.W, iv p0.H, .slice ad3 p0.Bits.length cp4]) [(1, .pointer (some ⟨b6, 0, none⟩))] 3 [none] rfl rfl rfl rfl rfl rfl fun G a w S => ?_
    refine sLoadN (p := b6) (off := 0) (T := 24) (vs := [iv p0.W, iv p0.H, .slice ad3 p0.Bits.length cp4]) 0 [iv p0.W, iv p0.H, .slice ad3 p0.Bits.length cp4] S (wN rfl) rfl rfl rfl rfl rfl rfl rfl (lb rfl) fun a S => ?_
    exact leafL ⟨rfl, S⟩
  · refine fI 27 (iv s31) [(5, iv s31)] 4 [none] rfl rfl rfl rfl rfl rfl fun G a w S => ?_
    refine sMove (iv s31) S (wN rfl) (.inl rfl) rfl rfl (lb rfl) fun a S => ?_
    exact leafL ⟨rfl, S⟩
  · refine fI 28 (iv s18) [(4, iv s18)] 5 [none] rfl rfl rfl rfl rfl rfl fun G a w S => ?_
    refine sMove (iv s18) S (wN rfl) (.inl rfl) rfl rfl (lb rfl) fun a S => ?_
    exact leafL ⟨rfl, S⟩
  · refine fI 29 (.bool r41) [(26, .agg #[iv p0.W, iv p0.H, .slice ad3 p0.Bits.length cp4]), (27, iv s31), (28, iv s18)] 6 [some 3, some 4, some 5] rfl rfl rfl rfl rfl rfl fun G a w S => ?_
    have S1 := S.mem
    have S1 := S1.learn (fRep r_api_Grid (.agg #[iv p0.W, iv p0.H, .slice ad3 p0.Bits.length cp4]) p0) ⟨_, rfl, S1.know (i := 0) (e := fRep (rL rB) (.slice ad3 p0.Bits.length cp4) p0.Bits) rfl⟩
    refine sCallQ (X := Unit) (f := 69) (vs := [.agg #[iv p0.W, iv p0.H, .slice ad3 p0.Bits.length cp4], iv s31, iv s18]) (val := fun _ => .bool r41) S (wN rfl) rfl callee69 rfl (S1.quiet [0] rfl) (fun E1 w1 S1 => c_raddleref01_At E1 w1 p0 (.agg #[iv p0.W, iv p0.H, .slice ad3 p0.Bits.length cp4]) s31 s18 r41 hx42 S1) rfl (lb rfl) fun _ a w S => ?_
    exact leafL ⟨rfl, S⟩
  refine ⟨_, [(23, .agg #[iv r9.W, iv r9.H, .slice ad11 s32.length cp12]), (24, iv s18), (25, iv s31), (29, .bool r41)], rfl, (srcs_of [some 0, some 1, some 2, some 6] rfl rfl rfl), fun G a w S => ?_⟩
  refine sCall (X := Unit) (f := 67) (vs := [.agg #[iv r9.W, iv r9.H, .slice ad11 s32.length cp12], iv s18, iv s31, .bool r41]) (val := fun _ => .tuple #[]) (B' := fun _ => [eRow rB 4 (.slice ad11 s32.length cp12) r43]) (D' := fun _ => []) [eRow rB 4 (.slice ad11 s32.length cp12) s32] [eBox b6 24 [iv p0.W, iv p0.H, .slice ad3 p0.Bits.length cp4], eBox b7 24 [iv 0, iv 0, .slice none 0 0], eBox b13 24 [iv r9.W, iv r9.H, .slice ad11 s32.length cp12]] [] [3, 0, 1, 2] [] S (wN rfl) rfl callee67 rfl (by decide) rfl rfl (fun E1 w1 S1 => c_raddleref01_Set_s0 E1 w1 r9.W r9.H s32 ad11 cp12 s18 s31 r41 r43 hx44 S1) rfl (lb rfl) fun _ a w S => ?_
  refine leafL ⟨rfl, _, _, .inl ⟨30, (.tuple #[]), [], rfl, S, hz_of rfl, ?_⟩⟩
  refine node_by (A := [[], [], [], [], [], [], [3, 4, 5], [0, 1, 2, 3, 4, 5, 6]]) (nf := [7]) (Y := [7]) 8 (by kernel_rfl) (by kernel_rfl) (by kernel_rfl) (by kernel_rfl) (by kernel_rfl) [7, 0, 1, 2, 3, 4, 5, 6] (by kernel_rfl) (by decide) (by decide) (aD 0 7 7 (by decide) (aD 1 6 7 (by decide) (aD 2 5 7 (by decide) (aD 3 4 7 (by decide) (aD 4 3 7 (by decide) (aD 5 2 7 (by decide) (aD 6 1 7 (by decide) (aY 7 0 (by decide) (trivial))))))))) [(1, .pointer (some ⟨b6, 0, none⟩)), (2, .pointer (some ⟨b7, 0, none⟩)), (3, .pointer (some ⟨b13, 0, none⟩)), (4, iv s18), (5, iv s31)] (fin_of [none, none, none, none, none] rfl (by kernel_rfl) (by kernel_rfl)) (fun _ a w S => ?_)
  have hr45 := row_v (S.mem.hold (i := 0) (e := eRow rB 4 (.slice ad11 s32.length cp12) r43) rfl)
  rw [hr45] at S
  refine leafB (leafT (hK40 _ _ ?_))
  refine sRegion ?_
  refine sMove (iv s31) S (wN rfl) (.inl rfl) rfl rfl (lb rfl) fun a S => ?_
  refine sBin (iv (w64 (s31 + 1))) S (wN rfl) rfl rfl rfl (bAdd _ _ _ _ s31 1) rfl (lb rfl) fun a S => ?_
  refine sMove (iv (w64 (s31 + 1))) S (wN rfl) (.inr rfl) rfl rfl (lb rfl) fun a S => ?_
  exact leafL (leafT (⟨(w64 (s31 + 1), r43), (Option.some.inj h).symm, (S.fix [1, 2, 3, 0] [0] (by decide) rfl rfl rfl)⟩))

end Go.Proofs.Ytffikfajljbmnaa
namespace Go.Proofs.Ytffikfajljbmnaa
open Go.RowKit
set_option linter.unusedVariables false

def anc_raddleref01_Twin_s0_0 : List (List Nat) := [[], [0], [], [2], [], [], [5], [4, 5, 6], [0, 1, 2, 3, 4, 5, 6, 7], [0, 1, 2, 3, 4, 5, 6, 7, 8]]
noncomputable def F_raddleref01_Twin_s0 (p0 : api_Grid) : Option api_Grid :=
  Option.bind (appO ([] : List Bool) p0.Bits) fun l11 =>
  some (api_Grid.mk p0.W p0.H l11)
set_option maxHeartbeats 4000000 in
set_option maxRecDepth 100000 in
theorem c_raddleref01_Twin_s0 (E : Nat → Prop) (w0 : World) (p0 : api_Grid) (v0 : Value) (r : api_Grid) (h : F_raddleref01_Twin_s0 p0 = some r) (S : St0 E [] w0 w0 [] [fRep r_api_Grid (v0) p0]) :
    Calls Try.prog 13 #[v0] w0 (Ret (X := Option Addr × Nat) E [] w0 (fun x => .agg #[iv r.W, iv r.H, .slice x.1 r.Bits.length x.2]) (fun x => [eRow rB 4 (.slice x.1 r.Bits.length x.2) r.Bits]) (fun _ => [])) := by
  unfold F_raddleref01_Twin_s0 at h
  obtain ⟨u1, rfl, hu2⟩ := S.know (i := 0) (e := fRep r_api_Grid (v0) p0) rfl
  have S := S.learn (fRep (rL rB) u1 p0.Bits) hu2
  obtain ⟨ad3, cp4, _, rfl, _⟩ := hu2
  refine sEnter (args := [.agg #[iv p0.W, iv p0.H, .slice ad3 p0.Bits.length cp4]]) 12 Try.func13 rfl rfl (by simp) S (fun a S => ?_)
  refine sSeq (fun K5 hK5 => ?_)
  refine sRegion ?_
  refine sBox (v := .agg #[iv p0.W, iv p0.H, .slice ad3 p0.Bits.length cp4]) S (wN rfl) rfl rfl [iv p0.W, iv p0.H, .slice ad3 p0.Bits.length cp4] rfl rfl (lb rfl) fun a b6 w S => ?_
  refine sAlloc (.agg #[iv 0, iv 0, .slice none 0 0]) S (wN rfl) rfl rfl [iv 0, iv 0, .slice none 0 0] rfl rfl (lb rfl) fun a b7 w S => ?_
  refine leafL (leafT (hK5 _ _ ?_))
  refine sSeq (fun K8 hK8 => ?_)
  obtain ⟨l11, hx12, h⟩ := bindSome h
  refine sDraw (nf := [4, 7, 9]) (W := [(0, 3, .pointer (some ⟨b6, 0, none⟩)), (1, 4, iv p0.W), (2, 5, .pointer (some ⟨b6, 1, none⟩)), (3, 6, iv p0.H), (5, 8, .pointer (some ⟨b6, 2, none⟩)), (6, 9, .slice ad3 p0.Bits.length cp4)]) rfl S ?_
  refine node_by (A := anc_raddleref01_Twin_s0_0) (nf := [4, 7, 9]) (Y := []) (W := [(0, 3, .pointer (some ⟨b6, 0, none⟩)), (1, 4, iv p0.W), (2, 5, .pointer (some ⟨b6, 1, none⟩)), (3, 6, iv p0.H), (5, 8, .pointer (some ⟨b6, 2, none⟩)), (6, 9, .slice ad3 p0.Bits.length cp4)]) 10 (by kernel_rfl) (by kernel_rfl) (by kernel_rfl) (by kernel_rfl) (by kernel_rfl) [0, 1, 2, 3, 5, 6] (by kernel_rfl) (by decide) (by decide) (aF 0 9 (by decide) ?_ (aF 1 8 (by decide) ?_ (aF 2 7 (by decide) ?_ (aF 3 6 (by decide) ?_ (aN 4 5 (by decide) ?_ (aF 5 4 (by decide) ?_ (aF 6 3 (by decide) ?_ (aB 7 2 4 (by decide) (aE 8 1 4 (by decide) (aB 9 0 4 (by decide) (trivial))))))))))) [] (fun q hq => by cases hq) (fun hY => absurd (hY 4 (by decide)) (by decide))
  · refine fI 3 (.pointer (some ⟨b6, 0, none⟩)) [(1, .pointer (some ⟨b6, 0, none⟩))] 0 [none] rfl rfl rfl rfl rfl rfl fun G a w S => ?_
    refine sField (b := b6) (off := 0) 0 0 S (wN rfl) rfl rfl rfl rfl rfl (lb rfl) fun a S => ?_
    exact leafL ⟨rfl, S⟩
  · refine fI 4 (iv p0.W) [(3, .pointer (some ⟨b6, 0, none⟩))] 1 [some 0] rfl rfl rfl rfl rfl rfl fun G a w S => ?_
    refine sLoad1 (p := b6) (off := 0) (T := 24) (vs := [iv p0.W, iv p0.H, .slice ad3 p0.Bits.length cp4]) 1 (iv p0.W) S (wN rfl) rfl rfl rfl rfl rfl rfl (lb rfl) fun a S => ?_
    exact leafL ⟨rfl, S⟩
  · refine fI 5 (.pointer (some ⟨b6, 1, none⟩)) [(1, .pointer (some ⟨b6, 0, none⟩))] 2 [none] rfl rfl rfl rfl rfl rfl fun G a w S => ?_
    refine sField (b := b6) (off := 0) 1 1 S (wN rfl) rfl rfl rfl rfl rfl (lb rfl) fun a S => ?_
    exact leafL ⟨rfl, S⟩
  · refine fI 6 (iv p0.H) [(5, .pointer (some ⟨b6, 1, none⟩))] 3 [some 2] rfl rfl rfl rfl rfl rfl fun G a w S => ?_
    refine sLoad1 (p := b6) (off := 1) (T := 24) (vs := [iv p0.W, iv p0.H, .slice ad3 p0.Bits.length cp4]) 1 (iv p0.H) S (wN rfl) rfl rfl rfl rfl rfl rfl (lb rfl) fun a S => ?_
    exact leafL ⟨rfl, S⟩
  · refine ⟨_, [], rfl, (srcs_of [] rfl rfl rfl), fun G a w S => ?_⟩
    refine sLit0 (α := Bool) rB (T := 4) S (wN rfl) rfl Try.underlying22 rfl rfl (lb rfl) fun a w ad15 cp16 S => ?_
    refine leafL ⟨rfl, _, _, .inl ⟨7, (.slice ad15 ([] : List Bool).length cp16), [], rfl, S, hz_of rfl, ?_⟩⟩
    refine node_by (A := anc_raddleref01_Twin_s0_0) (nf := [4, 7, 9]) (Y := [4]) 10 (by kernel_rfl) (by kernel_rfl) (by kernel_rfl) (by kernel_rfl) (by kernel_rfl) [4, 0, 1, 2, 3, 5, 6] (by kernel_rfl) (by decide) (by decide) (aF 0 9 (by decide) ?_ (aF 1 8 (by decide) ?_ (aF 2 7 (by decide) ?_ (aF 3 6 (by decide) ?_ (aY 4 5 (by decide) (aF 5 4 (by decide) ?_ (aF 6 3 (by decide) ?_ (aN 7 2 (by decide) ?_ (aE 8 1 7 (by decide) (aB 9 0 7 (by decide) (trivial))))))))))) [] (fun q hq => by cases hq) (fun hY => absurd (hY 7 (by decide)) (by decide))
    · refine fI 3 (.pointer (some ⟨b6, 0, none⟩)) [(1, .pointer (some ⟨b6, 0, none⟩))] 1 [none] rfl rfl rfl rfl rfl rfl fun G a w S => ?_
      refine sField (b := b6) (off := 0) 0 0 S (wN rfl) rfl rfl rfl rfl rfl (lb rfl) fun a S => ?_
      exact leafL ⟨rfl, S⟩
    · refine fI 4 (iv p0.W) [(3, .pointer (some ⟨b6, 0, none⟩))] 2 [some 1] rfl rfl rfl rfl rfl rfl fun G a w S => ?_
      refine sLoad1 (p := b6) (off := 0) (T := 24) (vs := [iv p0.W, iv p0.H, .slice ad3 p0.Bits.length cp4]) 2 (iv p0.W) S (wN rfl) rfl rfl rfl rfl rfl rfl (lb rfl) fun a S => ?_
      exact leafL ⟨rfl, S⟩
    · refine fI 5 (.pointer (some ⟨b6, 1, none⟩)) [(1, .pointer (some ⟨b6, 0, none⟩))] 3 [none] rfl rfl rfl rfl rfl rfl fun G a w S => ?_
      refine sField (b := b6) (off := 0) 1 1 S (wN rfl) rfl rfl rfl rfl rfl (lb rfl) fun a S => ?_
      exact leafL ⟨rfl, S⟩
    · refine fI 6 (iv p0.H) [(5, .pointer (some ⟨b6, 1, none⟩))] 4 [some 3] rfl rfl rfl rfl rfl rfl fun G a w S => ?_
      refine sLoad1 (p := b6) (off := 1) (T := 24) (vs := [iv p0.W, iv p0.H, .slice ad3 p0.Bits.length cp4]) 2 (iv p0.H) S (wN rfl) rfl rfl rfl rfl rfl rfl (lb rfl) fun a S => ?_
      exact leafL ⟨rfl, S⟩
    · refine fI 8 (.pointer (some ⟨b6, 2, none⟩)) [(1, .pointer (some ⟨b6, 0, none⟩))] 5 [none] rfl rfl rfl rfl rfl rfl fun G a w S => ?_
      refine sField (b := b6) (off := 0) 2 2 S (wN rfl) rfl rfl rfl rfl rfl (lb rfl) fun a S => ?_
      exact leafL ⟨rfl, S⟩
    · refine fI 9 (.slice ad3 p0.Bits.length cp4) [(8, .pointer (some ⟨b6, 2, none⟩))] 6 [some 5] rfl rfl rfl rfl rfl rfl fun G a w S => ?_
      refine sLoad1 (p := b6) (off := 2) (T := 24) (vs := [iv p0.W, iv p0.H, .slice ad3 p0.Bits.length cp4]) 2 (.slice ad3 p0.Bits.length cp4) S (wN rfl) rfl rfl rfl rfl rfl rfl (lb rfl) fun a S => ?_
      exact leafL ⟨rfl, S⟩
    refine ⟨_, [(7, .slice ad15 ([] : List Bool).length cp16), (9, .slice ad3 p0.Bits.length cp4)], rfl, (srcs_of [some 0, some 6] rfl rfl rfl), fun G a w S => ?_⟩
    refine sApp (r := rB) (T := 4) (xs := ([] : List Bool)) (ys := p0.Bits) (v := .slice ad15 ([] : List Bool).length cp16) (u := .slice ad3 p0.Bits.length cp4) 0 (.bool false) 1 S (wN rfl) rfl Try.underlying22 rfl rfl (by decide) rfl rfl rfl (src_D 0 S.mem rfl) hx12 rfl (lb rfl) fun a w ad17 cp18 S => ?_
    refine leafL ⟨rfl, _, _, .inl ⟨10, (.slice ad17 l11.length cp18), [(8, 11, .agg #[iv p0.W, iv p0.H, .slice ad17 l11.length cp18])], rfl, S, hz_of rfl, ?_⟩⟩
    refine node_by (A := anc_raddleref01_Twin_s0_0) (nf := [4, 7, 9]) (Y := [7, 4]) 10 (by kernel_rfl) (by kernel_rfl) (by kernel_rfl) (by kernel_rfl) (by kernel_rfl) [8, 7, 4, 0, 1, 2, 3, 5, 6] (by kernel_rfl) (by decide) (by decide) (aF 0 9 (by decide) ?_ (aF 1 8 (by decide) ?_ (aF 2 7 (by decide) ?_ (aF 3 6 (by decide) ?_ (aY 4 5 (by decide) (aD 5 4 7 (by decide) (aD 6 3 7 (by decide) (aY 7 2 (by decide) (aF 8 1 (by decide) ?_ (aN 9 0 (by decide) ?_ (trivial))))))))))) [] (fun q hq => by cases hq) (fun hY => absurd (hY 9 (by decide)) (by decide))
    · refine fI 3 (.pointer (some ⟨b6, 0, none⟩)) [(1, .pointer (some ⟨b6, 0, none⟩))] 3 [none] rfl rfl rfl rfl rfl rfl fun G a w S => ?_
      refine sField (b := b6) (off := 0) 0 0 S (wN rfl) rfl rfl rfl rfl rfl (lb rfl) fun a S => ?_
      exact leafL ⟨rfl, S⟩
    · refine fI 4 (iv p0.W) [(3, .pointer (some ⟨b6, 0, none⟩))] 4 [some 3] rfl rfl rfl rfl rfl rfl fun G a w S => ?_
      refine sLoad1 (p := b6) (off := 0) (T := 24) (vs := [iv p0.W, iv p0.H, .slice ad3 p0.Bits.length cp4]) 2 (iv p0.W) S (wN rfl) rfl rfl rfl rfl rfl rfl (lb rfl) fun a S => ?_
      exact leafL ⟨rfl, S⟩
    · refine fI 5 (.pointer (some ⟨b6, 1, none⟩)) [(1, .pointer (some ⟨b6, 0, none⟩))] 5 [none] rfl rfl rfl rfl rfl rfl fun G a w S => ?_
      refine sField (b := b6) (off := 0) 1 1 S (wN rfl) rfl rfl rfl rfl rfl (lb rfl) fun a S => ?_
      exact leafL ⟨rfl, S⟩
    · refine fI 6 (iv p0.H) [(5, .pointer (some ⟨b6, 1, none⟩))] 6 [some 5] rfl rfl rfl rfl rfl rfl fun G a w S => ?_
      refine sLoad1 (p := b6) (off := 1) (T := 24) (vs := [iv p0.W, iv p0.H, .slice ad3 p0.Bits.length cp4]) 2 (iv p0.H) S (wN rfl) rfl rfl rfl rfl rfl rfl (lb rfl) fun a S => ?_
      exact leafL ⟨rfl, S⟩
    · refine fI 11 (.agg #[iv p0.W, iv p0.H, .slice ad17 l11.length cp18]) [(4, iv p0.W), (6, iv p0.H), (10, .slice ad17 l11.length cp18)] 0 [some 4, some 6, some 1] rfl rfl rfl rfl rfl rfl fun G a w S => ?_
      refine sBuild [(0, iv p0.W), (1, iv p0.H), (2, .slice ad17 l11.length cp18)] [iv p0.W, iv p0.H, .slice ad17 l11.length cp18] S (wN rfl) rfl rfl rfl rfl (lb rfl) fun a S => ?_
      exact leafL ⟨rfl, S⟩
    refine ⟨_, [(2, .pointer (some ⟨b7, 0, none⟩)), (11, .agg #[iv p0.W, iv p0.H, .slice ad17 l11.length cp18])], rfl, (srcs_of [none, some 0] rfl rfl rfl), fun G a w S => ?_⟩
    refine sStore (p := b7) (off := 0) (T := 24) (vs := [iv 0, iv 0, .slice none 0 0]) (v := .agg #[iv p0.W, iv p0.H, .slice ad17 l11.length cp18]) 1 [iv p0.W, iv p0.H, .slice ad17 l11.length cp18] S (wN rfl) rfl rfl rfl rfl rfl rfl rfl (by simp) rfl fun a w S => ?_
    refine leafL ⟨rfl, _, _, .inr ⟨[], rfl, S, hz_of rfl, ?_⟩⟩
    refine node_by (A := anc_raddleref01_Twin_s0_0) (nf := [4, 7, 9]) (Y := [9, 7, 4]) 10 (by kernel_rfl) (by kernel_rfl) (by kernel_rfl) (by kernel_rfl) (by kernel_rfl) [8, 7, 4, 0, 1, 2, 3, 5, 6] (by kernel_rfl) (by decide) (by decide) (aD 0 9 9 (by decide) (aD 1 8 9 (by decide) (aD 2 7 9 (by decide) (aD 3 6 9 (by decide) (aY 4 5 (by decide) (aD 5 4 9 (by decide) (aD 6 3 9 (by decide) (aY 7 2 (by decide) (aD 8 1 9 (by decide) (aY 9 0 (by decide) (trivial))))))))))) [(2, .pointer (some ⟨b7, 0, none⟩))] (fin_of [none] rfl (by kernel_rfl) (by kernel_rfl)) (fun _ a w S => ?_)
    refine leafT (hK8 _ _ ?_)
    obtain rfl := Option.some.inj h
    exact wp_ret (sRet (.agg #[iv p0.W, iv p0.H, .slice ad17 l11.length cp18]) S (rsl1 rfl (rvN (c := 2) (t := 24) (T := 24) (p := b7) 0 [iv p0.W, iv p0.H, .slice ad17 l11.length cp18] S rfl rfl rfl rfl)) ⟨(ad17, cp18), rfl, S.mem.sel [1] [] (by decide) rfl rfl⟩)
  · refine fI 8 (.pointer (some ⟨b6, 2, none⟩)) [(1, .pointer (some ⟨b6, 0, none⟩))] 4 [none] rfl rfl rfl rfl rfl rfl fun G a w S => ?_
    refine sField (b := b6) (off := 0) 2 2 S (wN rfl) rfl rfl rfl rfl rfl (lb rfl) fun a S => ?_
    exact leafL ⟨rfl, S⟩
  refine fI 9 (.slice ad3 p0.Bits.length cp4) [(8, .pointer (some ⟨b6, 2, none⟩))] 5 [some 4] rfl rfl rfl rfl rfl rfl fun G a w S => ?_
  refine sLoad1 (p := b6) (off := 2) (T := 24) (vs := [iv p0.W, iv p0.H, .slice ad3 p0.Bits.length cp4]) 1 (.slice ad3 p0.Bits.length cp4) S (wN rfl) rfl rfl rfl rfl rfl rfl (lb rfl) fun a S => ?_
  exact leafL ⟨rfl, S⟩

end Go.Proofs.Ytffikfajljbmnaa
namespace Go.Proofs.Ytffikfajljbmnaa
open Go.RowKit
set_option linter.unusedVariables false

def anc_raddleref01_Not_0 : List (List Nat) := [[], [0], [], [], [3], [], [3, 4, 5], [3, 4, 5, 6], [3, 4, 5, 6, 7], [0, 1, 2, 3, 4, 5, 6, 7, 8], [0, 1, 2, 3, 4, 5, 6, 7, 8, 9]]
noncomputable def raddleref01_Not_l1  : (Int × List Bool) → Option ((Int × List Bool) ⊕ List Bool) := fun s0 => match s0 with
  | (s24, s25) =>
    if decide (s24 < (s25.length : Int)) then
      Option.bind (idxO s25 s24) fun x34 =>
      Option.bind (setO s25 s24 (!x34)) fun l42 =>
      some (.inl (w64 (s24 + 1), l42))
    else
      some (.inr s25)
noncomputable def F_raddleref01_Not (p0 : api_Grid) : Option (api_Grid × Int) :=
  Option.bind (F_raddleref01_Check p0) fun r10 =>
  if r10 != 0 then
    some ((api_Grid.mk 0 0 ([] : (List Bool))), r10)
  else
    Option.bind (F_raddleref01_Twin_s0 p0) fun r15 =>
    Option.bind (α := List Bool) (
      Option.bind (whileO (raddleref01_Not_l1) (0, r15.Bits)) fun e29 =>
        some e29) fun o20 =>
    some ((api_Grid.mk r15.W r15.H o20), 0)
def c_raddleref01_Not_val (r : (api_Grid × Int)) (x : Value) : Value := .tuple #[x, .int .i64 r.2]
def c_raddleref01_Not_D (r : (api_Grid × Int)) (x : Value) : List Fact := [fRep r_api_Grid x r.1]
set_option maxHeartbeats 4000000 in
set_option maxRecDepth 100000 in
theorem c_raddleref01_Not (E : Nat → Prop) (w0 : World) (p0 : api_Grid) (v0 : Value) (r : (api_Grid × Int)) (h : F_raddleref01_Not p0 = some r) (S : St0 E [] w0 w0 [] [fRep r_api_Grid (v0) p0]) :
    Calls Try.prog 72 #[v0] w0 (Ret (X := Value) E [] w0 (c_raddleref01_Not_val r) (fun _ => []) (c_raddleref01_Not_D r)) := by
  unfold F_raddleref01_Not at h
  obtain ⟨u1, rfl, hu2⟩ := S.know (i := 0) (e := fRep r_api_Grid (v0) p0) rfl
  have S := S.learn (fRep (rL rB) u1 p0.Bits) hu2
  obtain ⟨ad3, cp4, _, rfl, _⟩ := hu2
  refine sEnter (args := [.agg #[iv p0.W, iv p0.H, .slice ad3 p0.Bits.length cp4]]) 32 Try.func72 rfl rfl (by simp) S (fun a S => ?_)
  refine sSeq (fun K5 hK5 => ?_)
  refine sRegion ?_
  refine sBox (v := .agg #[iv p0.W, iv p0.H, .slice ad3 p0.Bits.length cp4]) S (wN rfl) rfl rfl [iv p0.W, iv p0.H, .slice ad3 p0.Bits.length cp4] rfl rfl (lb rfl) fun a b6 w S => ?_
  refine sAlloc (.agg #[iv 0, iv 0, .slice none 0 0]) S (wN rfl) rfl rfl [iv 0, iv 0, .slice none 0 0] rfl rfl (lb rfl) fun a b7 w S => ?_
  refine sMove (iv 0) S (wN rfl) (.inr rfl) rfl rfl (lb rfl) fun a S => ?_
  refine leafL (leafT (hK5 _ _ ?_))
  refine sSeq (fun K8 hK8 => ?_)
  refine sSeq (fun K9 hK9 => ?_)
  refine sRegion ?_
  refine sLoadN (p := b6) (off := 0) (T := 24) (vs := [iv p0.W, iv p0.H, .slice ad3 p0.Bits.length cp4]) 1 [iv p0.W, iv p0.H, .slice ad3 p0.Bits.length cp4] S (wN rfl) rfl rfl rfl rfl rfl rfl rfl (lb rfl) fun a S => ?_
  obtain ⟨r10, hx11, h⟩ := bindSome h
  have S1 := S.mem
  refine sCallQ (X := Unit) (f := 80) (vs := [.agg #[iv p0.W, iv p0.H, .slice ad3 p0.Bits.length cp4]]) (val := fun _ => iv r10) S (wN rfl) rfl callee80 rfl (S1.quiet [1] rfl) (fun E1 w1 S1 => c_raddleref01_Check E1 w1 p0 (.agg #[iv p0.W, iv p0.H, .slice ad3 p0.Bits.length cp4]) r10 hx11 S1) rfl (lb rfl) fun _ a w S => ?_
  refine sBin (.bool (r10 != 0)) S (wN rfl) rfl rfl rfl (bNe _ _ _ _ .i64 r10 0) rfl (lb rfl) fun a S => ?_
  refine leafL (leafT (hK9 _ _ ?_))
  rcases iteSome h with ⟨hc12, h⟩ | ⟨hc12, h⟩
  · refine sCondT S rfl hc12 ?_
    refine sSeq (fun K13 hK13 => ?_)
    refine sRegion ?_
    refine sBuild [] [iv 0, iv 0, .slice none 0 0] S (wN rfl) rfl rfl rfl rfl (lb rfl) fun a S => ?_
    refine sLoadN (p := b6) (off := 0) (T := 24) (vs := [iv p0.W, iv p0.H, .slice ad3 p0.Bits.length cp4]) 1 [iv p0.W, iv p0.H, .slice ad3 p0.Bits.length cp4] S (wN rfl) rfl rfl rfl rfl rfl rfl rfl (lb rfl) fun a S => ?_
    have S1 := S.mem
    refine sCallQ (X := Unit) (f := 80) (vs := [.agg #[iv p0.W, iv p0.H, .slice ad3 p0.Bits.length cp4]]) (val := fun _ => iv r10) S (wN rfl) rfl callee80 rfl (S1.quiet [1] rfl) (fun E1 w1 S1 => c_raddleref01_Check E1 w1 p0 (.agg #[iv p0.W, iv p0.H, .slice ad3 p0.Bits.length cp4]) r10 hx11 S1) rfl (lb rfl) fun _ a w S => ?_
    refine sStore (p := b7) (off := 0) (T := 24) (vs := [iv 0, iv 0, .slice none 0 0]) (v := .agg #[iv 0, iv 0, .slice none 0 0]) 0 [iv 0, iv 0, .slice none 0 0] S (wN rfl) rfl rfl rfl rfl rfl rfl rfl (by simp) rfl fun a w S => ?_
    refine sMove (iv r10) S (wN rfl) (.inr rfl) rfl rfl (lb rfl) fun a S => ?_
    refine leafL (leafT (hK13 _ _ ?_))
    obtain rfl := Option.some.inj h
    have S := S.learn (fRep (rL rB) (.slice none 0 0) ([] : (List Bool))) (rL_nil _ _ _)
    have S := S.learn (fRep r_api_Grid (.agg #[iv 0, iv 0, .slice none 0 0]) (api_Grid.mk 0 0 ([] : (List Bool)))) ⟨_, rfl, S.mem.know (i := 0) (e := fRep (rL rB) (.slice none 0 0) ([] : (List Bool))) rfl⟩
    exact wp_ret (rThen (sRet (.tuple #[.agg #[iv 0, iv 0, .slice none 0 0], iv r10]) S (rsl2 rfl (rvN (c := 2) (t := 24) (T := 24) (p := b7) 0 [iv 0, iv 0, .slice none 0 0] S rfl rfl rfl rfl) (rvT (t := 3) (v := iv r10) S rfl)) ⟨(.agg #[iv 0, iv 0, .slice none 0 0]), rfl, S.mem.sel [] [0] (by decide) rfl rfl⟩))
  refine sCondF S rfl hc12 ?_
  refine wp_skip (leafT (hK8 _ _ ?_))
  refine sSeq (fun K14 hK14 => ?_)
  refine sRegion ?_
  refine sLoadN (p := b6) (off := 0) (T := 24) (vs := [iv p0.W, iv p0.H, .slice ad3 p0.Bits.length cp4]) 1 [iv p0.W, iv p0.H, .slice ad3 p0.Bits.length cp4] S (wN rfl) rfl rfl rfl rfl rfl rfl rfl (lb rfl) fun a S => ?_
  obtain ⟨r15, hx16, h⟩ := bindSome h
  refine sCall (X := Option Addr × Nat) (f := 13) (vs := [.agg #[iv p0.W, iv p0.H, .slice ad3 p0.Bits.length cp4]]) (val := fun x => .agg #[iv r15.W, iv r15.H, .slice x.1 r15.Bits.length x.2]) (B' := fun x => [eRow rB 4 (.slice x.1 r15.Bits.length x.2) r15.Bits]) (D' := fun _ => []) [] [eBox b7 24 [iv 0, iv 0, .slice none 0 0], eBox b6 24 [iv p0.W, iv p0.H, .slice ad3 p0.Bits.length cp4]] [fRep r_api_Grid (.agg #[iv p0.W, iv p0.H, .slice ad3 p0.Bits.length cp4]) p0] [0, 1] [1] S (wN rfl) rfl callee13 rfl (by decide) rfl rfl (fun E1 w1 S1 => c_raddleref01_Twin_s0 E1 w1 p0 (.agg #[iv p0.W, iv p0.H, .slice ad3 p0.Bits.length cp4]) r15 hx16 S1) rfl (lb rfl) fun xx a w S => ?_
  obtain ⟨ad17, cp18⟩ := xx
  dsimp only at S
  refine sAlloc (.agg #[iv 0, iv 0, .slice none 0 0]) S (wN rfl) rfl rfl [iv 0, iv 0, .slice none 0 0] rfl rfl (lb rfl) fun a b19 w S => ?_
  refine sStore (p := b19) (off := 0) (T := 24) (vs := [iv 0, iv 0, .slice none 0 0]) (v := .agg #[iv r15.W, iv r15.H, .slice ad17 r15.Bits.length cp18]) 0 [iv r15.W, iv r15.H, .slice ad17 r15.Bits.length cp18] S (wN rfl) rfl rfl rfl rfl rfl rfl rfl (by simp) rfl fun a w S => ?_
  refine leafL (leafT (hK14 _ _ ?_))
  obtain ⟨t21, h, g22⟩ := bindSome h
  refine sCut (fun a w => ∃ o20, o20 = t21 ∧ St [] E [] w0 32 a w [(2, .pointer (some ⟨b7, 0, none⟩)), (4, .pointer (some ⟨b19, 0, none⟩))] [eBox b7 24 [iv 0, iv 0, .slice none 0 0], eBox b19 24 [iv r15.W, iv r15.H, .slice ad17 o20.length cp18], eRow rB 4 (.slice ad17 o20.length cp18) o20] []) ?_ (fun a w hI => ?_)
  rotate_left
  · obtain ⟨o20, rfl, S⟩ := hI
    have h := g22
    clear g22
    try dsimp only at h
    refine sSeq (fun K50 hK50 => ?_)
    refine sRegion ?_
    refine sLoadN (p := b19) (off := 0) (T := 24) (vs := [iv r15.W, iv r15.H, .slice ad17 o20.length cp18]) 1 [iv r15.W, iv r15.H, .slice ad17 o20.length cp18] S (wN rfl) rfl rfl rfl rfl rfl rfl rfl (lb rfl) fun a S => ?_
    refine sStore (p := b7) (off := 0) (T := 24) (vs := [iv 0, iv 0, .slice none 0 0]) (v := .agg #[iv r15.W, iv r15.H, .slice ad17 o20.length cp18]) 0 [iv r15.W, iv r15.H, .slice ad17 o20.length cp18] S (wN rfl) rfl rfl rfl rfl rfl rfl rfl (by simp) rfl fun a w S => ?_
    refine sMove (iv 0) S (wN rfl) (.inr rfl) rfl rfl (lb rfl) fun a S => ?_
    refine leafL (leafT (hK50 _ _ ?_))
    obtain rfl := Option.some.inj h
    have S := S.shutR (r := rB) (T := 4) (v := .slice ad17 o20.length cp18) (xs := o20) 2 rfl
    have S := S.learn (fRep r_api_Grid (.agg #[iv r15.W, iv r15.H, .slice ad17 o20.length cp18]) (api_Grid.mk r15.W r15.H o20)) ⟨_, rfl, S.mem.know (i := 0) (e := fRep (rL rB) (.slice ad17 o20.length cp18) o20) rfl⟩
    exact wp_ret (sRet (.tuple #[.agg #[iv r15.W, iv r15.H, .slice ad17 o20.length cp18], iv 0]) S (rsl2 rfl (rvN (c := 2) (t := 24) (T := 24) (p := b7) 0 [iv r15.W, iv r15.H, .slice ad17 o20.length cp18] S rfl rfl rfl rfl) (rvT (t := 3) (v := iv 0) S rfl)) ⟨(.agg #[iv r15.W, iv r15.H, .slice ad17 o20.length cp18]), rfl, S.mem.sel [] [0] (by decide) rfl rfl⟩)
  refine sSeq (fun K23 hK23 => ?_)
  refine sRegion ?_
  refine sMove (iv 0) S (wN rfl) (.inr rfl) rfl rfl (lb rfl) fun a S => ?_
  refine leafL (leafT (hK23 _ _ ?_))
  refine wp_block ?_
  obtain ⟨t28, hl, g27⟩ := bindSome h
  refine sLoop hl (fun s0 a w => match s0 with | (s24, s25) => St [] E [] w0 32 a w [(2, .pointer (some ⟨b7, 0, none⟩)), (4, .pointer (some ⟨b19, 0, none⟩)), (5, iv s24)] [eBox b7 24 [iv 0, iv 0, .slice none 0 0], eBox b19 24 [iv r15.W, iv r15.H, .slice ad17 s25.length cp18], eRow rB 4 (.slice ad17 s25.length cp18) s25] []) (S.fix [2, 0, 1] [] (by decide) rfl rfl rfl) ?_
  clear hl h
  intro s0 a w c0 hI h hu26
  obtain ⟨s24, s25⟩ := s0
  unfold raddleref01_Not_l1 at h
  dsimp only at h hI
  have S := hI
  refine sSeq (fun K30 hK30 => ?_)
  refine sSeq (fun K31 hK31 => ?_)
  refine sRegion ?_
  refine sMove (iv s24) S (wN rfl) (.inl rfl) rfl rfl (lb rfl) fun a S => ?_
  refine sField (b := b19) (off := 0) 2 2 S (wN rfl) rfl rfl rfl rfl rfl (lb rfl) fun a S => ?_
  refine sLoad1 (p := b19) (off := 2) (T := 24) (vs := [iv r15.W, iv r15.H, .slice ad17 s25.length cp18]) 1 (.slice ad17 s25.length cp18) S (wN rfl) rfl rfl rfl rfl rfl rfl (lb rfl) fun a S => ?_
  refine sLen (ad := ad17) (m := s25.length) (c := cp18) S (wN rfl) rfl Try.underlying22 rfl rfl (lb rfl) fun a S => ?_
  refine sBin (.bool (decide (s24 < (s25.length : Int)))) S (wN rfl) rfl rfl rfl (bLt _ _ _ _ .i64 s24 (s25.length : Int)) rfl (lb rfl) fun a S => ?_
  refine leafL (leafT (hK31 _ _ ?_))
  rcases iteSome h with ⟨hc32, h⟩ | ⟨hc32, h⟩
  rotate_left
  · refine sCondF S rfl hc32 ?_
    obtain rfl := Option.some.inj h
    obtain rfl := hu26 _ rfl
    have h := g27
    clear g27
    try dsimp only at h
    exact wp_exit (xThen (xThen (xHit (leafT (⟨s25, Option.some.inj h, S.fix [0, 1, 2] [] (by decide) rfl rfl rfl⟩)))))
  refine sCondT S rfl hc32 ?_
  refine wp_skip (leafT (hK30 _ _ ?_))
  refine sSeq (fun K33 hK33 => ?_)
  refine wp_block ?_
  obtain ⟨x34, hx35, h⟩ := bindSome h
  obtain ⟨l42, hx43, h⟩ := bindSome h
  obtain ⟨q44, hq45, hp46⟩ := pIdxR (P := Try.prog) (r := rB) (T := 4) (v := .slice ad17 s25.length cp18) (xs := s25) (j := s24) 22 4 2 S Try.underlying22 rfl rfl hx35
  obtain ⟨q47, hq48, hp49⟩ := pIdxR (P := Try.prog) (r := rB) (T := 4) (v := .slice ad17 s25.length cp18) (xs := s25) (j := s24) 22 4 2 S Try.underlying22 rfl rfl hx35
  refine sDraw (nf := [10]) (W := [(0, 21, .pointer (some ⟨b19, 2, none⟩)), (1, 22, .slice ad17 s25.length cp18), (2, 23, iv s24), (3, 24, .pointer (some ⟨b19, 2, none⟩)), (4, 25, .slice ad17 s25.length cp18), (5, 26, iv s24), (6, 27, q44), (7, 28, .bool x34), (8, 29, .bool (!x34)), (9, 30, q47)]) rfl S ?_
  refine node_by (A := anc_raddleref01_Not_0) (nf := [10]) (Y := []) (W := [(0, 21, .pointer (some ⟨b19, 2, none⟩)), (1, 22, .slice ad17 s25.length cp18), (2, 23, iv s24), (3, 24, .pointer (some ⟨b19, 2, none⟩)), (4, 25, .slice ad17 s25.length cp18), (5, 26, iv s24), (6, 27, q44), (7, 28, .bool x34), (8, 29, .bool (!x34)), (9, 30, q47)]) 11 (by kernel_rfl) (by kernel_rfl) (by kernel_rfl) (by kernel_rfl) (by kernel_rfl) [0, 1, 2, 3, 4, 5, 6, 7, 8, 9] (by kernel_rfl) (by decide) (by decide) (aF 0 10 (by decide) ?_ (aF 1 9 (by decide) ?_ (aF 2 8 (by decide) ?_ (aF 3 7 (by decide) ?_ (aF 4 6 (by decide) ?_ (aF 5 5 (by decide) ?_ (aF 6 4 (by decide) ?_ (aF 7 3 (by decide) ?_ (aF 8 2 (by decide) ?_ (aF 9 1 (by decide) ?_ (aN 10 0 (by decide) ?_ (trivial)))))))))))) [] (fun q hq => by cases hq) (fun hY => absurd (hY 10 (by decide)) (by decide))
  · refine fI 21 (.pointer (some ⟨b19, 2, none⟩)) [(4, .pointer (some ⟨b19, 0, none⟩))] 0 [none] rfl rfl rfl rfl rfl rfl fun G a w S => ?_
    refine sField (b := b19) (off := 0) 2 2 S (wN rfl) rfl rfl rfl rfl rfl (lb rfl) fun a S => ?_
    exact leafL ⟨rfl, S⟩
  · refine fI 22 (.slice ad17 s25.length cp18) [(21, .pointer (some ⟨b19, 2, none⟩))] 1 [some 0] rfl rfl rfl rfl rfl rfl fun G a w S => ?_
    refine sLoad1 (p := b19) (off := 2) (T := 24) (vs := [iv r15.W, iv r15.H, .slice ad17 s25.length cp18]) 1 (.slice ad17 s25.length cp18) S (wN rfl) rfl rfl rfl rfl rfl rfl (lb rfl) fun a S => ?_
    exact leafL ⟨rfl, S⟩
  · refine fI 23 (iv s24) [(5, iv s24)] 2 [none] rfl rfl rfl rfl rfl rfl fun G a w S => ?_
    refine sMove (iv s24) S (wN rfl) (.inl rfl) rfl rfl (lb rfl) fun a S => ?_
    exact leafL ⟨rfl, S⟩
  · refine fI 24 (.pointer (some ⟨b19, 2, none⟩)) [(4, .pointer (some ⟨b19, 0, none⟩))] 3 [none] rfl rfl rfl rfl rfl rfl fun G a w S => ?_
    refine sField (b := b19) (off := 0) 2 2 S (wN rfl) rfl rfl rfl rfl rfl (lb rfl) fun a S => ?_
    exact leafL ⟨rfl, S⟩
  · refine fI 25 (.slice ad17 s25.length cp18) [(24, .pointer (some ⟨b19, 2, none⟩))] 4 [some 3] rfl rfl rfl rfl rfl rfl fun G a w S => ?_
    refine sLoad1 (p := b19) (off := 2) (T := 24) (vs := [iv r15.W, iv r15.H, .slice ad17 s25.length cp18]) 1 (.slice ad17 s25.length cp18) S (wN rfl) rfl rfl rfl rfl rfl rfl (lb rfl) fun a S => ?_
    exact leafL ⟨rfl, S⟩
  · refine fI 26 (iv s24) [(5, iv s24)] 5 [none] rfl rfl rfl rfl rfl rfl fun G a w S => ?_
    refine sMove (iv s24) S (wN rfl) (.inl rfl) rfl rfl (lb rfl) fun a S => ?_
    exact leafL ⟨rfl, S⟩
  · refine fI 27 q44 [(25, .slice ad17 s25.length cp18), (26, iv s24)] 6 [some 4, some 5] rfl rfl rfl rfl rfl rfl fun G a w S => ?_
    refine sIdxV (v := .slice ad17 s25.length cp18) (k := .i64) (j := s24) S (wN rfl) rfl rfl rfl hq45 rfl (lb rfl) fun a S => ?_
    exact leafL ⟨rfl, S⟩
  · refine fI 28 (.bool x34) [(27, q44)] 7 [some 6] rfl rfl rfl rfl rfl rfl fun G a w S => ?_
    refine sLoadR (r := rB) (T := 4) (xs := s25) (x := x34) (v := .slice ad17 s25.length cp18) (vq := q44) (j := s24) 2 (.bool x34) S hp46 (wN rfl) rfl rfl rfl hx35 (fun _ _ _ h => h) scal_B rfl rfl (lb rfl) fun a S => ?_
    exact leafL ⟨rfl, S⟩
  · refine fI 29 (.bool (!x34)) [(28, .bool x34)] 8 [some 7] rfl rfl rfl rfl rfl rfl fun G a w S => ?_
    refine sNot (b := x34) S (wN rfl) rfl rfl rfl (lb rfl) fun a S => ?_
    exact leafL ⟨rfl, S⟩
  · refine fI 30 q47 [(22, .slice ad17 s25.length cp18), (23, iv s24)] 9 [some 1, some 2] rfl rfl rfl rfl rfl rfl fun G a w S => ?_
    refine sIdxV (v := .slice ad17 s25.length cp18) (k := .i64) (j := s24) S (wN rfl) rfl rfl rfl hq48 rfl (lb rfl) fun a S => ?_
    exact leafL ⟨rfl, S⟩
  refine ⟨_, [(29, .bool (!x34)), (30, q47)], rfl, (srcs_of [some 8, some 9] rfl rfl rfl), fun G a w S => ?_⟩
  refine sStoreR (r := rB) (T := 4) (xs := s25) (ys := l42) (y := (!x34)) (v := .slice ad17 s25.length cp18) (vq := q47) (u := .bool (!x34)) (j := s24) 2 S hp49 (wN rfl) rfl rfl rfl rfl rfl hx43 rfl rfl fun a w S => ?_
  refine leafL ⟨rfl, _, _, .inr ⟨[], rfl, S, hz_of rfl, ?_⟩⟩
  refine node_by (A := anc_raddleref01_Not_0) (nf := [10]) (Y := [10]) 11 (by kernel_rfl) (by kernel_rfl) (by kernel_rfl) (by kernel_rfl) (by kernel_rfl) [0, 1, 2, 3, 4, 5, 6, 7, 8, 9] (by kernel_rfl) (by decide) (by decide) (aD 0 10 10 (by decide) (aD 1 9 10 (by decide) (aD 2 8 10 (by decide) (aD 3 7 10 (by decide) (aD 4 6 10 (by decide) (aD 5 5 10 (by decide) (aD 6 4 10 (by decide) (aD 7 3 10 (by decide) (aD 8 2 10 (by decide) (aD 9 1 10 (by decide) (aY 10 0 (by decide) (trivial)))))))))))) [(2, .pointer (some ⟨b7, 0, none⟩)), (4, .pointer (some ⟨b19, 0, none⟩)), (5, iv s24)] (fin_of [none, none, none] rfl (by kernel_rfl) (by kernel_rfl)) (fun _ a w S => ?_)
  rw [setO_v hx43 ad17 cp18] at S
  refine leafB (leafT (hK33 _ _ ?_))
  refine sRegion ?_
  refine sMove (iv s24) S (wN rfl) (.inl rfl) rfl rfl (lb rfl) fun a S => ?_
  refine sBin (iv (w64 (s24 + 1))) S (wN rfl) rfl rfl rfl (bAdd _ _ _ _ s24 1) rfl (lb rfl) fun a S => ?_
  refine sMove (iv (w64 (s24 + 1))) S (wN rfl) (.inr rfl) rfl rfl (lb rfl) fun a S => ?_
  exact leafL (leafT (⟨(w64 (s24 + 1), l42), (Option.some.inj h).symm, (S.fix [1, 2, 0] [] (by decide) rfl rfl rfl)⟩))

end Go.Proofs.Ytffikfajljbmnaa
namespace Go.Proofs.Ytffikfajljbmnaa
open Go.RowKit
set_option linter.unusedVariables false

noncomputable def F_raddleref07_Applied (p0 : api_Grid) (p1 : Int) : Option api_Grid :=
  Option.bind (α := (Int × Int × List Bool)) (
    if (andI .i64 p1 1) != 0 then
      Option.bind (F_raddleref01_Mirror p0 0) fun r17 =>
      some (r17.1.W, r17.1.H, r17.1.Bits)
    else
      some (p0.W, p0.H, p0.Bits)) fun (o8, o9, o10) =>
  Option.bind (α := (Int × Int × List Bool)) (
    if (andI .i64 p1 2) != 0 then
      Option.bind (F_raddleref01_Mirror (api_Grid.mk o8 o9 o10) 1) fun r33 =>
      some (r33.1.W, r33.1.H, r33.1.Bits)
    else
      some (o8, o9, o10)) fun (o24, o25, o26) =>
  Option.bind (α := (Int × Int × List Bool)) (
    if (andI .i64 p1 4) != 0 then
      Option.bind (F_raddleref01_Turned (api_Grid.mk o24 o25 o26)) fun r49 =>
      some (r49.W, r49.H, r49.Bits)
    else
      some (o24, o25, o26)) fun (o40, o41, o42) =>
  Option.bind (α := (Int × Int × List Bool)) (
    if (andI .i64 p1 8) != 0 then
      Option.bind (F_raddleref01_Not (api_Grid.mk o40 o41 o42)) fun r65 =>
      some (r65.1.W, r65.1.H, r65.1.Bits)
    else
      some (o40, o41, o42)) fun (o56, o57, o58) =>
  Option.bind (F_raddleref01_Twin (api_Grid.mk o56 o57 o58)) fun r73 =>
  some r73
def c_raddleref07_Applied_val (r : api_Grid) (x : Value) : Value := x
def c_raddleref07_Applied_D (r : api_Grid) (x : Value) : List Fact := [fRep r_api_Grid x r]
set_option maxHeartbeats 4000000 in
set_option maxRecDepth 100000 in
theorem c_raddleref07_Applied (E : Nat → Prop) (w0 : World) (p0 : api_Grid) (v0 : Value) (p1 : Int) (r : api_Grid) (h : F_raddleref07_Applied p0 p1 = some r) (S : St0 E [] w0 w0 [] [fRep r_api_Grid (v0) p0]) :
    Calls Try.prog 37 #[v0, iv p1] w0 (Ret (X := Value) E [] w0 (c_raddleref07_Applied_val r) (fun _ => []) (c_raddleref07_Applied_D r)) := by
  unfold F_raddleref07_Applied at h
  obtain ⟨u1, rfl, hu2⟩ := S.know (i := 0) (e := fRep r_api_Grid (v0) p0) rfl
  have S := S.learn (fRep (rL rB) u1 p0.Bits) hu2
  obtain ⟨ad3, cp4, _, rfl, _⟩ := hu2
  refine sEnter (args := [.agg #[iv p0.W, iv p0.H, .slice ad3 p0.Bits.length cp4], iv p1]) 36 Try.func37 rfl rfl (by simp) S (fun a S => ?_)
  refine sSeq (fun K5 hK5 => ?_)
  refine sRegion ?_
  refine sBox (v := .agg #[iv p0.W, iv p0.H, .slice ad3 p0.Bits.length cp4]) S (wN rfl) rfl rfl [iv p0.W, iv p0.H, .slice ad3 p0.Bits.length cp4] rfl rfl (lb rfl) fun a b6 w S => ?_
  refine sAlloc (.agg #[iv 0, iv 0, .slice none 0 0]) S (wN rfl) rfl rfl [iv 0, iv 0, .slice none 0 0] rfl rfl (lb rfl) fun a b7 w S => ?_
  refine leafL (leafT (hK5 _ _ ?_))
  obtain ⟨t13, h, g14⟩ := bindSome h
  refine sCut (fun a w => ∃ o8, ∃ o9, ∃ o10, (o8, o9, o10) = t13 ∧ ∃ ad11, ∃ cp12, St [] E [] w0 36 a w [(1, iv p1), (2, .pointer (some ⟨b6, 0, none⟩)), (4, .pointer (some ⟨b7, 0, none⟩))] [eBox b6 24 [iv o8, iv o9, .slice ad11 o10.length cp12], eBox b7 24 [iv 0, iv 0, .slice none 0 0]] [fRep (rL rB) (.slice ad11 o10.length cp12) o10]) ?_ (fun a w hI => ?_)
  · refine sSeq (fun K15 hK15 => ?_)
    refine sRegion ?_
    refine sMove (iv p1) S (wN rfl) (.inl rfl) rfl rfl (lb rfl) fun a S => ?_
    refine sBin (iv (andI .i64 p1 1)) S (wN rfl) rfl rfl rfl (bAndK _ _ _ _ .i64 p1 1) rfl (lb rfl) fun a S => ?_
    refine sBin (.bool ((andI .i64 p1 1) != 0)) S (wN rfl) rfl rfl rfl (bNe _ _ _ _ .i64 (andI .i64 p1 1) 0) rfl (lb rfl) fun a S => ?_
    refine leafL (leafT (hK15 _ _ ?_))
    rcases iteSome h with ⟨hc16, h⟩ | ⟨hc16, h⟩
    rotate_left
    · refine sCondF S rfl hc16 ?_
      exact wp_skip (leafT (⟨p0.W, p0.H, p0.Bits, Option.some.inj h, ad3, cp4, S.fix [1, 0] [0] (by decide) rfl rfl rfl⟩))
    refine sCondT S rfl hc16 ?_
    refine sRegion ?_
    refine sLoadN (p := b6) (off := 0) (T := 24) (vs := [iv p0.W, iv p0.H, .slice ad3 p0.Bits.length cp4]) 1 [iv p0.W, iv p0.H, .slice ad3 p0.Bits.length cp4] S (wN rfl) rfl rfl rfl rfl rfl rfl rfl (lb rfl) fun a S => ?_
    obtain ⟨r17, hx18, h⟩ := bindSome h
    refine sCall (X := Value) (f := 70) (vs := [.agg #[iv p0.W, iv p0.H, .slice ad3 p0.Bits.length cp4], iv 0]) (val := c_raddleref01_Mirror_val r17) (B' := fun _ => []) (D' := c_raddleref01_Mirror_D r17) [] [eBox b7 24 [iv 0, iv 0, .slice none 0 0], eBox b6 24 [iv p0.W, iv p0.H, .slice ad3 p0.Bits.length cp4]] [fRep r_api_Grid (.agg #[iv p0.W, iv p0.H, .slice ad3 p0.Bits.length cp4]) p0] [0, 1] [1] S (wN rfl) rfl callee70 rfl (by decide) rfl rfl (fun E1 w1 S1 => c_raddleref01_Mirror E1 w1 p0 (.agg #[iv p0.W, iv p0.H, .slice ad3 p0.Bits.length cp4]) 0 r17 hx18 S1) rfl (lb rfl) fun u19 a w S => ?_
    obtain ⟨u20, rfl, hu21⟩ := S.mem.know (i := 0) (e := fRep r_api_Grid (u19) r17.1) rfl
    have S := S.learn (fRep (rL rB) u20 r17.1.Bits) hu21
    obtain ⟨ad22, cp23, _, rfl, _⟩ := hu21
    refine sMove (.tuple #[.agg #[iv r17.1.W, iv r17.1.H, .slice ad22 r17.1.Bits.length cp23], iv r17.2]) S (wN rfl) (.inl rfl) rfl rfl (lb rfl) fun a S => ?_
    refine sExtract (vs := [.agg #[iv r17.1.W, iv r17.1.H, .slice ad22 r17.1.Bits.length cp23], iv r17.2]) (.agg #[iv r17.1.W, iv r17.1.H, .slice ad22 r17.1.Bits.length cp23]) S (wN rfl) rfl rfl rfl rfl (lb rfl) fun a S => ?_
    refine sExtract (vs := [.agg #[iv r17.1.W, iv r17.1.H, .slice ad22 r17.1.Bits.length cp23], iv r17.2]) (iv r17.2) S (wN rfl) rfl rfl rfl rfl (lb rfl) fun a S => ?_
    refine sStore (p := b6) (off := 0) (T := 24) (vs := [iv p0.W, iv p0.H, .slice ad3 p0.Bits.length cp4]) (v := .agg #[iv r17.1.W, iv r17.1.H, .slice ad22 r17.1.Bits.length cp23]) 1 [iv r17.1.W, iv r17.1.H, .slice ad22 r17.1.Bits.length cp23] S (wN rfl) rfl rfl rfl rfl rfl rfl rfl (by simp) rfl fun a w S => ?_
    exact leafL (leafT (⟨r17.1.W, r17.1.H, r17.1.Bits, Option.some.inj h, ad22, cp23, S.fix [0, 1] [0] (by decide) rfl rfl rfl⟩))
  obtain ⟨o8, o9, o10, rfl, ad11, cp12, S⟩ := hI
  have h := g14
  clear g14
  try dsimp only at h
  obtain ⟨t29, h, g30⟩ := bindSome h
  refine sCut (fun a w => ∃ o24, ∃ o25, ∃ o26, (o24, o25, o26) = t29 ∧ ∃ ad27, ∃ cp28, St [] E [] w0 36 a w [(1, iv p1), (2, .pointer (some ⟨b6, 0, none⟩)), (4, .pointer (some ⟨b7, 0, none⟩))] [eBox b6 24 [iv o24, iv o25, .slice ad27 o26.length cp28], eBox b7 24 [iv 0, iv 0, .slice none 0 0]] [fRep (rL rB) (.slice ad27 o26.length cp28) o26]) ?_ (fun a w hI => ?_)
  · refine sSeq (fun K31 hK31 => ?_)
    refine sRegion ?_
    refine sMove (iv p1) S (wN rfl) (.inl rfl) rfl rfl (lb rfl) fun a S => ?_
    refine sBin (iv (andI .i64 p1 2)) S (wN rfl) rfl rfl rfl (bAndK _ _ _ _ .i64 p1 2) rfl (lb rfl) fun a S => ?_
    refine sBin (.bool ((andI .i64 p1 2) != 0)) S (wN rfl) rfl rfl rfl (bNe _ _ _ _ .i64 (andI .i64 p1 2) 0) rfl (lb rfl) fun a S => ?_
    refine leafL (leafT (hK31 _ _ ?_))
    rcases iteSome h with ⟨hc32, h⟩ | ⟨hc32, h⟩
    rotate_left
    · refine sCondF S rfl hc32 ?_
      exact wp_skip (leafT (⟨o8, o9, o10, Option.some.inj h, ad11, cp12, S.fix [0, 1] [0] (by decide) rfl rfl rfl⟩))
    refine sCondT S rfl hc32 ?_
    refine sRegion ?_
    refine sLoadN (p := b6) (off := 0) (T := 24) (vs := [iv o8, iv o9, .slice ad11 o10.length cp12]) 0 [iv o8, iv o9, .slice ad11 o10.length cp12] S (wN rfl) rfl rfl rfl rfl rfl rfl rfl (lb rfl) fun a S => ?_
    obtain ⟨r33, hx34, h⟩ := bindSome h
    have S := S.learn (fRep r_api_Grid (.agg #[iv o8, iv o9, .slice ad11 o10.length cp12]) (api_Grid.mk o8 o9 o10)) ⟨_, rfl, S.mem.know (i := 0) (e := fRep (rL rB) (.slice ad11 o10.length cp12) o10) rfl⟩
    refine sCall (X := Value) (f := 70) (vs := [.agg #[iv o8, iv o9, .slice ad11 o10.length cp12], iv 1]) (val := c_raddleref01_Mirror_val r33) (B' := fun _ => []) (D' := c_raddleref01_Mirror_D r33) [] [eBox b6 24 [iv o8, iv o9, .slice ad11 o10.length cp12], eBox b7 24 [iv 0, iv 0, .slice none 0 0]] [fRep r_api_Grid (.agg #[iv o8, iv o9, .slice ad11 o10.length cp12]) (api_Grid.mk o8 o9 o10)] [0, 1] [0] S (wN rfl) rfl callee70 rfl (by decide) rfl rfl (fun E1 w1 S1 => c_raddleref01_Mirror E1 w1 (api_Grid.mk o8 o9 o10) (.agg #[iv o8, iv o9, .slice ad11 o10.length cp12]) 1 r33 hx34 S1) rfl (lb rfl) fun u35 a w S => ?_
    obtain ⟨u36, rfl, hu37⟩ := S.mem.know (i := 0) (e := fRep r_api_Grid (u35) r33.1) rfl
    have S := S.learn (fRep (rL rB) u36 r33.1.Bits) hu37
    obtain ⟨ad38, cp39, _, rfl, _⟩ := hu37
    refine sMove (.tuple #[.agg #[iv r33.1.W, iv r33.1.H, .slice ad38 r33.1.Bits.length cp39], iv r33.2]) S (wN rfl) (.inl rfl) rfl rfl (lb rfl) fun a S => ?_
    refine sExtract (vs := [.agg #[iv r33.1.W, iv r33.1.H, .slice ad38 r33.1.Bits.length cp39], iv r33.2]) (.agg #[iv r33.1.W, iv r33.1.H, .slice ad38 r33.1.Bits.length cp39]) S (wN rfl) rfl rfl rfl rfl (lb rfl) fun a S => ?_
    refine sExtract (vs := [.agg #[iv r33.1.W, iv r33.1.H, .slice ad38 r33.1.Bits.length cp39], iv r33.2]) (iv r33.2) S (wN rfl) rfl rfl rfl rfl (lb rfl) fun a S => ?_
    refine sStore (p := b6) (off := 0) (T := 24) (vs := [iv o8, iv o9, .slice ad11 o10.length cp12]) (v := .agg #[iv r33.1.W, iv r33.1.H, .slice ad38 r33.1.Bits.length cp39]) 0 [iv r33.1.W, iv r33.1.H, .slice ad38 r33.1.Bits.length cp39] S (wN rfl) rfl rfl rfl rfl rfl rfl rfl (by simp) rfl fun a w S => ?_
    exact leafL (leafT (⟨r33.1.W, r33.1.H, r33.1.Bits, Option.some.inj h, ad38, cp39, S.fix [0, 1] [0] (by decide) rfl rfl rfl⟩))
  obtain ⟨o24, o25, o26, rfl, ad27, cp28, S⟩ := hI
  have h := g30
  clear g30
  try dsimp only at h
  obtain ⟨t45, h, g46⟩ := bindSome h
  refine sCut (fun a w => ∃ o40, ∃ o41, ∃ o42, (o40, o41, o42) = t45 ∧ ∃ ad43, ∃ cp44, St [] E [] w0 36 a w [(1, iv p1), (2, .pointer (some ⟨b6, 0, none⟩)), (4, .pointer (some ⟨b7, 0, none⟩))] [eBox b6 24 [iv o40, iv o41, .slice ad43 o42.length cp44], eBox b7 24 [iv 0, iv 0, .slice none 0 0]] [fRep (rL rB) (.slice ad43 o42.length cp44) o42]) ?_ (fun a w hI => ?_)
  · refine sSeq (fun K47 hK47 => ?_)
    refine sRegion ?_
    refine sMove (iv p1) S (wN rfl) (.inl rfl) rfl rfl (lb rfl) fun a S => ?_
    refine sBin (iv (andI .i64 p1 4)) S (wN rfl) rfl rfl rfl (bAndK _ _ _ _ .i64 p1 4) rfl (lb rfl) fun a S => ?_
    refine sBin (.bool ((andI .i64 p1 4) != 0)) S (wN rfl) rfl rfl rfl (bNe _ _ _ _ .i64 (andI .i64 p1 4) 0) rfl (lb rfl) fun a S => ?_
    refine leafL (leafT (hK47 _ _ ?_))
    rcases iteSome h with ⟨hc48, h⟩ | ⟨hc48, h⟩
    rotate_left
    · refine sCondF S rfl hc48 ?_
      exact wp_skip (leafT (⟨o24, o25, o26, Option.some.inj h, ad27, cp28, S.fix [0, 1] [0] (by decide) rfl rfl rfl⟩))
    refine sCondT S rfl hc48 ?_
    refine sRegion ?_
    refine sLoadN (p := b6) (off := 0) (T := 24) (vs := [iv o24, iv o25, .slice ad27 o26.length cp28]) 0 [iv o24, iv o25, .slice ad27 o26.length cp28] S (wN rfl) rfl rfl rfl rfl rfl rfl rfl (lb rfl) fun a S => ?_
    obtain ⟨r49, hx50, h⟩ := bindSome h
    have S := S.learn (fRep r_api_Grid (.agg #[iv o24, iv o25, .slice ad27 o26.length cp28]) (api_Grid.mk o24 o25 o26)) ⟨_, rfl, S.mem.know (i := 0) (e := fRep (rL rB) (.slice ad27 o26.length cp28) o26) rfl⟩
    refine sCall (X := Value) (f := 71) (vs := [.agg #[iv o24, iv o25, .slice ad27 o26.length cp28]]) (val := c_raddleref01_Turned_val r49) (B' := fun _ => []) (D' := c_raddleref01_Turned_D r49) [] [eBox b6 24 [iv o24, iv o25, .slice ad27 o26.length cp28], eBox b7 24 [iv 0, iv 0, .slice none 0 0]] [fRep r_api_Grid (.agg #[iv o24, iv o25, .slice ad27 o26.length cp28]) (api_Grid.mk o24 o25 o26)] [0, 1] [0] S (wN rfl) rfl callee71 rfl (by decide) rfl rfl (fun E1 w1 S1 => c_raddleref01_Turned E1 w1 (api_Grid.mk o24 o25 o26) (.agg #[iv o24, iv o25, .slice ad27 o26.length cp28]) r49 hx50 S1) rfl (lb rfl) fun u51 a w S => ?_
    obtain ⟨u52, rfl, hu53⟩ := S.mem.know (i := 0) (e := fRep r_api_Grid (u51) r49) rfl
    have S := S.learn (fRep (rL rB) u52 r49.Bits) hu53
    obtain ⟨ad54, cp55, _, rfl, _⟩ := hu53
    refine sStore (p := b6) (off := 0) (T := 24) (vs := [iv o24, iv o25, .slice ad27 o26.length cp28]) (v := .agg #[iv r49.W, iv r49.H, .slice ad54 r49.Bits.length cp55]) 0 [iv r49.W, iv r49.H, .slice ad54 r49.Bits.length cp55] S (wN rfl) rfl rfl rfl rfl rfl rfl rfl (by simp) rfl fun a w S => ?_
    exact leafL (leafT (⟨r49.W, r49.H, r49.Bits, Option.some.inj h, ad54, cp55, S.fix [0, 1] [0] (by decide) rfl rfl rfl⟩))
  obtain ⟨o40, o41, o42, rfl, ad43, cp44, S⟩ := hI
  have h := g46
  clear g46
  try dsimp only at h
  obtain ⟨t61, h, g62⟩ := bindSome h
  refine sCut (fun a w => ∃ o56, ∃ o57, ∃ o58, (o56, o57, o58) = t61 ∧ ∃ ad59, ∃ cp60, St [] E [] w0 36 a w [(2, .pointer (some ⟨b6, 0, none⟩)), (4, .pointer (some ⟨b7, 0, none⟩))] [eBox b6 24 [iv o56, iv o57, .slice ad59 o58.length cp60], eBox b7 24 [iv 0, iv 0, .slice none 0 0]] [fRep (rL rB) (.slice ad59 o58.length cp60) o58]) ?_ (fun a w hI => ?_)
  rotate_left
  · obtain ⟨o56, o57, o58, rfl, ad59, cp60, S⟩ := hI
    have h := g62
    clear g62
    try dsimp only at h
    refine sSeq (fun K72 hK72 => ?_)
    refine sRegion ?_
    refine sLoadN (p := b6) (off := 0) (T := 24) (vs := [iv o56, iv o57, .slice ad59 o58.length cp60]) 0 [iv o56, iv o57, .slice ad59 o58.length cp60] S (wN rfl) rfl rfl rfl rfl rfl rfl rfl (lb rfl) fun a S => ?_
    obtain ⟨r73, hx74, h⟩ := bindSome h
    have S := S.learn (fRep r_api_Grid (.agg #[iv o56, iv o57, .slice ad59 o58.length cp60]) (api_Grid.mk o56 o57 o58)) ⟨_, rfl, S.mem.know (i := 0) (e := fRep (rL rB) (.slice ad59 o58.length cp60) o58) rfl⟩
    refine sCall (X := Value) (f := 13) (vs := [.agg #[iv o56, iv o57, .slice ad59 o58.length cp60]]) (val := c_raddleref01_Twin_val r73) (B' := fun _ => []) (D' := c_raddleref01_Twin_D r73) [] [eBox b6 24 [iv o56, iv o57, .slice ad59 o58.length cp60], eBox b7 24 [iv 0, iv 0, .slice none 0 0]] [fRep r_api_Grid (.agg #[iv o56, iv o57, .slice ad59 o58.length cp60]) (api_Grid.mk o56 o57 o58)] [0, 1] [0] S (wN rfl) rfl callee13 rfl (by decide) rfl rfl (fun E1 w1 S1 => c_raddleref01_Twin E1 w1 (api_Grid.mk o56 o57 o58) (.agg #[iv o56, iv o57, .slice ad59 o58.length cp60]) r73 hx74 S1) rfl (lb rfl) fun u75 a w S => ?_
    obtain ⟨u76, rfl, hu77⟩ := S.mem.know (i := 0) (e := fRep r_api_Grid (u75) r73) rfl
    have S := S.learn (fRep (rL rB) u76 r73.Bits) hu77
    obtain ⟨ad78, cp79, _, rfl, _⟩ := hu77
    refine sStore (p := b7) (off := 0) (T := 24) (vs := [iv 0, iv 0, .slice none 0 0]) (v := .agg #[iv r73.W, iv r73.H, .slice ad78 r73.Bits.length cp79]) 1 [iv r73.W, iv r73.H, .slice ad78 r73.Bits.length cp79] S (wN rfl) rfl rfl rfl rfl rfl rfl rfl (by simp) rfl fun a w S => ?_
    refine leafL (leafT (hK72 _ _ ?_))
    obtain rfl := Option.some.inj h
    exact wp_ret (sRet (.agg #[iv r73.W, iv r73.H, .slice ad78 r73.Bits.length cp79]) S (rsl1 rfl (rvN (c := 4) (t := 24) (T := 24) (p := b7) 0 [iv r73.W, iv r73.H, .slice ad78 r73.Bits.length cp79] S rfl rfl rfl rfl)) ⟨(.agg #[iv r73.W, iv r73.H, .slice ad78 r73.Bits.length cp79]), rfl, S.mem.sel [] [1] (by decide) rfl rfl⟩)
  refine sSeq (fun K63 hK63 => ?_)
  refine sRegion ?_
  refine sMove (iv p1) S (wN rfl) (.inl rfl) rfl rfl (lb rfl) fun a S => ?_
  refine sBin (iv (andI .i64 p1 8)) S (wN rfl) rfl rfl rfl (bAndK _ _ _ _ .i64 p1 8) rfl (lb rfl) fun a S => ?_
  refine sBin (.bool ((andI .i64 p1 8) != 0)) S (wN rfl) rfl rfl rfl (bNe _ _ _ _ .i64 (andI .i64 p1 8) 0) rfl (lb rfl) fun a S => ?_
  refine leafL (leafT (hK63 _ _ ?_))
  rcases iteSome h with ⟨hc64, h⟩ | ⟨hc64, h⟩
  rotate_left
  · refine sCondF S rfl hc64 ?_
    exact wp_skip (leafT (⟨o40, o41, o42, Option.some.inj h, ad43, cp44, S.fix [0, 1] [0] (by decide) rfl rfl rfl⟩))
  refine sCondT S rfl hc64 ?_
  refine sRegion ?_
  refine sLoadN (p := b6) (off := 0) (T := 24) (vs := [iv o40, iv o41, .slice ad43 o42.length cp44]) 0 [iv o40, iv o41, .slice ad43 o42.length cp44] S (wN rfl) rfl rfl rfl rfl rfl rfl rfl (lb rfl) fun a S => ?_
  obtain ⟨r65, hx66, h⟩ := bindSome h
  have S := S.learn (fRep r_api_Grid (.agg #[iv o40, iv o41, .slice ad43 o42.length cp44]) (api_Grid.mk o40 o41 o42)) ⟨_, rfl, S.mem.know (i := 0) (e := fRep (rL rB) (.slice ad43 o42.length cp44) o42) rfl⟩
  refine sCall (X := Value) (f := 72) (vs := [.agg #[iv o40, iv o41, .slice ad43 o42.length cp44]]) (val := c_raddleref01_Not_val r65) (B' := fun _ => []) (D' := c_raddleref01_Not_D r65) [] [eBox b6 24 [iv o40, iv o41, .slice ad43 o42.length cp44], eBox b7 24 [iv 0, iv 0, .slice none 0 0]] [fRep r_api_Grid (.agg #[iv o40, iv o41, .slice ad43 o42.length cp44]) (api_Grid.mk o40 o41 o42)] [0, 1] [0] S (wN rfl) rfl callee72 rfl (by decide) rfl rfl (fun E1 w1 S1 => c_raddleref01_Not E1 w1 (api_Grid.mk o40 o41 o42) (.agg #[iv o40, iv o41, .slice ad43 o42.length cp44]) r65 hx66 S1) rfl (lb rfl) fun u67 a w S => ?_
  obtain ⟨u68, rfl, hu69⟩ := S.mem.know (i := 0) (e := fRep r_api_Grid (u67) r65.1) rfl
  have S := S.learn (fRep (rL rB) u68 r65.1.Bits) hu69
  obtain ⟨ad70, cp71, _, rfl, _⟩ := hu69
  refine sMove (.tuple #[.agg #[iv r65.1.W, iv r65.1.H, .slice ad70 r65.1.Bits.length cp71], iv r65.2]) S (wN rfl) (.inl rfl) rfl rfl (lb rfl) fun a S => ?_
  refine sExtract (vs := [.agg #[iv r65.1.W, iv r65.1.H, .slice ad70 r65.1.Bits.length cp71], iv r65.2]) (.agg #[iv r65.1.W, iv r65.1.H, .slice ad70 r65.1.Bits.length cp71]) S (wN rfl) rfl rfl rfl rfl (lb rfl) fun a S => ?_
  refine sExtract (vs := [.agg #[iv r65.1.W, iv r65.1.H, .slice ad70 r65.1.Bits.length cp71], iv r65.2]) (iv r65.2) S (wN rfl) rfl rfl rfl rfl (lb rfl) fun a S => ?_
  refine sStore (p := b6) (off := 0) (T := 24) (vs := [iv o40, iv o41, .slice ad43 o42.length cp44]) (v := .agg #[iv r65.1.W, iv r65.1.H, .slice ad70 r65.1.Bits.length cp71]) 0 [iv r65.1.W, iv r65.1.H, .slice ad70 r65.1.Bits.length cp71] S (wN rfl) rfl rfl rfl rfl rfl rfl rfl (by simp) rfl fun a w S => ?_
  exact leafL (leafT (⟨r65.1.W, r65.1.H, r65.1.Bits, Option.some.inj h, ad70, cp71, S.fix [0, 1] [0] (by decide) rfl rfl rfl⟩))

end Go.Proofs.Ytffikfajljbmnaa
