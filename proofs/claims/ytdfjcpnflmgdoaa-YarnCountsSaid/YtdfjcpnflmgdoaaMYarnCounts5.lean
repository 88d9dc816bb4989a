/- Several texts in one: G25 G51 G26 G4 LYC FrYarnCounts -/
import Derived.WalkKit
import Derived.Maps.AppendAt
import Derived.Deep.AppendLies
import Derived.KernelRfl
import Derived.Laws.OwnMore
import Derived.Great.BuildSlice
import Derived.Orders
import Derived.Laws.StructEq
import Derived.ChangeKeysEq
import Derived.Defers
import Derived.Test.YtdfjcpnflmgdoaaProg
import Derived.ProofKit
import Derived.OpenShut
import Derived.ChangeOld
import Derived.Deep.Slices
import Derived.Lib.SmallJoins
import Derived.JoinedOf
import Derived.JoinedAt
import Derived.Below
import Derived.Test.YtdfjcpnflmgdoaaRows
import Derived.Test.YtdfjcpnflmgdoaaMYarnCounts4
namespace Go.Proofs.Ytdfjcpnflmgdoaa
open Go.RowKit
set_option linter.unusedVariables false

noncomputable def yarn_Fold_l1 (p0 : (List api_Count)) : (Int × Int × Int) → Option ((Int × Int × Int) ⊕ ((api_Count × Int) ⊕ (Int × Int))) := fun s0 => match s0 with
  | (s20, s21, s22) =>
    if decide (s20 < (p0.length : Int)) then
      Option.bind (idxO p0 s20) fun x33 =>
      Option.bind (F_yarn_Convert x33 1) fun r40 =>
      if r40.2 != 0 then
        some (.inr (.inl ((api_Count.mk 0 (api_Ratio.mk 0 0)), r40.2)))
      else
        Option.bind (F_yarn_Add (api_Ratio.mk s21 s22) r40.1.N) fun r49 =>
        if r49.2 != 0 then
          some (.inr (.inl ((api_Count.mk 0 (api_Ratio.mk 0 0)), r49.2)))
        else
          some (.inl (w64 (s20 + 1), r49.1.Num, r49.1.Den))
    else
      some (.inr (.inr (s21, s22)))
noncomputable def F_yarn_Fold (p0 : (List api_Count)) : Option (api_Count × Int) :=
  if (p0.length : Int) == 0 then
    some ((api_Count.mk 0 (api_Ratio.mk 0 0)), 22)
  else
    if decide (40 < (p0.length : Int)) then
      some ((api_Count.mk 0 (api_Ratio.mk 0 0)), 4)
    else
      Option.bind (α := (Int × Int) ⊕ (api_Count × Int)) (
        Option.bind (whileO (yarn_Fold_l1 p0) (0, 0, 1)) fun z0 => match z0 with
          | .inl z =>
            some (.inr z)
          | .inr (e26, e27) =>
            some (.inl (e26, e27))) fun z0 => match z0 with
        | .inl (o15, o16) =>
          some ((api_Count.mk 1 (api_Ratio.mk o15 o16)), 0)
        | .inr z =>
          some z
def c_yarn_Fold_val (r : (api_Count × Int)) (x : Value) : Value := .tuple #[x, .int .i64 r.2]
def c_yarn_Fold_D (r : (api_Count × Int)) (x : Value) : List Fact := [fRep r_api_Count x r.1]
set_option maxHeartbeats 4000000 in
set_option maxRecDepth 100000 in
theorem c_yarn_Fold (E : Nat → Prop) (w0 : World) (p0 : (List api_Count)) (v0 : Value) (r : (api_Count × Int)) (h : F_yarn_Fold p0 = some r) (S : St0 E [] w0 w0 [] [fRep (rL r_api_Count) (v0) p0]) :
    Calls Try.prog 25 #[v0] w0 (Ret (X := Value) E [] w0 (c_yarn_Fold_val r) (fun _ => []) (c_yarn_Fold_D r)) := by
  unfold F_yarn_Fold at h
  obtain ⟨ad1, cp2, _, rfl, _⟩ := S.know (i := 0) (e := fRep (rL r_api_Count) (v0) p0) (by kernel_rfl)
  refine sEnter (args := [.slice ad1 p0.length cp2]) 47 Try.func25 rfl rfl (by simp) S (fun a S => ?_)
  refine sSeq (fun K3 hK3 => ?_)
  refine sRegion ?_
  refine sAlloc (.agg #[.int .u8 0, .int .i64 0, .int .i64 0]) S (wN rfl) rfl (by kernel_rfl) [.int .u8 0, .int .i64 0, .int .i64 0] rfl rfl (by decide) (fun a b4 w S => ?_)
  refine sMove (.int .i64 0) S (wN rfl) (.inr rfl) (by kernel_rfl) rfl (by decide) (fun a S => ?_)
  refine leafL (leafT (hK3 _ _ ?_))
  refine sSeq (fun K5 hK5 => ?_)
  refine sSeq (fun K6 hK6 => ?_)
  refine sRegion ?_
  refine sMove (.slice ad1 p0.length cp2) S (wN rfl) (.inl rfl) (by kernel_rfl) rfl (by decide) (fun a S => ?_)
  refine sLen (ad := ad1) (m := p0.length) (c := cp2) S (wN rfl) rfl Try.underlying42 (by kernel_rfl) rfl (by decide) (fun a S => ?_)
  refine sBin (.bool ((p0.length : Int) == 0)) S (wN rfl) rfl (by kernel_rfl) (by kernel_rfl) (bEq _ _ _ _ .i64 (p0.length : Int) 0) rfl (by decide) (fun a S => ?_)
  refine leafL (leafT (hK6 _ _ ?_))
  rcases iteSome h with ⟨hc7, h⟩ | ⟨hc7, h⟩
  · refine sCondT (b := (p0.length : Int) == 0) S (by kernel_rfl) hc7 ?_
    refine sSeq (fun K8 hK8 => ?_)
    refine sRegion ?_
    refine sBuild [] [.int .u8 0, .int .i64 0, .int .i64 0] S (wN rfl) rfl (by kernel_rfl) (by kernel_rfl) rfl (by decide) (fun a S => ?_)
    refine sStore (p := b4) (off := 0) (T := 41) (vs := [.int .u8 0, .int .i64 0, .int .i64 0]) (v := .agg #[.int .u8 0, .int .i64 0, .int .i64 0]) 0 [.int .u8 0, .int .i64 0, .int .i64 0] S (wN rfl) rfl (by kernel_rfl) (by kernel_rfl) rfl (by kernel_rfl) (by kernel_rfl) rfl (by simp) rfl (fun a w S => ?_)
    refine sMove (.int .i64 22) S (wN rfl) (.inr rfl) (by kernel_rfl) rfl (by decide) (fun a S => ?_)
    refine leafL (leafT (hK8 _ _ ?_))
    obtain rfl := Option.some.inj h
    have S := S.learn (fRep r_api_Count (.agg #[.int .u8 0, .int .i64 0, .int .i64 0]) (api_Count.mk 0 (api_Ratio.mk 0 0))) rfl
    exact wp_ret (rThen (sRet (.tuple #[.agg #[.int .u8 0, .int .i64 0, .int .i64 0], .int .i64 22]) S (rsl2 rfl (rvN (c := 2) (t := 41) (T := 41) (p := b4) 0 [.int .u8 0, .int .i64 0, .int .i64 0] S (by kernel_rfl) (by kernel_rfl) (by kernel_rfl) (by kernel_rfl)) (rvT (t := 3) (v := .int .i64 22) S (by kernel_rfl))) ⟨(.agg #[.int .u8 0, .int .i64 0, .int .i64 0]), rfl, S.mem.sel [] [0] (by decide) (by kernel_rfl) (by kernel_rfl)⟩))
  · refine sCondF (b := (p0.length : Int) == 0) S (by kernel_rfl) hc7 ?_
    refine wp_skip (leafT (hK5 _ _ ?_))
    refine sSeq (fun K9 hK9 => ?_)
    refine sSeq (fun K10 hK10 => ?_)
    refine sRegion ?_
    refine sMove (.slice ad1 p0.length cp2) S (wN rfl) (.inl rfl) (by kernel_rfl) rfl (by decide) (fun a S => ?_)
    refine sLen (ad := ad1) (m := p0.length) (c := cp2) S (wN rfl) rfl Try.underlying42 (by kernel_rfl) rfl (by decide) (fun a S => ?_)
    refine sBin (.bool (decide (40 < (p0.length : Int)))) S (wN rfl) rfl (by kernel_rfl) (by kernel_rfl) (bGt _ _ _ _ .i64 (p0.length : Int) 40) rfl (by decide) (fun a S => ?_)
    refine leafL (leafT (hK10 _ _ ?_))
    rcases iteSome h with ⟨hc11, h⟩ | ⟨hc11, h⟩
    · refine sCondT (b := decide (40 < (p0.length : Int))) S (by kernel_rfl) hc11 ?_
      refine sSeq (fun K12 hK12 => ?_)
      refine sRegion ?_
      refine sBuild [] [.int .u8 0, .int .i64 0, .int .i64 0] S (wN rfl) rfl (by kernel_rfl) (by kernel_rfl) rfl (by decide) (fun a S => ?_)
      refine sStore (p := b4) (off := 0) (T := 41) (vs := [.int .u8 0, .int .i64 0, .int .i64 0]) (v := .agg #[.int .u8 0, .int .i64 0, .int .i64 0]) 0 [.int .u8 0, .int .i64 0, .int .i64 0] S (wN rfl) rfl (by kernel_rfl) (by kernel_rfl) rfl (by kernel_rfl) (by kernel_rfl) rfl (by simp) rfl (fun a w S => ?_)
      refine sMove (.int .i64 4) S (wN rfl) (.inr rfl) (by kernel_rfl) rfl (by decide) (fun a S => ?_)
      refine leafL (leafT (hK12 _ _ ?_))
      obtain rfl := Option.some.inj h
      have S := S.learn (fRep r_api_Count (.agg #[.int .u8 0, .int .i64 0, .int .i64 0]) (api_Count.mk 0 (api_Ratio.mk 0 0))) rfl
      exact wp_ret (rThen (sRet (.tuple #[.agg #[.int .u8 0, .int .i64 0, .int .i64 0], .int .i64 4]) S (rsl2 rfl (rvN (c := 2) (t := 41) (T := 41) (p := b4) 0 [.int .u8 0, .int .i64 0, .int .i64 0] S (by kernel_rfl) (by kernel_rfl) (by kernel_rfl) (by kernel_rfl)) (rvT (t := 3) (v := .int .i64 4) S (by kernel_rfl))) ⟨(.agg #[.int .u8 0, .int .i64 0, .int .i64 0]), rfl, S.mem.sel [] [0] (by decide) (by kernel_rfl) (by kernel_rfl)⟩))
    · refine sCondF (b := decide (40 < (p0.length : Int))) S (by kernel_rfl) hc11 ?_
      refine wp_skip (leafT (hK9 _ _ ?_))
      refine sSeq (fun K13 hK13 => ?_)
      refine sRegion ?_
      refine sBuild [(1, .int .i64 1)] [.int .i64 0, .int .i64 1] S (wN rfl) rfl (by kernel_rfl) (by kernel_rfl) rfl (by decide) (fun a S => ?_)
      refine sAlloc (.agg #[.int .i64 0, .int .i64 0]) S (wN rfl) rfl (by kernel_rfl) [.int .i64 0, .int .i64 0] rfl rfl (by decide) (fun a b14 w S => ?_)
      refine sStore (p := b14) (off := 0) (T := 23) (vs := [.int .i64 0, .int .i64 0]) (v := .agg #[.int .i64 0, .int .i64 1]) 0 [.int .i64 0, .int .i64 1] S (wN rfl) rfl (by kernel_rfl) (by kernel_rfl) rfl (by kernel_rfl) (by kernel_rfl) rfl (by simp) rfl (fun a w S => ?_)
      refine leafL (leafT (hK13 _ _ ?_))
      obtain ⟨t17, h, g18⟩ := bindSome h
      refine sCut (fun a w => ∃ o15, ∃ o16, .inl (o15, o16) = t17 ∧ St [] E [] w0 47 a w [(2, .pointer (some ⟨b4, 0, none⟩)), (4, .pointer (some ⟨b14, 0, none⟩))] [eBox b4 41 [.int .u8 0, .int .i64 0, .int .i64 0], eBox b14 23 [.int .i64 o15, .int .i64 o16]] []) ?_ (fun a w hI => ?_)
      · refine sSeq (fun K19 hK19 => ?_)
        refine sRegion ?_
        refine sMove (.slice ad1 p0.length cp2) S (wN rfl) (.inl rfl) (by kernel_rfl) rfl (by decide) (fun a S => ?_)
        refine sLen (ad := ad1) (m := p0.length) (c := cp2) S (wN rfl) rfl Try.underlying42 (by kernel_rfl) rfl (by decide) (fun a S => ?_)
        refine sMove (.int .i64 0) S (wN rfl) (.inl rfl) (by kernel_rfl) rfl (by decide) (fun a S => ?_)
        refine leafL (leafT (hK19 _ _ ?_))
        refine wp_block ?_
        obtain ⟨t25, hl, g24⟩ := bindSome h
        refine sLoop hl (fun s0 a w => match s0 with | (s20, s21, s22) => St [] E [] w0 47 a w [(2, .pointer (some ⟨b4, 0, none⟩)), (4, .pointer (some ⟨b14, 0, none⟩)), (18, .slice ad1 p0.length cp2), (19, .int .i64 (p0.length : Int)), (20, .int .i64 s20)] [eBox b4 41 [.int .u8 0, .int .i64 0, .int .i64 0], eBox b14 23 [.int .i64 s21, .int .i64 s22]] [fRep (rL r_api_Count) (.slice ad1 p0.length cp2) p0]) (S.fix [1, 0] [0] (by decide) (by kernel_rfl) (by kernel_rfl) (by kernel_rfl)) ?_
        clear hl h
        intro s0 a w c0 hI h hu23
        obtain ⟨s20, s21, s22⟩ := s0
        unfold yarn_Fold_l1 at h
        dsimp only at h hI
        have S := hI
        refine sSeq (fun K28 hK28 => ?_)
        refine sRegion ?_
        refine sBin (.bool (decide (s20 < (p0.length : Int)))) S (wN rfl) rfl (by kernel_rfl) (by kernel_rfl) (bLt _ _ _ _ .i64 s20 (p0.length : Int)) rfl (by decide) (fun a S => ?_)
        refine leafL (leafT (hK28 _ _ ?_))
        refine sSeq (fun K29 hK29 => ?_)
        rcases iteSome h with ⟨hc30, h⟩ | ⟨hc30, h⟩
        · refine sCondT (b := decide (s20 < (p0.length : Int))) S (by kernel_rfl) hc30 ?_
          refine wp_skip (leafT (hK29 _ _ ?_))
          refine sSeq (fun K31 hK31 => ?_)
          refine wp_block ?_
          refine sSeq (fun K32 hK32 => ?_)
          refine sRegion ?_
          obtain ⟨x33, hx34, h⟩ := bindSome h
          obtain ⟨q35, hq36, S⟩ := pIdx (P := Try.prog) (r := r_api_Count) (v := .slice ad1 p0.length cp2) (xs := p0) (j := s20) 42 41 0 S Try.underlying42 (by kernel_rfl) (by kernel_rfl) hx34
          refine sIdxV (v := .slice ad1 p0.length cp2) (k := .i64) (j := s20) S (wN rfl) rfl (by kernel_rfl) (by kernel_rfl) hq36 rfl (by decide) (fun a S => ?_)
          obtain ⟨u37, S⟩ := pLoad (r := r_api_Count) (q := q35) (x := x33) 0 S (by kernel_rfl)
          obtain rfl : u37 = .agg #[.int .u8 x33.System, .int .i64 x33.N.Num, .int .i64 x33.N.Den] := S.mem.know (i := 1) (e := fRep r_api_Count (u37) x33) (by kernel_rfl)
          refine sLoadVN (vq := q35) 0 [.int .u8 x33.System, .int .i64 x33.N.Num, .int .i64 x33.N.Den] S (wN rfl) rfl (by kernel_rfl) (by kernel_rfl) (by kernel_rfl) (by kernel_rfl) rfl (by decide) (fun a S => ?_)
          refine sAlloc (.agg #[.int .u8 0, .int .i64 0, .int .i64 0]) S (wN rfl) rfl (by kernel_rfl) [.int .u8 0, .int .i64 0, .int .i64 0] rfl rfl (by decide) (fun a b38 w S => ?_)
          refine sStore (p := b38) (off := 0) (T := 41) (vs := [.int .u8 0, .int .i64 0, .int .i64 0]) (v := .agg #[.int .u8 x33.System, .int .i64 x33.N.Num, .int .i64 x33.N.Den]) 0 [.int .u8 x33.System, .int .i64 x33.N.Num, .int .i64 x33.N.Den] S (wN rfl) rfl (by kernel_rfl) (by kernel_rfl) rfl (by kernel_rfl) (by kernel_rfl) rfl (by simp) rfl (fun a w S => ?_)
          refine leafL (leafT (hK32 _ _ ?_))
          refine sSeq (fun K39 hK39 => ?_)
          refine sRegion ?_
          refine sLoadN (p := b38) (off := 0) (T := 41) (vs := [.int .u8 x33.System, .int .i64 x33.N.Num, .int .i64 x33.N.Den]) 0 [.int .u8 x33.System, .int .i64 x33.N.Num, .int .i64 x33.N.Den] S (wN rfl) rfl (by kernel_rfl) (by kernel_rfl) (by kernel_rfl) (by kernel_rfl) rfl rfl (by decide) (fun a S => ?_)
          obtain ⟨r40, hx41, h⟩ := bindSome h
          refine sCall (X := Value) (f := 23) (vs := [.agg #[.int .u8 x33.System, .int .i64 x33.N.Num, .int .i64 x33.N.Den], .int .u8 1]) (val := c_yarn_Convert_val r40) (B' := fun _ => []) (D' := c_yarn_Convert_D r40) [] [eBox b38 41 [.int .u8 x33.System, .int .i64 x33.N.Num, .int .i64 x33.N.Den], eBox b4 41 [.int .u8 0, .int .i64 0, .int .i64 0], eBox b14 23 [.int .i64 s21, .int .i64 s22]] [fRep r_api_Count (.agg #[.int .u8 x33.System, .int .i64 x33.N.Num, .int .i64 x33.N.Den]) x33] [0, 1, 2] [1] S (wN rfl) rfl callee23 (by kernel_rfl) (by decide) (by kernel_rfl) (by kernel_rfl) (fun E1 w1 S1 => c_yarn_Convert E1 w1 x33 (.agg #[.int .u8 x33.System, .int .i64 x33.N.Num, .int .i64 x33.N.Den]) 1 r40 hx41 S1) rfl (by decide) (fun u42 a w S => ?_)
          obtain rfl : u42 = .agg #[.int .u8 r40.1.System, .int .i64 r40.1.N.Num, .int .i64 r40.1.N.Den] := S.mem.know (i := 0) (e := fRep r_api_Count (u42) r40.1) (by kernel_rfl)
          refine sMove (.tuple #[.agg #[.int .u8 r40.1.System, .int .i64 r40.1.N.Num, .int .i64 r40.1.N.Den], .int .i64 r40.2]) S (wN rfl) (.inl rfl) (by kernel_rfl) rfl (by decide) (fun a S => ?_)
          refine sExtract (vs := [.agg #[.int .u8 r40.1.System, .int .i64 r40.1.N.Num, .int .i64 r40.1.N.Den], .int .i64 r40.2]) (.agg #[.int .u8 r40.1.System, .int .i64 r40.1.N.Num, .int .i64 r40.1.N.Den]) S (wN rfl) rfl (by kernel_rfl) rfl rfl (by decide) (fun a S => ?_)
          refine sExtract (vs := [.agg #[.int .u8 r40.1.System, .int .i64 r40.1.N.Num, .int .i64 r40.1.N.Den], .int .i64 r40.2]) (.int .i64 r40.2) S (wN rfl) rfl (by kernel_rfl) rfl rfl (by decide) (fun a S => ?_)
          refine sAlloc (.agg #[.int .u8 0, .int .i64 0, .int .i64 0]) S (wN rfl) rfl (by kernel_rfl) [.int .u8 0, .int .i64 0, .int .i64 0] rfl rfl (by decide) (fun a b43 w S => ?_)
          refine sStore (p := b43) (off := 0) (T := 41) (vs := [.int .u8 0, .int .i64 0, .int .i64 0]) (v := .agg #[.int .u8 r40.1.System, .int .i64 r40.1.N.Num, .int .i64 r40.1.N.Den]) 0 [.int .u8 r40.1.System, .int .i64 r40.1.N.Num, .int .i64 r40.1.N.Den] S (wN rfl) rfl (by kernel_rfl) (by kernel_rfl) rfl (by kernel_rfl) (by kernel_rfl) rfl (by simp) rfl (fun a w S => ?_)
          refine sMove (.int .i64 r40.2) S (wN rfl) (.inr rfl) (by kernel_rfl) rfl (by decide) (fun a S => ?_)
          refine leafL (leafT (hK39 _ _ ?_))
          refine sSeq (fun K44 hK44 => ?_)
          refine sSeq (fun K45 hK45 => ?_)
          refine sRegion ?_
          refine sMove (.int .i64 r40.2) S (wN rfl) (.inl rfl) (by kernel_rfl) rfl (by decide) (fun a S => ?_)
          refine sBin (.bool (r40.2 != 0)) S (wN rfl) rfl (by kernel_rfl) (by kernel_rfl) (bNe _ _ _ _ .i64 r40.2 0) rfl (by decide) (fun a S => ?_)
          refine leafL (leafT (hK45 _ _ ?_))
          rcases iteSome h with ⟨hc46, h⟩ | ⟨hc46, h⟩
          · refine sCondT (b := r40.2 != 0) S (by kernel_rfl) hc46 ?_
            refine sSeq (fun K47 hK47 => ?_)
            refine sRegion ?_
            refine sBuild [] [.int .u8 0, .int .i64 0, .int .i64 0] S (wN rfl) rfl (by kernel_rfl) (by kernel_rfl) rfl (by decide) (fun a S => ?_)
            refine sMove (.int .i64 r40.2) S (wN rfl) (.inl rfl) (by kernel_rfl) rfl (by decide) (fun a S => ?_)
            refine sStore (p := b4) (off := 0) (T := 41) (vs := [.int .u8 0, .int .i64 0, .int .i64 0]) (v := .agg #[.int .u8 0, .int .i64 0, .int .i64 0]) 2 [.int .u8 0, .int .i64 0, .int .i64 0] S (wN rfl) rfl (by kernel_rfl) (by kernel_rfl) rfl (by kernel_rfl) (by kernel_rfl) rfl (by simp) rfl (fun a w S => ?_)
            refine sMove (.int .i64 r40.2) S (wN rfl) (.inr rfl) (by kernel_rfl) rfl (by decide) (fun a S => ?_)
            refine leafL (leafT (hK47 _ _ ?_))
            obtain rfl := Option.some.inj h
            obtain rfl := hu23 _ rfl
            have h := g24
            clear g24
            try dsimp only at h
            obtain rfl := Option.some.inj h
            have h := g18
            clear g18
            try dsimp only at h
            obtain rfl := Option.some.inj h
            have S := S.learn (fRep r_api_Count (.agg #[.int .u8 0, .int .i64 0, .int .i64 0]) (api_Count.mk 0 (api_Ratio.mk 0 0))) rfl
            exact wp_ret (rThen (rBlock (rThen (rThen (rBlock (rThen (sRet (.tuple #[.agg #[.int .u8 0, .int .i64 0, .int .i64 0], .int .i64 r40.2]) S (rsl2 rfl (rvN (c := 2) (t := 41) (T := 41) (p := b4) 0 [.int .u8 0, .int .i64 0, .int .i64 0] S (by kernel_rfl) (by kernel_rfl) (by kernel_rfl) (by kernel_rfl)) (rvT (t := 3) (v := .int .i64 r40.2) S (by kernel_rfl))) ⟨(.agg #[.int .u8 0, .int .i64 0, .int .i64 0]), rfl, S.mem.sel [] [0] (by decide) (by kernel_rfl) (by kernel_rfl)⟩)))))))
          · refine sCondF (b := r40.2 != 0) S (by kernel_rfl) hc46 ?_
            refine wp_skip (leafT (hK44 _ _ ?_))
            refine sSeq (fun K48 hK48 => ?_)
            refine sRegion ?_
            refine sLoadN (p := b14) (off := 0) (T := 23) (vs := [.int .i64 s21, .int .i64 s22]) 3 [.int .i64 s21, .int .i64 s22] S (wN rfl) rfl (by kernel_rfl) (by kernel_rfl) (by kernel_rfl) (by kernel_rfl) rfl rfl (by decide) (fun a S => ?_)
            refine sField (b := b43) (off := 0) 1 1 S (wN rfl) rfl (by kernel_rfl) (by kernel_rfl) rfl rfl (by decide) (fun a S => ?_)
            refine sLoadN (p := b43) (off := 1) (T := 41) (vs := [.int .u8 r40.1.System, .int .i64 r40.1.N.Num, .int .i64 r40.1.N.Den]) 0 [.int .i64 r40.1.N.Num, .int .i64 r40.1.N.Den] S (wN rfl) rfl (by kernel_rfl) (by kernel_rfl) (by kernel_rfl) (by kernel_rfl) rfl rfl (by decide) (fun a S => ?_)
            obtain ⟨r49, hx50, h⟩ := bindSome h
            have S := S.learn (fRep r_api_Ratio (.agg #[.int .i64 s21, .int .i64 s22]) (api_Ratio.mk s21 s22)) rfl
            have S := S.learn (fRep r_api_Ratio (.agg #[.int .i64 r40.1.N.Num, .int .i64 r40.1.N.Den]) r40.1.N) rfl
            refine sCall (X := Value) (f := 6) (vs := [.agg #[.int .i64 s21, .int .i64 s22], .agg #[.int .i64 r40.1.N.Num, .int .i64 r40.1.N.Den]]) (val := c_yarn_Add_val r49) (B' := fun _ => []) (D' := c_yarn_Add_D r49) [] [eBox b43 41 [.int .u8 r40.1.System, .int .i64 r40.1.N.Num, .int .i64 r40.1.N.Den], eBox b38 41 [.int .u8 x33.System, .int .i64 x33.N.Num, .int .i64 x33.N.Den], eBox b4 41 [.int .u8 0, .int .i64 0, .int .i64 0], eBox b14 23 [.int .i64 s21, .int .i64 s22]] [fRep r_api_Ratio (.agg #[.int .i64 s21, .int .i64 s22]) (api_Ratio.mk s21 s22), fRep r_api_Ratio (.agg #[.int .i64 r40.1.N.Num, .int .i64 r40.1.N.Den]) r40.1.N] [0, 1, 2, 3] [1, 0] S (wN rfl) rfl callee6 (by kernel_rfl) (by decide) (by kernel_rfl) (by kernel_rfl) (fun E1 w1 S1 => c_yarn_Add E1 w1 (api_Ratio.mk s21 s22) (.agg #[.int .i64 s21, .int .i64 s22]) r40.1.N (.agg #[.int .i64 r40.1.N.Num, .int .i64 r40.1.N.Den]) r49 hx50 S1) rfl (by decide) (fun u51 a w S => ?_)
            obtain rfl : u51 = .agg #[.int .i64 r49.1.Num, .int .i64 r49.1.Den] := S.mem.know (i := 0) (e := fRep r_api_Ratio (u51) r49.1) (by kernel_rfl)
            refine sMove (.tuple #[.agg #[.int .i64 r49.1.Num, .int .i64 r49.1.Den], .int .i64 r49.2]) S (wN rfl) (.inl rfl) (by kernel_rfl) rfl (by decide) (fun a S => ?_)
            refine sExtract (vs := [.agg #[.int .i64 r49.1.Num, .int .i64 r49.1.Den], .int .i64 r49.2]) (.agg #[.int .i64 r49.1.Num, .int .i64 r49.1.Den]) S (wN rfl) rfl (by kernel_rfl) rfl rfl (by decide) (fun a S => ?_)
            refine sExtract (vs := [.agg #[.int .i64 r49.1.Num, .int .i64 r49.1.Den], .int .i64 r49.2]) (.int .i64 r49.2) S (wN rfl) rfl (by kernel_rfl) rfl rfl (by decide) (fun a S => ?_)
            refine sStore (p := b14) (off := 0) (T := 23) (vs := [.int .i64 s21, .int .i64 s22]) (v := .agg #[.int .i64 r49.1.Num, .int .i64 r49.1.Den]) 3 [.int .i64 r49.1.Num, .int .i64 r49.1.Den] S (wN rfl) rfl (by kernel_rfl) (by kernel_rfl) rfl (by kernel_rfl) (by kernel_rfl) rfl (by simp) rfl (fun a w S => ?_)
            refine sMove (.int .i64 r49.2) S (wN rfl) (.inr rfl) (by kernel_rfl) rfl (by decide) (fun a S => ?_)
            refine leafL (leafT (hK48 _ _ ?_))
            refine sSeq (fun K52 hK52 => ?_)
            refine sRegion ?_
            refine sMove (.int .i64 r49.2) S (wN rfl) (.inl rfl) (by kernel_rfl) rfl (by decide) (fun a S => ?_)
            refine sBin (.bool (r49.2 != 0)) S (wN rfl) rfl (by kernel_rfl) (by kernel_rfl) (bNe _ _ _ _ .i64 r49.2 0) rfl (by decide) (fun a S => ?_)
            refine leafL (leafT (hK52 _ _ ?_))
            rcases iteSome h with ⟨hc53, h⟩ | ⟨hc53, h⟩
            · refine sCondT (b := r49.2 != 0) S (by kernel_rfl) hc53 ?_
              refine sSeq (fun K54 hK54 => ?_)
              refine sRegion ?_
              refine sBuild [] [.int .u8 0, .int .i64 0, .int .i64 0] S (wN rfl) rfl (by kernel_rfl) (by kernel_rfl) rfl (by decide) (fun a S => ?_)
              refine sMove (.int .i64 r49.2) S (wN rfl) (.inl rfl) (by kernel_rfl) rfl (by decide) (fun a S => ?_)
              refine sStore (p := b4) (off := 0) (T := 41) (vs := [.int .u8 0, .int .i64 0, .int .i64 0]) (v := .agg #[.int .u8 0, .int .i64 0, .int .i64 0]) 3 [.int .u8 0, .int .i64 0, .int .i64 0] S (wN rfl) rfl (by kernel_rfl) (by kernel_rfl) rfl (by kernel_rfl) (by kernel_rfl) rfl (by simp) rfl (fun a w S => ?_)
              refine sMove (.int .i64 r49.2) S (wN rfl) (.inr rfl) (by kernel_rfl) rfl (by decide) (fun a S => ?_)
              refine leafL (leafT (hK54 _ _ ?_))
              obtain rfl := Option.some.inj h
              obtain rfl := hu23 _ rfl
              have h := g24
              clear g24
              try dsimp only at h
              obtain rfl := Option.some.inj h
              have h := g18
              clear g18
              try dsimp only at h
              obtain rfl := Option.some.inj h
              have S := S.learn (fRep r_api_Count (.agg #[.int .u8 0, .int .i64 0, .int .i64 0]) (api_Count.mk 0 (api_Ratio.mk 0 0))) rfl
              exact wp_ret (rBlock (rThen (rThen (rBlock (rThen (sRet (.tuple #[.agg #[.int .u8 0, .int .i64 0, .int .i64 0], .int .i64 r49.2]) S (rsl2 rfl (rvN (c := 2) (t := 41) (T := 41) (p := b4) 0 [.int .u8 0, .int .i64 0, .int .i64 0] S (by kernel_rfl) (by kernel_rfl) (by kernel_rfl) (by kernel_rfl)) (rvT (t := 3) (v := .int .i64 r49.2) S (by kernel_rfl))) ⟨(.agg #[.int .u8 0, .int .i64 0, .int .i64 0]), rfl, S.mem.sel [] [0] (by decide) (by kernel_rfl) (by kernel_rfl)⟩))))))
            · refine sCondF (b := r49.2 != 0) S (by kernel_rfl) hc53 ?_
              refine wp_skip (leafB (leafT (hK31 _ _ ?_)))
              refine sRegion ?_
              refine sBin (.int .i64 (w64 (s20 + 1))) S (wN rfl) rfl (by kernel_rfl) (by kernel_rfl) (bAdd _ _ _ _ s20 1) rfl (by decide) (fun a S => ?_)
              refine sMove (.int .i64 (w64 (s20 + 1))) S (wN rfl) (.inl rfl) (by kernel_rfl) rfl (by decide) (fun a S => ?_)
              exact leafL (leafT (⟨(w64 (s20 + 1), r49.1.Num, r49.1.Den), (Option.some.inj h).symm, (S.fix [3, 0] [7] (by decide) (by kernel_rfl) (by kernel_rfl) (by kernel_rfl))⟩))
        · refine sCondF (b := decide (s20 < (p0.length : Int))) S (by kernel_rfl) hc30 ?_
          obtain rfl := Option.some.inj h
          obtain rfl := hu23 _ rfl
          have h := g24
          clear g24
          try dsimp only at h
          exact wp_exit (xThen (xThen (xHit (leafT (⟨s21, s22, Option.some.inj h, S.fix [0, 1] [] (by decide) (by kernel_rfl) (by kernel_rfl) (by kernel_rfl)⟩)))))
      · obtain ⟨o15, o16, rfl, S⟩ := hI
        have h := g18
        clear g18
        try dsimp only at h
        refine sSeq (fun K55 hK55 => ?_)
        refine sRegion ?_
        refine sLoadN (p := b14) (off := 0) (T := 23) (vs := [.int .i64 o15, .int .i64 o16]) 1 [.int .i64 o15, .int .i64 o16] S (wN rfl) rfl (by kernel_rfl) (by kernel_rfl) (by kernel_rfl) (by kernel_rfl) rfl rfl (by decide) (fun a S => ?_)
        refine sBuild [(0, .int .u8 1), (1, .agg #[.int .i64 o15, .int .i64 o16])] [.int .u8 1, .int .i64 o15, .int .i64 o16] S (wN rfl) rfl (by kernel_rfl) (by kernel_rfl) rfl (by decide) (fun a S => ?_)
        refine sStore (p := b4) (off := 0) (T := 41) (vs := [.int .u8 0, .int .i64 0, .int .i64 0]) (v := .agg #[.int .u8 1, .int .i64 o15, .int .i64 o16]) 0 [.int .u8 1, .int .i64 o15, .int .i64 o16] S (wN rfl) rfl (by kernel_rfl) (by kernel_rfl) rfl (by kernel_rfl) (by kernel_rfl) rfl (by simp) rfl (fun a w S => ?_)
        refine sMove (.int .i64 0) S (wN rfl) (.inr rfl) (by kernel_rfl) rfl (by decide) (fun a S => ?_)
        refine leafL (leafT (hK55 _ _ ?_))
        obtain rfl := Option.some.inj h
        have S := S.learn (fRep r_api_Count (.agg #[.int .u8 1, .int .i64 o15, .int .i64 o16]) (api_Count.mk 1 (api_Ratio.mk o15 o16))) rfl
        exact wp_ret (sRet (.tuple #[.agg #[.int .u8 1, .int .i64 o15, .int .i64 o16], .int .i64 0]) S (rsl2 rfl (rvN (c := 2) (t := 41) (T := 41) (p := b4) 0 [.int .u8 1, .int .i64 o15, .int .i64 o16] S (by kernel_rfl) (by kernel_rfl) (by kernel_rfl) (by kernel_rfl)) (rvT (t := 3) (v := .int .i64 0) S (by kernel_rfl))) ⟨(.agg #[.int .u8 1, .int .i64 o15, .int .i64 o16]), rfl, S.mem.sel [] [0] (by decide) (by kernel_rfl) (by kernel_rfl)⟩)

end Go.Proofs.Ytdfjcpnflmgdoaa
namespace Go.Proofs.Ytdfjcpnflmgdoaa
open Go.RowKit
set_option linter.unusedVariables false

noncomputable def F_raddleref23_Of (p0 : Int) : Option api_Ratio :=
  some (api_Ratio.mk p0 1)
def c_raddleref23_Of_val (r : api_Ratio) (x : Value) : Value := x
def c_raddleref23_Of_D (r : api_Ratio) (x : Value) : List Fact := [fRep r_api_Ratio x r]
set_option maxHeartbeats 4000000 in
set_option maxRecDepth 100000 in
theorem c_raddleref23_Of (E : Nat → Prop) (w0 : World) (p0 : Int) (r : api_Ratio) (h : F_raddleref23_Of p0 = some r) (S : St0 E [] w0 w0 [] []) :
    Calls Try.prog 51 #[.int .i64 p0] w0 (Ret (X := Value) E [] w0 (c_raddleref23_Of_val r) (fun _ => []) (c_raddleref23_Of_D r)) := by
  unfold F_raddleref23_Of at h
  refine sEnter (args := [.int .i64 p0]) 5 Try.func51 rfl rfl (by simp) S (fun a S => ?_)
  refine sSeq (fun K1 hK1 => ?_)
  refine sRegion ?_
  refine sAlloc (.agg #[.int .i64 0, .int .i64 0]) S (wN rfl) rfl (by kernel_rfl) [.int .i64 0, .int .i64 0] rfl rfl (by decide) (fun a b2 w S => ?_)
  refine leafL (leafT (hK1 _ _ ?_))
  refine sSeq (fun K3 hK3 => ?_)
  refine sRegion ?_
  refine sMove (.int .i64 p0) S (wN rfl) (.inl rfl) (by kernel_rfl) rfl (by decide) (fun a S => ?_)
  refine sBuild [(0, .int .i64 p0), (1, .int .i64 1)] [.int .i64 p0, .int .i64 1] S (wN rfl) rfl (by kernel_rfl) (by kernel_rfl) rfl (by decide) (fun a S => ?_)
  refine sStore (p := b2) (off := 0) (T := 23) (vs := [.int .i64 0, .int .i64 0]) (v := .agg #[.int .i64 p0, .int .i64 1]) 0 [.int .i64 p0, .int .i64 1] S (wN rfl) rfl (by kernel_rfl) (by kernel_rfl) rfl (by kernel_rfl) (by kernel_rfl) rfl (by simp) rfl (fun a w S => ?_)
  refine leafL (leafT (hK3 _ _ ?_))
  obtain rfl := Option.some.inj h
  have S := S.learn (fRep r_api_Ratio (.agg #[.int .i64 p0, .int .i64 1]) (api_Ratio.mk p0 1)) rfl
  exact wp_ret (sRet (.agg #[.int .i64 p0, .int .i64 1]) S (rsl1 rfl (rvN (c := 2) (t := 23) (T := 23) (p := b2) 0 [.int .i64 p0, .int .i64 1] S (by kernel_rfl) (by kernel_rfl) (by kernel_rfl) (by kernel_rfl))) ⟨(.agg #[.int .i64 p0, .int .i64 1]), rfl, S.mem.sel [] [0] (by decide) (by kernel_rfl) (by kernel_rfl)⟩)

end Go.Proofs.Ytdfjcpnflmgdoaa
namespace Go.Proofs.Ytdfjcpnflmgdoaa
open Go.RowKit
set_option linter.unusedVariables false

noncomputable def raddleref23_Fold_l1 (p0 : (List api_Count)) : (Int × Int × Int) → Option ((Int × Int × Int) ⊕ ((api_Count × Int) ⊕ (Int × Int))) := fun s0 => match s0 with
  | (s23, s24, s25) =>
    if decide (s23 < (p0.length : Int)) then
      Option.bind (idxO p0 s23) fun x36 =>
      Option.bind (F_raddleref23_Convert x36 1) fun r41 =>
      if r41.2 != 0 then
        some (.inr (.inl ((api_Count.mk 0 (api_Ratio.mk 0 0)), r41.2)))
      else
        Option.bind (F_raddleref23_Add (api_Ratio.mk s24 s25) r41.1.N) fun r50 =>
        if r50.2 != 0 then
          some (.inr (.inl ((api_Count.mk 0 (api_Ratio.mk 0 0)), r50.2)))
        else
          some (.inl (w64 (s23 + 1), r50.1.Num, r50.1.Den))
    else
      some (.inr (.inr (s24, s25)))
noncomputable def F_raddleref23_Fold (p0 : (List api_Count)) : Option (api_Count × Int) :=
  if (p0.length : Int) == 0 then
    some ((api_Count.mk 0 (api_Ratio.mk 0 0)), 22)
  else
    if decide (40 < (p0.length : Int)) then
      some ((api_Count.mk 0 (api_Ratio.mk 0 0)), 4)
    else
      Option.bind (F_raddleref23_Of 0) fun r14 =>
      Option.bind (α := (Int × Int) ⊕ (api_Count × Int)) (
        Option.bind (whileO (raddleref23_Fold_l1 p0) (0, r14.Num, r14.Den)) fun z0 => match z0 with
          | .inl z =>
            some (.inr z)
          | .inr (e29, e30) =>
            some (.inl (e29, e30))) fun z0 => match z0 with
        | .inl (o18, o19) =>
          some ((api_Count.mk 1 (api_Ratio.mk o18 o19)), 0)
        | .inr z =>
          some z
def c_raddleref23_Fold_val (r : (api_Count × Int)) (x : Value) : Value := .tuple #[x, .int .i64 r.2]
def c_raddleref23_Fold_D (r : (api_Count × Int)) (x : Value) : List Fact := [fRep r_api_Count x r.1]
set_option maxHeartbeats 4000000 in
set_option maxRecDepth 100000 in
theorem c_raddleref23_Fold (E : Nat → Prop) (w0 : World) (p0 : (List api_Count)) (v0 : Value) (r : (api_Count × Int)) (h : F_raddleref23_Fold p0 = some r) (S : St0 E [] w0 w0 [] [fRep (rL r_api_Count) (v0) p0]) :
    Calls Try.prog 26 #[v0] w0 (Ret (X := Value) E [] w0 (c_raddleref23_Fold_val r) (fun _ => []) (c_raddleref23_Fold_D r)) := by
  unfold F_raddleref23_Fold at h
  obtain ⟨ad1, cp2, _, rfl, _⟩ := S.know (i := 0) (e := fRep (rL r_api_Count) (v0) p0) (by kernel_rfl)
  refine sEnter (args := [.slice ad1 p0.length cp2]) 48 Try.func26 rfl rfl (by simp) S (fun a S => ?_)
  refine sSeq (fun K3 hK3 => ?_)
  refine sRegion ?_
  refine sAlloc (.agg #[.int .u8 0, .int .i64 0, .int .i64 0]) S (wN rfl) rfl (by kernel_rfl) [.int .u8 0, .int .i64 0, .int .i64 0] rfl rfl (by decide) (fun a b4 w S => ?_)
  refine sMove (.int .i64 0) S (wN rfl) (.inr rfl) (by kernel_rfl) rfl (by decide) (fun a S => ?_)
  refine leafL (leafT (hK3 _ _ ?_))
  refine sSeq (fun K5 hK5 => ?_)
  refine sSeq (fun K6 hK6 => ?_)
  refine sRegion ?_
  refine sMove (.slice ad1 p0.length cp2) S (wN rfl) (.inl rfl) (by kernel_rfl) rfl (by decide) (fun a S => ?_)
  refine sLen (ad := ad1) (m := p0.length) (c := cp2) S (wN rfl) rfl Try.underlying42 (by kernel_rfl) rfl (by decide) (fun a S => ?_)
  refine sBin (.bool ((p0.length : Int) == 0)) S (wN rfl) rfl (by kernel_rfl) (by kernel_rfl) (bEq _ _ _ _ .i64 (p0.length : Int) 0) rfl (by decide) (fun a S => ?_)
  refine leafL (leafT (hK6 _ _ ?_))
  rcases iteSome h with ⟨hc7, h⟩ | ⟨hc7, h⟩
  · refine sCondT (b := (p0.length : Int) == 0) S (by kernel_rfl) hc7 ?_
    refine sSeq (fun K8 hK8 => ?_)
    refine sRegion ?_
    refine sBuild [] [.int .u8 0, .int .i64 0, .int .i64 0] S (wN rfl) rfl (by kernel_rfl) (by kernel_rfl) rfl (by decide) (fun a S => ?_)
    refine sStore (p := b4) (off := 0) (T := 41) (vs := [.int .u8 0, .int .i64 0, .int .i64 0]) (v := .agg #[.int .u8 0, .int .i64 0, .int .i64 0]) 0 [.int .u8 0, .int .i64 0, .int .i64 0] S (wN rfl) rfl (by kernel_rfl) (by kernel_rfl) rfl (by kernel_rfl) (by kernel_rfl) rfl (by simp) rfl (fun a w S => ?_)
    refine sMove (.int .i64 22) S (wN rfl) (.inr rfl) (by kernel_rfl) rfl (by decide) (fun a S => ?_)
    refine leafL (leafT (hK8 _ _ ?_))
    obtain rfl := Option.some.inj h
    have S := S.learn (fRep r_api_Count (.agg #[.int .u8 0, .int .i64 0, .int .i64 0]) (api_Count.mk 0 (api_Ratio.mk 0 0))) rfl
    exact wp_ret (rThen (sRet (.tuple #[.agg #[.int .u8 0, .int .i64 0, .int .i64 0], .int .i64 22]) S (rsl2 rfl (rvN (c := 2) (t := 41) (T := 41) (p := b4) 0 [.int .u8 0, .int .i64 0, .int .i64 0] S (by kernel_rfl) (by kernel_rfl) (by kernel_rfl) (by kernel_rfl)) (rvT (t := 3) (v := .int .i64 22) S (by kernel_rfl))) ⟨(.agg #[.int .u8 0, .int .i64 0, .int .i64 0]), rfl, S.mem.sel [] [0] (by decide) (by kernel_rfl) (by kernel_rfl)⟩))
  · refine sCondF (b := (p0.length : Int) == 0) S (by kernel_rfl) hc7 ?_
    refine wp_skip (leafT (hK5 _ _ ?_))
    refine sSeq (fun K9 hK9 => ?_)
    refine sSeq (fun K10 hK10 => ?_)
    refine sRegion ?_
    refine sMove (.slice ad1 p0.length cp2) S (wN rfl) (.inl rfl) (by kernel_rfl) rfl (by decide) (fun a S => ?_)
    refine sLen (ad := ad1) (m := p0.length) (c := cp2) S (wN rfl) rfl Try.underlying42 (by kernel_rfl) rfl (by decide) (fun a S => ?_)
    refine sBin (.bool (decide (40 < (p0.length : Int)))) S (wN rfl) rfl (by kernel_rfl) (by kernel_rfl) (bGt _ _ _ _ .i64 (p0.length : Int) 40) rfl (by decide) (fun a S => ?_)
    refine leafL (leafT (hK10 _ _ ?_))
    rcases iteSome h with ⟨hc11, h⟩ | ⟨hc11, h⟩
    · refine sCondT (b := decide (40 < (p0.length : Int))) S (by kernel_rfl) hc11 ?_
      refine sSeq (fun K12 hK12 => ?_)
      refine sRegion ?_
      refine sBuild [] [.int .u8 0, .int .i64 0, .int .i64 0] S (wN rfl) rfl (by kernel_rfl) (by kernel_rfl) rfl (by decide) (fun a S => ?_)
      refine sStore (p := b4) (off := 0) (T := 41) (vs := [.int .u8 0, .int .i64 0, .int .i64 0]) (v := .agg #[.int .u8 0, .int .i64 0, .int .i64 0]) 0 [.int .u8 0, .int .i64 0, .int .i64 0] S (wN rfl) rfl (by kernel_rfl) (by kernel_rfl) rfl (by kernel_rfl) (by kernel_rfl) rfl (by simp) rfl (fun a w S => ?_)
      refine sMove (.int .i64 4) S (wN rfl) (.inr rfl) (by kernel_rfl) rfl (by decide) (fun a S => ?_)
      refine leafL (leafT (hK12 _ _ ?_))
      obtain rfl := Option.some.inj h
      have S := S.learn (fRep r_api_Count (.agg #[.int .u8 0, .int .i64 0, .int .i64 0]) (api_Count.mk 0 (api_Ratio.mk 0 0))) rfl
      exact wp_ret (rThen (sRet (.tuple #[.agg #[.int .u8 0, .int .i64 0, .int .i64 0], .int .i64 4]) S (rsl2 rfl (rvN (c := 2) (t := 41) (T := 41) (p := b4) 0 [.int .u8 0, .int .i64 0, .int .i64 0] S (by kernel_rfl) (by kernel_rfl) (by kernel_rfl) (by kernel_rfl)) (rvT (t := 3) (v := .int .i64 4) S (by kernel_rfl))) ⟨(.agg #[.int .u8 0, .int .i64 0, .int .i64 0]), rfl, S.mem.sel [] [0] (by decide) (by kernel_rfl) (by kernel_rfl)⟩))
    · refine sCondF (b := decide (40 < (p0.length : Int))) S (by kernel_rfl) hc11 ?_
      refine wp_skip (leafT (hK9 _ _ ?_))
      refine sSeq (fun K13 hK13 => ?_)
      refine sRegion ?_
      obtain ⟨r14, hx15, h⟩ := bindSome h
      refine sCall (X := Value) (f := 51) (vs := [.int .i64 0]) (val := c_raddleref23_Of_val r14) (B' := fun _ => []) (D' := c_raddleref23_Of_D r14) [] [eBox b4 41 [.int .u8 0, .int .i64 0, .int .i64 0]] [] [0] [] S (wN rfl) rfl callee51 (by kernel_rfl) (by decide) (by kernel_rfl) (by kernel_rfl) (fun E1 w1 S1 => c_raddleref23_Of E1 w1 0 r14 hx15 S1) rfl (by decide) (fun u16 a w S => ?_)
      obtain rfl : u16 = .agg #[.int .i64 r14.Num, .int .i64 r14.Den] := S.mem.know (i := 0) (e := fRep r_api_Ratio (u16) r14) (by kernel_rfl)
      refine sAlloc (.agg #[.int .i64 0, .int .i64 0]) S (wN rfl) rfl (by kernel_rfl) [.int .i64 0, .int .i64 0] rfl rfl (by decide) (fun a b17 w S => ?_)
      refine sStore (p := b17) (off := 0) (T := 23) (vs := [.int .i64 0, .int .i64 0]) (v := .agg #[.int .i64 r14.Num, .int .i64 r14.Den]) 0 [.int .i64 r14.Num, .int .i64 r14.Den] S (wN rfl) rfl (by kernel_rfl) (by kernel_rfl) rfl (by kernel_rfl) (by kernel_rfl) rfl (by simp) rfl (fun a w S => ?_)
      refine leafL (leafT (hK13 _ _ ?_))
      obtain ⟨t20, h, g21⟩ := bindSome h
      refine sCut (fun a w => ∃ o18, ∃ o19, .inl (o18, o19) = t20 ∧ St [] E [] w0 48 a w [(2, .pointer (some ⟨b4, 0, none⟩)), (4, .pointer (some ⟨b17, 0, none⟩))] [eBox b4 41 [.int .u8 0, .int .i64 0, .int .i64 0], eBox b17 23 [.int .i64 o18, .int .i64 o19]] []) ?_ (fun a w hI => ?_)
      · refine sSeq (fun K22 hK22 => ?_)
        refine sRegion ?_
        refine sMove (.int .i64 0) S (wN rfl) (.inr rfl) (by kernel_rfl) rfl (by decide) (fun a S => ?_)
        refine leafL (leafT (hK22 _ _ ?_))
        refine wp_block ?_
        obtain ⟨t28, hl, g27⟩ := bindSome h
        refine sLoop hl (fun s0 a w => match s0 with | (s23, s24, s25) => St [] E [] w0 48 a w [(0, .slice ad1 p0.length cp2), (2, .pointer (some ⟨b4, 0, none⟩)), (4, .pointer (some ⟨b17, 0, none⟩)), (5, .int .i64 s23)] [eBox b4 41 [.int .u8 0, .int .i64 0, .int .i64 0], eBox b17 23 [.int .i64 s24, .int .i64 s25]] [fRep (rL r_api_Count) (.slice ad1 p0.length cp2) p0]) (S.fix [1, 0] [1] (by decide) (by kernel_rfl) (by kernel_rfl) (by kernel_rfl)) ?_
        clear hl h
        intro s0 a w c0 hI h hu26
        obtain ⟨s23, s24, s25⟩ := s0
        unfold raddleref23_Fold_l1 at h
        dsimp only at h hI
        have S := hI
        refine sSeq (fun K31 hK31 => ?_)
        refine sSeq (fun K32 hK32 => ?_)
        refine sRegion ?_
        refine sMove (.int .i64 s23) S (wN rfl) (.inl rfl) (by kernel_rfl) rfl (by decide) (fun a S => ?_)
        refine sMove (.slice ad1 p0.length cp2) S (wN rfl) (.inl rfl) (by kernel_rfl) rfl (by decide) (fun a S => ?_)
        refine sLen (ad := ad1) (m := p0.length) (c := cp2) S (wN rfl) rfl Try.underlying42 (by kernel_rfl) rfl (by decide) (fun a S => ?_)
        refine sBin (.bool (decide (s23 < (p0.length : Int)))) S (wN rfl) rfl (by kernel_rfl) (by kernel_rfl) (bLt _ _ _ _ .i64 s23 (p0.length : Int)) rfl (by decide) (fun a S => ?_)
        refine leafL (leafT (hK32 _ _ ?_))
        rcases iteSome h with ⟨hc33, h⟩ | ⟨hc33, h⟩
        · refine sCondT (b := decide (s23 < (p0.length : Int))) S (by kernel_rfl) hc33 ?_
          refine wp_skip (leafT (hK31 _ _ ?_))
          refine sSeq (fun K34 hK34 => ?_)
          refine wp_block ?_
          refine sSeq (fun K35 hK35 => ?_)
          refine sRegion ?_
          refine sMove (.slice ad1 p0.length cp2) S (wN rfl) (.inl rfl) (by kernel_rfl) rfl (by decide) (fun a S => ?_)
          refine sMove (.int .i64 s23) S (wN rfl) (.inl rfl) (by kernel_rfl) rfl (by decide) (fun a S => ?_)
          obtain ⟨x36, hx37, h⟩ := bindSome h
          obtain ⟨q38, hq39, S⟩ := pIdx (P := Try.prog) (r := r_api_Count) (v := .slice ad1 p0.length cp2) (xs := p0) (j := s23) 42 41 0 S Try.underlying42 (by kernel_rfl) (by kernel_rfl) hx37
          refine sIdxV (v := .slice ad1 p0.length cp2) (k := .i64) (j := s23) S (wN rfl) rfl (by kernel_rfl) (by kernel_rfl) hq39 rfl (by decide) (fun a S => ?_)
          obtain ⟨u40, S⟩ := pLoad (r := r_api_Count) (q := q38) (x := x36) 0 S (by kernel_rfl)
          obtain rfl : u40 = .agg #[.int .u8 x36.System, .int .i64 x36.N.Num, .int .i64 x36.N.Den] := S.mem.know (i := 1) (e := fRep r_api_Count (u40) x36) (by kernel_rfl)
          refine sLoadVN (vq := q38) 0 [.int .u8 x36.System, .int .i64 x36.N.Num, .int .i64 x36.N.Den] S (wN rfl) rfl (by kernel_rfl) (by kernel_rfl) (by kernel_rfl) (by kernel_rfl) rfl (by decide) (fun a S => ?_)
          obtain ⟨r41, hx42, h⟩ := bindSome h
          refine sCall (X := Value) (f := 24) (vs := [.agg #[.int .u8 x36.System, .int .i64 x36.N.Num, .int .i64 x36.N.Den], .int .u8 1]) (val := c_raddleref23_Convert_val r41) (B' := fun _ => []) (D' := c_raddleref23_Convert_D r41) [] [eBox b4 41 [.int .u8 0, .int .i64 0, .int .i64 0], eBox b17 23 [.int .i64 s24, .int .i64 s25]] [fRep r_api_Count (.agg #[.int .u8 x36.System, .int .i64 x36.N.Num, .int .i64 x36.N.Den]) x36] [0, 1] [1] S (wN rfl) rfl callee24 (by kernel_rfl) (by decide) (by kernel_rfl) (by kernel_rfl) (fun E1 w1 S1 => c_raddleref23_Convert E1 w1 x36 (.agg #[.int .u8 x36.System, .int .i64 x36.N.Num, .int .i64 x36.N.Den]) 1 r41 hx42 S1) rfl (by decide) (fun u43 a w S => ?_)
          obtain rfl : u43 = .agg #[.int .u8 r41.1.System, .int .i64 r41.1.N.Num, .int .i64 r41.1.N.Den] := S.mem.know (i := 0) (e := fRep r_api_Count (u43) r41.1) (by kernel_rfl)
          refine sMove (.tuple #[.agg #[.int .u8 r41.1.System, .int .i64 r41.1.N.Num, .int .i64 r41.1.N.Den], .int .i64 r41.2]) S (wN rfl) (.inl rfl) (by kernel_rfl) rfl (by decide) (fun a S => ?_)
          refine sExtract (vs := [.agg #[.int .u8 r41.1.System, .int .i64 r41.1.N.Num, .int .i64 r41.1.N.Den], .int .i64 r41.2]) (.agg #[.int .u8 r41.1.System, .int .i64 r41.1.N.Num, .int .i64 r41.1.N.Den]) S (wN rfl) rfl (by kernel_rfl) rfl rfl (by decide) (fun a S => ?_)
          refine sExtract (vs := [.agg #[.int .u8 r41.1.System, .int .i64 r41.1.N.Num, .int .i64 r41.1.N.Den], .int .i64 r41.2]) (.int .i64 r41.2) S (wN rfl) rfl (by kernel_rfl) rfl rfl (by decide) (fun a S => ?_)
          refine sAlloc (.agg #[.int .u8 0, .int .i64 0, .int .i64 0]) S (wN rfl) rfl (by kernel_rfl) [.int .u8 0, .int .i64 0, .int .i64 0] rfl rfl (by decide) (fun a b44 w S => ?_)
          refine sStore (p := b44) (off := 0) (T := 41) (vs := [.int .u8 0, .int .i64 0, .int .i64 0]) (v := .agg #[.int .u8 r41.1.System, .int .i64 r41.1.N.Num, .int .i64 r41.1.N.Den]) 0 [.int .u8 r41.1.System, .int .i64 r41.1.N.Num, .int .i64 r41.1.N.Den] S (wN rfl) rfl (by kernel_rfl) (by kernel_rfl) rfl (by kernel_rfl) (by kernel_rfl) rfl (by simp) rfl (fun a w S => ?_)
          refine sMove (.int .i64 r41.2) S (wN rfl) (.inr rfl) (by kernel_rfl) rfl (by decide) (fun a S => ?_)
          refine leafL (leafT (hK35 _ _ ?_))
          refine sSeq (fun K45 hK45 => ?_)
          refine sSeq (fun K46 hK46 => ?_)
          refine sRegion ?_
          refine sMove (.int .i64 r41.2) S (wN rfl) (.inl rfl) (by kernel_rfl) rfl (by decide) (fun a S => ?_)
          refine sBin (.bool (r41.2 != 0)) S (wN rfl) rfl (by kernel_rfl) (by kernel_rfl) (bNe _ _ _ _ .i64 r41.2 0) rfl (by decide) (fun a S => ?_)
          refine leafL (leafT (hK46 _ _ ?_))
          rcases iteSome h with ⟨hc47, h⟩ | ⟨hc47, h⟩
          · refine sCondT (b := r41.2 != 0) S (by kernel_rfl) hc47 ?_
            refine sSeq (fun K48 hK48 => ?_)
            refine sRegion ?_
            refine sBuild [] [.int .u8 0, .int .i64 0, .int .i64 0] S (wN rfl) rfl (by kernel_rfl) (by kernel_rfl) rfl (by decide) (fun a S => ?_)
            refine sMove (.int .i64 r41.2) S (wN rfl) (.inl rfl) (by kernel_rfl) rfl (by decide) (fun a S => ?_)
            refine sStore (p := b4) (off := 0) (T := 41) (vs := [.int .u8 0, .int .i64 0, .int .i64 0]) (v := .agg #[.int .u8 0, .int .i64 0, .int .i64 0]) 1 [.int .u8 0, .int .i64 0, .int .i64 0] S (wN rfl) rfl (by kernel_rfl) (by kernel_rfl) rfl (by kernel_rfl) (by kernel_rfl) rfl (by simp) rfl (fun a w S => ?_)
            refine sMove (.int .i64 r41.2) S (wN rfl) (.inr rfl) (by kernel_rfl) rfl (by decide) (fun a S => ?_)
            refine leafL (leafT (hK48 _ _ ?_))
            obtain rfl := Option.some.inj h
            obtain rfl := hu26 _ rfl
            have h := g27
            clear g27
            try dsimp only at h
            obtain rfl := Option.some.inj h
            have h := g21
            clear g21
            try dsimp only at h
            obtain rfl := Option.some.inj h
            have S := S.learn (fRep r_api_Count (.agg #[.int .u8 0, .int .i64 0, .int .i64 0]) (api_Count.mk 0 (api_Ratio.mk 0 0))) rfl
            exact wp_ret (rThen (rBlock (rThen (rThen (rBlock (rThen (sRet (.tuple #[.agg #[.int .u8 0, .int .i64 0, .int .i64 0], .int .i64 r41.2]) S (rsl2 rfl (rvN (c := 2) (t := 41) (T := 41) (p := b4) 0 [.int .u8 0, .int .i64 0, .int .i64 0] S (by kernel_rfl) (by kernel_rfl) (by kernel_rfl) (by kernel_rfl)) (rvT (t := 3) (v := .int .i64 r41.2) S (by kernel_rfl))) ⟨(.agg #[.int .u8 0, .int .i64 0, .int .i64 0]), rfl, S.mem.sel [] [0] (by decide) (by kernel_rfl) (by kernel_rfl)⟩)))))))
          · refine sCondF (b := r41.2 != 0) S (by kernel_rfl) hc47 ?_
            refine wp_skip (leafT (hK45 _ _ ?_))
            refine sSeq (fun K49 hK49 => ?_)
            refine sRegion ?_
            refine sLoadN (p := b17) (off := 0) (T := 23) (vs := [.int .i64 s24, .int .i64 s25]) 2 [.int .i64 s24, .int .i64 s25] S (wN rfl) rfl (by kernel_rfl) (by kernel_rfl) (by kernel_rfl) (by kernel_rfl) rfl rfl (by decide) (fun a S => ?_)
            refine sField (b := b44) (off := 0) 1 1 S (wN rfl) rfl (by kernel_rfl) (by kernel_rfl) rfl rfl (by decide) (fun a S => ?_)
            refine sLoadN (p := b44) (off := 1) (T := 41) (vs := [.int .u8 r41.1.System, .int .i64 r41.1.N.Num, .int .i64 r41.1.N.Den]) 0 [.int .i64 r41.1.N.Num, .int .i64 r41.1.N.Den] S (wN rfl) rfl (by kernel_rfl) (by kernel_rfl) (by kernel_rfl) (by kernel_rfl) rfl rfl (by decide) (fun a S => ?_)
            obtain ⟨r50, hx51, h⟩ := bindSome h
            have S := S.learn (fRep r_api_Ratio (.agg #[.int .i64 s24, .int .i64 s25]) (api_Ratio.mk s24 s25)) rfl
            have S := S.learn (fRep r_api_Ratio (.agg #[.int .i64 r41.1.N.Num, .int .i64 r41.1.N.Den]) r41.1.N) rfl
            refine sCall (X := Value) (f := 7) (vs := [.agg #[.int .i64 s24, .int .i64 s25], .agg #[.int .i64 r41.1.N.Num, .int .i64 r41.1.N.Den]]) (val := c_raddleref23_Add_val r50) (B' := fun _ => []) (D' := c_raddleref23_Add_D r50) [] [eBox b44 41 [.int .u8 r41.1.System, .int .i64 r41.1.N.Num, .int .i64 r41.1.N.Den], eBox b4 41 [.int .u8 0, .int .i64 0, .int .i64 0], eBox b17 23 [.int .i64 s24, .int .i64 s25]] [fRep r_api_Ratio (.agg #[.int .i64 s24, .int .i64 s25]) (api_Ratio.mk s24 s25), fRep r_api_Ratio (.agg #[.int .i64 r41.1.N.Num, .int .i64 r41.1.N.Den]) r41.1.N] [0, 1, 2] [1, 0] S (wN rfl) rfl callee7 (by kernel_rfl) (by decide) (by kernel_rfl) (by kernel_rfl) (fun E1 w1 S1 => c_raddleref23_Add E1 w1 (api_Ratio.mk s24 s25) (.agg #[.int .i64 s24, .int .i64 s25]) r41.1.N (.agg #[.int .i64 r41.1.N.Num, .int .i64 r41.1.N.Den]) r50 hx51 S1) rfl (by decide) (fun u52 a w S => ?_)
            obtain rfl : u52 = .agg #[.int .i64 r50.1.Num, .int .i64 r50.1.Den] := S.mem.know (i := 0) (e := fRep r_api_Ratio (u52) r50.1) (by kernel_rfl)
            refine sMove (.tuple #[.agg #[.int .i64 r50.1.Num, .int .i64 r50.1.Den], .int .i64 r50.2]) S (wN rfl) (.inl rfl) (by kernel_rfl) rfl (by decide) (fun a S => ?_)
            refine sExtract (vs := [.agg #[.int .i64 r50.1.Num, .int .i64 r50.1.Den], .int .i64 r50.2]) (.agg #[.int .i64 r50.1.Num, .int .i64 r50.1.Den]) S (wN rfl) rfl (by kernel_rfl) rfl rfl (by decide) (fun a S => ?_)
            refine sExtract (vs := [.agg #[.int .i64 r50.1.Num, .int .i64 r50.1.Den], .int .i64 r50.2]) (.int .i64 r50.2) S (wN rfl) rfl (by kernel_rfl) rfl rfl (by decide) (fun a S => ?_)
            refine sStore (p := b17) (off := 0) (T := 23) (vs := [.int .i64 s24, .int .i64 s25]) (v := .agg #[.int .i64 r50.1.Num, .int .i64 r50.1.Den]) 2 [.int .i64 r50.1.Num, .int .i64 r50.1.Den] S (wN rfl) rfl (by kernel_rfl) (by kernel_rfl) rfl (by kernel_rfl) (by kernel_rfl) rfl (by simp) rfl (fun a w S => ?_)
            refine sMove (.int .i64 r50.2) S (wN rfl) (.inr rfl) (by kernel_rfl) rfl (by decide) (fun a S => ?_)
            refine leafL (leafT (hK49 _ _ ?_))
            refine sSeq (fun K53 hK53 => ?_)
            refine sRegion ?_
            refine sMove (.int .i64 r50.2) S (wN rfl) (.inl rfl) (by kernel_rfl) rfl (by decide) (fun a S => ?_)
            refine sBin (.bool (r50.2 != 0)) S (wN rfl) rfl (by kernel_rfl) (by kernel_rfl) (bNe _ _ _ _ .i64 r50.2 0) rfl (by decide) (fun a S => ?_)
            refine leafL (leafT (hK53 _ _ ?_))
            rcases iteSome h with ⟨hc54, h⟩ | ⟨hc54, h⟩
            · refine sCondT (b := r50.2 != 0) S (by kernel_rfl) hc54 ?_
              refine sSeq (fun K55 hK55 => ?_)
              refine sRegion ?_
              refine sBuild [] [.int .u8 0, .int .i64 0, .int .i64 0] S (wN rfl) rfl (by kernel_rfl) (by kernel_rfl) rfl (by decide) (fun a S => ?_)
              refine sMove (.int .i64 r50.2) S (wN rfl) (.inl rfl) (by kernel_rfl) rfl (by decide) (fun a S => ?_)
              refine sStore (p := b4) (off := 0) (T := 41) (vs := [.int .u8 0, .int .i64 0, .int .i64 0]) (v := .agg #[.int .u8 0, .int .i64 0, .int .i64 0]) 2 [.int .u8 0, .int .i64 0, .int .i64 0] S (wN rfl) rfl (by kernel_rfl) (by kernel_rfl) rfl (by kernel_rfl) (by kernel_rfl) rfl (by simp) rfl (fun a w S => ?_)
              refine sMove (.int .i64 r50.2) S (wN rfl) (.inr rfl) (by kernel_rfl) rfl (by decide) (fun a S => ?_)
              refine leafL (leafT (hK55 _ _ ?_))
              obtain rfl := Option.some.inj h
              obtain rfl := hu26 _ rfl
              have h := g27
              clear g27
              try dsimp only at h
              obtain rfl := Option.some.inj h
              have h := g21
              clear g21
              try dsimp only at h
              obtain rfl := Option.some.inj h
              have S := S.learn (fRep r_api_Count (.agg #[.int .u8 0, .int .i64 0, .int .i64 0]) (api_Count.mk 0 (api_Ratio.mk 0 0))) rfl
              exact wp_ret (rBlock (rThen (rThen (rBlock (rThen (sRet (.tuple #[.agg #[.int .u8 0, .int .i64 0, .int .i64 0], .int .i64 r50.2]) S (rsl2 rfl (rvN (c := 2) (t := 41) (T := 41) (p := b4) 0 [.int .u8 0, .int .i64 0, .int .i64 0] S (by kernel_rfl) (by kernel_rfl) (by kernel_rfl) (by kernel_rfl)) (rvT (t := 3) (v := .int .i64 r50.2) S (by kernel_rfl))) ⟨(.agg #[.int .u8 0, .int .i64 0, .int .i64 0]), rfl, S.mem.sel [] [0] (by decide) (by kernel_rfl) (by kernel_rfl)⟩))))))
            · refine sCondF (b := r50.2 != 0) S (by kernel_rfl) hc54 ?_
              refine wp_skip (leafB (leafT (hK34 _ _ ?_)))
              refine sRegion ?_
              refine sMove (.int .i64 s23) S (wN rfl) (.inl rfl) (by kernel_rfl) rfl (by decide) (fun a S => ?_)
              refine sBin (.int .i64 (w64 (s23 + 1))) S (wN rfl) rfl (by kernel_rfl) (by kernel_rfl) (bAdd _ _ _ _ s23 1) rfl (by decide) (fun a S => ?_)
              refine sMove (.int .i64 (w64 (s23 + 1))) S (wN rfl) (.inr rfl) (by kernel_rfl) rfl (by decide) (fun a S => ?_)
              exact leafL (leafT (⟨(w64 (s23 + 1), r50.1.Num, r50.1.Den), (Option.some.inj h).symm, (S.fix [2, 0] [7] (by decide) (by kernel_rfl) (by kernel_rfl) (by kernel_rfl))⟩))
        · refine sCondF (b := decide (s23 < (p0.length : Int))) S (by kernel_rfl) hc33 ?_
          obtain rfl := Option.some.inj h
          obtain rfl := hu26 _ rfl
          have h := g27
          clear g27
          try dsimp only at h
          exact wp_exit (xThen (xThen (xHit (leafT (⟨s24, s25, Option.some.inj h, S.fix [0, 1] [] (by decide) (by kernel_rfl) (by kernel_rfl) (by kernel_rfl)⟩)))))
      · obtain ⟨o18, o19, rfl, S⟩ := hI
        have h := g21
        clear g21
        try dsimp only at h
        refine sSeq (fun K56 hK56 => ?_)
        refine sRegion ?_
        refine sLoadN (p := b17) (off := 0) (T := 23) (vs := [.int .i64 o18, .int .i64 o19]) 1 [.int .i64 o18, .int .i64 o19] S (wN rfl) rfl (by kernel_rfl) (by kernel_rfl) (by kernel_rfl) (by kernel_rfl) rfl rfl (by decide) (fun a S => ?_)
        refine sBuild [(0, .int .u8 1), (1, .agg #[.int .i64 o18, .int .i64 o19])] [.int .u8 1, .int .i64 o18, .int .i64 o19] S (wN rfl) rfl (by kernel_rfl) (by kernel_rfl) rfl (by decide) (fun a S => ?_)
        refine sStore (p := b4) (off := 0) (T := 41) (vs := [.int .u8 0, .int .i64 0, .int .i64 0]) (v := .agg #[.int .u8 1, .int .i64 o18, .int .i64 o19]) 0 [.int .u8 1, .int .i64 o18, .int .i64 o19] S (wN rfl) rfl (by kernel_rfl) (by kernel_rfl) rfl (by kernel_rfl) (by kernel_rfl) rfl (by simp) rfl (fun a w S => ?_)
        refine sMove (.int .i64 0) S (wN rfl) (.inr rfl) (by kernel_rfl) rfl (by decide) (fun a S => ?_)
        refine leafL (leafT (hK56 _ _ ?_))
        obtain rfl := Option.some.inj h
        have S := S.learn (fRep r_api_Count (.agg #[.int .u8 1, .int .i64 o18, .int .i64 o19]) (api_Count.mk 1 (api_Ratio.mk o18 o19))) rfl
        exact wp_ret (sRet (.tuple #[.agg #[.int .u8 1, .int .i64 o18, .int .i64 o19], .int .i64 0]) S (rsl2 rfl (rvN (c := 2) (t := 41) (T := 41) (p := b4) 0 [.int .u8 1, .int .i64 o18, .int .i64 o19] S (by kernel_rfl) (by kernel_rfl) (by kernel_rfl) (by kernel_rfl)) (rvT (t := 3) (v := .int .i64 0) S (by kernel_rfl))) ⟨(.agg #[.int .u8 1, .int .i64 o18, .int .i64 o19]), rfl, S.mem.sel [] [0] (by decide) (by kernel_rfl) (by kernel_rfl)⟩)

end Go.Proofs.Ytdfjcpnflmgdoaa
namespace Go.Proofs.Ytdfjcpnflmgdoaa
open Go.RowKit
set_option linter.unusedVariables false

noncomputable def F_raddlelaw23_YarnCounts (p0 : api_Count) (p1 : Int) (p2 : (List api_Count)) : Option Bool :=
  Option.bind (F_raddleref23_Great p2) fun r7 =>
  if r7 then
    some true
  else
    Option.bind (F_yarn_Convert p0 p1) fun r12 =>
    Option.bind (F_raddleref23_Convert p0 p1) fun r17 =>
    Option.bind (F_yarn_Fold p2) fun r22 =>
    Option.bind (F_raddleref23_Fold p2) fun r27 =>
    Option.bind (α := Bool) (
      if ((r12.1.System == r17.1.System) && (((r12.1.N.Num == r17.1.N.Num) && ((r12.1.N.Den == r17.1.N.Den) && true)) && true)) then
        if r12.2 == r17.2 then
          if ((r22.1.System == r27.1.System) && (((r22.1.N.Num == r27.1.N.Num) && ((r22.1.N.Den == r27.1.N.Den) && true)) && true)) then
            some (r22.2 == r27.2)
          else
            some false
        else
          some false
      else
        some false) fun o31 =>
    some o31
set_option maxHeartbeats 4000000 in
set_option maxRecDepth 100000 in
theorem c_raddlelaw23_YarnCounts (E : Nat → Prop) (w0 : World) (p0 : api_Count) (v0 : Value) (p1 : Int) (p2 : (List api_Count)) (v2 : Value) (r : Bool) (h : F_raddlelaw23_YarnCounts p0 p1 p2 = some r) (S : St0 E [] w0 w0 [] [fRep r_api_Count (v0) p0, fRep (rL r_api_Count) (v2) p2]) :
    Calls Try.prog 4 #[v0, .int .u8 p1, v2] w0 (Ret (X := Unit) E [] w0 (fun _ => .bool r) (fun _ => []) (fun _ => [])) := by
  unfold F_raddlelaw23_YarnCounts at h
  obtain rfl : v0 = .agg #[.int .u8 p0.System, .int .i64 p0.N.Num, .int .i64 p0.N.Den] := S.know (i := 0) (e := fRep r_api_Count (v0) p0) (by kernel_rfl)
  obtain ⟨ad1, cp2, _, rfl, _⟩ := S.know (i := 1) (e := fRep (rL r_api_Count) (v2) p2) (by kernel_rfl)
  refine sEnter (args := [.agg #[.int .u8 p0.System, .int .i64 p0.N.Num, .int .i64 p0.N.Den], .int .u8 p1, .slice ad1 p2.length cp2]) 57 Try.func4 rfl rfl (by simp) S (fun a S => ?_)
  refine sSeq (fun K3 hK3 => ?_)
  refine sRegion ?_
  refine sBox (v := .agg #[.int .u8 p0.System, .int .i64 p0.N.Num, .int .i64 p0.N.Den]) S (wN rfl) rfl (by kernel_rfl) [.int .u8 p0.System, .int .i64 p0.N.Num, .int .i64 p0.N.Den] rfl rfl (by decide) (fun a b4 w S => ?_)
  refine sMove (.bool false) S (wN rfl) (.inr rfl) (by kernel_rfl) rfl (by decide) (fun a S => ?_)
  refine leafL (leafT (hK3 _ _ ?_))
  refine sSeq (fun K5 hK5 => ?_)
  refine sSeq (fun K6 hK6 => ?_)
  refine sRegion ?_
  refine sMove (.slice ad1 p2.length cp2) S (wN rfl) (.inl rfl) (by kernel_rfl) rfl (by decide) (fun a S => ?_)
  obtain ⟨r7, hx8, h⟩ := bindSome h
  have S1 := S.mem
  refine sCallQ (X := Unit) (f := 22) (vs := [.slice ad1 p2.length cp2]) (val := fun _ => .bool r7) S (wN rfl) rfl callee22 (by kernel_rfl) (S1.quiet [1] (by kernel_rfl)) (fun E1 w1 S1 => c_raddleref23_Great E1 w1 p2 (.slice ad1 p2.length cp2) r7 hx8 S1) rfl (by decide) (fun _ a w S => ?_)
  refine leafL (leafT (hK6 _ _ ?_))
  rcases iteSome h with ⟨hc9, h⟩ | ⟨hc9, h⟩
  · refine sCondT (b := r7) S (by kernel_rfl) hc9 ?_
    refine sSeq (fun K10 hK10 => ?_)
    refine sRegion ?_
    refine sMove (.bool true) S (wN rfl) (.inr rfl) (by kernel_rfl) rfl (by decide) (fun a S => ?_)
    refine leafL (leafT (hK10 _ _ ?_))
    obtain rfl := Option.some.inj h
    exact wp_ret (rThen (sRet (.bool true) S (rsl1 rfl (rvT (t := 6) (v := .bool true) S (by kernel_rfl))) ⟨(), rfl, S.mem.sel [] [] (by decide) (by kernel_rfl) (by kernel_rfl)⟩))
  · refine sCondF (b := r7) S (by kernel_rfl) hc9 ?_
    refine wp_skip (leafT (hK5 _ _ ?_))
    refine sSeq (fun K11 hK11 => ?_)
    refine sRegion ?_
    refine sLoadN (p := b4) (off := 0) (T := 41) (vs := [.int .u8 p0.System, .int .i64 p0.N.Num, .int .i64 p0.N.Den]) 0 [.int .u8 p0.System, .int .i64 p0.N.Num, .int .i64 p0.N.Den] S (wN rfl) rfl (by kernel_rfl) (by kernel_rfl) (by kernel_rfl) (by kernel_rfl) rfl rfl (by decide) (fun a S => ?_)
    refine sMove (.int .u8 p1) S (wN rfl) (.inl rfl) (by kernel_rfl) rfl (by decide) (fun a S => ?_)
    obtain ⟨r12, hx13, h⟩ := bindSome h
    refine sCall (X := Value) (f := 23) (vs := [.agg #[.int .u8 p0.System, .int .i64 p0.N.Num, .int .i64 p0.N.Den], .int .u8 p1]) (val := c_yarn_Convert_val r12) (B' := fun _ => []) (D' := c_yarn_Convert_D r12) [] [eBox b4 41 [.int .u8 p0.System, .int .i64 p0.N.Num, .int .i64 p0.N.Den]] [fRep r_api_Count (.agg #[.int .u8 p0.System, .int .i64 p0.N.Num, .int .i64 p0.N.Den]) p0] [0] [0] S (wN rfl) rfl callee23 (by kernel_rfl) (by decide) (by kernel_rfl) (by kernel_rfl) (fun E1 w1 S1 => c_yarn_Convert E1 w1 p0 (.agg #[.int .u8 p0.System, .int .i64 p0.N.Num, .int .i64 p0.N.Den]) p1 r12 hx13 S1) rfl (by decide) (fun u14 a w S => ?_)
    obtain rfl : u14 = .agg #[.int .u8 r12.1.System, .int .i64 r12.1.N.Num, .int .i64 r12.1.N.Den] := S.mem.know (i := 0) (e := fRep r_api_Count (u14) r12.1) (by kernel_rfl)
    refine sMove (.tuple #[.agg #[.int .u8 r12.1.System, .int .i64 r12.1.N.Num, .int .i64 r12.1.N.Den], .int .i64 r12.2]) S (wN rfl) (.inl rfl) (by kernel_rfl) rfl (by decide) (fun a S => ?_)
    refine sExtract (vs := [.agg #[.int .u8 r12.1.System, .int .i64 r12.1.N.Num, .int .i64 r12.1.N.Den], .int .i64 r12.2]) (.agg #[.int .u8 r12.1.System, .int .i64 r12.1.N.Num, .int .i64 r12.1.N.Den]) S (wN rfl) rfl (by kernel_rfl) rfl rfl (by decide) (fun a S => ?_)
    refine sExtract (vs := [.agg #[.int .u8 r12.1.System, .int .i64 r12.1.N.Num, .int .i64 r12.1.N.Den], .int .i64 r12.2]) (.int .i64 r12.2) S (wN rfl) rfl (by kernel_rfl) rfl rfl (by decide) (fun a S => ?_)
    refine sAlloc (.agg #[.int .u8 0, .int .i64 0, .int .i64 0]) S (wN rfl) rfl (by kernel_rfl) [.int .u8 0, .int .i64 0, .int .i64 0] rfl rfl (by decide) (fun a b15 w S => ?_)
    refine sStore (p := b15) (off := 0) (T := 41) (vs := [.int .u8 0, .int .i64 0, .int .i64 0]) (v := .agg #[.int .u8 r12.1.System, .int .i64 r12.1.N.Num, .int .i64 r12.1.N.Den]) 0 [.int .u8 r12.1.System, .int .i64 r12.1.N.Num, .int .i64 r12.1.N.Den] S (wN rfl) rfl (by kernel_rfl) (by kernel_rfl) rfl (by kernel_rfl) (by kernel_rfl) rfl (by simp) rfl (fun a w S => ?_)
    refine sMove (.int .i64 r12.2) S (wN rfl) (.inr rfl) (by kernel_rfl) rfl (by decide) (fun a S => ?_)
    refine leafL (leafT (hK11 _ _ ?_))
    refine sSeq (fun K16 hK16 => ?_)
    refine sRegion ?_
    refine sLoadN (p := b4) (off := 0) (T := 41) (vs := [.int .u8 p0.System, .int .i64 p0.N.Num, .int .i64 p0.N.Den]) 1 [.int .u8 p0.System, .int .i64 p0.N.Num, .int .i64 p0.N.Den] S (wN rfl) rfl (by kernel_rfl) (by kernel_rfl) (by kernel_rfl) (by kernel_rfl) rfl rfl (by decide) (fun a S => ?_)
    refine sMove (.int .u8 p1) S (wN rfl) (.inl rfl) (by kernel_rfl) rfl (by decide) (fun a S => ?_)
    obtain ⟨r17, hx18, h⟩ := bindSome h
    refine sCall (X := Value) (f := 24) (vs := [.agg #[.int .u8 p0.System, .int .i64 p0.N.Num, .int .i64 p0.N.Den], .int .u8 p1]) (val := c_raddleref23_Convert_val r17) (B' := fun _ => []) (D' := c_raddleref23_Convert_D r17) [] [eBox b15 41 [.int .u8 r12.1.System, .int .i64 r12.1.N.Num, .int .i64 r12.1.N.Den], eBox b4 41 [.int .u8 p0.System, .int .i64 p0.N.Num, .int .i64 p0.N.Den]] [fRep r_api_Count (.agg #[.int .u8 p0.System, .int .i64 p0.N.Num, .int .i64 p0.N.Den]) p0] [0, 1] [1] S (wN rfl) rfl callee24 (by kernel_rfl) (by decide) (by kernel_rfl) (by kernel_rfl) (fun E1 w1 S1 => c_raddleref23_Convert E1 w1 p0 (.agg #[.int .u8 p0.System, .int .i64 p0.N.Num, .int .i64 p0.N.Den]) p1 r17 hx18 S1) rfl (by decide) (fun u19 a w S => ?_)
    obtain rfl : u19 = .agg #[.int .u8 r17.1.System, .int .i64 r17.1.N.Num, .int .i64 r17.1.N.Den] := S.mem.know (i := 0) (e := fRep r_api_Count (u19) r17.1) (by kernel_rfl)
    refine sMove (.tuple #[.agg #[.int .u8 r17.1.System, .int .i64 r17.1.N.Num, .int .i64 r17.1.N.Den], .int .i64 r17.2]) S (wN rfl) (.inl rfl) (by kernel_rfl) rfl (by decide) (fun a S => ?_)
    refine sExtract (vs := [.agg #[.int .u8 r17.1.System, .int .i64 r17.1.N.Num, .int .i64 r17.1.N.Den], .int .i64 r17.2]) (.agg #[.int .u8 r17.1.System, .int .i64 r17.1.N.Num, .int .i64 r17.1.N.Den]) S (wN rfl) rfl (by kernel_rfl) rfl rfl (by decide) (fun a S => ?_)
    refine sExtract (vs := [.agg #[.int .u8 r17.1.System, .int .i64 r17.1.N.Num, .int .i64 r17.1.N.Den], .int .i64 r17.2]) (.int .i64 r17.2) S (wN rfl) rfl (by kernel_rfl) rfl rfl (by decide) (fun a S => ?_)
    refine sAlloc (.agg #[.int .u8 0, .int .i64 0, .int .i64 0]) S (wN rfl) rfl (by kernel_rfl) [.int .u8 0, .int .i64 0, .int .i64 0] rfl rfl (by decide) (fun a b20 w S => ?_)
    refine sStore (p := b20) (off := 0) (T := 41) (vs := [.int .u8 0, .int .i64 0, .int .i64 0]) (v := .agg #[.int .u8 r17.1.System, .int .i64 r17.1.N.Num, .int .i64 r17.1.N.Den]) 0 [.int .u8 r17.1.System, .int .i64 r17.1.N.Num, .int .i64 r17.1.N.Den] S (wN rfl) rfl (by kernel_rfl) (by kernel_rfl) rfl (by kernel_rfl) (by kernel_rfl) rfl (by simp) rfl (fun a w S => ?_)
    refine sMove (.int .i64 r17.2) S (wN rfl) (.inr rfl) (by kernel_rfl) rfl (by decide) (fun a S => ?_)
    refine leafL (leafT (hK16 _ _ ?_))
    refine sSeq (fun K21 hK21 => ?_)
    refine sRegion ?_
    refine sMove (.slice ad1 p2.length cp2) S (wN rfl) (.inl rfl) (by kernel_rfl) rfl (by decide) (fun a S => ?_)
    obtain ⟨r22, hx23, h⟩ := bindSome h
    refine sCall (X := Value) (f := 25) (vs := [.slice ad1 p2.length cp2]) (val := c_yarn_Fold_val r22) (B' := fun _ => []) (D' := c_yarn_Fold_D r22) [] [eBox b20 41 [.int .u8 r17.1.System, .int .i64 r17.1.N.Num, .int .i64 r17.1.N.Den], eBox b15 41 [.int .u8 r12.1.System, .int .i64 r12.1.N.Num, .int .i64 r12.1.N.Den], eBox b4 41 [.int .u8 p0.System, .int .i64 p0.N.Num, .int .i64 p0.N.Den]] [fRep (rL r_api_Count) (.slice ad1 p2.length cp2) p2] [0, 1, 2] [3] S (wN rfl) rfl callee25 (by kernel_rfl) (by decide) (by kernel_rfl) (by kernel_rfl) (fun E1 w1 S1 => c_yarn_Fold E1 w1 p2 (.slice ad1 p2.length cp2) r22 hx23 S1) rfl (by decide) (fun u24 a w S => ?_)
    obtain rfl : u24 = .agg #[.int .u8 r22.1.System, .int .i64 r22.1.N.Num, .int .i64 r22.1.N.Den] := S.mem.know (i := 0) (e := fRep r_api_Count (u24) r22.1) (by kernel_rfl)
    refine sMove (.tuple #[.agg #[.int .u8 r22.1.System, .int .i64 r22.1.N.Num, .int .i64 r22.1.N.Den], .int .i64 r22.2]) S (wN rfl) (.inl rfl) (by kernel_rfl) rfl (by decide) (fun a S => ?_)
    refine sExtract (vs := [.agg #[.int .u8 r22.1.System, .int .i64 r22.1.N.Num, .int .i64 r22.1.N.Den], .int .i64 r22.2]) (.agg #[.int .u8 r22.1.System, .int .i64 r22.1.N.Num, .int .i64 r22.1.N.Den]) S (wN rfl) rfl (by kernel_rfl) rfl rfl (by decide) (fun a S => ?_)
    refine sExtract (vs := [.agg #[.int .u8 r22.1.System, .int .i64 r22.1.N.Num, .int .i64 r22.1.N.Den], .int .i64 r22.2]) (.int .i64 r22.2) S (wN rfl) rfl (by kernel_rfl) rfl rfl (by decide) (fun a S => ?_)
    refine sAlloc (.agg #[.int .u8 0, .int .i64 0, .int .i64 0]) S (wN rfl) rfl (by kernel_rfl) [.int .u8 0, .int .i64 0, .int .i64 0] rfl rfl (by decide) (fun a b25 w S => ?_)
    refine sStore (p := b25) (off := 0) (T := 41) (vs := [.int .u8 0, .int .i64 0, .int .i64 0]) (v := .agg #[.int .u8 r22.1.System, .int .i64 r22.1.N.Num, .int .i64 r22.1.N.Den]) 0 [.int .u8 r22.1.System, .int .i64 r22.1.N.Num, .int .i64 r22.1.N.Den] S (wN rfl) rfl (by kernel_rfl) (by kernel_rfl) rfl (by kernel_rfl) (by kernel_rfl) rfl (by simp) rfl (fun a w S => ?_)
    refine sMove (.int .i64 r22.2) S (wN rfl) (.inr rfl) (by kernel_rfl) rfl (by decide) (fun a S => ?_)
    refine leafL (leafT (hK21 _ _ ?_))
    refine sSeq (fun K26 hK26 => ?_)
    refine sRegion ?_
    refine sMove (.slice ad1 p2.length cp2) S (wN rfl) (.inl rfl) (by kernel_rfl) rfl (by decide) (fun a S => ?_)
    obtain ⟨r27, hx28, h⟩ := bindSome h
    refine sCall (X := Value) (f := 26) (vs := [.slice ad1 p2.length cp2]) (val := c_raddleref23_Fold_val r27) (B' := fun _ => []) (D' := c_raddleref23_Fold_D r27) [] [eBox b25 41 [.int .u8 r22.1.System, .int .i64 r22.1.N.Num, .int .i64 r22.1.N.Den], eBox b20 41 [.int .u8 r17.1.System, .int .i64 r17.1.N.Num, .int .i64 r17.1.N.Den], eBox b15 41 [.int .u8 r12.1.System, .int .i64 r12.1.N.Num, .int .i64 r12.1.N.Den], eBox b4 41 [.int .u8 p0.System, .int .i64 p0.N.Num, .int .i64 p0.N.Den]] [fRep (rL r_api_Count) (.slice ad1 p2.length cp2) p2] [0, 1, 2, 3] [4] S (wN rfl) rfl callee26 (by kernel_rfl) (by decide) (by kernel_rfl) (by kernel_rfl) (fun E1 w1 S1 => c_raddleref23_Fold E1 w1 p2 (.slice ad1 p2.length cp2) r27 hx28 S1) rfl (by decide) (fun u29 a w S => ?_)
    obtain rfl : u29 = .agg #[.int .u8 r27.1.System, .int .i64 r27.1.N.Num, .int .i64 r27.1.N.Den] := S.mem.know (i := 0) (e := fRep r_api_Count (u29) r27.1) (by kernel_rfl)
    refine sMove (.tuple #[.agg #[.int .u8 r27.1.System, .int .i64 r27.1.N.Num, .int .i64 r27.1.N.Den], .int .i64 r27.2]) S (wN rfl) (.inl rfl) (by kernel_rfl) rfl (by decide) (fun a S => ?_)
    refine sExtract (vs := [.agg #[.int .u8 r27.1.System, .int .i64 r27.1.N.Num, .int .i64 r27.1.N.Den], .int .i64 r27.2]) (.agg #[.int .u8 r27.1.System, .int .i64 r27.1.N.Num, .int .i64 r27.1.N.Den]) S (wN rfl) rfl (by kernel_rfl) rfl rfl (by decide) (fun a S => ?_)
    refine sExtract (vs := [.agg #[.int .u8 r27.1.System, .int .i64 r27.1.N.Num, .int .i64 r27.1.N.Den], .int .i64 r27.2]) (.int .i64 r27.2) S (wN rfl) rfl (by kernel_rfl) rfl rfl (by decide) (fun a S => ?_)
    refine sAlloc (.agg #[.int .u8 0, .int .i64 0, .int .i64 0]) S (wN rfl) rfl (by kernel_rfl) [.int .u8 0, .int .i64 0, .int .i64 0] rfl rfl (by decide) (fun a b30 w S => ?_)
    refine sStore (p := b30) (off := 0) (T := 41) (vs := [.int .u8 0, .int .i64 0, .int .i64 0]) (v := .agg #[.int .u8 r27.1.System, .int .i64 r27.1.N.Num, .int .i64 r27.1.N.Den]) 0 [.int .u8 r27.1.System, .int .i64 r27.1.N.Num, .int .i64 r27.1.N.Den] S (wN rfl) rfl (by kernel_rfl) (by kernel_rfl) rfl (by kernel_rfl) (by kernel_rfl) rfl (by simp) rfl (fun a w S => ?_)
    refine sMove (.int .i64 r27.2) S (wN rfl) (.inr rfl) (by kernel_rfl) rfl (by decide) (fun a S => ?_)
    refine leafL (leafT (hK26 _ _ ?_))
    obtain ⟨t32, h, g33⟩ := bindSome h
    refine sCut (fun a w => ∃ o31, o31 = t32 ∧ St [] E [] w0 57 a w [(6, .bool o31)] [] []) ?_ (fun a w hI => ?_)
    · refine sRegion ?_
      refine sLoadN (p := b15) (off := 0) (T := 41) (vs := [.int .u8 r12.1.System, .int .i64 r12.1.N.Num, .int .i64 r12.1.N.Den]) 3 [.int .u8 r12.1.System, .int .i64 r12.1.N.Num, .int .i64 r12.1.N.Den] S (wN rfl) rfl (by kernel_rfl) (by kernel_rfl) (by kernel_rfl) (by kernel_rfl) rfl rfl (by decide) (fun a S => ?_)
      refine sLoadN (p := b20) (off := 0) (T := 41) (vs := [.int .u8 r17.1.System, .int .i64 r17.1.N.Num, .int .i64 r17.1.N.Den]) 2 [.int .u8 r17.1.System, .int .i64 r17.1.N.Num, .int .i64 r17.1.N.Den] S (wN rfl) rfl (by kernel_rfl) (by kernel_rfl) (by kernel_rfl) (by kernel_rfl) rfl rfl (by decide) (fun a S => ?_)
      refine sBin (.bool ((r12.1.System == r17.1.System) && (((r12.1.N.Num == r17.1.N.Num) && ((r12.1.N.Den == r17.1.N.Den) && true)) && true))) S (wN rfl) rfl (by kernel_rfl) (by kernel_rfl) (bEqV _ _ _ _ #[.int .u8 r12.1.System, .int .i64 r12.1.N.Num, .int .i64 r12.1.N.Den] #[.int .u8 r17.1.System, .int .i64 r17.1.N.Num, .int .i64 r17.1.N.Den] ((r12.1.System == r17.1.System) && (((r12.1.N.Num == r17.1.N.Num) && ((r12.1.N.Den == r17.1.N.Den) && true)) && true)) (by kernel_rfl) (eqlV_of (by kernel_rfl))) rfl (by decide) (fun a S => ?_)
      refine sMove (.bool ((r12.1.System == r17.1.System) && (((r12.1.N.Num == r17.1.N.Num) && ((r12.1.N.Den == r17.1.N.Den) && true)) && true))) S (wN rfl) (.inl rfl) (by kernel_rfl) rfl (by decide) (fun a S => ?_)
      rcases iteSome h with ⟨hc34, h⟩ | ⟨hc34, h⟩
      · refine sMove (.int .i64 r12.2) S (wG (c := ((r12.1.System == r17.1.System) && (((r12.1.N.Num == r17.1.N.Num) && ((r12.1.N.Den == r17.1.N.Den) && true)) && true))) 3 true 42 rfl rfl (by kernel_rfl) hc34) (.inl rfl) (by kernel_rfl) rfl (by decide) (fun a S => ?_)
        refine sMove (.int .i64 r17.2) S (wG (c := ((r12.1.System == r17.1.System) && (((r12.1.N.Num == r17.1.N.Num) && ((r12.1.N.Den == r17.1.N.Den) && true)) && true))) 3 true 42 rfl rfl (by kernel_rfl) hc34) (.inl rfl) (by kernel_rfl) rfl (by decide) (fun a S => ?_)
        refine sBin (.bool (r12.2 == r17.2)) S (wG (c := ((r12.1.System == r17.1.System) && (((r12.1.N.Num == r17.1.N.Num) && ((r12.1.N.Den == r17.1.N.Den) && true)) && true))) 3 true 42 rfl rfl (by kernel_rfl) hc34) rfl (by kernel_rfl) (by kernel_rfl) (bEq _ _ _ _ .i64 r12.2 r17.2) rfl (by decide) (fun a S => ?_)
        refine sPickT (b := ((r12.1.System == r17.1.System) && (((r12.1.N.Num == r17.1.N.Num) && ((r12.1.N.Den == r17.1.N.Den) && true)) && true))) (.bool (r12.2 == r17.2)) S (wN rfl) rfl (by kernel_rfl) hc34 (by kernel_rfl) rfl (by decide) (fun a S => ?_)
        refine sMove (.bool (r12.2 == r17.2)) S (wN rfl) (.inl rfl) (by kernel_rfl) rfl (by decide) (fun a S => ?_)
        rcases iteSome h with ⟨hc35, h⟩ | ⟨hc35, h⟩
        · refine sLoadN (p := b25) (off := 0) (T := 41) (vs := [.int .u8 r22.1.System, .int .i64 r22.1.N.Num, .int .i64 r22.1.N.Den]) 1 [.int .u8 r22.1.System, .int .i64 r22.1.N.Num, .int .i64 r22.1.N.Den] S (wG (c := r12.2 == r17.2) 8 true 47 rfl rfl (by kernel_rfl) hc35) rfl (by kernel_rfl) (by kernel_rfl) (by kernel_rfl) (by kernel_rfl) rfl rfl (by decide) (fun a S => ?_)
          refine sLoadN (p := b30) (off := 0) (T := 41) (vs := [.int .u8 r27.1.System, .int .i64 r27.1.N.Num, .int .i64 r27.1.N.Den]) 0 [.int .u8 r27.1.System, .int .i64 r27.1.N.Num, .int .i64 r27.1.N.Den] S (wG (c := r12.2 == r17.2) 8 true 47 rfl rfl (by kernel_rfl) hc35) rfl (by kernel_rfl) (by kernel_rfl) (by kernel_rfl) (by kernel_rfl) rfl rfl (by decide) (fun a S => ?_)
          refine sBin (.bool ((r22.1.System == r27.1.System) && (((r22.1.N.Num == r27.1.N.Num) && ((r22.1.N.Den == r27.1.N.Den) && true)) && true))) S (wG (c := r12.2 == r17.2) 8 true 47 rfl rfl (by kernel_rfl) hc35) rfl (by kernel_rfl) (by kernel_rfl) (bEqV _ _ _ _ #[.int .u8 r22.1.System, .int .i64 r22.1.N.Num, .int .i64 r22.1.N.Den] #[.int .u8 r27.1.System, .int .i64 r27.1.N.Num, .int .i64 r27.1.N.Den] ((r22.1.System == r27.1.System) && (((r22.1.N.Num == r27.1.N.Num) && ((r22.1.N.Den == r27.1.N.Den) && true)) && true)) (by kernel_rfl) (eqlV_of (by kernel_rfl))) rfl (by decide) (fun a S => ?_)
          refine sPickT (b := r12.2 == r17.2) (.bool ((r22.1.System == r27.1.System) && (((r22.1.N.Num == r27.1.N.Num) && ((r22.1.N.Den == r27.1.N.Den) && true)) && true))) S (wN rfl) rfl (by kernel_rfl) hc35 (by kernel_rfl) rfl (by decide) (fun a S => ?_)
          refine sMove (.bool ((r22.1.System == r27.1.System) && (((r22.1.N.Num == r27.1.N.Num) && ((r22.1.N.Den == r27.1.N.Den) && true)) && true))) S (wN rfl) (.inl rfl) (by kernel_rfl) rfl (by decide) (fun a S => ?_)
          rcases iteSome h with ⟨hc36, h⟩ | ⟨hc36, h⟩
          · refine sMove (.int .i64 r22.2) S (wG (c := ((r22.1.System == r27.1.System) && (((r22.1.N.Num == r27.1.N.Num) && ((r22.1.N.Den == r27.1.N.Den) && true)) && true))) 13 true 52 rfl rfl (by kernel_rfl) hc36) (.inl rfl) (by kernel_rfl) rfl (by decide) (fun a S => ?_)
            refine sMove (.int .i64 r27.2) S (wG (c := ((r22.1.System == r27.1.System) && (((r22.1.N.Num == r27.1.N.Num) && ((r22.1.N.Den == r27.1.N.Den) && true)) && true))) 13 true 52 rfl rfl (by kernel_rfl) hc36) (.inl rfl) (by kernel_rfl) rfl (by decide) (fun a S => ?_)
            refine sBin (.bool (r22.2 == r27.2)) S (wG (c := ((r22.1.System == r27.1.System) && (((r22.1.N.Num == r27.1.N.Num) && ((r22.1.N.Den == r27.1.N.Den) && true)) && true))) 13 true 52 rfl rfl (by kernel_rfl) hc36) rfl (by kernel_rfl) (by kernel_rfl) (bEq _ _ _ _ .i64 r22.2 r27.2) rfl (by decide) (fun a S => ?_)
            refine sPickT (b := ((r22.1.System == r27.1.System) && (((r22.1.N.Num == r27.1.N.Num) && ((r22.1.N.Den == r27.1.N.Den) && true)) && true))) (.bool (r22.2 == r27.2)) S (wN rfl) rfl (by kernel_rfl) hc36 (by kernel_rfl) rfl (by decide) (fun a S => ?_)
            refine sMove (.bool (r22.2 == r27.2)) S (wN rfl) (.inr rfl) (by kernel_rfl) rfl (by decide) (fun a S => ?_)
            exact leafL (leafT (⟨r22.2 == r27.2, Option.some.inj h, S.fix [] [] (by decide) (by kernel_rfl) (by kernel_rfl) (by kernel_rfl)⟩))
          · refine sSkip (c := ((r22.1.System == r27.1.System) && (((r22.1.N.Num == r27.1.N.Num) && ((r22.1.N.Den == r27.1.N.Den) && true)) && true))) 13 true 52 53 S rfl rfl (by kernel_rfl) hc36 rfl (by decide) (fun a S => ?_)
            refine sSkip (c := ((r22.1.System == r27.1.System) && (((r22.1.N.Num == r27.1.N.Num) && ((r22.1.N.Den == r27.1.N.Den) && true)) && true))) 13 true 52 54 S rfl rfl (by kernel_rfl) hc36 rfl (by decide) (fun a S => ?_)
            refine sSkip (c := ((r22.1.System == r27.1.System) && (((r22.1.N.Num == r27.1.N.Num) && ((r22.1.N.Den == r27.1.N.Den) && true)) && true))) 13 true 52 55 S rfl rfl (by kernel_rfl) hc36 rfl (by decide) (fun a S => ?_)
            refine sPickF (b := ((r22.1.System == r27.1.System) && (((r22.1.N.Num == r27.1.N.Num) && ((r22.1.N.Den == r27.1.N.Den) && true)) && true))) (.bool false) S (wN rfl) rfl (by kernel_rfl) hc36 (by kernel_rfl) rfl (by decide) (fun a S => ?_)
            refine sMove (.bool false) S (wN rfl) (.inr rfl) (by kernel_rfl) rfl (by decide) (fun a S => ?_)
            exact leafL (leafT (⟨false, Option.some.inj h, S.fix [] [] (by decide) (by kernel_rfl) (by kernel_rfl) (by kernel_rfl)⟩))
        · refine sSkip (c := r12.2 == r17.2) 8 true 47 48 S rfl rfl (by kernel_rfl) hc35 rfl (by decide) (fun a S => ?_)
          refine sSkip (c := r12.2 == r17.2) 8 true 47 49 S rfl rfl (by kernel_rfl) hc35 rfl (by decide) (fun a S => ?_)
          refine sSkip (c := r12.2 == r17.2) 8 true 47 50 S rfl rfl (by kernel_rfl) hc35 rfl (by decide) (fun a S => ?_)
          refine sPickF (b := r12.2 == r17.2) (.bool false) S (wN rfl) rfl (by kernel_rfl) hc35 (by kernel_rfl) rfl (by decide) (fun a S => ?_)
          refine sMove (.bool false) S (wN rfl) (.inl rfl) (by kernel_rfl) rfl (by decide) (fun a S => ?_)
          refine sSkip (c := false) 13 true 52 53 S rfl rfl (by kernel_rfl) rfl rfl (by decide) (fun a S => ?_)
          refine sSkip (c := false) 13 true 52 54 S rfl rfl (by kernel_rfl) rfl rfl (by decide) (fun a S => ?_)
          refine sSkip (c := false) 13 true 52 55 S rfl rfl (by kernel_rfl) rfl rfl (by decide) (fun a S => ?_)
          refine sPickF (b := false) (.bool false) S (wN rfl) rfl (by kernel_rfl) rfl (by kernel_rfl) rfl (by decide) (fun a S => ?_)
          refine sMove (.bool false) S (wN rfl) (.inr rfl) (by kernel_rfl) rfl (by decide) (fun a S => ?_)
          exact leafL (leafT (⟨false, Option.some.inj h, S.fix [] [] (by decide) (by kernel_rfl) (by kernel_rfl) (by kernel_rfl)⟩))
      · refine sSkip (c := ((r12.1.System == r17.1.System) && (((r12.1.N.Num == r17.1.N.Num) && ((r12.1.N.Den == r17.1.N.Den) && true)) && true))) 3 true 42 43 S rfl rfl (by kernel_rfl) hc34 rfl (by decide) (fun a S => ?_)
        refine sSkip (c := ((r12.1.System == r17.1.System) && (((r12.1.N.Num == r17.1.N.Num) && ((r12.1.N.Den == r17.1.N.Den) && true)) && true))) 3 true 42 44 S rfl rfl (by kernel_rfl) hc34 rfl (by decide) (fun a S => ?_)
        refine sSkip (c := ((r12.1.System == r17.1.System) && (((r12.1.N.Num == r17.1.N.Num) && ((r12.1.N.Den == r17.1.N.Den) && true)) && true))) 3 true 42 45 S rfl rfl (by kernel_rfl) hc34 rfl (by decide) (fun a S => ?_)
        refine sPickF (b := ((r12.1.System == r17.1.System) && (((r12.1.N.Num == r17.1.N.Num) && ((r12.1.N.Den == r17.1.N.Den) && true)) && true))) (.bool false) S (wN rfl) rfl (by kernel_rfl) hc34 (by kernel_rfl) rfl (by decide) (fun a S => ?_)
        refine sMove (.bool false) S (wN rfl) (.inl rfl) (by kernel_rfl) rfl (by decide) (fun a S => ?_)
        refine sSkip (c := false) 8 true 47 48 S rfl rfl (by kernel_rfl) rfl rfl (by decide) (fun a S => ?_)
        refine sSkip (c := false) 8 true 47 49 S rfl rfl (by kernel_rfl) rfl rfl (by decide) (fun a S => ?_)
        refine sSkip (c := false) 8 true 47 50 S rfl rfl (by kernel_rfl) rfl rfl (by decide) (fun a S => ?_)
        refine sPickF (b := false) (.bool false) S (wN rfl) rfl (by kernel_rfl) rfl (by kernel_rfl) rfl (by decide) (fun a S => ?_)
        refine sMove (.bool false) S (wN rfl) (.inl rfl) (by kernel_rfl) rfl (by decide) (fun a S => ?_)
        refine sSkip (c := false) 13 true 52 53 S rfl rfl (by kernel_rfl) rfl rfl (by decide) (fun a S => ?_)
        refine sSkip (c := false) 13 true 52 54 S rfl rfl (by kernel_rfl) rfl rfl (by decide) (fun a S => ?_)
        refine sSkip (c := false) 13 true 52 55 S rfl rfl (by kernel_rfl) rfl rfl (by decide) (fun a S => ?_)
        refine sPickF (b := false) (.bool false) S (wN rfl) rfl (by kernel_rfl) rfl (by kernel_rfl) rfl (by decide) (fun a S => ?_)
        refine sMove (.bool false) S (wN rfl) (.inr rfl) (by kernel_rfl) rfl (by decide) (fun a S => ?_)
        exact leafL (leafT (⟨false, Option.some.inj h, S.fix [] [] (by decide) (by kernel_rfl) (by kernel_rfl) (by kernel_rfl)⟩))
    · obtain ⟨o31, rfl, S⟩ := hI
      have h := g33
      clear g33
      try dsimp only at h
      obtain rfl := Option.some.inj h
      exact wp_ret (sRet (.bool o31) S (rsl1 rfl (rvT (t := 6) (v := .bool o31) S (by kernel_rfl))) ⟨(), rfl, S.mem.sel [] [] (by decide) (by kernel_rfl) (by kernel_rfl)⟩)

end Go.Proofs.Ytdfjcpnflmgdoaa
namespace Go.Proofs.Ytdfjcpnflmgdoaa
open Go.RowKit
set_option linter.unusedVariables false

theorem conv_tailT (t : Int) (X Y : Nat) (hX0 : 0 < X) (hY0 : 0 < Y) (hX : X ≤ 9000000000000000000) (hY : Y ≤ 9000000000000000000) :
    (Option.bind (F_yarn_Make (X : Int) (Y : Int)) fun r57 => if (r57.2 != 0) = true then some ((api_Count.mk 0 (api_Ratio.mk 0 0)), r57.2) else if (r57.1.Num == 0) = true then some ((api_Count.mk 0 (api_Ratio.mk 0 0)), 16) else some ((api_Count.mk t r57.1), 0)) =
      some (if (mk X Y).2 = 0 then ((⟨t, (mk X Y).1⟩ : api_Count), 0) else (⟨0, ⟨0, 0⟩⟩, 16)) := by
  rw [ymake_eq X Y (by omega) (by omega) hY0, Option.bind_some]
  rcases mk_cases X Y hY0 with ⟨a, b, q, e, h1, h2, h3, h4, h5, h6, h7⟩ | e
  · have ha : a ≠ 0 := by rintro rfl; rw [Nat.zero_mul] at h1; omega
    rw [e]
    simp only [bne_self_eq_false, bF (show ¬ (a : Int) = 0 by omega), Bool.false_eq_true, if_false, if_true]
  · rw [e]
    simp only [nT (show ¬ (16 : Int) = 0 by omega), if_true, show ¬ (16 : Int) = 0 by omega, if_false]
theorem refc_tail (t : Int) (X Y : Nat) (hY0 : 0 < Y) {v : api_Ratio × Int} (hv : v = mk X Y) : (if (v.2 != 0) = true then some ((api_Count.mk 0 (api_Ratio.mk 0 0)), v.2) else some ((api_Count.mk t v.1), (0 : Int))) = some (if (mk X Y).2 = 0 then ((⟨t, (mk X Y).1⟩ : api_Count), 0) else (⟨0, ⟨0, 0⟩⟩, 16)) := by
  subst hv
  rcases mk_cases X Y hY0 with ⟨a, b, q, e, _⟩ | e
  · rw [e]; rfl
  · rw [e]; rfl
theorem conv_1_1 {c : api_Count} {x y : Nat} (C : Cn c x y) (hs : c.System = 1) (hc : F_yarn_counted c = some 0) (hr : F_raddleref23_Counted c = some 0) : ∃ z, F_yarn_Convert c 1 = some z ∧ F_raddleref23_Convert c 1 = some z := by
  have x1 := C.x1
  have y1 := C.y1
  have x0 := C.x0
  have y0 := C.y0
  have hN : c.N.Num = (x : Int) := by rw [C.n]
  have hD : c.N.Den = (y : Int) := by rw [C.n]
  have k3 : w64 (1 * (x : Int)) = ((1 * x : Nat) : Int) := wmul (a := 1) (b := x) (by omega)
  have k4 : w64 (1 * (y : Int)) = ((1 * y : Nat) : Int) := wmul (a := 1) (b := y) (by omega)
  refine ⟨if (mk (1 * x) (1 * y)).2 = 0 then ((⟨1, (mk (1 * x) (1 * y)).1⟩ : api_Count), 0) else (⟨0, ⟨0, 0⟩⟩, 16), ?_, ?_⟩
  rotate_left
  · have key : F_raddleref23_converted c 1 = some (mk (1 * x) (1 * y)) := by
      have e : mk (1 * x) (1 * y) = (c.N, 0) := by
        rw [C.n, Nat.one_mul, Nat.one_mul]
        exact mk_low x1 y1 C.g
      rw [e]
      unfold F_raddleref23_converted
      rw [hs]
      rfl
    unfold F_raddleref23_Convert
    simp only [hr, Option.bind_some, bne_self_eq_false, Bool.false_eq_true, if_false, dF (show ¬ (1 : Int) < 1 by omega), dF (show ¬ (4 : Int) < 1 by omega), key]
    exact refc_tail 1 _ _ (by omega) rfl
  · have ht := conv_tailT 1 (1 * x) (1 * y) (by omega) (by omega) (by omega) (by omega)
    have f1 : F_yarn_factors 1 = some (1, 1, true, true) := rfl
    have f2 : F_yarn_factors 1 = some (1, 1, true, true) := rfl
    have k1 : F_yarn_gcd (IntKind.u64.wrap (w64 (1 * 1))) (IntKind.u64.wrap (w64 (1 * 1))) = some 1 := (ygcd_eq 1 1).trans (by rw [show Nat.gcd 1 1 = 1 by decide]; rfl)
    have k2 : quoI (w64 (1 * 1)) (IntKind.i64.wrap 1) = some 1 := rfl
    have k2' : quoI (w64 (1 * 1)) (IntKind.i64.wrap 1) = some 1 := rfl
    unfold F_yarn_Convert
    rw [hc, ← ht, hs]
    simp only [Option.bind_some, bne_self_eq_false, Bool.false_eq_true, if_false, if_true, f1, f2, Bool.not_true, Bool.not_false, hN, hD, k1, k2, k2', show (true != false) = true from rfl, show (false != true) = true from rfl, k3, k4]
theorem conv_1_2 {c : api_Count} {x y : Nat} (C : Cn c x y) (hs : c.System = 1) (hc : F_yarn_counted c = some 0) (hr : F_raddleref23_Counted c = some 0) : ∃ z, F_yarn_Convert c 2 = some z ∧ F_raddleref23_Convert c 2 = some z := by
  have x1 := C.x1
  have y1 := C.y1
  have x0 := C.x0
  have y0 := C.y0
  have hN : c.N.Num = (x : Int) := by rw [C.n]
  have hD : c.N.Den = (y : Int) := by rw [C.n]
  have k3 : w64 (9 * (x : Int)) = ((9 * x : Nat) : Int) := wmul (a := 9) (b := x) (by omega)
  have k4 : w64 (1 * (y : Int)) = ((1 * y : Nat) : Int) := wmul (a := 1) (b := y) (by omega)
  refine ⟨if (mk (9 * x) (1 * y)).2 = 0 then ((⟨2, (mk (9 * x) (1 * y)).1⟩ : api_Count), 0) else (⟨0, ⟨0, 0⟩⟩, 16), ?_, ?_⟩
  rotate_left
  · have key : F_raddleref23_converted c 2 = some (mk (9 * x) (1 * y)) := by
      have hm := rmake_eq (9 * x) (1 * y) (by omega) (by omega) (by omega)
      have k1 : F_raddleref23_common 9 1 = some 1 := (common_eq 9 1).trans (by rw [show Nat.gcd 9 1 = 1 by decide]; rfl)
      have k2 : quoI 9 1 = some 9 := rfl
      have k2' : quoI 1 1 = some 1 := rfl
      unfold F_raddleref23_converted F_raddleref23_over
      rw [hs]
      simp only [show ((1 : Int) == 1) = true from rfl, show ((1 : Int) == 2) = false from rfl, show ((1 : Int) == 3) = false from rfl, show ((1 : Int) == 4) = false from rfl, show ((2 : Int) == 1) = false from rfl, show ((2 : Int) == 2) = true from rfl, show ((2 : Int) == 3) = false from rfl, show ((2 : Int) == 4) = false from rfl, Bool.false_and, Bool.true_and, Bool.and_true, Bool.and_self, Bool.false_eq_true, if_false, if_true, k1, k2, k2', Option.bind_some, hN, hD, k3, k4, hm]
    unfold F_raddleref23_Convert
    simp only [hr, Option.bind_some, bne_self_eq_false, Bool.false_eq_true, if_false, dF (show ¬ (2 : Int) < 1 by omega), dF (show ¬ (4 : Int) < 2 by omega), key]
    exact refc_tail 2 _ _ (by omega) rfl
  · have ht := conv_tailT 2 (9 * x) (1 * y) (by omega) (by omega) (by omega) (by omega)
    have f1 : F_yarn_factors 1 = some (1, 1, true, true) := rfl
    have f2 : F_yarn_factors 2 = some (1, 9, true, true) := rfl
    have k1 : F_yarn_gcd (IntKind.u64.wrap (w64 (1 * 9))) (IntKind.u64.wrap (w64 (1 * 1))) = some 1 := (ygcd_eq 9 1).trans (by rw [show Nat.gcd 9 1 = 1 by decide]; rfl)
    have k2 : quoI (w64 (1 * 9)) (IntKind.i64.wrap 1) = some 9 := rfl
    have k2' : quoI (w64 (1 * 1)) (IntKind.i64.wrap 1) = some 1 := rfl
    unfold F_yarn_Convert
    rw [hc, ← ht, hs]
    simp only [Option.bind_some, bne_self_eq_false, Bool.false_eq_true, if_false, if_true, f1, f2, Bool.not_true, Bool.not_false, hN, hD, k1, k2, k2', show (true != false) = true from rfl, show (false != true) = true from rfl, k3, k4]
theorem conv_1_3 {c : api_Count} {x y : Nat} (C : Cn c x y) (hs : c.System = 1) (hc : F_yarn_counted c = some 0) (hr : F_raddleref23_Counted c = some 0) : ∃ z, F_yarn_Convert c 3 = some z ∧ F_raddleref23_Convert c 3 = some z := by
  have x1 := C.x1
  have y1 := C.y1
  have x0 := C.x0
  have y0 := C.y0
  have hN : c.N.Num = (x : Int) := by rw [C.n]
  have hD : c.N.Den = (y : Int) := by rw [C.n]
  have k3 : w64 (1000 * (y : Int)) = ((1000 * y : Nat) : Int) := wmul (a := 1000) (b := y) (by omega)
  have k4 : w64 (1 * (x : Int)) = ((1 * x : Nat) : Int) := wmul (a := 1) (b := x) (by omega)
  refine ⟨if (mk (1000 * y) (1 * x)).2 = 0 then ((⟨3, (mk (1000 * y) (1 * x)).1⟩ : api_Count), 0) else (⟨0, ⟨0, 0⟩⟩, 16), ?_, ?_⟩
  rotate_left
  · have key : F_raddleref23_converted c 3 = some (mk (1000 * y) (1 * x)) := by
      have hm := rmake_eq (1000 * y) (1 * x) (by omega) (by omega) (by omega)
      have k1 : F_raddleref23_common 1000 1 = some 1 := (common_eq 1000 1).trans (by rw [show Nat.gcd 1000 1 = 1 by decide]; rfl)
      have k2 : quoI 1000 1 = some 1000 := rfl
      have k2' : quoI 1 1 = some 1 := rfl
      unfold F_raddleref23_converted F_raddleref23_over
      rw [hs]
      simp only [show ((1 : Int) == 1) = true from rfl, show ((1 : Int) == 2) = false from rfl, show ((1 : Int) == 3) = false from rfl, show ((1 : Int) == 4) = false from rfl, show ((3 : Int) == 1) = false from rfl, show ((3 : Int) == 2) = false from rfl, show ((3 : Int) == 3) = true from rfl, show ((3 : Int) == 4) = false from rfl, Bool.false_and, Bool.true_and, Bool.and_true, Bool.and_self, Bool.false_eq_true, if_false, if_true, k1, k2, k2', Option.bind_some, hN, hD, k3, k4, hm]
    unfold F_raddleref23_Convert
    simp only [hr, Option.bind_some, bne_self_eq_false, Bool.false_eq_true, if_false, dF (show ¬ (3 : Int) < 1 by omega), dF (show ¬ (4 : Int) < 3 by omega), key]
    exact refc_tail 3 _ _ (by omega) rfl
  · have ht := conv_tailT 3 (1000 * y) (1 * x) (by omega) (by omega) (by omega) (by omega)
    have f1 : F_yarn_factors 1 = some (1, 1, true, true) := rfl
    have f2 : F_yarn_factors 3 = some (1000, 1, false, true) := rfl
    have k1 : F_yarn_gcd (IntKind.u64.wrap (w64 (1000 * 1))) (IntKind.u64.wrap (w64 (1 * 1))) = some 1 := (ygcd_eq 1000 1).trans (by rw [show Nat.gcd 1000 1 = 1 by decide]; rfl)
    have k2 : quoI (w64 (1000 * 1)) (IntKind.i64.wrap 1) = some 1000 := rfl
    have k2' : quoI (w64 (1 * 1)) (IntKind.i64.wrap 1) = some 1 := rfl
    unfold F_yarn_Convert
    rw [hc, ← ht, hs]
    simp only [Option.bind_some, bne_self_eq_false, Bool.false_eq_true, if_false, if_true, f1, f2, Bool.not_true, Bool.not_false, hN, hD, k1, k2, k2', show (true != false) = true from rfl, show (false != true) = true from rfl, k3, k4]
theorem conv_1_4 {c : api_Count} {x y : Nat} (C : Cn c x y) (hs : c.System = 1) (hc : F_yarn_counted c = some 0) (hr : F_raddleref23_Counted c = some 0) : ∃ z, F_yarn_Convert c 4 = some z ∧ F_raddleref23_Convert c 4 = some z := by
  have x1 := C.x1
  have y1 := C.y1
  have x0 := C.x0
  have y0 := C.y0
  have hN : c.N.Num = (x : Int) := by rw [C.n]
  have hD : c.N.Den = (y : Int) := by rw [C.n]
  have k3 : w64 (32399455 * (y : Int)) = ((32399455 * y : Nat) : Int) := wmul (a := 32399455) (b := y) (by omega)
  have k4 : w64 (54864 * (x : Int)) = ((54864 * x : Nat) : Int) := wmul (a := 54864) (b := x) (by omega)
  refine ⟨if (mk (32399455 * y) (54864 * x)).2 = 0 then ((⟨4, (mk (32399455 * y) (54864 * x)).1⟩ : api_Count), 0) else (⟨0, ⟨0, 0⟩⟩, 16), ?_, ?_⟩
  rotate_left
  · have key : F_raddleref23_converted c 4 = some (mk (32399455 * y) (54864 * x)) := by
      have hm := rmake_eq (32399455 * y) (54864 * x) (by omega) (by omega) (by omega)
      have k1 : F_raddleref23_common 226796185 384048 = some 7 := (common_eq 226796185 384048).trans (by rw [show Nat.gcd 226796185 384048 = 7 by decide]; rfl)
      have k2 : quoI 226796185 7 = some 32399455 := rfl
      have k2' : quoI 384048 7 = some 54864 := rfl
      unfold F_raddleref23_converted F_raddleref23_over
      rw [hs]
      simp only [show ((1 : Int) == 1) = true from rfl, show ((1 : Int) == 2) = false from rfl, show ((1 : Int) == 3) = false from rfl, show ((1 : Int) == 4) = false from rfl, show ((4 : Int) == 1) = false from rfl, show ((4 : Int) == 2) = false from rfl, show ((4 : Int) == 3) = false from rfl, show ((4 : Int) == 4) = true from rfl, Bool.false_and, Bool.true_and, Bool.and_true, Bool.and_self, Bool.false_eq_true, if_false, if_true, k1, k2, k2', Option.bind_some, hN, hD, k3, k4, hm]
    unfold F_raddleref23_Convert
    simp only [hr, Option.bind_some, bne_self_eq_false, Bool.false_eq_true, if_false, dF (show ¬ (4 : Int) < 1 by omega), dF (show ¬ (4 : Int) < 4 by omega), key]
    exact refc_tail 4 _ _ (by omega) rfl
  · have ht := conv_tailT 4 (32399455 * y) (54864 * x) (by omega) (by omega) (by omega) (by omega)
    have f1 : F_yarn_factors 1 = some (1, 1, true, true) := rfl
    have f2 : F_yarn_factors 4 = some (226796185, 384048, false, true) := rfl
    have k1 : F_yarn_gcd (IntKind.u64.wrap (w64 (226796185 * 1))) (IntKind.u64.wrap (w64 (384048 * 1))) = some 7 := (ygcd_eq 226796185 384048).trans (by rw [show Nat.gcd 226796185 384048 = 7 by decide]; rfl)
    have k2 : quoI (w64 (226796185 * 1)) (IntKind.i64.wrap 7) = some 32399455 := rfl
    have k2' : quoI (w64 (384048 * 1)) (IntKind.i64.wrap 7) = some 54864 := rfl
    unfold F_yarn_Convert
    rw [hc, ← ht, hs]
    simp only [Option.bind_some, bne_self_eq_false, Bool.false_eq_true, if_false, if_true, f1, f2, Bool.not_true, Bool.not_false, hN, hD, k1, k2, k2', show (true != false) = true from rfl, show (false != true) = true from rfl, k3, k4]
theorem conv_2_1 {c : api_Count} {x y : Nat} (C : Cn c x y) (hs : c.System = 2) (hc : F_yarn_counted c = some 0) (hr : F_raddleref23_Counted c = some 0) : ∃ z, F_yarn_Convert c 1 = some z ∧ F_raddleref23_Convert c 1 = some z := by
  have x1 := C.x1
  have y1 := C.y1
  have x0 := C.x0
  have y0 := C.y0
  have hN : c.N.Num = (x : Int) := by rw [C.n]
  have hD : c.N.Den = (y : Int) := by rw [C.n]
  have k3 : w64 (1 * (x : Int)) = ((1 * x : Nat) : Int) := wmul (a := 1) (b := x) (by omega)
  have k4 : w64 (9 * (y : Int)) = ((9 * y : Nat) : Int) := wmul (a := 9) (b := y) (by omega)
  refine ⟨if (mk (1 * x) (9 * y)).2 = 0 then ((⟨1, (mk (1 * x) (9 * y)).1⟩ : api_Count), 0) else (⟨0, ⟨0, 0⟩⟩, 16), ?_, ?_⟩
  rotate_left
  · have key : F_raddleref23_converted c 1 = some (mk (1 * x) (9 * y)) := by
      have hm := rmake_eq (1 * x) (9 * y) (by omega) (by omega) (by omega)
      have k1 : F_raddleref23_common 1 9 = some 1 := (common_eq 1 9).trans (by rw [show Nat.gcd 1 9 = 1 by decide]; rfl)
      have k2 : quoI 1 1 = some 1 := rfl
      have k2' : quoI 9 1 = some 9 := rfl
      unfold F_raddleref23_converted F_raddleref23_over
      rw [hs]
      simp only [show ((1 : Int) == 1) = true from rfl, show ((1 : Int) == 2) = false from rfl, show ((1 : Int) == 3) = false from rfl, show ((1 : Int) == 4) = false from rfl, show ((2 : Int) == 1) = false from rfl, show ((2 : Int) == 2) = true from rfl, show ((2 : Int) == 3) = false from rfl, show ((2 : Int) == 4) = false from rfl, Bool.false_and, Bool.true_and, Bool.and_true, Bool.and_self, Bool.false_eq_true, if_false, if_true, k1, k2, k2', Option.bind_some, hN, hD, k3, k4, hm]
    unfold F_raddleref23_Convert
    simp only [hr, Option.bind_some, bne_self_eq_false, Bool.false_eq_true, if_false, dF (show ¬ (1 : Int) < 1 by omega), dF (show ¬ (4 : Int) < 1 by omega), key]
    exact refc_tail 1 _ _ (by omega) rfl
  · have ht := conv_tailT 1 (1 * x) (9 * y) (by omega) (by omega) (by omega) (by omega)
    have f1 : F_yarn_factors 2 = some (1, 9, true, true) := rfl
    have f2 : F_yarn_factors 1 = some (1, 1, true, true) := rfl
    have k1 : F_yarn_gcd (IntKind.u64.wrap (w64 (1 * 1))) (IntKind.u64.wrap (w64 (9 * 1))) = some 1 := (ygcd_eq 1 9).trans (by rw [show Nat.gcd 1 9 = 1 by decide]; rfl)
    have k2 : quoI (w64 (1 * 1)) (IntKind.i64.wrap 1) = some 1 := rfl
    have k2' : quoI (w64 (9 * 1)) (IntKind.i64.wrap 1) = some 9 := rfl
    unfold F_yarn_Convert
    rw [hc, ← ht, hs]
    simp only [Option.bind_some, bne_self_eq_false, Bool.false_eq_true, if_false, if_true, f1, f2, Bool.not_true, Bool.not_false, hN, hD, k1, k2, k2', show (true != false) = true from rfl, show (false != true) = true from rfl, k3, k4]
theorem conv_2_2 {c : api_Count} {x y : Nat} (C : Cn c x y) (hs : c.System = 2) (hc : F_yarn_counted c = some 0) (hr : F_raddleref23_Counted c = some 0) : ∃ z, F_yarn_Convert c 2 = some z ∧ F_raddleref23_Convert c 2 = some z := by
  have x1 := C.x1
  have y1 := C.y1
  have x0 := C.x0
  have y0 := C.y0
  have hN : c.N.Num = (x : Int) := by rw [C.n]
  have hD : c.N.Den = (y : Int) := by rw [C.n]
  have k3 : w64 (1 * (x : Int)) = ((1 * x : Nat) : Int) := wmul (a := 1) (b := x) (by omega)
  have k4 : w64 (1 * (y : Int)) = ((1 * y : Nat) : Int) := wmul (a := 1) (b := y) (by omega)
  refine ⟨if (mk (1 * x) (1 * y)).2 = 0 then ((⟨2, (mk (1 * x) (1 * y)).1⟩ : api_Count), 0) else (⟨0, ⟨0, 0⟩⟩, 16), ?_, ?_⟩
  rotate_left
  · have key : F_raddleref23_converted c 2 = some (mk (1 * x) (1 * y)) := by
      have e : mk (1 * x) (1 * y) = (c.N, 0) := by
        rw [C.n, Nat.one_mul, Nat.one_mul]
        exact mk_low x1 y1 C.g
      rw [e]
      unfold F_raddleref23_converted
      rw [hs]
      rfl
    unfold F_raddleref23_Convert
    simp only [hr, Option.bind_some, bne_self_eq_false, Bool.false_eq_true, if_false, dF (show ¬ (2 : Int) < 1 by omega), dF (show ¬ (4 : Int) < 2 by omega), key]
    exact refc_tail 2 _ _ (by omega) rfl
  · have ht := conv_tailT 2 (1 * x) (1 * y) (by omega) (by omega) (by omega) (by omega)
    have f1 : F_yarn_factors 2 = some (1, 9, true, true) := rfl
    have f2 : F_yarn_factors 2 = some (1, 9, true, true) := rfl
    have k1 : F_yarn_gcd (IntKind.u64.wrap (w64 (1 * 9))) (IntKind.u64.wrap (w64 (9 * 1))) = some 9 := (ygcd_eq 9 9).trans (by rw [show Nat.gcd 9 9 = 9 by decide]; rfl)
    have k2 : quoI (w64 (1 * 9)) (IntKind.i64.wrap 9) = some 1 := rfl
    have k2' : quoI (w64 (9 * 1)) (IntKind.i64.wrap 9) = some 1 := rfl
    unfold F_yarn_Convert
    rw [hc, ← ht, hs]
    simp only [Option.bind_some, bne_self_eq_false, Bool.false_eq_true, if_false, if_true, f1, f2, Bool.not_true, Bool.not_false, hN, hD, k1, k2, k2', show (true != false) = true from rfl, show (false != true) = true from rfl, k3, k4]
theorem conv_2_3 {c : api_Count} {x y : Nat} (C : Cn c x y) (hs : c.System = 2) (hc : F_yarn_counted c = some 0) (hr : F_raddleref23_Counted c = some 0) : ∃ z, F_yarn_Convert c 3 = some z ∧ F_raddleref23_Convert c 3 = some z := by
  have x1 := C.x1
  have y1 := C.y1
  have x0 := C.x0
  have y0 := C.y0
  have hN : c.N.Num = (x : Int) := by rw [C.n]
  have hD : c.N.Den = (y : Int) := by rw [C.n]
  have k3 : w64 (9000 * (y : Int)) = ((9000 * y : Nat) : Int) := wmul (a := 9000) (b := y) (by omega)
  have k4 : w64 (1 * (x : Int)) = ((1 * x : Nat) : Int) := wmul (a := 1) (b := x) (by omega)
  refine ⟨if (mk (9000 * y) (1 * x)).2 = 0 then ((⟨3, (mk (9000 * y) (1 * x)).1⟩ : api_Count), 0) else (⟨0, ⟨0, 0⟩⟩, 16), ?_, ?_⟩
  rotate_left
  · have key : F_raddleref23_converted c 3 = some (mk (9000 * y) (1 * x)) := by
      have hm := rmake_eq (9000 * y) (1 * x) (by omega) (by omega) (by omega)
      have k1 : F_raddleref23_common 9000 1 = some 1 := (common_eq 9000 1).trans (by rw [show Nat.gcd 9000 1 = 1 by decide]; rfl)
      have k2 : quoI 9000 1 = some 9000 := rfl
      have k2' : quoI 1 1 = some 1 := rfl
      unfold F_raddleref23_converted F_raddleref23_over
      rw [hs]
      simp only [show ((2 : Int) == 1) = false from rfl, show ((2 : Int) == 2) = true from rfl, show ((2 : Int) == 3) = false from rfl, show ((2 : Int) == 4) = false from rfl, show ((3 : Int) == 1) = false from rfl, show ((3 : Int) == 2) = false from rfl, show ((3 : Int) == 3) = true from rfl, show ((3 : Int) == 4) = false from rfl, Bool.false_and, Bool.true_and, Bool.and_true, Bool.and_self, Bool.false_eq_true, if_false, if_true, k1, k2, k2', Option.bind_some, hN, hD, k3, k4, hm]
    unfold F_raddleref23_Convert
    simp only [hr, Option.bind_some, bne_self_eq_false, Bool.false_eq_true, if_false, dF (show ¬ (3 : Int) < 1 by omega), dF (show ¬ (4 : Int) < 3 by omega), key]
    exact refc_tail 3 _ _ (by omega) rfl
  · have ht := conv_tailT 3 (9000 * y) (1 * x) (by omega) (by omega) (by omega) (by omega)
    have f1 : F_yarn_factors 2 = some (1, 9, true, true) := rfl
    have f2 : F_yarn_factors 3 = some (1000, 1, false, true) := rfl
    have k1 : F_yarn_gcd (IntKind.u64.wrap (w64 (1000 * 9))) (IntKind.u64.wrap (w64 (1 * 1))) = some 1 := (ygcd_eq 9000 1).trans (by rw [show Nat.gcd 9000 1 = 1 by decide]; rfl)
    have k2 : quoI (w64 (1000 * 9)) (IntKind.i64.wrap 1) = some 9000 := rfl
    have k2' : quoI (w64 (1 * 1)) (IntKind.i64.wrap 1) = some 1 := rfl
    unfold F_yarn_Convert
    rw [hc, ← ht, hs]
    simp only [Option.bind_some, bne_self_eq_false, Bool.false_eq_true, if_false, if_true, f1, f2, Bool.not_true, Bool.not_false, hN, hD, k1, k2, k2', show (true != false) = true from rfl, show (false != true) = true from rfl, k3, k4]
theorem conv_2_4 {c : api_Count} {x y : Nat} (C : Cn c x y) (hs : c.System = 2) (hc : F_yarn_counted c = some 0) (hr : F_raddleref23_Counted c = some 0) : ∃ z, F_yarn_Convert c 4 = some z ∧ F_raddleref23_Convert c 4 = some z := by
  have x1 := C.x1
  have y1 := C.y1
  have x0 := C.x0
  have y0 := C.y0
  have hN : c.N.Num = (x : Int) := by rw [C.n]
  have hD : c.N.Den = (y : Int) := by rw [C.n]
  have k3 : w64 (32399455 * (y : Int)) = ((32399455 * y : Nat) : Int) := wmul (a := 32399455) (b := y) (by omega)
  have k4 : w64 (6096 * (x : Int)) = ((6096 * x : Nat) : Int) := wmul (a := 6096) (b := x) (by omega)
  refine ⟨if (mk (32399455 * y) (6096 * x)).2 = 0 then ((⟨4, (mk (32399455 * y) (6096 * x)).1⟩ : api_Count), 0) else (⟨0, ⟨0, 0⟩⟩, 16), ?_, ?_⟩
  rotate_left
  · have key : F_raddleref23_converted c 4 = some (mk (32399455 * y) (6096 * x)) := by
      have hm := rmake_eq (32399455 * y) (6096 * x) (by omega) (by omega) (by omega)
      have k1 : F_raddleref23_common 2041165665 384048 = some 63 := (common_eq 2041165665 384048).trans (by rw [show Nat.gcd 2041165665 384048 = 63 by decide]; rfl)
      have k2 : quoI 2041165665 63 = some 32399455 := rfl
      have k2' : quoI 384048 63 = some 6096 := rfl
      unfold F_raddleref23_converted F_raddleref23_over
      rw [hs]
      simp only [show ((2 : Int) == 1) = false from rfl, show ((2 : Int) == 2) = true from rfl, show ((2 : Int) == 3) = false from rfl, show ((2 : Int) == 4) = false from rfl, show ((4 : Int) == 1) = false from rfl, show ((4 : Int) == 2) = false from rfl, show ((4 : Int) == 3) = false from rfl, show ((4 : Int) == 4) = true from rfl, Bool.false_and, Bool.true_and, Bool.and_true, Bool.and_self, Bool.false_eq_true, if_false, if_true, k1, k2, k2', Option.bind_some, hN, hD, k3, k4, hm]
    unfold F_raddleref23_Convert
    simp only [hr, Option.bind_some, bne_self_eq_false, Bool.false_eq_true, if_false, dF (show ¬ (4 : Int) < 1 by omega), dF (show ¬ (4 : Int) < 4 by omega), key]
    exact refc_tail 4 _ _ (by omega) rfl
  · have ht := conv_tailT 4 (32399455 * y) (6096 * x) (by omega) (by omega) (by omega) (by omega)
    have f1 : F_yarn_factors 2 = some (1, 9, true, true) := rfl
    have f2 : F_yarn_factors 4 = some (226796185, 384048, false, true) := rfl
    have k1 : F_yarn_gcd (IntKind.u64.wrap (w64 (226796185 * 9))) (IntKind.u64.wrap (w64 (384048 * 1))) = some 63 := (ygcd_eq 2041165665 384048).trans (by rw [show Nat.gcd 2041165665 384048 = 63 by decide]; rfl)
    have k2 : quoI (w64 (226796185 * 9)) (IntKind.i64.wrap 63) = some 32399455 := rfl
    have k2' : quoI (w64 (384048 * 1)) (IntKind.i64.wrap 63) = some 6096 := rfl
    unfold F_yarn_Convert
    rw [hc, ← ht, hs]
    simp only [Option.bind_some, bne_self_eq_false, Bool.false_eq_true, if_false, if_true, f1, f2, Bool.not_true, Bool.not_false, hN, hD, k1, k2, k2', show (true != false) = true from rfl, show (false != true) = true from rfl, k3, k4]
theorem conv_3_1 {c : api_Count} {x y : Nat} (C : Cn c x y) (hs : c.System = 3) (hc : F_yarn_counted c = some 0) (hr : F_raddleref23_Counted c = some 0) : ∃ z, F_yarn_Convert c 1 = some z ∧ F_raddleref23_Convert c 1 = some z := by
  have x1 := C.x1
  have y1 := C.y1
  have x0 := C.x0
  have y0 := C.y0
  have hN : c.N.Num = (x : Int) := by rw [C.n]
  have hD : c.N.Den = (y : Int) := by rw [C.n]
  have k3 : w64 (1000 * (y : Int)) = ((1000 * y : Nat) : Int) := wmul (a := 1000) (b := y) (by omega)
  have k4 : w64 (1 * (x : Int)) = ((1 * x : Nat) : Int) := wmul (a := 1) (b := x) (by omega)
  refine ⟨if (mk (1000 * y) (1 * x)).2 = 0 then ((⟨1, (mk (1000 * y) (1 * x)).1⟩ : api_Count), 0) else (⟨0, ⟨0, 0⟩⟩, 16), ?_, ?_⟩
  rotate_left
  · have key : F_raddleref23_converted c 1 = some (mk (1000 * y) (1 * x)) := by
      have hm := rmake_eq (1000 * y) (1 * x) (by omega) (by omega) (by omega)
      have k1 : F_raddleref23_common 1000 1 = some 1 := (common_eq 1000 1).trans (by rw [show Nat.gcd 1000 1 = 1 by decide]; rfl)
      have k2 : quoI 1000 1 = some 1000 := rfl
      have k2' : quoI 1 1 = some 1 := rfl
      unfold F_raddleref23_converted F_raddleref23_over
      rw [hs]
      simp only [show ((1 : Int) == 1) = true from rfl, show ((1 : Int) == 2) = false from rfl, show ((1 : Int) == 3) = false from rfl, show ((1 : Int) == 4) = false from rfl, show ((3 : Int) == 1) = false from rfl, show ((3 : Int) == 2) = false from rfl, show ((3 : Int) == 3) = true from rfl, show ((3 : Int) == 4) = false from rfl, Bool.false_and, Bool.true_and, Bool.and_true, Bool.and_self, Bool.false_eq_true, if_false, if_true, k1, k2, k2', Option.bind_some, hN, hD, k3, k4, hm]
    unfold F_raddleref23_Convert
    simp only [hr, Option.bind_some, bne_self_eq_false, Bool.false_eq_true, if_false, dF (show ¬ (1 : Int) < 1 by omega), dF (show ¬ (4 : Int) < 1 by omega), key]
    exact refc_tail 1 _ _ (by omega) rfl
  · have ht := conv_tailT 1 (1000 * y) (1 * x) (by omega) (by omega) (by omega) (by omega)
    have f1 : F_yarn_factors 3 = some (1000, 1, false, true) := rfl
    have f2 : F_yarn_factors 1 = some (1, 1, true, true) := rfl
    have k1 : F_yarn_gcd (IntKind.u64.wrap (w64 (1000 * 1))) (IntKind.u64.wrap (w64 (1 * 1))) = some 1 := (ygcd_eq 1000 1).trans (by rw [show Nat.gcd 1000 1 = 1 by decide]; rfl)
    have k2 : quoI (w64 (1000 * 1)) (IntKind.i64.wrap 1) = some 1000 := rfl
    have k2' : quoI (w64 (1 * 1)) (IntKind.i64.wrap 1) = some 1 := rfl
    unfold F_yarn_Convert
    rw [hc, ← ht, hs]
    simp only [Option.bind_some, bne_self_eq_false, Bool.false_eq_true, if_false, if_true, f1, f2, Bool.not_true, Bool.not_false, hN, hD, k1, k2, k2', show (true != false) = true from rfl, show (false != true) = true from rfl, k3, k4]
theorem conv_3_2 {c : api_Count} {x y : Nat} (C : Cn c x y) (hs : c.System = 3) (hc : F_yarn_counted c = some 0) (hr : F_raddleref23_Counted c = some 0) : ∃ z, F_yarn_Convert c 2 = some z ∧ F_raddleref23_Convert c 2 = some z := by
  have x1 := C.x1
  have y1 := C.y1
  have x0 := C.x0
  have y0 := C.y0
  have hN : c.N.Num = (x : Int) := by rw [C.n]
  have hD : c.N.Den = (y : Int) := by rw [C.n]
  have k3 : w64 (9000 * (y : Int)) = ((9000 * y : Nat) : Int) := wmul (a := 9000) (b := y) (by omega)
  have k4 : w64 (1 * (x : Int)) = ((1 * x : Nat) : Int) := wmul (a := 1) (b := x) (by omega)
  refine ⟨if (mk (9000 * y) (1 * x)).2 = 0 then ((⟨2, (mk (9000 * y) (1 * x)).1⟩ : api_Count), 0) else (⟨0, ⟨0, 0⟩⟩, 16), ?_, ?_⟩
  rotate_left
  · have key : F_raddleref23_converted c 2 = some (mk (9000 * y) (1 * x)) := by
      have hm := rmake_eq (9000 * y) (1 * x) (by omega) (by omega) (by omega)
      have k1 : F_raddleref23_common 9000 1 = some 1 := (common_eq 9000 1).trans (by rw [show Nat.gcd 9000 1 = 1 by decide]; rfl)
      have k2 : quoI 9000 1 = some 9000 := rfl
      have k2' : quoI 1 1 = some 1 := rfl
      unfold F_raddleref23_converted F_raddleref23_over
      rw [hs]
      simp only [show ((2 : Int) == 1) = false from rfl, show ((2 : Int) == 2) = true from rfl, show ((2 : Int) == 3) = false from rfl, show ((2 : Int) == 4) = false from rfl, show ((3 : Int) == 1) = false from rfl, show ((3 : Int) == 2) = false from rfl, show ((3 : Int) == 3) = true from rfl, show ((3 : Int) == 4) = false from rfl, Bool.false_and, Bool.true_and, Bool.and_true, Bool.and_self, Bool.false_eq_true, if_false, if_true, k1, k2, k2', Option.bind_some, hN, hD, k3, k4, hm]
    unfold F_raddleref23_Convert
    simp only [hr, Option.bind_some, bne_self_eq_false, Bool.false_eq_true, if_false, dF (show ¬ (2 : Int) < 1 by omega), dF (show ¬ (4 : Int) < 2 by omega), key]
    exact refc_tail 2 _ _ (by omega) rfl
  · have ht := conv_tailT 2 (9000 * y) (1 * x) (by omega) (by omega) (by omega) (by omega)
    have f1 : F_yarn_factors 3 = some (1000, 1, false, true) := rfl
    have f2 : F_yarn_factors 2 = some (1, 9, true, true) := rfl
    have k1 : F_yarn_gcd (IntKind.u64.wrap (w64 (1000 * 9))) (IntKind.u64.wrap (w64 (1 * 1))) = some 1 := (ygcd_eq 9000 1).trans (by rw [show Nat.gcd 9000 1 = 1 by decide]; rfl)
    have k2 : quoI (w64 (1000 * 9)) (IntKind.i64.wrap 1) = some 9000 := rfl
    have k2' : quoI (w64 (1 * 1)) (IntKind.i64.wrap 1) = some 1 := rfl
    unfold F_yarn_Convert
    rw [hc, ← ht, hs]
    simp only [Option.bind_some, bne_self_eq_false, Bool.false_eq_true, if_false, if_true, f1, f2, Bool.not_true, Bool.not_false, hN, hD, k1, k2, k2', show (true != false) = true from rfl, show (false != true) = true from rfl, k3, k4]
theorem conv_3_3 {c : api_Count} {x y : Nat} (C : Cn c x y) (hs : c.System = 3) (hc : F_yarn_counted c = some 0) (hr : F_raddleref23_Counted c = some 0) : ∃ z, F_yarn_Convert c 3 = some z ∧ F_raddleref23_Convert c 3 = some z := by
  have x1 := C.x1
  have y1 := C.y1
  have x0 := C.x0
  have y0 := C.y0
  have hN : c.N.Num = (x : Int) := by rw [C.n]
  have hD : c.N.Den = (y : Int) := by rw [C.n]
  have k3 : w64 (1 * (x : Int)) = ((1 * x : Nat) : Int) := wmul (a := 1) (b := x) (by omega)
  have k4 : w64 (1 * (y : Int)) = ((1 * y : Nat) : Int) := wmul (a := 1) (b := y) (by omega)
  refine ⟨if (mk (1 * x) (1 * y)).2 = 0 then ((⟨3, (mk (1 * x) (1 * y)).1⟩ : api_Count), 0) else (⟨0, ⟨0, 0⟩⟩, 16), ?_, ?_⟩
  rotate_left
  · have key : F_raddleref23_converted c 3 = some (mk (1 * x) (1 * y)) := by
      have e : mk (1 * x) (1 * y) = (c.N, 0) := by
        rw [C.n, Nat.one_mul, Nat.one_mul]
        exact mk_low x1 y1 C.g
      rw [e]
      unfold F_raddleref23_converted
      rw [hs]
      rfl
    unfold F_raddleref23_Convert
    simp only [hr, Option.bind_some, bne_self_eq_false, Bool.false_eq_true, if_false, dF (show ¬ (3 : Int) < 1 by omega), dF (show ¬ (4 : Int) < 3 by omega), key]
    exact refc_tail 3 _ _ (by omega) rfl
  · have ht := conv_tailT 3 (1 * x) (1 * y) (by omega) (by omega) (by omega) (by omega)
    have f1 : F_yarn_factors 3 = some (1000, 1, false, true) := rfl
    have f2 : F_yarn_factors 3 = some (1000, 1, false, true) := rfl
    have k1 : F_yarn_gcd (IntKind.u64.wrap (w64 (1 * 1000))) (IntKind.u64.wrap (w64 (1000 * 1))) = some 1000 := (ygcd_eq 1000 1000).trans (by rw [show Nat.gcd 1000 1000 = 1000 by decide]; rfl)
    have k2 : quoI (w64 (1 * 1000)) (IntKind.i64.wrap 1000) = some 1 := rfl
    have k2' : quoI (w64 (1000 * 1)) (IntKind.i64.wrap 1000) = some 1 := rfl
    unfold F_yarn_Convert
    rw [hc, ← ht, hs]
    simp only [Option.bind_some, bne_self_eq_false, Bool.false_eq_true, if_false, if_true, f1, f2, Bool.not_true, Bool.not_false, hN, hD, k1, k2, k2', show (true != false) = true from rfl, show (false != true) = true from rfl, k3, k4]
theorem conv_3_4 {c : api_Count} {x y : Nat} (C : Cn c x y) (hs : c.System = 3) (hc : F_yarn_counted c = some 0) (hr : F_raddleref23_Counted c = some 0) : ∃ z, F_yarn_Convert c 4 = some z ∧ F_raddleref23_Convert c 4 = some z := by
  have x1 := C.x1
  have y1 := C.y1
  have x0 := C.x0
  have y0 := C.y0
  have hN : c.N.Num = (x : Int) := by rw [C.n]
  have hD : c.N.Den = (y : Int) := by rw [C.n]
  have k3 : w64 (6479891 * (x : Int)) = ((6479891 * x : Nat) : Int) := wmul (a := 6479891) (b := x) (by omega)
  have k4 : w64 (10972800 * (y : Int)) = ((10972800 * y : Nat) : Int) := wmul (a := 10972800) (b := y) (by omega)
  refine ⟨if (mk (6479891 * x) (10972800 * y)).2 = 0 then ((⟨4, (mk (6479891 * x) (10972800 * y)).1⟩ : api_Count), 0) else (⟨0, ⟨0, 0⟩⟩, 16), ?_, ?_⟩
  rotate_left
  · have key : F_raddleref23_converted c 4 = some (mk (6479891 * x) (10972800 * y)) := by
      have hm := rmake_eq (6479891 * x) (10972800 * y) (by omega) (by omega) (by omega)
      have k1 : F_raddleref23_common 226796185 384048000 = some 35 := (common_eq 226796185 384048000).trans (by rw [show Nat.gcd 226796185 384048000 = 35 by decide]; rfl)
      have k2 : quoI 226796185 35 = some 6479891 := rfl
      have k2' : quoI 384048000 35 = some 10972800 := rfl
      unfold F_raddleref23_converted F_raddleref23_over
      rw [hs]
      simp only [show ((3 : Int) == 1) = false from rfl, show ((3 : Int) == 2) = false from rfl, show ((3 : Int) == 3) = true from rfl, show ((3 : Int) == 4) = false from rfl, show ((4 : Int) == 1) = false from rfl, show ((4 : Int) == 2) = false from rfl, show ((4 : Int) == 3) = false from rfl, show ((4 : Int) == 4) = true from rfl, Bool.false_and, Bool.true_and, Bool.and_true, Bool.and_self, Bool.false_eq_true, if_false, if_true, k1, k2, k2', Option.bind_some, hN, hD, k3, k4, hm]
    unfold F_raddleref23_Convert
    simp only [hr, Option.bind_some, bne_self_eq_false, Bool.false_eq_true, if_false, dF (show ¬ (4 : Int) < 1 by omega), dF (show ¬ (4 : Int) < 4 by omega), key]
    exact refc_tail 4 _ _ (by omega) rfl
  · have ht := conv_tailT 4 (6479891 * x) (10972800 * y) (by omega) (by omega) (by omega) (by omega)
    have f1 : F_yarn_factors 3 = some (1000, 1, false, true) := rfl
    have f2 : F_yarn_factors 4 = some (226796185, 384048, false, true) := rfl
    have k1 : F_yarn_gcd (IntKind.u64.wrap (w64 (1 * 226796185))) (IntKind.u64.wrap (w64 (1000 * 384048))) = some 35 := (ygcd_eq 226796185 384048000).trans (by rw [show Nat.gcd 226796185 384048000 = 35 by decide]; rfl)
    have k2 : quoI (w64 (1 * 226796185)) (IntKind.i64.wrap 35) = some 6479891 := rfl
    have k2' : quoI (w64 (1000 * 384048)) (IntKind.i64.wrap 35) = some 10972800 := rfl
    unfold F_yarn_Convert
    rw [hc, ← ht, hs]
    simp only [Option.bind_some, bne_self_eq_false, Bool.false_eq_true, if_false, if_true, f1, f2, Bool.not_true, Bool.not_false, hN, hD, k1, k2, k2', show (true != false) = true from rfl, show (false != true) = true from rfl, k3, k4]
theorem conv_4_1 {c : api_Count} {x y : Nat} (C : Cn c x y) (hs : c.System = 4) (hc : F_yarn_counted c = some 0) (hr : F_raddleref23_Counted c = some 0) : ∃ z, F_yarn_Convert c 1 = some z ∧ F_raddleref23_Convert c 1 = some z := by
  have x1 := C.x1
  have y1 := C.y1
  have x0 := C.x0
  have y0 := C.y0
  have hN : c.N.Num = (x : Int) := by rw [C.n]
  have hD : c.N.Den = (y : Int) := by rw [C.n]
  have k3 : w64 (32399455 * (y : Int)) = ((32399455 * y : Nat) : Int) := wmul (a := 32399455) (b := y) (by omega)
  have k4 : w64 (54864 * (x : Int)) = ((54864 * x : Nat) : Int) := wmul (a := 54864) (b := x) (by omega)
  refine ⟨if (mk (32399455 * y) (54864 * x)).2 = 0 then ((⟨1, (mk (32399455 * y) (54864 * x)).1⟩ : api_Count), 0) else (⟨0, ⟨0, 0⟩⟩, 16), ?_, ?_⟩
  rotate_left
  · have key : F_raddleref23_converted c 1 = some (mk (32399455 * y) (54864 * x)) := by
      have hm := rmake_eq (32399455 * y) (54864 * x) (by omega) (by omega) (by omega)
      have k1 : F_raddleref23_common 226796185 384048 = some 7 := (common_eq 226796185 384048).trans (by rw [show Nat.gcd 226796185 384048 = 7 by decide]; rfl)
      have k2 : quoI 226796185 7 = some 32399455 := rfl
      have k2' : quoI 384048 7 = some 54864 := rfl
      unfold F_raddleref23_converted F_raddleref23_over
      rw [hs]
      simp only [show ((1 : Int) == 1) = true from rfl, show ((1 : Int) == 2) = false from rfl, show ((1 : Int) == 3) = false from rfl, show ((1 : Int) == 4) = false from rfl, show ((4 : Int) == 1) = false from rfl, show ((4 : Int) == 2) = false from rfl, show ((4 : Int) == 3) = false from rfl, show ((4 : Int) == 4) = true from rfl, Bool.false_and, Bool.true_and, Bool.and_true, Bool.and_self, Bool.false_eq_true, if_false, if_true, k1, k2, k2', Option.bind_some, hN, hD, k3, k4, hm]
    unfold F_raddleref23_Convert
    simp only [hr, Option.bind_some, bne_self_eq_false, Bool.false_eq_true, if_false, dF (show ¬ (1 : Int) < 1 by omega), dF (show ¬ (4 : Int) < 1 by omega), key]
    exact refc_tail 1 _ _ (by omega) rfl
  · have ht := conv_tailT 1 (32399455 * y) (54864 * x) (by omega) (by omega) (by omega) (by omega)
    have f1 : F_yarn_factors 4 = some (226796185, 384048, false, true) := rfl
    have f2 : F_yarn_factors 1 = some (1, 1, true, true) := rfl
    have k1 : F_yarn_gcd (IntKind.u64.wrap (w64 (226796185 * 1))) (IntKind.u64.wrap (w64 (384048 * 1))) = some 7 := (ygcd_eq 226796185 384048).trans (by rw [show Nat.gcd 226796185 384048 = 7 by decide]; rfl)
    have k2 : quoI (w64 (226796185 * 1)) (IntKind.i64.wrap 7) = some 32399455 := rfl
    have k2' : quoI (w64 (384048 * 1)) (IntKind.i64.wrap 7) = some 54864 := rfl
    unfold F_yarn_Convert
    rw [hc, ← ht, hs]
    simp only [Option.bind_some, bne_self_eq_false, Bool.false_eq_true, if_false, if_true, f1, f2, Bool.not_true, Bool.not_false, hN, hD, k1, k2, k2', show (true != false) = true from rfl, show (false != true) = true from rfl, k3, k4]
theorem conv_4_2 {c : api_Count} {x y : Nat} (C : Cn c x y) (hs : c.System = 4) (hc : F_yarn_counted c = some 0) (hr : F_raddleref23_Counted c = some 0) : ∃ z, F_yarn_Convert c 2 = some z ∧ F_raddleref23_Convert c 2 = some z := by
  have x1 := C.x1
  have y1 := C.y1
  have x0 := C.x0
  have y0 := C.y0
  have hN : c.N.Num = (x : Int) := by rw [C.n]
  have hD : c.N.Den = (y : Int) := by rw [C.n]
  have k3 : w64 (32399455 * (y : Int)) = ((32399455 * y : Nat) : Int) := wmul (a := 32399455) (b := y) (by omega)
  have k4 : w64 (6096 * (x : Int)) = ((6096 * x : Nat) : Int) := wmul (a := 6096) (b := x) (by omega)
  refine ⟨if (mk (32399455 * y) (6096 * x)).2 = 0 then ((⟨2, (mk (32399455 * y) (6096 * x)).1⟩ : api_Count), 0) else (⟨0, ⟨0, 0⟩⟩, 16), ?_, ?_⟩
  rotate_left
  · have key : F_raddleref23_converted c 2 = some (mk (32399455 * y) (6096 * x)) := by
      have hm := rmake_eq (32399455 * y) (6096 * x) (by omega) (by omega) (by omega)
      have k1 : F_raddleref23_common 2041165665 384048 = some 63 := (common_eq 2041165665 384048).trans (by rw [show Nat.gcd 2041165665 384048 = 63 by decide]; rfl)
      have k2 : quoI 2041165665 63 = some 32399455 := rfl
      have k2' : quoI 384048 63 = some 6096 := rfl
      unfold F_raddleref23_converted F_raddleref23_over
      rw [hs]
      simp only [show ((2 : Int) == 1) = false from rfl, show ((2 : Int) == 2) = true from rfl, show ((2 : Int) == 3) = false from rfl, show ((2 : Int) == 4) = false from rfl, show ((4 : Int) == 1) = false from rfl, show ((4 : Int) == 2) = false from rfl, show ((4 : Int) == 3) = false from rfl, show ((4 : Int) == 4) = true from rfl, Bool.false_and, Bool.true_and, Bool.and_true, Bool.and_self, Bool.false_eq_true, if_false, if_true, k1, k2, k2', Option.bind_some, hN, hD, k3, k4, hm]
    unfold F_raddleref23_Convert
    simp only [hr, Option.bind_some, bne_self_eq_false, Bool.false_eq_true, if_false, dF (show ¬ (2 : Int) < 1 by omega), dF (show ¬ (4 : Int) < 2 by omega), key]
    exact refc_tail 2 _ _ (by omega) rfl
  · have ht := conv_tailT 2 (32399455 * y) (6096 * x) (by omega) (by omega) (by omega) (by omega)
    have f1 : F_yarn_factors 4 = some (226796185, 384048, false, true) := rfl
    have f2 : F_yarn_factors 2 = some (1, 9, true, true) := rfl
    have k1 : F_yarn_gcd (IntKind.u64.wrap (w64 (226796185 * 9))) (IntKind.u64.wrap (w64 (384048 * 1))) = some 63 := (ygcd_eq 2041165665 384048).trans (by rw [show Nat.gcd 2041165665 384048 = 63 by decide]; rfl)
    have k2 : quoI (w64 (226796185 * 9)) (IntKind.i64.wrap 63) = some 32399455 := rfl
    have k2' : quoI (w64 (384048 * 1)) (IntKind.i64.wrap 63) = some 6096 := rfl
    unfold F_yarn_Convert
    rw [hc, ← ht, hs]
    simp only [Option.bind_some, bne_self_eq_false, Bool.false_eq_true, if_false, if_true, f1, f2, Bool.not_true, Bool.not_false, hN, hD, k1, k2, k2', show (true != false) = true from rfl, show (false != true) = true from rfl, k3, k4]
theorem conv_4_3 {c : api_Count} {x y : Nat} (C : Cn c x y) (hs : c.System = 4) (hc : F_yarn_counted c = some 0) (hr : F_raddleref23_Counted c = some 0) : ∃ z, F_yarn_Convert c 3 = some z ∧ F_raddleref23_Convert c 3 = some z := by
  have x1 := C.x1
  have y1 := C.y1
  have x0 := C.x0
  have y0 := C.y0
  have hN : c.N.Num = (x : Int) := by rw [C.n]
  have hD : c.N.Den = (y : Int) := by rw [C.n]
  have k3 : w64 (10972800 * (x : Int)) = ((10972800 * x : Nat) : Int) := wmul (a := 10972800) (b := x) (by omega)
  have k4 : w64 (6479891 * (y : Int)) = ((6479891 * y : Nat) : Int) := wmul (a := 6479891) (b := y) (by omega)
  refine ⟨if (mk (10972800 * x) (6479891 * y)).2 = 0 then ((⟨3, (mk (10972800 * x) (6479891 * y)).1⟩ : api_Count), 0) else (⟨0, ⟨0, 0⟩⟩, 16), ?_, ?_⟩
  rotate_left
  · have key : F_raddleref23_converted c 3 = some (mk (10972800 * x) (6479891 * y)) := by
      have hm := rmake_eq (10972800 * x) (6479891 * y) (by omega) (by omega) (by omega)
      have k1 : F_raddleref23_common 384048000 226796185 = some 35 := (common_eq 384048000 226796185).trans (by rw [show Nat.gcd 384048000 226796185 = 35 by decide]; rfl)
      have k2 : quoI 384048000 35 = some 10972800 := rfl
      have k2' : quoI 226796185 35 = some 6479891 := rfl
      unfold F_raddleref23_converted F_raddleref23_over
      rw [hs]
      simp only [show ((3 : Int) == 1) = false from rfl, show ((3 : Int) == 2) = false from rfl, show ((3 : Int) == 3) = true from rfl, show ((3 : Int) == 4) = false from rfl, show ((4 : Int) == 1) = false from rfl, show ((4 : Int) == 2) = false from rfl, show ((4 : Int) == 3) = false from rfl, show ((4 : Int) == 4) = true from rfl, Bool.false_and, Bool.true_and, Bool.and_true, Bool.and_self, Bool.false_eq_true, if_false, if_true, k1, k2, k2', Option.bind_some, hN, hD, k3, k4, hm]
    unfold F_raddleref23_Convert
    simp only [hr, Option.bind_some, bne_self_eq_false, Bool.false_eq_true, if_false, dF (show ¬ (3 : Int) < 1 by omega), dF (show ¬ (4 : Int) < 3 by omega), key]
    exact refc_tail 3 _ _ (by omega) rfl
  · have ht := conv_tailT 3 (10972800 * x) (6479891 * y) (by omega) (by omega) (by omega) (by omega)
    have f1 : F_yarn_factors 4 = some (226796185, 384048, false, true) := rfl
    have f2 : F_yarn_factors 3 = some (1000, 1, false, true) := rfl
    have k1 : F_yarn_gcd (IntKind.u64.wrap (w64 (384048 * 1000))) (IntKind.u64.wrap (w64 (226796185 * 1))) = some 35 := (ygcd_eq 384048000 226796185).trans (by rw [show Nat.gcd 384048000 226796185 = 35 by decide]; rfl)
    have k2 : quoI (w64 (384048 * 1000)) (IntKind.i64.wrap 35) = some 10972800 := rfl
    have k2' : quoI (w64 (226796185 * 1)) (IntKind.i64.wrap 35) = some 6479891 := rfl
    unfold F_yarn_Convert
    rw [hc, ← ht, hs]
    simp only [Option.bind_some, bne_self_eq_false, Bool.false_eq_true, if_false, if_true, f1, f2, Bool.not_true, Bool.not_false, hN, hD, k1, k2, k2', show (true != false) = true from rfl, show (false != true) = true from rfl, k3, k4]
theorem conv_4_4 {c : api_Count} {x y : Nat} (C : Cn c x y) (hs : c.System = 4) (hc : F_yarn_counted c = some 0) (hr : F_raddleref23_Counted c = some 0) : ∃ z, F_yarn_Convert c 4 = some z ∧ F_raddleref23_Convert c 4 = some z := by
  have x1 := C.x1
  have y1 := C.y1
  have x0 := C.x0
  have y0 := C.y0
  have hN : c.N.Num = (x : Int) := by rw [C.n]
  have hD : c.N.Den = (y : Int) := by rw [C.n]
  have k3 : w64 (1 * (x : Int)) = ((1 * x : Nat) : Int) := wmul (a := 1) (b := x) (by omega)
  have k4 : w64 (1 * (y : Int)) = ((1 * y : Nat) : Int) := wmul (a := 1) (b := y) (by omega)
  refine ⟨if (mk (1 * x) (1 * y)).2 = 0 then ((⟨4, (mk (1 * x) (1 * y)).1⟩ : api_Count), 0) else (⟨0, ⟨0, 0⟩⟩, 16), ?_, ?_⟩
  rotate_left
  · have key : F_raddleref23_converted c 4 = some (mk (1 * x) (1 * y)) := by
      have e : mk (1 * x) (1 * y) = (c.N, 0) := by
        rw [C.n, Nat.one_mul, Nat.one_mul]
        exact mk_low x1 y1 C.g
      rw [e]
      unfold F_raddleref23_converted
      rw [hs]
      rfl
    unfold F_raddleref23_Convert
    simp only [hr, Option.bind_some, bne_self_eq_false, Bool.false_eq_true, if_false, dF (show ¬ (4 : Int) < 1 by omega), dF (show ¬ (4 : Int) < 4 by omega), key]
    exact refc_tail 4 _ _ (by omega) rfl
  · have ht := conv_tailT 4 (1 * x) (1 * y) (by omega) (by omega) (by omega) (by omega)
    have f1 : F_yarn_factors 4 = some (226796185, 384048, false, true) := rfl
    have f2 : F_yarn_factors 4 = some (226796185, 384048, false, true) := rfl
    have k1 : F_yarn_gcd (IntKind.u64.wrap (w64 (384048 * 226796185))) (IntKind.u64.wrap (w64 (226796185 * 384048))) = some 87100621256880 := (ygcd_eq 87100621256880 87100621256880).trans (by rw [show Nat.gcd 87100621256880 87100621256880 = 87100621256880 by decide]; rfl)
    have k2 : quoI (w64 (384048 * 226796185)) (IntKind.i64.wrap 87100621256880) = some 1 := rfl
    have k2' : quoI (w64 (226796185 * 384048)) (IntKind.i64.wrap 87100621256880) = some 1 := rfl
    unfold F_yarn_Convert
    rw [hc, ← ht, hs]
    simp only [Option.bind_some, bne_self_eq_false, Bool.false_eq_true, if_false, if_true, f1, f2, Bool.not_true, Bool.not_false, hN, hD, k1, k2, k2', show (true != false) = true from rfl, show (false != true) = true from rfl, k3, k4]
theorem convert_eq (c : api_Count) (wc : wf_api_Count c) (t : Int) : ∃ z, F_yarn_Convert c t = some z ∧ F_raddleref23_Convert c t = some z := by
  obtain ⟨e, c1, c2, c3, c4⟩ := counted_eq c wc
  rcases c3 with rfl | rfl
  case inr =>
    unfold F_yarn_Convert F_raddleref23_Convert
    simp only [c1, c2, Option.bind_some, nT (show ¬ (8 : Int) = 0 by omega), if_true]
    exact ⟨_, rfl, rfl⟩
  obtain ⟨x, y, C⟩ := c4 rfl
  by_cases ht : 1 ≤ t ∧ t ≤ 4
  case neg =>
    have hf : ∃ p q g, F_yarn_factors c.System = some (p, q, g, true) := by
      unfold F_yarn_factors
      rcases sys_cases C.s0 C.s1 with h | h | h | h <;> rw [h]
      · exact ⟨_, _, _, rfl⟩
      · exact ⟨_, _, _, rfl⟩
      · exact ⟨_, _, _, rfl⟩
      · exact ⟨_, _, _, rfl⟩
    obtain ⟨p, q, g, hf⟩ := hf
    have hg : F_yarn_factors t = some (0, 0, false, false) := by
      unfold F_yarn_factors
      simp only [bF (show ¬ t = 1 by omega), bF (show ¬ t = 2 by omega), bF (show ¬ t = 3 by omega), bF (show ¬ t = 4 by omega), Bool.false_eq_true, if_false]
    refine ⟨(⟨0, ⟨0, 0⟩⟩, 2), ?_, ?_⟩
    · unfold F_yarn_Convert
      simp only [c1, hf, hg, Option.bind_some, bne_self_eq_false, Bool.false_eq_true, if_false, Bool.not_false, if_true]
    · unfold F_raddleref23_Convert
      simp only [c2, Option.bind_some, bne_self_eq_false, Bool.false_eq_true, if_false]
      by_cases h : t < 1
      · simp only [dT h, if_true, Option.bind_some]
      · simp only [dF h, dT (show 4 < t by omega), Bool.false_eq_true, if_true, if_false, Option.bind_some]
  rcases sys_cases C.s0 C.s1 with h | h | h | h <;> rcases sys_cases ht.1 ht.2 with h' | h' | h' | h' <;> subst h'
  · exact conv_1_1 C h c1 c2
  · exact conv_1_2 C h c1 c2
  · exact conv_1_3 C h c1 c2
  · exact conv_1_4 C h c1 c2
  · exact conv_2_1 C h c1 c2
  · exact conv_2_2 C h c1 c2
  · exact conv_2_3 C h c1 c2
  · exact conv_2_4 C h c1 c2
  · exact conv_3_1 C h c1 c2
  · exact conv_3_2 C h c1 c2
  · exact conv_3_3 C h c1 c2
  · exact conv_3_4 C h c1 c2
  · exact conv_4_1 C h c1 c2
  · exact conv_4_2 C h c1 c2
  · exact conv_4_3 C h c1 c2
  · exact conv_4_4 C h c1 c2
theorem tex_eq (c : api_Count) (wc : wf_api_Count c) : ∃ z : api_Count × Int, F_yarn_Convert c 1 = some z ∧ F_raddleref23_Convert c 1 = some z ∧ bd z.1.N := by
  obtain ⟨e, c1, c2, c3, c4⟩ := counted_eq c wc
  rcases c3 with rfl | rfl
  case inr =>
    unfold F_yarn_Convert F_raddleref23_Convert
    simp only [c1, c2, Option.bind_some, nT (show ¬ (8 : Int) = 0 by omega), if_true]
    exact ⟨_, rfl, rfl, by unfold bd; simp⟩
  obtain ⟨x, y, C⟩ := c4 rfl
  refine ⟨_, yconv_eq C c1, rconv_eq C c2, ?_⟩
  rcases tx_cases (s := c.System) C.x0 C.x1 C.y0 C.y1 with ⟨a, b, e, a0, a1, b0, b1, _⟩ | e
  · rw [e]
    unfold bd
    dsimp only
    omega
  · rw [e]
    unfold bd
    simp
/-- two loops whose bodies answer alike -/
theorem loop_two {σ τ : Type} {B B' : Int × σ → Option ((Int × σ) ⊕ τ)} (n : Nat) (I : Nat → σ → Prop) {s0 : σ} (h0 : I 0 s0)
    (step : ∀ k s, k < n → I k s → (∃ s', B ((k : Int), s) = some (.inl (((k + 1 : Nat) : Int), s')) ∧ B' ((k : Int), s) = some (.inl (((k + 1 : Nat) : Int), s')) ∧ I (k + 1) s') ∨ (∃ t, B ((k : Int), s) = some (.inr t) ∧ B' ((k : Int), s) = some (.inr t)))
    (last : ∀ s, I n s → ∃ t, B ((n : Int), s) = some (.inr t) ∧ B' ((n : Int), s) = some (.inr t)) : ∃ t, whileO B (0, s0) = some t ∧ whileO B' (0, s0) = some t := by
  refine whileO_inv (fun s => ∃ k : Nat, k ≤ n ∧ s.1 = (k : Int) ∧ I k s.2 ∧ whileO B' (0, s0) = whileO B' s) (fun s => ((n : Int) - s.1).toNat) _ ⟨0, Nat.zero_le _, rfl, h0, rfl⟩ ?_
  rintro ⟨i, s⟩ ⟨k, hk, rfl, hI, he⟩
  by_cases hlt : k < n
  · rcases step k s hlt hI with ⟨s', h1, h2, h3⟩ | ⟨t, h1, h2⟩
    · exact .inl ⟨_, h1, ⟨k + 1, hlt, rfl, h3, by rw [he]; exact whileO_step h2⟩, by simp; omega⟩
    · exact .inr ⟨t, h1, by rw [he]; exact whileO_done h2⟩
  · obtain rfl : k = n := by omega
    obtain ⟨t, h1, h2⟩ := last s hI
    exact .inr ⟨t, h1, by rw [he]; exact whileO_done h2⟩
theorem fold_eq (l : List api_Count) (wl : Wl wf_api_Count l) : ∃ z, F_yarn_Fold l = some z ∧ F_raddleref23_Fold l = some z := by
  unfold F_yarn_Fold F_raddleref23_Fold F_raddleref23_Of
  by_cases l0 : l.length = 0
  · simp only [bT (show (l.length : Int) = 0 by omega), if_true]
    exact ⟨_, rfl, rfl⟩
  by_cases l1 : 40 < l.length
  · simp only [bF (show ¬ (l.length : Int) = 0 by omega), dT (show (40 : Int) < (l.length : Int) by omega), Bool.false_eq_true, if_true, if_false]
    exact ⟨_, rfl, rfl⟩
  have key : ∃ t, whileO (yarn_Fold_l1 l) (0, 0, 1) = some t ∧ whileO (raddleref23_Fold_l1 l) (0, 0, 1) = some t := by
    refine loop_two l.length (fun _ s => bd ⟨s.1, s.2⟩) (by unfold bd; simp) ?_ ?_
    · rintro k ⟨a, b⟩ hk hI
      obtain ⟨z, z1, z2, z3⟩ := tex_eq l[k] (wl.2 _ (List.getElem_mem hk))
      obtain ⟨r, r1, r2, r3⟩ := add_eq hI z3
      dsimp only at r1 r2
      by_cases hz : z.2 = 0
      · by_cases hr : r.2 = 0
        · refine .inl ⟨(r.1.Num, r.1.Den), ?_, ?_, r3⟩
          · unfold yarn_Fold_l1
            simp only [dT (show (k : Int) < (l.length : Int) by omega), if_true, idxO_nat hk, z1, Option.bind_some, nF hz, Bool.false_eq_true, if_false, r1, nF hr, w64_succ (show k < 9223372036854775807 by omega)]
          · unfold raddleref23_Fold_l1
            simp only [dT (show (k : Int) < (l.length : Int) by omega), if_true, idxO_nat hk, z2, Option.bind_some, nF hz, Bool.false_eq_true, if_false, r2, nF hr, w64_succ (show k < 9223372036854775807 by omega)]
        · refine .inr ⟨.inl ((api_Count.mk 0 (api_Ratio.mk 0 0)), r.2), ?_, ?_⟩
          · unfold yarn_Fold_l1
            simp only [dT (show (k : Int) < (l.length : Int) by omega), if_true, idxO_nat hk, z1, Option.bind_some, nF hz, Bool.false_eq_true, if_false, r1, nT hr]
          · unfold raddleref23_Fold_l1
            simp only [dT (show (k : Int) < (l.length : Int) by omega), if_true, idxO_nat hk, z2, Option.bind_some, nF hz, Bool.false_eq_true, if_false, r2, nT hr]
      · refine .inr ⟨.inl ((api_Count.mk 0 (api_Ratio.mk 0 0)), z.2), ?_, ?_⟩
        · unfold yarn_Fold_l1
          simp only [dT (show (k : Int) < (l.length : Int) by omega), if_true, idxO_nat hk, z1, Option.bind_some, nT hz]
        · unfold raddleref23_Fold_l1
          simp only [dT (show (k : Int) < (l.length : Int) by omega), if_true, idxO_nat hk, z2, Option.bind_some, nT hz]
    · rintro ⟨a, b⟩ _
      refine ⟨.inr (a, b), ?_, ?_⟩
      · unfold yarn_Fold_l1
        simp
      · unfold raddleref23_Fold_l1
        simp
  obtain ⟨t, t1, t2⟩ := key
  simp only [bF (show ¬ (l.length : Int) = 0 by omega), dF (show ¬ (40 : Int) < (l.length : Int) by omega), Bool.false_eq_true, if_false, Option.bind_some, t1, t2]
  rcases t with t | t
  · exact ⟨_, rfl, rfl⟩
  · exact ⟨_, rfl, rfl⟩
theorem law_YarnCounts (c : api_Count) (t : Int) (l : List api_Count) (wc : wf_api_Count c) (wt : InK .u8 t) (wl : Wl wf_api_Count l) : F_raddlelaw23_YarnCounts c t l = some true := by
  unfold F_raddlelaw23_YarnCounts F_raddleref23_Great
  by_cases h : 50 < l.length
  · simp only [dT (show (50 : Int) < (l.length : Int) by omega), Option.bind_some, if_true]
  obtain ⟨z, z1, z2⟩ := convert_eq c wc t
  obtain ⟨y, y1, y2⟩ := fold_eq l wl
  simp only [dF (show ¬ (50 : Int) < (l.length : Int) by omega), Option.bind_some, Bool.false_eq_true, if_false, z1, z2, y1, y2, beq_self_eq_true, Bool.and_self, if_true]

end Go.Proofs.Ytdfjcpnflmgdoaa
namespace Go.Proofs.Ytdfjcpnflmgdoaa
open Go.RowKit
set_option linter.unusedVariables false

namespace frameYarnCounts
open Go.ChangeShapes Go.WideShapes Go.ChangeAt Go.Joins
theorem own : ownKnob Try.prog.godebug = none := by kernel_rfl
theorem laidOut : laidOutB Try.prog = true := by kernel_rfl
set_option maxRecDepth 100000 in
theorem lifted (os : Os) (started : os.Started) (H : Type) (enc : TypeId × Value → H) :
    ReturnsInHanded {} Try.checked os 4 .any (Rows.yarnCountsSpec.pre6 enc Try.prog Try.f4 Rows.yarnCountsRow.domain false) (Rows.yarnCountsSpec.post enc Try.prog Try.f4 false true false false) := by
  refine returnsInHanded_of_change (C := Try.checked) own started (by kernel_rfl) Try.func4
    (ChangeSpec.witness6 (enc := enc) (C := Try.checked) false ⟨#[], #[.agg #[.int .u8 0, .int .i64 0, .int .i64 0], .int .u8 0, .slice none 0 0], []⟩ 8 (by kernel_rfl) (by kernel_rfl) (by kernel_rfl) (by kernel_rfl)) ?_
  intro W base args ds gs before hval0 hW hcnd _
  have hval : ∀ (j : Nat) t v, Try.f4.params[j]? = some t → args[j]? = some v → Value.okWide Try.prog W .any base t v := hval0
  have hW' := hW
  obtain ⟨p, q, hA0, hV, rfl, hfz, hnd⟩ := hW
  have hA : DataW.TrodAll enc Try.prog W 0 (fun _ => true) true Try.f4.params.toList args.toList ds p := hA0
  rw [Try.params4] at hA hval
  obtain ⟨v0, vs0, d0, ds0, p0, q0, hargs, rfl, rfl, h0, r0⟩ := trodAll_cons hA
  obtain ⟨v1, vs1, d1, ds1, p1, q1, rfl, rfl, rfl, h1, r1⟩ := trodAll_cons r0
  obtain ⟨v2, vs2, d2, ds2, p2, q2, rfl, rfl, rfl, h2, r2⟩ := trodAll_cons r1
  obtain ⟨rfl, rfl, rfl⟩ := trodAll_nil r2
  obtain rfl : args = #[v0, v1, v2] := by cases args; simp_all
  obtain ⟨rfl, rfl⟩ := trodVars_none hV
  have k0 := h0
  have lt0 : ∀ x ∈ p0, x.block < W.heap.size := by obtain ⟨m, hm⟩ := k0; exact DataW.trod_lt m _ _ _ hm
  have k1 := h1
  have lt1 : ∀ x ∈ p1, x.block < W.heap.size := by obtain ⟨m, hm⟩ := k1; exact DataW.trod_lt m _ _ _ hm
  have k2 := h2
  have lt2 : ∀ x ∈ p2, x.block < W.heap.size := by obtain ⟨m, hm⟩ := k2; exact DataW.trod_lt m _ _ _ hm
  obtain ⟨x0, rep0, wf0⟩ := top_agg Try.underlying41 aggr_api_Count op_api_Count (hval 0 _ v0 rfl rfl) h0
  obtain ⟨x1, rfl, rfl, rfl, wf1⟩ := open_int Try.underlying5 (hval 1 _ v1 rfl rfl) h1
  obtain ⟨x2, rep2, wf2⟩ := top_slice Try.underlying42 (op_slice (r := r_api_Count) Try.underlying42 (by kernel_rfl) op_api_Count) (hval 2 _ v2 rfl rfl) h2
  clear hA0 hval0
  refine (c_raddlelaw23_YarnCounts (fun _ => False) W x0 v0 x1 x2 v2 true (law_YarnCounts x0 x1 x2 wf0 wf1 wf2) (St0.start (by intro d hd; simp only [List.mem_cons, List.not_mem_nil, or_false] at hd; rcases hd with rfl | rfl; exact rep0; exact rep2))).mono fun e W' hr => ?_
  obtain ⟨_, he, hS⟩ := hr
  have bel := hS.chg.below
  subst he
  exact ⟨_, rfl, _, _, _, [], _, [], hW', trodAll_mk1 (shut_bool Try.underlying4 _), (trodAll_cons_mk (Below.trod laidOut (by kernel_rfl) (of_decide_eq_true (by kernel_rfl)) k0 bel lt0) (trodAll_cons_mk (Below.trod laidOut (by kernel_rfl) (of_decide_eq_true (by kernel_rfl)) k1 bel lt1) (trodAll_cons_mk (Below.trod laidOut (by kernel_rfl) (of_decide_eq_true (by kernel_rfl)) k2 bel lt2) trodAll_mk0))), rfl, bel.frame _, fun h => by cases h⟩
theorem over : Rows.yarnCountsRow.holds Try.pinned (OpenSpec.ofChange Rows.yarnCountsSpec) :=
  OpenClaim.holds_of_wide 4 Try.f4 rfl rfl rfl rfl rfl rfl rfl ⟨rfl, rfl, rfl, rfl, rfl⟩ rfl rfl rfl rfl rfl (by kernel_rfl) Try.func4 (by kernel_rfl)
    (of_decide_eq_true (by kernel_rfl)) (by unfold Func.isWrapper; first | (rw [if_pos (by decide +kernel)]; kernel_rfl) | (rw [if_neg (by decide +kernel)]; exact ⟨rfl, rfl⟩))
    (fun os started H enc _ => lifted os started H enc)
end frameYarnCounts
theorem yarnCounts_holds : Rows.YarnCountsSaid := frameYarnCounts.over

end Go.Proofs.Ytdfjcpnflmgdoaa
