/- Several texts in one: G54s3 G59s0 G54s4 G31 G8 LSS LSX FrSettSame -/
import Derived.WalkKit
import Derived.Maps.AppendAt
import Derived.Deep.AppendLies
import Derived.KernelRfl
import Derived.Laws.OwnMore
import Derived.Great.BuildSlice
import Derived.Orders
import Derived.Laws.StructEq
import Derived.ChangeKeysEq
import Derived.Test.YtjndecalogklhaaProg
import Derived.ProofKit
import Derived.OpenShut
import Derived.ChangeOld
import Derived.Deep.Slices
import Derived.Lib.SmallJoins
import Derived.JoinedOf
import Derived.JoinedAt
import Derived.Below
import Derived.Test.YtjndecalogklhaaRows
import Derived.Test.YtjndecalogklhaaMSettSame6
namespace Go.Proofs.Ytjndecalogklhaa
open Go.RowKit
set_option linter.unusedVariables false

def anc_grid_build_s3_0 : List (List Nat) := [[], [0], [], [], [], [2, 3, 4], [2, 3, 4, 5], [0, 1, 2, 3, 4, 5, 6], [0, 1, 2, 3, 4, 5, 6, 7], [0, 1, 2, 3, 4, 5, 6, 7, 8]]
noncomputable def grid_build_s3_l1 (p0 : Int) (s15 : Int) (p2 : api_Grid) : (Int × List Bool) → Option ((Int × List Bool) ⊕ List Bool) := fun s0 => match s0 with
  | (s35, s36) =>
    if decide (s35 < p0) then
      Option.bind (F_grid_Mirror_1_s0 s35 s15 p2) fun r50 =>
      Option.bind (appO s36 [r50]) fun l54 =>
      some (.inl (w64 (s35 + 1), l54))
    else
      some (.inr s36)
noncomputable def grid_build_s3_l2 (p1 : Int) (p0 : Int) (p2 : api_Grid) : (Int × List Bool) → Option ((Int × List Bool) ⊕ List Bool) := fun s0 => match s0 with
  | (s15, s16) =>
    if decide (s15 < p1) then
      Option.bind (α := List Bool) (
        Option.bind (whileO (grid_build_s3_l1 p0 s15 p2) (0, s16)) fun e42 =>
          some e42) fun o28 =>
      some (.inl (w64 (s15 + 1), o28))
    else
      some (.inr s16)
noncomputable def F_grid_build_s3 (p0 : Int) (p1 : Int) (p2 : api_Grid) : Option api_Grid :=
  Option.bind (capO (w64 (p0 * p1))) fun z6 =>
  Option.bind (α := List Bool) (
    Option.bind (whileO (grid_build_s3_l2 p1 p0 p2) (0, ([] : List Bool))) fun e22 =>
      some e22) fun o9 =>
  some (api_Grid.mk p0 p1 o9)
def c_grid_build_s3_val (r : api_Grid) (x : Value) : Value := x
def c_grid_build_s3_D (r : api_Grid) (x : Value) : List Fact := [fRep r_api_Grid x r]
set_option maxHeartbeats 4000000 in
set_option maxRecDepth 100000 in
theorem c_grid_build_s3 (E : Nat → Prop) (w0 : World) (p0 : Int) (p1 : Int) (p2 : api_Grid) (v2 : Value) (r : api_Grid) (h : F_grid_build_s3 p0 p1 p2 = some r) (S : St0 E [] w0 w0 [] [fPtr r_api_Grid (v2) p2]) :
    Calls Try.prog 54 #[.int .i64 p0, .int .i64 p1, .func (.func 58) #[] #[v2]] w0 (Ret (X := Value) E [] w0 (c_grid_build_s3_val r) (fun _ => []) (c_grid_build_s3_D r)) := by
  unfold F_grid_build_s3 at h
  refine sEnter (args := [.int .i64 p0, .int .i64 p1, .func (.func 58) #[] #[v2]]) 37 Try.func54 rfl rfl (by simp) S (fun a S => ?_)
  refine sSeq (fun K1 hK1 => ?_)
  refine sRegion ?_
  refine sAlloc (.agg #[.int .i64 0, .int .i64 0, .slice none 0 0]) S (wN rfl) rfl (by kernel_rfl) [.int .i64 0, .int .i64 0, .slice none 0 0] rfl rfl (by decide) (fun a b2 w S => ?_)
  refine leafL (leafT (hK1 _ _ ?_))
  refine sSeq (fun K3 hK3 => ?_)
  refine sRegion ?_
  refine sMove (.int .i64 p0) S (wN rfl) (.inl rfl) (by kernel_rfl) rfl (by decide) (fun a S => ?_)
  refine sMove (.int .i64 p1) S (wN rfl) (.inl rfl) (by kernel_rfl) rfl (by decide) (fun a S => ?_)
  refine sMove (.int .i64 p0) S (wN rfl) (.inl rfl) (by kernel_rfl) rfl (by decide) (fun a S => ?_)
  refine sMove (.int .i64 p1) S (wN rfl) (.inl rfl) (by kernel_rfl) rfl (by decide) (fun a S => ?_)
  refine sBin (.int .i64 (w64 (p0 * p1))) S (wN rfl) rfl (by kernel_rfl) (by kernel_rfl) (bMul _ _ _ _ p0 p1) rfl (by decide) (fun a S => ?_)
  obtain ⟨z6, hx7, h⟩ := bindSome h
  refine sMake0 rB (m := w64 (p0 * p1)) (u := z6) (.bool false) 1 S (wN rfl) rfl Try.underlying22 (by kernel_rfl) (by decide) (by kernel_rfl) (by kernel_rfl) hx7 rfl (by decide) (fun a w ad4 cp5 S => ?_)
  refine sBuild [(0, .int .i64 p0), (1, .int .i64 p1), (2, .slice ad4 ([] : List Bool).length cp5)] [.int .i64 p0, .int .i64 p1, .slice ad4 ([] : List Bool).length cp5] S (wN rfl) rfl (by kernel_rfl) (by kernel_rfl) rfl (by decide) (fun a S => ?_)
  refine sAlloc (.agg #[.int .i64 0, .int .i64 0, .slice none 0 0]) S (wN rfl) rfl (by kernel_rfl) [.int .i64 0, .int .i64 0, .slice none 0 0] rfl rfl (by decide) (fun a b8 w S => ?_)
  refine sStore (p := b8) (off := 0) (T := 24) (vs := [.int .i64 0, .int .i64 0, .slice none 0 0]) (v := .agg #[.int .i64 p0, .int .i64 p1, .slice ad4 ([] : List Bool).length cp5]) 0 [.int .i64 p0, .int .i64 p1, .slice ad4 ([] : List Bool).length cp5] S (wN rfl) rfl (by kernel_rfl) (by kernel_rfl) rfl (by kernel_rfl) (by kernel_rfl) rfl (by simp) rfl (fun a w S => ?_)
  refine leafL (leafT (hK3 _ _ ?_))
  obtain ⟨t12, h, g13⟩ := bindSome h
  refine sCut (fun a w => ∃ o9, o9 = t12 ∧ ∃ ad10, ∃ cp11, St E [] w0 37 a w [(6, .pointer (some ⟨b2, 0, none⟩)), (7, .pointer (some ⟨b8, 0, none⟩))] [eBox b2 24 [.int .i64 0, .int .i64 0, .slice none 0 0], eBox b8 24 [.int .i64 p0, .int .i64 p1, .slice ad10 o9.length cp11], eRow rB 4 (.slice ad10 o9.length cp11) o9] []) ?_ (fun a w hI => ?_)
  · refine sSeq (fun K14 hK14 => ?_)
    refine sRegion ?_
    refine sMove (.int .i64 p1) S (wN rfl) (.inl rfl) (by kernel_rfl) rfl (by decide) (fun a S => ?_)
    refine sMove (.int .i64 0) S (wN rfl) (.inl rfl) (by kernel_rfl) rfl (by decide) (fun a S => ?_)
    refine leafL (leafT (hK14 _ _ ?_))
    refine wp_block ?_
    obtain ⟨t21, hl, g20⟩ := bindSome h
    refine sLoop hl (fun s0 a w => match s0 with | (s15, s16) => ∃ ad17, ∃ cp18, St E [] w0 37 a w [(0, .int .i64 p0), (2, .func (.func 58) #[] #[v2]), (6, .pointer (some ⟨b2, 0, none⟩)), (7, .pointer (some ⟨b8, 0, none⟩)), (17, .int .i64 p1), (18, .int .i64 s15)] [eBox b2 24 [.int .i64 0, .int .i64 0, .slice none 0 0], eBox b8 24 [.int .i64 p0, .int .i64 p1, .slice ad17 s16.length cp18], eRow rB 4 (.slice ad17 s16.length cp18) s16] [fPtr r_api_Grid (v2) p2]) ⟨ad4, cp5, S.fix [2, 0, 1] [0] (by decide) (by kernel_rfl) (by kernel_rfl) (by kernel_rfl)⟩ ?_
    clear hl h
    intro s0 a w c0 hI h hu19
    obtain ⟨s15, s16⟩ := s0
    unfold grid_build_s3_l2 at h
    dsimp only at h hI
    obtain ⟨ad17, cp18, S⟩ := hI
    refine sSeq (fun K25 hK25 => ?_)
    refine sRegion ?_
    refine sBin (.bool (decide (s15 < p1))) S (wN rfl) rfl (by kernel_rfl) (by kernel_rfl) (bLt _ _ _ _ .i64 s15 p1) rfl (by decide) (fun a S => ?_)
    refine leafL (leafT (hK25 _ _ ?_))
    refine sSeq (fun K26 hK26 => ?_)
    rcases iteSome h with ⟨hc27, h⟩ | ⟨hc27, h⟩
    · refine sCondT (b := decide (s15 < p1)) S (by kernel_rfl) hc27 ?_
      refine wp_skip (leafT (hK26 _ _ ?_))
      obtain ⟨t31, h, g32⟩ := bindSome h
      refine sCut (fun a w => ∃ o28, o28 = t31 ∧ ∃ ad29, ∃ cp30, St E [] w0 37 a w [(0, .int .i64 p0), (2, .func (.func 58) #[] #[v2]), (6, .pointer (some ⟨b2, 0, none⟩)), (7, .pointer (some ⟨b8, 0, none⟩)), (17, .int .i64 p1), (18, .int .i64 s15)] [eBox b2 24 [.int .i64 0, .int .i64 0, .slice none 0 0], eBox b8 24 [.int .i64 p0, .int .i64 p1, .slice ad29 o28.length cp30], eRow rB 4 (.slice ad29 o28.length cp30) o28] [fPtr r_api_Grid (v2) p2]) ?_ (fun a w hI => ?_)
      · refine wp_block ?_
        refine sSeq (fun K33 hK33 => ?_)
        refine sRegion ?_
        refine sMove (.int .i64 s15) S (wN rfl) (.inl rfl) (by kernel_rfl) rfl (by decide) (fun a S => ?_)
        refine sMove (.int .i64 s15) S (wN rfl) (.inr rfl) (by kernel_rfl) rfl (by decide) (fun a S => ?_)
        refine leafL (leafT (hK33 _ _ ?_))
        refine sSeq (fun K34 hK34 => ?_)
        refine sRegion ?_
        refine sMove (.int .i64 p0) S (wN rfl) (.inl rfl) (by kernel_rfl) rfl (by decide) (fun a S => ?_)
        refine sMove (.int .i64 0) S (wN rfl) (.inl rfl) (by kernel_rfl) rfl (by decide) (fun a S => ?_)
        refine leafL (leafT (hK34 _ _ ?_))
        refine wp_block ?_
        obtain ⟨t41, hl, g40⟩ := bindSome h
        refine sLoop hl (fun s0 a w => match s0 with | (s35, s36) => ∃ ad37, ∃ cp38, St E [] w0 37 a w [(0, .int .i64 p0), (2, .func (.func 58) #[] #[v2]), (6, .pointer (some ⟨b2, 0, none⟩)), (7, .pointer (some ⟨b8, 0, none⟩)), (8, .int .i64 s15), (17, .int .i64 p1), (18, .int .i64 s15), (21, .int .i64 p0), (22, .int .i64 s35)] [eBox b2 24 [.int .i64 0, .int .i64 0, .slice none 0 0], eBox b8 24 [.int .i64 p0, .int .i64 p1, .slice ad37 s36.length cp38], eRow rB 4 (.slice ad37 s36.length cp38) s36] [fPtr r_api_Grid (v2) p2]) ⟨ad17, cp18, S.fix [0, 1, 2] [0] (by decide) (by kernel_rfl) (by kernel_rfl) (by kernel_rfl)⟩ ?_
        clear hl h
        intro s0 a w c0 hI h hu39
        obtain ⟨s35, s36⟩ := s0
        unfold grid_build_s3_l1 at h
        dsimp only at h hI
        obtain ⟨ad37, cp38, S⟩ := hI
        refine sSeq (fun K45 hK45 => ?_)
        refine sRegion ?_
        refine sBin (.bool (decide (s35 < p0))) S (wN rfl) rfl (by kernel_rfl) (by kernel_rfl) (bLt _ _ _ _ .i64 s35 p0) rfl (by decide) (fun a S => ?_)
        refine leafL (leafT (hK45 _ _ ?_))
        refine sSeq (fun K46 hK46 => ?_)
        rcases iteSome h with ⟨hc47, h⟩ | ⟨hc47, h⟩
        · refine sCondT (b := decide (s35 < p0)) S (by kernel_rfl) hc47 ?_
          refine wp_skip (leafT (hK46 _ _ ?_))
          refine sSeq (fun K48 hK48 => ?_)
          refine wp_block ?_
          refine sSeq (fun K49 hK49 => ?_)
          refine sRegion ?_
          refine sMove (.int .i64 s35) S (wN rfl) (.inl rfl) (by kernel_rfl) rfl (by decide) (fun a S => ?_)
          refine sMove (.int .i64 s35) S (wN rfl) (.inr rfl) (by kernel_rfl) rfl (by decide) (fun a S => ?_)
          refine leafL (leafT (hK49 _ _ ?_))
          obtain ⟨r50, hx51, h⟩ := bindSome h
          obtain ⟨l54, hx55, h⟩ := bindSome h
          refine sDraw (nf := [6, 7, 9]) (W := [(0, 25, .pointer (some ⟨b8, 2, none⟩)), (1, 26, .slice ad37 s36.length cp38), (2, 27, .func (.func 58) #[] #[v2]), (3, 28, .int .i64 s35), (4, 29, .int .i64 s15), (5, 30, .bool r50)]) (by kernel_rfl) S ?_
          refine node_by (A := anc_grid_build_s3_0) (nf := [6, 7, 9]) (Y := []) (W := [(0, 25, .pointer (some ⟨b8, 2, none⟩)), (1, 26, .slice ad37 s36.length cp38), (2, 27, .func (.func 58) #[] #[v2]), (3, 28, .int .i64 s35), (4, 29, .int .i64 s15), (5, 30, .bool r50)]) 10 (by kernel_rfl) (by kernel_rfl) (by kernel_rfl) (by kernel_rfl) (by kernel_rfl) [0, 1, 2, 3, 4, 5] (by kernel_rfl) (by decide) (by decide) (aF 0 9 (by decide) ?_ (aF 1 8 (by decide) ?_ (aF 2 7 (by decide) ?_ (aF 3 6 (by decide) ?_ (aF 4 5 (by decide) ?_ (aF 5 4 (by decide) ?_ (aN 6 3 (by decide) ?_ (aB 7 2 6 (by decide) (aE 8 1 6 (by decide) (aB 9 0 6 (by decide) (trivial))))))))))) [] (fun q hq => by cases hq) (fun hY => absurd (hY 6 (by decide)) (by decide))
          · refine fI 25 (.pointer (some ⟨b8, 2, none⟩)) [(7, .pointer (some ⟨b8, 0, none⟩))] 0 [none] rfl rfl (by kernel_rfl) rfl (by kernel_rfl) (by kernel_rfl) fun G a w S => ?_
            refine sField (b := b8) (off := 0) 2 2 S (wN rfl) rfl (by kernel_rfl) (by kernel_rfl) rfl rfl (by decide) (fun a S => ?_)
            exact leafL ⟨rfl, S⟩
          · refine fI 26 (.slice ad37 s36.length cp38) [(25, .pointer (some ⟨b8, 2, none⟩))] 1 [some 0] rfl rfl (by kernel_rfl) rfl (by kernel_rfl) (by kernel_rfl) fun G a w S => ?_
            refine sLoad1 (p := b8) (off := 2) (T := 24) (vs := [.int .i64 p0, .int .i64 p1, .slice ad37 s36.length cp38]) 1 (.slice ad37 s36.length cp38) S (wN rfl) rfl (by kernel_rfl) (by kernel_rfl) (by kernel_rfl) rfl rfl (by decide) (fun a S => ?_)
            exact leafL ⟨rfl, S⟩
          · refine fI 27 (.func (.func 58) #[] #[v2]) [(2, .func (.func 58) #[] #[v2])] 2 [none] rfl rfl (by kernel_rfl) rfl (by kernel_rfl) (by kernel_rfl) fun G a w S => ?_
            refine sMove (.func (.func 58) #[] #[v2]) S (wN rfl) (.inl rfl) (by kernel_rfl) rfl (by decide) (fun a S => ?_)
            exact leafL ⟨rfl, S⟩
          · refine fI 28 (.int .i64 s35) [(9, .int .i64 s35)] 3 [none] rfl rfl (by kernel_rfl) rfl (by kernel_rfl) (by kernel_rfl) fun G a w S => ?_
            refine sMove (.int .i64 s35) S (wN rfl) (.inl rfl) (by kernel_rfl) rfl (by decide) (fun a S => ?_)
            exact leafL ⟨rfl, S⟩
          · refine fI 29 (.int .i64 s15) [(8, .int .i64 s15)] 4 [none] rfl rfl (by kernel_rfl) rfl (by kernel_rfl) (by kernel_rfl) fun G a w S => ?_
            refine sMove (.int .i64 s15) S (wN rfl) (.inl rfl) (by kernel_rfl) rfl (by decide) (fun a S => ?_)
            exact leafL ⟨rfl, S⟩
          · refine fI 30 (.bool r50) [(27, .func (.func 58) #[] #[v2]), (28, .int .i64 s35), (29, .int .i64 s15)] 5 [some 2, some 3, some 4] rfl rfl (by kernel_rfl) rfl (by kernel_rfl) (by kernel_rfl) fun G a w S => ?_
            have S1 := S.mem
            refine sCallVQ (X := Unit) (g := 58) (vs := [.int .i64 s35, .int .i64 s15]) (caps := [v2]) (val := fun _ => .bool r50) S (wN rfl) rfl (by kernel_rfl) callee58 (by kernel_rfl) (S1.quiet [0] (by kernel_rfl)) (fun E1 w1 S1 => c_grid_Mirror_1_s0 E1 w1 s35 s15 p2 v2 r50 hx51 S1) rfl (by decide) (fun _ a w S => ?_)
            exact leafL ⟨rfl, S⟩
          · refine ⟨_, [(30, .bool r50)], rfl, (srcs_of [some 5] rfl (by kernel_rfl) (by kernel_rfl)), fun G a w S => ?_⟩
            refine sLit (r := rB) (T := 4) (xs := [r50]) [(0, .bool r50)] 1 [.bool r50] [.bool r50] (.bool false) 1 S (wN rfl) rfl (by kernel_rfl) Try.underlying22 (by kernel_rfl) (by decide) (by decide) (by kernel_rfl) rfl (fun E1 w1 hE => All.cons rfl (All.nil _ _ _)) rfl rfl (by decide) (fun a w ad58 cp59 S => ?_)
            refine leafL ⟨rfl, _, _, .inl ⟨31, (.slice ad58 [r50].length cp59), [], rfl, S, hz_of (by kernel_rfl), ?_⟩⟩
            refine node_by (A := anc_grid_build_s3_0) (nf := [6, 7, 9]) (Y := [6]) 10 (by kernel_rfl) (by kernel_rfl) (by kernel_rfl) (by kernel_rfl) (by kernel_rfl) [6, 0, 1, 2, 3, 4, 5] (by kernel_rfl) (by decide) (by decide) (aF 0 9 (by decide) ?_ (aF 1 8 (by decide) ?_ (aD 2 7 6 (by decide) (aD 3 6 6 (by decide) (aD 4 5 6 (by decide) (aD 5 4 6 (by decide) (aY 6 3 (by decide) (aN 7 2 (by decide) ?_ (aE 8 1 7 (by decide) (aB 9 0 7 (by decide) (trivial))))))))))) [] (fun q hq => by cases hq) (fun hY => absurd (hY 7 (by decide)) (by decide))
            · refine fI 25 (.pointer (some ⟨b8, 2, none⟩)) [(7, .pointer (some ⟨b8, 0, none⟩))] 1 [none] rfl rfl (by kernel_rfl) rfl (by kernel_rfl) (by kernel_rfl) fun G a w S => ?_
              refine sField (b := b8) (off := 0) 2 2 S (wN rfl) rfl (by kernel_rfl) (by kernel_rfl) rfl rfl (by decide) (fun a S => ?_)
              exact leafL ⟨rfl, S⟩
            · refine fI 26 (.slice ad37 s36.length cp38) [(25, .pointer (some ⟨b8, 2, none⟩))] 2 [some 1] rfl rfl (by kernel_rfl) rfl (by kernel_rfl) (by kernel_rfl) fun G a w S => ?_
              refine sLoad1 (p := b8) (off := 2) (T := 24) (vs := [.int .i64 p0, .int .i64 p1, .slice ad37 s36.length cp38]) 2 (.slice ad37 s36.length cp38) S (wN rfl) rfl (by kernel_rfl) (by kernel_rfl) (by kernel_rfl) rfl rfl (by decide) (fun a S => ?_)
              exact leafL ⟨rfl, S⟩
            · refine ⟨_, [(26, .slice ad37 s36.length cp38), (31, .slice ad58 [r50].length cp59)], rfl, (srcs_of [some 2, some 0] rfl (by kernel_rfl) (by kernel_rfl)), fun G a w S => ?_⟩
              refine sApp (r := rB) (T := 4) (xs := s36) (ys := [r50]) (v := .slice ad37 s36.length cp38) (u := .slice ad58 [r50].length cp59) 3 (.bool false) 1 S (wN rfl) rfl Try.underlying22 (by kernel_rfl) rfl (by decide) (by kernel_rfl) (by kernel_rfl) (by kernel_rfl) (src_R (T := 4) 0 S.mem (by kernel_rfl)) hx55 rfl (by decide) (fun a w ad60 cp61 S => ?_)
              refine leafL ⟨rfl, _, _, .inl ⟨32, (.slice ad60 l54.length cp61), [(8, 33, .pointer (some ⟨b8, 2, none⟩))], rfl, S, hz_of (by kernel_rfl), ?_⟩⟩
              refine node_by (A := anc_grid_build_s3_0) (nf := [6, 7, 9]) (Y := [7, 6]) 10 (by kernel_rfl) (by kernel_rfl) (by kernel_rfl) (by kernel_rfl) (by kernel_rfl) [8, 7, 6, 0, 1, 2, 3, 4, 5] (by kernel_rfl) (by decide) (by decide) (aD 0 9 7 (by decide) (aD 1 8 7 (by decide) (aD 2 7 7 (by decide) (aD 3 6 7 (by decide) (aD 4 5 7 (by decide) (aD 5 4 7 (by decide) (aY 6 3 (by decide) (aY 7 2 (by decide) (aF 8 1 (by decide) ?_ (aN 9 0 (by decide) ?_ (trivial))))))))))) [] (fun q hq => by cases hq) (fun hY => absurd (hY 9 (by decide)) (by decide))
              · refine fI 33 (.pointer (some ⟨b8, 2, none⟩)) [(7, .pointer (some ⟨b8, 0, none⟩))] 0 [none] rfl rfl (by kernel_rfl) rfl (by kernel_rfl) (by kernel_rfl) fun G a w S => ?_
                refine sField (b := b8) (off := 0) 2 2 S (wN rfl) rfl (by kernel_rfl) (by kernel_rfl) rfl rfl (by decide) (fun a S => ?_)
                exact leafL ⟨rfl, S⟩
              · refine ⟨_, [(32, .slice ad60 l54.length cp61), (33, .pointer (some ⟨b8, 2, none⟩))], rfl, (srcs_of [some 1, some 0] rfl (by kernel_rfl) (by kernel_rfl)), fun G a w S => ?_⟩
                refine sStore (p := b8) (off := 2) (T := 24) (vs := [.int .i64 p0, .int .i64 p1, .slice ad37 s36.length cp38]) (v := .slice ad60 l54.length cp61) 3 [.slice ad60 l54.length cp61] S (wN rfl) rfl (by kernel_rfl) (by kernel_rfl) rfl (by kernel_rfl) (by kernel_rfl) rfl (by simp) rfl (fun a w S => ?_)
                refine leafL ⟨rfl, _, _, .inr ⟨[], rfl, S, hz_of (by kernel_rfl), ?_⟩⟩
                refine node_by (A := anc_grid_build_s3_0) (nf := [6, 7, 9]) (Y := [9, 7, 6]) 10 (by kernel_rfl) (by kernel_rfl) (by kernel_rfl) (by kernel_rfl) (by kernel_rfl) [8, 7, 6, 0, 1, 2, 3, 4, 5] (by kernel_rfl) (by decide) (by decide) (aD 0 9 9 (by decide) (aD 1 8 9 (by decide) (aD 2 7 9 (by decide) (aD 3 6 9 (by decide) (aD 4 5 9 (by decide) (aD 5 4 9 (by decide) (aY 6 3 (by decide) (aY 7 2 (by decide) (aD 8 1 9 (by decide) (aY 9 0 (by decide) (trivial))))))))))) [(0, .int .i64 p0), (2, .func (.func 58) #[] #[v2]), (6, .pointer (some ⟨b2, 0, none⟩)), (7, .pointer (some ⟨b8, 0, none⟩)), (8, .int .i64 s15), (17, .int .i64 p1), (18, .int .i64 s15), (21, .int .i64 p0), (22, .int .i64 s35)] (fin_of [none, none, none, none, none, none, none, none, none] rfl (by kernel_rfl) (by kernel_rfl)) (fun _ a w S => ?_)
                · refine leafB (leafT (hK48 _ _ ?_))
                  refine sRegion ?_
                  refine sBin (.int .i64 (w64 (s35 + 1))) S (wN rfl) rfl (by kernel_rfl) (by kernel_rfl) (bAdd _ _ _ _ s35 1) rfl (by decide) (fun a S => ?_)
                  refine sMove (.int .i64 (w64 (s35 + 1))) S (wN rfl) (.inl rfl) (by kernel_rfl) rfl (by decide) (fun a S => ?_)
                  exact leafL (leafT (⟨(w64 (s35 + 1), l54), (Option.some.inj h).symm, ⟨ad60, cp61, S.fix [3, 0, 1] [0] (by decide) (by kernel_rfl) (by kernel_rfl) (by kernel_rfl)⟩⟩))
        · refine sCondF (b := decide (s35 < p0)) S (by kernel_rfl) hc47 ?_
          obtain rfl := Option.some.inj h
          obtain rfl := hu39 _ rfl
          have h := g40
          clear g40
          try dsimp only at h
          exact wp_exit (xThen (xThen (xHit (leafB (leafT (⟨s36, Option.some.inj h, ad37, cp38, S.fix [0, 1, 2] [0] (by decide) (by kernel_rfl) (by kernel_rfl) (by kernel_rfl)⟩))))))
      · obtain ⟨o28, rfl, ad29, cp30, S⟩ := hI
        have h := g32
        clear g32
        try dsimp only at h
        refine sRegion ?_
        refine sBin (.int .i64 (w64 (s15 + 1))) S (wN rfl) rfl (by kernel_rfl) (by kernel_rfl) (bAdd _ _ _ _ s15 1) rfl (by decide) (fun a S => ?_)
        refine sMove (.int .i64 (w64 (s15 + 1))) S (wN rfl) (.inl rfl) (by kernel_rfl) rfl (by decide) (fun a S => ?_)
        exact leafL (leafT (⟨(w64 (s15 + 1), o28), (Option.some.inj h).symm, ⟨ad29, cp30, S.fix [0, 1, 2] [0] (by decide) (by kernel_rfl) (by kernel_rfl) (by kernel_rfl)⟩⟩))
    · refine sCondF (b := decide (s15 < p1)) S (by kernel_rfl) hc27 ?_
      obtain rfl := Option.some.inj h
      obtain rfl := hu19 _ rfl
      have h := g20
      clear g20
      try dsimp only at h
      exact wp_exit (xThen (xThen (xHit (leafT (⟨s16, Option.some.inj h, ad17, cp18, S.fix [0, 1, 2] [] (by decide) (by kernel_rfl) (by kernel_rfl) (by kernel_rfl)⟩)))))
  · obtain ⟨o9, rfl, ad10, cp11, S⟩ := hI
    have h := g13
    clear g13
    try dsimp only at h
    refine sSeq (fun K62 hK62 => ?_)
    refine sRegion ?_
    refine sLoadN (p := b8) (off := 0) (T := 24) (vs := [.int .i64 p0, .int .i64 p1, .slice ad10 o9.length cp11]) 1 [.int .i64 p0, .int .i64 p1, .slice ad10 o9.length cp11] S (wN rfl) rfl (by kernel_rfl) (by kernel_rfl) (by kernel_rfl) (by kernel_rfl) rfl rfl (by decide) (fun a S => ?_)
    refine sStore (p := b2) (off := 0) (T := 24) (vs := [.int .i64 0, .int .i64 0, .slice none 0 0]) (v := .agg #[.int .i64 p0, .int .i64 p1, .slice ad10 o9.length cp11]) 0 [.int .i64 p0, .int .i64 p1, .slice ad10 o9.length cp11] S (wN rfl) rfl (by kernel_rfl) (by kernel_rfl) rfl (by kernel_rfl) (by kernel_rfl) rfl (by simp) rfl (fun a w S => ?_)
    refine leafL (leafT (hK62 _ _ ?_))
    obtain rfl := Option.some.inj h
    have S := S.shutR (r := rB) (T := 4) (v := .slice ad10 o9.length cp11) (xs := o9) 2 (by kernel_rfl)
    have S := S.learn (fRep r_api_Grid (.agg #[.int .i64 p0, .int .i64 p1, .slice ad10 o9.length cp11]) (api_Grid.mk p0 p1 o9)) ⟨_, rfl, S.mem.know (i := 0) (e := fRep (rL rB) (.slice ad10 o9.length cp11) o9) (by kernel_rfl)⟩
    exact wp_ret (sRet (.agg #[.int .i64 p0, .int .i64 p1, .slice ad10 o9.length cp11]) S (rsl1 rfl (rvN (c := 6) (t := 24) (T := 24) (p := b2) 0 [.int .i64 p0, .int .i64 p1, .slice ad10 o9.length cp11] S (by kernel_rfl) (by kernel_rfl) (by kernel_rfl) (by kernel_rfl))) ⟨(.agg #[.int .i64 p0, .int .i64 p1, .slice ad10 o9.length cp11]), rfl, S.mem.sel [] [0] (by decide) (by kernel_rfl) (by kernel_rfl)⟩)

end Go.Proofs.Ytjndecalogklhaa
namespace Go.Proofs.Ytjndecalogklhaa
open Go.RowKit
set_option linter.unusedVariables false

noncomputable def F_grid_Mirror_2_s0 (p0 : Int) (p1 : Int) (p2 : api_Grid) : Option Bool :=
  Option.bind (idxO p2.Bits (w64 ((w64 ((w64 ((w64 (p2.H - 1)) - p1)) * p2.W)) + p0))) fun x14 =>
  some x14
set_option maxHeartbeats 4000000 in
set_option maxRecDepth 100000 in
theorem c_grid_Mirror_2_s0 (E : Nat → Prop) (w0 : World) (p0 : Int) (p1 : Int) (p2 : api_Grid) (v2 : Value) (r : Bool) (h : F_grid_Mirror_2_s0 p0 p1 p2 = some r) (S : St0 E [] w0 w0 [] [fPtr r_api_Grid (v2) p2]) :
    Calls Try.prog 59 #[.int .i64 p0, .int .i64 p1, v2] w0 (Ret (X := Unit) E [] w0 (fun _ => .bool r) (fun _ => []) (fun _ => [])) := by
  unfold F_grid_Mirror_2_s0 at h
  refine sEnter (args := [.int .i64 p0, .int .i64 p1, v2]) 20 Try.func59 rfl rfl (by simp) S (fun a S => ?_)
  refine sSeq (fun K1 hK1 => ?_)
  refine sRegion ?_
  refine sMove (.bool false) S (wN rfl) (.inr rfl) (by kernel_rfl) rfl (by decide) (fun a S => ?_)
  refine leafL (leafT (hK1 _ _ ?_))
  refine sSeq (fun K2 hK2 => ?_)
  refine sRegion ?_
  obtain ⟨q3, hq4, S⟩ := pFld (P := Try.prog) (r := r_api_Grid) (s2 := (rL rB)) (g := (·.Bits)) (q := v2) (z := p2) 24 2 0 2 S (by kernel_rfl) (by kernel_rfl) comp_api_Grid_Bits
  refine sFldV (q := v2) S (wN rfl) rfl (by kernel_rfl) hq4 rfl (by decide) (fun a S => ?_)
  obtain ⟨u5, S⟩ := pLoad (r := (rL rB)) (q := q3) (x := p2.Bits) 0 S (by kernel_rfl)
  obtain ⟨ad6, cp7, _, rfl, _⟩ := S.mem.know (i := 1) (e := fRep (rL rB) (u5) p2.Bits) (by kernel_rfl)
  refine sLoadV1 (vq := q3) 0 (.slice ad6 p2.Bits.length cp7) S (wN rfl) rfl (by kernel_rfl) (by kernel_rfl) (by kernel_rfl) rfl (by decide) (fun a S => ?_)
  obtain ⟨q8, hq9, S⟩ := pFld (P := Try.prog) (r := r_api_Grid) (s2 := (rI .i64)) (g := (·.H)) (q := v2) (z := p2) 24 1 3 1 S (by kernel_rfl) (by kernel_rfl) comp_api_Grid_H
  refine sFldV (q := v2) S (wN rfl) rfl (by kernel_rfl) hq9 rfl (by decide) (fun a S => ?_)
  obtain ⟨u10, S⟩ := pLoad (r := (rI .i64)) (q := q8) (x := p2.H) 0 S (by kernel_rfl)
  obtain rfl : u10 = .int .i64 p2.H := S.mem.know (i := 1) (e := fRep (rI .i64) (u10) p2.H) (by kernel_rfl)
  refine sLoadV1 (vq := q8) 0 (.int .i64 p2.H) S (wN rfl) rfl (by kernel_rfl) (by kernel_rfl) (by kernel_rfl) rfl (by decide) (fun a S => ?_)
  refine sBin (.int .i64 (w64 (p2.H - 1))) S (wN rfl) rfl (by kernel_rfl) (by kernel_rfl) (bSub _ _ _ _ p2.H 1) rfl (by decide) (fun a S => ?_)
  refine sMove (.int .i64 p1) S (wN rfl) (.inl rfl) (by kernel_rfl) rfl (by decide) (fun a S => ?_)
  refine sBin (.int .i64 (w64 ((w64 (p2.H - 1)) - p1))) S (wN rfl) rfl (by kernel_rfl) (by kernel_rfl) (bSub _ _ _ _ (w64 (p2.H - 1)) p1) rfl (by decide) (fun a S => ?_)
  obtain ⟨q11, hq12, S⟩ := pFld (P := Try.prog) (r := r_api_Grid) (s2 := (rI .i64)) (g := (·.W)) (q := v2) (z := p2) 24 0 6 0 S (by kernel_rfl) (by kernel_rfl) comp_api_Grid_W
  refine sFldV (q := v2) S (wN rfl) rfl (by kernel_rfl) hq12 rfl (by decide) (fun a S => ?_)
  obtain ⟨u13, S⟩ := pLoad (r := (rI .i64)) (q := q11) (x := p2.W) 0 S (by kernel_rfl)
  obtain rfl : u13 = .int .i64 p2.W := S.mem.know (i := 1) (e := fRep (rI .i64) (u13) p2.W) (by kernel_rfl)
  refine sLoadV1 (vq := q11) 0 (.int .i64 p2.W) S (wN rfl) rfl (by kernel_rfl) (by kernel_rfl) (by kernel_rfl) rfl (by decide) (fun a S => ?_)
  refine sBin (.int .i64 (w64 ((w64 ((w64 (p2.H - 1)) - p1)) * p2.W))) S (wN rfl) rfl (by kernel_rfl) (by kernel_rfl) (bMul _ _ _ _ (w64 ((w64 (p2.H - 1)) - p1)) p2.W) rfl (by decide) (fun a S => ?_)
  refine sMove (.int .i64 p0) S (wN rfl) (.inl rfl) (by kernel_rfl) rfl (by decide) (fun a S => ?_)
  refine sBin (.int .i64 (w64 ((w64 ((w64 ((w64 (p2.H - 1)) - p1)) * p2.W)) + p0))) S (wN rfl) rfl (by kernel_rfl) (by kernel_rfl) (bAdd _ _ _ _ (w64 ((w64 ((w64 (p2.H - 1)) - p1)) * p2.W)) p0) rfl (by decide) (fun a S => ?_)
  obtain ⟨x14, hx15, h⟩ := bindSome h
  obtain ⟨q16, hq17, S⟩ := pIdx (P := Try.prog) (r := rB) (v := .slice ad6 p2.Bits.length cp7) (xs := p2.Bits) (j := w64 ((w64 ((w64 ((w64 (p2.H - 1)) - p1)) * p2.W)) + p0)) 22 4 7 S Try.underlying22 (by kernel_rfl) (by kernel_rfl) hx15
  refine sIdxV (v := .slice ad6 p2.Bits.length cp7) (k := .i64) (j := w64 ((w64 ((w64 ((w64 (p2.H - 1)) - p1)) * p2.W)) + p0)) S (wN rfl) rfl (by kernel_rfl) (by kernel_rfl) hq17 rfl (by decide) (fun a S => ?_)
  obtain ⟨u18, S⟩ := pLoad (r := rB) (q := q16) (x := x14) 0 S (by kernel_rfl)
  obtain rfl : u18 = .bool x14 := S.mem.know (i := 1) (e := fRep rB (u18) x14) (by kernel_rfl)
  refine sLoadV1 (vq := q16) 0 (.bool x14) S (wN rfl) rfl (by kernel_rfl) (by kernel_rfl) (by kernel_rfl) rfl (by decide) (fun a S => ?_)
  refine sMove (.bool x14) S (wN rfl) (.inr rfl) (by kernel_rfl) rfl (by decide) (fun a S => ?_)
  refine leafL (leafT (hK2 _ _ ?_))
  obtain rfl := Option.some.inj h
  exact wp_ret (sRet (.bool x14) S (rsl1 rfl (rvT (t := 5) (v := .bool x14) S (by kernel_rfl))) ⟨(), rfl, S.mem.sel [] [] (by decide) (by kernel_rfl) (by kernel_rfl)⟩)

end Go.Proofs.Ytjndecalogklhaa
namespace Go.Proofs.Ytjndecalogklhaa
open Go.RowKit
set_option linter.unusedVariables false

def anc_grid_build_s4_0 : List (List Nat) := [[], [0], [], [], [], [2, 3, 4], [2, 3, 4, 5], [0, 1, 2, 3, 4, 5, 6], [0, 1, 2, 3, 4, 5, 6, 7], [0, 1, 2, 3, 4, 5, 6, 7, 8]]
noncomputable def grid_build_s4_l1 (p0 : Int) (s15 : Int) (p2 : api_Grid) : (Int × List Bool) → Option ((Int × List Bool) ⊕ List Bool) := fun s0 => match s0 with
  | (s35, s36) =>
    if decide (s35 < p0) then
      Option.bind (F_grid_Mirror_2_s0 s35 s15 p2) fun r50 =>
      Option.bind (appO s36 [r50]) fun l54 =>
      some (.inl (w64 (s35 + 1), l54))
    else
      some (.inr s36)
noncomputable def grid_build_s4_l2 (p1 : Int) (p0 : Int) (p2 : api_Grid) : (Int × List Bool) → Option ((Int × List Bool) ⊕ List Bool) := fun s0 => match s0 with
  | (s15, s16) =>
    if decide (s15 < p1) then
      Option.bind (α := List Bool) (
        Option.bind (whileO (grid_build_s4_l1 p0 s15 p2) (0, s16)) fun e42 =>
          some e42) fun o28 =>
      some (.inl (w64 (s15 + 1), o28))
    else
      some (.inr s16)
noncomputable def F_grid_build_s4 (p0 : Int) (p1 : Int) (p2 : api_Grid) : Option api_Grid :=
  Option.bind (capO (w64 (p0 * p1))) fun z6 =>
  Option.bind (α := List Bool) (
    Option.bind (whileO (grid_build_s4_l2 p1 p0 p2) (0, ([] : List Bool))) fun e22 =>
      some e22) fun o9 =>
  some (api_Grid.mk p0 p1 o9)
def c_grid_build_s4_val (r : api_Grid) (x : Value) : Value := x
def c_grid_build_s4_D (r : api_Grid) (x : Value) : List Fact := [fRep r_api_Grid x r]
set_option maxHeartbeats 4000000 in
set_option maxRecDepth 100000 in
theorem c_grid_build_s4 (E : Nat → Prop) (w0 : World) (p0 : Int) (p1 : Int) (p2 : api_Grid) (v2 : Value) (r : api_Grid) (h : F_grid_build_s4 p0 p1 p2 = some r) (S : St0 E [] w0 w0 [] [fPtr r_api_Grid (v2) p2]) :
    Calls Try.prog 54 #[.int .i64 p0, .int .i64 p1, .func (.func 59) #[] #[v2]] w0 (Ret (X := Value) E [] w0 (c_grid_build_s4_val r) (fun _ => []) (c_grid_build_s4_D r)) := by
  unfold F_grid_build_s4 at h
  refine sEnter (args := [.int .i64 p0, .int .i64 p1, .func (.func 59) #[] #[v2]]) 37 Try.func54 rfl rfl (by simp) S (fun a S => ?_)
  refine sSeq (fun K1 hK1 => ?_)
  refine sRegion ?_
  refine sAlloc (.agg #[.int .i64 0, .int .i64 0, .slice none 0 0]) S (wN rfl) rfl (by kernel_rfl) [.int .i64 0, .int .i64 0, .slice none 0 0] rfl rfl (by decide) (fun a b2 w S => ?_)
  refine leafL (leafT (hK1 _ _ ?_))
  refine sSeq (fun K3 hK3 => ?_)
  refine sRegion ?_
  refine sMove (.int .i64 p0) S (wN rfl) (.inl rfl) (by kernel_rfl) rfl (by decide) (fun a S => ?_)
  refine sMove (.int .i64 p1) S (wN rfl) (.inl rfl) (by kernel_rfl) rfl (by decide) (fun a S => ?_)
  refine sMove (.int .i64 p0) S (wN rfl) (.inl rfl) (by kernel_rfl) rfl (by decide) (fun a S => ?_)
  refine sMove (.int .i64 p1) S (wN rfl) (.inl rfl) (by kernel_rfl) rfl (by decide) (fun a S => ?_)
  refine sBin (.int .i64 (w64 (p0 * p1))) S (wN rfl) rfl (by kernel_rfl) (by kernel_rfl) (bMul _ _ _ _ p0 p1) rfl (by decide) (fun a S => ?_)
  obtain ⟨z6, hx7, h⟩ := bindSome h
  refine sMake0 rB (m := w64 (p0 * p1)) (u := z6) (.bool false) 1 S (wN rfl) rfl Try.underlying22 (by kernel_rfl) (by decide) (by kernel_rfl) (by kernel_rfl) hx7 rfl (by decide) (fun a w ad4 cp5 S => ?_)
  refine sBuild [(0, .int .i64 p0), (1, .int .i64 p1), (2, .slice ad4 ([] : List Bool).length cp5)] [.int .i64 p0, .int .i64 p1, .slice ad4 ([] : List Bool).length cp5] S (wN rfl) rfl (by kernel_rfl) (by kernel_rfl) rfl (by decide) (fun a S => ?_)
  refine sAlloc (.agg #[.int .i64 0, .int .i64 0, .slice none 0 0]) S (wN rfl) rfl (by kernel_rfl) [.int .i64 0, .int .i64 0, .slice none 0 0] rfl rfl (by decide) (fun a b8 w S => ?_)
  refine sStore (p := b8) (off := 0) (T := 24) (vs := [.int .i64 0, .int .i64 0, .slice none 0 0]) (v := .agg #[.int .i64 p0, .int .i64 p1, .slice ad4 ([] : List Bool).length cp5]) 0 [.int .i64 p0, .int .i64 p1, .slice ad4 ([] : List Bool).length cp5] S (wN rfl) rfl (by kernel_rfl) (by kernel_rfl) rfl (by kernel_rfl) (by kernel_rfl) rfl (by simp) rfl (fun a w S => ?_)
  refine leafL (leafT (hK3 _ _ ?_))
  obtain ⟨t12, h, g13⟩ := bindSome h
  refine sCut (fun a w => ∃ o9, o9 = t12 ∧ ∃ ad10, ∃ cp11, St E [] w0 37 a w [(6, .pointer (some ⟨b2, 0, none⟩)), (7, .pointer (some ⟨b8, 0, none⟩))] [eBox b2 24 [.int .i64 0, .int .i64 0, .slice none 0 0], eBox b8 24 [.int .i64 p0, .int .i64 p1, .slice ad10 o9.length cp11], eRow rB 4 (.slice ad10 o9.length cp11) o9] []) ?_ (fun a w hI => ?_)
  · refine sSeq (fun K14 hK14 => ?_)
    refine sRegion ?_
    refine sMove (.int .i64 p1) S (wN rfl) (.inl rfl) (by kernel_rfl) rfl (by decide) (fun a S => ?_)
    refine sMove (.int .i64 0) S (wN rfl) (.inl rfl) (by kernel_rfl) rfl (by decide) (fun a S => ?_)
    refine leafL (leafT (hK14 _ _ ?_))
    refine wp_block ?_
    obtain ⟨t21, hl, g20⟩ := bindSome h
    refine sLoop hl (fun s0 a w => match s0 with | (s15, s16) => ∃ ad17, ∃ cp18, St E [] w0 37 a w [(0, .int .i64 p0), (2, .func (.func 59) #[] #[v2]), (6, .pointer (some ⟨b2, 0, none⟩)), (7, .pointer (some ⟨b8, 0, none⟩)), (17, .int .i64 p1), (18, .int .i64 s15)] [eBox b2 24 [.int .i64 0, .int .i64 0, .slice none 0 0], eBox b8 24 [.int .i64 p0, .int .i64 p1, .slice ad17 s16.length cp18], eRow rB 4 (.slice ad17 s16.length cp18) s16] [fPtr r_api_Grid (v2) p2]) ⟨ad4, cp5, S.fix [2, 0, 1] [0] (by decide) (by kernel_rfl) (by kernel_rfl) (by kernel_rfl)⟩ ?_
    clear hl h
    intro s0 a w c0 hI h hu19
    obtain ⟨s15, s16⟩ := s0
    unfold grid_build_s4_l2 at h
    dsimp only at h hI
    obtain ⟨ad17, cp18, S⟩ := hI
    refine sSeq (fun K25 hK25 => ?_)
    refine sRegion ?_
    refine sBin (.bool (decide (s15 < p1))) S (wN rfl) rfl (by kernel_rfl) (by kernel_rfl) (bLt _ _ _ _ .i64 s15 p1) rfl (by decide) (fun a S => ?_)
    refine leafL (leafT (hK25 _ _ ?_))
    refine sSeq (fun K26 hK26 => ?_)
    rcases iteSome h with ⟨hc27, h⟩ | ⟨hc27, h⟩
    · refine sCondT (b := decide (s15 < p1)) S (by kernel_rfl) hc27 ?_
      refine wp_skip (leafT (hK26 _ _ ?_))
      obtain ⟨t31, h, g32⟩ := bindSome h
      refine sCut (fun a w => ∃ o28, o28 = t31 ∧ ∃ ad29, ∃ cp30, St E [] w0 37 a w [(0, .int .i64 p0), (2, .func (.func 59) #[] #[v2]), (6, .pointer (some ⟨b2, 0, none⟩)), (7, .pointer (some ⟨b8, 0, none⟩)), (17, .int .i64 p1), (18, .int .i64 s15)] [eBox b2 24 [.int .i64 0, .int .i64 0, .slice none 0 0], eBox b8 24 [.int .i64 p0, .int .i64 p1, .slice ad29 o28.length cp30], eRow rB 4 (.slice ad29 o28.length cp30) o28] [fPtr r_api_Grid (v2) p2]) ?_ (fun a w hI => ?_)
      · refine wp_block ?_
        refine sSeq (fun K33 hK33 => ?_)
        refine sRegion ?_
        refine sMove (.int .i64 s15) S (wN rfl) (.inl rfl) (by kernel_rfl) rfl (by decide) (fun a S => ?_)
        refine sMove (.int .i64 s15) S (wN rfl) (.inr rfl) (by kernel_rfl) rfl (by decide) (fun a S => ?_)
        refine leafL (leafT (hK33 _ _ ?_))
        refine sSeq (fun K34 hK34 => ?_)
        refine sRegion ?_
        refine sMove (.int .i64 p0) S (wN rfl) (.inl rfl) (by kernel_rfl) rfl (by decide) (fun a S => ?_)
        refine sMove (.int .i64 0) S (wN rfl) (.inl rfl) (by kernel_rfl) rfl (by decide) (fun a S => ?_)
        refine leafL (leafT (hK34 _ _ ?_))
        refine wp_block ?_
        obtain ⟨t41, hl, g40⟩ := bindSome h
        refine sLoop hl (fun s0 a w => match s0 with | (s35, s36) => ∃ ad37, ∃ cp38, St E [] w0 37 a w [(0, .int .i64 p0), (2, .func (.func 59) #[] #[v2]), (6, .pointer (some ⟨b2, 0, none⟩)), (7, .pointer (some ⟨b8, 0, none⟩)), (8, .int .i64 s15), (17, .int .i64 p1), (18, .int .i64 s15), (21, .int .i64 p0), (22, .int .i64 s35)] [eBox b2 24 [.int .i64 0, .int .i64 0, .slice none 0 0], eBox b8 24 [.int .i64 p0, .int .i64 p1, .slice ad37 s36.length cp38], eRow rB 4 (.slice ad37 s36.length cp38) s36] [fPtr r_api_Grid (v2) p2]) ⟨ad17, cp18, S.fix [0, 1, 2] [0] (by decide) (by kernel_rfl) (by kernel_rfl) (by kernel_rfl)⟩ ?_
        clear hl h
        intro s0 a w c0 hI h hu39
        obtain ⟨s35, s36⟩ := s0
        unfold grid_build_s4_l1 at h
        dsimp only at h hI
        obtain ⟨ad37, cp38, S⟩ := hI
        refine sSeq (fun K45 hK45 => ?_)
        refine sRegion ?_
        refine sBin (.bool (decide (s35 < p0))) S (wN rfl) rfl (by kernel_rfl) (by kernel_rfl) (bLt _ _ _ _ .i64 s35 p0) rfl (by decide) (fun a S => ?_)
        refine leafL (leafT (hK45 _ _ ?_))
        refine sSeq (fun K46 hK46 => ?_)
        rcases iteSome h with ⟨hc47, h⟩ | ⟨hc47, h⟩
        · refine sCondT (b := decide (s35 < p0)) S (by kernel_rfl) hc47 ?_
          refine wp_skip (leafT (hK46 _ _ ?_))
          refine sSeq (fun K48 hK48 => ?_)
          refine wp_block ?_
          refine sSeq (fun K49 hK49 => ?_)
          refine sRegion ?_
          refine sMove (.int .i64 s35) S (wN rfl) (.inl rfl) (by kernel_rfl) rfl (by decide) (fun a S => ?_)
          refine sMove (.int .i64 s35) S (wN rfl) (.inr rfl) (by kernel_rfl) rfl (by decide) (fun a S => ?_)
          refine leafL (leafT (hK49 _ _ ?_))
          obtain ⟨r50, hx51, h⟩ := bindSome h
          obtain ⟨l54, hx55, h⟩ := bindSome h
          refine sDraw (nf := [6, 7, 9]) (W := [(0, 25, .pointer (some ⟨b8, 2, none⟩)), (1, 26, .slice ad37 s36.length cp38), (2, 27, .func (.func 59) #[] #[v2]), (3, 28, .int .i64 s35), (4, 29, .int .i64 s15), (5, 30, .bool r50)]) (by kernel_rfl) S ?_
          refine node_by (A := anc_grid_build_s4_0) (nf := [6, 7, 9]) (Y := []) (W := [(0, 25, .pointer (some ⟨b8, 2, none⟩)), (1, 26, .slice ad37 s36.length cp38), (2, 27, .func (.func 59) #[] #[v2]), (3, 28, .int .i64 s35), (4, 29, .int .i64 s15), (5, 30, .bool r50)]) 10 (by kernel_rfl) (by kernel_rfl) (by kernel_rfl) (by kernel_rfl) (by kernel_rfl) [0, 1, 2, 3, 4, 5] (by kernel_rfl) (by decide) (by decide) (aF 0 9 (by decide) ?_ (aF 1 8 (by decide) ?_ (aF 2 7 (by decide) ?_ (aF 3 6 (by decide) ?_ (aF 4 5 (by decide) ?_ (aF 5 4 (by decide) ?_ (aN 6 3 (by decide) ?_ (aB 7 2 6 (by decide) (aE 8 1 6 (by decide) (aB 9 0 6 (by decide) (trivial))))))))))) [] (fun q hq => by cases hq) (fun hY => absurd (hY 6 (by decide)) (by decide))
          · refine fI 25 (.pointer (some ⟨b8, 2, none⟩)) [(7, .pointer (some ⟨b8, 0, none⟩))] 0 [none] rfl rfl (by kernel_rfl) rfl (by kernel_rfl) (by kernel_rfl) fun G a w S => ?_
            refine sField (b := b8) (off := 0) 2 2 S (wN rfl) rfl (by kernel_rfl) (by kernel_rfl) rfl rfl (by decide) (fun a S => ?_)
            exact leafL ⟨rfl, S⟩
          · refine fI 26 (.slice ad37 s36.length cp38) [(25, .pointer (some ⟨b8, 2, none⟩))] 1 [some 0] rfl rfl (by kernel_rfl) rfl (by kernel_rfl) (by kernel_rfl) fun G a w S => ?_
            refine sLoad1 (p := b8) (off := 2) (T := 24) (vs := [.int .i64 p0, .int .i64 p1, .slice ad37 s36.length cp38]) 1 (.slice ad37 s36.length cp38) S (wN rfl) rfl (by kernel_rfl) (by kernel_rfl) (by kernel_rfl) rfl rfl (by decide) (fun a S => ?_)
            exact leafL ⟨rfl, S⟩
          · refine fI 27 (.func (.func 59) #[] #[v2]) [(2, .func (.func 59) #[] #[v2])] 2 [none] rfl rfl (by kernel_rfl) rfl (by kernel_rfl) (by kernel_rfl) fun G a w S => ?_
            refine sMove (.func (.func 59) #[] #[v2]) S (wN rfl) (.inl rfl) (by kernel_rfl) rfl (by decide) (fun a S => ?_)
            exact leafL ⟨rfl, S⟩
          · refine fI 28 (.int .i64 s35) [(9, .int .i64 s35)] 3 [none] rfl rfl (by kernel_rfl) rfl (by kernel_rfl) (by kernel_rfl) fun G a w S => ?_
            refine sMove (.int .i64 s35) S (wN rfl) (.inl rfl) (by kernel_rfl) rfl (by decide) (fun a S => ?_)
            exact leafL ⟨rfl, S⟩
          · refine fI 29 (.int .i64 s15) [(8, .int .i64 s15)] 4 [none] rfl rfl (by kernel_rfl) rfl (by kernel_rfl) (by kernel_rfl) fun G a w S => ?_
            refine sMove (.int .i64 s15) S (wN rfl) (.inl rfl) (by kernel_rfl) rfl (by decide) (fun a S => ?_)
            exact leafL ⟨rfl, S⟩
          · refine fI 30 (.bool r50) [(27, .func (.func 59) #[] #[v2]), (28, .int .i64 s35), (29, .int .i64 s15)] 5 [some 2, some 3, some 4] rfl rfl (by kernel_rfl) rfl (by kernel_rfl) (by kernel_rfl) fun G a w S => ?_
            have S1 := S.mem
            refine sCallVQ (X := Unit) (g := 59) (vs := [.int .i64 s35, .int .i64 s15]) (caps := [v2]) (val := fun _ => .bool r50) S (wN rfl) rfl (by kernel_rfl) callee59 (by kernel_rfl) (S1.quiet [0] (by kernel_rfl)) (fun E1 w1 S1 => c_grid_Mirror_2_s0 E1 w1 s35 s15 p2 v2 r50 hx51 S1) rfl (by decide) (fun _ a w S => ?_)
            exact leafL ⟨rfl, S⟩
          · refine ⟨_, [(30, .bool r50)], rfl, (srcs_of [some 5] rfl (by kernel_rfl) (by kernel_rfl)), fun G a w S => ?_⟩
            refine sLit (r := rB) (T := 4) (xs := [r50]) [(0, .bool r50)] 1 [.bool r50] [.bool r50] (.bool false) 1 S (wN rfl) rfl (by kernel_rfl) Try.underlying22 (by kernel_rfl) (by decide) (by decide) (by kernel_rfl) rfl (fun E1 w1 hE => All.cons rfl (All.nil _ _ _)) rfl rfl (by decide) (fun a w ad58 cp59 S => ?_)
            refine leafL ⟨rfl, _, _, .inl ⟨31, (.slice ad58 [r50].length cp59), [], rfl, S, hz_of (by kernel_rfl), ?_⟩⟩
            refine node_by (A := anc_grid_build_s4_0) (nf := [6, 7, 9]) (Y := [6]) 10 (by kernel_rfl) (by kernel_rfl) (by kernel_rfl) (by kernel_rfl) (by kernel_rfl) [6, 0, 1, 2, 3, 4, 5] (by kernel_rfl) (by decide) (by decide) (aF 0 9 (by decide) ?_ (aF 1 8 (by decide) ?_ (aD 2 7 6 (by decide) (aD 3 6 6 (by decide) (aD 4 5 6 (by decide) (aD 5 4 6 (by decide) (aY 6 3 (by decide) (aN 7 2 (by decide) ?_ (aE 8 1 7 (by decide) (aB 9 0 7 (by decide) (trivial))))))))))) [] (fun q hq => by cases hq) (fun hY => absurd (hY 7 (by decide)) (by decide))
            · refine fI 25 (.pointer (some ⟨b8, 2, none⟩)) [(7, .pointer (some ⟨b8, 0, none⟩))] 1 [none] rfl rfl (by kernel_rfl) rfl (by kernel_rfl) (by kernel_rfl) fun G a w S => ?_
              refine sField (b := b8) (off := 0) 2 2 S (wN rfl) rfl (by kernel_rfl) (by kernel_rfl) rfl rfl (by decide) (fun a S => ?_)
              exact leafL ⟨rfl, S⟩
            · refine fI 26 (.slice ad37 s36.length cp38) [(25, .pointer (some ⟨b8, 2, none⟩))] 2 [some 1] rfl rfl (by kernel_rfl) rfl (by kernel_rfl) (by kernel_rfl) fun G a w S => ?_
              refine sLoad1 (p := b8) (off := 2) (T := 24) (vs := [.int .i64 p0, .int .i64 p1, .slice ad37 s36.length cp38]) 2 (.slice ad37 s36.length cp38) S (wN rfl) rfl (by kernel_rfl) (by kernel_rfl) (by kernel_rfl) rfl rfl (by decide) (fun a S => ?_)
              exact leafL ⟨rfl, S⟩
            · refine ⟨_, [(26, .slice ad37 s36.length cp38), (31, .slice ad58 [r50].length cp59)], rfl, (srcs_of [some 2, some 0] rfl (by kernel_rfl) (by kernel_rfl)), fun G a w S => ?_⟩
              refine sApp (r := rB) (T := 4) (xs := s36) (ys := [r50]) (v := .slice ad37 s36.length cp38) (u := .slice ad58 [r50].length cp59) 3 (.bool false) 1 S (wN rfl) rfl Try.underlying22 (by kernel_rfl) rfl (by decide) (by kernel_rfl) (by kernel_rfl) (by kernel_rfl) (src_R (T := 4) 0 S.mem (by kernel_rfl)) hx55 rfl (by decide) (fun a w ad60 cp61 S => ?_)
              refine leafL ⟨rfl, _, _, .inl ⟨32, (.slice ad60 l54.length cp61), [(8, 33, .pointer (some ⟨b8, 2, none⟩))], rfl, S, hz_of (by kernel_rfl), ?_⟩⟩
              refine node_by (A := anc_grid_build_s4_0) (nf := [6, 7, 9]) (Y := [7, 6]) 10 (by kernel_rfl) (by kernel_rfl) (by kernel_rfl) (by kernel_rfl) (by kernel_rfl) [8, 7, 6, 0, 1, 2, 3, 4, 5] (by kernel_rfl) (by decide) (by decide) (aD 0 9 7 (by decide) (aD 1 8 7 (by decide) (aD 2 7 7 (by decide) (aD 3 6 7 (by decide) (aD 4 5 7 (by decide) (aD 5 4 7 (by decide) (aY 6 3 (by decide) (aY 7 2 (by decide) (aF 8 1 (by decide) ?_ (aN 9 0 (by decide) ?_ (trivial))))))))))) [] (fun q hq => by cases hq) (fun hY => absurd (hY 9 (by decide)) (by decide))
              · refine fI 33 (.pointer (some ⟨b8, 2, none⟩)) [(7, .pointer (some ⟨b8, 0, none⟩))] 0 [none] rfl rfl (by kernel_rfl) rfl (by kernel_rfl) (by kernel_rfl) fun G a w S => ?_
                refine sField (b := b8) (off := 0) 2 2 S (wN rfl) rfl (by kernel_rfl) (by kernel_rfl) rfl rfl (by decide) (fun a S => ?_)
                exact leafL ⟨rfl, S⟩
              · refine ⟨_, [(32, .slice ad60 l54.length cp61), (33, .pointer (some ⟨b8, 2, none⟩))], rfl, (srcs_of [some 1, some 0] rfl (by kernel_rfl) (by kernel_rfl)), fun G a w S => ?_⟩
                refine sStore (p := b8) (off := 2) (T := 24) (vs := [.int .i64 p0, .int .i64 p1, .slice ad37 s36.length cp38]) (v := .slice ad60 l54.length cp61) 3 [.slice ad60 l54.length cp61] S (wN rfl) rfl (by kernel_rfl) (by kernel_rfl) rfl (by kernel_rfl) (by kernel_rfl) rfl (by simp) rfl (fun a w S => ?_)
                refine leafL ⟨rfl, _, _, .inr ⟨[], rfl, S, hz_of (by kernel_rfl), ?_⟩⟩
                refine node_by (A := anc_grid_build_s4_0) (nf := [6, 7, 9]) (Y := [9, 7, 6]) 10 (by kernel_rfl) (by kernel_rfl) (by kernel_rfl) (by kernel_rfl) (by kernel_rfl) [8, 7, 6, 0, 1, 2, 3, 4, 5] (by kernel_rfl) (by decide) (by decide) (aD 0 9 9 (by decide) (aD 1 8 9 (by decide) (aD 2 7 9 (by decide) (aD 3 6 9 (by decide) (aD 4 5 9 (by decide) (aD 5 4 9 (by decide) (aY 6 3 (by decide) (aY 7 2 (by decide) (aD 8 1 9 (by decide) (aY 9 0 (by decide) (trivial))))))))))) [(0, .int .i64 p0), (2, .func (.func 59) #[] #[v2]), (6, .pointer (some ⟨b2, 0, none⟩)), (7, .pointer (some ⟨b8, 0, none⟩)), (8, .int .i64 s15), (17, .int .i64 p1), (18, .int .i64 s15), (21, .int .i64 p0), (22, .int .i64 s35)] (fin_of [none, none, none, none, none, none, none, none, none] rfl (by kernel_rfl) (by kernel_rfl)) (fun _ a w S => ?_)
                · refine leafB (leafT (hK48 _ _ ?_))
                  refine sRegion ?_
                  refine sBin (.int .i64 (w64 (s35 + 1))) S (wN rfl) rfl (by kernel_rfl) (by kernel_rfl) (bAdd _ _ _ _ s35 1) rfl (by decide) (fun a S => ?_)
                  refine sMove (.int .i64 (w64 (s35 + 1))) S (wN rfl) (.inl rfl) (by kernel_rfl) rfl (by decide) (fun a S => ?_)
                  exact leafL (leafT (⟨(w64 (s35 + 1), l54), (Option.some.inj h).symm, ⟨ad60, cp61, S.fix [3, 0, 1] [0] (by decide) (by kernel_rfl) (by kernel_rfl) (by kernel_rfl)⟩⟩))
        · refine sCondF (b := decide (s35 < p0)) S (by kernel_rfl) hc47 ?_
          obtain rfl := Option.some.inj h
          obtain rfl := hu39 _ rfl
          have h := g40
          clear g40
          try dsimp only at h
          exact wp_exit (xThen (xThen (xHit (leafB (leafT (⟨s36, Option.some.inj h, ad37, cp38, S.fix [0, 1, 2] [0] (by decide) (by kernel_rfl) (by kernel_rfl) (by kernel_rfl)⟩))))))
      · obtain ⟨o28, rfl, ad29, cp30, S⟩ := hI
        have h := g32
        clear g32
        try dsimp only at h
        refine sRegion ?_
        refine sBin (.int .i64 (w64 (s15 + 1))) S (wN rfl) rfl (by kernel_rfl) (by kernel_rfl) (bAdd _ _ _ _ s15 1) rfl (by decide) (fun a S => ?_)
        refine sMove (.int .i64 (w64 (s15 + 1))) S (wN rfl) (.inl rfl) (by kernel_rfl) rfl (by decide) (fun a S => ?_)
        exact leafL (leafT (⟨(w64 (s15 + 1), o28), (Option.some.inj h).symm, ⟨ad29, cp30, S.fix [0, 1, 2] [0] (by decide) (by kernel_rfl) (by kernel_rfl) (by kernel_rfl)⟩⟩))
    · refine sCondF (b := decide (s15 < p1)) S (by kernel_rfl) hc27 ?_
      obtain rfl := Option.some.inj h
      obtain rfl := hu19 _ rfl
      have h := g20
      clear g20
      try dsimp only at h
      exact wp_exit (xThen (xThen (xHit (leafT (⟨s16, Option.some.inj h, ad17, cp18, S.fix [0, 1, 2] [] (by decide) (by kernel_rfl) (by kernel_rfl) (by kernel_rfl)⟩)))))
  · obtain ⟨o9, rfl, ad10, cp11, S⟩ := hI
    have h := g13
    clear g13
    try dsimp only at h
    refine sSeq (fun K62 hK62 => ?_)
    refine sRegion ?_
    refine sLoadN (p := b8) (off := 0) (T := 24) (vs := [.int .i64 p0, .int .i64 p1, .slice ad10 o9.length cp11]) 1 [.int .i64 p0, .int .i64 p1, .slice ad10 o9.length cp11] S (wN rfl) rfl (by kernel_rfl) (by kernel_rfl) (by kernel_rfl) (by kernel_rfl) rfl rfl (by decide) (fun a S => ?_)
    refine sStore (p := b2) (off := 0) (T := 24) (vs := [.int .i64 0, .int .i64 0, .slice none 0 0]) (v := .agg #[.int .i64 p0, .int .i64 p1, .slice ad10 o9.length cp11]) 0 [.int .i64 p0, .int .i64 p1, .slice ad10 o9.length cp11] S (wN rfl) rfl (by kernel_rfl) (by kernel_rfl) rfl (by kernel_rfl) (by kernel_rfl) rfl (by simp) rfl (fun a w S => ?_)
    refine leafL (leafT (hK62 _ _ ?_))
    obtain rfl := Option.some.inj h
    have S := S.shutR (r := rB) (T := 4) (v := .slice ad10 o9.length cp11) (xs := o9) 2 (by kernel_rfl)
    have S := S.learn (fRep r_api_Grid (.agg #[.int .i64 p0, .int .i64 p1, .slice ad10 o9.length cp11]) (api_Grid.mk p0 p1 o9)) ⟨_, rfl, S.mem.know (i := 0) (e := fRep (rL rB) (.slice ad10 o9.length cp11) o9) (by kernel_rfl)⟩
    exact wp_ret (sRet (.agg #[.int .i64 p0, .int .i64 p1, .slice ad10 o9.length cp11]) S (rsl1 rfl (rvN (c := 6) (t := 24) (T := 24) (p := b2) 0 [.int .i64 p0, .int .i64 p1, .slice ad10 o9.length cp11] S (by kernel_rfl) (by kernel_rfl) (by kernel_rfl) (by kernel_rfl))) ⟨(.agg #[.int .i64 p0, .int .i64 p1, .slice ad10 o9.length cp11]), rfl, S.mem.sel [] [0] (by decide) (by kernel_rfl) (by kernel_rfl)⟩)

end Go.Proofs.Ytjndecalogklhaa
namespace Go.Proofs.Ytjndecalogklhaa
open Go.RowKit
set_option linter.unusedVariables false

noncomputable def F_grid_Mirror (p0 : api_Grid) (p1 : Int) : Option (api_Grid × Int) :=
  Option.bind (F_grid_Check p0) fun r10 =>
  if r10 != 0 then
    some ((api_Grid.mk 0 0 ([] : (List Bool))), r10)
  else
    if p1 == 0 then
      Option.bind (F_grid_build_s3 p0.W p0.H p0) fun r20 =>
      some (r20, 0)
    else
      if p1 == 1 then
        Option.bind (F_grid_build_s4 p0.W p0.H p0) fun r30 =>
        some (r30, 0)
      else
        some ((api_Grid.mk 0 0 ([] : (List Bool))), 2)
def c_grid_Mirror_val (r : (api_Grid × Int)) (x : Value) : Value := .tuple #[x, .int .i64 r.2]
def c_grid_Mirror_D (r : (api_Grid × Int)) (x : Value) : List Fact := [fRep r_api_Grid x r.1]
set_option maxHeartbeats 4000000 in
set_option maxRecDepth 100000 in
theorem c_grid_Mirror (E : Nat → Prop) (w0 : World) (p0 : api_Grid) (v0 : Value) (p1 : Int) (r : (api_Grid × Int)) (h : F_grid_Mirror p0 p1 = some r) (S : St0 E [] w0 w0 [] [fRep r_api_Grid (v0) p0]) :
    Calls Try.prog 31 #[v0, .int .i64 p1] w0 (Ret (X := Value) E [] w0 (c_grid_Mirror_val r) (fun _ => []) (c_grid_Mirror_D r)) := by
  unfold F_grid_Mirror at h
  obtain ⟨u1, rfl, hu2⟩ := S.know (i := 0) (e := fRep r_api_Grid (v0) p0) (by kernel_rfl)
  have S := S.learn (fRep (rL rB) u1 p0.Bits) hu2
  obtain ⟨ad3, cp4, _, rfl, _⟩ := hu2
  refine sEnter (args := [.agg #[.int .i64 p0.W, .int .i64 p0.H, .slice ad3 p0.Bits.length cp4], .int .i64 p1]) 31 Try.func31 rfl rfl (by simp) S (fun a S => ?_)
  refine sSeq (fun K5 hK5 => ?_)
  refine sRegion ?_
  refine sBox (v := .agg #[.int .i64 p0.W, .int .i64 p0.H, .slice ad3 p0.Bits.length cp4]) S (wN rfl) rfl (by kernel_rfl) [.int .i64 p0.W, .int .i64 p0.H, .slice ad3 p0.Bits.length cp4] rfl rfl (by decide) (fun a b6 w S => ?_)
  refine sAlloc (.agg #[.int .i64 0, .int .i64 0, .slice none 0 0]) S (wN rfl) rfl (by kernel_rfl) [.int .i64 0, .int .i64 0, .slice none 0 0] rfl rfl (by decide) (fun a b7 w S => ?_)
  refine sMove (.int .i64 0) S (wN rfl) (.inr rfl) (by kernel_rfl) rfl (by decide) (fun a S => ?_)
  refine leafL (leafT (hK5 _ _ ?_))
  refine sSeq (fun K8 hK8 => ?_)
  refine sSeq (fun K9 hK9 => ?_)
  refine sRegion ?_
  refine sLoadN (p := b6) (off := 0) (T := 24) (vs := [.int .i64 p0.W, .int .i64 p0.H, .slice ad3 p0.Bits.length cp4]) 1 [.int .i64 p0.W, .int .i64 p0.H, .slice ad3 p0.Bits.length cp4] S (wN rfl) rfl (by kernel_rfl) (by kernel_rfl) (by kernel_rfl) (by kernel_rfl) rfl rfl (by decide) (fun a S => ?_)
  obtain ⟨r10, hx11, h⟩ := bindSome h
  have S1 := S.mem
  refine sCallQ (X := Unit) (f := 32) (vs := [.agg #[.int .i64 p0.W, .int .i64 p0.H, .slice ad3 p0.Bits.length cp4]]) (val := fun _ => .int .i64 r10) S (wN rfl) rfl callee32 (by kernel_rfl) (S1.quiet [1] (by kernel_rfl)) (fun E1 w1 S1 => c_grid_Check E1 w1 p0 (.agg #[.int .i64 p0.W, .int .i64 p0.H, .slice ad3 p0.Bits.length cp4]) r10 hx11 S1) rfl (by decide) (fun _ a w S => ?_)
  refine sMove (.int .i64 r10) S (wN rfl) (.inr rfl) (by kernel_rfl) rfl (by decide) (fun a S => ?_)
  refine leafL (leafT (hK9 _ _ ?_))
  refine sSeq (fun K12 hK12 => ?_)
  refine sRegion ?_
  refine sMove (.int .i64 r10) S (wN rfl) (.inl rfl) (by kernel_rfl) rfl (by decide) (fun a S => ?_)
  refine sBin (.bool (r10 != 0)) S (wN rfl) rfl (by kernel_rfl) (by kernel_rfl) (bNe _ _ _ _ .i64 r10 0) rfl (by decide) (fun a S => ?_)
  refine leafL (leafT (hK12 _ _ ?_))
  rcases iteSome h with ⟨hc13, h⟩ | ⟨hc13, h⟩
  · refine sCondT (b := r10 != 0) S (by kernel_rfl) hc13 ?_
    refine sSeq (fun K14 hK14 => ?_)
    refine sRegion ?_
    refine sBuild [] [.int .i64 0, .int .i64 0, .slice none 0 0] S (wN rfl) rfl (by kernel_rfl) (by kernel_rfl) rfl (by decide) (fun a S => ?_)
    refine sMove (.int .i64 r10) S (wN rfl) (.inl rfl) (by kernel_rfl) rfl (by decide) (fun a S => ?_)
    refine sStore (p := b7) (off := 0) (T := 24) (vs := [.int .i64 0, .int .i64 0, .slice none 0 0]) (v := .agg #[.int .i64 0, .int .i64 0, .slice none 0 0]) 0 [.int .i64 0, .int .i64 0, .slice none 0 0] S (wN rfl) rfl (by kernel_rfl) (by kernel_rfl) rfl (by kernel_rfl) (by kernel_rfl) rfl (by simp) rfl (fun a w S => ?_)
    refine sMove (.int .i64 r10) S (wN rfl) (.inr rfl) (by kernel_rfl) rfl (by decide) (fun a S => ?_)
    refine leafL (leafT (hK14 _ _ ?_))
    obtain rfl := Option.some.inj h
    have S := S.learn (fRep (rL rB) (.slice none 0 0) ([] : (List Bool))) (rL_nil _ _ _)
    have S := S.learn (fRep r_api_Grid (.agg #[.int .i64 0, .int .i64 0, .slice none 0 0]) (api_Grid.mk 0 0 ([] : (List Bool)))) ⟨_, rfl, S.mem.know (i := 0) (e := fRep (rL rB) (.slice none 0 0) ([] : (List Bool))) (by kernel_rfl)⟩
    exact wp_ret (rThen (sRet (.tuple #[.agg #[.int .i64 0, .int .i64 0, .slice none 0 0], .int .i64 r10]) S (rsl2 rfl (rvN (c := 4) (t := 24) (T := 24) (p := b7) 0 [.int .i64 0, .int .i64 0, .slice none 0 0] S (by kernel_rfl) (by kernel_rfl) (by kernel_rfl) (by kernel_rfl)) (rvT (t := 5) (v := .int .i64 r10) S (by kernel_rfl))) ⟨(.agg #[.int .i64 0, .int .i64 0, .slice none 0 0]), rfl, S.mem.sel [] [0] (by decide) (by kernel_rfl) (by kernel_rfl)⟩))
  · refine sCondF (b := r10 != 0) S (by kernel_rfl) hc13 ?_
    refine wp_skip (leafT (hK8 _ _ ?_))
    refine sSeq (fun K15 hK15 => ?_)
    refine sSeq (fun K16 hK16 => ?_)
    refine sRegion ?_
    refine sMove (.int .i64 p1) S (wN rfl) (.inl rfl) (by kernel_rfl) rfl (by decide) (fun a S => ?_)
    refine leafL (leafT (hK16 _ _ ?_))
    refine wp_block ?_
    refine sSeq (fun K17 hK17 => ?_)
    refine sRegion ?_
    refine sBin (.bool (p1 == 0)) S (wN rfl) rfl (by kernel_rfl) (by kernel_rfl) (bEq _ _ _ _ .i64 p1 0) rfl (by decide) (fun a S => ?_)
    refine sMove (.bool (p1 == 0)) S (wN rfl) (.inr rfl) (by kernel_rfl) rfl (by decide) (fun a S => ?_)
    refine leafL (leafT (hK17 _ _ ?_))
    rcases iteSome h with ⟨hc18, h⟩ | ⟨hc18, h⟩
    · refine sCondT (b := p1 == 0) S (by kernel_rfl) hc18 ?_
      refine sSeq (fun K19 hK19 => ?_)
      refine sRegion ?_
      refine sField (b := b6) (off := 0) 0 0 S (wN rfl) rfl (by kernel_rfl) (by kernel_rfl) rfl rfl (by decide) (fun a S => ?_)
      refine sLoad1 (p := b6) (off := 0) (T := 24) (vs := [.int .i64 p0.W, .int .i64 p0.H, .slice ad3 p0.Bits.length cp4]) 1 (.int .i64 p0.W) S (wN rfl) rfl (by kernel_rfl) (by kernel_rfl) (by kernel_rfl) rfl rfl (by decide) (fun a S => ?_)
      refine sField (b := b6) (off := 0) 1 1 S (wN rfl) rfl (by kernel_rfl) (by kernel_rfl) rfl rfl (by decide) (fun a S => ?_)
      refine sLoad1 (p := b6) (off := 1) (T := 24) (vs := [.int .i64 p0.W, .int .i64 p0.H, .slice ad3 p0.Bits.length cp4]) 1 (.int .i64 p0.H) S (wN rfl) rfl (by kernel_rfl) (by kernel_rfl) (by kernel_rfl) rfl rfl (by decide) (fun a S => ?_)
      refine sFunc (g := 58) (vs := [.pointer (some ⟨b6, 0, none⟩)]) S (wN rfl) rfl (by kernel_rfl) rfl (by decide) (fun a S => ?_)
      obtain ⟨r20, hx21, h⟩ := bindSome h
      have S := S.shutB (r := r_api_Grid) (T := 24) (b := b6) (cs := [.int .i64 p0.W, .int .i64 p0.H, .slice ad3 p0.Bits.length cp4]) 1 (.agg #[.int .i64 p0.W, .int .i64 p0.H, .slice ad3 p0.Bits.length cp4]) p0 (by kernel_rfl) rfl (S.mem.know (i := 1) (e := fRep r_api_Grid (.agg #[.int .i64 p0.W, .int .i64 p0.H, .slice ad3 p0.Bits.length cp4]) p0) (by kernel_rfl))
      refine sCall (X := Value) (f := 54) (vs := [.int .i64 p0.W, .int .i64 p0.H, .func (.func 58) #[] #[.pointer (some ⟨b6, 0, none⟩)]]) (val := c_grid_build_s3_val r20) (B' := fun _ => []) (D' := c_grid_build_s3_D r20) [] [eBox b7 24 [.int .i64 0, .int .i64 0, .slice none 0 0]] [fPtr r_api_Grid (.pointer (some ⟨b6, 0, none⟩)) p0] [0] [0] S (wN rfl) rfl callee54 (by kernel_rfl) (by decide) (by kernel_rfl) (by kernel_rfl) (fun E1 w1 S1 => c_grid_build_s3 E1 w1 p0.W p0.H p0 (.pointer (some ⟨b6, 0, none⟩)) r20 hx21 S1) rfl (by decide) (fun u22 a w S => ?_)
      obtain ⟨u23, rfl, hu24⟩ := S.mem.know (i := 0) (e := fRep r_api_Grid (u22) r20) (by kernel_rfl)
      have S := S.learn (fRep (rL rB) u23 r20.Bits) hu24
      obtain ⟨ad25, cp26, _, rfl, _⟩ := hu24
      refine sStore (p := b7) (off := 0) (T := 24) (vs := [.int .i64 0, .int .i64 0, .slice none 0 0]) (v := .agg #[.int .i64 r20.W, .int .i64 r20.H, .slice ad25 r20.Bits.length cp26]) 0 [.int .i64 r20.W, .int .i64 r20.H, .slice ad25 r20.Bits.length cp26] S (wN rfl) rfl (by kernel_rfl) (by kernel_rfl) rfl (by kernel_rfl) (by kernel_rfl) rfl (by simp) rfl (fun a w S => ?_)
      refine sMove (.int .i64 0) S (wN rfl) (.inr rfl) (by kernel_rfl) rfl (by decide) (fun a S => ?_)
      refine leafL (leafT (hK19 _ _ ?_))
      obtain rfl := Option.some.inj h
      exact wp_ret (rBlock (rThen (sRet (.tuple #[.agg #[.int .i64 r20.W, .int .i64 r20.H, .slice ad25 r20.Bits.length cp26], .int .i64 0]) S (rsl2 rfl (rvN (c := 4) (t := 24) (T := 24) (p := b7) 0 [.int .i64 r20.W, .int .i64 r20.H, .slice ad25 r20.Bits.length cp26] S (by kernel_rfl) (by kernel_rfl) (by kernel_rfl) (by kernel_rfl)) (rvT (t := 5) (v := .int .i64 0) S (by kernel_rfl))) ⟨(.agg #[.int .i64 r20.W, .int .i64 r20.H, .slice ad25 r20.Bits.length cp26]), rfl, S.mem.sel [] [1] (by decide) (by kernel_rfl) (by kernel_rfl)⟩)))
    · refine sCondF (b := p1 == 0) S (by kernel_rfl) hc18 ?_
      refine sSeq (fun K27 hK27 => ?_)
      refine sRegion ?_
      refine sBin (.bool (p1 == 1)) S (wN rfl) rfl (by kernel_rfl) (by kernel_rfl) (bEq _ _ _ _ .i64 p1 1) rfl (by decide) (fun a S => ?_)
      refine sMove (.bool (p1 == 1)) S (wN rfl) (.inr rfl) (by kernel_rfl) rfl (by decide) (fun a S => ?_)
      refine leafL (leafT (hK27 _ _ ?_))
      rcases iteSome h with ⟨hc28, h⟩ | ⟨hc28, h⟩
      · refine sCondT (b := p1 == 1) S (by kernel_rfl) hc28 ?_
        refine sSeq (fun K29 hK29 => ?_)
        refine sRegion ?_
        refine sField (b := b6) (off := 0) 0 0 S (wN rfl) rfl (by kernel_rfl) (by kernel_rfl) rfl rfl (by decide) (fun a S => ?_)
        refine sLoad1 (p := b6) (off := 0) (T := 24) (vs := [.int .i64 p0.W, .int .i64 p0.H, .slice ad3 p0.Bits.length cp4]) 1 (.int .i64 p0.W) S (wN rfl) rfl (by kernel_rfl) (by kernel_rfl) (by kernel_rfl) rfl rfl (by decide) (fun a S => ?_)
        refine sField (b := b6) (off := 0) 1 1 S (wN rfl) rfl (by kernel_rfl) (by kernel_rfl) rfl rfl (by decide) (fun a S => ?_)
        refine sLoad1 (p := b6) (off := 1) (T := 24) (vs := [.int .i64 p0.W, .int .i64 p0.H, .slice ad3 p0.Bits.length cp4]) 1 (.int .i64 p0.H) S (wN rfl) rfl (by kernel_rfl) (by kernel_rfl) (by kernel_rfl) rfl rfl (by decide) (fun a S => ?_)
        refine sFunc (g := 59) (vs := [.pointer (some ⟨b6, 0, none⟩)]) S (wN rfl) rfl (by kernel_rfl) rfl (by decide) (fun a S => ?_)
        obtain ⟨r30, hx31, h⟩ := bindSome h
        have S := S.shutB (r := r_api_Grid) (T := 24) (b := b6) (cs := [.int .i64 p0.W, .int .i64 p0.H, .slice ad3 p0.Bits.length cp4]) 1 (.agg #[.int .i64 p0.W, .int .i64 p0.H, .slice ad3 p0.Bits.length cp4]) p0 (by kernel_rfl) rfl (S.mem.know (i := 1) (e := fRep r_api_Grid (.agg #[.int .i64 p0.W, .int .i64 p0.H, .slice ad3 p0.Bits.length cp4]) p0) (by kernel_rfl))
        refine sCall (X := Value) (f := 54) (vs := [.int .i64 p0.W, .int .i64 p0.H, .func (.func 59) #[] #[.pointer (some ⟨b6, 0, none⟩)]]) (val := c_grid_build_s4_val r30) (B' := fun _ => []) (D' := c_grid_build_s4_D r30) [] [eBox b7 24 [.int .i64 0, .int .i64 0, .slice none 0 0]] [fPtr r_api_Grid (.pointer (some ⟨b6, 0, none⟩)) p0] [0] [0] S (wN rfl) rfl callee54 (by kernel_rfl) (by decide) (by kernel_rfl) (by kernel_rfl) (fun E1 w1 S1 => c_grid_build_s4 E1 w1 p0.W p0.H p0 (.pointer (some ⟨b6, 0, none⟩)) r30 hx31 S1) rfl (by decide) (fun u32 a w S => ?_)
        obtain ⟨u33, rfl, hu34⟩ := S.mem.know (i := 0) (e := fRep r_api_Grid (u32) r30) (by kernel_rfl)
        have S := S.learn (fRep (rL rB) u33 r30.Bits) hu34
        obtain ⟨ad35, cp36, _, rfl, _⟩ := hu34
        refine sStore (p := b7) (off := 0) (T := 24) (vs := [.int .i64 0, .int .i64 0, .slice none 0 0]) (v := .agg #[.int .i64 r30.W, .int .i64 r30.H, .slice ad35 r30.Bits.length cp36]) 0 [.int .i64 r30.W, .int .i64 r30.H, .slice ad35 r30.Bits.length cp36] S (wN rfl) rfl (by kernel_rfl) (by kernel_rfl) rfl (by kernel_rfl) (by kernel_rfl) rfl (by simp) rfl (fun a w S => ?_)
        refine sMove (.int .i64 0) S (wN rfl) (.inr rfl) (by kernel_rfl) rfl (by decide) (fun a S => ?_)
        refine leafL (leafT (hK29 _ _ ?_))
        obtain rfl := Option.some.inj h
        exact wp_ret (rBlock (rThen (sRet (.tuple #[.agg #[.int .i64 r30.W, .int .i64 r30.H, .slice ad35 r30.Bits.length cp36], .int .i64 0]) S (rsl2 rfl (rvN (c := 4) (t := 24) (T := 24) (p := b7) 0 [.int .i64 r30.W, .int .i64 r30.H, .slice ad35 r30.Bits.length cp36] S (by kernel_rfl) (by kernel_rfl) (by kernel_rfl) (by kernel_rfl)) (rvT (t := 5) (v := .int .i64 0) S (by kernel_rfl))) ⟨(.agg #[.int .i64 r30.W, .int .i64 r30.H, .slice ad35 r30.Bits.length cp36]), rfl, S.mem.sel [] [1] (by decide) (by kernel_rfl) (by kernel_rfl)⟩)))
      · refine sCondF (b := p1 == 1) S (by kernel_rfl) hc28 ?_
        refine wp_skip (leafB (leafT (hK15 _ _ ?_)))
        refine sSeq (fun K37 hK37 => ?_)
        refine sRegion ?_
        refine sBuild [] [.int .i64 0, .int .i64 0, .slice none 0 0] S (wN rfl) rfl (by kernel_rfl) (by kernel_rfl) rfl (by decide) (fun a S => ?_)
        refine sStore (p := b7) (off := 0) (T := 24) (vs := [.int .i64 0, .int .i64 0, .slice none 0 0]) (v := .agg #[.int .i64 0, .int .i64 0, .slice none 0 0]) 0 [.int .i64 0, .int .i64 0, .slice none 0 0] S (wN rfl) rfl (by kernel_rfl) (by kernel_rfl) rfl (by kernel_rfl) (by kernel_rfl) rfl (by simp) rfl (fun a w S => ?_)
        refine sMove (.int .i64 2) S (wN rfl) (.inr rfl) (by kernel_rfl) rfl (by decide) (fun a S => ?_)
        refine leafL (leafT (hK37 _ _ ?_))
        obtain rfl := Option.some.inj h
        have S := S.learn (fRep (rL rB) (.slice none 0 0) ([] : (List Bool))) (rL_nil _ _ _)
        have S := S.learn (fRep r_api_Grid (.agg #[.int .i64 0, .int .i64 0, .slice none 0 0]) (api_Grid.mk 0 0 ([] : (List Bool)))) ⟨_, rfl, S.mem.know (i := 0) (e := fRep (rL rB) (.slice none 0 0) ([] : (List Bool))) (by kernel_rfl)⟩
        exact wp_ret (sRet (.tuple #[.agg #[.int .i64 0, .int .i64 0, .slice none 0 0], .int .i64 2]) S (rsl2 rfl (rvN (c := 4) (t := 24) (T := 24) (p := b7) 0 [.int .i64 0, .int .i64 0, .slice none 0 0] S (by kernel_rfl) (by kernel_rfl) (by kernel_rfl) (by kernel_rfl)) (rvT (t := 5) (v := .int .i64 2) S (by kernel_rfl))) ⟨(.agg #[.int .i64 0, .int .i64 0, .slice none 0 0]), rfl, S.mem.sel [] [0] (by decide) (by kernel_rfl) (by kernel_rfl)⟩)

end Go.Proofs.Ytjndecalogklhaa
namespace Go.Proofs.Ytjndecalogklhaa
open Go.RowKit
set_option linter.unusedVariables false

noncomputable def F_raddlelaw24_SettSame (p0 : api_Grid) (p1 : Int) (p2 : Int) (p3 : Int) (p4 : Int) : Option Bool :=
  Option.bind (F_raddlelaw24_alive) fun r8 =>
  Option.bind (α := Bool) (
    Option.bind (F_raddlelaw24_fit p0) fun r14 =>
    if !r14 then
      some true
    else
      if decide (p1 < 1) then
        some true
      else
        if decide (1000 < p1) then
          some true
        else
          if decide (p2 < (-1000)) then
            some true
          else
            if decide (1000 < p2) then
              some true
            else
              if decide (p3 < (-1000)) then
                some true
              else
                if decide (1000 < p3) then
                  some true
                else
                  some (!r8)) fun o11 =>
  if o11 then
    some r8
  else
    Option.bind (F_sett_Setts p0 p1) fun r26 =>
    if r26.2.2 != 0 then
      some false
    else
      Option.bind (F_grid_Shift p0 p2 p3) fun r37 =>
      Option.bind (F_grid_Not p0) fun r46 =>
      Option.bind (F_grid_Turn p0) fun r55 =>
      Option.bind (F_grid_Mirror p0 p4) fun r64 =>
      Option.bind (α := Bool) (
        if r46.2 != 0 then
          some true
        else
          if r55.2 != 0 then
            some true
          else
            Option.bind (F_raddlelaw24_fit r46.1) fun r78 =>
            if !r78 then
              some true
            else
              Option.bind (F_raddlelaw24_fit r55.1) fun r81 =>
              some (!r81)) fun o73 =>
      if o73 then
        some false
      else
        Option.bind (F_sett_Setts r46.1 p1) fun r86 =>
        Option.bind (F_sett_Setts r55.1 p1) fun r93 =>
        Option.bind (α := Bool) (
          if r86.2.2 != 0 then
            some true
          else
            if r93.2.2 != 0 then
              some true
            else
              if !((r86.1.Num == r26.1.Num) && ((r86.1.Den == r26.1.Den) && true)) then
                some true
              else
                if !((r86.2.1.Num == r26.2.1.Num) && ((r86.2.1.Den == r26.2.1.Den) && true)) then
                  some true
                else
                  if !((r93.1.Num == r26.2.1.Num) && ((r93.1.Den == r26.2.1.Den) && true)) then
                    some true
                  else
                    some (!((r93.2.1.Num == r26.1.Num) && ((r93.2.1.Den == r26.1.Den) && true)))) fun o100 =>
        if o100 then
          some false
        else
          Option.bind (α := Unit ⊕ Bool) (
            if r37.2 == 0 then
              Option.bind (F_sett_Setts r37.1 p1) fun r115 =>
              Option.bind (α := Bool) (
                if r115.2.2 != 0 then
                  some true
                else
                  if !((r115.1.Num == r26.1.Num) && ((r115.1.Den == r26.1.Den) && true)) then
                    some true
                  else
                    some (!((r115.2.1.Num == r26.2.1.Num) && ((r115.2.1.Den == r26.2.1.Den) && true)))) fun o121 =>
              if o121 then
                some (.inr false)
              else
                some (.inl ())
            else
              some (.inl ())) fun z0 => match z0 with
            | .inl _ =>
              if r64.2 == 0 then
                Option.bind (F_sett_Setts r64.1 p1) fun r132 =>
                Option.bind (α := Bool) (
                  if r8 then
                    if r132.2.2 == 0 then
                      if ((r132.1.Num == r26.1.Num) && ((r132.1.Den == r26.1.Den) && true)) then
                        some ((r132.2.1.Num == r26.2.1.Num) && ((r132.2.1.Den == r26.2.1.Den) && true))
                      else
                        some false
                    else
                      some false
                  else
                    some false) fun o138 =>
                some o138
              else
                some r8
            | .inr z =>
              some z
set_option maxHeartbeats 4000000 in
set_option maxRecDepth 100000 in
theorem c_raddlelaw24_SettSame (E : Nat → Prop) (w0 : World) (p0 : api_Grid) (v0 : Value) (p1 : Int) (p2 : Int) (p3 : Int) (p4 : Int) (r : Bool) (h : F_raddlelaw24_SettSame p0 p1 p2 p3 p4 = some r) (S : St0 E [] w0 w0 [] [fRep r_api_Grid (v0) p0]) :
    Calls Try.prog 8 #[v0, .int .i64 p1, .int .i64 p2, .int .i64 p3, .int .i64 p4] w0 (Ret (X := Unit) E [] w0 (fun _ => .bool r) (fun _ => []) (fun _ => [])) := by
  unfold F_raddlelaw24_SettSame at h
  obtain ⟨u1, rfl, hu2⟩ := S.know (i := 0) (e := fRep r_api_Grid (v0) p0) (by kernel_rfl)
  have S := S.learn (fRep (rL rB) u1 p0.Bits) hu2
  obtain ⟨ad3, cp4, _, rfl, _⟩ := hu2
  refine sEnter (args := [.agg #[.int .i64 p0.W, .int .i64 p0.H, .slice ad3 p0.Bits.length cp4], .int .i64 p1, .int .i64 p2, .int .i64 p3, .int .i64 p4]) 202 Try.func8 rfl rfl (by simp) S (fun a S => ?_)
  refine sSeq (fun K5 hK5 => ?_)
  refine sRegion ?_
  refine sBox (v := .agg #[.int .i64 p0.W, .int .i64 p0.H, .slice ad3 p0.Bits.length cp4]) S (wN rfl) rfl (by kernel_rfl) [.int .i64 p0.W, .int .i64 p0.H, .slice ad3 p0.Bits.length cp4] rfl rfl (by decide) (fun a b6 w S => ?_)
  refine sMove (.bool false) S (wN rfl) (.inr rfl) (by kernel_rfl) rfl (by decide) (fun a S => ?_)
  refine leafL (leafT (hK5 _ _ ?_))
  refine sSeq (fun K7 hK7 => ?_)
  refine sRegion ?_
  obtain ⟨r8, hx9, h⟩ := bindSome h
  have S1 := S.mem
  refine sCallQ (X := Unit) (f := 17) (vs := []) (val := fun _ => .bool r8) S (wN rfl) rfl callee17 (by kernel_rfl) (S1.quiet [] (by kernel_rfl)) (fun E1 w1 S1 => c_raddlelaw24_alive E1 w1  r8 hx9 S1) rfl (by decide) (fun _ a w S => ?_)
  refine sMove (.bool r8) S (wN rfl) (.inr rfl) (by kernel_rfl) rfl (by decide) (fun a S => ?_)
  refine leafL (leafT (hK7 _ _ ?_))
  refine sSeq (fun K10 hK10 => ?_)
  obtain ⟨t12, h, g13⟩ := bindSome h
  refine sCut (fun a w => ∃ o11, o11 = t12 ∧ St E [] w0 202 a w [(1, .int .i64 p1), (2, .int .i64 p2), (3, .int .i64 p3), (4, .int .i64 p4), (5, .pointer (some ⟨b6, 0, none⟩)), (11, .bool r8), (66, .bool o11)] [eBox b6 24 [.int .i64 p0.W, .int .i64 p0.H, .slice ad3 p0.Bits.length cp4]] [fRep (rL rB) (.slice ad3 p0.Bits.length cp4) p0.Bits]) ?_ (fun a w hI => ?_)
  · refine sRegion ?_
    refine sLoadN (p := b6) (off := 0) (T := 24) (vs := [.int .i64 p0.W, .int .i64 p0.H, .slice ad3 p0.Bits.length cp4]) 0 [.int .i64 p0.W, .int .i64 p0.H, .slice ad3 p0.Bits.length cp4] S (wN rfl) rfl (by kernel_rfl) (by kernel_rfl) (by kernel_rfl) (by kernel_rfl) rfl rfl (by decide) (fun a S => ?_)
    obtain ⟨r14, hx15, h⟩ := bindSome h
    have S1 := S.mem
    refine sCallQ (X := Unit) (f := 18) (vs := [.agg #[.int .i64 p0.W, .int .i64 p0.H, .slice ad3 p0.Bits.length cp4]]) (val := fun _ => .bool r14) S (wN rfl) rfl callee18 (by kernel_rfl) (S1.quiet [1] (by kernel_rfl)) (fun E1 w1 S1 => c_raddlelaw24_fit E1 w1 p0 (.agg #[.int .i64 p0.W, .int .i64 p0.H, .slice ad3 p0.Bits.length cp4]) r14 hx15 S1) rfl (by decide) (fun _ a w S => ?_)
    refine sNot (b := r14) S (wN rfl) rfl (by kernel_rfl) rfl (by decide) (fun a S => ?_)
    refine sMove (.bool (!r14)) S (wN rfl) (.inl rfl) (by kernel_rfl) rfl (by decide) (fun a S => ?_)
    rcases iteSome h with ⟨hc16, h⟩ | ⟨hc16, h⟩
    · refine sSkip (c := !r14) 3 false 39 40 S rfl rfl (by kernel_rfl) hc16 rfl (by decide) (fun a S => ?_)
      refine sSkip (c := !r14) 3 false 39 41 S rfl rfl (by kernel_rfl) hc16 rfl (by decide) (fun a S => ?_)
      refine sPickT (b := !r14) (.bool true) S (wN rfl) rfl (by kernel_rfl) hc16 (by kernel_rfl) rfl (by decide) (fun a S => ?_)
      refine sMove (.bool true) S (wN rfl) (.inl rfl) (by kernel_rfl) rfl (by decide) (fun a S => ?_)
      refine sSkip (c := true) 7 false 43 44 S rfl rfl (by kernel_rfl) rfl rfl (by decide) (fun a S => ?_)
      refine sSkip (c := true) 7 false 43 45 S rfl rfl (by kernel_rfl) rfl rfl (by decide) (fun a S => ?_)
      refine sPickT (b := true) (.bool true) S (wN rfl) rfl (by kernel_rfl) rfl (by kernel_rfl) rfl (by decide) (fun a S => ?_)
      refine sMove (.bool true) S (wN rfl) (.inl rfl) (by kernel_rfl) rfl (by decide) (fun a S => ?_)
      refine sSkip (c := true) 11 false 47 48 S rfl rfl (by kernel_rfl) rfl rfl (by decide) (fun a S => ?_)
      refine sSkip (c := true) 11 false 47 49 S rfl rfl (by kernel_rfl) rfl rfl (by decide) (fun a S => ?_)
      refine sPickT (b := true) (.bool true) S (wN rfl) rfl (by kernel_rfl) rfl (by kernel_rfl) rfl (by decide) (fun a S => ?_)
      refine sMove (.bool true) S (wN rfl) (.inl rfl) (by kernel_rfl) rfl (by decide) (fun a S => ?_)
      refine sSkip (c := true) 15 false 51 52 S rfl rfl (by kernel_rfl) rfl rfl (by decide) (fun a S => ?_)
      refine sSkip (c := true) 15 false 51 53 S rfl rfl (by kernel_rfl) rfl rfl (by decide) (fun a S => ?_)
      refine sPickT (b := true) (.bool true) S (wN rfl) rfl (by kernel_rfl) rfl (by kernel_rfl) rfl (by decide) (fun a S => ?_)
      refine sMove (.bool true) S (wN rfl) (.inl rfl) (by kernel_rfl) rfl (by decide) (fun a S => ?_)
      refine sSkip (c := true) 19 false 55 56 S rfl rfl (by kernel_rfl) rfl rfl (by decide) (fun a S => ?_)
      refine sSkip (c := true) 19 false 55 57 S rfl rfl (by kernel_rfl) rfl rfl (by decide) (fun a S => ?_)
      refine sPickT (b := true) (.bool true) S (wN rfl) rfl (by kernel_rfl) rfl (by kernel_rfl) rfl (by decide) (fun a S => ?_)
      refine sMove (.bool true) S (wN rfl) (.inl rfl) (by kernel_rfl) rfl (by decide) (fun a S => ?_)
      refine sSkip (c := true) 23 false 59 60 S rfl rfl (by kernel_rfl) rfl rfl (by decide) (fun a S => ?_)
      refine sSkip (c := true) 23 false 59 61 S rfl rfl (by kernel_rfl) rfl rfl (by decide) (fun a S => ?_)
      refine sPickT (b := true) (.bool true) S (wN rfl) rfl (by kernel_rfl) rfl (by kernel_rfl) rfl (by decide) (fun a S => ?_)
      refine sMove (.bool true) S (wN rfl) (.inl rfl) (by kernel_rfl) rfl (by decide) (fun a S => ?_)
      refine sSkip (c := true) 27 false 63 64 S rfl rfl (by kernel_rfl) rfl rfl (by decide) (fun a S => ?_)
      refine sSkip (c := true) 27 false 63 65 S rfl rfl (by kernel_rfl) rfl rfl (by decide) (fun a S => ?_)
      refine sPickT (b := true) (.bool true) S (wN rfl) rfl (by kernel_rfl) rfl (by kernel_rfl) rfl (by decide) (fun a S => ?_)
      exact leafL (leafT (⟨true, Option.some.inj h, S.fix [0] [0] (by decide) (by kernel_rfl) (by kernel_rfl) (by kernel_rfl)⟩))
    · refine sMove (.int .i64 p1) S (wG (c := !r14) 3 false 39 rfl rfl (by kernel_rfl) hc16) (.inl rfl) (by kernel_rfl) rfl (by decide) (fun a S => ?_)
      refine sBin (.bool (decide (p1 < 1))) S (wG (c := !r14) 3 false 39 rfl rfl (by kernel_rfl) hc16) rfl (by kernel_rfl) (by kernel_rfl) (bLt _ _ _ _ .i64 p1 1) rfl (by decide) (fun a S => ?_)
      refine sPickF (b := !r14) (.bool (decide (p1 < 1))) S (wN rfl) rfl (by kernel_rfl) hc16 (by kernel_rfl) rfl (by decide) (fun a S => ?_)
      refine sMove (.bool (decide (p1 < 1))) S (wN rfl) (.inl rfl) (by kernel_rfl) rfl (by decide) (fun a S => ?_)
      rcases iteSome h with ⟨hc17, h⟩ | ⟨hc17, h⟩
      · refine sSkip (c := decide (p1 < 1)) 7 false 43 44 S rfl rfl (by kernel_rfl) hc17 rfl (by decide) (fun a S => ?_)
        refine sSkip (c := decide (p1 < 1)) 7 false 43 45 S rfl rfl (by kernel_rfl) hc17 rfl (by decide) (fun a S => ?_)
        refine sPickT (b := decide (p1 < 1)) (.bool true) S (wN rfl) rfl (by kernel_rfl) hc17 (by kernel_rfl) rfl (by decide) (fun a S => ?_)
        refine sMove (.bool true) S (wN rfl) (.inl rfl) (by kernel_rfl) rfl (by decide) (fun a S => ?_)
        refine sSkip (c := true) 11 false 47 48 S rfl rfl (by kernel_rfl) rfl rfl (by decide) (fun a S => ?_)
        refine sSkip (c := true) 11 false 47 49 S rfl rfl (by kernel_rfl) rfl rfl (by decide) (fun a S => ?_)
        refine sPickT (b := true) (.bool true) S (wN rfl) rfl (by kernel_rfl) rfl (by kernel_rfl) rfl (by decide) (fun a S => ?_)
        refine sMove (.bool true) S (wN rfl) (.inl rfl) (by kernel_rfl) rfl (by decide) (fun a S => ?_)
        refine sSkip (c := true) 15 false 51 52 S rfl rfl (by kernel_rfl) rfl rfl (by decide) (fun a S => ?_)
        refine sSkip (c := true) 15 false 51 53 S rfl rfl (by kernel_rfl) rfl rfl (by decide) (fun a S => ?_)
        refine sPickT (b := true) (.bool true) S (wN rfl) rfl (by kernel_rfl) rfl (by kernel_rfl) rfl (by decide) (fun a S => ?_)
        refine sMove (.bool true) S (wN rfl) (.inl rfl) (by kernel_rfl) rfl (by decide) (fun a S => ?_)
        refine sSkip (c := true) 19 false 55 56 S rfl rfl (by kernel_rfl) rfl rfl (by decide) (fun a S => ?_)
        refine sSkip (c := true) 19 false 55 57 S rfl rfl (by kernel_rfl) rfl rfl (by decide) (fun a S => ?_)
        refine sPickT (b := true) (.bool true) S (wN rfl) rfl (by kernel_rfl) rfl (by kernel_rfl) rfl (by decide) (fun a S => ?_)
        refine sMove (.bool true) S (wN rfl) (.inl rfl) (by kernel_rfl) rfl (by decide) (fun a S => ?_)
        refine sSkip (c := true) 23 false 59 60 S rfl rfl (by kernel_rfl) rfl rfl (by decide) (fun a S => ?_)
        refine sSkip (c := true) 23 false 59 61 S rfl rfl (by kernel_rfl) rfl rfl (by decide) (fun a S => ?_)
        refine sPickT (b := true) (.bool true) S (wN rfl) rfl (by kernel_rfl) rfl (by kernel_rfl) rfl (by decide) (fun a S => ?_)
        refine sMove (.bool true) S (wN rfl) (.inl rfl) (by kernel_rfl) rfl (by decide) (fun a S => ?_)
        refine sSkip (c := true) 27 false 63 64 S rfl rfl (by kernel_rfl) rfl rfl (by decide) (fun a S => ?_)
        refine sSkip (c := true) 27 false 63 65 S rfl rfl (by kernel_rfl) rfl rfl (by decide) (fun a S => ?_)
        refine sPickT (b := true) (.bool true) S (wN rfl) rfl (by kernel_rfl) rfl (by kernel_rfl) rfl (by decide) (fun a S => ?_)
        exact leafL (leafT (⟨true, Option.some.inj h, S.fix [0] [0] (by decide) (by kernel_rfl) (by kernel_rfl) (by kernel_rfl)⟩))
      · refine sMove (.int .i64 p1) S (wG (c := decide (p1 < 1)) 7 false 43 rfl rfl (by kernel_rfl) hc17) (.inl rfl) (by kernel_rfl) rfl (by decide) (fun a S => ?_)
        refine sBin (.bool (decide (1000 < p1))) S (wG (c := decide (p1 < 1)) 7 false 43 rfl rfl (by kernel_rfl) hc17) rfl (by kernel_rfl) (by kernel_rfl) (bGt _ _ _ _ .i64 p1 1000) rfl (by decide) (fun a S => ?_)
        refine sPickF (b := decide (p1 < 1)) (.bool (decide (1000 < p1))) S (wN rfl) rfl (by kernel_rfl) hc17 (by kernel_rfl) rfl (by decide) (fun a S => ?_)
        refine sMove (.bool (decide (1000 < p1))) S (wN rfl) (.inl rfl) (by kernel_rfl) rfl (by decide) (fun a S => ?_)
        rcases iteSome h with ⟨hc18, h⟩ | ⟨hc18, h⟩
        · refine sSkip (c := decide (1000 < p1)) 11 false 47 48 S rfl rfl (by kernel_rfl) hc18 rfl (by decide) (fun a S => ?_)
          refine sSkip (c := decide (1000 < p1)) 11 false 47 49 S rfl rfl (by kernel_rfl) hc18 rfl (by decide) (fun a S => ?_)
          refine sPickT (b := decide (1000 < p1)) (.bool true) S (wN rfl) rfl (by kernel_rfl) hc18 (by kernel_rfl) rfl (by decide) (fun a S => ?_)
          refine sMove (.bool true) S (wN rfl) (.inl rfl) (by kernel_rfl) rfl (by decide) (fun a S => ?_)
          refine sSkip (c := true) 15 false 51 52 S rfl rfl (by kernel_rfl) rfl rfl (by decide) (fun a S => ?_)
          refine sSkip (c := true) 15 false 51 53 S rfl rfl (by kernel_rfl) rfl rfl (by decide) (fun a S => ?_)
          refine sPickT (b := true) (.bool true) S (wN rfl) rfl (by kernel_rfl) rfl (by kernel_rfl) rfl (by decide) (fun a S => ?_)
          refine sMove (.bool true) S (wN rfl) (.inl rfl) (by kernel_rfl) rfl (by decide) (fun a S => ?_)
          refine sSkip (c := true) 19 false 55 56 S rfl rfl (by kernel_rfl) rfl rfl (by decide) (fun a S => ?_)
          refine sSkip (c := true) 19 false 55 57 S rfl rfl (by kernel_rfl) rfl rfl (by decide) (fun a S => ?_)
          refine sPickT (b := true) (.bool true) S (wN rfl) rfl (by kernel_rfl) rfl (by kernel_rfl) rfl (by decide) (fun a S => ?_)
          refine sMove (.bool true) S (wN rfl) (.inl rfl) (by kernel_rfl) rfl (by decide) (fun a S => ?_)
          refine sSkip (c := true) 23 false 59 60 S rfl rfl (by kernel_rfl) rfl rfl (by decide) (fun a S => ?_)
          refine sSkip (c := true) 23 false 59 61 S rfl rfl (by kernel_rfl) rfl rfl (by decide) (fun a S => ?_)
          refine sPickT (b := true) (.bool true) S (wN rfl) rfl (by kernel_rfl) rfl (by kernel_rfl) rfl (by decide) (fun a S => ?_)
          refine sMove (.bool true) S (wN rfl) (.inl rfl) (by kernel_rfl) rfl (by decide) (fun a S => ?_)
          refine sSkip (c := true) 27 false 63 64 S rfl rfl (by kernel_rfl) rfl rfl (by decide) (fun a S => ?_)
          refine sSkip (c := true) 27 false 63 65 S rfl rfl (by kernel_rfl) rfl rfl (by decide) (fun a S => ?_)
          refine sPickT (b := true) (.bool true) S (wN rfl) rfl (by kernel_rfl) rfl (by kernel_rfl) rfl (by decide) (fun a S => ?_)
          exact leafL (leafT (⟨true, Option.some.inj h, S.fix [0] [0] (by decide) (by kernel_rfl) (by kernel_rfl) (by kernel_rfl)⟩))
        · refine sMove (.int .i64 p2) S (wG (c := decide (1000 < p1)) 11 false 47 rfl rfl (by kernel_rfl) hc18) (.inl rfl) (by kernel_rfl) rfl (by decide) (fun a S => ?_)
          refine sBin (.bool (decide (p2 < (-1000)))) S (wG (c := decide (1000 < p1)) 11 false 47 rfl rfl (by kernel_rfl) hc18) rfl (by kernel_rfl) (by kernel_rfl) (bLt _ _ _ _ .i64 p2 (-1000)) rfl (by decide) (fun a S => ?_)
          refine sPickF (b := decide (1000 < p1)) (.bool (decide (p2 < (-1000)))) S (wN rfl) rfl (by kernel_rfl) hc18 (by kernel_rfl) rfl (by decide) (fun a S => ?_)
          refine sMove (.bool (decide (p2 < (-1000)))) S (wN rfl) (.inl rfl) (by kernel_rfl) rfl (by decide) (fun a S => ?_)
          rcases iteSome h with ⟨hc19, h⟩ | ⟨hc19, h⟩
          · refine sSkip (c := decide (p2 < (-1000))) 15 false 51 52 S rfl rfl (by kernel_rfl) hc19 rfl (by decide) (fun a S => ?_)
            refine sSkip (c := decide (p2 < (-1000))) 15 false 51 53 S rfl rfl (by kernel_rfl) hc19 rfl (by decide) (fun a S => ?_)
            refine sPickT (b := decide (p2 < (-1000))) (.bool true) S (wN rfl) rfl (by kernel_rfl) hc19 (by kernel_rfl) rfl (by decide) (fun a S => ?_)
            refine sMove (.bool true) S (wN rfl) (.inl rfl) (by kernel_rfl) rfl (by decide) (fun a S => ?_)
            refine sSkip (c := true) 19 false 55 56 S rfl rfl (by kernel_rfl) rfl rfl (by decide) (fun a S => ?_)
            refine sSkip (c := true) 19 false 55 57 S rfl rfl (by kernel_rfl) rfl rfl (by decide) (fun a S => ?_)
            refine sPickT (b := true) (.bool true) S (wN rfl) rfl (by kernel_rfl) rfl (by kernel_rfl) rfl (by decide) (fun a S => ?_)
            refine sMove (.bool true) S (wN rfl) (.inl rfl) (by kernel_rfl) rfl (by decide) (fun a S => ?_)
            refine sSkip (c := true) 23 false 59 60 S rfl rfl (by kernel_rfl) rfl rfl (by decide) (fun a S => ?_)
            refine sSkip (c := true) 23 false 59 61 S rfl rfl (by kernel_rfl) rfl rfl (by decide) (fun a S => ?_)
            refine sPickT (b := true) (.bool true) S (wN rfl) rfl (by kernel_rfl) rfl (by kernel_rfl) rfl (by decide) (fun a S => ?_)
            refine sMove (.bool true) S (wN rfl) (.inl rfl) (by kernel_rfl) rfl (by decide) (fun a S => ?_)
            refine sSkip (c := true) 27 false 63 64 S rfl rfl (by kernel_rfl) rfl rfl (by decide) (fun a S => ?_)
            refine sSkip (c := true) 27 false 63 65 S rfl rfl (by kernel_rfl) rfl rfl (by decide) (fun a S => ?_)
            refine sPickT (b := true) (.bool true) S (wN rfl) rfl (by kernel_rfl) rfl (by kernel_rfl) rfl (by decide) (fun a S => ?_)
            exact leafL (leafT (⟨true, Option.some.inj h, S.fix [0] [0] (by decide) (by kernel_rfl) (by kernel_rfl) (by kernel_rfl)⟩))
          · refine sMove (.int .i64 p2) S (wG (c := decide (p2 < (-1000))) 15 false 51 rfl rfl (by kernel_rfl) hc19) (.inl rfl) (by kernel_rfl) rfl (by decide) (fun a S => ?_)
            refine sBin (.bool (decide (1000 < p2))) S (wG (c := decide (p2 < (-1000))) 15 false 51 rfl rfl (by kernel_rfl) hc19) rfl (by kernel_rfl) (by kernel_rfl) (bGt _ _ _ _ .i64 p2 1000) rfl (by decide) (fun a S => ?_)
            refine sPickF (b := decide (p2 < (-1000))) (.bool (decide (1000 < p2))) S (wN rfl) rfl (by kernel_rfl) hc19 (by kernel_rfl) rfl (by decide) (fun a S => ?_)
            refine sMove (.bool (decide (1000 < p2))) S (wN rfl) (.inl rfl) (by kernel_rfl) rfl (by decide) (fun a S => ?_)
            rcases iteSome h with ⟨hc20, h⟩ | ⟨hc20, h⟩
            · refine sSkip (c := decide (1000 < p2)) 19 false 55 56 S rfl rfl (by kernel_rfl) hc20 rfl (by decide) (fun a S => ?_)
              refine sSkip (c := decide (1000 < p2)) 19 false 55 57 S rfl rfl (by kernel_rfl) hc20 rfl (by decide) (fun a S => ?_)
              refine sPickT (b := decide (1000 < p2)) (.bool true) S (wN rfl) rfl (by kernel_rfl) hc20 (by kernel_rfl) rfl (by decide) (fun a S => ?_)
              refine sMove (.bool true) S (wN rfl) (.inl rfl) (by kernel_rfl) rfl (by decide) (fun a S => ?_)
              refine sSkip (c := true) 23 false 59 60 S rfl rfl (by kernel_rfl) rfl rfl (by decide) (fun a S => ?_)
              refine sSkip (c := true) 23 false 59 61 S rfl rfl (by kernel_rfl) rfl rfl (by decide) (fun a S => ?_)
              refine sPickT (b := true) (.bool true) S (wN rfl) rfl (by kernel_rfl) rfl (by kernel_rfl) rfl (by decide) (fun a S => ?_)
              refine sMove (.bool true) S (wN rfl) (.inl rfl) (by kernel_rfl) rfl (by decide) (fun a S => ?_)
              refine sSkip (c := true) 27 false 63 64 S rfl rfl (by kernel_rfl) rfl rfl (by decide) (fun a S => ?_)
              refine sSkip (c := true) 27 false 63 65 S rfl rfl (by kernel_rfl) rfl rfl (by decide) (fun a S => ?_)
              refine sPickT (b := true) (.bool true) S (wN rfl) rfl (by kernel_rfl) rfl (by kernel_rfl) rfl (by decide) (fun a S => ?_)
              exact leafL (leafT (⟨true, Option.some.inj h, S.fix [0] [0] (by decide) (by kernel_rfl) (by kernel_rfl) (by kernel_rfl)⟩))
            · refine sMove (.int .i64 p3) S (wG (c := decide (1000 < p2)) 19 false 55 rfl rfl (by kernel_rfl) hc20) (.inl rfl) (by kernel_rfl) rfl (by decide) (fun a S => ?_)
              refine sBin (.bool (decide (p3 < (-1000)))) S (wG (c := decide (1000 < p2)) 19 false 55 rfl rfl (by kernel_rfl) hc20) rfl (by kernel_rfl) (by kernel_rfl) (bLt _ _ _ _ .i64 p3 (-1000)) rfl (by decide) (fun a S => ?_)
              refine sPickF (b := decide (1000 < p2)) (.bool (decide (p3 < (-1000)))) S (wN rfl) rfl (by kernel_rfl) hc20 (by kernel_rfl) rfl (by decide) (fun a S => ?_)
              refine sMove (.bool (decide (p3 < (-1000)))) S (wN rfl) (.inl rfl) (by kernel_rfl) rfl (by decide) (fun a S => ?_)
              rcases iteSome h with ⟨hc21, h⟩ | ⟨hc21, h⟩
              · refine sSkip (c := decide (p3 < (-1000))) 23 false 59 60 S rfl rfl (by kernel_rfl) hc21 rfl (by decide) (fun a S => ?_)
                refine sSkip (c := decide (p3 < (-1000))) 23 false 59 61 S rfl rfl (by kernel_rfl) hc21 rfl (by decide) (fun a S => ?_)
                refine sPickT (b := decide (p3 < (-1000))) (.bool true) S (wN rfl) rfl (by kernel_rfl) hc21 (by kernel_rfl) rfl (by decide) (fun a S => ?_)
                refine sMove (.bool true) S (wN rfl) (.inl rfl) (by kernel_rfl) rfl (by decide) (fun a S => ?_)
                refine sSkip (c := true) 27 false 63 64 S rfl rfl (by kernel_rfl) rfl rfl (by decide) (fun a S => ?_)
                refine sSkip (c := true) 27 false 63 65 S rfl rfl (by kernel_rfl) rfl rfl (by decide) (fun a S => ?_)
                refine sPickT (b := true) (.bool true) S (wN rfl) rfl (by kernel_rfl) rfl (by kernel_rfl) rfl (by decide) (fun a S => ?_)
                exact leafL (leafT (⟨true, Option.some.inj h, S.fix [0] [0] (by decide) (by kernel_rfl) (by kernel_rfl) (by kernel_rfl)⟩))
              · refine sMove (.int .i64 p3) S (wG (c := decide (p3 < (-1000))) 23 false 59 rfl rfl (by kernel_rfl) hc21) (.inl rfl) (by kernel_rfl) rfl (by decide) (fun a S => ?_)
                refine sBin (.bool (decide (1000 < p3))) S (wG (c := decide (p3 < (-1000))) 23 false 59 rfl rfl (by kernel_rfl) hc21) rfl (by kernel_rfl) (by kernel_rfl) (bGt _ _ _ _ .i64 p3 1000) rfl (by decide) (fun a S => ?_)
                refine sPickF (b := decide (p3 < (-1000))) (.bool (decide (1000 < p3))) S (wN rfl) rfl (by kernel_rfl) hc21 (by kernel_rfl) rfl (by decide) (fun a S => ?_)
                refine sMove (.bool (decide (1000 < p3))) S (wN rfl) (.inl rfl) (by kernel_rfl) rfl (by decide) (fun a S => ?_)
                rcases iteSome h with ⟨hc22, h⟩ | ⟨hc22, h⟩
                · refine sSkip (c := decide (1000 < p3)) 27 false 63 64 S rfl rfl (by kernel_rfl) hc22 rfl (by decide) (fun a S => ?_)
                  refine sSkip (c := decide (1000 < p3)) 27 false 63 65 S rfl rfl (by kernel_rfl) hc22 rfl (by decide) (fun a S => ?_)
                  refine sPickT (b := decide (1000 < p3)) (.bool true) S (wN rfl) rfl (by kernel_rfl) hc22 (by kernel_rfl) rfl (by decide) (fun a S => ?_)
                  exact leafL (leafT (⟨true, Option.some.inj h, S.fix [0] [0] (by decide) (by kernel_rfl) (by kernel_rfl) (by kernel_rfl)⟩))
                · refine sMove (.bool r8) S (wG (c := decide (1000 < p3)) 27 false 63 rfl rfl (by kernel_rfl) hc22) (.inl rfl) (by kernel_rfl) rfl (by decide) (fun a S => ?_)
                  refine sNot (b := r8) S (wG (c := decide (1000 < p3)) 27 false 63 rfl rfl (by kernel_rfl) hc22) rfl (by kernel_rfl) rfl (by decide) (fun a S => ?_)
                  refine sPickF (b := decide (1000 < p3)) (.bool (!r8)) S (wN rfl) rfl (by kernel_rfl) hc22 (by kernel_rfl) rfl (by decide) (fun a S => ?_)
                  exact leafL (leafT (⟨!r8, Option.some.inj h, S.fix [0] [0] (by decide) (by kernel_rfl) (by kernel_rfl) (by kernel_rfl)⟩))
  · obtain ⟨o11, rfl, S⟩ := hI
    have h := g13
    clear g13
    try dsimp only at h
    rcases iteSome h with ⟨hc23, h⟩ | ⟨hc23, h⟩
    · refine sCondT (b := o11) S (by kernel_rfl) hc23 ?_
      refine sSeq (fun K24 hK24 => ?_)
      refine sRegion ?_
      refine sMove (.bool r8) S (wN rfl) (.inl rfl) (by kernel_rfl) rfl (by decide) (fun a S => ?_)
      refine sMove (.bool r8) S (wN rfl) (.inr rfl) (by kernel_rfl) rfl (by decide) (fun a S => ?_)
      refine leafL (leafT (hK24 _ _ ?_))
      obtain rfl := Option.some.inj h
      exact wp_ret (rThen (sRet (.bool r8) S (rsl1 rfl (rvT (t := 10) (v := .bool r8) S (by kernel_rfl))) ⟨(), rfl, S.mem.sel [] [] (by decide) (by kernel_rfl) (by kernel_rfl)⟩))
    · refine sCondF (b := o11) S (by kernel_rfl) hc23 ?_
      refine wp_skip (leafT (hK10 _ _ ?_))
      refine sSeq (fun K25 hK25 => ?_)
      refine sRegion ?_
      refine sLoadN (p := b6) (off := 0) (T := 24) (vs := [.int .i64 p0.W, .int .i64 p0.H, .slice ad3 p0.Bits.length cp4]) 0 [.int .i64 p0.W, .int .i64 p0.H, .slice ad3 p0.Bits.length cp4] S (wN rfl) rfl (by kernel_rfl) (by kernel_rfl) (by kernel_rfl) (by kernel_rfl) rfl rfl (by decide) (fun a S => ?_)
      refine sMove (.int .i64 p1) S (wN rfl) (.inl rfl) (by kernel_rfl) rfl (by decide) (fun a S => ?_)
      obtain ⟨r26, hx27, h⟩ := bindSome h
      have S := S.learn (fRep r_api_Grid (.agg #[.int .i64 p0.W, .int .i64 p0.H, .slice ad3 p0.Bits.length cp4]) p0) ⟨_, rfl, S.mem.know (i := 0) (e := fRep (rL rB) (.slice ad3 p0.Bits.length cp4) p0.Bits) (by kernel_rfl)⟩
      refine sCall (X := Value × Value) (f := 13) (vs := [.agg #[.int .i64 p0.W, .int .i64 p0.H, .slice ad3 p0.Bits.length cp4], .int .i64 p1]) (val := c_sett_Setts_val r26) (B' := fun _ => []) (D' := c_sett_Setts_D r26) [] [eBox b6 24 [.int .i64 p0.W, .int .i64 p0.H, .slice ad3 p0.Bits.length cp4]] [fRep r_api_Grid (.agg #[.int .i64 p0.W, .int .i64 p0.H, .slice ad3 p0.Bits.length cp4]) p0] [0] [0] S (wN rfl) rfl callee13 (by kernel_rfl) (by decide) (by kernel_rfl) (by kernel_rfl) (fun E1 w1 S1 => c_sett_Setts E1 w1 p0 (.agg #[.int .i64 p0.W, .int .i64 p0.H, .slice ad3 p0.Bits.length cp4]) p1 r26 hx27 S1) rfl (by decide) (fun xx a w S => ?_)
      obtain ⟨u28, u29⟩ := xx
      obtain rfl : u28 = .agg #[.int .i64 r26.1.Num, .int .i64 r26.1.Den] := S.mem.know (i := 0) (e := fRep r_api_Ratio (u28) r26.1) (by kernel_rfl)
      obtain rfl : u29 = .agg #[.int .i64 r26.2.1.Num, .int .i64 r26.2.1.Den] := S.mem.know (i := 1) (e := fRep r_api_Ratio (u29) r26.2.1) (by kernel_rfl)
      refine sMove (.tuple #[.agg #[.int .i64 r26.1.Num, .int .i64 r26.1.Den], .agg #[.int .i64 r26.2.1.Num, .int .i64 r26.2.1.Den], .int .i64 r26.2.2]) S (wN rfl) (.inl rfl) (by kernel_rfl) rfl (by decide) (fun a S => ?_)
      refine sExtract (vs := [.agg #[.int .i64 r26.1.Num, .int .i64 r26.1.Den], .agg #[.int .i64 r26.2.1.Num, .int .i64 r26.2.1.Den], .int .i64 r26.2.2]) (.agg #[.int .i64 r26.1.Num, .int .i64 r26.1.Den]) S (wN rfl) rfl (by kernel_rfl) rfl rfl (by decide) (fun a S => ?_)
      refine sExtract (vs := [.agg #[.int .i64 r26.1.Num, .int .i64 r26.1.Den], .agg #[.int .i64 r26.2.1.Num, .int .i64 r26.2.1.Den], .int .i64 r26.2.2]) (.agg #[.int .i64 r26.2.1.Num, .int .i64 r26.2.1.Den]) S (wN rfl) rfl (by kernel_rfl) rfl rfl (by decide) (fun a S => ?_)
      refine sExtract (vs := [.agg #[.int .i64 r26.1.Num, .int .i64 r26.1.Den], .agg #[.int .i64 r26.2.1.Num, .int .i64 r26.2.1.Den], .int .i64 r26.2.2]) (.int .i64 r26.2.2) S (wN rfl) rfl (by kernel_rfl) rfl rfl (by decide) (fun a S => ?_)
      refine sAlloc (.agg #[.int .i64 0, .int .i64 0]) S (wN rfl) rfl (by kernel_rfl) [.int .i64 0, .int .i64 0] rfl rfl (by decide) (fun a b30 w S => ?_)
      refine sAlloc (.agg #[.int .i64 0, .int .i64 0]) S (wN rfl) rfl (by kernel_rfl) [.int .i64 0, .int .i64 0] rfl rfl (by decide) (fun a b31 w S => ?_)
      refine sStore (p := b30) (off := 0) (T := 34) (vs := [.int .i64 0, .int .i64 0]) (v := .agg #[.int .i64 r26.1.Num, .int .i64 r26.1.Den]) 1 [.int .i64 r26.1.Num, .int .i64 r26.1.Den] S (wN rfl) rfl (by kernel_rfl) (by kernel_rfl) rfl (by kernel_rfl) (by kernel_rfl) rfl (by simp) rfl (fun a w S => ?_)
      refine sStore (p := b31) (off := 0) (T := 34) (vs := [.int .i64 0, .int .i64 0]) (v := .agg #[.int .i64 r26.2.1.Num, .int .i64 r26.2.1.Den]) 1 [.int .i64 r26.2.1.Num, .int .i64 r26.2.1.Den] S (wN rfl) rfl (by kernel_rfl) (by kernel_rfl) rfl (by kernel_rfl) (by kernel_rfl) rfl (by simp) rfl (fun a w S => ?_)
      refine sMove (.int .i64 r26.2.2) S (wN rfl) (.inr rfl) (by kernel_rfl) rfl (by decide) (fun a S => ?_)
      refine leafL (leafT (hK25 _ _ ?_))
      refine sSeq (fun K32 hK32 => ?_)
      refine sSeq (fun K33 hK33 => ?_)
      refine sRegion ?_
      refine sMove (.int .i64 r26.2.2) S (wN rfl) (.inl rfl) (by kernel_rfl) rfl (by decide) (fun a S => ?_)
      refine sBin (.bool (r26.2.2 != 0)) S (wN rfl) rfl (by kernel_rfl) (by kernel_rfl) (bNe _ _ _ _ .i64 r26.2.2 0) rfl (by decide) (fun a S => ?_)
      refine leafL (leafT (hK33 _ _ ?_))
      rcases iteSome h with ⟨hc34, h⟩ | ⟨hc34, h⟩
      · refine sCondT (b := r26.2.2 != 0) S (by kernel_rfl) hc34 ?_
        refine sSeq (fun K35 hK35 => ?_)
        refine sRegion ?_
        refine sMove (.bool false) S (wN rfl) (.inr rfl) (by kernel_rfl) rfl (by decide) (fun a S => ?_)
        refine leafL (leafT (hK35 _ _ ?_))
        obtain rfl := Option.some.inj h
        exact wp_ret (rThen (sRet (.bool false) S (rsl1 rfl (rvT (t := 10) (v := .bool false) S (by kernel_rfl))) ⟨(), rfl, S.mem.sel [] [] (by decide) (by kernel_rfl) (by kernel_rfl)⟩))
      · refine sCondF (b := r26.2.2 != 0) S (by kernel_rfl) hc34 ?_
        refine wp_skip (leafT (hK32 _ _ ?_))
        refine sSeq (fun K36 hK36 => ?_)
        refine sRegion ?_
        refine sLoadN (p := b6) (off := 0) (T := 24) (vs := [.int .i64 p0.W, .int .i64 p0.H, .slice ad3 p0.Bits.length cp4]) 2 [.int .i64 p0.W, .int .i64 p0.H, .slice ad3 p0.Bits.length cp4] S (wN rfl) rfl (by kernel_rfl) (by kernel_rfl) (by kernel_rfl) (by kernel_rfl) rfl rfl (by decide) (fun a S => ?_)
        refine sMove (.int .i64 p2) S (wN rfl) (.inl rfl) (by kernel_rfl) rfl (by decide) (fun a S => ?_)
        refine sMove (.int .i64 p3) S (wN rfl) (.inl rfl) (by kernel_rfl) rfl (by decide) (fun a S => ?_)
        obtain ⟨r37, hx38, h⟩ := bindSome h
        refine sCall (X := Value) (f := 28) (vs := [.agg #[.int .i64 p0.W, .int .i64 p0.H, .slice ad3 p0.Bits.length cp4], .int .i64 p2, .int .i64 p3]) (val := c_grid_Shift_val r37) (B' := fun _ => []) (D' := c_grid_Shift_D r37) [] [eBox b31 34 [.int .i64 r26.2.1.Num, .int .i64 r26.2.1.Den], eBox b30 34 [.int .i64 r26.1.Num, .int .i64 r26.1.Den], eBox b6 24 [.int .i64 p0.W, .int .i64 p0.H, .slice ad3 p0.Bits.length cp4]] [fRep r_api_Grid (.agg #[.int .i64 p0.W, .int .i64 p0.H, .slice ad3 p0.Bits.length cp4]) p0] [0, 1, 2] [2] S (wN rfl) rfl callee28 (by kernel_rfl) (by decide) (by kernel_rfl) (by kernel_rfl) (fun E1 w1 S1 => c_grid_Shift E1 w1 p0 (.agg #[.int .i64 p0.W, .int .i64 p0.H, .slice ad3 p0.Bits.length cp4]) p2 p3 r37 hx38 S1) rfl (by decide) (fun u39 a w S => ?_)
        obtain ⟨u40, rfl, hu41⟩ := S.mem.know (i := 0) (e := fRep r_api_Grid (u39) r37.1) (by kernel_rfl)
        have S := S.learn (fRep (rL rB) u40 r37.1.Bits) hu41
        obtain ⟨ad42, cp43, _, rfl, _⟩ := hu41
        refine sMove (.tuple #[.agg #[.int .i64 r37.1.W, .int .i64 r37.1.H, .slice ad42 r37.1.Bits.length cp43], .int .i64 r37.2]) S (wN rfl) (.inl rfl) (by kernel_rfl) rfl (by decide) (fun a S => ?_)
        refine sExtract (vs := [.agg #[.int .i64 r37.1.W, .int .i64 r37.1.H, .slice ad42 r37.1.Bits.length cp43], .int .i64 r37.2]) (.agg #[.int .i64 r37.1.W, .int .i64 r37.1.H, .slice ad42 r37.1.Bits.length cp43]) S (wN rfl) rfl (by kernel_rfl) rfl rfl (by decide) (fun a S => ?_)
        refine sExtract (vs := [.agg #[.int .i64 r37.1.W, .int .i64 r37.1.H, .slice ad42 r37.1.Bits.length cp43], .int .i64 r37.2]) (.int .i64 r37.2) S (wN rfl) rfl (by kernel_rfl) rfl rfl (by decide) (fun a S => ?_)
        refine sAlloc (.agg #[.int .i64 0, .int .i64 0, .slice none 0 0]) S (wN rfl) rfl (by kernel_rfl) [.int .i64 0, .int .i64 0, .slice none 0 0] rfl rfl (by decide) (fun a b44 w S => ?_)
        refine sStore (p := b44) (off := 0) (T := 24) (vs := [.int .i64 0, .int .i64 0, .slice none 0 0]) (v := .agg #[.int .i64 r37.1.W, .int .i64 r37.1.H, .slice ad42 r37.1.Bits.length cp43]) 0 [.int .i64 r37.1.W, .int .i64 r37.1.H, .slice ad42 r37.1.Bits.length cp43] S (wN rfl) rfl (by kernel_rfl) (by kernel_rfl) rfl (by kernel_rfl) (by kernel_rfl) rfl (by simp) rfl (fun a w S => ?_)
        refine sMove (.int .i64 r37.2) S (wN rfl) (.inr rfl) (by kernel_rfl) rfl (by decide) (fun a S => ?_)
        refine leafL (leafT (hK36 _ _ ?_))
        refine sSeq (fun K45 hK45 => ?_)
        refine sRegion ?_
        refine sLoadN (p := b6) (off := 0) (T := 24) (vs := [.int .i64 p0.W, .int .i64 p0.H, .slice ad3 p0.Bits.length cp4]) 3 [.int .i64 p0.W, .int .i64 p0.H, .slice ad3 p0.Bits.length cp4] S (wN rfl) rfl (by kernel_rfl) (by kernel_rfl) (by kernel_rfl) (by kernel_rfl) rfl rfl (by decide) (fun a S => ?_)
        obtain ⟨r46, hx47, h⟩ := bindSome h
        refine sCall (X := Value) (f := 29) (vs := [.agg #[.int .i64 p0.W, .int .i64 p0.H, .slice ad3 p0.Bits.length cp4]]) (val := c_grid_Not_val r46) (B' := fun _ => []) (D' := c_grid_Not_D r46) [] [eBox b44 24 [.int .i64 r37.1.W, .int .i64 r37.1.H, .slice ad42 r37.1.Bits.length cp43], eBox b31 34 [.int .i64 r26.2.1.Num, .int .i64 r26.2.1.Den], eBox b30 34 [.int .i64 r26.1.Num, .int .i64 r26.1.Den], eBox b6 24 [.int .i64 p0.W, .int .i64 p0.H, .slice ad3 p0.Bits.length cp4]] [fRep r_api_Grid (.agg #[.int .i64 p0.W, .int .i64 p0.H, .slice ad3 p0.Bits.length cp4]) p0] [0, 1, 2, 3] [4] S (wN rfl) rfl callee29 (by kernel_rfl) (by decide) (by kernel_rfl) (by kernel_rfl) (fun E1 w1 S1 => c_grid_Not E1 w1 p0 (.agg #[.int .i64 p0.W, .int .i64 p0.H, .slice ad3 p0.Bits.length cp4]) r46 hx47 S1) rfl (by decide) (fun u48 a w S => ?_)
        obtain ⟨u49, rfl, hu50⟩ := S.mem.know (i := 0) (e := fRep r_api_Grid (u48) r46.1) (by kernel_rfl)
        have S := S.learn (fRep (rL rB) u49 r46.1.Bits) hu50
        obtain ⟨ad51, cp52, _, rfl, _⟩ := hu50
        refine sMove (.tuple #[.agg #[.int .i64 r46.1.W, .int .i64 r46.1.H, .slice ad51 r46.1.Bits.length cp52], .int .i64 r46.2]) S (wN rfl) (.inl rfl) (by kernel_rfl) rfl (by decide) (fun a S => ?_)
        refine sExtract (vs := [.agg #[.int .i64 r46.1.W, .int .i64 r46.1.H, .slice ad51 r46.1.Bits.length cp52], .int .i64 r46.2]) (.agg #[.int .i64 r46.1.W, .int .i64 r46.1.H, .slice ad51 r46.1.Bits.length cp52]) S (wN rfl) rfl (by kernel_rfl) rfl rfl (by decide) (fun a S => ?_)
        refine sExtract (vs := [.agg #[.int .i64 r46.1.W, .int .i64 r46.1.H, .slice ad51 r46.1.Bits.length cp52], .int .i64 r46.2]) (.int .i64 r46.2) S (wN rfl) rfl (by kernel_rfl) rfl rfl (by decide) (fun a S => ?_)
        refine sAlloc (.agg #[.int .i64 0, .int .i64 0, .slice none 0 0]) S (wN rfl) rfl (by kernel_rfl) [.int .i64 0, .int .i64 0, .slice none 0 0] rfl rfl (by decide) (fun a b53 w S => ?_)
        refine sStore (p := b53) (off := 0) (T := 24) (vs := [.int .i64 0, .int .i64 0, .slice none 0 0]) (v := .agg #[.int .i64 r46.1.W, .int .i64 r46.1.H, .slice ad51 r46.1.Bits.length cp52]) 0 [.int .i64 r46.1.W, .int .i64 r46.1.H, .slice ad51 r46.1.Bits.length cp52] S (wN rfl) rfl (by kernel_rfl) (by kernel_rfl) rfl (by kernel_rfl) (by kernel_rfl) rfl (by simp) rfl (fun a w S => ?_)
        refine sMove (.int .i64 r46.2) S (wN rfl) (.inr rfl) (by kernel_rfl) rfl (by decide) (fun a S => ?_)
        refine leafL (leafT (hK45 _ _ ?_))
        refine sSeq (fun K54 hK54 => ?_)
        refine sRegion ?_
        refine sLoadN (p := b6) (off := 0) (T := 24) (vs := [.int .i64 p0.W, .int .i64 p0.H, .slice ad3 p0.Bits.length cp4]) 4 [.int .i64 p0.W, .int .i64 p0.H, .slice ad3 p0.Bits.length cp4] S (wN rfl) rfl (by kernel_rfl) (by kernel_rfl) (by kernel_rfl) (by kernel_rfl) rfl rfl (by decide) (fun a S => ?_)
        obtain ⟨r55, hx56, h⟩ := bindSome h
        refine sCall (X := Value) (f := 30) (vs := [.agg #[.int .i64 p0.W, .int .i64 p0.H, .slice ad3 p0.Bits.length cp4]]) (val := c_grid_Turn_val r55) (B' := fun _ => []) (D' := c_grid_Turn_D r55) [] [eBox b53 24 [.int .i64 r46.1.W, .int .i64 r46.1.H, .slice ad51 r46.1.Bits.length cp52], eBox b44 24 [.int .i64 r37.1.W, .int .i64 r37.1.H, .slice ad42 r37.1.Bits.length cp43], eBox b31 34 [.int .i64 r26.2.1.Num, .int .i64 r26.2.1.Den], eBox b30 34 [.int .i64 r26.1.Num, .int .i64 r26.1.Den], eBox b6 24 [.int .i64 p0.W, .int .i64 p0.H, .slice ad3 p0.Bits.length cp4]] [fRep r_api_Grid (.agg #[.int .i64 p0.W, .int .i64 p0.H, .slice ad3 p0.Bits.length cp4]) p0] [0, 1, 2, 3, 4] [6] S (wN rfl) rfl callee30 (by kernel_rfl) (by decide) (by kernel_rfl) (by kernel_rfl) (fun E1 w1 S1 => c_grid_Turn E1 w1 p0 (.agg #[.int .i64 p0.W, .int .i64 p0.H, .slice ad3 p0.Bits.length cp4]) r55 hx56 S1) rfl (by decide) (fun u57 a w S => ?_)
        obtain ⟨u58, rfl, hu59⟩ := S.mem.know (i := 0) (e := fRep r_api_Grid (u57) r55.1) (by kernel_rfl)
        have S := S.learn (fRep (rL rB) u58 r55.1.Bits) hu59
        obtain ⟨ad60, cp61, _, rfl, _⟩ := hu59
        refine sMove (.tuple #[.agg #[.int .i64 r55.1.W, .int .i64 r55.1.H, .slice ad60 r55.1.Bits.length cp61], .int .i64 r55.2]) S (wN rfl) (.inl rfl) (by kernel_rfl) rfl (by decide) (fun a S => ?_)
        refine sExtract (vs := [.agg #[.int .i64 r55.1.W, .int .i64 r55.1.H, .slice ad60 r55.1.Bits.length cp61], .int .i64 r55.2]) (.agg #[.int .i64 r55.1.W, .int .i64 r55.1.H, .slice ad60 r55.1.Bits.length cp61]) S (wN rfl) rfl (by kernel_rfl) rfl rfl (by decide) (fun a S => ?_)
        refine sExtract (vs := [.agg #[.int .i64 r55.1.W, .int .i64 r55.1.H, .slice ad60 r55.1.Bits.length cp61], .int .i64 r55.2]) (.int .i64 r55.2) S (wN rfl) rfl (by kernel_rfl) rfl rfl (by decide) (fun a S => ?_)
        refine sAlloc (.agg #[.int .i64 0, .int .i64 0, .slice none 0 0]) S (wN rfl) rfl (by kernel_rfl) [.int .i64 0, .int .i64 0, .slice none 0 0] rfl rfl (by decide) (fun a b62 w S => ?_)
        refine sStore (p := b62) (off := 0) (T := 24) (vs := [.int .i64 0, .int .i64 0, .slice none 0 0]) (v := .agg #[.int .i64 r55.1.W, .int .i64 r55.1.H, .slice ad60 r55.1.Bits.length cp61]) 0 [.int .i64 r55.1.W, .int .i64 r55.1.H, .slice ad60 r55.1.Bits.length cp61] S (wN rfl) rfl (by kernel_rfl) (by kernel_rfl) rfl (by kernel_rfl) (by kernel_rfl) rfl (by simp) rfl (fun a w S => ?_)
        refine sMove (.int .i64 r55.2) S (wN rfl) (.inr rfl) (by kernel_rfl) rfl (by decide) (fun a S => ?_)
        refine leafL (leafT (hK54 _ _ ?_))
        refine sSeq (fun K63 hK63 => ?_)
        refine sRegion ?_
        refine sLoadN (p := b6) (off := 0) (T := 24) (vs := [.int .i64 p0.W, .int .i64 p0.H, .slice ad3 p0.Bits.length cp4]) 5 [.int .i64 p0.W, .int .i64 p0.H, .slice ad3 p0.Bits.length cp4] S (wN rfl) rfl (by kernel_rfl) (by kernel_rfl) (by kernel_rfl) (by kernel_rfl) rfl rfl (by decide) (fun a S => ?_)
        refine sMove (.int .i64 p4) S (wN rfl) (.inl rfl) (by kernel_rfl) rfl (by decide) (fun a S => ?_)
        obtain ⟨r64, hx65, h⟩ := bindSome h
        refine sCall (X := Value) (f := 31) (vs := [.agg #[.int .i64 p0.W, .int .i64 p0.H, .slice ad3 p0.Bits.length cp4], .int .i64 p4]) (val := c_grid_Mirror_val r64) (B' := fun _ => []) (D' := c_grid_Mirror_D r64) [] [eBox b62 24 [.int .i64 r55.1.W, .int .i64 r55.1.H, .slice ad60 r55.1.Bits.length cp61], eBox b53 24 [.int .i64 r46.1.W, .int .i64 r46.1.H, .slice ad51 r46.1.Bits.length cp52], eBox b44 24 [.int .i64 r37.1.W, .int .i64 r37.1.H, .slice ad42 r37.1.Bits.length cp43], eBox b31 34 [.int .i64 r26.2.1.Num, .int .i64 r26.2.1.Den], eBox b30 34 [.int .i64 r26.1.Num, .int .i64 r26.1.Den], eBox b6 24 [.int .i64 p0.W, .int .i64 p0.H, .slice ad3 p0.Bits.length cp4]] [fRep r_api_Grid (.agg #[.int .i64 p0.W, .int .i64 p0.H, .slice ad3 p0.Bits.length cp4]) p0] [0, 1, 2, 3, 4, 5] [8] S (wN rfl) rfl callee31 (by kernel_rfl) (by decide) (by kernel_rfl) (by kernel_rfl) (fun E1 w1 S1 => c_grid_Mirror E1 w1 p0 (.agg #[.int .i64 p0.W, .int .i64 p0.H, .slice ad3 p0.Bits.length cp4]) p4 r64 hx65 S1) rfl (by decide) (fun u66 a w S => ?_)
        obtain ⟨u67, rfl, hu68⟩ := S.mem.know (i := 0) (e := fRep r_api_Grid (u66) r64.1) (by kernel_rfl)
        have S := S.learn (fRep (rL rB) u67 r64.1.Bits) hu68
        obtain ⟨ad69, cp70, _, rfl, _⟩ := hu68
        refine sMove (.tuple #[.agg #[.int .i64 r64.1.W, .int .i64 r64.1.H, .slice ad69 r64.1.Bits.length cp70], .int .i64 r64.2]) S (wN rfl) (.inl rfl) (by kernel_rfl) rfl (by decide) (fun a S => ?_)
        refine sExtract (vs := [.agg #[.int .i64 r64.1.W, .int .i64 r64.1.H, .slice ad69 r64.1.Bits.length cp70], .int .i64 r64.2]) (.agg #[.int .i64 r64.1.W, .int .i64 r64.1.H, .slice ad69 r64.1.Bits.length cp70]) S (wN rfl) rfl (by kernel_rfl) rfl rfl (by decide) (fun a S => ?_)
        refine sExtract (vs := [.agg #[.int .i64 r64.1.W, .int .i64 r64.1.H, .slice ad69 r64.1.Bits.length cp70], .int .i64 r64.2]) (.int .i64 r64.2) S (wN rfl) rfl (by kernel_rfl) rfl rfl (by decide) (fun a S => ?_)
        refine sAlloc (.agg #[.int .i64 0, .int .i64 0, .slice none 0 0]) S (wN rfl) rfl (by kernel_rfl) [.int .i64 0, .int .i64 0, .slice none 0 0] rfl rfl (by decide) (fun a b71 w S => ?_)
        refine sStore (p := b71) (off := 0) (T := 24) (vs := [.int .i64 0, .int .i64 0, .slice none 0 0]) (v := .agg #[.int .i64 r64.1.W, .int .i64 r64.1.H, .slice ad69 r64.1.Bits.length cp70]) 0 [.int .i64 r64.1.W, .int .i64 r64.1.H, .slice ad69 r64.1.Bits.length cp70] S (wN rfl) rfl (by kernel_rfl) (by kernel_rfl) rfl (by kernel_rfl) (by kernel_rfl) rfl (by simp) rfl (fun a w S => ?_)
        refine sMove (.int .i64 r64.2) S (wN rfl) (.inr rfl) (by kernel_rfl) rfl (by decide) (fun a S => ?_)
        refine leafL (leafT (hK63 _ _ ?_))
        refine sSeq (fun K72 hK72 => ?_)
        obtain ⟨t74, h, g75⟩ := bindSome h
        refine sCut (fun a w => ∃ o73, o73 = t74 ∧ St E [] w0 202 a w [(1, .int .i64 p1), (11, .bool r8), (12, .pointer (some ⟨b30, 0, none⟩)), (13, .pointer (some ⟨b31, 0, none⟩)), (15, .pointer (some ⟨b44, 0, none⟩)), (16, .int .i64 r37.2), (17, .pointer (some ⟨b53, 0, none⟩)), (19, .pointer (some ⟨b62, 0, none⟩)), (21, .pointer (some ⟨b71, 0, none⟩)), (22, .int .i64 r64.2), (115, .bool o73)] [eBox b30 34 [.int .i64 r26.1.Num, .int .i64 r26.1.Den], eBox b31 34 [.int .i64 r26.2.1.Num, .int .i64 r26.2.1.Den], eBox b44 24 [.int .i64 r37.1.W, .int .i64 r37.1.H, .slice ad42 r37.1.Bits.length cp43], eBox b53 24 [.int .i64 r46.1.W, .int .i64 r46.1.H, .slice ad51 r46.1.Bits.length cp52], eBox b62 24 [.int .i64 r55.1.W, .int .i64 r55.1.H, .slice ad60 r55.1.Bits.length cp61], eBox b71 24 [.int .i64 r64.1.W, .int .i64 r64.1.H, .slice ad69 r64.1.Bits.length cp70]] [fRep (rL rB) (.slice ad42 r37.1.Bits.length cp43) r37.1.Bits, fRep (rL rB) (.slice ad51 r46.1.Bits.length cp52) r46.1.Bits, fRep (rL rB) (.slice ad60 r55.1.Bits.length cp61) r55.1.Bits, fRep (rL rB) (.slice ad69 r64.1.Bits.length cp70) r64.1.Bits]) ?_ (fun a w hI => ?_)
        · refine sRegion ?_
          refine sMove (.int .i64 r46.2) S (wN rfl) (.inl rfl) (by kernel_rfl) rfl (by decide) (fun a S => ?_)
          refine sBin (.bool (r46.2 != 0)) S (wN rfl) rfl (by kernel_rfl) (by kernel_rfl) (bNe _ _ _ _ .i64 r46.2 0) rfl (by decide) (fun a S => ?_)
          refine sMove (.bool (r46.2 != 0)) S (wN rfl) (.inl rfl) (by kernel_rfl) rfl (by decide) (fun a S => ?_)
          rcases iteSome h with ⟨hc76, h⟩ | ⟨hc76, h⟩
          · refine sSkip (c := r46.2 != 0) 2 false 102 103 S rfl rfl (by kernel_rfl) hc76 rfl (by decide) (fun a S => ?_)
            refine sSkip (c := r46.2 != 0) 2 false 102 104 S rfl rfl (by kernel_rfl) hc76 rfl (by decide) (fun a S => ?_)
            refine sPickT (b := r46.2 != 0) (.bool true) S (wN rfl) rfl (by kernel_rfl) hc76 (by kernel_rfl) rfl (by decide) (fun a S => ?_)
            refine sMove (.bool true) S (wN rfl) (.inl rfl) (by kernel_rfl) rfl (by decide) (fun a S => ?_)
            refine sSkip (c := true) 6 false 106 107 S rfl rfl (by kernel_rfl) rfl rfl (by decide) (fun a S => ?_)
            refine sSkip (c := true) 6 false 106 108 S rfl rfl (by kernel_rfl) rfl rfl (by decide) (fun a S => ?_)
            refine sSkip (c := true) 6 false 106 109 S rfl rfl (by kernel_rfl) rfl rfl (by decide) (fun a S => ?_)
            refine sPickT (b := true) (.bool true) S (wN rfl) rfl (by kernel_rfl) rfl (by kernel_rfl) rfl (by decide) (fun a S => ?_)
            refine sMove (.bool true) S (wN rfl) (.inl rfl) (by kernel_rfl) rfl (by decide) (fun a S => ?_)
            refine sSkip (c := true) 11 false 111 112 S rfl rfl (by kernel_rfl) rfl rfl (by decide) (fun a S => ?_)
            refine sSkip (c := true) 11 false 111 113 S rfl rfl (by kernel_rfl) rfl rfl (by decide) (fun a S => ?_)
            refine sSkip (c := true) 11 false 111 114 S rfl rfl (by kernel_rfl) rfl rfl (by decide) (fun a S => ?_)
            refine sPickT (b := true) (.bool true) S (wN rfl) rfl (by kernel_rfl) rfl (by kernel_rfl) rfl (by decide) (fun a S => ?_)
            exact leafL (leafT (⟨true, Option.some.inj h, S.fix [5, 4, 3, 2, 1, 0] [6, 4, 2, 0] (by decide) (by kernel_rfl) (by kernel_rfl) (by kernel_rfl)⟩))
          · refine sMove (.int .i64 r55.2) S (wG (c := r46.2 != 0) 2 false 102 rfl rfl (by kernel_rfl) hc76) (.inl rfl) (by kernel_rfl) rfl (by decide) (fun a S => ?_)
            refine sBin (.bool (r55.2 != 0)) S (wG (c := r46.2 != 0) 2 false 102 rfl rfl (by kernel_rfl) hc76) rfl (by kernel_rfl) (by kernel_rfl) (bNe _ _ _ _ .i64 r55.2 0) rfl (by decide) (fun a S => ?_)
            refine sPickF (b := r46.2 != 0) (.bool (r55.2 != 0)) S (wN rfl) rfl (by kernel_rfl) hc76 (by kernel_rfl) rfl (by decide) (fun a S => ?_)
            refine sMove (.bool (r55.2 != 0)) S (wN rfl) (.inl rfl) (by kernel_rfl) rfl (by decide) (fun a S => ?_)
            rcases iteSome h with ⟨hc77, h⟩ | ⟨hc77, h⟩
            · refine sSkip (c := r55.2 != 0) 6 false 106 107 S rfl rfl (by kernel_rfl) hc77 rfl (by decide) (fun a S => ?_)
              refine sSkip (c := r55.2 != 0) 6 false 106 108 S rfl rfl (by kernel_rfl) hc77 rfl (by decide) (fun a S => ?_)
              refine sSkip (c := r55.2 != 0) 6 false 106 109 S rfl rfl (by kernel_rfl) hc77 rfl (by decide) (fun a S => ?_)
              refine sPickT (b := r55.2 != 0) (.bool true) S (wN rfl) rfl (by kernel_rfl) hc77 (by kernel_rfl) rfl (by decide) (fun a S => ?_)
              refine sMove (.bool true) S (wN rfl) (.inl rfl) (by kernel_rfl) rfl (by decide) (fun a S => ?_)
              refine sSkip (c := true) 11 false 111 112 S rfl rfl (by kernel_rfl) rfl rfl (by decide) (fun a S => ?_)
              refine sSkip (c := true) 11 false 111 113 S rfl rfl (by kernel_rfl) rfl rfl (by decide) (fun a S => ?_)
              refine sSkip (c := true) 11 false 111 114 S rfl rfl (by kernel_rfl) rfl rfl (by decide) (fun a S => ?_)
              refine sPickT (b := true) (.bool true) S (wN rfl) rfl (by kernel_rfl) rfl (by kernel_rfl) rfl (by decide) (fun a S => ?_)
              exact leafL (leafT (⟨true, Option.some.inj h, S.fix [5, 4, 3, 2, 1, 0] [6, 4, 2, 0] (by decide) (by kernel_rfl) (by kernel_rfl) (by kernel_rfl)⟩))
            · refine sLoadN (p := b53) (off := 0) (T := 24) (vs := [.int .i64 r46.1.W, .int .i64 r46.1.H, .slice ad51 r46.1.Bits.length cp52]) 2 [.int .i64 r46.1.W, .int .i64 r46.1.H, .slice ad51 r46.1.Bits.length cp52] S (wG (c := r55.2 != 0) 6 false 106 rfl rfl (by kernel_rfl) hc77) rfl (by kernel_rfl) (by kernel_rfl) (by kernel_rfl) (by kernel_rfl) rfl rfl (by decide) (fun a S => ?_)
              obtain ⟨r78, hx79, h⟩ := bindSome h
              have S1 := S.mem
              refine sCallQ (X := Unit) (f := 18) (vs := [.agg #[.int .i64 r46.1.W, .int .i64 r46.1.H, .slice ad51 r46.1.Bits.length cp52]]) (val := fun _ => .bool r78) S (wG (c := r55.2 != 0) 6 false 106 rfl rfl (by kernel_rfl) hc77) rfl callee18 (by kernel_rfl) (S1.quiet [5] (by kernel_rfl)) (fun E1 w1 S1 => c_raddlelaw24_fit E1 w1 r46.1 (.agg #[.int .i64 r46.1.W, .int .i64 r46.1.H, .slice ad51 r46.1.Bits.length cp52]) r78 hx79 S1) rfl (by decide) (fun _ a w S => ?_)
              refine sNot (b := r78) S (wG (c := r55.2 != 0) 6 false 106 rfl rfl (by kernel_rfl) hc77) rfl (by kernel_rfl) rfl (by decide) (fun a S => ?_)
              refine sPickF (b := r55.2 != 0) (.bool (!r78)) S (wN rfl) rfl (by kernel_rfl) hc77 (by kernel_rfl) rfl (by decide) (fun a S => ?_)
              refine sMove (.bool (!r78)) S (wN rfl) (.inl rfl) (by kernel_rfl) rfl (by decide) (fun a S => ?_)
              rcases iteSome h with ⟨hc80, h⟩ | ⟨hc80, h⟩
              · refine sSkip (c := !r78) 11 false 111 112 S rfl rfl (by kernel_rfl) hc80 rfl (by decide) (fun a S => ?_)
                refine sSkip (c := !r78) 11 false 111 113 S rfl rfl (by kernel_rfl) hc80 rfl (by decide) (fun a S => ?_)
                refine sSkip (c := !r78) 11 false 111 114 S rfl rfl (by kernel_rfl) hc80 rfl (by decide) (fun a S => ?_)
                refine sPickT (b := !r78) (.bool true) S (wN rfl) rfl (by kernel_rfl) hc80 (by kernel_rfl) rfl (by decide) (fun a S => ?_)
                exact leafL (leafT (⟨true, Option.some.inj h, S.fix [5, 4, 3, 2, 1, 0] [6, 4, 2, 0] (by decide) (by kernel_rfl) (by kernel_rfl) (by kernel_rfl)⟩))
              · refine sLoadN (p := b62) (off := 0) (T := 24) (vs := [.int .i64 r55.1.W, .int .i64 r55.1.H, .slice ad60 r55.1.Bits.length cp61]) 1 [.int .i64 r55.1.W, .int .i64 r55.1.H, .slice ad60 r55.1.Bits.length cp61] S (wG (c := !r78) 11 false 111 rfl rfl (by kernel_rfl) hc80) rfl (by kernel_rfl) (by kernel_rfl) (by kernel_rfl) (by kernel_rfl) rfl rfl (by decide) (fun a S => ?_)
                obtain ⟨r81, hx82, h⟩ := bindSome h
                have S1 := S.mem
                refine sCallQ (X := Unit) (f := 18) (vs := [.agg #[.int .i64 r55.1.W, .int .i64 r55.1.H, .slice ad60 r55.1.Bits.length cp61]]) (val := fun _ => .bool r81) S (wG (c := !r78) 11 false 111 rfl rfl (by kernel_rfl) hc80) rfl callee18 (by kernel_rfl) (S1.quiet [3] (by kernel_rfl)) (fun E1 w1 S1 => c_raddlelaw24_fit E1 w1 r55.1 (.agg #[.int .i64 r55.1.W, .int .i64 r55.1.H, .slice ad60 r55.1.Bits.length cp61]) r81 hx82 S1) rfl (by decide) (fun _ a w S => ?_)
                refine sNot (b := r81) S (wG (c := !r78) 11 false 111 rfl rfl (by kernel_rfl) hc80) rfl (by kernel_rfl) rfl (by decide) (fun a S => ?_)
                refine sPickF (b := !r78) (.bool (!r81)) S (wN rfl) rfl (by kernel_rfl) hc80 (by kernel_rfl) rfl (by decide) (fun a S => ?_)
                exact leafL (leafT (⟨!r81, Option.some.inj h, S.fix [5, 4, 3, 2, 1, 0] [6, 4, 2, 0] (by decide) (by kernel_rfl) (by kernel_rfl) (by kernel_rfl)⟩))
        · obtain ⟨o73, rfl, S⟩ := hI
          have h := g75
          clear g75
          try dsimp only at h
          rcases iteSome h with ⟨hc83, h⟩ | ⟨hc83, h⟩
          · refine sCondT (b := o73) S (by kernel_rfl) hc83 ?_
            refine sSeq (fun K84 hK84 => ?_)
            refine sRegion ?_
            refine sMove (.bool false) S (wN rfl) (.inr rfl) (by kernel_rfl) rfl (by decide) (fun a S => ?_)
            refine leafL (leafT (hK84 _ _ ?_))
            obtain rfl := Option.some.inj h
            exact wp_ret (rThen (sRet (.bool false) S (rsl1 rfl (rvT (t := 10) (v := .bool false) S (by kernel_rfl))) ⟨(), rfl, S.mem.sel [] [] (by decide) (by kernel_rfl) (by kernel_rfl)⟩))
          · refine sCondF (b := o73) S (by kernel_rfl) hc83 ?_
            refine wp_skip (leafT (hK72 _ _ ?_))
            refine sSeq (fun K85 hK85 => ?_)
            refine sRegion ?_
            refine sLoadN (p := b53) (off := 0) (T := 24) (vs := [.int .i64 r46.1.W, .int .i64 r46.1.H, .slice ad51 r46.1.Bits.length cp52]) 3 [.int .i64 r46.1.W, .int .i64 r46.1.H, .slice ad51 r46.1.Bits.length cp52] S (wN rfl) rfl (by kernel_rfl) (by kernel_rfl) (by kernel_rfl) (by kernel_rfl) rfl rfl (by decide) (fun a S => ?_)
            refine sMove (.int .i64 p1) S (wN rfl) (.inl rfl) (by kernel_rfl) rfl (by decide) (fun a S => ?_)
            obtain ⟨r86, hx87, h⟩ := bindSome h
            have S := S.learn (fRep r_api_Grid (.agg #[.int .i64 r46.1.W, .int .i64 r46.1.H, .slice ad51 r46.1.Bits.length cp52]) r46.1) ⟨_, rfl, S.mem.know (i := 1) (e := fRep (rL rB) (.slice ad51 r46.1.Bits.length cp52) r46.1.Bits) (by kernel_rfl)⟩
            refine sCall (X := Value × Value) (f := 13) (vs := [.agg #[.int .i64 r46.1.W, .int .i64 r46.1.H, .slice ad51 r46.1.Bits.length cp52], .int .i64 p1]) (val := c_sett_Setts_val r86) (B' := fun _ => []) (D' := c_sett_Setts_D r86) [] [eBox b30 34 [.int .i64 r26.1.Num, .int .i64 r26.1.Den], eBox b31 34 [.int .i64 r26.2.1.Num, .int .i64 r26.2.1.Den], eBox b44 24 [.int .i64 r37.1.W, .int .i64 r37.1.H, .slice ad42 r37.1.Bits.length cp43], eBox b53 24 [.int .i64 r46.1.W, .int .i64 r46.1.H, .slice ad51 r46.1.Bits.length cp52], eBox b62 24 [.int .i64 r55.1.W, .int .i64 r55.1.H, .slice ad60 r55.1.Bits.length cp61], eBox b71 24 [.int .i64 r64.1.W, .int .i64 r64.1.H, .slice ad69 r64.1.Bits.length cp70]] [fRep r_api_Grid (.agg #[.int .i64 r46.1.W, .int .i64 r46.1.H, .slice ad51 r46.1.Bits.length cp52]) r46.1] [0, 1, 2, 3, 4, 5] [0] S (wN rfl) rfl callee13 (by kernel_rfl) (by decide) (by kernel_rfl) (by kernel_rfl) (fun E1 w1 S1 => c_sett_Setts E1 w1 r46.1 (.agg #[.int .i64 r46.1.W, .int .i64 r46.1.H, .slice ad51 r46.1.Bits.length cp52]) p1 r86 hx87 S1) rfl (by decide) (fun xx a w S => ?_)
            obtain ⟨u88, u89⟩ := xx
            obtain rfl : u88 = .agg #[.int .i64 r86.1.Num, .int .i64 r86.1.Den] := S.mem.know (i := 0) (e := fRep r_api_Ratio (u88) r86.1) (by kernel_rfl)
            obtain rfl : u89 = .agg #[.int .i64 r86.2.1.Num, .int .i64 r86.2.1.Den] := S.mem.know (i := 1) (e := fRep r_api_Ratio (u89) r86.2.1) (by kernel_rfl)
            refine sMove (.tuple #[.agg #[.int .i64 r86.1.Num, .int .i64 r86.1.Den], .agg #[.int .i64 r86.2.1.Num, .int .i64 r86.2.1.Den], .int .i64 r86.2.2]) S (wN rfl) (.inl rfl) (by kernel_rfl) rfl (by decide) (fun a S => ?_)
            refine sExtract (vs := [.agg #[.int .i64 r86.1.Num, .int .i64 r86.1.Den], .agg #[.int .i64 r86.2.1.Num, .int .i64 r86.2.1.Den], .int .i64 r86.2.2]) (.agg #[.int .i64 r86.1.Num, .int .i64 r86.1.Den]) S (wN rfl) rfl (by kernel_rfl) rfl rfl (by decide) (fun a S => ?_)
            refine sExtract (vs := [.agg #[.int .i64 r86.1.Num, .int .i64 r86.1.Den], .agg #[.int .i64 r86.2.1.Num, .int .i64 r86.2.1.Den], .int .i64 r86.2.2]) (.agg #[.int .i64 r86.2.1.Num, .int .i64 r86.2.1.Den]) S (wN rfl) rfl (by kernel_rfl) rfl rfl (by decide) (fun a S => ?_)
            refine sExtract (vs := [.agg #[.int .i64 r86.1.Num, .int .i64 r86.1.Den], .agg #[.int .i64 r86.2.1.Num, .int .i64 r86.2.1.Den], .int .i64 r86.2.2]) (.int .i64 r86.2.2) S (wN rfl) rfl (by kernel_rfl) rfl rfl (by decide) (fun a S => ?_)
            refine sAlloc (.agg #[.int .i64 0, .int .i64 0]) S (wN rfl) rfl (by kernel_rfl) [.int .i64 0, .int .i64 0] rfl rfl (by decide) (fun a b90 w S => ?_)
            refine sAlloc (.agg #[.int .i64 0, .int .i64 0]) S (wN rfl) rfl (by kernel_rfl) [.int .i64 0, .int .i64 0] rfl rfl (by decide) (fun a b91 w S => ?_)
            refine sStore (p := b90) (off := 0) (T := 34) (vs := [.int .i64 0, .int .i64 0]) (v := .agg #[.int .i64 r86.1.Num, .int .i64 r86.1.Den]) 1 [.int .i64 r86.1.Num, .int .i64 r86.1.Den] S (wN rfl) rfl (by kernel_rfl) (by kernel_rfl) rfl (by kernel_rfl) (by kernel_rfl) rfl (by simp) rfl (fun a w S => ?_)
            refine sStore (p := b91) (off := 0) (T := 34) (vs := [.int .i64 0, .int .i64 0]) (v := .agg #[.int .i64 r86.2.1.Num, .int .i64 r86.2.1.Den]) 1 [.int .i64 r86.2.1.Num, .int .i64 r86.2.1.Den] S (wN rfl) rfl (by kernel_rfl) (by kernel_rfl) rfl (by kernel_rfl) (by kernel_rfl) rfl (by simp) rfl (fun a w S => ?_)
            refine sMove (.int .i64 r86.2.2) S (wN rfl) (.inr rfl) (by kernel_rfl) rfl (by decide) (fun a S => ?_)
            refine leafL (leafT (hK85 _ _ ?_))
            refine sSeq (fun K92 hK92 => ?_)
            refine sRegion ?_
            refine sLoadN (p := b62) (off := 0) (T := 24) (vs := [.int .i64 r55.1.W, .int .i64 r55.1.H, .slice ad60 r55.1.Bits.length cp61]) 6 [.int .i64 r55.1.W, .int .i64 r55.1.H, .slice ad60 r55.1.Bits.length cp61] S (wN rfl) rfl (by kernel_rfl) (by kernel_rfl) (by kernel_rfl) (by kernel_rfl) rfl rfl (by decide) (fun a S => ?_)
            refine sMove (.int .i64 p1) S (wN rfl) (.inl rfl) (by kernel_rfl) rfl (by decide) (fun a S => ?_)
            obtain ⟨r93, hx94, h⟩ := bindSome h
            have S := S.learn (fRep r_api_Grid (.agg #[.int .i64 r55.1.W, .int .i64 r55.1.H, .slice ad60 r55.1.Bits.length cp61]) r55.1) ⟨_, rfl, S.mem.know (i := 5) (e := fRep (rL rB) (.slice ad60 r55.1.Bits.length cp61) r55.1.Bits) (by kernel_rfl)⟩
            refine sCall (X := Value × Value) (f := 13) (vs := [.agg #[.int .i64 r55.1.W, .int .i64 r55.1.H, .slice ad60 r55.1.Bits.length cp61], .int .i64 p1]) (val := c_sett_Setts_val r93) (B' := fun _ => []) (D' := c_sett_Setts_D r93) [] [eBox b91 34 [.int .i64 r86.2.1.Num, .int .i64 r86.2.1.Den], eBox b90 34 [.int .i64 r86.1.Num, .int .i64 r86.1.Den], eBox b30 34 [.int .i64 r26.1.Num, .int .i64 r26.1.Den], eBox b31 34 [.int .i64 r26.2.1.Num, .int .i64 r26.2.1.Den], eBox b44 24 [.int .i64 r37.1.W, .int .i64 r37.1.H, .slice ad42 r37.1.Bits.length cp43], eBox b53 24 [.int .i64 r46.1.W, .int .i64 r46.1.H, .slice ad51 r46.1.Bits.length cp52], eBox b62 24 [.int .i64 r55.1.W, .int .i64 r55.1.H, .slice ad60 r55.1.Bits.length cp61], eBox b71 24 [.int .i64 r64.1.W, .int .i64 r64.1.H, .slice ad69 r64.1.Bits.length cp70]] [fRep r_api_Grid (.agg #[.int .i64 r55.1.W, .int .i64 r55.1.H, .slice ad60 r55.1.Bits.length cp61]) r55.1] [0, 1, 2, 3, 4, 5, 6, 7] [0] S (wN rfl) rfl callee13 (by kernel_rfl) (by decide) (by kernel_rfl) (by kernel_rfl) (fun E1 w1 S1 => c_sett_Setts E1 w1 r55.1 (.agg #[.int .i64 r55.1.W, .int .i64 r55.1.H, .slice ad60 r55.1.Bits.length cp61]) p1 r93 hx94 S1) rfl (by decide) (fun xx a w S => ?_)
            obtain ⟨u95, u96⟩ := xx
            obtain rfl : u95 = .agg #[.int .i64 r93.1.Num, .int .i64 r93.1.Den] := S.mem.know (i := 0) (e := fRep r_api_Ratio (u95) r93.1) (by kernel_rfl)
            obtain rfl : u96 = .agg #[.int .i64 r93.2.1.Num, .int .i64 r93.2.1.Den] := S.mem.know (i := 1) (e := fRep r_api_Ratio (u96) r93.2.1) (by kernel_rfl)
            refine sMove (.tuple #[.agg #[.int .i64 r93.1.Num, .int .i64 r93.1.Den], .agg #[.int .i64 r93.2.1.Num, .int .i64 r93.2.1.Den], .int .i64 r93.2.2]) S (wN rfl) (.inl rfl) (by kernel_rfl) rfl (by decide) (fun a S => ?_)
            refine sExtract (vs := [.agg #[.int .i64 r93.1.Num, .int .i64 r93.1.Den], .agg #[.int .i64 r93.2.1.Num, .int .i64 r93.2.1.Den], .int .i64 r93.2.2]) (.agg #[.int .i64 r93.1.Num, .int .i64 r93.1.Den]) S (wN rfl) rfl (by kernel_rfl) rfl rfl (by decide) (fun a S => ?_)
            refine sExtract (vs := [.agg #[.int .i64 r93.1.Num, .int .i64 r93.1.Den], .agg #[.int .i64 r93.2.1.Num, .int .i64 r93.2.1.Den], .int .i64 r93.2.2]) (.agg #[.int .i64 r93.2.1.Num, .int .i64 r93.2.1.Den]) S (wN rfl) rfl (by kernel_rfl) rfl rfl (by decide) (fun a S => ?_)
            refine sExtract (vs := [.agg #[.int .i64 r93.1.Num, .int .i64 r93.1.Den], .agg #[.int .i64 r93.2.1.Num, .int .i64 r93.2.1.Den], .int .i64 r93.2.2]) (.int .i64 r93.2.2) S (wN rfl) rfl (by kernel_rfl) rfl rfl (by decide) (fun a S => ?_)
            refine sAlloc (.agg #[.int .i64 0, .int .i64 0]) S (wN rfl) rfl (by kernel_rfl) [.int .i64 0, .int .i64 0] rfl rfl (by decide) (fun a b97 w S => ?_)
            refine sAlloc (.agg #[.int .i64 0, .int .i64 0]) S (wN rfl) rfl (by kernel_rfl) [.int .i64 0, .int .i64 0] rfl rfl (by decide) (fun a b98 w S => ?_)
            refine sStore (p := b97) (off := 0) (T := 34) (vs := [.int .i64 0, .int .i64 0]) (v := .agg #[.int .i64 r93.1.Num, .int .i64 r93.1.Den]) 1 [.int .i64 r93.1.Num, .int .i64 r93.1.Den] S (wN rfl) rfl (by kernel_rfl) (by kernel_rfl) rfl (by kernel_rfl) (by kernel_rfl) rfl (by simp) rfl (fun a w S => ?_)
            refine sStore (p := b98) (off := 0) (T := 34) (vs := [.int .i64 0, .int .i64 0]) (v := .agg #[.int .i64 r93.2.1.Num, .int .i64 r93.2.1.Den]) 1 [.int .i64 r93.2.1.Num, .int .i64 r93.2.1.Den] S (wN rfl) rfl (by kernel_rfl) (by kernel_rfl) rfl (by kernel_rfl) (by kernel_rfl) rfl (by simp) rfl (fun a w S => ?_)
            refine sMove (.int .i64 r93.2.2) S (wN rfl) (.inr rfl) (by kernel_rfl) rfl (by decide) (fun a S => ?_)
            refine leafL (leafT (hK92 _ _ ?_))
            refine sSeq (fun K99 hK99 => ?_)
            obtain ⟨t101, h, g102⟩ := bindSome h
            refine sCut (fun a w => ∃ o100, o100 = t101 ∧ St E [] w0 202 a w [(1, .int .i64 p1), (11, .bool r8), (12, .pointer (some ⟨b30, 0, none⟩)), (13, .pointer (some ⟨b31, 0, none⟩)), (15, .pointer (some ⟨b44, 0, none⟩)), (16, .int .i64 r37.2), (21, .pointer (some ⟨b71, 0, none⟩)), (22, .int .i64 r64.2), (155, .bool o100)] [eBox b30 34 [.int .i64 r26.1.Num, .int .i64 r26.1.Den], eBox b31 34 [.int .i64 r26.2.1.Num, .int .i64 r26.2.1.Den], eBox b44 24 [.int .i64 r37.1.W, .int .i64 r37.1.H, .slice ad42 r37.1.Bits.length cp43], eBox b71 24 [.int .i64 r64.1.W, .int .i64 r64.1.H, .slice ad69 r64.1.Bits.length cp70]] [fRep (rL rB) (.slice ad42 r37.1.Bits.length cp43) r37.1.Bits, fRep (rL rB) (.slice ad69 r64.1.Bits.length cp70) r64.1.Bits]) ?_ (fun a w hI => ?_)
            · refine sRegion ?_
              refine sMove (.int .i64 r86.2.2) S (wN rfl) (.inl rfl) (by kernel_rfl) rfl (by decide) (fun a S => ?_)
              refine sBin (.bool (r86.2.2 != 0)) S (wN rfl) rfl (by kernel_rfl) (by kernel_rfl) (bNe _ _ _ _ .i64 r86.2.2 0) rfl (by decide) (fun a S => ?_)
              refine sMove (.bool (r86.2.2 != 0)) S (wN rfl) (.inl rfl) (by kernel_rfl) rfl (by decide) (fun a S => ?_)
              rcases iteSome h with ⟨hc103, h⟩ | ⟨hc103, h⟩
              · refine sSkip (c := r86.2.2 != 0) 2 false 132 133 S rfl rfl (by kernel_rfl) hc103 rfl (by decide) (fun a S => ?_)
                refine sSkip (c := r86.2.2 != 0) 2 false 132 134 S rfl rfl (by kernel_rfl) hc103 rfl (by decide) (fun a S => ?_)
                refine sPickT (b := r86.2.2 != 0) (.bool true) S (wN rfl) rfl (by kernel_rfl) hc103 (by kernel_rfl) rfl (by decide) (fun a S => ?_)
                refine sMove (.bool true) S (wN rfl) (.inl rfl) (by kernel_rfl) rfl (by decide) (fun a S => ?_)
                refine sSkip (c := true) 6 false 136 137 S rfl rfl (by kernel_rfl) rfl rfl (by decide) (fun a S => ?_)
                refine sSkip (c := true) 6 false 136 138 S rfl rfl (by kernel_rfl) rfl rfl (by decide) (fun a S => ?_)
                refine sSkip (c := true) 6 false 136 139 S rfl rfl (by kernel_rfl) rfl rfl (by decide) (fun a S => ?_)
                refine sPickT (b := true) (.bool true) S (wN rfl) rfl (by kernel_rfl) rfl (by kernel_rfl) rfl (by decide) (fun a S => ?_)
                refine sMove (.bool true) S (wN rfl) (.inl rfl) (by kernel_rfl) rfl (by decide) (fun a S => ?_)
                refine sSkip (c := true) 11 false 141 142 S rfl rfl (by kernel_rfl) rfl rfl (by decide) (fun a S => ?_)
                refine sSkip (c := true) 11 false 141 143 S rfl rfl (by kernel_rfl) rfl rfl (by decide) (fun a S => ?_)
                refine sSkip (c := true) 11 false 141 144 S rfl rfl (by kernel_rfl) rfl rfl (by decide) (fun a S => ?_)
                refine sPickT (b := true) (.bool true) S (wN rfl) rfl (by kernel_rfl) rfl (by kernel_rfl) rfl (by decide) (fun a S => ?_)
                refine sMove (.bool true) S (wN rfl) (.inl rfl) (by kernel_rfl) rfl (by decide) (fun a S => ?_)
                refine sSkip (c := true) 16 false 146 147 S rfl rfl (by kernel_rfl) rfl rfl (by decide) (fun a S => ?_)
                refine sSkip (c := true) 16 false 146 148 S rfl rfl (by kernel_rfl) rfl rfl (by decide) (fun a S => ?_)
                refine sSkip (c := true) 16 false 146 149 S rfl rfl (by kernel_rfl) rfl rfl (by decide) (fun a S => ?_)
                refine sPickT (b := true) (.bool true) S (wN rfl) rfl (by kernel_rfl) rfl (by kernel_rfl) rfl (by decide) (fun a S => ?_)
                refine sMove (.bool true) S (wN rfl) (.inl rfl) (by kernel_rfl) rfl (by decide) (fun a S => ?_)
                refine sSkip (c := true) 21 false 151 152 S rfl rfl (by kernel_rfl) rfl rfl (by decide) (fun a S => ?_)
                refine sSkip (c := true) 21 false 151 153 S rfl rfl (by kernel_rfl) rfl rfl (by decide) (fun a S => ?_)
                refine sSkip (c := true) 21 false 151 154 S rfl rfl (by kernel_rfl) rfl rfl (by decide) (fun a S => ?_)
                refine sPickT (b := true) (.bool true) S (wN rfl) rfl (by kernel_rfl) rfl (by kernel_rfl) rfl (by decide) (fun a S => ?_)
                exact leafL (leafT (⟨true, Option.some.inj h, S.fix [4, 5, 6, 9] [6, 9] (by decide) (by kernel_rfl) (by kernel_rfl) (by kernel_rfl)⟩))
              · refine sMove (.int .i64 r93.2.2) S (wG (c := r86.2.2 != 0) 2 false 132 rfl rfl (by kernel_rfl) hc103) (.inl rfl) (by kernel_rfl) rfl (by decide) (fun a S => ?_)
                refine sBin (.bool (r93.2.2 != 0)) S (wG (c := r86.2.2 != 0) 2 false 132 rfl rfl (by kernel_rfl) hc103) rfl (by kernel_rfl) (by kernel_rfl) (bNe _ _ _ _ .i64 r93.2.2 0) rfl (by decide) (fun a S => ?_)
                refine sPickF (b := r86.2.2 != 0) (.bool (r93.2.2 != 0)) S (wN rfl) rfl (by kernel_rfl) hc103 (by kernel_rfl) rfl (by decide) (fun a S => ?_)
                refine sMove (.bool (r93.2.2 != 0)) S (wN rfl) (.inl rfl) (by kernel_rfl) rfl (by decide) (fun a S => ?_)
                rcases iteSome h with ⟨hc104, h⟩ | ⟨hc104, h⟩
                · refine sSkip (c := r93.2.2 != 0) 6 false 136 137 S rfl rfl (by kernel_rfl) hc104 rfl (by decide) (fun a S => ?_)
                  refine sSkip (c := r93.2.2 != 0) 6 false 136 138 S rfl rfl (by kernel_rfl) hc104 rfl (by decide) (fun a S => ?_)
                  refine sSkip (c := r93.2.2 != 0) 6 false 136 139 S rfl rfl (by kernel_rfl) hc104 rfl (by decide) (fun a S => ?_)
                  refine sPickT (b := r93.2.2 != 0) (.bool true) S (wN rfl) rfl (by kernel_rfl) hc104 (by kernel_rfl) rfl (by decide) (fun a S => ?_)
                  refine sMove (.bool true) S (wN rfl) (.inl rfl) (by kernel_rfl) rfl (by decide) (fun a S => ?_)
                  refine sSkip (c := true) 11 false 141 142 S rfl rfl (by kernel_rfl) rfl rfl (by decide) (fun a S => ?_)
                  refine sSkip (c := true) 11 false 141 143 S rfl rfl (by kernel_rfl) rfl rfl (by decide) (fun a S => ?_)
                  refine sSkip (c := true) 11 false 141 144 S rfl rfl (by kernel_rfl) rfl rfl (by decide) (fun a S => ?_)
                  refine sPickT (b := true) (.bool true) S (wN rfl) rfl (by kernel_rfl) rfl (by kernel_rfl) rfl (by decide) (fun a S => ?_)
                  refine sMove (.bool true) S (wN rfl) (.inl rfl) (by kernel_rfl) rfl (by decide) (fun a S => ?_)
                  refine sSkip (c := true) 16 false 146 147 S rfl rfl (by kernel_rfl) rfl rfl (by decide) (fun a S => ?_)
                  refine sSkip (c := true) 16 false 146 148 S rfl rfl (by kernel_rfl) rfl rfl (by decide) (fun a S => ?_)
                  refine sSkip (c := true) 16 false 146 149 S rfl rfl (by kernel_rfl) rfl rfl (by decide) (fun a S => ?_)
                  refine sPickT (b := true) (.bool true) S (wN rfl) rfl (by kernel_rfl) rfl (by kernel_rfl) rfl (by decide) (fun a S => ?_)
                  refine sMove (.bool true) S (wN rfl) (.inl rfl) (by kernel_rfl) rfl (by decide) (fun a S => ?_)
                  refine sSkip (c := true) 21 false 151 152 S rfl rfl (by kernel_rfl) rfl rfl (by decide) (fun a S => ?_)
                  refine sSkip (c := true) 21 false 151 153 S rfl rfl (by kernel_rfl) rfl rfl (by decide) (fun a S => ?_)
                  refine sSkip (c := true) 21 false 151 154 S rfl rfl (by kernel_rfl) rfl rfl (by decide) (fun a S => ?_)
                  refine sPickT (b := true) (.bool true) S (wN rfl) rfl (by kernel_rfl) rfl (by kernel_rfl) rfl (by decide) (fun a S => ?_)
                  exact leafL (leafT (⟨true, Option.some.inj h, S.fix [4, 5, 6, 9] [6, 9] (by decide) (by kernel_rfl) (by kernel_rfl) (by kernel_rfl)⟩))
                · refine sLoadN (p := b90) (off := 0) (T := 34) (vs := [.int .i64 r86.1.Num, .int .i64 r86.1.Den]) 3 [.int .i64 r86.1.Num, .int .i64 r86.1.Den] S (wG (c := r93.2.2 != 0) 6 false 136 rfl rfl (by kernel_rfl) hc104) rfl (by kernel_rfl) (by kernel_rfl) (by kernel_rfl) (by kernel_rfl) rfl rfl (by decide) (fun a S => ?_)
                  refine sLoadN (p := b30) (off := 0) (T := 34) (vs := [.int .i64 r26.1.Num, .int .i64 r26.1.Den]) 4 [.int .i64 r26.1.Num, .int .i64 r26.1.Den] S (wG (c := r93.2.2 != 0) 6 false 136 rfl rfl (by kernel_rfl) hc104) rfl (by kernel_rfl) (by kernel_rfl) (by kernel_rfl) (by kernel_rfl) rfl rfl (by decide) (fun a S => ?_)
                  refine sBin (.bool (!((r86.1.Num == r26.1.Num) && ((r86.1.Den == r26.1.Den) && true)))) S (wG (c := r93.2.2 != 0) 6 false 136 rfl rfl (by kernel_rfl) hc104) rfl (by kernel_rfl) (by kernel_rfl) (bNeV _ _ _ _ #[.int .i64 r86.1.Num, .int .i64 r86.1.Den] #[.int .i64 r26.1.Num, .int .i64 r26.1.Den] ((r86.1.Num == r26.1.Num) && ((r86.1.Den == r26.1.Den) && true)) (by kernel_rfl) (eqlV_of (by kernel_rfl))) rfl (by decide) (fun a S => ?_)
                  refine sPickF (b := r93.2.2 != 0) (.bool (!((r86.1.Num == r26.1.Num) && ((r86.1.Den == r26.1.Den) && true)))) S (wN rfl) rfl (by kernel_rfl) hc104 (by kernel_rfl) rfl (by decide) (fun a S => ?_)
                  refine sMove (.bool (!((r86.1.Num == r26.1.Num) && ((r86.1.Den == r26.1.Den) && true)))) S (wN rfl) (.inl rfl) (by kernel_rfl) rfl (by decide) (fun a S => ?_)
                  rcases iteSome h with ⟨hc105, h⟩ | ⟨hc105, h⟩
                  · refine sSkip (c := !((r86.1.Num == r26.1.Num) && ((r86.1.Den == r26.1.Den) && true))) 11 false 141 142 S rfl rfl (by kernel_rfl) hc105 rfl (by decide) (fun a S => ?_)
                    refine sSkip (c := !((r86.1.Num == r26.1.Num) && ((r86.1.Den == r26.1.Den) && true))) 11 false 141 143 S rfl rfl (by kernel_rfl) hc105 rfl (by decide) (fun a S => ?_)
                    refine sSkip (c := !((r86.1.Num == r26.1.Num) && ((r86.1.Den == r26.1.Den) && true))) 11 false 141 144 S rfl rfl (by kernel_rfl) hc105 rfl (by decide) (fun a S => ?_)
                    refine sPickT (b := !((r86.1.Num == r26.1.Num) && ((r86.1.Den == r26.1.Den) && true))) (.bool true) S (wN rfl) rfl (by kernel_rfl) hc105 (by kernel_rfl) rfl (by decide) (fun a S => ?_)
                    refine sMove (.bool true) S (wN rfl) (.inl rfl) (by kernel_rfl) rfl (by decide) (fun a S => ?_)
                    refine sSkip (c := true) 16 false 146 147 S rfl rfl (by kernel_rfl) rfl rfl (by decide) (fun a S => ?_)
                    refine sSkip (c := true) 16 false 146 148 S rfl rfl (by kernel_rfl) rfl rfl (by decide) (fun a S => ?_)
                    refine sSkip (c := true) 16 false 146 149 S rfl rfl (by kernel_rfl) rfl rfl (by decide) (fun a S => ?_)
                    refine sPickT (b := true) (.bool true) S (wN rfl) rfl (by kernel_rfl) rfl (by kernel_rfl) rfl (by decide) (fun a S => ?_)
                    refine sMove (.bool true) S (wN rfl) (.inl rfl) (by kernel_rfl) rfl (by decide) (fun a S => ?_)
                    refine sSkip (c := true) 21 false 151 152 S rfl rfl (by kernel_rfl) rfl rfl (by decide) (fun a S => ?_)
                    refine sSkip (c := true) 21 false 151 153 S rfl rfl (by kernel_rfl) rfl rfl (by decide) (fun a S => ?_)
                    refine sSkip (c := true) 21 false 151 154 S rfl rfl (by kernel_rfl) rfl rfl (by decide) (fun a S => ?_)
                    refine sPickT (b := true) (.bool true) S (wN rfl) rfl (by kernel_rfl) rfl (by kernel_rfl) rfl (by decide) (fun a S => ?_)
                    exact leafL (leafT (⟨true, Option.some.inj h, S.fix [4, 5, 6, 9] [6, 9] (by decide) (by kernel_rfl) (by kernel_rfl) (by kernel_rfl)⟩))
                  · refine sLoadN (p := b91) (off := 0) (T := 34) (vs := [.int .i64 r86.2.1.Num, .int .i64 r86.2.1.Den]) 2 [.int .i64 r86.2.1.Num, .int .i64 r86.2.1.Den] S (wG (c := !((r86.1.Num == r26.1.Num) && ((r86.1.Den == r26.1.Den) && true))) 11 false 141 rfl rfl (by kernel_rfl) hc105) rfl (by kernel_rfl) (by kernel_rfl) (by kernel_rfl) (by kernel_rfl) rfl rfl (by decide) (fun a S => ?_)
                    refine sLoadN (p := b31) (off := 0) (T := 34) (vs := [.int .i64 r26.2.1.Num, .int .i64 r26.2.1.Den]) 5 [.int .i64 r26.2.1.Num, .int .i64 r26.2.1.Den] S (wG (c := !((r86.1.Num == r26.1.Num) && ((r86.1.Den == r26.1.Den) && true))) 11 false 141 rfl rfl (by kernel_rfl) hc105) rfl (by kernel_rfl) (by kernel_rfl) (by kernel_rfl) (by kernel_rfl) rfl rfl (by decide) (fun a S => ?_)
                    refine sBin (.bool (!((r86.2.1.Num == r26.2.1.Num) && ((r86.2.1.Den == r26.2.1.Den) && true)))) S (wG (c := !((r86.1.Num == r26.1.Num) && ((r86.1.Den == r26.1.Den) && true))) 11 false 141 rfl rfl (by kernel_rfl) hc105) rfl (by kernel_rfl) (by kernel_rfl) (bNeV _ _ _ _ #[.int .i64 r86.2.1.Num, .int .i64 r86.2.1.Den] #[.int .i64 r26.2.1.Num, .int .i64 r26.2.1.Den] ((r86.2.1.Num == r26.2.1.Num) && ((r86.2.1.Den == r26.2.1.Den) && true)) (by kernel_rfl) (eqlV_of (by kernel_rfl))) rfl (by decide) (fun a S => ?_)
                    refine sPickF (b := !((r86.1.Num == r26.1.Num) && ((r86.1.Den == r26.1.Den) && true))) (.bool (!((r86.2.1.Num == r26.2.1.Num) && ((r86.2.1.Den == r26.2.1.Den) && true)))) S (wN rfl) rfl (by kernel_rfl) hc105 (by kernel_rfl) rfl (by decide) (fun a S => ?_)
                    refine sMove (.bool (!((r86.2.1.Num == r26.2.1.Num) && ((r86.2.1.Den == r26.2.1.Den) && true)))) S (wN rfl) (.inl rfl) (by kernel_rfl) rfl (by decide) (fun a S => ?_)
                    rcases iteSome h with ⟨hc106, h⟩ | ⟨hc106, h⟩
                    · refine sSkip (c := !((r86.2.1.Num == r26.2.1.Num) && ((r86.2.1.Den == r26.2.1.Den) && true))) 16 false 146 147 S rfl rfl (by kernel_rfl) hc106 rfl (by decide) (fun a S => ?_)
                      refine sSkip (c := !((r86.2.1.Num == r26.2.1.Num) && ((r86.2.1.Den == r26.2.1.Den) && true))) 16 false 146 148 S rfl rfl (by kernel_rfl) hc106 rfl (by decide) (fun a S => ?_)
                      refine sSkip (c := !((r86.2.1.Num == r26.2.1.Num) && ((r86.2.1.Den == r26.2.1.Den) && true))) 16 false 146 149 S rfl rfl (by kernel_rfl) hc106 rfl (by decide) (fun a S => ?_)
                      refine sPickT (b := !((r86.2.1.Num == r26.2.1.Num) && ((r86.2.1.Den == r26.2.1.Den) && true))) (.bool true) S (wN rfl) rfl (by kernel_rfl) hc106 (by kernel_rfl) rfl (by decide) (fun a S => ?_)
                      refine sMove (.bool true) S (wN rfl) (.inl rfl) (by kernel_rfl) rfl (by decide) (fun a S => ?_)
                      refine sSkip (c := true) 21 false 151 152 S rfl rfl (by kernel_rfl) rfl rfl (by decide) (fun a S => ?_)
                      refine sSkip (c := true) 21 false 151 153 S rfl rfl (by kernel_rfl) rfl rfl (by decide) (fun a S => ?_)
                      refine sSkip (c := true) 21 false 151 154 S rfl rfl (by kernel_rfl) rfl rfl (by decide) (fun a S => ?_)
                      refine sPickT (b := true) (.bool true) S (wN rfl) rfl (by kernel_rfl) rfl (by kernel_rfl) rfl (by decide) (fun a S => ?_)
                      exact leafL (leafT (⟨true, Option.some.inj h, S.fix [4, 5, 6, 9] [6, 9] (by decide) (by kernel_rfl) (by kernel_rfl) (by kernel_rfl)⟩))
                    · refine sLoadN (p := b97) (off := 0) (T := 34) (vs := [.int .i64 r93.1.Num, .int .i64 r93.1.Den]) 1 [.int .i64 r93.1.Num, .int .i64 r93.1.Den] S (wG (c := !((r86.2.1.Num == r26.2.1.Num) && ((r86.2.1.Den == r26.2.1.Den) && true))) 16 false 146 rfl rfl (by kernel_rfl) hc106) rfl (by kernel_rfl) (by kernel_rfl) (by kernel_rfl) (by kernel_rfl) rfl rfl (by decide) (fun a S => ?_)
                      refine sLoadN (p := b31) (off := 0) (T := 34) (vs := [.int .i64 r26.2.1.Num, .int .i64 r26.2.1.Den]) 5 [.int .i64 r26.2.1.Num, .int .i64 r26.2.1.Den] S (wG (c := !((r86.2.1.Num == r26.2.1.Num) && ((r86.2.1.Den == r26.2.1.Den) && true))) 16 false 146 rfl rfl (by kernel_rfl) hc106) rfl (by kernel_rfl) (by kernel_rfl) (by kernel_rfl) (by kernel_rfl) rfl rfl (by decide) (fun a S => ?_)
                      refine sBin (.bool (!((r93.1.Num == r26.2.1.Num) && ((r93.1.Den == r26.2.1.Den) && true)))) S (wG (c := !((r86.2.1.Num == r26.2.1.Num) && ((r86.2.1.Den == r26.2.1.Den) && true))) 16 false 146 rfl rfl (by kernel_rfl) hc106) rfl (by kernel_rfl) (by kernel_rfl) (bNeV _ _ _ _ #[.int .i64 r93.1.Num, .int .i64 r93.1.Den] #[.int .i64 r26.2.1.Num, .int .i64 r26.2.1.Den] ((r93.1.Num == r26.2.1.Num) && ((r93.1.Den == r26.2.1.Den) && true)) (by kernel_rfl) (eqlV_of (by kernel_rfl))) rfl (by decide) (fun a S => ?_)
                      refine sPickF (b := !((r86.2.1.Num == r26.2.1.Num) && ((r86.2.1.Den == r26.2.1.Den) && true))) (.bool (!((r93.1.Num == r26.2.1.Num) && ((r93.1.Den == r26.2.1.Den) && true)))) S (wN rfl) rfl (by kernel_rfl) hc106 (by kernel_rfl) rfl (by decide) (fun a S => ?_)
                      refine sMove (.bool (!((r93.1.Num == r26.2.1.Num) && ((r93.1.Den == r26.2.1.Den) && true)))) S (wN rfl) (.inl rfl) (by kernel_rfl) rfl (by decide) (fun a S => ?_)
                      rcases iteSome h with ⟨hc107, h⟩ | ⟨hc107, h⟩
                      · refine sSkip (c := !((r93.1.Num == r26.2.1.Num) && ((r93.1.Den == r26.2.1.Den) && true))) 21 false 151 152 S rfl rfl (by kernel_rfl) hc107 rfl (by decide) (fun a S => ?_)
                        refine sSkip (c := !((r93.1.Num == r26.2.1.Num) && ((r93.1.Den == r26.2.1.Den) && true))) 21 false 151 153 S rfl rfl (by kernel_rfl) hc107 rfl (by decide) (fun a S => ?_)
                        refine sSkip (c := !((r93.1.Num == r26.2.1.Num) && ((r93.1.Den == r26.2.1.Den) && true))) 21 false 151 154 S rfl rfl (by kernel_rfl) hc107 rfl (by decide) (fun a S => ?_)
                        refine sPickT (b := !((r93.1.Num == r26.2.1.Num) && ((r93.1.Den == r26.2.1.Den) && true))) (.bool true) S (wN rfl) rfl (by kernel_rfl) hc107 (by kernel_rfl) rfl (by decide) (fun a S => ?_)
                        exact leafL (leafT (⟨true, Option.some.inj h, S.fix [4, 5, 6, 9] [6, 9] (by decide) (by kernel_rfl) (by kernel_rfl) (by kernel_rfl)⟩))
                      · refine sLoadN (p := b98) (off := 0) (T := 34) (vs := [.int .i64 r93.2.1.Num, .int .i64 r93.2.1.Den]) 0 [.int .i64 r93.2.1.Num, .int .i64 r93.2.1.Den] S (wG (c := !((r93.1.Num == r26.2.1.Num) && ((r93.1.Den == r26.2.1.Den) && true))) 21 false 151 rfl rfl (by kernel_rfl) hc107) rfl (by kernel_rfl) (by kernel_rfl) (by kernel_rfl) (by kernel_rfl) rfl rfl (by decide) (fun a S => ?_)
                        refine sLoadN (p := b30) (off := 0) (T := 34) (vs := [.int .i64 r26.1.Num, .int .i64 r26.1.Den]) 4 [.int .i64 r26.1.Num, .int .i64 r26.1.Den] S (wG (c := !((r93.1.Num == r26.2.1.Num) && ((r93.1.Den == r26.2.1.Den) && true))) 21 false 151 rfl rfl (by kernel_rfl) hc107) rfl (by kernel_rfl) (by kernel_rfl) (by kernel_rfl) (by kernel_rfl) rfl rfl (by decide) (fun a S => ?_)
                        refine sBin (.bool (!((r93.2.1.Num == r26.1.Num) && ((r93.2.1.Den == r26.1.Den) && true)))) S (wG (c := !((r93.1.Num == r26.2.1.Num) && ((r93.1.Den == r26.2.1.Den) && true))) 21 false 151 rfl rfl (by kernel_rfl) hc107) rfl (by kernel_rfl) (by kernel_rfl) (bNeV _ _ _ _ #[.int .i64 r93.2.1.Num, .int .i64 r93.2.1.Den] #[.int .i64 r26.1.Num, .int .i64 r26.1.Den] ((r93.2.1.Num == r26.1.Num) && ((r93.2.1.Den == r26.1.Den) && true)) (by kernel_rfl) (eqlV_of (by kernel_rfl))) rfl (by decide) (fun a S => ?_)
                        refine sPickF (b := !((r93.1.Num == r26.2.1.Num) && ((r93.1.Den == r26.2.1.Den) && true))) (.bool (!((r93.2.1.Num == r26.1.Num) && ((r93.2.1.Den == r26.1.Den) && true)))) S (wN rfl) rfl (by kernel_rfl) hc107 (by kernel_rfl) rfl (by decide) (fun a S => ?_)
                        exact leafL (leafT (⟨!((r93.2.1.Num == r26.1.Num) && ((r93.2.1.Den == r26.1.Den) && true)), Option.some.inj h, S.fix [4, 5, 6, 9] [6, 9] (by decide) (by kernel_rfl) (by kernel_rfl) (by kernel_rfl)⟩))
            · obtain ⟨o100, rfl, S⟩ := hI
              have h := g102
              clear g102
              try dsimp only at h
              rcases iteSome h with ⟨hc108, h⟩ | ⟨hc108, h⟩
              · refine sCondT (b := o100) S (by kernel_rfl) hc108 ?_
                refine sSeq (fun K109 hK109 => ?_)
                refine sRegion ?_
                refine sMove (.bool false) S (wN rfl) (.inr rfl) (by kernel_rfl) rfl (by decide) (fun a S => ?_)
                refine leafL (leafT (hK109 _ _ ?_))
                obtain rfl := Option.some.inj h
                exact wp_ret (rThen (sRet (.bool false) S (rsl1 rfl (rvT (t := 10) (v := .bool false) S (by kernel_rfl))) ⟨(), rfl, S.mem.sel [] [] (by decide) (by kernel_rfl) (by kernel_rfl)⟩))
              · refine sCondF (b := o100) S (by kernel_rfl) hc108 ?_
                refine wp_skip (leafT (hK99 _ _ ?_))
                obtain ⟨t110, h, g111⟩ := bindSome h
                refine sCut (fun a w => .inl () = t110 ∧ St E [] w0 202 a w [(1, .int .i64 p1), (11, .bool r8), (12, .pointer (some ⟨b30, 0, none⟩)), (13, .pointer (some ⟨b31, 0, none⟩)), (21, .pointer (some ⟨b71, 0, none⟩)), (22, .int .i64 r64.2)] [eBox b30 34 [.int .i64 r26.1.Num, .int .i64 r26.1.Den], eBox b31 34 [.int .i64 r26.2.1.Num, .int .i64 r26.2.1.Den], eBox b71 24 [.int .i64 r64.1.W, .int .i64 r64.1.H, .slice ad69 r64.1.Bits.length cp70]] [fRep (rL rB) (.slice ad69 r64.1.Bits.length cp70) r64.1.Bits]) ?_ (fun a w hI => ?_)
                · refine sSeq (fun K112 hK112 => ?_)
                  refine sRegion ?_
                  refine sMove (.int .i64 r37.2) S (wN rfl) (.inl rfl) (by kernel_rfl) rfl (by decide) (fun a S => ?_)
                  refine sBin (.bool (r37.2 == 0)) S (wN rfl) rfl (by kernel_rfl) (by kernel_rfl) (bEq _ _ _ _ .i64 r37.2 0) rfl (by decide) (fun a S => ?_)
                  refine leafL (leafT (hK112 _ _ ?_))
                  rcases iteSome h with ⟨hc113, h⟩ | ⟨hc113, h⟩
                  · refine sCondT (b := r37.2 == 0) S (by kernel_rfl) hc113 ?_
                    refine sSeq (fun K114 hK114 => ?_)
                    refine sRegion ?_
                    refine sLoadN (p := b44) (off := 0) (T := 24) (vs := [.int .i64 r37.1.W, .int .i64 r37.1.H, .slice ad42 r37.1.Bits.length cp43]) 2 [.int .i64 r37.1.W, .int .i64 r37.1.H, .slice ad42 r37.1.Bits.length cp43] S (wN rfl) rfl (by kernel_rfl) (by kernel_rfl) (by kernel_rfl) (by kernel_rfl) rfl rfl (by decide) (fun a S => ?_)
                    refine sMove (.int .i64 p1) S (wN rfl) (.inl rfl) (by kernel_rfl) rfl (by decide) (fun a S => ?_)
                    obtain ⟨r115, hx116, h⟩ := bindSome h
                    have S := S.learn (fRep r_api_Grid (.agg #[.int .i64 r37.1.W, .int .i64 r37.1.H, .slice ad42 r37.1.Bits.length cp43]) r37.1) ⟨_, rfl, S.mem.know (i := 0) (e := fRep (rL rB) (.slice ad42 r37.1.Bits.length cp43) r37.1.Bits) (by kernel_rfl)⟩
                    refine sCall (X := Value × Value) (f := 13) (vs := [.agg #[.int .i64 r37.1.W, .int .i64 r37.1.H, .slice ad42 r37.1.Bits.length cp43], .int .i64 p1]) (val := c_sett_Setts_val r115) (B' := fun _ => []) (D' := c_sett_Setts_D r115) [] [eBox b30 34 [.int .i64 r26.1.Num, .int .i64 r26.1.Den], eBox b31 34 [.int .i64 r26.2.1.Num, .int .i64 r26.2.1.Den], eBox b44 24 [.int .i64 r37.1.W, .int .i64 r37.1.H, .slice ad42 r37.1.Bits.length cp43], eBox b71 24 [.int .i64 r64.1.W, .int .i64 r64.1.H, .slice ad69 r64.1.Bits.length cp70]] [fRep r_api_Grid (.agg #[.int .i64 r37.1.W, .int .i64 r37.1.H, .slice ad42 r37.1.Bits.length cp43]) r37.1] [0, 1, 2, 3] [0] S (wN rfl) rfl callee13 (by kernel_rfl) (by decide) (by kernel_rfl) (by kernel_rfl) (fun E1 w1 S1 => c_sett_Setts E1 w1 r37.1 (.agg #[.int .i64 r37.1.W, .int .i64 r37.1.H, .slice ad42 r37.1.Bits.length cp43]) p1 r115 hx116 S1) rfl (by decide) (fun xx a w S => ?_)
                    obtain ⟨u117, u118⟩ := xx
                    obtain rfl : u117 = .agg #[.int .i64 r115.1.Num, .int .i64 r115.1.Den] := S.mem.know (i := 0) (e := fRep r_api_Ratio (u117) r115.1) (by kernel_rfl)
                    obtain rfl : u118 = .agg #[.int .i64 r115.2.1.Num, .int .i64 r115.2.1.Den] := S.mem.know (i := 1) (e := fRep r_api_Ratio (u118) r115.2.1) (by kernel_rfl)
                    refine sMove (.tuple #[.agg #[.int .i64 r115.1.Num, .int .i64 r115.1.Den], .agg #[.int .i64 r115.2.1.Num, .int .i64 r115.2.1.Den], .int .i64 r115.2.2]) S (wN rfl) (.inl rfl) (by kernel_rfl) rfl (by decide) (fun a S => ?_)
                    refine sExtract (vs := [.agg #[.int .i64 r115.1.Num, .int .i64 r115.1.Den], .agg #[.int .i64 r115.2.1.Num, .int .i64 r115.2.1.Den], .int .i64 r115.2.2]) (.agg #[.int .i64 r115.1.Num, .int .i64 r115.1.Den]) S (wN rfl) rfl (by kernel_rfl) rfl rfl (by decide) (fun a S => ?_)
                    refine sExtract (vs := [.agg #[.int .i64 r115.1.Num, .int .i64 r115.1.Den], .agg #[.int .i64 r115.2.1.Num, .int .i64 r115.2.1.Den], .int .i64 r115.2.2]) (.agg #[.int .i64 r115.2.1.Num, .int .i64 r115.2.1.Den]) S (wN rfl) rfl (by kernel_rfl) rfl rfl (by decide) (fun a S => ?_)
                    refine sExtract (vs := [.agg #[.int .i64 r115.1.Num, .int .i64 r115.1.Den], .agg #[.int .i64 r115.2.1.Num, .int .i64 r115.2.1.Den], .int .i64 r115.2.2]) (.int .i64 r115.2.2) S (wN rfl) rfl (by kernel_rfl) rfl rfl (by decide) (fun a S => ?_)
                    refine sAlloc (.agg #[.int .i64 0, .int .i64 0]) S (wN rfl) rfl (by kernel_rfl) [.int .i64 0, .int .i64 0] rfl rfl (by decide) (fun a b119 w S => ?_)
                    refine sAlloc (.agg #[.int .i64 0, .int .i64 0]) S (wN rfl) rfl (by kernel_rfl) [.int .i64 0, .int .i64 0] rfl rfl (by decide) (fun a b120 w S => ?_)
                    refine sStore (p := b119) (off := 0) (T := 34) (vs := [.int .i64 0, .int .i64 0]) (v := .agg #[.int .i64 r115.1.Num, .int .i64 r115.1.Den]) 1 [.int .i64 r115.1.Num, .int .i64 r115.1.Den] S (wN rfl) rfl (by kernel_rfl) (by kernel_rfl) rfl (by kernel_rfl) (by kernel_rfl) rfl (by simp) rfl (fun a w S => ?_)
                    refine sStore (p := b120) (off := 0) (T := 34) (vs := [.int .i64 0, .int .i64 0]) (v := .agg #[.int .i64 r115.2.1.Num, .int .i64 r115.2.1.Den]) 1 [.int .i64 r115.2.1.Num, .int .i64 r115.2.1.Den] S (wN rfl) rfl (by kernel_rfl) (by kernel_rfl) rfl (by kernel_rfl) (by kernel_rfl) rfl (by simp) rfl (fun a w S => ?_)
                    refine sMove (.int .i64 r115.2.2) S (wN rfl) (.inr rfl) (by kernel_rfl) rfl (by decide) (fun a S => ?_)
                    refine leafL (leafT (hK114 _ _ ?_))
                    obtain ⟨t122, h, g123⟩ := bindSome h
                    refine sCut (fun a w => ∃ o121, o121 = t122 ∧ St E [] w0 202 a w [(1, .int .i64 p1), (11, .bool r8), (12, .pointer (some ⟨b30, 0, none⟩)), (13, .pointer (some ⟨b31, 0, none⟩)), (21, .pointer (some ⟨b71, 0, none⟩)), (22, .int .i64 r64.2), (176, .bool o121)] [eBox b30 34 [.int .i64 r26.1.Num, .int .i64 r26.1.Den], eBox b31 34 [.int .i64 r26.2.1.Num, .int .i64 r26.2.1.Den], eBox b71 24 [.int .i64 r64.1.W, .int .i64 r64.1.H, .slice ad69 r64.1.Bits.length cp70]] [fRep (rL rB) (.slice ad69 r64.1.Bits.length cp70) r64.1.Bits]) ?_ (fun a w hI => ?_)
                    · refine sRegion ?_
                      refine sMove (.int .i64 r115.2.2) S (wN rfl) (.inl rfl) (by kernel_rfl) rfl (by decide) (fun a S => ?_)
                      refine sBin (.bool (r115.2.2 != 0)) S (wN rfl) rfl (by kernel_rfl) (by kernel_rfl) (bNe _ _ _ _ .i64 r115.2.2 0) rfl (by decide) (fun a S => ?_)
                      refine sMove (.bool (r115.2.2 != 0)) S (wN rfl) (.inl rfl) (by kernel_rfl) rfl (by decide) (fun a S => ?_)
                      rcases iteSome h with ⟨hc124, h⟩ | ⟨hc124, h⟩
                      · refine sSkip (c := r115.2.2 != 0) 2 false 167 168 S rfl rfl (by kernel_rfl) hc124 rfl (by decide) (fun a S => ?_)
                        refine sSkip (c := r115.2.2 != 0) 2 false 167 169 S rfl rfl (by kernel_rfl) hc124 rfl (by decide) (fun a S => ?_)
                        refine sSkip (c := r115.2.2 != 0) 2 false 167 170 S rfl rfl (by kernel_rfl) hc124 rfl (by decide) (fun a S => ?_)
                        refine sPickT (b := r115.2.2 != 0) (.bool true) S (wN rfl) rfl (by kernel_rfl) hc124 (by kernel_rfl) rfl (by decide) (fun a S => ?_)
                        refine sMove (.bool true) S (wN rfl) (.inl rfl) (by kernel_rfl) rfl (by decide) (fun a S => ?_)
                        refine sSkip (c := true) 7 false 172 173 S rfl rfl (by kernel_rfl) rfl rfl (by decide) (fun a S => ?_)
                        refine sSkip (c := true) 7 false 172 174 S rfl rfl (by kernel_rfl) rfl rfl (by decide) (fun a S => ?_)
                        refine sSkip (c := true) 7 false 172 175 S rfl rfl (by kernel_rfl) rfl rfl (by decide) (fun a S => ?_)
                        refine sPickT (b := true) (.bool true) S (wN rfl) rfl (by kernel_rfl) rfl (by kernel_rfl) rfl (by decide) (fun a S => ?_)
                        exact leafL (leafT (⟨true, Option.some.inj h, S.fix [2, 3, 5] [4] (by decide) (by kernel_rfl) (by kernel_rfl) (by kernel_rfl)⟩))
                      · refine sLoadN (p := b119) (off := 0) (T := 34) (vs := [.int .i64 r115.1.Num, .int .i64 r115.1.Den]) 1 [.int .i64 r115.1.Num, .int .i64 r115.1.Den] S (wG (c := r115.2.2 != 0) 2 false 167 rfl rfl (by kernel_rfl) hc124) rfl (by kernel_rfl) (by kernel_rfl) (by kernel_rfl) (by kernel_rfl) rfl rfl (by decide) (fun a S => ?_)
                        refine sLoadN (p := b30) (off := 0) (T := 34) (vs := [.int .i64 r26.1.Num, .int .i64 r26.1.Den]) 2 [.int .i64 r26.1.Num, .int .i64 r26.1.Den] S (wG (c := r115.2.2 != 0) 2 false 167 rfl rfl (by kernel_rfl) hc124) rfl (by kernel_rfl) (by kernel_rfl) (by kernel_rfl) (by kernel_rfl) rfl rfl (by decide) (fun a S => ?_)
                        refine sBin (.bool (!((r115.1.Num == r26.1.Num) && ((r115.1.Den == r26.1.Den) && true)))) S (wG (c := r115.2.2 != 0) 2 false 167 rfl rfl (by kernel_rfl) hc124) rfl (by kernel_rfl) (by kernel_rfl) (bNeV _ _ _ _ #[.int .i64 r115.1.Num, .int .i64 r115.1.Den] #[.int .i64 r26.1.Num, .int .i64 r26.1.Den] ((r115.1.Num == r26.1.Num) && ((r115.1.Den == r26.1.Den) && true)) (by kernel_rfl) (eqlV_of (by kernel_rfl))) rfl (by decide) (fun a S => ?_)
                        refine sPickF (b := r115.2.2 != 0) (.bool (!((r115.1.Num == r26.1.Num) && ((r115.1.Den == r26.1.Den) && true)))) S (wN rfl) rfl (by kernel_rfl) hc124 (by kernel_rfl) rfl (by decide) (fun a S => ?_)
                        refine sMove (.bool (!((r115.1.Num == r26.1.Num) && ((r115.1.Den == r26.1.Den) && true)))) S (wN rfl) (.inl rfl) (by kernel_rfl) rfl (by decide) (fun a S => ?_)
                        rcases iteSome h with ⟨hc125, h⟩ | ⟨hc125, h⟩
                        · refine sSkip (c := !((r115.1.Num == r26.1.Num) && ((r115.1.Den == r26.1.Den) && true))) 7 false 172 173 S rfl rfl (by kernel_rfl) hc125 rfl (by decide) (fun a S => ?_)
                          refine sSkip (c := !((r115.1.Num == r26.1.Num) && ((r115.1.Den == r26.1.Den) && true))) 7 false 172 174 S rfl rfl (by kernel_rfl) hc125 rfl (by decide) (fun a S => ?_)
                          refine sSkip (c := !((r115.1.Num == r26.1.Num) && ((r115.1.Den == r26.1.Den) && true))) 7 false 172 175 S rfl rfl (by kernel_rfl) hc125 rfl (by decide) (fun a S => ?_)
                          refine sPickT (b := !((r115.1.Num == r26.1.Num) && ((r115.1.Den == r26.1.Den) && true))) (.bool true) S (wN rfl) rfl (by kernel_rfl) hc125 (by kernel_rfl) rfl (by decide) (fun a S => ?_)
                          exact leafL (leafT (⟨true, Option.some.inj h, S.fix [2, 3, 5] [4] (by decide) (by kernel_rfl) (by kernel_rfl) (by kernel_rfl)⟩))
                        · refine sLoadN (p := b120) (off := 0) (T := 34) (vs := [.int .i64 r115.2.1.Num, .int .i64 r115.2.1.Den]) 0 [.int .i64 r115.2.1.Num, .int .i64 r115.2.1.Den] S (wG (c := !((r115.1.Num == r26.1.Num) && ((r115.1.Den == r26.1.Den) && true))) 7 false 172 rfl rfl (by kernel_rfl) hc125) rfl (by kernel_rfl) (by kernel_rfl) (by kernel_rfl) (by kernel_rfl) rfl rfl (by decide) (fun a S => ?_)
                          refine sLoadN (p := b31) (off := 0) (T := 34) (vs := [.int .i64 r26.2.1.Num, .int .i64 r26.2.1.Den]) 3 [.int .i64 r26.2.1.Num, .int .i64 r26.2.1.Den] S (wG (c := !((r115.1.Num == r26.1.Num) && ((r115.1.Den == r26.1.Den) && true))) 7 false 172 rfl rfl (by kernel_rfl) hc125) rfl (by kernel_rfl) (by kernel_rfl) (by kernel_rfl) (by kernel_rfl) rfl rfl (by decide) (fun a S => ?_)
                          refine sBin (.bool (!((r115.2.1.Num == r26.2.1.Num) && ((r115.2.1.Den == r26.2.1.Den) && true)))) S (wG (c := !((r115.1.Num == r26.1.Num) && ((r115.1.Den == r26.1.Den) && true))) 7 false 172 rfl rfl (by kernel_rfl) hc125) rfl (by kernel_rfl) (by kernel_rfl) (bNeV _ _ _ _ #[.int .i64 r115.2.1.Num, .int .i64 r115.2.1.Den] #[.int .i64 r26.2.1.Num, .int .i64 r26.2.1.Den] ((r115.2.1.Num == r26.2.1.Num) && ((r115.2.1.Den == r26.2.1.Den) && true)) (by kernel_rfl) (eqlV_of (by kernel_rfl))) rfl (by decide) (fun a S => ?_)
                          refine sPickF (b := !((r115.1.Num == r26.1.Num) && ((r115.1.Den == r26.1.Den) && true))) (.bool (!((r115.2.1.Num == r26.2.1.Num) && ((r115.2.1.Den == r26.2.1.Den) && true)))) S (wN rfl) rfl (by kernel_rfl) hc125 (by kernel_rfl) rfl (by decide) (fun a S => ?_)
                          exact leafL (leafT (⟨!((r115.2.1.Num == r26.2.1.Num) && ((r115.2.1.Den == r26.2.1.Den) && true)), Option.some.inj h, S.fix [2, 3, 5] [4] (by decide) (by kernel_rfl) (by kernel_rfl) (by kernel_rfl)⟩))
                    · obtain ⟨o121, rfl, S⟩ := hI
                      have h := g123
                      clear g123
                      try dsimp only at h
                      rcases iteSome h with ⟨hc126, h⟩ | ⟨hc126, h⟩
                      · refine sCondT (b := o121) S (by kernel_rfl) hc126 ?_
                        refine sSeq (fun K127 hK127 => ?_)
                        refine sRegion ?_
                        refine sMove (.bool false) S (wN rfl) (.inr rfl) (by kernel_rfl) rfl (by decide) (fun a S => ?_)
                        refine leafL (leafT (hK127 _ _ ?_))
                        obtain rfl := Option.some.inj h
                        have h := g111
                        clear g111
                        try dsimp only at h
                        obtain rfl := Option.some.inj h
                        exact wp_ret (rThen (sRet (.bool false) S (rsl1 rfl (rvT (t := 10) (v := .bool false) S (by kernel_rfl))) ⟨(), rfl, S.mem.sel [] [] (by decide) (by kernel_rfl) (by kernel_rfl)⟩))
                      · refine sCondF (b := o121) S (by kernel_rfl) hc126 ?_
                        exact wp_skip (leafT (⟨Option.some.inj h, S.fix [0, 1, 2] [0] (by decide) (by kernel_rfl) (by kernel_rfl) (by kernel_rfl)⟩))
                  · refine sCondF (b := r37.2 == 0) S (by kernel_rfl) hc113 ?_
                    exact wp_skip (leafT (⟨Option.some.inj h, S.fix [0, 1, 3] [1] (by decide) (by kernel_rfl) (by kernel_rfl) (by kernel_rfl)⟩))
                · obtain ⟨rfl, S⟩ := hI
                  have h := g111
                  clear g111
                  try dsimp only at h
                  refine sSeq (fun K128 hK128 => ?_)
                  refine sSeq (fun K129 hK129 => ?_)
                  refine sRegion ?_
                  refine sMove (.int .i64 r64.2) S (wN rfl) (.inl rfl) (by kernel_rfl) rfl (by decide) (fun a S => ?_)
                  refine sBin (.bool (r64.2 == 0)) S (wN rfl) rfl (by kernel_rfl) (by kernel_rfl) (bEq _ _ _ _ .i64 r64.2 0) rfl (by decide) (fun a S => ?_)
                  refine leafL (leafT (hK129 _ _ ?_))
                  rcases iteSome h with ⟨hc130, h⟩ | ⟨hc130, h⟩
                  · refine sCondT (b := r64.2 == 0) S (by kernel_rfl) hc130 ?_
                    refine sSeq (fun K131 hK131 => ?_)
                    refine sRegion ?_
                    refine sLoadN (p := b71) (off := 0) (T := 24) (vs := [.int .i64 r64.1.W, .int .i64 r64.1.H, .slice ad69 r64.1.Bits.length cp70]) 2 [.int .i64 r64.1.W, .int .i64 r64.1.H, .slice ad69 r64.1.Bits.length cp70] S (wN rfl) rfl (by kernel_rfl) (by kernel_rfl) (by kernel_rfl) (by kernel_rfl) rfl rfl (by decide) (fun a S => ?_)
                    refine sMove (.int .i64 p1) S (wN rfl) (.inl rfl) (by kernel_rfl) rfl (by decide) (fun a S => ?_)
                    obtain ⟨r132, hx133, h⟩ := bindSome h
                    have S := S.learn (fRep r_api_Grid (.agg #[.int .i64 r64.1.W, .int .i64 r64.1.H, .slice ad69 r64.1.Bits.length cp70]) r64.1) ⟨_, rfl, S.mem.know (i := 0) (e := fRep (rL rB) (.slice ad69 r64.1.Bits.length cp70) r64.1.Bits) (by kernel_rfl)⟩
                    refine sCall (X := Value × Value) (f := 13) (vs := [.agg #[.int .i64 r64.1.W, .int .i64 r64.1.H, .slice ad69 r64.1.Bits.length cp70], .int .i64 p1]) (val := c_sett_Setts_val r132) (B' := fun _ => []) (D' := c_sett_Setts_D r132) [] [eBox b30 34 [.int .i64 r26.1.Num, .int .i64 r26.1.Den], eBox b31 34 [.int .i64 r26.2.1.Num, .int .i64 r26.2.1.Den], eBox b71 24 [.int .i64 r64.1.W, .int .i64 r64.1.H, .slice ad69 r64.1.Bits.length cp70]] [fRep r_api_Grid (.agg #[.int .i64 r64.1.W, .int .i64 r64.1.H, .slice ad69 r64.1.Bits.length cp70]) r64.1] [0, 1, 2] [0] S (wN rfl) rfl callee13 (by kernel_rfl) (by decide) (by kernel_rfl) (by kernel_rfl) (fun E1 w1 S1 => c_sett_Setts E1 w1 r64.1 (.agg #[.int .i64 r64.1.W, .int .i64 r64.1.H, .slice ad69 r64.1.Bits.length cp70]) p1 r132 hx133 S1) rfl (by decide) (fun xx a w S => ?_)
                    obtain ⟨u134, u135⟩ := xx
                    obtain rfl : u134 = .agg #[.int .i64 r132.1.Num, .int .i64 r132.1.Den] := S.mem.know (i := 0) (e := fRep r_api_Ratio (u134) r132.1) (by kernel_rfl)
                    obtain rfl : u135 = .agg #[.int .i64 r132.2.1.Num, .int .i64 r132.2.1.Den] := S.mem.know (i := 1) (e := fRep r_api_Ratio (u135) r132.2.1) (by kernel_rfl)
                    refine sMove (.tuple #[.agg #[.int .i64 r132.1.Num, .int .i64 r132.1.Den], .agg #[.int .i64 r132.2.1.Num, .int .i64 r132.2.1.Den], .int .i64 r132.2.2]) S (wN rfl) (.inl rfl) (by kernel_rfl) rfl (by decide) (fun a S => ?_)
                    refine sExtract (vs := [.agg #[.int .i64 r132.1.Num, .int .i64 r132.1.Den], .agg #[.int .i64 r132.2.1.Num, .int .i64 r132.2.1.Den], .int .i64 r132.2.2]) (.agg #[.int .i64 r132.1.Num, .int .i64 r132.1.Den]) S (wN rfl) rfl (by kernel_rfl) rfl rfl (by decide) (fun a S => ?_)
                    refine sExtract (vs := [.agg #[.int .i64 r132.1.Num, .int .i64 r132.1.Den], .agg #[.int .i64 r132.2.1.Num, .int .i64 r132.2.1.Den], .int .i64 r132.2.2]) (.agg #[.int .i64 r132.2.1.Num, .int .i64 r132.2.1.Den]) S (wN rfl) rfl (by kernel_rfl) rfl rfl (by decide) (fun a S => ?_)
                    refine sExtract (vs := [.agg #[.int .i64 r132.1.Num, .int .i64 r132.1.Den], .agg #[.int .i64 r132.2.1.Num, .int .i64 r132.2.1.Den], .int .i64 r132.2.2]) (.int .i64 r132.2.2) S (wN rfl) rfl (by kernel_rfl) rfl rfl (by decide) (fun a S => ?_)
                    refine sAlloc (.agg #[.int .i64 0, .int .i64 0]) S (wN rfl) rfl (by kernel_rfl) [.int .i64 0, .int .i64 0] rfl rfl (by decide) (fun a b136 w S => ?_)
                    refine sAlloc (.agg #[.int .i64 0, .int .i64 0]) S (wN rfl) rfl (by kernel_rfl) [.int .i64 0, .int .i64 0] rfl rfl (by decide) (fun a b137 w S => ?_)
                    refine sStore (p := b136) (off := 0) (T := 34) (vs := [.int .i64 0, .int .i64 0]) (v := .agg #[.int .i64 r132.1.Num, .int .i64 r132.1.Den]) 1 [.int .i64 r132.1.Num, .int .i64 r132.1.Den] S (wN rfl) rfl (by kernel_rfl) (by kernel_rfl) rfl (by kernel_rfl) (by kernel_rfl) rfl (by simp) rfl (fun a w S => ?_)
                    refine sStore (p := b137) (off := 0) (T := 34) (vs := [.int .i64 0, .int .i64 0]) (v := .agg #[.int .i64 r132.2.1.Num, .int .i64 r132.2.1.Den]) 1 [.int .i64 r132.2.1.Num, .int .i64 r132.2.1.Den] S (wN rfl) rfl (by kernel_rfl) (by kernel_rfl) rfl (by kernel_rfl) (by kernel_rfl) rfl (by simp) rfl (fun a w S => ?_)
                    refine sMove (.int .i64 r132.2.2) S (wN rfl) (.inr rfl) (by kernel_rfl) rfl (by decide) (fun a S => ?_)
                    refine leafL (leafT (hK131 _ _ ?_))
                    obtain ⟨t139, h, g140⟩ := bindSome h
                    refine sCut (fun a w => ∃ o138, o138 = t139 ∧ St E [] w0 202 a w [(10, .bool o138)] [] []) ?_ (fun a w hI => ?_)
                    · refine sRegion ?_
                      refine sMove (.bool r8) S (wN rfl) (.inl rfl) (by kernel_rfl) rfl (by decide) (fun a S => ?_)
                      refine sMove (.bool r8) S (wN rfl) (.inl rfl) (by kernel_rfl) rfl (by decide) (fun a S => ?_)
                      rcases iteSome h with ⟨hc141, h⟩ | ⟨hc141, h⟩
                      · refine sMove (.int .i64 r132.2.2) S (wG (c := r8) 1 true 187 rfl rfl (by kernel_rfl) hc141) (.inl rfl) (by kernel_rfl) rfl (by decide) (fun a S => ?_)
                        refine sBin (.bool (r132.2.2 == 0)) S (wG (c := r8) 1 true 187 rfl rfl (by kernel_rfl) hc141) rfl (by kernel_rfl) (by kernel_rfl) (bEq _ _ _ _ .i64 r132.2.2 0) rfl (by decide) (fun a S => ?_)
                        refine sPickT (b := r8) (.bool (r132.2.2 == 0)) S (wN rfl) rfl (by kernel_rfl) hc141 (by kernel_rfl) rfl (by decide) (fun a S => ?_)
                        refine sMove (.bool (r132.2.2 == 0)) S (wN rfl) (.inl rfl) (by kernel_rfl) rfl (by decide) (fun a S => ?_)
                        rcases iteSome h with ⟨hc142, h⟩ | ⟨hc142, h⟩
                        · refine sLoadN (p := b136) (off := 0) (T := 34) (vs := [.int .i64 r132.1.Num, .int .i64 r132.1.Den]) 1 [.int .i64 r132.1.Num, .int .i64 r132.1.Den] S (wG (c := r132.2.2 == 0) 5 true 191 rfl rfl (by kernel_rfl) hc142) rfl (by kernel_rfl) (by kernel_rfl) (by kernel_rfl) (by kernel_rfl) rfl rfl (by decide) (fun a S => ?_)
                          refine sLoadN (p := b30) (off := 0) (T := 34) (vs := [.int .i64 r26.1.Num, .int .i64 r26.1.Den]) 2 [.int .i64 r26.1.Num, .int .i64 r26.1.Den] S (wG (c := r132.2.2 == 0) 5 true 191 rfl rfl (by kernel_rfl) hc142) rfl (by kernel_rfl) (by kernel_rfl) (by kernel_rfl) (by kernel_rfl) rfl rfl (by decide) (fun a S => ?_)
                          refine sBin (.bool ((r132.1.Num == r26.1.Num) && ((r132.1.Den == r26.1.Den) && true))) S (wG (c := r132.2.2 == 0) 5 true 191 rfl rfl (by kernel_rfl) hc142) rfl (by kernel_rfl) (by kernel_rfl) (bEqV _ _ _ _ #[.int .i64 r132.1.Num, .int .i64 r132.1.Den] #[.int .i64 r26.1.Num, .int .i64 r26.1.Den] ((r132.1.Num == r26.1.Num) && ((r132.1.Den == r26.1.Den) && true)) (by kernel_rfl) (eqlV_of (by kernel_rfl))) rfl (by decide) (fun a S => ?_)
                          refine sPickT (b := r132.2.2 == 0) (.bool ((r132.1.Num == r26.1.Num) && ((r132.1.Den == r26.1.Den) && true))) S (wN rfl) rfl (by kernel_rfl) hc142 (by kernel_rfl) rfl (by decide) (fun a S => ?_)
                          refine sMove (.bool ((r132.1.Num == r26.1.Num) && ((r132.1.Den == r26.1.Den) && true))) S (wN rfl) (.inl rfl) (by kernel_rfl) rfl (by decide) (fun a S => ?_)
                          rcases iteSome h with ⟨hc143, h⟩ | ⟨hc143, h⟩
                          · refine sLoadN (p := b137) (off := 0) (T := 34) (vs := [.int .i64 r132.2.1.Num, .int .i64 r132.2.1.Den]) 0 [.int .i64 r132.2.1.Num, .int .i64 r132.2.1.Den] S (wG (c := ((r132.1.Num == r26.1.Num) && ((r132.1.Den == r26.1.Den) && true))) 10 true 196 rfl rfl (by kernel_rfl) hc143) rfl (by kernel_rfl) (by kernel_rfl) (by kernel_rfl) (by kernel_rfl) rfl rfl (by decide) (fun a S => ?_)
                            refine sLoadN (p := b31) (off := 0) (T := 34) (vs := [.int .i64 r26.2.1.Num, .int .i64 r26.2.1.Den]) 3 [.int .i64 r26.2.1.Num, .int .i64 r26.2.1.Den] S (wG (c := ((r132.1.Num == r26.1.Num) && ((r132.1.Den == r26.1.Den) && true))) 10 true 196 rfl rfl (by kernel_rfl) hc143) rfl (by kernel_rfl) (by kernel_rfl) (by kernel_rfl) (by kernel_rfl) rfl rfl (by decide) (fun a S => ?_)
                            refine sBin (.bool ((r132.2.1.Num == r26.2.1.Num) && ((r132.2.1.Den == r26.2.1.Den) && true))) S (wG (c := ((r132.1.Num == r26.1.Num) && ((r132.1.Den == r26.1.Den) && true))) 10 true 196 rfl rfl (by kernel_rfl) hc143) rfl (by kernel_rfl) (by kernel_rfl) (bEqV _ _ _ _ #[.int .i64 r132.2.1.Num, .int .i64 r132.2.1.Den] #[.int .i64 r26.2.1.Num, .int .i64 r26.2.1.Den] ((r132.2.1.Num == r26.2.1.Num) && ((r132.2.1.Den == r26.2.1.Den) && true)) (by kernel_rfl) (eqlV_of (by kernel_rfl))) rfl (by decide) (fun a S => ?_)
                            refine sPickT (b := ((r132.1.Num == r26.1.Num) && ((r132.1.Den == r26.1.Den) && true))) (.bool ((r132.2.1.Num == r26.2.1.Num) && ((r132.2.1.Den == r26.2.1.Den) && true))) S (wN rfl) rfl (by kernel_rfl) hc143 (by kernel_rfl) rfl (by decide) (fun a S => ?_)
                            refine sMove (.bool ((r132.2.1.Num == r26.2.1.Num) && ((r132.2.1.Den == r26.2.1.Den) && true))) S (wN rfl) (.inr rfl) (by kernel_rfl) rfl (by decide) (fun a S => ?_)
                            exact leafL (leafT (⟨((r132.2.1.Num == r26.2.1.Num) && ((r132.2.1.Den == r26.2.1.Den) && true)), Option.some.inj h, S.fix [] [] (by decide) (by kernel_rfl) (by kernel_rfl) (by kernel_rfl)⟩))
                          · refine sSkip (c := ((r132.1.Num == r26.1.Num) && ((r132.1.Den == r26.1.Den) && true))) 10 true 196 197 S rfl rfl (by kernel_rfl) hc143 rfl (by decide) (fun a S => ?_)
                            refine sSkip (c := ((r132.1.Num == r26.1.Num) && ((r132.1.Den == r26.1.Den) && true))) 10 true 196 198 S rfl rfl (by kernel_rfl) hc143 rfl (by decide) (fun a S => ?_)
                            refine sSkip (c := ((r132.1.Num == r26.1.Num) && ((r132.1.Den == r26.1.Den) && true))) 10 true 196 199 S rfl rfl (by kernel_rfl) hc143 rfl (by decide) (fun a S => ?_)
                            refine sPickF (b := ((r132.1.Num == r26.1.Num) && ((r132.1.Den == r26.1.Den) && true))) (.bool false) S (wN rfl) rfl (by kernel_rfl) hc143 (by kernel_rfl) rfl (by decide) (fun a S => ?_)
                            refine sMove (.bool false) S (wN rfl) (.inr rfl) (by kernel_rfl) rfl (by decide) (fun a S => ?_)
                            exact leafL (leafT (⟨false, Option.some.inj h, S.fix [] [] (by decide) (by kernel_rfl) (by kernel_rfl) (by kernel_rfl)⟩))
                        · refine sSkip (c := r132.2.2 == 0) 5 true 191 192 S rfl rfl (by kernel_rfl) hc142 rfl (by decide) (fun a S => ?_)
                          refine sSkip (c := r132.2.2 == 0) 5 true 191 193 S rfl rfl (by kernel_rfl) hc142 rfl (by decide) (fun a S => ?_)
                          refine sSkip (c := r132.2.2 == 0) 5 true 191 194 S rfl rfl (by kernel_rfl) hc142 rfl (by decide) (fun a S => ?_)
                          refine sPickF (b := r132.2.2 == 0) (.bool false) S (wN rfl) rfl (by kernel_rfl) hc142 (by kernel_rfl) rfl (by decide) (fun a S => ?_)
                          refine sMove (.bool false) S (wN rfl) (.inl rfl) (by kernel_rfl) rfl (by decide) (fun a S => ?_)
                          refine sSkip (c := false) 10 true 196 197 S rfl rfl (by kernel_rfl) rfl rfl (by decide) (fun a S => ?_)
                          refine sSkip (c := false) 10 true 196 198 S rfl rfl (by kernel_rfl) rfl rfl (by decide) (fun a S => ?_)
                          refine sSkip (c := false) 10 true 196 199 S rfl rfl (by kernel_rfl) rfl rfl (by decide) (fun a S => ?_)
                          refine sPickF (b := false) (.bool false) S (wN rfl) rfl (by kernel_rfl) rfl (by kernel_rfl) rfl (by decide) (fun a S => ?_)
                          refine sMove (.bool false) S (wN rfl) (.inr rfl) (by kernel_rfl) rfl (by decide) (fun a S => ?_)
                          exact leafL (leafT (⟨false, Option.some.inj h, S.fix [] [] (by decide) (by kernel_rfl) (by kernel_rfl) (by kernel_rfl)⟩))
                      · refine sSkip (c := r8) 1 true 187 188 S rfl rfl (by kernel_rfl) hc141 rfl (by decide) (fun a S => ?_)
                        refine sSkip (c := r8) 1 true 187 189 S rfl rfl (by kernel_rfl) hc141 rfl (by decide) (fun a S => ?_)
                        refine sPickF (b := r8) (.bool false) S (wN rfl) rfl (by kernel_rfl) hc141 (by kernel_rfl) rfl (by decide) (fun a S => ?_)
                        refine sMove (.bool false) S (wN rfl) (.inl rfl) (by kernel_rfl) rfl (by decide) (fun a S => ?_)
                        refine sSkip (c := false) 5 true 191 192 S rfl rfl (by kernel_rfl) rfl rfl (by decide) (fun a S => ?_)
                        refine sSkip (c := false) 5 true 191 193 S rfl rfl (by kernel_rfl) rfl rfl (by decide) (fun a S => ?_)
                        refine sSkip (c := false) 5 true 191 194 S rfl rfl (by kernel_rfl) rfl rfl (by decide) (fun a S => ?_)
                        refine sPickF (b := false) (.bool false) S (wN rfl) rfl (by kernel_rfl) rfl (by kernel_rfl) rfl (by decide) (fun a S => ?_)
                        refine sMove (.bool false) S (wN rfl) (.inl rfl) (by kernel_rfl) rfl (by decide) (fun a S => ?_)
                        refine sSkip (c := false) 10 true 196 197 S rfl rfl (by kernel_rfl) rfl rfl (by decide) (fun a S => ?_)
                        refine sSkip (c := false) 10 true 196 198 S rfl rfl (by kernel_rfl) rfl rfl (by decide) (fun a S => ?_)
                        refine sSkip (c := false) 10 true 196 199 S rfl rfl (by kernel_rfl) rfl rfl (by decide) (fun a S => ?_)
                        refine sPickF (b := false) (.bool false) S (wN rfl) rfl (by kernel_rfl) rfl (by kernel_rfl) rfl (by decide) (fun a S => ?_)
                        refine sMove (.bool false) S (wN rfl) (.inr rfl) (by kernel_rfl) rfl (by decide) (fun a S => ?_)
                        exact leafL (leafT (⟨false, Option.some.inj h, S.fix [] [] (by decide) (by kernel_rfl) (by kernel_rfl) (by kernel_rfl)⟩))
                    · obtain ⟨o138, rfl, S⟩ := hI
                      have h := g140
                      clear g140
                      try dsimp only at h
                      obtain rfl := Option.some.inj h
                      exact wp_ret (rThen (sRet (.bool o138) S (rsl1 rfl (rvT (t := 10) (v := .bool o138) S (by kernel_rfl))) ⟨(), rfl, S.mem.sel [] [] (by decide) (by kernel_rfl) (by kernel_rfl)⟩))
                  · refine sCondF (b := r64.2 == 0) S (by kernel_rfl) hc130 ?_
                    refine wp_skip (leafT (hK128 _ _ ?_))
                    refine sSeq (fun K144 hK144 => ?_)
                    refine sRegion ?_
                    refine sMove (.bool r8) S (wN rfl) (.inl rfl) (by kernel_rfl) rfl (by decide) (fun a S => ?_)
                    refine sMove (.bool r8) S (wN rfl) (.inr rfl) (by kernel_rfl) rfl (by decide) (fun a S => ?_)
                    refine leafL (leafT (hK144 _ _ ?_))
                    obtain rfl := Option.some.inj h
                    exact wp_ret (sRet (.bool r8) S (rsl1 rfl (rvT (t := 10) (v := .bool r8) S (by kernel_rfl))) ⟨(), rfl, S.mem.sel [] [] (by decide) (by kernel_rfl) (by kernel_rfl)⟩)

end Go.Proofs.Ytjndecalogklhaa
namespace Go.Proofs.Ytjndecalogklhaa
open Go.RowKit
set_option linter.unusedVariables false

def sumN (F : Nat → Nat) : Nat → Nat
  | 0 => 0
  | n + 1 => sumN F n + F n
theorem sumN_cong {F G : Nat → Nat} {n : Nat} (h : ∀ k, k < n → F k = G k) : sumN F n = sumN G n := by
  induction n with
  | zero => rfl
  | succ n ih => simp only [sumN]; rw [ih (fun k hk => h k (by omega)), h n (by omega)]
theorem sumN_add (F : Nat → Nat) (a b : Nat) : sumN F (a + b) = sumN F a + sumN (fun k => F (a + k)) b := by
  induction b with
  | zero => rfl
  | succ b ih => rw [← Nat.add_assoc]; simp only [sumN]; rw [ih]; omega
theorem sumN_front (F : Nat → Nat) (n : Nat) : sumN F (n + 1) = F 0 + sumN (fun k => F (k + 1)) n := by
  rw [Nat.add_comm n 1, sumN_add]
  simp only [sumN, Nat.zero_add]
  congr 1
  exact sumN_cong fun k _ => by rw [Nat.add_comm]
theorem sumN_rev (F : Nat → Nat) (n : Nat) : sumN (fun k => F (n - 1 - k)) n = sumN F n := by
  induction n with
  | zero => rfl
  | succ n ih =>
    rw [sumN_front]
    simp only [sumN]
    have : sumN (fun k => F (n + 1 - 1 - (k + 1))) n = sumN (fun k => F (n - 1 - k)) n := sumN_cong fun k _ => by congr 1; omega
    rw [this, ih, show n + 1 - 1 - 0 = n by omega, Nat.add_comm]
theorem sumN_rot (F : Nat → Nat) {n r : Nat} (hr : r ≤ n) : sumN (fun k => F ((k + r) % n)) n = sumN F n := by
  obtain ⟨m, rfl⟩ : ∃ m, n = m + r := ⟨n - r, by omega⟩
  have h1 := sumN_add (fun k => F ((k + r) % (m + r))) m r
  have h2 := sumN_add F r m
  have e1 : sumN (fun k => F ((k + r) % (m + r))) m = sumN (fun k => F (r + k)) m := sumN_cong fun k hk => by rw [Nat.mod_eq_of_lt (by omega), Nat.add_comm]
  have e2 : sumN (fun k => F ((m + k + r) % (m + r))) r = sumN F r := sumN_cong fun k hk => by
    rw [show m + k + r = k + (m + r) by omega, Nat.add_mod_right, Nat.mod_eq_of_lt (by omega)]
  rw [h1, e1, e2, Nat.add_comm m r, h2, Nat.add_comm]
/-- turns of a line, around -/
def tn (x y : Bool) : Nat := if (x != y) = true then 1 else 0
theorem tn_comm (x y : Bool) : tn x y = tn y x := by cases x <;> cases y <;> rfl
theorem tn_not (x y : Bool) : tn (!x) (!y) = tn x y := by cases x <;> cases y <;> rfl
def tu (a : Nat → Bool) (n : Nat) : Nat := sumN (fun k => tn (a k) (a ((k + 1) % n))) n
theorem tu_cnt (a : Nat → Bool) (n : Nat) : cnt (fun k => a k != a ((k + n - 1) % n)) n = tu a n := by
  rw [← cnt_round]
  unfold tu
  have : ∀ m, cnt (fun k => a k != a ((k + 1) % n)) m = sumN (fun k => tn (a k) (a ((k + 1) % n))) m := by
    intro m
    induction m with
    | zero => rfl
    | succ m ih => rw [cnt_succ, ih]; rfl
  exact this n
theorem tu_cong {a b : Nat → Bool} {n : Nat} (h : ∀ k, k < n → a k = b k) : tu a n = tu b n := by
  unfold tu
  exact sumN_cong fun k hk => by rw [h k hk, h _ (Nat.mod_lt _ (by omega))]
theorem tu_not (a : Nat → Bool) (n : Nat) : tu (fun k => !a k) n = tu a n := by
  unfold tu
  exact sumN_cong fun k _ => tn_not _ _
theorem tu_rot (a : Nat → Bool) {n r : Nat} (hr : r ≤ n) : tu (fun k => a ((k + r) % n)) n = tu a n := by
  unfold tu
  rw [← sumN_rot (fun k => tn (a k) (a ((k + 1) % n))) hr]
  refine sumN_cong fun k hk => ?_
  have : ((k + 1) % n + r) % n = ((k + r) % n + 1) % n := by
    rw [Nat.mod_add_mod, Nat.mod_add_mod]; congr 1; omega
  dsimp only
  rw [this]
theorem tu_rev (a : Nat → Bool) (n : Nat) : tu (fun k => a (n - 1 - k)) n = tu a n := by
  cases n with
  | zero => rfl
  | succ m =>
    unfold tu
    simp only [sumN]
    have h1 : sumN (fun k => tn (a (m + 1 - 1 - k)) (a (m + 1 - 1 - (k + 1) % (m + 1)))) m = sumN (fun k => tn (a k) (a ((k + 1) % (m + 1)))) m := by
      rw [← sumN_rev (fun k => tn (a k) (a ((k + 1) % (m + 1)))) m]
      refine sumN_cong fun k hk => ?_
      have q1 : (k + 1) % (m + 1) = k + 1 := Nat.mod_eq_of_lt (by omega)
      have q2 : (m - 1 - k + 1) % (m + 1) = m - 1 - k + 1 := Nat.mod_eq_of_lt (by omega)
      have q3 : m + 1 - 1 - k = m - 1 - k + 1 := by omega
      have q4 : m + 1 - 1 - (k + 1) = m - 1 - k := by omega
      rw [q1, q2, q3, q4, tn_comm]
    have q5 : m + 1 - 1 - m = 0 := by omega
    have q6 : m + 1 - 1 - 0 = m := by omega
    rw [h1, q5, Nat.mod_self, q6, tn_comm]
/-- all turns of picks, of ends -/
def PT (f : Nat → Nat → Bool) (w h : Nat) : Nat := sumN (fun y => tu (fun x => f x y) w) h
def ET (f : Nat → Nat → Bool) (w h : Nat) : Nat := sumN (fun x => tu (fun y => f x y) h) w
theorem sumTo_row (F : Nat → Nat) (n : Nat) : ∀ k, k ≤ n → sumTo ((List.range n).map fun y => ((F y : Nat) : Int)) k = ((sumN F k : Nat) : Int) := by
  intro k
  induction k with
  | zero => intro _; rfl
  | succ k ih =>
    intro hk
    rw [sumTo_succ (by simp; omega), ih (by omega)]
    simp [sumN]
theorem picks_sum (g : api_Grid) (w h : Nat) : sumTo (picksL g w h) h = ((PT (cell g w) w h : Nat) : Int) := by
  have e : picksL g w h = (List.range h).map fun y => ((tu (fun x => cell g w x y) w : Nat) : Int) := map_cong fun y _ => by rw [← tu_cnt]; rfl
  rw [e, sumTo_row _ _ _ (Nat.le_refl _)]; rfl
theorem ends_sum (g : api_Grid) (w h : Nat) : sumTo (endsL g w h) w = ((ET (cell g w) w h : Nat) : Int) := by
  have e : endsL g w h = (List.range w).map fun x => ((tu (fun y => cell g w x y) h : Nat) : Int) := map_cong fun x _ => by rw [← tu_cnt]; rfl
  rw [e, sumTo_row _ _ _ (Nat.le_refl _)]; rfl
theorem gr_err {g : api_Grid} {w h : Nat} (G : Gr g w h) : gerr g = 0 := by
  have := G.w0
  have := G.w1
  have := G.h0
  have := G.h1
  unfold gerr
  rw [G.hw, G.hh, G.len, if_neg (by omega), if_neg]
  rw [Int.natCast_mul]
  omega
/-- the setts, by the turns -/
theorem setts_pt {g : api_Grid} {w h : Nat} (G : Gr g w h) {D : Nat} (d0 : 1 ≤ D) (d1 : D ≤ 1000) :
    F_sett_Setts g (D : Int) = some ((mk (D * (w * h)) (w * h + PT (cell g w) w h)).1, (mk (D * (w * h)) (w * h + ET (cell g w) w h)).1, 0) := by
  obtain ⟨P, E, hP, hE, _, _, hv⟩ := setts_val G (gr_err G) d0 d1
  rw [picks_sum] at hP
  rw [ends_sum] at hE
  rw [hv, ← Int.ofNat.inj hP, ← Int.ofNat.inj hE]
theorem PT_cong {f f' : Nat → Nat → Bool} {w h : Nat} (e : ∀ x y, x < w → y < h → f x y = f' x y) : PT f w h = PT f' w h :=
  sumN_cong fun y hy => tu_cong fun x hx => e x y hx hy
theorem ET_cong {f f' : Nat → Nat → Bool} {w h : Nat} (e : ∀ x y, x < w → y < h → f x y = f' x y) : ET f w h = ET f' w h :=
  sumN_cong fun x hx => tu_cong fun y hy => e x y hx hy
/-- a grid that is built -/
def gl (f : Nat → Nat → Bool) (w : Nat) : Nat → List Bool
  | 0 => []
  | h + 1 => gl f w h ++ (List.range w).map fun x => f x h
theorem gl_len (f : Nat → Nat → Bool) (w h : Nat) : (gl f w h).length = w * h := by
  induction h with
  | zero => rfl
  | succ h ih => simp only [gl, List.length_append, ih, List.length_map, List.length_range]; rw [Nat.mul_succ]
theorem gl_get (f : Nat → Nat → Bool) (w : Nat) : ∀ h x y, x < w → y < h → (gl f w h).getD (y * w + x) false = f x y := by
  intro h
  induction h with
  | zero => intro x y _ hy; omega
  | succ h ih =>
    intro x y hx hy
    have hl := gl_len f w h
    by_cases e : y = h
    · subst e
      simp only [gl, List.getD_eq_getElem?_getD]
      rw [List.getElem?_append_right (by rw [hl, Nat.mul_comm]; omega), hl, Nat.mul_comm w y, Nat.add_sub_cancel_left]
      simp [hx]
    · have h1 : y * w + x < w * h := by
        have := Nat.mul_le_mul_right w (show y + 1 ≤ h by omega)
        rw [Nat.add_mul, Nat.one_mul, Nat.mul_comm h w] at this
        omega
      have := ih x y hx (by omega)
      simp only [gl, List.getD_eq_getElem?_getD] at this ⊢
      rw [List.getElem?_append_left (by rw [hl]; exact h1)]
      exact this
theorem build_eq {l1 : Int → Int × List Bool → Option ((Int × List Bool) ⊕ List Bool)} {l2 : Int × List Bool → Option ((Int × List Bool) ⊕ List Bool)} (f : Nat → Nat → Bool) (w h : Nat) (hw : w ≤ 64) (hh : h ≤ 64)
    (h1 : ∀ y x s, y < h → x < w → l1 (y : Int) ((x : Int), s) = Option.bind (appO s [f x y]) fun l => some (.inl (w64 ((x : Int) + 1), l))) (h1e : ∀ (y : Nat) s, l1 (y : Int) ((w : Int), s) = some (.inr s))
    (h2 : ∀ (y : Nat) s, y < h → l2 ((y : Int), s) = Option.bind (Option.bind (whileO (l1 (y : Int)) (0, s)) fun e => some e) fun o => some (.inl (w64 ((y : Int) + 1), o))) (h2e : ∀ s, l2 ((h : Int), s) = some (.inr s)) :
    whileO l2 (0, ([] : List Bool)) = some (gl f w h) := by
  have key : ∃ t, whileO l2 (0, ([] : List Bool)) = some t ∧ t = gl f w h := by
    refine loop_ts h (fun k s => s = gl f w k) _ rfl ?_ ?_
    · rintro y s hy rfl
      have inner : ∃ t, whileO (l1 (y : Int)) (0, gl f w y) = some t ∧ t = gl f w (y + 1) := by
        refine loop_ts w (fun k s => s = gl f w y ++ (List.range k).map fun x => f x y) _ (by simp) ?_ ?_
        · rintro x s hx rfl
          have hl := gl_len f w y
          have hp : w * y ≤ 64 * 64 := Nat.mul_le_mul hw (by omega)
          refine .inl ⟨gl f w y ++ (List.range (x + 1)).map fun x => f x y, ?_, rfl⟩
          rw [h1 y x _ hy hx, appO_of (by simp [hl]; omega), Option.bind_some, w64_succ (by omega), List.range_succ, List.map_append, ← List.append_assoc]
          rfl
        · rintro s rfl
          exact ⟨_, h1e y _, rfl⟩
      obtain ⟨t, t1, rfl⟩ := inner
      refine .inl ⟨gl f w (y + 1), ?_, rfl⟩
      rw [h2 y _ hy, t1]
      simp only [Option.bind_some, w64_succ (show y < 9223372036854775807 by omega)]
    · rintro s rfl
      exact ⟨_, h2e _, rfl⟩
  obtain ⟨t, t1, rfl⟩ := key
  exact t1
theorem gl_gr (f : Nat → Nat → Bool) {w h : Nat} (w0 : 1 ≤ w) (w1 : w ≤ 64) (h0 : 1 ≤ h) (h1 : h ≤ 64) : Gr (api_Grid.mk (w : Int) (h : Int) (gl f w h)) w h :=
  ⟨rfl, rfl, w0, w1, h0, h1, gl_len f w h⟩
theorem gl_cell (f : Nat → Nat → Bool) {w h x y : Nat} (hx : x < w) (hy : y < h) : cell (api_Grid.mk (w : Int) (h : Int) (gl f w h)) w x y = f x y := gl_get f w h x y hx hy
/-- numbers taken around -/
theorem around_eq {z : Int} {n : Nat} (n0 : 1 ≤ n) (n1 : n ≤ 64) (z0 : -5000 ≤ z) (z1 : z ≤ 5000) : F_grid_around z (n : Int) = some (z % (n : Int)) := by
  have hn : ¬ (n : Int) = 0 := by omega
  have e0 := Int.emod_nonneg z hn
  have e1 := Int.emod_lt_of_pos z (show (0 : Int) < n by omega)
  have ht : z.tmod (n : Int) = z % (n : Int) ∨ z.tmod (n : Int) = z % (n : Int) - n ∧ z.tmod (n : Int) < 0 := by
    by_cases hz : 0 ≤ z
    · exact .inl (Int.tmod_eq_emod_of_nonneg hz)
    · rw [Int.tmod_eq_emod]
      by_cases hd : (n : Int) ∣ z
      · left; simp [hd]
      · right
        have hc : ¬ (0 ≤ z ∨ (n : Int) ∣ z) := by rintro (h | h); exact hz h; exact hd h
        rw [if_neg hc]
        have : ((n : Int).natAbs : Int) = n := by omega
        rw [this]
        omega
  unfold F_grid_around remI
  rw [if_neg hn]
  rcases ht with h | ⟨h, hl⟩
  · simp only [Option.bind_some, h, dF (show ¬ z % (n : Int) < 0 by omega), Bool.false_eq_true, if_false]
  · simp only [Option.bind_some, dT hl, if_true]
    rw [h, w64_of (by omega) (by omega)]
    congr 1
    omega
theorem emod_back {x d n : Nat} (hd : d ≤ n) : (((x : Int) - (d : Int)) % (n : Int)) = (((x + (n - d)) % n : Nat) : Int) := by
  rw [Int.natCast_emod, show ((x + (n - d) : Nat) : Int) = ((x : Int) - d) + n by omega, Int.add_emod_right]
theorem cap_ok {w h : Nat} (hw : w ≤ 64) (hh : h ≤ 64) : capO (w64 ((w : Int) * (h : Int))) = some () := by
  have hp : w * h ≤ 64 * 64 := Nat.mul_le_mul hw hh
  rw [wmul (by omega)]
  exact capO_of rfl (by omega)
theorem not_eq {g : api_Grid} {w h : Nat} (G : Gr g w h) : F_grid_Not g = some (api_Grid.mk (w : Int) (h : Int) (gl (fun x y => !cell g w x y) w h), 0) := by
  have hb : whileO (grid_build_s1_l2 (h : Int) (w : Int) g) (0, ([] : List Bool)) = some (gl (fun x y => !cell g w x y) w h) := by
    refine build_eq (l1 := fun y => grid_build_s1_l1 (w : Int) y g) (fun x y => !cell g w x y) w h G.w1 G.h1 (fun y x s hy hx => ?_) (fun y s => ?_) (fun y s hy => ?_) (fun s => ?_)
    · unfold grid_build_s1_l1 F_grid_Not_1_s0
      simp only [dT (show (x : Int) < (w : Int) by omega), if_true, G.at hx hy, Option.bind_some]
    · unfold grid_build_s1_l1
      simp only [dF (show ¬ (w : Int) < (w : Int) by omega), Bool.false_eq_true, if_false]
    · unfold grid_build_s1_l2
      simp only [dT (show (y : Int) < (h : Int) by omega), if_true]
    · unfold grid_build_s1_l2
      simp only [dF (show ¬ (h : Int) < (h : Int) by omega), Bool.false_eq_true, if_false]
  unfold F_grid_Not F_grid_build_s1
  simp only [(gcheck_eq g).1, gr_err G, Option.bind_some, bne_self_eq_false, Bool.false_eq_true, if_false, G.hw, G.hh, cap_ok G.w1 G.h1, hb]
theorem turn_eq {g : api_Grid} {w h : Nat} (G : Gr g w h) : F_grid_Turn g = some (api_Grid.mk (h : Int) (w : Int) (gl (fun x y => cell g w y x) h w), 0) := by
  have hb : whileO (grid_build_s2_l2 (w : Int) (h : Int) g) (0, ([] : List Bool)) = some (gl (fun x y => cell g w y x) h w) := by
    refine build_eq (l1 := fun y => grid_build_s2_l1 (h : Int) y g) (fun x y => cell g w y x) h w G.h1 G.w1 (fun y x s hy hx => ?_) (fun y s => ?_) (fun y s hy => ?_) (fun s => ?_)
    · unfold grid_build_s2_l1 F_grid_Turn_1_s0
      simp only [dT (show (x : Int) < (h : Int) by omega), if_true, G.at hy hx, Option.bind_some]
    · unfold grid_build_s2_l1
      simp only [dF (show ¬ (h : Int) < (h : Int) by omega), Bool.false_eq_true, if_false]
    · unfold grid_build_s2_l2
      simp only [dT (show (y : Int) < (w : Int) by omega), if_true]
    · unfold grid_build_s2_l2
      simp only [dF (show ¬ (w : Int) < (w : Int) by omega), Bool.false_eq_true, if_false]
  unfold F_grid_Turn F_grid_build_s2
  simp only [(gcheck_eq g).1, gr_err G, Option.bind_some, bne_self_eq_false, Bool.false_eq_true, if_false, G.hw, G.hh, cap_ok G.h1 G.w1, hb]
theorem shift_eq {g : api_Grid} {w h : Nat} (G : Gr g w h) {dx dy : Int} (x0 : -1000 ≤ dx) (x1 : dx ≤ 1000) (y0 : -1000 ≤ dy) (y1 : dy ≤ 1000) :
    ∃ r s : Nat, r ≤ w ∧ s ≤ h ∧ F_grid_Shift g dx dy = some (api_Grid.mk (w : Int) (h : Int) (gl (fun x y => cell g w ((x + r) % w) ((y + s) % h)) w h), 0) := by
  have w0 := G.w0
  have w1 := G.w1
  have h0 := G.h0
  have h1 := G.h1
  have a1 := around_eq (z := dx) w0 w1 (by omega) (by omega)
  have a2 := around_eq (z := dy) h0 h1 (by omega) (by omega)
  have b0 := Int.emod_nonneg dx (show (w : Int) ≠ 0 by omega)
  have b1 := Int.emod_lt_of_pos dx (show (0 : Int) < w by omega)
  have b2 := Int.emod_nonneg dy (show (h : Int) ≠ 0 by omega)
  have b3 := Int.emod_lt_of_pos dy (show (0 : Int) < h by omega)
  obtain ⟨d, hd⟩ : ∃ d : Nat, dx % (w : Int) = d := ⟨(dx % (w : Int)).toNat, by omega⟩
  obtain ⟨e, he⟩ : ∃ e : Nat, dy % (h : Int) = e := ⟨(dy % (h : Int)).toNat, by omega⟩
  rw [hd] at a1 b1
  rw [he] at a2 b3
  refine ⟨w - d, h - e, by omega, by omega, ?_⟩
  have hb : whileO (grid_build_s0_l2 (h : Int) (w : Int) g (e : Int) (d : Int)) (0, ([] : List Bool)) = some (gl (fun x y => cell g w ((x + (w - d)) % w) ((y + (h - e)) % h)) w h) := by
    refine build_eq (l1 := fun y => grid_build_s0_l1 (w : Int) y g (e : Int) (d : Int)) (fun x y => cell g w ((x + (w - d)) % w) ((y + (h - e)) % h)) w h w1 h1 (fun y x s hy hx => ?_) (fun y s => ?_) (fun y s hy => ?_) (fun s => ?_)
    · have k1 : F_grid_around (w64 ((y : Int) - (e : Int))) g.H = some (((y + (h - e)) % h : Nat) : Int) := by
        rw [G.hh, w64_of (by omega) (by omega), around_eq h0 h1 (by omega) (by omega), emod_back (by omega)]
      have k2 : F_grid_around (w64 ((x : Int) - (d : Int))) g.W = some (((x + (w - d)) % w : Nat) : Int) := by
        rw [G.hw, w64_of (by omega) (by omega), around_eq w0 w1 (by omega) (by omega), emod_back (by omega)]
      unfold grid_build_s0_l1 F_grid_Shift_1_s0
      simp only [dT (show (x : Int) < (w : Int) by omega), if_true, k1, k2, G.at (Nat.mod_lt (x + (w - d)) (show 0 < w by omega)) (Nat.mod_lt (y + (h - e)) (show 0 < h by omega)), Option.bind_some]
    · unfold grid_build_s0_l1
      simp only [dF (show ¬ (w : Int) < (w : Int) by omega), Bool.false_eq_true, if_false]
    · unfold grid_build_s0_l2
      simp only [dT (show (y : Int) < (h : Int) by omega), if_true]
    · unfold grid_build_s0_l2
      simp only [dF (show ¬ (h : Int) < (h : Int) by omega), Bool.false_eq_true, if_false]
  unfold F_grid_Shift F_grid_build_s0
  simp only [(gcheck_eq g).1, gr_err G, Option.bind_some, bne_self_eq_false, Bool.false_eq_true, if_false, G.hw, G.hh, a1, a2, cap_ok w1 h1, hb]
theorem mirror0_eq {g : api_Grid} {w h : Nat} (G : Gr g w h) : F_grid_Mirror g 0 = some (api_Grid.mk (w : Int) (h : Int) (gl (fun x y => cell g w (w - 1 - x) y) w h), 0) := by
  have w0 := G.w0
  have w1 := G.w1
  have h1 := G.h1
  have hb : whileO (grid_build_s3_l2 (h : Int) (w : Int) g) (0, ([] : List Bool)) = some (gl (fun x y => cell g w (w - 1 - x) y) w h) := by
    refine build_eq (l1 := fun y => grid_build_s3_l1 (w : Int) y g) (fun x y => cell g w (w - 1 - x) y) w h G.w1 G.h1 (fun y x s hy hx => ?_) (fun y s => ?_) (fun y s hy => ?_) (fun s => ?_)
    · have hp : y * w ≤ 64 * 64 := Nat.mul_le_mul (by omega) w1
      have ha := G.at (show w - 1 - x < w by omega) hy
      have m1 : w64 ((y : Int) * (w : Int)) = ((y * w : Nat) : Int) := wmul (by omega)
      have m2 : w64 (((y * w : Nat) : Int) + (w : Int)) = ((y * w + w : Nat) : Int) := wadd (by omega)
      have m3 : w64 (((y * w + w : Nat) : Int) - 1) = ((y * w + w - 1 : Nat) : Int) := by rw [w64_of (by omega) (by omega)]; omega
      have m4 : w64 (((y * w + w - 1 : Nat) : Int) - (x : Int)) = ((y * w + (w - 1 - x) : Nat) : Int) := by rw [w64_of (by omega) (by omega)]; omega
      have m5 : w64 (((y * w : Nat) : Int) + ((w - 1 - x : Nat) : Int)) = ((y * w + (w - 1 - x) : Nat) : Int) := wadd (by omega)
      rw [G.hw, m1, m5] at ha
      unfold grid_build_s3_l1 F_grid_Mirror_1_s0
      simp only [dT (show (x : Int) < (w : Int) by omega), if_true, G.hw, m1, m2, m3, m4, ha, Option.bind_some]
    · unfold grid_build_s3_l1
      simp only [dF (show ¬ (w : Int) < (w : Int) by omega), Bool.false_eq_true, if_false]
    · unfold grid_build_s3_l2
      simp only [dT (show (y : Int) < (h : Int) by omega), if_true]
    · unfold grid_build_s3_l2
      simp only [dF (show ¬ (h : Int) < (h : Int) by omega), Bool.false_eq_true, if_false]
  unfold F_grid_Mirror F_grid_build_s3
  simp only [(gcheck_eq g).1, gr_err G, Option.bind_some, bne_self_eq_false, beq_self_eq_true, if_true, Bool.false_eq_true, if_false, G.hw, G.hh, cap_ok G.w1 G.h1, hb]
theorem mirror1_eq {g : api_Grid} {w h : Nat} (G : Gr g w h) : F_grid_Mirror g 1 = some (api_Grid.mk (w : Int) (h : Int) (gl (fun x y => cell g w x (h - 1 - y)) w h), 0) := by
  have w0 := G.w0
  have w1 := G.w1
  have h1 := G.h1
  have hb : whileO (grid_build_s4_l2 (h : Int) (w : Int) g) (0, ([] : List Bool)) = some (gl (fun x y => cell g w x (h - 1 - y)) w h) := by
    refine build_eq (l1 := fun y => grid_build_s4_l1 (w : Int) y g) (fun x y => cell g w x (h - 1 - y)) w h G.w1 G.h1 (fun y x s hy hx => ?_) (fun y s => ?_) (fun y s hy => ?_) (fun s => ?_)
    · have ha := G.at hx (show h - 1 - y < h by omega)
      have m1 : w64 ((h : Int) - 1) = ((h - 1 : Nat) : Int) := by rw [w64_of (by omega) (by omega)]; omega
      have m2 : w64 (((h - 1 : Nat) : Int) - (y : Int)) = ((h - 1 - y : Nat) : Int) := by rw [w64_of (by omega) (by omega)]; omega
      unfold grid_build_s4_l1 F_grid_Mirror_2_s0
      simp only [dT (show (x : Int) < (w : Int) by omega), if_true, G.hh, m1, m2, ha, Option.bind_some]
    · unfold grid_build_s4_l1
      simp only [dF (show ¬ (w : Int) < (w : Int) by omega), Bool.false_eq_true, if_false]
    · unfold grid_build_s4_l2
      simp only [dT (show (y : Int) < (h : Int) by omega), if_true]
    · unfold grid_build_s4_l2
      simp only [dF (show ¬ (h : Int) < (h : Int) by omega), Bool.false_eq_true, if_false]
  unfold F_grid_Mirror F_grid_build_s4
  simp only [(gcheck_eq g).1, gr_err G, Option.bind_some, bne_self_eq_false, bF (show ¬ (1 : Int) = 0 by omega), beq_self_eq_true, if_true, Bool.false_eq_true, if_false, G.hw, G.hh, cap_ok G.w1 G.h1, hb]
theorem fit_gr {g : api_Grid} {w h : Nat} (G : Gr g w h) : F_raddlelaw24_fit g = some true := by
  have hp : w * h ≤ 64 * 64 := Nat.mul_le_mul G.w1 G.h1
  unfold F_raddlelaw24_fit F_raddleref01_Great
  have := G.len
  simp only [dF (show ¬ (4200 : Int) < (g.Bits.length : Int) by omega), Option.bind_some, Bool.not_false, if_true, (gcheck_eq g).2, gr_err G, beq_self_eq_true]
theorem law_SettSame' (ha : F_raddlelaw24_alive = some true) (g : api_Grid) (diam dx dy axis : Int) (wg : wf_api_Grid g) (wd : InK .i64 diam) (wx : InK .i64 dx) (wy : InK .i64 dy) (wa : InK .i64 axis) : F_raddlelaw24_SettSame g diam dx dy axis = some true := by
  by_cases hv : F_raddlelaw24_fit g = some true ∧ 1 ≤ diam ∧ diam ≤ 1000 ∧ -1000 ≤ dx ∧ dx ≤ 1000 ∧ -1000 ≤ dy ∧ dy ≤ 1000
  case neg =>
    have hf : ∃ b, F_raddlelaw24_fit g = some b := by
      unfold F_raddlelaw24_fit F_raddleref01_Great
      simp only [(gcheck_eq g).2, Option.bind_some]
      split <;> exact ⟨_, rfl⟩
    obtain ⟨b, hb⟩ := hf
    unfold F_raddlelaw24_SettSame
    rw [ha, hb]
    cases b with
    | false => rfl
    | true =>
      simp only [Option.bind_some, Bool.not_true, Bool.false_eq_true, if_false]
      by_cases c1 : diam < 1
      · simp only [dT c1, if_true, Option.bind_some]
      by_cases c2 : 1000 < diam
      · simp only [dF c1, dT c2, Bool.false_eq_true, if_true, if_false, Option.bind_some]
      by_cases c3 : dx < -1000
      · simp only [dF c1, dF c2, dT c3, Bool.false_eq_true, if_true, if_false, Option.bind_some]
      by_cases c4 : 1000 < dx
      · simp only [dF c1, dF c2, dF c3, dT c4, Bool.false_eq_true, if_true, if_false, Option.bind_some]
      by_cases c5 : dy < -1000
      · simp only [dF c1, dF c2, dF c3, dF c4, dT c5, Bool.false_eq_true, if_true, if_false, Option.bind_some]
      by_cases c6 : 1000 < dy
      · simp only [dF c1, dF c2, dF c3, dF c4, dF c5, dT c6, Bool.false_eq_true, if_true, if_false, Option.bind_some]
      · exact absurd ⟨hb, by omega, by omega, by omega, by omega, by omega, by omega⟩ hv
  obtain ⟨v1, d0, d1, x0, x1, y0, y1⟩ := hv
  have he : gerr g = 0 := by
    unfold F_raddlelaw24_fit F_raddleref01_Great at v1
    simp only [(gcheck_eq g).2, Option.bind_some] at v1
    by_cases he : gerr g = 0
    · exact he
    · simp only [bF he] at v1
      split at v1 <;> cases v1
  obtain ⟨w, h, G⟩ := gerr_zero he
  obtain ⟨D, rfl⟩ : ∃ D : Nat, diam = D := ⟨diam.toNat, by omega⟩
  have hw := G.w0
  have hw1 := G.w1
  have hh := G.h0
  have hh1 := G.h1
  have s0 := setts_pt G (D := D) (by omega) (by omega)
  obtain ⟨r, s, hr, hs, hsh⟩ := shift_eq G x0 x1 y0 y1
  have hn := not_eq G
  have ht := turn_eq G
  have gn := gl_gr (fun x y => !cell g w x y) hw hw1 hh hh1
  have gt := gl_gr (fun x y => cell g w y x) hh hh1 hw hw1
  have gs := gl_gr (fun x y => cell g w ((x + r) % w) ((y + s) % h)) hw hw1 hh hh1
  have s1 : F_sett_Setts (api_Grid.mk (w : Int) (h : Int) (gl (fun x y => !cell g w x y) w h)) (D : Int) = some ((mk (D * (w * h)) (w * h + PT (cell g w) w h)).1, (mk (D * (w * h)) (w * h + ET (cell g w) w h)).1, 0) := by
    rw [setts_pt gn (D := D) (by omega) (by omega)]
    have e1 : PT (cell (api_Grid.mk (w : Int) (h : Int) (gl (fun x y => !cell g w x y) w h)) w) w h = PT (cell g w) w h :=
      (PT_cong fun x y hx hy => gl_cell _ hx hy).trans (sumN_cong fun y _ => tu_not (fun x => cell g w x y) w)
    have e2 : ET (cell (api_Grid.mk (w : Int) (h : Int) (gl (fun x y => !cell g w x y) w h)) w) w h = ET (cell g w) w h :=
      (ET_cong fun x y hx hy => gl_cell _ hx hy).trans (sumN_cong fun x _ => tu_not (fun y => cell g w x y) h)
    rw [e1, e2]
  have s2 : F_sett_Setts (api_Grid.mk (h : Int) (w : Int) (gl (fun x y => cell g w y x) h w)) (D : Int) = some ((mk (D * (w * h)) (w * h + ET (cell g w) w h)).1, (mk (D * (w * h)) (w * h + PT (cell g w) w h)).1, 0) := by
    rw [setts_pt gt (D := D) (by omega) (by omega)]
    have e1 : PT (cell (api_Grid.mk (h : Int) (w : Int) (gl (fun x y => cell g w y x) h w)) h) h w = ET (cell g w) w h :=
      PT_cong fun x y hx hy => gl_cell _ hx hy
    have e2 : ET (cell (api_Grid.mk (h : Int) (w : Int) (gl (fun x y => cell g w y x) h w)) h) h w = PT (cell g w) w h :=
      ET_cong fun x y hx hy => gl_cell _ hx hy
    rw [e1, e2, Nat.mul_comm h w]
  have s3 : F_sett_Setts (api_Grid.mk (w : Int) (h : Int) (gl (fun x y => cell g w ((x + r) % w) ((y + s) % h)) w h)) (D : Int) = some ((mk (D * (w * h)) (w * h + PT (cell g w) w h)).1, (mk (D * (w * h)) (w * h + ET (cell g w) w h)).1, 0) := by
    rw [setts_pt gs (D := D) (by omega) (by omega)]
    have e1 : PT (cell (api_Grid.mk (w : Int) (h : Int) (gl (fun x y => cell g w ((x + r) % w) ((y + s) % h)) w h)) w) w h = PT (cell g w) w h := by
      refine (PT_cong fun x y hx hy => gl_cell _ hx hy).trans ?_
      unfold PT
      rw [← sumN_rot (fun y => tu (fun x => cell g w x y) w) hs]
      exact sumN_cong fun y _ => tu_rot (fun x => cell g w x ((y + s) % h)) hr
    have e2 : ET (cell (api_Grid.mk (w : Int) (h : Int) (gl (fun x y => cell g w ((x + r) % w) ((y + s) % h)) w h)) w) w h = ET (cell g w) w h := by
      refine (ET_cong fun x y hx hy => gl_cell _ hx hy).trans ?_
      unfold ET
      rw [← sumN_rot (fun x => tu (fun y => cell g w x y) h) hr]
      exact sumN_cong fun x _ => tu_rot (fun y => cell g w ((x + r) % w) y) hs
    rw [e1, e2]
  have s4 : ∃ m, F_grid_Mirror g axis = some m ∧ (m.2 = 0 → F_sett_Setts m.1 (D : Int) = some ((mk (D * (w * h)) (w * h + PT (cell g w) w h)).1, (mk (D * (w * h)) (w * h + ET (cell g w) w h)).1, 0)) := by
    by_cases a0 : axis = 0
    · subst a0
      refine ⟨_, mirror0_eq G, fun _ => ?_⟩
      have gm := gl_gr (fun x y => cell g w (w - 1 - x) y) hw hw1 hh hh1
      rw [setts_pt gm (D := D) (by omega) (by omega)]
      have e1 : PT (cell (api_Grid.mk (w : Int) (h : Int) (gl (fun x y => cell g w (w - 1 - x) y) w h)) w) w h = PT (cell g w) w h :=
        (PT_cong fun x y hx hy => gl_cell _ hx hy).trans (sumN_cong fun y _ => tu_rev (fun x => cell g w x y) w)
      have e2 : ET (cell (api_Grid.mk (w : Int) (h : Int) (gl (fun x y => cell g w (w - 1 - x) y) w h)) w) w h = ET (cell g w) w h := by
        refine (ET_cong fun x y hx hy => gl_cell _ hx hy).trans ?_
        unfold ET
        exact sumN_rev (fun x => tu (fun y => cell g w x y) h) w
      rw [e1, e2]
    · by_cases a1 : axis = 1
      · subst a1
        refine ⟨_, mirror1_eq G, fun _ => ?_⟩
        have gm := gl_gr (fun x y => cell g w x (h - 1 - y)) hw hw1 hh hh1
        rw [setts_pt gm (D := D) (by omega) (by omega)]
        have e1 : PT (cell (api_Grid.mk (w : Int) (h : Int) (gl (fun x y => cell g w x (h - 1 - y)) w h)) w) w h = PT (cell g w) w h := by
          refine (PT_cong fun x y hx hy => gl_cell _ hx hy).trans ?_
          unfold PT
          exact sumN_rev (fun y => tu (fun x => cell g w x y) w) h
        have e2 : ET (cell (api_Grid.mk (w : Int) (h : Int) (gl (fun x y => cell g w x (h - 1 - y)) w h)) w) w h = ET (cell g w) w h :=
          (ET_cong fun x y hx hy => gl_cell _ hx hy).trans (sumN_cong fun x _ => tu_rev (fun y => cell g w x y) h)
        rw [e1, e2]
      · refine ⟨(api_Grid.mk 0 0 [], 2), ?_, fun h => by cases h⟩
        unfold F_grid_Mirror
        simp only [(gcheck_eq g).1, he, Option.bind_some, bne_self_eq_false, bF a0, bF a1, Bool.false_eq_true, if_false]
  obtain ⟨m, m1, m2⟩ := s4
  unfold F_raddlelaw24_SettSame
  rw [ha, v1]
  simp only [Option.bind_some, Bool.not_true, Bool.false_eq_true, if_false, dF (show ¬ (D : Int) < 1 by omega), dF (show ¬ 1000 < (D : Int) by omega), dF (show ¬ dx < -1000 by omega), dF (show ¬ 1000 < dx by omega), dF (show ¬ dy < -1000 by omega), dF (show ¬ 1000 < dy by omega),
    s0, hsh, hn, ht, m1, bne_self_eq_false, fit_gr gn, fit_gr gt, s1, s2, s3, beq_self_eq_true, Bool.and_self, if_true]
  by_cases hm : m.2 = 0
  · simp only [bT hm, if_true, m2 hm, Option.bind_some, beq_self_eq_true, Bool.and_self]
  · simp only [bF hm, Bool.false_eq_true, if_false]

end Go.Proofs.Ytjndecalogklhaa
namespace Go.Proofs.Ytjndecalogklhaa
open Go.RowKit
set_option linter.unusedVariables false

theorem law_SettSame (g : api_Grid) (diam dx dy axis : Int) (wg : wf_api_Grid g) (wd : InK .i64 diam) (wx : InK .i64 dx) (wy : InK .i64 dy) (wa : InK .i64 axis) : F_raddlelaw24_SettSame g diam dx dy axis = some true := law_SettSame' k_raddlelaw24_alive g diam dx dy axis wg wd wx wy wa

end Go.Proofs.Ytjndecalogklhaa
namespace Go.Proofs.Ytjndecalogklhaa
open Go.RowKit
set_option linter.unusedVariables false

namespace frameSettSame
open Go.ChangeShapes Go.WideShapes Go.ChangeAt Go.Joins
theorem own : ownKnob Try.prog.godebug = none := by kernel_rfl
theorem laidOut : laidOutB Try.prog = true := by kernel_rfl
set_option maxRecDepth 100000 in
theorem lifted (os : Os) (started : os.Started) (H : Type) (enc : TypeId × Value → H) :
    ReturnsInHanded {} Try.checked os 8 .any (Rows.settSameSpec.pre6 enc Try.prog Try.f8 Rows.settSameRow.domain false) (Rows.settSameSpec.post enc Try.prog Try.f8 false true false false) := by
  refine returnsInHanded_of_change (C := Try.checked) own started (by kernel_rfl) Try.func8
    (ChangeSpec.witness6 (enc := enc) (C := Try.checked) false ⟨#[], #[.agg #[.int .i64 0, .int .i64 0, .slice none 0 0], .int .i64 0, .int .i64 0, .int .i64 0, .int .i64 0], []⟩ 8 (by kernel_rfl) (by kernel_rfl) (by kernel_rfl) (by kernel_rfl)) ?_
  intro W base args ds gs before hval0 hW hcnd _
  have hval : ∀ (j : Nat) t v, Try.f8.params[j]? = some t → args[j]? = some v → Value.okWide Try.prog W .any base t v := hval0
  have hW' := hW
  obtain ⟨p, q, hA0, hV, rfl, hfz, hnd⟩ := hW
  have hA : DataW.TrodAll enc Try.prog W 0 (fun _ => true) true Try.f8.params.toList args.toList ds p := hA0
  rw [Try.params8] at hA hval
  obtain ⟨v0, vs0, d0, ds0, p0, q0, hargs, rfl, rfl, h0, r0⟩ := trodAll_cons hA
  obtain ⟨v1, vs1, d1, ds1, p1, q1, rfl, rfl, rfl, h1, r1⟩ := trodAll_cons r0
  obtain ⟨v2, vs2, d2, ds2, p2, q2, rfl, rfl, rfl, h2, r2⟩ := trodAll_cons r1
  obtain ⟨v3, vs3, d3, ds3, p3, q3, rfl, rfl, rfl, h3, r3⟩ := trodAll_cons r2
  obtain ⟨v4, vs4, d4, ds4, p4, q4, rfl, rfl, rfl, h4, r4⟩ := trodAll_cons r3
  obtain ⟨rfl, rfl, rfl⟩ := trodAll_nil r4
  obtain rfl : args = #[v0, v1, v2, v3, v4] := by cases args; simp_all
  obtain ⟨rfl, rfl⟩ := trodVars_none hV
  have k0 := h0
  have lt0 : ∀ x ∈ p0, x.block < W.heap.size := by obtain ⟨m, hm⟩ := k0; exact DataW.trod_lt m _ _ _ hm
  have k1 := h1
  have lt1 : ∀ x ∈ p1, x.block < W.heap.size := by obtain ⟨m, hm⟩ := k1; exact DataW.trod_lt m _ _ _ hm
  have k2 := h2
  have lt2 : ∀ x ∈ p2, x.block < W.heap.size := by obtain ⟨m, hm⟩ := k2; exact DataW.trod_lt m _ _ _ hm
  have k3 := h3
  have lt3 : ∀ x ∈ p3, x.block < W.heap.size := by obtain ⟨m, hm⟩ := k3; exact DataW.trod_lt m _ _ _ hm
  have k4 := h4
  have lt4 : ∀ x ∈ p4, x.block < W.heap.size := by obtain ⟨m, hm⟩ := k4; exact DataW.trod_lt m _ _ _ hm
  obtain ⟨x0, rep0, wf0⟩ := top_agg Try.underlying24 aggr_api_Grid op_api_Grid (hval 0 _ v0 rfl rfl) h0
  obtain ⟨x1, rfl, rfl, rfl, wf1⟩ := open_int Try.underlying3 (hval 1 _ v1 rfl rfl) h1
  obtain ⟨x2, rfl, rfl, rfl, wf2⟩ := open_int Try.underlying3 (hval 2 _ v2 rfl rfl) h2
  obtain ⟨x3, rfl, rfl, rfl, wf3⟩ := open_int Try.underlying3 (hval 3 _ v3 rfl rfl) h3
  obtain ⟨x4, rfl, rfl, rfl, wf4⟩ := open_int Try.underlying3 (hval 4 _ v4 rfl rfl) h4
  clear hA0 hval0
  refine (c_raddlelaw24_SettSame (fun _ => False) W x0 v0 x1 x2 x3 x4 true (law_SettSame x0 x1 x2 x3 x4 wf0 wf1 wf2 wf3 wf4) (St0.start (by intro d hd; simp only [List.mem_cons, List.not_mem_nil, or_false] at hd; subst hd; exact rep0))).mono fun e W' hr => ?_
  obtain ⟨_, he, hS⟩ := hr
  have bel := hS.chg.below
  subst he
  exact ⟨_, rfl, _, _, _, [], _, [], hW', trodAll_mk1 (shut_bool Try.underlying4 _), (trodAll_cons_mk (Below.trod laidOut (by kernel_rfl) (of_decide_eq_true (by kernel_rfl)) k0 bel lt0) (trodAll_cons_mk (Below.trod laidOut (by kernel_rfl) (of_decide_eq_true (by kernel_rfl)) k1 bel lt1) (trodAll_cons_mk (Below.trod laidOut (by kernel_rfl) (of_decide_eq_true (by kernel_rfl)) k2 bel lt2) (trodAll_cons_mk (Below.trod laidOut (by kernel_rfl) (of_decide_eq_true (by kernel_rfl)) k3 bel lt3) (trodAll_cons_mk (Below.trod laidOut (by kernel_rfl) (of_decide_eq_true (by kernel_rfl)) k4 bel lt4) trodAll_mk0))))), rfl, bel.frame _, fun h => by cases h⟩
theorem over : Rows.settSameRow.holds Try.pinned (OpenSpec.ofChange Rows.settSameSpec) :=
  OpenClaim.holds_of_wide 8 Try.f8 rfl rfl rfl rfl rfl rfl rfl ⟨rfl, rfl, rfl, rfl, rfl⟩ rfl rfl rfl rfl rfl (by kernel_rfl) Try.func8 (by kernel_rfl)
    (of_decide_eq_true (by kernel_rfl)) (by unfold Func.isWrapper; first | (rw [if_pos (by decide +kernel)]; kernel_rfl) | (rw [if_neg (by decide +kernel)]; exact ⟨rfl, rfl⟩))
    (fun os started H enc _ => lifted os started H enc)
end frameSettSame
theorem settSame_holds : Rows.SettSameSaid := frameSettSame.over

end Go.Proofs.Ytjndecalogklhaa
