import Derived.Test.YtjndecalogklhaaGTy
import Derived.Test.YtjndecalogklhaaG38
import Derived.Test.YtjndecalogklhaaG50s0
import Derived.Test.YtjndecalogklhaaG51s0
namespace Go.Proofs.Ytjndecalogklhaa
open Go.RowKit
set_option linter.unusedVariables false

def anc_raddlelaw24_cloth_0 : List (List Nat) := [[], [], [], [], [], [3, 4], [], [3, 4, 5, 6], [], [3, 4, 5, 6, 7, 8], [0, 1, 2, 3, 4, 5, 6, 7, 8, 9]]
noncomputable def raddlelaw24_cloth_l1 (p0 : Int) (s15 : Int) (r4 : api_Grid) (p2 : Int) : (Int × List Bool) → Option ((Int × List Bool) ⊕ List Bool) := fun s0 => match s0 with
  | (s34, s35) =>
    if decide (s34 < p0) then
      Option.bind (F_raddleref01_Mod (w64 (s34 - s15)) p0) fun r48 =>
      Option.bind (F_raddleref01_Set_s0 r4.W r4.H s35 s34 s15 (decide (r48 < p2))) fun r50 =>
      some (.inl (w64 (s34 + 1), r50))
    else
      some (.inr s35)
noncomputable def raddlelaw24_cloth_l2 (p1 : Int) (p0 : Int) (r4 : api_Grid) (p2 : Int) : (Int × List Bool) → Option ((Int × List Bool) ⊕ List Bool) := fun s0 => match s0 with
  | (s15, s16) =>
    if decide (s15 < p1) then
      Option.bind (α := List Bool) (
        Option.bind (whileO (raddlelaw24_cloth_l1 p0 s15 r4 p2) (0, s16)) fun e41 =>
          some e41) fun o28 =>
      some (.inl (w64 (s15 + 1), o28))
    else
      some (.inr s16)
noncomputable def F_raddlelaw24_cloth (p0 : Int) (p1 : Int) (p2 : Int) : Option api_Grid :=
  Option.bind (F_raddleref01_Zero_s0 p0 p1) fun r4 =>
  Option.bind (α := List Bool) (
    Option.bind (whileO (raddlelaw24_cloth_l2 p1 p0 r4 p2) (0, r4.Bits)) fun e22 =>
      some e22) fun o9 =>
  some (api_Grid.mk r4.W r4.H o9)
def c_raddlelaw24_cloth_val (r : api_Grid) (x : Value) : Value := x
def c_raddlelaw24_cloth_D (r : api_Grid) (x : Value) : List Fact := [fRep r_api_Grid x r]
set_option maxHeartbeats 4000000 in
set_option maxRecDepth 100000 in
theorem c_raddlelaw24_cloth (E : Nat → Prop) (w0 : World) (p0 : Int) (p1 : Int) (p2 : Int) (r : api_Grid) (h : F_raddlelaw24_cloth p0 p1 p2 = some r) (S : St0 E [] w0 w0 [] []) :
    Calls Try.prog 23 #[.int .i64 p0, .int .i64 p1, .int .i64 p2] w0 (Ret (X := Value) E [] w0 (c_raddlelaw24_cloth_val r) (fun _ => []) (c_raddlelaw24_cloth_D r)) := by
  unfold F_raddlelaw24_cloth at h
  refine sEnter (args := [.int .i64 p0, .int .i64 p1, .int .i64 p2]) 35 Try.func23 rfl rfl (by simp) S (fun a S => ?_)
  refine sSeq (fun K1 hK1 => ?_)
  refine sRegion ?_
  refine sAlloc (.agg #[.int .i64 0, .int .i64 0, .slice none 0 0]) S (wN rfl) rfl (by kernel_rfl) [.int .i64 0, .int .i64 0, .slice none 0 0] rfl rfl (by decide) (fun a b2 w S => ?_)
  refine leafL (leafT (hK1 _ _ ?_))
  refine sSeq (fun K3 hK3 => ?_)
  refine sRegion ?_
  refine sMove (.int .i64 p0) S (wN rfl) (.inl rfl) (by kernel_rfl) rfl (by decide) (fun a S => ?_)
  refine sMove (.int .i64 p1) S (wN rfl) (.inl rfl) (by kernel_rfl) rfl (by decide) (fun a S => ?_)
  obtain ⟨r4, hx5, h⟩ := bindSome h
  refine sCall (X := Option Addr × Nat) (f := 50) (vs := [.int .i64 p0, .int .i64 p1]) (val := fun x => .agg #[.int .i64 r4.W, .int .i64 r4.H, .slice x.1 r4.Bits.length x.2]) (B' := fun x => [eRow rB 4 (.slice x.1 r4.Bits.length x.2) r4.Bits]) (D' := fun _ => []) [] [eBox b2 24 [.int .i64 0, .int .i64 0, .slice none 0 0]] [] [0] [] S (wN rfl) rfl callee50 (by kernel_rfl) (by decide) (by kernel_rfl) (by kernel_rfl) (fun E1 w1 S1 => c_raddleref01_Zero_s0 E1 w1 p0 p1 r4 hx5 S1) rfl (by decide) (fun xx a w S => ?_)
  obtain ⟨ad6, cp7⟩ := xx
  dsimp only at S
  refine sAlloc (.agg #[.int .i64 0, .int .i64 0, .slice none 0 0]) S (wN rfl) rfl (by kernel_rfl) [.int .i64 0, .int .i64 0, .slice none 0 0] rfl rfl (by decide) (fun a b8 w S => ?_)
  refine sStore (p := b8) (off := 0) (T := 24) (vs := [.int .i64 0, .int .i64 0, .slice none 0 0]) (v := .agg #[.int .i64 r4.W, .int .i64 r4.H, .slice ad6 r4.Bits.length cp7]) 0 [.int .i64 r4.W, .int .i64 r4.H, .slice ad6 r4.Bits.length cp7] S (wN rfl) rfl (by kernel_rfl) (by kernel_rfl) rfl (by kernel_rfl) (by kernel_rfl) rfl (by simp) rfl (fun a w S => ?_)
  refine leafL (leafT (hK3 _ _ ?_))
  obtain ⟨t12, h, g13⟩ := bindSome h
  refine sCut (fun a w => ∃ o9, o9 = t12 ∧ ∃ ad10, ∃ cp11, St E [] w0 35 a w [(6, .pointer (some ⟨b2, 0, none⟩)), (7, .pointer (some ⟨b8, 0, none⟩))] [eBox b2 24 [.int .i64 0, .int .i64 0, .slice none 0 0], eBox b8 24 [.int .i64 r4.W, .int .i64 r4.H, .slice ad10 o9.length cp11], eRow rB 4 (.slice ad10 o9.length cp11) o9] []) ?_ (fun a w hI => ?_)
  · refine sSeq (fun K14 hK14 => ?_)
    refine sRegion ?_
    refine sMove (.int .i64 0) S (wN rfl) (.inr rfl) (by kernel_rfl) rfl (by decide) (fun a S => ?_)
    refine leafL (leafT (hK14 _ _ ?_))
    refine wp_block ?_
    obtain ⟨t21, hl, g20⟩ := bindSome h
    refine sLoop hl (fun s0 a w => match s0 with | (s15, s16) => ∃ ad17, ∃ cp18, St E [] w0 35 a w [(0, .int .i64 p0), (1, .int .i64 p1), (2, .int .i64 p2), (6, .pointer (some ⟨b2, 0, none⟩)), (7, .pointer (some ⟨b8, 0, none⟩)), (8, .int .i64 s15)] [eBox b2 24 [.int .i64 0, .int .i64 0, .slice none 0 0], eBox b8 24 [.int .i64 r4.W, .int .i64 r4.H, .slice ad17 s16.length cp18], eRow rB 4 (.slice ad17 s16.length cp18) s16] []) ⟨ad6, cp7, S.fix [2, 0, 1] [] (by decide) (by kernel_rfl) (by kernel_rfl) (by kernel_rfl)⟩ ?_
    clear hl h
    intro s0 a w c0 hI h hu19
    obtain ⟨s15, s16⟩ := s0
    unfold raddlelaw24_cloth_l2 at h
    dsimp only at h hI
    obtain ⟨ad17, cp18, S⟩ := hI
    refine sSeq (fun K25 hK25 => ?_)
    refine sSeq (fun K26 hK26 => ?_)
    refine sRegion ?_
    refine sMove (.int .i64 s15) S (wN rfl) (.inl rfl) (by kernel_rfl) rfl (by decide) (fun a S => ?_)
    refine sMove (.int .i64 p1) S (wN rfl) (.inl rfl) (by kernel_rfl) rfl (by decide) (fun a S => ?_)
    refine sBin (.bool (decide (s15 < p1))) S (wN rfl) rfl (by kernel_rfl) (by kernel_rfl) (bLt _ _ _ _ .i64 s15 p1) rfl (by decide) (fun a S => ?_)
    refine leafL (leafT (hK26 _ _ ?_))
    rcases iteSome h with ⟨hc27, h⟩ | ⟨hc27, h⟩
    · refine sCondT (b := decide (s15 < p1)) S (by kernel_rfl) hc27 ?_
      refine wp_skip (leafT (hK25 _ _ ?_))
      obtain ⟨t31, h, g32⟩ := bindSome h
      refine sCut (fun a w => ∃ o28, o28 = t31 ∧ ∃ ad29, ∃ cp30, St E [] w0 35 a w [(0, .int .i64 p0), (1, .int .i64 p1), (2, .int .i64 p2), (6, .pointer (some ⟨b2, 0, none⟩)), (7, .pointer (some ⟨b8, 0, none⟩)), (8, .int .i64 s15)] [eBox b2 24 [.int .i64 0, .int .i64 0, .slice none 0 0], eBox b8 24 [.int .i64 r4.W, .int .i64 r4.H, .slice ad29 o28.length cp30], eRow rB 4 (.slice ad29 o28.length cp30) o28] []) ?_ (fun a w hI => ?_)
      · refine wp_block ?_
        refine sSeq (fun K33 hK33 => ?_)
        refine sRegion ?_
        refine sMove (.int .i64 0) S (wN rfl) (.inr rfl) (by kernel_rfl) rfl (by decide) (fun a S => ?_)
        refine leafL (leafT (hK33 _ _ ?_))
        refine wp_block ?_
        obtain ⟨t40, hl, g39⟩ := bindSome h
        refine sLoop hl (fun s0 a w => match s0 with | (s34, s35) => ∃ ad36, ∃ cp37, St E [] w0 35 a w [(0, .int .i64 p0), (1, .int .i64 p1), (2, .int .i64 p2), (6, .pointer (some ⟨b2, 0, none⟩)), (7, .pointer (some ⟨b8, 0, none⟩)), (8, .int .i64 s15), (9, .int .i64 s34)] [eBox b2 24 [.int .i64 0, .int .i64 0, .slice none 0 0], eBox b8 24 [.int .i64 r4.W, .int .i64 r4.H, .slice ad36 s35.length cp37], eRow rB 4 (.slice ad36 s35.length cp37) s35] []) ⟨ad17, cp18, S.fix [0, 1, 2] [] (by decide) (by kernel_rfl) (by kernel_rfl) (by kernel_rfl)⟩ ?_
        clear hl h
        intro s0 a w c0 hI h hu38
        obtain ⟨s34, s35⟩ := s0
        unfold raddlelaw24_cloth_l1 at h
        dsimp only at h hI
        obtain ⟨ad36, cp37, S⟩ := hI
        refine sSeq (fun K44 hK44 => ?_)
        refine sSeq (fun K45 hK45 => ?_)
        refine sRegion ?_
        refine sMove (.int .i64 s34) S (wN rfl) (.inl rfl) (by kernel_rfl) rfl (by decide) (fun a S => ?_)
        refine sMove (.int .i64 p0) S (wN rfl) (.inl rfl) (by kernel_rfl) rfl (by decide) (fun a S => ?_)
        refine sBin (.bool (decide (s34 < p0))) S (wN rfl) rfl (by kernel_rfl) (by kernel_rfl) (bLt _ _ _ _ .i64 s34 p0) rfl (by decide) (fun a S => ?_)
        refine leafL (leafT (hK45 _ _ ?_))
        rcases iteSome h with ⟨hc46, h⟩ | ⟨hc46, h⟩
        · refine sCondT (b := decide (s34 < p0)) S (by kernel_rfl) hc46 ?_
          refine wp_skip (leafT (hK44 _ _ ?_))
          refine sSeq (fun K47 hK47 => ?_)
          refine wp_block ?_
          obtain ⟨r48, hx49, h⟩ := bindSome h
          obtain ⟨r50, hx51, h⟩ := bindSome h
          refine sDraw (nf := [10]) (W := [(0, 23, .agg #[.int .i64 r4.W, .int .i64 r4.H, .slice ad36 s35.length cp37]), (1, 24, .int .i64 s34), (2, 25, .int .i64 s15), (3, 26, .int .i64 s34), (4, 27, .int .i64 s15), (5, 28, .int .i64 (w64 (s34 - s15))), (6, 29, .int .i64 p0), (7, 30, .int .i64 r48), (8, 31, .int .i64 p2), (9, 32, .bool (decide (r48 < p2)))]) (by kernel_rfl) S ?_
          refine node_by (A := anc_raddlelaw24_cloth_0) (nf := [10]) (Y := []) (W := [(0, 23, .agg #[.int .i64 r4.W, .int .i64 r4.H, .slice ad36 s35.length cp37]), (1, 24, .int .i64 s34), (2, 25, .int .i64 s15), (3, 26, .int .i64 s34), (4, 27, .int .i64 s15), (5, 28, .int .i64 (w64 (s34 - s15))), (6, 29, .int .i64 p0), (7, 30, .int .i64 r48), (8, 31, .int .i64 p2), (9, 32, .bool (decide (r48 < p2)))]) 11 (by kernel_rfl) (by kernel_rfl) (by kernel_rfl) (by kernel_rfl) (by kernel_rfl) [0, 1, 2, 3, 4, 5, 6, 7, 8, 9] (by kernel_rfl) (by decide) (by decide) (aF 0 10 (by decide) ?_ (aF 1 9 (by decide) ?_ (aF 2 8 (by decide) ?_ (aF 3 7 (by decide) ?_ (aF 4 6 (by decide) ?_ (aF 5 5 (by decide) ?_ (aF 6 4 (by decide) ?_ (aF 7 3 (by decide) ?_ (aF 8 2 (by decide) ?_ (aF 9 1 (by decide) ?_ (aN 10 0 (by decide) ?_ (trivial)))))))))))) [] (fun q hq => by cases hq) (fun hY => absurd (hY 10 (by decide)) (by decide))
          · refine fI 23 (.agg #[.int .i64 r4.W, .int .i64 r4.H, .slice ad36 s35.length cp37]) [(7, .pointer (some ⟨b8, 0, none⟩))] 0 [none] rfl rfl (by kernel_rfl) rfl (by kernel_rfl) (by kernel_rfl) fun G a w S => ?_
            refine sLoadN (p := b8) (off := 0) (T := 24) (vs := [.int .i64 r4.W, .int .i64 r4.H, .slice ad36 s35.length cp37]) 1 [.int .i64 r4.W, .int .i64 r4.H, .slice ad36 s35.length cp37] S (wN rfl) rfl (by kernel_rfl) (by kernel_rfl) (by kernel_rfl) (by kernel_rfl) rfl rfl (by decide) (fun a S => ?_)
            exact leafL ⟨rfl, S⟩
          · refine fI 24 (.int .i64 s34) [(9, .int .i64 s34)] 1 [none] rfl rfl (by kernel_rfl) rfl (by kernel_rfl) (by kernel_rfl) fun G a w S => ?_
            refine sMove (.int .i64 s34) S (wN rfl) (.inl rfl) (by kernel_rfl) rfl (by decide) (fun a S => ?_)
            exact leafL ⟨rfl, S⟩
          · refine fI 25 (.int .i64 s15) [(8, .int .i64 s15)] 2 [none] rfl rfl (by kernel_rfl) rfl (by kernel_rfl) (by kernel_rfl) fun G a w S => ?_
            refine sMove (.int .i64 s15) S (wN rfl) (.inl rfl) (by kernel_rfl) rfl (by decide) (fun a S => ?_)
            exact leafL ⟨rfl, S⟩
          · refine fI 26 (.int .i64 s34) [(9, .int .i64 s34)] 3 [none] rfl rfl (by kernel_rfl) rfl (by kernel_rfl) (by kernel_rfl) fun G a w S => ?_
            refine sMove (.int .i64 s34) S (wN rfl) (.inl rfl) (by kernel_rfl) rfl (by decide) (fun a S => ?_)
            exact leafL ⟨rfl, S⟩
          · refine fI 27 (.int .i64 s15) [(8, .int .i64 s15)] 4 [none] rfl rfl (by kernel_rfl) rfl (by kernel_rfl) (by kernel_rfl) fun G a w S => ?_
            refine sMove (.int .i64 s15) S (wN rfl) (.inl rfl) (by kernel_rfl) rfl (by decide) (fun a S => ?_)
            exact leafL ⟨rfl, S⟩
          · refine fI 28 (.int .i64 (w64 (s34 - s15))) [(26, .int .i64 s34), (27, .int .i64 s15)] 5 [some 3, some 4] rfl rfl (by kernel_rfl) rfl (by kernel_rfl) (by kernel_rfl) fun G a w S => ?_
            refine sBin (.int .i64 (w64 (s34 - s15))) S (wN rfl) rfl (by kernel_rfl) (by kernel_rfl) (bSub _ _ _ _ s34 s15) rfl (by decide) (fun a S => ?_)
            exact leafL ⟨rfl, S⟩
          · refine fI 29 (.int .i64 p0) [(0, .int .i64 p0)] 6 [none] rfl rfl (by kernel_rfl) rfl (by kernel_rfl) (by kernel_rfl) fun G a w S => ?_
            refine sMove (.int .i64 p0) S (wN rfl) (.inl rfl) (by kernel_rfl) rfl (by decide) (fun a S => ?_)
            exact leafL ⟨rfl, S⟩
          · refine fI 30 (.int .i64 r48) [(28, .int .i64 (w64 (s34 - s15))), (29, .int .i64 p0)] 7 [some 5, some 6] rfl rfl (by kernel_rfl) rfl (by kernel_rfl) (by kernel_rfl) fun G a w S => ?_
            have S1 := S.mem
            refine sCallQ (X := Unit) (f := 38) (vs := [.int .i64 (w64 (s34 - s15)), .int .i64 p0]) (val := fun _ => .int .i64 r48) S (wN rfl) rfl callee38 (by kernel_rfl) (S1.quiet [] (by kernel_rfl)) (fun E1 w1 S1 => c_raddleref01_Mod E1 w1 (w64 (s34 - s15)) p0 r48 hx49 S1) rfl (by decide) (fun _ a w S => ?_)
            exact leafL ⟨rfl, S⟩
          · refine fI 31 (.int .i64 p2) [(2, .int .i64 p2)] 8 [none] rfl rfl (by kernel_rfl) rfl (by kernel_rfl) (by kernel_rfl) fun G a w S => ?_
            refine sMove (.int .i64 p2) S (wN rfl) (.inl rfl) (by kernel_rfl) rfl (by decide) (fun a S => ?_)
            exact leafL ⟨rfl, S⟩
          · refine fI 32 (.bool (decide (r48 < p2))) [(30, .int .i64 r48), (31, .int .i64 p2)] 9 [some 7, some 8] rfl rfl (by kernel_rfl) rfl (by kernel_rfl) (by kernel_rfl) fun G a w S => ?_
            refine sBin (.bool (decide (r48 < p2))) S (wN rfl) rfl (by kernel_rfl) (by kernel_rfl) (bLt _ _ _ _ .i64 r48 p2) rfl (by decide) (fun a S => ?_)
            exact leafL ⟨rfl, S⟩
          · refine ⟨_, [(23, .agg #[.int .i64 r4.W, .int .i64 r4.H, .slice ad36 s35.length cp37]), (24, .int .i64 s34), (25, .int .i64 s15), (32, .bool (decide (r48 < p2)))], rfl, (srcs_of [some 0, some 1, some 2, some 9] rfl (by kernel_rfl) (by kernel_rfl)), fun G a w S => ?_⟩
            refine sCall (X := Unit) (f := 51) (vs := [.agg #[.int .i64 r4.W, .int .i64 r4.H, .slice ad36 s35.length cp37], .int .i64 s34, .int .i64 s15, .bool (decide (r48 < p2))]) (val := fun _ => .tuple #[]) (B' := fun _ => [eRow rB 4 (.slice ad36 s35.length cp37) r50]) (D' := fun _ => []) [eRow rB 4 (.slice ad36 s35.length cp37) s35] [eBox b2 24 [.int .i64 0, .int .i64 0, .slice none 0 0], eBox b8 24 [.int .i64 r4.W, .int .i64 r4.H, .slice ad36 s35.length cp37]] [] [2, 0, 1] [] S (wN rfl) rfl callee51 (by kernel_rfl) (by decide) (by kernel_rfl) (by kernel_rfl) (fun E1 w1 S1 => c_raddleref01_Set_s0 E1 w1 r4.W r4.H s35 ad36 cp37 s34 s15 (decide (r48 < p2)) r50 hx51 S1) rfl (by decide) (fun _ a w S => ?_)
            refine leafL ⟨rfl, _, _, .inl ⟨33, (.tuple #[]), [], rfl, S, hz_of (by kernel_rfl), ?_⟩⟩
            refine node_by (A := anc_raddlelaw24_cloth_0) (nf := [10]) (Y := [10]) 11 (by kernel_rfl) (by kernel_rfl) (by kernel_rfl) (by kernel_rfl) (by kernel_rfl) [10, 0, 1, 2, 3, 4, 5, 6, 7, 8, 9] (by kernel_rfl) (by decide) (by decide) (aD 0 10 10 (by decide) (aD 1 9 10 (by decide) (aD 2 8 10 (by decide) (aD 3 7 10 (by decide) (aD 4 6 10 (by decide) (aD 5 5 10 (by decide) (aD 6 4 10 (by decide) (aD 7 3 10 (by decide) (aD 8 2 10 (by decide) (aD 9 1 10 (by decide) (aY 10 0 (by decide) (trivial)))))))))))) [(0, .int .i64 p0), (1, .int .i64 p1), (2, .int .i64 p2), (6, .pointer (some ⟨b2, 0, none⟩)), (7, .pointer (some ⟨b8, 0, none⟩)), (8, .int .i64 s15), (9, .int .i64 s34)] (fin_of [none, none, none, none, none, none, none] rfl (by kernel_rfl) (by kernel_rfl)) (fun _ a w S => ?_)
            · have hr52 := row_v (S.mem.hold (i := 0) (e := eRow rB 4 (.slice ad36 s35.length cp37) r50) rfl)
              rw [hr52] at S
              refine leafB (leafT (hK47 _ _ ?_))
              refine sRegion ?_
              refine sMove (.int .i64 s34) S (wN rfl) (.inl rfl) (by kernel_rfl) rfl (by decide) (fun a S => ?_)
              refine sBin (.int .i64 (w64 (s34 + 1))) S (wN rfl) rfl (by kernel_rfl) (by kernel_rfl) (bAdd _ _ _ _ s34 1) rfl (by decide) (fun a S => ?_)
              refine sMove (.int .i64 (w64 (s34 + 1))) S (wN rfl) (.inr rfl) (by kernel_rfl) rfl (by decide) (fun a S => ?_)
              exact leafL (leafT (⟨(w64 (s34 + 1), r50), (Option.some.inj h).symm, ⟨ad36, cp37, S.fix [1, 2, 0] [] (by decide) (by kernel_rfl) (by kernel_rfl) (by kernel_rfl)⟩⟩))
        · refine sCondF (b := decide (s34 < p0)) S (by kernel_rfl) hc46 ?_
          obtain rfl := Option.some.inj h
          obtain rfl := hu38 _ rfl
          have h := g39
          clear g39
          try dsimp only at h
          exact wp_exit (xThen (xThen (xHit (leafB (leafT (⟨s35, Option.some.inj h, ad36, cp37, S.fix [0, 1, 2] [] (by decide) (by kernel_rfl) (by kernel_rfl) (by kernel_rfl)⟩))))))
      · obtain ⟨o28, rfl, ad29, cp30, S⟩ := hI
        have h := g32
        clear g32
        try dsimp only at h
        refine sRegion ?_
        refine sMove (.int .i64 s15) S (wN rfl) (.inl rfl) (by kernel_rfl) rfl (by decide) (fun a S => ?_)
        refine sBin (.int .i64 (w64 (s15 + 1))) S (wN rfl) rfl (by kernel_rfl) (by kernel_rfl) (bAdd _ _ _ _ s15 1) rfl (by decide) (fun a S => ?_)
        refine sMove (.int .i64 (w64 (s15 + 1))) S (wN rfl) (.inr rfl) (by kernel_rfl) rfl (by decide) (fun a S => ?_)
        exact leafL (leafT (⟨(w64 (s15 + 1), o28), (Option.some.inj h).symm, ⟨ad29, cp30, S.fix [0, 1, 2] [] (by decide) (by kernel_rfl) (by kernel_rfl) (by kernel_rfl)⟩⟩))
    · refine sCondF (b := decide (s15 < p1)) S (by kernel_rfl) hc27 ?_
      obtain rfl := Option.some.inj h
      obtain rfl := hu19 _ rfl
      have h := g20
      clear g20
      try dsimp only at h
      exact wp_exit (xThen (xThen (xHit (leafT (⟨s16, Option.some.inj h, ad17, cp18, S.fix [0, 1, 2] [] (by decide) (by kernel_rfl) (by kernel_rfl) (by kernel_rfl)⟩)))))
  · obtain ⟨o9, rfl, ad10, cp11, S⟩ := hI
    have h := g13
    clear g13
    try dsimp only at h
    refine sSeq (fun K53 hK53 => ?_)
    refine sRegion ?_
    refine sLoadN (p := b8) (off := 0) (T := 24) (vs := [.int .i64 r4.W, .int .i64 r4.H, .slice ad10 o9.length cp11]) 1 [.int .i64 r4.W, .int .i64 r4.H, .slice ad10 o9.length cp11] S (wN rfl) rfl (by kernel_rfl) (by kernel_rfl) (by kernel_rfl) (by kernel_rfl) rfl rfl (by decide) (fun a S => ?_)
    refine sStore (p := b2) (off := 0) (T := 24) (vs := [.int .i64 0, .int .i64 0, .slice none 0 0]) (v := .agg #[.int .i64 r4.W, .int .i64 r4.H, .slice ad10 o9.length cp11]) 0 [.int .i64 r4.W, .int .i64 r4.H, .slice ad10 o9.length cp11] S (wN rfl) rfl (by kernel_rfl) (by kernel_rfl) rfl (by kernel_rfl) (by kernel_rfl) rfl (by simp) rfl (fun a w S => ?_)
    refine leafL (leafT (hK53 _ _ ?_))
    obtain rfl := Option.some.inj h
    have S := S.shutR (r := rB) (T := 4) (v := .slice ad10 o9.length cp11) (xs := o9) 2 (by kernel_rfl)
    have S := S.learn (fRep r_api_Grid (.agg #[.int .i64 r4.W, .int .i64 r4.H, .slice ad10 o9.length cp11]) (api_Grid.mk r4.W r4.H o9)) ⟨_, rfl, S.mem.know (i := 0) (e := fRep (rL rB) (.slice ad10 o9.length cp11) o9) (by kernel_rfl)⟩
    exact wp_ret (sRet (.agg #[.int .i64 r4.W, .int .i64 r4.H, .slice ad10 o9.length cp11]) S (rsl1 rfl (rvN (c := 6) (t := 24) (T := 24) (p := b2) 0 [.int .i64 r4.W, .int .i64 r4.H, .slice ad10 o9.length cp11] S (by kernel_rfl) (by kernel_rfl) (by kernel_rfl) (by kernel_rfl))) ⟨(.agg #[.int .i64 r4.W, .int .i64 r4.H, .slice ad10 o9.length cp11]), rfl, S.mem.sel [] [0] (by decide) (by kernel_rfl) (by kernel_rfl)⟩)

end Go.Proofs.Ytjndecalogklhaa
