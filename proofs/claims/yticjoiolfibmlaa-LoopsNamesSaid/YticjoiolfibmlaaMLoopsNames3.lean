/- Several texts in one: G58s1 G59s0 G60s0 G59s1 G74s1 G68 G61s1 G44s1 G33 -/
import Derived.WalkKit
import Derived.Maps.AppendAt
import Derived.Deep.AppendLies
import Derived.KernelRfl
import Derived.Laws.OwnMore
import Derived.Great.BuildSlice
import Derived.Orders
import Derived.Laws.StructEq
import Derived.ChangeKeysEq
import Derived.Defers
import Derived.Laws.BytesString
import Derived.RangeFuncNested
import Derived.RangeFuncBound
import Derived.RangeFuncCalls
import Derived.RangeFuncLeaves
import Derived.OrdersIn
import Derived.LoopNIn
import Derived.ArgAppend
import Derived.Lib.AppendZeros
import Derived.Test.YticjoiolfibmlaaProg
import Derived.ProofKit
import Derived.OpenShut
import Derived.ChangeOld
import Derived.Deep.Slices
import Derived.Lib.SmallJoins
import Derived.JoinedOf
import Derived.JoinedAt
import Derived.Below
import Derived.Test.YticjoiolfibmlaaRows
import Derived.Test.YticjoiolfibmlaaMLoopsNames2
namespace Go.Proofs.Yticjoiolfibmlaa
open Go.RowKit
set_option linter.unusedVariables false

def anc_loops_piece_add_s1_0 : List (List Nat) := [[], [], [1], [1, 2], [1, 2, 3], [], [5], [1, 2, 3, 4, 5, 6], [0, 1, 2, 3, 4, 5, 6, 7], [0, 1, 2, 3, 4, 5, 6, 7, 8], [0, 1, 2, 3, 4, 5, 6, 7, 8, 9]]
noncomputable def loops_piece_add_s1_l1 (p2 : (List (List Int))) (p1 : api_Loop) : (Int × List api_Loop × List Int) → Option ((Int × List api_Loop × List Int) ⊕ List api_Loop) := fun s0 => match s0 with
  | (s10, s11, s20) =>
    if decide (s10 < (p2.length : Int)) then
      Option.bind (idxO p2 s10) fun x40 =>
      Option.bind (appO s11 [(api_Loop.mk p1.Row p1.Cell x40 p1.Purl)]) fun l50 =>
      some (.inl (w64 (s10 + 1), l50, x40))
    else
      some (.inr s11)
noncomputable def F_loops_piece_add_s1 (p0 : loops_piece) (p1 : api_Loop) (p2 : (List (List Int))) : Option loops_piece :=
  Option.bind (whileO (loops_piece_add_s1_l1 p2 p1) (0, p0.loops, p1.Parents)) fun e26 =>
    some (loops_piece.mk e26 p0.rows p0.bound p0.cross p0.next)
set_option maxHeartbeats 4000000 in
set_option maxRecDepth 100000 in
theorem c_loops_piece_add_s1 (E : Nat → Prop) (w0 : World) (p0 : loops_piece) (bb0 : Nat) (ad_0_0 : Option Addr) (cp_0_0 : Nat) (ad_0_1 : Option Addr) (cp_0_1 : Nat) (ad_0_2 : Option Addr) (cp_0_2 : Nat) (ad_0_3 : Option Addr) (cp_0_3 : Nat) (p1 : api_Loop) (v1 : Value) (p2 : (List (List Int))) (v2 : Value) (r : loops_piece) (h : F_loops_piece_add_s1 p0 p1 p2 = some r) (S : St0 E (keysL [eBox bb0 73 [.slice ad_0_0 p0.loops.length cp_0_0, .slice ad_0_1 p0.rows.length cp_0_1, .slice ad_0_2 p0.bound.length cp_0_2, .slice ad_0_3 p0.cross.length cp_0_3, iv p0.next], eRow r_api_Loop 48 (.slice ad_0_0 p0.loops.length cp_0_0) p0.loops, eRow (rI .i64) 3 (.slice ad_0_1 p0.rows.length cp_0_1) p0.rows, eRow (rI .i64) 3 (.slice ad_0_2 p0.bound.length cp_0_2) p0.bound, eRow r_A2_Int 49 (.slice ad_0_3 p0.cross.length cp_0_3) p0.cross]) w0 w0 [eBox bb0 73 [.slice ad_0_0 p0.loops.length cp_0_0, .slice ad_0_1 p0.rows.length cp_0_1, .slice ad_0_2 p0.bound.length cp_0_2, .slice ad_0_3 p0.cross.length cp_0_3, iv p0.next], eRow r_api_Loop 48 (.slice ad_0_0 p0.loops.length cp_0_0) p0.loops, eRow (rI .i64) 3 (.slice ad_0_1 p0.rows.length cp_0_1) p0.rows, eRow (rI .i64) 3 (.slice ad_0_2 p0.bound.length cp_0_2) p0.bound, eRow r_A2_Int 49 (.slice ad_0_3 p0.cross.length cp_0_3) p0.cross] [fRep r_api_Loop (v1) p1, fRep (rL (rL (rI .i64))) (v2) p2]) :
    Calls Try.prog 58 #[.pointer (some ⟨bb0, 0, none⟩), v1, v2] w0 (Ret (X := Option Addr × Nat × Option Addr × Nat × Option Addr × Nat × Option Addr × Nat) E (keysL [eBox bb0 73 [.slice ad_0_0 p0.loops.length cp_0_0, .slice ad_0_1 p0.rows.length cp_0_1, .slice ad_0_2 p0.bound.length cp_0_2, .slice ad_0_3 p0.cross.length cp_0_3, iv p0.next], eRow r_api_Loop 48 (.slice ad_0_0 p0.loops.length cp_0_0) p0.loops, eRow (rI .i64) 3 (.slice ad_0_1 p0.rows.length cp_0_1) p0.rows, eRow (rI .i64) 3 (.slice ad_0_2 p0.bound.length cp_0_2) p0.bound, eRow r_A2_Int 49 (.slice ad_0_3 p0.cross.length cp_0_3) p0.cross]) w0 (fun _ => .tuple #[]) (fun x => [eBox bb0 73 [.slice x.1 r.loops.length x.2.1, .slice x.2.2.1 r.rows.length x.2.2.2.1, .slice x.2.2.2.2.1 r.bound.length x.2.2.2.2.2.1, .slice x.2.2.2.2.2.2.1 r.cross.length x.2.2.2.2.2.2.2, iv r.next], eRow r_api_Loop 48 (.slice x.1 r.loops.length x.2.1) r.loops, eRow (rI .i64) 3 (.slice x.2.2.1 r.rows.length x.2.2.2.1) r.rows, eRow (rI .i64) 3 (.slice x.2.2.2.2.1 r.bound.length x.2.2.2.2.2.1) r.bound, eRow r_A2_Int 49 (.slice x.2.2.2.2.2.2.1 r.cross.length x.2.2.2.2.2.2.2) r.cross]) (fun _ => [])) := by
  unfold F_loops_piece_add_s1 at h
  obtain ⟨u1, rfl, hu2⟩ := S.know (i := 0) (e := fRep r_api_Loop (v1) p1) rfl
  have S := S.learn (fRep (rL (rI .i64)) u1 p1.Parents) hu2
  obtain ⟨ad3, cp4, _, rfl, _⟩ := hu2
  obtain ⟨ad5, cp6, _, rfl, _⟩ := S.know (i := 2) (e := fRep (rL (rL (rI .i64))) (v2) p2) rfl
  refine sEnter (args := [.pointer (some ⟨bb0, 0, none⟩), .agg #[iv p1.Row, iv p1.Cell, .slice ad3 p1.Parents.length cp4, .bool p1.Purl], .slice ad5 p2.length cp6]) 27 Try.func58 rfl rfl (by simp) S (fun a S => ?_)
  refine sSeq (fun K7 hK7 => ?_)
  refine sRegion ?_
  refine sBox (v := .agg #[iv p1.Row, iv p1.Cell, .slice ad3 p1.Parents.length cp4, .bool p1.Purl]) S (wN rfl) rfl rfl [iv p1.Row, iv p1.Cell, .slice ad3 p1.Parents.length cp4, .bool p1.Purl] rfl rfl (lb rfl) fun a b8 w S => ?_
  refine leafL (leafT (hK7 _ _ ?_))
  refine sSeq (fun K9 hK9 => ?_)
  refine sRegion ?_
  refine sMove (.slice ad5 p2.length cp6) S (wN rfl) (.inl rfl) rfl rfl (lb rfl) fun a S => ?_
  refine sLen (ad := ad5) (m := p2.length) (c := cp6) S (wN rfl) rfl Try.underlying69 rfl rfl (lb rfl) fun a S => ?_
  refine sMove (iv 0) S (wN rfl) (.inl rfl) rfl rfl (lb rfl) fun a S => ?_
  refine leafL (leafT (hK9 _ _ ?_))
  refine wp_block ?_
  obtain ⟨t25, hl, g24⟩ := bindSome h
  refine sLoop hl (fun s0 a w => match s0 with | (s10, s11, s20) => ∃ ad12, ∃ cp13, ∃ ad14, ∃ cp15, ∃ ad16, ∃ cp17, ∃ ad18, ∃ cp19, ∃ ad21, ∃ cp22, St [] E (keysL [eBox bb0 73 [.slice ad_0_0 p0.loops.length cp_0_0, .slice ad_0_1 p0.rows.length cp_0_1, .slice ad_0_2 p0.bound.length cp_0_2, .slice ad_0_3 p0.cross.length cp_0_3, iv p0.next], eRow r_api_Loop 48 (.slice ad_0_0 p0.loops.length cp_0_0) p0.loops, eRow (rI .i64) 3 (.slice ad_0_1 p0.rows.length cp_0_1) p0.rows, eRow (rI .i64) 3 (.slice ad_0_2 p0.bound.length cp_0_2) p0.bound, eRow r_A2_Int 49 (.slice ad_0_3 p0.cross.length cp_0_3) p0.cross]) w0 27 a w [(0, .pointer (some ⟨bb0, 0, none⟩)), (4, .pointer (some ⟨b8, 0, none⟩)), (8, .slice ad5 p2.length cp6), (9, iv (p2.length : Int)), (10, iv s10)] [eBox bb0 73 [.slice ad12 s11.length cp13, .slice ad14 p0.rows.length cp15, .slice ad16 p0.bound.length cp17, .slice ad18 p0.cross.length cp19, iv p0.next], eBox b8 48 [iv p1.Row, iv p1.Cell, .slice ad21 s20.length cp22, .bool p1.Purl], eRow r_api_Loop 48 (.slice ad12 s11.length cp13) s11, eRow (rI .i64) 3 (.slice ad14 p0.rows.length cp15) p0.rows, eRow (rI .i64) 3 (.slice ad16 p0.bound.length cp17) p0.bound, eRow r_A2_Int 49 (.slice ad18 p0.cross.length cp19) p0.cross] [fRep (rL (rL (rI .i64))) (.slice ad5 p2.length cp6) p2, fRep (rL (rI .i64)) (.slice ad21 s20.length cp22) s20]) ⟨ad_0_0, cp_0_0, ad_0_1, cp_0_1, ad_0_2, cp_0_2, ad_0_3, cp_0_3, ad3, cp4, S.fix [1, 0, 2, 3, 4, 5] [2, 0] (by decide) rfl rfl rfl⟩ ?_
  clear hl h
  intro s0 a w c0 hI h hu23
  obtain ⟨s10, s11, s20⟩ := s0
  unfold loops_piece_add_s1_l1 at h
  dsimp only at h hI
  obtain ⟨ad12, cp13, ad14, cp15, ad16, cp17, ad18, cp19, ad21, cp22, S⟩ := hI
  refine sSeq (fun K35 hK35 => ?_)
  refine sRegion ?_
  refine sBin (.bool (decide (s10 < (p2.length : Int)))) S (wN rfl) rfl rfl rfl (bLt _ _ _ _ .i64 s10 (p2.length : Int)) rfl (lb rfl) fun a S => ?_
  refine leafL (leafT (hK35 _ _ ?_))
  refine sSeq (fun K36 hK36 => ?_)
  rcases iteSome h with ⟨hc37, h⟩ | ⟨hc37, h⟩
  rotate_left
  · refine sCondF S rfl hc37 ?_
    obtain rfl := Option.some.inj h
    obtain rfl := hu23 _ rfl
    have h := g24
    clear g24
    try dsimp only at h
    obtain rfl := Option.some.inj h
    exact wp_exit (xThen (xThen (xHit (sEnd (.tuple #[]) S (rsl0 rfl ) ⟨(ad12, cp13, ad14, cp15, ad16, cp17, ad18, cp19), rfl, S.mem.sel [0, 2, 3, 4, 5] [] (by decide) rfl rfl⟩))))
  refine sCondT S rfl hc37 ?_
  refine wp_skip (leafT (hK36 _ _ ?_))
  refine sSeq (fun K38 hK38 => ?_)
  refine wp_block ?_
  refine sSeq (fun K39 hK39 => ?_)
  refine sRegion ?_
  obtain ⟨x40, hx41, h⟩ := bindSome h
  obtain ⟨q42, hq43, S⟩ := pIdx (P := Try.prog) (r := (rL (rI .i64))) (v := .slice ad5 p2.length cp6) (xs := p2) (j := s10) 69 32 0 S Try.underlying69 rfl rfl hx41
  refine sIdxV (v := .slice ad5 p2.length cp6) (k := .i64) (j := s10) S (wN rfl) rfl rfl rfl hq43 rfl (lb rfl) fun a S => ?_
  obtain ⟨u44, S⟩ := pLoad (r := (rL (rI .i64))) (q := q42) (x := x40) 0 S rfl
  obtain ⟨ad45, cp46, _, rfl, _⟩ := S.mem.know (i := 1) (e := fRep (rL (rI .i64)) (u44) x40) rfl
  refine sLoadV1 (vq := q42) 0 (.slice ad45 x40.length cp46) S (wN rfl) rfl rfl rfl rfl rfl (lb rfl) fun a S => ?_
  refine sMove (.slice ad45 x40.length cp46) S (wN rfl) (.inr rfl) rfl rfl (lb rfl) fun a S => ?_
  refine leafL (leafT (hK39 _ _ ?_))
  refine sSeq (fun K47 hK47 => ?_)
  refine sRegion ?_
  refine sMove (.slice ad45 x40.length cp46) S (wN rfl) (.inl rfl) rfl rfl (lb rfl) fun a S => ?_
  refine sField (b := b8) (off := 0) 2 2 S (wN rfl) rfl rfl rfl rfl rfl (lb rfl) fun a S => ?_
  refine sStore (p := b8) (off := 2) (T := 48) (vs := [iv p1.Row, iv p1.Cell, .slice ad21 s20.length cp22, .bool p1.Purl]) (v := .slice ad45 x40.length cp46) 1 [.slice ad45 x40.length cp46] S (wN rfl) rfl rfl rfl rfl rfl rfl rfl (by simp) rfl fun a w S => ?_
  refine leafL (leafT (hK47 _ _ ?_))
  obtain ⟨l50, hx51, h⟩ := bindSome h
  refine sDraw (nf := [6, 7, 10]) (W := [(0, 16, .pointer (some ⟨bb0, 0, none⟩)), (1, 17, .pointer (some ⟨bb0, 0, none⟩)), (2, 18, .pointer (some ⟨bb0, 0, none⟩)), (3, 19, .pointer (some ⟨bb0, 0, none⟩)), (4, 20, .slice ad12 s11.length cp13), (5, 21, .agg #[iv p1.Row, iv p1.Cell, .slice ad45 x40.length cp46, .bool p1.Purl])]) rfl S ?_
  refine node_by (A := anc_loops_piece_add_s1_0) (nf := [6, 7, 10]) (Y := []) (W := [(0, 16, .pointer (some ⟨bb0, 0, none⟩)), (1, 17, .pointer (some ⟨bb0, 0, none⟩)), (2, 18, .pointer (some ⟨bb0, 0, none⟩)), (3, 19, .pointer (some ⟨bb0, 0, none⟩)), (4, 20, .slice ad12 s11.length cp13), (5, 21, .agg #[iv p1.Row, iv p1.Cell, .slice ad45 x40.length cp46, .bool p1.Purl])]) 11 (by kernel_rfl) (by kernel_rfl) (by kernel_rfl) (by kernel_rfl) (by kernel_rfl) [0, 1, 2, 3, 4, 5] (by kernel_rfl) (by decide) (by decide) (aF 0 10 (by decide) ?_ (aF 1 9 (by decide) ?_ (aF 2 8 (by decide) ?_ (aF 3 7 (by decide) ?_ (aF 4 6 (by decide) ?_ (aF 5 5 (by decide) ?_ (aN 6 4 (by decide) ?_ (aB 7 3 6 (by decide) (aE 8 2 6 (by decide) (aE 9 1 6 (by decide) (aB 10 0 6 (by decide) (trivial)))))))))))) [] (fun q hq => by cases hq) (fun hY => absurd (hY 6 (by decide)) (by decide))
  · refine fI 16 (.pointer (some ⟨bb0, 0, none⟩)) [(0, .pointer (some ⟨bb0, 0, none⟩))] 0 [none] rfl rfl rfl rfl rfl rfl fun G a w S => ?_
    refine sMove (.pointer (some ⟨bb0, 0, none⟩)) S (wN rfl) (.inl rfl) rfl rfl (lb rfl) fun a S => ?_
    exact leafL ⟨rfl, S⟩
  · refine fI 17 (.pointer (some ⟨bb0, 0, none⟩)) [(0, .pointer (some ⟨bb0, 0, none⟩))] 1 [none] rfl rfl rfl rfl rfl rfl fun G a w S => ?_
    refine sMove (.pointer (some ⟨bb0, 0, none⟩)) S (wN rfl) (.inl rfl) rfl rfl (lb rfl) fun a S => ?_
    exact leafL ⟨rfl, S⟩
  · refine fI 18 (.pointer (some ⟨bb0, 0, none⟩)) [(17, .pointer (some ⟨bb0, 0, none⟩))] 2 [some 1] rfl rfl rfl rfl rfl rfl fun G a w S => ?_
    refine nilCheck_ok (q := ⟨bb0, 0, none⟩) S (wN rfl) rfl rfl rfl (lb rfl) fun a S => ?_
    exact leafL ⟨rfl, S⟩
  · refine fI 19 (.pointer (some ⟨bb0, 0, none⟩)) [(18, .pointer (some ⟨bb0, 0, none⟩))] 3 [some 2] rfl rfl rfl rfl rfl rfl fun G a w S => ?_
    refine sField (b := bb0) (off := 0) 0 0 S (wN rfl) rfl rfl rfl rfl rfl (lb rfl) fun a S => ?_
    exact leafL ⟨rfl, S⟩
  · refine fI 20 (.slice ad12 s11.length cp13) [(19, .pointer (some ⟨bb0, 0, none⟩))] 4 [some 3] rfl rfl rfl rfl rfl rfl fun G a w S => ?_
    refine sLoad1 (p := bb0) (off := 0) (T := 73) (vs := [.slice ad12 s11.length cp13, .slice ad14 p0.rows.length cp15, .slice ad16 p0.bound.length cp17, .slice ad18 p0.cross.length cp19, iv p0.next]) 1 (.slice ad12 s11.length cp13) S (wN rfl) rfl rfl rfl rfl rfl rfl (lb rfl) fun a S => ?_
    exact leafL ⟨rfl, S⟩
  · refine fI 21 (.agg #[iv p1.Row, iv p1.Cell, .slice ad45 x40.length cp46, .bool p1.Purl]) [(4, .pointer (some ⟨b8, 0, none⟩))] 5 [none] rfl rfl rfl rfl rfl rfl fun G a w S => ?_
    refine sLoadN (p := b8) (off := 0) (T := 48) (vs := [iv p1.Row, iv p1.Cell, .slice ad45 x40.length cp46, .bool p1.Purl]) 0 [iv p1.Row, iv p1.Cell, .slice ad45 x40.length cp46, .bool p1.Purl] S (wN rfl) rfl rfl rfl rfl rfl rfl rfl (lb rfl) fun a S => ?_
    exact leafL ⟨rfl, S⟩
  refine ⟨_, [(21, .agg #[iv p1.Row, iv p1.Cell, .slice ad45 x40.length cp46, .bool p1.Purl])], rfl, (srcs_of [some 5] rfl rfl rfl), fun G a w S => ?_⟩
  have S := S.learn (fRep r_api_Loop (.agg #[iv p1.Row, iv p1.Cell, .slice ad45 x40.length cp46, .bool p1.Purl]) (api_Loop.mk p1.Row p1.Cell x40 p1.Purl)) ⟨_, rfl, S.mem.know (i := 1) (e := fRep (rL (rI .i64)) (.slice ad45 x40.length cp46) x40) rfl⟩
  refine sLit (r := r_api_Loop) (T := 48) (xs := [(api_Loop.mk p1.Row p1.Cell x40 p1.Purl)]) [(0, .agg #[iv p1.Row, iv p1.Cell, .slice ad45 x40.length cp46, .bool p1.Purl])] 1 [.agg #[iv p1.Row, iv p1.Cell, .slice ad45 x40.length cp46, .bool p1.Purl]] [iv p1.Row, iv p1.Cell, .slice ad45 x40.length cp46, .bool p1.Purl] (.agg #[iv 0, iv 0, .slice none 0 0, .bool false]) 48 S (wN rfl) rfl rfl Try.underlying26 rfl (by decide) (by decide) (by kernel_rfl) rfl (fun E1 w1 hE => All.cons (r_api_Loop.mono hE (S.mem.know (i := 0) (e := fRep r_api_Loop (.agg #[iv p1.Row, iv p1.Cell, .slice ad45 x40.length cp46, .bool p1.Purl]) (api_Loop.mk p1.Row p1.Cell x40 p1.Purl)) rfl)) (All.nil _ _ _)) rfl rfl (lb rfl) fun a w ad54 cp55 S => ?_
  refine leafL ⟨rfl, _, _, .inl ⟨22, (.slice ad54 [(api_Loop.mk p1.Row p1.Cell x40 p1.Purl)].length cp55), [], rfl, S, hz_of rfl, ?_⟩⟩
  refine node_by (A := anc_loops_piece_add_s1_0) (nf := [6, 7, 10]) (Y := [6]) 11 (by kernel_rfl) (by kernel_rfl) (by kernel_rfl) (by kernel_rfl) (by kernel_rfl) [6, 0, 1, 2, 3, 4, 5] (by kernel_rfl) (by decide) (by decide) (aF 0 10 (by decide) ?_ (aF 1 9 (by decide) ?_ (aF 2 8 (by decide) ?_ (aF 3 7 (by decide) ?_ (aF 4 6 (by decide) ?_ (aD 5 5 6 (by decide) (aY 6 4 (by decide) (aN 7 3 (by decide) ?_ (aE 8 2 7 (by decide) (aE 9 1 7 (by decide) (aB 10 0 7 (by decide) (trivial)))))))))))) [] (fun q hq => by cases hq) (fun hY => absurd (hY 7 (by decide)) (by decide))
  · refine fI 16 (.pointer (some ⟨bb0, 0, none⟩)) [(0, .pointer (some ⟨bb0, 0, none⟩))] 1 [none] rfl rfl rfl rfl rfl rfl fun G a w S => ?_
    refine sMove (.pointer (some ⟨bb0, 0, none⟩)) S (wN rfl) (.inl rfl) rfl rfl (lb rfl) fun a S => ?_
    exact leafL ⟨rfl, S⟩
  · refine fI 17 (.pointer (some ⟨bb0, 0, none⟩)) [(0, .pointer (some ⟨bb0, 0, none⟩))] 2 [none] rfl rfl rfl rfl rfl rfl fun G a w S => ?_
    refine sMove (.pointer (some ⟨bb0, 0, none⟩)) S (wN rfl) (.inl rfl) rfl rfl (lb rfl) fun a S => ?_
    exact leafL ⟨rfl, S⟩
  · refine fI 18 (.pointer (some ⟨bb0, 0, none⟩)) [(17, .pointer (some ⟨bb0, 0, none⟩))] 3 [some 2] rfl rfl rfl rfl rfl rfl fun G a w S => ?_
    refine nilCheck_ok (q := ⟨bb0, 0, none⟩) S (wN rfl) rfl rfl rfl (lb rfl) fun a S => ?_
    exact leafL ⟨rfl, S⟩
  · refine fI 19 (.pointer (some ⟨bb0, 0, none⟩)) [(18, .pointer (some ⟨bb0, 0, none⟩))] 4 [some 3] rfl rfl rfl rfl rfl rfl fun G a w S => ?_
    refine sField (b := bb0) (off := 0) 0 0 S (wN rfl) rfl rfl rfl rfl rfl (lb rfl) fun a S => ?_
    exact leafL ⟨rfl, S⟩
  · refine fI 20 (.slice ad12 s11.length cp13) [(19, .pointer (some ⟨bb0, 0, none⟩))] 5 [some 4] rfl rfl rfl rfl rfl rfl fun G a w S => ?_
    refine sLoad1 (p := bb0) (off := 0) (T := 73) (vs := [.slice ad12 s11.length cp13, .slice ad14 p0.rows.length cp15, .slice ad16 p0.bound.length cp17, .slice ad18 p0.cross.length cp19, iv p0.next]) 2 (.slice ad12 s11.length cp13) S (wN rfl) rfl rfl rfl rfl rfl rfl (lb rfl) fun a S => ?_
    exact leafL ⟨rfl, S⟩
  refine ⟨_, [(20, .slice ad12 s11.length cp13), (22, .slice ad54 [(api_Loop.mk p1.Row p1.Cell x40 p1.Purl)].length cp55)], rfl, (srcs_of [some 5, some 0] rfl rfl rfl), fun G a w S => ?_⟩
  refine sApp (r := r_api_Loop) (T := 48) (xs := s11) (ys := [(api_Loop.mk p1.Row p1.Cell x40 p1.Purl)]) (v := .slice ad12 s11.length cp13) (u := .slice ad54 [(api_Loop.mk p1.Row p1.Cell x40 p1.Purl)].length cp55) 3 (.agg #[iv 0, iv 0, .slice none 0 0, .bool false]) 48 S (wN rfl) rfl Try.underlying26 rfl rfl (by decide) rfl rfl rfl (src_R (T := 48) 0 S.mem rfl) hx51 rfl (lb rfl) fun a w ad56 cp57 S => ?_
  refine leafL ⟨rfl, _, _, .inl ⟨23, (.slice ad56 l50.length cp57), [(8, 24, .pointer (some ⟨bb0, 0, none⟩)), (9, 25, .pointer (some ⟨bb0, 0, none⟩))], rfl, S, hz_of rfl, ?_⟩⟩
  refine node_by (A := anc_loops_piece_add_s1_0) (nf := [6, 7, 10]) (Y := [7, 6]) 11 (by kernel_rfl) (by kernel_rfl) (by kernel_rfl) (by kernel_rfl) (by kernel_rfl) [8, 9, 7, 6, 0, 1, 2, 3, 4, 5] (by kernel_rfl) (by decide) (by decide) (aF 0 10 (by decide) ?_ (aD 1 9 7 (by decide) (aD 2 8 7 (by decide) (aD 3 7 7 (by decide) (aD 4 6 7 (by decide) (aD 5 5 7 (by decide) (aY 6 4 (by decide) (aY 7 3 (by decide) (aF 8 2 (by decide) ?_ (aF 9 1 (by decide) ?_ (aN 10 0 (by decide) ?_ (trivial)))))))))))) [] (fun q hq => by cases hq) (fun hY => absurd (hY 10 (by decide)) (by decide))
  · refine fI 16 (.pointer (some ⟨bb0, 0, none⟩)) [(0, .pointer (some ⟨bb0, 0, none⟩))] 4 [none] rfl rfl rfl rfl rfl rfl fun G a w S => ?_
    refine sMove (.pointer (some ⟨bb0, 0, none⟩)) S (wN rfl) (.inl rfl) rfl rfl (lb rfl) fun a S => ?_
    exact leafL ⟨rfl, S⟩
  · refine fI 24 (.pointer (some ⟨bb0, 0, none⟩)) [(16, .pointer (some ⟨bb0, 0, none⟩))] 0 [some 4] rfl rfl rfl rfl rfl rfl fun G a w S => ?_
    refine nilCheck_ok (q := ⟨bb0, 0, none⟩) S (wN rfl) rfl rfl rfl (lb rfl) fun a S => ?_
    exact leafL ⟨rfl, S⟩
  · refine fI 25 (.pointer (some ⟨bb0, 0, none⟩)) [(24, .pointer (some ⟨bb0, 0, none⟩))] 1 [some 0] rfl rfl rfl rfl rfl rfl fun G a w S => ?_
    refine sField (b := bb0) (off := 0) 0 0 S (wN rfl) rfl rfl rfl rfl rfl (lb rfl) fun a S => ?_
    exact leafL ⟨rfl, S⟩
  refine ⟨_, [(23, .slice ad56 l50.length cp57), (25, .pointer (some ⟨bb0, 0, none⟩))], rfl, (srcs_of [some 2, some 1] rfl rfl rfl), fun G a w S => ?_⟩
  refine sStore (p := bb0) (off := 0) (T := 73) (vs := [.slice ad12 s11.length cp13, .slice ad14 p0.rows.length cp15, .slice ad16 p0.bound.length cp17, .slice ad18 p0.cross.length cp19, iv p0.next]) (v := .slice ad56 l50.length cp57) 3 [.slice ad56 l50.length cp57] S (wN rfl) rfl rfl rfl rfl rfl rfl rfl (by simp) rfl fun a w S => ?_
  refine leafL ⟨rfl, _, _, .inr ⟨[], rfl, S, hz_of rfl, ?_⟩⟩
  refine node_by (A := anc_loops_piece_add_s1_0) (nf := [6, 7, 10]) (Y := [10, 7, 6]) 11 (by kernel_rfl) (by kernel_rfl) (by kernel_rfl) (by kernel_rfl) (by kernel_rfl) [8, 9, 7, 6, 0, 1, 2, 3, 4, 5] (by kernel_rfl) (by decide) (by decide) (aD 0 10 10 (by decide) (aD 1 9 10 (by decide) (aD 2 8 10 (by decide) (aD 3 7 10 (by decide) (aD 4 6 10 (by decide) (aD 5 5 10 (by decide) (aY 6 4 (by decide) (aY 7 3 (by decide) (aD 8 2 10 (by decide) (aD 9 1 10 (by decide) (aY 10 0 (by decide) (trivial)))))))))))) [(0, .pointer (some ⟨bb0, 0, none⟩)), (4, .pointer (some ⟨b8, 0, none⟩)), (8, .slice ad5 p2.length cp6), (9, iv (p2.length : Int)), (10, iv s10)] (fin_of [none, none, none, none, none] rfl (by kernel_rfl) (by kernel_rfl)) (fun _ a w S => ?_)
  refine leafB (leafT (hK38 _ _ ?_))
  refine sRegion ?_
  refine sBin (iv (w64 (s10 + 1))) S (wN rfl) rfl rfl rfl (bAdd _ _ _ _ s10 1) rfl (lb rfl) fun a S => ?_
  refine sMove (iv (w64 (s10 + 1))) S (wN rfl) (.inl rfl) rfl rfl (lb rfl) fun a S => ?_
  exact leafL (leafT (⟨(w64 (s10 + 1), l50, x40), (Option.some.inj h).symm, ⟨ad56, cp57, ad14, cp15, ad16, cp17, ad18, cp19, ad45, cp46, S.fix [0, 3, 1, 4, 5, 6] [4, 2] (by decide) rfl rfl rfl⟩⟩))

end Go.Proofs.Yticjoiolfibmlaa
namespace Go.Proofs.Yticjoiolfibmlaa
open Go.RowKit
set_option linter.unusedVariables false

def anc_slices_Reverse___int_int__s0_0 : List (List Nat) := [[], [], [], [], [], [], [4, 5], [4, 5, 6], [], [], [8, 9], [8, 9, 10], [0, 1, 4, 5, 6, 7, 8, 9, 10, 11], [0, 1, 4, 5, 6, 7, 8, 9, 10, 11, 12], [0, 1, 2, 3, 4, 5, 6, 7, 8, 9, 10, 11, 12, 13], [0, 1, 2, 3, 4, 5, 6, 7, 8, 9, 10, 11, 12, 13, 14]]
noncomputable def slices_Reverse___int_int__s0_l1  : (List Int × Int × Int) → Option ((List Int × Int × Int) ⊕ List Int) := fun s0 => match s0 with
  | (s2, s3, s4) =>
    if decide (s3 < s4) then
      Option.bind (idxO s2 s4) fun x13 =>
      Option.bind (idxO s2 s3) fun x18 =>
      Option.bind (setO s2 s3 x13) fun l26 =>
      Option.bind (idxO l26 s4) fun x28 =>
      Option.bind (setO l26 s4 x18) fun l33 =>
      some (.inl (l33, w64 (s3 + 1), w64 (s4 - 1)))
    else
      some (.inr s2)
noncomputable def F_slices_Reverse___int_int__s0 (p0 : (List Int)) : Option (List Int) :=
  Option.bind (whileO (slices_Reverse___int_int__s0_l1) (p0, 0, w64 ((p0.length : Int) - 1))) fun e8 =>
    (keepO p0 e8).bind fun _ =>
    some e8
set_option maxHeartbeats 4000000 in
set_option maxRecDepth 100000 in
theorem c_slices_Reverse___int_int__s0 (E : Nat → Prop) (w0 : World) (p0 : (List Int)) (ad_0 : Option Addr) (cp_0 : Nat) (r : (List Int)) (h : F_slices_Reverse___int_int__s0 p0 = some r) (S : St0 E (keysL [eRow (rI .i64) 3 (.slice ad_0 p0.length cp_0) p0]) w0 w0 [eRow (rI .i64) 3 (.slice ad_0 p0.length cp_0) p0] []) :
    Calls Try.prog 59 #[.slice ad_0 p0.length cp_0] w0 (Ret (X := Unit) E (keysL [eRow (rI .i64) 3 (.slice ad_0 p0.length cp_0) p0]) w0 (fun _ => .tuple #[]) (fun _ => [eRow (rI .i64) 3 (.slice ad_0 p0.length cp_0) r]) (fun _ => [])) := by
  unfold F_slices_Reverse___int_int__s0 at h
  refine sEnter (args := [.slice ad_0 p0.length cp_0]) 28 Try.func59 rfl rfl (by simp) S (fun a S => ?_)
  refine sSeq (fun K1 hK1 => ?_)
  refine sRegion ?_
  refine sMove (.slice ad_0 p0.length cp_0) S (wN rfl) (.inl rfl) rfl rfl (lb rfl) fun a S => ?_
  refine sLen (ad := ad_0) (m := p0.length) (c := cp_0) S (wN rfl) rfl Try.underlying32 rfl rfl (lb rfl) fun a S => ?_
  refine sBin (iv (w64 ((p0.length : Int) - 1))) S (wN rfl) rfl rfl rfl (bSub _ _ _ _ (p0.length : Int) 1) rfl (lb rfl) fun a S => ?_
  refine sMove (iv 0) S (wN rfl) (.inr rfl) rfl rfl (lb rfl) fun a S => ?_
  refine sMove (iv (w64 ((p0.length : Int) - 1))) S (wN rfl) (.inr rfl) rfl rfl (lb rfl) fun a S => ?_
  refine leafL (leafT (hK1 _ _ ?_))
  refine wp_block ?_
  obtain ⟨t7, hl, g6⟩ := bindSome h
  refine sLoop hl (fun s0 a w => match s0 with | (s2, s3, s4) => St [] E (keysL [eRow (rI .i64) 3 (.slice ad_0 p0.length cp_0) p0]) w0 28 a w [(0, .slice ad_0 s2.length cp_0), (2, iv s3), (3, iv s4)] [eRow (rI .i64) 3 (.slice ad_0 s2.length cp_0) s2] []) (S.fix [0] [] (by decide) rfl rfl rfl) ?_
  clear hl h
  intro s0 a w c0 hI h hu5
  obtain ⟨s2, s3, s4⟩ := s0
  unfold slices_Reverse___int_int__s0_l1 at h
  dsimp only at h hI
  have S := hI
  refine sSeq (fun K9 hK9 => ?_)
  refine sSeq (fun K10 hK10 => ?_)
  refine sRegion ?_
  refine sMove (iv s3) S (wN rfl) (.inl rfl) rfl rfl (lb rfl) fun a S => ?_
  refine sMove (iv s4) S (wN rfl) (.inl rfl) rfl rfl (lb rfl) fun a S => ?_
  refine sBin (.bool (decide (s3 < s4))) S (wN rfl) rfl rfl rfl (bLt _ _ _ _ .i64 s3 s4) rfl (lb rfl) fun a S => ?_
  refine leafL (leafT (hK10 _ _ ?_))
  rcases iteSome h with ⟨hc11, h⟩ | ⟨hc11, h⟩
  rotate_left
  · refine sCondF S rfl hc11 ?_
    obtain rfl := Option.some.inj h
    obtain rfl := hu5 _ rfl
    have h := g6
    clear g6
    try dsimp only at h
    obtain ⟨_, hk47, h⟩ := bindSome h
    rw [keepO_v hk47 ad_0 cp_0] at S
    obtain rfl := Option.some.inj h
    exact wp_exit (xThen (xThen (xHit (sEnd (.tuple #[]) S (rsl0 rfl ) ⟨(), rfl, S.mem.sel [0] [] (by decide) rfl rfl⟩))))
  refine sCondT S rfl hc11 ?_
  refine wp_skip (leafT (hK9 _ _ ?_))
  refine sSeq (fun K12 hK12 => ?_)
  refine wp_block ?_
  obtain ⟨x13, hx14, h⟩ := bindSome h
  obtain ⟨x18, hx19, h⟩ := bindSome h
  obtain ⟨l26, hx27, h⟩ := bindSome h
  obtain ⟨x28, hx29, h⟩ := bindSome h
  obtain ⟨l33, hx34, h⟩ := bindSome h
  obtain ⟨q35, hq36, hp37⟩ := pIdxR (P := Try.prog) (r := (rI .i64)) (T := 3) (v := .slice ad_0 s2.length cp_0) (xs := s2) (j := s4) 32 3 0 S Try.underlying32 rfl rfl hx14
  obtain ⟨q38, hq39, hp40⟩ := pIdxR (P := Try.prog) (r := (rI .i64)) (T := 3) (v := .slice ad_0 s2.length cp_0) (xs := s2) (j := s3) 32 3 0 S Try.underlying32 rfl rfl hx19
  obtain ⟨q41, hq42, hp43⟩ := pIdxR (P := Try.prog) (r := (rI .i64)) (T := 3) (v := .slice ad_0 s2.length cp_0) (xs := s2) (j := s3) 32 3 0 S Try.underlying32 rfl rfl hx19
  refine sDraw (nf := [13, 15]) (W := [(0, 14, .slice ad_0 s2.length cp_0), (1, 15, iv s3), (2, 16, .slice ad_0 s2.length cp_0), (3, 17, iv s4), (4, 18, .slice ad_0 s2.length cp_0), (5, 19, iv s4), (6, 20, q35), (7, 21, iv x13), (8, 22, .slice ad_0 s2.length cp_0), (9, 23, iv s3), (10, 24, q38), (11, 25, iv x18), (12, 26, q41)]) rfl S ?_
  refine node_by (A := anc_slices_Reverse___int_int__s0_0) (nf := [13, 15]) (Y := []) (W := [(0, 14, .slice ad_0 s2.length cp_0), (1, 15, iv s3), (2, 16, .slice ad_0 s2.length cp_0), (3, 17, iv s4), (4, 18, .slice ad_0 s2.length cp_0), (5, 19, iv s4), (6, 20, q35), (7, 21, iv x13), (8, 22, .slice ad_0 s2.length cp_0), (9, 23, iv s3), (10, 24, q38), (11, 25, iv x18), (12, 26, q41)]) 16 (by kernel_rfl) (by kernel_rfl) (by kernel_rfl) (by kernel_rfl) (by kernel_rfl) [0, 1, 2, 3, 4, 5, 6, 7, 8, 9, 10, 11, 12] (by kernel_rfl) (by decide) (by decide) (aF 0 15 (by decide) ?_ (aF 1 14 (by decide) ?_ (aF 2 13 (by decide) ?_ (aF 3 12 (by decide) ?_ (aF 4 11 (by decide) ?_ (aF 5 10 (by decide) ?_ (aF 6 9 (by decide) ?_ (aF 7 8 (by decide) ?_ (aF 8 7 (by decide) ?_ (aF 9 6 (by decide) ?_ (aF 10 5 (by decide) ?_ (aF 11 4 (by decide) ?_ (aF 12 3 (by decide) ?_ (aN 13 2 (by decide) ?_ (aE 14 1 13 (by decide) (aB 15 0 13 (by decide) (trivial))))))))))))))))) [] (fun q hq => by cases hq) (fun hY => absurd (hY 13 (by decide)) (by decide))
  · refine fI 14 (.slice ad_0 s2.length cp_0) [(0, .slice ad_0 s2.length cp_0)] 0 [none] rfl rfl rfl rfl rfl rfl fun G a w S => ?_
    refine sMove (.slice ad_0 s2.length cp_0) S (wN rfl) (.inl rfl) rfl rfl (lb rfl) fun a S => ?_
    exact leafL ⟨rfl, S⟩
  · refine fI 15 (iv s3) [(2, iv s3)] 1 [none] rfl rfl rfl rfl rfl rfl fun G a w S => ?_
    refine sMove (iv s3) S (wN rfl) (.inl rfl) rfl rfl (lb rfl) fun a S => ?_
    exact leafL ⟨rfl, S⟩
  · refine fI 16 (.slice ad_0 s2.length cp_0) [(0, .slice ad_0 s2.length cp_0)] 2 [none] rfl rfl rfl rfl rfl rfl fun G a w S => ?_
    refine sMove (.slice ad_0 s2.length cp_0) S (wN rfl) (.inl rfl) rfl rfl (lb rfl) fun a S => ?_
    exact leafL ⟨rfl, S⟩
  · refine fI 17 (iv s4) [(3, iv s4)] 3 [none] rfl rfl rfl rfl rfl rfl fun G a w S => ?_
    refine sMove (iv s4) S (wN rfl) (.inl rfl) rfl rfl (lb rfl) fun a S => ?_
    exact leafL ⟨rfl, S⟩
  · refine fI 18 (.slice ad_0 s2.length cp_0) [(0, .slice ad_0 s2.length cp_0)] 4 [none] rfl rfl rfl rfl rfl rfl fun G a w S => ?_
    refine sMove (.slice ad_0 s2.length cp_0) S (wN rfl) (.inl rfl) rfl rfl (lb rfl) fun a S => ?_
    exact leafL ⟨rfl, S⟩
  · refine fI 19 (iv s4) [(3, iv s4)] 5 [none] rfl rfl rfl rfl rfl rfl fun G a w S => ?_
    refine sMove (iv s4) S (wN rfl) (.inl rfl) rfl rfl (lb rfl) fun a S => ?_
    exact leafL ⟨rfl, S⟩
  · refine fI 20 q35 [(18, .slice ad_0 s2.length cp_0), (19, iv s4)] 6 [some 4, some 5] rfl rfl rfl rfl rfl rfl fun G a w S => ?_
    refine sIdxV (v := .slice ad_0 s2.length cp_0) (k := .i64) (j := s4) S (wN rfl) rfl rfl rfl hq36 rfl (lb rfl) fun a S => ?_
    exact leafL ⟨rfl, S⟩
  · refine fI 21 (iv x13) [(20, q35)] 7 [some 6] rfl rfl rfl rfl rfl rfl fun G a w S => ?_
    refine sLoadR (r := (rI .i64)) (T := 3) (xs := s2) (x := x13) (v := .slice ad_0 s2.length cp_0) (vq := q35) (j := s4) 0 (iv x13) S hp37 (wN rfl) rfl rfl rfl hx14 (fun _ _ _ h => h) (scal_I _) rfl rfl (lb rfl) fun a S => ?_
    exact leafL ⟨rfl, S⟩
  · refine fI 22 (.slice ad_0 s2.length cp_0) [(0, .slice ad_0 s2.length cp_0)] 8 [none] rfl rfl rfl rfl rfl rfl fun G a w S => ?_
    refine sMove (.slice ad_0 s2.length cp_0) S (wN rfl) (.inl rfl) rfl rfl (lb rfl) fun a S => ?_
    exact leafL ⟨rfl, S⟩
  · refine fI 23 (iv s3) [(2, iv s3)] 9 [none] rfl rfl rfl rfl rfl rfl fun G a w S => ?_
    refine sMove (iv s3) S (wN rfl) (.inl rfl) rfl rfl (lb rfl) fun a S => ?_
    exact leafL ⟨rfl, S⟩
  · refine fI 24 q38 [(22, .slice ad_0 s2.length cp_0), (23, iv s3)] 10 [some 8, some 9] rfl rfl rfl rfl rfl rfl fun G a w S => ?_
    refine sIdxV (v := .slice ad_0 s2.length cp_0) (k := .i64) (j := s3) S (wN rfl) rfl rfl rfl hq39 rfl (lb rfl) fun a S => ?_
    exact leafL ⟨rfl, S⟩
  · refine fI 25 (iv x18) [(24, q38)] 11 [some 10] rfl rfl rfl rfl rfl rfl fun G a w S => ?_
    refine sLoadR (r := (rI .i64)) (T := 3) (xs := s2) (x := x18) (v := .slice ad_0 s2.length cp_0) (vq := q38) (j := s3) 0 (iv x18) S hp40 (wN rfl) rfl rfl rfl hx19 (fun _ _ _ h => h) (scal_I _) rfl rfl (lb rfl) fun a S => ?_
    exact leafL ⟨rfl, S⟩
  · refine fI 26 q41 [(14, .slice ad_0 s2.length cp_0), (15, iv s3)] 12 [some 0, some 1] rfl rfl rfl rfl rfl rfl fun G a w S => ?_
    refine sIdxV (v := .slice ad_0 s2.length cp_0) (k := .i64) (j := s3) S (wN rfl) rfl rfl rfl hq42 rfl (lb rfl) fun a S => ?_
    exact leafL ⟨rfl, S⟩
  refine ⟨_, [(21, iv x13), (26, q41)], rfl, (srcs_of [some 7, some 12] rfl rfl rfl), fun G a w S => ?_⟩
  refine sStoreR (r := (rI .i64)) (T := 3) (xs := s2) (ys := l26) (y := x13) (v := .slice ad_0 s2.length cp_0) (vq := q41) (u := iv x13) (j := s3) 0 S hp43 (wN rfl) rfl rfl rfl rfl rfl hx27 rfl rfl fun a w S => ?_
  obtain ⟨q44, hq45, hp46⟩ := pIdxR (P := Try.prog) (r := (rI .i64)) (T := 3) (v := .slice ad_0 s2.length cp_0) (xs := l26) (j := s4) 32 3 0 S Try.underlying32 rfl rfl hx29
  refine leafL ⟨rfl, _, _, .inr ⟨[(14, 27, q44)], rfl, S, hz_of rfl, ?_⟩⟩
  refine node_by (A := anc_slices_Reverse___int_int__s0_0) (nf := [13, 15]) (Y := [13]) 16 (by kernel_rfl) (by kernel_rfl) (by kernel_rfl) (by kernel_rfl) (by kernel_rfl) [14, 0, 1, 2, 3, 4, 5, 6, 7, 8, 9, 10, 11, 12] (by kernel_rfl) (by decide) (by decide) (aD 0 15 13 (by decide) (aD 1 14 13 (by decide) (aF 2 13 (by decide) ?_ (aF 3 12 (by decide) ?_ (aD 4 11 13 (by decide) (aD 5 10 13 (by decide) (aD 6 9 13 (by decide) (aD 7 8 13 (by decide) (aD 8 7 13 (by decide) (aD 9 6 13 (by decide) (aD 10 5 13 (by decide) (aD 11 4 13 (by decide) (aD 12 3 13 (by decide) (aY 13 2 (by decide) (aF 14 1 (by decide) ?_ (aN 15 0 (by decide) ?_ (trivial))))))))))))))))) [] (fun q hq => by cases hq) (fun hY => absurd (hY 15 (by decide)) (by decide))
  · refine fI 16 (.slice ad_0 s2.length cp_0) [(0, .slice ad_0 s2.length cp_0)] 3 [none] rfl rfl rfl rfl rfl rfl fun G a w S => ?_
    refine sMove (.slice ad_0 s2.length cp_0) S (wN rfl) (.inl rfl) rfl rfl (lb rfl) fun a S => ?_
    exact leafL ⟨rfl, S⟩
  · refine fI 17 (iv s4) [(3, iv s4)] 4 [none] rfl rfl rfl rfl rfl rfl fun G a w S => ?_
    refine sMove (iv s4) S (wN rfl) (.inl rfl) rfl rfl (lb rfl) fun a S => ?_
    exact leafL ⟨rfl, S⟩
  · refine fI 27 q44 [(16, .slice ad_0 s2.length cp_0), (17, iv s4)] 0 [some 3, some 4] rfl rfl rfl rfl rfl rfl fun G a w S => ?_
    refine sIdxV (v := .slice ad_0 s2.length cp_0) (k := .i64) (j := s4) S (wN rfl) rfl rfl rfl hq45 rfl (lb rfl) fun a S => ?_
    exact leafL ⟨rfl, S⟩
  refine ⟨_, [(25, iv x18), (27, q44)], rfl, (srcs_of [some 12, some 0] rfl rfl rfl), fun G a w S => ?_⟩
  refine sStoreR (r := (rI .i64)) (T := 3) (xs := l26) (ys := l33) (y := x18) (v := .slice ad_0 s2.length cp_0) (vq := q44) (u := iv x18) (j := s4) 0 S hp46 (wN rfl) rfl rfl rfl rfl rfl hx34 rfl rfl fun a w S => ?_
  refine leafL ⟨rfl, _, _, .inr ⟨[], rfl, S, hz_of rfl, ?_⟩⟩
  refine node_by (A := anc_slices_Reverse___int_int__s0_0) (nf := [13, 15]) (Y := [15, 13]) 16 (by kernel_rfl) (by kernel_rfl) (by kernel_rfl) (by kernel_rfl) (by kernel_rfl) [14, 0, 1, 2, 3, 4, 5, 6, 7, 8, 9, 10, 11, 12] (by kernel_rfl) (by decide) (by decide) (aD 0 15 15 (by decide) (aD 1 14 15 (by decide) (aD 2 13 15 (by decide) (aD 3 12 15 (by decide) (aD 4 11 15 (by decide) (aD 5 10 15 (by decide) (aD 6 9 15 (by decide) (aD 7 8 15 (by decide) (aD 8 7 15 (by decide) (aD 9 6 15 (by decide) (aD 10 5 15 (by decide) (aD 11 4 15 (by decide) (aD 12 3 15 (by decide) (aY 13 2 (by decide) (aD 14 1 15 (by decide) (aY 15 0 (by decide) (trivial))))))))))))))))) [(0, .slice ad_0 s2.length cp_0), (2, iv s3), (3, iv s4)] (fin_of [none, none, none] rfl (by kernel_rfl) (by kernel_rfl)) (fun _ a w S => ?_)
  rw [setO_v hx27 ad_0 cp_0] at S
  rw [setO_v hx34 ad_0 cp_0] at S
  refine leafB (leafT (hK12 _ _ ?_))
  refine sRegion ?_
  refine sMove (iv s3) S (wN rfl) (.inl rfl) rfl rfl (lb rfl) fun a S => ?_
  refine sBin (iv (w64 (s3 + 1))) S (wN rfl) rfl rfl rfl (bAdd _ _ _ _ s3 1) rfl (lb rfl) fun a S => ?_
  refine sMove (iv s4) S (wN rfl) (.inl rfl) rfl rfl (lb rfl) fun a S => ?_
  refine sBin (iv (w64 (s4 - 1))) S (wN rfl) rfl rfl rfl (bSub _ _ _ _ s4 1) rfl (lb rfl) fun a S => ?_
  refine sMove (iv (w64 (s3 + 1))) S (wN rfl) (.inr rfl) rfl rfl (lb rfl) fun a S => ?_
  refine sMove (iv (w64 (s4 - 1))) S (wN rfl) (.inr rfl) rfl rfl (lb rfl) fun a S => ?_
  exact leafL (leafT (⟨(l33, w64 (s3 + 1), w64 (s4 - 1)), (Option.some.inj h).symm, (S.fix [0] [] (by decide) rfl rfl rfl)⟩))

end Go.Proofs.Yticjoiolfibmlaa
namespace Go.Proofs.Yticjoiolfibmlaa
open Go.RowKit
set_option linter.unusedVariables false

noncomputable def F_slices_Clone___int_int__s0 (p0 : (List Int)) : Option (List Int) :=
  Option.bind (appO ([] : List Int) p0) fun l12 =>
  some l12
set_option maxHeartbeats 4000000 in
set_option maxRecDepth 100000 in
theorem c_slices_Clone___int_int__s0 (E : Nat → Prop) (w0 : World) (p0 : (List Int)) (v0 : Value) (r : (List Int)) (h : F_slices_Clone___int_int__s0 p0 = some r) (S : St0 E [] w0 w0 [] [fRep (rL (rI .i64)) (v0) p0]) :
    Calls Try.prog 60 #[v0] w0 (Ret (X := Option Addr × Nat) E [] w0 (fun x => .slice x.1 r.length x.2) (fun x => [eRow (rI .i64) 3 (.slice x.1 r.length x.2) r]) (fun _ => [])) := by
  unfold F_slices_Clone___int_int__s0 at h
  obtain ⟨ad1, cp2, _, rfl, _⟩ := S.know (i := 0) (e := fRep (rL (rI .i64)) (v0) p0) rfl
  refine sEnter (args := [.slice ad1 p0.length cp2]) 8 Try.func60 rfl rfl (by simp) S (fun a S => ?_)
  refine sSeq (fun K3 hK3 => ?_)
  refine sRegion ?_
  refine sMove (.slice none 0 0) S (wN rfl) (.inr rfl) rfl rfl (lb rfl) fun a S => ?_
  refine leafL (leafT (hK3 _ _ ?_))
  refine sSeq (fun K4 hK4 => ?_)
  refine sSeq (fun K5 hK5 => ?_)
  refine sRegion ?_
  refine sMove (.slice ad1 p0.length cp2) S (wN rfl) (.inl rfl) rfl rfl (lb rfl) fun a S => ?_
  refine sBin (.bool ad1.isNone) S (wN rfl) rfl rfl rfl (bEqNil _ _ _ _ Try.underlying32 ad1 (p0.length) (cp2)) rfl (lb rfl) fun a S => ?_
  refine leafL (leafT (hK5 _ _ ?_))
  rcases nil_cases ad1 with hc6 | hc6
  · have hz7 := rL_isNil (S.mem.know (i := 0) (e := fRep (rL (rI .i64)) (.slice ad1 p0.length cp2) p0) rfl) hc6
    rw [hz7] at h
    have h : some ([] : (List Int)) = some r := h
    refine sCondT S rfl hc6 ?_
    refine sSeq (fun K8 hK8 => ?_)
    refine sRegion ?_
    refine sMove (.slice none 0 0) S (wN rfl) (.inr rfl) rfl rfl (lb rfl) fun a S => ?_
    refine leafL (leafT (hK8 _ _ ?_))
    obtain rfl := Option.some.inj h
    have S := S.nilRow (rI .i64) 3 (α := Int)
    exact wp_ret (rThen (sRet (.slice none 0 0) S (rsl1 rfl (rvT (t := 2) (v := .slice none 0 0) S rfl)) ⟨(none, 0), rfl, S.mem.sel [0] [] (by decide) rfl rfl⟩))
  refine sCondF S rfl hc6 ?_
  refine wp_skip (leafT (hK4 _ _ ?_))
  refine sSeq (fun K9 hK9 => ?_)
  refine sRegion ?_
  refine sLit0 (α := Int) (rI .i64) (T := 3) S (wN rfl) rfl Try.underlying32 rfl rfl (lb rfl) fun a w ad10 cp11 S => ?_
  refine sMove (.slice ad1 p0.length cp2) S (wN rfl) (.inl rfl) rfl rfl (lb rfl) fun a S => ?_
  obtain ⟨l12, hx13, h⟩ := bindSome h
  refine sApp (r := (rI .i64)) (T := 3) (xs := ([] : List Int)) (ys := p0) (v := .slice ad10 ([] : List Int).length cp11) (u := .slice ad1 p0.length cp2) 0 (iv 0) 8 S (wN rfl) rfl Try.underlying32 rfl rfl (by decide) rfl rfl rfl (src_D 0 S.mem rfl) hx13 rfl (lb rfl) fun a w ad14 cp15 S => ?_
  refine sMove (.slice ad14 l12.length cp15) S (wN rfl) (.inr rfl) rfl rfl (lb rfl) fun a S => ?_
  refine leafL (leafT (hK9 _ _ ?_))
  obtain rfl := Option.some.inj h
  exact wp_ret (sRet (.slice ad14 l12.length cp15) S (rsl1 rfl (rvT (t := 2) (v := .slice ad14 l12.length cp15) S rfl)) ⟨(ad14, cp15), rfl, S.mem.sel [0] [] (by decide) rfl rfl⟩)

end Go.Proofs.Yticjoiolfibmlaa
namespace Go.Proofs.Yticjoiolfibmlaa
open Go.RowKit
set_option linter.unusedVariables false

def anc_slices_Reverse___int_int__s1_0 : List (List Nat) := [[], [], [], [], [], [], [4, 5], [4, 5, 6], [], [], [8, 9], [8, 9, 10], [0, 1, 4, 5, 6, 7, 8, 9, 10, 11], [0, 1, 4, 5, 6, 7, 8, 9, 10, 11, 12], [0, 1, 2, 3, 4, 5, 6, 7, 8, 9, 10, 11, 12, 13], [0, 1, 2, 3, 4, 5, 6, 7, 8, 9, 10, 11, 12, 13, 14]]
noncomputable def slices_Reverse___int_int__s1_l1  : (Int × Int × Int × Int) → Option ((Int × Int × Int × Int) ⊕ (Int × Int)) := fun s0 => match s0 with
  | (s2, s3, s4, s5) =>
    if decide (s2 < s3) then
      Option.bind (idxO ([s4, s5] : List Int) s3) fun x15 =>
      Option.bind (idxO ([s4, s5] : List Int) s2) fun x17 =>
      Option.bind (idxO ([(if s2 = 0 then x15 else s4), (if s2 = 1 then x15 else s5)] : List Int) s3) fun x20 =>
      some (.inl (w64 (s2 + 1), w64 (s3 - 1), (if s3 = 0 then x17 else (if s2 = 0 then x15 else s4)), (if s3 = 1 then x17 else (if s2 = 1 then x15 else s5))))
    else
      some (.inr (s4, s5))
noncomputable def F_slices_Reverse___int_int__s1 (p0 : (Int × Int)) : Option (Int × Int) :=
  Option.bind (whileO (slices_Reverse___int_int__s1_l1) (0, w64 (((2 : Nat) : Int) - 1), p0.1, p0.2)) fun (e9, e10) =>
    some (e9, e10)
set_option maxHeartbeats 4000000 in
set_option maxRecDepth 100000 in
theorem c_slices_Reverse___int_int__s1 (E : Nat → Prop) (w0 : World) (p0 : (Int × Int)) (bb0 : Nat) (r : (Int × Int)) (h : F_slices_Reverse___int_int__s1 p0 = some r) (S : St0 E (keysL [eBox bb0 49 [iv p0.1, iv p0.2]]) w0 w0 [eBox bb0 49 [iv p0.1, iv p0.2]] []) :
    Calls Try.prog 59 #[.slice (some ⟨bb0, 0, none⟩) 2 2] w0 (Ret (X := Unit) E (keysL [eBox bb0 49 [iv p0.1, iv p0.2]]) w0 (fun _ => .tuple #[]) (fun _ => [eBox bb0 49 [iv r.1, iv r.2]]) (fun _ => [])) := by
  unfold F_slices_Reverse___int_int__s1 at h
  refine sEnter (args := [.slice (some ⟨bb0, 0, none⟩) 2 2]) 28 Try.func59 rfl rfl (by simp) S (fun a S => ?_)
  refine sSeq (fun K1 hK1 => ?_)
  refine sRegion ?_
  refine sMove (.slice (some ⟨bb0, 0, none⟩) 2 2) S (wN rfl) (.inl rfl) rfl rfl (lb rfl) fun a S => ?_
  refine sLen (ad := some ⟨bb0, 0, none⟩) (m := 2) (c := 2) S (wN rfl) rfl Try.underlying32 rfl rfl (lb rfl) fun a S => ?_
  refine sBin (iv (w64 (((2 : Nat) : Int) - 1))) S (wN rfl) rfl rfl rfl (bSub _ _ _ _ ((2 : Nat) : Int) 1) rfl (lb rfl) fun a S => ?_
  refine sMove (iv 0) S (wN rfl) (.inr rfl) rfl rfl (lb rfl) fun a S => ?_
  refine sMove (iv (w64 (((2 : Nat) : Int) - 1))) S (wN rfl) (.inr rfl) rfl rfl (lb rfl) fun a S => ?_
  refine leafL (leafT (hK1 _ _ ?_))
  refine wp_block ?_
  obtain ⟨t8, hl, g7⟩ := bindSome h
  refine sLoop hl (fun s0 a w => match s0 with | (s2, s3, s4, s5) => St [] E (keysL [eBox bb0 49 [iv p0.1, iv p0.2]]) w0 28 a w [(0, .slice (some ⟨bb0, 0, none⟩) 2 2), (2, iv s2), (3, iv s3)] [eBox bb0 49 [iv s4, iv s5]] []) (S.fix [0] [] (by decide) rfl rfl rfl) ?_
  clear hl h
  intro s0 a w c0 hI h hu6
  obtain ⟨s2, s3, s4, s5⟩ := s0
  unfold slices_Reverse___int_int__s1_l1 at h
  dsimp only at h hI
  have S := hI
  refine sSeq (fun K11 hK11 => ?_)
  refine sSeq (fun K12 hK12 => ?_)
  refine sRegion ?_
  refine sMove (iv s2) S (wN rfl) (.inl rfl) rfl rfl (lb rfl) fun a S => ?_
  refine sMove (iv s3) S (wN rfl) (.inl rfl) rfl rfl (lb rfl) fun a S => ?_
  refine sBin (.bool (decide (s2 < s3))) S (wN rfl) rfl rfl rfl (bLt _ _ _ _ .i64 s2 s3) rfl (lb rfl) fun a S => ?_
  refine leafL (leafT (hK12 _ _ ?_))
  rcases iteSome h with ⟨hc13, h⟩ | ⟨hc13, h⟩
  rotate_left
  · refine sCondF S rfl hc13 ?_
    obtain rfl := Option.some.inj h
    obtain rfl := hu6 _ rfl
    have h := g7
    clear g7
    try dsimp only at h
    obtain rfl := Option.some.inj h
    exact wp_exit (xThen (xThen (xHit (sEnd (.tuple #[]) S (rsl0 rfl ) ⟨(), rfl, S.mem.sel [0] [] (by decide) rfl rfl⟩))))
  refine sCondT S rfl hc13 ?_
  refine wp_skip (leafT (hK11 _ _ ?_))
  refine sSeq (fun K14 hK14 => ?_)
  refine wp_block ?_
  obtain ⟨x15, hx16, h⟩ := bindSome h
  obtain ⟨x17, hx18, h⟩ := bindSome h
  obtain ⟨x20, hx21, h⟩ := bindSome h
  refine sDraw (nf := [13, 15]) (W := [(0, 14, .slice (some ⟨bb0, 0, none⟩) 2 2), (1, 15, iv s2), (2, 16, .slice (some ⟨bb0, 0, none⟩) 2 2), (3, 17, iv s3), (4, 18, .slice (some ⟨bb0, 0, none⟩) 2 2), (5, 19, iv s3), (6, 20, .pointer (some ⟨bb0, 0 + (s3).toNat * 1, none⟩)), (7, 21, iv x15), (8, 22, .slice (some ⟨bb0, 0, none⟩) 2 2), (9, 23, iv s2), (10, 24, .pointer (some ⟨bb0, 0 + (s2).toNat * 1, none⟩)), (11, 25, iv x17), (12, 26, .pointer (some ⟨bb0, 0 + (s2).toNat * 1, none⟩))]) rfl S ?_
  refine node_by (A := anc_slices_Reverse___int_int__s1_0) (nf := [13, 15]) (Y := []) (W := [(0, 14, .slice (some ⟨bb0, 0, none⟩) 2 2), (1, 15, iv s2), (2, 16, .slice (some ⟨bb0, 0, none⟩) 2 2), (3, 17, iv s3), (4, 18, .slice (some ⟨bb0, 0, none⟩) 2 2), (5, 19, iv s3), (6, 20, .pointer (some ⟨bb0, 0 + (s3).toNat * 1, none⟩)), (7, 21, iv x15), (8, 22, .slice (some ⟨bb0, 0, none⟩) 2 2), (9, 23, iv s2), (10, 24, .pointer (some ⟨bb0, 0 + (s2).toNat * 1, none⟩)), (11, 25, iv x17), (12, 26, .pointer (some ⟨bb0, 0 + (s2).toNat * 1, none⟩))]) 16 (by kernel_rfl) (by kernel_rfl) (by kernel_rfl) (by kernel_rfl) (by kernel_rfl) [0, 1, 2, 3, 4, 5, 6, 7, 8, 9, 10, 11, 12] (by kernel_rfl) (by decide) (by decide) (aF 0 15 (by decide) ?_ (aF 1 14 (by decide) ?_ (aF 2 13 (by decide) ?_ (aF 3 12 (by decide) ?_ (aF 4 11 (by decide) ?_ (aF 5 10 (by decide) ?_ (aF 6 9 (by decide) ?_ (aF 7 8 (by decide) ?_ (aF 8 7 (by decide) ?_ (aF 9 6 (by decide) ?_ (aF 10 5 (by decide) ?_ (aF 11 4 (by decide) ?_ (aF 12 3 (by decide) ?_ (aN 13 2 (by decide) ?_ (aE 14 1 13 (by decide) (aB 15 0 13 (by decide) (trivial))))))))))))))))) [] (fun q hq => by cases hq) (fun hY => absurd (hY 13 (by decide)) (by decide))
  · refine fI 14 (.slice (some ⟨bb0, 0, none⟩) 2 2) [(0, .slice (some ⟨bb0, 0, none⟩) 2 2)] 0 [none] rfl rfl rfl rfl rfl rfl fun G a w S => ?_
    refine sMove (.slice (some ⟨bb0, 0, none⟩) 2 2) S (wN rfl) (.inl rfl) rfl rfl (lb rfl) fun a S => ?_
    exact leafL ⟨rfl, S⟩
  · refine fI 15 (iv s2) [(2, iv s2)] 1 [none] rfl rfl rfl rfl rfl rfl fun G a w S => ?_
    refine sMove (iv s2) S (wN rfl) (.inl rfl) rfl rfl (lb rfl) fun a S => ?_
    exact leafL ⟨rfl, S⟩
  · refine fI 16 (.slice (some ⟨bb0, 0, none⟩) 2 2) [(0, .slice (some ⟨bb0, 0, none⟩) 2 2)] 2 [none] rfl rfl rfl rfl rfl rfl fun G a w S => ?_
    refine sMove (.slice (some ⟨bb0, 0, none⟩) 2 2) S (wN rfl) (.inl rfl) rfl rfl (lb rfl) fun a S => ?_
    exact leafL ⟨rfl, S⟩
  · refine fI 17 (iv s3) [(3, iv s3)] 3 [none] rfl rfl rfl rfl rfl rfl fun G a w S => ?_
    refine sMove (iv s3) S (wN rfl) (.inl rfl) rfl rfl (lb rfl) fun a S => ?_
    exact leafL ⟨rfl, S⟩
  · refine fI 18 (.slice (some ⟨bb0, 0, none⟩) 2 2) [(0, .slice (some ⟨bb0, 0, none⟩) 2 2)] 4 [none] rfl rfl rfl rfl rfl rfl fun G a w S => ?_
    refine sMove (.slice (some ⟨bb0, 0, none⟩) 2 2) S (wN rfl) (.inl rfl) rfl rfl (lb rfl) fun a S => ?_
    exact leafL ⟨rfl, S⟩
  · refine fI 19 (iv s3) [(3, iv s3)] 5 [none] rfl rfl rfl rfl rfl rfl fun G a w S => ?_
    refine sMove (iv s3) S (wN rfl) (.inl rfl) rfl rfl (lb rfl) fun a S => ?_
    exact leafL ⟨rfl, S⟩
  · refine fI 20 (.pointer (some ⟨bb0, 0 + (s3).toNat * 1, none⟩)) [(18, .slice (some ⟨bb0, 0, none⟩) 2 2), (19, iv s3)] 6 [some 4, some 5] rfl rfl rfl rfl rfl rfl fun G a w S => ?_
    refine sIdxV (v := .slice (some ⟨bb0, 0, none⟩) 2 2) (k := .i64) (j := s3) (q := .pointer (some ⟨bb0, 0 + (s3).toNat * 1, none⟩)) S (wN rfl) rfl rfl rfl (idxV_bsl (m := 2) (c := 2) (sz := 1) Try.underlying32 rfl (idxO_rng (m := 2) hx16 rfl).1 (idxO_rng (m := 2) hx16 rfl).2 0) rfl (lb rfl) fun a S => ?_
    exact leafL ⟨rfl, S⟩
  · refine fI 21 (iv x15) [(20, .pointer (some ⟨bb0, 0 + (s3).toNat * 1, none⟩))] 7 [some 6] rfl rfl rfl rfl rfl rfl fun G a w S => ?_
    refine sLoad1 (p := bb0) (off := 0 + (s3).toNat * 1) (T := 49) (vs := [iv s4, iv s5]) 0 (iv x15) S (wN rfl) rfl rfl rfl rfl (box_at (g := (fun z => .int .i64 z)) [] [] 0 hx16 rfl rfl) rfl (lb rfl) fun a S => ?_
    exact leafL ⟨rfl, S⟩
  · refine fI 22 (.slice (some ⟨bb0, 0, none⟩) 2 2) [(0, .slice (some ⟨bb0, 0, none⟩) 2 2)] 8 [none] rfl rfl rfl rfl rfl rfl fun G a w S => ?_
    refine sMove (.slice (some ⟨bb0, 0, none⟩) 2 2) S (wN rfl) (.inl rfl) rfl rfl (lb rfl) fun a S => ?_
    exact leafL ⟨rfl, S⟩
  · refine fI 23 (iv s2) [(2, iv s2)] 9 [none] rfl rfl rfl rfl rfl rfl fun G a w S => ?_
    refine sMove (iv s2) S (wN rfl) (.inl rfl) rfl rfl (lb rfl) fun a S => ?_
    exact leafL ⟨rfl, S⟩
  · refine fI 24 (.pointer (some ⟨bb0, 0 + (s2).toNat * 1, none⟩)) [(22, .slice (some ⟨bb0, 0, none⟩) 2 2), (23, iv s2)] 10 [some 8, some 9] rfl rfl rfl rfl rfl rfl fun G a w S => ?_
    refine sIdxV (v := .slice (some ⟨bb0, 0, none⟩) 2 2) (k := .i64) (j := s2) (q := .pointer (some ⟨bb0, 0 + (s2).toNat * 1, none⟩)) S (wN rfl) rfl rfl rfl (idxV_bsl (m := 2) (c := 2) (sz := 1) Try.underlying32 rfl (idxO_rng (m := 2) hx18 rfl).1 (idxO_rng (m := 2) hx18 rfl).2 0) rfl (lb rfl) fun a S => ?_
    exact leafL ⟨rfl, S⟩
  · refine fI 25 (iv x17) [(24, .pointer (some ⟨bb0, 0 + (s2).toNat * 1, none⟩))] 11 [some 10] rfl rfl rfl rfl rfl rfl fun G a w S => ?_
    refine sLoad1 (p := bb0) (off := 0 + (s2).toNat * 1) (T := 49) (vs := [iv s4, iv s5]) 0 (iv x17) S (wN rfl) rfl rfl rfl rfl (box_at (g := (fun z => .int .i64 z)) [] [] 0 hx18 rfl rfl) rfl (lb rfl) fun a S => ?_
    exact leafL ⟨rfl, S⟩
  · refine fI 26 (.pointer (some ⟨bb0, 0 + (s2).toNat * 1, none⟩)) [(14, .slice (some ⟨bb0, 0, none⟩) 2 2), (15, iv s2)] 12 [some 0, some 1] rfl rfl rfl rfl rfl rfl fun G a w S => ?_
    refine sIdxV (v := .slice (some ⟨bb0, 0, none⟩) 2 2) (k := .i64) (j := s2) (q := .pointer (some ⟨bb0, 0 + (s2).toNat * 1, none⟩)) S (wN rfl) rfl rfl rfl (idxV_bsl (m := 2) (c := 2) (sz := 1) Try.underlying32 rfl (idxO_rng (m := 2) hx18 rfl).1 (idxO_rng (m := 2) hx18 rfl).2 0) rfl (lb rfl) fun a S => ?_
    exact leafL ⟨rfl, S⟩
  refine ⟨_, [(21, iv x15), (26, .pointer (some ⟨bb0, 0 + (s2).toNat * 1, none⟩))], rfl, (srcs_of [some 7, some 12] rfl rfl rfl), fun G a w S => ?_⟩
  refine sStore (p := bb0) (off := 0 + (s2).toNat * 1) (T := 49) (vs := [iv s4, iv s5]) (v := iv x15) 0 [iv x15] S (wN rfl) rfl rfl rfl rfl rfl rfl rfl (by have hq := idxO_rng (m := 2) hx18 rfl; simp; omega) rfl fun a w S => ?_
  have ho23 : over [iv s4, iv s5] (0 + (s2).toNat * 1) [iv x15] = [iv (if s2 = 0 then x15 else s4), iv (if s2 = 1 then x15 else s5)] := over_at (g := (fun z => .int .i64 z)) (xs := ([s4, s5] : List Int)) (y := x15) [] [] 0 hx18 rfl rfl rfl rfl
  rw [ho23] at S
  refine leafL ⟨rfl, _, _, .inr ⟨[(14, 27, .pointer (some ⟨bb0, 0 + (s3).toNat * 1, none⟩))], rfl, S, hz_of rfl, ?_⟩⟩
  refine node_by (A := anc_slices_Reverse___int_int__s1_0) (nf := [13, 15]) (Y := [13]) 16 (by kernel_rfl) (by kernel_rfl) (by kernel_rfl) (by kernel_rfl) (by kernel_rfl) [14, 0, 1, 2, 3, 4, 5, 6, 7, 8, 9, 10, 11, 12] (by kernel_rfl) (by decide) (by decide) (aD 0 15 13 (by decide) (aD 1 14 13 (by decide) (aF 2 13 (by decide) ?_ (aF 3 12 (by decide) ?_ (aD 4 11 13 (by decide) (aD 5 10 13 (by decide) (aD 6 9 13 (by decide) (aD 7 8 13 (by decide) (aD 8 7 13 (by decide) (aD 9 6 13 (by decide) (aD 10 5 13 (by decide) (aD 11 4 13 (by decide) (aD 12 3 13 (by decide) (aY 13 2 (by decide) (aF 14 1 (by decide) ?_ (aN 15 0 (by decide) ?_ (trivial))))))))))))))))) [] (fun q hq => by cases hq) (fun hY => absurd (hY 15 (by decide)) (by decide))
  · refine fI 16 (.slice (some ⟨bb0, 0, none⟩) 2 2) [(0, .slice (some ⟨bb0, 0, none⟩) 2 2)] 3 [none] rfl rfl rfl rfl rfl rfl fun G a w S => ?_
    refine sMove (.slice (some ⟨bb0, 0, none⟩) 2 2) S (wN rfl) (.inl rfl) rfl rfl (lb rfl) fun a S => ?_
    exact leafL ⟨rfl, S⟩
  · refine fI 17 (iv s3) [(3, iv s3)] 4 [none] rfl rfl rfl rfl rfl rfl fun G a w S => ?_
    refine sMove (iv s3) S (wN rfl) (.inl rfl) rfl rfl (lb rfl) fun a S => ?_
    exact leafL ⟨rfl, S⟩
  · refine fI 27 (.pointer (some ⟨bb0, 0 + (s3).toNat * 1, none⟩)) [(16, .slice (some ⟨bb0, 0, none⟩) 2 2), (17, iv s3)] 0 [some 3, some 4] rfl rfl rfl rfl rfl rfl fun G a w S => ?_
    refine sIdxV (v := .slice (some ⟨bb0, 0, none⟩) 2 2) (k := .i64) (j := s3) (q := .pointer (some ⟨bb0, 0 + (s3).toNat * 1, none⟩)) S (wN rfl) rfl rfl rfl (idxV_bsl (m := 2) (c := 2) (sz := 1) Try.underlying32 rfl (idxO_rng (m := 2) hx21 rfl).1 (idxO_rng (m := 2) hx21 rfl).2 0) rfl (lb rfl) fun a S => ?_
    exact leafL ⟨rfl, S⟩
  refine ⟨_, [(25, iv x17), (27, .pointer (some ⟨bb0, 0 + (s3).toNat * 1, none⟩))], rfl, (srcs_of [some 12, some 0] rfl rfl rfl), fun G a w S => ?_⟩
  refine sStore (p := bb0) (off := 0 + (s3).toNat * 1) (T := 49) (vs := [iv (if s2 = 0 then x15 else s4), iv (if s2 = 1 then x15 else s5)]) (v := iv x17) 0 [iv x17] S (wN rfl) rfl rfl rfl rfl rfl rfl rfl (by have hq := idxO_rng (m := 2) hx21 rfl; simp; omega) rfl fun a w S => ?_
  have ho24 : over [iv (if s2 = 0 then x15 else s4), iv (if s2 = 1 then x15 else s5)] (0 + (s3).toNat * 1) [iv x17] = [iv (if s3 = 0 then x17 else (if s2 = 0 then x15 else s4)), iv (if s3 = 1 then x17 else (if s2 = 1 then x15 else s5))] := over_at (g := (fun z => .int .i64 z)) (xs := ([(if s2 = 0 then x15 else s4), (if s2 = 1 then x15 else s5)] : List Int)) (y := x17) [] [] 0 hx21 rfl rfl rfl rfl
  rw [ho24] at S
  refine leafL ⟨rfl, _, _, .inr ⟨[], rfl, S, hz_of rfl, ?_⟩⟩
  refine node_by (A := anc_slices_Reverse___int_int__s1_0) (nf := [13, 15]) (Y := [15, 13]) 16 (by kernel_rfl) (by kernel_rfl) (by kernel_rfl) (by kernel_rfl) (by kernel_rfl) [14, 0, 1, 2, 3, 4, 5, 6, 7, 8, 9, 10, 11, 12] (by kernel_rfl) (by decide) (by decide) (aD 0 15 15 (by decide) (aD 1 14 15 (by decide) (aD 2 13 15 (by decide) (aD 3 12 15 (by decide) (aD 4 11 15 (by decide) (aD 5 10 15 (by decide) (aD 6 9 15 (by decide) (aD 7 8 15 (by decide) (aD 8 7 15 (by decide) (aD 9 6 15 (by decide) (aD 10 5 15 (by decide) (aD 11 4 15 (by decide) (aD 12 3 15 (by decide) (aY 13 2 (by decide) (aD 14 1 15 (by decide) (aY 15 0 (by decide) (trivial))))))))))))))))) [(0, .slice (some ⟨bb0, 0, none⟩) 2 2), (2, iv s2), (3, iv s3)] (fin_of [none, none, none] rfl (by kernel_rfl) (by kernel_rfl)) (fun _ a w S => ?_)
  refine leafB (leafT (hK14 _ _ ?_))
  refine sRegion ?_
  refine sMove (iv s2) S (wN rfl) (.inl rfl) rfl rfl (lb rfl) fun a S => ?_
  refine sBin (iv (w64 (s2 + 1))) S (wN rfl) rfl rfl rfl (bAdd _ _ _ _ s2 1) rfl (lb rfl) fun a S => ?_
  refine sMove (iv s3) S (wN rfl) (.inl rfl) rfl rfl (lb rfl) fun a S => ?_
  refine sBin (iv (w64 (s3 - 1))) S (wN rfl) rfl rfl rfl (bSub _ _ _ _ s3 1) rfl (lb rfl) fun a S => ?_
  refine sMove (iv (w64 (s2 + 1))) S (wN rfl) (.inr rfl) rfl rfl (lb rfl) fun a S => ?_
  refine sMove (iv (w64 (s3 - 1))) S (wN rfl) (.inr rfl) rfl rfl (lb rfl) fun a S => ?_
  exact leafL (leafT (⟨(w64 (s2 + 1), w64 (s3 - 1), (if s3 = 0 then x17 else (if s2 = 0 then x15 else s4)), (if s3 = 1 then x17 else (if s2 = 1 then x15 else s5))), (Option.some.inj h).symm, (S.fix [0] [] (by decide) rfl rfl rfl)⟩))

end Go.Proofs.Yticjoiolfibmlaa
namespace Go.Proofs.Yticjoiolfibmlaa
open Go.RowKit
set_option linter.unusedVariables false

noncomputable def F_slices_Grow___int_int__s1 (p0 : Int) : Option (List Int) :=
  if decide (p0 < 0) then
    none
  else
    Option.bind (α := List Int) (
      if decide (0 < (w64 (p0 - (w64 ((0 : Int) - 0))))) then
        Option.bind (appZ (w64 (p0 - (w64 ((0 : Int) - 0)))) (0 : Int)) fun m15 =>
        Option.bind (sliceO m15 0 0) fun y17 =>
        some y17
      else
        some ([] : List Int)) fun o5 =>
    some o5
set_option maxHeartbeats 4000000 in
set_option maxRecDepth 100000 in
theorem c_slices_Grow___int_int__s1 (E : Nat → Prop) (w0 : World) (p0 : Int) (r : (List Int)) (h : F_slices_Grow___int_int__s1 p0 = some r) (S : St0 E [] w0 w0 [] []) :
    Calls Try.prog 74 #[.slice none 0 0, iv p0] w0 (Ret (X := Option Addr × Nat) E [] w0 (fun x => .slice x.1 r.length x.2) (fun x => [eRow (rI .i64) 3 (.slice x.1 r.length x.2) r]) (fun _ => [])) := by
  unfold F_slices_Grow___int_int__s1 at h
  refine sEnter (args := [.slice none 0 0, iv p0]) 27 Try.func74 rfl rfl (by simp) S (fun a S => ?_)
  refine sSeq (fun K1 hK1 => ?_)
  refine sRegion ?_
  refine sMove (.slice none 0 0) S (wN rfl) (.inr rfl) rfl rfl (lb rfl) fun a S => ?_
  refine leafL (leafT (hK1 _ _ ?_))
  refine sSeq (fun K2 hK2 => ?_)
  refine sSeq (fun K3 hK3 => ?_)
  refine sRegion ?_
  refine sMove (iv p0) S (wN rfl) (.inl rfl) rfl rfl (lb rfl) fun a S => ?_
  refine sBin (.bool (decide (p0 < 0))) S (wN rfl) rfl rfl rfl (bLt _ _ _ _ .i64 p0 0) rfl (lb rfl) fun a S => ?_
  refine leafL (leafT (hK3 _ _ ?_))
  rcases iteSome h with ⟨hc4, h⟩ | ⟨hc4, h⟩
  · refine sCondT S rfl hc4 ?_
    refine sRegion ?_
    cases h
  refine sCondF S rfl hc4 ?_
  refine wp_skip (leafT (hK2 _ _ ?_))
  obtain ⟨t8, h, g9⟩ := bindSome h
  refine sCut (fun a w => ∃ o5, o5 = t8 ∧ ∃ ad6, ∃ cp7, St [] E [] w0 27 a w [(0, .slice ad6 o5.length cp7)] [eRow (rI .i64) 3 (.slice ad6 o5.length cp7) o5] []) ?_ (fun a w hI => ?_)
  rotate_left
  · obtain ⟨o5, rfl, ad6, cp7, S⟩ := hI
    have h := g9
    clear g9
    try dsimp only at h
    refine sSeq (fun K19 hK19 => ?_)
    refine sRegion ?_
    refine sMove (.slice ad6 o5.length cp7) S (wN rfl) (.inl rfl) rfl rfl (lb rfl) fun a S => ?_
    refine sMove (.slice ad6 o5.length cp7) S (wN rfl) (.inr rfl) rfl rfl (lb rfl) fun a S => ?_
    refine leafL (leafT (hK19 _ _ ?_))
    obtain rfl := Option.some.inj h
    exact wp_ret (sRet (.slice ad6 o5.length cp7) S (rsl1 rfl (rvT (t := 4) (v := .slice ad6 o5.length cp7) S rfl)) ⟨(ad6, cp7), rfl, S.mem.sel [0] [] (by decide) rfl rfl⟩)
  refine sSeq (fun K10 hK10 => ?_)
  refine sRegion ?_
  refine sMove (iv p0) S (wN rfl) (.inl rfl) rfl rfl (lb rfl) fun a S => ?_
  refine sMove (.slice none 0 0) S (wN rfl) (.inl rfl) rfl rfl (lb rfl) fun a S => ?_
  refine sCapNil S (wN rfl) rfl Try.underlying32 rfl rfl (lb rfl) fun a S => ?_
  refine sMove (.slice none 0 0) S (wN rfl) (.inl rfl) rfl rfl (lb rfl) fun a S => ?_
  refine sLen (ad := none) (m := 0) (c := 0) S (wN rfl) rfl Try.underlying32 rfl rfl (lb rfl) fun a S => ?_
  refine sBin (iv (w64 ((0 : Int) - 0))) S (wN rfl) rfl rfl rfl (bSub _ _ _ _ 0 0) rfl (lb rfl) fun a S => ?_
  refine sBin (iv (w64 (p0 - (w64 ((0 : Int) - 0))))) S (wN rfl) rfl rfl rfl (bSub _ _ _ _ p0 (w64 ((0 : Int) - 0))) rfl (lb rfl) fun a S => ?_
  refine sMove (iv (w64 (p0 - (w64 ((0 : Int) - 0))))) S (wN rfl) (.inr rfl) rfl rfl (lb rfl) fun a S => ?_
  refine leafL (leafT (hK10 _ _ ?_))
  refine sSeq (fun K11 hK11 => ?_)
  refine sRegion ?_
  refine sMove (iv (w64 (p0 - (w64 ((0 : Int) - 0))))) S (wN rfl) (.inl rfl) rfl rfl (lb rfl) fun a S => ?_
  refine sBin (.bool (decide (0 < (w64 (p0 - (w64 ((0 : Int) - 0))))))) S (wN rfl) rfl rfl rfl (bGt _ _ _ _ .i64 (w64 (p0 - (w64 ((0 : Int) - 0)))) 0) rfl (lb rfl) fun a S => ?_
  refine leafL (leafT (hK11 _ _ ?_))
  rcases iteSome h with ⟨hc12, h⟩ | ⟨hc12, h⟩
  rotate_left
  · refine sCondF S rfl hc12 ?_
    have S := S.nilRow (rI .i64) 3 (α := Int)
    exact wp_skip (leafT (⟨([] : List Int), Option.some.inj h, none, 0, S.fix [0] [] (by decide) rfl rfl rfl⟩))
  refine sCondT S rfl hc12 ?_
  refine sRegion ?_
  refine sMove (.slice none 0 0) S (wN rfl) (.inl rfl) rfl rfl (lb rfl) fun a S => ?_
  refine sMove (.slice none 0 0) S (wN rfl) (.inl rfl) rfl rfl (lb rfl) fun a S => ?_
  refine sCapNil S (wN rfl) rfl Try.underlying32 rfl rfl (lb rfl) fun a S => ?_
  refine sSliceNil S (wN rfl) rfl Try.underlying32 rfl rfl rfl rfl (lb rfl) fun a S => ?_
  refine sMove (iv (w64 (p0 - (w64 ((0 : Int) - 0))))) S (wN rfl) (.inl rfl) rfl rfl (lb rfl) fun a S => ?_
  obtain ⟨m15, hx16, h⟩ := bindSome h
  refine sAppZ (r := (rI .i64)) (T := 3) (m := w64 (p0 - (w64 ((0 : Int) - 0)))) (xs := m15) (iv 0) (0 : Int) 8 S (wN rfl) rfl Try.underlying32 Try.underlying3 rfl (by decide) (fun _ _ => rfl) rfl rfl hx16 rfl (lb rfl) rfl fun a w ad13 cp14 S => ?_
  refine sMove (.slice none 0 0) S (wN rfl) (.inl rfl) rfl rfl (lb rfl) fun a S => ?_
  refine sLen (ad := none) (m := 0) (c := 0) S (wN rfl) rfl Try.underlying32 rfl rfl (lb rfl) fun a S => ?_
  obtain ⟨y17, hx18, h⟩ := bindSome h
  refine sSliceT (r := (rI .i64)) (T := 3) (ad := ad13) (c := cp14) (xs := m15) (vlo := none) (vhi := (some (.int .i64 0))) (hi' := 0) 0 S (wN rfl) rfl Try.underlying32 rfl rfl rfl rfl rfl (.inr rfl) (.inl rfl) hx18 rfl (lb rfl) fun a S => ?_
  refine sMove (.slice ad13 y17.length cp14) S (wN rfl) (.inr rfl) rfl rfl (lb rfl) fun a S => ?_
  exact leafL (leafT (⟨y17, Option.some.inj h, ad13, cp14, S.fix [0] [] (by decide) rfl rfl rfl⟩))

end Go.Proofs.Yticjoiolfibmlaa
namespace Go.Proofs.Yticjoiolfibmlaa
open Go.RowKit
set_option linter.unusedVariables false

noncomputable def slices_Concat___int_int__l1 (p0 : (List (List Int))) : (Int × Int) → Option ((Int × Int) ⊕ Int) := fun s0 => match s0 with
  | (s9, s10) =>
    if decide (s10 < (p0.length : Int)) then
      Option.bind (idxO p0 s10) fun x20 =>
      if decide ((w64 (s9 + (x20.length : Int))) < 0) then
        none
      else
        some (.inl (w64 (s9 + (x20.length : Int)), w64 (s10 + 1)))
    else
      some (.inr s9)
noncomputable def slices_Concat___int_int__l2 (p0 : (List (List Int))) : (List Int × Int) → Option ((List Int × Int) ⊕ List Int) := fun s0 => match s0 with
  | (s41, s44) =>
    if decide (s44 < (p0.length : Int)) then
      Option.bind (idxO p0 s44) fun x56 =>
      Option.bind (appO s41 x56) fun l63 =>
      some (.inl (l63, w64 (s44 + 1)))
    else
      some (.inr s41)
noncomputable def F_slices_Concat___int_int_ (p0 : (List (List Int))) : Option (List Int) :=
  Option.bind (α := Int) (
    Option.bind (whileO (slices_Concat___int_int__l1 p0) (0, 0)) fun e14 =>
      some e14) fun o5 =>
  Option.bind (F_slices_Grow___int_int__s1 o5) fun r31 =>
  Option.bind (α := List Int) (
    Option.bind (whileO (slices_Concat___int_int__l2 p0) (r31, 0)) fun e48 =>
      some e48) fun o35 =>
  some o35
def c_slices_Concat___int_int__val (r : (List Int)) (x : Value) : Value := x
def c_slices_Concat___int_int__D (r : (List Int)) (x : Value) : List Fact := [fRep (rL (rI .i64)) x r]
set_option maxHeartbeats 4000000 in
set_option maxRecDepth 100000 in
theorem c_slices_Concat___int_int_ (E : Nat → Prop) (w0 : World) (p0 : (List (List Int))) (v0 : Value) (r : (List Int)) (h : F_slices_Concat___int_int_ p0 = some r) (S : St0 E [] w0 w0 [] [fRep (rL (rL (rI .i64))) (v0) p0]) :
    Calls Try.prog 68 #[v0] w0 (Ret (X := Value) E [] w0 (c_slices_Concat___int_int__val r) (fun _ => []) (c_slices_Concat___int_int__D r)) := by
  unfold F_slices_Concat___int_int_ at h
  obtain ⟨ad1, cp2, _, rfl, _⟩ := S.know (i := 0) (e := fRep (rL (rL (rI .i64))) (v0) p0) rfl
  refine sEnter (args := [.slice ad1 p0.length cp2]) 36 Try.func68 rfl rfl (by simp) S (fun a S => ?_)
  refine sSeq (fun K3 hK3 => ?_)
  refine sRegion ?_
  refine sMove (.slice none 0 0) S (wN rfl) (.inr rfl) rfl rfl (lb rfl) fun a S => ?_
  refine leafL (leafT (hK3 _ _ ?_))
  refine sSeq (fun K4 hK4 => ?_)
  refine sRegion ?_
  refine sMove (iv 0) S (wN rfl) (.inr rfl) rfl rfl (lb rfl) fun a S => ?_
  refine leafL (leafT (hK4 _ _ ?_))
  obtain ⟨t6, h, g7⟩ := bindSome h
  refine sCut (fun a w => ∃ o5, o5 = t6 ∧ St [] E [] w0 36 a w [(0, .slice ad1 p0.length cp2), (3, iv o5)] [] [fRep (rL (rL (rI .i64))) (.slice ad1 p0.length cp2) p0]) ?_ (fun a w hI => ?_)
  · refine sSeq (fun K8 hK8 => ?_)
    refine sRegion ?_
    refine sMove (.slice ad1 p0.length cp2) S (wN rfl) (.inl rfl) rfl rfl (lb rfl) fun a S => ?_
    refine sLen (ad := ad1) (m := p0.length) (c := cp2) S (wN rfl) rfl Try.underlying69 rfl rfl (lb rfl) fun a S => ?_
    refine sMove (iv 0) S (wN rfl) (.inl rfl) rfl rfl (lb rfl) fun a S => ?_
    refine leafL (leafT (hK8 _ _ ?_))
    refine wp_block ?_
    obtain ⟨t13, hl, g12⟩ := bindSome h
    refine sLoop hl (fun s0 a w => match s0 with | (s9, s10) => St [] E [] w0 36 a w [(0, .slice ad1 p0.length cp2), (3, iv s9), (9, .slice ad1 p0.length cp2), (10, iv (p0.length : Int)), (11, iv s10)] [] [fRep (rL (rL (rI .i64))) (.slice ad1 p0.length cp2) p0]) (S.fix [] [0] (by decide) rfl rfl rfl) ?_
    clear hl h
    intro s0 a w c0 hI h hu11
    obtain ⟨s9, s10⟩ := s0
    unfold slices_Concat___int_int__l1 at h
    dsimp only at h hI
    have S := hI
    refine sSeq (fun K15 hK15 => ?_)
    refine sRegion ?_
    refine sBin (.bool (decide (s10 < (p0.length : Int)))) S (wN rfl) rfl rfl rfl (bLt _ _ _ _ .i64 s10 (p0.length : Int)) rfl (lb rfl) fun a S => ?_
    refine leafL (leafT (hK15 _ _ ?_))
    refine sSeq (fun K16 hK16 => ?_)
    rcases iteSome h with ⟨hc17, h⟩ | ⟨hc17, h⟩
    rotate_left
    · refine sCondF S rfl hc17 ?_
      obtain rfl := Option.some.inj h
      obtain rfl := hu11 _ rfl
      have h := g12
      clear g12
      try dsimp only at h
      exact wp_exit (xThen (xThen (xHit (leafT (⟨s9, Option.some.inj h, S.fix [] [0] (by decide) rfl rfl rfl⟩)))))
    refine sCondT S rfl hc17 ?_
    refine wp_skip (leafT (hK16 _ _ ?_))
    refine sSeq (fun K18 hK18 => ?_)
    refine wp_block ?_
    refine sSeq (fun K19 hK19 => ?_)
    refine sRegion ?_
    obtain ⟨x20, hx21, h⟩ := bindSome h
    obtain ⟨q22, hq23, S⟩ := pIdx (P := Try.prog) (r := (rL (rI .i64))) (v := .slice ad1 p0.length cp2) (xs := p0) (j := s10) 69 32 0 S Try.underlying69 rfl rfl hx21
    refine sIdxV (v := .slice ad1 p0.length cp2) (k := .i64) (j := s10) S (wN rfl) rfl rfl rfl hq23 rfl (lb rfl) fun a S => ?_
    obtain ⟨u24, S⟩ := pLoad (r := (rL (rI .i64))) (q := q22) (x := x20) 0 S rfl
    obtain ⟨ad25, cp26, _, rfl, _⟩ := S.mem.know (i := 1) (e := fRep (rL (rI .i64)) (u24) x20) rfl
    refine sLoadV1 (vq := q22) 0 (.slice ad25 x20.length cp26) S (wN rfl) rfl rfl rfl rfl rfl (lb rfl) fun a S => ?_
    refine sMove (.slice ad25 x20.length cp26) S (wN rfl) (.inr rfl) rfl rfl (lb rfl) fun a S => ?_
    refine leafL (leafT (hK19 _ _ ?_))
    refine sSeq (fun K27 hK27 => ?_)
    refine sRegion ?_
    refine sMove (iv s9) S (wN rfl) (.inl rfl) rfl rfl (lb rfl) fun a S => ?_
    refine sMove (.slice ad25 x20.length cp26) S (wN rfl) (.inl rfl) rfl rfl (lb rfl) fun a S => ?_
    refine sLen (ad := ad25) (m := x20.length) (c := cp26) S (wN rfl) rfl Try.underlying32 rfl rfl (lb rfl) fun a S => ?_
    refine sBin (iv (w64 (s9 + (x20.length : Int)))) S (wN rfl) rfl rfl rfl (bAdd _ _ _ _ s9 (x20.length : Int)) rfl (lb rfl) fun a S => ?_
    refine sMove (iv (w64 (s9 + (x20.length : Int)))) S (wN rfl) (.inr rfl) rfl rfl (lb rfl) fun a S => ?_
    refine leafL (leafT (hK27 _ _ ?_))
    refine sSeq (fun K28 hK28 => ?_)
    refine sRegion ?_
    refine sMove (iv (w64 (s9 + (x20.length : Int)))) S (wN rfl) (.inl rfl) rfl rfl (lb rfl) fun a S => ?_
    refine sBin (.bool (decide ((w64 (s9 + (x20.length : Int))) < 0))) S (wN rfl) rfl rfl rfl (bLt _ _ _ _ .i64 (w64 (s9 + (x20.length : Int))) 0) rfl (lb rfl) fun a S => ?_
    refine leafL (leafT (hK28 _ _ ?_))
    rcases iteSome h with ⟨hc29, h⟩ | ⟨hc29, h⟩
    · refine sCondT S rfl hc29 ?_
      refine sRegion ?_
      cases h
    refine sCondF S rfl hc29 ?_
    refine wp_skip (leafB (leafT (hK18 _ _ ?_)))
    refine sRegion ?_
    refine sBin (iv (w64 (s10 + 1))) S (wN rfl) rfl rfl rfl (bAdd _ _ _ _ s10 1) rfl (lb rfl) fun a S => ?_
    refine sMove (iv (w64 (s10 + 1))) S (wN rfl) (.inl rfl) rfl rfl (lb rfl) fun a S => ?_
    exact leafL (leafT (⟨(w64 (s9 + (x20.length : Int)), w64 (s10 + 1)), (Option.some.inj h).symm, (S.fix [] [3] (by decide) rfl rfl rfl)⟩))
  obtain ⟨o5, rfl, S⟩ := hI
  have h := g7
  clear g7
  try dsimp only at h
  refine sSeq (fun K30 hK30 => ?_)
  refine sRegion ?_
  refine sMove (iv o5) S (wN rfl) (.inl rfl) rfl rfl (lb rfl) fun a S => ?_
  obtain ⟨r31, hx32, h⟩ := bindSome h
  refine sCall (X := Option Addr × Nat) (f := 74) (vs := [.slice none 0 0, iv o5]) (val := fun x => .slice x.1 r31.length x.2) (B' := fun x => [eRow (rI .i64) 3 (.slice x.1 r31.length x.2) r31]) (D' := fun _ => []) [] [] [] [] [] S (wN rfl) rfl callee74 rfl (by decide) rfl rfl (fun E1 w1 S1 => c_slices_Grow___int_int__s1 E1 w1 o5 r31 hx32 S1) rfl (lb rfl) fun xx a w S => ?_
  obtain ⟨ad33, cp34⟩ := xx
  dsimp only at S
  refine sMove (.slice ad33 r31.length cp34) S (wN rfl) (.inr rfl) rfl rfl (lb rfl) fun a S => ?_
  refine leafL (leafT (hK30 _ _ ?_))
  obtain ⟨t38, h, g39⟩ := bindSome h
  refine sCut (fun a w => ∃ o35, o35 = t38 ∧ ∃ ad36, ∃ cp37, St [] E [] w0 36 a w [(6, .slice ad36 o35.length cp37)] [eRow (rI .i64) 3 (.slice ad36 o35.length cp37) o35] []) ?_ (fun a w hI => ?_)
  rotate_left
  · obtain ⟨o35, rfl, ad36, cp37, S⟩ := hI
    have h := g39
    clear g39
    try dsimp only at h
    refine sSeq (fun K67 hK67 => ?_)
    refine sRegion ?_
    refine sMove (.slice ad36 o35.length cp37) S (wN rfl) (.inl rfl) rfl rfl (lb rfl) fun a S => ?_
    refine sMove (.slice ad36 o35.length cp37) S (wN rfl) (.inr rfl) rfl rfl (lb rfl) fun a S => ?_
    refine leafL (leafT (hK67 _ _ ?_))
    obtain rfl := Option.some.inj h
    have S := S.shutR (r := (rI .i64)) (T := 3) (v := .slice ad36 o35.length cp37) (xs := o35) 0 rfl
    exact wp_ret (sRet (.slice ad36 o35.length cp37) S (rsl1 rfl (rvT (t := 2) (v := .slice ad36 o35.length cp37) S rfl)) ⟨(.slice ad36 o35.length cp37), rfl, S.mem.sel [] [0] (by decide) rfl rfl⟩)
  refine sSeq (fun K40 hK40 => ?_)
  refine sRegion ?_
  refine sMove (.slice ad1 p0.length cp2) S (wN rfl) (.inl rfl) rfl rfl (lb rfl) fun a S => ?_
  refine sLen (ad := ad1) (m := p0.length) (c := cp2) S (wN rfl) rfl Try.underlying69 rfl rfl (lb rfl) fun a S => ?_
  refine sMove (iv 0) S (wN rfl) (.inl rfl) rfl rfl (lb rfl) fun a S => ?_
  refine leafL (leafT (hK40 _ _ ?_))
  refine wp_block ?_
  obtain ⟨t47, hl, g46⟩ := bindSome h
  refine sLoop hl (fun s0 a w => match s0 with | (s41, s44) => ∃ ad42, ∃ cp43, St [] E [] w0 36 a w [(6, .slice ad42 s41.length cp43), (25, .slice ad1 p0.length cp2), (26, iv (p0.length : Int)), (27, iv s44)] [eRow (rI .i64) 3 (.slice ad42 s41.length cp43) s41] [fRep (rL (rL (rI .i64))) (.slice ad1 p0.length cp2) p0]) ⟨ad33, cp34, S.fix [0] [0] (by decide) rfl rfl rfl⟩ ?_
  clear hl h
  intro s0 a w c0 hI h hu45
  obtain ⟨s41, s44⟩ := s0
  unfold slices_Concat___int_int__l2 at h
  dsimp only at h hI
  obtain ⟨ad42, cp43, S⟩ := hI
  refine sSeq (fun K51 hK51 => ?_)
  refine sRegion ?_
  refine sBin (.bool (decide (s44 < (p0.length : Int)))) S (wN rfl) rfl rfl rfl (bLt _ _ _ _ .i64 s44 (p0.length : Int)) rfl (lb rfl) fun a S => ?_
  refine leafL (leafT (hK51 _ _ ?_))
  refine sSeq (fun K52 hK52 => ?_)
  rcases iteSome h with ⟨hc53, h⟩ | ⟨hc53, h⟩
  rotate_left
  · refine sCondF S rfl hc53 ?_
    obtain rfl := Option.some.inj h
    obtain rfl := hu45 _ rfl
    have h := g46
    clear g46
    try dsimp only at h
    exact wp_exit (xThen (xThen (xHit (leafT (⟨s41, Option.some.inj h, ad42, cp43, S.fix [0] [] (by decide) rfl rfl rfl⟩)))))
  refine sCondT S rfl hc53 ?_
  refine wp_skip (leafT (hK52 _ _ ?_))
  refine sSeq (fun K54 hK54 => ?_)
  refine wp_block ?_
  refine sSeq (fun K55 hK55 => ?_)
  refine sRegion ?_
  obtain ⟨x56, hx57, h⟩ := bindSome h
  obtain ⟨q58, hq59, S⟩ := pIdx (P := Try.prog) (r := (rL (rI .i64))) (v := .slice ad1 p0.length cp2) (xs := p0) (j := s44) 69 32 0 S Try.underlying69 rfl rfl hx57
  refine sIdxV (v := .slice ad1 p0.length cp2) (k := .i64) (j := s44) S (wN rfl) rfl rfl rfl hq59 rfl (lb rfl) fun a S => ?_
  obtain ⟨u60, S⟩ := pLoad (r := (rL (rI .i64))) (q := q58) (x := x56) 0 S rfl
  obtain ⟨ad61, cp62, _, rfl, _⟩ := S.mem.know (i := 1) (e := fRep (rL (rI .i64)) (u60) x56) rfl
  refine sLoadV1 (vq := q58) 0 (.slice ad61 x56.length cp62) S (wN rfl) rfl rfl rfl rfl rfl (lb rfl) fun a S => ?_
  refine sMove (.slice ad61 x56.length cp62) S (wN rfl) (.inr rfl) rfl rfl (lb rfl) fun a S => ?_
  refine leafL (leafT (hK55 _ _ ?_))
  refine sRegion ?_
  refine sMove (.slice ad42 s41.length cp43) S (wN rfl) (.inl rfl) rfl rfl (lb rfl) fun a S => ?_
  refine sMove (.slice ad61 x56.length cp62) S (wN rfl) (.inl rfl) rfl rfl (lb rfl) fun a S => ?_
  obtain ⟨l63, hx64, h⟩ := bindSome h
  refine sApp (r := (rI .i64)) (T := 3) (xs := s41) (ys := x56) (v := .slice ad42 s41.length cp43) (u := .slice ad61 x56.length cp62) 0 (iv 0) 8 S (wN rfl) rfl Try.underlying32 rfl rfl (by decide) rfl rfl rfl (src_D 1 S.mem rfl) hx64 rfl (lb rfl) fun a w ad65 cp66 S => ?_
  refine sMove (.slice ad65 l63.length cp66) S (wN rfl) (.inr rfl) rfl rfl (lb rfl) fun a S => ?_
  refine leafL (leafB (leafT (hK54 _ _ ?_)))
  refine sRegion ?_
  refine sBin (iv (w64 (s44 + 1))) S (wN rfl) rfl rfl rfl (bAdd _ _ _ _ s44 1) rfl (lb rfl) fun a S => ?_
  refine sMove (iv (w64 (s44 + 1))) S (wN rfl) (.inl rfl) rfl rfl (lb rfl) fun a S => ?_
  exact leafL (leafT (⟨(l63, w64 (s44 + 1)), (Option.some.inj h).symm, ⟨ad65, cp66, S.fix [0] [3] (by decide) rfl rfl rfl⟩⟩))

end Go.Proofs.Yticjoiolfibmlaa
namespace Go.Proofs.Yticjoiolfibmlaa
open Go.RowKit
set_option linter.unusedVariables false

def anc_loops_piece_cable_s1_0 : List (List Nat) := [[], [], [1], [0, 1, 2], [], [], [5], [4, 5, 6], [0, 1, 2, 3, 4, 5, 6, 7], [0, 1, 2, 3, 4, 5, 6, 7, 8], [0, 1, 2, 3, 4, 5, 6, 7, 8, 9], []]
def anc_loops_piece_cable_s1_1 : List (List Nat) := [[], [], [1], [1, 2], [1, 2, 3], [], [5], [1, 2, 3, 4, 5, 6], [0, 1, 2, 3, 4, 5, 6, 7], [0, 1, 2, 3, 4, 5, 6, 7, 8], [0, 1, 2, 3, 4, 5, 6, 7, 8, 9]]
noncomputable def loops_piece_cable_s1_l1 (r37 : (List Int)) (p1 : api_Loop) : (Int × List api_Loop × List Int × List Int × List (Int × Int) × Int) → Option ((Int × List api_Loop × List Int × List Int × List (Int × Int) × Int) ⊕ (List api_Loop × List Int × List Int × List (Int × Int) × Int)) := fun s0 => match s0 with
  | (s51, s52, s55, s58, s61, s64) =>
    if decide (s51 < (r37.length : Int)) then
      Option.bind (idxO r37 s51) fun x86 =>
      Option.bind (F_loops_piece_add_s1 (loops_piece.mk s52 s55 s58 s61 s64) p1 [([x86] : List Int)]) fun r95 =>
      some (.inl (w64 (s51 + 1), r95.loops, r95.rows, r95.bound, r95.cross, r95.next))
    else
      some (.inr (s52, s55, s58, s61, s64))
noncomputable def loops_piece_cable_s1_l2 (p2 : api_Stitch) (p0 : loops_piece) (s110 : Int) : (Int × List (Int × Int)) → Option ((Int × List (Int × Int)) ⊕ List (Int × Int)) := fun s0 => match s0 with
  | (s130, s131) =>
    if decide (s130 < p2.B) then
      Option.bind (α := (Int × Int)) (
        if p2.Kind == 7 then
          Option.bind (F_slices_Reverse___int_int__s1 (w64 ((w64 ((p0.loops.length : Int) + p2.B)) + s110), w64 ((p0.loops.length : Int) + s130))) fun r153 =>
          some (r153.1, r153.2)
        else
          some (w64 ((w64 ((p0.loops.length : Int) + p2.B)) + s110), w64 ((p0.loops.length : Int) + s130))) fun (o147, o148) =>
      Option.bind (appO s131 [(o147, o148)]) fun l157 =>
      some (.inl (w64 (s130 + 1), l157))
    else
      some (.inr s131)
noncomputable def loops_piece_cable_s1_l3 (p2 : api_Stitch) (p0 : loops_piece) : (Int × List (Int × Int)) → Option ((Int × List (Int × Int)) ⊕ List (Int × Int)) := fun s0 => match s0 with
  | (s110, s111) =>
    if decide (s110 < p2.A) then
      Option.bind (α := List (Int × Int)) (
        Option.bind (whileO (loops_piece_cable_s1_l2 p2 p0 s110) (0, s111)) fun e137 =>
          some e137) fun o123 =>
      some (.inl (w64 (s110 + 1), o123))
    else
      some (.inr s111)
noncomputable def F_loops_piece_cable_s1 (p0 : loops_piece) (p1 : api_Loop) (p2 : api_Stitch) (p3 : (List Int)) : Option loops_piece :=
  Option.bind (α := (List api_Loop × List Int × List Int × List (Int × Int) × Int)) (
    Option.bind (sliceO p3 p2.A (p3.length : Int)) fun y27 =>
    Option.bind (sliceO p3 0 p2.A) fun y31 =>
    Option.bind (F_slices_Concat___int_int_ [y27, y31]) fun r37 =>
    Option.bind (whileO (loops_piece_cable_s1_l1 r37 p1) (0, p0.loops, p0.rows, p0.bound, p0.cross, p0.next)) fun (e68, e71, e74, e77, e80) =>
      some (e68, e71, e74, e77, e80)) fun (o11, o14, o17, o20, o23) =>
  Option.bind (whileO (loops_piece_cable_s1_l3 p2 p0) (0, o20)) fun e117 =>
    some (loops_piece.mk o11 o14 o17 e117 o23)
set_option maxHeartbeats 4000000 in
set_option maxRecDepth 100000 in
theorem c_loops_piece_cable_s1 (E : Nat → Prop) (w0 : World) (p0 : loops_piece) (bb0 : Nat) (ad_0_0 : Option Addr) (cp_0_0 : Nat) (ad_0_1 : Option Addr) (cp_0_1 : Nat) (ad_0_2 : Option Addr) (cp_0_2 : Nat) (ad_0_3 : Option Addr) (cp_0_3 : Nat) (p1 : api_Loop) (v1 : Value) (p2 : api_Stitch) (v2 : Value) (p3 : (List Int)) (v3 : Value) (r : loops_piece) (h : F_loops_piece_cable_s1 p0 p1 p2 p3 = some r) (S : St0 E (keysL [eBox bb0 73 [.slice ad_0_0 p0.loops.length cp_0_0, .slice ad_0_1 p0.rows.length cp_0_1, .slice ad_0_2 p0.bound.length cp_0_2, .slice ad_0_3 p0.cross.length cp_0_3, iv p0.next], eRow r_api_Loop 48 (.slice ad_0_0 p0.loops.length cp_0_0) p0.loops, eRow (rI .i64) 3 (.slice ad_0_1 p0.rows.length cp_0_1) p0.rows, eRow (rI .i64) 3 (.slice ad_0_2 p0.bound.length cp_0_2) p0.bound, eRow r_A2_Int 49 (.slice ad_0_3 p0.cross.length cp_0_3) p0.cross]) w0 w0 [eBox bb0 73 [.slice ad_0_0 p0.loops.length cp_0_0, .slice ad_0_1 p0.rows.length cp_0_1, .slice ad_0_2 p0.bound.length cp_0_2, .slice ad_0_3 p0.cross.length cp_0_3, iv p0.next], eRow r_api_Loop 48 (.slice ad_0_0 p0.loops.length cp_0_0) p0.loops, eRow (rI .i64) 3 (.slice ad_0_1 p0.rows.length cp_0_1) p0.rows, eRow (rI .i64) 3 (.slice ad_0_2 p0.bound.length cp_0_2) p0.bound, eRow r_A2_Int 49 (.slice ad_0_3 p0.cross.length cp_0_3) p0.cross] [fRep r_api_Loop (v1) p1, fRep r_api_Stitch (v2) p2, fRep (rL (rI .i64)) (v3) p3]) :
    Calls Try.prog 61 #[.pointer (some ⟨bb0, 0, none⟩), v1, v2, v3] w0 (Ret (X := Option Addr × Nat × Option Addr × Nat × Option Addr × Nat × Option Addr × Nat) E (keysL [eBox bb0 73 [.slice ad_0_0 p0.loops.length cp_0_0, .slice ad_0_1 p0.rows.length cp_0_1, .slice ad_0_2 p0.bound.length cp_0_2, .slice ad_0_3 p0.cross.length cp_0_3, iv p0.next], eRow r_api_Loop 48 (.slice ad_0_0 p0.loops.length cp_0_0) p0.loops, eRow (rI .i64) 3 (.slice ad_0_1 p0.rows.length cp_0_1) p0.rows, eRow (rI .i64) 3 (.slice ad_0_2 p0.bound.length cp_0_2) p0.bound, eRow r_A2_Int 49 (.slice ad_0_3 p0.cross.length cp_0_3) p0.cross]) w0 (fun _ => .tuple #[]) (fun x => [eBox bb0 73 [.slice x.1 r.loops.length x.2.1, .slice x.2.2.1 r.rows.length x.2.2.2.1, .slice x.2.2.2.2.1 r.bound.length x.2.2.2.2.2.1, .slice x.2.2.2.2.2.2.1 r.cross.length x.2.2.2.2.2.2.2, iv r.next], eRow r_api_Loop 48 (.slice x.1 r.loops.length x.2.1) r.loops, eRow (rI .i64) 3 (.slice x.2.2.1 r.rows.length x.2.2.2.1) r.rows, eRow (rI .i64) 3 (.slice x.2.2.2.2.1 r.bound.length x.2.2.2.2.2.1) r.bound, eRow r_A2_Int 49 (.slice x.2.2.2.2.2.2.1 r.cross.length x.2.2.2.2.2.2.2) r.cross]) (fun _ => [])) := by
  unfold F_loops_piece_cable_s1 at h
  obtain ⟨u1, rfl, hu2⟩ := S.know (i := 0) (e := fRep r_api_Loop (v1) p1) rfl
  have S := S.learn (fRep (rL (rI .i64)) u1 p1.Parents) hu2
  obtain ⟨ad3, cp4, _, rfl, _⟩ := hu2
  obtain rfl : v2 = .agg #[.int .u8 p2.Kind, .bool p2.Purl, iv p2.A, iv p2.B] := S.know (i := 2) (e := fRep r_api_Stitch (v2) p2) rfl
  obtain ⟨ad5, cp6, _, rfl, _⟩ := S.know (i := 3) (e := fRep (rL (rI .i64)) (v3) p3) rfl
  refine sEnter (args := [.pointer (some ⟨bb0, 0, none⟩), .agg #[iv p1.Row, iv p1.Cell, .slice ad3 p1.Parents.length cp4, .bool p1.Purl], .agg #[.int .u8 p2.Kind, .bool p2.Purl, iv p2.A, iv p2.B], .slice ad5 p3.length cp6]) 78 Try.func61 rfl rfl (by simp) S (fun a S => ?_)
  refine sSeq (fun K7 hK7 => ?_)
  refine sRegion ?_
  refine sBox (v := .agg #[iv p1.Row, iv p1.Cell, .slice ad3 p1.Parents.length cp4, .bool p1.Purl]) S (wN rfl) rfl rfl [iv p1.Row, iv p1.Cell, .slice ad3 p1.Parents.length cp4, .bool p1.Purl] rfl rfl (lb rfl) fun a b8 w S => ?_
  refine sBox (v := .agg #[.int .u8 p2.Kind, .bool p2.Purl, iv p2.A, iv p2.B]) S (wN rfl) rfl rfl [.int .u8 p2.Kind, .bool p2.Purl, iv p2.A, iv p2.B] rfl rfl (lb rfl) fun a b9 w S => ?_
  refine leafL (leafT (hK7 _ _ ?_))
  refine sSeq (fun K10 hK10 => ?_)
  refine sRegion ?_
  refine sMove (.pointer (some ⟨bb0, 0, none⟩)) S (wN rfl) (.inl rfl) rfl rfl (lb rfl) fun a S => ?_
  refine nilCheck_ok (q := ⟨bb0, 0, none⟩) S (wN rfl) rfl rfl rfl (lb rfl) fun a S => ?_
  refine sField (b := bb0) (off := 0) 0 0 S (wN rfl) rfl rfl rfl rfl rfl (lb rfl) fun a S => ?_
  refine sLoad1 (p := bb0) (off := 0) (T := 73) (vs := [.slice ad_0_0 p0.loops.length cp_0_0, .slice ad_0_1 p0.rows.length cp_0_1, .slice ad_0_2 p0.bound.length cp_0_2, .slice ad_0_3 p0.cross.length cp_0_3, iv p0.next]) 2 (.slice ad_0_0 p0.loops.length cp_0_0) S (wN rfl) rfl rfl rfl rfl rfl rfl (lb rfl) fun a S => ?_
  refine sLen (ad := ad_0_0) (m := p0.loops.length) (c := cp_0_0) S (wN rfl) rfl Try.underlying26 rfl rfl (lb rfl) fun a S => ?_
  refine sMove (iv (p0.loops.length : Int)) S (wN rfl) (.inr rfl) rfl rfl (lb rfl) fun a S => ?_
  refine leafL (leafT (hK10 _ _ ?_))
  obtain ⟨t24, h, g25⟩ := bindSome h
  refine sCut (fun a w => ∃ o11, ∃ o14, ∃ o17, ∃ o20, ∃ o23, (o11, o14, o17, o20, o23) = t24 ∧ ∃ ad12, ∃ cp13, ∃ ad15, ∃ cp16, ∃ ad18, ∃ cp19, ∃ ad21, ∃ cp22, St [] E (keysL [eBox bb0 73 [.slice ad_0_0 p0.loops.length cp_0_0, .slice ad_0_1 p0.rows.length cp_0_1, .slice ad_0_2 p0.bound.length cp_0_2, .slice ad_0_3 p0.cross.length cp_0_3, iv p0.next], eRow r_api_Loop 48 (.slice ad_0_0 p0.loops.length cp_0_0) p0.loops, eRow (rI .i64) 3 (.slice ad_0_1 p0.rows.length cp_0_1) p0.rows, eRow (rI .i64) 3 (.slice ad_0_2 p0.bound.length cp_0_2) p0.bound, eRow r_A2_Int 49 (.slice ad_0_3 p0.cross.length cp_0_3) p0.cross]) w0 78 a w [(0, .pointer (some ⟨bb0, 0, none⟩)), (6, .pointer (some ⟨b9, 0, none⟩)), (8, iv (p0.loops.length : Int))] [eBox bb0 73 [.slice ad12 o11.length cp13, .slice ad15 o14.length cp16, .slice ad18 o17.length cp19, .slice ad21 o20.length cp22, iv o23], eBox b9 61 [.int .u8 p2.Kind, .bool p2.Purl, iv p2.A, iv p2.B], eRow r_api_Loop 48 (.slice ad12 o11.length cp13) o11, eRow (rI .i64) 3 (.slice ad15 o14.length cp16) o14, eRow (rI .i64) 3 (.slice ad18 o17.length cp19) o17, eRow r_A2_Int 49 (.slice ad21 o20.length cp22) o20] []) ?_ (fun a w hI => ?_)
  · refine sSeq (fun K26 hK26 => ?_)
    obtain ⟨y27, hx28, h⟩ := bindSome h
    obtain ⟨y31, hx32, h⟩ := bindSome h
    obtain ⟨r37, hx38, h⟩ := bindSome h
    refine sDraw (nf := [3, 7, 8, 9]) (W := [(0, 19, .slice ad5 p3.length cp6), (1, 20, .pointer (some ⟨b9, 2, none⟩)), (2, 21, iv p2.A), (4, 23, .slice ad5 p3.length cp6), (5, 24, .pointer (some ⟨b9, 2, none⟩)), (6, 25, iv p2.A), (11, 30, iv 0)]) rfl S ?_
    refine nodeCut (fun N W L D => ∀ ad44 cp45 ad42 cp43, N [7, 3] ((7, 26, .slice ad44 y31.length cp45) :: (3, 22, .slice ad42 y27.length cp43) :: W) (L) ((fRep (rL (rI .i64)) (.slice ad44 y31.length cp45) y31) :: (fRep (rL (rI .i64)) (.slice ad42 y27.length cp43) y27) :: D)) (fun ad44 cp45 ad42 cp43 => ?_) fun nd1 => ?_
    · refine node_by (A := anc_loops_piece_cable_s1_0) (nf := [3, 7, 8, 9]) (Y := [7, 3]) 12 (by kernel_rfl) (by kernel_rfl) (by kernel_rfl) (by kernel_rfl) (by kernel_rfl) [7, 3, 0, 1, 2, 4, 5, 6, 11] (by kernel_rfl) (by decide) (by decide) (aD 0 11 3 (by decide) (aD 1 10 3 (by decide) (aD 2 9 3 (by decide) (aY 3 8 (by decide) (aD 4 7 7 (by decide) (aD 5 6 7 (by decide) (aD 6 5 7 (by decide) (aY 7 4 (by decide) (aN 8 3 (by decide) ?_ (aB 9 2 8 (by decide) (aE 10 1 8 (by decide) (aF 11 0 (by decide) ?_ (trivial))))))))))))) [] (fun q hq => by cases hq) (fun hY => absurd (hY 8 (by decide)) (by decide))
      · refine ⟨_, [(22, .slice ad42 y27.length cp43), (26, .slice ad44 y31.length cp45)], rfl, (srcs_of [some 1, some 0] rfl rfl rfl), fun G a w S => ?_⟩
        refine sLit (r := (rL (rI .i64))) (T := 32) (xs := [y27, y31]) [(0, .slice ad42 y27.length cp43), (1, .slice ad44 y31.length cp45)] 2 [.slice ad42 y27.length cp43, .slice ad44 y31.length cp45] [.slice ad42 y27.length cp43, .slice ad44 y31.length cp45] (.slice none 0 0) 24 S (wN rfl) rfl rfl Try.underlying69 rfl (by decide) (by decide) (by kernel_rfl) rfl (fun E1 w1 hE => All.cons ((rL (rI .i64)).mono hE (S.mem.know (i := 1) (e := fRep (rL (rI .i64)) (.slice ad42 y27.length cp43) y27) rfl)) (All.cons ((rL (rI .i64)).mono hE (S.mem.know (i := 0) (e := fRep (rL (rI .i64)) (.slice ad44 y31.length cp45) y31) rfl)) (All.nil _ _ _))) rfl rfl (lb rfl) fun a w ad46 cp47 S => ?_
        refine leafL ⟨rfl, _, _, .inl ⟨27, (.slice ad46 [y27, y31].length cp47), [], rfl, S, hz_of rfl, ?_⟩⟩
        refine node_by (A := anc_loops_piece_cable_s1_0) (nf := [3, 7, 8, 9]) (Y := [8, 7, 3]) 12 (by kernel_rfl) (by kernel_rfl) (by kernel_rfl) (by kernel_rfl) (by kernel_rfl) [8, 7, 3, 0, 1, 2, 4, 5, 6, 11] (by kernel_rfl) (by decide) (by decide) (aD 0 11 8 (by decide) (aD 1 10 8 (by decide) (aD 2 9 8 (by decide) (aY 3 8 (by decide) (aD 4 7 8 (by decide) (aD 5 6 8 (by decide) (aD 6 5 8 (by decide) (aY 7 4 (by decide) (aY 8 3 (by decide) (aN 9 2 (by decide) ?_ (aE 10 1 9 (by decide) (aF 11 0 (by decide) ?_ (trivial))))))))))))) [] (fun q hq => by cases hq) (fun hY => absurd (hY 9 (by decide)) (by decide))
        · refine ⟨_, [(27, .slice ad46 [y27, y31].length cp47)], rfl, (srcs_of [some 0] rfl rfl rfl), fun G a w S => ?_⟩
          have S := S.shutR (r := (rL (rI .i64))) (T := 32) (v := .slice ad46 [y27, y31].length cp47) (xs := [y27, y31]) 0 rfl
          refine sCall (X := Value) (f := 68) (vs := [.slice ad46 [y27, y31].length cp47]) (val := c_slices_Concat___int_int__val r37) (B' := fun _ => []) (D' := c_slices_Concat___int_int__D r37) [] [eBox b9 61 [.int .u8 p2.Kind, .bool p2.Purl, iv p2.A, iv p2.B], eBox b8 48 [iv p1.Row, iv p1.Cell, .slice ad3 p1.Parents.length cp4, .bool p1.Purl], eBox bb0 73 [.slice ad_0_0 p0.loops.length cp_0_0, .slice ad_0_1 p0.rows.length cp_0_1, .slice ad_0_2 p0.bound.length cp_0_2, .slice ad_0_3 p0.cross.length cp_0_3, iv p0.next], eRow r_api_Loop 48 (.slice ad_0_0 p0.loops.length cp_0_0) p0.loops, eRow (rI .i64) 3 (.slice ad_0_1 p0.rows.length cp_0_1) p0.rows, eRow (rI .i64) 3 (.slice ad_0_2 p0.bound.length cp_0_2) p0.bound, eRow r_A2_Int 49 (.slice ad_0_3 p0.cross.length cp_0_3) p0.cross] [fRep (rL (rL (rI .i64))) (.slice ad46 [y27, y31].length cp47) [y27, y31]] [0, 1, 2, 3, 4, 5, 6] [0] S (wN rfl) rfl callee68 rfl (by decide) rfl rfl (fun E1 w1 S1 => c_slices_Concat___int_int_ E1 w1 [y27, y31] (.slice ad46 [y27, y31].length cp47) r37 hx38 S1) rfl (lb rfl) fun u48 a w S => ?_
          obtain ⟨ad49, cp50, _, rfl, _⟩ := S.mem.know (i := 0) (e := fRep (rL (rI .i64)) (u48) r37) rfl
          refine leafL ⟨rfl, _, _, .inl ⟨28, (.slice ad49 r37.length cp50), [(10, 29, iv (r37.length : Int))], rfl, S, hz_of rfl, ?_⟩⟩
          refine node_by (A := anc_loops_piece_cable_s1_0) (nf := [3, 7, 8, 9]) (Y := [9, 8, 7, 3]) 12 (by kernel_rfl) (by kernel_rfl) (by kernel_rfl) (by kernel_rfl) (by kernel_rfl) [10, 9, 8, 7, 3, 0, 1, 2, 4, 5, 6, 11] (by kernel_rfl) (by decide) (by decide) (aD 0 11 9 (by decide) (aD 1 10 9 (by decide) (aD 2 9 9 (by decide) (aY 3 8 (by decide) (aD 4 7 9 (by decide) (aD 5 6 9 (by decide) (aD 6 5 9 (by decide) (aY 7 4 (by decide) (aY 8 3 (by decide) (aY 9 2 (by decide) (aF 10 1 (by decide) ?_ (aF 11 0 (by decide) ?_ (trivial))))))))))))) [(0, .pointer (some ⟨bb0, 0, none⟩)), (5, .pointer (some ⟨b8, 0, none⟩)), (6, .pointer (some ⟨b9, 0, none⟩)), (8, iv (p0.loops.length : Int)), (28, .slice ad49 r37.length cp50), (29, iv (r37.length : Int)), (30, iv 0)] (fin_of [none, none, none, none, some 1, some 0, some 11] rfl (by kernel_rfl) (by kernel_rfl)) (fun _ a w S => ?_)
          · refine fI 29 (iv (r37.length : Int)) [(28, .slice ad49 r37.length cp50)] 0 [some 1] rfl rfl rfl rfl rfl rfl fun G a w S => ?_
            refine sLen (ad := ad49) (m := r37.length) (c := cp50) S (wN rfl) rfl Try.underlying32 rfl rfl (lb rfl) fun a S => ?_
            exact leafL ⟨rfl, S⟩
          · refine fI 30 (iv 0) [] 11 [] rfl rfl rfl rfl rfl rfl fun G a w S => ?_
            refine sMove (iv 0) S (wN rfl) (.inl rfl) rfl rfl (lb rfl) fun a S => ?_
            exact leafL ⟨rfl, S⟩
          refine leafT (hK26 _ _ ?_)
          refine wp_block ?_
          obtain ⟨t67, hl, g66⟩ := bindSome h
          refine sLoop hl (fun s0 a w => match s0 with | (s51, s52, s55, s58, s61, s64) => ∃ ad53, ∃ cp54, ∃ ad56, ∃ cp57, ∃ ad59, ∃ cp60, ∃ ad62, ∃ cp63, St [] E (keysL [eBox bb0 73 [.slice ad_0_0 p0.loops.length cp_0_0, .slice ad_0_1 p0.rows.length cp_0_1, .slice ad_0_2 p0.bound.length cp_0_2, .slice ad_0_3 p0.cross.length cp_0_3, iv p0.next], eRow r_api_Loop 48 (.slice ad_0_0 p0.loops.length cp_0_0) p0.loops, eRow (rI .i64) 3 (.slice ad_0_1 p0.rows.length cp_0_1) p0.rows, eRow (rI .i64) 3 (.slice ad_0_2 p0.bound.length cp_0_2) p0.bound, eRow r_A2_Int 49 (.slice ad_0_3 p0.cross.length cp_0_3) p0.cross]) w0 78 a w [(0, .pointer (some ⟨bb0, 0, none⟩)), (5, .pointer (some ⟨b8, 0, none⟩)), (6, .pointer (some ⟨b9, 0, none⟩)), (8, iv (p0.loops.length : Int)), (28, .slice ad49 r37.length cp50), (29, iv (r37.length : Int)), (30, iv s51)] [eBox bb0 73 [.slice ad53 s52.length cp54, .slice ad56 s55.length cp57, .slice ad59 s58.length cp60, .slice ad62 s61.length cp63, iv s64], eBox b8 48 [iv p1.Row, iv p1.Cell, .slice ad3 p1.Parents.length cp4, .bool p1.Purl], eBox b9 61 [.int .u8 p2.Kind, .bool p2.Purl, iv p2.A, iv p2.B], eRow r_api_Loop 48 (.slice ad53 s52.length cp54) s52, eRow (rI .i64) 3 (.slice ad56 s55.length cp57) s55, eRow (rI .i64) 3 (.slice ad59 s58.length cp60) s58, eRow r_A2_Int 49 (.slice ad62 s61.length cp63) s61] [fRep (rL (rI .i64)) (.slice ad49 r37.length cp50) r37, fRep (rL (rI .i64)) (.slice ad3 p1.Parents.length cp4) p1.Parents]) ⟨ad_0_0, cp_0_0, ad_0_1, cp_0_1, ad_0_2, cp_0_2, ad_0_3, cp_0_3, S.fix [2, 1, 0, 3, 4, 5, 6] [0, 4] (by decide) rfl rfl rfl⟩ ?_
          clear hl h
          intro s0 a w c0 hI h hu65
          obtain ⟨s51, s52, s55, s58, s61, s64⟩ := s0
          unfold loops_piece_cable_s1_l1 at h
          dsimp only at h hI
          obtain ⟨ad53, cp54, ad56, cp57, ad59, cp60, ad62, cp63, S⟩ := hI
          refine sSeq (fun K81 hK81 => ?_)
          refine sRegion ?_
          refine sBin (.bool (decide (s51 < (r37.length : Int)))) S (wN rfl) rfl rfl rfl (bLt _ _ _ _ .i64 s51 (r37.length : Int)) rfl (lb rfl) fun a S => ?_
          refine leafL (leafT (hK81 _ _ ?_))
          refine sSeq (fun K82 hK82 => ?_)
          rcases iteSome h with ⟨hc83, h⟩ | ⟨hc83, h⟩
          rotate_left
          · refine sCondF S rfl hc83 ?_
            obtain rfl := Option.some.inj h
            obtain rfl := hu65 _ rfl
            have h := g66
            clear g66
            try dsimp only at h
            exact wp_exit (xThen (xThen (xHit (leafT (⟨s52, s55, s58, s61, s64, Option.some.inj h, ad53, cp54, ad56, cp57, ad59, cp60, ad62, cp63, S.fix [0, 2, 3, 4, 5, 6] [] (by decide) rfl rfl rfl⟩)))))
          refine sCondT S rfl hc83 ?_
          refine wp_skip (leafT (hK82 _ _ ?_))
          refine sSeq (fun K84 hK84 => ?_)
          refine wp_block ?_
          refine sSeq (fun K85 hK85 => ?_)
          refine sRegion ?_
          obtain ⟨x86, hx87, h⟩ := bindSome h
          obtain ⟨q88, hq89, S⟩ := pIdx (P := Try.prog) (r := (rI .i64)) (v := .slice ad49 r37.length cp50) (xs := r37) (j := s51) 32 3 0 S Try.underlying32 rfl rfl hx87
          refine sIdxV (v := .slice ad49 r37.length cp50) (k := .i64) (j := s51) S (wN rfl) rfl rfl rfl hq89 rfl (lb rfl) fun a S => ?_
          obtain ⟨u90, S⟩ := pLoad (r := (rI .i64)) (q := q88) (x := x86) 0 S rfl
          obtain rfl : u90 = iv x86 := S.mem.know (i := 1) (e := fRep (rI .i64) (u90) x86) rfl
          refine sLoadV1 (vq := q88) 0 (iv x86) S (wN rfl) rfl rfl rfl rfl rfl (lb rfl) fun a S => ?_
          refine sMove (iv x86) S (wN rfl) (.inr rfl) rfl rfl (lb rfl) fun a S => ?_
          refine leafL (leafT (hK85 _ _ ?_))
          refine sRegion ?_
          refine sMove (.pointer (some ⟨bb0, 0, none⟩)) S (wN rfl) (.inl rfl) rfl rfl (lb rfl) fun a S => ?_
          refine sLoadN (p := b8) (off := 0) (T := 48) (vs := [iv p1.Row, iv p1.Cell, .slice ad3 p1.Parents.length cp4, .bool p1.Purl]) 1 [iv p1.Row, iv p1.Cell, .slice ad3 p1.Parents.length cp4, .bool p1.Purl] S (wN rfl) rfl rfl rfl rfl rfl rfl rfl (lb rfl) fun a S => ?_
          refine sMove (iv x86) S (wN rfl) (.inl rfl) rfl rfl (lb rfl) fun a S => ?_
          refine sLit (r := (rI .i64)) (T := 3) (xs := ([x86] : List Int)) [(0, iv x86)] 1 [iv x86] [iv x86] (iv 0) 8 S (wN rfl) rfl rfl Try.underlying32 rfl (by decide) (by decide) (by kernel_rfl) rfl (fun E1 w1 hE => All.cons rfl (All.nil _ _ _)) rfl rfl (lb rfl) fun a w ad91 cp92 S => ?_
          have S := S.shutR (r := (rI .i64)) (T := 3) (v := .slice ad91 ([x86] : List Int).length cp92) (xs := ([x86] : List Int)) 0 rfl
          refine sLit (r := (rL (rI .i64))) (T := 32) (xs := [([x86] : List Int)]) [(0, .slice ad91 ([x86] : List Int).length cp92)] 1 [.slice ad91 ([x86] : List Int).length cp92] [.slice ad91 ([x86] : List Int).length cp92] (.slice none 0 0) 24 S (wN rfl) rfl rfl Try.underlying69 rfl (by decide) (by decide) (by kernel_rfl) rfl (fun E1 w1 hE => All.cons ((rL (rI .i64)).mono hE (S.mem.know (i := 0) (e := fRep (rL (rI .i64)) (.slice ad91 ([x86] : List Int).length cp92) ([x86] : List Int)) rfl)) (All.nil _ _ _)) rfl rfl (lb rfl) fun a w ad93 cp94 S => ?_
          obtain ⟨r95, hx96, h⟩ := bindSome h
          have S := S.learn (fRep r_api_Loop (.agg #[iv p1.Row, iv p1.Cell, .slice ad3 p1.Parents.length cp4, .bool p1.Purl]) p1) ⟨_, rfl, S.mem.know (i := 5) (e := fRep (rL (rI .i64)) (.slice ad3 p1.Parents.length cp4) p1.Parents) rfl⟩
          have S := S.shutR (r := (rL (rI .i64))) (T := 32) (v := .slice ad93 [([x86] : List Int)].length cp94) (xs := [([x86] : List Int)]) 0 rfl
          refine sCall (X := Option Addr × Nat × Option Addr × Nat × Option Addr × Nat × Option Addr × Nat) (f := 58) (vs := [.pointer (some ⟨bb0, 0, none⟩), .agg #[iv p1.Row, iv p1.Cell, .slice ad3 p1.Parents.length cp4, .bool p1.Purl], .slice ad93 [([x86] : List Int)].length cp94]) (val := fun _ => .tuple #[]) (B' := fun x => [eBox bb0 73 [.slice x.1 r95.loops.length x.2.1, .slice x.2.2.1 r95.rows.length x.2.2.2.1, .slice x.2.2.2.2.1 r95.bound.length x.2.2.2.2.2.1, .slice x.2.2.2.2.2.2.1 r95.cross.length x.2.2.2.2.2.2.2, iv r95.next], eRow r_api_Loop 48 (.slice x.1 r95.loops.length x.2.1) r95.loops, eRow (rI .i64) 3 (.slice x.2.2.1 r95.rows.length x.2.2.2.1) r95.rows, eRow (rI .i64) 3 (.slice x.2.2.2.2.1 r95.bound.length x.2.2.2.2.2.1) r95.bound, eRow r_A2_Int 49 (.slice x.2.2.2.2.2.2.1 r95.cross.length x.2.2.2.2.2.2.2) r95.cross]) (D' := fun _ => []) [eBox bb0 73 [.slice ad53 s52.length cp54, .slice ad56 s55.length cp57, .slice ad59 s58.length cp60, .slice ad62 s61.length cp63, iv s64], eRow r_api_Loop 48 (.slice ad53 s52.length cp54) s52, eRow (rI .i64) 3 (.slice ad56 s55.length cp57) s55, eRow (rI .i64) 3 (.slice ad59 s58.length cp60) s58, eRow r_A2_Int 49 (.slice ad62 s61.length cp63) s61] [eBox b8 48 [iv p1.Row, iv p1.Cell, .slice ad3 p1.Parents.length cp4, .bool p1.Purl], eBox b9 61 [.int .u8 p2.Kind, .bool p2.Purl, iv p2.A, iv p2.B]] [fRep r_api_Loop (.agg #[iv p1.Row, iv p1.Cell, .slice ad3 p1.Parents.length cp4, .bool p1.Purl]) p1, fRep (rL (rL (rI .i64))) (.slice ad93 [([x86] : List Int)].length cp94) [([x86] : List Int)]] [0, 3, 4, 5, 6, 1, 2] [1, 0] S (wN rfl) rfl callee58 rfl (by decide) rfl rfl (fun E1 w1 S1 => c_loops_piece_add_s1 E1 w1 (loops_piece.mk s52 s55 s58 s61 s64) bb0 ad53 cp54 ad56 cp57 ad59 cp60 ad62 cp63 p1 (.agg #[iv p1.Row, iv p1.Cell, .slice ad3 p1.Parents.length cp4, .bool p1.Purl]) [([x86] : List Int)] (.slice ad93 [([x86] : List Int)].length cp94) r95 hx96 S1) rfl (lb rfl) fun xx a w S => ?_
          obtain ⟨ad97, cp98, ad99, cp100, ad101, cp102, ad103, cp104⟩ := xx
          dsimp only at S
          refine leafL (leafB (leafT (hK84 _ _ ?_)))
          refine sRegion ?_
          refine sBin (iv (w64 (s51 + 1))) S (wN rfl) rfl rfl rfl (bAdd _ _ _ _ s51 1) rfl (lb rfl) fun a S => ?_
          refine sMove (iv (w64 (s51 + 1))) S (wN rfl) (.inl rfl) rfl rfl (lb rfl) fun a S => ?_
          exact leafL (leafT (⟨(w64 (s51 + 1), r95.loops, r95.rows, r95.bound, r95.cross, r95.next), (Option.some.inj h).symm, ⟨ad97, cp98, ad99, cp100, ad101, cp102, ad103, cp104, S.fix [0, 5, 6, 1, 2, 3, 4] [6, 7] (by decide) rfl rfl rfl⟩⟩))
        refine fI 30 (iv 0) [] 9 [] rfl rfl rfl rfl rfl rfl fun G a w S => ?_
        refine sMove (iv 0) S (wN rfl) (.inl rfl) rfl rfl (lb rfl) fun a S => ?_
        exact leafL ⟨rfl, S⟩
      refine fI 30 (iv 0) [] 8 [] rfl rfl rfl rfl rfl rfl fun G a w S => ?_
      refine sMove (iv 0) S (wN rfl) (.inl rfl) rfl rfl (lb rfl) fun a S => ?_
      exact leafL ⟨rfl, S⟩
    refine node_by (A := anc_loops_piece_cable_s1_0) (nf := [3, 7, 8, 9]) (Y := []) (W := [(0, 19, .slice ad5 p3.length cp6), (1, 20, .pointer (some ⟨b9, 2, none⟩)), (2, 21, iv p2.A), (4, 23, .slice ad5 p3.length cp6), (5, 24, .pointer (some ⟨b9, 2, none⟩)), (6, 25, iv p2.A), (11, 30, iv 0)]) 12 (by kernel_rfl) (by kernel_rfl) (by kernel_rfl) (by kernel_rfl) (by kernel_rfl) [0, 1, 2, 4, 5, 6, 11] (by kernel_rfl) (by decide) (by decide) (aF 0 11 (by decide) ?_ (aF 1 10 (by decide) ?_ (aF 2 9 (by decide) ?_ (aN 3 8 (by decide) ?_ (aF 4 7 (by decide) ?_ (aF 5 6 (by decide) ?_ (aF 6 5 (by decide) ?_ (aN 7 4 (by decide) ?_ (aB 8 3 3 (by decide) (aB 9 2 3 (by decide) (aE 10 1 3 (by decide) (aF 11 0 (by decide) ?_ (trivial))))))))))))) [] (fun q hq => by cases hq) (fun hY => absurd (hY 3 (by decide)) (by decide))
    · refine fI 19 (.slice ad5 p3.length cp6) [(3, .slice ad5 p3.length cp6)] 0 [none] rfl rfl rfl rfl rfl rfl fun G a w S => ?_
      refine sMove (.slice ad5 p3.length cp6) S (wN rfl) (.inl rfl) rfl rfl (lb rfl) fun a S => ?_
      exact leafL ⟨rfl, S⟩
    · refine fI 20 (.pointer (some ⟨b9, 2, none⟩)) [(6, .pointer (some ⟨b9, 0, none⟩))] 1 [none] rfl rfl rfl rfl rfl rfl fun G a w S => ?_
      refine sField (b := b9) (off := 0) 2 2 S (wN rfl) rfl rfl rfl rfl rfl (lb rfl) fun a S => ?_
      exact leafL ⟨rfl, S⟩
    · refine fI 21 (iv p2.A) [(20, .pointer (some ⟨b9, 2, none⟩))] 2 [some 1] rfl rfl rfl rfl rfl rfl fun G a w S => ?_
      refine sLoad1 (p := b9) (off := 2) (T := 61) (vs := [.int .u8 p2.Kind, .bool p2.Purl, iv p2.A, iv p2.B]) 0 (iv p2.A) S (wN rfl) rfl rfl rfl rfl rfl rfl (lb rfl) fun a S => ?_
      exact leafL ⟨rfl, S⟩
    · refine ⟨_, [(19, .slice ad5 p3.length cp6), (21, iv p2.A)], rfl, (srcs_of [some 0, some 2] rfl rfl rfl), fun G a w S => ?_⟩
      refine sSlice (r := (rI .i64)) (v := .slice ad5 p3.length cp6) (xs := p3) (vlo := (some (.int .i64 p2.A))) (vhi := none) (lo' := p2.A) (hi' := (p3.length : Int)) 3 S (wN rfl) rfl Try.underlying32 rfl rfl rfl rfl rfl (.inl rfl) (.inr ⟨rfl, rfl⟩) hx28 rfl (lb rfl) fun a ad42 cp43 S => ?_
      refine leafL ⟨rfl, _, _, .inl ⟨22, (.slice ad42 y27.length cp43), [], rfl, S, hz_of rfl, ?_⟩⟩
      refine node_by (A := anc_loops_piece_cable_s1_0) (nf := [3, 7, 8, 9]) (Y := [3]) 12 (by kernel_rfl) (by kernel_rfl) (by kernel_rfl) (by kernel_rfl) (by kernel_rfl) [3, 0, 1, 2, 4, 5, 6, 11] (by kernel_rfl) (by decide) (by decide) (aD 0 11 3 (by decide) (aD 1 10 3 (by decide) (aD 2 9 3 (by decide) (aY 3 8 (by decide) (aF 4 7 (by decide) ?_ (aF 5 6 (by decide) ?_ (aF 6 5 (by decide) ?_ (aN 7 4 (by decide) ?_ (aB 8 3 7 (by decide) (aB 9 2 7 (by decide) (aE 10 1 7 (by decide) (aF 11 0 (by decide) ?_ (trivial))))))))))))) [] (fun q hq => by cases hq) (fun hY => absurd (hY 7 (by decide)) (by decide))
      · refine fI 23 (.slice ad5 p3.length cp6) [(3, .slice ad5 p3.length cp6)] 4 [none] rfl rfl rfl rfl rfl rfl fun G a w S => ?_
        refine sMove (.slice ad5 p3.length cp6) S (wN rfl) (.inl rfl) rfl rfl (lb rfl) fun a S => ?_
        exact leafL ⟨rfl, S⟩
      · refine fI 24 (.pointer (some ⟨b9, 2, none⟩)) [(6, .pointer (some ⟨b9, 0, none⟩))] 5 [none] rfl rfl rfl rfl rfl rfl fun G a w S => ?_
        refine sField (b := b9) (off := 0) 2 2 S (wN rfl) rfl rfl rfl rfl rfl (lb rfl) fun a S => ?_
        exact leafL ⟨rfl, S⟩
      · refine fI 25 (iv p2.A) [(24, .pointer (some ⟨b9, 2, none⟩))] 6 [some 5] rfl rfl rfl rfl rfl rfl fun G a w S => ?_
        refine sLoad1 (p := b9) (off := 2) (T := 61) (vs := [.int .u8 p2.Kind, .bool p2.Purl, iv p2.A, iv p2.B]) 0 (iv p2.A) S (wN rfl) rfl rfl rfl rfl rfl rfl (lb rfl) fun a S => ?_
        exact leafL ⟨rfl, S⟩
      · refine ⟨_, [(23, .slice ad5 p3.length cp6), (25, iv p2.A)], rfl, (srcs_of [some 4, some 6] rfl rfl rfl), fun G a w S => ?_⟩
        refine sSlice (r := (rI .i64)) (v := .slice ad5 p3.length cp6) (xs := p3) (vlo := none) (vhi := (some (.int .i64 p2.A))) (lo' := 0) (hi' := p2.A) 4 S (wN rfl) rfl Try.underlying32 rfl rfl rfl rfl rfl (.inr ⟨rfl, rfl⟩) (.inl rfl) hx32 rfl (lb rfl) fun a ad44 cp45 S => ?_
        refine leafL ⟨rfl, _, _, .inl ⟨26, (.slice ad44 y31.length cp45), [], rfl, S, hz_of rfl, ?_⟩⟩
        exact nd1 ad44 cp45 ad42 cp43
      refine fI 30 (iv 0) [] 7 [] rfl rfl rfl rfl rfl rfl fun G a w S => ?_
      refine sMove (iv 0) S (wN rfl) (.inl rfl) rfl rfl (lb rfl) fun a S => ?_
      exact leafL ⟨rfl, S⟩
    · refine fI 23 (.slice ad5 p3.length cp6) [(3, .slice ad5 p3.length cp6)] 3 [none] rfl rfl rfl rfl rfl rfl fun G a w S => ?_
      refine sMove (.slice ad5 p3.length cp6) S (wN rfl) (.inl rfl) rfl rfl (lb rfl) fun a S => ?_
      exact leafL ⟨rfl, S⟩
    · refine fI 24 (.pointer (some ⟨b9, 2, none⟩)) [(6, .pointer (some ⟨b9, 0, none⟩))] 4 [none] rfl rfl rfl rfl rfl rfl fun G a w S => ?_
      refine sField (b := b9) (off := 0) 2 2 S (wN rfl) rfl rfl rfl rfl rfl (lb rfl) fun a S => ?_
      exact leafL ⟨rfl, S⟩
    · refine fI 25 (iv p2.A) [(24, .pointer (some ⟨b9, 2, none⟩))] 5 [some 4] rfl rfl rfl rfl rfl rfl fun G a w S => ?_
      refine sLoad1 (p := b9) (off := 2) (T := 61) (vs := [.int .u8 p2.Kind, .bool p2.Purl, iv p2.A, iv p2.B]) 0 (iv p2.A) S (wN rfl) rfl rfl rfl rfl rfl rfl (lb rfl) fun a S => ?_
      exact leafL ⟨rfl, S⟩
    · refine ⟨_, [(23, .slice ad5 p3.length cp6), (25, iv p2.A)], rfl, (srcs_of [some 3, some 5] rfl rfl rfl), fun G a w S => ?_⟩
      refine sSlice (r := (rI .i64)) (v := .slice ad5 p3.length cp6) (xs := p3) (vlo := none) (vhi := (some (.int .i64 p2.A))) (lo' := 0) (hi' := p2.A) 3 S (wN rfl) rfl Try.underlying32 rfl rfl rfl rfl rfl (.inr ⟨rfl, rfl⟩) (.inl rfl) hx32 rfl (lb rfl) fun a ad105 cp106 S => ?_
      refine leafL ⟨rfl, _, _, .inl ⟨26, (.slice ad105 y31.length cp106), [], rfl, S, hz_of rfl, ?_⟩⟩
      refine node_by (A := anc_loops_piece_cable_s1_0) (nf := [3, 7, 8, 9]) (Y := [7]) 12 (by kernel_rfl) (by kernel_rfl) (by kernel_rfl) (by kernel_rfl) (by kernel_rfl) [7, 0, 1, 2, 4, 5, 6, 11] (by kernel_rfl) (by decide) (by decide) (aF 0 11 (by decide) ?_ (aF 1 10 (by decide) ?_ (aF 2 9 (by decide) ?_ (aN 3 8 (by decide) ?_ (aD 4 7 7 (by decide) (aD 5 6 7 (by decide) (aD 6 5 7 (by decide) (aY 7 4 (by decide) (aB 8 3 3 (by decide) (aB 9 2 3 (by decide) (aE 10 1 3 (by decide) (aF 11 0 (by decide) ?_ (trivial))))))))))))) [] (fun q hq => by cases hq) (fun hY => absurd (hY 3 (by decide)) (by decide))
      · refine fI 19 (.slice ad5 p3.length cp6) [(3, .slice ad5 p3.length cp6)] 1 [none] rfl rfl rfl rfl rfl rfl fun G a w S => ?_
        refine sMove (.slice ad5 p3.length cp6) S (wN rfl) (.inl rfl) rfl rfl (lb rfl) fun a S => ?_
        exact leafL ⟨rfl, S⟩
      · refine fI 20 (.pointer (some ⟨b9, 2, none⟩)) [(6, .pointer (some ⟨b9, 0, none⟩))] 2 [none] rfl rfl rfl rfl rfl rfl fun G a w S => ?_
        refine sField (b := b9) (off := 0) 2 2 S (wN rfl) rfl rfl rfl rfl rfl (lb rfl) fun a S => ?_
        exact leafL ⟨rfl, S⟩
      · refine fI 21 (iv p2.A) [(20, .pointer (some ⟨b9, 2, none⟩))] 3 [some 2] rfl rfl rfl rfl rfl rfl fun G a w S => ?_
        refine sLoad1 (p := b9) (off := 2) (T := 61) (vs := [.int .u8 p2.Kind, .bool p2.Purl, iv p2.A, iv p2.B]) 0 (iv p2.A) S (wN rfl) rfl rfl rfl rfl rfl rfl (lb rfl) fun a S => ?_
        exact leafL ⟨rfl, S⟩
      · refine ⟨_, [(19, .slice ad5 p3.length cp6), (21, iv p2.A)], rfl, (srcs_of [some 1, some 3] rfl rfl rfl), fun G a w S => ?_⟩
        refine sSlice (r := (rI .i64)) (v := .slice ad5 p3.length cp6) (xs := p3) (vlo := (some (.int .i64 p2.A))) (vhi := none) (lo' := p2.A) (hi' := (p3.length : Int)) 4 S (wN rfl) rfl Try.underlying32 rfl rfl rfl rfl rfl (.inl rfl) (.inr ⟨rfl, rfl⟩) hx28 rfl (lb rfl) fun a ad107 cp108 S => ?_
        refine leafL ⟨rfl, _, _, .inl ⟨22, (.slice ad107 y27.length cp108), [], rfl, S, hz_of rfl, ?_⟩⟩
        exact nodePerm (nd1 ad105 cp106 ad107 cp108) [1, 0, 2, 3, 4, 5, 6, 7, 8] [0, 1, 2, 3, 4, 5, 6] [1, 0, 2, 3, 4, 5] (by decide) (by decide) rfl rfl rfl
      refine fI 30 (iv 0) [] 7 [] rfl rfl rfl rfl rfl rfl fun G a w S => ?_
      refine sMove (iv 0) S (wN rfl) (.inl rfl) rfl rfl (lb rfl) fun a S => ?_
      exact leafL ⟨rfl, S⟩
    refine fI 30 (iv 0) [] 6 [] rfl rfl rfl rfl rfl rfl fun G a w S => ?_
    refine sMove (iv 0) S (wN rfl) (.inl rfl) rfl rfl (lb rfl) fun a S => ?_
    exact leafL ⟨rfl, S⟩
  obtain ⟨o11, o14, o17, o20, o23, rfl, ad12, cp13, ad15, cp16, ad18, cp19, ad21, cp22, S⟩ := hI
  have h := g25
  clear g25
  try dsimp only at h
  refine sSeq (fun K109 hK109 => ?_)
  refine sRegion ?_
  refine sField (b := b9) (off := 0) 2 2 S (wN rfl) rfl rfl rfl rfl rfl (lb rfl) fun a S => ?_
  refine sLoad1 (p := b9) (off := 2) (T := 61) (vs := [.int .u8 p2.Kind, .bool p2.Purl, iv p2.A, iv p2.B]) 1 (iv p2.A) S (wN rfl) rfl rfl rfl rfl rfl rfl (lb rfl) fun a S => ?_
  refine sMove (iv 0) S (wN rfl) (.inl rfl) rfl rfl (lb rfl) fun a S => ?_
  refine leafL (leafT (hK109 _ _ ?_))
  refine wp_block ?_
  obtain ⟨t116, hl, g115⟩ := bindSome h
  refine sLoop hl (fun s0 a w => match s0 with | (s110, s111) => ∃ ad112, ∃ cp113, St [] E (keysL [eBox bb0 73 [.slice ad_0_0 p0.loops.length cp_0_0, .slice ad_0_1 p0.rows.length cp_0_1, .slice ad_0_2 p0.bound.length cp_0_2, .slice ad_0_3 p0.cross.length cp_0_3, iv p0.next], eRow r_api_Loop 48 (.slice ad_0_0 p0.loops.length cp_0_0) p0.loops, eRow (rI .i64) 3 (.slice ad_0_1 p0.rows.length cp_0_1) p0.rows, eRow (rI .i64) 3 (.slice ad_0_2 p0.bound.length cp_0_2) p0.bound, eRow r_A2_Int 49 (.slice ad_0_3 p0.cross.length cp_0_3) p0.cross]) w0 78 a w [(0, .pointer (some ⟨bb0, 0, none⟩)), (6, .pointer (some ⟨b9, 0, none⟩)), (8, iv (p0.loops.length : Int)), (42, iv p2.A), (43, iv s110)] [eBox bb0 73 [.slice ad12 o11.length cp13, .slice ad15 o14.length cp16, .slice ad18 o17.length cp19, .slice ad112 s111.length cp113, iv o23], eBox b9 61 [.int .u8 p2.Kind, .bool p2.Purl, iv p2.A, iv p2.B], eRow r_api_Loop 48 (.slice ad12 o11.length cp13) o11, eRow (rI .i64) 3 (.slice ad15 o14.length cp16) o14, eRow (rI .i64) 3 (.slice ad18 o17.length cp19) o17, eRow r_A2_Int 49 (.slice ad112 s111.length cp113) s111] []) ⟨ad21, cp22, S.fix [0, 1, 2, 3, 4, 5] [] (by decide) rfl rfl rfl⟩ ?_
  clear hl h
  intro s0 a w c0 hI h hu114
  obtain ⟨s110, s111⟩ := s0
  unfold loops_piece_cable_s1_l3 at h
  dsimp only at h hI
  obtain ⟨ad112, cp113, S⟩ := hI
  refine sSeq (fun K120 hK120 => ?_)
  refine sRegion ?_
  refine sBin (.bool (decide (s110 < p2.A))) S (wN rfl) rfl rfl rfl (bLt _ _ _ _ .i64 s110 p2.A) rfl (lb rfl) fun a S => ?_
  refine leafL (leafT (hK120 _ _ ?_))
  refine sSeq (fun K121 hK121 => ?_)
  rcases iteSome h with ⟨hc122, h⟩ | ⟨hc122, h⟩
  rotate_left
  · refine sCondF S rfl hc122 ?_
    obtain rfl := Option.some.inj h
    obtain rfl := hu114 _ rfl
    have h := g115
    clear g115
    try dsimp only at h
    obtain rfl := Option.some.inj h
    exact wp_exit (xThen (xThen (xHit (sEnd (.tuple #[]) S (rsl0 rfl ) ⟨(ad12, cp13, ad15, cp16, ad18, cp19, ad112, cp113), rfl, S.mem.sel [0, 2, 3, 4, 5] [] (by decide) rfl rfl⟩))))
  refine sCondT S rfl hc122 ?_
  refine wp_skip (leafT (hK121 _ _ ?_))
  obtain ⟨t126, h, g127⟩ := bindSome h
  refine sCut (fun a w => ∃ o123, o123 = t126 ∧ ∃ ad124, ∃ cp125, St [] E (keysL [eBox bb0 73 [.slice ad_0_0 p0.loops.length cp_0_0, .slice ad_0_1 p0.rows.length cp_0_1, .slice ad_0_2 p0.bound.length cp_0_2, .slice ad_0_3 p0.cross.length cp_0_3, iv p0.next], eRow r_api_Loop 48 (.slice ad_0_0 p0.loops.length cp_0_0) p0.loops, eRow (rI .i64) 3 (.slice ad_0_1 p0.rows.length cp_0_1) p0.rows, eRow (rI .i64) 3 (.slice ad_0_2 p0.bound.length cp_0_2) p0.bound, eRow r_A2_Int 49 (.slice ad_0_3 p0.cross.length cp_0_3) p0.cross]) w0 78 a w [(0, .pointer (some ⟨bb0, 0, none⟩)), (6, .pointer (some ⟨b9, 0, none⟩)), (8, iv (p0.loops.length : Int)), (42, iv p2.A), (43, iv s110)] [eBox bb0 73 [.slice ad12 o11.length cp13, .slice ad15 o14.length cp16, .slice ad18 o17.length cp19, .slice ad124 o123.length cp125, iv o23], eBox b9 61 [.int .u8 p2.Kind, .bool p2.Purl, iv p2.A, iv p2.B], eRow r_api_Loop 48 (.slice ad12 o11.length cp13) o11, eRow (rI .i64) 3 (.slice ad15 o14.length cp16) o14, eRow (rI .i64) 3 (.slice ad18 o17.length cp19) o17, eRow r_A2_Int 49 (.slice ad124 o123.length cp125) o123] []) ?_ (fun a w hI => ?_)
  rotate_left
  · obtain ⟨o123, rfl, ad124, cp125, S⟩ := hI
    have h := g127
    clear g127
    try dsimp only at h
    refine sRegion ?_
    refine sBin (iv (w64 (s110 + 1))) S (wN rfl) rfl rfl rfl (bAdd _ _ _ _ s110 1) rfl (lb rfl) fun a S => ?_
    refine sMove (iv (w64 (s110 + 1))) S (wN rfl) (.inl rfl) rfl rfl (lb rfl) fun a S => ?_
    exact leafL (leafT (⟨(w64 (s110 + 1), o123), (Option.some.inj h).symm, ⟨ad124, cp125, S.fix [0, 1, 2, 3, 4, 5] [] (by decide) rfl rfl rfl⟩⟩))
  refine wp_block ?_
  refine sSeq (fun K128 hK128 => ?_)
  refine sRegion ?_
  refine sMove (iv s110) S (wN rfl) (.inl rfl) rfl rfl (lb rfl) fun a S => ?_
  refine sMove (iv s110) S (wN rfl) (.inr rfl) rfl rfl (lb rfl) fun a S => ?_
  refine leafL (leafT (hK128 _ _ ?_))
  refine sSeq (fun K129 hK129 => ?_)
  refine sRegion ?_
  refine sField (b := b9) (off := 0) 3 3 S (wN rfl) rfl rfl rfl rfl rfl (lb rfl) fun a S => ?_
  refine sLoad1 (p := b9) (off := 3) (T := 61) (vs := [.int .u8 p2.Kind, .bool p2.Purl, iv p2.A, iv p2.B]) 1 (iv p2.B) S (wN rfl) rfl rfl rfl rfl rfl rfl (lb rfl) fun a S => ?_
  refine sMove (iv 0) S (wN rfl) (.inl rfl) rfl rfl (lb rfl) fun a S => ?_
  refine leafL (leafT (hK129 _ _ ?_))
  refine wp_block ?_
  obtain ⟨t136, hl, g135⟩ := bindSome h
  refine sLoop hl (fun s0 a w => match s0 with | (s130, s131) => ∃ ad132, ∃ cp133, St [] E (keysL [eBox bb0 73 [.slice ad_0_0 p0.loops.length cp_0_0, .slice ad_0_1 p0.rows.length cp_0_1, .slice ad_0_2 p0.bound.length cp_0_2, .slice ad_0_3 p0.cross.length cp_0_3, iv p0.next], eRow r_api_Loop 48 (.slice ad_0_0 p0.loops.length cp_0_0) p0.loops, eRow (rI .i64) 3 (.slice ad_0_1 p0.rows.length cp_0_1) p0.rows, eRow (rI .i64) 3 (.slice ad_0_2 p0.bound.length cp_0_2) p0.bound, eRow r_A2_Int 49 (.slice ad_0_3 p0.cross.length cp_0_3) p0.cross]) w0 78 a w [(0, .pointer (some ⟨bb0, 0, none⟩)), (6, .pointer (some ⟨b9, 0, none⟩)), (8, iv (p0.loops.length : Int)), (11, iv s110), (42, iv p2.A), (43, iv s110), (47, iv p2.B), (48, iv s130)] [eBox bb0 73 [.slice ad12 o11.length cp13, .slice ad15 o14.length cp16, .slice ad18 o17.length cp19, .slice ad132 s131.length cp133, iv o23], eBox b9 61 [.int .u8 p2.Kind, .bool p2.Purl, iv p2.A, iv p2.B], eRow r_api_Loop 48 (.slice ad12 o11.length cp13) o11, eRow (rI .i64) 3 (.slice ad15 o14.length cp16) o14, eRow (rI .i64) 3 (.slice ad18 o17.length cp19) o17, eRow r_A2_Int 49 (.slice ad132 s131.length cp133) s131] []) ⟨ad112, cp113, S.fix [0, 1, 2, 3, 4, 5] [] (by decide) rfl rfl rfl⟩ ?_
  clear hl h
  intro s0 a w c0 hI h hu134
  obtain ⟨s130, s131⟩ := s0
  unfold loops_piece_cable_s1_l2 at h
  dsimp only at h hI
  obtain ⟨ad132, cp133, S⟩ := hI
  refine sSeq (fun K140 hK140 => ?_)
  refine sRegion ?_
  refine sBin (.bool (decide (s130 < p2.B))) S (wN rfl) rfl rfl rfl (bLt _ _ _ _ .i64 s130 p2.B) rfl (lb rfl) fun a S => ?_
  refine leafL (leafT (hK140 _ _ ?_))
  refine sSeq (fun K141 hK141 => ?_)
  rcases iteSome h with ⟨hc142, h⟩ | ⟨hc142, h⟩
  rotate_left
  · refine sCondF S rfl hc142 ?_
    obtain rfl := Option.some.inj h
    obtain rfl := hu134 _ rfl
    have h := g135
    clear g135
    try dsimp only at h
    exact wp_exit (xThen (xThen (xHit (leafB (leafT (⟨s131, Option.some.inj h, ad132, cp133, S.fix [0, 1, 2, 3, 4, 5] [] (by decide) rfl rfl rfl⟩))))))
  refine sCondT S rfl hc142 ?_
  refine wp_skip (leafT (hK141 _ _ ?_))
  refine sSeq (fun K143 hK143 => ?_)
  refine wp_block ?_
  refine sSeq (fun K144 hK144 => ?_)
  refine sRegion ?_
  refine sMove (iv s130) S (wN rfl) (.inl rfl) rfl rfl (lb rfl) fun a S => ?_
  refine sMove (iv s130) S (wN rfl) (.inr rfl) rfl rfl (lb rfl) fun a S => ?_
  refine leafL (leafT (hK144 _ _ ?_))
  refine sSeq (fun K145 hK145 => ?_)
  refine sRegion ?_
  refine sMove (iv (p0.loops.length : Int)) S (wN rfl) (.inl rfl) rfl rfl (lb rfl) fun a S => ?_
  refine sField (b := b9) (off := 0) 3 3 S (wN rfl) rfl rfl rfl rfl rfl (lb rfl) fun a S => ?_
  refine sLoad1 (p := b9) (off := 3) (T := 61) (vs := [.int .u8 p2.Kind, .bool p2.Purl, iv p2.A, iv p2.B]) 1 (iv p2.B) S (wN rfl) rfl rfl rfl rfl rfl rfl (lb rfl) fun a S => ?_
  refine sBin (iv (w64 ((p0.loops.length : Int) + p2.B))) S (wN rfl) rfl rfl rfl (bAdd _ _ _ _ (p0.loops.length : Int) p2.B) rfl (lb rfl) fun a S => ?_
  refine sMove (iv s110) S (wN rfl) (.inl rfl) rfl rfl (lb rfl) fun a S => ?_
  refine sBin (iv (w64 ((w64 ((p0.loops.length : Int) + p2.B)) + s110))) S (wN rfl) rfl rfl rfl (bAdd _ _ _ _ (w64 ((p0.loops.length : Int) + p2.B)) s110) rfl (lb rfl) fun a S => ?_
  refine sMove (iv (p0.loops.length : Int)) S (wN rfl) (.inl rfl) rfl rfl (lb rfl) fun a S => ?_
  refine sMove (iv s130) S (wN rfl) (.inl rfl) rfl rfl (lb rfl) fun a S => ?_
  refine sBin (iv (w64 ((p0.loops.length : Int) + s130))) S (wN rfl) rfl rfl rfl (bAdd _ _ _ _ (p0.loops.length : Int) s130) rfl (lb rfl) fun a S => ?_
  refine sBuild [(0, iv (w64 ((w64 ((p0.loops.length : Int) + p2.B)) + s110))), (1, iv (w64 ((p0.loops.length : Int) + s130)))] [iv (w64 ((w64 ((p0.loops.length : Int) + p2.B)) + s110)), iv (w64 ((p0.loops.length : Int) + s130))] S (wN rfl) rfl rfl rfl rfl (lb rfl) fun a S => ?_
  refine sAlloc (.agg #[iv 0, iv 0]) S (wN rfl) rfl rfl [iv 0, iv 0] rfl rfl (lb rfl) fun a b146 w S => ?_
  refine sStore (p := b146) (off := 0) (T := 49) (vs := [iv 0, iv 0]) (v := .agg #[iv (w64 ((w64 ((p0.loops.length : Int) + p2.B)) + s110)), iv (w64 ((p0.loops.length : Int) + s130))]) 0 [iv (w64 ((w64 ((p0.loops.length : Int) + p2.B)) + s110)), iv (w64 ((p0.loops.length : Int) + s130))] S (wN rfl) rfl rfl rfl rfl rfl rfl rfl (by simp) rfl fun a w S => ?_
  refine leafL (leafT (hK145 _ _ ?_))
  obtain ⟨t149, h, g150⟩ := bindSome h
  refine sCut (fun a w => ∃ o147, ∃ o148, (o147, o148) = t149 ∧ St [] E (keysL [eBox bb0 73 [.slice ad_0_0 p0.loops.length cp_0_0, .slice ad_0_1 p0.rows.length cp_0_1, .slice ad_0_2 p0.bound.length cp_0_2, .slice ad_0_3 p0.cross.length cp_0_3, iv p0.next], eRow r_api_Loop 48 (.slice ad_0_0 p0.loops.length cp_0_0) p0.loops, eRow (rI .i64) 3 (.slice ad_0_1 p0.rows.length cp_0_1) p0.rows, eRow (rI .i64) 3 (.slice ad_0_2 p0.bound.length cp_0_2) p0.bound, eRow r_A2_Int 49 (.slice ad_0_3 p0.cross.length cp_0_3) p0.cross]) w0 78 a w [(0, .pointer (some ⟨bb0, 0, none⟩)), (6, .pointer (some ⟨b9, 0, none⟩)), (8, iv (p0.loops.length : Int)), (11, iv s110), (13, .pointer (some ⟨b146, 0, none⟩)), (42, iv p2.A), (43, iv s110), (47, iv p2.B), (48, iv s130)] [eBox bb0 73 [.slice ad12 o11.length cp13, .slice ad15 o14.length cp16, .slice ad18 o17.length cp19, .slice ad132 s131.length cp133, iv o23], eBox b9 61 [.int .u8 p2.Kind, .bool p2.Purl, iv p2.A, iv p2.B], eBox b146 49 [iv o147, iv o148], eRow r_api_Loop 48 (.slice ad12 o11.length cp13) o11, eRow (rI .i64) 3 (.slice ad15 o14.length cp16) o14, eRow (rI .i64) 3 (.slice ad18 o17.length cp19) o17, eRow r_A2_Int 49 (.slice ad132 s131.length cp133) s131] []) ?_ (fun a w hI => ?_)
  · refine sSeq (fun K151 hK151 => ?_)
    refine sRegion ?_
    refine sField (b := b9) (off := 0) 0 0 S (wN rfl) rfl rfl rfl rfl rfl (lb rfl) fun a S => ?_
    refine sLoad1 (p := b9) (off := 0) (T := 61) (vs := [.int .u8 p2.Kind, .bool p2.Purl, iv p2.A, iv p2.B]) 2 (.int .u8 p2.Kind) S (wN rfl) rfl rfl rfl rfl rfl rfl (lb rfl) fun a S => ?_
    refine sBin (.bool (p2.Kind == 7)) S (wN rfl) rfl rfl rfl (bEq _ _ _ _ .u8 p2.Kind 7) rfl (lb rfl) fun a S => ?_
    refine leafL (leafT (hK151 _ _ ?_))
    rcases iteSome h with ⟨hc152, h⟩ | ⟨hc152, h⟩
    rotate_left
    · refine sCondF S rfl hc152 ?_
      exact wp_skip (leafT (⟨w64 ((w64 ((p0.loops.length : Int) + p2.B)) + s110), w64 ((p0.loops.length : Int) + s130), Option.some.inj h, S.fix [1, 2, 0, 3, 4, 5, 6] [] (by decide) rfl rfl rfl⟩))
    refine sCondT S rfl hc152 ?_
    refine sRegion ?_
    refine sSliceA (m := 2) (sz := 1) (b := b146) S (wN rfl) rfl Try.underlying49 rfl rfl (by decide) rfl (lb rfl) fun a S => ?_
    obtain ⟨r153, hx154, h⟩ := bindSome h
    refine sCall (X := Unit) (f := 59) (vs := [.slice (some ⟨b146, 0, none⟩) 2 2]) (val := fun _ => .tuple #[]) (B' := fun _ => [eBox b146 49 [iv r153.1, iv r153.2]]) (D' := fun _ => []) [eBox b146 49 [iv (w64 ((w64 ((p0.loops.length : Int) + p2.B)) + s110)), iv (w64 ((p0.loops.length : Int) + s130))]] [eBox bb0 73 [.slice ad12 o11.length cp13, .slice ad15 o14.length cp16, .slice ad18 o17.length cp19, .slice ad132 s131.length cp133, iv o23], eBox b9 61 [.int .u8 p2.Kind, .bool p2.Purl, iv p2.A, iv p2.B], eRow r_api_Loop 48 (.slice ad12 o11.length cp13) o11, eRow (rI .i64) 3 (.slice ad15 o14.length cp16) o14, eRow (rI .i64) 3 (.slice ad18 o17.length cp19) o17, eRow r_A2_Int 49 (.slice ad132 s131.length cp133) s131] [] [0, 1, 2, 3, 4, 5, 6] [] S (wN rfl) rfl callee59 rfl (by decide) rfl rfl (fun E1 w1 S1 => c_slices_Reverse___int_int__s1 E1 w1 (w64 ((w64 ((p0.loops.length : Int) + p2.B)) + s110), w64 ((p0.loops.length : Int) + s130)) b146 r153 hx154 S1) rfl (lb rfl) fun _ a w S => ?_
    exact leafL (leafT (⟨r153.1, r153.2, Option.some.inj h, S.fix [1, 2, 0, 3, 4, 5, 6] [] (by decide) rfl rfl rfl⟩))
  obtain ⟨o147, o148, rfl, S⟩ := hI
  have h := g150
  clear g150
  try dsimp only at h
  obtain ⟨l157, hx158, h⟩ := bindSome h
  refine sDraw (nf := [6, 7, 10]) (W := [(0, 66, .pointer (some ⟨bb0, 0, none⟩)), (1, 67, .pointer (some ⟨bb0, 0, none⟩)), (2, 68, .pointer (some ⟨bb0, 0, none⟩)), (3, 69, .pointer (some ⟨bb0, 3, none⟩)), (4, 70, .slice ad132 s131.length cp133), (5, 71, .agg #[iv o147, iv o148])]) rfl S ?_
  refine node_by (A := anc_loops_piece_cable_s1_1) (nf := [6, 7, 10]) (Y := []) (W := [(0, 66, .pointer (some ⟨bb0, 0, none⟩)), (1, 67, .pointer (some ⟨bb0, 0, none⟩)), (2, 68, .pointer (some ⟨bb0, 0, none⟩)), (3, 69, .pointer (some ⟨bb0, 3, none⟩)), (4, 70, .slice ad132 s131.length cp133), (5, 71, .agg #[iv o147, iv o148])]) 11 (by kernel_rfl) (by kernel_rfl) (by kernel_rfl) (by kernel_rfl) (by kernel_rfl) [0, 1, 2, 3, 4, 5] (by kernel_rfl) (by decide) (by decide) (aF 0 10 (by decide) ?_ (aF 1 9 (by decide) ?_ (aF 2 8 (by decide) ?_ (aF 3 7 (by decide) ?_ (aF 4 6 (by decide) ?_ (aF 5 5 (by decide) ?_ (aN 6 4 (by decide) ?_ (aB 7 3 6 (by decide) (aE 8 2 6 (by decide) (aE 9 1 6 (by decide) (aB 10 0 6 (by decide) (trivial)))))))))))) [] (fun q hq => by cases hq) (fun hY => absurd (hY 6 (by decide)) (by decide))
  · refine fI 66 (.pointer (some ⟨bb0, 0, none⟩)) [(0, .pointer (some ⟨bb0, 0, none⟩))] 0 [none] rfl rfl rfl rfl rfl rfl fun G a w S => ?_
    refine sMove (.pointer (some ⟨bb0, 0, none⟩)) S (wN rfl) (.inl rfl) rfl rfl (lb rfl) fun a S => ?_
    exact leafL ⟨rfl, S⟩
  · refine fI 67 (.pointer (some ⟨bb0, 0, none⟩)) [(0, .pointer (some ⟨bb0, 0, none⟩))] 1 [none] rfl rfl rfl rfl rfl rfl fun G a w S => ?_
    refine sMove (.pointer (some ⟨bb0, 0, none⟩)) S (wN rfl) (.inl rfl) rfl rfl (lb rfl) fun a S => ?_
    exact leafL ⟨rfl, S⟩
  · refine fI 68 (.pointer (some ⟨bb0, 0, none⟩)) [(67, .pointer (some ⟨bb0, 0, none⟩))] 2 [some 1] rfl rfl rfl rfl rfl rfl fun G a w S => ?_
    refine nilCheck_ok (q := ⟨bb0, 0, none⟩) S (wN rfl) rfl rfl rfl (lb rfl) fun a S => ?_
    exact leafL ⟨rfl, S⟩
  · refine fI 69 (.pointer (some ⟨bb0, 3, none⟩)) [(68, .pointer (some ⟨bb0, 0, none⟩))] 3 [some 2] rfl rfl rfl rfl rfl rfl fun G a w S => ?_
    refine sField (b := bb0) (off := 0) 3 3 S (wN rfl) rfl rfl rfl rfl rfl (lb rfl) fun a S => ?_
    exact leafL ⟨rfl, S⟩
  · refine fI 70 (.slice ad132 s131.length cp133) [(69, .pointer (some ⟨bb0, 3, none⟩))] 4 [some 3] rfl rfl rfl rfl rfl rfl fun G a w S => ?_
    refine sLoad1 (p := bb0) (off := 3) (T := 73) (vs := [.slice ad12 o11.length cp13, .slice ad15 o14.length cp16, .slice ad18 o17.length cp19, .slice ad132 s131.length cp133, iv o23]) 0 (.slice ad132 s131.length cp133) S (wN rfl) rfl rfl rfl rfl rfl rfl (lb rfl) fun a S => ?_
    exact leafL ⟨rfl, S⟩
  · refine fI 71 (.agg #[iv o147, iv o148]) [(13, .pointer (some ⟨b146, 0, none⟩))] 5 [none] rfl rfl rfl rfl rfl rfl fun G a w S => ?_
    refine sLoadN (p := b146) (off := 0) (T := 49) (vs := [iv o147, iv o148]) 2 [iv o147, iv o148] S (wN rfl) rfl rfl rfl rfl rfl rfl rfl (lb rfl) fun a S => ?_
    exact leafL ⟨rfl, S⟩
  refine ⟨_, [(71, .agg #[iv o147, iv o148])], rfl, (srcs_of [some 5] rfl rfl rfl), fun G a w S => ?_⟩
  have S := S.learn (fRep r_A2_Int (.agg #[iv o147, iv o148]) (o147, o148)) rfl
  refine sLit (r := r_A2_Int) (T := 49) (xs := [(o147, o148)]) [(0, .agg #[iv o147, iv o148])] 1 [.agg #[iv o147, iv o148]] [iv o147, iv o148] (.agg #[iv 0, iv 0]) 16 S (wN rfl) rfl rfl Try.underlying37 rfl (by decide) (by decide) (by kernel_rfl) rfl (fun E1 w1 hE => All.cons (r_A2_Int.mono hE (S.mem.know (i := 0) (e := fRep r_A2_Int (.agg #[iv o147, iv o148]) (o147, o148)) rfl)) (All.nil _ _ _)) rfl rfl (lb rfl) fun a w ad161 cp162 S => ?_
  refine leafL ⟨rfl, _, _, .inl ⟨72, (.slice ad161 [(o147, o148)].length cp162), [], rfl, S, hz_of rfl, ?_⟩⟩
  refine node_by (A := anc_loops_piece_cable_s1_1) (nf := [6, 7, 10]) (Y := [6]) 11 (by kernel_rfl) (by kernel_rfl) (by kernel_rfl) (by kernel_rfl) (by kernel_rfl) [6, 0, 1, 2, 3, 4, 5] (by kernel_rfl) (by decide) (by decide) (aF 0 10 (by decide) ?_ (aF 1 9 (by decide) ?_ (aF 2 8 (by decide) ?_ (aF 3 7 (by decide) ?_ (aF 4 6 (by decide) ?_ (aD 5 5 6 (by decide) (aY 6 4 (by decide) (aN 7 3 (by decide) ?_ (aE 8 2 7 (by decide) (aE 9 1 7 (by decide) (aB 10 0 7 (by decide) (trivial)))))))))))) [] (fun q hq => by cases hq) (fun hY => absurd (hY 7 (by decide)) (by decide))
  · refine fI 66 (.pointer (some ⟨bb0, 0, none⟩)) [(0, .pointer (some ⟨bb0, 0, none⟩))] 1 [none] rfl rfl rfl rfl rfl rfl fun G a w S => ?_
    refine sMove (.pointer (some ⟨bb0, 0, none⟩)) S (wN rfl) (.inl rfl) rfl rfl (lb rfl) fun a S => ?_
    exact leafL ⟨rfl, S⟩
  · refine fI 67 (.pointer (some ⟨bb0, 0, none⟩)) [(0, .pointer (some ⟨bb0, 0, none⟩))] 2 [none] rfl rfl rfl rfl rfl rfl fun G a w S => ?_
    refine sMove (.pointer (some ⟨bb0, 0, none⟩)) S (wN rfl) (.inl rfl) rfl rfl (lb rfl) fun a S => ?_
    exact leafL ⟨rfl, S⟩
  · refine fI 68 (.pointer (some ⟨bb0, 0, none⟩)) [(67, .pointer (some ⟨bb0, 0, none⟩))] 3 [some 2] rfl rfl rfl rfl rfl rfl fun G a w S => ?_
    refine nilCheck_ok (q := ⟨bb0, 0, none⟩) S (wN rfl) rfl rfl rfl (lb rfl) fun a S => ?_
    exact leafL ⟨rfl, S⟩
  · refine fI 69 (.pointer (some ⟨bb0, 3, none⟩)) [(68, .pointer (some ⟨bb0, 0, none⟩))] 4 [some 3] rfl rfl rfl rfl rfl rfl fun G a w S => ?_
    refine sField (b := bb0) (off := 0) 3 3 S (wN rfl) rfl rfl rfl rfl rfl (lb rfl) fun a S => ?_
    exact leafL ⟨rfl, S⟩
  · refine fI 70 (.slice ad132 s131.length cp133) [(69, .pointer (some ⟨bb0, 3, none⟩))] 5 [some 4] rfl rfl rfl rfl rfl rfl fun G a w S => ?_
    refine sLoad1 (p := bb0) (off := 3) (T := 73) (vs := [.slice ad12 o11.length cp13, .slice ad15 o14.length cp16, .slice ad18 o17.length cp19, .slice ad132 s131.length cp133, iv o23]) 1 (.slice ad132 s131.length cp133) S (wN rfl) rfl rfl rfl rfl rfl rfl (lb rfl) fun a S => ?_
    exact leafL ⟨rfl, S⟩
  refine ⟨_, [(70, .slice ad132 s131.length cp133), (72, .slice ad161 [(o147, o148)].length cp162)], rfl, (srcs_of [some 5, some 0] rfl rfl rfl), fun G a w S => ?_⟩
  refine sApp (r := r_A2_Int) (T := 49) (xs := s131) (ys := [(o147, o148)]) (v := .slice ad132 s131.length cp133) (u := .slice ad161 [(o147, o148)].length cp162) 7 (.agg #[iv 0, iv 0]) 16 S (wN rfl) rfl Try.underlying37 rfl rfl (by decide) rfl rfl rfl (src_R (T := 49) 0 S.mem rfl) hx158 rfl (lb rfl) fun a w ad163 cp164 S => ?_
  refine leafL ⟨rfl, _, _, .inl ⟨73, (.slice ad163 l157.length cp164), [(8, 74, .pointer (some ⟨bb0, 0, none⟩)), (9, 75, .pointer (some ⟨bb0, 3, none⟩))], rfl, S, hz_of rfl, ?_⟩⟩
  refine node_by (A := anc_loops_piece_cable_s1_1) (nf := [6, 7, 10]) (Y := [7, 6]) 11 (by kernel_rfl) (by kernel_rfl) (by kernel_rfl) (by kernel_rfl) (by kernel_rfl) [8, 9, 7, 6, 0, 1, 2, 3, 4, 5] (by kernel_rfl) (by decide) (by decide) (aF 0 10 (by decide) ?_ (aD 1 9 7 (by decide) (aD 2 8 7 (by decide) (aD 3 7 7 (by decide) (aD 4 6 7 (by decide) (aD 5 5 7 (by decide) (aY 6 4 (by decide) (aY 7 3 (by decide) (aF 8 2 (by decide) ?_ (aF 9 1 (by decide) ?_ (aN 10 0 (by decide) ?_ (trivial)))))))))))) [] (fun q hq => by cases hq) (fun hY => absurd (hY 10 (by decide)) (by decide))
  · refine fI 66 (.pointer (some ⟨bb0, 0, none⟩)) [(0, .pointer (some ⟨bb0, 0, none⟩))] 4 [none] rfl rfl rfl rfl rfl rfl fun G a w S => ?_
    refine sMove (.pointer (some ⟨bb0, 0, none⟩)) S (wN rfl) (.inl rfl) rfl rfl (lb rfl) fun a S => ?_
    exact leafL ⟨rfl, S⟩
  · refine fI 74 (.pointer (some ⟨bb0, 0, none⟩)) [(66, .pointer (some ⟨bb0, 0, none⟩))] 0 [some 4] rfl rfl rfl rfl rfl rfl fun G a w S => ?_
    refine nilCheck_ok (q := ⟨bb0, 0, none⟩) S (wN rfl) rfl rfl rfl (lb rfl) fun a S => ?_
    exact leafL ⟨rfl, S⟩
  · refine fI 75 (.pointer (some ⟨bb0, 3, none⟩)) [(74, .pointer (some ⟨bb0, 0, none⟩))] 1 [some 0] rfl rfl rfl rfl rfl rfl fun G a w S => ?_
    refine sField (b := bb0) (off := 0) 3 3 S (wN rfl) rfl rfl rfl rfl rfl (lb rfl) fun a S => ?_
    exact leafL ⟨rfl, S⟩
  refine ⟨_, [(73, .slice ad163 l157.length cp164), (75, .pointer (some ⟨bb0, 3, none⟩))], rfl, (srcs_of [some 2, some 1] rfl rfl rfl), fun G a w S => ?_⟩
  refine sStore (p := bb0) (off := 3) (T := 73) (vs := [.slice ad12 o11.length cp13, .slice ad15 o14.length cp16, .slice ad18 o17.length cp19, .slice ad132 s131.length cp133, iv o23]) (v := .slice ad163 l157.length cp164) 2 [.slice ad163 l157.length cp164] S (wN rfl) rfl rfl rfl rfl rfl rfl rfl (by simp) rfl fun a w S => ?_
  refine leafL ⟨rfl, _, _, .inr ⟨[], rfl, S, hz_of rfl, ?_⟩⟩
  refine node_by (A := anc_loops_piece_cable_s1_1) (nf := [6, 7, 10]) (Y := [10, 7, 6]) 11 (by kernel_rfl) (by kernel_rfl) (by kernel_rfl) (by kernel_rfl) (by kernel_rfl) [8, 9, 7, 6, 0, 1, 2, 3, 4, 5] (by kernel_rfl) (by decide) (by decide) (aD 0 10 10 (by decide) (aD 1 9 10 (by decide) (aD 2 8 10 (by decide) (aD 3 7 10 (by decide) (aD 4 6 10 (by decide) (aD 5 5 10 (by decide) (aY 6 4 (by decide) (aY 7 3 (by decide) (aD 8 2 10 (by decide) (aD 9 1 10 (by decide) (aY 10 0 (by decide) (trivial)))))))))))) [(0, .pointer (some ⟨bb0, 0, none⟩)), (6, .pointer (some ⟨b9, 0, none⟩)), (8, iv (p0.loops.length : Int)), (11, iv s110), (42, iv p2.A), (43, iv s110), (47, iv p2.B), (48, iv s130)] (fin_of [none, none, none, none, none, none, none, none] rfl (by kernel_rfl) (by kernel_rfl)) (fun _ a w S => ?_)
  refine leafB (leafT (hK143 _ _ ?_))
  refine sRegion ?_
  refine sBin (iv (w64 (s130 + 1))) S (wN rfl) rfl rfl rfl (bAdd _ _ _ _ s130 1) rfl (lb rfl) fun a S => ?_
  refine sMove (iv (w64 (s130 + 1))) S (wN rfl) (.inl rfl) rfl rfl (lb rfl) fun a S => ?_
  exact leafL (leafT (⟨(w64 (s130 + 1), l157), (Option.some.inj h).symm, ⟨ad163, cp164, S.fix [0, 3, 5, 6, 7, 1] [] (by decide) rfl rfl rfl⟩⟩))

end Go.Proofs.Yticjoiolfibmlaa
namespace Go.Proofs.Yticjoiolfibmlaa
open Go.RowKit
set_option linter.unusedVariables false

def anc_loops_piece_work_s1_0 : List (List Nat) := [[], [0], [0, 1], [0, 1, 2], [], [4], [4, 5], [0, 1, 2, 3, 4, 5, 6], [0, 1, 2, 3, 4, 5, 6, 7], [0, 1, 2, 3, 4, 5, 6, 7, 8], [0, 1, 2, 3, 4, 5, 6, 7, 8, 9], [0, 1, 2, 3, 4, 5, 6, 7, 8, 9, 10]]
noncomputable def loops_piece_work_s1_l1 (p3 : api_Stitch) (r9 : ((List Int) × loops_piece)) (p1 : Int) (p2 : Int) : (Int × List api_Loop × List Int × List Int × List (Int × Int) × Int) → Option ((Int × List api_Loop × List Int × List Int × List (Int × Int) × Int) ⊕ (List api_Loop × List Int × List Int × List (Int × Int) × Int)) := fun s0 => match s0 with
  | (s140, s141, s144, s147, s150, s153) =>
    if decide (s140 < p3.A) then
      Option.bind (F_slices_Clone___int_int__s0 r9.1) fun r174 =>
      Option.bind (F_loops_piece_add_s1 (loops_piece.mk s141 s144 s147 s150 s153) (api_Loop.mk p1 p2 ([] : (List Int)) p3.Purl) [r174]) fun r180 =>
      some (.inl (w64 (s140 + 1), r180.loops, r180.rows, r180.bound, r180.cross, r180.next))
    else
      some (.inr (s141, s144, s147, s150, s153))
noncomputable def F_loops_piece_work_s1 (p0 : loops_piece) (p1 : Int) (p2 : Int) (p3 : api_Stitch) : Option loops_piece :=
  Option.bind (F_stitch_Uses [p3]) fun r6 =>
  Option.bind (F_loops_piece_take_s3 p0 r6.1) fun r9 =>
  Option.bind (α := Bool) (
    if p3.Kind == 2 then
      some (p3.Kind == 2)
    else
      some (p3.Kind == 9)) fun o24 =>
  if o24 then
    Option.bind (makeO (if (1 : Int) < p3.A then p3.A else 1) ([] : (List Int))) fun m32 =>
    Option.bind (F_loops_piece_add_s1 r9.2 (api_Loop.mk p1 p2 ([] : (List Int)) p3.Purl) m32) fun r34 =>
    some r34
  else
    if p3.Kind == 1 then
      Option.bind (F_loops_piece_add_s1 r9.2 (api_Loop.mk p1 p2 ([] : (List Int)) p3.Purl) [r9.1]) fun r58 =>
      some r58
    else
      if p3.Kind == 8 then
        Option.bind (idxO r9.1 0) fun x71 =>
        Option.bind (idxO r9.2.loops x71) fun x76 =>
        Option.bind (F_loops_piece_add_s1 r9.2 (api_Loop.mk p1 p2 ([] : (List Int)) x76.Purl) [r9.1]) fun r95 =>
        some r95
      else
        if p3.Kind == 4 then
          Option.bind (F_slices_Reverse___int_int__s0 r9.1) fun r108 =>
          Option.bind (F_loops_piece_add_s1 r9.2 (api_Loop.mk p1 p2 ([] : (List Int)) p3.Purl) [r108]) fun r113 =>
          some r113
        else
          if p3.Kind == 3 then
            Option.bind (F_loops_piece_add_s1 r9.2 (api_Loop.mk p1 p2 ([] : (List Int)) p3.Purl) [r9.1]) fun r127 =>
            some r127
          else
            if p3.Kind == 5 then
              Option.bind (whileO (loops_piece_work_s1_l1 p3 r9 p1 p2) (0, r9.2.loops, r9.2.rows, r9.2.bound, r9.2.cross, r9.2.next)) fun (e157, e160, e163, e166, e169) =>
                some (loops_piece.mk e157 e160 e163 e166 e169)
            else
              if p3.Kind == 10 then
                Option.bind (appO r9.2.bound r9.1) fun l204 =>
                some (loops_piece.mk r9.2.loops r9.2.rows l204 r9.2.cross r9.2.next)
              else
                Option.bind (F_loops_piece_cable_s1 r9.2 (api_Loop.mk p1 p2 ([] : (List Int)) p3.Purl) p3 r9.1) fun r208 =>
                some r208
set_option maxHeartbeats 4000000 in
set_option maxRecDepth 100000 in
theorem c_loops_piece_work_s1 (E : Nat → Prop) (w0 : World) (p0 : loops_piece) (bb0 : Nat) (ad_0_0 : Option Addr) (cp_0_0 : Nat) (ad_0_1 : Option Addr) (cp_0_1 : Nat) (ad_0_2 : Option Addr) (cp_0_2 : Nat) (ad_0_3 : Option Addr) (cp_0_3 : Nat) (p1 : Int) (p2 : Int) (p3 : api_Stitch) (v3 : Value) (r : loops_piece) (h : F_loops_piece_work_s1 p0 p1 p2 p3 = some r) (S : St0 E (keysL [eBox bb0 73 [.slice ad_0_0 p0.loops.length cp_0_0, .slice ad_0_1 p0.rows.length cp_0_1, .slice ad_0_2 p0.bound.length cp_0_2, .slice ad_0_3 p0.cross.length cp_0_3, iv p0.next], eRow r_api_Loop 48 (.slice ad_0_0 p0.loops.length cp_0_0) p0.loops, eRow (rI .i64) 3 (.slice ad_0_1 p0.rows.length cp_0_1) p0.rows, eRow (rI .i64) 3 (.slice ad_0_2 p0.bound.length cp_0_2) p0.bound, eRow r_A2_Int 49 (.slice ad_0_3 p0.cross.length cp_0_3) p0.cross]) w0 w0 [eBox bb0 73 [.slice ad_0_0 p0.loops.length cp_0_0, .slice ad_0_1 p0.rows.length cp_0_1, .slice ad_0_2 p0.bound.length cp_0_2, .slice ad_0_3 p0.cross.length cp_0_3, iv p0.next], eRow r_api_Loop 48 (.slice ad_0_0 p0.loops.length cp_0_0) p0.loops, eRow (rI .i64) 3 (.slice ad_0_1 p0.rows.length cp_0_1) p0.rows, eRow (rI .i64) 3 (.slice ad_0_2 p0.bound.length cp_0_2) p0.bound, eRow r_A2_Int 49 (.slice ad_0_3 p0.cross.length cp_0_3) p0.cross] [fRep r_api_Stitch (v3) p3]) :
    Calls Try.prog 44 #[.pointer (some ⟨bb0, 0, none⟩), iv p1, iv p2, v3] w0 (Ret (X := Option Addr × Nat × Option Addr × Nat × Option Addr × Nat × Option Addr × Nat) E (keysL [eBox bb0 73 [.slice ad_0_0 p0.loops.length cp_0_0, .slice ad_0_1 p0.rows.length cp_0_1, .slice ad_0_2 p0.bound.length cp_0_2, .slice ad_0_3 p0.cross.length cp_0_3, iv p0.next], eRow r_api_Loop 48 (.slice ad_0_0 p0.loops.length cp_0_0) p0.loops, eRow (rI .i64) 3 (.slice ad_0_1 p0.rows.length cp_0_1) p0.rows, eRow (rI .i64) 3 (.slice ad_0_2 p0.bound.length cp_0_2) p0.bound, eRow r_A2_Int 49 (.slice ad_0_3 p0.cross.length cp_0_3) p0.cross]) w0 (fun _ => .tuple #[]) (fun x => [eBox bb0 73 [.slice x.1 r.loops.length x.2.1, .slice x.2.2.1 r.rows.length x.2.2.2.1, .slice x.2.2.2.2.1 r.bound.length x.2.2.2.2.2.1, .slice x.2.2.2.2.2.2.1 r.cross.length x.2.2.2.2.2.2.2, iv r.next], eRow r_api_Loop 48 (.slice x.1 r.loops.length x.2.1) r.loops, eRow (rI .i64) 3 (.slice x.2.2.1 r.rows.length x.2.2.2.1) r.rows, eRow (rI .i64) 3 (.slice x.2.2.2.2.1 r.bound.length x.2.2.2.2.2.1) r.bound, eRow r_A2_Int 49 (.slice x.2.2.2.2.2.2.1 r.cross.length x.2.2.2.2.2.2.2) r.cross]) (fun _ => [])) := by
  unfold F_loops_piece_work_s1 at h
  obtain rfl : v3 = .agg #[.int .u8 p3.Kind, .bool p3.Purl, iv p3.A, iv p3.B] := S.know (i := 0) (e := fRep r_api_Stitch (v3) p3) rfl
  refine sEnter (args := [.pointer (some ⟨bb0, 0, none⟩), iv p1, iv p2, .agg #[.int .u8 p3.Kind, .bool p3.Purl, iv p3.A, iv p3.B]]) 108 Try.func44 rfl rfl (by simp) S (fun a S => ?_)
  refine sSeq (fun K1 hK1 => ?_)
  refine sRegion ?_
  refine sBox (v := .agg #[.int .u8 p3.Kind, .bool p3.Purl, iv p3.A, iv p3.B]) S (wN rfl) rfl rfl [.int .u8 p3.Kind, .bool p3.Purl, iv p3.A, iv p3.B] rfl rfl (lb rfl) fun a b2 w S => ?_
  refine leafL (leafT (hK1 _ _ ?_))
  refine sSeq (fun K3 hK3 => ?_)
  refine sRegion ?_
  refine sLoadN (p := b2) (off := 0) (T := 61) (vs := [.int .u8 p3.Kind, .bool p3.Purl, iv p3.A, iv p3.B]) 0 [.int .u8 p3.Kind, .bool p3.Purl, iv p3.A, iv p3.B] S (wN rfl) rfl rfl rfl rfl rfl rfl rfl (lb rfl) fun a S => ?_
  refine sLit (r := r_api_Stitch) (T := 61) (xs := [p3]) [(0, .agg #[.int .u8 p3.Kind, .bool p3.Purl, iv p3.A, iv p3.B])] 1 [.agg #[.int .u8 p3.Kind, .bool p3.Purl, iv p3.A, iv p3.B]] [.int .u8 p3.Kind, .bool p3.Purl, iv p3.A, iv p3.B] (.agg #[.int .u8 0, .bool false, iv 0, iv 0]) 24 S (wN rfl) rfl rfl Try.underlying62 rfl (by decide) (by decide) (by kernel_rfl) rfl (fun E1 w1 hE => All.cons (r_api_Stitch.mono hE (S.mem.know (i := 0) (e := fRep r_api_Stitch (.agg #[.int .u8 p3.Kind, .bool p3.Purl, iv p3.A, iv p3.B]) p3) rfl)) (All.nil _ _ _)) rfl rfl (lb rfl) fun a w ad4 cp5 S => ?_
  obtain ⟨r6, hx7, h⟩ := bindSome h
  have S1 := S.mem
  have S1 := S1.shutR (r := r_api_Stitch) (T := 61) (v := .slice ad4 [p3].length cp5) (xs := [p3]) 0 rfl
  refine sCallQ (X := Unit) (f := 53) (vs := [.slice ad4 [p3].length cp5]) (val := fun _ => .tuple #[iv r6.1, iv r6.2]) S (wN rfl) rfl callee53 rfl (S1.quiet [0] rfl) (fun E1 w1 S1 => c_stitch_Uses E1 w1 [p3] (.slice ad4 [p3].length cp5) r6 hx7 S1) rfl (lb rfl) fun _ a w S => ?_
  refine sMove (.tuple #[iv r6.1, iv r6.2]) S (wN rfl) (.inl rfl) rfl rfl (lb rfl) fun a S => ?_
  refine sExtract (vs := [iv r6.1, iv r6.2]) (iv r6.1) S (wN rfl) rfl rfl rfl rfl (lb rfl) fun a S => ?_
  refine sExtract (vs := [iv r6.1, iv r6.2]) (iv r6.2) S (wN rfl) rfl rfl rfl rfl (lb rfl) fun a S => ?_
  refine sMove (iv r6.1) S (wN rfl) (.inr rfl) rfl rfl (lb rfl) fun a S => ?_
  refine sMove (iv r6.2) S (wN rfl) (.inr rfl) rfl rfl (lb rfl) fun a S => ?_
  refine leafL (leafT (hK3 _ _ ?_))
  refine sSeq (fun K8 hK8 => ?_)
  refine sRegion ?_
  refine sMove (.pointer (some ⟨bb0, 0, none⟩)) S (wN rfl) (.inl rfl) rfl rfl (lb rfl) fun a S => ?_
  refine sMove (iv r6.1) S (wN rfl) (.inl rfl) rfl rfl (lb rfl) fun a S => ?_
  obtain ⟨r9, hx10, h⟩ := bindSome h
  refine sCall (X := Option Addr × Nat × Option Addr × Nat × Option Addr × Nat × Option Addr × Nat × Option Addr × Nat) (f := 57) (vs := [.pointer (some ⟨bb0, 0, none⟩), iv r6.1]) (val := fun x => .slice x.1 r9.1.length x.2.1) (B' := fun x => [eRow (rI .i64) 3 (.slice x.1 r9.1.length x.2.1) r9.1, eBox bb0 73 [.slice x.2.2.1 r9.2.loops.length x.2.2.2.1, .slice x.2.2.2.2.1 r9.2.rows.length x.2.2.2.2.2.1, .slice x.2.2.2.2.2.2.1 r9.2.bound.length x.2.2.2.2.2.2.2.1, .slice x.2.2.2.2.2.2.2.2.1 r9.2.cross.length x.2.2.2.2.2.2.2.2.2, iv r9.2.next], eRow r_api_Loop 48 (.slice x.2.2.1 r9.2.loops.length x.2.2.2.1) r9.2.loops, eRow (rI .i64) 3 (.slice x.2.2.2.2.1 r9.2.rows.length x.2.2.2.2.2.1) r9.2.rows, eRow (rI .i64) 3 (.slice x.2.2.2.2.2.2.1 r9.2.bound.length x.2.2.2.2.2.2.2.1) r9.2.bound, eRow r_A2_Int 49 (.slice x.2.2.2.2.2.2.2.2.1 r9.2.cross.length x.2.2.2.2.2.2.2.2.2) r9.2.cross]) (D' := fun _ => []) [eBox bb0 73 [.slice ad_0_0 p0.loops.length cp_0_0, .slice ad_0_1 p0.rows.length cp_0_1, .slice ad_0_2 p0.bound.length cp_0_2, .slice ad_0_3 p0.cross.length cp_0_3, iv p0.next], eRow r_api_Loop 48 (.slice ad_0_0 p0.loops.length cp_0_0) p0.loops, eRow (rI .i64) 3 (.slice ad_0_1 p0.rows.length cp_0_1) p0.rows, eRow (rI .i64) 3 (.slice ad_0_2 p0.bound.length cp_0_2) p0.bound, eRow r_A2_Int 49 (.slice ad_0_3 p0.cross.length cp_0_3) p0.cross] [eRow r_api_Stitch 61 (.slice ad4 [p3].length cp5) [p3], eBox b2 61 [.int .u8 p3.Kind, .bool p3.Purl, iv p3.A, iv p3.B]] [] [2, 3, 4, 5, 6, 0, 1] [] S (wN rfl) rfl callee57 rfl (by decide) rfl rfl (fun E1 w1 S1 => c_loops_piece_take_s3 E1 w1 p0 bb0 ad_0_0 cp_0_0 ad_0_1 cp_0_1 ad_0_2 cp_0_2 ad_0_3 cp_0_3 r6.1 r9 hx10 S1) rfl (lb rfl) fun xx a w S => ?_
  obtain ⟨ad11, cp12, ad13, cp14, ad15, cp16, ad17, cp18, ad19, cp20⟩ := xx
  dsimp only at S
  refine sMove (.slice ad11 r9.1.length cp12) S (wN rfl) (.inr rfl) rfl rfl (lb rfl) fun a S => ?_
  refine leafL (leafT (hK8 _ _ ?_))
  refine sSeq (fun K21 hK21 => ?_)
  refine sRegion ?_
  refine sMove (iv p1) S (wN rfl) (.inl rfl) rfl rfl (lb rfl) fun a S => ?_
  refine sMove (iv p2) S (wN rfl) (.inl rfl) rfl rfl (lb rfl) fun a S => ?_
  refine sField (b := b2) (off := 0) 1 1 S (wN rfl) rfl rfl rfl rfl rfl (lb rfl) fun a S => ?_
  refine sLoad1 (p := b2) (off := 1) (T := 61) (vs := [.int .u8 p3.Kind, .bool p3.Purl, iv p3.A, iv p3.B]) 7 (.bool p3.Purl) S (wN rfl) rfl rfl rfl rfl rfl rfl (lb rfl) fun a S => ?_
  refine sBuild [(0, iv p1), (1, iv p2), (3, .bool p3.Purl)] [iv p1, iv p2, .slice none 0 0, .bool p3.Purl] S (wN rfl) rfl rfl rfl rfl (lb rfl) fun a S => ?_
  refine sAlloc (.agg #[iv 0, iv 0, .slice none 0 0, .bool false]) S (wN rfl) rfl rfl [iv 0, iv 0, .slice none 0 0, .bool false] rfl rfl (lb rfl) fun a b22 w S => ?_
  refine sStore (p := b22) (off := 0) (T := 48) (vs := [iv 0, iv 0, .slice none 0 0, .bool false]) (v := .agg #[iv p1, iv p2, .slice none 0 0, .bool p3.Purl]) 0 [iv p1, iv p2, .slice none 0 0, .bool p3.Purl] S (wN rfl) rfl rfl rfl rfl rfl rfl rfl (by simp) rfl fun a w S => ?_
  refine leafL (leafT (hK21 _ _ ?_))
  refine sSeq (fun K23 hK23 => ?_)
  refine sRegion ?_
  refine sField (b := b2) (off := 0) 0 0 S (wN rfl) rfl rfl rfl rfl rfl (lb rfl) fun a S => ?_
  refine sLoad1 (p := b2) (off := 0) (T := 61) (vs := [.int .u8 p3.Kind, .bool p3.Purl, iv p3.A, iv p3.B]) 8 (.int .u8 p3.Kind) S (wN rfl) rfl rfl rfl rfl rfl rfl (lb rfl) fun a S => ?_
  refine leafL (leafT (hK23 _ _ ?_))
  refine wp_block ?_
  obtain ⟨t25, h, g26⟩ := bindSome h
  refine sCut (fun a w => ∃ o24, o24 = t25 ∧ St [] E (keysL [eBox bb0 73 [.slice ad_0_0 p0.loops.length cp_0_0, .slice ad_0_1 p0.rows.length cp_0_1, .slice ad_0_2 p0.bound.length cp_0_2, .slice ad_0_3 p0.cross.length cp_0_3, iv p0.next], eRow r_api_Loop 48 (.slice ad_0_0 p0.loops.length cp_0_0) p0.loops, eRow (rI .i64) 3 (.slice ad_0_1 p0.rows.length cp_0_1) p0.rows, eRow (rI .i64) 3 (.slice ad_0_2 p0.bound.length cp_0_2) p0.bound, eRow r_A2_Int 49 (.slice ad_0_3 p0.cross.length cp_0_3) p0.cross]) w0 108 a w [(0, .pointer (some ⟨bb0, 0, none⟩)), (7, .pointer (some ⟨b2, 0, none⟩)), (10, .slice ad11 r9.1.length cp12), (11, .pointer (some ⟨b22, 0, none⟩)), (27, .int .u8 p3.Kind), (33, .bool o24)] [eBox bb0 73 [.slice ad13 r9.2.loops.length cp14, .slice ad15 r9.2.rows.length cp16, .slice ad17 r9.2.bound.length cp18, .slice ad19 r9.2.cross.length cp20, iv r9.2.next], eBox b2 61 [.int .u8 p3.Kind, .bool p3.Purl, iv p3.A, iv p3.B], eBox b22 48 [iv p1, iv p2, .slice none 0 0, .bool p3.Purl], eRow (rI .i64) 3 (.slice ad11 r9.1.length cp12) r9.1, eRow r_api_Loop 48 (.slice ad13 r9.2.loops.length cp14) r9.2.loops, eRow (rI .i64) 3 (.slice ad15 r9.2.rows.length cp16) r9.2.rows, eRow (rI .i64) 3 (.slice ad17 r9.2.bound.length cp18) r9.2.bound, eRow r_A2_Int 49 (.slice ad19 r9.2.cross.length cp20) r9.2.cross] []) ?_ (fun a w hI => ?_)
  · refine sSeq (fun K27 hK27 => ?_)
    refine sRegion ?_
    refine sBin (.bool (p3.Kind == 2)) S (wN rfl) rfl rfl rfl (bEq _ _ _ _ .u8 p3.Kind 2) rfl (lb rfl) fun a S => ?_
    refine sMove (.bool (p3.Kind == 2)) S (wN rfl) (.inr rfl) rfl rfl (lb rfl) fun a S => ?_
    refine leafL (leafT (hK27 _ _ ?_))
    rcases iteSome h with ⟨hc28, h⟩ | ⟨hc28, h⟩
    · refine sCondT S rfl hc28 ?_
      exact wp_skip (leafT (⟨p3.Kind == 2, Option.some.inj h, S.fix [2, 8, 0, 1, 3, 4, 5, 6] [] (by decide) rfl rfl rfl⟩))
    refine sCondF S rfl hc28 ?_
    refine sRegion ?_
    refine sBin (.bool (p3.Kind == 9)) S (wN rfl) rfl rfl rfl (bEq _ _ _ _ .u8 p3.Kind 9) rfl (lb rfl) fun a S => ?_
    refine sMove (.bool (p3.Kind == 9)) S (wN rfl) (.inr rfl) rfl rfl (lb rfl) fun a S => ?_
    exact leafL (leafT (⟨p3.Kind == 9, Option.some.inj h, S.fix [2, 8, 0, 1, 3, 4, 5, 6] [] (by decide) rfl rfl rfl⟩))
  obtain ⟨o24, rfl, S⟩ := hI
  have h := g26
  clear g26
  try dsimp only at h
  rcases iteSome h with ⟨hc29, h⟩ | ⟨hc29, h⟩
  · refine sCondT S rfl hc29 ?_
    obtain ⟨m32, hx33, h⟩ := bindSome h
    obtain ⟨r34, hx35, h⟩ := bindSome h
    refine sDraw (nf := [5, 6]) (W := [(0, 36, .pointer (some ⟨bb0, 0, none⟩)), (1, 37, .agg #[iv p1, iv p2, .slice none 0 0, .bool p3.Purl]), (2, 38, .pointer (some ⟨b2, 2, none⟩)), (3, 39, iv p3.A), (4, 40, iv (if (1 : Int) < p3.A then p3.A else 1))]) rfl S ?_
    refine node_by (A := [[], [], [], [2], [2, 3], [2, 3, 4], [0, 1, 2, 3, 4, 5]]) (nf := [5, 6]) (Y := []) (W := [(0, 36, .pointer (some ⟨bb0, 0, none⟩)), (1, 37, .agg #[iv p1, iv p2, .slice none 0 0, .bool p3.Purl]), (2, 38, .pointer (some ⟨b2, 2, none⟩)), (3, 39, iv p3.A), (4, 40, iv (if (1 : Int) < p3.A then p3.A else 1))]) 7 (by kernel_rfl) (by kernel_rfl) (by kernel_rfl) (by kernel_rfl) (by kernel_rfl) [0, 1, 2, 3, 4] (by kernel_rfl) (by decide) (by decide) (aF 0 6 (by decide) ?_ (aF 1 5 (by decide) ?_ (aF 2 4 (by decide) ?_ (aF 3 3 (by decide) ?_ (aF 4 2 (by decide) ?_ (aN 5 1 (by decide) ?_ (aB 6 0 5 (by decide) (trivial)))))))) [] (fun q hq => by cases hq) (fun hY => absurd (hY 5 (by decide)) (by decide))
    · refine fI 36 (.pointer (some ⟨bb0, 0, none⟩)) [(0, .pointer (some ⟨bb0, 0, none⟩))] 0 [none] rfl rfl rfl rfl rfl rfl fun G a w S => ?_
      refine sMove (.pointer (some ⟨bb0, 0, none⟩)) S (wN rfl) (.inl rfl) rfl rfl (lb rfl) fun a S => ?_
      exact leafL ⟨rfl, S⟩
    · refine fI 37 (.agg #[iv p1, iv p2, .slice none 0 0, .bool p3.Purl]) [(11, .pointer (some ⟨b22, 0, none⟩))] 1 [none] rfl rfl rfl rfl rfl rfl fun G a w S => ?_
      refine sLoadN (p := b22) (off := 0) (T := 48) (vs := [iv p1, iv p2, .slice none 0 0, .bool p3.Purl]) 2 [iv p1, iv p2, .slice none 0 0, .bool p3.Purl] S (wN rfl) rfl rfl rfl rfl rfl rfl rfl (lb rfl) fun a S => ?_
      exact leafL ⟨rfl, S⟩
    · refine fI 38 (.pointer (some ⟨b2, 2, none⟩)) [(7, .pointer (some ⟨b2, 0, none⟩))] 2 [none] rfl rfl rfl rfl rfl rfl fun G a w S => ?_
      refine sField (b := b2) (off := 0) 2 2 S (wN rfl) rfl rfl rfl rfl rfl (lb rfl) fun a S => ?_
      exact leafL ⟨rfl, S⟩
    · refine fI 39 (iv p3.A) [(38, .pointer (some ⟨b2, 2, none⟩))] 3 [some 2] rfl rfl rfl rfl rfl rfl fun G a w S => ?_
      refine sLoad1 (p := b2) (off := 2) (T := 61) (vs := [.int .u8 p3.Kind, .bool p3.Purl, iv p3.A, iv p3.B]) 1 (iv p3.A) S (wN rfl) rfl rfl rfl rfl rfl rfl (lb rfl) fun a S => ?_
      exact leafL ⟨rfl, S⟩
    · refine fI 40 (iv (if (1 : Int) < p3.A then p3.A else 1)) [(39, iv p3.A)] 4 [some 3] rfl rfl rfl rfl rfl rfl fun G a w S => ?_
      refine sMax2 (p := 1) (q := p3.A) S (wN rfl) rfl rfl rfl rfl (lb rfl) fun a S => ?_
      exact leafL ⟨rfl, S⟩
    refine ⟨_, [(40, iv (if (1 : Int) < p3.A then p3.A else 1))], rfl, (srcs_of [some 4] rfl rfl rfl), fun G a w S => ?_⟩
    refine sMake (r := (rL (rI .i64))) (m := if (1 : Int) < p3.A then p3.A else 1) (xs := m32) (.slice none 0 0) ([] : (List Int)) 24 S (wN rfl) rfl Try.underlying69 rfl rfl (by decide) (fun E w => rL_nil _ E w) rfl rfl hx33 rfl (lb rfl) fun a w ad44 cp45 S => ?_
    refine leafL ⟨rfl, _, _, .inl ⟨41, (.slice ad44 m32.length cp45), [], rfl, S, hz_of rfl, ?_⟩⟩
    refine node_by (A := [[], [], [], [2], [2, 3], [2, 3, 4], [0, 1, 2, 3, 4, 5]]) (nf := [5, 6]) (Y := [5]) 7 (by kernel_rfl) (by kernel_rfl) (by kernel_rfl) (by kernel_rfl) (by kernel_rfl) [5, 0, 1, 2, 3, 4] (by kernel_rfl) (by decide) (by decide) (aF 0 6 (by decide) ?_ (aF 1 5 (by decide) ?_ (aD 2 4 5 (by decide) (aD 3 3 5 (by decide) (aD 4 2 5 (by decide) (aY 5 1 (by decide) (aN 6 0 (by decide) ?_ (trivial)))))))) [] (fun q hq => by cases hq) (fun hY => absurd (hY 6 (by decide)) (by decide))
    · refine fI 36 (.pointer (some ⟨bb0, 0, none⟩)) [(0, .pointer (some ⟨bb0, 0, none⟩))] 1 [none] rfl rfl rfl rfl rfl rfl fun G a w S => ?_
      refine sMove (.pointer (some ⟨bb0, 0, none⟩)) S (wN rfl) (.inl rfl) rfl rfl (lb rfl) fun a S => ?_
      exact leafL ⟨rfl, S⟩
    · refine fI 37 (.agg #[iv p1, iv p2, .slice none 0 0, .bool p3.Purl]) [(11, .pointer (some ⟨b22, 0, none⟩))] 2 [none] rfl rfl rfl rfl rfl rfl fun G a w S => ?_
      refine sLoadN (p := b22) (off := 0) (T := 48) (vs := [iv p1, iv p2, .slice none 0 0, .bool p3.Purl]) 3 [iv p1, iv p2, .slice none 0 0, .bool p3.Purl] S (wN rfl) rfl rfl rfl rfl rfl rfl rfl (lb rfl) fun a S => ?_
      exact leafL ⟨rfl, S⟩
    refine ⟨_, [(36, .pointer (some ⟨bb0, 0, none⟩)), (37, .agg #[iv p1, iv p2, .slice none 0 0, .bool p3.Purl]), (41, .slice ad44 m32.length cp45)], rfl, (srcs_of [some 1, some 2, some 0] rfl rfl rfl), fun G a w S => ?_⟩
    have S := S.learn (fRep (rL (rI .i64)) (.slice none 0 0) ([] : (List Int))) (rL_nil _ _ _)
    have S := S.learn (fRep r_api_Loop (.agg #[iv p1, iv p2, .slice none 0 0, .bool p3.Purl]) (api_Loop.mk p1 p2 ([] : (List Int)) p3.Purl)) ⟨_, rfl, S.mem.know (i := 0) (e := fRep (rL (rI .i64)) (.slice none 0 0) ([] : (List Int))) rfl⟩
    have S := S.shutR (r := (rL (rI .i64))) (T := 32) (v := .slice ad44 m32.length cp45) (xs := m32) 0 rfl
    refine sCall (X := Option Addr × Nat × Option Addr × Nat × Option Addr × Nat × Option Addr × Nat) (f := 58) (vs := [.pointer (some ⟨bb0, 0, none⟩), .agg #[iv p1, iv p2, .slice none 0 0, .bool p3.Purl], .slice ad44 m32.length cp45]) (val := fun _ => .tuple #[]) (B' := fun x => [eBox bb0 73 [.slice x.1 r34.loops.length x.2.1, .slice x.2.2.1 r34.rows.length x.2.2.2.1, .slice x.2.2.2.2.1 r34.bound.length x.2.2.2.2.2.1, .slice x.2.2.2.2.2.2.1 r34.cross.length x.2.2.2.2.2.2.2, iv r34.next], eRow r_api_Loop 48 (.slice x.1 r34.loops.length x.2.1) r34.loops, eRow (rI .i64) 3 (.slice x.2.2.1 r34.rows.length x.2.2.2.1) r34.rows, eRow (rI .i64) 3 (.slice x.2.2.2.2.1 r34.bound.length x.2.2.2.2.2.1) r34.bound, eRow r_A2_Int 49 (.slice x.2.2.2.2.2.2.1 r34.cross.length x.2.2.2.2.2.2.2) r34.cross]) (D' := fun _ => []) [eBox bb0 73 [.slice ad13 r9.2.loops.length cp14, .slice ad15 r9.2.rows.length cp16, .slice ad17 r9.2.bound.length cp18, .slice ad19 r9.2.cross.length cp20, iv r9.2.next], eRow r_api_Loop 48 (.slice ad13 r9.2.loops.length cp14) r9.2.loops, eRow (rI .i64) 3 (.slice ad15 r9.2.rows.length cp16) r9.2.rows, eRow (rI .i64) 3 (.slice ad17 r9.2.bound.length cp18) r9.2.bound, eRow r_A2_Int 49 (.slice ad19 r9.2.cross.length cp20) r9.2.cross] [eBox b2 61 [.int .u8 p3.Kind, .bool p3.Purl, iv p3.A, iv p3.B], eBox b22 48 [iv p1, iv p2, .slice none 0 0, .bool p3.Purl], eRow (rI .i64) 3 (.slice ad11 r9.1.length cp12) r9.1] [fRep r_api_Loop (.agg #[iv p1, iv p2, .slice none 0 0, .bool p3.Purl]) (api_Loop.mk p1 p2 ([] : (List Int)) p3.Purl), fRep (rL (rL (rI .i64))) (.slice ad44 m32.length cp45) m32] [0, 4, 5, 6, 7, 1, 2, 3] [1, 0] S (wN rfl) rfl callee58 rfl (by decide) rfl rfl (fun E1 w1 S1 => c_loops_piece_add_s1 E1 w1 r9.2 bb0 ad13 cp14 ad15 cp16 ad17 cp18 ad19 cp20 (api_Loop.mk p1 p2 ([] : (List Int)) p3.Purl) (.agg #[iv p1, iv p2, .slice none 0 0, .bool p3.Purl]) m32 (.slice ad44 m32.length cp45) r34 hx35 S1) rfl (lb rfl) fun xx a w S => ?_
    obtain ⟨ad46, cp47, ad48, cp49, ad50, cp51, ad52, cp53⟩ := xx
    dsimp only at S
    refine leafL ⟨rfl, _, _, .inl ⟨42, (.tuple #[]), [], rfl, S, hz_of rfl, ?_⟩⟩
    refine node_by (A := [[], [], [], [2], [2, 3], [2, 3, 4], [0, 1, 2, 3, 4, 5]]) (nf := [5, 6]) (Y := [6, 5]) 7 (by kernel_rfl) (by kernel_rfl) (by kernel_rfl) (by kernel_rfl) (by kernel_rfl) [6, 5, 0, 1, 2, 3, 4] (by kernel_rfl) (by decide) (by decide) (aD 0 6 6 (by decide) (aD 1 5 6 (by decide) (aD 2 4 6 (by decide) (aD 3 3 6 (by decide) (aD 4 2 6 (by decide) (aY 5 1 (by decide) (aY 6 0 (by decide) (trivial)))))))) [] (fin_of [] rfl (by kernel_rfl) (by kernel_rfl)) (fun _ a w S => ?_)
    obtain rfl := Option.some.inj h
    exact leafB (sEnd (.tuple #[]) S (rsl0 rfl ) ⟨(ad46, cp47, ad48, cp49, ad50, cp51, ad52, cp53), rfl, S.mem.sel [0, 1, 2, 3, 4] [] (by decide) rfl rfl⟩)
  refine sCondF S rfl hc29 ?_
  refine sSeq (fun K54 hK54 => ?_)
  refine sRegion ?_
  refine sBin (.bool (p3.Kind == 1)) S (wN rfl) rfl rfl rfl (bEq _ _ _ _ .u8 p3.Kind 1) rfl (lb rfl) fun a S => ?_
  refine sMove (.bool (p3.Kind == 1)) S (wN rfl) (.inr rfl) rfl rfl (lb rfl) fun a S => ?_
  refine leafL (leafT (hK54 _ _ ?_))
  rcases iteSome h with ⟨hc55, h⟩ | ⟨hc55, h⟩
  · refine sCondT S rfl hc55 ?_
    refine sRegion ?_
    refine sMove (.pointer (some ⟨bb0, 0, none⟩)) S (wN rfl) (.inl rfl) rfl rfl (lb rfl) fun a S => ?_
    refine sLoadN (p := b22) (off := 0) (T := 48) (vs := [iv p1, iv p2, .slice none 0 0, .bool p3.Purl]) 2 [iv p1, iv p2, .slice none 0 0, .bool p3.Purl] S (wN rfl) rfl rfl rfl rfl rfl rfl rfl (lb rfl) fun a S => ?_
    refine sMove (.slice ad11 r9.1.length cp12) S (wN rfl) (.inl rfl) rfl rfl (lb rfl) fun a S => ?_
    have S := S.shutR (r := (rI .i64)) (T := 3) (v := .slice ad11 r9.1.length cp12) (xs := r9.1) 3 rfl
    refine sLit (r := (rL (rI .i64))) (T := 32) (xs := [r9.1]) [(0, .slice ad11 r9.1.length cp12)] 1 [.slice ad11 r9.1.length cp12] [.slice ad11 r9.1.length cp12] (.slice none 0 0) 24 S (wN rfl) rfl rfl Try.underlying69 rfl (by decide) (by decide) (by kernel_rfl) rfl (fun E1 w1 hE => All.cons ((rL (rI .i64)).mono hE (S.mem.know (i := 0) (e := fRep (rL (rI .i64)) (.slice ad11 r9.1.length cp12) r9.1) rfl)) (All.nil _ _ _)) rfl rfl (lb rfl) fun a w ad56 cp57 S => ?_
    obtain ⟨r58, hx59, h⟩ := bindSome h
    have S := S.learn (fRep (rL (rI .i64)) (.slice none 0 0) ([] : (List Int))) (rL_nil _ _ _)
    have S := S.learn (fRep r_api_Loop (.agg #[iv p1, iv p2, .slice none 0 0, .bool p3.Purl]) (api_Loop.mk p1 p2 ([] : (List Int)) p3.Purl)) ⟨_, rfl, S.mem.know (i := 0) (e := fRep (rL (rI .i64)) (.slice none 0 0) ([] : (List Int))) rfl⟩
    have S := S.shutR (r := (rL (rI .i64))) (T := 32) (v := .slice ad56 [r9.1].length cp57) (xs := [r9.1]) 0 rfl
    refine sCall (X := Option Addr × Nat × Option Addr × Nat × Option Addr × Nat × Option Addr × Nat) (f := 58) (vs := [.pointer (some ⟨bb0, 0, none⟩), .agg #[iv p1, iv p2, .slice none 0 0, .bool p3.Purl], .slice ad56 [r9.1].length cp57]) (val := fun _ => .tuple #[]) (B' := fun x => [eBox bb0 73 [.slice x.1 r58.loops.length x.2.1, .slice x.2.2.1 r58.rows.length x.2.2.2.1, .slice x.2.2.2.2.1 r58.bound.length x.2.2.2.2.2.1, .slice x.2.2.2.2.2.2.1 r58.cross.length x.2.2.2.2.2.2.2, iv r58.next], eRow r_api_Loop 48 (.slice x.1 r58.loops.length x.2.1) r58.loops, eRow (rI .i64) 3 (.slice x.2.2.1 r58.rows.length x.2.2.2.1) r58.rows, eRow (rI .i64) 3 (.slice x.2.2.2.2.1 r58.bound.length x.2.2.2.2.2.1) r58.bound, eRow r_A2_Int 49 (.slice x.2.2.2.2.2.2.1 r58.cross.length x.2.2.2.2.2.2.2) r58.cross]) (D' := fun _ => []) [eBox bb0 73 [.slice ad13 r9.2.loops.length cp14, .slice ad15 r9.2.rows.length cp16, .slice ad17 r9.2.bound.length cp18, .slice ad19 r9.2.cross.length cp20, iv r9.2.next], eRow r_api_Loop 48 (.slice ad13 r9.2.loops.length cp14) r9.2.loops, eRow (rI .i64) 3 (.slice ad15 r9.2.rows.length cp16) r9.2.rows, eRow (rI .i64) 3 (.slice ad17 r9.2.bound.length cp18) r9.2.bound, eRow r_A2_Int 49 (.slice ad19 r9.2.cross.length cp20) r9.2.cross] [eBox b2 61 [.int .u8 p3.Kind, .bool p3.Purl, iv p3.A, iv p3.B], eBox b22 48 [iv p1, iv p2, .slice none 0 0, .bool p3.Purl]] [fRep r_api_Loop (.agg #[iv p1, iv p2, .slice none 0 0, .bool p3.Purl]) (api_Loop.mk p1 p2 ([] : (List Int)) p3.Purl), fRep (rL (rL (rI .i64))) (.slice ad56 [r9.1].length cp57) [r9.1]] [0, 3, 4, 5, 6, 1, 2] [1, 0] S (wN rfl) rfl callee58 rfl (by decide) rfl rfl (fun E1 w1 S1 => c_loops_piece_add_s1 E1 w1 r9.2 bb0 ad13 cp14 ad15 cp16 ad17 cp18 ad19 cp20 (api_Loop.mk p1 p2 ([] : (List Int)) p3.Purl) (.agg #[iv p1, iv p2, .slice none 0 0, .bool p3.Purl]) [r9.1] (.slice ad56 [r9.1].length cp57) r58 hx59 S1) rfl (lb rfl) fun xx a w S => ?_
    obtain ⟨ad60, cp61, ad62, cp63, ad64, cp65, ad66, cp67⟩ := xx
    dsimp only at S
    obtain rfl := Option.some.inj h
    exact leafL (leafB (sEnd (.tuple #[]) S (rsl0 rfl ) ⟨(ad60, cp61, ad62, cp63, ad64, cp65, ad66, cp67), rfl, S.mem.sel [0, 1, 2, 3, 4] [] (by decide) rfl rfl⟩))
  refine sCondF S rfl hc55 ?_
  refine sSeq (fun K68 hK68 => ?_)
  refine sRegion ?_
  refine sBin (.bool (p3.Kind == 8)) S (wN rfl) rfl rfl rfl (bEq _ _ _ _ .u8 p3.Kind 8) rfl (lb rfl) fun a S => ?_
  refine sMove (.bool (p3.Kind == 8)) S (wN rfl) (.inr rfl) rfl rfl (lb rfl) fun a S => ?_
  refine leafL (leafT (hK68 _ _ ?_))
  rcases iteSome h with ⟨hc69, h⟩ | ⟨hc69, h⟩
  · refine sCondT S rfl hc69 ?_
    refine sSeq (fun K70 hK70 => ?_)
    obtain ⟨x71, hx72, h⟩ := bindSome h
    obtain ⟨x76, hx77, h⟩ := bindSome h
    obtain ⟨q84, hq85, hp86⟩ := pIdxR (P := Try.prog) (r := (rI .i64)) (T := 3) (v := .slice ad11 r9.1.length cp12) (xs := r9.1) (j := 0) 32 3 3 S Try.underlying32 rfl rfl hx72
    obtain ⟨q87, hq88, hp89⟩ := pIdxR (P := Try.prog) (r := r_api_Loop) (T := 48) (v := .slice ad13 r9.2.loops.length cp14) (xs := r9.2.loops) (j := x71) 26 48 4 S Try.underlying26 rfl rfl hx77
    obtain ⟨q90, hq91, hp92⟩ := pFldR (P := Try.prog) 48 3 3 hp89 rfl
    refine sDraw (nf := [11]) (W := [(0, 52, .pointer (some ⟨bb0, 0, none⟩)), (1, 53, .pointer (some ⟨bb0, 0, none⟩)), (2, 54, .pointer (some ⟨bb0, 0, none⟩)), (3, 55, .slice ad13 r9.2.loops.length cp14), (4, 56, .slice ad11 r9.1.length cp12), (5, 57, q84), (6, 58, iv x71), (7, 59, q87), (8, 60, q90), (9, 61, .bool x76.Purl), (10, 62, .pointer (some ⟨b22, 3, none⟩))]) rfl S ?_
    refine node_by (A := anc_loops_piece_work_s1_0) (nf := [11]) (Y := []) (W := [(0, 52, .pointer (some ⟨bb0, 0, none⟩)), (1, 53, .pointer (some ⟨bb0, 0, none⟩)), (2, 54, .pointer (some ⟨bb0, 0, none⟩)), (3, 55, .slice ad13 r9.2.loops.length cp14), (4, 56, .slice ad11 r9.1.length cp12), (5, 57, q84), (6, 58, iv x71), (7, 59, q87), (8, 60, q90), (9, 61, .bool x76.Purl), (10, 62, .pointer (some ⟨b22, 3, none⟩))]) 12 (by kernel_rfl) (by kernel_rfl) (by kernel_rfl) (by kernel_rfl) (by kernel_rfl) [0, 1, 2, 3, 4, 5, 6, 7, 8, 9, 10] (by kernel_rfl) (by decide) (by decide) (aF 0 11 (by decide) ?_ (aF 1 10 (by decide) ?_ (aF 2 9 (by decide) ?_ (aF 3 8 (by decide) ?_ (aF 4 7 (by decide) ?_ (aF 5 6 (by decide) ?_ (aF 6 5 (by decide) ?_ (aF 7 4 (by decide) ?_ (aF 8 3 (by decide) ?_ (aF 9 2 (by decide) ?_ (aF 10 1 (by decide) ?_ (aN 11 0 (by decide) ?_ (trivial))))))))))))) [] (fun q hq => by cases hq) (fun hY => absurd (hY 11 (by decide)) (by decide))
    · refine fI 52 (.pointer (some ⟨bb0, 0, none⟩)) [(0, .pointer (some ⟨bb0, 0, none⟩))] 0 [none] rfl rfl rfl rfl rfl rfl fun G a w S => ?_
      refine sMove (.pointer (some ⟨bb0, 0, none⟩)) S (wN rfl) (.inl rfl) rfl rfl (lb rfl) fun a S => ?_
      exact leafL ⟨rfl, S⟩
    · refine fI 53 (.pointer (some ⟨bb0, 0, none⟩)) [(52, .pointer (some ⟨bb0, 0, none⟩))] 1 [some 0] rfl rfl rfl rfl rfl rfl fun G a w S => ?_
      refine nilCheck_ok (q := ⟨bb0, 0, none⟩) S (wN rfl) rfl rfl rfl (lb rfl) fun a S => ?_
      exact leafL ⟨rfl, S⟩
    · refine fI 54 (.pointer (some ⟨bb0, 0, none⟩)) [(53, .pointer (some ⟨bb0, 0, none⟩))] 2 [some 1] rfl rfl rfl rfl rfl rfl fun G a w S => ?_
      refine sField (b := bb0) (off := 0) 0 0 S (wN rfl) rfl rfl rfl rfl rfl (lb rfl) fun a S => ?_
      exact leafL ⟨rfl, S⟩
    · refine fI 55 (.slice ad13 r9.2.loops.length cp14) [(54, .pointer (some ⟨bb0, 0, none⟩))] 3 [some 2] rfl rfl rfl rfl rfl rfl fun G a w S => ?_
      refine sLoad1 (p := bb0) (off := 0) (T := 73) (vs := [.slice ad13 r9.2.loops.length cp14, .slice ad15 r9.2.rows.length cp16, .slice ad17 r9.2.bound.length cp18, .slice ad19 r9.2.cross.length cp20, iv r9.2.next]) 0 (.slice ad13 r9.2.loops.length cp14) S (wN rfl) rfl rfl rfl rfl rfl rfl (lb rfl) fun a S => ?_
      exact leafL ⟨rfl, S⟩
    · refine fI 56 (.slice ad11 r9.1.length cp12) [(10, .slice ad11 r9.1.length cp12)] 4 [none] rfl rfl rfl rfl rfl rfl fun G a w S => ?_
      refine sMove (.slice ad11 r9.1.length cp12) S (wN rfl) (.inl rfl) rfl rfl (lb rfl) fun a S => ?_
      exact leafL ⟨rfl, S⟩
    · refine fI 57 q84 [(56, .slice ad11 r9.1.length cp12)] 5 [some 4] rfl rfl rfl rfl rfl rfl fun G a w S => ?_
      refine sIdxV (v := .slice ad11 r9.1.length cp12) (k := .i64) (j := 0) S (wN rfl) rfl rfl rfl hq85 rfl (lb rfl) fun a S => ?_
      exact leafL ⟨rfl, S⟩
    · refine fI 58 (iv x71) [(57, q84)] 6 [some 5] rfl rfl rfl rfl rfl rfl fun G a w S => ?_
      refine sLoadR (r := (rI .i64)) (T := 3) (xs := r9.1) (x := x71) (v := .slice ad11 r9.1.length cp12) (vq := q84) (j := 0) 3 (iv x71) S hp86 (wN rfl) rfl rfl rfl hx72 (fun _ _ _ h => h) (scal_I _) rfl rfl (lb rfl) fun a S => ?_
      exact leafL ⟨rfl, S⟩
    · refine fI 59 q87 [(55, .slice ad13 r9.2.loops.length cp14), (58, iv x71)] 7 [some 3, some 6] rfl rfl rfl rfl rfl rfl fun G a w S => ?_
      refine sIdxV (v := .slice ad13 r9.2.loops.length cp14) (k := .i64) (j := x71) S (wN rfl) rfl rfl rfl hq88 rfl (lb rfl) fun a S => ?_
      exact leafL ⟨rfl, S⟩
    · refine fI 60 q90 [(59, q87)] 8 [some 7] rfl rfl rfl rfl rfl rfl fun G a w S => ?_
      refine sFldV (q := q87) S (wN rfl) rfl rfl hq91 rfl (lb rfl) fun a S => ?_
      exact leafL ⟨rfl, S⟩
    · refine fI 61 (.bool x76.Purl) [(60, q90)] 9 [some 8] rfl rfl rfl rfl rfl rfl fun G a w S => ?_
      refine sLoadF (r := r_api_Loop) (s := rB) (g := (·.Purl)) (T := 48) (xs := r9.2.loops) (x := x76) (v := .slice ad13 r9.2.loops.length cp14) (vq := q90) (j := x71) 4 3 (.bool x76.Purl) S hp92 (wN rfl) rfl rfl rfl hx77 comp_api_Loop_Purl (fun _ _ _ h => h) scal_B rfl rfl (lb rfl) fun a S => ?_
      exact leafL ⟨rfl, S⟩
    · refine fI 62 (.pointer (some ⟨b22, 3, none⟩)) [(11, .pointer (some ⟨b22, 0, none⟩))] 10 [none] rfl rfl rfl rfl rfl rfl fun G a w S => ?_
      refine sField (b := b22) (off := 0) 3 3 S (wN rfl) rfl rfl rfl rfl rfl (lb rfl) fun a S => ?_
      exact leafL ⟨rfl, S⟩
    refine ⟨_, [(61, .bool x76.Purl), (62, .pointer (some ⟨b22, 3, none⟩))], rfl, (srcs_of [some 9, some 10] rfl rfl rfl), fun G a w S => ?_⟩
    refine sStore (p := b22) (off := 3) (T := 48) (vs := [iv p1, iv p2, .slice none 0 0, .bool p3.Purl]) (v := .bool x76.Purl) 2 [.bool x76.Purl] S (wN rfl) rfl rfl rfl rfl rfl rfl rfl (by simp) rfl fun a w S => ?_
    refine leafL ⟨rfl, _, _, .inr ⟨[], rfl, S, hz_of rfl, ?_⟩⟩
    refine node_by (A := anc_loops_piece_work_s1_0) (nf := [11]) (Y := [11]) 12 (by kernel_rfl) (by kernel_rfl) (by kernel_rfl) (by kernel_rfl) (by kernel_rfl) [0, 1, 2, 3, 4, 5, 6, 7, 8, 9, 10] (by kernel_rfl) (by decide) (by decide) (aD 0 11 11 (by decide) (aD 1 10 11 (by decide) (aD 2 9 11 (by decide) (aD 3 8 11 (by decide) (aD 4 7 11 (by decide) (aD 5 6 11 (by decide) (aD 6 5 11 (by decide) (aD 7 4 11 (by decide) (aD 8 3 11 (by decide) (aD 9 2 11 (by decide) (aD 10 1 11 (by decide) (aY 11 0 (by decide) (trivial))))))))))))) [(0, .pointer (some ⟨bb0, 0, none⟩)), (10, .slice ad11 r9.1.length cp12), (11, .pointer (some ⟨b22, 0, none⟩))] (fin_of [none, none, none] rfl (by kernel_rfl) (by kernel_rfl)) (fun _ a w S => ?_)
    refine leafT (hK70 _ _ ?_)
    refine sRegion ?_
    refine sMove (.pointer (some ⟨bb0, 0, none⟩)) S (wN rfl) (.inl rfl) rfl rfl (lb rfl) fun a S => ?_
    refine sLoadN (p := b22) (off := 0) (T := 48) (vs := [iv p1, iv p2, .slice none 0 0, .bool x76.Purl]) 0 [iv p1, iv p2, .slice none 0 0, .bool x76.Purl] S (wN rfl) rfl rfl rfl rfl rfl rfl rfl (lb rfl) fun a S => ?_
    refine sMove (.slice ad11 r9.1.length cp12) S (wN rfl) (.inl rfl) rfl rfl (lb rfl) fun a S => ?_
    have S := S.shutR (r := (rI .i64)) (T := 3) (v := .slice ad11 r9.1.length cp12) (xs := r9.1) 3 rfl
    refine sLit (r := (rL (rI .i64))) (T := 32) (xs := [r9.1]) [(0, .slice ad11 r9.1.length cp12)] 1 [.slice ad11 r9.1.length cp12] [.slice ad11 r9.1.length cp12] (.slice none 0 0) 24 S (wN rfl) rfl rfl Try.underlying69 rfl (by decide) (by decide) (by kernel_rfl) rfl (fun E1 w1 hE => All.cons ((rL (rI .i64)).mono hE (S.mem.know (i := 0) (e := fRep (rL (rI .i64)) (.slice ad11 r9.1.length cp12) r9.1) rfl)) (All.nil _ _ _)) rfl rfl (lb rfl) fun a w ad93 cp94 S => ?_
    obtain ⟨r95, hx96, h⟩ := bindSome h
    have S := S.learn (fRep (rL (rI .i64)) (.slice none 0 0) ([] : (List Int))) (rL_nil _ _ _)
    have S := S.learn (fRep r_api_Loop (.agg #[iv p1, iv p2, .slice none 0 0, .bool x76.Purl]) (api_Loop.mk p1 p2 ([] : (List Int)) x76.Purl)) ⟨_, rfl, S.mem.know (i := 0) (e := fRep (rL (rI .i64)) (.slice none 0 0) ([] : (List Int))) rfl⟩
    have S := S.shutR (r := (rL (rI .i64))) (T := 32) (v := .slice ad93 [r9.1].length cp94) (xs := [r9.1]) 0 rfl
    refine sCall (X := Option Addr × Nat × Option Addr × Nat × Option Addr × Nat × Option Addr × Nat) (f := 58) (vs := [.pointer (some ⟨bb0, 0, none⟩), .agg #[iv p1, iv p2, .slice none 0 0, .bool x76.Purl], .slice ad93 [r9.1].length cp94]) (val := fun _ => .tuple #[]) (B' := fun x => [eBox bb0 73 [.slice x.1 r95.loops.length x.2.1, .slice x.2.2.1 r95.rows.length x.2.2.2.1, .slice x.2.2.2.2.1 r95.bound.length x.2.2.2.2.2.1, .slice x.2.2.2.2.2.2.1 r95.cross.length x.2.2.2.2.2.2.2, iv r95.next], eRow r_api_Loop 48 (.slice x.1 r95.loops.length x.2.1) r95.loops, eRow (rI .i64) 3 (.slice x.2.2.1 r95.rows.length x.2.2.2.1) r95.rows, eRow (rI .i64) 3 (.slice x.2.2.2.2.1 r95.bound.length x.2.2.2.2.2.1) r95.bound, eRow r_A2_Int 49 (.slice x.2.2.2.2.2.2.1 r95.cross.length x.2.2.2.2.2.2.2) r95.cross]) (D' := fun _ => []) [eBox bb0 73 [.slice ad13 r9.2.loops.length cp14, .slice ad15 r9.2.rows.length cp16, .slice ad17 r9.2.bound.length cp18, .slice ad19 r9.2.cross.length cp20, iv r9.2.next], eRow r_api_Loop 48 (.slice ad13 r9.2.loops.length cp14) r9.2.loops, eRow (rI .i64) 3 (.slice ad15 r9.2.rows.length cp16) r9.2.rows, eRow (rI .i64) 3 (.slice ad17 r9.2.bound.length cp18) r9.2.bound, eRow r_A2_Int 49 (.slice ad19 r9.2.cross.length cp20) r9.2.cross] [eBox b22 48 [iv p1, iv p2, .slice none 0 0, .bool x76.Purl], eBox b2 61 [.int .u8 p3.Kind, .bool p3.Purl, iv p3.A, iv p3.B]] [fRep r_api_Loop (.agg #[iv p1, iv p2, .slice none 0 0, .bool x76.Purl]) (api_Loop.mk p1 p2 ([] : (List Int)) x76.Purl), fRep (rL (rL (rI .i64))) (.slice ad93 [r9.1].length cp94) [r9.1]] [1, 3, 4, 5, 6, 0, 2] [1, 0] S (wN rfl) rfl callee58 rfl (by decide) rfl rfl (fun E1 w1 S1 => c_loops_piece_add_s1 E1 w1 r9.2 bb0 ad13 cp14 ad15 cp16 ad17 cp18 ad19 cp20 (api_Loop.mk p1 p2 ([] : (List Int)) x76.Purl) (.agg #[iv p1, iv p2, .slice none 0 0, .bool x76.Purl]) [r9.1] (.slice ad93 [r9.1].length cp94) r95 hx96 S1) rfl (lb rfl) fun xx a w S => ?_
    obtain ⟨ad97, cp98, ad99, cp100, ad101, cp102, ad103, cp104⟩ := xx
    dsimp only at S
    obtain rfl := Option.some.inj h
    exact leafL (leafB (sEnd (.tuple #[]) S (rsl0 rfl ) ⟨(ad97, cp98, ad99, cp100, ad101, cp102, ad103, cp104), rfl, S.mem.sel [0, 1, 2, 3, 4] [] (by decide) rfl rfl⟩))
  refine sCondF S rfl hc69 ?_
  refine sSeq (fun K105 hK105 => ?_)
  refine sRegion ?_
  refine sBin (.bool (p3.Kind == 4)) S (wN rfl) rfl rfl rfl (bEq _ _ _ _ .u8 p3.Kind 4) rfl (lb rfl) fun a S => ?_
  refine sMove (.bool (p3.Kind == 4)) S (wN rfl) (.inr rfl) rfl rfl (lb rfl) fun a S => ?_
  refine leafL (leafT (hK105 _ _ ?_))
  rcases iteSome h with ⟨hc106, h⟩ | ⟨hc106, h⟩
  · refine sCondT S rfl hc106 ?_
    refine sSeq (fun K107 hK107 => ?_)
    refine sRegion ?_
    refine sMove (.slice ad11 r9.1.length cp12) S (wN rfl) (.inl rfl) rfl rfl (lb rfl) fun a S => ?_
    obtain ⟨r108, hx109, h⟩ := bindSome h
    refine sCall (X := Unit) (f := 59) (vs := [.slice ad11 r9.1.length cp12]) (val := fun _ => .tuple #[]) (B' := fun _ => [eRow (rI .i64) 3 (.slice ad11 r9.1.length cp12) r108]) (D' := fun _ => []) [eRow (rI .i64) 3 (.slice ad11 r9.1.length cp12) r9.1] [eBox bb0 73 [.slice ad13 r9.2.loops.length cp14, .slice ad15 r9.2.rows.length cp16, .slice ad17 r9.2.bound.length cp18, .slice ad19 r9.2.cross.length cp20, iv r9.2.next], eBox b2 61 [.int .u8 p3.Kind, .bool p3.Purl, iv p3.A, iv p3.B], eBox b22 48 [iv p1, iv p2, .slice none 0 0, .bool p3.Purl], eRow r_api_Loop 48 (.slice ad13 r9.2.loops.length cp14) r9.2.loops, eRow (rI .i64) 3 (.slice ad15 r9.2.rows.length cp16) r9.2.rows, eRow (rI .i64) 3 (.slice ad17 r9.2.bound.length cp18) r9.2.bound, eRow r_A2_Int 49 (.slice ad19 r9.2.cross.length cp20) r9.2.cross] [] [3, 0, 1, 2, 4, 5, 6, 7] [] S (wN rfl) rfl callee59 rfl (by decide) rfl rfl (fun E1 w1 S1 => c_slices_Reverse___int_int__s0 E1 w1 r9.1 ad11 cp12 r108 hx109 S1) rfl (lb rfl) fun _ a w S => ?_
    have hr110 := row_v (S.mem.hold (i := 0) (e := eRow (rI .i64) 3 (.slice ad11 r9.1.length cp12) r108) rfl)
    rw [hr110] at S
    refine leafL (leafT (hK107 _ _ ?_))
    refine sRegion ?_
    refine sMove (.pointer (some ⟨bb0, 0, none⟩)) S (wN rfl) (.inl rfl) rfl rfl (lb rfl) fun a S => ?_
    refine sLoadN (p := b22) (off := 0) (T := 48) (vs := [iv p1, iv p2, .slice none 0 0, .bool p3.Purl]) 3 [iv p1, iv p2, .slice none 0 0, .bool p3.Purl] S (wN rfl) rfl rfl rfl rfl rfl rfl rfl (lb rfl) fun a S => ?_
    refine sMove (.slice ad11 r108.length cp12) S (wN rfl) (.inl rfl) rfl rfl (lb rfl) fun a S => ?_
    have S := S.shutR (r := (rI .i64)) (T := 3) (v := .slice ad11 r108.length cp12) (xs := r108) 0 rfl
    refine sLit (r := (rL (rI .i64))) (T := 32) (xs := [r108]) [(0, .slice ad11 r108.length cp12)] 1 [.slice ad11 r108.length cp12] [.slice ad11 r108.length cp12] (.slice none 0 0) 24 S (wN rfl) rfl rfl Try.underlying69 rfl (by decide) (by decide) (by kernel_rfl) rfl (fun E1 w1 hE => All.cons ((rL (rI .i64)).mono hE (S.mem.know (i := 0) (e := fRep (rL (rI .i64)) (.slice ad11 r108.length cp12) r108) rfl)) (All.nil _ _ _)) rfl rfl (lb rfl) fun a w ad111 cp112 S => ?_
    obtain ⟨r113, hx114, h⟩ := bindSome h
    have S := S.learn (fRep (rL (rI .i64)) (.slice none 0 0) ([] : (List Int))) (rL_nil _ _ _)
    have S := S.learn (fRep r_api_Loop (.agg #[iv p1, iv p2, .slice none 0 0, .bool p3.Purl]) (api_Loop.mk p1 p2 ([] : (List Int)) p3.Purl)) ⟨_, rfl, S.mem.know (i := 0) (e := fRep (rL (rI .i64)) (.slice none 0 0) ([] : (List Int))) rfl⟩
    have S := S.shutR (r := (rL (rI .i64))) (T := 32) (v := .slice ad111 [r108].length cp112) (xs := [r108]) 0 rfl
    refine sCall (X := Option Addr × Nat × Option Addr × Nat × Option Addr × Nat × Option Addr × Nat) (f := 58) (vs := [.pointer (some ⟨bb0, 0, none⟩), .agg #[iv p1, iv p2, .slice none 0 0, .bool p3.Purl], .slice ad111 [r108].length cp112]) (val := fun _ => .tuple #[]) (B' := fun x => [eBox bb0 73 [.slice x.1 r113.loops.length x.2.1, .slice x.2.2.1 r113.rows.length x.2.2.2.1, .slice x.2.2.2.2.1 r113.bound.length x.2.2.2.2.2.1, .slice x.2.2.2.2.2.2.1 r113.cross.length x.2.2.2.2.2.2.2, iv r113.next], eRow r_api_Loop 48 (.slice x.1 r113.loops.length x.2.1) r113.loops, eRow (rI .i64) 3 (.slice x.2.2.1 r113.rows.length x.2.2.2.1) r113.rows, eRow (rI .i64) 3 (.slice x.2.2.2.2.1 r113.bound.length x.2.2.2.2.2.1) r113.bound, eRow r_A2_Int 49 (.slice x.2.2.2.2.2.2.1 r113.cross.length x.2.2.2.2.2.2.2) r113.cross]) (D' := fun _ => []) [eBox bb0 73 [.slice ad13 r9.2.loops.length cp14, .slice ad15 r9.2.rows.length cp16, .slice ad17 r9.2.bound.length cp18, .slice ad19 r9.2.cross.length cp20, iv r9.2.next], eRow r_api_Loop 48 (.slice ad13 r9.2.loops.length cp14) r9.2.loops, eRow (rI .i64) 3 (.slice ad15 r9.2.rows.length cp16) r9.2.rows, eRow (rI .i64) 3 (.slice ad17 r9.2.bound.length cp18) r9.2.bound, eRow r_A2_Int 49 (.slice ad19 r9.2.cross.length cp20) r9.2.cross] [eBox b2 61 [.int .u8 p3.Kind, .bool p3.Purl, iv p3.A, iv p3.B], eBox b22 48 [iv p1, iv p2, .slice none 0 0, .bool p3.Purl]] [fRep r_api_Loop (.agg #[iv p1, iv p2, .slice none 0 0, .bool p3.Purl]) (api_Loop.mk p1 p2 ([] : (List Int)) p3.Purl), fRep (rL (rL (rI .i64))) (.slice ad111 [r108].length cp112) [r108]] [0, 3, 4, 5, 6, 1, 2] [1, 0] S (wN rfl) rfl callee58 rfl (by decide) rfl rfl (fun E1 w1 S1 => c_loops_piece_add_s1 E1 w1 r9.2 bb0 ad13 cp14 ad15 cp16 ad17 cp18 ad19 cp20 (api_Loop.mk p1 p2 ([] : (List Int)) p3.Purl) (.agg #[iv p1, iv p2, .slice none 0 0, .bool p3.Purl]) [r108] (.slice ad111 [r108].length cp112) r113 hx114 S1) rfl (lb rfl) fun xx a w S => ?_
    obtain ⟨ad115, cp116, ad117, cp118, ad119, cp120, ad121, cp122⟩ := xx
    dsimp only at S
    obtain rfl := Option.some.inj h
    exact leafL (leafB (sEnd (.tuple #[]) S (rsl0 rfl ) ⟨(ad115, cp116, ad117, cp118, ad119, cp120, ad121, cp122), rfl, S.mem.sel [0, 1, 2, 3, 4] [] (by decide) rfl rfl⟩))
  refine sCondF S rfl hc106 ?_
  refine sSeq (fun K123 hK123 => ?_)
  refine sRegion ?_
  refine sBin (.bool (p3.Kind == 3)) S (wN rfl) rfl rfl rfl (bEq _ _ _ _ .u8 p3.Kind 3) rfl (lb rfl) fun a S => ?_
  refine sMove (.bool (p3.Kind == 3)) S (wN rfl) (.inr rfl) rfl rfl (lb rfl) fun a S => ?_
  refine leafL (leafT (hK123 _ _ ?_))
  rcases iteSome h with ⟨hc124, h⟩ | ⟨hc124, h⟩
  · refine sCondT S rfl hc124 ?_
    refine sRegion ?_
    refine sMove (.pointer (some ⟨bb0, 0, none⟩)) S (wN rfl) (.inl rfl) rfl rfl (lb rfl) fun a S => ?_
    refine sLoadN (p := b22) (off := 0) (T := 48) (vs := [iv p1, iv p2, .slice none 0 0, .bool p3.Purl]) 2 [iv p1, iv p2, .slice none 0 0, .bool p3.Purl] S (wN rfl) rfl rfl rfl rfl rfl rfl rfl (lb rfl) fun a S => ?_
    refine sMove (.slice ad11 r9.1.length cp12) S (wN rfl) (.inl rfl) rfl rfl (lb rfl) fun a S => ?_
    have S := S.shutR (r := (rI .i64)) (T := 3) (v := .slice ad11 r9.1.length cp12) (xs := r9.1) 3 rfl
    refine sLit (r := (rL (rI .i64))) (T := 32) (xs := [r9.1]) [(0, .slice ad11 r9.1.length cp12)] 1 [.slice ad11 r9.1.length cp12] [.slice ad11 r9.1.length cp12] (.slice none 0 0) 24 S (wN rfl) rfl rfl Try.underlying69 rfl (by decide) (by decide) (by kernel_rfl) rfl (fun E1 w1 hE => All.cons ((rL (rI .i64)).mono hE (S.mem.know (i := 0) (e := fRep (rL (rI .i64)) (.slice ad11 r9.1.length cp12) r9.1) rfl)) (All.nil _ _ _)) rfl rfl (lb rfl) fun a w ad125 cp126 S => ?_
    obtain ⟨r127, hx128, h⟩ := bindSome h
    have S := S.learn (fRep (rL (rI .i64)) (.slice none 0 0) ([] : (List Int))) (rL_nil _ _ _)
    have S := S.learn (fRep r_api_Loop (.agg #[iv p1, iv p2, .slice none 0 0, .bool p3.Purl]) (api_Loop.mk p1 p2 ([] : (List Int)) p3.Purl)) ⟨_, rfl, S.mem.know (i := 0) (e := fRep (rL (rI .i64)) (.slice none 0 0) ([] : (List Int))) rfl⟩
    have S := S.shutR (r := (rL (rI .i64))) (T := 32) (v := .slice ad125 [r9.1].length cp126) (xs := [r9.1]) 0 rfl
    refine sCall (X := Option Addr × Nat × Option Addr × Nat × Option Addr × Nat × Option Addr × Nat) (f := 58) (vs := [.pointer (some ⟨bb0, 0, none⟩), .agg #[iv p1, iv p2, .slice none 0 0, .bool p3.Purl], .slice ad125 [r9.1].length cp126]) (val := fun _ => .tuple #[]) (B' := fun x => [eBox bb0 73 [.slice x.1 r127.loops.length x.2.1, .slice x.2.2.1 r127.rows.length x.2.2.2.1, .slice x.2.2.2.2.1 r127.bound.length x.2.2.2.2.2.1, .slice x.2.2.2.2.2.2.1 r127.cross.length x.2.2.2.2.2.2.2, iv r127.next], eRow r_api_Loop 48 (.slice x.1 r127.loops.length x.2.1) r127.loops, eRow (rI .i64) 3 (.slice x.2.2.1 r127.rows.length x.2.2.2.1) r127.rows, eRow (rI .i64) 3 (.slice x.2.2.2.2.1 r127.bound.length x.2.2.2.2.2.1) r127.bound, eRow r_A2_Int 49 (.slice x.2.2.2.2.2.2.1 r127.cross.length x.2.2.2.2.2.2.2) r127.cross]) (D' := fun _ => []) [eBox bb0 73 [.slice ad13 r9.2.loops.length cp14, .slice ad15 r9.2.rows.length cp16, .slice ad17 r9.2.bound.length cp18, .slice ad19 r9.2.cross.length cp20, iv r9.2.next], eRow r_api_Loop 48 (.slice ad13 r9.2.loops.length cp14) r9.2.loops, eRow (rI .i64) 3 (.slice ad15 r9.2.rows.length cp16) r9.2.rows, eRow (rI .i64) 3 (.slice ad17 r9.2.bound.length cp18) r9.2.bound, eRow r_A2_Int 49 (.slice ad19 r9.2.cross.length cp20) r9.2.cross] [eBox b2 61 [.int .u8 p3.Kind, .bool p3.Purl, iv p3.A, iv p3.B], eBox b22 48 [iv p1, iv p2, .slice none 0 0, .bool p3.Purl]] [fRep r_api_Loop (.agg #[iv p1, iv p2, .slice none 0 0, .bool p3.Purl]) (api_Loop.mk p1 p2 ([] : (List Int)) p3.Purl), fRep (rL (rL (rI .i64))) (.slice ad125 [r9.1].length cp126) [r9.1]] [0, 3, 4, 5, 6, 1, 2] [1, 0] S (wN rfl) rfl callee58 rfl (by decide) rfl rfl (fun E1 w1 S1 => c_loops_piece_add_s1 E1 w1 r9.2 bb0 ad13 cp14 ad15 cp16 ad17 cp18 ad19 cp20 (api_Loop.mk p1 p2 ([] : (List Int)) p3.Purl) (.agg #[iv p1, iv p2, .slice none 0 0, .bool p3.Purl]) [r9.1] (.slice ad125 [r9.1].length cp126) r127 hx128 S1) rfl (lb rfl) fun xx a w S => ?_
    obtain ⟨ad129, cp130, ad131, cp132, ad133, cp134, ad135, cp136⟩ := xx
    dsimp only at S
    obtain rfl := Option.some.inj h
    exact leafL (leafB (sEnd (.tuple #[]) S (rsl0 rfl ) ⟨(ad129, cp130, ad131, cp132, ad133, cp134, ad135, cp136), rfl, S.mem.sel [0, 1, 2, 3, 4] [] (by decide) rfl rfl⟩))
  refine sCondF S rfl hc124 ?_
  refine sSeq (fun K137 hK137 => ?_)
  refine sRegion ?_
  refine sBin (.bool (p3.Kind == 5)) S (wN rfl) rfl rfl rfl (bEq _ _ _ _ .u8 p3.Kind 5) rfl (lb rfl) fun a S => ?_
  refine sMove (.bool (p3.Kind == 5)) S (wN rfl) (.inr rfl) rfl rfl (lb rfl) fun a S => ?_
  refine leafL (leafT (hK137 _ _ ?_))
  rcases iteSome h with ⟨hc138, h⟩ | ⟨hc138, h⟩
  rotate_left
  · refine sCondF S rfl hc138 ?_
    refine sSeq (fun K202 hK202 => ?_)
    refine sRegion ?_
    refine sBin (.bool (p3.Kind == 10)) S (wN rfl) rfl rfl rfl (bEq _ _ _ _ .u8 p3.Kind 10) rfl (lb rfl) fun a S => ?_
    refine sMove (.bool (p3.Kind == 10)) S (wN rfl) (.inr rfl) rfl rfl (lb rfl) fun a S => ?_
    refine leafL (leafT (hK202 _ _ ?_))
    rcases iteSome h with ⟨hc203, h⟩ | ⟨hc203, h⟩
    · refine sCondT S rfl hc203 ?_
      refine sRegion ?_
      refine sMove (.pointer (some ⟨bb0, 0, none⟩)) S (wN rfl) (.inl rfl) rfl rfl (lb rfl) fun a S => ?_
      refine sMove (.pointer (some ⟨bb0, 0, none⟩)) S (wN rfl) (.inl rfl) rfl rfl (lb rfl) fun a S => ?_
      refine nilCheck_ok (q := ⟨bb0, 0, none⟩) S (wN rfl) rfl rfl rfl (lb rfl) fun a S => ?_
      refine sField (b := bb0) (off := 0) 2 2 S (wN rfl) rfl rfl rfl rfl rfl (lb rfl) fun a S => ?_
      refine sLoad1 (p := bb0) (off := 2) (T := 73) (vs := [.slice ad13 r9.2.loops.length cp14, .slice ad15 r9.2.rows.length cp16, .slice ad17 r9.2.bound.length cp18, .slice ad19 r9.2.cross.length cp20, iv r9.2.next]) 0 (.slice ad17 r9.2.bound.length cp18) S (wN rfl) rfl rfl rfl rfl rfl rfl (lb rfl) fun a S => ?_
      refine sMove (.slice ad11 r9.1.length cp12) S (wN rfl) (.inl rfl) rfl rfl (lb rfl) fun a S => ?_
      obtain ⟨l204, hx205, h⟩ := bindSome h
      refine sApp (r := (rI .i64)) (T := 3) (xs := r9.2.bound) (ys := r9.1) (v := .slice ad17 r9.2.bound.length cp18) (u := .slice ad11 r9.1.length cp12) 6 (iv 0) 8 S (wN rfl) rfl Try.underlying32 rfl rfl (by decide) rfl rfl rfl (src_R (T := 3) 3 S.mem rfl) hx205 rfl (lb rfl) fun a w ad206 cp207 S => ?_
      refine nilCheck_ok (q := ⟨bb0, 0, none⟩) S (wN rfl) rfl rfl rfl (lb rfl) fun a S => ?_
      refine sField (b := bb0) (off := 0) 2 2 S (wN rfl) rfl rfl rfl rfl rfl (lb rfl) fun a S => ?_
      refine sStore (p := bb0) (off := 2) (T := 73) (vs := [.slice ad13 r9.2.loops.length cp14, .slice ad15 r9.2.rows.length cp16, .slice ad17 r9.2.bound.length cp18, .slice ad19 r9.2.cross.length cp20, iv r9.2.next]) (v := .slice ad206 l204.length cp207) 1 [.slice ad206 l204.length cp207] S (wN rfl) rfl rfl rfl rfl rfl rfl rfl (by simp) rfl fun a w S => ?_
      obtain rfl := Option.some.inj h
      exact leafL (leafB (sEnd (.tuple #[]) S (rsl0 rfl ) ⟨(ad13, cp14, ad15, cp16, ad206, cp207, ad19, cp20), rfl, S.mem.sel [0, 5, 6, 1, 7] [] (by decide) rfl rfl⟩))
    refine sCondF S rfl hc203 ?_
    refine sRegion ?_
    refine sMove (.pointer (some ⟨bb0, 0, none⟩)) S (wN rfl) (.inl rfl) rfl rfl (lb rfl) fun a S => ?_
    refine sLoadN (p := b22) (off := 0) (T := 48) (vs := [iv p1, iv p2, .slice none 0 0, .bool p3.Purl]) 2 [iv p1, iv p2, .slice none 0 0, .bool p3.Purl] S (wN rfl) rfl rfl rfl rfl rfl rfl rfl (lb rfl) fun a S => ?_
    refine sLoadN (p := b2) (off := 0) (T := 61) (vs := [.int .u8 p3.Kind, .bool p3.Purl, iv p3.A, iv p3.B]) 1 [.int .u8 p3.Kind, .bool p3.Purl, iv p3.A, iv p3.B] S (wN rfl) rfl rfl rfl rfl rfl rfl rfl (lb rfl) fun a S => ?_
    refine sMove (.slice ad11 r9.1.length cp12) S (wN rfl) (.inl rfl) rfl rfl (lb rfl) fun a S => ?_
    obtain ⟨r208, hx209, h⟩ := bindSome h
    have S := S.learn (fRep (rL (rI .i64)) (.slice none 0 0) ([] : (List Int))) (rL_nil _ _ _)
    have S := S.learn (fRep r_api_Loop (.agg #[iv p1, iv p2, .slice none 0 0, .bool p3.Purl]) (api_Loop.mk p1 p2 ([] : (List Int)) p3.Purl)) ⟨_, rfl, S.mem.know (i := 0) (e := fRep (rL (rI .i64)) (.slice none 0 0) ([] : (List Int))) rfl⟩
    have S := S.learn (fRep r_api_Stitch (.agg #[.int .u8 p3.Kind, .bool p3.Purl, iv p3.A, iv p3.B]) p3) rfl
    have S := S.shutR (r := (rI .i64)) (T := 3) (v := .slice ad11 r9.1.length cp12) (xs := r9.1) 3 rfl
    refine sCall (X := Option Addr × Nat × Option Addr × Nat × Option Addr × Nat × Option Addr × Nat) (f := 61) (vs := [.pointer (some ⟨bb0, 0, none⟩), .agg #[iv p1, iv p2, .slice none 0 0, .bool p3.Purl], .agg #[.int .u8 p3.Kind, .bool p3.Purl, iv p3.A, iv p3.B], .slice ad11 r9.1.length cp12]) (val := fun _ => .tuple #[]) (B' := fun x => [eBox bb0 73 [.slice x.1 r208.loops.length x.2.1, .slice x.2.2.1 r208.rows.length x.2.2.2.1, .slice x.2.2.2.2.1 r208.bound.length x.2.2.2.2.2.1, .slice x.2.2.2.2.2.2.1 r208.cross.length x.2.2.2.2.2.2.2, iv r208.next], eRow r_api_Loop 48 (.slice x.1 r208.loops.length x.2.1) r208.loops, eRow (rI .i64) 3 (.slice x.2.2.1 r208.rows.length x.2.2.2.1) r208.rows, eRow (rI .i64) 3 (.slice x.2.2.2.2.1 r208.bound.length x.2.2.2.2.2.1) r208.bound, eRow r_A2_Int 49 (.slice x.2.2.2.2.2.2.1 r208.cross.length x.2.2.2.2.2.2.2) r208.cross]) (D' := fun _ => []) [eBox bb0 73 [.slice ad13 r9.2.loops.length cp14, .slice ad15 r9.2.rows.length cp16, .slice ad17 r9.2.bound.length cp18, .slice ad19 r9.2.cross.length cp20, iv r9.2.next], eRow r_api_Loop 48 (.slice ad13 r9.2.loops.length cp14) r9.2.loops, eRow (rI .i64) 3 (.slice ad15 r9.2.rows.length cp16) r9.2.rows, eRow (rI .i64) 3 (.slice ad17 r9.2.bound.length cp18) r9.2.bound, eRow r_A2_Int 49 (.slice ad19 r9.2.cross.length cp20) r9.2.cross] [eBox b2 61 [.int .u8 p3.Kind, .bool p3.Purl, iv p3.A, iv p3.B], eBox b22 48 [iv p1, iv p2, .slice none 0 0, .bool p3.Purl]] [fRep r_api_Loop (.agg #[iv p1, iv p2, .slice none 0 0, .bool p3.Purl]) (api_Loop.mk p1 p2 ([] : (List Int)) p3.Purl), fRep r_api_Stitch (.agg #[.int .u8 p3.Kind, .bool p3.Purl, iv p3.A, iv p3.B]) p3, fRep (rL (rI .i64)) (.slice ad11 r9.1.length cp12) r9.1] [0, 3, 4, 5, 6, 1, 2] [2, 1, 0] S (wN rfl) rfl callee61 rfl (by decide) rfl rfl (fun E1 w1 S1 => c_loops_piece_cable_s1 E1 w1 r9.2 bb0 ad13 cp14 ad15 cp16 ad17 cp18 ad19 cp20 (api_Loop.mk p1 p2 ([] : (List Int)) p3.Purl) (.agg #[iv p1, iv p2, .slice none 0 0, .bool p3.Purl]) p3 (.agg #[.int .u8 p3.Kind, .bool p3.Purl, iv p3.A, iv p3.B]) r9.1 (.slice ad11 r9.1.length cp12) r208 hx209 S1) rfl (lb rfl) fun xx a w S => ?_
    obtain ⟨ad210, cp211, ad212, cp213, ad214, cp215, ad216, cp217⟩ := xx
    dsimp only at S
    obtain rfl := Option.some.inj h
    exact leafL (leafB (sEnd (.tuple #[]) S (rsl0 rfl ) ⟨(ad210, cp211, ad212, cp213, ad214, cp215, ad216, cp217), rfl, S.mem.sel [0, 1, 2, 3, 4] [] (by decide) rfl rfl⟩))
  refine sCondT S rfl hc138 ?_
  refine sSeq (fun K139 hK139 => ?_)
  refine sRegion ?_
  refine sField (b := b2) (off := 0) 2 2 S (wN rfl) rfl rfl rfl rfl rfl (lb rfl) fun a S => ?_
  refine sLoad1 (p := b2) (off := 2) (T := 61) (vs := [.int .u8 p3.Kind, .bool p3.Purl, iv p3.A, iv p3.B]) 1 (iv p3.A) S (wN rfl) rfl rfl rfl rfl rfl rfl (lb rfl) fun a S => ?_
  refine sMove (iv 0) S (wN rfl) (.inl rfl) rfl rfl (lb rfl) fun a S => ?_
  refine leafL (leafT (hK139 _ _ ?_))
  refine wp_block ?_
  have S := S.shutR (r := (rI .i64)) (T := 3) (v := .slice ad11 r9.1.length cp12) (xs := r9.1) 3 rfl
  obtain ⟨t156, hl, g155⟩ := bindSome h
  refine sLoop hl (fun s0 a w => match s0 with | (s140, s141, s144, s147, s150, s153) => ∃ ad142, ∃ cp143, ∃ ad145, ∃ cp146, ∃ ad148, ∃ cp149, ∃ ad151, ∃ cp152, St [] E (keysL [eBox bb0 73 [.slice ad_0_0 p0.loops.length cp_0_0, .slice ad_0_1 p0.rows.length cp_0_1, .slice ad_0_2 p0.bound.length cp_0_2, .slice ad_0_3 p0.cross.length cp_0_3, iv p0.next], eRow r_api_Loop 48 (.slice ad_0_0 p0.loops.length cp_0_0) p0.loops, eRow (rI .i64) 3 (.slice ad_0_1 p0.rows.length cp_0_1) p0.rows, eRow (rI .i64) 3 (.slice ad_0_2 p0.bound.length cp_0_2) p0.bound, eRow r_A2_Int 49 (.slice ad_0_3 p0.cross.length cp_0_3) p0.cross]) w0 108 a w [(0, .pointer (some ⟨bb0, 0, none⟩)), (10, .slice ad11 r9.1.length cp12), (11, .pointer (some ⟨b22, 0, none⟩)), (87, iv p3.A), (88, iv s140)] [eBox bb0 73 [.slice ad142 s141.length cp143, .slice ad145 s144.length cp146, .slice ad148 s147.length cp149, .slice ad151 s150.length cp152, iv s153], eBox b22 48 [iv p1, iv p2, .slice none 0 0, .bool p3.Purl], eRow r_api_Loop 48 (.slice ad142 s141.length cp143) s141, eRow (rI .i64) 3 (.slice ad145 s144.length cp146) s144, eRow (rI .i64) 3 (.slice ad148 s147.length cp149) s147, eRow r_A2_Int 49 (.slice ad151 s150.length cp152) s150] [fRep (rL (rI .i64)) (.slice ad11 r9.1.length cp12) r9.1]) ⟨ad13, cp14, ad15, cp16, ad17, cp18, ad19, cp20, S.fix [0, 2, 3, 4, 5, 6] [0] (by decide) rfl rfl rfl⟩ ?_
  clear hl h
  intro s0 a w c0 hI h hu154
  obtain ⟨s140, s141, s144, s147, s150, s153⟩ := s0
  unfold loops_piece_work_s1_l1 at h
  dsimp only at h hI
  obtain ⟨ad142, cp143, ad145, cp146, ad148, cp149, ad151, cp152, S⟩ := hI
  refine sSeq (fun K170 hK170 => ?_)
  refine sRegion ?_
  refine sBin (.bool (decide (s140 < p3.A))) S (wN rfl) rfl rfl rfl (bLt _ _ _ _ .i64 s140 p3.A) rfl (lb rfl) fun a S => ?_
  refine leafL (leafT (hK170 _ _ ?_))
  refine sSeq (fun K171 hK171 => ?_)
  rcases iteSome h with ⟨hc172, h⟩ | ⟨hc172, h⟩
  rotate_left
  · refine sCondF S rfl hc172 ?_
    obtain rfl := Option.some.inj h
    obtain rfl := hu154 _ rfl
    have h := g155
    clear g155
    try dsimp only at h
    obtain rfl := Option.some.inj h
    exact wp_exit (xThen (xThen (xHit (leafB (sEnd (.tuple #[]) S (rsl0 rfl ) ⟨(ad142, cp143, ad145, cp146, ad148, cp149, ad151, cp152), rfl, S.mem.sel [0, 2, 3, 4, 5] [] (by decide) rfl rfl⟩)))))
  refine sCondT S rfl hc172 ?_
  refine wp_skip (leafT (hK171 _ _ ?_))
  refine sSeq (fun K173 hK173 => ?_)
  refine wp_block ?_
  obtain ⟨r174, hx175, h⟩ := bindSome h
  obtain ⟨r180, hx181, h⟩ := bindSome h
  refine sDraw (nf := [3, 4, 5]) (W := [(0, 90, .pointer (some ⟨bb0, 0, none⟩)), (1, 91, .agg #[iv p1, iv p2, .slice none 0 0, .bool p3.Purl]), (2, 92, .slice ad11 r9.1.length cp12)]) rfl S ?_
  refine node_by (A := [[], [], [], [2], [2, 3], [0, 1, 2, 3, 4]]) (nf := [3, 4, 5]) (Y := []) (W := [(0, 90, .pointer (some ⟨bb0, 0, none⟩)), (1, 91, .agg #[iv p1, iv p2, .slice none 0 0, .bool p3.Purl]), (2, 92, .slice ad11 r9.1.length cp12)]) 6 (by kernel_rfl) (by kernel_rfl) (by kernel_rfl) (by kernel_rfl) (by kernel_rfl) [0, 1, 2] (by kernel_rfl) (by decide) (by decide) (aF 0 5 (by decide) ?_ (aF 1 4 (by decide) ?_ (aF 2 3 (by decide) ?_ (aN 3 2 (by decide) ?_ (aB 4 1 3 (by decide) (aB 5 0 3 (by decide) (trivial))))))) [] (fun q hq => by cases hq) (fun hY => absurd (hY 3 (by decide)) (by decide))
  · refine fI 90 (.pointer (some ⟨bb0, 0, none⟩)) [(0, .pointer (some ⟨bb0, 0, none⟩))] 0 [none] rfl rfl rfl rfl rfl rfl fun G a w S => ?_
    refine sMove (.pointer (some ⟨bb0, 0, none⟩)) S (wN rfl) (.inl rfl) rfl rfl (lb rfl) fun a S => ?_
    exact leafL ⟨rfl, S⟩
  · refine fI 91 (.agg #[iv p1, iv p2, .slice none 0 0, .bool p3.Purl]) [(11, .pointer (some ⟨b22, 0, none⟩))] 1 [none] rfl rfl rfl rfl rfl rfl fun G a w S => ?_
    refine sLoadN (p := b22) (off := 0) (T := 48) (vs := [iv p1, iv p2, .slice none 0 0, .bool p3.Purl]) 1 [iv p1, iv p2, .slice none 0 0, .bool p3.Purl] S (wN rfl) rfl rfl rfl rfl rfl rfl rfl (lb rfl) fun a S => ?_
    exact leafL ⟨rfl, S⟩
  · refine fI 92 (.slice ad11 r9.1.length cp12) [(10, .slice ad11 r9.1.length cp12)] 2 [none] rfl rfl rfl rfl rfl rfl fun G a w S => ?_
    refine sMove (.slice ad11 r9.1.length cp12) S (wN rfl) (.inl rfl) rfl rfl (lb rfl) fun a S => ?_
    exact leafL ⟨rfl, S⟩
  refine ⟨_, [(92, .slice ad11 r9.1.length cp12)], rfl, (srcs_of [some 2] rfl rfl rfl), fun G a w S => ?_⟩
  refine sCall (X := Option Addr × Nat) (f := 60) (vs := [.slice ad11 r9.1.length cp12]) (val := fun x => .slice x.1 r174.length x.2) (B' := fun x => [eRow (rI .i64) 3 (.slice x.1 r174.length x.2) r174]) (D' := fun _ => []) [] [eBox bb0 73 [.slice ad142 s141.length cp143, .slice ad145 s144.length cp146, .slice ad148 s147.length cp149, .slice ad151 s150.length cp152, iv s153], eBox b22 48 [iv p1, iv p2, .slice none 0 0, .bool p3.Purl], eRow r_api_Loop 48 (.slice ad142 s141.length cp143) s141, eRow (rI .i64) 3 (.slice ad145 s144.length cp146) s144, eRow (rI .i64) 3 (.slice ad148 s147.length cp149) s147, eRow r_A2_Int 49 (.slice ad151 s150.length cp152) s150] [fRep (rL (rI .i64)) (.slice ad11 r9.1.length cp12) r9.1] [0, 1, 2, 3, 4, 5] [0] S (wN rfl) rfl callee60 rfl (by decide) rfl rfl (fun E1 w1 S1 => c_slices_Clone___int_int__s0 E1 w1 r9.1 (.slice ad11 r9.1.length cp12) r174 hx175 S1) rfl (lb rfl) fun xx a w S => ?_
  obtain ⟨ad190, cp191⟩ := xx
  dsimp only at S
  refine leafL ⟨rfl, _, _, .inl ⟨93, (.slice ad190 r174.length cp191), [], rfl, S, hz_of rfl, ?_⟩⟩
  refine node_by (A := [[], [], [], [2], [2, 3], [0, 1, 2, 3, 4]]) (nf := [3, 4, 5]) (Y := [3]) 6 (by kernel_rfl) (by kernel_rfl) (by kernel_rfl) (by kernel_rfl) (by kernel_rfl) [3, 0, 1, 2] (by kernel_rfl) (by decide) (by decide) (aF 0 5 (by decide) ?_ (aF 1 4 (by decide) ?_ (aD 2 3 3 (by decide) (aY 3 2 (by decide) (aN 4 1 (by decide) ?_ (aB 5 0 4 (by decide) (trivial))))))) [] (fun q hq => by cases hq) (fun hY => absurd (hY 4 (by decide)) (by decide))
  · refine fI 90 (.pointer (some ⟨bb0, 0, none⟩)) [(0, .pointer (some ⟨bb0, 0, none⟩))] 1 [none] rfl rfl rfl rfl rfl rfl fun G a w S => ?_
    refine sMove (.pointer (some ⟨bb0, 0, none⟩)) S (wN rfl) (.inl rfl) rfl rfl (lb rfl) fun a S => ?_
    exact leafL ⟨rfl, S⟩
  · refine fI 91 (.agg #[iv p1, iv p2, .slice none 0 0, .bool p3.Purl]) [(11, .pointer (some ⟨b22, 0, none⟩))] 2 [none] rfl rfl rfl rfl rfl rfl fun G a w S => ?_
    refine sLoadN (p := b22) (off := 0) (T := 48) (vs := [iv p1, iv p2, .slice none 0 0, .bool p3.Purl]) 2 [iv p1, iv p2, .slice none 0 0, .bool p3.Purl] S (wN rfl) rfl rfl rfl rfl rfl rfl rfl (lb rfl) fun a S => ?_
    exact leafL ⟨rfl, S⟩
  refine ⟨_, [(93, .slice ad190 r174.length cp191)], rfl, (srcs_of [some 0] rfl rfl rfl), fun G a w S => ?_⟩
  have S := S.shutR (r := (rI .i64)) (T := 3) (v := .slice ad190 r174.length cp191) (xs := r174) 0 rfl
  refine sLit (r := (rL (rI .i64))) (T := 32) (xs := [r174]) [(0, .slice ad190 r174.length cp191)] 1 [.slice ad190 r174.length cp191] [.slice ad190 r174.length cp191] (.slice none 0 0) 24 S (wN rfl) rfl rfl Try.underlying69 rfl (by decide) (by decide) (by kernel_rfl) rfl (fun E1 w1 hE => All.cons ((rL (rI .i64)).mono hE (S.mem.know (i := 0) (e := fRep (rL (rI .i64)) (.slice ad190 r174.length cp191) r174) rfl)) (All.nil _ _ _)) rfl rfl (lb rfl) fun a w ad192 cp193 S => ?_
  refine leafL ⟨rfl, _, _, .inl ⟨94, (.slice ad192 [r174].length cp193), [], rfl, S, hz_of rfl, ?_⟩⟩
  refine node_by (A := [[], [], [], [2], [2, 3], [0, 1, 2, 3, 4]]) (nf := [3, 4, 5]) (Y := [4, 3]) 6 (by kernel_rfl) (by kernel_rfl) (by kernel_rfl) (by kernel_rfl) (by kernel_rfl) [4, 3, 0, 1, 2] (by kernel_rfl) (by decide) (by decide) (aF 0 5 (by decide) ?_ (aF 1 4 (by decide) ?_ (aD 2 3 4 (by decide) (aY 3 2 (by decide) (aY 4 1 (by decide) (aN 5 0 (by decide) ?_ (trivial))))))) [] (fun q hq => by cases hq) (fun hY => absurd (hY 5 (by decide)) (by decide))
  · refine fI 90 (.pointer (some ⟨bb0, 0, none⟩)) [(0, .pointer (some ⟨bb0, 0, none⟩))] 2 [none] rfl rfl rfl rfl rfl rfl fun G a w S => ?_
    refine sMove (.pointer (some ⟨bb0, 0, none⟩)) S (wN rfl) (.inl rfl) rfl rfl (lb rfl) fun a S => ?_
    exact leafL ⟨rfl, S⟩
  · refine fI 91 (.agg #[iv p1, iv p2, .slice none 0 0, .bool p3.Purl]) [(11, .pointer (some ⟨b22, 0, none⟩))] 3 [none] rfl rfl rfl rfl rfl rfl fun G a w S => ?_
    refine sLoadN (p := b22) (off := 0) (T := 48) (vs := [iv p1, iv p2, .slice none 0 0, .bool p3.Purl]) 2 [iv p1, iv p2, .slice none 0 0, .bool p3.Purl] S (wN rfl) rfl rfl rfl rfl rfl rfl rfl (lb rfl) fun a S => ?_
    exact leafL ⟨rfl, S⟩
  refine ⟨_, [(90, .pointer (some ⟨bb0, 0, none⟩)), (91, .agg #[iv p1, iv p2, .slice none 0 0, .bool p3.Purl]), (94, .slice ad192 [r174].length cp193)], rfl, (srcs_of [some 2, some 3, some 0] rfl rfl rfl), fun G a w S => ?_⟩
  have S := S.learn (fRep (rL (rI .i64)) (.slice none 0 0) ([] : (List Int))) (rL_nil _ _ _)
  have S := S.learn (fRep r_api_Loop (.agg #[iv p1, iv p2, .slice none 0 0, .bool p3.Purl]) (api_Loop.mk p1 p2 ([] : (List Int)) p3.Purl)) ⟨_, rfl, S.mem.know (i := 0) (e := fRep (rL (rI .i64)) (.slice none 0 0) ([] : (List Int))) rfl⟩
  have S := S.shutR (r := (rL (rI .i64))) (T := 32) (v := .slice ad192 [r174].length cp193) (xs := [r174]) 0 rfl
  refine sCall (X := Option Addr × Nat × Option Addr × Nat × Option Addr × Nat × Option Addr × Nat) (f := 58) (vs := [.pointer (some ⟨bb0, 0, none⟩), .agg #[iv p1, iv p2, .slice none 0 0, .bool p3.Purl], .slice ad192 [r174].length cp193]) (val := fun _ => .tuple #[]) (B' := fun x => [eBox bb0 73 [.slice x.1 r180.loops.length x.2.1, .slice x.2.2.1 r180.rows.length x.2.2.2.1, .slice x.2.2.2.2.1 r180.bound.length x.2.2.2.2.2.1, .slice x.2.2.2.2.2.2.1 r180.cross.length x.2.2.2.2.2.2.2, iv r180.next], eRow r_api_Loop 48 (.slice x.1 r180.loops.length x.2.1) r180.loops, eRow (rI .i64) 3 (.slice x.2.2.1 r180.rows.length x.2.2.2.1) r180.rows, eRow (rI .i64) 3 (.slice x.2.2.2.2.1 r180.bound.length x.2.2.2.2.2.1) r180.bound, eRow r_A2_Int 49 (.slice x.2.2.2.2.2.2.1 r180.cross.length x.2.2.2.2.2.2.2) r180.cross]) (D' := fun _ => []) [eBox bb0 73 [.slice ad142 s141.length cp143, .slice ad145 s144.length cp146, .slice ad148 s147.length cp149, .slice ad151 s150.length cp152, iv s153], eRow r_api_Loop 48 (.slice ad142 s141.length cp143) s141, eRow (rI .i64) 3 (.slice ad145 s144.length cp146) s144, eRow (rI .i64) 3 (.slice ad148 s147.length cp149) s147, eRow r_A2_Int 49 (.slice ad151 s150.length cp152) s150] [eBox b22 48 [iv p1, iv p2, .slice none 0 0, .bool p3.Purl]] [fRep r_api_Loop (.agg #[iv p1, iv p2, .slice none 0 0, .bool p3.Purl]) (api_Loop.mk p1 p2 ([] : (List Int)) p3.Purl), fRep (rL (rL (rI .i64))) (.slice ad192 [r174].length cp193) [r174]] [0, 2, 3, 4, 5, 1] [1, 0] S (wN rfl) rfl callee58 rfl (by decide) rfl rfl (fun E1 w1 S1 => c_loops_piece_add_s1 E1 w1 (loops_piece.mk s141 s144 s147 s150 s153) bb0 ad142 cp143 ad145 cp146 ad148 cp149 ad151 cp152 (api_Loop.mk p1 p2 ([] : (List Int)) p3.Purl) (.agg #[iv p1, iv p2, .slice none 0 0, .bool p3.Purl]) [r174] (.slice ad192 [r174].length cp193) r180 hx181 S1) rfl (lb rfl) fun xx a w S => ?_
  obtain ⟨ad194, cp195, ad196, cp197, ad198, cp199, ad200, cp201⟩ := xx
  dsimp only at S
  refine leafL ⟨rfl, _, _, .inl ⟨95, (.tuple #[]), [], rfl, S, hz_of rfl, ?_⟩⟩
  refine node_by (A := [[], [], [], [2], [2, 3], [0, 1, 2, 3, 4]]) (nf := [3, 4, 5]) (Y := [5, 4, 3]) 6 (by kernel_rfl) (by kernel_rfl) (by kernel_rfl) (by kernel_rfl) (by kernel_rfl) [5, 4, 3, 0, 1, 2] (by kernel_rfl) (by decide) (by decide) (aD 0 5 5 (by decide) (aD 1 4 5 (by decide) (aD 2 3 5 (by decide) (aY 3 2 (by decide) (aY 4 1 (by decide) (aY 5 0 (by decide) (trivial))))))) [(0, .pointer (some ⟨bb0, 0, none⟩)), (10, .slice ad11 r9.1.length cp12), (11, .pointer (some ⟨b22, 0, none⟩)), (87, iv p3.A), (88, iv s140)] (fin_of [none, none, none, none, none] rfl (by kernel_rfl) (by kernel_rfl)) (fun _ a w S => ?_)
  refine leafB (leafT (hK173 _ _ ?_))
  refine sRegion ?_
  refine sBin (iv (w64 (s140 + 1))) S (wN rfl) rfl rfl rfl (bAdd _ _ _ _ s140 1) rfl (lb rfl) fun a S => ?_
  refine sMove (iv (w64 (s140 + 1))) S (wN rfl) (.inl rfl) rfl rfl (lb rfl) fun a S => ?_
  exact leafL (leafT (⟨(w64 (s140 + 1), r180.loops, r180.rows, r180.bound, r180.cross, r180.next), (Option.some.inj h).symm, ⟨ad194, cp195, ad196, cp197, ad198, cp199, ad200, cp201, S.fix [0, 5, 1, 2, 3, 4] [4] (by decide) rfl rfl rfl⟩⟩))

end Go.Proofs.Yticjoiolfibmlaa
namespace Go.Proofs.Yticjoiolfibmlaa
open Go.RowKit
set_option linter.unusedVariables false

noncomputable def loops_of_l1 (p0 : api_Chart) : (Int × List api_Loop) → Option ((Int × List api_Loop) ⊕ List api_Loop) := fun s0 => match s0 with
  | (s21, s22) =>
    if decide (s21 < p0.Start) then
      Option.bind (appO s22 [(api_Loop.mk 0 s21 ([] : (List Int)) false)]) fun l38 =>
      some (.inl (w64 (s21 + 1), l38))
    else
      some (.inr s22)
noncomputable def loops_of_l2 (r111 : ((List api_Stitch) × Int)) (s61 : Int) : (Int × List api_Loop × List Int × List Int × List (Int × Int) × Int) → Option ((Int × List api_Loop × List Int × List Int × List (Int × Int) × Int) ⊕ (List api_Loop × List Int × List Int × List (Int × Int) × Int)) := fun s0 => match s0 with
  | (s132, s133, s136, s139, s142, s145) =>
    if decide (s132 < (r111.1.length : Int)) then
      Option.bind (idxO r111.1 s132) fun x167 =>
      Option.bind (F_loops_piece_work_s1 (loops_piece.mk s133 s136 s139 s142 s145) (w64 (s61 + 1)) s132 x167) fun r173 =>
      some (.inl (w64 (s132 + 1), r173.loops, r173.rows, r173.bound, r173.cross, r173.next))
    else
      some (.inr (s133, s136, s139, s142, s145))
noncomputable def loops_of_l3 (p0 : api_Chart) : (Int × List api_Loop × List Int × List Int × List (Int × Int) × Int) → Option ((Int × List api_Loop × List Int × List Int × List (Int × Int) × Int) ⊕ (List api_Loop × List Int × List Int × List (Int × Int) × Int)) := fun s0 => match s0 with
  | (s61, s62, s65, s68, s71, s74) =>
    if decide (s61 < (p0.Rows.length : Int)) then
      Option.bind (α := (List api_Loop × List Int × List Int × List (Int × Int) × Int)) (
        Option.bind (F_chart_Face p0 s61) fun r111 =>
        Option.bind (α := (List api_Loop × List Int × List Int × List (Int × Int) × Int)) (
          Option.bind (whileO (loops_of_l2 r111 s61) (0, s62, s65, s68, s71, s74)) fun (e149, e152, e155, e158, e161) =>
            some (e149, e152, e155, e158, e161)) fun (o116, o119, o122, o125, o128) =>
        Option.bind (appO o119 ([(o116.length : Int)] : List Int)) fun l185 =>
        some (o116, l185, o122, o125, o128)) fun (o94, o97, o100, o103, o106) =>
      some (.inl (w64 (s61 + 1), o94, o97, o100, o103, o106))
    else
      some (.inr (s62, s65, s68, s71, s74))
noncomputable def F_loops_of (p0 : api_Chart) : Option (loops_piece × Int) :=
  Option.bind (F_chart_Check p0) fun r10 =>
  if r10 != 0 then
    some ((loops_piece.mk ([] : (List api_Loop)) ([] : (List Int)) ([] : (List Int)) ([] : (List (Int × Int))) 0), r10)
  else
    Option.bind (α := List api_Loop) (
      Option.bind (whileO (loops_of_l1 p0) (0, ([] : List api_Loop))) fun e28 =>
        some e28) fun o15 =>
    Option.bind (α := (List api_Loop × List Int × List Int × List (Int × Int) × Int)) (
      Option.bind (whileO (loops_of_l3 p0) (0, o15, ([0, p0.Start] : List Int), ([] : List Int), ([] : List (Int × Int)), 0)) fun (e78, e81, e84, e87, e90) =>
        some (e78, e81, e84, e87, e90)) fun (o45, o48, o51, o54, o57) =>
    some ((loops_piece.mk o45 o48 o51 o54 o57), 0)
def c_loops_of_val (r : (loops_piece × Int)) (x : Value) : Value := .tuple #[x, .int .i64 r.2]
def c_loops_of_D (r : (loops_piece × Int)) (x : Value) : List Fact := [fRep r_loops_piece x r.1]
set_option maxHeartbeats 4000000 in
set_option maxRecDepth 100000 in
theorem c_loops_of (E : Nat → Prop) (w0 : World) (p0 : api_Chart) (v0 : Value) (r : (loops_piece × Int)) (h : F_loops_of p0 = some r) (S : St0 E [] w0 w0 [] [fRep r_api_Chart (v0) p0]) :
    Calls Try.prog 33 #[v0] w0 (Ret (X := Value) E [] w0 (c_loops_of_val r) (fun _ => []) (c_loops_of_D r)) := by
  unfold F_loops_of at h
  obtain ⟨u1, rfl, hu2⟩ := S.know (i := 0) (e := fRep r_api_Chart (v0) p0) rfl
  have S := S.learn (fRep (rL r_api_Row) u1 p0.Rows) hu2
  obtain ⟨ad3, cp4, _, rfl, _⟩ := hu2
  refine sEnter (args := [.agg #[iv p0.Start, .slice ad3 p0.Rows.length cp4]]) 69 Try.func33 rfl rfl (by simp) S (fun a S => ?_)
  refine sSeq (fun K5 hK5 => ?_)
  refine sRegion ?_
  refine sBox (v := .agg #[iv p0.Start, .slice ad3 p0.Rows.length cp4]) S (wN rfl) rfl rfl [iv p0.Start, .slice ad3 p0.Rows.length cp4] rfl rfl (lb rfl) fun a b6 w S => ?_
  refine sAlloc (.agg #[.slice none 0 0, .slice none 0 0, .slice none 0 0, .slice none 0 0, iv 0]) S (wN rfl) rfl rfl [.slice none 0 0, .slice none 0 0, .slice none 0 0, .slice none 0 0, iv 0] rfl rfl (lb rfl) fun a b7 w S => ?_
  refine sMove (iv 0) S (wN rfl) (.inr rfl) rfl rfl (lb rfl) fun a S => ?_
  refine leafL (leafT (hK5 _ _ ?_))
  refine sSeq (fun K8 hK8 => ?_)
  refine sSeq (fun K9 hK9 => ?_)
  refine sRegion ?_
  refine sLoadN (p := b6) (off := 0) (T := 24) (vs := [iv p0.Start, .slice ad3 p0.Rows.length cp4]) 1 [iv p0.Start, .slice ad3 p0.Rows.length cp4] S (wN rfl) rfl rfl rfl rfl rfl rfl rfl (lb rfl) fun a S => ?_
  obtain ⟨r10, hx11, h⟩ := bindSome h
  have S1 := S.mem
  refine sCallQ (X := Unit) (f := 39) (vs := [.agg #[iv p0.Start, .slice ad3 p0.Rows.length cp4]]) (val := fun _ => iv r10) S (wN rfl) rfl callee39 rfl (S1.quiet [1] rfl) (fun E1 w1 S1 => c_chart_Check E1 w1 p0 (.agg #[iv p0.Start, .slice ad3 p0.Rows.length cp4]) r10 hx11 S1) rfl (lb rfl) fun _ a w S => ?_
  refine sMove (iv r10) S (wN rfl) (.inr rfl) rfl rfl (lb rfl) fun a S => ?_
  refine leafL (leafT (hK9 _ _ ?_))
  refine sSeq (fun K12 hK12 => ?_)
  refine sRegion ?_
  refine sMove (iv r10) S (wN rfl) (.inl rfl) rfl rfl (lb rfl) fun a S => ?_
  refine sBin (.bool (r10 != 0)) S (wN rfl) rfl rfl rfl (bNe _ _ _ _ .i64 r10 0) rfl (lb rfl) fun a S => ?_
  refine leafL (leafT (hK12 _ _ ?_))
  rcases iteSome h with ⟨hc13, h⟩ | ⟨hc13, h⟩
  · refine sCondT S rfl hc13 ?_
    refine sSeq (fun K14 hK14 => ?_)
    refine sRegion ?_
    refine sBuild [] [.slice none 0 0, .slice none 0 0, .slice none 0 0, .slice none 0 0, iv 0] S (wN rfl) rfl rfl rfl rfl (lb rfl) fun a S => ?_
    refine sMove (iv r10) S (wN rfl) (.inl rfl) rfl rfl (lb rfl) fun a S => ?_
    refine sStore (p := b7) (off := 0) (T := 73) (vs := [.slice none 0 0, .slice none 0 0, .slice none 0 0, .slice none 0 0, iv 0]) (v := .agg #[.slice none 0 0, .slice none 0 0, .slice none 0 0, .slice none 0 0, iv 0]) 0 [.slice none 0 0, .slice none 0 0, .slice none 0 0, .slice none 0 0, iv 0] S (wN rfl) rfl rfl rfl rfl rfl rfl rfl (by simp) rfl fun a w S => ?_
    refine sMove (iv r10) S (wN rfl) (.inr rfl) rfl rfl (lb rfl) fun a S => ?_
    refine leafL (leafT (hK14 _ _ ?_))
    obtain rfl := Option.some.inj h
    have S := S.learn (fRep (rL r_api_Loop) (.slice none 0 0) ([] : (List api_Loop))) (rL_nil _ _ _)
    have S := S.learn (fRep (rL (rI .i64)) (.slice none 0 0) ([] : (List Int))) (rL_nil _ _ _)
    have S := S.learn (fRep (rL r_A2_Int) (.slice none 0 0) ([] : (List (Int × Int)))) (rL_nil _ _ _)
    have S := S.learn (fRep r_loops_piece (.agg #[.slice none 0 0, .slice none 0 0, .slice none 0 0, .slice none 0 0, iv 0]) (loops_piece.mk ([] : (List api_Loop)) ([] : (List Int)) ([] : (List Int)) ([] : (List (Int × Int))) 0)) ⟨_, _, _, _, rfl, S.mem.know (i := 2) (e := fRep (rL r_api_Loop) (.slice none 0 0) ([] : (List api_Loop))) rfl, S.mem.know (i := 1) (e := fRep (rL (rI .i64)) (.slice none 0 0) ([] : (List Int))) rfl, S.mem.know (i := 1) (e := fRep (rL (rI .i64)) (.slice none 0 0) ([] : (List Int))) rfl, S.mem.know (i := 0) (e := fRep (rL r_A2_Int) (.slice none 0 0) ([] : (List (Int × Int)))) rfl⟩
    exact wp_ret (rThen (sRet (.tuple #[.agg #[.slice none 0 0, .slice none 0 0, .slice none 0 0, .slice none 0 0, iv 0], iv r10]) S (rsl2 rfl (rvN (c := 2) (t := 73) (T := 73) (p := b7) 0 [.slice none 0 0, .slice none 0 0, .slice none 0 0, .slice none 0 0, iv 0] S rfl rfl rfl rfl) (rvT (t := 3) (v := iv r10) S rfl)) ⟨(.agg #[.slice none 0 0, .slice none 0 0, .slice none 0 0, .slice none 0 0, iv 0]), rfl, S.mem.sel [] [0] (by decide) rfl rfl⟩))
  refine sCondF S rfl hc13 ?_
  refine wp_skip (leafT (hK8 _ _ ?_))
  obtain ⟨t18, h, g19⟩ := bindSome h
  refine sCut (fun a w => ∃ o15, o15 = t18 ∧ ∃ ad16, ∃ cp17, St [] E [] w0 69 a w [(1, .pointer (some ⟨b6, 0, none⟩)), (2, .pointer (some ⟨b7, 0, none⟩))] [eBox b6 24 [iv p0.Start, .slice ad3 p0.Rows.length cp4], eBox b7 73 [.slice ad16 o15.length cp17, .slice none 0 0, .slice none 0 0, .slice none 0 0, iv 0], eRow r_api_Loop 48 (.slice ad16 o15.length cp17) o15] [fRep (rL r_api_Row) (.slice ad3 p0.Rows.length cp4) p0.Rows]) ?_ (fun a w hI => ?_)
  · refine sSeq (fun K20 hK20 => ?_)
    refine sRegion ?_
    refine sField (b := b6) (off := 0) 0 0 S (wN rfl) rfl rfl rfl rfl rfl (lb rfl) fun a S => ?_
    refine sLoad1 (p := b6) (off := 0) (T := 24) (vs := [iv p0.Start, .slice ad3 p0.Rows.length cp4]) 1 (iv p0.Start) S (wN rfl) rfl rfl rfl rfl rfl rfl (lb rfl) fun a S => ?_
    refine sMove (iv 0) S (wN rfl) (.inl rfl) rfl rfl (lb rfl) fun a S => ?_
    refine leafL (leafT (hK20 _ _ ?_))
    refine wp_block ?_
    have S := S.nilRow r_api_Loop 48 (α := api_Loop)
    obtain ⟨t27, hl, g26⟩ := bindSome h
    refine sLoop hl (fun s0 a w => match s0 with | (s21, s22) => ∃ ad23, ∃ cp24, St [] E [] w0 69 a w [(1, .pointer (some ⟨b6, 0, none⟩)), (2, .pointer (some ⟨b7, 0, none⟩)), (18, iv p0.Start), (19, iv s21)] [eBox b6 24 [iv p0.Start, .slice ad3 p0.Rows.length cp4], eBox b7 73 [.slice ad23 s22.length cp24, .slice none 0 0, .slice none 0 0, .slice none 0 0, iv 0], eRow r_api_Loop 48 (.slice ad23 s22.length cp24) s22] [fRep (rL r_api_Row) (.slice ad3 p0.Rows.length cp4) p0.Rows]) ⟨none, 0, S.fix [2, 1, 0] [0] (by decide) rfl rfl rfl⟩ ?_
    clear hl h
    intro s0 a w c0 hI h hu25
    obtain ⟨s21, s22⟩ := s0
    unfold loops_of_l1 at h
    dsimp only at h hI
    obtain ⟨ad23, cp24, S⟩ := hI
    refine sSeq (fun K31 hK31 => ?_)
    refine sRegion ?_
    refine sBin (.bool (decide (s21 < p0.Start))) S (wN rfl) rfl rfl rfl (bLt _ _ _ _ .i64 s21 p0.Start) rfl (lb rfl) fun a S => ?_
    refine leafL (leafT (hK31 _ _ ?_))
    refine sSeq (fun K32 hK32 => ?_)
    rcases iteSome h with ⟨hc33, h⟩ | ⟨hc33, h⟩
    rotate_left
    · refine sCondF S rfl hc33 ?_
      obtain rfl := Option.some.inj h
      obtain rfl := hu25 _ rfl
      have h := g26
      clear g26
      try dsimp only at h
      exact wp_exit (xThen (xThen (xHit (leafT (⟨s22, Option.some.inj h, ad23, cp24, S.fix [0, 1, 2] [0] (by decide) rfl rfl rfl⟩)))))
    refine sCondT S rfl hc33 ?_
    refine wp_skip (leafT (hK32 _ _ ?_))
    refine sSeq (fun K34 hK34 => ?_)
    refine wp_block ?_
    refine sSeq (fun K35 hK35 => ?_)
    refine sRegion ?_
    refine sMove (iv s21) S (wN rfl) (.inl rfl) rfl rfl (lb rfl) fun a S => ?_
    refine sMove (iv s21) S (wN rfl) (.inr rfl) rfl rfl (lb rfl) fun a S => ?_
    refine leafL (leafT (hK35 _ _ ?_))
    refine sRegion ?_
    refine sField (b := b7) (off := 0) 0 0 S (wN rfl) rfl rfl rfl rfl rfl (lb rfl) fun a S => ?_
    refine sLoad1 (p := b7) (off := 0) (T := 73) (vs := [.slice ad23 s22.length cp24, .slice none 0 0, .slice none 0 0, .slice none 0 0, iv 0]) 1 (.slice ad23 s22.length cp24) S (wN rfl) rfl rfl rfl rfl rfl rfl (lb rfl) fun a S => ?_
    refine sMove (iv s21) S (wN rfl) (.inl rfl) rfl rfl (lb rfl) fun a S => ?_
    refine sBuild [(1, iv s21)] [iv 0, iv s21, .slice none 0 0, .bool false] S (wN rfl) rfl rfl rfl rfl (lb rfl) fun a S => ?_
    have S := S.learn (fRep (rL (rI .i64)) (.slice none 0 0) ([] : (List Int))) (rL_nil _ _ _)
    have S := S.learn (fRep r_api_Loop (.agg #[iv 0, iv s21, .slice none 0 0, .bool false]) (api_Loop.mk 0 s21 ([] : (List Int)) false)) ⟨_, rfl, S.mem.know (i := 0) (e := fRep (rL (rI .i64)) (.slice none 0 0) ([] : (List Int))) rfl⟩
    refine sLit (r := r_api_Loop) (T := 48) (xs := [(api_Loop.mk 0 s21 ([] : (List Int)) false)]) [(0, .agg #[iv 0, iv s21, .slice none 0 0, .bool false])] 1 [.agg #[iv 0, iv s21, .slice none 0 0, .bool false]] [iv 0, iv s21, .slice none 0 0, .bool false] (.agg #[iv 0, iv 0, .slice none 0 0, .bool false]) 48 S (wN rfl) rfl rfl Try.underlying26 rfl (by decide) (by decide) (by kernel_rfl) rfl (fun E1 w1 hE => All.cons (r_api_Loop.mono hE (S.mem.know (i := 0) (e := fRep r_api_Loop (.agg #[iv 0, iv s21, .slice none 0 0, .bool false]) (api_Loop.mk 0 s21 ([] : (List Int)) false)) rfl)) (All.nil _ _ _)) rfl rfl (lb rfl) fun a w ad36 cp37 S => ?_
    obtain ⟨l38, hx39, h⟩ := bindSome h
    refine sApp (r := r_api_Loop) (T := 48) (xs := s22) (ys := [(api_Loop.mk 0 s21 ([] : (List Int)) false)]) (v := .slice ad23 s22.length cp24) (u := .slice ad36 [(api_Loop.mk 0 s21 ([] : (List Int)) false)].length cp37) 3 (.agg #[iv 0, iv 0, .slice none 0 0, .bool false]) 48 S (wN rfl) rfl Try.underlying26 rfl rfl (by decide) rfl rfl rfl (src_R (T := 48) 0 S.mem rfl) hx39 rfl (lb rfl) fun a w ad40 cp41 S => ?_
    refine sField (b := b7) (off := 0) 0 0 S (wN rfl) rfl rfl rfl rfl rfl (lb rfl) fun a S => ?_
    refine sStore (p := b7) (off := 0) (T := 73) (vs := [.slice ad23 s22.length cp24, .slice none 0 0, .slice none 0 0, .slice none 0 0, iv 0]) (v := .slice ad40 l38.length cp41) 3 [.slice ad40 l38.length cp41] S (wN rfl) rfl rfl rfl rfl rfl rfl rfl (by simp) rfl fun a w S => ?_
    refine leafL (leafB (leafT (hK34 _ _ ?_)))
    refine sRegion ?_
    refine sBin (iv (w64 (s21 + 1))) S (wN rfl) rfl rfl rfl (bAdd _ _ _ _ s21 1) rfl (lb rfl) fun a S => ?_
    refine sMove (iv (w64 (s21 + 1))) S (wN rfl) (.inl rfl) rfl rfl (lb rfl) fun a S => ?_
    exact leafL (leafT (⟨(w64 (s21 + 1), l38), (Option.some.inj h).symm, ⟨ad40, cp41, S.fix [3, 0, 1] [2] (by decide) rfl rfl rfl⟩⟩))
  obtain ⟨o15, rfl, ad16, cp17, S⟩ := hI
  have h := g19
  clear g19
  try dsimp only at h
  refine sSeq (fun K42 hK42 => ?_)
  refine sRegion ?_
  refine sField (b := b6) (off := 0) 0 0 S (wN rfl) rfl rfl rfl rfl rfl (lb rfl) fun a S => ?_
  refine sLoad1 (p := b6) (off := 0) (T := 24) (vs := [iv p0.Start, .slice ad3 p0.Rows.length cp4]) 0 (iv p0.Start) S (wN rfl) rfl rfl rfl rfl rfl rfl (lb rfl) fun a S => ?_
  refine sLit (r := (rI .i64)) (T := 3) (xs := ([0, p0.Start] : List Int)) [(0, iv 0), (1, iv p0.Start)] 2 [iv 0, iv p0.Start] [iv 0, iv p0.Start] (iv 0) 8 S (wN rfl) rfl rfl Try.underlying32 rfl (by decide) (by decide) (by kernel_rfl) rfl (fun E1 w1 hE => All.cons rfl (All.cons rfl (All.nil _ _ _))) rfl rfl (lb rfl) fun a w ad43 cp44 S => ?_
  refine sField (b := b7) (off := 0) 1 1 S (wN rfl) rfl rfl rfl rfl rfl (lb rfl) fun a S => ?_
  refine sStore (p := b7) (off := 1) (T := 73) (vs := [.slice ad16 o15.length cp17, .slice none 0 0, .slice none 0 0, .slice none 0 0, iv 0]) (v := .slice ad43 ([0, p0.Start] : List Int).length cp44) 2 [.slice ad43 ([0, p0.Start] : List Int).length cp44] S (wN rfl) rfl rfl rfl rfl rfl rfl rfl (by simp) rfl fun a w S => ?_
  refine leafL (leafT (hK42 _ _ ?_))
  obtain ⟨t58, h, g59⟩ := bindSome h
  refine sCut (fun a w => ∃ o45, ∃ o48, ∃ o51, ∃ o54, ∃ o57, (o45, o48, o51, o54, o57) = t58 ∧ ∃ ad46, ∃ cp47, ∃ ad49, ∃ cp50, ∃ ad52, ∃ cp53, ∃ ad55, ∃ cp56, St [] E [] w0 69 a w [(2, .pointer (some ⟨b7, 0, none⟩))] [eBox b7 73 [.slice ad46 o45.length cp47, .slice ad49 o48.length cp50, .slice ad52 o51.length cp53, .slice ad55 o54.length cp56, iv o57], eRow r_api_Loop 48 (.slice ad46 o45.length cp47) o45, eRow (rI .i64) 3 (.slice ad49 o48.length cp50) o48, eRow (rI .i64) 3 (.slice ad52 o51.length cp53) o51, eRow r_A2_Int 49 (.slice ad55 o54.length cp56) o54] []) ?_ (fun a w hI => ?_)
  rotate_left
  · obtain ⟨o45, o48, o51, o54, o57, rfl, ad46, cp47, ad49, cp50, ad52, cp53, ad55, cp56, S⟩ := hI
    have h := g59
    clear g59
    try dsimp only at h
    refine sSeq (fun K189 hK189 => ?_)
    refine sRegion ?_
    refine sLoadN (p := b7) (off := 0) (T := 73) (vs := [.slice ad46 o45.length cp47, .slice ad49 o48.length cp50, .slice ad52 o51.length cp53, .slice ad55 o54.length cp56, iv o57]) 0 [.slice ad46 o45.length cp47, .slice ad49 o48.length cp50, .slice ad52 o51.length cp53, .slice ad55 o54.length cp56, iv o57] S (wN rfl) rfl rfl rfl rfl rfl rfl rfl (lb rfl) fun a S => ?_
    refine sStore (p := b7) (off := 0) (T := 73) (vs := [.slice ad46 o45.length cp47, .slice ad49 o48.length cp50, .slice ad52 o51.length cp53, .slice ad55 o54.length cp56, iv o57]) (v := .agg #[.slice ad46 o45.length cp47, .slice ad49 o48.length cp50, .slice ad52 o51.length cp53, .slice ad55 o54.length cp56, iv o57]) 0 [.slice ad46 o45.length cp47, .slice ad49 o48.length cp50, .slice ad52 o51.length cp53, .slice ad55 o54.length cp56, iv o57] S (wN rfl) rfl rfl rfl rfl rfl rfl rfl (by simp) rfl fun a w S => ?_
    refine sMove (iv 0) S (wN rfl) (.inr rfl) rfl rfl (lb rfl) fun a S => ?_
    refine leafL (leafT (hK189 _ _ ?_))
    obtain rfl := Option.some.inj h
    have S := S.shutR (r := r_api_Loop) (T := 48) (v := .slice ad46 o45.length cp47) (xs := o45) 1 rfl
    have S := S.shutR (r := (rI .i64)) (T := 3) (v := .slice ad49 o48.length cp50) (xs := o48) 1 rfl
    have S := S.shutR (r := (rI .i64)) (T := 3) (v := .slice ad52 o51.length cp53) (xs := o51) 1 rfl
    have S := S.shutR (r := r_A2_Int) (T := 49) (v := .slice ad55 o54.length cp56) (xs := o54) 1 rfl
    have S := S.learn (fRep r_loops_piece (.agg #[.slice ad46 o45.length cp47, .slice ad49 o48.length cp50, .slice ad52 o51.length cp53, .slice ad55 o54.length cp56, iv o57]) (loops_piece.mk o45 o48 o51 o54 o57)) ⟨_, _, _, _, rfl, S.mem.know (i := 3) (e := fRep (rL r_api_Loop) (.slice ad46 o45.length cp47) o45) rfl, S.mem.know (i := 2) (e := fRep (rL (rI .i64)) (.slice ad49 o48.length cp50) o48) rfl, S.mem.know (i := 1) (e := fRep (rL (rI .i64)) (.slice ad52 o51.length cp53) o51) rfl, S.mem.know (i := 0) (e := fRep (rL r_A2_Int) (.slice ad55 o54.length cp56) o54) rfl⟩
    exact wp_ret (sRet (.tuple #[.agg #[.slice ad46 o45.length cp47, .slice ad49 o48.length cp50, .slice ad52 o51.length cp53, .slice ad55 o54.length cp56, iv o57], iv 0]) S (rsl2 rfl (rvN (c := 2) (t := 73) (T := 73) (p := b7) 0 [.slice ad46 o45.length cp47, .slice ad49 o48.length cp50, .slice ad52 o51.length cp53, .slice ad55 o54.length cp56, iv o57] S rfl rfl rfl rfl) (rvT (t := 3) (v := iv 0) S rfl)) ⟨(.agg #[.slice ad46 o45.length cp47, .slice ad49 o48.length cp50, .slice ad52 o51.length cp53, .slice ad55 o54.length cp56, iv o57]), rfl, S.mem.sel [] [0] (by decide) rfl rfl⟩)
  refine sSeq (fun K60 hK60 => ?_)
  refine sRegion ?_
  refine sField (b := b6) (off := 0) 1 1 S (wN rfl) rfl rfl rfl rfl rfl (lb rfl) fun a S => ?_
  refine sLoad1 (p := b6) (off := 1) (T := 24) (vs := [iv p0.Start, .slice ad3 p0.Rows.length cp4]) 2 (.slice ad3 p0.Rows.length cp4) S (wN rfl) rfl rfl rfl rfl rfl rfl (lb rfl) fun a S => ?_
  refine sLen (ad := ad3) (m := p0.Rows.length) (c := cp4) S (wN rfl) rfl Try.underlying22 rfl rfl (lb rfl) fun a S => ?_
  refine sMove (iv 0) S (wN rfl) (.inl rfl) rfl rfl (lb rfl) fun a S => ?_
  refine leafL (leafT (hK60 _ _ ?_))
  refine wp_block ?_
  have S := S.nilRow (rI .i64) 3 (α := Int)
  have S := S.nilRow r_A2_Int 49 (α := (Int × Int))
  obtain ⟨t77, hl, g76⟩ := bindSome h
  refine sLoop hl (fun s0 a w => match s0 with | (s61, s62, s65, s68, s71, s74) => ∃ ad63, ∃ cp64, ∃ ad66, ∃ cp67, ∃ ad69, ∃ cp70, ∃ ad72, ∃ cp73, St [] E [] w0 69 a w [(1, .pointer (some ⟨b6, 0, none⟩)), (2, .pointer (some ⟨b7, 0, none⟩)), (36, iv (p0.Rows.length : Int)), (37, iv s61)] [eBox b6 24 [iv p0.Start, .slice ad3 p0.Rows.length cp4], eBox b7 73 [.slice ad63 s62.length cp64, .slice ad66 s65.length cp67, .slice ad69 s68.length cp70, .slice ad72 s71.length cp73, iv s74], eRow r_api_Loop 48 (.slice ad63 s62.length cp64) s62, eRow (rI .i64) 3 (.slice ad66 s65.length cp67) s65, eRow (rI .i64) 3 (.slice ad69 s68.length cp70) s68, eRow r_A2_Int 49 (.slice ad72 s71.length cp73) s71] [fRep (rL r_api_Row) (.slice ad3 p0.Rows.length cp4) p0.Rows]) ⟨ad16, cp17, ad43, cp44, none, 0, none, 0, S.fix [4, 2, 5, 3, 1, 0] [0] (by decide) rfl rfl rfl⟩ ?_
  clear hl h
  intro s0 a w c0 hI h hu75
  obtain ⟨s61, s62, s65, s68, s71, s74⟩ := s0
  unfold loops_of_l3 at h
  dsimp only at h hI
  obtain ⟨ad63, cp64, ad66, cp67, ad69, cp70, ad72, cp73, S⟩ := hI
  refine sSeq (fun K91 hK91 => ?_)
  refine sRegion ?_
  refine sBin (.bool (decide (s61 < (p0.Rows.length : Int)))) S (wN rfl) rfl rfl rfl (bLt _ _ _ _ .i64 s61 (p0.Rows.length : Int)) rfl (lb rfl) fun a S => ?_
  refine leafL (leafT (hK91 _ _ ?_))
  refine sSeq (fun K92 hK92 => ?_)
  rcases iteSome h with ⟨hc93, h⟩ | ⟨hc93, h⟩
  rotate_left
  · refine sCondF S rfl hc93 ?_
    obtain rfl := Option.some.inj h
    obtain rfl := hu75 _ rfl
    have h := g76
    clear g76
    try dsimp only at h
    exact wp_exit (xThen (xThen (xHit (leafT (⟨s62, s65, s68, s71, s74, Option.some.inj h, ad63, cp64, ad66, cp67, ad69, cp70, ad72, cp73, S.fix [1, 2, 3, 4, 5] [] (by decide) rfl rfl rfl⟩)))))
  refine sCondT S rfl hc93 ?_
  refine wp_skip (leafT (hK92 _ _ ?_))
  obtain ⟨t107, h, g108⟩ := bindSome h
  refine sCut (fun a w => ∃ o94, ∃ o97, ∃ o100, ∃ o103, ∃ o106, (o94, o97, o100, o103, o106) = t107 ∧ ∃ ad95, ∃ cp96, ∃ ad98, ∃ cp99, ∃ ad101, ∃ cp102, ∃ ad104, ∃ cp105, St [] E [] w0 69 a w [(1, .pointer (some ⟨b6, 0, none⟩)), (2, .pointer (some ⟨b7, 0, none⟩)), (36, iv (p0.Rows.length : Int)), (37, iv s61)] [eBox b6 24 [iv p0.Start, .slice ad3 p0.Rows.length cp4], eBox b7 73 [.slice ad95 o94.length cp96, .slice ad98 o97.length cp99, .slice ad101 o100.length cp102, .slice ad104 o103.length cp105, iv o106], eRow r_api_Loop 48 (.slice ad95 o94.length cp96) o94, eRow (rI .i64) 3 (.slice ad98 o97.length cp99) o97, eRow (rI .i64) 3 (.slice ad101 o100.length cp102) o100, eRow r_A2_Int 49 (.slice ad104 o103.length cp105) o103] [fRep (rL r_api_Row) (.slice ad3 p0.Rows.length cp4) p0.Rows]) ?_ (fun a w hI => ?_)
  rotate_left
  · obtain ⟨o94, o97, o100, o103, o106, rfl, ad95, cp96, ad98, cp99, ad101, cp102, ad104, cp105, S⟩ := hI
    have h := g108
    clear g108
    try dsimp only at h
    refine sRegion ?_
    refine sBin (iv (w64 (s61 + 1))) S (wN rfl) rfl rfl rfl (bAdd _ _ _ _ s61 1) rfl (lb rfl) fun a S => ?_
    refine sMove (iv (w64 (s61 + 1))) S (wN rfl) (.inl rfl) rfl rfl (lb rfl) fun a S => ?_
    exact leafL (leafT (⟨(w64 (s61 + 1), o94, o97, o100, o103, o106), (Option.some.inj h).symm, ⟨ad95, cp96, ad98, cp99, ad101, cp102, ad104, cp105, S.fix [0, 1, 2, 3, 4, 5] [0] (by decide) rfl rfl rfl⟩⟩))
  refine wp_block ?_
  refine sSeq (fun K109 hK109 => ?_)
  refine sRegion ?_
  refine sMove (iv s61) S (wN rfl) (.inl rfl) rfl rfl (lb rfl) fun a S => ?_
  refine sMove (iv s61) S (wN rfl) (.inr rfl) rfl rfl (lb rfl) fun a S => ?_
  refine leafL (leafT (hK109 _ _ ?_))
  refine sSeq (fun K110 hK110 => ?_)
  refine sRegion ?_
  refine sLoadN (p := b6) (off := 0) (T := 24) (vs := [iv p0.Start, .slice ad3 p0.Rows.length cp4]) 0 [iv p0.Start, .slice ad3 p0.Rows.length cp4] S (wN rfl) rfl rfl rfl rfl rfl rfl rfl (lb rfl) fun a S => ?_
  refine sMove (iv s61) S (wN rfl) (.inl rfl) rfl rfl (lb rfl) fun a S => ?_
  obtain ⟨r111, hx112, h⟩ := bindSome h
  have S := S.learn (fRep r_api_Chart (.agg #[iv p0.Start, .slice ad3 p0.Rows.length cp4]) p0) ⟨_, rfl, S.mem.know (i := 0) (e := fRep (rL r_api_Row) (.slice ad3 p0.Rows.length cp4) p0.Rows) rfl⟩
  refine sCall (X := Value) (f := 43) (vs := [.agg #[iv p0.Start, .slice ad3 p0.Rows.length cp4], iv s61]) (val := c_chart_Face_val r111) (B' := fun _ => []) (D' := c_chart_Face_D r111) [] [eBox b6 24 [iv p0.Start, .slice ad3 p0.Rows.length cp4], eBox b7 73 [.slice ad63 s62.length cp64, .slice ad66 s65.length cp67, .slice ad69 s68.length cp70, .slice ad72 s71.length cp73, iv s74], eRow r_api_Loop 48 (.slice ad63 s62.length cp64) s62, eRow (rI .i64) 3 (.slice ad66 s65.length cp67) s65, eRow (rI .i64) 3 (.slice ad69 s68.length cp70) s68, eRow r_A2_Int 49 (.slice ad72 s71.length cp73) s71] [fRep r_api_Chart (.agg #[iv p0.Start, .slice ad3 p0.Rows.length cp4]) p0] [0, 1, 2, 3, 4, 5] [0] S (wN rfl) rfl callee43 rfl (by decide) rfl rfl (fun E1 w1 S1 => c_chart_Face E1 w1 p0 (.agg #[iv p0.Start, .slice ad3 p0.Rows.length cp4]) s61 r111 hx112 S1) rfl (lb rfl) fun u113 a w S => ?_
  obtain ⟨ad114, cp115, _, rfl, _⟩ := S.mem.know (i := 0) (e := fRep (rL r_api_Stitch) (u113) r111.1) rfl
  refine sMove (.tuple #[.slice ad114 r111.1.length cp115, iv r111.2]) S (wN rfl) (.inl rfl) rfl rfl (lb rfl) fun a S => ?_
  refine sExtract (vs := [.slice ad114 r111.1.length cp115, iv r111.2]) (.slice ad114 r111.1.length cp115) S (wN rfl) rfl rfl rfl rfl (lb rfl) fun a S => ?_
  refine sExtract (vs := [.slice ad114 r111.1.length cp115, iv r111.2]) (iv r111.2) S (wN rfl) rfl rfl rfl rfl (lb rfl) fun a S => ?_
  refine sMove (.slice ad114 r111.1.length cp115) S (wN rfl) (.inr rfl) rfl rfl (lb rfl) fun a S => ?_
  refine sMove (iv r111.2) S (wN rfl) (.inr rfl) rfl rfl (lb rfl) fun a S => ?_
  refine leafL (leafT (hK110 _ _ ?_))
  obtain ⟨t129, h, g130⟩ := bindSome h
  refine sCut (fun a w => ∃ o116, ∃ o119, ∃ o122, ∃ o125, ∃ o128, (o116, o119, o122, o125, o128) = t129 ∧ ∃ ad117, ∃ cp118, ∃ ad120, ∃ cp121, ∃ ad123, ∃ cp124, ∃ ad126, ∃ cp127, St [] E [] w0 69 a w [(1, .pointer (some ⟨b6, 0, none⟩)), (2, .pointer (some ⟨b7, 0, none⟩)), (36, iv (p0.Rows.length : Int)), (37, iv s61)] [eBox b6 24 [iv p0.Start, .slice ad3 p0.Rows.length cp4], eBox b7 73 [.slice ad117 o116.length cp118, .slice ad120 o119.length cp121, .slice ad123 o122.length cp124, .slice ad126 o125.length cp127, iv o128], eRow r_api_Loop 48 (.slice ad117 o116.length cp118) o116, eRow (rI .i64) 3 (.slice ad120 o119.length cp121) o119, eRow (rI .i64) 3 (.slice ad123 o122.length cp124) o122, eRow r_A2_Int 49 (.slice ad126 o125.length cp127) o125] [fRep (rL r_api_Row) (.slice ad3 p0.Rows.length cp4) p0.Rows]) ?_ (fun a w hI => ?_)
  rotate_left
  · obtain ⟨o116, o119, o122, o125, o128, rfl, ad117, cp118, ad120, cp121, ad123, cp124, ad126, cp127, S⟩ := hI
    have h := g130
    clear g130
    try dsimp only at h
    refine sRegion ?_
    refine sField (b := b7) (off := 0) 1 1 S (wN rfl) rfl rfl rfl rfl rfl (lb rfl) fun a S => ?_
    refine sLoad1 (p := b7) (off := 1) (T := 73) (vs := [.slice ad117 o116.length cp118, .slice ad120 o119.length cp121, .slice ad123 o122.length cp124, .slice ad126 o125.length cp127, iv o128]) 1 (.slice ad120 o119.length cp121) S (wN rfl) rfl rfl rfl rfl rfl rfl (lb rfl) fun a S => ?_
    refine sField (b := b7) (off := 0) 0 0 S (wN rfl) rfl rfl rfl rfl rfl (lb rfl) fun a S => ?_
    refine sLoad1 (p := b7) (off := 0) (T := 73) (vs := [.slice ad117 o116.length cp118, .slice ad120 o119.length cp121, .slice ad123 o122.length cp124, .slice ad126 o125.length cp127, iv o128]) 1 (.slice ad117 o116.length cp118) S (wN rfl) rfl rfl rfl rfl rfl rfl (lb rfl) fun a S => ?_
    refine sLen (ad := ad117) (m := o116.length) (c := cp118) S (wN rfl) rfl Try.underlying26 rfl rfl (lb rfl) fun a S => ?_
    refine sLit (r := (rI .i64)) (T := 3) (xs := ([(o116.length : Int)] : List Int)) [(0, iv (o116.length : Int))] 1 [iv (o116.length : Int)] [iv (o116.length : Int)] (iv 0) 8 S (wN rfl) rfl rfl Try.underlying32 rfl (by decide) (by decide) (by kernel_rfl) rfl (fun E1 w1 hE => All.cons rfl (All.nil _ _ _)) rfl rfl (lb rfl) fun a w ad183 cp184 S => ?_
    obtain ⟨l185, hx186, h⟩ := bindSome h
    refine sApp (r := (rI .i64)) (T := 3) (xs := o119) (ys := ([(o116.length : Int)] : List Int)) (v := .slice ad120 o119.length cp121) (u := .slice ad183 ([(o116.length : Int)] : List Int).length cp184) 4 (iv 0) 8 S (wN rfl) rfl Try.underlying32 rfl rfl (by decide) rfl rfl rfl (src_R (T := 3) 0 S.mem rfl) hx186 rfl (lb rfl) fun a w ad187 cp188 S => ?_
    refine sField (b := b7) (off := 0) 1 1 S (wN rfl) rfl rfl rfl rfl rfl (lb rfl) fun a S => ?_
    refine sStore (p := b7) (off := 1) (T := 73) (vs := [.slice ad117 o116.length cp118, .slice ad120 o119.length cp121, .slice ad123 o122.length cp124, .slice ad126 o125.length cp127, iv o128]) (v := .slice ad187 l185.length cp188) 3 [.slice ad187 l185.length cp188] S (wN rfl) rfl rfl rfl rfl rfl rfl rfl (by simp) rfl fun a w S => ?_
    exact leafL (leafB (leafT (⟨o116, l185, o122, o125, o128, Option.some.inj h, ad117, cp118, ad187, cp188, ad123, cp124, ad126, cp127, S.fix [3, 0, 4, 1, 5, 6] [0] (by decide) rfl rfl rfl⟩)))
  refine sSeq (fun K131 hK131 => ?_)
  refine sRegion ?_
  refine sMove (.slice ad114 r111.1.length cp115) S (wN rfl) (.inl rfl) rfl rfl (lb rfl) fun a S => ?_
  refine sLen (ad := ad114) (m := r111.1.length) (c := cp115) S (wN rfl) rfl Try.underlying62 rfl rfl (lb rfl) fun a S => ?_
  refine sMove (iv 0) S (wN rfl) (.inl rfl) rfl rfl (lb rfl) fun a S => ?_
  refine leafL (leafT (hK131 _ _ ?_))
  refine wp_block ?_
  obtain ⟨t148, hl, g147⟩ := bindSome h
  refine sLoop hl (fun s0 a w => match s0 with | (s132, s133, s136, s139, s142, s145) => ∃ ad134, ∃ cp135, ∃ ad137, ∃ cp138, ∃ ad140, ∃ cp141, ∃ ad143, ∃ cp144, St [] E [] w0 69 a w [(1, .pointer (some ⟨b6, 0, none⟩)), (2, .pointer (some ⟨b7, 0, none⟩)), (6, iv s61), (36, iv (p0.Rows.length : Int)), (37, iv s61), (46, .slice ad114 r111.1.length cp115), (47, iv (r111.1.length : Int)), (48, iv s132)] [eBox b6 24 [iv p0.Start, .slice ad3 p0.Rows.length cp4], eBox b7 73 [.slice ad134 s133.length cp135, .slice ad137 s136.length cp138, .slice ad140 s139.length cp141, .slice ad143 s142.length cp144, iv s145], eRow r_api_Loop 48 (.slice ad134 s133.length cp135) s133, eRow (rI .i64) 3 (.slice ad137 s136.length cp138) s136, eRow (rI .i64) 3 (.slice ad140 s139.length cp141) s139, eRow r_A2_Int 49 (.slice ad143 s142.length cp144) s142] [fRep (rL r_api_Stitch) (.slice ad114 r111.1.length cp115) r111.1, fRep (rL r_api_Row) (.slice ad3 p0.Rows.length cp4) p0.Rows]) ⟨ad63, cp64, ad66, cp67, ad69, cp70, ad72, cp73, S.fix [0, 1, 2, 3, 4, 5] [0, 2] (by decide) rfl rfl rfl⟩ ?_
  clear hl h
  intro s0 a w c0 hI h hu146
  obtain ⟨s132, s133, s136, s139, s142, s145⟩ := s0
  unfold loops_of_l2 at h
  dsimp only at h hI
  obtain ⟨ad134, cp135, ad137, cp138, ad140, cp141, ad143, cp144, S⟩ := hI
  refine sSeq (fun K162 hK162 => ?_)
  refine sRegion ?_
  refine sBin (.bool (decide (s132 < (r111.1.length : Int)))) S (wN rfl) rfl rfl rfl (bLt _ _ _ _ .i64 s132 (r111.1.length : Int)) rfl (lb rfl) fun a S => ?_
  refine leafL (leafT (hK162 _ _ ?_))
  refine sSeq (fun K163 hK163 => ?_)
  rcases iteSome h with ⟨hc164, h⟩ | ⟨hc164, h⟩
  rotate_left
  · refine sCondF S rfl hc164 ?_
    obtain rfl := Option.some.inj h
    obtain rfl := hu146 _ rfl
    have h := g147
    clear g147
    try dsimp only at h
    exact wp_exit (xThen (xThen (xHit (leafT (⟨s133, s136, s139, s142, s145, Option.some.inj h, ad134, cp135, ad137, cp138, ad140, cp141, ad143, cp144, S.fix [0, 1, 2, 3, 4, 5] [1] (by decide) rfl rfl rfl⟩)))))
  refine sCondT S rfl hc164 ?_
  refine wp_skip (leafT (hK163 _ _ ?_))
  refine sSeq (fun K165 hK165 => ?_)
  refine wp_block ?_
  refine sSeq (fun K166 hK166 => ?_)
  refine sRegion ?_
  refine sMove (iv s132) S (wN rfl) (.inl rfl) rfl rfl (lb rfl) fun a S => ?_
  obtain ⟨x167, hx168, h⟩ := bindSome h
  obtain ⟨q169, hq170, S⟩ := pIdx (P := Try.prog) (r := r_api_Stitch) (v := .slice ad114 r111.1.length cp115) (xs := r111.1) (j := s132) 62 61 0 S Try.underlying62 rfl rfl hx168
  refine sIdxV (v := .slice ad114 r111.1.length cp115) (k := .i64) (j := s132) S (wN rfl) rfl rfl rfl hq170 rfl (lb rfl) fun a S => ?_
  obtain ⟨u171, S⟩ := pLoad (r := r_api_Stitch) (q := q169) (x := x167) 0 S rfl
  obtain rfl : u171 = .agg #[.int .u8 x167.Kind, .bool x167.Purl, iv x167.A, iv x167.B] := S.mem.know (i := 1) (e := fRep r_api_Stitch (u171) x167) rfl
  refine sLoadVN (vq := q169) 0 [.int .u8 x167.Kind, .bool x167.Purl, iv x167.A, iv x167.B] S (wN rfl) rfl rfl rfl rfl rfl rfl (lb rfl) fun a S => ?_
  refine sAlloc (.agg #[.int .u8 0, .bool false, iv 0, iv 0]) S (wN rfl) rfl rfl [.int .u8 0, .bool false, iv 0, iv 0] rfl rfl (lb rfl) fun a b172 w S => ?_
  refine sMove (iv s132) S (wN rfl) (.inr rfl) rfl rfl (lb rfl) fun a S => ?_
  refine sStore (p := b172) (off := 0) (T := 61) (vs := [.int .u8 0, .bool false, iv 0, iv 0]) (v := .agg #[.int .u8 x167.Kind, .bool x167.Purl, iv x167.A, iv x167.B]) 0 [.int .u8 x167.Kind, .bool x167.Purl, iv x167.A, iv x167.B] S (wN rfl) rfl rfl rfl rfl rfl rfl rfl (by simp) rfl fun a w S => ?_
  refine leafL (leafT (hK166 _ _ ?_))
  refine sRegion ?_
  refine sMove (iv s61) S (wN rfl) (.inl rfl) rfl rfl (lb rfl) fun a S => ?_
  refine sBin (iv (w64 (s61 + 1))) S (wN rfl) rfl rfl rfl (bAdd _ _ _ _ s61 1) rfl (lb rfl) fun a S => ?_
  refine sMove (iv s132) S (wN rfl) (.inl rfl) rfl rfl (lb rfl) fun a S => ?_
  refine sLoadN (p := b172) (off := 0) (T := 61) (vs := [.int .u8 x167.Kind, .bool x167.Purl, iv x167.A, iv x167.B]) 0 [.int .u8 x167.Kind, .bool x167.Purl, iv x167.A, iv x167.B] S (wN rfl) rfl rfl rfl rfl rfl rfl rfl (lb rfl) fun a S => ?_
  obtain ⟨r173, hx174, h⟩ := bindSome h
  refine sCall (X := Option Addr × Nat × Option Addr × Nat × Option Addr × Nat × Option Addr × Nat) (f := 44) (vs := [.pointer (some ⟨b7, 0, none⟩), iv (w64 (s61 + 1)), iv s132, .agg #[.int .u8 x167.Kind, .bool x167.Purl, iv x167.A, iv x167.B]]) (val := fun _ => .tuple #[]) (B' := fun x => [eBox b7 73 [.slice x.1 r173.loops.length x.2.1, .slice x.2.2.1 r173.rows.length x.2.2.2.1, .slice x.2.2.2.2.1 r173.bound.length x.2.2.2.2.2.1, .slice x.2.2.2.2.2.2.1 r173.cross.length x.2.2.2.2.2.2.2, iv r173.next], eRow r_api_Loop 48 (.slice x.1 r173.loops.length x.2.1) r173.loops, eRow (rI .i64) 3 (.slice x.2.2.1 r173.rows.length x.2.2.2.1) r173.rows, eRow (rI .i64) 3 (.slice x.2.2.2.2.1 r173.bound.length x.2.2.2.2.2.1) r173.bound, eRow r_A2_Int 49 (.slice x.2.2.2.2.2.2.1 r173.cross.length x.2.2.2.2.2.2.2) r173.cross]) (D' := fun _ => []) [eBox b7 73 [.slice ad134 s133.length cp135, .slice ad137 s136.length cp138, .slice ad140 s139.length cp141, .slice ad143 s142.length cp144, iv s145], eRow r_api_Loop 48 (.slice ad134 s133.length cp135) s133, eRow (rI .i64) 3 (.slice ad137 s136.length cp138) s136, eRow (rI .i64) 3 (.slice ad140 s139.length cp141) s139, eRow r_A2_Int 49 (.slice ad143 s142.length cp144) s142] [eBox b172 61 [.int .u8 x167.Kind, .bool x167.Purl, iv x167.A, iv x167.B], eBox b6 24 [iv p0.Start, .slice ad3 p0.Rows.length cp4]] [fRep r_api_Stitch (.agg #[.int .u8 x167.Kind, .bool x167.Purl, iv x167.A, iv x167.B]) x167] [2, 3, 4, 5, 6, 0, 1] [1] S (wN rfl) rfl callee44 rfl (by decide) rfl rfl (fun E1 w1 S1 => c_loops_piece_work_s1 E1 w1 (loops_piece.mk s133 s136 s139 s142 s145) b7 ad134 cp135 ad137 cp138 ad140 cp141 ad143 cp144 (w64 (s61 + 1)) s132 x167 (.agg #[.int .u8 x167.Kind, .bool x167.Purl, iv x167.A, iv x167.B]) r173 hx174 S1) rfl (lb rfl) fun xx a w S => ?_
  obtain ⟨ad175, cp176, ad177, cp178, ad179, cp180, ad181, cp182⟩ := xx
  dsimp only at S
  refine leafL (leafB (leafT (hK165 _ _ ?_)))
  refine sRegion ?_
  refine sBin (iv (w64 (s132 + 1))) S (wN rfl) rfl rfl rfl (bAdd _ _ _ _ s132 1) rfl (lb rfl) fun a S => ?_
  refine sMove (iv (w64 (s132 + 1))) S (wN rfl) (.inl rfl) rfl rfl (lb rfl) fun a S => ?_
  exact leafL (leafT (⟨(w64 (s132 + 1), r173.loops, r173.rows, r173.bound, r173.cross, r173.next), (Option.some.inj h).symm, ⟨ad175, cp176, ad177, cp178, ad179, cp180, ad181, cp182, S.fix [6, 0, 1, 2, 3, 4] [3, 4] (by decide) rfl rfl rfl⟩⟩))

end Go.Proofs.Yticjoiolfibmlaa
