/- Several texts in one: G47s1 G34 G12 G14 G16 G11 G13 G15 PlLw -/
import Derived.WalkKit
import Derived.Maps.AppendAt
import Derived.Deep.AppendLies
import Derived.KernelRfl
import Derived.Laws.OwnMore
import Derived.Great.BuildSlice
import Derived.Orders
import Derived.Laws.StructEq
import Derived.ChangeKeysEq
import Derived.Defers
import Derived.Laws.BytesString
import Derived.RangeFuncNested
import Derived.RangeFuncBound
import Derived.RangeFuncCalls
import Derived.RangeFuncLeaves
import Derived.OrdersIn
import Derived.LoopNIn
import Derived.ArgAppend
import Derived.Lib.AppendZeros
import Derived.Test.YticjoiolfibmlaaProg
import Derived.ProofKit
import Derived.OpenShut
import Derived.ChangeOld
import Derived.Deep.Slices
import Derived.Lib.SmallJoins
import Derived.JoinedOf
import Derived.JoinedAt
import Derived.Below
import Derived.Test.YticjoiolfibmlaaRows
import Derived.Test.YticjoiolfibmlaaMLoopsMake4
namespace Go.Proofs.Yticjoiolfibmlaa
open Go.RowKit
set_option linter.unusedVariables false

def anc_raddleref27_Piece_cell_s1_0 : List (List Nat) := [[], [], [], [], [3], [3, 4], [3, 4, 5], [], [7], [0, 1, 2, 3, 4, 5, 6, 7, 8]]
def anc_raddleref27_Piece_cell_s1_1 : List (List Nat) := [[], [], [], [], [], [4], [], [4, 5, 6], [], [8], [], [10], [8, 9, 10, 11], [4, 5, 6, 7, 8, 9, 10, 11, 12], [3, 4, 5, 6, 7, 8, 9, 10, 11, 12, 13], [3, 4, 5, 6, 7, 8, 9, 10, 11, 12, 13, 14], [3, 4, 5, 6, 7, 8, 9, 10, 11, 12, 13, 14, 15], [], [17], [0, 1, 2, 3, 4, 5, 6, 7, 8, 9, 10, 11, 12, 13, 14, 15, 16, 17, 18]]
def anc_raddleref27_Piece_cell_s1_2 : List (List Nat) := [[], [], [], [], [3], [3, 4], [3, 4, 5], [], [7], [7, 8], [7, 8, 9], [], [11], [11, 12], [7, 8, 9, 10, 11, 12, 13], [7, 8, 9, 10, 11, 12, 13, 14], [7, 8, 9, 10, 11, 12, 13, 14, 15], [0, 1, 2, 3, 4, 5, 6, 7, 8, 9, 10, 11, 12, 13, 14, 15, 16]]
noncomputable def raddleref27_Piece_cell_s1_l1 (p3 : api_Stitch) (p1 : Int) (p2 : Int) : (Int × List api_Loop × List Int × List (Int × Int) × List Int) → Option ((Int × List api_Loop × List Int × List (Int × Int) × List Int) ⊕ (List api_Loop × List Int × List (Int × Int) × List Int)) := fun s0 => match s0 with
  | (s54, s55, s58, s61, s64) =>
    if decide (s54 < p3.A) then
      Option.bind (F_raddleref27_Piece_put_s1 (raddleref27_Piece.mk s55 s58 s61 s64) p1 p2 ([] : (List Int)) false) fun r86 =>
      some (.inl (w64 (s54 + 1), r86.Loops, r86.Bound, r86.Cross, r86.Rows))
    else
      some (.inr (s55, s58, s61, s64))
noncomputable def raddleref27_Piece_cell_s1_l2 (p4 : (List Int)) (p3 : api_Stitch) : (List Int × Int) → Option ((List Int × Int) ⊕ List Int) := fun s0 => match s0 with
  | (s117, s120) =>
    if decide (s120 < (p4.length : Int)) then
      Option.bind (α := List Int) (
        if p3.Kind == 3 then
          Option.bind (idxO p4 s120) fun x137 =>
          Option.bind (appO s117 ([x137] : List Int)) fun l144 =>
          some l144
        else
          Option.bind (idxO p4 (w64 ((w64 ((p4.length : Int) - 1)) - s120))) fun x148 =>
          Option.bind (appO s117 ([x148] : List Int)) fun l155 =>
          some l155) fun o130 =>
      some (.inl (o130, w64 (s120 + 1)))
    else
      some (.inr s117)
noncomputable def raddleref27_Piece_cell_s1_l3 (p3 : api_Stitch) (p4 : (List Int)) (p1 : Int) (p2 : Int) : (Int × List api_Loop × List Int × List (Int × Int) × List Int) → Option ((Int × List api_Loop × List Int × List (Int × Int) × List Int) ⊕ (List api_Loop × List Int × List (Int × Int) × List Int)) := fun s0 => match s0 with
  | (s172, s173, s176, s179, s182) =>
    if decide (s172 < p3.A) then
      Option.bind (idxO p4 0) fun x204 =>
      Option.bind (F_raddleref27_Piece_put_s1 (raddleref27_Piece.mk s173 s176 s179 s182) p1 p2 ([x204] : List Int) p3.Purl) fun r211 =>
      some (.inl (w64 (s172 + 1), r211.Loops, r211.Bound, r211.Cross, r211.Rows))
    else
      some (.inr (s173, s176, s179, s182))
noncomputable def raddleref27_Piece_cell_s1_l4 (p3 : api_Stitch) (p4 : (List Int)) (p1 : Int) (p2 : Int) : (Int × List api_Loop × List Int × List (Int × Int) × List Int) → Option ((Int × List api_Loop × List Int × List (Int × Int) × List Int) ⊕ (List api_Loop × List Int × List (Int × Int) × List Int)) := fun s0 => match s0 with
  | (s255, s256, s259, s262, s265) =>
    if decide (s255 < (w64 (p3.A + p3.B))) then
      Option.bind (remI (w64 (p3.A + s255)) (w64 (p3.A + p3.B))) fun z287 =>
      Option.bind (idxO p4 z287) fun x289 =>
      Option.bind (F_raddleref27_Piece_put_s1 (raddleref27_Piece.mk s256 s259 s262 s265) p1 p2 ([x289] : List Int) p3.Purl) fun r296 =>
      some (.inl (w64 (s255 + 1), r296.Loops, r296.Bound, r296.Cross, r296.Rows))
    else
      some (.inr (s256, s259, s262, s265))
noncomputable def raddleref27_Piece_cell_s1_l5 (p3 : api_Stitch) (p0 : raddleref27_Piece) (s320 : Int) : (Int × List (Int × Int)) → Option ((Int × List (Int × Int)) ⊕ List (Int × Int)) := fun s0 => match s0 with
  | (s339, s340) =>
    if decide (s339 < p3.B) then
      Option.bind (α := (Int × Int)) (
        if p3.Kind == 7 then
          some (w64 ((p0.Loops.length : Int) + s339), w64 ((w64 ((p0.Loops.length : Int) + p3.B)) + s320))
        else
          some (w64 ((w64 ((p0.Loops.length : Int) + p3.B)) + s320), w64 ((p0.Loops.length : Int) + s339))) fun (o354, o355) =>
      Option.bind (appO s340 [(o354, o355)]) fun l362 =>
      some (.inl (w64 (s339 + 1), l362))
    else
      some (.inr s340)
noncomputable def raddleref27_Piece_cell_s1_l6 (p3 : api_Stitch) (p0 : raddleref27_Piece) : (Int × List (Int × Int)) → Option ((Int × List (Int × Int)) ⊕ List (Int × Int)) := fun s0 => match s0 with
  | (s320, s321) =>
    if decide (s320 < p3.A) then
      Option.bind (α := List (Int × Int)) (
        Option.bind (whileO (raddleref27_Piece_cell_s1_l5 p3 p0 s320) (0, s321)) fun e346 =>
          some e346) fun o333 =>
      some (.inl (w64 (s320 + 1), o333))
    else
      some (.inr s321)
noncomputable def F_raddleref27_Piece_cell_s1 (p0 : raddleref27_Piece) (p1 : Int) (p2 : Int) (p3 : api_Stitch) (p4 : (List Int)) : Option raddleref27_Piece :=
  if p3.Kind == 1 then
    Option.bind (idxO p4 0) fun x9 =>
    Option.bind (F_raddleref27_Piece_put_s1 p0 p1 p2 ([x9] : List Int) p3.Purl) fun r16 =>
    some r16
  else
    if p3.Kind == 2 then
      Option.bind (F_raddleref27_Piece_put_s1 p0 p1 p2 ([] : (List Int)) false) fun r41 =>
      some r41
    else
      if p3.Kind == 9 then
        Option.bind (whileO (raddleref27_Piece_cell_s1_l1 p3 p1 p2) (0, p0.Loops, p0.Bound, p0.Cross, p0.Rows)) fun (e70, e73, e76, e79) =>
          some (raddleref27_Piece.mk e70 e73 e76 e79)
      else
        Option.bind (α := Bool) (
          if p3.Kind == 3 then
            some (p3.Kind == 3)
          else
            some (p3.Kind == 4)) fun o96 =>
        if o96 then
          Option.bind (α := List Int) (
            Option.bind (whileO (raddleref27_Piece_cell_s1_l2 p4 p3) (([] : List Int), 0)) fun e124 =>
              some e124) fun o111 =>
          Option.bind (F_raddleref27_Piece_put_s1 p0 p1 p2 o111 p3.Purl) fun r159 =>
          some r159
        else
          if p3.Kind == 5 then
            Option.bind (whileO (raddleref27_Piece_cell_s1_l3 p3 p4 p1 p2) (0, p0.Loops, p0.Bound, p0.Cross, p0.Rows)) fun (e188, e191, e194, e197) =>
              some (raddleref27_Piece.mk e188 e191 e194 e197)
          else
            Option.bind (α := Bool) (
              if p3.Kind == 6 then
                some (p3.Kind == 6)
              else
                some (p3.Kind == 7)) fun o234 =>
            if o234 then
              Option.bind (α := (List api_Loop × List Int × List (Int × Int) × List Int)) (
                Option.bind (whileO (raddleref27_Piece_cell_s1_l4 p3 p4 p1 p2) (0, p0.Loops, p0.Bound, p0.Cross, p0.Rows)) fun (e271, e274, e277, e280) =>
                  some (e271, e274, e277, e280)) fun (o240, o243, o246, o249) =>
              Option.bind (whileO (raddleref27_Piece_cell_s1_l6 p3 p0) (0, o246)) fun e327 =>
                some (raddleref27_Piece.mk o240 o243 e327 o249)
            else
              if p3.Kind == 8 then
                Option.bind (idxO p4 0) fun x368 =>
                Option.bind (idxO p0.Loops x368) fun x378 =>
                Option.bind (F_raddleref27_Piece_put_s1 p0 p1 p2 ([x368] : List Int) x378.Purl) fun r386 =>
                some r386
              else
                if p3.Kind == 10 then
                  Option.bind (appO p0.Bound p4) fun l420 =>
                  some (raddleref27_Piece.mk p0.Loops l420 p0.Cross p0.Rows)
                else
                  some p0
set_option maxHeartbeats 4000000 in
set_option maxRecDepth 100000 in
theorem c_raddleref27_Piece_cell_s1 (E : Nat → Prop) (w0 : World) (p0 : raddleref27_Piece) (bb0 : Nat) (ad_0_0 : Option Addr) (cp_0_0 : Nat) (ad_0_1 : Option Addr) (cp_0_1 : Nat) (ad_0_2 : Option Addr) (cp_0_2 : Nat) (ad_0_3 : Option Addr) (cp_0_3 : Nat) (p1 : Int) (p2 : Int) (p3 : api_Stitch) (v3 : Value) (p4 : (List Int)) (v4 : Value) (r : raddleref27_Piece) (h : F_raddleref27_Piece_cell_s1 p0 p1 p2 p3 p4 = some r) (S : St0 E (keysL [eBox bb0 77 [.slice ad_0_0 p0.Loops.length cp_0_0, .slice ad_0_1 p0.Bound.length cp_0_1, .slice ad_0_2 p0.Cross.length cp_0_2, .slice ad_0_3 p0.Rows.length cp_0_3], eRow r_api_Loop 48 (.slice ad_0_0 p0.Loops.length cp_0_0) p0.Loops, eRow (rI .i64) 3 (.slice ad_0_1 p0.Bound.length cp_0_1) p0.Bound, eRow r_A2_Int 49 (.slice ad_0_2 p0.Cross.length cp_0_2) p0.Cross, eRow (rI .i64) 3 (.slice ad_0_3 p0.Rows.length cp_0_3) p0.Rows]) w0 w0 [eBox bb0 77 [.slice ad_0_0 p0.Loops.length cp_0_0, .slice ad_0_1 p0.Bound.length cp_0_1, .slice ad_0_2 p0.Cross.length cp_0_2, .slice ad_0_3 p0.Rows.length cp_0_3], eRow r_api_Loop 48 (.slice ad_0_0 p0.Loops.length cp_0_0) p0.Loops, eRow (rI .i64) 3 (.slice ad_0_1 p0.Bound.length cp_0_1) p0.Bound, eRow r_A2_Int 49 (.slice ad_0_2 p0.Cross.length cp_0_2) p0.Cross, eRow (rI .i64) 3 (.slice ad_0_3 p0.Rows.length cp_0_3) p0.Rows] [fRep r_api_Stitch (v3) p3, fRep (rL (rI .i64)) (v4) p4]) :
    Calls Try.prog 47 #[.pointer (some ⟨bb0, 0, none⟩), iv p1, iv p2, v3, v4] w0 (Ret (X := Option Addr × Nat × Option Addr × Nat × Option Addr × Nat × Option Addr × Nat) E (keysL [eBox bb0 77 [.slice ad_0_0 p0.Loops.length cp_0_0, .slice ad_0_1 p0.Bound.length cp_0_1, .slice ad_0_2 p0.Cross.length cp_0_2, .slice ad_0_3 p0.Rows.length cp_0_3], eRow r_api_Loop 48 (.slice ad_0_0 p0.Loops.length cp_0_0) p0.Loops, eRow (rI .i64) 3 (.slice ad_0_1 p0.Bound.length cp_0_1) p0.Bound, eRow r_A2_Int 49 (.slice ad_0_2 p0.Cross.length cp_0_2) p0.Cross, eRow (rI .i64) 3 (.slice ad_0_3 p0.Rows.length cp_0_3) p0.Rows]) w0 (fun _ => .tuple #[]) (fun x => [eBox bb0 77 [.slice x.1 r.Loops.length x.2.1, .slice x.2.2.1 r.Bound.length x.2.2.2.1, .slice x.2.2.2.2.1 r.Cross.length x.2.2.2.2.2.1, .slice x.2.2.2.2.2.2.1 r.Rows.length x.2.2.2.2.2.2.2], eRow r_api_Loop 48 (.slice x.1 r.Loops.length x.2.1) r.Loops, eRow (rI .i64) 3 (.slice x.2.2.1 r.Bound.length x.2.2.2.1) r.Bound, eRow r_A2_Int 49 (.slice x.2.2.2.2.1 r.Cross.length x.2.2.2.2.2.1) r.Cross, eRow (rI .i64) 3 (.slice x.2.2.2.2.2.2.1 r.Rows.length x.2.2.2.2.2.2.2) r.Rows]) (fun _ => [])) := by
  unfold F_raddleref27_Piece_cell_s1 at h
  obtain rfl : v3 = .agg #[.int .u8 p3.Kind, .bool p3.Purl, iv p3.A, iv p3.B] := S.know (i := 0) (e := fRep r_api_Stitch (v3) p3) rfl
  obtain ⟨ad1, cp2, _, rfl, _⟩ := S.know (i := 1) (e := fRep (rL (rI .i64)) (v4) p4) rfl
  refine sEnter (args := [.pointer (some ⟨bb0, 0, none⟩), iv p1, iv p2, .agg #[.int .u8 p3.Kind, .bool p3.Purl, iv p3.A, iv p3.B], .slice ad1 p4.length cp2]) 213 Try.func47 rfl rfl (by simp) S (fun a S => ?_)
  refine sSeq (fun K3 hK3 => ?_)
  refine sRegion ?_
  refine sBox (v := .agg #[.int .u8 p3.Kind, .bool p3.Purl, iv p3.A, iv p3.B]) S (wN rfl) rfl rfl [.int .u8 p3.Kind, .bool p3.Purl, iv p3.A, iv p3.B] rfl rfl (lb rfl) fun a b4 w S => ?_
  refine leafL (leafT (hK3 _ _ ?_))
  refine sSeq (fun K5 hK5 => ?_)
  refine sRegion ?_
  refine sMove (.pointer (some ⟨bb0, 0, none⟩)) S (wN rfl) (.inl rfl) rfl rfl (lb rfl) fun a S => ?_
  refine nilCheck_ok (q := ⟨bb0, 0, none⟩) S (wN rfl) rfl rfl rfl (lb rfl) fun a S => ?_
  refine sField (b := bb0) (off := 0) 0 0 S (wN rfl) rfl rfl rfl rfl rfl (lb rfl) fun a S => ?_
  refine sLoad1 (p := bb0) (off := 0) (T := 77) (vs := [.slice ad_0_0 p0.Loops.length cp_0_0, .slice ad_0_1 p0.Bound.length cp_0_1, .slice ad_0_2 p0.Cross.length cp_0_2, .slice ad_0_3 p0.Rows.length cp_0_3]) 1 (.slice ad_0_0 p0.Loops.length cp_0_0) S (wN rfl) rfl rfl rfl rfl rfl rfl (lb rfl) fun a S => ?_
  refine sLen (ad := ad_0_0) (m := p0.Loops.length) (c := cp_0_0) S (wN rfl) rfl Try.underlying26 rfl rfl (lb rfl) fun a S => ?_
  refine sMove (iv (p0.Loops.length : Int)) S (wN rfl) (.inr rfl) rfl rfl (lb rfl) fun a S => ?_
  refine leafL (leafT (hK5 _ _ ?_))
  refine sSeq (fun K6 hK6 => ?_)
  refine sRegion ?_
  refine sField (b := b4) (off := 0) 0 0 S (wN rfl) rfl rfl rfl rfl rfl (lb rfl) fun a S => ?_
  refine sLoad1 (p := b4) (off := 0) (T := 61) (vs := [.int .u8 p3.Kind, .bool p3.Purl, iv p3.A, iv p3.B]) 0 (.int .u8 p3.Kind) S (wN rfl) rfl rfl rfl rfl rfl rfl (lb rfl) fun a S => ?_
  refine leafL (leafT (hK6 _ _ ?_))
  refine wp_block ?_
  refine sSeq (fun K7 hK7 => ?_)
  refine sRegion ?_
  refine sBin (.bool (p3.Kind == 1)) S (wN rfl) rfl rfl rfl (bEq _ _ _ _ .u8 p3.Kind 1) rfl (lb rfl) fun a S => ?_
  refine sMove (.bool (p3.Kind == 1)) S (wN rfl) (.inr rfl) rfl rfl (lb rfl) fun a S => ?_
  refine leafL (leafT (hK7 _ _ ?_))
  rcases iteSome h with ⟨hc8, h⟩ | ⟨hc8, h⟩
  · refine sCondT S rfl hc8 ?_
    obtain ⟨x9, hx10, h⟩ := bindSome h
    obtain ⟨r16, hx17, h⟩ := bindSome h
    obtain ⟨q26, hq27, S⟩ := pIdx (P := Try.prog) (r := (rI .i64)) (v := .slice ad1 p4.length cp2) (xs := p4) (j := 0) 32 3 1 S Try.underlying32 rfl rfl hx10
    obtain ⟨u28, S⟩ := pLoad (r := (rI .i64)) (q := q26) (x := x9) 0 S rfl
    obtain rfl : u28 = iv x9 := S.mem.know (i := 1) (e := fRep (rI .i64) (u28) x9) rfl
    refine sDraw (nf := [6, 9]) (W := [(0, 29, .pointer (some ⟨bb0, 0, none⟩)), (1, 30, iv p1), (2, 31, iv p2), (3, 32, .slice ad1 p4.length cp2), (4, 33, q26), (5, 34, iv x9), (7, 36, .pointer (some ⟨b4, 1, none⟩)), (8, 37, .bool p3.Purl)]) rfl S ?_
    refine node_by (A := anc_raddleref27_Piece_cell_s1_0) (nf := [6, 9]) (Y := []) (W := [(0, 29, .pointer (some ⟨bb0, 0, none⟩)), (1, 30, iv p1), (2, 31, iv p2), (3, 32, .slice ad1 p4.length cp2), (4, 33, q26), (5, 34, iv x9), (7, 36, .pointer (some ⟨b4, 1, none⟩)), (8, 37, .bool p3.Purl)]) 10 (by kernel_rfl) (by kernel_rfl) (by kernel_rfl) (by kernel_rfl) (by kernel_rfl) [0, 1, 2, 3, 4, 5, 7, 8] (by kernel_rfl) (by decide) (by decide) (aF 0 9 (by decide) ?_ (aF 1 8 (by decide) ?_ (aF 2 7 (by decide) ?_ (aF 3 6 (by decide) ?_ (aF 4 5 (by decide) ?_ (aF 5 4 (by decide) ?_ (aN 6 3 (by decide) ?_ (aF 7 2 (by decide) ?_ (aF 8 1 (by decide) ?_ (aB 9 0 6 (by decide) (trivial))))))))))) [] (fun q hq => by cases hq) (fun hY => absurd (hY 6 (by decide)) (by decide))
    · refine fI 29 (.pointer (some ⟨bb0, 0, none⟩)) [(0, .pointer (some ⟨bb0, 0, none⟩))] 0 [none] rfl rfl rfl rfl rfl rfl fun G a w S => ?_
      refine sMove (.pointer (some ⟨bb0, 0, none⟩)) S (wN rfl) (.inl rfl) rfl rfl (lb rfl) fun a S => ?_
      exact leafL ⟨rfl, S⟩
    · refine fI 30 (iv p1) [(1, iv p1)] 1 [none] rfl rfl rfl rfl rfl rfl fun G a w S => ?_
      refine sMove (iv p1) S (wN rfl) (.inl rfl) rfl rfl (lb rfl) fun a S => ?_
      exact leafL ⟨rfl, S⟩
    · refine fI 31 (iv p2) [(2, iv p2)] 2 [none] rfl rfl rfl rfl rfl rfl fun G a w S => ?_
      refine sMove (iv p2) S (wN rfl) (.inl rfl) rfl rfl (lb rfl) fun a S => ?_
      exact leafL ⟨rfl, S⟩
    · refine fI 32 (.slice ad1 p4.length cp2) [(4, .slice ad1 p4.length cp2)] 3 [none] rfl rfl rfl rfl rfl rfl fun G a w S => ?_
      refine sMove (.slice ad1 p4.length cp2) S (wN rfl) (.inl rfl) rfl rfl (lb rfl) fun a S => ?_
      exact leafL ⟨rfl, S⟩
    · refine fI 33 q26 [(32, .slice ad1 p4.length cp2)] 4 [some 3] rfl rfl rfl rfl rfl rfl fun G a w S => ?_
      refine sIdxV (v := .slice ad1 p4.length cp2) (k := .i64) (j := 0) S (wN rfl) rfl rfl rfl hq27 rfl (lb rfl) fun a S => ?_
      exact leafL ⟨rfl, S⟩
    · refine fI 34 (iv x9) [(33, q26)] 5 [some 4] rfl rfl rfl rfl rfl rfl fun G a w S => ?_
      refine sLoadV1 (vq := q26) 0 (iv x9) S (wN rfl) rfl rfl rfl rfl rfl (lb rfl) fun a S => ?_
      exact leafL ⟨rfl, S⟩
    · refine ⟨_, [(34, iv x9)], rfl, (srcs_of [some 5] rfl rfl rfl), fun G a w S => ?_⟩
      refine sLit (r := (rI .i64)) (T := 3) (xs := ([x9] : List Int)) [(0, iv x9)] 1 [iv x9] [iv x9] (iv 0) 8 S (wN rfl) rfl rfl Try.underlying32 rfl (by decide) (by decide) (by kernel_rfl) rfl (fun E1 w1 hE => All.cons rfl (All.nil _ _ _)) rfl rfl (lb rfl) fun a w ad29 cp30 S => ?_
      refine leafL ⟨rfl, _, _, .inl ⟨35, (.slice ad29 ([x9] : List Int).length cp30), [], rfl, S, hz_of rfl, ?_⟩⟩
      refine node_by (A := anc_raddleref27_Piece_cell_s1_0) (nf := [6, 9]) (Y := [6]) 10 (by kernel_rfl) (by kernel_rfl) (by kernel_rfl) (by kernel_rfl) (by kernel_rfl) [6, 0, 1, 2, 3, 4, 5, 7, 8] (by kernel_rfl) (by decide) (by decide) (aF 0 9 (by decide) ?_ (aF 1 8 (by decide) ?_ (aF 2 7 (by decide) ?_ (aD 3 6 6 (by decide) (aD 4 5 6 (by decide) (aD 5 4 6 (by decide) (aY 6 3 (by decide) (aF 7 2 (by decide) ?_ (aF 8 1 (by decide) ?_ (aN 9 0 (by decide) ?_ (trivial))))))))))) [] (fun q hq => by cases hq) (fun hY => absurd (hY 9 (by decide)) (by decide))
      · refine fI 29 (.pointer (some ⟨bb0, 0, none⟩)) [(0, .pointer (some ⟨bb0, 0, none⟩))] 1 [none] rfl rfl rfl rfl rfl rfl fun G a w S => ?_
        refine sMove (.pointer (some ⟨bb0, 0, none⟩)) S (wN rfl) (.inl rfl) rfl rfl (lb rfl) fun a S => ?_
        exact leafL ⟨rfl, S⟩
      · refine fI 30 (iv p1) [(1, iv p1)] 2 [none] rfl rfl rfl rfl rfl rfl fun G a w S => ?_
        refine sMove (iv p1) S (wN rfl) (.inl rfl) rfl rfl (lb rfl) fun a S => ?_
        exact leafL ⟨rfl, S⟩
      · refine fI 31 (iv p2) [(2, iv p2)] 3 [none] rfl rfl rfl rfl rfl rfl fun G a w S => ?_
        refine sMove (iv p2) S (wN rfl) (.inl rfl) rfl rfl (lb rfl) fun a S => ?_
        exact leafL ⟨rfl, S⟩
      · refine fI 36 (.pointer (some ⟨b4, 1, none⟩)) [(8, .pointer (some ⟨b4, 0, none⟩))] 7 [none] rfl rfl rfl rfl rfl rfl fun G a w S => ?_
        refine sField (b := b4) (off := 0) 1 1 S (wN rfl) rfl rfl rfl rfl rfl (lb rfl) fun a S => ?_
        exact leafL ⟨rfl, S⟩
      · refine fI 37 (.bool p3.Purl) [(36, .pointer (some ⟨b4, 1, none⟩))] 8 [some 7] rfl rfl rfl rfl rfl rfl fun G a w S => ?_
        refine sLoad1 (p := b4) (off := 1) (T := 61) (vs := [.int .u8 p3.Kind, .bool p3.Purl, iv p3.A, iv p3.B]) 1 (.bool p3.Purl) S (wN rfl) rfl rfl rfl rfl rfl rfl (lb rfl) fun a S => ?_
        exact leafL ⟨rfl, S⟩
      refine ⟨_, [(29, .pointer (some ⟨bb0, 0, none⟩)), (30, iv p1), (31, iv p2), (35, .slice ad29 ([x9] : List Int).length cp30), (37, .bool p3.Purl)], rfl, (srcs_of [some 1, some 2, some 3, some 0, some 8] rfl rfl rfl), fun G a w S => ?_⟩
      have S := S.shutR (r := (rI .i64)) (T := 3) (v := .slice ad29 ([x9] : List Int).length cp30) (xs := ([x9] : List Int)) 0 rfl
      refine sCall (X := Option Addr × Nat × Option Addr × Nat × Option Addr × Nat × Option Addr × Nat) (f := 45) (vs := [.pointer (some ⟨bb0, 0, none⟩), iv p1, iv p2, .slice ad29 ([x9] : List Int).length cp30, .bool p3.Purl]) (val := fun _ => .tuple #[]) (B' := fun x => [eBox bb0 77 [.slice x.1 r16.Loops.length x.2.1, .slice x.2.2.1 r16.Bound.length x.2.2.2.1, .slice x.2.2.2.2.1 r16.Cross.length x.2.2.2.2.2.1, .slice x.2.2.2.2.2.2.1 r16.Rows.length x.2.2.2.2.2.2.2], eRow r_api_Loop 48 (.slice x.1 r16.Loops.length x.2.1) r16.Loops, eRow (rI .i64) 3 (.slice x.2.2.1 r16.Bound.length x.2.2.2.1) r16.Bound, eRow r_A2_Int 49 (.slice x.2.2.2.2.1 r16.Cross.length x.2.2.2.2.2.1) r16.Cross, eRow (rI .i64) 3 (.slice x.2.2.2.2.2.2.1 r16.Rows.length x.2.2.2.2.2.2.2) r16.Rows]) (D' := fun _ => []) [eBox bb0 77 [.slice ad_0_0 p0.Loops.length cp_0_0, .slice ad_0_1 p0.Bound.length cp_0_1, .slice ad_0_2 p0.Cross.length cp_0_2, .slice ad_0_3 p0.Rows.length cp_0_3], eRow r_api_Loop 48 (.slice ad_0_0 p0.Loops.length cp_0_0) p0.Loops, eRow (rI .i64) 3 (.slice ad_0_1 p0.Bound.length cp_0_1) p0.Bound, eRow r_A2_Int 49 (.slice ad_0_2 p0.Cross.length cp_0_2) p0.Cross, eRow (rI .i64) 3 (.slice ad_0_3 p0.Rows.length cp_0_3) p0.Rows] [eBox b4 61 [.int .u8 p3.Kind, .bool p3.Purl, iv p3.A, iv p3.B]] [fRep (rL (rI .i64)) (.slice ad29 ([x9] : List Int).length cp30) ([x9] : List Int)] [1, 2, 3, 4, 5, 0] [0] S (wN rfl) rfl callee45 rfl (by decide) rfl rfl (fun E1 w1 S1 => c_raddleref27_Piece_put_s1 E1 w1 p0 bb0 ad_0_0 cp_0_0 ad_0_1 cp_0_1 ad_0_2 cp_0_2 ad_0_3 cp_0_3 p1 p2 ([x9] : List Int) (.slice ad29 ([x9] : List Int).length cp30) p3.Purl r16 hx17 S1) rfl (lb rfl) fun xx a w S => ?_
      obtain ⟨ad31, cp32, ad33, cp34, ad35, cp36, ad37, cp38⟩ := xx
      dsimp only at S
      refine leafL ⟨rfl, _, _, .inl ⟨38, (.tuple #[]), [], rfl, S, hz_of rfl, ?_⟩⟩
      refine node_by (A := anc_raddleref27_Piece_cell_s1_0) (nf := [6, 9]) (Y := [9, 6]) 10 (by kernel_rfl) (by kernel_rfl) (by kernel_rfl) (by kernel_rfl) (by kernel_rfl) [9, 6, 0, 1, 2, 3, 4, 5, 7, 8] (by kernel_rfl) (by decide) (by decide) (aD 0 9 9 (by decide) (aD 1 8 9 (by decide) (aD 2 7 9 (by decide) (aD 3 6 9 (by decide) (aD 4 5 9 (by decide) (aD 5 4 9 (by decide) (aY 6 3 (by decide) (aD 7 2 9 (by decide) (aD 8 1 9 (by decide) (aY 9 0 (by decide) (trivial))))))))))) [] (fin_of [] rfl (by kernel_rfl) (by kernel_rfl)) (fun _ a w S => ?_)
      obtain rfl := Option.some.inj h
      exact leafB (sEnd (.tuple #[]) S (rsl0 rfl ) ⟨(ad31, cp32, ad33, cp34, ad35, cp36, ad37, cp38), rfl, S.mem.sel [0, 1, 2, 3, 4] [] (by decide) rfl rfl⟩)
    · refine fI 36 (.pointer (some ⟨b4, 1, none⟩)) [(8, .pointer (some ⟨b4, 0, none⟩))] 6 [none] rfl rfl rfl rfl rfl rfl fun G a w S => ?_
      refine sField (b := b4) (off := 0) 1 1 S (wN rfl) rfl rfl rfl rfl rfl (lb rfl) fun a S => ?_
      exact leafL ⟨rfl, S⟩
    refine fI 37 (.bool p3.Purl) [(36, .pointer (some ⟨b4, 1, none⟩))] 7 [some 6] rfl rfl rfl rfl rfl rfl fun G a w S => ?_
    refine sLoad1 (p := b4) (off := 1) (T := 61) (vs := [.int .u8 p3.Kind, .bool p3.Purl, iv p3.A, iv p3.B]) 0 (.bool p3.Purl) S (wN rfl) rfl rfl rfl rfl rfl rfl (lb rfl) fun a S => ?_
    exact leafL ⟨rfl, S⟩
  refine sCondF S rfl hc8 ?_
  refine sSeq (fun K39 hK39 => ?_)
  refine sRegion ?_
  refine sBin (.bool (p3.Kind == 2)) S (wN rfl) rfl rfl rfl (bEq _ _ _ _ .u8 p3.Kind 2) rfl (lb rfl) fun a S => ?_
  refine sMove (.bool (p3.Kind == 2)) S (wN rfl) (.inr rfl) rfl rfl (lb rfl) fun a S => ?_
  refine leafL (leafT (hK39 _ _ ?_))
  rcases iteSome h with ⟨hc40, h⟩ | ⟨hc40, h⟩
  · refine sCondT S rfl hc40 ?_
    refine sRegion ?_
    refine sMove (.pointer (some ⟨bb0, 0, none⟩)) S (wN rfl) (.inl rfl) rfl rfl (lb rfl) fun a S => ?_
    refine sMove (iv p1) S (wN rfl) (.inl rfl) rfl rfl (lb rfl) fun a S => ?_
    refine sMove (iv p2) S (wN rfl) (.inl rfl) rfl rfl (lb rfl) fun a S => ?_
    obtain ⟨r41, hx42, h⟩ := bindSome h
    have S := S.learn (fRep (rL (rI .i64)) (.slice none 0 0) ([] : (List Int))) (rL_nil _ _ _)
    refine sCall (X := Option Addr × Nat × Option Addr × Nat × Option Addr × Nat × Option Addr × Nat) (f := 45) (vs := [.pointer (some ⟨bb0, 0, none⟩), iv p1, iv p2, .slice none 0 0, .bool false]) (val := fun _ => .tuple #[]) (B' := fun x => [eBox bb0 77 [.slice x.1 r41.Loops.length x.2.1, .slice x.2.2.1 r41.Bound.length x.2.2.2.1, .slice x.2.2.2.2.1 r41.Cross.length x.2.2.2.2.2.1, .slice x.2.2.2.2.2.2.1 r41.Rows.length x.2.2.2.2.2.2.2], eRow r_api_Loop 48 (.slice x.1 r41.Loops.length x.2.1) r41.Loops, eRow (rI .i64) 3 (.slice x.2.2.1 r41.Bound.length x.2.2.2.1) r41.Bound, eRow r_A2_Int 49 (.slice x.2.2.2.2.1 r41.Cross.length x.2.2.2.2.2.1) r41.Cross, eRow (rI .i64) 3 (.slice x.2.2.2.2.2.2.1 r41.Rows.length x.2.2.2.2.2.2.2) r41.Rows]) (D' := fun _ => []) [eBox bb0 77 [.slice ad_0_0 p0.Loops.length cp_0_0, .slice ad_0_1 p0.Bound.length cp_0_1, .slice ad_0_2 p0.Cross.length cp_0_2, .slice ad_0_3 p0.Rows.length cp_0_3], eRow r_api_Loop 48 (.slice ad_0_0 p0.Loops.length cp_0_0) p0.Loops, eRow (rI .i64) 3 (.slice ad_0_1 p0.Bound.length cp_0_1) p0.Bound, eRow r_A2_Int 49 (.slice ad_0_2 p0.Cross.length cp_0_2) p0.Cross, eRow (rI .i64) 3 (.slice ad_0_3 p0.Rows.length cp_0_3) p0.Rows] [eBox b4 61 [.int .u8 p3.Kind, .bool p3.Purl, iv p3.A, iv p3.B]] [fRep (rL (rI .i64)) (.slice none 0 0) ([] : (List Int))] [1, 2, 3, 4, 5, 0] [0] S (wN rfl) rfl callee45 rfl (by decide) rfl rfl (fun E1 w1 S1 => c_raddleref27_Piece_put_s1 E1 w1 p0 bb0 ad_0_0 cp_0_0 ad_0_1 cp_0_1 ad_0_2 cp_0_2 ad_0_3 cp_0_3 p1 p2 ([] : (List Int)) (.slice none 0 0) false r41 hx42 S1) rfl (lb rfl) fun xx a w S => ?_
    obtain ⟨ad43, cp44, ad45, cp46, ad47, cp48, ad49, cp50⟩ := xx
    dsimp only at S
    obtain rfl := Option.some.inj h
    exact leafL (leafB (sEnd (.tuple #[]) S (rsl0 rfl ) ⟨(ad43, cp44, ad45, cp46, ad47, cp48, ad49, cp50), rfl, S.mem.sel [0, 1, 2, 3, 4] [] (by decide) rfl rfl⟩))
  refine sCondF S rfl hc40 ?_
  refine sSeq (fun K51 hK51 => ?_)
  refine sRegion ?_
  refine sBin (.bool (p3.Kind == 9)) S (wN rfl) rfl rfl rfl (bEq _ _ _ _ .u8 p3.Kind 9) rfl (lb rfl) fun a S => ?_
  refine sMove (.bool (p3.Kind == 9)) S (wN rfl) (.inr rfl) rfl rfl (lb rfl) fun a S => ?_
  refine leafL (leafT (hK51 _ _ ?_))
  rcases iteSome h with ⟨hc52, h⟩ | ⟨hc52, h⟩
  · refine sCondT S rfl hc52 ?_
    refine sSeq (fun K53 hK53 => ?_)
    refine sRegion ?_
    refine sMove (iv 0) S (wN rfl) (.inr rfl) rfl rfl (lb rfl) fun a S => ?_
    refine leafL (leafT (hK53 _ _ ?_))
    refine wp_block ?_
    obtain ⟨t69, hl, g68⟩ := bindSome h
    refine sLoop hl (fun s0 a w => match s0 with | (s54, s55, s58, s61, s64) => ∃ ad56, ∃ cp57, ∃ ad59, ∃ cp60, ∃ ad62, ∃ cp63, ∃ ad65, ∃ cp66, St [] E (keysL [eBox bb0 77 [.slice ad_0_0 p0.Loops.length cp_0_0, .slice ad_0_1 p0.Bound.length cp_0_1, .slice ad_0_2 p0.Cross.length cp_0_2, .slice ad_0_3 p0.Rows.length cp_0_3], eRow r_api_Loop 48 (.slice ad_0_0 p0.Loops.length cp_0_0) p0.Loops, eRow (rI .i64) 3 (.slice ad_0_1 p0.Bound.length cp_0_1) p0.Bound, eRow r_A2_Int 49 (.slice ad_0_2 p0.Cross.length cp_0_2) p0.Cross, eRow (rI .i64) 3 (.slice ad_0_3 p0.Rows.length cp_0_3) p0.Rows]) w0 213 a w [(0, .pointer (some ⟨bb0, 0, none⟩)), (1, iv p1), (2, iv p2), (8, .pointer (some ⟨b4, 0, none⟩)), (11, iv s54)] [eBox bb0 77 [.slice ad56 s55.length cp57, .slice ad59 s58.length cp60, .slice ad62 s61.length cp63, .slice ad65 s64.length cp66], eBox b4 61 [.int .u8 p3.Kind, .bool p3.Purl, iv p3.A, iv p3.B], eRow r_api_Loop 48 (.slice ad56 s55.length cp57) s55, eRow (rI .i64) 3 (.slice ad59 s58.length cp60) s58, eRow r_A2_Int 49 (.slice ad62 s61.length cp63) s61, eRow (rI .i64) 3 (.slice ad65 s64.length cp66) s64] []) ⟨ad_0_0, cp_0_0, ad_0_1, cp_0_1, ad_0_2, cp_0_2, ad_0_3, cp_0_3, S.fix [1, 0, 2, 3, 4, 5] [] (by decide) rfl rfl rfl⟩ ?_
    clear hl h
    intro s0 a w c0 hI h hu67
    obtain ⟨s54, s55, s58, s61, s64⟩ := s0
    unfold raddleref27_Piece_cell_s1_l1 at h
    dsimp only at h hI
    obtain ⟨ad56, cp57, ad59, cp60, ad62, cp63, ad65, cp66, S⟩ := hI
    refine sSeq (fun K82 hK82 => ?_)
    refine sSeq (fun K83 hK83 => ?_)
    refine sRegion ?_
    refine sMove (iv s54) S (wN rfl) (.inl rfl) rfl rfl (lb rfl) fun a S => ?_
    refine sField (b := b4) (off := 0) 2 2 S (wN rfl) rfl rfl rfl rfl rfl (lb rfl) fun a S => ?_
    refine sLoad1 (p := b4) (off := 2) (T := 61) (vs := [.int .u8 p3.Kind, .bool p3.Purl, iv p3.A, iv p3.B]) 1 (iv p3.A) S (wN rfl) rfl rfl rfl rfl rfl rfl (lb rfl) fun a S => ?_
    refine sBin (.bool (decide (s54 < p3.A))) S (wN rfl) rfl rfl rfl (bLt _ _ _ _ .i64 s54 p3.A) rfl (lb rfl) fun a S => ?_
    refine leafL (leafT (hK83 _ _ ?_))
    rcases iteSome h with ⟨hc84, h⟩ | ⟨hc84, h⟩
    rotate_left
    · refine sCondF S rfl hc84 ?_
      obtain rfl := Option.some.inj h
      obtain rfl := hu67 _ rfl
      have h := g68
      clear g68
      try dsimp only at h
      obtain rfl := Option.some.inj h
      exact wp_exit (xThen (xThen (xHit (leafB (sEnd (.tuple #[]) S (rsl0 rfl ) ⟨(ad56, cp57, ad59, cp60, ad62, cp63, ad65, cp66), rfl, S.mem.sel [0, 2, 3, 4, 5] [] (by decide) rfl rfl⟩)))))
    refine sCondT S rfl hc84 ?_
    refine wp_skip (leafT (hK82 _ _ ?_))
    refine sSeq (fun K85 hK85 => ?_)
    refine wp_block ?_
    refine sRegion ?_
    refine sMove (.pointer (some ⟨bb0, 0, none⟩)) S (wN rfl) (.inl rfl) rfl rfl (lb rfl) fun a S => ?_
    refine sMove (iv p1) S (wN rfl) (.inl rfl) rfl rfl (lb rfl) fun a S => ?_
    refine sMove (iv p2) S (wN rfl) (.inl rfl) rfl rfl (lb rfl) fun a S => ?_
    obtain ⟨r86, hx87, h⟩ := bindSome h
    have S := S.learn (fRep (rL (rI .i64)) (.slice none 0 0) ([] : (List Int))) (rL_nil _ _ _)
    refine sCall (X := Option Addr × Nat × Option Addr × Nat × Option Addr × Nat × Option Addr × Nat) (f := 45) (vs := [.pointer (some ⟨bb0, 0, none⟩), iv p1, iv p2, .slice none 0 0, .bool false]) (val := fun _ => .tuple #[]) (B' := fun x => [eBox bb0 77 [.slice x.1 r86.Loops.length x.2.1, .slice x.2.2.1 r86.Bound.length x.2.2.2.1, .slice x.2.2.2.2.1 r86.Cross.length x.2.2.2.2.2.1, .slice x.2.2.2.2.2.2.1 r86.Rows.length x.2.2.2.2.2.2.2], eRow r_api_Loop 48 (.slice x.1 r86.Loops.length x.2.1) r86.Loops, eRow (rI .i64) 3 (.slice x.2.2.1 r86.Bound.length x.2.2.2.1) r86.Bound, eRow r_A2_Int 49 (.slice x.2.2.2.2.1 r86.Cross.length x.2.2.2.2.2.1) r86.Cross, eRow (rI .i64) 3 (.slice x.2.2.2.2.2.2.1 r86.Rows.length x.2.2.2.2.2.2.2) r86.Rows]) (D' := fun _ => []) [eBox bb0 77 [.slice ad56 s55.length cp57, .slice ad59 s58.length cp60, .slice ad62 s61.length cp63, .slice ad65 s64.length cp66], eRow r_api_Loop 48 (.slice ad56 s55.length cp57) s55, eRow (rI .i64) 3 (.slice ad59 s58.length cp60) s58, eRow r_A2_Int 49 (.slice ad62 s61.length cp63) s61, eRow (rI .i64) 3 (.slice ad65 s64.length cp66) s64] [eBox b4 61 [.int .u8 p3.Kind, .bool p3.Purl, iv p3.A, iv p3.B]] [fRep (rL (rI .i64)) (.slice none 0 0) ([] : (List Int))] [0, 2, 3, 4, 5, 1] [0] S (wN rfl) rfl callee45 rfl (by decide) rfl rfl (fun E1 w1 S1 => c_raddleref27_Piece_put_s1 E1 w1 (raddleref27_Piece.mk s55 s58 s61 s64) bb0 ad56 cp57 ad59 cp60 ad62 cp63 ad65 cp66 p1 p2 ([] : (List Int)) (.slice none 0 0) false r86 hx87 S1) rfl (lb rfl) fun xx a w S => ?_
    obtain ⟨ad88, cp89, ad90, cp91, ad92, cp93, ad94, cp95⟩ := xx
    dsimp only at S
    refine leafL (leafB (leafT (hK85 _ _ ?_)))
    refine sRegion ?_
    refine sMove (iv s54) S (wN rfl) (.inl rfl) rfl rfl (lb rfl) fun a S => ?_
    refine sBin (iv (w64 (s54 + 1))) S (wN rfl) rfl rfl rfl (bAdd _ _ _ _ s54 1) rfl (lb rfl) fun a S => ?_
    refine sMove (iv (w64 (s54 + 1))) S (wN rfl) (.inr rfl) rfl rfl (lb rfl) fun a S => ?_
    exact leafL (leafT (⟨(w64 (s54 + 1), r86.Loops, r86.Bound, r86.Cross, r86.Rows), (Option.some.inj h).symm, ⟨ad88, cp89, ad90, cp91, ad92, cp93, ad94, cp95, S.fix [0, 5, 1, 2, 3, 4] [] (by decide) rfl rfl rfl⟩⟩))
  refine sCondF S rfl hc52 ?_
  obtain ⟨t105, h, g106⟩ := bindSome h
  refine sCut (fun a w => ∃ o96, o96 = t105 ∧ ∃ ad97, ∃ cp98, ∃ ad99, ∃ cp100, ∃ ad101, ∃ cp102, ∃ ad103, ∃ cp104, St [] E (keysL [eBox bb0 77 [.slice ad_0_0 p0.Loops.length cp_0_0, .slice ad_0_1 p0.Bound.length cp_0_1, .slice ad_0_2 p0.Cross.length cp_0_2, .slice ad_0_3 p0.Rows.length cp_0_3], eRow r_api_Loop 48 (.slice ad_0_0 p0.Loops.length cp_0_0) p0.Loops, eRow (rI .i64) 3 (.slice ad_0_1 p0.Bound.length cp_0_1) p0.Bound, eRow r_A2_Int 49 (.slice ad_0_2 p0.Cross.length cp_0_2) p0.Cross, eRow (rI .i64) 3 (.slice ad_0_3 p0.Rows.length cp_0_3) p0.Rows]) w0 213 a w [(0, .pointer (some ⟨bb0, 0, none⟩)), (1, iv p1), (2, iv p2), (4, .slice ad1 p4.length cp2), (8, .pointer (some ⟨b4, 0, none⟩)), (10, iv (p0.Loops.length : Int)), (26, .int .u8 p3.Kind), (57, .bool o96)] [eBox bb0 77 [.slice ad97 p0.Loops.length cp98, .slice ad99 p0.Bound.length cp100, .slice ad101 p0.Cross.length cp102, .slice ad103 p0.Rows.length cp104], eBox b4 61 [.int .u8 p3.Kind, .bool p3.Purl, iv p3.A, iv p3.B], eRow r_api_Loop 48 (.slice ad97 p0.Loops.length cp98) p0.Loops, eRow (rI .i64) 3 (.slice ad99 p0.Bound.length cp100) p0.Bound, eRow r_A2_Int 49 (.slice ad101 p0.Cross.length cp102) p0.Cross, eRow (rI .i64) 3 (.slice ad103 p0.Rows.length cp104) p0.Rows] [fRep (rL (rI .i64)) (.slice ad1 p4.length cp2) p4]) ?_ (fun a w hI => ?_)
  · refine sSeq (fun K107 hK107 => ?_)
    refine sRegion ?_
    refine sBin (.bool (p3.Kind == 3)) S (wN rfl) rfl rfl rfl (bEq _ _ _ _ .u8 p3.Kind 3) rfl (lb rfl) fun a S => ?_
    refine sMove (.bool (p3.Kind == 3)) S (wN rfl) (.inr rfl) rfl rfl (lb rfl) fun a S => ?_
    refine leafL (leafT (hK107 _ _ ?_))
    rcases iteSome h with ⟨hc108, h⟩ | ⟨hc108, h⟩
    · refine sCondT S rfl hc108 ?_
      exact wp_skip (leafT (⟨p3.Kind == 3, Option.some.inj h, ad_0_0, cp_0_0, ad_0_1, cp_0_1, ad_0_2, cp_0_2, ad_0_3, cp_0_3, S.fix [1, 0, 2, 3, 4, 5] [1] (by decide) rfl rfl rfl⟩))
    refine sCondF S rfl hc108 ?_
    refine sRegion ?_
    refine sBin (.bool (p3.Kind == 4)) S (wN rfl) rfl rfl rfl (bEq _ _ _ _ .u8 p3.Kind 4) rfl (lb rfl) fun a S => ?_
    refine sMove (.bool (p3.Kind == 4)) S (wN rfl) (.inr rfl) rfl rfl (lb rfl) fun a S => ?_
    exact leafL (leafT (⟨p3.Kind == 4, Option.some.inj h, ad_0_0, cp_0_0, ad_0_1, cp_0_1, ad_0_2, cp_0_2, ad_0_3, cp_0_3, S.fix [1, 0, 2, 3, 4, 5] [1] (by decide) rfl rfl rfl⟩))
  obtain ⟨o96, rfl, ad97, cp98, ad99, cp100, ad101, cp102, ad103, cp104, S⟩ := hI
  have h := g106
  clear g106
  try dsimp only at h
  rcases iteSome h with ⟨hc109, h⟩ | ⟨hc109, h⟩
  · refine sCondT S rfl hc109 ?_
    refine sSeq (fun K110 hK110 => ?_)
    refine sRegion ?_
    refine sMove (.slice none 0 0) S (wN rfl) (.inr rfl) rfl rfl (lb rfl) fun a S => ?_
    refine leafL (leafT (hK110 _ _ ?_))
    obtain ⟨t114, h, g115⟩ := bindSome h
    refine sCut (fun a w => ∃ o111, o111 = t114 ∧ ∃ ad112, ∃ cp113, St [] E (keysL [eBox bb0 77 [.slice ad_0_0 p0.Loops.length cp_0_0, .slice ad_0_1 p0.Bound.length cp_0_1, .slice ad_0_2 p0.Cross.length cp_0_2, .slice ad_0_3 p0.Rows.length cp_0_3], eRow r_api_Loop 48 (.slice ad_0_0 p0.Loops.length cp_0_0) p0.Loops, eRow (rI .i64) 3 (.slice ad_0_1 p0.Bound.length cp_0_1) p0.Bound, eRow r_A2_Int 49 (.slice ad_0_2 p0.Cross.length cp_0_2) p0.Cross, eRow (rI .i64) 3 (.slice ad_0_3 p0.Rows.length cp_0_3) p0.Rows]) w0 213 a w [(0, .pointer (some ⟨bb0, 0, none⟩)), (1, iv p1), (2, iv p2), (8, .pointer (some ⟨b4, 0, none⟩)), (12, .slice ad112 o111.length cp113)] [eBox bb0 77 [.slice ad97 p0.Loops.length cp98, .slice ad99 p0.Bound.length cp100, .slice ad101 p0.Cross.length cp102, .slice ad103 p0.Rows.length cp104], eBox b4 61 [.int .u8 p3.Kind, .bool p3.Purl, iv p3.A, iv p3.B], eRow (rI .i64) 3 (.slice ad112 o111.length cp113) o111, eRow r_api_Loop 48 (.slice ad97 p0.Loops.length cp98) p0.Loops, eRow (rI .i64) 3 (.slice ad99 p0.Bound.length cp100) p0.Bound, eRow r_A2_Int 49 (.slice ad101 p0.Cross.length cp102) p0.Cross, eRow (rI .i64) 3 (.slice ad103 p0.Rows.length cp104) p0.Rows] []) ?_ (fun a w hI => ?_)
    rotate_left
    · obtain ⟨o111, rfl, ad112, cp113, S⟩ := hI
      have h := g115
      clear g115
      try dsimp only at h
      refine sRegion ?_
      refine sMove (.pointer (some ⟨bb0, 0, none⟩)) S (wN rfl) (.inl rfl) rfl rfl (lb rfl) fun a S => ?_
      refine sMove (iv p1) S (wN rfl) (.inl rfl) rfl rfl (lb rfl) fun a S => ?_
      refine sMove (iv p2) S (wN rfl) (.inl rfl) rfl rfl (lb rfl) fun a S => ?_
      refine sMove (.slice ad112 o111.length cp113) S (wN rfl) (.inl rfl) rfl rfl (lb rfl) fun a S => ?_
      refine sField (b := b4) (off := 0) 1 1 S (wN rfl) rfl rfl rfl rfl rfl (lb rfl) fun a S => ?_
      refine sLoad1 (p := b4) (off := 1) (T := 61) (vs := [.int .u8 p3.Kind, .bool p3.Purl, iv p3.A, iv p3.B]) 1 (.bool p3.Purl) S (wN rfl) rfl rfl rfl rfl rfl rfl (lb rfl) fun a S => ?_
      obtain ⟨r159, hx160, h⟩ := bindSome h
      have S := S.shutR (r := (rI .i64)) (T := 3) (v := .slice ad112 o111.length cp113) (xs := o111) 2 rfl
      refine sCall (X := Option Addr × Nat × Option Addr × Nat × Option Addr × Nat × Option Addr × Nat) (f := 45) (vs := [.pointer (some ⟨bb0, 0, none⟩), iv p1, iv p2, .slice ad112 o111.length cp113, .bool p3.Purl]) (val := fun _ => .tuple #[]) (B' := fun x => [eBox bb0 77 [.slice x.1 r159.Loops.length x.2.1, .slice x.2.2.1 r159.Bound.length x.2.2.2.1, .slice x.2.2.2.2.1 r159.Cross.length x.2.2.2.2.2.1, .slice x.2.2.2.2.2.2.1 r159.Rows.length x.2.2.2.2.2.2.2], eRow r_api_Loop 48 (.slice x.1 r159.Loops.length x.2.1) r159.Loops, eRow (rI .i64) 3 (.slice x.2.2.1 r159.Bound.length x.2.2.2.1) r159.Bound, eRow r_A2_Int 49 (.slice x.2.2.2.2.1 r159.Cross.length x.2.2.2.2.2.1) r159.Cross, eRow (rI .i64) 3 (.slice x.2.2.2.2.2.2.1 r159.Rows.length x.2.2.2.2.2.2.2) r159.Rows]) (D' := fun _ => []) [eBox bb0 77 [.slice ad97 p0.Loops.length cp98, .slice ad99 p0.Bound.length cp100, .slice ad101 p0.Cross.length cp102, .slice ad103 p0.Rows.length cp104], eRow r_api_Loop 48 (.slice ad97 p0.Loops.length cp98) p0.Loops, eRow (rI .i64) 3 (.slice ad99 p0.Bound.length cp100) p0.Bound, eRow r_A2_Int 49 (.slice ad101 p0.Cross.length cp102) p0.Cross, eRow (rI .i64) 3 (.slice ad103 p0.Rows.length cp104) p0.Rows] [eBox b4 61 [.int .u8 p3.Kind, .bool p3.Purl, iv p3.A, iv p3.B]] [fRep (rL (rI .i64)) (.slice ad112 o111.length cp113) o111] [0, 2, 3, 4, 5, 1] [0] S (wN rfl) rfl callee45 rfl (by decide) rfl rfl (fun E1 w1 S1 => c_raddleref27_Piece_put_s1 E1 w1 p0 bb0 ad97 cp98 ad99 cp100 ad101 cp102 ad103 cp104 p1 p2 o111 (.slice ad112 o111.length cp113) p3.Purl r159 hx160 S1) rfl (lb rfl) fun xx a w S => ?_
      obtain ⟨ad161, cp162, ad163, cp164, ad165, cp166, ad167, cp168⟩ := xx
      dsimp only at S
      obtain rfl := Option.some.inj h
      exact leafL (leafB (sEnd (.tuple #[]) S (rsl0 rfl ) ⟨(ad161, cp162, ad163, cp164, ad165, cp166, ad167, cp168), rfl, S.mem.sel [0, 1, 2, 3, 4] [] (by decide) rfl rfl⟩))
    refine sSeq (fun K116 hK116 => ?_)
    refine sRegion ?_
    refine sMove (iv 0) S (wN rfl) (.inr rfl) rfl rfl (lb rfl) fun a S => ?_
    refine leafL (leafT (hK116 _ _ ?_))
    refine wp_block ?_
    have S := S.nilRow (rI .i64) 3 (α := Int)
    obtain ⟨t123, hl, g122⟩ := bindSome h
    refine sLoop hl (fun s0 a w => match s0 with | (s117, s120) => ∃ ad118, ∃ cp119, St [] E (keysL [eBox bb0 77 [.slice ad_0_0 p0.Loops.length cp_0_0, .slice ad_0_1 p0.Bound.length cp_0_1, .slice ad_0_2 p0.Cross.length cp_0_2, .slice ad_0_3 p0.Rows.length cp_0_3], eRow r_api_Loop 48 (.slice ad_0_0 p0.Loops.length cp_0_0) p0.Loops, eRow (rI .i64) 3 (.slice ad_0_1 p0.Bound.length cp_0_1) p0.Bound, eRow r_A2_Int 49 (.slice ad_0_2 p0.Cross.length cp_0_2) p0.Cross, eRow (rI .i64) 3 (.slice ad_0_3 p0.Rows.length cp_0_3) p0.Rows]) w0 213 a w [(0, .pointer (some ⟨bb0, 0, none⟩)), (1, iv p1), (2, iv p2), (4, .slice ad1 p4.length cp2), (8, .pointer (some ⟨b4, 0, none⟩)), (12, .slice ad118 s117.length cp119), (13, iv s120)] [eBox bb0 77 [.slice ad97 p0.Loops.length cp98, .slice ad99 p0.Bound.length cp100, .slice ad101 p0.Cross.length cp102, .slice ad103 p0.Rows.length cp104], eBox b4 61 [.int .u8 p3.Kind, .bool p3.Purl, iv p3.A, iv p3.B], eRow (rI .i64) 3 (.slice ad118 s117.length cp119) s117, eRow r_api_Loop 48 (.slice ad97 p0.Loops.length cp98) p0.Loops, eRow (rI .i64) 3 (.slice ad99 p0.Bound.length cp100) p0.Bound, eRow r_A2_Int 49 (.slice ad101 p0.Cross.length cp102) p0.Cross, eRow (rI .i64) 3 (.slice ad103 p0.Rows.length cp104) p0.Rows] [fRep (rL (rI .i64)) (.slice ad1 p4.length cp2) p4]) ⟨none, 0, S.fix [1, 2, 0, 3, 4, 5, 6] [0] (by decide) rfl rfl rfl⟩ ?_
    clear hl h
    intro s0 a w c0 hI h hu121
    obtain ⟨s117, s120⟩ := s0
    unfold raddleref27_Piece_cell_s1_l2 at h
    dsimp only at h hI
    obtain ⟨ad118, cp119, S⟩ := hI
    refine sSeq (fun K127 hK127 => ?_)
    refine sSeq (fun K128 hK128 => ?_)
    refine sRegion ?_
    refine sMove (iv s120) S (wN rfl) (.inl rfl) rfl rfl (lb rfl) fun a S => ?_
    refine sMove (.slice ad1 p4.length cp2) S (wN rfl) (.inl rfl) rfl rfl (lb rfl) fun a S => ?_
    refine sLen (ad := ad1) (m := p4.length) (c := cp2) S (wN rfl) rfl Try.underlying32 rfl rfl (lb rfl) fun a S => ?_
    refine sBin (.bool (decide (s120 < (p4.length : Int)))) S (wN rfl) rfl rfl rfl (bLt _ _ _ _ .i64 s120 (p4.length : Int)) rfl (lb rfl) fun a S => ?_
    refine leafL (leafT (hK128 _ _ ?_))
    rcases iteSome h with ⟨hc129, h⟩ | ⟨hc129, h⟩
    rotate_left
    · refine sCondF S rfl hc129 ?_
      obtain rfl := Option.some.inj h
      obtain rfl := hu121 _ rfl
      have h := g122
      clear g122
      try dsimp only at h
      exact wp_exit (xThen (xThen (xHit (leafT (⟨s117, Option.some.inj h, ad118, cp119, S.fix [0, 1, 2, 3, 4, 5, 6] [] (by decide) rfl rfl rfl⟩)))))
    refine sCondT S rfl hc129 ?_
    refine wp_skip (leafT (hK127 _ _ ?_))
    obtain ⟨t133, h, g134⟩ := bindSome h
    refine sCut (fun a w => ∃ o130, o130 = t133 ∧ ∃ ad131, ∃ cp132, St [] E (keysL [eBox bb0 77 [.slice ad_0_0 p0.Loops.length cp_0_0, .slice ad_0_1 p0.Bound.length cp_0_1, .slice ad_0_2 p0.Cross.length cp_0_2, .slice ad_0_3 p0.Rows.length cp_0_3], eRow r_api_Loop 48 (.slice ad_0_0 p0.Loops.length cp_0_0) p0.Loops, eRow (rI .i64) 3 (.slice ad_0_1 p0.Bound.length cp_0_1) p0.Bound, eRow r_A2_Int 49 (.slice ad_0_2 p0.Cross.length cp_0_2) p0.Cross, eRow (rI .i64) 3 (.slice ad_0_3 p0.Rows.length cp_0_3) p0.Rows]) w0 213 a w [(0, .pointer (some ⟨bb0, 0, none⟩)), (1, iv p1), (2, iv p2), (4, .slice ad1 p4.length cp2), (8, .pointer (some ⟨b4, 0, none⟩)), (12, .slice ad131 o130.length cp132), (13, iv s120)] [eBox bb0 77 [.slice ad97 p0.Loops.length cp98, .slice ad99 p0.Bound.length cp100, .slice ad101 p0.Cross.length cp102, .slice ad103 p0.Rows.length cp104], eBox b4 61 [.int .u8 p3.Kind, .bool p3.Purl, iv p3.A, iv p3.B], eRow (rI .i64) 3 (.slice ad131 o130.length cp132) o130, eRow r_api_Loop 48 (.slice ad97 p0.Loops.length cp98) p0.Loops, eRow (rI .i64) 3 (.slice ad99 p0.Bound.length cp100) p0.Bound, eRow r_A2_Int 49 (.slice ad101 p0.Cross.length cp102) p0.Cross, eRow (rI .i64) 3 (.slice ad103 p0.Rows.length cp104) p0.Rows] [fRep (rL (rI .i64)) (.slice ad1 p4.length cp2) p4]) ?_ (fun a w hI => ?_)
    rotate_left
    · obtain ⟨o130, rfl, ad131, cp132, S⟩ := hI
      have h := g134
      clear g134
      try dsimp only at h
      refine sRegion ?_
      refine sMove (iv s120) S (wN rfl) (.inl rfl) rfl rfl (lb rfl) fun a S => ?_
      refine sBin (iv (w64 (s120 + 1))) S (wN rfl) rfl rfl rfl (bAdd _ _ _ _ s120 1) rfl (lb rfl) fun a S => ?_
      refine sMove (iv (w64 (s120 + 1))) S (wN rfl) (.inr rfl) rfl rfl (lb rfl) fun a S => ?_
      exact leafL (leafT (⟨(o130, w64 (s120 + 1)), (Option.some.inj h).symm, ⟨ad131, cp132, S.fix [0, 1, 2, 3, 4, 5, 6] [0] (by decide) rfl rfl rfl⟩⟩))
    refine wp_block ?_
    refine sSeq (fun K135 hK135 => ?_)
    refine sRegion ?_
    refine sField (b := b4) (off := 0) 0 0 S (wN rfl) rfl rfl rfl rfl rfl (lb rfl) fun a S => ?_
    refine sLoad1 (p := b4) (off := 0) (T := 61) (vs := [.int .u8 p3.Kind, .bool p3.Purl, iv p3.A, iv p3.B]) 1 (.int .u8 p3.Kind) S (wN rfl) rfl rfl rfl rfl rfl rfl (lb rfl) fun a S => ?_
    refine sBin (.bool (p3.Kind == 3)) S (wN rfl) rfl rfl rfl (bEq _ _ _ _ .u8 p3.Kind 3) rfl (lb rfl) fun a S => ?_
    refine leafL (leafT (hK135 _ _ ?_))
    rcases iteSome h with ⟨hc136, h⟩ | ⟨hc136, h⟩
    · refine sCondT S rfl hc136 ?_
      refine sRegion ?_
      refine sMove (.slice ad118 s117.length cp119) S (wN rfl) (.inl rfl) rfl rfl (lb rfl) fun a S => ?_
      refine sMove (.slice ad1 p4.length cp2) S (wN rfl) (.inl rfl) rfl rfl (lb rfl) fun a S => ?_
      refine sMove (iv s120) S (wN rfl) (.inl rfl) rfl rfl (lb rfl) fun a S => ?_
      obtain ⟨x137, hx138, h⟩ := bindSome h
      obtain ⟨q139, hq140, S⟩ := pIdx (P := Try.prog) (r := (rI .i64)) (v := .slice ad1 p4.length cp2) (xs := p4) (j := s120) 32 3 0 S Try.underlying32 rfl rfl hx138
      refine sIdxV (v := .slice ad1 p4.length cp2) (k := .i64) (j := s120) S (wN rfl) rfl rfl rfl hq140 rfl (lb rfl) fun a S => ?_
      obtain ⟨u141, S⟩ := pLoad (r := (rI .i64)) (q := q139) (x := x137) 0 S rfl
      obtain rfl : u141 = iv x137 := S.mem.know (i := 1) (e := fRep (rI .i64) (u141) x137) rfl
      refine sLoadV1 (vq := q139) 0 (iv x137) S (wN rfl) rfl rfl rfl rfl rfl (lb rfl) fun a S => ?_
      refine sLit (r := (rI .i64)) (T := 3) (xs := ([x137] : List Int)) [(0, iv x137)] 1 [iv x137] [iv x137] (iv 0) 8 S (wN rfl) rfl rfl Try.underlying32 rfl (by decide) (by decide) (by kernel_rfl) rfl (fun E1 w1 hE => All.cons rfl (All.nil _ _ _)) rfl rfl (lb rfl) fun a w ad142 cp143 S => ?_
      obtain ⟨l144, hx145, h⟩ := bindSome h
      refine sApp (r := (rI .i64)) (T := 3) (xs := s117) (ys := ([x137] : List Int)) (v := .slice ad118 s117.length cp119) (u := .slice ad142 ([x137] : List Int).length cp143) 3 (iv 0) 8 S (wN rfl) rfl Try.underlying32 rfl rfl (by decide) rfl rfl rfl (src_R (T := 3) 0 S.mem rfl) hx145 rfl (lb rfl) fun a w ad146 cp147 S => ?_
      refine sMove (.slice ad146 l144.length cp147) S (wN rfl) (.inr rfl) rfl rfl (lb rfl) fun a S => ?_
      exact leafL (leafB (leafT (⟨l144, Option.some.inj h, ad146, cp147, S.fix [2, 3, 0, 4, 5, 6, 7] [3] (by decide) rfl rfl rfl⟩)))
    refine sCondF S rfl hc136 ?_
    refine sRegion ?_
    refine sMove (.slice ad118 s117.length cp119) S (wN rfl) (.inl rfl) rfl rfl (lb rfl) fun a S => ?_
    refine sMove (.slice ad1 p4.length cp2) S (wN rfl) (.inl rfl) rfl rfl (lb rfl) fun a S => ?_
    refine sMove (.slice ad1 p4.length cp2) S (wN rfl) (.inl rfl) rfl rfl (lb rfl) fun a S => ?_
    refine sLen (ad := ad1) (m := p4.length) (c := cp2) S (wN rfl) rfl Try.underlying32 rfl rfl (lb rfl) fun a S => ?_
    refine sBin (iv (w64 ((p4.length : Int) - 1))) S (wN rfl) rfl rfl rfl (bSub _ _ _ _ (p4.length : Int) 1) rfl (lb rfl) fun a S => ?_
    refine sMove (iv s120) S (wN rfl) (.inl rfl) rfl rfl (lb rfl) fun a S => ?_
    refine sBin (iv (w64 ((w64 ((p4.length : Int) - 1)) - s120))) S (wN rfl) rfl rfl rfl (bSub _ _ _ _ (w64 ((p4.length : Int) - 1)) s120) rfl (lb rfl) fun a S => ?_
    obtain ⟨x148, hx149, h⟩ := bindSome h
    obtain ⟨q150, hq151, S⟩ := pIdx (P := Try.prog) (r := (rI .i64)) (v := .slice ad1 p4.length cp2) (xs := p4) (j := w64 ((w64 ((p4.length : Int) - 1)) - s120)) 32 3 0 S Try.underlying32 rfl rfl hx149
    refine sIdxV (v := .slice ad1 p4.length cp2) (k := .i64) (j := w64 ((w64 ((p4.length : Int) - 1)) - s120)) S (wN rfl) rfl rfl rfl hq151 rfl (lb rfl) fun a S => ?_
    obtain ⟨u152, S⟩ := pLoad (r := (rI .i64)) (q := q150) (x := x148) 0 S rfl
    obtain rfl : u152 = iv x148 := S.mem.know (i := 1) (e := fRep (rI .i64) (u152) x148) rfl
    refine sLoadV1 (vq := q150) 0 (iv x148) S (wN rfl) rfl rfl rfl rfl rfl (lb rfl) fun a S => ?_
    refine sLit (r := (rI .i64)) (T := 3) (xs := ([x148] : List Int)) [(0, iv x148)] 1 [iv x148] [iv x148] (iv 0) 8 S (wN rfl) rfl rfl Try.underlying32 rfl (by decide) (by decide) (by kernel_rfl) rfl (fun E1 w1 hE => All.cons rfl (All.nil _ _ _)) rfl rfl (lb rfl) fun a w ad153 cp154 S => ?_
    obtain ⟨l155, hx156, h⟩ := bindSome h
    refine sApp (r := (rI .i64)) (T := 3) (xs := s117) (ys := ([x148] : List Int)) (v := .slice ad118 s117.length cp119) (u := .slice ad153 ([x148] : List Int).length cp154) 3 (iv 0) 8 S (wN rfl) rfl Try.underlying32 rfl rfl (by decide) rfl rfl rfl (src_R (T := 3) 0 S.mem rfl) hx156 rfl (lb rfl) fun a w ad157 cp158 S => ?_
    refine sMove (.slice ad157 l155.length cp158) S (wN rfl) (.inr rfl) rfl rfl (lb rfl) fun a S => ?_
    exact leafL (leafB (leafT (⟨l155, Option.some.inj h, ad157, cp158, S.fix [2, 3, 0, 4, 5, 6, 7] [3] (by decide) rfl rfl rfl⟩)))
  refine sCondF S rfl hc109 ?_
  refine sSeq (fun K169 hK169 => ?_)
  refine sRegion ?_
  refine sBin (.bool (p3.Kind == 5)) S (wN rfl) rfl rfl rfl (bEq _ _ _ _ .u8 p3.Kind 5) rfl (lb rfl) fun a S => ?_
  refine sMove (.bool (p3.Kind == 5)) S (wN rfl) (.inr rfl) rfl rfl (lb rfl) fun a S => ?_
  refine leafL (leafT (hK169 _ _ ?_))
  rcases iteSome h with ⟨hc170, h⟩ | ⟨hc170, h⟩
  · refine sCondT S rfl hc170 ?_
    refine sSeq (fun K171 hK171 => ?_)
    refine sRegion ?_
    refine sMove (iv 0) S (wN rfl) (.inr rfl) rfl rfl (lb rfl) fun a S => ?_
    refine leafL (leafT (hK171 _ _ ?_))
    refine wp_block ?_
    obtain ⟨t187, hl, g186⟩ := bindSome h
    refine sLoop hl (fun s0 a w => match s0 with | (s172, s173, s176, s179, s182) => ∃ ad174, ∃ cp175, ∃ ad177, ∃ cp178, ∃ ad180, ∃ cp181, ∃ ad183, ∃ cp184, St [] E (keysL [eBox bb0 77 [.slice ad_0_0 p0.Loops.length cp_0_0, .slice ad_0_1 p0.Bound.length cp_0_1, .slice ad_0_2 p0.Cross.length cp_0_2, .slice ad_0_3 p0.Rows.length cp_0_3], eRow r_api_Loop 48 (.slice ad_0_0 p0.Loops.length cp_0_0) p0.Loops, eRow (rI .i64) 3 (.slice ad_0_1 p0.Bound.length cp_0_1) p0.Bound, eRow r_A2_Int 49 (.slice ad_0_2 p0.Cross.length cp_0_2) p0.Cross, eRow (rI .i64) 3 (.slice ad_0_3 p0.Rows.length cp_0_3) p0.Rows]) w0 213 a w [(0, .pointer (some ⟨bb0, 0, none⟩)), (1, iv p1), (2, iv p2), (4, .slice ad1 p4.length cp2), (8, .pointer (some ⟨b4, 0, none⟩)), (14, iv s172)] [eBox bb0 77 [.slice ad174 s173.length cp175, .slice ad177 s176.length cp178, .slice ad180 s179.length cp181, .slice ad183 s182.length cp184], eBox b4 61 [.int .u8 p3.Kind, .bool p3.Purl, iv p3.A, iv p3.B], eRow r_api_Loop 48 (.slice ad174 s173.length cp175) s173, eRow (rI .i64) 3 (.slice ad177 s176.length cp178) s176, eRow r_A2_Int 49 (.slice ad180 s179.length cp181) s179, eRow (rI .i64) 3 (.slice ad183 s182.length cp184) s182] [fRep (rL (rI .i64)) (.slice ad1 p4.length cp2) p4]) ⟨ad97, cp98, ad99, cp100, ad101, cp102, ad103, cp104, S.fix [0, 1, 2, 3, 4, 5] [0] (by decide) rfl rfl rfl⟩ ?_
    clear hl h
    intro s0 a w c0 hI h hu185
    obtain ⟨s172, s173, s176, s179, s182⟩ := s0
    unfold raddleref27_Piece_cell_s1_l3 at h
    dsimp only at h hI
    obtain ⟨ad174, cp175, ad177, cp178, ad180, cp181, ad183, cp184, S⟩ := hI
    refine sSeq (fun K200 hK200 => ?_)
    refine sSeq (fun K201 hK201 => ?_)
    refine sRegion ?_
    refine sMove (iv s172) S (wN rfl) (.inl rfl) rfl rfl (lb rfl) fun a S => ?_
    refine sField (b := b4) (off := 0) 2 2 S (wN rfl) rfl rfl rfl rfl rfl (lb rfl) fun a S => ?_
    refine sLoad1 (p := b4) (off := 2) (T := 61) (vs := [.int .u8 p3.Kind, .bool p3.Purl, iv p3.A, iv p3.B]) 1 (iv p3.A) S (wN rfl) rfl rfl rfl rfl rfl rfl (lb rfl) fun a S => ?_
    refine sBin (.bool (decide (s172 < p3.A))) S (wN rfl) rfl rfl rfl (bLt _ _ _ _ .i64 s172 p3.A) rfl (lb rfl) fun a S => ?_
    refine leafL (leafT (hK201 _ _ ?_))
    rcases iteSome h with ⟨hc202, h⟩ | ⟨hc202, h⟩
    rotate_left
    · refine sCondF S rfl hc202 ?_
      obtain rfl := Option.some.inj h
      obtain rfl := hu185 _ rfl
      have h := g186
      clear g186
      try dsimp only at h
      obtain rfl := Option.some.inj h
      exact wp_exit (xThen (xThen (xHit (leafB (sEnd (.tuple #[]) S (rsl0 rfl ) ⟨(ad174, cp175, ad177, cp178, ad180, cp181, ad183, cp184), rfl, S.mem.sel [0, 2, 3, 4, 5] [] (by decide) rfl rfl⟩)))))
    refine sCondT S rfl hc202 ?_
    refine wp_skip (leafT (hK200 _ _ ?_))
    refine sSeq (fun K203 hK203 => ?_)
    refine wp_block ?_
    obtain ⟨x204, hx205, h⟩ := bindSome h
    obtain ⟨r211, hx212, h⟩ := bindSome h
    obtain ⟨q221, hq222, S⟩ := pIdx (P := Try.prog) (r := (rI .i64)) (v := .slice ad1 p4.length cp2) (xs := p4) (j := 0) 32 3 0 S Try.underlying32 rfl rfl hx205
    obtain ⟨u223, S⟩ := pLoad (r := (rI .i64)) (q := q221) (x := x204) 0 S rfl
    obtain rfl : u223 = iv x204 := S.mem.know (i := 1) (e := fRep (rI .i64) (u223) x204) rfl
    refine sDraw (nf := [6, 9]) (W := [(0, 102, .pointer (some ⟨bb0, 0, none⟩)), (1, 103, iv p1), (2, 104, iv p2), (3, 105, .slice ad1 p4.length cp2), (4, 106, q221), (5, 107, iv x204), (7, 109, .pointer (some ⟨b4, 1, none⟩)), (8, 110, .bool p3.Purl)]) rfl S ?_
    refine node_by (A := anc_raddleref27_Piece_cell_s1_0) (nf := [6, 9]) (Y := []) (W := [(0, 102, .pointer (some ⟨bb0, 0, none⟩)), (1, 103, iv p1), (2, 104, iv p2), (3, 105, .slice ad1 p4.length cp2), (4, 106, q221), (5, 107, iv x204), (7, 109, .pointer (some ⟨b4, 1, none⟩)), (8, 110, .bool p3.Purl)]) 10 (by kernel_rfl) (by kernel_rfl) (by kernel_rfl) (by kernel_rfl) (by kernel_rfl) [0, 1, 2, 3, 4, 5, 7, 8] (by kernel_rfl) (by decide) (by decide) (aF 0 9 (by decide) ?_ (aF 1 8 (by decide) ?_ (aF 2 7 (by decide) ?_ (aF 3 6 (by decide) ?_ (aF 4 5 (by decide) ?_ (aF 5 4 (by decide) ?_ (aN 6 3 (by decide) ?_ (aF 7 2 (by decide) ?_ (aF 8 1 (by decide) ?_ (aB 9 0 6 (by decide) (trivial))))))))))) [] (fun q hq => by cases hq) (fun hY => absurd (hY 6 (by decide)) (by decide))
    · refine fI 102 (.pointer (some ⟨bb0, 0, none⟩)) [(0, .pointer (some ⟨bb0, 0, none⟩))] 0 [none] rfl rfl rfl rfl rfl rfl fun G a w S => ?_
      refine sMove (.pointer (some ⟨bb0, 0, none⟩)) S (wN rfl) (.inl rfl) rfl rfl (lb rfl) fun a S => ?_
      exact leafL ⟨rfl, S⟩
    · refine fI 103 (iv p1) [(1, iv p1)] 1 [none] rfl rfl rfl rfl rfl rfl fun G a w S => ?_
      refine sMove (iv p1) S (wN rfl) (.inl rfl) rfl rfl (lb rfl) fun a S => ?_
      exact leafL ⟨rfl, S⟩
    · refine fI 104 (iv p2) [(2, iv p2)] 2 [none] rfl rfl rfl rfl rfl rfl fun G a w S => ?_
      refine sMove (iv p2) S (wN rfl) (.inl rfl) rfl rfl (lb rfl) fun a S => ?_
      exact leafL ⟨rfl, S⟩
    · refine fI 105 (.slice ad1 p4.length cp2) [(4, .slice ad1 p4.length cp2)] 3 [none] rfl rfl rfl rfl rfl rfl fun G a w S => ?_
      refine sMove (.slice ad1 p4.length cp2) S (wN rfl) (.inl rfl) rfl rfl (lb rfl) fun a S => ?_
      exact leafL ⟨rfl, S⟩
    · refine fI 106 q221 [(105, .slice ad1 p4.length cp2)] 4 [some 3] rfl rfl rfl rfl rfl rfl fun G a w S => ?_
      refine sIdxV (v := .slice ad1 p4.length cp2) (k := .i64) (j := 0) S (wN rfl) rfl rfl rfl hq222 rfl (lb rfl) fun a S => ?_
      exact leafL ⟨rfl, S⟩
    · refine fI 107 (iv x204) [(106, q221)] 5 [some 4] rfl rfl rfl rfl rfl rfl fun G a w S => ?_
      refine sLoadV1 (vq := q221) 0 (iv x204) S (wN rfl) rfl rfl rfl rfl rfl (lb rfl) fun a S => ?_
      exact leafL ⟨rfl, S⟩
    · refine ⟨_, [(107, iv x204)], rfl, (srcs_of [some 5] rfl rfl rfl), fun G a w S => ?_⟩
      refine sLit (r := (rI .i64)) (T := 3) (xs := ([x204] : List Int)) [(0, iv x204)] 1 [iv x204] [iv x204] (iv 0) 8 S (wN rfl) rfl rfl Try.underlying32 rfl (by decide) (by decide) (by kernel_rfl) rfl (fun E1 w1 hE => All.cons rfl (All.nil _ _ _)) rfl rfl (lb rfl) fun a w ad224 cp225 S => ?_
      refine leafL ⟨rfl, _, _, .inl ⟨108, (.slice ad224 ([x204] : List Int).length cp225), [], rfl, S, hz_of rfl, ?_⟩⟩
      refine node_by (A := anc_raddleref27_Piece_cell_s1_0) (nf := [6, 9]) (Y := [6]) 10 (by kernel_rfl) (by kernel_rfl) (by kernel_rfl) (by kernel_rfl) (by kernel_rfl) [6, 0, 1, 2, 3, 4, 5, 7, 8] (by kernel_rfl) (by decide) (by decide) (aF 0 9 (by decide) ?_ (aF 1 8 (by decide) ?_ (aF 2 7 (by decide) ?_ (aD 3 6 6 (by decide) (aD 4 5 6 (by decide) (aD 5 4 6 (by decide) (aY 6 3 (by decide) (aF 7 2 (by decide) ?_ (aF 8 1 (by decide) ?_ (aN 9 0 (by decide) ?_ (trivial))))))))))) [] (fun q hq => by cases hq) (fun hY => absurd (hY 9 (by decide)) (by decide))
      · refine fI 102 (.pointer (some ⟨bb0, 0, none⟩)) [(0, .pointer (some ⟨bb0, 0, none⟩))] 1 [none] rfl rfl rfl rfl rfl rfl fun G a w S => ?_
        refine sMove (.pointer (some ⟨bb0, 0, none⟩)) S (wN rfl) (.inl rfl) rfl rfl (lb rfl) fun a S => ?_
        exact leafL ⟨rfl, S⟩
      · refine fI 103 (iv p1) [(1, iv p1)] 2 [none] rfl rfl rfl rfl rfl rfl fun G a w S => ?_
        refine sMove (iv p1) S (wN rfl) (.inl rfl) rfl rfl (lb rfl) fun a S => ?_
        exact leafL ⟨rfl, S⟩
      · refine fI 104 (iv p2) [(2, iv p2)] 3 [none] rfl rfl rfl rfl rfl rfl fun G a w S => ?_
        refine sMove (iv p2) S (wN rfl) (.inl rfl) rfl rfl (lb rfl) fun a S => ?_
        exact leafL ⟨rfl, S⟩
      · refine fI 109 (.pointer (some ⟨b4, 1, none⟩)) [(8, .pointer (some ⟨b4, 0, none⟩))] 7 [none] rfl rfl rfl rfl rfl rfl fun G a w S => ?_
        refine sField (b := b4) (off := 0) 1 1 S (wN rfl) rfl rfl rfl rfl rfl (lb rfl) fun a S => ?_
        exact leafL ⟨rfl, S⟩
      · refine fI 110 (.bool p3.Purl) [(109, .pointer (some ⟨b4, 1, none⟩))] 8 [some 7] rfl rfl rfl rfl rfl rfl fun G a w S => ?_
        refine sLoad1 (p := b4) (off := 1) (T := 61) (vs := [.int .u8 p3.Kind, .bool p3.Purl, iv p3.A, iv p3.B]) 2 (.bool p3.Purl) S (wN rfl) rfl rfl rfl rfl rfl rfl (lb rfl) fun a S => ?_
        exact leafL ⟨rfl, S⟩
      refine ⟨_, [(102, .pointer (some ⟨bb0, 0, none⟩)), (103, iv p1), (104, iv p2), (108, .slice ad224 ([x204] : List Int).length cp225), (110, .bool p3.Purl)], rfl, (srcs_of [some 1, some 2, some 3, some 0, some 8] rfl rfl rfl), fun G a w S => ?_⟩
      have S := S.shutR (r := (rI .i64)) (T := 3) (v := .slice ad224 ([x204] : List Int).length cp225) (xs := ([x204] : List Int)) 0 rfl
      refine sCall (X := Option Addr × Nat × Option Addr × Nat × Option Addr × Nat × Option Addr × Nat) (f := 45) (vs := [.pointer (some ⟨bb0, 0, none⟩), iv p1, iv p2, .slice ad224 ([x204] : List Int).length cp225, .bool p3.Purl]) (val := fun _ => .tuple #[]) (B' := fun x => [eBox bb0 77 [.slice x.1 r211.Loops.length x.2.1, .slice x.2.2.1 r211.Bound.length x.2.2.2.1, .slice x.2.2.2.2.1 r211.Cross.length x.2.2.2.2.2.1, .slice x.2.2.2.2.2.2.1 r211.Rows.length x.2.2.2.2.2.2.2], eRow r_api_Loop 48 (.slice x.1 r211.Loops.length x.2.1) r211.Loops, eRow (rI .i64) 3 (.slice x.2.2.1 r211.Bound.length x.2.2.2.1) r211.Bound, eRow r_A2_Int 49 (.slice x.2.2.2.2.1 r211.Cross.length x.2.2.2.2.2.1) r211.Cross, eRow (rI .i64) 3 (.slice x.2.2.2.2.2.2.1 r211.Rows.length x.2.2.2.2.2.2.2) r211.Rows]) (D' := fun _ => []) [eBox bb0 77 [.slice ad174 s173.length cp175, .slice ad177 s176.length cp178, .slice ad180 s179.length cp181, .slice ad183 s182.length cp184], eRow r_api_Loop 48 (.slice ad174 s173.length cp175) s173, eRow (rI .i64) 3 (.slice ad177 s176.length cp178) s176, eRow r_A2_Int 49 (.slice ad180 s179.length cp181) s179, eRow (rI .i64) 3 (.slice ad183 s182.length cp184) s182] [eBox b4 61 [.int .u8 p3.Kind, .bool p3.Purl, iv p3.A, iv p3.B]] [fRep (rL (rI .i64)) (.slice ad224 ([x204] : List Int).length cp225) ([x204] : List Int)] [0, 2, 3, 4, 5, 1] [0] S (wN rfl) rfl callee45 rfl (by decide) rfl rfl (fun E1 w1 S1 => c_raddleref27_Piece_put_s1 E1 w1 (raddleref27_Piece.mk s173 s176 s179 s182) bb0 ad174 cp175 ad177 cp178 ad180 cp181 ad183 cp184 p1 p2 ([x204] : List Int) (.slice ad224 ([x204] : List Int).length cp225) p3.Purl r211 hx212 S1) rfl (lb rfl) fun xx a w S => ?_
      obtain ⟨ad226, cp227, ad228, cp229, ad230, cp231, ad232, cp233⟩ := xx
      dsimp only at S
      refine leafL ⟨rfl, _, _, .inl ⟨111, (.tuple #[]), [], rfl, S, hz_of rfl, ?_⟩⟩
      refine node_by (A := anc_raddleref27_Piece_cell_s1_0) (nf := [6, 9]) (Y := [9, 6]) 10 (by kernel_rfl) (by kernel_rfl) (by kernel_rfl) (by kernel_rfl) (by kernel_rfl) [9, 6, 0, 1, 2, 3, 4, 5, 7, 8] (by kernel_rfl) (by decide) (by decide) (aD 0 9 9 (by decide) (aD 1 8 9 (by decide) (aD 2 7 9 (by decide) (aD 3 6 9 (by decide) (aD 4 5 9 (by decide) (aD 5 4 9 (by decide) (aY 6 3 (by decide) (aD 7 2 9 (by decide) (aD 8 1 9 (by decide) (aY 9 0 (by decide) (trivial))))))))))) [(0, .pointer (some ⟨bb0, 0, none⟩)), (1, iv p1), (2, iv p2), (4, .slice ad1 p4.length cp2), (8, .pointer (some ⟨b4, 0, none⟩)), (14, iv s172)] (fin_of [none, none, none, none, none, none] rfl (by kernel_rfl) (by kernel_rfl)) (fun _ a w S => ?_)
      refine leafB (leafT (hK203 _ _ ?_))
      refine sRegion ?_
      refine sMove (iv s172) S (wN rfl) (.inl rfl) rfl rfl (lb rfl) fun a S => ?_
      refine sBin (iv (w64 (s172 + 1))) S (wN rfl) rfl rfl rfl (bAdd _ _ _ _ s172 1) rfl (lb rfl) fun a S => ?_
      refine sMove (iv (w64 (s172 + 1))) S (wN rfl) (.inr rfl) rfl rfl (lb rfl) fun a S => ?_
      exact leafL (leafT (⟨(w64 (s172 + 1), r211.Loops, r211.Bound, r211.Cross, r211.Rows), (Option.some.inj h).symm, ⟨ad226, cp227, ad228, cp229, ad230, cp231, ad232, cp233, S.fix [0, 5, 1, 2, 3, 4] [4] (by decide) rfl rfl rfl⟩⟩))
    · refine fI 109 (.pointer (some ⟨b4, 1, none⟩)) [(8, .pointer (some ⟨b4, 0, none⟩))] 6 [none] rfl rfl rfl rfl rfl rfl fun G a w S => ?_
      refine sField (b := b4) (off := 0) 1 1 S (wN rfl) rfl rfl rfl rfl rfl (lb rfl) fun a S => ?_
      exact leafL ⟨rfl, S⟩
    refine fI 110 (.bool p3.Purl) [(109, .pointer (some ⟨b4, 1, none⟩))] 7 [some 6] rfl rfl rfl rfl rfl rfl fun G a w S => ?_
    refine sLoad1 (p := b4) (off := 1) (T := 61) (vs := [.int .u8 p3.Kind, .bool p3.Purl, iv p3.A, iv p3.B]) 1 (.bool p3.Purl) S (wN rfl) rfl rfl rfl rfl rfl rfl (lb rfl) fun a S => ?_
    exact leafL ⟨rfl, S⟩
  refine sCondF S rfl hc170 ?_
  obtain ⟨t235, h, g236⟩ := bindSome h
  refine sCut (fun a w => ∃ o234, o234 = t235 ∧ St [] E (keysL [eBox bb0 77 [.slice ad_0_0 p0.Loops.length cp_0_0, .slice ad_0_1 p0.Bound.length cp_0_1, .slice ad_0_2 p0.Cross.length cp_0_2, .slice ad_0_3 p0.Rows.length cp_0_3], eRow r_api_Loop 48 (.slice ad_0_0 p0.Loops.length cp_0_0) p0.Loops, eRow (rI .i64) 3 (.slice ad_0_1 p0.Bound.length cp_0_1) p0.Bound, eRow r_A2_Int 49 (.slice ad_0_2 p0.Cross.length cp_0_2) p0.Cross, eRow (rI .i64) 3 (.slice ad_0_3 p0.Rows.length cp_0_3) p0.Rows]) w0 213 a w [(0, .pointer (some ⟨bb0, 0, none⟩)), (1, iv p1), (2, iv p2), (4, .slice ad1 p4.length cp2), (8, .pointer (some ⟨b4, 0, none⟩)), (10, iv (p0.Loops.length : Int)), (26, .int .u8 p3.Kind), (112, .bool o234)] [eBox bb0 77 [.slice ad97 p0.Loops.length cp98, .slice ad99 p0.Bound.length cp100, .slice ad101 p0.Cross.length cp102, .slice ad103 p0.Rows.length cp104], eBox b4 61 [.int .u8 p3.Kind, .bool p3.Purl, iv p3.A, iv p3.B], eRow r_api_Loop 48 (.slice ad97 p0.Loops.length cp98) p0.Loops, eRow (rI .i64) 3 (.slice ad99 p0.Bound.length cp100) p0.Bound, eRow r_A2_Int 49 (.slice ad101 p0.Cross.length cp102) p0.Cross, eRow (rI .i64) 3 (.slice ad103 p0.Rows.length cp104) p0.Rows] [fRep (rL (rI .i64)) (.slice ad1 p4.length cp2) p4]) ?_ (fun a w hI => ?_)
  · refine sSeq (fun K237 hK237 => ?_)
    refine sRegion ?_
    refine sBin (.bool (p3.Kind == 6)) S (wN rfl) rfl rfl rfl (bEq _ _ _ _ .u8 p3.Kind 6) rfl (lb rfl) fun a S => ?_
    refine sMove (.bool (p3.Kind == 6)) S (wN rfl) (.inr rfl) rfl rfl (lb rfl) fun a S => ?_
    refine leafL (leafT (hK237 _ _ ?_))
    rcases iteSome h with ⟨hc238, h⟩ | ⟨hc238, h⟩
    · refine sCondT S rfl hc238 ?_
      exact wp_skip (leafT (⟨p3.Kind == 6, Option.some.inj h, S.fix [0, 1, 2, 3, 4, 5] [0] (by decide) rfl rfl rfl⟩))
    refine sCondF S rfl hc238 ?_
    refine sRegion ?_
    refine sBin (.bool (p3.Kind == 7)) S (wN rfl) rfl rfl rfl (bEq _ _ _ _ .u8 p3.Kind 7) rfl (lb rfl) fun a S => ?_
    refine sMove (.bool (p3.Kind == 7)) S (wN rfl) (.inr rfl) rfl rfl (lb rfl) fun a S => ?_
    exact leafL (leafT (⟨p3.Kind == 7, Option.some.inj h, S.fix [0, 1, 2, 3, 4, 5] [0] (by decide) rfl rfl rfl⟩))
  obtain ⟨o234, rfl, S⟩ := hI
  have h := g236
  clear g236
  try dsimp only at h
  rcases iteSome h with ⟨hc239, h⟩ | ⟨hc239, h⟩
  rotate_left
  · refine sCondF S rfl hc239 ?_
    refine sSeq (fun K366 hK366 => ?_)
    refine sRegion ?_
    refine sBin (.bool (p3.Kind == 8)) S (wN rfl) rfl rfl rfl (bEq _ _ _ _ .u8 p3.Kind 8) rfl (lb rfl) fun a S => ?_
    refine sMove (.bool (p3.Kind == 8)) S (wN rfl) (.inr rfl) rfl rfl (lb rfl) fun a S => ?_
    refine leafL (leafT (hK366 _ _ ?_))
    rcases iteSome h with ⟨hc367, h⟩ | ⟨hc367, h⟩
    rotate_left
    · refine sCondF S rfl hc367 ?_
      refine sSeq (fun K418 hK418 => ?_)
      refine sRegion ?_
      refine sBin (.bool (p3.Kind == 10)) S (wN rfl) rfl rfl rfl (bEq _ _ _ _ .u8 p3.Kind 10) rfl (lb rfl) fun a S => ?_
      refine sMove (.bool (p3.Kind == 10)) S (wN rfl) (.inr rfl) rfl rfl (lb rfl) fun a S => ?_
      refine leafL (leafT (hK418 _ _ ?_))
      rcases iteSome h with ⟨hc419, h⟩ | ⟨hc419, h⟩
      rotate_left
      · refine sCondF S rfl hc419 ?_
        obtain rfl := Option.some.inj h
        exact wp_skip (leafB (sEnd (.tuple #[]) S (rsl0 rfl ) ⟨(ad97, cp98, ad99, cp100, ad101, cp102, ad103, cp104), rfl, S.mem.sel [0, 2, 3, 4, 5] [] (by decide) rfl rfl⟩))
      refine sCondT S rfl hc419 ?_
      refine sRegion ?_
      refine sMove (.pointer (some ⟨bb0, 0, none⟩)) S (wN rfl) (.inl rfl) rfl rfl (lb rfl) fun a S => ?_
      refine sMove (.pointer (some ⟨bb0, 0, none⟩)) S (wN rfl) (.inl rfl) rfl rfl (lb rfl) fun a S => ?_
      refine nilCheck_ok (q := ⟨bb0, 0, none⟩) S (wN rfl) rfl rfl rfl (lb rfl) fun a S => ?_
      refine sField (b := bb0) (off := 0) 1 1 S (wN rfl) rfl rfl rfl rfl rfl (lb rfl) fun a S => ?_
      refine sLoad1 (p := bb0) (off := 1) (T := 77) (vs := [.slice ad97 p0.Loops.length cp98, .slice ad99 p0.Bound.length cp100, .slice ad101 p0.Cross.length cp102, .slice ad103 p0.Rows.length cp104]) 0 (.slice ad99 p0.Bound.length cp100) S (wN rfl) rfl rfl rfl rfl rfl rfl (lb rfl) fun a S => ?_
      refine sMove (.slice ad1 p4.length cp2) S (wN rfl) (.inl rfl) rfl rfl (lb rfl) fun a S => ?_
      obtain ⟨l420, hx421, h⟩ := bindSome h
      refine sApp (r := (rI .i64)) (T := 3) (xs := p0.Bound) (ys := p4) (v := .slice ad99 p0.Bound.length cp100) (u := .slice ad1 p4.length cp2) 3 (iv 0) 8 S (wN rfl) rfl Try.underlying32 rfl rfl (by decide) rfl rfl rfl (src_D 0 S.mem rfl) hx421 rfl (lb rfl) fun a w ad422 cp423 S => ?_
      refine nilCheck_ok (q := ⟨bb0, 0, none⟩) S (wN rfl) rfl rfl rfl (lb rfl) fun a S => ?_
      refine sField (b := bb0) (off := 0) 1 1 S (wN rfl) rfl rfl rfl rfl rfl (lb rfl) fun a S => ?_
      refine sStore (p := bb0) (off := 1) (T := 77) (vs := [.slice ad97 p0.Loops.length cp98, .slice ad99 p0.Bound.length cp100, .slice ad101 p0.Cross.length cp102, .slice ad103 p0.Rows.length cp104]) (v := .slice ad422 l420.length cp423) 1 [.slice ad422 l420.length cp423] S (wN rfl) rfl rfl rfl rfl rfl rfl rfl (by simp) rfl fun a w S => ?_
      obtain rfl := Option.some.inj h
      exact leafL (leafB (sEnd (.tuple #[]) S (rsl0 rfl ) ⟨(ad97, cp98, ad422, cp423, ad101, cp102, ad103, cp104), rfl, S.mem.sel [0, 3, 1, 4, 5] [] (by decide) rfl rfl⟩))
    refine sCondT S rfl hc367 ?_
    obtain ⟨x368, hx369, h⟩ := bindSome h
    obtain ⟨x378, hx379, h⟩ := bindSome h
    obtain ⟨r386, hx387, h⟩ := bindSome h
    obtain ⟨q396, hq397, S⟩ := pIdx (P := Try.prog) (r := (rI .i64)) (v := .slice ad1 p4.length cp2) (xs := p4) (j := 0) 32 3 0 S Try.underlying32 rfl rfl hx369
    obtain ⟨u398, S⟩ := pLoad (r := (rI .i64)) (q := q396) (x := x368) 0 S rfl
    obtain rfl : u398 = iv x368 := S.mem.know (i := 1) (e := fRep (rI .i64) (u398) x368) rfl
    obtain ⟨q399, hq400, S⟩ := pIdx (P := Try.prog) (r := (rI .i64)) (v := .slice ad1 p4.length cp2) (xs := p4) (j := 0) 32 3 3 S Try.underlying32 rfl rfl hx369
    obtain ⟨u401, S⟩ := pLoad (r := (rI .i64)) (q := q399) (x := x368) 0 S rfl
    obtain rfl : u401 = iv x368 := S.mem.know (i := 1) (e := fRep (rI .i64) (u401) x368) rfl
    obtain ⟨q402, hq403, hp404⟩ := pIdxR (P := Try.prog) (r := r_api_Loop) (T := 48) (v := .slice ad97 p0.Loops.length cp98) (xs := p0.Loops) (j := x368) 26 48 2 S Try.underlying26 rfl rfl hx379
    obtain ⟨q405, hq406, hp407⟩ := pFldR (P := Try.prog) 48 3 3 hp404 rfl
    refine sDraw (nf := [6, 17]) (W := [(0, 184, .pointer (some ⟨bb0, 0, none⟩)), (1, 185, iv p1), (2, 186, iv p2), (3, 187, .slice ad1 p4.length cp2), (4, 188, q396), (5, 189, iv x368), (7, 191, .pointer (some ⟨bb0, 0, none⟩)), (8, 192, .pointer (some ⟨bb0, 0, none⟩)), (9, 193, .pointer (some ⟨bb0, 0, none⟩)), (10, 194, .slice ad97 p0.Loops.length cp98), (11, 195, .slice ad1 p4.length cp2), (12, 196, q399), (13, 197, iv x368), (14, 198, q402), (15, 199, q405), (16, 200, .bool x378.Purl)]) rfl S ?_
    refine node_by (A := anc_raddleref27_Piece_cell_s1_2) (nf := [6, 17]) (Y := []) (W := [(0, 184, .pointer (some ⟨bb0, 0, none⟩)), (1, 185, iv p1), (2, 186, iv p2), (3, 187, .slice ad1 p4.length cp2), (4, 188, q396), (5, 189, iv x368), (7, 191, .pointer (some ⟨bb0, 0, none⟩)), (8, 192, .pointer (some ⟨bb0, 0, none⟩)), (9, 193, .pointer (some ⟨bb0, 0, none⟩)), (10, 194, .slice ad97 p0.Loops.length cp98), (11, 195, .slice ad1 p4.length cp2), (12, 196, q399), (13, 197, iv x368), (14, 198, q402), (15, 199, q405), (16, 200, .bool x378.Purl)]) 18 (by kernel_rfl) (by kernel_rfl) (by kernel_rfl) (by kernel_rfl) (by kernel_rfl) [0, 1, 2, 3, 4, 5, 7, 8, 9, 10, 11, 12, 13, 14, 15, 16] (by kernel_rfl) (by decide) (by decide) (aF 0 17 (by decide) ?_ (aF 1 16 (by decide) ?_ (aF 2 15 (by decide) ?_ (aF 3 14 (by decide) ?_ (aF 4 13 (by decide) ?_ (aF 5 12 (by decide) ?_ (aN 6 11 (by decide) ?_ (aF 7 10 (by decide) ?_ (aF 8 9 (by decide) ?_ (aF 9 8 (by decide) ?_ (aF 10 7 (by decide) ?_ (aF 11 6 (by decide) ?_ (aF 12 5 (by decide) ?_ (aF 13 4 (by decide) ?_ (aF 14 3 (by decide) ?_ (aF 15 2 (by decide) ?_ (aF 16 1 (by decide) ?_ (aB 17 0 6 (by decide) (trivial))))))))))))))))))) [] (fun q hq => by cases hq) (fun hY => absurd (hY 6 (by decide)) (by decide))
    · refine fI 184 (.pointer (some ⟨bb0, 0, none⟩)) [(0, .pointer (some ⟨bb0, 0, none⟩))] 0 [none] rfl rfl rfl rfl rfl rfl fun G a w S => ?_
      refine sMove (.pointer (some ⟨bb0, 0, none⟩)) S (wN rfl) (.inl rfl) rfl rfl (lb rfl) fun a S => ?_
      exact leafL ⟨rfl, S⟩
    · refine fI 185 (iv p1) [(1, iv p1)] 1 [none] rfl rfl rfl rfl rfl rfl fun G a w S => ?_
      refine sMove (iv p1) S (wN rfl) (.inl rfl) rfl rfl (lb rfl) fun a S => ?_
      exact leafL ⟨rfl, S⟩
    · refine fI 186 (iv p2) [(2, iv p2)] 2 [none] rfl rfl rfl rfl rfl rfl fun G a w S => ?_
      refine sMove (iv p2) S (wN rfl) (.inl rfl) rfl rfl (lb rfl) fun a S => ?_
      exact leafL ⟨rfl, S⟩
    · refine fI 187 (.slice ad1 p4.length cp2) [(4, .slice ad1 p4.length cp2)] 3 [none] rfl rfl rfl rfl rfl rfl fun G a w S => ?_
      refine sMove (.slice ad1 p4.length cp2) S (wN rfl) (.inl rfl) rfl rfl (lb rfl) fun a S => ?_
      exact leafL ⟨rfl, S⟩
    · refine fI 188 q396 [(187, .slice ad1 p4.length cp2)] 4 [some 3] rfl rfl rfl rfl rfl rfl fun G a w S => ?_
      refine sIdxV (v := .slice ad1 p4.length cp2) (k := .i64) (j := 0) S (wN rfl) rfl rfl rfl hq397 rfl (lb rfl) fun a S => ?_
      exact leafL ⟨rfl, S⟩
    · refine fI 189 (iv x368) [(188, q396)] 5 [some 4] rfl rfl rfl rfl rfl rfl fun G a w S => ?_
      refine sLoadV1 (vq := q396) 3 (iv x368) S (wN rfl) rfl rfl rfl rfl rfl (lb rfl) fun a S => ?_
      exact leafL ⟨rfl, S⟩
    · refine ⟨_, [(189, iv x368)], rfl, (srcs_of [some 5] rfl rfl rfl), fun G a w S => ?_⟩
      refine sLit (r := (rI .i64)) (T := 3) (xs := ([x368] : List Int)) [(0, iv x368)] 1 [iv x368] [iv x368] (iv 0) 8 S (wN rfl) rfl rfl Try.underlying32 rfl (by decide) (by decide) (by kernel_rfl) rfl (fun E1 w1 hE => All.cons rfl (All.nil _ _ _)) rfl rfl (lb rfl) fun a w ad408 cp409 S => ?_
      refine leafL ⟨rfl, _, _, .inl ⟨190, (.slice ad408 ([x368] : List Int).length cp409), [], rfl, S, hz_of rfl, ?_⟩⟩
      refine node_by (A := anc_raddleref27_Piece_cell_s1_2) (nf := [6, 17]) (Y := [6]) 18 (by kernel_rfl) (by kernel_rfl) (by kernel_rfl) (by kernel_rfl) (by kernel_rfl) [6, 0, 1, 2, 3, 4, 5, 7, 8, 9, 10, 11, 12, 13, 14, 15, 16] (by kernel_rfl) (by decide) (by decide) (aF 0 17 (by decide) ?_ (aF 1 16 (by decide) ?_ (aF 2 15 (by decide) ?_ (aD 3 14 6 (by decide) (aD 4 13 6 (by decide) (aD 5 12 6 (by decide) (aY 6 11 (by decide) (aF 7 10 (by decide) ?_ (aF 8 9 (by decide) ?_ (aF 9 8 (by decide) ?_ (aF 10 7 (by decide) ?_ (aF 11 6 (by decide) ?_ (aF 12 5 (by decide) ?_ (aF 13 4 (by decide) ?_ (aF 14 3 (by decide) ?_ (aF 15 2 (by decide) ?_ (aF 16 1 (by decide) ?_ (aN 17 0 (by decide) ?_ (trivial))))))))))))))))))) [] (fun q hq => by cases hq) (fun hY => absurd (hY 17 (by decide)) (by decide))
      · refine fI 184 (.pointer (some ⟨bb0, 0, none⟩)) [(0, .pointer (some ⟨bb0, 0, none⟩))] 1 [none] rfl rfl rfl rfl rfl rfl fun G a w S => ?_
        refine sMove (.pointer (some ⟨bb0, 0, none⟩)) S (wN rfl) (.inl rfl) rfl rfl (lb rfl) fun a S => ?_
        exact leafL ⟨rfl, S⟩
      · refine fI 185 (iv p1) [(1, iv p1)] 2 [none] rfl rfl rfl rfl rfl rfl fun G a w S => ?_
        refine sMove (iv p1) S (wN rfl) (.inl rfl) rfl rfl (lb rfl) fun a S => ?_
        exact leafL ⟨rfl, S⟩
      · refine fI 186 (iv p2) [(2, iv p2)] 3 [none] rfl rfl rfl rfl rfl rfl fun G a w S => ?_
        refine sMove (iv p2) S (wN rfl) (.inl rfl) rfl rfl (lb rfl) fun a S => ?_
        exact leafL ⟨rfl, S⟩
      · refine fI 191 (.pointer (some ⟨bb0, 0, none⟩)) [(0, .pointer (some ⟨bb0, 0, none⟩))] 7 [none] rfl rfl rfl rfl rfl rfl fun G a w S => ?_
        refine sMove (.pointer (some ⟨bb0, 0, none⟩)) S (wN rfl) (.inl rfl) rfl rfl (lb rfl) fun a S => ?_
        exact leafL ⟨rfl, S⟩
      · refine fI 192 (.pointer (some ⟨bb0, 0, none⟩)) [(191, .pointer (some ⟨bb0, 0, none⟩))] 8 [some 7] rfl rfl rfl rfl rfl rfl fun G a w S => ?_
        refine nilCheck_ok (q := ⟨bb0, 0, none⟩) S (wN rfl) rfl rfl rfl (lb rfl) fun a S => ?_
        exact leafL ⟨rfl, S⟩
      · refine fI 193 (.pointer (some ⟨bb0, 0, none⟩)) [(192, .pointer (some ⟨bb0, 0, none⟩))] 9 [some 8] rfl rfl rfl rfl rfl rfl fun G a w S => ?_
        refine sField (b := bb0) (off := 0) 0 0 S (wN rfl) rfl rfl rfl rfl rfl (lb rfl) fun a S => ?_
        exact leafL ⟨rfl, S⟩
      · refine fI 194 (.slice ad97 p0.Loops.length cp98) [(193, .pointer (some ⟨bb0, 0, none⟩))] 10 [some 9] rfl rfl rfl rfl rfl rfl fun G a w S => ?_
        refine sLoad1 (p := bb0) (off := 0) (T := 77) (vs := [.slice ad97 p0.Loops.length cp98, .slice ad99 p0.Bound.length cp100, .slice ad101 p0.Cross.length cp102, .slice ad103 p0.Rows.length cp104]) 1 (.slice ad97 p0.Loops.length cp98) S (wN rfl) rfl rfl rfl rfl rfl rfl (lb rfl) fun a S => ?_
        exact leafL ⟨rfl, S⟩
      · refine fI 195 (.slice ad1 p4.length cp2) [(4, .slice ad1 p4.length cp2)] 11 [none] rfl rfl rfl rfl rfl rfl fun G a w S => ?_
        refine sMove (.slice ad1 p4.length cp2) S (wN rfl) (.inl rfl) rfl rfl (lb rfl) fun a S => ?_
        exact leafL ⟨rfl, S⟩
      · refine fI 196 q399 [(195, .slice ad1 p4.length cp2)] 12 [some 11] rfl rfl rfl rfl rfl rfl fun G a w S => ?_
        refine sIdxV (v := .slice ad1 p4.length cp2) (k := .i64) (j := 0) S (wN rfl) rfl rfl rfl hq400 rfl (lb rfl) fun a S => ?_
        exact leafL ⟨rfl, S⟩
      · refine fI 197 (iv x368) [(196, q399)] 13 [some 12] rfl rfl rfl rfl rfl rfl fun G a w S => ?_
        refine sLoadV1 (vq := q399) 0 (iv x368) S (wN rfl) rfl rfl rfl rfl rfl (lb rfl) fun a S => ?_
        exact leafL ⟨rfl, S⟩
      · refine fI 198 q402 [(194, .slice ad97 p0.Loops.length cp98), (197, iv x368)] 14 [some 10, some 13] rfl rfl rfl rfl rfl rfl fun G a w S => ?_
        refine sIdxV (v := .slice ad97 p0.Loops.length cp98) (k := .i64) (j := x368) S (wN rfl) rfl rfl rfl hq403 rfl (lb rfl) fun a S => ?_
        exact leafL ⟨rfl, S⟩
      · refine fI 199 q405 [(198, q402)] 15 [some 14] rfl rfl rfl rfl rfl rfl fun G a w S => ?_
        refine sFldV (q := q402) S (wN rfl) rfl rfl hq406 rfl (lb rfl) fun a S => ?_
        exact leafL ⟨rfl, S⟩
      · refine fI 200 (.bool x378.Purl) [(199, q405)] 16 [some 15] rfl rfl rfl rfl rfl rfl fun G a w S => ?_
        refine sLoadF (r := r_api_Loop) (s := rB) (g := (·.Purl)) (T := 48) (xs := p0.Loops) (x := x378) (v := .slice ad97 p0.Loops.length cp98) (vq := q405) (j := x368) 3 3 (.bool x378.Purl) S hp407 (wN rfl) rfl rfl rfl hx379 comp_api_Loop_Purl (fun _ _ _ h => h) scal_B rfl rfl (lb rfl) fun a S => ?_
        exact leafL ⟨rfl, S⟩
      refine ⟨_, [(184, .pointer (some ⟨bb0, 0, none⟩)), (185, iv p1), (186, iv p2), (190, .slice ad408 ([x368] : List Int).length cp409), (200, .bool x378.Purl)], rfl, (srcs_of [some 1, some 2, some 3, some 0, some 16] rfl rfl rfl), fun G a w S => ?_⟩
      have S := S.shutR (r := (rI .i64)) (T := 3) (v := .slice ad408 ([x368] : List Int).length cp409) (xs := ([x368] : List Int)) 0 rfl
      refine sCall (X := Option Addr × Nat × Option Addr × Nat × Option Addr × Nat × Option Addr × Nat) (f := 45) (vs := [.pointer (some ⟨bb0, 0, none⟩), iv p1, iv p2, .slice ad408 ([x368] : List Int).length cp409, .bool x378.Purl]) (val := fun _ => .tuple #[]) (B' := fun x => [eBox bb0 77 [.slice x.1 r386.Loops.length x.2.1, .slice x.2.2.1 r386.Bound.length x.2.2.2.1, .slice x.2.2.2.2.1 r386.Cross.length x.2.2.2.2.2.1, .slice x.2.2.2.2.2.2.1 r386.Rows.length x.2.2.2.2.2.2.2], eRow r_api_Loop 48 (.slice x.1 r386.Loops.length x.2.1) r386.Loops, eRow (rI .i64) 3 (.slice x.2.2.1 r386.Bound.length x.2.2.2.1) r386.Bound, eRow r_A2_Int 49 (.slice x.2.2.2.2.1 r386.Cross.length x.2.2.2.2.2.1) r386.Cross, eRow (rI .i64) 3 (.slice x.2.2.2.2.2.2.1 r386.Rows.length x.2.2.2.2.2.2.2) r386.Rows]) (D' := fun _ => []) [eBox bb0 77 [.slice ad97 p0.Loops.length cp98, .slice ad99 p0.Bound.length cp100, .slice ad101 p0.Cross.length cp102, .slice ad103 p0.Rows.length cp104], eRow r_api_Loop 48 (.slice ad97 p0.Loops.length cp98) p0.Loops, eRow (rI .i64) 3 (.slice ad99 p0.Bound.length cp100) p0.Bound, eRow r_A2_Int 49 (.slice ad101 p0.Cross.length cp102) p0.Cross, eRow (rI .i64) 3 (.slice ad103 p0.Rows.length cp104) p0.Rows] [eBox b4 61 [.int .u8 p3.Kind, .bool p3.Purl, iv p3.A, iv p3.B]] [fRep (rL (rI .i64)) (.slice ad408 ([x368] : List Int).length cp409) ([x368] : List Int)] [0, 2, 3, 4, 5, 1] [0] S (wN rfl) rfl callee45 rfl (by decide) rfl rfl (fun E1 w1 S1 => c_raddleref27_Piece_put_s1 E1 w1 p0 bb0 ad97 cp98 ad99 cp100 ad101 cp102 ad103 cp104 p1 p2 ([x368] : List Int) (.slice ad408 ([x368] : List Int).length cp409) x378.Purl r386 hx387 S1) rfl (lb rfl) fun xx a w S => ?_
      obtain ⟨ad410, cp411, ad412, cp413, ad414, cp415, ad416, cp417⟩ := xx
      dsimp only at S
      refine leafL ⟨rfl, _, _, .inl ⟨201, (.tuple #[]), [], rfl, S, hz_of rfl, ?_⟩⟩
      refine node_by (A := anc_raddleref27_Piece_cell_s1_2) (nf := [6, 17]) (Y := [17, 6]) 18 (by kernel_rfl) (by kernel_rfl) (by kernel_rfl) (by kernel_rfl) (by kernel_rfl) [17, 6, 0, 1, 2, 3, 4, 5, 7, 8, 9, 10, 11, 12, 13, 14, 15, 16] (by kernel_rfl) (by decide) (by decide) (aD 0 17 17 (by decide) (aD 1 16 17 (by decide) (aD 2 15 17 (by decide) (aD 3 14 17 (by decide) (aD 4 13 17 (by decide) (aD 5 12 17 (by decide) (aY 6 11 (by decide) (aD 7 10 17 (by decide) (aD 8 9 17 (by decide) (aD 9 8 17 (by decide) (aD 10 7 17 (by decide) (aD 11 6 17 (by decide) (aD 12 5 17 (by decide) (aD 13 4 17 (by decide) (aD 14 3 17 (by decide) (aD 15 2 17 (by decide) (aD 16 1 17 (by decide) (aY 17 0 (by decide) (trivial))))))))))))))))))) [] (fin_of [] rfl (by kernel_rfl) (by kernel_rfl)) (fun _ a w S => ?_)
      obtain rfl := Option.some.inj h
      exact leafB (sEnd (.tuple #[]) S (rsl0 rfl ) ⟨(ad410, cp411, ad412, cp413, ad414, cp415, ad416, cp417), rfl, S.mem.sel [0, 1, 2, 3, 4] [] (by decide) rfl rfl⟩)
    · refine fI 191 (.pointer (some ⟨bb0, 0, none⟩)) [(0, .pointer (some ⟨bb0, 0, none⟩))] 6 [none] rfl rfl rfl rfl rfl rfl fun G a w S => ?_
      refine sMove (.pointer (some ⟨bb0, 0, none⟩)) S (wN rfl) (.inl rfl) rfl rfl (lb rfl) fun a S => ?_
      exact leafL ⟨rfl, S⟩
    · refine fI 192 (.pointer (some ⟨bb0, 0, none⟩)) [(191, .pointer (some ⟨bb0, 0, none⟩))] 7 [some 6] rfl rfl rfl rfl rfl rfl fun G a w S => ?_
      refine nilCheck_ok (q := ⟨bb0, 0, none⟩) S (wN rfl) rfl rfl rfl (lb rfl) fun a S => ?_
      exact leafL ⟨rfl, S⟩
    · refine fI 193 (.pointer (some ⟨bb0, 0, none⟩)) [(192, .pointer (some ⟨bb0, 0, none⟩))] 8 [some 7] rfl rfl rfl rfl rfl rfl fun G a w S => ?_
      refine sField (b := bb0) (off := 0) 0 0 S (wN rfl) rfl rfl rfl rfl rfl (lb rfl) fun a S => ?_
      exact leafL ⟨rfl, S⟩
    · refine fI 194 (.slice ad97 p0.Loops.length cp98) [(193, .pointer (some ⟨bb0, 0, none⟩))] 9 [some 8] rfl rfl rfl rfl rfl rfl fun G a w S => ?_
      refine sLoad1 (p := bb0) (off := 0) (T := 77) (vs := [.slice ad97 p0.Loops.length cp98, .slice ad99 p0.Bound.length cp100, .slice ad101 p0.Cross.length cp102, .slice ad103 p0.Rows.length cp104]) 0 (.slice ad97 p0.Loops.length cp98) S (wN rfl) rfl rfl rfl rfl rfl rfl (lb rfl) fun a S => ?_
      exact leafL ⟨rfl, S⟩
    · refine fI 195 (.slice ad1 p4.length cp2) [(4, .slice ad1 p4.length cp2)] 10 [none] rfl rfl rfl rfl rfl rfl fun G a w S => ?_
      refine sMove (.slice ad1 p4.length cp2) S (wN rfl) (.inl rfl) rfl rfl (lb rfl) fun a S => ?_
      exact leafL ⟨rfl, S⟩
    · refine fI 196 q399 [(195, .slice ad1 p4.length cp2)] 11 [some 10] rfl rfl rfl rfl rfl rfl fun G a w S => ?_
      refine sIdxV (v := .slice ad1 p4.length cp2) (k := .i64) (j := 0) S (wN rfl) rfl rfl rfl hq400 rfl (lb rfl) fun a S => ?_
      exact leafL ⟨rfl, S⟩
    · refine fI 197 (iv x368) [(196, q399)] 12 [some 11] rfl rfl rfl rfl rfl rfl fun G a w S => ?_
      refine sLoadV1 (vq := q399) 0 (iv x368) S (wN rfl) rfl rfl rfl rfl rfl (lb rfl) fun a S => ?_
      exact leafL ⟨rfl, S⟩
    · refine fI 198 q402 [(194, .slice ad97 p0.Loops.length cp98), (197, iv x368)] 13 [some 9, some 12] rfl rfl rfl rfl rfl rfl fun G a w S => ?_
      refine sIdxV (v := .slice ad97 p0.Loops.length cp98) (k := .i64) (j := x368) S (wN rfl) rfl rfl rfl hq403 rfl (lb rfl) fun a S => ?_
      exact leafL ⟨rfl, S⟩
    · refine fI 199 q405 [(198, q402)] 14 [some 13] rfl rfl rfl rfl rfl rfl fun G a w S => ?_
      refine sFldV (q := q402) S (wN rfl) rfl rfl hq406 rfl (lb rfl) fun a S => ?_
      exact leafL ⟨rfl, S⟩
    refine fI 200 (.bool x378.Purl) [(199, q405)] 15 [some 14] rfl rfl rfl rfl rfl rfl fun G a w S => ?_
    refine sLoadF (r := r_api_Loop) (s := rB) (g := (·.Purl)) (T := 48) (xs := p0.Loops) (x := x378) (v := .slice ad97 p0.Loops.length cp98) (vq := q405) (j := x368) 2 3 (.bool x378.Purl) S hp407 (wN rfl) rfl rfl rfl hx379 comp_api_Loop_Purl (fun _ _ _ h => h) scal_B rfl rfl (lb rfl) fun a S => ?_
    exact leafL ⟨rfl, S⟩
  refine sCondT S rfl hc239 ?_
  obtain ⟨t252, h, g253⟩ := bindSome h
  refine sCut (fun a w => ∃ o240, ∃ o243, ∃ o246, ∃ o249, (o240, o243, o246, o249) = t252 ∧ ∃ ad241, ∃ cp242, ∃ ad244, ∃ cp245, ∃ ad247, ∃ cp248, ∃ ad250, ∃ cp251, St [] E (keysL [eBox bb0 77 [.slice ad_0_0 p0.Loops.length cp_0_0, .slice ad_0_1 p0.Bound.length cp_0_1, .slice ad_0_2 p0.Cross.length cp_0_2, .slice ad_0_3 p0.Rows.length cp_0_3], eRow r_api_Loop 48 (.slice ad_0_0 p0.Loops.length cp_0_0) p0.Loops, eRow (rI .i64) 3 (.slice ad_0_1 p0.Bound.length cp_0_1) p0.Bound, eRow r_A2_Int 49 (.slice ad_0_2 p0.Cross.length cp_0_2) p0.Cross, eRow (rI .i64) 3 (.slice ad_0_3 p0.Rows.length cp_0_3) p0.Rows]) w0 213 a w [(0, .pointer (some ⟨bb0, 0, none⟩)), (8, .pointer (some ⟨b4, 0, none⟩)), (10, iv (p0.Loops.length : Int))] [eBox bb0 77 [.slice ad241 o240.length cp242, .slice ad244 o243.length cp245, .slice ad247 o246.length cp248, .slice ad250 o249.length cp251], eBox b4 61 [.int .u8 p3.Kind, .bool p3.Purl, iv p3.A, iv p3.B], eRow r_api_Loop 48 (.slice ad241 o240.length cp242) o240, eRow (rI .i64) 3 (.slice ad244 o243.length cp245) o243, eRow r_A2_Int 49 (.slice ad247 o246.length cp248) o246, eRow (rI .i64) 3 (.slice ad250 o249.length cp251) o249] []) ?_ (fun a w hI => ?_)
  rotate_left
  · obtain ⟨o240, o243, o246, o249, rfl, ad241, cp242, ad244, cp245, ad247, cp248, ad250, cp251, S⟩ := hI
    have h := g253
    clear g253
    try dsimp only at h
    refine sSeq (fun K319 hK319 => ?_)
    refine sRegion ?_
    refine sMove (iv 0) S (wN rfl) (.inr rfl) rfl rfl (lb rfl) fun a S => ?_
    refine leafL (leafT (hK319 _ _ ?_))
    refine wp_block ?_
    obtain ⟨t326, hl, g325⟩ := bindSome h
    refine sLoop hl (fun s0 a w => match s0 with | (s320, s321) => ∃ ad322, ∃ cp323, St [] E (keysL [eBox bb0 77 [.slice ad_0_0 p0.Loops.length cp_0_0, .slice ad_0_1 p0.Bound.length cp_0_1, .slice ad_0_2 p0.Cross.length cp_0_2, .slice ad_0_3 p0.Rows.length cp_0_3], eRow r_api_Loop 48 (.slice ad_0_0 p0.Loops.length cp_0_0) p0.Loops, eRow (rI .i64) 3 (.slice ad_0_1 p0.Bound.length cp_0_1) p0.Bound, eRow r_A2_Int 49 (.slice ad_0_2 p0.Cross.length cp_0_2) p0.Cross, eRow (rI .i64) 3 (.slice ad_0_3 p0.Rows.length cp_0_3) p0.Rows]) w0 213 a w [(0, .pointer (some ⟨bb0, 0, none⟩)), (8, .pointer (some ⟨b4, 0, none⟩)), (10, iv (p0.Loops.length : Int)), (16, iv s320)] [eBox bb0 77 [.slice ad241 o240.length cp242, .slice ad244 o243.length cp245, .slice ad322 s321.length cp323, .slice ad250 o249.length cp251], eBox b4 61 [.int .u8 p3.Kind, .bool p3.Purl, iv p3.A, iv p3.B], eRow r_api_Loop 48 (.slice ad241 o240.length cp242) o240, eRow (rI .i64) 3 (.slice ad244 o243.length cp245) o243, eRow r_A2_Int 49 (.slice ad322 s321.length cp323) s321, eRow (rI .i64) 3 (.slice ad250 o249.length cp251) o249] []) ⟨ad247, cp248, S.fix [0, 1, 2, 3, 4, 5] [] (by decide) rfl rfl rfl⟩ ?_
    clear hl h
    intro s0 a w c0 hI h hu324
    obtain ⟨s320, s321⟩ := s0
    unfold raddleref27_Piece_cell_s1_l6 at h
    dsimp only at h hI
    obtain ⟨ad322, cp323, S⟩ := hI
    refine sSeq (fun K330 hK330 => ?_)
    refine sSeq (fun K331 hK331 => ?_)
    refine sRegion ?_
    refine sMove (iv s320) S (wN rfl) (.inl rfl) rfl rfl (lb rfl) fun a S => ?_
    refine sField (b := b4) (off := 0) 2 2 S (wN rfl) rfl rfl rfl rfl rfl (lb rfl) fun a S => ?_
    refine sLoad1 (p := b4) (off := 2) (T := 61) (vs := [.int .u8 p3.Kind, .bool p3.Purl, iv p3.A, iv p3.B]) 1 (iv p3.A) S (wN rfl) rfl rfl rfl rfl rfl rfl (lb rfl) fun a S => ?_
    refine sBin (.bool (decide (s320 < p3.A))) S (wN rfl) rfl rfl rfl (bLt _ _ _ _ .i64 s320 p3.A) rfl (lb rfl) fun a S => ?_
    refine leafL (leafT (hK331 _ _ ?_))
    rcases iteSome h with ⟨hc332, h⟩ | ⟨hc332, h⟩
    rotate_left
    · refine sCondF S rfl hc332 ?_
      obtain rfl := Option.some.inj h
      obtain rfl := hu324 _ rfl
      have h := g325
      clear g325
      try dsimp only at h
      obtain rfl := Option.some.inj h
      exact wp_exit (xThen (xThen (xHit (leafB (sEnd (.tuple #[]) S (rsl0 rfl ) ⟨(ad241, cp242, ad244, cp245, ad322, cp323, ad250, cp251), rfl, S.mem.sel [0, 2, 3, 4, 5] [] (by decide) rfl rfl⟩)))))
    refine sCondT S rfl hc332 ?_
    refine wp_skip (leafT (hK330 _ _ ?_))
    obtain ⟨t336, h, g337⟩ := bindSome h
    refine sCut (fun a w => ∃ o333, o333 = t336 ∧ ∃ ad334, ∃ cp335, St [] E (keysL [eBox bb0 77 [.slice ad_0_0 p0.Loops.length cp_0_0, .slice ad_0_1 p0.Bound.length cp_0_1, .slice ad_0_2 p0.Cross.length cp_0_2, .slice ad_0_3 p0.Rows.length cp_0_3], eRow r_api_Loop 48 (.slice ad_0_0 p0.Loops.length cp_0_0) p0.Loops, eRow (rI .i64) 3 (.slice ad_0_1 p0.Bound.length cp_0_1) p0.Bound, eRow r_A2_Int 49 (.slice ad_0_2 p0.Cross.length cp_0_2) p0.Cross, eRow (rI .i64) 3 (.slice ad_0_3 p0.Rows.length cp_0_3) p0.Rows]) w0 213 a w [(0, .pointer (some ⟨bb0, 0, none⟩)), (8, .pointer (some ⟨b4, 0, none⟩)), (10, iv (p0.Loops.length : Int)), (16, iv s320)] [eBox bb0 77 [.slice ad241 o240.length cp242, .slice ad244 o243.length cp245, .slice ad334 o333.length cp335, .slice ad250 o249.length cp251], eBox b4 61 [.int .u8 p3.Kind, .bool p3.Purl, iv p3.A, iv p3.B], eRow r_api_Loop 48 (.slice ad241 o240.length cp242) o240, eRow (rI .i64) 3 (.slice ad244 o243.length cp245) o243, eRow r_A2_Int 49 (.slice ad334 o333.length cp335) o333, eRow (rI .i64) 3 (.slice ad250 o249.length cp251) o249] []) ?_ (fun a w hI => ?_)
    rotate_left
    · obtain ⟨o333, rfl, ad334, cp335, S⟩ := hI
      have h := g337
      clear g337
      try dsimp only at h
      refine sRegion ?_
      refine sMove (iv s320) S (wN rfl) (.inl rfl) rfl rfl (lb rfl) fun a S => ?_
      refine sBin (iv (w64 (s320 + 1))) S (wN rfl) rfl rfl rfl (bAdd _ _ _ _ s320 1) rfl (lb rfl) fun a S => ?_
      refine sMove (iv (w64 (s320 + 1))) S (wN rfl) (.inr rfl) rfl rfl (lb rfl) fun a S => ?_
      exact leafL (leafT (⟨(w64 (s320 + 1), o333), (Option.some.inj h).symm, ⟨ad334, cp335, S.fix [0, 1, 2, 3, 4, 5] [] (by decide) rfl rfl rfl⟩⟩))
    refine wp_block ?_
    refine sSeq (fun K338 hK338 => ?_)
    refine sRegion ?_
    refine sMove (iv 0) S (wN rfl) (.inr rfl) rfl rfl (lb rfl) fun a S => ?_
    refine leafL (leafT (hK338 _ _ ?_))
    refine wp_block ?_
    obtain ⟨t345, hl, g344⟩ := bindSome h
    refine sLoop hl (fun s0 a w => match s0 with | (s339, s340) => ∃ ad341, ∃ cp342, St [] E (keysL [eBox bb0 77 [.slice ad_0_0 p0.Loops.length cp_0_0, .slice ad_0_1 p0.Bound.length cp_0_1, .slice ad_0_2 p0.Cross.length cp_0_2, .slice ad_0_3 p0.Rows.length cp_0_3], eRow r_api_Loop 48 (.slice ad_0_0 p0.Loops.length cp_0_0) p0.Loops, eRow (rI .i64) 3 (.slice ad_0_1 p0.Bound.length cp_0_1) p0.Bound, eRow r_A2_Int 49 (.slice ad_0_2 p0.Cross.length cp_0_2) p0.Cross, eRow (rI .i64) 3 (.slice ad_0_3 p0.Rows.length cp_0_3) p0.Rows]) w0 213 a w [(0, .pointer (some ⟨bb0, 0, none⟩)), (8, .pointer (some ⟨b4, 0, none⟩)), (10, iv (p0.Loops.length : Int)), (16, iv s320), (17, iv s339)] [eBox bb0 77 [.slice ad241 o240.length cp242, .slice ad244 o243.length cp245, .slice ad341 s340.length cp342, .slice ad250 o249.length cp251], eBox b4 61 [.int .u8 p3.Kind, .bool p3.Purl, iv p3.A, iv p3.B], eRow r_api_Loop 48 (.slice ad241 o240.length cp242) o240, eRow (rI .i64) 3 (.slice ad244 o243.length cp245) o243, eRow r_A2_Int 49 (.slice ad341 s340.length cp342) s340, eRow (rI .i64) 3 (.slice ad250 o249.length cp251) o249] []) ⟨ad322, cp323, S.fix [0, 1, 2, 3, 4, 5] [] (by decide) rfl rfl rfl⟩ ?_
    clear hl h
    intro s0 a w c0 hI h hu343
    obtain ⟨s339, s340⟩ := s0
    unfold raddleref27_Piece_cell_s1_l5 at h
    dsimp only at h hI
    obtain ⟨ad341, cp342, S⟩ := hI
    refine sSeq (fun K349 hK349 => ?_)
    refine sSeq (fun K350 hK350 => ?_)
    refine sRegion ?_
    refine sMove (iv s339) S (wN rfl) (.inl rfl) rfl rfl (lb rfl) fun a S => ?_
    refine sField (b := b4) (off := 0) 3 3 S (wN rfl) rfl rfl rfl rfl rfl (lb rfl) fun a S => ?_
    refine sLoad1 (p := b4) (off := 3) (T := 61) (vs := [.int .u8 p3.Kind, .bool p3.Purl, iv p3.A, iv p3.B]) 1 (iv p3.B) S (wN rfl) rfl rfl rfl rfl rfl rfl (lb rfl) fun a S => ?_
    refine sBin (.bool (decide (s339 < p3.B))) S (wN rfl) rfl rfl rfl (bLt _ _ _ _ .i64 s339 p3.B) rfl (lb rfl) fun a S => ?_
    refine leafL (leafT (hK350 _ _ ?_))
    rcases iteSome h with ⟨hc351, h⟩ | ⟨hc351, h⟩
    rotate_left
    · refine sCondF S rfl hc351 ?_
      obtain rfl := Option.some.inj h
      obtain rfl := hu343 _ rfl
      have h := g344
      clear g344
      try dsimp only at h
      exact wp_exit (xThen (xThen (xHit (leafB (leafT (⟨s340, Option.some.inj h, ad341, cp342, S.fix [0, 1, 2, 3, 4, 5] [] (by decide) rfl rfl rfl⟩))))))
    refine sCondT S rfl hc351 ?_
    refine wp_skip (leafT (hK349 _ _ ?_))
    refine sSeq (fun K352 hK352 => ?_)
    refine wp_block ?_
    refine sSeq (fun K353 hK353 => ?_)
    refine sRegion ?_
    refine sMove (iv (p0.Loops.length : Int)) S (wN rfl) (.inl rfl) rfl rfl (lb rfl) fun a S => ?_
    refine sField (b := b4) (off := 0) 3 3 S (wN rfl) rfl rfl rfl rfl rfl (lb rfl) fun a S => ?_
    refine sLoad1 (p := b4) (off := 3) (T := 61) (vs := [.int .u8 p3.Kind, .bool p3.Purl, iv p3.A, iv p3.B]) 1 (iv p3.B) S (wN rfl) rfl rfl rfl rfl rfl rfl (lb rfl) fun a S => ?_
    refine sBin (iv (w64 ((p0.Loops.length : Int) + p3.B))) S (wN rfl) rfl rfl rfl (bAdd _ _ _ _ (p0.Loops.length : Int) p3.B) rfl (lb rfl) fun a S => ?_
    refine sMove (iv s320) S (wN rfl) (.inl rfl) rfl rfl (lb rfl) fun a S => ?_
    refine sBin (iv (w64 ((w64 ((p0.Loops.length : Int) + p3.B)) + s320))) S (wN rfl) rfl rfl rfl (bAdd _ _ _ _ (w64 ((p0.Loops.length : Int) + p3.B)) s320) rfl (lb rfl) fun a S => ?_
    refine sMove (iv (p0.Loops.length : Int)) S (wN rfl) (.inl rfl) rfl rfl (lb rfl) fun a S => ?_
    refine sMove (iv s339) S (wN rfl) (.inl rfl) rfl rfl (lb rfl) fun a S => ?_
    refine sBin (iv (w64 ((p0.Loops.length : Int) + s339))) S (wN rfl) rfl rfl rfl (bAdd _ _ _ _ (p0.Loops.length : Int) s339) rfl (lb rfl) fun a S => ?_
    refine sMove (iv (w64 ((w64 ((p0.Loops.length : Int) + p3.B)) + s320))) S (wN rfl) (.inr rfl) rfl rfl (lb rfl) fun a S => ?_
    refine sMove (iv (w64 ((p0.Loops.length : Int) + s339))) S (wN rfl) (.inr rfl) rfl rfl (lb rfl) fun a S => ?_
    refine leafL (leafT (hK353 _ _ ?_))
    obtain ⟨t356, h, g357⟩ := bindSome h
    refine sCut (fun a w => ∃ o354, ∃ o355, (o354, o355) = t356 ∧ St [] E (keysL [eBox bb0 77 [.slice ad_0_0 p0.Loops.length cp_0_0, .slice ad_0_1 p0.Bound.length cp_0_1, .slice ad_0_2 p0.Cross.length cp_0_2, .slice ad_0_3 p0.Rows.length cp_0_3], eRow r_api_Loop 48 (.slice ad_0_0 p0.Loops.length cp_0_0) p0.Loops, eRow (rI .i64) 3 (.slice ad_0_1 p0.Bound.length cp_0_1) p0.Bound, eRow r_A2_Int 49 (.slice ad_0_2 p0.Cross.length cp_0_2) p0.Cross, eRow (rI .i64) 3 (.slice ad_0_3 p0.Rows.length cp_0_3) p0.Rows]) w0 213 a w [(0, .pointer (some ⟨bb0, 0, none⟩)), (8, .pointer (some ⟨b4, 0, none⟩)), (10, iv (p0.Loops.length : Int)), (16, iv s320), (17, iv s339), (18, iv o354), (19, iv o355)] [eBox bb0 77 [.slice ad241 o240.length cp242, .slice ad244 o243.length cp245, .slice ad341 s340.length cp342, .slice ad250 o249.length cp251], eBox b4 61 [.int .u8 p3.Kind, .bool p3.Purl, iv p3.A, iv p3.B], eRow r_api_Loop 48 (.slice ad241 o240.length cp242) o240, eRow (rI .i64) 3 (.slice ad244 o243.length cp245) o243, eRow r_A2_Int 49 (.slice ad341 s340.length cp342) s340, eRow (rI .i64) 3 (.slice ad250 o249.length cp251) o249] []) ?_ (fun a w hI => ?_)
    · refine sSeq (fun K358 hK358 => ?_)
      refine sRegion ?_
      refine sField (b := b4) (off := 0) 0 0 S (wN rfl) rfl rfl rfl rfl rfl (lb rfl) fun a S => ?_
      refine sLoad1 (p := b4) (off := 0) (T := 61) (vs := [.int .u8 p3.Kind, .bool p3.Purl, iv p3.A, iv p3.B]) 1 (.int .u8 p3.Kind) S (wN rfl) rfl rfl rfl rfl rfl rfl (lb rfl) fun a S => ?_
      refine sBin (.bool (p3.Kind == 7)) S (wN rfl) rfl rfl rfl (bEq _ _ _ _ .u8 p3.Kind 7) rfl (lb rfl) fun a S => ?_
      refine leafL (leafT (hK358 _ _ ?_))
      rcases iteSome h with ⟨hc359, h⟩ | ⟨hc359, h⟩
      rotate_left
      · refine sCondF S rfl hc359 ?_
        exact wp_skip (leafT (⟨w64 ((w64 ((p0.Loops.length : Int) + p3.B)) + s320), w64 ((p0.Loops.length : Int) + s339), Option.some.inj h, S.fix [0, 1, 2, 3, 4, 5] [] (by decide) rfl rfl rfl⟩))
      refine sCondT S rfl hc359 ?_
      refine sRegion ?_
      refine sMove (iv (w64 ((p0.Loops.length : Int) + s339))) S (wN rfl) (.inl rfl) rfl rfl (lb rfl) fun a S => ?_
      refine sMove (iv (w64 ((w64 ((p0.Loops.length : Int) + p3.B)) + s320))) S (wN rfl) (.inl rfl) rfl rfl (lb rfl) fun a S => ?_
      refine sMove (iv (w64 ((p0.Loops.length : Int) + s339))) S (wN rfl) (.inr rfl) rfl rfl (lb rfl) fun a S => ?_
      refine sMove (iv (w64 ((w64 ((p0.Loops.length : Int) + p3.B)) + s320))) S (wN rfl) (.inr rfl) rfl rfl (lb rfl) fun a S => ?_
      exact leafL (leafT (⟨w64 ((p0.Loops.length : Int) + s339), w64 ((w64 ((p0.Loops.length : Int) + p3.B)) + s320), Option.some.inj h, S.fix [0, 1, 2, 3, 4, 5] [] (by decide) rfl rfl rfl⟩))
    obtain ⟨o354, o355, rfl, S⟩ := hI
    have h := g357
    clear g357
    try dsimp only at h
    refine sRegion ?_
    refine sMove (.pointer (some ⟨bb0, 0, none⟩)) S (wN rfl) (.inl rfl) rfl rfl (lb rfl) fun a S => ?_
    refine sMove (.pointer (some ⟨bb0, 0, none⟩)) S (wN rfl) (.inl rfl) rfl rfl (lb rfl) fun a S => ?_
    refine nilCheck_ok (q := ⟨bb0, 0, none⟩) S (wN rfl) rfl rfl rfl (lb rfl) fun a S => ?_
    refine sField (b := bb0) (off := 0) 2 2 S (wN rfl) rfl rfl rfl rfl rfl (lb rfl) fun a S => ?_
    refine sLoad1 (p := bb0) (off := 2) (T := 77) (vs := [.slice ad241 o240.length cp242, .slice ad244 o243.length cp245, .slice ad341 s340.length cp342, .slice ad250 o249.length cp251]) 0 (.slice ad341 s340.length cp342) S (wN rfl) rfl rfl rfl rfl rfl rfl (lb rfl) fun a S => ?_
    refine sMove (iv o354) S (wN rfl) (.inl rfl) rfl rfl (lb rfl) fun a S => ?_
    refine sMove (iv o355) S (wN rfl) (.inl rfl) rfl rfl (lb rfl) fun a S => ?_
    refine sBuild [(0, iv o354), (1, iv o355)] [iv o354, iv o355] S (wN rfl) rfl rfl rfl rfl (lb rfl) fun a S => ?_
    have S := S.learn (fRep r_A2_Int (.agg #[iv o354, iv o355]) (o354, o355)) rfl
    refine sLit (r := r_A2_Int) (T := 49) (xs := [(o354, o355)]) [(0, .agg #[iv o354, iv o355])] 1 [.agg #[iv o354, iv o355]] [iv o354, iv o355] (.agg #[iv 0, iv 0]) 16 S (wN rfl) rfl rfl Try.underlying37 rfl (by decide) (by decide) (by kernel_rfl) rfl (fun E1 w1 hE => All.cons (r_A2_Int.mono hE (S.mem.know (i := 0) (e := fRep r_A2_Int (.agg #[iv o354, iv o355]) (o354, o355)) rfl)) (All.nil _ _ _)) rfl rfl (lb rfl) fun a w ad360 cp361 S => ?_
    obtain ⟨l362, hx363, h⟩ := bindSome h
    refine sApp (r := r_A2_Int) (T := 49) (xs := s340) (ys := [(o354, o355)]) (v := .slice ad341 s340.length cp342) (u := .slice ad360 [(o354, o355)].length cp361) 5 (.agg #[iv 0, iv 0]) 16 S (wN rfl) rfl Try.underlying37 rfl rfl (by decide) rfl rfl rfl (src_R (T := 49) 0 S.mem rfl) hx363 rfl (lb rfl) fun a w ad364 cp365 S => ?_
    refine nilCheck_ok (q := ⟨bb0, 0, none⟩) S (wN rfl) rfl rfl rfl (lb rfl) fun a S => ?_
    refine sField (b := bb0) (off := 0) 2 2 S (wN rfl) rfl rfl rfl rfl rfl (lb rfl) fun a S => ?_
    refine sStore (p := bb0) (off := 2) (T := 77) (vs := [.slice ad241 o240.length cp242, .slice ad244 o243.length cp245, .slice ad341 s340.length cp342, .slice ad250 o249.length cp251]) (v := .slice ad364 l362.length cp365) 2 [.slice ad364 l362.length cp365] S (wN rfl) rfl rfl rfl rfl rfl rfl rfl (by simp) rfl fun a w S => ?_
    refine leafL (leafB (leafT (hK352 _ _ ?_)))
    refine sRegion ?_
    refine sMove (iv s339) S (wN rfl) (.inl rfl) rfl rfl (lb rfl) fun a S => ?_
    refine sBin (iv (w64 (s339 + 1))) S (wN rfl) rfl rfl rfl (bAdd _ _ _ _ s339 1) rfl (lb rfl) fun a S => ?_
    refine sMove (iv (w64 (s339 + 1))) S (wN rfl) (.inr rfl) rfl rfl (lb rfl) fun a S => ?_
    exact leafL (leafT (⟨(w64 (s339 + 1), l362), (Option.some.inj h).symm, ⟨ad364, cp365, S.fix [0, 3, 4, 5, 1, 6] [] (by decide) rfl rfl rfl⟩⟩))
  refine sSeq (fun K254 hK254 => ?_)
  refine sRegion ?_
  refine sMove (iv 0) S (wN rfl) (.inr rfl) rfl rfl (lb rfl) fun a S => ?_
  refine leafL (leafT (hK254 _ _ ?_))
  refine wp_block ?_
  obtain ⟨t270, hl, g269⟩ := bindSome h
  refine sLoop hl (fun s0 a w => match s0 with | (s255, s256, s259, s262, s265) => ∃ ad257, ∃ cp258, ∃ ad260, ∃ cp261, ∃ ad263, ∃ cp264, ∃ ad266, ∃ cp267, St [] E (keysL [eBox bb0 77 [.slice ad_0_0 p0.Loops.length cp_0_0, .slice ad_0_1 p0.Bound.length cp_0_1, .slice ad_0_2 p0.Cross.length cp_0_2, .slice ad_0_3 p0.Rows.length cp_0_3], eRow r_api_Loop 48 (.slice ad_0_0 p0.Loops.length cp_0_0) p0.Loops, eRow (rI .i64) 3 (.slice ad_0_1 p0.Bound.length cp_0_1) p0.Bound, eRow r_A2_Int 49 (.slice ad_0_2 p0.Cross.length cp_0_2) p0.Cross, eRow (rI .i64) 3 (.slice ad_0_3 p0.Rows.length cp_0_3) p0.Rows]) w0 213 a w [(0, .pointer (some ⟨bb0, 0, none⟩)), (1, iv p1), (2, iv p2), (4, .slice ad1 p4.length cp2), (8, .pointer (some ⟨b4, 0, none⟩)), (10, iv (p0.Loops.length : Int)), (15, iv s255)] [eBox bb0 77 [.slice ad257 s256.length cp258, .slice ad260 s259.length cp261, .slice ad263 s262.length cp264, .slice ad266 s265.length cp267], eBox b4 61 [.int .u8 p3.Kind, .bool p3.Purl, iv p3.A, iv p3.B], eRow r_api_Loop 48 (.slice ad257 s256.length cp258) s256, eRow (rI .i64) 3 (.slice ad260 s259.length cp261) s259, eRow r_A2_Int 49 (.slice ad263 s262.length cp264) s262, eRow (rI .i64) 3 (.slice ad266 s265.length cp267) s265] [fRep (rL (rI .i64)) (.slice ad1 p4.length cp2) p4]) ⟨ad97, cp98, ad99, cp100, ad101, cp102, ad103, cp104, S.fix [0, 1, 2, 3, 4, 5] [0] (by decide) rfl rfl rfl⟩ ?_
  clear hl h
  intro s0 a w c0 hI h hu268
  obtain ⟨s255, s256, s259, s262, s265⟩ := s0
  unfold raddleref27_Piece_cell_s1_l4 at h
  dsimp only at h hI
  obtain ⟨ad257, cp258, ad260, cp261, ad263, cp264, ad266, cp267, S⟩ := hI
  refine sSeq (fun K283 hK283 => ?_)
  refine sSeq (fun K284 hK284 => ?_)
  refine sRegion ?_
  refine sMove (iv s255) S (wN rfl) (.inl rfl) rfl rfl (lb rfl) fun a S => ?_
  refine sField (b := b4) (off := 0) 2 2 S (wN rfl) rfl rfl rfl rfl rfl (lb rfl) fun a S => ?_
  refine sLoad1 (p := b4) (off := 2) (T := 61) (vs := [.int .u8 p3.Kind, .bool p3.Purl, iv p3.A, iv p3.B]) 1 (iv p3.A) S (wN rfl) rfl rfl rfl rfl rfl rfl (lb rfl) fun a S => ?_
  refine sField (b := b4) (off := 0) 3 3 S (wN rfl) rfl rfl rfl rfl rfl (lb rfl) fun a S => ?_
  refine sLoad1 (p := b4) (off := 3) (T := 61) (vs := [.int .u8 p3.Kind, .bool p3.Purl, iv p3.A, iv p3.B]) 1 (iv p3.B) S (wN rfl) rfl rfl rfl rfl rfl rfl (lb rfl) fun a S => ?_
  refine sBin (iv (w64 (p3.A + p3.B))) S (wN rfl) rfl rfl rfl (bAdd _ _ _ _ p3.A p3.B) rfl (lb rfl) fun a S => ?_
  refine sBin (.bool (decide (s255 < (w64 (p3.A + p3.B))))) S (wN rfl) rfl rfl rfl (bLt _ _ _ _ .i64 s255 (w64 (p3.A + p3.B))) rfl (lb rfl) fun a S => ?_
  refine leafL (leafT (hK284 _ _ ?_))
  rcases iteSome h with ⟨hc285, h⟩ | ⟨hc285, h⟩
  rotate_left
  · refine sCondF S rfl hc285 ?_
    obtain rfl := Option.some.inj h
    obtain rfl := hu268 _ rfl
    have h := g269
    clear g269
    try dsimp only at h
    exact wp_exit (xThen (xThen (xHit (leafT (⟨s256, s259, s262, s265, Option.some.inj h, ad257, cp258, ad260, cp261, ad263, cp264, ad266, cp267, S.fix [0, 1, 2, 3, 4, 5] [] (by decide) rfl rfl rfl⟩)))))
  refine sCondT S rfl hc285 ?_
  refine wp_skip (leafT (hK283 _ _ ?_))
  refine sSeq (fun K286 hK286 => ?_)
  refine wp_block ?_
  obtain ⟨z287, hx288, h⟩ := bindSome h
  obtain ⟨x289, hx290, h⟩ := bindSome h
  obtain ⟨r296, hx297, h⟩ := bindSome h
  obtain ⟨q306, hq307, S⟩ := pIdx (P := Try.prog) (r := (rI .i64)) (v := .slice ad1 p4.length cp2) (xs := p4) (j := z287) 32 3 0 S Try.underlying32 rfl rfl hx290
  obtain ⟨u308, S⟩ := pLoad (r := (rI .i64)) (q := q306) (x := x289) 0 S rfl
  obtain rfl : u308 = iv x289 := S.mem.know (i := 1) (e := fRep (rI .i64) (u308) x289) rfl
  refine sDraw (nf := [16, 19]) (W := [(0, 124, .pointer (some ⟨bb0, 0, none⟩)), (1, 125, iv p1), (2, 126, iv p2), (3, 127, .slice ad1 p4.length cp2), (4, 128, .pointer (some ⟨b4, 2, none⟩)), (5, 129, iv p3.A), (6, 130, iv s255), (7, 131, iv (w64 (p3.A + s255))), (8, 132, .pointer (some ⟨b4, 2, none⟩)), (9, 133, iv p3.A), (10, 134, .pointer (some ⟨b4, 3, none⟩)), (11, 135, iv p3.B), (12, 136, iv (w64 (p3.A + p3.B))), (13, 137, iv z287), (14, 138, q306), (15, 139, iv x289), (17, 141, .pointer (some ⟨b4, 1, none⟩)), (18, 142, .bool p3.Purl)]) rfl S ?_
  refine node_by (A := anc_raddleref27_Piece_cell_s1_1) (nf := [16, 19]) (Y := []) (W := [(0, 124, .pointer (some ⟨bb0, 0, none⟩)), (1, 125, iv p1), (2, 126, iv p2), (3, 127, .slice ad1 p4.length cp2), (4, 128, .pointer (some ⟨b4, 2, none⟩)), (5, 129, iv p3.A), (6, 130, iv s255), (7, 131, iv (w64 (p3.A + s255))), (8, 132, .pointer (some ⟨b4, 2, none⟩)), (9, 133, iv p3.A), (10, 134, .pointer (some ⟨b4, 3, none⟩)), (11, 135, iv p3.B), (12, 136, iv (w64 (p3.A + p3.B))), (13, 137, iv z287), (14, 138, q306), (15, 139, iv x289), (17, 141, .pointer (some ⟨b4, 1, none⟩)), (18, 142, .bool p3.Purl)]) 20 (by kernel_rfl) (by kernel_rfl) (by kernel_rfl) (by kernel_rfl) (by kernel_rfl) [0, 1, 2, 3, 4, 5, 6, 7, 8, 9, 10, 11, 12, 13, 14, 15, 17, 18] (by kernel_rfl) (by decide) (by decide) (aF 0 19 (by decide) ?_ (aF 1 18 (by decide) ?_ (aF 2 17 (by decide) ?_ (aF 3 16 (by decide) ?_ (aF 4 15 (by decide) ?_ (aF 5 14 (by decide) ?_ (aF 6 13 (by decide) ?_ (aF 7 12 (by decide) ?_ (aF 8 11 (by decide) ?_ (aF 9 10 (by decide) ?_ (aF 10 9 (by decide) ?_ (aF 11 8 (by decide) ?_ (aF 12 7 (by decide) ?_ (aF 13 6 (by decide) ?_ (aF 14 5 (by decide) ?_ (aF 15 4 (by decide) ?_ (aN 16 3 (by decide) ?_ (aF 17 2 (by decide) ?_ (aF 18 1 (by decide) ?_ (aB 19 0 16 (by decide) (trivial))))))))))))))))))))) [] (fun q hq => by cases hq) (fun hY => absurd (hY 16 (by decide)) (by decide))
  · refine fI 124 (.pointer (some ⟨bb0, 0, none⟩)) [(0, .pointer (some ⟨bb0, 0, none⟩))] 0 [none] rfl rfl rfl rfl rfl rfl fun G a w S => ?_
    refine sMove (.pointer (some ⟨bb0, 0, none⟩)) S (wN rfl) (.inl rfl) rfl rfl (lb rfl) fun a S => ?_
    exact leafL ⟨rfl, S⟩
  · refine fI 125 (iv p1) [(1, iv p1)] 1 [none] rfl rfl rfl rfl rfl rfl fun G a w S => ?_
    refine sMove (iv p1) S (wN rfl) (.inl rfl) rfl rfl (lb rfl) fun a S => ?_
    exact leafL ⟨rfl, S⟩
  · refine fI 126 (iv p2) [(2, iv p2)] 2 [none] rfl rfl rfl rfl rfl rfl fun G a w S => ?_
    refine sMove (iv p2) S (wN rfl) (.inl rfl) rfl rfl (lb rfl) fun a S => ?_
    exact leafL ⟨rfl, S⟩
  · refine fI 127 (.slice ad1 p4.length cp2) [(4, .slice ad1 p4.length cp2)] 3 [none] rfl rfl rfl rfl rfl rfl fun G a w S => ?_
    refine sMove (.slice ad1 p4.length cp2) S (wN rfl) (.inl rfl) rfl rfl (lb rfl) fun a S => ?_
    exact leafL ⟨rfl, S⟩
  · refine fI 128 (.pointer (some ⟨b4, 2, none⟩)) [(8, .pointer (some ⟨b4, 0, none⟩))] 4 [none] rfl rfl rfl rfl rfl rfl fun G a w S => ?_
    refine sField (b := b4) (off := 0) 2 2 S (wN rfl) rfl rfl rfl rfl rfl (lb rfl) fun a S => ?_
    exact leafL ⟨rfl, S⟩
  · refine fI 129 (iv p3.A) [(128, .pointer (some ⟨b4, 2, none⟩))] 5 [some 4] rfl rfl rfl rfl rfl rfl fun G a w S => ?_
    refine sLoad1 (p := b4) (off := 2) (T := 61) (vs := [.int .u8 p3.Kind, .bool p3.Purl, iv p3.A, iv p3.B]) 1 (iv p3.A) S (wN rfl) rfl rfl rfl rfl rfl rfl (lb rfl) fun a S => ?_
    exact leafL ⟨rfl, S⟩
  · refine fI 130 (iv s255) [(15, iv s255)] 6 [none] rfl rfl rfl rfl rfl rfl fun G a w S => ?_
    refine sMove (iv s255) S (wN rfl) (.inl rfl) rfl rfl (lb rfl) fun a S => ?_
    exact leafL ⟨rfl, S⟩
  · refine fI 131 (iv (w64 (p3.A + s255))) [(129, iv p3.A), (130, iv s255)] 7 [some 5, some 6] rfl rfl rfl rfl rfl rfl fun G a w S => ?_
    refine sBin (iv (w64 (p3.A + s255))) S (wN rfl) rfl rfl rfl (bAdd _ _ _ _ p3.A s255) rfl (lb rfl) fun a S => ?_
    exact leafL ⟨rfl, S⟩
  · refine fI 132 (.pointer (some ⟨b4, 2, none⟩)) [(8, .pointer (some ⟨b4, 0, none⟩))] 8 [none] rfl rfl rfl rfl rfl rfl fun G a w S => ?_
    refine sField (b := b4) (off := 0) 2 2 S (wN rfl) rfl rfl rfl rfl rfl (lb rfl) fun a S => ?_
    exact leafL ⟨rfl, S⟩
  · refine fI 133 (iv p3.A) [(132, .pointer (some ⟨b4, 2, none⟩))] 9 [some 8] rfl rfl rfl rfl rfl rfl fun G a w S => ?_
    refine sLoad1 (p := b4) (off := 2) (T := 61) (vs := [.int .u8 p3.Kind, .bool p3.Purl, iv p3.A, iv p3.B]) 1 (iv p3.A) S (wN rfl) rfl rfl rfl rfl rfl rfl (lb rfl) fun a S => ?_
    exact leafL ⟨rfl, S⟩
  · refine fI 134 (.pointer (some ⟨b4, 3, none⟩)) [(8, .pointer (some ⟨b4, 0, none⟩))] 10 [none] rfl rfl rfl rfl rfl rfl fun G a w S => ?_
    refine sField (b := b4) (off := 0) 3 3 S (wN rfl) rfl rfl rfl rfl rfl (lb rfl) fun a S => ?_
    exact leafL ⟨rfl, S⟩
  · refine fI 135 (iv p3.B) [(134, .pointer (some ⟨b4, 3, none⟩))] 11 [some 10] rfl rfl rfl rfl rfl rfl fun G a w S => ?_
    refine sLoad1 (p := b4) (off := 3) (T := 61) (vs := [.int .u8 p3.Kind, .bool p3.Purl, iv p3.A, iv p3.B]) 1 (iv p3.B) S (wN rfl) rfl rfl rfl rfl rfl rfl (lb rfl) fun a S => ?_
    exact leafL ⟨rfl, S⟩
  · refine fI 136 (iv (w64 (p3.A + p3.B))) [(133, iv p3.A), (135, iv p3.B)] 12 [some 9, some 11] rfl rfl rfl rfl rfl rfl fun G a w S => ?_
    refine sBin (iv (w64 (p3.A + p3.B))) S (wN rfl) rfl rfl rfl (bAdd _ _ _ _ p3.A p3.B) rfl (lb rfl) fun a S => ?_
    exact leafL ⟨rfl, S⟩
  · refine fI 137 (iv z287) [(131, iv (w64 (p3.A + s255))), (136, iv (w64 (p3.A + p3.B)))] 13 [some 7, some 12] rfl rfl rfl rfl rfl rfl fun G a w S => ?_
    refine sBin (iv z287) S (wN rfl) rfl rfl rfl (bRem _ _ _ _ (x := w64 (p3.A + s255)) (y := w64 (p3.A + p3.B)) hx288) rfl (lb rfl) fun a S => ?_
    exact leafL ⟨rfl, S⟩
  · refine fI 138 q306 [(127, .slice ad1 p4.length cp2), (137, iv z287)] 14 [some 3, some 13] rfl rfl rfl rfl rfl rfl fun G a w S => ?_
    refine sIdxV (v := .slice ad1 p4.length cp2) (k := .i64) (j := z287) S (wN rfl) rfl rfl rfl hq307 rfl (lb rfl) fun a S => ?_
    exact leafL ⟨rfl, S⟩
  · refine fI 139 (iv x289) [(138, q306)] 15 [some 14] rfl rfl rfl rfl rfl rfl fun G a w S => ?_
    refine sLoadV1 (vq := q306) 0 (iv x289) S (wN rfl) rfl rfl rfl rfl rfl (lb rfl) fun a S => ?_
    exact leafL ⟨rfl, S⟩
  · refine ⟨_, [(139, iv x289)], rfl, (srcs_of [some 15] rfl rfl rfl), fun G a w S => ?_⟩
    refine sLit (r := (rI .i64)) (T := 3) (xs := ([x289] : List Int)) [(0, iv x289)] 1 [iv x289] [iv x289] (iv 0) 8 S (wN rfl) rfl rfl Try.underlying32 rfl (by decide) (by decide) (by kernel_rfl) rfl (fun E1 w1 hE => All.cons rfl (All.nil _ _ _)) rfl rfl (lb rfl) fun a w ad309 cp310 S => ?_
    refine leafL ⟨rfl, _, _, .inl ⟨140, (.slice ad309 ([x289] : List Int).length cp310), [], rfl, S, hz_of rfl, ?_⟩⟩
    refine node_by (A := anc_raddleref27_Piece_cell_s1_1) (nf := [16, 19]) (Y := [16]) 20 (by kernel_rfl) (by kernel_rfl) (by kernel_rfl) (by kernel_rfl) (by kernel_rfl) [16, 0, 1, 2, 3, 4, 5, 6, 7, 8, 9, 10, 11, 12, 13, 14, 15, 17, 18] (by kernel_rfl) (by decide) (by decide) (aF 0 19 (by decide) ?_ (aF 1 18 (by decide) ?_ (aF 2 17 (by decide) ?_ (aD 3 16 16 (by decide) (aD 4 15 16 (by decide) (aD 5 14 16 (by decide) (aD 6 13 16 (by decide) (aD 7 12 16 (by decide) (aD 8 11 16 (by decide) (aD 9 10 16 (by decide) (aD 10 9 16 (by decide) (aD 11 8 16 (by decide) (aD 12 7 16 (by decide) (aD 13 6 16 (by decide) (aD 14 5 16 (by decide) (aD 15 4 16 (by decide) (aY 16 3 (by decide) (aF 17 2 (by decide) ?_ (aF 18 1 (by decide) ?_ (aN 19 0 (by decide) ?_ (trivial))))))))))))))))))))) [] (fun q hq => by cases hq) (fun hY => absurd (hY 19 (by decide)) (by decide))
    · refine fI 124 (.pointer (some ⟨bb0, 0, none⟩)) [(0, .pointer (some ⟨bb0, 0, none⟩))] 1 [none] rfl rfl rfl rfl rfl rfl fun G a w S => ?_
      refine sMove (.pointer (some ⟨bb0, 0, none⟩)) S (wN rfl) (.inl rfl) rfl rfl (lb rfl) fun a S => ?_
      exact leafL ⟨rfl, S⟩
    · refine fI 125 (iv p1) [(1, iv p1)] 2 [none] rfl rfl rfl rfl rfl rfl fun G a w S => ?_
      refine sMove (iv p1) S (wN rfl) (.inl rfl) rfl rfl (lb rfl) fun a S => ?_
      exact leafL ⟨rfl, S⟩
    · refine fI 126 (iv p2) [(2, iv p2)] 3 [none] rfl rfl rfl rfl rfl rfl fun G a w S => ?_
      refine sMove (iv p2) S (wN rfl) (.inl rfl) rfl rfl (lb rfl) fun a S => ?_
      exact leafL ⟨rfl, S⟩
    · refine fI 141 (.pointer (some ⟨b4, 1, none⟩)) [(8, .pointer (some ⟨b4, 0, none⟩))] 17 [none] rfl rfl rfl rfl rfl rfl fun G a w S => ?_
      refine sField (b := b4) (off := 0) 1 1 S (wN rfl) rfl rfl rfl rfl rfl (lb rfl) fun a S => ?_
      exact leafL ⟨rfl, S⟩
    · refine fI 142 (.bool p3.Purl) [(141, .pointer (some ⟨b4, 1, none⟩))] 18 [some 17] rfl rfl rfl rfl rfl rfl fun G a w S => ?_
      refine sLoad1 (p := b4) (off := 1) (T := 61) (vs := [.int .u8 p3.Kind, .bool p3.Purl, iv p3.A, iv p3.B]) 2 (.bool p3.Purl) S (wN rfl) rfl rfl rfl rfl rfl rfl (lb rfl) fun a S => ?_
      exact leafL ⟨rfl, S⟩
    refine ⟨_, [(124, .pointer (some ⟨bb0, 0, none⟩)), (125, iv p1), (126, iv p2), (140, .slice ad309 ([x289] : List Int).length cp310), (142, .bool p3.Purl)], rfl, (srcs_of [some 1, some 2, some 3, some 0, some 18] rfl rfl rfl), fun G a w S => ?_⟩
    have S := S.shutR (r := (rI .i64)) (T := 3) (v := .slice ad309 ([x289] : List Int).length cp310) (xs := ([x289] : List Int)) 0 rfl
    refine sCall (X := Option Addr × Nat × Option Addr × Nat × Option Addr × Nat × Option Addr × Nat) (f := 45) (vs := [.pointer (some ⟨bb0, 0, none⟩), iv p1, iv p2, .slice ad309 ([x289] : List Int).length cp310, .bool p3.Purl]) (val := fun _ => .tuple #[]) (B' := fun x => [eBox bb0 77 [.slice x.1 r296.Loops.length x.2.1, .slice x.2.2.1 r296.Bound.length x.2.2.2.1, .slice x.2.2.2.2.1 r296.Cross.length x.2.2.2.2.2.1, .slice x.2.2.2.2.2.2.1 r296.Rows.length x.2.2.2.2.2.2.2], eRow r_api_Loop 48 (.slice x.1 r296.Loops.length x.2.1) r296.Loops, eRow (rI .i64) 3 (.slice x.2.2.1 r296.Bound.length x.2.2.2.1) r296.Bound, eRow r_A2_Int 49 (.slice x.2.2.2.2.1 r296.Cross.length x.2.2.2.2.2.1) r296.Cross, eRow (rI .i64) 3 (.slice x.2.2.2.2.2.2.1 r296.Rows.length x.2.2.2.2.2.2.2) r296.Rows]) (D' := fun _ => []) [eBox bb0 77 [.slice ad257 s256.length cp258, .slice ad260 s259.length cp261, .slice ad263 s262.length cp264, .slice ad266 s265.length cp267], eRow r_api_Loop 48 (.slice ad257 s256.length cp258) s256, eRow (rI .i64) 3 (.slice ad260 s259.length cp261) s259, eRow r_A2_Int 49 (.slice ad263 s262.length cp264) s262, eRow (rI .i64) 3 (.slice ad266 s265.length cp267) s265] [eBox b4 61 [.int .u8 p3.Kind, .bool p3.Purl, iv p3.A, iv p3.B]] [fRep (rL (rI .i64)) (.slice ad309 ([x289] : List Int).length cp310) ([x289] : List Int)] [0, 2, 3, 4, 5, 1] [0] S (wN rfl) rfl callee45 rfl (by decide) rfl rfl (fun E1 w1 S1 => c_raddleref27_Piece_put_s1 E1 w1 (raddleref27_Piece.mk s256 s259 s262 s265) bb0 ad257 cp258 ad260 cp261 ad263 cp264 ad266 cp267 p1 p2 ([x289] : List Int) (.slice ad309 ([x289] : List Int).length cp310) p3.Purl r296 hx297 S1) rfl (lb rfl) fun xx a w S => ?_
    obtain ⟨ad311, cp312, ad313, cp314, ad315, cp316, ad317, cp318⟩ := xx
    dsimp only at S
    refine leafL ⟨rfl, _, _, .inl ⟨143, (.tuple #[]), [], rfl, S, hz_of rfl, ?_⟩⟩
    refine node_by (A := anc_raddleref27_Piece_cell_s1_1) (nf := [16, 19]) (Y := [19, 16]) 20 (by kernel_rfl) (by kernel_rfl) (by kernel_rfl) (by kernel_rfl) (by kernel_rfl) [19, 16, 0, 1, 2, 3, 4, 5, 6, 7, 8, 9, 10, 11, 12, 13, 14, 15, 17, 18] (by kernel_rfl) (by decide) (by decide) (aD 0 19 19 (by decide) (aD 1 18 19 (by decide) (aD 2 17 19 (by decide) (aD 3 16 19 (by decide) (aD 4 15 19 (by decide) (aD 5 14 19 (by decide) (aD 6 13 19 (by decide) (aD 7 12 19 (by decide) (aD 8 11 19 (by decide) (aD 9 10 19 (by decide) (aD 10 9 19 (by decide) (aD 11 8 19 (by decide) (aD 12 7 19 (by decide) (aD 13 6 19 (by decide) (aD 14 5 19 (by decide) (aD 15 4 19 (by decide) (aY 16 3 (by decide) (aD 17 2 19 (by decide) (aD 18 1 19 (by decide) (aY 19 0 (by decide) (trivial))))))))))))))))))))) [(0, .pointer (some ⟨bb0, 0, none⟩)), (1, iv p1), (2, iv p2), (4, .slice ad1 p4.length cp2), (8, .pointer (some ⟨b4, 0, none⟩)), (10, iv (p0.Loops.length : Int)), (15, iv s255)] (fin_of [none, none, none, none, none, none, none] rfl (by kernel_rfl) (by kernel_rfl)) (fun _ a w S => ?_)
    refine leafB (leafT (hK286 _ _ ?_))
    refine sRegion ?_
    refine sMove (iv s255) S (wN rfl) (.inl rfl) rfl rfl (lb rfl) fun a S => ?_
    refine sBin (iv (w64 (s255 + 1))) S (wN rfl) rfl rfl rfl (bAdd _ _ _ _ s255 1) rfl (lb rfl) fun a S => ?_
    refine sMove (iv (w64 (s255 + 1))) S (wN rfl) (.inr rfl) rfl rfl (lb rfl) fun a S => ?_
    exact leafL (leafT (⟨(w64 (s255 + 1), r296.Loops, r296.Bound, r296.Cross, r296.Rows), (Option.some.inj h).symm, ⟨ad311, cp312, ad313, cp314, ad315, cp316, ad317, cp318, S.fix [0, 5, 1, 2, 3, 4] [4] (by decide) rfl rfl rfl⟩⟩))
  · refine fI 141 (.pointer (some ⟨b4, 1, none⟩)) [(8, .pointer (some ⟨b4, 0, none⟩))] 16 [none] rfl rfl rfl rfl rfl rfl fun G a w S => ?_
    refine sField (b := b4) (off := 0) 1 1 S (wN rfl) rfl rfl rfl rfl rfl (lb rfl) fun a S => ?_
    exact leafL ⟨rfl, S⟩
  refine fI 142 (.bool p3.Purl) [(141, .pointer (some ⟨b4, 1, none⟩))] 17 [some 16] rfl rfl rfl rfl rfl rfl fun G a w S => ?_
  refine sLoad1 (p := b4) (off := 1) (T := 61) (vs := [.int .u8 p3.Kind, .bool p3.Purl, iv p3.A, iv p3.B]) 1 (.bool p3.Purl) S (wN rfl) rfl rfl rfl rfl rfl rfl (lb rfl) fun a S => ?_
  exact leafL ⟨rfl, S⟩

end Go.Proofs.Yticjoiolfibmlaa
namespace Go.Proofs.Yticjoiolfibmlaa
open Go.RowKit
set_option linter.unusedVariables false

noncomputable def raddleref27_Work_l1 (p0 : api_Chart) : (Int × List api_Loop × List Int × List (Int × Int) × List Int) → Option ((Int × List api_Loop × List Int × List (Int × Int) × List Int) ⊕ (List api_Loop × List Int × List (Int × Int) × List Int)) := fun s0 => match s0 with
  | (s32, s33, s36, s39, s42) =>
    if decide (s32 < p0.Start) then
      Option.bind (F_raddleref27_Piece_put_s1 (raddleref27_Piece.mk s33 s36 s39 s42) 0 s32 ([] : (List Int)) false) fun r64 =>
      some (.inl (w64 (s32 + 1), r64.Loops, r64.Bound, r64.Cross, r64.Rows))
    else
      some (.inr (s33, s36, s39, s42))
noncomputable def raddleref27_Work_l2 (r157 : (List api_Stitch)) (s178 : Int) : (Int × List Int × Int) → Option ((Int × List Int × Int) ⊕ (Int × List Int)) := fun s0 => match s0 with
  | (s232, s233, s236) =>
    Option.bind (idxO r157 s178) fun x246 =>
    Option.bind (F_raddleref25_Used x246) fun r251 =>
    if decide (s236 < r251) then
      Option.bind (appO s233 ([s232] : List Int)) fun l258 =>
      some (.inl (w64 (s232 + 1), l258, w64 (s236 + 1)))
    else
      some (.inr (s232, s233))
noncomputable def raddleref27_Work_l3 (r157 : (List api_Stitch)) (s96 : Int) : (Int × Int × List api_Loop × List Int × List (Int × Int) × List Int) → Option ((Int × Int × List api_Loop × List Int × List (Int × Int) × List Int) ⊕ (List api_Loop × List Int × List (Int × Int) × List Int)) := fun s0 => match s0 with
  | (s177, s178, s179, s182, s185, s188) =>
    if decide (s178 < (r157.length : Int)) then
      Option.bind (α := (Int × List api_Loop × List Int × List (Int × Int) × List Int)) (
        Option.bind (α := (Int × List Int)) (
          Option.bind (whileO (raddleref27_Work_l2 r157 s178) (s177, ([] : List Int), 0)) fun (e240, e241) =>
            some (e240, e241)) fun (o225, o226) =>
        Option.bind (idxO r157 s178) fun x262 =>
        Option.bind (F_raddleref27_Piece_cell_s1 (raddleref27_Piece.mk s179 s182 s185 s188) (w64 (s96 + 1)) s178 x262 o226) fun r267 =>
        some (o225, r267.Loops, r267.Bound, r267.Cross, r267.Rows)) fun (o209, o210, o213, o216, o219) =>
      some (.inl (o209, w64 (s178 + 1), o210, o213, o216, o219))
    else
      some (.inr (s179, s182, s185, s188))
noncomputable def raddleref27_Work_l4 (p0 : api_Chart) : (Int × List api_Loop × List Int × List (Int × Int) × List Int) → Option ((Int × List api_Loop × List Int × List (Int × Int) × List Int) ⊕ (List api_Loop × List Int × List (Int × Int) × List Int)) := fun s0 => match s0 with
  | (s96, s97, s100, s103, s106) =>
    if decide (s96 < (p0.Rows.length : Int)) then
      Option.bind (α := (List api_Loop × List Int × List (Int × Int) × List Int)) (
        Option.bind (idxO s106 s96) fun x142 =>
        Option.bind (idxO p0.Rows s96) fun x148 =>
        Option.bind (F_raddleref26_Seen x148) fun r157 =>
        Option.bind (α := (List api_Loop × List Int × List (Int × Int) × List Int)) (
          Option.bind (whileO (raddleref27_Work_l3 r157 s96) (x142, 0, s97, s100, s103, s106)) fun (e194, e197, e200, e203) =>
            some (e194, e197, e200, e203)) fun (o162, o165, o168, o171) =>
        Option.bind (appO o171 ([(o162.length : Int)] : List Int)) fun l279 =>
        some (o162, o165, o168, l279)) fun (o127, o130, o133, o136) =>
      some (.inl (w64 (s96 + 1), o127, o130, o133, o136))
    else
      some (.inr (s97, s100, s103, s106))
noncomputable def F_raddleref27_Work (p0 : api_Chart) : Option raddleref27_Piece :=
  Option.bind (appO ([] : List Int) ([0] : List Int)) fun l13 =>
  Option.bind (α := (List api_Loop × List Int × List (Int × Int) × List Int)) (
    Option.bind (whileO (raddleref27_Work_l1 p0) (0, ([] : List api_Loop), ([] : List Int), ([] : List (Int × Int)), l13)) fun (e48, e51, e54, e57) =>
      some (e48, e51, e54, e57)) fun (o17, o20, o23, o26) =>
  Option.bind (appO o26 ([(o17.length : Int)] : List Int)) fun l77 =>
  Option.bind (α := (List api_Loop × List Int × List (Int × Int) × List Int)) (
    Option.bind (whileO (raddleref27_Work_l4 p0) (0, o17, o20, o23, l77)) fun (e112, e115, e118, e121) =>
      some (e112, e115, e118, e121)) fun (o81, o84, o87, o90) =>
  some (raddleref27_Piece.mk o81 o84 o87 o90)
def c_raddleref27_Work_val (r : raddleref27_Piece) (x : Value) : Value := x
def c_raddleref27_Work_D (r : raddleref27_Piece) (x : Value) : List Fact := [fRep r_raddleref27_Piece x r]
set_option maxHeartbeats 4000000 in
set_option maxRecDepth 100000 in
theorem c_raddleref27_Work (E : Nat → Prop) (w0 : World) (p0 : api_Chart) (v0 : Value) (r : raddleref27_Piece) (h : F_raddleref27_Work p0 = some r) (S : St0 E [] w0 w0 [] [fRep r_api_Chart (v0) p0]) :
    Calls Try.prog 34 #[v0] w0 (Ret (X := Value) E [] w0 (c_raddleref27_Work_val r) (fun _ => []) (c_raddleref27_Work_D r)) := by
  unfold F_raddleref27_Work at h
  obtain ⟨u1, rfl, hu2⟩ := S.know (i := 0) (e := fRep r_api_Chart (v0) p0) rfl
  have S := S.learn (fRep (rL r_api_Row) u1 p0.Rows) hu2
  obtain ⟨ad3, cp4, _, rfl, _⟩ := hu2
  refine sEnter (args := [.agg #[iv p0.Start, .slice ad3 p0.Rows.length cp4]]) 89 Try.func34 rfl rfl (by simp) S (fun a S => ?_)
  refine sSeq (fun K5 hK5 => ?_)
  refine sRegion ?_
  refine sBox (v := .agg #[iv p0.Start, .slice ad3 p0.Rows.length cp4]) S (wN rfl) rfl rfl [iv p0.Start, .slice ad3 p0.Rows.length cp4] rfl rfl (lb rfl) fun a b6 w S => ?_
  refine sAlloc (.agg #[.slice none 0 0, .slice none 0 0, .slice none 0 0, .slice none 0 0]) S (wN rfl) rfl rfl [.slice none 0 0, .slice none 0 0, .slice none 0 0, .slice none 0 0] rfl rfl (lb rfl) fun a b7 w S => ?_
  refine leafL (leafT (hK5 _ _ ?_))
  refine sSeq (fun K8 hK8 => ?_)
  refine sRegion ?_
  refine sAlloc (.agg #[.slice none 0 0, .slice none 0 0, .slice none 0 0, .slice none 0 0]) S (wN rfl) rfl rfl [.slice none 0 0, .slice none 0 0, .slice none 0 0, .slice none 0 0] rfl rfl (lb rfl) fun a b9 w S => ?_
  refine leafL (leafT (hK8 _ _ ?_))
  refine sSeq (fun K10 hK10 => ?_)
  refine sRegion ?_
  refine sField (b := b9) (off := 0) 3 3 S (wN rfl) rfl rfl rfl rfl rfl (lb rfl) fun a S => ?_
  refine sLoad1 (p := b9) (off := 3) (T := 77) (vs := [.slice none 0 0, .slice none 0 0, .slice none 0 0, .slice none 0 0]) 0 (.slice none 0 0) S (wN rfl) rfl rfl rfl rfl rfl rfl (lb rfl) fun a S => ?_
  refine sLit (r := (rI .i64)) (T := 3) (xs := ([0] : List Int)) [(0, iv 0)] 1 [iv 0] [iv 0] (iv 0) 8 S (wN rfl) rfl rfl Try.underlying32 rfl (by decide) (by decide) (by kernel_rfl) rfl (fun E1 w1 hE => All.cons rfl (All.nil _ _ _)) rfl rfl (lb rfl) fun a w ad11 cp12 S => ?_
  have S := S.nilRow (rI .i64) 3 (α := Int)
  obtain ⟨l13, hx14, h⟩ := bindSome h
  refine sApp (r := (rI .i64)) (T := 3) (xs := ([] : List Int)) (ys := ([0] : List Int)) (v := .slice none 0 0) (u := .slice ad11 ([0] : List Int).length cp12) 0 (iv 0) 8 S (wN rfl) rfl Try.underlying32 rfl rfl (by decide) rfl rfl rfl (src_R (T := 3) 1 S.mem rfl) hx14 rfl (lb rfl) fun a w ad15 cp16 S => ?_
  refine sField (b := b9) (off := 0) 3 3 S (wN rfl) rfl rfl rfl rfl rfl (lb rfl) fun a S => ?_
  refine sStore (p := b9) (off := 3) (T := 77) (vs := [.slice none 0 0, .slice none 0 0, .slice none 0 0, .slice none 0 0]) (v := .slice ad15 l13.length cp16) 2 [.slice ad15 l13.length cp16] S (wN rfl) rfl rfl rfl rfl rfl rfl rfl (by simp) rfl fun a w S => ?_
  refine leafL (leafT (hK10 _ _ ?_))
  obtain ⟨t29, h, g30⟩ := bindSome h
  refine sCut (fun a w => ∃ o17, ∃ o20, ∃ o23, ∃ o26, (o17, o20, o23, o26) = t29 ∧ ∃ ad18, ∃ cp19, ∃ ad21, ∃ cp22, ∃ ad24, ∃ cp25, ∃ ad27, ∃ cp28, St [] E [] w0 89 a w [(1, .pointer (some ⟨b6, 0, none⟩)), (2, .pointer (some ⟨b7, 0, none⟩)), (3, .pointer (some ⟨b9, 0, none⟩))] [eBox b6 24 [iv p0.Start, .slice ad3 p0.Rows.length cp4], eBox b7 77 [.slice none 0 0, .slice none 0 0, .slice none 0 0, .slice none 0 0], eBox b9 77 [.slice ad18 o17.length cp19, .slice ad21 o20.length cp22, .slice ad24 o23.length cp25, .slice ad27 o26.length cp28], eRow r_api_Loop 48 (.slice ad18 o17.length cp19) o17, eRow (rI .i64) 3 (.slice ad21 o20.length cp22) o20, eRow r_A2_Int 49 (.slice ad24 o23.length cp25) o23, eRow (rI .i64) 3 (.slice ad27 o26.length cp28) o26] [fRep (rL r_api_Row) (.slice ad3 p0.Rows.length cp4) p0.Rows]) ?_ (fun a w hI => ?_)
  · refine sSeq (fun K31 hK31 => ?_)
    refine sRegion ?_
    refine sMove (iv 0) S (wN rfl) (.inr rfl) rfl rfl (lb rfl) fun a S => ?_
    refine leafL (leafT (hK31 _ _ ?_))
    refine wp_block ?_
    have S := S.nilRow r_api_Loop 48 (α := api_Loop)
    have S := S.nilRow (rI .i64) 3 (α := Int)
    have S := S.nilRow r_A2_Int 49 (α := (Int × Int))
    obtain ⟨t47, hl, g46⟩ := bindSome h
    refine sLoop hl (fun s0 a w => match s0 with | (s32, s33, s36, s39, s42) => ∃ ad34, ∃ cp35, ∃ ad37, ∃ cp38, ∃ ad40, ∃ cp41, ∃ ad43, ∃ cp44, St [] E [] w0 89 a w [(1, .pointer (some ⟨b6, 0, none⟩)), (2, .pointer (some ⟨b7, 0, none⟩)), (3, .pointer (some ⟨b9, 0, none⟩)), (4, iv s32)] [eBox b6 24 [iv p0.Start, .slice ad3 p0.Rows.length cp4], eBox b7 77 [.slice none 0 0, .slice none 0 0, .slice none 0 0, .slice none 0 0], eBox b9 77 [.slice ad34 s33.length cp35, .slice ad37 s36.length cp38, .slice ad40 s39.length cp41, .slice ad43 s42.length cp44], eRow r_api_Loop 48 (.slice ad34 s33.length cp35) s33, eRow (rI .i64) 3 (.slice ad37 s36.length cp38) s36, eRow r_A2_Int 49 (.slice ad40 s39.length cp41) s39, eRow (rI .i64) 3 (.slice ad43 s42.length cp44) s42] [fRep (rL r_api_Row) (.slice ad3 p0.Rows.length cp4) p0.Rows]) ⟨none, 0, none, 0, none, 0, ad15, cp16, S.fix [7, 6, 3, 2, 1, 0, 4] [0] (by decide) rfl rfl rfl⟩ ?_
    clear hl h
    intro s0 a w c0 hI h hu45
    obtain ⟨s32, s33, s36, s39, s42⟩ := s0
    unfold raddleref27_Work_l1 at h
    dsimp only at h hI
    obtain ⟨ad34, cp35, ad37, cp38, ad40, cp41, ad43, cp44, S⟩ := hI
    refine sSeq (fun K60 hK60 => ?_)
    refine sSeq (fun K61 hK61 => ?_)
    refine sRegion ?_
    refine sMove (iv s32) S (wN rfl) (.inl rfl) rfl rfl (lb rfl) fun a S => ?_
    refine sField (b := b6) (off := 0) 0 0 S (wN rfl) rfl rfl rfl rfl rfl (lb rfl) fun a S => ?_
    refine sLoad1 (p := b6) (off := 0) (T := 24) (vs := [iv p0.Start, .slice ad3 p0.Rows.length cp4]) 0 (iv p0.Start) S (wN rfl) rfl rfl rfl rfl rfl rfl (lb rfl) fun a S => ?_
    refine sBin (.bool (decide (s32 < p0.Start))) S (wN rfl) rfl rfl rfl (bLt _ _ _ _ .i64 s32 p0.Start) rfl (lb rfl) fun a S => ?_
    refine leafL (leafT (hK61 _ _ ?_))
    rcases iteSome h with ⟨hc62, h⟩ | ⟨hc62, h⟩
    rotate_left
    · refine sCondF S rfl hc62 ?_
      obtain rfl := Option.some.inj h
      obtain rfl := hu45 _ rfl
      have h := g46
      clear g46
      try dsimp only at h
      exact wp_exit (xThen (xThen (xHit (leafT (⟨s33, s36, s39, s42, Option.some.inj h, ad34, cp35, ad37, cp38, ad40, cp41, ad43, cp44, S.fix [0, 1, 2, 3, 4, 5, 6] [0] (by decide) rfl rfl rfl⟩)))))
    refine sCondT S rfl hc62 ?_
    refine wp_skip (leafT (hK60 _ _ ?_))
    refine sSeq (fun K63 hK63 => ?_)
    refine wp_block ?_
    refine sRegion ?_
    refine sMove (iv s32) S (wN rfl) (.inl rfl) rfl rfl (lb rfl) fun a S => ?_
    obtain ⟨r64, hx65, h⟩ := bindSome h
    have S := S.learn (fRep (rL (rI .i64)) (.slice none 0 0) ([] : (List Int))) (rL_nil _ _ _)
    refine sCall (X := Option Addr × Nat × Option Addr × Nat × Option Addr × Nat × Option Addr × Nat) (f := 45) (vs := [.pointer (some ⟨b9, 0, none⟩), iv 0, iv s32, .slice none 0 0, .bool false]) (val := fun _ => .tuple #[]) (B' := fun x => [eBox b9 77 [.slice x.1 r64.Loops.length x.2.1, .slice x.2.2.1 r64.Bound.length x.2.2.2.1, .slice x.2.2.2.2.1 r64.Cross.length x.2.2.2.2.2.1, .slice x.2.2.2.2.2.2.1 r64.Rows.length x.2.2.2.2.2.2.2], eRow r_api_Loop 48 (.slice x.1 r64.Loops.length x.2.1) r64.Loops, eRow (rI .i64) 3 (.slice x.2.2.1 r64.Bound.length x.2.2.2.1) r64.Bound, eRow r_A2_Int 49 (.slice x.2.2.2.2.1 r64.Cross.length x.2.2.2.2.2.1) r64.Cross, eRow (rI .i64) 3 (.slice x.2.2.2.2.2.2.1 r64.Rows.length x.2.2.2.2.2.2.2) r64.Rows]) (D' := fun _ => []) [eBox b9 77 [.slice ad34 s33.length cp35, .slice ad37 s36.length cp38, .slice ad40 s39.length cp41, .slice ad43 s42.length cp44], eRow r_api_Loop 48 (.slice ad34 s33.length cp35) s33, eRow (rI .i64) 3 (.slice ad37 s36.length cp38) s36, eRow r_A2_Int 49 (.slice ad40 s39.length cp41) s39, eRow (rI .i64) 3 (.slice ad43 s42.length cp44) s42] [eBox b6 24 [iv p0.Start, .slice ad3 p0.Rows.length cp4], eBox b7 77 [.slice none 0 0, .slice none 0 0, .slice none 0 0, .slice none 0 0]] [fRep (rL (rI .i64)) (.slice none 0 0) ([] : (List Int))] [2, 3, 4, 5, 6, 0, 1] [0] S (wN rfl) rfl callee45 rfl (by decide) rfl rfl (fun E1 w1 S1 => c_raddleref27_Piece_put_s1 E1 w1 (raddleref27_Piece.mk s33 s36 s39 s42) b9 ad34 cp35 ad37 cp38 ad40 cp41 ad43 cp44 0 s32 ([] : (List Int)) (.slice none 0 0) false r64 hx65 S1) rfl (lb rfl) fun xx a w S => ?_
    obtain ⟨ad66, cp67, ad68, cp69, ad70, cp71, ad72, cp73⟩ := xx
    dsimp only at S
    refine leafL (leafB (leafT (hK63 _ _ ?_)))
    refine sRegion ?_
    refine sMove (iv s32) S (wN rfl) (.inl rfl) rfl rfl (lb rfl) fun a S => ?_
    refine sBin (iv (w64 (s32 + 1))) S (wN rfl) rfl rfl rfl (bAdd _ _ _ _ s32 1) rfl (lb rfl) fun a S => ?_
    refine sMove (iv (w64 (s32 + 1))) S (wN rfl) (.inr rfl) rfl rfl (lb rfl) fun a S => ?_
    exact leafL (leafT (⟨(w64 (s32 + 1), r64.Loops, r64.Bound, r64.Cross, r64.Rows), (Option.some.inj h).symm, ⟨ad66, cp67, ad68, cp69, ad70, cp71, ad72, cp73, S.fix [5, 6, 0, 1, 2, 3, 4] [1] (by decide) rfl rfl rfl⟩⟩))
  obtain ⟨o17, o20, o23, o26, rfl, ad18, cp19, ad21, cp22, ad24, cp25, ad27, cp28, S⟩ := hI
  have h := g30
  clear g30
  try dsimp only at h
  refine sSeq (fun K74 hK74 => ?_)
  refine sRegion ?_
  refine sField (b := b9) (off := 0) 3 3 S (wN rfl) rfl rfl rfl rfl rfl (lb rfl) fun a S => ?_
  refine sLoad1 (p := b9) (off := 3) (T := 77) (vs := [.slice ad18 o17.length cp19, .slice ad21 o20.length cp22, .slice ad24 o23.length cp25, .slice ad27 o26.length cp28]) 2 (.slice ad27 o26.length cp28) S (wN rfl) rfl rfl rfl rfl rfl rfl (lb rfl) fun a S => ?_
  refine sField (b := b9) (off := 0) 0 0 S (wN rfl) rfl rfl rfl rfl rfl (lb rfl) fun a S => ?_
  refine sLoad1 (p := b9) (off := 0) (T := 77) (vs := [.slice ad18 o17.length cp19, .slice ad21 o20.length cp22, .slice ad24 o23.length cp25, .slice ad27 o26.length cp28]) 2 (.slice ad18 o17.length cp19) S (wN rfl) rfl rfl rfl rfl rfl rfl (lb rfl) fun a S => ?_
  refine sLen (ad := ad18) (m := o17.length) (c := cp19) S (wN rfl) rfl Try.underlying26 rfl rfl (lb rfl) fun a S => ?_
  refine sLit (r := (rI .i64)) (T := 3) (xs := ([(o17.length : Int)] : List Int)) [(0, iv (o17.length : Int))] 1 [iv (o17.length : Int)] [iv (o17.length : Int)] (iv 0) 8 S (wN rfl) rfl rfl Try.underlying32 rfl (by decide) (by decide) (by kernel_rfl) rfl (fun E1 w1 hE => All.cons rfl (All.nil _ _ _)) rfl rfl (lb rfl) fun a w ad75 cp76 S => ?_
  obtain ⟨l77, hx78, h⟩ := bindSome h
  refine sApp (r := (rI .i64)) (T := 3) (xs := o26) (ys := ([(o17.length : Int)] : List Int)) (v := .slice ad27 o26.length cp28) (u := .slice ad75 ([(o17.length : Int)] : List Int).length cp76) 7 (iv 0) 8 S (wN rfl) rfl Try.underlying32 rfl rfl (by decide) rfl rfl rfl (src_R (T := 3) 0 S.mem rfl) hx78 rfl (lb rfl) fun a w ad79 cp80 S => ?_
  refine sField (b := b9) (off := 0) 3 3 S (wN rfl) rfl rfl rfl rfl rfl (lb rfl) fun a S => ?_
  refine sStore (p := b9) (off := 3) (T := 77) (vs := [.slice ad18 o17.length cp19, .slice ad21 o20.length cp22, .slice ad24 o23.length cp25, .slice ad27 o26.length cp28]) (v := .slice ad79 l77.length cp80) 4 [.slice ad79 l77.length cp80] S (wN rfl) rfl rfl rfl rfl rfl rfl rfl (by simp) rfl fun a w S => ?_
  refine leafL (leafT (hK74 _ _ ?_))
  obtain ⟨t93, h, g94⟩ := bindSome h
  refine sCut (fun a w => ∃ o81, ∃ o84, ∃ o87, ∃ o90, (o81, o84, o87, o90) = t93 ∧ ∃ ad82, ∃ cp83, ∃ ad85, ∃ cp86, ∃ ad88, ∃ cp89, ∃ ad91, ∃ cp92, St [] E [] w0 89 a w [(2, .pointer (some ⟨b7, 0, none⟩)), (3, .pointer (some ⟨b9, 0, none⟩))] [eBox b7 77 [.slice none 0 0, .slice none 0 0, .slice none 0 0, .slice none 0 0], eBox b9 77 [.slice ad82 o81.length cp83, .slice ad85 o84.length cp86, .slice ad88 o87.length cp89, .slice ad91 o90.length cp92], eRow r_api_Loop 48 (.slice ad82 o81.length cp83) o81, eRow (rI .i64) 3 (.slice ad85 o84.length cp86) o84, eRow r_A2_Int 49 (.slice ad88 o87.length cp89) o87, eRow (rI .i64) 3 (.slice ad91 o90.length cp92) o90] []) ?_ (fun a w hI => ?_)
  rotate_left
  · obtain ⟨o81, o84, o87, o90, rfl, ad82, cp83, ad85, cp86, ad88, cp89, ad91, cp92, S⟩ := hI
    have h := g94
    clear g94
    try dsimp only at h
    refine sSeq (fun K283 hK283 => ?_)
    refine sRegion ?_
    refine sLoadN (p := b9) (off := 0) (T := 77) (vs := [.slice ad82 o81.length cp83, .slice ad85 o84.length cp86, .slice ad88 o87.length cp89, .slice ad91 o90.length cp92]) 1 [.slice ad82 o81.length cp83, .slice ad85 o84.length cp86, .slice ad88 o87.length cp89, .slice ad91 o90.length cp92] S (wN rfl) rfl rfl rfl rfl rfl rfl rfl (lb rfl) fun a S => ?_
    refine sStore (p := b7) (off := 0) (T := 77) (vs := [.slice none 0 0, .slice none 0 0, .slice none 0 0, .slice none 0 0]) (v := .agg #[.slice ad82 o81.length cp83, .slice ad85 o84.length cp86, .slice ad88 o87.length cp89, .slice ad91 o90.length cp92]) 0 [.slice ad82 o81.length cp83, .slice ad85 o84.length cp86, .slice ad88 o87.length cp89, .slice ad91 o90.length cp92] S (wN rfl) rfl rfl rfl rfl rfl rfl rfl (by simp) rfl fun a w S => ?_
    refine leafL (leafT (hK283 _ _ ?_))
    obtain rfl := Option.some.inj h
    have S := S.shutR (r := r_api_Loop) (T := 48) (v := .slice ad82 o81.length cp83) (xs := o81) 2 rfl
    have S := S.shutR (r := (rI .i64)) (T := 3) (v := .slice ad85 o84.length cp86) (xs := o84) 2 rfl
    have S := S.shutR (r := r_A2_Int) (T := 49) (v := .slice ad88 o87.length cp89) (xs := o87) 2 rfl
    have S := S.shutR (r := (rI .i64)) (T := 3) (v := .slice ad91 o90.length cp92) (xs := o90) 2 rfl
    have S := S.learn (fRep r_raddleref27_Piece (.agg #[.slice ad82 o81.length cp83, .slice ad85 o84.length cp86, .slice ad88 o87.length cp89, .slice ad91 o90.length cp92]) (raddleref27_Piece.mk o81 o84 o87 o90)) ⟨_, _, _, _, rfl, S.mem.know (i := 3) (e := fRep (rL r_api_Loop) (.slice ad82 o81.length cp83) o81) rfl, S.mem.know (i := 2) (e := fRep (rL (rI .i64)) (.slice ad85 o84.length cp86) o84) rfl, S.mem.know (i := 1) (e := fRep (rL r_A2_Int) (.slice ad88 o87.length cp89) o87) rfl, S.mem.know (i := 0) (e := fRep (rL (rI .i64)) (.slice ad91 o90.length cp92) o90) rfl⟩
    exact wp_ret (sRet (.agg #[.slice ad82 o81.length cp83, .slice ad85 o84.length cp86, .slice ad88 o87.length cp89, .slice ad91 o90.length cp92]) S (rsl1 rfl (rvN (c := 2) (t := 77) (T := 77) (p := b7) 0 [.slice ad82 o81.length cp83, .slice ad85 o84.length cp86, .slice ad88 o87.length cp89, .slice ad91 o90.length cp92] S rfl rfl rfl rfl)) ⟨(.agg #[.slice ad82 o81.length cp83, .slice ad85 o84.length cp86, .slice ad88 o87.length cp89, .slice ad91 o90.length cp92]), rfl, S.mem.sel [] [0] (by decide) rfl rfl⟩)
  refine sSeq (fun K95 hK95 => ?_)
  refine sRegion ?_
  refine sMove (iv 0) S (wN rfl) (.inr rfl) rfl rfl (lb rfl) fun a S => ?_
  refine leafL (leafT (hK95 _ _ ?_))
  refine wp_block ?_
  obtain ⟨t111, hl, g110⟩ := bindSome h
  refine sLoop hl (fun s0 a w => match s0 with | (s96, s97, s100, s103, s106) => ∃ ad98, ∃ cp99, ∃ ad101, ∃ cp102, ∃ ad104, ∃ cp105, ∃ ad107, ∃ cp108, St [] E [] w0 89 a w [(1, .pointer (some ⟨b6, 0, none⟩)), (2, .pointer (some ⟨b7, 0, none⟩)), (3, .pointer (some ⟨b9, 0, none⟩)), (5, iv s96)] [eBox b6 24 [iv p0.Start, .slice ad3 p0.Rows.length cp4], eBox b7 77 [.slice none 0 0, .slice none 0 0, .slice none 0 0, .slice none 0 0], eBox b9 77 [.slice ad98 s97.length cp99, .slice ad101 s100.length cp102, .slice ad104 s103.length cp105, .slice ad107 s106.length cp108], eRow r_api_Loop 48 (.slice ad98 s97.length cp99) s97, eRow (rI .i64) 3 (.slice ad101 s100.length cp102) s100, eRow r_A2_Int 49 (.slice ad104 s103.length cp105) s103, eRow (rI .i64) 3 (.slice ad107 s106.length cp108) s106] [fRep (rL r_api_Row) (.slice ad3 p0.Rows.length cp4) p0.Rows]) ⟨ad18, cp19, ad21, cp22, ad24, cp25, ad79, cp80, S.fix [3, 4, 0, 5, 6, 7, 1] [0] (by decide) rfl rfl rfl⟩ ?_
  clear hl h
  intro s0 a w c0 hI h hu109
  obtain ⟨s96, s97, s100, s103, s106⟩ := s0
  unfold raddleref27_Work_l4 at h
  dsimp only at h hI
  obtain ⟨ad98, cp99, ad101, cp102, ad104, cp105, ad107, cp108, S⟩ := hI
  refine sSeq (fun K124 hK124 => ?_)
  refine sSeq (fun K125 hK125 => ?_)
  refine sRegion ?_
  refine sMove (iv s96) S (wN rfl) (.inl rfl) rfl rfl (lb rfl) fun a S => ?_
  refine sField (b := b6) (off := 0) 1 1 S (wN rfl) rfl rfl rfl rfl rfl (lb rfl) fun a S => ?_
  refine sLoad1 (p := b6) (off := 1) (T := 24) (vs := [iv p0.Start, .slice ad3 p0.Rows.length cp4]) 0 (.slice ad3 p0.Rows.length cp4) S (wN rfl) rfl rfl rfl rfl rfl rfl (lb rfl) fun a S => ?_
  refine sLen (ad := ad3) (m := p0.Rows.length) (c := cp4) S (wN rfl) rfl Try.underlying22 rfl rfl (lb rfl) fun a S => ?_
  refine sBin (.bool (decide (s96 < (p0.Rows.length : Int)))) S (wN rfl) rfl rfl rfl (bLt _ _ _ _ .i64 s96 (p0.Rows.length : Int)) rfl (lb rfl) fun a S => ?_
  refine leafL (leafT (hK125 _ _ ?_))
  rcases iteSome h with ⟨hc126, h⟩ | ⟨hc126, h⟩
  rotate_left
  · refine sCondF S rfl hc126 ?_
    obtain rfl := Option.some.inj h
    obtain rfl := hu109 _ rfl
    have h := g110
    clear g110
    try dsimp only at h
    exact wp_exit (xThen (xThen (xHit (leafT (⟨s97, s100, s103, s106, Option.some.inj h, ad98, cp99, ad101, cp102, ad104, cp105, ad107, cp108, S.fix [1, 2, 3, 4, 5, 6] [] (by decide) rfl rfl rfl⟩)))))
  refine sCondT S rfl hc126 ?_
  refine wp_skip (leafT (hK124 _ _ ?_))
  obtain ⟨t139, h, g140⟩ := bindSome h
  refine sCut (fun a w => ∃ o127, ∃ o130, ∃ o133, ∃ o136, (o127, o130, o133, o136) = t139 ∧ ∃ ad128, ∃ cp129, ∃ ad131, ∃ cp132, ∃ ad134, ∃ cp135, ∃ ad137, ∃ cp138, St [] E [] w0 89 a w [(1, .pointer (some ⟨b6, 0, none⟩)), (2, .pointer (some ⟨b7, 0, none⟩)), (3, .pointer (some ⟨b9, 0, none⟩)), (5, iv s96)] [eBox b6 24 [iv p0.Start, .slice ad3 p0.Rows.length cp4], eBox b7 77 [.slice none 0 0, .slice none 0 0, .slice none 0 0, .slice none 0 0], eBox b9 77 [.slice ad128 o127.length cp129, .slice ad131 o130.length cp132, .slice ad134 o133.length cp135, .slice ad137 o136.length cp138], eRow r_api_Loop 48 (.slice ad128 o127.length cp129) o127, eRow (rI .i64) 3 (.slice ad131 o130.length cp132) o130, eRow r_A2_Int 49 (.slice ad134 o133.length cp135) o133, eRow (rI .i64) 3 (.slice ad137 o136.length cp138) o136] [fRep (rL r_api_Row) (.slice ad3 p0.Rows.length cp4) p0.Rows]) ?_ (fun a w hI => ?_)
  rotate_left
  · obtain ⟨o127, o130, o133, o136, rfl, ad128, cp129, ad131, cp132, ad134, cp135, ad137, cp138, S⟩ := hI
    have h := g140
    clear g140
    try dsimp only at h
    refine sRegion ?_
    refine sMove (iv s96) S (wN rfl) (.inl rfl) rfl rfl (lb rfl) fun a S => ?_
    refine sBin (iv (w64 (s96 + 1))) S (wN rfl) rfl rfl rfl (bAdd _ _ _ _ s96 1) rfl (lb rfl) fun a S => ?_
    refine sMove (iv (w64 (s96 + 1))) S (wN rfl) (.inr rfl) rfl rfl (lb rfl) fun a S => ?_
    exact leafL (leafT (⟨(w64 (s96 + 1), o127, o130, o133, o136), (Option.some.inj h).symm, ⟨ad128, cp129, ad131, cp132, ad134, cp135, ad137, cp138, S.fix [0, 1, 2, 3, 4, 5, 6] [0] (by decide) rfl rfl rfl⟩⟩))
  refine wp_block ?_
  refine sSeq (fun K141 hK141 => ?_)
  refine sRegion ?_
  refine sField (b := b9) (off := 0) 3 3 S (wN rfl) rfl rfl rfl rfl rfl (lb rfl) fun a S => ?_
  refine sLoad1 (p := b9) (off := 3) (T := 77) (vs := [.slice ad98 s97.length cp99, .slice ad101 s100.length cp102, .slice ad104 s103.length cp105, .slice ad107 s106.length cp108]) 2 (.slice ad107 s106.length cp108) S (wN rfl) rfl rfl rfl rfl rfl rfl (lb rfl) fun a S => ?_
  refine sMove (iv s96) S (wN rfl) (.inl rfl) rfl rfl (lb rfl) fun a S => ?_
  obtain ⟨x142, hx143, h⟩ := bindSome h
  obtain ⟨q144, hq145, hp146⟩ := pIdxR (P := Try.prog) (r := (rI .i64)) (T := 3) (v := .slice ad107 s106.length cp108) (xs := s106) (j := s96) 32 3 6 S Try.underlying32 rfl rfl hx143
  refine sIdxV (v := .slice ad107 s106.length cp108) (k := .i64) (j := s96) S (wN rfl) rfl rfl rfl hq145 rfl (lb rfl) fun a S => ?_
  refine sLoadR (r := (rI .i64)) (T := 3) (xs := s106) (x := x142) (v := .slice ad107 s106.length cp108) (vq := q144) (j := s96) 6 (iv x142) S hp146 (wN rfl) rfl rfl rfl hx143 (fun _ _ _ h => h) (scal_I _) rfl rfl (lb rfl) fun a S => ?_
  refine sMove (iv x142) S (wN rfl) (.inr rfl) rfl rfl (lb rfl) fun a S => ?_
  refine leafL (leafT (hK141 _ _ ?_))
  refine sSeq (fun K147 hK147 => ?_)
  refine sRegion ?_
  refine sField (b := b6) (off := 0) 1 1 S (wN rfl) rfl rfl rfl rfl rfl (lb rfl) fun a S => ?_
  refine sLoad1 (p := b6) (off := 1) (T := 24) (vs := [iv p0.Start, .slice ad3 p0.Rows.length cp4]) 0 (.slice ad3 p0.Rows.length cp4) S (wN rfl) rfl rfl rfl rfl rfl rfl (lb rfl) fun a S => ?_
  refine sMove (iv s96) S (wN rfl) (.inl rfl) rfl rfl (lb rfl) fun a S => ?_
  obtain ⟨x148, hx149, h⟩ := bindSome h
  obtain ⟨q150, hq151, S⟩ := pIdx (P := Try.prog) (r := r_api_Row) (v := .slice ad3 p0.Rows.length cp4) (xs := p0.Rows) (j := s96) 22 65 0 S Try.underlying22 rfl rfl hx149
  refine sIdxV (v := .slice ad3 p0.Rows.length cp4) (k := .i64) (j := s96) S (wN rfl) rfl rfl rfl hq151 rfl (lb rfl) fun a S => ?_
  obtain ⟨u152, S⟩ := pLoad (r := r_api_Row) (q := q150) (x := x148) 0 S rfl
  obtain ⟨u153, rfl, hu154⟩ := S.mem.know (i := 1) (e := fRep r_api_Row (u152) x148) rfl
  have S := S.learn (fRep (rL r_api_Stitch) u153 x148.Cells) hu154
  obtain ⟨ad155, cp156, _, rfl, _⟩ := hu154
  refine sLoadVN (vq := q150) 1 [.bool x148.Back, .slice ad155 x148.Cells.length cp156] S (wN rfl) rfl rfl rfl rfl rfl rfl (lb rfl) fun a S => ?_
  obtain ⟨r157, hx158, h⟩ := bindSome h
  refine sCall (X := Value) (f := 28) (vs := [.agg #[.bool x148.Back, .slice ad155 x148.Cells.length cp156]]) (val := c_raddleref26_Seen_val r157) (B' := fun _ => []) (D' := c_raddleref26_Seen_D r157) [] [eBox b6 24 [iv p0.Start, .slice ad3 p0.Rows.length cp4], eBox b7 77 [.slice none 0 0, .slice none 0 0, .slice none 0 0, .slice none 0 0], eBox b9 77 [.slice ad98 s97.length cp99, .slice ad101 s100.length cp102, .slice ad104 s103.length cp105, .slice ad107 s106.length cp108], eRow r_api_Loop 48 (.slice ad98 s97.length cp99) s97, eRow (rI .i64) 3 (.slice ad101 s100.length cp102) s100, eRow r_A2_Int 49 (.slice ad104 s103.length cp105) s103, eRow (rI .i64) 3 (.slice ad107 s106.length cp108) s106] [fRep r_api_Row (.agg #[.bool x148.Back, .slice ad155 x148.Cells.length cp156]) x148] [0, 1, 2, 3, 4, 5, 6] [2] S (wN rfl) rfl callee28 rfl (by decide) rfl rfl (fun E1 w1 S1 => c_raddleref26_Seen E1 w1 x148 (.agg #[.bool x148.Back, .slice ad155 x148.Cells.length cp156]) r157 hx158 S1) rfl (lb rfl) fun u159 a w S => ?_
  obtain ⟨ad160, cp161, _, rfl, _⟩ := S.mem.know (i := 0) (e := fRep (rL r_api_Stitch) (u159) r157) rfl
  refine sMove (.slice ad160 r157.length cp161) S (wN rfl) (.inr rfl) rfl rfl (lb rfl) fun a S => ?_
  refine leafL (leafT (hK147 _ _ ?_))
  obtain ⟨t174, h, g175⟩ := bindSome h
  refine sCut (fun a w => ∃ o162, ∃ o165, ∃ o168, ∃ o171, (o162, o165, o168, o171) = t174 ∧ ∃ ad163, ∃ cp164, ∃ ad166, ∃ cp167, ∃ ad169, ∃ cp170, ∃ ad172, ∃ cp173, St [] E [] w0 89 a w [(1, .pointer (some ⟨b6, 0, none⟩)), (2, .pointer (some ⟨b7, 0, none⟩)), (3, .pointer (some ⟨b9, 0, none⟩)), (5, iv s96)] [eBox b6 24 [iv p0.Start, .slice ad3 p0.Rows.length cp4], eBox b7 77 [.slice none 0 0, .slice none 0 0, .slice none 0 0, .slice none 0 0], eBox b9 77 [.slice ad163 o162.length cp164, .slice ad166 o165.length cp167, .slice ad169 o168.length cp170, .slice ad172 o171.length cp173], eRow r_api_Loop 48 (.slice ad163 o162.length cp164) o162, eRow (rI .i64) 3 (.slice ad166 o165.length cp167) o165, eRow r_A2_Int 49 (.slice ad169 o168.length cp170) o168, eRow (rI .i64) 3 (.slice ad172 o171.length cp173) o171] [fRep (rL r_api_Row) (.slice ad3 p0.Rows.length cp4) p0.Rows]) ?_ (fun a w hI => ?_)
  rotate_left
  · obtain ⟨o162, o165, o168, o171, rfl, ad163, cp164, ad166, cp167, ad169, cp170, ad172, cp173, S⟩ := hI
    have h := g175
    clear g175
    try dsimp only at h
    refine sRegion ?_
    refine sField (b := b9) (off := 0) 3 3 S (wN rfl) rfl rfl rfl rfl rfl (lb rfl) fun a S => ?_
    refine sLoad1 (p := b9) (off := 3) (T := 77) (vs := [.slice ad163 o162.length cp164, .slice ad166 o165.length cp167, .slice ad169 o168.length cp170, .slice ad172 o171.length cp173]) 2 (.slice ad172 o171.length cp173) S (wN rfl) rfl rfl rfl rfl rfl rfl (lb rfl) fun a S => ?_
    refine sField (b := b9) (off := 0) 0 0 S (wN rfl) rfl rfl rfl rfl rfl (lb rfl) fun a S => ?_
    refine sLoad1 (p := b9) (off := 0) (T := 77) (vs := [.slice ad163 o162.length cp164, .slice ad166 o165.length cp167, .slice ad169 o168.length cp170, .slice ad172 o171.length cp173]) 2 (.slice ad163 o162.length cp164) S (wN rfl) rfl rfl rfl rfl rfl rfl (lb rfl) fun a S => ?_
    refine sLen (ad := ad163) (m := o162.length) (c := cp164) S (wN rfl) rfl Try.underlying26 rfl rfl (lb rfl) fun a S => ?_
    refine sLit (r := (rI .i64)) (T := 3) (xs := ([(o162.length : Int)] : List Int)) [(0, iv (o162.length : Int))] 1 [iv (o162.length : Int)] [iv (o162.length : Int)] (iv 0) 8 S (wN rfl) rfl rfl Try.underlying32 rfl (by decide) (by decide) (by kernel_rfl) rfl (fun E1 w1 hE => All.cons rfl (All.nil _ _ _)) rfl rfl (lb rfl) fun a w ad277 cp278 S => ?_
    obtain ⟨l279, hx280, h⟩ := bindSome h
    refine sApp (r := (rI .i64)) (T := 3) (xs := o171) (ys := ([(o162.length : Int)] : List Int)) (v := .slice ad172 o171.length cp173) (u := .slice ad277 ([(o162.length : Int)] : List Int).length cp278) 7 (iv 0) 8 S (wN rfl) rfl Try.underlying32 rfl rfl (by decide) rfl rfl rfl (src_R (T := 3) 0 S.mem rfl) hx280 rfl (lb rfl) fun a w ad281 cp282 S => ?_
    refine sField (b := b9) (off := 0) 3 3 S (wN rfl) rfl rfl rfl rfl rfl (lb rfl) fun a S => ?_
    refine sStore (p := b9) (off := 3) (T := 77) (vs := [.slice ad163 o162.length cp164, .slice ad166 o165.length cp167, .slice ad169 o168.length cp170, .slice ad172 o171.length cp173]) (v := .slice ad281 l279.length cp282) 4 [.slice ad281 l279.length cp282] S (wN rfl) rfl rfl rfl rfl rfl rfl rfl (by simp) rfl fun a w S => ?_
    exact leafL (leafB (leafT (⟨o162, o165, o168, l279, Option.some.inj h, ad163, cp164, ad166, cp167, ad169, cp170, ad281, cp282, S.fix [3, 4, 0, 5, 6, 7, 1] [0] (by decide) rfl rfl rfl⟩)))
  refine sSeq (fun K176 hK176 => ?_)
  refine sRegion ?_
  refine sMove (iv 0) S (wN rfl) (.inr rfl) rfl rfl (lb rfl) fun a S => ?_
  refine leafL (leafT (hK176 _ _ ?_))
  refine wp_block ?_
  obtain ⟨t193, hl, g192⟩ := bindSome h
  refine sLoop hl (fun s0 a w => match s0 with | (s177, s178, s179, s182, s185, s188) => ∃ ad180, ∃ cp181, ∃ ad183, ∃ cp184, ∃ ad186, ∃ cp187, ∃ ad189, ∃ cp190, St [] E [] w0 89 a w [(1, .pointer (some ⟨b6, 0, none⟩)), (2, .pointer (some ⟨b7, 0, none⟩)), (3, .pointer (some ⟨b9, 0, none⟩)), (5, iv s96), (6, iv s177), (7, .slice ad160 r157.length cp161), (8, iv s178)] [eBox b6 24 [iv p0.Start, .slice ad3 p0.Rows.length cp4], eBox b7 77 [.slice none 0 0, .slice none 0 0, .slice none 0 0, .slice none 0 0], eBox b9 77 [.slice ad180 s179.length cp181, .slice ad183 s182.length cp184, .slice ad186 s185.length cp187, .slice ad189 s188.length cp190], eRow r_api_Loop 48 (.slice ad180 s179.length cp181) s179, eRow (rI .i64) 3 (.slice ad183 s182.length cp184) s182, eRow r_A2_Int 49 (.slice ad186 s185.length cp187) s185, eRow (rI .i64) 3 (.slice ad189 s188.length cp190) s188] [fRep (rL r_api_Stitch) (.slice ad160 r157.length cp161) r157, fRep (rL r_api_Row) (.slice ad3 p0.Rows.length cp4) p0.Rows]) ⟨ad98, cp99, ad101, cp102, ad104, cp105, ad107, cp108, S.fix [0, 1, 2, 3, 4, 5, 6] [0, 5] (by decide) rfl rfl rfl⟩ ?_
  clear hl h
  intro s0 a w c0 hI h hu191
  obtain ⟨s177, s178, s179, s182, s185, s188⟩ := s0
  unfold raddleref27_Work_l3 at h
  dsimp only at h hI
  obtain ⟨ad180, cp181, ad183, cp184, ad186, cp187, ad189, cp190, S⟩ := hI
  refine sSeq (fun K206 hK206 => ?_)
  refine sSeq (fun K207 hK207 => ?_)
  refine sRegion ?_
  refine sMove (iv s178) S (wN rfl) (.inl rfl) rfl rfl (lb rfl) fun a S => ?_
  refine sMove (.slice ad160 r157.length cp161) S (wN rfl) (.inl rfl) rfl rfl (lb rfl) fun a S => ?_
  refine sLen (ad := ad160) (m := r157.length) (c := cp161) S (wN rfl) rfl Try.underlying62 rfl rfl (lb rfl) fun a S => ?_
  refine sBin (.bool (decide (s178 < (r157.length : Int)))) S (wN rfl) rfl rfl rfl (bLt _ _ _ _ .i64 s178 (r157.length : Int)) rfl (lb rfl) fun a S => ?_
  refine leafL (leafT (hK207 _ _ ?_))
  rcases iteSome h with ⟨hc208, h⟩ | ⟨hc208, h⟩
  rotate_left
  · refine sCondF S rfl hc208 ?_
    obtain rfl := Option.some.inj h
    obtain rfl := hu191 _ rfl
    have h := g192
    clear g192
    try dsimp only at h
    exact wp_exit (xThen (xThen (xHit (leafT (⟨s179, s182, s185, s188, Option.some.inj h, ad180, cp181, ad183, cp184, ad186, cp187, ad189, cp190, S.fix [0, 1, 2, 3, 4, 5, 6] [1] (by decide) rfl rfl rfl⟩)))))
  refine sCondT S rfl hc208 ?_
  refine wp_skip (leafT (hK206 _ _ ?_))
  obtain ⟨t222, h, g223⟩ := bindSome h
  refine sCut (fun a w => ∃ o209, ∃ o210, ∃ o213, ∃ o216, ∃ o219, (o209, o210, o213, o216, o219) = t222 ∧ ∃ ad211, ∃ cp212, ∃ ad214, ∃ cp215, ∃ ad217, ∃ cp218, ∃ ad220, ∃ cp221, St [] E [] w0 89 a w [(1, .pointer (some ⟨b6, 0, none⟩)), (2, .pointer (some ⟨b7, 0, none⟩)), (3, .pointer (some ⟨b9, 0, none⟩)), (5, iv s96), (6, iv o209), (7, .slice ad160 r157.length cp161), (8, iv s178)] [eBox b6 24 [iv p0.Start, .slice ad3 p0.Rows.length cp4], eBox b7 77 [.slice none 0 0, .slice none 0 0, .slice none 0 0, .slice none 0 0], eBox b9 77 [.slice ad211 o210.length cp212, .slice ad214 o213.length cp215, .slice ad217 o216.length cp218, .slice ad220 o219.length cp221], eRow r_api_Loop 48 (.slice ad211 o210.length cp212) o210, eRow (rI .i64) 3 (.slice ad214 o213.length cp215) o213, eRow r_A2_Int 49 (.slice ad217 o216.length cp218) o216, eRow (rI .i64) 3 (.slice ad220 o219.length cp221) o219] [fRep (rL r_api_Stitch) (.slice ad160 r157.length cp161) r157, fRep (rL r_api_Row) (.slice ad3 p0.Rows.length cp4) p0.Rows]) ?_ (fun a w hI => ?_)
  rotate_left
  · obtain ⟨o209, o210, o213, o216, o219, rfl, ad211, cp212, ad214, cp215, ad217, cp218, ad220, cp221, S⟩ := hI
    have h := g223
    clear g223
    try dsimp only at h
    refine sRegion ?_
    refine sMove (iv s178) S (wN rfl) (.inl rfl) rfl rfl (lb rfl) fun a S => ?_
    refine sBin (iv (w64 (s178 + 1))) S (wN rfl) rfl rfl rfl (bAdd _ _ _ _ s178 1) rfl (lb rfl) fun a S => ?_
    refine sMove (iv (w64 (s178 + 1))) S (wN rfl) (.inr rfl) rfl rfl (lb rfl) fun a S => ?_
    exact leafL (leafT (⟨(o209, w64 (s178 + 1), o210, o213, o216, o219), (Option.some.inj h).symm, ⟨ad211, cp212, ad214, cp215, ad217, cp218, ad220, cp221, S.fix [0, 1, 2, 3, 4, 5, 6] [0, 1] (by decide) rfl rfl rfl⟩⟩))
  refine wp_block ?_
  refine sSeq (fun K224 hK224 => ?_)
  refine sRegion ?_
  refine sMove (.slice none 0 0) S (wN rfl) (.inr rfl) rfl rfl (lb rfl) fun a S => ?_
  refine leafL (leafT (hK224 _ _ ?_))
  obtain ⟨t229, h, g230⟩ := bindSome h
  refine sCut (fun a w => ∃ o225, ∃ o226, (o225, o226) = t229 ∧ ∃ ad227, ∃ cp228, St [] E [] w0 89 a w [(1, .pointer (some ⟨b6, 0, none⟩)), (2, .pointer (some ⟨b7, 0, none⟩)), (3, .pointer (some ⟨b9, 0, none⟩)), (5, iv s96), (6, iv o225), (7, .slice ad160 r157.length cp161), (8, iv s178), (9, .slice ad227 o226.length cp228)] [eBox b6 24 [iv p0.Start, .slice ad3 p0.Rows.length cp4], eBox b7 77 [.slice none 0 0, .slice none 0 0, .slice none 0 0, .slice none 0 0], eBox b9 77 [.slice ad180 s179.length cp181, .slice ad183 s182.length cp184, .slice ad186 s185.length cp187, .slice ad189 s188.length cp190], eRow (rI .i64) 3 (.slice ad227 o226.length cp228) o226, eRow r_api_Loop 48 (.slice ad180 s179.length cp181) s179, eRow (rI .i64) 3 (.slice ad183 s182.length cp184) s182, eRow r_A2_Int 49 (.slice ad186 s185.length cp187) s185, eRow (rI .i64) 3 (.slice ad189 s188.length cp190) s188] [fRep (rL r_api_Stitch) (.slice ad160 r157.length cp161) r157, fRep (rL r_api_Row) (.slice ad3 p0.Rows.length cp4) p0.Rows]) ?_ (fun a w hI => ?_)
  rotate_left
  · obtain ⟨o225, o226, rfl, ad227, cp228, S⟩ := hI
    have h := g230
    clear g230
    try dsimp only at h
    refine sRegion ?_
    refine sMove (iv s96) S (wN rfl) (.inl rfl) rfl rfl (lb rfl) fun a S => ?_
    refine sBin (iv (w64 (s96 + 1))) S (wN rfl) rfl rfl rfl (bAdd _ _ _ _ s96 1) rfl (lb rfl) fun a S => ?_
    refine sMove (iv s178) S (wN rfl) (.inl rfl) rfl rfl (lb rfl) fun a S => ?_
    refine sMove (.slice ad160 r157.length cp161) S (wN rfl) (.inl rfl) rfl rfl (lb rfl) fun a S => ?_
    refine sMove (iv s178) S (wN rfl) (.inl rfl) rfl rfl (lb rfl) fun a S => ?_
    obtain ⟨x262, hx263, h⟩ := bindSome h
    obtain ⟨q264, hq265, S⟩ := pIdx (P := Try.prog) (r := r_api_Stitch) (v := .slice ad160 r157.length cp161) (xs := r157) (j := s178) 62 61 0 S Try.underlying62 rfl rfl hx263
    refine sIdxV (v := .slice ad160 r157.length cp161) (k := .i64) (j := s178) S (wN rfl) rfl rfl rfl hq265 rfl (lb rfl) fun a S => ?_
    obtain ⟨u266, S⟩ := pLoad (r := r_api_Stitch) (q := q264) (x := x262) 0 S rfl
    obtain rfl : u266 = .agg #[.int .u8 x262.Kind, .bool x262.Purl, iv x262.A, iv x262.B] := S.mem.know (i := 1) (e := fRep r_api_Stitch (u266) x262) rfl
    refine sLoadVN (vq := q264) 0 [.int .u8 x262.Kind, .bool x262.Purl, iv x262.A, iv x262.B] S (wN rfl) rfl rfl rfl rfl rfl rfl (lb rfl) fun a S => ?_
    refine sMove (.slice ad227 o226.length cp228) S (wN rfl) (.inl rfl) rfl rfl (lb rfl) fun a S => ?_
    obtain ⟨r267, hx268, h⟩ := bindSome h
    have S := S.shutR (r := (rI .i64)) (T := 3) (v := .slice ad227 o226.length cp228) (xs := o226) 3 rfl
    refine sCall (X := Option Addr × Nat × Option Addr × Nat × Option Addr × Nat × Option Addr × Nat) (f := 47) (vs := [.pointer (some ⟨b9, 0, none⟩), iv (w64 (s96 + 1)), iv s178, .agg #[.int .u8 x262.Kind, .bool x262.Purl, iv x262.A, iv x262.B], .slice ad227 o226.length cp228]) (val := fun _ => .tuple #[]) (B' := fun x => [eBox b9 77 [.slice x.1 r267.Loops.length x.2.1, .slice x.2.2.1 r267.Bound.length x.2.2.2.1, .slice x.2.2.2.2.1 r267.Cross.length x.2.2.2.2.2.1, .slice x.2.2.2.2.2.2.1 r267.Rows.length x.2.2.2.2.2.2.2], eRow r_api_Loop 48 (.slice x.1 r267.Loops.length x.2.1) r267.Loops, eRow (rI .i64) 3 (.slice x.2.2.1 r267.Bound.length x.2.2.2.1) r267.Bound, eRow r_A2_Int 49 (.slice x.2.2.2.2.1 r267.Cross.length x.2.2.2.2.2.1) r267.Cross, eRow (rI .i64) 3 (.slice x.2.2.2.2.2.2.1 r267.Rows.length x.2.2.2.2.2.2.2) r267.Rows]) (D' := fun _ => []) [eBox b9 77 [.slice ad180 s179.length cp181, .slice ad183 s182.length cp184, .slice ad186 s185.length cp187, .slice ad189 s188.length cp190], eRow r_api_Loop 48 (.slice ad180 s179.length cp181) s179, eRow (rI .i64) 3 (.slice ad183 s182.length cp184) s182, eRow r_A2_Int 49 (.slice ad186 s185.length cp187) s185, eRow (rI .i64) 3 (.slice ad189 s188.length cp190) s188] [eBox b6 24 [iv p0.Start, .slice ad3 p0.Rows.length cp4], eBox b7 77 [.slice none 0 0, .slice none 0 0, .slice none 0 0, .slice none 0 0]] [fRep r_api_Stitch (.agg #[.int .u8 x262.Kind, .bool x262.Purl, iv x262.A, iv x262.B]) x262, fRep (rL (rI .i64)) (.slice ad227 o226.length cp228) o226] [2, 3, 4, 5, 6, 0, 1] [2, 0] S (wN rfl) rfl callee47 rfl (by decide) rfl rfl (fun E1 w1 S1 => c_raddleref27_Piece_cell_s1 E1 w1 (raddleref27_Piece.mk s179 s182 s185 s188) b9 ad180 cp181 ad183 cp184 ad186 cp187 ad189 cp190 (w64 (s96 + 1)) s178 x262 (.agg #[.int .u8 x262.Kind, .bool x262.Purl, iv x262.A, iv x262.B]) o226 (.slice ad227 o226.length cp228) r267 hx268 S1) rfl (lb rfl) fun xx a w S => ?_
    obtain ⟨ad269, cp270, ad271, cp272, ad273, cp274, ad275, cp276⟩ := xx
    dsimp only at S
    exact leafL (leafB (leafT (⟨o225, r267.Loops, r267.Bound, r267.Cross, r267.Rows, Option.some.inj h, ad269, cp270, ad271, cp272, ad273, cp274, ad275, cp276, S.fix [5, 6, 0, 1, 2, 3, 4] [4, 5] (by decide) rfl rfl rfl⟩)))
  refine sSeq (fun K231 hK231 => ?_)
  refine sRegion ?_
  refine sMove (iv 0) S (wN rfl) (.inr rfl) rfl rfl (lb rfl) fun a S => ?_
  refine leafL (leafT (hK231 _ _ ?_))
  refine wp_block ?_
  have S := S.nilRow (rI .i64) 3 (α := Int)
  obtain ⟨t239, hl, g238⟩ := bindSome h
  refine sLoop hl (fun s0 a w => match s0 with | (s232, s233, s236) => ∃ ad234, ∃ cp235, St [] E [] w0 89 a w [(1, .pointer (some ⟨b6, 0, none⟩)), (2, .pointer (some ⟨b7, 0, none⟩)), (3, .pointer (some ⟨b9, 0, none⟩)), (5, iv s96), (6, iv s232), (7, .slice ad160 r157.length cp161), (8, iv s178), (9, .slice ad234 s233.length cp235), (10, iv s236)] [eBox b6 24 [iv p0.Start, .slice ad3 p0.Rows.length cp4], eBox b7 77 [.slice none 0 0, .slice none 0 0, .slice none 0 0, .slice none 0 0], eBox b9 77 [.slice ad180 s179.length cp181, .slice ad183 s182.length cp184, .slice ad186 s185.length cp187, .slice ad189 s188.length cp190], eRow (rI .i64) 3 (.slice ad234 s233.length cp235) s233, eRow r_api_Loop 48 (.slice ad180 s179.length cp181) s179, eRow (rI .i64) 3 (.slice ad183 s182.length cp184) s182, eRow r_A2_Int 49 (.slice ad186 s185.length cp187) s185, eRow (rI .i64) 3 (.slice ad189 s188.length cp190) s188] [fRep (rL r_api_Stitch) (.slice ad160 r157.length cp161) r157, fRep (rL r_api_Row) (.slice ad3 p0.Rows.length cp4) p0.Rows]) ⟨none, 0, S.fix [1, 2, 3, 0, 4, 5, 6, 7] [0, 1] (by decide) rfl rfl rfl⟩ ?_
  clear hl h
  intro s0 a w c0 hI h hu237
  obtain ⟨s232, s233, s236⟩ := s0
  unfold raddleref27_Work_l2 at h
  dsimp only at h hI
  obtain ⟨ad234, cp235, S⟩ := hI
  refine sSeq (fun K244 hK244 => ?_)
  refine sSeq (fun K245 hK245 => ?_)
  refine sRegion ?_
  refine sMove (iv s236) S (wN rfl) (.inl rfl) rfl rfl (lb rfl) fun a S => ?_
  refine sMove (.slice ad160 r157.length cp161) S (wN rfl) (.inl rfl) rfl rfl (lb rfl) fun a S => ?_
  refine sMove (iv s178) S (wN rfl) (.inl rfl) rfl rfl (lb rfl) fun a S => ?_
  obtain ⟨x246, hx247, h⟩ := bindSome h
  obtain ⟨q248, hq249, S⟩ := pIdx (P := Try.prog) (r := r_api_Stitch) (v := .slice ad160 r157.length cp161) (xs := r157) (j := s178) 62 61 0 S Try.underlying62 rfl rfl hx247
  refine sIdxV (v := .slice ad160 r157.length cp161) (k := .i64) (j := s178) S (wN rfl) rfl rfl rfl hq249 rfl (lb rfl) fun a S => ?_
  obtain ⟨u250, S⟩ := pLoad (r := r_api_Stitch) (q := q248) (x := x246) 0 S rfl
  obtain rfl : u250 = .agg #[.int .u8 x246.Kind, .bool x246.Purl, iv x246.A, iv x246.B] := S.mem.know (i := 1) (e := fRep r_api_Stitch (u250) x246) rfl
  refine sLoadVN (vq := q248) 0 [.int .u8 x246.Kind, .bool x246.Purl, iv x246.A, iv x246.B] S (wN rfl) rfl rfl rfl rfl rfl rfl (lb rfl) fun a S => ?_
  obtain ⟨r251, hx252, h⟩ := bindSome h
  have S1 := S.mem
  refine sCallQ (X := Unit) (f := 46) (vs := [.agg #[.int .u8 x246.Kind, .bool x246.Purl, iv x246.A, iv x246.B]]) (val := fun _ => iv r251) S (wN rfl) rfl callee46 rfl (S1.quiet [1] rfl) (fun E1 w1 S1 => c_raddleref25_Used E1 w1 x246 (.agg #[.int .u8 x246.Kind, .bool x246.Purl, iv x246.A, iv x246.B]) r251 hx252 S1) rfl (lb rfl) fun _ a w S => ?_
  refine sBin (.bool (decide (s236 < r251))) S (wN rfl) rfl rfl rfl (bLt _ _ _ _ .i64 s236 r251) rfl (lb rfl) fun a S => ?_
  refine leafL (leafT (hK245 _ _ ?_))
  rcases iteSome h with ⟨hc253, h⟩ | ⟨hc253, h⟩
  rotate_left
  · refine sCondF S rfl hc253 ?_
    obtain rfl := Option.some.inj h
    obtain rfl := hu237 _ rfl
    have h := g238
    clear g238
    try dsimp only at h
    exact wp_exit (xThen (xThen (xHit (leafT (⟨s232, s233, Option.some.inj h, ad234, cp235, S.fix [0, 1, 2, 3, 4, 5, 6, 7] [3, 4] (by decide) rfl rfl rfl⟩)))))
  refine sCondT S rfl hc253 ?_
  refine wp_skip (leafT (hK244 _ _ ?_))
  refine sSeq (fun K254 hK254 => ?_)
  refine wp_block ?_
  refine sSeq (fun K255 hK255 => ?_)
  refine sRegion ?_
  refine sMove (.slice ad234 s233.length cp235) S (wN rfl) (.inl rfl) rfl rfl (lb rfl) fun a S => ?_
  refine sMove (iv s232) S (wN rfl) (.inl rfl) rfl rfl (lb rfl) fun a S => ?_
  refine sLit (r := (rI .i64)) (T := 3) (xs := ([s232] : List Int)) [(0, iv s232)] 1 [iv s232] [iv s232] (iv 0) 8 S (wN rfl) rfl rfl Try.underlying32 rfl (by decide) (by decide) (by kernel_rfl) rfl (fun E1 w1 hE => All.cons rfl (All.nil _ _ _)) rfl rfl (lb rfl) fun a w ad256 cp257 S => ?_
  obtain ⟨l258, hx259, h⟩ := bindSome h
  refine sApp (r := (rI .i64)) (T := 3) (xs := s233) (ys := ([s232] : List Int)) (v := .slice ad234 s233.length cp235) (u := .slice ad256 ([s232] : List Int).length cp257) 4 (iv 0) 8 S (wN rfl) rfl Try.underlying32 rfl rfl (by decide) rfl rfl rfl (src_R (T := 3) 0 S.mem rfl) hx259 rfl (lb rfl) fun a w ad260 cp261 S => ?_
  refine sMove (.slice ad260 l258.length cp261) S (wN rfl) (.inr rfl) rfl rfl (lb rfl) fun a S => ?_
  refine leafL (leafT (hK255 _ _ ?_))
  refine sRegion ?_
  refine sMove (iv s232) S (wN rfl) (.inl rfl) rfl rfl (lb rfl) fun a S => ?_
  refine sBin (iv (w64 (s232 + 1))) S (wN rfl) rfl rfl rfl (bAdd _ _ _ _ s232 1) rfl (lb rfl) fun a S => ?_
  refine sMove (iv (w64 (s232 + 1))) S (wN rfl) (.inr rfl) rfl rfl (lb rfl) fun a S => ?_
  refine leafL (leafB (leafT (hK254 _ _ ?_)))
  refine sRegion ?_
  refine sMove (iv s236) S (wN rfl) (.inl rfl) rfl rfl (lb rfl) fun a S => ?_
  refine sBin (iv (w64 (s236 + 1))) S (wN rfl) rfl rfl rfl (bAdd _ _ _ _ s236 1) rfl (lb rfl) fun a S => ?_
  refine sMove (iv (w64 (s236 + 1))) S (wN rfl) (.inr rfl) rfl rfl (lb rfl) fun a S => ?_
  exact leafL (leafT (⟨(w64 (s232 + 1), l258, w64 (s236 + 1)), (Option.some.inj h).symm, ⟨ad260, cp261, S.fix [2, 3, 4, 0, 5, 6, 7, 8] [3, 4] (by decide) rfl rfl rfl⟩⟩))

end Go.Proofs.Yticjoiolfibmlaa
namespace Go.Proofs.Yticjoiolfibmlaa
open Go.RowKit
set_option linter.unusedVariables false

noncomputable def F_raddleref27_Of (p0 : api_Chart) : Option ((List api_Loop) × Int) :=
  Option.bind (F_raddleref26_Check p0) fun r9 =>
  if r9 != 0 then
    some (([] : (List api_Loop)), r9)
  else
    Option.bind (F_raddleref27_Work p0) fun r14 =>
    some (r14.Loops, 0)
def c_raddleref27_Of_val (r : ((List api_Loop) × Int)) (x : Value) : Value := .tuple #[x, .int .i64 r.2]
def c_raddleref27_Of_D (r : ((List api_Loop) × Int)) (x : Value) : List Fact := [fRep (rL r_api_Loop) x r.1]
set_option maxHeartbeats 4000000 in
set_option maxRecDepth 100000 in
theorem c_raddleref27_Of (E : Nat → Prop) (w0 : World) (p0 : api_Chart) (v0 : Value) (r : ((List api_Loop) × Int)) (h : F_raddleref27_Of p0 = some r) (S : St0 E [] w0 w0 [] [fRep r_api_Chart (v0) p0]) :
    Calls Try.prog 12 #[v0] w0 (Ret (X := Value) E [] w0 (c_raddleref27_Of_val r) (fun _ => []) (c_raddleref27_Of_D r)) := by
  unfold F_raddleref27_Of at h
  obtain ⟨u1, rfl, hu2⟩ := S.know (i := 0) (e := fRep r_api_Chart (v0) p0) rfl
  have S := S.learn (fRep (rL r_api_Row) u1 p0.Rows) hu2
  obtain ⟨ad3, cp4, _, rfl, _⟩ := hu2
  refine sEnter (args := [.agg #[iv p0.Start, .slice ad3 p0.Rows.length cp4]]) 12 Try.func12 rfl rfl (by simp) S (fun a S => ?_)
  refine sSeq (fun K5 hK5 => ?_)
  refine sRegion ?_
  refine sBox (v := .agg #[iv p0.Start, .slice ad3 p0.Rows.length cp4]) S (wN rfl) rfl rfl [iv p0.Start, .slice ad3 p0.Rows.length cp4] rfl rfl (lb rfl) fun a b6 w S => ?_
  refine sMove (.slice none 0 0) S (wN rfl) (.inr rfl) rfl rfl (lb rfl) fun a S => ?_
  refine sMove (iv 0) S (wN rfl) (.inr rfl) rfl rfl (lb rfl) fun a S => ?_
  refine leafL (leafT (hK5 _ _ ?_))
  refine sSeq (fun K7 hK7 => ?_)
  refine sSeq (fun K8 hK8 => ?_)
  refine sRegion ?_
  refine sLoadN (p := b6) (off := 0) (T := 24) (vs := [iv p0.Start, .slice ad3 p0.Rows.length cp4]) 0 [iv p0.Start, .slice ad3 p0.Rows.length cp4] S (wN rfl) rfl rfl rfl rfl rfl rfl rfl (lb rfl) fun a S => ?_
  obtain ⟨r9, hx10, h⟩ := bindSome h
  have S1 := S.mem
  refine sCallQ (X := Unit) (f := 21) (vs := [.agg #[iv p0.Start, .slice ad3 p0.Rows.length cp4]]) (val := fun _ => iv r9) S (wN rfl) rfl callee21 rfl (S1.quiet [1] rfl) (fun E1 w1 S1 => c_raddleref26_Check E1 w1 p0 (.agg #[iv p0.Start, .slice ad3 p0.Rows.length cp4]) r9 hx10 S1) rfl (lb rfl) fun _ a w S => ?_
  refine sBin (.bool (r9 != 0)) S (wN rfl) rfl rfl rfl (bNe _ _ _ _ .i64 r9 0) rfl (lb rfl) fun a S => ?_
  refine leafL (leafT (hK8 _ _ ?_))
  rcases iteSome h with ⟨hc11, h⟩ | ⟨hc11, h⟩
  · refine sCondT S rfl hc11 ?_
    refine sSeq (fun K12 hK12 => ?_)
    refine sRegion ?_
    refine sLoadN (p := b6) (off := 0) (T := 24) (vs := [iv p0.Start, .slice ad3 p0.Rows.length cp4]) 0 [iv p0.Start, .slice ad3 p0.Rows.length cp4] S (wN rfl) rfl rfl rfl rfl rfl rfl rfl (lb rfl) fun a S => ?_
    have S1 := S.mem
    refine sCallQ (X := Unit) (f := 21) (vs := [.agg #[iv p0.Start, .slice ad3 p0.Rows.length cp4]]) (val := fun _ => iv r9) S (wN rfl) rfl callee21 rfl (S1.quiet [1] rfl) (fun E1 w1 S1 => c_raddleref26_Check E1 w1 p0 (.agg #[iv p0.Start, .slice ad3 p0.Rows.length cp4]) r9 hx10 S1) rfl (lb rfl) fun _ a w S => ?_
    refine sMove (.slice none 0 0) S (wN rfl) (.inr rfl) rfl rfl (lb rfl) fun a S => ?_
    refine sMove (iv r9) S (wN rfl) (.inr rfl) rfl rfl (lb rfl) fun a S => ?_
    refine leafL (leafT (hK12 _ _ ?_))
    obtain rfl := Option.some.inj h
    have S := S.learn (fRep (rL r_api_Loop) (.slice none 0 0) ([] : (List api_Loop))) (rL_nil _ _ _)
    exact wp_ret (rThen (sRet (.tuple #[.slice none 0 0, iv r9]) S (rsl2 rfl (rvT (t := 2) (v := .slice none 0 0) S rfl) (rvT (t := 3) (v := iv r9) S rfl)) ⟨(.slice none 0 0), rfl, S.mem.sel [] [0] (by decide) rfl rfl⟩))
  refine sCondF S rfl hc11 ?_
  refine wp_skip (leafT (hK7 _ _ ?_))
  refine sSeq (fun K13 hK13 => ?_)
  refine sRegion ?_
  refine sLoadN (p := b6) (off := 0) (T := 24) (vs := [iv p0.Start, .slice ad3 p0.Rows.length cp4]) 0 [iv p0.Start, .slice ad3 p0.Rows.length cp4] S (wN rfl) rfl rfl rfl rfl rfl rfl rfl (lb rfl) fun a S => ?_
  obtain ⟨r14, hx15, h⟩ := bindSome h
  refine sCall (X := Value) (f := 34) (vs := [.agg #[iv p0.Start, .slice ad3 p0.Rows.length cp4]]) (val := c_raddleref27_Work_val r14) (B' := fun _ => []) (D' := c_raddleref27_Work_D r14) [] [eBox b6 24 [iv p0.Start, .slice ad3 p0.Rows.length cp4]] [fRep r_api_Chart (.agg #[iv p0.Start, .slice ad3 p0.Rows.length cp4]) p0] [0] [1] S (wN rfl) rfl callee34 rfl (by decide) rfl rfl (fun E1 w1 S1 => c_raddleref27_Work E1 w1 p0 (.agg #[iv p0.Start, .slice ad3 p0.Rows.length cp4]) r14 hx15 S1) rfl (lb rfl) fun u16 a w S => ?_
  obtain ⟨u17, u18, u19, u20, rfl, hu21, hu22, hu23, hu24⟩ := S.mem.know (i := 0) (e := fRep r_raddleref27_Piece (u16) r14) rfl
  have S := S.learn (fRep (rL r_api_Loop) u17 r14.Loops) hu21
  obtain ⟨ad25, cp26, _, rfl, _⟩ := hu21
  have S := S.learn (fRep (rL (rI .i64)) u18 r14.Bound) hu22
  obtain ⟨ad27, cp28, _, rfl, _⟩ := hu22
  have S := S.learn (fRep (rL r_A2_Int) u19 r14.Cross) hu23
  obtain ⟨ad29, cp30, _, rfl, _⟩ := hu23
  have S := S.learn (fRep (rL (rI .i64)) u20 r14.Rows) hu24
  obtain ⟨ad31, cp32, _, rfl, _⟩ := hu24
  refine sPart (cs := [.slice ad25 r14.Loops.length cp26, .slice ad27 r14.Bound.length cp28, .slice ad29 r14.Cross.length cp30, .slice ad31 r14.Rows.length cp32]) (.slice ad25 r14.Loops.length cp26) S (wN rfl) rfl rfl rfl rfl (lb rfl) fun a S => ?_
  refine sMove (.slice ad25 r14.Loops.length cp26) S (wN rfl) (.inr rfl) rfl rfl (lb rfl) fun a S => ?_
  refine sMove (iv 0) S (wN rfl) (.inr rfl) rfl rfl (lb rfl) fun a S => ?_
  refine leafL (leafT (hK13 _ _ ?_))
  obtain rfl := Option.some.inj h
  exact wp_ret (sRet (.tuple #[.slice ad25 r14.Loops.length cp26, iv 0]) S (rsl2 rfl (rvT (t := 2) (v := .slice ad25 r14.Loops.length cp26) S rfl) (rvT (t := 3) (v := iv 0) S rfl)) ⟨(.slice ad25 r14.Loops.length cp26), rfl, S.mem.sel [] [3] (by decide) rfl rfl⟩)

end Go.Proofs.Yticjoiolfibmlaa
namespace Go.Proofs.Yticjoiolfibmlaa
open Go.RowKit
set_option linter.unusedVariables false

noncomputable def F_raddleref27_Bound (p0 : api_Chart) : Option ((List Int) × Int) :=
  Option.bind (F_raddleref26_Check p0) fun r9 =>
  if r9 != 0 then
    some (([] : (List Int)), r9)
  else
    Option.bind (F_raddleref27_Work p0) fun r14 =>
    some (r14.Bound, 0)
def c_raddleref27_Bound_val (r : ((List Int) × Int)) (x : Value) : Value := .tuple #[x, .int .i64 r.2]
def c_raddleref27_Bound_D (r : ((List Int) × Int)) (x : Value) : List Fact := [fRep (rL (rI .i64)) x r.1]
set_option maxHeartbeats 4000000 in
set_option maxRecDepth 100000 in
theorem c_raddleref27_Bound (E : Nat → Prop) (w0 : World) (p0 : api_Chart) (v0 : Value) (r : ((List Int) × Int)) (h : F_raddleref27_Bound p0 = some r) (S : St0 E [] w0 w0 [] [fRep r_api_Chart (v0) p0]) :
    Calls Try.prog 14 #[v0] w0 (Ret (X := Value) E [] w0 (c_raddleref27_Bound_val r) (fun _ => []) (c_raddleref27_Bound_D r)) := by
  unfold F_raddleref27_Bound at h
  obtain ⟨u1, rfl, hu2⟩ := S.know (i := 0) (e := fRep r_api_Chart (v0) p0) rfl
  have S := S.learn (fRep (rL r_api_Row) u1 p0.Rows) hu2
  obtain ⟨ad3, cp4, _, rfl, _⟩ := hu2
  refine sEnter (args := [.agg #[iv p0.Start, .slice ad3 p0.Rows.length cp4]]) 12 Try.func14 rfl rfl (by simp) S (fun a S => ?_)
  refine sSeq (fun K5 hK5 => ?_)
  refine sRegion ?_
  refine sBox (v := .agg #[iv p0.Start, .slice ad3 p0.Rows.length cp4]) S (wN rfl) rfl rfl [iv p0.Start, .slice ad3 p0.Rows.length cp4] rfl rfl (lb rfl) fun a b6 w S => ?_
  refine sMove (.slice none 0 0) S (wN rfl) (.inr rfl) rfl rfl (lb rfl) fun a S => ?_
  refine sMove (iv 0) S (wN rfl) (.inr rfl) rfl rfl (lb rfl) fun a S => ?_
  refine leafL (leafT (hK5 _ _ ?_))
  refine sSeq (fun K7 hK7 => ?_)
  refine sSeq (fun K8 hK8 => ?_)
  refine sRegion ?_
  refine sLoadN (p := b6) (off := 0) (T := 24) (vs := [iv p0.Start, .slice ad3 p0.Rows.length cp4]) 0 [iv p0.Start, .slice ad3 p0.Rows.length cp4] S (wN rfl) rfl rfl rfl rfl rfl rfl rfl (lb rfl) fun a S => ?_
  obtain ⟨r9, hx10, h⟩ := bindSome h
  have S1 := S.mem
  refine sCallQ (X := Unit) (f := 21) (vs := [.agg #[iv p0.Start, .slice ad3 p0.Rows.length cp4]]) (val := fun _ => iv r9) S (wN rfl) rfl callee21 rfl (S1.quiet [1] rfl) (fun E1 w1 S1 => c_raddleref26_Check E1 w1 p0 (.agg #[iv p0.Start, .slice ad3 p0.Rows.length cp4]) r9 hx10 S1) rfl (lb rfl) fun _ a w S => ?_
  refine sBin (.bool (r9 != 0)) S (wN rfl) rfl rfl rfl (bNe _ _ _ _ .i64 r9 0) rfl (lb rfl) fun a S => ?_
  refine leafL (leafT (hK8 _ _ ?_))
  rcases iteSome h with ⟨hc11, h⟩ | ⟨hc11, h⟩
  · refine sCondT S rfl hc11 ?_
    refine sSeq (fun K12 hK12 => ?_)
    refine sRegion ?_
    refine sLoadN (p := b6) (off := 0) (T := 24) (vs := [iv p0.Start, .slice ad3 p0.Rows.length cp4]) 0 [iv p0.Start, .slice ad3 p0.Rows.length cp4] S (wN rfl) rfl rfl rfl rfl rfl rfl rfl (lb rfl) fun a S => ?_
    have S1 := S.mem
    refine sCallQ (X := Unit) (f := 21) (vs := [.agg #[iv p0.Start, .slice ad3 p0.Rows.length cp4]]) (val := fun _ => iv r9) S (wN rfl) rfl callee21 rfl (S1.quiet [1] rfl) (fun E1 w1 S1 => c_raddleref26_Check E1 w1 p0 (.agg #[iv p0.Start, .slice ad3 p0.Rows.length cp4]) r9 hx10 S1) rfl (lb rfl) fun _ a w S => ?_
    refine sMove (.slice none 0 0) S (wN rfl) (.inr rfl) rfl rfl (lb rfl) fun a S => ?_
    refine sMove (iv r9) S (wN rfl) (.inr rfl) rfl rfl (lb rfl) fun a S => ?_
    refine leafL (leafT (hK12 _ _ ?_))
    obtain rfl := Option.some.inj h
    have S := S.learn (fRep (rL (rI .i64)) (.slice none 0 0) ([] : (List Int))) (rL_nil _ _ _)
    exact wp_ret (rThen (sRet (.tuple #[.slice none 0 0, iv r9]) S (rsl2 rfl (rvT (t := 2) (v := .slice none 0 0) S rfl) (rvT (t := 3) (v := iv r9) S rfl)) ⟨(.slice none 0 0), rfl, S.mem.sel [] [0] (by decide) rfl rfl⟩))
  refine sCondF S rfl hc11 ?_
  refine wp_skip (leafT (hK7 _ _ ?_))
  refine sSeq (fun K13 hK13 => ?_)
  refine sRegion ?_
  refine sLoadN (p := b6) (off := 0) (T := 24) (vs := [iv p0.Start, .slice ad3 p0.Rows.length cp4]) 0 [iv p0.Start, .slice ad3 p0.Rows.length cp4] S (wN rfl) rfl rfl rfl rfl rfl rfl rfl (lb rfl) fun a S => ?_
  obtain ⟨r14, hx15, h⟩ := bindSome h
  refine sCall (X := Value) (f := 34) (vs := [.agg #[iv p0.Start, .slice ad3 p0.Rows.length cp4]]) (val := c_raddleref27_Work_val r14) (B' := fun _ => []) (D' := c_raddleref27_Work_D r14) [] [eBox b6 24 [iv p0.Start, .slice ad3 p0.Rows.length cp4]] [fRep r_api_Chart (.agg #[iv p0.Start, .slice ad3 p0.Rows.length cp4]) p0] [0] [1] S (wN rfl) rfl callee34 rfl (by decide) rfl rfl (fun E1 w1 S1 => c_raddleref27_Work E1 w1 p0 (.agg #[iv p0.Start, .slice ad3 p0.Rows.length cp4]) r14 hx15 S1) rfl (lb rfl) fun u16 a w S => ?_
  obtain ⟨u17, u18, u19, u20, rfl, hu21, hu22, hu23, hu24⟩ := S.mem.know (i := 0) (e := fRep r_raddleref27_Piece (u16) r14) rfl
  have S := S.learn (fRep (rL r_api_Loop) u17 r14.Loops) hu21
  obtain ⟨ad25, cp26, _, rfl, _⟩ := hu21
  have S := S.learn (fRep (rL (rI .i64)) u18 r14.Bound) hu22
  obtain ⟨ad27, cp28, _, rfl, _⟩ := hu22
  have S := S.learn (fRep (rL r_A2_Int) u19 r14.Cross) hu23
  obtain ⟨ad29, cp30, _, rfl, _⟩ := hu23
  have S := S.learn (fRep (rL (rI .i64)) u20 r14.Rows) hu24
  obtain ⟨ad31, cp32, _, rfl, _⟩ := hu24
  refine sPart (cs := [.slice ad25 r14.Loops.length cp26, .slice ad27 r14.Bound.length cp28, .slice ad29 r14.Cross.length cp30, .slice ad31 r14.Rows.length cp32]) (.slice ad27 r14.Bound.length cp28) S (wN rfl) rfl rfl rfl rfl (lb rfl) fun a S => ?_
  refine sMove (.slice ad27 r14.Bound.length cp28) S (wN rfl) (.inr rfl) rfl rfl (lb rfl) fun a S => ?_
  refine sMove (iv 0) S (wN rfl) (.inr rfl) rfl rfl (lb rfl) fun a S => ?_
  refine leafL (leafT (hK13 _ _ ?_))
  obtain rfl := Option.some.inj h
  exact wp_ret (sRet (.tuple #[.slice ad27 r14.Bound.length cp28, iv 0]) S (rsl2 rfl (rvT (t := 2) (v := .slice ad27 r14.Bound.length cp28) S rfl) (rvT (t := 3) (v := iv 0) S rfl)) ⟨(.slice ad27 r14.Bound.length cp28), rfl, S.mem.sel [] [2] (by decide) rfl rfl⟩)

end Go.Proofs.Yticjoiolfibmlaa
namespace Go.Proofs.Yticjoiolfibmlaa
open Go.RowKit
set_option linter.unusedVariables false

noncomputable def F_raddleref27_Crossings (p0 : api_Chart) : Option ((List (Int × Int)) × Int) :=
  Option.bind (F_raddleref26_Check p0) fun r9 =>
  if r9 != 0 then
    some (([] : (List (Int × Int))), r9)
  else
    Option.bind (F_raddleref27_Work p0) fun r14 =>
    some (r14.Cross, 0)
def c_raddleref27_Crossings_val (r : ((List (Int × Int)) × Int)) (x : Value) : Value := .tuple #[x, .int .i64 r.2]
def c_raddleref27_Crossings_D (r : ((List (Int × Int)) × Int)) (x : Value) : List Fact := [fRep (rL r_A2_Int) x r.1]
set_option maxHeartbeats 4000000 in
set_option maxRecDepth 100000 in
theorem c_raddleref27_Crossings (E : Nat → Prop) (w0 : World) (p0 : api_Chart) (v0 : Value) (r : ((List (Int × Int)) × Int)) (h : F_raddleref27_Crossings p0 = some r) (S : St0 E [] w0 w0 [] [fRep r_api_Chart (v0) p0]) :
    Calls Try.prog 16 #[v0] w0 (Ret (X := Value) E [] w0 (c_raddleref27_Crossings_val r) (fun _ => []) (c_raddleref27_Crossings_D r)) := by
  unfold F_raddleref27_Crossings at h
  obtain ⟨u1, rfl, hu2⟩ := S.know (i := 0) (e := fRep r_api_Chart (v0) p0) rfl
  have S := S.learn (fRep (rL r_api_Row) u1 p0.Rows) hu2
  obtain ⟨ad3, cp4, _, rfl, _⟩ := hu2
  refine sEnter (args := [.agg #[iv p0.Start, .slice ad3 p0.Rows.length cp4]]) 12 Try.func16 rfl rfl (by simp) S (fun a S => ?_)
  refine sSeq (fun K5 hK5 => ?_)
  refine sRegion ?_
  refine sBox (v := .agg #[iv p0.Start, .slice ad3 p0.Rows.length cp4]) S (wN rfl) rfl rfl [iv p0.Start, .slice ad3 p0.Rows.length cp4] rfl rfl (lb rfl) fun a b6 w S => ?_
  refine sMove (.slice none 0 0) S (wN rfl) (.inr rfl) rfl rfl (lb rfl) fun a S => ?_
  refine sMove (iv 0) S (wN rfl) (.inr rfl) rfl rfl (lb rfl) fun a S => ?_
  refine leafL (leafT (hK5 _ _ ?_))
  refine sSeq (fun K7 hK7 => ?_)
  refine sSeq (fun K8 hK8 => ?_)
  refine sRegion ?_
  refine sLoadN (p := b6) (off := 0) (T := 24) (vs := [iv p0.Start, .slice ad3 p0.Rows.length cp4]) 0 [iv p0.Start, .slice ad3 p0.Rows.length cp4] S (wN rfl) rfl rfl rfl rfl rfl rfl rfl (lb rfl) fun a S => ?_
  obtain ⟨r9, hx10, h⟩ := bindSome h
  have S1 := S.mem
  refine sCallQ (X := Unit) (f := 21) (vs := [.agg #[iv p0.Start, .slice ad3 p0.Rows.length cp4]]) (val := fun _ => iv r9) S (wN rfl) rfl callee21 rfl (S1.quiet [1] rfl) (fun E1 w1 S1 => c_raddleref26_Check E1 w1 p0 (.agg #[iv p0.Start, .slice ad3 p0.Rows.length cp4]) r9 hx10 S1) rfl (lb rfl) fun _ a w S => ?_
  refine sBin (.bool (r9 != 0)) S (wN rfl) rfl rfl rfl (bNe _ _ _ _ .i64 r9 0) rfl (lb rfl) fun a S => ?_
  refine leafL (leafT (hK8 _ _ ?_))
  rcases iteSome h with ⟨hc11, h⟩ | ⟨hc11, h⟩
  · refine sCondT S rfl hc11 ?_
    refine sSeq (fun K12 hK12 => ?_)
    refine sRegion ?_
    refine sLoadN (p := b6) (off := 0) (T := 24) (vs := [iv p0.Start, .slice ad3 p0.Rows.length cp4]) 0 [iv p0.Start, .slice ad3 p0.Rows.length cp4] S (wN rfl) rfl rfl rfl rfl rfl rfl rfl (lb rfl) fun a S => ?_
    have S1 := S.mem
    refine sCallQ (X := Unit) (f := 21) (vs := [.agg #[iv p0.Start, .slice ad3 p0.Rows.length cp4]]) (val := fun _ => iv r9) S (wN rfl) rfl callee21 rfl (S1.quiet [1] rfl) (fun E1 w1 S1 => c_raddleref26_Check E1 w1 p0 (.agg #[iv p0.Start, .slice ad3 p0.Rows.length cp4]) r9 hx10 S1) rfl (lb rfl) fun _ a w S => ?_
    refine sMove (.slice none 0 0) S (wN rfl) (.inr rfl) rfl rfl (lb rfl) fun a S => ?_
    refine sMove (iv r9) S (wN rfl) (.inr rfl) rfl rfl (lb rfl) fun a S => ?_
    refine leafL (leafT (hK12 _ _ ?_))
    obtain rfl := Option.some.inj h
    have S := S.learn (fRep (rL r_A2_Int) (.slice none 0 0) ([] : (List (Int × Int)))) (rL_nil _ _ _)
    exact wp_ret (rThen (sRet (.tuple #[.slice none 0 0, iv r9]) S (rsl2 rfl (rvT (t := 2) (v := .slice none 0 0) S rfl) (rvT (t := 3) (v := iv r9) S rfl)) ⟨(.slice none 0 0), rfl, S.mem.sel [] [0] (by decide) rfl rfl⟩))
  refine sCondF S rfl hc11 ?_
  refine wp_skip (leafT (hK7 _ _ ?_))
  refine sSeq (fun K13 hK13 => ?_)
  refine sRegion ?_
  refine sLoadN (p := b6) (off := 0) (T := 24) (vs := [iv p0.Start, .slice ad3 p0.Rows.length cp4]) 0 [iv p0.Start, .slice ad3 p0.Rows.length cp4] S (wN rfl) rfl rfl rfl rfl rfl rfl rfl (lb rfl) fun a S => ?_
  obtain ⟨r14, hx15, h⟩ := bindSome h
  refine sCall (X := Value) (f := 34) (vs := [.agg #[iv p0.Start, .slice ad3 p0.Rows.length cp4]]) (val := c_raddleref27_Work_val r14) (B' := fun _ => []) (D' := c_raddleref27_Work_D r14) [] [eBox b6 24 [iv p0.Start, .slice ad3 p0.Rows.length cp4]] [fRep r_api_Chart (.agg #[iv p0.Start, .slice ad3 p0.Rows.length cp4]) p0] [0] [1] S (wN rfl) rfl callee34 rfl (by decide) rfl rfl (fun E1 w1 S1 => c_raddleref27_Work E1 w1 p0 (.agg #[iv p0.Start, .slice ad3 p0.Rows.length cp4]) r14 hx15 S1) rfl (lb rfl) fun u16 a w S => ?_
  obtain ⟨u17, u18, u19, u20, rfl, hu21, hu22, hu23, hu24⟩ := S.mem.know (i := 0) (e := fRep r_raddleref27_Piece (u16) r14) rfl
  have S := S.learn (fRep (rL r_api_Loop) u17 r14.Loops) hu21
  obtain ⟨ad25, cp26, _, rfl, _⟩ := hu21
  have S := S.learn (fRep (rL (rI .i64)) u18 r14.Bound) hu22
  obtain ⟨ad27, cp28, _, rfl, _⟩ := hu22
  have S := S.learn (fRep (rL r_A2_Int) u19 r14.Cross) hu23
  obtain ⟨ad29, cp30, _, rfl, _⟩ := hu23
  have S := S.learn (fRep (rL (rI .i64)) u20 r14.Rows) hu24
  obtain ⟨ad31, cp32, _, rfl, _⟩ := hu24
  refine sPart (cs := [.slice ad25 r14.Loops.length cp26, .slice ad27 r14.Bound.length cp28, .slice ad29 r14.Cross.length cp30, .slice ad31 r14.Rows.length cp32]) (.slice ad29 r14.Cross.length cp30) S (wN rfl) rfl rfl rfl rfl (lb rfl) fun a S => ?_
  refine sMove (.slice ad29 r14.Cross.length cp30) S (wN rfl) (.inr rfl) rfl rfl (lb rfl) fun a S => ?_
  refine sMove (iv 0) S (wN rfl) (.inr rfl) rfl rfl (lb rfl) fun a S => ?_
  refine leafL (leafT (hK13 _ _ ?_))
  obtain rfl := Option.some.inj h
  exact wp_ret (sRet (.tuple #[.slice ad29 r14.Cross.length cp30, iv 0]) S (rsl2 rfl (rvT (t := 2) (v := .slice ad29 r14.Cross.length cp30) S rfl) (rvT (t := 3) (v := iv 0) S rfl)) ⟨(.slice ad29 r14.Cross.length cp30), rfl, S.mem.sel [] [1] (by decide) rfl rfl⟩)

end Go.Proofs.Yticjoiolfibmlaa
namespace Go.Proofs.Yticjoiolfibmlaa
open Go.RowKit
set_option linter.unusedVariables false

noncomputable def F_loops_Of (p0 : api_Chart) : Option ((List api_Loop) × Int) :=
  Option.bind (F_loops_of p0) fun r8 =>
  some (r8.1.loops, r8.2)
def c_loops_Of_val (r : ((List api_Loop) × Int)) (x : Value) : Value := .tuple #[x, .int .i64 r.2]
def c_loops_Of_D (r : ((List api_Loop) × Int)) (x : Value) : List Fact := [fRep (rL r_api_Loop) x r.1]
set_option maxHeartbeats 4000000 in
set_option maxRecDepth 100000 in
theorem c_loops_Of (E : Nat → Prop) (w0 : World) (p0 : api_Chart) (v0 : Value) (r : ((List api_Loop) × Int)) (h : F_loops_Of p0 = some r) (S : St0 E [] w0 w0 [] [fRep r_api_Chart (v0) p0]) :
    Calls Try.prog 11 #[v0] w0 (Ret (X := Value) E [] w0 (c_loops_Of_val r) (fun _ => []) (c_loops_Of_D r)) := by
  unfold F_loops_Of at h
  obtain ⟨u1, rfl, hu2⟩ := S.know (i := 0) (e := fRep r_api_Chart (v0) p0) rfl
  have S := S.learn (fRep (rL r_api_Row) u1 p0.Rows) hu2
  obtain ⟨ad3, cp4, _, rfl, _⟩ := hu2
  refine sEnter (args := [.agg #[iv p0.Start, .slice ad3 p0.Rows.length cp4]]) 14 Try.func11 rfl rfl (by simp) S (fun a S => ?_)
  refine sSeq (fun K5 hK5 => ?_)
  refine sRegion ?_
  refine sBox (v := .agg #[iv p0.Start, .slice ad3 p0.Rows.length cp4]) S (wN rfl) rfl rfl [iv p0.Start, .slice ad3 p0.Rows.length cp4] rfl rfl (lb rfl) fun a b6 w S => ?_
  refine sMove (.slice none 0 0) S (wN rfl) (.inr rfl) rfl rfl (lb rfl) fun a S => ?_
  refine sMove (iv 0) S (wN rfl) (.inr rfl) rfl rfl (lb rfl) fun a S => ?_
  refine leafL (leafT (hK5 _ _ ?_))
  refine sSeq (fun K7 hK7 => ?_)
  refine sRegion ?_
  refine sLoadN (p := b6) (off := 0) (T := 24) (vs := [iv p0.Start, .slice ad3 p0.Rows.length cp4]) 0 [iv p0.Start, .slice ad3 p0.Rows.length cp4] S (wN rfl) rfl rfl rfl rfl rfl rfl rfl (lb rfl) fun a S => ?_
  obtain ⟨r8, hx9, h⟩ := bindSome h
  refine sCall (X := Value) (f := 33) (vs := [.agg #[iv p0.Start, .slice ad3 p0.Rows.length cp4]]) (val := c_loops_of_val r8) (B' := fun _ => []) (D' := c_loops_of_D r8) [] [eBox b6 24 [iv p0.Start, .slice ad3 p0.Rows.length cp4]] [fRep r_api_Chart (.agg #[iv p0.Start, .slice ad3 p0.Rows.length cp4]) p0] [0] [1] S (wN rfl) rfl callee33 rfl (by decide) rfl rfl (fun E1 w1 S1 => c_loops_of E1 w1 p0 (.agg #[iv p0.Start, .slice ad3 p0.Rows.length cp4]) r8 hx9 S1) rfl (lb rfl) fun u10 a w S => ?_
  obtain ⟨u11, u12, u13, u14, rfl, hu15, hu16, hu17, hu18⟩ := S.mem.know (i := 0) (e := fRep r_loops_piece (u10) r8.1) rfl
  have S := S.learn (fRep (rL r_api_Loop) u11 r8.1.loops) hu15
  obtain ⟨ad19, cp20, _, rfl, _⟩ := hu15
  have S := S.learn (fRep (rL (rI .i64)) u12 r8.1.rows) hu16
  obtain ⟨ad21, cp22, _, rfl, _⟩ := hu16
  have S := S.learn (fRep (rL (rI .i64)) u13 r8.1.bound) hu17
  obtain ⟨ad23, cp24, _, rfl, _⟩ := hu17
  have S := S.learn (fRep (rL r_A2_Int) u14 r8.1.cross) hu18
  obtain ⟨ad25, cp26, _, rfl, _⟩ := hu18
  refine sMove (.tuple #[.agg #[.slice ad19 r8.1.loops.length cp20, .slice ad21 r8.1.rows.length cp22, .slice ad23 r8.1.bound.length cp24, .slice ad25 r8.1.cross.length cp26, iv r8.1.next], iv r8.2]) S (wN rfl) (.inl rfl) rfl rfl (lb rfl) fun a S => ?_
  refine sExtract (vs := [.agg #[.slice ad19 r8.1.loops.length cp20, .slice ad21 r8.1.rows.length cp22, .slice ad23 r8.1.bound.length cp24, .slice ad25 r8.1.cross.length cp26, iv r8.1.next], iv r8.2]) (.agg #[.slice ad19 r8.1.loops.length cp20, .slice ad21 r8.1.rows.length cp22, .slice ad23 r8.1.bound.length cp24, .slice ad25 r8.1.cross.length cp26, iv r8.1.next]) S (wN rfl) rfl rfl rfl rfl (lb rfl) fun a S => ?_
  refine sExtract (vs := [.agg #[.slice ad19 r8.1.loops.length cp20, .slice ad21 r8.1.rows.length cp22, .slice ad23 r8.1.bound.length cp24, .slice ad25 r8.1.cross.length cp26, iv r8.1.next], iv r8.2]) (iv r8.2) S (wN rfl) rfl rfl rfl rfl (lb rfl) fun a S => ?_
  refine sAlloc (.agg #[.slice none 0 0, .slice none 0 0, .slice none 0 0, .slice none 0 0, iv 0]) S (wN rfl) rfl rfl [.slice none 0 0, .slice none 0 0, .slice none 0 0, .slice none 0 0, iv 0] rfl rfl (lb rfl) fun a b27 w S => ?_
  refine sStore (p := b27) (off := 0) (T := 73) (vs := [.slice none 0 0, .slice none 0 0, .slice none 0 0, .slice none 0 0, iv 0]) (v := .agg #[.slice ad19 r8.1.loops.length cp20, .slice ad21 r8.1.rows.length cp22, .slice ad23 r8.1.bound.length cp24, .slice ad25 r8.1.cross.length cp26, iv r8.1.next]) 0 [.slice ad19 r8.1.loops.length cp20, .slice ad21 r8.1.rows.length cp22, .slice ad23 r8.1.bound.length cp24, .slice ad25 r8.1.cross.length cp26, iv r8.1.next] S (wN rfl) rfl rfl rfl rfl rfl rfl rfl (by simp) rfl fun a w S => ?_
  refine sMove (iv r8.2) S (wN rfl) (.inr rfl) rfl rfl (lb rfl) fun a S => ?_
  refine leafL (leafT (hK7 _ _ ?_))
  refine sSeq (fun K28 hK28 => ?_)
  refine sRegion ?_
  refine sField (b := b27) (off := 0) 0 0 S (wN rfl) rfl rfl rfl rfl rfl (lb rfl) fun a S => ?_
  refine sLoad1 (p := b27) (off := 0) (T := 73) (vs := [.slice ad19 r8.1.loops.length cp20, .slice ad21 r8.1.rows.length cp22, .slice ad23 r8.1.bound.length cp24, .slice ad25 r8.1.cross.length cp26, iv r8.1.next]) 0 (.slice ad19 r8.1.loops.length cp20) S (wN rfl) rfl rfl rfl rfl rfl rfl (lb rfl) fun a S => ?_
  refine sMove (iv r8.2) S (wN rfl) (.inl rfl) rfl rfl (lb rfl) fun a S => ?_
  refine sMove (.slice ad19 r8.1.loops.length cp20) S (wN rfl) (.inr rfl) rfl rfl (lb rfl) fun a S => ?_
  refine sMove (iv r8.2) S (wN rfl) (.inr rfl) rfl rfl (lb rfl) fun a S => ?_
  refine leafL (leafT (hK28 _ _ ?_))
  obtain rfl := Option.some.inj h
  exact wp_ret (sRet (.tuple #[.slice ad19 r8.1.loops.length cp20, iv r8.2]) S (rsl2 rfl (rvT (t := 2) (v := .slice ad19 r8.1.loops.length cp20) S rfl) (rvT (t := 3) (v := iv r8.2) S rfl)) ⟨(.slice ad19 r8.1.loops.length cp20), rfl, S.mem.sel [] [3] (by decide) rfl rfl⟩)

end Go.Proofs.Yticjoiolfibmlaa
namespace Go.Proofs.Yticjoiolfibmlaa
open Go.RowKit
set_option linter.unusedVariables false

noncomputable def F_loops_Bound (p0 : api_Chart) : Option ((List Int) × Int) :=
  Option.bind (F_loops_of p0) fun r8 =>
  some (r8.1.bound, r8.2)
def c_loops_Bound_val (r : ((List Int) × Int)) (x : Value) : Value := .tuple #[x, .int .i64 r.2]
def c_loops_Bound_D (r : ((List Int) × Int)) (x : Value) : List Fact := [fRep (rL (rI .i64)) x r.1]
set_option maxHeartbeats 4000000 in
set_option maxRecDepth 100000 in
theorem c_loops_Bound (E : Nat → Prop) (w0 : World) (p0 : api_Chart) (v0 : Value) (r : ((List Int) × Int)) (h : F_loops_Bound p0 = some r) (S : St0 E [] w0 w0 [] [fRep r_api_Chart (v0) p0]) :
    Calls Try.prog 13 #[v0] w0 (Ret (X := Value) E [] w0 (c_loops_Bound_val r) (fun _ => []) (c_loops_Bound_D r)) := by
  unfold F_loops_Bound at h
  obtain ⟨u1, rfl, hu2⟩ := S.know (i := 0) (e := fRep r_api_Chart (v0) p0) rfl
  have S := S.learn (fRep (rL r_api_Row) u1 p0.Rows) hu2
  obtain ⟨ad3, cp4, _, rfl, _⟩ := hu2
  refine sEnter (args := [.agg #[iv p0.Start, .slice ad3 p0.Rows.length cp4]]) 14 Try.func13 rfl rfl (by simp) S (fun a S => ?_)
  refine sSeq (fun K5 hK5 => ?_)
  refine sRegion ?_
  refine sBox (v := .agg #[iv p0.Start, .slice ad3 p0.Rows.length cp4]) S (wN rfl) rfl rfl [iv p0.Start, .slice ad3 p0.Rows.length cp4] rfl rfl (lb rfl) fun a b6 w S => ?_
  refine sMove (.slice none 0 0) S (wN rfl) (.inr rfl) rfl rfl (lb rfl) fun a S => ?_
  refine sMove (iv 0) S (wN rfl) (.inr rfl) rfl rfl (lb rfl) fun a S => ?_
  refine leafL (leafT (hK5 _ _ ?_))
  refine sSeq (fun K7 hK7 => ?_)
  refine sRegion ?_
  refine sLoadN (p := b6) (off := 0) (T := 24) (vs := [iv p0.Start, .slice ad3 p0.Rows.length cp4]) 0 [iv p0.Start, .slice ad3 p0.Rows.length cp4] S (wN rfl) rfl rfl rfl rfl rfl rfl rfl (lb rfl) fun a S => ?_
  obtain ⟨r8, hx9, h⟩ := bindSome h
  refine sCall (X := Value) (f := 33) (vs := [.agg #[iv p0.Start, .slice ad3 p0.Rows.length cp4]]) (val := c_loops_of_val r8) (B' := fun _ => []) (D' := c_loops_of_D r8) [] [eBox b6 24 [iv p0.Start, .slice ad3 p0.Rows.length cp4]] [fRep r_api_Chart (.agg #[iv p0.Start, .slice ad3 p0.Rows.length cp4]) p0] [0] [1] S (wN rfl) rfl callee33 rfl (by decide) rfl rfl (fun E1 w1 S1 => c_loops_of E1 w1 p0 (.agg #[iv p0.Start, .slice ad3 p0.Rows.length cp4]) r8 hx9 S1) rfl (lb rfl) fun u10 a w S => ?_
  obtain ⟨u11, u12, u13, u14, rfl, hu15, hu16, hu17, hu18⟩ := S.mem.know (i := 0) (e := fRep r_loops_piece (u10) r8.1) rfl
  have S := S.learn (fRep (rL r_api_Loop) u11 r8.1.loops) hu15
  obtain ⟨ad19, cp20, _, rfl, _⟩ := hu15
  have S := S.learn (fRep (rL (rI .i64)) u12 r8.1.rows) hu16
  obtain ⟨ad21, cp22, _, rfl, _⟩ := hu16
  have S := S.learn (fRep (rL (rI .i64)) u13 r8.1.bound) hu17
  obtain ⟨ad23, cp24, _, rfl, _⟩ := hu17
  have S := S.learn (fRep (rL r_A2_Int) u14 r8.1.cross) hu18
  obtain ⟨ad25, cp26, _, rfl, _⟩ := hu18
  refine sMove (.tuple #[.agg #[.slice ad19 r8.1.loops.length cp20, .slice ad21 r8.1.rows.length cp22, .slice ad23 r8.1.bound.length cp24, .slice ad25 r8.1.cross.length cp26, iv r8.1.next], iv r8.2]) S (wN rfl) (.inl rfl) rfl rfl (lb rfl) fun a S => ?_
  refine sExtract (vs := [.agg #[.slice ad19 r8.1.loops.length cp20, .slice ad21 r8.1.rows.length cp22, .slice ad23 r8.1.bound.length cp24, .slice ad25 r8.1.cross.length cp26, iv r8.1.next], iv r8.2]) (.agg #[.slice ad19 r8.1.loops.length cp20, .slice ad21 r8.1.rows.length cp22, .slice ad23 r8.1.bound.length cp24, .slice ad25 r8.1.cross.length cp26, iv r8.1.next]) S (wN rfl) rfl rfl rfl rfl (lb rfl) fun a S => ?_
  refine sExtract (vs := [.agg #[.slice ad19 r8.1.loops.length cp20, .slice ad21 r8.1.rows.length cp22, .slice ad23 r8.1.bound.length cp24, .slice ad25 r8.1.cross.length cp26, iv r8.1.next], iv r8.2]) (iv r8.2) S (wN rfl) rfl rfl rfl rfl (lb rfl) fun a S => ?_
  refine sAlloc (.agg #[.slice none 0 0, .slice none 0 0, .slice none 0 0, .slice none 0 0, iv 0]) S (wN rfl) rfl rfl [.slice none 0 0, .slice none 0 0, .slice none 0 0, .slice none 0 0, iv 0] rfl rfl (lb rfl) fun a b27 w S => ?_
  refine sStore (p := b27) (off := 0) (T := 73) (vs := [.slice none 0 0, .slice none 0 0, .slice none 0 0, .slice none 0 0, iv 0]) (v := .agg #[.slice ad19 r8.1.loops.length cp20, .slice ad21 r8.1.rows.length cp22, .slice ad23 r8.1.bound.length cp24, .slice ad25 r8.1.cross.length cp26, iv r8.1.next]) 0 [.slice ad19 r8.1.loops.length cp20, .slice ad21 r8.1.rows.length cp22, .slice ad23 r8.1.bound.length cp24, .slice ad25 r8.1.cross.length cp26, iv r8.1.next] S (wN rfl) rfl rfl rfl rfl rfl rfl rfl (by simp) rfl fun a w S => ?_
  refine sMove (iv r8.2) S (wN rfl) (.inr rfl) rfl rfl (lb rfl) fun a S => ?_
  refine leafL (leafT (hK7 _ _ ?_))
  refine sSeq (fun K28 hK28 => ?_)
  refine sRegion ?_
  refine sField (b := b27) (off := 0) 2 2 S (wN rfl) rfl rfl rfl rfl rfl (lb rfl) fun a S => ?_
  refine sLoad1 (p := b27) (off := 2) (T := 73) (vs := [.slice ad19 r8.1.loops.length cp20, .slice ad21 r8.1.rows.length cp22, .slice ad23 r8.1.bound.length cp24, .slice ad25 r8.1.cross.length cp26, iv r8.1.next]) 0 (.slice ad23 r8.1.bound.length cp24) S (wN rfl) rfl rfl rfl rfl rfl rfl (lb rfl) fun a S => ?_
  refine sMove (iv r8.2) S (wN rfl) (.inl rfl) rfl rfl (lb rfl) fun a S => ?_
  refine sMove (.slice ad23 r8.1.bound.length cp24) S (wN rfl) (.inr rfl) rfl rfl (lb rfl) fun a S => ?_
  refine sMove (iv r8.2) S (wN rfl) (.inr rfl) rfl rfl (lb rfl) fun a S => ?_
  refine leafL (leafT (hK28 _ _ ?_))
  obtain rfl := Option.some.inj h
  exact wp_ret (sRet (.tuple #[.slice ad23 r8.1.bound.length cp24, iv r8.2]) S (rsl2 rfl (rvT (t := 2) (v := .slice ad23 r8.1.bound.length cp24) S rfl) (rvT (t := 3) (v := iv r8.2) S rfl)) ⟨(.slice ad23 r8.1.bound.length cp24), rfl, S.mem.sel [] [1] (by decide) rfl rfl⟩)

end Go.Proofs.Yticjoiolfibmlaa
namespace Go.Proofs.Yticjoiolfibmlaa
open Go.RowKit
set_option linter.unusedVariables false

noncomputable def F_loops_Crossings (p0 : api_Chart) : Option ((List (Int × Int)) × Int) :=
  Option.bind (F_loops_of p0) fun r8 =>
  some (r8.1.cross, r8.2)
def c_loops_Crossings_val (r : ((List (Int × Int)) × Int)) (x : Value) : Value := .tuple #[x, .int .i64 r.2]
def c_loops_Crossings_D (r : ((List (Int × Int)) × Int)) (x : Value) : List Fact := [fRep (rL r_A2_Int) x r.1]
set_option maxHeartbeats 4000000 in
set_option maxRecDepth 100000 in
theorem c_loops_Crossings (E : Nat → Prop) (w0 : World) (p0 : api_Chart) (v0 : Value) (r : ((List (Int × Int)) × Int)) (h : F_loops_Crossings p0 = some r) (S : St0 E [] w0 w0 [] [fRep r_api_Chart (v0) p0]) :
    Calls Try.prog 15 #[v0] w0 (Ret (X := Value) E [] w0 (c_loops_Crossings_val r) (fun _ => []) (c_loops_Crossings_D r)) := by
  unfold F_loops_Crossings at h
  obtain ⟨u1, rfl, hu2⟩ := S.know (i := 0) (e := fRep r_api_Chart (v0) p0) rfl
  have S := S.learn (fRep (rL r_api_Row) u1 p0.Rows) hu2
  obtain ⟨ad3, cp4, _, rfl, _⟩ := hu2
  refine sEnter (args := [.agg #[iv p0.Start, .slice ad3 p0.Rows.length cp4]]) 14 Try.func15 rfl rfl (by simp) S (fun a S => ?_)
  refine sSeq (fun K5 hK5 => ?_)
  refine sRegion ?_
  refine sBox (v := .agg #[iv p0.Start, .slice ad3 p0.Rows.length cp4]) S (wN rfl) rfl rfl [iv p0.Start, .slice ad3 p0.Rows.length cp4] rfl rfl (lb rfl) fun a b6 w S => ?_
  refine sMove (.slice none 0 0) S (wN rfl) (.inr rfl) rfl rfl (lb rfl) fun a S => ?_
  refine sMove (iv 0) S (wN rfl) (.inr rfl) rfl rfl (lb rfl) fun a S => ?_
  refine leafL (leafT (hK5 _ _ ?_))
  refine sSeq (fun K7 hK7 => ?_)
  refine sRegion ?_
  refine sLoadN (p := b6) (off := 0) (T := 24) (vs := [iv p0.Start, .slice ad3 p0.Rows.length cp4]) 0 [iv p0.Start, .slice ad3 p0.Rows.length cp4] S (wN rfl) rfl rfl rfl rfl rfl rfl rfl (lb rfl) fun a S => ?_
  obtain ⟨r8, hx9, h⟩ := bindSome h
  refine sCall (X := Value) (f := 33) (vs := [.agg #[iv p0.Start, .slice ad3 p0.Rows.length cp4]]) (val := c_loops_of_val r8) (B' := fun _ => []) (D' := c_loops_of_D r8) [] [eBox b6 24 [iv p0.Start, .slice ad3 p0.Rows.length cp4]] [fRep r_api_Chart (.agg #[iv p0.Start, .slice ad3 p0.Rows.length cp4]) p0] [0] [1] S (wN rfl) rfl callee33 rfl (by decide) rfl rfl (fun E1 w1 S1 => c_loops_of E1 w1 p0 (.agg #[iv p0.Start, .slice ad3 p0.Rows.length cp4]) r8 hx9 S1) rfl (lb rfl) fun u10 a w S => ?_
  obtain ⟨u11, u12, u13, u14, rfl, hu15, hu16, hu17, hu18⟩ := S.mem.know (i := 0) (e := fRep r_loops_piece (u10) r8.1) rfl
  have S := S.learn (fRep (rL r_api_Loop) u11 r8.1.loops) hu15
  obtain ⟨ad19, cp20, _, rfl, _⟩ := hu15
  have S := S.learn (fRep (rL (rI .i64)) u12 r8.1.rows) hu16
  obtain ⟨ad21, cp22, _, rfl, _⟩ := hu16
  have S := S.learn (fRep (rL (rI .i64)) u13 r8.1.bound) hu17
  obtain ⟨ad23, cp24, _, rfl, _⟩ := hu17
  have S := S.learn (fRep (rL r_A2_Int) u14 r8.1.cross) hu18
  obtain ⟨ad25, cp26, _, rfl, _⟩ := hu18
  refine sMove (.tuple #[.agg #[.slice ad19 r8.1.loops.length cp20, .slice ad21 r8.1.rows.length cp22, .slice ad23 r8.1.bound.length cp24, .slice ad25 r8.1.cross.length cp26, iv r8.1.next], iv r8.2]) S (wN rfl) (.inl rfl) rfl rfl (lb rfl) fun a S => ?_
  refine sExtract (vs := [.agg #[.slice ad19 r8.1.loops.length cp20, .slice ad21 r8.1.rows.length cp22, .slice ad23 r8.1.bound.length cp24, .slice ad25 r8.1.cross.length cp26, iv r8.1.next], iv r8.2]) (.agg #[.slice ad19 r8.1.loops.length cp20, .slice ad21 r8.1.rows.length cp22, .slice ad23 r8.1.bound.length cp24, .slice ad25 r8.1.cross.length cp26, iv r8.1.next]) S (wN rfl) rfl rfl rfl rfl (lb rfl) fun a S => ?_
  refine sExtract (vs := [.agg #[.slice ad19 r8.1.loops.length cp20, .slice ad21 r8.1.rows.length cp22, .slice ad23 r8.1.bound.length cp24, .slice ad25 r8.1.cross.length cp26, iv r8.1.next], iv r8.2]) (iv r8.2) S (wN rfl) rfl rfl rfl rfl (lb rfl) fun a S => ?_
  refine sAlloc (.agg #[.slice none 0 0, .slice none 0 0, .slice none 0 0, .slice none 0 0, iv 0]) S (wN rfl) rfl rfl [.slice none 0 0, .slice none 0 0, .slice none 0 0, .slice none 0 0, iv 0] rfl rfl (lb rfl) fun a b27 w S => ?_
  refine sStore (p := b27) (off := 0) (T := 73) (vs := [.slice none 0 0, .slice none 0 0, .slice none 0 0, .slice none 0 0, iv 0]) (v := .agg #[.slice ad19 r8.1.loops.length cp20, .slice ad21 r8.1.rows.length cp22, .slice ad23 r8.1.bound.length cp24, .slice ad25 r8.1.cross.length cp26, iv r8.1.next]) 0 [.slice ad19 r8.1.loops.length cp20, .slice ad21 r8.1.rows.length cp22, .slice ad23 r8.1.bound.length cp24, .slice ad25 r8.1.cross.length cp26, iv r8.1.next] S (wN rfl) rfl rfl rfl rfl rfl rfl rfl (by simp) rfl fun a w S => ?_
  refine sMove (iv r8.2) S (wN rfl) (.inr rfl) rfl rfl (lb rfl) fun a S => ?_
  refine leafL (leafT (hK7 _ _ ?_))
  refine sSeq (fun K28 hK28 => ?_)
  refine sRegion ?_
  refine sField (b := b27) (off := 0) 3 3 S (wN rfl) rfl rfl rfl rfl rfl (lb rfl) fun a S => ?_
  refine sLoad1 (p := b27) (off := 3) (T := 73) (vs := [.slice ad19 r8.1.loops.length cp20, .slice ad21 r8.1.rows.length cp22, .slice ad23 r8.1.bound.length cp24, .slice ad25 r8.1.cross.length cp26, iv r8.1.next]) 0 (.slice ad25 r8.1.cross.length cp26) S (wN rfl) rfl rfl rfl rfl rfl rfl (lb rfl) fun a S => ?_
  refine sMove (iv r8.2) S (wN rfl) (.inl rfl) rfl rfl (lb rfl) fun a S => ?_
  refine sMove (.slice ad25 r8.1.cross.length cp26) S (wN rfl) (.inr rfl) rfl rfl (lb rfl) fun a S => ?_
  refine sMove (iv r8.2) S (wN rfl) (.inr rfl) rfl rfl (lb rfl) fun a S => ?_
  refine leafL (leafT (hK28 _ _ ?_))
  obtain rfl := Option.some.inj h
  exact wp_ret (sRet (.tuple #[.slice ad25 r8.1.cross.length cp26, iv r8.2]) S (rsl2 rfl (rvT (t := 2) (v := .slice ad25 r8.1.cross.length cp26) S rfl) (rvT (t := 3) (v := iv r8.2) S rfl)) ⟨(.slice ad25 r8.1.cross.length cp26), rfl, S.mem.sel [] [0] (by decide) rfl rfl⟩)

end Go.Proofs.Yticjoiolfibmlaa
namespace Go.Proofs.Yticjoiolfibmlaa
open Go.RowKit
set_option linter.unusedVariables false

theorem loop_sq {S τ : Type} {B : S → Option (S ⊕ τ)} {s0 : S} (c : Nat → S) (n : Nat) {t : τ} (h0 : s0 = c 0) (h : ∀ k, k < n → B (c k) = some (.inl (c (k + 1)))) (hn : B (c n) = some (.inr t)) : whileO B s0 = some t := by
  subst h0; exact loop_seq c n h hn
theorem take_snoc {α : Type} (l : List α) {k : Nat} (h : k < l.length) : l.take (k + 1) = l.take k ++ [l[k]] := List.take_succ_eq_append_getElem h
theorem add_eq (p : loops_piece) (l : api_Loop) (ps : List (List Int)) (h : p.loops.length + ps.length ≤ 1000000) : F_loops_piece_add_s1 p l ps = some ⟨p.loops ++ ps.map (fun q => ⟨l.Row, l.Cell, q, l.Purl⟩), p.rows, p.bound, p.cross, p.next⟩ := by
  have key : whileO (loops_piece_add_s1_l1 ps l) (0, p.loops, l.Parents) = some (p.loops ++ ps.map (fun q => (⟨l.Row, l.Cell, q, l.Purl⟩ : api_Loop))) := by
    refine loop_sq (fun k => ((k : Int), p.loops ++ (ps.take k).map (fun q => (⟨l.Row, l.Cell, q, l.Purl⟩ : api_Loop)), if k = 0 then l.Parents else ps.getD (k - 1) [])) ps.length (by simp) ?_ ?_
    · intro k hk
      unfold loops_piece_add_s1_l1
      simp only [dT (show (k : Int) < (ps.length : Int) by omega), if_true, idxO_nat hk, Option.bind_some, w64_succ (show k < 9223372036854775807 by omega)]
      have e3 : (if k + 1 = 0 then l.Parents else ps.getD (k + 1 - 1) []) = ps[k] := by simp [List.getD_eq_getElem?_getD, List.getElem?_eq_getElem hk]
      rw [appO_of (by simp; omega), Option.bind_some, take_snoc _ hk, e3, List.map_append, List.append_assoc]; rfl
    · unfold loops_piece_add_s1_l1
      simp only [dF (show ¬ (ps.length : Int) < (ps.length : Int) by omega), Bool.false_eq_true, if_false, List.take_length]
  unfold F_loops_piece_add_s1
  rw [key]; rfl
theorem set_ups (u k : Nat) {i : Nat} (hi : i < k) : (ups u i ++ List.replicate (k - i) (0 : Int)).set i ((u + i : Nat) : Int) = ups u (i + 1) ++ List.replicate (k - (i + 1)) 0 := by
  obtain ⟨m, hm⟩ : ∃ m, k - i = m + 1 := ⟨k - i - 1, by omega⟩
  rw [hm, List.replicate_succ, List.set_append_right _ _ (by rw [ups_len]; exact Nat.le_refl _), ups_len, Nat.sub_self, List.set_cons_zero, ups_succ, List.append_assoc, show k - (i + 1) = m by omega]
  rfl
theorem take_eq {p : loops_piece} {u k : Nat} (hu : p.next = (u : Int)) (hb : u + k ≤ 1000000) : F_loops_piece_take_s3 p (k : Int) = some (ups u k, ⟨p.loops, p.rows, p.bound, p.cross, ((u + k : Nat) : Int)⟩) := by
  have key : whileO (loops_piece_take_s3_l1 (List.replicate k 0) p) (List.replicate k 0, 0) = some (ups u k) := by
    refine loop_sq (fun i => (ups u i ++ List.replicate (k - i) (0 : Int), (i : Int))) k (by simp [ups]) ?_ ?_
    · intro i hi
      unfold loops_piece_take_s3_l1
      have hlen : (ups u i ++ List.replicate (k - i) (0 : Int)).length = k := by simp [ups_len]; omega
      simp only [dT (show (i : Int) < ((List.replicate k (0 : Int)).length : Int) by rw [List.length_replicate]; omega), if_true]
      rw [idxO_nat (by rw [hlen]; exact hi), Option.bind_some, hu, show w64 ((u : Int) + (i : Int)) = ((u + i : Nat) : Int) by rw [w64_of (by omega) (by omega)]; omega, setO_nat (by rw [hlen]; exact hi), Option.bind_some, set_ups u k hi, w64_succ (by omega)]
    · unfold loops_piece_take_s3_l1
      simp only [dF (show ¬ (k : Int) < ((List.replicate k (0 : Int)).length : Int) by rw [List.length_replicate]; omega), Bool.false_eq_true, if_false, Nat.sub_self, List.replicate_zero, List.append_nil]
  unfold F_loops_piece_take_s3
  rw [makeO_of rfl (by omega), Option.bind_some, key, hu, show w64 ((u : Int) + (k : Int)) = ((u + k : Nat) : Int) by rw [w64_of (by omega) (by omega)]; omega]
  rfl
theorem uses_one {p : api_Stitch} (hp : okS p) : F_stitch_Uses [p] = some (usedS p, 0) := by
  have hb := okS_bd hp
  have h0 : allS [p] = 0 := by
    have h1 := usedS_bd hp
    have h2 := madeS_bd hp
    have ho : allOk [p] := fun q hq => by simp at hq; subst hq; exact hp
    unfold allS
    rw [if_neg (by simp), if_pos ho, if_neg (by simp [sm]; omega)]
  rw [uses_eq (l := [p]) (fun q hq => by simp at hq; subst hq; unfold wfS; omega), if_pos h0]
  simp [sm]
theorem concat_eq (x y : List Int) (h : x.length + y.length ≤ 1000000) : F_slices_Concat___int_int_ [x, y] = some (x ++ y) := by
  have k1 : whileO (slices_Concat___int_int__l1 [x, y]) (0, 0) = some (((x.length + y.length : Nat) : Int)) := by
    rw [whileO_step (s' := (((x.length : Nat) : Int), ((0 + 1 : Nat) : Int))), whileO_step (s' := (((x.length + y.length : Nat) : Int), ((1 + 1 : Nat) : Int))), whileO_done]
    · unfold slices_Concat___int_int__l1; simp
    · unfold slices_Concat___int_int__l1
      dsimp only
      rw [dT (show ((0 + 1 : Nat) : Int) < (([x, y] : List (List Int)).length : Int) by simp), if_pos rfl, idxO_nat (show 0 + 1 < ([x, y] : List (List Int)).length by simp), Option.bind_some]
      simp only [List.getElem_cons_succ, List.getElem_cons_zero]
      simp only [show w64 ((x.length : Int) + (y.length : Int)) = ((x.length + y.length : Nat) : Int) by rw [w64_of (by omega) (by omega)]; omega, dF (show ¬ ((x.length + y.length : Nat) : Int) < 0 by omega), w64_succ (show 0 + 1 < 9223372036854775807 by omega), Bool.false_eq_true, if_false]
    · unfold slices_Concat___int_int__l1
      dsimp only
      rw [dT (show (0 : Int) < (([x, y] : List (List Int)).length : Int) by simp), if_pos rfl, show (0 : Int) = ((0 : Nat) : Int) from rfl, idxO_nat (show 0 < ([x, y] : List (List Int)).length by simp), Option.bind_some]
      simp only [List.getElem_cons_zero]
      simp only [show w64 (((0 : Nat) : Int) + (x.length : Int)) = ((x.length : Nat) : Int) by rw [w64_of (by omega) (by omega)]; omega, dF (show ¬ ((x.length : Nat) : Int) < ((0 : Nat) : Int) by omega), w64_succ (show 0 < 9223372036854775807 by omega), Bool.false_eq_true, if_false]
  have k2 : F_slices_Grow___int_int__s1 ((x.length + y.length : Nat) : Int) = some [] := by
    unfold F_slices_Grow___int_int__s1
    rw [dF (by omega), show w64 (((x.length + y.length : Nat) : Int) - w64 ((0 : Int) - 0)) = ((x.length + y.length : Nat) : Int) by rw [show w64 ((0 : Int) - 0) = 0 from rfl, w64_of (by omega) (by omega)]; omega]
    by_cases h0 : (0 : Int) < ((x.length + y.length : Nat) : Int)
    · rw [dT h0]
      simp only [Bool.false_eq_true, if_false, if_true]
      rw [show appZ ((x.length + y.length : Nat) : Int) (0 : Int) = some (List.replicate (x.length + y.length) 0) by unfold appZ lim; rw [if_pos (by omega)]; rfl, Option.bind_some, sliceO_of (lo := 0) (hi := 0) (l := 0) (k := 0) rfl rfl (Nat.le_refl _) (Nat.zero_le _)]; rfl
    · rw [dF h0]; rfl
  have k3 : whileO (slices_Concat___int_int__l2 [x, y]) (([] : List Int), 0) = some (x ++ y) := by
    rw [whileO_step (s' := (x, ((0 + 1 : Nat) : Int))), whileO_step (s' := (x ++ y, ((1 + 1 : Nat) : Int))), whileO_done]
    · unfold slices_Concat___int_int__l2; simp
    · unfold slices_Concat___int_int__l2
      dsimp only
      rw [dT (show ((0 + 1 : Nat) : Int) < (([x, y] : List (List Int)).length : Int) by simp), if_pos rfl, idxO_nat (show 0 + 1 < ([x, y] : List (List Int)).length by simp), Option.bind_some]
      simp only [List.getElem_cons_succ, List.getElem_cons_zero]
      rw [appO_of (by omega), Option.bind_some, w64_succ (by omega)]
    · unfold slices_Concat___int_int__l2
      dsimp only
      rw [dT (show (0 : Int) < (([x, y] : List (List Int)).length : Int) by simp), if_pos rfl, show (0 : Int) = ((0 : Nat) : Int) from rfl, idxO_nat (show 0 < ([x, y] : List (List Int)).length by simp), Option.bind_some]
      simp only [List.getElem_cons_zero]
      rw [appO_of (by simp; omega), Option.bind_some, w64_succ (by omega)]; rfl
  unfold F_slices_Concat___int_int_
  rw [k1, Option.bind_some, Option.bind_some, k2, Option.bind_some, k3]; rfl
theorem rev2_eq (a b : Int) : F_slices_Reverse___int_int__s1 (a, b) = some (b, a) := by
  have h1 : w64 (((2 : Nat) : Int) - 1) = 1 := rfl
  have i1 : idxO ([a, b] : List Int) 1 = some b := idxO_nat (k := 1) (by simp)
  have i0 : idxO ([a, b] : List Int) 0 = some a := idxO_nat (k := 0) (by simp)
  have i2 : idxO ([b, b] : List Int) 1 = some b := idxO_nat (k := 1) (by simp)
  have key : whileO slices_Reverse___int_int__s1_l1 (0, 1, a, b) = some (b, a) := by
    rw [whileO_step (s' := (1, 0, b, a)), whileO_done]
    · unfold slices_Reverse___int_int__s1_l1; simp
    · unfold slices_Reverse___int_int__s1_l1
      simp [i0, i1, i2]
      decide
  unfold F_slices_Reverse___int_int__s1
  rw [h1, key]; rfl
def rv (l : List Int) (i : Nat) : List Int := (List.range l.length).map fun k => if k < i ∨ l.length - 1 - i < k then l.getD (l.length - 1 - k) 0 else l.getD k 0
theorem rv_len (l : List Int) (i : Nat) : (rv l i).length = l.length := by simp [rv]
theorem rv_get {l : List Int} {i k : Nat} (h : k < (rv l i).length) : (rv l i)[k] = if k < i ∨ l.length - 1 - i < k then l.getD (l.length - 1 - k) 0 else l.getD k 0 := by simp [rv]
theorem rv_step {l : List Int} {i : Nat} (hi : 2 * i + 1 < l.length) : ((rv l i).set i (l.getD (l.length - 1 - i) 0)).set (l.length - 1 - i) (l.getD i 0) = rv l (i + 1) := by
  apply List.ext_getElem (by simp [rv])
  intro k h1 h2
  rw [rv_len] at h2
  rw [List.getElem_set, List.getElem_set, rv_get, rv_get]
  by_cases e1 : l.length - 1 - i = k
  · rw [if_pos e1, if_pos (.inr (by omega)), show l.length - 1 - k = i by omega]
  · rw [if_neg e1]
    by_cases e2 : i = k
    · rw [if_pos e2, if_pos (.inl (by omega)), show l.length - 1 - k = l.length - 1 - i by omega]
    · rw [if_neg e2]
      by_cases e3 : k < i ∨ l.length - 1 - i < k
      · rw [if_pos e3, if_pos (by omega)]
      · rw [if_neg e3, if_neg (by omega)]
theorem rv_zero (l : List Int) : rv l 0 = l := by
  apply List.ext_getElem (rv_len l 0)
  intro k h1 h2
  rw [rv_get, if_neg (by omega)]
  simp [h2]
theorem rv_end (l : List Int) : rv l (l.length / 2) = l.reverse := by
  apply List.ext_getElem (by simp [rv])
  intro k h1 h2
  rw [rv_len] at h1
  rw [rv_get, List.getElem_reverse]
  by_cases e : k < l.length / 2 ∨ l.length - 1 - l.length / 2 < k
  · rw [if_pos e]
    simp [List.getD_eq_getElem?_getD, List.getElem?_eq_getElem (show l.length - 1 - k < l.length by omega)]
  · rw [if_neg e]
    have e2 : l.length - 1 - k = k := by omega
    simp [List.getD_eq_getElem?_getD, List.getElem?_eq_getElem h1, e2]
theorem reverse_eq (l : List Int) (h : l.length ≤ 1000000) : F_slices_Reverse___int_int__s0 l = some l.reverse := by
  have key : whileO slices_Reverse___int_int__s0_l1 (l, 0, w64 ((l.length : Int) - 1)) = some l.reverse := by
    rw [← rv_end l]
    refine loop_sq (fun i => (rv l i, (i : Int), (l.length : Int) - 1 - (i : Int))) (l.length / 2) (by show (l, (0 : Int), w64 ((l.length : Int) - 1)) = (rv l 0, ((0 : Nat) : Int), (l.length : Int) - 1 - ((0 : Nat) : Int)); rw [rv_zero, w64_of (by omega) (by omega)]; simp) ?_ ?_
    · intro i hi
      unfold slices_Reverse___int_int__s0_l1
      have hj : (l.length : Int) - 1 - (i : Int) = ((l.length - 1 - i : Nat) : Int) := by omega
      simp only [dT (show (i : Int) < (l.length : Int) - 1 - (i : Int) by omega), if_true]
      rw [idxO_of hj (by rw [rv_len]; omega), Option.bind_some, idxO_nat (by rw [rv_len]; omega), Option.bind_some, rv_get, rv_get, if_neg (by omega), if_neg (by omega), setO_nat (by rw [rv_len]; omega), Option.bind_some, hj,
        idxO_nat (by rw [List.length_set, rv_len]; omega), Option.bind_some, setO_nat (by rw [List.length_set, rv_len]; omega), Option.bind_some, rv_step (by omega), w64_succ (by omega), w64_of (by omega) (by omega)]
      congr 3
      simp only [Prod.mk.injEq, true_and]
      omega
    · unfold slices_Reverse___int_int__s0_l1
      simp only [dF (show ¬ ((l.length / 2 : Nat) : Int) < (l.length : Int) - 1 - ((l.length / 2 : Nat) : Int) by omega), Bool.false_eq_true, if_false]
  unfold F_slices_Reverse___int_int__s0
  rw [key, Option.bind_some]
  simp [keepO]
/-- the pairs of a cable, row by row -/
def crow (k : Int) (n a c i : Nat) (m : Nat) : List (Int × Int) := (List.range m).map fun j => if k = 7 then (((n + j : Nat) : Int), ((n + c + i : Nat) : Int)) else (((n + c + i : Nat) : Int), ((n + j : Nat) : Int))
theorem crow_succ (k : Int) (n a c i m : Nat) : crow k n a c i (m + 1) = crow k n a c i m ++ [if k = 7 then (((n + m : Nat) : Int), ((n + c + i : Nat) : Int)) else (((n + c + i : Nat) : Int), ((n + m : Nat) : Int))] := by simp [crow, List.range_succ]
theorem crow_len (k : Int) (n a c i m : Nat) : (crow k n a c i m).length = m := by simp [crow]
theorem cable_eq {p : loops_piece} {l : api_Loop} {k : Int} {b : Bool} {a c u : Nat} (hk : k = 6 ∨ k = 7) (ha : a ≤ 6) (hc : c ≤ 6) (hl : p.loops.length ≤ 100000) (hx : p.cross.length ≤ 900000) :
    F_loops_piece_cable_s1 p l ⟨k, b, (a : Int), (c : Int)⟩ (ups u (a + c)) = some ⟨p.loops ++ (pars ⟨k, b, (a : Int), (c : Int)⟩ u).map (fun q => ⟨l.Row, l.Cell, q, l.Purl⟩), p.rows, p.bound, p.cross ++ crs ⟨k, b, (a : Int), (c : Int)⟩ p.loops.length, p.next⟩ := by
  have e : pars ⟨k, b, (a : Int), (c : Int)⟩ u = ((ups u (a + c)).drop a ++ (ups u (a + c)).take a).map fun x => [x] := by rcases hk with rfl | rfl <;> simp [pars]
  generalize hr : (ups u (a + c)).drop a ++ (ups u (a + c)).take a = r at e
  have hrl : r.length = a + c := by rw [← hr, List.length_append, List.length_drop, List.length_take, ups_len]; omega
  have k1 : whileO (loops_piece_cable_s1_l1 r l) (0, p.loops, p.rows, p.bound, p.cross, p.next) = some (p.loops ++ (r.map fun x => [x]).map (fun q => (⟨l.Row, l.Cell, q, l.Purl⟩ : api_Loop)), p.rows, p.bound, p.cross, p.next) := by
    refine loop_sq (fun i => ((i : Int), p.loops ++ ((r.take i).map fun x => [x]).map (fun q => (⟨l.Row, l.Cell, q, l.Purl⟩ : api_Loop)), p.rows, p.bound, p.cross, p.next)) r.length (by simp) ?_ ?_
    · intro i hi
      unfold loops_piece_cable_s1_l1
      simp only [dT (show (i : Int) < (r.length : Int) by omega), if_true]
      rw [idxO_nat hi, Option.bind_some, add_eq _ _ _ (by simp; omega), Option.bind_some, w64_succ (by omega), take_snoc _ hi, List.map_append, List.map_append, List.append_assoc]
      rfl
    · unfold loops_piece_cable_s1_l1
      simp only [dF (show ¬ (r.length : Int) < (r.length : Int) by omega), Bool.false_eq_true, if_false, List.take_length]
  generalize hn : p.loops.length = n at *
  have k2 : ∀ (i : Nat) (X : List (Int × Int)), i < a → X.length ≤ 950000 → whileO (loops_piece_cable_s1_l2 ⟨k, b, (a : Int), (c : Int)⟩ p (i : Int)) (0, X) = some (X ++ crow k n a c i c) := by
    intro i X hi hX
    refine loop_sq (fun j => ((j : Int), X ++ crow k n a c i j)) c (by simp [crow]) ?_ ?_
    · intro j hj
      unfold loops_piece_cable_s1_l2
      rw [hn]
      simp only [dT (show (j : Int) < (c : Int) by omega), if_true]
      rw [show w64 ((n : Int) + (c : Int)) = ((n + c : Nat) : Int) by rw [w64_of (by omega) (by omega)]; omega, show w64 (((n + c : Nat) : Int) + (i : Int)) = ((n + c + i : Nat) : Int) by rw [w64_of (by omega) (by omega)]; omega, show w64 ((n : Int) + (j : Int)) = ((n + j : Nat) : Int) by rw [w64_of (by omega) (by omega)]; omega, rev2_eq, crow_succ, w64_succ (by omega)]
      rcases hk with rfl | rfl
      · simp only [show ((6 : Int) == 7) = false from rfl, show ((6 : Int) = 7) = False by simp, Bool.false_eq_true, if_false, Option.bind_some]
        rw [appO_of (by simp [crow_len]; omega), Option.bind_some, List.append_assoc]
      · simp only [show ((7 : Int) == 7) = true from rfl, if_true, Option.bind_some]
        rw [appO_of (by simp [crow_len]; omega), Option.bind_some, List.append_assoc]
    · unfold loops_piece_cable_s1_l2
      simp only [dF (show ¬ (c : Int) < (c : Int) by omega), Bool.false_eq_true, if_false]
  have hlen : ∀ i, i ≤ a → ((List.range i).map fun x => crow k n a c x c).flatten.length = i * c := by
    intro i _
    induction i with
    | zero => simp
    | succ i ih => rw [List.range_succ, List.map_append, List.flatten_append, List.length_append, ih (by omega)]; simp [crow_len, Nat.add_mul]
  have k3 : whileO (loops_piece_cable_s1_l3 ⟨k, b, (a : Int), (c : Int)⟩ p) (0, p.cross) = some (p.cross ++ ((List.range a).map fun x => crow k n a c x c).flatten) := by
    refine loop_sq (fun i => ((i : Int), p.cross ++ ((List.range i).map fun x => crow k n a c x c).flatten)) a (by simp) ?_ ?_
    · intro i hi
      have hm : i * c ≤ 6 * 6 := Nat.mul_le_mul (by omega) hc
      unfold loops_piece_cable_s1_l3
      simp only [dT (show (i : Int) < (a : Int) by omega), if_true]
      rw [k2 i _ hi (by rw [List.length_append, hlen i (by omega)]; omega), List.range_succ, w64_succ (by omega)]
      simp
    · unfold loops_piece_cable_s1_l3
      simp only [dF (show ¬ (a : Int) < (a : Int) by omega), Bool.false_eq_true, if_false]
  have e2 : crs ⟨k, b, (a : Int), (c : Int)⟩ n = ((List.range a).map fun x => crow k n a c x c).flatten := by simp [crs, hk, crow]
  unfold F_loops_piece_cable_s1
  have hul : (ups u (a + c)).length = a + c := ups_len _ _
  rw [sliceO_of (l := a) (k := a + c) rfl (by rw [hul]) (by omega) (by omega), Option.bind_some, sliceO_of (lo := 0) (l := 0) (k := a) rfl rfl (Nat.zero_le _) (by omega), Option.bind_some]
  rw [List.take_of_length_le (show (ups u (a + c)).length ≤ a + c by omega), List.drop_zero, concat_eq _ _ (by simp [ups_len]; omega), Option.bind_some, hr, k1]
  simp only [Option.bind_some]
  rw [k3, e, e2]
  rfl
/-- a cell -/
theorem work_eq {p : loops_piece} {s : api_Stitch} (R K u : Nat) (h : okS s) (hu : p.next = (u : Int)) (hl : p.loops.length ≤ 100000) (hb : p.bound.length ≤ 100000) (hx : p.cross.length ≤ 900000) (hul : u + uN s ≤ p.loops.length) :
    F_loops_piece_work_s1 p (R : Int) (K : Int) s = some ⟨p.loops ++ mkL R K (side p.loops s u) (pars s u), p.rows, p.bound ++ offB s u, p.cross ++ crs s p.loops.length, ((u + uN s : Nat) : Int)⟩ := by
  have hub := usedS_bd h
  have ht : F_loops_piece_take_s3 p (usedS s) = some (ups u (uN s), ⟨p.loops, p.rows, p.bound, p.cross, ((u + uN s : Nat) : Int)⟩) := by
    rw [show usedS s = ((uN s : Nat) : Int) by unfold uN; omega]
    exact take_eq hu (by omega)
  unfold F_loops_piece_work_s1
  rw [uses_one h, Option.bind_some, ht, Option.bind_some]
  have clone1 : F_slices_Clone___int_int__s0 (ups u 1) = some (ups u 1) := by
    unfold F_slices_Clone___int_int__s0
    rw [appO_of (by simp [ups_len]), Option.bind_some]; rfl
  rcases knd h with ⟨b, rfl⟩ | ⟨b, rfl⟩ | rfl | ⟨b, a, h1, h2, rfl⟩ | ⟨b, a, h1, h2, rfl⟩ | ⟨b, a, h1, h2, rfl⟩ | ⟨k, b, a, c, hk, h1, h2, h3, h4, rfl⟩ | ⟨a, h1, h2, rfl⟩ | ⟨b, a, h1, h2, rfl⟩
  · have e : uN ⟨1, b, 0, 0⟩ = 1 := by simp [uN, usedS]
    rw [e]
    simp only [show ((1 : Int) == 2) = false from rfl, show ((1 : Int) == 9) = false from rfl, show ((1 : Int) == 1) = true from rfl, Bool.false_eq_true, if_false, if_true, Option.bind_some]
    rw [add_eq _ _ _ (by simp; omega), Option.bind_some]
    simp [mkL, pars, offB, crs, side, ups]
  · have e : uN ⟨8, b, 0, 0⟩ = 1 := by simp [uN, usedS]
    rw [e] at hul ⊢
    have hlt : u < p.loops.length := by omega
    simp only [show ((8 : Int) == 2) = false from rfl, show ((8 : Int) == 9) = false from rfl, show ((8 : Int) == 1) = false from rfl, show ((8 : Int) == 8) = true from rfl, Bool.false_eq_true, if_false, if_true, Option.bind_some]
    rw [show idxO (ups u 1) 0 = some ((u : Nat) : Int) from rfl, Option.bind_some, idxO_nat hlt, Option.bind_some, add_eq _ _ _ (by simp; omega), Option.bind_some]
    simp [mkL, pars, offB, crs, side, ups, List.getElem?_eq_getElem hlt]
  · have e : uN ⟨2, false, 0, 0⟩ = 0 := by simp [uN, usedS]
    rw [e]
    simp only [show ((2 : Int) == 2) = true from rfl, if_true, Option.bind_some, show ¬ ((1 : Int) < 0) by omega, if_false]
    rw [makeO_of (n := 1) (k := 1) rfl (by omega), Option.bind_some, add_eq _ _ _ (by simp; omega), Option.bind_some]
    simp [mkL, pars, offB, crs, side]
  · have e : uN ⟨3, b, (a : Int), 0⟩ = a := by simp [uN, usedS]
    rw [e]
    simp only [show ((3 : Int) == 2) = false from rfl, show ((3 : Int) == 9) = false from rfl, show ((3 : Int) == 1) = false from rfl, show ((3 : Int) == 8) = false from rfl, show ((3 : Int) == 4) = false from rfl, show ((3 : Int) == 3) = true from rfl, Bool.false_eq_true, if_false, if_true, Option.bind_some]
    rw [add_eq _ _ _ (by simp; omega), Option.bind_some]
    simp [mkL, pars, offB, crs, side]
  · have e : uN ⟨4, b, (a : Int), 0⟩ = a := by simp [uN, usedS]
    rw [e]
    simp only [show ((4 : Int) == 2) = false from rfl, show ((4 : Int) == 9) = false from rfl, show ((4 : Int) == 1) = false from rfl, show ((4 : Int) == 8) = false from rfl, show ((4 : Int) == 4) = true from rfl, Bool.false_eq_true, if_false, if_true, Option.bind_some]
    rw [reverse_eq _ (by rw [ups_len]; omega), Option.bind_some, add_eq _ _ _ (by simp; omega), Option.bind_some]
    simp [mkL, pars, offB, crs, side]
  · have e : uN ⟨5, b, (a : Int), 0⟩ = 1 := by simp [uN, usedS]
    rw [e]
    simp only [show ((5 : Int) == 2) = false from rfl, show ((5 : Int) == 9) = false from rfl, show ((5 : Int) == 1) = false from rfl, show ((5 : Int) == 8) = false from rfl, show ((5 : Int) == 4) = false from rfl, show ((5 : Int) == 3) = false from rfl, show ((5 : Int) == 5) = true from rfl, Bool.false_eq_true, if_false, if_true, Option.bind_some]
    have key : whileO (loops_piece_work_s1_l1 ⟨5, b, (a : Int), 0⟩ (ups u 1, ⟨p.loops, p.rows, p.bound, p.cross, ((u + 1 : Nat) : Int)⟩) (R : Int) (K : Int)) (0, p.loops, p.rows, p.bound, p.cross, ((u + 1 : Nat) : Int)) = some (p.loops ++ List.replicate a ⟨(R : Int), (K : Int), ups u 1, b⟩, p.rows, p.bound, p.cross, ((u + 1 : Nat) : Int)) := by
      refine loop_sq (fun i => ((i : Int), p.loops ++ List.replicate i (⟨(R : Int), (K : Int), ups u 1, b⟩ : api_Loop), p.rows, p.bound, p.cross, ((u + 1 : Nat) : Int))) a (by simp) ?_ ?_
      · intro i hi
        unfold loops_piece_work_s1_l1
        simp only [dT (show (i : Int) < (a : Int) by omega), if_true]
        rw [clone1, Option.bind_some, add_eq _ _ _ (by simp; omega), Option.bind_some, w64_succ (by omega), List.replicate_succ']
        simp
      · unfold loops_piece_work_s1_l1
        simp only [dF (show ¬ (a : Int) < (a : Int) by omega), Bool.false_eq_true, if_false]
    rw [key]
    simp [mkL, pars, offB, crs, side, ups]
  · have e : uN ⟨k, b, (a : Int), (c : Int)⟩ = a + c := by rcases hk with rfl | rfl <;> simp [uN, usedS] <;> omega
    rw [e]
    have ht : ∀ q : Int, q ≠ 6 → q ≠ 7 → (k == q) = false := by intro q h6 h7; rcases hk with rfl | rfl <;> simp <;> omega
    simp only [ht 2 (by omega) (by omega), ht 9 (by omega) (by omega), ht 1 (by omega) (by omega), ht 8 (by omega) (by omega), ht 4 (by omega) (by omega), ht 3 (by omega) (by omega), ht 5 (by omega) (by omega), ht 10 (by omega) (by omega), Bool.false_eq_true, if_false, Option.bind_some]
    rw [cable_eq hk h2 h4 (by simpa using hl) (by simpa using hx), Option.bind_some]
    have e1 : offB ⟨k, b, (a : Int), (c : Int)⟩ u = [] := by rcases hk with rfl | rfl <;> simp [offB]
    have e2 : side p.loops ⟨k, b, (a : Int), (c : Int)⟩ u = b := by rcases hk with rfl | rfl <;> simp [side]
    rw [e1, e2, List.append_nil]
    rfl
  · have e : uN ⟨9, false, (a : Int), 0⟩ = 0 := by simp [uN, usedS]
    rw [e]
    simp only [show ((9 : Int) == 2) = false from rfl, show ((9 : Int) == 9) = true from rfl, Bool.false_eq_true, if_false, if_true, Option.bind_some]
    rw [makeO_of (k := a) (by split <;> omega) (by omega), Option.bind_some, add_eq _ _ _ (by simp; omega), Option.bind_some]
    simp [mkL, pars, offB, crs, side]
  · have e : uN ⟨10, b, (a : Int), 0⟩ = a := by simp [uN, usedS]
    rw [e]
    simp only [show ((10 : Int) == 2) = false from rfl, show ((10 : Int) == 9) = false from rfl, show ((10 : Int) == 1) = false from rfl, show ((10 : Int) == 8) = false from rfl, show ((10 : Int) == 4) = false from rfl, show ((10 : Int) == 3) = false from rfl, show ((10 : Int) == 5) = false from rfl, show ((10 : Int) == 10) = true from rfl, Bool.false_eq_true, if_false, if_true, Option.bind_some]
    rw [appO_of (by simp [ups_len]; omega), Option.bind_some]
    simp [mkL, pars, offB, crs, side]

end Go.Proofs.Yticjoiolfibmlaa
