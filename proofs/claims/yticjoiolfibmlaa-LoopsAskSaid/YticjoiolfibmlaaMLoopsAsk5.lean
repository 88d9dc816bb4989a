/- Several texts in one: G47s1 G34 G12 G14 G16 G11 G13 G15 PlLw PlLo PlLx PlLv -/
import Derived.WalkKit
import Derived.Maps.AppendAt
import Derived.Deep.AppendLies
import Derived.KernelRfl
import Derived.Laws.OwnMore
import Derived.Great.BuildSlice
import Derived.Orders
import Derived.Laws.StructEq
import Derived.ChangeKeysEq
import Derived.Defers
import Derived.Laws.BytesString
import Derived.RangeFuncNested
import Derived.RangeFuncBound
import Derived.RangeFuncCalls
import Derived.RangeFuncLeaves
import Derived.OrdersIn
import Derived.LoopNIn
import Derived.ArgAppend
import Derived.Lib.AppendZeros
import Derived.Test.YticjoiolfibmlaaProg
import Derived.ProofKit
import Derived.OpenShut
import Derived.ChangeOld
import Derived.Deep.Slices
import Derived.Lib.SmallJoins
import Derived.JoinedOf
import Derived.JoinedAt
import Derived.Below
import Derived.Test.YticjoiolfibmlaaRows
import Derived.Test.YticjoiolfibmlaaMLoopsAsk4
namespace Go.Proofs.Yticjoiolfibmlaa
open Go.RowKit
set_option linter.unusedVariables false

def anc_raddleref27_Piece_cell_s1_0 : List (List Nat) := [[], [], [], [], [3], [3, 4], [3, 4, 5], [], [7], [0, 1, 2, 3, 4, 5, 6, 7, 8]]
def anc_raddleref27_Piece_cell_s1_1 : List (List Nat) := [[], [], [], [], [], [4], [], [4, 5, 6], [], [8], [], [10], [8, 9, 10, 11], [4, 5, 6, 7, 8, 9, 10, 11, 12], [3, 4, 5, 6, 7, 8, 9, 10, 11, 12, 13], [3, 4, 5, 6, 7, 8, 9, 10, 11, 12, 13, 14], [3, 4, 5, 6, 7, 8, 9, 10, 11, 12, 13, 14, 15], [], [17], [0, 1, 2, 3, 4, 5, 6, 7, 8, 9, 10, 11, 12, 13, 14, 15, 16, 17, 18]]
def anc_raddleref27_Piece_cell_s1_2 : List (List Nat) := [[], [], [], [], [3], [3, 4], [3, 4, 5], [], [7], [7, 8], [7, 8, 9], [], [11], [11, 12], [7, 8, 9, 10, 11, 12, 13], [7, 8, 9, 10, 11, 12, 13, 14], [7, 8, 9, 10, 11, 12, 13, 14, 15], [0, 1, 2, 3, 4, 5, 6, 7, 8, 9, 10, 11, 12, 13, 14, 15, 16]]
noncomputable def raddleref27_Piece_cell_s1_l1 (p3 : api_Stitch) (p1 : Int) (p2 : Int) : (Int × List api_Loop × List Int × List (Int × Int) × List Int) → Option ((Int × List api_Loop × List Int × List (Int × Int) × List Int) ⊕ (List api_Loop × List Int × List (Int × Int) × List Int)) := fun s0 => match s0 with
  | (s54, s55, s58, s61, s64) =>
    if decide (s54 < p3.A) then
      Option.bind (F_raddleref27_Piece_put_s1 (raddleref27_Piece.mk s55 s58 s61 s64) p1 p2 ([] : (List Int)) false) fun r86 =>
      some (.inl (w64 (s54 + 1), r86.Loops, r86.Bound, r86.Cross, r86.Rows))
    else
      some (.inr (s55, s58, s61, s64))
noncomputable def raddleref27_Piece_cell_s1_l2 (p4 : (List Int)) (p3 : api_Stitch) : (List Int × Int) → Option ((List Int × Int) ⊕ List Int) := fun s0 => match s0 with
  | (s117, s120) =>
    if decide (s120 < (p4.length : Int)) then
      Option.bind (α := List Int) (
        if p3.Kind == 3 then
          Option.bind (idxO p4 s120) fun x137 =>
          Option.bind (appO s117 ([x137] : List Int)) fun l144 =>
          some l144
        else
          Option.bind (idxO p4 (w64 ((w64 ((p4.length : Int) - 1)) - s120))) fun x148 =>
          Option.bind (appO s117 ([x148] : List Int)) fun l155 =>
          some l155) fun o130 =>
      some (.inl (o130, w64 (s120 + 1)))
    else
      some (.inr s117)
noncomputable def raddleref27_Piece_cell_s1_l3 (p3 : api_Stitch) (p4 : (List Int)) (p1 : Int) (p2 : Int) : (Int × List api_Loop × List Int × List (Int × Int) × List Int) → Option ((Int × List api_Loop × List Int × List (Int × Int) × List Int) ⊕ (List api_Loop × List Int × List (Int × Int) × List Int)) := fun s0 => match s0 with
  | (s172, s173, s176, s179, s182) =>
    if decide (s172 < p3.A) then
      Option.bind (idxO p4 0) fun x204 =>
      Option.bind (F_raddleref27_Piece_put_s1 (raddleref27_Piece.mk s173 s176 s179 s182) p1 p2 ([x204] : List Int) p3.Purl) fun r211 =>
      some (.inl (w64 (s172 + 1), r211.Loops, r211.Bound, r211.Cross, r211.Rows))
    else
      some (.inr (s173, s176, s179, s182))
noncomputable def raddleref27_Piece_cell_s1_l4 (p3 : api_Stitch) (p4 : (List Int)) (p1 : Int) (p2 : Int) : (Int × List api_Loop × List Int × List (Int × Int) × List Int) → Option ((Int × List api_Loop × List Int × List (Int × Int) × List Int) ⊕ (List api_Loop × List Int × List (Int × Int) × List Int)) := fun s0 => match s0 with
  | (s255, s256, s259, s262, s265) =>
    if decide (s255 < (w64 (p3.A + p3.B))) then
      Option.bind (remI (w64 (p3.A + s255)) (w64 (p3.A + p3.B))) fun z287 =>
      Option.bind (idxO p4 z287) fun x289 =>
      Option.bind (F_raddleref27_Piece_put_s1 (raddleref27_Piece.mk s256 s259 s262 s265) p1 p2 ([x289] : List Int) p3.Purl) fun r296 =>
      some (.inl (w64 (s255 + 1), r296.Loops, r296.Bound, r296.Cross, r296.Rows))
    else
      some (.inr (s256, s259, s262, s265))
noncomputable def raddleref27_Piece_cell_s1_l5 (p3 : api_Stitch) (p0 : raddleref27_Piece) (s320 : Int) : (Int × List (Int × Int)) → Option ((Int × List (Int × Int)) ⊕ List (Int × Int)) := fun s0 => match s0 with
  | (s339, s340) =>
    if decide (s339 < p3.B) then
      Option.bind (α := (Int × Int)) (
        if p3.Kind == 7 then
          some (w64 ((p0.Loops.length : Int) + s339), w64 ((w64 ((p0.Loops.length : Int) + p3.B)) + s320))
        else
          some (w64 ((w64 ((p0.Loops.length : Int) + p3.B)) + s320), w64 ((p0.Loops.length : Int) + s339))) fun (o354, o355) =>
      Option.bind (appO s340 [(o354, o355)]) fun l362 =>
      some (.inl (w64 (s339 + 1), l362))
    else
      some (.inr s340)
noncomputable def raddleref27_Piece_cell_s1_l6 (p3 : api_Stitch) (p0 : raddleref27_Piece) : (Int × List (Int × Int)) → Option ((Int × List (Int × Int)) ⊕ List (Int × Int)) := fun s0 => match s0 with
  | (s320, s321) =>
    if decide (s320 < p3.A) then
      Option.bind (α := List (Int × Int)) (
        Option.bind (whileO (raddleref27_Piece_cell_s1_l5 p3 p0 s320) (0, s321)) fun e346 =>
          some e346) fun o333 =>
      some (.inl (w64 (s320 + 1), o333))
    else
      some (.inr s321)
noncomputable def F_raddleref27_Piece_cell_s1 (p0 : raddleref27_Piece) (p1 : Int) (p2 : Int) (p3 : api_Stitch) (p4 : (List Int)) : Option raddleref27_Piece :=
  if p3.Kind == 1 then
    Option.bind (idxO p4 0) fun x9 =>
    Option.bind (F_raddleref27_Piece_put_s1 p0 p1 p2 ([x9] : List Int) p3.Purl) fun r16 =>
    some r16
  else
    if p3.Kind == 2 then
      Option.bind (F_raddleref27_Piece_put_s1 p0 p1 p2 ([] : (List Int)) false) fun r41 =>
      some r41
    else
      if p3.Kind == 9 then
        Option.bind (whileO (raddleref27_Piece_cell_s1_l1 p3 p1 p2) (0, p0.Loops, p0.Bound, p0.Cross, p0.Rows)) fun (e70, e73, e76, e79) =>
          some (raddleref27_Piece.mk e70 e73 e76 e79)
      else
        Option.bind (α := Bool) (
          if p3.Kind == 3 then
            some (p3.Kind == 3)
          else
            some (p3.Kind == 4)) fun o96 =>
        if o96 then
          Option.bind (α := List Int) (
            Option.bind (whileO (raddleref27_Piece_cell_s1_l2 p4 p3) (([] : List Int), 0)) fun e124 =>
              some e124) fun o111 =>
          Option.bind (F_raddleref27_Piece_put_s1 p0 p1 p2 o111 p3.Purl) fun r159 =>
          some r159
        else
          if p3.Kind == 5 then
            Option.bind (whileO (raddleref27_Piece_cell_s1_l3 p3 p4 p1 p2) (0, p0.Loops, p0.Bound, p0.Cross, p0.Rows)) fun (e188, e191, e194, e197) =>
              some (raddleref27_Piece.mk e188 e191 e194 e197)
          else
            Option.bind (α := Bool) (
              if p3.Kind == 6 then
                some (p3.Kind == 6)
              else
                some (p3.Kind == 7)) fun o234 =>
            if o234 then
              Option.bind (α := (List api_Loop × List Int × List (Int × Int) × List Int)) (
                Option.bind (whileO (raddleref27_Piece_cell_s1_l4 p3 p4 p1 p2) (0, p0.Loops, p0.Bound, p0.Cross, p0.Rows)) fun (e271, e274, e277, e280) =>
                  some (e271, e274, e277, e280)) fun (o240, o243, o246, o249) =>
              Option.bind (whileO (raddleref27_Piece_cell_s1_l6 p3 p0) (0, o246)) fun e327 =>
                some (raddleref27_Piece.mk o240 o243 e327 o249)
            else
              if p3.Kind == 8 then
                Option.bind (idxO p4 0) fun x368 =>
                Option.bind (idxO p0.Loops x368) fun x378 =>
                Option.bind (F_raddleref27_Piece_put_s1 p0 p1 p2 ([x368] : List Int) x378.Purl) fun r386 =>
                some r386
              else
                if p3.Kind == 10 then
                  Option.bind (appO p0.Bound p4) fun l420 =>
                  some (raddleref27_Piece.mk p0.Loops l420 p0.Cross p0.Rows)
                else
                  some p0
set_option maxHeartbeats 4000000 in
set_option maxRecDepth 100000 in
theorem c_raddleref27_Piece_cell_s1 (E : Nat → Prop) (w0 : World) (p0 : raddleref27_Piece) (bb0 : Nat) (ad_0_0 : Option Addr) (cp_0_0 : Nat) (ad_0_1 : Option Addr) (cp_0_1 : Nat) (ad_0_2 : Option Addr) (cp_0_2 : Nat) (ad_0_3 : Option Addr) (cp_0_3 : Nat) (p1 : Int) (p2 : Int) (p3 : api_Stitch) (v3 : Value) (p4 : (List Int)) (v4 : Value) (r : raddleref27_Piece) (h : F_raddleref27_Piece_cell_s1 p0 p1 p2 p3 p4 = some r) (S : St0 E (keysL [eBox bb0 77 [.slice ad_0_0 p0.Loops.length cp_0_0, .slice ad_0_1 p0.Bound.length cp_0_1, .slice ad_0_2 p0.Cross.length cp_0_2, .slice ad_0_3 p0.Rows.length cp_0_3], eRow r_api_Loop 48 (.slice ad_0_0 p0.Loops.length cp_0_0) p0.Loops, eRow (rI .i64) 3 (.slice ad_0_1 p0.Bound.length cp_0_1) p0.Bound, eRow r_A2_Int 49 (.slice ad_0_2 p0.Cross.length cp_0_2) p0.Cross, eRow (rI .i64) 3 (.slice ad_0_3 p0.Rows.length cp_0_3) p0.Rows]) w0 w0 [eBox bb0 77 [.slice ad_0_0 p0.Loops.length cp_0_0, .slice ad_0_1 p0.Bound.length cp_0_1, .slice ad_0_2 p0.Cross.length cp_0_2, .slice ad_0_3 p0.Rows.length cp_0_3], eRow r_api_Loop 48 (.slice ad_0_0 p0.Loops.length cp_0_0) p0.Loops, eRow (rI .i64) 3 (.slice ad_0_1 p0.Bound.length cp_0_1) p0.Bound, eRow r_A2_Int 49 (.slice ad_0_2 p0.Cross.length cp_0_2) p0.Cross, eRow (rI .i64) 3 (.slice ad_0_3 p0.Rows.length cp_0_3) p0.Rows] [fRep r_api_Stitch (v3) p3, fRep (rL (rI .i64)) (v4) p4]) :
    Calls Try.prog 47 #[.pointer (some ⟨bb0, 0, none⟩), iv p1, iv p2, v3, v4] w0 (Ret (X := Option Addr × Nat × Option Addr × Nat × Option Addr × Nat × Option Addr × Nat) E (keysL [eBox bb0 77 [.slice ad_0_0 p0.Loops.length cp_0_0, .slice ad_0_1 p0.Bound.length cp_0_1, .slice ad_0_2 p0.Cross.length cp_0_2, .slice ad_0_3 p0.Rows.length cp_0_3], eRow r_api_Loop 48 (.slice ad_0_0 p0.Loops.length cp_0_0) p0.Loops, eRow (rI .i64) 3 (.slice ad_0_1 p0.Bound.length cp_0_1) p0.Bound, eRow r_A2_Int 49 (.slice ad_0_2 p0.Cross.length cp_0_2) p0.Cross, eRow (rI .i64) 3 (.slice ad_0_3 p0.Rows.length cp_0_3) p0.Rows]) w0 (fun _ => .tuple #[]) (fun x => [eBox bb0 77 [.slice x.1 r.Loops.length x.2.1, .slice x.2.2.1 r.Bound.length x.2.2.2.1, .slice x.2.2.2.2.1 r.Cross.length x.2.2.2.2.2.1, .slice x.2.2.2.2.2.2.1 r.Rows.length x.2.2.2.2.2.2.2], eRow r_api_Loop 48 (.slice x.1 r.Loops.length x.2.1) r.Loops, eRow (rI .i64) 3 (.slice x.2.2.1 r.Bound.length x.2.2.2.1) r.Bound, eRow r_A2_Int 49 (.slice x.2.2.2.2.1 r.Cross.length x.2.2.2.2.2.1) r.Cross, eRow (rI .i64) 3 (.slice x.2.2.2.2.2.2.1 r.Rows.length x.2.2.2.2.2.2.2) r.Rows]) (fun _ => [])) := by
  unfold F_raddleref27_Piece_cell_s1 at h
  obtain rfl : v3 = .agg #[.int .u8 p3.Kind, .bool p3.Purl, iv p3.A, iv p3.B] := S.know (i := 0) (e := fRep r_api_Stitch (v3) p3) rfl
  obtain ⟨ad1, cp2, _, rfl, _⟩ := S.know (i := 1) (e := fRep (rL (rI .i64)) (v4) p4) rfl
  refine sEnter (args := [.pointer (some ⟨bb0, 0, none⟩), iv p1, iv p2, .agg #[.int .u8 p3.Kind, .bool p3.Purl, iv p3.A, iv p3.B], .slice ad1 p4.length cp2]) 213 Try.func47 rfl rfl (by simp) S (fun a S => ?_)
  refine sSeq (fun K3 hK3 => ?_)
  refine sRegion ?_
  refine sBox (v := .agg #[.int .u8 p3.Kind, .bool p3.Purl, iv p3.A, iv p3.B]) S (wN rfl) rfl rfl [.int .u8 p3.Kind, .bool p3.Purl, iv p3.A, iv p3.B] rfl rfl (lb rfl) fun a b4 w S => ?_
  refine leafL (leafT (hK3 _ _ ?_))
  refine sSeq (fun K5 hK5 => ?_)
  refine sRegion ?_
  refine sMove (.pointer (some ⟨bb0, 0, none⟩)) S (wN rfl) (.inl rfl) rfl rfl (lb rfl) fun a S => ?_
  refine nilCheck_ok (q := ⟨bb0, 0, none⟩) S (wN rfl) rfl rfl rfl (lb rfl) fun a S => ?_
  refine sField (b := bb0) (off := 0) 0 0 S (wN rfl) rfl rfl rfl rfl rfl (lb rfl) fun a S => ?_
  refine sLoad1 (p := bb0) (off := 0) (T := 77) (vs := [.slice ad_0_0 p0.Loops.length cp_0_0, .slice ad_0_1 p0.Bound.length cp_0_1, .slice ad_0_2 p0.Cross.length cp_0_2, .slice ad_0_3 p0.Rows.length cp_0_3]) 1 (.slice ad_0_0 p0.Loops.length cp_0_0) S (wN rfl) rfl rfl rfl rfl rfl rfl (lb rfl) fun a S => ?_
  refine sLen (ad := ad_0_0) (m := p0.Loops.length) (c := cp_0_0) S (wN rfl) rfl Try.underlying26 rfl rfl (lb rfl) fun a S => ?_
  refine sMove (iv (p0.Loops.length : Int)) S (wN rfl) (.inr rfl) rfl rfl (lb rfl) fun a S => ?_
  refine leafL (leafT (hK5 _ _ ?_))
  refine sSeq (fun K6 hK6 => ?_)
  refine sRegion ?_
  refine sField (b := b4) (off := 0) 0 0 S (wN rfl) rfl rfl rfl rfl rfl (lb rfl) fun a S => ?_
  refine sLoad1 (p := b4) (off := 0) (T := 61) (vs := [.int .u8 p3.Kind, .bool p3.Purl, iv p3.A, iv p3.B]) 0 (.int .u8 p3.Kind) S (wN rfl) rfl rfl rfl rfl rfl rfl (lb rfl) fun a S => ?_
  refine leafL (leafT (hK6 _ _ ?_))
  refine wp_block ?_
  refine sSeq (fun K7 hK7 => ?_)
  refine sRegion ?_
  refine sBin (.bool (p3.Kind == 1)) S (wN rfl) rfl rfl rfl (bEq _ _ _ _ .u8 p3.Kind 1) rfl (lb rfl) fun a S => ?_
  refine sMove (.bool (p3.Kind == 1)) S (wN rfl) (.inr rfl) rfl rfl (lb rfl) fun a S => ?_
  refine leafL (leafT (hK7 _ _ ?_))
  rcases iteSome h with ⟨hc8, h⟩ | ⟨hc8, h⟩
  · refine sCondT S rfl hc8 ?_
    obtain ⟨x9, hx10, h⟩ := bindSome h
    obtain ⟨r16, hx17, h⟩ := bindSome h
    obtain ⟨q26, hq27, S⟩ := pIdx (P := Try.prog) (r := (rI .i64)) (v := .slice ad1 p4.length cp2) (xs := p4) (j := 0) 32 3 1 S Try.underlying32 rfl rfl hx10
    obtain ⟨u28, S⟩ := pLoad (r := (rI .i64)) (q := q26) (x := x9) 0 S rfl
    obtain rfl : u28 = iv x9 := S.mem.know (i := 1) (e := fRep (rI .i64) (u28) x9) rfl
    refine sDraw (nf := [6, 9]) (W := [(0, 29, .pointer (some ⟨bb0, 0, none⟩)), (1, 30, iv p1), (2, 31, iv p2), (3, 32, .slice ad1 p4.length cp2), (4, 33, q26), (5, 34, iv x9), (7, 36, .pointer (some ⟨b4, 1, none⟩)), (8, 37, .bool p3.Purl)]) rfl S ?_
    refine node_by (A := anc_raddleref27_Piece_cell_s1_0) (nf := [6, 9]) (Y := []) (W := [(0, 29, .pointer (some ⟨bb0, 0, none⟩)), (1, 30, iv p1), (2, 31, iv p2), (3, 32, .slice ad1 p4.length cp2), (4, 33, q26), (5, 34, iv x9), (7, 36, .pointer (some ⟨b4, 1, none⟩)), (8, 37, .bool p3.Purl)]) 10 (by kernel_rfl) (by kernel_rfl) (by kernel_rfl) (by kernel_rfl) (by kernel_rfl) [0, 1, 2, 3, 4, 5, 7, 8] (by kernel_rfl) (by decide) (by decide) (aF 0 9 (by decide) ?_ (aF 1 8 (by decide) ?_ (aF 2 7 (by decide) ?_ (aF 3 6 (by decide) ?_ (aF 4 5 (by decide) ?_ (aF 5 4 (by decide) ?_ (aN 6 3 (by decide) ?_ (aF 7 2 (by decide) ?_ (aF 8 1 (by decide) ?_ (aB 9 0 6 (by decide) (trivial))))))))))) [] (fun q hq => by cases hq) (fun hY => absurd (hY 6 (by decide)) (by decide))
    · refine fI 29 (.pointer (some ⟨bb0, 0, none⟩)) [(0, .pointer (some ⟨bb0, 0, none⟩))] 0 [none] rfl rfl rfl rfl rfl rfl fun G a w S => ?_
      refine sMove (.pointer (some ⟨bb0, 0, none⟩)) S (wN rfl) (.inl rfl) rfl rfl (lb rfl) fun a S => ?_
      exact leafL ⟨rfl, S⟩
    · refine fI 30 (iv p1) [(1, iv p1)] 1 [none] rfl rfl rfl rfl rfl rfl fun G a w S => ?_
      refine sMove (iv p1) S (wN rfl) (.inl rfl) rfl rfl (lb rfl) fun a S => ?_
      exact leafL ⟨rfl, S⟩
    · refine fI 31 (iv p2) [(2, iv p2)] 2 [none] rfl rfl rfl rfl rfl rfl fun G a w S => ?_
      refine sMove (iv p2) S (wN rfl) (.inl rfl) rfl rfl (lb rfl) fun a S => ?_
      exact leafL ⟨rfl, S⟩
    · refine fI 32 (.slice ad1 p4.length cp2) [(4, .slice ad1 p4.length cp2)] 3 [none] rfl rfl rfl rfl rfl rfl fun G a w S => ?_
      refine sMove (.slice ad1 p4.length cp2) S (wN rfl) (.inl rfl) rfl rfl (lb rfl) fun a S => ?_
      exact leafL ⟨rfl, S⟩
    · refine fI 33 q26 [(32, .slice ad1 p4.length cp2)] 4 [some 3] rfl rfl rfl rfl rfl rfl fun G a w S => ?_
      refine sIdxV (v := .slice ad1 p4.length cp2) (k := .i64) (j := 0) S (wN rfl) rfl rfl rfl hq27 rfl (lb rfl) fun a S => ?_
      exact leafL ⟨rfl, S⟩
    · refine fI 34 (iv x9) [(33, q26)] 5 [some 4] rfl rfl rfl rfl rfl rfl fun G a w S => ?_
      refine sLoadV1 (vq := q26) 0 (iv x9) S (wN rfl) rfl rfl rfl rfl rfl (lb rfl) fun a S => ?_
      exact leafL ⟨rfl, S⟩
    · refine ⟨_, [(34, iv x9)], rfl, (srcs_of [some 5] rfl rfl rfl), fun G a w S => ?_⟩
      refine sLit (r := (rI .i64)) (T := 3) (xs := ([x9] : List Int)) [(0, iv x9)] 1 [iv x9] [iv x9] (iv 0) 8 S (wN rfl) rfl rfl Try.underlying32 rfl (by decide) (by decide) (by kernel_rfl) rfl (fun E1 w1 hE => All.cons rfl (All.nil _ _ _)) rfl rfl (lb rfl) fun a w ad29 cp30 S => ?_
      refine leafL ⟨rfl, _, _, .inl ⟨35, (.slice ad29 ([x9] : List Int).length cp30), [], rfl, S, hz_of rfl, ?_⟩⟩
      refine node_by (A := anc_raddleref27_Piece_cell_s1_0) (nf := [6, 9]) (Y := [6]) 10 (by kernel_rfl) (by kernel_rfl) (by kernel_rfl) (by kernel_rfl) (by kernel_rfl) [6, 0, 1, 2, 3, 4, 5, 7, 8] (by kernel_rfl) (by decide) (by decide) (aF 0 9 (by decide) ?_ (aF 1 8 (by decide) ?_ (aF 2 7 (by decide) ?_ (aD 3 6 6 (by decide) (aD 4 5 6 (by decide) (aD 5 4 6 (by decide) (aY 6 3 (by decide) (aF 7 2 (by decide) ?_ (aF 8 1 (by decide) ?_ (aN 9 0 (by decide) ?_ (trivial))))))))))) [] (fun q hq => by cases hq) (fun hY => absurd (hY 9 (by decide)) (by decide))
      · refine fI 29 (.pointer (some ⟨bb0, 0, none⟩)) [(0, .pointer (some ⟨bb0, 0, none⟩))] 1 [none] rfl rfl rfl rfl rfl rfl fun G a w S => ?_
        refine sMove (.pointer (some ⟨bb0, 0, none⟩)) S (wN rfl) (.inl rfl) rfl rfl (lb rfl) fun a S => ?_
        exact leafL ⟨rfl, S⟩
      · refine fI 30 (iv p1) [(1, iv p1)] 2 [none] rfl rfl rfl rfl rfl rfl fun G a w S => ?_
        refine sMove (iv p1) S (wN rfl) (.inl rfl) rfl rfl (lb rfl) fun a S => ?_
        exact leafL ⟨rfl, S⟩
      · refine fI 31 (iv p2) [(2, iv p2)] 3 [none] rfl rfl rfl rfl rfl rfl fun G a w S => ?_
        refine sMove (iv p2) S (wN rfl) (.inl rfl) rfl rfl (lb rfl) fun a S => ?_
        exact leafL ⟨rfl, S⟩
      · refine fI 36 (.pointer (some ⟨b4, 1, none⟩)) [(8, .pointer (some ⟨b4, 0, none⟩))] 7 [none] rfl rfl rfl rfl rfl rfl fun G a w S => ?_
        refine sField (b := b4) (off := 0) 1 1 S (wN rfl) rfl rfl rfl rfl rfl (lb rfl) fun a S => ?_
        exact leafL ⟨rfl, S⟩
      · refine fI 37 (.bool p3.Purl) [(36, .pointer (some ⟨b4, 1, none⟩))] 8 [some 7] rfl rfl rfl rfl rfl rfl fun G a w S => ?_
        refine sLoad1 (p := b4) (off := 1) (T := 61) (vs := [.int .u8 p3.Kind, .bool p3.Purl, iv p3.A, iv p3.B]) 1 (.bool p3.Purl) S (wN rfl) rfl rfl rfl rfl rfl rfl (lb rfl) fun a S => ?_
        exact leafL ⟨rfl, S⟩
      refine ⟨_, [(29, .pointer (some ⟨bb0, 0, none⟩)), (30, iv p1), (31, iv p2), (35, .slice ad29 ([x9] : List Int).length cp30), (37, .bool p3.Purl)], rfl, (srcs_of [some 1, some 2, some 3, some 0, some 8] rfl rfl rfl), fun G a w S => ?_⟩
      have S := S.shutR (r := (rI .i64)) (T := 3) (v := .slice ad29 ([x9] : List Int).length cp30) (xs := ([x9] : List Int)) 0 rfl
      refine sCall (X := Option Addr × Nat × Option Addr × Nat × Option Addr × Nat × Option Addr × Nat) (f := 45) (vs := [.pointer (some ⟨bb0, 0, none⟩), iv p1, iv p2, .slice ad29 ([x9] : List Int).length cp30, .bool p3.Purl]) (val := fun _ => .tuple #[]) (B' := fun x => [eBox bb0 77 [.slice x.1 r16.Loops.length x.2.1, .slice x.2.2.1 r16.Bound.length x.2.2.2.1, .slice x.2.2.2.2.1 r16.Cross.length x.2.2.2.2.2.1, .slice x.2.2.2.2.2.2.1 r16.Rows.length x.2.2.2.2.2.2.2], eRow r_api_Loop 48 (.slice x.1 r16.Loops.length x.2.1) r16.Loops, eRow (rI .i64) 3 (.slice x.2.2.1 r16.Bound.length x.2.2.2.1) r16.Bound, eRow r_A2_Int 49 (.slice x.2.2.2.2.1 r16.Cross.length x.2.2.2.2.2.1) r16.Cross, eRow (rI .i64) 3 (.slice x.2.2.2.2.2.2.1 r16.Rows.length x.2.2.2.2.2.2.2) r16.Rows]) (D' := fun _ => []) [eBox bb0 77 [.slice ad_0_0 p0.Loops.length cp_0_0, .slice ad_0_1 p0.Bound.length cp_0_1, .slice ad_0_2 p0.Cross.length cp_0_2, .slice ad_0_3 p0.Rows.length cp_0_3], eRow r_api_Loop 48 (.slice ad_0_0 p0.Loops.length cp_0_0) p0.Loops, eRow (rI .i64) 3 (.slice ad_0_1 p0.Bound.length cp_0_1) p0.Bound, eRow r_A2_Int 49 (.slice ad_0_2 p0.Cross.length cp_0_2) p0.Cross, eRow (rI .i64) 3 (.slice ad_0_3 p0.Rows.length cp_0_3) p0.Rows] [eBox b4 61 [.int .u8 p3.Kind, .bool p3.Purl, iv p3.A, iv p3.B]] [fRep (rL (rI .i64)) (.slice ad29 ([x9] : List Int).length cp30) ([x9] : List Int)] [1, 2, 3, 4, 5, 0] [0] S (wN rfl) rfl callee45 rfl (by decide) rfl rfl (fun E1 w1 S1 => c_raddleref27_Piece_put_s1 E1 w1 p0 bb0 ad_0_0 cp_0_0 ad_0_1 cp_0_1 ad_0_2 cp_0_2 ad_0_3 cp_0_3 p1 p2 ([x9] : List Int) (.slice ad29 ([x9] : List Int).length cp30) p3.Purl r16 hx17 S1) rfl (lb rfl) fun xx a w S => ?_
      obtain ⟨ad31, cp32, ad33, cp34, ad35, cp36, ad37, cp38⟩ := xx
      dsimp only at S
      refine leafL ⟨rfl, _, _, .inl ⟨38, (.tuple #[]), [], rfl, S, hz_of rfl, ?_⟩⟩
      refine node_by (A := anc_raddleref27_Piece_cell_s1_0) (nf := [6, 9]) (Y := [9, 6]) 10 (by kernel_rfl) (by kernel_rfl) (by kernel_rfl) (by kernel_rfl) (by kernel_rfl) [9, 6, 0, 1, 2, 3, 4, 5, 7, 8] (by kernel_rfl) (by decide) (by decide) (aD 0 9 9 (by decide) (aD 1 8 9 (by decide) (aD 2 7 9 (by decide) (aD 3 6 9 (by decide) (aD 4 5 9 (by decide) (aD 5 4 9 (by decide) (aY 6 3 (by decide) (aD 7 2 9 (by decide) (aD 8 1 9 (by decide) (aY 9 0 (by decide) (trivial))))))))))) [] (fin_of [] rfl (by kernel_rfl) (by kernel_rfl)) (fun _ a w S => ?_)
      obtain rfl := Option.some.inj h
      exact leafB (sEnd (.tuple #[]) S (rsl0 rfl ) ⟨(ad31, cp32, ad33, cp34, ad35, cp36, ad37, cp38), rfl, S.mem.sel [0, 1, 2, 3, 4] [] (by decide) rfl rfl⟩)
    · refine fI 36 (.pointer (some ⟨b4, 1, none⟩)) [(8, .pointer (some ⟨b4, 0, none⟩))] 6 [none] rfl rfl rfl rfl rfl rfl fun G a w S => ?_
      refine sField (b := b4) (off := 0) 1 1 S (wN rfl) rfl rfl rfl rfl rfl (lb rfl) fun a S => ?_
      exact leafL ⟨rfl, S⟩
    refine fI 37 (.bool p3.Purl) [(36, .pointer (some ⟨b4, 1, none⟩))] 7 [some 6] rfl rfl rfl rfl rfl rfl fun G a w S => ?_
    refine sLoad1 (p := b4) (off := 1) (T := 61) (vs := [.int .u8 p3.Kind, .bool p3.Purl, iv p3.A, iv p3.B]) 0 (.bool p3.Purl) S (wN rfl) rfl rfl rfl rfl rfl rfl (lb rfl) fun a S => ?_
    exact leafL ⟨rfl, S⟩
  refine sCondF S rfl hc8 ?_
  refine sSeq (fun K39 hK39 => ?_)
  refine sRegion ?_
  refine sBin (.bool (p3.Kind == 2)) S (wN rfl) rfl rfl rfl (bEq _ _ _ _ .u8 p3.Kind 2) rfl (lb rfl) fun a S => ?_
  refine sMove (.bool (p3.Kind == 2)) S (wN rfl) (.inr rfl) rfl rfl (lb rfl) fun a S => ?_
  refine leafL (leafT (hK39 _ _ ?_))
  rcases iteSome h with ⟨hc40, h⟩ | ⟨hc40, h⟩
  · refine sCondT S rfl hc40 ?_
    refine sRegion ?_
    refine sMove (.pointer (some ⟨bb0, 0, none⟩)) S (wN rfl) (.inl rfl) rfl rfl (lb rfl) fun a S => ?_
    refine sMove (iv p1) S (wN rfl) (.inl rfl) rfl rfl (lb rfl) fun a S => ?_
    refine sMove (iv p2) S (wN rfl) (.inl rfl) rfl rfl (lb rfl) fun a S => ?_
    obtain ⟨r41, hx42, h⟩ := bindSome h
    have S := S.learn (fRep (rL (rI .i64)) (.slice none 0 0) ([] : (List Int))) (rL_nil _ _ _)
    refine sCall (X := Option Addr × Nat × Option Addr × Nat × Option Addr × Nat × Option Addr × Nat) (f := 45) (vs := [.pointer (some ⟨bb0, 0, none⟩), iv p1, iv p2, .slice none 0 0, .bool false]) (val := fun _ => .tuple #[]) (B' := fun x => [eBox bb0 77 [.slice x.1 r41.Loops.length x.2.1, .slice x.2.2.1 r41.Bound.length x.2.2.2.1, .slice x.2.2.2.2.1 r41.Cross.length x.2.2.2.2.2.1, .slice x.2.2.2.2.2.2.1 r41.Rows.length x.2.2.2.2.2.2.2], eRow r_api_Loop 48 (.slice x.1 r41.Loops.length x.2.1) r41.Loops, eRow (rI .i64) 3 (.slice x.2.2.1 r41.Bound.length x.2.2.2.1) r41.Bound, eRow r_A2_Int 49 (.slice x.2.2.2.2.1 r41.Cross.length x.2.2.2.2.2.1) r41.Cross, eRow (rI .i64) 3 (.slice x.2.2.2.2.2.2.1 r41.Rows.length x.2.2.2.2.2.2.2) r41.Rows]) (D' := fun _ => []) [eBox bb0 77 [.slice ad_0_0 p0.Loops.length cp_0_0, .slice ad_0_1 p0.Bound.length cp_0_1, .slice ad_0_2 p0.Cross.length cp_0_2, .slice ad_0_3 p0.Rows.length cp_0_3], eRow r_api_Loop 48 (.slice ad_0_0 p0.Loops.length cp_0_0) p0.Loops, eRow (rI .i64) 3 (.slice ad_0_1 p0.Bound.length cp_0_1) p0.Bound, eRow r_A2_Int 49 (.slice ad_0_2 p0.Cross.length cp_0_2) p0.Cross, eRow (rI .i64) 3 (.slice ad_0_3 p0.Rows.length cp_0_3) p0.Rows] [eBox b4 61 [.int .u8 p3.Kind, .bool p3.Purl, iv p3.A, iv p3.B]] [fRep (rL (rI .i64)) (.slice none 0 0) ([] : (List Int))] [1, 2, 3, 4, 5, 0] [0] S (wN rfl) rfl callee45 rfl (by decide) rfl rfl (fun E1 w1 S1 => c_raddleref27_Piece_put_s1 E1 w1 p0 bb0 ad_0_0 cp_0_0 ad_0_1 cp_0_1 ad_0_2 cp_0_2 ad_0_3 cp_0_3 p1 p2 ([] : (List Int)) (.slice none 0 0) false r41 hx42 S1) rfl (lb rfl) fun xx a w S => ?_
    obtain ⟨ad43, cp44, ad45, cp46, ad47, cp48, ad49, cp50⟩ := xx
    dsimp only at S
    obtain rfl := Option.some.inj h
    exact leafL (leafB (sEnd (.tuple #[]) S (rsl0 rfl ) ⟨(ad43, cp44, ad45, cp46, ad47, cp48, ad49, cp50), rfl, S.mem.sel [0, 1, 2, 3, 4] [] (by decide) rfl rfl⟩))
  refine sCondF S rfl hc40 ?_
  refine sSeq (fun K51 hK51 => ?_)
  refine sRegion ?_
  refine sBin (.bool (p3.Kind == 9)) S (wN rfl) rfl rfl rfl (bEq _ _ _ _ .u8 p3.Kind 9) rfl (lb rfl) fun a S => ?_
  refine sMove (.bool (p3.Kind == 9)) S (wN rfl) (.inr rfl) rfl rfl (lb rfl) fun a S => ?_
  refine leafL (leafT (hK51 _ _ ?_))
  rcases iteSome h with ⟨hc52, h⟩ | ⟨hc52, h⟩
  · refine sCondT S rfl hc52 ?_
    refine sSeq (fun K53 hK53 => ?_)
    refine sRegion ?_
    refine sMove (iv 0) S (wN rfl) (.inr rfl) rfl rfl (lb rfl) fun a S => ?_
    refine leafL (leafT (hK53 _ _ ?_))
    refine wp_block ?_
    obtain ⟨t69, hl, g68⟩ := bindSome h
    refine sLoop hl (fun s0 a w => match s0 with | (s54, s55, s58, s61, s64) => ∃ ad56, ∃ cp57, ∃ ad59, ∃ cp60, ∃ ad62, ∃ cp63, ∃ ad65, ∃ cp66, St [] E (keysL [eBox bb0 77 [.slice ad_0_0 p0.Loops.length cp_0_0, .slice ad_0_1 p0.Bound.length cp_0_1, .slice ad_0_2 p0.Cross.length cp_0_2, .slice ad_0_3 p0.Rows.length cp_0_3], eRow r_api_Loop 48 (.slice ad_0_0 p0.Loops.length cp_0_0) p0.Loops, eRow (rI .i64) 3 (.slice ad_0_1 p0.Bound.length cp_0_1) p0.Bound, eRow r_A2_Int 49 (.slice ad_0_2 p0.Cross.length cp_0_2) p0.Cross, eRow (rI .i64) 3 (.slice ad_0_3 p0.Rows.length cp_0_3) p0.Rows]) w0 213 a w [(0, .pointer (some ⟨bb0, 0, none⟩)), (1, iv p1), (2, iv p2), (8, .pointer (some ⟨b4, 0, none⟩)), (11, iv s54)] [eBox bb0 77 [.slice ad56 s55.length cp57, .slice ad59 s58.length cp60, .slice ad62 s61.length cp63, .slice ad65 s64.length cp66], eBox b4 61 [.int .u8 p3.Kind, .bool p3.Purl, iv p3.A, iv p3.B], eRow r_api_Loop 48 (.slice ad56 s55.length cp57) s55, eRow (rI .i64) 3 (.slice ad59 s58.length cp60) s58, eRow r_A2_Int 49 (.slice ad62 s61.length cp63) s61, eRow (rI .i64) 3 (.slice ad65 s64.length cp66) s64] []) ⟨ad_0_0, cp_0_0, ad_0_1, cp_0_1, ad_0_2, cp_0_2, ad_0_3, cp_0_3, S.fix [1, 0, 2, 3, 4, 5] [] (by decide) rfl rfl rfl⟩ ?_
    clear hl h
    intro s0 a w c0 hI h hu67
    obtain ⟨s54, s55, s58, s61, s64⟩ := s0
    unfold raddleref27_Piece_cell_s1_l1 at h
    dsimp only at h hI
    obtain ⟨ad56, cp57, ad59, cp60, ad62, cp63, ad65, cp66, S⟩ := hI
    refine sSeq (fun K82 hK82 => ?_)
    refine sSeq (fun K83 hK83 => ?_)
    refine sRegion ?_
    refine sMove (iv s54) S (wN rfl) (.inl rfl) rfl rfl (lb rfl) fun a S => ?_
    refine sField (b := b4) (off := 0) 2 2 S (wN rfl) rfl rfl rfl rfl rfl (lb rfl) fun a S => ?_
    refine sLoad1 (p := b4) (off := 2) (T := 61) (vs := [.int .u8 p3.Kind, .bool p3.Purl, iv p3.A, iv p3.B]) 1 (iv p3.A) S (wN rfl) rfl rfl rfl rfl rfl rfl (lb rfl) fun a S => ?_
    refine sBin (.bool (decide (s54 < p3.A))) S (wN rfl) rfl rfl rfl (bLt _ _ _ _ .i64 s54 p3.A) rfl (lb rfl) fun a S => ?_
    refine leafL (leafT (hK83 _ _ ?_))
    rcases iteSome h with ⟨hc84, h⟩ | ⟨hc84, h⟩
    rotate_left
    · refine sCondF S rfl hc84 ?_
      obtain rfl := Option.some.inj h
      obtain rfl := hu67 _ rfl
      have h := g68
      clear g68
      try dsimp only at h
      obtain rfl := Option.some.inj h
      exact wp_exit (xThen (xThen (xHit (leafB (sEnd (.tuple #[]) S (rsl0 rfl ) ⟨(ad56, cp57, ad59, cp60, ad62, cp63, ad65, cp66), rfl, S.mem.sel [0, 2, 3, 4, 5] [] (by decide) rfl rfl⟩)))))
    refine sCondT S rfl hc84 ?_
    refine wp_skip (leafT (hK82 _ _ ?_))
    refine sSeq (fun K85 hK85 => ?_)
    refine wp_block ?_
    refine sRegion ?_
    refine sMove (.pointer (some ⟨bb0, 0, none⟩)) S (wN rfl) (.inl rfl) rfl rfl (lb rfl) fun a S => ?_
    refine sMove (iv p1) S (wN rfl) (.inl rfl) rfl rfl (lb rfl) fun a S => ?_
    refine sMove (iv p2) S (wN rfl) (.inl rfl) rfl rfl (lb rfl) fun a S => ?_
    obtain ⟨r86, hx87, h⟩ := bindSome h
    have S := S.learn (fRep (rL (rI .i64)) (.slice none 0 0) ([] : (List Int))) (rL_nil _ _ _)
    refine sCall (X := Option Addr × Nat × Option Addr × Nat × Option Addr × Nat × Option Addr × Nat) (f := 45) (vs := [.pointer (some ⟨bb0, 0, none⟩), iv p1, iv p2, .slice none 0 0, .bool false]) (val := fun _ => .tuple #[]) (B' := fun x => [eBox bb0 77 [.slice x.1 r86.Loops.length x.2.1, .slice x.2.2.1 r86.Bound.length x.2.2.2.1, .slice x.2.2.2.2.1 r86.Cross.length x.2.2.2.2.2.1, .slice x.2.2.2.2.2.2.1 r86.Rows.length x.2.2.2.2.2.2.2], eRow r_api_Loop 48 (.slice x.1 r86.Loops.length x.2.1) r86.Loops, eRow (rI .i64) 3 (.slice x.2.2.1 r86.Bound.length x.2.2.2.1) r86.Bound, eRow r_A2_Int 49 (.slice x.2.2.2.2.1 r86.Cross.length x.2.2.2.2.2.1) r86.Cross, eRow (rI .i64) 3 (.slice x.2.2.2.2.2.2.1 r86.Rows.length x.2.2.2.2.2.2.2) r86.Rows]) (D' := fun _ => []) [eBox bb0 77 [.slice ad56 s55.length cp57, .slice ad59 s58.length cp60, .slice ad62 s61.length cp63, .slice ad65 s64.length cp66], eRow r_api_Loop 48 (.slice ad56 s55.length cp57) s55, eRow (rI .i64) 3 (.slice ad59 s58.length cp60) s58, eRow r_A2_Int 49 (.slice ad62 s61.length cp63) s61, eRow (rI .i64) 3 (.slice ad65 s64.length cp66) s64] [eBox b4 61 [.int .u8 p3.Kind, .bool p3.Purl, iv p3.A, iv p3.B]] [fRep (rL (rI .i64)) (.slice none 0 0) ([] : (List Int))] [0, 2, 3, 4, 5, 1] [0] S (wN rfl) rfl callee45 rfl (by decide) rfl rfl (fun E1 w1 S1 => c_raddleref27_Piece_put_s1 E1 w1 (raddleref27_Piece.mk s55 s58 s61 s64) bb0 ad56 cp57 ad59 cp60 ad62 cp63 ad65 cp66 p1 p2 ([] : (List Int)) (.slice none 0 0) false r86 hx87 S1) rfl (lb rfl) fun xx a w S => ?_
    obtain ⟨ad88, cp89, ad90, cp91, ad92, cp93, ad94, cp95⟩ := xx
    dsimp only at S
    refine leafL (leafB (leafT (hK85 _ _ ?_)))
    refine sRegion ?_
    refine sMove (iv s54) S (wN rfl) (.inl rfl) rfl rfl (lb rfl) fun a S => ?_
    refine sBin (iv (w64 (s54 + 1))) S (wN rfl) rfl rfl rfl (bAdd _ _ _ _ s54 1) rfl (lb rfl) fun a S => ?_
    refine sMove (iv (w64 (s54 + 1))) S (wN rfl) (.inr rfl) rfl rfl (lb rfl) fun a S => ?_
    exact leafL (leafT (⟨(w64 (s54 + 1), r86.Loops, r86.Bound, r86.Cross, r86.Rows), (Option.some.inj h).symm, ⟨ad88, cp89, ad90, cp91, ad92, cp93, ad94, cp95, S.fix [0, 5, 1, 2, 3, 4] [] (by decide) rfl rfl rfl⟩⟩))
  refine sCondF S rfl hc52 ?_
  obtain ⟨t105, h, g106⟩ := bindSome h
  refine sCut (fun a w => ∃ o96, o96 = t105 ∧ ∃ ad97, ∃ cp98, ∃ ad99, ∃ cp100, ∃ ad101, ∃ cp102, ∃ ad103, ∃ cp104, St [] E (keysL [eBox bb0 77 [.slice ad_0_0 p0.Loops.length cp_0_0, .slice ad_0_1 p0.Bound.length cp_0_1, .slice ad_0_2 p0.Cross.length cp_0_2, .slice ad_0_3 p0.Rows.length cp_0_3], eRow r_api_Loop 48 (.slice ad_0_0 p0.Loops.length cp_0_0) p0.Loops, eRow (rI .i64) 3 (.slice ad_0_1 p0.Bound.length cp_0_1) p0.Bound, eRow r_A2_Int 49 (.slice ad_0_2 p0.Cross.length cp_0_2) p0.Cross, eRow (rI .i64) 3 (.slice ad_0_3 p0.Rows.length cp_0_3) p0.Rows]) w0 213 a w [(0, .pointer (some ⟨bb0, 0, none⟩)), (1, iv p1), (2, iv p2), (4, .slice ad1 p4.length cp2), (8, .pointer (some ⟨b4, 0, none⟩)), (10, iv (p0.Loops.length : Int)), (26, .int .u8 p3.Kind), (57, .bool o96)] [eBox bb0 77 [.slice ad97 p0.Loops.length cp98, .slice ad99 p0.Bound.length cp100, .slice ad101 p0.Cross.length cp102, .slice ad103 p0.Rows.length cp104], eBox b4 61 [.int .u8 p3.Kind, .bool p3.Purl, iv p3.A, iv p3.B], eRow r_api_Loop 48 (.slice ad97 p0.Loops.length cp98) p0.Loops, eRow (rI .i64) 3 (.slice ad99 p0.Bound.length cp100) p0.Bound, eRow r_A2_Int 49 (.slice ad101 p0.Cross.length cp102) p0.Cross, eRow (rI .i64) 3 (.slice ad103 p0.Rows.length cp104) p0.Rows] [fRep (rL (rI .i64)) (.slice ad1 p4.length cp2) p4]) ?_ (fun a w hI => ?_)
  · refine sSeq (fun K107 hK107 => ?_)
    refine sRegion ?_
    refine sBin (.bool (p3.Kind == 3)) S (wN rfl) rfl rfl rfl (bEq _ _ _ _ .u8 p3.Kind 3) rfl (lb rfl) fun a S => ?_
    refine sMove (.bool (p3.Kind == 3)) S (wN rfl) (.inr rfl) rfl rfl (lb rfl) fun a S => ?_
    refine leafL (leafT (hK107 _ _ ?_))
    rcases iteSome h with ⟨hc108, h⟩ | ⟨hc108, h⟩
    · refine sCondT S rfl hc108 ?_
      exact wp_skip (leafT (⟨p3.Kind == 3, Option.some.inj h, ad_0_0, cp_0_0, ad_0_1, cp_0_1, ad_0_2, cp_0_2, ad_0_3, cp_0_3, S.fix [1, 0, 2, 3, 4, 5] [1] (by decide) rfl rfl rfl⟩))
    refine sCondF S rfl hc108 ?_
    refine sRegion ?_
    refine sBin (.bool (p3.Kind == 4)) S (wN rfl) rfl rfl rfl (bEq _ _ _ _ .u8 p3.Kind 4) rfl (lb rfl) fun a S => ?_
    refine sMove (.bool (p3.Kind == 4)) S (wN rfl) (.inr rfl) rfl rfl (lb rfl) fun a S => ?_
    exact leafL (leafT (⟨p3.Kind == 4, Option.some.inj h, ad_0_0, cp_0_0, ad_0_1, cp_0_1, ad_0_2, cp_0_2, ad_0_3, cp_0_3, S.fix [1, 0, 2, 3, 4, 5] [1] (by decide) rfl rfl rfl⟩))
  obtain ⟨o96, rfl, ad97, cp98, ad99, cp100, ad101, cp102, ad103, cp104, S⟩ := hI
  have h := g106
  clear g106
  try dsimp only at h
  rcases iteSome h with ⟨hc109, h⟩ | ⟨hc109, h⟩
  · refine sCondT S rfl hc109 ?_
    refine sSeq (fun K110 hK110 => ?_)
    refine sRegion ?_
    refine sMove (.slice none 0 0) S (wN rfl) (.inr rfl) rfl rfl (lb rfl) fun a S => ?_
    refine leafL (leafT (hK110 _ _ ?_))
    obtain ⟨t114, h, g115⟩ := bindSome h
    refine sCut (fun a w => ∃ o111, o111 = t114 ∧ ∃ ad112, ∃ cp113, St [] E (keysL [eBox bb0 77 [.slice ad_0_0 p0.Loops.length cp_0_0, .slice ad_0_1 p0.Bound.length cp_0_1, .slice ad_0_2 p0.Cross.length cp_0_2, .slice ad_0_3 p0.Rows.length cp_0_3], eRow r_api_Loop 48 (.slice ad_0_0 p0.Loops.length cp_0_0) p0.Loops, eRow (rI .i64) 3 (.slice ad_0_1 p0.Bound.length cp_0_1) p0.Bound, eRow r_A2_Int 49 (.slice ad_0_2 p0.Cross.length cp_0_2) p0.Cross, eRow (rI .i64) 3 (.slice ad_0_3 p0.Rows.length cp_0_3) p0.Rows]) w0 213 a w [(0, .pointer (some ⟨bb0, 0, none⟩)), (1, iv p1), (2, iv p2), (8, .pointer (some ⟨b4, 0, none⟩)), (12, .slice ad112 o111.length cp113)] [eBox bb0 77 [.slice ad97 p0.Loops.length cp98, .slice ad99 p0.Bound.length cp100, .slice ad101 p0.Cross.length cp102, .slice ad103 p0.Rows.length cp104], eBox b4 61 [.int .u8 p3.Kind, .bool p3.Purl, iv p3.A, iv p3.B], eRow (rI .i64) 3 (.slice ad112 o111.length cp113) o111, eRow r_api_Loop 48 (.slice ad97 p0.Loops.length cp98) p0.Loops, eRow (rI .i64) 3 (.slice ad99 p0.Bound.length cp100) p0.Bound, eRow r_A2_Int 49 (.slice ad101 p0.Cross.length cp102) p0.Cross, eRow (rI .i64) 3 (.slice ad103 p0.Rows.length cp104) p0.Rows] []) ?_ (fun a w hI => ?_)
    rotate_left
    · obtain ⟨o111, rfl, ad112, cp113, S⟩ := hI
      have h := g115
      clear g115
      try dsimp only at h
      refine sRegion ?_
      refine sMove (.pointer (some ⟨bb0, 0, none⟩)) S (wN rfl) (.inl rfl) rfl rfl (lb rfl) fun a S => ?_
      refine sMove (iv p1) S (wN rfl) (.inl rfl) rfl rfl (lb rfl) fun a S => ?_
      refine sMove (iv p2) S (wN rfl) (.inl rfl) rfl rfl (lb rfl) fun a S => ?_
      refine sMove (.slice ad112 o111.length cp113) S (wN rfl) (.inl rfl) rfl rfl (lb rfl) fun a S => ?_
      refine sField (b := b4) (off := 0) 1 1 S (wN rfl) rfl rfl rfl rfl rfl (lb rfl) fun a S => ?_
      refine sLoad1 (p := b4) (off := 1) (T := 61) (vs := [.int .u8 p3.Kind, .bool p3.Purl, iv p3.A, iv p3.B]) 1 (.bool p3.Purl) S (wN rfl) rfl rfl rfl rfl rfl rfl (lb rfl) fun a S => ?_
      obtain ⟨r159, hx160, h⟩ := bindSome h
      have S := S.shutR (r := (rI .i64)) (T := 3) (v := .slice ad112 o111.length cp113) (xs := o111) 2 rfl
      refine sCall (X := Option Addr × Nat × Option Addr × Nat × Option Addr × Nat × Option Addr × Nat) (f := 45) (vs := [.pointer (some ⟨bb0, 0, none⟩), iv p1, iv p2, .slice ad112 o111.length cp113, .bool p3.Purl]) (val := fun _ => .tuple #[]) (B' := fun x => [eBox bb0 77 [.slice x.1 r159.Loops.length x.2.1, .slice x.2.2.1 r159.Bound.length x.2.2.2.1, .slice x.2.2.2.2.1 r159.Cross.length x.2.2.2.2.2.1, .slice x.2.2.2.2.2.2.1 r159.Rows.length x.2.2.2.2.2.2.2], eRow r_api_Loop 48 (.slice x.1 r159.Loops.length x.2.1) r159.Loops, eRow (rI .i64) 3 (.slice x.2.2.1 r159.Bound.length x.2.2.2.1) r159.Bound, eRow r_A2_Int 49 (.slice x.2.2.2.2.1 r159.Cross.length x.2.2.2.2.2.1) r159.Cross, eRow (rI .i64) 3 (.slice x.2.2.2.2.2.2.1 r159.Rows.length x.2.2.2.2.2.2.2) r159.Rows]) (D' := fun _ => []) [eBox bb0 77 [.slice ad97 p0.Loops.length cp98, .slice ad99 p0.Bound.length cp100, .slice ad101 p0.Cross.length cp102, .slice ad103 p0.Rows.length cp104], eRow r_api_Loop 48 (.slice ad97 p0.Loops.length cp98) p0.Loops, eRow (rI .i64) 3 (.slice ad99 p0.Bound.length cp100) p0.Bound, eRow r_A2_Int 49 (.slice ad101 p0.Cross.length cp102) p0.Cross, eRow (rI .i64) 3 (.slice ad103 p0.Rows.length cp104) p0.Rows] [eBox b4 61 [.int .u8 p3.Kind, .bool p3.Purl, iv p3.A, iv p3.B]] [fRep (rL (rI .i64)) (.slice ad112 o111.length cp113) o111] [0, 2, 3, 4, 5, 1] [0] S (wN rfl) rfl callee45 rfl (by decide) rfl rfl (fun E1 w1 S1 => c_raddleref27_Piece_put_s1 E1 w1 p0 bb0 ad97 cp98 ad99 cp100 ad101 cp102 ad103 cp104 p1 p2 o111 (.slice ad112 o111.length cp113) p3.Purl r159 hx160 S1) rfl (lb rfl) fun xx a w S => ?_
      obtain ⟨ad161, cp162, ad163, cp164, ad165, cp166, ad167, cp168⟩ := xx
      dsimp only at S
      obtain rfl := Option.some.inj h
      exact leafL (leafB (sEnd (.tuple #[]) S (rsl0 rfl ) ⟨(ad161, cp162, ad163, cp164, ad165, cp166, ad167, cp168), rfl, S.mem.sel [0, 1, 2, 3, 4] [] (by decide) rfl rfl⟩))
    refine sSeq (fun K116 hK116 => ?_)
    refine sRegion ?_
    refine sMove (iv 0) S (wN rfl) (.inr rfl) rfl rfl (lb rfl) fun a S => ?_
    refine leafL (leafT (hK116 _ _ ?_))
    refine wp_block ?_
    have S := S.nilRow (rI .i64) 3 (α := Int)
    obtain ⟨t123, hl, g122⟩ := bindSome h
    refine sLoop hl (fun s0 a w => match s0 with | (s117, s120) => ∃ ad118, ∃ cp119, St [] E (keysL [eBox bb0 77 [.slice ad_0_0 p0.Loops.length cp_0_0, .slice ad_0_1 p0.Bound.length cp_0_1, .slice ad_0_2 p0.Cross.length cp_0_2, .slice ad_0_3 p0.Rows.length cp_0_3], eRow r_api_Loop 48 (.slice ad_0_0 p0.Loops.length cp_0_0) p0.Loops, eRow (rI .i64) 3 (.slice ad_0_1 p0.Bound.length cp_0_1) p0.Bound, eRow r_A2_Int 49 (.slice ad_0_2 p0.Cross.length cp_0_2) p0.Cross, eRow (rI .i64) 3 (.slice ad_0_3 p0.Rows.length cp_0_3) p0.Rows]) w0 213 a w [(0, .pointer (some ⟨bb0, 0, none⟩)), (1, iv p1), (2, iv p2), (4, .slice ad1 p4.length cp2), (8, .pointer (some ⟨b4, 0, none⟩)), (12, .slice ad118 s117.length cp119), (13, iv s120)] [eBox bb0 77 [.slice ad97 p0.Loops.length cp98, .slice ad99 p0.Bound.length cp100, .slice ad101 p0.Cross.length cp102, .slice ad103 p0.Rows.length cp104], eBox b4 61 [.int .u8 p3.Kind, .bool p3.Purl, iv p3.A, iv p3.B], eRow (rI .i64) 3 (.slice ad118 s117.length cp119) s117, eRow r_api_Loop 48 (.slice ad97 p0.Loops.length cp98) p0.Loops, eRow (rI .i64) 3 (.slice ad99 p0.Bound.length cp100) p0.Bound, eRow r_A2_Int 49 (.slice ad101 p0.Cross.length cp102) p0.Cross, eRow (rI .i64) 3 (.slice ad103 p0.Rows.length cp104) p0.Rows] [fRep (rL (rI .i64)) (.slice ad1 p4.length cp2) p4]) ⟨none, 0, S.fix [1, 2, 0, 3, 4, 5, 6] [0] (by decide) rfl rfl rfl⟩ ?_
    clear hl h
    intro s0 a w c0 hI h hu121
    obtain ⟨s117, s120⟩ := s0
    unfold raddleref27_Piece_cell_s1_l2 at h
    dsimp only at h hI
    obtain ⟨ad118, cp119, S⟩ := hI
    refine sSeq (fun K127 hK127 => ?_)
    refine sSeq (fun K128 hK128 => ?_)
    refine sRegion ?_
    refine sMove (iv s120) S (wN rfl) (.inl rfl) rfl rfl (lb rfl) fun a S => ?_
    refine sMove (.slice ad1 p4.length cp2) S (wN rfl) (.inl rfl) rfl rfl (lb rfl) fun a S => ?_
    refine sLen (ad := ad1) (m := p4.length) (c := cp2) S (wN rfl) rfl Try.underlying32 rfl rfl (lb rfl) fun a S => ?_
    refine sBin (.bool (decide (s120 < (p4.length : Int)))) S (wN rfl) rfl rfl rfl (bLt _ _ _ _ .i64 s120 (p4.length : Int)) rfl (lb rfl) fun a S => ?_
    refine leafL (leafT (hK128 _ _ ?_))
    rcases iteSome h with ⟨hc129, h⟩ | ⟨hc129, h⟩
    rotate_left
    · refine sCondF S rfl hc129 ?_
      obtain rfl := Option.some.inj h
      obtain rfl := hu121 _ rfl
      have h := g122
      clear g122
      try dsimp only at h
      exact wp_exit (xThen (xThen (xHit (leafT (⟨s117, Option.some.inj h, ad118, cp119, S.fix [0, 1, 2, 3, 4, 5, 6] [] (by decide) rfl rfl rfl⟩)))))
    refine sCondT S rfl hc129 ?_
    refine wp_skip (leafT (hK127 _ _ ?_))
    obtain ⟨t133, h, g134⟩ := bindSome h
    refine sCut (fun a w => ∃ o130, o130 = t133 ∧ ∃ ad131, ∃ cp132, St [] E (keysL [eBox bb0 77 [.slice ad_0_0 p0.Loops.length cp_0_0, .slice ad_0_1 p0.Bound.length cp_0_1, .slice ad_0_2 p0.Cross.length cp_0_2, .slice ad_0_3 p0.Rows.length cp_0_3], eRow r_api_Loop 48 (.slice ad_0_0 p0.Loops.length cp_0_0) p0.Loops, eRow (rI .i64) 3 (.slice ad_0_1 p0.Bound.length cp_0_1) p0.Bound, eRow r_A2_Int 49 (.slice ad_0_2 p0.Cross.length cp_0_2) p0.Cross, eRow (rI .i64) 3 (.slice ad_0_3 p0.Rows.length cp_0_3) p0.Rows]) w0 213 a w [(0, .pointer (some ⟨bb0, 0, none⟩)), (1, iv p1), (2, iv p2), (4, .slice ad1 p4.length cp2), (8, .pointer (some ⟨b4, 0, none⟩)), (12, .slice ad131 o130.length cp132), (13, iv s120)] [eBox bb0 77 [.slice ad97 p0.Loops.length cp98, .slice ad99 p0.Bound.length cp100, .slice ad101 p0.Cross.length cp102, .slice ad103 p0.Rows.length cp104], eBox b4 61 [.int .u8 p3.Kind, .bool p3.Purl, iv p3.A, iv p3.B], eRow (rI .i64) 3 (.slice ad131 o130.length cp132) o130, eRow r_api_Loop 48 (.slice ad97 p0.Loops.length cp98) p0.Loops, eRow (rI .i64) 3 (.slice ad99 p0.Bound.length cp100) p0.Bound, eRow r_A2_Int 49 (.slice ad101 p0.Cross.length cp102) p0.Cross, eRow (rI .i64) 3 (.slice ad103 p0.Rows.length cp104) p0.Rows] [fRep (rL (rI .i64)) (.slice ad1 p4.length cp2) p4]) ?_ (fun a w hI => ?_)
    rotate_left
    · obtain ⟨o130, rfl, ad131, cp132, S⟩ := hI
      have h := g134
      clear g134
      try dsimp only at h
      refine sRegion ?_
      refine sMove (iv s120) S (wN rfl) (.inl rfl) rfl rfl (lb rfl) fun a S => ?_
      refine sBin (iv (w64 (s120 + 1))) S (wN rfl) rfl rfl rfl (bAdd _ _ _ _ s120 1) rfl (lb rfl) fun a S => ?_
      refine sMove (iv (w64 (s120 + 1))) S (wN rfl) (.inr rfl) rfl rfl (lb rfl) fun a S => ?_
      exact leafL (leafT (⟨(o130, w64 (s120 + 1)), (Option.some.inj h).symm, ⟨ad131, cp132, S.fix [0, 1, 2, 3, 4, 5, 6] [0] (by decide) rfl rfl rfl⟩⟩))
    refine wp_block ?_
    refine sSeq (fun K135 hK135 => ?_)
    refine sRegion ?_
    refine sField (b := b4) (off := 0) 0 0 S (wN rfl) rfl rfl rfl rfl rfl (lb rfl) fun a S => ?_
    refine sLoad1 (p := b4) (off := 0) (T := 61) (vs := [.int .u8 p3.Kind, .bool p3.Purl, iv p3.A, iv p3.B]) 1 (.int .u8 p3.Kind) S (wN rfl) rfl rfl rfl rfl rfl rfl (lb rfl) fun a S => ?_
    refine sBin (.bool (p3.Kind == 3)) S (wN rfl) rfl rfl rfl (bEq _ _ _ _ .u8 p3.Kind 3) rfl (lb rfl) fun a S => ?_
    refine leafL (leafT (hK135 _ _ ?_))
    rcases iteSome h with ⟨hc136, h⟩ | ⟨hc136, h⟩
    · refine sCondT S rfl hc136 ?_
      refine sRegion ?_
      refine sMove (.slice ad118 s117.length cp119) S (wN rfl) (.inl rfl) rfl rfl (lb rfl) fun a S => ?_
      refine sMove (.slice ad1 p4.length cp2) S (wN rfl) (.inl rfl) rfl rfl (lb rfl) fun a S => ?_
      refine sMove (iv s120) S (wN rfl) (.inl rfl) rfl rfl (lb rfl) fun a S => ?_
      obtain ⟨x137, hx138, h⟩ := bindSome h
      obtain ⟨q139, hq140, S⟩ := pIdx (P := Try.prog) (r := (rI .i64)) (v := .slice ad1 p4.length cp2) (xs := p4) (j := s120) 32 3 0 S Try.underlying32 rfl rfl hx138
      refine sIdxV (v := .slice ad1 p4.length cp2) (k := .i64) (j := s120) S (wN rfl) rfl rfl rfl hq140 rfl (lb rfl) fun a S => ?_
      obtain ⟨u141, S⟩ := pLoad (r := (rI .i64)) (q := q139) (x := x137) 0 S rfl
      obtain rfl : u141 = iv x137 := S.mem.know (i := 1) (e := fRep (rI .i64) (u141) x137) rfl
      refine sLoadV1 (vq := q139) 0 (iv x137) S (wN rfl) rfl rfl rfl rfl rfl (lb rfl) fun a S => ?_
      refine sLit (r := (rI .i64)) (T := 3) (xs := ([x137] : List Int)) [(0, iv x137)] 1 [iv x137] [iv x137] (iv 0) 8 S (wN rfl) rfl rfl Try.underlying32 rfl (by decide) (by decide) (by kernel_rfl) rfl (fun E1 w1 hE => All.cons rfl (All.nil _ _ _)) rfl rfl (lb rfl) fun a w ad142 cp143 S => ?_
      obtain ⟨l144, hx145, h⟩ := bindSome h
      refine sApp (r := (rI .i64)) (T := 3) (xs := s117) (ys := ([x137] : List Int)) (v := .slice ad118 s117.length cp119) (u := .slice ad142 ([x137] : List Int).length cp143) 3 (iv 0) 8 S (wN rfl) rfl Try.underlying32 rfl rfl (by decide) rfl rfl rfl (src_R (T := 3) 0 S.mem rfl) hx145 rfl (lb rfl) fun a w ad146 cp147 S => ?_
      refine sMove (.slice ad146 l144.length cp147) S (wN rfl) (.inr rfl) rfl rfl (lb rfl) fun a S => ?_
      exact leafL (leafB (leafT (⟨l144, Option.some.inj h, ad146, cp147, S.fix [2, 3, 0, 4, 5, 6, 7] [3] (by decide) rfl rfl rfl⟩)))
    refine sCondF S rfl hc136 ?_
    refine sRegion ?_
    refine sMove (.slice ad118 s117.length cp119) S (wN rfl) (.inl rfl) rfl rfl (lb rfl) fun a S => ?_
    refine sMove (.slice ad1 p4.length cp2) S (wN rfl) (.inl rfl) rfl rfl (lb rfl) fun a S => ?_
    refine sMove (.slice ad1 p4.length cp2) S (wN rfl) (.inl rfl) rfl rfl (lb rfl) fun a S => ?_
    refine sLen (ad := ad1) (m := p4.length) (c := cp2) S (wN rfl) rfl Try.underlying32 rfl rfl (lb rfl) fun a S => ?_
    refine sBin (iv (w64 ((p4.length : Int) - 1))) S (wN rfl) rfl rfl rfl (bSub _ _ _ _ (p4.length : Int) 1) rfl (lb rfl) fun a S => ?_
    refine sMove (iv s120) S (wN rfl) (.inl rfl) rfl rfl (lb rfl) fun a S => ?_
    refine sBin (iv (w64 ((w64 ((p4.length : Int) - 1)) - s120))) S (wN rfl) rfl rfl rfl (bSub _ _ _ _ (w64 ((p4.length : Int) - 1)) s120) rfl (lb rfl) fun a S => ?_
    obtain ⟨x148, hx149, h⟩ := bindSome h
    obtain ⟨q150, hq151, S⟩ := pIdx (P := Try.prog) (r := (rI .i64)) (v := .slice ad1 p4.length cp2) (xs := p4) (j := w64 ((w64 ((p4.length : Int) - 1)) - s120)) 32 3 0 S Try.underlying32 rfl rfl hx149
    refine sIdxV (v := .slice ad1 p4.length cp2) (k := .i64) (j := w64 ((w64 ((p4.length : Int) - 1)) - s120)) S (wN rfl) rfl rfl rfl hq151 rfl (lb rfl) fun a S => ?_
    obtain ⟨u152, S⟩ := pLoad (r := (rI .i64)) (q := q150) (x := x148) 0 S rfl
    obtain rfl : u152 = iv x148 := S.mem.know (i := 1) (e := fRep (rI .i64) (u152) x148) rfl
    refine sLoadV1 (vq := q150) 0 (iv x148) S (wN rfl) rfl rfl rfl rfl rfl (lb rfl) fun a S => ?_
    refine sLit (r := (rI .i64)) (T := 3) (xs := ([x148] : List Int)) [(0, iv x148)] 1 [iv x148] [iv x148] (iv 0) 8 S (wN rfl) rfl rfl Try.underlying32 rfl (by decide) (by decide) (by kernel_rfl) rfl (fun E1 w1 hE => All.cons rfl (All.nil _ _ _)) rfl rfl (lb rfl) fun a w ad153 cp154 S => ?_
    obtain ⟨l155, hx156, h⟩ := bindSome h
    refine sApp (r := (rI .i64)) (T := 3) (xs := s117) (ys := ([x148] : List Int)) (v := .slice ad118 s117.length cp119) (u := .slice ad153 ([x148] : List Int).length cp154) 3 (iv 0) 8 S (wN rfl) rfl Try.underlying32 rfl rfl (by decide) rfl rfl rfl (src_R (T := 3) 0 S.mem rfl) hx156 rfl (lb rfl) fun a w ad157 cp158 S => ?_
    refine sMove (.slice ad157 l155.length cp158) S (wN rfl) (.inr rfl) rfl rfl (lb rfl) fun a S => ?_
    exact leafL (leafB (leafT (⟨l155, Option.some.inj h, ad157, cp158, S.fix [2, 3, 0, 4, 5, 6, 7] [3] (by decide) rfl rfl rfl⟩)))
  refine sCondF S rfl hc109 ?_
  refine sSeq (fun K169 hK169 => ?_)
  refine sRegion ?_
  refine sBin (.bool (p3.Kind == 5)) S (wN rfl) rfl rfl rfl (bEq _ _ _ _ .u8 p3.Kind 5) rfl (lb rfl) fun a S => ?_
  refine sMove (.bool (p3.Kind == 5)) S (wN rfl) (.inr rfl) rfl rfl (lb rfl) fun a S => ?_
  refine leafL (leafT (hK169 _ _ ?_))
  rcases iteSome h with ⟨hc170, h⟩ | ⟨hc170, h⟩
  · refine sCondT S rfl hc170 ?_
    refine sSeq (fun K171 hK171 => ?_)
    refine sRegion ?_
    refine sMove (iv 0) S (wN rfl) (.inr rfl) rfl rfl (lb rfl) fun a S => ?_
    refine leafL (leafT (hK171 _ _ ?_))
    refine wp_block ?_
    obtain ⟨t187, hl, g186⟩ := bindSome h
    refine sLoop hl (fun s0 a w => match s0 with | (s172, s173, s176, s179, s182) => ∃ ad174, ∃ cp175, ∃ ad177, ∃ cp178, ∃ ad180, ∃ cp181, ∃ ad183, ∃ cp184, St [] E (keysL [eBox bb0 77 [.slice ad_0_0 p0.Loops.length cp_0_0, .slice ad_0_1 p0.Bound.length cp_0_1, .slice ad_0_2 p0.Cross.length cp_0_2, .slice ad_0_3 p0.Rows.length cp_0_3], eRow r_api_Loop 48 (.slice ad_0_0 p0.Loops.length cp_0_0) p0.Loops, eRow (rI .i64) 3 (.slice ad_0_1 p0.Bound.length cp_0_1) p0.Bound, eRow r_A2_Int 49 (.slice ad_0_2 p0.Cross.length cp_0_2) p0.Cross, eRow (rI .i64) 3 (.slice ad_0_3 p0.Rows.length cp_0_3) p0.Rows]) w0 213 a w [(0, .pointer (some ⟨bb0, 0, none⟩)), (1, iv p1), (2, iv p2), (4, .slice ad1 p4.length cp2), (8, .pointer (some ⟨b4, 0, none⟩)), (14, iv s172)] [eBox bb0 77 [.slice ad174 s173.length cp175, .slice ad177 s176.length cp178, .slice ad180 s179.length cp181, .slice ad183 s182.length cp184], eBox b4 61 [.int .u8 p3.Kind, .bool p3.Purl, iv p3.A, iv p3.B], eRow r_api_Loop 48 (.slice ad174 s173.length cp175) s173, eRow (rI .i64) 3 (.slice ad177 s176.length cp178) s176, eRow r_A2_Int 49 (.slice ad180 s179.length cp181) s179, eRow (rI .i64) 3 (.slice ad183 s182.length cp184) s182] [fRep (rL (rI .i64)) (.slice ad1 p4.length cp2) p4]) ⟨ad97, cp98, ad99, cp100, ad101, cp102, ad103, cp104, S.fix [0, 1, 2, 3, 4, 5] [0] (by decide) rfl rfl rfl⟩ ?_
    clear hl h
    intro s0 a w c0 hI h hu185
    obtain ⟨s172, s173, s176, s179, s182⟩ := s0
    unfold raddleref27_Piece_cell_s1_l3 at h
    dsimp only at h hI
    obtain ⟨ad174, cp175, ad177, cp178, ad180, cp181, ad183, cp184, S⟩ := hI
    refine sSeq (fun K200 hK200 => ?_)
    refine sSeq (fun K201 hK201 => ?_)
    refine sRegion ?_
    refine sMove (iv s172) S (wN rfl) (.inl rfl) rfl rfl (lb rfl) fun a S => ?_
    refine sField (b := b4) (off := 0) 2 2 S (wN rfl) rfl rfl rfl rfl rfl (lb rfl) fun a S => ?_
    refine sLoad1 (p := b4) (off := 2) (T := 61) (vs := [.int .u8 p3.Kind, .bool p3.Purl, iv p3.A, iv p3.B]) 1 (iv p3.A) S (wN rfl) rfl rfl rfl rfl rfl rfl (lb rfl) fun a S => ?_
    refine sBin (.bool (decide (s172 < p3.A))) S (wN rfl) rfl rfl rfl (bLt _ _ _ _ .i64 s172 p3.A) rfl (lb rfl) fun a S => ?_
    refine leafL (leafT (hK201 _ _ ?_))
    rcases iteSome h with ⟨hc202, h⟩ | ⟨hc202, h⟩
    rotate_left
    · refine sCondF S rfl hc202 ?_
      obtain rfl := Option.some.inj h
      obtain rfl := hu185 _ rfl
      have h := g186
      clear g186
      try dsimp only at h
      obtain rfl := Option.some.inj h
      exact wp_exit (xThen (xThen (xHit (leafB (sEnd (.tuple #[]) S (rsl0 rfl ) ⟨(ad174, cp175, ad177, cp178, ad180, cp181, ad183, cp184), rfl, S.mem.sel [0, 2, 3, 4, 5] [] (by decide) rfl rfl⟩)))))
    refine sCondT S rfl hc202 ?_
    refine wp_skip (leafT (hK200 _ _ ?_))
    refine sSeq (fun K203 hK203 => ?_)
    refine wp_block ?_
    obtain ⟨x204, hx205, h⟩ := bindSome h
    obtain ⟨r211, hx212, h⟩ := bindSome h
    obtain ⟨q221, hq222, S⟩ := pIdx (P := Try.prog) (r := (rI .i64)) (v := .slice ad1 p4.length cp2) (xs := p4) (j := 0) 32 3 0 S Try.underlying32 rfl rfl hx205
    obtain ⟨u223, S⟩ := pLoad (r := (rI .i64)) (q := q221) (x := x204) 0 S rfl
    obtain rfl : u223 = iv x204 := S.mem.know (i := 1) (e := fRep (rI .i64) (u223) x204) rfl
    refine sDraw (nf := [6, 9]) (W := [(0, 102, .pointer (some ⟨bb0, 0, none⟩)), (1, 103, iv p1), (2, 104, iv p2), (3, 105, .slice ad1 p4.length cp2), (4, 106, q221), (5, 107, iv x204), (7, 109, .pointer (some ⟨b4, 1, none⟩)), (8, 110, .bool p3.Purl)]) rfl S ?_
    refine node_by (A := anc_raddleref27_Piece_cell_s1_0) (nf := [6, 9]) (Y := []) (W := [(0, 102, .pointer (some ⟨bb0, 0, none⟩)), (1, 103, iv p1), (2, 104, iv p2), (3, 105, .slice ad1 p4.length cp2), (4, 106, q221), (5, 107, iv x204), (7, 109, .pointer (some ⟨b4, 1, none⟩)), (8, 110, .bool p3.Purl)]) 10 (by kernel_rfl) (by kernel_rfl) (by kernel_rfl) (by kernel_rfl) (by kernel_rfl) [0, 1, 2, 3, 4, 5, 7, 8] (by kernel_rfl) (by decide) (by decide) (aF 0 9 (by decide) ?_ (aF 1 8 (by decide) ?_ (aF 2 7 (by decide) ?_ (aF 3 6 (by decide) ?_ (aF 4 5 (by decide) ?_ (aF 5 4 (by decide) ?_ (aN 6 3 (by decide) ?_ (aF 7 2 (by decide) ?_ (aF 8 1 (by decide) ?_ (aB 9 0 6 (by decide) (trivial))))))))))) [] (fun q hq => by cases hq) (fun hY => absurd (hY 6 (by decide)) (by decide))
    · refine fI 102 (.pointer (some ⟨bb0, 0, none⟩)) [(0, .pointer (some ⟨bb0, 0, none⟩))] 0 [none] rfl rfl rfl rfl rfl rfl fun G a w S => ?_
      refine sMove (.pointer (some ⟨bb0, 0, none⟩)) S (wN rfl) (.inl rfl) rfl rfl (lb rfl) fun a S => ?_
      exact leafL ⟨rfl, S⟩
    · refine fI 103 (iv p1) [(1, iv p1)] 1 [none] rfl rfl rfl rfl rfl rfl fun G a w S => ?_
      refine sMove (iv p1) S (wN rfl) (.inl rfl) rfl rfl (lb rfl) fun a S => ?_
      exact leafL ⟨rfl, S⟩
    · refine fI 104 (iv p2) [(2, iv p2)] 2 [none] rfl rfl rfl rfl rfl rfl fun G a w S => ?_
      refine sMove (iv p2) S (wN rfl) (.inl rfl) rfl rfl (lb rfl) fun a S => ?_
      exact leafL ⟨rfl, S⟩
    · refine fI 105 (.slice ad1 p4.length cp2) [(4, .slice ad1 p4.length cp2)] 3 [none] rfl rfl rfl rfl rfl rfl fun G a w S => ?_
      refine sMove (.slice ad1 p4.length cp2) S (wN rfl) (.inl rfl) rfl rfl (lb rfl) fun a S => ?_
      exact leafL ⟨rfl, S⟩
    · refine fI 106 q221 [(105, .slice ad1 p4.length cp2)] 4 [some 3] rfl rfl rfl rfl rfl rfl fun G a w S => ?_
      refine sIdxV (v := .slice ad1 p4.length cp2) (k := .i64) (j := 0) S (wN rfl) rfl rfl rfl hq222 rfl (lb rfl) fun a S => ?_
      exact leafL ⟨rfl, S⟩
    · refine fI 107 (iv x204) [(106, q221)] 5 [some 4] rfl rfl rfl rfl rfl rfl fun G a w S => ?_
      refine sLoadV1 (vq := q221) 0 (iv x204) S (wN rfl) rfl rfl rfl rfl rfl (lb rfl) fun a S => ?_
      exact leafL ⟨rfl, S⟩
    · refine ⟨_, [(107, iv x204)], rfl, (srcs_of [some 5] rfl rfl rfl), fun G a w S => ?_⟩
      refine sLit (r := (rI .i64)) (T := 3) (xs := ([x204] : List Int)) [(0, iv x204)] 1 [iv x204] [iv x204] (iv 0) 8 S (wN rfl) rfl rfl Try.underlying32 rfl (by decide) (by decide) (by kernel_rfl) rfl (fun E1 w1 hE => All.cons rfl (All.nil _ _ _)) rfl rfl (lb rfl) fun a w ad224 cp225 S => ?_
      refine leafL ⟨rfl, _, _, .inl ⟨108, (.slice ad224 ([x204] : List Int).length cp225), [], rfl, S, hz_of rfl, ?_⟩⟩
      refine node_by (A := anc_raddleref27_Piece_cell_s1_0) (nf := [6, 9]) (Y := [6]) 10 (by kernel_rfl) (by kernel_rfl) (by kernel_rfl) (by kernel_rfl) (by kernel_rfl) [6, 0, 1, 2, 3, 4, 5, 7, 8] (by kernel_rfl) (by decide) (by decide) (aF 0 9 (by decide) ?_ (aF 1 8 (by decide) ?_ (aF 2 7 (by decide) ?_ (aD 3 6 6 (by decide) (aD 4 5 6 (by decide) (aD 5 4 6 (by decide) (aY 6 3 (by decide) (aF 7 2 (by decide) ?_ (aF 8 1 (by decide) ?_ (aN 9 0 (by decide) ?_ (trivial))))))))))) [] (fun q hq => by cases hq) (fun hY => absurd (hY 9 (by decide)) (by decide))
      · refine fI 102 (.pointer (some ⟨bb0, 0, none⟩)) [(0, .pointer (some ⟨bb0, 0, none⟩))] 1 [none] rfl rfl rfl rfl rfl rfl fun G a w S => ?_
        refine sMove (.pointer (some ⟨bb0, 0, none⟩)) S (wN rfl) (.inl rfl) rfl rfl (lb rfl) fun a S => ?_
        exact leafL ⟨rfl, S⟩
      · refine fI 103 (iv p1) [(1, iv p1)] 2 [none] rfl rfl rfl rfl rfl rfl fun G a w S => ?_
        refine sMove (iv p1) S (wN rfl) (.inl rfl) rfl rfl (lb rfl) fun a S => ?_
        exact leafL ⟨rfl, S⟩
      · refine fI 104 (iv p2) [(2, iv p2)] 3 [none] rfl rfl rfl rfl rfl rfl fun G a w S => ?_
        refine sMove (iv p2) S (wN rfl) (.inl rfl) rfl rfl (lb rfl) fun a S => ?_
        exact leafL ⟨rfl, S⟩
      · refine fI 109 (.pointer (some ⟨b4, 1, none⟩)) [(8, .pointer (some ⟨b4, 0, none⟩))] 7 [none] rfl rfl rfl rfl rfl rfl fun G a w S => ?_
        refine sField (b := b4) (off := 0) 1 1 S (wN rfl) rfl rfl rfl rfl rfl (lb rfl) fun a S => ?_
        exact leafL ⟨rfl, S⟩
      · refine fI 110 (.bool p3.Purl) [(109, .pointer (some ⟨b4, 1, none⟩))] 8 [some 7] rfl rfl rfl rfl rfl rfl fun G a w S => ?_
        refine sLoad1 (p := b4) (off := 1) (T := 61) (vs := [.int .u8 p3.Kind, .bool p3.Purl, iv p3.A, iv p3.B]) 2 (.bool p3.Purl) S (wN rfl) rfl rfl rfl rfl rfl rfl (lb rfl) fun a S => ?_
        exact leafL ⟨rfl, S⟩
      refine ⟨_, [(102, .pointer (some ⟨bb0, 0, none⟩)), (103, iv p1), (104, iv p2), (108, .slice ad224 ([x204] : List Int).length cp225), (110, .bool p3.Purl)], rfl, (srcs_of [some 1, some 2, some 3, some 0, some 8] rfl rfl rfl), fun G a w S => ?_⟩
      have S := S.shutR (r := (rI .i64)) (T := 3) (v := .slice ad224 ([x204] : List Int).length cp225) (xs := ([x204] : List Int)) 0 rfl
      refine sCall (X := Option Addr × Nat × Option Addr × Nat × Option Addr × Nat × Option Addr × Nat) (f := 45) (vs := [.pointer (some ⟨bb0, 0, none⟩), iv p1, iv p2, .slice ad224 ([x204] : List Int).length cp225, .bool p3.Purl]) (val := fun _ => .tuple #[]) (B' := fun x => [eBox bb0 77 [.slice x.1 r211.Loops.length x.2.1, .slice x.2.2.1 r211.Bound.length x.2.2.2.1, .slice x.2.2.2.2.1 r211.Cross.length x.2.2.2.2.2.1, .slice x.2.2.2.2.2.2.1 r211.Rows.length x.2.2.2.2.2.2.2], eRow r_api_Loop 48 (.slice x.1 r211.Loops.length x.2.1) r211.Loops, eRow (rI .i64) 3 (.slice x.2.2.1 r211.Bound.length x.2.2.2.1) r211.Bound, eRow r_A2_Int 49 (.slice x.2.2.2.2.1 r211.Cross.length x.2.2.2.2.2.1) r211.Cross, eRow (rI .i64) 3 (.slice x.2.2.2.2.2.2.1 r211.Rows.length x.2.2.2.2.2.2.2) r211.Rows]) (D' := fun _ => []) [eBox bb0 77 [.slice ad174 s173.length cp175, .slice ad177 s176.length cp178, .slice ad180 s179.length cp181, .slice ad183 s182.length cp184], eRow r_api_Loop 48 (.slice ad174 s173.length cp175) s173, eRow (rI .i64) 3 (.slice ad177 s176.length cp178) s176, eRow r_A2_Int 49 (.slice ad180 s179.length cp181) s179, eRow (rI .i64) 3 (.slice ad183 s182.length cp184) s182] [eBox b4 61 [.int .u8 p3.Kind, .bool p3.Purl, iv p3.A, iv p3.B]] [fRep (rL (rI .i64)) (.slice ad224 ([x204] : List Int).length cp225) ([x204] : List Int)] [0, 2, 3, 4, 5, 1] [0] S (wN rfl) rfl callee45 rfl (by decide) rfl rfl (fun E1 w1 S1 => c_raddleref27_Piece_put_s1 E1 w1 (raddleref27_Piece.mk s173 s176 s179 s182) bb0 ad174 cp175 ad177 cp178 ad180 cp181 ad183 cp184 p1 p2 ([x204] : List Int) (.slice ad224 ([x204] : List Int).length cp225) p3.Purl r211 hx212 S1) rfl (lb rfl) fun xx a w S => ?_
      obtain ⟨ad226, cp227, ad228, cp229, ad230, cp231, ad232, cp233⟩ := xx
      dsimp only at S
      refine leafL ⟨rfl, _, _, .inl ⟨111, (.tuple #[]), [], rfl, S, hz_of rfl, ?_⟩⟩
      refine node_by (A := anc_raddleref27_Piece_cell_s1_0) (nf := [6, 9]) (Y := [9, 6]) 10 (by kernel_rfl) (by kernel_rfl) (by kernel_rfl) (by kernel_rfl) (by kernel_rfl) [9, 6, 0, 1, 2, 3, 4, 5, 7, 8] (by kernel_rfl) (by decide) (by decide) (aD 0 9 9 (by decide) (aD 1 8 9 (by decide) (aD 2 7 9 (by decide) (aD 3 6 9 (by decide) (aD 4 5 9 (by decide) (aD 5 4 9 (by decide) (aY 6 3 (by decide) (aD 7 2 9 (by decide) (aD 8 1 9 (by decide) (aY 9 0 (by decide) (trivial))))))))))) [(0, .pointer (some ⟨bb0, 0, none⟩)), (1, iv p1), (2, iv p2), (4, .slice ad1 p4.length cp2), (8, .pointer (some ⟨b4, 0, none⟩)), (14, iv s172)] (fin_of [none, none, none, none, none, none] rfl (by kernel_rfl) (by kernel_rfl)) (fun _ a w S => ?_)
      refine leafB (leafT (hK203 _ _ ?_))
      refine sRegion ?_
      refine sMove (iv s172) S (wN rfl) (.inl rfl) rfl rfl (lb rfl) fun a S => ?_
      refine sBin (iv (w64 (s172 + 1))) S (wN rfl) rfl rfl rfl (bAdd _ _ _ _ s172 1) rfl (lb rfl) fun a S => ?_
      refine sMove (iv (w64 (s172 + 1))) S (wN rfl) (.inr rfl) rfl rfl (lb rfl) fun a S => ?_
      exact leafL (leafT (⟨(w64 (s172 + 1), r211.Loops, r211.Bound, r211.Cross, r211.Rows), (Option.some.inj h).symm, ⟨ad226, cp227, ad228, cp229, ad230, cp231, ad232, cp233, S.fix [0, 5, 1, 2, 3, 4] [4] (by decide) rfl rfl rfl⟩⟩))
    · refine fI 109 (.pointer (some ⟨b4, 1, none⟩)) [(8, .pointer (some ⟨b4, 0, none⟩))] 6 [none] rfl rfl rfl rfl rfl rfl fun G a w S => ?_
      refine sField (b := b4) (off := 0) 1 1 S (wN rfl) rfl rfl rfl rfl rfl (lb rfl) fun a S => ?_
      exact leafL ⟨rfl, S⟩
    refine fI 110 (.bool p3.Purl) [(109, .pointer (some ⟨b4, 1, none⟩))] 7 [some 6] rfl rfl rfl rfl rfl rfl fun G a w S => ?_
    refine sLoad1 (p := b4) (off := 1) (T := 61) (vs := [.int .u8 p3.Kind, .bool p3.Purl, iv p3.A, iv p3.B]) 1 (.bool p3.Purl) S (wN rfl) rfl rfl rfl rfl rfl rfl (lb rfl) fun a S => ?_
    exact leafL ⟨rfl, S⟩
  refine sCondF S rfl hc170 ?_
  obtain ⟨t235, h, g236⟩ := bindSome h
  refine sCut (fun a w => ∃ o234, o234 = t235 ∧ St [] E (keysL [eBox bb0 77 [.slice ad_0_0 p0.Loops.length cp_0_0, .slice ad_0_1 p0.Bound.length cp_0_1, .slice ad_0_2 p0.Cross.length cp_0_2, .slice ad_0_3 p0.Rows.length cp_0_3], eRow r_api_Loop 48 (.slice ad_0_0 p0.Loops.length cp_0_0) p0.Loops, eRow (rI .i64) 3 (.slice ad_0_1 p0.Bound.length cp_0_1) p0.Bound, eRow r_A2_Int 49 (.slice ad_0_2 p0.Cross.length cp_0_2) p0.Cross, eRow (rI .i64) 3 (.slice ad_0_3 p0.Rows.length cp_0_3) p0.Rows]) w0 213 a w [(0, .pointer (some ⟨bb0, 0, none⟩)), (1, iv p1), (2, iv p2), (4, .slice ad1 p4.length cp2), (8, .pointer (some ⟨b4, 0, none⟩)), (10, iv (p0.Loops.length : Int)), (26, .int .u8 p3.Kind), (112, .bool o234)] [eBox bb0 77 [.slice ad97 p0.Loops.length cp98, .slice ad99 p0.Bound.length cp100, .slice ad101 p0.Cross.length cp102, .slice ad103 p0.Rows.length cp104], eBox b4 61 [.int .u8 p3.Kind, .bool p3.Purl, iv p3.A, iv p3.B], eRow r_api_Loop 48 (.slice ad97 p0.Loops.length cp98) p0.Loops, eRow (rI .i64) 3 (.slice ad99 p0.Bound.length cp100) p0.Bound, eRow r_A2_Int 49 (.slice ad101 p0.Cross.length cp102) p0.Cross, eRow (rI .i64) 3 (.slice ad103 p0.Rows.length cp104) p0.Rows] [fRep (rL (rI .i64)) (.slice ad1 p4.length cp2) p4]) ?_ (fun a w hI => ?_)
  · refine sSeq (fun K237 hK237 => ?_)
    refine sRegion ?_
    refine sBin (.bool (p3.Kind == 6)) S (wN rfl) rfl rfl rfl (bEq _ _ _ _ .u8 p3.Kind 6) rfl (lb rfl) fun a S => ?_
    refine sMove (.bool (p3.Kind == 6)) S (wN rfl) (.inr rfl) rfl rfl (lb rfl) fun a S => ?_
    refine leafL (leafT (hK237 _ _ ?_))
    rcases iteSome h with ⟨hc238, h⟩ | ⟨hc238, h⟩
    · refine sCondT S rfl hc238 ?_
      exact wp_skip (leafT (⟨p3.Kind == 6, Option.some.inj h, S.fix [0, 1, 2, 3, 4, 5] [0] (by decide) rfl rfl rfl⟩))
    refine sCondF S rfl hc238 ?_
    refine sRegion ?_
    refine sBin (.bool (p3.Kind == 7)) S (wN rfl) rfl rfl rfl (bEq _ _ _ _ .u8 p3.Kind 7) rfl (lb rfl) fun a S => ?_
    refine sMove (.bool (p3.Kind == 7)) S (wN rfl) (.inr rfl) rfl rfl (lb rfl) fun a S => ?_
    exact leafL (leafT (⟨p3.Kind == 7, Option.some.inj h, S.fix [0, 1, 2, 3, 4, 5] [0] (by decide) rfl rfl rfl⟩))
  obtain ⟨o234, rfl, S⟩ := hI
  have h := g236
  clear g236
  try dsimp only at h
  rcases iteSome h with ⟨hc239, h⟩ | ⟨hc239, h⟩
  rotate_left
  · refine sCondF S rfl hc239 ?_
    refine sSeq (fun K366 hK366 => ?_)
    refine sRegion ?_
    refine sBin (.bool (p3.Kind == 8)) S (wN rfl) rfl rfl rfl (bEq _ _ _ _ .u8 p3.Kind 8) rfl (lb rfl) fun a S => ?_
    refine sMove (.bool (p3.Kind == 8)) S (wN rfl) (.inr rfl) rfl rfl (lb rfl) fun a S => ?_
    refine leafL (leafT (hK366 _ _ ?_))
    rcases iteSome h with ⟨hc367, h⟩ | ⟨hc367, h⟩
    rotate_left
    · refine sCondF S rfl hc367 ?_
      refine sSeq (fun K418 hK418 => ?_)
      refine sRegion ?_
      refine sBin (.bool (p3.Kind == 10)) S (wN rfl) rfl rfl rfl (bEq _ _ _ _ .u8 p3.Kind 10) rfl (lb rfl) fun a S => ?_
      refine sMove (.bool (p3.Kind == 10)) S (wN rfl) (.inr rfl) rfl rfl (lb rfl) fun a S => ?_
      refine leafL (leafT (hK418 _ _ ?_))
      rcases iteSome h with ⟨hc419, h⟩ | ⟨hc419, h⟩
      rotate_left
      · refine sCondF S rfl hc419 ?_
        obtain rfl := Option.some.inj h
        exact wp_skip (leafB (sEnd (.tuple #[]) S (rsl0 rfl ) ⟨(ad97, cp98, ad99, cp100, ad101, cp102, ad103, cp104), rfl, S.mem.sel [0, 2, 3, 4, 5] [] (by decide) rfl rfl⟩))
      refine sCondT S rfl hc419 ?_
      refine sRegion ?_
      refine sMove (.pointer (some ⟨bb0, 0, none⟩)) S (wN rfl) (.inl rfl) rfl rfl (lb rfl) fun a S => ?_
      refine sMove (.pointer (some ⟨bb0, 0, none⟩)) S (wN rfl) (.inl rfl) rfl rfl (lb rfl) fun a S => ?_
      refine nilCheck_ok (q := ⟨bb0, 0, none⟩) S (wN rfl) rfl rfl rfl (lb rfl) fun a S => ?_
      refine sField (b := bb0) (off := 0) 1 1 S (wN rfl) rfl rfl rfl rfl rfl (lb rfl) fun a S => ?_
      refine sLoad1 (p := bb0) (off := 1) (T := 77) (vs := [.slice ad97 p0.Loops.length cp98, .slice ad99 p0.Bound.length cp100, .slice ad101 p0.Cross.length cp102, .slice ad103 p0.Rows.length cp104]) 0 (.slice ad99 p0.Bound.length cp100) S (wN rfl) rfl rfl rfl rfl rfl rfl (lb rfl) fun a S => ?_
      refine sMove (.slice ad1 p4.length cp2) S (wN rfl) (.inl rfl) rfl rfl (lb rfl) fun a S => ?_
      obtain ⟨l420, hx421, h⟩ := bindSome h
      refine sApp (r := (rI .i64)) (T := 3) (xs := p0.Bound) (ys := p4) (v := .slice ad99 p0.Bound.length cp100) (u := .slice ad1 p4.length cp2) 3 (iv 0) 8 S (wN rfl) rfl Try.underlying32 rfl rfl (by decide) rfl rfl rfl (src_D 0 S.mem rfl) hx421 rfl (lb rfl) fun a w ad422 cp423 S => ?_
      refine nilCheck_ok (q := ⟨bb0, 0, none⟩) S (wN rfl) rfl rfl rfl (lb rfl) fun a S => ?_
      refine sField (b := bb0) (off := 0) 1 1 S (wN rfl) rfl rfl rfl rfl rfl (lb rfl) fun a S => ?_
      refine sStore (p := bb0) (off := 1) (T := 77) (vs := [.slice ad97 p0.Loops.length cp98, .slice ad99 p0.Bound.length cp100, .slice ad101 p0.Cross.length cp102, .slice ad103 p0.Rows.length cp104]) (v := .slice ad422 l420.length cp423) 1 [.slice ad422 l420.length cp423] S (wN rfl) rfl rfl rfl rfl rfl rfl rfl (by simp) rfl fun a w S => ?_
      obtain rfl := Option.some.inj h
      exact leafL (leafB (sEnd (.tuple #[]) S (rsl0 rfl ) ⟨(ad97, cp98, ad422, cp423, ad101, cp102, ad103, cp104), rfl, S.mem.sel [0, 3, 1, 4, 5] [] (by decide) rfl rfl⟩))
    refine sCondT S rfl hc367 ?_
    obtain ⟨x368, hx369, h⟩ := bindSome h
    obtain ⟨x378, hx379, h⟩ := bindSome h
    obtain ⟨r386, hx387, h⟩ := bindSome h
    obtain ⟨q396, hq397, S⟩ := pIdx (P := Try.prog) (r := (rI .i64)) (v := .slice ad1 p4.length cp2) (xs := p4) (j := 0) 32 3 0 S Try.underlying32 rfl rfl hx369
    obtain ⟨u398, S⟩ := pLoad (r := (rI .i64)) (q := q396) (x := x368) 0 S rfl
    obtain rfl : u398 = iv x368 := S.mem.know (i := 1) (e := fRep (rI .i64) (u398) x368) rfl
    obtain ⟨q399, hq400, S⟩ := pIdx (P := Try.prog) (r := (rI .i64)) (v := .slice ad1 p4.length cp2) (xs := p4) (j := 0) 32 3 3 S Try.underlying32 rfl rfl hx369
    obtain ⟨u401, S⟩ := pLoad (r := (rI .i64)) (q := q399) (x := x368) 0 S rfl
    obtain rfl : u401 = iv x368 := S.mem.know (i := 1) (e := fRep (rI .i64) (u401) x368) rfl
    obtain ⟨q402, hq403, hp404⟩ := pIdxR (P := Try.prog) (r := r_api_Loop) (T := 48) (v := .slice ad97 p0.Loops.length cp98) (xs := p0.Loops) (j := x368) 26 48 2 S Try.underlying26 rfl rfl hx379
    obtain ⟨q405, hq406, hp407⟩ := pFldR (P := Try.prog) 48 3 3 hp404 rfl
    refine sDraw (nf := [6, 17]) (W := [(0, 184, .pointer (some ⟨bb0, 0, none⟩)), (1, 185, iv p1), (2, 186, iv p2), (3, 187, .slice ad1 p4.length cp2), (4, 188, q396), (5, 189, iv x368), (7, 191, .pointer (some ⟨bb0, 0, none⟩)), (8, 192, .pointer (some ⟨bb0, 0, none⟩)), (9, 193, .pointer (some ⟨bb0, 0, none⟩)), (10, 194, .slice ad97 p0.Loops.length cp98), (11, 195, .slice ad1 p4.length cp2), (12, 196, q399), (13, 197, iv x368), (14, 198, q402), (15, 199, q405), (16, 200, .bool x378.Purl)]) rfl S ?_
    refine node_by (A := anc_raddleref27_Piece_cell_s1_2) (nf := [6, 17]) (Y := []) (W := [(0, 184, .pointer (some ⟨bb0, 0, none⟩)), (1, 185, iv p1), (2, 186, iv p2), (3, 187, .slice ad1 p4.length cp2), (4, 188, q396), (5, 189, iv x368), (7, 191, .pointer (some ⟨bb0, 0, none⟩)), (8, 192, .pointer (some ⟨bb0, 0, none⟩)), (9, 193, .pointer (some ⟨bb0, 0, none⟩)), (10, 194, .slice ad97 p0.Loops.length cp98), (11, 195, .slice ad1 p4.length cp2), (12, 196, q399), (13, 197, iv x368), (14, 198, q402), (15, 199, q405), (16, 200, .bool x378.Purl)]) 18 (by kernel_rfl) (by kernel_rfl) (by kernel_rfl) (by kernel_rfl) (by kernel_rfl) [0, 1, 2, 3, 4, 5, 7, 8, 9, 10, 11, 12, 13, 14, 15, 16] (by kernel_rfl) (by decide) (by decide) (aF 0 17 (by decide) ?_ (aF 1 16 (by decide) ?_ (aF 2 15 (by decide) ?_ (aF 3 14 (by decide) ?_ (aF 4 13 (by decide) ?_ (aF 5 12 (by decide) ?_ (aN 6 11 (by decide) ?_ (aF 7 10 (by decide) ?_ (aF 8 9 (by decide) ?_ (aF 9 8 (by decide) ?_ (aF 10 7 (by decide) ?_ (aF 11 6 (by decide) ?_ (aF 12 5 (by decide) ?_ (aF 13 4 (by decide) ?_ (aF 14 3 (by decide) ?_ (aF 15 2 (by decide) ?_ (aF 16 1 (by decide) ?_ (aB 17 0 6 (by decide) (trivial))))))))))))))))))) [] (fun q hq => by cases hq) (fun hY => absurd (hY 6 (by decide)) (by decide))
    · refine fI 184 (.pointer (some ⟨bb0, 0, none⟩)) [(0, .pointer (some ⟨bb0, 0, none⟩))] 0 [none] rfl rfl rfl rfl rfl rfl fun G a w S => ?_
      refine sMove (.pointer (some ⟨bb0, 0, none⟩)) S (wN rfl) (.inl rfl) rfl rfl (lb rfl) fun a S => ?_
      exact leafL ⟨rfl, S⟩
    · refine fI 185 (iv p1) [(1, iv p1)] 1 [none] rfl rfl rfl rfl rfl rfl fun G a w S => ?_
      refine sMove (iv p1) S (wN rfl) (.inl rfl) rfl rfl (lb rfl) fun a S => ?_
      exact leafL ⟨rfl, S⟩
    · refine fI 186 (iv p2) [(2, iv p2)] 2 [none] rfl rfl rfl rfl rfl rfl fun G a w S => ?_
      refine sMove (iv p2) S (wN rfl) (.inl rfl) rfl rfl (lb rfl) fun a S => ?_
      exact leafL ⟨rfl, S⟩
    · refine fI 187 (.slice ad1 p4.length cp2) [(4, .slice ad1 p4.length cp2)] 3 [none] rfl rfl rfl rfl rfl rfl fun G a w S => ?_
      refine sMove (.slice ad1 p4.length cp2) S (wN rfl) (.inl rfl) rfl rfl (lb rfl) fun a S => ?_
      exact leafL ⟨rfl, S⟩
    · refine fI 188 q396 [(187, .slice ad1 p4.length cp2)] 4 [some 3] rfl rfl rfl rfl rfl rfl fun G a w S => ?_
      refine sIdxV (v := .slice ad1 p4.length cp2) (k := .i64) (j := 0) S (wN rfl) rfl rfl rfl hq397 rfl (lb rfl) fun a S => ?_
      exact leafL ⟨rfl, S⟩
    · refine fI 189 (iv x368) [(188, q396)] 5 [some 4] rfl rfl rfl rfl rfl rfl fun G a w S => ?_
      refine sLoadV1 (vq := q396) 3 (iv x368) S (wN rfl) rfl rfl rfl rfl rfl (lb rfl) fun a S => ?_
      exact leafL ⟨rfl, S⟩
    · refine ⟨_, [(189, iv x368)], rfl, (srcs_of [some 5] rfl rfl rfl), fun G a w S => ?_⟩
      refine sLit (r := (rI .i64)) (T := 3) (xs := ([x368] : List Int)) [(0, iv x368)] 1 [iv x368] [iv x368] (iv 0) 8 S (wN rfl) rfl rfl Try.underlying32 rfl (by decide) (by decide) (by kernel_rfl) rfl (fun E1 w1 hE => All.cons rfl (All.nil _ _ _)) rfl rfl (lb rfl) fun a w ad408 cp409 S => ?_
      refine leafL ⟨rfl, _, _, .inl ⟨190, (.slice ad408 ([x368] : List Int).length cp409), [], rfl, S, hz_of rfl, ?_⟩⟩
      refine node_by (A := anc_raddleref27_Piece_cell_s1_2) (nf := [6, 17]) (Y := [6]) 18 (by kernel_rfl) (by kernel_rfl) (by kernel_rfl) (by kernel_rfl) (by kernel_rfl) [6, 0, 1, 2, 3, 4, 5, 7, 8, 9, 10, 11, 12, 13, 14, 15, 16] (by kernel_rfl) (by decide) (by decide) (aF 0 17 (by decide) ?_ (aF 1 16 (by decide) ?_ (aF 2 15 (by decide) ?_ (aD 3 14 6 (by decide) (aD 4 13 6 (by decide) (aD 5 12 6 (by decide) (aY 6 11 (by decide) (aF 7 10 (by decide) ?_ (aF 8 9 (by decide) ?_ (aF 9 8 (by decide) ?_ (aF 10 7 (by decide) ?_ (aF 11 6 (by decide) ?_ (aF 12 5 (by decide) ?_ (aF 13 4 (by decide) ?_ (aF 14 3 (by decide) ?_ (aF 15 2 (by decide) ?_ (aF 16 1 (by decide) ?_ (aN 17 0 (by decide) ?_ (trivial))))))))))))))))))) [] (fun q hq => by cases hq) (fun hY => absurd (hY 17 (by decide)) (by decide))
      · refine fI 184 (.pointer (some ⟨bb0, 0, none⟩)) [(0, .pointer (some ⟨bb0, 0, none⟩))] 1 [none] rfl rfl rfl rfl rfl rfl fun G a w S => ?_
        refine sMove (.pointer (some ⟨bb0, 0, none⟩)) S (wN rfl) (.inl rfl) rfl rfl (lb rfl) fun a S => ?_
        exact leafL ⟨rfl, S⟩
      · refine fI 185 (iv p1) [(1, iv p1)] 2 [none] rfl rfl rfl rfl rfl rfl fun G a w S => ?_
        refine sMove (iv p1) S (wN rfl) (.inl rfl) rfl rfl (lb rfl) fun a S => ?_
        exact leafL ⟨rfl, S⟩
      · refine fI 186 (iv p2) [(2, iv p2)] 3 [none] rfl rfl rfl rfl rfl rfl fun G a w S => ?_
        refine sMove (iv p2) S (wN rfl) (.inl rfl) rfl rfl (lb rfl) fun a S => ?_
        exact leafL ⟨rfl, S⟩
      · refine fI 191 (.pointer (some ⟨bb0, 0, none⟩)) [(0, .pointer (some ⟨bb0, 0, none⟩))] 7 [none] rfl rfl rfl rfl rfl rfl fun G a w S => ?_
        refine sMove (.pointer (some ⟨bb0, 0, none⟩)) S (wN rfl) (.inl rfl) rfl rfl (lb rfl) fun a S => ?_
        exact leafL ⟨rfl, S⟩
      · refine fI 192 (.pointer (some ⟨bb0, 0, none⟩)) [(191, .pointer (some ⟨bb0, 0, none⟩))] 8 [some 7] rfl rfl rfl rfl rfl rfl fun G a w S => ?_
        refine nilCheck_ok (q := ⟨bb0, 0, none⟩) S (wN rfl) rfl rfl rfl (lb rfl) fun a S => ?_
        exact leafL ⟨rfl, S⟩
      · refine fI 193 (.pointer (some ⟨bb0, 0, none⟩)) [(192, .pointer (some ⟨bb0, 0, none⟩))] 9 [some 8] rfl rfl rfl rfl rfl rfl fun G a w S => ?_
        refine sField (b := bb0) (off := 0) 0 0 S (wN rfl) rfl rfl rfl rfl rfl (lb rfl) fun a S => ?_
        exact leafL ⟨rfl, S⟩
      · refine fI 194 (.slice ad97 p0.Loops.length cp98) [(193, .pointer (some ⟨bb0, 0, none⟩))] 10 [some 9] rfl rfl rfl rfl rfl rfl fun G a w S => ?_
        refine sLoad1 (p := bb0) (off := 0) (T := 77) (vs := [.slice ad97 p0.Loops.length cp98, .slice ad99 p0.Bound.length cp100, .slice ad101 p0.Cross.length cp102, .slice ad103 p0.Rows.length cp104]) 1 (.slice ad97 p0.Loops.length cp98) S (wN rfl) rfl rfl rfl rfl rfl rfl (lb rfl) fun a S => ?_
        exact leafL ⟨rfl, S⟩
      · refine fI 195 (.slice ad1 p4.length cp2) [(4, .slice ad1 p4.length cp2)] 11 [none] rfl rfl rfl rfl rfl rfl fun G a w S => ?_
        refine sMove (.slice ad1 p4.length cp2) S (wN rfl) (.inl rfl) rfl rfl (lb rfl) fun a S => ?_
        exact leafL ⟨rfl, S⟩
      · refine fI 196 q399 [(195, .slice ad1 p4.length cp2)] 12 [some 11] rfl rfl rfl rfl rfl rfl fun G a w S => ?_
        refine sIdxV (v := .slice ad1 p4.length cp2) (k := .i64) (j := 0) S (wN rfl) rfl rfl rfl hq400 rfl (lb rfl) fun a S => ?_
        exact leafL ⟨rfl, S⟩
      · refine fI 197 (iv x368) [(196, q399)] 13 [some 12] rfl rfl rfl rfl rfl rfl fun G a w S => ?_
        refine sLoadV1 (vq := q399) 0 (iv x368) S (wN rfl) rfl rfl rfl rfl rfl (lb rfl) fun a S => ?_
        exact leafL ⟨rfl, S⟩
      · refine fI 198 q402 [(194, .slice ad97 p0.Loops.length cp98), (197, iv x368)] 14 [some 10, some 13] rfl rfl rfl rfl rfl rfl fun G a w S => ?_
        refine sIdxV (v := .slice ad97 p0.Loops.length cp98) (k := .i64) (j := x368) S (wN rfl) rfl rfl rfl hq403 rfl (lb rfl) fun a S => ?_
        exact leafL ⟨rfl, S⟩
      · refine fI 199 q405 [(198, q402)] 15 [some 14] rfl rfl rfl rfl rfl rfl fun G a w S => ?_
        refine sFldV (q := q402) S (wN rfl) rfl rfl hq406 rfl (lb rfl) fun a S => ?_
        exact leafL ⟨rfl, S⟩
      · refine fI 200 (.bool x378.Purl) [(199, q405)] 16 [some 15] rfl rfl rfl rfl rfl rfl fun G a w S => ?_
        refine sLoadF (r := r_api_Loop) (s := rB) (g := (·.Purl)) (T := 48) (xs := p0.Loops) (x := x378) (v := .slice ad97 p0.Loops.length cp98) (vq := q405) (j := x368) 3 3 (.bool x378.Purl) S hp407 (wN rfl) rfl rfl rfl hx379 comp_api_Loop_Purl (fun _ _ _ h => h) scal_B rfl rfl (lb rfl) fun a S => ?_
        exact leafL ⟨rfl, S⟩
      refine ⟨_, [(184, .pointer (some ⟨bb0, 0, none⟩)), (185, iv p1), (186, iv p2), (190, .slice ad408 ([x368] : List Int).length cp409), (200, .bool x378.Purl)], rfl, (srcs_of [some 1, some 2, some 3, some 0, some 16] rfl rfl rfl), fun G a w S => ?_⟩
      have S := S.shutR (r := (rI .i64)) (T := 3) (v := .slice ad408 ([x368] : List Int).length cp409) (xs := ([x368] : List Int)) 0 rfl
      refine sCall (X := Option Addr × Nat × Option Addr × Nat × Option Addr × Nat × Option Addr × Nat) (f := 45) (vs := [.pointer (some ⟨bb0, 0, none⟩), iv p1, iv p2, .slice ad408 ([x368] : List Int).length cp409, .bool x378.Purl]) (val := fun _ => .tuple #[]) (B' := fun x => [eBox bb0 77 [.slice x.1 r386.Loops.length x.2.1, .slice x.2.2.1 r386.Bound.length x.2.2.2.1, .slice x.2.2.2.2.1 r386.Cross.length x.2.2.2.2.2.1, .slice x.2.2.2.2.2.2.1 r386.Rows.length x.2.2.2.2.2.2.2], eRow r_api_Loop 48 (.slice x.1 r386.Loops.length x.2.1) r386.Loops, eRow (rI .i64) 3 (.slice x.2.2.1 r386.Bound.length x.2.2.2.1) r386.Bound, eRow r_A2_Int 49 (.slice x.2.2.2.2.1 r386.Cross.length x.2.2.2.2.2.1) r386.Cross, eRow (rI .i64) 3 (.slice x.2.2.2.2.2.2.1 r386.Rows.length x.2.2.2.2.2.2.2) r386.Rows]) (D' := fun _ => []) [eBox bb0 77 [.slice ad97 p0.Loops.length cp98, .slice ad99 p0.Bound.length cp100, .slice ad101 p0.Cross.length cp102, .slice ad103 p0.Rows.length cp104], eRow r_api_Loop 48 (.slice ad97 p0.Loops.length cp98) p0.Loops, eRow (rI .i64) 3 (.slice ad99 p0.Bound.length cp100) p0.Bound, eRow r_A2_Int 49 (.slice ad101 p0.Cross.length cp102) p0.Cross, eRow (rI .i64) 3 (.slice ad103 p0.Rows.length cp104) p0.Rows] [eBox b4 61 [.int .u8 p3.Kind, .bool p3.Purl, iv p3.A, iv p3.B]] [fRep (rL (rI .i64)) (.slice ad408 ([x368] : List Int).length cp409) ([x368] : List Int)] [0, 2, 3, 4, 5, 1] [0] S (wN rfl) rfl callee45 rfl (by decide) rfl rfl (fun E1 w1 S1 => c_raddleref27_Piece_put_s1 E1 w1 p0 bb0 ad97 cp98 ad99 cp100 ad101 cp102 ad103 cp104 p1 p2 ([x368] : List Int) (.slice ad408 ([x368] : List Int).length cp409) x378.Purl r386 hx387 S1) rfl (lb rfl) fun xx a w S => ?_
      obtain ⟨ad410, cp411, ad412, cp413, ad414, cp415, ad416, cp417⟩ := xx
      dsimp only at S
      refine leafL ⟨rfl, _, _, .inl ⟨201, (.tuple #[]), [], rfl, S, hz_of rfl, ?_⟩⟩
      refine node_by (A := anc_raddleref27_Piece_cell_s1_2) (nf := [6, 17]) (Y := [17, 6]) 18 (by kernel_rfl) (by kernel_rfl) (by kernel_rfl) (by kernel_rfl) (by kernel_rfl) [17, 6, 0, 1, 2, 3, 4, 5, 7, 8, 9, 10, 11, 12, 13, 14, 15, 16] (by kernel_rfl) (by decide) (by decide) (aD 0 17 17 (by decide) (aD 1 16 17 (by decide) (aD 2 15 17 (by decide) (aD 3 14 17 (by decide) (aD 4 13 17 (by decide) (aD 5 12 17 (by decide) (aY 6 11 (by decide) (aD 7 10 17 (by decide) (aD 8 9 17 (by decide) (aD 9 8 17 (by decide) (aD 10 7 17 (by decide) (aD 11 6 17 (by decide) (aD 12 5 17 (by decide) (aD 13 4 17 (by decide) (aD 14 3 17 (by decide) (aD 15 2 17 (by decide) (aD 16 1 17 (by decide) (aY 17 0 (by decide) (trivial))))))))))))))))))) [] (fin_of [] rfl (by kernel_rfl) (by kernel_rfl)) (fun _ a w S => ?_)
      obtain rfl := Option.some.inj h
      exact leafB (sEnd (.tuple #[]) S (rsl0 rfl ) ⟨(ad410, cp411, ad412, cp413, ad414, cp415, ad416, cp417), rfl, S.mem.sel [0, 1, 2, 3, 4] [] (by decide) rfl rfl⟩)
    · refine fI 191 (.pointer (some ⟨bb0, 0, none⟩)) [(0, .pointer (some ⟨bb0, 0, none⟩))] 6 [none] rfl rfl rfl rfl rfl rfl fun G a w S => ?_
      refine sMove (.pointer (some ⟨bb0, 0, none⟩)) S (wN rfl) (.inl rfl) rfl rfl (lb rfl) fun a S => ?_
      exact leafL ⟨rfl, S⟩
    · refine fI 192 (.pointer (some ⟨bb0, 0, none⟩)) [(191, .pointer (some ⟨bb0, 0, none⟩))] 7 [some 6] rfl rfl rfl rfl rfl rfl fun G a w S => ?_
      refine nilCheck_ok (q := ⟨bb0, 0, none⟩) S (wN rfl) rfl rfl rfl (lb rfl) fun a S => ?_
      exact leafL ⟨rfl, S⟩
    · refine fI 193 (.pointer (some ⟨bb0, 0, none⟩)) [(192, .pointer (some ⟨bb0, 0, none⟩))] 8 [some 7] rfl rfl rfl rfl rfl rfl fun G a w S => ?_
      refine sField (b := bb0) (off := 0) 0 0 S (wN rfl) rfl rfl rfl rfl rfl (lb rfl) fun a S => ?_
      exact leafL ⟨rfl, S⟩
    · refine fI 194 (.slice ad97 p0.Loops.length cp98) [(193, .pointer (some ⟨bb0, 0, none⟩))] 9 [some 8] rfl rfl rfl rfl rfl rfl fun G a w S => ?_
      refine sLoad1 (p := bb0) (off := 0) (T := 77) (vs := [.slice ad97 p0.Loops.length cp98, .slice ad99 p0.Bound.length cp100, .slice ad101 p0.Cross.length cp102, .slice ad103 p0.Rows.length cp104]) 0 (.slice ad97 p0.Loops.length cp98) S (wN rfl) rfl rfl rfl rfl rfl rfl (lb rfl) fun a S => ?_
      exact leafL ⟨rfl, S⟩
    · refine fI 195 (.slice ad1 p4.length cp2) [(4, .slice ad1 p4.length cp2)] 10 [none] rfl rfl rfl rfl rfl rfl fun G a w S => ?_
      refine sMove (.slice ad1 p4.length cp2) S (wN rfl) (.inl rfl) rfl rfl (lb rfl) fun a S => ?_
      exact leafL ⟨rfl, S⟩
    · refine fI 196 q399 [(195, .slice ad1 p4.length cp2)] 11 [some 10] rfl rfl rfl rfl rfl rfl fun G a w S => ?_
      refine sIdxV (v := .slice ad1 p4.length cp2) (k := .i64) (j := 0) S (wN rfl) rfl rfl rfl hq400 rfl (lb rfl) fun a S => ?_
      exact leafL ⟨rfl, S⟩
    · refine fI 197 (iv x368) [(196, q399)] 12 [some 11] rfl rfl rfl rfl rfl rfl fun G a w S => ?_
      refine sLoadV1 (vq := q399) 0 (iv x368) S (wN rfl) rfl rfl rfl rfl rfl (lb rfl) fun a S => ?_
      exact leafL ⟨rfl, S⟩
    · refine fI 198 q402 [(194, .slice ad97 p0.Loops.length cp98), (197, iv x368)] 13 [some 9, some 12] rfl rfl rfl rfl rfl rfl fun G a w S => ?_
      refine sIdxV (v := .slice ad97 p0.Loops.length cp98) (k := .i64) (j := x368) S (wN rfl) rfl rfl rfl hq403 rfl (lb rfl) fun a S => ?_
      exact leafL ⟨rfl, S⟩
    · refine fI 199 q405 [(198, q402)] 14 [some 13] rfl rfl rfl rfl rfl rfl fun G a w S => ?_
      refine sFldV (q := q402) S (wN rfl) rfl rfl hq406 rfl (lb rfl) fun a S => ?_
      exact leafL ⟨rfl, S⟩
    refine fI 200 (.bool x378.Purl) [(199, q405)] 15 [some 14] rfl rfl rfl rfl rfl rfl fun G a w S => ?_
    refine sLoadF (r := r_api_Loop) (s := rB) (g := (·.Purl)) (T := 48) (xs := p0.Loops) (x := x378) (v := .slice ad97 p0.Loops.length cp98) (vq := q405) (j := x368) 2 3 (.bool x378.Purl) S hp407 (wN rfl) rfl rfl rfl hx379 comp_api_Loop_Purl (fun _ _ _ h => h) scal_B rfl rfl (lb rfl) fun a S => ?_
    exact leafL ⟨rfl, S⟩
  refine sCondT S rfl hc239 ?_
  obtain ⟨t252, h, g253⟩ := bindSome h
  refine sCut (fun a w => ∃ o240, ∃ o243, ∃ o246, ∃ o249, (o240, o243, o246, o249) = t252 ∧ ∃ ad241, ∃ cp242, ∃ ad244, ∃ cp245, ∃ ad247, ∃ cp248, ∃ ad250, ∃ cp251, St [] E (keysL [eBox bb0 77 [.slice ad_0_0 p0.Loops.length cp_0_0, .slice ad_0_1 p0.Bound.length cp_0_1, .slice ad_0_2 p0.Cross.length cp_0_2, .slice ad_0_3 p0.Rows.length cp_0_3], eRow r_api_Loop 48 (.slice ad_0_0 p0.Loops.length cp_0_0) p0.Loops, eRow (rI .i64) 3 (.slice ad_0_1 p0.Bound.length cp_0_1) p0.Bound, eRow r_A2_Int 49 (.slice ad_0_2 p0.Cross.length cp_0_2) p0.Cross, eRow (rI .i64) 3 (.slice ad_0_3 p0.Rows.length cp_0_3) p0.Rows]) w0 213 a w [(0, .pointer (some ⟨bb0, 0, none⟩)), (8, .pointer (some ⟨b4, 0, none⟩)), (10, iv (p0.Loops.length : Int))] [eBox bb0 77 [.slice ad241 o240.length cp242, .slice ad244 o243.length cp245, .slice ad247 o246.length cp248, .slice ad250 o249.length cp251], eBox b4 61 [.int .u8 p3.Kind, .bool p3.Purl, iv p3.A, iv p3.B], eRow r_api_Loop 48 (.slice ad241 o240.length cp242) o240, eRow (rI .i64) 3 (.slice ad244 o243.length cp245) o243, eRow r_A2_Int 49 (.slice ad247 o246.length cp248) o246, eRow (rI .i64) 3 (.slice ad250 o249.length cp251) o249] []) ?_ (fun a w hI => ?_)
  rotate_left
  · obtain ⟨o240, o243, o246, o249, rfl, ad241, cp242, ad244, cp245, ad247, cp248, ad250, cp251, S⟩ := hI
    have h := g253
    clear g253
    try dsimp only at h
    refine sSeq (fun K319 hK319 => ?_)
    refine sRegion ?_
    refine sMove (iv 0) S (wN rfl) (.inr rfl) rfl rfl (lb rfl) fun a S => ?_
    refine leafL (leafT (hK319 _ _ ?_))
    refine wp_block ?_
    obtain ⟨t326, hl, g325⟩ := bindSome h
    refine sLoop hl (fun s0 a w => match s0 with | (s320, s321) => ∃ ad322, ∃ cp323, St [] E (keysL [eBox bb0 77 [.slice ad_0_0 p0.Loops.length cp_0_0, .slice ad_0_1 p0.Bound.length cp_0_1, .slice ad_0_2 p0.Cross.length cp_0_2, .slice ad_0_3 p0.Rows.length cp_0_3], eRow r_api_Loop 48 (.slice ad_0_0 p0.Loops.length cp_0_0) p0.Loops, eRow (rI .i64) 3 (.slice ad_0_1 p0.Bound.length cp_0_1) p0.Bound, eRow r_A2_Int 49 (.slice ad_0_2 p0.Cross.length cp_0_2) p0.Cross, eRow (rI .i64) 3 (.slice ad_0_3 p0.Rows.length cp_0_3) p0.Rows]) w0 213 a w [(0, .pointer (some ⟨bb0, 0, none⟩)), (8, .pointer (some ⟨b4, 0, none⟩)), (10, iv (p0.Loops.length : Int)), (16, iv s320)] [eBox bb0 77 [.slice ad241 o240.length cp242, .slice ad244 o243.length cp245, .slice ad322 s321.length cp323, .slice ad250 o249.length cp251], eBox b4 61 [.int .u8 p3.Kind, .bool p3.Purl, iv p3.A, iv p3.B], eRow r_api_Loop 48 (.slice ad241 o240.length cp242) o240, eRow (rI .i64) 3 (.slice ad244 o243.length cp245) o243, eRow r_A2_Int 49 (.slice ad322 s321.length cp323) s321, eRow (rI .i64) 3 (.slice ad250 o249.length cp251) o249] []) ⟨ad247, cp248, S.fix [0, 1, 2, 3, 4, 5] [] (by decide) rfl rfl rfl⟩ ?_
    clear hl h
    intro s0 a w c0 hI h hu324
    obtain ⟨s320, s321⟩ := s0
    unfold raddleref27_Piece_cell_s1_l6 at h
    dsimp only at h hI
    obtain ⟨ad322, cp323, S⟩ := hI
    refine sSeq (fun K330 hK330 => ?_)
    refine sSeq (fun K331 hK331 => ?_)
    refine sRegion ?_
    refine sMove (iv s320) S (wN rfl) (.inl rfl) rfl rfl (lb rfl) fun a S => ?_
    refine sField (b := b4) (off := 0) 2 2 S (wN rfl) rfl rfl rfl rfl rfl (lb rfl) fun a S => ?_
    refine sLoad1 (p := b4) (off := 2) (T := 61) (vs := [.int .u8 p3.Kind, .bool p3.Purl, iv p3.A, iv p3.B]) 1 (iv p3.A) S (wN rfl) rfl rfl rfl rfl rfl rfl (lb rfl) fun a S => ?_
    refine sBin (.bool (decide (s320 < p3.A))) S (wN rfl) rfl rfl rfl (bLt _ _ _ _ .i64 s320 p3.A) rfl (lb rfl) fun a S => ?_
    refine leafL (leafT (hK331 _ _ ?_))
    rcases iteSome h with ⟨hc332, h⟩ | ⟨hc332, h⟩
    rotate_left
    · refine sCondF S rfl hc332 ?_
      obtain rfl := Option.some.inj h
      obtain rfl := hu324 _ rfl
      have h := g325
      clear g325
      try dsimp only at h
      obtain rfl := Option.some.inj h
      exact wp_exit (xThen (xThen (xHit (leafB (sEnd (.tuple #[]) S (rsl0 rfl ) ⟨(ad241, cp242, ad244, cp245, ad322, cp323, ad250, cp251), rfl, S.mem.sel [0, 2, 3, 4, 5] [] (by decide) rfl rfl⟩)))))
    refine sCondT S rfl hc332 ?_
    refine wp_skip (leafT (hK330 _ _ ?_))
    obtain ⟨t336, h, g337⟩ := bindSome h
    refine sCut (fun a w => ∃ o333, o333 = t336 ∧ ∃ ad334, ∃ cp335, St [] E (keysL [eBox bb0 77 [.slice ad_0_0 p0.Loops.length cp_0_0, .slice ad_0_1 p0.Bound.length cp_0_1, .slice ad_0_2 p0.Cross.length cp_0_2, .slice ad_0_3 p0.Rows.length cp_0_3], eRow r_api_Loop 48 (.slice ad_0_0 p0.Loops.length cp_0_0) p0.Loops, eRow (rI .i64) 3 (.slice ad_0_1 p0.Bound.length cp_0_1) p0.Bound, eRow r_A2_Int 49 (.slice ad_0_2 p0.Cross.length cp_0_2) p0.Cross, eRow (rI .i64) 3 (.slice ad_0_3 p0.Rows.length cp_0_3) p0.Rows]) w0 213 a w [(0, .pointer (some ⟨bb0, 0, none⟩)), (8, .pointer (some ⟨b4, 0, none⟩)), (10, iv (p0.Loops.length : Int)), (16, iv s320)] [eBox bb0 77 [.slice ad241 o240.length cp242, .slice ad244 o243.length cp245, .slice ad334 o333.length cp335, .slice ad250 o249.length cp251], eBox b4 61 [.int .u8 p3.Kind, .bool p3.Purl, iv p3.A, iv p3.B], eRow r_api_Loop 48 (.slice ad241 o240.length cp242) o240, eRow (rI .i64) 3 (.slice ad244 o243.length cp245) o243, eRow r_A2_Int 49 (.slice ad334 o333.length cp335) o333, eRow (rI .i64) 3 (.slice ad250 o249.length cp251) o249] []) ?_ (fun a w hI => ?_)
    rotate_left
    · obtain ⟨o333, rfl, ad334, cp335, S⟩ := hI
      have h := g337
      clear g337
      try dsimp only at h
      refine sRegion ?_
      refine sMove (iv s320) S (wN rfl) (.inl rfl) rfl rfl (lb rfl) fun a S => ?_
      refine sBin (iv (w64 (s320 + 1))) S (wN rfl) rfl rfl rfl (bAdd _ _ _ _ s320 1) rfl (lb rfl) fun a S => ?_
      refine sMove (iv (w64 (s320 + 1))) S (wN rfl) (.inr rfl) rfl rfl (lb rfl) fun a S => ?_
      exact leafL (leafT (⟨(w64 (s320 + 1), o333), (Option.some.inj h).symm, ⟨ad334, cp335, S.fix [0, 1, 2, 3, 4, 5] [] (by decide) rfl rfl rfl⟩⟩))
    refine wp_block ?_
    refine sSeq (fun K338 hK338 => ?_)
    refine sRegion ?_
    refine sMove (iv 0) S (wN rfl) (.inr rfl) rfl rfl (lb rfl) fun a S => ?_
    refine leafL (leafT (hK338 _ _ ?_))
    refine wp_block ?_
    obtain ⟨t345, hl, g344⟩ := bindSome h
    refine sLoop hl (fun s0 a w => match s0 with | (s339, s340) => ∃ ad341, ∃ cp342, St [] E (keysL [eBox bb0 77 [.slice ad_0_0 p0.Loops.length cp_0_0, .slice ad_0_1 p0.Bound.length cp_0_1, .slice ad_0_2 p0.Cross.length cp_0_2, .slice ad_0_3 p0.Rows.length cp_0_3], eRow r_api_Loop 48 (.slice ad_0_0 p0.Loops.length cp_0_0) p0.Loops, eRow (rI .i64) 3 (.slice ad_0_1 p0.Bound.length cp_0_1) p0.Bound, eRow r_A2_Int 49 (.slice ad_0_2 p0.Cross.length cp_0_2) p0.Cross, eRow (rI .i64) 3 (.slice ad_0_3 p0.Rows.length cp_0_3) p0.Rows]) w0 213 a w [(0, .pointer (some ⟨bb0, 0, none⟩)), (8, .pointer (some ⟨b4, 0, none⟩)), (10, iv (p0.Loops.length : Int)), (16, iv s320), (17, iv s339)] [eBox bb0 77 [.slice ad241 o240.length cp242, .slice ad244 o243.length cp245, .slice ad341 s340.length cp342, .slice ad250 o249.length cp251], eBox b4 61 [.int .u8 p3.Kind, .bool p3.Purl, iv p3.A, iv p3.B], eRow r_api_Loop 48 (.slice ad241 o240.length cp242) o240, eRow (rI .i64) 3 (.slice ad244 o243.length cp245) o243, eRow r_A2_Int 49 (.slice ad341 s340.length cp342) s340, eRow (rI .i64) 3 (.slice ad250 o249.length cp251) o249] []) ⟨ad322, cp323, S.fix [0, 1, 2, 3, 4, 5] [] (by decide) rfl rfl rfl⟩ ?_
    clear hl h
    intro s0 a w c0 hI h hu343
    obtain ⟨s339, s340⟩ := s0
    unfold raddleref27_Piece_cell_s1_l5 at h
    dsimp only at h hI
    obtain ⟨ad341, cp342, S⟩ := hI
    refine sSeq (fun K349 hK349 => ?_)
    refine sSeq (fun K350 hK350 => ?_)
    refine sRegion ?_
    refine sMove (iv s339) S (wN rfl) (.inl rfl) rfl rfl (lb rfl) fun a S => ?_
    refine sField (b := b4) (off := 0) 3 3 S (wN rfl) rfl rfl rfl rfl rfl (lb rfl) fun a S => ?_
    refine sLoad1 (p := b4) (off := 3) (T := 61) (vs := [.int .u8 p3.Kind, .bool p3.Purl, iv p3.A, iv p3.B]) 1 (iv p3.B) S (wN rfl) rfl rfl rfl rfl rfl rfl (lb rfl) fun a S => ?_
    refine sBin (.bool (decide (s339 < p3.B))) S (wN rfl) rfl rfl rfl (bLt _ _ _ _ .i64 s339 p3.B) rfl (lb rfl) fun a S => ?_
    refine leafL (leafT (hK350 _ _ ?_))
    rcases iteSome h with ⟨hc351, h⟩ | ⟨hc351, h⟩
    rotate_left
    · refine sCondF S rfl hc351 ?_
      obtain rfl := Option.some.inj h
      obtain rfl := hu343 _ rfl
      have h := g344
      clear g344
      try dsimp only at h
      exact wp_exit (xThen (xThen (xHit (leafB (leafT (⟨s340, Option.some.inj h, ad341, cp342, S.fix [0, 1, 2, 3, 4, 5] [] (by decide) rfl rfl rfl⟩))))))
    refine sCondT S rfl hc351 ?_
    refine wp_skip (leafT (hK349 _ _ ?_))
    refine sSeq (fun K352 hK352 => ?_)
    refine wp_block ?_
    refine sSeq (fun K353 hK353 => ?_)
    refine sRegion ?_
    refine sMove (iv (p0.Loops.length : Int)) S (wN rfl) (.inl rfl) rfl rfl (lb rfl) fun a S => ?_
    refine sField (b := b4) (off := 0) 3 3 S (wN rfl) rfl rfl rfl rfl rfl (lb rfl) fun a S => ?_
    refine sLoad1 (p := b4) (off := 3) (T := 61) (vs := [.int .u8 p3.Kind, .bool p3.Purl, iv p3.A, iv p3.B]) 1 (iv p3.B) S (wN rfl) rfl rfl rfl rfl rfl rfl (lb rfl) fun a S => ?_
    refine sBin (iv (w64 ((p0.Loops.length : Int) + p3.B))) S (wN rfl) rfl rfl rfl (bAdd _ _ _ _ (p0.Loops.length : Int) p3.B) rfl (lb rfl) fun a S => ?_
    refine sMove (iv s320) S (wN rfl) (.inl rfl) rfl rfl (lb rfl) fun a S => ?_
    refine sBin (iv (w64 ((w64 ((p0.Loops.length : Int) + p3.B)) + s320))) S (wN rfl) rfl rfl rfl (bAdd _ _ _ _ (w64 ((p0.Loops.length : Int) + p3.B)) s320) rfl (lb rfl) fun a S => ?_
    refine sMove (iv (p0.Loops.length : Int)) S (wN rfl) (.inl rfl) rfl rfl (lb rfl) fun a S => ?_
    refine sMove (iv s339) S (wN rfl) (.inl rfl) rfl rfl (lb rfl) fun a S => ?_
    refine sBin (iv (w64 ((p0.Loops.length : Int) + s339))) S (wN rfl) rfl rfl rfl (bAdd _ _ _ _ (p0.Loops.length : Int) s339) rfl (lb rfl) fun a S => ?_
    refine sMove (iv (w64 ((w64 ((p0.Loops.length : Int) + p3.B)) + s320))) S (wN rfl) (.inr rfl) rfl rfl (lb rfl) fun a S => ?_
    refine sMove (iv (w64 ((p0.Loops.length : Int) + s339))) S (wN rfl) (.inr rfl) rfl rfl (lb rfl) fun a S => ?_
    refine leafL (leafT (hK353 _ _ ?_))
    obtain ⟨t356, h, g357⟩ := bindSome h
    refine sCut (fun a w => ∃ o354, ∃ o355, (o354, o355) = t356 ∧ St [] E (keysL [eBox bb0 77 [.slice ad_0_0 p0.Loops.length cp_0_0, .slice ad_0_1 p0.Bound.length cp_0_1, .slice ad_0_2 p0.Cross.length cp_0_2, .slice ad_0_3 p0.Rows.length cp_0_3], eRow r_api_Loop 48 (.slice ad_0_0 p0.Loops.length cp_0_0) p0.Loops, eRow (rI .i64) 3 (.slice ad_0_1 p0.Bound.length cp_0_1) p0.Bound, eRow r_A2_Int 49 (.slice ad_0_2 p0.Cross.length cp_0_2) p0.Cross, eRow (rI .i64) 3 (.slice ad_0_3 p0.Rows.length cp_0_3) p0.Rows]) w0 213 a w [(0, .pointer (some ⟨bb0, 0, none⟩)), (8, .pointer (some ⟨b4, 0, none⟩)), (10, iv (p0.Loops.length : Int)), (16, iv s320), (17, iv s339), (18, iv o354), (19, iv o355)] [eBox bb0 77 [.slice ad241 o240.length cp242, .slice ad244 o243.length cp245, .slice ad341 s340.length cp342, .slice ad250 o249.length cp251], eBox b4 61 [.int .u8 p3.Kind, .bool p3.Purl, iv p3.A, iv p3.B], eRow r_api_Loop 48 (.slice ad241 o240.length cp242) o240, eRow (rI .i64) 3 (.slice ad244 o243.length cp245) o243, eRow r_A2_Int 49 (.slice ad341 s340.length cp342) s340, eRow (rI .i64) 3 (.slice ad250 o249.length cp251) o249] []) ?_ (fun a w hI => ?_)
    · refine sSeq (fun K358 hK358 => ?_)
      refine sRegion ?_
      refine sField (b := b4) (off := 0) 0 0 S (wN rfl) rfl rfl rfl rfl rfl (lb rfl) fun a S => ?_
      refine sLoad1 (p := b4) (off := 0) (T := 61) (vs := [.int .u8 p3.Kind, .bool p3.Purl, iv p3.A, iv p3.B]) 1 (.int .u8 p3.Kind) S (wN rfl) rfl rfl rfl rfl rfl rfl (lb rfl) fun a S => ?_
      refine sBin (.bool (p3.Kind == 7)) S (wN rfl) rfl rfl rfl (bEq _ _ _ _ .u8 p3.Kind 7) rfl (lb rfl) fun a S => ?_
      refine leafL (leafT (hK358 _ _ ?_))
      rcases iteSome h with ⟨hc359, h⟩ | ⟨hc359, h⟩
      rotate_left
      · refine sCondF S rfl hc359 ?_
        exact wp_skip (leafT (⟨w64 ((w64 ((p0.Loops.length : Int) + p3.B)) + s320), w64 ((p0.Loops.length : Int) + s339), Option.some.inj h, S.fix [0, 1, 2, 3, 4, 5] [] (by decide) rfl rfl rfl⟩))
      refine sCondT S rfl hc359 ?_
      refine sRegion ?_
      refine sMove (iv (w64 ((p0.Loops.length : Int) + s339))) S (wN rfl) (.inl rfl) rfl rfl (lb rfl) fun a S => ?_
      refine sMove (iv (w64 ((w64 ((p0.Loops.length : Int) + p3.B)) + s320))) S (wN rfl) (.inl rfl) rfl rfl (lb rfl) fun a S => ?_
      refine sMove (iv (w64 ((p0.Loops.length : Int) + s339))) S (wN rfl) (.inr rfl) rfl rfl (lb rfl) fun a S => ?_
      refine sMove (iv (w64 ((w64 ((p0.Loops.length : Int) + p3.B)) + s320))) S (wN rfl) (.inr rfl) rfl rfl (lb rfl) fun a S => ?_
      exact leafL (leafT (⟨w64 ((p0.Loops.length : Int) + s339), w64 ((w64 ((p0.Loops.length : Int) + p3.B)) + s320), Option.some.inj h, S.fix [0, 1, 2, 3, 4, 5] [] (by decide) rfl rfl rfl⟩))
    obtain ⟨o354, o355, rfl, S⟩ := hI
    have h := g357
    clear g357
    try dsimp only at h
    refine sRegion ?_
    refine sMove (.pointer (some ⟨bb0, 0, none⟩)) S (wN rfl) (.inl rfl) rfl rfl (lb rfl) fun a S => ?_
    refine sMove (.pointer (some ⟨bb0, 0, none⟩)) S (wN rfl) (.inl rfl) rfl rfl (lb rfl) fun a S => ?_
    refine nilCheck_ok (q := ⟨bb0, 0, none⟩) S (wN rfl) rfl rfl rfl (lb rfl) fun a S => ?_
    refine sField (b := bb0) (off := 0) 2 2 S (wN rfl) rfl rfl rfl rfl rfl (lb rfl) fun a S => ?_
    refine sLoad1 (p := bb0) (off := 2) (T := 77) (vs := [.slice ad241 o240.length cp242, .slice ad244 o243.length cp245, .slice ad341 s340.length cp342, .slice ad250 o249.length cp251]) 0 (.slice ad341 s340.length cp342) S (wN rfl) rfl rfl rfl rfl rfl rfl (lb rfl) fun a S => ?_
    refine sMove (iv o354) S (wN rfl) (.inl rfl) rfl rfl (lb rfl) fun a S => ?_
    refine sMove (iv o355) S (wN rfl) (.inl rfl) rfl rfl (lb rfl) fun a S => ?_
    refine sBuild [(0, iv o354), (1, iv o355)] [iv o354, iv o355] S (wN rfl) rfl rfl rfl rfl (lb rfl) fun a S => ?_
    have S := S.learn (fRep r_A2_Int (.agg #[iv o354, iv o355]) (o354, o355)) rfl
    refine sLit (r := r_A2_Int) (T := 49) (xs := [(o354, o355)]) [(0, .agg #[iv o354, iv o355])] 1 [.agg #[iv o354, iv o355]] [iv o354, iv o355] (.agg #[iv 0, iv 0]) 16 S (wN rfl) rfl rfl Try.underlying37 rfl (by decide) (by decide) (by kernel_rfl) rfl (fun E1 w1 hE => All.cons (r_A2_Int.mono hE (S.mem.know (i := 0) (e := fRep r_A2_Int (.agg #[iv o354, iv o355]) (o354, o355)) rfl)) (All.nil _ _ _)) rfl rfl (lb rfl) fun a w ad360 cp361 S => ?_
    obtain ⟨l362, hx363, h⟩ := bindSome h
    refine sApp (r := r_A2_Int) (T := 49) (xs := s340) (ys := [(o354, o355)]) (v := .slice ad341 s340.length cp342) (u := .slice ad360 [(o354, o355)].length cp361) 5 (.agg #[iv 0, iv 0]) 16 S (wN rfl) rfl Try.underlying37 rfl rfl (by decide) rfl rfl rfl (src_R (T := 49) 0 S.mem rfl) hx363 rfl (lb rfl) fun a w ad364 cp365 S => ?_
    refine nilCheck_ok (q := ⟨bb0, 0, none⟩) S (wN rfl) rfl rfl rfl (lb rfl) fun a S => ?_
    refine sField (b := bb0) (off := 0) 2 2 S (wN rfl) rfl rfl rfl rfl rfl (lb rfl) fun a S => ?_
    refine sStore (p := bb0) (off := 2) (T := 77) (vs := [.slice ad241 o240.length cp242, .slice ad244 o243.length cp245, .slice ad341 s340.length cp342, .slice ad250 o249.length cp251]) (v := .slice ad364 l362.length cp365) 2 [.slice ad364 l362.length cp365] S (wN rfl) rfl rfl rfl rfl rfl rfl rfl (by simp) rfl fun a w S => ?_
    refine leafL (leafB (leafT (hK352 _ _ ?_)))
    refine sRegion ?_
    refine sMove (iv s339) S (wN rfl) (.inl rfl) rfl rfl (lb rfl) fun a S => ?_
    refine sBin (iv (w64 (s339 + 1))) S (wN rfl) rfl rfl rfl (bAdd _ _ _ _ s339 1) rfl (lb rfl) fun a S => ?_
    refine sMove (iv (w64 (s339 + 1))) S (wN rfl) (.inr rfl) rfl rfl (lb rfl) fun a S => ?_
    exact leafL (leafT (⟨(w64 (s339 + 1), l362), (Option.some.inj h).symm, ⟨ad364, cp365, S.fix [0, 3, 4, 5, 1, 6] [] (by decide) rfl rfl rfl⟩⟩))
  refine sSeq (fun K254 hK254 => ?_)
  refine sRegion ?_
  refine sMove (iv 0) S (wN rfl) (.inr rfl) rfl rfl (lb rfl) fun a S => ?_
  refine leafL (leafT (hK254 _ _ ?_))
  refine wp_block ?_
  obtain ⟨t270, hl, g269⟩ := bindSome h
  refine sLoop hl (fun s0 a w => match s0 with | (s255, s256, s259, s262, s265) => ∃ ad257, ∃ cp258, ∃ ad260, ∃ cp261, ∃ ad263, ∃ cp264, ∃ ad266, ∃ cp267, St [] E (keysL [eBox bb0 77 [.slice ad_0_0 p0.Loops.length cp_0_0, .slice ad_0_1 p0.Bound.length cp_0_1, .slice ad_0_2 p0.Cross.length cp_0_2, .slice ad_0_3 p0.Rows.length cp_0_3], eRow r_api_Loop 48 (.slice ad_0_0 p0.Loops.length cp_0_0) p0.Loops, eRow (rI .i64) 3 (.slice ad_0_1 p0.Bound.length cp_0_1) p0.Bound, eRow r_A2_Int 49 (.slice ad_0_2 p0.Cross.length cp_0_2) p0.Cross, eRow (rI .i64) 3 (.slice ad_0_3 p0.Rows.length cp_0_3) p0.Rows]) w0 213 a w [(0, .pointer (some ⟨bb0, 0, none⟩)), (1, iv p1), (2, iv p2), (4, .slice ad1 p4.length cp2), (8, .pointer (some ⟨b4, 0, none⟩)), (10, iv (p0.Loops.length : Int)), (15, iv s255)] [eBox bb0 77 [.slice ad257 s256.length cp258, .slice ad260 s259.length cp261, .slice ad263 s262.length cp264, .slice ad266 s265.length cp267], eBox b4 61 [.int .u8 p3.Kind, .bool p3.Purl, iv p3.A, iv p3.B], eRow r_api_Loop 48 (.slice ad257 s256.length cp258) s256, eRow (rI .i64) 3 (.slice ad260 s259.length cp261) s259, eRow r_A2_Int 49 (.slice ad263 s262.length cp264) s262, eRow (rI .i64) 3 (.slice ad266 s265.length cp267) s265] [fRep (rL (rI .i64)) (.slice ad1 p4.length cp2) p4]) ⟨ad97, cp98, ad99, cp100, ad101, cp102, ad103, cp104, S.fix [0, 1, 2, 3, 4, 5] [0] (by decide) rfl rfl rfl⟩ ?_
  clear hl h
  intro s0 a w c0 hI h hu268
  obtain ⟨s255, s256, s259, s262, s265⟩ := s0
  unfold raddleref27_Piece_cell_s1_l4 at h
  dsimp only at h hI
  obtain ⟨ad257, cp258, ad260, cp261, ad263, cp264, ad266, cp267, S⟩ := hI
  refine sSeq (fun K283 hK283 => ?_)
  refine sSeq (fun K284 hK284 => ?_)
  refine sRegion ?_
  refine sMove (iv s255) S (wN rfl) (.inl rfl) rfl rfl (lb rfl) fun a S => ?_
  refine sField (b := b4) (off := 0) 2 2 S (wN rfl) rfl rfl rfl rfl rfl (lb rfl) fun a S => ?_
  refine sLoad1 (p := b4) (off := 2) (T := 61) (vs := [.int .u8 p3.Kind, .bool p3.Purl, iv p3.A, iv p3.B]) 1 (iv p3.A) S (wN rfl) rfl rfl rfl rfl rfl rfl (lb rfl) fun a S => ?_
  refine sField (b := b4) (off := 0) 3 3 S (wN rfl) rfl rfl rfl rfl rfl (lb rfl) fun a S => ?_
  refine sLoad1 (p := b4) (off := 3) (T := 61) (vs := [.int .u8 p3.Kind, .bool p3.Purl, iv p3.A, iv p3.B]) 1 (iv p3.B) S (wN rfl) rfl rfl rfl rfl rfl rfl (lb rfl) fun a S => ?_
  refine sBin (iv (w64 (p3.A + p3.B))) S (wN rfl) rfl rfl rfl (bAdd _ _ _ _ p3.A p3.B) rfl (lb rfl) fun a S => ?_
  refine sBin (.bool (decide (s255 < (w64 (p3.A + p3.B))))) S (wN rfl) rfl rfl rfl (bLt _ _ _ _ .i64 s255 (w64 (p3.A + p3.B))) rfl (lb rfl) fun a S => ?_
  refine leafL (leafT (hK284 _ _ ?_))
  rcases iteSome h with ⟨hc285, h⟩ | ⟨hc285, h⟩
  rotate_left
  · refine sCondF S rfl hc285 ?_
    obtain rfl := Option.some.inj h
    obtain rfl := hu268 _ rfl
    have h := g269
    clear g269
    try dsimp only at h
    exact wp_exit (xThen (xThen (xHit (leafT (⟨s256, s259, s262, s265, Option.some.inj h, ad257, cp258, ad260, cp261, ad263, cp264, ad266, cp267, S.fix [0, 1, 2, 3, 4, 5] [] (by decide) rfl rfl rfl⟩)))))
  refine sCondT S rfl hc285 ?_
  refine wp_skip (leafT (hK283 _ _ ?_))
  refine sSeq (fun K286 hK286 => ?_)
  refine wp_block ?_
  obtain ⟨z287, hx288, h⟩ := bindSome h
  obtain ⟨x289, hx290, h⟩ := bindSome h
  obtain ⟨r296, hx297, h⟩ := bindSome h
  obtain ⟨q306, hq307, S⟩ := pIdx (P := Try.prog) (r := (rI .i64)) (v := .slice ad1 p4.length cp2) (xs := p4) (j := z287) 32 3 0 S Try.underlying32 rfl rfl hx290
  obtain ⟨u308, S⟩ := pLoad (r := (rI .i64)) (q := q306) (x := x289) 0 S rfl
  obtain rfl : u308 = iv x289 := S.mem.know (i := 1) (e := fRep (rI .i64) (u308) x289) rfl
  refine sDraw (nf := [16, 19]) (W := [(0, 124, .pointer (some ⟨bb0, 0, none⟩)), (1, 125, iv p1), (2, 126, iv p2), (3, 127, .slice ad1 p4.length cp2), (4, 128, .pointer (some ⟨b4, 2, none⟩)), (5, 129, iv p3.A), (6, 130, iv s255), (7, 131, iv (w64 (p3.A + s255))), (8, 132, .pointer (some ⟨b4, 2, none⟩)), (9, 133, iv p3.A), (10, 134, .pointer (some ⟨b4, 3, none⟩)), (11, 135, iv p3.B), (12, 136, iv (w64 (p3.A + p3.B))), (13, 137, iv z287), (14, 138, q306), (15, 139, iv x289), (17, 141, .pointer (some ⟨b4, 1, none⟩)), (18, 142, .bool p3.Purl)]) rfl S ?_
  refine node_by (A := anc_raddleref27_Piece_cell_s1_1) (nf := [16, 19]) (Y := []) (W := [(0, 124, .pointer (some ⟨bb0, 0, none⟩)), (1, 125, iv p1), (2, 126, iv p2), (3, 127, .slice ad1 p4.length cp2), (4, 128, .pointer (some ⟨b4, 2, none⟩)), (5, 129, iv p3.A), (6, 130, iv s255), (7, 131, iv (w64 (p3.A + s255))), (8, 132, .pointer (some ⟨b4, 2, none⟩)), (9, 133, iv p3.A), (10, 134, .pointer (some ⟨b4, 3, none⟩)), (11, 135, iv p3.B), (12, 136, iv (w64 (p3.A + p3.B))), (13, 137, iv z287), (14, 138, q306), (15, 139, iv x289), (17, 141, .pointer (some ⟨b4, 1, none⟩)), (18, 142, .bool p3.Purl)]) 20 (by kernel_rfl) (by kernel_rfl) (by kernel_rfl) (by kernel_rfl) (by kernel_rfl) [0, 1, 2, 3, 4, 5, 6, 7, 8, 9, 10, 11, 12, 13, 14, 15, 17, 18] (by kernel_rfl) (by decide) (by decide) (aF 0 19 (by decide) ?_ (aF 1 18 (by decide) ?_ (aF 2 17 (by decide) ?_ (aF 3 16 (by decide) ?_ (aF 4 15 (by decide) ?_ (aF 5 14 (by decide) ?_ (aF 6 13 (by decide) ?_ (aF 7 12 (by decide) ?_ (aF 8 11 (by decide) ?_ (aF 9 10 (by decide) ?_ (aF 10 9 (by decide) ?_ (aF 11 8 (by decide) ?_ (aF 12 7 (by decide) ?_ (aF 13 6 (by decide) ?_ (aF 14 5 (by decide) ?_ (aF 15 4 (by decide) ?_ (aN 16 3 (by decide) ?_ (aF 17 2 (by decide) ?_ (aF 18 1 (by decide) ?_ (aB 19 0 16 (by decide) (trivial))))))))))))))))))))) [] (fun q hq => by cases hq) (fun hY => absurd (hY 16 (by decide)) (by decide))
  · refine fI 124 (.pointer (some ⟨bb0, 0, none⟩)) [(0, .pointer (some ⟨bb0, 0, none⟩))] 0 [none] rfl rfl rfl rfl rfl rfl fun G a w S => ?_
    refine sMove (.pointer (some ⟨bb0, 0, none⟩)) S (wN rfl) (.inl rfl) rfl rfl (lb rfl) fun a S => ?_
    exact leafL ⟨rfl, S⟩
  · refine fI 125 (iv p1) [(1, iv p1)] 1 [none] rfl rfl rfl rfl rfl rfl fun G a w S => ?_
    refine sMove (iv p1) S (wN rfl) (.inl rfl) rfl rfl (lb rfl) fun a S => ?_
    exact leafL ⟨rfl, S⟩
  · refine fI 126 (iv p2) [(2, iv p2)] 2 [none] rfl rfl rfl rfl rfl rfl fun G a w S => ?_
    refine sMove (iv p2) S (wN rfl) (.inl rfl) rfl rfl (lb rfl) fun a S => ?_
    exact leafL ⟨rfl, S⟩
  · refine fI 127 (.slice ad1 p4.length cp2) [(4, .slice ad1 p4.length cp2)] 3 [none] rfl rfl rfl rfl rfl rfl fun G a w S => ?_
    refine sMove (.slice ad1 p4.length cp2) S (wN rfl) (.inl rfl) rfl rfl (lb rfl) fun a S => ?_
    exact leafL ⟨rfl, S⟩
  · refine fI 128 (.pointer (some ⟨b4, 2, none⟩)) [(8, .pointer (some ⟨b4, 0, none⟩))] 4 [none] rfl rfl rfl rfl rfl rfl fun G a w S => ?_
    refine sField (b := b4) (off := 0) 2 2 S (wN rfl) rfl rfl rfl rfl rfl (lb rfl) fun a S => ?_
    exact leafL ⟨rfl, S⟩
  · refine fI 129 (iv p3.A) [(128, .pointer (some ⟨b4, 2, none⟩))] 5 [some 4] rfl rfl rfl rfl rfl rfl fun G a w S => ?_
    refine sLoad1 (p := b4) (off := 2) (T := 61) (vs := [.int .u8 p3.Kind, .bool p3.Purl, iv p3.A, iv p3.B]) 1 (iv p3.A) S (wN rfl) rfl rfl rfl rfl rfl rfl (lb rfl) fun a S => ?_
    exact leafL ⟨rfl, S⟩
  · refine fI 130 (iv s255) [(15, iv s255)] 6 [none] rfl rfl rfl rfl rfl rfl fun G a w S => ?_
    refine sMove (iv s255) S (wN rfl) (.inl rfl) rfl rfl (lb rfl) fun a S => ?_
    exact leafL ⟨rfl, S⟩
  · refine fI 131 (iv (w64 (p3.A + s255))) [(129, iv p3.A), (130, iv s255)] 7 [some 5, some 6] rfl rfl rfl rfl rfl rfl fun G a w S => ?_
    refine sBin (iv (w64 (p3.A + s255))) S (wN rfl) rfl rfl rfl (bAdd _ _ _ _ p3.A s255) rfl (lb rfl) fun a S => ?_
    exact leafL ⟨rfl, S⟩
  · refine fI 132 (.pointer (some ⟨b4, 2, none⟩)) [(8, .pointer (some ⟨b4, 0, none⟩))] 8 [none] rfl rfl rfl rfl rfl rfl fun G a w S => ?_
    refine sField (b := b4) (off := 0) 2 2 S (wN rfl) rfl rfl rfl rfl rfl (lb rfl) fun a S => ?_
    exact leafL ⟨rfl, S⟩
  · refine fI 133 (iv p3.A) [(132, .pointer (some ⟨b4, 2, none⟩))] 9 [some 8] rfl rfl rfl rfl rfl rfl fun G a w S => ?_
    refine sLoad1 (p := b4) (off := 2) (T := 61) (vs := [.int .u8 p3.Kind, .bool p3.Purl, iv p3.A, iv p3.B]) 1 (iv p3.A) S (wN rfl) rfl rfl rfl rfl rfl rfl (lb rfl) fun a S => ?_
    exact leafL ⟨rfl, S⟩
  · refine fI 134 (.pointer (some ⟨b4, 3, none⟩)) [(8, .pointer (some ⟨b4, 0, none⟩))] 10 [none] rfl rfl rfl rfl rfl rfl fun G a w S => ?_
    refine sField (b := b4) (off := 0) 3 3 S (wN rfl) rfl rfl rfl rfl rfl (lb rfl) fun a S => ?_
    exact leafL ⟨rfl, S⟩
  · refine fI 135 (iv p3.B) [(134, .pointer (some ⟨b4, 3, none⟩))] 11 [some 10] rfl rfl rfl rfl rfl rfl fun G a w S => ?_
    refine sLoad1 (p := b4) (off := 3) (T := 61) (vs := [.int .u8 p3.Kind, .bool p3.Purl, iv p3.A, iv p3.B]) 1 (iv p3.B) S (wN rfl) rfl rfl rfl rfl rfl rfl (lb rfl) fun a S => ?_
    exact leafL ⟨rfl, S⟩
  · refine fI 136 (iv (w64 (p3.A + p3.B))) [(133, iv p3.A), (135, iv p3.B)] 12 [some 9, some 11] rfl rfl rfl rfl rfl rfl fun G a w S => ?_
    refine sBin (iv (w64 (p3.A + p3.B))) S (wN rfl) rfl rfl rfl (bAdd _ _ _ _ p3.A p3.B) rfl (lb rfl) fun a S => ?_
    exact leafL ⟨rfl, S⟩
  · refine fI 137 (iv z287) [(131, iv (w64 (p3.A + s255))), (136, iv (w64 (p3.A + p3.B)))] 13 [some 7, some 12] rfl rfl rfl rfl rfl rfl fun G a w S => ?_
    refine sBin (iv z287) S (wN rfl) rfl rfl rfl (bRem _ _ _ _ (x := w64 (p3.A + s255)) (y := w64 (p3.A + p3.B)) hx288) rfl (lb rfl) fun a S => ?_
    exact leafL ⟨rfl, S⟩
  · refine fI 138 q306 [(127, .slice ad1 p4.length cp2), (137, iv z287)] 14 [some 3, some 13] rfl rfl rfl rfl rfl rfl fun G a w S => ?_
    refine sIdxV (v := .slice ad1 p4.length cp2) (k := .i64) (j := z287) S (wN rfl) rfl rfl rfl hq307 rfl (lb rfl) fun a S => ?_
    exact leafL ⟨rfl, S⟩
  · refine fI 139 (iv x289) [(138, q306)] 15 [some 14] rfl rfl rfl rfl rfl rfl fun G a w S => ?_
    refine sLoadV1 (vq := q306) 0 (iv x289) S (wN rfl) rfl rfl rfl rfl rfl (lb rfl) fun a S => ?_
    exact leafL ⟨rfl, S⟩
  · refine ⟨_, [(139, iv x289)], rfl, (srcs_of [some 15] rfl rfl rfl), fun G a w S => ?_⟩
    refine sLit (r := (rI .i64)) (T := 3) (xs := ([x289] : List Int)) [(0, iv x289)] 1 [iv x289] [iv x289] (iv 0) 8 S (wN rfl) rfl rfl Try.underlying32 rfl (by decide) (by decide) (by kernel_rfl) rfl (fun E1 w1 hE => All.cons rfl (All.nil _ _ _)) rfl rfl (lb rfl) fun a w ad309 cp310 S => ?_
    refine leafL ⟨rfl, _, _, .inl ⟨140, (.slice ad309 ([x289] : List Int).length cp310), [], rfl, S, hz_of rfl, ?_⟩⟩
    refine node_by (A := anc_raddleref27_Piece_cell_s1_1) (nf := [16, 19]) (Y := [16]) 20 (by kernel_rfl) (by kernel_rfl) (by kernel_rfl) (by kernel_rfl) (by kernel_rfl) [16, 0, 1, 2, 3, 4, 5, 6, 7, 8, 9, 10, 11, 12, 13, 14, 15, 17, 18] (by kernel_rfl) (by decide) (by decide) (aF 0 19 (by decide) ?_ (aF 1 18 (by decide) ?_ (aF 2 17 (by decide) ?_ (aD 3 16 16 (by decide) (aD 4 15 16 (by decide) (aD 5 14 16 (by decide) (aD 6 13 16 (by decide) (aD 7 12 16 (by decide) (aD 8 11 16 (by decide) (aD 9 10 16 (by decide) (aD 10 9 16 (by decide) (aD 11 8 16 (by decide) (aD 12 7 16 (by decide) (aD 13 6 16 (by decide) (aD 14 5 16 (by decide) (aD 15 4 16 (by decide) (aY 16 3 (by decide) (aF 17 2 (by decide) ?_ (aF 18 1 (by decide) ?_ (aN 19 0 (by decide) ?_ (trivial))))))))))))))))))))) [] (fun q hq => by cases hq) (fun hY => absurd (hY 19 (by decide)) (by decide))
    · refine fI 124 (.pointer (some ⟨bb0, 0, none⟩)) [(0, .pointer (some ⟨bb0, 0, none⟩))] 1 [none] rfl rfl rfl rfl rfl rfl fun G a w S => ?_
      refine sMove (.pointer (some ⟨bb0, 0, none⟩)) S (wN rfl) (.inl rfl) rfl rfl (lb rfl) fun a S => ?_
      exact leafL ⟨rfl, S⟩
    · refine fI 125 (iv p1) [(1, iv p1)] 2 [none] rfl rfl rfl rfl rfl rfl fun G a w S => ?_
      refine sMove (iv p1) S (wN rfl) (.inl rfl) rfl rfl (lb rfl) fun a S => ?_
      exact leafL ⟨rfl, S⟩
    · refine fI 126 (iv p2) [(2, iv p2)] 3 [none] rfl rfl rfl rfl rfl rfl fun G a w S => ?_
      refine sMove (iv p2) S (wN rfl) (.inl rfl) rfl rfl (lb rfl) fun a S => ?_
      exact leafL ⟨rfl, S⟩
    · refine fI 141 (.pointer (some ⟨b4, 1, none⟩)) [(8, .pointer (some ⟨b4, 0, none⟩))] 17 [none] rfl rfl rfl rfl rfl rfl fun G a w S => ?_
      refine sField (b := b4) (off := 0) 1 1 S (wN rfl) rfl rfl rfl rfl rfl (lb rfl) fun a S => ?_
      exact leafL ⟨rfl, S⟩
    · refine fI 142 (.bool p3.Purl) [(141, .pointer (some ⟨b4, 1, none⟩))] 18 [some 17] rfl rfl rfl rfl rfl rfl fun G a w S => ?_
      refine sLoad1 (p := b4) (off := 1) (T := 61) (vs := [.int .u8 p3.Kind, .bool p3.Purl, iv p3.A, iv p3.B]) 2 (.bool p3.Purl) S (wN rfl) rfl rfl rfl rfl rfl rfl (lb rfl) fun a S => ?_
      exact leafL ⟨rfl, S⟩
    refine ⟨_, [(124, .pointer (some ⟨bb0, 0, none⟩)), (125, iv p1), (126, iv p2), (140, .slice ad309 ([x289] : List Int).length cp310), (142, .bool p3.Purl)], rfl, (srcs_of [some 1, some 2, some 3, some 0, some 18] rfl rfl rfl), fun G a w S => ?_⟩
    have S := S.shutR (r := (rI .i64)) (T := 3) (v := .slice ad309 ([x289] : List Int).length cp310) (xs := ([x289] : List Int)) 0 rfl
    refine sCall (X := Option Addr × Nat × Option Addr × Nat × Option Addr × Nat × Option Addr × Nat) (f := 45) (vs := [.pointer (some ⟨bb0, 0, none⟩), iv p1, iv p2, .slice ad309 ([x289] : List Int).length cp310, .bool p3.Purl]) (val := fun _ => .tuple #[]) (B' := fun x => [eBox bb0 77 [.slice x.1 r296.Loops.length x.2.1, .slice x.2.2.1 r296.Bound.length x.2.2.2.1, .slice x.2.2.2.2.1 r296.Cross.length x.2.2.2.2.2.1, .slice x.2.2.2.2.2.2.1 r296.Rows.length x.2.2.2.2.2.2.2], eRow r_api_Loop 48 (.slice x.1 r296.Loops.length x.2.1) r296.Loops, eRow (rI .i64) 3 (.slice x.2.2.1 r296.Bound.length x.2.2.2.1) r296.Bound, eRow r_A2_Int 49 (.slice x.2.2.2.2.1 r296.Cross.length x.2.2.2.2.2.1) r296.Cross, eRow (rI .i64) 3 (.slice x.2.2.2.2.2.2.1 r296.Rows.length x.2.2.2.2.2.2.2) r296.Rows]) (D' := fun _ => []) [eBox bb0 77 [.slice ad257 s256.length cp258, .slice ad260 s259.length cp261, .slice ad263 s262.length cp264, .slice ad266 s265.length cp267], eRow r_api_Loop 48 (.slice ad257 s256.length cp258) s256, eRow (rI .i64) 3 (.slice ad260 s259.length cp261) s259, eRow r_A2_Int 49 (.slice ad263 s262.length cp264) s262, eRow (rI .i64) 3 (.slice ad266 s265.length cp267) s265] [eBox b4 61 [.int .u8 p3.Kind, .bool p3.Purl, iv p3.A, iv p3.B]] [fRep (rL (rI .i64)) (.slice ad309 ([x289] : List Int).length cp310) ([x289] : List Int)] [0, 2, 3, 4, 5, 1] [0] S (wN rfl) rfl callee45 rfl (by decide) rfl rfl (fun E1 w1 S1 => c_raddleref27_Piece_put_s1 E1 w1 (raddleref27_Piece.mk s256 s259 s262 s265) bb0 ad257 cp258 ad260 cp261 ad263 cp264 ad266 cp267 p1 p2 ([x289] : List Int) (.slice ad309 ([x289] : List Int).length cp310) p3.Purl r296 hx297 S1) rfl (lb rfl) fun xx a w S => ?_
    obtain ⟨ad311, cp312, ad313, cp314, ad315, cp316, ad317, cp318⟩ := xx
    dsimp only at S
    refine leafL ⟨rfl, _, _, .inl ⟨143, (.tuple #[]), [], rfl, S, hz_of rfl, ?_⟩⟩
    refine node_by (A := anc_raddleref27_Piece_cell_s1_1) (nf := [16, 19]) (Y := [19, 16]) 20 (by kernel_rfl) (by kernel_rfl) (by kernel_rfl) (by kernel_rfl) (by kernel_rfl) [19, 16, 0, 1, 2, 3, 4, 5, 6, 7, 8, 9, 10, 11, 12, 13, 14, 15, 17, 18] (by kernel_rfl) (by decide) (by decide) (aD 0 19 19 (by decide) (aD 1 18 19 (by decide) (aD 2 17 19 (by decide) (aD 3 16 19 (by decide) (aD 4 15 19 (by decide) (aD 5 14 19 (by decide) (aD 6 13 19 (by decide) (aD 7 12 19 (by decide) (aD 8 11 19 (by decide) (aD 9 10 19 (by decide) (aD 10 9 19 (by decide) (aD 11 8 19 (by decide) (aD 12 7 19 (by decide) (aD 13 6 19 (by decide) (aD 14 5 19 (by decide) (aD 15 4 19 (by decide) (aY 16 3 (by decide) (aD 17 2 19 (by decide) (aD 18 1 19 (by decide) (aY 19 0 (by decide) (trivial))))))))))))))))))))) [(0, .pointer (some ⟨bb0, 0, none⟩)), (1, iv p1), (2, iv p2), (4, .slice ad1 p4.length cp2), (8, .pointer (some ⟨b4, 0, none⟩)), (10, iv (p0.Loops.length : Int)), (15, iv s255)] (fin_of [none, none, none, none, none, none, none] rfl (by kernel_rfl) (by kernel_rfl)) (fun _ a w S => ?_)
    refine leafB (leafT (hK286 _ _ ?_))
    refine sRegion ?_
    refine sMove (iv s255) S (wN rfl) (.inl rfl) rfl rfl (lb rfl) fun a S => ?_
    refine sBin (iv (w64 (s255 + 1))) S (wN rfl) rfl rfl rfl (bAdd _ _ _ _ s255 1) rfl (lb rfl) fun a S => ?_
    refine sMove (iv (w64 (s255 + 1))) S (wN rfl) (.inr rfl) rfl rfl (lb rfl) fun a S => ?_
    exact leafL (leafT (⟨(w64 (s255 + 1), r296.Loops, r296.Bound, r296.Cross, r296.Rows), (Option.some.inj h).symm, ⟨ad311, cp312, ad313, cp314, ad315, cp316, ad317, cp318, S.fix [0, 5, 1, 2, 3, 4] [4] (by decide) rfl rfl rfl⟩⟩))
  · refine fI 141 (.pointer (some ⟨b4, 1, none⟩)) [(8, .pointer (some ⟨b4, 0, none⟩))] 16 [none] rfl rfl rfl rfl rfl rfl fun G a w S => ?_
    refine sField (b := b4) (off := 0) 1 1 S (wN rfl) rfl rfl rfl rfl rfl (lb rfl) fun a S => ?_
    exact leafL ⟨rfl, S⟩
  refine fI 142 (.bool p3.Purl) [(141, .pointer (some ⟨b4, 1, none⟩))] 17 [some 16] rfl rfl rfl rfl rfl rfl fun G a w S => ?_
  refine sLoad1 (p := b4) (off := 1) (T := 61) (vs := [.int .u8 p3.Kind, .bool p3.Purl, iv p3.A, iv p3.B]) 1 (.bool p3.Purl) S (wN rfl) rfl rfl rfl rfl rfl rfl (lb rfl) fun a S => ?_
  exact leafL ⟨rfl, S⟩

end Go.Proofs.Yticjoiolfibmlaa
namespace Go.Proofs.Yticjoiolfibmlaa
open Go.RowKit
set_option linter.unusedVariables false

noncomputable def raddleref27_Work_l1 (p0 : api_Chart) : (Int × List api_Loop × List Int × List (Int × Int) × List Int) → Option ((Int × List api_Loop × List Int × List (Int × Int) × List Int) ⊕ (List api_Loop × List Int × List (Int × Int) × List Int)) := fun s0 => match s0 with
  | (s32, s33, s36, s39, s42) =>
    if decide (s32 < p0.Start) then
      Option.bind (F_raddleref27_Piece_put_s1 (raddleref27_Piece.mk s33 s36 s39 s42) 0 s32 ([] : (List Int)) false) fun r64 =>
      some (.inl (w64 (s32 + 1), r64.Loops, r64.Bound, r64.Cross, r64.Rows))
    else
      some (.inr (s33, s36, s39, s42))
noncomputable def raddleref27_Work_l2 (r157 : (List api_Stitch)) (s178 : Int) : (Int × List Int × Int) → Option ((Int × List Int × Int) ⊕ (Int × List Int)) := fun s0 => match s0 with
  | (s232, s233, s236) =>
    Option.bind (idxO r157 s178) fun x246 =>
    Option.bind (F_raddleref25_Used x246) fun r251 =>
    if decide (s236 < r251) then
      Option.bind (appO s233 ([s232] : List Int)) fun l258 =>
      some (.inl (w64 (s232 + 1), l258, w64 (s236 + 1)))
    else
      some (.inr (s232, s233))
noncomputable def raddleref27_Work_l3 (r157 : (List api_Stitch)) (s96 : Int) : (Int × Int × List api_Loop × List Int × List (Int × Int) × List Int) → Option ((Int × Int × List api_Loop × List Int × List (Int × Int) × List Int) ⊕ (List api_Loop × List Int × List (Int × Int) × List Int)) := fun s0 => match s0 with
  | (s177, s178, s179, s182, s185, s188) =>
    if decide (s178 < (r157.length : Int)) then
      Option.bind (α := (Int × List api_Loop × List Int × List (Int × Int) × List Int)) (
        Option.bind (α := (Int × List Int)) (
          Option.bind (whileO (raddleref27_Work_l2 r157 s178) (s177, ([] : List Int), 0)) fun (e240, e241) =>
            some (e240, e241)) fun (o225, o226) =>
        Option.bind (idxO r157 s178) fun x262 =>
        Option.bind (F_raddleref27_Piece_cell_s1 (raddleref27_Piece.mk s179 s182 s185 s188) (w64 (s96 + 1)) s178 x262 o226) fun r267 =>
        some (o225, r267.Loops, r267.Bound, r267.Cross, r267.Rows)) fun (o209, o210, o213, o216, o219) =>
      some (.inl (o209, w64 (s178 + 1), o210, o213, o216, o219))
    else
      some (.inr (s179, s182, s185, s188))
noncomputable def raddleref27_Work_l4 (p0 : api_Chart) : (Int × List api_Loop × List Int × List (Int × Int) × List Int) → Option ((Int × List api_Loop × List Int × List (Int × Int) × List Int) ⊕ (List api_Loop × List Int × List (Int × Int) × List Int)) := fun s0 => match s0 with
  | (s96, s97, s100, s103, s106) =>
    if decide (s96 < (p0.Rows.length : Int)) then
      Option.bind (α := (List api_Loop × List Int × List (Int × Int) × List Int)) (
        Option.bind (idxO s106 s96) fun x142 =>
        Option.bind (idxO p0.Rows s96) fun x148 =>
        Option.bind (F_raddleref26_Seen x148) fun r157 =>
        Option.bind (α := (List api_Loop × List Int × List (Int × Int) × List Int)) (
          Option.bind (whileO (raddleref27_Work_l3 r157 s96) (x142, 0, s97, s100, s103, s106)) fun (e194, e197, e200, e203) =>
            some (e194, e197, e200, e203)) fun (o162, o165, o168, o171) =>
        Option.bind (appO o171 ([(o162.length : Int)] : List Int)) fun l279 =>
        some (o162, o165, o168, l279)) fun (o127, o130, o133, o136) =>
      some (.inl (w64 (s96 + 1), o127, o130, o133, o136))
    else
      some (.inr (s97, s100, s103, s106))
noncomputable def F_raddleref27_Work (p0 : api_Chart) : Option raddleref27_Piece :=
  Option.bind (appO ([] : List Int) ([0] : List Int)) fun l13 =>
  Option.bind (α := (List api_Loop × List Int × List (Int × Int) × List Int)) (
    Option.bind (whileO (raddleref27_Work_l1 p0) (0, ([] : List api_Loop), ([] : List Int), ([] : List (Int × Int)), l13)) fun (e48, e51, e54, e57) =>
      some (e48, e51, e54, e57)) fun (o17, o20, o23, o26) =>
  Option.bind (appO o26 ([(o17.length : Int)] : List Int)) fun l77 =>
  Option.bind (α := (List api_Loop × List Int × List (Int × Int) × List Int)) (
    Option.bind (whileO (raddleref27_Work_l4 p0) (0, o17, o20, o23, l77)) fun (e112, e115, e118, e121) =>
      some (e112, e115, e118, e121)) fun (o81, o84, o87, o90) =>
  some (raddleref27_Piece.mk o81 o84 o87 o90)
def c_raddleref27_Work_val (r : raddleref27_Piece) (x : Value) : Value := x
def c_raddleref27_Work_D (r : raddleref27_Piece) (x : Value) : List Fact := [fRep r_raddleref27_Piece x r]
set_option maxHeartbeats 4000000 in
set_option maxRecDepth 100000 in
theorem c_raddleref27_Work (E : Nat → Prop) (w0 : World) (p0 : api_Chart) (v0 : Value) (r : raddleref27_Piece) (h : F_raddleref27_Work p0 = some r) (S : St0 E [] w0 w0 [] [fRep r_api_Chart (v0) p0]) :
    Calls Try.prog 34 #[v0] w0 (Ret (X := Value) E [] w0 (c_raddleref27_Work_val r) (fun _ => []) (c_raddleref27_Work_D r)) := by
  unfold F_raddleref27_Work at h
  obtain ⟨u1, rfl, hu2⟩ := S.know (i := 0) (e := fRep r_api_Chart (v0) p0) rfl
  have S := S.learn (fRep (rL r_api_Row) u1 p0.Rows) hu2
  obtain ⟨ad3, cp4, _, rfl, _⟩ := hu2
  refine sEnter (args := [.agg #[iv p0.Start, .slice ad3 p0.Rows.length cp4]]) 89 Try.func34 rfl rfl (by simp) S (fun a S => ?_)
  refine sSeq (fun K5 hK5 => ?_)
  refine sRegion ?_
  refine sBox (v := .agg #[iv p0.Start, .slice ad3 p0.Rows.length cp4]) S (wN rfl) rfl rfl [iv p0.Start, .slice ad3 p0.Rows.length cp4] rfl rfl (lb rfl) fun a b6 w S => ?_
  refine sAlloc (.agg #[.slice none 0 0, .slice none 0 0, .slice none 0 0, .slice none 0 0]) S (wN rfl) rfl rfl [.slice none 0 0, .slice none 0 0, .slice none 0 0, .slice none 0 0] rfl rfl (lb rfl) fun a b7 w S => ?_
  refine leafL (leafT (hK5 _ _ ?_))
  refine sSeq (fun K8 hK8 => ?_)
  refine sRegion ?_
  refine sAlloc (.agg #[.slice none 0 0, .slice none 0 0, .slice none 0 0, .slice none 0 0]) S (wN rfl) rfl rfl [.slice none 0 0, .slice none 0 0, .slice none 0 0, .slice none 0 0] rfl rfl (lb rfl) fun a b9 w S => ?_
  refine leafL (leafT (hK8 _ _ ?_))
  refine sSeq (fun K10 hK10 => ?_)
  refine sRegion ?_
  refine sField (b := b9) (off := 0) 3 3 S (wN rfl) rfl rfl rfl rfl rfl (lb rfl) fun a S => ?_
  refine sLoad1 (p := b9) (off := 3) (T := 77) (vs := [.slice none 0 0, .slice none 0 0, .slice none 0 0, .slice none 0 0]) 0 (.slice none 0 0) S (wN rfl) rfl rfl rfl rfl rfl rfl (lb rfl) fun a S => ?_
  refine sLit (r := (rI .i64)) (T := 3) (xs := ([0] : List Int)) [(0, iv 0)] 1 [iv 0] [iv 0] (iv 0) 8 S (wN rfl) rfl rfl Try.underlying32 rfl (by decide) (by decide) (by kernel_rfl) rfl (fun E1 w1 hE => All.cons rfl (All.nil _ _ _)) rfl rfl (lb rfl) fun a w ad11 cp12 S => ?_
  have S := S.nilRow (rI .i64) 3 (α := Int)
  obtain ⟨l13, hx14, h⟩ := bindSome h
  refine sApp (r := (rI .i64)) (T := 3) (xs := ([] : List Int)) (ys := ([0] : List Int)) (v := .slice none 0 0) (u := .slice ad11 ([0] : List Int).length cp12) 0 (iv 0) 8 S (wN rfl) rfl Try.underlying32 rfl rfl (by decide) rfl rfl rfl (src_R (T := 3) 1 S.mem rfl) hx14 rfl (lb rfl) fun a w ad15 cp16 S => ?_
  refine sField (b := b9) (off := 0) 3 3 S (wN rfl) rfl rfl rfl rfl rfl (lb rfl) fun a S => ?_
  refine sStore (p := b9) (off := 3) (T := 77) (vs := [.slice none 0 0, .slice none 0 0, .slice none 0 0, .slice none 0 0]) (v := .slice ad15 l13.length cp16) 2 [.slice ad15 l13.length cp16] S (wN rfl) rfl rfl rfl rfl rfl rfl rfl (by simp) rfl fun a w S => ?_
  refine leafL (leafT (hK10 _ _ ?_))
  obtain ⟨t29, h, g30⟩ := bindSome h
  refine sCut (fun a w => ∃ o17, ∃ o20, ∃ o23, ∃ o26, (o17, o20, o23, o26) = t29 ∧ ∃ ad18, ∃ cp19, ∃ ad21, ∃ cp22, ∃ ad24, ∃ cp25, ∃ ad27, ∃ cp28, St [] E [] w0 89 a w [(1, .pointer (some ⟨b6, 0, none⟩)), (2, .pointer (some ⟨b7, 0, none⟩)), (3, .pointer (some ⟨b9, 0, none⟩))] [eBox b6 24 [iv p0.Start, .slice ad3 p0.Rows.length cp4], eBox b7 77 [.slice none 0 0, .slice none 0 0, .slice none 0 0, .slice none 0 0], eBox b9 77 [.slice ad18 o17.length cp19, .slice ad21 o20.length cp22, .slice ad24 o23.length cp25, .slice ad27 o26.length cp28], eRow r_api_Loop 48 (.slice ad18 o17.length cp19) o17, eRow (rI .i64) 3 (.slice ad21 o20.length cp22) o20, eRow r_A2_Int 49 (.slice ad24 o23.length cp25) o23, eRow (rI .i64) 3 (.slice ad27 o26.length cp28) o26] [fRep (rL r_api_Row) (.slice ad3 p0.Rows.length cp4) p0.Rows]) ?_ (fun a w hI => ?_)
  · refine sSeq (fun K31 hK31 => ?_)
    refine sRegion ?_
    refine sMove (iv 0) S (wN rfl) (.inr rfl) rfl rfl (lb rfl) fun a S => ?_
    refine leafL (leafT (hK31 _ _ ?_))
    refine wp_block ?_
    have S := S.nilRow r_api_Loop 48 (α := api_Loop)
    have S := S.nilRow (rI .i64) 3 (α := Int)
    have S := S.nilRow r_A2_Int 49 (α := (Int × Int))
    obtain ⟨t47, hl, g46⟩ := bindSome h
    refine sLoop hl (fun s0 a w => match s0 with | (s32, s33, s36, s39, s42) => ∃ ad34, ∃ cp35, ∃ ad37, ∃ cp38, ∃ ad40, ∃ cp41, ∃ ad43, ∃ cp44, St [] E [] w0 89 a w [(1, .pointer (some ⟨b6, 0, none⟩)), (2, .pointer (some ⟨b7, 0, none⟩)), (3, .pointer (some ⟨b9, 0, none⟩)), (4, iv s32)] [eBox b6 24 [iv p0.Start, .slice ad3 p0.Rows.length cp4], eBox b7 77 [.slice none 0 0, .slice none 0 0, .slice none 0 0, .slice none 0 0], eBox b9 77 [.slice ad34 s33.length cp35, .slice ad37 s36.length cp38, .slice ad40 s39.length cp41, .slice ad43 s42.length cp44], eRow r_api_Loop 48 (.slice ad34 s33.length cp35) s33, eRow (rI .i64) 3 (.slice ad37 s36.length cp38) s36, eRow r_A2_Int 49 (.slice ad40 s39.length cp41) s39, eRow (rI .i64) 3 (.slice ad43 s42.length cp44) s42] [fRep (rL r_api_Row) (.slice ad3 p0.Rows.length cp4) p0.Rows]) ⟨none, 0, none, 0, none, 0, ad15, cp16, S.fix [7, 6, 3, 2, 1, 0, 4] [0] (by decide) rfl rfl rfl⟩ ?_
    clear hl h
    intro s0 a w c0 hI h hu45
    obtain ⟨s32, s33, s36, s39, s42⟩ := s0
    unfold raddleref27_Work_l1 at h
    dsimp only at h hI
    obtain ⟨ad34, cp35, ad37, cp38, ad40, cp41, ad43, cp44, S⟩ := hI
    refine sSeq (fun K60 hK60 => ?_)
    refine sSeq (fun K61 hK61 => ?_)
    refine sRegion ?_
    refine sMove (iv s32) S (wN rfl) (.inl rfl) rfl rfl (lb rfl) fun a S => ?_
    refine sField (b := b6) (off := 0) 0 0 S (wN rfl) rfl rfl rfl rfl rfl (lb rfl) fun a S => ?_
    refine sLoad1 (p := b6) (off := 0) (T := 24) (vs := [iv p0.Start, .slice ad3 p0.Rows.length cp4]) 0 (iv p0.Start) S (wN rfl) rfl rfl rfl rfl rfl rfl (lb rfl) fun a S => ?_
    refine sBin (.bool (decide (s32 < p0.Start))) S (wN rfl) rfl rfl rfl (bLt _ _ _ _ .i64 s32 p0.Start) rfl (lb rfl) fun a S => ?_
    refine leafL (leafT (hK61 _ _ ?_))
    rcases iteSome h with ⟨hc62, h⟩ | ⟨hc62, h⟩
    rotate_left
    · refine sCondF S rfl hc62 ?_
      obtain rfl := Option.some.inj h
      obtain rfl := hu45 _ rfl
      have h := g46
      clear g46
      try dsimp only at h
      exact wp_exit (xThen (xThen (xHit (leafT (⟨s33, s36, s39, s42, Option.some.inj h, ad34, cp35, ad37, cp38, ad40, cp41, ad43, cp44, S.fix [0, 1, 2, 3, 4, 5, 6] [0] (by decide) rfl rfl rfl⟩)))))
    refine sCondT S rfl hc62 ?_
    refine wp_skip (leafT (hK60 _ _ ?_))
    refine sSeq (fun K63 hK63 => ?_)
    refine wp_block ?_
    refine sRegion ?_
    refine sMove (iv s32) S (wN rfl) (.inl rfl) rfl rfl (lb rfl) fun a S => ?_
    obtain ⟨r64, hx65, h⟩ := bindSome h
    have S := S.learn (fRep (rL (rI .i64)) (.slice none 0 0) ([] : (List Int))) (rL_nil _ _ _)
    refine sCall (X := Option Addr × Nat × Option Addr × Nat × Option Addr × Nat × Option Addr × Nat) (f := 45) (vs := [.pointer (some ⟨b9, 0, none⟩), iv 0, iv s32, .slice none 0 0, .bool false]) (val := fun _ => .tuple #[]) (B' := fun x => [eBox b9 77 [.slice x.1 r64.Loops.length x.2.1, .slice x.2.2.1 r64.Bound.length x.2.2.2.1, .slice x.2.2.2.2.1 r64.Cross.length x.2.2.2.2.2.1, .slice x.2.2.2.2.2.2.1 r64.Rows.length x.2.2.2.2.2.2.2], eRow r_api_Loop 48 (.slice x.1 r64.Loops.length x.2.1) r64.Loops, eRow (rI .i64) 3 (.slice x.2.2.1 r64.Bound.length x.2.2.2.1) r64.Bound, eRow r_A2_Int 49 (.slice x.2.2.2.2.1 r64.Cross.length x.2.2.2.2.2.1) r64.Cross, eRow (rI .i64) 3 (.slice x.2.2.2.2.2.2.1 r64.Rows.length x.2.2.2.2.2.2.2) r64.Rows]) (D' := fun _ => []) [eBox b9 77 [.slice ad34 s33.length cp35, .slice ad37 s36.length cp38, .slice ad40 s39.length cp41, .slice ad43 s42.length cp44], eRow r_api_Loop 48 (.slice ad34 s33.length cp35) s33, eRow (rI .i64) 3 (.slice ad37 s36.length cp38) s36, eRow r_A2_Int 49 (.slice ad40 s39.length cp41) s39, eRow (rI .i64) 3 (.slice ad43 s42.length cp44) s42] [eBox b6 24 [iv p0.Start, .slice ad3 p0.Rows.length cp4], eBox b7 77 [.slice none 0 0, .slice none 0 0, .slice none 0 0, .slice none 0 0]] [fRep (rL (rI .i64)) (.slice none 0 0) ([] : (List Int))] [2, 3, 4, 5, 6, 0, 1] [0] S (wN rfl) rfl callee45 rfl (by decide) rfl rfl (fun E1 w1 S1 => c_raddleref27_Piece_put_s1 E1 w1 (raddleref27_Piece.mk s33 s36 s39 s42) b9 ad34 cp35 ad37 cp38 ad40 cp41 ad43 cp44 0 s32 ([] : (List Int)) (.slice none 0 0) false r64 hx65 S1) rfl (lb rfl) fun xx a w S => ?_
    obtain ⟨ad66, cp67, ad68, cp69, ad70, cp71, ad72, cp73⟩ := xx
    dsimp only at S
    refine leafL (leafB (leafT (hK63 _ _ ?_)))
    refine sRegion ?_
    refine sMove (iv s32) S (wN rfl) (.inl rfl) rfl rfl (lb rfl) fun a S => ?_
    refine sBin (iv (w64 (s32 + 1))) S (wN rfl) rfl rfl rfl (bAdd _ _ _ _ s32 1) rfl (lb rfl) fun a S => ?_
    refine sMove (iv (w64 (s32 + 1))) S (wN rfl) (.inr rfl) rfl rfl (lb rfl) fun a S => ?_
    exact leafL (leafT (⟨(w64 (s32 + 1), r64.Loops, r64.Bound, r64.Cross, r64.Rows), (Option.some.inj h).symm, ⟨ad66, cp67, ad68, cp69, ad70, cp71, ad72, cp73, S.fix [5, 6, 0, 1, 2, 3, 4] [1] (by decide) rfl rfl rfl⟩⟩))
  obtain ⟨o17, o20, o23, o26, rfl, ad18, cp19, ad21, cp22, ad24, cp25, ad27, cp28, S⟩ := hI
  have h := g30
  clear g30
  try dsimp only at h
  refine sSeq (fun K74 hK74 => ?_)
  refine sRegion ?_
  refine sField (b := b9) (off := 0) 3 3 S (wN rfl) rfl rfl rfl rfl rfl (lb rfl) fun a S => ?_
  refine sLoad1 (p := b9) (off := 3) (T := 77) (vs := [.slice ad18 o17.length cp19, .slice ad21 o20.length cp22, .slice ad24 o23.length cp25, .slice ad27 o26.length cp28]) 2 (.slice ad27 o26.length cp28) S (wN rfl) rfl rfl rfl rfl rfl rfl (lb rfl) fun a S => ?_
  refine sField (b := b9) (off := 0) 0 0 S (wN rfl) rfl rfl rfl rfl rfl (lb rfl) fun a S => ?_
  refine sLoad1 (p := b9) (off := 0) (T := 77) (vs := [.slice ad18 o17.length cp19, .slice ad21 o20.length cp22, .slice ad24 o23.length cp25, .slice ad27 o26.length cp28]) 2 (.slice ad18 o17.length cp19) S (wN rfl) rfl rfl rfl rfl rfl rfl (lb rfl) fun a S => ?_
  refine sLen (ad := ad18) (m := o17.length) (c := cp19) S (wN rfl) rfl Try.underlying26 rfl rfl (lb rfl) fun a S => ?_
  refine sLit (r := (rI .i64)) (T := 3) (xs := ([(o17.length : Int)] : List Int)) [(0, iv (o17.length : Int))] 1 [iv (o17.length : Int)] [iv (o17.length : Int)] (iv 0) 8 S (wN rfl) rfl rfl Try.underlying32 rfl (by decide) (by decide) (by kernel_rfl) rfl (fun E1 w1 hE => All.cons rfl (All.nil _ _ _)) rfl rfl (lb rfl) fun a w ad75 cp76 S => ?_
  obtain ⟨l77, hx78, h⟩ := bindSome h
  refine sApp (r := (rI .i64)) (T := 3) (xs := o26) (ys := ([(o17.length : Int)] : List Int)) (v := .slice ad27 o26.length cp28) (u := .slice ad75 ([(o17.length : Int)] : List Int).length cp76) 7 (iv 0) 8 S (wN rfl) rfl Try.underlying32 rfl rfl (by decide) rfl rfl rfl (src_R (T := 3) 0 S.mem rfl) hx78 rfl (lb rfl) fun a w ad79 cp80 S => ?_
  refine sField (b := b9) (off := 0) 3 3 S (wN rfl) rfl rfl rfl rfl rfl (lb rfl) fun a S => ?_
  refine sStore (p := b9) (off := 3) (T := 77) (vs := [.slice ad18 o17.length cp19, .slice ad21 o20.length cp22, .slice ad24 o23.length cp25, .slice ad27 o26.length cp28]) (v := .slice ad79 l77.length cp80) 4 [.slice ad79 l77.length cp80] S (wN rfl) rfl rfl rfl rfl rfl rfl rfl (by simp) rfl fun a w S => ?_
  refine leafL (leafT (hK74 _ _ ?_))
  obtain ⟨t93, h, g94⟩ := bindSome h
  refine sCut (fun a w => ∃ o81, ∃ o84, ∃ o87, ∃ o90, (o81, o84, o87, o90) = t93 ∧ ∃ ad82, ∃ cp83, ∃ ad85, ∃ cp86, ∃ ad88, ∃ cp89, ∃ ad91, ∃ cp92, St [] E [] w0 89 a w [(2, .pointer (some ⟨b7, 0, none⟩)), (3, .pointer (some ⟨b9, 0, none⟩))] [eBox b7 77 [.slice none 0 0, .slice none 0 0, .slice none 0 0, .slice none 0 0], eBox b9 77 [.slice ad82 o81.length cp83, .slice ad85 o84.length cp86, .slice ad88 o87.length cp89, .slice ad91 o90.length cp92], eRow r_api_Loop 48 (.slice ad82 o81.length cp83) o81, eRow (rI .i64) 3 (.slice ad85 o84.length cp86) o84, eRow r_A2_Int 49 (.slice ad88 o87.length cp89) o87, eRow (rI .i64) 3 (.slice ad91 o90.length cp92) o90] []) ?_ (fun a w hI => ?_)
  rotate_left
  · obtain ⟨o81, o84, o87, o90, rfl, ad82, cp83, ad85, cp86, ad88, cp89, ad91, cp92, S⟩ := hI
    have h := g94
    clear g94
    try dsimp only at h
    refine sSeq (fun K283 hK283 => ?_)
    refine sRegion ?_
    refine sLoadN (p := b9) (off := 0) (T := 77) (vs := [.slice ad82 o81.length cp83, .slice ad85 o84.length cp86, .slice ad88 o87.length cp89, .slice ad91 o90.length cp92]) 1 [.slice ad82 o81.length cp83, .slice ad85 o84.length cp86, .slice ad88 o87.length cp89, .slice ad91 o90.length cp92] S (wN rfl) rfl rfl rfl rfl rfl rfl rfl (lb rfl) fun a S => ?_
    refine sStore (p := b7) (off := 0) (T := 77) (vs := [.slice none 0 0, .slice none 0 0, .slice none 0 0, .slice none 0 0]) (v := .agg #[.slice ad82 o81.length cp83, .slice ad85 o84.length cp86, .slice ad88 o87.length cp89, .slice ad91 o90.length cp92]) 0 [.slice ad82 o81.length cp83, .slice ad85 o84.length cp86, .slice ad88 o87.length cp89, .slice ad91 o90.length cp92] S (wN rfl) rfl rfl rfl rfl rfl rfl rfl (by simp) rfl fun a w S => ?_
    refine leafL (leafT (hK283 _ _ ?_))
    obtain rfl := Option.some.inj h
    have S := S.shutR (r := r_api_Loop) (T := 48) (v := .slice ad82 o81.length cp83) (xs := o81) 2 rfl
    have S := S.shutR (r := (rI .i64)) (T := 3) (v := .slice ad85 o84.length cp86) (xs := o84) 2 rfl
    have S := S.shutR (r := r_A2_Int) (T := 49) (v := .slice ad88 o87.length cp89) (xs := o87) 2 rfl
    have S := S.shutR (r := (rI .i64)) (T := 3) (v := .slice ad91 o90.length cp92) (xs := o90) 2 rfl
    have S := S.learn (fRep r_raddleref27_Piece (.agg #[.slice ad82 o81.length cp83, .slice ad85 o84.length cp86, .slice ad88 o87.length cp89, .slice ad91 o90.length cp92]) (raddleref27_Piece.mk o81 o84 o87 o90)) ⟨_, _, _, _, rfl, S.mem.know (i := 3) (e := fRep (rL r_api_Loop) (.slice ad82 o81.length cp83) o81) rfl, S.mem.know (i := 2) (e := fRep (rL (rI .i64)) (.slice ad85 o84.length cp86) o84) rfl, S.mem.know (i := 1) (e := fRep (rL r_A2_Int) (.slice ad88 o87.length cp89) o87) rfl, S.mem.know (i := 0) (e := fRep (rL (rI .i64)) (.slice ad91 o90.length cp92) o90) rfl⟩
    exact wp_ret (sRet (.agg #[.slice ad82 o81.length cp83, .slice ad85 o84.length cp86, .slice ad88 o87.length cp89, .slice ad91 o90.length cp92]) S (rsl1 rfl (rvN (c := 2) (t := 77) (T := 77) (p := b7) 0 [.slice ad82 o81.length cp83, .slice ad85 o84.length cp86, .slice ad88 o87.length cp89, .slice ad91 o90.length cp92] S rfl rfl rfl rfl)) ⟨(.agg #[.slice ad82 o81.length cp83, .slice ad85 o84.length cp86, .slice ad88 o87.length cp89, .slice ad91 o90.length cp92]), rfl, S.mem.sel [] [0] (by decide) rfl rfl⟩)
  refine sSeq (fun K95 hK95 => ?_)
  refine sRegion ?_
  refine sMove (iv 0) S (wN rfl) (.inr rfl) rfl rfl (lb rfl) fun a S => ?_
  refine leafL (leafT (hK95 _ _ ?_))
  refine wp_block ?_
  obtain ⟨t111, hl, g110⟩ := bindSome h
  refine sLoop hl (fun s0 a w => match s0 with | (s96, s97, s100, s103, s106) => ∃ ad98, ∃ cp99, ∃ ad101, ∃ cp102, ∃ ad104, ∃ cp105, ∃ ad107, ∃ cp108, St [] E [] w0 89 a w [(1, .pointer (some ⟨b6, 0, none⟩)), (2, .pointer (some ⟨b7, 0, none⟩)), (3, .pointer (some ⟨b9, 0, none⟩)), (5, iv s96)] [eBox b6 24 [iv p0.Start, .slice ad3 p0.Rows.length cp4], eBox b7 77 [.slice none 0 0, .slice none 0 0, .slice none 0 0, .slice none 0 0], eBox b9 77 [.slice ad98 s97.length cp99, .slice ad101 s100.length cp102, .slice ad104 s103.length cp105, .slice ad107 s106.length cp108], eRow r_api_Loop 48 (.slice ad98 s97.length cp99) s97, eRow (rI .i64) 3 (.slice ad101 s100.length cp102) s100, eRow r_A2_Int 49 (.slice ad104 s103.length cp105) s103, eRow (rI .i64) 3 (.slice ad107 s106.length cp108) s106] [fRep (rL r_api_Row) (.slice ad3 p0.Rows.length cp4) p0.Rows]) ⟨ad18, cp19, ad21, cp22, ad24, cp25, ad79, cp80, S.fix [3, 4, 0, 5, 6, 7, 1] [0] (by decide) rfl rfl rfl⟩ ?_
  clear hl h
  intro s0 a w c0 hI h hu109
  obtain ⟨s96, s97, s100, s103, s106⟩ := s0
  unfold raddleref27_Work_l4 at h
  dsimp only at h hI
  obtain ⟨ad98, cp99, ad101, cp102, ad104, cp105, ad107, cp108, S⟩ := hI
  refine sSeq (fun K124 hK124 => ?_)
  refine sSeq (fun K125 hK125 => ?_)
  refine sRegion ?_
  refine sMove (iv s96) S (wN rfl) (.inl rfl) rfl rfl (lb rfl) fun a S => ?_
  refine sField (b := b6) (off := 0) 1 1 S (wN rfl) rfl rfl rfl rfl rfl (lb rfl) fun a S => ?_
  refine sLoad1 (p := b6) (off := 1) (T := 24) (vs := [iv p0.Start, .slice ad3 p0.Rows.length cp4]) 0 (.slice ad3 p0.Rows.length cp4) S (wN rfl) rfl rfl rfl rfl rfl rfl (lb rfl) fun a S => ?_
  refine sLen (ad := ad3) (m := p0.Rows.length) (c := cp4) S (wN rfl) rfl Try.underlying22 rfl rfl (lb rfl) fun a S => ?_
  refine sBin (.bool (decide (s96 < (p0.Rows.length : Int)))) S (wN rfl) rfl rfl rfl (bLt _ _ _ _ .i64 s96 (p0.Rows.length : Int)) rfl (lb rfl) fun a S => ?_
  refine leafL (leafT (hK125 _ _ ?_))
  rcases iteSome h with ⟨hc126, h⟩ | ⟨hc126, h⟩
  rotate_left
  · refine sCondF S rfl hc126 ?_
    obtain rfl := Option.some.inj h
    obtain rfl := hu109 _ rfl
    have h := g110
    clear g110
    try dsimp only at h
    exact wp_exit (xThen (xThen (xHit (leafT (⟨s97, s100, s103, s106, Option.some.inj h, ad98, cp99, ad101, cp102, ad104, cp105, ad107, cp108, S.fix [1, 2, 3, 4, 5, 6] [] (by decide) rfl rfl rfl⟩)))))
  refine sCondT S rfl hc126 ?_
  refine wp_skip (leafT (hK124 _ _ ?_))
  obtain ⟨t139, h, g140⟩ := bindSome h
  refine sCut (fun a w => ∃ o127, ∃ o130, ∃ o133, ∃ o136, (o127, o130, o133, o136) = t139 ∧ ∃ ad128, ∃ cp129, ∃ ad131, ∃ cp132, ∃ ad134, ∃ cp135, ∃ ad137, ∃ cp138, St [] E [] w0 89 a w [(1, .pointer (some ⟨b6, 0, none⟩)), (2, .pointer (some ⟨b7, 0, none⟩)), (3, .pointer (some ⟨b9, 0, none⟩)), (5, iv s96)] [eBox b6 24 [iv p0.Start, .slice ad3 p0.Rows.length cp4], eBox b7 77 [.slice none 0 0, .slice none 0 0, .slice none 0 0, .slice none 0 0], eBox b9 77 [.slice ad128 o127.length cp129, .slice ad131 o130.length cp132, .slice ad134 o133.length cp135, .slice ad137 o136.length cp138], eRow r_api_Loop 48 (.slice ad128 o127.length cp129) o127, eRow (rI .i64) 3 (.slice ad131 o130.length cp132) o130, eRow r_A2_Int 49 (.slice ad134 o133.length cp135) o133, eRow (rI .i64) 3 (.slice ad137 o136.length cp138) o136] [fRep (rL r_api_Row) (.slice ad3 p0.Rows.length cp4) p0.Rows]) ?_ (fun a w hI => ?_)
  rotate_left
  · obtain ⟨o127, o130, o133, o136, rfl, ad128, cp129, ad131, cp132, ad134, cp135, ad137, cp138, S⟩ := hI
    have h := g140
    clear g140
    try dsimp only at h
    refine sRegion ?_
    refine sMove (iv s96) S (wN rfl) (.inl rfl) rfl rfl (lb rfl) fun a S => ?_
    refine sBin (iv (w64 (s96 + 1))) S (wN rfl) rfl rfl rfl (bAdd _ _ _ _ s96 1) rfl (lb rfl) fun a S => ?_
    refine sMove (iv (w64 (s96 + 1))) S (wN rfl) (.inr rfl) rfl rfl (lb rfl) fun a S => ?_
    exact leafL (leafT (⟨(w64 (s96 + 1), o127, o130, o133, o136), (Option.some.inj h).symm, ⟨ad128, cp129, ad131, cp132, ad134, cp135, ad137, cp138, S.fix [0, 1, 2, 3, 4, 5, 6] [0] (by decide) rfl rfl rfl⟩⟩))
  refine wp_block ?_
  refine sSeq (fun K141 hK141 => ?_)
  refine sRegion ?_
  refine sField (b := b9) (off := 0) 3 3 S (wN rfl) rfl rfl rfl rfl rfl (lb rfl) fun a S => ?_
  refine sLoad1 (p := b9) (off := 3) (T := 77) (vs := [.slice ad98 s97.length cp99, .slice ad101 s100.length cp102, .slice ad104 s103.length cp105, .slice ad107 s106.length cp108]) 2 (.slice ad107 s106.length cp108) S (wN rfl) rfl rfl rfl rfl rfl rfl (lb rfl) fun a S => ?_
  refine sMove (iv s96) S (wN rfl) (.inl rfl) rfl rfl (lb rfl) fun a S => ?_
  obtain ⟨x142, hx143, h⟩ := bindSome h
  obtain ⟨q144, hq145, hp146⟩ := pIdxR (P := Try.prog) (r := (rI .i64)) (T := 3) (v := .slice ad107 s106.length cp108) (xs := s106) (j := s96) 32 3 6 S Try.underlying32 rfl rfl hx143
  refine sIdxV (v := .slice ad107 s106.length cp108) (k := .i64) (j := s96) S (wN rfl) rfl rfl rfl hq145 rfl (lb rfl) fun a S => ?_
  refine sLoadR (r := (rI .i64)) (T := 3) (xs := s106) (x := x142) (v := .slice ad107 s106.length cp108) (vq := q144) (j := s96) 6 (iv x142) S hp146 (wN rfl) rfl rfl rfl hx143 (fun _ _ _ h => h) (scal_I _) rfl rfl (lb rfl) fun a S => ?_
  refine sMove (iv x142) S (wN rfl) (.inr rfl) rfl rfl (lb rfl) fun a S => ?_
  refine leafL (leafT (hK141 _ _ ?_))
  refine sSeq (fun K147 hK147 => ?_)
  refine sRegion ?_
  refine sField (b := b6) (off := 0) 1 1 S (wN rfl) rfl rfl rfl rfl rfl (lb rfl) fun a S => ?_
  refine sLoad1 (p := b6) (off := 1) (T := 24) (vs := [iv p0.Start, .slice ad3 p0.Rows.length cp4]) 0 (.slice ad3 p0.Rows.length cp4) S (wN rfl) rfl rfl rfl rfl rfl rfl (lb rfl) fun a S => ?_
  refine sMove (iv s96) S (wN rfl) (.inl rfl) rfl rfl (lb rfl) fun a S => ?_
  obtain ⟨x148, hx149, h⟩ := bindSome h
  obtain ⟨q150, hq151, S⟩ := pIdx (P := Try.prog) (r := r_api_Row) (v := .slice ad3 p0.Rows.length cp4) (xs := p0.Rows) (j := s96) 22 65 0 S Try.underlying22 rfl rfl hx149
  refine sIdxV (v := .slice ad3 p0.Rows.length cp4) (k := .i64) (j := s96) S (wN rfl) rfl rfl rfl hq151 rfl (lb rfl) fun a S => ?_
  obtain ⟨u152, S⟩ := pLoad (r := r_api_Row) (q := q150) (x := x148) 0 S rfl
  obtain ⟨u153, rfl, hu154⟩ := S.mem.know (i := 1) (e := fRep r_api_Row (u152) x148) rfl
  have S := S.learn (fRep (rL r_api_Stitch) u153 x148.Cells) hu154
  obtain ⟨ad155, cp156, _, rfl, _⟩ := hu154
  refine sLoadVN (vq := q150) 1 [.bool x148.Back, .slice ad155 x148.Cells.length cp156] S (wN rfl) rfl rfl rfl rfl rfl rfl (lb rfl) fun a S => ?_
  obtain ⟨r157, hx158, h⟩ := bindSome h
  refine sCall (X := Value) (f := 28) (vs := [.agg #[.bool x148.Back, .slice ad155 x148.Cells.length cp156]]) (val := c_raddleref26_Seen_val r157) (B' := fun _ => []) (D' := c_raddleref26_Seen_D r157) [] [eBox b6 24 [iv p0.Start, .slice ad3 p0.Rows.length cp4], eBox b7 77 [.slice none 0 0, .slice none 0 0, .slice none 0 0, .slice none 0 0], eBox b9 77 [.slice ad98 s97.length cp99, .slice ad101 s100.length cp102, .slice ad104 s103.length cp105, .slice ad107 s106.length cp108], eRow r_api_Loop 48 (.slice ad98 s97.length cp99) s97, eRow (rI .i64) 3 (.slice ad101 s100.length cp102) s100, eRow r_A2_Int 49 (.slice ad104 s103.length cp105) s103, eRow (rI .i64) 3 (.slice ad107 s106.length cp108) s106] [fRep r_api_Row (.agg #[.bool x148.Back, .slice ad155 x148.Cells.length cp156]) x148] [0, 1, 2, 3, 4, 5, 6] [2] S (wN rfl) rfl callee28 rfl (by decide) rfl rfl (fun E1 w1 S1 => c_raddleref26_Seen E1 w1 x148 (.agg #[.bool x148.Back, .slice ad155 x148.Cells.length cp156]) r157 hx158 S1) rfl (lb rfl) fun u159 a w S => ?_
  obtain ⟨ad160, cp161, _, rfl, _⟩ := S.mem.know (i := 0) (e := fRep (rL r_api_Stitch) (u159) r157) rfl
  refine sMove (.slice ad160 r157.length cp161) S (wN rfl) (.inr rfl) rfl rfl (lb rfl) fun a S => ?_
  refine leafL (leafT (hK147 _ _ ?_))
  obtain ⟨t174, h, g175⟩ := bindSome h
  refine sCut (fun a w => ∃ o162, ∃ o165, ∃ o168, ∃ o171, (o162, o165, o168, o171) = t174 ∧ ∃ ad163, ∃ cp164, ∃ ad166, ∃ cp167, ∃ ad169, ∃ cp170, ∃ ad172, ∃ cp173, St [] E [] w0 89 a w [(1, .pointer (some ⟨b6, 0, none⟩)), (2, .pointer (some ⟨b7, 0, none⟩)), (3, .pointer (some ⟨b9, 0, none⟩)), (5, iv s96)] [eBox b6 24 [iv p0.Start, .slice ad3 p0.Rows.length cp4], eBox b7 77 [.slice none 0 0, .slice none 0 0, .slice none 0 0, .slice none 0 0], eBox b9 77 [.slice ad163 o162.length cp164, .slice ad166 o165.length cp167, .slice ad169 o168.length cp170, .slice ad172 o171.length cp173], eRow r_api_Loop 48 (.slice ad163 o162.length cp164) o162, eRow (rI .i64) 3 (.slice ad166 o165.length cp167) o165, eRow r_A2_Int 49 (.slice ad169 o168.length cp170) o168, eRow (rI .i64) 3 (.slice ad172 o171.length cp173) o171] [fRep (rL r_api_Row) (.slice ad3 p0.Rows.length cp4) p0.Rows]) ?_ (fun a w hI => ?_)
  rotate_left
  · obtain ⟨o162, o165, o168, o171, rfl, ad163, cp164, ad166, cp167, ad169, cp170, ad172, cp173, S⟩ := hI
    have h := g175
    clear g175
    try dsimp only at h
    refine sRegion ?_
    refine sField (b := b9) (off := 0) 3 3 S (wN rfl) rfl rfl rfl rfl rfl (lb rfl) fun a S => ?_
    refine sLoad1 (p := b9) (off := 3) (T := 77) (vs := [.slice ad163 o162.length cp164, .slice ad166 o165.length cp167, .slice ad169 o168.length cp170, .slice ad172 o171.length cp173]) 2 (.slice ad172 o171.length cp173) S (wN rfl) rfl rfl rfl rfl rfl rfl (lb rfl) fun a S => ?_
    refine sField (b := b9) (off := 0) 0 0 S (wN rfl) rfl rfl rfl rfl rfl (lb rfl) fun a S => ?_
    refine sLoad1 (p := b9) (off := 0) (T := 77) (vs := [.slice ad163 o162.length cp164, .slice ad166 o165.length cp167, .slice ad169 o168.length cp170, .slice ad172 o171.length cp173]) 2 (.slice ad163 o162.length cp164) S (wN rfl) rfl rfl rfl rfl rfl rfl (lb rfl) fun a S => ?_
    refine sLen (ad := ad163) (m := o162.length) (c := cp164) S (wN rfl) rfl Try.underlying26 rfl rfl (lb rfl) fun a S => ?_
    refine sLit (r := (rI .i64)) (T := 3) (xs := ([(o162.length : Int)] : List Int)) [(0, iv (o162.length : Int))] 1 [iv (o162.length : Int)] [iv (o162.length : Int)] (iv 0) 8 S (wN rfl) rfl rfl Try.underlying32 rfl (by decide) (by decide) (by kernel_rfl) rfl (fun E1 w1 hE => All.cons rfl (All.nil _ _ _)) rfl rfl (lb rfl) fun a w ad277 cp278 S => ?_
    obtain ⟨l279, hx280, h⟩ := bindSome h
    refine sApp (r := (rI .i64)) (T := 3) (xs := o171) (ys := ([(o162.length : Int)] : List Int)) (v := .slice ad172 o171.length cp173) (u := .slice ad277 ([(o162.length : Int)] : List Int).length cp278) 7 (iv 0) 8 S (wN rfl) rfl Try.underlying32 rfl rfl (by decide) rfl rfl rfl (src_R (T := 3) 0 S.mem rfl) hx280 rfl (lb rfl) fun a w ad281 cp282 S => ?_
    refine sField (b := b9) (off := 0) 3 3 S (wN rfl) rfl rfl rfl rfl rfl (lb rfl) fun a S => ?_
    refine sStore (p := b9) (off := 3) (T := 77) (vs := [.slice ad163 o162.length cp164, .slice ad166 o165.length cp167, .slice ad169 o168.length cp170, .slice ad172 o171.length cp173]) (v := .slice ad281 l279.length cp282) 4 [.slice ad281 l279.length cp282] S (wN rfl) rfl rfl rfl rfl rfl rfl rfl (by simp) rfl fun a w S => ?_
    exact leafL (leafB (leafT (⟨o162, o165, o168, l279, Option.some.inj h, ad163, cp164, ad166, cp167, ad169, cp170, ad281, cp282, S.fix [3, 4, 0, 5, 6, 7, 1] [0] (by decide) rfl rfl rfl⟩)))
  refine sSeq (fun K176 hK176 => ?_)
  refine sRegion ?_
  refine sMove (iv 0) S (wN rfl) (.inr rfl) rfl rfl (lb rfl) fun a S => ?_
  refine leafL (leafT (hK176 _ _ ?_))
  refine wp_block ?_
  obtain ⟨t193, hl, g192⟩ := bindSome h
  refine sLoop hl (fun s0 a w => match s0 with | (s177, s178, s179, s182, s185, s188) => ∃ ad180, ∃ cp181, ∃ ad183, ∃ cp184, ∃ ad186, ∃ cp187, ∃ ad189, ∃ cp190, St [] E [] w0 89 a w [(1, .pointer (some ⟨b6, 0, none⟩)), (2, .pointer (some ⟨b7, 0, none⟩)), (3, .pointer (some ⟨b9, 0, none⟩)), (5, iv s96), (6, iv s177), (7, .slice ad160 r157.length cp161), (8, iv s178)] [eBox b6 24 [iv p0.Start, .slice ad3 p0.Rows.length cp4], eBox b7 77 [.slice none 0 0, .slice none 0 0, .slice none 0 0, .slice none 0 0], eBox b9 77 [.slice ad180 s179.length cp181, .slice ad183 s182.length cp184, .slice ad186 s185.length cp187, .slice ad189 s188.length cp190], eRow r_api_Loop 48 (.slice ad180 s179.length cp181) s179, eRow (rI .i64) 3 (.slice ad183 s182.length cp184) s182, eRow r_A2_Int 49 (.slice ad186 s185.length cp187) s185, eRow (rI .i64) 3 (.slice ad189 s188.length cp190) s188] [fRep (rL r_api_Stitch) (.slice ad160 r157.length cp161) r157, fRep (rL r_api_Row) (.slice ad3 p0.Rows.length cp4) p0.Rows]) ⟨ad98, cp99, ad101, cp102, ad104, cp105, ad107, cp108, S.fix [0, 1, 2, 3, 4, 5, 6] [0, 5] (by decide) rfl rfl rfl⟩ ?_
  clear hl h
  intro s0 a w c0 hI h hu191
  obtain ⟨s177, s178, s179, s182, s185, s188⟩ := s0
  unfold raddleref27_Work_l3 at h
  dsimp only at h hI
  obtain ⟨ad180, cp181, ad183, cp184, ad186, cp187, ad189, cp190, S⟩ := hI
  refine sSeq (fun K206 hK206 => ?_)
  refine sSeq (fun K207 hK207 => ?_)
  refine sRegion ?_
  refine sMove (iv s178) S (wN rfl) (.inl rfl) rfl rfl (lb rfl) fun a S => ?_
  refine sMove (.slice ad160 r157.length cp161) S (wN rfl) (.inl rfl) rfl rfl (lb rfl) fun a S => ?_
  refine sLen (ad := ad160) (m := r157.length) (c := cp161) S (wN rfl) rfl Try.underlying62 rfl rfl (lb rfl) fun a S => ?_
  refine sBin (.bool (decide (s178 < (r157.length : Int)))) S (wN rfl) rfl rfl rfl (bLt _ _ _ _ .i64 s178 (r157.length : Int)) rfl (lb rfl) fun a S => ?_
  refine leafL (leafT (hK207 _ _ ?_))
  rcases iteSome h with ⟨hc208, h⟩ | ⟨hc208, h⟩
  rotate_left
  · refine sCondF S rfl hc208 ?_
    obtain rfl := Option.some.inj h
    obtain rfl := hu191 _ rfl
    have h := g192
    clear g192
    try dsimp only at h
    exact wp_exit (xThen (xThen (xHit (leafT (⟨s179, s182, s185, s188, Option.some.inj h, ad180, cp181, ad183, cp184, ad186, cp187, ad189, cp190, S.fix [0, 1, 2, 3, 4, 5, 6] [1] (by decide) rfl rfl rfl⟩)))))
  refine sCondT S rfl hc208 ?_
  refine wp_skip (leafT (hK206 _ _ ?_))
  obtain ⟨t222, h, g223⟩ := bindSome h
  refine sCut (fun a w => ∃ o209, ∃ o210, ∃ o213, ∃ o216, ∃ o219, (o209, o210, o213, o216, o219) = t222 ∧ ∃ ad211, ∃ cp212, ∃ ad214, ∃ cp215, ∃ ad217, ∃ cp218, ∃ ad220, ∃ cp221, St [] E [] w0 89 a w [(1, .pointer (some ⟨b6, 0, none⟩)), (2, .pointer (some ⟨b7, 0, none⟩)), (3, .pointer (some ⟨b9, 0, none⟩)), (5, iv s96), (6, iv o209), (7, .slice ad160 r157.length cp161), (8, iv s178)] [eBox b6 24 [iv p0.Start, .slice ad3 p0.Rows.length cp4], eBox b7 77 [.slice none 0 0, .slice none 0 0, .slice none 0 0, .slice none 0 0], eBox b9 77 [.slice ad211 o210.length cp212, .slice ad214 o213.length cp215, .slice ad217 o216.length cp218, .slice ad220 o219.length cp221], eRow r_api_Loop 48 (.slice ad211 o210.length cp212) o210, eRow (rI .i64) 3 (.slice ad214 o213.length cp215) o213, eRow r_A2_Int 49 (.slice ad217 o216.length cp218) o216, eRow (rI .i64) 3 (.slice ad220 o219.length cp221) o219] [fRep (rL r_api_Stitch) (.slice ad160 r157.length cp161) r157, fRep (rL r_api_Row) (.slice ad3 p0.Rows.length cp4) p0.Rows]) ?_ (fun a w hI => ?_)
  rotate_left
  · obtain ⟨o209, o210, o213, o216, o219, rfl, ad211, cp212, ad214, cp215, ad217, cp218, ad220, cp221, S⟩ := hI
    have h := g223
    clear g223
    try dsimp only at h
    refine sRegion ?_
    refine sMove (iv s178) S (wN rfl) (.inl rfl) rfl rfl (lb rfl) fun a S => ?_
    refine sBin (iv (w64 (s178 + 1))) S (wN rfl) rfl rfl rfl (bAdd _ _ _ _ s178 1) rfl (lb rfl) fun a S => ?_
    refine sMove (iv (w64 (s178 + 1))) S (wN rfl) (.inr rfl) rfl rfl (lb rfl) fun a S => ?_
    exact leafL (leafT (⟨(o209, w64 (s178 + 1), o210, o213, o216, o219), (Option.some.inj h).symm, ⟨ad211, cp212, ad214, cp215, ad217, cp218, ad220, cp221, S.fix [0, 1, 2, 3, 4, 5, 6] [0, 1] (by decide) rfl rfl rfl⟩⟩))
  refine wp_block ?_
  refine sSeq (fun K224 hK224 => ?_)
  refine sRegion ?_
  refine sMove (.slice none 0 0) S (wN rfl) (.inr rfl) rfl rfl (lb rfl) fun a S => ?_
  refine leafL (leafT (hK224 _ _ ?_))
  obtain ⟨t229, h, g230⟩ := bindSome h
  refine sCut (fun a w => ∃ o225, ∃ o226, (o225, o226) = t229 ∧ ∃ ad227, ∃ cp228, St [] E [] w0 89 a w [(1, .pointer (some ⟨b6, 0, none⟩)), (2, .pointer (some ⟨b7, 0, none⟩)), (3, .pointer (some ⟨b9, 0, none⟩)), (5, iv s96), (6, iv o225), (7, .slice ad160 r157.length cp161), (8, iv s178), (9, .slice ad227 o226.length cp228)] [eBox b6 24 [iv p0.Start, .slice ad3 p0.Rows.length cp4], eBox b7 77 [.slice none 0 0, .slice none 0 0, .slice none 0 0, .slice none 0 0], eBox b9 77 [.slice ad180 s179.length cp181, .slice ad183 s182.length cp184, .slice ad186 s185.length cp187, .slice ad189 s188.length cp190], eRow (rI .i64) 3 (.slice ad227 o226.length cp228) o226, eRow r_api_Loop 48 (.slice ad180 s179.length cp181) s179, eRow (rI .i64) 3 (.slice ad183 s182.length cp184) s182, eRow r_A2_Int 49 (.slice ad186 s185.length cp187) s185, eRow (rI .i64) 3 (.slice ad189 s188.length cp190) s188] [fRep (rL r_api_Stitch) (.slice ad160 r157.length cp161) r157, fRep (rL r_api_Row) (.slice ad3 p0.Rows.length cp4) p0.Rows]) ?_ (fun a w hI => ?_)
  rotate_left
  · obtain ⟨o225, o226, rfl, ad227, cp228, S⟩ := hI
    have h := g230
    clear g230
    try dsimp only at h
    refine sRegion ?_
    refine sMove (iv s96) S (wN rfl) (.inl rfl) rfl rfl (lb rfl) fun a S => ?_
    refine sBin (iv (w64 (s96 + 1))) S (wN rfl) rfl rfl rfl (bAdd _ _ _ _ s96 1) rfl (lb rfl) fun a S => ?_
    refine sMove (iv s178) S (wN rfl) (.inl rfl) rfl rfl (lb rfl) fun a S => ?_
    refine sMove (.slice ad160 r157.length cp161) S (wN rfl) (.inl rfl) rfl rfl (lb rfl) fun a S => ?_
    refine sMove (iv s178) S (wN rfl) (.inl rfl) rfl rfl (lb rfl) fun a S => ?_
    obtain ⟨x262, hx263, h⟩ := bindSome h
    obtain ⟨q264, hq265, S⟩ := pIdx (P := Try.prog) (r := r_api_Stitch) (v := .slice ad160 r157.length cp161) (xs := r157) (j := s178) 62 61 0 S Try.underlying62 rfl rfl hx263
    refine sIdxV (v := .slice ad160 r157.length cp161) (k := .i64) (j := s178) S (wN rfl) rfl rfl rfl hq265 rfl (lb rfl) fun a S => ?_
    obtain ⟨u266, S⟩ := pLoad (r := r_api_Stitch) (q := q264) (x := x262) 0 S rfl
    obtain rfl : u266 = .agg #[.int .u8 x262.Kind, .bool x262.Purl, iv x262.A, iv x262.B] := S.mem.know (i := 1) (e := fRep r_api_Stitch (u266) x262) rfl
    refine sLoadVN (vq := q264) 0 [.int .u8 x262.Kind, .bool x262.Purl, iv x262.A, iv x262.B] S (wN rfl) rfl rfl rfl rfl rfl rfl (lb rfl) fun a S => ?_
    refine sMove (.slice ad227 o226.length cp228) S (wN rfl) (.inl rfl) rfl rfl (lb rfl) fun a S => ?_
    obtain ⟨r267, hx268, h⟩ := bindSome h
    have S := S.shutR (r := (rI .i64)) (T := 3) (v := .slice ad227 o226.length cp228) (xs := o226) 3 rfl
    refine sCall (X := Option Addr × Nat × Option Addr × Nat × Option Addr × Nat × Option Addr × Nat) (f := 47) (vs := [.pointer (some ⟨b9, 0, none⟩), iv (w64 (s96 + 1)), iv s178, .agg #[.int .u8 x262.Kind, .bool x262.Purl, iv x262.A, iv x262.B], .slice ad227 o226.length cp228]) (val := fun _ => .tuple #[]) (B' := fun x => [eBox b9 77 [.slice x.1 r267.Loops.length x.2.1, .slice x.2.2.1 r267.Bound.length x.2.2.2.1, .slice x.2.2.2.2.1 r267.Cross.length x.2.2.2.2.2.1, .slice x.2.2.2.2.2.2.1 r267.Rows.length x.2.2.2.2.2.2.2], eRow r_api_Loop 48 (.slice x.1 r267.Loops.length x.2.1) r267.Loops, eRow (rI .i64) 3 (.slice x.2.2.1 r267.Bound.length x.2.2.2.1) r267.Bound, eRow r_A2_Int 49 (.slice x.2.2.2.2.1 r267.Cross.length x.2.2.2.2.2.1) r267.Cross, eRow (rI .i64) 3 (.slice x.2.2.2.2.2.2.1 r267.Rows.length x.2.2.2.2.2.2.2) r267.Rows]) (D' := fun _ => []) [eBox b9 77 [.slice ad180 s179.length cp181, .slice ad183 s182.length cp184, .slice ad186 s185.length cp187, .slice ad189 s188.length cp190], eRow r_api_Loop 48 (.slice ad180 s179.length cp181) s179, eRow (rI .i64) 3 (.slice ad183 s182.length cp184) s182, eRow r_A2_Int 49 (.slice ad186 s185.length cp187) s185, eRow (rI .i64) 3 (.slice ad189 s188.length cp190) s188] [eBox b6 24 [iv p0.Start, .slice ad3 p0.Rows.length cp4], eBox b7 77 [.slice none 0 0, .slice none 0 0, .slice none 0 0, .slice none 0 0]] [fRep r_api_Stitch (.agg #[.int .u8 x262.Kind, .bool x262.Purl, iv x262.A, iv x262.B]) x262, fRep (rL (rI .i64)) (.slice ad227 o226.length cp228) o226] [2, 3, 4, 5, 6, 0, 1] [2, 0] S (wN rfl) rfl callee47 rfl (by decide) rfl rfl (fun E1 w1 S1 => c_raddleref27_Piece_cell_s1 E1 w1 (raddleref27_Piece.mk s179 s182 s185 s188) b9 ad180 cp181 ad183 cp184 ad186 cp187 ad189 cp190 (w64 (s96 + 1)) s178 x262 (.agg #[.int .u8 x262.Kind, .bool x262.Purl, iv x262.A, iv x262.B]) o226 (.slice ad227 o226.length cp228) r267 hx268 S1) rfl (lb rfl) fun xx a w S => ?_
    obtain ⟨ad269, cp270, ad271, cp272, ad273, cp274, ad275, cp276⟩ := xx
    dsimp only at S
    exact leafL (leafB (leafT (⟨o225, r267.Loops, r267.Bound, r267.Cross, r267.Rows, Option.some.inj h, ad269, cp270, ad271, cp272, ad273, cp274, ad275, cp276, S.fix [5, 6, 0, 1, 2, 3, 4] [4, 5] (by decide) rfl rfl rfl⟩)))
  refine sSeq (fun K231 hK231 => ?_)
  refine sRegion ?_
  refine sMove (iv 0) S (wN rfl) (.inr rfl) rfl rfl (lb rfl) fun a S => ?_
  refine leafL (leafT (hK231 _ _ ?_))
  refine wp_block ?_
  have S := S.nilRow (rI .i64) 3 (α := Int)
  obtain ⟨t239, hl, g238⟩ := bindSome h
  refine sLoop hl (fun s0 a w => match s0 with | (s232, s233, s236) => ∃ ad234, ∃ cp235, St [] E [] w0 89 a w [(1, .pointer (some ⟨b6, 0, none⟩)), (2, .pointer (some ⟨b7, 0, none⟩)), (3, .pointer (some ⟨b9, 0, none⟩)), (5, iv s96), (6, iv s232), (7, .slice ad160 r157.length cp161), (8, iv s178), (9, .slice ad234 s233.length cp235), (10, iv s236)] [eBox b6 24 [iv p0.Start, .slice ad3 p0.Rows.length cp4], eBox b7 77 [.slice none 0 0, .slice none 0 0, .slice none 0 0, .slice none 0 0], eBox b9 77 [.slice ad180 s179.length cp181, .slice ad183 s182.length cp184, .slice ad186 s185.length cp187, .slice ad189 s188.length cp190], eRow (rI .i64) 3 (.slice ad234 s233.length cp235) s233, eRow r_api_Loop 48 (.slice ad180 s179.length cp181) s179, eRow (rI .i64) 3 (.slice ad183 s182.length cp184) s182, eRow r_A2_Int 49 (.slice ad186 s185.length cp187) s185, eRow (rI .i64) 3 (.slice ad189 s188.length cp190) s188] [fRep (rL r_api_Stitch) (.slice ad160 r157.length cp161) r157, fRep (rL r_api_Row) (.slice ad3 p0.Rows.length cp4) p0.Rows]) ⟨none, 0, S.fix [1, 2, 3, 0, 4, 5, 6, 7] [0, 1] (by decide) rfl rfl rfl⟩ ?_
  clear hl h
  intro s0 a w c0 hI h hu237
  obtain ⟨s232, s233, s236⟩ := s0
  unfold raddleref27_Work_l2 at h
  dsimp only at h hI
  obtain ⟨ad234, cp235, S⟩ := hI
  refine sSeq (fun K244 hK244 => ?_)
  refine sSeq (fun K245 hK245 => ?_)
  refine sRegion ?_
  refine sMove (iv s236) S (wN rfl) (.inl rfl) rfl rfl (lb rfl) fun a S => ?_
  refine sMove (.slice ad160 r157.length cp161) S (wN rfl) (.inl rfl) rfl rfl (lb rfl) fun a S => ?_
  refine sMove (iv s178) S (wN rfl) (.inl rfl) rfl rfl (lb rfl) fun a S => ?_
  obtain ⟨x246, hx247, h⟩ := bindSome h
  obtain ⟨q248, hq249, S⟩ := pIdx (P := Try.prog) (r := r_api_Stitch) (v := .slice ad160 r157.length cp161) (xs := r157) (j := s178) 62 61 0 S Try.underlying62 rfl rfl hx247
  refine sIdxV (v := .slice ad160 r157.length cp161) (k := .i64) (j := s178) S (wN rfl) rfl rfl rfl hq249 rfl (lb rfl) fun a S => ?_
  obtain ⟨u250, S⟩ := pLoad (r := r_api_Stitch) (q := q248) (x := x246) 0 S rfl
  obtain rfl : u250 = .agg #[.int .u8 x246.Kind, .bool x246.Purl, iv x246.A, iv x246.B] := S.mem.know (i := 1) (e := fRep r_api_Stitch (u250) x246) rfl
  refine sLoadVN (vq := q248) 0 [.int .u8 x246.Kind, .bool x246.Purl, iv x246.A, iv x246.B] S (wN rfl) rfl rfl rfl rfl rfl rfl (lb rfl) fun a S => ?_
  obtain ⟨r251, hx252, h⟩ := bindSome h
  have S1 := S.mem
  refine sCallQ (X := Unit) (f := 46) (vs := [.agg #[.int .u8 x246.Kind, .bool x246.Purl, iv x246.A, iv x246.B]]) (val := fun _ => iv r251) S (wN rfl) rfl callee46 rfl (S1.quiet [1] rfl) (fun E1 w1 S1 => c_raddleref25_Used E1 w1 x246 (.agg #[.int .u8 x246.Kind, .bool x246.Purl, iv x246.A, iv x246.B]) r251 hx252 S1) rfl (lb rfl) fun _ a w S => ?_
  refine sBin (.bool (decide (s236 < r251))) S (wN rfl) rfl rfl rfl (bLt _ _ _ _ .i64 s236 r251) rfl (lb rfl) fun a S => ?_
  refine leafL (leafT (hK245 _ _ ?_))
  rcases iteSome h with ⟨hc253, h⟩ | ⟨hc253, h⟩
  rotate_left
  · refine sCondF S rfl hc253 ?_
    obtain rfl := Option.some.inj h
    obtain rfl := hu237 _ rfl
    have h := g238
    clear g238
    try dsimp only at h
    exact wp_exit (xThen (xThen (xHit (leafT (⟨s232, s233, Option.some.inj h, ad234, cp235, S.fix [0, 1, 2, 3, 4, 5, 6, 7] [3, 4] (by decide) rfl rfl rfl⟩)))))
  refine sCondT S rfl hc253 ?_
  refine wp_skip (leafT (hK244 _ _ ?_))
  refine sSeq (fun K254 hK254 => ?_)
  refine wp_block ?_
  refine sSeq (fun K255 hK255 => ?_)
  refine sRegion ?_
  refine sMove (.slice ad234 s233.length cp235) S (wN rfl) (.inl rfl) rfl rfl (lb rfl) fun a S => ?_
  refine sMove (iv s232) S (wN rfl) (.inl rfl) rfl rfl (lb rfl) fun a S => ?_
  refine sLit (r := (rI .i64)) (T := 3) (xs := ([s232] : List Int)) [(0, iv s232)] 1 [iv s232] [iv s232] (iv 0) 8 S (wN rfl) rfl rfl Try.underlying32 rfl (by decide) (by decide) (by kernel_rfl) rfl (fun E1 w1 hE => All.cons rfl (All.nil _ _ _)) rfl rfl (lb rfl) fun a w ad256 cp257 S => ?_
  obtain ⟨l258, hx259, h⟩ := bindSome h
  refine sApp (r := (rI .i64)) (T := 3) (xs := s233) (ys := ([s232] : List Int)) (v := .slice ad234 s233.length cp235) (u := .slice ad256 ([s232] : List Int).length cp257) 4 (iv 0) 8 S (wN rfl) rfl Try.underlying32 rfl rfl (by decide) rfl rfl rfl (src_R (T := 3) 0 S.mem rfl) hx259 rfl (lb rfl) fun a w ad260 cp261 S => ?_
  refine sMove (.slice ad260 l258.length cp261) S (wN rfl) (.inr rfl) rfl rfl (lb rfl) fun a S => ?_
  refine leafL (leafT (hK255 _ _ ?_))
  refine sRegion ?_
  refine sMove (iv s232) S (wN rfl) (.inl rfl) rfl rfl (lb rfl) fun a S => ?_
  refine sBin (iv (w64 (s232 + 1))) S (wN rfl) rfl rfl rfl (bAdd _ _ _ _ s232 1) rfl (lb rfl) fun a S => ?_
  refine sMove (iv (w64 (s232 + 1))) S (wN rfl) (.inr rfl) rfl rfl (lb rfl) fun a S => ?_
  refine leafL (leafB (leafT (hK254 _ _ ?_)))
  refine sRegion ?_
  refine sMove (iv s236) S (wN rfl) (.inl rfl) rfl rfl (lb rfl) fun a S => ?_
  refine sBin (iv (w64 (s236 + 1))) S (wN rfl) rfl rfl rfl (bAdd _ _ _ _ s236 1) rfl (lb rfl) fun a S => ?_
  refine sMove (iv (w64 (s236 + 1))) S (wN rfl) (.inr rfl) rfl rfl (lb rfl) fun a S => ?_
  exact leafL (leafT (⟨(w64 (s232 + 1), l258, w64 (s236 + 1)), (Option.some.inj h).symm, ⟨ad260, cp261, S.fix [2, 3, 4, 0, 5, 6, 7, 8] [3, 4] (by decide) rfl rfl rfl⟩⟩))

end Go.Proofs.Yticjoiolfibmlaa
namespace Go.Proofs.Yticjoiolfibmlaa
open Go.RowKit
set_option linter.unusedVariables false

end Go.Proofs.Yticjoiolfibmlaa
namespace Go.Proofs.Yticjoiolfibmlaa
open Go.RowKit
set_option linter.unusedVariables false

end Go.Proofs.Yticjoiolfibmlaa
namespace Go.Proofs.Yticjoiolfibmlaa
open Go.RowKit
set_option linter.unusedVariables false

end Go.Proofs.Yticjoiolfibmlaa
namespace Go.Proofs.Yticjoiolfibmlaa
open Go.RowKit
set_option linter.unusedVariables false

end Go.Proofs.Yticjoiolfibmlaa
namespace Go.Proofs.Yticjoiolfibmlaa
open Go.RowKit
set_option linter.unusedVariables false

end Go.Proofs.Yticjoiolfibmlaa
namespace Go.Proofs.Yticjoiolfibmlaa
open Go.RowKit
set_option linter.unusedVariables false

end Go.Proofs.Yticjoiolfibmlaa
namespace Go.Proofs.Yticjoiolfibmlaa
open Go.RowKit
set_option linter.unusedVariables false

theorem loop_sq {S τ : Type} {B : S → Option (S ⊕ τ)} {s0 : S} (c : Nat → S) (n : Nat) {t : τ} (h0 : s0 = c 0) (h : ∀ k, k < n → B (c k) = some (.inl (c (k + 1)))) (hn : B (c n) = some (.inr t)) : whileO B s0 = some t := by
  subst h0; exact loop_seq c n h hn
theorem take_snoc {α : Type} (l : List α) {k : Nat} (h : k < l.length) : l.take (k + 1) = l.take k ++ [l[k]] := List.take_succ_eq_append_getElem h
theorem add_eq (p : loops_piece) (l : api_Loop) (ps : List (List Int)) (h : p.loops.length + ps.length ≤ 1000000) : F_loops_piece_add_s1 p l ps = some ⟨p.loops ++ ps.map (fun q => ⟨l.Row, l.Cell, q, l.Purl⟩), p.rows, p.bound, p.cross, p.next⟩ := by
  have key : whileO (loops_piece_add_s1_l1 ps l) (0, p.loops, l.Parents) = some (p.loops ++ ps.map (fun q => (⟨l.Row, l.Cell, q, l.Purl⟩ : api_Loop))) := by
    refine loop_sq (fun k => ((k : Int), p.loops ++ (ps.take k).map (fun q => (⟨l.Row, l.Cell, q, l.Purl⟩ : api_Loop)), if k = 0 then l.Parents else ps.getD (k - 1) [])) ps.length (by simp) ?_ ?_
    · intro k hk
      unfold loops_piece_add_s1_l1
      simp only [dT (show (k : Int) < (ps.length : Int) by omega), if_true, idxO_nat hk, Option.bind_some, w64_succ (show k < 9223372036854775807 by omega)]
      have e3 : (if k + 1 = 0 then l.Parents else ps.getD (k + 1 - 1) []) = ps[k] := by simp [List.getD_eq_getElem?_getD, List.getElem?_eq_getElem hk]
      rw [appO_of (by simp; omega), Option.bind_some, take_snoc _ hk, e3, List.map_append, List.append_assoc]; rfl
    · unfold loops_piece_add_s1_l1
      simp only [dF (show ¬ (ps.length : Int) < (ps.length : Int) by omega), Bool.false_eq_true, if_false, List.take_length]
  unfold F_loops_piece_add_s1
  rw [key]; rfl
theorem set_ups (u k : Nat) {i : Nat} (hi : i < k) : (ups u i ++ List.replicate (k - i) (0 : Int)).set i ((u + i : Nat) : Int) = ups u (i + 1) ++ List.replicate (k - (i + 1)) 0 := by
  obtain ⟨m, hm⟩ : ∃ m, k - i = m + 1 := ⟨k - i - 1, by omega⟩
  rw [hm, List.replicate_succ, List.set_append_right _ _ (by rw [ups_len]; exact Nat.le_refl _), ups_len, Nat.sub_self, List.set_cons_zero, ups_succ, List.append_assoc, show k - (i + 1) = m by omega]
  rfl
theorem take_eq {p : loops_piece} {u k : Nat} (hu : p.next = (u : Int)) (hb : u + k ≤ 1000000) : F_loops_piece_take_s3 p (k : Int) = some (ups u k, ⟨p.loops, p.rows, p.bound, p.cross, ((u + k : Nat) : Int)⟩) := by
  have key : whileO (loops_piece_take_s3_l1 (List.replicate k 0) p) (List.replicate k 0, 0) = some (ups u k) := by
    refine loop_sq (fun i => (ups u i ++ List.replicate (k - i) (0 : Int), (i : Int))) k (by simp [ups]) ?_ ?_
    · intro i hi
      unfold loops_piece_take_s3_l1
      have hlen : (ups u i ++ List.replicate (k - i) (0 : Int)).length = k := by simp [ups_len]; omega
      simp only [dT (show (i : Int) < ((List.replicate k (0 : Int)).length : Int) by rw [List.length_replicate]; omega), if_true]
      rw [idxO_nat (by rw [hlen]; exact hi), Option.bind_some, hu, show w64 ((u : Int) + (i : Int)) = ((u + i : Nat) : Int) by rw [w64_of (by omega) (by omega)]; omega, setO_nat (by rw [hlen]; exact hi), Option.bind_some, set_ups u k hi, w64_succ (by omega)]
    · unfold loops_piece_take_s3_l1
      simp only [dF (show ¬ (k : Int) < ((List.replicate k (0 : Int)).length : Int) by rw [List.length_replicate]; omega), Bool.false_eq_true, if_false, Nat.sub_self, List.replicate_zero, List.append_nil]
  unfold F_loops_piece_take_s3
  rw [makeO_of rfl (by omega), Option.bind_some, key, hu, show w64 ((u : Int) + (k : Int)) = ((u + k : Nat) : Int) by rw [w64_of (by omega) (by omega)]; omega]
  rfl
theorem uses_one {p : api_Stitch} (hp : okS p) : F_stitch_Uses [p] = some (usedS p, 0) := by
  have hb := okS_bd hp
  have h0 : allS [p] = 0 := by
    have h1 := usedS_bd hp
    have h2 := madeS_bd hp
    have ho : allOk [p] := fun q hq => by simp at hq; subst hq; exact hp
    unfold allS
    rw [if_neg (by simp), if_pos ho, if_neg (by simp [sm]; omega)]
  rw [uses_eq (l := [p]) (fun q hq => by simp at hq; subst hq; unfold wfS; omega), if_pos h0]
  simp [sm]
theorem concat_eq (x y : List Int) (h : x.length + y.length ≤ 1000000) : F_slices_Concat___int_int_ [x, y] = some (x ++ y) := by
  have k1 : whileO (slices_Concat___int_int__l1 [x, y]) (0, 0) = some (((x.length + y.length : Nat) : Int)) := by
    rw [whileO_step (s' := (((x.length : Nat) : Int), ((0 + 1 : Nat) : Int))), whileO_step (s' := (((x.length + y.length : Nat) : Int), ((1 + 1 : Nat) : Int))), whileO_done]
    · unfold slices_Concat___int_int__l1; simp
    · unfold slices_Concat___int_int__l1
      dsimp only
      rw [dT (show ((0 + 1 : Nat) : Int) < (([x, y] : List (List Int)).length : Int) by simp), if_pos rfl, idxO_nat (show 0 + 1 < ([x, y] : List (List Int)).length by simp), Option.bind_some]
      simp only [List.getElem_cons_succ, List.getElem_cons_zero]
      simp only [show w64 ((x.length : Int) + (y.length : Int)) = ((x.length + y.length : Nat) : Int) by rw [w64_of (by omega) (by omega)]; omega, dF (show ¬ ((x.length + y.length : Nat) : Int) < 0 by omega), w64_succ (show 0 + 1 < 9223372036854775807 by omega), Bool.false_eq_true, if_false]
    · unfold slices_Concat___int_int__l1
      dsimp only
      rw [dT (show (0 : Int) < (([x, y] : List (List Int)).length : Int) by simp), if_pos rfl, show (0 : Int) = ((0 : Nat) : Int) from rfl, idxO_nat (show 0 < ([x, y] : List (List Int)).length by simp), Option.bind_some]
      simp only [List.getElem_cons_zero]
      simp only [show w64 (((0 : Nat) : Int) + (x.length : Int)) = ((x.length : Nat) : Int) by rw [w64_of (by omega) (by omega)]; omega, dF (show ¬ ((x.length : Nat) : Int) < ((0 : Nat) : Int) by omega), w64_succ (show 0 < 9223372036854775807 by omega), Bool.false_eq_true, if_false]
  have k2 : F_slices_Grow___int_int__s1 ((x.length + y.length : Nat) : Int) = some [] := by
    unfold F_slices_Grow___int_int__s1
    rw [dF (by omega), show w64 (((x.length + y.length : Nat) : Int) - w64 ((0 : Int) - 0)) = ((x.length + y.length : Nat) : Int) by rw [show w64 ((0 : Int) - 0) = 0 from rfl, w64_of (by omega) (by omega)]; omega]
    by_cases h0 : (0 : Int) < ((x.length + y.length : Nat) : Int)
    · rw [dT h0]
      simp only [Bool.false_eq_true, if_false, if_true]
      rw [show appZ ((x.length + y.length : Nat) : Int) (0 : Int) = some (List.replicate (x.length + y.length) 0) by unfold appZ lim; rw [if_pos (by omega)]; rfl, Option.bind_some, sliceO_of (lo := 0) (hi := 0) (l := 0) (k := 0) rfl rfl (Nat.le_refl _) (Nat.zero_le _)]; rfl
    · rw [dF h0]; rfl
  have k3 : whileO (slices_Concat___int_int__l2 [x, y]) (([] : List Int), 0) = some (x ++ y) := by
    rw [whileO_step (s' := (x, ((0 + 1 : Nat) : Int))), whileO_step (s' := (x ++ y, ((1 + 1 : Nat) : Int))), whileO_done]
    · unfold slices_Concat___int_int__l2; simp
    · unfold slices_Concat___int_int__l2
      dsimp only
      rw [dT (show ((0 + 1 : Nat) : Int) < (([x, y] : List (List Int)).length : Int) by simp), if_pos rfl, idxO_nat (show 0 + 1 < ([x, y] : List (List Int)).length by simp), Option.bind_some]
      simp only [List.getElem_cons_succ, List.getElem_cons_zero]
      rw [appO_of (by omega), Option.bind_some, w64_succ (by omega)]
    · unfold slices_Concat___int_int__l2
      dsimp only
      rw [dT (show (0 : Int) < (([x, y] : List (List Int)).length : Int) by simp), if_pos rfl, show (0 : Int) = ((0 : Nat) : Int) from rfl, idxO_nat (show 0 < ([x, y] : List (List Int)).length by simp), Option.bind_some]
      simp only [List.getElem_cons_zero]
      rw [appO_of (by simp; omega), Option.bind_some, w64_succ (by omega)]; rfl
  unfold F_slices_Concat___int_int_
  rw [k1, Option.bind_some, Option.bind_some, k2, Option.bind_some, k3]; rfl
theorem rev2_eq (a b : Int) : F_slices_Reverse___int_int__s1 (a, b) = some (b, a) := by
  have h1 : w64 (((2 : Nat) : Int) - 1) = 1 := rfl
  have i1 : idxO ([a, b] : List Int) 1 = some b := idxO_nat (k := 1) (by simp)
  have i0 : idxO ([a, b] : List Int) 0 = some a := idxO_nat (k := 0) (by simp)
  have i2 : idxO ([b, b] : List Int) 1 = some b := idxO_nat (k := 1) (by simp)
  have key : whileO slices_Reverse___int_int__s1_l1 (0, 1, a, b) = some (b, a) := by
    rw [whileO_step (s' := (1, 0, b, a)), whileO_done]
    · unfold slices_Reverse___int_int__s1_l1; simp
    · unfold slices_Reverse___int_int__s1_l1
      simp [i0, i1, i2]
      decide
  unfold F_slices_Reverse___int_int__s1
  rw [h1, key]; rfl
def rv (l : List Int) (i : Nat) : List Int := (List.range l.length).map fun k => if k < i ∨ l.length - 1 - i < k then l.getD (l.length - 1 - k) 0 else l.getD k 0
theorem rv_len (l : List Int) (i : Nat) : (rv l i).length = l.length := by simp [rv]
theorem rv_get {l : List Int} {i k : Nat} (h : k < (rv l i).length) : (rv l i)[k] = if k < i ∨ l.length - 1 - i < k then l.getD (l.length - 1 - k) 0 else l.getD k 0 := by simp [rv]
theorem rv_step {l : List Int} {i : Nat} (hi : 2 * i + 1 < l.length) : ((rv l i).set i (l.getD (l.length - 1 - i) 0)).set (l.length - 1 - i) (l.getD i 0) = rv l (i + 1) := by
  apply List.ext_getElem (by simp [rv])
  intro k h1 h2
  rw [rv_len] at h2
  rw [List.getElem_set, List.getElem_set, rv_get, rv_get]
  by_cases e1 : l.length - 1 - i = k
  · rw [if_pos e1, if_pos (.inr (by omega)), show l.length - 1 - k = i by omega]
  · rw [if_neg e1]
    by_cases e2 : i = k
    · rw [if_pos e2, if_pos (.inl (by omega)), show l.length - 1 - k = l.length - 1 - i by omega]
    · rw [if_neg e2]
      by_cases e3 : k < i ∨ l.length - 1 - i < k
      · rw [if_pos e3, if_pos (by omega)]
      · rw [if_neg e3, if_neg (by omega)]
theorem rv_zero (l : List Int) : rv l 0 = l := by
  apply List.ext_getElem (rv_len l 0)
  intro k h1 h2
  rw [rv_get, if_neg (by omega)]
  simp [h2]
theorem rv_end (l : List Int) : rv l (l.length / 2) = l.reverse := by
  apply List.ext_getElem (by simp [rv])
  intro k h1 h2
  rw [rv_len] at h1
  rw [rv_get, List.getElem_reverse]
  by_cases e : k < l.length / 2 ∨ l.length - 1 - l.length / 2 < k
  · rw [if_pos e]
    simp [List.getD_eq_getElem?_getD, List.getElem?_eq_getElem (show l.length - 1 - k < l.length by omega)]
  · rw [if_neg e]
    have e2 : l.length - 1 - k = k := by omega
    simp [List.getD_eq_getElem?_getD, List.getElem?_eq_getElem h1, e2]
theorem reverse_eq (l : List Int) (h : l.length ≤ 1000000) : F_slices_Reverse___int_int__s0 l = some l.reverse := by
  have key : whileO slices_Reverse___int_int__s0_l1 (l, 0, w64 ((l.length : Int) - 1)) = some l.reverse := by
    rw [← rv_end l]
    refine loop_sq (fun i => (rv l i, (i : Int), (l.length : Int) - 1 - (i : Int))) (l.length / 2) (by show (l, (0 : Int), w64 ((l.length : Int) - 1)) = (rv l 0, ((0 : Nat) : Int), (l.length : Int) - 1 - ((0 : Nat) : Int)); rw [rv_zero, w64_of (by omega) (by omega)]; simp) ?_ ?_
    · intro i hi
      unfold slices_Reverse___int_int__s0_l1
      have hj : (l.length : Int) - 1 - (i : Int) = ((l.length - 1 - i : Nat) : Int) := by omega
      simp only [dT (show (i : Int) < (l.length : Int) - 1 - (i : Int) by omega), if_true]
      rw [idxO_of hj (by rw [rv_len]; omega), Option.bind_some, idxO_nat (by rw [rv_len]; omega), Option.bind_some, rv_get, rv_get, if_neg (by omega), if_neg (by omega), setO_nat (by rw [rv_len]; omega), Option.bind_some, hj,
        idxO_nat (by rw [List.length_set, rv_len]; omega), Option.bind_some, setO_nat (by rw [List.length_set, rv_len]; omega), Option.bind_some, rv_step (by omega), w64_succ (by omega), w64_of (by omega) (by omega)]
      congr 3
      simp only [Prod.mk.injEq, true_and]
      omega
    · unfold slices_Reverse___int_int__s0_l1
      simp only [dF (show ¬ ((l.length / 2 : Nat) : Int) < (l.length : Int) - 1 - ((l.length / 2 : Nat) : Int) by omega), Bool.false_eq_true, if_false]
  unfold F_slices_Reverse___int_int__s0
  rw [key, Option.bind_some]
  simp [keepO]
/-- the pairs of a cable, row by row -/
def crow (k : Int) (n a c i : Nat) (m : Nat) : List (Int × Int) := (List.range m).map fun j => if k = 7 then (((n + j : Nat) : Int), ((n + c + i : Nat) : Int)) else (((n + c + i : Nat) : Int), ((n + j : Nat) : Int))
theorem crow_succ (k : Int) (n a c i m : Nat) : crow k n a c i (m + 1) = crow k n a c i m ++ [if k = 7 then (((n + m : Nat) : Int), ((n + c + i : Nat) : Int)) else (((n + c + i : Nat) : Int), ((n + m : Nat) : Int))] := by simp [crow, List.range_succ]
theorem crow_len (k : Int) (n a c i m : Nat) : (crow k n a c i m).length = m := by simp [crow]
theorem cable_eq {p : loops_piece} {l : api_Loop} {k : Int} {b : Bool} {a c u : Nat} (hk : k = 6 ∨ k = 7) (ha : a ≤ 6) (hc : c ≤ 6) (hl : p.loops.length ≤ 100000) (hx : p.cross.length ≤ 900000) :
    F_loops_piece_cable_s1 p l ⟨k, b, (a : Int), (c : Int)⟩ (ups u (a + c)) = some ⟨p.loops ++ (pars ⟨k, b, (a : Int), (c : Int)⟩ u).map (fun q => ⟨l.Row, l.Cell, q, l.Purl⟩), p.rows, p.bound, p.cross ++ crs ⟨k, b, (a : Int), (c : Int)⟩ p.loops.length, p.next⟩ := by
  have e : pars ⟨k, b, (a : Int), (c : Int)⟩ u = ((ups u (a + c)).drop a ++ (ups u (a + c)).take a).map fun x => [x] := by rcases hk with rfl | rfl <;> simp [pars]
  generalize hr : (ups u (a + c)).drop a ++ (ups u (a + c)).take a = r at e
  have hrl : r.length = a + c := by rw [← hr, List.length_append, List.length_drop, List.length_take, ups_len]; omega
  have k1 : whileO (loops_piece_cable_s1_l1 r l) (0, p.loops, p.rows, p.bound, p.cross, p.next) = some (p.loops ++ (r.map fun x => [x]).map (fun q => (⟨l.Row, l.Cell, q, l.Purl⟩ : api_Loop)), p.rows, p.bound, p.cross, p.next) := by
    refine loop_sq (fun i => ((i : Int), p.loops ++ ((r.take i).map fun x => [x]).map (fun q => (⟨l.Row, l.Cell, q, l.Purl⟩ : api_Loop)), p.rows, p.bound, p.cross, p.next)) r.length (by simp) ?_ ?_
    · intro i hi
      unfold loops_piece_cable_s1_l1
      simp only [dT (show (i : Int) < (r.length : Int) by omega), if_true]
      rw [idxO_nat hi, Option.bind_some, add_eq _ _ _ (by simp; omega), Option.bind_some, w64_succ (by omega), take_snoc _ hi, List.map_append, List.map_append, List.append_assoc]
      rfl
    · unfold loops_piece_cable_s1_l1
      simp only [dF (show ¬ (r.length : Int) < (r.length : Int) by omega), Bool.false_eq_true, if_false, List.take_length]
  generalize hn : p.loops.length = n at *
  have k2 : ∀ (i : Nat) (X : List (Int × Int)), i < a → X.length ≤ 950000 → whileO (loops_piece_cable_s1_l2 ⟨k, b, (a : Int), (c : Int)⟩ p (i : Int)) (0, X) = some (X ++ crow k n a c i c) := by
    intro i X hi hX
    refine loop_sq (fun j => ((j : Int), X ++ crow k n a c i j)) c (by simp [crow]) ?_ ?_
    · intro j hj
      unfold loops_piece_cable_s1_l2
      rw [hn]
      simp only [dT (show (j : Int) < (c : Int) by omega), if_true]
      rw [show w64 ((n : Int) + (c : Int)) = ((n + c : Nat) : Int) by rw [w64_of (by omega) (by omega)]; omega, show w64 (((n + c : Nat) : Int) + (i : Int)) = ((n + c + i : Nat) : Int) by rw [w64_of (by omega) (by omega)]; omega, show w64 ((n : Int) + (j : Int)) = ((n + j : Nat) : Int) by rw [w64_of (by omega) (by omega)]; omega, rev2_eq, crow_succ, w64_succ (by omega)]
      rcases hk with rfl | rfl
      · simp only [show ((6 : Int) == 7) = false from rfl, show ((6 : Int) = 7) = False by simp, Bool.false_eq_true, if_false, Option.bind_some]
        rw [appO_of (by simp [crow_len]; omega), Option.bind_some, List.append_assoc]
      · simp only [show ((7 : Int) == 7) = true from rfl, if_true, Option.bind_some]
        rw [appO_of (by simp [crow_len]; omega), Option.bind_some, List.append_assoc]
    · unfold loops_piece_cable_s1_l2
      simp only [dF (show ¬ (c : Int) < (c : Int) by omega), Bool.false_eq_true, if_false]
  have hlen : ∀ i, i ≤ a → ((List.range i).map fun x => crow k n a c x c).flatten.length = i * c := by
    intro i _
    induction i with
    | zero => simp
    | succ i ih => rw [List.range_succ, List.map_append, List.flatten_append, List.length_append, ih (by omega)]; simp [crow_len, Nat.add_mul]
  have k3 : whileO (loops_piece_cable_s1_l3 ⟨k, b, (a : Int), (c : Int)⟩ p) (0, p.cross) = some (p.cross ++ ((List.range a).map fun x => crow k n a c x c).flatten) := by
    refine loop_sq (fun i => ((i : Int), p.cross ++ ((List.range i).map fun x => crow k n a c x c).flatten)) a (by simp) ?_ ?_
    · intro i hi
      have hm : i * c ≤ 6 * 6 := Nat.mul_le_mul (by omega) hc
      unfold loops_piece_cable_s1_l3
      simp only [dT (show (i : Int) < (a : Int) by omega), if_true]
      rw [k2 i _ hi (by rw [List.length_append, hlen i (by omega)]; omega), List.range_succ, w64_succ (by omega)]
      simp
    · unfold loops_piece_cable_s1_l3
      simp only [dF (show ¬ (a : Int) < (a : Int) by omega), Bool.false_eq_true, if_false]
  have e2 : crs ⟨k, b, (a : Int), (c : Int)⟩ n = ((List.range a).map fun x => crow k n a c x c).flatten := by simp [crs, hk, crow]
  unfold F_loops_piece_cable_s1
  have hul : (ups u (a + c)).length = a + c := ups_len _ _
  rw [sliceO_of (l := a) (k := a + c) rfl (by rw [hul]) (by omega) (by omega), Option.bind_some, sliceO_of (lo := 0) (l := 0) (k := a) rfl rfl (Nat.zero_le _) (by omega), Option.bind_some]
  rw [List.take_of_length_le (show (ups u (a + c)).length ≤ a + c by omega), List.drop_zero, concat_eq _ _ (by simp [ups_len]; omega), Option.bind_some, hr, k1]
  simp only [Option.bind_some]
  rw [k3, e, e2]
  rfl
/-- a cell -/
theorem work_eq {p : loops_piece} {s : api_Stitch} (R K u : Nat) (h : okS s) (hu : p.next = (u : Int)) (hl : p.loops.length ≤ 100000) (hb : p.bound.length ≤ 100000) (hx : p.cross.length ≤ 900000) (hul : u + uN s ≤ p.loops.length) :
    F_loops_piece_work_s1 p (R : Int) (K : Int) s = some ⟨p.loops ++ mkL R K (side p.loops s u) (pars s u), p.rows, p.bound ++ offB s u, p.cross ++ crs s p.loops.length, ((u + uN s : Nat) : Int)⟩ := by
  have hub := usedS_bd h
  have ht : F_loops_piece_take_s3 p (usedS s) = some (ups u (uN s), ⟨p.loops, p.rows, p.bound, p.cross, ((u + uN s : Nat) : Int)⟩) := by
    rw [show usedS s = ((uN s : Nat) : Int) by unfold uN; omega]
    exact take_eq hu (by omega)
  unfold F_loops_piece_work_s1
  rw [uses_one h, Option.bind_some, ht, Option.bind_some]
  have clone1 : F_slices_Clone___int_int__s0 (ups u 1) = some (ups u 1) := by
    unfold F_slices_Clone___int_int__s0
    rw [appO_of (by simp [ups_len]), Option.bind_some]; rfl
  rcases knd h with ⟨b, rfl⟩ | ⟨b, rfl⟩ | rfl | ⟨b, a, h1, h2, rfl⟩ | ⟨b, a, h1, h2, rfl⟩ | ⟨b, a, h1, h2, rfl⟩ | ⟨k, b, a, c, hk, h1, h2, h3, h4, rfl⟩ | ⟨a, h1, h2, rfl⟩ | ⟨b, a, h1, h2, rfl⟩
  · have e : uN ⟨1, b, 0, 0⟩ = 1 := by simp [uN, usedS]
    rw [e]
    simp only [show ((1 : Int) == 2) = false from rfl, show ((1 : Int) == 9) = false from rfl, show ((1 : Int) == 1) = true from rfl, Bool.false_eq_true, if_false, if_true, Option.bind_some]
    rw [add_eq _ _ _ (by simp; omega), Option.bind_some]
    simp [mkL, pars, offB, crs, side, ups]
  · have e : uN ⟨8, b, 0, 0⟩ = 1 := by simp [uN, usedS]
    rw [e] at hul ⊢
    have hlt : u < p.loops.length := by omega
    simp only [show ((8 : Int) == 2) = false from rfl, show ((8 : Int) == 9) = false from rfl, show ((8 : Int) == 1) = false from rfl, show ((8 : Int) == 8) = true from rfl, Bool.false_eq_true, if_false, if_true, Option.bind_some]
    rw [show idxO (ups u 1) 0 = some ((u : Nat) : Int) from rfl, Option.bind_some, idxO_nat hlt, Option.bind_some, add_eq _ _ _ (by simp; omega), Option.bind_some]
    simp [mkL, pars, offB, crs, side, ups, List.getElem?_eq_getElem hlt]
  · have e : uN ⟨2, false, 0, 0⟩ = 0 := by simp [uN, usedS]
    rw [e]
    simp only [show ((2 : Int) == 2) = true from rfl, if_true, Option.bind_some, show ¬ ((1 : Int) < 0) by omega, if_false]
    rw [makeO_of (n := 1) (k := 1) rfl (by omega), Option.bind_some, add_eq _ _ _ (by simp; omega), Option.bind_some]
    simp [mkL, pars, offB, crs, side]
  · have e : uN ⟨3, b, (a : Int), 0⟩ = a := by simp [uN, usedS]
    rw [e]
    simp only [show ((3 : Int) == 2) = false from rfl, show ((3 : Int) == 9) = false from rfl, show ((3 : Int) == 1) = false from rfl, show ((3 : Int) == 8) = false from rfl, show ((3 : Int) == 4) = false from rfl, show ((3 : Int) == 3) = true from rfl, Bool.false_eq_true, if_false, if_true, Option.bind_some]
    rw [add_eq _ _ _ (by simp; omega), Option.bind_some]
    simp [mkL, pars, offB, crs, side]
  · have e : uN ⟨4, b, (a : Int), 0⟩ = a := by simp [uN, usedS]
    rw [e]
    simp only [show ((4 : Int) == 2) = false from rfl, show ((4 : Int) == 9) = false from rfl, show ((4 : Int) == 1) = false from rfl, show ((4 : Int) == 8) = false from rfl, show ((4 : Int) == 4) = true from rfl, Bool.false_eq_true, if_false, if_true, Option.bind_some]
    rw [reverse_eq _ (by rw [ups_len]; omega), Option.bind_some, add_eq _ _ _ (by simp; omega), Option.bind_some]
    simp [mkL, pars, offB, crs, side]
  · have e : uN ⟨5, b, (a : Int), 0⟩ = 1 := by simp [uN, usedS]
    rw [e]
    simp only [show ((5 : Int) == 2) = false from rfl, show ((5 : Int) == 9) = false from rfl, show ((5 : Int) == 1) = false from rfl, show ((5 : Int) == 8) = false from rfl, show ((5 : Int) == 4) = false from rfl, show ((5 : Int) == 3) = false from rfl, show ((5 : Int) == 5) = true from rfl, Bool.false_eq_true, if_false, if_true, Option.bind_some]
    have key : whileO (loops_piece_work_s1_l1 ⟨5, b, (a : Int), 0⟩ (ups u 1, ⟨p.loops, p.rows, p.bound, p.cross, ((u + 1 : Nat) : Int)⟩) (R : Int) (K : Int)) (0, p.loops, p.rows, p.bound, p.cross, ((u + 1 : Nat) : Int)) = some (p.loops ++ List.replicate a ⟨(R : Int), (K : Int), ups u 1, b⟩, p.rows, p.bound, p.cross, ((u + 1 : Nat) : Int)) := by
      refine loop_sq (fun i => ((i : Int), p.loops ++ List.replicate i (⟨(R : Int), (K : Int), ups u 1, b⟩ : api_Loop), p.rows, p.bound, p.cross, ((u + 1 : Nat) : Int))) a (by simp) ?_ ?_
      · intro i hi
        unfold loops_piece_work_s1_l1
        simp only [dT (show (i : Int) < (a : Int) by omega), if_true]
        rw [clone1, Option.bind_some, add_eq _ _ _ (by simp; omega), Option.bind_some, w64_succ (by omega), List.replicate_succ']
        simp
      · unfold loops_piece_work_s1_l1
        simp only [dF (show ¬ (a : Int) < (a : Int) by omega), Bool.false_eq_true, if_false]
    rw [key]
    simp [mkL, pars, offB, crs, side, ups]
  · have e : uN ⟨k, b, (a : Int), (c : Int)⟩ = a + c := by rcases hk with rfl | rfl <;> simp [uN, usedS] <;> omega
    rw [e]
    have ht : ∀ q : Int, q ≠ 6 → q ≠ 7 → (k == q) = false := by intro q h6 h7; rcases hk with rfl | rfl <;> simp <;> omega
    simp only [ht 2 (by omega) (by omega), ht 9 (by omega) (by omega), ht 1 (by omega) (by omega), ht 8 (by omega) (by omega), ht 4 (by omega) (by omega), ht 3 (by omega) (by omega), ht 5 (by omega) (by omega), ht 10 (by omega) (by omega), Bool.false_eq_true, if_false, Option.bind_some]
    rw [cable_eq hk h2 h4 (by simpa using hl) (by simpa using hx), Option.bind_some]
    have e1 : offB ⟨k, b, (a : Int), (c : Int)⟩ u = [] := by rcases hk with rfl | rfl <;> simp [offB]
    have e2 : side p.loops ⟨k, b, (a : Int), (c : Int)⟩ u = b := by rcases hk with rfl | rfl <;> simp [side]
    rw [e1, e2, List.append_nil]
    rfl
  · have e : uN ⟨9, false, (a : Int), 0⟩ = 0 := by simp [uN, usedS]
    rw [e]
    simp only [show ((9 : Int) == 2) = false from rfl, show ((9 : Int) == 9) = true from rfl, Bool.false_eq_true, if_false, if_true, Option.bind_some]
    rw [makeO_of (k := a) (by split <;> omega) (by omega), Option.bind_some, add_eq _ _ _ (by simp; omega), Option.bind_some]
    simp [mkL, pars, offB, crs, side]
  · have e : uN ⟨10, b, (a : Int), 0⟩ = a := by simp [uN, usedS]
    rw [e]
    simp only [show ((10 : Int) == 2) = false from rfl, show ((10 : Int) == 9) = false from rfl, show ((10 : Int) == 1) = false from rfl, show ((10 : Int) == 8) = false from rfl, show ((10 : Int) == 4) = false from rfl, show ((10 : Int) == 3) = false from rfl, show ((10 : Int) == 5) = false from rfl, show ((10 : Int) == 10) = true from rfl, Bool.false_eq_true, if_false, if_true, Option.bind_some]
    rw [appO_of (by simp [ups_len]; omega), Option.bind_some]
    simp [mkL, pars, offB, crs, side]

end Go.Proofs.Yticjoiolfibmlaa
namespace Go.Proofs.Yticjoiolfibmlaa
open Go.RowKit
set_option linter.unusedVariables false

/-- where the lists are that have a number -/
def kidsP : Nat → List (List Int) → Int → List Nat
  | _, [], _ => []
  | o, p :: P, i => (if i ∈ p then [o] else []) ++ kidsP (o + 1) P i
theorem kidsP_append (i : Int) (Q : List (List Int)) : ∀ (P : List (List Int)) (o : Nat), kidsP o (P ++ Q) i = kidsP o P i ++ kidsP (o + P.length) Q i
  | [], o => by simp [kidsP]
  | p :: P, o => by
    simp only [List.cons_append, kidsP, List.length_cons]
    rw [kidsP_append i Q P (o + 1), List.append_assoc]
    congr 3; omega
theorem kidsP_none {i : Int} : ∀ (P : List (List Int)) (o : Nat), (∀ p, p ∈ P → i ∉ p) → kidsP o P i = []
  | [], o, _ => rfl
  | p :: P, o, h => by
    simp only [kidsP]
    rw [if_neg (h p (by simp)), kidsP_none P (o + 1) fun q hq => h q (by simp [hq])]; rfl
theorem kidsP_rep (u : Int) : ∀ (n o : Nat), kidsP o (List.replicate n [u]) u = List.range' o n
  | 0, o => rfl
  | n + 1, o => by
    simp only [List.replicate_succ, kidsP, List.mem_singleton, if_true]
    rw [kidsP_rep u n (o + 1), List.range'_succ]; rfl
theorem kidsP_single {i : Int} : ∀ (Q : List Int) (o : Nat), Q.Nodup → i ∈ Q → ∃ x, x < Q.length ∧ kidsP o (Q.map fun x => [x]) i = List.range' (o + x) 1
  | [], o, _, h => by simp at h
  | q :: Q, o, hn, h => by
    simp only [List.map_cons, kidsP]
    rw [List.nodup_cons] at hn
    by_cases e : i = q
    · subst e
      refine ⟨0, by simp, ?_⟩
      rw [if_pos (by simp), kidsP_none _ _ (by
        intro p hp
        obtain ⟨y, hy, rfl⟩ := List.mem_map.1 hp
        intro hi
        simp at hi
        exact hn.1 (hi ▸ hy))]
      rfl
    · obtain ⟨x, hx, hk⟩ := kidsP_single Q (o + 1) hn.2 (by simpa [e] using h)
      refine ⟨x + 1, by simp; omega, ?_⟩
      rw [if_neg (by simpa using e), hk]
      simp only [List.nil_append]
      congr 1; omega
/-- the kids that a cell gives to a loop that it uses -/
theorem kids_new {s : api_Stitch} (h : okS s) (u o : Nat) {i : Int} (h0 : (u : Int) ≤ i) (h1 : i < ((u + uN s : Nat) : Int)) :
    (s.Kind = 10 ∧ i ∈ offB s u) ∨ (s.Kind ≠ 10 ∧ ∃ a m, 1 ≤ m ∧ a + m ≤ mN s ∧ kidsP o (pars s u) i = List.range' (o + a) m) := by
  have one : ∀ p : List Int, i ∈ p → kidsP o [p] i = List.range' (o + 0) 1 := fun p hp => by simp [kidsP, hp, List.range'_succ]
  rcases knd h with ⟨b, rfl⟩ | ⟨b, rfl⟩ | rfl | ⟨b, a, h2, h3, rfl⟩ | ⟨b, a, h2, h3, rfl⟩ | ⟨b, a, h2, h3, rfl⟩ | ⟨k, b, a, c, hk, h2, h3, h4, h5, rfl⟩ | ⟨a, h2, h3, rfl⟩ | ⟨b, a, h2, h3, rfl⟩
  · have e : i = (u : Int) := by simp [uN, usedS] at h1; omega
    exact .inr ⟨by simp, 0, 1, by omega, by simp [mN, madeS], one _ (by simp [e])⟩
  · have e : i = (u : Int) := by simp [uN, usedS] at h1; omega
    exact .inr ⟨by simp, 0, 1, by omega, by simp [mN, madeS], one _ (by simp [e])⟩
  · simp [uN, usedS] at h1; omega
  · refine .inr ⟨by simp, 0, 1, by omega, by simp [mN, madeS], ?_⟩
    have e : pars ⟨3, b, (a : Int), 0⟩ u = [ups u a] := by simp [pars]
    rw [e]; exact one _ (ups_mem.2 ⟨h0, by simpa [uN, usedS] using h1⟩)
  · refine .inr ⟨by simp, 0, 1, by omega, by simp [mN, madeS], ?_⟩
    have e : pars ⟨4, b, (a : Int), 0⟩ u = [(ups u a).reverse] := by simp [pars]
    rw [e]; exact one _ (List.mem_reverse.2 (ups_mem.2 ⟨h0, by simpa [uN, usedS] using h1⟩))
  · have e : i = (u : Int) := by simp [uN, usedS] at h1; omega
    refine .inr ⟨by simp, 0, a, by omega, by simp [mN, madeS], ?_⟩
    have e2 : pars ⟨5, b, (a : Int), 0⟩ u = List.replicate a [(u : Int)] := by simp [pars]
    rw [e2, e]; exact kidsP_rep _ _ _
  · have e : pars ⟨k, b, (a : Int), (c : Int)⟩ u = ((ups u (a + c)).drop a ++ (ups u (a + c)).take a).map fun x => [x] := by rcases hk with rfl | rfl <;> simp [pars]
    have e2 : uN ⟨k, b, (a : Int), (c : Int)⟩ = a + c := by rcases hk with rfl | rfl <;> simp [uN, usedS] <;> omega
    have e3 : mN ⟨k, b, (a : Int), (c : Int)⟩ = a + c := by rcases hk with rfl | rfl <;> simp [mN, madeS] <;> omega
    have hp : ((ups u (a + c)).drop a ++ (ups u (a + c)).take a).Perm (ups u (a + c)) := List.perm_append_comm.trans (by rw [List.take_append_drop])
    rw [e2] at h1
    obtain ⟨x, hx, hx2⟩ := kidsP_single (i := i) _ o (hp.nodup_iff.2 (ups_nodup _ _)) (hp.mem_iff.2 (ups_mem.2 ⟨h0, h1⟩))
    rw [hp.length_eq, ups_len] at hx
    refine .inr ⟨by rcases hk with rfl | rfl <;> simp, x, 1, by omega, by rw [e3]; omega, ?_⟩
    rw [e]; exact hx2
  · simp [uN, usedS] at h1; omega
  · exact .inl ⟨rfl, by simp only [offB, if_true]; exact ups_mem.2 ⟨h0, by simpa [uN, usedS] using h1⟩⟩
theorem offB_mem {s : api_Stitch} (h : okS s) {u : Nat} {i : Int} (hi : i ∈ offB s u) : s.Kind = 10 ∧ (u : Int) ≤ i ∧ i < ((u + uN s : Nat) : Int) := by
  unfold offB at hi
  split at hi
  · rename_i hk
    refine ⟨hk, ?_⟩
    have hb := okS_bd h
    have := ups_mem.1 hi
    have e : uN s = s.A.toNat := by simp [uN, usedS, hk]
    rw [e]; exact this
  · simp at hi
def parL (L : List api_Loop) : List (List Int) := L.map fun l => l.Parents
def kidsL (L : List api_Loop) (i : Int) : List Nat := kidsP 0 (parL L) i
theorem parL_mk (R K : Nat) (pl : Bool) (ps : List (List Int)) : parL (mkL R K pl ps) = ps := by simp [parL, mkL, List.map_map, Function.comp_def]
theorem parL_app (L M : List api_Loop) : parL (L ++ M) = parL L ++ parL M := by simp [parL]
/-- each loop below u is used once, the others are not used yet -/
structure once (L : List api_Loop) (B : List Int) (u : Nat) : Prop where
  below : ∀ i : Int, 0 ≤ i → i < (u : Int) → (i ∈ B ∧ kidsL L i = []) ∨ (i ∉ B ∧ ∃ a m, 1 ≤ m ∧ a + m ≤ L.length ∧ kidsL L i = List.range' a m ∧ ∃ K, ∀ j, a ≤ j → j < a + m → ∃ l, L[j]? = some l ∧ l.Cell = K)
  above : ∀ i : Int, (u : Int) ≤ i → i ∉ B ∧ kidsL L i = []
  lo : ∀ i : Int, i < 0 → i ∉ B ∧ kidsL L i = []
theorem once.step {R K : Nat} {s : api_Stitch} {z : Wk} (hs : okS s) (h : once z.L z.B z.u) : once (stepW R K s z).L (stepW R K s z).B (stepW R K s z).u := by
  have hk : ∀ i, kidsL (stepW R K s z).L i = kidsL z.L i ++ kidsP z.L.length (pars s z.u) i := by
    intro i
    simp only [kidsL, stepW, parL_app, parL_mk, kidsP_append]
    congr 2; simp [parL]
  have hp := pars_bd hs z.u
  have hno : ∀ i : Int, i < (z.u : Int) ∨ ((z.u + uN s : Nat) : Int) ≤ i → kidsP z.L.length (pars s z.u) i = [] := by
    intro i hi
    refine kidsP_none _ _ fun p hp1 hm => ?_
    have := (hp p hp1).2 i hm
    omega
  have hnb : ∀ i : Int, i < (z.u : Int) ∨ ((z.u + uN s : Nat) : Int) ≤ i → i ∉ offB s z.u := by
    intro i hi hm
    have := offB_mem hs hm
    omega
  refine ⟨?_, ?_, ?_⟩
  · intro i h0 h1
    rw [hk]
    simp only [stepW] at h1 ⊢
    by_cases hlt : i < (z.u : Int)
    · rw [hno i (.inl hlt), List.append_nil]
      rcases h.below i h0 hlt with ⟨h2, h3⟩ | ⟨h2, a, m, h3, h4, h5, Kc, h6⟩
      · exact .inl ⟨List.mem_append_left _ h2, h3⟩
      · refine .inr ⟨fun hm => ?_, a, m, h3, by simp; omega, h5, Kc, fun j hj1 hj2 => ?_⟩
        · rcases List.mem_append.1 hm with hm | hm
          · exact h2 hm
          · exact hnb i (.inl hlt) hm
        · obtain ⟨l, hl, hc⟩ := h6 j hj1 hj2
          exact ⟨l, by rw [List.getElem?_append_left (by omega)]; exact hl, hc⟩
    · obtain ⟨h2, h3⟩ := h.above i (by omega)
      rw [h3, List.nil_append]
      rcases kids_new hs z.u z.L.length (i := i) (by omega) h1 with ⟨hk10, hm⟩ | ⟨hk10, a, m, h4, h5, h6⟩
      · refine .inl ⟨List.mem_append_right _ hm, ?_⟩
        have : pars s z.u = [] := by
          have e := pars_len hs z.u
          have e2 : mN s = 0 := by simp [mN, madeS, hk10]
          exact List.eq_nil_of_length_eq_zero (by omega)
        rw [this]; rfl
      · refine .inr ⟨fun hm => ?_, z.L.length + a, m, h4, by simp [mkL_len, pars_len hs]; omega, h6, (K : Int), fun j hj1 hj2 => ?_⟩
        · rcases List.mem_append.1 hm with hm | hm
          · exact h2 hm
          · exact hk10 (offB_mem hs hm).1
        · have hj : j - z.L.length < (pars s z.u).length := by rw [pars_len hs]; omega
          refine ⟨⟨(R : Int), (K : Int), (pars s z.u)[j - z.L.length], side z.L s z.u⟩, ?_, rfl⟩
          rw [List.getElem?_append_right (by omega)]
          simp only [mkL, List.getElem?_map, List.getElem?_eq_getElem hj, Option.map_some]
  · intro i hi
    simp only [stepW] at hi
    obtain ⟨h2, h3⟩ := h.above i (by omega)
    rw [hk, h3, hno i (.inr (by omega))]
    refine ⟨fun hm => ?_, rfl⟩
    simp only [stepW] at hm
    rcases List.mem_append.1 hm with hm | hm
    · exact h2 hm
    · exact hnb i (.inr (by omega)) hm
  · intro i hi
    obtain ⟨h2, h3⟩ := h.lo i hi
    rw [hk, h3, hno i (.inl (by omega))]
    refine ⟨fun hm => ?_, rfl⟩
    simp only [stepW] at hm
    rcases List.mem_append.1 hm with hm | hm
    · exact h2 hm
    · exact hnb i (.inl (by omega)) hm
theorem once.start (S : Nat) : once (zeroL S) [] 0 := by
  have h : ∀ i : Int, kidsL (zeroL S) i = [] := by
    intro i
    refine kidsP_none _ _ fun p hp hm => ?_
    simp only [parL, zeroL, List.map_map, List.mem_map] at hp
    obtain ⟨_, _, rfl⟩ := hp
    simp at hm
  exact ⟨fun i h0 h1 => by omega, fun i _ => ⟨by simp, h i⟩, fun i _ => ⟨by simp, h i⟩⟩

end Go.Proofs.Yticjoiolfibmlaa
namespace Go.Proofs.Yticjoiolfibmlaa
open Go.RowKit
set_option linter.unusedVariables false

def norm (p : Int × Int) : Int × Int := if p.1 ≤ p.2 then p else (p.2, p.1)
theorem pars_x {k : Int} {b : Bool} {a c u i : Nat} (hk : k = 6 ∨ k = 7) (hi : i < a + c) : (pars ⟨k, b, (a : Int), (c : Int)⟩ u)[i]? = some [((u + (if i < c then a + i else i - c) : Nat) : Int)] := by
  have e : pars ⟨k, b, (a : Int), (c : Int)⟩ u = ((ups u (a + c)).drop a ++ (ups u (a + c)).take a).map fun x => [x] := by rcases hk with rfl | rfl <;> simp [pars]
  have hd : ((ups u (a + c)).drop a).length = c := by rw [List.length_drop, ups_len]; omega
  rw [e, List.getElem?_map]
  by_cases h : i < c
  · rw [List.getElem?_append_left (by rw [hd]; exact h), List.getElem?_drop, List.getElem?_eq_getElem (by rw [ups_len]; omega), ups_get, if_pos h]; rfl
  · rw [List.getElem?_append_right (by rw [hd]; omega), hd, List.getElem?_take_of_lt (by omega), List.getElem?_eq_getElem (by rw [ups_len]; omega), ups_get, if_neg h]; rfl
/-- the parents of two loops have the opposite order -/
def inv (L : List api_Loop) (a b : Nat) : Prop := a < b ∧ ∃ l k x y, L[a]? = some l ∧ L[b]? = some k ∧ l.Parents = [x] ∧ k.Parents = [y] ∧ y < x
theorem crs_x {k : Int} {b : Bool} {a c n : Nat} (hk : k = 6 ∨ k = 7) : (crs ⟨k, b, (a : Int), (c : Int)⟩ n).map norm = ((List.range a).map fun i => (List.range c).map fun j => (((n + j : Nat) : Int), ((n + c + i : Nat) : Int))).flatten := by
  have e : crs ⟨k, b, (a : Int), (c : Int)⟩ n = ((List.range a).map fun i => (List.range c).map fun j => if k = 7 then (((n + j : Nat) : Int), ((n + c + i : Nat) : Int)) else (((n + c + i : Nat) : Int), ((n + j : Nat) : Int))).flatten := by
    simp [crs, hk]
  rw [e, List.map_flatten, List.map_map]
  congr 1
  apply List.map_congr_left
  intro i _
  simp only [Function.comp, List.map_map]
  apply List.map_congr_left
  intro j hj
  have hj := List.mem_range.1 hj
  simp only [Function.comp, norm]
  rcases hk with rfl | rfl
  · simp only [show ((6 : Int) = 7) = False by simp, if_false]; rw [if_neg (by omega)]
  · simp only [if_true]; rw [if_pos (by omega)]
theorem crs_mem {k : Int} {b : Bool} {a c n : Nat} (hk : k = 6 ∨ k = 7) {q : Int × Int} : q ∈ (crs ⟨k, b, (a : Int), (c : Int)⟩ n).map norm ↔ ∃ i j : Nat, i < a ∧ j < c ∧ q = (((n + j : Nat) : Int), ((n + c + i : Nat) : Int)) := by
  rw [crs_x hk]
  simp only [List.mem_flatten, List.mem_map, List.mem_range]
  constructor
  · rintro ⟨_, ⟨i, hi, rfl⟩, h⟩
    simp only [List.mem_map, List.mem_range] at h
    obtain ⟨j, hj, rfl⟩ := h
    exact ⟨i, j, hi, hj, rfl⟩
  · rintro ⟨i, j, hi, hj, rfl⟩
    exact ⟨_, ⟨i, hi, rfl⟩, by simp only [List.mem_map, List.mem_range]; exact ⟨j, hj, rfl⟩⟩
theorem nodup_grid {α : Type} (f : Nat → Nat → α) (hf : ∀ i j i' j', f i j = f i' j' → i = i' ∧ j = j') (c : Nat) : ∀ a, ((List.range a).map fun i => (List.range c).map fun j => f i j).flatten.Nodup
  | 0 => by simp
  | a + 1 => by
    rw [List.range_succ, List.map_append, List.flatten_append, List.nodup_append]
    refine ⟨nodup_grid f hf c a, ?_, ?_⟩
    · simp only [List.map_cons, List.map_nil, List.flatten_cons, List.flatten_nil, List.append_nil]
      rw [List.nodup_iff_pairwise_ne]
      refine List.pairwise_map.2 (List.Pairwise.imp ?_ (List.pairwise_lt_range (n := c)))
      intro x y h e
      have := (hf _ _ _ _ e).2; omega
    · intro x hx y hy e
      subst e
      simp only [List.mem_flatten, List.mem_map, List.mem_range] at hx hy
      obtain ⟨_, ⟨i, hi, rfl⟩, hx⟩ := hx
      obtain ⟨_, ⟨i', hi', rfl⟩, hy⟩ := hy
      simp only [List.mem_map, List.mem_range] at hx hy
      obtain ⟨j, _, rfl⟩ := hx
      obtain ⟨j', _, e⟩ := hy
      simp at hi'
      have := (hf _ _ _ _ e).1; omega
/-- what a cell adds: its pairs, each once, are the pairs of its loops whose parents have the opposite order -/
theorem cross_new {s : api_Stitch} (h : okS s) (u n : Nat) : ((crs s n).map norm).Nodup ∧ ∀ a b : Nat, (((n + a : Nat) : Int), ((n + b : Nat) : Int)) ∈ (crs s n).map norm ↔ a < b ∧ ∃ x y, (pars s u)[a]? = some [x] ∧ (pars s u)[b]? = some [y] ∧ y < x := by
  have short : (pars s u).length ≤ 1 → crs s n = [] → ((crs s n).map norm).Nodup ∧ ∀ a b : Nat, (((n + a : Nat) : Int), ((n + b : Nat) : Int)) ∈ (crs s n).map norm ↔ a < b ∧ ∃ x y, (pars s u)[a]? = some [x] ∧ (pars s u)[b]? = some [y] ∧ y < x := by
    intro hl hc
    rw [hc]
    refine ⟨by simp, fun a b => ⟨fun h => by simp at h, ?_⟩⟩
    rintro ⟨hab, x, y, _, h2, _⟩
    have := (List.getElem?_eq_some_iff.1 h2).1
    omega
  have hl := pars_len h u
  rcases knd h with ⟨b, rfl⟩ | ⟨b, rfl⟩ | rfl | ⟨b, a, h2, h3, rfl⟩ | ⟨b, a, h2, h3, rfl⟩ | ⟨b, a, h2, h3, rfl⟩ | ⟨k, b, a, c, hk, h2, h3, h4, h5, rfl⟩ | ⟨a, h2, h3, rfl⟩ | ⟨b, a, h2, h3, rfl⟩
  · exact short (by simp [pars]) (by simp [crs])
  · exact short (by simp [pars]) (by simp [crs])
  · exact short (by simp [pars]) (by simp [crs])
  · exact short (by simp [pars]) (by simp [crs])
  · exact short (by simp [pars]) (by simp [crs])
  · have e : crs ⟨5, b, (a : Int), 0⟩ n = [] := by simp [crs]
    have e2 : pars ⟨5, b, (a : Int), 0⟩ u = List.replicate a [(u : Int)] := by simp [pars]
    rw [e, e2]
    refine ⟨by simp, fun i j => ⟨fun h => by simp at h, ?_⟩⟩
    rintro ⟨_, x, y, h5, h6, h7⟩
    rw [List.getElem?_replicate] at h5 h6
    split at h5
    · split at h6
      · simp at h5 h6; omega
      · cases h6
    · cases h5
  · have e3 : mN ⟨k, b, (a : Int), (c : Int)⟩ = a + c := by rcases hk with rfl | rfl <;> simp [mN, madeS] <;> omega
    refine ⟨?_, fun i j => ?_⟩
    · rw [crs_x hk]
      refine nodup_grid _ (fun i j i' j' e => ?_) c a
      simp only [Prod.mk.injEq] at e
      omega
    · rw [crs_mem hk]
      constructor
      · rintro ⟨p, q, hp, hq, e⟩
        simp only [Prod.mk.injEq] at e
        obtain ⟨rfl, rfl⟩ : i = q ∧ j = c + p := by omega
        refine ⟨by omega, _, _, pars_x hk (by omega), pars_x hk (by omega), ?_⟩
        rw [if_pos hq, if_neg (by omega)]
        omega
      · rintro ⟨hij, x, y, h6, h7, h8⟩
        have l1 := (List.getElem?_eq_some_iff.1 h7).1
        rw [hl, e3] at l1
        rw [pars_x hk (by omega)] at h6 h7
        simp only [Option.some.injEq, List.cons.injEq, and_true] at h6 h7
        subst h6 h7
        by_cases c1 : i < c
        · by_cases c2 : j < c
          · rw [if_pos c1, if_pos c2] at h8; omega
          · exact ⟨j - c, i, by omega, c1, by rw [Prod.mk.injEq]; exact ⟨rfl, by omega⟩⟩
        · rw [if_neg c1, if_neg (show ¬ j < c by omega)] at h8; omega
  · have e : crs ⟨9, false, (a : Int), 0⟩ n = [] := by simp [crs]
    have e2 : pars ⟨9, false, (a : Int), 0⟩ u = List.replicate a [] := by simp [pars]
    rw [e, e2]
    refine ⟨by simp, fun i j => ⟨fun h => by simp at h, ?_⟩⟩
    rintro ⟨_, x, y, h5, _⟩
    rw [List.getElem?_replicate] at h5
    split at h5 <;> simp at h5
  · exact short (by simp [pars]) (by simp [crs])
theorem crs_ge {s : api_Stitch} (h : okS s) {n : Nat} {q : Int × Int} (hq : q ∈ (crs s n).map norm) : ∃ a b : Nat, q = (((n + a : Nat) : Int), ((n + b : Nat) : Int)) ∧ a < b ∧ b < mN s := by
  rcases knd h with ⟨b, rfl⟩ | ⟨b, rfl⟩ | rfl | ⟨b, a, h2, h3, rfl⟩ | ⟨b, a, h2, h3, rfl⟩ | ⟨b, a, h2, h3, rfl⟩ | ⟨k, b, a, c, hk, h2, h3, h4, h5, rfl⟩ | ⟨a, h2, h3, rfl⟩ | ⟨b, a, h2, h3, rfl⟩
  · simp [crs] at hq
  · simp [crs] at hq
  · simp [crs] at hq
  · simp [crs] at hq
  · simp [crs] at hq
  · simp [crs] at hq
  · have e3 : mN ⟨k, b, (a : Int), (c : Int)⟩ = a + c := by rcases hk with rfl | rfl <;> simp [mN, madeS] <;> omega
    obtain ⟨i, j, hi, hj, rfl⟩ := (crs_mem hk).1 hq
    exact ⟨j, c + i, by rw [Prod.mk.injEq]; exact ⟨rfl, by omega⟩, by omega, by rw [e3]; omega⟩
  · simp [crs] at hq
  · simp [crs] at hq
structure cinv (L : List api_Loop) (C : List (Int × Int)) (u : Nat) : Prop where
  par : ∀ l, l ∈ L → ∀ p, p ∈ l.Parents → 0 ≤ p ∧ p < (u : Int)
  nd : (C.map norm).Nodup
  bd : ∀ q, q ∈ C.map norm → ∃ a b : Nat, q = ((a : Int), (b : Int)) ∧ a < b ∧ b < L.length
  iff : ∀ a b : Nat, (((a : Nat) : Int), ((b : Nat) : Int)) ∈ C.map norm ↔ inv L a b
  cell : ∀ a b l k, inv L a b → L[a]? = some l → L[b]? = some k → l.Cell = k.Cell
theorem cinv.step {R K : Nat} {s : api_Stitch} {z : Wk} (hs : okS s) (h : cinv z.L z.C z.u) : cinv (stepW R K s z).L (stepW R K s z).C (stepW R K s z).u := by
  have hp := pars_bd hs z.u
  have hl := pars_len hs z.u
  have hget : ∀ b l, z.L.length ≤ b → (stepW R K s z).L[b]? = some l → ∃ ps, (pars s z.u)[b - z.L.length]? = some ps ∧ l.Parents = ps ∧ l.Cell = (K : Int) := by
    intro b l hb hg
    simp only [stepW] at hg
    rw [List.getElem?_append_right hb] at hg
    simp only [mkL, List.getElem?_map, Option.map_eq_some_iff] at hg
    obtain ⟨ps, h1, rfl⟩ := hg
    exact ⟨ps, h1, rfl, rfl⟩
  have hold : ∀ b, b < z.L.length → (stepW R K s z).L[b]? = z.L[b]? := fun b hb => by simp only [stepW]; rw [List.getElem?_append_left hb]
  obtain ⟨hn1, hn2⟩ := cross_new hs z.u z.L.length
  have hinv : ∀ a b, inv (stepW R K s z).L a b ↔ inv z.L a b ∨ ∃ i j, a = z.L.length + i ∧ b = z.L.length + j ∧ i < j ∧ ∃ x y, (pars s z.u)[i]? = some [x] ∧ (pars s z.u)[j]? = some [y] ∧ y < x := by
    intro a b
    constructor
    · rintro ⟨hab, l, k, x, y, h1, h2, h3, h4, h5⟩
      by_cases hb : b < z.L.length
      · rw [hold a (by omega)] at h1
        rw [hold b hb] at h2
        exact .inl ⟨hab, l, k, x, y, h1, h2, h3, h4, h5⟩
      · obtain ⟨pb, g1, g2, _⟩ := hget b k (by omega) h2
        by_cases ha : a < z.L.length
        · rw [hold a ha] at h1
          have e1 := (h.par l (List.mem_of_getElem? h1) x (by rw [h3]; simp)).2
          have e2 := (hp pb (List.mem_of_getElem? g1)).2 y (by rw [← g2, h4]; simp)
          omega
        · obtain ⟨pa, f1, f2, _⟩ := hget a l (by omega) h1
          refine .inr ⟨a - z.L.length, b - z.L.length, by omega, by omega, by omega, x, y, ?_, ?_, h5⟩
          · rw [f1, ← f2, h3]
          · rw [g1, ← g2, h4]
    · rintro (⟨hab, l, k, x, y, h1, h2, h3, h4, h5⟩ | ⟨i, j, rfl, rfl, hij, x, y, h1, h2, h3⟩)
      · exact ⟨hab, l, k, x, y, by rw [hold a (List.getElem?_eq_some_iff.1 h1).1]; exact h1, by rw [hold b (List.getElem?_eq_some_iff.1 h2).1]; exact h2, h3, h4, h5⟩
      · refine ⟨by omega, ⟨R, K, [x], side z.L s z.u⟩, ⟨R, K, [y], side z.L s z.u⟩, x, y, ?_, ?_, rfl, rfl, h3⟩
        · simp only [stepW]; rw [List.getElem?_append_right (by omega), Nat.add_sub_cancel_left]; simp only [mkL, List.getElem?_map, h1, Option.map_some]
        · simp only [stepW]; rw [List.getElem?_append_right (by omega), Nat.add_sub_cancel_left]; simp only [mkL, List.getElem?_map, h2, Option.map_some]
  refine ⟨?_, ?_, ?_, ?_, ?_⟩
  · intro l hm p hpm
    simp only [stepW] at hm ⊢
    rcases List.mem_append.1 hm with hm | hm
    · have := h.par l hm p hpm; omega
    · simp only [mkL, List.mem_map] at hm
      obtain ⟨ps, h1, rfl⟩ := hm
      have := (hp ps h1).2 p hpm; omega
  · simp only [stepW, List.map_append]
    rw [List.nodup_append]
    refine ⟨h.nd, hn1, fun x hx y hy e => ?_⟩
    subst e
    obtain ⟨a, b, rfl, _, hb⟩ := h.bd x hx
    obtain ⟨i, j, e, _, _⟩ := crs_ge hs hy
    simp only [Prod.mk.injEq] at e
    omega
  · intro q hq
    simp only [stepW, List.map_append, List.mem_append, List.length_append, mkL_len, hl] at hq ⊢
    rcases hq with hq | hq
    · obtain ⟨a, b, rfl, h1, h2⟩ := h.bd q hq; exact ⟨a, b, rfl, h1, by omega⟩
    · obtain ⟨a, b, rfl, h1, h2⟩ := crs_ge hs hq; exact ⟨_, _, rfl, by omega, by omega⟩
  · intro a b
    rw [hinv]
    simp only [stepW, List.map_append, List.mem_append]
    rw [h.iff a b]
    constructor
    · rintro (h1 | h1)
      · exact .inl h1
      · obtain ⟨i, j, e, _, _⟩ := crs_ge hs h1
        simp only [Prod.mk.injEq] at e
        obtain ⟨rfl, rfl⟩ : a = z.L.length + i ∧ b = z.L.length + j := by omega
        obtain ⟨hij, hx⟩ := (hn2 i j).1 h1
        exact .inr ⟨i, j, rfl, rfl, hij, hx⟩
    · rintro (h1 | ⟨i, j, rfl, rfl, hij, hx⟩)
      · exact .inl h1
      · exact .inr ((hn2 i j).2 ⟨hij, hx⟩)
  · intro a b l k hi h1 h2
    rcases (hinv a b).1 hi with h3 | ⟨i, j, rfl, rfl, _, _⟩
    · have hb : b < z.L.length := by obtain ⟨_, _, _, _, _, _, g, _⟩ := h3; exact (List.getElem?_eq_some_iff.1 g).1
      rw [hold a (by have := h3.1; omega)] at h1
      rw [hold b hb] at h2
      exact h.cell a b l k h3 h1 h2
    · obtain ⟨_, _, _, e1⟩ := hget _ l (by omega) h1
      obtain ⟨_, _, _, e2⟩ := hget _ k (by omega) h2
      rw [e1, e2]
theorem cinv.start (S : Nat) : cinv (zeroL S) [] 0 := by
  have hp : ∀ l, l ∈ zeroL S → l.Parents = [] := by
    intro l hl
    simp only [zeroL, List.mem_map] at hl
    obtain ⟨_, _, rfl⟩ := hl; rfl
  have hi : ∀ a b, ¬ inv (zeroL S) a b := by
    rintro a b ⟨_, l, _, x, _, h1, _, h3, _⟩
    rw [hp l (List.mem_of_getElem? h1)] at h3; cases h3
  exact ⟨fun l hl p hpm => by rw [hp l hl] at hpm; simp at hpm, by simp, fun q hq => by simp at hq, fun a b => ⟨fun h => by simp at h, fun h => absurd h (hi a b)⟩, fun a b l k h => absurd h (hi a b)⟩

end Go.Proofs.Yticjoiolfibmlaa
namespace Go.Proofs.Yticjoiolfibmlaa
open Go.RowKit
set_option linter.unusedVariables false

theorem cells_all {R : Nat} {l : List api_Stitch} {z : Wk} (P : Nat → Wk → Prop) (h0 : P 0 z) (step : ∀ (j : Nat) (hj : j < l.length) (y : Wk), P j y → P (j + 1) (stepW R j l[j] y)) : ∀ k, k ≤ l.length → P k (cellsW R 0 (l.take k) z) := by
  intro k
  induction k with
  | zero => intro _; exact h0
  | succ k ih =>
    intro hk
    rw [List.take_succ_eq_append_getElem (by omega), cellsW_snoc]
    have := step k (by omega) _ (ih (by omega))
    rwa [Nat.zero_add, List.length_take, Nat.min_eq_left (by omega)]
theorem rows_all {fs : List (List api_Stitch)} {z : Wk × List Int} (P : Nat → Wk × List Int → Prop) (h0 : P 0 z)
    (step : ∀ (i : Nat) (hi : i < fs.length) (y : Wk × List Int), P i y → P (i + 1) (cellsW (i + 1) 0 fs[i] y.1, y.2 ++ [((cellsW (i + 1) 0 fs[i] y.1).L.length : Int)])) : ∀ k, k ≤ fs.length → P k (rowsW 0 (fs.take k) z) := by
  intro k
  induction k with
  | zero => intro _; exact h0
  | succ k ih =>
    intro hk
    rw [List.take_succ_eq_append_getElem (by omega), rowsW_snoc]
    have := step k (by omega) _ (ih (by omega))
    rwa [Nat.zero_add, List.length_take, Nat.min_eq_left (by omega)]
theorem offs_snoc (S : Nat) (fs : List (List api_Stitch)) (k : Nat) : ((List.range (k + 2)).map fun r => (off S fs r : Int)) ++ [(off S fs (k + 2) : Int)] = (List.range (k + 1 + 2)).map fun r => (off S fs r : Int) := by
  rw [List.range_succ (n := k + 1 + 1), List.map_append]; rfl
/-- the bounds of what is bound off and of the pairs -/
structure Bd (k j : Nat) (z : Wk) : Prop where
  B : z.B.length ≤ z.u
  C : z.C.length ≤ 36 * (200 * k + j)
theorem offB_len {s : api_Stitch} (u : Nat) : (offB s u).length ≤ uN s := by
  unfold offB
  split
  · rename_i h; rw [ups_len]; simp [uN, usedS, h]
  · simp
theorem crs_len {s : api_Stitch} (h : okS s) (n : Nat) : (crs s n).length ≤ 36 := by
  rcases knd h with ⟨b, rfl⟩ | ⟨b, rfl⟩ | rfl | ⟨b, a, h2, h3, rfl⟩ | ⟨b, a, h2, h3, rfl⟩ | ⟨b, a, h2, h3, rfl⟩ | ⟨k, b, a, c, hk, h2, h3, h4, h5, rfl⟩ | ⟨a, h2, h3, rfl⟩ | ⟨b, a, h2, h3, rfl⟩
  · simp [crs]
  · simp [crs]
  · simp [crs]
  · simp [crs]
  · simp [crs]
  · simp [crs]
  · have e : ((crs ⟨k, b, (a : Int), (c : Int)⟩ n).map norm).length = a * c := by
      rw [crs_x hk]
      have : ∀ m, ((List.range m).map fun i => (List.range c).map fun j => (((n + j : Nat) : Int), ((n + c + i : Nat) : Int))).flatten.length = m * c := by
        intro m
        induction m with
        | zero => simp
        | succ m ih => rw [List.range_succ, List.map_append, List.flatten_append, List.length_append, ih]; simp [Nat.add_mul]
      exact this a
    rw [List.length_map] at e
    have := Nat.mul_le_mul h3 h5
    omega
  · simp [crs]
  · simp [crs]
theorem Bd.step {k j R K : Nat} {s : api_Stitch} {z : Wk} (hs : okS s) (h : Bd k j z) : Bd k (j + 1) (stepW R K s z) := by
  have h1 := offB_len (s := s) z.u
  have h2 := crs_len hs z.L.length
  have := h.B
  have := h.C
  exact ⟨by simp only [stepW, List.length_append]; omega, by simp only [stepW, List.length_append]; omega⟩
/-- what is there after k rows -/
def stC (S : Nat) (fs : List (List api_Stitch)) (k : Nat) : Wk × List Int := rowsW 0 (fs.take k) (⟨zeroL S, [], [], 0⟩, [0, (S : Int)])
theorem stC_all {S : Nat} {fs : List (List api_Stitch)} (hf : okF S fs) (P : Nat → Nat → Wk → Prop) (h0 : P 0 0 ⟨zeroL S, [], [], 0⟩)
    (step : ∀ (k j : Nat) (hk : k < fs.length) (hj : j < fs[k].length) (z : Wk), LInv S fs k j z → P k j z → P k (j + 1) (stepW (k + 1) j (fs[k][j]) z))
    (row : ∀ (k : Nat) (hk : k < fs.length) (z : Wk), LInv S fs (k + 1) 0 z → P k fs[k].length z → P (k + 1) 0 z) :
    ∀ k, k ≤ fs.length → LInv S fs k 0 (stC S fs k).1 ∧ P k 0 (stC S fs k).1 ∧ (stC S fs k).2 = (List.range (k + 2)).map fun r => (off S fs r : Int) := by
  refine rows_all (fun k z => LInv S fs k 0 z.1 ∧ P k 0 z.1 ∧ z.2 = (List.range (k + 2)).map fun r => (off S fs r : Int)) ⟨LInv.start S fs, h0, by simp [off, nR, List.range_succ]⟩ ?_
  rintro k hk ⟨z, rs⟩ ⟨h1, h2, h3⟩
  simp only at h1 h2 h3
  have hc : LInv S fs k fs[k].length (cellsW (k + 1) 0 fs[k] z) ∧ P k fs[k].length (cellsW (k + 1) 0 fs[k] z) :=
    cells_ind (fun j y => LInv S fs k j y ∧ P k j y) ⟨h1, h2⟩ fun j hj y hy => ⟨hy.1.step hf hk hj, step k j hk hj y hy.1 hy.2⟩
  have hr := hc.1.row hf hk
  refine ⟨hr, row k hk _ hr hc.2, ?_⟩
  simp only
  rw [h3, hr.len, ← offs_snoc]
  simp [pm, smN]
theorem stC_cells {S : Nat} {fs : List (List api_Stitch)} (hf : okF S fs) {k : Nat} (hk : k < fs.length) (P : Nat → Wk → Prop) (h0 : P 0 (stC S fs k).1)
    (step : ∀ (j : Nat) (hj : j < fs[k].length) (z : Wk), LInv S fs k j z → P j z → P (j + 1) (stepW (k + 1) j (fs[k][j]) z)) :
    ∀ j, j ≤ fs[k].length → LInv S fs k j (cellsW (k + 1) 0 (fs[k].take j) (stC S fs k).1) ∧ P j (cellsW (k + 1) 0 (fs[k].take j) (stC S fs k).1) := by
  have hz := (stC_all hf (fun _ _ _ => True) trivial (fun _ _ _ _ _ _ _ => trivial) (fun _ _ _ _ _ => trivial) k (by omega)).1
  exact cells_all (fun j y => LInv S fs k j y ∧ P j y) ⟨hz, h0⟩ fun j hj y hy => ⟨hy.1.step hf hk hj, step j hj y hy.1 hy.2⟩
theorem stC_succ {S : Nat} {fs : List (List api_Stitch)} {k : Nat} (hk : k < fs.length) : stC S fs (k + 1) = (cellsW (k + 1) 0 fs[k] (stC S fs k).1, (stC S fs k).2 ++ [((cellsW (k + 1) 0 fs[k] (stC S fs k).1).L.length : Int)]) := by
  unfold stC
  rw [List.take_succ_eq_append_getElem hk, rowsW_snoc, Nat.zero_add, List.length_take, Nat.min_eq_left (by omega)]
theorem stC_bd {S : Nat} {fs : List (List api_Stitch)} (hf : okF S fs) (k : Nat) (hk : k ≤ fs.length) : Bd k 0 (stC S fs k).1 := by
  refine (stC_all hf (fun k j z => Bd k j z) ⟨by simp, by simp⟩ ?_ ?_ k hk).2.1
  · intro k j hk hj z _ h
    exact h.step ((hf.2 k hk).1 _ (List.getElem_mem _))
  · intro k hk z _ h
    have := (hf.2 k hk).2.1
    exact ⟨h.B, Nat.le_trans h.C (by omega)⟩
/-- one row, as the program works it -/
theorem pu_le {S : Nat} {fs : List (List api_Stitch)} (hf : okF S fs) {k j : Nat} (hk : k < fs.length) (hj : j < fs[k].length) : pu S fs k j + uN (fs[k][j]) ≤ off S fs (k + 1) := by
  have hg : fs.getD k [] = fs[k] := by simp [List.getD_eq_getElem?_getD, List.getElem?_eq_getElem hk]
  have h1 := smN_take uN fs[k] hj
  have h2 := smN_take_le uN fs[k] (j + 1)
  have h3 := (hf.2 k hk).2.2.2
  simp only [pu, hg, off]
  omega
theorem pm_le {S : Nat} {fs : List (List api_Stitch)} (hf : okF S fs) {k j : Nat} (hk : k < fs.length) : off S fs (k + 1) ≤ pm S fs k j ∧ pm S fs k j ≤ off S fs (k + 2) := by
  have hg : fs.getD k [] = fs[k] := by simp [List.getD_eq_getElem?_getD, List.getElem?_eq_getElem hk]
  have h2 := smN_take_le mN fs[k] j
  have h3 := nR_succ (S := S) hk
  simp only [pm, hg, off, h3]
  omega
theorem cells_at (R : Nat) (l : List api_Stitch) (z : Wk) {j : Nat} (hj : j < l.length) : cellsW R 0 (l.take (j + 1)) z = stepW R j l[j] (cellsW R 0 (l.take j) z) := by
  rw [List.take_succ_eq_append_getElem hj, cellsW_snoc, Nat.zero_add, List.length_take, Nat.min_eq_left (by omega)]
theorem row_loop {S : Nat} {fs : List (List api_Stitch)} (hf : okF S fs) (hfl : fs.length ≤ 100) {k : Nat} (hk : k < fs.length) (e : Int) (rs : List Int) :
    whileO (loops_of_l2 (fs[k], e) (k : Int)) (0, (stC S fs k).1.L, rs, (stC S fs k).1.B, (stC S fs k).1.C, ((stC S fs k).1.u : Int)) =
      some ((stC S fs (k + 1)).1.L, rs, (stC S fs (k + 1)).1.B, (stC S fs (k + 1)).1.C, ((stC S fs (k + 1)).1.u : Int)) := by
  have hall := stC_cells hf hk (fun j z => Bd k j z) (stC_bd hf k (by omega)) fun j hj z _ h => h.step ((hf.2 k hk).1 _ (List.getElem_mem _))
  have hlen := (hf.2 k hk).2.1
  rw [stC_succ hk]
  generalize stC S fs k = z at hall
  refine loop_sq (fun j => ((j : Int), (cellsW (k + 1) 0 (fs[k].take j) z.1).L, rs, (cellsW (k + 1) 0 (fs[k].take j) z.1).B, (cellsW (k + 1) 0 (fs[k].take j) z.1).C, ((cellsW (k + 1) 0 (fs[k].take j) z.1).u : Int))) fs[k].length (by simp [cellsW]) ?_ ?_
  · intro j hj
    obtain ⟨hL, hB⟩ := hall j (by omega)
    have h1 := pu_le hf hk hj
    have h2 := pm_le hf hk (j := j)
    have h3 := off_le hf (r := k + 2) (by omega)
    have h4 := off_mono (S := S) (fs := fs) (a := k + 1) (b := k + 2) (by omega)
    have h5 := hB.B
    have h6 := hB.C
    have h7 := hL.len
    have h8 := hL.u
    unfold loops_of_l2
    simp only [dT (show (j : Int) < (fs[k].length : Int) by omega), if_true]
    rw [idxO_nat hj, Option.bind_some, w64_succ (by omega), work_eq (k + 1) j (cellsW (k + 1) 0 (fs[k].take j) z.1).u ((hf.2 k hk).1 _ (List.getElem_mem _)) rfl (by simp only; omega) (by simp only; omega) (by simp only; omega) (by simp only; omega), Option.bind_some, w64_succ (by omega), cells_at (k + 1) fs[k] z.1 hj]
    rfl
  · unfold loops_of_l2
    simp only [dF (show ¬ (fs[k].length : Int) < (fs[k].length : Int) by omega), Bool.false_eq_true, if_false, List.take_length]
theorem face_eq {c : api_Chart} (hw : wfR c.Rows) (hk : chk c = 0) {i : Nat} (hi : i < c.Rows.length) : F_chart_Face c (i : Int) = some (faceR c.Rows[i], 0) := by
  have hrows := chk_ok hk
  have hall := chkR_mem hrows.2.2.2 _ (List.getElem_mem hi)
  have hlen := (allS_ok hall).1
  unfold F_chart_Face
  rw [chart_check_eq c hw, Option.bind_some, hk]
  simp only [show ((0 : Int) != 0) = false from rfl, Bool.false_eq_true, if_false, dF (show ¬ (i : Int) < 0 by omega), dF (show ¬ (c.Rows.length : Int) ≤ (i : Int) by omega), Option.bind_some]
  rw [idxO_nat hi, Option.bind_some]
  unfold faceR
  by_cases hb : c.Rows[i].Back = true
  · rw [if_pos hb, if_pos hb, turn_eq (hw _ (List.getElem_mem hi)), if_pos hall]; rfl
  · rw [if_neg hb, if_neg hb]
    unfold F_slices_Clone___api_Stitch_api_Stitch_
    rw [appO_of (by simp; omega), Option.bind_some]; rfl
theorem okF_of {c : api_Chart} (hk : chk c = 0) : okF c.Start.toNat (c.Rows.map faceR) ∧ c.Rows.length ≤ 100 ∧ ((c.Start.toNat : Nat) : Int) = c.Start := by
  obtain ⟨h1, h2, h3, h4⟩ := chk_ok hk
  have hface : ∀ r : api_Row, allS r.Cells = 0 → allS (faceR r) = 0 ∧ sm usedS (faceR r) = sm usedS r.Cells ∧ sm madeS (faceR r) = sm madeS r.Cells := by
    intro r hr
    unfold faceR
    split
    · exact turned_ok hr
    · exact ⟨hr, rfl, rfl⟩
  have key : ∀ (rs : List api_Row) (S : Nat), S ≤ 200 → chkR (S : Int) rs = 0 → okF S (rs.map faceR) := by
    intro rs
    induction rs with
    | nil => intro S hS _; exact ⟨hS, fun i h => absurd h (by simp)⟩
    | cons r rs ih =>
      intro S hS hc
      obtain ⟨a1, a2, a3⟩ := chkR_cons.1 hc
      obtain ⟨b1, b2, b3⟩ := hface r a1
      obtain ⟨c1, c2, c3, c4⟩ := allS_ok b1
      have u1 := smN_used c2
      have m1 := smN_made c2
      have hm : ((smN mN (faceR r) : Nat) : Int) = sm madeS r.Cells := by omega
      have ih := ih (smN mN (faceR r)) (by omega) (by rw [hm]; exact a3)
      refine ⟨hS, fun i hi => ?_⟩
      cases i with
      | zero =>
        simp only [List.map_cons, List.getElem_cons_zero]
        refine ⟨c2, c1, by omega, ?_⟩
        simp only [nR, if_true]; omega
      | succ i =>
        have hi' : i < (rs.map faceR).length := by simpa using hi
        have := ih.2 i hi'
        simp only [List.map_cons, List.getElem_cons_succ]
        refine ⟨this.1, this.2.1, this.2.2.1, ?_⟩
        rw [this.2.2.2]
        unfold nR
        by_cases e : i = 0
        · subst e; simp
        · obtain ⟨m, rfl⟩ : ∃ m, i = m + 1 := ⟨i - 1, by omega⟩
          simp
  have e : ((c.Start.toNat : Nat) : Int) = c.Start := by omega
  exact ⟨key c.Rows c.Start.toNat (by omega) (by rw [e]; exact h4), h1, e⟩
theorem workC_eq {c : api_Chart} (hk : chk c = 0) : workC c = stC c.Start.toNat (c.Rows.map faceR) (c.Rows.map faceR).length := by
  have e := (okF_of hk).2.2
  unfold workC stC
  rw [List.take_length, e]
theorem zeroL_succ (i : Nat) : zeroL (i + 1) = zeroL i ++ [⟨0, (i : Int), [], false⟩] := by simp [zeroL, List.range_succ]
def pieceOf (z : Wk × List Int) : loops_piece := ⟨z.1.L, z.2, z.1.B, z.1.C, (z.1.u : Int)⟩
theorem of_eq (c : api_Chart) (hw : wfR c.Rows) : F_loops_of c = some (if chk c = 0 then (pieceOf (workC c), 0) else (⟨[], [], [], [], 0⟩, chk c)) := by
  unfold F_loops_of
  rw [chart_check_eq c hw, Option.bind_some]
  by_cases hk : chk c = 0
  · rw [if_pos hk, hk]
    simp only [show ((0 : Int) != 0) = false from rfl, Bool.false_eq_true, if_false]
    obtain ⟨hf, hl, hs⟩ := okF_of hk
    rw [workC_eq hk]
    generalize hS : c.Start.toNat = S at *
    generalize hfs : c.Rows.map faceR = fs at *
    have hfl : fs.length = c.Rows.length := by rw [← hfs, List.length_map]
    have k1 : whileO (loops_of_l1 c) (0, ([] : List api_Loop)) = some (zeroL S) := by
      refine loop_sq (fun i => ((i : Int), zeroL i)) S (by simp [zeroL]) ?_ ?_
      · intro i hi
        unfold loops_of_l1
        simp only [dT (show (i : Int) < c.Start by omega), if_true]
        have := hf.1
        rw [appO_of (by simp [zeroL]; omega), Option.bind_some, zeroL_succ, w64_succ (by omega)]
      · unfold loops_of_l1
        simp only [dF (show ¬ (S : Int) < c.Start by omega), Bool.false_eq_true, if_false]
    have k3 : whileO (loops_of_l3 c) (0, zeroL S, ([0, c.Start] : List Int), ([] : List Int), ([] : List (Int × Int)), 0) =
        some ((stC S fs fs.length).1.L, (stC S fs fs.length).2, (stC S fs fs.length).1.B, (stC S fs fs.length).1.C, ((stC S fs fs.length).1.u : Int)) := by
      refine loop_sq (fun k => ((k : Int), (stC S fs k).1.L, (stC S fs k).2, (stC S fs k).1.B, (stC S fs k).1.C, ((stC S fs k).1.u : Int))) fs.length (by simp [stC, rowsW, hs]) ?_ ?_
      · intro k hk'
        have hk2 : k < c.Rows.length := by omega
        have hfk : fs[k] = faceR c.Rows[k] := by simp [← hfs]
        have hrs := (stC_all hf (fun _ _ _ => True) trivial (fun _ _ _ _ _ _ _ => trivial) (fun _ _ _ _ _ => trivial) k (by omega)).2.2
        unfold loops_of_l3
        simp only [dT (show (k : Int) < (c.Rows.length : Int) by omega), if_true]
        rw [face_eq hw hk hk2, Option.bind_some, ← hfk, row_loop hf (by omega) hk' 0 _]
        simp only [Option.bind_some]
        rw [appO_of (by rw [hrs]; simp; omega), w64_succ (by omega)]
        simp only [Option.bind_some]
        rw [stC_succ hk']
      · unfold loops_of_l3
        simp only [dF (show ¬ (fs.length : Int) < (c.Rows.length : Int) by omega), Bool.false_eq_true, if_false]
    rw [k1]
    simp only [Option.bind_some]
    rw [k3]
    rfl
  · rw [if_neg hk, nT hk, if_pos rfl]

end Go.Proofs.Yticjoiolfibmlaa
