/- Several texts in one: G44 G20 PlV G16 G4 LPB LPBv FrPieceBack -/
import Derived.WalkKit
import Derived.Maps.AppendAt
import Derived.Deep.AppendLies
import Derived.KernelRfl
import Derived.Laws.OwnMore
import Derived.Great.BuildSlice
import Derived.Orders
import Derived.Laws.StructEq
import Derived.ChangeKeysEq
import Derived.Defers
import Derived.Laws.BytesString
import Derived.RangeFuncNested
import Derived.RangeFuncBound
import Derived.RangeFuncCalls
import Derived.RangeFuncLeaves
import Derived.OrdersIn
import Derived.LoopNIn
import Derived.Test.YtmedbnjhgkcndaaDoorProg
import Derived.ProofKit
import Derived.OpenShut
import Derived.ChangeOld
import Derived.Deep.Slices
import Derived.Lib.SmallJoins
import Derived.JoinedOf
import Derived.JoinedAt
import Derived.Below
import Derived.Shelf.Strings.Builder1
import Derived.Shelf.Strings.Builder2
import Derived.Shelf.Strings.OnBuilder
import Derived.Test.YtmedbnjhgkcndaaDoorRows
import Derived.LaidMore
import Derived.SevenTiedAt
import Derived.Test.YtmedbnjhgkcndaaDoorCards
import Derived.Test.YtmedbnjhgkcndaaDoorTie
import Derived.Test.YtmedbnjhgkcndaaDoorMPieceBack5
namespace Go.Proofs.YtmedbnjhgkcndaaDoor
open Go.RowKit
set_option linter.unusedVariables false

def anc_raddleref25_Same_0 : List (List Nat) := [[], [], [0, 1], [0, 1, 2], [], [], [4, 5], [4, 5, 6], [0, 1, 2, 3, 4, 5, 6, 7]]
noncomputable def raddleref25_Same_l1 (p0 : (List api_Stitch)) (p1 : (List api_Stitch)) : Int → Option (Int ⊕ (Bool ⊕ Unit)) := fun s0 => match s0 with
  | s13 =>
    if decide (s13 < (p0.length : Int)) then
      Option.bind (idxO p0 s13) fun x22 =>
      Option.bind (idxO p1 s13) fun x27 =>
      if !((x22.Kind == x27.Kind) && ((x22.Purl == x27.Purl) && ((x22.A == x27.A) && ((x22.B == x27.B) && true)))) then
        some (.inr (.inl false))
      else
        some (.inl (w64 (s13 + 1)))
    else
      some (.inr (.inr ()))
noncomputable def F_raddleref25_Same (p0 : (List api_Stitch)) (p1 : (List api_Stitch)) : Option Bool :=
  if (p0.length : Int) != (p1.length : Int) then
    some false
  else
    Option.bind (α := Unit ⊕ Bool) (
      Option.bind (whileO (raddleref25_Same_l1 p0 p1) 0) fun z0 => match z0 with
        | .inl z =>
          some (.inr z)
        | .inr _ =>
          some (.inl ())) fun z0 => match z0 with
      | .inl _ =>
        some true
      | .inr z =>
        some z
set_option maxHeartbeats 4000000 in
set_option maxRecDepth 100000 in
theorem c_raddleref25_Same (E : Nat → Prop) (w0 : World) (p0 : (List api_Stitch)) (v0 : Value) (p1 : (List api_Stitch)) (v1 : Value) (r : Bool) (h : F_raddleref25_Same p0 p1 = some r) (S : St0 E [] w0 w0 [] [fRep (rL r_api_Stitch) (v0) p0, fRep (rL r_api_Stitch) (v1) p1]) :
    Calls Tryd.prog 44 #[v0, v1] w0 (Ret (X := Unit) E [] w0 (fun _ => .bool r) (fun _ => []) (fun _ => [])) := by
  unfold F_raddleref25_Same at h
  obtain ⟨ad1, cp2, _, rfl, _⟩ := S.know (i := 0) (e := fRep (rL r_api_Stitch) (v0) p0) rfl
  obtain ⟨ad3, cp4, _, rfl, _⟩ := S.know (i := 1) (e := fRep (rL r_api_Stitch) (v1) p1) rfl
  refine sEnter (args := [.slice ad1 p0.length cp2, .slice ad3 p1.length cp4]) 26 Tryd.func44 rfl rfl (by simp) S (fun a S => ?_)
  refine sSeq (fun K5 hK5 => ?_)
  refine sRegion ?_
  refine sMove (.bool false) S (wN rfl) (.inr rfl) rfl rfl (lb rfl) fun a S => ?_
  refine leafL (leafT (hK5 _ _ ?_))
  refine sSeq (fun K6 hK6 => ?_)
  refine sSeq (fun K7 hK7 => ?_)
  refine sRegion ?_
  refine sMove (.slice ad1 p0.length cp2) S (wN rfl) (.inl rfl) rfl rfl (lb rfl) fun a S => ?_
  refine sLen (ad := ad1) (m := p0.length) (c := cp2) S (wN rfl) rfl Tryd.underlying52 rfl rfl (lb rfl) fun a S => ?_
  refine sMove (.slice ad3 p1.length cp4) S (wN rfl) (.inl rfl) rfl rfl (lb rfl) fun a S => ?_
  refine sLen (ad := ad3) (m := p1.length) (c := cp4) S (wN rfl) rfl Tryd.underlying52 rfl rfl (lb rfl) fun a S => ?_
  refine sBin (.bool ((p0.length : Int) != (p1.length : Int))) S (wN rfl) rfl rfl rfl (bNe _ _ _ _ .i64 (p0.length : Int) (p1.length : Int)) rfl (lb rfl) fun a S => ?_
  refine leafL (leafT (hK7 _ _ ?_))
  rcases iteSome h with ⟨hc8, h⟩ | ⟨hc8, h⟩
  · refine sCondT S rfl hc8 ?_
    refine sSeq (fun K9 hK9 => ?_)
    refine sRegion ?_
    refine sMove (.bool false) S (wN rfl) (.inr rfl) rfl rfl (lb rfl) fun a S => ?_
    refine leafL (leafT (hK9 _ _ ?_))
    obtain rfl := Option.some.inj h
    exact wp_ret (rThen (sRet (.bool false) S (rsl1 rfl (rvT (t := 4) (v := .bool false) S rfl)) ⟨(), rfl, S.mem.sel [] [] (by decide) rfl rfl⟩))
  refine sCondF S rfl hc8 ?_
  refine wp_skip (leafT (hK6 _ _ ?_))
  obtain ⟨t10, h, g11⟩ := bindSome h
  refine sCut (fun a w => .inl () = t10 ∧ St [] E [] w0 26 a w [] [] []) ?_ (fun a w hI => ?_)
  rotate_left
  · obtain ⟨rfl, S⟩ := hI
    have h := g11
    clear g11
    try dsimp only at h
    refine sSeq (fun K40 hK40 => ?_)
    refine sRegion ?_
    refine sMove (.bool true) S (wN rfl) (.inr rfl) rfl rfl (lb rfl) fun a S => ?_
    refine leafL (leafT (hK40 _ _ ?_))
    obtain rfl := Option.some.inj h
    exact wp_ret (sRet (.bool true) S (rsl1 rfl (rvT (t := 4) (v := .bool true) S rfl)) ⟨(), rfl, S.mem.sel [] [] (by decide) rfl rfl⟩)
  refine sSeq (fun K12 hK12 => ?_)
  refine sRegion ?_
  refine sMove (iv 0) S (wN rfl) (.inr rfl) rfl rfl (lb rfl) fun a S => ?_
  refine leafL (leafT (hK12 _ _ ?_))
  refine wp_block ?_
  obtain ⟨t16, hl, g15⟩ := bindSome h
  refine sLoop hl (fun s0 a w => match s0 with | s13 => St [] E [] w0 26 a w [(0, .slice ad1 p0.length cp2), (1, .slice ad3 p1.length cp4), (5, iv s13)] [] [fRep (rL r_api_Stitch) (.slice ad1 p0.length cp2) p0, fRep (rL r_api_Stitch) (.slice ad3 p1.length cp4) p1]) (S.fix [] [0, 1] (by decide) rfl rfl rfl) ?_
  clear hl h
  intro s13 a w c0 hI h hu14
  unfold raddleref25_Same_l1 at h
  dsimp only at h hI
  have S := hI
  refine sSeq (fun K17 hK17 => ?_)
  refine sSeq (fun K18 hK18 => ?_)
  refine sRegion ?_
  refine sMove (iv s13) S (wN rfl) (.inl rfl) rfl rfl (lb rfl) fun a S => ?_
  refine sMove (.slice ad1 p0.length cp2) S (wN rfl) (.inl rfl) rfl rfl (lb rfl) fun a S => ?_
  refine sLen (ad := ad1) (m := p0.length) (c := cp2) S (wN rfl) rfl Tryd.underlying52 rfl rfl (lb rfl) fun a S => ?_
  refine sBin (.bool (decide (s13 < (p0.length : Int)))) S (wN rfl) rfl rfl rfl (bLt _ _ _ _ .i64 s13 (p0.length : Int)) rfl (lb rfl) fun a S => ?_
  refine leafL (leafT (hK18 _ _ ?_))
  rcases iteSome h with ⟨hc19, h⟩ | ⟨hc19, h⟩
  rotate_left
  · refine sCondF S rfl hc19 ?_
    obtain rfl := Option.some.inj h
    obtain rfl := hu14 _ rfl
    have h := g15
    clear g15
    try dsimp only at h
    exact wp_exit (xThen (xThen (xHit (leafT (⟨Option.some.inj h, S.fix [] [] (by decide) rfl rfl rfl⟩)))))
  refine sCondT S rfl hc19 ?_
  refine wp_skip (leafT (hK17 _ _ ?_))
  refine sSeq (fun K20 hK20 => ?_)
  refine wp_block ?_
  refine sSeq (fun K21 hK21 => ?_)
  obtain ⟨x22, hx23, h⟩ := bindSome h
  obtain ⟨x27, hx28, h⟩ := bindSome h
  obtain ⟨q32, hq33, S⟩ := pIdx (P := Tryd.prog) (r := r_api_Stitch) (v := .slice ad1 p0.length cp2) (xs := p0) (j := s13) 52 56 0 S Tryd.underlying52 rfl rfl hx23
  obtain ⟨u34, S⟩ := pLoad (r := r_api_Stitch) (q := q32) (x := x22) 0 S rfl
  obtain rfl : u34 = .agg #[.int .u8 x22.Kind, .bool x22.Purl, iv x22.A, iv x22.B] := S.mem.know (i := 1) (e := fRep r_api_Stitch (u34) x22) rfl
  obtain ⟨q35, hq36, S⟩ := pIdx (P := Tryd.prog) (r := r_api_Stitch) (v := .slice ad3 p1.length cp4) (xs := p1) (j := s13) 52 56 4 S Tryd.underlying52 rfl rfl hx28
  obtain ⟨u37, S⟩ := pLoad (r := r_api_Stitch) (q := q35) (x := x27) 0 S rfl
  obtain rfl : u37 = .agg #[.int .u8 x27.Kind, .bool x27.Purl, iv x27.A, iv x27.B] := S.mem.know (i := 1) (e := fRep r_api_Stitch (u37) x27) rfl
  refine sDraw (nf := []) (W := [(0, 17, .slice ad1 p0.length cp2), (1, 18, iv s13), (2, 19, q32), (3, 20, .agg #[.int .u8 x22.Kind, .bool x22.Purl, iv x22.A, iv x22.B]), (4, 21, .slice ad3 p1.length cp4), (5, 22, iv s13), (6, 23, q35), (7, 24, .agg #[.int .u8 x27.Kind, .bool x27.Purl, iv x27.A, iv x27.B]), (8, 25, .bool (!((x22.Kind == x27.Kind) && ((x22.Purl == x27.Purl) && ((x22.A == x27.A) && ((x22.B == x27.B) && true))))))]) rfl S ?_
  refine node_by (A := anc_raddleref25_Same_0) (nf := []) (Y := []) (W := [(0, 17, .slice ad1 p0.length cp2), (1, 18, iv s13), (2, 19, q32), (3, 20, .agg #[.int .u8 x22.Kind, .bool x22.Purl, iv x22.A, iv x22.B]), (4, 21, .slice ad3 p1.length cp4), (5, 22, iv s13), (6, 23, q35), (7, 24, .agg #[.int .u8 x27.Kind, .bool x27.Purl, iv x27.A, iv x27.B]), (8, 25, .bool (!((x22.Kind == x27.Kind) && ((x22.Purl == x27.Purl) && ((x22.A == x27.A) && ((x22.B == x27.B) && true))))))]) 9 (by kernel_rfl) (by kernel_rfl) (by kernel_rfl) (by kernel_rfl) (by kernel_rfl) [0, 1, 2, 3, 4, 5, 6, 7, 8] (by kernel_rfl) (by decide) (by decide) (aF 0 8 (by decide) ?_ (aF 1 7 (by decide) ?_ (aF 2 6 (by decide) ?_ (aF 3 5 (by decide) ?_ (aF 4 4 (by decide) ?_ (aF 5 3 (by decide) ?_ (aF 6 2 (by decide) ?_ (aF 7 1 (by decide) ?_ (aF 8 0 (by decide) ?_ (trivial)))))))))) [(0, .slice ad1 p0.length cp2), (1, .slice ad3 p1.length cp4), (5, iv s13), (25, .bool (!((x22.Kind == x27.Kind) && ((x22.Purl == x27.Purl) && ((x22.A == x27.A) && ((x22.B == x27.B) && true))))))] (fin_of [none, none, none, some 8] rfl (by kernel_rfl) (by kernel_rfl)) (fun _ a w S => ?_)
  · refine fI 17 (.slice ad1 p0.length cp2) [(0, .slice ad1 p0.length cp2)] 0 [none] rfl rfl rfl rfl rfl rfl fun G a w S => ?_
    refine sMove (.slice ad1 p0.length cp2) S (wN rfl) (.inl rfl) rfl rfl (lb rfl) fun a S => ?_
    exact leafL ⟨rfl, S⟩
  · refine fI 18 (iv s13) [(5, iv s13)] 1 [none] rfl rfl rfl rfl rfl rfl fun G a w S => ?_
    refine sMove (iv s13) S (wN rfl) (.inl rfl) rfl rfl (lb rfl) fun a S => ?_
    exact leafL ⟨rfl, S⟩
  · refine fI 19 q32 [(17, .slice ad1 p0.length cp2), (18, iv s13)] 2 [some 0, some 1] rfl rfl rfl rfl rfl rfl fun G a w S => ?_
    refine sIdxV (v := .slice ad1 p0.length cp2) (k := .i64) (j := s13) S (wN rfl) rfl rfl rfl hq33 rfl (lb rfl) fun a S => ?_
    exact leafL ⟨rfl, S⟩
  · refine fI 20 (.agg #[.int .u8 x22.Kind, .bool x22.Purl, iv x22.A, iv x22.B]) [(19, q32)] 3 [some 2] rfl rfl rfl rfl rfl rfl fun G a w S => ?_
    refine sLoadVN (vq := q32) 3 [.int .u8 x22.Kind, .bool x22.Purl, iv x22.A, iv x22.B] S (wN rfl) rfl rfl rfl rfl rfl rfl (lb rfl) fun a S => ?_
    exact leafL ⟨rfl, S⟩
  · refine fI 21 (.slice ad3 p1.length cp4) [(1, .slice ad3 p1.length cp4)] 4 [none] rfl rfl rfl rfl rfl rfl fun G a w S => ?_
    refine sMove (.slice ad3 p1.length cp4) S (wN rfl) (.inl rfl) rfl rfl (lb rfl) fun a S => ?_
    exact leafL ⟨rfl, S⟩
  · refine fI 22 (iv s13) [(5, iv s13)] 5 [none] rfl rfl rfl rfl rfl rfl fun G a w S => ?_
    refine sMove (iv s13) S (wN rfl) (.inl rfl) rfl rfl (lb rfl) fun a S => ?_
    exact leafL ⟨rfl, S⟩
  · refine fI 23 q35 [(21, .slice ad3 p1.length cp4), (22, iv s13)] 6 [some 4, some 5] rfl rfl rfl rfl rfl rfl fun G a w S => ?_
    refine sIdxV (v := .slice ad3 p1.length cp4) (k := .i64) (j := s13) S (wN rfl) rfl rfl rfl hq36 rfl (lb rfl) fun a S => ?_
    exact leafL ⟨rfl, S⟩
  · refine fI 24 (.agg #[.int .u8 x27.Kind, .bool x27.Purl, iv x27.A, iv x27.B]) [(23, q35)] 7 [some 6] rfl rfl rfl rfl rfl rfl fun G a w S => ?_
    refine sLoadVN (vq := q35) 0 [.int .u8 x27.Kind, .bool x27.Purl, iv x27.A, iv x27.B] S (wN rfl) rfl rfl rfl rfl rfl rfl (lb rfl) fun a S => ?_
    exact leafL ⟨rfl, S⟩
  · refine fI 25 (.bool (!((x22.Kind == x27.Kind) && ((x22.Purl == x27.Purl) && ((x22.A == x27.A) && ((x22.B == x27.B) && true)))))) [(20, .agg #[.int .u8 x22.Kind, .bool x22.Purl, iv x22.A, iv x22.B]), (24, .agg #[.int .u8 x27.Kind, .bool x27.Purl, iv x27.A, iv x27.B])] 8 [some 3, some 7] rfl rfl rfl rfl rfl rfl fun G a w S => ?_
    refine sBin (.bool (!((x22.Kind == x27.Kind) && ((x22.Purl == x27.Purl) && ((x22.A == x27.A) && ((x22.B == x27.B) && true)))))) S (wN rfl) rfl rfl rfl (bNeV _ _ _ _ #[.int .u8 x22.Kind, .bool x22.Purl, iv x22.A, iv x22.B] #[.int .u8 x27.Kind, .bool x27.Purl, iv x27.A, iv x27.B] ((x22.Kind == x27.Kind) && ((x22.Purl == x27.Purl) && ((x22.A == x27.A) && ((x22.B == x27.B) && true)))) (by kernel_rfl) (eqlV_of (by kernel_rfl))) rfl (lb rfl) fun a S => ?_
    exact leafL ⟨rfl, S⟩
  refine leafT (hK21 _ _ ?_)
  rcases iteSome h with ⟨hc38, h⟩ | ⟨hc38, h⟩
  rotate_left
  · refine sCondF S rfl hc38 ?_
    refine wp_skip (leafB (leafT (hK20 _ _ ?_)))
    refine sRegion ?_
    refine sMove (iv s13) S (wN rfl) (.inl rfl) rfl rfl (lb rfl) fun a S => ?_
    refine sBin (iv (w64 (s13 + 1))) S (wN rfl) rfl rfl rfl (bAdd _ _ _ _ s13 1) rfl (lb rfl) fun a S => ?_
    refine sMove (iv (w64 (s13 + 1))) S (wN rfl) (.inr rfl) rfl rfl (lb rfl) fun a S => ?_
    exact leafL (leafT (⟨w64 (s13 + 1), (Option.some.inj h).symm, (S.fix [] [6, 7] (by decide) rfl rfl rfl)⟩))
  refine sCondT S rfl hc38 ?_
  refine sSeq (fun K39 hK39 => ?_)
  refine sRegion ?_
  refine sMove (.bool false) S (wN rfl) (.inr rfl) rfl rfl (lb rfl) fun a S => ?_
  refine leafL (leafT (hK39 _ _ ?_))
  obtain rfl := Option.some.inj h
  obtain rfl := hu14 _ rfl
  have h := g15
  clear g15
  try dsimp only at h
  obtain rfl := Option.some.inj h
  have h := g11
  clear g11
  try dsimp only at h
  obtain rfl := Option.some.inj h
  exact wp_ret (rBlock (rThen (rThen (rBlock (rThen (sRet (.bool false) S (rsl1 rfl (rvT (t := 4) (v := .bool false) S rfl)) ⟨(), rfl, S.mem.sel [] [] (by decide) rfl rfl⟩))))))

end Go.Proofs.YtmedbnjhgkcndaaDoor
namespace Go.Proofs.YtmedbnjhgkcndaaDoor
open Go.RowKit
set_option linter.unusedVariables false

def anc_raddleref37_SameChart_0 : List (List Nat) := [[], [0], [], [0, 1, 2], [0, 1, 2, 3], [0, 1, 2, 3, 4], [], [6], [], [6, 7, 8], [6, 7, 8, 9], [6, 7, 8, 9, 10], [0, 1, 2, 3, 4, 5, 6, 7, 8, 9, 10, 11], [0, 1, 2, 3, 4, 5, 6, 7, 8, 9, 10, 11, 12], [0, 1, 2, 3, 4, 5, 6, 7, 8, 9, 10, 11, 12, 13], [0, 1, 2, 3, 4, 5, 6, 7, 8, 9, 10, 11, 12, 13, 14], [0, 1, 2, 3, 4, 5, 6, 7, 8, 9, 10, 11, 12, 13], [0, 1, 2, 3, 4, 5, 6, 7, 8, 9, 10, 11, 12, 13, 14, 15, 16], [0, 1, 2, 3, 4, 5, 6, 7, 8, 9, 10, 11, 12, 13, 14, 15, 16, 17], [0, 1, 2, 3, 4, 5, 6, 7, 8, 9, 10, 11, 12, 13, 14, 15, 16, 17, 18], [0, 1, 2, 3, 4, 5, 6, 7, 8, 9, 10, 11, 12, 13], [0, 1, 2, 3, 4, 5, 6, 7, 8, 9, 10, 11, 12, 13, 20], [0, 1, 2, 3, 4, 5, 6, 7, 8, 9, 10, 11, 12, 13], [0, 1, 2, 3, 4, 5, 6, 7, 8, 9, 10, 11, 12, 13, 20, 21, 22], [0, 1, 2, 3, 4, 5, 6, 7, 8, 9, 10, 11, 12, 13, 20, 21, 22, 23], [0, 1, 2, 3, 4, 5, 6, 7, 8, 9, 10, 11, 12, 13, 20, 21, 22, 23, 24], [0, 1, 2, 3, 4, 5, 6, 7, 8, 9, 10, 11, 12, 13, 14, 15, 16, 17, 18, 19, 20, 21, 22, 23, 24, 25], [0, 1, 2, 3, 4, 5, 6, 7, 8, 9, 10, 11, 12, 13, 14, 15, 16, 17, 18, 19, 20, 21, 22, 23, 24, 25, 26], [0, 1, 2, 3, 4, 5, 6, 7, 8, 9, 10, 11, 12, 13, 14, 15, 16, 17, 18, 19, 20, 21, 22, 23, 24, 25, 26, 27]]
noncomputable def raddleref37_SameChart_l1 (p0 : api_Chart) (p1 : api_Chart) : Int → Option (Int ⊕ (Bool ⊕ Unit)) := fun s0 => match s0 with
  | s22 =>
    if decide (s22 < (p0.Rows.length : Int)) then
      Option.bind (α := Bool) (
        Option.bind (idxO p0.Rows s22) fun x33 =>
        Option.bind (idxO p1.Rows s22) fun x40 =>
        if x33.Back != x40.Back then
          some true
        else
          Option.bind (F_raddleref25_Same x33.Cells x40.Cells) fun r72 =>
          some (!r72)) fun o30 =>
      if o30 then
        some (.inr (.inl false))
      else
        some (.inl (w64 (s22 + 1)))
    else
      some (.inr (.inr ()))
noncomputable def F_raddleref37_SameChart (p0 : api_Chart) (p1 : api_Chart) : Option Bool :=
  Option.bind (α := Bool) (
    if p0.Start != p1.Start then
      some true
    else
      some ((p0.Rows.length : Int) != (p1.Rows.length : Int))) fun o13 =>
  if o13 then
    some false
  else
    Option.bind (α := Unit ⊕ Bool) (
      Option.bind (whileO (raddleref37_SameChart_l1 p0 p1) 0) fun z0 => match z0 with
        | .inl z =>
          some (.inr z)
        | .inr _ =>
          some (.inl ())) fun z0 => match z0 with
      | .inl _ =>
        some true
      | .inr z =>
        some z
set_option maxHeartbeats 4000000 in
set_option maxRecDepth 100000 in
theorem c_raddleref37_SameChart (E : Nat → Prop) (w0 : World) (p0 : api_Chart) (v0 : Value) (p1 : api_Chart) (v1 : Value) (r : Bool) (h : F_raddleref37_SameChart p0 p1 = some r) (S : St0 E [] w0 w0 [] [fRep r_api_Chart (v0) p0, fRep r_api_Chart (v1) p1]) :
    Calls Tryd.prog 20 #[v0, v1] w0 (Ret (X := Unit) E [] w0 (fun _ => .bool r) (fun _ => []) (fun _ => [])) := by
  unfold F_raddleref37_SameChart at h
  obtain ⟨u1, rfl, hu2⟩ := S.know (i := 0) (e := fRep r_api_Chart (v0) p0) rfl
  have S := S.learn (fRep (rL r_api_Row) u1 p0.Rows) hu2
  obtain ⟨ad3, cp4, _, rfl, _⟩ := hu2
  obtain ⟨u5, rfl, hu6⟩ := S.know (i := 2) (e := fRep r_api_Chart (v1) p1) rfl
  have S := S.learn (fRep (rL r_api_Row) u5 p1.Rows) hu6
  obtain ⟨ad7, cp8, _, rfl, _⟩ := hu6
  refine sEnter (args := [.agg #[iv p0.Start, .slice ad3 p0.Rows.length cp4], .agg #[iv p1.Start, .slice ad7 p1.Rows.length cp8]]) 56 Tryd.func20 rfl rfl (by simp) S (fun a S => ?_)
  refine sSeq (fun K9 hK9 => ?_)
  refine sRegion ?_
  refine sBox (v := .agg #[iv p0.Start, .slice ad3 p0.Rows.length cp4]) S (wN rfl) rfl rfl [iv p0.Start, .slice ad3 p0.Rows.length cp4] rfl rfl (lb rfl) fun a b10 w S => ?_
  refine sBox (v := .agg #[iv p1.Start, .slice ad7 p1.Rows.length cp8]) S (wN rfl) rfl rfl [iv p1.Start, .slice ad7 p1.Rows.length cp8] rfl rfl (lb rfl) fun a b11 w S => ?_
  refine sMove (.bool false) S (wN rfl) (.inr rfl) rfl rfl (lb rfl) fun a S => ?_
  refine leafL (leafT (hK9 _ _ ?_))
  refine sSeq (fun K12 hK12 => ?_)
  obtain ⟨t14, h, g15⟩ := bindSome h
  refine sCut (fun a w => ∃ o13, o13 = t14 ∧ St [] E [] w0 56 a w [(2, .pointer (some ⟨b10, 0, none⟩)), (3, .pointer (some ⟨b11, 0, none⟩)), (19, .bool o13)] [eBox b10 40 [iv p0.Start, .slice ad3 p0.Rows.length cp4], eBox b11 40 [iv p1.Start, .slice ad7 p1.Rows.length cp8]] [fRep (rL r_api_Row) (.slice ad3 p0.Rows.length cp4) p0.Rows, fRep (rL r_api_Row) (.slice ad7 p1.Rows.length cp8) p1.Rows]) ?_ (fun a w hI => ?_)
  · refine sRegion ?_
    refine sField (b := b10) (off := 0) 0 0 S (wN rfl) rfl rfl rfl rfl rfl (lb rfl) fun a S => ?_
    refine sLoad1 (p := b10) (off := 0) (T := 40) (vs := [iv p0.Start, .slice ad3 p0.Rows.length cp4]) 1 (iv p0.Start) S (wN rfl) rfl rfl rfl rfl rfl rfl (lb rfl) fun a S => ?_
    refine sField (b := b11) (off := 0) 0 0 S (wN rfl) rfl rfl rfl rfl rfl (lb rfl) fun a S => ?_
    refine sLoad1 (p := b11) (off := 0) (T := 40) (vs := [iv p1.Start, .slice ad7 p1.Rows.length cp8]) 0 (iv p1.Start) S (wN rfl) rfl rfl rfl rfl rfl rfl (lb rfl) fun a S => ?_
    refine sBin (.bool (p0.Start != p1.Start)) S (wN rfl) rfl rfl rfl (bNe _ _ _ _ .i64 p0.Start p1.Start) rfl (lb rfl) fun a S => ?_
    refine sMove (.bool (p0.Start != p1.Start)) S (wN rfl) (.inl rfl) rfl rfl (lb rfl) fun a S => ?_
    rcases iteSome h with ⟨hc16, h⟩ | ⟨hc16, h⟩
    · refine sSkip 5 false 11 12 S rfl rfl rfl hc16 rfl (lb rfl) fun a S => ?_
      refine sSkip 5 false 11 13 S rfl rfl rfl hc16 rfl (lb rfl) fun a S => ?_
      refine sSkip 5 false 11 14 S rfl rfl rfl hc16 rfl (lb rfl) fun a S => ?_
      refine sSkip 5 false 11 15 S rfl rfl rfl hc16 rfl (lb rfl) fun a S => ?_
      refine sSkip 5 false 11 16 S rfl rfl rfl hc16 rfl (lb rfl) fun a S => ?_
      refine sSkip 5 false 11 17 S rfl rfl rfl hc16 rfl (lb rfl) fun a S => ?_
      refine sSkip 5 false 11 18 S rfl rfl rfl hc16 rfl (lb rfl) fun a S => ?_
      refine sPickT (.bool true) S (wN rfl) rfl rfl hc16 rfl rfl (lb rfl) fun a S => ?_
      exact leafL (leafT (⟨true, Option.some.inj h, S.fix [1, 0] [1, 0] (by decide) rfl rfl rfl⟩))
    refine sField (b := b10) (off := 0) 1 1 S (wG 5 false 11 rfl rfl rfl hc16) rfl rfl rfl rfl rfl (lb rfl) fun a S => ?_
    refine sLoad1 (p := b10) (off := 1) (T := 40) (vs := [iv p0.Start, .slice ad3 p0.Rows.length cp4]) 1 (.slice ad3 p0.Rows.length cp4) S (wG 5 false 11 rfl rfl rfl hc16) rfl rfl rfl rfl rfl rfl (lb rfl) fun a S => ?_
    refine sLen (ad := ad3) (m := p0.Rows.length) (c := cp4) S (wG 5 false 11 rfl rfl rfl hc16) rfl Tryd.underlying38 rfl rfl (lb rfl) fun a S => ?_
    refine sField (b := b11) (off := 0) 1 1 S (wG 5 false 11 rfl rfl rfl hc16) rfl rfl rfl rfl rfl (lb rfl) fun a S => ?_
    refine sLoad1 (p := b11) (off := 1) (T := 40) (vs := [iv p1.Start, .slice ad7 p1.Rows.length cp8]) 0 (.slice ad7 p1.Rows.length cp8) S (wG 5 false 11 rfl rfl rfl hc16) rfl rfl rfl rfl rfl rfl (lb rfl) fun a S => ?_
    refine sLen (ad := ad7) (m := p1.Rows.length) (c := cp8) S (wG 5 false 11 rfl rfl rfl hc16) rfl Tryd.underlying38 rfl rfl (lb rfl) fun a S => ?_
    refine sBin (.bool ((p0.Rows.length : Int) != (p1.Rows.length : Int))) S (wG 5 false 11 rfl rfl rfl hc16) rfl rfl rfl (bNe _ _ _ _ .i64 (p0.Rows.length : Int) (p1.Rows.length : Int)) rfl (lb rfl) fun a S => ?_
    refine sPickF (.bool ((p0.Rows.length : Int) != (p1.Rows.length : Int))) S (wN rfl) rfl rfl hc16 rfl rfl (lb rfl) fun a S => ?_
    exact leafL (leafT (⟨(p0.Rows.length : Int) != (p1.Rows.length : Int), Option.some.inj h, S.fix [1, 0] [1, 0] (by decide) rfl rfl rfl⟩))
  obtain ⟨o13, rfl, S⟩ := hI
  have h := g15
  clear g15
  try dsimp only at h
  rcases iteSome h with ⟨hc17, h⟩ | ⟨hc17, h⟩
  · refine sCondT S rfl hc17 ?_
    refine sSeq (fun K18 hK18 => ?_)
    refine sRegion ?_
    refine sMove (.bool false) S (wN rfl) (.inr rfl) rfl rfl (lb rfl) fun a S => ?_
    refine leafL (leafT (hK18 _ _ ?_))
    obtain rfl := Option.some.inj h
    exact wp_ret (rThen (sRet (.bool false) S (rsl1 rfl (rvT (t := 4) (v := .bool false) S rfl)) ⟨(), rfl, S.mem.sel [] [] (by decide) rfl rfl⟩))
  refine sCondF S rfl hc17 ?_
  refine wp_skip (leafT (hK12 _ _ ?_))
  obtain ⟨t19, h, g20⟩ := bindSome h
  refine sCut (fun a w => .inl () = t19 ∧ St [] E [] w0 56 a w [] [] []) ?_ (fun a w hI => ?_)
  rotate_left
  · obtain ⟨rfl, S⟩ := hI
    have h := g20
    clear g20
    try dsimp only at h
    refine sSeq (fun K100 hK100 => ?_)
    refine sRegion ?_
    refine sMove (.bool true) S (wN rfl) (.inr rfl) rfl rfl (lb rfl) fun a S => ?_
    refine leafL (leafT (hK100 _ _ ?_))
    obtain rfl := Option.some.inj h
    exact wp_ret (sRet (.bool true) S (rsl1 rfl (rvT (t := 4) (v := .bool true) S rfl)) ⟨(), rfl, S.mem.sel [] [] (by decide) rfl rfl⟩)
  refine sSeq (fun K21 hK21 => ?_)
  refine sRegion ?_
  refine sMove (iv 0) S (wN rfl) (.inr rfl) rfl rfl (lb rfl) fun a S => ?_
  refine leafL (leafT (hK21 _ _ ?_))
  refine wp_block ?_
  obtain ⟨t25, hl, g24⟩ := bindSome h
  refine sLoop hl (fun s0 a w => match s0 with | s22 => St [] E [] w0 56 a w [(2, .pointer (some ⟨b10, 0, none⟩)), (3, .pointer (some ⟨b11, 0, none⟩)), (5, iv s22)] [eBox b10 40 [iv p0.Start, .slice ad3 p0.Rows.length cp4], eBox b11 40 [iv p1.Start, .slice ad7 p1.Rows.length cp8]] [fRep (rL r_api_Row) (.slice ad3 p0.Rows.length cp4) p0.Rows, fRep (rL r_api_Row) (.slice ad7 p1.Rows.length cp8) p1.Rows]) (S.fix [0, 1] [0, 1] (by decide) rfl rfl rfl) ?_
  clear hl h
  intro s22 a w c0 hI h hu23
  unfold raddleref37_SameChart_l1 at h
  dsimp only at h hI
  have S := hI
  refine sSeq (fun K26 hK26 => ?_)
  refine sSeq (fun K27 hK27 => ?_)
  refine sRegion ?_
  refine sMove (iv s22) S (wN rfl) (.inl rfl) rfl rfl (lb rfl) fun a S => ?_
  refine sField (b := b10) (off := 0) 1 1 S (wN rfl) rfl rfl rfl rfl rfl (lb rfl) fun a S => ?_
  refine sLoad1 (p := b10) (off := 1) (T := 40) (vs := [iv p0.Start, .slice ad3 p0.Rows.length cp4]) 0 (.slice ad3 p0.Rows.length cp4) S (wN rfl) rfl rfl rfl rfl rfl rfl (lb rfl) fun a S => ?_
  refine sLen (ad := ad3) (m := p0.Rows.length) (c := cp4) S (wN rfl) rfl Tryd.underlying38 rfl rfl (lb rfl) fun a S => ?_
  refine sBin (.bool (decide (s22 < (p0.Rows.length : Int)))) S (wN rfl) rfl rfl rfl (bLt _ _ _ _ .i64 s22 (p0.Rows.length : Int)) rfl (lb rfl) fun a S => ?_
  refine leafL (leafT (hK27 _ _ ?_))
  rcases iteSome h with ⟨hc28, h⟩ | ⟨hc28, h⟩
  rotate_left
  · refine sCondF S rfl hc28 ?_
    obtain rfl := Option.some.inj h
    obtain rfl := hu23 _ rfl
    have h := g24
    clear g24
    try dsimp only at h
    exact wp_exit (xThen (xThen (xHit (leafT (⟨Option.some.inj h, S.fix [] [] (by decide) rfl rfl rfl⟩)))))
  refine sCondT S rfl hc28 ?_
  refine wp_skip (leafT (hK26 _ _ ?_))
  refine sSeq (fun K29 hK29 => ?_)
  refine wp_block ?_
  obtain ⟨t31, h, g32⟩ := bindSome h
  refine sCut (fun a w => ∃ o30, o30 = t31 ∧ St [] E [] w0 56 a w [(2, .pointer (some ⟨b10, 0, none⟩)), (3, .pointer (some ⟨b11, 0, none⟩)), (5, iv s22), (55, .bool o30)] [eBox b10 40 [iv p0.Start, .slice ad3 p0.Rows.length cp4], eBox b11 40 [iv p1.Start, .slice ad7 p1.Rows.length cp8]] [fRep (rL r_api_Row) (.slice ad3 p0.Rows.length cp4) p0.Rows, fRep (rL r_api_Row) (.slice ad7 p1.Rows.length cp8) p1.Rows]) ?_ (fun a w hI => ?_)
  rotate_left
  · obtain ⟨o30, rfl, S⟩ := hI
    have h := g32
    clear g32
    try dsimp only at h
    rcases iteSome h with ⟨hc98, h⟩ | ⟨hc98, h⟩
    rotate_left
    · refine sCondF S rfl hc98 ?_
      refine wp_skip (leafB (leafT (hK29 _ _ ?_)))
      refine sRegion ?_
      refine sMove (iv s22) S (wN rfl) (.inl rfl) rfl rfl (lb rfl) fun a S => ?_
      refine sBin (iv (w64 (s22 + 1))) S (wN rfl) rfl rfl rfl (bAdd _ _ _ _ s22 1) rfl (lb rfl) fun a S => ?_
      refine sMove (iv (w64 (s22 + 1))) S (wN rfl) (.inr rfl) rfl rfl (lb rfl) fun a S => ?_
      exact leafL (leafT (⟨w64 (s22 + 1), (Option.some.inj h).symm, (S.fix [0, 1] [0, 1] (by decide) rfl rfl rfl)⟩))
    refine sCondT S rfl hc98 ?_
    refine sSeq (fun K99 hK99 => ?_)
    refine sRegion ?_
    refine sMove (.bool false) S (wN rfl) (.inr rfl) rfl rfl (lb rfl) fun a S => ?_
    refine leafL (leafT (hK99 _ _ ?_))
    obtain rfl := Option.some.inj h
    obtain rfl := hu23 _ rfl
    have h := g24
    clear g24
    try dsimp only at h
    obtain rfl := Option.some.inj h
    have h := g20
    clear g20
    try dsimp only at h
    obtain rfl := Option.some.inj h
    exact wp_ret (rBlock (rThen (rThen (rBlock (rThen (sRet (.bool false) S (rsl1 rfl (rvT (t := 4) (v := .bool false) S rfl)) ⟨(), rfl, S.mem.sel [] [] (by decide) rfl rfl⟩))))))
  obtain ⟨x33, hx34, h⟩ := bindSome h
  obtain ⟨x40, hx41, h⟩ := bindSome h
  rcases iteSome h with ⟨hc47, h⟩ | ⟨hc47, h⟩
  · obtain ⟨q48, hq49, S⟩ := pIdx (P := Tryd.prog) (r := r_api_Row) (v := .slice ad3 p0.Rows.length cp4) (xs := p0.Rows) (j := s22) 38 54 0 S Tryd.underlying38 rfl rfl hx34
    obtain ⟨q50, hq51, S⟩ := pFld (P := Tryd.prog) (r := r_api_Row) (s2 := rB) (g := (·.Back)) (q := q48) (z := x33) 54 0 0 0 S rfl rfl comp_api_Row_Back
    obtain ⟨u52, S⟩ := pLoad (r := rB) (q := q50) (x := x33.Back) 0 S rfl
    obtain rfl : u52 = .bool x33.Back := S.mem.know (i := 1) (e := fRep rB (u52) x33.Back) rfl
    obtain ⟨q53, hq54, S⟩ := pIdx (P := Tryd.prog) (r := r_api_Row) (v := .slice ad7 p1.Rows.length cp8) (xs := p1.Rows) (j := s22) 38 54 5 S Tryd.underlying38 rfl rfl hx41
    obtain ⟨q55, hq56, S⟩ := pFld (P := Tryd.prog) (r := r_api_Row) (s2 := rB) (g := (·.Back)) (q := q53) (z := x40) 54 0 0 0 S rfl rfl comp_api_Row_Back
    obtain ⟨u57, S⟩ := pLoad (r := rB) (q := q55) (x := x40.Back) 0 S rfl
    obtain rfl : u57 = .bool x40.Back := S.mem.know (i := 1) (e := fRep rB (u57) x40.Back) rfl
    refine sDraw (nf := []) (W := [(0, 27, .pointer (some ⟨b10, 1, none⟩)), (1, 28, .slice ad3 p0.Rows.length cp4), (2, 29, iv s22), (3, 30, q48), (4, 31, q50), (5, 32, .bool x33.Back), (6, 33, .pointer (some ⟨b11, 1, none⟩)), (7, 34, .slice ad7 p1.Rows.length cp8), (8, 35, iv s22), (9, 36, q53), (10, 37, q55), (11, 38, .bool x40.Back), (12, 39, .bool (x33.Back != x40.Back)), (13, 40, .bool (x33.Back != x40.Back)), (14, 41, undef), (15, 42, undef), (16, 43, undef), (17, 44, undef), (18, 45, undef), (19, 46, undef), (20, 47, undef), (21, 48, undef), (22, 49, undef), (23, 50, undef), (24, 51, undef), (25, 52, undef), (26, 53, undef), (27, 54, undef), (28, 55, .bool true)]) rfl S ?_
    refine node_by (A := anc_raddleref37_SameChart_0) (nf := []) (Y := []) (W := [(0, 27, .pointer (some ⟨b10, 1, none⟩)), (1, 28, .slice ad3 p0.Rows.length cp4), (2, 29, iv s22), (3, 30, q48), (4, 31, q50), (5, 32, .bool x33.Back), (6, 33, .pointer (some ⟨b11, 1, none⟩)), (7, 34, .slice ad7 p1.Rows.length cp8), (8, 35, iv s22), (9, 36, q53), (10, 37, q55), (11, 38, .bool x40.Back), (12, 39, .bool (x33.Back != x40.Back)), (13, 40, .bool (x33.Back != x40.Back)), (14, 41, undef), (15, 42, undef), (16, 43, undef), (17, 44, undef), (18, 45, undef), (19, 46, undef), (20, 47, undef), (21, 48, undef), (22, 49, undef), (23, 50, undef), (24, 51, undef), (25, 52, undef), (26, 53, undef), (27, 54, undef), (28, 55, .bool true)]) 29 (by kernel_rfl) (by kernel_rfl) (by kernel_rfl) (by kernel_rfl) (by kernel_rfl) [0, 1, 2, 3, 4, 5, 6, 7, 8, 9, 10, 11, 12, 13, 14, 15, 16, 17, 18, 19, 20, 21, 22, 23, 24, 25, 26, 27, 28] (by kernel_rfl) (by decide) (by decide) (aF 0 28 (by decide) ?_ (aF 1 27 (by decide) ?_ (aF 2 26 (by decide) ?_ (aF 3 25 (by decide) ?_ (aF 4 24 (by decide) ?_ (aF 5 23 (by decide) ?_ (aF 6 22 (by decide) ?_ (aF 7 21 (by decide) ?_ (aF 8 20 (by decide) ?_ (aF 9 19 (by decide) ?_ (aF 10 18 (by decide) ?_ (aF 11 17 (by decide) ?_ (aF 12 16 (by decide) ?_ (aF 13 15 (by decide) ?_ (aF 14 14 (by decide) ?_ (aF 15 13 (by decide) ?_ (aF 16 12 (by decide) ?_ (aF 17 11 (by decide) ?_ (aF 18 10 (by decide) ?_ (aF 19 9 (by decide) ?_ (aF 20 8 (by decide) ?_ (aF 21 7 (by decide) ?_ (aF 22 6 (by decide) ?_ (aF 23 5 (by decide) ?_ (aF 24 4 (by decide) ?_ (aF 25 3 (by decide) ?_ (aF 26 2 (by decide) ?_ (aF 27 1 (by decide) ?_ (aF 28 0 (by decide) ?_ (trivial)))))))))))))))))))))))))))))) [(2, .pointer (some ⟨b10, 0, none⟩)), (3, .pointer (some ⟨b11, 0, none⟩)), (5, iv s22), (41, undef), (42, undef), (43, undef), (44, undef), (45, undef), (46, undef), (47, undef), (48, undef), (49, undef), (50, undef), (51, undef), (52, undef), (53, undef), (54, undef), (55, .bool true)] (fin_of [none, none, none, some 14, some 15, some 16, some 17, some 18, some 19, some 20, some 21, some 22, some 23, some 24, some 25, some 26, some 27, some 28] rfl (by kernel_rfl) (by kernel_rfl)) (fun _ a w S => ?_)
    · refine fI 27 (.pointer (some ⟨b10, 1, none⟩)) [(2, .pointer (some ⟨b10, 0, none⟩))] 0 [none] rfl rfl rfl rfl rfl rfl fun G a w S => ?_
      refine sField (b := b10) (off := 0) 1 1 S (wN rfl) rfl rfl rfl rfl rfl (lb rfl) fun a S => ?_
      exact leafL ⟨rfl, S⟩
    · refine fI 28 (.slice ad3 p0.Rows.length cp4) [(27, .pointer (some ⟨b10, 1, none⟩))] 1 [some 0] rfl rfl rfl rfl rfl rfl fun G a w S => ?_
      refine sLoad1 (p := b10) (off := 1) (T := 40) (vs := [iv p0.Start, .slice ad3 p0.Rows.length cp4]) 0 (.slice ad3 p0.Rows.length cp4) S (wN rfl) rfl rfl rfl rfl rfl rfl (lb rfl) fun a S => ?_
      exact leafL ⟨rfl, S⟩
    · refine fI 29 (iv s22) [(5, iv s22)] 2 [none] rfl rfl rfl rfl rfl rfl fun G a w S => ?_
      refine sMove (iv s22) S (wN rfl) (.inl rfl) rfl rfl (lb rfl) fun a S => ?_
      exact leafL ⟨rfl, S⟩
    · refine fI 30 q48 [(28, .slice ad3 p0.Rows.length cp4), (29, iv s22)] 3 [some 1, some 2] rfl rfl rfl rfl rfl rfl fun G a w S => ?_
      refine sIdxV (v := .slice ad3 p0.Rows.length cp4) (k := .i64) (j := s22) S (wN rfl) rfl rfl rfl hq49 rfl (lb rfl) fun a S => ?_
      exact leafL ⟨rfl, S⟩
    · refine fI 31 q50 [(30, q48)] 4 [some 3] rfl rfl rfl rfl rfl rfl fun G a w S => ?_
      refine sFldV (q := q48) S (wN rfl) rfl rfl hq51 rfl (lb rfl) fun a S => ?_
      exact leafL ⟨rfl, S⟩
    · refine fI 32 (.bool x33.Back) [(31, q50)] 5 [some 4] rfl rfl rfl rfl rfl rfl fun G a w S => ?_
      refine sLoadV1 (vq := q50) 4 (.bool x33.Back) S (wN rfl) rfl rfl rfl rfl rfl (lb rfl) fun a S => ?_
      exact leafL ⟨rfl, S⟩
    · refine fI 33 (.pointer (some ⟨b11, 1, none⟩)) [(3, .pointer (some ⟨b11, 0, none⟩))] 6 [none] rfl rfl rfl rfl rfl rfl fun G a w S => ?_
      refine sField (b := b11) (off := 0) 1 1 S (wN rfl) rfl rfl rfl rfl rfl (lb rfl) fun a S => ?_
      exact leafL ⟨rfl, S⟩
    · refine fI 34 (.slice ad7 p1.Rows.length cp8) [(33, .pointer (some ⟨b11, 1, none⟩))] 7 [some 6] rfl rfl rfl rfl rfl rfl fun G a w S => ?_
      refine sLoad1 (p := b11) (off := 1) (T := 40) (vs := [iv p1.Start, .slice ad7 p1.Rows.length cp8]) 1 (.slice ad7 p1.Rows.length cp8) S (wN rfl) rfl rfl rfl rfl rfl rfl (lb rfl) fun a S => ?_
      exact leafL ⟨rfl, S⟩
    · refine fI 35 (iv s22) [(5, iv s22)] 8 [none] rfl rfl rfl rfl rfl rfl fun G a w S => ?_
      refine sMove (iv s22) S (wN rfl) (.inl rfl) rfl rfl (lb rfl) fun a S => ?_
      exact leafL ⟨rfl, S⟩
    · refine fI 36 q53 [(34, .slice ad7 p1.Rows.length cp8), (35, iv s22)] 9 [some 7, some 8] rfl rfl rfl rfl rfl rfl fun G a w S => ?_
      refine sIdxV (v := .slice ad7 p1.Rows.length cp8) (k := .i64) (j := s22) S (wN rfl) rfl rfl rfl hq54 rfl (lb rfl) fun a S => ?_
      exact leafL ⟨rfl, S⟩
    · refine fI 37 q55 [(36, q53)] 10 [some 9] rfl rfl rfl rfl rfl rfl fun G a w S => ?_
      refine sFldV (q := q53) S (wN rfl) rfl rfl hq56 rfl (lb rfl) fun a S => ?_
      exact leafL ⟨rfl, S⟩
    · refine fI 38 (.bool x40.Back) [(37, q55)] 11 [some 10] rfl rfl rfl rfl rfl rfl fun G a w S => ?_
      refine sLoadV1 (vq := q55) 0 (.bool x40.Back) S (wN rfl) rfl rfl rfl rfl rfl (lb rfl) fun a S => ?_
      exact leafL ⟨rfl, S⟩
    · refine fI 39 (.bool (x33.Back != x40.Back)) [(32, .bool x33.Back), (38, .bool x40.Back)] 12 [some 5, some 11] rfl rfl rfl rfl rfl rfl fun G a w S => ?_
      refine sBin (.bool (x33.Back != x40.Back)) S (wN rfl) rfl rfl rfl (bNeB _ _ _ _ Tryd.underlying4 x33.Back x40.Back) rfl (lb rfl) fun a S => ?_
      exact leafL ⟨rfl, S⟩
    · refine fI 40 (.bool (x33.Back != x40.Back)) [(39, .bool (x33.Back != x40.Back))] 13 [some 12] rfl rfl rfl rfl rfl rfl fun G a w S => ?_
      refine sMove (.bool (x33.Back != x40.Back)) S (wN rfl) (.inl rfl) rfl rfl (lb rfl) fun a S => ?_
      exact leafL ⟨rfl, S⟩
    · refine fI 41 undef [(2, .pointer (some ⟨b10, 0, none⟩)), (40, .bool (x33.Back != x40.Back))] 14 [none, some 13] rfl rfl rfl rfl rfl rfl fun G a w S => ?_
      refine sSkip 13 false 40 41 S rfl rfl rfl hc47 rfl (lb rfl) fun a S => ?_
      exact leafL ⟨rfl, S⟩
    · refine fI 42 undef [(41, undef), (40, .bool (x33.Back != x40.Back))] 15 [some 14, some 13] rfl rfl rfl rfl rfl rfl fun G a w S => ?_
      refine sSkip 13 false 40 42 S rfl rfl rfl hc47 rfl (lb rfl) fun a S => ?_
      exact leafL ⟨rfl, S⟩
    · refine fI 43 undef [(5, iv s22), (40, .bool (x33.Back != x40.Back))] 16 [none, some 13] rfl rfl rfl rfl rfl rfl fun G a w S => ?_
      refine sSkip 13 false 40 43 S rfl rfl rfl hc47 rfl (lb rfl) fun a S => ?_
      exact leafL ⟨rfl, S⟩
    · refine fI 44 undef [(42, undef), (43, undef), (40, .bool (x33.Back != x40.Back))] 17 [some 15, some 16, some 13] rfl rfl rfl rfl rfl rfl fun G a w S => ?_
      refine sSkip 13 false 40 44 S rfl rfl rfl hc47 rfl (lb rfl) fun a S => ?_
      exact leafL ⟨rfl, S⟩
    · refine fI 45 undef [(44, undef), (40, .bool (x33.Back != x40.Back))] 18 [some 17, some 13] rfl rfl rfl rfl rfl rfl fun G a w S => ?_
      refine sSkip 13 false 40 45 S rfl rfl rfl hc47 rfl (lb rfl) fun a S => ?_
      exact leafL ⟨rfl, S⟩
    · refine fI 46 undef [(45, undef), (40, .bool (x33.Back != x40.Back))] 19 [some 18, some 13] rfl rfl rfl rfl rfl rfl fun G a w S => ?_
      refine sSkip 13 false 40 46 S rfl rfl rfl hc47 rfl (lb rfl) fun a S => ?_
      exact leafL ⟨rfl, S⟩
    · refine fI 47 undef [(3, .pointer (some ⟨b11, 0, none⟩)), (40, .bool (x33.Back != x40.Back))] 20 [none, some 13] rfl rfl rfl rfl rfl rfl fun G a w S => ?_
      refine sSkip 13 false 40 47 S rfl rfl rfl hc47 rfl (lb rfl) fun a S => ?_
      exact leafL ⟨rfl, S⟩
    · refine fI 48 undef [(47, undef), (40, .bool (x33.Back != x40.Back))] 21 [some 20, some 13] rfl rfl rfl rfl rfl rfl fun G a w S => ?_
      refine sSkip 13 false 40 48 S rfl rfl rfl hc47 rfl (lb rfl) fun a S => ?_
      exact leafL ⟨rfl, S⟩
    · refine fI 49 undef [(5, iv s22), (40, .bool (x33.Back != x40.Back))] 22 [none, some 13] rfl rfl rfl rfl rfl rfl fun G a w S => ?_
      refine sSkip 13 false 40 49 S rfl rfl rfl hc47 rfl (lb rfl) fun a S => ?_
      exact leafL ⟨rfl, S⟩
    · refine fI 50 undef [(48, undef), (49, undef), (40, .bool (x33.Back != x40.Back))] 23 [some 21, some 22, some 13] rfl rfl rfl rfl rfl rfl fun G a w S => ?_
      refine sSkip 13 false 40 50 S rfl rfl rfl hc47 rfl (lb rfl) fun a S => ?_
      exact leafL ⟨rfl, S⟩
    · refine fI 51 undef [(50, undef), (40, .bool (x33.Back != x40.Back))] 24 [some 23, some 13] rfl rfl rfl rfl rfl rfl fun G a w S => ?_
      refine sSkip 13 false 40 51 S rfl rfl rfl hc47 rfl (lb rfl) fun a S => ?_
      exact leafL ⟨rfl, S⟩
    · refine fI 52 undef [(51, undef), (40, .bool (x33.Back != x40.Back))] 25 [some 24, some 13] rfl rfl rfl rfl rfl rfl fun G a w S => ?_
      refine sSkip 13 false 40 52 S rfl rfl rfl hc47 rfl (lb rfl) fun a S => ?_
      exact leafL ⟨rfl, S⟩
    · refine fI 53 undef [(46, undef), (52, undef), (40, .bool (x33.Back != x40.Back))] 26 [some 19, some 25, some 13] rfl rfl rfl rfl rfl rfl fun G a w S => ?_
      refine sSkip 13 false 40 53 S rfl rfl rfl hc47 rfl (lb rfl) fun a S => ?_
      exact leafL ⟨rfl, S⟩
    · refine fI 54 undef [(53, undef), (40, .bool (x33.Back != x40.Back))] 27 [some 26, some 13] rfl rfl rfl rfl rfl rfl fun G a w S => ?_
      refine sSkip 13 false 40 54 S rfl rfl rfl hc47 rfl (lb rfl) fun a S => ?_
      exact leafL ⟨rfl, S⟩
    · refine fI 55 (.bool true) [(40, .bool (x33.Back != x40.Back)), (54, undef)] 28 [some 13, some 27] rfl rfl rfl rfl rfl rfl fun G a w S => ?_
      refine sPickT (.bool true) S (wN rfl) rfl rfl hc47 rfl rfl (lb rfl) fun a S => ?_
      exact leafL ⟨rfl, S⟩
    exact leafT (⟨true, Option.some.inj h, S.fix [0, 1] [8, 9] (by decide) rfl rfl rfl⟩)
  obtain ⟨r72, hx73, h⟩ := bindSome h
  obtain ⟨q74, hq75, S⟩ := pIdx (P := Tryd.prog) (r := r_api_Row) (v := .slice ad3 p0.Rows.length cp4) (xs := p0.Rows) (j := s22) 38 54 0 S Tryd.underlying38 rfl rfl hx34
  obtain ⟨q76, hq77, S⟩ := pFld (P := Tryd.prog) (r := r_api_Row) (s2 := rB) (g := (·.Back)) (q := q74) (z := x33) 54 0 0 0 S rfl rfl comp_api_Row_Back
  obtain ⟨u78, S⟩ := pLoad (r := rB) (q := q76) (x := x33.Back) 0 S rfl
  obtain rfl : u78 = .bool x33.Back := S.mem.know (i := 1) (e := fRep rB (u78) x33.Back) rfl
  obtain ⟨q79, hq80, S⟩ := pIdx (P := Tryd.prog) (r := r_api_Row) (v := .slice ad7 p1.Rows.length cp8) (xs := p1.Rows) (j := s22) 38 54 5 S Tryd.underlying38 rfl rfl hx41
  obtain ⟨q81, hq82, S⟩ := pFld (P := Tryd.prog) (r := r_api_Row) (s2 := rB) (g := (·.Back)) (q := q79) (z := x40) 54 0 0 0 S rfl rfl comp_api_Row_Back
  obtain ⟨u83, S⟩ := pLoad (r := rB) (q := q81) (x := x40.Back) 0 S rfl
  obtain rfl : u83 = .bool x40.Back := S.mem.know (i := 1) (e := fRep rB (u83) x40.Back) rfl
  obtain ⟨q84, hq85, S⟩ := pIdx (P := Tryd.prog) (r := r_api_Row) (v := .slice ad3 p0.Rows.length cp4) (xs := p0.Rows) (j := s22) 38 54 8 S Tryd.underlying38 rfl rfl hx34
  obtain ⟨q86, hq87, S⟩ := pFld (P := Tryd.prog) (r := r_api_Row) (s2 := (rL r_api_Stitch)) (g := (·.Cells)) (q := q84) (z := x33) 54 1 0 1 S rfl rfl comp_api_Row_Cells
  obtain ⟨u88, S⟩ := pLoad (r := (rL r_api_Stitch)) (q := q86) (x := x33.Cells) 0 S rfl
  obtain ⟨ad89, cp90, _, rfl, _⟩ := S.mem.know (i := 1) (e := fRep (rL r_api_Stitch) (u88) x33.Cells) rfl
  obtain ⟨q91, hq92, S⟩ := pIdx (P := Tryd.prog) (r := r_api_Row) (v := .slice ad7 p1.Rows.length cp8) (xs := p1.Rows) (j := s22) 38 54 13 S Tryd.underlying38 rfl rfl hx41
  obtain ⟨q93, hq94, S⟩ := pFld (P := Tryd.prog) (r := r_api_Row) (s2 := (rL r_api_Stitch)) (g := (·.Cells)) (q := q91) (z := x40) 54 1 0 1 S rfl rfl comp_api_Row_Cells
  obtain ⟨u95, S⟩ := pLoad (r := (rL r_api_Stitch)) (q := q93) (x := x40.Cells) 0 S rfl
  obtain ⟨ad96, cp97, _, rfl, _⟩ := S.mem.know (i := 1) (e := fRep (rL r_api_Stitch) (u95) x40.Cells) rfl
  refine sDraw (nf := []) (W := [(0, 27, .pointer (some ⟨b10, 1, none⟩)), (1, 28, .slice ad3 p0.Rows.length cp4), (2, 29, iv s22), (3, 30, q74), (4, 31, q76), (5, 32, .bool x33.Back), (6, 33, .pointer (some ⟨b11, 1, none⟩)), (7, 34, .slice ad7 p1.Rows.length cp8), (8, 35, iv s22), (9, 36, q79), (10, 37, q81), (11, 38, .bool x40.Back), (12, 39, .bool (x33.Back != x40.Back)), (13, 40, .bool (x33.Back != x40.Back)), (14, 41, .pointer (some ⟨b10, 1, none⟩)), (15, 42, .slice ad3 p0.Rows.length cp4), (16, 43, iv s22), (17, 44, q84), (18, 45, q86), (19, 46, .slice ad89 x33.Cells.length cp90), (20, 47, .pointer (some ⟨b11, 1, none⟩)), (21, 48, .slice ad7 p1.Rows.length cp8), (22, 49, iv s22), (23, 50, q91), (24, 51, q93), (25, 52, .slice ad96 x40.Cells.length cp97), (26, 53, .bool r72), (27, 54, .bool (!r72)), (28, 55, .bool (!r72))]) rfl S ?_
  refine node_by (A := anc_raddleref37_SameChart_0) (nf := []) (Y := []) (W := [(0, 27, .pointer (some ⟨b10, 1, none⟩)), (1, 28, .slice ad3 p0.Rows.length cp4), (2, 29, iv s22), (3, 30, q74), (4, 31, q76), (5, 32, .bool x33.Back), (6, 33, .pointer (some ⟨b11, 1, none⟩)), (7, 34, .slice ad7 p1.Rows.length cp8), (8, 35, iv s22), (9, 36, q79), (10, 37, q81), (11, 38, .bool x40.Back), (12, 39, .bool (x33.Back != x40.Back)), (13, 40, .bool (x33.Back != x40.Back)), (14, 41, .pointer (some ⟨b10, 1, none⟩)), (15, 42, .slice ad3 p0.Rows.length cp4), (16, 43, iv s22), (17, 44, q84), (18, 45, q86), (19, 46, .slice ad89 x33.Cells.length cp90), (20, 47, .pointer (some ⟨b11, 1, none⟩)), (21, 48, .slice ad7 p1.Rows.length cp8), (22, 49, iv s22), (23, 50, q91), (24, 51, q93), (25, 52, .slice ad96 x40.Cells.length cp97), (26, 53, .bool r72), (27, 54, .bool (!r72)), (28, 55, .bool (!r72))]) 29 (by kernel_rfl) (by kernel_rfl) (by kernel_rfl) (by kernel_rfl) (by kernel_rfl) [0, 1, 2, 3, 4, 5, 6, 7, 8, 9, 10, 11, 12, 13, 14, 15, 16, 17, 18, 19, 20, 21, 22, 23, 24, 25, 26, 27, 28] (by kernel_rfl) (by decide) (by decide) (aF 0 28 (by decide) ?_ (aF 1 27 (by decide) ?_ (aF 2 26 (by decide) ?_ (aF 3 25 (by decide) ?_ (aF 4 24 (by decide) ?_ (aF 5 23 (by decide) ?_ (aF 6 22 (by decide) ?_ (aF 7 21 (by decide) ?_ (aF 8 20 (by decide) ?_ (aF 9 19 (by decide) ?_ (aF 10 18 (by decide) ?_ (aF 11 17 (by decide) ?_ (aF 12 16 (by decide) ?_ (aF 13 15 (by decide) ?_ (aF 14 14 (by decide) ?_ (aF 15 13 (by decide) ?_ (aF 16 12 (by decide) ?_ (aF 17 11 (by decide) ?_ (aF 18 10 (by decide) ?_ (aF 19 9 (by decide) ?_ (aF 20 8 (by decide) ?_ (aF 21 7 (by decide) ?_ (aF 22 6 (by decide) ?_ (aF 23 5 (by decide) ?_ (aF 24 4 (by decide) ?_ (aF 25 3 (by decide) ?_ (aF 26 2 (by decide) ?_ (aF 27 1 (by decide) ?_ (aF 28 0 (by decide) ?_ (trivial)))))))))))))))))))))))))))))) [(2, .pointer (some ⟨b10, 0, none⟩)), (3, .pointer (some ⟨b11, 0, none⟩)), (5, iv s22), (41, .pointer (some ⟨b10, 1, none⟩)), (42, .slice ad3 p0.Rows.length cp4), (43, iv s22), (44, q84), (45, q86), (46, .slice ad89 x33.Cells.length cp90), (47, .pointer (some ⟨b11, 1, none⟩)), (48, .slice ad7 p1.Rows.length cp8), (49, iv s22), (50, q91), (51, q93), (52, .slice ad96 x40.Cells.length cp97), (53, .bool r72), (54, .bool (!r72)), (55, .bool (!r72))] (fin_of [none, none, none, some 14, some 15, some 16, some 17, some 18, some 19, some 20, some 21, some 22, some 23, some 24, some 25, some 26, some 27, some 28] rfl (by kernel_rfl) (by kernel_rfl)) (fun _ a w S => ?_)
  · refine fI 27 (.pointer (some ⟨b10, 1, none⟩)) [(2, .pointer (some ⟨b10, 0, none⟩))] 0 [none] rfl rfl rfl rfl rfl rfl fun G a w S => ?_
    refine sField (b := b10) (off := 0) 1 1 S (wN rfl) rfl rfl rfl rfl rfl (lb rfl) fun a S => ?_
    exact leafL ⟨rfl, S⟩
  · refine fI 28 (.slice ad3 p0.Rows.length cp4) [(27, .pointer (some ⟨b10, 1, none⟩))] 1 [some 0] rfl rfl rfl rfl rfl rfl fun G a w S => ?_
    refine sLoad1 (p := b10) (off := 1) (T := 40) (vs := [iv p0.Start, .slice ad3 p0.Rows.length cp4]) 0 (.slice ad3 p0.Rows.length cp4) S (wN rfl) rfl rfl rfl rfl rfl rfl (lb rfl) fun a S => ?_
    exact leafL ⟨rfl, S⟩
  · refine fI 29 (iv s22) [(5, iv s22)] 2 [none] rfl rfl rfl rfl rfl rfl fun G a w S => ?_
    refine sMove (iv s22) S (wN rfl) (.inl rfl) rfl rfl (lb rfl) fun a S => ?_
    exact leafL ⟨rfl, S⟩
  · refine fI 30 q74 [(28, .slice ad3 p0.Rows.length cp4), (29, iv s22)] 3 [some 1, some 2] rfl rfl rfl rfl rfl rfl fun G a w S => ?_
    refine sIdxV (v := .slice ad3 p0.Rows.length cp4) (k := .i64) (j := s22) S (wN rfl) rfl rfl rfl hq75 rfl (lb rfl) fun a S => ?_
    exact leafL ⟨rfl, S⟩
  · refine fI 31 q76 [(30, q74)] 4 [some 3] rfl rfl rfl rfl rfl rfl fun G a w S => ?_
    refine sFldV (q := q74) S (wN rfl) rfl rfl hq77 rfl (lb rfl) fun a S => ?_
    exact leafL ⟨rfl, S⟩
  · refine fI 32 (.bool x33.Back) [(31, q76)] 5 [some 4] rfl rfl rfl rfl rfl rfl fun G a w S => ?_
    refine sLoadV1 (vq := q76) 12 (.bool x33.Back) S (wN rfl) rfl rfl rfl rfl rfl (lb rfl) fun a S => ?_
    exact leafL ⟨rfl, S⟩
  · refine fI 33 (.pointer (some ⟨b11, 1, none⟩)) [(3, .pointer (some ⟨b11, 0, none⟩))] 6 [none] rfl rfl rfl rfl rfl rfl fun G a w S => ?_
    refine sField (b := b11) (off := 0) 1 1 S (wN rfl) rfl rfl rfl rfl rfl (lb rfl) fun a S => ?_
    exact leafL ⟨rfl, S⟩
  · refine fI 34 (.slice ad7 p1.Rows.length cp8) [(33, .pointer (some ⟨b11, 1, none⟩))] 7 [some 6] rfl rfl rfl rfl rfl rfl fun G a w S => ?_
    refine sLoad1 (p := b11) (off := 1) (T := 40) (vs := [iv p1.Start, .slice ad7 p1.Rows.length cp8]) 1 (.slice ad7 p1.Rows.length cp8) S (wN rfl) rfl rfl rfl rfl rfl rfl (lb rfl) fun a S => ?_
    exact leafL ⟨rfl, S⟩
  · refine fI 35 (iv s22) [(5, iv s22)] 8 [none] rfl rfl rfl rfl rfl rfl fun G a w S => ?_
    refine sMove (iv s22) S (wN rfl) (.inl rfl) rfl rfl (lb rfl) fun a S => ?_
    exact leafL ⟨rfl, S⟩
  · refine fI 36 q79 [(34, .slice ad7 p1.Rows.length cp8), (35, iv s22)] 9 [some 7, some 8] rfl rfl rfl rfl rfl rfl fun G a w S => ?_
    refine sIdxV (v := .slice ad7 p1.Rows.length cp8) (k := .i64) (j := s22) S (wN rfl) rfl rfl rfl hq80 rfl (lb rfl) fun a S => ?_
    exact leafL ⟨rfl, S⟩
  · refine fI 37 q81 [(36, q79)] 10 [some 9] rfl rfl rfl rfl rfl rfl fun G a w S => ?_
    refine sFldV (q := q79) S (wN rfl) rfl rfl hq82 rfl (lb rfl) fun a S => ?_
    exact leafL ⟨rfl, S⟩
  · refine fI 38 (.bool x40.Back) [(37, q81)] 11 [some 10] rfl rfl rfl rfl rfl rfl fun G a w S => ?_
    refine sLoadV1 (vq := q81) 8 (.bool x40.Back) S (wN rfl) rfl rfl rfl rfl rfl (lb rfl) fun a S => ?_
    exact leafL ⟨rfl, S⟩
  · refine fI 39 (.bool (x33.Back != x40.Back)) [(32, .bool x33.Back), (38, .bool x40.Back)] 12 [some 5, some 11] rfl rfl rfl rfl rfl rfl fun G a w S => ?_
    refine sBin (.bool (x33.Back != x40.Back)) S (wN rfl) rfl rfl rfl (bNeB _ _ _ _ Tryd.underlying4 x33.Back x40.Back) rfl (lb rfl) fun a S => ?_
    exact leafL ⟨rfl, S⟩
  · refine fI 40 (.bool (x33.Back != x40.Back)) [(39, .bool (x33.Back != x40.Back))] 13 [some 12] rfl rfl rfl rfl rfl rfl fun G a w S => ?_
    refine sMove (.bool (x33.Back != x40.Back)) S (wN rfl) (.inl rfl) rfl rfl (lb rfl) fun a S => ?_
    exact leafL ⟨rfl, S⟩
  · refine fI 41 (.pointer (some ⟨b10, 1, none⟩)) [(2, .pointer (some ⟨b10, 0, none⟩)), (40, .bool (x33.Back != x40.Back))] 14 [none, some 13] rfl rfl rfl rfl rfl rfl fun G a w S => ?_
    refine sField (b := b10) (off := 0) 1 1 S (wG 13 false 40 rfl rfl rfl hc47) rfl rfl rfl rfl rfl (lb rfl) fun a S => ?_
    exact leafL ⟨rfl, S⟩
  · refine fI 42 (.slice ad3 p0.Rows.length cp4) [(41, .pointer (some ⟨b10, 1, none⟩)), (40, .bool (x33.Back != x40.Back))] 15 [some 14, some 13] rfl rfl rfl rfl rfl rfl fun G a w S => ?_
    refine sLoad1 (p := b10) (off := 1) (T := 40) (vs := [iv p0.Start, .slice ad3 p0.Rows.length cp4]) 0 (.slice ad3 p0.Rows.length cp4) S (wG 13 false 40 rfl rfl rfl hc47) rfl rfl rfl rfl rfl rfl (lb rfl) fun a S => ?_
    exact leafL ⟨rfl, S⟩
  · refine fI 43 (iv s22) [(5, iv s22), (40, .bool (x33.Back != x40.Back))] 16 [none, some 13] rfl rfl rfl rfl rfl rfl fun G a w S => ?_
    refine sMove (iv s22) S (wG 13 false 40 rfl rfl rfl hc47) (.inl rfl) rfl rfl (lb rfl) fun a S => ?_
    exact leafL ⟨rfl, S⟩
  · refine fI 44 q84 [(42, .slice ad3 p0.Rows.length cp4), (43, iv s22), (40, .bool (x33.Back != x40.Back))] 17 [some 15, some 16, some 13] rfl rfl rfl rfl rfl rfl fun G a w S => ?_
    refine sIdxV (v := .slice ad3 p0.Rows.length cp4) (k := .i64) (j := s22) S (wG 13 false 40 rfl rfl rfl hc47) rfl rfl rfl hq85 rfl (lb rfl) fun a S => ?_
    exact leafL ⟨rfl, S⟩
  · refine fI 45 q86 [(44, q84), (40, .bool (x33.Back != x40.Back))] 18 [some 17, some 13] rfl rfl rfl rfl rfl rfl fun G a w S => ?_
    refine sFldV (q := q84) S (wG 13 false 40 rfl rfl rfl hc47) rfl rfl hq87 rfl (lb rfl) fun a S => ?_
    exact leafL ⟨rfl, S⟩
  · refine fI 46 (.slice ad89 x33.Cells.length cp90) [(45, q86), (40, .bool (x33.Back != x40.Back))] 19 [some 18, some 13] rfl rfl rfl rfl rfl rfl fun G a w S => ?_
    refine sLoadV1 (vq := q86) 4 (.slice ad89 x33.Cells.length cp90) S (wG 13 false 40 rfl rfl rfl hc47) rfl rfl rfl rfl rfl (lb rfl) fun a S => ?_
    exact leafL ⟨rfl, S⟩
  · refine fI 47 (.pointer (some ⟨b11, 1, none⟩)) [(3, .pointer (some ⟨b11, 0, none⟩)), (40, .bool (x33.Back != x40.Back))] 20 [none, some 13] rfl rfl rfl rfl rfl rfl fun G a w S => ?_
    refine sField (b := b11) (off := 0) 1 1 S (wG 13 false 40 rfl rfl rfl hc47) rfl rfl rfl rfl rfl (lb rfl) fun a S => ?_
    exact leafL ⟨rfl, S⟩
  · refine fI 48 (.slice ad7 p1.Rows.length cp8) [(47, .pointer (some ⟨b11, 1, none⟩)), (40, .bool (x33.Back != x40.Back))] 21 [some 20, some 13] rfl rfl rfl rfl rfl rfl fun G a w S => ?_
    refine sLoad1 (p := b11) (off := 1) (T := 40) (vs := [iv p1.Start, .slice ad7 p1.Rows.length cp8]) 1 (.slice ad7 p1.Rows.length cp8) S (wG 13 false 40 rfl rfl rfl hc47) rfl rfl rfl rfl rfl rfl (lb rfl) fun a S => ?_
    exact leafL ⟨rfl, S⟩
  · refine fI 49 (iv s22) [(5, iv s22), (40, .bool (x33.Back != x40.Back))] 22 [none, some 13] rfl rfl rfl rfl rfl rfl fun G a w S => ?_
    refine sMove (iv s22) S (wG 13 false 40 rfl rfl rfl hc47) (.inl rfl) rfl rfl (lb rfl) fun a S => ?_
    exact leafL ⟨rfl, S⟩
  · refine fI 50 q91 [(48, .slice ad7 p1.Rows.length cp8), (49, iv s22), (40, .bool (x33.Back != x40.Back))] 23 [some 21, some 22, some 13] rfl rfl rfl rfl rfl rfl fun G a w S => ?_
    refine sIdxV (v := .slice ad7 p1.Rows.length cp8) (k := .i64) (j := s22) S (wG 13 false 40 rfl rfl rfl hc47) rfl rfl rfl hq92 rfl (lb rfl) fun a S => ?_
    exact leafL ⟨rfl, S⟩
  · refine fI 51 q93 [(50, q91), (40, .bool (x33.Back != x40.Back))] 24 [some 23, some 13] rfl rfl rfl rfl rfl rfl fun G a w S => ?_
    refine sFldV (q := q91) S (wG 13 false 40 rfl rfl rfl hc47) rfl rfl hq94 rfl (lb rfl) fun a S => ?_
    exact leafL ⟨rfl, S⟩
  · refine fI 52 (.slice ad96 x40.Cells.length cp97) [(51, q93), (40, .bool (x33.Back != x40.Back))] 25 [some 24, some 13] rfl rfl rfl rfl rfl rfl fun G a w S => ?_
    refine sLoadV1 (vq := q93) 0 (.slice ad96 x40.Cells.length cp97) S (wG 13 false 40 rfl rfl rfl hc47) rfl rfl rfl rfl rfl (lb rfl) fun a S => ?_
    exact leafL ⟨rfl, S⟩
  · refine fI 53 (.bool r72) [(46, .slice ad89 x33.Cells.length cp90), (52, .slice ad96 x40.Cells.length cp97), (40, .bool (x33.Back != x40.Back))] 26 [some 19, some 25, some 13] rfl rfl rfl rfl rfl rfl fun G a w S => ?_
    have S1 := S.mem
    refine sCallQ (X := Unit) (f := 44) (vs := [.slice ad89 x33.Cells.length cp90, .slice ad96 x40.Cells.length cp97]) (val := fun _ => .bool r72) S (wG 13 false 40 rfl rfl rfl hc47) rfl callee44 rfl (S1.quiet [5, 1] rfl) (fun E1 w1 S1 => c_raddleref25_Same E1 w1 x33.Cells (.slice ad89 x33.Cells.length cp90) x40.Cells (.slice ad96 x40.Cells.length cp97) r72 hx73 S1) rfl (lb rfl) fun _ a w S => ?_
    exact leafL ⟨rfl, S⟩
  · refine fI 54 (.bool (!r72)) [(53, .bool r72), (40, .bool (x33.Back != x40.Back))] 27 [some 26, some 13] rfl rfl rfl rfl rfl rfl fun G a w S => ?_
    refine sNot (b := r72) S (wG 13 false 40 rfl rfl rfl hc47) rfl rfl rfl (lb rfl) fun a S => ?_
    exact leafL ⟨rfl, S⟩
  · refine fI 55 (.bool (!r72)) [(40, .bool (x33.Back != x40.Back)), (54, .bool (!r72))] 28 [some 13, some 27] rfl rfl rfl rfl rfl rfl fun G a w S => ?_
    refine sPickF (.bool (!r72)) S (wN rfl) rfl rfl hc47 rfl rfl (lb rfl) fun a S => ?_
    exact leafL ⟨rfl, S⟩
  exact leafT (⟨!r72, Option.some.inj h, S.fix [0, 1] [16, 17] (by decide) rfl rfl rfl⟩)

end Go.Proofs.YtmedbnjhgkcndaaDoor
namespace Go.Proofs.YtmedbnjhgkcndaaDoor
open Go.RowKit
set_option linter.unusedVariables false

/-- a loop that compares two lists -/
theorem loop_eq {α τ : Type} {B : Int → Option (Int ⊕ τ)} (a b : List α) (hl : a.length = b.length) (good bad : τ)
    (h : ∀ k (hk : k < a.length), ∃ t : Bool, (t = true ↔ a[k] = b[k]'(by omega)) ∧ B (k : Int) = some (if t = true then .inl ((k + 1 : Nat) : Int) else .inr bad)) (hn : B (a.length : Int) = some (.inr good)) :
    ∃ t : Bool, (t = true ↔ a = b) ∧ whileO B 0 = some (if t = true then good else bad) := by
  have key : ∃ u, whileO B 0 = some u ∧ ∃ t : Bool, (t = true ↔ a = b) ∧ u = (if t = true then good else bad) := by
    refine loop_ix a.length (fun k => ∀ j, j < k → a[j]? = b[j]?) _ (fun j hj => absurd hj (Nat.not_lt_zero j)) ?_ ?_
    · intro k hk hI
      obtain ⟨t, h1, h2⟩ := h k hk
      cases t with
      | true =>
        refine .inl ⟨by rw [h2, if_pos rfl], fun j hj => ?_⟩
        by_cases e : j = k
        · subst e
          rw [List.getElem?_eq_getElem hk, List.getElem?_eq_getElem (by omega), h1.1 rfl]
        · exact hI j (by omega)
      | false =>
        refine .inr ⟨bad, by rw [h2]; rfl, false, ⟨fun h => (by cases h), fun h => ?_⟩, rfl⟩
        subst h
        exact absurd (h1.2 rfl) (by simp)
    · intro hI
      refine ⟨good, hn, true, ⟨fun _ => ?_, fun _ => rfl⟩, rfl⟩
      apply List.ext_getElem?
      intro j
      by_cases hj : j < a.length
      · exact hI j hj
      · rw [List.getElem?_eq_none (by omega), List.getElem?_eq_none (by omega)]
  obtain ⟨u, h1, t, h2, rfl⟩ := key
  exact ⟨t, h2, h1⟩
theorem eqS_iff (x y : api_Stitch) : ((x.Kind == y.Kind) && ((x.Purl == y.Purl) && ((x.A == y.A) && ((x.B == y.B) && true)))) = true ↔ x = y := by
  cases x; cases y; simp
theorem same_eq (a b : List api_Stitch) (hl : a.length ≤ 9223372036854775807) : ∃ t : Bool, (t = true ↔ a = b) ∧ F_stitch_Same a b = some t := by
  unfold F_stitch_Same F_slices_Equal___api_Stitch_api_Stitch_
  by_cases h : a.length = b.length
  case neg =>
    exact ⟨false, ⟨fun h => (by cases h), fun e => absurd (congrArg List.length e) h⟩, by simp only [nT (show ¬ (a.length : Int) = (b.length : Int) by omega), if_true, Option.bind_some]⟩
  simp only [nF (show (a.length : Int) = (b.length : Int) by omega), Bool.false_eq_true, if_false]
  have key : ∃ t : Bool, (t = true ↔ a = b) ∧ whileO (slices_Equal___api_Stitch_api_Stitch__l1 a b) 0 = some (if t = true then .inr () else .inl false) := by
    refine loop_eq a b h _ _ (fun k hk => ?_) ?_
    · refine ⟨_, eqS_iff a[k] (b[k]'(by omega)), ?_⟩
      unfold slices_Equal___api_Stitch_api_Stitch__l1
      simp only [dT (show (k : Int) < (a.length : Int) by omega), if_true, idxO_nat hk, idxO_nat (show k < b.length by omega), Option.bind_some, w64_succ (show k < 9223372036854775807 by omega)]
      cases ((a[k].Kind == (b[k]'(by omega)).Kind) && ((a[k].Purl == (b[k]'(by omega)).Purl) && ((a[k].A == (b[k]'(by omega)).A) && ((a[k].B == (b[k]'(by omega)).B) && true)))) <;> rfl
    · unfold slices_Equal___api_Stitch_api_Stitch__l1
      simp only [dF (show ¬ (a.length : Int) < (a.length : Int) by omega), Bool.false_eq_true, if_false]
  obtain ⟨t, t1, t2⟩ := key
  refine ⟨t, t1, ?_⟩
  rw [t2]
  cases t <;> rfl
theorem rsame_eq (a b : List api_Stitch) (hl : a.length ≤ 9223372036854775807) : ∃ t : Bool, (t = true ↔ a = b) ∧ F_raddleref25_Same a b = some t := by
  unfold F_raddleref25_Same
  by_cases h : a.length = b.length
  case neg =>
    exact ⟨false, ⟨fun h => (by cases h), fun e => absurd (congrArg List.length e) h⟩, by simp only [nT (show ¬ (a.length : Int) = (b.length : Int) by omega), if_true]⟩
  simp only [nF (show (a.length : Int) = (b.length : Int) by omega), Bool.false_eq_true, if_false]
  have key : ∃ t : Bool, (t = true ↔ a = b) ∧ whileO (raddleref25_Same_l1 a b) 0 = some (if t = true then .inr () else .inl false) := by
    refine loop_eq a b h _ _ (fun k hk => ?_) ?_
    · refine ⟨_, eqS_iff a[k] (b[k]'(by omega)), ?_⟩
      unfold raddleref25_Same_l1
      simp only [dT (show (k : Int) < (a.length : Int) by omega), if_true, idxO_nat hk, idxO_nat (show k < b.length by omega), Option.bind_some, w64_succ (show k < 9223372036854775807 by omega)]
      cases ((a[k].Kind == (b[k]'(by omega)).Kind) && ((a[k].Purl == (b[k]'(by omega)).Purl) && ((a[k].A == (b[k]'(by omega)).A) && ((a[k].B == (b[k]'(by omega)).B) && true)))) <;> rfl
    · unfold raddleref25_Same_l1
      simp only [dF (show ¬ (a.length : Int) < (a.length : Int) by omega), Bool.false_eq_true, if_false]
  obtain ⟨t, t1, t2⟩ := key
  refine ⟨t, t1, ?_⟩
  rw [t2]
  cases t <;> rfl
theorem row_ext {x y : api_Row} : x = y ↔ x.Back = y.Back ∧ x.Cells = y.Cells := by cases x; cases y; simp
theorem samechart_eq (a b : api_Chart) (hl : a.Rows.length ≤ 9223372036854775807) (hc : ∀ r, r ∈ a.Rows → r.Cells.length ≤ 9223372036854775807) : ∃ t : Bool, (t = true ↔ a = b) ∧ F_raddleref37_SameChart a b = some t := by
  have ext : a = b ↔ a.Start = b.Start ∧ a.Rows = b.Rows := by cases a; cases b; simp
  unfold F_raddleref37_SameChart
  by_cases h0 : a.Start = b.Start
  case neg =>
    exact ⟨false, ⟨fun h => (by cases h), fun e => absurd (ext.1 e).1 h0⟩, by simp only [nT h0, if_true, Option.bind_some]⟩
  by_cases h : a.Rows.length = b.Rows.length
  case neg =>
    exact ⟨false, ⟨fun h => (by cases h), fun e => absurd (congrArg List.length (ext.1 e).2) h⟩, by simp only [nF h0, Bool.false_eq_true, if_false, nT (show ¬ (a.Rows.length : Int) = (b.Rows.length : Int) by omega), if_true, Option.bind_some]⟩
  simp only [nF h0, nF (show (a.Rows.length : Int) = (b.Rows.length : Int) by omega), Bool.false_eq_true, if_false, Option.bind_some]
  have key : ∃ t : Bool, (t = true ↔ a.Rows = b.Rows) ∧ whileO (raddleref37_SameChart_l1 a b) 0 = some (if t = true then .inr () else .inl false) := by
    refine loop_eq a.Rows b.Rows h _ _ (fun k hk => ?_) ?_
    · obtain ⟨t, t1, t2⟩ := rsame_eq a.Rows[k].Cells (b.Rows[k]'(by omega)).Cells (hc _ (List.getElem_mem hk))
      by_cases hb : a.Rows[k].Back = (b.Rows[k]'(by omega)).Back
      · refine ⟨t, t1.trans ⟨fun e => row_ext.2 ⟨hb, e⟩, fun e => (row_ext.1 e).2⟩, ?_⟩
        unfold raddleref37_SameChart_l1
        simp only [dT (show (k : Int) < (a.Rows.length : Int) by omega), if_true, idxO_nat hk, idxO_nat (show k < b.Rows.length by omega), Option.bind_some, w64_succ (show k < 9223372036854775807 by omega), hb, bne_self_eq_false, Bool.false_eq_true, if_false, t2]
        cases t <;> rfl
      · refine ⟨false, ⟨fun h => (by cases h), fun e => absurd (row_ext.1 e).1 hb⟩, ?_⟩
        unfold raddleref37_SameChart_l1
        simp only [dT (show (k : Int) < (a.Rows.length : Int) by omega), if_true, idxO_nat hk, idxO_nat (show k < b.Rows.length by omega), Option.bind_some, bne_iff_ne.2 hb, Bool.false_eq_true, if_false]
    · unfold raddleref37_SameChart_l1
      simp only [dF (show ¬ (a.Rows.length : Int) < (a.Rows.length : Int) by omega), Bool.false_eq_true, if_false]
  obtain ⟨t, t1, t2⟩ := key
  refine ⟨t, t1.trans ⟨fun e => ext.2 ⟨h0, e⟩, fun e => (ext.1 e).2⟩, ?_⟩
  rw [t2]
  cases t <;> rfl

end Go.Proofs.YtmedbnjhgkcndaaDoor
namespace Go.Proofs.YtmedbnjhgkcndaaDoor
open Go.RowKit
set_option linter.unusedVariables false

noncomputable def raddleref37_GreatChart_l1 (p0 : api_Chart) : Int → Option (Int ⊕ (Bool ⊕ Unit)) := fun s0 => match s0 with
  | s10 =>
    if decide (s10 < (p0.Rows.length : Int)) then
      Option.bind (idxO p0.Rows s10) fun x19 =>
      if decide (60 < (x19.Cells.length : Int)) then
        some (.inr (.inl true))
      else
        some (.inl (w64 (s10 + 1)))
    else
      some (.inr (.inr ()))
noncomputable def F_raddleref37_GreatChart (p0 : api_Chart) : Option Bool :=
  Option.bind (α := Unit ⊕ Bool) (
    Option.bind (whileO (raddleref37_GreatChart_l1 p0) 0) fun z0 => match z0 with
      | .inl z =>
        some (.inr z)
      | .inr _ =>
        some (.inl ())) fun z0 => match z0 with
    | .inl _ =>
      some (decide (20 < (p0.Rows.length : Int)))
    | .inr z =>
      some z
set_option maxHeartbeats 4000000 in
set_option maxRecDepth 100000 in
theorem c_raddleref37_GreatChart (E : Nat → Prop) (w0 : World) (p0 : api_Chart) (v0 : Value) (r : Bool) (h : F_raddleref37_GreatChart p0 = some r) (S : St0 E [] w0 w0 [] [fRep r_api_Chart (v0) p0]) :
    Calls Tryd.prog 16 #[v0] w0 (Ret (X := Unit) E [] w0 (fun _ => .bool r) (fun _ => []) (fun _ => [])) := by
  unfold F_raddleref37_GreatChart at h
  obtain ⟨u1, rfl, hu2⟩ := S.know (i := 0) (e := fRep r_api_Chart (v0) p0) rfl
  have S := S.learn (fRep (rL r_api_Row) u1 p0.Rows) hu2
  obtain ⟨ad3, cp4, _, rfl, _⟩ := hu2
  refine sEnter (args := [.agg #[iv p0.Start, .slice ad3 p0.Rows.length cp4]]) 23 Tryd.func16 rfl rfl (by simp) S (fun a S => ?_)
  refine sSeq (fun K5 hK5 => ?_)
  refine sRegion ?_
  refine sBox (v := .agg #[iv p0.Start, .slice ad3 p0.Rows.length cp4]) S (wN rfl) rfl rfl [iv p0.Start, .slice ad3 p0.Rows.length cp4] rfl rfl (lb rfl) fun a b6 w S => ?_
  refine sMove (.bool false) S (wN rfl) (.inr rfl) rfl rfl (lb rfl) fun a S => ?_
  refine leafL (leafT (hK5 _ _ ?_))
  obtain ⟨t7, h, g8⟩ := bindSome h
  refine sCut (fun a w => .inl () = t7 ∧ St [] E [] w0 23 a w [(1, .pointer (some ⟨b6, 0, none⟩))] [eBox b6 40 [iv p0.Start, .slice ad3 p0.Rows.length cp4]] [fRep (rL r_api_Row) (.slice ad3 p0.Rows.length cp4) p0.Rows]) ?_ (fun a w hI => ?_)
  rotate_left
  · obtain ⟨rfl, S⟩ := hI
    have h := g8
    clear g8
    try dsimp only at h
    refine sSeq (fun K30 hK30 => ?_)
    refine sRegion ?_
    refine sField (b := b6) (off := 0) 1 1 S (wN rfl) rfl rfl rfl rfl rfl (lb rfl) fun a S => ?_
    refine sLoad1 (p := b6) (off := 1) (T := 40) (vs := [iv p0.Start, .slice ad3 p0.Rows.length cp4]) 0 (.slice ad3 p0.Rows.length cp4) S (wN rfl) rfl rfl rfl rfl rfl rfl (lb rfl) fun a S => ?_
    refine sLen (ad := ad3) (m := p0.Rows.length) (c := cp4) S (wN rfl) rfl Tryd.underlying38 rfl rfl (lb rfl) fun a S => ?_
    refine sBin (.bool (decide (20 < (p0.Rows.length : Int)))) S (wN rfl) rfl rfl rfl (bGt _ _ _ _ .i64 (p0.Rows.length : Int) 20) rfl (lb rfl) fun a S => ?_
    refine sMove (.bool (decide (20 < (p0.Rows.length : Int)))) S (wN rfl) (.inr rfl) rfl rfl (lb rfl) fun a S => ?_
    refine leafL (leafT (hK30 _ _ ?_))
    obtain rfl := Option.some.inj h
    exact wp_ret (sRet (.bool (decide (20 < (p0.Rows.length : Int)))) S (rsl1 rfl (rvT (t := 2) (v := .bool (decide (20 < (p0.Rows.length : Int)))) S rfl)) ⟨(), rfl, S.mem.sel [] [] (by decide) rfl rfl⟩)
  refine sSeq (fun K9 hK9 => ?_)
  refine sRegion ?_
  refine sMove (iv 0) S (wN rfl) (.inr rfl) rfl rfl (lb rfl) fun a S => ?_
  refine leafL (leafT (hK9 _ _ ?_))
  refine wp_block ?_
  obtain ⟨t13, hl, g12⟩ := bindSome h
  refine sLoop hl (fun s0 a w => match s0 with | s10 => St [] E [] w0 23 a w [(1, .pointer (some ⟨b6, 0, none⟩)), (3, iv s10)] [eBox b6 40 [iv p0.Start, .slice ad3 p0.Rows.length cp4]] [fRep (rL r_api_Row) (.slice ad3 p0.Rows.length cp4) p0.Rows]) (S.fix [0] [0] (by decide) rfl rfl rfl) ?_
  clear hl h
  intro s10 a w c0 hI h hu11
  unfold raddleref37_GreatChart_l1 at h
  dsimp only at h hI
  have S := hI
  refine sSeq (fun K14 hK14 => ?_)
  refine sSeq (fun K15 hK15 => ?_)
  refine sRegion ?_
  refine sMove (iv s10) S (wN rfl) (.inl rfl) rfl rfl (lb rfl) fun a S => ?_
  refine sField (b := b6) (off := 0) 1 1 S (wN rfl) rfl rfl rfl rfl rfl (lb rfl) fun a S => ?_
  refine sLoad1 (p := b6) (off := 1) (T := 40) (vs := [iv p0.Start, .slice ad3 p0.Rows.length cp4]) 0 (.slice ad3 p0.Rows.length cp4) S (wN rfl) rfl rfl rfl rfl rfl rfl (lb rfl) fun a S => ?_
  refine sLen (ad := ad3) (m := p0.Rows.length) (c := cp4) S (wN rfl) rfl Tryd.underlying38 rfl rfl (lb rfl) fun a S => ?_
  refine sBin (.bool (decide (s10 < (p0.Rows.length : Int)))) S (wN rfl) rfl rfl rfl (bLt _ _ _ _ .i64 s10 (p0.Rows.length : Int)) rfl (lb rfl) fun a S => ?_
  refine leafL (leafT (hK15 _ _ ?_))
  rcases iteSome h with ⟨hc16, h⟩ | ⟨hc16, h⟩
  rotate_left
  · refine sCondF S rfl hc16 ?_
    obtain rfl := Option.some.inj h
    obtain rfl := hu11 _ rfl
    have h := g12
    clear g12
    try dsimp only at h
    exact wp_exit (xThen (xThen (xHit (leafT (⟨Option.some.inj h, S.fix [0] [0] (by decide) rfl rfl rfl⟩)))))
  refine sCondT S rfl hc16 ?_
  refine wp_skip (leafT (hK14 _ _ ?_))
  refine sSeq (fun K17 hK17 => ?_)
  refine wp_block ?_
  refine sSeq (fun K18 hK18 => ?_)
  refine sRegion ?_
  refine sField (b := b6) (off := 0) 1 1 S (wN rfl) rfl rfl rfl rfl rfl (lb rfl) fun a S => ?_
  refine sLoad1 (p := b6) (off := 1) (T := 40) (vs := [iv p0.Start, .slice ad3 p0.Rows.length cp4]) 0 (.slice ad3 p0.Rows.length cp4) S (wN rfl) rfl rfl rfl rfl rfl rfl (lb rfl) fun a S => ?_
  refine sMove (iv s10) S (wN rfl) (.inl rfl) rfl rfl (lb rfl) fun a S => ?_
  obtain ⟨x19, hx20, h⟩ := bindSome h
  obtain ⟨q21, hq22, S⟩ := pIdx (P := Tryd.prog) (r := r_api_Row) (v := .slice ad3 p0.Rows.length cp4) (xs := p0.Rows) (j := s10) 38 54 0 S Tryd.underlying38 rfl rfl hx20
  refine sIdxV (v := .slice ad3 p0.Rows.length cp4) (k := .i64) (j := s10) S (wN rfl) rfl rfl rfl hq22 rfl (lb rfl) fun a S => ?_
  obtain ⟨q23, hq24, S⟩ := pFld (P := Tryd.prog) (r := r_api_Row) (s2 := (rL r_api_Stitch)) (g := (·.Cells)) (q := q21) (z := x19) 54 1 0 1 S rfl rfl comp_api_Row_Cells
  refine sFldV (q := q21) S (wN rfl) rfl rfl hq24 rfl (lb rfl) fun a S => ?_
  obtain ⟨u25, S⟩ := pLoad (r := (rL r_api_Stitch)) (q := q23) (x := x19.Cells) 0 S rfl
  obtain ⟨ad26, cp27, _, rfl, _⟩ := S.mem.know (i := 1) (e := fRep (rL r_api_Stitch) (u25) x19.Cells) rfl
  refine sLoadV1 (vq := q23) 0 (.slice ad26 x19.Cells.length cp27) S (wN rfl) rfl rfl rfl rfl rfl (lb rfl) fun a S => ?_
  refine sLen (ad := ad26) (m := x19.Cells.length) (c := cp27) S (wN rfl) rfl Tryd.underlying52 rfl rfl (lb rfl) fun a S => ?_
  refine sBin (.bool (decide (60 < (x19.Cells.length : Int)))) S (wN rfl) rfl rfl rfl (bGt _ _ _ _ .i64 (x19.Cells.length : Int) 60) rfl (lb rfl) fun a S => ?_
  refine leafL (leafT (hK18 _ _ ?_))
  rcases iteSome h with ⟨hc28, h⟩ | ⟨hc28, h⟩
  rotate_left
  · refine sCondF S rfl hc28 ?_
    refine wp_skip (leafB (leafT (hK17 _ _ ?_)))
    refine sRegion ?_
    refine sMove (iv s10) S (wN rfl) (.inl rfl) rfl rfl (lb rfl) fun a S => ?_
    refine sBin (iv (w64 (s10 + 1))) S (wN rfl) rfl rfl rfl (bAdd _ _ _ _ s10 1) rfl (lb rfl) fun a S => ?_
    refine sMove (iv (w64 (s10 + 1))) S (wN rfl) (.inr rfl) rfl rfl (lb rfl) fun a S => ?_
    exact leafL (leafT (⟨w64 (s10 + 1), (Option.some.inj h).symm, (S.fix [0] [4] (by decide) rfl rfl rfl)⟩))
  refine sCondT S rfl hc28 ?_
  refine sSeq (fun K29 hK29 => ?_)
  refine sRegion ?_
  refine sMove (.bool true) S (wN rfl) (.inr rfl) rfl rfl (lb rfl) fun a S => ?_
  refine leafL (leafT (hK29 _ _ ?_))
  obtain rfl := Option.some.inj h
  obtain rfl := hu11 _ rfl
  have h := g12
  clear g12
  try dsimp only at h
  obtain rfl := Option.some.inj h
  have h := g8
  clear g8
  try dsimp only at h
  obtain rfl := Option.some.inj h
  exact wp_ret (rBlock (rThen (rThen (rBlock (rThen (sRet (.bool true) S (rsl1 rfl (rvT (t := 2) (v := .bool true) S rfl)) ⟨(), rfl, S.mem.sel [] [] (by decide) rfl rfl⟩))))))

end Go.Proofs.YtmedbnjhgkcndaaDoor
namespace Go.Proofs.YtmedbnjhgkcndaaDoor
open Go.RowKit
set_option linter.unusedVariables false

def anc_raddlelaw37_PieceBack_0 : List (List Nat) := [[], [], [1], [1, 2], [1, 2, 3], [0, 1, 2, 3, 4], [0, 1, 2, 3, 4, 5], [0, 1, 2, 3, 4, 5, 6], [0, 1, 2, 3, 4, 5, 6], [], [0, 1, 2, 3, 4, 5, 6, 7, 9], [0, 1, 2, 3, 4, 5, 6, 7, 8, 9, 10]]
noncomputable def F_raddlelaw37_PieceBack (p0 : api_Piece) (p1 : api_Chart) (p2 : Int) : Option Bool :=
  Option.bind (F_raddlelaw37_alive) fun r17 =>
  Option.bind (α := Bool) (
    Option.bind (F_raddleref37_Great p0) fun r23 =>
    if r23 then
      some true
    else
      Option.bind (F_raddleref37_GreatChart p1) fun r26 =>
      if r26 then
        some true
      else
        some (!r17)) fun o20 =>
  if o20 then
    some r17
  else
    Option.bind (F_piece_Chart p0) fun r32 =>
    Option.bind (α := Unit ⊕ Bool) (
      if r32.2 == 0 then
        if (p0.Left.length : Int) == 0 then
          some (.inr false)
        else
          Option.bind (α := (Int × List Int × List Int)) (
            Option.bind (idxO p0.Left 0) fun x58 =>
            Option.bind (F_piece_Read r32.1 x58) fun r63 =>
            some (r63.2, r63.1.Left, r63.1.Right)) fun (o49, o50, o53) =>
          Option.bind (α := Bool) (
            if o49 != 0 then
              some true
            else
              Option.bind (F_raddleref37_Same (api_Piece.mk o50 o53) p0) fun r102 =>
              some (!r102)) fun o98 =>
          if o98 then
            some (.inr false)
          else
            some (.inl ())
      else
        some (.inl ())) fun z0 => match z0 with
      | .inl _ =>
        Option.bind (F_piece_Read p1 p2) fun r107 =>
        if r107.2 != 0 then
          Option.bind (α := Bool) (
            if r17 then
              some (r107.2 == 8)
            else
              some false) fun o122 =>
          some o122
        else
          Option.bind (F_piece_Chart r107.1) fun r127 =>
          Option.bind (α := Bool) (
            if r17 then
              if r127.2 == 0 then
                Option.bind (F_raddleref37_SameChart r127.1 p1) fun r140 =>
                if r140 then
                  if decide (0 < (r107.1.Left.length : Int)) then
                    Option.bind (idxO r107.1.Left 0) fun x144 =>
                    some (x144 == p2)
                  else
                    some false
                else
                  some false
              else
                some false
            else
              some false) fun o135 =>
          some o135
      | .inr z =>
        some z
set_option maxHeartbeats 4000000 in
set_option maxRecDepth 100000 in
theorem c_raddlelaw37_PieceBack (E : Nat → Prop) (w0 : World) (p0 : api_Piece) (v0 : Value) (p1 : api_Chart) (v1 : Value) (p2 : Int) (r : Bool) (h : F_raddlelaw37_PieceBack p0 p1 p2 = some r) (S : St0 E [] w0 w0 [] [fRep r_api_Piece (v0) p0, fRep r_api_Chart (v1) p1]) :
    Calls Tryd.prog 4 #[v0, v1, iv p2] w0 (Ret (X := Unit) E [] w0 (fun _ => .bool r) (fun _ => []) (fun _ => [])) := by
  unfold F_raddlelaw37_PieceBack at h
  obtain ⟨u1, u2, rfl, hu3, hu4⟩ := S.know (i := 0) (e := fRep r_api_Piece (v0) p0) rfl
  have S := S.learn (fRep (rL (rI .i64)) u1 p0.Left) hu3
  obtain ⟨ad5, cp6, _, rfl, _⟩ := hu3
  have S := S.learn (fRep (rL (rI .i64)) u2 p0.Right) hu4
  obtain ⟨ad7, cp8, _, rfl, _⟩ := hu4
  obtain ⟨u9, rfl, hu10⟩ := S.know (i := 3) (e := fRep r_api_Chart (v1) p1) rfl
  have S := S.learn (fRep (rL r_api_Row) u9 p1.Rows) hu10
  obtain ⟨ad11, cp12, _, rfl, _⟩ := hu10
  refine sEnter (args := [.agg #[.slice ad5 p0.Left.length cp6, .slice ad7 p0.Right.length cp8], .agg #[iv p1.Start, .slice ad11 p1.Rows.length cp12], iv p2]) 98 Tryd.func4 rfl rfl (by simp) S (fun a S => ?_)
  refine sSeq (fun K13 hK13 => ?_)
  refine sRegion ?_
  refine sBox (v := .agg #[.slice ad5 p0.Left.length cp6, .slice ad7 p0.Right.length cp8]) S (wN rfl) rfl rfl [.slice ad5 p0.Left.length cp6, .slice ad7 p0.Right.length cp8] rfl rfl (lb rfl) fun a b14 w S => ?_
  refine sBox (v := .agg #[iv p1.Start, .slice ad11 p1.Rows.length cp12]) S (wN rfl) rfl rfl [iv p1.Start, .slice ad11 p1.Rows.length cp12] rfl rfl (lb rfl) fun a b15 w S => ?_
  refine sMove (.bool false) S (wN rfl) (.inr rfl) rfl rfl (lb rfl) fun a S => ?_
  refine leafL (leafT (hK13 _ _ ?_))
  refine sSeq (fun K16 hK16 => ?_)
  refine sRegion ?_
  obtain ⟨r17, hx18, h⟩ := bindSome h
  have S1 := S.mem
  refine sCallQ (X := Unit) (f := 9) (vs := []) (val := fun _ => .bool r17) S (wN rfl) rfl callee9 rfl (S1.quiet [] rfl) (fun E1 w1 S1 => c_raddlelaw37_alive E1 w1  r17 hx18 S1) rfl (lb rfl) fun _ a w S => ?_
  refine sMove (.bool r17) S (wN rfl) (.inr rfl) rfl rfl (lb rfl) fun a S => ?_
  refine leafL (leafT (hK16 _ _ ?_))
  refine sSeq (fun K19 hK19 => ?_)
  obtain ⟨t21, h, g22⟩ := bindSome h
  refine sCut (fun a w => ∃ o20, o20 = t21 ∧ St [] E [] w0 98 a w [(2, iv p2), (3, .pointer (some ⟨b14, 0, none⟩)), (4, .pointer (some ⟨b15, 0, none⟩)), (7, .bool r17), (26, .bool o20)] [eBox b14 30 [.slice ad5 p0.Left.length cp6, .slice ad7 p0.Right.length cp8], eBox b15 40 [iv p1.Start, .slice ad11 p1.Rows.length cp12]] [fRep (rL (rI .i64)) (.slice ad5 p0.Left.length cp6) p0.Left, fRep (rL (rI .i64)) (.slice ad7 p0.Right.length cp8) p0.Right, fRep (rL r_api_Row) (.slice ad11 p1.Rows.length cp12) p1.Rows]) ?_ (fun a w hI => ?_)
  · refine sRegion ?_
    refine sLoadN (p := b14) (off := 0) (T := 30) (vs := [.slice ad5 p0.Left.length cp6, .slice ad7 p0.Right.length cp8]) 1 [.slice ad5 p0.Left.length cp6, .slice ad7 p0.Right.length cp8] S (wN rfl) rfl rfl rfl rfl rfl rfl rfl (lb rfl) fun a S => ?_
    obtain ⟨r23, hx24, h⟩ := bindSome h
    have S1 := S.mem
    refine sCallQ (X := Unit) (f := 15) (vs := [.agg #[.slice ad5 p0.Left.length cp6, .slice ad7 p0.Right.length cp8]]) (val := fun _ => .bool r23) S (wN rfl) rfl callee15 rfl (S1.quiet [3] rfl) (fun E1 w1 S1 => c_raddleref37_Great E1 w1 p0 (.agg #[.slice ad5 p0.Left.length cp6, .slice ad7 p0.Right.length cp8]) r23 hx24 S1) rfl (lb rfl) fun _ a w S => ?_
    refine sMove (.bool r23) S (wN rfl) (.inl rfl) rfl rfl (lb rfl) fun a S => ?_
    rcases iteSome h with ⟨hc25, h⟩ | ⟨hc25, h⟩
    · refine sSkip 2 false 19 20 S rfl rfl rfl hc25 rfl (lb rfl) fun a S => ?_
      refine sSkip 2 false 19 21 S rfl rfl rfl hc25 rfl (lb rfl) fun a S => ?_
      refine sPickT (.bool true) S (wN rfl) rfl rfl hc25 rfl rfl (lb rfl) fun a S => ?_
      refine sMove (.bool true) S (wN rfl) (.inl rfl) rfl rfl (lb rfl) fun a S => ?_
      refine sSkip 6 false 23 24 S rfl rfl rfl rfl rfl (lb rfl) fun a S => ?_
      refine sSkip 6 false 23 25 S rfl rfl rfl rfl rfl (lb rfl) fun a S => ?_
      refine sPickT (.bool true) S (wN rfl) rfl rfl rfl rfl rfl (lb rfl) fun a S => ?_
      exact leafL (leafT (⟨true, Option.some.inj h, S.fix [1, 0] [2, 1, 0] (by decide) rfl rfl rfl⟩))
    refine sLoadN (p := b15) (off := 0) (T := 40) (vs := [iv p1.Start, .slice ad11 p1.Rows.length cp12]) 0 [iv p1.Start, .slice ad11 p1.Rows.length cp12] S (wG 2 false 19 rfl rfl rfl hc25) rfl rfl rfl rfl rfl rfl rfl (lb rfl) fun a S => ?_
    obtain ⟨r26, hx27, h⟩ := bindSome h
    have S1 := S.mem
    refine sCallQ (X := Unit) (f := 16) (vs := [.agg #[iv p1.Start, .slice ad11 p1.Rows.length cp12]]) (val := fun _ => .bool r26) S (wG 2 false 19 rfl rfl rfl hc25) rfl callee16 rfl (S1.quiet [4] rfl) (fun E1 w1 S1 => c_raddleref37_GreatChart E1 w1 p1 (.agg #[iv p1.Start, .slice ad11 p1.Rows.length cp12]) r26 hx27 S1) rfl (lb rfl) fun _ a w S => ?_
    refine sPickF (.bool r26) S (wN rfl) rfl rfl hc25 rfl rfl (lb rfl) fun a S => ?_
    refine sMove (.bool r26) S (wN rfl) (.inl rfl) rfl rfl (lb rfl) fun a S => ?_
    rcases iteSome h with ⟨hc28, h⟩ | ⟨hc28, h⟩
    · refine sSkip 6 false 23 24 S rfl rfl rfl hc28 rfl (lb rfl) fun a S => ?_
      refine sSkip 6 false 23 25 S rfl rfl rfl hc28 rfl (lb rfl) fun a S => ?_
      refine sPickT (.bool true) S (wN rfl) rfl rfl hc28 rfl rfl (lb rfl) fun a S => ?_
      exact leafL (leafT (⟨true, Option.some.inj h, S.fix [1, 0] [2, 1, 0] (by decide) rfl rfl rfl⟩))
    refine sMove (.bool r17) S (wG 6 false 23 rfl rfl rfl hc28) (.inl rfl) rfl rfl (lb rfl) fun a S => ?_
    refine sNot (b := r17) S (wG 6 false 23 rfl rfl rfl hc28) rfl rfl rfl (lb rfl) fun a S => ?_
    refine sPickF (.bool (!r17)) S (wN rfl) rfl rfl hc28 rfl rfl (lb rfl) fun a S => ?_
    exact leafL (leafT (⟨!r17, Option.some.inj h, S.fix [1, 0] [2, 1, 0] (by decide) rfl rfl rfl⟩))
  obtain ⟨o20, rfl, S⟩ := hI
  have h := g22
  clear g22
  try dsimp only at h
  rcases iteSome h with ⟨hc29, h⟩ | ⟨hc29, h⟩
  · refine sCondT S rfl hc29 ?_
    refine sSeq (fun K30 hK30 => ?_)
    refine sRegion ?_
    refine sMove (.bool r17) S (wN rfl) (.inl rfl) rfl rfl (lb rfl) fun a S => ?_
    refine sMove (.bool r17) S (wN rfl) (.inr rfl) rfl rfl (lb rfl) fun a S => ?_
    refine leafL (leafT (hK30 _ _ ?_))
    obtain rfl := Option.some.inj h
    exact wp_ret (rThen (sRet (.bool r17) S (rsl1 rfl (rvT (t := 6) (v := .bool r17) S rfl)) ⟨(), rfl, S.mem.sel [] [] (by decide) rfl rfl⟩))
  refine sCondF S rfl hc29 ?_
  refine wp_skip (leafT (hK19 _ _ ?_))
  refine sSeq (fun K31 hK31 => ?_)
  refine sRegion ?_
  refine sLoadN (p := b14) (off := 0) (T := 30) (vs := [.slice ad5 p0.Left.length cp6, .slice ad7 p0.Right.length cp8]) 0 [.slice ad5 p0.Left.length cp6, .slice ad7 p0.Right.length cp8] S (wN rfl) rfl rfl rfl rfl rfl rfl rfl (lb rfl) fun a S => ?_
  obtain ⟨r32, hx33, h⟩ := bindSome h
  have S := S.learn (fRep r_api_Piece (.agg #[.slice ad5 p0.Left.length cp6, .slice ad7 p0.Right.length cp8]) p0) ⟨_, _, rfl, S.mem.know (i := 0) (e := fRep (rL (rI .i64)) (.slice ad5 p0.Left.length cp6) p0.Left) rfl, S.mem.know (i := 1) (e := fRep (rL (rI .i64)) (.slice ad7 p0.Right.length cp8) p0.Right) rfl⟩
  refine sCall (X := Value) (f := 17) (vs := [.agg #[.slice ad5 p0.Left.length cp6, .slice ad7 p0.Right.length cp8]]) (val := c_piece_Chart_val r32) (B' := fun _ => []) (D' := c_piece_Chart_D r32) [] [eBox b14 30 [.slice ad5 p0.Left.length cp6, .slice ad7 p0.Right.length cp8], eBox b15 40 [iv p1.Start, .slice ad11 p1.Rows.length cp12]] [fRep r_api_Piece (.agg #[.slice ad5 p0.Left.length cp6, .slice ad7 p0.Right.length cp8]) p0] [0, 1] [0] S (wN rfl) rfl callee17 rfl (by decide) rfl rfl (fun E1 w1 S1 => c_piece_Chart E1 w1 p0 (.agg #[.slice ad5 p0.Left.length cp6, .slice ad7 p0.Right.length cp8]) r32 hx33 S1) rfl (lb rfl) fun u34 a w S => ?_
  obtain ⟨u35, rfl, hu36⟩ := S.mem.know (i := 0) (e := fRep r_api_Chart (u34) r32.1) rfl
  have S := S.learn (fRep (rL r_api_Row) u35 r32.1.Rows) hu36
  obtain ⟨ad37, cp38, _, rfl, _⟩ := hu36
  refine sMove (.tuple #[.agg #[iv r32.1.Start, .slice ad37 r32.1.Rows.length cp38], iv r32.2]) S (wN rfl) (.inl rfl) rfl rfl (lb rfl) fun a S => ?_
  refine sExtract (vs := [.agg #[iv r32.1.Start, .slice ad37 r32.1.Rows.length cp38], iv r32.2]) (.agg #[iv r32.1.Start, .slice ad37 r32.1.Rows.length cp38]) S (wN rfl) rfl rfl rfl rfl (lb rfl) fun a S => ?_
  refine sExtract (vs := [.agg #[iv r32.1.Start, .slice ad37 r32.1.Rows.length cp38], iv r32.2]) (iv r32.2) S (wN rfl) rfl rfl rfl rfl (lb rfl) fun a S => ?_
  refine sAlloc (.agg #[iv 0, .slice none 0 0]) S (wN rfl) rfl rfl [iv 0, .slice none 0 0] rfl rfl (lb rfl) fun a b39 w S => ?_
  refine sStore (p := b39) (off := 0) (T := 40) (vs := [iv 0, .slice none 0 0]) (v := .agg #[iv r32.1.Start, .slice ad37 r32.1.Rows.length cp38]) 0 [iv r32.1.Start, .slice ad37 r32.1.Rows.length cp38] S (wN rfl) rfl rfl rfl rfl rfl rfl rfl (by simp) rfl fun a w S => ?_
  refine sMove (iv r32.2) S (wN rfl) (.inr rfl) rfl rfl (lb rfl) fun a S => ?_
  refine leafL (leafT (hK31 _ _ ?_))
  obtain ⟨t40, h, g41⟩ := bindSome h
  refine sCut (fun a w => .inl () = t40 ∧ St [] E [] w0 98 a w [(2, iv p2), (4, .pointer (some ⟨b15, 0, none⟩)), (7, .bool r17)] [eBox b15 40 [iv p1.Start, .slice ad11 p1.Rows.length cp12]] [fRep (rL r_api_Row) (.slice ad11 p1.Rows.length cp12) p1.Rows]) ?_ (fun a w hI => ?_)
  rotate_left
  · obtain ⟨rfl, S⟩ := hI
    have h := g41
    clear g41
    try dsimp only at h
    refine sSeq (fun K106 hK106 => ?_)
    refine sRegion ?_
    refine sLoadN (p := b15) (off := 0) (T := 40) (vs := [iv p1.Start, .slice ad11 p1.Rows.length cp12]) 0 [iv p1.Start, .slice ad11 p1.Rows.length cp12] S (wN rfl) rfl rfl rfl rfl rfl rfl rfl (lb rfl) fun a S => ?_
    refine sMove (iv p2) S (wN rfl) (.inl rfl) rfl rfl (lb rfl) fun a S => ?_
    obtain ⟨r107, hx108, h⟩ := bindSome h
    have S := S.learn (fRep r_api_Chart (.agg #[iv p1.Start, .slice ad11 p1.Rows.length cp12]) p1) ⟨_, rfl, S.mem.know (i := 0) (e := fRep (rL r_api_Row) (.slice ad11 p1.Rows.length cp12) p1.Rows) rfl⟩
    refine sCall (X := Value) (f := 18) (vs := [.agg #[iv p1.Start, .slice ad11 p1.Rows.length cp12], iv p2]) (val := c_piece_Read_val r107) (B' := fun _ => []) (D' := c_piece_Read_D r107) [] [eBox b15 40 [iv p1.Start, .slice ad11 p1.Rows.length cp12]] [fRep r_api_Chart (.agg #[iv p1.Start, .slice ad11 p1.Rows.length cp12]) p1] [0] [0] S (wN rfl) rfl callee18 rfl (by decide) rfl rfl (fun E1 w1 S1 => c_piece_Read E1 w1 p1 (.agg #[iv p1.Start, .slice ad11 p1.Rows.length cp12]) p2 r107 hx108 S1) rfl (lb rfl) fun u109 a w S => ?_
    obtain ⟨u110, u111, rfl, hu112, hu113⟩ := S.mem.know (i := 0) (e := fRep r_api_Piece (u109) r107.1) rfl
    have S := S.learn (fRep (rL (rI .i64)) u110 r107.1.Left) hu112
    obtain ⟨ad114, cp115, _, rfl, _⟩ := hu112
    have S := S.learn (fRep (rL (rI .i64)) u111 r107.1.Right) hu113
    obtain ⟨ad116, cp117, _, rfl, _⟩ := hu113
    refine sMove (.tuple #[.agg #[.slice ad114 r107.1.Left.length cp115, .slice ad116 r107.1.Right.length cp117], iv r107.2]) S (wN rfl) (.inl rfl) rfl rfl (lb rfl) fun a S => ?_
    refine sExtract (vs := [.agg #[.slice ad114 r107.1.Left.length cp115, .slice ad116 r107.1.Right.length cp117], iv r107.2]) (.agg #[.slice ad114 r107.1.Left.length cp115, .slice ad116 r107.1.Right.length cp117]) S (wN rfl) rfl rfl rfl rfl (lb rfl) fun a S => ?_
    refine sExtract (vs := [.agg #[.slice ad114 r107.1.Left.length cp115, .slice ad116 r107.1.Right.length cp117], iv r107.2]) (iv r107.2) S (wN rfl) rfl rfl rfl rfl (lb rfl) fun a S => ?_
    refine sAlloc (.agg #[.slice none 0 0, .slice none 0 0]) S (wN rfl) rfl rfl [.slice none 0 0, .slice none 0 0] rfl rfl (lb rfl) fun a b118 w S => ?_
    refine sStore (p := b118) (off := 0) (T := 30) (vs := [.slice none 0 0, .slice none 0 0]) (v := .agg #[.slice ad114 r107.1.Left.length cp115, .slice ad116 r107.1.Right.length cp117]) 0 [.slice ad114 r107.1.Left.length cp115, .slice ad116 r107.1.Right.length cp117] S (wN rfl) rfl rfl rfl rfl rfl rfl rfl (by simp) rfl fun a w S => ?_
    refine sMove (iv r107.2) S (wN rfl) (.inr rfl) rfl rfl (lb rfl) fun a S => ?_
    refine leafL (leafT (hK106 _ _ ?_))
    refine sSeq (fun K119 hK119 => ?_)
    refine sSeq (fun K120 hK120 => ?_)
    refine sRegion ?_
    refine sMove (iv r107.2) S (wN rfl) (.inl rfl) rfl rfl (lb rfl) fun a S => ?_
    refine sBin (.bool (r107.2 != 0)) S (wN rfl) rfl rfl rfl (bNe _ _ _ _ .i64 r107.2 0) rfl (lb rfl) fun a S => ?_
    refine leafL (leafT (hK120 _ _ ?_))
    rcases iteSome h with ⟨hc121, h⟩ | ⟨hc121, h⟩
    · refine sCondT S rfl hc121 ?_
      obtain ⟨t123, h, g124⟩ := bindSome h
      refine sCut (fun a w => ∃ o122, o122 = t123 ∧ St [] E [] w0 98 a w [(6, .bool o122)] [] []) ?_ (fun a w hI => ?_)
      rotate_left
      · obtain ⟨o122, rfl, S⟩ := hI
        have h := g124
        clear g124
        try dsimp only at h
        obtain rfl := Option.some.inj h
        exact wp_ret (rThen (sRet (.bool o122) S (rsl1 rfl (rvT (t := 6) (v := .bool o122) S rfl)) ⟨(), rfl, S.mem.sel [] [] (by decide) rfl rfl⟩))
      refine sRegion ?_
      refine sMove (.bool r17) S (wN rfl) (.inl rfl) rfl rfl (lb rfl) fun a S => ?_
      refine sMove (.bool r17) S (wN rfl) (.inl rfl) rfl rfl (lb rfl) fun a S => ?_
      rcases iteSome h with ⟨hc125, h⟩ | ⟨hc125, h⟩
      rotate_left
      · refine sSkip 1 true 65 66 S rfl rfl rfl hc125 rfl (lb rfl) fun a S => ?_
        refine sSkip 1 true 65 67 S rfl rfl rfl hc125 rfl (lb rfl) fun a S => ?_
        refine sPickF (.bool false) S (wN rfl) rfl rfl hc125 rfl rfl (lb rfl) fun a S => ?_
        refine sMove (.bool false) S (wN rfl) (.inr rfl) rfl rfl (lb rfl) fun a S => ?_
        exact leafL (leafT (⟨false, Option.some.inj h, S.fix [] [] (by decide) rfl rfl rfl⟩))
      refine sMove (iv r107.2) S (wG 1 true 65 rfl rfl rfl hc125) (.inl rfl) rfl rfl (lb rfl) fun a S => ?_
      refine sBin (.bool (r107.2 == 8)) S (wG 1 true 65 rfl rfl rfl hc125) rfl rfl rfl (bEq _ _ _ _ .i64 r107.2 8) rfl (lb rfl) fun a S => ?_
      refine sPickT (.bool (r107.2 == 8)) S (wN rfl) rfl rfl hc125 rfl rfl (lb rfl) fun a S => ?_
      refine sMove (.bool (r107.2 == 8)) S (wN rfl) (.inr rfl) rfl rfl (lb rfl) fun a S => ?_
      exact leafL (leafT (⟨r107.2 == 8, Option.some.inj h, S.fix [] [] (by decide) rfl rfl rfl⟩))
    refine sCondF S rfl hc121 ?_
    refine wp_skip (leafT (hK119 _ _ ?_))
    refine sSeq (fun K126 hK126 => ?_)
    refine sRegion ?_
    refine sLoadN (p := b118) (off := 0) (T := 30) (vs := [.slice ad114 r107.1.Left.length cp115, .slice ad116 r107.1.Right.length cp117]) 0 [.slice ad114 r107.1.Left.length cp115, .slice ad116 r107.1.Right.length cp117] S (wN rfl) rfl rfl rfl rfl rfl rfl rfl (lb rfl) fun a S => ?_
    obtain ⟨r127, hx128, h⟩ := bindSome h
    refine sCall (X := Value) (f := 17) (vs := [.agg #[.slice ad114 r107.1.Left.length cp115, .slice ad116 r107.1.Right.length cp117]]) (val := c_piece_Chart_val r127) (B' := fun _ => []) (D' := c_piece_Chart_D r127) [] [eBox b118 30 [.slice ad114 r107.1.Left.length cp115, .slice ad116 r107.1.Right.length cp117], eBox b15 40 [iv p1.Start, .slice ad11 p1.Rows.length cp12]] [fRep r_api_Piece (.agg #[.slice ad114 r107.1.Left.length cp115, .slice ad116 r107.1.Right.length cp117]) r107.1] [0, 1] [2] S (wN rfl) rfl callee17 rfl (by decide) rfl rfl (fun E1 w1 S1 => c_piece_Chart E1 w1 r107.1 (.agg #[.slice ad114 r107.1.Left.length cp115, .slice ad116 r107.1.Right.length cp117]) r127 hx128 S1) rfl (lb rfl) fun u129 a w S => ?_
    obtain ⟨u130, rfl, hu131⟩ := S.mem.know (i := 0) (e := fRep r_api_Chart (u129) r127.1) rfl
    have S := S.learn (fRep (rL r_api_Row) u130 r127.1.Rows) hu131
    obtain ⟨ad132, cp133, _, rfl, _⟩ := hu131
    refine sMove (.tuple #[.agg #[iv r127.1.Start, .slice ad132 r127.1.Rows.length cp133], iv r127.2]) S (wN rfl) (.inl rfl) rfl rfl (lb rfl) fun a S => ?_
    refine sExtract (vs := [.agg #[iv r127.1.Start, .slice ad132 r127.1.Rows.length cp133], iv r127.2]) (.agg #[iv r127.1.Start, .slice ad132 r127.1.Rows.length cp133]) S (wN rfl) rfl rfl rfl rfl (lb rfl) fun a S => ?_
    refine sExtract (vs := [.agg #[iv r127.1.Start, .slice ad132 r127.1.Rows.length cp133], iv r127.2]) (iv r127.2) S (wN rfl) rfl rfl rfl rfl (lb rfl) fun a S => ?_
    refine sAlloc (.agg #[iv 0, .slice none 0 0]) S (wN rfl) rfl rfl [iv 0, .slice none 0 0] rfl rfl (lb rfl) fun a b134 w S => ?_
    refine sStore (p := b134) (off := 0) (T := 40) (vs := [iv 0, .slice none 0 0]) (v := .agg #[iv r127.1.Start, .slice ad132 r127.1.Rows.length cp133]) 0 [iv r127.1.Start, .slice ad132 r127.1.Rows.length cp133] S (wN rfl) rfl rfl rfl rfl rfl rfl rfl (by simp) rfl fun a w S => ?_
    refine sMove (iv r127.2) S (wN rfl) (.inr rfl) rfl rfl (lb rfl) fun a S => ?_
    refine leafL (leafT (hK126 _ _ ?_))
    obtain ⟨t136, h, g137⟩ := bindSome h
    refine sCut (fun a w => ∃ o135, o135 = t136 ∧ St [] E [] w0 98 a w [(6, .bool o135)] [] []) ?_ (fun a w hI => ?_)
    rotate_left
    · obtain ⟨o135, rfl, S⟩ := hI
      have h := g137
      clear g137
      try dsimp only at h
      obtain rfl := Option.some.inj h
      exact wp_ret (sRet (.bool o135) S (rsl1 rfl (rvT (t := 6) (v := .bool o135) S rfl)) ⟨(), rfl, S.mem.sel [] [] (by decide) rfl rfl⟩)
    refine sRegion ?_
    refine sMove (.bool r17) S (wN rfl) (.inl rfl) rfl rfl (lb rfl) fun a S => ?_
    refine sMove (.bool r17) S (wN rfl) (.inl rfl) rfl rfl (lb rfl) fun a S => ?_
    rcases iteSome h with ⟨hc138, h⟩ | ⟨hc138, h⟩
    rotate_left
    · refine sSkip 1 true 75 76 S rfl rfl rfl hc138 rfl (lb rfl) fun a S => ?_
      refine sSkip 1 true 75 77 S rfl rfl rfl hc138 rfl (lb rfl) fun a S => ?_
      refine sPickF (.bool false) S (wN rfl) rfl rfl hc138 rfl rfl (lb rfl) fun a S => ?_
      refine sMove (.bool false) S (wN rfl) (.inl rfl) rfl rfl (lb rfl) fun a S => ?_
      refine sSkip 5 true 79 80 S rfl rfl rfl rfl rfl (lb rfl) fun a S => ?_
      refine sSkip 5 true 79 81 S rfl rfl rfl rfl rfl (lb rfl) fun a S => ?_
      refine sSkip 5 true 79 82 S rfl rfl rfl rfl rfl (lb rfl) fun a S => ?_
      refine sPickF (.bool false) S (wN rfl) rfl rfl rfl rfl rfl (lb rfl) fun a S => ?_
      refine sMove (.bool false) S (wN rfl) (.inl rfl) rfl rfl (lb rfl) fun a S => ?_
      refine sSkip 10 true 84 85 S rfl rfl rfl rfl rfl (lb rfl) fun a S => ?_
      refine sSkip 10 true 84 86 S rfl rfl rfl rfl rfl (lb rfl) fun a S => ?_
      refine sSkip 10 true 84 87 S rfl rfl rfl rfl rfl (lb rfl) fun a S => ?_
      refine sSkip 10 true 84 88 S rfl rfl rfl rfl rfl (lb rfl) fun a S => ?_
      refine sPickF (.bool false) S (wN rfl) rfl rfl rfl rfl rfl (lb rfl) fun a S => ?_
      refine sMove (.bool false) S (wN rfl) (.inl rfl) rfl rfl (lb rfl) fun a S => ?_
      refine sSkip 16 true 90 91 S rfl rfl rfl rfl rfl (lb rfl) fun a S => ?_
      refine sSkip 16 true 90 92 S rfl rfl rfl rfl rfl (lb rfl) fun a S => ?_
      refine sSkip 16 true 90 93 S rfl rfl rfl rfl rfl (lb rfl) fun a S => ?_
      refine sSkip 16 true 90 94 S rfl rfl rfl rfl rfl (lb rfl) fun a S => ?_
      refine sSkip 16 true 90 95 S rfl rfl rfl rfl rfl (lb rfl) fun a S => ?_
      refine sSkip 16 true 90 96 S rfl rfl rfl rfl rfl (lb rfl) fun a S => ?_
      refine sPickF (.bool false) S (wN rfl) rfl rfl rfl rfl rfl (lb rfl) fun a S => ?_
      refine sMove (.bool false) S (wN rfl) (.inr rfl) rfl rfl (lb rfl) fun a S => ?_
      exact leafL (leafT (⟨false, Option.some.inj h, S.fix [] [] (by decide) rfl rfl rfl⟩))
    refine sMove (iv r127.2) S (wG 1 true 75 rfl rfl rfl hc138) (.inl rfl) rfl rfl (lb rfl) fun a S => ?_
    refine sBin (.bool (r127.2 == 0)) S (wG 1 true 75 rfl rfl rfl hc138) rfl rfl rfl (bEq _ _ _ _ .i64 r127.2 0) rfl (lb rfl) fun a S => ?_
    refine sPickT (.bool (r127.2 == 0)) S (wN rfl) rfl rfl hc138 rfl rfl (lb rfl) fun a S => ?_
    refine sMove (.bool (r127.2 == 0)) S (wN rfl) (.inl rfl) rfl rfl (lb rfl) fun a S => ?_
    rcases iteSome h with ⟨hc139, h⟩ | ⟨hc139, h⟩
    rotate_left
    · refine sSkip 5 true 79 80 S rfl rfl rfl hc139 rfl (lb rfl) fun a S => ?_
      refine sSkip 5 true 79 81 S rfl rfl rfl hc139 rfl (lb rfl) fun a S => ?_
      refine sSkip 5 true 79 82 S rfl rfl rfl hc139 rfl (lb rfl) fun a S => ?_
      refine sPickF (.bool false) S (wN rfl) rfl rfl hc139 rfl rfl (lb rfl) fun a S => ?_
      refine sMove (.bool false) S (wN rfl) (.inl rfl) rfl rfl (lb rfl) fun a S => ?_
      refine sSkip 10 true 84 85 S rfl rfl rfl rfl rfl (lb rfl) fun a S => ?_
      refine sSkip 10 true 84 86 S rfl rfl rfl rfl rfl (lb rfl) fun a S => ?_
      refine sSkip 10 true 84 87 S rfl rfl rfl rfl rfl (lb rfl) fun a S => ?_
      refine sSkip 10 true 84 88 S rfl rfl rfl rfl rfl (lb rfl) fun a S => ?_
      refine sPickF (.bool false) S (wN rfl) rfl rfl rfl rfl rfl (lb rfl) fun a S => ?_
      refine sMove (.bool false) S (wN rfl) (.inl rfl) rfl rfl (lb rfl) fun a S => ?_
      refine sSkip 16 true 90 91 S rfl rfl rfl rfl rfl (lb rfl) fun a S => ?_
      refine sSkip 16 true 90 92 S rfl rfl rfl rfl rfl (lb rfl) fun a S => ?_
      refine sSkip 16 true 90 93 S rfl rfl rfl rfl rfl (lb rfl) fun a S => ?_
      refine sSkip 16 true 90 94 S rfl rfl rfl rfl rfl (lb rfl) fun a S => ?_
      refine sSkip 16 true 90 95 S rfl rfl rfl rfl rfl (lb rfl) fun a S => ?_
      refine sSkip 16 true 90 96 S rfl rfl rfl rfl rfl (lb rfl) fun a S => ?_
      refine sPickF (.bool false) S (wN rfl) rfl rfl rfl rfl rfl (lb rfl) fun a S => ?_
      refine sMove (.bool false) S (wN rfl) (.inr rfl) rfl rfl (lb rfl) fun a S => ?_
      exact leafL (leafT (⟨false, Option.some.inj h, S.fix [] [] (by decide) rfl rfl rfl⟩))
    refine sLoadN (p := b134) (off := 0) (T := 40) (vs := [iv r127.1.Start, .slice ad132 r127.1.Rows.length cp133]) 0 [iv r127.1.Start, .slice ad132 r127.1.Rows.length cp133] S (wG 5 true 79 rfl rfl rfl hc139) rfl rfl rfl rfl rfl rfl rfl (lb rfl) fun a S => ?_
    refine sLoadN (p := b15) (off := 0) (T := 40) (vs := [iv p1.Start, .slice ad11 p1.Rows.length cp12]) 2 [iv p1.Start, .slice ad11 p1.Rows.length cp12] S (wG 5 true 79 rfl rfl rfl hc139) rfl rfl rfl rfl rfl rfl rfl (lb rfl) fun a S => ?_
    obtain ⟨r140, hx141, h⟩ := bindSome h
    have S1 := S.mem
    refine sCallQ (X := Unit) (f := 20) (vs := [.agg #[iv r127.1.Start, .slice ad132 r127.1.Rows.length cp133], .agg #[iv p1.Start, .slice ad11 p1.Rows.length cp12]]) (val := fun _ => .bool r140) S (wG 5 true 79 rfl rfl rfl hc139) rfl callee20 rfl (S1.quiet [1, 5] rfl) (fun E1 w1 S1 => c_raddleref37_SameChart E1 w1 r127.1 (.agg #[iv r127.1.Start, .slice ad132 r127.1.Rows.length cp133]) p1 (.agg #[iv p1.Start, .slice ad11 p1.Rows.length cp12]) r140 hx141 S1) rfl (lb rfl) fun _ a w S => ?_
    refine sPickT (.bool r140) S (wN rfl) rfl rfl hc139 rfl rfl (lb rfl) fun a S => ?_
    refine sMove (.bool r140) S (wN rfl) (.inl rfl) rfl rfl (lb rfl) fun a S => ?_
    rcases iteSome h with ⟨hc142, h⟩ | ⟨hc142, h⟩
    rotate_left
    · refine sSkip 10 true 84 85 S rfl rfl rfl hc142 rfl (lb rfl) fun a S => ?_
      refine sSkip 10 true 84 86 S rfl rfl rfl hc142 rfl (lb rfl) fun a S => ?_
      refine sSkip 10 true 84 87 S rfl rfl rfl hc142 rfl (lb rfl) fun a S => ?_
      refine sSkip 10 true 84 88 S rfl rfl rfl hc142 rfl (lb rfl) fun a S => ?_
      refine sPickF (.bool false) S (wN rfl) rfl rfl hc142 rfl rfl (lb rfl) fun a S => ?_
      refine sMove (.bool false) S (wN rfl) (.inl rfl) rfl rfl (lb rfl) fun a S => ?_
      refine sSkip 16 true 90 91 S rfl rfl rfl rfl rfl (lb rfl) fun a S => ?_
      refine sSkip 16 true 90 92 S rfl rfl rfl rfl rfl (lb rfl) fun a S => ?_
      refine sSkip 16 true 90 93 S rfl rfl rfl rfl rfl (lb rfl) fun a S => ?_
      refine sSkip 16 true 90 94 S rfl rfl rfl rfl rfl (lb rfl) fun a S => ?_
      refine sSkip 16 true 90 95 S rfl rfl rfl rfl rfl (lb rfl) fun a S => ?_
      refine sSkip 16 true 90 96 S rfl rfl rfl rfl rfl (lb rfl) fun a S => ?_
      refine sPickF (.bool false) S (wN rfl) rfl rfl rfl rfl rfl (lb rfl) fun a S => ?_
      refine sMove (.bool false) S (wN rfl) (.inr rfl) rfl rfl (lb rfl) fun a S => ?_
      exact leafL (leafT (⟨false, Option.some.inj h, S.fix [] [] (by decide) rfl rfl rfl⟩))
    refine sField (b := b118) (off := 0) 0 0 S (wG 10 true 84 rfl rfl rfl hc142) rfl rfl rfl rfl rfl (lb rfl) fun a S => ?_
    refine sLoad1 (p := b118) (off := 0) (T := 30) (vs := [.slice ad114 r107.1.Left.length cp115, .slice ad116 r107.1.Right.length cp117]) 1 (.slice ad114 r107.1.Left.length cp115) S (wG 10 true 84 rfl rfl rfl hc142) rfl rfl rfl rfl rfl rfl (lb rfl) fun a S => ?_
    refine sLen (ad := ad114) (m := r107.1.Left.length) (c := cp115) S (wG 10 true 84 rfl rfl rfl hc142) rfl Tryd.underlying28 rfl rfl (lb rfl) fun a S => ?_
    refine sBin (.bool (decide (0 < (r107.1.Left.length : Int)))) S (wG 10 true 84 rfl rfl rfl hc142) rfl rfl rfl (bGt _ _ _ _ .i64 (r107.1.Left.length : Int) 0) rfl (lb rfl) fun a S => ?_
    refine sPickT (.bool (decide (0 < (r107.1.Left.length : Int)))) S (wN rfl) rfl rfl hc142 rfl rfl (lb rfl) fun a S => ?_
    refine sMove (.bool (decide (0 < (r107.1.Left.length : Int)))) S (wN rfl) (.inl rfl) rfl rfl (lb rfl) fun a S => ?_
    rcases iteSome h with ⟨hc143, h⟩ | ⟨hc143, h⟩
    rotate_left
    · refine sSkip 16 true 90 91 S rfl rfl rfl hc143 rfl (lb rfl) fun a S => ?_
      refine sSkip 16 true 90 92 S rfl rfl rfl hc143 rfl (lb rfl) fun a S => ?_
      refine sSkip 16 true 90 93 S rfl rfl rfl hc143 rfl (lb rfl) fun a S => ?_
      refine sSkip 16 true 90 94 S rfl rfl rfl hc143 rfl (lb rfl) fun a S => ?_
      refine sSkip 16 true 90 95 S rfl rfl rfl hc143 rfl (lb rfl) fun a S => ?_
      refine sSkip 16 true 90 96 S rfl rfl rfl hc143 rfl (lb rfl) fun a S => ?_
      refine sPickF (.bool false) S (wN rfl) rfl rfl hc143 rfl rfl (lb rfl) fun a S => ?_
      refine sMove (.bool false) S (wN rfl) (.inr rfl) rfl rfl (lb rfl) fun a S => ?_
      exact leafL (leafT (⟨false, Option.some.inj h, S.fix [] [] (by decide) rfl rfl rfl⟩))
    refine sField (b := b118) (off := 0) 0 0 S (wG 16 true 90 rfl rfl rfl hc143) rfl rfl rfl rfl rfl (lb rfl) fun a S => ?_
    refine sLoad1 (p := b118) (off := 0) (T := 30) (vs := [.slice ad114 r107.1.Left.length cp115, .slice ad116 r107.1.Right.length cp117]) 1 (.slice ad114 r107.1.Left.length cp115) S (wG 16 true 90 rfl rfl rfl hc143) rfl rfl rfl rfl rfl rfl (lb rfl) fun a S => ?_
    obtain ⟨x144, hx145, h⟩ := bindSome h
    obtain ⟨q146, hq147, S⟩ := pIdx (P := Tryd.prog) (r := (rI .i64)) (v := .slice ad114 r107.1.Left.length cp115) (xs := r107.1.Left) (j := 0) 28 3 3 S Tryd.underlying28 rfl rfl hx145
    refine sIdxV (v := .slice ad114 r107.1.Left.length cp115) (k := .i64) (j := 0) S (wG 16 true 90 rfl rfl rfl hc143) rfl rfl rfl hq147 rfl (lb rfl) fun a S => ?_
    obtain ⟨u148, S⟩ := pLoad (r := (rI .i64)) (q := q146) (x := x144) 0 S rfl
    obtain rfl : u148 = iv x144 := S.mem.know (i := 1) (e := fRep (rI .i64) (u148) x144) rfl
    refine sLoadV1 (vq := q146) 0 (iv x144) S (wG 16 true 90 rfl rfl rfl hc143) rfl rfl rfl rfl rfl (lb rfl) fun a S => ?_
    refine sMove (iv p2) S (wG 16 true 90 rfl rfl rfl hc143) (.inl rfl) rfl rfl (lb rfl) fun a S => ?_
    refine sBin (.bool (x144 == p2)) S (wG 16 true 90 rfl rfl rfl hc143) rfl rfl rfl (bEq _ _ _ _ .i64 x144 p2) rfl (lb rfl) fun a S => ?_
    refine sPickT (.bool (x144 == p2)) S (wN rfl) rfl rfl hc143 rfl rfl (lb rfl) fun a S => ?_
    refine sMove (.bool (x144 == p2)) S (wN rfl) (.inr rfl) rfl rfl (lb rfl) fun a S => ?_
    exact leafL (leafT (⟨x144 == p2, Option.some.inj h, S.fix [] [] (by decide) rfl rfl rfl⟩))
  refine sSeq (fun K42 hK42 => ?_)
  refine sRegion ?_
  refine sMove (iv r32.2) S (wN rfl) (.inl rfl) rfl rfl (lb rfl) fun a S => ?_
  refine sBin (.bool (r32.2 == 0)) S (wN rfl) rfl rfl rfl (bEq _ _ _ _ .i64 r32.2 0) rfl (lb rfl) fun a S => ?_
  refine leafL (leafT (hK42 _ _ ?_))
  rcases iteSome h with ⟨hc43, h⟩ | ⟨hc43, h⟩
  rotate_left
  · refine sCondF S rfl hc43 ?_
    exact wp_skip (leafT (⟨Option.some.inj h, S.fix [2] [5] (by decide) rfl rfl rfl⟩))
  refine sCondT S rfl hc43 ?_
  refine sSeq (fun K44 hK44 => ?_)
  refine sSeq (fun K45 hK45 => ?_)
  refine sRegion ?_
  refine sField (b := b14) (off := 0) 0 0 S (wN rfl) rfl rfl rfl rfl rfl (lb rfl) fun a S => ?_
  refine sLoad1 (p := b14) (off := 0) (T := 30) (vs := [.slice ad5 p0.Left.length cp6, .slice ad7 p0.Right.length cp8]) 1 (.slice ad5 p0.Left.length cp6) S (wN rfl) rfl rfl rfl rfl rfl rfl (lb rfl) fun a S => ?_
  refine sLen (ad := ad5) (m := p0.Left.length) (c := cp6) S (wN rfl) rfl Tryd.underlying28 rfl rfl (lb rfl) fun a S => ?_
  refine sBin (.bool ((p0.Left.length : Int) == 0)) S (wN rfl) rfl rfl rfl (bEq _ _ _ _ .i64 (p0.Left.length : Int) 0) rfl (lb rfl) fun a S => ?_
  refine leafL (leafT (hK45 _ _ ?_))
  rcases iteSome h with ⟨hc46, h⟩ | ⟨hc46, h⟩
  · refine sCondT S rfl hc46 ?_
    refine sSeq (fun K47 hK47 => ?_)
    refine sRegion ?_
    refine sMove (.bool false) S (wN rfl) (.inr rfl) rfl rfl (lb rfl) fun a S => ?_
    refine leafL (leafT (hK47 _ _ ?_))
    obtain rfl := Option.some.inj h
    have h := g41
    clear g41
    try dsimp only at h
    obtain rfl := Option.some.inj h
    exact wp_ret (rThen (rThen (sRet (.bool false) S (rsl1 rfl (rvT (t := 6) (v := .bool false) S rfl)) ⟨(), rfl, S.mem.sel [] [] (by decide) rfl rfl⟩)))
  refine sCondF S rfl hc46 ?_
  refine wp_skip (leafT (hK44 _ _ ?_))
  obtain ⟨t56, h, g57⟩ := bindSome h
  refine sCut (fun a w => ∃ o49, ∃ o50, ∃ o53, (o49, o50, o53) = t56 ∧ ∃ b48, ∃ ad51, ∃ cp52, ∃ ad54, ∃ cp55, St [] E [] w0 98 a w [(2, iv p2), (3, .pointer (some ⟨b14, 0, none⟩)), (4, .pointer (some ⟨b15, 0, none⟩)), (7, .bool r17), (10, .pointer (some ⟨b48, 0, none⟩)), (11, iv o49)] [eBox b14 30 [.slice ad5 p0.Left.length cp6, .slice ad7 p0.Right.length cp8], eBox b15 40 [iv p1.Start, .slice ad11 p1.Rows.length cp12], eBox b48 30 [.slice ad51 o50.length cp52, .slice ad54 o53.length cp55]] [fRep (rL (rI .i64)) (.slice ad5 p0.Left.length cp6) p0.Left, fRep (rL (rI .i64)) (.slice ad7 p0.Right.length cp8) p0.Right, fRep (rL r_api_Row) (.slice ad11 p1.Rows.length cp12) p1.Rows, fRep (rL (rI .i64)) (.slice ad51 o50.length cp52) o50, fRep (rL (rI .i64)) (.slice ad54 o53.length cp55) o53]) ?_ (fun a w hI => ?_)
  rotate_left
  · obtain ⟨o49, o50, o53, rfl, b48, ad51, cp52, ad54, cp55, S⟩ := hI
    have h := g57
    clear g57
    try dsimp only at h
    obtain ⟨t99, h, g100⟩ := bindSome h
    refine sCut (fun a w => ∃ o98, o98 = t99 ∧ St [] E [] w0 98 a w [(2, iv p2), (4, .pointer (some ⟨b15, 0, none⟩)), (7, .bool r17), (55, .bool o98)] [eBox b15 40 [iv p1.Start, .slice ad11 p1.Rows.length cp12]] [fRep (rL r_api_Row) (.slice ad11 p1.Rows.length cp12) p1.Rows]) ?_ (fun a w hI => ?_)
    rotate_left
    · obtain ⟨o98, rfl, S⟩ := hI
      have h := g100
      clear g100
      try dsimp only at h
      rcases iteSome h with ⟨hc104, h⟩ | ⟨hc104, h⟩
      rotate_left
      · refine sCondF S rfl hc104 ?_
        exact wp_skip (leafT (⟨Option.some.inj h, S.fix [0] [0] (by decide) rfl rfl rfl⟩))
      refine sCondT S rfl hc104 ?_
      refine sSeq (fun K105 hK105 => ?_)
      refine sRegion ?_
      refine sMove (.bool false) S (wN rfl) (.inr rfl) rfl rfl (lb rfl) fun a S => ?_
      refine leafL (leafT (hK105 _ _ ?_))
      obtain rfl := Option.some.inj h
      have h := g41
      clear g41
      try dsimp only at h
      obtain rfl := Option.some.inj h
      exact wp_ret (rThen (sRet (.bool false) S (rsl1 rfl (rvT (t := 6) (v := .bool false) S rfl)) ⟨(), rfl, S.mem.sel [] [] (by decide) rfl rfl⟩))
    refine sRegion ?_
    refine sMove (iv o49) S (wN rfl) (.inl rfl) rfl rfl (lb rfl) fun a S => ?_
    refine sBin (.bool (o49 != 0)) S (wN rfl) rfl rfl rfl (bNe _ _ _ _ .i64 o49 0) rfl (lb rfl) fun a S => ?_
    refine sMove (.bool (o49 != 0)) S (wN rfl) (.inl rfl) rfl rfl (lb rfl) fun a S => ?_
    rcases iteSome h with ⟨hc101, h⟩ | ⟨hc101, h⟩
    · refine sSkip 2 false 50 51 S rfl rfl rfl hc101 rfl (lb rfl) fun a S => ?_
      refine sSkip 2 false 50 52 S rfl rfl rfl hc101 rfl (lb rfl) fun a S => ?_
      refine sSkip 2 false 50 53 S rfl rfl rfl hc101 rfl (lb rfl) fun a S => ?_
      refine sSkip 2 false 50 54 S rfl rfl rfl hc101 rfl (lb rfl) fun a S => ?_
      refine sPickT (.bool true) S (wN rfl) rfl rfl hc101 rfl rfl (lb rfl) fun a S => ?_
      exact leafL (leafT (⟨true, Option.some.inj h, S.fix [1] [2] (by decide) rfl rfl rfl⟩))
    refine sLoadN (p := b48) (off := 0) (T := 30) (vs := [.slice ad51 o50.length cp52, .slice ad54 o53.length cp55]) 2 [.slice ad51 o50.length cp52, .slice ad54 o53.length cp55] S (wG 2 false 50 rfl rfl rfl hc101) rfl rfl rfl rfl rfl rfl rfl (lb rfl) fun a S => ?_
    refine sLoadN (p := b14) (off := 0) (T := 30) (vs := [.slice ad5 p0.Left.length cp6, .slice ad7 p0.Right.length cp8]) 0 [.slice ad5 p0.Left.length cp6, .slice ad7 p0.Right.length cp8] S (wG 2 false 50 rfl rfl rfl hc101) rfl rfl rfl rfl rfl rfl rfl (lb rfl) fun a S => ?_
    obtain ⟨r102, hx103, h⟩ := bindSome h
    have S1 := S.mem
    have S1 := S1.learn (fRep r_api_Piece (.agg #[.slice ad51 o50.length cp52, .slice ad54 o53.length cp55]) (api_Piece.mk o50 o53)) ⟨_, _, rfl, S1.know (i := 3) (e := fRep (rL (rI .i64)) (.slice ad51 o50.length cp52) o50) rfl, S1.know (i := 4) (e := fRep (rL (rI .i64)) (.slice ad54 o53.length cp55) o53) rfl⟩
    have S1 := S1.learn (fRep r_api_Piece (.agg #[.slice ad5 p0.Left.length cp6, .slice ad7 p0.Right.length cp8]) p0) ⟨_, _, rfl, S1.know (i := 1) (e := fRep (rL (rI .i64)) (.slice ad5 p0.Left.length cp6) p0.Left) rfl, S1.know (i := 2) (e := fRep (rL (rI .i64)) (.slice ad7 p0.Right.length cp8) p0.Right) rfl⟩
    refine sCallQ (X := Unit) (f := 19) (vs := [.agg #[.slice ad51 o50.length cp52, .slice ad54 o53.length cp55], .agg #[.slice ad5 p0.Left.length cp6, .slice ad7 p0.Right.length cp8]]) (val := fun _ => .bool r102) S (wG 2 false 50 rfl rfl rfl hc101) rfl callee19 rfl (S1.quiet [1, 0] rfl) (fun E1 w1 S1 => c_raddleref37_Same E1 w1 (api_Piece.mk o50 o53) (.agg #[.slice ad51 o50.length cp52, .slice ad54 o53.length cp55]) p0 (.agg #[.slice ad5 p0.Left.length cp6, .slice ad7 p0.Right.length cp8]) r102 hx103 S1) rfl (lb rfl) fun _ a w S => ?_
    refine sNot (b := r102) S (wG 2 false 50 rfl rfl rfl hc101) rfl rfl rfl (lb rfl) fun a S => ?_
    refine sPickF (.bool (!r102)) S (wN rfl) rfl rfl hc101 rfl rfl (lb rfl) fun a S => ?_
    exact leafL (leafT (⟨!r102, Option.some.inj h, S.fix [1] [2] (by decide) rfl rfl rfl⟩))
  obtain ⟨x58, hx59, h⟩ := bindSome h
  obtain ⟨r63, hx64, h⟩ := bindSome h
  obtain ⟨q75, hq76, S⟩ := pIdx (P := Tryd.prog) (r := (rI .i64)) (v := .slice ad5 p0.Left.length cp6) (xs := p0.Left) (j := 0) 28 3 3 S Tryd.underlying28 rfl rfl hx59
  obtain ⟨u77, S⟩ := pLoad (r := (rI .i64)) (q := q75) (x := x58) 0 S rfl
  obtain rfl : u77 = iv x58 := S.mem.know (i := 1) (e := fRep (rI .i64) (u77) x58) rfl
  refine sDraw (nf := [5, 9, 10]) (W := [(0, 40, .agg #[iv r32.1.Start, .slice ad37 r32.1.Rows.length cp38]), (1, 41, .pointer (some ⟨b14, 0, none⟩)), (2, 42, .slice ad5 p0.Left.length cp6), (3, 43, q75), (4, 44, iv x58)]) rfl S ?_
  refine node_by (A := anc_raddlelaw37_PieceBack_0) (nf := [5, 9, 10]) (Y := []) (W := [(0, 40, .agg #[iv r32.1.Start, .slice ad37 r32.1.Rows.length cp38]), (1, 41, .pointer (some ⟨b14, 0, none⟩)), (2, 42, .slice ad5 p0.Left.length cp6), (3, 43, q75), (4, 44, iv x58)]) 12 (by kernel_rfl) (by kernel_rfl) (by kernel_rfl) (by kernel_rfl) (by kernel_rfl) [0, 1, 2, 3, 4] (by kernel_rfl) (by decide) (by decide) (aF 0 11 (by decide) ?_ (aF 1 10 (by decide) ?_ (aF 2 9 (by decide) ?_ (aF 3 8 (by decide) ?_ (aF 4 7 (by decide) ?_ (aN 5 6 (by decide) ?_ (aE 6 5 5 (by decide) (aE 7 4 5 (by decide) (aE 8 3 5 (by decide) (aN 9 2 (by decide) ?_ (aB 10 1 5 (by decide) (aE 11 0 5 (by decide) (trivial))))))))))))) [] (fun q hq => by cases hq) (fun hY => absurd (hY 5 (by decide)) (by decide))
  · refine fI 40 (.agg #[iv r32.1.Start, .slice ad37 r32.1.Rows.length cp38]) [(8, .pointer (some ⟨b39, 0, none⟩))] 0 [none] rfl rfl rfl rfl rfl rfl fun G a w S => ?_
    refine sLoadN (p := b39) (off := 0) (T := 40) (vs := [iv r32.1.Start, .slice ad37 r32.1.Rows.length cp38]) 0 [iv r32.1.Start, .slice ad37 r32.1.Rows.length cp38] S (wN rfl) rfl rfl rfl rfl rfl rfl rfl (lb rfl) fun a S => ?_
    exact leafL ⟨rfl, S⟩
  · refine fI 41 (.pointer (some ⟨b14, 0, none⟩)) [(3, .pointer (some ⟨b14, 0, none⟩))] 1 [none] rfl rfl rfl rfl rfl rfl fun G a w S => ?_
    refine sField (b := b14) (off := 0) 0 0 S (wN rfl) rfl rfl rfl rfl rfl (lb rfl) fun a S => ?_
    exact leafL ⟨rfl, S⟩
  · refine fI 42 (.slice ad5 p0.Left.length cp6) [(41, .pointer (some ⟨b14, 0, none⟩))] 2 [some 1] rfl rfl rfl rfl rfl rfl fun G a w S => ?_
    refine sLoad1 (p := b14) (off := 0) (T := 30) (vs := [.slice ad5 p0.Left.length cp6, .slice ad7 p0.Right.length cp8]) 1 (.slice ad5 p0.Left.length cp6) S (wN rfl) rfl rfl rfl rfl rfl rfl (lb rfl) fun a S => ?_
    exact leafL ⟨rfl, S⟩
  · refine fI 43 q75 [(42, .slice ad5 p0.Left.length cp6)] 3 [some 2] rfl rfl rfl rfl rfl rfl fun G a w S => ?_
    refine sIdxV (v := .slice ad5 p0.Left.length cp6) (k := .i64) (j := 0) S (wN rfl) rfl rfl rfl hq76 rfl (lb rfl) fun a S => ?_
    exact leafL ⟨rfl, S⟩
  · refine fI 44 (iv x58) [(43, q75)] 4 [some 3] rfl rfl rfl rfl rfl rfl fun G a w S => ?_
    refine sLoadV1 (vq := q75) 0 (iv x58) S (wN rfl) rfl rfl rfl rfl rfl (lb rfl) fun a S => ?_
    exact leafL ⟨rfl, S⟩
  · refine ⟨_, [(40, .agg #[iv r32.1.Start, .slice ad37 r32.1.Rows.length cp38]), (44, iv x58)], rfl, (srcs_of [some 0, some 4] rfl rfl rfl), fun G a w S => ?_⟩
    refine sCall (X := Value) (f := 18) (vs := [.agg #[iv r32.1.Start, .slice ad37 r32.1.Rows.length cp38], iv x58]) (val := c_piece_Read_val r63) (B' := fun _ => []) (D' := c_piece_Read_D r63) [] [eBox b39 40 [iv r32.1.Start, .slice ad37 r32.1.Rows.length cp38], eBox b14 30 [.slice ad5 p0.Left.length cp6, .slice ad7 p0.Right.length cp8], eBox b15 40 [iv p1.Start, .slice ad11 p1.Rows.length cp12]] [fRep r_api_Chart (.agg #[iv r32.1.Start, .slice ad37 r32.1.Rows.length cp38]) r32.1] [0, 1, 2] [4] S (wN rfl) rfl callee18 rfl (by decide) rfl rfl (fun E1 w1 S1 => c_piece_Read E1 w1 r32.1 (.agg #[iv r32.1.Start, .slice ad37 r32.1.Rows.length cp38]) x58 r63 hx64 S1) rfl (lb rfl) fun u78 a w S => ?_
    obtain ⟨u79, u80, rfl, hu81, hu82⟩ := S.mem.know (i := 0) (e := fRep r_api_Piece (u78) r63.1) rfl
    have S := S.learn (fRep (rL (rI .i64)) u79 r63.1.Left) hu81
    obtain ⟨ad83, cp84, _, rfl, _⟩ := hu81
    have S := S.learn (fRep (rL (rI .i64)) u80 r63.1.Right) hu82
    obtain ⟨ad85, cp86, _, rfl, _⟩ := hu82
    refine leafL ⟨rfl, _, _, .inl ⟨45, (.tuple #[.agg #[.slice ad83 r63.1.Left.length cp84, .slice ad85 r63.1.Right.length cp86], iv r63.2]), [(6, 39, .tuple #[.agg #[.slice ad83 r63.1.Left.length cp84, .slice ad85 r63.1.Right.length cp86], iv r63.2]), (7, 46, .agg #[.slice ad83 r63.1.Left.length cp84, .slice ad85 r63.1.Right.length cp86]), (8, 47, iv r63.2)], rfl, S, hz_of rfl, ?_⟩⟩
    refine node_by (A := anc_raddlelaw37_PieceBack_0) (nf := [5, 9, 10]) (Y := [5]) 12 (by kernel_rfl) (by kernel_rfl) (by kernel_rfl) (by kernel_rfl) (by kernel_rfl) [6, 7, 8, 5, 0, 1, 2, 3, 4] (by kernel_rfl) (by decide) (by decide) (aD 0 11 5 (by decide) (aD 1 10 5 (by decide) (aD 2 9 5 (by decide) (aD 3 8 5 (by decide) (aD 4 7 5 (by decide) (aY 5 6 (by decide) (aF 6 5 (by decide) ?_ (aF 7 4 (by decide) ?_ (aF 8 3 (by decide) ?_ (aN 9 2 (by decide) ?_ (aB 10 1 9 (by decide) (aE 11 0 9 (by decide) (trivial))))))))))))) [] (fun q hq => by cases hq) (fun hY => absurd (hY 9 (by decide)) (by decide))
    · refine fI 39 (.tuple #[.agg #[.slice ad83 r63.1.Left.length cp84, .slice ad85 r63.1.Right.length cp86], iv r63.2]) [(45, .tuple #[.agg #[.slice ad83 r63.1.Left.length cp84, .slice ad85 r63.1.Right.length cp86], iv r63.2])] 0 [some 3] rfl rfl rfl rfl rfl rfl fun G a w S => ?_
      refine sMove (.tuple #[.agg #[.slice ad83 r63.1.Left.length cp84, .slice ad85 r63.1.Right.length cp86], iv r63.2]) S (wN rfl) (.inl rfl) rfl rfl (lb rfl) fun a S => ?_
      exact leafL ⟨rfl, S⟩
    · refine fI 46 (.agg #[.slice ad83 r63.1.Left.length cp84, .slice ad85 r63.1.Right.length cp86]) [(39, .tuple #[.agg #[.slice ad83 r63.1.Left.length cp84, .slice ad85 r63.1.Right.length cp86], iv r63.2])] 1 [some 0] rfl rfl rfl rfl rfl rfl fun G a w S => ?_
      refine sExtract (vs := [.agg #[.slice ad83 r63.1.Left.length cp84, .slice ad85 r63.1.Right.length cp86], iv r63.2]) (.agg #[.slice ad83 r63.1.Left.length cp84, .slice ad85 r63.1.Right.length cp86]) S (wN rfl) rfl rfl rfl rfl (lb rfl) fun a S => ?_
      exact leafL ⟨rfl, S⟩
    · refine fI 47 (iv r63.2) [(39, .tuple #[.agg #[.slice ad83 r63.1.Left.length cp84, .slice ad85 r63.1.Right.length cp86], iv r63.2])] 2 [some 0] rfl rfl rfl rfl rfl rfl fun G a w S => ?_
      refine sExtract (vs := [.agg #[.slice ad83 r63.1.Left.length cp84, .slice ad85 r63.1.Right.length cp86], iv r63.2]) (iv r63.2) S (wN rfl) rfl rfl rfl rfl (lb rfl) fun a S => ?_
      exact leafL ⟨rfl, S⟩
    refine ⟨_, [], rfl, (srcs_of [] rfl rfl rfl), fun G a w S => ?_⟩
    refine sAlloc (.agg #[.slice none 0 0, .slice none 0 0]) S (wN rfl) rfl rfl [.slice none 0 0, .slice none 0 0] rfl rfl (lb rfl) fun a b87 w S => ?_
    refine leafL ⟨rfl, _, _, .inl ⟨10, (.pointer (some ⟨b87, 0, none⟩)), [], rfl, S, hz_of rfl, ?_⟩⟩
    refine node_by (A := anc_raddlelaw37_PieceBack_0) (nf := [5, 9, 10]) (Y := [9, 5]) 12 (by kernel_rfl) (by kernel_rfl) (by kernel_rfl) (by kernel_rfl) (by kernel_rfl) [9, 6, 7, 8, 5, 0, 1, 2, 3, 4] (by kernel_rfl) (by decide) (by decide) (aD 0 11 5 (by decide) (aD 1 10 5 (by decide) (aD 2 9 5 (by decide) (aD 3 8 5 (by decide) (aD 4 7 5 (by decide) (aY 5 6 (by decide) (aF 6 5 (by decide) ?_ (aF 7 4 (by decide) ?_ (aF 8 3 (by decide) ?_ (aY 9 2 (by decide) (aN 10 1 (by decide) ?_ (aE 11 0 10 (by decide) (trivial))))))))))))) [] (fun q hq => by cases hq) (fun hY => absurd (hY 10 (by decide)) (by decide))
    · refine fI 39 (.tuple #[.agg #[.slice ad83 r63.1.Left.length cp84, .slice ad85 r63.1.Right.length cp86], iv r63.2]) [(45, .tuple #[.agg #[.slice ad83 r63.1.Left.length cp84, .slice ad85 r63.1.Right.length cp86], iv r63.2])] 1 [some 4] rfl rfl rfl rfl rfl rfl fun G a w S => ?_
      refine sMove (.tuple #[.agg #[.slice ad83 r63.1.Left.length cp84, .slice ad85 r63.1.Right.length cp86], iv r63.2]) S (wN rfl) (.inl rfl) rfl rfl (lb rfl) fun a S => ?_
      exact leafL ⟨rfl, S⟩
    · refine fI 46 (.agg #[.slice ad83 r63.1.Left.length cp84, .slice ad85 r63.1.Right.length cp86]) [(39, .tuple #[.agg #[.slice ad83 r63.1.Left.length cp84, .slice ad85 r63.1.Right.length cp86], iv r63.2])] 2 [some 1] rfl rfl rfl rfl rfl rfl fun G a w S => ?_
      refine sExtract (vs := [.agg #[.slice ad83 r63.1.Left.length cp84, .slice ad85 r63.1.Right.length cp86], iv r63.2]) (.agg #[.slice ad83 r63.1.Left.length cp84, .slice ad85 r63.1.Right.length cp86]) S (wN rfl) rfl rfl rfl rfl (lb rfl) fun a S => ?_
      exact leafL ⟨rfl, S⟩
    · refine fI 47 (iv r63.2) [(39, .tuple #[.agg #[.slice ad83 r63.1.Left.length cp84, .slice ad85 r63.1.Right.length cp86], iv r63.2])] 3 [some 1] rfl rfl rfl rfl rfl rfl fun G a w S => ?_
      refine sExtract (vs := [.agg #[.slice ad83 r63.1.Left.length cp84, .slice ad85 r63.1.Right.length cp86], iv r63.2]) (iv r63.2) S (wN rfl) rfl rfl rfl rfl (lb rfl) fun a S => ?_
      exact leafL ⟨rfl, S⟩
    refine ⟨_, [(10, .pointer (some ⟨b87, 0, none⟩)), (46, .agg #[.slice ad83 r63.1.Left.length cp84, .slice ad85 r63.1.Right.length cp86])], rfl, (srcs_of [some 0, some 2] rfl rfl rfl), fun G a w S => ?_⟩
    refine sStore (p := b87) (off := 0) (T := 30) (vs := [.slice none 0 0, .slice none 0 0]) (v := .agg #[.slice ad83 r63.1.Left.length cp84, .slice ad85 r63.1.Right.length cp86]) 0 [.slice ad83 r63.1.Left.length cp84, .slice ad85 r63.1.Right.length cp86] S (wN rfl) rfl rfl rfl rfl rfl rfl rfl (by simp) rfl fun a w S => ?_
    refine leafL ⟨rfl, _, _, .inr ⟨[(11, 11, iv r63.2)], rfl, S, hz_of rfl, ?_⟩⟩
    refine node_by (A := anc_raddlelaw37_PieceBack_0) (nf := [5, 9, 10]) (Y := [10, 9, 5]) 12 (by kernel_rfl) (by kernel_rfl) (by kernel_rfl) (by kernel_rfl) (by kernel_rfl) [11, 9, 6, 7, 8, 5, 0, 1, 2, 3, 4] (by kernel_rfl) (by decide) (by decide) (aD 0 11 10 (by decide) (aD 1 10 10 (by decide) (aD 2 9 10 (by decide) (aD 3 8 10 (by decide) (aD 4 7 10 (by decide) (aY 5 6 (by decide) (aD 6 5 10 (by decide) (aD 7 4 10 (by decide) (aF 8 3 (by decide) ?_ (aY 9 2 (by decide) (aY 10 1 (by decide) (aF 11 0 (by decide) ?_ (trivial))))))))))))) [(2, iv p2), (3, .pointer (some ⟨b14, 0, none⟩)), (4, .pointer (some ⟨b15, 0, none⟩)), (7, .bool r17), (10, .pointer (some ⟨b87, 0, none⟩)), (11, iv r63.2)] (fin_of [none, none, none, none, some 1, some 0] rfl (by kernel_rfl) (by kernel_rfl)) (fun _ a w S => ?_)
    · refine fI 47 (iv r63.2) [(39, .tuple #[.agg #[.slice ad83 r63.1.Left.length cp84, .slice ad85 r63.1.Right.length cp86], iv r63.2])] 4 [some 2] rfl rfl rfl rfl rfl rfl fun G a w S => ?_
      refine sExtract (vs := [.agg #[.slice ad83 r63.1.Left.length cp84, .slice ad85 r63.1.Right.length cp86], iv r63.2]) (iv r63.2) S (wN rfl) rfl rfl rfl rfl (lb rfl) fun a S => ?_
      exact leafL ⟨rfl, S⟩
    · refine fI 11 (iv r63.2) [(47, iv r63.2)] 0 [some 4] rfl rfl rfl rfl rfl rfl fun G a w S => ?_
      refine sMove (iv r63.2) S (wN rfl) (.inr rfl) rfl rfl (lb rfl) fun a S => ?_
      exact leafL ⟨rfl, S⟩
    exact leafT (⟨r63.2, r63.1.Left, r63.1.Right, Option.some.inj h, b87, ad83, cp84, ad85, cp86, S.fix [2, 3, 0] [9, 10, 11, 1, 0] (by decide) rfl rfl rfl⟩)
  refine ⟨_, [], rfl, (srcs_of [] rfl rfl rfl), fun G a w S => ?_⟩
  refine sAlloc (.agg #[.slice none 0 0, .slice none 0 0]) S (wN rfl) rfl rfl [.slice none 0 0, .slice none 0 0] rfl rfl (lb rfl) fun a b88 w S => ?_
  refine leafL ⟨rfl, _, _, .inl ⟨10, (.pointer (some ⟨b88, 0, none⟩)), [], rfl, S, hz_of rfl, ?_⟩⟩
  refine node_by (A := anc_raddlelaw37_PieceBack_0) (nf := [5, 9, 10]) (Y := [9]) 12 (by kernel_rfl) (by kernel_rfl) (by kernel_rfl) (by kernel_rfl) (by kernel_rfl) [9, 0, 1, 2, 3, 4] (by kernel_rfl) (by decide) (by decide) (aF 0 11 (by decide) ?_ (aF 1 10 (by decide) ?_ (aF 2 9 (by decide) ?_ (aF 3 8 (by decide) ?_ (aF 4 7 (by decide) ?_ (aN 5 6 (by decide) ?_ (aE 6 5 5 (by decide) (aE 7 4 5 (by decide) (aE 8 3 5 (by decide) (aY 9 2 (by decide) (aB 10 1 5 (by decide) (aE 11 0 5 (by decide) (trivial))))))))))))) [] (fun q hq => by cases hq) (fun hY => absurd (hY 5 (by decide)) (by decide))
  · refine fI 40 (.agg #[iv r32.1.Start, .slice ad37 r32.1.Rows.length cp38]) [(8, .pointer (some ⟨b39, 0, none⟩))] 1 [none] rfl rfl rfl rfl rfl rfl fun G a w S => ?_
    refine sLoadN (p := b39) (off := 0) (T := 40) (vs := [iv r32.1.Start, .slice ad37 r32.1.Rows.length cp38]) 1 [iv r32.1.Start, .slice ad37 r32.1.Rows.length cp38] S (wN rfl) rfl rfl rfl rfl rfl rfl rfl (lb rfl) fun a S => ?_
    exact leafL ⟨rfl, S⟩
  · refine fI 41 (.pointer (some ⟨b14, 0, none⟩)) [(3, .pointer (some ⟨b14, 0, none⟩))] 2 [none] rfl rfl rfl rfl rfl rfl fun G a w S => ?_
    refine sField (b := b14) (off := 0) 0 0 S (wN rfl) rfl rfl rfl rfl rfl (lb rfl) fun a S => ?_
    exact leafL ⟨rfl, S⟩
  · refine fI 42 (.slice ad5 p0.Left.length cp6) [(41, .pointer (some ⟨b14, 0, none⟩))] 3 [some 2] rfl rfl rfl rfl rfl rfl fun G a w S => ?_
    refine sLoad1 (p := b14) (off := 0) (T := 30) (vs := [.slice ad5 p0.Left.length cp6, .slice ad7 p0.Right.length cp8]) 2 (.slice ad5 p0.Left.length cp6) S (wN rfl) rfl rfl rfl rfl rfl rfl (lb rfl) fun a S => ?_
    exact leafL ⟨rfl, S⟩
  · refine fI 43 q75 [(42, .slice ad5 p0.Left.length cp6)] 4 [some 3] rfl rfl rfl rfl rfl rfl fun G a w S => ?_
    refine sIdxV (v := .slice ad5 p0.Left.length cp6) (k := .i64) (j := 0) S (wN rfl) rfl rfl rfl hq76 rfl (lb rfl) fun a S => ?_
    exact leafL ⟨rfl, S⟩
  · refine fI 44 (iv x58) [(43, q75)] 5 [some 4] rfl rfl rfl rfl rfl rfl fun G a w S => ?_
    refine sLoadV1 (vq := q75) 0 (iv x58) S (wN rfl) rfl rfl rfl rfl rfl (lb rfl) fun a S => ?_
    exact leafL ⟨rfl, S⟩
  refine ⟨_, [(40, .agg #[iv r32.1.Start, .slice ad37 r32.1.Rows.length cp38]), (44, iv x58)], rfl, (srcs_of [some 1, some 5] rfl rfl rfl), fun G a w S => ?_⟩
  refine sCall (X := Value) (f := 18) (vs := [.agg #[iv r32.1.Start, .slice ad37 r32.1.Rows.length cp38], iv x58]) (val := c_piece_Read_val r63) (B' := fun _ => []) (D' := c_piece_Read_D r63) [] [eBox b88 30 [.slice none 0 0, .slice none 0 0], eBox b39 40 [iv r32.1.Start, .slice ad37 r32.1.Rows.length cp38], eBox b14 30 [.slice ad5 p0.Left.length cp6, .slice ad7 p0.Right.length cp8], eBox b15 40 [iv p1.Start, .slice ad11 p1.Rows.length cp12]] [fRep r_api_Chart (.agg #[iv r32.1.Start, .slice ad37 r32.1.Rows.length cp38]) r32.1] [0, 1, 2, 3] [4] S (wN rfl) rfl callee18 rfl (by decide) rfl rfl (fun E1 w1 S1 => c_piece_Read E1 w1 r32.1 (.agg #[iv r32.1.Start, .slice ad37 r32.1.Rows.length cp38]) x58 r63 hx64 S1) rfl (lb rfl) fun u89 a w S => ?_
  obtain ⟨u90, u91, rfl, hu92, hu93⟩ := S.mem.know (i := 0) (e := fRep r_api_Piece (u89) r63.1) rfl
  have S := S.learn (fRep (rL (rI .i64)) u90 r63.1.Left) hu92
  obtain ⟨ad94, cp95, _, rfl, _⟩ := hu92
  have S := S.learn (fRep (rL (rI .i64)) u91 r63.1.Right) hu93
  obtain ⟨ad96, cp97, _, rfl, _⟩ := hu93
  refine leafL ⟨rfl, _, _, .inl ⟨45, (.tuple #[.agg #[.slice ad94 r63.1.Left.length cp95, .slice ad96 r63.1.Right.length cp97], iv r63.2]), [(6, 39, .tuple #[.agg #[.slice ad94 r63.1.Left.length cp95, .slice ad96 r63.1.Right.length cp97], iv r63.2]), (7, 46, .agg #[.slice ad94 r63.1.Left.length cp95, .slice ad96 r63.1.Right.length cp97]), (8, 47, iv r63.2)], rfl, S, hz_of rfl, ?_⟩⟩
  refine node_by (A := anc_raddlelaw37_PieceBack_0) (nf := [5, 9, 10]) (Y := [5, 9]) 12 (by kernel_rfl) (by kernel_rfl) (by kernel_rfl) (by kernel_rfl) (by kernel_rfl) [6, 7, 8, 5, 9, 0, 1, 2, 3, 4] (by kernel_rfl) (by decide) (by decide) (aD 0 11 5 (by decide) (aD 1 10 5 (by decide) (aD 2 9 5 (by decide) (aD 3 8 5 (by decide) (aD 4 7 5 (by decide) (aY 5 6 (by decide) (aF 6 5 (by decide) ?_ (aF 7 4 (by decide) ?_ (aF 8 3 (by decide) ?_ (aY 9 2 (by decide) (aN 10 1 (by decide) ?_ (aE 11 0 10 (by decide) (trivial))))))))))))) [] (fun q hq => by cases hq) (fun hY => absurd (hY 10 (by decide)) (by decide))
  · refine fI 39 (.tuple #[.agg #[.slice ad94 r63.1.Left.length cp95, .slice ad96 r63.1.Right.length cp97], iv r63.2]) [(45, .tuple #[.agg #[.slice ad94 r63.1.Left.length cp95, .slice ad96 r63.1.Right.length cp97], iv r63.2])] 0 [some 3] rfl rfl rfl rfl rfl rfl fun G a w S => ?_
    refine sMove (.tuple #[.agg #[.slice ad94 r63.1.Left.length cp95, .slice ad96 r63.1.Right.length cp97], iv r63.2]) S (wN rfl) (.inl rfl) rfl rfl (lb rfl) fun a S => ?_
    exact leafL ⟨rfl, S⟩
  · refine fI 46 (.agg #[.slice ad94 r63.1.Left.length cp95, .slice ad96 r63.1.Right.length cp97]) [(39, .tuple #[.agg #[.slice ad94 r63.1.Left.length cp95, .slice ad96 r63.1.Right.length cp97], iv r63.2])] 1 [some 0] rfl rfl rfl rfl rfl rfl fun G a w S => ?_
    refine sExtract (vs := [.agg #[.slice ad94 r63.1.Left.length cp95, .slice ad96 r63.1.Right.length cp97], iv r63.2]) (.agg #[.slice ad94 r63.1.Left.length cp95, .slice ad96 r63.1.Right.length cp97]) S (wN rfl) rfl rfl rfl rfl (lb rfl) fun a S => ?_
    exact leafL ⟨rfl, S⟩
  · refine fI 47 (iv r63.2) [(39, .tuple #[.agg #[.slice ad94 r63.1.Left.length cp95, .slice ad96 r63.1.Right.length cp97], iv r63.2])] 2 [some 0] rfl rfl rfl rfl rfl rfl fun G a w S => ?_
    refine sExtract (vs := [.agg #[.slice ad94 r63.1.Left.length cp95, .slice ad96 r63.1.Right.length cp97], iv r63.2]) (iv r63.2) S (wN rfl) rfl rfl rfl rfl (lb rfl) fun a S => ?_
    exact leafL ⟨rfl, S⟩
  refine ⟨_, [(10, .pointer (some ⟨b88, 0, none⟩)), (46, .agg #[.slice ad94 r63.1.Left.length cp95, .slice ad96 r63.1.Right.length cp97])], rfl, (srcs_of [some 4, some 1] rfl rfl rfl), fun G a w S => ?_⟩
  refine sStore (p := b88) (off := 0) (T := 30) (vs := [.slice none 0 0, .slice none 0 0]) (v := .agg #[.slice ad94 r63.1.Left.length cp95, .slice ad96 r63.1.Right.length cp97]) 0 [.slice ad94 r63.1.Left.length cp95, .slice ad96 r63.1.Right.length cp97] S (wN rfl) rfl rfl rfl rfl rfl rfl rfl (by simp) rfl fun a w S => ?_
  refine leafL ⟨rfl, _, _, .inr ⟨[(11, 11, iv r63.2)], rfl, S, hz_of rfl, ?_⟩⟩
  refine node_by (A := anc_raddlelaw37_PieceBack_0) (nf := [5, 9, 10]) (Y := [10, 5, 9]) 12 (by kernel_rfl) (by kernel_rfl) (by kernel_rfl) (by kernel_rfl) (by kernel_rfl) [11, 6, 7, 8, 5, 9, 0, 1, 2, 3, 4] (by kernel_rfl) (by decide) (by decide) (aD 0 11 10 (by decide) (aD 1 10 10 (by decide) (aD 2 9 10 (by decide) (aD 3 8 10 (by decide) (aD 4 7 10 (by decide) (aY 5 6 (by decide) (aD 6 5 10 (by decide) (aD 7 4 10 (by decide) (aF 8 3 (by decide) ?_ (aY 9 2 (by decide) (aY 10 1 (by decide) (aF 11 0 (by decide) ?_ (trivial))))))))))))) [(2, iv p2), (3, .pointer (some ⟨b14, 0, none⟩)), (4, .pointer (some ⟨b15, 0, none⟩)), (7, .bool r17), (10, .pointer (some ⟨b88, 0, none⟩)), (11, iv r63.2)] (fin_of [none, none, none, none, some 5, some 0] rfl (by kernel_rfl) (by kernel_rfl)) (fun _ a w S => ?_)
  · refine fI 47 (iv r63.2) [(39, .tuple #[.agg #[.slice ad94 r63.1.Left.length cp95, .slice ad96 r63.1.Right.length cp97], iv r63.2])] 3 [some 1] rfl rfl rfl rfl rfl rfl fun G a w S => ?_
    refine sExtract (vs := [.agg #[.slice ad94 r63.1.Left.length cp95, .slice ad96 r63.1.Right.length cp97], iv r63.2]) (iv r63.2) S (wN rfl) rfl rfl rfl rfl (lb rfl) fun a S => ?_
    exact leafL ⟨rfl, S⟩
  · refine fI 11 (iv r63.2) [(47, iv r63.2)] 0 [some 3] rfl rfl rfl rfl rfl rfl fun G a w S => ?_
    refine sMove (iv r63.2) S (wN rfl) (.inr rfl) rfl rfl (lb rfl) fun a S => ?_
    exact leafL ⟨rfl, S⟩
  exact leafT (⟨r63.2, r63.1.Left, r63.1.Right, Option.some.inj h, b88, ad94, cp95, ad96, cp97, S.fix [2, 3, 0] [9, 10, 11, 1, 0] (by decide) rfl rfl rfl⟩)

end Go.Proofs.YtmedbnjhgkcndaaDoor
namespace Go.Proofs.YtmedbnjhgkcndaaDoor
open Go.RowKit
set_option linter.unusedVariables false

def grw (c : api_Stitch) : Int := if c.Kind = 5 then w64 (c.A - 1) else if c.Kind = 9 then c.A else if c.Kind = 3 ∨ c.Kind = 4 then w64 (1 - c.A) else if c.Kind = 10 then w64 (0 - c.A) else 0
theorem grows_eq (c : api_Stitch) : F_piece_grows c = some (grw c) := by
  unfold F_piece_grows grw
  by_cases h1 : c.Kind = 5
  · simp [h1]
  by_cases h2 : c.Kind = 9
  · simp [h2]
  by_cases h3 : c.Kind = 3
  · simp [h3]
  by_cases h4 : c.Kind = 4
  · simp [h4]
  by_cases h5 : c.Kind = 10
  · simp [h5]
  · simp [h1, h2, h3, h4, h5]
theorem grw_bS {d kd : Int} (hk : kd = 3 ∨ kd = 4) (h0 : -1000 ≤ d) (h1 : d ≤ 1000) : grw (bS d kd) = d := by
  rcases bend_cases d with g | g | g | g | g
  · have e : bS d kd = ⟨0, false, 0, 0⟩ := by unfold bS; rw [if_pos g]
    rw [e, g]; rfl
  · have e : bS d kd = ⟨9, false, d, 0⟩ := by unfold bS; rw [if_neg (by omega), if_pos g]
    rw [e]; rfl
  · have e : bS d kd = ⟨5, false, d + 1, 0⟩ := by unfold bS; rw [if_neg (by omega), if_neg (by omega), if_pos g.1]
    rw [e]
    show w64 (d + 1 - 1) = d
    rw [w64_of (by omega) (by omega)]; omega
  · have e : bS d kd = ⟨kd, false, 1 - d, 0⟩ := by unfold bS; rw [if_neg (by omega), if_neg (by omega), if_neg (by omega), if_pos g.1]
    have e2 : grw ⟨kd, false, 1 - d, 0⟩ = w64 (1 - (1 - d)) := by rcases hk with rfl | rfl <;> rfl
    rw [e, e2, w64_of (by omega) (by omega)]; omega
  · have e : bS d kd = ⟨10, false, -d, 0⟩ := by unfold bS; rw [if_neg (by omega), if_neg (by omega), if_neg (by omega), if_neg (by omega)]
    have e2 : grw ⟨10, false, -d, 0⟩ = w64 (0 - -d) := rfl
    rw [e, e2, w64_of (by omega) (by omega)]; omega
theorem grw_oth {c : api_Stitch} (h : plain c) : grw (othS c) = grw c := by
  have ha : (othS c).A = c.A := by
    show (if c.Kind = 6 ∨ c.Kind = 7 then c.B else c.A) = c.A
    rw [if_neg (by intro g; rcases g with g | g; exact h.2.2.1 g; exact h.2.2.2 g)]
  unfold grw
  rw [ha]
  rfl
/-- the first and the last cell of a row, as they are worked from the front -/
theorem edge_first {d : Int} (l : List api_Stitch) (h0 : -1000 ≤ d) (h1 : d ≤ 1000) (n : Nat) (hn : 1 ≤ n) : ∃ c r, edge d 3 ++ List.replicate n kns ++ l = c :: r ∧ grw c = d := by
  obtain ⟨m, rfl⟩ : ∃ m, n = m + 1 := ⟨n - 1, by omega⟩
  unfold edge
  by_cases h : d = 0
  · rw [if_pos h]
    refine ⟨kns, List.replicate m kns ++ l, by simp [List.replicate_succ], ?_⟩
    rw [h]; rfl
  · rw [if_neg h]
    exact ⟨bS d 3, _, rfl, grw_bS (.inl rfl) h0 h1⟩
theorem edge_last {d : Int} (l : List api_Stitch) (h0 : -1000 ≤ d) (h1 : d ≤ 1000) (n : Nat) (hn : 1 ≤ n) : ∃ c r, l ++ List.replicate n kns ++ edge d 4 = r ++ [c] ∧ grw c = d := by
  obtain ⟨m, rfl⟩ : ∃ m, n = m + 1 := ⟨n - 1, by omega⟩
  unfold edge
  by_cases h : d = 0
  · rw [if_pos h]
    refine ⟨kns, l ++ List.replicate m kns, by simp [List.replicate_succ'], ?_⟩
    rw [h]; rfl
  · rw [if_neg h]
    exact ⟨bS d 4, _, rfl, grw_bS (.inr rfl) h0 h1⟩
theorem first_last {p : api_Piece} (hp : pok p = true) {k : Nat} (hk : k + 1 < p.Left.length) (hn : 1 ≤ nk p k) :
    ∃ x y, idxO (crow p k).Cells 0 = some x ∧ idxO (crow p k).Cells (w64 (((crow p k).Cells.length : Int) - 1)) = some y ∧ (if (crow p k).Back = true then some (grw y, grw x) else some (grw x, grw y)) = some (dR p k, dL p k) := by
  obtain ⟨b1, b2, -⟩ := cel_bd hp hk hn
  obtain ⟨q1, q2, q3, q4, q5⟩ := cel_ok hp hk hn
  obtain ⟨x, r, e1, g1⟩ := edge_first (d := dR p k) (edge (dL p k) 4) (by omega) (by omega) (nk p k).toNat (by omega)
  obtain ⟨y, s, e2, g2⟩ := edge_last (d := dL p k) (edge (dR p k) 3) (by omega) (by omega) (nk p k).toNat (by omega)
  have e1 : cel p k = x :: r := e1
  have e2 : cel p k = s ++ [y] := e2
  have hx := cel_plain p k x (by rw [e1]; simp)
  have hy := cel_plain p k y (by rw [e2]; simp)
  have hlast : ∀ (t : List api_Stitch) (z : api_Stitch), t.length ≤ 1000 → idxO (t ++ [z]) (w64 (((t ++ [z]).length : Int) - 1)) = some z := by
    intro t z ht
    have : w64 (((t ++ [z]).length : Int) - 1) = (t.length : Int) := by rw [List.length_append, List.length_singleton, w64_of (by omega) (by omega)]; omega
    rw [this, idxO_nat (by simp)]
    simp
  have hfirst : ∀ (t : List api_Stitch) (z : api_Stitch), idxO (z :: t) 0 = some z := fun t z => idxO_nat (k := 0) (xs := z :: t) (by simp)
  have hs : s.length ≤ 1000 := by
    have := congrArg List.length e2
    rw [List.length_append] at this
    omega
  have hr : r.length ≤ 1000 := by
    have := congrArg List.length e1
    rw [List.length_cons] at this
    omega
  unfold crow
  by_cases g : k % 2 = 0
  · simp only [g, if_true, decide_true]
    have f1 : ((cel p k).map othS).reverse = othS y :: (s.map othS).reverse := by rw [e2]; simp
    have f2 : ((cel p k).map othS).reverse = (r.map othS).reverse ++ [othS x] := by rw [e1]; simp
    refine ⟨othS y, othS x, by rw [f1]; exact hfirst _ _, by rw [f2]; exact hlast _ _ (by simp; omega), ?_⟩
    rw [grw_oth hx, grw_oth hy, g1, g2]
  · simp only [g, if_false, decide_false, Bool.false_eq_true]
    refine ⟨x, y, by rw [e1]; exact hfirst _ _, by rw [e2]; exact hlast _ _ hs, ?_⟩
    rw [g1, g2]
/-- the comparison of two charts' rows -/
theorem rows_loop (c d : api_Chart) (h : c.Rows.length = d.Rows.length) (hl : c.Rows.length ≤ 1000) (hc : ∀ r, r ∈ c.Rows → r.Cells.length ≤ 9223372036854775807) : ∃ t : Bool, (t = true ↔ c.Rows = d.Rows) ∧ whileO (piece_Read_l2 c (d, 0)) 0 = some (if t = true then .inr () else .inl (⟨[], []⟩, 8)) := by
  refine loop_eq c.Rows d.Rows h _ _ (fun k hk => ?_) ?_
  · obtain ⟨t, t1, t2⟩ := same_eq c.Rows[k].Cells (d.Rows[k]'(by omega)).Cells (hc _ (List.getElem_mem hk))
    by_cases hb : c.Rows[k].Back = (d.Rows[k]'(by omega)).Back
    · refine ⟨t, t1.trans ⟨fun e => row_ext.2 ⟨hb, e⟩, fun e => (row_ext.1 e).2⟩, ?_⟩
      unfold piece_Read_l2
      simp only [dT (show (k : Int) < (c.Rows.length : Int) by omega), if_true, idxO_nat hk, idxO_nat (show k < d.Rows.length by omega), Option.bind_some, w64_succ (show k < 9223372036854775807 by omega), hb, bne_self_eq_false, Bool.false_eq_true, if_false, t2]
      cases t <;> rfl
    · refine ⟨false, ⟨fun h => (by cases h), fun e => absurd (row_ext.1 e).1 hb⟩, ?_⟩
      unfold piece_Read_l2
      simp only [dT (show (k : Int) < (c.Rows.length : Int) by omega), if_true, idxO_nat hk, idxO_nat (show k < d.Rows.length by omega), Option.bind_some, bne_iff_ne.2 hb, Bool.false_eq_true, if_false]
  · unfold piece_Read_l2
    simp only [dF (show ¬ (c.Rows.length : Int) < (c.Rows.length : Int) by omega), Bool.false_eq_true, if_false]
theorem read_back {p : api_Piece} (hp : pok p = true) (ho : chOk p) : F_piece_Read (chart p) (p.Left.getD 0 0) = some (p, 0) := by
  obtain ⟨a, b, c, d⟩ := pok_iff.1 hp
  have d0 := d 0 (by omega)
  have hch := chart_eq p (by omega) (by omega)
  rw [if_pos hp, if_pos ho] at hch
  have l1 : (chart p).Rows.length = p.Left.length - 1 := by simp [chart]
  have hS : (chart p).Start = wd p 0 := rfl
  have hwd : wd p 0 = p.Right.getD 0 0 - p.Left.getD 0 0 := rfl
  have hrow : ∀ k (hk : k < (chart p).Rows.length), (chart p).Rows[k] = crow p k := fun k hk => by simp only [chart, List.getElem_map, List.getElem_range]
  have hlen : ∀ r, r ∈ (chart p).Rows → r.Cells.length ≤ 9223372036854775807 := by
    intro r hr
    obtain ⟨k, hk, rfl⟩ := List.getElem_of_mem hr
    rw [hrow k hk]
    have := crow_ok hp (show k + 1 < p.Left.length by omega) (ho k (by omega))
    have := (cel_ok hp (show k + 1 < p.Left.length by omega) (ho k (by omega))).2.2.2.2
    omega
  have e0 : w64 (p.Left.getD 0 0 + wd p 0) = p.Right.getD 0 0 := by rw [w64_of (by omega) (by omega)]; omega
  have hw : ∃ t, whileO (piece_Read_l1 (chart p)) (0, ([p.Left.getD 0 0] : List Int), ([p.Right.getD 0 0] : List Int)) = some t ∧ t = .inr (p.Left, p.Right) := by
    refine loop_ts (p.Left.length - 1) (fun k s => s = (p.Left.take (k + 1), p.Right.take (k + 1))) _ ?_ ?_ ?_
    · have h1 : p.Left.take 1 = [p.Left.getD 0 0] := by rw [List.take_one]; rw [show p.Left.head? = some (p.Left.getD 0 0) by rw [List.head?_eq_getElem?]; simp [show 0 < p.Left.length by omega]]; rfl
      have h2 : p.Right.take 1 = [p.Right.getD 0 0] := by rw [List.take_one]; rw [show p.Right.head? = some (p.Right.getD 0 0) by rw [List.head?_eq_getElem?]; simp [show 0 < p.Right.length by omega]]; rfl
      rw [h1, h2]
    · rintro k s hk rfl
      have k0 := d k (by omega)
      have k1 := d (k + 1) (by omega)
      have hn := ho k hk
      obtain ⟨o1, o2, o3, o4⟩ := crow_ok hp (show k + 1 < p.Left.length by omega) hn
      obtain ⟨x, y, f1, f2, f3⟩ := first_last hp (show k + 1 < p.Left.length by omega) hn
      have hx : idxO (chart p).Rows (k : Int) = some (crow p k) := by rw [idxO_nat (show k < (chart p).Rows.length by omega), hrow]
      have hal := all_eq (ok_wf (allS_ok o1).2.1)
      rw [o1] at hal
      have hnz : ((crow p k).Cells.length : Int) ≠ 0 := by
        intro hz
        have : (crow p k).Cells = [] := by
          cases hcl : (crow p k).Cells with
          | nil => rfl
          | cons u v => rw [hcl] at hz; simp at hz; omega
        rw [this] at f1
        simp [idxO] at f1
      have hlL : (p.Left.take (k + 1)).length = k + 1 := by simp; omega
      have hlR : (p.Right.take (k + 1)).length = k + 1 := by simp; omega
      have iL : idxO (p.Left.take (k + 1)) (k : Int) = some (p.Left.getD k 0) := by rw [idxO_D (0 : Int) (by omega)]; simp [show k < k + 1 by omega]
      have iR : idxO (p.Right.take (k + 1)) (k : Int) = some (p.Right.getD k 0) := by rw [idxO_D (0 : Int) (by omega)]; simp [show k < k + 1 by omega]
      have vL : w64 (p.Left.getD k 0 - dL p k) = p.Left.getD (k + 1) 0 := by unfold dL; rw [w64_of (by omega) (by omega)]; omega
      have vR : w64 (p.Right.getD k 0 + dR p k) = p.Right.getD (k + 1) 0 := by unfold dR; rw [w64_of (by omega) (by omega)]; omega
      have tL : p.Left.take (k + 1) ++ [p.Left.getD (k + 1) 0] = p.Left.take (k + 1 + 1) := by
        rw [List.take_succ_eq_append_getElem (show k + 1 < p.Left.length by omega)]; simp [show k + 1 < p.Left.length by omega]
      have tR : p.Right.take (k + 1) ++ [p.Right.getD (k + 1) 0] = p.Right.take (k + 1 + 1) := by
        rw [List.take_succ_eq_append_getElem (show k + 1 < p.Right.length by omega)]; simp [show k + 1 < p.Right.length by omega]
      refine .inl ⟨_, ?_, rfl⟩
      unfold piece_Read_l1
      simp only [dT (show (k : Int) < ((chart p).Rows.length : Int) by omega), if_true, hx, Option.bind_some, bF hnz, hal, bne_self_eq_false, Bool.false_eq_true, if_false, f1, f2, grows_eq, f3, iL, iR, vL, vR]
      rw [appO_of (show (p.Left.take (k + 1)).length + [p.Left.getD (k + 1) 0].length ≤ 68719476736 by simp; omega), appO_of (show (p.Right.take (k + 1)).length + [p.Right.getD (k + 1) 0].length ≤ 68719476736 by simp; omega), tL, tR]
      simp only [Option.bind_some, w64_succ (show k < 9223372036854775807 by omega)]
    · rintro s rfl
      refine ⟨_, ?_, rfl⟩
      have t1 : p.Left.take (p.Left.length - 1 + 1) = p.Left := List.take_of_length_le (by omega)
      have t2 : p.Right.take (p.Left.length - 1 + 1) = p.Right := List.take_of_length_le (by omega)
      unfold piece_Read_l1
      simp only [dF (show ¬ ((p.Left.length - 1 : Nat) : Int) < ((chart p).Rows.length : Int) by omega), Bool.false_eq_true, if_false, t1, t2]
  obtain ⟨t, t1, rfl⟩ := hw
  obtain ⟨u, u1, u2⟩ := rows_loop (chart p) (chart p) rfl (by omega) hlen
  rw [u1.2 rfl, if_pos rfl] at u2
  have hcol := (col_eq (p.Left.getD 0 0)).1
  rw [dT d0.1.1, dT d0.1.2] at hcol
  unfold F_piece_Read
  simp only [hcol, hS, e0, Bool.and_self, Bool.not_true, Bool.false_eq_true, if_false, Option.bind_some, dF (show ¬ wd p 0 < 1 by omega), dF (show ¬ (200 : Int) < wd p 0 by omega), dF (show ¬ (100 : Int) ≤ ((chart p).Rows.length : Int) by omega), t1, hch, bne_self_eq_false, u2]
theorem read_eq (c : api_Chart) (v : Int) (hw : ∀ r, r ∈ c.Rows → ∀ q, q ∈ r.Cells → wfS q) (hc : ∀ r, r ∈ c.Rows → r.Cells.length ≤ 9223372036854775807) :
    ∃ x : api_Piece × Int, F_piece_Read c v = some x ∧ (x.2 = 8 ∨ (x.2 = 0 ∧ F_piece_Chart x.1 = some (c, 0) ∧ 0 < x.1.Left.length ∧ x.1.Left.getD 0 0 = v)) := by
  unfold F_piece_Read
  rw [(col_eq v).1]
  by_cases hv : -500 ≤ v ∧ v ≤ 500
  case neg =>
    have : (decide (-500 ≤ v) && decide (v ≤ 500)) = false := by simpa using hv
    simp only [this, Option.bind_some, Bool.not_false, if_true]
    exact ⟨_, rfl, .inl rfl⟩
  by_cases h1 : c.Start < 1
  · simp only [dT hv.1, dT hv.2, dT h1, Option.bind_some, Bool.and_self, Bool.not_true, Bool.false_eq_true, if_false, if_true]
    exact ⟨_, rfl, .inl rfl⟩
  by_cases h2 : 200 < c.Start
  · simp only [dT hv.1, dT hv.2, dF h1, dT h2, Option.bind_some, Bool.and_self, Bool.not_true, Bool.false_eq_true, if_false, if_true]
    exact ⟨_, rfl, .inl rfl⟩
  by_cases h3 : 100 ≤ c.Rows.length
  · simp only [dT hv.1, dT hv.2, dF h1, dF h2, dT (show (100 : Int) ≤ (c.Rows.length : Int) by omega), Option.bind_some, Bool.and_self, Bool.not_true, Bool.false_eq_true, if_false, if_true]
    exact ⟨_, rfl, .inl rfl⟩
  simp only [dT hv.1, dT hv.2, dF h1, dF h2, dF (show ¬ (100 : Int) ≤ (c.Rows.length : Int) by omega), Option.bind_some, Bool.and_self, Bool.not_true, Bool.false_eq_true, if_false]
  have e0 : w64 (v + c.Start) = v + c.Start := w64_of (by omega) (by omega)
  have hl : ∃ t, whileO (piece_Read_l1 c) (0, ([v] : List Int), ([w64 (v + c.Start)] : List Int)) = some t ∧ (t = .inl (⟨[], []⟩, 8) ∨ ∃ l r : List Int, t = .inr (l, r) ∧ l.length = c.Rows.length + 1 ∧ r.length = c.Rows.length + 1 ∧ l[0]? = some v ∧ r[0]? = some (v + c.Start)) := by
    refine loop_ts c.Rows.length (fun k s => s.1.length = k + 1 ∧ s.2.length = k + 1 ∧ s.1[0]? = some v ∧ s.2[0]? = some (v + c.Start)) _ ⟨rfl, rfl, rfl, by rw [e0]; rfl⟩ ?_ ?_
    · rintro k ⟨l, r⟩ hk ⟨i1, i2, i3, i4⟩
      dsimp only at i1 i2 i3 i4
      have hm := List.getElem_mem hk
      have hal := all_eq (hw _ hm)
      have hcl := hc _ hm
      generalize hr : c.Rows[k] = w at *
      have hx : idxO c.Rows (k : Int) = some w := by rw [← hr]; exact idxO_nat hk
      unfold piece_Read_l1
      simp only [dT (show (k : Int) < (c.Rows.length : Int) by omega), if_true, hx, Option.bind_some, hal]
      by_cases hz : w.Cells.length = 0
      · rw [bT (show (w.Cells.length : Int) = 0 by omega)]
        exact .inr ⟨_, rfl, .inl rfl⟩
      rw [bF (show ¬ (w.Cells.length : Int) = 0 by omega)]
      by_cases ho : allS w.Cells = 0
      case neg =>
        simp only [Bool.false_eq_true, if_false, nT ho, Option.bind_some, if_true]
        exact .inr ⟨_, rfl, .inl rfl⟩
      have f1 : idxO w.Cells 0 = some (w.Cells[0]'(by omega)) := idxO_nat (k := 0) (by omega)
      have hlen := (allS_ok ho).1
      have f2 : idxO w.Cells (w64 ((w.Cells.length : Int) - 1)) = some (w.Cells[w.Cells.length - 1]'(by omega)) := idxO_of (by rw [w64_of (by omega) (by omega)]; omega) (by omega)
      have f3 : ∃ a b, (if w.Back = true then some (grw (w.Cells[w.Cells.length - 1]'(by omega)), grw (w.Cells[0]'(by omega))) else some (grw (w.Cells[0]'(by omega)), grw (w.Cells[w.Cells.length - 1]'(by omega)))) = some (a, b) := by
        cases w.Back
        · exact ⟨_, _, rfl⟩
        · exact ⟨_, _, rfl⟩
      obtain ⟨x, y, f3⟩ := f3
      simp only [Bool.false_eq_true, if_false, nF ho, Option.bind_some, f1, f2, grows_eq, f3, idxO_nat (show k < l.length by omega), idxO_nat (show k < r.length by omega)]
      rw [appO_of (by simp; omega), Option.bind_some, appO_of (by simp; omega)]
      simp only [Option.bind_some, w64_succ (show k < 9223372036854775807 by omega)]
      refine .inl ⟨_, rfl, by simp; omega, by simp; omega, ?_, ?_⟩
      · dsimp only; rw [List.getElem?_append_left (by omega), i3]
      · dsimp only; rw [List.getElem?_append_left (by omega), i4]
    · rintro ⟨l, r⟩ ⟨i1, i2, i3, i4⟩
      dsimp only at i1 i2 i3 i4
      refine ⟨.inr (l, r), ?_, .inr ⟨l, r, rfl, i1, i2, i3, i4⟩⟩
      unfold piece_Read_l1
      simp only [dF (show ¬ (c.Rows.length : Int) < (c.Rows.length : Int) by omega), Bool.false_eq_true, if_false]
  obtain ⟨t, t1, t2⟩ := hl
  rw [t1]
  rcases t2 with rfl | ⟨l, r, rfl, i1, i2, i3, i4⟩
  · exact ⟨_, rfl, .inl rfl⟩
  have hch := chart_eq ⟨l, r⟩ (by show l.length ≤ _; omega) (by show r.length ≤ _; omega)
  simp only [Option.bind_some, hch]
  cases hp : pok ⟨l, r⟩ with
  | false => exact ⟨_, rfl, .inl rfl⟩
  | true =>
    simp only [if_true]
    by_cases ho : chOk ⟨l, r⟩
    case neg =>
      simp only [ho, if_false]
      exact ⟨_, rfl, .inl rfl⟩
    simp only [ho, if_true, bne_self_eq_false, Bool.false_eq_true, if_false]
    have l1 : (chart ⟨l, r⟩).Rows.length = c.Rows.length := by
      simp only [chart, List.length_map, List.length_range]; omega
    obtain ⟨u, u1, u2⟩ := rows_loop c (chart ⟨l, r⟩) l1.symm (by omega) hc
    rw [u2]
    cases u with
    | false => exact ⟨_, rfl, .inl rfl⟩
    | true =>
      refine ⟨_, rfl, .inr ⟨rfl, ?_, by show 0 < l.length; omega, ?_⟩⟩
      · have hR := u1.1 rfl
        have hS : c.Start = (chart ⟨l, r⟩).Start := by
          have a1 : l.getD 0 0 = v := by rw [List.getD_eq_getElem?_getD, i3]; rfl
          have a2 : r.getD 0 0 = v + c.Start := by rw [List.getD_eq_getElem?_getD, i4]; rfl
          show c.Start = r.getD 0 0 - l.getD 0 0
          omega
        have hE : c = chart ⟨l, r⟩ := by
          generalize chart ⟨l, r⟩ = q at *
          cases c; cases q
          dsimp only at hR hS
          rw [hR, hS]
        show F_piece_Chart ⟨l, r⟩ = some (c, 0)
        rw [hch, hp, if_pos rfl, if_pos ho, ← hE]
      · show l.getD 0 0 = v
        rw [List.getD_eq_getElem?_getD, i3]; rfl
theorem great37 (c : api_Chart) (hl : c.Rows.length ≤ 9223372036854775807) : ∃ b, F_raddleref37_GreatChart c = some b := by
  have hloop : ∃ t, whileO (raddleref37_GreatChart_l1 c) 0 = some t ∧ True := by
    refine loop_ix c.Rows.length (fun _ => True) _ trivial ?_ ?_
    · intro k hk _
      unfold raddleref37_GreatChart_l1
      simp only [dT (show (k : Int) < (c.Rows.length : Int) by omega), if_true, idxO_nat hk, Option.bind_some, w64_succ (show k < 9223372036854775807 by omega)]
      by_cases hc : 60 < c.Rows[k].Cells.length
      · rw [dT (show (60 : Int) < (c.Rows[k].Cells.length : Int) by omega)]; exact .inr ⟨_, rfl, trivial⟩
      · rw [dF (show ¬ (60 : Int) < (c.Rows[k].Cells.length : Int) by omega)]; exact .inl ⟨rfl, trivial⟩
    · intro _
      unfold raddleref37_GreatChart_l1
      simp only [dF (show ¬ (c.Rows.length : Int) < (c.Rows.length : Int) by omega), Bool.false_eq_true, if_false]
      exact ⟨_, rfl, trivial⟩
  obtain ⟨t, t1, -⟩ := hloop
  unfold F_raddleref37_GreatChart
  rw [t1]
  cases t <;> exact ⟨_, rfl⟩
theorem law_PieceBack' (ha : F_raddlelaw37_alive = some true) (p : api_Piece) (c : api_Chart) (v : Int) (wp : wf_api_Piece p) (wc : wf_api_Chart c) : F_raddlelaw37_PieceBack p c v = some true := by
  obtain ⟨gb, g1, g2⟩ := great_eq p wp.1.1 wp.2.1
  obtain ⟨gc, g3⟩ := great37 c wc.2.1
  have hw : ∀ r, r ∈ c.Rows → ∀ q, q ∈ r.Cells → wfS q := fun r hr q hq => by
    have := inK_u8 ((((wc.2.2 r hr).2).2 q hq).1)
    exact this
  have hc : ∀ r, r ∈ c.Rows → r.Cells.length ≤ 9223372036854775807 := fun r hr => ((wc.2.2 r hr).2).1
  have part2 : Option.bind (F_piece_Read c v) (fun r107 => if (r107.2 != 0) = true then
      Option.bind (α := Bool) (if true = true then some (r107.2 == 8) else some false) fun o122 => some o122
    else
      Option.bind (F_piece_Chart r107.1) fun r127 =>
      Option.bind (α := Bool) (
        if true = true then
          if (r127.2 == 0) = true then
            Option.bind (F_raddleref37_SameChart r127.1 c) fun r140 =>
            if r140 = true then
              if decide (0 < (r107.1.Left.length : Int)) = true then
                Option.bind (idxO r107.1.Left 0) fun x144 => some (x144 == v)
              else some false
            else some false
          else some false
        else some false) fun o135 => some o135) = some true := by
    obtain ⟨x, x1, x2⟩ := read_eq c v hw hc
    rw [x1, Option.bind_some]
    rcases x2 with x2 | ⟨x2, x3, x4, x5⟩
    · simp [x2]
    · obtain ⟨t, t1, t2⟩ := samechart_eq c c wc.2.1 hc
      rw [t1.2 rfl] at t2
      have i0 : idxO x.1.Left 0 = some v := by rw [← x5]; exact idxO_D (k := 0) (0 : Int) x4
      simp only [x2, x3, bne_self_eq_false, Bool.false_eq_true, if_false, Option.bind_some, if_true, beq_self_eq_true, t2, dT (show (0 : Int) < (x.1.Left.length : Int) by omega), i0]
  unfold F_raddlelaw37_PieceBack
  rw [ha, g1, g3]
  cases gb with
  | true => rfl
  | false =>
    cases gc with
    | true => rfl
    | false =>
      obtain ⟨n1, n2⟩ := g2 rfl
      have hch := chart_eq p (by omega) (by omega)
      simp only [Option.bind_some, Bool.false_eq_true, if_false, Bool.not_true]
      cases hp : pok p with
      | false =>
        rw [hp] at hch
        simp only [Bool.false_eq_true, if_false] at hch
        simp only [hch, Option.bind_some, bF (show ¬ (8 : Int) = 0 by omega), Bool.false_eq_true, if_false]
        exact part2
      | true =>
        rw [hp, if_pos rfl] at hch
        by_cases ho : chOk p
        case neg =>
          rw [if_neg ho] at hch
          simp only [hch, Option.bind_some, bF (show ¬ (22 : Int) = 0 by omega), Bool.false_eq_true, if_false]
          exact part2
        rw [if_pos ho] at hch
        obtain ⟨a, b, c', d⟩ := pok_iff.1 hp
        have i0 : idxO p.Left 0 = some (p.Left.getD 0 0) := idxO_D (k := 0) (0 : Int) (by omega)
        have hs := samep_self p (by omega) (by omega)
        have hs' : F_raddleref37_Same (api_Piece.mk p.Left p.Right) p = some true := hs
        simp only [hch, Option.bind_some, beq_self_eq_true, if_true, bF (show ¬ (p.Left.length : Int) = 0 by omega), Bool.false_eq_true, if_false, i0, read_back hp ho, bne_self_eq_false, hs', Bool.not_true]
        exact part2

end Go.Proofs.YtmedbnjhgkcndaaDoor
namespace Go.Proofs.YtmedbnjhgkcndaaDoor
open Go.RowKit
set_option linter.unusedVariables false

theorem law_PieceBack (p : api_Piece) (c : api_Chart) (v : Int) (wp : wf_api_Piece p) (wc : wf_api_Chart c) (_ : InK .i64 v) : F_raddlelaw37_PieceBack p c v = some true := law_PieceBack' k_raddlelaw37_alive p c v wp wc

end Go.Proofs.YtmedbnjhgkcndaaDoor
namespace Go.Proofs.YtmedbnjhgkcndaaDoor
open Go.RowKit
set_option linter.unusedVariables false

namespace framePieceBack
open Go.ChangeShapes Go.WideShapes Go.ChangeAt Go.Joins
theorem own : ownKnob Tryd.prog.godebug = none := by kernel_rfl
theorem laidOut : laidOutB Tryd.prog = true := by kernel_rfl
set_option maxRecDepth 100000 in
theorem door_met (os : Os) (args : Array Value) : laidMetH Tryd.prog Rows.pieceBackRow.laid ((World.doorLaid Tryd.prog 400 os).forCall (fun _ _ => 0) ⟨#[], args, []⟩).memory :=
  laidMetH_of_parts3 (fuel := 8) (laidMet_of_run' 8 (by kernel_rfl) (by kernel_rfl)) (by kernel_rfl) (by kernel_rfl)
set_option maxRecDepth 100000 in
theorem lifted (os : Os) (started : os.Started) (H : Type) (enc : TypeId × Value → H) :
    ReturnsInHanded {} Tryd.checked os 4 .any (fun w args => (Rows.pieceBackSpec.pre enc Tryd.prog Tryd.f4 Rows.pieceBackRow.domain false w args ∧ laidMetH Tryd.prog Rows.pieceBackRow.laid w) ∧ sizedMet enc Tryd.prog Tryd.f4 (OpenSpec.ofChange Rows.pieceBackSpec) false w args) (Rows.pieceBackSpec.post enc Tryd.prog Tryd.f4 false true false false) := by
  refine returnsInHanded_of_change_and (C := Tryd.checked) (X := fun w _ => laidMetH Tryd.prog Rows.pieceBackRow.laid w) (fun _ _ _ hh h => h.of_heap hh) own started (by kernel_rfl) Tryd.func4
    (ChangeSpec.witness_shaped (enc := enc) (C := Tryd.checked) (os := os) (X := fun w _ => laidMetH Tryd.prog Rows.pieceBackRow.laid w) false (World.doorLaid Tryd.prog 400 os) #[.agg #[.slice none 0 0, .slice none 0 0], .agg #[iv 0, .slice none 0 0], .int .i64 0] 8 rfl (World.shaped_of_RefB (by kernel_rfl) (by kernel_rfl)) (by kernel_rfl) (by kernel_rfl) (by kernel_rfl) (door_met os _)) ?_
  intro W base args ds gs before hval0 hW _ _ _ _
  have hval : ∀ (j : Nat) t v, Tryd.f4.params[j]? = some t → args[j]? = some v → Value.okWide Tryd.prog W .any base t v := hval0
  have hW' := hW
  obtain ⟨p, q, hA0, hV, rfl, hfz, hnd⟩ := hW
  have hA : DataW.TrodAll enc Tryd.prog W 0 (fun _ => true) true Tryd.f4.params.toList args.toList ds p := hA0
  rw [Tryd.params4] at hA hval
  obtain ⟨v0, vs0, d0, ds0, p0, q0, hargs, rfl, rfl, h0, r0⟩ := trodAll_cons hA
  obtain ⟨v1, vs1, d1, ds1, p1, q1, rfl, rfl, rfl, h1, r1⟩ := trodAll_cons r0
  obtain ⟨v2, vs2, d2, ds2, p2, q2, rfl, rfl, rfl, h2, r2⟩ := trodAll_cons r1
  obtain ⟨rfl, rfl, rfl⟩ := trodAll_nil r2
  obtain rfl : args = #[v0, v1, v2] := by cases args; simp_all
  obtain ⟨rfl, rfl⟩ := trodVars_none hV
  have k0 := h0
  have lt0 : ∀ x ∈ p0, x.block < W.heap.size := by obtain ⟨m, hm⟩ := k0; exact DataW.trod_lt m _ _ _ hm
  have k1 := h1
  have lt1 : ∀ x ∈ p1, x.block < W.heap.size := by obtain ⟨m, hm⟩ := k1; exact DataW.trod_lt m _ _ _ hm
  have k2 := h2
  have lt2 : ∀ x ∈ p2, x.block < W.heap.size := by obtain ⟨m, hm⟩ := k2; exact DataW.trod_lt m _ _ _ hm
  obtain ⟨x0, rep0, wf0⟩ := top_agg Tryd.underlying30 aggr_api_Piece op_api_Piece (hval 0 _ v0 rfl rfl) h0
  obtain ⟨x1, rep1, wf1⟩ := top_agg Tryd.underlying40 aggr_api_Chart op_api_Chart (hval 1 _ v1 rfl rfl) h1
  obtain ⟨x2, rfl, rfl, rfl, wf2⟩ := open_int Tryd.underlying3 (hval 2 _ v2 rfl rfl) h2
  clear hA0 hval0
  refine (c_raddlelaw37_PieceBack (fun _ => False) W x0 v0 x1 v1 x2 true (law_PieceBack x0 x1 x2 wf0 wf1 wf2) (St0.start (by intro d hd; simp only [List.mem_cons, List.not_mem_nil, or_false] at hd; rcases hd with rfl | rfl; exact rep0; exact rep1))).mono fun e W' hr => ?_
  obtain ⟨_, he, hS⟩ := hr
  have bel := hS.chg.below
  subst he
  exact ⟨_, rfl, _, _, _, [], _, [], hW', trodAll_mk1 (shut_bool Tryd.underlying4 _), (trodAll_cons_mk (Below.trod laidOut (by kernel_rfl) (of_decide_eq_true (by kernel_rfl)) k0 bel lt0) (trodAll_cons_mk (Below.trod laidOut (by kernel_rfl) (of_decide_eq_true (by kernel_rfl)) k1 bel lt1) (trodAll_cons_mk (Below.trod laidOut (by kernel_rfl) (of_decide_eq_true (by kernel_rfl)) k2 bel lt2) trodAll_mk0))), rfl, bel.frame _, fun h => by cases h⟩
theorem over : Rows.pieceBackRow.holds Tryd.pinned (OpenSpec.ofChange Rows.pieceBackSpec) :=
  OpenClaim.holds_of_wide 4 Tryd.f4 rfl rfl rfl rfl rfl rfl rfl ⟨rfl, rfl, rfl, rfl, rfl⟩ rfl rfl rfl rfl rfl (by kernel_rfl) Tryd.func4 (by kernel_rfl)
    (of_decide_eq_true (by kernel_rfl)) (by unfold Func.isWrapper; first | (rw [if_pos (by decide +kernel)]; kernel_rfl) | (rw [if_neg (by decide +kernel)]; exact ⟨rfl, rfl⟩))
    (fun os started H enc _ => lifted os started H enc)
theorem card : Rows.PieceBackCardSaid :=
  Claim7.holds_tied_plain_at .later [] [.data, .data, .data] true (true, "307e61196d3f4886c0049f613c394b681f3254770779ea132fb8ea05f59173ca") false
    over (fun _ h => by cases h) (by kernel_rfl) (fun _ h => by cases h) pieceBack_row_tie rfl ⟨rfl, rfl⟩ (by kernel_rfl) rfl
    (fun f fn hf hfn => by
      obtain rfl : f = 4 := Option.some.inj ((show Tryd.prog.funcNamed "raddle/raddlelaw37.PieceBack" = some 4 by kernel_rfl).symm.trans hf) |>.symm
      obtain rfl : fn = Tryd.f4 := (Option.some.inj (Tryd.func4.symm.trans hfn)).symm
      exact ⟨by kernel_rfl, fun j t ht => by
        rw [Tryd.params4] at ht
        have hm : t ∈ [30, 40, 3] := by simpa using Array.mem_of_getElem? ht
        have hall : ([30, 40, 3].all fun u => !Tryd.prog.wantsStandIn u) = true := by kernel_rfl
        exact (show Tryd.prog.wantsStandIn t = false by simpa using List.all_eq_true.1 hall t hm)⟩)
    (by kernel_rfl)
end framePieceBack
theorem pieceBack_holds : Rows.PieceBackCardSaid := framePieceBack.card

end Go.Proofs.YtmedbnjhgkcndaaDoor
