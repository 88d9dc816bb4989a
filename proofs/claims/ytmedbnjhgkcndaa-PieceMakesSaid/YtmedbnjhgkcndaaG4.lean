import Derived.Test.YtmedbnjhgkcndaaGTy
import Derived.Test.YtmedbnjhgkcndaaG10
import Derived.Test.YtmedbnjhgkcndaaG11s0
import Derived.Test.YtmedbnjhgkcndaaG12s0
import Derived.Test.YtmedbnjhgkcndaaG13s0
import Derived.Test.YtmedbnjhgkcndaaG14s0
import Derived.Test.YtmedbnjhgkcndaaG15s0
import Derived.Test.YtmedbnjhgkcndaaG16s0
import Derived.Test.YtmedbnjhgkcndaaG17
import Derived.Test.YtmedbnjhgkcndaaG18
import Derived.Test.YtmedbnjhgkcndaaG19
import Derived.Test.YtmedbnjhgkcndaaG20
import Derived.Test.YtmedbnjhgkcndaaG9
namespace Go.Proofs.Ytmedbnjhgkcndaa
open Go.RowKit
set_option linter.unusedVariables false

def anc_raddlelaw37_PieceMakes_0 : List (List Nat) := [[], [], [1], [0, 1, 2], [], [], [5], [0, 1, 2, 3, 4, 5, 6], [0, 1, 2, 3, 4, 5, 6, 7], [0, 1, 2, 3, 4, 5, 6, 7, 8]]
def anc_raddlelaw37_PieceMakes_1 : List (List Nat) := [[], [0], [], [0, 1, 2], [0, 1, 2, 3], [0, 1, 2, 3, 4], [0, 1, 2, 3, 4, 5], [0, 1, 2, 3, 4, 5], [0, 1, 2, 3, 4, 5, 6, 7], [0, 1, 2, 3, 4, 5, 6, 7, 8], [0, 1, 2, 3, 4, 5, 6, 7, 8, 9], [0, 1, 2, 3, 4, 5, 6, 7, 8, 9, 10], [0, 1, 2, 3, 4, 5, 6, 7, 8, 9, 10, 11], [0, 1, 2, 3, 4, 5, 6, 7, 8, 9, 10, 11], [0, 1, 2, 3, 4, 5, 6, 7, 8, 9, 10, 11, 12, 13], [0, 1, 2, 3, 4, 5, 6, 7, 8, 9, 10, 11, 12, 13, 14], [0, 1, 2, 3, 4, 5, 6, 7, 8, 9, 10, 11, 12, 13, 14, 15], [0, 1, 2, 3, 4, 5, 6, 7, 8, 9, 10, 11, 12, 13, 14, 15, 16], [0, 1, 2, 3, 4, 5, 6, 7, 8, 9, 10, 11, 12, 13, 14, 15, 16, 17], [0, 1, 2, 3, 4, 5, 6, 7, 8, 9, 10, 11, 12, 13, 14, 15, 16], [0, 1, 2, 3, 4, 5, 6, 7, 8, 9, 10, 11, 12, 13, 14, 15, 16, 19], [0, 1, 2, 3, 4, 5, 6, 7, 8, 9, 10, 11, 12, 13, 14, 15, 16, 17, 18, 19, 20], [0, 1, 2, 3, 4, 5, 6, 7, 8, 9, 10, 11, 12, 13, 14, 15, 16, 17, 18, 19, 20, 21], [0, 1, 2, 3, 4, 5, 6, 7, 8, 9, 10, 11, 12, 13, 14, 15, 16, 17, 18, 19, 20, 21, 22], [0, 1, 2, 3, 4, 5, 6, 7, 8, 9, 10, 11, 12, 13, 14, 15, 16, 17, 18, 19, 20, 21, 22, 23], [0, 1, 2, 3, 4, 5, 6, 7, 8, 9, 10, 11, 12, 13, 14, 15, 16, 17, 18, 19, 20, 21, 22, 23], [0, 1, 2, 3, 4, 5, 6, 7, 8, 9, 10, 11, 12, 13, 14, 15, 16, 17, 18, 19, 20, 21, 22, 23, 24, 25], [0, 1, 2, 3, 4, 5, 6, 7, 8, 9, 10, 11, 12, 13, 14, 15, 16, 17, 18, 19, 20, 21, 22, 23, 24, 25, 26], [0, 1, 2, 3, 4, 5, 6, 7, 8, 9, 10, 11, 12, 13, 14, 15, 16, 17, 18, 19, 20, 21, 22, 23, 24, 25, 26, 27], [0, 1, 2, 3, 4, 5, 6, 7, 8, 9, 10, 11, 12, 13, 14, 15, 16, 17, 18, 19, 20, 21, 22, 23, 24, 25, 26, 27, 28], [0, 1, 2, 3, 4, 5, 6, 7, 8, 9, 10, 11, 12, 13, 14, 15, 16, 17, 18, 19, 20, 21, 22, 23, 24, 25, 26, 27, 28], [0, 1, 2, 3, 4, 5, 6, 7, 8, 9, 10, 11, 12, 13, 14, 15, 16, 17, 18, 19, 20, 21, 22, 23, 24, 25, 26, 27, 28, 29, 30], [0, 1, 2, 3, 4, 5, 6, 7, 8, 9, 10, 11, 12, 13, 14, 15, 16, 17, 18, 19, 20, 21, 22, 23, 24, 25, 26, 27, 28, 29, 30, 31], [0, 1, 2, 3, 4, 5, 6, 7, 8, 9, 10, 11, 12, 13, 14, 15, 16, 17, 18, 19, 20, 21, 22, 23, 24, 25, 26, 27, 28, 29, 30, 31, 32], [0, 1, 2, 3, 4, 5, 6, 7, 8, 9, 10, 11, 12, 13, 14, 15, 16, 17, 18, 19, 20, 21, 22, 23, 24, 25, 26, 27, 28, 29, 30, 31, 32, 33], [0, 1, 2, 3, 4, 5, 6, 7, 8, 9, 10, 11, 12, 13, 14, 15, 16, 17, 18, 19, 20, 21, 22, 23, 24, 25, 26, 27, 28, 29, 30, 31, 32, 33, 34], [0, 1, 2, 3, 4, 5, 6, 7, 8, 9, 10, 11, 12, 13, 14, 15, 16, 17, 18, 19, 20, 21, 22, 23, 24, 25, 26, 27, 28, 29, 30, 31, 32, 33, 34], [0, 1, 2, 3, 4, 5, 6, 7, 8, 9, 10, 11, 12, 13, 14, 15, 16, 17, 18, 19, 20, 21, 22, 23, 24, 25, 26, 27, 28, 29, 30, 31, 32, 33, 34, 35, 36], [0, 1, 2, 3, 4, 5, 6, 7, 8, 9, 10, 11, 12, 13, 14, 15, 16, 17, 18, 19, 20, 21, 22, 23, 24, 25, 26, 27, 28, 29, 30, 31, 32, 33, 34, 35, 36, 37]]
def anc_raddlelaw37_PieceMakes_2 : List (List Nat) := [[], [], [0, 1], [0, 1, 2], [], [], [4, 5], [4, 5, 6], [0, 1, 2, 3, 4, 5, 6, 7]]
def anc_raddlelaw37_PieceMakes_3 : List (List Nat) := [[], [0], [], [], [3], [], [0, 1, 2], [0, 1, 2, 6], [0, 1, 2, 3, 4, 5, 6, 7], [0, 1, 2, 3, 4, 5, 6, 7, 8]]
noncomputable def raddlelaw37_PieceMakes_l1 (r90 : ((List (Int × Int)) × Int)) (r95 : ((List (Int × Int)) × Int)) : Int → Option (Int ⊕ (Bool ⊕ Unit)) := fun s0 => match s0 with
  | s138 =>
    if decide (s138 < (r90.1.length : Int)) then
      Option.bind (idxO r90.1 s138) fun x147 =>
      Option.bind (idxO r95.1 s138) fun x152 =>
      if !((x147.1 == x152.1) && ((x147.2 == x152.2) && true)) then
        some (.inr (.inl false))
      else
        some (.inl (w64 (s138 + 1)))
    else
      some (.inr (.inr ()))
noncomputable def raddlelaw37_PieceMakes_l2  : (Int × List Int × List Int) → Option ((Int × List Int × List Int) ⊕ Unit) := fun s0 => match s0 with
  | (s168, s169, s172) =>
    Option.bind (α := Bool) (
      if decide (s168 < (s169.length : Int)) then
        some (decide (s168 < (s172.length : Int)))
      else
        some false) fun o179 =>
    if o179 then
      Option.bind (idxO s169 s168) fun x185 =>
      Option.bind (setO s169 s168 7) fun l190 =>
      Option.bind (idxO s172 s168) fun x192 =>
      Option.bind (setO s172 s168 7) fun l197 =>
      some (.inl (w64 (s168 + 1), l190, l197))
    else
      some (.inr ())
noncomputable def F_raddlelaw37_PieceMakes (p0 : api_Shape) (p1 : api_Piece) : Option Bool :=
  Option.bind (α := Bool) (
    Option.bind (F_raddleref37_GreatShape p0) fun r24 =>
    if r24 then
      some true
    else
      Option.bind (F_raddleref37_Great p1) fun r27 =>
      some r27) fun o21 =>
  if o21 then
    some true
  else
    Option.bind (α := (List Int × List Int)) (
      Option.bind (appO ([] : List Int) p1.Left) fun l41 =>
      Option.bind (appO ([] : List Int) p1.Right) fun l47 =>
      some (l41, l47)) fun (o31, o34) =>
    Option.bind (F_piece_Make_s0 p0) fun r74 =>
    Option.bind (F_raddleref37_Make_s0 p0) fun r82 =>
    Option.bind (F_piece_Changes_s0 p1) fun r90 =>
    Option.bind (F_raddleref37_Changes_s0 p1) fun r95 =>
    Option.bind (F_piece_Mirror_s0 p1) fun r100 =>
    Option.bind (F_raddleref37_Mirror_s0 p1) fun r108 =>
    Option.bind (α := Bool) (
      Option.bind (F_piece_Check p1) fun r119 =>
      Option.bind (F_raddleref37_Check p1) fun r121 =>
      if r119 != r121 then
        some true
      else
        Option.bind (F_raddleref37_Same r74.1 r82.1) fun r124 =>
        if !r124 then
          some true
        else
          if r74.2 != r82.2 then
            some true
          else
            if (r90.1.length : Int) != (r95.1.length : Int) then
              some true
            else
              if r90.2 != r95.2 then
                some true
              else
                Option.bind (F_raddleref37_Same r100.1 r108.1) fun r130 =>
                if !r130 then
                  some true
                else
                  some (r100.2 != r108.2)) fun o116 =>
    if o116 then
      some false
    else
      Option.bind (α := Unit ⊕ Bool) (
        Option.bind (whileO (raddlelaw37_PieceMakes_l1 r90 r95) 0) fun z0 => match z0 with
          | .inl z =>
            some (.inr z)
          | .inr _ =>
            some (.inl ())) fun z0 => match z0 with
        | .inl _ =>
          Option.bind (α := Unit) (
            Option.bind (whileO (raddlelaw37_PieceMakes_l2) (0, r100.1.Left, r100.1.Right)) fun _ =>
              some ()) fun _ =>
          Option.bind (α := Bool) (
            Option.bind (F_raddleref36_Same p1.Left o31) fun r208 =>
            if r208 then
              Option.bind (F_raddleref36_Same p1.Right o34) fun r211 =>
              some r211
            else
              some false) fun o205 =>
          some o205
        | .inr z =>
          some z
set_option maxHeartbeats 4000000 in
set_option maxRecDepth 100000 in
theorem c_raddlelaw37_PieceMakes (E : Nat → Prop) (w0 : World) (p0 : api_Shape) (v0 : Value) (p1 : api_Piece) (v1 : Value) (r : Bool) (h : F_raddlelaw37_PieceMakes p0 p1 = some r) (S : St0 E [] w0 w0 [] [fRep r_api_Shape (v0) p0, fRep r_api_Piece (v1) p1]) :
    Calls Try.prog 4 #[v0, v1] w0 (Ret (X := Unit) E [] w0 (fun _ => .bool r) (fun _ => []) (fun _ => [])) := by
  unfold F_raddlelaw37_PieceMakes at h
  obtain ⟨u1, u2, rfl, hu3, hu4⟩ := S.know (i := 0) (e := fRep r_api_Shape (v0) p0) (by kernel_rfl)
  have S := S.learn (fRep (rL r_api_Point) u1 p0.Left) hu3
  obtain ⟨ad5, cp6, _, rfl, _⟩ := hu3
  have S := S.learn (fRep (rL r_api_Point) u2 p0.Right) hu4
  obtain ⟨ad7, cp8, _, rfl, _⟩ := hu4
  obtain ⟨u9, u10, rfl, hu11, hu12⟩ := S.know (i := 3) (e := fRep r_api_Piece (v1) p1) (by kernel_rfl)
  have S := S.learn (fRep (rL (rI .i64)) u9 p1.Left) hu11
  obtain ⟨ad13, cp14, _, rfl, _⟩ := hu11
  have S := S.learn (fRep (rL (rI .i64)) u10 p1.Right) hu12
  obtain ⟨ad15, cp16, _, rfl, _⟩ := hu12
  refine sEnter (args := [.agg #[.slice ad5 p0.Left.length cp6, .slice ad7 p0.Right.length cp8], .agg #[.slice ad13 p1.Left.length cp14, .slice ad15 p1.Right.length cp16]]) 151 Try.func4 rfl rfl (by simp) S (fun a S => ?_)
  refine sSeq (fun K17 hK17 => ?_)
  refine sRegion ?_
  refine sBox (v := .agg #[.slice ad5 p0.Left.length cp6, .slice ad7 p0.Right.length cp8]) S (wN rfl) rfl (by kernel_rfl) [.slice ad5 p0.Left.length cp6, .slice ad7 p0.Right.length cp8] rfl rfl (by decide) (fun a b18 w S => ?_)
  refine sBox (v := .agg #[.slice ad13 p1.Left.length cp14, .slice ad15 p1.Right.length cp16]) S (wN rfl) rfl (by kernel_rfl) [.slice ad13 p1.Left.length cp14, .slice ad15 p1.Right.length cp16] rfl rfl (by decide) (fun a b19 w S => ?_)
  refine sMove (.bool false) S (wN rfl) (.inr rfl) (by kernel_rfl) rfl (by decide) (fun a S => ?_)
  refine leafL (leafT (hK17 _ _ ?_))
  refine sSeq (fun K20 hK20 => ?_)
  obtain ⟨t22, h, g23⟩ := bindSome h
  refine sCut (fun a w => ∃ o21, o21 = t22 ∧ St E [] w0 151 a w [(2, .pointer (some ⟨b18, 0, none⟩)), (3, .pointer (some ⟨b19, 0, none⟩)), (26, .bool o21)] [eBox b18 26 [.slice ad5 p0.Left.length cp6, .slice ad7 p0.Right.length cp8], eBox b19 36 [.slice ad13 p1.Left.length cp14, .slice ad15 p1.Right.length cp16]] [fRep (rL r_api_Point) (.slice ad5 p0.Left.length cp6) p0.Left, fRep (rL r_api_Point) (.slice ad7 p0.Right.length cp8) p0.Right, fRep (rL (rI .i64)) (.slice ad13 p1.Left.length cp14) p1.Left, fRep (rL (rI .i64)) (.slice ad15 p1.Right.length cp16) p1.Right]) ?_ (fun a w hI => ?_)
  · refine sRegion ?_
    refine sLoadN (p := b18) (off := 0) (T := 26) (vs := [.slice ad5 p0.Left.length cp6, .slice ad7 p0.Right.length cp8]) 1 [.slice ad5 p0.Left.length cp6, .slice ad7 p0.Right.length cp8] S (wN rfl) rfl (by kernel_rfl) (by kernel_rfl) (by kernel_rfl) (by kernel_rfl) rfl rfl (by decide) (fun a S => ?_)
    obtain ⟨r24, hx25, h⟩ := bindSome h
    have S1 := S.mem
    refine sCallQ (X := Unit) (f := 9) (vs := [.agg #[.slice ad5 p0.Left.length cp6, .slice ad7 p0.Right.length cp8]]) (val := fun _ => .bool r24) S (wN rfl) rfl callee9 (by kernel_rfl) (S1.quiet [4] (by kernel_rfl)) (fun E1 w1 S1 => c_raddleref37_GreatShape E1 w1 p0 (.agg #[.slice ad5 p0.Left.length cp6, .slice ad7 p0.Right.length cp8]) r24 hx25 S1) rfl (by decide) (fun _ a w S => ?_)
    refine sMove (.bool r24) S (wN rfl) (.inl rfl) (by kernel_rfl) rfl (by decide) (fun a S => ?_)
    rcases iteSome h with ⟨hc26, h⟩ | ⟨hc26, h⟩
    · refine sSkip (c := r24) 2 false 23 24 S rfl rfl (by kernel_rfl) hc26 rfl (by decide) (fun a S => ?_)
      refine sSkip (c := r24) 2 false 23 25 S rfl rfl (by kernel_rfl) hc26 rfl (by decide) (fun a S => ?_)
      refine sPickT (b := r24) (.bool true) S (wN rfl) rfl (by kernel_rfl) hc26 (by kernel_rfl) rfl (by decide) (fun a S => ?_)
      exact leafL (leafT (⟨true, Option.some.inj h, S.fix [1, 0] [3, 2, 1, 0] (by decide) (by kernel_rfl) (by kernel_rfl) (by kernel_rfl)⟩))
    · refine sLoadN (p := b19) (off := 0) (T := 36) (vs := [.slice ad13 p1.Left.length cp14, .slice ad15 p1.Right.length cp16]) 0 [.slice ad13 p1.Left.length cp14, .slice ad15 p1.Right.length cp16] S (wG (c := r24) 2 false 23 rfl rfl (by kernel_rfl) hc26) rfl (by kernel_rfl) (by kernel_rfl) (by kernel_rfl) (by kernel_rfl) rfl rfl (by decide) (fun a S => ?_)
      obtain ⟨r27, hx28, h⟩ := bindSome h
      have S1 := S.mem
      refine sCallQ (X := Unit) (f := 10) (vs := [.agg #[.slice ad13 p1.Left.length cp14, .slice ad15 p1.Right.length cp16]]) (val := fun _ => .bool r27) S (wG (c := r24) 2 false 23 rfl rfl (by kernel_rfl) hc26) rfl callee10 (by kernel_rfl) (S1.quiet [5] (by kernel_rfl)) (fun E1 w1 S1 => c_raddleref37_Great E1 w1 p1 (.agg #[.slice ad13 p1.Left.length cp14, .slice ad15 p1.Right.length cp16]) r27 hx28 S1) rfl (by decide) (fun _ a w S => ?_)
      refine sPickF (b := r24) (.bool r27) S (wN rfl) rfl (by kernel_rfl) hc26 (by kernel_rfl) rfl (by decide) (fun a S => ?_)
      exact leafL (leafT (⟨r27, Option.some.inj h, S.fix [1, 0] [3, 2, 1, 0] (by decide) (by kernel_rfl) (by kernel_rfl) (by kernel_rfl)⟩))
  · obtain ⟨o21, rfl, S⟩ := hI
    have h := g23
    clear g23
    try dsimp only at h
    rcases iteSome h with ⟨hc29, h⟩ | ⟨hc29, h⟩
    · refine sCondT (b := o21) S (by kernel_rfl) hc29 ?_
      refine sSeq (fun K30 hK30 => ?_)
      refine sRegion ?_
      refine sMove (.bool true) S (wN rfl) (.inr rfl) (by kernel_rfl) rfl (by decide) (fun a S => ?_)
      refine leafL (leafT (hK30 _ _ ?_))
      obtain rfl := Option.some.inj h
      exact wp_ret (rThen (sRet (.bool true) S (rsl1 rfl (rvT (t := 4) (v := .bool true) S (by kernel_rfl))) ⟨(), rfl, S.mem.sel [] [] (by decide) (by kernel_rfl) (by kernel_rfl)⟩))
    · refine sCondF (b := o21) S (by kernel_rfl) hc29 ?_
      refine wp_skip (leafT (hK20 _ _ ?_))
      obtain ⟨t37, h, g38⟩ := bindSome h
      refine sCut (fun a w => ∃ o31, ∃ o34, (o31, o34) = t37 ∧ ∃ ad32, ∃ cp33, ∃ ad35, ∃ cp36, St E [] w0 151 a w [(2, .pointer (some ⟨b18, 0, none⟩)), (3, .pointer (some ⟨b19, 0, none⟩)), (5, .slice ad32 o31.length cp33), (6, .slice ad35 o34.length cp36)] [eBox b18 26 [.slice ad5 p0.Left.length cp6, .slice ad7 p0.Right.length cp8], eBox b19 36 [.slice ad13 p1.Left.length cp14, .slice ad15 p1.Right.length cp16], eRow (rI .i64) 3 (.slice ad32 o31.length cp33) o31, eRow (rI .i64) 3 (.slice ad35 o34.length cp36) o34] [fRep (rL r_api_Point) (.slice ad5 p0.Left.length cp6) p0.Left, fRep (rL r_api_Point) (.slice ad7 p0.Right.length cp8) p0.Right, fRep (rL (rI .i64)) (.slice ad13 p1.Left.length cp14) p1.Left, fRep (rL (rI .i64)) (.slice ad15 p1.Right.length cp16) p1.Right]) ?_ (fun a w hI => ?_)
      · obtain ⟨l41, hx42, h⟩ := bindSome h
        obtain ⟨l47, hx48, h⟩ := bindSome h
        refine sDraw (nf := [0, 3, 4, 7]) (W := [(1, 28, .pointer (some ⟨b19, 0, none⟩)), (2, 29, .slice ad13 p1.Left.length cp14), (5, 32, .pointer (some ⟨b19, 1, none⟩)), (6, 33, .slice ad15 p1.Right.length cp16)]) (by kernel_rfl) S ?_
        refine node_by (A := anc_raddlelaw37_PieceMakes_0) (nf := [0, 3, 4, 7]) (Y := []) (W := [(1, 28, .pointer (some ⟨b19, 0, none⟩)), (2, 29, .slice ad13 p1.Left.length cp14), (5, 32, .pointer (some ⟨b19, 1, none⟩)), (6, 33, .slice ad15 p1.Right.length cp16)]) 10 (by kernel_rfl) (by kernel_rfl) (by kernel_rfl) (by kernel_rfl) (by kernel_rfl) [1, 2, 5, 6] (by kernel_rfl) (by decide) (by decide) (aN 0 9 (by decide) ?_ (aF 1 8 (by decide) ?_ (aF 2 7 (by decide) ?_ (aB 3 6 0 (by decide) (aN 4 5 (by decide) ?_ (aF 5 4 (by decide) ?_ (aF 6 3 (by decide) ?_ (aB 7 2 0 (by decide) (aE 8 1 0 (by decide) (aE 9 0 0 (by decide) (trivial))))))))))) [] (fun q hq => by cases hq) (fun hY => absurd (hY 0 (by decide)) (by decide))
        · refine ⟨_, [], rfl, (srcs_of [] rfl (by kernel_rfl) (by kernel_rfl)), fun G a w S => ?_⟩
          refine sLit0 (α := Int) (rI .i64) (T := 3) S (wN rfl) rfl Try.underlying34 (by kernel_rfl) rfl (by decide) (fun a w ad51 cp52 S => ?_)
          refine leafL ⟨rfl, _, _, .inl ⟨27, (.slice ad51 ([] : List Int).length cp52), [], rfl, S, hz_of (by kernel_rfl), ?_⟩⟩
          refine node_by (A := anc_raddlelaw37_PieceMakes_0) (nf := [0, 3, 4, 7]) (Y := [0]) 10 (by kernel_rfl) (by kernel_rfl) (by kernel_rfl) (by kernel_rfl) (by kernel_rfl) [0, 1, 2, 5, 6] (by kernel_rfl) (by decide) (by decide) (aY 0 9 (by decide) (aF 1 8 (by decide) ?_ (aF 2 7 (by decide) ?_ (aN 3 6 (by decide) ?_ (aN 4 5 (by decide) ?_ (aF 5 4 (by decide) ?_ (aF 6 3 (by decide) ?_ (aB 7 2 3 (by decide) (aE 8 1 3 (by decide) (aE 9 0 3 (by decide) (trivial))))))))))) [] (fun q hq => by cases hq) (fun hY => absurd (hY 3 (by decide)) (by decide))
          · refine fI 28 (.pointer (some ⟨b19, 0, none⟩)) [(3, .pointer (some ⟨b19, 0, none⟩))] 1 [none] rfl rfl (by kernel_rfl) rfl (by kernel_rfl) (by kernel_rfl) fun G a w S => ?_
            refine sField (b := b19) (off := 0) 0 0 S (wN rfl) rfl (by kernel_rfl) (by kernel_rfl) rfl rfl (by decide) (fun a S => ?_)
            exact leafL ⟨rfl, S⟩
          · refine fI 29 (.slice ad13 p1.Left.length cp14) [(28, .pointer (some ⟨b19, 0, none⟩))] 2 [some 1] rfl rfl (by kernel_rfl) rfl (by kernel_rfl) (by kernel_rfl) fun G a w S => ?_
            refine sLoad1 (p := b19) (off := 0) (T := 36) (vs := [.slice ad13 p1.Left.length cp14, .slice ad15 p1.Right.length cp16]) 2 (.slice ad13 p1.Left.length cp14) S (wN rfl) rfl (by kernel_rfl) (by kernel_rfl) (by kernel_rfl) rfl rfl (by decide) (fun a S => ?_)
            exact leafL ⟨rfl, S⟩
          · refine ⟨_, [(27, .slice ad51 ([] : List Int).length cp52), (29, .slice ad13 p1.Left.length cp14)], rfl, (srcs_of [some 0, some 2] rfl (by kernel_rfl) (by kernel_rfl)), fun G a w S => ?_⟩
            refine sApp (r := (rI .i64)) (T := 3) (xs := ([] : List Int)) (ys := p1.Left) (v := .slice ad51 ([] : List Int).length cp52) (u := .slice ad13 p1.Left.length cp14) 0 (.int .i64 0) 8 S (wN rfl) rfl Try.underlying34 (by kernel_rfl) rfl (by decide) (by kernel_rfl) (by kernel_rfl) (by kernel_rfl) (src_D 2 S.mem (by kernel_rfl)) hx42 rfl (by decide) (fun a w ad53 cp54 S => ?_)
            refine leafL ⟨rfl, _, _, .inl ⟨30, (.slice ad53 l41.length cp54), [], rfl, S, hz_of (by kernel_rfl), ?_⟩⟩
            refine node_by (A := anc_raddlelaw37_PieceMakes_0) (nf := [0, 3, 4, 7]) (Y := [3, 0]) 10 (by kernel_rfl) (by kernel_rfl) (by kernel_rfl) (by kernel_rfl) (by kernel_rfl) [3, 0, 1, 2, 5, 6] (by kernel_rfl) (by decide) (by decide) (aY 0 9 (by decide) (aD 1 8 3 (by decide) (aD 2 7 3 (by decide) (aY 3 6 (by decide) (aN 4 5 (by decide) ?_ (aF 5 4 (by decide) ?_ (aF 6 3 (by decide) ?_ (aB 7 2 4 (by decide) (aE 8 1 4 (by decide) (aE 9 0 4 (by decide) (trivial))))))))))) [] (fun q hq => by cases hq) (fun hY => absurd (hY 4 (by decide)) (by decide))
            · refine ⟨_, [], rfl, (srcs_of [] rfl (by kernel_rfl) (by kernel_rfl)), fun G a w S => ?_⟩
              refine sLit0 (α := Int) (rI .i64) (T := 3) S (wN rfl) rfl Try.underlying34 (by kernel_rfl) rfl (by decide) (fun a w ad55 cp56 S => ?_)
              refine leafL ⟨rfl, _, _, .inl ⟨31, (.slice ad55 ([] : List Int).length cp56), [], rfl, S, hz_of (by kernel_rfl), ?_⟩⟩
              refine node_by (A := anc_raddlelaw37_PieceMakes_0) (nf := [0, 3, 4, 7]) (Y := [4, 3, 0]) 10 (by kernel_rfl) (by kernel_rfl) (by kernel_rfl) (by kernel_rfl) (by kernel_rfl) [4, 3, 0, 1, 2, 5, 6] (by kernel_rfl) (by decide) (by decide) (aY 0 9 (by decide) (aD 1 8 3 (by decide) (aD 2 7 3 (by decide) (aY 3 6 (by decide) (aY 4 5 (by decide) (aF 5 4 (by decide) ?_ (aF 6 3 (by decide) ?_ (aN 7 2 (by decide) ?_ (aE 8 1 7 (by decide) (aE 9 0 7 (by decide) (trivial))))))))))) [] (fun q hq => by cases hq) (fun hY => absurd (hY 7 (by decide)) (by decide))
              · refine fI 32 (.pointer (some ⟨b19, 1, none⟩)) [(3, .pointer (some ⟨b19, 0, none⟩))] 5 [none] rfl rfl (by kernel_rfl) rfl (by kernel_rfl) (by kernel_rfl) fun G a w S => ?_
                refine sField (b := b19) (off := 0) 1 1 S (wN rfl) rfl (by kernel_rfl) (by kernel_rfl) rfl rfl (by decide) (fun a S => ?_)
                exact leafL ⟨rfl, S⟩
              · refine fI 33 (.slice ad15 p1.Right.length cp16) [(32, .pointer (some ⟨b19, 1, none⟩))] 6 [some 5] rfl rfl (by kernel_rfl) rfl (by kernel_rfl) (by kernel_rfl) fun G a w S => ?_
                refine sLoad1 (p := b19) (off := 1) (T := 36) (vs := [.slice ad13 p1.Left.length cp14, .slice ad15 p1.Right.length cp16]) 3 (.slice ad15 p1.Right.length cp16) S (wN rfl) rfl (by kernel_rfl) (by kernel_rfl) (by kernel_rfl) rfl rfl (by decide) (fun a S => ?_)
                exact leafL ⟨rfl, S⟩
              · refine ⟨_, [(31, .slice ad55 ([] : List Int).length cp56), (33, .slice ad15 p1.Right.length cp16)], rfl, (srcs_of [some 0, some 6] rfl (by kernel_rfl) (by kernel_rfl)), fun G a w S => ?_⟩
                refine sApp (r := (rI .i64)) (T := 3) (xs := ([] : List Int)) (ys := p1.Right) (v := .slice ad55 ([] : List Int).length cp56) (u := .slice ad15 p1.Right.length cp16) 0 (.int .i64 0) 8 S (wN rfl) rfl Try.underlying34 (by kernel_rfl) rfl (by decide) (by kernel_rfl) (by kernel_rfl) (by kernel_rfl) (src_D 3 S.mem (by kernel_rfl)) hx48 rfl (by decide) (fun a w ad57 cp58 S => ?_)
                refine leafL ⟨rfl, _, _, .inl ⟨34, (.slice ad57 l47.length cp58), [(8, 5, .slice ad53 l41.length cp54), (9, 6, .slice ad57 l47.length cp58)], rfl, S, hz_of (by kernel_rfl), ?_⟩⟩
                refine node_by (A := anc_raddlelaw37_PieceMakes_0) (nf := [0, 3, 4, 7]) (Y := [7, 4, 3, 0]) 10 (by kernel_rfl) (by kernel_rfl) (by kernel_rfl) (by kernel_rfl) (by kernel_rfl) [8, 9, 7, 4, 3, 0, 1, 2, 5, 6] (by kernel_rfl) (by decide) (by decide) (aY 0 9 (by decide) (aD 1 8 7 (by decide) (aD 2 7 7 (by decide) (aY 3 6 (by decide) (aY 4 5 (by decide) (aD 5 4 7 (by decide) (aD 6 3 7 (by decide) (aY 7 2 (by decide) (aF 8 1 (by decide) ?_ (aF 9 0 (by decide) ?_ (trivial))))))))))) [(2, .pointer (some ⟨b18, 0, none⟩)), (3, .pointer (some ⟨b19, 0, none⟩)), (5, .slice ad53 l41.length cp54), (6, .slice ad57 l47.length cp58)] (fin_of [none, none, some 0, some 1] rfl (by kernel_rfl) (by kernel_rfl)) (fun _ a w S => ?_)
                · refine fI 5 (.slice ad53 l41.length cp54) [(30, .slice ad53 l41.length cp54)] 0 [some 4] rfl rfl (by kernel_rfl) rfl (by kernel_rfl) (by kernel_rfl) fun G a w S => ?_
                  refine sMove (.slice ad53 l41.length cp54) S (wN rfl) (.inr rfl) (by kernel_rfl) rfl (by decide) (fun a S => ?_)
                  exact leafL ⟨rfl, S⟩
                · refine fI 6 (.slice ad57 l47.length cp58) [(34, .slice ad57 l47.length cp58)] 1 [some 2] rfl rfl (by kernel_rfl) rfl (by kernel_rfl) (by kernel_rfl) fun G a w S => ?_
                  refine sMove (.slice ad57 l47.length cp58) S (wN rfl) (.inr rfl) (by kernel_rfl) rfl (by decide) (fun a S => ?_)
                  exact leafL ⟨rfl, S⟩
                · exact leafT (⟨l41, l47, Option.some.inj h, ad53, cp54, ad57, cp58, S.fix [2, 3, 1, 0] [0, 1, 2, 3] (by decide) (by kernel_rfl) (by kernel_rfl) (by kernel_rfl)⟩)
            · refine fI 32 (.pointer (some ⟨b19, 1, none⟩)) [(3, .pointer (some ⟨b19, 0, none⟩))] 4 [none] rfl rfl (by kernel_rfl) rfl (by kernel_rfl) (by kernel_rfl) fun G a w S => ?_
              refine sField (b := b19) (off := 0) 1 1 S (wN rfl) rfl (by kernel_rfl) (by kernel_rfl) rfl rfl (by decide) (fun a S => ?_)
              exact leafL ⟨rfl, S⟩
            · refine fI 33 (.slice ad15 p1.Right.length cp16) [(32, .pointer (some ⟨b19, 1, none⟩))] 5 [some 4] rfl rfl (by kernel_rfl) rfl (by kernel_rfl) (by kernel_rfl) fun G a w S => ?_
              refine sLoad1 (p := b19) (off := 1) (T := 36) (vs := [.slice ad13 p1.Left.length cp14, .slice ad15 p1.Right.length cp16]) 2 (.slice ad15 p1.Right.length cp16) S (wN rfl) rfl (by kernel_rfl) (by kernel_rfl) (by kernel_rfl) rfl rfl (by decide) (fun a S => ?_)
              exact leafL ⟨rfl, S⟩
          · refine ⟨_, [], rfl, (srcs_of [] rfl (by kernel_rfl) (by kernel_rfl)), fun G a w S => ?_⟩
            refine sLit0 (α := Int) (rI .i64) (T := 3) S (wN rfl) rfl Try.underlying34 (by kernel_rfl) rfl (by decide) (fun a w ad59 cp60 S => ?_)
            refine leafL ⟨rfl, _, _, .inl ⟨31, (.slice ad59 ([] : List Int).length cp60), [], rfl, S, hz_of (by kernel_rfl), ?_⟩⟩
            refine node_by (A := anc_raddlelaw37_PieceMakes_0) (nf := [0, 3, 4, 7]) (Y := [4, 0]) 10 (by kernel_rfl) (by kernel_rfl) (by kernel_rfl) (by kernel_rfl) (by kernel_rfl) [4, 0, 1, 2, 5, 6] (by kernel_rfl) (by decide) (by decide) (aY 0 9 (by decide) (aF 1 8 (by decide) ?_ (aF 2 7 (by decide) ?_ (aN 3 6 (by decide) ?_ (aY 4 5 (by decide) (aF 5 4 (by decide) ?_ (aF 6 3 (by decide) ?_ (aB 7 2 3 (by decide) (aE 8 1 3 (by decide) (aE 9 0 3 (by decide) (trivial))))))))))) [] (fun q hq => by cases hq) (fun hY => absurd (hY 3 (by decide)) (by decide))
            · refine fI 28 (.pointer (some ⟨b19, 0, none⟩)) [(3, .pointer (some ⟨b19, 0, none⟩))] 2 [none] rfl rfl (by kernel_rfl) rfl (by kernel_rfl) (by kernel_rfl) fun G a w S => ?_
              refine sField (b := b19) (off := 0) 0 0 S (wN rfl) rfl (by kernel_rfl) (by kernel_rfl) rfl rfl (by decide) (fun a S => ?_)
              exact leafL ⟨rfl, S⟩
            · refine fI 29 (.slice ad13 p1.Left.length cp14) [(28, .pointer (some ⟨b19, 0, none⟩))] 3 [some 2] rfl rfl (by kernel_rfl) rfl (by kernel_rfl) (by kernel_rfl) fun G a w S => ?_
              refine sLoad1 (p := b19) (off := 0) (T := 36) (vs := [.slice ad13 p1.Left.length cp14, .slice ad15 p1.Right.length cp16]) 3 (.slice ad13 p1.Left.length cp14) S (wN rfl) rfl (by kernel_rfl) (by kernel_rfl) (by kernel_rfl) rfl rfl (by decide) (fun a S => ?_)
              exact leafL ⟨rfl, S⟩
            · refine ⟨_, [(27, .slice ad51 ([] : List Int).length cp52), (29, .slice ad13 p1.Left.length cp14)], rfl, (srcs_of [some 1, some 3] rfl (by kernel_rfl) (by kernel_rfl)), fun G a w S => ?_⟩
              refine sApp (r := (rI .i64)) (T := 3) (xs := ([] : List Int)) (ys := p1.Left) (v := .slice ad51 ([] : List Int).length cp52) (u := .slice ad13 p1.Left.length cp14) 1 (.int .i64 0) 8 S (wN rfl) rfl Try.underlying34 (by kernel_rfl) rfl (by decide) (by kernel_rfl) (by kernel_rfl) (by kernel_rfl) (src_D 2 S.mem (by kernel_rfl)) hx42 rfl (by decide) (fun a w ad61 cp62 S => ?_)
              refine leafL ⟨rfl, _, _, .inl ⟨30, (.slice ad61 l41.length cp62), [], rfl, S, hz_of (by kernel_rfl), ?_⟩⟩
              refine node_by (A := anc_raddlelaw37_PieceMakes_0) (nf := [0, 3, 4, 7]) (Y := [3, 4, 0]) 10 (by kernel_rfl) (by kernel_rfl) (by kernel_rfl) (by kernel_rfl) (by kernel_rfl) [3, 4, 0, 1, 2, 5, 6] (by kernel_rfl) (by decide) (by decide) (aY 0 9 (by decide) (aD 1 8 3 (by decide) (aD 2 7 3 (by decide) (aY 3 6 (by decide) (aY 4 5 (by decide) (aF 5 4 (by decide) ?_ (aF 6 3 (by decide) ?_ (aN 7 2 (by decide) ?_ (aE 8 1 7 (by decide) (aE 9 0 7 (by decide) (trivial))))))))))) [] (fun q hq => by cases hq) (fun hY => absurd (hY 7 (by decide)) (by decide))
              · refine fI 32 (.pointer (some ⟨b19, 1, none⟩)) [(3, .pointer (some ⟨b19, 0, none⟩))] 5 [none] rfl rfl (by kernel_rfl) rfl (by kernel_rfl) (by kernel_rfl) fun G a w S => ?_
                refine sField (b := b19) (off := 0) 1 1 S (wN rfl) rfl (by kernel_rfl) (by kernel_rfl) rfl rfl (by decide) (fun a S => ?_)
                exact leafL ⟨rfl, S⟩
              · refine fI 33 (.slice ad15 p1.Right.length cp16) [(32, .pointer (some ⟨b19, 1, none⟩))] 6 [some 5] rfl rfl (by kernel_rfl) rfl (by kernel_rfl) (by kernel_rfl) fun G a w S => ?_
                refine sLoad1 (p := b19) (off := 1) (T := 36) (vs := [.slice ad13 p1.Left.length cp14, .slice ad15 p1.Right.length cp16]) 3 (.slice ad15 p1.Right.length cp16) S (wN rfl) rfl (by kernel_rfl) (by kernel_rfl) (by kernel_rfl) rfl rfl (by decide) (fun a S => ?_)
                exact leafL ⟨rfl, S⟩
              · refine ⟨_, [(31, .slice ad59 ([] : List Int).length cp60), (33, .slice ad15 p1.Right.length cp16)], rfl, (srcs_of [some 1, some 6] rfl (by kernel_rfl) (by kernel_rfl)), fun G a w S => ?_⟩
                refine sApp (r := (rI .i64)) (T := 3) (xs := ([] : List Int)) (ys := p1.Right) (v := .slice ad59 ([] : List Int).length cp60) (u := .slice ad15 p1.Right.length cp16) 1 (.int .i64 0) 8 S (wN rfl) rfl Try.underlying34 (by kernel_rfl) rfl (by decide) (by kernel_rfl) (by kernel_rfl) (by kernel_rfl) (src_D 3 S.mem (by kernel_rfl)) hx48 rfl (by decide) (fun a w ad63 cp64 S => ?_)
                refine leafL ⟨rfl, _, _, .inl ⟨34, (.slice ad63 l47.length cp64), [(8, 5, .slice ad61 l41.length cp62), (9, 6, .slice ad63 l47.length cp64)], rfl, S, hz_of (by kernel_rfl), ?_⟩⟩
                refine node_by (A := anc_raddlelaw37_PieceMakes_0) (nf := [0, 3, 4, 7]) (Y := [7, 3, 4, 0]) 10 (by kernel_rfl) (by kernel_rfl) (by kernel_rfl) (by kernel_rfl) (by kernel_rfl) [8, 9, 7, 3, 4, 0, 1, 2, 5, 6] (by kernel_rfl) (by decide) (by decide) (aY 0 9 (by decide) (aD 1 8 7 (by decide) (aD 2 7 7 (by decide) (aY 3 6 (by decide) (aY 4 5 (by decide) (aD 5 4 7 (by decide) (aD 6 3 7 (by decide) (aY 7 2 (by decide) (aF 8 1 (by decide) ?_ (aF 9 0 (by decide) ?_ (trivial))))))))))) [(2, .pointer (some ⟨b18, 0, none⟩)), (3, .pointer (some ⟨b19, 0, none⟩)), (5, .slice ad61 l41.length cp62), (6, .slice ad63 l47.length cp64)] (fin_of [none, none, some 0, some 1] rfl (by kernel_rfl) (by kernel_rfl)) (fun _ a w S => ?_)
                · refine fI 5 (.slice ad61 l41.length cp62) [(30, .slice ad61 l41.length cp62)] 0 [some 3] rfl rfl (by kernel_rfl) rfl (by kernel_rfl) (by kernel_rfl) fun G a w S => ?_
                  refine sMove (.slice ad61 l41.length cp62) S (wN rfl) (.inr rfl) (by kernel_rfl) rfl (by decide) (fun a S => ?_)
                  exact leafL ⟨rfl, S⟩
                · refine fI 6 (.slice ad63 l47.length cp64) [(34, .slice ad63 l47.length cp64)] 1 [some 2] rfl rfl (by kernel_rfl) rfl (by kernel_rfl) (by kernel_rfl) fun G a w S => ?_
                  refine sMove (.slice ad63 l47.length cp64) S (wN rfl) (.inr rfl) (by kernel_rfl) rfl (by decide) (fun a S => ?_)
                  exact leafL ⟨rfl, S⟩
                · exact leafT (⟨l41, l47, Option.some.inj h, ad61, cp62, ad63, cp64, S.fix [2, 3, 1, 0] [0, 1, 2, 3] (by decide) (by kernel_rfl) (by kernel_rfl) (by kernel_rfl)⟩)
            · refine fI 32 (.pointer (some ⟨b19, 1, none⟩)) [(3, .pointer (some ⟨b19, 0, none⟩))] 4 [none] rfl rfl (by kernel_rfl) rfl (by kernel_rfl) (by kernel_rfl) fun G a w S => ?_
              refine sField (b := b19) (off := 0) 1 1 S (wN rfl) rfl (by kernel_rfl) (by kernel_rfl) rfl rfl (by decide) (fun a S => ?_)
              exact leafL ⟨rfl, S⟩
            · refine fI 33 (.slice ad15 p1.Right.length cp16) [(32, .pointer (some ⟨b19, 1, none⟩))] 5 [some 4] rfl rfl (by kernel_rfl) rfl (by kernel_rfl) (by kernel_rfl) fun G a w S => ?_
              refine sLoad1 (p := b19) (off := 1) (T := 36) (vs := [.slice ad13 p1.Left.length cp14, .slice ad15 p1.Right.length cp16]) 3 (.slice ad15 p1.Right.length cp16) S (wN rfl) rfl (by kernel_rfl) (by kernel_rfl) (by kernel_rfl) rfl rfl (by decide) (fun a S => ?_)
              exact leafL ⟨rfl, S⟩
          · refine fI 32 (.pointer (some ⟨b19, 1, none⟩)) [(3, .pointer (some ⟨b19, 0, none⟩))] 3 [none] rfl rfl (by kernel_rfl) rfl (by kernel_rfl) (by kernel_rfl) fun G a w S => ?_
            refine sField (b := b19) (off := 0) 1 1 S (wN rfl) rfl (by kernel_rfl) (by kernel_rfl) rfl rfl (by decide) (fun a S => ?_)
            exact leafL ⟨rfl, S⟩
          · refine fI 33 (.slice ad15 p1.Right.length cp16) [(32, .pointer (some ⟨b19, 1, none⟩))] 4 [some 3] rfl rfl (by kernel_rfl) rfl (by kernel_rfl) (by kernel_rfl) fun G a w S => ?_
            refine sLoad1 (p := b19) (off := 1) (T := 36) (vs := [.slice ad13 p1.Left.length cp14, .slice ad15 p1.Right.length cp16]) 2 (.slice ad15 p1.Right.length cp16) S (wN rfl) rfl (by kernel_rfl) (by kernel_rfl) (by kernel_rfl) rfl rfl (by decide) (fun a S => ?_)
            exact leafL ⟨rfl, S⟩
        · refine fI 28 (.pointer (some ⟨b19, 0, none⟩)) [(3, .pointer (some ⟨b19, 0, none⟩))] 0 [none] rfl rfl (by kernel_rfl) rfl (by kernel_rfl) (by kernel_rfl) fun G a w S => ?_
          refine sField (b := b19) (off := 0) 0 0 S (wN rfl) rfl (by kernel_rfl) (by kernel_rfl) rfl rfl (by decide) (fun a S => ?_)
          exact leafL ⟨rfl, S⟩
        · refine fI 29 (.slice ad13 p1.Left.length cp14) [(28, .pointer (some ⟨b19, 0, none⟩))] 1 [some 0] rfl rfl (by kernel_rfl) rfl (by kernel_rfl) (by kernel_rfl) fun G a w S => ?_
          refine sLoad1 (p := b19) (off := 0) (T := 36) (vs := [.slice ad13 p1.Left.length cp14, .slice ad15 p1.Right.length cp16]) 1 (.slice ad13 p1.Left.length cp14) S (wN rfl) rfl (by kernel_rfl) (by kernel_rfl) (by kernel_rfl) rfl rfl (by decide) (fun a S => ?_)
          exact leafL ⟨rfl, S⟩
        · refine ⟨_, [], rfl, (srcs_of [] rfl (by kernel_rfl) (by kernel_rfl)), fun G a w S => ?_⟩
          refine sLit0 (α := Int) (rI .i64) (T := 3) S (wN rfl) rfl Try.underlying34 (by kernel_rfl) rfl (by decide) (fun a w ad65 cp66 S => ?_)
          refine leafL ⟨rfl, _, _, .inl ⟨31, (.slice ad65 ([] : List Int).length cp66), [], rfl, S, hz_of (by kernel_rfl), ?_⟩⟩
          refine node_by (A := anc_raddlelaw37_PieceMakes_0) (nf := [0, 3, 4, 7]) (Y := [4]) 10 (by kernel_rfl) (by kernel_rfl) (by kernel_rfl) (by kernel_rfl) (by kernel_rfl) [4, 1, 2, 5, 6] (by kernel_rfl) (by decide) (by decide) (aN 0 9 (by decide) ?_ (aF 1 8 (by decide) ?_ (aF 2 7 (by decide) ?_ (aB 3 6 0 (by decide) (aY 4 5 (by decide) (aF 5 4 (by decide) ?_ (aF 6 3 (by decide) ?_ (aB 7 2 0 (by decide) (aE 8 1 0 (by decide) (aE 9 0 0 (by decide) (trivial))))))))))) [] (fun q hq => by cases hq) (fun hY => absurd (hY 0 (by decide)) (by decide))
          · refine ⟨_, [], rfl, (srcs_of [] rfl (by kernel_rfl) (by kernel_rfl)), fun G a w S => ?_⟩
            refine sLit0 (α := Int) (rI .i64) (T := 3) S (wN rfl) rfl Try.underlying34 (by kernel_rfl) rfl (by decide) (fun a w ad67 cp68 S => ?_)
            refine leafL ⟨rfl, _, _, .inl ⟨27, (.slice ad67 ([] : List Int).length cp68), [], rfl, S, hz_of (by kernel_rfl), ?_⟩⟩
            refine node_by (A := anc_raddlelaw37_PieceMakes_0) (nf := [0, 3, 4, 7]) (Y := [0, 4]) 10 (by kernel_rfl) (by kernel_rfl) (by kernel_rfl) (by kernel_rfl) (by kernel_rfl) [0, 4, 1, 2, 5, 6] (by kernel_rfl) (by decide) (by decide) (aY 0 9 (by decide) (aF 1 8 (by decide) ?_ (aF 2 7 (by decide) ?_ (aN 3 6 (by decide) ?_ (aY 4 5 (by decide) (aF 5 4 (by decide) ?_ (aF 6 3 (by decide) ?_ (aB 7 2 3 (by decide) (aE 8 1 3 (by decide) (aE 9 0 3 (by decide) (trivial))))))))))) [] (fun q hq => by cases hq) (fun hY => absurd (hY 3 (by decide)) (by decide))
            · refine fI 28 (.pointer (some ⟨b19, 0, none⟩)) [(3, .pointer (some ⟨b19, 0, none⟩))] 2 [none] rfl rfl (by kernel_rfl) rfl (by kernel_rfl) (by kernel_rfl) fun G a w S => ?_
              refine sField (b := b19) (off := 0) 0 0 S (wN rfl) rfl (by kernel_rfl) (by kernel_rfl) rfl rfl (by decide) (fun a S => ?_)
              exact leafL ⟨rfl, S⟩
            · refine fI 29 (.slice ad13 p1.Left.length cp14) [(28, .pointer (some ⟨b19, 0, none⟩))] 3 [some 2] rfl rfl (by kernel_rfl) rfl (by kernel_rfl) (by kernel_rfl) fun G a w S => ?_
              refine sLoad1 (p := b19) (off := 0) (T := 36) (vs := [.slice ad13 p1.Left.length cp14, .slice ad15 p1.Right.length cp16]) 3 (.slice ad13 p1.Left.length cp14) S (wN rfl) rfl (by kernel_rfl) (by kernel_rfl) (by kernel_rfl) rfl rfl (by decide) (fun a S => ?_)
              exact leafL ⟨rfl, S⟩
            · refine ⟨_, [(27, .slice ad67 ([] : List Int).length cp68), (29, .slice ad13 p1.Left.length cp14)], rfl, (srcs_of [some 0, some 3] rfl (by kernel_rfl) (by kernel_rfl)), fun G a w S => ?_⟩
              refine sApp (r := (rI .i64)) (T := 3) (xs := ([] : List Int)) (ys := p1.Left) (v := .slice ad67 ([] : List Int).length cp68) (u := .slice ad13 p1.Left.length cp14) 0 (.int .i64 0) 8 S (wN rfl) rfl Try.underlying34 (by kernel_rfl) rfl (by decide) (by kernel_rfl) (by kernel_rfl) (by kernel_rfl) (src_D 2 S.mem (by kernel_rfl)) hx42 rfl (by decide) (fun a w ad69 cp70 S => ?_)
              refine leafL ⟨rfl, _, _, .inl ⟨30, (.slice ad69 l41.length cp70), [], rfl, S, hz_of (by kernel_rfl), ?_⟩⟩
              refine node_by (A := anc_raddlelaw37_PieceMakes_0) (nf := [0, 3, 4, 7]) (Y := [3, 0, 4]) 10 (by kernel_rfl) (by kernel_rfl) (by kernel_rfl) (by kernel_rfl) (by kernel_rfl) [3, 0, 4, 1, 2, 5, 6] (by kernel_rfl) (by decide) (by decide) (aY 0 9 (by decide) (aD 1 8 3 (by decide) (aD 2 7 3 (by decide) (aY 3 6 (by decide) (aY 4 5 (by decide) (aF 5 4 (by decide) ?_ (aF 6 3 (by decide) ?_ (aN 7 2 (by decide) ?_ (aE 8 1 7 (by decide) (aE 9 0 7 (by decide) (trivial))))))))))) [] (fun q hq => by cases hq) (fun hY => absurd (hY 7 (by decide)) (by decide))
              · refine fI 32 (.pointer (some ⟨b19, 1, none⟩)) [(3, .pointer (some ⟨b19, 0, none⟩))] 5 [none] rfl rfl (by kernel_rfl) rfl (by kernel_rfl) (by kernel_rfl) fun G a w S => ?_
                refine sField (b := b19) (off := 0) 1 1 S (wN rfl) rfl (by kernel_rfl) (by kernel_rfl) rfl rfl (by decide) (fun a S => ?_)
                exact leafL ⟨rfl, S⟩
              · refine fI 33 (.slice ad15 p1.Right.length cp16) [(32, .pointer (some ⟨b19, 1, none⟩))] 6 [some 5] rfl rfl (by kernel_rfl) rfl (by kernel_rfl) (by kernel_rfl) fun G a w S => ?_
                refine sLoad1 (p := b19) (off := 1) (T := 36) (vs := [.slice ad13 p1.Left.length cp14, .slice ad15 p1.Right.length cp16]) 3 (.slice ad15 p1.Right.length cp16) S (wN rfl) rfl (by kernel_rfl) (by kernel_rfl) (by kernel_rfl) rfl rfl (by decide) (fun a S => ?_)
                exact leafL ⟨rfl, S⟩
              · refine ⟨_, [(31, .slice ad65 ([] : List Int).length cp66), (33, .slice ad15 p1.Right.length cp16)], rfl, (srcs_of [some 2, some 6] rfl (by kernel_rfl) (by kernel_rfl)), fun G a w S => ?_⟩
                refine sApp (r := (rI .i64)) (T := 3) (xs := ([] : List Int)) (ys := p1.Right) (v := .slice ad65 ([] : List Int).length cp66) (u := .slice ad15 p1.Right.length cp16) 1 (.int .i64 0) 8 S (wN rfl) rfl Try.underlying34 (by kernel_rfl) rfl (by decide) (by kernel_rfl) (by kernel_rfl) (by kernel_rfl) (src_D 3 S.mem (by kernel_rfl)) hx48 rfl (by decide) (fun a w ad71 cp72 S => ?_)
                refine leafL ⟨rfl, _, _, .inl ⟨34, (.slice ad71 l47.length cp72), [(8, 5, .slice ad69 l41.length cp70), (9, 6, .slice ad71 l47.length cp72)], rfl, S, hz_of (by kernel_rfl), ?_⟩⟩
                refine node_by (A := anc_raddlelaw37_PieceMakes_0) (nf := [0, 3, 4, 7]) (Y := [7, 3, 0, 4]) 10 (by kernel_rfl) (by kernel_rfl) (by kernel_rfl) (by kernel_rfl) (by kernel_rfl) [8, 9, 7, 3, 0, 4, 1, 2, 5, 6] (by kernel_rfl) (by decide) (by decide) (aY 0 9 (by decide) (aD 1 8 7 (by decide) (aD 2 7 7 (by decide) (aY 3 6 (by decide) (aY 4 5 (by decide) (aD 5 4 7 (by decide) (aD 6 3 7 (by decide) (aY 7 2 (by decide) (aF 8 1 (by decide) ?_ (aF 9 0 (by decide) ?_ (trivial))))))))))) [(2, .pointer (some ⟨b18, 0, none⟩)), (3, .pointer (some ⟨b19, 0, none⟩)), (5, .slice ad69 l41.length cp70), (6, .slice ad71 l47.length cp72)] (fin_of [none, none, some 0, some 1] rfl (by kernel_rfl) (by kernel_rfl)) (fun _ a w S => ?_)
                · refine fI 5 (.slice ad69 l41.length cp70) [(30, .slice ad69 l41.length cp70)] 0 [some 3] rfl rfl (by kernel_rfl) rfl (by kernel_rfl) (by kernel_rfl) fun G a w S => ?_
                  refine sMove (.slice ad69 l41.length cp70) S (wN rfl) (.inr rfl) (by kernel_rfl) rfl (by decide) (fun a S => ?_)
                  exact leafL ⟨rfl, S⟩
                · refine fI 6 (.slice ad71 l47.length cp72) [(34, .slice ad71 l47.length cp72)] 1 [some 2] rfl rfl (by kernel_rfl) rfl (by kernel_rfl) (by kernel_rfl) fun G a w S => ?_
                  refine sMove (.slice ad71 l47.length cp72) S (wN rfl) (.inr rfl) (by kernel_rfl) rfl (by decide) (fun a S => ?_)
                  exact leafL ⟨rfl, S⟩
                · exact leafT (⟨l41, l47, Option.some.inj h, ad69, cp70, ad71, cp72, S.fix [2, 3, 1, 0] [0, 1, 2, 3] (by decide) (by kernel_rfl) (by kernel_rfl) (by kernel_rfl)⟩)
            · refine fI 32 (.pointer (some ⟨b19, 1, none⟩)) [(3, .pointer (some ⟨b19, 0, none⟩))] 4 [none] rfl rfl (by kernel_rfl) rfl (by kernel_rfl) (by kernel_rfl) fun G a w S => ?_
              refine sField (b := b19) (off := 0) 1 1 S (wN rfl) rfl (by kernel_rfl) (by kernel_rfl) rfl rfl (by decide) (fun a S => ?_)
              exact leafL ⟨rfl, S⟩
            · refine fI 33 (.slice ad15 p1.Right.length cp16) [(32, .pointer (some ⟨b19, 1, none⟩))] 5 [some 4] rfl rfl (by kernel_rfl) rfl (by kernel_rfl) (by kernel_rfl) fun G a w S => ?_
              refine sLoad1 (p := b19) (off := 1) (T := 36) (vs := [.slice ad13 p1.Left.length cp14, .slice ad15 p1.Right.length cp16]) 3 (.slice ad15 p1.Right.length cp16) S (wN rfl) rfl (by kernel_rfl) (by kernel_rfl) (by kernel_rfl) rfl rfl (by decide) (fun a S => ?_)
              exact leafL ⟨rfl, S⟩
          · refine fI 28 (.pointer (some ⟨b19, 0, none⟩)) [(3, .pointer (some ⟨b19, 0, none⟩))] 1 [none] rfl rfl (by kernel_rfl) rfl (by kernel_rfl) (by kernel_rfl) fun G a w S => ?_
            refine sField (b := b19) (off := 0) 0 0 S (wN rfl) rfl (by kernel_rfl) (by kernel_rfl) rfl rfl (by decide) (fun a S => ?_)
            exact leafL ⟨rfl, S⟩
          · refine fI 29 (.slice ad13 p1.Left.length cp14) [(28, .pointer (some ⟨b19, 0, none⟩))] 2 [some 1] rfl rfl (by kernel_rfl) rfl (by kernel_rfl) (by kernel_rfl) fun G a w S => ?_
            refine sLoad1 (p := b19) (off := 0) (T := 36) (vs := [.slice ad13 p1.Left.length cp14, .slice ad15 p1.Right.length cp16]) 2 (.slice ad13 p1.Left.length cp14) S (wN rfl) rfl (by kernel_rfl) (by kernel_rfl) (by kernel_rfl) rfl rfl (by decide) (fun a S => ?_)
            exact leafL ⟨rfl, S⟩
          · refine fI 32 (.pointer (some ⟨b19, 1, none⟩)) [(3, .pointer (some ⟨b19, 0, none⟩))] 3 [none] rfl rfl (by kernel_rfl) rfl (by kernel_rfl) (by kernel_rfl) fun G a w S => ?_
            refine sField (b := b19) (off := 0) 1 1 S (wN rfl) rfl (by kernel_rfl) (by kernel_rfl) rfl rfl (by decide) (fun a S => ?_)
            exact leafL ⟨rfl, S⟩
          · refine fI 33 (.slice ad15 p1.Right.length cp16) [(32, .pointer (some ⟨b19, 1, none⟩))] 4 [some 3] rfl rfl (by kernel_rfl) rfl (by kernel_rfl) (by kernel_rfl) fun G a w S => ?_
            refine sLoad1 (p := b19) (off := 1) (T := 36) (vs := [.slice ad13 p1.Left.length cp14, .slice ad15 p1.Right.length cp16]) 2 (.slice ad15 p1.Right.length cp16) S (wN rfl) rfl (by kernel_rfl) (by kernel_rfl) (by kernel_rfl) rfl rfl (by decide) (fun a S => ?_)
            exact leafL ⟨rfl, S⟩
        · refine fI 32 (.pointer (some ⟨b19, 1, none⟩)) [(3, .pointer (some ⟨b19, 0, none⟩))] 2 [none] rfl rfl (by kernel_rfl) rfl (by kernel_rfl) (by kernel_rfl) fun G a w S => ?_
          refine sField (b := b19) (off := 0) 1 1 S (wN rfl) rfl (by kernel_rfl) (by kernel_rfl) rfl rfl (by decide) (fun a S => ?_)
          exact leafL ⟨rfl, S⟩
        · refine fI 33 (.slice ad15 p1.Right.length cp16) [(32, .pointer (some ⟨b19, 1, none⟩))] 3 [some 2] rfl rfl (by kernel_rfl) rfl (by kernel_rfl) (by kernel_rfl) fun G a w S => ?_
          refine sLoad1 (p := b19) (off := 1) (T := 36) (vs := [.slice ad13 p1.Left.length cp14, .slice ad15 p1.Right.length cp16]) 1 (.slice ad15 p1.Right.length cp16) S (wN rfl) rfl (by kernel_rfl) (by kernel_rfl) (by kernel_rfl) rfl rfl (by decide) (fun a S => ?_)
          exact leafL ⟨rfl, S⟩
      · obtain ⟨o31, o34, rfl, ad32, cp33, ad35, cp36, S⟩ := hI
        have h := g38
        clear g38
        try dsimp only at h
        refine sSeq (fun K73 hK73 => ?_)
        refine sRegion ?_
        refine sLoadN (p := b18) (off := 0) (T := 26) (vs := [.slice ad5 p0.Left.length cp6, .slice ad7 p0.Right.length cp8]) 0 [.slice ad5 p0.Left.length cp6, .slice ad7 p0.Right.length cp8] S (wN rfl) rfl (by kernel_rfl) (by kernel_rfl) (by kernel_rfl) (by kernel_rfl) rfl rfl (by decide) (fun a S => ?_)
        obtain ⟨r74, hx75, h⟩ := bindSome h
        have S := S.learn (fRep r_api_Shape (.agg #[.slice ad5 p0.Left.length cp6, .slice ad7 p0.Right.length cp8]) p0) ⟨_, _, rfl, S.mem.know (i := 0) (e := fRep (rL r_api_Point) (.slice ad5 p0.Left.length cp6) p0.Left) (by kernel_rfl), S.mem.know (i := 1) (e := fRep (rL r_api_Point) (.slice ad7 p0.Right.length cp8) p0.Right) (by kernel_rfl)⟩
        refine sCall (X := Option Addr × Nat × Option Addr × Nat) (f := 11) (vs := [.agg #[.slice ad5 p0.Left.length cp6, .slice ad7 p0.Right.length cp8]]) (val := fun x => .tuple #[.agg #[.slice x.1 r74.1.Left.length x.2.1, .slice x.2.2.1 r74.1.Right.length x.2.2.2], .int .i64 r74.2]) (B' := fun x => [eRow (rI .i64) 3 (.slice x.1 r74.1.Left.length x.2.1) r74.1.Left, eRow (rI .i64) 3 (.slice x.2.2.1 r74.1.Right.length x.2.2.2) r74.1.Right]) (D' := fun _ => []) [] [eBox b18 26 [.slice ad5 p0.Left.length cp6, .slice ad7 p0.Right.length cp8], eBox b19 36 [.slice ad13 p1.Left.length cp14, .slice ad15 p1.Right.length cp16], eRow (rI .i64) 3 (.slice ad32 o31.length cp33) o31, eRow (rI .i64) 3 (.slice ad35 o34.length cp36) o34] [fRep r_api_Shape (.agg #[.slice ad5 p0.Left.length cp6, .slice ad7 p0.Right.length cp8]) p0] [0, 1, 2, 3] [0] S (wN rfl) rfl callee11 (by kernel_rfl) (by decide) (by kernel_rfl) (by kernel_rfl) (fun E1 w1 S1 => c_piece_Make_s0 E1 w1 p0 (.agg #[.slice ad5 p0.Left.length cp6, .slice ad7 p0.Right.length cp8]) r74 hx75 S1) rfl (by decide) (fun xx a w S => ?_)
        obtain ⟨ad76, cp77, ad78, cp79⟩ := xx
        dsimp only at S
        refine sMove (.tuple #[.agg #[.slice ad76 r74.1.Left.length cp77, .slice ad78 r74.1.Right.length cp79], .int .i64 r74.2]) S (wN rfl) (.inl rfl) (by kernel_rfl) rfl (by decide) (fun a S => ?_)
        refine sExtract (vs := [.agg #[.slice ad76 r74.1.Left.length cp77, .slice ad78 r74.1.Right.length cp79], .int .i64 r74.2]) (.agg #[.slice ad76 r74.1.Left.length cp77, .slice ad78 r74.1.Right.length cp79]) S (wN rfl) rfl (by kernel_rfl) rfl rfl (by decide) (fun a S => ?_)
        refine sExtract (vs := [.agg #[.slice ad76 r74.1.Left.length cp77, .slice ad78 r74.1.Right.length cp79], .int .i64 r74.2]) (.int .i64 r74.2) S (wN rfl) rfl (by kernel_rfl) rfl rfl (by decide) (fun a S => ?_)
        refine sAlloc (.agg #[.slice none 0 0, .slice none 0 0]) S (wN rfl) rfl (by kernel_rfl) [.slice none 0 0, .slice none 0 0] rfl rfl (by decide) (fun a b80 w S => ?_)
        refine sStore (p := b80) (off := 0) (T := 36) (vs := [.slice none 0 0, .slice none 0 0]) (v := .agg #[.slice ad76 r74.1.Left.length cp77, .slice ad78 r74.1.Right.length cp79]) 0 [.slice ad76 r74.1.Left.length cp77, .slice ad78 r74.1.Right.length cp79] S (wN rfl) rfl (by kernel_rfl) (by kernel_rfl) rfl (by kernel_rfl) (by kernel_rfl) rfl (by simp) rfl (fun a w S => ?_)
        refine sMove (.int .i64 r74.2) S (wN rfl) (.inr rfl) (by kernel_rfl) rfl (by decide) (fun a S => ?_)
        refine leafL (leafT (hK73 _ _ ?_))
        refine sSeq (fun K81 hK81 => ?_)
        refine sRegion ?_
        refine sLoadN (p := b18) (off := 0) (T := 26) (vs := [.slice ad5 p0.Left.length cp6, .slice ad7 p0.Right.length cp8]) 3 [.slice ad5 p0.Left.length cp6, .slice ad7 p0.Right.length cp8] S (wN rfl) rfl (by kernel_rfl) (by kernel_rfl) (by kernel_rfl) (by kernel_rfl) rfl rfl (by decide) (fun a S => ?_)
        obtain ⟨r82, hx83, h⟩ := bindSome h
        refine sCall (X := Option Addr × Nat × Option Addr × Nat) (f := 12) (vs := [.agg #[.slice ad5 p0.Left.length cp6, .slice ad7 p0.Right.length cp8]]) (val := fun x => .tuple #[.agg #[.slice x.1 r82.1.Left.length x.2.1, .slice x.2.2.1 r82.1.Right.length x.2.2.2], .int .i64 r82.2]) (B' := fun x => [eRow (rI .i64) 3 (.slice x.1 r82.1.Left.length x.2.1) r82.1.Left, eRow (rI .i64) 3 (.slice x.2.2.1 r82.1.Right.length x.2.2.2) r82.1.Right]) (D' := fun _ => []) [] [eBox b80 36 [.slice ad76 r74.1.Left.length cp77, .slice ad78 r74.1.Right.length cp79], eRow (rI .i64) 3 (.slice ad76 r74.1.Left.length cp77) r74.1.Left, eRow (rI .i64) 3 (.slice ad78 r74.1.Right.length cp79) r74.1.Right, eBox b18 26 [.slice ad5 p0.Left.length cp6, .slice ad7 p0.Right.length cp8], eBox b19 36 [.slice ad13 p1.Left.length cp14, .slice ad15 p1.Right.length cp16], eRow (rI .i64) 3 (.slice ad32 o31.length cp33) o31, eRow (rI .i64) 3 (.slice ad35 o34.length cp36) o34] [fRep r_api_Shape (.agg #[.slice ad5 p0.Left.length cp6, .slice ad7 p0.Right.length cp8]) p0] [0, 1, 2, 3, 4, 5, 6] [0] S (wN rfl) rfl callee12 (by kernel_rfl) (by decide) (by kernel_rfl) (by kernel_rfl) (fun E1 w1 S1 => c_raddleref37_Make_s0 E1 w1 p0 (.agg #[.slice ad5 p0.Left.length cp6, .slice ad7 p0.Right.length cp8]) r82 hx83 S1) rfl (by decide) (fun xx a w S => ?_)
        obtain ⟨ad84, cp85, ad86, cp87⟩ := xx
        dsimp only at S
        refine sMove (.tuple #[.agg #[.slice ad84 r82.1.Left.length cp85, .slice ad86 r82.1.Right.length cp87], .int .i64 r82.2]) S (wN rfl) (.inl rfl) (by kernel_rfl) rfl (by decide) (fun a S => ?_)
        refine sExtract (vs := [.agg #[.slice ad84 r82.1.Left.length cp85, .slice ad86 r82.1.Right.length cp87], .int .i64 r82.2]) (.agg #[.slice ad84 r82.1.Left.length cp85, .slice ad86 r82.1.Right.length cp87]) S (wN rfl) rfl (by kernel_rfl) rfl rfl (by decide) (fun a S => ?_)
        refine sExtract (vs := [.agg #[.slice ad84 r82.1.Left.length cp85, .slice ad86 r82.1.Right.length cp87], .int .i64 r82.2]) (.int .i64 r82.2) S (wN rfl) rfl (by kernel_rfl) rfl rfl (by decide) (fun a S => ?_)
        refine sAlloc (.agg #[.slice none 0 0, .slice none 0 0]) S (wN rfl) rfl (by kernel_rfl) [.slice none 0 0, .slice none 0 0] rfl rfl (by decide) (fun a b88 w S => ?_)
        refine sStore (p := b88) (off := 0) (T := 36) (vs := [.slice none 0 0, .slice none 0 0]) (v := .agg #[.slice ad84 r82.1.Left.length cp85, .slice ad86 r82.1.Right.length cp87]) 0 [.slice ad84 r82.1.Left.length cp85, .slice ad86 r82.1.Right.length cp87] S (wN rfl) rfl (by kernel_rfl) (by kernel_rfl) rfl (by kernel_rfl) (by kernel_rfl) rfl (by simp) rfl (fun a w S => ?_)
        refine sMove (.int .i64 r82.2) S (wN rfl) (.inr rfl) (by kernel_rfl) rfl (by decide) (fun a S => ?_)
        refine leafL (leafT (hK81 _ _ ?_))
        refine sSeq (fun K89 hK89 => ?_)
        refine sRegion ?_
        refine sLoadN (p := b19) (off := 0) (T := 36) (vs := [.slice ad13 p1.Left.length cp14, .slice ad15 p1.Right.length cp16]) 7 [.slice ad13 p1.Left.length cp14, .slice ad15 p1.Right.length cp16] S (wN rfl) rfl (by kernel_rfl) (by kernel_rfl) (by kernel_rfl) (by kernel_rfl) rfl rfl (by decide) (fun a S => ?_)
        obtain ⟨r90, hx91, h⟩ := bindSome h
        have S := S.learn (fRep r_api_Piece (.agg #[.slice ad13 p1.Left.length cp14, .slice ad15 p1.Right.length cp16]) p1) ⟨_, _, rfl, S.mem.know (i := 3) (e := fRep (rL (rI .i64)) (.slice ad13 p1.Left.length cp14) p1.Left) (by kernel_rfl), S.mem.know (i := 4) (e := fRep (rL (rI .i64)) (.slice ad15 p1.Right.length cp16) p1.Right) (by kernel_rfl)⟩
        refine sCall (X := Option Addr × Nat) (f := 13) (vs := [.agg #[.slice ad13 p1.Left.length cp14, .slice ad15 p1.Right.length cp16]]) (val := fun x => .tuple #[.slice x.1 r90.1.length x.2, .int .i64 r90.2]) (B' := fun x => [eRow r_A2_Int 53 (.slice x.1 r90.1.length x.2) r90.1]) (D' := fun _ => []) [] [eBox b88 36 [.slice ad84 r82.1.Left.length cp85, .slice ad86 r82.1.Right.length cp87], eRow (rI .i64) 3 (.slice ad84 r82.1.Left.length cp85) r82.1.Left, eRow (rI .i64) 3 (.slice ad86 r82.1.Right.length cp87) r82.1.Right, eBox b80 36 [.slice ad76 r74.1.Left.length cp77, .slice ad78 r74.1.Right.length cp79], eRow (rI .i64) 3 (.slice ad76 r74.1.Left.length cp77) r74.1.Left, eRow (rI .i64) 3 (.slice ad78 r74.1.Right.length cp79) r74.1.Right, eBox b18 26 [.slice ad5 p0.Left.length cp6, .slice ad7 p0.Right.length cp8], eBox b19 36 [.slice ad13 p1.Left.length cp14, .slice ad15 p1.Right.length cp16], eRow (rI .i64) 3 (.slice ad32 o31.length cp33) o31, eRow (rI .i64) 3 (.slice ad35 o34.length cp36) o34] [fRep r_api_Piece (.agg #[.slice ad13 p1.Left.length cp14, .slice ad15 p1.Right.length cp16]) p1] [0, 1, 2, 3, 4, 5, 6, 7, 8, 9] [0] S (wN rfl) rfl callee13 (by kernel_rfl) (by decide) (by kernel_rfl) (by kernel_rfl) (fun E1 w1 S1 => c_piece_Changes_s0 E1 w1 p1 (.agg #[.slice ad13 p1.Left.length cp14, .slice ad15 p1.Right.length cp16]) r90 hx91 S1) rfl (by decide) (fun xx a w S => ?_)
        obtain ⟨ad92, cp93⟩ := xx
        dsimp only at S
        refine sMove (.tuple #[.slice ad92 r90.1.length cp93, .int .i64 r90.2]) S (wN rfl) (.inl rfl) (by kernel_rfl) rfl (by decide) (fun a S => ?_)
        refine sExtract (vs := [.slice ad92 r90.1.length cp93, .int .i64 r90.2]) (.slice ad92 r90.1.length cp93) S (wN rfl) rfl (by kernel_rfl) rfl rfl (by decide) (fun a S => ?_)
        refine sExtract (vs := [.slice ad92 r90.1.length cp93, .int .i64 r90.2]) (.int .i64 r90.2) S (wN rfl) rfl (by kernel_rfl) rfl rfl (by decide) (fun a S => ?_)
        refine sMove (.slice ad92 r90.1.length cp93) S (wN rfl) (.inr rfl) (by kernel_rfl) rfl (by decide) (fun a S => ?_)
        refine sMove (.int .i64 r90.2) S (wN rfl) (.inr rfl) (by kernel_rfl) rfl (by decide) (fun a S => ?_)
        refine leafL (leafT (hK89 _ _ ?_))
        refine sSeq (fun K94 hK94 => ?_)
        refine sRegion ?_
        refine sLoadN (p := b19) (off := 0) (T := 36) (vs := [.slice ad13 p1.Left.length cp14, .slice ad15 p1.Right.length cp16]) 8 [.slice ad13 p1.Left.length cp14, .slice ad15 p1.Right.length cp16] S (wN rfl) rfl (by kernel_rfl) (by kernel_rfl) (by kernel_rfl) (by kernel_rfl) rfl rfl (by decide) (fun a S => ?_)
        obtain ⟨r95, hx96, h⟩ := bindSome h
        refine sCall (X := Option Addr × Nat) (f := 14) (vs := [.agg #[.slice ad13 p1.Left.length cp14, .slice ad15 p1.Right.length cp16]]) (val := fun x => .tuple #[.slice x.1 r95.1.length x.2, .int .i64 r95.2]) (B' := fun x => [eRow r_A2_Int 53 (.slice x.1 r95.1.length x.2) r95.1]) (D' := fun _ => []) [] [eRow r_A2_Int 53 (.slice ad92 r90.1.length cp93) r90.1, eBox b88 36 [.slice ad84 r82.1.Left.length cp85, .slice ad86 r82.1.Right.length cp87], eRow (rI .i64) 3 (.slice ad84 r82.1.Left.length cp85) r82.1.Left, eRow (rI .i64) 3 (.slice ad86 r82.1.Right.length cp87) r82.1.Right, eBox b80 36 [.slice ad76 r74.1.Left.length cp77, .slice ad78 r74.1.Right.length cp79], eRow (rI .i64) 3 (.slice ad76 r74.1.Left.length cp77) r74.1.Left, eRow (rI .i64) 3 (.slice ad78 r74.1.Right.length cp79) r74.1.Right, eBox b18 26 [.slice ad5 p0.Left.length cp6, .slice ad7 p0.Right.length cp8], eBox b19 36 [.slice ad13 p1.Left.length cp14, .slice ad15 p1.Right.length cp16], eRow (rI .i64) 3 (.slice ad32 o31.length cp33) o31, eRow (rI .i64) 3 (.slice ad35 o34.length cp36) o34] [fRep r_api_Piece (.agg #[.slice ad13 p1.Left.length cp14, .slice ad15 p1.Right.length cp16]) p1] [0, 1, 2, 3, 4, 5, 6, 7, 8, 9, 10] [0] S (wN rfl) rfl callee14 (by kernel_rfl) (by decide) (by kernel_rfl) (by kernel_rfl) (fun E1 w1 S1 => c_raddleref37_Changes_s0 E1 w1 p1 (.agg #[.slice ad13 p1.Left.length cp14, .slice ad15 p1.Right.length cp16]) r95 hx96 S1) rfl (by decide) (fun xx a w S => ?_)
        obtain ⟨ad97, cp98⟩ := xx
        dsimp only at S
        refine sMove (.tuple #[.slice ad97 r95.1.length cp98, .int .i64 r95.2]) S (wN rfl) (.inl rfl) (by kernel_rfl) rfl (by decide) (fun a S => ?_)
        refine sExtract (vs := [.slice ad97 r95.1.length cp98, .int .i64 r95.2]) (.slice ad97 r95.1.length cp98) S (wN rfl) rfl (by kernel_rfl) rfl rfl (by decide) (fun a S => ?_)
        refine sExtract (vs := [.slice ad97 r95.1.length cp98, .int .i64 r95.2]) (.int .i64 r95.2) S (wN rfl) rfl (by kernel_rfl) rfl rfl (by decide) (fun a S => ?_)
        refine sMove (.slice ad97 r95.1.length cp98) S (wN rfl) (.inr rfl) (by kernel_rfl) rfl (by decide) (fun a S => ?_)
        refine sMove (.int .i64 r95.2) S (wN rfl) (.inr rfl) (by kernel_rfl) rfl (by decide) (fun a S => ?_)
        refine leafL (leafT (hK94 _ _ ?_))
        refine sSeq (fun K99 hK99 => ?_)
        refine sRegion ?_
        refine sLoadN (p := b19) (off := 0) (T := 36) (vs := [.slice ad13 p1.Left.length cp14, .slice ad15 p1.Right.length cp16]) 9 [.slice ad13 p1.Left.length cp14, .slice ad15 p1.Right.length cp16] S (wN rfl) rfl (by kernel_rfl) (by kernel_rfl) (by kernel_rfl) (by kernel_rfl) rfl rfl (by decide) (fun a S => ?_)
        obtain ⟨r100, hx101, h⟩ := bindSome h
        refine sCall (X := Option Addr × Nat × Option Addr × Nat) (f := 15) (vs := [.agg #[.slice ad13 p1.Left.length cp14, .slice ad15 p1.Right.length cp16]]) (val := fun x => .tuple #[.agg #[.slice x.1 r100.1.Left.length x.2.1, .slice x.2.2.1 r100.1.Right.length x.2.2.2], .int .i64 r100.2]) (B' := fun x => [eRow (rI .i64) 3 (.slice x.1 r100.1.Left.length x.2.1) r100.1.Left, eRow (rI .i64) 3 (.slice x.2.2.1 r100.1.Right.length x.2.2.2) r100.1.Right]) (D' := fun _ => []) [] [eRow r_A2_Int 53 (.slice ad97 r95.1.length cp98) r95.1, eRow r_A2_Int 53 (.slice ad92 r90.1.length cp93) r90.1, eBox b88 36 [.slice ad84 r82.1.Left.length cp85, .slice ad86 r82.1.Right.length cp87], eRow (rI .i64) 3 (.slice ad84 r82.1.Left.length cp85) r82.1.Left, eRow (rI .i64) 3 (.slice ad86 r82.1.Right.length cp87) r82.1.Right, eBox b80 36 [.slice ad76 r74.1.Left.length cp77, .slice ad78 r74.1.Right.length cp79], eRow (rI .i64) 3 (.slice ad76 r74.1.Left.length cp77) r74.1.Left, eRow (rI .i64) 3 (.slice ad78 r74.1.Right.length cp79) r74.1.Right, eBox b18 26 [.slice ad5 p0.Left.length cp6, .slice ad7 p0.Right.length cp8], eBox b19 36 [.slice ad13 p1.Left.length cp14, .slice ad15 p1.Right.length cp16], eRow (rI .i64) 3 (.slice ad32 o31.length cp33) o31, eRow (rI .i64) 3 (.slice ad35 o34.length cp36) o34] [fRep r_api_Piece (.agg #[.slice ad13 p1.Left.length cp14, .slice ad15 p1.Right.length cp16]) p1] [0, 1, 2, 3, 4, 5, 6, 7, 8, 9, 10, 11] [0] S (wN rfl) rfl callee15 (by kernel_rfl) (by decide) (by kernel_rfl) (by kernel_rfl) (fun E1 w1 S1 => c_piece_Mirror_s0 E1 w1 p1 (.agg #[.slice ad13 p1.Left.length cp14, .slice ad15 p1.Right.length cp16]) r100 hx101 S1) rfl (by decide) (fun xx a w S => ?_)
        obtain ⟨ad102, cp103, ad104, cp105⟩ := xx
        dsimp only at S
        refine sMove (.tuple #[.agg #[.slice ad102 r100.1.Left.length cp103, .slice ad104 r100.1.Right.length cp105], .int .i64 r100.2]) S (wN rfl) (.inl rfl) (by kernel_rfl) rfl (by decide) (fun a S => ?_)
        refine sExtract (vs := [.agg #[.slice ad102 r100.1.Left.length cp103, .slice ad104 r100.1.Right.length cp105], .int .i64 r100.2]) (.agg #[.slice ad102 r100.1.Left.length cp103, .slice ad104 r100.1.Right.length cp105]) S (wN rfl) rfl (by kernel_rfl) rfl rfl (by decide) (fun a S => ?_)
        refine sExtract (vs := [.agg #[.slice ad102 r100.1.Left.length cp103, .slice ad104 r100.1.Right.length cp105], .int .i64 r100.2]) (.int .i64 r100.2) S (wN rfl) rfl (by kernel_rfl) rfl rfl (by decide) (fun a S => ?_)
        refine sAlloc (.agg #[.slice none 0 0, .slice none 0 0]) S (wN rfl) rfl (by kernel_rfl) [.slice none 0 0, .slice none 0 0] rfl rfl (by decide) (fun a b106 w S => ?_)
        refine sStore (p := b106) (off := 0) (T := 36) (vs := [.slice none 0 0, .slice none 0 0]) (v := .agg #[.slice ad102 r100.1.Left.length cp103, .slice ad104 r100.1.Right.length cp105]) 0 [.slice ad102 r100.1.Left.length cp103, .slice ad104 r100.1.Right.length cp105] S (wN rfl) rfl (by kernel_rfl) (by kernel_rfl) rfl (by kernel_rfl) (by kernel_rfl) rfl (by simp) rfl (fun a w S => ?_)
        refine sMove (.int .i64 r100.2) S (wN rfl) (.inr rfl) (by kernel_rfl) rfl (by decide) (fun a S => ?_)
        refine leafL (leafT (hK99 _ _ ?_))
        refine sSeq (fun K107 hK107 => ?_)
        refine sRegion ?_
        refine sLoadN (p := b19) (off := 0) (T := 36) (vs := [.slice ad13 p1.Left.length cp14, .slice ad15 p1.Right.length cp16]) 12 [.slice ad13 p1.Left.length cp14, .slice ad15 p1.Right.length cp16] S (wN rfl) rfl (by kernel_rfl) (by kernel_rfl) (by kernel_rfl) (by kernel_rfl) rfl rfl (by decide) (fun a S => ?_)
        obtain ⟨r108, hx109, h⟩ := bindSome h
        refine sCall (X := Option Addr × Nat × Option Addr × Nat) (f := 16) (vs := [.agg #[.slice ad13 p1.Left.length cp14, .slice ad15 p1.Right.length cp16]]) (val := fun x => .tuple #[.agg #[.slice x.1 r108.1.Left.length x.2.1, .slice x.2.2.1 r108.1.Right.length x.2.2.2], .int .i64 r108.2]) (B' := fun x => [eRow (rI .i64) 3 (.slice x.1 r108.1.Left.length x.2.1) r108.1.Left, eRow (rI .i64) 3 (.slice x.2.2.1 r108.1.Right.length x.2.2.2) r108.1.Right]) (D' := fun _ => []) [] [eBox b106 36 [.slice ad102 r100.1.Left.length cp103, .slice ad104 r100.1.Right.length cp105], eRow (rI .i64) 3 (.slice ad102 r100.1.Left.length cp103) r100.1.Left, eRow (rI .i64) 3 (.slice ad104 r100.1.Right.length cp105) r100.1.Right, eRow r_A2_Int 53 (.slice ad97 r95.1.length cp98) r95.1, eRow r_A2_Int 53 (.slice ad92 r90.1.length cp93) r90.1, eBox b88 36 [.slice ad84 r82.1.Left.length cp85, .slice ad86 r82.1.Right.length cp87], eRow (rI .i64) 3 (.slice ad84 r82.1.Left.length cp85) r82.1.Left, eRow (rI .i64) 3 (.slice ad86 r82.1.Right.length cp87) r82.1.Right, eBox b80 36 [.slice ad76 r74.1.Left.length cp77, .slice ad78 r74.1.Right.length cp79], eRow (rI .i64) 3 (.slice ad76 r74.1.Left.length cp77) r74.1.Left, eRow (rI .i64) 3 (.slice ad78 r74.1.Right.length cp79) r74.1.Right, eBox b18 26 [.slice ad5 p0.Left.length cp6, .slice ad7 p0.Right.length cp8], eBox b19 36 [.slice ad13 p1.Left.length cp14, .slice ad15 p1.Right.length cp16], eRow (rI .i64) 3 (.slice ad32 o31.length cp33) o31, eRow (rI .i64) 3 (.slice ad35 o34.length cp36) o34] [fRep r_api_Piece (.agg #[.slice ad13 p1.Left.length cp14, .slice ad15 p1.Right.length cp16]) p1] [0, 1, 2, 3, 4, 5, 6, 7, 8, 9, 10, 11, 12, 13, 14] [0] S (wN rfl) rfl callee16 (by kernel_rfl) (by decide) (by kernel_rfl) (by kernel_rfl) (fun E1 w1 S1 => c_raddleref37_Mirror_s0 E1 w1 p1 (.agg #[.slice ad13 p1.Left.length cp14, .slice ad15 p1.Right.length cp16]) r108 hx109 S1) rfl (by decide) (fun xx a w S => ?_)
        obtain ⟨ad110, cp111, ad112, cp113⟩ := xx
        dsimp only at S
        refine sMove (.tuple #[.agg #[.slice ad110 r108.1.Left.length cp111, .slice ad112 r108.1.Right.length cp113], .int .i64 r108.2]) S (wN rfl) (.inl rfl) (by kernel_rfl) rfl (by decide) (fun a S => ?_)
        refine sExtract (vs := [.agg #[.slice ad110 r108.1.Left.length cp111, .slice ad112 r108.1.Right.length cp113], .int .i64 r108.2]) (.agg #[.slice ad110 r108.1.Left.length cp111, .slice ad112 r108.1.Right.length cp113]) S (wN rfl) rfl (by kernel_rfl) rfl rfl (by decide) (fun a S => ?_)
        refine sExtract (vs := [.agg #[.slice ad110 r108.1.Left.length cp111, .slice ad112 r108.1.Right.length cp113], .int .i64 r108.2]) (.int .i64 r108.2) S (wN rfl) rfl (by kernel_rfl) rfl rfl (by decide) (fun a S => ?_)
        refine sAlloc (.agg #[.slice none 0 0, .slice none 0 0]) S (wN rfl) rfl (by kernel_rfl) [.slice none 0 0, .slice none 0 0] rfl rfl (by decide) (fun a b114 w S => ?_)
        refine sStore (p := b114) (off := 0) (T := 36) (vs := [.slice none 0 0, .slice none 0 0]) (v := .agg #[.slice ad110 r108.1.Left.length cp111, .slice ad112 r108.1.Right.length cp113]) 0 [.slice ad110 r108.1.Left.length cp111, .slice ad112 r108.1.Right.length cp113] S (wN rfl) rfl (by kernel_rfl) (by kernel_rfl) rfl (by kernel_rfl) (by kernel_rfl) rfl (by simp) rfl (fun a w S => ?_)
        refine sMove (.int .i64 r108.2) S (wN rfl) (.inr rfl) (by kernel_rfl) rfl (by decide) (fun a S => ?_)
        refine leafL (leafT (hK107 _ _ ?_))
        refine sSeq (fun K115 hK115 => ?_)
        obtain ⟨t117, h, g118⟩ := bindSome h
        refine sCut (fun a w => ∃ o116, o116 = t117 ∧ St E [] w0 151 a w [(3, .pointer (some ⟨b19, 0, none⟩)), (5, .slice ad32 o31.length cp33), (6, .slice ad35 o34.length cp36), (11, .slice ad92 r90.1.length cp93), (13, .slice ad97 r95.1.length cp98), (15, .pointer (some ⟨b106, 0, none⟩)), (103, .bool o116)] [eBox b19 36 [.slice ad13 p1.Left.length cp14, .slice ad15 p1.Right.length cp16], eBox b106 36 [.slice ad102 r100.1.Left.length cp103, .slice ad104 r100.1.Right.length cp105], eRow (rI .i64) 3 (.slice ad32 o31.length cp33) o31, eRow (rI .i64) 3 (.slice ad35 o34.length cp36) o34, eRow r_A2_Int 53 (.slice ad92 r90.1.length cp93) r90.1, eRow r_A2_Int 53 (.slice ad97 r95.1.length cp98) r95.1, eRow (rI .i64) 3 (.slice ad102 r100.1.Left.length cp103) r100.1.Left, eRow (rI .i64) 3 (.slice ad104 r100.1.Right.length cp105) r100.1.Right] [fRep (rL (rI .i64)) (.slice ad13 p1.Left.length cp14) p1.Left, fRep (rL (rI .i64)) (.slice ad15 p1.Right.length cp16) p1.Right]) ?_ (fun a w hI => ?_)
        · obtain ⟨r119, hx120, h⟩ := bindSome h
          obtain ⟨r121, hx122, h⟩ := bindSome h
          rcases iteSome h with ⟨hc123, h⟩ | ⟨hc123, h⟩
          · refine sDraw (nf := []) (W := [(0, 65, .agg #[.slice ad13 p1.Left.length cp14, .slice ad15 p1.Right.length cp16]), (1, 66, .int .i64 r119), (2, 67, .agg #[.slice ad13 p1.Left.length cp14, .slice ad15 p1.Right.length cp16]), (3, 68, .int .i64 r121), (4, 69, .bool (r119 != r121)), (5, 70, .bool (r119 != r121)), (6, 71, undef), (7, 72, undef), (8, 73, undef), (9, 74, undef), (10, 75, .bool true), (11, 76, .bool true), (12, 77, undef), (13, 78, undef), (14, 79, undef), (15, 80, .bool true), (16, 81, .bool true), (17, 82, undef), (18, 83, undef), (19, 84, undef), (20, 85, undef), (21, 86, undef), (22, 87, .bool true), (23, 88, .bool true), (24, 89, undef), (25, 90, undef), (26, 91, undef), (27, 92, .bool true), (28, 93, .bool true), (29, 94, undef), (30, 95, undef), (31, 96, undef), (32, 97, undef), (33, 98, .bool true), (34, 99, .bool true), (35, 100, undef), (36, 101, undef), (37, 102, undef), (38, 103, .bool true)]) (by kernel_rfl) S ?_
            refine node_by (A := anc_raddlelaw37_PieceMakes_1) (nf := []) (Y := []) (W := [(0, 65, .agg #[.slice ad13 p1.Left.length cp14, .slice ad15 p1.Right.length cp16]), (1, 66, .int .i64 r119), (2, 67, .agg #[.slice ad13 p1.Left.length cp14, .slice ad15 p1.Right.length cp16]), (3, 68, .int .i64 r121), (4, 69, .bool (r119 != r121)), (5, 70, .bool (r119 != r121)), (6, 71, undef), (7, 72, undef), (8, 73, undef), (9, 74, undef), (10, 75, .bool true), (11, 76, .bool true), (12, 77, undef), (13, 78, undef), (14, 79, undef), (15, 80, .bool true), (16, 81, .bool true), (17, 82, undef), (18, 83, undef), (19, 84, undef), (20, 85, undef), (21, 86, undef), (22, 87, .bool true), (23, 88, .bool true), (24, 89, undef), (25, 90, undef), (26, 91, undef), (27, 92, .bool true), (28, 93, .bool true), (29, 94, undef), (30, 95, undef), (31, 96, undef), (32, 97, undef), (33, 98, .bool true), (34, 99, .bool true), (35, 100, undef), (36, 101, undef), (37, 102, undef), (38, 103, .bool true)]) 39 (by kernel_rfl) (by kernel_rfl) (by kernel_rfl) (by kernel_rfl) (by kernel_rfl) [0, 1, 2, 3, 4, 5, 6, 7, 8, 9, 10, 11, 12, 13, 14, 15, 16, 17, 18, 19, 20, 21, 22, 23, 24, 25, 26, 27, 28, 29, 30, 31, 32, 33, 34, 35, 36, 37, 38] (by kernel_rfl) (by decide) (by decide) (aF 0 38 (by decide) ?_ (aF 1 37 (by decide) ?_ (aF 2 36 (by decide) ?_ (aF 3 35 (by decide) ?_ (aF 4 34 (by decide) ?_ (aF 5 33 (by decide) ?_ (aF 6 32 (by decide) ?_ (aF 7 31 (by decide) ?_ (aF 8 30 (by decide) ?_ (aF 9 29 (by decide) ?_ (aF 10 28 (by decide) ?_ (aF 11 27 (by decide) ?_ (aF 12 26 (by decide) ?_ (aF 13 25 (by decide) ?_ (aF 14 24 (by decide) ?_ (aF 15 23 (by decide) ?_ (aF 16 22 (by decide) ?_ (aF 17 21 (by decide) ?_ (aF 18 20 (by decide) ?_ (aF 19 19 (by decide) ?_ (aF 20 18 (by decide) ?_ (aF 21 17 (by decide) ?_ (aF 22 16 (by decide) ?_ (aF 23 15 (by decide) ?_ (aF 24 14 (by decide) ?_ (aF 25 13 (by decide) ?_ (aF 26 12 (by decide) ?_ (aF 27 11 (by decide) ?_ (aF 28 10 (by decide) ?_ (aF 29 9 (by decide) ?_ (aF 30 8 (by decide) ?_ (aF 31 7 (by decide) ?_ (aF 32 6 (by decide) ?_ (aF 33 5 (by decide) ?_ (aF 34 4 (by decide) ?_ (aF 35 3 (by decide) ?_ (aF 36 2 (by decide) ?_ (aF 37 1 (by decide) ?_ (aF 38 0 (by decide) ?_ (trivial)))))))))))))))))))))))))))))))))))))))) [(3, .pointer (some ⟨b19, 0, none⟩)), (5, .slice ad32 o31.length cp33), (6, .slice ad35 o34.length cp36), (11, .slice ad92 r90.1.length cp93), (13, .slice ad97 r95.1.length cp98), (15, .pointer (some ⟨b106, 0, none⟩)), (103, .bool true)] (fin_of [none, none, none, none, none, none, some 38] rfl (by kernel_rfl) (by kernel_rfl)) (fun _ a w S => ?_)
            · refine fI 65 (.agg #[.slice ad13 p1.Left.length cp14, .slice ad15 p1.Right.length cp16]) [(3, .pointer (some ⟨b19, 0, none⟩))] 0 [none] rfl rfl (by kernel_rfl) rfl (by kernel_rfl) (by kernel_rfl) fun G a w S => ?_
              refine sLoadN (p := b19) (off := 0) (T := 36) (vs := [.slice ad13 p1.Left.length cp14, .slice ad15 p1.Right.length cp16]) 15 [.slice ad13 p1.Left.length cp14, .slice ad15 p1.Right.length cp16] S (wN rfl) rfl (by kernel_rfl) (by kernel_rfl) (by kernel_rfl) (by kernel_rfl) rfl rfl (by decide) (fun a S => ?_)
              exact leafL ⟨rfl, S⟩
            · refine fI 66 (.int .i64 r119) [(65, .agg #[.slice ad13 p1.Left.length cp14, .slice ad15 p1.Right.length cp16])] 1 [some 0] rfl rfl (by kernel_rfl) rfl (by kernel_rfl) (by kernel_rfl) fun G a w S => ?_
              have S1 := S.mem
              refine sCallQ (X := Unit) (f := 17) (vs := [.agg #[.slice ad13 p1.Left.length cp14, .slice ad15 p1.Right.length cp16]]) (val := fun _ => .int .i64 r119) S (wN rfl) rfl callee17 (by kernel_rfl) (S1.quiet [0] (by kernel_rfl)) (fun E1 w1 S1 => c_piece_Check E1 w1 p1 (.agg #[.slice ad13 p1.Left.length cp14, .slice ad15 p1.Right.length cp16]) r119 hx120 S1) rfl (by decide) (fun _ a w S => ?_)
              exact leafL ⟨rfl, S⟩
            · refine fI 67 (.agg #[.slice ad13 p1.Left.length cp14, .slice ad15 p1.Right.length cp16]) [(3, .pointer (some ⟨b19, 0, none⟩))] 2 [none] rfl rfl (by kernel_rfl) rfl (by kernel_rfl) (by kernel_rfl) fun G a w S => ?_
              refine sLoadN (p := b19) (off := 0) (T := 36) (vs := [.slice ad13 p1.Left.length cp14, .slice ad15 p1.Right.length cp16]) 15 [.slice ad13 p1.Left.length cp14, .slice ad15 p1.Right.length cp16] S (wN rfl) rfl (by kernel_rfl) (by kernel_rfl) (by kernel_rfl) (by kernel_rfl) rfl rfl (by decide) (fun a S => ?_)
              exact leafL ⟨rfl, S⟩
            · refine fI 68 (.int .i64 r121) [(67, .agg #[.slice ad13 p1.Left.length cp14, .slice ad15 p1.Right.length cp16])] 3 [some 2] rfl rfl (by kernel_rfl) rfl (by kernel_rfl) (by kernel_rfl) fun G a w S => ?_
              have S1 := S.mem
              refine sCallQ (X := Unit) (f := 18) (vs := [.agg #[.slice ad13 p1.Left.length cp14, .slice ad15 p1.Right.length cp16]]) (val := fun _ => .int .i64 r121) S (wN rfl) rfl callee18 (by kernel_rfl) (S1.quiet [0] (by kernel_rfl)) (fun E1 w1 S1 => c_raddleref37_Check E1 w1 p1 (.agg #[.slice ad13 p1.Left.length cp14, .slice ad15 p1.Right.length cp16]) r121 hx122 S1) rfl (by decide) (fun _ a w S => ?_)
              exact leafL ⟨rfl, S⟩
            · refine fI 69 (.bool (r119 != r121)) [(66, .int .i64 r119), (68, .int .i64 r121)] 4 [some 1, some 3] rfl rfl (by kernel_rfl) rfl (by kernel_rfl) (by kernel_rfl) fun G a w S => ?_
              refine sBin (.bool (r119 != r121)) S (wN rfl) rfl (by kernel_rfl) (by kernel_rfl) (bNe _ _ _ _ .i64 r119 r121) rfl (by decide) (fun a S => ?_)
              exact leafL ⟨rfl, S⟩
            · refine fI 70 (.bool (r119 != r121)) [(69, .bool (r119 != r121))] 5 [some 4] rfl rfl (by kernel_rfl) rfl (by kernel_rfl) (by kernel_rfl) fun G a w S => ?_
              refine sMove (.bool (r119 != r121)) S (wN rfl) (.inl rfl) (by kernel_rfl) rfl (by decide) (fun a S => ?_)
              exact leafL ⟨rfl, S⟩
            · refine fI 71 undef [(7, .pointer (some ⟨b80, 0, none⟩)), (70, .bool (r119 != r121))] 6 [none, some 5] rfl rfl (by kernel_rfl) rfl (by kernel_rfl) (by kernel_rfl) fun G a w S => ?_
              refine sSkip (c := r119 != r121) 5 false 70 71 S rfl rfl (by kernel_rfl) hc123 rfl (by decide) (fun a S => ?_)
              exact leafL ⟨rfl, S⟩
            · refine fI 72 undef [(9, .pointer (some ⟨b88, 0, none⟩)), (70, .bool (r119 != r121))] 7 [none, some 5] rfl rfl (by kernel_rfl) rfl (by kernel_rfl) (by kernel_rfl) fun G a w S => ?_
              refine sSkip (c := r119 != r121) 5 false 70 72 S rfl rfl (by kernel_rfl) hc123 rfl (by decide) (fun a S => ?_)
              exact leafL ⟨rfl, S⟩
            · refine fI 73 undef [(71, undef), (72, undef), (70, .bool (r119 != r121))] 8 [some 6, some 7, some 5] rfl rfl (by kernel_rfl) rfl (by kernel_rfl) (by kernel_rfl) fun G a w S => ?_
              refine sSkip (c := r119 != r121) 5 false 70 73 S rfl rfl (by kernel_rfl) hc123 rfl (by decide) (fun a S => ?_)
              exact leafL ⟨rfl, S⟩
            · refine fI 74 undef [(73, undef), (70, .bool (r119 != r121))] 9 [some 8, some 5] rfl rfl (by kernel_rfl) rfl (by kernel_rfl) (by kernel_rfl) fun G a w S => ?_
              refine sSkip (c := r119 != r121) 5 false 70 74 S rfl rfl (by kernel_rfl) hc123 rfl (by decide) (fun a S => ?_)
              exact leafL ⟨rfl, S⟩
            · refine fI 75 (.bool true) [(70, .bool (r119 != r121)), (74, undef)] 10 [some 5, some 9] rfl rfl (by kernel_rfl) rfl (by kernel_rfl) (by kernel_rfl) fun G a w S => ?_
              refine sPickT (b := r119 != r121) (.bool true) S (wN rfl) rfl (by kernel_rfl) hc123 (by kernel_rfl) rfl (by decide) (fun a S => ?_)
              exact leafL ⟨rfl, S⟩
            · refine fI 76 (.bool true) [(75, .bool true)] 11 [some 10] rfl rfl (by kernel_rfl) rfl (by kernel_rfl) (by kernel_rfl) fun G a w S => ?_
              refine sMove (.bool true) S (wN rfl) (.inl rfl) (by kernel_rfl) rfl (by decide) (fun a S => ?_)
              exact leafL ⟨rfl, S⟩
            · refine fI 77 undef [(8, .int .i64 r74.2), (76, .bool true)] 12 [none, some 11] rfl rfl (by kernel_rfl) rfl (by kernel_rfl) (by kernel_rfl) fun G a w S => ?_
              refine sSkip (c := true) 11 false 76 77 S rfl rfl (by kernel_rfl) rfl rfl (by decide) (fun a S => ?_)
              exact leafL ⟨rfl, S⟩
            · refine fI 78 undef [(10, .int .i64 r82.2), (76, .bool true)] 13 [none, some 11] rfl rfl (by kernel_rfl) rfl (by kernel_rfl) (by kernel_rfl) fun G a w S => ?_
              refine sSkip (c := true) 11 false 76 78 S rfl rfl (by kernel_rfl) rfl rfl (by decide) (fun a S => ?_)
              exact leafL ⟨rfl, S⟩
            · refine fI 79 undef [(77, undef), (78, undef), (76, .bool true)] 14 [some 12, some 13, some 11] rfl rfl (by kernel_rfl) rfl (by kernel_rfl) (by kernel_rfl) fun G a w S => ?_
              refine sSkip (c := true) 11 false 76 79 S rfl rfl (by kernel_rfl) rfl rfl (by decide) (fun a S => ?_)
              exact leafL ⟨rfl, S⟩
            · refine fI 80 (.bool true) [(76, .bool true), (79, undef)] 15 [some 11, some 14] rfl rfl (by kernel_rfl) rfl (by kernel_rfl) (by kernel_rfl) fun G a w S => ?_
              refine sPickT (b := true) (.bool true) S (wN rfl) rfl (by kernel_rfl) rfl (by kernel_rfl) rfl (by decide) (fun a S => ?_)
              exact leafL ⟨rfl, S⟩
            · refine fI 81 (.bool true) [(80, .bool true)] 16 [some 15] rfl rfl (by kernel_rfl) rfl (by kernel_rfl) (by kernel_rfl) fun G a w S => ?_
              refine sMove (.bool true) S (wN rfl) (.inl rfl) (by kernel_rfl) rfl (by decide) (fun a S => ?_)
              exact leafL ⟨rfl, S⟩
            · refine fI 82 undef [(11, .slice ad92 r90.1.length cp93), (81, .bool true)] 17 [none, some 16] rfl rfl (by kernel_rfl) rfl (by kernel_rfl) (by kernel_rfl) fun G a w S => ?_
              refine sSkip (c := true) 16 false 81 82 S rfl rfl (by kernel_rfl) rfl rfl (by decide) (fun a S => ?_)
              exact leafL ⟨rfl, S⟩
            · refine fI 83 undef [(82, undef), (81, .bool true)] 18 [some 17, some 16] rfl rfl (by kernel_rfl) rfl (by kernel_rfl) (by kernel_rfl) fun G a w S => ?_
              refine sSkip (c := true) 16 false 81 83 S rfl rfl (by kernel_rfl) rfl rfl (by decide) (fun a S => ?_)
              exact leafL ⟨rfl, S⟩
            · refine fI 84 undef [(13, .slice ad97 r95.1.length cp98), (81, .bool true)] 19 [none, some 16] rfl rfl (by kernel_rfl) rfl (by kernel_rfl) (by kernel_rfl) fun G a w S => ?_
              refine sSkip (c := true) 16 false 81 84 S rfl rfl (by kernel_rfl) rfl rfl (by decide) (fun a S => ?_)
              exact leafL ⟨rfl, S⟩
            · refine fI 85 undef [(84, undef), (81, .bool true)] 20 [some 19, some 16] rfl rfl (by kernel_rfl) rfl (by kernel_rfl) (by kernel_rfl) fun G a w S => ?_
              refine sSkip (c := true) 16 false 81 85 S rfl rfl (by kernel_rfl) rfl rfl (by decide) (fun a S => ?_)
              exact leafL ⟨rfl, S⟩
            · refine fI 86 undef [(83, undef), (85, undef), (81, .bool true)] 21 [some 18, some 20, some 16] rfl rfl (by kernel_rfl) rfl (by kernel_rfl) (by kernel_rfl) fun G a w S => ?_
              refine sSkip (c := true) 16 false 81 86 S rfl rfl (by kernel_rfl) rfl rfl (by decide) (fun a S => ?_)
              exact leafL ⟨rfl, S⟩
            · refine fI 87 (.bool true) [(81, .bool true), (86, undef)] 22 [some 16, some 21] rfl rfl (by kernel_rfl) rfl (by kernel_rfl) (by kernel_rfl) fun G a w S => ?_
              refine sPickT (b := true) (.bool true) S (wN rfl) rfl (by kernel_rfl) rfl (by kernel_rfl) rfl (by decide) (fun a S => ?_)
              exact leafL ⟨rfl, S⟩
            · refine fI 88 (.bool true) [(87, .bool true)] 23 [some 22] rfl rfl (by kernel_rfl) rfl (by kernel_rfl) (by kernel_rfl) fun G a w S => ?_
              refine sMove (.bool true) S (wN rfl) (.inl rfl) (by kernel_rfl) rfl (by decide) (fun a S => ?_)
              exact leafL ⟨rfl, S⟩
            · refine fI 89 undef [(12, .int .i64 r90.2), (88, .bool true)] 24 [none, some 23] rfl rfl (by kernel_rfl) rfl (by kernel_rfl) (by kernel_rfl) fun G a w S => ?_
              refine sSkip (c := true) 23 false 88 89 S rfl rfl (by kernel_rfl) rfl rfl (by decide) (fun a S => ?_)
              exact leafL ⟨rfl, S⟩
            · refine fI 90 undef [(14, .int .i64 r95.2), (88, .bool true)] 25 [none, some 23] rfl rfl (by kernel_rfl) rfl (by kernel_rfl) (by kernel_rfl) fun G a w S => ?_
              refine sSkip (c := true) 23 false 88 90 S rfl rfl (by kernel_rfl) rfl rfl (by decide) (fun a S => ?_)
              exact leafL ⟨rfl, S⟩
            · refine fI 91 undef [(89, undef), (90, undef), (88, .bool true)] 26 [some 24, some 25, some 23] rfl rfl (by kernel_rfl) rfl (by kernel_rfl) (by kernel_rfl) fun G a w S => ?_
              refine sSkip (c := true) 23 false 88 91 S rfl rfl (by kernel_rfl) rfl rfl (by decide) (fun a S => ?_)
              exact leafL ⟨rfl, S⟩
            · refine fI 92 (.bool true) [(88, .bool true), (91, undef)] 27 [some 23, some 26] rfl rfl (by kernel_rfl) rfl (by kernel_rfl) (by kernel_rfl) fun G a w S => ?_
              refine sPickT (b := true) (.bool true) S (wN rfl) rfl (by kernel_rfl) rfl (by kernel_rfl) rfl (by decide) (fun a S => ?_)
              exact leafL ⟨rfl, S⟩
            · refine fI 93 (.bool true) [(92, .bool true)] 28 [some 27] rfl rfl (by kernel_rfl) rfl (by kernel_rfl) (by kernel_rfl) fun G a w S => ?_
              refine sMove (.bool true) S (wN rfl) (.inl rfl) (by kernel_rfl) rfl (by decide) (fun a S => ?_)
              exact leafL ⟨rfl, S⟩
            · refine fI 94 undef [(15, .pointer (some ⟨b106, 0, none⟩)), (93, .bool true)] 29 [none, some 28] rfl rfl (by kernel_rfl) rfl (by kernel_rfl) (by kernel_rfl) fun G a w S => ?_
              refine sSkip (c := true) 28 false 93 94 S rfl rfl (by kernel_rfl) rfl rfl (by decide) (fun a S => ?_)
              exact leafL ⟨rfl, S⟩
            · refine fI 95 undef [(17, .pointer (some ⟨b114, 0, none⟩)), (93, .bool true)] 30 [none, some 28] rfl rfl (by kernel_rfl) rfl (by kernel_rfl) (by kernel_rfl) fun G a w S => ?_
              refine sSkip (c := true) 28 false 93 95 S rfl rfl (by kernel_rfl) rfl rfl (by decide) (fun a S => ?_)
              exact leafL ⟨rfl, S⟩
            · refine fI 96 undef [(94, undef), (95, undef), (93, .bool true)] 31 [some 29, some 30, some 28] rfl rfl (by kernel_rfl) rfl (by kernel_rfl) (by kernel_rfl) fun G a w S => ?_
              refine sSkip (c := true) 28 false 93 96 S rfl rfl (by kernel_rfl) rfl rfl (by decide) (fun a S => ?_)
              exact leafL ⟨rfl, S⟩
            · refine fI 97 undef [(96, undef), (93, .bool true)] 32 [some 31, some 28] rfl rfl (by kernel_rfl) rfl (by kernel_rfl) (by kernel_rfl) fun G a w S => ?_
              refine sSkip (c := true) 28 false 93 97 S rfl rfl (by kernel_rfl) rfl rfl (by decide) (fun a S => ?_)
              exact leafL ⟨rfl, S⟩
            · refine fI 98 (.bool true) [(93, .bool true), (97, undef)] 33 [some 28, some 32] rfl rfl (by kernel_rfl) rfl (by kernel_rfl) (by kernel_rfl) fun G a w S => ?_
              refine sPickT (b := true) (.bool true) S (wN rfl) rfl (by kernel_rfl) rfl (by kernel_rfl) rfl (by decide) (fun a S => ?_)
              exact leafL ⟨rfl, S⟩
            · refine fI 99 (.bool true) [(98, .bool true)] 34 [some 33] rfl rfl (by kernel_rfl) rfl (by kernel_rfl) (by kernel_rfl) fun G a w S => ?_
              refine sMove (.bool true) S (wN rfl) (.inl rfl) (by kernel_rfl) rfl (by decide) (fun a S => ?_)
              exact leafL ⟨rfl, S⟩
            · refine fI 100 undef [(16, .int .i64 r100.2), (99, .bool true)] 35 [none, some 34] rfl rfl (by kernel_rfl) rfl (by kernel_rfl) (by kernel_rfl) fun G a w S => ?_
              refine sSkip (c := true) 34 false 99 100 S rfl rfl (by kernel_rfl) rfl rfl (by decide) (fun a S => ?_)
              exact leafL ⟨rfl, S⟩
            · refine fI 101 undef [(18, .int .i64 r108.2), (99, .bool true)] 36 [none, some 34] rfl rfl (by kernel_rfl) rfl (by kernel_rfl) (by kernel_rfl) fun G a w S => ?_
              refine sSkip (c := true) 34 false 99 101 S rfl rfl (by kernel_rfl) rfl rfl (by decide) (fun a S => ?_)
              exact leafL ⟨rfl, S⟩
            · refine fI 102 undef [(100, undef), (101, undef), (99, .bool true)] 37 [some 35, some 36, some 34] rfl rfl (by kernel_rfl) rfl (by kernel_rfl) (by kernel_rfl) fun G a w S => ?_
              refine sSkip (c := true) 34 false 99 102 S rfl rfl (by kernel_rfl) rfl rfl (by decide) (fun a S => ?_)
              exact leafL ⟨rfl, S⟩
            · refine fI 103 (.bool true) [(99, .bool true), (102, undef)] 38 [some 34, some 37] rfl rfl (by kernel_rfl) rfl (by kernel_rfl) (by kernel_rfl) fun G a w S => ?_
              refine sPickT (b := true) (.bool true) S (wN rfl) rfl (by kernel_rfl) rfl (by kernel_rfl) rfl (by decide) (fun a S => ?_)
              exact leafL ⟨rfl, S⟩
            · exact leafT (⟨true, Option.some.inj h, S.fix [15, 3, 16, 17, 7, 6, 4, 5] [4, 5] (by decide) (by kernel_rfl) (by kernel_rfl) (by kernel_rfl)⟩)
          · obtain ⟨r124, hx125, h⟩ := bindSome h
            rcases iteSome h with ⟨hc126, h⟩ | ⟨hc126, h⟩
            · refine sDraw (nf := []) (W := [(0, 65, .agg #[.slice ad13 p1.Left.length cp14, .slice ad15 p1.Right.length cp16]), (1, 66, .int .i64 r119), (2, 67, .agg #[.slice ad13 p1.Left.length cp14, .slice ad15 p1.Right.length cp16]), (3, 68, .int .i64 r121), (4, 69, .bool (r119 != r121)), (5, 70, .bool (r119 != r121)), (6, 71, .agg #[.slice ad76 r74.1.Left.length cp77, .slice ad78 r74.1.Right.length cp79]), (7, 72, .agg #[.slice ad84 r82.1.Left.length cp85, .slice ad86 r82.1.Right.length cp87]), (8, 73, .bool r124), (9, 74, .bool (!r124)), (10, 75, .bool (!r124)), (11, 76, .bool (!r124)), (12, 77, undef), (13, 78, undef), (14, 79, undef), (15, 80, .bool true), (16, 81, .bool true), (17, 82, undef), (18, 83, undef), (19, 84, undef), (20, 85, undef), (21, 86, undef), (22, 87, .bool true), (23, 88, .bool true), (24, 89, undef), (25, 90, undef), (26, 91, undef), (27, 92, .bool true), (28, 93, .bool true), (29, 94, undef), (30, 95, undef), (31, 96, undef), (32, 97, undef), (33, 98, .bool true), (34, 99, .bool true), (35, 100, undef), (36, 101, undef), (37, 102, undef), (38, 103, .bool true)]) (by kernel_rfl) S ?_
              refine node_by (A := anc_raddlelaw37_PieceMakes_1) (nf := []) (Y := []) (W := [(0, 65, .agg #[.slice ad13 p1.Left.length cp14, .slice ad15 p1.Right.length cp16]), (1, 66, .int .i64 r119), (2, 67, .agg #[.slice ad13 p1.Left.length cp14, .slice ad15 p1.Right.length cp16]), (3, 68, .int .i64 r121), (4, 69, .bool (r119 != r121)), (5, 70, .bool (r119 != r121)), (6, 71, .agg #[.slice ad76 r74.1.Left.length cp77, .slice ad78 r74.1.Right.length cp79]), (7, 72, .agg #[.slice ad84 r82.1.Left.length cp85, .slice ad86 r82.1.Right.length cp87]), (8, 73, .bool r124), (9, 74, .bool (!r124)), (10, 75, .bool (!r124)), (11, 76, .bool (!r124)), (12, 77, undef), (13, 78, undef), (14, 79, undef), (15, 80, .bool true), (16, 81, .bool true), (17, 82, undef), (18, 83, undef), (19, 84, undef), (20, 85, undef), (21, 86, undef), (22, 87, .bool true), (23, 88, .bool true), (24, 89, undef), (25, 90, undef), (26, 91, undef), (27, 92, .bool true), (28, 93, .bool true), (29, 94, undef), (30, 95, undef), (31, 96, undef), (32, 97, undef), (33, 98, .bool true), (34, 99, .bool true), (35, 100, undef), (36, 101, undef), (37, 102, undef), (38, 103, .bool true)]) 39 (by kernel_rfl) (by kernel_rfl) (by kernel_rfl) (by kernel_rfl) (by kernel_rfl) [0, 1, 2, 3, 4, 5, 6, 7, 8, 9, 10, 11, 12, 13, 14, 15, 16, 17, 18, 19, 20, 21, 22, 23, 24, 25, 26, 27, 28, 29, 30, 31, 32, 33, 34, 35, 36, 37, 38] (by kernel_rfl) (by decide) (by decide) (aF 0 38 (by decide) ?_ (aF 1 37 (by decide) ?_ (aF 2 36 (by decide) ?_ (aF 3 35 (by decide) ?_ (aF 4 34 (by decide) ?_ (aF 5 33 (by decide) ?_ (aF 6 32 (by decide) ?_ (aF 7 31 (by decide) ?_ (aF 8 30 (by decide) ?_ (aF 9 29 (by decide) ?_ (aF 10 28 (by decide) ?_ (aF 11 27 (by decide) ?_ (aF 12 26 (by decide) ?_ (aF 13 25 (by decide) ?_ (aF 14 24 (by decide) ?_ (aF 15 23 (by decide) ?_ (aF 16 22 (by decide) ?_ (aF 17 21 (by decide) ?_ (aF 18 20 (by decide) ?_ (aF 19 19 (by decide) ?_ (aF 20 18 (by decide) ?_ (aF 21 17 (by decide) ?_ (aF 22 16 (by decide) ?_ (aF 23 15 (by decide) ?_ (aF 24 14 (by decide) ?_ (aF 25 13 (by decide) ?_ (aF 26 12 (by decide) ?_ (aF 27 11 (by decide) ?_ (aF 28 10 (by decide) ?_ (aF 29 9 (by decide) ?_ (aF 30 8 (by decide) ?_ (aF 31 7 (by decide) ?_ (aF 32 6 (by decide) ?_ (aF 33 5 (by decide) ?_ (aF 34 4 (by decide) ?_ (aF 35 3 (by decide) ?_ (aF 36 2 (by decide) ?_ (aF 37 1 (by decide) ?_ (aF 38 0 (by decide) ?_ (trivial)))))))))))))))))))))))))))))))))))))))) [(3, .pointer (some ⟨b19, 0, none⟩)), (5, .slice ad32 o31.length cp33), (6, .slice ad35 o34.length cp36), (11, .slice ad92 r90.1.length cp93), (13, .slice ad97 r95.1.length cp98), (15, .pointer (some ⟨b106, 0, none⟩)), (103, .bool true)] (fin_of [none, none, none, none, none, none, some 38] rfl (by kernel_rfl) (by kernel_rfl)) (fun _ a w S => ?_)
              · refine fI 65 (.agg #[.slice ad13 p1.Left.length cp14, .slice ad15 p1.Right.length cp16]) [(3, .pointer (some ⟨b19, 0, none⟩))] 0 [none] rfl rfl (by kernel_rfl) rfl (by kernel_rfl) (by kernel_rfl) fun G a w S => ?_
                refine sLoadN (p := b19) (off := 0) (T := 36) (vs := [.slice ad13 p1.Left.length cp14, .slice ad15 p1.Right.length cp16]) 15 [.slice ad13 p1.Left.length cp14, .slice ad15 p1.Right.length cp16] S (wN rfl) rfl (by kernel_rfl) (by kernel_rfl) (by kernel_rfl) (by kernel_rfl) rfl rfl (by decide) (fun a S => ?_)
                exact leafL ⟨rfl, S⟩
              · refine fI 66 (.int .i64 r119) [(65, .agg #[.slice ad13 p1.Left.length cp14, .slice ad15 p1.Right.length cp16])] 1 [some 0] rfl rfl (by kernel_rfl) rfl (by kernel_rfl) (by kernel_rfl) fun G a w S => ?_
                have S1 := S.mem
                refine sCallQ (X := Unit) (f := 17) (vs := [.agg #[.slice ad13 p1.Left.length cp14, .slice ad15 p1.Right.length cp16]]) (val := fun _ => .int .i64 r119) S (wN rfl) rfl callee17 (by kernel_rfl) (S1.quiet [0] (by kernel_rfl)) (fun E1 w1 S1 => c_piece_Check E1 w1 p1 (.agg #[.slice ad13 p1.Left.length cp14, .slice ad15 p1.Right.length cp16]) r119 hx120 S1) rfl (by decide) (fun _ a w S => ?_)
                exact leafL ⟨rfl, S⟩
              · refine fI 67 (.agg #[.slice ad13 p1.Left.length cp14, .slice ad15 p1.Right.length cp16]) [(3, .pointer (some ⟨b19, 0, none⟩))] 2 [none] rfl rfl (by kernel_rfl) rfl (by kernel_rfl) (by kernel_rfl) fun G a w S => ?_
                refine sLoadN (p := b19) (off := 0) (T := 36) (vs := [.slice ad13 p1.Left.length cp14, .slice ad15 p1.Right.length cp16]) 15 [.slice ad13 p1.Left.length cp14, .slice ad15 p1.Right.length cp16] S (wN rfl) rfl (by kernel_rfl) (by kernel_rfl) (by kernel_rfl) (by kernel_rfl) rfl rfl (by decide) (fun a S => ?_)
                exact leafL ⟨rfl, S⟩
              · refine fI 68 (.int .i64 r121) [(67, .agg #[.slice ad13 p1.Left.length cp14, .slice ad15 p1.Right.length cp16])] 3 [some 2] rfl rfl (by kernel_rfl) rfl (by kernel_rfl) (by kernel_rfl) fun G a w S => ?_
                have S1 := S.mem
                refine sCallQ (X := Unit) (f := 18) (vs := [.agg #[.slice ad13 p1.Left.length cp14, .slice ad15 p1.Right.length cp16]]) (val := fun _ => .int .i64 r121) S (wN rfl) rfl callee18 (by kernel_rfl) (S1.quiet [0] (by kernel_rfl)) (fun E1 w1 S1 => c_raddleref37_Check E1 w1 p1 (.agg #[.slice ad13 p1.Left.length cp14, .slice ad15 p1.Right.length cp16]) r121 hx122 S1) rfl (by decide) (fun _ a w S => ?_)
                exact leafL ⟨rfl, S⟩
              · refine fI 69 (.bool (r119 != r121)) [(66, .int .i64 r119), (68, .int .i64 r121)] 4 [some 1, some 3] rfl rfl (by kernel_rfl) rfl (by kernel_rfl) (by kernel_rfl) fun G a w S => ?_
                refine sBin (.bool (r119 != r121)) S (wN rfl) rfl (by kernel_rfl) (by kernel_rfl) (bNe _ _ _ _ .i64 r119 r121) rfl (by decide) (fun a S => ?_)
                exact leafL ⟨rfl, S⟩
              · refine fI 70 (.bool (r119 != r121)) [(69, .bool (r119 != r121))] 5 [some 4] rfl rfl (by kernel_rfl) rfl (by kernel_rfl) (by kernel_rfl) fun G a w S => ?_
                refine sMove (.bool (r119 != r121)) S (wN rfl) (.inl rfl) (by kernel_rfl) rfl (by decide) (fun a S => ?_)
                exact leafL ⟨rfl, S⟩
              · refine fI 71 (.agg #[.slice ad76 r74.1.Left.length cp77, .slice ad78 r74.1.Right.length cp79]) [(7, .pointer (some ⟨b80, 0, none⟩)), (70, .bool (r119 != r121))] 6 [none, some 5] rfl rfl (by kernel_rfl) rfl (by kernel_rfl) (by kernel_rfl) fun G a w S => ?_
                refine sLoadN (p := b80) (off := 0) (T := 36) (vs := [.slice ad76 r74.1.Left.length cp77, .slice ad78 r74.1.Right.length cp79]) 11 [.slice ad76 r74.1.Left.length cp77, .slice ad78 r74.1.Right.length cp79] S (wG (c := r119 != r121) 5 false 70 rfl rfl (by kernel_rfl) hc123) rfl (by kernel_rfl) (by kernel_rfl) (by kernel_rfl) (by kernel_rfl) rfl rfl (by decide) (fun a S => ?_)
                exact leafL ⟨rfl, S⟩
              · refine fI 72 (.agg #[.slice ad84 r82.1.Left.length cp85, .slice ad86 r82.1.Right.length cp87]) [(9, .pointer (some ⟨b88, 0, none⟩)), (70, .bool (r119 != r121))] 7 [none, some 5] rfl rfl (by kernel_rfl) rfl (by kernel_rfl) (by kernel_rfl) fun G a w S => ?_
                refine sLoadN (p := b88) (off := 0) (T := 36) (vs := [.slice ad84 r82.1.Left.length cp85, .slice ad86 r82.1.Right.length cp87]) 8 [.slice ad84 r82.1.Left.length cp85, .slice ad86 r82.1.Right.length cp87] S (wG (c := r119 != r121) 5 false 70 rfl rfl (by kernel_rfl) hc123) rfl (by kernel_rfl) (by kernel_rfl) (by kernel_rfl) (by kernel_rfl) rfl rfl (by decide) (fun a S => ?_)
                exact leafL ⟨rfl, S⟩
              · refine fI 73 (.bool r124) [(71, .agg #[.slice ad76 r74.1.Left.length cp77, .slice ad78 r74.1.Right.length cp79]), (72, .agg #[.slice ad84 r82.1.Left.length cp85, .slice ad86 r82.1.Right.length cp87]), (70, .bool (r119 != r121))] 8 [some 6, some 7, some 5] rfl rfl (by kernel_rfl) rfl (by kernel_rfl) (by kernel_rfl) fun G a w S => ?_
                have S1 := S.mem
                have S1 := S1.shutR (r := (rI .i64)) (T := 3) (v := .slice ad76 r74.1.Left.length cp77) (xs := r74.1.Left) 12 (by kernel_rfl)
                have S1 := S1.shutR (r := (rI .i64)) (T := 3) (v := .slice ad78 r74.1.Right.length cp79) (xs := r74.1.Right) 12 (by kernel_rfl)
                have S1 := S1.learn (fRep r_api_Piece (.agg #[.slice ad76 r74.1.Left.length cp77, .slice ad78 r74.1.Right.length cp79]) r74.1) ⟨_, _, rfl, S1.know (i := 1) (e := fRep (rL (rI .i64)) (.slice ad76 r74.1.Left.length cp77) r74.1.Left) (by kernel_rfl), S1.know (i := 0) (e := fRep (rL (rI .i64)) (.slice ad78 r74.1.Right.length cp79) r74.1.Right) (by kernel_rfl)⟩
                have S1 := S1.shutR (r := (rI .i64)) (T := 3) (v := .slice ad84 r82.1.Left.length cp85) (xs := r82.1.Left) 9 (by kernel_rfl)
                have S1 := S1.shutR (r := (rI .i64)) (T := 3) (v := .slice ad86 r82.1.Right.length cp87) (xs := r82.1.Right) 9 (by kernel_rfl)
                have S1 := S1.learn (fRep r_api_Piece (.agg #[.slice ad84 r82.1.Left.length cp85, .slice ad86 r82.1.Right.length cp87]) r82.1) ⟨_, _, rfl, S1.know (i := 1) (e := fRep (rL (rI .i64)) (.slice ad84 r82.1.Left.length cp85) r82.1.Left) (by kernel_rfl), S1.know (i := 0) (e := fRep (rL (rI .i64)) (.slice ad86 r82.1.Right.length cp87) r82.1.Right) (by kernel_rfl)⟩
                refine sCallQ (X := Unit) (f := 19) (vs := [.agg #[.slice ad76 r74.1.Left.length cp77, .slice ad78 r74.1.Right.length cp79], .agg #[.slice ad84 r82.1.Left.length cp85, .slice ad86 r82.1.Right.length cp87]]) (val := fun _ => .bool r124) S (wG (c := r119 != r121) 5 false 70 rfl rfl (by kernel_rfl) hc123) rfl callee19 (by kernel_rfl) (S1.quiet [3, 0] (by kernel_rfl)) (fun E1 w1 S1 => c_raddleref37_Same E1 w1 r74.1 (.agg #[.slice ad76 r74.1.Left.length cp77, .slice ad78 r74.1.Right.length cp79]) r82.1 (.agg #[.slice ad84 r82.1.Left.length cp85, .slice ad86 r82.1.Right.length cp87]) r124 hx125 S1) rfl (by decide) (fun _ a w S => ?_)
                exact leafL ⟨rfl, S⟩
              · refine fI 74 (.bool (!r124)) [(73, .bool r124), (70, .bool (r119 != r121))] 9 [some 8, some 5] rfl rfl (by kernel_rfl) rfl (by kernel_rfl) (by kernel_rfl) fun G a w S => ?_
                refine sNot (b := r124) S (wG (c := r119 != r121) 5 false 70 rfl rfl (by kernel_rfl) hc123) rfl (by kernel_rfl) rfl (by decide) (fun a S => ?_)
                exact leafL ⟨rfl, S⟩
              · refine fI 75 (.bool (!r124)) [(70, .bool (r119 != r121)), (74, .bool (!r124))] 10 [some 5, some 9] rfl rfl (by kernel_rfl) rfl (by kernel_rfl) (by kernel_rfl) fun G a w S => ?_
                refine sPickF (b := r119 != r121) (.bool (!r124)) S (wN rfl) rfl (by kernel_rfl) hc123 (by kernel_rfl) rfl (by decide) (fun a S => ?_)
                exact leafL ⟨rfl, S⟩
              · refine fI 76 (.bool (!r124)) [(75, .bool (!r124))] 11 [some 10] rfl rfl (by kernel_rfl) rfl (by kernel_rfl) (by kernel_rfl) fun G a w S => ?_
                refine sMove (.bool (!r124)) S (wN rfl) (.inl rfl) (by kernel_rfl) rfl (by decide) (fun a S => ?_)
                exact leafL ⟨rfl, S⟩
              · refine fI 77 undef [(8, .int .i64 r74.2), (76, .bool (!r124))] 12 [none, some 11] rfl rfl (by kernel_rfl) rfl (by kernel_rfl) (by kernel_rfl) fun G a w S => ?_
                refine sSkip (c := !r124) 11 false 76 77 S rfl rfl (by kernel_rfl) hc126 rfl (by decide) (fun a S => ?_)
                exact leafL ⟨rfl, S⟩
              · refine fI 78 undef [(10, .int .i64 r82.2), (76, .bool (!r124))] 13 [none, some 11] rfl rfl (by kernel_rfl) rfl (by kernel_rfl) (by kernel_rfl) fun G a w S => ?_
                refine sSkip (c := !r124) 11 false 76 78 S rfl rfl (by kernel_rfl) hc126 rfl (by decide) (fun a S => ?_)
                exact leafL ⟨rfl, S⟩
              · refine fI 79 undef [(77, undef), (78, undef), (76, .bool (!r124))] 14 [some 12, some 13, some 11] rfl rfl (by kernel_rfl) rfl (by kernel_rfl) (by kernel_rfl) fun G a w S => ?_
                refine sSkip (c := !r124) 11 false 76 79 S rfl rfl (by kernel_rfl) hc126 rfl (by decide) (fun a S => ?_)
                exact leafL ⟨rfl, S⟩
              · refine fI 80 (.bool true) [(76, .bool (!r124)), (79, undef)] 15 [some 11, some 14] rfl rfl (by kernel_rfl) rfl (by kernel_rfl) (by kernel_rfl) fun G a w S => ?_
                refine sPickT (b := !r124) (.bool true) S (wN rfl) rfl (by kernel_rfl) hc126 (by kernel_rfl) rfl (by decide) (fun a S => ?_)
                exact leafL ⟨rfl, S⟩
              · refine fI 81 (.bool true) [(80, .bool true)] 16 [some 15] rfl rfl (by kernel_rfl) rfl (by kernel_rfl) (by kernel_rfl) fun G a w S => ?_
                refine sMove (.bool true) S (wN rfl) (.inl rfl) (by kernel_rfl) rfl (by decide) (fun a S => ?_)
                exact leafL ⟨rfl, S⟩
              · refine fI 82 undef [(11, .slice ad92 r90.1.length cp93), (81, .bool true)] 17 [none, some 16] rfl rfl (by kernel_rfl) rfl (by kernel_rfl) (by kernel_rfl) fun G a w S => ?_
                refine sSkip (c := true) 16 false 81 82 S rfl rfl (by kernel_rfl) rfl rfl (by decide) (fun a S => ?_)
                exact leafL ⟨rfl, S⟩
              · refine fI 83 undef [(82, undef), (81, .bool true)] 18 [some 17, some 16] rfl rfl (by kernel_rfl) rfl (by kernel_rfl) (by kernel_rfl) fun G a w S => ?_
                refine sSkip (c := true) 16 false 81 83 S rfl rfl (by kernel_rfl) rfl rfl (by decide) (fun a S => ?_)
                exact leafL ⟨rfl, S⟩
              · refine fI 84 undef [(13, .slice ad97 r95.1.length cp98), (81, .bool true)] 19 [none, some 16] rfl rfl (by kernel_rfl) rfl (by kernel_rfl) (by kernel_rfl) fun G a w S => ?_
                refine sSkip (c := true) 16 false 81 84 S rfl rfl (by kernel_rfl) rfl rfl (by decide) (fun a S => ?_)
                exact leafL ⟨rfl, S⟩
              · refine fI 85 undef [(84, undef), (81, .bool true)] 20 [some 19, some 16] rfl rfl (by kernel_rfl) rfl (by kernel_rfl) (by kernel_rfl) fun G a w S => ?_
                refine sSkip (c := true) 16 false 81 85 S rfl rfl (by kernel_rfl) rfl rfl (by decide) (fun a S => ?_)
                exact leafL ⟨rfl, S⟩
              · refine fI 86 undef [(83, undef), (85, undef), (81, .bool true)] 21 [some 18, some 20, some 16] rfl rfl (by kernel_rfl) rfl (by kernel_rfl) (by kernel_rfl) fun G a w S => ?_
                refine sSkip (c := true) 16 false 81 86 S rfl rfl (by kernel_rfl) rfl rfl (by decide) (fun a S => ?_)
                exact leafL ⟨rfl, S⟩
              · refine fI 87 (.bool true) [(81, .bool true), (86, undef)] 22 [some 16, some 21] rfl rfl (by kernel_rfl) rfl (by kernel_rfl) (by kernel_rfl) fun G a w S => ?_
                refine sPickT (b := true) (.bool true) S (wN rfl) rfl (by kernel_rfl) rfl (by kernel_rfl) rfl (by decide) (fun a S => ?_)
                exact leafL ⟨rfl, S⟩
              · refine fI 88 (.bool true) [(87, .bool true)] 23 [some 22] rfl rfl (by kernel_rfl) rfl (by kernel_rfl) (by kernel_rfl) fun G a w S => ?_
                refine sMove (.bool true) S (wN rfl) (.inl rfl) (by kernel_rfl) rfl (by decide) (fun a S => ?_)
                exact leafL ⟨rfl, S⟩
              · refine fI 89 undef [(12, .int .i64 r90.2), (88, .bool true)] 24 [none, some 23] rfl rfl (by kernel_rfl) rfl (by kernel_rfl) (by kernel_rfl) fun G a w S => ?_
                refine sSkip (c := true) 23 false 88 89 S rfl rfl (by kernel_rfl) rfl rfl (by decide) (fun a S => ?_)
                exact leafL ⟨rfl, S⟩
              · refine fI 90 undef [(14, .int .i64 r95.2), (88, .bool true)] 25 [none, some 23] rfl rfl (by kernel_rfl) rfl (by kernel_rfl) (by kernel_rfl) fun G a w S => ?_
                refine sSkip (c := true) 23 false 88 90 S rfl rfl (by kernel_rfl) rfl rfl (by decide) (fun a S => ?_)
                exact leafL ⟨rfl, S⟩
              · refine fI 91 undef [(89, undef), (90, undef), (88, .bool true)] 26 [some 24, some 25, some 23] rfl rfl (by kernel_rfl) rfl (by kernel_rfl) (by kernel_rfl) fun G a w S => ?_
                refine sSkip (c := true) 23 false 88 91 S rfl rfl (by kernel_rfl) rfl rfl (by decide) (fun a S => ?_)
                exact leafL ⟨rfl, S⟩
              · refine fI 92 (.bool true) [(88, .bool true), (91, undef)] 27 [some 23, some 26] rfl rfl (by kernel_rfl) rfl (by kernel_rfl) (by kernel_rfl) fun G a w S => ?_
                refine sPickT (b := true) (.bool true) S (wN rfl) rfl (by kernel_rfl) rfl (by kernel_rfl) rfl (by decide) (fun a S => ?_)
                exact leafL ⟨rfl, S⟩
              · refine fI 93 (.bool true) [(92, .bool true)] 28 [some 27] rfl rfl (by kernel_rfl) rfl (by kernel_rfl) (by kernel_rfl) fun G a w S => ?_
                refine sMove (.bool true) S (wN rfl) (.inl rfl) (by kernel_rfl) rfl (by decide) (fun a S => ?_)
                exact leafL ⟨rfl, S⟩
              · refine fI 94 undef [(15, .pointer (some ⟨b106, 0, none⟩)), (93, .bool true)] 29 [none, some 28] rfl rfl (by kernel_rfl) rfl (by kernel_rfl) (by kernel_rfl) fun G a w S => ?_
                refine sSkip (c := true) 28 false 93 94 S rfl rfl (by kernel_rfl) rfl rfl (by decide) (fun a S => ?_)
                exact leafL ⟨rfl, S⟩
              · refine fI 95 undef [(17, .pointer (some ⟨b114, 0, none⟩)), (93, .bool true)] 30 [none, some 28] rfl rfl (by kernel_rfl) rfl (by kernel_rfl) (by kernel_rfl) fun G a w S => ?_
                refine sSkip (c := true) 28 false 93 95 S rfl rfl (by kernel_rfl) rfl rfl (by decide) (fun a S => ?_)
                exact leafL ⟨rfl, S⟩
              · refine fI 96 undef [(94, undef), (95, undef), (93, .bool true)] 31 [some 29, some 30, some 28] rfl rfl (by kernel_rfl) rfl (by kernel_rfl) (by kernel_rfl) fun G a w S => ?_
                refine sSkip (c := true) 28 false 93 96 S rfl rfl (by kernel_rfl) rfl rfl (by decide) (fun a S => ?_)
                exact leafL ⟨rfl, S⟩
              · refine fI 97 undef [(96, undef), (93, .bool true)] 32 [some 31, some 28] rfl rfl (by kernel_rfl) rfl (by kernel_rfl) (by kernel_rfl) fun G a w S => ?_
                refine sSkip (c := true) 28 false 93 97 S rfl rfl (by kernel_rfl) rfl rfl (by decide) (fun a S => ?_)
                exact leafL ⟨rfl, S⟩
              · refine fI 98 (.bool true) [(93, .bool true), (97, undef)] 33 [some 28, some 32] rfl rfl (by kernel_rfl) rfl (by kernel_rfl) (by kernel_rfl) fun G a w S => ?_
                refine sPickT (b := true) (.bool true) S (wN rfl) rfl (by kernel_rfl) rfl (by kernel_rfl) rfl (by decide) (fun a S => ?_)
                exact leafL ⟨rfl, S⟩
              · refine fI 99 (.bool true) [(98, .bool true)] 34 [some 33] rfl rfl (by kernel_rfl) rfl (by kernel_rfl) (by kernel_rfl) fun G a w S => ?_
                refine sMove (.bool true) S (wN rfl) (.inl rfl) (by kernel_rfl) rfl (by decide) (fun a S => ?_)
                exact leafL ⟨rfl, S⟩
              · refine fI 100 undef [(16, .int .i64 r100.2), (99, .bool true)] 35 [none, some 34] rfl rfl (by kernel_rfl) rfl (by kernel_rfl) (by kernel_rfl) fun G a w S => ?_
                refine sSkip (c := true) 34 false 99 100 S rfl rfl (by kernel_rfl) rfl rfl (by decide) (fun a S => ?_)
                exact leafL ⟨rfl, S⟩
              · refine fI 101 undef [(18, .int .i64 r108.2), (99, .bool true)] 36 [none, some 34] rfl rfl (by kernel_rfl) rfl (by kernel_rfl) (by kernel_rfl) fun G a w S => ?_
                refine sSkip (c := true) 34 false 99 101 S rfl rfl (by kernel_rfl) rfl rfl (by decide) (fun a S => ?_)
                exact leafL ⟨rfl, S⟩
              · refine fI 102 undef [(100, undef), (101, undef), (99, .bool true)] 37 [some 35, some 36, some 34] rfl rfl (by kernel_rfl) rfl (by kernel_rfl) (by kernel_rfl) fun G a w S => ?_
                refine sSkip (c := true) 34 false 99 102 S rfl rfl (by kernel_rfl) rfl rfl (by decide) (fun a S => ?_)
                exact leafL ⟨rfl, S⟩
              · refine fI 103 (.bool true) [(99, .bool true), (102, undef)] 38 [some 34, some 37] rfl rfl (by kernel_rfl) rfl (by kernel_rfl) (by kernel_rfl) fun G a w S => ?_
                refine sPickT (b := true) (.bool true) S (wN rfl) rfl (by kernel_rfl) rfl (by kernel_rfl) rfl (by decide) (fun a S => ?_)
                exact leafL ⟨rfl, S⟩
              · exact leafT (⟨true, Option.some.inj h, S.fix [15, 3, 16, 17, 7, 6, 4, 5] [4, 5] (by decide) (by kernel_rfl) (by kernel_rfl) (by kernel_rfl)⟩)
            · rcases iteSome h with ⟨hc127, h⟩ | ⟨hc127, h⟩
              · refine sDraw (nf := []) (W := [(0, 65, .agg #[.slice ad13 p1.Left.length cp14, .slice ad15 p1.Right.length cp16]), (1, 66, .int .i64 r119), (2, 67, .agg #[.slice ad13 p1.Left.length cp14, .slice ad15 p1.Right.length cp16]), (3, 68, .int .i64 r121), (4, 69, .bool (r119 != r121)), (5, 70, .bool (r119 != r121)), (6, 71, .agg #[.slice ad76 r74.1.Left.length cp77, .slice ad78 r74.1.Right.length cp79]), (7, 72, .agg #[.slice ad84 r82.1.Left.length cp85, .slice ad86 r82.1.Right.length cp87]), (8, 73, .bool r124), (9, 74, .bool (!r124)), (10, 75, .bool (!r124)), (11, 76, .bool (!r124)), (12, 77, .int .i64 r74.2), (13, 78, .int .i64 r82.2), (14, 79, .bool (r74.2 != r82.2)), (15, 80, .bool (r74.2 != r82.2)), (16, 81, .bool (r74.2 != r82.2)), (17, 82, undef), (18, 83, undef), (19, 84, undef), (20, 85, undef), (21, 86, undef), (22, 87, .bool true), (23, 88, .bool true), (24, 89, undef), (25, 90, undef), (26, 91, undef), (27, 92, .bool true), (28, 93, .bool true), (29, 94, undef), (30, 95, undef), (31, 96, undef), (32, 97, undef), (33, 98, .bool true), (34, 99, .bool true), (35, 100, undef), (36, 101, undef), (37, 102, undef), (38, 103, .bool true)]) (by kernel_rfl) S ?_
                refine node_by (A := anc_raddlelaw37_PieceMakes_1) (nf := []) (Y := []) (W := [(0, 65, .agg #[.slice ad13 p1.Left.length cp14, .slice ad15 p1.Right.length cp16]), (1, 66, .int .i64 r119), (2, 67, .agg #[.slice ad13 p1.Left.length cp14, .slice ad15 p1.Right.length cp16]), (3, 68, .int .i64 r121), (4, 69, .bool (r119 != r121)), (5, 70, .bool (r119 != r121)), (6, 71, .agg #[.slice ad76 r74.1.Left.length cp77, .slice ad78 r74.1.Right.length cp79]), (7, 72, .agg #[.slice ad84 r82.1.Left.length cp85, .slice ad86 r82.1.Right.length cp87]), (8, 73, .bool r124), (9, 74, .bool (!r124)), (10, 75, .bool (!r124)), (11, 76, .bool (!r124)), (12, 77, .int .i64 r74.2), (13, 78, .int .i64 r82.2), (14, 79, .bool (r74.2 != r82.2)), (15, 80, .bool (r74.2 != r82.2)), (16, 81, .bool (r74.2 != r82.2)), (17, 82, undef), (18, 83, undef), (19, 84, undef), (20, 85, undef), (21, 86, undef), (22, 87, .bool true), (23, 88, .bool true), (24, 89, undef), (25, 90, undef), (26, 91, undef), (27, 92, .bool true), (28, 93, .bool true), (29, 94, undef), (30, 95, undef), (31, 96, undef), (32, 97, undef), (33, 98, .bool true), (34, 99, .bool true), (35, 100, undef), (36, 101, undef), (37, 102, undef), (38, 103, .bool true)]) 39 (by kernel_rfl) (by kernel_rfl) (by kernel_rfl) (by kernel_rfl) (by kernel_rfl) [0, 1, 2, 3, 4, 5, 6, 7, 8, 9, 10, 11, 12, 13, 14, 15, 16, 17, 18, 19, 20, 21, 22, 23, 24, 25, 26, 27, 28, 29, 30, 31, 32, 33, 34, 35, 36, 37, 38] (by kernel_rfl) (by decide) (by decide) (aF 0 38 (by decide) ?_ (aF 1 37 (by decide) ?_ (aF 2 36 (by decide) ?_ (aF 3 35 (by decide) ?_ (aF 4 34 (by decide) ?_ (aF 5 33 (by decide) ?_ (aF 6 32 (by decide) ?_ (aF 7 31 (by decide) ?_ (aF 8 30 (by decide) ?_ (aF 9 29 (by decide) ?_ (aF 10 28 (by decide) ?_ (aF 11 27 (by decide) ?_ (aF 12 26 (by decide) ?_ (aF 13 25 (by decide) ?_ (aF 14 24 (by decide) ?_ (aF 15 23 (by decide) ?_ (aF 16 22 (by decide) ?_ (aF 17 21 (by decide) ?_ (aF 18 20 (by decide) ?_ (aF 19 19 (by decide) ?_ (aF 20 18 (by decide) ?_ (aF 21 17 (by decide) ?_ (aF 22 16 (by decide) ?_ (aF 23 15 (by decide) ?_ (aF 24 14 (by decide) ?_ (aF 25 13 (by decide) ?_ (aF 26 12 (by decide) ?_ (aF 27 11 (by decide) ?_ (aF 28 10 (by decide) ?_ (aF 29 9 (by decide) ?_ (aF 30 8 (by decide) ?_ (aF 31 7 (by decide) ?_ (aF 32 6 (by decide) ?_ (aF 33 5 (by decide) ?_ (aF 34 4 (by decide) ?_ (aF 35 3 (by decide) ?_ (aF 36 2 (by decide) ?_ (aF 37 1 (by decide) ?_ (aF 38 0 (by decide) ?_ (trivial)))))))))))))))))))))))))))))))))))))))) [(3, .pointer (some ⟨b19, 0, none⟩)), (5, .slice ad32 o31.length cp33), (6, .slice ad35 o34.length cp36), (11, .slice ad92 r90.1.length cp93), (13, .slice ad97 r95.1.length cp98), (15, .pointer (some ⟨b106, 0, none⟩)), (103, .bool true)] (fin_of [none, none, none, none, none, none, some 38] rfl (by kernel_rfl) (by kernel_rfl)) (fun _ a w S => ?_)
                · refine fI 65 (.agg #[.slice ad13 p1.Left.length cp14, .slice ad15 p1.Right.length cp16]) [(3, .pointer (some ⟨b19, 0, none⟩))] 0 [none] rfl rfl (by kernel_rfl) rfl (by kernel_rfl) (by kernel_rfl) fun G a w S => ?_
                  refine sLoadN (p := b19) (off := 0) (T := 36) (vs := [.slice ad13 p1.Left.length cp14, .slice ad15 p1.Right.length cp16]) 15 [.slice ad13 p1.Left.length cp14, .slice ad15 p1.Right.length cp16] S (wN rfl) rfl (by kernel_rfl) (by kernel_rfl) (by kernel_rfl) (by kernel_rfl) rfl rfl (by decide) (fun a S => ?_)
                  exact leafL ⟨rfl, S⟩
                · refine fI 66 (.int .i64 r119) [(65, .agg #[.slice ad13 p1.Left.length cp14, .slice ad15 p1.Right.length cp16])] 1 [some 0] rfl rfl (by kernel_rfl) rfl (by kernel_rfl) (by kernel_rfl) fun G a w S => ?_
                  have S1 := S.mem
                  refine sCallQ (X := Unit) (f := 17) (vs := [.agg #[.slice ad13 p1.Left.length cp14, .slice ad15 p1.Right.length cp16]]) (val := fun _ => .int .i64 r119) S (wN rfl) rfl callee17 (by kernel_rfl) (S1.quiet [0] (by kernel_rfl)) (fun E1 w1 S1 => c_piece_Check E1 w1 p1 (.agg #[.slice ad13 p1.Left.length cp14, .slice ad15 p1.Right.length cp16]) r119 hx120 S1) rfl (by decide) (fun _ a w S => ?_)
                  exact leafL ⟨rfl, S⟩
                · refine fI 67 (.agg #[.slice ad13 p1.Left.length cp14, .slice ad15 p1.Right.length cp16]) [(3, .pointer (some ⟨b19, 0, none⟩))] 2 [none] rfl rfl (by kernel_rfl) rfl (by kernel_rfl) (by kernel_rfl) fun G a w S => ?_
                  refine sLoadN (p := b19) (off := 0) (T := 36) (vs := [.slice ad13 p1.Left.length cp14, .slice ad15 p1.Right.length cp16]) 15 [.slice ad13 p1.Left.length cp14, .slice ad15 p1.Right.length cp16] S (wN rfl) rfl (by kernel_rfl) (by kernel_rfl) (by kernel_rfl) (by kernel_rfl) rfl rfl (by decide) (fun a S => ?_)
                  exact leafL ⟨rfl, S⟩
                · refine fI 68 (.int .i64 r121) [(67, .agg #[.slice ad13 p1.Left.length cp14, .slice ad15 p1.Right.length cp16])] 3 [some 2] rfl rfl (by kernel_rfl) rfl (by kernel_rfl) (by kernel_rfl) fun G a w S => ?_
                  have S1 := S.mem
                  refine sCallQ (X := Unit) (f := 18) (vs := [.agg #[.slice ad13 p1.Left.length cp14, .slice ad15 p1.Right.length cp16]]) (val := fun _ => .int .i64 r121) S (wN rfl) rfl callee18 (by kernel_rfl) (S1.quiet [0] (by kernel_rfl)) (fun E1 w1 S1 => c_raddleref37_Check E1 w1 p1 (.agg #[.slice ad13 p1.Left.length cp14, .slice ad15 p1.Right.length cp16]) r121 hx122 S1) rfl (by decide) (fun _ a w S => ?_)
                  exact leafL ⟨rfl, S⟩
                · refine fI 69 (.bool (r119 != r121)) [(66, .int .i64 r119), (68, .int .i64 r121)] 4 [some 1, some 3] rfl rfl (by kernel_rfl) rfl (by kernel_rfl) (by kernel_rfl) fun G a w S => ?_
                  refine sBin (.bool (r119 != r121)) S (wN rfl) rfl (by kernel_rfl) (by kernel_rfl) (bNe _ _ _ _ .i64 r119 r121) rfl (by decide) (fun a S => ?_)
                  exact leafL ⟨rfl, S⟩
                · refine fI 70 (.bool (r119 != r121)) [(69, .bool (r119 != r121))] 5 [some 4] rfl rfl (by kernel_rfl) rfl (by kernel_rfl) (by kernel_rfl) fun G a w S => ?_
                  refine sMove (.bool (r119 != r121)) S (wN rfl) (.inl rfl) (by kernel_rfl) rfl (by decide) (fun a S => ?_)
                  exact leafL ⟨rfl, S⟩
                · refine fI 71 (.agg #[.slice ad76 r74.1.Left.length cp77, .slice ad78 r74.1.Right.length cp79]) [(7, .pointer (some ⟨b80, 0, none⟩)), (70, .bool (r119 != r121))] 6 [none, some 5] rfl rfl (by kernel_rfl) rfl (by kernel_rfl) (by kernel_rfl) fun G a w S => ?_
                  refine sLoadN (p := b80) (off := 0) (T := 36) (vs := [.slice ad76 r74.1.Left.length cp77, .slice ad78 r74.1.Right.length cp79]) 11 [.slice ad76 r74.1.Left.length cp77, .slice ad78 r74.1.Right.length cp79] S (wG (c := r119 != r121) 5 false 70 rfl rfl (by kernel_rfl) hc123) rfl (by kernel_rfl) (by kernel_rfl) (by kernel_rfl) (by kernel_rfl) rfl rfl (by decide) (fun a S => ?_)
                  exact leafL ⟨rfl, S⟩
                · refine fI 72 (.agg #[.slice ad84 r82.1.Left.length cp85, .slice ad86 r82.1.Right.length cp87]) [(9, .pointer (some ⟨b88, 0, none⟩)), (70, .bool (r119 != r121))] 7 [none, some 5] rfl rfl (by kernel_rfl) rfl (by kernel_rfl) (by kernel_rfl) fun G a w S => ?_
                  refine sLoadN (p := b88) (off := 0) (T := 36) (vs := [.slice ad84 r82.1.Left.length cp85, .slice ad86 r82.1.Right.length cp87]) 8 [.slice ad84 r82.1.Left.length cp85, .slice ad86 r82.1.Right.length cp87] S (wG (c := r119 != r121) 5 false 70 rfl rfl (by kernel_rfl) hc123) rfl (by kernel_rfl) (by kernel_rfl) (by kernel_rfl) (by kernel_rfl) rfl rfl (by decide) (fun a S => ?_)
                  exact leafL ⟨rfl, S⟩
                · refine fI 73 (.bool r124) [(71, .agg #[.slice ad76 r74.1.Left.length cp77, .slice ad78 r74.1.Right.length cp79]), (72, .agg #[.slice ad84 r82.1.Left.length cp85, .slice ad86 r82.1.Right.length cp87]), (70, .bool (r119 != r121))] 8 [some 6, some 7, some 5] rfl rfl (by kernel_rfl) rfl (by kernel_rfl) (by kernel_rfl) fun G a w S => ?_
                  have S1 := S.mem
                  have S1 := S1.shutR (r := (rI .i64)) (T := 3) (v := .slice ad76 r74.1.Left.length cp77) (xs := r74.1.Left) 12 (by kernel_rfl)
                  have S1 := S1.shutR (r := (rI .i64)) (T := 3) (v := .slice ad78 r74.1.Right.length cp79) (xs := r74.1.Right) 12 (by kernel_rfl)
                  have S1 := S1.learn (fRep r_api_Piece (.agg #[.slice ad76 r74.1.Left.length cp77, .slice ad78 r74.1.Right.length cp79]) r74.1) ⟨_, _, rfl, S1.know (i := 1) (e := fRep (rL (rI .i64)) (.slice ad76 r74.1.Left.length cp77) r74.1.Left) (by kernel_rfl), S1.know (i := 0) (e := fRep (rL (rI .i64)) (.slice ad78 r74.1.Right.length cp79) r74.1.Right) (by kernel_rfl)⟩
                  have S1 := S1.shutR (r := (rI .i64)) (T := 3) (v := .slice ad84 r82.1.Left.length cp85) (xs := r82.1.Left) 9 (by kernel_rfl)
                  have S1 := S1.shutR (r := (rI .i64)) (T := 3) (v := .slice ad86 r82.1.Right.length cp87) (xs := r82.1.Right) 9 (by kernel_rfl)
                  have S1 := S1.learn (fRep r_api_Piece (.agg #[.slice ad84 r82.1.Left.length cp85, .slice ad86 r82.1.Right.length cp87]) r82.1) ⟨_, _, rfl, S1.know (i := 1) (e := fRep (rL (rI .i64)) (.slice ad84 r82.1.Left.length cp85) r82.1.Left) (by kernel_rfl), S1.know (i := 0) (e := fRep (rL (rI .i64)) (.slice ad86 r82.1.Right.length cp87) r82.1.Right) (by kernel_rfl)⟩
                  refine sCallQ (X := Unit) (f := 19) (vs := [.agg #[.slice ad76 r74.1.Left.length cp77, .slice ad78 r74.1.Right.length cp79], .agg #[.slice ad84 r82.1.Left.length cp85, .slice ad86 r82.1.Right.length cp87]]) (val := fun _ => .bool r124) S (wG (c := r119 != r121) 5 false 70 rfl rfl (by kernel_rfl) hc123) rfl callee19 (by kernel_rfl) (S1.quiet [3, 0] (by kernel_rfl)) (fun E1 w1 S1 => c_raddleref37_Same E1 w1 r74.1 (.agg #[.slice ad76 r74.1.Left.length cp77, .slice ad78 r74.1.Right.length cp79]) r82.1 (.agg #[.slice ad84 r82.1.Left.length cp85, .slice ad86 r82.1.Right.length cp87]) r124 hx125 S1) rfl (by decide) (fun _ a w S => ?_)
                  exact leafL ⟨rfl, S⟩
                · refine fI 74 (.bool (!r124)) [(73, .bool r124), (70, .bool (r119 != r121))] 9 [some 8, some 5] rfl rfl (by kernel_rfl) rfl (by kernel_rfl) (by kernel_rfl) fun G a w S => ?_
                  refine sNot (b := r124) S (wG (c := r119 != r121) 5 false 70 rfl rfl (by kernel_rfl) hc123) rfl (by kernel_rfl) rfl (by decide) (fun a S => ?_)
                  exact leafL ⟨rfl, S⟩
                · refine fI 75 (.bool (!r124)) [(70, .bool (r119 != r121)), (74, .bool (!r124))] 10 [some 5, some 9] rfl rfl (by kernel_rfl) rfl (by kernel_rfl) (by kernel_rfl) fun G a w S => ?_
                  refine sPickF (b := r119 != r121) (.bool (!r124)) S (wN rfl) rfl (by kernel_rfl) hc123 (by kernel_rfl) rfl (by decide) (fun a S => ?_)
                  exact leafL ⟨rfl, S⟩
                · refine fI 76 (.bool (!r124)) [(75, .bool (!r124))] 11 [some 10] rfl rfl (by kernel_rfl) rfl (by kernel_rfl) (by kernel_rfl) fun G a w S => ?_
                  refine sMove (.bool (!r124)) S (wN rfl) (.inl rfl) (by kernel_rfl) rfl (by decide) (fun a S => ?_)
                  exact leafL ⟨rfl, S⟩
                · refine fI 77 (.int .i64 r74.2) [(8, .int .i64 r74.2), (76, .bool (!r124))] 12 [none, some 11] rfl rfl (by kernel_rfl) rfl (by kernel_rfl) (by kernel_rfl) fun G a w S => ?_
                  refine sMove (.int .i64 r74.2) S (wG (c := !r124) 11 false 76 rfl rfl (by kernel_rfl) hc126) (.inl rfl) (by kernel_rfl) rfl (by decide) (fun a S => ?_)
                  exact leafL ⟨rfl, S⟩
                · refine fI 78 (.int .i64 r82.2) [(10, .int .i64 r82.2), (76, .bool (!r124))] 13 [none, some 11] rfl rfl (by kernel_rfl) rfl (by kernel_rfl) (by kernel_rfl) fun G a w S => ?_
                  refine sMove (.int .i64 r82.2) S (wG (c := !r124) 11 false 76 rfl rfl (by kernel_rfl) hc126) (.inl rfl) (by kernel_rfl) rfl (by decide) (fun a S => ?_)
                  exact leafL ⟨rfl, S⟩
                · refine fI 79 (.bool (r74.2 != r82.2)) [(77, .int .i64 r74.2), (78, .int .i64 r82.2), (76, .bool (!r124))] 14 [some 12, some 13, some 11] rfl rfl (by kernel_rfl) rfl (by kernel_rfl) (by kernel_rfl) fun G a w S => ?_
                  refine sBin (.bool (r74.2 != r82.2)) S (wG (c := !r124) 11 false 76 rfl rfl (by kernel_rfl) hc126) rfl (by kernel_rfl) (by kernel_rfl) (bNe _ _ _ _ .i64 r74.2 r82.2) rfl (by decide) (fun a S => ?_)
                  exact leafL ⟨rfl, S⟩
                · refine fI 80 (.bool (r74.2 != r82.2)) [(76, .bool (!r124)), (79, .bool (r74.2 != r82.2))] 15 [some 11, some 14] rfl rfl (by kernel_rfl) rfl (by kernel_rfl) (by kernel_rfl) fun G a w S => ?_
                  refine sPickF (b := !r124) (.bool (r74.2 != r82.2)) S (wN rfl) rfl (by kernel_rfl) hc126 (by kernel_rfl) rfl (by decide) (fun a S => ?_)
                  exact leafL ⟨rfl, S⟩
                · refine fI 81 (.bool (r74.2 != r82.2)) [(80, .bool (r74.2 != r82.2))] 16 [some 15] rfl rfl (by kernel_rfl) rfl (by kernel_rfl) (by kernel_rfl) fun G a w S => ?_
                  refine sMove (.bool (r74.2 != r82.2)) S (wN rfl) (.inl rfl) (by kernel_rfl) rfl (by decide) (fun a S => ?_)
                  exact leafL ⟨rfl, S⟩
                · refine fI 82 undef [(11, .slice ad92 r90.1.length cp93), (81, .bool (r74.2 != r82.2))] 17 [none, some 16] rfl rfl (by kernel_rfl) rfl (by kernel_rfl) (by kernel_rfl) fun G a w S => ?_
                  refine sSkip (c := r74.2 != r82.2) 16 false 81 82 S rfl rfl (by kernel_rfl) hc127 rfl (by decide) (fun a S => ?_)
                  exact leafL ⟨rfl, S⟩
                · refine fI 83 undef [(82, undef), (81, .bool (r74.2 != r82.2))] 18 [some 17, some 16] rfl rfl (by kernel_rfl) rfl (by kernel_rfl) (by kernel_rfl) fun G a w S => ?_
                  refine sSkip (c := r74.2 != r82.2) 16 false 81 83 S rfl rfl (by kernel_rfl) hc127 rfl (by decide) (fun a S => ?_)
                  exact leafL ⟨rfl, S⟩
                · refine fI 84 undef [(13, .slice ad97 r95.1.length cp98), (81, .bool (r74.2 != r82.2))] 19 [none, some 16] rfl rfl (by kernel_rfl) rfl (by kernel_rfl) (by kernel_rfl) fun G a w S => ?_
                  refine sSkip (c := r74.2 != r82.2) 16 false 81 84 S rfl rfl (by kernel_rfl) hc127 rfl (by decide) (fun a S => ?_)
                  exact leafL ⟨rfl, S⟩
                · refine fI 85 undef [(84, undef), (81, .bool (r74.2 != r82.2))] 20 [some 19, some 16] rfl rfl (by kernel_rfl) rfl (by kernel_rfl) (by kernel_rfl) fun G a w S => ?_
                  refine sSkip (c := r74.2 != r82.2) 16 false 81 85 S rfl rfl (by kernel_rfl) hc127 rfl (by decide) (fun a S => ?_)
                  exact leafL ⟨rfl, S⟩
                · refine fI 86 undef [(83, undef), (85, undef), (81, .bool (r74.2 != r82.2))] 21 [some 18, some 20, some 16] rfl rfl (by kernel_rfl) rfl (by kernel_rfl) (by kernel_rfl) fun G a w S => ?_
                  refine sSkip (c := r74.2 != r82.2) 16 false 81 86 S rfl rfl (by kernel_rfl) hc127 rfl (by decide) (fun a S => ?_)
                  exact leafL ⟨rfl, S⟩
                · refine fI 87 (.bool true) [(81, .bool (r74.2 != r82.2)), (86, undef)] 22 [some 16, some 21] rfl rfl (by kernel_rfl) rfl (by kernel_rfl) (by kernel_rfl) fun G a w S => ?_
                  refine sPickT (b := r74.2 != r82.2) (.bool true) S (wN rfl) rfl (by kernel_rfl) hc127 (by kernel_rfl) rfl (by decide) (fun a S => ?_)
                  exact leafL ⟨rfl, S⟩
                · refine fI 88 (.bool true) [(87, .bool true)] 23 [some 22] rfl rfl (by kernel_rfl) rfl (by kernel_rfl) (by kernel_rfl) fun G a w S => ?_
                  refine sMove (.bool true) S (wN rfl) (.inl rfl) (by kernel_rfl) rfl (by decide) (fun a S => ?_)
                  exact leafL ⟨rfl, S⟩
                · refine fI 89 undef [(12, .int .i64 r90.2), (88, .bool true)] 24 [none, some 23] rfl rfl (by kernel_rfl) rfl (by kernel_rfl) (by kernel_rfl) fun G a w S => ?_
                  refine sSkip (c := true) 23 false 88 89 S rfl rfl (by kernel_rfl) rfl rfl (by decide) (fun a S => ?_)
                  exact leafL ⟨rfl, S⟩
                · refine fI 90 undef [(14, .int .i64 r95.2), (88, .bool true)] 25 [none, some 23] rfl rfl (by kernel_rfl) rfl (by kernel_rfl) (by kernel_rfl) fun G a w S => ?_
                  refine sSkip (c := true) 23 false 88 90 S rfl rfl (by kernel_rfl) rfl rfl (by decide) (fun a S => ?_)
                  exact leafL ⟨rfl, S⟩
                · refine fI 91 undef [(89, undef), (90, undef), (88, .bool true)] 26 [some 24, some 25, some 23] rfl rfl (by kernel_rfl) rfl (by kernel_rfl) (by kernel_rfl) fun G a w S => ?_
                  refine sSkip (c := true) 23 false 88 91 S rfl rfl (by kernel_rfl) rfl rfl (by decide) (fun a S => ?_)
                  exact leafL ⟨rfl, S⟩
                · refine fI 92 (.bool true) [(88, .bool true), (91, undef)] 27 [some 23, some 26] rfl rfl (by kernel_rfl) rfl (by kernel_rfl) (by kernel_rfl) fun G a w S => ?_
                  refine sPickT (b := true) (.bool true) S (wN rfl) rfl (by kernel_rfl) rfl (by kernel_rfl) rfl (by decide) (fun a S => ?_)
                  exact leafL ⟨rfl, S⟩
                · refine fI 93 (.bool true) [(92, .bool true)] 28 [some 27] rfl rfl (by kernel_rfl) rfl (by kernel_rfl) (by kernel_rfl) fun G a w S => ?_
                  refine sMove (.bool true) S (wN rfl) (.inl rfl) (by kernel_rfl) rfl (by decide) (fun a S => ?_)
                  exact leafL ⟨rfl, S⟩
                · refine fI 94 undef [(15, .pointer (some ⟨b106, 0, none⟩)), (93, .bool true)] 29 [none, some 28] rfl rfl (by kernel_rfl) rfl (by kernel_rfl) (by kernel_rfl) fun G a w S => ?_
                  refine sSkip (c := true) 28 false 93 94 S rfl rfl (by kernel_rfl) rfl rfl (by decide) (fun a S => ?_)
                  exact leafL ⟨rfl, S⟩
                · refine fI 95 undef [(17, .pointer (some ⟨b114, 0, none⟩)), (93, .bool true)] 30 [none, some 28] rfl rfl (by kernel_rfl) rfl (by kernel_rfl) (by kernel_rfl) fun G a w S => ?_
                  refine sSkip (c := true) 28 false 93 95 S rfl rfl (by kernel_rfl) rfl rfl (by decide) (fun a S => ?_)
                  exact leafL ⟨rfl, S⟩
                · refine fI 96 undef [(94, undef), (95, undef), (93, .bool true)] 31 [some 29, some 30, some 28] rfl rfl (by kernel_rfl) rfl (by kernel_rfl) (by kernel_rfl) fun G a w S => ?_
                  refine sSkip (c := true) 28 false 93 96 S rfl rfl (by kernel_rfl) rfl rfl (by decide) (fun a S => ?_)
                  exact leafL ⟨rfl, S⟩
                · refine fI 97 undef [(96, undef), (93, .bool true)] 32 [some 31, some 28] rfl rfl (by kernel_rfl) rfl (by kernel_rfl) (by kernel_rfl) fun G a w S => ?_
                  refine sSkip (c := true) 28 false 93 97 S rfl rfl (by kernel_rfl) rfl rfl (by decide) (fun a S => ?_)
                  exact leafL ⟨rfl, S⟩
                · refine fI 98 (.bool true) [(93, .bool true), (97, undef)] 33 [some 28, some 32] rfl rfl (by kernel_rfl) rfl (by kernel_rfl) (by kernel_rfl) fun G a w S => ?_
                  refine sPickT (b := true) (.bool true) S (wN rfl) rfl (by kernel_rfl) rfl (by kernel_rfl) rfl (by decide) (fun a S => ?_)
                  exact leafL ⟨rfl, S⟩
                · refine fI 99 (.bool true) [(98, .bool true)] 34 [some 33] rfl rfl (by kernel_rfl) rfl (by kernel_rfl) (by kernel_rfl) fun G a w S => ?_
                  refine sMove (.bool true) S (wN rfl) (.inl rfl) (by kernel_rfl) rfl (by decide) (fun a S => ?_)
                  exact leafL ⟨rfl, S⟩
                · refine fI 100 undef [(16, .int .i64 r100.2), (99, .bool true)] 35 [none, some 34] rfl rfl (by kernel_rfl) rfl (by kernel_rfl) (by kernel_rfl) fun G a w S => ?_
                  refine sSkip (c := true) 34 false 99 100 S rfl rfl (by kernel_rfl) rfl rfl (by decide) (fun a S => ?_)
                  exact leafL ⟨rfl, S⟩
                · refine fI 101 undef [(18, .int .i64 r108.2), (99, .bool true)] 36 [none, some 34] rfl rfl (by kernel_rfl) rfl (by kernel_rfl) (by kernel_rfl) fun G a w S => ?_
                  refine sSkip (c := true) 34 false 99 101 S rfl rfl (by kernel_rfl) rfl rfl (by decide) (fun a S => ?_)
                  exact leafL ⟨rfl, S⟩
                · refine fI 102 undef [(100, undef), (101, undef), (99, .bool true)] 37 [some 35, some 36, some 34] rfl rfl (by kernel_rfl) rfl (by kernel_rfl) (by kernel_rfl) fun G a w S => ?_
                  refine sSkip (c := true) 34 false 99 102 S rfl rfl (by kernel_rfl) rfl rfl (by decide) (fun a S => ?_)
                  exact leafL ⟨rfl, S⟩
                · refine fI 103 (.bool true) [(99, .bool true), (102, undef)] 38 [some 34, some 37] rfl rfl (by kernel_rfl) rfl (by kernel_rfl) (by kernel_rfl) fun G a w S => ?_
                  refine sPickT (b := true) (.bool true) S (wN rfl) rfl (by kernel_rfl) rfl (by kernel_rfl) rfl (by decide) (fun a S => ?_)
                  exact leafL ⟨rfl, S⟩
                · exact leafT (⟨true, Option.some.inj h, S.fix [15, 3, 16, 17, 7, 6, 4, 5] [4, 5] (by decide) (by kernel_rfl) (by kernel_rfl) (by kernel_rfl)⟩)
              · rcases iteSome h with ⟨hc128, h⟩ | ⟨hc128, h⟩
                · refine sDraw (nf := []) (W := [(0, 65, .agg #[.slice ad13 p1.Left.length cp14, .slice ad15 p1.Right.length cp16]), (1, 66, .int .i64 r119), (2, 67, .agg #[.slice ad13 p1.Left.length cp14, .slice ad15 p1.Right.length cp16]), (3, 68, .int .i64 r121), (4, 69, .bool (r119 != r121)), (5, 70, .bool (r119 != r121)), (6, 71, .agg #[.slice ad76 r74.1.Left.length cp77, .slice ad78 r74.1.Right.length cp79]), (7, 72, .agg #[.slice ad84 r82.1.Left.length cp85, .slice ad86 r82.1.Right.length cp87]), (8, 73, .bool r124), (9, 74, .bool (!r124)), (10, 75, .bool (!r124)), (11, 76, .bool (!r124)), (12, 77, .int .i64 r74.2), (13, 78, .int .i64 r82.2), (14, 79, .bool (r74.2 != r82.2)), (15, 80, .bool (r74.2 != r82.2)), (16, 81, .bool (r74.2 != r82.2)), (17, 82, .slice ad92 r90.1.length cp93), (18, 83, .int .i64 (r90.1.length : Int)), (19, 84, .slice ad97 r95.1.length cp98), (20, 85, .int .i64 (r95.1.length : Int)), (21, 86, .bool ((r90.1.length : Int) != (r95.1.length : Int))), (22, 87, .bool ((r90.1.length : Int) != (r95.1.length : Int))), (23, 88, .bool ((r90.1.length : Int) != (r95.1.length : Int))), (24, 89, undef), (25, 90, undef), (26, 91, undef), (27, 92, .bool true), (28, 93, .bool true), (29, 94, undef), (30, 95, undef), (31, 96, undef), (32, 97, undef), (33, 98, .bool true), (34, 99, .bool true), (35, 100, undef), (36, 101, undef), (37, 102, undef), (38, 103, .bool true)]) (by kernel_rfl) S ?_
                  refine node_by (A := anc_raddlelaw37_PieceMakes_1) (nf := []) (Y := []) (W := [(0, 65, .agg #[.slice ad13 p1.Left.length cp14, .slice ad15 p1.Right.length cp16]), (1, 66, .int .i64 r119), (2, 67, .agg #[.slice ad13 p1.Left.length cp14, .slice ad15 p1.Right.length cp16]), (3, 68, .int .i64 r121), (4, 69, .bool (r119 != r121)), (5, 70, .bool (r119 != r121)), (6, 71, .agg #[.slice ad76 r74.1.Left.length cp77, .slice ad78 r74.1.Right.length cp79]), (7, 72, .agg #[.slice ad84 r82.1.Left.length cp85, .slice ad86 r82.1.Right.length cp87]), (8, 73, .bool r124), (9, 74, .bool (!r124)), (10, 75, .bool (!r124)), (11, 76, .bool (!r124)), (12, 77, .int .i64 r74.2), (13, 78, .int .i64 r82.2), (14, 79, .bool (r74.2 != r82.2)), (15, 80, .bool (r74.2 != r82.2)), (16, 81, .bool (r74.2 != r82.2)), (17, 82, .slice ad92 r90.1.length cp93), (18, 83, .int .i64 (r90.1.length : Int)), (19, 84, .slice ad97 r95.1.length cp98), (20, 85, .int .i64 (r95.1.length : Int)), (21, 86, .bool ((r90.1.length : Int) != (r95.1.length : Int))), (22, 87, .bool ((r90.1.length : Int) != (r95.1.length : Int))), (23, 88, .bool ((r90.1.length : Int) != (r95.1.length : Int))), (24, 89, undef), (25, 90, undef), (26, 91, undef), (27, 92, .bool true), (28, 93, .bool true), (29, 94, undef), (30, 95, undef), (31, 96, undef), (32, 97, undef), (33, 98, .bool true), (34, 99, .bool true), (35, 100, undef), (36, 101, undef), (37, 102, undef), (38, 103, .bool true)]) 39 (by kernel_rfl) (by kernel_rfl) (by kernel_rfl) (by kernel_rfl) (by kernel_rfl) [0, 1, 2, 3, 4, 5, 6, 7, 8, 9, 10, 11, 12, 13, 14, 15, 16, 17, 18, 19, 20, 21, 22, 23, 24, 25, 26, 27, 28, 29, 30, 31, 32, 33, 34, 35, 36, 37, 38] (by kernel_rfl) (by decide) (by decide) (aF 0 38 (by decide) ?_ (aF 1 37 (by decide) ?_ (aF 2 36 (by decide) ?_ (aF 3 35 (by decide) ?_ (aF 4 34 (by decide) ?_ (aF 5 33 (by decide) ?_ (aF 6 32 (by decide) ?_ (aF 7 31 (by decide) ?_ (aF 8 30 (by decide) ?_ (aF 9 29 (by decide) ?_ (aF 10 28 (by decide) ?_ (aF 11 27 (by decide) ?_ (aF 12 26 (by decide) ?_ (aF 13 25 (by decide) ?_ (aF 14 24 (by decide) ?_ (aF 15 23 (by decide) ?_ (aF 16 22 (by decide) ?_ (aF 17 21 (by decide) ?_ (aF 18 20 (by decide) ?_ (aF 19 19 (by decide) ?_ (aF 20 18 (by decide) ?_ (aF 21 17 (by decide) ?_ (aF 22 16 (by decide) ?_ (aF 23 15 (by decide) ?_ (aF 24 14 (by decide) ?_ (aF 25 13 (by decide) ?_ (aF 26 12 (by decide) ?_ (aF 27 11 (by decide) ?_ (aF 28 10 (by decide) ?_ (aF 29 9 (by decide) ?_ (aF 30 8 (by decide) ?_ (aF 31 7 (by decide) ?_ (aF 32 6 (by decide) ?_ (aF 33 5 (by decide) ?_ (aF 34 4 (by decide) ?_ (aF 35 3 (by decide) ?_ (aF 36 2 (by decide) ?_ (aF 37 1 (by decide) ?_ (aF 38 0 (by decide) ?_ (trivial)))))))))))))))))))))))))))))))))))))))) [(3, .pointer (some ⟨b19, 0, none⟩)), (5, .slice ad32 o31.length cp33), (6, .slice ad35 o34.length cp36), (11, .slice ad92 r90.1.length cp93), (13, .slice ad97 r95.1.length cp98), (15, .pointer (some ⟨b106, 0, none⟩)), (103, .bool true)] (fin_of [none, none, none, none, none, none, some 38] rfl (by kernel_rfl) (by kernel_rfl)) (fun _ a w S => ?_)
                  · refine fI 65 (.agg #[.slice ad13 p1.Left.length cp14, .slice ad15 p1.Right.length cp16]) [(3, .pointer (some ⟨b19, 0, none⟩))] 0 [none] rfl rfl (by kernel_rfl) rfl (by kernel_rfl) (by kernel_rfl) fun G a w S => ?_
                    refine sLoadN (p := b19) (off := 0) (T := 36) (vs := [.slice ad13 p1.Left.length cp14, .slice ad15 p1.Right.length cp16]) 15 [.slice ad13 p1.Left.length cp14, .slice ad15 p1.Right.length cp16] S (wN rfl) rfl (by kernel_rfl) (by kernel_rfl) (by kernel_rfl) (by kernel_rfl) rfl rfl (by decide) (fun a S => ?_)
                    exact leafL ⟨rfl, S⟩
                  · refine fI 66 (.int .i64 r119) [(65, .agg #[.slice ad13 p1.Left.length cp14, .slice ad15 p1.Right.length cp16])] 1 [some 0] rfl rfl (by kernel_rfl) rfl (by kernel_rfl) (by kernel_rfl) fun G a w S => ?_
                    have S1 := S.mem
                    refine sCallQ (X := Unit) (f := 17) (vs := [.agg #[.slice ad13 p1.Left.length cp14, .slice ad15 p1.Right.length cp16]]) (val := fun _ => .int .i64 r119) S (wN rfl) rfl callee17 (by kernel_rfl) (S1.quiet [0] (by kernel_rfl)) (fun E1 w1 S1 => c_piece_Check E1 w1 p1 (.agg #[.slice ad13 p1.Left.length cp14, .slice ad15 p1.Right.length cp16]) r119 hx120 S1) rfl (by decide) (fun _ a w S => ?_)
                    exact leafL ⟨rfl, S⟩
                  · refine fI 67 (.agg #[.slice ad13 p1.Left.length cp14, .slice ad15 p1.Right.length cp16]) [(3, .pointer (some ⟨b19, 0, none⟩))] 2 [none] rfl rfl (by kernel_rfl) rfl (by kernel_rfl) (by kernel_rfl) fun G a w S => ?_
                    refine sLoadN (p := b19) (off := 0) (T := 36) (vs := [.slice ad13 p1.Left.length cp14, .slice ad15 p1.Right.length cp16]) 15 [.slice ad13 p1.Left.length cp14, .slice ad15 p1.Right.length cp16] S (wN rfl) rfl (by kernel_rfl) (by kernel_rfl) (by kernel_rfl) (by kernel_rfl) rfl rfl (by decide) (fun a S => ?_)
                    exact leafL ⟨rfl, S⟩
                  · refine fI 68 (.int .i64 r121) [(67, .agg #[.slice ad13 p1.Left.length cp14, .slice ad15 p1.Right.length cp16])] 3 [some 2] rfl rfl (by kernel_rfl) rfl (by kernel_rfl) (by kernel_rfl) fun G a w S => ?_
                    have S1 := S.mem
                    refine sCallQ (X := Unit) (f := 18) (vs := [.agg #[.slice ad13 p1.Left.length cp14, .slice ad15 p1.Right.length cp16]]) (val := fun _ => .int .i64 r121) S (wN rfl) rfl callee18 (by kernel_rfl) (S1.quiet [0] (by kernel_rfl)) (fun E1 w1 S1 => c_raddleref37_Check E1 w1 p1 (.agg #[.slice ad13 p1.Left.length cp14, .slice ad15 p1.Right.length cp16]) r121 hx122 S1) rfl (by decide) (fun _ a w S => ?_)
                    exact leafL ⟨rfl, S⟩
                  · refine fI 69 (.bool (r119 != r121)) [(66, .int .i64 r119), (68, .int .i64 r121)] 4 [some 1, some 3] rfl rfl (by kernel_rfl) rfl (by kernel_rfl) (by kernel_rfl) fun G a w S => ?_
                    refine sBin (.bool (r119 != r121)) S (wN rfl) rfl (by kernel_rfl) (by kernel_rfl) (bNe _ _ _ _ .i64 r119 r121) rfl (by decide) (fun a S => ?_)
                    exact leafL ⟨rfl, S⟩
                  · refine fI 70 (.bool (r119 != r121)) [(69, .bool (r119 != r121))] 5 [some 4] rfl rfl (by kernel_rfl) rfl (by kernel_rfl) (by kernel_rfl) fun G a w S => ?_
                    refine sMove (.bool (r119 != r121)) S (wN rfl) (.inl rfl) (by kernel_rfl) rfl (by decide) (fun a S => ?_)
                    exact leafL ⟨rfl, S⟩
                  · refine fI 71 (.agg #[.slice ad76 r74.1.Left.length cp77, .slice ad78 r74.1.Right.length cp79]) [(7, .pointer (some ⟨b80, 0, none⟩)), (70, .bool (r119 != r121))] 6 [none, some 5] rfl rfl (by kernel_rfl) rfl (by kernel_rfl) (by kernel_rfl) fun G a w S => ?_
                    refine sLoadN (p := b80) (off := 0) (T := 36) (vs := [.slice ad76 r74.1.Left.length cp77, .slice ad78 r74.1.Right.length cp79]) 11 [.slice ad76 r74.1.Left.length cp77, .slice ad78 r74.1.Right.length cp79] S (wG (c := r119 != r121) 5 false 70 rfl rfl (by kernel_rfl) hc123) rfl (by kernel_rfl) (by kernel_rfl) (by kernel_rfl) (by kernel_rfl) rfl rfl (by decide) (fun a S => ?_)
                    exact leafL ⟨rfl, S⟩
                  · refine fI 72 (.agg #[.slice ad84 r82.1.Left.length cp85, .slice ad86 r82.1.Right.length cp87]) [(9, .pointer (some ⟨b88, 0, none⟩)), (70, .bool (r119 != r121))] 7 [none, some 5] rfl rfl (by kernel_rfl) rfl (by kernel_rfl) (by kernel_rfl) fun G a w S => ?_
                    refine sLoadN (p := b88) (off := 0) (T := 36) (vs := [.slice ad84 r82.1.Left.length cp85, .slice ad86 r82.1.Right.length cp87]) 8 [.slice ad84 r82.1.Left.length cp85, .slice ad86 r82.1.Right.length cp87] S (wG (c := r119 != r121) 5 false 70 rfl rfl (by kernel_rfl) hc123) rfl (by kernel_rfl) (by kernel_rfl) (by kernel_rfl) (by kernel_rfl) rfl rfl (by decide) (fun a S => ?_)
                    exact leafL ⟨rfl, S⟩
                  · refine fI 73 (.bool r124) [(71, .agg #[.slice ad76 r74.1.Left.length cp77, .slice ad78 r74.1.Right.length cp79]), (72, .agg #[.slice ad84 r82.1.Left.length cp85, .slice ad86 r82.1.Right.length cp87]), (70, .bool (r119 != r121))] 8 [some 6, some 7, some 5] rfl rfl (by kernel_rfl) rfl (by kernel_rfl) (by kernel_rfl) fun G a w S => ?_
                    have S1 := S.mem
                    have S1 := S1.shutR (r := (rI .i64)) (T := 3) (v := .slice ad76 r74.1.Left.length cp77) (xs := r74.1.Left) 12 (by kernel_rfl)
                    have S1 := S1.shutR (r := (rI .i64)) (T := 3) (v := .slice ad78 r74.1.Right.length cp79) (xs := r74.1.Right) 12 (by kernel_rfl)
                    have S1 := S1.learn (fRep r_api_Piece (.agg #[.slice ad76 r74.1.Left.length cp77, .slice ad78 r74.1.Right.length cp79]) r74.1) ⟨_, _, rfl, S1.know (i := 1) (e := fRep (rL (rI .i64)) (.slice ad76 r74.1.Left.length cp77) r74.1.Left) (by kernel_rfl), S1.know (i := 0) (e := fRep (rL (rI .i64)) (.slice ad78 r74.1.Right.length cp79) r74.1.Right) (by kernel_rfl)⟩
                    have S1 := S1.shutR (r := (rI .i64)) (T := 3) (v := .slice ad84 r82.1.Left.length cp85) (xs := r82.1.Left) 9 (by kernel_rfl)
                    have S1 := S1.shutR (r := (rI .i64)) (T := 3) (v := .slice ad86 r82.1.Right.length cp87) (xs := r82.1.Right) 9 (by kernel_rfl)
                    have S1 := S1.learn (fRep r_api_Piece (.agg #[.slice ad84 r82.1.Left.length cp85, .slice ad86 r82.1.Right.length cp87]) r82.1) ⟨_, _, rfl, S1.know (i := 1) (e := fRep (rL (rI .i64)) (.slice ad84 r82.1.Left.length cp85) r82.1.Left) (by kernel_rfl), S1.know (i := 0) (e := fRep (rL (rI .i64)) (.slice ad86 r82.1.Right.length cp87) r82.1.Right) (by kernel_rfl)⟩
                    refine sCallQ (X := Unit) (f := 19) (vs := [.agg #[.slice ad76 r74.1.Left.length cp77, .slice ad78 r74.1.Right.length cp79], .agg #[.slice ad84 r82.1.Left.length cp85, .slice ad86 r82.1.Right.length cp87]]) (val := fun _ => .bool r124) S (wG (c := r119 != r121) 5 false 70 rfl rfl (by kernel_rfl) hc123) rfl callee19 (by kernel_rfl) (S1.quiet [3, 0] (by kernel_rfl)) (fun E1 w1 S1 => c_raddleref37_Same E1 w1 r74.1 (.agg #[.slice ad76 r74.1.Left.length cp77, .slice ad78 r74.1.Right.length cp79]) r82.1 (.agg #[.slice ad84 r82.1.Left.length cp85, .slice ad86 r82.1.Right.length cp87]) r124 hx125 S1) rfl (by decide) (fun _ a w S => ?_)
                    exact leafL ⟨rfl, S⟩
                  · refine fI 74 (.bool (!r124)) [(73, .bool r124), (70, .bool (r119 != r121))] 9 [some 8, some 5] rfl rfl (by kernel_rfl) rfl (by kernel_rfl) (by kernel_rfl) fun G a w S => ?_
                    refine sNot (b := r124) S (wG (c := r119 != r121) 5 false 70 rfl rfl (by kernel_rfl) hc123) rfl (by kernel_rfl) rfl (by decide) (fun a S => ?_)
                    exact leafL ⟨rfl, S⟩
                  · refine fI 75 (.bool (!r124)) [(70, .bool (r119 != r121)), (74, .bool (!r124))] 10 [some 5, some 9] rfl rfl (by kernel_rfl) rfl (by kernel_rfl) (by kernel_rfl) fun G a w S => ?_
                    refine sPickF (b := r119 != r121) (.bool (!r124)) S (wN rfl) rfl (by kernel_rfl) hc123 (by kernel_rfl) rfl (by decide) (fun a S => ?_)
                    exact leafL ⟨rfl, S⟩
                  · refine fI 76 (.bool (!r124)) [(75, .bool (!r124))] 11 [some 10] rfl rfl (by kernel_rfl) rfl (by kernel_rfl) (by kernel_rfl) fun G a w S => ?_
                    refine sMove (.bool (!r124)) S (wN rfl) (.inl rfl) (by kernel_rfl) rfl (by decide) (fun a S => ?_)
                    exact leafL ⟨rfl, S⟩
                  · refine fI 77 (.int .i64 r74.2) [(8, .int .i64 r74.2), (76, .bool (!r124))] 12 [none, some 11] rfl rfl (by kernel_rfl) rfl (by kernel_rfl) (by kernel_rfl) fun G a w S => ?_
                    refine sMove (.int .i64 r74.2) S (wG (c := !r124) 11 false 76 rfl rfl (by kernel_rfl) hc126) (.inl rfl) (by kernel_rfl) rfl (by decide) (fun a S => ?_)
                    exact leafL ⟨rfl, S⟩
                  · refine fI 78 (.int .i64 r82.2) [(10, .int .i64 r82.2), (76, .bool (!r124))] 13 [none, some 11] rfl rfl (by kernel_rfl) rfl (by kernel_rfl) (by kernel_rfl) fun G a w S => ?_
                    refine sMove (.int .i64 r82.2) S (wG (c := !r124) 11 false 76 rfl rfl (by kernel_rfl) hc126) (.inl rfl) (by kernel_rfl) rfl (by decide) (fun a S => ?_)
                    exact leafL ⟨rfl, S⟩
                  · refine fI 79 (.bool (r74.2 != r82.2)) [(77, .int .i64 r74.2), (78, .int .i64 r82.2), (76, .bool (!r124))] 14 [some 12, some 13, some 11] rfl rfl (by kernel_rfl) rfl (by kernel_rfl) (by kernel_rfl) fun G a w S => ?_
                    refine sBin (.bool (r74.2 != r82.2)) S (wG (c := !r124) 11 false 76 rfl rfl (by kernel_rfl) hc126) rfl (by kernel_rfl) (by kernel_rfl) (bNe _ _ _ _ .i64 r74.2 r82.2) rfl (by decide) (fun a S => ?_)
                    exact leafL ⟨rfl, S⟩
                  · refine fI 80 (.bool (r74.2 != r82.2)) [(76, .bool (!r124)), (79, .bool (r74.2 != r82.2))] 15 [some 11, some 14] rfl rfl (by kernel_rfl) rfl (by kernel_rfl) (by kernel_rfl) fun G a w S => ?_
                    refine sPickF (b := !r124) (.bool (r74.2 != r82.2)) S (wN rfl) rfl (by kernel_rfl) hc126 (by kernel_rfl) rfl (by decide) (fun a S => ?_)
                    exact leafL ⟨rfl, S⟩
                  · refine fI 81 (.bool (r74.2 != r82.2)) [(80, .bool (r74.2 != r82.2))] 16 [some 15] rfl rfl (by kernel_rfl) rfl (by kernel_rfl) (by kernel_rfl) fun G a w S => ?_
                    refine sMove (.bool (r74.2 != r82.2)) S (wN rfl) (.inl rfl) (by kernel_rfl) rfl (by decide) (fun a S => ?_)
                    exact leafL ⟨rfl, S⟩
                  · refine fI 82 (.slice ad92 r90.1.length cp93) [(11, .slice ad92 r90.1.length cp93), (81, .bool (r74.2 != r82.2))] 17 [none, some 16] rfl rfl (by kernel_rfl) rfl (by kernel_rfl) (by kernel_rfl) fun G a w S => ?_
                    refine sMove (.slice ad92 r90.1.length cp93) S (wG (c := r74.2 != r82.2) 16 false 81 rfl rfl (by kernel_rfl) hc127) (.inl rfl) (by kernel_rfl) rfl (by decide) (fun a S => ?_)
                    exact leafL ⟨rfl, S⟩
                  · refine fI 83 (.int .i64 (r90.1.length : Int)) [(82, .slice ad92 r90.1.length cp93), (81, .bool (r74.2 != r82.2))] 18 [some 17, some 16] rfl rfl (by kernel_rfl) rfl (by kernel_rfl) (by kernel_rfl) fun G a w S => ?_
                    refine sLen (ad := ad92) (m := r90.1.length) (c := cp93) S (wG (c := r74.2 != r82.2) 16 false 81 rfl rfl (by kernel_rfl) hc127) rfl Try.underlying43 (by kernel_rfl) rfl (by decide) (fun a S => ?_)
                    exact leafL ⟨rfl, S⟩
                  · refine fI 84 (.slice ad97 r95.1.length cp98) [(13, .slice ad97 r95.1.length cp98), (81, .bool (r74.2 != r82.2))] 19 [none, some 16] rfl rfl (by kernel_rfl) rfl (by kernel_rfl) (by kernel_rfl) fun G a w S => ?_
                    refine sMove (.slice ad97 r95.1.length cp98) S (wG (c := r74.2 != r82.2) 16 false 81 rfl rfl (by kernel_rfl) hc127) (.inl rfl) (by kernel_rfl) rfl (by decide) (fun a S => ?_)
                    exact leafL ⟨rfl, S⟩
                  · refine fI 85 (.int .i64 (r95.1.length : Int)) [(84, .slice ad97 r95.1.length cp98), (81, .bool (r74.2 != r82.2))] 20 [some 19, some 16] rfl rfl (by kernel_rfl) rfl (by kernel_rfl) (by kernel_rfl) fun G a w S => ?_
                    refine sLen (ad := ad97) (m := r95.1.length) (c := cp98) S (wG (c := r74.2 != r82.2) 16 false 81 rfl rfl (by kernel_rfl) hc127) rfl Try.underlying43 (by kernel_rfl) rfl (by decide) (fun a S => ?_)
                    exact leafL ⟨rfl, S⟩
                  · refine fI 86 (.bool ((r90.1.length : Int) != (r95.1.length : Int))) [(83, .int .i64 (r90.1.length : Int)), (85, .int .i64 (r95.1.length : Int)), (81, .bool (r74.2 != r82.2))] 21 [some 18, some 20, some 16] rfl rfl (by kernel_rfl) rfl (by kernel_rfl) (by kernel_rfl) fun G a w S => ?_
                    refine sBin (.bool ((r90.1.length : Int) != (r95.1.length : Int))) S (wG (c := r74.2 != r82.2) 16 false 81 rfl rfl (by kernel_rfl) hc127) rfl (by kernel_rfl) (by kernel_rfl) (bNe _ _ _ _ .i64 (r90.1.length : Int) (r95.1.length : Int)) rfl (by decide) (fun a S => ?_)
                    exact leafL ⟨rfl, S⟩
                  · refine fI 87 (.bool ((r90.1.length : Int) != (r95.1.length : Int))) [(81, .bool (r74.2 != r82.2)), (86, .bool ((r90.1.length : Int) != (r95.1.length : Int)))] 22 [some 16, some 21] rfl rfl (by kernel_rfl) rfl (by kernel_rfl) (by kernel_rfl) fun G a w S => ?_
                    refine sPickF (b := r74.2 != r82.2) (.bool ((r90.1.length : Int) != (r95.1.length : Int))) S (wN rfl) rfl (by kernel_rfl) hc127 (by kernel_rfl) rfl (by decide) (fun a S => ?_)
                    exact leafL ⟨rfl, S⟩
                  · refine fI 88 (.bool ((r90.1.length : Int) != (r95.1.length : Int))) [(87, .bool ((r90.1.length : Int) != (r95.1.length : Int)))] 23 [some 22] rfl rfl (by kernel_rfl) rfl (by kernel_rfl) (by kernel_rfl) fun G a w S => ?_
                    refine sMove (.bool ((r90.1.length : Int) != (r95.1.length : Int))) S (wN rfl) (.inl rfl) (by kernel_rfl) rfl (by decide) (fun a S => ?_)
                    exact leafL ⟨rfl, S⟩
                  · refine fI 89 undef [(12, .int .i64 r90.2), (88, .bool ((r90.1.length : Int) != (r95.1.length : Int)))] 24 [none, some 23] rfl rfl (by kernel_rfl) rfl (by kernel_rfl) (by kernel_rfl) fun G a w S => ?_
                    refine sSkip (c := (r90.1.length : Int) != (r95.1.length : Int)) 23 false 88 89 S rfl rfl (by kernel_rfl) hc128 rfl (by decide) (fun a S => ?_)
                    exact leafL ⟨rfl, S⟩
                  · refine fI 90 undef [(14, .int .i64 r95.2), (88, .bool ((r90.1.length : Int) != (r95.1.length : Int)))] 25 [none, some 23] rfl rfl (by kernel_rfl) rfl (by kernel_rfl) (by kernel_rfl) fun G a w S => ?_
                    refine sSkip (c := (r90.1.length : Int) != (r95.1.length : Int)) 23 false 88 90 S rfl rfl (by kernel_rfl) hc128 rfl (by decide) (fun a S => ?_)
                    exact leafL ⟨rfl, S⟩
                  · refine fI 91 undef [(89, undef), (90, undef), (88, .bool ((r90.1.length : Int) != (r95.1.length : Int)))] 26 [some 24, some 25, some 23] rfl rfl (by kernel_rfl) rfl (by kernel_rfl) (by kernel_rfl) fun G a w S => ?_
                    refine sSkip (c := (r90.1.length : Int) != (r95.1.length : Int)) 23 false 88 91 S rfl rfl (by kernel_rfl) hc128 rfl (by decide) (fun a S => ?_)
                    exact leafL ⟨rfl, S⟩
                  · refine fI 92 (.bool true) [(88, .bool ((r90.1.length : Int) != (r95.1.length : Int))), (91, undef)] 27 [some 23, some 26] rfl rfl (by kernel_rfl) rfl (by kernel_rfl) (by kernel_rfl) fun G a w S => ?_
                    refine sPickT (b := (r90.1.length : Int) != (r95.1.length : Int)) (.bool true) S (wN rfl) rfl (by kernel_rfl) hc128 (by kernel_rfl) rfl (by decide) (fun a S => ?_)
                    exact leafL ⟨rfl, S⟩
                  · refine fI 93 (.bool true) [(92, .bool true)] 28 [some 27] rfl rfl (by kernel_rfl) rfl (by kernel_rfl) (by kernel_rfl) fun G a w S => ?_
                    refine sMove (.bool true) S (wN rfl) (.inl rfl) (by kernel_rfl) rfl (by decide) (fun a S => ?_)
                    exact leafL ⟨rfl, S⟩
                  · refine fI 94 undef [(15, .pointer (some ⟨b106, 0, none⟩)), (93, .bool true)] 29 [none, some 28] rfl rfl (by kernel_rfl) rfl (by kernel_rfl) (by kernel_rfl) fun G a w S => ?_
                    refine sSkip (c := true) 28 false 93 94 S rfl rfl (by kernel_rfl) rfl rfl (by decide) (fun a S => ?_)
                    exact leafL ⟨rfl, S⟩
                  · refine fI 95 undef [(17, .pointer (some ⟨b114, 0, none⟩)), (93, .bool true)] 30 [none, some 28] rfl rfl (by kernel_rfl) rfl (by kernel_rfl) (by kernel_rfl) fun G a w S => ?_
                    refine sSkip (c := true) 28 false 93 95 S rfl rfl (by kernel_rfl) rfl rfl (by decide) (fun a S => ?_)
                    exact leafL ⟨rfl, S⟩
                  · refine fI 96 undef [(94, undef), (95, undef), (93, .bool true)] 31 [some 29, some 30, some 28] rfl rfl (by kernel_rfl) rfl (by kernel_rfl) (by kernel_rfl) fun G a w S => ?_
                    refine sSkip (c := true) 28 false 93 96 S rfl rfl (by kernel_rfl) rfl rfl (by decide) (fun a S => ?_)
                    exact leafL ⟨rfl, S⟩
                  · refine fI 97 undef [(96, undef), (93, .bool true)] 32 [some 31, some 28] rfl rfl (by kernel_rfl) rfl (by kernel_rfl) (by kernel_rfl) fun G a w S => ?_
                    refine sSkip (c := true) 28 false 93 97 S rfl rfl (by kernel_rfl) rfl rfl (by decide) (fun a S => ?_)
                    exact leafL ⟨rfl, S⟩
                  · refine fI 98 (.bool true) [(93, .bool true), (97, undef)] 33 [some 28, some 32] rfl rfl (by kernel_rfl) rfl (by kernel_rfl) (by kernel_rfl) fun G a w S => ?_
                    refine sPickT (b := true) (.bool true) S (wN rfl) rfl (by kernel_rfl) rfl (by kernel_rfl) rfl (by decide) (fun a S => ?_)
                    exact leafL ⟨rfl, S⟩
                  · refine fI 99 (.bool true) [(98, .bool true)] 34 [some 33] rfl rfl (by kernel_rfl) rfl (by kernel_rfl) (by kernel_rfl) fun G a w S => ?_
                    refine sMove (.bool true) S (wN rfl) (.inl rfl) (by kernel_rfl) rfl (by decide) (fun a S => ?_)
                    exact leafL ⟨rfl, S⟩
                  · refine fI 100 undef [(16, .int .i64 r100.2), (99, .bool true)] 35 [none, some 34] rfl rfl (by kernel_rfl) rfl (by kernel_rfl) (by kernel_rfl) fun G a w S => ?_
                    refine sSkip (c := true) 34 false 99 100 S rfl rfl (by kernel_rfl) rfl rfl (by decide) (fun a S => ?_)
                    exact leafL ⟨rfl, S⟩
                  · refine fI 101 undef [(18, .int .i64 r108.2), (99, .bool true)] 36 [none, some 34] rfl rfl (by kernel_rfl) rfl (by kernel_rfl) (by kernel_rfl) fun G a w S => ?_
                    refine sSkip (c := true) 34 false 99 101 S rfl rfl (by kernel_rfl) rfl rfl (by decide) (fun a S => ?_)
                    exact leafL ⟨rfl, S⟩
                  · refine fI 102 undef [(100, undef), (101, undef), (99, .bool true)] 37 [some 35, some 36, some 34] rfl rfl (by kernel_rfl) rfl (by kernel_rfl) (by kernel_rfl) fun G a w S => ?_
                    refine sSkip (c := true) 34 false 99 102 S rfl rfl (by kernel_rfl) rfl rfl (by decide) (fun a S => ?_)
                    exact leafL ⟨rfl, S⟩
                  · refine fI 103 (.bool true) [(99, .bool true), (102, undef)] 38 [some 34, some 37] rfl rfl (by kernel_rfl) rfl (by kernel_rfl) (by kernel_rfl) fun G a w S => ?_
                    refine sPickT (b := true) (.bool true) S (wN rfl) rfl (by kernel_rfl) rfl (by kernel_rfl) rfl (by decide) (fun a S => ?_)
                    exact leafL ⟨rfl, S⟩
                  · exact leafT (⟨true, Option.some.inj h, S.fix [15, 3, 16, 17, 7, 6, 4, 5] [4, 5] (by decide) (by kernel_rfl) (by kernel_rfl) (by kernel_rfl)⟩)
                · rcases iteSome h with ⟨hc129, h⟩ | ⟨hc129, h⟩
                  · refine sDraw (nf := []) (W := [(0, 65, .agg #[.slice ad13 p1.Left.length cp14, .slice ad15 p1.Right.length cp16]), (1, 66, .int .i64 r119), (2, 67, .agg #[.slice ad13 p1.Left.length cp14, .slice ad15 p1.Right.length cp16]), (3, 68, .int .i64 r121), (4, 69, .bool (r119 != r121)), (5, 70, .bool (r119 != r121)), (6, 71, .agg #[.slice ad76 r74.1.Left.length cp77, .slice ad78 r74.1.Right.length cp79]), (7, 72, .agg #[.slice ad84 r82.1.Left.length cp85, .slice ad86 r82.1.Right.length cp87]), (8, 73, .bool r124), (9, 74, .bool (!r124)), (10, 75, .bool (!r124)), (11, 76, .bool (!r124)), (12, 77, .int .i64 r74.2), (13, 78, .int .i64 r82.2), (14, 79, .bool (r74.2 != r82.2)), (15, 80, .bool (r74.2 != r82.2)), (16, 81, .bool (r74.2 != r82.2)), (17, 82, .slice ad92 r90.1.length cp93), (18, 83, .int .i64 (r90.1.length : Int)), (19, 84, .slice ad97 r95.1.length cp98), (20, 85, .int .i64 (r95.1.length : Int)), (21, 86, .bool ((r90.1.length : Int) != (r95.1.length : Int))), (22, 87, .bool ((r90.1.length : Int) != (r95.1.length : Int))), (23, 88, .bool ((r90.1.length : Int) != (r95.1.length : Int))), (24, 89, .int .i64 r90.2), (25, 90, .int .i64 r95.2), (26, 91, .bool (r90.2 != r95.2)), (27, 92, .bool (r90.2 != r95.2)), (28, 93, .bool (r90.2 != r95.2)), (29, 94, undef), (30, 95, undef), (31, 96, undef), (32, 97, undef), (33, 98, .bool true), (34, 99, .bool true), (35, 100, undef), (36, 101, undef), (37, 102, undef), (38, 103, .bool true)]) (by kernel_rfl) S ?_
                    refine node_by (A := anc_raddlelaw37_PieceMakes_1) (nf := []) (Y := []) (W := [(0, 65, .agg #[.slice ad13 p1.Left.length cp14, .slice ad15 p1.Right.length cp16]), (1, 66, .int .i64 r119), (2, 67, .agg #[.slice ad13 p1.Left.length cp14, .slice ad15 p1.Right.length cp16]), (3, 68, .int .i64 r121), (4, 69, .bool (r119 != r121)), (5, 70, .bool (r119 != r121)), (6, 71, .agg #[.slice ad76 r74.1.Left.length cp77, .slice ad78 r74.1.Right.length cp79]), (7, 72, .agg #[.slice ad84 r82.1.Left.length cp85, .slice ad86 r82.1.Right.length cp87]), (8, 73, .bool r124), (9, 74, .bool (!r124)), (10, 75, .bool (!r124)), (11, 76, .bool (!r124)), (12, 77, .int .i64 r74.2), (13, 78, .int .i64 r82.2), (14, 79, .bool (r74.2 != r82.2)), (15, 80, .bool (r74.2 != r82.2)), (16, 81, .bool (r74.2 != r82.2)), (17, 82, .slice ad92 r90.1.length cp93), (18, 83, .int .i64 (r90.1.length : Int)), (19, 84, .slice ad97 r95.1.length cp98), (20, 85, .int .i64 (r95.1.length : Int)), (21, 86, .bool ((r90.1.length : Int) != (r95.1.length : Int))), (22, 87, .bool ((r90.1.length : Int) != (r95.1.length : Int))), (23, 88, .bool ((r90.1.length : Int) != (r95.1.length : Int))), (24, 89, .int .i64 r90.2), (25, 90, .int .i64 r95.2), (26, 91, .bool (r90.2 != r95.2)), (27, 92, .bool (r90.2 != r95.2)), (28, 93, .bool (r90.2 != r95.2)), (29, 94, undef), (30, 95, undef), (31, 96, undef), (32, 97, undef), (33, 98, .bool true), (34, 99, .bool true), (35, 100, undef), (36, 101, undef), (37, 102, undef), (38, 103, .bool true)]) 39 (by kernel_rfl) (by kernel_rfl) (by kernel_rfl) (by kernel_rfl) (by kernel_rfl) [0, 1, 2, 3, 4, 5, 6, 7, 8, 9, 10, 11, 12, 13, 14, 15, 16, 17, 18, 19, 20, 21, 22, 23, 24, 25, 26, 27, 28, 29, 30, 31, 32, 33, 34, 35, 36, 37, 38] (by kernel_rfl) (by decide) (by decide) (aF 0 38 (by decide) ?_ (aF 1 37 (by decide) ?_ (aF 2 36 (by decide) ?_ (aF 3 35 (by decide) ?_ (aF 4 34 (by decide) ?_ (aF 5 33 (by decide) ?_ (aF 6 32 (by decide) ?_ (aF 7 31 (by decide) ?_ (aF 8 30 (by decide) ?_ (aF 9 29 (by decide) ?_ (aF 10 28 (by decide) ?_ (aF 11 27 (by decide) ?_ (aF 12 26 (by decide) ?_ (aF 13 25 (by decide) ?_ (aF 14 24 (by decide) ?_ (aF 15 23 (by decide) ?_ (aF 16 22 (by decide) ?_ (aF 17 21 (by decide) ?_ (aF 18 20 (by decide) ?_ (aF 19 19 (by decide) ?_ (aF 20 18 (by decide) ?_ (aF 21 17 (by decide) ?_ (aF 22 16 (by decide) ?_ (aF 23 15 (by decide) ?_ (aF 24 14 (by decide) ?_ (aF 25 13 (by decide) ?_ (aF 26 12 (by decide) ?_ (aF 27 11 (by decide) ?_ (aF 28 10 (by decide) ?_ (aF 29 9 (by decide) ?_ (aF 30 8 (by decide) ?_ (aF 31 7 (by decide) ?_ (aF 32 6 (by decide) ?_ (aF 33 5 (by decide) ?_ (aF 34 4 (by decide) ?_ (aF 35 3 (by decide) ?_ (aF 36 2 (by decide) ?_ (aF 37 1 (by decide) ?_ (aF 38 0 (by decide) ?_ (trivial)))))))))))))))))))))))))))))))))))))))) [(3, .pointer (some ⟨b19, 0, none⟩)), (5, .slice ad32 o31.length cp33), (6, .slice ad35 o34.length cp36), (11, .slice ad92 r90.1.length cp93), (13, .slice ad97 r95.1.length cp98), (15, .pointer (some ⟨b106, 0, none⟩)), (103, .bool true)] (fin_of [none, none, none, none, none, none, some 38] rfl (by kernel_rfl) (by kernel_rfl)) (fun _ a w S => ?_)
                    · refine fI 65 (.agg #[.slice ad13 p1.Left.length cp14, .slice ad15 p1.Right.length cp16]) [(3, .pointer (some ⟨b19, 0, none⟩))] 0 [none] rfl rfl (by kernel_rfl) rfl (by kernel_rfl) (by kernel_rfl) fun G a w S => ?_
                      refine sLoadN (p := b19) (off := 0) (T := 36) (vs := [.slice ad13 p1.Left.length cp14, .slice ad15 p1.Right.length cp16]) 15 [.slice ad13 p1.Left.length cp14, .slice ad15 p1.Right.length cp16] S (wN rfl) rfl (by kernel_rfl) (by kernel_rfl) (by kernel_rfl) (by kernel_rfl) rfl rfl (by decide) (fun a S => ?_)
                      exact leafL ⟨rfl, S⟩
                    · refine fI 66 (.int .i64 r119) [(65, .agg #[.slice ad13 p1.Left.length cp14, .slice ad15 p1.Right.length cp16])] 1 [some 0] rfl rfl (by kernel_rfl) rfl (by kernel_rfl) (by kernel_rfl) fun G a w S => ?_
                      have S1 := S.mem
                      refine sCallQ (X := Unit) (f := 17) (vs := [.agg #[.slice ad13 p1.Left.length cp14, .slice ad15 p1.Right.length cp16]]) (val := fun _ => .int .i64 r119) S (wN rfl) rfl callee17 (by kernel_rfl) (S1.quiet [0] (by kernel_rfl)) (fun E1 w1 S1 => c_piece_Check E1 w1 p1 (.agg #[.slice ad13 p1.Left.length cp14, .slice ad15 p1.Right.length cp16]) r119 hx120 S1) rfl (by decide) (fun _ a w S => ?_)
                      exact leafL ⟨rfl, S⟩
                    · refine fI 67 (.agg #[.slice ad13 p1.Left.length cp14, .slice ad15 p1.Right.length cp16]) [(3, .pointer (some ⟨b19, 0, none⟩))] 2 [none] rfl rfl (by kernel_rfl) rfl (by kernel_rfl) (by kernel_rfl) fun G a w S => ?_
                      refine sLoadN (p := b19) (off := 0) (T := 36) (vs := [.slice ad13 p1.Left.length cp14, .slice ad15 p1.Right.length cp16]) 15 [.slice ad13 p1.Left.length cp14, .slice ad15 p1.Right.length cp16] S (wN rfl) rfl (by kernel_rfl) (by kernel_rfl) (by kernel_rfl) (by kernel_rfl) rfl rfl (by decide) (fun a S => ?_)
                      exact leafL ⟨rfl, S⟩
                    · refine fI 68 (.int .i64 r121) [(67, .agg #[.slice ad13 p1.Left.length cp14, .slice ad15 p1.Right.length cp16])] 3 [some 2] rfl rfl (by kernel_rfl) rfl (by kernel_rfl) (by kernel_rfl) fun G a w S => ?_
                      have S1 := S.mem
                      refine sCallQ (X := Unit) (f := 18) (vs := [.agg #[.slice ad13 p1.Left.length cp14, .slice ad15 p1.Right.length cp16]]) (val := fun _ => .int .i64 r121) S (wN rfl) rfl callee18 (by kernel_rfl) (S1.quiet [0] (by kernel_rfl)) (fun E1 w1 S1 => c_raddleref37_Check E1 w1 p1 (.agg #[.slice ad13 p1.Left.length cp14, .slice ad15 p1.Right.length cp16]) r121 hx122 S1) rfl (by decide) (fun _ a w S => ?_)
                      exact leafL ⟨rfl, S⟩
                    · refine fI 69 (.bool (r119 != r121)) [(66, .int .i64 r119), (68, .int .i64 r121)] 4 [some 1, some 3] rfl rfl (by kernel_rfl) rfl (by kernel_rfl) (by kernel_rfl) fun G a w S => ?_
                      refine sBin (.bool (r119 != r121)) S (wN rfl) rfl (by kernel_rfl) (by kernel_rfl) (bNe _ _ _ _ .i64 r119 r121) rfl (by decide) (fun a S => ?_)
                      exact leafL ⟨rfl, S⟩
                    · refine fI 70 (.bool (r119 != r121)) [(69, .bool (r119 != r121))] 5 [some 4] rfl rfl (by kernel_rfl) rfl (by kernel_rfl) (by kernel_rfl) fun G a w S => ?_
                      refine sMove (.bool (r119 != r121)) S (wN rfl) (.inl rfl) (by kernel_rfl) rfl (by decide) (fun a S => ?_)
                      exact leafL ⟨rfl, S⟩
                    · refine fI 71 (.agg #[.slice ad76 r74.1.Left.length cp77, .slice ad78 r74.1.Right.length cp79]) [(7, .pointer (some ⟨b80, 0, none⟩)), (70, .bool (r119 != r121))] 6 [none, some 5] rfl rfl (by kernel_rfl) rfl (by kernel_rfl) (by kernel_rfl) fun G a w S => ?_
                      refine sLoadN (p := b80) (off := 0) (T := 36) (vs := [.slice ad76 r74.1.Left.length cp77, .slice ad78 r74.1.Right.length cp79]) 11 [.slice ad76 r74.1.Left.length cp77, .slice ad78 r74.1.Right.length cp79] S (wG (c := r119 != r121) 5 false 70 rfl rfl (by kernel_rfl) hc123) rfl (by kernel_rfl) (by kernel_rfl) (by kernel_rfl) (by kernel_rfl) rfl rfl (by decide) (fun a S => ?_)
                      exact leafL ⟨rfl, S⟩
                    · refine fI 72 (.agg #[.slice ad84 r82.1.Left.length cp85, .slice ad86 r82.1.Right.length cp87]) [(9, .pointer (some ⟨b88, 0, none⟩)), (70, .bool (r119 != r121))] 7 [none, some 5] rfl rfl (by kernel_rfl) rfl (by kernel_rfl) (by kernel_rfl) fun G a w S => ?_
                      refine sLoadN (p := b88) (off := 0) (T := 36) (vs := [.slice ad84 r82.1.Left.length cp85, .slice ad86 r82.1.Right.length cp87]) 8 [.slice ad84 r82.1.Left.length cp85, .slice ad86 r82.1.Right.length cp87] S (wG (c := r119 != r121) 5 false 70 rfl rfl (by kernel_rfl) hc123) rfl (by kernel_rfl) (by kernel_rfl) (by kernel_rfl) (by kernel_rfl) rfl rfl (by decide) (fun a S => ?_)
                      exact leafL ⟨rfl, S⟩
                    · refine fI 73 (.bool r124) [(71, .agg #[.slice ad76 r74.1.Left.length cp77, .slice ad78 r74.1.Right.length cp79]), (72, .agg #[.slice ad84 r82.1.Left.length cp85, .slice ad86 r82.1.Right.length cp87]), (70, .bool (r119 != r121))] 8 [some 6, some 7, some 5] rfl rfl (by kernel_rfl) rfl (by kernel_rfl) (by kernel_rfl) fun G a w S => ?_
                      have S1 := S.mem
                      have S1 := S1.shutR (r := (rI .i64)) (T := 3) (v := .slice ad76 r74.1.Left.length cp77) (xs := r74.1.Left) 12 (by kernel_rfl)
                      have S1 := S1.shutR (r := (rI .i64)) (T := 3) (v := .slice ad78 r74.1.Right.length cp79) (xs := r74.1.Right) 12 (by kernel_rfl)
                      have S1 := S1.learn (fRep r_api_Piece (.agg #[.slice ad76 r74.1.Left.length cp77, .slice ad78 r74.1.Right.length cp79]) r74.1) ⟨_, _, rfl, S1.know (i := 1) (e := fRep (rL (rI .i64)) (.slice ad76 r74.1.Left.length cp77) r74.1.Left) (by kernel_rfl), S1.know (i := 0) (e := fRep (rL (rI .i64)) (.slice ad78 r74.1.Right.length cp79) r74.1.Right) (by kernel_rfl)⟩
                      have S1 := S1.shutR (r := (rI .i64)) (T := 3) (v := .slice ad84 r82.1.Left.length cp85) (xs := r82.1.Left) 9 (by kernel_rfl)
                      have S1 := S1.shutR (r := (rI .i64)) (T := 3) (v := .slice ad86 r82.1.Right.length cp87) (xs := r82.1.Right) 9 (by kernel_rfl)
                      have S1 := S1.learn (fRep r_api_Piece (.agg #[.slice ad84 r82.1.Left.length cp85, .slice ad86 r82.1.Right.length cp87]) r82.1) ⟨_, _, rfl, S1.know (i := 1) (e := fRep (rL (rI .i64)) (.slice ad84 r82.1.Left.length cp85) r82.1.Left) (by kernel_rfl), S1.know (i := 0) (e := fRep (rL (rI .i64)) (.slice ad86 r82.1.Right.length cp87) r82.1.Right) (by kernel_rfl)⟩
                      refine sCallQ (X := Unit) (f := 19) (vs := [.agg #[.slice ad76 r74.1.Left.length cp77, .slice ad78 r74.1.Right.length cp79], .agg #[.slice ad84 r82.1.Left.length cp85, .slice ad86 r82.1.Right.length cp87]]) (val := fun _ => .bool r124) S (wG (c := r119 != r121) 5 false 70 rfl rfl (by kernel_rfl) hc123) rfl callee19 (by kernel_rfl) (S1.quiet [3, 0] (by kernel_rfl)) (fun E1 w1 S1 => c_raddleref37_Same E1 w1 r74.1 (.agg #[.slice ad76 r74.1.Left.length cp77, .slice ad78 r74.1.Right.length cp79]) r82.1 (.agg #[.slice ad84 r82.1.Left.length cp85, .slice ad86 r82.1.Right.length cp87]) r124 hx125 S1) rfl (by decide) (fun _ a w S => ?_)
                      exact leafL ⟨rfl, S⟩
                    · refine fI 74 (.bool (!r124)) [(73, .bool r124), (70, .bool (r119 != r121))] 9 [some 8, some 5] rfl rfl (by kernel_rfl) rfl (by kernel_rfl) (by kernel_rfl) fun G a w S => ?_
                      refine sNot (b := r124) S (wG (c := r119 != r121) 5 false 70 rfl rfl (by kernel_rfl) hc123) rfl (by kernel_rfl) rfl (by decide) (fun a S => ?_)
                      exact leafL ⟨rfl, S⟩
                    · refine fI 75 (.bool (!r124)) [(70, .bool (r119 != r121)), (74, .bool (!r124))] 10 [some 5, some 9] rfl rfl (by kernel_rfl) rfl (by kernel_rfl) (by kernel_rfl) fun G a w S => ?_
                      refine sPickF (b := r119 != r121) (.bool (!r124)) S (wN rfl) rfl (by kernel_rfl) hc123 (by kernel_rfl) rfl (by decide) (fun a S => ?_)
                      exact leafL ⟨rfl, S⟩
                    · refine fI 76 (.bool (!r124)) [(75, .bool (!r124))] 11 [some 10] rfl rfl (by kernel_rfl) rfl (by kernel_rfl) (by kernel_rfl) fun G a w S => ?_
                      refine sMove (.bool (!r124)) S (wN rfl) (.inl rfl) (by kernel_rfl) rfl (by decide) (fun a S => ?_)
                      exact leafL ⟨rfl, S⟩
                    · refine fI 77 (.int .i64 r74.2) [(8, .int .i64 r74.2), (76, .bool (!r124))] 12 [none, some 11] rfl rfl (by kernel_rfl) rfl (by kernel_rfl) (by kernel_rfl) fun G a w S => ?_
                      refine sMove (.int .i64 r74.2) S (wG (c := !r124) 11 false 76 rfl rfl (by kernel_rfl) hc126) (.inl rfl) (by kernel_rfl) rfl (by decide) (fun a S => ?_)
                      exact leafL ⟨rfl, S⟩
                    · refine fI 78 (.int .i64 r82.2) [(10, .int .i64 r82.2), (76, .bool (!r124))] 13 [none, some 11] rfl rfl (by kernel_rfl) rfl (by kernel_rfl) (by kernel_rfl) fun G a w S => ?_
                      refine sMove (.int .i64 r82.2) S (wG (c := !r124) 11 false 76 rfl rfl (by kernel_rfl) hc126) (.inl rfl) (by kernel_rfl) rfl (by decide) (fun a S => ?_)
                      exact leafL ⟨rfl, S⟩
                    · refine fI 79 (.bool (r74.2 != r82.2)) [(77, .int .i64 r74.2), (78, .int .i64 r82.2), (76, .bool (!r124))] 14 [some 12, some 13, some 11] rfl rfl (by kernel_rfl) rfl (by kernel_rfl) (by kernel_rfl) fun G a w S => ?_
                      refine sBin (.bool (r74.2 != r82.2)) S (wG (c := !r124) 11 false 76 rfl rfl (by kernel_rfl) hc126) rfl (by kernel_rfl) (by kernel_rfl) (bNe _ _ _ _ .i64 r74.2 r82.2) rfl (by decide) (fun a S => ?_)
                      exact leafL ⟨rfl, S⟩
                    · refine fI 80 (.bool (r74.2 != r82.2)) [(76, .bool (!r124)), (79, .bool (r74.2 != r82.2))] 15 [some 11, some 14] rfl rfl (by kernel_rfl) rfl (by kernel_rfl) (by kernel_rfl) fun G a w S => ?_
                      refine sPickF (b := !r124) (.bool (r74.2 != r82.2)) S (wN rfl) rfl (by kernel_rfl) hc126 (by kernel_rfl) rfl (by decide) (fun a S => ?_)
                      exact leafL ⟨rfl, S⟩
                    · refine fI 81 (.bool (r74.2 != r82.2)) [(80, .bool (r74.2 != r82.2))] 16 [some 15] rfl rfl (by kernel_rfl) rfl (by kernel_rfl) (by kernel_rfl) fun G a w S => ?_
                      refine sMove (.bool (r74.2 != r82.2)) S (wN rfl) (.inl rfl) (by kernel_rfl) rfl (by decide) (fun a S => ?_)
                      exact leafL ⟨rfl, S⟩
                    · refine fI 82 (.slice ad92 r90.1.length cp93) [(11, .slice ad92 r90.1.length cp93), (81, .bool (r74.2 != r82.2))] 17 [none, some 16] rfl rfl (by kernel_rfl) rfl (by kernel_rfl) (by kernel_rfl) fun G a w S => ?_
                      refine sMove (.slice ad92 r90.1.length cp93) S (wG (c := r74.2 != r82.2) 16 false 81 rfl rfl (by kernel_rfl) hc127) (.inl rfl) (by kernel_rfl) rfl (by decide) (fun a S => ?_)
                      exact leafL ⟨rfl, S⟩
                    · refine fI 83 (.int .i64 (r90.1.length : Int)) [(82, .slice ad92 r90.1.length cp93), (81, .bool (r74.2 != r82.2))] 18 [some 17, some 16] rfl rfl (by kernel_rfl) rfl (by kernel_rfl) (by kernel_rfl) fun G a w S => ?_
                      refine sLen (ad := ad92) (m := r90.1.length) (c := cp93) S (wG (c := r74.2 != r82.2) 16 false 81 rfl rfl (by kernel_rfl) hc127) rfl Try.underlying43 (by kernel_rfl) rfl (by decide) (fun a S => ?_)
                      exact leafL ⟨rfl, S⟩
                    · refine fI 84 (.slice ad97 r95.1.length cp98) [(13, .slice ad97 r95.1.length cp98), (81, .bool (r74.2 != r82.2))] 19 [none, some 16] rfl rfl (by kernel_rfl) rfl (by kernel_rfl) (by kernel_rfl) fun G a w S => ?_
                      refine sMove (.slice ad97 r95.1.length cp98) S (wG (c := r74.2 != r82.2) 16 false 81 rfl rfl (by kernel_rfl) hc127) (.inl rfl) (by kernel_rfl) rfl (by decide) (fun a S => ?_)
                      exact leafL ⟨rfl, S⟩
                    · refine fI 85 (.int .i64 (r95.1.length : Int)) [(84, .slice ad97 r95.1.length cp98), (81, .bool (r74.2 != r82.2))] 20 [some 19, some 16] rfl rfl (by kernel_rfl) rfl (by kernel_rfl) (by kernel_rfl) fun G a w S => ?_
                      refine sLen (ad := ad97) (m := r95.1.length) (c := cp98) S (wG (c := r74.2 != r82.2) 16 false 81 rfl rfl (by kernel_rfl) hc127) rfl Try.underlying43 (by kernel_rfl) rfl (by decide) (fun a S => ?_)
                      exact leafL ⟨rfl, S⟩
                    · refine fI 86 (.bool ((r90.1.length : Int) != (r95.1.length : Int))) [(83, .int .i64 (r90.1.length : Int)), (85, .int .i64 (r95.1.length : Int)), (81, .bool (r74.2 != r82.2))] 21 [some 18, some 20, some 16] rfl rfl (by kernel_rfl) rfl (by kernel_rfl) (by kernel_rfl) fun G a w S => ?_
                      refine sBin (.bool ((r90.1.length : Int) != (r95.1.length : Int))) S (wG (c := r74.2 != r82.2) 16 false 81 rfl rfl (by kernel_rfl) hc127) rfl (by kernel_rfl) (by kernel_rfl) (bNe _ _ _ _ .i64 (r90.1.length : Int) (r95.1.length : Int)) rfl (by decide) (fun a S => ?_)
                      exact leafL ⟨rfl, S⟩
                    · refine fI 87 (.bool ((r90.1.length : Int) != (r95.1.length : Int))) [(81, .bool (r74.2 != r82.2)), (86, .bool ((r90.1.length : Int) != (r95.1.length : Int)))] 22 [some 16, some 21] rfl rfl (by kernel_rfl) rfl (by kernel_rfl) (by kernel_rfl) fun G a w S => ?_
                      refine sPickF (b := r74.2 != r82.2) (.bool ((r90.1.length : Int) != (r95.1.length : Int))) S (wN rfl) rfl (by kernel_rfl) hc127 (by kernel_rfl) rfl (by decide) (fun a S => ?_)
                      exact leafL ⟨rfl, S⟩
                    · refine fI 88 (.bool ((r90.1.length : Int) != (r95.1.length : Int))) [(87, .bool ((r90.1.length : Int) != (r95.1.length : Int)))] 23 [some 22] rfl rfl (by kernel_rfl) rfl (by kernel_rfl) (by kernel_rfl) fun G a w S => ?_
                      refine sMove (.bool ((r90.1.length : Int) != (r95.1.length : Int))) S (wN rfl) (.inl rfl) (by kernel_rfl) rfl (by decide) (fun a S => ?_)
                      exact leafL ⟨rfl, S⟩
                    · refine fI 89 (.int .i64 r90.2) [(12, .int .i64 r90.2), (88, .bool ((r90.1.length : Int) != (r95.1.length : Int)))] 24 [none, some 23] rfl rfl (by kernel_rfl) rfl (by kernel_rfl) (by kernel_rfl) fun G a w S => ?_
                      refine sMove (.int .i64 r90.2) S (wG (c := (r90.1.length : Int) != (r95.1.length : Int)) 23 false 88 rfl rfl (by kernel_rfl) hc128) (.inl rfl) (by kernel_rfl) rfl (by decide) (fun a S => ?_)
                      exact leafL ⟨rfl, S⟩
                    · refine fI 90 (.int .i64 r95.2) [(14, .int .i64 r95.2), (88, .bool ((r90.1.length : Int) != (r95.1.length : Int)))] 25 [none, some 23] rfl rfl (by kernel_rfl) rfl (by kernel_rfl) (by kernel_rfl) fun G a w S => ?_
                      refine sMove (.int .i64 r95.2) S (wG (c := (r90.1.length : Int) != (r95.1.length : Int)) 23 false 88 rfl rfl (by kernel_rfl) hc128) (.inl rfl) (by kernel_rfl) rfl (by decide) (fun a S => ?_)
                      exact leafL ⟨rfl, S⟩
                    · refine fI 91 (.bool (r90.2 != r95.2)) [(89, .int .i64 r90.2), (90, .int .i64 r95.2), (88, .bool ((r90.1.length : Int) != (r95.1.length : Int)))] 26 [some 24, some 25, some 23] rfl rfl (by kernel_rfl) rfl (by kernel_rfl) (by kernel_rfl) fun G a w S => ?_
                      refine sBin (.bool (r90.2 != r95.2)) S (wG (c := (r90.1.length : Int) != (r95.1.length : Int)) 23 false 88 rfl rfl (by kernel_rfl) hc128) rfl (by kernel_rfl) (by kernel_rfl) (bNe _ _ _ _ .i64 r90.2 r95.2) rfl (by decide) (fun a S => ?_)
                      exact leafL ⟨rfl, S⟩
                    · refine fI 92 (.bool (r90.2 != r95.2)) [(88, .bool ((r90.1.length : Int) != (r95.1.length : Int))), (91, .bool (r90.2 != r95.2))] 27 [some 23, some 26] rfl rfl (by kernel_rfl) rfl (by kernel_rfl) (by kernel_rfl) fun G a w S => ?_
                      refine sPickF (b := (r90.1.length : Int) != (r95.1.length : Int)) (.bool (r90.2 != r95.2)) S (wN rfl) rfl (by kernel_rfl) hc128 (by kernel_rfl) rfl (by decide) (fun a S => ?_)
                      exact leafL ⟨rfl, S⟩
                    · refine fI 93 (.bool (r90.2 != r95.2)) [(92, .bool (r90.2 != r95.2))] 28 [some 27] rfl rfl (by kernel_rfl) rfl (by kernel_rfl) (by kernel_rfl) fun G a w S => ?_
                      refine sMove (.bool (r90.2 != r95.2)) S (wN rfl) (.inl rfl) (by kernel_rfl) rfl (by decide) (fun a S => ?_)
                      exact leafL ⟨rfl, S⟩
                    · refine fI 94 undef [(15, .pointer (some ⟨b106, 0, none⟩)), (93, .bool (r90.2 != r95.2))] 29 [none, some 28] rfl rfl (by kernel_rfl) rfl (by kernel_rfl) (by kernel_rfl) fun G a w S => ?_
                      refine sSkip (c := r90.2 != r95.2) 28 false 93 94 S rfl rfl (by kernel_rfl) hc129 rfl (by decide) (fun a S => ?_)
                      exact leafL ⟨rfl, S⟩
                    · refine fI 95 undef [(17, .pointer (some ⟨b114, 0, none⟩)), (93, .bool (r90.2 != r95.2))] 30 [none, some 28] rfl rfl (by kernel_rfl) rfl (by kernel_rfl) (by kernel_rfl) fun G a w S => ?_
                      refine sSkip (c := r90.2 != r95.2) 28 false 93 95 S rfl rfl (by kernel_rfl) hc129 rfl (by decide) (fun a S => ?_)
                      exact leafL ⟨rfl, S⟩
                    · refine fI 96 undef [(94, undef), (95, undef), (93, .bool (r90.2 != r95.2))] 31 [some 29, some 30, some 28] rfl rfl (by kernel_rfl) rfl (by kernel_rfl) (by kernel_rfl) fun G a w S => ?_
                      refine sSkip (c := r90.2 != r95.2) 28 false 93 96 S rfl rfl (by kernel_rfl) hc129 rfl (by decide) (fun a S => ?_)
                      exact leafL ⟨rfl, S⟩
                    · refine fI 97 undef [(96, undef), (93, .bool (r90.2 != r95.2))] 32 [some 31, some 28] rfl rfl (by kernel_rfl) rfl (by kernel_rfl) (by kernel_rfl) fun G a w S => ?_
                      refine sSkip (c := r90.2 != r95.2) 28 false 93 97 S rfl rfl (by kernel_rfl) hc129 rfl (by decide) (fun a S => ?_)
                      exact leafL ⟨rfl, S⟩
                    · refine fI 98 (.bool true) [(93, .bool (r90.2 != r95.2)), (97, undef)] 33 [some 28, some 32] rfl rfl (by kernel_rfl) rfl (by kernel_rfl) (by kernel_rfl) fun G a w S => ?_
                      refine sPickT (b := r90.2 != r95.2) (.bool true) S (wN rfl) rfl (by kernel_rfl) hc129 (by kernel_rfl) rfl (by decide) (fun a S => ?_)
                      exact leafL ⟨rfl, S⟩
                    · refine fI 99 (.bool true) [(98, .bool true)] 34 [some 33] rfl rfl (by kernel_rfl) rfl (by kernel_rfl) (by kernel_rfl) fun G a w S => ?_
                      refine sMove (.bool true) S (wN rfl) (.inl rfl) (by kernel_rfl) rfl (by decide) (fun a S => ?_)
                      exact leafL ⟨rfl, S⟩
                    · refine fI 100 undef [(16, .int .i64 r100.2), (99, .bool true)] 35 [none, some 34] rfl rfl (by kernel_rfl) rfl (by kernel_rfl) (by kernel_rfl) fun G a w S => ?_
                      refine sSkip (c := true) 34 false 99 100 S rfl rfl (by kernel_rfl) rfl rfl (by decide) (fun a S => ?_)
                      exact leafL ⟨rfl, S⟩
                    · refine fI 101 undef [(18, .int .i64 r108.2), (99, .bool true)] 36 [none, some 34] rfl rfl (by kernel_rfl) rfl (by kernel_rfl) (by kernel_rfl) fun G a w S => ?_
                      refine sSkip (c := true) 34 false 99 101 S rfl rfl (by kernel_rfl) rfl rfl (by decide) (fun a S => ?_)
                      exact leafL ⟨rfl, S⟩
                    · refine fI 102 undef [(100, undef), (101, undef), (99, .bool true)] 37 [some 35, some 36, some 34] rfl rfl (by kernel_rfl) rfl (by kernel_rfl) (by kernel_rfl) fun G a w S => ?_
                      refine sSkip (c := true) 34 false 99 102 S rfl rfl (by kernel_rfl) rfl rfl (by decide) (fun a S => ?_)
                      exact leafL ⟨rfl, S⟩
                    · refine fI 103 (.bool true) [(99, .bool true), (102, undef)] 38 [some 34, some 37] rfl rfl (by kernel_rfl) rfl (by kernel_rfl) (by kernel_rfl) fun G a w S => ?_
                      refine sPickT (b := true) (.bool true) S (wN rfl) rfl (by kernel_rfl) rfl (by kernel_rfl) rfl (by decide) (fun a S => ?_)
                      exact leafL ⟨rfl, S⟩
                    · exact leafT (⟨true, Option.some.inj h, S.fix [15, 3, 16, 17, 7, 6, 4, 5] [4, 5] (by decide) (by kernel_rfl) (by kernel_rfl) (by kernel_rfl)⟩)
                  · obtain ⟨r130, hx131, h⟩ := bindSome h
                    rcases iteSome h with ⟨hc132, h⟩ | ⟨hc132, h⟩
                    · refine sDraw (nf := []) (W := [(0, 65, .agg #[.slice ad13 p1.Left.length cp14, .slice ad15 p1.Right.length cp16]), (1, 66, .int .i64 r119), (2, 67, .agg #[.slice ad13 p1.Left.length cp14, .slice ad15 p1.Right.length cp16]), (3, 68, .int .i64 r121), (4, 69, .bool (r119 != r121)), (5, 70, .bool (r119 != r121)), (6, 71, .agg #[.slice ad76 r74.1.Left.length cp77, .slice ad78 r74.1.Right.length cp79]), (7, 72, .agg #[.slice ad84 r82.1.Left.length cp85, .slice ad86 r82.1.Right.length cp87]), (8, 73, .bool r124), (9, 74, .bool (!r124)), (10, 75, .bool (!r124)), (11, 76, .bool (!r124)), (12, 77, .int .i64 r74.2), (13, 78, .int .i64 r82.2), (14, 79, .bool (r74.2 != r82.2)), (15, 80, .bool (r74.2 != r82.2)), (16, 81, .bool (r74.2 != r82.2)), (17, 82, .slice ad92 r90.1.length cp93), (18, 83, .int .i64 (r90.1.length : Int)), (19, 84, .slice ad97 r95.1.length cp98), (20, 85, .int .i64 (r95.1.length : Int)), (21, 86, .bool ((r90.1.length : Int) != (r95.1.length : Int))), (22, 87, .bool ((r90.1.length : Int) != (r95.1.length : Int))), (23, 88, .bool ((r90.1.length : Int) != (r95.1.length : Int))), (24, 89, .int .i64 r90.2), (25, 90, .int .i64 r95.2), (26, 91, .bool (r90.2 != r95.2)), (27, 92, .bool (r90.2 != r95.2)), (28, 93, .bool (r90.2 != r95.2)), (29, 94, .agg #[.slice ad102 r100.1.Left.length cp103, .slice ad104 r100.1.Right.length cp105]), (30, 95, .agg #[.slice ad110 r108.1.Left.length cp111, .slice ad112 r108.1.Right.length cp113]), (31, 96, .bool r130), (32, 97, .bool (!r130)), (33, 98, .bool (!r130)), (34, 99, .bool (!r130)), (35, 100, undef), (36, 101, undef), (37, 102, undef), (38, 103, .bool true)]) (by kernel_rfl) S ?_
                      refine node_by (A := anc_raddlelaw37_PieceMakes_1) (nf := []) (Y := []) (W := [(0, 65, .agg #[.slice ad13 p1.Left.length cp14, .slice ad15 p1.Right.length cp16]), (1, 66, .int .i64 r119), (2, 67, .agg #[.slice ad13 p1.Left.length cp14, .slice ad15 p1.Right.length cp16]), (3, 68, .int .i64 r121), (4, 69, .bool (r119 != r121)), (5, 70, .bool (r119 != r121)), (6, 71, .agg #[.slice ad76 r74.1.Left.length cp77, .slice ad78 r74.1.Right.length cp79]), (7, 72, .agg #[.slice ad84 r82.1.Left.length cp85, .slice ad86 r82.1.Right.length cp87]), (8, 73, .bool r124), (9, 74, .bool (!r124)), (10, 75, .bool (!r124)), (11, 76, .bool (!r124)), (12, 77, .int .i64 r74.2), (13, 78, .int .i64 r82.2), (14, 79, .bool (r74.2 != r82.2)), (15, 80, .bool (r74.2 != r82.2)), (16, 81, .bool (r74.2 != r82.2)), (17, 82, .slice ad92 r90.1.length cp93), (18, 83, .int .i64 (r90.1.length : Int)), (19, 84, .slice ad97 r95.1.length cp98), (20, 85, .int .i64 (r95.1.length : Int)), (21, 86, .bool ((r90.1.length : Int) != (r95.1.length : Int))), (22, 87, .bool ((r90.1.length : Int) != (r95.1.length : Int))), (23, 88, .bool ((r90.1.length : Int) != (r95.1.length : Int))), (24, 89, .int .i64 r90.2), (25, 90, .int .i64 r95.2), (26, 91, .bool (r90.2 != r95.2)), (27, 92, .bool (r90.2 != r95.2)), (28, 93, .bool (r90.2 != r95.2)), (29, 94, .agg #[.slice ad102 r100.1.Left.length cp103, .slice ad104 r100.1.Right.length cp105]), (30, 95, .agg #[.slice ad110 r108.1.Left.length cp111, .slice ad112 r108.1.Right.length cp113]), (31, 96, .bool r130), (32, 97, .bool (!r130)), (33, 98, .bool (!r130)), (34, 99, .bool (!r130)), (35, 100, undef), (36, 101, undef), (37, 102, undef), (38, 103, .bool true)]) 39 (by kernel_rfl) (by kernel_rfl) (by kernel_rfl) (by kernel_rfl) (by kernel_rfl) [0, 1, 2, 3, 4, 5, 6, 7, 8, 9, 10, 11, 12, 13, 14, 15, 16, 17, 18, 19, 20, 21, 22, 23, 24, 25, 26, 27, 28, 29, 30, 31, 32, 33, 34, 35, 36, 37, 38] (by kernel_rfl) (by decide) (by decide) (aF 0 38 (by decide) ?_ (aF 1 37 (by decide) ?_ (aF 2 36 (by decide) ?_ (aF 3 35 (by decide) ?_ (aF 4 34 (by decide) ?_ (aF 5 33 (by decide) ?_ (aF 6 32 (by decide) ?_ (aF 7 31 (by decide) ?_ (aF 8 30 (by decide) ?_ (aF 9 29 (by decide) ?_ (aF 10 28 (by decide) ?_ (aF 11 27 (by decide) ?_ (aF 12 26 (by decide) ?_ (aF 13 25 (by decide) ?_ (aF 14 24 (by decide) ?_ (aF 15 23 (by decide) ?_ (aF 16 22 (by decide) ?_ (aF 17 21 (by decide) ?_ (aF 18 20 (by decide) ?_ (aF 19 19 (by decide) ?_ (aF 20 18 (by decide) ?_ (aF 21 17 (by decide) ?_ (aF 22 16 (by decide) ?_ (aF 23 15 (by decide) ?_ (aF 24 14 (by decide) ?_ (aF 25 13 (by decide) ?_ (aF 26 12 (by decide) ?_ (aF 27 11 (by decide) ?_ (aF 28 10 (by decide) ?_ (aF 29 9 (by decide) ?_ (aF 30 8 (by decide) ?_ (aF 31 7 (by decide) ?_ (aF 32 6 (by decide) ?_ (aF 33 5 (by decide) ?_ (aF 34 4 (by decide) ?_ (aF 35 3 (by decide) ?_ (aF 36 2 (by decide) ?_ (aF 37 1 (by decide) ?_ (aF 38 0 (by decide) ?_ (trivial)))))))))))))))))))))))))))))))))))))))) [(3, .pointer (some ⟨b19, 0, none⟩)), (5, .slice ad32 o31.length cp33), (6, .slice ad35 o34.length cp36), (11, .slice ad92 r90.1.length cp93), (13, .slice ad97 r95.1.length cp98), (15, .pointer (some ⟨b106, 0, none⟩)), (103, .bool true)] (fin_of [none, none, none, none, none, none, some 38] rfl (by kernel_rfl) (by kernel_rfl)) (fun _ a w S => ?_)
                      · refine fI 65 (.agg #[.slice ad13 p1.Left.length cp14, .slice ad15 p1.Right.length cp16]) [(3, .pointer (some ⟨b19, 0, none⟩))] 0 [none] rfl rfl (by kernel_rfl) rfl (by kernel_rfl) (by kernel_rfl) fun G a w S => ?_
                        refine sLoadN (p := b19) (off := 0) (T := 36) (vs := [.slice ad13 p1.Left.length cp14, .slice ad15 p1.Right.length cp16]) 15 [.slice ad13 p1.Left.length cp14, .slice ad15 p1.Right.length cp16] S (wN rfl) rfl (by kernel_rfl) (by kernel_rfl) (by kernel_rfl) (by kernel_rfl) rfl rfl (by decide) (fun a S => ?_)
                        exact leafL ⟨rfl, S⟩
                      · refine fI 66 (.int .i64 r119) [(65, .agg #[.slice ad13 p1.Left.length cp14, .slice ad15 p1.Right.length cp16])] 1 [some 0] rfl rfl (by kernel_rfl) rfl (by kernel_rfl) (by kernel_rfl) fun G a w S => ?_
                        have S1 := S.mem
                        refine sCallQ (X := Unit) (f := 17) (vs := [.agg #[.slice ad13 p1.Left.length cp14, .slice ad15 p1.Right.length cp16]]) (val := fun _ => .int .i64 r119) S (wN rfl) rfl callee17 (by kernel_rfl) (S1.quiet [0] (by kernel_rfl)) (fun E1 w1 S1 => c_piece_Check E1 w1 p1 (.agg #[.slice ad13 p1.Left.length cp14, .slice ad15 p1.Right.length cp16]) r119 hx120 S1) rfl (by decide) (fun _ a w S => ?_)
                        exact leafL ⟨rfl, S⟩
                      · refine fI 67 (.agg #[.slice ad13 p1.Left.length cp14, .slice ad15 p1.Right.length cp16]) [(3, .pointer (some ⟨b19, 0, none⟩))] 2 [none] rfl rfl (by kernel_rfl) rfl (by kernel_rfl) (by kernel_rfl) fun G a w S => ?_
                        refine sLoadN (p := b19) (off := 0) (T := 36) (vs := [.slice ad13 p1.Left.length cp14, .slice ad15 p1.Right.length cp16]) 15 [.slice ad13 p1.Left.length cp14, .slice ad15 p1.Right.length cp16] S (wN rfl) rfl (by kernel_rfl) (by kernel_rfl) (by kernel_rfl) (by kernel_rfl) rfl rfl (by decide) (fun a S => ?_)
                        exact leafL ⟨rfl, S⟩
                      · refine fI 68 (.int .i64 r121) [(67, .agg #[.slice ad13 p1.Left.length cp14, .slice ad15 p1.Right.length cp16])] 3 [some 2] rfl rfl (by kernel_rfl) rfl (by kernel_rfl) (by kernel_rfl) fun G a w S => ?_
                        have S1 := S.mem
                        refine sCallQ (X := Unit) (f := 18) (vs := [.agg #[.slice ad13 p1.Left.length cp14, .slice ad15 p1.Right.length cp16]]) (val := fun _ => .int .i64 r121) S (wN rfl) rfl callee18 (by kernel_rfl) (S1.quiet [0] (by kernel_rfl)) (fun E1 w1 S1 => c_raddleref37_Check E1 w1 p1 (.agg #[.slice ad13 p1.Left.length cp14, .slice ad15 p1.Right.length cp16]) r121 hx122 S1) rfl (by decide) (fun _ a w S => ?_)
                        exact leafL ⟨rfl, S⟩
                      · refine fI 69 (.bool (r119 != r121)) [(66, .int .i64 r119), (68, .int .i64 r121)] 4 [some 1, some 3] rfl rfl (by kernel_rfl) rfl (by kernel_rfl) (by kernel_rfl) fun G a w S => ?_
                        refine sBin (.bool (r119 != r121)) S (wN rfl) rfl (by kernel_rfl) (by kernel_rfl) (bNe _ _ _ _ .i64 r119 r121) rfl (by decide) (fun a S => ?_)
                        exact leafL ⟨rfl, S⟩
                      · refine fI 70 (.bool (r119 != r121)) [(69, .bool (r119 != r121))] 5 [some 4] rfl rfl (by kernel_rfl) rfl (by kernel_rfl) (by kernel_rfl) fun G a w S => ?_
                        refine sMove (.bool (r119 != r121)) S (wN rfl) (.inl rfl) (by kernel_rfl) rfl (by decide) (fun a S => ?_)
                        exact leafL ⟨rfl, S⟩
                      · refine fI 71 (.agg #[.slice ad76 r74.1.Left.length cp77, .slice ad78 r74.1.Right.length cp79]) [(7, .pointer (some ⟨b80, 0, none⟩)), (70, .bool (r119 != r121))] 6 [none, some 5] rfl rfl (by kernel_rfl) rfl (by kernel_rfl) (by kernel_rfl) fun G a w S => ?_
                        refine sLoadN (p := b80) (off := 0) (T := 36) (vs := [.slice ad76 r74.1.Left.length cp77, .slice ad78 r74.1.Right.length cp79]) 11 [.slice ad76 r74.1.Left.length cp77, .slice ad78 r74.1.Right.length cp79] S (wG (c := r119 != r121) 5 false 70 rfl rfl (by kernel_rfl) hc123) rfl (by kernel_rfl) (by kernel_rfl) (by kernel_rfl) (by kernel_rfl) rfl rfl (by decide) (fun a S => ?_)
                        exact leafL ⟨rfl, S⟩
                      · refine fI 72 (.agg #[.slice ad84 r82.1.Left.length cp85, .slice ad86 r82.1.Right.length cp87]) [(9, .pointer (some ⟨b88, 0, none⟩)), (70, .bool (r119 != r121))] 7 [none, some 5] rfl rfl (by kernel_rfl) rfl (by kernel_rfl) (by kernel_rfl) fun G a w S => ?_
                        refine sLoadN (p := b88) (off := 0) (T := 36) (vs := [.slice ad84 r82.1.Left.length cp85, .slice ad86 r82.1.Right.length cp87]) 8 [.slice ad84 r82.1.Left.length cp85, .slice ad86 r82.1.Right.length cp87] S (wG (c := r119 != r121) 5 false 70 rfl rfl (by kernel_rfl) hc123) rfl (by kernel_rfl) (by kernel_rfl) (by kernel_rfl) (by kernel_rfl) rfl rfl (by decide) (fun a S => ?_)
                        exact leafL ⟨rfl, S⟩
                      · refine fI 73 (.bool r124) [(71, .agg #[.slice ad76 r74.1.Left.length cp77, .slice ad78 r74.1.Right.length cp79]), (72, .agg #[.slice ad84 r82.1.Left.length cp85, .slice ad86 r82.1.Right.length cp87]), (70, .bool (r119 != r121))] 8 [some 6, some 7, some 5] rfl rfl (by kernel_rfl) rfl (by kernel_rfl) (by kernel_rfl) fun G a w S => ?_
                        have S1 := S.mem
                        have S1 := S1.shutR (r := (rI .i64)) (T := 3) (v := .slice ad76 r74.1.Left.length cp77) (xs := r74.1.Left) 12 (by kernel_rfl)
                        have S1 := S1.shutR (r := (rI .i64)) (T := 3) (v := .slice ad78 r74.1.Right.length cp79) (xs := r74.1.Right) 12 (by kernel_rfl)
                        have S1 := S1.learn (fRep r_api_Piece (.agg #[.slice ad76 r74.1.Left.length cp77, .slice ad78 r74.1.Right.length cp79]) r74.1) ⟨_, _, rfl, S1.know (i := 1) (e := fRep (rL (rI .i64)) (.slice ad76 r74.1.Left.length cp77) r74.1.Left) (by kernel_rfl), S1.know (i := 0) (e := fRep (rL (rI .i64)) (.slice ad78 r74.1.Right.length cp79) r74.1.Right) (by kernel_rfl)⟩
                        have S1 := S1.shutR (r := (rI .i64)) (T := 3) (v := .slice ad84 r82.1.Left.length cp85) (xs := r82.1.Left) 9 (by kernel_rfl)
                        have S1 := S1.shutR (r := (rI .i64)) (T := 3) (v := .slice ad86 r82.1.Right.length cp87) (xs := r82.1.Right) 9 (by kernel_rfl)
                        have S1 := S1.learn (fRep r_api_Piece (.agg #[.slice ad84 r82.1.Left.length cp85, .slice ad86 r82.1.Right.length cp87]) r82.1) ⟨_, _, rfl, S1.know (i := 1) (e := fRep (rL (rI .i64)) (.slice ad84 r82.1.Left.length cp85) r82.1.Left) (by kernel_rfl), S1.know (i := 0) (e := fRep (rL (rI .i64)) (.slice ad86 r82.1.Right.length cp87) r82.1.Right) (by kernel_rfl)⟩
                        refine sCallQ (X := Unit) (f := 19) (vs := [.agg #[.slice ad76 r74.1.Left.length cp77, .slice ad78 r74.1.Right.length cp79], .agg #[.slice ad84 r82.1.Left.length cp85, .slice ad86 r82.1.Right.length cp87]]) (val := fun _ => .bool r124) S (wG (c := r119 != r121) 5 false 70 rfl rfl (by kernel_rfl) hc123) rfl callee19 (by kernel_rfl) (S1.quiet [3, 0] (by kernel_rfl)) (fun E1 w1 S1 => c_raddleref37_Same E1 w1 r74.1 (.agg #[.slice ad76 r74.1.Left.length cp77, .slice ad78 r74.1.Right.length cp79]) r82.1 (.agg #[.slice ad84 r82.1.Left.length cp85, .slice ad86 r82.1.Right.length cp87]) r124 hx125 S1) rfl (by decide) (fun _ a w S => ?_)
                        exact leafL ⟨rfl, S⟩
                      · refine fI 74 (.bool (!r124)) [(73, .bool r124), (70, .bool (r119 != r121))] 9 [some 8, some 5] rfl rfl (by kernel_rfl) rfl (by kernel_rfl) (by kernel_rfl) fun G a w S => ?_
                        refine sNot (b := r124) S (wG (c := r119 != r121) 5 false 70 rfl rfl (by kernel_rfl) hc123) rfl (by kernel_rfl) rfl (by decide) (fun a S => ?_)
                        exact leafL ⟨rfl, S⟩
                      · refine fI 75 (.bool (!r124)) [(70, .bool (r119 != r121)), (74, .bool (!r124))] 10 [some 5, some 9] rfl rfl (by kernel_rfl) rfl (by kernel_rfl) (by kernel_rfl) fun G a w S => ?_
                        refine sPickF (b := r119 != r121) (.bool (!r124)) S (wN rfl) rfl (by kernel_rfl) hc123 (by kernel_rfl) rfl (by decide) (fun a S => ?_)
                        exact leafL ⟨rfl, S⟩
                      · refine fI 76 (.bool (!r124)) [(75, .bool (!r124))] 11 [some 10] rfl rfl (by kernel_rfl) rfl (by kernel_rfl) (by kernel_rfl) fun G a w S => ?_
                        refine sMove (.bool (!r124)) S (wN rfl) (.inl rfl) (by kernel_rfl) rfl (by decide) (fun a S => ?_)
                        exact leafL ⟨rfl, S⟩
                      · refine fI 77 (.int .i64 r74.2) [(8, .int .i64 r74.2), (76, .bool (!r124))] 12 [none, some 11] rfl rfl (by kernel_rfl) rfl (by kernel_rfl) (by kernel_rfl) fun G a w S => ?_
                        refine sMove (.int .i64 r74.2) S (wG (c := !r124) 11 false 76 rfl rfl (by kernel_rfl) hc126) (.inl rfl) (by kernel_rfl) rfl (by decide) (fun a S => ?_)
                        exact leafL ⟨rfl, S⟩
                      · refine fI 78 (.int .i64 r82.2) [(10, .int .i64 r82.2), (76, .bool (!r124))] 13 [none, some 11] rfl rfl (by kernel_rfl) rfl (by kernel_rfl) (by kernel_rfl) fun G a w S => ?_
                        refine sMove (.int .i64 r82.2) S (wG (c := !r124) 11 false 76 rfl rfl (by kernel_rfl) hc126) (.inl rfl) (by kernel_rfl) rfl (by decide) (fun a S => ?_)
                        exact leafL ⟨rfl, S⟩
                      · refine fI 79 (.bool (r74.2 != r82.2)) [(77, .int .i64 r74.2), (78, .int .i64 r82.2), (76, .bool (!r124))] 14 [some 12, some 13, some 11] rfl rfl (by kernel_rfl) rfl (by kernel_rfl) (by kernel_rfl) fun G a w S => ?_
                        refine sBin (.bool (r74.2 != r82.2)) S (wG (c := !r124) 11 false 76 rfl rfl (by kernel_rfl) hc126) rfl (by kernel_rfl) (by kernel_rfl) (bNe _ _ _ _ .i64 r74.2 r82.2) rfl (by decide) (fun a S => ?_)
                        exact leafL ⟨rfl, S⟩
                      · refine fI 80 (.bool (r74.2 != r82.2)) [(76, .bool (!r124)), (79, .bool (r74.2 != r82.2))] 15 [some 11, some 14] rfl rfl (by kernel_rfl) rfl (by kernel_rfl) (by kernel_rfl) fun G a w S => ?_
                        refine sPickF (b := !r124) (.bool (r74.2 != r82.2)) S (wN rfl) rfl (by kernel_rfl) hc126 (by kernel_rfl) rfl (by decide) (fun a S => ?_)
                        exact leafL ⟨rfl, S⟩
                      · refine fI 81 (.bool (r74.2 != r82.2)) [(80, .bool (r74.2 != r82.2))] 16 [some 15] rfl rfl (by kernel_rfl) rfl (by kernel_rfl) (by kernel_rfl) fun G a w S => ?_
                        refine sMove (.bool (r74.2 != r82.2)) S (wN rfl) (.inl rfl) (by kernel_rfl) rfl (by decide) (fun a S => ?_)
                        exact leafL ⟨rfl, S⟩
                      · refine fI 82 (.slice ad92 r90.1.length cp93) [(11, .slice ad92 r90.1.length cp93), (81, .bool (r74.2 != r82.2))] 17 [none, some 16] rfl rfl (by kernel_rfl) rfl (by kernel_rfl) (by kernel_rfl) fun G a w S => ?_
                        refine sMove (.slice ad92 r90.1.length cp93) S (wG (c := r74.2 != r82.2) 16 false 81 rfl rfl (by kernel_rfl) hc127) (.inl rfl) (by kernel_rfl) rfl (by decide) (fun a S => ?_)
                        exact leafL ⟨rfl, S⟩
                      · refine fI 83 (.int .i64 (r90.1.length : Int)) [(82, .slice ad92 r90.1.length cp93), (81, .bool (r74.2 != r82.2))] 18 [some 17, some 16] rfl rfl (by kernel_rfl) rfl (by kernel_rfl) (by kernel_rfl) fun G a w S => ?_
                        refine sLen (ad := ad92) (m := r90.1.length) (c := cp93) S (wG (c := r74.2 != r82.2) 16 false 81 rfl rfl (by kernel_rfl) hc127) rfl Try.underlying43 (by kernel_rfl) rfl (by decide) (fun a S => ?_)
                        exact leafL ⟨rfl, S⟩
                      · refine fI 84 (.slice ad97 r95.1.length cp98) [(13, .slice ad97 r95.1.length cp98), (81, .bool (r74.2 != r82.2))] 19 [none, some 16] rfl rfl (by kernel_rfl) rfl (by kernel_rfl) (by kernel_rfl) fun G a w S => ?_
                        refine sMove (.slice ad97 r95.1.length cp98) S (wG (c := r74.2 != r82.2) 16 false 81 rfl rfl (by kernel_rfl) hc127) (.inl rfl) (by kernel_rfl) rfl (by decide) (fun a S => ?_)
                        exact leafL ⟨rfl, S⟩
                      · refine fI 85 (.int .i64 (r95.1.length : Int)) [(84, .slice ad97 r95.1.length cp98), (81, .bool (r74.2 != r82.2))] 20 [some 19, some 16] rfl rfl (by kernel_rfl) rfl (by kernel_rfl) (by kernel_rfl) fun G a w S => ?_
                        refine sLen (ad := ad97) (m := r95.1.length) (c := cp98) S (wG (c := r74.2 != r82.2) 16 false 81 rfl rfl (by kernel_rfl) hc127) rfl Try.underlying43 (by kernel_rfl) rfl (by decide) (fun a S => ?_)
                        exact leafL ⟨rfl, S⟩
                      · refine fI 86 (.bool ((r90.1.length : Int) != (r95.1.length : Int))) [(83, .int .i64 (r90.1.length : Int)), (85, .int .i64 (r95.1.length : Int)), (81, .bool (r74.2 != r82.2))] 21 [some 18, some 20, some 16] rfl rfl (by kernel_rfl) rfl (by kernel_rfl) (by kernel_rfl) fun G a w S => ?_
                        refine sBin (.bool ((r90.1.length : Int) != (r95.1.length : Int))) S (wG (c := r74.2 != r82.2) 16 false 81 rfl rfl (by kernel_rfl) hc127) rfl (by kernel_rfl) (by kernel_rfl) (bNe _ _ _ _ .i64 (r90.1.length : Int) (r95.1.length : Int)) rfl (by decide) (fun a S => ?_)
                        exact leafL ⟨rfl, S⟩
                      · refine fI 87 (.bool ((r90.1.length : Int) != (r95.1.length : Int))) [(81, .bool (r74.2 != r82.2)), (86, .bool ((r90.1.length : Int) != (r95.1.length : Int)))] 22 [some 16, some 21] rfl rfl (by kernel_rfl) rfl (by kernel_rfl) (by kernel_rfl) fun G a w S => ?_
                        refine sPickF (b := r74.2 != r82.2) (.bool ((r90.1.length : Int) != (r95.1.length : Int))) S (wN rfl) rfl (by kernel_rfl) hc127 (by kernel_rfl) rfl (by decide) (fun a S => ?_)
                        exact leafL ⟨rfl, S⟩
                      · refine fI 88 (.bool ((r90.1.length : Int) != (r95.1.length : Int))) [(87, .bool ((r90.1.length : Int) != (r95.1.length : Int)))] 23 [some 22] rfl rfl (by kernel_rfl) rfl (by kernel_rfl) (by kernel_rfl) fun G a w S => ?_
                        refine sMove (.bool ((r90.1.length : Int) != (r95.1.length : Int))) S (wN rfl) (.inl rfl) (by kernel_rfl) rfl (by decide) (fun a S => ?_)
                        exact leafL ⟨rfl, S⟩
                      · refine fI 89 (.int .i64 r90.2) [(12, .int .i64 r90.2), (88, .bool ((r90.1.length : Int) != (r95.1.length : Int)))] 24 [none, some 23] rfl rfl (by kernel_rfl) rfl (by kernel_rfl) (by kernel_rfl) fun G a w S => ?_
                        refine sMove (.int .i64 r90.2) S (wG (c := (r90.1.length : Int) != (r95.1.length : Int)) 23 false 88 rfl rfl (by kernel_rfl) hc128) (.inl rfl) (by kernel_rfl) rfl (by decide) (fun a S => ?_)
                        exact leafL ⟨rfl, S⟩
                      · refine fI 90 (.int .i64 r95.2) [(14, .int .i64 r95.2), (88, .bool ((r90.1.length : Int) != (r95.1.length : Int)))] 25 [none, some 23] rfl rfl (by kernel_rfl) rfl (by kernel_rfl) (by kernel_rfl) fun G a w S => ?_
                        refine sMove (.int .i64 r95.2) S (wG (c := (r90.1.length : Int) != (r95.1.length : Int)) 23 false 88 rfl rfl (by kernel_rfl) hc128) (.inl rfl) (by kernel_rfl) rfl (by decide) (fun a S => ?_)
                        exact leafL ⟨rfl, S⟩
                      · refine fI 91 (.bool (r90.2 != r95.2)) [(89, .int .i64 r90.2), (90, .int .i64 r95.2), (88, .bool ((r90.1.length : Int) != (r95.1.length : Int)))] 26 [some 24, some 25, some 23] rfl rfl (by kernel_rfl) rfl (by kernel_rfl) (by kernel_rfl) fun G a w S => ?_
                        refine sBin (.bool (r90.2 != r95.2)) S (wG (c := (r90.1.length : Int) != (r95.1.length : Int)) 23 false 88 rfl rfl (by kernel_rfl) hc128) rfl (by kernel_rfl) (by kernel_rfl) (bNe _ _ _ _ .i64 r90.2 r95.2) rfl (by decide) (fun a S => ?_)
                        exact leafL ⟨rfl, S⟩
                      · refine fI 92 (.bool (r90.2 != r95.2)) [(88, .bool ((r90.1.length : Int) != (r95.1.length : Int))), (91, .bool (r90.2 != r95.2))] 27 [some 23, some 26] rfl rfl (by kernel_rfl) rfl (by kernel_rfl) (by kernel_rfl) fun G a w S => ?_
                        refine sPickF (b := (r90.1.length : Int) != (r95.1.length : Int)) (.bool (r90.2 != r95.2)) S (wN rfl) rfl (by kernel_rfl) hc128 (by kernel_rfl) rfl (by decide) (fun a S => ?_)
                        exact leafL ⟨rfl, S⟩
                      · refine fI 93 (.bool (r90.2 != r95.2)) [(92, .bool (r90.2 != r95.2))] 28 [some 27] rfl rfl (by kernel_rfl) rfl (by kernel_rfl) (by kernel_rfl) fun G a w S => ?_
                        refine sMove (.bool (r90.2 != r95.2)) S (wN rfl) (.inl rfl) (by kernel_rfl) rfl (by decide) (fun a S => ?_)
                        exact leafL ⟨rfl, S⟩
                      · refine fI 94 (.agg #[.slice ad102 r100.1.Left.length cp103, .slice ad104 r100.1.Right.length cp105]) [(15, .pointer (some ⟨b106, 0, none⟩)), (93, .bool (r90.2 != r95.2))] 29 [none, some 28] rfl rfl (by kernel_rfl) rfl (by kernel_rfl) (by kernel_rfl) fun G a w S => ?_
                        refine sLoadN (p := b106) (off := 0) (T := 36) (vs := [.slice ad102 r100.1.Left.length cp103, .slice ad104 r100.1.Right.length cp105]) 3 [.slice ad102 r100.1.Left.length cp103, .slice ad104 r100.1.Right.length cp105] S (wG (c := r90.2 != r95.2) 28 false 93 rfl rfl (by kernel_rfl) hc129) rfl (by kernel_rfl) (by kernel_rfl) (by kernel_rfl) (by kernel_rfl) rfl rfl (by decide) (fun a S => ?_)
                        exact leafL ⟨rfl, S⟩
                      · refine fI 95 (.agg #[.slice ad110 r108.1.Left.length cp111, .slice ad112 r108.1.Right.length cp113]) [(17, .pointer (some ⟨b114, 0, none⟩)), (93, .bool (r90.2 != r95.2))] 30 [none, some 28] rfl rfl (by kernel_rfl) rfl (by kernel_rfl) (by kernel_rfl) fun G a w S => ?_
                        refine sLoadN (p := b114) (off := 0) (T := 36) (vs := [.slice ad110 r108.1.Left.length cp111, .slice ad112 r108.1.Right.length cp113]) 0 [.slice ad110 r108.1.Left.length cp111, .slice ad112 r108.1.Right.length cp113] S (wG (c := r90.2 != r95.2) 28 false 93 rfl rfl (by kernel_rfl) hc129) rfl (by kernel_rfl) (by kernel_rfl) (by kernel_rfl) (by kernel_rfl) rfl rfl (by decide) (fun a S => ?_)
                        exact leafL ⟨rfl, S⟩
                      · refine fI 96 (.bool r130) [(94, .agg #[.slice ad102 r100.1.Left.length cp103, .slice ad104 r100.1.Right.length cp105]), (95, .agg #[.slice ad110 r108.1.Left.length cp111, .slice ad112 r108.1.Right.length cp113]), (93, .bool (r90.2 != r95.2))] 31 [some 29, some 30, some 28] rfl rfl (by kernel_rfl) rfl (by kernel_rfl) (by kernel_rfl) fun G a w S => ?_
                        have S1 := S.mem
                        have S1 := S1.shutR (r := (rI .i64)) (T := 3) (v := .slice ad102 r100.1.Left.length cp103) (xs := r100.1.Left) 4 (by kernel_rfl)
                        have S1 := S1.shutR (r := (rI .i64)) (T := 3) (v := .slice ad104 r100.1.Right.length cp105) (xs := r100.1.Right) 4 (by kernel_rfl)
                        have S1 := S1.learn (fRep r_api_Piece (.agg #[.slice ad102 r100.1.Left.length cp103, .slice ad104 r100.1.Right.length cp105]) r100.1) ⟨_, _, rfl, S1.know (i := 1) (e := fRep (rL (rI .i64)) (.slice ad102 r100.1.Left.length cp103) r100.1.Left) (by kernel_rfl), S1.know (i := 0) (e := fRep (rL (rI .i64)) (.slice ad104 r100.1.Right.length cp105) r100.1.Right) (by kernel_rfl)⟩
                        have S1 := S1.shutR (r := (rI .i64)) (T := 3) (v := .slice ad110 r108.1.Left.length cp111) (xs := r108.1.Left) 1 (by kernel_rfl)
                        have S1 := S1.shutR (r := (rI .i64)) (T := 3) (v := .slice ad112 r108.1.Right.length cp113) (xs := r108.1.Right) 1 (by kernel_rfl)
                        have S1 := S1.learn (fRep r_api_Piece (.agg #[.slice ad110 r108.1.Left.length cp111, .slice ad112 r108.1.Right.length cp113]) r108.1) ⟨_, _, rfl, S1.know (i := 1) (e := fRep (rL (rI .i64)) (.slice ad110 r108.1.Left.length cp111) r108.1.Left) (by kernel_rfl), S1.know (i := 0) (e := fRep (rL (rI .i64)) (.slice ad112 r108.1.Right.length cp113) r108.1.Right) (by kernel_rfl)⟩
                        refine sCallQ (X := Unit) (f := 19) (vs := [.agg #[.slice ad102 r100.1.Left.length cp103, .slice ad104 r100.1.Right.length cp105], .agg #[.slice ad110 r108.1.Left.length cp111, .slice ad112 r108.1.Right.length cp113]]) (val := fun _ => .bool r130) S (wG (c := r90.2 != r95.2) 28 false 93 rfl rfl (by kernel_rfl) hc129) rfl callee19 (by kernel_rfl) (S1.quiet [3, 0] (by kernel_rfl)) (fun E1 w1 S1 => c_raddleref37_Same E1 w1 r100.1 (.agg #[.slice ad102 r100.1.Left.length cp103, .slice ad104 r100.1.Right.length cp105]) r108.1 (.agg #[.slice ad110 r108.1.Left.length cp111, .slice ad112 r108.1.Right.length cp113]) r130 hx131 S1) rfl (by decide) (fun _ a w S => ?_)
                        exact leafL ⟨rfl, S⟩
                      · refine fI 97 (.bool (!r130)) [(96, .bool r130), (93, .bool (r90.2 != r95.2))] 32 [some 31, some 28] rfl rfl (by kernel_rfl) rfl (by kernel_rfl) (by kernel_rfl) fun G a w S => ?_
                        refine sNot (b := r130) S (wG (c := r90.2 != r95.2) 28 false 93 rfl rfl (by kernel_rfl) hc129) rfl (by kernel_rfl) rfl (by decide) (fun a S => ?_)
                        exact leafL ⟨rfl, S⟩
                      · refine fI 98 (.bool (!r130)) [(93, .bool (r90.2 != r95.2)), (97, .bool (!r130))] 33 [some 28, some 32] rfl rfl (by kernel_rfl) rfl (by kernel_rfl) (by kernel_rfl) fun G a w S => ?_
                        refine sPickF (b := r90.2 != r95.2) (.bool (!r130)) S (wN rfl) rfl (by kernel_rfl) hc129 (by kernel_rfl) rfl (by decide) (fun a S => ?_)
                        exact leafL ⟨rfl, S⟩
                      · refine fI 99 (.bool (!r130)) [(98, .bool (!r130))] 34 [some 33] rfl rfl (by kernel_rfl) rfl (by kernel_rfl) (by kernel_rfl) fun G a w S => ?_
                        refine sMove (.bool (!r130)) S (wN rfl) (.inl rfl) (by kernel_rfl) rfl (by decide) (fun a S => ?_)
                        exact leafL ⟨rfl, S⟩
                      · refine fI 100 undef [(16, .int .i64 r100.2), (99, .bool (!r130))] 35 [none, some 34] rfl rfl (by kernel_rfl) rfl (by kernel_rfl) (by kernel_rfl) fun G a w S => ?_
                        refine sSkip (c := !r130) 34 false 99 100 S rfl rfl (by kernel_rfl) hc132 rfl (by decide) (fun a S => ?_)
                        exact leafL ⟨rfl, S⟩
                      · refine fI 101 undef [(18, .int .i64 r108.2), (99, .bool (!r130))] 36 [none, some 34] rfl rfl (by kernel_rfl) rfl (by kernel_rfl) (by kernel_rfl) fun G a w S => ?_
                        refine sSkip (c := !r130) 34 false 99 101 S rfl rfl (by kernel_rfl) hc132 rfl (by decide) (fun a S => ?_)
                        exact leafL ⟨rfl, S⟩
                      · refine fI 102 undef [(100, undef), (101, undef), (99, .bool (!r130))] 37 [some 35, some 36, some 34] rfl rfl (by kernel_rfl) rfl (by kernel_rfl) (by kernel_rfl) fun G a w S => ?_
                        refine sSkip (c := !r130) 34 false 99 102 S rfl rfl (by kernel_rfl) hc132 rfl (by decide) (fun a S => ?_)
                        exact leafL ⟨rfl, S⟩
                      · refine fI 103 (.bool true) [(99, .bool (!r130)), (102, undef)] 38 [some 34, some 37] rfl rfl (by kernel_rfl) rfl (by kernel_rfl) (by kernel_rfl) fun G a w S => ?_
                        refine sPickT (b := !r130) (.bool true) S (wN rfl) rfl (by kernel_rfl) hc132 (by kernel_rfl) rfl (by decide) (fun a S => ?_)
                        exact leafL ⟨rfl, S⟩
                      · exact leafT (⟨true, Option.some.inj h, S.fix [15, 3, 16, 17, 7, 6, 4, 5] [4, 5] (by decide) (by kernel_rfl) (by kernel_rfl) (by kernel_rfl)⟩)
                    · refine sDraw (nf := []) (W := [(0, 65, .agg #[.slice ad13 p1.Left.length cp14, .slice ad15 p1.Right.length cp16]), (1, 66, .int .i64 r119), (2, 67, .agg #[.slice ad13 p1.Left.length cp14, .slice ad15 p1.Right.length cp16]), (3, 68, .int .i64 r121), (4, 69, .bool (r119 != r121)), (5, 70, .bool (r119 != r121)), (6, 71, .agg #[.slice ad76 r74.1.Left.length cp77, .slice ad78 r74.1.Right.length cp79]), (7, 72, .agg #[.slice ad84 r82.1.Left.length cp85, .slice ad86 r82.1.Right.length cp87]), (8, 73, .bool r124), (9, 74, .bool (!r124)), (10, 75, .bool (!r124)), (11, 76, .bool (!r124)), (12, 77, .int .i64 r74.2), (13, 78, .int .i64 r82.2), (14, 79, .bool (r74.2 != r82.2)), (15, 80, .bool (r74.2 != r82.2)), (16, 81, .bool (r74.2 != r82.2)), (17, 82, .slice ad92 r90.1.length cp93), (18, 83, .int .i64 (r90.1.length : Int)), (19, 84, .slice ad97 r95.1.length cp98), (20, 85, .int .i64 (r95.1.length : Int)), (21, 86, .bool ((r90.1.length : Int) != (r95.1.length : Int))), (22, 87, .bool ((r90.1.length : Int) != (r95.1.length : Int))), (23, 88, .bool ((r90.1.length : Int) != (r95.1.length : Int))), (24, 89, .int .i64 r90.2), (25, 90, .int .i64 r95.2), (26, 91, .bool (r90.2 != r95.2)), (27, 92, .bool (r90.2 != r95.2)), (28, 93, .bool (r90.2 != r95.2)), (29, 94, .agg #[.slice ad102 r100.1.Left.length cp103, .slice ad104 r100.1.Right.length cp105]), (30, 95, .agg #[.slice ad110 r108.1.Left.length cp111, .slice ad112 r108.1.Right.length cp113]), (31, 96, .bool r130), (32, 97, .bool (!r130)), (33, 98, .bool (!r130)), (34, 99, .bool (!r130)), (35, 100, .int .i64 r100.2), (36, 101, .int .i64 r108.2), (37, 102, .bool (r100.2 != r108.2)), (38, 103, .bool (r100.2 != r108.2))]) (by kernel_rfl) S ?_
                      refine node_by (A := anc_raddlelaw37_PieceMakes_1) (nf := []) (Y := []) (W := [(0, 65, .agg #[.slice ad13 p1.Left.length cp14, .slice ad15 p1.Right.length cp16]), (1, 66, .int .i64 r119), (2, 67, .agg #[.slice ad13 p1.Left.length cp14, .slice ad15 p1.Right.length cp16]), (3, 68, .int .i64 r121), (4, 69, .bool (r119 != r121)), (5, 70, .bool (r119 != r121)), (6, 71, .agg #[.slice ad76 r74.1.Left.length cp77, .slice ad78 r74.1.Right.length cp79]), (7, 72, .agg #[.slice ad84 r82.1.Left.length cp85, .slice ad86 r82.1.Right.length cp87]), (8, 73, .bool r124), (9, 74, .bool (!r124)), (10, 75, .bool (!r124)), (11, 76, .bool (!r124)), (12, 77, .int .i64 r74.2), (13, 78, .int .i64 r82.2), (14, 79, .bool (r74.2 != r82.2)), (15, 80, .bool (r74.2 != r82.2)), (16, 81, .bool (r74.2 != r82.2)), (17, 82, .slice ad92 r90.1.length cp93), (18, 83, .int .i64 (r90.1.length : Int)), (19, 84, .slice ad97 r95.1.length cp98), (20, 85, .int .i64 (r95.1.length : Int)), (21, 86, .bool ((r90.1.length : Int) != (r95.1.length : Int))), (22, 87, .bool ((r90.1.length : Int) != (r95.1.length : Int))), (23, 88, .bool ((r90.1.length : Int) != (r95.1.length : Int))), (24, 89, .int .i64 r90.2), (25, 90, .int .i64 r95.2), (26, 91, .bool (r90.2 != r95.2)), (27, 92, .bool (r90.2 != r95.2)), (28, 93, .bool (r90.2 != r95.2)), (29, 94, .agg #[.slice ad102 r100.1.Left.length cp103, .slice ad104 r100.1.Right.length cp105]), (30, 95, .agg #[.slice ad110 r108.1.Left.length cp111, .slice ad112 r108.1.Right.length cp113]), (31, 96, .bool r130), (32, 97, .bool (!r130)), (33, 98, .bool (!r130)), (34, 99, .bool (!r130)), (35, 100, .int .i64 r100.2), (36, 101, .int .i64 r108.2), (37, 102, .bool (r100.2 != r108.2)), (38, 103, .bool (r100.2 != r108.2))]) 39 (by kernel_rfl) (by kernel_rfl) (by kernel_rfl) (by kernel_rfl) (by kernel_rfl) [0, 1, 2, 3, 4, 5, 6, 7, 8, 9, 10, 11, 12, 13, 14, 15, 16, 17, 18, 19, 20, 21, 22, 23, 24, 25, 26, 27, 28, 29, 30, 31, 32, 33, 34, 35, 36, 37, 38] (by kernel_rfl) (by decide) (by decide) (aF 0 38 (by decide) ?_ (aF 1 37 (by decide) ?_ (aF 2 36 (by decide) ?_ (aF 3 35 (by decide) ?_ (aF 4 34 (by decide) ?_ (aF 5 33 (by decide) ?_ (aF 6 32 (by decide) ?_ (aF 7 31 (by decide) ?_ (aF 8 30 (by decide) ?_ (aF 9 29 (by decide) ?_ (aF 10 28 (by decide) ?_ (aF 11 27 (by decide) ?_ (aF 12 26 (by decide) ?_ (aF 13 25 (by decide) ?_ (aF 14 24 (by decide) ?_ (aF 15 23 (by decide) ?_ (aF 16 22 (by decide) ?_ (aF 17 21 (by decide) ?_ (aF 18 20 (by decide) ?_ (aF 19 19 (by decide) ?_ (aF 20 18 (by decide) ?_ (aF 21 17 (by decide) ?_ (aF 22 16 (by decide) ?_ (aF 23 15 (by decide) ?_ (aF 24 14 (by decide) ?_ (aF 25 13 (by decide) ?_ (aF 26 12 (by decide) ?_ (aF 27 11 (by decide) ?_ (aF 28 10 (by decide) ?_ (aF 29 9 (by decide) ?_ (aF 30 8 (by decide) ?_ (aF 31 7 (by decide) ?_ (aF 32 6 (by decide) ?_ (aF 33 5 (by decide) ?_ (aF 34 4 (by decide) ?_ (aF 35 3 (by decide) ?_ (aF 36 2 (by decide) ?_ (aF 37 1 (by decide) ?_ (aF 38 0 (by decide) ?_ (trivial)))))))))))))))))))))))))))))))))))))))) [(3, .pointer (some ⟨b19, 0, none⟩)), (5, .slice ad32 o31.length cp33), (6, .slice ad35 o34.length cp36), (11, .slice ad92 r90.1.length cp93), (13, .slice ad97 r95.1.length cp98), (15, .pointer (some ⟨b106, 0, none⟩)), (103, .bool (r100.2 != r108.2))] (fin_of [none, none, none, none, none, none, some 38] rfl (by kernel_rfl) (by kernel_rfl)) (fun _ a w S => ?_)
                      · refine fI 65 (.agg #[.slice ad13 p1.Left.length cp14, .slice ad15 p1.Right.length cp16]) [(3, .pointer (some ⟨b19, 0, none⟩))] 0 [none] rfl rfl (by kernel_rfl) rfl (by kernel_rfl) (by kernel_rfl) fun G a w S => ?_
                        refine sLoadN (p := b19) (off := 0) (T := 36) (vs := [.slice ad13 p1.Left.length cp14, .slice ad15 p1.Right.length cp16]) 15 [.slice ad13 p1.Left.length cp14, .slice ad15 p1.Right.length cp16] S (wN rfl) rfl (by kernel_rfl) (by kernel_rfl) (by kernel_rfl) (by kernel_rfl) rfl rfl (by decide) (fun a S => ?_)
                        exact leafL ⟨rfl, S⟩
                      · refine fI 66 (.int .i64 r119) [(65, .agg #[.slice ad13 p1.Left.length cp14, .slice ad15 p1.Right.length cp16])] 1 [some 0] rfl rfl (by kernel_rfl) rfl (by kernel_rfl) (by kernel_rfl) fun G a w S => ?_
                        have S1 := S.mem
                        refine sCallQ (X := Unit) (f := 17) (vs := [.agg #[.slice ad13 p1.Left.length cp14, .slice ad15 p1.Right.length cp16]]) (val := fun _ => .int .i64 r119) S (wN rfl) rfl callee17 (by kernel_rfl) (S1.quiet [0] (by kernel_rfl)) (fun E1 w1 S1 => c_piece_Check E1 w1 p1 (.agg #[.slice ad13 p1.Left.length cp14, .slice ad15 p1.Right.length cp16]) r119 hx120 S1) rfl (by decide) (fun _ a w S => ?_)
                        exact leafL ⟨rfl, S⟩
                      · refine fI 67 (.agg #[.slice ad13 p1.Left.length cp14, .slice ad15 p1.Right.length cp16]) [(3, .pointer (some ⟨b19, 0, none⟩))] 2 [none] rfl rfl (by kernel_rfl) rfl (by kernel_rfl) (by kernel_rfl) fun G a w S => ?_
                        refine sLoadN (p := b19) (off := 0) (T := 36) (vs := [.slice ad13 p1.Left.length cp14, .slice ad15 p1.Right.length cp16]) 15 [.slice ad13 p1.Left.length cp14, .slice ad15 p1.Right.length cp16] S (wN rfl) rfl (by kernel_rfl) (by kernel_rfl) (by kernel_rfl) (by kernel_rfl) rfl rfl (by decide) (fun a S => ?_)
                        exact leafL ⟨rfl, S⟩
                      · refine fI 68 (.int .i64 r121) [(67, .agg #[.slice ad13 p1.Left.length cp14, .slice ad15 p1.Right.length cp16])] 3 [some 2] rfl rfl (by kernel_rfl) rfl (by kernel_rfl) (by kernel_rfl) fun G a w S => ?_
                        have S1 := S.mem
                        refine sCallQ (X := Unit) (f := 18) (vs := [.agg #[.slice ad13 p1.Left.length cp14, .slice ad15 p1.Right.length cp16]]) (val := fun _ => .int .i64 r121) S (wN rfl) rfl callee18 (by kernel_rfl) (S1.quiet [0] (by kernel_rfl)) (fun E1 w1 S1 => c_raddleref37_Check E1 w1 p1 (.agg #[.slice ad13 p1.Left.length cp14, .slice ad15 p1.Right.length cp16]) r121 hx122 S1) rfl (by decide) (fun _ a w S => ?_)
                        exact leafL ⟨rfl, S⟩
                      · refine fI 69 (.bool (r119 != r121)) [(66, .int .i64 r119), (68, .int .i64 r121)] 4 [some 1, some 3] rfl rfl (by kernel_rfl) rfl (by kernel_rfl) (by kernel_rfl) fun G a w S => ?_
                        refine sBin (.bool (r119 != r121)) S (wN rfl) rfl (by kernel_rfl) (by kernel_rfl) (bNe _ _ _ _ .i64 r119 r121) rfl (by decide) (fun a S => ?_)
                        exact leafL ⟨rfl, S⟩
                      · refine fI 70 (.bool (r119 != r121)) [(69, .bool (r119 != r121))] 5 [some 4] rfl rfl (by kernel_rfl) rfl (by kernel_rfl) (by kernel_rfl) fun G a w S => ?_
                        refine sMove (.bool (r119 != r121)) S (wN rfl) (.inl rfl) (by kernel_rfl) rfl (by decide) (fun a S => ?_)
                        exact leafL ⟨rfl, S⟩
                      · refine fI 71 (.agg #[.slice ad76 r74.1.Left.length cp77, .slice ad78 r74.1.Right.length cp79]) [(7, .pointer (some ⟨b80, 0, none⟩)), (70, .bool (r119 != r121))] 6 [none, some 5] rfl rfl (by kernel_rfl) rfl (by kernel_rfl) (by kernel_rfl) fun G a w S => ?_
                        refine sLoadN (p := b80) (off := 0) (T := 36) (vs := [.slice ad76 r74.1.Left.length cp77, .slice ad78 r74.1.Right.length cp79]) 11 [.slice ad76 r74.1.Left.length cp77, .slice ad78 r74.1.Right.length cp79] S (wG (c := r119 != r121) 5 false 70 rfl rfl (by kernel_rfl) hc123) rfl (by kernel_rfl) (by kernel_rfl) (by kernel_rfl) (by kernel_rfl) rfl rfl (by decide) (fun a S => ?_)
                        exact leafL ⟨rfl, S⟩
                      · refine fI 72 (.agg #[.slice ad84 r82.1.Left.length cp85, .slice ad86 r82.1.Right.length cp87]) [(9, .pointer (some ⟨b88, 0, none⟩)), (70, .bool (r119 != r121))] 7 [none, some 5] rfl rfl (by kernel_rfl) rfl (by kernel_rfl) (by kernel_rfl) fun G a w S => ?_
                        refine sLoadN (p := b88) (off := 0) (T := 36) (vs := [.slice ad84 r82.1.Left.length cp85, .slice ad86 r82.1.Right.length cp87]) 8 [.slice ad84 r82.1.Left.length cp85, .slice ad86 r82.1.Right.length cp87] S (wG (c := r119 != r121) 5 false 70 rfl rfl (by kernel_rfl) hc123) rfl (by kernel_rfl) (by kernel_rfl) (by kernel_rfl) (by kernel_rfl) rfl rfl (by decide) (fun a S => ?_)
                        exact leafL ⟨rfl, S⟩
                      · refine fI 73 (.bool r124) [(71, .agg #[.slice ad76 r74.1.Left.length cp77, .slice ad78 r74.1.Right.length cp79]), (72, .agg #[.slice ad84 r82.1.Left.length cp85, .slice ad86 r82.1.Right.length cp87]), (70, .bool (r119 != r121))] 8 [some 6, some 7, some 5] rfl rfl (by kernel_rfl) rfl (by kernel_rfl) (by kernel_rfl) fun G a w S => ?_
                        have S1 := S.mem
                        have S1 := S1.shutR (r := (rI .i64)) (T := 3) (v := .slice ad76 r74.1.Left.length cp77) (xs := r74.1.Left) 12 (by kernel_rfl)
                        have S1 := S1.shutR (r := (rI .i64)) (T := 3) (v := .slice ad78 r74.1.Right.length cp79) (xs := r74.1.Right) 12 (by kernel_rfl)
                        have S1 := S1.learn (fRep r_api_Piece (.agg #[.slice ad76 r74.1.Left.length cp77, .slice ad78 r74.1.Right.length cp79]) r74.1) ⟨_, _, rfl, S1.know (i := 1) (e := fRep (rL (rI .i64)) (.slice ad76 r74.1.Left.length cp77) r74.1.Left) (by kernel_rfl), S1.know (i := 0) (e := fRep (rL (rI .i64)) (.slice ad78 r74.1.Right.length cp79) r74.1.Right) (by kernel_rfl)⟩
                        have S1 := S1.shutR (r := (rI .i64)) (T := 3) (v := .slice ad84 r82.1.Left.length cp85) (xs := r82.1.Left) 9 (by kernel_rfl)
                        have S1 := S1.shutR (r := (rI .i64)) (T := 3) (v := .slice ad86 r82.1.Right.length cp87) (xs := r82.1.Right) 9 (by kernel_rfl)
                        have S1 := S1.learn (fRep r_api_Piece (.agg #[.slice ad84 r82.1.Left.length cp85, .slice ad86 r82.1.Right.length cp87]) r82.1) ⟨_, _, rfl, S1.know (i := 1) (e := fRep (rL (rI .i64)) (.slice ad84 r82.1.Left.length cp85) r82.1.Left) (by kernel_rfl), S1.know (i := 0) (e := fRep (rL (rI .i64)) (.slice ad86 r82.1.Right.length cp87) r82.1.Right) (by kernel_rfl)⟩
                        refine sCallQ (X := Unit) (f := 19) (vs := [.agg #[.slice ad76 r74.1.Left.length cp77, .slice ad78 r74.1.Right.length cp79], .agg #[.slice ad84 r82.1.Left.length cp85, .slice ad86 r82.1.Right.length cp87]]) (val := fun _ => .bool r124) S (wG (c := r119 != r121) 5 false 70 rfl rfl (by kernel_rfl) hc123) rfl callee19 (by kernel_rfl) (S1.quiet [3, 0] (by kernel_rfl)) (fun E1 w1 S1 => c_raddleref37_Same E1 w1 r74.1 (.agg #[.slice ad76 r74.1.Left.length cp77, .slice ad78 r74.1.Right.length cp79]) r82.1 (.agg #[.slice ad84 r82.1.Left.length cp85, .slice ad86 r82.1.Right.length cp87]) r124 hx125 S1) rfl (by decide) (fun _ a w S => ?_)
                        exact leafL ⟨rfl, S⟩
                      · refine fI 74 (.bool (!r124)) [(73, .bool r124), (70, .bool (r119 != r121))] 9 [some 8, some 5] rfl rfl (by kernel_rfl) rfl (by kernel_rfl) (by kernel_rfl) fun G a w S => ?_
                        refine sNot (b := r124) S (wG (c := r119 != r121) 5 false 70 rfl rfl (by kernel_rfl) hc123) rfl (by kernel_rfl) rfl (by decide) (fun a S => ?_)
                        exact leafL ⟨rfl, S⟩
                      · refine fI 75 (.bool (!r124)) [(70, .bool (r119 != r121)), (74, .bool (!r124))] 10 [some 5, some 9] rfl rfl (by kernel_rfl) rfl (by kernel_rfl) (by kernel_rfl) fun G a w S => ?_
                        refine sPickF (b := r119 != r121) (.bool (!r124)) S (wN rfl) rfl (by kernel_rfl) hc123 (by kernel_rfl) rfl (by decide) (fun a S => ?_)
                        exact leafL ⟨rfl, S⟩
                      · refine fI 76 (.bool (!r124)) [(75, .bool (!r124))] 11 [some 10] rfl rfl (by kernel_rfl) rfl (by kernel_rfl) (by kernel_rfl) fun G a w S => ?_
                        refine sMove (.bool (!r124)) S (wN rfl) (.inl rfl) (by kernel_rfl) rfl (by decide) (fun a S => ?_)
                        exact leafL ⟨rfl, S⟩
                      · refine fI 77 (.int .i64 r74.2) [(8, .int .i64 r74.2), (76, .bool (!r124))] 12 [none, some 11] rfl rfl (by kernel_rfl) rfl (by kernel_rfl) (by kernel_rfl) fun G a w S => ?_
                        refine sMove (.int .i64 r74.2) S (wG (c := !r124) 11 false 76 rfl rfl (by kernel_rfl) hc126) (.inl rfl) (by kernel_rfl) rfl (by decide) (fun a S => ?_)
                        exact leafL ⟨rfl, S⟩
                      · refine fI 78 (.int .i64 r82.2) [(10, .int .i64 r82.2), (76, .bool (!r124))] 13 [none, some 11] rfl rfl (by kernel_rfl) rfl (by kernel_rfl) (by kernel_rfl) fun G a w S => ?_
                        refine sMove (.int .i64 r82.2) S (wG (c := !r124) 11 false 76 rfl rfl (by kernel_rfl) hc126) (.inl rfl) (by kernel_rfl) rfl (by decide) (fun a S => ?_)
                        exact leafL ⟨rfl, S⟩
                      · refine fI 79 (.bool (r74.2 != r82.2)) [(77, .int .i64 r74.2), (78, .int .i64 r82.2), (76, .bool (!r124))] 14 [some 12, some 13, some 11] rfl rfl (by kernel_rfl) rfl (by kernel_rfl) (by kernel_rfl) fun G a w S => ?_
                        refine sBin (.bool (r74.2 != r82.2)) S (wG (c := !r124) 11 false 76 rfl rfl (by kernel_rfl) hc126) rfl (by kernel_rfl) (by kernel_rfl) (bNe _ _ _ _ .i64 r74.2 r82.2) rfl (by decide) (fun a S => ?_)
                        exact leafL ⟨rfl, S⟩
                      · refine fI 80 (.bool (r74.2 != r82.2)) [(76, .bool (!r124)), (79, .bool (r74.2 != r82.2))] 15 [some 11, some 14] rfl rfl (by kernel_rfl) rfl (by kernel_rfl) (by kernel_rfl) fun G a w S => ?_
                        refine sPickF (b := !r124) (.bool (r74.2 != r82.2)) S (wN rfl) rfl (by kernel_rfl) hc126 (by kernel_rfl) rfl (by decide) (fun a S => ?_)
                        exact leafL ⟨rfl, S⟩
                      · refine fI 81 (.bool (r74.2 != r82.2)) [(80, .bool (r74.2 != r82.2))] 16 [some 15] rfl rfl (by kernel_rfl) rfl (by kernel_rfl) (by kernel_rfl) fun G a w S => ?_
                        refine sMove (.bool (r74.2 != r82.2)) S (wN rfl) (.inl rfl) (by kernel_rfl) rfl (by decide) (fun a S => ?_)
                        exact leafL ⟨rfl, S⟩
                      · refine fI 82 (.slice ad92 r90.1.length cp93) [(11, .slice ad92 r90.1.length cp93), (81, .bool (r74.2 != r82.2))] 17 [none, some 16] rfl rfl (by kernel_rfl) rfl (by kernel_rfl) (by kernel_rfl) fun G a w S => ?_
                        refine sMove (.slice ad92 r90.1.length cp93) S (wG (c := r74.2 != r82.2) 16 false 81 rfl rfl (by kernel_rfl) hc127) (.inl rfl) (by kernel_rfl) rfl (by decide) (fun a S => ?_)
                        exact leafL ⟨rfl, S⟩
                      · refine fI 83 (.int .i64 (r90.1.length : Int)) [(82, .slice ad92 r90.1.length cp93), (81, .bool (r74.2 != r82.2))] 18 [some 17, some 16] rfl rfl (by kernel_rfl) rfl (by kernel_rfl) (by kernel_rfl) fun G a w S => ?_
                        refine sLen (ad := ad92) (m := r90.1.length) (c := cp93) S (wG (c := r74.2 != r82.2) 16 false 81 rfl rfl (by kernel_rfl) hc127) rfl Try.underlying43 (by kernel_rfl) rfl (by decide) (fun a S => ?_)
                        exact leafL ⟨rfl, S⟩
                      · refine fI 84 (.slice ad97 r95.1.length cp98) [(13, .slice ad97 r95.1.length cp98), (81, .bool (r74.2 != r82.2))] 19 [none, some 16] rfl rfl (by kernel_rfl) rfl (by kernel_rfl) (by kernel_rfl) fun G a w S => ?_
                        refine sMove (.slice ad97 r95.1.length cp98) S (wG (c := r74.2 != r82.2) 16 false 81 rfl rfl (by kernel_rfl) hc127) (.inl rfl) (by kernel_rfl) rfl (by decide) (fun a S => ?_)
                        exact leafL ⟨rfl, S⟩
                      · refine fI 85 (.int .i64 (r95.1.length : Int)) [(84, .slice ad97 r95.1.length cp98), (81, .bool (r74.2 != r82.2))] 20 [some 19, some 16] rfl rfl (by kernel_rfl) rfl (by kernel_rfl) (by kernel_rfl) fun G a w S => ?_
                        refine sLen (ad := ad97) (m := r95.1.length) (c := cp98) S (wG (c := r74.2 != r82.2) 16 false 81 rfl rfl (by kernel_rfl) hc127) rfl Try.underlying43 (by kernel_rfl) rfl (by decide) (fun a S => ?_)
                        exact leafL ⟨rfl, S⟩
                      · refine fI 86 (.bool ((r90.1.length : Int) != (r95.1.length : Int))) [(83, .int .i64 (r90.1.length : Int)), (85, .int .i64 (r95.1.length : Int)), (81, .bool (r74.2 != r82.2))] 21 [some 18, some 20, some 16] rfl rfl (by kernel_rfl) rfl (by kernel_rfl) (by kernel_rfl) fun G a w S => ?_
                        refine sBin (.bool ((r90.1.length : Int) != (r95.1.length : Int))) S (wG (c := r74.2 != r82.2) 16 false 81 rfl rfl (by kernel_rfl) hc127) rfl (by kernel_rfl) (by kernel_rfl) (bNe _ _ _ _ .i64 (r90.1.length : Int) (r95.1.length : Int)) rfl (by decide) (fun a S => ?_)
                        exact leafL ⟨rfl, S⟩
                      · refine fI 87 (.bool ((r90.1.length : Int) != (r95.1.length : Int))) [(81, .bool (r74.2 != r82.2)), (86, .bool ((r90.1.length : Int) != (r95.1.length : Int)))] 22 [some 16, some 21] rfl rfl (by kernel_rfl) rfl (by kernel_rfl) (by kernel_rfl) fun G a w S => ?_
                        refine sPickF (b := r74.2 != r82.2) (.bool ((r90.1.length : Int) != (r95.1.length : Int))) S (wN rfl) rfl (by kernel_rfl) hc127 (by kernel_rfl) rfl (by decide) (fun a S => ?_)
                        exact leafL ⟨rfl, S⟩
                      · refine fI 88 (.bool ((r90.1.length : Int) != (r95.1.length : Int))) [(87, .bool ((r90.1.length : Int) != (r95.1.length : Int)))] 23 [some 22] rfl rfl (by kernel_rfl) rfl (by kernel_rfl) (by kernel_rfl) fun G a w S => ?_
                        refine sMove (.bool ((r90.1.length : Int) != (r95.1.length : Int))) S (wN rfl) (.inl rfl) (by kernel_rfl) rfl (by decide) (fun a S => ?_)
                        exact leafL ⟨rfl, S⟩
                      · refine fI 89 (.int .i64 r90.2) [(12, .int .i64 r90.2), (88, .bool ((r90.1.length : Int) != (r95.1.length : Int)))] 24 [none, some 23] rfl rfl (by kernel_rfl) rfl (by kernel_rfl) (by kernel_rfl) fun G a w S => ?_
                        refine sMove (.int .i64 r90.2) S (wG (c := (r90.1.length : Int) != (r95.1.length : Int)) 23 false 88 rfl rfl (by kernel_rfl) hc128) (.inl rfl) (by kernel_rfl) rfl (by decide) (fun a S => ?_)
                        exact leafL ⟨rfl, S⟩
                      · refine fI 90 (.int .i64 r95.2) [(14, .int .i64 r95.2), (88, .bool ((r90.1.length : Int) != (r95.1.length : Int)))] 25 [none, some 23] rfl rfl (by kernel_rfl) rfl (by kernel_rfl) (by kernel_rfl) fun G a w S => ?_
                        refine sMove (.int .i64 r95.2) S (wG (c := (r90.1.length : Int) != (r95.1.length : Int)) 23 false 88 rfl rfl (by kernel_rfl) hc128) (.inl rfl) (by kernel_rfl) rfl (by decide) (fun a S => ?_)
                        exact leafL ⟨rfl, S⟩
                      · refine fI 91 (.bool (r90.2 != r95.2)) [(89, .int .i64 r90.2), (90, .int .i64 r95.2), (88, .bool ((r90.1.length : Int) != (r95.1.length : Int)))] 26 [some 24, some 25, some 23] rfl rfl (by kernel_rfl) rfl (by kernel_rfl) (by kernel_rfl) fun G a w S => ?_
                        refine sBin (.bool (r90.2 != r95.2)) S (wG (c := (r90.1.length : Int) != (r95.1.length : Int)) 23 false 88 rfl rfl (by kernel_rfl) hc128) rfl (by kernel_rfl) (by kernel_rfl) (bNe _ _ _ _ .i64 r90.2 r95.2) rfl (by decide) (fun a S => ?_)
                        exact leafL ⟨rfl, S⟩
                      · refine fI 92 (.bool (r90.2 != r95.2)) [(88, .bool ((r90.1.length : Int) != (r95.1.length : Int))), (91, .bool (r90.2 != r95.2))] 27 [some 23, some 26] rfl rfl (by kernel_rfl) rfl (by kernel_rfl) (by kernel_rfl) fun G a w S => ?_
                        refine sPickF (b := (r90.1.length : Int) != (r95.1.length : Int)) (.bool (r90.2 != r95.2)) S (wN rfl) rfl (by kernel_rfl) hc128 (by kernel_rfl) rfl (by decide) (fun a S => ?_)
                        exact leafL ⟨rfl, S⟩
                      · refine fI 93 (.bool (r90.2 != r95.2)) [(92, .bool (r90.2 != r95.2))] 28 [some 27] rfl rfl (by kernel_rfl) rfl (by kernel_rfl) (by kernel_rfl) fun G a w S => ?_
                        refine sMove (.bool (r90.2 != r95.2)) S (wN rfl) (.inl rfl) (by kernel_rfl) rfl (by decide) (fun a S => ?_)
                        exact leafL ⟨rfl, S⟩
                      · refine fI 94 (.agg #[.slice ad102 r100.1.Left.length cp103, .slice ad104 r100.1.Right.length cp105]) [(15, .pointer (some ⟨b106, 0, none⟩)), (93, .bool (r90.2 != r95.2))] 29 [none, some 28] rfl rfl (by kernel_rfl) rfl (by kernel_rfl) (by kernel_rfl) fun G a w S => ?_
                        refine sLoadN (p := b106) (off := 0) (T := 36) (vs := [.slice ad102 r100.1.Left.length cp103, .slice ad104 r100.1.Right.length cp105]) 3 [.slice ad102 r100.1.Left.length cp103, .slice ad104 r100.1.Right.length cp105] S (wG (c := r90.2 != r95.2) 28 false 93 rfl rfl (by kernel_rfl) hc129) rfl (by kernel_rfl) (by kernel_rfl) (by kernel_rfl) (by kernel_rfl) rfl rfl (by decide) (fun a S => ?_)
                        exact leafL ⟨rfl, S⟩
                      · refine fI 95 (.agg #[.slice ad110 r108.1.Left.length cp111, .slice ad112 r108.1.Right.length cp113]) [(17, .pointer (some ⟨b114, 0, none⟩)), (93, .bool (r90.2 != r95.2))] 30 [none, some 28] rfl rfl (by kernel_rfl) rfl (by kernel_rfl) (by kernel_rfl) fun G a w S => ?_
                        refine sLoadN (p := b114) (off := 0) (T := 36) (vs := [.slice ad110 r108.1.Left.length cp111, .slice ad112 r108.1.Right.length cp113]) 0 [.slice ad110 r108.1.Left.length cp111, .slice ad112 r108.1.Right.length cp113] S (wG (c := r90.2 != r95.2) 28 false 93 rfl rfl (by kernel_rfl) hc129) rfl (by kernel_rfl) (by kernel_rfl) (by kernel_rfl) (by kernel_rfl) rfl rfl (by decide) (fun a S => ?_)
                        exact leafL ⟨rfl, S⟩
                      · refine fI 96 (.bool r130) [(94, .agg #[.slice ad102 r100.1.Left.length cp103, .slice ad104 r100.1.Right.length cp105]), (95, .agg #[.slice ad110 r108.1.Left.length cp111, .slice ad112 r108.1.Right.length cp113]), (93, .bool (r90.2 != r95.2))] 31 [some 29, some 30, some 28] rfl rfl (by kernel_rfl) rfl (by kernel_rfl) (by kernel_rfl) fun G a w S => ?_
                        have S1 := S.mem
                        have S1 := S1.shutR (r := (rI .i64)) (T := 3) (v := .slice ad102 r100.1.Left.length cp103) (xs := r100.1.Left) 4 (by kernel_rfl)
                        have S1 := S1.shutR (r := (rI .i64)) (T := 3) (v := .slice ad104 r100.1.Right.length cp105) (xs := r100.1.Right) 4 (by kernel_rfl)
                        have S1 := S1.learn (fRep r_api_Piece (.agg #[.slice ad102 r100.1.Left.length cp103, .slice ad104 r100.1.Right.length cp105]) r100.1) ⟨_, _, rfl, S1.know (i := 1) (e := fRep (rL (rI .i64)) (.slice ad102 r100.1.Left.length cp103) r100.1.Left) (by kernel_rfl), S1.know (i := 0) (e := fRep (rL (rI .i64)) (.slice ad104 r100.1.Right.length cp105) r100.1.Right) (by kernel_rfl)⟩
                        have S1 := S1.shutR (r := (rI .i64)) (T := 3) (v := .slice ad110 r108.1.Left.length cp111) (xs := r108.1.Left) 1 (by kernel_rfl)
                        have S1 := S1.shutR (r := (rI .i64)) (T := 3) (v := .slice ad112 r108.1.Right.length cp113) (xs := r108.1.Right) 1 (by kernel_rfl)
                        have S1 := S1.learn (fRep r_api_Piece (.agg #[.slice ad110 r108.1.Left.length cp111, .slice ad112 r108.1.Right.length cp113]) r108.1) ⟨_, _, rfl, S1.know (i := 1) (e := fRep (rL (rI .i64)) (.slice ad110 r108.1.Left.length cp111) r108.1.Left) (by kernel_rfl), S1.know (i := 0) (e := fRep (rL (rI .i64)) (.slice ad112 r108.1.Right.length cp113) r108.1.Right) (by kernel_rfl)⟩
                        refine sCallQ (X := Unit) (f := 19) (vs := [.agg #[.slice ad102 r100.1.Left.length cp103, .slice ad104 r100.1.Right.length cp105], .agg #[.slice ad110 r108.1.Left.length cp111, .slice ad112 r108.1.Right.length cp113]]) (val := fun _ => .bool r130) S (wG (c := r90.2 != r95.2) 28 false 93 rfl rfl (by kernel_rfl) hc129) rfl callee19 (by kernel_rfl) (S1.quiet [3, 0] (by kernel_rfl)) (fun E1 w1 S1 => c_raddleref37_Same E1 w1 r100.1 (.agg #[.slice ad102 r100.1.Left.length cp103, .slice ad104 r100.1.Right.length cp105]) r108.1 (.agg #[.slice ad110 r108.1.Left.length cp111, .slice ad112 r108.1.Right.length cp113]) r130 hx131 S1) rfl (by decide) (fun _ a w S => ?_)
                        exact leafL ⟨rfl, S⟩
                      · refine fI 97 (.bool (!r130)) [(96, .bool r130), (93, .bool (r90.2 != r95.2))] 32 [some 31, some 28] rfl rfl (by kernel_rfl) rfl (by kernel_rfl) (by kernel_rfl) fun G a w S => ?_
                        refine sNot (b := r130) S (wG (c := r90.2 != r95.2) 28 false 93 rfl rfl (by kernel_rfl) hc129) rfl (by kernel_rfl) rfl (by decide) (fun a S => ?_)
                        exact leafL ⟨rfl, S⟩
                      · refine fI 98 (.bool (!r130)) [(93, .bool (r90.2 != r95.2)), (97, .bool (!r130))] 33 [some 28, some 32] rfl rfl (by kernel_rfl) rfl (by kernel_rfl) (by kernel_rfl) fun G a w S => ?_
                        refine sPickF (b := r90.2 != r95.2) (.bool (!r130)) S (wN rfl) rfl (by kernel_rfl) hc129 (by kernel_rfl) rfl (by decide) (fun a S => ?_)
                        exact leafL ⟨rfl, S⟩
                      · refine fI 99 (.bool (!r130)) [(98, .bool (!r130))] 34 [some 33] rfl rfl (by kernel_rfl) rfl (by kernel_rfl) (by kernel_rfl) fun G a w S => ?_
                        refine sMove (.bool (!r130)) S (wN rfl) (.inl rfl) (by kernel_rfl) rfl (by decide) (fun a S => ?_)
                        exact leafL ⟨rfl, S⟩
                      · refine fI 100 (.int .i64 r100.2) [(16, .int .i64 r100.2), (99, .bool (!r130))] 35 [none, some 34] rfl rfl (by kernel_rfl) rfl (by kernel_rfl) (by kernel_rfl) fun G a w S => ?_
                        refine sMove (.int .i64 r100.2) S (wG (c := !r130) 34 false 99 rfl rfl (by kernel_rfl) hc132) (.inl rfl) (by kernel_rfl) rfl (by decide) (fun a S => ?_)
                        exact leafL ⟨rfl, S⟩
                      · refine fI 101 (.int .i64 r108.2) [(18, .int .i64 r108.2), (99, .bool (!r130))] 36 [none, some 34] rfl rfl (by kernel_rfl) rfl (by kernel_rfl) (by kernel_rfl) fun G a w S => ?_
                        refine sMove (.int .i64 r108.2) S (wG (c := !r130) 34 false 99 rfl rfl (by kernel_rfl) hc132) (.inl rfl) (by kernel_rfl) rfl (by decide) (fun a S => ?_)
                        exact leafL ⟨rfl, S⟩
                      · refine fI 102 (.bool (r100.2 != r108.2)) [(100, .int .i64 r100.2), (101, .int .i64 r108.2), (99, .bool (!r130))] 37 [some 35, some 36, some 34] rfl rfl (by kernel_rfl) rfl (by kernel_rfl) (by kernel_rfl) fun G a w S => ?_
                        refine sBin (.bool (r100.2 != r108.2)) S (wG (c := !r130) 34 false 99 rfl rfl (by kernel_rfl) hc132) rfl (by kernel_rfl) (by kernel_rfl) (bNe _ _ _ _ .i64 r100.2 r108.2) rfl (by decide) (fun a S => ?_)
                        exact leafL ⟨rfl, S⟩
                      · refine fI 103 (.bool (r100.2 != r108.2)) [(99, .bool (!r130)), (102, .bool (r100.2 != r108.2))] 38 [some 34, some 37] rfl rfl (by kernel_rfl) rfl (by kernel_rfl) (by kernel_rfl) fun G a w S => ?_
                        refine sPickF (b := !r130) (.bool (r100.2 != r108.2)) S (wN rfl) rfl (by kernel_rfl) hc132 (by kernel_rfl) rfl (by decide) (fun a S => ?_)
                        exact leafL ⟨rfl, S⟩
                      · exact leafT (⟨r100.2 != r108.2, Option.some.inj h, S.fix [15, 3, 16, 17, 7, 6, 4, 5] [4, 5] (by decide) (by kernel_rfl) (by kernel_rfl) (by kernel_rfl)⟩)
        · obtain ⟨o116, rfl, S⟩ := hI
          have h := g118
          clear g118
          try dsimp only at h
          rcases iteSome h with ⟨hc133, h⟩ | ⟨hc133, h⟩
          · refine sCondT (b := o116) S (by kernel_rfl) hc133 ?_
            refine sSeq (fun K134 hK134 => ?_)
            refine sRegion ?_
            refine sMove (.bool false) S (wN rfl) (.inr rfl) (by kernel_rfl) rfl (by decide) (fun a S => ?_)
            refine leafL (leafT (hK134 _ _ ?_))
            obtain rfl := Option.some.inj h
            exact wp_ret (rThen (sRet (.bool false) S (rsl1 rfl (rvT (t := 4) (v := .bool false) S (by kernel_rfl))) ⟨(), rfl, S.mem.sel [] [] (by decide) (by kernel_rfl) (by kernel_rfl)⟩))
          · refine sCondF (b := o116) S (by kernel_rfl) hc133 ?_
            refine wp_skip (leafT (hK115 _ _ ?_))
            obtain ⟨t135, h, g136⟩ := bindSome h
            refine sCut (fun a w => .inl () = t135 ∧ St E [] w0 151 a w [(3, .pointer (some ⟨b19, 0, none⟩)), (5, .slice ad32 o31.length cp33), (6, .slice ad35 o34.length cp36), (15, .pointer (some ⟨b106, 0, none⟩))] [eBox b19 36 [.slice ad13 p1.Left.length cp14, .slice ad15 p1.Right.length cp16], eBox b106 36 [.slice ad102 r100.1.Left.length cp103, .slice ad104 r100.1.Right.length cp105], eRow (rI .i64) 3 (.slice ad32 o31.length cp33) o31, eRow (rI .i64) 3 (.slice ad35 o34.length cp36) o34, eRow (rI .i64) 3 (.slice ad102 r100.1.Left.length cp103) r100.1.Left, eRow (rI .i64) 3 (.slice ad104 r100.1.Right.length cp105) r100.1.Right] [fRep (rL (rI .i64)) (.slice ad13 p1.Left.length cp14) p1.Left, fRep (rL (rI .i64)) (.slice ad15 p1.Right.length cp16) p1.Right]) ?_ (fun a w hI => ?_)
            · refine sSeq (fun K137 hK137 => ?_)
              refine sRegion ?_
              refine sMove (.int .i64 0) S (wN rfl) (.inr rfl) (by kernel_rfl) rfl (by decide) (fun a S => ?_)
              refine leafL (leafT (hK137 _ _ ?_))
              refine wp_block ?_
              have S := S.shutR (r := r_A2_Int) (T := 53) (v := .slice ad92 r90.1.length cp93) (xs := r90.1) 4 (by kernel_rfl)
              have S := S.shutR (r := r_A2_Int) (T := 53) (v := .slice ad97 r95.1.length cp98) (xs := r95.1) 4 (by kernel_rfl)
              obtain ⟨t141, hl, g140⟩ := bindSome h
              refine sLoop hl (fun s0 a w => match s0 with | s138 => St E [] w0 151 a w [(3, .pointer (some ⟨b19, 0, none⟩)), (5, .slice ad32 o31.length cp33), (6, .slice ad35 o34.length cp36), (11, .slice ad92 r90.1.length cp93), (13, .slice ad97 r95.1.length cp98), (15, .pointer (some ⟨b106, 0, none⟩)), (19, .int .i64 s138)] [eBox b19 36 [.slice ad13 p1.Left.length cp14, .slice ad15 p1.Right.length cp16], eBox b106 36 [.slice ad102 r100.1.Left.length cp103, .slice ad104 r100.1.Right.length cp105], eRow (rI .i64) 3 (.slice ad32 o31.length cp33) o31, eRow (rI .i64) 3 (.slice ad35 o34.length cp36) o34, eRow (rI .i64) 3 (.slice ad102 r100.1.Left.length cp103) r100.1.Left, eRow (rI .i64) 3 (.slice ad104 r100.1.Right.length cp105) r100.1.Right] [fRep (rL r_A2_Int) (.slice ad92 r90.1.length cp93) r90.1, fRep (rL r_A2_Int) (.slice ad97 r95.1.length cp98) r95.1, fRep (rL (rI .i64)) (.slice ad13 p1.Left.length cp14) p1.Left, fRep (rL (rI .i64)) (.slice ad15 p1.Right.length cp16) p1.Right]) (S.fix [0, 1, 2, 3, 4, 5] [1, 0, 2, 3] (by decide) (by kernel_rfl) (by kernel_rfl) (by kernel_rfl)) ?_
              clear hl h
              intro s138 a w c0 hI h hu139
              unfold raddlelaw37_PieceMakes_l1 at h
              dsimp only at h hI
              have S := hI
              refine sSeq (fun K142 hK142 => ?_)
              refine sSeq (fun K143 hK143 => ?_)
              refine sRegion ?_
              refine sMove (.int .i64 s138) S (wN rfl) (.inl rfl) (by kernel_rfl) rfl (by decide) (fun a S => ?_)
              refine sMove (.slice ad92 r90.1.length cp93) S (wN rfl) (.inl rfl) (by kernel_rfl) rfl (by decide) (fun a S => ?_)
              refine sLen (ad := ad92) (m := r90.1.length) (c := cp93) S (wN rfl) rfl Try.underlying43 (by kernel_rfl) rfl (by decide) (fun a S => ?_)
              refine sBin (.bool (decide (s138 < (r90.1.length : Int)))) S (wN rfl) rfl (by kernel_rfl) (by kernel_rfl) (bLt _ _ _ _ .i64 s138 (r90.1.length : Int)) rfl (by decide) (fun a S => ?_)
              refine leafL (leafT (hK143 _ _ ?_))
              rcases iteSome h with ⟨hc144, h⟩ | ⟨hc144, h⟩
              · refine sCondT (b := decide (s138 < (r90.1.length : Int))) S (by kernel_rfl) hc144 ?_
                refine wp_skip (leafT (hK142 _ _ ?_))
                refine sSeq (fun K145 hK145 => ?_)
                refine wp_block ?_
                refine sSeq (fun K146 hK146 => ?_)
                obtain ⟨x147, hx148, h⟩ := bindSome h
                obtain ⟨x152, hx153, h⟩ := bindSome h
                obtain ⟨q157, hq158, S⟩ := pIdx (P := Try.prog) (r := r_A2_Int) (v := .slice ad92 r90.1.length cp93) (xs := r90.1) (j := s138) 43 53 0 S Try.underlying43 (by kernel_rfl) (by kernel_rfl) hx148
                obtain ⟨u159, S⟩ := pLoad (r := r_A2_Int) (q := q157) (x := x147) 0 S (by kernel_rfl)
                obtain rfl : u159 = .agg #[.int .i64 x147.1, .int .i64 x147.2] := S.mem.know (i := 1) (e := fRep r_A2_Int (u159) x147) (by kernel_rfl)
                obtain ⟨q160, hq161, S⟩ := pIdx (P := Try.prog) (r := r_A2_Int) (v := .slice ad97 r95.1.length cp98) (xs := r95.1) (j := s138) 43 53 4 S Try.underlying43 (by kernel_rfl) (by kernel_rfl) hx153
                obtain ⟨u162, S⟩ := pLoad (r := r_A2_Int) (q := q160) (x := x152) 0 S (by kernel_rfl)
                obtain rfl : u162 = .agg #[.int .i64 x152.1, .int .i64 x152.2] := S.mem.know (i := 1) (e := fRep r_A2_Int (u162) x152) (by kernel_rfl)
                refine sDraw (nf := []) (W := [(0, 110, .slice ad92 r90.1.length cp93), (1, 111, .int .i64 s138), (2, 112, q157), (3, 113, .agg #[.int .i64 x147.1, .int .i64 x147.2]), (4, 114, .slice ad97 r95.1.length cp98), (5, 115, .int .i64 s138), (6, 116, q160), (7, 117, .agg #[.int .i64 x152.1, .int .i64 x152.2]), (8, 118, .bool (!((x147.1 == x152.1) && ((x147.2 == x152.2) && true))))]) (by kernel_rfl) S ?_
                refine node_by (A := anc_raddlelaw37_PieceMakes_2) (nf := []) (Y := []) (W := [(0, 110, .slice ad92 r90.1.length cp93), (1, 111, .int .i64 s138), (2, 112, q157), (3, 113, .agg #[.int .i64 x147.1, .int .i64 x147.2]), (4, 114, .slice ad97 r95.1.length cp98), (5, 115, .int .i64 s138), (6, 116, q160), (7, 117, .agg #[.int .i64 x152.1, .int .i64 x152.2]), (8, 118, .bool (!((x147.1 == x152.1) && ((x147.2 == x152.2) && true))))]) 9 (by kernel_rfl) (by kernel_rfl) (by kernel_rfl) (by kernel_rfl) (by kernel_rfl) [0, 1, 2, 3, 4, 5, 6, 7, 8] (by kernel_rfl) (by decide) (by decide) (aF 0 8 (by decide) ?_ (aF 1 7 (by decide) ?_ (aF 2 6 (by decide) ?_ (aF 3 5 (by decide) ?_ (aF 4 4 (by decide) ?_ (aF 5 3 (by decide) ?_ (aF 6 2 (by decide) ?_ (aF 7 1 (by decide) ?_ (aF 8 0 (by decide) ?_ (trivial)))))))))) [(3, .pointer (some ⟨b19, 0, none⟩)), (5, .slice ad32 o31.length cp33), (6, .slice ad35 o34.length cp36), (11, .slice ad92 r90.1.length cp93), (13, .slice ad97 r95.1.length cp98), (15, .pointer (some ⟨b106, 0, none⟩)), (19, .int .i64 s138), (118, .bool (!((x147.1 == x152.1) && ((x147.2 == x152.2) && true))))] (fin_of [none, none, none, none, none, none, none, some 8] rfl (by kernel_rfl) (by kernel_rfl)) (fun _ a w S => ?_)
                · refine fI 110 (.slice ad92 r90.1.length cp93) [(11, .slice ad92 r90.1.length cp93)] 0 [none] rfl rfl (by kernel_rfl) rfl (by kernel_rfl) (by kernel_rfl) fun G a w S => ?_
                  refine sMove (.slice ad92 r90.1.length cp93) S (wN rfl) (.inl rfl) (by kernel_rfl) rfl (by decide) (fun a S => ?_)
                  exact leafL ⟨rfl, S⟩
                · refine fI 111 (.int .i64 s138) [(19, .int .i64 s138)] 1 [none] rfl rfl (by kernel_rfl) rfl (by kernel_rfl) (by kernel_rfl) fun G a w S => ?_
                  refine sMove (.int .i64 s138) S (wN rfl) (.inl rfl) (by kernel_rfl) rfl (by decide) (fun a S => ?_)
                  exact leafL ⟨rfl, S⟩
                · refine fI 112 q157 [(110, .slice ad92 r90.1.length cp93), (111, .int .i64 s138)] 2 [some 0, some 1] rfl rfl (by kernel_rfl) rfl (by kernel_rfl) (by kernel_rfl) fun G a w S => ?_
                  refine sIdxV (v := .slice ad92 r90.1.length cp93) (k := .i64) (j := s138) S (wN rfl) rfl (by kernel_rfl) (by kernel_rfl) hq158 rfl (by decide) (fun a S => ?_)
                  exact leafL ⟨rfl, S⟩
                · refine fI 113 (.agg #[.int .i64 x147.1, .int .i64 x147.2]) [(112, q157)] 3 [some 2] rfl rfl (by kernel_rfl) rfl (by kernel_rfl) (by kernel_rfl) fun G a w S => ?_
                  refine sLoadVN (vq := q157) 3 [.int .i64 x147.1, .int .i64 x147.2] S (wN rfl) rfl (by kernel_rfl) (by kernel_rfl) (by kernel_rfl) (by kernel_rfl) rfl (by decide) (fun a S => ?_)
                  exact leafL ⟨rfl, S⟩
                · refine fI 114 (.slice ad97 r95.1.length cp98) [(13, .slice ad97 r95.1.length cp98)] 4 [none] rfl rfl (by kernel_rfl) rfl (by kernel_rfl) (by kernel_rfl) fun G a w S => ?_
                  refine sMove (.slice ad97 r95.1.length cp98) S (wN rfl) (.inl rfl) (by kernel_rfl) rfl (by decide) (fun a S => ?_)
                  exact leafL ⟨rfl, S⟩
                · refine fI 115 (.int .i64 s138) [(19, .int .i64 s138)] 5 [none] rfl rfl (by kernel_rfl) rfl (by kernel_rfl) (by kernel_rfl) fun G a w S => ?_
                  refine sMove (.int .i64 s138) S (wN rfl) (.inl rfl) (by kernel_rfl) rfl (by decide) (fun a S => ?_)
                  exact leafL ⟨rfl, S⟩
                · refine fI 116 q160 [(114, .slice ad97 r95.1.length cp98), (115, .int .i64 s138)] 6 [some 4, some 5] rfl rfl (by kernel_rfl) rfl (by kernel_rfl) (by kernel_rfl) fun G a w S => ?_
                  refine sIdxV (v := .slice ad97 r95.1.length cp98) (k := .i64) (j := s138) S (wN rfl) rfl (by kernel_rfl) (by kernel_rfl) hq161 rfl (by decide) (fun a S => ?_)
                  exact leafL ⟨rfl, S⟩
                · refine fI 117 (.agg #[.int .i64 x152.1, .int .i64 x152.2]) [(116, q160)] 7 [some 6] rfl rfl (by kernel_rfl) rfl (by kernel_rfl) (by kernel_rfl) fun G a w S => ?_
                  refine sLoadVN (vq := q160) 0 [.int .i64 x152.1, .int .i64 x152.2] S (wN rfl) rfl (by kernel_rfl) (by kernel_rfl) (by kernel_rfl) (by kernel_rfl) rfl (by decide) (fun a S => ?_)
                  exact leafL ⟨rfl, S⟩
                · refine fI 118 (.bool (!((x147.1 == x152.1) && ((x147.2 == x152.2) && true)))) [(113, .agg #[.int .i64 x147.1, .int .i64 x147.2]), (117, .agg #[.int .i64 x152.1, .int .i64 x152.2])] 8 [some 3, some 7] rfl rfl (by kernel_rfl) rfl (by kernel_rfl) (by kernel_rfl) fun G a w S => ?_
                  refine sBin (.bool (!((x147.1 == x152.1) && ((x147.2 == x152.2) && true)))) S (wN rfl) rfl (by kernel_rfl) (by kernel_rfl) (bNeV _ _ _ _ #[.int .i64 x147.1, .int .i64 x147.2] #[.int .i64 x152.1, .int .i64 x152.2] ((x147.1 == x152.1) && ((x147.2 == x152.2) && true)) (by kernel_rfl) (eqlV_of (by kernel_rfl))) rfl (by decide) (fun a S => ?_)
                  exact leafL ⟨rfl, S⟩
                · refine leafT (hK146 _ _ ?_)
                  rcases iteSome h with ⟨hc163, h⟩ | ⟨hc163, h⟩
                  · refine sCondT (b := !((x147.1 == x152.1) && ((x147.2 == x152.2) && true))) S (by kernel_rfl) hc163 ?_
                    refine sSeq (fun K164 hK164 => ?_)
                    refine sRegion ?_
                    refine sMove (.bool false) S (wN rfl) (.inr rfl) (by kernel_rfl) rfl (by decide) (fun a S => ?_)
                    refine leafL (leafT (hK164 _ _ ?_))
                    obtain rfl := Option.some.inj h
                    obtain rfl := hu139 _ rfl
                    have h := g140
                    clear g140
                    try dsimp only at h
                    obtain rfl := Option.some.inj h
                    have h := g136
                    clear g136
                    try dsimp only at h
                    obtain rfl := Option.some.inj h
                    exact wp_ret (rBlock (rThen (rThen (rBlock (rThen (sRet (.bool false) S (rsl1 rfl (rvT (t := 4) (v := .bool false) S (by kernel_rfl))) ⟨(), rfl, S.mem.sel [] [] (by decide) (by kernel_rfl) (by kernel_rfl)⟩))))))
                  · refine sCondF (b := !((x147.1 == x152.1) && ((x147.2 == x152.2) && true))) S (by kernel_rfl) hc163 ?_
                    refine wp_skip (leafB (leafT (hK145 _ _ ?_)))
                    refine sRegion ?_
                    refine sMove (.int .i64 s138) S (wN rfl) (.inl rfl) (by kernel_rfl) rfl (by decide) (fun a S => ?_)
                    refine sBin (.int .i64 (w64 (s138 + 1))) S (wN rfl) rfl (by kernel_rfl) (by kernel_rfl) (bAdd _ _ _ _ s138 1) rfl (by decide) (fun a S => ?_)
                    refine sMove (.int .i64 (w64 (s138 + 1))) S (wN rfl) (.inr rfl) (by kernel_rfl) rfl (by decide) (fun a S => ?_)
                    exact leafL (leafT (⟨w64 (s138 + 1), (Option.some.inj h).symm, (S.fix [0, 1, 2, 3, 4, 5] [6, 7, 8, 9] (by decide) (by kernel_rfl) (by kernel_rfl) (by kernel_rfl))⟩))
              · refine sCondF (b := decide (s138 < (r90.1.length : Int))) S (by kernel_rfl) hc144 ?_
                obtain rfl := Option.some.inj h
                obtain rfl := hu139 _ rfl
                have h := g140
                clear g140
                try dsimp only at h
                exact wp_exit (xThen (xThen (xHit (leafT (⟨Option.some.inj h, S.fix [0, 1, 2, 3, 4, 5] [2, 3] (by decide) (by kernel_rfl) (by kernel_rfl) (by kernel_rfl)⟩)))))
            · obtain ⟨rfl, S⟩ := hI
              have h := g136
              clear g136
              try dsimp only at h
              obtain ⟨t165, h, g166⟩ := bindSome h
              refine sCut (fun a w => () = t165 ∧ St E [] w0 151 a w [(3, .pointer (some ⟨b19, 0, none⟩)), (5, .slice ad32 o31.length cp33), (6, .slice ad35 o34.length cp36)] [eBox b19 36 [.slice ad13 p1.Left.length cp14, .slice ad15 p1.Right.length cp16], eRow (rI .i64) 3 (.slice ad32 o31.length cp33) o31, eRow (rI .i64) 3 (.slice ad35 o34.length cp36) o34] [fRep (rL (rI .i64)) (.slice ad13 p1.Left.length cp14) p1.Left, fRep (rL (rI .i64)) (.slice ad15 p1.Right.length cp16) p1.Right]) ?_ (fun a w hI => ?_)
              · refine sSeq (fun K167 hK167 => ?_)
                refine sRegion ?_
                refine sMove (.int .i64 0) S (wN rfl) (.inr rfl) (by kernel_rfl) rfl (by decide) (fun a S => ?_)
                refine leafL (leafT (hK167 _ _ ?_))
                refine wp_block ?_
                obtain ⟨t177, hl, g176⟩ := bindSome h
                refine sLoop hl (fun s0 a w => match s0 with | (s168, s169, s172) => ∃ ad170, ∃ cp171, ∃ ad173, ∃ cp174, St E [] w0 151 a w [(3, .pointer (some ⟨b19, 0, none⟩)), (5, .slice ad32 o31.length cp33), (6, .slice ad35 o34.length cp36), (15, .pointer (some ⟨b106, 0, none⟩)), (20, .int .i64 s168)] [eBox b19 36 [.slice ad13 p1.Left.length cp14, .slice ad15 p1.Right.length cp16], eBox b106 36 [.slice ad170 s169.length cp171, .slice ad173 s172.length cp174], eRow (rI .i64) 3 (.slice ad32 o31.length cp33) o31, eRow (rI .i64) 3 (.slice ad35 o34.length cp36) o34, eRow (rI .i64) 3 (.slice ad170 s169.length cp171) s169, eRow (rI .i64) 3 (.slice ad173 s172.length cp174) s172] [fRep (rL (rI .i64)) (.slice ad13 p1.Left.length cp14) p1.Left, fRep (rL (rI .i64)) (.slice ad15 p1.Right.length cp16) p1.Right]) ⟨ad102, cp103, ad104, cp105, S.fix [0, 1, 2, 3, 4, 5] [0, 1] (by decide) (by kernel_rfl) (by kernel_rfl) (by kernel_rfl)⟩ ?_
                clear hl h
                intro s0 a w c0 hI h hu175
                obtain ⟨s168, s169, s172⟩ := s0
                unfold raddlelaw37_PieceMakes_l2 at h
                dsimp only at h hI
                obtain ⟨ad170, cp171, ad173, cp174, S⟩ := hI
                refine sSeq (fun K178 hK178 => ?_)
                obtain ⟨t180, h, g181⟩ := bindSome h
                refine sCut (fun a w => ∃ o179, o179 = t180 ∧ St E [] w0 151 a w [(3, .pointer (some ⟨b19, 0, none⟩)), (5, .slice ad32 o31.length cp33), (6, .slice ad35 o34.length cp36), (15, .pointer (some ⟨b106, 0, none⟩)), (20, .int .i64 s168), (130, .bool o179)] [eBox b19 36 [.slice ad13 p1.Left.length cp14, .slice ad15 p1.Right.length cp16], eBox b106 36 [.slice ad170 s169.length cp171, .slice ad173 s172.length cp174], eRow (rI .i64) 3 (.slice ad32 o31.length cp33) o31, eRow (rI .i64) 3 (.slice ad35 o34.length cp36) o34, eRow (rI .i64) 3 (.slice ad170 s169.length cp171) s169, eRow (rI .i64) 3 (.slice ad173 s172.length cp174) s172] [fRep (rL (rI .i64)) (.slice ad13 p1.Left.length cp14) p1.Left, fRep (rL (rI .i64)) (.slice ad15 p1.Right.length cp16) p1.Right]) ?_ (fun a w hI => ?_)
                · refine sRegion ?_
                  refine sMove (.int .i64 s168) S (wN rfl) (.inl rfl) (by kernel_rfl) rfl (by decide) (fun a S => ?_)
                  refine sField (b := b106) (off := 0) 0 0 S (wN rfl) rfl (by kernel_rfl) (by kernel_rfl) rfl rfl (by decide) (fun a S => ?_)
                  refine sLoad1 (p := b106) (off := 0) (T := 36) (vs := [.slice ad170 s169.length cp171, .slice ad173 s172.length cp174]) 1 (.slice ad170 s169.length cp171) S (wN rfl) rfl (by kernel_rfl) (by kernel_rfl) (by kernel_rfl) rfl rfl (by decide) (fun a S => ?_)
                  refine sLen (ad := ad170) (m := s169.length) (c := cp171) S (wN rfl) rfl Try.underlying34 (by kernel_rfl) rfl (by decide) (fun a S => ?_)
                  refine sBin (.bool (decide (s168 < (s169.length : Int)))) S (wN rfl) rfl (by kernel_rfl) (by kernel_rfl) (bLt _ _ _ _ .i64 s168 (s169.length : Int)) rfl (by decide) (fun a S => ?_)
                  refine sMove (.bool (decide (s168 < (s169.length : Int)))) S (wN rfl) (.inl rfl) (by kernel_rfl) rfl (by decide) (fun a S => ?_)
                  rcases iteSome h with ⟨hc182, h⟩ | ⟨hc182, h⟩
                  · refine sMove (.int .i64 s168) S (wG (c := decide (s168 < (s169.length : Int))) 5 true 124 rfl rfl (by kernel_rfl) hc182) (.inl rfl) (by kernel_rfl) rfl (by decide) (fun a S => ?_)
                    refine sField (b := b106) (off := 0) 1 1 S (wG (c := decide (s168 < (s169.length : Int))) 5 true 124 rfl rfl (by kernel_rfl) hc182) rfl (by kernel_rfl) (by kernel_rfl) rfl rfl (by decide) (fun a S => ?_)
                    refine sLoad1 (p := b106) (off := 1) (T := 36) (vs := [.slice ad170 s169.length cp171, .slice ad173 s172.length cp174]) 1 (.slice ad173 s172.length cp174) S (wG (c := decide (s168 < (s169.length : Int))) 5 true 124 rfl rfl (by kernel_rfl) hc182) rfl (by kernel_rfl) (by kernel_rfl) (by kernel_rfl) rfl rfl (by decide) (fun a S => ?_)
                    refine sLen (ad := ad173) (m := s172.length) (c := cp174) S (wG (c := decide (s168 < (s169.length : Int))) 5 true 124 rfl rfl (by kernel_rfl) hc182) rfl Try.underlying34 (by kernel_rfl) rfl (by decide) (fun a S => ?_)
                    refine sBin (.bool (decide (s168 < (s172.length : Int)))) S (wG (c := decide (s168 < (s169.length : Int))) 5 true 124 rfl rfl (by kernel_rfl) hc182) rfl (by kernel_rfl) (by kernel_rfl) (bLt _ _ _ _ .i64 s168 (s172.length : Int)) rfl (by decide) (fun a S => ?_)
                    refine sPickT (b := decide (s168 < (s169.length : Int))) (.bool (decide (s168 < (s172.length : Int)))) S (wN rfl) rfl (by kernel_rfl) hc182 (by kernel_rfl) rfl (by decide) (fun a S => ?_)
                    exact leafL (leafT (⟨decide (s168 < (s172.length : Int)), Option.some.inj h, S.fix [0, 1, 2, 3, 4, 5] [0, 1] (by decide) (by kernel_rfl) (by kernel_rfl) (by kernel_rfl)⟩))
                  · refine sSkip (c := decide (s168 < (s169.length : Int))) 5 true 124 125 S rfl rfl (by kernel_rfl) hc182 rfl (by decide) (fun a S => ?_)
                    refine sSkip (c := decide (s168 < (s169.length : Int))) 5 true 124 126 S rfl rfl (by kernel_rfl) hc182 rfl (by decide) (fun a S => ?_)
                    refine sSkip (c := decide (s168 < (s169.length : Int))) 5 true 124 127 S rfl rfl (by kernel_rfl) hc182 rfl (by decide) (fun a S => ?_)
                    refine sSkip (c := decide (s168 < (s169.length : Int))) 5 true 124 128 S rfl rfl (by kernel_rfl) hc182 rfl (by decide) (fun a S => ?_)
                    refine sSkip (c := decide (s168 < (s169.length : Int))) 5 true 124 129 S rfl rfl (by kernel_rfl) hc182 rfl (by decide) (fun a S => ?_)
                    refine sPickF (b := decide (s168 < (s169.length : Int))) (.bool false) S (wN rfl) rfl (by kernel_rfl) hc182 (by kernel_rfl) rfl (by decide) (fun a S => ?_)
                    exact leafL (leafT (⟨false, Option.some.inj h, S.fix [0, 1, 2, 3, 4, 5] [0, 1] (by decide) (by kernel_rfl) (by kernel_rfl) (by kernel_rfl)⟩))
                · obtain ⟨o179, rfl, S⟩ := hI
                  have h := g181
                  clear g181
                  try dsimp only at h
                  rcases iteSome h with ⟨hc183, h⟩ | ⟨hc183, h⟩
                  · refine sCondT (b := o179) S (by kernel_rfl) hc183 ?_
                    refine wp_skip (leafT (hK178 _ _ ?_))
                    refine sSeq (fun K184 hK184 => ?_)
                    refine wp_block ?_
                    obtain ⟨x185, hx186, h⟩ := bindSome h
                    obtain ⟨l190, hx191, h⟩ := bindSome h
                    obtain ⟨x192, hx193, h⟩ := bindSome h
                    obtain ⟨l197, hx198, h⟩ := bindSome h
                    obtain ⟨q199, hq200, hp201⟩ := pIdxR (P := Try.prog) (r := (rI .i64)) (T := 3) (v := .slice ad170 s169.length cp171) (xs := s169) (j := s168) 34 3 4 S Try.underlying34 (by kernel_rfl) (by kernel_rfl) hx186
                    refine sDraw (nf := [7, 9]) (W := [(0, 133, .pointer (some ⟨b106, 0, none⟩)), (1, 134, .slice ad170 s169.length cp171), (2, 135, .int .i64 s168), (3, 136, .pointer (some ⟨b106, 1, none⟩)), (4, 137, .slice ad173 s172.length cp174), (5, 138, .int .i64 s168), (6, 139, q199)]) (by kernel_rfl) S ?_
                    refine node_by (A := anc_raddlelaw37_PieceMakes_3) (nf := [7, 9]) (Y := []) (W := [(0, 133, .pointer (some ⟨b106, 0, none⟩)), (1, 134, .slice ad170 s169.length cp171), (2, 135, .int .i64 s168), (3, 136, .pointer (some ⟨b106, 1, none⟩)), (4, 137, .slice ad173 s172.length cp174), (5, 138, .int .i64 s168), (6, 139, q199)]) 10 (by kernel_rfl) (by kernel_rfl) (by kernel_rfl) (by kernel_rfl) (by kernel_rfl) [0, 1, 2, 3, 4, 5, 6] (by kernel_rfl) (by decide) (by decide) (aF 0 9 (by decide) ?_ (aF 1 8 (by decide) ?_ (aF 2 7 (by decide) ?_ (aF 3 6 (by decide) ?_ (aF 4 5 (by decide) ?_ (aF 5 4 (by decide) ?_ (aF 6 3 (by decide) ?_ (aN 7 2 (by decide) ?_ (aE 8 1 7 (by decide) (aB 9 0 7 (by decide) (trivial))))))))))) [] (fun q hq => by cases hq) (fun hY => absurd (hY 7 (by decide)) (by decide))
                    · refine fI 133 (.pointer (some ⟨b106, 0, none⟩)) [(15, .pointer (some ⟨b106, 0, none⟩))] 0 [none] rfl rfl (by kernel_rfl) rfl (by kernel_rfl) (by kernel_rfl) fun G a w S => ?_
                      refine sField (b := b106) (off := 0) 0 0 S (wN rfl) rfl (by kernel_rfl) (by kernel_rfl) rfl rfl (by decide) (fun a S => ?_)
                      exact leafL ⟨rfl, S⟩
                    · refine fI 134 (.slice ad170 s169.length cp171) [(133, .pointer (some ⟨b106, 0, none⟩))] 1 [some 0] rfl rfl (by kernel_rfl) rfl (by kernel_rfl) (by kernel_rfl) fun G a w S => ?_
                      refine sLoad1 (p := b106) (off := 0) (T := 36) (vs := [.slice ad170 s169.length cp171, .slice ad173 s172.length cp174]) 1 (.slice ad170 s169.length cp171) S (wN rfl) rfl (by kernel_rfl) (by kernel_rfl) (by kernel_rfl) rfl rfl (by decide) (fun a S => ?_)
                      exact leafL ⟨rfl, S⟩
                    · refine fI 135 (.int .i64 s168) [(20, .int .i64 s168)] 2 [none] rfl rfl (by kernel_rfl) rfl (by kernel_rfl) (by kernel_rfl) fun G a w S => ?_
                      refine sMove (.int .i64 s168) S (wN rfl) (.inl rfl) (by kernel_rfl) rfl (by decide) (fun a S => ?_)
                      exact leafL ⟨rfl, S⟩
                    · refine fI 136 (.pointer (some ⟨b106, 1, none⟩)) [(15, .pointer (some ⟨b106, 0, none⟩))] 3 [none] rfl rfl (by kernel_rfl) rfl (by kernel_rfl) (by kernel_rfl) fun G a w S => ?_
                      refine sField (b := b106) (off := 0) 1 1 S (wN rfl) rfl (by kernel_rfl) (by kernel_rfl) rfl rfl (by decide) (fun a S => ?_)
                      exact leafL ⟨rfl, S⟩
                    · refine fI 137 (.slice ad173 s172.length cp174) [(136, .pointer (some ⟨b106, 1, none⟩))] 4 [some 3] rfl rfl (by kernel_rfl) rfl (by kernel_rfl) (by kernel_rfl) fun G a w S => ?_
                      refine sLoad1 (p := b106) (off := 1) (T := 36) (vs := [.slice ad170 s169.length cp171, .slice ad173 s172.length cp174]) 1 (.slice ad173 s172.length cp174) S (wN rfl) rfl (by kernel_rfl) (by kernel_rfl) (by kernel_rfl) rfl rfl (by decide) (fun a S => ?_)
                      exact leafL ⟨rfl, S⟩
                    · refine fI 138 (.int .i64 s168) [(20, .int .i64 s168)] 5 [none] rfl rfl (by kernel_rfl) rfl (by kernel_rfl) (by kernel_rfl) fun G a w S => ?_
                      refine sMove (.int .i64 s168) S (wN rfl) (.inl rfl) (by kernel_rfl) rfl (by decide) (fun a S => ?_)
                      exact leafL ⟨rfl, S⟩
                    · refine fI 139 q199 [(134, .slice ad170 s169.length cp171), (135, .int .i64 s168)] 6 [some 1, some 2] rfl rfl (by kernel_rfl) rfl (by kernel_rfl) (by kernel_rfl) fun G a w S => ?_
                      refine sIdxV (v := .slice ad170 s169.length cp171) (k := .i64) (j := s168) S (wN rfl) rfl (by kernel_rfl) (by kernel_rfl) hq200 rfl (by decide) (fun a S => ?_)
                      exact leafL ⟨rfl, S⟩
                    · refine ⟨_, [(139, q199)], rfl, (srcs_of [some 6] rfl (by kernel_rfl) (by kernel_rfl)), fun G a w S => ?_⟩
                      refine sStoreR (r := (rI .i64)) (T := 3) (xs := s169) (ys := l190) (y := 7) (v := .slice ad170 s169.length cp171) (vq := q199) (u := .int .i64 7) (j := s168) 4 S hp201 (wN rfl) rfl (by kernel_rfl) (by kernel_rfl) (by kernel_rfl) rfl hx191 (by kernel_rfl) rfl (fun a w S => ?_)
                      obtain ⟨q202, hq203, hp204⟩ := pIdxR (P := Try.prog) (r := (rI .i64)) (T := 3) (v := .slice ad173 s172.length cp174) (xs := s172) (j := s168) 34 3 5 S Try.underlying34 (by kernel_rfl) (by kernel_rfl) hx193
                      refine leafL ⟨rfl, _, _, .inr ⟨[(8, 140, q202)], rfl, S, hz_of (by kernel_rfl), ?_⟩⟩
                      refine node_by (A := anc_raddlelaw37_PieceMakes_3) (nf := [7, 9]) (Y := [7]) 10 (by kernel_rfl) (by kernel_rfl) (by kernel_rfl) (by kernel_rfl) (by kernel_rfl) [8, 0, 1, 2, 3, 4, 5, 6] (by kernel_rfl) (by decide) (by decide) (aD 0 9 7 (by decide) (aD 1 8 7 (by decide) (aD 2 7 7 (by decide) (aF 3 6 (by decide) ?_ (aF 4 5 (by decide) ?_ (aF 5 4 (by decide) ?_ (aD 6 3 7 (by decide) (aY 7 2 (by decide) (aF 8 1 (by decide) ?_ (aN 9 0 (by decide) ?_ (trivial))))))))))) [] (fun q hq => by cases hq) (fun hY => absurd (hY 9 (by decide)) (by decide))
                      · refine fI 136 (.pointer (some ⟨b106, 1, none⟩)) [(15, .pointer (some ⟨b106, 0, none⟩))] 4 [none] rfl rfl (by kernel_rfl) rfl (by kernel_rfl) (by kernel_rfl) fun G a w S => ?_
                        refine sField (b := b106) (off := 0) 1 1 S (wN rfl) rfl (by kernel_rfl) (by kernel_rfl) rfl rfl (by decide) (fun a S => ?_)
                        exact leafL ⟨rfl, S⟩
                      · refine fI 137 (.slice ad173 s172.length cp174) [(136, .pointer (some ⟨b106, 1, none⟩))] 5 [some 4] rfl rfl (by kernel_rfl) rfl (by kernel_rfl) (by kernel_rfl) fun G a w S => ?_
                        refine sLoad1 (p := b106) (off := 1) (T := 36) (vs := [.slice ad170 s169.length cp171, .slice ad173 s172.length cp174]) 2 (.slice ad173 s172.length cp174) S (wN rfl) rfl (by kernel_rfl) (by kernel_rfl) (by kernel_rfl) rfl rfl (by decide) (fun a S => ?_)
                        exact leafL ⟨rfl, S⟩
                      · refine fI 138 (.int .i64 s168) [(20, .int .i64 s168)] 6 [none] rfl rfl (by kernel_rfl) rfl (by kernel_rfl) (by kernel_rfl) fun G a w S => ?_
                        refine sMove (.int .i64 s168) S (wN rfl) (.inl rfl) (by kernel_rfl) rfl (by decide) (fun a S => ?_)
                        exact leafL ⟨rfl, S⟩
                      · refine fI 140 q202 [(137, .slice ad173 s172.length cp174), (138, .int .i64 s168)] 0 [some 5, some 6] rfl rfl (by kernel_rfl) rfl (by kernel_rfl) (by kernel_rfl) fun G a w S => ?_
                        refine sIdxV (v := .slice ad173 s172.length cp174) (k := .i64) (j := s168) S (wN rfl) rfl (by kernel_rfl) (by kernel_rfl) hq203 rfl (by decide) (fun a S => ?_)
                        exact leafL ⟨rfl, S⟩
                      · refine ⟨_, [(140, q202)], rfl, (srcs_of [some 0] rfl (by kernel_rfl) (by kernel_rfl)), fun G a w S => ?_⟩
                        refine sStoreR (r := (rI .i64)) (T := 3) (xs := s172) (ys := l197) (y := 7) (v := .slice ad173 s172.length cp174) (vq := q202) (u := .int .i64 7) (j := s168) 5 S hp204 (wN rfl) rfl (by kernel_rfl) (by kernel_rfl) (by kernel_rfl) rfl hx198 (by kernel_rfl) rfl (fun a w S => ?_)
                        refine leafL ⟨rfl, _, _, .inr ⟨[], rfl, S, hz_of (by kernel_rfl), ?_⟩⟩
                        refine node_by (A := anc_raddlelaw37_PieceMakes_3) (nf := [7, 9]) (Y := [9, 7]) 10 (by kernel_rfl) (by kernel_rfl) (by kernel_rfl) (by kernel_rfl) (by kernel_rfl) [8, 0, 1, 2, 3, 4, 5, 6] (by kernel_rfl) (by decide) (by decide) (aD 0 9 9 (by decide) (aD 1 8 9 (by decide) (aD 2 7 9 (by decide) (aD 3 6 9 (by decide) (aD 4 5 9 (by decide) (aD 5 4 9 (by decide) (aD 6 3 9 (by decide) (aY 7 2 (by decide) (aD 8 1 9 (by decide) (aY 9 0 (by decide) (trivial))))))))))) [(3, .pointer (some ⟨b19, 0, none⟩)), (5, .slice ad32 o31.length cp33), (6, .slice ad35 o34.length cp36), (15, .pointer (some ⟨b106, 0, none⟩)), (20, .int .i64 s168)] (fin_of [none, none, none, none, none] rfl (by kernel_rfl) (by kernel_rfl)) (fun _ a w S => ?_)
                        · rw [setO_v hx191 ad170 cp171] at S
                          rw [setO_v hx198 ad173 cp174] at S
                          refine leafB (leafT (hK184 _ _ ?_))
                          refine sRegion ?_
                          refine sMove (.int .i64 s168) S (wN rfl) (.inl rfl) (by kernel_rfl) rfl (by decide) (fun a S => ?_)
                          refine sBin (.int .i64 (w64 (s168 + 1))) S (wN rfl) rfl (by kernel_rfl) (by kernel_rfl) (bAdd _ _ _ _ s168 1) rfl (by decide) (fun a S => ?_)
                          refine sMove (.int .i64 (w64 (s168 + 1))) S (wN rfl) (.inr rfl) (by kernel_rfl) rfl (by decide) (fun a S => ?_)
                          exact leafL (leafT (⟨(w64 (s168 + 1), l190, l197), (Option.some.inj h).symm, ⟨ad170, cp171, ad173, cp174, S.fix [2, 3, 4, 5, 1, 0] [0, 1] (by decide) (by kernel_rfl) (by kernel_rfl) (by kernel_rfl)⟩⟩))
                  · refine sCondF (b := o179) S (by kernel_rfl) hc183 ?_
                    obtain rfl := Option.some.inj h
                    obtain rfl := hu175 _ rfl
                    have h := g176
                    clear g176
                    try dsimp only at h
                    exact wp_exit (xThen (xThen (xHit (leafT (⟨Option.some.inj h, S.fix [0, 2, 3] [0, 1] (by decide) (by kernel_rfl) (by kernel_rfl) (by kernel_rfl)⟩)))))
              · obtain ⟨rfl, S⟩ := hI
                have h := g166
                clear g166
                try dsimp only at h
                obtain ⟨t206, h, g207⟩ := bindSome h
                refine sCut (fun a w => ∃ o205, o205 = t206 ∧ St E [] w0 151 a w [(4, .bool o205)] [] []) ?_ (fun a w hI => ?_)
                · refine sRegion ?_
                  refine sField (b := b19) (off := 0) 0 0 S (wN rfl) rfl (by kernel_rfl) (by kernel_rfl) rfl rfl (by decide) (fun a S => ?_)
                  refine sLoad1 (p := b19) (off := 0) (T := 36) (vs := [.slice ad13 p1.Left.length cp14, .slice ad15 p1.Right.length cp16]) 0 (.slice ad13 p1.Left.length cp14) S (wN rfl) rfl (by kernel_rfl) (by kernel_rfl) (by kernel_rfl) rfl rfl (by decide) (fun a S => ?_)
                  refine sMove (.slice ad32 o31.length cp33) S (wN rfl) (.inl rfl) (by kernel_rfl) rfl (by decide) (fun a S => ?_)
                  obtain ⟨r208, hx209, h⟩ := bindSome h
                  have S1 := S.mem
                  have S1 := S1.shutR (r := (rI .i64)) (T := 3) (v := .slice ad32 o31.length cp33) (xs := o31) 1 (by kernel_rfl)
                  refine sCallQ (X := Unit) (f := 20) (vs := [.slice ad13 p1.Left.length cp14, .slice ad32 o31.length cp33]) (val := fun _ => .bool r208) S (wN rfl) rfl callee20 (by kernel_rfl) (S1.quiet [1, 0] (by kernel_rfl)) (fun E1 w1 S1 => c_raddleref36_Same E1 w1 p1.Left (.slice ad13 p1.Left.length cp14) o31 (.slice ad32 o31.length cp33) r208 hx209 S1) rfl (by decide) (fun _ a w S => ?_)
                  refine sMove (.bool r208) S (wN rfl) (.inl rfl) (by kernel_rfl) rfl (by decide) (fun a S => ?_)
                  rcases iteSome h with ⟨hc210, h⟩ | ⟨hc210, h⟩
                  · refine sField (b := b19) (off := 0) 1 1 S (wG (c := r208) 4 true 145 rfl rfl (by kernel_rfl) hc210) rfl (by kernel_rfl) (by kernel_rfl) rfl rfl (by decide) (fun a S => ?_)
                    refine sLoad1 (p := b19) (off := 1) (T := 36) (vs := [.slice ad13 p1.Left.length cp14, .slice ad15 p1.Right.length cp16]) 0 (.slice ad15 p1.Right.length cp16) S (wG (c := r208) 4 true 145 rfl rfl (by kernel_rfl) hc210) rfl (by kernel_rfl) (by kernel_rfl) (by kernel_rfl) rfl rfl (by decide) (fun a S => ?_)
                    refine sMove (.slice ad35 o34.length cp36) S (wG (c := r208) 4 true 145 rfl rfl (by kernel_rfl) hc210) (.inl rfl) (by kernel_rfl) rfl (by decide) (fun a S => ?_)
                    obtain ⟨r211, hx212, h⟩ := bindSome h
                    have S1 := S.mem
                    have S1 := S1.shutR (r := (rI .i64)) (T := 3) (v := .slice ad35 o34.length cp36) (xs := o34) 2 (by kernel_rfl)
                    refine sCallQ (X := Unit) (f := 20) (vs := [.slice ad15 p1.Right.length cp16, .slice ad35 o34.length cp36]) (val := fun _ => .bool r211) S (wG (c := r208) 4 true 145 rfl rfl (by kernel_rfl) hc210) rfl callee20 (by kernel_rfl) (S1.quiet [2, 0] (by kernel_rfl)) (fun E1 w1 S1 => c_raddleref36_Same E1 w1 p1.Right (.slice ad15 p1.Right.length cp16) o34 (.slice ad35 o34.length cp36) r211 hx212 S1) rfl (by decide) (fun _ a w S => ?_)
                    refine sPickT (b := r208) (.bool r211) S (wN rfl) rfl (by kernel_rfl) hc210 (by kernel_rfl) rfl (by decide) (fun a S => ?_)
                    refine sMove (.bool r211) S (wN rfl) (.inr rfl) (by kernel_rfl) rfl (by decide) (fun a S => ?_)
                    exact leafL (leafT (⟨r211, Option.some.inj h, S.fix [] [] (by decide) (by kernel_rfl) (by kernel_rfl) (by kernel_rfl)⟩))
                  · refine sSkip (c := r208) 4 true 145 146 S rfl rfl (by kernel_rfl) hc210 rfl (by decide) (fun a S => ?_)
                    refine sSkip (c := r208) 4 true 145 147 S rfl rfl (by kernel_rfl) hc210 rfl (by decide) (fun a S => ?_)
                    refine sSkip (c := r208) 4 true 145 148 S rfl rfl (by kernel_rfl) hc210 rfl (by decide) (fun a S => ?_)
                    refine sSkip (c := r208) 4 true 145 149 S rfl rfl (by kernel_rfl) hc210 rfl (by decide) (fun a S => ?_)
                    refine sPickF (b := r208) (.bool false) S (wN rfl) rfl (by kernel_rfl) hc210 (by kernel_rfl) rfl (by decide) (fun a S => ?_)
                    refine sMove (.bool false) S (wN rfl) (.inr rfl) (by kernel_rfl) rfl (by decide) (fun a S => ?_)
                    exact leafL (leafT (⟨false, Option.some.inj h, S.fix [] [] (by decide) (by kernel_rfl) (by kernel_rfl) (by kernel_rfl)⟩))
                · obtain ⟨o205, rfl, S⟩ := hI
                  have h := g207
                  clear g207
                  try dsimp only at h
                  obtain rfl := Option.some.inj h
                  exact wp_ret (sRet (.bool o205) S (rsl1 rfl (rvT (t := 4) (v := .bool o205) S (by kernel_rfl))) ⟨(), rfl, S.mem.sel [] [] (by decide) (by kernel_rfl) (by kernel_rfl)⟩)

end Go.Proofs.Ytmedbnjhgkcndaa
