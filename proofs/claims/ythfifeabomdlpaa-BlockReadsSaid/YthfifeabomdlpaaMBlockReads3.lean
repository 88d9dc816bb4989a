/- Several texts in one: G73 G57 G75s0 G61s0 G74s0 G58 G27 G39 G40 KeAlive G31 KvAlive PlA PlB PlLp G25 -/
import Derived.WalkKit
import Derived.Maps.AppendAt
import Derived.Deep.AppendLies
import Derived.KernelRfl
import Derived.Laws.OwnMore
import Derived.Great.BuildSlice
import Derived.Orders
import Derived.Laws.StructEq
import Derived.ChangeKeysEq
import Derived.Defers
import Derived.Laws.BytesString
import Derived.RangeFuncNested
import Derived.RangeFuncBound
import Derived.RangeFuncCalls
import Derived.RangeFuncLeaves
import Derived.OrdersIn
import Derived.LoopNIn
import Derived.ArgAppend
import Derived.Test.YthfifeabomdlpaaProg
import Derived.ProofKit
import Derived.OpenShut
import Derived.ChangeOld
import Derived.Deep.Slices
import Derived.Lib.SmallJoins
import Derived.JoinedOf
import Derived.JoinedAt
import Derived.Below
import Derived.Test.YthfifeabomdlpaaRows
import Derived.Test.YthfifeabomdlpaaMBlockReads2
namespace Go.Proofs.Ythfifeabomdlpaa
open Go.RowKit
set_option linter.unusedVariables false

noncomputable def thread_check_l1 (x17 : (List Int)) : Int → Option (Int ⊕ (Int ⊕ Unit)) := fun s0 => match s0 with
  | s29 =>
    if decide (s29 < (x17.length : Int)) then
      Option.bind (idxO x17 s29) fun x38 =>
      Option.bind (α := Bool) (
        if decide (x38 < 0) then
          some true
        else
          some (decide (400 ≤ x38))) fun o43 =>
      if o43 then
        some (.inr (.inl 8))
      else
        some (.inl (w64 (s29 + 1)))
    else
      some (.inr (.inr ()))
noncomputable def thread_check_l2 (p0 : (List (List Int))) : Int → Option (Int ⊕ (Int ⊕ Unit)) := fun s0 => match s0 with
  | s7 =>
    if decide (s7 < (p0.length : Int)) then
      Option.bind (α := Unit ⊕ Int) (
        Option.bind (idxO p0 s7) fun x17 =>
        if decide (400 < (x17.length : Int)) then
          some (.inr 4)
        else
          Option.bind (whileO (thread_check_l1 x17) 0) fun z0 => match z0 with
            | .inl z =>
              some (.inr z)
            | .inr _ =>
              some (.inl ())) fun z0 => match z0 with
        | .inl _ =>
          some (.inl (w64 (s7 + 1)))
        | .inr z =>
          some (.inr (.inl z))
    else
      some (.inr (.inr ()))
noncomputable def F_thread_check (p0 : (List (List Int))) : Option Int :=
  Option.bind (α := Unit ⊕ Int) (
    Option.bind (whileO (thread_check_l2 p0) 0) fun z0 => match z0 with
      | .inl z =>
        some (.inr z)
      | .inr _ =>
        some (.inl ())) fun z0 => match z0 with
    | .inl _ =>
      some 0
    | .inr z =>
      some z
set_option maxHeartbeats 4000000 in
set_option maxRecDepth 100000 in
theorem c_thread_check (E : Nat → Prop) (w0 : World) (p0 : (List (List Int))) (v0 : Value) (r : Int) (h : F_thread_check p0 = some r) (S : St0 E [] w0 w0 [] [fRep (rL (rL (rI .i64))) (v0) p0]) :
    Calls Try.prog 73 #[v0] w0 (Ret (X := Unit) E [] w0 (fun _ => .int .i64 r) (fun _ => []) (fun _ => [])) := by
  unfold F_thread_check at h
  obtain ⟨ad1, cp2, _, rfl, _⟩ := S.know (i := 0) (e := fRep (rL (rL (rI .i64))) (v0) p0) rfl
  refine sEnter (args := [.slice ad1 p0.length cp2]) 30 Try.func73 rfl rfl (by simp) S (fun a S => ?_)
  refine sSeq (fun K3 hK3 => ?_)
  refine sRegion ?_
  refine sMove (iv 0) S (wN rfl) (.inr rfl) rfl rfl (lb rfl) fun a S => ?_
  refine leafL (leafT (hK3 _ _ ?_))
  obtain ⟨t4, h, g5⟩ := bindSome h
  refine sCut (fun a w => .inl () = t4 ∧ St [] E [] w0 30 a w [] [] []) ?_ (fun a w hI => ?_)
  rotate_left
  · obtain ⟨rfl, S⟩ := hI
    have h := g5
    clear g5
    try dsimp only at h
    refine sSeq (fun K49 hK49 => ?_)
    refine sRegion ?_
    refine sMove (iv 0) S (wN rfl) (.inr rfl) rfl rfl (lb rfl) fun a S => ?_
    refine leafL (leafT (hK49 _ _ ?_))
    obtain rfl := Option.some.inj h
    exact wp_ret (sRet (iv 0) S (rsl1 rfl (rvT (t := 2) (v := iv 0) S rfl)) ⟨(), rfl, S.mem.sel [] [] (by decide) rfl rfl⟩)
  refine sSeq (fun K6 hK6 => ?_)
  refine sRegion ?_
  refine sMove (.slice ad1 p0.length cp2) S (wN rfl) (.inl rfl) rfl rfl (lb rfl) fun a S => ?_
  refine sLen (ad := ad1) (m := p0.length) (c := cp2) S (wN rfl) rfl Try.underlying46 rfl rfl (lb rfl) fun a S => ?_
  refine sMove (iv 0) S (wN rfl) (.inl rfl) rfl rfl (lb rfl) fun a S => ?_
  refine leafL (leafT (hK6 _ _ ?_))
  refine wp_block ?_
  obtain ⟨t10, hl, g9⟩ := bindSome h
  refine sLoop hl (fun s0 a w => match s0 with | s7 => St [] E [] w0 30 a w [(7, .slice ad1 p0.length cp2), (8, iv (p0.length : Int)), (9, iv s7)] [] [fRep (rL (rL (rI .i64))) (.slice ad1 p0.length cp2) p0]) (S.fix [] [0] (by decide) rfl rfl rfl) ?_
  clear hl h
  intro s7 a w c0 hI h hu8
  unfold thread_check_l2 at h
  dsimp only at h hI
  have S := hI
  refine sSeq (fun K11 hK11 => ?_)
  refine sRegion ?_
  refine sBin (.bool (decide (s7 < (p0.length : Int)))) S (wN rfl) rfl rfl rfl (bLt _ _ _ _ .i64 s7 (p0.length : Int)) rfl (lb rfl) fun a S => ?_
  refine leafL (leafT (hK11 _ _ ?_))
  refine sSeq (fun K12 hK12 => ?_)
  rcases iteSome h with ⟨hc13, h⟩ | ⟨hc13, h⟩
  rotate_left
  · refine sCondF S rfl hc13 ?_
    obtain rfl := Option.some.inj h
    obtain rfl := hu8 _ rfl
    have h := g9
    clear g9
    try dsimp only at h
    exact wp_exit (xThen (xThen (xHit (leafT (⟨Option.some.inj h, S.fix [] [] (by decide) rfl rfl rfl⟩)))))
  refine sCondT S rfl hc13 ?_
  refine wp_skip (leafT (hK12 _ _ ?_))
  obtain ⟨t14, h, g15⟩ := bindSome h
  refine sCut (fun a w => .inl () = t14 ∧ St [] E [] w0 30 a w [(7, .slice ad1 p0.length cp2), (8, iv (p0.length : Int)), (9, iv s7)] [] [fRep (rL (rL (rI .i64))) (.slice ad1 p0.length cp2) p0]) ?_ (fun a w hI => ?_)
  rotate_left
  · obtain ⟨rfl, S⟩ := hI
    have h := g15
    clear g15
    try dsimp only at h
    refine sRegion ?_
    refine sBin (iv (w64 (s7 + 1))) S (wN rfl) rfl rfl rfl (bAdd _ _ _ _ s7 1) rfl (lb rfl) fun a S => ?_
    refine sMove (iv (w64 (s7 + 1))) S (wN rfl) (.inl rfl) rfl rfl (lb rfl) fun a S => ?_
    exact leafL (leafT (⟨w64 (s7 + 1), (Option.some.inj h).symm, (S.fix [] [0] (by decide) rfl rfl rfl)⟩))
  refine wp_block ?_
  refine sSeq (fun K16 hK16 => ?_)
  refine sRegion ?_
  obtain ⟨x17, hx18, h⟩ := bindSome h
  obtain ⟨q19, hq20, S⟩ := pIdx (P := Try.prog) (r := (rL (rI .i64))) (v := .slice ad1 p0.length cp2) (xs := p0) (j := s7) 46 35 0 S Try.underlying46 rfl rfl hx18
  refine sIdxV (v := .slice ad1 p0.length cp2) (k := .i64) (j := s7) S (wN rfl) rfl rfl rfl hq20 rfl (lb rfl) fun a S => ?_
  obtain ⟨u21, S⟩ := pLoad (r := (rL (rI .i64))) (q := q19) (x := x17) 0 S rfl
  obtain ⟨ad22, cp23, _, rfl, _⟩ := S.mem.know (i := 1) (e := fRep (rL (rI .i64)) (u21) x17) rfl
  refine sLoadV1 (vq := q19) 0 (.slice ad22 x17.length cp23) S (wN rfl) rfl rfl rfl rfl rfl (lb rfl) fun a S => ?_
  refine sMove (.slice ad22 x17.length cp23) S (wN rfl) (.inr rfl) rfl rfl (lb rfl) fun a S => ?_
  refine leafL (leafT (hK16 _ _ ?_))
  refine sSeq (fun K24 hK24 => ?_)
  refine sSeq (fun K25 hK25 => ?_)
  refine sRegion ?_
  refine sMove (.slice ad22 x17.length cp23) S (wN rfl) (.inl rfl) rfl rfl (lb rfl) fun a S => ?_
  refine sLen (ad := ad22) (m := x17.length) (c := cp23) S (wN rfl) rfl Try.underlying35 rfl rfl (lb rfl) fun a S => ?_
  refine sBin (.bool (decide (400 < (x17.length : Int)))) S (wN rfl) rfl rfl rfl (bGt _ _ _ _ .i64 (x17.length : Int) 400) rfl (lb rfl) fun a S => ?_
  refine leafL (leafT (hK25 _ _ ?_))
  rcases iteSome h with ⟨hc26, h⟩ | ⟨hc26, h⟩
  · refine sCondT S rfl hc26 ?_
    refine sSeq (fun K27 hK27 => ?_)
    refine sRegion ?_
    refine sMove (iv 4) S (wN rfl) (.inr rfl) rfl rfl (lb rfl) fun a S => ?_
    refine leafL (leafT (hK27 _ _ ?_))
    obtain rfl := Option.some.inj h
    have h := g15
    clear g15
    try dsimp only at h
    obtain rfl := Option.some.inj h
    obtain rfl := hu8 _ rfl
    have h := g9
    clear g9
    try dsimp only at h
    obtain rfl := Option.some.inj h
    have h := g5
    clear g5
    try dsimp only at h
    obtain rfl := Option.some.inj h
    exact wp_ret (rThen (rBlock (rThen (rThen (rBlock (rThen (sRet (iv 4) S (rsl1 rfl (rvT (t := 2) (v := iv 4) S rfl)) ⟨(), rfl, S.mem.sel [] [] (by decide) rfl rfl⟩)))))))
  refine sCondF S rfl hc26 ?_
  refine wp_skip (leafT (hK24 _ _ ?_))
  refine sSeq (fun K28 hK28 => ?_)
  refine sRegion ?_
  refine sMove (.slice ad22 x17.length cp23) S (wN rfl) (.inl rfl) rfl rfl (lb rfl) fun a S => ?_
  refine sLen (ad := ad22) (m := x17.length) (c := cp23) S (wN rfl) rfl Try.underlying35 rfl rfl (lb rfl) fun a S => ?_
  refine sMove (iv 0) S (wN rfl) (.inl rfl) rfl rfl (lb rfl) fun a S => ?_
  refine leafL (leafT (hK28 _ _ ?_))
  refine wp_block ?_
  obtain ⟨t32, hl, g31⟩ := bindSome h
  refine sLoop hl (fun s0 a w => match s0 with | s29 => St [] E [] w0 30 a w [(7, .slice ad1 p0.length cp2), (8, iv (p0.length : Int)), (9, iv s7), (16, .slice ad22 x17.length cp23), (17, iv (x17.length : Int)), (18, iv s29)] [] [fRep (rL (rL (rI .i64))) (.slice ad1 p0.length cp2) p0, fRep (rL (rI .i64)) (.slice ad22 x17.length cp23) x17]) (S.fix [] [3, 1] (by decide) rfl rfl rfl) ?_
  clear hl h
  intro s29 a w c0 hI h hu30
  unfold thread_check_l1 at h
  dsimp only at h hI
  have S := hI
  refine sSeq (fun K33 hK33 => ?_)
  refine sRegion ?_
  refine sBin (.bool (decide (s29 < (x17.length : Int)))) S (wN rfl) rfl rfl rfl (bLt _ _ _ _ .i64 s29 (x17.length : Int)) rfl (lb rfl) fun a S => ?_
  refine leafL (leafT (hK33 _ _ ?_))
  refine sSeq (fun K34 hK34 => ?_)
  rcases iteSome h with ⟨hc35, h⟩ | ⟨hc35, h⟩
  rotate_left
  · refine sCondF S rfl hc35 ?_
    obtain rfl := Option.some.inj h
    obtain rfl := hu30 _ rfl
    have h := g31
    clear g31
    try dsimp only at h
    exact wp_exit (xThen (xThen (xHit (leafB (leafT (⟨Option.some.inj h, S.fix [] [0] (by decide) rfl rfl rfl⟩))))))
  refine sCondT S rfl hc35 ?_
  refine wp_skip (leafT (hK34 _ _ ?_))
  refine sSeq (fun K36 hK36 => ?_)
  refine wp_block ?_
  refine sSeq (fun K37 hK37 => ?_)
  refine sRegion ?_
  obtain ⟨x38, hx39, h⟩ := bindSome h
  obtain ⟨q40, hq41, S⟩ := pIdx (P := Try.prog) (r := (rI .i64)) (v := .slice ad22 x17.length cp23) (xs := x17) (j := s29) 35 3 1 S Try.underlying35 rfl rfl hx39
  refine sIdxV (v := .slice ad22 x17.length cp23) (k := .i64) (j := s29) S (wN rfl) rfl rfl rfl hq41 rfl (lb rfl) fun a S => ?_
  obtain ⟨u42, S⟩ := pLoad (r := (rI .i64)) (q := q40) (x := x38) 0 S rfl
  obtain rfl : u42 = iv x38 := S.mem.know (i := 1) (e := fRep (rI .i64) (u42) x38) rfl
  refine sLoadV1 (vq := q40) 0 (iv x38) S (wN rfl) rfl rfl rfl rfl rfl (lb rfl) fun a S => ?_
  refine sMove (iv x38) S (wN rfl) (.inr rfl) rfl rfl (lb rfl) fun a S => ?_
  refine leafL (leafT (hK37 _ _ ?_))
  obtain ⟨t44, h, g45⟩ := bindSome h
  refine sCut (fun a w => ∃ o43, o43 = t44 ∧ St [] E [] w0 30 a w [(7, .slice ad1 p0.length cp2), (8, iv (p0.length : Int)), (9, iv s7), (16, .slice ad22 x17.length cp23), (17, iv (x17.length : Int)), (18, iv s29), (27, .bool o43)] [] [fRep (rL (rL (rI .i64))) (.slice ad1 p0.length cp2) p0, fRep (rL (rI .i64)) (.slice ad22 x17.length cp23) x17]) ?_ (fun a w hI => ?_)
  · refine sRegion ?_
    refine sMove (iv x38) S (wN rfl) (.inl rfl) rfl rfl (lb rfl) fun a S => ?_
    refine sBin (.bool (decide (x38 < 0))) S (wN rfl) rfl rfl rfl (bLt _ _ _ _ .i64 x38 0) rfl (lb rfl) fun a S => ?_
    refine sMove (.bool (decide (x38 < 0))) S (wN rfl) (.inl rfl) rfl rfl (lb rfl) fun a S => ?_
    rcases iteSome h with ⟨hc46, h⟩ | ⟨hc46, h⟩
    · refine sSkip 2 false 24 25 S rfl rfl rfl hc46 rfl (lb rfl) fun a S => ?_
      refine sSkip 2 false 24 26 S rfl rfl rfl hc46 rfl (lb rfl) fun a S => ?_
      refine sPickT (.bool true) S (wN rfl) rfl rfl hc46 rfl rfl (lb rfl) fun a S => ?_
      exact leafL (leafT (⟨true, Option.some.inj h, S.fix [] [3, 4] (by decide) rfl rfl rfl⟩))
    refine sMove (iv x38) S (wG 2 false 24 rfl rfl rfl hc46) (.inl rfl) rfl rfl (lb rfl) fun a S => ?_
    refine sBin (.bool (decide (400 ≤ x38))) S (wG 2 false 24 rfl rfl rfl hc46) rfl rfl rfl (bGe _ _ _ _ .i64 x38 400) rfl (lb rfl) fun a S => ?_
    refine sPickF (.bool (decide (400 ≤ x38))) S (wN rfl) rfl rfl hc46 rfl rfl (lb rfl) fun a S => ?_
    exact leafL (leafT (⟨decide (400 ≤ x38), Option.some.inj h, S.fix [] [3, 4] (by decide) rfl rfl rfl⟩))
  obtain ⟨o43, rfl, S⟩ := hI
  have h := g45
  clear g45
  try dsimp only at h
  rcases iteSome h with ⟨hc47, h⟩ | ⟨hc47, h⟩
  rotate_left
  · refine sCondF S rfl hc47 ?_
    refine wp_skip (leafB (leafT (hK36 _ _ ?_)))
    refine sRegion ?_
    refine sBin (iv (w64 (s29 + 1))) S (wN rfl) rfl rfl rfl (bAdd _ _ _ _ s29 1) rfl (lb rfl) fun a S => ?_
    refine sMove (iv (w64 (s29 + 1))) S (wN rfl) (.inl rfl) rfl rfl (lb rfl) fun a S => ?_
    exact leafL (leafT (⟨w64 (s29 + 1), (Option.some.inj h).symm, (S.fix [] [0, 1] (by decide) rfl rfl rfl)⟩))
  refine sCondT S rfl hc47 ?_
  refine sSeq (fun K48 hK48 => ?_)
  refine sRegion ?_
  refine sMove (iv 8) S (wN rfl) (.inr rfl) rfl rfl (lb rfl) fun a S => ?_
  refine leafL (leafT (hK48 _ _ ?_))
  obtain rfl := Option.some.inj h
  obtain rfl := hu30 _ rfl
  have h := g31
  clear g31
  try dsimp only at h
  obtain rfl := Option.some.inj h
  have h := g15
  clear g15
  try dsimp only at h
  obtain rfl := Option.some.inj h
  obtain rfl := hu8 _ rfl
  have h := g9
  clear g9
  try dsimp only at h
  obtain rfl := Option.some.inj h
  have h := g5
  clear g5
  try dsimp only at h
  obtain rfl := Option.some.inj h
  exact wp_ret (rBlock (rThen (rThen (rBlock (rBlock (rThen (rThen (rBlock (rThen (sRet (iv 8) S (rsl1 rfl (rvT (t := 2) (v := iv 8) S rfl)) ⟨(), rfl, S.mem.sel [] [] (by decide) rfl rfl⟩))))))))))

end Go.Proofs.Ythfifeabomdlpaa
namespace Go.Proofs.Ythfifeabomdlpaa
open Go.RowKit
set_option linter.unusedVariables false

noncomputable def F_thread_Check (p0 : (List Int)) : Option Int :=
  Option.bind (F_thread_check [p0]) fun r7 =>
  some r7
set_option maxHeartbeats 4000000 in
set_option maxRecDepth 100000 in
theorem c_thread_Check (E : Nat → Prop) (w0 : World) (p0 : (List Int)) (v0 : Value) (r : Int) (h : F_thread_Check p0 = some r) (S : St0 E [] w0 w0 [] [fRep (rL (rI .i64)) (v0) p0]) :
    Calls Try.prog 57 #[v0] w0 (Ret (X := Unit) E [] w0 (fun _ => .int .i64 r) (fun _ => []) (fun _ => [])) := by
  unfold F_thread_Check at h
  obtain ⟨ad1, cp2, _, rfl, _⟩ := S.know (i := 0) (e := fRep (rL (rI .i64)) (v0) p0) rfl
  refine sEnter (args := [.slice ad1 p0.length cp2]) 6 Try.func57 rfl rfl (by simp) S (fun a S => ?_)
  refine sSeq (fun K3 hK3 => ?_)
  refine sRegion ?_
  refine sMove (iv 0) S (wN rfl) (.inr rfl) rfl rfl (lb rfl) fun a S => ?_
  refine leafL (leafT (hK3 _ _ ?_))
  refine sSeq (fun K4 hK4 => ?_)
  refine sRegion ?_
  refine sMove (.slice ad1 p0.length cp2) S (wN rfl) (.inl rfl) rfl rfl (lb rfl) fun a S => ?_
  refine sLit (r := (rL (rI .i64))) (T := 35) (xs := [p0]) [(0, .slice ad1 p0.length cp2)] 1 [.slice ad1 p0.length cp2] [.slice ad1 p0.length cp2] (.slice none 0 0) 24 S (wN rfl) rfl rfl Try.underlying46 rfl (by decide) (by decide) (by kernel_rfl) rfl (fun E1 w1 hE => All.cons ((rL (rI .i64)).mono hE (S.mem.know (i := 0) (e := fRep (rL (rI .i64)) (.slice ad1 p0.length cp2) p0) rfl)) (All.nil _ _ _)) rfl rfl (lb rfl) fun a w ad5 cp6 S => ?_
  obtain ⟨r7, hx8, h⟩ := bindSome h
  have S1 := S.mem
  have S1 := S1.shutR (r := (rL (rI .i64))) (T := 35) (v := .slice ad5 [p0].length cp6) (xs := [p0]) 0 rfl
  refine sCallQ (X := Unit) (f := 73) (vs := [.slice ad5 [p0].length cp6]) (val := fun _ => iv r7) S (wN rfl) rfl callee73 rfl (S1.quiet [0] rfl) (fun E1 w1 S1 => c_thread_check E1 w1 [p0] (.slice ad5 [p0].length cp6) r7 hx8 S1) rfl (lb rfl) fun _ a w S => ?_
  refine sMove (iv r7) S (wN rfl) (.inr rfl) rfl rfl (lb rfl) fun a S => ?_
  refine leafL (leafT (hK4 _ _ ?_))
  obtain rfl := Option.some.inj h
  exact wp_ret (sRet (iv r7) S (rsl1 rfl (rvT (t := 2) (v := iv r7) S rfl)) ⟨(), rfl, S.mem.sel [] [] (by decide) rfl rfl⟩)

end Go.Proofs.Ythfifeabomdlpaa
namespace Go.Proofs.Ythfifeabomdlpaa
open Go.RowKit
set_option linter.unusedVariables false

noncomputable def F_block_spelled_1_s0 (p0 : (List Int)) (p1 : (List (List Int))) : Option Bool :=
  Option.bind (idxO p1 0) fun x8 =>
  some ((p0.length : Int) != (x8.length : Int))
set_option maxHeartbeats 4000000 in
set_option maxRecDepth 100000 in
theorem c_block_spelled_1_s0 (E : Nat → Prop) (w0 : World) (p0 : (List Int)) (v0 : Value) (p1 : (List (List Int))) (v1 : Value) (r : Bool) (h : F_block_spelled_1_s0 p0 p1 = some r) (S : St0 E [] w0 w0 [] [fRep (rL (rI .i64)) (v0) p0, fPtr (rL (rL (rI .i64))) (v1) p1]) :
    Calls Try.prog 75 #[v0, v1] w0 (Ret (X := Unit) E [] w0 (fun _ => .bool r) (fun _ => []) (fun _ => [])) := by
  unfold F_block_spelled_1_s0 at h
  obtain ⟨ad1, cp2, _, rfl, _⟩ := S.know (i := 0) (e := fRep (rL (rI .i64)) (v0) p0) rfl
  refine sEnter (args := [.slice ad1 p0.length cp2, v1]) 11 Try.func75 rfl rfl (by simp) S (fun a S => ?_)
  refine sSeq (fun K3 hK3 => ?_)
  refine sRegion ?_
  refine sMove (.bool false) S (wN rfl) (.inr rfl) rfl rfl (lb rfl) fun a S => ?_
  refine leafL (leafT (hK3 _ _ ?_))
  refine sSeq (fun K4 hK4 => ?_)
  refine sRegion ?_
  refine sMove (.slice ad1 p0.length cp2) S (wN rfl) (.inl rfl) rfl rfl (lb rfl) fun a S => ?_
  refine sLen (ad := ad1) (m := p0.length) (c := cp2) S (wN rfl) rfl Try.underlying35 rfl rfl (lb rfl) fun a S => ?_
  obtain ⟨u5, S⟩ := pLoad (r := (rL (rL (rI .i64)))) (q := v1) (x := p1) 1 S rfl
  obtain ⟨ad6, cp7, _, rfl, _⟩ := S.mem.know (i := 1) (e := fRep (rL (rL (rI .i64))) (u5) p1) rfl
  refine sLoadV1 (vq := v1) 0 (.slice ad6 p1.length cp7) S (wN rfl) rfl rfl rfl rfl rfl (lb rfl) fun a S => ?_
  obtain ⟨x8, hx9, h⟩ := bindSome h
  obtain ⟨q10, hq11, S⟩ := pIdx (P := Try.prog) (r := (rL (rI .i64))) (v := .slice ad6 p1.length cp7) (xs := p1) (j := 0) 46 35 1 S Try.underlying46 rfl rfl hx9
  refine sIdxV (v := .slice ad6 p1.length cp7) (k := .i64) (j := 0) S (wN rfl) rfl rfl rfl hq11 rfl (lb rfl) fun a S => ?_
  obtain ⟨u12, S⟩ := pLoad (r := (rL (rI .i64))) (q := q10) (x := x8) 0 S rfl
  obtain ⟨ad13, cp14, _, rfl, _⟩ := S.mem.know (i := 1) (e := fRep (rL (rI .i64)) (u12) x8) rfl
  refine sLoadV1 (vq := q10) 0 (.slice ad13 x8.length cp14) S (wN rfl) rfl rfl rfl rfl rfl (lb rfl) fun a S => ?_
  refine sLen (ad := ad13) (m := x8.length) (c := cp14) S (wN rfl) rfl Try.underlying35 rfl rfl (lb rfl) fun a S => ?_
  refine sBin (.bool ((p0.length : Int) != (x8.length : Int))) S (wN rfl) rfl rfl rfl (bNe _ _ _ _ .i64 (p0.length : Int) (x8.length : Int)) rfl (lb rfl) fun a S => ?_
  refine sMove (.bool ((p0.length : Int) != (x8.length : Int))) S (wN rfl) (.inr rfl) rfl rfl (lb rfl) fun a S => ?_
  refine leafL (leafT (hK4 _ _ ?_))
  obtain rfl := Option.some.inj h
  exact wp_ret (sRet (.bool ((p0.length : Int) != (x8.length : Int))) S (rsl1 rfl (rvT (t := 3) (v := .bool ((p0.length : Int) != (x8.length : Int))) S rfl)) ⟨(), rfl, S.mem.sel [] [] (by decide) rfl rfl⟩)

end Go.Proofs.Ythfifeabomdlpaa
namespace Go.Proofs.Ythfifeabomdlpaa
open Go.RowKit
set_option linter.unusedVariables false

noncomputable def slices_IndexFunc_____int___int__s0_l1 (p0 : (List (List Int))) (p1 : (List (List Int))) : Int → Option (Int ⊕ (Int ⊕ Unit)) := fun s0 => match s0 with
  | s7 =>
    if decide (s7 < (p0.length : Int)) then
      Option.bind (idxO p0 s7) fun x17 =>
      Option.bind (F_block_spelled_1_s0 x17 p1) fun r24 =>
      if r24 then
        some (.inr (.inl s7))
      else
        some (.inl (w64 (s7 + 1)))
    else
      some (.inr (.inr ()))
noncomputable def F_slices_IndexFunc_____int___int__s0 (p0 : (List (List Int))) (p1 : (List (List Int))) : Option Int :=
  Option.bind (α := Unit ⊕ Int) (
    Option.bind (whileO (slices_IndexFunc_____int___int__s0_l1 p0 p1) 0) fun z0 => match z0 with
      | .inl z =>
        some (.inr z)
      | .inr _ =>
        some (.inl ())) fun z0 => match z0 with
    | .inl _ =>
      some (-1)
    | .inr z =>
      some z
set_option maxHeartbeats 4000000 in
set_option maxRecDepth 100000 in
theorem c_slices_IndexFunc_____int___int__s0 (E : Nat → Prop) (w0 : World) (p0 : (List (List Int))) (v0 : Value) (p1 : (List (List Int))) (v1 : Value) (r : Int) (h : F_slices_IndexFunc_____int___int__s0 p0 p1 = some r) (S : St0 E [] w0 w0 [] [fRep (rL (rL (rI .i64))) (v0) p0, fPtr (rL (rL (rI .i64))) (v1) p1]) :
    Calls Try.prog 61 #[v0, .func (.func 75) #[] #[v1]] w0 (Ret (X := Unit) E [] w0 (fun _ => .int .i64 r) (fun _ => []) (fun _ => [])) := by
  unfold F_slices_IndexFunc_____int___int__s0 at h
  obtain ⟨ad1, cp2, _, rfl, _⟩ := S.know (i := 0) (e := fRep (rL (rL (rI .i64))) (v0) p0) rfl
  refine sEnter (args := [.slice ad1 p0.length cp2, .func (.func 75) #[] #[v1]]) 19 Try.func61 rfl rfl (by simp) S (fun a S => ?_)
  refine sSeq (fun K3 hK3 => ?_)
  refine sRegion ?_
  refine sMove (iv 0) S (wN rfl) (.inr rfl) rfl rfl (lb rfl) fun a S => ?_
  refine leafL (leafT (hK3 _ _ ?_))
  obtain ⟨t4, h, g5⟩ := bindSome h
  refine sCut (fun a w => .inl () = t4 ∧ St [] E [] w0 19 a w [] [] []) ?_ (fun a w hI => ?_)
  rotate_left
  · obtain ⟨rfl, S⟩ := hI
    have h := g5
    clear g5
    try dsimp only at h
    refine sSeq (fun K28 hK28 => ?_)
    refine sRegion ?_
    refine sMove (iv (-1)) S (wN rfl) (.inr rfl) rfl rfl (lb rfl) fun a S => ?_
    refine leafL (leafT (hK28 _ _ ?_))
    obtain rfl := Option.some.inj h
    exact wp_ret (sRet (iv (-1)) S (rsl1 rfl (rvT (t := 4) (v := iv (-1)) S rfl)) ⟨(), rfl, S.mem.sel [] [] (by decide) rfl rfl⟩)
  refine sSeq (fun K6 hK6 => ?_)
  refine sRegion ?_
  refine sMove (.slice ad1 p0.length cp2) S (wN rfl) (.inl rfl) rfl rfl (lb rfl) fun a S => ?_
  refine sLen (ad := ad1) (m := p0.length) (c := cp2) S (wN rfl) rfl Try.underlying46 rfl rfl (lb rfl) fun a S => ?_
  refine sMove (iv 0) S (wN rfl) (.inl rfl) rfl rfl (lb rfl) fun a S => ?_
  refine leafL (leafT (hK6 _ _ ?_))
  refine wp_block ?_
  obtain ⟨t10, hl, g9⟩ := bindSome h
  refine sLoop hl (fun s0 a w => match s0 with | s7 => St [] E [] w0 19 a w [(0, .slice ad1 p0.length cp2), (1, .func (.func 75) #[] #[v1]), (7, iv (p0.length : Int)), (8, iv s7)] [] [fPtr (rL (rL (rI .i64))) (v1) p1, fRep (rL (rL (rI .i64))) (.slice ad1 p0.length cp2) p0]) (S.fix [] [1, 0] (by decide) rfl rfl rfl) ?_
  clear hl h
  intro s7 a w c0 hI h hu8
  unfold slices_IndexFunc_____int___int__s0_l1 at h
  dsimp only at h hI
  have S := hI
  refine sSeq (fun K11 hK11 => ?_)
  refine sRegion ?_
  refine sBin (.bool (decide (s7 < (p0.length : Int)))) S (wN rfl) rfl rfl rfl (bLt _ _ _ _ .i64 s7 (p0.length : Int)) rfl (lb rfl) fun a S => ?_
  refine leafL (leafT (hK11 _ _ ?_))
  refine sSeq (fun K12 hK12 => ?_)
  rcases iteSome h with ⟨hc13, h⟩ | ⟨hc13, h⟩
  rotate_left
  · refine sCondF S rfl hc13 ?_
    obtain rfl := Option.some.inj h
    obtain rfl := hu8 _ rfl
    have h := g9
    clear g9
    try dsimp only at h
    exact wp_exit (xThen (xThen (xHit (leafT (⟨Option.some.inj h, S.fix [] [] (by decide) rfl rfl rfl⟩)))))
  refine sCondT S rfl hc13 ?_
  refine wp_skip (leafT (hK12 _ _ ?_))
  refine sSeq (fun K14 hK14 => ?_)
  refine wp_block ?_
  refine sSeq (fun K15 hK15 => ?_)
  refine sRegion ?_
  refine sMove (iv s7) S (wN rfl) (.inl rfl) rfl rfl (lb rfl) fun a S => ?_
  refine sMove (iv s7) S (wN rfl) (.inr rfl) rfl rfl (lb rfl) fun a S => ?_
  refine leafL (leafT (hK15 _ _ ?_))
  refine sSeq (fun K16 hK16 => ?_)
  refine sRegion ?_
  refine sMove (.func (.func 75) #[] #[v1]) S (wN rfl) (.inl rfl) rfl rfl (lb rfl) fun a S => ?_
  refine sMove (.slice ad1 p0.length cp2) S (wN rfl) (.inl rfl) rfl rfl (lb rfl) fun a S => ?_
  refine sMove (iv s7) S (wN rfl) (.inl rfl) rfl rfl (lb rfl) fun a S => ?_
  obtain ⟨x17, hx18, h⟩ := bindSome h
  obtain ⟨q19, hq20, S⟩ := pIdx (P := Try.prog) (r := (rL (rI .i64))) (v := .slice ad1 p0.length cp2) (xs := p0) (j := s7) 46 35 1 S Try.underlying46 rfl rfl hx18
  refine sIdxV (v := .slice ad1 p0.length cp2) (k := .i64) (j := s7) S (wN rfl) rfl rfl rfl hq20 rfl (lb rfl) fun a S => ?_
  obtain ⟨u21, S⟩ := pLoad (r := (rL (rI .i64))) (q := q19) (x := x17) 0 S rfl
  obtain ⟨ad22, cp23, _, rfl, _⟩ := S.mem.know (i := 1) (e := fRep (rL (rI .i64)) (u21) x17) rfl
  refine sLoadV1 (vq := q19) 0 (.slice ad22 x17.length cp23) S (wN rfl) rfl rfl rfl rfl rfl (lb rfl) fun a S => ?_
  obtain ⟨r24, hx25, h⟩ := bindSome h
  have S1 := S.mem
  refine sCallVQ (X := Unit) (g := 75) (vs := [.slice ad22 x17.length cp23]) (caps := [v1]) (val := fun _ => .bool r24) S (wN rfl) rfl rfl callee75 rfl (S1.quiet [1, 3] rfl) (fun E1 w1 S1 => c_block_spelled_1_s0 E1 w1 x17 (.slice ad22 x17.length cp23) p1 v1 r24 hx25 S1) rfl (lb rfl) fun _ a w S => ?_
  refine leafL (leafT (hK16 _ _ ?_))
  rcases iteSome h with ⟨hc26, h⟩ | ⟨hc26, h⟩
  rotate_left
  · refine sCondF S rfl hc26 ?_
    refine wp_skip (leafB (leafT (hK14 _ _ ?_)))
    refine sRegion ?_
    refine sBin (iv (w64 (s7 + 1))) S (wN rfl) rfl rfl rfl (bAdd _ _ _ _ s7 1) rfl (lb rfl) fun a S => ?_
    refine sMove (iv (w64 (s7 + 1))) S (wN rfl) (.inl rfl) rfl rfl (lb rfl) fun a S => ?_
    exact leafL (leafT (⟨w64 (s7 + 1), (Option.some.inj h).symm, (S.fix [] [3, 4] (by decide) rfl rfl rfl)⟩))
  refine sCondT S rfl hc26 ?_
  refine sSeq (fun K27 hK27 => ?_)
  refine sRegion ?_
  refine sMove (iv s7) S (wN rfl) (.inl rfl) rfl rfl (lb rfl) fun a S => ?_
  refine sMove (iv s7) S (wN rfl) (.inr rfl) rfl rfl (lb rfl) fun a S => ?_
  refine leafL (leafT (hK27 _ _ ?_))
  obtain rfl := Option.some.inj h
  obtain rfl := hu8 _ rfl
  have h := g9
  clear g9
  try dsimp only at h
  obtain rfl := Option.some.inj h
  have h := g5
  clear g5
  try dsimp only at h
  obtain rfl := Option.some.inj h
  exact wp_ret (rBlock (rThen (rThen (rBlock (rThen (sRet (iv s7) S (rsl1 rfl (rvT (t := 4) (v := iv s7) S rfl)) ⟨(), rfl, S.mem.sel [] [] (by decide) rfl rfl⟩))))))

end Go.Proofs.Ythfifeabomdlpaa
namespace Go.Proofs.Ythfifeabomdlpaa
open Go.RowKit
set_option linter.unusedVariables false

noncomputable def F_slices_ContainsFunc_____int___int__s0 (p0 : (List (List Int))) (p1 : (List (List Int))) : Option Bool :=
  Option.bind (F_slices_IndexFunc_____int___int__s0 p0 p1) fun r5 =>
  some (decide (0 ≤ r5))
set_option maxHeartbeats 4000000 in
set_option maxRecDepth 100000 in
theorem c_slices_ContainsFunc_____int___int__s0 (E : Nat → Prop) (w0 : World) (p0 : (List (List Int))) (v0 : Value) (p1 : (List (List Int))) (v1 : Value) (r : Bool) (h : F_slices_ContainsFunc_____int___int__s0 p0 p1 = some r) (S : St0 E [] w0 w0 [] [fRep (rL (rL (rI .i64))) (v0) p0, fPtr (rL (rL (rI .i64))) (v1) p1]) :
    Calls Try.prog 74 #[v0, .func (.func 75) #[] #[v1]] w0 (Ret (X := Unit) E [] w0 (fun _ => .bool r) (fun _ => []) (fun _ => [])) := by
  unfold F_slices_ContainsFunc_____int___int__s0 at h
  obtain ⟨ad1, cp2, _, rfl, _⟩ := S.know (i := 0) (e := fRep (rL (rL (rI .i64))) (v0) p0) rfl
  refine sEnter (args := [.slice ad1 p0.length cp2, .func (.func 75) #[] #[v1]]) 9 Try.func74 rfl rfl (by simp) S (fun a S => ?_)
  refine sSeq (fun K3 hK3 => ?_)
  refine sRegion ?_
  refine sMove (.bool false) S (wN rfl) (.inr rfl) rfl rfl (lb rfl) fun a S => ?_
  refine leafL (leafT (hK3 _ _ ?_))
  refine sSeq (fun K4 hK4 => ?_)
  refine sRegion ?_
  refine sMove (.slice ad1 p0.length cp2) S (wN rfl) (.inl rfl) rfl rfl (lb rfl) fun a S => ?_
  refine sMove (.func (.func 75) #[] #[v1]) S (wN rfl) (.inl rfl) rfl rfl (lb rfl) fun a S => ?_
  obtain ⟨r5, hx6, h⟩ := bindSome h
  have S1 := S.mem
  refine sCallQ (X := Unit) (f := 61) (vs := [.slice ad1 p0.length cp2, .func (.func 75) #[] #[v1]]) (val := fun _ => iv r5) S (wN rfl) rfl callee61 rfl (S1.quiet [0, 1] rfl) (fun E1 w1 S1 => c_slices_IndexFunc_____int___int__s0 E1 w1 p0 (.slice ad1 p0.length cp2) p1 v1 r5 hx6 S1) rfl (lb rfl) fun _ a w S => ?_
  refine sBin (.bool (decide (0 ≤ r5))) S (wN rfl) rfl rfl rfl (bGe _ _ _ _ .i64 r5 0) rfl (lb rfl) fun a S => ?_
  refine sMove (.bool (decide (0 ≤ r5))) S (wN rfl) (.inr rfl) rfl rfl (lb rfl) fun a S => ?_
  refine leafL (leafT (hK4 _ _ ?_))
  obtain rfl := Option.some.inj h
  exact wp_ret (sRet (.bool (decide (0 ≤ r5))) S (rsl1 rfl (rvT (t := 4) (v := .bool (decide (0 ≤ r5))) S rfl)) ⟨(), rfl, S.mem.sel [] [] (by decide) rfl rfl⟩)

end Go.Proofs.Ythfifeabomdlpaa
namespace Go.Proofs.Ythfifeabomdlpaa
open Go.RowKit
set_option linter.unusedVariables false

noncomputable def block_spelled_l1 (p0 : (List (List Int))) : Int → Option (Int ⊕ (Int ⊕ Unit)) := fun s0 => match s0 with
  | s15 =>
    if decide (s15 < (p0.length : Int)) then
      Option.bind (idxO p0 s15) fun x24 =>
      Option.bind (F_thread_Check x24) fun r32 =>
      if r32 != 0 then
        some (.inr (.inl r32))
      else
        some (.inl (w64 (s15 + 1)))
    else
      some (.inr (.inr ()))
noncomputable def F_block_spelled (p0 : (List (List Int))) : Option Int :=
  Option.bind (α := Bool) (
    if (p0.length : Int) == 0 then
      some true
    else
      some (decide (400 < (p0.length : Int)))) fun o6 =>
  if o6 then
    some 2
  else
    Option.bind (α := Unit ⊕ Int) (
      Option.bind (whileO (block_spelled_l1 p0) 0) fun z0 => match z0 with
        | .inl z =>
          some (.inr z)
        | .inr _ =>
          some (.inl ())) fun z0 => match z0 with
      | .inl _ =>
        Option.bind (α := Bool) (
          Option.bind (idxO p0 0) fun x41 =>
          if (x41.length : Int) == 0 then
            some true
          else
            Option.bind (F_slices_ContainsFunc_____int___int__s0 p0 p0) fun r49 =>
            some r49) fun o38 =>
        if o38 then
          some 26
        else
          some 0
      | .inr z =>
        some z
set_option maxHeartbeats 4000000 in
set_option maxRecDepth 100000 in
theorem c_block_spelled (E : Nat → Prop) (w0 : World) (p0 : (List (List Int))) (v0 : Value) (r : Int) (h : F_block_spelled p0 = some r) (S : St0 E [] w0 w0 [] [fRep (rL (rL (rI .i64))) (v0) p0]) :
    Calls Try.prog 58 #[v0] w0 (Ret (X := Unit) E [] w0 (fun _ => .int .i64 r) (fun _ => []) (fun _ => [])) := by
  unfold F_block_spelled at h
  obtain ⟨ad1, cp2, _, rfl, _⟩ := S.know (i := 0) (e := fRep (rL (rL (rI .i64))) (v0) p0) rfl
  refine sEnter (args := [.slice ad1 p0.length cp2]) 36 Try.func58 rfl rfl (by simp) S (fun a S => ?_)
  refine sSeq (fun K3 hK3 => ?_)
  refine sRegion ?_
  refine sBox (v := .slice ad1 p0.length cp2) S (wN rfl) rfl rfl [.slice ad1 p0.length cp2] rfl rfl (lb rfl) fun a b4 w S => ?_
  refine sMove (iv 0) S (wN rfl) (.inr rfl) rfl rfl (lb rfl) fun a S => ?_
  refine leafL (leafT (hK3 _ _ ?_))
  refine sSeq (fun K5 hK5 => ?_)
  obtain ⟨t7, h, g8⟩ := bindSome h
  refine sCut (fun a w => ∃ o6, o6 = t7 ∧ St [] E [] w0 36 a w [(1, .pointer (some ⟨b4, 0, none⟩)), (13, .bool o6)] [eBox b4 46 [.slice ad1 p0.length cp2]] [fRep (rL (rL (rI .i64))) (.slice ad1 p0.length cp2) p0]) ?_ (fun a w hI => ?_)
  · refine sRegion ?_
    refine sLoad1 (p := b4) (off := 0) (T := 46) (vs := [.slice ad1 p0.length cp2]) 0 (.slice ad1 p0.length cp2) S (wN rfl) rfl rfl rfl rfl rfl rfl (lb rfl) fun a S => ?_
    refine sLen (ad := ad1) (m := p0.length) (c := cp2) S (wN rfl) rfl Try.underlying46 rfl rfl (lb rfl) fun a S => ?_
    refine sBin (.bool ((p0.length : Int) == 0)) S (wN rfl) rfl rfl rfl (bEq _ _ _ _ .i64 (p0.length : Int) 0) rfl (lb rfl) fun a S => ?_
    refine sMove (.bool ((p0.length : Int) == 0)) S (wN rfl) (.inl rfl) rfl rfl (lb rfl) fun a S => ?_
    rcases iteSome h with ⟨hc9, h⟩ | ⟨hc9, h⟩
    · refine sSkip 3 false 9 10 S rfl rfl rfl hc9 rfl (lb rfl) fun a S => ?_
      refine sSkip 3 false 9 11 S rfl rfl rfl hc9 rfl (lb rfl) fun a S => ?_
      refine sSkip 3 false 9 12 S rfl rfl rfl hc9 rfl (lb rfl) fun a S => ?_
      refine sPickT (.bool true) S (wN rfl) rfl rfl hc9 rfl rfl (lb rfl) fun a S => ?_
      exact leafL (leafT (⟨true, Option.some.inj h, S.fix [0] [0] (by decide) rfl rfl rfl⟩))
    refine sLoad1 (p := b4) (off := 0) (T := 46) (vs := [.slice ad1 p0.length cp2]) 0 (.slice ad1 p0.length cp2) S (wG 3 false 9 rfl rfl rfl hc9) rfl rfl rfl rfl rfl rfl (lb rfl) fun a S => ?_
    refine sLen (ad := ad1) (m := p0.length) (c := cp2) S (wG 3 false 9 rfl rfl rfl hc9) rfl Try.underlying46 rfl rfl (lb rfl) fun a S => ?_
    refine sBin (.bool (decide (400 < (p0.length : Int)))) S (wG 3 false 9 rfl rfl rfl hc9) rfl rfl rfl (bGt _ _ _ _ .i64 (p0.length : Int) 400) rfl (lb rfl) fun a S => ?_
    refine sPickF (.bool (decide (400 < (p0.length : Int)))) S (wN rfl) rfl rfl hc9 rfl rfl (lb rfl) fun a S => ?_
    exact leafL (leafT (⟨decide (400 < (p0.length : Int)), Option.some.inj h, S.fix [0] [0] (by decide) rfl rfl rfl⟩))
  obtain ⟨o6, rfl, S⟩ := hI
  have h := g8
  clear g8
  try dsimp only at h
  rcases iteSome h with ⟨hc10, h⟩ | ⟨hc10, h⟩
  · refine sCondT S rfl hc10 ?_
    refine sSeq (fun K11 hK11 => ?_)
    refine sRegion ?_
    refine sMove (iv 2) S (wN rfl) (.inr rfl) rfl rfl (lb rfl) fun a S => ?_
    refine leafL (leafT (hK11 _ _ ?_))
    obtain rfl := Option.some.inj h
    exact wp_ret (rThen (sRet (iv 2) S (rsl1 rfl (rvT (t := 2) (v := iv 2) S rfl)) ⟨(), rfl, S.mem.sel [] [] (by decide) rfl rfl⟩))
  refine sCondF S rfl hc10 ?_
  refine wp_skip (leafT (hK5 _ _ ?_))
  obtain ⟨t12, h, g13⟩ := bindSome h
  refine sCut (fun a w => .inl () = t12 ∧ St [] E [] w0 36 a w [(1, .pointer (some ⟨b4, 0, none⟩))] [eBox b4 46 [.slice ad1 p0.length cp2]] [fRep (rL (rL (rI .i64))) (.slice ad1 p0.length cp2) p0]) ?_ (fun a w hI => ?_)
  rotate_left
  · obtain ⟨rfl, S⟩ := hI
    have h := g13
    clear g13
    try dsimp only at h
    refine sSeq (fun K37 hK37 => ?_)
    obtain ⟨t39, h, g40⟩ := bindSome h
    refine sCut (fun a w => ∃ o38, o38 = t39 ∧ St [] E [] w0 36 a w [(35, .bool o38)] [] []) ?_ (fun a w hI => ?_)
    rotate_left
    · obtain ⟨o38, rfl, S⟩ := hI
      have h := g40
      clear g40
      try dsimp only at h
      rcases iteSome h with ⟨hc51, h⟩ | ⟨hc51, h⟩
      · refine sCondT S rfl hc51 ?_
        refine sSeq (fun K52 hK52 => ?_)
        refine sRegion ?_
        refine sMove (iv 26) S (wN rfl) (.inr rfl) rfl rfl (lb rfl) fun a S => ?_
        refine leafL (leafT (hK52 _ _ ?_))
        obtain rfl := Option.some.inj h
        exact wp_ret (rThen (sRet (iv 26) S (rsl1 rfl (rvT (t := 2) (v := iv 26) S rfl)) ⟨(), rfl, S.mem.sel [] [] (by decide) rfl rfl⟩))
      refine sCondF S rfl hc51 ?_
      refine wp_skip (leafT (hK37 _ _ ?_))
      refine sSeq (fun K53 hK53 => ?_)
      refine sRegion ?_
      refine sMove (iv 0) S (wN rfl) (.inr rfl) rfl rfl (lb rfl) fun a S => ?_
      refine leafL (leafT (hK53 _ _ ?_))
      obtain rfl := Option.some.inj h
      exact wp_ret (sRet (iv 0) S (rsl1 rfl (rvT (t := 2) (v := iv 0) S rfl)) ⟨(), rfl, S.mem.sel [] [] (by decide) rfl rfl⟩)
    refine sRegion ?_
    refine sLoad1 (p := b4) (off := 0) (T := 46) (vs := [.slice ad1 p0.length cp2]) 0 (.slice ad1 p0.length cp2) S (wN rfl) rfl rfl rfl rfl rfl rfl (lb rfl) fun a S => ?_
    obtain ⟨x41, hx42, h⟩ := bindSome h
    obtain ⟨q43, hq44, S⟩ := pIdx (P := Try.prog) (r := (rL (rI .i64))) (v := .slice ad1 p0.length cp2) (xs := p0) (j := 0) 46 35 0 S Try.underlying46 rfl rfl hx42
    refine sIdxV (v := .slice ad1 p0.length cp2) (k := .i64) (j := 0) S (wN rfl) rfl rfl rfl hq44 rfl (lb rfl) fun a S => ?_
    obtain ⟨u45, S⟩ := pLoad (r := (rL (rI .i64))) (q := q43) (x := x41) 0 S rfl
    obtain ⟨ad46, cp47, _, rfl, _⟩ := S.mem.know (i := 1) (e := fRep (rL (rI .i64)) (u45) x41) rfl
    refine sLoadV1 (vq := q43) 0 (.slice ad46 x41.length cp47) S (wN rfl) rfl rfl rfl rfl rfl (lb rfl) fun a S => ?_
    refine sLen (ad := ad46) (m := x41.length) (c := cp47) S (wN rfl) rfl Try.underlying35 rfl rfl (lb rfl) fun a S => ?_
    refine sBin (.bool ((x41.length : Int) == 0)) S (wN rfl) rfl rfl rfl (bEq _ _ _ _ .i64 (x41.length : Int) 0) rfl (lb rfl) fun a S => ?_
    refine sMove (.bool ((x41.length : Int) == 0)) S (wN rfl) (.inl rfl) rfl rfl (lb rfl) fun a S => ?_
    rcases iteSome h with ⟨hc48, h⟩ | ⟨hc48, h⟩
    · refine sSkip 5 false 31 32 S rfl rfl rfl hc48 rfl (lb rfl) fun a S => ?_
      refine sSkip 5 false 31 33 S rfl rfl rfl hc48 rfl (lb rfl) fun a S => ?_
      refine sSkip 5 false 31 34 S rfl rfl rfl hc48 rfl (lb rfl) fun a S => ?_
      refine sPickT (.bool true) S (wN rfl) rfl rfl hc48 rfl rfl (lb rfl) fun a S => ?_
      exact leafL (leafT (⟨true, Option.some.inj h, S.fix [] [] (by decide) rfl rfl rfl⟩))
    refine sLoad1 (p := b4) (off := 0) (T := 46) (vs := [.slice ad1 p0.length cp2]) 0 (.slice ad1 p0.length cp2) S (wG 5 false 31 rfl rfl rfl hc48) rfl rfl rfl rfl rfl rfl (lb rfl) fun a S => ?_
    refine sFunc (g := 75) (vs := [.pointer (some ⟨b4, 0, none⟩)]) S (wG 5 false 31 rfl rfl rfl hc48) rfl rfl rfl (lb rfl) fun a S => ?_
    obtain ⟨r49, hx50, h⟩ := bindSome h
    have S1 := S.mem
    have S1 := S1.shutB (r := (rL (rL (rI .i64)))) (T := 46) (b := b4) (cs := [.slice ad1 p0.length cp2]) 0 (.slice ad1 p0.length cp2) p0 rfl rfl (S1.know (i := 3) (e := fRep (rL (rL (rI .i64))) (.slice ad1 p0.length cp2) p0) rfl)
    refine sCallQ (X := Unit) (f := 74) (vs := [.slice ad1 p0.length cp2, .func (.func 75) #[] #[.pointer (some ⟨b4, 0, none⟩)]]) (val := fun _ => .bool r49) S (wG 5 false 31 rfl rfl rfl hc48) rfl callee74 rfl (S1.quiet [4, 0] rfl) (fun E1 w1 S1 => c_slices_ContainsFunc_____int___int__s0 E1 w1 p0 (.slice ad1 p0.length cp2) p0 (.pointer (some ⟨b4, 0, none⟩)) r49 hx50 S1) rfl (lb rfl) fun _ a w S => ?_
    refine sPickF (.bool r49) S (wN rfl) rfl rfl hc48 rfl rfl (lb rfl) fun a S => ?_
    exact leafL (leafT (⟨r49, Option.some.inj h, S.fix [] [] (by decide) rfl rfl rfl⟩))
  refine sSeq (fun K14 hK14 => ?_)
  refine sRegion ?_
  refine sLoad1 (p := b4) (off := 0) (T := 46) (vs := [.slice ad1 p0.length cp2]) 0 (.slice ad1 p0.length cp2) S (wN rfl) rfl rfl rfl rfl rfl rfl (lb rfl) fun a S => ?_
  refine sLen (ad := ad1) (m := p0.length) (c := cp2) S (wN rfl) rfl Try.underlying46 rfl rfl (lb rfl) fun a S => ?_
  refine sMove (iv 0) S (wN rfl) (.inl rfl) rfl rfl (lb rfl) fun a S => ?_
  refine leafL (leafT (hK14 _ _ ?_))
  refine wp_block ?_
  obtain ⟨t18, hl, g17⟩ := bindSome h
  refine sLoop hl (fun s0 a w => match s0 with | s15 => St [] E [] w0 36 a w [(1, .pointer (some ⟨b4, 0, none⟩)), (14, .slice ad1 p0.length cp2), (15, iv (p0.length : Int)), (16, iv s15)] [eBox b4 46 [.slice ad1 p0.length cp2]] [fRep (rL (rL (rI .i64))) (.slice ad1 p0.length cp2) p0]) (S.fix [0] [0] (by decide) rfl rfl rfl) ?_
  clear hl h
  intro s15 a w c0 hI h hu16
  unfold block_spelled_l1 at h
  dsimp only at h hI
  have S := hI
  refine sSeq (fun K19 hK19 => ?_)
  refine sRegion ?_
  refine sBin (.bool (decide (s15 < (p0.length : Int)))) S (wN rfl) rfl rfl rfl (bLt _ _ _ _ .i64 s15 (p0.length : Int)) rfl (lb rfl) fun a S => ?_
  refine leafL (leafT (hK19 _ _ ?_))
  refine sSeq (fun K20 hK20 => ?_)
  rcases iteSome h with ⟨hc21, h⟩ | ⟨hc21, h⟩
  rotate_left
  · refine sCondF S rfl hc21 ?_
    obtain rfl := Option.some.inj h
    obtain rfl := hu16 _ rfl
    have h := g17
    clear g17
    try dsimp only at h
    exact wp_exit (xThen (xThen (xHit (leafT (⟨Option.some.inj h, S.fix [0] [0] (by decide) rfl rfl rfl⟩)))))
  refine sCondT S rfl hc21 ?_
  refine wp_skip (leafT (hK20 _ _ ?_))
  refine sSeq (fun K22 hK22 => ?_)
  refine wp_block ?_
  refine sSeq (fun K23 hK23 => ?_)
  refine sRegion ?_
  obtain ⟨x24, hx25, h⟩ := bindSome h
  obtain ⟨q26, hq27, S⟩ := pIdx (P := Try.prog) (r := (rL (rI .i64))) (v := .slice ad1 p0.length cp2) (xs := p0) (j := s15) 46 35 0 S Try.underlying46 rfl rfl hx25
  refine sIdxV (v := .slice ad1 p0.length cp2) (k := .i64) (j := s15) S (wN rfl) rfl rfl rfl hq27 rfl (lb rfl) fun a S => ?_
  obtain ⟨u28, S⟩ := pLoad (r := (rL (rI .i64))) (q := q26) (x := x24) 0 S rfl
  obtain ⟨ad29, cp30, _, rfl, _⟩ := S.mem.know (i := 1) (e := fRep (rL (rI .i64)) (u28) x24) rfl
  refine sLoadV1 (vq := q26) 0 (.slice ad29 x24.length cp30) S (wN rfl) rfl rfl rfl rfl rfl (lb rfl) fun a S => ?_
  refine sMove (.slice ad29 x24.length cp30) S (wN rfl) (.inr rfl) rfl rfl (lb rfl) fun a S => ?_
  refine leafL (leafT (hK23 _ _ ?_))
  refine sSeq (fun K31 hK31 => ?_)
  refine sRegion ?_
  refine sMove (.slice ad29 x24.length cp30) S (wN rfl) (.inl rfl) rfl rfl (lb rfl) fun a S => ?_
  obtain ⟨r32, hx33, h⟩ := bindSome h
  have S1 := S.mem
  refine sCallQ (X := Unit) (f := 57) (vs := [.slice ad29 x24.length cp30]) (val := fun _ => iv r32) S (wN rfl) rfl callee57 rfl (S1.quiet [1] rfl) (fun E1 w1 S1 => c_thread_Check E1 w1 x24 (.slice ad29 x24.length cp30) r32 hx33 S1) rfl (lb rfl) fun _ a w S => ?_
  refine sMove (iv r32) S (wN rfl) (.inr rfl) rfl rfl (lb rfl) fun a S => ?_
  refine leafL (leafT (hK31 _ _ ?_))
  refine sSeq (fun K34 hK34 => ?_)
  refine sRegion ?_
  refine sMove (iv r32) S (wN rfl) (.inl rfl) rfl rfl (lb rfl) fun a S => ?_
  refine sBin (.bool (r32 != 0)) S (wN rfl) rfl rfl rfl (bNe _ _ _ _ .i64 r32 0) rfl (lb rfl) fun a S => ?_
  refine leafL (leafT (hK34 _ _ ?_))
  rcases iteSome h with ⟨hc35, h⟩ | ⟨hc35, h⟩
  rotate_left
  · refine sCondF S rfl hc35 ?_
    refine wp_skip (leafB (leafT (hK22 _ _ ?_)))
    refine sRegion ?_
    refine sBin (iv (w64 (s15 + 1))) S (wN rfl) rfl rfl rfl (bAdd _ _ _ _ s15 1) rfl (lb rfl) fun a S => ?_
    refine sMove (iv (w64 (s15 + 1))) S (wN rfl) (.inl rfl) rfl rfl (lb rfl) fun a S => ?_
    exact leafL (leafT (⟨w64 (s15 + 1), (Option.some.inj h).symm, (S.fix [0] [3] (by decide) rfl rfl rfl)⟩))
  refine sCondT S rfl hc35 ?_
  refine sSeq (fun K36 hK36 => ?_)
  refine sRegion ?_
  refine sMove (iv r32) S (wN rfl) (.inl rfl) rfl rfl (lb rfl) fun a S => ?_
  refine sMove (iv r32) S (wN rfl) (.inr rfl) rfl rfl (lb rfl) fun a S => ?_
  refine leafL (leafT (hK36 _ _ ?_))
  obtain rfl := Option.some.inj h
  obtain rfl := hu16 _ rfl
  have h := g17
  clear g17
  try dsimp only at h
  obtain rfl := Option.some.inj h
  have h := g13
  clear g13
  try dsimp only at h
  obtain rfl := Option.some.inj h
  exact wp_ret (rBlock (rThen (rThen (rBlock (rThen (sRet (iv r32) S (rsl1 rfl (rvT (t := 2) (v := iv r32) S rfl)) ⟨(), rfl, S.mem.sel [] [] (by decide) rfl rfl⟩))))))

end Go.Proofs.Ythfifeabomdlpaa
namespace Go.Proofs.Ythfifeabomdlpaa
open Go.RowKit
set_option linter.unusedVariables false

noncomputable def block_Spell_l1 (p0 : (List Int)) (p1 : (List (List Int))) : (List Int × Int) → Option ((List Int × Int) ⊕ List Int) := fun s0 => match s0 with
  | (s44, s47) =>
    if decide (s47 < (p0.length : Int)) then
      Option.bind (idxO p0 s47) fun x59 =>
      Option.bind (idxO p1 x59) fun x64 =>
      Option.bind (appO s44 x64) fun l71 =>
      some (.inl (l71, w64 (s47 + 1)))
    else
      some (.inr s44)
noncomputable def F_block_Spell (p0 : (List Int)) (p1 : (List (List Int))) : Option ((List Int) × Int) :=
  Option.bind (F_thread_Check p0) fun r8 =>
  if r8 != 0 then
    some (([] : (List Int)), r8)
  else
    Option.bind (F_block_spelled p1) fun r15 =>
    if r15 != 0 then
      some (([] : (List Int)), r15)
    else
      Option.bind (F_block_index p0 (p1.length : Int)) fun r22 =>
      if !r22 then
        some (([] : (List Int)), 8)
      else
        Option.bind (idxO p1 0) fun x28 =>
        if decide (400 < (w64 ((p0.length : Int) * (x28.length : Int)))) then
          some (([] : (List Int)), 4)
        else
          Option.bind (α := List Int) (
            Option.bind (whileO (block_Spell_l1 p0 p1) (([] : List Int), 0)) fun e51 =>
              some e51) fun o38 =>
          some (o38, 0)
def c_block_Spell_val (r : ((List Int) × Int)) (x : Value) : Value := .tuple #[x, .int .i64 r.2]
def c_block_Spell_D (r : ((List Int) × Int)) (x : Value) : List Fact := [fRep (rL (rI .i64)) x r.1]
set_option maxHeartbeats 4000000 in
set_option maxRecDepth 100000 in
theorem c_block_Spell (E : Nat → Prop) (w0 : World) (p0 : (List Int)) (v0 : Value) (p1 : (List (List Int))) (v1 : Value) (r : ((List Int) × Int)) (h : F_block_Spell p0 p1 = some r) (S : St0 E [] w0 w0 [] [fRep (rL (rI .i64)) (v0) p0, fRep (rL (rL (rI .i64))) (v1) p1]) :
    Calls Try.prog 27 #[v0, v1] w0 (Ret (X := Value) E [] w0 (c_block_Spell_val r) (fun _ => []) (c_block_Spell_D r)) := by
  unfold F_block_Spell at h
  obtain ⟨ad1, cp2, _, rfl, _⟩ := S.know (i := 0) (e := fRep (rL (rI .i64)) (v0) p0) rfl
  obtain ⟨ad3, cp4, _, rfl, _⟩ := S.know (i := 1) (e := fRep (rL (rL (rI .i64))) (v1) p1) rfl
  refine sEnter (args := [.slice ad1 p0.length cp2, .slice ad3 p1.length cp4]) 48 Try.func27 rfl rfl (by simp) S (fun a S => ?_)
  refine sSeq (fun K5 hK5 => ?_)
  refine sRegion ?_
  refine sMove (.slice none 0 0) S (wN rfl) (.inr rfl) rfl rfl (lb rfl) fun a S => ?_
  refine sMove (iv 0) S (wN rfl) (.inr rfl) rfl rfl (lb rfl) fun a S => ?_
  refine leafL (leafT (hK5 _ _ ?_))
  refine sSeq (fun K6 hK6 => ?_)
  refine sSeq (fun K7 hK7 => ?_)
  refine sRegion ?_
  refine sMove (.slice ad1 p0.length cp2) S (wN rfl) (.inl rfl) rfl rfl (lb rfl) fun a S => ?_
  obtain ⟨r8, hx9, h⟩ := bindSome h
  have S1 := S.mem
  refine sCallQ (X := Unit) (f := 57) (vs := [.slice ad1 p0.length cp2]) (val := fun _ => iv r8) S (wN rfl) rfl callee57 rfl (S1.quiet [0] rfl) (fun E1 w1 S1 => c_thread_Check E1 w1 p0 (.slice ad1 p0.length cp2) r8 hx9 S1) rfl (lb rfl) fun _ a w S => ?_
  refine sMove (iv r8) S (wN rfl) (.inr rfl) rfl rfl (lb rfl) fun a S => ?_
  refine leafL (leafT (hK7 _ _ ?_))
  refine sSeq (fun K10 hK10 => ?_)
  refine sRegion ?_
  refine sMove (iv r8) S (wN rfl) (.inl rfl) rfl rfl (lb rfl) fun a S => ?_
  refine sBin (.bool (r8 != 0)) S (wN rfl) rfl rfl rfl (bNe _ _ _ _ .i64 r8 0) rfl (lb rfl) fun a S => ?_
  refine leafL (leafT (hK10 _ _ ?_))
  rcases iteSome h with ⟨hc11, h⟩ | ⟨hc11, h⟩
  · refine sCondT S rfl hc11 ?_
    refine sSeq (fun K12 hK12 => ?_)
    refine sRegion ?_
    refine sMove (iv r8) S (wN rfl) (.inl rfl) rfl rfl (lb rfl) fun a S => ?_
    refine sMove (.slice none 0 0) S (wN rfl) (.inr rfl) rfl rfl (lb rfl) fun a S => ?_
    refine sMove (iv r8) S (wN rfl) (.inr rfl) rfl rfl (lb rfl) fun a S => ?_
    refine leafL (leafT (hK12 _ _ ?_))
    obtain rfl := Option.some.inj h
    have S := S.learn (fRep (rL (rI .i64)) (.slice none 0 0) ([] : (List Int))) (rL_nil _ _ _)
    exact wp_ret (rThen (sRet (.tuple #[.slice none 0 0, iv r8]) S (rsl2 rfl (rvT (t := 4) (v := .slice none 0 0) S rfl) (rvT (t := 5) (v := iv r8) S rfl)) ⟨(.slice none 0 0), rfl, S.mem.sel [] [0] (by decide) rfl rfl⟩))
  refine sCondF S rfl hc11 ?_
  refine wp_skip (leafT (hK6 _ _ ?_))
  refine sSeq (fun K13 hK13 => ?_)
  refine sSeq (fun K14 hK14 => ?_)
  refine sRegion ?_
  refine sMove (.slice ad3 p1.length cp4) S (wN rfl) (.inl rfl) rfl rfl (lb rfl) fun a S => ?_
  obtain ⟨r15, hx16, h⟩ := bindSome h
  have S1 := S.mem
  refine sCallQ (X := Unit) (f := 58) (vs := [.slice ad3 p1.length cp4]) (val := fun _ => iv r15) S (wN rfl) rfl callee58 rfl (S1.quiet [1] rfl) (fun E1 w1 S1 => c_block_spelled E1 w1 p1 (.slice ad3 p1.length cp4) r15 hx16 S1) rfl (lb rfl) fun _ a w S => ?_
  refine sMove (iv r15) S (wN rfl) (.inr rfl) rfl rfl (lb rfl) fun a S => ?_
  refine leafL (leafT (hK14 _ _ ?_))
  refine sSeq (fun K17 hK17 => ?_)
  refine sRegion ?_
  refine sMove (iv r15) S (wN rfl) (.inl rfl) rfl rfl (lb rfl) fun a S => ?_
  refine sBin (.bool (r15 != 0)) S (wN rfl) rfl rfl rfl (bNe _ _ _ _ .i64 r15 0) rfl (lb rfl) fun a S => ?_
  refine leafL (leafT (hK17 _ _ ?_))
  rcases iteSome h with ⟨hc18, h⟩ | ⟨hc18, h⟩
  · refine sCondT S rfl hc18 ?_
    refine sSeq (fun K19 hK19 => ?_)
    refine sRegion ?_
    refine sMove (iv r15) S (wN rfl) (.inl rfl) rfl rfl (lb rfl) fun a S => ?_
    refine sMove (.slice none 0 0) S (wN rfl) (.inr rfl) rfl rfl (lb rfl) fun a S => ?_
    refine sMove (iv r15) S (wN rfl) (.inr rfl) rfl rfl (lb rfl) fun a S => ?_
    refine leafL (leafT (hK19 _ _ ?_))
    obtain rfl := Option.some.inj h
    have S := S.learn (fRep (rL (rI .i64)) (.slice none 0 0) ([] : (List Int))) (rL_nil _ _ _)
    exact wp_ret (rThen (sRet (.tuple #[.slice none 0 0, iv r15]) S (rsl2 rfl (rvT (t := 4) (v := .slice none 0 0) S rfl) (rvT (t := 5) (v := iv r15) S rfl)) ⟨(.slice none 0 0), rfl, S.mem.sel [] [0] (by decide) rfl rfl⟩))
  refine sCondF S rfl hc18 ?_
  refine wp_skip (leafT (hK13 _ _ ?_))
  refine sSeq (fun K20 hK20 => ?_)
  refine sSeq (fun K21 hK21 => ?_)
  refine sRegion ?_
  refine sMove (.slice ad1 p0.length cp2) S (wN rfl) (.inl rfl) rfl rfl (lb rfl) fun a S => ?_
  refine sMove (.slice ad3 p1.length cp4) S (wN rfl) (.inl rfl) rfl rfl (lb rfl) fun a S => ?_
  refine sLen (ad := ad3) (m := p1.length) (c := cp4) S (wN rfl) rfl Try.underlying46 rfl rfl (lb rfl) fun a S => ?_
  obtain ⟨r22, hx23, h⟩ := bindSome h
  have S1 := S.mem
  refine sCallQ (X := Unit) (f := 56) (vs := [.slice ad1 p0.length cp2, iv (p1.length : Int)]) (val := fun _ => .bool r22) S (wN rfl) rfl callee56 rfl (S1.quiet [0] rfl) (fun E1 w1 S1 => c_block_index E1 w1 p0 (.slice ad1 p0.length cp2) (p1.length : Int) r22 hx23 S1) rfl (lb rfl) fun _ a w S => ?_
  refine sNot (b := r22) S (wN rfl) rfl rfl rfl (lb rfl) fun a S => ?_
  refine leafL (leafT (hK21 _ _ ?_))
  rcases iteSome h with ⟨hc24, h⟩ | ⟨hc24, h⟩
  · refine sCondT S rfl hc24 ?_
    refine sSeq (fun K25 hK25 => ?_)
    refine sRegion ?_
    refine sMove (.slice none 0 0) S (wN rfl) (.inr rfl) rfl rfl (lb rfl) fun a S => ?_
    refine sMove (iv 8) S (wN rfl) (.inr rfl) rfl rfl (lb rfl) fun a S => ?_
    refine leafL (leafT (hK25 _ _ ?_))
    obtain rfl := Option.some.inj h
    have S := S.learn (fRep (rL (rI .i64)) (.slice none 0 0) ([] : (List Int))) (rL_nil _ _ _)
    exact wp_ret (rThen (sRet (.tuple #[.slice none 0 0, iv 8]) S (rsl2 rfl (rvT (t := 4) (v := .slice none 0 0) S rfl) (rvT (t := 5) (v := iv 8) S rfl)) ⟨(.slice none 0 0), rfl, S.mem.sel [] [0] (by decide) rfl rfl⟩))
  refine sCondF S rfl hc24 ?_
  refine wp_skip (leafT (hK20 _ _ ?_))
  refine sSeq (fun K26 hK26 => ?_)
  refine sSeq (fun K27 hK27 => ?_)
  refine sRegion ?_
  refine sMove (.slice ad1 p0.length cp2) S (wN rfl) (.inl rfl) rfl rfl (lb rfl) fun a S => ?_
  refine sLen (ad := ad1) (m := p0.length) (c := cp2) S (wN rfl) rfl Try.underlying35 rfl rfl (lb rfl) fun a S => ?_
  refine sMove (.slice ad3 p1.length cp4) S (wN rfl) (.inl rfl) rfl rfl (lb rfl) fun a S => ?_
  obtain ⟨x28, hx29, h⟩ := bindSome h
  obtain ⟨q30, hq31, S⟩ := pIdx (P := Try.prog) (r := (rL (rI .i64))) (v := .slice ad3 p1.length cp4) (xs := p1) (j := 0) 46 35 1 S Try.underlying46 rfl rfl hx29
  refine sIdxV (v := .slice ad3 p1.length cp4) (k := .i64) (j := 0) S (wN rfl) rfl rfl rfl hq31 rfl (lb rfl) fun a S => ?_
  obtain ⟨u32, S⟩ := pLoad (r := (rL (rI .i64))) (q := q30) (x := x28) 0 S rfl
  obtain ⟨ad33, cp34, _, rfl, _⟩ := S.mem.know (i := 1) (e := fRep (rL (rI .i64)) (u32) x28) rfl
  refine sLoadV1 (vq := q30) 0 (.slice ad33 x28.length cp34) S (wN rfl) rfl rfl rfl rfl rfl (lb rfl) fun a S => ?_
  refine sLen (ad := ad33) (m := x28.length) (c := cp34) S (wN rfl) rfl Try.underlying35 rfl rfl (lb rfl) fun a S => ?_
  refine sBin (iv (w64 ((p0.length : Int) * (x28.length : Int)))) S (wN rfl) rfl rfl rfl (bMul _ _ _ _ (p0.length : Int) (x28.length : Int)) rfl (lb rfl) fun a S => ?_
  refine sBin (.bool (decide (400 < (w64 ((p0.length : Int) * (x28.length : Int)))))) S (wN rfl) rfl rfl rfl (bGt _ _ _ _ .i64 (w64 ((p0.length : Int) * (x28.length : Int))) 400) rfl (lb rfl) fun a S => ?_
  refine leafL (leafT (hK27 _ _ ?_))
  rcases iteSome h with ⟨hc35, h⟩ | ⟨hc35, h⟩
  · refine sCondT S rfl hc35 ?_
    refine sSeq (fun K36 hK36 => ?_)
    refine sRegion ?_
    refine sMove (.slice none 0 0) S (wN rfl) (.inr rfl) rfl rfl (lb rfl) fun a S => ?_
    refine sMove (iv 4) S (wN rfl) (.inr rfl) rfl rfl (lb rfl) fun a S => ?_
    refine leafL (leafT (hK36 _ _ ?_))
    obtain rfl := Option.some.inj h
    have S := S.learn (fRep (rL (rI .i64)) (.slice none 0 0) ([] : (List Int))) (rL_nil _ _ _)
    exact wp_ret (rThen (sRet (.tuple #[.slice none 0 0, iv 4]) S (rsl2 rfl (rvT (t := 4) (v := .slice none 0 0) S rfl) (rvT (t := 5) (v := iv 4) S rfl)) ⟨(.slice none 0 0), rfl, S.mem.sel [] [0] (by decide) rfl rfl⟩))
  refine sCondF S rfl hc35 ?_
  refine wp_skip (leafT (hK26 _ _ ?_))
  refine sSeq (fun K37 hK37 => ?_)
  refine sRegion ?_
  refine sMove (.slice none 0 0) S (wN rfl) (.inr rfl) rfl rfl (lb rfl) fun a S => ?_
  refine leafL (leafT (hK37 _ _ ?_))
  obtain ⟨t41, h, g42⟩ := bindSome h
  refine sCut (fun a w => ∃ o38, o38 = t41 ∧ ∃ ad39, ∃ cp40, St [] E [] w0 48 a w [(8, .slice ad39 o38.length cp40)] [eRow (rI .i64) 3 (.slice ad39 o38.length cp40) o38] []) ?_ (fun a w hI => ?_)
  rotate_left
  · obtain ⟨o38, rfl, ad39, cp40, S⟩ := hI
    have h := g42
    clear g42
    try dsimp only at h
    refine sSeq (fun K75 hK75 => ?_)
    refine sRegion ?_
    refine sMove (.slice ad39 o38.length cp40) S (wN rfl) (.inl rfl) rfl rfl (lb rfl) fun a S => ?_
    refine sMove (.slice ad39 o38.length cp40) S (wN rfl) (.inr rfl) rfl rfl (lb rfl) fun a S => ?_
    refine sMove (iv 0) S (wN rfl) (.inr rfl) rfl rfl (lb rfl) fun a S => ?_
    refine leafL (leafT (hK75 _ _ ?_))
    obtain rfl := Option.some.inj h
    have S := S.shutR (r := (rI .i64)) (T := 3) (v := .slice ad39 o38.length cp40) (xs := o38) 0 rfl
    exact wp_ret (sRet (.tuple #[.slice ad39 o38.length cp40, iv 0]) S (rsl2 rfl (rvT (t := 4) (v := .slice ad39 o38.length cp40) S rfl) (rvT (t := 5) (v := iv 0) S rfl)) ⟨(.slice ad39 o38.length cp40), rfl, S.mem.sel [] [0] (by decide) rfl rfl⟩)
  refine sSeq (fun K43 hK43 => ?_)
  refine sRegion ?_
  refine sMove (.slice ad1 p0.length cp2) S (wN rfl) (.inl rfl) rfl rfl (lb rfl) fun a S => ?_
  refine sLen (ad := ad1) (m := p0.length) (c := cp2) S (wN rfl) rfl Try.underlying35 rfl rfl (lb rfl) fun a S => ?_
  refine sMove (iv 0) S (wN rfl) (.inl rfl) rfl rfl (lb rfl) fun a S => ?_
  refine leafL (leafT (hK43 _ _ ?_))
  refine wp_block ?_
  have S := S.nilRow (rI .i64) 3 (α := Int)
  obtain ⟨t50, hl, g49⟩ := bindSome h
  refine sLoop hl (fun s0 a w => match s0 with | (s44, s47) => ∃ ad45, ∃ cp46, St [] E [] w0 48 a w [(1, .slice ad3 p1.length cp4), (8, .slice ad45 s44.length cp46), (34, .slice ad1 p0.length cp2), (35, iv (p0.length : Int)), (36, iv s47)] [eRow (rI .i64) 3 (.slice ad45 s44.length cp46) s44] [fRep (rL (rL (rI .i64))) (.slice ad3 p1.length cp4) p1, fRep (rL (rI .i64)) (.slice ad1 p0.length cp2) p0]) ⟨none, 0, S.fix [0] [4, 3] (by decide) rfl rfl rfl⟩ ?_
  clear hl h
  intro s0 a w c0 hI h hu48
  obtain ⟨s44, s47⟩ := s0
  unfold block_Spell_l1 at h
  dsimp only at h hI
  obtain ⟨ad45, cp46, S⟩ := hI
  refine sSeq (fun K54 hK54 => ?_)
  refine sRegion ?_
  refine sBin (.bool (decide (s47 < (p0.length : Int)))) S (wN rfl) rfl rfl rfl (bLt _ _ _ _ .i64 s47 (p0.length : Int)) rfl (lb rfl) fun a S => ?_
  refine leafL (leafT (hK54 _ _ ?_))
  refine sSeq (fun K55 hK55 => ?_)
  rcases iteSome h with ⟨hc56, h⟩ | ⟨hc56, h⟩
  rotate_left
  · refine sCondF S rfl hc56 ?_
    obtain rfl := Option.some.inj h
    obtain rfl := hu48 _ rfl
    have h := g49
    clear g49
    try dsimp only at h
    exact wp_exit (xThen (xThen (xHit (leafT (⟨s44, Option.some.inj h, ad45, cp46, S.fix [0] [] (by decide) rfl rfl rfl⟩)))))
  refine sCondT S rfl hc56 ?_
  refine wp_skip (leafT (hK55 _ _ ?_))
  refine sSeq (fun K57 hK57 => ?_)
  refine wp_block ?_
  refine sSeq (fun K58 hK58 => ?_)
  refine sRegion ?_
  obtain ⟨x59, hx60, h⟩ := bindSome h
  obtain ⟨q61, hq62, S⟩ := pIdx (P := Try.prog) (r := (rI .i64)) (v := .slice ad1 p0.length cp2) (xs := p0) (j := s47) 35 3 1 S Try.underlying35 rfl rfl hx60
  refine sIdxV (v := .slice ad1 p0.length cp2) (k := .i64) (j := s47) S (wN rfl) rfl rfl rfl hq62 rfl (lb rfl) fun a S => ?_
  obtain ⟨u63, S⟩ := pLoad (r := (rI .i64)) (q := q61) (x := x59) 0 S rfl
  obtain rfl : u63 = iv x59 := S.mem.know (i := 1) (e := fRep (rI .i64) (u63) x59) rfl
  refine sLoadV1 (vq := q61) 0 (iv x59) S (wN rfl) rfl rfl rfl rfl rfl (lb rfl) fun a S => ?_
  refine sMove (iv x59) S (wN rfl) (.inr rfl) rfl rfl (lb rfl) fun a S => ?_
  refine leafL (leafT (hK58 _ _ ?_))
  refine sRegion ?_
  refine sMove (.slice ad45 s44.length cp46) S (wN rfl) (.inl rfl) rfl rfl (lb rfl) fun a S => ?_
  refine sMove (.slice ad3 p1.length cp4) S (wN rfl) (.inl rfl) rfl rfl (lb rfl) fun a S => ?_
  refine sMove (iv x59) S (wN rfl) (.inl rfl) rfl rfl (lb rfl) fun a S => ?_
  obtain ⟨x64, hx65, h⟩ := bindSome h
  obtain ⟨q66, hq67, S⟩ := pIdx (P := Try.prog) (r := (rL (rI .i64))) (v := .slice ad3 p1.length cp4) (xs := p1) (j := x59) 46 35 3 S Try.underlying46 rfl rfl hx65
  refine sIdxV (v := .slice ad3 p1.length cp4) (k := .i64) (j := x59) S (wN rfl) rfl rfl rfl hq67 rfl (lb rfl) fun a S => ?_
  obtain ⟨u68, S⟩ := pLoad (r := (rL (rI .i64))) (q := q66) (x := x64) 0 S rfl
  obtain ⟨ad69, cp70, _, rfl, _⟩ := S.mem.know (i := 1) (e := fRep (rL (rI .i64)) (u68) x64) rfl
  refine sLoadV1 (vq := q66) 0 (.slice ad69 x64.length cp70) S (wN rfl) rfl rfl rfl rfl rfl (lb rfl) fun a S => ?_
  obtain ⟨l71, hx72, h⟩ := bindSome h
  refine sApp (r := (rI .i64)) (T := 3) (xs := s44) (ys := x64) (v := .slice ad45 s44.length cp46) (u := .slice ad69 x64.length cp70) 0 (iv 0) 8 S (wN rfl) rfl Try.underlying35 rfl rfl (by decide) rfl rfl rfl (src_D 1 S.mem rfl) hx72 rfl (lb rfl) fun a w ad73 cp74 S => ?_
  refine sMove (.slice ad73 l71.length cp74) S (wN rfl) (.inr rfl) rfl rfl (lb rfl) fun a S => ?_
  refine leafL (leafB (leafT (hK57 _ _ ?_)))
  refine sRegion ?_
  refine sBin (iv (w64 (s47 + 1))) S (wN rfl) rfl rfl rfl (bAdd _ _ _ _ s47 1) rfl (lb rfl) fun a S => ?_
  refine sMove (iv (w64 (s47 + 1))) S (wN rfl) (.inl rfl) rfl rfl (lb rfl) fun a S => ?_
  exact leafL (leafT (⟨(l71, w64 (s47 + 1)), (Option.some.inj h).symm, ⟨ad73, cp74, S.fix [0] [6, 7] (by decide) rfl rfl rfl⟩⟩))

end Go.Proofs.Ythfifeabomdlpaa
namespace Go.Proofs.Ythfifeabomdlpaa
open Go.RowKit
set_option linter.unusedVariables false

noncomputable def F_raddlelaw13_row (p0 : (List Bool)) : Option api_Grid :=
  some (api_Grid.mk (p0.length : Int) 1 p0)
def c_raddlelaw13_row_val (r : api_Grid) (x : Value) : Value := x
def c_raddlelaw13_row_D (r : api_Grid) (x : Value) : List Fact := [fRep r_api_Grid x r]
set_option maxHeartbeats 4000000 in
set_option maxRecDepth 100000 in
theorem c_raddlelaw13_row (E : Nat → Prop) (w0 : World) (p0 : (List Bool)) (v0 : Value) (r : api_Grid) (h : F_raddlelaw13_row p0 = some r) (S : St0 E [] w0 w0 [] [fRep (rL rB) (v0) p0]) :
    Calls Try.prog 39 #[v0] w0 (Ret (X := Value) E [] w0 (c_raddlelaw13_row_val r) (fun _ => []) (c_raddlelaw13_row_D r)) := by
  unfold F_raddlelaw13_row at h
  obtain ⟨ad1, cp2, _, rfl, _⟩ := S.know (i := 0) (e := fRep (rL rB) (v0) p0) rfl
  refine sEnter (args := [.slice ad1 p0.length cp2]) 7 Try.func39 rfl rfl (by simp) S (fun a S => ?_)
  refine sSeq (fun K3 hK3 => ?_)
  refine sRegion ?_
  refine sAlloc (.agg #[iv 0, iv 0, .slice none 0 0]) S (wN rfl) rfl rfl [iv 0, iv 0, .slice none 0 0] rfl rfl (lb rfl) fun a b4 w S => ?_
  refine leafL (leafT (hK3 _ _ ?_))
  refine sSeq (fun K5 hK5 => ?_)
  refine sRegion ?_
  refine sMove (.slice ad1 p0.length cp2) S (wN rfl) (.inl rfl) rfl rfl (lb rfl) fun a S => ?_
  refine sLen (ad := ad1) (m := p0.length) (c := cp2) S (wN rfl) rfl Try.underlying22 rfl rfl (lb rfl) fun a S => ?_
  refine sMove (.slice ad1 p0.length cp2) S (wN rfl) (.inl rfl) rfl rfl (lb rfl) fun a S => ?_
  refine sBuild [(0, iv (p0.length : Int)), (1, iv 1), (2, .slice ad1 p0.length cp2)] [iv (p0.length : Int), iv 1, .slice ad1 p0.length cp2] S (wN rfl) rfl rfl rfl rfl (lb rfl) fun a S => ?_
  refine sStore (p := b4) (off := 0) (T := 24) (vs := [iv 0, iv 0, .slice none 0 0]) (v := .agg #[iv (p0.length : Int), iv 1, .slice ad1 p0.length cp2]) 0 [iv (p0.length : Int), iv 1, .slice ad1 p0.length cp2] S (wN rfl) rfl rfl rfl rfl rfl rfl rfl (by simp) rfl fun a w S => ?_
  refine leafL (leafT (hK5 _ _ ?_))
  obtain rfl := Option.some.inj h
  have S := S.learn (fRep r_api_Grid (.agg #[iv (p0.length : Int), iv 1, .slice ad1 p0.length cp2]) (api_Grid.mk (p0.length : Int) 1 p0)) ⟨_, rfl, S.mem.know (i := 0) (e := fRep (rL rB) (.slice ad1 p0.length cp2) p0) rfl⟩
  exact wp_ret (sRet (.agg #[iv (p0.length : Int), iv 1, .slice ad1 p0.length cp2]) S (rsl1 rfl (rvN (c := 2) (t := 24) (T := 24) (p := b4) 0 [iv (p0.length : Int), iv 1, .slice ad1 p0.length cp2] S rfl rfl rfl rfl)) ⟨(.agg #[iv (p0.length : Int), iv 1, .slice ad1 p0.length cp2]), rfl, S.mem.sel [] [0] (by decide) rfl rfl⟩)

end Go.Proofs.Ythfifeabomdlpaa
namespace Go.Proofs.Ythfifeabomdlpaa
open Go.RowKit
set_option linter.unusedVariables false

noncomputable def F_raddleref01_Zero (p0 : Int) (p1 : Int) : Option api_Grid :=
  Option.bind (makeO (w64 (p0 * p1)) false) fun m6 =>
  some (api_Grid.mk p0 p1 m6)
def c_raddleref01_Zero_val (r : api_Grid) (x : Value) : Value := x
def c_raddleref01_Zero_D (r : api_Grid) (x : Value) : List Fact := [fRep r_api_Grid x r]
set_option maxHeartbeats 4000000 in
set_option maxRecDepth 100000 in
theorem c_raddleref01_Zero (E : Nat → Prop) (w0 : World) (p0 : Int) (p1 : Int) (r : api_Grid) (h : F_raddleref01_Zero p0 p1 = some r) (S : St0 E [] w0 w0 [] []) :
    Calls Try.prog 40 #[iv p0, iv p1] w0 (Ret (X := Value) E [] w0 (c_raddleref01_Zero_val r) (fun _ => []) (c_raddleref01_Zero_D r)) := by
  unfold F_raddleref01_Zero at h
  refine sEnter (args := [iv p0, iv p1]) 12 Try.func40 rfl rfl (by simp) S (fun a S => ?_)
  refine sSeq (fun K1 hK1 => ?_)
  refine sRegion ?_
  refine sAlloc (.agg #[iv 0, iv 0, .slice none 0 0]) S (wN rfl) rfl rfl [iv 0, iv 0, .slice none 0 0] rfl rfl (lb rfl) fun a b2 w S => ?_
  refine leafL (leafT (hK1 _ _ ?_))
  refine sSeq (fun K3 hK3 => ?_)
  refine sRegion ?_
  refine sMove (iv p0) S (wN rfl) (.inl rfl) rfl rfl (lb rfl) fun a S => ?_
  refine sMove (iv p1) S (wN rfl) (.inl rfl) rfl rfl (lb rfl) fun a S => ?_
  refine sMove (iv p0) S (wN rfl) (.inl rfl) rfl rfl (lb rfl) fun a S => ?_
  refine sMove (iv p1) S (wN rfl) (.inl rfl) rfl rfl (lb rfl) fun a S => ?_
  refine sBin (iv (w64 (p0 * p1))) S (wN rfl) rfl rfl rfl (bMul _ _ _ _ p0 p1) rfl (lb rfl) fun a S => ?_
  obtain ⟨m6, hx7, h⟩ := bindSome h
  refine sMake (r := rB) (m := w64 (p0 * p1)) (xs := m6) (.bool false) false 1 S (wN rfl) rfl Try.underlying22 rfl rfl (by decide) (fun _ _ => rfl) rfl rfl hx7 rfl (lb rfl) fun a w ad4 cp5 S => ?_
  refine sBuild [(0, iv p0), (1, iv p1), (2, .slice ad4 m6.length cp5)] [iv p0, iv p1, .slice ad4 m6.length cp5] S (wN rfl) rfl rfl rfl rfl (lb rfl) fun a S => ?_
  refine sStore (p := b2) (off := 0) (T := 24) (vs := [iv 0, iv 0, .slice none 0 0]) (v := .agg #[iv p0, iv p1, .slice ad4 m6.length cp5]) 1 [iv p0, iv p1, .slice ad4 m6.length cp5] S (wN rfl) rfl rfl rfl rfl rfl rfl rfl (by simp) rfl fun a w S => ?_
  refine leafL (leafT (hK3 _ _ ?_))
  obtain rfl := Option.some.inj h
  have S := S.shutR (r := rB) (T := 4) (v := .slice ad4 m6.length cp5) (xs := m6) 1 rfl
  have S := S.learn (fRep r_api_Grid (.agg #[iv p0, iv p1, .slice ad4 m6.length cp5]) (api_Grid.mk p0 p1 m6)) ⟨_, rfl, S.mem.know (i := 0) (e := fRep (rL rB) (.slice ad4 m6.length cp5) m6) rfl⟩
  exact wp_ret (sRet (.agg #[iv p0, iv p1, .slice ad4 m6.length cp5]) S (rsl1 rfl (rvN (c := 4) (t := 24) (T := 24) (p := b2) 0 [iv p0, iv p1, .slice ad4 m6.length cp5] S rfl rfl rfl rfl)) ⟨(.agg #[iv p0, iv p1, .slice ad4 m6.length cp5]), rfl, S.mem.sel [] [0] (by decide) rfl rfl⟩)

end Go.Proofs.Ythfifeabomdlpaa
namespace Go.Proofs.Ythfifeabomdlpaa
open Go.RowKit
set_option linter.unusedVariables false

def K_raddlelaw13_row (p0 : (List Bool)) : Option api_Grid :=
  some (api_Grid.mk (p0.length : Int) 1 p0)
def K_grid_Check (p0 : api_Grid) : Option Int :=
  if decide (64 < (if p0.W < p0.H then p0.H else p0.W)) then
    some 4
  else
    Option.bind (α := Bool) (
      if decide ((if p0.H < p0.W then p0.H else p0.W) < 1) then
        some true
      else
        some ((p0.Bits.length : Int) != (w64 (p0.W * p0.H)))) fun o11 =>
    if o11 then
      some 8
    else
      some 0
def K_block_checked_l1 (p0 : (List api_Grid)) : Int → Option (Int ⊕ (Int ⊕ Unit)) := fun s0 => match s0 with
  | s7 =>
    if decide (s7 < (p0.length : Int)) then
      Option.bind (idxO p0 s7) fun x16 =>
      Option.bind (K_grid_Check x16) fun r27 =>
      if r27 != 0 then
        some (.inr (.inl r27))
      else
        some (.inl (w64 (s7 + 1)))
    else
      some (.inr (.inr ()))
def K_block_checked (p0 : (List api_Grid)) : Option Int :=
  Option.bind (α := Unit ⊕ Int) (
    Option.bind (whileK (K_block_checked_l1 p0) 0) fun z0 => match z0 with
      | .inl z =>
        some (.inr z)
      | .inr _ =>
        some (.inl ())) fun z0 => match z0 with
    | .inl _ =>
      some 0
    | .inr z =>
      some z
def K_block_alike (p0 : api_Grid) (p1 : api_Grid) : Option Bool :=
  Option.bind (α := Bool) (
    if p0.W == p1.W then
      some (p0.H == p1.H)
    else
      some false) fun o12 =>
  some o12
def K_block_zero_s0 (p0 : Int) (p1 : Int) : Option (api_Grid × Int) :=
  Option.bind (α := Bool) (
    if decide (64 < p0) then
      some true
    else
      some (decide (64 < p1))) fun o4 =>
  if o4 then
    some ((api_Grid.mk 0 0 ([] : (List Bool))), 4)
  else
    Option.bind (makeO (w64 (p0 * p1)) false) fun m13 =>
    some ((api_Grid.mk p0 p1 m13), 0)
def K_block_put_s0_l1 (p3 : api_Grid) (p5 : Int) (p0 : Int) (p4 : Int) : (Int × List Bool) → Option ((Int × List Bool) ⊕ List Bool) := fun s0 => match s0 with
  | (s9, s10) =>
    if decide (s9 < p3.H) then
      Option.bind (α := List Bool) (
        Option.bind (sliceO s10 (w64 ((w64 ((w64 ((w64 (p5 * p3.H)) + s9)) * p0)) + (w64 (p4 * p3.W)))) (s10.length : Int)) fun y22 =>
        Option.bind (sliceO p3.Bits (w64 (s9 * p3.W)) (w64 ((w64 (s9 + 1)) * p3.W))) fun y26 =>
        some (cpA s10 (w64 ((w64 ((w64 ((w64 (p5 * p3.H)) + s9)) * p0)) + (w64 (p4 * p3.W)))).toNat ((s10.length : Int)).toNat y26)) fun o18 =>
      some (.inl (w64 (s9 + 1), o18))
    else
      some (.inr s10)
def K_block_put_s0 (p0 : Int) (p1 : Int) (p2 : (List Bool)) (p3 : api_Grid) (p4 : Int) (p5 : Int) : Option (List Bool) :=
  Option.bind (whileK (K_block_put_s0_l1 p3 p5 p0 p4) (0, p2)) fun e14 =>
    (keepO p2 e14).bind fun _ =>
    some e14
def K_block_Fill_l1 (p0 : api_Grid) (p1 : api_Grid) (p2 : api_Grid) (r34 : (api_Grid × Int)) : (Int × List Bool) → Option ((Int × List Bool) ⊕ List Bool) := fun s0 => match s0 with
  | (s47, s48) =>
    if decide (s47 < (p0.Bits.length : Int)) then
      Option.bind (idxO p0.Bits s47) fun x58 =>
      Option.bind (α := (Int × Int × List Bool)) (
        if x58 then
          some (p1.W, p1.H, p1.Bits)
        else
          some (p2.W, p2.H, p2.Bits)) fun (o65, o66, o67) =>
      Option.bind (remI s47 p0.W) fun z74 =>
      Option.bind (quoI s47 p0.W) fun z76 =>
      Option.bind (K_block_put_s0 r34.1.W r34.1.H s48 (api_Grid.mk o65 o66 o67) z74 z76) fun r78 =>
      some (.inl (w64 (s47 + 1), r78))
    else
      some (.inr s48)
def K_block_Fill (p0 : api_Grid) (p1 : api_Grid) (p2 : api_Grid) : Option (api_Grid × Int) :=
  Option.bind (K_block_checked [p0, p1, p2]) fun r22 =>
  if r22 != 0 then
    some ((api_Grid.mk 0 0 ([] : (List Bool))), r22)
  else
    Option.bind (K_block_alike p1 p2) fun r29 =>
    if !r29 then
      some ((api_Grid.mk 0 0 ([] : (List Bool))), 26)
    else
      Option.bind (K_block_zero_s0 (w64 (p0.W * p1.W)) (w64 (p0.H * p1.H))) fun r34 =>
      if r34.2 != 0 then
        some ((api_Grid.mk 0 0 ([] : (List Bool))), r34.2)
      else
        Option.bind (α := List Bool) (
          Option.bind (whileK (K_block_Fill_l1 p0 p1 p2 r34) (0, r34.1.Bits)) fun e52 =>
            some e52) fun o43 =>
        some ((api_Grid.mk r34.1.W r34.1.H o43), 0)
def K_raddleref01_Zero (p0 : Int) (p1 : Int) : Option api_Grid :=
  Option.bind (makeO (w64 (p0 * p1)) false) fun m6 =>
  some (api_Grid.mk p0 p1 m6)
def K_block_part_l1 (p2 : Int) (p0 : api_Grid) (p4 : Int) (p3 : Int) (p1 : Int) : (Int × List Bool) → Option ((Int × List Bool) ⊕ List Bool) := fun s0 => match s0 with
  | (s16, s17) =>
    if decide (s16 < p2) then
      Option.bind (sliceO p0.Bits (w64 ((w64 ((w64 ((w64 (p4 * p2)) + s16)) * p0.W)) + (w64 (p3 * p1)))) (w64 ((w64 ((w64 ((w64 ((w64 (p4 * p2)) + s16)) * p0.W)) + (w64 (p3 * p1)))) + p1))) fun y32 =>
      Option.bind (appO s17 y32) fun l36 =>
      some (.inl (w64 (s16 + 1), l36))
    else
      some (.inr s17)
def K_block_part (p0 : api_Grid) (p1 : Int) (p2 : Int) (p3 : Int) (p4 : Int) : Option api_Grid :=
  Option.bind (α := List Bool) (
    Option.bind (whileK (K_block_part_l1 p2 p0 p4 p3 p1) (0, ([] : List Bool))) fun e23 =>
      some e23) fun o10 =>
  some (api_Grid.mk p1 p2 o10)
def K_slices_Equal___bool_bool__l1 (p0 : (List Bool)) (p1 : (List Bool)) : Int → Option (Int ⊕ (Bool ⊕ Unit)) := fun s0 => match s0 with
  | s13 =>
    if decide (s13 < (p0.length : Int)) then
      Option.bind (idxO p0 s13) fun x23 =>
      Option.bind (idxO p1 s13) fun x28 =>
      if x23 != x28 then
        some (.inr (.inl false))
      else
        some (.inl (w64 (s13 + 1)))
    else
      some (.inr (.inr ()))
def K_slices_Equal___bool_bool_ (p0 : (List Bool)) (p1 : (List Bool)) : Option Bool :=
  if (p0.length : Int) != (p1.length : Int) then
    some false
  else
    Option.bind (α := Unit ⊕ Bool) (
      Option.bind (whileK (K_slices_Equal___bool_bool__l1 p0 p1) 0) fun z0 => match z0 with
        | .inl z =>
          some (.inr z)
        | .inr _ =>
          some (.inl ())) fun z0 => match z0 with
      | .inl _ =>
        some true
      | .inr z =>
        some z
def K_grid_Same (p0 : api_Grid) (p1 : api_Grid) : Option Bool :=
  Option.bind (α := Bool) (
    if p0.W == p1.W then
      if p0.H == p1.H then
        Option.bind (K_slices_Equal___bool_bool_ p0.Bits p1.Bits) fun r17 =>
        some r17
      else
        some false
    else
      some false) fun o12 =>
  some o12
def K_block_Units_1_s0 (p0 : api_Grid) (p1 : api_Grid) : Option Bool :=
  Option.bind (K_grid_Same p0 p1) fun r13 =>
  some r13
def K_slices_IndexFunc___api_Grid_api_Grid__s0_l1 (p0 : (List api_Grid)) (p1 : api_Grid) : Int → Option (Int ⊕ (Int ⊕ Unit)) := fun s0 => match s0 with
  | s7 =>
    if decide (s7 < (p0.length : Int)) then
      Option.bind (idxO p0 s7) fun x17 =>
      Option.bind (K_block_Units_1_s0 x17 p1) fun r26 =>
      if r26 then
        some (.inr (.inl s7))
      else
        some (.inl (w64 (s7 + 1)))
    else
      some (.inr (.inr ()))
def K_slices_IndexFunc___api_Grid_api_Grid__s0 (p0 : (List api_Grid)) (p1 : api_Grid) : Option Int :=
  Option.bind (α := Unit ⊕ Int) (
    Option.bind (whileK (K_slices_IndexFunc___api_Grid_api_Grid__s0_l1 p0 p1) 0) fun z0 => match z0 with
      | .inl z =>
        some (.inr z)
      | .inr _ =>
        some (.inl ())) fun z0 => match z0 with
    | .inl _ =>
      some (-1)
    | .inr z =>
      some z
def K_block_Units_l1 (z69 : Int) (p0 : api_Grid) (p1 : Int) (p2 : Int) (s46 : Int) : (List api_Grid × List Int × Int) → Option ((List api_Grid × List Int × Int) ⊕ (List api_Grid × List Int)) := fun s0 => match s0 with
  | (s71, s74, s77) =>
    if decide (s77 < z69) then
      Option.bind (K_block_part p0 p1 p2 s77 s46) fun r93 =>
      Option.bind (K_slices_IndexFunc___api_Grid_api_Grid__s0 s71 r93) fun r102 =>
      Option.bind (α := (List api_Grid × Int)) (
        if decide (r102 < 0) then
          Option.bind (appO s71 [r93]) fun l115 =>
          some (l115, (s71.length : Int))
        else
          some (s71, r102)) fun (o104, o107) =>
      Option.bind (appO s74 ([o107] : List Int)) fun l121 =>
      some (.inl (o104, l121, w64 (s77 + 1)))
    else
      some (.inr (s71, s74))
def K_block_Units_l2 (z38 : Int) (p0 : api_Grid) (p1 : Int) (p2 : Int) : (List api_Grid × List Int × Int) → Option ((List api_Grid × List Int × Int) ⊕ (List api_Grid × List Int)) := fun s0 => match s0 with
  | (s40, s43, s46) =>
    if decide (s46 < z38) then
      Option.bind (α := (List api_Grid × List Int)) (
        Option.bind (quoI p0.W p1) fun z69 =>
        Option.bind (whileK (K_block_Units_l1 z69 p0 p1 p2 s46) (s40, s43, 0)) fun (e81, e84) =>
          some (e81, e84)) fun (o59, o62) =>
      some (.inl (o59, o62, w64 (s46 + 1)))
    else
      some (.inr (s40, s43))
def K_block_Units (p0 : api_Grid) (p1 : Int) (p2 : Int) : Option ((List api_Grid) × (List Int) × Int) :=
  Option.bind (K_block_checked [p0]) fun r11 =>
  if r11 != 0 then
    some (([] : (List api_Grid)), ([] : (List Int)), r11)
  else
    Option.bind (α := Bool) (
      if decide (p1 < 1) then
        some true
      else
        if decide (p2 < 1) then
          some true
        else
          Option.bind (remI p0.W p1) fun z22 =>
          if z22 != 0 then
            some true
          else
            Option.bind (remI p0.H p2) fun z25 =>
            some (z25 != 0)) fun o17 =>
    if o17 then
      some (([] : (List api_Grid)), ([] : (List Int)), 26)
    else
      Option.bind (α := (List api_Grid × List Int)) (
        Option.bind (quoI p0.H p2) fun z38 =>
        Option.bind (whileK (K_block_Units_l2 z38 p0 p1 p2) (([] : List api_Grid), ([] : List Int), 0)) fun (e50, e53) =>
          some (e50, e53)) fun (o29, o32) =>
      some (o29, o32, 0)
def K_thread_check_l1 (x17 : (List Int)) : Int → Option (Int ⊕ (Int ⊕ Unit)) := fun s0 => match s0 with
  | s29 =>
    if decide (s29 < (x17.length : Int)) then
      Option.bind (idxO x17 s29) fun x38 =>
      Option.bind (α := Bool) (
        if decide (x38 < 0) then
          some true
        else
          some (decide (400 ≤ x38))) fun o43 =>
      if o43 then
        some (.inr (.inl 8))
      else
        some (.inl (w64 (s29 + 1)))
    else
      some (.inr (.inr ()))
def K_thread_check_l2 (p0 : (List (List Int))) : Int → Option (Int ⊕ (Int ⊕ Unit)) := fun s0 => match s0 with
  | s7 =>
    if decide (s7 < (p0.length : Int)) then
      Option.bind (α := Unit ⊕ Int) (
        Option.bind (idxO p0 s7) fun x17 =>
        if decide (400 < (x17.length : Int)) then
          some (.inr 4)
        else
          Option.bind (whileK (K_thread_check_l1 x17) 0) fun z0 => match z0 with
            | .inl z =>
              some (.inr z)
            | .inr _ =>
              some (.inl ())) fun z0 => match z0 with
        | .inl _ =>
          some (.inl (w64 (s7 + 1)))
        | .inr z =>
          some (.inr (.inl z))
    else
      some (.inr (.inr ()))
def K_thread_check (p0 : (List (List Int))) : Option Int :=
  Option.bind (α := Unit ⊕ Int) (
    Option.bind (whileK (K_thread_check_l2 p0) 0) fun z0 => match z0 with
      | .inl z =>
        some (.inr z)
      | .inr _ =>
        some (.inl ())) fun z0 => match z0 with
    | .inl _ =>
      some 0
    | .inr z =>
      some z
def K_thread_Check (p0 : (List Int)) : Option Int :=
  Option.bind (K_thread_check [p0]) fun r7 =>
  some r7
def K_block_spelled_l1 (p0 : (List (List Int))) : Int → Option (Int ⊕ (Int ⊕ Unit)) := fun s0 => match s0 with
  | s15 =>
    if decide (s15 < (p0.length : Int)) then
      Option.bind (idxO p0 s15) fun x24 =>
      Option.bind (K_thread_Check x24) fun r32 =>
      if r32 != 0 then
        some (.inr (.inl r32))
      else
        some (.inl (w64 (s15 + 1)))
    else
      some (.inr (.inr ()))
def K_block_spelled_1_s0 (p0 : (List Int)) (p1 : (List (List Int))) : Option Bool :=
  Option.bind (idxO p1 0) fun x8 =>
  some ((p0.length : Int) != (x8.length : Int))
def K_slices_IndexFunc_____int___int__s0_l1 (p0 : (List (List Int))) (p1 : (List (List Int))) : Int → Option (Int ⊕ (Int ⊕ Unit)) := fun s0 => match s0 with
  | s7 =>
    if decide (s7 < (p0.length : Int)) then
      Option.bind (idxO p0 s7) fun x17 =>
      Option.bind (K_block_spelled_1_s0 x17 p1) fun r24 =>
      if r24 then
        some (.inr (.inl s7))
      else
        some (.inl (w64 (s7 + 1)))
    else
      some (.inr (.inr ()))
def K_slices_IndexFunc_____int___int__s0 (p0 : (List (List Int))) (p1 : (List (List Int))) : Option Int :=
  Option.bind (α := Unit ⊕ Int) (
    Option.bind (whileK (K_slices_IndexFunc_____int___int__s0_l1 p0 p1) 0) fun z0 => match z0 with
      | .inl z =>
        some (.inr z)
      | .inr _ =>
        some (.inl ())) fun z0 => match z0 with
    | .inl _ =>
      some (-1)
    | .inr z =>
      some z
def K_slices_ContainsFunc_____int___int__s0 (p0 : (List (List Int))) (p1 : (List (List Int))) : Option Bool :=
  Option.bind (K_slices_IndexFunc_____int___int__s0 p0 p1) fun r5 =>
  some (decide (0 ≤ r5))
def K_block_spelled (p0 : (List (List Int))) : Option Int :=
  Option.bind (α := Bool) (
    if (p0.length : Int) == 0 then
      some true
    else
      some (decide (400 < (p0.length : Int)))) fun o6 =>
  if o6 then
    some 2
  else
    Option.bind (α := Unit ⊕ Int) (
      Option.bind (whileK (K_block_spelled_l1 p0) 0) fun z0 => match z0 with
        | .inl z =>
          some (.inr z)
        | .inr _ =>
          some (.inl ())) fun z0 => match z0 with
      | .inl _ =>
        Option.bind (α := Bool) (
          Option.bind (idxO p0 0) fun x41 =>
          if (x41.length : Int) == 0 then
            some true
          else
            Option.bind (K_slices_ContainsFunc_____int___int__s0 p0 p0) fun r49 =>
            some r49) fun o38 =>
        if o38 then
          some 26
        else
          some 0
      | .inr z =>
        some z
def K_block_index_1_s0 (p0 : Int) (p1 : Int) : Option Bool :=
  Option.bind (α := Bool) (
    if decide (p0 < 0) then
      some true
    else
      some (decide (p1 ≤ p0))) fun o2 =>
  some o2
def K_slices_IndexFunc___int_int__s0_l1 (p0 : (List Int)) (p1 : Int) : Int → Option (Int ⊕ (Int ⊕ Unit)) := fun s0 => match s0 with
  | s7 =>
    if decide (s7 < (p0.length : Int)) then
      Option.bind (idxO p0 s7) fun x17 =>
      Option.bind (K_block_index_1_s0 x17 p1) fun r22 =>
      if r22 then
        some (.inr (.inl s7))
      else
        some (.inl (w64 (s7 + 1)))
    else
      some (.inr (.inr ()))
def K_slices_IndexFunc___int_int__s0 (p0 : (List Int)) (p1 : Int) : Option Int :=
  Option.bind (α := Unit ⊕ Int) (
    Option.bind (whileK (K_slices_IndexFunc___int_int__s0_l1 p0 p1) 0) fun z0 => match z0 with
      | .inl z =>
        some (.inr z)
      | .inr _ =>
        some (.inl ())) fun z0 => match z0 with
    | .inl _ =>
      some (-1)
    | .inr z =>
      some z
def K_slices_ContainsFunc___int_int__s0 (p0 : (List Int)) (p1 : Int) : Option Bool :=
  Option.bind (K_slices_IndexFunc___int_int__s0 p0 p1) fun r5 =>
  some (decide (0 ≤ r5))
def K_block_index (p0 : (List Int)) (p1 : Int) : Option Bool :=
  Option.bind (K_slices_ContainsFunc___int_int__s0 p0 p1) fun r6 =>
  some (!r6)
def K_block_Spell_l1 (p0 : (List Int)) (p1 : (List (List Int))) : (List Int × Int) → Option ((List Int × Int) ⊕ List Int) := fun s0 => match s0 with
  | (s44, s47) =>
    if decide (s47 < (p0.length : Int)) then
      Option.bind (idxO p0 s47) fun x59 =>
      Option.bind (idxO p1 x59) fun x64 =>
      Option.bind (appO s44 x64) fun l71 =>
      some (.inl (l71, w64 (s47 + 1)))
    else
      some (.inr s44)
def K_block_Spell (p0 : (List Int)) (p1 : (List (List Int))) : Option ((List Int) × Int) :=
  Option.bind (K_thread_Check p0) fun r8 =>
  if r8 != 0 then
    some (([] : (List Int)), r8)
  else
    Option.bind (K_block_spelled p1) fun r15 =>
    if r15 != 0 then
      some (([] : (List Int)), r15)
    else
      Option.bind (K_block_index p0 (p1.length : Int)) fun r22 =>
      if !r22 then
        some (([] : (List Int)), 8)
      else
        Option.bind (idxO p1 0) fun x28 =>
        if decide (400 < (w64 ((p0.length : Int) * (x28.length : Int)))) then
          some (([] : (List Int)), 4)
        else
          Option.bind (α := List Int) (
            Option.bind (whileK (K_block_Spell_l1 p0 p1) (([] : List Int), 0)) fun e51 =>
              some e51) fun o38 =>
          some (o38, 0)
def K_raddleref01_Same_l1 (p0 : api_Grid) (p1 : api_Grid) : Int → Option (Int ⊕ (Bool ⊕ Unit)) := fun s0 => match s0 with
  | s23 =>
    if decide (s23 < (p0.Bits.length : Int)) then
      Option.bind (idxO p0.Bits s23) fun x32 =>
      Option.bind (idxO p1.Bits s23) fun x37 =>
      if x32 != x37 then
        some (.inr (.inl false))
      else
        some (.inl (w64 (s23 + 1)))
    else
      some (.inr (.inr ()))
def K_raddleref01_Same (p0 : api_Grid) (p1 : api_Grid) : Option Bool :=
  Option.bind (α := Bool) (
    if p0.W != p1.W then
      some true
    else
      if p0.H != p1.H then
        some true
      else
        some ((p0.Bits.length : Int) != (p1.Bits.length : Int))) fun o13 =>
  if o13 then
    some false
  else
    Option.bind (α := Unit ⊕ Bool) (
      Option.bind (whileK (K_raddleref01_Same_l1 p0 p1) 0) fun z0 => match z0 with
        | .inl z =>
          some (.inr z)
        | .inr _ =>
          some (.inl ())) fun z0 => match z0 with
      | .inl _ =>
        some true
      | .inr z =>
        some z
def K_raddleref02_Same_l1 (p0 : (List Int)) (p1 : (List Int)) : Int → Option (Int ⊕ (Bool ⊕ Unit)) := fun s0 => match s0 with
  | s13 =>
    if decide (s13 < (p0.length : Int)) then
      Option.bind (idxO p0 s13) fun x22 =>
      Option.bind (idxO p1 s13) fun x27 =>
      if x22 != x27 then
        some (.inr (.inl false))
      else
        some (.inl (w64 (s13 + 1)))
    else
      some (.inr (.inr ()))
def K_raddleref02_Same (p0 : (List Int)) (p1 : (List Int)) : Option Bool :=
  if (p0.length : Int) != (p1.length : Int) then
    some false
  else
    Option.bind (α := Unit ⊕ Bool) (
      Option.bind (whileK (K_raddleref02_Same_l1 p0 p1) 0) fun z0 => match z0 with
        | .inl z =>
          some (.inr z)
        | .inr _ =>
          some (.inl ())) fun z0 => match z0 with
      | .inl _ =>
        some true
      | .inr z =>
        some z
theorem m_F_raddlelaw13_row (p0 : (List Bool)) : Le (K_raddlelaw13_row p0) (F_raddlelaw13_row p0) := by
  unfold K_raddlelaw13_row F_raddlelaw13_row
  with_reducible repeat' (first | exact Le.rfl _ | refine Le.loop _ ?_ | refine Le.bind ?_ ?_ | refine Le.ite ?_ ?_ | refine Le.sum ?_ ?_ | refine Le.prod ?_ | intro _ | exact Empty.elim (by assumption) | dsimp only)
theorem m_F_grid_Check (p0 : api_Grid) : Le (K_grid_Check p0) (F_grid_Check p0) := by
  unfold K_grid_Check F_grid_Check
  with_reducible repeat' (first | exact Le.rfl _ | refine Le.loop _ ?_ | refine Le.bind ?_ ?_ | refine Le.ite ?_ ?_ | refine Le.sum ?_ ?_ | refine Le.prod ?_ | intro _ | exact Empty.elim (by assumption) | dsimp only)
theorem m_block_checked_l1 (p0 : (List api_Grid)) : ∀ s, Le (K_block_checked_l1 p0 s) (block_checked_l1 p0 s) := by
  unfold K_block_checked_l1 block_checked_l1
  with_reducible repeat' (first | exact m_F_grid_Check _ | exact Le.rfl _ | refine Le.loop _ ?_ | refine Le.bind ?_ ?_ | refine Le.ite ?_ ?_ | refine Le.sum ?_ ?_ | refine Le.prod ?_ | intro _ | exact Empty.elim (by assumption) | dsimp only)
theorem m_F_block_checked (p0 : (List api_Grid)) : Le (K_block_checked p0) (F_block_checked p0) := by
  unfold K_block_checked F_block_checked
  with_reducible repeat' (first | exact m_block_checked_l1 _ | exact Le.rfl _ | refine Le.loop _ ?_ | refine Le.bind ?_ ?_ | refine Le.ite ?_ ?_ | refine Le.sum ?_ ?_ | refine Le.prod ?_ | intro _ | exact Empty.elim (by assumption) | dsimp only)
theorem m_F_block_alike (p0 : api_Grid) (p1 : api_Grid) : Le (K_block_alike p0 p1) (F_block_alike p0 p1) := by
  unfold K_block_alike F_block_alike
  with_reducible repeat' (first | exact Le.rfl _ | refine Le.loop _ ?_ | refine Le.bind ?_ ?_ | refine Le.ite ?_ ?_ | refine Le.sum ?_ ?_ | refine Le.prod ?_ | intro _ | exact Empty.elim (by assumption) | dsimp only)
theorem m_F_block_zero_s0 (p0 : Int) (p1 : Int) : Le (K_block_zero_s0 p0 p1) (F_block_zero_s0 p0 p1) := by
  unfold K_block_zero_s0 F_block_zero_s0
  with_reducible repeat' (first | exact Le.rfl _ | refine Le.loop _ ?_ | refine Le.bind ?_ ?_ | refine Le.ite ?_ ?_ | refine Le.sum ?_ ?_ | refine Le.prod ?_ | intro _ | exact Empty.elim (by assumption) | dsimp only)
theorem m_block_put_s0_l1 (p3 : api_Grid) (p5 : Int) (p0 : Int) (p4 : Int) : ∀ s, Le (K_block_put_s0_l1 p3 p5 p0 p4 s) (block_put_s0_l1 p3 p5 p0 p4 s) := by
  unfold K_block_put_s0_l1 block_put_s0_l1
  with_reducible repeat' (first | exact Le.rfl _ | refine Le.loop _ ?_ | refine Le.bind ?_ ?_ | refine Le.ite ?_ ?_ | refine Le.sum ?_ ?_ | refine Le.prod ?_ | intro _ | exact Empty.elim (by assumption) | dsimp only)
theorem m_F_block_put_s0 (p0 : Int) (p1 : Int) (p2 : (List Bool)) (p3 : api_Grid) (p4 : Int) (p5 : Int) : Le (K_block_put_s0 p0 p1 p2 p3 p4 p5) (F_block_put_s0 p0 p1 p2 p3 p4 p5) := by
  unfold K_block_put_s0 F_block_put_s0
  with_reducible repeat' (first | exact m_block_put_s0_l1 _ _ _ _ | exact Le.rfl _ | refine Le.loop _ ?_ | refine Le.bind ?_ ?_ | refine Le.ite ?_ ?_ | refine Le.sum ?_ ?_ | refine Le.prod ?_ | intro _ | exact Empty.elim (by assumption) | dsimp only)
theorem m_block_Fill_l1 (p0 : api_Grid) (p1 : api_Grid) (p2 : api_Grid) (r34 : (api_Grid × Int)) : ∀ s, Le (K_block_Fill_l1 p0 p1 p2 r34 s) (block_Fill_l1 p0 p1 p2 r34 s) := by
  unfold K_block_Fill_l1 block_Fill_l1
  with_reducible repeat' (first | exact m_F_block_put_s0 _ _ _ _ _ _ | exact Le.rfl _ | refine Le.loop _ ?_ | refine Le.bind ?_ ?_ | refine Le.ite ?_ ?_ | refine Le.sum ?_ ?_ | refine Le.prod ?_ | intro _ | exact Empty.elim (by assumption) | dsimp only)
theorem m_F_block_Fill (p0 : api_Grid) (p1 : api_Grid) (p2 : api_Grid) : Le (K_block_Fill p0 p1 p2) (F_block_Fill p0 p1 p2) := by
  unfold K_block_Fill F_block_Fill
  with_reducible repeat' (first | exact m_F_block_checked _ | exact m_F_block_alike _ _ | exact m_F_block_zero_s0 _ _ | exact m_block_Fill_l1 _ _ _ _ | exact Le.rfl _ | refine Le.loop _ ?_ | refine Le.bind ?_ ?_ | refine Le.ite ?_ ?_ | refine Le.sum ?_ ?_ | refine Le.prod ?_ | intro _ | exact Empty.elim (by assumption) | dsimp only)
theorem m_F_raddleref01_Zero (p0 : Int) (p1 : Int) : Le (K_raddleref01_Zero p0 p1) (F_raddleref01_Zero p0 p1) := by
  unfold K_raddleref01_Zero F_raddleref01_Zero
  with_reducible repeat' (first | exact Le.rfl _ | refine Le.loop _ ?_ | refine Le.bind ?_ ?_ | refine Le.ite ?_ ?_ | refine Le.sum ?_ ?_ | refine Le.prod ?_ | intro _ | exact Empty.elim (by assumption) | dsimp only)
theorem m_block_part_l1 (p2 : Int) (p0 : api_Grid) (p4 : Int) (p3 : Int) (p1 : Int) : ∀ s, Le (K_block_part_l1 p2 p0 p4 p3 p1 s) (block_part_l1 p2 p0 p4 p3 p1 s) := by
  unfold K_block_part_l1 block_part_l1
  with_reducible repeat' (first | exact Le.rfl _ | refine Le.loop _ ?_ | refine Le.bind ?_ ?_ | refine Le.ite ?_ ?_ | refine Le.sum ?_ ?_ | refine Le.prod ?_ | intro _ | exact Empty.elim (by assumption) | dsimp only)
theorem m_F_block_part (p0 : api_Grid) (p1 : Int) (p2 : Int) (p3 : Int) (p4 : Int) : Le (K_block_part p0 p1 p2 p3 p4) (F_block_part p0 p1 p2 p3 p4) := by
  unfold K_block_part F_block_part
  with_reducible repeat' (first | exact m_block_part_l1 _ _ _ _ _ | exact Le.rfl _ | refine Le.loop _ ?_ | refine Le.bind ?_ ?_ | refine Le.ite ?_ ?_ | refine Le.sum ?_ ?_ | refine Le.prod ?_ | intro _ | exact Empty.elim (by assumption) | dsimp only)
theorem m_slices_Equal___bool_bool__l1 (p0 : (List Bool)) (p1 : (List Bool)) : ∀ s, Le (K_slices_Equal___bool_bool__l1 p0 p1 s) (slices_Equal___bool_bool__l1 p0 p1 s) := by
  unfold K_slices_Equal___bool_bool__l1 slices_Equal___bool_bool__l1
  with_reducible repeat' (first | exact Le.rfl _ | refine Le.loop _ ?_ | refine Le.bind ?_ ?_ | refine Le.ite ?_ ?_ | refine Le.sum ?_ ?_ | refine Le.prod ?_ | intro _ | exact Empty.elim (by assumption) | dsimp only)
theorem m_F_slices_Equal___bool_bool_ (p0 : (List Bool)) (p1 : (List Bool)) : Le (K_slices_Equal___bool_bool_ p0 p1) (F_slices_Equal___bool_bool_ p0 p1) := by
  unfold K_slices_Equal___bool_bool_ F_slices_Equal___bool_bool_
  with_reducible repeat' (first | exact m_slices_Equal___bool_bool__l1 _ _ | exact Le.rfl _ | refine Le.loop _ ?_ | refine Le.bind ?_ ?_ | refine Le.ite ?_ ?_ | refine Le.sum ?_ ?_ | refine Le.prod ?_ | intro _ | exact Empty.elim (by assumption) | dsimp only)
theorem m_F_grid_Same (p0 : api_Grid) (p1 : api_Grid) : Le (K_grid_Same p0 p1) (F_grid_Same p0 p1) := by
  unfold K_grid_Same F_grid_Same
  with_reducible repeat' (first | exact m_F_slices_Equal___bool_bool_ _ _ | exact Le.rfl _ | refine Le.loop _ ?_ | refine Le.bind ?_ ?_ | refine Le.ite ?_ ?_ | refine Le.sum ?_ ?_ | refine Le.prod ?_ | intro _ | exact Empty.elim (by assumption) | dsimp only)
theorem m_F_block_Units_1_s0 (p0 : api_Grid) (p1 : api_Grid) : Le (K_block_Units_1_s0 p0 p1) (F_block_Units_1_s0 p0 p1) := by
  unfold K_block_Units_1_s0 F_block_Units_1_s0
  with_reducible repeat' (first | exact m_F_grid_Same _ _ | exact Le.rfl _ | refine Le.loop _ ?_ | refine Le.bind ?_ ?_ | refine Le.ite ?_ ?_ | refine Le.sum ?_ ?_ | refine Le.prod ?_ | intro _ | exact Empty.elim (by assumption) | dsimp only)
theorem m_slices_IndexFunc___api_Grid_api_Grid__s0_l1 (p0 : (List api_Grid)) (p1 : api_Grid) : ∀ s, Le (K_slices_IndexFunc___api_Grid_api_Grid__s0_l1 p0 p1 s) (slices_IndexFunc___api_Grid_api_Grid__s0_l1 p0 p1 s) := by
  unfold K_slices_IndexFunc___api_Grid_api_Grid__s0_l1 slices_IndexFunc___api_Grid_api_Grid__s0_l1
  with_reducible repeat' (first | exact m_F_block_Units_1_s0 _ _ | exact Le.rfl _ | refine Le.loop _ ?_ | refine Le.bind ?_ ?_ | refine Le.ite ?_ ?_ | refine Le.sum ?_ ?_ | refine Le.prod ?_ | intro _ | exact Empty.elim (by assumption) | dsimp only)
theorem m_F_slices_IndexFunc___api_Grid_api_Grid__s0 (p0 : (List api_Grid)) (p1 : api_Grid) : Le (K_slices_IndexFunc___api_Grid_api_Grid__s0 p0 p1) (F_slices_IndexFunc___api_Grid_api_Grid__s0 p0 p1) := by
  unfold K_slices_IndexFunc___api_Grid_api_Grid__s0 F_slices_IndexFunc___api_Grid_api_Grid__s0
  with_reducible repeat' (first | exact m_slices_IndexFunc___api_Grid_api_Grid__s0_l1 _ _ | exact Le.rfl _ | refine Le.loop _ ?_ | refine Le.bind ?_ ?_ | refine Le.ite ?_ ?_ | refine Le.sum ?_ ?_ | refine Le.prod ?_ | intro _ | exact Empty.elim (by assumption) | dsimp only)
theorem m_block_Units_l1 (z69 : Int) (p0 : api_Grid) (p1 : Int) (p2 : Int) (s46 : Int) : ∀ s, Le (K_block_Units_l1 z69 p0 p1 p2 s46 s) (block_Units_l1 z69 p0 p1 p2 s46 s) := by
  unfold K_block_Units_l1 block_Units_l1
  with_reducible repeat' (first | exact m_F_block_part _ _ _ _ _ | exact m_F_slices_IndexFunc___api_Grid_api_Grid__s0 _ _ | exact Le.rfl _ | refine Le.loop _ ?_ | refine Le.bind ?_ ?_ | refine Le.ite ?_ ?_ | refine Le.sum ?_ ?_ | refine Le.prod ?_ | intro _ | exact Empty.elim (by assumption) | dsimp only)
theorem m_block_Units_l2 (z38 : Int) (p0 : api_Grid) (p1 : Int) (p2 : Int) : ∀ s, Le (K_block_Units_l2 z38 p0 p1 p2 s) (block_Units_l2 z38 p0 p1 p2 s) := by
  unfold K_block_Units_l2 block_Units_l2
  with_reducible repeat' (first | exact m_block_Units_l1 _ _ _ _ _ | exact Le.rfl _ | refine Le.loop _ ?_ | refine Le.bind ?_ ?_ | refine Le.ite ?_ ?_ | refine Le.sum ?_ ?_ | refine Le.prod ?_ | intro _ | exact Empty.elim (by assumption) | dsimp only)
theorem m_F_block_Units (p0 : api_Grid) (p1 : Int) (p2 : Int) : Le (K_block_Units p0 p1 p2) (F_block_Units p0 p1 p2) := by
  unfold K_block_Units F_block_Units
  with_reducible repeat' (first | exact m_F_block_checked _ | exact m_block_Units_l2 _ _ _ _ | exact Le.rfl _ | refine Le.loop _ ?_ | refine Le.bind ?_ ?_ | refine Le.ite ?_ ?_ | refine Le.sum ?_ ?_ | refine Le.prod ?_ | intro _ | exact Empty.elim (by assumption) | dsimp only)
theorem m_thread_check_l1 (x17 : (List Int)) : ∀ s, Le (K_thread_check_l1 x17 s) (thread_check_l1 x17 s) := by
  unfold K_thread_check_l1 thread_check_l1
  with_reducible repeat' (first | exact Le.rfl _ | refine Le.loop _ ?_ | refine Le.bind ?_ ?_ | refine Le.ite ?_ ?_ | refine Le.sum ?_ ?_ | refine Le.prod ?_ | intro _ | exact Empty.elim (by assumption) | dsimp only)
theorem m_thread_check_l2 (p0 : (List (List Int))) : ∀ s, Le (K_thread_check_l2 p0 s) (thread_check_l2 p0 s) := by
  unfold K_thread_check_l2 thread_check_l2
  with_reducible repeat' (first | exact m_thread_check_l1 _ | exact Le.rfl _ | refine Le.loop _ ?_ | refine Le.bind ?_ ?_ | refine Le.ite ?_ ?_ | refine Le.sum ?_ ?_ | refine Le.prod ?_ | intro _ | exact Empty.elim (by assumption) | dsimp only)
theorem m_F_thread_check (p0 : (List (List Int))) : Le (K_thread_check p0) (F_thread_check p0) := by
  unfold K_thread_check F_thread_check
  with_reducible repeat' (first | exact m_thread_check_l2 _ | exact Le.rfl _ | refine Le.loop _ ?_ | refine Le.bind ?_ ?_ | refine Le.ite ?_ ?_ | refine Le.sum ?_ ?_ | refine Le.prod ?_ | intro _ | exact Empty.elim (by assumption) | dsimp only)
theorem m_F_thread_Check (p0 : (List Int)) : Le (K_thread_Check p0) (F_thread_Check p0) := by
  unfold K_thread_Check F_thread_Check
  with_reducible repeat' (first | exact m_F_thread_check _ | exact Le.rfl _ | refine Le.loop _ ?_ | refine Le.bind ?_ ?_ | refine Le.ite ?_ ?_ | refine Le.sum ?_ ?_ | refine Le.prod ?_ | intro _ | exact Empty.elim (by assumption) | dsimp only)
theorem m_block_spelled_l1 (p0 : (List (List Int))) : ∀ s, Le (K_block_spelled_l1 p0 s) (block_spelled_l1 p0 s) := by
  unfold K_block_spelled_l1 block_spelled_l1
  with_reducible repeat' (first | exact m_F_thread_Check _ | exact Le.rfl _ | refine Le.loop _ ?_ | refine Le.bind ?_ ?_ | refine Le.ite ?_ ?_ | refine Le.sum ?_ ?_ | refine Le.prod ?_ | intro _ | exact Empty.elim (by assumption) | dsimp only)
theorem m_F_block_spelled_1_s0 (p0 : (List Int)) (p1 : (List (List Int))) : Le (K_block_spelled_1_s0 p0 p1) (F_block_spelled_1_s0 p0 p1) := by
  unfold K_block_spelled_1_s0 F_block_spelled_1_s0
  with_reducible repeat' (first | exact Le.rfl _ | refine Le.loop _ ?_ | refine Le.bind ?_ ?_ | refine Le.ite ?_ ?_ | refine Le.sum ?_ ?_ | refine Le.prod ?_ | intro _ | exact Empty.elim (by assumption) | dsimp only)
theorem m_slices_IndexFunc_____int___int__s0_l1 (p0 : (List (List Int))) (p1 : (List (List Int))) : ∀ s, Le (K_slices_IndexFunc_____int___int__s0_l1 p0 p1 s) (slices_IndexFunc_____int___int__s0_l1 p0 p1 s) := by
  unfold K_slices_IndexFunc_____int___int__s0_l1 slices_IndexFunc_____int___int__s0_l1
  with_reducible repeat' (first | exact m_F_block_spelled_1_s0 _ _ | exact Le.rfl _ | refine Le.loop _ ?_ | refine Le.bind ?_ ?_ | refine Le.ite ?_ ?_ | refine Le.sum ?_ ?_ | refine Le.prod ?_ | intro _ | exact Empty.elim (by assumption) | dsimp only)
theorem m_F_slices_IndexFunc_____int___int__s0 (p0 : (List (List Int))) (p1 : (List (List Int))) : Le (K_slices_IndexFunc_____int___int__s0 p0 p1) (F_slices_IndexFunc_____int___int__s0 p0 p1) := by
  unfold K_slices_IndexFunc_____int___int__s0 F_slices_IndexFunc_____int___int__s0
  with_reducible repeat' (first | exact m_slices_IndexFunc_____int___int__s0_l1 _ _ | exact Le.rfl _ | refine Le.loop _ ?_ | refine Le.bind ?_ ?_ | refine Le.ite ?_ ?_ | refine Le.sum ?_ ?_ | refine Le.prod ?_ | intro _ | exact Empty.elim (by assumption) | dsimp only)
theorem m_F_slices_ContainsFunc_____int___int__s0 (p0 : (List (List Int))) (p1 : (List (List Int))) : Le (K_slices_ContainsFunc_____int___int__s0 p0 p1) (F_slices_ContainsFunc_____int___int__s0 p0 p1) := by
  unfold K_slices_ContainsFunc_____int___int__s0 F_slices_ContainsFunc_____int___int__s0
  with_reducible repeat' (first | exact m_F_slices_IndexFunc_____int___int__s0 _ _ | exact Le.rfl _ | refine Le.loop _ ?_ | refine Le.bind ?_ ?_ | refine Le.ite ?_ ?_ | refine Le.sum ?_ ?_ | refine Le.prod ?_ | intro _ | exact Empty.elim (by assumption) | dsimp only)
theorem m_F_block_spelled (p0 : (List (List Int))) : Le (K_block_spelled p0) (F_block_spelled p0) := by
  unfold K_block_spelled F_block_spelled
  with_reducible repeat' (first | exact m_block_spelled_l1 _ | exact m_F_slices_ContainsFunc_____int___int__s0 _ _ | exact Le.rfl _ | refine Le.loop _ ?_ | refine Le.bind ?_ ?_ | refine Le.ite ?_ ?_ | refine Le.sum ?_ ?_ | refine Le.prod ?_ | intro _ | exact Empty.elim (by assumption) | dsimp only)
theorem m_F_block_index_1_s0 (p0 : Int) (p1 : Int) : Le (K_block_index_1_s0 p0 p1) (F_block_index_1_s0 p0 p1) := by
  unfold K_block_index_1_s0 F_block_index_1_s0
  with_reducible repeat' (first | exact Le.rfl _ | refine Le.loop _ ?_ | refine Le.bind ?_ ?_ | refine Le.ite ?_ ?_ | refine Le.sum ?_ ?_ | refine Le.prod ?_ | intro _ | exact Empty.elim (by assumption) | dsimp only)
theorem m_slices_IndexFunc___int_int__s0_l1 (p0 : (List Int)) (p1 : Int) : ∀ s, Le (K_slices_IndexFunc___int_int__s0_l1 p0 p1 s) (slices_IndexFunc___int_int__s0_l1 p0 p1 s) := by
  unfold K_slices_IndexFunc___int_int__s0_l1 slices_IndexFunc___int_int__s0_l1
  with_reducible repeat' (first | exact m_F_block_index_1_s0 _ _ | exact Le.rfl _ | refine Le.loop _ ?_ | refine Le.bind ?_ ?_ | refine Le.ite ?_ ?_ | refine Le.sum ?_ ?_ | refine Le.prod ?_ | intro _ | exact Empty.elim (by assumption) | dsimp only)
theorem m_F_slices_IndexFunc___int_int__s0 (p0 : (List Int)) (p1 : Int) : Le (K_slices_IndexFunc___int_int__s0 p0 p1) (F_slices_IndexFunc___int_int__s0 p0 p1) := by
  unfold K_slices_IndexFunc___int_int__s0 F_slices_IndexFunc___int_int__s0
  with_reducible repeat' (first | exact m_slices_IndexFunc___int_int__s0_l1 _ _ | exact Le.rfl _ | refine Le.loop _ ?_ | refine Le.bind ?_ ?_ | refine Le.ite ?_ ?_ | refine Le.sum ?_ ?_ | refine Le.prod ?_ | intro _ | exact Empty.elim (by assumption) | dsimp only)
theorem m_F_slices_ContainsFunc___int_int__s0 (p0 : (List Int)) (p1 : Int) : Le (K_slices_ContainsFunc___int_int__s0 p0 p1) (F_slices_ContainsFunc___int_int__s0 p0 p1) := by
  unfold K_slices_ContainsFunc___int_int__s0 F_slices_ContainsFunc___int_int__s0
  with_reducible repeat' (first | exact m_F_slices_IndexFunc___int_int__s0 _ _ | exact Le.rfl _ | refine Le.loop _ ?_ | refine Le.bind ?_ ?_ | refine Le.ite ?_ ?_ | refine Le.sum ?_ ?_ | refine Le.prod ?_ | intro _ | exact Empty.elim (by assumption) | dsimp only)
theorem m_F_block_index (p0 : (List Int)) (p1 : Int) : Le (K_block_index p0 p1) (F_block_index p0 p1) := by
  unfold K_block_index F_block_index
  with_reducible repeat' (first | exact m_F_slices_ContainsFunc___int_int__s0 _ _ | exact Le.rfl _ | refine Le.loop _ ?_ | refine Le.bind ?_ ?_ | refine Le.ite ?_ ?_ | refine Le.sum ?_ ?_ | refine Le.prod ?_ | intro _ | exact Empty.elim (by assumption) | dsimp only)
theorem m_block_Spell_l1 (p0 : (List Int)) (p1 : (List (List Int))) : ∀ s, Le (K_block_Spell_l1 p0 p1 s) (block_Spell_l1 p0 p1 s) := by
  unfold K_block_Spell_l1 block_Spell_l1
  with_reducible repeat' (first | exact Le.rfl _ | refine Le.loop _ ?_ | refine Le.bind ?_ ?_ | refine Le.ite ?_ ?_ | refine Le.sum ?_ ?_ | refine Le.prod ?_ | intro _ | exact Empty.elim (by assumption) | dsimp only)
theorem m_F_block_Spell (p0 : (List Int)) (p1 : (List (List Int))) : Le (K_block_Spell p0 p1) (F_block_Spell p0 p1) := by
  unfold K_block_Spell F_block_Spell
  with_reducible repeat' (first | exact m_F_thread_Check _ | exact m_F_block_spelled _ | exact m_F_block_index _ _ | exact m_block_Spell_l1 _ _ | exact Le.rfl _ | refine Le.loop _ ?_ | refine Le.bind ?_ ?_ | refine Le.ite ?_ ?_ | refine Le.sum ?_ ?_ | refine Le.prod ?_ | intro _ | exact Empty.elim (by assumption) | dsimp only)
theorem m_raddleref01_Same_l1 (p0 : api_Grid) (p1 : api_Grid) : ∀ s, Le (K_raddleref01_Same_l1 p0 p1 s) (raddleref01_Same_l1 p0 p1 s) := by
  unfold K_raddleref01_Same_l1 raddleref01_Same_l1
  with_reducible repeat' (first | exact Le.rfl _ | refine Le.loop _ ?_ | refine Le.bind ?_ ?_ | refine Le.ite ?_ ?_ | refine Le.sum ?_ ?_ | refine Le.prod ?_ | intro _ | exact Empty.elim (by assumption) | dsimp only)
theorem m_F_raddleref01_Same (p0 : api_Grid) (p1 : api_Grid) : Le (K_raddleref01_Same p0 p1) (F_raddleref01_Same p0 p1) := by
  unfold K_raddleref01_Same F_raddleref01_Same
  with_reducible repeat' (first | exact m_raddleref01_Same_l1 _ _ | exact Le.rfl _ | refine Le.loop _ ?_ | refine Le.bind ?_ ?_ | refine Le.ite ?_ ?_ | refine Le.sum ?_ ?_ | refine Le.prod ?_ | intro _ | exact Empty.elim (by assumption) | dsimp only)
theorem m_raddleref02_Same_l1 (p0 : (List Int)) (p1 : (List Int)) : ∀ s, Le (K_raddleref02_Same_l1 p0 p1 s) (raddleref02_Same_l1 p0 p1 s) := by
  unfold K_raddleref02_Same_l1 raddleref02_Same_l1
  with_reducible repeat' (first | exact Le.rfl _ | refine Le.loop _ ?_ | refine Le.bind ?_ ?_ | refine Le.ite ?_ ?_ | refine Le.sum ?_ ?_ | refine Le.prod ?_ | intro _ | exact Empty.elim (by assumption) | dsimp only)
theorem m_F_raddleref02_Same (p0 : (List Int)) (p1 : (List Int)) : Le (K_raddleref02_Same p0 p1) (F_raddleref02_Same p0 p1) := by
  unfold K_raddleref02_Same F_raddleref02_Same
  with_reducible repeat' (first | exact m_raddleref02_Same_l1 _ _ | exact Le.rfl _ | refine Le.loop _ ?_ | refine Le.bind ?_ ?_ | refine Le.ite ?_ ?_ | refine Le.sum ?_ ?_ | refine Le.prod ?_ | intro _ | exact Empty.elim (by assumption) | dsimp only)
set_option maxRecDepth 1000000 in
theorem kc_raddlelaw13_alive_0 : F_raddlelaw13_row [true, false] = some (api_Grid.mk 2 1 [true, false]) := m_F_raddlelaw13_row _ _ (by kernel_rfl)
set_option maxRecDepth 1000000 in
theorem kc_raddlelaw13_alive_1 : F_raddlelaw13_row [true] = some (api_Grid.mk 1 1 [true]) := m_F_raddlelaw13_row _ _ (by kernel_rfl)
set_option maxRecDepth 1000000 in
theorem kc_raddlelaw13_alive_2 : F_raddlelaw13_row [false] = some (api_Grid.mk 1 1 [false]) := m_F_raddlelaw13_row _ _ (by kernel_rfl)
set_option maxRecDepth 1000000 in
theorem kc_raddlelaw13_alive_3 : F_block_Fill ((api_Grid.mk 2 1 [true, false])) ((api_Grid.mk 1 1 [true])) ((api_Grid.mk 1 1 [false])) = some ((api_Grid.mk 2 1 [true, false]), 0) := m_F_block_Fill _ _ _ _ (by kernel_rfl)
set_option maxRecDepth 1000000 in
theorem kc_raddlelaw13_alive_4 : F_raddleref01_Zero 2 2 = some (api_Grid.mk 2 2 [false, false, false, false]) := m_F_raddleref01_Zero _ _ _ (by kernel_rfl)
set_option maxRecDepth 1000000 in
theorem kc_raddlelaw13_alive_5 : F_block_Fill ((api_Grid.mk 2 1 [true, false])) ((api_Grid.mk 2 2 [false, false, false, false])) ((api_Grid.mk 2 2 [false, false, false, false])) = some ((api_Grid.mk 4 2 [false, false, false, false, false, false, false, false]), 0) := m_F_block_Fill _ _ _ _ (by kernel_rfl)
set_option maxRecDepth 1000000 in
theorem kc_raddlelaw13_alive_6 : F_block_Units (api_Grid.mk 4 2 [true, true, false, false, true, true, false, false]) 2 2 = some ([(api_Grid.mk 2 2 [true, true, true, true]), (api_Grid.mk 2 2 [false, false, false, false])], ([0, 1], 0)) := m_F_block_Units _ _ _ _ (by kernel_rfl)
set_option maxRecDepth 1000000 in
theorem kc_raddlelaw13_alive_7 : F_block_Spell ([0, 1, 0] : List Int) [([0, 1] : List Int), ([2, 3] : List Int)] = some ([0, 1, 2, 3, 0, 1], 0) := m_F_block_Spell _ _ _ (by kernel_rfl)
set_option maxRecDepth 1000000 in
theorem kc_raddlelaw13_alive_8 : F_raddleref01_Same (((api_Grid.mk 2 1 [true, false]), 0)).1 ((api_Grid.mk 2 1 [true, false])) = some true := m_F_raddleref01_Same _ _ _ (by kernel_rfl)
set_option maxRecDepth 1000000 in
theorem kc_raddlelaw13_alive_9 : F_raddleref02_Same (([(api_Grid.mk 2 2 [true, true, true, true]), (api_Grid.mk 2 2 [false, false, false, false])], ([0, 1], 0))).2.1 ([0, 1] : List Int) = some true := m_F_raddleref02_Same _ _ _ (by kernel_rfl)
set_option maxRecDepth 1000000 in
theorem kc_raddlelaw13_alive_10 : F_raddleref02_Same (([0, 1, 2, 3, 0, 1], 0)).1 ([0, 1, 2, 3, 0, 1] : List Int) = some true := m_F_raddleref02_Same _ _ _ (by kernel_rfl)
end Go.Proofs.Ythfifeabomdlpaa
namespace Go.Proofs.Ythfifeabomdlpaa
open Go.RowKit
set_option linter.unusedVariables false

def anc_raddlelaw13_alive_0 : List (List Nat) := [[], [], [1], [], [1, 2, 3], [0, 1, 2, 3, 4], [0, 1, 2, 3, 4, 5], [0, 1, 2, 3, 4, 5, 6], [0, 1, 2, 3, 4, 5, 6], [], [0, 1, 2, 3, 4, 5, 6, 7, 9], [0, 1, 2, 3, 4, 5, 6, 7, 8, 9, 10]]
def anc_raddlelaw13_alive_1 : List (List Nat) := [[], [], [1], [0, 1, 2], [0, 1, 2, 3], [0, 1, 2, 3, 4], [0, 1, 2, 3, 4], [], [0, 1, 2, 3, 4, 5, 7], [0, 1, 2, 3, 4, 5, 6, 7, 8]]
noncomputable def F_raddlelaw13_alive  : Option Bool :=
  Option.bind (F_raddlelaw13_row [true, false]) fun r5 =>
  Option.bind (F_raddlelaw13_row [true]) fun r16 =>
  Option.bind (F_raddlelaw13_row [false]) fun r25 =>
  Option.bind (F_block_Fill r5 r16 r25) fun r32 =>
  Option.bind (F_raddleref01_Zero 2 2) fun r61 =>
  Option.bind (F_block_Fill r5 r61 r61) fun r73 =>
  Option.bind (F_block_Units (api_Grid.mk 4 2 [true, true, false, false, true, true, false, false]) 2 2) fun r102 =>
  Option.bind (F_block_Spell ([0, 1, 0] : List Int) [([0, 1] : List Int), ([2, 3] : List Int)]) fun r119 =>
  if r32.2 == 0 then
    Option.bind (F_raddleref01_Same r32.1 r5) fun r126 =>
    if r126 then
      if r73.2 == 0 then
        if r73.1.W == 4 then
          if r73.1.H == 2 then
            if r102.2.2 == 0 then
              if (r102.1.length : Int) == 2 then
                Option.bind (F_raddleref02_Same r102.2.1 ([0, 1] : List Int)) fun r136 =>
                if r136 then
                  if r119.2 == 0 then
                    Option.bind (F_raddleref02_Same r119.1 ([0, 1, 2, 3, 0, 1] : List Int)) fun r142 =>
                    some r142
                  else
                    none
                else
                  none
              else
                none
            else
              none
          else
            none
        else
          none
      else
        none
    else
      none
  else
    none
set_option maxHeartbeats 4000000 in
set_option maxRecDepth 100000 in
theorem c_raddlelaw13_alive (E : Nat → Prop) (w0 : World)  (r : Bool) (h : F_raddlelaw13_alive  = some r) (S : St0 E [] w0 w0 [] []) :
    Calls Try.prog 31 #[] w0 (Ret (X := Unit) E [] w0 (fun _ => .bool r) (fun _ => []) (fun _ => [])) := by
  unfold F_raddlelaw13_alive at h
  refine sEnter (args := []) 90 Try.func31 rfl rfl (by simp) S (fun a S => ?_)
  refine sSeq (fun K1 hK1 => ?_)
  refine sRegion ?_
  refine sMove (.bool false) S (wN rfl) (.inr rfl) rfl rfl (lb rfl) fun a S => ?_
  refine leafL (leafT (hK1 _ _ ?_))
  refine sSeq (fun K2 hK2 => ?_)
  refine sRegion ?_
  refine sLit (r := rB) (T := 4) (xs := [true, false]) [(0, .bool true), (1, .bool false)] 2 [.bool true, .bool false] [.bool true, .bool false] (.bool false) 1 S (wN rfl) rfl rfl Try.underlying22 rfl (by decide) (by decide) (by kernel_rfl) rfl (fun E1 w1 hE => All.cons rfl (All.cons rfl (All.nil _ _ _))) rfl rfl (lb rfl) fun a w ad3 cp4 S => ?_
  obtain ⟨r5, hx6, h⟩ := bindSome h
  have hv_r5 : r5 = (api_Grid.mk 2 1 [true, false]) := Option.some.inj (hx6.symm.trans (by exact kc_raddlelaw13_alive_0))
  have S := S.shutR (r := rB) (T := 4) (v := .slice ad3 [true, false].length cp4) (xs := [true, false]) 0 rfl
  refine sCall (X := Value) (f := 39) (vs := [.slice ad3 [true, false].length cp4]) (val := c_raddlelaw13_row_val r5) (B' := fun _ => []) (D' := c_raddlelaw13_row_D r5) [] [] [fRep (rL rB) (.slice ad3 [true, false].length cp4) [true, false]] [] [0] S (wN rfl) rfl callee39 rfl (by decide) rfl rfl (fun E1 w1 S1 => c_raddlelaw13_row E1 w1 [true, false] (.slice ad3 [true, false].length cp4) r5 hx6 S1) rfl (lb rfl) fun u7 a w S => ?_
  obtain ⟨u8, rfl, hu9⟩ := S.mem.know (i := 0) (e := fRep r_api_Grid (u7) r5) rfl
  have S := S.learn (fRep (rL rB) u8 r5.Bits) hu9
  obtain ⟨ad10, cp11, _, rfl, _⟩ := hu9
  refine sAlloc (.agg #[iv 0, iv 0, .slice none 0 0]) S (wN rfl) rfl rfl [iv 0, iv 0, .slice none 0 0] rfl rfl (lb rfl) fun a b12 w S => ?_
  refine sStore (p := b12) (off := 0) (T := 24) (vs := [iv 0, iv 0, .slice none 0 0]) (v := .agg #[iv r5.W, iv r5.H, .slice ad10 r5.Bits.length cp11]) 0 [iv r5.W, iv r5.H, .slice ad10 r5.Bits.length cp11] S (wN rfl) rfl rfl rfl rfl rfl rfl rfl (by simp) rfl fun a w S => ?_
  refine leafL (leafT (hK2 _ _ ?_))
  refine sSeq (fun K13 hK13 => ?_)
  obtain ⟨r16, hx17, h⟩ := bindSome h
  have hv_r16 : r16 = (api_Grid.mk 1 1 [true]) := Option.some.inj (hx17.symm.trans (by exact kc_raddlelaw13_alive_1))
  obtain ⟨r25, hx26, h⟩ := bindSome h
  have hv_r25 : r25 = (api_Grid.mk 1 1 [false]) := Option.some.inj (hx26.symm.trans (by exact kc_raddlelaw13_alive_2))
  obtain ⟨r32, hx33, h⟩ := bindSome h
  have hv_r32 : r32 = ((api_Grid.mk 2 1 [true, false]), 0) := Option.some.inj (hx33.symm.trans (by rw [hv_r5, hv_r16, hv_r25]; exact kc_raddlelaw13_alive_3))
  refine sDraw (nf := [1, 2, 3, 4, 5, 9, 10]) (W := [(0, 15, .agg #[iv r5.W, iv r5.H, .slice ad10 r5.Bits.length cp11])]) rfl S ?_
  refine nodeCut (fun N W L D => ∀ b59 ad57 cp58 ad52 cp53 ad47 cp48 ad45 cp46 ad40 cp41, N [9, 5, 4, 3, 2, 1] ((9, 2, .pointer (some ⟨b59, 0, none⟩)) :: (6, 14, .tuple #[.agg #[iv r32.1.W, iv r32.1.H, .slice ad57 r32.1.Bits.length cp58], iv r32.2]) :: (7, 21, .agg #[iv r32.1.W, iv r32.1.H, .slice ad57 r32.1.Bits.length cp58]) :: (8, 22, iv r32.2) :: (5, 20, .tuple #[.agg #[iv r32.1.W, iv r32.1.H, .slice ad57 r32.1.Bits.length cp58], iv r32.2]) :: (4, 19, .agg #[iv r25.W, iv r25.H, .slice ad52 r25.Bits.length cp53]) :: (3, 18, .slice ad47 [false].length cp48) :: (2, 17, .agg #[iv r16.W, iv r16.H, .slice ad45 r16.Bits.length cp46]) :: (1, 16, .slice ad40 [true].length cp41) :: W) ((eBox b59 24 [iv 0, iv 0, .slice none 0 0]) :: L) ((fRep (rL rB) (.slice ad57 r32.1.Bits.length cp58) r32.1.Bits) :: (fRep r_api_Grid (.agg #[iv r32.1.W, iv r32.1.H, .slice ad57 r32.1.Bits.length cp58]) r32.1) :: (fRep (rL rB) (.slice ad52 r25.Bits.length cp53) r25.Bits) :: (fRep r_api_Grid (.agg #[iv r25.W, iv r25.H, .slice ad52 r25.Bits.length cp53]) r25) :: (fRep (rL rB) (.slice ad47 [false].length cp48) [false]) :: (fRep (rL rB) (.slice ad45 r16.Bits.length cp46) r16.Bits) :: (fRep r_api_Grid (.agg #[iv r16.W, iv r16.H, .slice ad45 r16.Bits.length cp46]) r16) :: (fRep (rL rB) (.slice ad40 [true].length cp41) [true]) :: D)) (fun b59 ad57 cp58 ad52 cp53 ad47 cp48 ad45 cp46 ad40 cp41 => ?_) fun nd2 => ?_
  · refine node_by (A := anc_raddlelaw13_alive_0) (nf := [1, 2, 3, 4, 5, 9, 10]) (Y := [9, 5, 4, 3, 2, 1]) 12 (by kernel_rfl) (by kernel_rfl) (by kernel_rfl) (by kernel_rfl) (by kernel_rfl) [9, 6, 7, 8, 5, 4, 3, 2, 1, 0] (by kernel_rfl) (by decide) (by decide) (aD 0 11 5 (by decide) (aY 1 10 (by decide) (aY 2 9 (by decide) (aY 3 8 (by decide) (aY 4 7 (by decide) (aY 5 6 (by decide) (aF 6 5 (by decide) ?_ (aF 7 4 (by decide) ?_ (aF 8 3 (by decide) ?_ (aY 9 2 (by decide) (aN 10 1 (by decide) ?_ (aE 11 0 10 (by decide) (trivial))))))))))))) [] (fun q hq => by cases hq) (fun hY => absurd (hY 10 (by decide)) (by decide))
    · refine fI 14 (.tuple #[.agg #[iv r32.1.W, iv r32.1.H, .slice ad57 r32.1.Bits.length cp58], iv r32.2]) [(20, .tuple #[.agg #[iv r32.1.W, iv r32.1.H, .slice ad57 r32.1.Bits.length cp58], iv r32.2])] 1 [some 4] rfl rfl rfl rfl rfl rfl fun G a w S => ?_
      refine sMove (.tuple #[.agg #[iv r32.1.W, iv r32.1.H, .slice ad57 r32.1.Bits.length cp58], iv r32.2]) S (wN rfl) (.inl rfl) rfl rfl (lb rfl) fun a S => ?_
      exact leafL ⟨rfl, S⟩
    · refine fI 21 (.agg #[iv r32.1.W, iv r32.1.H, .slice ad57 r32.1.Bits.length cp58]) [(14, .tuple #[.agg #[iv r32.1.W, iv r32.1.H, .slice ad57 r32.1.Bits.length cp58], iv r32.2])] 2 [some 1] rfl rfl rfl rfl rfl rfl fun G a w S => ?_
      refine sExtract (vs := [.agg #[iv r32.1.W, iv r32.1.H, .slice ad57 r32.1.Bits.length cp58], iv r32.2]) (.agg #[iv r32.1.W, iv r32.1.H, .slice ad57 r32.1.Bits.length cp58]) S (wN rfl) rfl rfl rfl rfl (lb rfl) fun a S => ?_
      exact leafL ⟨rfl, S⟩
    · refine fI 22 (iv r32.2) [(14, .tuple #[.agg #[iv r32.1.W, iv r32.1.H, .slice ad57 r32.1.Bits.length cp58], iv r32.2])] 3 [some 1] rfl rfl rfl rfl rfl rfl fun G a w S => ?_
      refine sExtract (vs := [.agg #[iv r32.1.W, iv r32.1.H, .slice ad57 r32.1.Bits.length cp58], iv r32.2]) (iv r32.2) S (wN rfl) rfl rfl rfl rfl (lb rfl) fun a S => ?_
      exact leafL ⟨rfl, S⟩
    refine ⟨_, [(2, .pointer (some ⟨b59, 0, none⟩)), (21, .agg #[iv r32.1.W, iv r32.1.H, .slice ad57 r32.1.Bits.length cp58])], rfl, (srcs_of [some 0, some 2] rfl rfl rfl), fun G a w S => ?_⟩
    refine sStore (p := b59) (off := 0) (T := 24) (vs := [iv 0, iv 0, .slice none 0 0]) (v := .agg #[iv r32.1.W, iv r32.1.H, .slice ad57 r32.1.Bits.length cp58]) 0 [iv r32.1.W, iv r32.1.H, .slice ad57 r32.1.Bits.length cp58] S (wN rfl) rfl rfl rfl rfl rfl rfl rfl (by simp) rfl fun a w S => ?_
    refine leafL ⟨rfl, _, _, .inr ⟨[(11, 3, iv r32.2)], rfl, S, hz_of rfl, ?_⟩⟩
    refine node_by (A := anc_raddlelaw13_alive_0) (nf := [1, 2, 3, 4, 5, 9, 10]) (Y := [10, 9, 5, 4, 3, 2, 1]) 12 (by kernel_rfl) (by kernel_rfl) (by kernel_rfl) (by kernel_rfl) (by kernel_rfl) [11, 9, 6, 7, 8, 5, 4, 3, 2, 1, 0] (by kernel_rfl) (by decide) (by decide) (aD 0 11 10 (by decide) (aY 1 10 (by decide) (aY 2 9 (by decide) (aY 3 8 (by decide) (aY 4 7 (by decide) (aY 5 6 (by decide) (aD 6 5 10 (by decide) (aD 7 4 10 (by decide) (aF 8 3 (by decide) ?_ (aY 9 2 (by decide) (aY 10 1 (by decide) (aF 11 0 (by decide) ?_ (trivial))))))))))))) [(1, .pointer (some ⟨b12, 0, none⟩)), (2, .pointer (some ⟨b59, 0, none⟩)), (3, iv r32.2)] (fin_of [none, some 1, some 0] rfl (by kernel_rfl) (by kernel_rfl)) (fun _ a w S => ?_)
    · refine fI 22 (iv r32.2) [(14, .tuple #[.agg #[iv r32.1.W, iv r32.1.H, .slice ad57 r32.1.Bits.length cp58], iv r32.2])] 4 [some 2] rfl rfl rfl rfl rfl rfl fun G a w S => ?_
      refine sExtract (vs := [.agg #[iv r32.1.W, iv r32.1.H, .slice ad57 r32.1.Bits.length cp58], iv r32.2]) (iv r32.2) S (wN rfl) rfl rfl rfl rfl (lb rfl) fun a S => ?_
      exact leafL ⟨rfl, S⟩
    · refine fI 3 (iv r32.2) [(22, iv r32.2)] 0 [some 4] rfl rfl rfl rfl rfl rfl fun G a w S => ?_
      refine sMove (iv r32.2) S (wN rfl) (.inr rfl) rfl rfl (lb rfl) fun a S => ?_
      exact leafL ⟨rfl, S⟩
    refine leafT (hK13 _ _ ?_)
    refine sSeq (fun K60 hK60 => ?_)
    obtain ⟨r61, hx62, h⟩ := bindSome h
    have hv_r61 : r61 = (api_Grid.mk 2 2 [false, false, false, false]) := Option.some.inj (hx62.symm.trans (by exact kc_raddlelaw13_alive_4))
    obtain ⟨r73, hx74, h⟩ := bindSome h
    have hv_r73 : r73 = ((api_Grid.mk 4 2 [false, false, false, false, false, false, false, false]), 0) := Option.some.inj (hx74.symm.trans (by rw [hv_r5, hv_r61]; exact kc_raddlelaw13_alive_5))
    refine sDraw (nf := [1, 2, 3, 7, 8]) (W := [(0, 24, .agg #[iv r5.W, iv r5.H, .slice ad10 r5.Bits.length cp11])]) rfl S ?_
    refine nodeCut (fun N W L D => ∀ b96 ad94 cp95 ad89 cp90 ad84 cp85, N [7, 3, 2, 1] ((7, 4, .pointer (some ⟨b96, 0, none⟩)) :: (4, 23, .tuple #[.agg #[iv r73.1.W, iv r73.1.H, .slice ad94 r73.1.Bits.length cp95], iv r73.2]) :: (5, 28, .agg #[iv r73.1.W, iv r73.1.H, .slice ad94 r73.1.Bits.length cp95]) :: (6, 29, iv r73.2) :: (3, 27, .tuple #[.agg #[iv r73.1.W, iv r73.1.H, .slice ad94 r73.1.Bits.length cp95], iv r73.2]) :: (2, 26, .agg #[iv r61.W, iv r61.H, .slice ad89 r61.Bits.length cp90]) :: (1, 25, .agg #[iv r61.W, iv r61.H, .slice ad84 r61.Bits.length cp85]) :: W) ((eBox b96 24 [iv 0, iv 0, .slice none 0 0]) :: L) ((fRep (rL rB) (.slice ad94 r73.1.Bits.length cp95) r73.1.Bits) :: (fRep r_api_Grid (.agg #[iv r73.1.W, iv r73.1.H, .slice ad94 r73.1.Bits.length cp95]) r73.1) :: (fRep (rL rB) (.slice ad89 r61.Bits.length cp90) r61.Bits) :: (fRep r_api_Grid (.agg #[iv r61.W, iv r61.H, .slice ad89 r61.Bits.length cp90]) r61) :: (fRep (rL rB) (.slice ad84 r61.Bits.length cp85) r61.Bits) :: (fRep r_api_Grid (.agg #[iv r61.W, iv r61.H, .slice ad84 r61.Bits.length cp85]) r61) :: D)) (fun b96 ad94 cp95 ad89 cp90 ad84 cp85 => ?_) fun nd1 => ?_
    · refine node_by (A := anc_raddlelaw13_alive_1) (nf := [1, 2, 3, 7, 8]) (Y := [7, 3, 2, 1]) 10 (by kernel_rfl) (by kernel_rfl) (by kernel_rfl) (by kernel_rfl) (by kernel_rfl) [7, 4, 5, 6, 3, 2, 1, 0] (by kernel_rfl) (by decide) (by decide) (aD 0 9 3 (by decide) (aY 1 8 (by decide) (aY 2 7 (by decide) (aY 3 6 (by decide) (aF 4 5 (by decide) ?_ (aF 5 4 (by decide) ?_ (aF 6 3 (by decide) ?_ (aY 7 2 (by decide) (aN 8 1 (by decide) ?_ (aE 9 0 8 (by decide) (trivial))))))))))) [] (fun q hq => by cases hq) (fun hY => absurd (hY 8 (by decide)) (by decide))
      · refine fI 23 (.tuple #[.agg #[iv r73.1.W, iv r73.1.H, .slice ad94 r73.1.Bits.length cp95], iv r73.2]) [(27, .tuple #[.agg #[iv r73.1.W, iv r73.1.H, .slice ad94 r73.1.Bits.length cp95], iv r73.2])] 1 [some 4] rfl rfl rfl rfl rfl rfl fun G a w S => ?_
        refine sMove (.tuple #[.agg #[iv r73.1.W, iv r73.1.H, .slice ad94 r73.1.Bits.length cp95], iv r73.2]) S (wN rfl) (.inl rfl) rfl rfl (lb rfl) fun a S => ?_
        exact leafL ⟨rfl, S⟩
      · refine fI 28 (.agg #[iv r73.1.W, iv r73.1.H, .slice ad94 r73.1.Bits.length cp95]) [(23, .tuple #[.agg #[iv r73.1.W, iv r73.1.H, .slice ad94 r73.1.Bits.length cp95], iv r73.2])] 2 [some 1] rfl rfl rfl rfl rfl rfl fun G a w S => ?_
        refine sExtract (vs := [.agg #[iv r73.1.W, iv r73.1.H, .slice ad94 r73.1.Bits.length cp95], iv r73.2]) (.agg #[iv r73.1.W, iv r73.1.H, .slice ad94 r73.1.Bits.length cp95]) S (wN rfl) rfl rfl rfl rfl (lb rfl) fun a S => ?_
        exact leafL ⟨rfl, S⟩
      · refine fI 29 (iv r73.2) [(23, .tuple #[.agg #[iv r73.1.W, iv r73.1.H, .slice ad94 r73.1.Bits.length cp95], iv r73.2])] 3 [some 1] rfl rfl rfl rfl rfl rfl fun G a w S => ?_
        refine sExtract (vs := [.agg #[iv r73.1.W, iv r73.1.H, .slice ad94 r73.1.Bits.length cp95], iv r73.2]) (iv r73.2) S (wN rfl) rfl rfl rfl rfl (lb rfl) fun a S => ?_
        exact leafL ⟨rfl, S⟩
      refine ⟨_, [(4, .pointer (some ⟨b96, 0, none⟩)), (28, .agg #[iv r73.1.W, iv r73.1.H, .slice ad94 r73.1.Bits.length cp95])], rfl, (srcs_of [some 0, some 2] rfl rfl rfl), fun G a w S => ?_⟩
      refine sStore (p := b96) (off := 0) (T := 24) (vs := [iv 0, iv 0, .slice none 0 0]) (v := .agg #[iv r73.1.W, iv r73.1.H, .slice ad94 r73.1.Bits.length cp95]) 0 [iv r73.1.W, iv r73.1.H, .slice ad94 r73.1.Bits.length cp95] S (wN rfl) rfl rfl rfl rfl rfl rfl rfl (by simp) rfl fun a w S => ?_
      refine leafL ⟨rfl, _, _, .inr ⟨[(9, 5, iv r73.2)], rfl, S, hz_of rfl, ?_⟩⟩
      refine node_by (A := anc_raddlelaw13_alive_1) (nf := [1, 2, 3, 7, 8]) (Y := [8, 7, 3, 2, 1]) 10 (by kernel_rfl) (by kernel_rfl) (by kernel_rfl) (by kernel_rfl) (by kernel_rfl) [9, 7, 4, 5, 6, 3, 2, 1, 0] (by kernel_rfl) (by decide) (by decide) (aD 0 9 8 (by decide) (aY 1 8 (by decide) (aY 2 7 (by decide) (aY 3 6 (by decide) (aD 4 5 8 (by decide) (aD 5 4 8 (by decide) (aF 6 3 (by decide) ?_ (aY 7 2 (by decide) (aY 8 1 (by decide) (aF 9 0 (by decide) ?_ (trivial))))))))))) [(1, .pointer (some ⟨b12, 0, none⟩)), (2, .pointer (some ⟨b59, 0, none⟩)), (3, iv r32.2), (4, .pointer (some ⟨b96, 0, none⟩)), (5, iv r73.2)] (fin_of [none, none, none, some 1, some 0] rfl (by kernel_rfl) (by kernel_rfl)) (fun _ a w S => ?_)
      · refine fI 29 (iv r73.2) [(23, .tuple #[.agg #[iv r73.1.W, iv r73.1.H, .slice ad94 r73.1.Bits.length cp95], iv r73.2])] 4 [some 2] rfl rfl rfl rfl rfl rfl fun G a w S => ?_
        refine sExtract (vs := [.agg #[iv r73.1.W, iv r73.1.H, .slice ad94 r73.1.Bits.length cp95], iv r73.2]) (iv r73.2) S (wN rfl) rfl rfl rfl rfl (lb rfl) fun a S => ?_
        exact leafL ⟨rfl, S⟩
      · refine fI 5 (iv r73.2) [(29, iv r73.2)] 0 [some 4] rfl rfl rfl rfl rfl rfl fun G a w S => ?_
        refine sMove (iv r73.2) S (wN rfl) (.inr rfl) rfl rfl (lb rfl) fun a S => ?_
        exact leafL ⟨rfl, S⟩
      refine leafT (hK60 _ _ ?_)
      refine sSeq (fun K97 hK97 => ?_)
      refine sRegion ?_
      refine sLit (r := rB) (T := 4) (xs := [true, true, false, false, true, true, false, false]) [(0, .bool true), (1, .bool true), (2, .bool false), (3, .bool false), (4, .bool true), (5, .bool true), (6, .bool false), (7, .bool false)] 8 [.bool true, .bool true, .bool false, .bool false, .bool true, .bool true, .bool false, .bool false] [.bool true, .bool true, .bool false, .bool false, .bool true, .bool true, .bool false, .bool false] (.bool false) 1 S (wN rfl) rfl rfl Try.underlying22 rfl (by decide) (by decide) (by kernel_rfl) rfl (fun E1 w1 hE => All.cons rfl (All.cons rfl (All.cons rfl (All.cons rfl (All.cons rfl (All.cons rfl (All.cons rfl (All.cons rfl (All.nil _ _ _))))))))) rfl rfl (lb rfl) fun a w ad98 cp99 S => ?_
      refine sBuild [(0, iv 4), (1, iv 2), (2, .slice ad98 [true, true, false, false, true, true, false, false].length cp99)] [iv 4, iv 2, .slice ad98 [true, true, false, false, true, true, false, false].length cp99] S (wN rfl) rfl rfl rfl rfl (lb rfl) fun a S => ?_
      refine sAlloc (.agg #[iv 0, iv 0, .slice none 0 0]) S (wN rfl) rfl rfl [iv 0, iv 0, .slice none 0 0] rfl rfl (lb rfl) fun a b100 w S => ?_
      refine sStore (p := b100) (off := 0) (T := 24) (vs := [iv 0, iv 0, .slice none 0 0]) (v := .agg #[iv 4, iv 2, .slice ad98 [true, true, false, false, true, true, false, false].length cp99]) 0 [iv 4, iv 2, .slice ad98 [true, true, false, false, true, true, false, false].length cp99] S (wN rfl) rfl rfl rfl rfl rfl rfl rfl (by simp) rfl fun a w S => ?_
      refine leafL (leafT (hK97 _ _ ?_))
      refine sSeq (fun K101 hK101 => ?_)
      refine sRegion ?_
      refine sLoadN (p := b100) (off := 0) (T := 24) (vs := [iv 4, iv 2, .slice ad98 [true, true, false, false, true, true, false, false].length cp99]) 0 [iv 4, iv 2, .slice ad98 [true, true, false, false, true, true, false, false].length cp99] S (wN rfl) rfl rfl rfl rfl rfl rfl rfl (lb rfl) fun a S => ?_
      obtain ⟨r102, hx103, h⟩ := bindSome h
      have hv_r102 : r102 = ([(api_Grid.mk 2 2 [true, true, true, true]), (api_Grid.mk 2 2 [false, false, false, false])], ([0, 1], 0)) := Option.some.inj (hx103.symm.trans (by exact kc_raddlelaw13_alive_6))
      have S := S.shutR (r := rB) (T := 4) (v := .slice ad98 [true, true, false, false, true, true, false, false].length cp99) (xs := [true, true, false, false, true, true, false, false]) 1 rfl
      have S := S.learn (fRep r_api_Grid (.agg #[iv 4, iv 2, .slice ad98 [true, true, false, false, true, true, false, false].length cp99]) (api_Grid.mk 4 2 [true, true, false, false, true, true, false, false])) ⟨_, rfl, S.mem.know (i := 0) (e := fRep (rL rB) (.slice ad98 [true, true, false, false, true, true, false, false].length cp99) [true, true, false, false, true, true, false, false]) rfl⟩
      refine sCall (X := Value × Value) (f := 19) (vs := [.agg #[iv 4, iv 2, .slice ad98 [true, true, false, false, true, true, false, false].length cp99], iv 2, iv 2]) (val := c_block_Units_val r102) (B' := fun _ => []) (D' := c_block_Units_D r102) [] [eBox b100 24 [iv 4, iv 2, .slice ad98 [true, true, false, false, true, true, false, false].length cp99], eBox b96 24 [iv r73.1.W, iv r73.1.H, .slice ad94 r73.1.Bits.length cp95], eBox b59 24 [iv r32.1.W, iv r32.1.H, .slice ad57 r32.1.Bits.length cp58], eBox b12 24 [iv r5.W, iv r5.H, .slice ad10 r5.Bits.length cp11]] [fRep r_api_Grid (.agg #[iv 4, iv 2, .slice ad98 [true, true, false, false, true, true, false, false].length cp99]) (api_Grid.mk 4 2 [true, true, false, false, true, true, false, false])] [0, 1, 2, 3] [0] S (wN rfl) rfl callee19 rfl (by decide) rfl rfl (fun E1 w1 S1 => c_block_Units E1 w1 (api_Grid.mk 4 2 [true, true, false, false, true, true, false, false]) (.agg #[iv 4, iv 2, .slice ad98 [true, true, false, false, true, true, false, false].length cp99]) 2 2 r102 hx103 S1) rfl (lb rfl) fun xx a w S => ?_
      obtain ⟨u104, u105⟩ := xx
      obtain ⟨ad106, cp107, _, rfl, _⟩ := S.mem.know (i := 0) (e := fRep (rL r_api_Grid) (u104) r102.1) rfl
      obtain ⟨ad108, cp109, _, rfl, _⟩ := S.mem.know (i := 1) (e := fRep (rL (rI .i64)) (u105) r102.2.1) rfl
      refine sMove (.tuple #[.slice ad106 r102.1.length cp107, .slice ad108 r102.2.1.length cp109, iv r102.2.2]) S (wN rfl) (.inl rfl) rfl rfl (lb rfl) fun a S => ?_
      refine sExtract (vs := [.slice ad106 r102.1.length cp107, .slice ad108 r102.2.1.length cp109, iv r102.2.2]) (.slice ad106 r102.1.length cp107) S (wN rfl) rfl rfl rfl rfl (lb rfl) fun a S => ?_
      refine sExtract (vs := [.slice ad106 r102.1.length cp107, .slice ad108 r102.2.1.length cp109, iv r102.2.2]) (.slice ad108 r102.2.1.length cp109) S (wN rfl) rfl rfl rfl rfl (lb rfl) fun a S => ?_
      refine sExtract (vs := [.slice ad106 r102.1.length cp107, .slice ad108 r102.2.1.length cp109, iv r102.2.2]) (iv r102.2.2) S (wN rfl) rfl rfl rfl rfl (lb rfl) fun a S => ?_
      refine sMove (.slice ad106 r102.1.length cp107) S (wN rfl) (.inr rfl) rfl rfl (lb rfl) fun a S => ?_
      refine sMove (.slice ad108 r102.2.1.length cp109) S (wN rfl) (.inr rfl) rfl rfl (lb rfl) fun a S => ?_
      refine sMove (iv r102.2.2) S (wN rfl) (.inr rfl) rfl rfl (lb rfl) fun a S => ?_
      refine leafL (leafT (hK101 _ _ ?_))
      refine sSeq (fun K110 hK110 => ?_)
      refine sRegion ?_
      refine sLit (r := (rI .i64)) (T := 3) (xs := ([0, 1, 0] : List Int)) [(0, iv 0), (1, iv 1), (2, iv 0)] 3 [iv 0, iv 1, iv 0] [iv 0, iv 1, iv 0] (iv 0) 8 S (wN rfl) rfl rfl Try.underlying35 rfl (by decide) (by decide) (by kernel_rfl) rfl (fun E1 w1 hE => All.cons rfl (All.cons rfl (All.cons rfl (All.nil _ _ _)))) rfl rfl (lb rfl) fun a w ad111 cp112 S => ?_
      refine sLit (r := (rI .i64)) (T := 3) (xs := ([0, 1] : List Int)) [(0, iv 0), (1, iv 1)] 2 [iv 0, iv 1] [iv 0, iv 1] (iv 0) 8 S (wN rfl) rfl rfl Try.underlying35 rfl (by decide) (by decide) (by kernel_rfl) rfl (fun E1 w1 hE => All.cons rfl (All.cons rfl (All.nil _ _ _))) rfl rfl (lb rfl) fun a w ad113 cp114 S => ?_
      refine sLit (r := (rI .i64)) (T := 3) (xs := ([2, 3] : List Int)) [(0, iv 2), (1, iv 3)] 2 [iv 2, iv 3] [iv 2, iv 3] (iv 0) 8 S (wN rfl) rfl rfl Try.underlying35 rfl (by decide) (by decide) (by kernel_rfl) rfl (fun E1 w1 hE => All.cons rfl (All.cons rfl (All.nil _ _ _))) rfl rfl (lb rfl) fun a w ad115 cp116 S => ?_
      have S := S.shutR (r := (rI .i64)) (T := 3) (v := .slice ad113 ([0, 1] : List Int).length cp114) (xs := ([0, 1] : List Int)) 1 rfl
      have S := S.shutR (r := (rI .i64)) (T := 3) (v := .slice ad115 ([2, 3] : List Int).length cp116) (xs := ([2, 3] : List Int)) 0 rfl
      refine sLit (r := (rL (rI .i64))) (T := 35) (xs := [([0, 1] : List Int), ([2, 3] : List Int)]) [(0, .slice ad113 ([0, 1] : List Int).length cp114), (1, .slice ad115 ([2, 3] : List Int).length cp116)] 2 [.slice ad113 ([0, 1] : List Int).length cp114, .slice ad115 ([2, 3] : List Int).length cp116] [.slice ad113 ([0, 1] : List Int).length cp114, .slice ad115 ([2, 3] : List Int).length cp116] (.slice none 0 0) 24 S (wN rfl) rfl rfl Try.underlying46 rfl (by decide) (by decide) (by kernel_rfl) rfl (fun E1 w1 hE => All.cons ((rL (rI .i64)).mono hE (S.mem.know (i := 1) (e := fRep (rL (rI .i64)) (.slice ad113 ([0, 1] : List Int).length cp114) ([0, 1] : List Int)) rfl)) (All.cons ((rL (rI .i64)).mono hE (S.mem.know (i := 0) (e := fRep (rL (rI .i64)) (.slice ad115 ([2, 3] : List Int).length cp116) ([2, 3] : List Int)) rfl)) (All.nil _ _ _))) rfl rfl (lb rfl) fun a w ad117 cp118 S => ?_
      obtain ⟨r119, hx120, h⟩ := bindSome h
      have hv_r119 : r119 = ([0, 1, 2, 3, 0, 1], 0) := Option.some.inj (hx120.symm.trans (by exact kc_raddlelaw13_alive_7))
      have S := S.shutR (r := (rI .i64)) (T := 3) (v := .slice ad111 ([0, 1, 0] : List Int).length cp112) (xs := ([0, 1, 0] : List Int)) 1 rfl
      have S := S.shutR (r := (rL (rI .i64))) (T := 35) (v := .slice ad117 [([0, 1] : List Int), ([2, 3] : List Int)].length cp118) (xs := [([0, 1] : List Int), ([2, 3] : List Int)]) 0 rfl
      refine sCall (X := Value) (f := 27) (vs := [.slice ad111 ([0, 1, 0] : List Int).length cp112, .slice ad117 [([0, 1] : List Int), ([2, 3] : List Int)].length cp118]) (val := c_block_Spell_val r119) (B' := fun _ => []) (D' := c_block_Spell_D r119) [] [eBox b100 24 [iv 4, iv 2, .slice ad98 [true, true, false, false, true, true, false, false].length cp99], eBox b96 24 [iv r73.1.W, iv r73.1.H, .slice ad94 r73.1.Bits.length cp95], eBox b59 24 [iv r32.1.W, iv r32.1.H, .slice ad57 r32.1.Bits.length cp58], eBox b12 24 [iv r5.W, iv r5.H, .slice ad10 r5.Bits.length cp11]] [fRep (rL (rI .i64)) (.slice ad111 ([0, 1, 0] : List Int).length cp112) ([0, 1, 0] : List Int), fRep (rL (rL (rI .i64))) (.slice ad117 [([0, 1] : List Int), ([2, 3] : List Int)].length cp118) [([0, 1] : List Int), ([2, 3] : List Int)]] [0, 1, 2, 3] [1, 0] S (wN rfl) rfl callee27 rfl (by decide) rfl rfl (fun E1 w1 S1 => c_block_Spell E1 w1 ([0, 1, 0] : List Int) (.slice ad111 ([0, 1, 0] : List Int).length cp112) [([0, 1] : List Int), ([2, 3] : List Int)] (.slice ad117 [([0, 1] : List Int), ([2, 3] : List Int)].length cp118) r119 hx120 S1) rfl (lb rfl) fun u121 a w S => ?_
      obtain ⟨ad122, cp123, _, rfl, _⟩ := S.mem.know (i := 0) (e := fRep (rL (rI .i64)) (u121) r119.1) rfl
      refine sMove (.tuple #[.slice ad122 r119.1.length cp123, iv r119.2]) S (wN rfl) (.inl rfl) rfl rfl (lb rfl) fun a S => ?_
      refine sExtract (vs := [.slice ad122 r119.1.length cp123, iv r119.2]) (.slice ad122 r119.1.length cp123) S (wN rfl) rfl rfl rfl rfl (lb rfl) fun a S => ?_
      refine sExtract (vs := [.slice ad122 r119.1.length cp123, iv r119.2]) (iv r119.2) S (wN rfl) rfl rfl rfl rfl (lb rfl) fun a S => ?_
      refine sMove (.slice ad122 r119.1.length cp123) S (wN rfl) (.inr rfl) rfl rfl (lb rfl) fun a S => ?_
      refine sMove (iv r119.2) S (wN rfl) (.inr rfl) rfl rfl (lb rfl) fun a S => ?_
      refine leafL (leafT (hK110 _ _ ?_))
      refine sSeq (fun K124 hK124 => ?_)
      refine sRegion ?_
      refine sMove (iv r32.2) S (wN rfl) (.inl rfl) rfl rfl (lb rfl) fun a S => ?_
      refine sBin (.bool (r32.2 == 0)) S (wN rfl) rfl rfl rfl (bEq _ _ _ _ .i64 r32.2 0) rfl (lb rfl) fun a S => ?_
      refine sMove (.bool (r32.2 == 0)) S (wN rfl) (.inl rfl) rfl rfl (lb rfl) fun a S => ?_
      rcases iteSome h with ⟨hc125, h⟩ | ⟨hc125, h⟩
      rotate_left
      · exact absurd hc125 (by rw [hv_r32]; decide)
      refine sLoadN (p := b59) (off := 0) (T := 24) (vs := [iv r32.1.W, iv r32.1.H, .slice ad57 r32.1.Bits.length cp58]) 2 [iv r32.1.W, iv r32.1.H, .slice ad57 r32.1.Bits.length cp58] S (wG 2 true 48 rfl rfl rfl hc125) rfl rfl rfl rfl rfl rfl rfl (lb rfl) fun a S => ?_
      refine sLoadN (p := b12) (off := 0) (T := 24) (vs := [iv r5.W, iv r5.H, .slice ad10 r5.Bits.length cp11]) 3 [iv r5.W, iv r5.H, .slice ad10 r5.Bits.length cp11] S (wG 2 true 48 rfl rfl rfl hc125) rfl rfl rfl rfl rfl rfl rfl (lb rfl) fun a S => ?_
      obtain ⟨r126, hx127, h⟩ := bindSome h
      have hv_r126 : r126 = true := Option.some.inj (hx127.symm.trans (by rw [hv_r32, hv_r5]; exact kc_raddlelaw13_alive_8))
      have S1 := S.mem
      refine sCallQ (X := Unit) (f := 17) (vs := [.agg #[iv r32.1.W, iv r32.1.H, .slice ad57 r32.1.Bits.length cp58], .agg #[iv r5.W, iv r5.H, .slice ad10 r5.Bits.length cp11]]) (val := fun _ => .bool r126) S (wG 2 true 48 rfl rfl rfl hc125) rfl callee17 rfl (S1.quiet [16, 24] rfl) (fun E1 w1 S1 => c_raddleref01_Same E1 w1 r32.1 (.agg #[iv r32.1.W, iv r32.1.H, .slice ad57 r32.1.Bits.length cp58]) r5 (.agg #[iv r5.W, iv r5.H, .slice ad10 r5.Bits.length cp11]) r126 hx127 S1) rfl (lb rfl) fun _ a w S => ?_
      refine sPickT (.bool r126) S (wN rfl) rfl rfl hc125 rfl rfl (lb rfl) fun a S => ?_
      refine sMove (.bool r126) S (wN rfl) (.inl rfl) rfl rfl (lb rfl) fun a S => ?_
      rcases iteSome h with ⟨hc128, h⟩ | ⟨hc128, h⟩
      rotate_left
      · exact absurd hc128 (by rw [hv_r126]; decide)
      refine sMove (iv r73.2) S (wG 7 true 53 rfl rfl rfl hc128) (.inl rfl) rfl rfl (lb rfl) fun a S => ?_
      refine sBin (.bool (r73.2 == 0)) S (wG 7 true 53 rfl rfl rfl hc128) rfl rfl rfl (bEq _ _ _ _ .i64 r73.2 0) rfl (lb rfl) fun a S => ?_
      refine sPickT (.bool (r73.2 == 0)) S (wN rfl) rfl rfl hc128 rfl rfl (lb rfl) fun a S => ?_
      refine sMove (.bool (r73.2 == 0)) S (wN rfl) (.inl rfl) rfl rfl (lb rfl) fun a S => ?_
      rcases iteSome h with ⟨hc129, h⟩ | ⟨hc129, h⟩
      rotate_left
      · exact absurd hc129 (by rw [hv_r73]; decide)
      refine sField (b := b96) (off := 0) 0 0 S (wG 11 true 57 rfl rfl rfl hc129) rfl rfl rfl rfl rfl (lb rfl) fun a S => ?_
      refine sLoad1 (p := b96) (off := 0) (T := 24) (vs := [iv r73.1.W, iv r73.1.H, .slice ad94 r73.1.Bits.length cp95]) 1 (iv r73.1.W) S (wG 11 true 57 rfl rfl rfl hc129) rfl rfl rfl rfl rfl rfl (lb rfl) fun a S => ?_
      refine sBin (.bool (r73.1.W == 4)) S (wG 11 true 57 rfl rfl rfl hc129) rfl rfl rfl (bEq _ _ _ _ .i64 r73.1.W 4) rfl (lb rfl) fun a S => ?_
      refine sPickT (.bool (r73.1.W == 4)) S (wN rfl) rfl rfl hc129 rfl rfl (lb rfl) fun a S => ?_
      refine sMove (.bool (r73.1.W == 4)) S (wN rfl) (.inl rfl) rfl rfl (lb rfl) fun a S => ?_
      rcases iteSome h with ⟨hc130, h⟩ | ⟨hc130, h⟩
      rotate_left
      · exact absurd hc130 (by rw [hv_r73]; decide)
      refine sField (b := b96) (off := 0) 1 1 S (wG 16 true 62 rfl rfl rfl hc130) rfl rfl rfl rfl rfl (lb rfl) fun a S => ?_
      refine sLoad1 (p := b96) (off := 1) (T := 24) (vs := [iv r73.1.W, iv r73.1.H, .slice ad94 r73.1.Bits.length cp95]) 1 (iv r73.1.H) S (wG 16 true 62 rfl rfl rfl hc130) rfl rfl rfl rfl rfl rfl (lb rfl) fun a S => ?_
      refine sBin (.bool (r73.1.H == 2)) S (wG 16 true 62 rfl rfl rfl hc130) rfl rfl rfl (bEq _ _ _ _ .i64 r73.1.H 2) rfl (lb rfl) fun a S => ?_
      refine sPickT (.bool (r73.1.H == 2)) S (wN rfl) rfl rfl hc130 rfl rfl (lb rfl) fun a S => ?_
      refine sMove (.bool (r73.1.H == 2)) S (wN rfl) (.inl rfl) rfl rfl (lb rfl) fun a S => ?_
      rcases iteSome h with ⟨hc131, h⟩ | ⟨hc131, h⟩
      rotate_left
      · exact absurd hc131 (by rw [hv_r73]; decide)
      refine sMove (iv r102.2.2) S (wG 21 true 67 rfl rfl rfl hc131) (.inl rfl) rfl rfl (lb rfl) fun a S => ?_
      refine sBin (.bool (r102.2.2 == 0)) S (wG 21 true 67 rfl rfl rfl hc131) rfl rfl rfl (bEq _ _ _ _ .i64 r102.2.2 0) rfl (lb rfl) fun a S => ?_
      refine sPickT (.bool (r102.2.2 == 0)) S (wN rfl) rfl rfl hc131 rfl rfl (lb rfl) fun a S => ?_
      refine sMove (.bool (r102.2.2 == 0)) S (wN rfl) (.inl rfl) rfl rfl (lb rfl) fun a S => ?_
      rcases iteSome h with ⟨hc132, h⟩ | ⟨hc132, h⟩
      rotate_left
      · exact absurd hc132 (by rw [hv_r102]; decide)
      refine sMove (.slice ad106 r102.1.length cp107) S (wG 25 true 71 rfl rfl rfl hc132) (.inl rfl) rfl rfl (lb rfl) fun a S => ?_
      refine sLen (ad := ad106) (m := r102.1.length) (c := cp107) S (wG 25 true 71 rfl rfl rfl hc132) rfl Try.underlying34 rfl rfl (lb rfl) fun a S => ?_
      refine sBin (.bool ((r102.1.length : Int) == 2)) S (wG 25 true 71 rfl rfl rfl hc132) rfl rfl rfl (bEq _ _ _ _ .i64 (r102.1.length : Int) 2) rfl (lb rfl) fun a S => ?_
      refine sPickT (.bool ((r102.1.length : Int) == 2)) S (wN rfl) rfl rfl hc132 rfl rfl (lb rfl) fun a S => ?_
      refine sMove (.bool ((r102.1.length : Int) == 2)) S (wN rfl) (.inl rfl) rfl rfl (lb rfl) fun a S => ?_
      rcases iteSome h with ⟨hc133, h⟩ | ⟨hc133, h⟩
      rotate_left
      · exact absurd hc133 (by rw [hv_r102]; decide)
      refine sMove (.slice ad108 r102.2.1.length cp109) S (wG 30 true 76 rfl rfl rfl hc133) (.inl rfl) rfl rfl (lb rfl) fun a S => ?_
      refine sLit (r := (rI .i64)) (T := 3) (xs := ([0, 1] : List Int)) [(0, iv 0), (1, iv 1)] 2 [iv 0, iv 1] [iv 0, iv 1] (iv 0) 8 S (wG 30 true 76 rfl rfl rfl hc133) rfl rfl Try.underlying35 rfl (by decide) (by decide) (by kernel_rfl) rfl (fun E1 w1 hE => All.cons rfl (All.cons rfl (All.nil _ _ _))) rfl rfl (lb rfl) fun a w ad134 cp135 S => ?_
      obtain ⟨r136, hx137, h⟩ := bindSome h
      have hv_r136 : r136 = true := Option.some.inj (hx137.symm.trans (by rw [hv_r102]; exact kc_raddlelaw13_alive_9))
      have S1 := S.mem
      have S1 := S1.shutR (r := (rI .i64)) (T := 3) (v := .slice ad134 ([0, 1] : List Int).length cp135) (xs := ([0, 1] : List Int)) 0 rfl
      refine sCallQ (X := Unit) (f := 24) (vs := [.slice ad108 r102.2.1.length cp109, .slice ad134 ([0, 1] : List Int).length cp135]) (val := fun _ => .bool r136) S (wG 30 true 76 rfl rfl rfl hc133) rfl callee24 rfl (S1.quiet [7, 0] rfl) (fun E1 w1 S1 => c_raddleref02_Same E1 w1 r102.2.1 (.slice ad108 r102.2.1.length cp109) ([0, 1] : List Int) (.slice ad134 ([0, 1] : List Int).length cp135) r136 hx137 S1) rfl (lb rfl) fun _ a w S => ?_
      refine sPickT (.bool r136) S (wN rfl) rfl rfl hc133 rfl rfl (lb rfl) fun a S => ?_
      refine sMove (.bool r136) S (wN rfl) (.inl rfl) rfl rfl (lb rfl) fun a S => ?_
      rcases iteSome h with ⟨hc138, h⟩ | ⟨hc138, h⟩
      rotate_left
      · exact absurd hc138 (by rw [hv_r136]; decide)
      refine sMove (iv r119.2) S (wG 35 true 81 rfl rfl rfl hc138) (.inl rfl) rfl rfl (lb rfl) fun a S => ?_
      refine sBin (.bool (r119.2 == 0)) S (wG 35 true 81 rfl rfl rfl hc138) rfl rfl rfl (bEq _ _ _ _ .i64 r119.2 0) rfl (lb rfl) fun a S => ?_
      refine sPickT (.bool (r119.2 == 0)) S (wN rfl) rfl rfl hc138 rfl rfl (lb rfl) fun a S => ?_
      refine sMove (.bool (r119.2 == 0)) S (wN rfl) (.inl rfl) rfl rfl (lb rfl) fun a S => ?_
      rcases iteSome h with ⟨hc139, h⟩ | ⟨hc139, h⟩
      rotate_left
      · exact absurd hc139 (by rw [hv_r119]; decide)
      refine sMove (.slice ad122 r119.1.length cp123) S (wG 39 true 85 rfl rfl rfl hc139) (.inl rfl) rfl rfl (lb rfl) fun a S => ?_
      refine sLit (r := (rI .i64)) (T := 3) (xs := ([0, 1, 2, 3, 0, 1] : List Int)) [(0, iv 0), (1, iv 1), (2, iv 2), (3, iv 3), (4, iv 0), (5, iv 1)] 6 [iv 0, iv 1, iv 2, iv 3, iv 0, iv 1] [iv 0, iv 1, iv 2, iv 3, iv 0, iv 1] (iv 0) 8 S (wG 39 true 85 rfl rfl rfl hc139) rfl rfl Try.underlying35 rfl (by decide) (by decide) (by kernel_rfl) rfl (fun E1 w1 hE => All.cons rfl (All.cons rfl (All.cons rfl (All.cons rfl (All.cons rfl (All.cons rfl (All.nil _ _ _))))))) rfl rfl (lb rfl) fun a w ad140 cp141 S => ?_
      obtain ⟨r142, hx143, h⟩ := bindSome h
      have hv_r142 : r142 = true := Option.some.inj (hx143.symm.trans (by rw [hv_r119]; exact kc_raddlelaw13_alive_10))
      have S1 := S.mem
      have S1 := S1.shutR (r := (rI .i64)) (T := 3) (v := .slice ad140 ([0, 1, 2, 3, 0, 1] : List Int).length cp141) (xs := ([0, 1, 2, 3, 0, 1] : List Int)) 0 rfl
      refine sCallQ (X := Unit) (f := 24) (vs := [.slice ad122 r119.1.length cp123, .slice ad140 ([0, 1, 2, 3, 0, 1] : List Int).length cp141]) (val := fun _ => .bool r142) S (wG 39 true 85 rfl rfl rfl hc139) rfl callee24 rfl (S1.quiet [1, 0] rfl) (fun E1 w1 S1 => c_raddleref02_Same E1 w1 r119.1 (.slice ad122 r119.1.length cp123) ([0, 1, 2, 3, 0, 1] : List Int) (.slice ad140 ([0, 1, 2, 3, 0, 1] : List Int).length cp141) r142 hx143 S1) rfl (lb rfl) fun _ a w S => ?_
      refine sPickT (.bool r142) S (wN rfl) rfl rfl hc139 rfl rfl (lb rfl) fun a S => ?_
      refine sMove (.bool r142) S (wN rfl) (.inr rfl) rfl rfl (lb rfl) fun a S => ?_
      refine leafL (leafT (hK124 _ _ ?_))
      obtain rfl := Option.some.inj h
      exact wp_ret (sRet (.bool r142) S (rsl1 rfl (rvT (t := 0) (v := .bool r142) S rfl)) ⟨(), rfl, S.mem.sel [] [] (by decide) rfl rfl⟩)
    refine nodeCut (fun N W L D => ∀ b144 ad89 cp90 ad84 cp85, N [7, 2, 1] ((7, 4, .pointer (some ⟨b144, 0, none⟩)) :: (2, 26, .agg #[iv r61.W, iv r61.H, .slice ad89 r61.Bits.length cp90]) :: (1, 25, .agg #[iv r61.W, iv r61.H, .slice ad84 r61.Bits.length cp85]) :: W) ((eBox b144 24 [iv 0, iv 0, .slice none 0 0]) :: L) ((fRep (rL rB) (.slice ad89 r61.Bits.length cp90) r61.Bits) :: (fRep r_api_Grid (.agg #[iv r61.W, iv r61.H, .slice ad89 r61.Bits.length cp90]) r61) :: (fRep (rL rB) (.slice ad84 r61.Bits.length cp85) r61.Bits) :: (fRep r_api_Grid (.agg #[iv r61.W, iv r61.H, .slice ad84 r61.Bits.length cp85]) r61) :: D)) (fun b144 ad89 cp90 ad84 cp85 => ?_) fun nd2 => ?_
    · refine node_by (A := anc_raddlelaw13_alive_1) (nf := [1, 2, 3, 7, 8]) (Y := [7, 2, 1]) 10 (by kernel_rfl) (by kernel_rfl) (by kernel_rfl) (by kernel_rfl) (by kernel_rfl) [7, 2, 1, 0] (by kernel_rfl) (by decide) (by decide) (aF 0 9 (by decide) ?_ (aY 1 8 (by decide) (aY 2 7 (by decide) (aN 3 6 (by decide) ?_ (aE 4 5 3 (by decide) (aE 5 4 3 (by decide) (aE 6 3 3 (by decide) (aY 7 2 (by decide) (aB 8 1 3 (by decide) (aE 9 0 3 (by decide) (trivial))))))))))) [] (fun q hq => by cases hq) (fun hY => absurd (hY 3 (by decide)) (by decide))
      · refine fI 24 (.agg #[iv r5.W, iv r5.H, .slice ad10 r5.Bits.length cp11]) [(1, .pointer (some ⟨b12, 0, none⟩))] 3 [none] rfl rfl rfl rfl rfl rfl fun G a w S => ?_
        refine sLoadN (p := b12) (off := 0) (T := 24) (vs := [iv r5.W, iv r5.H, .slice ad10 r5.Bits.length cp11]) 2 [iv r5.W, iv r5.H, .slice ad10 r5.Bits.length cp11] S (wN rfl) rfl rfl rfl rfl rfl rfl rfl (lb rfl) fun a S => ?_
        exact leafL ⟨rfl, S⟩
      refine ⟨_, [(24, .agg #[iv r5.W, iv r5.H, .slice ad10 r5.Bits.length cp11]), (25, .agg #[iv r61.W, iv r61.H, .slice ad84 r61.Bits.length cp85]), (26, .agg #[iv r61.W, iv r61.H, .slice ad89 r61.Bits.length cp90])], rfl, (srcs_of [some 3, some 2, some 1] rfl rfl rfl), fun G a w S => ?_⟩
      refine sCall (X := Value) (f := 13) (vs := [.agg #[iv r5.W, iv r5.H, .slice ad10 r5.Bits.length cp11], .agg #[iv r61.W, iv r61.H, .slice ad84 r61.Bits.length cp85], .agg #[iv r61.W, iv r61.H, .slice ad89 r61.Bits.length cp90]]) (val := c_block_Fill_val r73) (B' := fun _ => []) (D' := c_block_Fill_D r73) [] [eBox b144 24 [iv 0, iv 0, .slice none 0 0], eBox b59 24 [iv r32.1.W, iv r32.1.H, .slice ad57 r32.1.Bits.length cp58], eBox b12 24 [iv r5.W, iv r5.H, .slice ad10 r5.Bits.length cp11]] [fRep r_api_Grid (.agg #[iv r5.W, iv r5.H, .slice ad10 r5.Bits.length cp11]) r5, fRep r_api_Grid (.agg #[iv r61.W, iv r61.H, .slice ad84 r61.Bits.length cp85]) r61, fRep r_api_Grid (.agg #[iv r61.W, iv r61.H, .slice ad89 r61.Bits.length cp90]) r61] [0, 1, 2] [13, 3, 1] S (wN rfl) rfl callee13 rfl (by decide) rfl rfl (fun E1 w1 S1 => c_block_Fill E1 w1 r5 (.agg #[iv r5.W, iv r5.H, .slice ad10 r5.Bits.length cp11]) r61 (.agg #[iv r61.W, iv r61.H, .slice ad84 r61.Bits.length cp85]) r61 (.agg #[iv r61.W, iv r61.H, .slice ad89 r61.Bits.length cp90]) r73 hx74 S1) rfl (lb rfl) fun u145 a w S => ?_
      obtain ⟨u146, rfl, hu147⟩ := S.mem.know (i := 0) (e := fRep r_api_Grid (u145) r73.1) rfl
      have S := S.learn (fRep (rL rB) u146 r73.1.Bits) hu147
      obtain ⟨ad148, cp149, _, rfl, _⟩ := hu147
      refine leafL ⟨rfl, _, _, .inl ⟨27, (.tuple #[.agg #[iv r73.1.W, iv r73.1.H, .slice ad148 r73.1.Bits.length cp149], iv r73.2]), [(4, 23, .tuple #[.agg #[iv r73.1.W, iv r73.1.H, .slice ad148 r73.1.Bits.length cp149], iv r73.2]), (5, 28, .agg #[iv r73.1.W, iv r73.1.H, .slice ad148 r73.1.Bits.length cp149]), (6, 29, iv r73.2)], rfl, S, hz_of rfl, ?_⟩⟩
      exact nodePerm (nd1 b144 ad148 cp149 ad89 cp90 ad84 cp85) [4, 0, 1, 2, 3, 5, 6, 7] [0, 1, 2] [0, 1, 2, 3, 4, 5, 6, 7, 8, 9, 10, 11, 12, 13, 14, 15, 16] (by decide) (by decide) rfl rfl rfl
    refine nodeCut (fun N W L D => ∀ b150 ad84 cp85, N [7, 1] ((7, 4, .pointer (some ⟨b150, 0, none⟩)) :: (1, 25, .agg #[iv r61.W, iv r61.H, .slice ad84 r61.Bits.length cp85]) :: W) ((eBox b150 24 [iv 0, iv 0, .slice none 0 0]) :: L) ((fRep (rL rB) (.slice ad84 r61.Bits.length cp85) r61.Bits) :: (fRep r_api_Grid (.agg #[iv r61.W, iv r61.H, .slice ad84 r61.Bits.length cp85]) r61) :: D)) (fun b150 ad84 cp85 => ?_) fun nd3 => ?_
    · refine node_by (A := anc_raddlelaw13_alive_1) (nf := [1, 2, 3, 7, 8]) (Y := [7, 1]) 10 (by kernel_rfl) (by kernel_rfl) (by kernel_rfl) (by kernel_rfl) (by kernel_rfl) [7, 1, 0] (by kernel_rfl) (by decide) (by decide) (aF 0 9 (by decide) ?_ (aY 1 8 (by decide) (aN 2 7 (by decide) ?_ (aB 3 6 2 (by decide) (aE 4 5 2 (by decide) (aE 5 4 2 (by decide) (aE 6 3 2 (by decide) (aY 7 2 (by decide) (aB 8 1 2 (by decide) (aE 9 0 2 (by decide) (trivial))))))))))) [] (fun q hq => by cases hq) (fun hY => absurd (hY 2 (by decide)) (by decide))
      · refine fI 24 (.agg #[iv r5.W, iv r5.H, .slice ad10 r5.Bits.length cp11]) [(1, .pointer (some ⟨b12, 0, none⟩))] 2 [none] rfl rfl rfl rfl rfl rfl fun G a w S => ?_
        refine sLoadN (p := b12) (off := 0) (T := 24) (vs := [iv r5.W, iv r5.H, .slice ad10 r5.Bits.length cp11]) 2 [iv r5.W, iv r5.H, .slice ad10 r5.Bits.length cp11] S (wN rfl) rfl rfl rfl rfl rfl rfl rfl (lb rfl) fun a S => ?_
        exact leafL ⟨rfl, S⟩
      refine ⟨_, [], rfl, (srcs_of [] rfl rfl rfl), fun G a w S => ?_⟩
      refine sCall (X := Value) (f := 40) (vs := [iv 2, iv 2]) (val := c_raddleref01_Zero_val r61) (B' := fun _ => []) (D' := c_raddleref01_Zero_D r61) [] [eBox b150 24 [iv 0, iv 0, .slice none 0 0], eBox b59 24 [iv r32.1.W, iv r32.1.H, .slice ad57 r32.1.Bits.length cp58], eBox b12 24 [iv r5.W, iv r5.H, .slice ad10 r5.Bits.length cp11]] [] [0, 1, 2] [] S (wN rfl) rfl callee40 rfl (by decide) rfl rfl (fun E1 w1 S1 => c_raddleref01_Zero E1 w1 2 2 r61 hx62 S1) rfl (lb rfl) fun u151 a w S => ?_
      obtain ⟨u152, rfl, hu153⟩ := S.mem.know (i := 0) (e := fRep r_api_Grid (u151) r61) rfl
      have S := S.learn (fRep (rL rB) u152 r61.Bits) hu153
      obtain ⟨ad154, cp155, _, rfl, _⟩ := hu153
      refine leafL ⟨rfl, _, _, .inl ⟨26, (.agg #[iv r61.W, iv r61.H, .slice ad154 r61.Bits.length cp155]), [], rfl, S, hz_of rfl, ?_⟩⟩
      exact nodePerm (nd2 b150 ad154 cp155 ad84 cp85) [1, 0, 2, 3] [0, 1, 2] [0, 1, 2, 3, 4, 5, 6, 7, 8, 9, 10, 11, 12, 13, 14] (by decide) (by decide) rfl rfl rfl
    refine node_by (A := anc_raddlelaw13_alive_1) (nf := [1, 2, 3, 7, 8]) (Y := []) (W := [(0, 24, .agg #[iv r5.W, iv r5.H, .slice ad10 r5.Bits.length cp11])]) 10 (by kernel_rfl) (by kernel_rfl) (by kernel_rfl) (by kernel_rfl) (by kernel_rfl) [0] (by kernel_rfl) (by decide) (by decide) (aF 0 9 (by decide) ?_ (aN 1 8 (by decide) ?_ (aB 2 7 1 (by decide) (aB 3 6 1 (by decide) (aE 4 5 1 (by decide) (aE 5 4 1 (by decide) (aE 6 3 1 (by decide) (aN 7 2 (by decide) ?_ (aB 8 1 1 (by decide) (aE 9 0 1 (by decide) (trivial))))))))))) [] (fun q hq => by cases hq) (fun hY => absurd (hY 1 (by decide)) (by decide))
    · refine fI 24 (.agg #[iv r5.W, iv r5.H, .slice ad10 r5.Bits.length cp11]) [(1, .pointer (some ⟨b12, 0, none⟩))] 0 [none] rfl rfl rfl rfl rfl rfl fun G a w S => ?_
      refine sLoadN (p := b12) (off := 0) (T := 24) (vs := [iv r5.W, iv r5.H, .slice ad10 r5.Bits.length cp11]) 1 [iv r5.W, iv r5.H, .slice ad10 r5.Bits.length cp11] S (wN rfl) rfl rfl rfl rfl rfl rfl rfl (lb rfl) fun a S => ?_
      exact leafL ⟨rfl, S⟩
    · refine ⟨_, [], rfl, (srcs_of [] rfl rfl rfl), fun G a w S => ?_⟩
      refine sCall (X := Value) (f := 40) (vs := [iv 2, iv 2]) (val := c_raddleref01_Zero_val r61) (B' := fun _ => []) (D' := c_raddleref01_Zero_D r61) [] [eBox b59 24 [iv r32.1.W, iv r32.1.H, .slice ad57 r32.1.Bits.length cp58], eBox b12 24 [iv r5.W, iv r5.H, .slice ad10 r5.Bits.length cp11]] [] [0, 1] [] S (wN rfl) rfl callee40 rfl (by decide) rfl rfl (fun E1 w1 S1 => c_raddleref01_Zero E1 w1 2 2 r61 hx62 S1) rfl (lb rfl) fun u81 a w S => ?_
      obtain ⟨u82, rfl, hu83⟩ := S.mem.know (i := 0) (e := fRep r_api_Grid (u81) r61) rfl
      have S := S.learn (fRep (rL rB) u82 r61.Bits) hu83
      obtain ⟨ad84, cp85, _, rfl, _⟩ := hu83
      refine leafL ⟨rfl, _, _, .inl ⟨25, (.agg #[iv r61.W, iv r61.H, .slice ad84 r61.Bits.length cp85]), [], rfl, S, hz_of rfl, ?_⟩⟩
      refine node_by (A := anc_raddlelaw13_alive_1) (nf := [1, 2, 3, 7, 8]) (Y := [1]) 10 (by kernel_rfl) (by kernel_rfl) (by kernel_rfl) (by kernel_rfl) (by kernel_rfl) [1, 0] (by kernel_rfl) (by decide) (by decide) (aF 0 9 (by decide) ?_ (aY 1 8 (by decide) (aN 2 7 (by decide) ?_ (aB 3 6 2 (by decide) (aE 4 5 2 (by decide) (aE 5 4 2 (by decide) (aE 6 3 2 (by decide) (aN 7 2 (by decide) ?_ (aB 8 1 2 (by decide) (aE 9 0 2 (by decide) (trivial))))))))))) [] (fun q hq => by cases hq) (fun hY => absurd (hY 2 (by decide)) (by decide))
      · refine fI 24 (.agg #[iv r5.W, iv r5.H, .slice ad10 r5.Bits.length cp11]) [(1, .pointer (some ⟨b12, 0, none⟩))] 1 [none] rfl rfl rfl rfl rfl rfl fun G a w S => ?_
        refine sLoadN (p := b12) (off := 0) (T := 24) (vs := [iv r5.W, iv r5.H, .slice ad10 r5.Bits.length cp11]) 1 [iv r5.W, iv r5.H, .slice ad10 r5.Bits.length cp11] S (wN rfl) rfl rfl rfl rfl rfl rfl rfl (lb rfl) fun a S => ?_
        exact leafL ⟨rfl, S⟩
      · refine ⟨_, [], rfl, (srcs_of [] rfl rfl rfl), fun G a w S => ?_⟩
        refine sCall (X := Value) (f := 40) (vs := [iv 2, iv 2]) (val := c_raddleref01_Zero_val r61) (B' := fun _ => []) (D' := c_raddleref01_Zero_D r61) [] [eBox b59 24 [iv r32.1.W, iv r32.1.H, .slice ad57 r32.1.Bits.length cp58], eBox b12 24 [iv r5.W, iv r5.H, .slice ad10 r5.Bits.length cp11]] [] [0, 1] [] S (wN rfl) rfl callee40 rfl (by decide) rfl rfl (fun E1 w1 S1 => c_raddleref01_Zero E1 w1 2 2 r61 hx62 S1) rfl (lb rfl) fun u86 a w S => ?_
        obtain ⟨u87, rfl, hu88⟩ := S.mem.know (i := 0) (e := fRep r_api_Grid (u86) r61) rfl
        have S := S.learn (fRep (rL rB) u87 r61.Bits) hu88
        obtain ⟨ad89, cp90, _, rfl, _⟩ := hu88
        refine leafL ⟨rfl, _, _, .inl ⟨26, (.agg #[iv r61.W, iv r61.H, .slice ad89 r61.Bits.length cp90]), [], rfl, S, hz_of rfl, ?_⟩⟩
        refine node_by (A := anc_raddlelaw13_alive_1) (nf := [1, 2, 3, 7, 8]) (Y := [2, 1]) 10 (by kernel_rfl) (by kernel_rfl) (by kernel_rfl) (by kernel_rfl) (by kernel_rfl) [2, 1, 0] (by kernel_rfl) (by decide) (by decide) (aF 0 9 (by decide) ?_ (aY 1 8 (by decide) (aY 2 7 (by decide) (aN 3 6 (by decide) ?_ (aE 4 5 3 (by decide) (aE 5 4 3 (by decide) (aE 6 3 3 (by decide) (aN 7 2 (by decide) ?_ (aB 8 1 3 (by decide) (aE 9 0 3 (by decide) (trivial))))))))))) [] (fun q hq => by cases hq) (fun hY => absurd (hY 3 (by decide)) (by decide))
        · refine fI 24 (.agg #[iv r5.W, iv r5.H, .slice ad10 r5.Bits.length cp11]) [(1, .pointer (some ⟨b12, 0, none⟩))] 2 [none] rfl rfl rfl rfl rfl rfl fun G a w S => ?_
          refine sLoadN (p := b12) (off := 0) (T := 24) (vs := [iv r5.W, iv r5.H, .slice ad10 r5.Bits.length cp11]) 1 [iv r5.W, iv r5.H, .slice ad10 r5.Bits.length cp11] S (wN rfl) rfl rfl rfl rfl rfl rfl rfl (lb rfl) fun a S => ?_
          exact leafL ⟨rfl, S⟩
        · refine ⟨_, [(24, .agg #[iv r5.W, iv r5.H, .slice ad10 r5.Bits.length cp11]), (25, .agg #[iv r61.W, iv r61.H, .slice ad84 r61.Bits.length cp85]), (26, .agg #[iv r61.W, iv r61.H, .slice ad89 r61.Bits.length cp90])], rfl, (srcs_of [some 2, some 1, some 0] rfl rfl rfl), fun G a w S => ?_⟩
          refine sCall (X := Value) (f := 13) (vs := [.agg #[iv r5.W, iv r5.H, .slice ad10 r5.Bits.length cp11], .agg #[iv r61.W, iv r61.H, .slice ad84 r61.Bits.length cp85], .agg #[iv r61.W, iv r61.H, .slice ad89 r61.Bits.length cp90]]) (val := c_block_Fill_val r73) (B' := fun _ => []) (D' := c_block_Fill_D r73) [] [eBox b59 24 [iv r32.1.W, iv r32.1.H, .slice ad57 r32.1.Bits.length cp58], eBox b12 24 [iv r5.W, iv r5.H, .slice ad10 r5.Bits.length cp11]] [fRep r_api_Grid (.agg #[iv r5.W, iv r5.H, .slice ad10 r5.Bits.length cp11]) r5, fRep r_api_Grid (.agg #[iv r61.W, iv r61.H, .slice ad84 r61.Bits.length cp85]) r61, fRep r_api_Grid (.agg #[iv r61.W, iv r61.H, .slice ad89 r61.Bits.length cp90]) r61] [0, 1] [13, 3, 1] S (wN rfl) rfl callee13 rfl (by decide) rfl rfl (fun E1 w1 S1 => c_block_Fill E1 w1 r5 (.agg #[iv r5.W, iv r5.H, .slice ad10 r5.Bits.length cp11]) r61 (.agg #[iv r61.W, iv r61.H, .slice ad84 r61.Bits.length cp85]) r61 (.agg #[iv r61.W, iv r61.H, .slice ad89 r61.Bits.length cp90]) r73 hx74 S1) rfl (lb rfl) fun u91 a w S => ?_
          obtain ⟨u92, rfl, hu93⟩ := S.mem.know (i := 0) (e := fRep r_api_Grid (u91) r73.1) rfl
          have S := S.learn (fRep (rL rB) u92 r73.1.Bits) hu93
          obtain ⟨ad94, cp95, _, rfl, _⟩ := hu93
          refine leafL ⟨rfl, _, _, .inl ⟨27, (.tuple #[.agg #[iv r73.1.W, iv r73.1.H, .slice ad94 r73.1.Bits.length cp95], iv r73.2]), [(4, 23, .tuple #[.agg #[iv r73.1.W, iv r73.1.H, .slice ad94 r73.1.Bits.length cp95], iv r73.2]), (5, 28, .agg #[iv r73.1.W, iv r73.1.H, .slice ad94 r73.1.Bits.length cp95]), (6, 29, iv r73.2)], rfl, S, hz_of rfl, ?_⟩⟩
          refine node_by (A := anc_raddlelaw13_alive_1) (nf := [1, 2, 3, 7, 8]) (Y := [3, 2, 1]) 10 (by kernel_rfl) (by kernel_rfl) (by kernel_rfl) (by kernel_rfl) (by kernel_rfl) [4, 5, 6, 3, 2, 1, 0] (by kernel_rfl) (by decide) (by decide) (aD 0 9 3 (by decide) (aY 1 8 (by decide) (aY 2 7 (by decide) (aY 3 6 (by decide) (aF 4 5 (by decide) ?_ (aF 5 4 (by decide) ?_ (aF 6 3 (by decide) ?_ (aN 7 2 (by decide) ?_ (aB 8 1 7 (by decide) (aE 9 0 7 (by decide) (trivial))))))))))) [] (fun q hq => by cases hq) (fun hY => absurd (hY 7 (by decide)) (by decide))
          · refine fI 23 (.tuple #[.agg #[iv r73.1.W, iv r73.1.H, .slice ad94 r73.1.Bits.length cp95], iv r73.2]) [(27, .tuple #[.agg #[iv r73.1.W, iv r73.1.H, .slice ad94 r73.1.Bits.length cp95], iv r73.2])] 0 [some 3] rfl rfl rfl rfl rfl rfl fun G a w S => ?_
            refine sMove (.tuple #[.agg #[iv r73.1.W, iv r73.1.H, .slice ad94 r73.1.Bits.length cp95], iv r73.2]) S (wN rfl) (.inl rfl) rfl rfl (lb rfl) fun a S => ?_
            exact leafL ⟨rfl, S⟩
          · refine fI 28 (.agg #[iv r73.1.W, iv r73.1.H, .slice ad94 r73.1.Bits.length cp95]) [(23, .tuple #[.agg #[iv r73.1.W, iv r73.1.H, .slice ad94 r73.1.Bits.length cp95], iv r73.2])] 1 [some 0] rfl rfl rfl rfl rfl rfl fun G a w S => ?_
            refine sExtract (vs := [.agg #[iv r73.1.W, iv r73.1.H, .slice ad94 r73.1.Bits.length cp95], iv r73.2]) (.agg #[iv r73.1.W, iv r73.1.H, .slice ad94 r73.1.Bits.length cp95]) S (wN rfl) rfl rfl rfl rfl (lb rfl) fun a S => ?_
            exact leafL ⟨rfl, S⟩
          · refine fI 29 (iv r73.2) [(23, .tuple #[.agg #[iv r73.1.W, iv r73.1.H, .slice ad94 r73.1.Bits.length cp95], iv r73.2])] 2 [some 0] rfl rfl rfl rfl rfl rfl fun G a w S => ?_
            refine sExtract (vs := [.agg #[iv r73.1.W, iv r73.1.H, .slice ad94 r73.1.Bits.length cp95], iv r73.2]) (iv r73.2) S (wN rfl) rfl rfl rfl rfl (lb rfl) fun a S => ?_
            exact leafL ⟨rfl, S⟩
          refine ⟨_, [], rfl, (srcs_of [] rfl rfl rfl), fun G a w S => ?_⟩
          refine sAlloc (.agg #[iv 0, iv 0, .slice none 0 0]) S (wN rfl) rfl rfl [iv 0, iv 0, .slice none 0 0] rfl rfl (lb rfl) fun a b96 w S => ?_
          refine leafL ⟨rfl, _, _, .inl ⟨4, (.pointer (some ⟨b96, 0, none⟩)), [], rfl, S, hz_of rfl, ?_⟩⟩
          exact nd1 b96 ad94 cp95 ad89 cp90 ad84 cp85
        refine ⟨_, [], rfl, (srcs_of [] rfl rfl rfl), fun G a w S => ?_⟩
        refine sAlloc (.agg #[iv 0, iv 0, .slice none 0 0]) S (wN rfl) rfl rfl [iv 0, iv 0, .slice none 0 0] rfl rfl (lb rfl) fun a b144 w S => ?_
        refine leafL ⟨rfl, _, _, .inl ⟨4, (.pointer (some ⟨b144, 0, none⟩)), [], rfl, S, hz_of rfl, ?_⟩⟩
        exact nd2 b144 ad89 cp90 ad84 cp85
      refine ⟨_, [], rfl, (srcs_of [] rfl rfl rfl), fun G a w S => ?_⟩
      refine sAlloc (.agg #[iv 0, iv 0, .slice none 0 0]) S (wN rfl) rfl rfl [iv 0, iv 0, .slice none 0 0] rfl rfl (lb rfl) fun a b150 w S => ?_
      refine leafL ⟨rfl, _, _, .inl ⟨4, (.pointer (some ⟨b150, 0, none⟩)), [], rfl, S, hz_of rfl, ?_⟩⟩
      exact nd3 b150 ad84 cp85
    refine ⟨_, [], rfl, (srcs_of [] rfl rfl rfl), fun G a w S => ?_⟩
    refine sAlloc (.agg #[iv 0, iv 0, .slice none 0 0]) S (wN rfl) rfl rfl [iv 0, iv 0, .slice none 0 0] rfl rfl (lb rfl) fun a b156 w S => ?_
    refine leafL ⟨rfl, _, _, .inl ⟨4, (.pointer (some ⟨b156, 0, none⟩)), [], rfl, S, hz_of rfl, ?_⟩⟩
    refine node_by (A := anc_raddlelaw13_alive_1) (nf := [1, 2, 3, 7, 8]) (Y := [7]) 10 (by kernel_rfl) (by kernel_rfl) (by kernel_rfl) (by kernel_rfl) (by kernel_rfl) [7, 0] (by kernel_rfl) (by decide) (by decide) (aF 0 9 (by decide) ?_ (aN 1 8 (by decide) ?_ (aB 2 7 1 (by decide) (aB 3 6 1 (by decide) (aE 4 5 1 (by decide) (aE 5 4 1 (by decide) (aE 6 3 1 (by decide) (aY 7 2 (by decide) (aB 8 1 1 (by decide) (aE 9 0 1 (by decide) (trivial))))))))))) [] (fun q hq => by cases hq) (fun hY => absurd (hY 1 (by decide)) (by decide))
    · refine fI 24 (.agg #[iv r5.W, iv r5.H, .slice ad10 r5.Bits.length cp11]) [(1, .pointer (some ⟨b12, 0, none⟩))] 1 [none] rfl rfl rfl rfl rfl rfl fun G a w S => ?_
      refine sLoadN (p := b12) (off := 0) (T := 24) (vs := [iv r5.W, iv r5.H, .slice ad10 r5.Bits.length cp11]) 2 [iv r5.W, iv r5.H, .slice ad10 r5.Bits.length cp11] S (wN rfl) rfl rfl rfl rfl rfl rfl rfl (lb rfl) fun a S => ?_
      exact leafL ⟨rfl, S⟩
    refine ⟨_, [], rfl, (srcs_of [] rfl rfl rfl), fun G a w S => ?_⟩
    refine sCall (X := Value) (f := 40) (vs := [iv 2, iv 2]) (val := c_raddleref01_Zero_val r61) (B' := fun _ => []) (D' := c_raddleref01_Zero_D r61) [] [eBox b156 24 [iv 0, iv 0, .slice none 0 0], eBox b59 24 [iv r32.1.W, iv r32.1.H, .slice ad57 r32.1.Bits.length cp58], eBox b12 24 [iv r5.W, iv r5.H, .slice ad10 r5.Bits.length cp11]] [] [0, 1, 2] [] S (wN rfl) rfl callee40 rfl (by decide) rfl rfl (fun E1 w1 S1 => c_raddleref01_Zero E1 w1 2 2 r61 hx62 S1) rfl (lb rfl) fun u157 a w S => ?_
    obtain ⟨u158, rfl, hu159⟩ := S.mem.know (i := 0) (e := fRep r_api_Grid (u157) r61) rfl
    have S := S.learn (fRep (rL rB) u158 r61.Bits) hu159
    obtain ⟨ad160, cp161, _, rfl, _⟩ := hu159
    refine leafL ⟨rfl, _, _, .inl ⟨25, (.agg #[iv r61.W, iv r61.H, .slice ad160 r61.Bits.length cp161]), [], rfl, S, hz_of rfl, ?_⟩⟩
    exact nodePerm (nd3 b156 ad160 cp161) [1, 0, 2] [0, 1, 2] [0, 1, 2, 3, 4, 5, 6, 7, 8, 9, 10, 11, 12] (by decide) (by decide) rfl rfl rfl
  refine nodeCut (fun N W L D => ∀ b162 ad52 cp53 ad47 cp48 ad45 cp46 ad40 cp41, N [9, 4, 3, 2, 1] ((9, 2, .pointer (some ⟨b162, 0, none⟩)) :: (4, 19, .agg #[iv r25.W, iv r25.H, .slice ad52 r25.Bits.length cp53]) :: (3, 18, .slice ad47 [false].length cp48) :: (2, 17, .agg #[iv r16.W, iv r16.H, .slice ad45 r16.Bits.length cp46]) :: (1, 16, .slice ad40 [true].length cp41) :: W) ((eBox b162 24 [iv 0, iv 0, .slice none 0 0]) :: L) ((fRep (rL rB) (.slice ad52 r25.Bits.length cp53) r25.Bits) :: (fRep r_api_Grid (.agg #[iv r25.W, iv r25.H, .slice ad52 r25.Bits.length cp53]) r25) :: (fRep (rL rB) (.slice ad47 [false].length cp48) [false]) :: (fRep (rL rB) (.slice ad45 r16.Bits.length cp46) r16.Bits) :: (fRep r_api_Grid (.agg #[iv r16.W, iv r16.H, .slice ad45 r16.Bits.length cp46]) r16) :: (fRep (rL rB) (.slice ad40 [true].length cp41) [true]) :: D)) (fun b162 ad52 cp53 ad47 cp48 ad45 cp46 ad40 cp41 => ?_) fun nd3 => ?_
  · refine node_by (A := anc_raddlelaw13_alive_0) (nf := [1, 2, 3, 4, 5, 9, 10]) (Y := [9, 4, 3, 2, 1]) 12 (by kernel_rfl) (by kernel_rfl) (by kernel_rfl) (by kernel_rfl) (by kernel_rfl) [9, 4, 3, 2, 1, 0] (by kernel_rfl) (by decide) (by decide) (aF 0 11 (by decide) ?_ (aY 1 10 (by decide) (aY 2 9 (by decide) (aY 3 8 (by decide) (aY 4 7 (by decide) (aN 5 6 (by decide) ?_ (aE 6 5 5 (by decide) (aE 7 4 5 (by decide) (aE 8 3 5 (by decide) (aY 9 2 (by decide) (aB 10 1 5 (by decide) (aE 11 0 5 (by decide) (trivial))))))))))))) [] (fun q hq => by cases hq) (fun hY => absurd (hY 5 (by decide)) (by decide))
    · refine fI 15 (.agg #[iv r5.W, iv r5.H, .slice ad10 r5.Bits.length cp11]) [(1, .pointer (some ⟨b12, 0, none⟩))] 5 [none] rfl rfl rfl rfl rfl rfl fun G a w S => ?_
      refine sLoadN (p := b12) (off := 0) (T := 24) (vs := [iv r5.W, iv r5.H, .slice ad10 r5.Bits.length cp11]) 1 [iv r5.W, iv r5.H, .slice ad10 r5.Bits.length cp11] S (wN rfl) rfl rfl rfl rfl rfl rfl rfl (lb rfl) fun a S => ?_
      exact leafL ⟨rfl, S⟩
    refine ⟨_, [(15, .agg #[iv r5.W, iv r5.H, .slice ad10 r5.Bits.length cp11]), (17, .agg #[iv r16.W, iv r16.H, .slice ad45 r16.Bits.length cp46]), (19, .agg #[iv r25.W, iv r25.H, .slice ad52 r25.Bits.length cp53])], rfl, (srcs_of [some 5, some 3, some 1] rfl rfl rfl), fun G a w S => ?_⟩
    refine sCall (X := Value) (f := 13) (vs := [.agg #[iv r5.W, iv r5.H, .slice ad10 r5.Bits.length cp11], .agg #[iv r16.W, iv r16.H, .slice ad45 r16.Bits.length cp46], .agg #[iv r25.W, iv r25.H, .slice ad52 r25.Bits.length cp53]]) (val := c_block_Fill_val r32) (B' := fun _ => []) (D' := c_block_Fill_D r32) [] [eBox b162 24 [iv 0, iv 0, .slice none 0 0], eBox b12 24 [iv r5.W, iv r5.H, .slice ad10 r5.Bits.length cp11]] [fRep r_api_Grid (.agg #[iv r5.W, iv r5.H, .slice ad10 r5.Bits.length cp11]) r5, fRep r_api_Grid (.agg #[iv r16.W, iv r16.H, .slice ad45 r16.Bits.length cp46]) r16, fRep r_api_Grid (.agg #[iv r25.W, iv r25.H, .slice ad52 r25.Bits.length cp53]) r25] [0, 1] [7, 4, 1] S (wN rfl) rfl callee13 rfl (by decide) rfl rfl (fun E1 w1 S1 => c_block_Fill E1 w1 r5 (.agg #[iv r5.W, iv r5.H, .slice ad10 r5.Bits.length cp11]) r16 (.agg #[iv r16.W, iv r16.H, .slice ad45 r16.Bits.length cp46]) r25 (.agg #[iv r25.W, iv r25.H, .slice ad52 r25.Bits.length cp53]) r32 hx33 S1) rfl (lb rfl) fun u163 a w S => ?_
    obtain ⟨u164, rfl, hu165⟩ := S.mem.know (i := 0) (e := fRep r_api_Grid (u163) r32.1) rfl
    have S := S.learn (fRep (rL rB) u164 r32.1.Bits) hu165
    obtain ⟨ad166, cp167, _, rfl, _⟩ := hu165
    refine leafL ⟨rfl, _, _, .inl ⟨20, (.tuple #[.agg #[iv r32.1.W, iv r32.1.H, .slice ad166 r32.1.Bits.length cp167], iv r32.2]), [(6, 14, .tuple #[.agg #[iv r32.1.W, iv r32.1.H, .slice ad166 r32.1.Bits.length cp167], iv r32.2]), (7, 21, .agg #[iv r32.1.W, iv r32.1.H, .slice ad166 r32.1.Bits.length cp167]), (8, 22, iv r32.2)], rfl, S, hz_of rfl, ?_⟩⟩
    exact nodePerm (nd2 b162 ad166 cp167 ad52 cp53 ad47 cp48 ad45 cp46 ad40 cp41) [4, 0, 1, 2, 3, 5, 6, 7, 8, 9] [0, 1] [0, 1, 2, 3, 4, 5, 6, 7, 8, 9, 10] (by decide) (by decide) rfl rfl rfl
  refine nodeCut (fun N W L D => ∀ b168 ad47 cp48 ad45 cp46 ad40 cp41, N [9, 3, 2, 1] ((9, 2, .pointer (some ⟨b168, 0, none⟩)) :: (3, 18, .slice ad47 [false].length cp48) :: (2, 17, .agg #[iv r16.W, iv r16.H, .slice ad45 r16.Bits.length cp46]) :: (1, 16, .slice ad40 [true].length cp41) :: W) ((eBox b168 24 [iv 0, iv 0, .slice none 0 0]) :: (eRow rB 4 (.slice ad47 [false].length cp48) [false]) :: L) ((fRep (rL rB) (.slice ad45 r16.Bits.length cp46) r16.Bits) :: (fRep r_api_Grid (.agg #[iv r16.W, iv r16.H, .slice ad45 r16.Bits.length cp46]) r16) :: (fRep (rL rB) (.slice ad40 [true].length cp41) [true]) :: D)) (fun b168 ad47 cp48 ad45 cp46 ad40 cp41 => ?_) fun nd4 => ?_
  · refine node_by (A := anc_raddlelaw13_alive_0) (nf := [1, 2, 3, 4, 5, 9, 10]) (Y := [9, 3, 2, 1]) 12 (by kernel_rfl) (by kernel_rfl) (by kernel_rfl) (by kernel_rfl) (by kernel_rfl) [9, 3, 2, 1, 0] (by kernel_rfl) (by decide) (by decide) (aF 0 11 (by decide) ?_ (aY 1 10 (by decide) (aY 2 9 (by decide) (aY 3 8 (by decide) (aN 4 7 (by decide) ?_ (aB 5 6 4 (by decide) (aE 6 5 4 (by decide) (aE 7 4 4 (by decide) (aE 8 3 4 (by decide) (aY 9 2 (by decide) (aB 10 1 4 (by decide) (aE 11 0 4 (by decide) (trivial))))))))))))) [] (fun q hq => by cases hq) (fun hY => absurd (hY 4 (by decide)) (by decide))
    · refine fI 15 (.agg #[iv r5.W, iv r5.H, .slice ad10 r5.Bits.length cp11]) [(1, .pointer (some ⟨b12, 0, none⟩))] 4 [none] rfl rfl rfl rfl rfl rfl fun G a w S => ?_
      refine sLoadN (p := b12) (off := 0) (T := 24) (vs := [iv r5.W, iv r5.H, .slice ad10 r5.Bits.length cp11]) 2 [iv r5.W, iv r5.H, .slice ad10 r5.Bits.length cp11] S (wN rfl) rfl rfl rfl rfl rfl rfl rfl (lb rfl) fun a S => ?_
      exact leafL ⟨rfl, S⟩
    refine ⟨_, [(18, .slice ad47 [false].length cp48)], rfl, (srcs_of [some 1] rfl rfl rfl), fun G a w S => ?_⟩
    have S := S.shutR (r := rB) (T := 4) (v := .slice ad47 [false].length cp48) (xs := [false]) 1 rfl
    refine sCall (X := Value) (f := 39) (vs := [.slice ad47 [false].length cp48]) (val := c_raddlelaw13_row_val r25) (B' := fun _ => []) (D' := c_raddlelaw13_row_D r25) [] [eBox b168 24 [iv 0, iv 0, .slice none 0 0], eBox b12 24 [iv r5.W, iv r5.H, .slice ad10 r5.Bits.length cp11]] [fRep (rL rB) (.slice ad47 [false].length cp48) [false]] [0, 1] [0] S (wN rfl) rfl callee39 rfl (by decide) rfl rfl (fun E1 w1 S1 => c_raddlelaw13_row E1 w1 [false] (.slice ad47 [false].length cp48) r25 hx26 S1) rfl (lb rfl) fun u169 a w S => ?_
    obtain ⟨u170, rfl, hu171⟩ := S.mem.know (i := 0) (e := fRep r_api_Grid (u169) r25) rfl
    have S := S.learn (fRep (rL rB) u170 r25.Bits) hu171
    obtain ⟨ad172, cp173, _, rfl, _⟩ := hu171
    refine leafL ⟨rfl, _, _, .inl ⟨19, (.agg #[iv r25.W, iv r25.H, .slice ad172 r25.Bits.length cp173]), [], rfl, S, hz_of rfl, ?_⟩⟩
    exact nodePerm (nd3 b168 ad172 cp173 ad47 cp48 ad45 cp46 ad40 cp41) [1, 0, 2, 3, 4, 5] [0, 1] [0, 1, 2, 3, 4, 5, 6, 7, 8] (by decide) (by decide) rfl rfl rfl
  refine nodeCut (fun N W L D => ∀ ad47 cp48 ad45 cp46 ad40 cp41, N [3, 2, 1] ((3, 18, .slice ad47 [false].length cp48) :: (2, 17, .agg #[iv r16.W, iv r16.H, .slice ad45 r16.Bits.length cp46]) :: (1, 16, .slice ad40 [true].length cp41) :: W) ((eRow rB 4 (.slice ad47 [false].length cp48) [false]) :: L) ((fRep (rL rB) (.slice ad45 r16.Bits.length cp46) r16.Bits) :: (fRep r_api_Grid (.agg #[iv r16.W, iv r16.H, .slice ad45 r16.Bits.length cp46]) r16) :: (fRep (rL rB) (.slice ad40 [true].length cp41) [true]) :: D)) (fun ad47 cp48 ad45 cp46 ad40 cp41 => ?_) fun nd1 => ?_
  · refine node_by (A := anc_raddlelaw13_alive_0) (nf := [1, 2, 3, 4, 5, 9, 10]) (Y := [3, 2, 1]) 12 (by kernel_rfl) (by kernel_rfl) (by kernel_rfl) (by kernel_rfl) (by kernel_rfl) [3, 2, 1, 0] (by kernel_rfl) (by decide) (by decide) (aF 0 11 (by decide) ?_ (aY 1 10 (by decide) (aY 2 9 (by decide) (aY 3 8 (by decide) (aN 4 7 (by decide) ?_ (aB 5 6 4 (by decide) (aE 6 5 4 (by decide) (aE 7 4 4 (by decide) (aE 8 3 4 (by decide) (aN 9 2 (by decide) ?_ (aB 10 1 4 (by decide) (aE 11 0 4 (by decide) (trivial))))))))))))) [] (fun q hq => by cases hq) (fun hY => absurd (hY 4 (by decide)) (by decide))
    · refine fI 15 (.agg #[iv r5.W, iv r5.H, .slice ad10 r5.Bits.length cp11]) [(1, .pointer (some ⟨b12, 0, none⟩))] 3 [none] rfl rfl rfl rfl rfl rfl fun G a w S => ?_
      refine sLoadN (p := b12) (off := 0) (T := 24) (vs := [iv r5.W, iv r5.H, .slice ad10 r5.Bits.length cp11]) 1 [iv r5.W, iv r5.H, .slice ad10 r5.Bits.length cp11] S (wN rfl) rfl rfl rfl rfl rfl rfl rfl (lb rfl) fun a S => ?_
      exact leafL ⟨rfl, S⟩
    · refine ⟨_, [(18, .slice ad47 [false].length cp48)], rfl, (srcs_of [some 0] rfl rfl rfl), fun G a w S => ?_⟩
      have S := S.shutR (r := rB) (T := 4) (v := .slice ad47 [false].length cp48) (xs := [false]) 0 rfl
      refine sCall (X := Value) (f := 39) (vs := [.slice ad47 [false].length cp48]) (val := c_raddlelaw13_row_val r25) (B' := fun _ => []) (D' := c_raddlelaw13_row_D r25) [] [eBox b12 24 [iv r5.W, iv r5.H, .slice ad10 r5.Bits.length cp11]] [fRep (rL rB) (.slice ad47 [false].length cp48) [false]] [0] [0] S (wN rfl) rfl callee39 rfl (by decide) rfl rfl (fun E1 w1 S1 => c_raddlelaw13_row E1 w1 [false] (.slice ad47 [false].length cp48) r25 hx26 S1) rfl (lb rfl) fun u49 a w S => ?_
      obtain ⟨u50, rfl, hu51⟩ := S.mem.know (i := 0) (e := fRep r_api_Grid (u49) r25) rfl
      have S := S.learn (fRep (rL rB) u50 r25.Bits) hu51
      obtain ⟨ad52, cp53, _, rfl, _⟩ := hu51
      refine leafL ⟨rfl, _, _, .inl ⟨19, (.agg #[iv r25.W, iv r25.H, .slice ad52 r25.Bits.length cp53]), [], rfl, S, hz_of rfl, ?_⟩⟩
      refine node_by (A := anc_raddlelaw13_alive_0) (nf := [1, 2, 3, 4, 5, 9, 10]) (Y := [4, 3, 2, 1]) 12 (by kernel_rfl) (by kernel_rfl) (by kernel_rfl) (by kernel_rfl) (by kernel_rfl) [4, 3, 2, 1, 0] (by kernel_rfl) (by decide) (by decide) (aF 0 11 (by decide) ?_ (aY 1 10 (by decide) (aY 2 9 (by decide) (aY 3 8 (by decide) (aY 4 7 (by decide) (aN 5 6 (by decide) ?_ (aE 6 5 5 (by decide) (aE 7 4 5 (by decide) (aE 8 3 5 (by decide) (aN 9 2 (by decide) ?_ (aB 10 1 5 (by decide) (aE 11 0 5 (by decide) (trivial))))))))))))) [] (fun q hq => by cases hq) (fun hY => absurd (hY 5 (by decide)) (by decide))
      · refine fI 15 (.agg #[iv r5.W, iv r5.H, .slice ad10 r5.Bits.length cp11]) [(1, .pointer (some ⟨b12, 0, none⟩))] 4 [none] rfl rfl rfl rfl rfl rfl fun G a w S => ?_
        refine sLoadN (p := b12) (off := 0) (T := 24) (vs := [iv r5.W, iv r5.H, .slice ad10 r5.Bits.length cp11]) 0 [iv r5.W, iv r5.H, .slice ad10 r5.Bits.length cp11] S (wN rfl) rfl rfl rfl rfl rfl rfl rfl (lb rfl) fun a S => ?_
        exact leafL ⟨rfl, S⟩
      · refine ⟨_, [(15, .agg #[iv r5.W, iv r5.H, .slice ad10 r5.Bits.length cp11]), (17, .agg #[iv r16.W, iv r16.H, .slice ad45 r16.Bits.length cp46]), (19, .agg #[iv r25.W, iv r25.H, .slice ad52 r25.Bits.length cp53])], rfl, (srcs_of [some 4, some 2, some 0] rfl rfl rfl), fun G a w S => ?_⟩
        refine sCall (X := Value) (f := 13) (vs := [.agg #[iv r5.W, iv r5.H, .slice ad10 r5.Bits.length cp11], .agg #[iv r16.W, iv r16.H, .slice ad45 r16.Bits.length cp46], .agg #[iv r25.W, iv r25.H, .slice ad52 r25.Bits.length cp53]]) (val := c_block_Fill_val r32) (B' := fun _ => []) (D' := c_block_Fill_D r32) [] [eBox b12 24 [iv r5.W, iv r5.H, .slice ad10 r5.Bits.length cp11]] [fRep r_api_Grid (.agg #[iv r5.W, iv r5.H, .slice ad10 r5.Bits.length cp11]) r5, fRep r_api_Grid (.agg #[iv r16.W, iv r16.H, .slice ad45 r16.Bits.length cp46]) r16, fRep r_api_Grid (.agg #[iv r25.W, iv r25.H, .slice ad52 r25.Bits.length cp53]) r25] [0] [7, 4, 1] S (wN rfl) rfl callee13 rfl (by decide) rfl rfl (fun E1 w1 S1 => c_block_Fill E1 w1 r5 (.agg #[iv r5.W, iv r5.H, .slice ad10 r5.Bits.length cp11]) r16 (.agg #[iv r16.W, iv r16.H, .slice ad45 r16.Bits.length cp46]) r25 (.agg #[iv r25.W, iv r25.H, .slice ad52 r25.Bits.length cp53]) r32 hx33 S1) rfl (lb rfl) fun u54 a w S => ?_
        obtain ⟨u55, rfl, hu56⟩ := S.mem.know (i := 0) (e := fRep r_api_Grid (u54) r32.1) rfl
        have S := S.learn (fRep (rL rB) u55 r32.1.Bits) hu56
        obtain ⟨ad57, cp58, _, rfl, _⟩ := hu56
        refine leafL ⟨rfl, _, _, .inl ⟨20, (.tuple #[.agg #[iv r32.1.W, iv r32.1.H, .slice ad57 r32.1.Bits.length cp58], iv r32.2]), [(6, 14, .tuple #[.agg #[iv r32.1.W, iv r32.1.H, .slice ad57 r32.1.Bits.length cp58], iv r32.2]), (7, 21, .agg #[iv r32.1.W, iv r32.1.H, .slice ad57 r32.1.Bits.length cp58]), (8, 22, iv r32.2)], rfl, S, hz_of rfl, ?_⟩⟩
        refine node_by (A := anc_raddlelaw13_alive_0) (nf := [1, 2, 3, 4, 5, 9, 10]) (Y := [5, 4, 3, 2, 1]) 12 (by kernel_rfl) (by kernel_rfl) (by kernel_rfl) (by kernel_rfl) (by kernel_rfl) [6, 7, 8, 5, 4, 3, 2, 1, 0] (by kernel_rfl) (by decide) (by decide) (aD 0 11 5 (by decide) (aY 1 10 (by decide) (aY 2 9 (by decide) (aY 3 8 (by decide) (aY 4 7 (by decide) (aY 5 6 (by decide) (aF 6 5 (by decide) ?_ (aF 7 4 (by decide) ?_ (aF 8 3 (by decide) ?_ (aN 9 2 (by decide) ?_ (aB 10 1 9 (by decide) (aE 11 0 9 (by decide) (trivial))))))))))))) [] (fun q hq => by cases hq) (fun hY => absurd (hY 9 (by decide)) (by decide))
        · refine fI 14 (.tuple #[.agg #[iv r32.1.W, iv r32.1.H, .slice ad57 r32.1.Bits.length cp58], iv r32.2]) [(20, .tuple #[.agg #[iv r32.1.W, iv r32.1.H, .slice ad57 r32.1.Bits.length cp58], iv r32.2])] 0 [some 3] rfl rfl rfl rfl rfl rfl fun G a w S => ?_
          refine sMove (.tuple #[.agg #[iv r32.1.W, iv r32.1.H, .slice ad57 r32.1.Bits.length cp58], iv r32.2]) S (wN rfl) (.inl rfl) rfl rfl (lb rfl) fun a S => ?_
          exact leafL ⟨rfl, S⟩
        · refine fI 21 (.agg #[iv r32.1.W, iv r32.1.H, .slice ad57 r32.1.Bits.length cp58]) [(14, .tuple #[.agg #[iv r32.1.W, iv r32.1.H, .slice ad57 r32.1.Bits.length cp58], iv r32.2])] 1 [some 0] rfl rfl rfl rfl rfl rfl fun G a w S => ?_
          refine sExtract (vs := [.agg #[iv r32.1.W, iv r32.1.H, .slice ad57 r32.1.Bits.length cp58], iv r32.2]) (.agg #[iv r32.1.W, iv r32.1.H, .slice ad57 r32.1.Bits.length cp58]) S (wN rfl) rfl rfl rfl rfl (lb rfl) fun a S => ?_
          exact leafL ⟨rfl, S⟩
        · refine fI 22 (iv r32.2) [(14, .tuple #[.agg #[iv r32.1.W, iv r32.1.H, .slice ad57 r32.1.Bits.length cp58], iv r32.2])] 2 [some 0] rfl rfl rfl rfl rfl rfl fun G a w S => ?_
          refine sExtract (vs := [.agg #[iv r32.1.W, iv r32.1.H, .slice ad57 r32.1.Bits.length cp58], iv r32.2]) (iv r32.2) S (wN rfl) rfl rfl rfl rfl (lb rfl) fun a S => ?_
          exact leafL ⟨rfl, S⟩
        refine ⟨_, [], rfl, (srcs_of [] rfl rfl rfl), fun G a w S => ?_⟩
        refine sAlloc (.agg #[iv 0, iv 0, .slice none 0 0]) S (wN rfl) rfl rfl [iv 0, iv 0, .slice none 0 0] rfl rfl (lb rfl) fun a b59 w S => ?_
        refine leafL ⟨rfl, _, _, .inl ⟨2, (.pointer (some ⟨b59, 0, none⟩)), [], rfl, S, hz_of rfl, ?_⟩⟩
        exact nd2 b59 ad57 cp58 ad52 cp53 ad47 cp48 ad45 cp46 ad40 cp41
      refine ⟨_, [], rfl, (srcs_of [] rfl rfl rfl), fun G a w S => ?_⟩
      refine sAlloc (.agg #[iv 0, iv 0, .slice none 0 0]) S (wN rfl) rfl rfl [iv 0, iv 0, .slice none 0 0] rfl rfl (lb rfl) fun a b162 w S => ?_
      refine leafL ⟨rfl, _, _, .inl ⟨2, (.pointer (some ⟨b162, 0, none⟩)), [], rfl, S, hz_of rfl, ?_⟩⟩
      exact nd3 b162 ad52 cp53 ad47 cp48 ad45 cp46 ad40 cp41
    refine ⟨_, [], rfl, (srcs_of [] rfl rfl rfl), fun G a w S => ?_⟩
    refine sAlloc (.agg #[iv 0, iv 0, .slice none 0 0]) S (wN rfl) rfl rfl [iv 0, iv 0, .slice none 0 0] rfl rfl (lb rfl) fun a b168 w S => ?_
    refine leafL ⟨rfl, _, _, .inl ⟨2, (.pointer (some ⟨b168, 0, none⟩)), [], rfl, S, hz_of rfl, ?_⟩⟩
    exact nd4 b168 ad47 cp48 ad45 cp46 ad40 cp41
  refine nodeCut (fun N W L D => ∀ b174 ad45 cp46 ad40 cp41, N [9, 2, 1] ((9, 2, .pointer (some ⟨b174, 0, none⟩)) :: (2, 17, .agg #[iv r16.W, iv r16.H, .slice ad45 r16.Bits.length cp46]) :: (1, 16, .slice ad40 [true].length cp41) :: W) ((eBox b174 24 [iv 0, iv 0, .slice none 0 0]) :: L) ((fRep (rL rB) (.slice ad45 r16.Bits.length cp46) r16.Bits) :: (fRep r_api_Grid (.agg #[iv r16.W, iv r16.H, .slice ad45 r16.Bits.length cp46]) r16) :: (fRep (rL rB) (.slice ad40 [true].length cp41) [true]) :: D)) (fun b174 ad45 cp46 ad40 cp41 => ?_) fun nd5 => ?_
  · refine node_by (A := anc_raddlelaw13_alive_0) (nf := [1, 2, 3, 4, 5, 9, 10]) (Y := [9, 2, 1]) 12 (by kernel_rfl) (by kernel_rfl) (by kernel_rfl) (by kernel_rfl) (by kernel_rfl) [9, 2, 1, 0] (by kernel_rfl) (by decide) (by decide) (aF 0 11 (by decide) ?_ (aY 1 10 (by decide) (aY 2 9 (by decide) (aN 3 8 (by decide) ?_ (aB 4 7 3 (by decide) (aB 5 6 3 (by decide) (aE 6 5 3 (by decide) (aE 7 4 3 (by decide) (aE 8 3 3 (by decide) (aY 9 2 (by decide) (aB 10 1 3 (by decide) (aE 11 0 3 (by decide) (trivial))))))))))))) [] (fun q hq => by cases hq) (fun hY => absurd (hY 3 (by decide)) (by decide))
    · refine fI 15 (.agg #[iv r5.W, iv r5.H, .slice ad10 r5.Bits.length cp11]) [(1, .pointer (some ⟨b12, 0, none⟩))] 3 [none] rfl rfl rfl rfl rfl rfl fun G a w S => ?_
      refine sLoadN (p := b12) (off := 0) (T := 24) (vs := [iv r5.W, iv r5.H, .slice ad10 r5.Bits.length cp11]) 1 [iv r5.W, iv r5.H, .slice ad10 r5.Bits.length cp11] S (wN rfl) rfl rfl rfl rfl rfl rfl rfl (lb rfl) fun a S => ?_
      exact leafL ⟨rfl, S⟩
    refine ⟨_, [], rfl, (srcs_of [] rfl rfl rfl), fun G a w S => ?_⟩
    refine sLit (r := rB) (T := 4) (xs := [false]) [(0, .bool false)] 1 [.bool false] [.bool false] (.bool false) 1 S (wN rfl) rfl rfl Try.underlying22 rfl (by decide) (by decide) (by kernel_rfl) rfl (fun E1 w1 hE => All.cons rfl (All.nil _ _ _)) rfl rfl (lb rfl) fun a w ad175 cp176 S => ?_
    refine leafL ⟨rfl, _, _, .inl ⟨18, (.slice ad175 [false].length cp176), [], rfl, S, hz_of rfl, ?_⟩⟩
    exact nodePerm (nd4 b174 ad175 cp176 ad45 cp46 ad40 cp41) [1, 0, 2, 3, 4] [1, 0, 2] [0, 1, 2, 3, 4, 5] (by decide) (by decide) rfl rfl rfl
  refine nodeCut (fun N W L D => ∀ b184 ad177 cp178 ad40 cp41, N [9, 3, 1] ((9, 2, .pointer (some ⟨b184, 0, none⟩)) :: (3, 18, .slice ad177 [false].length cp178) :: (1, 16, .slice ad40 [true].length cp41) :: W) ((eBox b184 24 [iv 0, iv 0, .slice none 0 0]) :: (eRow rB 4 (.slice ad177 [false].length cp178) [false]) :: (eRow rB 4 (.slice ad40 [true].length cp41) [true]) :: L) (D)) (fun b184 ad177 cp178 ad40 cp41 => ?_) fun nd7 => ?_
  · refine node_by (A := anc_raddlelaw13_alive_0) (nf := [1, 2, 3, 4, 5, 9, 10]) (Y := [9, 3, 1]) 12 (by kernel_rfl) (by kernel_rfl) (by kernel_rfl) (by kernel_rfl) (by kernel_rfl) [9, 3, 1, 0] (by kernel_rfl) (by decide) (by decide) (aF 0 11 (by decide) ?_ (aY 1 10 (by decide) (aN 2 9 (by decide) ?_ (aY 3 8 (by decide) (aB 4 7 2 (by decide) (aB 5 6 2 (by decide) (aE 6 5 2 (by decide) (aE 7 4 2 (by decide) (aE 8 3 2 (by decide) (aY 9 2 (by decide) (aB 10 1 2 (by decide) (aE 11 0 2 (by decide) (trivial))))))))))))) [] (fun q hq => by cases hq) (fun hY => absurd (hY 2 (by decide)) (by decide))
    · refine fI 15 (.agg #[iv r5.W, iv r5.H, .slice ad10 r5.Bits.length cp11]) [(1, .pointer (some ⟨b12, 0, none⟩))] 3 [none] rfl rfl rfl rfl rfl rfl fun G a w S => ?_
      refine sLoadN (p := b12) (off := 0) (T := 24) (vs := [iv r5.W, iv r5.H, .slice ad10 r5.Bits.length cp11]) 3 [iv r5.W, iv r5.H, .slice ad10 r5.Bits.length cp11] S (wN rfl) rfl rfl rfl rfl rfl rfl rfl (lb rfl) fun a S => ?_
      exact leafL ⟨rfl, S⟩
    refine ⟨_, [(16, .slice ad40 [true].length cp41)], rfl, (srcs_of [some 2] rfl rfl rfl), fun G a w S => ?_⟩
    have S := S.shutR (r := rB) (T := 4) (v := .slice ad40 [true].length cp41) (xs := [true]) 2 rfl
    refine sCall (X := Value) (f := 39) (vs := [.slice ad40 [true].length cp41]) (val := c_raddlelaw13_row_val r16) (B' := fun _ => []) (D' := c_raddlelaw13_row_D r16) [] [eBox b184 24 [iv 0, iv 0, .slice none 0 0], eRow rB 4 (.slice ad177 [false].length cp178) [false], eBox b12 24 [iv r5.W, iv r5.H, .slice ad10 r5.Bits.length cp11]] [fRep (rL rB) (.slice ad40 [true].length cp41) [true]] [0, 1, 2] [0] S (wN rfl) rfl callee39 rfl (by decide) rfl rfl (fun E1 w1 S1 => c_raddlelaw13_row E1 w1 [true] (.slice ad40 [true].length cp41) r16 hx17 S1) rfl (lb rfl) fun u185 a w S => ?_
    obtain ⟨u186, rfl, hu187⟩ := S.mem.know (i := 0) (e := fRep r_api_Grid (u185) r16) rfl
    have S := S.learn (fRep (rL rB) u186 r16.Bits) hu187
    obtain ⟨ad188, cp189, _, rfl, _⟩ := hu187
    refine leafL ⟨rfl, _, _, .inl ⟨17, (.agg #[iv r16.W, iv r16.H, .slice ad188 r16.Bits.length cp189]), [], rfl, S, hz_of rfl, ?_⟩⟩
    exact nodePerm (nd4 b184 ad177 cp178 ad188 cp189 ad40 cp41) [1, 2, 0, 3, 4] [0, 1, 2] [0, 1, 2, 3, 4, 5] (by decide) (by decide) rfl rfl rfl
  refine nodeCut (fun N W L D => ∀ ad177 cp178 ad40 cp41, N [3, 1] ((3, 18, .slice ad177 [false].length cp178) :: (1, 16, .slice ad40 [true].length cp41) :: W) ((eRow rB 4 (.slice ad177 [false].length cp178) [false]) :: (eRow rB 4 (.slice ad40 [true].length cp41) [true]) :: L) (D)) (fun ad177 cp178 ad40 cp41 => ?_) fun nd6 => ?_
  · refine node_by (A := anc_raddlelaw13_alive_0) (nf := [1, 2, 3, 4, 5, 9, 10]) (Y := [3, 1]) 12 (by kernel_rfl) (by kernel_rfl) (by kernel_rfl) (by kernel_rfl) (by kernel_rfl) [3, 1, 0] (by kernel_rfl) (by decide) (by decide) (aF 0 11 (by decide) ?_ (aY 1 10 (by decide) (aN 2 9 (by decide) ?_ (aY 3 8 (by decide) (aB 4 7 2 (by decide) (aB 5 6 2 (by decide) (aE 6 5 2 (by decide) (aE 7 4 2 (by decide) (aE 8 3 2 (by decide) (aN 9 2 (by decide) ?_ (aB 10 1 2 (by decide) (aE 11 0 2 (by decide) (trivial))))))))))))) [] (fun q hq => by cases hq) (fun hY => absurd (hY 2 (by decide)) (by decide))
    · refine fI 15 (.agg #[iv r5.W, iv r5.H, .slice ad10 r5.Bits.length cp11]) [(1, .pointer (some ⟨b12, 0, none⟩))] 2 [none] rfl rfl rfl rfl rfl rfl fun G a w S => ?_
      refine sLoadN (p := b12) (off := 0) (T := 24) (vs := [iv r5.W, iv r5.H, .slice ad10 r5.Bits.length cp11]) 2 [iv r5.W, iv r5.H, .slice ad10 r5.Bits.length cp11] S (wN rfl) rfl rfl rfl rfl rfl rfl rfl (lb rfl) fun a S => ?_
      exact leafL ⟨rfl, S⟩
    · refine ⟨_, [(16, .slice ad40 [true].length cp41)], rfl, (srcs_of [some 1] rfl rfl rfl), fun G a w S => ?_⟩
      have S := S.shutR (r := rB) (T := 4) (v := .slice ad40 [true].length cp41) (xs := [true]) 1 rfl
      refine sCall (X := Value) (f := 39) (vs := [.slice ad40 [true].length cp41]) (val := c_raddlelaw13_row_val r16) (B' := fun _ => []) (D' := c_raddlelaw13_row_D r16) [] [eRow rB 4 (.slice ad177 [false].length cp178) [false], eBox b12 24 [iv r5.W, iv r5.H, .slice ad10 r5.Bits.length cp11]] [fRep (rL rB) (.slice ad40 [true].length cp41) [true]] [0, 1] [0] S (wN rfl) rfl callee39 rfl (by decide) rfl rfl (fun E1 w1 S1 => c_raddlelaw13_row E1 w1 [true] (.slice ad40 [true].length cp41) r16 hx17 S1) rfl (lb rfl) fun u179 a w S => ?_
      obtain ⟨u180, rfl, hu181⟩ := S.mem.know (i := 0) (e := fRep r_api_Grid (u179) r16) rfl
      have S := S.learn (fRep (rL rB) u180 r16.Bits) hu181
      obtain ⟨ad182, cp183, _, rfl, _⟩ := hu181
      refine leafL ⟨rfl, _, _, .inl ⟨17, (.agg #[iv r16.W, iv r16.H, .slice ad182 r16.Bits.length cp183]), [], rfl, S, hz_of rfl, ?_⟩⟩
      exact nodePerm (nd1 ad177 cp178 ad182 cp183 ad40 cp41) [1, 0, 2, 3] [0, 1] [0, 1, 2, 3, 4, 5] (by decide) (by decide) rfl rfl rfl
    refine ⟨_, [], rfl, (srcs_of [] rfl rfl rfl), fun G a w S => ?_⟩
    refine sAlloc (.agg #[iv 0, iv 0, .slice none 0 0]) S (wN rfl) rfl rfl [iv 0, iv 0, .slice none 0 0] rfl rfl (lb rfl) fun a b184 w S => ?_
    refine leafL ⟨rfl, _, _, .inl ⟨2, (.pointer (some ⟨b184, 0, none⟩)), [], rfl, S, hz_of rfl, ?_⟩⟩
    exact nd7 b184 ad177 cp178 ad40 cp41
  refine nodeCut (fun N W L D => ∀ b190 ad40 cp41, N [9, 1] ((9, 2, .pointer (some ⟨b190, 0, none⟩)) :: (1, 16, .slice ad40 [true].length cp41) :: W) ((eBox b190 24 [iv 0, iv 0, .slice none 0 0]) :: (eRow rB 4 (.slice ad40 [true].length cp41) [true]) :: L) (D)) (fun b190 ad40 cp41 => ?_) fun nd8 => ?_
  · refine node_by (A := anc_raddlelaw13_alive_0) (nf := [1, 2, 3, 4, 5, 9, 10]) (Y := [9, 1]) 12 (by kernel_rfl) (by kernel_rfl) (by kernel_rfl) (by kernel_rfl) (by kernel_rfl) [9, 1, 0] (by kernel_rfl) (by decide) (by decide) (aF 0 11 (by decide) ?_ (aY 1 10 (by decide) (aN 2 9 (by decide) ?_ (aN 3 8 (by decide) ?_ (aB 4 7 2 (by decide) (aB 5 6 2 (by decide) (aE 6 5 2 (by decide) (aE 7 4 2 (by decide) (aE 8 3 2 (by decide) (aY 9 2 (by decide) (aB 10 1 2 (by decide) (aE 11 0 2 (by decide) (trivial))))))))))))) [] (fun q hq => by cases hq) (fun hY => absurd (hY 2 (by decide)) (by decide))
    · refine fI 15 (.agg #[iv r5.W, iv r5.H, .slice ad10 r5.Bits.length cp11]) [(1, .pointer (some ⟨b12, 0, none⟩))] 2 [none] rfl rfl rfl rfl rfl rfl fun G a w S => ?_
      refine sLoadN (p := b12) (off := 0) (T := 24) (vs := [iv r5.W, iv r5.H, .slice ad10 r5.Bits.length cp11]) 2 [iv r5.W, iv r5.H, .slice ad10 r5.Bits.length cp11] S (wN rfl) rfl rfl rfl rfl rfl rfl rfl (lb rfl) fun a S => ?_
      exact leafL ⟨rfl, S⟩
    · refine ⟨_, [(16, .slice ad40 [true].length cp41)], rfl, (srcs_of [some 1] rfl rfl rfl), fun G a w S => ?_⟩
      have S := S.shutR (r := rB) (T := 4) (v := .slice ad40 [true].length cp41) (xs := [true]) 1 rfl
      refine sCall (X := Value) (f := 39) (vs := [.slice ad40 [true].length cp41]) (val := c_raddlelaw13_row_val r16) (B' := fun _ => []) (D' := c_raddlelaw13_row_D r16) [] [eBox b190 24 [iv 0, iv 0, .slice none 0 0], eBox b12 24 [iv r5.W, iv r5.H, .slice ad10 r5.Bits.length cp11]] [fRep (rL rB) (.slice ad40 [true].length cp41) [true]] [0, 1] [0] S (wN rfl) rfl callee39 rfl (by decide) rfl rfl (fun E1 w1 S1 => c_raddlelaw13_row E1 w1 [true] (.slice ad40 [true].length cp41) r16 hx17 S1) rfl (lb rfl) fun u191 a w S => ?_
      obtain ⟨u192, rfl, hu193⟩ := S.mem.know (i := 0) (e := fRep r_api_Grid (u191) r16) rfl
      have S := S.learn (fRep (rL rB) u192 r16.Bits) hu193
      obtain ⟨ad194, cp195, _, rfl, _⟩ := hu193
      refine leafL ⟨rfl, _, _, .inl ⟨17, (.agg #[iv r16.W, iv r16.H, .slice ad194 r16.Bits.length cp195]), [], rfl, S, hz_of rfl, ?_⟩⟩
      exact nodePerm (nd5 b190 ad194 cp195 ad40 cp41) [1, 0, 2, 3] [0, 1] [0, 1, 2, 3, 4, 5] (by decide) (by decide) rfl rfl rfl
    refine ⟨_, [], rfl, (srcs_of [] rfl rfl rfl), fun G a w S => ?_⟩
    refine sLit (r := rB) (T := 4) (xs := [false]) [(0, .bool false)] 1 [.bool false] [.bool false] (.bool false) 1 S (wN rfl) rfl rfl Try.underlying22 rfl (by decide) (by decide) (by kernel_rfl) rfl (fun E1 w1 hE => All.cons rfl (All.nil _ _ _)) rfl rfl (lb rfl) fun a w ad196 cp197 S => ?_
    refine leafL ⟨rfl, _, _, .inl ⟨18, (.slice ad196 [false].length cp197), [], rfl, S, hz_of rfl, ?_⟩⟩
    exact nodePerm (nd7 b190 ad196 cp197 ad40 cp41) [1, 0, 2, 3] [1, 0, 2, 3] [0, 1, 2] (by decide) (by decide) rfl rfl rfl
  refine nodeCut (fun N W L D => ∀ b202 ad198 cp199, N [9, 3] ((9, 2, .pointer (some ⟨b202, 0, none⟩)) :: (3, 18, .slice ad198 [false].length cp199) :: W) ((eBox b202 24 [iv 0, iv 0, .slice none 0 0]) :: (eRow rB 4 (.slice ad198 [false].length cp199) [false]) :: L) (D)) (fun b202 ad198 cp199 => ?_) fun nd9 => ?_
  · refine node_by (A := anc_raddlelaw13_alive_0) (nf := [1, 2, 3, 4, 5, 9, 10]) (Y := [9, 3]) 12 (by kernel_rfl) (by kernel_rfl) (by kernel_rfl) (by kernel_rfl) (by kernel_rfl) [9, 3, 0] (by kernel_rfl) (by decide) (by decide) (aF 0 11 (by decide) ?_ (aN 1 10 (by decide) ?_ (aB 2 9 1 (by decide) (aY 3 8 (by decide) (aB 4 7 1 (by decide) (aB 5 6 1 (by decide) (aE 6 5 1 (by decide) (aE 7 4 1 (by decide) (aE 8 3 1 (by decide) (aY 9 2 (by decide) (aB 10 1 1 (by decide) (aE 11 0 1 (by decide) (trivial))))))))))))) [] (fun q hq => by cases hq) (fun hY => absurd (hY 1 (by decide)) (by decide))
    · refine fI 15 (.agg #[iv r5.W, iv r5.H, .slice ad10 r5.Bits.length cp11]) [(1, .pointer (some ⟨b12, 0, none⟩))] 2 [none] rfl rfl rfl rfl rfl rfl fun G a w S => ?_
      refine sLoadN (p := b12) (off := 0) (T := 24) (vs := [iv r5.W, iv r5.H, .slice ad10 r5.Bits.length cp11]) 2 [iv r5.W, iv r5.H, .slice ad10 r5.Bits.length cp11] S (wN rfl) rfl rfl rfl rfl rfl rfl rfl (lb rfl) fun a S => ?_
      exact leafL ⟨rfl, S⟩
    refine ⟨_, [], rfl, (srcs_of [] rfl rfl rfl), fun G a w S => ?_⟩
    refine sLit (r := rB) (T := 4) (xs := [true]) [(0, .bool true)] 1 [.bool true] [.bool true] (.bool false) 1 S (wN rfl) rfl rfl Try.underlying22 rfl (by decide) (by decide) (by kernel_rfl) rfl (fun E1 w1 hE => All.cons rfl (All.nil _ _ _)) rfl rfl (lb rfl) fun a w ad203 cp204 S => ?_
    refine leafL ⟨rfl, _, _, .inl ⟨16, (.slice ad203 [true].length cp204), [], rfl, S, hz_of rfl, ?_⟩⟩
    exact nodePerm (nd7 b202 ad198 cp199 ad203 cp204) [1, 2, 0, 3] [1, 2, 0, 3] [0, 1, 2] (by decide) (by decide) rfl rfl rfl
  refine node_by (A := anc_raddlelaw13_alive_0) (nf := [1, 2, 3, 4, 5, 9, 10]) (Y := []) (W := [(0, 15, .agg #[iv r5.W, iv r5.H, .slice ad10 r5.Bits.length cp11])]) 12 (by kernel_rfl) (by kernel_rfl) (by kernel_rfl) (by kernel_rfl) (by kernel_rfl) [0] (by kernel_rfl) (by decide) (by decide) (aF 0 11 (by decide) ?_ (aN 1 10 (by decide) ?_ (aB 2 9 1 (by decide) (aN 3 8 (by decide) ?_ (aB 4 7 1 (by decide) (aB 5 6 1 (by decide) (aE 6 5 1 (by decide) (aE 7 4 1 (by decide) (aE 8 3 1 (by decide) (aN 9 2 (by decide) ?_ (aB 10 1 1 (by decide) (aE 11 0 1 (by decide) (trivial))))))))))))) [] (fun q hq => by cases hq) (fun hY => absurd (hY 1 (by decide)) (by decide))
  · refine fI 15 (.agg #[iv r5.W, iv r5.H, .slice ad10 r5.Bits.length cp11]) [(1, .pointer (some ⟨b12, 0, none⟩))] 0 [none] rfl rfl rfl rfl rfl rfl fun G a w S => ?_
    refine sLoadN (p := b12) (off := 0) (T := 24) (vs := [iv r5.W, iv r5.H, .slice ad10 r5.Bits.length cp11]) 0 [iv r5.W, iv r5.H, .slice ad10 r5.Bits.length cp11] S (wN rfl) rfl rfl rfl rfl rfl rfl rfl (lb rfl) fun a S => ?_
    exact leafL ⟨rfl, S⟩
  · refine ⟨_, [], rfl, (srcs_of [] rfl rfl rfl), fun G a w S => ?_⟩
    refine sLit (r := rB) (T := 4) (xs := [true]) [(0, .bool true)] 1 [.bool true] [.bool true] (.bool false) 1 S (wN rfl) rfl rfl Try.underlying22 rfl (by decide) (by decide) (by kernel_rfl) rfl (fun E1 w1 hE => All.cons rfl (All.nil _ _ _)) rfl rfl (lb rfl) fun a w ad40 cp41 S => ?_
    refine leafL ⟨rfl, _, _, .inl ⟨16, (.slice ad40 [true].length cp41), [], rfl, S, hz_of rfl, ?_⟩⟩
    refine node_by (A := anc_raddlelaw13_alive_0) (nf := [1, 2, 3, 4, 5, 9, 10]) (Y := [1]) 12 (by kernel_rfl) (by kernel_rfl) (by kernel_rfl) (by kernel_rfl) (by kernel_rfl) [1, 0] (by kernel_rfl) (by decide) (by decide) (aF 0 11 (by decide) ?_ (aY 1 10 (by decide) (aN 2 9 (by decide) ?_ (aN 3 8 (by decide) ?_ (aB 4 7 2 (by decide) (aB 5 6 2 (by decide) (aE 6 5 2 (by decide) (aE 7 4 2 (by decide) (aE 8 3 2 (by decide) (aN 9 2 (by decide) ?_ (aB 10 1 2 (by decide) (aE 11 0 2 (by decide) (trivial))))))))))))) [] (fun q hq => by cases hq) (fun hY => absurd (hY 2 (by decide)) (by decide))
    · refine fI 15 (.agg #[iv r5.W, iv r5.H, .slice ad10 r5.Bits.length cp11]) [(1, .pointer (some ⟨b12, 0, none⟩))] 1 [none] rfl rfl rfl rfl rfl rfl fun G a w S => ?_
      refine sLoadN (p := b12) (off := 0) (T := 24) (vs := [iv r5.W, iv r5.H, .slice ad10 r5.Bits.length cp11]) 1 [iv r5.W, iv r5.H, .slice ad10 r5.Bits.length cp11] S (wN rfl) rfl rfl rfl rfl rfl rfl rfl (lb rfl) fun a S => ?_
      exact leafL ⟨rfl, S⟩
    · refine ⟨_, [(16, .slice ad40 [true].length cp41)], rfl, (srcs_of [some 0] rfl rfl rfl), fun G a w S => ?_⟩
      have S := S.shutR (r := rB) (T := 4) (v := .slice ad40 [true].length cp41) (xs := [true]) 0 rfl
      refine sCall (X := Value) (f := 39) (vs := [.slice ad40 [true].length cp41]) (val := c_raddlelaw13_row_val r16) (B' := fun _ => []) (D' := c_raddlelaw13_row_D r16) [] [eBox b12 24 [iv r5.W, iv r5.H, .slice ad10 r5.Bits.length cp11]] [fRep (rL rB) (.slice ad40 [true].length cp41) [true]] [0] [0] S (wN rfl) rfl callee39 rfl (by decide) rfl rfl (fun E1 w1 S1 => c_raddlelaw13_row E1 w1 [true] (.slice ad40 [true].length cp41) r16 hx17 S1) rfl (lb rfl) fun u42 a w S => ?_
      obtain ⟨u43, rfl, hu44⟩ := S.mem.know (i := 0) (e := fRep r_api_Grid (u42) r16) rfl
      have S := S.learn (fRep (rL rB) u43 r16.Bits) hu44
      obtain ⟨ad45, cp46, _, rfl, _⟩ := hu44
      refine leafL ⟨rfl, _, _, .inl ⟨17, (.agg #[iv r16.W, iv r16.H, .slice ad45 r16.Bits.length cp46]), [], rfl, S, hz_of rfl, ?_⟩⟩
      refine node_by (A := anc_raddlelaw13_alive_0) (nf := [1, 2, 3, 4, 5, 9, 10]) (Y := [2, 1]) 12 (by kernel_rfl) (by kernel_rfl) (by kernel_rfl) (by kernel_rfl) (by kernel_rfl) [2, 1, 0] (by kernel_rfl) (by decide) (by decide) (aF 0 11 (by decide) ?_ (aY 1 10 (by decide) (aY 2 9 (by decide) (aN 3 8 (by decide) ?_ (aB 4 7 3 (by decide) (aB 5 6 3 (by decide) (aE 6 5 3 (by decide) (aE 7 4 3 (by decide) (aE 8 3 3 (by decide) (aN 9 2 (by decide) ?_ (aB 10 1 3 (by decide) (aE 11 0 3 (by decide) (trivial))))))))))))) [] (fun q hq => by cases hq) (fun hY => absurd (hY 3 (by decide)) (by decide))
      · refine fI 15 (.agg #[iv r5.W, iv r5.H, .slice ad10 r5.Bits.length cp11]) [(1, .pointer (some ⟨b12, 0, none⟩))] 2 [none] rfl rfl rfl rfl rfl rfl fun G a w S => ?_
        refine sLoadN (p := b12) (off := 0) (T := 24) (vs := [iv r5.W, iv r5.H, .slice ad10 r5.Bits.length cp11]) 0 [iv r5.W, iv r5.H, .slice ad10 r5.Bits.length cp11] S (wN rfl) rfl rfl rfl rfl rfl rfl rfl (lb rfl) fun a S => ?_
        exact leafL ⟨rfl, S⟩
      · refine ⟨_, [], rfl, (srcs_of [] rfl rfl rfl), fun G a w S => ?_⟩
        refine sLit (r := rB) (T := 4) (xs := [false]) [(0, .bool false)] 1 [.bool false] [.bool false] (.bool false) 1 S (wN rfl) rfl rfl Try.underlying22 rfl (by decide) (by decide) (by kernel_rfl) rfl (fun E1 w1 hE => All.cons rfl (All.nil _ _ _)) rfl rfl (lb rfl) fun a w ad47 cp48 S => ?_
        refine leafL ⟨rfl, _, _, .inl ⟨18, (.slice ad47 [false].length cp48), [], rfl, S, hz_of rfl, ?_⟩⟩
        exact nd1 ad47 cp48 ad45 cp46 ad40 cp41
      refine ⟨_, [], rfl, (srcs_of [] rfl rfl rfl), fun G a w S => ?_⟩
      refine sAlloc (.agg #[iv 0, iv 0, .slice none 0 0]) S (wN rfl) rfl rfl [iv 0, iv 0, .slice none 0 0] rfl rfl (lb rfl) fun a b174 w S => ?_
      refine leafL ⟨rfl, _, _, .inl ⟨2, (.pointer (some ⟨b174, 0, none⟩)), [], rfl, S, hz_of rfl, ?_⟩⟩
      exact nd5 b174 ad45 cp46 ad40 cp41
    · refine ⟨_, [], rfl, (srcs_of [] rfl rfl rfl), fun G a w S => ?_⟩
      refine sLit (r := rB) (T := 4) (xs := [false]) [(0, .bool false)] 1 [.bool false] [.bool false] (.bool false) 1 S (wN rfl) rfl rfl Try.underlying22 rfl (by decide) (by decide) (by kernel_rfl) rfl (fun E1 w1 hE => All.cons rfl (All.nil _ _ _)) rfl rfl (lb rfl) fun a w ad177 cp178 S => ?_
      refine leafL ⟨rfl, _, _, .inl ⟨18, (.slice ad177 [false].length cp178), [], rfl, S, hz_of rfl, ?_⟩⟩
      exact nd6 ad177 cp178 ad40 cp41
    refine ⟨_, [], rfl, (srcs_of [] rfl rfl rfl), fun G a w S => ?_⟩
    refine sAlloc (.agg #[iv 0, iv 0, .slice none 0 0]) S (wN rfl) rfl rfl [iv 0, iv 0, .slice none 0 0] rfl rfl (lb rfl) fun a b190 w S => ?_
    refine leafL ⟨rfl, _, _, .inl ⟨2, (.pointer (some ⟨b190, 0, none⟩)), [], rfl, S, hz_of rfl, ?_⟩⟩
    exact nd8 b190 ad40 cp41
  · refine ⟨_, [], rfl, (srcs_of [] rfl rfl rfl), fun G a w S => ?_⟩
    refine sLit (r := rB) (T := 4) (xs := [false]) [(0, .bool false)] 1 [.bool false] [.bool false] (.bool false) 1 S (wN rfl) rfl rfl Try.underlying22 rfl (by decide) (by decide) (by kernel_rfl) rfl (fun E1 w1 hE => All.cons rfl (All.nil _ _ _)) rfl rfl (lb rfl) fun a w ad198 cp199 S => ?_
    refine leafL ⟨rfl, _, _, .inl ⟨18, (.slice ad198 [false].length cp199), [], rfl, S, hz_of rfl, ?_⟩⟩
    refine node_by (A := anc_raddlelaw13_alive_0) (nf := [1, 2, 3, 4, 5, 9, 10]) (Y := [3]) 12 (by kernel_rfl) (by kernel_rfl) (by kernel_rfl) (by kernel_rfl) (by kernel_rfl) [3, 0] (by kernel_rfl) (by decide) (by decide) (aF 0 11 (by decide) ?_ (aN 1 10 (by decide) ?_ (aB 2 9 1 (by decide) (aY 3 8 (by decide) (aB 4 7 1 (by decide) (aB 5 6 1 (by decide) (aE 6 5 1 (by decide) (aE 7 4 1 (by decide) (aE 8 3 1 (by decide) (aN 9 2 (by decide) ?_ (aB 10 1 1 (by decide) (aE 11 0 1 (by decide) (trivial))))))))))))) [] (fun q hq => by cases hq) (fun hY => absurd (hY 1 (by decide)) (by decide))
    · refine fI 15 (.agg #[iv r5.W, iv r5.H, .slice ad10 r5.Bits.length cp11]) [(1, .pointer (some ⟨b12, 0, none⟩))] 1 [none] rfl rfl rfl rfl rfl rfl fun G a w S => ?_
      refine sLoadN (p := b12) (off := 0) (T := 24) (vs := [iv r5.W, iv r5.H, .slice ad10 r5.Bits.length cp11]) 1 [iv r5.W, iv r5.H, .slice ad10 r5.Bits.length cp11] S (wN rfl) rfl rfl rfl rfl rfl rfl rfl (lb rfl) fun a S => ?_
      exact leafL ⟨rfl, S⟩
    · refine ⟨_, [], rfl, (srcs_of [] rfl rfl rfl), fun G a w S => ?_⟩
      refine sLit (r := rB) (T := 4) (xs := [true]) [(0, .bool true)] 1 [.bool true] [.bool true] (.bool false) 1 S (wN rfl) rfl rfl Try.underlying22 rfl (by decide) (by decide) (by kernel_rfl) rfl (fun E1 w1 hE => All.cons rfl (All.nil _ _ _)) rfl rfl (lb rfl) fun a w ad200 cp201 S => ?_
      refine leafL ⟨rfl, _, _, .inl ⟨16, (.slice ad200 [true].length cp201), [], rfl, S, hz_of rfl, ?_⟩⟩
      exact nodePerm (nd6 ad198 cp199 ad200 cp201) [1, 0, 2] [1, 0, 2] [0, 1, 2] (by decide) (by decide) rfl rfl rfl
    refine ⟨_, [], rfl, (srcs_of [] rfl rfl rfl), fun G a w S => ?_⟩
    refine sAlloc (.agg #[iv 0, iv 0, .slice none 0 0]) S (wN rfl) rfl rfl [iv 0, iv 0, .slice none 0 0] rfl rfl (lb rfl) fun a b202 w S => ?_
    refine leafL ⟨rfl, _, _, .inl ⟨2, (.pointer (some ⟨b202, 0, none⟩)), [], rfl, S, hz_of rfl, ?_⟩⟩
    exact nd9 b202 ad198 cp199
  refine ⟨_, [], rfl, (srcs_of [] rfl rfl rfl), fun G a w S => ?_⟩
  refine sAlloc (.agg #[iv 0, iv 0, .slice none 0 0]) S (wN rfl) rfl rfl [iv 0, iv 0, .slice none 0 0] rfl rfl (lb rfl) fun a b205 w S => ?_
  refine leafL ⟨rfl, _, _, .inl ⟨2, (.pointer (some ⟨b205, 0, none⟩)), [], rfl, S, hz_of rfl, ?_⟩⟩
  refine node_by (A := anc_raddlelaw13_alive_0) (nf := [1, 2, 3, 4, 5, 9, 10]) (Y := [9]) 12 (by kernel_rfl) (by kernel_rfl) (by kernel_rfl) (by kernel_rfl) (by kernel_rfl) [9, 0] (by kernel_rfl) (by decide) (by decide) (aF 0 11 (by decide) ?_ (aN 1 10 (by decide) ?_ (aB 2 9 1 (by decide) (aN 3 8 (by decide) ?_ (aB 4 7 1 (by decide) (aB 5 6 1 (by decide) (aE 6 5 1 (by decide) (aE 7 4 1 (by decide) (aE 8 3 1 (by decide) (aY 9 2 (by decide) (aB 10 1 1 (by decide) (aE 11 0 1 (by decide) (trivial))))))))))))) [] (fun q hq => by cases hq) (fun hY => absurd (hY 1 (by decide)) (by decide))
  · refine fI 15 (.agg #[iv r5.W, iv r5.H, .slice ad10 r5.Bits.length cp11]) [(1, .pointer (some ⟨b12, 0, none⟩))] 1 [none] rfl rfl rfl rfl rfl rfl fun G a w S => ?_
    refine sLoadN (p := b12) (off := 0) (T := 24) (vs := [iv r5.W, iv r5.H, .slice ad10 r5.Bits.length cp11]) 1 [iv r5.W, iv r5.H, .slice ad10 r5.Bits.length cp11] S (wN rfl) rfl rfl rfl rfl rfl rfl rfl (lb rfl) fun a S => ?_
    exact leafL ⟨rfl, S⟩
  · refine ⟨_, [], rfl, (srcs_of [] rfl rfl rfl), fun G a w S => ?_⟩
    refine sLit (r := rB) (T := 4) (xs := [true]) [(0, .bool true)] 1 [.bool true] [.bool true] (.bool false) 1 S (wN rfl) rfl rfl Try.underlying22 rfl (by decide) (by decide) (by kernel_rfl) rfl (fun E1 w1 hE => All.cons rfl (All.nil _ _ _)) rfl rfl (lb rfl) fun a w ad206 cp207 S => ?_
    refine leafL ⟨rfl, _, _, .inl ⟨16, (.slice ad206 [true].length cp207), [], rfl, S, hz_of rfl, ?_⟩⟩
    exact nodePerm (nd8 b205 ad206 cp207) [1, 0, 2] [1, 0, 2] [0, 1, 2] (by decide) (by decide) rfl rfl rfl
  refine ⟨_, [], rfl, (srcs_of [] rfl rfl rfl), fun G a w S => ?_⟩
  refine sLit (r := rB) (T := 4) (xs := [false]) [(0, .bool false)] 1 [.bool false] [.bool false] (.bool false) 1 S (wN rfl) rfl rfl Try.underlying22 rfl (by decide) (by decide) (by kernel_rfl) rfl (fun E1 w1 hE => All.cons rfl (All.nil _ _ _)) rfl rfl (lb rfl) fun a w ad208 cp209 S => ?_
  refine leafL ⟨rfl, _, _, .inl ⟨18, (.slice ad208 [false].length cp209), [], rfl, S, hz_of rfl, ?_⟩⟩
  exact nodePerm (nd9 b205 ad208 cp209) [1, 0, 2] [1, 0, 2] [0, 1, 2] (by decide) (by decide) rfl rfl rfl

end Go.Proofs.Ythfifeabomdlpaa
namespace Go.Proofs.Ythfifeabomdlpaa
open Go.RowKit
set_option linter.unusedVariables false

def K_raddlelaw13_alive  : Option Bool :=
  Option.bind (K_raddlelaw13_row [true, false]) fun r5 =>
  Option.bind (K_raddlelaw13_row [true]) fun r16 =>
  Option.bind (K_raddlelaw13_row [false]) fun r25 =>
  Option.bind (K_block_Fill r5 r16 r25) fun r32 =>
  Option.bind (K_raddleref01_Zero 2 2) fun r61 =>
  Option.bind (K_block_Fill r5 r61 r61) fun r73 =>
  Option.bind (K_block_Units (api_Grid.mk 4 2 [true, true, false, false, true, true, false, false]) 2 2) fun r102 =>
  Option.bind (K_block_Spell ([0, 1, 0] : List Int) [([0, 1] : List Int), ([2, 3] : List Int)]) fun r119 =>
  if r32.2 == 0 then
    Option.bind (K_raddleref01_Same r32.1 r5) fun r126 =>
    if r126 then
      if r73.2 == 0 then
        if r73.1.W == 4 then
          if r73.1.H == 2 then
            if r102.2.2 == 0 then
              if (r102.1.length : Int) == 2 then
                Option.bind (K_raddleref02_Same r102.2.1 ([0, 1] : List Int)) fun r136 =>
                if r136 then
                  if r119.2 == 0 then
                    Option.bind (K_raddleref02_Same r119.1 ([0, 1, 2, 3, 0, 1] : List Int)) fun r142 =>
                    some r142
                  else
                    none
                else
                  none
              else
                none
            else
              none
          else
            none
        else
          none
      else
        none
    else
      none
  else
    none
theorem m_F_raddlelaw13_alive  : Le (K_raddlelaw13_alive) (F_raddlelaw13_alive) := by
  unfold K_raddlelaw13_alive F_raddlelaw13_alive
  with_reducible repeat' (first | exact m_F_raddlelaw13_row _ | exact m_F_block_Fill _ _ _ | exact m_F_raddleref01_Zero _ _ | exact m_F_block_Units _ _ _ | exact m_F_block_Spell _ _ | exact m_F_raddleref01_Same _ _ | exact m_F_raddleref02_Same _ _ | exact Le.rfl _ | refine Le.loop _ ?_ | refine Le.bind ?_ ?_ | refine Le.ite ?_ ?_ | refine Le.sum ?_ ?_ | refine Le.prod ?_ | intro _ | exact Empty.elim (by assumption) | dsimp only)
set_option maxRecDepth 1000000 in
theorem k_raddlelaw13_alive : F_raddlelaw13_alive = some true := m_F_raddlelaw13_alive _ (by kernel_rfl)
end Go.Proofs.Ythfifeabomdlpaa
namespace Go.Proofs.Ythfifeabomdlpaa
open Go.RowKit
set_option linter.unusedVariables false

theorem w64_of {x : Int} (h0 : -9223372036854775808 ≤ x) (h1 : x ≤ 9223372036854775807) : w64 x = x := w64_id ⟨h0, h1⟩
theorem w64_succ {k : Nat} (h : k < 9223372036854775807) : w64 ((k : Int) + 1) = ((k + 1 : Nat) : Int) := by
  rw [w64_of (by omega) (by omega)]; omega
theorem idxO_nat {α : Type} {xs : List α} {k : Nat} (h : k < xs.length) : idxO xs (k : Int) = some xs[k] := by
  simp [idxO, h]
theorem idxO_of {α : Type} {xs : List α} {i : Int} {k : Nat} (hi : i = (k : Int)) (h : k < xs.length) : idxO xs i = some xs[k] := by subst hi; exact idxO_nat h
theorem appO_of {α : Type} {xs ys : List α} (h : xs.length + ys.length ≤ 68719476736) : appO xs ys = some (xs ++ ys) := by
  simp [appO, lim, h]
theorem sliceO_of {α : Type} {xs : List α} {lo hi : Int} {l k : Nat} (h1 : lo = l) (h2 : hi = k) (h3 : l ≤ k) (h4 : k ≤ xs.length) : sliceO xs lo hi = some ((xs.take k).drop l) := by
  subst h1 h2; simp [sliceO, h3, h4]
/-- a loop over an index alone -/
theorem loop_ix {τ : Type} {B : Int → Option (Int ⊕ τ)} (n : Nat) (I : Nat → Prop) (Pt : τ → Prop) (h0 : I 0)
    (step : ∀ k, k < n → I k → (B (k : Int) = some (.inl ((k + 1 : Nat) : Int)) ∧ I (k + 1)) ∨ (∃ t, B (k : Int) = some (.inr t) ∧ Pt t))
    (last : I n → ∃ t, B (n : Int) = some (.inr t) ∧ Pt t) : ∃ t, whileO B 0 = some t ∧ Pt t := by
  refine whileO_inv (fun s => ∃ k : Nat, k ≤ n ∧ s = (k : Int) ∧ I k) (fun s => ((n : Int) - s).toNat) Pt ⟨0, Nat.zero_le _, rfl, h0⟩ ?_
  rintro i ⟨k, hk, rfl, hI⟩
  by_cases hlt : k < n
  · rcases step k hlt hI with ⟨h1, h2⟩ | h
    · exact .inl ⟨_, h1, ⟨k + 1, hlt, rfl, h2⟩, by simp; omega⟩
    · exact .inr h
  · obtain rfl : k = n := by omega
    exact .inr (last hI)

end Go.Proofs.Ythfifeabomdlpaa
namespace Go.Proofs.Ythfifeabomdlpaa
open Go.RowKit
set_option linter.unusedVariables false

/-- a loop that tests all, and says bad at the first that fails -/
theorem loop_all {τ : Type} {B : Int → Option (Int ⊕ τ)} (n : Nat) (p : Nat → Bool) (good bad : τ)
    (h : ∀ k, k < n → B (k : Int) = some (if p k = true then .inl ((k + 1 : Nat) : Int) else .inr bad)) (hn : B (n : Int) = some (.inr good)) :
    whileO B 0 = some (if (List.range n).all p = true then good else bad) := by
  have key : ∃ t, whileO B 0 = some t ∧ t = if (List.range n).all p = true then good else bad := by
    refine loop_ix n (fun k => ∀ j, j < k → p j = true) _ (fun j h => absurd h (Nat.not_lt_zero j)) ?_ ?_
    · intro k hk hI
      cases hf : p k with
      | true =>
        refine .inl ⟨by rw [h k hk, if_pos hf], fun j hj => ?_⟩
        by_cases e : j = k
        · rw [e]; exact hf
        · exact hI j (by omega)
      | false =>
        refine .inr ⟨bad, by rw [h k hk, hf]; simp, ?_⟩
        rw [if_neg]
        intro hc
        rw [List.all_eq_true] at hc
        have := hc k (List.mem_range.2 hk)
        rw [hf] at this; cases this
    · intro hI
      refine ⟨good, hn, ?_⟩
      rw [if_pos]
      rw [List.all_eq_true]
      exact fun j hj => hI j (List.mem_range.1 hj)
  obtain ⟨t, h1, rfl⟩ := key
  exact h1
theorem map_cong {α : Type} {n : Nat} {f g : Nat → α} (h : ∀ k, k < n → f k = g k) : (List.range n).map f = (List.range n).map g :=
  List.map_congr_left fun k hk => h k (List.mem_range.1 hk)
theorem dT {p : Prop} [Decidable p] (h : p) : decide p = true := decide_eq_true h
theorem dF {p : Prop} [Decidable p] (h : ¬ p) : decide p = false := decide_eq_false h
theorem bT {a b : Int} (h : a = b) : (a == b) = true := by simp [h]
theorem bF {a b : Int} (h : ¬ a = b) : (a == b) = false := by simp [h]
theorem nT {a b : Int} (h : ¬ a = b) : (a != b) = true := by simp [h]
theorem nF {a b : Int} (h : a = b) : (a != b) = false := by simp [h]
/-- a row filled from its start on -/
def Fill {α : Type} (n : Nat) (f : Nat → α) (k : Nat) (s : List α) : Prop := s.length = n ∧ ∀ j, j < k → s[j]? = some (f j)
theorem Fill.zero {α : Type} (n : Nat) (f : Nat → α) (z : α) : Fill n f 0 (List.replicate n z) := ⟨by simp, fun j hj => absurd hj (Nat.not_lt_zero j)⟩
theorem Fill.set {α : Type} {n : Nat} {f : Nat → α} {k : Nat} {s : List α} (h : Fill n f k s) (hk : k < n) : Fill n f (k + 1) (s.set k (f k)) := by
  refine ⟨by simp [h.1], fun j hj => ?_⟩
  by_cases e : j = k
  · subst e; simp [h.1, hk]
  · rw [List.getElem?_set_ne (fun h => e h.symm)]; exact h.2 j (by omega)
theorem Fill.all {α : Type} {n : Nat} {f : Nat → α} {s : List α} (h : Fill n f n s) : s = (List.range n).map f := by
  apply List.ext_getElem?
  intro j
  by_cases hj : j < n
  · rw [h.2 j hj]; simp [hj]
  · rw [List.getElem?_eq_none (by rw [h.1]; omega), List.getElem?_eq_none (by simp; omega)]
theorem idxO_D {α : Type} {xs : List α} {k : Nat} (d : α) (h : k < xs.length) : idxO xs (k : Int) = some (xs.getD k d) := by
  rw [idxO_nat h]; simp [h]
theorem sliceO_all {α : Type} {xs : List α} {k : Nat} (h : k ≤ xs.length) : sliceO xs (k : Int) (xs.length : Int) = some (xs.drop k) := by
  rw [sliceO_of (l := k) (k := xs.length) rfl rfl h (Nat.le_refl _), List.take_length]
end Go.Proofs.Ythfifeabomdlpaa
namespace Go.Proofs.Ythfifeabomdlpaa
open Go.RowKit
set_option linter.unusedVariables false

/-- a loop whose states are known -/
theorem loop_seq {S τ : Type} {B : S → Option (S ⊕ τ)} (c : Nat → S) (n : Nat) {t : τ} (h : ∀ k, k < n → B (c k) = some (.inl (c (k + 1)))) (hn : B (c n) = some (.inr t)) : whileO B (c 0) = some t := by
  have key : ∀ j k, j + k = n → whileO B (c k) = some t := by
    intro j
    induction j with
    | zero =>
      intro k hk
      obtain rfl : k = n := by omega
      exact whileO_done hn
    | succ j ih =>
      intro k hk
      rw [whileO_step (h k (by omega))]
      exact ih _ (by omega)
  exact key n 0 (by omega)
/-- a loop whose states are known, and that leaves where g fails -/
theorem loop_seqf {S τ : Type} {B : S → Option (S ⊕ τ)} (c : Nat → S) (n : Nat) (g : Nat → Bool) {bad t : τ} (h : ∀ k, k < n → (∀ j, j < k → g j = true) → B (c k) = some (if g k = true then .inl (c (k + 1)) else .inr bad)) (hn : (∀ j, j < n → g j = true) → B (c n) = some (.inr t)) :
    whileO B (c 0) = some (if (List.range n).all g = true then t else bad) := by
  have key : ∀ j k, j + k = n → (∀ i, i < k → g i = true) → whileO B (c k) = some (if (List.range n).all g = true then t else bad) := by
    intro j
    induction j with
    | zero =>
      intro k hk hI
      obtain rfl : k = n := by omega
      rw [whileO_done (hn hI), if_pos (List.all_eq_true.2 fun i hi => hI i (List.mem_range.1 hi))]
    | succ j ih =>
      intro k hk hI
      have hb := h k (by omega) hI
      cases hg : g k with
      | true =>
        rw [hg, if_pos rfl] at hb
        rw [whileO_step hb]
        refine ih _ (by omega) fun i hi => ?_
        by_cases e : i = k
        · rw [e]; exact hg
        · exact hI i (by omega)
      | false =>
        rw [hg, if_neg (by decide)] at hb
        rw [whileO_done hb, if_neg]
        intro ha
        have := List.all_eq_true.1 ha k (List.mem_range.2 (by omega))
        rw [hg] at this; cases this
  exact key n 0 (by omega) fun i hi => absurd hi (Nat.not_lt_zero i)
/-- a loop over a list that leaves at the first element where f answers -/
theorem loop_list {α τ : Type} {B : Int → Option (Int ⊕ τ)} (l : List α) (f : α → Option τ) (good : τ)
    (h : ∀ k (hk : k < l.length), B (k : Int) = some (match f l[k] with | none => .inl ((k + 1 : Nat) : Int) | some t => .inr t)) (hn : B (l.length : Int) = some (.inr good)) : whileO B 0 = some ((l.findSome? f).getD good) := by
  have key : ∀ j k, j + k = l.length → whileO B (k : Int) = some (((l.drop k).findSome? f).getD good) := by
    intro j
    induction j with
    | zero =>
      intro k hk
      obtain rfl : k = l.length := by omega
      rw [whileO_done hn, List.drop_length]
      rfl
    | succ j ih =>
      intro k hk
      have hk2 : k < l.length := by omega
      have hb := h k hk2
      rw [List.drop_eq_getElem_cons hk2, List.findSome?_cons]
      cases hf : f l[k] with
      | none =>
        rw [hf] at hb
        rw [whileO_step hb]
        exact ih _ (by omega)
      | some t =>
        rw [hf] at hb
        rw [whileO_done hb]
        rfl
  have := key l.length 0 (by omega)
  simpa using this
/-- a loop over a list that looks for the first element with p -/
theorem loop_idx {α τ : Type} {B : Int → Option (Int ⊕ τ)} (l : List α) (p : α → Bool) (hit : Nat → τ) (good : τ)
    (h : ∀ k (hk : k < l.length), B (k : Int) = some (if p l[k] = true then .inr (hit k) else .inl ((k + 1 : Nat) : Int))) (hn : B (l.length : Int) = some (.inr good)) : whileO B 0 = some (if l.findIdx p < l.length then hit (l.findIdx p) else good) := by
  have key : ∀ j k, j + k = l.length → k ≤ l.findIdx p → whileO B (k : Int) = some (if l.findIdx p < l.length then hit (l.findIdx p) else good) := by
    intro j
    induction j with
    | zero =>
      intro k hk hI
      obtain rfl : k = l.length := by omega
      rw [whileO_done hn, if_neg (by omega)]
    | succ j ih =>
      intro k hk hI
      have hk2 : k < l.length := by omega
      have hb := h k hk2
      cases hp : p l[k] with
      | true =>
        rw [hp, if_pos rfl] at hb
        have e : l.findIdx p = k := by
          rcases Nat.lt_or_ge k (l.findIdx p) with h1 | h1
          · have := List.not_of_lt_findIdx h1
            rw [hp] at this; cases this
          · omega
        rw [whileO_done hb, e, if_pos hk2]
      | false =>
        rw [hp, if_neg (by decide)] at hb
        rw [whileO_step hb]
        refine ih _ (by omega) ?_
        rcases Nat.eq_or_lt_of_le hI with h1 | h1
        · have h2 : l.findIdx p < l.length := by omega
          have h3 : p (l[l.findIdx p]'h2) = true := List.findIdx_getElem
          have h4 : l[l.findIdx p]'h2 = l[k] := by congr 1; exact h1.symm
          rw [h4, hp] at h3; cases h3
        · exact h1
  exact key l.length 0 (by omega) (Nat.zero_le _)
/-- two lists compared one by one -/
theorem loop_eql {α τ : Type} [DecidableEq α] {B : Int → Option (Int ⊕ τ)} (a b : List α) (hl : a.length = b.length) (good bad : τ)
    (h : ∀ k (hk : k < a.length), B (k : Int) = some (if a[k] = b[k]'(by omega) then .inl ((k + 1 : Nat) : Int) else .inr bad)) (hn : B (a.length : Int) = some (.inr good)) : whileO B 0 = some (if a = b then good else bad) := by
  have := loop_seqf (B := B) (fun k => (k : Int)) a.length (fun k => decide (a[k]? = b[k]?)) (bad := bad) (t := good) (fun k hk _ => by
    rw [h k hk]
    by_cases e : a[k] = b[k]'(by omega)
    · rw [if_pos e, if_pos]; exact decide_eq_true (by rw [List.getElem?_eq_getElem hk, List.getElem?_eq_getElem (by omega), e])
    · rw [if_neg e, if_neg]; intro hc; have := of_decide_eq_true hc; rw [List.getElem?_eq_getElem hk, List.getElem?_eq_getElem (by omega)] at this; exact e (Option.some.inj this)) (fun _ => hn)
  have h0 : (((0 : Nat) : Int)) = 0 := rfl
  rw [h0] at this
  rw [this]
  congr 1
  by_cases e : a = b
  · subst e; rw [if_pos rfl, if_pos]; simp
  · rw [if_neg e, if_neg]
    intro hc
    refine e (List.ext_getElem? fun j => ?_)
    by_cases hj : j < a.length
    · exact of_decide_eq_true (List.all_eq_true.1 hc j (List.mem_range.2 hj))
    · rw [List.getElem?_eq_none (by omega), List.getElem?_eq_none (by omega)]
theorem wmul {a b : Nat} (h : a * b ≤ 9223372036854775807) : w64 ((a : Int) * (b : Int)) = ((a * b : Nat) : Int) := by
  rw [← Int.natCast_mul]; exact w64_of (by omega) (by omega)
theorem wadd {a b : Nat} (h : a + b ≤ 9223372036854775807) : w64 ((a : Int) + (b : Int)) = ((a + b : Nat) : Int) := by
  rw [← Int.natCast_add]; exact w64_of (by omega) (by omega)
theorem rem_nat {a b : Nat} (h : 0 < b) : remI (a : Int) (b : Int) = some ((a % b : Nat) : Int) := by
  unfold remI; rw [if_neg (by omega)]; rfl
/-- a place in a row of rows -/
theorem pl_lt {w h x y : Nat} (hx : x < w) (hy : y < h) : y * w + x < w * h := by
  have := Nat.mul_le_mul_right w (show y + 1 ≤ h by omega)
  rw [Nat.add_mul, Nat.one_mul, Nat.mul_comm h w] at this
  omega
theorem pl_mod {w x y : Nat} (hx : x < w) : (y * w + x) % w = x := by rw [Nat.mul_comm, Nat.mul_add_mod, Nat.mod_eq_of_lt hx]
theorem pl_div {w x y : Nat} (hx : x < w) : (y * w + x) / w = y := by
  rw [Nat.mul_comm, Nat.mul_add_div (by omega), Nat.div_eq_of_lt hx, Nat.add_zero]
theorem pl_of (t w : Nat) : (t / w) * w + t % w = t := by rw [Nat.mul_comm]; exact Nat.div_add_mod t w
theorem pl_divlt {t w h : Nat} (ht : t < w * h) : t / w < h := Nat.div_lt_of_lt_mul ht
theorem pl_modlt {t w : Nat} (hw : 0 < w) : t % w < w := Nat.mod_lt _ hw
/-- n places, row by row -/
def glf {α : Type} (f : Nat → Nat → α) (w n : Nat) : List α := (List.range n).map fun t => f (t % w) (t / w)
def gl {α : Type} (f : Nat → Nat → α) (w h : Nat) : List α := glf f w (w * h)
theorem gl_len {α : Type} (f : Nat → Nat → α) (w h : Nat) : (gl f w h).length = w * h := by simp [gl, glf]
theorem gl_of {α : Type} {s : List α} {f : Nat → Nat → α} {w h : Nat} (d : α) (hl : s.length = w * h) (hc : ∀ x y, x < w → y < h → s.getD (y * w + x) d = f x y) : s = gl f w h := by
  apply List.ext_getElem?
  intro t
  by_cases ht : t < w * h
  · have hw : 0 < w := by rcases Nat.eq_zero_or_pos w with h0 | h0; rw [h0, Nat.zero_mul] at ht; omega; exact h0
    have := hc _ _ (pl_modlt (t := t) hw) (pl_divlt ht)
    rw [pl_of] at this
    rw [List.getElem?_eq_getElem (by omega)]
    simp only [gl, glf, List.getElem?_map, List.getElem?_range ht, Option.map_some, ← this]
    simp [hl, ht]
  · rw [List.getElem?_eq_none (by omega), List.getElem?_eq_none (by rw [gl_len]; omega)]
theorem loop_allL {α τ : Type} {B : Int → Option (Int ⊕ τ)} (l : List α) (p : α → Bool) (good bad : τ)
    (h : ∀ k (hk : k < l.length), B (k : Int) = some (if p l[k] = true then .inl ((k + 1 : Nat) : Int) else .inr bad)) (hn : B (l.length : Int) = some (.inr good)) : whileO B 0 = some (if l.all p = true then good else bad) := by
  have h1 := loop_list l (fun x => if p x = true then none else some bad) good (fun k hk => by
    rw [h k hk]
    by_cases hp : p l[k] = true
    · rw [if_pos hp, if_pos hp]
    · rw [if_neg hp, if_neg hp]) hn
  rw [h1]
  congr 1
  clear h h1 hn
  induction l with
  | nil => rfl
  | cons x l ih =>
    rw [List.findSome?_cons, List.all_cons]
    cases hp : p x with
    | true => rw [if_pos rfl, Bool.true_and]; exact ih
    | false => rw [if_neg (by decide), Bool.false_and, if_neg (by decide)]; rfl
/-- the index that a search hands back -/
def idxF {α : Type} (l : List α) (p : α → Bool) : Int := if l.findIdx p < l.length then (l.findIdx p : Int) else -1
theorem idxF_nn {α : Type} {l : List α} {p : α → Bool} : decide (0 ≤ idxF l p) = l.any p := by
  unfold idxF
  by_cases h : l.findIdx p < l.length
  · rw [if_pos h, List.any_eq_true.2 (List.findIdx_lt_length.1 h), decide_eq_true (by omega)]
  · rw [if_neg h, decide_eq_false (by omega)]
    cases ha : l.any p with
    | false => rfl
    | true => exact absurd (List.findIdx_lt_length.2 (List.any_eq_true.1 ha)) h
end Go.Proofs.Ythfifeabomdlpaa
namespace Go.Proofs.Ythfifeabomdlpaa
open Go.RowKit
set_option linter.unusedVariables false

noncomputable def F_raddleref02_Great (p0 : (List Int)) : Option Bool :=
  Option.bind (α := Bool) (
    if decide (60 < (p0.length : Int)) then
      if decide ((p0.length : Int) ≤ 400) then
        some true
      else
        some (decide (420 < (p0.length : Int)))
    else
      some (decide (420 < (p0.length : Int)))) fun o4 =>
  some o4
set_option maxHeartbeats 4000000 in
set_option maxRecDepth 100000 in
theorem c_raddleref02_Great (E : Nat → Prop) (w0 : World) (p0 : (List Int)) (v0 : Value) (r : Bool) (h : F_raddleref02_Great p0 = some r) (S : St0 E [] w0 w0 [] [fRep (rL (rI .i64)) (v0) p0]) :
    Calls Try.prog 25 #[v0] w0 (Ret (X := Unit) E [] w0 (fun _ => .bool r) (fun _ => []) (fun _ => [])) := by
  unfold F_raddleref02_Great at h
  obtain ⟨ad1, cp2, _, rfl, _⟩ := S.know (i := 0) (e := fRep (rL (rI .i64)) (v0) p0) rfl
  refine sEnter (args := [.slice ad1 p0.length cp2]) 16 Try.func25 rfl rfl (by simp) S (fun a S => ?_)
  refine sSeq (fun K3 hK3 => ?_)
  refine sRegion ?_
  refine sMove (.bool false) S (wN rfl) (.inr rfl) rfl rfl (lb rfl) fun a S => ?_
  refine leafL (leafT (hK3 _ _ ?_))
  obtain ⟨t5, h, g6⟩ := bindSome h
  refine sCut (fun a w => ∃ o4, o4 = t5 ∧ St [] E [] w0 16 a w [(2, .bool o4)] [] []) ?_ (fun a w hI => ?_)
  rotate_left
  · obtain ⟨o4, rfl, S⟩ := hI
    have h := g6
    clear g6
    try dsimp only at h
    obtain rfl := Option.some.inj h
    exact wp_ret (sRet (.bool o4) S (rsl1 rfl (rvT (t := 2) (v := .bool o4) S rfl)) ⟨(), rfl, S.mem.sel [] [] (by decide) rfl rfl⟩)
  refine sRegion ?_
  refine sMove (.slice ad1 p0.length cp2) S (wN rfl) (.inl rfl) rfl rfl (lb rfl) fun a S => ?_
  refine sLen (ad := ad1) (m := p0.length) (c := cp2) S (wN rfl) rfl Try.underlying35 rfl rfl (lb rfl) fun a S => ?_
  refine sBin (.bool (decide (60 < (p0.length : Int)))) S (wN rfl) rfl rfl rfl (bGt _ _ _ _ .i64 (p0.length : Int) 60) rfl (lb rfl) fun a S => ?_
  refine sMove (.bool (decide (60 < (p0.length : Int)))) S (wN rfl) (.inl rfl) rfl rfl (lb rfl) fun a S => ?_
  rcases iteSome h with ⟨hc7, h⟩ | ⟨hc7, h⟩
  rotate_left
  · refine sSkip 3 true 6 7 S rfl rfl rfl hc7 rfl (lb rfl) fun a S => ?_
    refine sSkip 3 true 6 8 S rfl rfl rfl hc7 rfl (lb rfl) fun a S => ?_
    refine sSkip 3 true 6 9 S rfl rfl rfl hc7 rfl (lb rfl) fun a S => ?_
    refine sPickF (.bool false) S (wN rfl) rfl rfl hc7 rfl rfl (lb rfl) fun a S => ?_
    refine sMove (.bool false) S (wN rfl) (.inl rfl) rfl rfl (lb rfl) fun a S => ?_
    refine sMove (.slice ad1 p0.length cp2) S (wG 8 false 11 rfl rfl rfl rfl) (.inl rfl) rfl rfl (lb rfl) fun a S => ?_
    refine sLen (ad := ad1) (m := p0.length) (c := cp2) S (wG 8 false 11 rfl rfl rfl rfl) rfl Try.underlying35 rfl rfl (lb rfl) fun a S => ?_
    refine sBin (.bool (decide (420 < (p0.length : Int)))) S (wG 8 false 11 rfl rfl rfl rfl) rfl rfl rfl (bGt _ _ _ _ .i64 (p0.length : Int) 420) rfl (lb rfl) fun a S => ?_
    refine sPickF (.bool (decide (420 < (p0.length : Int)))) S (wN rfl) rfl rfl rfl rfl rfl (lb rfl) fun a S => ?_
    refine sMove (.bool (decide (420 < (p0.length : Int)))) S (wN rfl) (.inr rfl) rfl rfl (lb rfl) fun a S => ?_
    exact leafL (leafT (⟨decide (420 < (p0.length : Int)), Option.some.inj h, S.fix [] [] (by decide) rfl rfl rfl⟩))
  refine sMove (.slice ad1 p0.length cp2) S (wG 3 true 6 rfl rfl rfl hc7) (.inl rfl) rfl rfl (lb rfl) fun a S => ?_
  refine sLen (ad := ad1) (m := p0.length) (c := cp2) S (wG 3 true 6 rfl rfl rfl hc7) rfl Try.underlying35 rfl rfl (lb rfl) fun a S => ?_
  refine sBin (.bool (decide ((p0.length : Int) ≤ 400))) S (wG 3 true 6 rfl rfl rfl hc7) rfl rfl rfl (bLe _ _ _ _ .i64 (p0.length : Int) 400) rfl (lb rfl) fun a S => ?_
  refine sPickT (.bool (decide ((p0.length : Int) ≤ 400))) S (wN rfl) rfl rfl hc7 rfl rfl (lb rfl) fun a S => ?_
  refine sMove (.bool (decide ((p0.length : Int) ≤ 400))) S (wN rfl) (.inl rfl) rfl rfl (lb rfl) fun a S => ?_
  rcases iteSome h with ⟨hc8, h⟩ | ⟨hc8, h⟩
  · refine sSkip 8 false 11 12 S rfl rfl rfl hc8 rfl (lb rfl) fun a S => ?_
    refine sSkip 8 false 11 13 S rfl rfl rfl hc8 rfl (lb rfl) fun a S => ?_
    refine sSkip 8 false 11 14 S rfl rfl rfl hc8 rfl (lb rfl) fun a S => ?_
    refine sPickT (.bool true) S (wN rfl) rfl rfl hc8 rfl rfl (lb rfl) fun a S => ?_
    refine sMove (.bool true) S (wN rfl) (.inr rfl) rfl rfl (lb rfl) fun a S => ?_
    exact leafL (leafT (⟨true, Option.some.inj h, S.fix [] [] (by decide) rfl rfl rfl⟩))
  refine sMove (.slice ad1 p0.length cp2) S (wG 8 false 11 rfl rfl rfl hc8) (.inl rfl) rfl rfl (lb rfl) fun a S => ?_
  refine sLen (ad := ad1) (m := p0.length) (c := cp2) S (wG 8 false 11 rfl rfl rfl hc8) rfl Try.underlying35 rfl rfl (lb rfl) fun a S => ?_
  refine sBin (.bool (decide (420 < (p0.length : Int)))) S (wG 8 false 11 rfl rfl rfl hc8) rfl rfl rfl (bGt _ _ _ _ .i64 (p0.length : Int) 420) rfl (lb rfl) fun a S => ?_
  refine sPickF (.bool (decide (420 < (p0.length : Int)))) S (wN rfl) rfl rfl hc8 rfl rfl (lb rfl) fun a S => ?_
  refine sMove (.bool (decide (420 < (p0.length : Int)))) S (wN rfl) (.inr rfl) rfl rfl (lb rfl) fun a S => ?_
  exact leafL (leafT (⟨decide (420 < (p0.length : Int)), Option.some.inj h, S.fix [] [] (by decide) rfl rfl rfl⟩))

end Go.Proofs.Ythfifeabomdlpaa
