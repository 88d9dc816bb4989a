/- LoopsFlips: walks, tables, laws. -/
import Derived.Test.YticjoiolfibmlaaProg
import Derived.Test.YticjoiolfibmlaaRows
import Derived.Test.YticjoiolfibmlaaMLoopsFlips3
set_option linter.unusedVariables false
set_option linter.unusedSimpArgs false
set_option maxHeartbeats 4000000
set_option maxRecDepth 100000
namespace Go.Proofs.Yticjoiolfibmlaa
open Go.RowKit
def K_raddlelaw27_one (p0 : Int) (p1 : (List api_Stitch)) : Option api_Chart :=
 some (api_Chart.mk p0 [(api_Row.mk false p1)])
def K_chart_counted (p0 : api_Chart) : Option api_Chart :=
 some p0
def K_stitch_forms (p0 : Int) : Option (stitch_form × Bool) :=
 Option.bind (α := Bool) (
  if decide (p0 < 1) then
   some true
  else
   some (decide (([(stitch_form.mk (⟨#[]⟩ : ByteArray) (0, 0) (0, 0) true 1 1), (stitch_form.mk (⟨#[]⟩ : ByteArray) (0, 0) (0, 0) false 0 1), (stitch_form.mk (⟨#[102]⟩ : ByteArray) (2, 4) (0, 0) true 2 1), (stitch_form.mk (⟨#[108]⟩ : ByteArray) (2, 4) (0, 0) true 2 1), (stitch_form.mk (⟨#[109]⟩ : ByteArray) (2, 4) (0, 0) true 1 2), (stitch_form.mk (⟨#[120]⟩ : ByteArray) (1, 6) (1, 6) true 3 3), (stitch_form.mk (⟨#[121]⟩ : ByteArray) (1, 6) (1, 6) true 3 3), (stitch_form.mk (⟨#[115]⟩ : ByteArray) (0, 0) (0, 0) true 1 1), (stitch_form.mk (⟨#[]⟩ : ByteArray) (1, 200) (0, 0) false 0 2), (stitch_form.mk (⟨#[111]⟩ : ByteArray) (1, 200) (0, 0) true 2 0)].length : Int) < (IntKind.i64.wrap p0)))) fun o12 =>
 if o12 then
  some ((stitch_form.mk (⟨#[]⟩ : ByteArray) (0, 0) (0, 0) false 0 0), false)
 else
  Option.bind (idxO [(stitch_form.mk (⟨#[]⟩ : ByteArray) (0, 0) (0, 0) true 1 1), (stitch_form.mk (⟨#[]⟩ : ByteArray) (0, 0) (0, 0) false 0 1), (stitch_form.mk (⟨#[102]⟩ : ByteArray) (2, 4) (0, 0) true 2 1), (stitch_form.mk (⟨#[108]⟩ : ByteArray) (2, 4) (0, 0) true 2 1), (stitch_form.mk (⟨#[109]⟩ : ByteArray) (2, 4) (0, 0) true 1 2), (stitch_form.mk (⟨#[120]⟩ : ByteArray) (1, 6) (1, 6) true 3 3), (stitch_form.mk (⟨#[121]⟩ : ByteArray) (1, 6) (1, 6) true 3 3), (stitch_form.mk (⟨#[115]⟩ : ByteArray) (0, 0) (0, 0) true 1 1), (stitch_form.mk (⟨#[]⟩ : ByteArray) (1, 200) (0, 0) false 0 2), (stitch_form.mk (⟨#[111]⟩ : ByteArray) (1, 200) (0, 0) true 2 0)] (IntKind.u8.wrap (p0 - 1))) fun x19 =>
  some (x19, true)
def K_stitch_within (p0 : Int) (p1 : (Int × Int)) : Option Bool :=
 Option.bind (α := Bool) (
  if decide (p1.1 ≤ p0) then
   some (decide (p0 ≤ p1.2))
  else
   some false) fun o3 =>
 some o3
def K_stitch_Check (p0 : api_Stitch) : Option Int :=
 Option.bind (K_stitch_forms p0.Kind) fun r4 =>
 Option.bind (α := Bool) (
  if !r4.2 then
   some true
  else
   Option.bind (K_stitch_within p0.A r4.1.a) fun r13 =>
   if !r13 then
    some true
   else
    Option.bind (K_stitch_within p0.B r4.1.b) fun r16 =>
    if !r16 then
     some true
    else
     if p0.Purl then
      some (!r4.1.sided)
     else
      some false) fun o9 =>
 if o9 then
  some 8
 else
  some 0
def K_stitch_All_1 (p0 : api_Stitch) : Option Bool :=
 Option.bind (K_stitch_Check p0) fun r4 =>
 some (r4 != 0)
def K_slices_IndexFunc___api_Stitch_api_Stitch__s0_l1 (p0 : (List api_Stitch)) : Int → Option (Int ⊕ (Int ⊕ Unit)) := fun s0 => match s0 with
 | s7 =>
  if decide (s7 < (p0.length : Int)) then
   Option.bind (idxO p0 s7) fun x17 =>
   Option.bind (K_stitch_All_1 x17) fun r22 =>
   if r22 then
    some (.inr (.inl s7))
   else
    some (.inl (w64 (s7 + 1)))
  else
   some (.inr (.inr ()))
def K_slices_IndexFunc___api_Stitch_api_Stitch__s0 (p0 : (List api_Stitch)) : Option Int :=
 Option.bind (α := Unit ⊕ Int) (
  Option.bind (whileK (K_slices_IndexFunc___api_Stitch_api_Stitch__s0_l1 p0) 0) fun z0 => match z0 with
   | .inl z =>
    some (.inr z)
   | .inr _ =>
    some (.inl ())) fun z0 => match z0 with
  | .inl _ =>
   some (-1)
  | .inr z =>
   some z
def K_slices_ContainsFunc___api_Stitch_api_Stitch__s0 (p0 : (List api_Stitch)) : Option Bool :=
 Option.bind (K_slices_IndexFunc___api_Stitch_api_Stitch__s0 p0) fun r5 =>
 some (decide (0 ≤ r5))
def K_stitch_loops (p0 : api_Stitch) (p1 : Int) : Option Int :=
 Option.bind (idxO ([0, 1, p0.A, w64 (p0.A + p0.B)] : List Int) p1) fun x4 =>
 some x4
def K_stitch_sum_l1 (p0 : (List api_Stitch)) : (Int × Int × Int) → Option ((Int × Int × Int) ⊕ (Int × Int)) := fun s0 => match s0 with
 | (s9, s10, s11) =>
  if decide (s11 < (p0.length : Int)) then
   Option.bind (idxO p0 s11) fun x22 =>
   Option.bind (K_stitch_forms x22.Kind) fun r29 =>
   Option.bind (K_stitch_loops x22 r29.1.uses) fun r34 =>
   Option.bind (K_stitch_loops x22 r29.1.made) fun r36 =>
   some (.inl (w64 (s9 + r34), w64 (s10 + r36), w64 (s11 + 1)))
  else
   some (.inr (s9, s10))
def K_stitch_sum (p0 : (List api_Stitch)) : Option (Int × Int) :=
 Option.bind (α := (Int × Int)) (
  Option.bind (whileK (K_stitch_sum_l1 p0) (0, 0, 0)) fun (e15, e16) =>
   some (e15, e16)) fun (o4, o5) =>
 some (o4, o5)
def K_stitch_All (p0 : (List api_Stitch)) : Option Int :=
 if decide (200 < (p0.length : Int)) then
  some 4
 else
  Option.bind (K_slices_ContainsFunc___api_Stitch_api_Stitch__s0 p0) fun r10 =>
  if r10 then
   some 8
  else
   Option.bind (K_stitch_sum p0) fun r16 =>
   if decide (200 < (if r16.1 < r16.2 then r16.2 else r16.1)) then
    some 4
   else
    some 0
def K_stitch_Uses (p0 : (List api_Stitch)) : Option (Int × Int) :=
 Option.bind (K_stitch_All p0) fun r6 =>
 if r6 != 0 then
  some (0, r6)
 else
  Option.bind (K_stitch_sum p0) fun r12 =>
  some (r12.1, 0)
def K_stitch_Makes (p0 : (List api_Stitch)) : Option (Int × Int) :=
 Option.bind (K_stitch_All p0) fun r6 =>
 if r6 != 0 then
  some (0, r6)
 else
  Option.bind (K_stitch_sum p0) fun r12 =>
  some (r12.2, 0)
def K_chart_counted_1_l1 {σ τ : Type} (p0 : api_Chart) (B : σ → (Int × chart_count) → Option (σ ⊕ τ)) : (Int × Int × σ) → Option ((Int × Int × σ) ⊕ ((σ ⊕ τ) ⊕ (σ))) := fun s0 => match s0 with
 | (s11, s12, gz13) =>
  if decide (s12 < (p0.Rows.length : Int)) then
   Option.bind (idxO p0.Rows s12) fun x23 =>
   Option.bind (K_stitch_Uses x23.Cells) fun r36 =>
   Option.bind (α := (Int × Int)) (
    if r36.2 != 0 then
     some (0, r36.2)
    else
     if r36.1 != s11 then
      some (0, 26)
     else
      Option.bind (K_stitch_Makes x23.Cells) fun r46 =>
      some (r46.1, 0)) fun (o38, o39) =>
   Option.bind (B gz13 (s12, (chart_count.mk s11 o38 o39))) fun y51 =>
   match y51 with
   | .inl gz53 =>
    if ((chart_count.mk s11 o38 o39).e) != 0 then
     some (.inr (.inl (.inl gz53)))
    else
     some (.inl ((chart_count.mk s11 o38 o39).after, w64 (s12 + 1), gz53))
   | .inr tz54 =>
    some (.inr (.inl (.inr tz54)))
  else
   some (.inr (.inr gz13))
def K_I_chart_counted_1 (p0 : api_Chart) (σ τ : Type) (B : σ → (Int × chart_count) → Option (σ ⊕ τ)) (gz0 : σ) : Option (σ ⊕ τ) :=
 Option.bind (whileK (K_chart_counted_1_l1 p0 B) (p0.Start, 0, gz0)) fun z0 => match z0 with
  | .inl z =>
   some z
  | .inr gz17 =>
   some (.inl gz17)
def K_chart_Check_l2  : Unit → (Int × chart_count) → Option (Unit ⊕ Int) := fun s0 x0 => match s0, x0 with
 | _, (x25, x27) =>
  if x27.e != 0 then
   some (.inr x27.e)
  else
   some (.inl ())
def K_chart_Check (p0 : api_Chart) : Option Int :=
 if decide (100 < (p0.Rows.length : Int)) then
  some 4
 else
  Option.bind (α := Bool) (
   if decide (p0.Start < 0) then
    some true
   else
    some (decide (200 < p0.Start))) fun o13 =>
  if o13 then
   some 8
  else
   Option.bind (K_chart_counted p0) fun r21 =>
   Option.bind (K_I_chart_counted_1 r21 _ _ (K_chart_Check_l2) ()) fun z0 => match z0 with
    | .inl _ =>
     some 0
    | .inr e24 =>
     some e24
def K_loops_of_l1 (p0 : api_Chart) : (Int × List api_Loop) → Option ((Int × List api_Loop) ⊕ List api_Loop) := fun s0 => match s0 with
 | (s21, s22) =>
  if decide (s21 < p0.Start) then
   Option.bind (appO s22 [(api_Loop.mk 0 s21 ([] : (List Int)) false)]) fun l38 =>
   some (.inl (w64 (s21 + 1), l38))
  else
   some (.inr s22)
def K_slices_Backward___api_Stitch_api_Stitch_ (p0 : (List api_Stitch)) : Option (List api_Stitch) :=
 some p0
def K_slices_Backward___api_Stitch_api_Stitch__1_l1 {σ τ : Type} (p0 : (List api_Stitch)) (B : σ → (Int × api_Stitch) → Option (σ ⊕ τ)) : (Int × σ) → Option ((Int × σ) ⊕ ((σ ⊕ τ) ⊕ (σ))) := fun s0 => match s0 with
 | (s5, gz6) =>
  if decide (0 ≤ s5) then
   Option.bind (idxO p0 s5) fun x20 =>
   Option.bind (B gz6 (s5, x20)) fun y25 =>
   match y25 with
   | .inl gz27 =>
    some (.inl (w64 (s5 - 1), gz27))
   | .inr tz28 =>
    some (.inr (.inl (.inr tz28)))
  else
   some (.inr (.inr gz6))
def K_I_slices_Backward___api_Stitch_api_Stitch__1 (p0 : (List api_Stitch)) (σ τ : Type) (B : σ → (Int × api_Stitch) → Option (σ ⊕ τ)) (gz0 : σ) : Option (σ ⊕ τ) :=
 Option.bind (whileK (K_slices_Backward___api_Stitch_api_Stitch__1_l1 p0 B) (w64 ((p0.length : Int) - 1), gz0)) fun z0 => match z0 with
  | .inl z =>
   some z
  | .inr gz10 =>
   some (.inl gz10)
def K_stitch_Turn_l2  : List api_Stitch → (Int × api_Stitch) → Option (List api_Stitch ⊕ Empty) := fun s0 x0 => match s0, x0 with
 | s22, (x25, x27) =>
  Option.bind (K_stitch_forms x27.Kind) fun r31 =>
  Option.bind (α := Bool) (
   if r31.1.sided then
    some (!x27.Purl)
   else
    some false) fun o35 =>
  Option.bind (α := (Int × Int)) (
   if decide (0 < r31.1.b.2) then
    some (x27.B, x27.A)
   else
    some (x27.A, x27.B)) fun (o39, o40) =>
  Option.bind (appO s22 [(api_Stitch.mk x27.Kind o35 o39 o40)]) fun l47 =>
  some (.inl l47)
def K_stitch_Turn (p0 : (List api_Stitch)) : Option ((List api_Stitch) × Int) :=
 Option.bind (K_stitch_All p0) fun r6 =>
 if r6 != 0 then
  some (([] : (List api_Stitch)), r6)
 else
  Option.bind (capO (p0.length : Int)) fun z14 =>
  Option.bind (K_slices_Backward___api_Stitch_api_Stitch_ p0) fun r19 =>
  Option.bind (K_I_slices_Backward___api_Stitch_api_Stitch__1 r19 _ _ (K_stitch_Turn_l2) ([] : List api_Stitch)) fun z0 => match z0 with
   | .inl s22 =>
    some (s22, 0)
   | .inr z0 =>
    nomatch z0
def K_slices_Clone___api_Stitch_api_Stitch_ (p0 : (List api_Stitch)) : Option (List api_Stitch) :=
 Option.bind (appO ([] : List api_Stitch) p0) fun l12 =>
 some l12
def K_chart_Face (p0 : api_Chart) (p1 : Int) : Option ((List api_Stitch) × Int) :=
 Option.bind (K_chart_Check p0) fun r9 =>
 if r9 != 0 then
  some (([] : (List api_Stitch)), r9)
 else
  Option.bind (α := Bool) (
   if decide (p1 < 0) then
    some true
   else
    some (decide ((p0.Rows.length : Int) ≤ p1))) fun o15 =>
  if o15 then
   some (([] : (List api_Stitch)), 2)
  else
   Option.bind (idxO p0.Rows p1) fun x23 =>
   if x23.Back then
    Option.bind (K_stitch_Turn x23.Cells) fun r39 =>
    some (r39.1, r39.2)
   else
    Option.bind (K_slices_Clone___api_Stitch_api_Stitch_ x23.Cells) fun r52 =>
    some (r52, 0)
def K_loops_piece_take_s3_l1 (m5 : List Int) (p0 : loops_piece) : (List Int × Int) → Option ((List Int × Int) ⊕ List Int) := fun s0 => match s0 with
 | (s19, s20) =>
  if decide (s20 < (m5.length : Int)) then
   Option.bind (idxO s19 s20) fun x46 =>
   Option.bind (setO s19 s20 (w64 (p0.next + s20))) fun l51 =>
   some (.inl (l51, w64 (s20 + 1)))
  else
   some (.inr s19)
def K_loops_piece_take_s3 (p0 : loops_piece) (p1 : Int) : Option ((List Int) × loops_piece) :=
 Option.bind (makeO p1 (0 : Int)) fun m5 =>
 Option.bind (α := List Int) (
  Option.bind (whileK (K_loops_piece_take_s3_l1 m5 p0) (m5, 0)) fun e32 =>
   some e32) fun o7 =>
 some (o7, (loops_piece.mk p0.loops p0.rows p0.bound p0.cross (w64 (p0.next + p1))))
def K_loops_piece_add_s1_l1 (p2 : (List (List Int))) (p1 : api_Loop) : (Int × List api_Loop × List Int) → Option ((Int × List api_Loop × List Int) ⊕ List api_Loop) := fun s0 => match s0 with
 | (s10, s11, s20) =>
  if decide (s10 < (p2.length : Int)) then
   Option.bind (idxO p2 s10) fun x40 =>
   Option.bind (appO s11 [(api_Loop.mk p1.Row p1.Cell x40 p1.Purl)]) fun l50 =>
   some (.inl (w64 (s10 + 1), l50, x40))
  else
   some (.inr s11)
def K_loops_piece_add_s1 (p0 : loops_piece) (p1 : api_Loop) (p2 : (List (List Int))) : Option loops_piece :=
 Option.bind (whileK (K_loops_piece_add_s1_l1 p2 p1) (0, p0.loops, p1.Parents)) fun e26 =>
  some (loops_piece.mk e26 p0.rows p0.bound p0.cross p0.next)
def K_slices_Reverse___int_int__s0_l1  : (List Int × Int × Int) → Option ((List Int × Int × Int) ⊕ List Int) := fun s0 => match s0 with
 | (s2, s3, s4) =>
  if decide (s3 < s4) then
   Option.bind (idxO s2 s4) fun x13 =>
   Option.bind (idxO s2 s3) fun x18 =>
   Option.bind (setO s2 s3 x13) fun l26 =>
   Option.bind (idxO l26 s4) fun x28 =>
   Option.bind (setO l26 s4 x18) fun l33 =>
   some (.inl (l33, w64 (s3 + 1), w64 (s4 - 1)))
  else
   some (.inr s2)
def K_slices_Reverse___int_int__s0 (p0 : (List Int)) : Option (List Int) :=
 Option.bind (whileK (K_slices_Reverse___int_int__s0_l1) (p0, 0, w64 ((p0.length : Int) - 1))) fun e8 =>
  (keepO p0 e8).bind fun _ =>
  some e8
def K_slices_Clone___int_int__s0 (p0 : (List Int)) : Option (List Int) :=
 Option.bind (appO ([] : List Int) p0) fun l12 =>
 some l12
def K_loops_piece_work_s1_l1 (p3 : api_Stitch) (r9 : ((List Int) × loops_piece)) (p1 : Int) (p2 : Int) : (Int × List api_Loop × List Int × List Int × List (Int × Int) × Int) → Option ((Int × List api_Loop × List Int × List Int × List (Int × Int) × Int) ⊕ (List api_Loop × List Int × List Int × List (Int × Int) × Int)) := fun s0 => match s0 with
 | (s140, s141, s144, s147, s150, s153) =>
  if decide (s140 < p3.A) then
   Option.bind (K_slices_Clone___int_int__s0 r9.1) fun r174 =>
   Option.bind (K_loops_piece_add_s1 (loops_piece.mk s141 s144 s147 s150 s153) (api_Loop.mk p1 p2 ([] : (List Int)) p3.Purl) [r174]) fun r180 =>
   some (.inl (w64 (s140 + 1), r180.loops, r180.rows, r180.bound, r180.cross, r180.next))
  else
   some (.inr (s141, s144, s147, s150, s153))
def K_slices_Concat___int_int__l1 (p0 : (List (List Int))) : (Int × Int) → Option ((Int × Int) ⊕ Int) := fun s0 => match s0 with
 | (s9, s10) =>
  if decide (s10 < (p0.length : Int)) then
   Option.bind (idxO p0 s10) fun x20 =>
   if decide ((w64 (s9 + (x20.length : Int))) < 0) then
    none
   else
    some (.inl (w64 (s9 + (x20.length : Int)), w64 (s10 + 1)))
  else
   some (.inr s9)
def K_slices_Grow___int_int__s1 (p0 : Int) : Option (List Int) :=
 if decide (p0 < 0) then
  none
 else
  Option.bind (α := List Int) (
   if decide (0 < (w64 (p0 - (w64 ((0 : Int) - 0))))) then
    Option.bind (appZ (w64 (p0 - (w64 ((0 : Int) - 0)))) (0 : Int)) fun m15 =>
    Option.bind (sliceO m15 0 0) fun y17 =>
    some y17
   else
    some ([] : List Int)) fun o5 =>
  some o5
def K_slices_Concat___int_int__l2 (p0 : (List (List Int))) : (List Int × Int) → Option ((List Int × Int) ⊕ List Int) := fun s0 => match s0 with
 | (s41, s44) =>
  if decide (s44 < (p0.length : Int)) then
   Option.bind (idxO p0 s44) fun x56 =>
   Option.bind (appO s41 x56) fun l63 =>
   some (.inl (l63, w64 (s44 + 1)))
  else
   some (.inr s41)
def K_slices_Concat___int_int_ (p0 : (List (List Int))) : Option (List Int) :=
 Option.bind (α := Int) (
  Option.bind (whileK (K_slices_Concat___int_int__l1 p0) (0, 0)) fun e14 =>
   some e14) fun o5 =>
 Option.bind (K_slices_Grow___int_int__s1 o5) fun r31 =>
 Option.bind (α := List Int) (
  Option.bind (whileK (K_slices_Concat___int_int__l2 p0) (r31, 0)) fun e48 =>
   some e48) fun o35 =>
 some o35
def K_loops_piece_cable_s1_l1 (r37 : (List Int)) (p1 : api_Loop) : (Int × List api_Loop × List Int × List Int × List (Int × Int) × Int) → Option ((Int × List api_Loop × List Int × List Int × List (Int × Int) × Int) ⊕ (List api_Loop × List Int × List Int × List (Int × Int) × Int)) := fun s0 => match s0 with
 | (s51, s52, s55, s58, s61, s64) =>
  if decide (s51 < (r37.length : Int)) then
   Option.bind (idxO r37 s51) fun x86 =>
   Option.bind (K_loops_piece_add_s1 (loops_piece.mk s52 s55 s58 s61 s64) p1 [([x86] : List Int)]) fun r95 =>
   some (.inl (w64 (s51 + 1), r95.loops, r95.rows, r95.bound, r95.cross, r95.next))
  else
   some (.inr (s52, s55, s58, s61, s64))
def K_slices_Reverse___int_int__s1_l1  : (Int × Int × Int × Int) → Option ((Int × Int × Int × Int) ⊕ (Int × Int)) := fun s0 => match s0 with
 | (s2, s3, s4, s5) =>
  if decide (s2 < s3) then
   Option.bind (idxO ([s4, s5] : List Int) s3) fun x15 =>
   Option.bind (idxO ([s4, s5] : List Int) s2) fun x17 =>
   Option.bind (idxO ([(if s2 = 0 then x15 else s4), (if s2 = 1 then x15 else s5)] : List Int) s3) fun x20 =>
   some (.inl (w64 (s2 + 1), w64 (s3 - 1), (if s3 = 0 then x17 else (if s2 = 0 then x15 else s4)), (if s3 = 1 then x17 else (if s2 = 1 then x15 else s5))))
  else
   some (.inr (s4, s5))
def K_slices_Reverse___int_int__s1 (p0 : (Int × Int)) : Option (Int × Int) :=
 Option.bind (whileK (K_slices_Reverse___int_int__s1_l1) (0, w64 (((2 : Nat) : Int) - 1), p0.1, p0.2)) fun (e9, e10) =>
  some (e9, e10)
def K_loops_piece_cable_s1_l2 (p2 : api_Stitch) (p0 : loops_piece) (s110 : Int) : (Int × List (Int × Int)) → Option ((Int × List (Int × Int)) ⊕ List (Int × Int)) := fun s0 => match s0 with
 | (s130, s131) =>
  if decide (s130 < p2.B) then
   Option.bind (α := (Int × Int)) (
    if p2.Kind == 7 then
     Option.bind (K_slices_Reverse___int_int__s1 (w64 ((w64 ((p0.loops.length : Int) + p2.B)) + s110), w64 ((p0.loops.length : Int) + s130))) fun r153 =>
     some (r153.1, r153.2)
    else
     some (w64 ((w64 ((p0.loops.length : Int) + p2.B)) + s110), w64 ((p0.loops.length : Int) + s130))) fun (o147, o148) =>
   Option.bind (appO s131 [(o147, o148)]) fun l157 =>
   some (.inl (w64 (s130 + 1), l157))
  else
   some (.inr s131)
def K_loops_piece_cable_s1_l3 (p2 : api_Stitch) (p0 : loops_piece) : (Int × List (Int × Int)) → Option ((Int × List (Int × Int)) ⊕ List (Int × Int)) := fun s0 => match s0 with
 | (s110, s111) =>
  if decide (s110 < p2.A) then
   Option.bind (α := List (Int × Int)) (
    Option.bind (whileK (K_loops_piece_cable_s1_l2 p2 p0 s110) (0, s111)) fun e137 =>
     some e137) fun o123 =>
   some (.inl (w64 (s110 + 1), o123))
  else
   some (.inr s111)
def K_loops_piece_cable_s1 (p0 : loops_piece) (p1 : api_Loop) (p2 : api_Stitch) (p3 : (List Int)) : Option loops_piece :=
 Option.bind (α := (List api_Loop × List Int × List Int × List (Int × Int) × Int)) (
  Option.bind (sliceO p3 p2.A (p3.length : Int)) fun y27 =>
  Option.bind (sliceO p3 0 p2.A) fun y31 =>
  Option.bind (K_slices_Concat___int_int_ [y27, y31]) fun r37 =>
  Option.bind (whileK (K_loops_piece_cable_s1_l1 r37 p1) (0, p0.loops, p0.rows, p0.bound, p0.cross, p0.next)) fun (e68, e71, e74, e77, e80) =>
   some (e68, e71, e74, e77, e80)) fun (o11, o14, o17, o20, o23) =>
 Option.bind (whileK (K_loops_piece_cable_s1_l3 p2 p0) (0, o20)) fun e117 =>
  some (loops_piece.mk o11 o14 o17 e117 o23)
def K_loops_piece_work_s1 (p0 : loops_piece) (p1 : Int) (p2 : Int) (p3 : api_Stitch) : Option loops_piece :=
 Option.bind (K_stitch_Uses [p3]) fun r6 =>
 Option.bind (K_loops_piece_take_s3 p0 r6.1) fun r9 =>
 Option.bind (α := Bool) (
  if p3.Kind == 2 then
   some (p3.Kind == 2)
  else
   some (p3.Kind == 9)) fun o24 =>
 if o24 then
  Option.bind (makeO (if (1 : Int) < p3.A then p3.A else 1) ([] : (List Int))) fun m32 =>
  Option.bind (K_loops_piece_add_s1 r9.2 (api_Loop.mk p1 p2 ([] : (List Int)) p3.Purl) m32) fun r34 =>
  some r34
 else
  if p3.Kind == 1 then
   Option.bind (K_loops_piece_add_s1 r9.2 (api_Loop.mk p1 p2 ([] : (List Int)) p3.Purl) [r9.1]) fun r58 =>
   some r58
  else
   if p3.Kind == 8 then
    Option.bind (idxO r9.1 0) fun x71 =>
    Option.bind (idxO r9.2.loops x71) fun x76 =>
    Option.bind (K_loops_piece_add_s1 r9.2 (api_Loop.mk p1 p2 ([] : (List Int)) x76.Purl) [r9.1]) fun r95 =>
    some r95
   else
    if p3.Kind == 4 then
     Option.bind (K_slices_Reverse___int_int__s0 r9.1) fun r108 =>
     Option.bind (K_loops_piece_add_s1 r9.2 (api_Loop.mk p1 p2 ([] : (List Int)) p3.Purl) [r108]) fun r113 =>
     some r113
    else
     if p3.Kind == 3 then
      Option.bind (K_loops_piece_add_s1 r9.2 (api_Loop.mk p1 p2 ([] : (List Int)) p3.Purl) [r9.1]) fun r127 =>
      some r127
     else
      if p3.Kind == 5 then
       Option.bind (whileK (K_loops_piece_work_s1_l1 p3 r9 p1 p2) (0, r9.2.loops, r9.2.rows, r9.2.bound, r9.2.cross, r9.2.next)) fun (e157, e160, e163, e166, e169) =>
        some (loops_piece.mk e157 e160 e163 e166 e169)
      else
       if p3.Kind == 10 then
        Option.bind (appO r9.2.bound r9.1) fun l204 =>
        some (loops_piece.mk r9.2.loops r9.2.rows l204 r9.2.cross r9.2.next)
       else
        Option.bind (K_loops_piece_cable_s1 r9.2 (api_Loop.mk p1 p2 ([] : (List Int)) p3.Purl) p3 r9.1) fun r208 =>
        some r208
def K_loops_of_l2 (r111 : ((List api_Stitch) × Int)) (s61 : Int) : (Int × List api_Loop × List Int × List Int × List (Int × Int) × Int) → Option ((Int × List api_Loop × List Int × List Int × List (Int × Int) × Int) ⊕ (List api_Loop × List Int × List Int × List (Int × Int) × Int)) := fun s0 => match s0 with
 | (s132, s133, s136, s139, s142, s145) =>
  if decide (s132 < (r111.1.length : Int)) then
   Option.bind (idxO r111.1 s132) fun x167 =>
   Option.bind (K_loops_piece_work_s1 (loops_piece.mk s133 s136 s139 s142 s145) (w64 (s61 + 1)) s132 x167) fun r173 =>
   some (.inl (w64 (s132 + 1), r173.loops, r173.rows, r173.bound, r173.cross, r173.next))
  else
   some (.inr (s133, s136, s139, s142, s145))
def K_loops_of_l3 (p0 : api_Chart) : (Int × List api_Loop × List Int × List Int × List (Int × Int) × Int) → Option ((Int × List api_Loop × List Int × List Int × List (Int × Int) × Int) ⊕ (List api_Loop × List Int × List Int × List (Int × Int) × Int)) := fun s0 => match s0 with
 | (s61, s62, s65, s68, s71, s74) =>
  if decide (s61 < (p0.Rows.length : Int)) then
   Option.bind (α := (List api_Loop × List Int × List Int × List (Int × Int) × Int)) (
    Option.bind (K_chart_Face p0 s61) fun r111 =>
    Option.bind (α := (List api_Loop × List Int × List Int × List (Int × Int) × Int)) (
     Option.bind (whileK (K_loops_of_l2 r111 s61) (0, s62, s65, s68, s71, s74)) fun (e149, e152, e155, e158, e161) =>
      some (e149, e152, e155, e158, e161)) fun (o116, o119, o122, o125, o128) =>
    Option.bind (appO o119 ([(o116.length : Int)] : List Int)) fun l185 =>
    some (o116, l185, o122, o125, o128)) fun (o94, o97, o100, o103, o106) =>
   some (.inl (w64 (s61 + 1), o94, o97, o100, o103, o106))
  else
   some (.inr (s62, s65, s68, s71, s74))
def K_loops_of (p0 : api_Chart) : Option (loops_piece × Int) :=
 Option.bind (K_chart_Check p0) fun r10 =>
 if r10 != 0 then
  some ((loops_piece.mk ([] : (List api_Loop)) ([] : (List Int)) ([] : (List Int)) ([] : (List (Int × Int))) 0), r10)
 else
  Option.bind (α := List api_Loop) (
   Option.bind (whileK (K_loops_of_l1 p0) (0, ([] : List api_Loop))) fun e28 =>
    some e28) fun o15 =>
  Option.bind (α := (List api_Loop × List Int × List Int × List (Int × Int) × Int)) (
   Option.bind (whileK (K_loops_of_l3 p0) (0, o15, ([0, p0.Start] : List Int), ([] : List Int), ([] : List (Int × Int)), 0)) fun (e78, e81, e84, e87, e90) =>
    some (e78, e81, e84, e87, e90)) fun (o45, o48, o51, o54, o57) =>
  some ((loops_piece.mk o45 o48 o51 o54 o57), 0)
def K_loops_Of (p0 : api_Chart) : Option ((List api_Loop) × Int) :=
 Option.bind (K_loops_of p0) fun r8 =>
 some (r8.1.loops, r8.2)
def K_loops_Crossings (p0 : api_Chart) : Option ((List (Int × Int)) × Int) :=
 Option.bind (K_loops_of p0) fun r8 =>
 some (r8.1.cross, r8.2)
def K_loops_Bound (p0 : api_Chart) : Option ((List Int) × Int) :=
 Option.bind (K_loops_of p0) fun r8 =>
 some (r8.1.bound, r8.2)
def K_raddleref26_SameInts_l1 (p0 : (List Int)) (p1 : (List Int)) : Int → Option (Int ⊕ (Bool ⊕ Unit)) := fun s0 => match s0 with
 | s13 =>
  if decide (s13 < (p0.length : Int)) then
   Option.bind (idxO p0 s13) fun x22 =>
   Option.bind (idxO p1 s13) fun x27 =>
   if x22 != x27 then
    some (.inr (.inl false))
   else
    some (.inl (w64 (s13 + 1)))
  else
   some (.inr (.inr ()))
def K_raddleref26_SameInts (p0 : (List Int)) (p1 : (List Int)) : Option Bool :=
 if (p0.length : Int) != (p1.length : Int) then
  some false
 else
  Option.bind (α := Unit ⊕ Bool) (
   Option.bind (whileK (K_raddleref26_SameInts_l1 p0 p1) 0) fun z0 => match z0 with
    | .inl z =>
     some (.inr z)
    | .inr _ =>
     some (.inl ())) fun z0 => match z0 with
   | .inl _ =>
    some true
   | .inr z =>
    some z
def K_raddleref27_SamePairs_l1 (p0 : (List (Int × Int))) (p1 : (List (Int × Int))) : Int → Option (Int ⊕ (Bool ⊕ Unit)) := fun s0 => match s0 with
 | s13 =>
  if decide (s13 < (p0.length : Int)) then
   Option.bind (idxO p0 s13) fun x22 =>
   Option.bind (idxO p1 s13) fun x27 =>
   if !((x22.1 == x27.1) && ((x22.2 == x27.2) && true)) then
    some (.inr (.inl false))
   else
    some (.inl (w64 (s13 + 1)))
  else
   some (.inr (.inr ()))
def K_raddleref27_SamePairs (p0 : (List (Int × Int))) (p1 : (List (Int × Int))) : Option Bool :=
 if (p0.length : Int) != (p1.length : Int) then
  some false
 else
  Option.bind (α := Unit ⊕ Bool) (
   Option.bind (whileK (K_raddleref27_SamePairs_l1 p0 p1) 0) fun z0 => match z0 with
    | .inl z =>
     some (.inr z)
    | .inr _ =>
     some (.inl ())) fun z0 => match z0 with
   | .inl _ =>
    some true
   | .inr z =>
    some z
theorem m_F_raddlelaw27_one (p0 : Int) (p1 : (List api_Stitch)) : Le (K_raddlelaw27_one p0 p1) (F_raddlelaw27_one p0 p1) := by
 unfold K_raddlelaw27_one F_raddlelaw27_one
 with_reducible repeat' (first | exact Le.rfl _ | refine Le.loop _ ?_ | refine Le.bind ?_ ?_ | refine Le.ite ?_ ?_ | refine Le.sum ?_ ?_ | refine Le.prod ?_ | intro _ | exact Empty.elim (by assumption) | dsimp only)
theorem m_F_chart_counted (p0 : api_Chart) : Le (K_chart_counted p0) (F_chart_counted p0) := by
 unfold K_chart_counted F_chart_counted
 with_reducible repeat' (first | exact Le.rfl _ | refine Le.loop _ ?_ | refine Le.bind ?_ ?_ | refine Le.ite ?_ ?_ | refine Le.sum ?_ ?_ | refine Le.prod ?_ | intro _ | exact Empty.elim (by assumption) | dsimp only)
theorem m_F_stitch_forms (p0 : Int) : Le (K_stitch_forms p0) (F_stitch_forms p0) := by
 unfold K_stitch_forms F_stitch_forms
 with_reducible repeat' (first | exact Le.rfl _ | refine Le.loop _ ?_ | refine Le.bind ?_ ?_ | refine Le.ite ?_ ?_ | refine Le.sum ?_ ?_ | refine Le.prod ?_ | intro _ | exact Empty.elim (by assumption) | dsimp only)
theorem m_F_stitch_within (p0 : Int) (p1 : (Int × Int)) : Le (K_stitch_within p0 p1) (F_stitch_within p0 p1) := by
 unfold K_stitch_within F_stitch_within
 with_reducible repeat' (first | exact Le.rfl _ | refine Le.loop _ ?_ | refine Le.bind ?_ ?_ | refine Le.ite ?_ ?_ | refine Le.sum ?_ ?_ | refine Le.prod ?_ | intro _ | exact Empty.elim (by assumption) | dsimp only)
theorem m_F_stitch_Check (p0 : api_Stitch) : Le (K_stitch_Check p0) (F_stitch_Check p0) := by
 unfold K_stitch_Check F_stitch_Check
 with_reducible repeat' (first | exact m_F_stitch_forms _ | exact m_F_stitch_within _ _ | exact Le.rfl _ | refine Le.loop _ ?_ | refine Le.bind ?_ ?_ | refine Le.ite ?_ ?_ | refine Le.sum ?_ ?_ | refine Le.prod ?_ | intro _ | exact Empty.elim (by assumption) | dsimp only)
theorem m_F_stitch_All_1 (p0 : api_Stitch) : Le (K_stitch_All_1 p0) (F_stitch_All_1 p0) := by
 unfold K_stitch_All_1 F_stitch_All_1
 with_reducible repeat' (first | exact m_F_stitch_Check _ | exact Le.rfl _ | refine Le.loop _ ?_ | refine Le.bind ?_ ?_ | refine Le.ite ?_ ?_ | refine Le.sum ?_ ?_ | refine Le.prod ?_ | intro _ | exact Empty.elim (by assumption) | dsimp only)
theorem m_slices_IndexFunc___api_Stitch_api_Stitch__s0_l1 (p0 : (List api_Stitch)) : ∀ s, Le (K_slices_IndexFunc___api_Stitch_api_Stitch__s0_l1 p0 s) (slices_IndexFunc___api_Stitch_api_Stitch__s0_l1 p0 s) := by
 unfold K_slices_IndexFunc___api_Stitch_api_Stitch__s0_l1 slices_IndexFunc___api_Stitch_api_Stitch__s0_l1
 with_reducible repeat' (first | exact m_F_stitch_All_1 _ | exact Le.rfl _ | refine Le.loop _ ?_ | refine Le.bind ?_ ?_ | refine Le.ite ?_ ?_ | refine Le.sum ?_ ?_ | refine Le.prod ?_ | intro _ | exact Empty.elim (by assumption) | dsimp only)
theorem m_F_slices_IndexFunc___api_Stitch_api_Stitch__s0 (p0 : (List api_Stitch)) : Le (K_slices_IndexFunc___api_Stitch_api_Stitch__s0 p0) (F_slices_IndexFunc___api_Stitch_api_Stitch__s0 p0) := by
 unfold K_slices_IndexFunc___api_Stitch_api_Stitch__s0 F_slices_IndexFunc___api_Stitch_api_Stitch__s0
 with_reducible repeat' (first | exact m_slices_IndexFunc___api_Stitch_api_Stitch__s0_l1 _ | exact Le.rfl _ | refine Le.loop _ ?_ | refine Le.bind ?_ ?_ | refine Le.ite ?_ ?_ | refine Le.sum ?_ ?_ | refine Le.prod ?_ | intro _ | exact Empty.elim (by assumption) | dsimp only)
theorem m_F_slices_ContainsFunc___api_Stitch_api_Stitch__s0 (p0 : (List api_Stitch)) : Le (K_slices_ContainsFunc___api_Stitch_api_Stitch__s0 p0) (F_slices_ContainsFunc___api_Stitch_api_Stitch__s0 p0) := by
 unfold K_slices_ContainsFunc___api_Stitch_api_Stitch__s0 F_slices_ContainsFunc___api_Stitch_api_Stitch__s0
 with_reducible repeat' (first | exact m_F_slices_IndexFunc___api_Stitch_api_Stitch__s0 _ | exact Le.rfl _ | refine Le.loop _ ?_ | refine Le.bind ?_ ?_ | refine Le.ite ?_ ?_ | refine Le.sum ?_ ?_ | refine Le.prod ?_ | intro _ | exact Empty.elim (by assumption) | dsimp only)
theorem m_F_stitch_loops (p0 : api_Stitch) (p1 : Int) : Le (K_stitch_loops p0 p1) (F_stitch_loops p0 p1) := by
 unfold K_stitch_loops F_stitch_loops
 with_reducible repeat' (first | exact Le.rfl _ | refine Le.loop _ ?_ | refine Le.bind ?_ ?_ | refine Le.ite ?_ ?_ | refine Le.sum ?_ ?_ | refine Le.prod ?_ | intro _ | exact Empty.elim (by assumption) | dsimp only)
theorem m_stitch_sum_l1 (p0 : (List api_Stitch)) : ∀ s, Le (K_stitch_sum_l1 p0 s) (stitch_sum_l1 p0 s) := by
 unfold K_stitch_sum_l1 stitch_sum_l1
 with_reducible repeat' (first | exact m_F_stitch_forms _ | exact m_F_stitch_loops _ _ | exact Le.rfl _ | refine Le.loop _ ?_ | refine Le.bind ?_ ?_ | refine Le.ite ?_ ?_ | refine Le.sum ?_ ?_ | refine Le.prod ?_ | intro _ | exact Empty.elim (by assumption) | dsimp only)
theorem m_F_stitch_sum (p0 : (List api_Stitch)) : Le (K_stitch_sum p0) (F_stitch_sum p0) := by
 unfold K_stitch_sum F_stitch_sum
 with_reducible repeat' (first | exact m_stitch_sum_l1 _ | exact Le.rfl _ | refine Le.loop _ ?_ | refine Le.bind ?_ ?_ | refine Le.ite ?_ ?_ | refine Le.sum ?_ ?_ | refine Le.prod ?_ | intro _ | exact Empty.elim (by assumption) | dsimp only)
theorem m_F_stitch_All (p0 : (List api_Stitch)) : Le (K_stitch_All p0) (F_stitch_All p0) := by
 unfold K_stitch_All F_stitch_All
 with_reducible repeat' (first | exact m_F_slices_ContainsFunc___api_Stitch_api_Stitch__s0 _ | exact m_F_stitch_sum _ | exact Le.rfl _ | refine Le.loop _ ?_ | refine Le.bind ?_ ?_ | refine Le.ite ?_ ?_ | refine Le.sum ?_ ?_ | refine Le.prod ?_ | intro _ | exact Empty.elim (by assumption) | dsimp only)
theorem m_F_stitch_Uses (p0 : (List api_Stitch)) : Le (K_stitch_Uses p0) (F_stitch_Uses p0) := by
 unfold K_stitch_Uses F_stitch_Uses
 with_reducible repeat' (first | exact m_F_stitch_All _ | exact m_F_stitch_sum _ | exact Le.rfl _ | refine Le.loop _ ?_ | refine Le.bind ?_ ?_ | refine Le.ite ?_ ?_ | refine Le.sum ?_ ?_ | refine Le.prod ?_ | intro _ | exact Empty.elim (by assumption) | dsimp only)
theorem m_F_stitch_Makes (p0 : (List api_Stitch)) : Le (K_stitch_Makes p0) (F_stitch_Makes p0) := by
 unfold K_stitch_Makes F_stitch_Makes
 with_reducible repeat' (first | exact m_F_stitch_All _ | exact m_F_stitch_sum _ | exact Le.rfl _ | refine Le.loop _ ?_ | refine Le.bind ?_ ?_ | refine Le.ite ?_ ?_ | refine Le.sum ?_ ?_ | refine Le.prod ?_ | intro _ | exact Empty.elim (by assumption) | dsimp only)
theorem m_chart_counted_1_l1 {σ τ : Type} (p0 : api_Chart) (B B' : σ → (Int × chart_count) → Option (σ ⊕ τ)) (hB : ∀ s x, Le (B s x) (B' s x)) : ∀ s, Le (K_chart_counted_1_l1 p0 B s) (chart_counted_1_l1 p0 B' s) := by
 unfold K_chart_counted_1_l1 chart_counted_1_l1
 with_reducible repeat' (first | exact hB _ _ | exact m_F_stitch_Uses _ | exact m_F_stitch_Makes _ | exact Le.rfl _ | refine Le.loop _ ?_ | refine Le.bind ?_ ?_ | refine Le.ite ?_ ?_ | refine Le.sum ?_ ?_ | refine Le.prod ?_ | intro _ | exact Empty.elim (by assumption) | dsimp only)
theorem m_I_chart_counted_1 (p0 : api_Chart) (σ τ : Type) (B B' : σ → (Int × chart_count) → Option (σ ⊕ τ)) (hB : ∀ s x, Le (B s x) (B' s x)) (gz0 : σ) : Le (K_I_chart_counted_1 p0 σ τ B gz0) (I_chart_counted_1 p0 σ τ B' gz0) := by
 unfold K_I_chart_counted_1 I_chart_counted_1
 with_reducible repeat' (first | exact hB _ _ | exact m_chart_counted_1_l1 _ _ _ hB | exact Le.rfl _ | refine Le.loop _ ?_ | refine Le.bind ?_ ?_ | refine Le.ite ?_ ?_ | refine Le.sum ?_ ?_ | refine Le.prod ?_ | intro _ | exact Empty.elim (by assumption) | dsimp only)
theorem m_chart_Check_l2  : ∀ s x, Le (K_chart_Check_l2 s x) (chart_Check_l2 s x) := by
 unfold K_chart_Check_l2 chart_Check_l2
 with_reducible repeat' (first | exact Le.rfl _ | refine Le.loop _ ?_ | refine Le.bind ?_ ?_ | refine Le.ite ?_ ?_ | refine Le.sum ?_ ?_ | refine Le.prod ?_ | intro _ | exact Empty.elim (by assumption) | dsimp only)
theorem m_F_chart_Check (p0 : api_Chart) : Le (K_chart_Check p0) (F_chart_Check p0) := by
 unfold K_chart_Check F_chart_Check
 with_reducible repeat' (first | exact m_F_chart_counted _ | refine m_I_chart_counted_1 _ _ _ _ _ ?_ _ | exact m_chart_Check_l2 | exact Le.rfl _ | refine Le.loop _ ?_ | refine Le.bind ?_ ?_ | refine Le.ite ?_ ?_ | refine Le.sum ?_ ?_ | refine Le.prod ?_ | intro _ | exact Empty.elim (by assumption) | dsimp only)
theorem m_loops_of_l1 (p0 : api_Chart) : ∀ s, Le (K_loops_of_l1 p0 s) (loops_of_l1 p0 s) := by
 unfold K_loops_of_l1 loops_of_l1
 with_reducible repeat' (first | exact Le.rfl _ | refine Le.loop _ ?_ | refine Le.bind ?_ ?_ | refine Le.ite ?_ ?_ | refine Le.sum ?_ ?_ | refine Le.prod ?_ | intro _ | exact Empty.elim (by assumption) | dsimp only)
theorem m_F_slices_Backward___api_Stitch_api_Stitch_ (p0 : (List api_Stitch)) : Le (K_slices_Backward___api_Stitch_api_Stitch_ p0) (F_slices_Backward___api_Stitch_api_Stitch_ p0) := by
 unfold K_slices_Backward___api_Stitch_api_Stitch_ F_slices_Backward___api_Stitch_api_Stitch_
 with_reducible repeat' (first | exact Le.rfl _ | refine Le.loop _ ?_ | refine Le.bind ?_ ?_ | refine Le.ite ?_ ?_ | refine Le.sum ?_ ?_ | refine Le.prod ?_ | intro _ | exact Empty.elim (by assumption) | dsimp only)
theorem m_slices_Backward___api_Stitch_api_Stitch__1_l1 {σ τ : Type} (p0 : (List api_Stitch)) (B B' : σ → (Int × api_Stitch) → Option (σ ⊕ τ)) (hB : ∀ s x, Le (B s x) (B' s x)) : ∀ s, Le (K_slices_Backward___api_Stitch_api_Stitch__1_l1 p0 B s) (slices_Backward___api_Stitch_api_Stitch__1_l1 p0 B' s) := by
 unfold K_slices_Backward___api_Stitch_api_Stitch__1_l1 slices_Backward___api_Stitch_api_Stitch__1_l1
 with_reducible repeat' (first | exact hB _ _ | exact Le.rfl _ | refine Le.loop _ ?_ | refine Le.bind ?_ ?_ | refine Le.ite ?_ ?_ | refine Le.sum ?_ ?_ | refine Le.prod ?_ | intro _ | exact Empty.elim (by assumption) | dsimp only)
theorem m_I_slices_Backward___api_Stitch_api_Stitch__1 (p0 : (List api_Stitch)) (σ τ : Type) (B B' : σ → (Int × api_Stitch) → Option (σ ⊕ τ)) (hB : ∀ s x, Le (B s x) (B' s x)) (gz0 : σ) : Le (K_I_slices_Backward___api_Stitch_api_Stitch__1 p0 σ τ B gz0) (I_slices_Backward___api_Stitch_api_Stitch__1 p0 σ τ B' gz0) := by
 unfold K_I_slices_Backward___api_Stitch_api_Stitch__1 I_slices_Backward___api_Stitch_api_Stitch__1
 with_reducible repeat' (first | exact hB _ _ | exact m_slices_Backward___api_Stitch_api_Stitch__1_l1 _ _ _ hB | exact Le.rfl _ | refine Le.loop _ ?_ | refine Le.bind ?_ ?_ | refine Le.ite ?_ ?_ | refine Le.sum ?_ ?_ | refine Le.prod ?_ | intro _ | exact Empty.elim (by assumption) | dsimp only)
theorem m_stitch_Turn_l2  : ∀ s x, Le (K_stitch_Turn_l2 s x) (stitch_Turn_l2 s x) := by
 unfold K_stitch_Turn_l2 stitch_Turn_l2
 with_reducible repeat' (first | exact m_F_stitch_forms _ | exact Le.rfl _ | refine Le.loop _ ?_ | refine Le.bind ?_ ?_ | refine Le.ite ?_ ?_ | refine Le.sum ?_ ?_ | refine Le.prod ?_ | intro _ | exact Empty.elim (by assumption) | dsimp only)
theorem m_F_stitch_Turn (p0 : (List api_Stitch)) : Le (K_stitch_Turn p0) (F_stitch_Turn p0) := by
 unfold K_stitch_Turn F_stitch_Turn
 with_reducible repeat' (first | exact m_F_stitch_All _ | exact m_F_slices_Backward___api_Stitch_api_Stitch_ _ | refine m_I_slices_Backward___api_Stitch_api_Stitch__1 _ _ _ _ _ ?_ _ | exact m_stitch_Turn_l2 | exact Le.rfl _ | refine Le.loop _ ?_ | refine Le.bind ?_ ?_ | refine Le.ite ?_ ?_ | refine Le.sum ?_ ?_ | refine Le.prod ?_ | intro _ | exact Empty.elim (by assumption) | dsimp only)
theorem m_F_slices_Clone___api_Stitch_api_Stitch_ (p0 : (List api_Stitch)) : Le (K_slices_Clone___api_Stitch_api_Stitch_ p0) (F_slices_Clone___api_Stitch_api_Stitch_ p0) := by
 unfold K_slices_Clone___api_Stitch_api_Stitch_ F_slices_Clone___api_Stitch_api_Stitch_
 with_reducible repeat' (first | exact Le.rfl _ | refine Le.loop _ ?_ | refine Le.bind ?_ ?_ | refine Le.ite ?_ ?_ | refine Le.sum ?_ ?_ | refine Le.prod ?_ | intro _ | exact Empty.elim (by assumption) | dsimp only)
theorem m_F_chart_Face (p0 : api_Chart) (p1 : Int) : Le (K_chart_Face p0 p1) (F_chart_Face p0 p1) := by
 unfold K_chart_Face F_chart_Face
 with_reducible repeat' (first | exact m_F_chart_Check _ | exact m_F_stitch_Turn _ | exact m_F_slices_Clone___api_Stitch_api_Stitch_ _ | exact Le.rfl _ | refine Le.loop _ ?_ | refine Le.bind ?_ ?_ | refine Le.ite ?_ ?_ | refine Le.sum ?_ ?_ | refine Le.prod ?_ | intro _ | exact Empty.elim (by assumption) | dsimp only)
theorem m_loops_piece_take_s3_l1 (m5 : List Int) (p0 : loops_piece) : ∀ s, Le (K_loops_piece_take_s3_l1 m5 p0 s) (loops_piece_take_s3_l1 m5 p0 s) := by
 unfold K_loops_piece_take_s3_l1 loops_piece_take_s3_l1
 with_reducible repeat' (first | exact Le.rfl _ | refine Le.loop _ ?_ | refine Le.bind ?_ ?_ | refine Le.ite ?_ ?_ | refine Le.sum ?_ ?_ | refine Le.prod ?_ | intro _ | exact Empty.elim (by assumption) | dsimp only)
theorem m_F_loops_piece_take_s3 (p0 : loops_piece) (p1 : Int) : Le (K_loops_piece_take_s3 p0 p1) (F_loops_piece_take_s3 p0 p1) := by
 unfold K_loops_piece_take_s3 F_loops_piece_take_s3
 with_reducible repeat' (first | exact m_loops_piece_take_s3_l1 _ _ | exact Le.rfl _ | refine Le.loop _ ?_ | refine Le.bind ?_ ?_ | refine Le.ite ?_ ?_ | refine Le.sum ?_ ?_ | refine Le.prod ?_ | intro _ | exact Empty.elim (by assumption) | dsimp only)
theorem m_loops_piece_add_s1_l1 (p2 : (List (List Int))) (p1 : api_Loop) : ∀ s, Le (K_loops_piece_add_s1_l1 p2 p1 s) (loops_piece_add_s1_l1 p2 p1 s) := by
 unfold K_loops_piece_add_s1_l1 loops_piece_add_s1_l1
 with_reducible repeat' (first | exact Le.rfl _ | refine Le.loop _ ?_ | refine Le.bind ?_ ?_ | refine Le.ite ?_ ?_ | refine Le.sum ?_ ?_ | refine Le.prod ?_ | intro _ | exact Empty.elim (by assumption) | dsimp only)
theorem m_F_loops_piece_add_s1 (p0 : loops_piece) (p1 : api_Loop) (p2 : (List (List Int))) : Le (K_loops_piece_add_s1 p0 p1 p2) (F_loops_piece_add_s1 p0 p1 p2) := by
 unfold K_loops_piece_add_s1 F_loops_piece_add_s1
 with_reducible repeat' (first | exact m_loops_piece_add_s1_l1 _ _ | exact Le.rfl _ | refine Le.loop _ ?_ | refine Le.bind ?_ ?_ | refine Le.ite ?_ ?_ | refine Le.sum ?_ ?_ | refine Le.prod ?_ | intro _ | exact Empty.elim (by assumption) | dsimp only)
theorem m_slices_Reverse___int_int__s0_l1  : ∀ s, Le (K_slices_Reverse___int_int__s0_l1 s) (slices_Reverse___int_int__s0_l1 s) := by
 unfold K_slices_Reverse___int_int__s0_l1 slices_Reverse___int_int__s0_l1
 with_reducible repeat' (first | exact Le.rfl _ | refine Le.loop _ ?_ | refine Le.bind ?_ ?_ | refine Le.ite ?_ ?_ | refine Le.sum ?_ ?_ | refine Le.prod ?_ | intro _ | exact Empty.elim (by assumption) | dsimp only)
theorem m_F_slices_Reverse___int_int__s0 (p0 : (List Int)) : Le (K_slices_Reverse___int_int__s0 p0) (F_slices_Reverse___int_int__s0 p0) := by
 unfold K_slices_Reverse___int_int__s0 F_slices_Reverse___int_int__s0
 with_reducible repeat' (first | exact m_slices_Reverse___int_int__s0_l1 | exact Le.rfl _ | refine Le.loop _ ?_ | refine Le.bind ?_ ?_ | refine Le.ite ?_ ?_ | refine Le.sum ?_ ?_ | refine Le.prod ?_ | intro _ | exact Empty.elim (by assumption) | dsimp only)
theorem m_F_slices_Clone___int_int__s0 (p0 : (List Int)) : Le (K_slices_Clone___int_int__s0 p0) (F_slices_Clone___int_int__s0 p0) := by
 unfold K_slices_Clone___int_int__s0 F_slices_Clone___int_int__s0
 with_reducible repeat' (first | exact Le.rfl _ | refine Le.loop _ ?_ | refine Le.bind ?_ ?_ | refine Le.ite ?_ ?_ | refine Le.sum ?_ ?_ | refine Le.prod ?_ | intro _ | exact Empty.elim (by assumption) | dsimp only)
theorem m_loops_piece_work_s1_l1 (p3 : api_Stitch) (r9 : ((List Int) × loops_piece)) (p1 : Int) (p2 : Int) : ∀ s, Le (K_loops_piece_work_s1_l1 p3 r9 p1 p2 s) (loops_piece_work_s1_l1 p3 r9 p1 p2 s) := by
 unfold K_loops_piece_work_s1_l1 loops_piece_work_s1_l1
 with_reducible repeat' (first | exact m_F_slices_Clone___int_int__s0 _ | exact m_F_loops_piece_add_s1 _ _ _ | exact Le.rfl _ | refine Le.loop _ ?_ | refine Le.bind ?_ ?_ | refine Le.ite ?_ ?_ | refine Le.sum ?_ ?_ | refine Le.prod ?_ | intro _ | exact Empty.elim (by assumption) | dsimp only)
theorem m_slices_Concat___int_int__l1 (p0 : (List (List Int))) : ∀ s, Le (K_slices_Concat___int_int__l1 p0 s) (slices_Concat___int_int__l1 p0 s) := by
 unfold K_slices_Concat___int_int__l1 slices_Concat___int_int__l1
 with_reducible repeat' (first | exact Le.rfl _ | refine Le.loop _ ?_ | refine Le.bind ?_ ?_ | refine Le.ite ?_ ?_ | refine Le.sum ?_ ?_ | refine Le.prod ?_ | intro _ | exact Empty.elim (by assumption) | dsimp only)
theorem m_F_slices_Grow___int_int__s1 (p0 : Int) : Le (K_slices_Grow___int_int__s1 p0) (F_slices_Grow___int_int__s1 p0) := by
 unfold K_slices_Grow___int_int__s1 F_slices_Grow___int_int__s1
 with_reducible repeat' (first | exact Le.rfl _ | refine Le.loop _ ?_ | refine Le.bind ?_ ?_ | refine Le.ite ?_ ?_ | refine Le.sum ?_ ?_ | refine Le.prod ?_ | intro _ | exact Empty.elim (by assumption) | dsimp only)
theorem m_slices_Concat___int_int__l2 (p0 : (List (List Int))) : ∀ s, Le (K_slices_Concat___int_int__l2 p0 s) (slices_Concat___int_int__l2 p0 s) := by
 unfold K_slices_Concat___int_int__l2 slices_Concat___int_int__l2
 with_reducible repeat' (first | exact Le.rfl _ | refine Le.loop _ ?_ | refine Le.bind ?_ ?_ | refine Le.ite ?_ ?_ | refine Le.sum ?_ ?_ | refine Le.prod ?_ | intro _ | exact Empty.elim (by assumption) | dsimp only)
theorem m_F_slices_Concat___int_int_ (p0 : (List (List Int))) : Le (K_slices_Concat___int_int_ p0) (F_slices_Concat___int_int_ p0) := by
 unfold K_slices_Concat___int_int_ F_slices_Concat___int_int_
 with_reducible repeat' (first | exact m_slices_Concat___int_int__l1 _ | exact m_F_slices_Grow___int_int__s1 _ | exact m_slices_Concat___int_int__l2 _ | exact Le.rfl _ | refine Le.loop _ ?_ | refine Le.bind ?_ ?_ | refine Le.ite ?_ ?_ | refine Le.sum ?_ ?_ | refine Le.prod ?_ | intro _ | exact Empty.elim (by assumption) | dsimp only)
theorem m_loops_piece_cable_s1_l1 (r37 : (List Int)) (p1 : api_Loop) : ∀ s, Le (K_loops_piece_cable_s1_l1 r37 p1 s) (loops_piece_cable_s1_l1 r37 p1 s) := by
 unfold K_loops_piece_cable_s1_l1 loops_piece_cable_s1_l1
 with_reducible repeat' (first | exact m_F_loops_piece_add_s1 _ _ _ | exact Le.rfl _ | refine Le.loop _ ?_ | refine Le.bind ?_ ?_ | refine Le.ite ?_ ?_ | refine Le.sum ?_ ?_ | refine Le.prod ?_ | intro _ | exact Empty.elim (by assumption) | dsimp only)
theorem m_slices_Reverse___int_int__s1_l1  : ∀ s, Le (K_slices_Reverse___int_int__s1_l1 s) (slices_Reverse___int_int__s1_l1 s) := by
 unfold K_slices_Reverse___int_int__s1_l1 slices_Reverse___int_int__s1_l1
 with_reducible repeat' (first | exact Le.rfl _ | refine Le.loop _ ?_ | refine Le.bind ?_ ?_ | refine Le.ite ?_ ?_ | refine Le.sum ?_ ?_ | refine Le.prod ?_ | intro _ | exact Empty.elim (by assumption) | dsimp only)
theorem m_F_slices_Reverse___int_int__s1 (p0 : (Int × Int)) : Le (K_slices_Reverse___int_int__s1 p0) (F_slices_Reverse___int_int__s1 p0) := by
 unfold K_slices_Reverse___int_int__s1 F_slices_Reverse___int_int__s1
 with_reducible repeat' (first | exact m_slices_Reverse___int_int__s1_l1 | exact Le.rfl _ | refine Le.loop _ ?_ | refine Le.bind ?_ ?_ | refine Le.ite ?_ ?_ | refine Le.sum ?_ ?_ | refine Le.prod ?_ | intro _ | exact Empty.elim (by assumption) | dsimp only)
theorem m_loops_piece_cable_s1_l2 (p2 : api_Stitch) (p0 : loops_piece) (s110 : Int) : ∀ s, Le (K_loops_piece_cable_s1_l2 p2 p0 s110 s) (loops_piece_cable_s1_l2 p2 p0 s110 s) := by
 unfold K_loops_piece_cable_s1_l2 loops_piece_cable_s1_l2
 with_reducible repeat' (first | exact m_F_slices_Reverse___int_int__s1 _ | exact Le.rfl _ | refine Le.loop _ ?_ | refine Le.bind ?_ ?_ | refine Le.ite ?_ ?_ | refine Le.sum ?_ ?_ | refine Le.prod ?_ | intro _ | exact Empty.elim (by assumption) | dsimp only)
theorem m_loops_piece_cable_s1_l3 (p2 : api_Stitch) (p0 : loops_piece) : ∀ s, Le (K_loops_piece_cable_s1_l3 p2 p0 s) (loops_piece_cable_s1_l3 p2 p0 s) := by
 unfold K_loops_piece_cable_s1_l3 loops_piece_cable_s1_l3
 with_reducible repeat' (first | exact m_loops_piece_cable_s1_l2 _ _ _ | exact Le.rfl _ | refine Le.loop _ ?_ | refine Le.bind ?_ ?_ | refine Le.ite ?_ ?_ | refine Le.sum ?_ ?_ | refine Le.prod ?_ | intro _ | exact Empty.elim (by assumption) | dsimp only)
theorem m_F_loops_piece_cable_s1 (p0 : loops_piece) (p1 : api_Loop) (p2 : api_Stitch) (p3 : (List Int)) : Le (K_loops_piece_cable_s1 p0 p1 p2 p3) (F_loops_piece_cable_s1 p0 p1 p2 p3) := by
 unfold K_loops_piece_cable_s1 F_loops_piece_cable_s1
 with_reducible repeat' (first | exact m_F_slices_Concat___int_int_ _ | exact m_loops_piece_cable_s1_l1 _ _ | exact m_loops_piece_cable_s1_l3 _ _ | exact Le.rfl _ | refine Le.loop _ ?_ | refine Le.bind ?_ ?_ | refine Le.ite ?_ ?_ | refine Le.sum ?_ ?_ | refine Le.prod ?_ | intro _ | exact Empty.elim (by assumption) | dsimp only)
theorem m_F_loops_piece_work_s1 (p0 : loops_piece) (p1 : Int) (p2 : Int) (p3 : api_Stitch) : Le (K_loops_piece_work_s1 p0 p1 p2 p3) (F_loops_piece_work_s1 p0 p1 p2 p3) := by
 unfold K_loops_piece_work_s1 F_loops_piece_work_s1
 with_reducible repeat' (first | exact m_F_stitch_Uses _ | exact m_F_loops_piece_take_s3 _ _ | exact m_F_loops_piece_add_s1 _ _ _ | exact m_F_slices_Reverse___int_int__s0 _ | exact m_loops_piece_work_s1_l1 _ _ _ _ | exact m_F_loops_piece_cable_s1 _ _ _ _ | exact Le.rfl _ | refine Le.loop _ ?_ | refine Le.bind ?_ ?_ | refine Le.ite ?_ ?_ | refine Le.sum ?_ ?_ | refine Le.prod ?_ | intro _ | exact Empty.elim (by assumption) | dsimp only)
theorem m_loops_of_l2 (r111 : ((List api_Stitch) × Int)) (s61 : Int) : ∀ s, Le (K_loops_of_l2 r111 s61 s) (loops_of_l2 r111 s61 s) := by
 unfold K_loops_of_l2 loops_of_l2
 with_reducible repeat' (first | exact m_F_loops_piece_work_s1 _ _ _ _ | exact Le.rfl _ | refine Le.loop _ ?_ | refine Le.bind ?_ ?_ | refine Le.ite ?_ ?_ | refine Le.sum ?_ ?_ | refine Le.prod ?_ | intro _ | exact Empty.elim (by assumption) | dsimp only)
theorem m_loops_of_l3 (p0 : api_Chart) : ∀ s, Le (K_loops_of_l3 p0 s) (loops_of_l3 p0 s) := by
 unfold K_loops_of_l3 loops_of_l3
 with_reducible repeat' (first | exact m_F_chart_Face _ _ | exact m_loops_of_l2 _ _ | exact Le.rfl _ | refine Le.loop _ ?_ | refine Le.bind ?_ ?_ | refine Le.ite ?_ ?_ | refine Le.sum ?_ ?_ | refine Le.prod ?_ | intro _ | exact Empty.elim (by assumption) | dsimp only)
theorem m_F_loops_of (p0 : api_Chart) : Le (K_loops_of p0) (F_loops_of p0) := by
 unfold K_loops_of F_loops_of
 with_reducible repeat' (first | exact m_F_chart_Check _ | exact m_loops_of_l1 _ | exact m_loops_of_l3 _ | exact Le.rfl _ | refine Le.loop _ ?_ | refine Le.bind ?_ ?_ | refine Le.ite ?_ ?_ | refine Le.sum ?_ ?_ | refine Le.prod ?_ | intro _ | exact Empty.elim (by assumption) | dsimp only)
theorem m_F_loops_Of (p0 : api_Chart) : Le (K_loops_Of p0) (F_loops_Of p0) := by
 unfold K_loops_Of F_loops_Of
 with_reducible repeat' (first | exact m_F_loops_of _ | exact Le.rfl _ | refine Le.loop _ ?_ | refine Le.bind ?_ ?_ | refine Le.ite ?_ ?_ | refine Le.sum ?_ ?_ | refine Le.prod ?_ | intro _ | exact Empty.elim (by assumption) | dsimp only)
theorem m_F_loops_Crossings (p0 : api_Chart) : Le (K_loops_Crossings p0) (F_loops_Crossings p0) := by
 unfold K_loops_Crossings F_loops_Crossings
 with_reducible repeat' (first | exact m_F_loops_of _ | exact Le.rfl _ | refine Le.loop _ ?_ | refine Le.bind ?_ ?_ | refine Le.ite ?_ ?_ | refine Le.sum ?_ ?_ | refine Le.prod ?_ | intro _ | exact Empty.elim (by assumption) | dsimp only)
theorem m_F_loops_Bound (p0 : api_Chart) : Le (K_loops_Bound p0) (F_loops_Bound p0) := by
 unfold K_loops_Bound F_loops_Bound
 with_reducible repeat' (first | exact m_F_loops_of _ | exact Le.rfl _ | refine Le.loop _ ?_ | refine Le.bind ?_ ?_ | refine Le.ite ?_ ?_ | refine Le.sum ?_ ?_ | refine Le.prod ?_ | intro _ | exact Empty.elim (by assumption) | dsimp only)
theorem m_raddleref26_SameInts_l1 (p0 : (List Int)) (p1 : (List Int)) : ∀ s, Le (K_raddleref26_SameInts_l1 p0 p1 s) (raddleref26_SameInts_l1 p0 p1 s) := by
 unfold K_raddleref26_SameInts_l1 raddleref26_SameInts_l1
 with_reducible repeat' (first | exact Le.rfl _ | refine Le.loop _ ?_ | refine Le.bind ?_ ?_ | refine Le.ite ?_ ?_ | refine Le.sum ?_ ?_ | refine Le.prod ?_ | intro _ | exact Empty.elim (by assumption) | dsimp only)
theorem m_F_raddleref26_SameInts (p0 : (List Int)) (p1 : (List Int)) : Le (K_raddleref26_SameInts p0 p1) (F_raddleref26_SameInts p0 p1) := by
 unfold K_raddleref26_SameInts F_raddleref26_SameInts
 with_reducible repeat' (first | exact m_raddleref26_SameInts_l1 _ _ | exact Le.rfl _ | refine Le.loop _ ?_ | refine Le.bind ?_ ?_ | refine Le.ite ?_ ?_ | refine Le.sum ?_ ?_ | refine Le.prod ?_ | intro _ | exact Empty.elim (by assumption) | dsimp only)
theorem m_raddleref27_SamePairs_l1 (p0 : (List (Int × Int))) (p1 : (List (Int × Int))) : ∀ s, Le (K_raddleref27_SamePairs_l1 p0 p1 s) (raddleref27_SamePairs_l1 p0 p1 s) := by
 unfold K_raddleref27_SamePairs_l1 raddleref27_SamePairs_l1
 with_reducible repeat' (first | exact Le.rfl _ | refine Le.loop _ ?_ | refine Le.bind ?_ ?_ | refine Le.ite ?_ ?_ | refine Le.sum ?_ ?_ | refine Le.prod ?_ | intro _ | exact Empty.elim (by assumption) | dsimp only)
theorem m_F_raddleref27_SamePairs (p0 : (List (Int × Int))) (p1 : (List (Int × Int))) : Le (K_raddleref27_SamePairs p0 p1) (F_raddleref27_SamePairs p0 p1) := by
 unfold K_raddleref27_SamePairs F_raddleref27_SamePairs
 with_reducible repeat' (first | exact m_raddleref27_SamePairs_l1 _ _ | exact Le.rfl _ | refine Le.loop _ ?_ | refine Le.bind ?_ ?_ | refine Le.ite ?_ ?_ | refine Le.sum ?_ ?_ | refine Le.prod ?_ | intro _ | exact Empty.elim (by assumption) | dsimp only)
set_option maxRecDepth 1000000 in
theorem kc_raddlelaw27_alive_0 : F_raddlelaw27_one 3 [(api_Stitch.mk 6 false 1 2)] = some (api_Chart.mk 3 [(api_Row.mk false [(api_Stitch.mk 6 false 1 2)])]) := m_F_raddlelaw27_one _ _ _ (by kernel_rfl)
set_option maxRecDepth 1000000 in
theorem kc_raddlelaw27_alive_1 : F_loops_Of ((api_Chart.mk 3 [(api_Row.mk false [(api_Stitch.mk 6 false 1 2)])])) = some ([(api_Loop.mk 0 0 [] false), (api_Loop.mk 0 1 [] false), (api_Loop.mk 0 2 [] false), (api_Loop.mk 1 0 [1] false), (api_Loop.mk 1 0 [2] false), (api_Loop.mk 1 0 [0] false)], 0) := m_F_loops_Of _ _ (by kernel_rfl)
set_option maxRecDepth 1000000 in
theorem kc_raddlelaw27_alive_2 : F_loops_Crossings ((api_Chart.mk 3 [(api_Row.mk false [(api_Stitch.mk 6 false 1 2)])])) = some ([(5, 3), (5, 4)], 0) := m_F_loops_Crossings _ _ (by kernel_rfl)
set_option maxRecDepth 1000000 in
theorem kc_raddlelaw27_alive_3 : F_raddlelaw27_one 3 [(api_Stitch.mk 3 false 2 0), (api_Stitch.mk 2 false 0 0), (api_Stitch.mk 10 false 1 0)] = some (api_Chart.mk 3 [(api_Row.mk false [(api_Stitch.mk 3 false 2 0), (api_Stitch.mk 2 false 0 0), (api_Stitch.mk 10 false 1 0)])]) := m_F_raddlelaw27_one _ _ _ (by kernel_rfl)
set_option maxRecDepth 1000000 in
theorem kc_raddlelaw27_alive_4 : F_loops_Of ((api_Chart.mk 3 [(api_Row.mk false [(api_Stitch.mk 3 false 2 0), (api_Stitch.mk 2 false 0 0), (api_Stitch.mk 10 false 1 0)])])) = some ([(api_Loop.mk 0 0 [] false), (api_Loop.mk 0 1 [] false), (api_Loop.mk 0 2 [] false), (api_Loop.mk 1 0 [0, 1] false), (api_Loop.mk 1 1 [] false)], 0) := m_F_loops_Of _ _ (by kernel_rfl)
set_option maxRecDepth 1000000 in
theorem kc_raddlelaw27_alive_5 : F_loops_Bound ((api_Chart.mk 3 [(api_Row.mk false [(api_Stitch.mk 3 false 2 0), (api_Stitch.mk 2 false 0 0), (api_Stitch.mk 10 false 1 0)])])) = some ([2], 0) := m_F_loops_Bound _ _ (by kernel_rfl)
set_option maxRecDepth 1000000 in
theorem kc_raddlelaw27_alive_6 : F_raddleref26_SameInts ((api_Loop.mk 1 0 [1] false)).Parents ([1] : List Int) = some true := m_F_raddleref26_SameInts _ _ _ (by kernel_rfl)
set_option maxRecDepth 1000000 in
theorem kc_raddlelaw27_alive_7 : F_raddleref26_SameInts ((api_Loop.mk 1 0 [2] false)).Parents ([2] : List Int) = some true := m_F_raddleref26_SameInts _ _ _ (by kernel_rfl)
set_option maxRecDepth 1000000 in
theorem kc_raddlelaw27_alive_8 : F_raddleref26_SameInts ((api_Loop.mk 1 0 [0] false)).Parents ([0] : List Int) = some true := m_F_raddleref26_SameInts _ _ _ (by kernel_rfl)
set_option maxRecDepth 1000000 in
theorem kc_raddlelaw27_alive_9 : F_raddleref27_SamePairs (([(5, 3), (5, 4)], 0)).1 [(5, 3), (5, 4)] = some true := m_F_raddleref27_SamePairs _ _ _ (by kernel_rfl)
set_option maxRecDepth 1000000 in
theorem kc_raddlelaw27_alive_10 : F_raddleref26_SameInts ((api_Loop.mk 1 0 [0, 1] false)).Parents ([0, 1] : List Int) = some true := m_F_raddleref26_SameInts _ _ _ (by kernel_rfl)
set_option maxRecDepth 1000000 in
theorem kc_raddlelaw27_alive_11 : F_raddleref26_SameInts (([2], 0)).1 ([2] : List Int) = some true := m_F_raddleref26_SameInts _ _ _ (by kernel_rfl)
noncomputable def F_raddlelaw27_alive  : Option Bool :=
 (F_raddlelaw27_one 3 [(api_Stitch.mk 6 false 1 2)]).bind fun r5 =>
 (F_loops_Of r5).bind fun a0 =>
 (F_loops_Crossings r5).bind fun af =>
 (F_raddlelaw27_one 3 [(api_Stitch.mk 3 false 2 0), (api_Stitch.mk 2 false 0 0), (api_Stitch.mk 10 false 1 0)]).bind fun ag =>
 (F_loops_Of ag).bind fun a8 =>
 (F_loops_Bound ag).bind fun ah =>
 if a0.2 != 0 then
  none
 else
  if af.2 != 0 then
   none
  else
   if a8.2 != 0 then
    none
   else
    if ah.2 != 0 then
     none
    else
     if (a0.1.length : Int) != 6 then
      none
     else
      if (a8.1.length : Int) != 5 then
       some false
      else
       (idxO a0.1 3).bind fun ai =>
       (F_raddleref26_SameInts ai.Parents ([1] : List Int)).bind fun aj =>
       if aj then
        (idxO a0.1 4).bind fun ak =>
        (F_raddleref26_SameInts ak.Parents ([2] : List Int)).bind fun al =>
        if al then
         (idxO a0.1 5).bind fun am =>
         (F_raddleref26_SameInts am.Parents ([0] : List Int)).bind fun ao =>
         if ao then
          (F_raddleref27_SamePairs af.1 [(5, 3), (5, 4)]).bind fun a9 =>
          if a9 then
           (idxO a8.1 3).bind fun aa =>
           (F_raddleref26_SameInts aa.Parents ([0, 1] : List Int)).bind fun ab =>
           if ab then
            (idxO a8.1 4).bind fun ac =>
            if (ac.Parents.length : Int) == 0 then
             (F_raddleref26_SameInts ah.1 ([2] : List Int)).bind fun ae =>
             some ae
            else
             none
           else
            none
          else
           none
         else
          none
        else
         none
       else
        none
theorem c_raddlelaw27_alive (E : Nat → Prop) (w0 : World)  (r : Bool) (h : F_raddlelaw27_alive  = some r) (S : St0 E [] w0 w0 [] []) :
 Calls Try.prog 20 #[] w0 (Ret (X := Unit) E [] w0 (fun _ => .bool r) (fun _ => []) (fun _ => [])) := by
 unfold F_raddlelaw27_alive at h
 refine sEnter (args := []) 115 Try.func20 rfl rfl (by simp) S (fun a S => ?_)
 refine sSeq (fun K1 cA => sRegion (sN S fun a S => ?_))
 refine lT (cA _ _ (sSeq (fun K2 cB => sRegion (sBuild [(0, .int .u8 6), (2, iv 1), (3, iv 2)] [.int .u8 6, .bool false, iv 1, iv 2] S (wN rfl) rfl rfl rfl rfl (lb rfl) fun a S => ?_))))
 have S := S.learn (fRep r_api_Stitch (.agg #[.int .u8 6, .bool false, iv 1, iv 2]) (api_Stitch.mk 6 false 1 2)) rfl
 refine sLit (r := r_api_Stitch) (T := 61) (xs := [(api_Stitch.mk 6 false 1 2)]) [(0, .agg #[.int .u8 6, .bool false, iv 1, iv 2])] 1 [.agg #[.int .u8 6, .bool false, iv 1, iv 2]] [.int .u8 6, .bool false, iv 1, iv 2] (.agg #[.int .u8 0, .bool false, iv 0, iv 0]) 24 S (wN rfl) rfl rfl Try.underlying62 rfl (by decide) (by decide) (by kernel_rfl) rfl (fun E1 w1 hE => All.cons (r_api_Stitch.mono hE (S.mem.know (i := 0) (e := fRep r_api_Stitch (.agg #[.int .u8 6, .bool false, iv 1, iv 2]) (api_Stitch.mk 6 false 1 2)) rfl)) (All.nil _ _ _)) rfl rfl (lb rfl) fun a w bZ c5 S => ?_
 obtain ⟨r5, cr, h⟩ := bS h
 have hv_r5 : r5 = (api_Chart.mk 3 [(api_Row.mk false [(api_Stitch.mk 6 false 1 2)])]) := Option.some.inj (cr.symm.trans (by exact kc_raddlelaw27_alive_0))
 have S := S.shutR (r := r_api_Stitch) (T := 61) (v := .slice bZ [(api_Stitch.mk 6 false 1 2)].length c5) (xs := [(api_Stitch.mk 6 false 1 2)]) 0 rfl
 refine sCall (X := Value) (f := 30) (vs := [iv 3, .slice bZ [(api_Stitch.mk 6 false 1 2)].length c5]) (val := c_raddlelaw27_one_val r5) (B' := fun _ => []) (D' := c_raddlelaw27_one_D r5) [] [] [fRep (rL r_api_Stitch) (.slice bZ [(api_Stitch.mk 6 false 1 2)].length c5) [(api_Stitch.mk 6 false 1 2)]] [] [0] S (wN rfl) rfl callee30 rfl (by decide) rfl rfl (fun E1 w1 S1 => c_raddlelaw27_one E1 w1 3 [(api_Stitch.mk 6 false 1 2)] (.slice bZ [(api_Stitch.mk 6 false 1 2)].length c5) r5 cr S1) rfl (lb rfl) fun u7 a w S => ?_
 obtain ⟨u8, rfl, ct⟩ := S.mem.know (i := 0) (e := fRep r_api_Chart (u7) r5) rfl
 have S := S.learn (fRep (rL r_api_Row) u8 r5.Rows) ct
 obtain ⟨a8, a9, _, rfl, _⟩ := ct
 refine sAlloc (.agg #[iv 0, .slice none 0 0]) S (wN rfl) rfl rfl [iv 0, .slice none 0 0] rfl rfl (lb rfl) fun a aX w S => ?_
 refine sStore (p := aX) (off := 0) (T := 24) (vs := [iv 0, .slice none 0 0]) (v := .agg #[iv r5.Start, .slice a8 r5.Rows.length a9]) 0 [iv r5.Start, .slice a8 r5.Rows.length a9] S (wN rfl) rfl rfl rfl rfl rfl rfl rfl (by simp) rfl fun a w S => ?_
 refine lT (cB _ _ (sSeq (fun cM c8 => sRegion (sLoadN (p := aX) (off := 0) (T := 24) (vs := [iv r5.Start, .slice a8 r5.Rows.length a9]) 0 [iv r5.Start, .slice a8 r5.Rows.length a9] S (wN rfl) rfl rfl rfl rfl rfl rfl rfl (lb rfl) fun a S => ?_))))
 obtain ⟨af, bx, h⟩ := bS h
 have hv_r14 : af = ([(api_Loop.mk 0 0 [] false), (api_Loop.mk 0 1 [] false), (api_Loop.mk 0 2 [] false), (api_Loop.mk 1 0 [1] false), (api_Loop.mk 1 0 [2] false), (api_Loop.mk 1 0 [0] false)], 0) := Option.some.inj (bx.symm.trans (by rw [hv_r5]; exact kc_raddlelaw27_alive_1))
 refine sCall (X := Value) (f := 11) (vs := [.agg #[iv r5.Start, .slice a8 r5.Rows.length a9]]) (val := c_loops_Of_val af) (B' := fun _ => []) (D' := c_loops_Of_D af) [] [eBox aX 24 [iv r5.Start, .slice a8 r5.Rows.length a9]] [fRep r_api_Chart (.agg #[iv r5.Start, .slice a8 r5.Rows.length a9]) r5] [0] [1] S (wN rfl) rfl callee11 rfl (by decide) rfl rfl (fun E1 w1 S1 => c_loops_Of E1 w1 r5 (.agg #[iv r5.Start, .slice a8 r5.Rows.length a9]) af bx S1) rfl (lb rfl) fun cC a w S => ?_
 obtain ⟨ai, aj, _, rfl, _⟩ := S.mem.know (i := 0) (e := fRep (rL r_api_Loop) (cC) af.1) rfl
 refine sM S fun a S => ?_
 refine sExtract (vs := [.slice ai af.1.length aj, iv af.2]) (.slice ai af.1.length aj) S (wN rfl) rfl rfl rfl rfl (lb rfl) fun a S => ?_
 refine sExtract (vs := [.slice ai af.1.length aj, iv af.2]) (iv af.2) S (wN rfl) rfl rfl rfl rfl (lb rfl) fun a S => ?_
 refine sN S fun a S => ?_
 refine sN S fun a S => ?_
 refine lT (c8 _ _ (sSeq (fun cN c9 => sRegion (sLoadN (p := aX) (off := 0) (T := 24) (vs := [iv r5.Start, .slice a8 r5.Rows.length a9]) 0 [iv r5.Start, .slice a8 r5.Rows.length a9] S (wN rfl) rfl rfl rfl rfl rfl rfl rfl (lb rfl) fun a S => ?_))))
 obtain ⟨am, bz, h⟩ := bS h
 have hv_r20 : am = ([(5, 3), (5, 4)], 0) := Option.some.inj (bz.symm.trans (by rw [hv_r5]; exact kc_raddlelaw27_alive_2))
 refine sCall (X := Value) (f := 15) (vs := [.agg #[iv r5.Start, .slice a8 r5.Rows.length a9]]) (val := c_loops_Crossings_val am) (B' := fun _ => []) (D' := c_loops_Crossings_D am) [] [eBox aX 24 [iv r5.Start, .slice a8 r5.Rows.length a9]] [fRep r_api_Chart (.agg #[iv r5.Start, .slice a8 r5.Rows.length a9]) r5] [0] [2] S (wN rfl) rfl callee15 rfl (by decide) rfl rfl (fun E1 w1 S1 => c_loops_Crossings E1 w1 r5 (.agg #[iv r5.Start, .slice a8 r5.Rows.length a9]) am bz S1) rfl (lb rfl) fun cD a w S => ?_
 obtain ⟨aw, ax, _, rfl, _⟩ := S.mem.know (i := 0) (e := fRep (rL r_A2_Int) (cD) am.1) rfl
 refine sM S fun a S => ?_
 refine sExtract (vs := [.slice aw am.1.length ax, iv am.2]) (.slice aw am.1.length ax) S (wN rfl) rfl rfl rfl rfl (lb rfl) fun a S => ?_
 refine sExtract (vs := [.slice aw am.1.length ax, iv am.2]) (iv am.2) S (wN rfl) rfl rfl rfl rfl (lb rfl) fun a S => ?_
 refine sN S fun a S => ?_
 refine sN S fun a S => ?_
 refine lT (c9 _ _ (sSeq (fun cO ca => sRegion (sBuild [(0, .int .u8 3), (2, iv 2)] [.int .u8 3, .bool false, iv 2, iv 0] S (wN rfl) rfl rfl rfl rfl (lb rfl) fun a S => ?_))))
 refine sBuild [(0, .int .u8 2)] [.int .u8 2, .bool false, iv 0, iv 0] S (wN rfl) rfl rfl rfl rfl (lb rfl) fun a S => ?_
 refine sBuild [(0, .int .u8 10), (2, iv 1)] [.int .u8 10, .bool false, iv 1, iv 0] S (wN rfl) rfl rfl rfl rfl (lb rfl) fun a S => ?_
 have S := S.learn (fRep r_api_Stitch (.agg #[.int .u8 3, .bool false, iv 2, iv 0]) (api_Stitch.mk 3 false 2 0)) rfl
 have S := S.learn (fRep r_api_Stitch (.agg #[.int .u8 2, .bool false, iv 0, iv 0]) (api_Stitch.mk 2 false 0 0)) rfl
 have S := S.learn (fRep r_api_Stitch (.agg #[.int .u8 10, .bool false, iv 1, iv 0]) (api_Stitch.mk 10 false 1 0)) rfl
 refine sLit (r := r_api_Stitch) (T := 61) (xs := [(api_Stitch.mk 3 false 2 0), (api_Stitch.mk 2 false 0 0), (api_Stitch.mk 10 false 1 0)]) [(0, .agg #[.int .u8 3, .bool false, iv 2, iv 0]), (1, .agg #[.int .u8 2, .bool false, iv 0, iv 0]), (2, .agg #[.int .u8 10, .bool false, iv 1, iv 0])] 3 [.agg #[.int .u8 3, .bool false, iv 2, iv 0], .agg #[.int .u8 2, .bool false, iv 0, iv 0], .agg #[.int .u8 10, .bool false, iv 1, iv 0]] [.int .u8 3, .bool false, iv 2, iv 0, .int .u8 2, .bool false, iv 0, iv 0, .int .u8 10, .bool false, iv 1, iv 0] (.agg #[.int .u8 0, .bool false, iv 0, iv 0]) 24 S (wN rfl) rfl rfl Try.underlying62 rfl (by decide) (by decide) (by kernel_rfl) rfl (fun E1 w1 hE => All.cons (r_api_Stitch.mono hE (S.mem.know (i := 2) (e := fRep r_api_Stitch (.agg #[.int .u8 3, .bool false, iv 2, iv 0]) (api_Stitch.mk 3 false 2 0)) rfl)) (All.cons (r_api_Stitch.mono hE (S.mem.know (i := 1) (e := fRep r_api_Stitch (.agg #[.int .u8 2, .bool false, iv 0, iv 0]) (api_Stitch.mk 2 false 0 0)) rfl)) (All.cons (r_api_Stitch.mono hE (S.mem.know (i := 0) (e := fRep r_api_Stitch (.agg #[.int .u8 10, .bool false, iv 1, iv 0]) (api_Stitch.mk 10 false 1 0)) rfl)) (All.nil _ _ _)))) rfl rfl (lb rfl) fun a w aT aU S => ?_
 obtain ⟨a0, bA, h⟩ := bS h
 have hv_r28 : a0 = (api_Chart.mk 3 [(api_Row.mk false [(api_Stitch.mk 3 false 2 0), (api_Stitch.mk 2 false 0 0), (api_Stitch.mk 10 false 1 0)])]) := Option.some.inj (bA.symm.trans (by exact kc_raddlelaw27_alive_3))
 have S := S.shutR (r := r_api_Stitch) (T := 61) (v := .slice aT [(api_Stitch.mk 3 false 2 0), (api_Stitch.mk 2 false 0 0), (api_Stitch.mk 10 false 1 0)].length aU) (xs := [(api_Stitch.mk 3 false 2 0), (api_Stitch.mk 2 false 0 0), (api_Stitch.mk 10 false 1 0)]) 0 rfl
 refine sCall (X := Value) (f := 30) (vs := [iv 3, .slice aT [(api_Stitch.mk 3 false 2 0), (api_Stitch.mk 2 false 0 0), (api_Stitch.mk 10 false 1 0)].length aU]) (val := c_raddlelaw27_one_val a0) (B' := fun _ => []) (D' := c_raddlelaw27_one_D a0) [] [eBox aX 24 [iv r5.Start, .slice a8 r5.Rows.length a9]] [fRep (rL r_api_Stitch) (.slice aT [(api_Stitch.mk 3 false 2 0), (api_Stitch.mk 2 false 0 0), (api_Stitch.mk 10 false 1 0)].length aU) [(api_Stitch.mk 3 false 2 0), (api_Stitch.mk 2 false 0 0), (api_Stitch.mk 10 false 1 0)]] [0] [0] S (wN rfl) rfl callee30 rfl (by decide) rfl rfl (fun E1 w1 S1 => c_raddlelaw27_one E1 w1 3 [(api_Stitch.mk 3 false 2 0), (api_Stitch.mk 2 false 0 0), (api_Stitch.mk 10 false 1 0)] (.slice aT [(api_Stitch.mk 3 false 2 0), (api_Stitch.mk 2 false 0 0), (api_Stitch.mk 10 false 1 0)].length aU) a0 bA S1) rfl (lb rfl) fun cE a w S => ?_
 obtain ⟨cF, rfl, bB⟩ := S.mem.know (i := 0) (e := fRep r_api_Chart (cE) a0) rfl
 have S := S.learn (fRep (rL r_api_Row) cF a0.Rows) bB
 obtain ⟨aa, ab, _, rfl, _⟩ := bB
 refine sAlloc (.agg #[iv 0, .slice none 0 0]) S (wN rfl) rfl rfl [iv 0, .slice none 0 0] rfl rfl (lb rfl) fun a bC w S => ?_
 refine sStore (p := bC) (off := 0) (T := 24) (vs := [iv 0, .slice none 0 0]) (v := .agg #[iv a0.Start, .slice aa a0.Rows.length ab]) 0 [iv a0.Start, .slice aa a0.Rows.length ab] S (wN rfl) rfl rfl rfl rfl rfl rfl rfl (by simp) rfl fun a w S => ?_
 refine lT (ca _ _ (sSeq (fun cP cb => sRegion (sLoadN (p := bC) (off := 0) (T := 24) (vs := [iv a0.Start, .slice aa a0.Rows.length ab]) 0 [iv a0.Start, .slice aa a0.Rows.length ab] S (wN rfl) rfl rfl rfl rfl rfl rfl rfl (lb rfl) fun a S => ?_))))
 obtain ⟨ag, bD, h⟩ := bS h
 have hv_r37 : ag = ([(api_Loop.mk 0 0 [] false), (api_Loop.mk 0 1 [] false), (api_Loop.mk 0 2 [] false), (api_Loop.mk 1 0 [0, 1] false), (api_Loop.mk 1 1 [] false)], 0) := Option.some.inj (bD.symm.trans (by rw [hv_r28]; exact kc_raddlelaw27_alive_4))
 refine sCall (X := Value) (f := 11) (vs := [.agg #[iv a0.Start, .slice aa a0.Rows.length ab]]) (val := c_loops_Of_val ag) (B' := fun _ => []) (D' := c_loops_Of_D ag) [] [eBox bC 24 [iv a0.Start, .slice aa a0.Rows.length ab], eBox aX 24 [iv r5.Start, .slice a8 r5.Rows.length a9]] [fRep r_api_Chart (.agg #[iv a0.Start, .slice aa a0.Rows.length ab]) a0] [0, 1] [1] S (wN rfl) rfl callee11 rfl (by decide) rfl rfl (fun E1 w1 S1 => c_loops_Of E1 w1 a0 (.agg #[iv a0.Start, .slice aa a0.Rows.length ab]) ag bD S1) rfl (lb rfl) fun cG a w S => ?_
 obtain ⟨ap, aq, _, rfl, _⟩ := S.mem.know (i := 0) (e := fRep (rL r_api_Loop) (cG) ag.1) rfl
 refine sM S fun a S => ?_
 refine sExtract (vs := [.slice ap ag.1.length aq, iv ag.2]) (.slice ap ag.1.length aq) S (wN rfl) rfl rfl rfl rfl (lb rfl) fun a S => ?_
 refine sExtract (vs := [.slice ap ag.1.length aq, iv ag.2]) (iv ag.2) S (wN rfl) rfl rfl rfl rfl (lb rfl) fun a S => ?_
 refine sN S fun a S => ?_
 refine sN S fun a S => ?_
 refine lT (cb _ _ (sSeq (fun cQ cc => sRegion (sLoadN (p := bC) (off := 0) (T := 24) (vs := [iv a0.Start, .slice aa a0.Rows.length ab]) 0 [iv a0.Start, .slice aa a0.Rows.length ab] S (wN rfl) rfl rfl rfl rfl rfl rfl rfl (lb rfl) fun a S => ?_))))
 obtain ⟨ao, bE, h⟩ := bS h
 have hv_r43 : ao = ([2], 0) := Option.some.inj (bE.symm.trans (by rw [hv_r28]; exact kc_raddlelaw27_alive_5))
 refine sCall (X := Value) (f := 13) (vs := [.agg #[iv a0.Start, .slice aa a0.Rows.length ab]]) (val := c_loops_Bound_val ao) (B' := fun _ => []) (D' := c_loops_Bound_D ao) [] [eBox bC 24 [iv a0.Start, .slice aa a0.Rows.length ab], eBox aX 24 [iv r5.Start, .slice a8 r5.Rows.length a9]] [fRep r_api_Chart (.agg #[iv a0.Start, .slice aa a0.Rows.length ab]) a0] [0, 1] [2] S (wN rfl) rfl callee13 rfl (by decide) rfl rfl (fun E1 w1 S1 => c_loops_Bound E1 w1 a0 (.agg #[iv a0.Start, .slice aa a0.Rows.length ab]) ao bE S1) rfl (lb rfl) fun cH a w S => ?_
 obtain ⟨ay, az, _, rfl, _⟩ := S.mem.know (i := 0) (e := fRep (rL (rI .i64)) (cH) ao.1) rfl
 refine sM S fun a S => ?_
 refine sExtract (vs := [.slice ay ao.1.length az, iv ao.2]) (.slice ay ao.1.length az) S (wN rfl) rfl rfl rfl rfl (lb rfl) fun a S => ?_
 refine sExtract (vs := [.slice ay ao.1.length az, iv ao.2]) (iv ao.2) S (wN rfl) rfl rfl rfl rfl (lb rfl) fun a S => ?_
 refine sN S fun a S => ?_
 refine sN S fun a S => ?_
 refine lT (cc _ _ (sSeq (fun cR cd => sSeq (fun cT ce => sRegion (sM S fun a S => ?_)))))
 refine sBin _ S (wN rfl) rfl rfl rfl (bNe _ _ _ _ .i64 af.2 0) rfl (lb rfl) fun a S => ?_
 refine sM S fun a S => ?_
 rcases iS h with ⟨aH, h⟩ | ⟨aH, h⟩
 ·exact absurd aH (by rw [hv_r14]; decide)
 refine sMove (iv am.2) S (wG 2 false 42 rfl rfl rfl aH) (.inl rfl) rfl rfl (lb rfl) fun a S => ?_
 refine sBin _ S (wG 2 false 42 rfl rfl rfl aH) rfl rfl rfl (bNe _ _ _ _ .i64 am.2 0) rfl (lb rfl) fun a S => ?_
 refine sPickF (.bool (am.2 != 0)) S (wN rfl) rfl rfl aH rfl rfl (lb rfl) fun a S => ?_
 refine sM S fun a S => ?_
 rcases iS h with ⟨aI, h⟩ | ⟨aI, h⟩
 ·exact absurd aI (by rw [hv_r20]; decide)
 refine sMove (iv ag.2) S (wG 6 false 46 rfl rfl rfl aI) (.inl rfl) rfl rfl (lb rfl) fun a S => ?_
 refine sBin _ S (wG 6 false 46 rfl rfl rfl aI) rfl rfl rfl (bNe _ _ _ _ .i64 ag.2 0) rfl (lb rfl) fun a S => ?_
 refine sPickF (.bool (ag.2 != 0)) S (wN rfl) rfl rfl aI rfl rfl (lb rfl) fun a S => ?_
 refine sM S fun a S => ?_
 rcases iS h with ⟨aJ, h⟩ | ⟨aJ, h⟩
 ·exact absurd aJ (by rw [hv_r37]; decide)
 refine sMove (iv ao.2) S (wG 10 false 50 rfl rfl rfl aJ) (.inl rfl) rfl rfl (lb rfl) fun a S => ?_
 refine sBin _ S (wG 10 false 50 rfl rfl rfl aJ) rfl rfl rfl (bNe _ _ _ _ .i64 ao.2 0) rfl (lb rfl) fun a S => ?_
 refine sPickF (.bool (ao.2 != 0)) S (wN rfl) rfl rfl aJ rfl rfl (lb rfl) fun a S => ?_
 refine sM S fun a S => ?_
 rcases iS h with ⟨aA, h⟩ | ⟨aA, h⟩
 ·exact absurd aA (by rw [hv_r43]; decide)
 refine sMove (.slice ai af.1.length aj) S (wG 14 false 54 rfl rfl rfl aA) (.inl rfl) rfl rfl (lb rfl) fun a S => ?_
 refine sLen S (wG 14 false 54 rfl rfl rfl aA) rfl Try.underlying26 rfl rfl (lb rfl) fun a S => ?_
 refine sBin _ S (wG 14 false 54 rfl rfl rfl aA) rfl rfl rfl (bNe _ _ _ _ .i64 (af.1.length : Int) 6) rfl (lb rfl) fun a S => ?_
 refine sPickF (.bool ((af.1.length : Int) != 6)) S (wN rfl) rfl rfl aA rfl rfl (lb rfl) fun a S => ?_
 refine sM S fun a S => ?_
 rcases iS h with ⟨aC, h⟩ | ⟨aC, h⟩
 ·exact absurd aC (by rw [hv_r14]; decide)
 refine sMove (.slice ap ag.1.length aq) S (wG 19 false 59 rfl rfl rfl aC) (.inl rfl) rfl rfl (lb rfl) fun a S => ?_
 refine sLen S (wG 19 false 59 rfl rfl rfl aC) rfl Try.underlying26 rfl rfl (lb rfl) fun a S => ?_
 refine sBin _ S (wG 19 false 59 rfl rfl rfl aC) rfl rfl rfl (bNe _ _ _ _ .i64 (ag.1.length : Int) 5) rfl (lb rfl) fun a S => ?_
 refine sPickF (.bool ((ag.1.length : Int) != 5)) S (wN rfl) rfl rfl aC rfl rfl (lb rfl) fun a S => ?_
 refine lT (ce _ _ ?_)
 rcases iS h with ⟨bj, h⟩ | ⟨bj, h⟩
 ·refine sCondT S rfl bj ?_
  refine sSeq (fun cU cf => sRegion (sN S fun a S => ?_))
  refine lT (cf _ _ ?_)
  obtain rfl := tS h
  exact wp_ret (rThen (sRet (.bool false) S (rsl1 rfl (rvT (t := 0) (v := .bool false) S rfl)) ⟨(), rfl, S.mem.sel [] [] (by decide) rfl rfl⟩))
 refine sCondF S rfl bj ?_
 refine wp_skip (leafT (cd _ _ ?_))
 refine sSeq (fun cV cg => sRegion (sM S fun a S => ?_))
 obtain ⟨aZ, bG, h⟩ := bS h
 have hv_x58 : aZ = (api_Loop.mk 1 0 [1] false) := Option.some.inj (bG.symm.trans (by rw [hv_r14]; kernel_rfl))
 obtain ⟨cu, ci, S⟩ := pIdx (P := Try.prog) (r := r_api_Loop) (v := .slice ai af.1.length aj) (xs := af.1) (j := 3) 26 48 9 S Try.underlying26 rfl rfl bG
 refine sIdxV S (wN rfl) rfl rfl rfl ci rfl (lb rfl) fun a S => ?_
 obtain ⟨cv, cj, S⟩ := pFld (P := Try.prog) (r := r_api_Loop) (s2 := (rL (rI .i64))) (g := (·.Parents)) (q := cu) (z := aZ) 48 2 0 2 S rfl rfl comp_api_Loop_Parents
 refine sFldV (q := cu) S (wN rfl) rfl rfl cj rfl (lb rfl) fun a S => ?_
 obtain ⟨cI, S⟩ := pLoad (r := (rL (rI .i64))) (q := cv) (x := aZ.Parents) 0 S rfl
 obtain ⟨bk, bl, _, rfl, _⟩ := S.mem.know (i := 1) (e := fRep (rL (rI .i64)) (cI) aZ.Parents) rfl
 refine sLoadV1 (vq := cv) 0 (.slice bk aZ.Parents.length bl) S (wN rfl) rfl rfl rfl rfl rfl (lb rfl) fun a S => ?_
 refine sLit (r := (rI .i64)) (T := 3) (xs := ([1] : List Int)) [(0, iv 1)] 1 [iv 1] [iv 1] (iv 0) 8 S (wN rfl) rfl rfl Try.underlying32 rfl (by decide) (by decide) (by kernel_rfl) rfl (fun E1 w1 hE => All.cons rfl (All.nil _ _ _)) rfl rfl (lb rfl) fun a w bm bn S => ?_
 obtain ⟨ck, bH, h⟩ := bS h
 have hv_r69 : ck = true := Option.some.inj (bH.symm.trans (by rw [hv_x58]; exact kc_raddlelaw27_alive_6))
 have S1 := S.mem
 have S1 := S1.shutR (r := (rI .i64)) (T := 3) (v := .slice bm ([1] : List Int).length bn) (xs := ([1] : List Int)) 0 rfl
 refine sCq [.slice bk aZ.Parents.length bl, .slice bm ([1] : List Int).length bn] (.bool ck) S callee18 (S1.quiet [2, 0] rfl) (fun E1 w1 S1 => c_raddleref26_SameInts E1 w1 aZ.Parents (.slice bk aZ.Parents.length bl) ([1] : List Int) (.slice bm ([1] : List Int).length bn) ck bH S1) fun a w S => ?_
 refine sM S fun a S => ?_
 rcases iS h with ⟨ak, h⟩ | ⟨ak, h⟩
 rotate_left
 ·exact absurd ak (by rw [hv_r69]; decide)
 refine sMove (.slice ai af.1.length aj) S (wG 6 true 70 rfl rfl rfl ak) (.inl rfl) rfl rfl (lb rfl) fun a S => ?_
 obtain ⟨ba, bI, h⟩ := bS h
 have hv_x72 : ba = (api_Loop.mk 1 0 [2] false) := Option.some.inj (bI.symm.trans (by rw [hv_r14]; kernel_rfl))
 obtain ⟨cw, cl, S⟩ := pIdx (P := Try.prog) (r := r_api_Loop) (v := .slice ai af.1.length aj) (xs := af.1) (j := 4) 26 48 13 S Try.underlying26 rfl rfl bI
 refine sIdxV S (wG 6 true 70 rfl rfl rfl ak) rfl rfl rfl cl rfl (lb rfl) fun a S => ?_
 obtain ⟨cx, cm, S⟩ := pFld (P := Try.prog) (r := r_api_Loop) (s2 := (rL (rI .i64))) (g := (·.Parents)) (q := cw) (z := ba) 48 2 0 2 S rfl rfl comp_api_Loop_Parents
 refine sFldV (q := cw) S (wG 6 true 70 rfl rfl rfl ak) rfl rfl cm rfl (lb rfl) fun a S => ?_
 obtain ⟨cJ, S⟩ := pLoad (r := (rL (rI .i64))) (q := cx) (x := ba.Parents) 0 S rfl
 obtain ⟨bo, bp, _, rfl, _⟩ := S.mem.know (i := 1) (e := fRep (rL (rI .i64)) (cJ) ba.Parents) rfl
 refine sLoadV1 (vq := cx) 0 (.slice bo ba.Parents.length bp) S (wG 6 true 70 rfl rfl rfl ak) rfl rfl rfl rfl rfl (lb rfl) fun a S => ?_
 refine sLit (r := (rI .i64)) (T := 3) (xs := ([2] : List Int)) [(0, iv 2)] 1 [iv 2] [iv 2] (iv 0) 8 S (wG 6 true 70 rfl rfl rfl ak) rfl rfl Try.underlying32 rfl (by decide) (by decide) (by kernel_rfl) rfl (fun E1 w1 hE => All.cons rfl (All.nil _ _ _)) rfl rfl (lb rfl) fun a w bq br S => ?_
 obtain ⟨c6, bJ, h⟩ := bS h
 have hv_r83 : c6 = true := Option.some.inj (bJ.symm.trans (by rw [hv_x72]; exact kc_raddlelaw27_alive_7))
 have S1 := S.mem
 have S1 := S1.shutR (r := (rI .i64)) (T := 3) (v := .slice bq ([2] : List Int).length br) (xs := ([2] : List Int)) 0 rfl
 refine sCallQ (X := Unit) (f := 18) (vs := [.slice bo ba.Parents.length bp, .slice bq ([2] : List Int).length br]) (val := fun _ => .bool c6) S (wG 6 true 70 rfl rfl rfl ak) rfl callee18 rfl (S1.quiet [2, 0] rfl) (fun E1 w1 S1 => c_raddleref26_SameInts E1 w1 ba.Parents (.slice bo ba.Parents.length bp) ([2] : List Int) (.slice bq ([2] : List Int).length br) c6 bJ S1) rfl (lb rfl) fun _ a w S => ?_
 refine sPickT (.bool c6) S (wN rfl) rfl rfl ak rfl rfl (lb rfl) fun a S => ?_
 refine sM S fun a S => ?_
 rcases iS h with ⟨al, h⟩ | ⟨al, h⟩
 rotate_left
 ·exact absurd al (by rw [hv_r83]; decide)
 refine sMove (.slice ai af.1.length aj) S (wG 14 true 78 rfl rfl rfl al) (.inl rfl) rfl rfl (lb rfl) fun a S => ?_
 obtain ⟨bb, bK, h⟩ := bS h
 have hv_x86 : bb = (api_Loop.mk 1 0 [0] false) := Option.some.inj (bK.symm.trans (by rw [hv_r14]; kernel_rfl))
 obtain ⟨cy, cn, S⟩ := pIdx (P := Try.prog) (r := r_api_Loop) (v := .slice ai af.1.length aj) (xs := af.1) (j := 5) 26 48 17 S Try.underlying26 rfl rfl bK
 refine sIdxV S (wG 14 true 78 rfl rfl rfl al) rfl rfl rfl cn rfl (lb rfl) fun a S => ?_
 obtain ⟨cz, co, S⟩ := pFld (P := Try.prog) (r := r_api_Loop) (s2 := (rL (rI .i64))) (g := (·.Parents)) (q := cy) (z := bb) 48 2 0 2 S rfl rfl comp_api_Loop_Parents
 refine sFldV (q := cy) S (wG 14 true 78 rfl rfl rfl al) rfl rfl co rfl (lb rfl) fun a S => ?_
 obtain ⟨cK, S⟩ := pLoad (r := (rL (rI .i64))) (q := cz) (x := bb.Parents) 0 S rfl
 obtain ⟨bt, bu, _, rfl, _⟩ := S.mem.know (i := 1) (e := fRep (rL (rI .i64)) (cK) bb.Parents) rfl
 refine sLoadV1 (vq := cz) 0 (.slice bt bb.Parents.length bu) S (wG 14 true 78 rfl rfl rfl al) rfl rfl rfl rfl rfl (lb rfl) fun a S => ?_
 refine sLit (r := (rI .i64)) (T := 3) (xs := ([0] : List Int)) [(0, iv 0)] 1 [iv 0] [iv 0] (iv 0) 8 S (wG 14 true 78 rfl rfl rfl al) rfl rfl Try.underlying32 rfl (by decide) (by decide) (by kernel_rfl) rfl (fun E1 w1 hE => All.cons rfl (All.nil _ _ _)) rfl rfl (lb rfl) fun a w bv bw S => ?_
 obtain ⟨c7, bL, h⟩ := bS h
 have hv_r97 : c7 = true := Option.some.inj (bL.symm.trans (by rw [hv_x86]; exact kc_raddlelaw27_alive_8))
 have S1 := S.mem
 have S1 := S1.shutR (r := (rI .i64)) (T := 3) (v := .slice bv ([0] : List Int).length bw) (xs := ([0] : List Int)) 0 rfl
 refine sCallQ (X := Unit) (f := 18) (vs := [.slice bt bb.Parents.length bu, .slice bv ([0] : List Int).length bw]) (val := fun _ => .bool c7) S (wG 14 true 78 rfl rfl rfl al) rfl callee18 rfl (S1.quiet [2, 0] rfl) (fun E1 w1 S1 => c_raddleref26_SameInts E1 w1 bb.Parents (.slice bt bb.Parents.length bu) ([0] : List Int) (.slice bv ([0] : List Int).length bw) c7 bL S1) rfl (lb rfl) fun _ a w S => ?_
 refine sPickT (.bool c7) S (wN rfl) rfl rfl al rfl rfl (lb rfl) fun a S => ?_
 refine sM S fun a S => ?_
 rcases iS h with ⟨ar, h⟩ | ⟨ar, h⟩
 rotate_left
 ·exact absurd ar (by rw [hv_r97]; decide)
 refine sMove (.slice aw am.1.length ax) S (wG 22 true 86 rfl rfl rfl ar) (.inl rfl) rfl rfl (lb rfl) fun a S => ?_
 refine sBuild [(0, iv 5), (1, iv 3)] [iv 5, iv 3] S (wG 22 true 86 rfl rfl rfl ar) rfl rfl rfl rfl (lb rfl) fun a S => ?_
 refine sBuild [(0, iv 5), (1, iv 4)] [iv 5, iv 4] S (wG 22 true 86 rfl rfl rfl ar) rfl rfl rfl rfl (lb rfl) fun a S => ?_
 have S := S.learn (fRep r_A2_Int (.agg #[iv 5, iv 3]) (5, 3)) rfl
 have S := S.learn (fRep r_A2_Int (.agg #[iv 5, iv 4]) (5, 4)) rfl
 refine sLit (r := r_A2_Int) (T := 49) (xs := [(5, 3), (5, 4)]) [(0, .agg #[iv 5, iv 3]), (1, .agg #[iv 5, iv 4])] 2 [.agg #[iv 5, iv 3], .agg #[iv 5, iv 4]] [iv 5, iv 3, iv 5, iv 4] (.agg #[iv 0, iv 0]) 16 S (wG 22 true 86 rfl rfl rfl ar) rfl rfl Try.underlying37 rfl (by decide) (by decide) (by kernel_rfl) rfl (fun E1 w1 hE => All.cons (r_A2_Int.mono hE (S.mem.know (i := 1) (e := fRep r_A2_Int (.agg #[iv 5, iv 3]) (5, 3)) rfl)) (All.cons (r_A2_Int.mono hE (S.mem.know (i := 0) (e := fRep r_A2_Int (.agg #[iv 5, iv 4]) (5, 4)) rfl)) (All.nil _ _ _))) rfl rfl (lb rfl) fun a w aK aL S => ?_
 obtain ⟨aV, bc, h⟩ := bS h
 have hv_r102 : aV = true := Option.some.inj (bc.symm.trans (by rw [hv_r20]; exact kc_raddlelaw27_alive_9))
 have S1 := S.mem
 have S1 := S1.shutR (r := r_A2_Int) (T := 49) (v := .slice aK [(5, 3), (5, 4)].length aL) (xs := [(5, 3), (5, 4)]) 0 rfl
 refine sCallQ (X := Unit) (f := 19) (vs := [.slice aw am.1.length ax, .slice aK [(5, 3), (5, 4)].length aL]) (val := fun _ => .bool aV) S (wG 22 true 86 rfl rfl rfl ar) rfl callee19 rfl (S1.quiet [23, 0] rfl) (fun E1 w1 S1 => c_raddleref27_SamePairs E1 w1 am.1 (.slice aw am.1.length ax) [(5, 3), (5, 4)] (.slice aK [(5, 3), (5, 4)].length aL) aV bc S1) rfl (lb rfl) fun _ a w S => ?_
 refine sPickT (.bool aV) S (wN rfl) rfl rfl ar rfl rfl (lb rfl) fun a S => ?_
 refine sN S fun a S => ?_
 refine lT (cg _ _ (sSeq (fun cL bM => sRegion (sM S fun a S => ?_))))
 refine sM S fun a S => ?_
 rcases iS h with ⟨ac, h⟩ | ⟨ac, h⟩
 rotate_left
 ·exact absurd ac (by rw [hv_r102]; decide)
 refine sMove (.slice ap ag.1.length aq) S (wG 1 true 94 rfl rfl rfl ac) (.inl rfl) rfl rfl (lb rfl) fun a S => ?_
 obtain ⟨au, bf, h⟩ := bS h
 have hv_x106 : au = (api_Loop.mk 1 0 [0, 1] false) := Option.some.inj (bf.symm.trans (by rw [hv_r37]; kernel_rfl))
 obtain ⟨bN, bO, S⟩ := pIdx (P := Try.prog) (r := r_api_Loop) (v := .slice ap ag.1.length aq) (xs := ag.1) (j := 3) 26 48 15 S Try.underlying26 rfl rfl bf
 refine sIdxV S (wG 1 true 94 rfl rfl rfl ac) rfl rfl rfl bO rfl (lb rfl) fun a S => ?_
 obtain ⟨bP, bQ, S⟩ := pFld (P := Try.prog) (r := r_api_Loop) (s2 := (rL (rI .i64))) (g := (·.Parents)) (q := bN) (z := au) 48 2 0 2 S rfl rfl comp_api_Loop_Parents
 refine sFldV (q := bN) S (wG 1 true 94 rfl rfl rfl ac) rfl rfl bQ rfl (lb rfl) fun a S => ?_
 obtain ⟨cp, S⟩ := pLoad (r := (rL (rI .i64))) (q := bP) (x := au.Parents) 0 S rfl
 obtain ⟨aM, aO, _, rfl, _⟩ := S.mem.know (i := 1) (e := fRep (rL (rI .i64)) (cp) au.Parents) rfl
 refine sLoadV1 (vq := bP) 0 (.slice aM au.Parents.length aO) S (wG 1 true 94 rfl rfl rfl ac) rfl rfl rfl rfl rfl (lb rfl) fun a S => ?_
 refine sLit (r := (rI .i64)) (T := 3) (xs := ([0, 1] : List Int)) [(0, iv 0), (1, iv 1)] 2 [iv 0, iv 1] [iv 0, iv 1] (iv 0) 8 S (wG 1 true 94 rfl rfl rfl ac) rfl rfl Try.underlying32 rfl (by decide) (by decide) (by kernel_rfl) rfl (fun E1 w1 hE => All.cons rfl (All.cons rfl (All.nil _ _ _))) rfl rfl (lb rfl) fun a w aP aQ S => ?_
 obtain ⟨aW, bg, h⟩ := bS h
 have hv_r117 : aW = true := Option.some.inj (bg.symm.trans (by rw [hv_x106]; exact kc_raddlelaw27_alive_10))
 have S1 := S.mem
 have S1 := S1.shutR (r := (rI .i64)) (T := 3) (v := .slice aP ([0, 1] : List Int).length aQ) (xs := ([0, 1] : List Int)) 0 rfl
 refine sCallQ (X := Unit) (f := 18) (vs := [.slice aM au.Parents.length aO, .slice aP ([0, 1] : List Int).length aQ]) (val := fun _ => .bool aW) S (wG 1 true 94 rfl rfl rfl ac) rfl callee18 rfl (S1.quiet [2, 0] rfl) (fun E1 w1 S1 => c_raddleref26_SameInts E1 w1 au.Parents (.slice aM au.Parents.length aO) ([0, 1] : List Int) (.slice aP ([0, 1] : List Int).length aQ) aW bg S1) rfl (lb rfl) fun _ a w S => ?_
 refine sPickT (.bool aW) S (wN rfl) rfl rfl ac rfl rfl (lb rfl) fun a S => ?_
 refine sM S fun a S => ?_
 rcases iS h with ⟨ae, h⟩ | ⟨ae, h⟩
 rotate_left
 ·exact absurd ae (by rw [hv_r117]; decide)
 refine sMove (.slice ap ag.1.length aq) S (wG 9 true 102 rfl rfl rfl ae) (.inl rfl) rfl rfl (lb rfl) fun a S => ?_
 obtain ⟨av, bh, h⟩ := bS h
 have hv_x120 : av = (api_Loop.mk 1 1 [] false) := Option.some.inj (bh.symm.trans (by rw [hv_r37]; kernel_rfl))
 obtain ⟨bR, bU, S⟩ := pIdx (P := Try.prog) (r := r_api_Loop) (v := .slice ap ag.1.length aq) (xs := ag.1) (j := 4) 26 48 19 S Try.underlying26 rfl rfl bh
 refine sIdxV S (wG 9 true 102 rfl rfl rfl ae) rfl rfl rfl bU rfl (lb rfl) fun a S => ?_
 obtain ⟨bV, bW, S⟩ := pFld (P := Try.prog) (r := r_api_Loop) (s2 := (rL (rI .i64))) (g := (·.Parents)) (q := bR) (z := av) 48 2 0 2 S rfl rfl comp_api_Loop_Parents
 refine sFldV (q := bR) S (wG 9 true 102 rfl rfl rfl ae) rfl rfl bW rfl (lb rfl) fun a S => ?_
 obtain ⟨cq, S⟩ := pLoad (r := (rL (rI .i64))) (q := bV) (x := av.Parents) 0 S rfl
 obtain ⟨bX, bY, _, rfl, _⟩ := S.mem.know (i := 1) (e := fRep (rL (rI .i64)) (cq) av.Parents) rfl
 refine sLoadV1 (vq := bV) 0 (.slice bX av.Parents.length bY) S (wG 9 true 102 rfl rfl rfl ae) rfl rfl rfl rfl rfl (lb rfl) fun a S => ?_
 refine sLen S (wG 9 true 102 rfl rfl rfl ae) rfl Try.underlying32 rfl rfl (lb rfl) fun a S => ?_
 refine sBin _ S (wG 9 true 102 rfl rfl rfl ae) rfl rfl rfl (bEq _ _ _ _ .i64 (av.Parents.length : Int) 0) rfl (lb rfl) fun a S => ?_
 refine sPickT (.bool ((av.Parents.length : Int) == 0)) S (wN rfl) rfl rfl ae rfl rfl (lb rfl) fun a S => ?_
 refine sM S fun a S => ?_
 rcases iS h with ⟨ah, h⟩ | ⟨ah, h⟩
 rotate_left
 ·exact absurd ah (by rw [hv_x120]; decide)
 refine sMove (.slice ay ao.1.length az) S (wG 17 true 110 rfl rfl rfl ah) (.inl rfl) rfl rfl (lb rfl) fun a S => ?_
 refine sLit (r := (rI .i64)) (T := 3) (xs := ([2] : List Int)) [(0, iv 2)] 1 [iv 2] [iv 2] (iv 0) 8 S (wG 17 true 110 rfl rfl rfl ah) rfl rfl Try.underlying32 rfl (by decide) (by decide) (by kernel_rfl) rfl (fun E1 w1 hE => All.cons rfl (All.nil _ _ _)) rfl rfl (lb rfl) fun a w aR aS S => ?_
 obtain ⟨aG, bi, h⟩ := bS h
 have hv_r132 : aG = true := Option.some.inj (bi.symm.trans (by rw [hv_r43]; exact kc_raddlelaw27_alive_11))
 have S1 := S.mem
 have S1 := S1.shutR (r := (rI .i64)) (T := 3) (v := .slice aR ([2] : List Int).length aS) (xs := ([2] : List Int)) 0 rfl
 refine sCallQ (X := Unit) (f := 18) (vs := [.slice ay ao.1.length az, .slice aR ([2] : List Int).length aS]) (val := fun _ => .bool aG) S (wG 17 true 110 rfl rfl rfl ah) rfl callee18 rfl (S1.quiet [23, 0] rfl) (fun E1 w1 S1 => c_raddleref26_SameInts E1 w1 ao.1 (.slice ay ao.1.length az) ([2] : List Int) (.slice aR ([2] : List Int).length aS) aG bi S1) rfl (lb rfl) fun _ a w S => ?_
 refine sPickT (.bool aG) S (wN rfl) rfl rfl ah rfl rfl (lb rfl) fun a S => ?_
 refine sN S fun a S => ?_
 refine lT (bM _ _ ?_)
 obtain rfl := tS h
 exact wp_ret (sRet (.bool aG) S (rsl1 rfl (rvT (t := 0) (v := .bool aG) S rfl)) ⟨(), rfl, S.mem.sel [] [] (by decide) rfl rfl⟩)
def K_raddlelaw27_alive  : Option Bool :=
 Option.bind (K_raddlelaw27_one 3 [(api_Stitch.mk 6 false 1 2)]) fun r5 =>
 Option.bind (K_loops_Of r5) fun r14 =>
 Option.bind (K_loops_Crossings r5) fun r20 =>
 Option.bind (K_raddlelaw27_one 3 [(api_Stitch.mk 3 false 2 0), (api_Stitch.mk 2 false 0 0), (api_Stitch.mk 10 false 1 0)]) fun r28 =>
 Option.bind (K_loops_Of r28) fun r37 =>
 Option.bind (K_loops_Bound r28) fun r43 =>
 if r14.2 != 0 then
  none
 else
  if r20.2 != 0 then
   none
  else
   if r37.2 != 0 then
    none
   else
    if r43.2 != 0 then
     none
    else
     if (r14.1.length : Int) != 6 then
      none
     else
      if (r37.1.length : Int) != 5 then
       some false
      else
       Option.bind (idxO r14.1 3) fun x58 =>
       Option.bind (K_raddleref26_SameInts x58.Parents ([1] : List Int)) fun r69 =>
       if r69 then
        Option.bind (idxO r14.1 4) fun x72 =>
        Option.bind (K_raddleref26_SameInts x72.Parents ([2] : List Int)) fun r83 =>
        if r83 then
         Option.bind (idxO r14.1 5) fun x86 =>
         Option.bind (K_raddleref26_SameInts x86.Parents ([0] : List Int)) fun r97 =>
         if r97 then
          Option.bind (K_raddleref27_SamePairs r20.1 [(5, 3), (5, 4)]) fun r102 =>
          if r102 then
           Option.bind (idxO r37.1 3) fun x106 =>
           Option.bind (K_raddleref26_SameInts x106.Parents ([0, 1] : List Int)) fun r117 =>
           if r117 then
            Option.bind (idxO r37.1 4) fun x120 =>
            if (x120.Parents.length : Int) == 0 then
             Option.bind (K_raddleref26_SameInts r43.1 ([2] : List Int)) fun r132 =>
             some r132
            else
             none
           else
            none
          else
           none
         else
          none
        else
         none
       else
        none
theorem m_F_raddlelaw27_alive  : Le (K_raddlelaw27_alive) (F_raddlelaw27_alive) := by
 unfold K_raddlelaw27_alive F_raddlelaw27_alive
 with_reducible repeat' (first | exact m_F_raddlelaw27_one _ _ | exact m_F_loops_Of _ | exact m_F_loops_Crossings _ | exact m_F_loops_Bound _ | exact m_F_raddleref26_SameInts _ _ | exact m_F_raddleref27_SamePairs _ _ | exact Le.rfl _ | refine Le.loop _ ?_ | refine Le.bind ?_ ?_ | refine Le.ite ?_ ?_ | refine Le.sum ?_ ?_ | refine Le.prod ?_ | intro _ | exact Empty.elim (by assumption) | dsimp only)
set_option maxRecDepth 1000000 in
theorem k_raddlelaw27_alive : F_raddlelaw27_alive = some true := m_F_raddlelaw27_alive _ (by kernel_rfl)
theorem w64_of {x : Int} (h0 : -9223372036854775808 ≤ x) (h1 : x ≤ 9223372036854775807) : w64 x = x := w64_id ⟨h0, h1⟩
theorem w64_succ {k : Nat} (h : k < 9223372036854775807) : w64 ((k : Int) + 1) = ((k + 1 : Nat) : Int) := by
 rw [w64_of (by omega) (by omega)]; omega
theorem idxO_nat {α : Type} {xs : List α} {k : Nat} (h : k < xs.length) : idxO xs (k : Int) = some xs[k] := by
 simp [idxO, h]
theorem idxO_of {α : Type} {xs : List α} {i : Int} {k : Nat} (hi : i = (k : Int)) (h : k < xs.length) : idxO xs i = some xs[k] := by subst hi; exact idxO_nat h
theorem setO_nat {α : Type} {xs : List α} {k : Nat} {y : α} (h : k < xs.length) : setO xs (k : Int) y = some (xs.set k y) := by
 simp [setO, h]
theorem appO_of {α : Type} {xs ys : List α} (h : xs.length + ys.length ≤ 68719476736) : appO xs ys = some (xs ++ ys) := by
 simp [appO, lim, h]
theorem capO_of {n : Int} {k : Nat} (h : n = (k : Int)) (hk : k ≤ 68719476736) : capO n = some () := by
 subst h; simp [capO, lim, hk]
theorem makeO_of {α : Type} {n : Int} {z : α} {k : Nat} (h : n = (k : Int)) (hk : k ≤ 68719476736) : makeO n z = some (List.replicate k z) := by
 subst h; simp [makeO, lim, hk]
theorem sliceO_of {α : Type} {xs : List α} {lo hi : Int} {l k : Nat} (h1 : lo = l) (h2 : hi = k) (h3 : l ≤ k) (h4 : k ≤ xs.length) : sliceO xs lo hi = some ((xs.take k).drop l) := by
 subst h1 h2; simp [sliceO, h3, h4]
theorem loop_st {σ τ : Type} {B : σ × Int → Option ((σ × Int) ⊕ τ)} (n : Nat) (I : Nat → σ → Prop) (Pt : τ → Prop) {s0 : σ} (h0 : I 0 s0)
 (step : ∀ k s, k < n → I k s → (∃ s', B (s, (k : Int)) = some (.inl (s', ((k + 1 : Nat) : Int))) ∧ I (k + 1) s') ∨ (∃ t, B (s, (k : Int)) = some (.inr t) ∧ Pt t))
 (last : ∀ s, I n s → ∃ t, B (s, (n : Int)) = some (.inr t) ∧ Pt t) : ∃ t, whileO B (s0, 0) = some t ∧ Pt t := by
 refine whileO_inv (fun s => ∃ k : Nat, k ≤ n ∧ s.2 = (k : Int) ∧ I k s.1) (fun s => ((n : Int) - s.2).toNat) Pt ⟨0, Nat.zero_le _, rfl, h0⟩ ?_
 rintro ⟨s, i⟩ ⟨k, hk, rfl, hI⟩
 by_cases hlt : k < n
 ·rcases step k s hlt hI with ⟨s', h1, h2⟩ | h
  ·exact .inl ⟨_, h1, ⟨k + 1, hlt, rfl, h2⟩, by simp; omega⟩
  ·exact .inr h
 ·obtain rfl : k = n := by omega
  exact .inr (last s hI)
theorem loop_ix {τ : Type} {B : Int → Option (Int ⊕ τ)} (n : Nat) (I : Nat → Prop) (Pt : τ → Prop) (h0 : I 0)
 (step : ∀ k, k < n → I k → (B (k : Int) = some (.inl ((k + 1 : Nat) : Int)) ∧ I (k + 1)) ∨ (∃ t, B (k : Int) = some (.inr t) ∧ Pt t))
 (last : I n → ∃ t, B (n : Int) = some (.inr t) ∧ Pt t) : ∃ t, whileO B 0 = some t ∧ Pt t := by
 refine whileO_inv (fun s => ∃ k : Nat, k ≤ n ∧ s = (k : Int) ∧ I k) (fun s => ((n : Int) - s).toNat) Pt ⟨0, Nat.zero_le _, rfl, h0⟩ ?_
 rintro i ⟨k, hk, rfl, hI⟩
 by_cases hlt : k < n
 ·rcases step k hlt hI with ⟨h1, h2⟩ | h
  ·exact .inl ⟨_, h1, ⟨k + 1, hlt, rfl, h2⟩, by simp; omega⟩
  ·exact .inr h
 ·obtain rfl : k = n := by omega
  exact .inr (last hI)
theorem loop_all {τ : Type} {B : Int → Option (Int ⊕ τ)} (n : Nat) (p : Nat → Bool) (good bad : τ)
 (h : ∀ k, k < n → B (k : Int) = some (if p k = true then .inl ((k + 1 : Nat) : Int) else .inr bad)) (hn : B (n : Int) = some (.inr good)) :
 whileO B 0 = some (if (List.range n).all p = true then good else bad) := by
 have key : ∃ t, whileO B 0 = some t ∧ t = if (List.range n).all p = true then good else bad := by
  refine loop_ix n (fun k => ∀ j, j < k → p j = true) _ (fun j h => absurd h (Nat.not_lt_zero j)) ?_ ?_
  ·intro k hk hI
   cases hf : p k with
   | true =>
    refine .inl ⟨by rw [h k hk, if_pos hf], fun j hj => ?_⟩
    by_cases e : j = k
    ·rw [e]; exact hf
    ·exact hI j (by omega)
   | false =>
    refine .inr ⟨bad, by rw [h k hk, hf]; simp, ?_⟩
    rw [if_neg]
    intro hc
    rw [List.all_eq_true] at hc
    have := hc k (List.mem_range.2 hk)
    rw [hf] at this; cases this
  ·intro hI
   refine ⟨good, hn, ?_⟩
   rw [if_pos]
   rw [List.all_eq_true]
   exact fun j hj => hI j (List.mem_range.1 hj)
 obtain ⟨t, h1, rfl⟩ := key
 exact h1
theorem dT {p : Prop} [Decidable p] (h : p) : decide p = true := decide_eq_true h
theorem dF {p : Prop} [Decidable p] (h : ¬ p) : decide p = false := decide_eq_false h
theorem bT {a b : Int} (h : a = b) : (a == b) = true := by simp [h]
theorem bF {a b : Int} (h : ¬ a = b) : (a == b) = false := by simp [h]
theorem nT {a b : Int} (h : ¬ a = b) : (a != b) = true := by simp [h]
theorem nF {a b : Int} (h : a = b) : (a != b) = false := by simp [h]
theorem loop_ts {σ τ : Type} {B : Int × σ → Option ((Int × σ) ⊕ τ)} (n : Nat) (I : Nat → σ → Prop) (Pt : τ → Prop) {s0 : σ} (h0 : I 0 s0)
 (step : ∀ k s, k < n → I k s → (∃ s', B ((k : Int), s) = some (.inl (((k + 1 : Nat) : Int), s')) ∧ I (k + 1) s') ∨ (∃ t, B ((k : Int), s) = some (.inr t) ∧ Pt t))
 (last : ∀ s, I n s → ∃ t, B ((n : Int), s) = some (.inr t) ∧ Pt t) : ∃ t, whileO B (0, s0) = some t ∧ Pt t := by
 refine whileO_inv (fun s => ∃ k : Nat, k ≤ n ∧ s.1 = (k : Int) ∧ I k s.2) (fun s => ((n : Int) - s.1).toNat) Pt ⟨0, Nat.zero_le _, rfl, h0⟩ ?_
 rintro ⟨i, s⟩ ⟨k, hk, rfl, hI⟩
 by_cases hlt : k < n
 ·rcases step k s hlt hI with ⟨s', h1, h2⟩ | h
  ·exact .inl ⟨_, h1, ⟨k + 1, hlt, rfl, h2⟩, by simp; omega⟩
  ·exact .inr h
 ·obtain rfl : k = n := by omega
  exact .inr (last s hI)
def Fill {α : Type} (n : Nat) (f : Nat → α) (k : Nat) (s : List α) : Prop := s.length = n ∧ ∀ j, j < k → s[j]? = some (f j)
theorem Fill.zero {α : Type} (n : Nat) (f : Nat → α) (z : α) : Fill n f 0 (List.replicate n z) := ⟨by simp, fun j hj => absurd hj (Nat.not_lt_zero j)⟩
theorem Fill.set {α : Type} {n : Nat} {f : Nat → α} {k : Nat} {s : List α} (h : Fill n f k s) (hk : k < n) : Fill n f (k + 1) (s.set k (f k)) := by
 refine ⟨by simp [h.1], fun j hj => ?_⟩
 by_cases e : j = k
 ·subst e; simp [h.1, hk]
 ·rw [List.getElem?_set_ne (fun h => e h.symm)]; exact h.2 j (by omega)
theorem Fill.all {α : Type} {n : Nat} {f : Nat → α} {s : List α} (h : Fill n f n s) : s = (List.range n).map f := by
 apply List.ext_getElem?
 intro j
 by_cases hj : j < n
 ·rw [h.2 j hj]; simp [hj]
 ·rw [List.getElem?_eq_none (by rw [h.1]; omega), List.getElem?_eq_none (by simp; omega)]
noncomputable def F_raddleref25_Used (p0 : api_Stitch) : Option Int :=
 Option.bind (α := Bool) (
  if p0.Kind == 2 then
   some (p0.Kind == 2)
  else
   some (p0.Kind == 9)) fun o5 =>
 if o5 then
  some 0
 else
  Option.bind (α := Bool) (
   if p0.Kind == 3 then
    some (p0.Kind == 3)
   else
    if p0.Kind == 4 then
     some (p0.Kind == 4)
    else
     some (p0.Kind == 10)) fun a0 =>
  if a0 then
   some p0.A
  else
   Option.bind (α := Bool) (
    if p0.Kind == 6 then
     some (p0.Kind == 6)
    else
     some (p0.Kind == 7)) fun a8 =>
   if a8 then
    some (w64 (p0.A + p0.B))
   else
    some 1
theorem c_raddleref25_Used (E : Nat → Prop) (w0 : World) (p0 : api_Stitch) (v0 : Value) (r : Int) (h : F_raddleref25_Used p0 = some r) (S : St0 E [] w0 w0 [] [fRep r_api_Stitch (v0) p0]) :
 Calls Try.prog 46 #[v0] w0 (Ret (X := Unit) E [] w0 (fun _ => .int .i64 r) (fun _ => []) (fun _ => [])) := by
 unfold F_raddleref25_Used at h
 obtain rfl : v0 = .agg #[.int .u8 p0.Kind, .bool p0.Purl, iv p0.A, iv p0.B] := S.know (i := 0) (e := fRep r_api_Stitch (v0) p0) rfl
 refine sEnter (args := [.agg #[.int .u8 p0.Kind, .bool p0.Purl, iv p0.A, iv p0.B]]) 22 Try.func46 rfl rfl (by simp) S (fun a S => ?_)
 refine sSeq (fun K1 ap => sRegion (sBox (v := .agg #[.int .u8 p0.Kind, .bool p0.Purl, iv p0.A, iv p0.B]) S (wN rfl) rfl rfl [.int .u8 p0.Kind, .bool p0.Purl, iv p0.A, iv p0.B] rfl rfl (lb rfl) fun a b2 w S => ?_))
 refine sN S fun a S => ?_
 refine lT (ap _ _ (sSeq (fun K3 aq => sSeq (fun K4 ar => sRegion (sField (b := b2) (off := 0) 0 0 S (wN rfl) rfl rfl rfl rfl rfl (lb rfl) fun a S => ?_)))))
 refine sLoad1 0 (.int .u8 p0.Kind) S (wN rfl) rfl rfl rfl rfl rfl rfl (lb rfl) fun a S => ?_
 refine lT (ar _ _ (wp_block ?_))
 obtain ⟨t6, h, g7⟩ := bS h
 refine sCut (fun a w => ∃ o5, o5 = t6 ∧ St [] E [] w0 22 a w [(1, .pointer (some ⟨b2, 0, none⟩)), (4, .int .u8 p0.Kind), (5, .bool o5)] [eBox b2 61 [.int .u8 p0.Kind, .bool p0.Purl, iv p0.A, iv p0.B]] []) ?_ (fun a w hI => ?_)
 ·refine sSeq (fun K8 au => sRegion (sBin _ S (wN rfl) rfl rfl rfl (bEq _ _ _ _ .u8 p0.Kind 2) rfl (lb rfl) fun a S => ?_))
  refine sN S fun a S => ?_
  refine lT (au _ _ ?_)
  rcases iS h with ⟨ae, h⟩ | ⟨ae, h⟩
  ·refine sCondT S rfl ae ?_
   exact wp_skip (leafT (⟨p0.Kind == 2, Option.some.inj h, S.fix [0] [] (by decide) rfl rfl rfl⟩))
  refine sCondF S rfl ae ?_
  refine sRegion (sBin _ S (wN rfl) rfl rfl rfl (bEq _ _ _ _ .u8 p0.Kind 9) rfl (lb rfl) fun a S => ?_)
  refine sN S fun a S => ?_
  exact lT (⟨p0.Kind == 9, Option.some.inj h, S.fix [0] [] (by decide) rfl rfl rfl⟩)
 obtain ⟨o5, rfl, S⟩ := hI
 have h := g7
 try dsimp only at h
 rcases iS h with ⟨a0, h⟩ | ⟨a0, h⟩
 ·refine sCondT S rfl a0 ?_
  refine sSeq (fun az af => sRegion (sN S fun a S => ?_))
  refine lT (af _ _ ?_)
  obtain rfl := tS h
  exact wp_ret (rBlock (rThen (sRet (iv 0) S (rsl1 rfl (rvT (t := 2) (v := iv 0) S rfl)) ⟨(), rfl, S.mem.sel [] [] (by decide) rfl rfl⟩)))
 refine sCondF S rfl a0 ?_
 obtain ⟨av, h, aw⟩ := bS h
 refine sCut (fun a w => ∃ ag, ag = av ∧ St [] E [] w0 22 a w [(1, .pointer (some ⟨b2, 0, none⟩)), (4, .int .u8 p0.Kind), (8, .bool ag)] [eBox b2 61 [.int .u8 p0.Kind, .bool p0.Purl, iv p0.A, iv p0.B]] []) ?_ (fun a w hI => ?_)
 ·refine sSeq (fun aA ah => sRegion (sBin _ S (wN rfl) rfl rfl rfl (bEq _ _ _ _ .u8 p0.Kind 3) rfl (lb rfl) fun a S => ?_))
  refine sN S fun a S => ?_
  refine lT (ah _ _ ?_)
  rcases iS h with ⟨a8, h⟩ | ⟨a8, h⟩
  ·refine sCondT S rfl a8 ?_
   exact wp_skip (leafT (⟨p0.Kind == 3, Option.some.inj h, S.fix [0] [] (by decide) rfl rfl rfl⟩))
  refine sCondF S rfl a8 ?_
  refine sSeq (fun aC ai => sRegion (sBin _ S (wN rfl) rfl rfl rfl (bEq _ _ _ _ .u8 p0.Kind 4) rfl (lb rfl) fun a S => ?_))
  refine sN S fun a S => ?_
  refine lT (ai _ _ ?_)
  rcases iS h with ⟨a9, h⟩ | ⟨a9, h⟩
  ·refine sCondT S rfl a9 ?_
   exact wp_skip (leafT (⟨p0.Kind == 4, Option.some.inj h, S.fix [0] [] (by decide) rfl rfl rfl⟩))
  refine sCondF S rfl a9 ?_
  refine sRegion (sBin _ S (wN rfl) rfl rfl rfl (bEq _ _ _ _ .u8 p0.Kind 10) rfl (lb rfl) fun a S => ?_)
  refine sN S fun a S => ?_
  exact lT (⟨p0.Kind == 10, Option.some.inj h, S.fix [0] [] (by decide) rfl rfl rfl⟩)
 obtain ⟨ag, rfl, S⟩ := hI
 have h := aw
 try dsimp only at h
 rcases iS h with ⟨aa, h⟩ | ⟨aa, h⟩
 ·refine sCondT S rfl aa ?_
  refine sSeq (fun aG aj => sRegion (sField (b := b2) (off := 0) 2 2 S (wN rfl) rfl rfl rfl rfl rfl (lb rfl) fun a S => ?_))
  refine sLoad1 0 (iv p0.A) S (wN rfl) rfl rfl rfl rfl rfl rfl (lb rfl) fun a S => ?_
  refine sN S fun a S => ?_
  refine lT (aj _ _ ?_)
  obtain rfl := tS h
  exact wp_ret (rBlock (rThen (sRet (iv p0.A) S (rsl1 rfl (rvT (t := 2) (v := iv p0.A) S rfl)) ⟨(), rfl, S.mem.sel [] [] (by decide) rfl rfl⟩)))
 refine sCondF S rfl aa ?_
 obtain ⟨ax, h, ay⟩ := bS h
 refine sCut (fun a w => ∃ ak, ak = ax ∧ St [] E [] w0 22 a w [(1, .pointer (some ⟨b2, 0, none⟩)), (14, .bool ak)] [eBox b2 61 [.int .u8 p0.Kind, .bool p0.Purl, iv p0.A, iv p0.B]] []) ?_ (fun a w hI => ?_)
 ·refine sSeq (fun aH al => sRegion (sBin _ S (wN rfl) rfl rfl rfl (bEq _ _ _ _ .u8 p0.Kind 6) rfl (lb rfl) fun a S => ?_))
  refine sN S fun a S => ?_
  refine lT (al _ _ ?_)
  rcases iS h with ⟨ab, h⟩ | ⟨ab, h⟩
  ·refine sCondT S rfl ab ?_
   exact wp_skip (leafT (⟨p0.Kind == 6, Option.some.inj h, S.fix [0] [] (by decide) rfl rfl rfl⟩))
  refine sCondF S rfl ab ?_
  refine sRegion (sBin _ S (wN rfl) rfl rfl rfl (bEq _ _ _ _ .u8 p0.Kind 7) rfl (lb rfl) fun a S => ?_)
  refine sN S fun a S => ?_
  exact lT (⟨p0.Kind == 7, Option.some.inj h, S.fix [0] [] (by decide) rfl rfl rfl⟩)
 obtain ⟨ak, rfl, S⟩ := hI
 have h := ay
 try dsimp only at h
 rcases iS h with ⟨ac, h⟩ | ⟨ac, h⟩
 rotate_left
 ·refine sCondF S rfl ac ?_
  refine wp_skip (leafB (leafT (aq _ _ ?_)))
  refine sSeq (fun aI am => sRegion (sN S fun a S => ?_))
  refine lT (am _ _ ?_)
  obtain rfl := tS h
  exact wp_ret (sRet (iv 1) S (rsl1 rfl (rvT (t := 2) (v := iv 1) S rfl)) ⟨(), rfl, S.mem.sel [] [] (by decide) rfl rfl⟩)
 refine sCondT S rfl ac ?_
 refine sSeq (fun aJ ao => sRegion (sField (b := b2) (off := 0) 2 2 S (wN rfl) rfl rfl rfl rfl rfl (lb rfl) fun a S => ?_))
 refine sLoad1 0 (iv p0.A) S (wN rfl) rfl rfl rfl rfl rfl rfl (lb rfl) fun a S => ?_
 refine sField (b := b2) (off := 0) 3 3 S (wN rfl) rfl rfl rfl rfl rfl (lb rfl) fun a S => ?_
 refine sLoad1 0 (iv p0.B) S (wN rfl) rfl rfl rfl rfl rfl rfl (lb rfl) fun a S => ?_
 refine sBin _ S (wN rfl) rfl rfl rfl (bAdd _ _ _ _ p0.A p0.B) rfl (lb rfl) fun a S => ?_
 refine sN S fun a S => ?_
 refine lT (ao _ _ ?_)
 obtain rfl := tS h
 exact wp_ret (rBlock (rThen (sRet (iv (w64 (p0.A + p0.B))) S (rsl1 rfl (rvT (t := 2) (v := iv (w64 (p0.A + p0.B))) S rfl)) ⟨(), rfl, S.mem.sel [] [] (by decide) rfl rfl⟩)))
noncomputable def F_raddleref25_Gives (p0 : api_Stitch) : Option Int :=
 if p0.Kind == 10 then
  some 0
 else
  Option.bind (α := Bool) (
   if p0.Kind == 5 then
    some (p0.Kind == 5)
   else
    some (p0.Kind == 9)) fun o8 =>
  if o8 then
   some p0.A
  else
   Option.bind (α := Bool) (
    if p0.Kind == 6 then
     some (p0.Kind == 6)
    else
     some (p0.Kind == 7)) fun a0 =>
   if a0 then
    some (w64 (p0.A + p0.B))
   else
    some 1
theorem c_raddleref25_Gives (E : Nat → Prop) (w0 : World) (p0 : api_Stitch) (v0 : Value) (r : Int) (h : F_raddleref25_Gives p0 = some r) (S : St0 E [] w0 w0 [] [fRep r_api_Stitch (v0) p0]) :
 Calls Try.prog 63 #[v0] w0 (Ret (X := Unit) E [] w0 (fun _ => .int .i64 r) (fun _ => []) (fun _ => [])) := by
 unfold F_raddleref25_Gives at h
 obtain rfl : v0 = .agg #[.int .u8 p0.Kind, .bool p0.Purl, iv p0.A, iv p0.B] := S.know (i := 0) (e := fRep r_api_Stitch (v0) p0) rfl
 refine sEnter (args := [.agg #[.int .u8 p0.Kind, .bool p0.Purl, iv p0.A, iv p0.B]]) 20 Try.func63 rfl rfl (by simp) S (fun a S => ?_)
 refine sSeq (fun K1 aj => sRegion (sBox (v := .agg #[.int .u8 p0.Kind, .bool p0.Purl, iv p0.A, iv p0.B]) S (wN rfl) rfl rfl [.int .u8 p0.Kind, .bool p0.Purl, iv p0.A, iv p0.B] rfl rfl (lb rfl) fun a b2 w S => ?_))
 refine sN S fun a S => ?_
 refine lT (aj _ _ (sSeq (fun K3 ak => sSeq (fun K4 al => sRegion (sField (b := b2) (off := 0) 0 0 S (wN rfl) rfl rfl rfl rfl rfl (lb rfl) fun a S => ?_)))))
 refine sLoad1 0 (.int .u8 p0.Kind) S (wN rfl) rfl rfl rfl rfl rfl rfl (lb rfl) fun a S => ?_
 refine lT (al _ _ (wp_block ?_))
 refine sSeq (fun K5 am => sRegion (sBin _ S (wN rfl) rfl rfl rfl (bEq _ _ _ _ .u8 p0.Kind 10) rfl (lb rfl) fun a S => ?_))
 refine sN S fun a S => ?_
 refine lT (am _ _ ?_)
 rcases iS h with ⟨ab, h⟩ | ⟨ab, h⟩
 ·refine sCondT S rfl ab ?_
  refine sSeq (fun K7 ao => sRegion (sN S fun a S => ?_))
  refine lT (ao _ _ ?_)
  obtain rfl := tS h
  exact wp_ret (rBlock (rThen (sRet (iv 0) S (rsl1 rfl (rvT (t := 2) (v := iv 0) S rfl)) ⟨(), rfl, S.mem.sel [] [] (by decide) rfl rfl⟩)))
 refine sCondF S rfl ab ?_
 obtain ⟨t9, h, ap⟩ := bS h
 refine sCut (fun a w => ∃ o8, o8 = t9 ∧ St [] E [] w0 20 a w [(1, .pointer (some ⟨b2, 0, none⟩)), (4, .int .u8 p0.Kind), (7, .bool o8)] [eBox b2 61 [.int .u8 p0.Kind, .bool p0.Purl, iv p0.A, iv p0.B]] []) ?_ (fun a w hI => ?_)
 ·refine sSeq (fun au ac => sRegion (sBin _ S (wN rfl) rfl rfl rfl (bEq _ _ _ _ .u8 p0.Kind 5) rfl (lb rfl) fun a S => ?_))
  refine sN S fun a S => ?_
  refine lT (ac _ _ ?_)
  rcases iS h with ⟨a0, h⟩ | ⟨a0, h⟩
  ·refine sCondT S rfl a0 ?_
   exact wp_skip (leafT (⟨p0.Kind == 5, Option.some.inj h, S.fix [0] [] (by decide) rfl rfl rfl⟩))
  refine sCondF S rfl a0 ?_
  refine sRegion (sBin _ S (wN rfl) rfl rfl rfl (bEq _ _ _ _ .u8 p0.Kind 9) rfl (lb rfl) fun a S => ?_)
  refine sN S fun a S => ?_
  exact lT (⟨p0.Kind == 9, Option.some.inj h, S.fix [0] [] (by decide) rfl rfl rfl⟩)
 obtain ⟨o8, rfl, S⟩ := hI
 have h := ap
 try dsimp only at h
 rcases iS h with ⟨a8, h⟩ | ⟨a8, h⟩
 ·refine sCondT S rfl a8 ?_
  refine sSeq (fun av ae => sRegion (sField (b := b2) (off := 0) 2 2 S (wN rfl) rfl rfl rfl rfl rfl (lb rfl) fun a S => ?_))
  refine sLoad1 0 (iv p0.A) S (wN rfl) rfl rfl rfl rfl rfl rfl (lb rfl) fun a S => ?_
  refine sN S fun a S => ?_
  refine lT (ae _ _ ?_)
  obtain rfl := tS h
  exact wp_ret (rBlock (rThen (sRet (iv p0.A) S (rsl1 rfl (rvT (t := 2) (v := iv p0.A) S rfl)) ⟨(), rfl, S.mem.sel [] [] (by decide) rfl rfl⟩)))
 refine sCondF S rfl a8 ?_
 obtain ⟨aq, h, ar⟩ := bS h
 refine sCut (fun a w => ∃ af, af = aq ∧ St [] E [] w0 20 a w [(1, .pointer (some ⟨b2, 0, none⟩)), (12, .bool af)] [eBox b2 61 [.int .u8 p0.Kind, .bool p0.Purl, iv p0.A, iv p0.B]] []) ?_ (fun a w hI => ?_)
 ·refine sSeq (fun aw ag => sRegion (sBin _ S (wN rfl) rfl rfl rfl (bEq _ _ _ _ .u8 p0.Kind 6) rfl (lb rfl) fun a S => ?_))
  refine sN S fun a S => ?_
  refine lT (ag _ _ ?_)
  rcases iS h with ⟨a9, h⟩ | ⟨a9, h⟩
  ·refine sCondT S rfl a9 ?_
   exact wp_skip (leafT (⟨p0.Kind == 6, Option.some.inj h, S.fix [0] [] (by decide) rfl rfl rfl⟩))
  refine sCondF S rfl a9 ?_
  refine sRegion (sBin _ S (wN rfl) rfl rfl rfl (bEq _ _ _ _ .u8 p0.Kind 7) rfl (lb rfl) fun a S => ?_)
  refine sN S fun a S => ?_
  exact lT (⟨p0.Kind == 7, Option.some.inj h, S.fix [0] [] (by decide) rfl rfl rfl⟩)
 obtain ⟨af, rfl, S⟩ := hI
 have h := ar
 try dsimp only at h
 rcases iS h with ⟨aa, h⟩ | ⟨aa, h⟩
 rotate_left
 ·refine sCondF S rfl aa ?_
  refine wp_skip (leafB (leafT (ak _ _ ?_)))
  refine sSeq (fun ax ah => sRegion (sN S fun a S => ?_))
  refine lT (ah _ _ ?_)
  obtain rfl := tS h
  exact wp_ret (sRet (iv 1) S (rsl1 rfl (rvT (t := 2) (v := iv 1) S rfl)) ⟨(), rfl, S.mem.sel [] [] (by decide) rfl rfl⟩)
 refine sCondT S rfl aa ?_
 refine sSeq (fun ay ai => sRegion (sField (b := b2) (off := 0) 2 2 S (wN rfl) rfl rfl rfl rfl rfl (lb rfl) fun a S => ?_))
 refine sLoad1 0 (iv p0.A) S (wN rfl) rfl rfl rfl rfl rfl rfl (lb rfl) fun a S => ?_
 refine sField (b := b2) (off := 0) 3 3 S (wN rfl) rfl rfl rfl rfl rfl (lb rfl) fun a S => ?_
 refine sLoad1 0 (iv p0.B) S (wN rfl) rfl rfl rfl rfl rfl rfl (lb rfl) fun a S => ?_
 refine sBin _ S (wN rfl) rfl rfl rfl (bAdd _ _ _ _ p0.A p0.B) rfl (lb rfl) fun a S => ?_
 refine sN S fun a S => ?_
 refine lT (ai _ _ ?_)
 obtain rfl := tS h
 exact wp_ret (rBlock (rThen (sRet (iv (w64 (p0.A + p0.B))) S (rsl1 rfl (rvT (t := 2) (v := iv (w64 (p0.A + p0.B))) S rfl)) ⟨(), rfl, S.mem.sel [] [] (by decide) rfl rfl⟩)))
noncomputable def raddleref25_sums_l1 (p0 : (List api_Stitch)) : (Int × Int × Int) → Option ((Int × Int × Int) ⊕ (Int × Int)) := fun s0 => match s0 with
 | (a8, a9, a0) =>
  if decide (a0 < (p0.length : Int)) then
   (idxO p0 a0).bind fun aa =>
   (F_raddleref25_Used aa).bind fun ab =>
   (F_raddleref25_Gives aa).bind fun ac =>
   some (.inl (w64 (a8 + ab), w64 (a9 + ac), w64 (a0 + 1)))
  else
   some (.inr (a8, a9))
noncomputable def F_raddleref25_sums (p0 : (List api_Stitch)) : Option (Int × Int) :=
 Option.bind (α := (Int × Int)) (
  (whileO (raddleref25_sums_l1 p0) (0, 0, 0)).bind fun (a0, a8) =>
   some (a0, a8)) fun (o5, o6) =>
 some (o5, o6)
theorem c_raddleref25_sums (E : Nat → Prop) (w0 : World) (p0 : (List api_Stitch)) (v0 : Value) (r : (Int × Int)) (h : F_raddleref25_sums p0 = some r) (S : St0 E [] w0 w0 [] [fRep (rL r_api_Stitch) (v0) p0]) :
 Calls Try.prog 49 #[v0] w0 (Ret (X := Unit) E [] w0 (fun _ => .tuple #[.int .i64 r.1, .int .i64 r.2]) (fun _ => []) (fun _ => [])) := by
 unfold F_raddleref25_sums at h
 obtain ⟨aa, ab, _, rfl, _⟩ := S.know (i := 0) (e := fRep (rL r_api_Stitch) (v0) p0) rfl
 refine sEnter (args := [.slice aa p0.length ab]) 29 Try.func49 rfl rfl (by simp) S (fun a S => ?_)
 refine sSeq (fun K3 az => sRegion (sN S fun a S => ?_))
 refine sN S fun a S => ?_
 refine lT (az _ _ (sSeq (fun K4 aA => sRegion (sN S fun a S => ?_))))
 refine sN S fun a S => ?_
 refine lT (aA _ _ ?_)
 obtain ⟨t7, h, g8⟩ := bS h
 refine sCut (fun a w => ∃ o5, ∃ o6, (o5, o6) = t7 ∧ St [] E [] w0 29 a w [(4, iv o5), (5, iv o6)] [] []) ?_ (fun a w hI => ?_)
 rotate_left
 ·obtain ⟨o5, o6, rfl, S⟩ := hI
  have h := g8
  try dsimp only at h
  refine sSeq (fun aH ai => sRegion (sM S fun a S => ?_))
  refine sM S fun a S => ?_
  refine sN S fun a S => ?_
  refine sN S fun a S => ?_
  refine lT (ai _ _ ?_)
  obtain rfl := tS h
  exact wp_ret (sRet (.tuple #[iv o5, iv o6]) S (rsl2 rfl (rvT (t := 2) (v := iv o5) S rfl) (rvT (t := 3) (v := iv o6) S rfl)) ⟨(), rfl, S.mem.sel [] [] (by decide) rfl rfl⟩)
 refine sSeq (fun K9 aC => sRegion (sN S fun a S => ?_))
 refine lT (aC _ _ (wp_block ?_))
 obtain ⟨aI, hl, aG⟩ := bS h
 refine sLoop hl (fun s0 a w => match s0 with | (ac, ae, a8) => St [] E [] w0 29 a w [(0, .slice aa p0.length ab), (4, iv ac), (5, iv ae), (6, iv a8)] [] [fRep (rL r_api_Stitch) (.slice aa p0.length ab) p0]) (S.fix [] [0] (by decide) rfl rfl rfl) ?_
 clear hl h
 intro s0 a w c0 hI h aj
 obtain ⟨ac, ae, a8⟩ := s0
 unfold raddleref25_sums_l1 at h
 dsimp only at h hI
 have S := hI
 refine sSeq (fun aJ ak => sSeq (fun aK al => sRegion (sM S fun a S => ?_)))
 refine sM S fun a S => ?_
 refine sLen S (wN rfl) rfl Try.underlying62 rfl rfl (lb rfl) fun a S => ?_
 refine sBin _ S (wN rfl) rfl rfl rfl (bLt _ _ _ _ .i64 a8 (p0.length : Int)) rfl (lb rfl) fun a S => ?_
 refine lT (al _ _ ?_)
 rcases iS h with ⟨a9, h⟩ | ⟨a9, h⟩
 rotate_left
 ·refine sCondF S rfl a9 ?_
  obtain rfl := tS h
  obtain rfl := aj _ rfl
  have h := aG
  try dsimp only at h
  exact wp_exit (xThen (xThen (xHit (leafT (⟨ac, ae, Option.some.inj h, S.fix [] [] (by decide) rfl rfl rfl⟩)))))
 refine sCondT S rfl a9 ?_
 refine wp_skip (leafT (ak _ _ ?_))
 refine sSeq (fun aL am => wp_block ?_)
 refine sSeq (fun aM ao => sRegion (sM S fun a S => ?_))
 refine sM S fun a S => ?_
 refine sM S fun a S => ?_
 obtain ⟨a0, af, h⟩ := bS h
 obtain ⟨av, ap, S⟩ := pIdx (P := Try.prog) (r := r_api_Stitch) (v := .slice aa p0.length ab) (xs := p0) (j := a8) 62 61 0 S Try.underlying62 rfl rfl af
 refine sIdxV S (wN rfl) rfl rfl rfl ap rfl (lb rfl) fun a S => ?_
 obtain ⟨aw, S⟩ := pLoad (r := r_api_Stitch) (q := av) (x := a0) 0 S rfl
 obtain rfl : aw = .agg #[.int .u8 a0.Kind, .bool a0.Purl, iv a0.A, iv a0.B] := S.mem.know (i := 1) (e := fRep r_api_Stitch (aw) a0) rfl
 refine sLoadVN (vq := av) 0 [.int .u8 a0.Kind, .bool a0.Purl, iv a0.A, iv a0.B] S (wN rfl) rfl rfl rfl rfl rfl rfl (lb rfl) fun a S => ?_
 obtain ⟨ag, aq, h⟩ := bS h
 have S1 := S.mem
 refine sCq [.agg #[.int .u8 a0.Kind, .bool a0.Purl, iv a0.A, iv a0.B]] (iv ag) S callee46 (S1.quiet [1] rfl) (fun E1 w1 S1 => c_raddleref25_Used E1 w1 a0 (.agg #[.int .u8 a0.Kind, .bool a0.Purl, iv a0.A, iv a0.B]) ag aq S1) fun a w S => ?_
 refine sBin _ S (wN rfl) rfl rfl rfl (bAdd _ _ _ _ ac ag) rfl (lb rfl) fun a S => ?_
 refine sN S fun a S => ?_
 refine lT (ao _ _ (sRegion (sM S fun a S => ?_)))
 refine sM S fun a S => ?_
 refine sM S fun a S => ?_
 obtain ⟨ax, ar, S⟩ := pIdx (P := Try.prog) (r := r_api_Stitch) (v := .slice aa p0.length ab) (xs := p0) (j := a8) 62 61 3 S Try.underlying62 rfl rfl af
 refine sIdxV S (wN rfl) rfl rfl rfl ar rfl (lb rfl) fun a S => ?_
 obtain ⟨ay, S⟩ := pLoad (r := r_api_Stitch) (q := ax) (x := a0) 0 S rfl
 obtain rfl : ay = .agg #[.int .u8 a0.Kind, .bool a0.Purl, iv a0.A, iv a0.B] := S.mem.know (i := 1) (e := fRep r_api_Stitch (ay) a0) rfl
 refine sLoadVN (vq := ax) 0 [.int .u8 a0.Kind, .bool a0.Purl, iv a0.A, iv a0.B] S (wN rfl) rfl rfl rfl rfl rfl rfl (lb rfl) fun a S => ?_
 obtain ⟨ah, au, h⟩ := bS h
 have S1 := S.mem
 refine sCq [.agg #[.int .u8 a0.Kind, .bool a0.Purl, iv a0.A, iv a0.B]] (iv ah) S callee63 (S1.quiet [1] rfl) (fun E1 w1 S1 => c_raddleref25_Gives E1 w1 a0 (.agg #[.int .u8 a0.Kind, .bool a0.Purl, iv a0.A, iv a0.B]) ah au S1) fun a w S => ?_
 refine sBin _ S (wN rfl) rfl rfl rfl (bAdd _ _ _ _ ae ah) rfl (lb rfl) fun a S => ?_
 refine sN S fun a S => ?_
 refine leafL (leafB (leafT (am _ _ ?_)))
 refine sRegion (sM S fun a S => ?_)
 refine sBin _ S (wN rfl) rfl rfl rfl (bAdd _ _ _ _ a8 1) rfl (lb rfl) fun a S => ?_
 refine sN S fun a S => ?_
 exact lT (⟨(w64 (ac + ag), w64 (ae + ah), w64 (a8 + 1)), (Option.some.inj h).symm, (S.fix [] [6] (by decide) rfl rfl rfl)⟩)
noncomputable def F_raddleref25_Check (p0 : api_Stitch) : Option Int :=
 Option.bind (α := Bool) (
  if p0.A == 0 then
   some (p0.B == 0)
  else
   some false) fun o3 =>
 Option.bind (α := Bool) (
  Option.bind (α := Bool) (
   if p0.Kind == 1 then
    some (p0.Kind == 1)
   else
    some (p0.Kind == 8)) fun a0 =>
  if a0 then
   some o3
  else
   if p0.Kind == 2 then
    if o3 then
     some (!p0.Purl)
    else
     some false
   else
    Option.bind (α := Bool) (
     if p0.Kind == 3 then
      some (p0.Kind == 3)
     else
      if p0.Kind == 4 then
       some (p0.Kind == 4)
      else
       some (p0.Kind == 5)) fun a8 =>
    if a8 then
     if p0.B == 0 then
      if decide (2 ≤ p0.A) then
       some (decide (p0.A ≤ 4))
      else
       some false
     else
      some false
    else
     Option.bind (α := Bool) (
      if p0.Kind == 6 then
       some (p0.Kind == 6)
      else
       some (p0.Kind == 7)) fun a9 =>
     if a9 then
      if decide (1 ≤ p0.A) then
       if decide (p0.A ≤ 6) then
        if decide (1 ≤ p0.B) then
         some (decide (p0.B ≤ 6))
        else
         some false
       else
        some false
      else
       some false
     else
      if p0.Kind == 9 then
       if p0.B == 0 then
        if !p0.Purl then
         if decide (1 ≤ p0.A) then
          some (decide (p0.A ≤ 200))
         else
          some false
        else
         some false
       else
        some false
      else
       if p0.Kind == 10 then
        if p0.B == 0 then
         if decide (1 ≤ p0.A) then
          some (decide (p0.A ≤ 200))
         else
          some false
        else
         some false
       else
        some false) fun o8 =>
 if !o8 then
  some 8
 else
  some 0
theorem c_raddleref25_Check (E : Nat → Prop) (w0 : World) (p0 : api_Stitch) (v0 : Value) (r : Int) (h : F_raddleref25_Check p0 = some r) (S : St0 E [] w0 w0 [] [fRep r_api_Stitch (v0) p0]) :
 Calls Try.prog 62 #[v0] w0 (Ret (X := Unit) E [] w0 (fun _ => .int .i64 r) (fun _ => []) (fun _ => [])) := by
 unfold F_raddleref25_Check at h
 obtain rfl : v0 = .agg #[.int .u8 p0.Kind, .bool p0.Purl, iv p0.A, iv p0.B] := S.know (i := 0) (e := fRep r_api_Stitch (v0) p0) rfl
 refine sEnter (args := [.agg #[.int .u8 p0.Kind, .bool p0.Purl, iv p0.A, iv p0.B]]) 102 Try.func62 rfl rfl (by simp) S (fun a S => ?_)
 refine sSeq (fun K1 aS => sRegion (sBox (v := .agg #[.int .u8 p0.Kind, .bool p0.Purl, iv p0.A, iv p0.B]) S (wN rfl) rfl rfl [.int .u8 p0.Kind, .bool p0.Purl, iv p0.A, iv p0.B] rfl rfl (lb rfl) fun a b2 w S => ?_))
 refine sN S fun a S => ?_
 refine lT (aS _ _ ?_)
 obtain ⟨t4, h, g5⟩ := bS h
 refine sCut (fun a w => ∃ o3, o3 = t4 ∧ St [] E [] w0 102 a w [(1, .pointer (some ⟨b2, 0, none⟩)), (3, .bool o3)] [eBox b2 61 [.int .u8 p0.Kind, .bool p0.Purl, iv p0.A, iv p0.B]] []) ?_ (fun a w hI => ?_)
 ·refine sRegion (sField (b := b2) (off := 0) 2 2 S (wN rfl) rfl rfl rfl rfl rfl (lb rfl) fun a S => ?_)
  refine sLoad1 0 (iv p0.A) S (wN rfl) rfl rfl rfl rfl rfl rfl (lb rfl) fun a S => ?_
  refine sBin _ S (wN rfl) rfl rfl rfl (bEq _ _ _ _ .i64 p0.A 0) rfl (lb rfl) fun a S => ?_
  refine sM S fun a S => ?_
  rcases iS h with ⟨aj, h⟩ | ⟨aj, h⟩
  rotate_left
  ·refine sSkN 3 3 true 8 S rfl rfl aj rfl fun a S => ?_
   refine sPickF (.bool false) S (wN rfl) rfl rfl aj rfl rfl (lb rfl) fun a S => ?_
   refine sN S fun a S => ?_
   exact lT (⟨false, Option.some.inj h, S.fix [0] [] (by decide) rfl rfl rfl⟩)
  refine sField (b := b2) (off := 0) 3 3 S (wG 3 true 8 rfl rfl rfl aj) rfl rfl rfl rfl rfl (lb rfl) fun a S => ?_
  refine sLoad1 0 (iv p0.B) S (wG 3 true 8 rfl rfl rfl aj) rfl rfl rfl rfl rfl rfl (lb rfl) fun a S => ?_
  refine sBin _ S (wG 3 true 8 rfl rfl rfl aj) rfl rfl rfl (bEq _ _ _ _ .i64 p0.B 0) rfl (lb rfl) fun a S => ?_
  refine sPickT (.bool (p0.B == 0)) S (wN rfl) rfl rfl aj rfl rfl (lb rfl) fun a S => ?_
  refine sN S fun a S => ?_
  exact lT (⟨p0.B == 0, Option.some.inj h, S.fix [0] [] (by decide) rfl rfl rfl⟩)
 obtain ⟨o3, rfl, S⟩ := hI
 have h := g5
 try dsimp only at h
 refine sSeq (fun K7 aT => sRegion (sN S fun a S => ?_))
 refine lT (aT _ _ ?_)
 obtain ⟨t9, h, aU⟩ := bS h
 refine sCut (fun a w => ∃ o8, o8 = t9 ∧ St [] E [] w0 102 a w [(4, .bool o8)] [] []) ?_ (fun a w hI => ?_)
 rotate_left
 ·obtain ⟨o8, rfl, S⟩ := hI
  have h := aU
  try dsimp only at h
  refine sSeq (fun bc ay => sSeq (fun bf az => sRegion (sM S fun a S => ?_)))
  refine sNot (b := o8) S (wN rfl) rfl rfl rfl (lb rfl) fun a S => ?_
  refine lT (az _ _ ?_)
  rcases iS h with ⟨ak, h⟩ | ⟨ak, h⟩
  ·refine sCondT S rfl ak ?_
   refine sSeq (fun bg aA => sRegion (sN S fun a S => ?_))
   refine lT (aA _ _ ?_)
   obtain rfl := tS h
   exact wp_ret (rThen (sRet (iv 8) S (rsl1 rfl (rvT (t := 2) (v := iv 8) S rfl)) ⟨(), rfl, S.mem.sel [] [] (by decide) rfl rfl⟩))
  refine sCondF S rfl ak ?_
  refine wp_skip (leafT (ay _ _ ?_))
  refine sSeq (fun bh aC => sRegion (sN S fun a S => ?_))
  refine lT (aC _ _ ?_)
  obtain rfl := tS h
  exact wp_ret (sRet (iv 0) S (rsl1 rfl (rvT (t := 2) (v := iv 0) S rfl)) ⟨(), rfl, S.mem.sel [] [] (by decide) rfl rfl⟩)
 refine sSeq (fun bi aG => sRegion (sField (b := b2) (off := 0) 0 0 S (wN rfl) rfl rfl rfl rfl rfl (lb rfl) fun a S => ?_))
 refine sLoad1 0 (.int .u8 p0.Kind) S (wN rfl) rfl rfl rfl rfl rfl rfl (lb rfl) fun a S => ?_
 refine lT (aG _ _ (wp_block ?_))
 obtain ⟨aV, h, aW⟩ := bS h
 refine sCut (fun a w => ∃ aH, aH = aV ∧ St [] E [] w0 102 a w [(1, .pointer (some ⟨b2, 0, none⟩)), (3, .bool o3), (4, .bool false), (14, .int .u8 p0.Kind), (15, .bool aH)] [eBox b2 61 [.int .u8 p0.Kind, .bool p0.Purl, iv p0.A, iv p0.B]] []) ?_ (fun a w hI => ?_)
 ·refine sSeq (fun bj aI => sRegion (sBin _ S (wN rfl) rfl rfl rfl (bEq _ _ _ _ .u8 p0.Kind 1) rfl (lb rfl) fun a S => ?_))
  refine sN S fun a S => ?_
  refine lT (aI _ _ ?_)
  rcases iS h with ⟨al, h⟩ | ⟨al, h⟩
  ·refine sCondT S rfl al ?_
   exact wp_skip (leafT (⟨p0.Kind == 1, Option.some.inj h, S.fix [0] [] (by decide) rfl rfl rfl⟩))
  refine sCondF S rfl al ?_
  refine sRegion (sBin _ S (wN rfl) rfl rfl rfl (bEq _ _ _ _ .u8 p0.Kind 8) rfl (lb rfl) fun a S => ?_)
  refine sN S fun a S => ?_
  exact lT (⟨p0.Kind == 8, Option.some.inj h, S.fix [0] [] (by decide) rfl rfl rfl⟩)
 obtain ⟨aH, rfl, S⟩ := hI
 have h := aW
 try dsimp only at h
 rcases iS h with ⟨am, h⟩ | ⟨am, h⟩
 ·refine sCondT S rfl am ?_
  refine sRegion (sM S fun a S => ?_)
  refine sN S fun a S => ?_
  exact leafL (leafB (leafT (⟨o3, Option.some.inj h, S.fix [] [] (by decide) rfl rfl rfl⟩)))
 refine sCondF S rfl am ?_
 refine sSeq (fun bk aJ => sRegion (sBin _ S (wN rfl) rfl rfl rfl (bEq _ _ _ _ .u8 p0.Kind 2) rfl (lb rfl) fun a S => ?_))
 refine sN S fun a S => ?_
 refine lT (aJ _ _ ?_)
 rcases iS h with ⟨ao, h⟩ | ⟨ao, h⟩
 ·refine sCondT S rfl ao ?_
  refine sRegion (sM S fun a S => ?_)
  refine sM S fun a S => ?_
  rcases iS h with ⟨a0, h⟩ | ⟨a0, h⟩
  rotate_left
  ·refine sSkN 3 1 true 22 S rfl rfl a0 rfl fun a S => ?_
   refine sPickF (.bool false) S (wN rfl) rfl rfl a0 rfl rfl (lb rfl) fun a S => ?_
   refine sN S fun a S => ?_
   exact leafL (leafB (leafT (⟨false, Option.some.inj h, S.fix [] [] (by decide) rfl rfl rfl⟩)))
  refine sField (b := b2) (off := 0) 1 1 S (wG 1 true 22 rfl rfl rfl a0) rfl rfl rfl rfl rfl (lb rfl) fun a S => ?_
  refine sLoad1 0 (.bool p0.Purl) S (wG 1 true 22 rfl rfl rfl a0) rfl rfl rfl rfl rfl rfl (lb rfl) fun a S => ?_
  refine sNot (b := p0.Purl) S (wG 1 true 22 rfl rfl rfl a0) rfl rfl rfl (lb rfl) fun a S => ?_
  refine sPickT (.bool (!p0.Purl)) S (wN rfl) rfl rfl a0 rfl rfl (lb rfl) fun a S => ?_
  refine sN S fun a S => ?_
  exact leafL (leafB (leafT (⟨!p0.Purl, Option.some.inj h, S.fix [] [] (by decide) rfl rfl rfl⟩)))
 refine sCondF S rfl ao ?_
 obtain ⟨aX, h, aZ⟩ := bS h
 refine sCut (fun a w => ∃ aK, aK = aX ∧ St [] E [] w0 102 a w [(1, .pointer (some ⟨b2, 0, none⟩)), (4, .bool false), (14, .int .u8 p0.Kind), (27, .bool aK)] [eBox b2 61 [.int .u8 p0.Kind, .bool p0.Purl, iv p0.A, iv p0.B]] []) ?_ (fun a w hI => ?_)
 ·refine sSeq (fun bl aL => sRegion (sBin _ S (wN rfl) rfl rfl rfl (bEq _ _ _ _ .u8 p0.Kind 3) rfl (lb rfl) fun a S => ?_))
  refine sN S fun a S => ?_
  refine lT (aL _ _ ?_)
  rcases iS h with ⟨ap, h⟩ | ⟨ap, h⟩
  ·refine sCondT S rfl ap ?_
   exact wp_skip (leafT (⟨p0.Kind == 3, Option.some.inj h, S.fix [0] [] (by decide) rfl rfl rfl⟩))
  refine sCondF S rfl ap ?_
  refine sSeq (fun bm aM => sRegion (sBin _ S (wN rfl) rfl rfl rfl (bEq _ _ _ _ .u8 p0.Kind 4) rfl (lb rfl) fun a S => ?_))
  refine sN S fun a S => ?_
  refine lT (aM _ _ ?_)
  rcases iS h with ⟨aq, h⟩ | ⟨aq, h⟩
  ·refine sCondT S rfl aq ?_
   exact wp_skip (leafT (⟨p0.Kind == 4, Option.some.inj h, S.fix [0] [] (by decide) rfl rfl rfl⟩))
  refine sCondF S rfl aq ?_
  refine sRegion (sBin _ S (wN rfl) rfl rfl rfl (bEq _ _ _ _ .u8 p0.Kind 5) rfl (lb rfl) fun a S => ?_)
  refine sN S fun a S => ?_
  exact lT (⟨p0.Kind == 5, Option.some.inj h, S.fix [0] [] (by decide) rfl rfl rfl⟩)
 obtain ⟨aK, rfl, S⟩ := hI
 have h := aZ
 try dsimp only at h
 rcases iS h with ⟨ar, h⟩ | ⟨ar, h⟩
 ·refine sCondT S rfl ar ?_
  refine sRegion (sField (b := b2) (off := 0) 3 3 S (wN rfl) rfl rfl rfl rfl rfl (lb rfl) fun a S => ?_)
  refine sLoad1 0 (iv p0.B) S (wN rfl) rfl rfl rfl rfl rfl rfl (lb rfl) fun a S => ?_
  refine sBin _ S (wN rfl) rfl rfl rfl (bEq _ _ _ _ .i64 p0.B 0) rfl (lb rfl) fun a S => ?_
  refine sM S fun a S => ?_
  rcases iS h with ⟨a8, h⟩ | ⟨a8, h⟩
  rotate_left
  ·refine sSkN 3 3 true 34 S rfl rfl a8 rfl fun a S => ?_
   refine sPickF (.bool false) S (wN rfl) rfl rfl a8 rfl rfl (lb rfl) fun a S => ?_
   refine sM S fun a S => ?_
   refine sSkN 3 8 true 39 S rfl rfl rfl rfl fun a S => ?_
   refine sPickF (.bool false) S (wN rfl) rfl rfl rfl rfl rfl (lb rfl) fun a S => ?_
   refine sN S fun a S => ?_
   exact leafL (leafB (leafT (⟨false, Option.some.inj h, S.fix [] [] (by decide) rfl rfl rfl⟩)))
  refine sField (b := b2) (off := 0) 2 2 S (wG 3 true 34 rfl rfl rfl a8) rfl rfl rfl rfl rfl (lb rfl) fun a S => ?_
  refine sLoad1 0 (iv p0.A) S (wG 3 true 34 rfl rfl rfl a8) rfl rfl rfl rfl rfl rfl (lb rfl) fun a S => ?_
  refine sBin _ S (wG 3 true 34 rfl rfl rfl a8) rfl rfl rfl (bGe _ _ _ _ .i64 p0.A 2) rfl (lb rfl) fun a S => ?_
  refine sPickT (.bool (decide (2 ≤ p0.A))) S (wN rfl) rfl rfl a8 rfl rfl (lb rfl) fun a S => ?_
  refine sM S fun a S => ?_
  rcases iS h with ⟨a9, h⟩ | ⟨a9, h⟩
  rotate_left
  ·refine sSkN 3 8 true 39 S rfl rfl a9 rfl fun a S => ?_
   refine sPickF (.bool false) S (wN rfl) rfl rfl a9 rfl rfl (lb rfl) fun a S => ?_
   refine sN S fun a S => ?_
   exact leafL (leafB (leafT (⟨false, Option.some.inj h, S.fix [] [] (by decide) rfl rfl rfl⟩)))
  refine sField (b := b2) (off := 0) 2 2 S (wG 8 true 39 rfl rfl rfl a9) rfl rfl rfl rfl rfl (lb rfl) fun a S => ?_
  refine sLoad1 0 (iv p0.A) S (wG 8 true 39 rfl rfl rfl a9) rfl rfl rfl rfl rfl rfl (lb rfl) fun a S => ?_
  refine sBin _ S (wG 8 true 39 rfl rfl rfl a9) rfl rfl rfl (bLe _ _ _ _ .i64 p0.A 4) rfl (lb rfl) fun a S => ?_
  refine sPickT (.bool (decide (p0.A ≤ 4))) S (wN rfl) rfl rfl a9 rfl rfl (lb rfl) fun a S => ?_
  refine sN S fun a S => ?_
  exact leafL (leafB (leafT (⟨decide (p0.A ≤ 4), Option.some.inj h, S.fix [] [] (by decide) rfl rfl rfl⟩)))
 refine sCondF S rfl ar ?_
 obtain ⟨ba, h, bb⟩ := bS h
 refine sCut (fun a w => ∃ aO, aO = ba ∧ St [] E [] w0 102 a w [(1, .pointer (some ⟨b2, 0, none⟩)), (4, .bool false), (14, .int .u8 p0.Kind), (44, .bool aO)] [eBox b2 61 [.int .u8 p0.Kind, .bool p0.Purl, iv p0.A, iv p0.B]] []) ?_ (fun a w hI => ?_)
 ·refine sSeq (fun bn aP => sRegion (sBin _ S (wN rfl) rfl rfl rfl (bEq _ _ _ _ .u8 p0.Kind 6) rfl (lb rfl) fun a S => ?_))
  refine sN S fun a S => ?_
  refine lT (aP _ _ ?_)
  rcases iS h with ⟨au, h⟩ | ⟨au, h⟩
  ·refine sCondT S rfl au ?_
   exact wp_skip (leafT (⟨p0.Kind == 6, Option.some.inj h, S.fix [0] [] (by decide) rfl rfl rfl⟩))
  refine sCondF S rfl au ?_
  refine sRegion (sBin _ S (wN rfl) rfl rfl rfl (bEq _ _ _ _ .u8 p0.Kind 7) rfl (lb rfl) fun a S => ?_)
  refine sN S fun a S => ?_
  exact lT (⟨p0.Kind == 7, Option.some.inj h, S.fix [0] [] (by decide) rfl rfl rfl⟩)
 obtain ⟨aO, rfl, S⟩ := hI
 have h := bb
 try dsimp only at h
 rcases iS h with ⟨av, h⟩ | ⟨av, h⟩
 ·refine sCondT S rfl av ?_
  refine sRegion (sField (b := b2) (off := 0) 2 2 S (wN rfl) rfl rfl rfl rfl rfl (lb rfl) fun a S => ?_)
  refine sLoad1 0 (iv p0.A) S (wN rfl) rfl rfl rfl rfl rfl rfl (lb rfl) fun a S => ?_
  refine sBin _ S (wN rfl) rfl rfl rfl (bGe _ _ _ _ .i64 p0.A 1) rfl (lb rfl) fun a S => ?_
  refine sM S fun a S => ?_
  rcases iS h with ⟨aa, h⟩ | ⟨aa, h⟩
  rotate_left
  ·refine sSkN 3 3 true 50 S rfl rfl aa rfl fun a S => ?_
   refine sPickF (.bool false) S (wN rfl) rfl rfl aa rfl rfl (lb rfl) fun a S => ?_
   refine sM S fun a S => ?_
   refine sSkN 3 8 true 55 S rfl rfl rfl rfl fun a S => ?_
   refine sPickF (.bool false) S (wN rfl) rfl rfl rfl rfl rfl (lb rfl) fun a S => ?_
   refine sM S fun a S => ?_
   refine sSkN 3 13 true 60 S rfl rfl rfl rfl fun a S => ?_
   refine sPickF (.bool false) S (wN rfl) rfl rfl rfl rfl rfl (lb rfl) fun a S => ?_
   refine sN S fun a S => ?_
   exact leafL (leafB (leafT (⟨false, Option.some.inj h, S.fix [] [] (by decide) rfl rfl rfl⟩)))
  refine sField (b := b2) (off := 0) 2 2 S (wG 3 true 50 rfl rfl rfl aa) rfl rfl rfl rfl rfl (lb rfl) fun a S => ?_
  refine sLoad1 0 (iv p0.A) S (wG 3 true 50 rfl rfl rfl aa) rfl rfl rfl rfl rfl rfl (lb rfl) fun a S => ?_
  refine sBin _ S (wG 3 true 50 rfl rfl rfl aa) rfl rfl rfl (bLe _ _ _ _ .i64 p0.A 6) rfl (lb rfl) fun a S => ?_
  refine sPickT (.bool (decide (p0.A ≤ 6))) S (wN rfl) rfl rfl aa rfl rfl (lb rfl) fun a S => ?_
  refine sM S fun a S => ?_
  rcases iS h with ⟨ab, h⟩ | ⟨ab, h⟩
  rotate_left
  ·refine sSkN 3 8 true 55 S rfl rfl ab rfl fun a S => ?_
   refine sPickF (.bool false) S (wN rfl) rfl rfl ab rfl rfl (lb rfl) fun a S => ?_
   refine sM S fun a S => ?_
   refine sSkN 3 13 true 60 S rfl rfl rfl rfl fun a S => ?_
   refine sPickF (.bool false) S (wN rfl) rfl rfl rfl rfl rfl (lb rfl) fun a S => ?_
   refine sN S fun a S => ?_
   exact leafL (leafB (leafT (⟨false, Option.some.inj h, S.fix [] [] (by decide) rfl rfl rfl⟩)))
  refine sField (b := b2) (off := 0) 3 3 S (wG 8 true 55 rfl rfl rfl ab) rfl rfl rfl rfl rfl (lb rfl) fun a S => ?_
  refine sLoad1 0 (iv p0.B) S (wG 8 true 55 rfl rfl rfl ab) rfl rfl rfl rfl rfl rfl (lb rfl) fun a S => ?_
  refine sBin _ S (wG 8 true 55 rfl rfl rfl ab) rfl rfl rfl (bGe _ _ _ _ .i64 p0.B 1) rfl (lb rfl) fun a S => ?_
  refine sPickT (.bool (decide (1 ≤ p0.B))) S (wN rfl) rfl rfl ab rfl rfl (lb rfl) fun a S => ?_
  refine sM S fun a S => ?_
  rcases iS h with ⟨ac, h⟩ | ⟨ac, h⟩
  rotate_left
  ·refine sSkN 3 13 true 60 S rfl rfl ac rfl fun a S => ?_
   refine sPickF (.bool false) S (wN rfl) rfl rfl ac rfl rfl (lb rfl) fun a S => ?_
   refine sN S fun a S => ?_
   exact leafL (leafB (leafT (⟨false, Option.some.inj h, S.fix [] [] (by decide) rfl rfl rfl⟩)))
  refine sField (b := b2) (off := 0) 3 3 S (wG 13 true 60 rfl rfl rfl ac) rfl rfl rfl rfl rfl (lb rfl) fun a S => ?_
  refine sLoad1 0 (iv p0.B) S (wG 13 true 60 rfl rfl rfl ac) rfl rfl rfl rfl rfl rfl (lb rfl) fun a S => ?_
  refine sBin _ S (wG 13 true 60 rfl rfl rfl ac) rfl rfl rfl (bLe _ _ _ _ .i64 p0.B 6) rfl (lb rfl) fun a S => ?_
  refine sPickT (.bool (decide (p0.B ≤ 6))) S (wN rfl) rfl rfl ac rfl rfl (lb rfl) fun a S => ?_
  refine sN S fun a S => ?_
  exact leafL (leafB (leafT (⟨decide (p0.B ≤ 6), Option.some.inj h, S.fix [] [] (by decide) rfl rfl rfl⟩)))
 refine sCondF S rfl av ?_
 refine sSeq (fun bo aQ => sRegion (sBin _ S (wN rfl) rfl rfl rfl (bEq _ _ _ _ .u8 p0.Kind 9) rfl (lb rfl) fun a S => ?_))
 refine sN S fun a S => ?_
 refine lT (aQ _ _ ?_)
 rcases iS h with ⟨aw, h⟩ | ⟨aw, h⟩
 rotate_left
 ·refine sCondF S rfl aw ?_
  refine sSeq (fun bp aR => sRegion (sBin _ S (wN rfl) rfl rfl rfl (bEq _ _ _ _ .u8 p0.Kind 10) rfl (lb rfl) fun a S => ?_))
  refine sN S fun a S => ?_
  refine lT (aR _ _ ?_)
  rcases iS h with ⟨ax, h⟩ | ⟨ax, h⟩
  rotate_left
  ·refine sCondF S rfl ax ?_
   exact wp_skip (leafB (leafT (⟨false, Option.some.inj h, S.fix [] [] (by decide) rfl rfl rfl⟩)))
  refine sCondT S rfl ax ?_
  refine sRegion (sField (b := b2) (off := 0) 3 3 S (wN rfl) rfl rfl rfl rfl rfl (lb rfl) fun a S => ?_)
  refine sLoad1 0 (iv p0.B) S (wN rfl) rfl rfl rfl rfl rfl rfl (lb rfl) fun a S => ?_
  refine sBin _ S (wN rfl) rfl rfl rfl (bEq _ _ _ _ .i64 p0.B 0) rfl (lb rfl) fun a S => ?_
  refine sM S fun a S => ?_
  rcases iS h with ⟨ae, h⟩ | ⟨ae, h⟩
  rotate_left
  ·refine sSkN 3 3 true 90 S rfl rfl ae rfl fun a S => ?_
   refine sPickF (.bool false) S (wN rfl) rfl rfl ae rfl rfl (lb rfl) fun a S => ?_
   refine sM S fun a S => ?_
   refine sSkN 3 8 true 95 S rfl rfl rfl rfl fun a S => ?_
   refine sPickF (.bool false) S (wN rfl) rfl rfl rfl rfl rfl (lb rfl) fun a S => ?_
   refine sN S fun a S => ?_
   exact leafL (leafB (leafT (⟨false, Option.some.inj h, S.fix [] [] (by decide) rfl rfl rfl⟩)))
  refine sField (b := b2) (off := 0) 2 2 S (wG 3 true 90 rfl rfl rfl ae) rfl rfl rfl rfl rfl (lb rfl) fun a S => ?_
  refine sLoad1 0 (iv p0.A) S (wG 3 true 90 rfl rfl rfl ae) rfl rfl rfl rfl rfl rfl (lb rfl) fun a S => ?_
  refine sBin _ S (wG 3 true 90 rfl rfl rfl ae) rfl rfl rfl (bGe _ _ _ _ .i64 p0.A 1) rfl (lb rfl) fun a S => ?_
  refine sPickT (.bool (decide (1 ≤ p0.A))) S (wN rfl) rfl rfl ae rfl rfl (lb rfl) fun a S => ?_
  refine sM S fun a S => ?_
  rcases iS h with ⟨af, h⟩ | ⟨af, h⟩
  rotate_left
  ·refine sSkN 3 8 true 95 S rfl rfl af rfl fun a S => ?_
   refine sPickF (.bool false) S (wN rfl) rfl rfl af rfl rfl (lb rfl) fun a S => ?_
   refine sN S fun a S => ?_
   exact leafL (leafB (leafT (⟨false, Option.some.inj h, S.fix [] [] (by decide) rfl rfl rfl⟩)))
  refine sField (b := b2) (off := 0) 2 2 S (wG 8 true 95 rfl rfl rfl af) rfl rfl rfl rfl rfl (lb rfl) fun a S => ?_
  refine sLoad1 0 (iv p0.A) S (wG 8 true 95 rfl rfl rfl af) rfl rfl rfl rfl rfl rfl (lb rfl) fun a S => ?_
  refine sBin _ S (wG 8 true 95 rfl rfl rfl af) rfl rfl rfl (bLe _ _ _ _ .i64 p0.A 200) rfl (lb rfl) fun a S => ?_
  refine sPickT (.bool (decide (p0.A ≤ 200))) S (wN rfl) rfl rfl af rfl rfl (lb rfl) fun a S => ?_
  refine sN S fun a S => ?_
  exact leafL (leafB (leafT (⟨decide (p0.A ≤ 200), Option.some.inj h, S.fix [] [] (by decide) rfl rfl rfl⟩)))
 refine sCondT S rfl aw ?_
 refine sRegion (sField (b := b2) (off := 0) 3 3 S (wN rfl) rfl rfl rfl rfl rfl (lb rfl) fun a S => ?_)
 refine sLoad1 0 (iv p0.B) S (wN rfl) rfl rfl rfl rfl rfl rfl (lb rfl) fun a S => ?_
 refine sBin _ S (wN rfl) rfl rfl rfl (bEq _ _ _ _ .i64 p0.B 0) rfl (lb rfl) fun a S => ?_
 refine sM S fun a S => ?_
 rcases iS h with ⟨ag, h⟩ | ⟨ag, h⟩
 rotate_left
 ·refine sSkN 3 3 true 70 S rfl rfl ag rfl fun a S => ?_
  refine sPickF (.bool false) S (wN rfl) rfl rfl ag rfl rfl (lb rfl) fun a S => ?_
  refine sM S fun a S => ?_
  refine sSkN 3 8 true 75 S rfl rfl rfl rfl fun a S => ?_
  refine sPickF (.bool false) S (wN rfl) rfl rfl rfl rfl rfl (lb rfl) fun a S => ?_
  refine sM S fun a S => ?_
  refine sSkN 3 13 true 80 S rfl rfl rfl rfl fun a S => ?_
  refine sPickF (.bool false) S (wN rfl) rfl rfl rfl rfl rfl (lb rfl) fun a S => ?_
  refine sN S fun a S => ?_
  exact leafL (leafB (leafT (⟨false, Option.some.inj h, S.fix [] [] (by decide) rfl rfl rfl⟩)))
 refine sField (b := b2) (off := 0) 1 1 S (wG 3 true 70 rfl rfl rfl ag) rfl rfl rfl rfl rfl (lb rfl) fun a S => ?_
 refine sLoad1 0 (.bool p0.Purl) S (wG 3 true 70 rfl rfl rfl ag) rfl rfl rfl rfl rfl rfl (lb rfl) fun a S => ?_
 refine sNot (b := p0.Purl) S (wG 3 true 70 rfl rfl rfl ag) rfl rfl rfl (lb rfl) fun a S => ?_
 refine sPickT (.bool (!p0.Purl)) S (wN rfl) rfl rfl ag rfl rfl (lb rfl) fun a S => ?_
 refine sM S fun a S => ?_
 rcases iS h with ⟨ah, h⟩ | ⟨ah, h⟩
 rotate_left
 ·refine sSkN 3 8 true 75 S rfl rfl ah rfl fun a S => ?_
  refine sPickF (.bool false) S (wN rfl) rfl rfl ah rfl rfl (lb rfl) fun a S => ?_
  refine sM S fun a S => ?_
  refine sSkN 3 13 true 80 S rfl rfl rfl rfl fun a S => ?_
  refine sPickF (.bool false) S (wN rfl) rfl rfl rfl rfl rfl (lb rfl) fun a S => ?_
  refine sN S fun a S => ?_
  exact leafL (leafB (leafT (⟨false, Option.some.inj h, S.fix [] [] (by decide) rfl rfl rfl⟩)))
 refine sField (b := b2) (off := 0) 2 2 S (wG 8 true 75 rfl rfl rfl ah) rfl rfl rfl rfl rfl (lb rfl) fun a S => ?_
 refine sLoad1 0 (iv p0.A) S (wG 8 true 75 rfl rfl rfl ah) rfl rfl rfl rfl rfl rfl (lb rfl) fun a S => ?_
 refine sBin _ S (wG 8 true 75 rfl rfl rfl ah) rfl rfl rfl (bGe _ _ _ _ .i64 p0.A 1) rfl (lb rfl) fun a S => ?_
 refine sPickT (.bool (decide (1 ≤ p0.A))) S (wN rfl) rfl rfl ah rfl rfl (lb rfl) fun a S => ?_
 refine sM S fun a S => ?_
 rcases iS h with ⟨ai, h⟩ | ⟨ai, h⟩
 rotate_left
 ·refine sSkN 3 13 true 80 S rfl rfl ai rfl fun a S => ?_
  refine sPickF (.bool false) S (wN rfl) rfl rfl ai rfl rfl (lb rfl) fun a S => ?_
  refine sN S fun a S => ?_
  exact leafL (leafB (leafT (⟨false, Option.some.inj h, S.fix [] [] (by decide) rfl rfl rfl⟩)))
 refine sField (b := b2) (off := 0) 2 2 S (wG 13 true 80 rfl rfl rfl ai) rfl rfl rfl rfl rfl (lb rfl) fun a S => ?_
 refine sLoad1 0 (iv p0.A) S (wG 13 true 80 rfl rfl rfl ai) rfl rfl rfl rfl rfl rfl (lb rfl) fun a S => ?_
 refine sBin _ S (wG 13 true 80 rfl rfl rfl ai) rfl rfl rfl (bLe _ _ _ _ .i64 p0.A 200) rfl (lb rfl) fun a S => ?_
 refine sPickT (.bool (decide (p0.A ≤ 200))) S (wN rfl) rfl rfl ai rfl rfl (lb rfl) fun a S => ?_
 refine sN S fun a S => ?_
 exact leafL (leafB (leafT (⟨decide (p0.A ≤ 200), Option.some.inj h, S.fix [] [] (by decide) rfl rfl rfl⟩)))
noncomputable def raddleref25_All_l1 (p0 : (List api_Stitch)) : Int → Option (Int ⊕ (Int ⊕ Unit)) := fun s0 => match s0 with
 | a0 =>
  if decide (a0 < (p0.length : Int)) then
   (idxO p0 a0).bind fun a8 =>
   (F_raddleref25_Check a8).bind fun a9 =>
   if a9 != 0 then
    some (.inr (.inl 8))
   else
    some (.inl (w64 (a0 + 1)))
  else
   some (.inr (.inr ()))
noncomputable def F_raddleref25_All (p0 : (List api_Stitch)) : Option Int :=
 if decide (200 < (p0.length : Int)) then
  some 4
 else
  Option.bind (α := Unit ⊕ Int) (
   (whileO (raddleref25_All_l1 p0) 0).bind fun z0 => match z0 with
    | .inl z =>
     some (.inr z)
    | .inr _ =>
     some (.inl ())) fun z0 => match z0 with
   | .inl _ =>
    (F_raddleref25_sums p0).bind fun a0 =>
    Option.bind (α := Bool) (
     if decide (200 < a0.1) then
      some true
     else
      some (decide (200 < a0.2))) fun a8 =>
    if a8 then
     some 4
    else
     some 0
   | .inr z =>
    some z
theorem c_raddleref25_All (E : Nat → Prop) (w0 : World) (p0 : (List api_Stitch)) (v0 : Value) (r : Int) (h : F_raddleref25_All p0 = some r) (S : St0 E [] w0 w0 [] [fRep (rL r_api_Stitch) (v0) p0]) :
 Calls Try.prog 48 #[v0] w0 (Ret (X := Unit) E [] w0 (fun _ => .int .i64 r) (fun _ => []) (fun _ => [])) := by
 unfold F_raddleref25_All at h
 obtain ⟨aa, ab, _, rfl, _⟩ := S.know (i := 0) (e := fRep (rL r_api_Stitch) (v0) p0) rfl
 refine sEnter (args := [.slice aa p0.length ab]) 32 Try.func48 rfl rfl (by simp) S (fun a S => ?_)
 refine sSeq (fun K3 aJ => sRegion (sN S fun a S => ?_))
 refine lT (aJ _ _ (sSeq (fun K4 aK => sSeq (fun K5 aL => sRegion (sM S fun a S => ?_)))))
 refine sLen S (wN rfl) rfl Try.underlying62 rfl rfl (lb rfl) fun a S => ?_
 refine sBin _ S (wN rfl) rfl rfl rfl (bGt _ _ _ _ .i64 (p0.length : Int) 200) rfl (lb rfl) fun a S => ?_
 refine lT (aL _ _ ?_)
 rcases iS h with ⟨ai, h⟩ | ⟨ai, h⟩
 ·refine sCondT S rfl ai ?_
  refine sSeq (fun K7 aM => sRegion (sN S fun a S => ?_))
  refine lT (aM _ _ ?_)
  obtain rfl := tS h
  exact wp_ret (rThen (sRet (iv 4) S (rsl1 rfl (rvT (t := 2) (v := iv 4) S rfl)) ⟨(), rfl, S.mem.sel [] [] (by decide) rfl rfl⟩))
 refine sCondF S rfl ai ?_
 refine wp_skip (leafT (aK _ _ ?_))
 obtain ⟨t8, h, g9⟩ := bS h
 refine sCut (fun a w => .inl () = t8 ∧ St [] E [] w0 32 a w [(0, .slice aa p0.length ab)] [] [fRep (rL r_api_Stitch) (.slice aa p0.length ab) p0]) ?_ (fun a w hI => ?_)
 rotate_left
 ·obtain ⟨rfl, S⟩ := hI
  have h := g9
  try dsimp only at h
  refine sSeq (fun aQ aj => sRegion (sM S fun a S => ?_))
  obtain ⟨a8, ak, h⟩ := bS h
  have S1 := S.mem
  refine sCq [.slice aa p0.length ab] (.tuple #[iv a8.1, iv a8.2]) S callee49 (S1.quiet [0] rfl) (fun E1 w1 S1 => c_raddleref25_sums E1 w1 p0 (.slice aa p0.length ab) a8 ak S1) fun a w S => ?_
  refine sM S fun a S => ?_
  refine sExtract (vs := [iv a8.1, iv a8.2]) (iv a8.1) S (wN rfl) rfl rfl rfl rfl (lb rfl) fun a S => ?_
  refine sExtract (vs := [iv a8.1, iv a8.2]) (iv a8.2) S (wN rfl) rfl rfl rfl rfl (lb rfl) fun a S => ?_
  refine sN S fun a S => ?_
  refine sN S fun a S => ?_
  refine lT (aj _ _ (sSeq (fun aR al => ?_)))
  obtain ⟨aO, h, aP⟩ := bS h
  refine sCut (fun a w => ∃ am, am = aO ∧ St [] E [] w0 32 a w [(31, .bool am)] [] []) ?_ (fun a w hI => ?_)
  rotate_left
  ·obtain ⟨am, rfl, S⟩ := hI
   have h := aP
   try dsimp only at h
   rcases iS h with ⟨ac, h⟩ | ⟨ac, h⟩
   ·refine sCondT S rfl ac ?_
    refine sSeq (fun aS ao => sRegion (sN S fun a S => ?_))
    refine lT (ao _ _ ?_)
    obtain rfl := tS h
    exact wp_ret (rThen (sRet (iv 4) S (rsl1 rfl (rvT (t := 2) (v := iv 4) S rfl)) ⟨(), rfl, S.mem.sel [] [] (by decide) rfl rfl⟩))
   refine sCondF S rfl ac ?_
   refine wp_skip (leafT (al _ _ ?_))
   refine sSeq (fun aT ap => sRegion (sN S fun a S => ?_))
   refine lT (ap _ _ ?_)
   obtain rfl := tS h
   exact wp_ret (sRet (iv 0) S (rsl1 rfl (rvT (t := 2) (v := iv 0) S rfl)) ⟨(), rfl, S.mem.sel [] [] (by decide) rfl rfl⟩)
  refine sRegion (sM S fun a S => ?_)
  refine sBin _ S (wN rfl) rfl rfl rfl (bGt _ _ _ _ .i64 a8.1 200) rfl (lb rfl) fun a S => ?_
  refine sM S fun a S => ?_
  rcases iS h with ⟨a9, h⟩ | ⟨a9, h⟩
  ·refine sSkN 2 2 false 28 S rfl rfl a9 rfl fun a S => ?_
   refine sPickT (.bool true) S (wN rfl) rfl rfl a9 rfl rfl (lb rfl) fun a S => ?_
   exact lT (⟨true, Option.some.inj h, S.fix [] [] (by decide) rfl rfl rfl⟩)
  refine sMove (iv a8.2) S (wG 2 false 28 rfl rfl rfl a9) (.inl rfl) rfl rfl (lb rfl) fun a S => ?_
  refine sBin _ S (wG 2 false 28 rfl rfl rfl a9) rfl rfl rfl (bGt _ _ _ _ .i64 a8.2 200) rfl (lb rfl) fun a S => ?_
  refine sPickF (.bool (decide (200 < a8.2))) S (wN rfl) rfl rfl a9 rfl rfl (lb rfl) fun a S => ?_
  exact lT (⟨decide (200 < a8.2), Option.some.inj h, S.fix [] [] (by decide) rfl rfl rfl⟩)
 refine sSeq (fun aU aq => sRegion (sN S fun a S => ?_))
 refine lT (aq _ _ (wp_block ?_))
 obtain ⟨aV, hl, aG⟩ := bS h
 refine sLoop hl (fun s0 a w => match s0 with | ag => St [] E [] w0 32 a w [(0, .slice aa p0.length ab), (3, iv ag)] [] [fRep (rL r_api_Stitch) (.slice aa p0.length ab) p0]) (S.fix [] [0] (by decide) rfl rfl rfl) ?_
 clear hl h
 intro ag a w c0 hI h ah
 unfold raddleref25_All_l1 at h
 dsimp only at h hI
 have S := hI
 refine sSeq (fun aW ar => sSeq (fun aX au => sRegion (sM S fun a S => ?_)))
 refine sM S fun a S => ?_
 refine sLen S (wN rfl) rfl Try.underlying62 rfl rfl (lb rfl) fun a S => ?_
 refine sBin _ S (wN rfl) rfl rfl rfl (bLt _ _ _ _ .i64 ag (p0.length : Int)) rfl (lb rfl) fun a S => ?_
 refine lT (au _ _ ?_)
 rcases iS h with ⟨ae, h⟩ | ⟨ae, h⟩
 rotate_left
 ·refine sCondF S rfl ae ?_
  obtain rfl := tS h
  obtain rfl := ah _ rfl
  have h := aG
  try dsimp only at h
  exact wp_exit (xThen (xThen (xHit (leafT (⟨Option.some.inj h, S.fix [] [0] (by decide) rfl rfl rfl⟩)))))
 refine sCondT S rfl ae ?_
 refine wp_skip (leafT (ar _ _ ?_))
 refine sSeq (fun aZ av => wp_block ?_)
 refine sSeq (fun ba aw => sRegion (sM S fun a S => ?_))
 refine sM S fun a S => ?_
 obtain ⟨a0, ax, h⟩ := bS h
 obtain ⟨aH, ay, S⟩ := pIdx (P := Try.prog) (r := r_api_Stitch) (v := .slice aa p0.length ab) (xs := p0) (j := ag) 62 61 0 S Try.underlying62 rfl rfl ax
 refine sIdxV S (wN rfl) rfl rfl rfl ay rfl (lb rfl) fun a S => ?_
 obtain ⟨aI, S⟩ := pLoad (r := r_api_Stitch) (q := aH) (x := a0) 0 S rfl
 obtain rfl : aI = .agg #[.int .u8 a0.Kind, .bool a0.Purl, iv a0.A, iv a0.B] := S.mem.know (i := 1) (e := fRep r_api_Stitch (aI) a0) rfl
 refine sLoadVN (vq := aH) 0 [.int .u8 a0.Kind, .bool a0.Purl, iv a0.A, iv a0.B] S (wN rfl) rfl rfl rfl rfl rfl rfl (lb rfl) fun a S => ?_
 obtain ⟨az, aA, h⟩ := bS h
 have S1 := S.mem
 refine sCq [.agg #[.int .u8 a0.Kind, .bool a0.Purl, iv a0.A, iv a0.B]] (iv az) S callee62 (S1.quiet [1] rfl) (fun E1 w1 S1 => c_raddleref25_Check E1 w1 a0 (.agg #[.int .u8 a0.Kind, .bool a0.Purl, iv a0.A, iv a0.B]) az aA S1) fun a w S => ?_
 refine sBin _ S (wN rfl) rfl rfl rfl (bNe _ _ _ _ .i64 az 0) rfl (lb rfl) fun a S => ?_
 refine lT (aw _ _ ?_)
 rcases iS h with ⟨af, h⟩ | ⟨af, h⟩
 rotate_left
 ·refine sCondF S rfl af ?_
  refine wp_skip (leafB (leafT (av _ _ ?_)))
  refine sRegion (sM S fun a S => ?_)
  refine sBin _ S (wN rfl) rfl rfl rfl (bAdd _ _ _ _ ag 1) rfl (lb rfl) fun a S => ?_
  refine sN S fun a S => ?_
  exact lT (⟨w64 (ag + 1), (Option.some.inj h).symm, (S.fix [] [3] (by decide) rfl rfl rfl)⟩)
 refine sCondT S rfl af ?_
 refine sSeq (fun bb aC => sRegion (sN S fun a S => ?_))
 refine lT (aC _ _ ?_)
 obtain rfl := tS h
 obtain rfl := ah _ rfl
 have h := aG
 try dsimp only at h
 obtain rfl := tS h
 have h := g9
 try dsimp only at h
 obtain rfl := tS h
 exact wp_ret (rBlock (rThen (rThen (rBlock (rThen (sRet (iv 8) S (rsl1 rfl (rvT (t := 2) (v := iv 8) S rfl)) ⟨(), rfl, S.mem.sel [] [] (by decide) rfl rfl⟩))))))
theorem loop_at {S σ τ : Type} {B : S → Option (S ⊕ τ)} (n : Nat) (st : Nat → σ → S) (I : Nat → σ → Prop) (Pt : τ → Prop) {s0 : σ} (h0 : I 0 s0)
 (step : ∀ k s, k < n → I k s → (∃ s', B (st k s) = some (.inl (st (k + 1) s')) ∧ I (k + 1) s') ∨ (∃ t, B (st k s) = some (.inr t) ∧ Pt t))
 (last : ∀ s, I n s → ∃ t, B (st n s) = some (.inr t) ∧ Pt t) : ∃ t, whileO B (st 0 s0) = some t ∧ Pt t := by
 have key : ∀ j k s, j + k = n → I k s → ∃ t, whileO B (st k s) = some t ∧ Pt t := by
  intro j
  induction j with
  | zero =>
   intro k s hk hI
   obtain rfl : k = n := by omega
   obtain ⟨t, h1, h2⟩ := last s hI
   exact ⟨t, whileO_done h1, h2⟩
  | succ j ih =>
   intro k s hk hI
   rcases step k s (by omega) hI with ⟨s', h1, h2⟩ | ⟨t, h1, h2⟩
   ·rw [whileO_step h1]; exact ih _ _ (by omega) h2
   ·exact ⟨t, whileO_done h1, h2⟩
 exact key n 0 s0 (by omega) h0
theorem whileO_none {σ τ : Type} {B : σ → Option (σ ⊕ τ)} {s : σ} (h : B s = none) : whileO B s = none := by
 cases hx : whileO B s with
 | none => rfl
 | some t =>
  obtain ⟨n, hn⟩ := whileO_some hx
  cases n with
  | zero => simp [iterO] at hn
  | succ n => rw [iterO, h] at hn; cases hn
theorem whileO_eq {σ τ : Type} (B : σ → Option (σ ⊕ τ)) (s : σ) : whileO B s = (B s).bind fun r => match r with | .inl s' => whileO B s' | .inr t => some t := by
 cases h : B s with
 | none => rw [whileO_none h]; rfl
 | some r =>
  cases r with
  | inl s' => rw [whileO_step h]; rfl
  | inr t => rw [whileO_done h]; rfl
def sm {α : Type} (f : α → Int) : List α → Int
 | [] => 0
 | x :: l => f x + sm f l
theorem sm_append {α : Type} (f : α → Int) (l k : List α) : sm f (l ++ k) = sm f l + sm f k := by
 induction l with
 | nil => simp [sm]
 | cons x l ih => simp only [List.cons_append, sm, ih]; omega
theorem sm_take {α : Type} (f : α → Int) (l : List α) {k : Nat} (h : k < l.length) : sm f (l.take (k + 1)) = sm f (l.take k) + f l[k] := by
 rw [List.take_succ_eq_append_getElem h, sm_append]
 simp [sm]
theorem sm_bd {α : Type} {f : α → Int} {b : Int} {l : List α} (h : ∀ x, x ∈ l → 0 ≤ f x ∧ f x ≤ b) : 0 ≤ sm f l ∧ sm f l ≤ b * l.length := by
 induction l with
 | nil => simp [sm]
 | cons x l ih =>
  have h1 := h x (by simp)
  have h2 := ih fun y hy => h y (by simp [hy])
  simp only [sm, List.length_cons]
  have e : b * ((l.length + 1 : Nat) : Int) = b * l.length + b := by rw [Int.natCast_add, Int.mul_add]; simp
  rw [e]
  omega
def usedS (p : api_Stitch) : Int := if p.Kind = 2 ∨ p.Kind = 9 then 0 else if p.Kind = 3 ∨ p.Kind = 4 ∨ p.Kind = 10 then p.A else if p.Kind = 6 ∨ p.Kind = 7 then p.A + p.B else 1
def madeS (p : api_Stitch) : Int := if p.Kind = 10 then 0 else if p.Kind = 5 ∨ p.Kind = 9 then p.A else if p.Kind = 6 ∨ p.Kind = 7 then p.A + p.B else 1
def okS (p : api_Stitch) : Prop :=
 (p.Kind = 1 ∨ p.Kind = 8) ∧ p.A = 0 ∧ p.B = 0 ∨ p.Kind = 2 ∧ p.A = 0 ∧ p.B = 0 ∧ p.Purl = false ∨ (p.Kind = 3 ∨ p.Kind = 4 ∨ p.Kind = 5) ∧ 2 ≤ p.A ∧ p.A ≤ 4 ∧ p.B = 0 ∨
 (p.Kind = 6 ∨ p.Kind = 7) ∧ 1 ≤ p.A ∧ p.A ≤ 6 ∧ 1 ≤ p.B ∧ p.B ≤ 6 ∨ p.Kind = 9 ∧ 1 ≤ p.A ∧ p.A ≤ 200 ∧ p.B = 0 ∧ p.Purl = false ∨ p.Kind = 10 ∧ 1 ≤ p.A ∧ p.A ≤ 200 ∧ p.B = 0
instance (p : api_Stitch) : Decidable (okS p) := by unfold okS; infer_instance
theorem okS_bd {p : api_Stitch} (h : okS p) : 1 ≤ p.Kind ∧ p.Kind ≤ 10 ∧ 0 ≤ p.A ∧ p.A ≤ 200 ∧ 0 ≤ p.B ∧ p.B ≤ 6 := by
 unfold okS at h
 omega
theorem usedS_bd {p : api_Stitch} (h : okS p) : 0 ≤ usedS p ∧ usedS p ≤ 200 := by
 have hb := okS_bd h
 unfold okS at h
 unfold usedS
 split
 ·omega
 ·split
  ·omega
  ·split <;> omega
theorem madeS_bd {p : api_Stitch} (h : okS p) : 0 ≤ madeS p ∧ madeS p ≤ 200 := by
 have hb := okS_bd h
 unfold okS at h
 unfold madeS
 split
 ·omega
 ·split
  ·omega
  ·split <;> omega
theorem check_form (p : api_Stitch) (f : stitch_form) (h : F_stitch_forms p.Kind = some (f, true)) :
 F_stitch_Check p = some (if (f.a.1 ≤ p.A ∧ p.A ≤ f.a.2) ∧ (f.b.1 ≤ p.B ∧ p.B ≤ f.b.2) ∧ (p.Purl = true → f.sided = true) then 0 else 8) := by
 unfold F_stitch_Check F_stitch_within
 rw [h]
 by_cases a1 : f.a.1 ≤ p.A <;> by_cases a2 : p.A ≤ f.a.2 <;> by_cases b1 : f.b.1 ≤ p.B <;> by_cases b2 : p.B ≤ f.b.2 <;> cases hp : p.Purl <;> cases hs : f.sided <;> simp [a1, a2, b1, b2, hs]
theorem ifc {α : Type} {c d : Prop} [Decidable c] [Decidable d] {a b : α} (h : c ↔ d) : (if c then a else b) = if d then a else b := by
 by_cases hc : c
 ·rw [if_pos hc, if_pos (h.1 hc)]
 ·rw [if_neg hc, if_neg (fun hd => hc (h.2 hd))]
theorem kinds {x : Int} (h : 0 ≤ x ∧ x ≤ 255) : x = 0 ∨ x = 1 ∨ x = 2 ∨ x = 3 ∨ x = 4 ∨ x = 5 ∨ x = 6 ∨ x = 7 ∨ x = 8 ∨ x = 9 ∨ x = 10 ∨ 10 < x := by omega
theorem forms_none {x : Int} (h : 10 < x ∧ x ≤ 255) : ∃ f, F_stitch_forms x = some (f, false) := by
 unfold F_stitch_forms
 have hw : IntKind.i64.wrap x = x := w64_of (by omega) (by omega)
 simp only [dF (show ¬ x < 1 by omega), hw, Bool.false_eq_true, if_false, Option.bind_some, List.length_cons, List.length_nil]
 rw [dT (show ((0 + 1 + 1 + 1 + 1 + 1 + 1 + 1 + 1 + 1 + 1 : Nat) : Int) < x by omega)]
 exact ⟨_, rfl⟩
theorem check_none {p : api_Stitch} {f : stitch_form} (h : F_stitch_forms p.Kind = some (f, false)) : F_stitch_Check p = some 8 := by
 unfold F_stitch_Check
 rw [h]
 simp
theorem check_eq (p : api_Stitch) (hk : 0 ≤ p.Kind ∧ p.Kind ≤ 255) : F_stitch_Check p = some (if okS p then 0 else 8) := by
 rcases kinds hk with h | h | h | h | h | h | h | h | h | h | h | h
 ·rw [check_none (f := ⟨⟨#[]⟩, (0, 0), (0, 0), false, 0, 0⟩) (by rw [h]; rfl), if_neg (by unfold okS; omega)]
 ·rw [check_form p _ (by rw [h]; rfl)]; cases hp : p.Purl <;> exact congrArg some (ifc (by simp [okS, h]; omega))
 ·rw [check_form p _ (by rw [h]; rfl)]; cases hp : p.Purl <;> exact congrArg some (ifc (by simp [okS, h, hp] <;> omega))
 ·rw [check_form p _ (by rw [h]; rfl)]; cases hp : p.Purl <;> exact congrArg some (ifc (by simp [okS, h]; omega))
 ·rw [check_form p _ (by rw [h]; rfl)]; cases hp : p.Purl <;> exact congrArg some (ifc (by simp [okS, h]; omega))
 ·rw [check_form p _ (by rw [h]; rfl)]; cases hp : p.Purl <;> exact congrArg some (ifc (by simp [okS, h]; omega))
 ·rw [check_form p _ (by rw [h]; rfl)]; cases hp : p.Purl <;> exact congrArg some (ifc (by simp [okS, h]; omega))
 ·rw [check_form p _ (by rw [h]; rfl)]; cases hp : p.Purl <;> exact congrArg some (ifc (by simp [okS, h]; omega))
 ·rw [check_form p _ (by rw [h]; rfl)]; cases hp : p.Purl <;> exact congrArg some (ifc (by simp [okS, h]; omega))
 ·rw [check_form p _ (by rw [h]; rfl)]; cases hp : p.Purl <;> exact congrArg some (ifc (by simp [okS, h, hp] <;> omega))
 ·rw [check_form p _ (by rw [h]; rfl)]; cases hp : p.Purl <;> exact congrArg some (ifc (by simp [okS, h]; omega))
 ·obtain ⟨f, hf⟩ := forms_none ⟨h, hk.2⟩
  rw [check_none hf, if_neg (by unfold okS; omega)]
theorem rstitch_eq (p : api_Stitch) : F_raddleref25_Check p = some (if okS p then 0 else 8) := by
 have e3 : (if (p.A == 0) = true then some (p.B == 0) else some false) = some (p.A == 0 && p.B == 0) := by cases h : (p.A == 0) <;> simp
 unfold F_raddleref25_Check
 rw [e3, Option.bind_some]
 by_cases k1 : p.Kind = 1
 ·by_cases hA : p.A = 0 <;> by_cases hB : p.B = 0 <;> simp [k1, hA, hB, okS]
 by_cases k8 : p.Kind = 8
 ·by_cases hA : p.A = 0 <;> by_cases hB : p.B = 0 <;> simp [k8, hA, hB, okS]
 by_cases k2 : p.Kind = 2
 ·by_cases hA : p.A = 0 <;> by_cases hB : p.B = 0 <;> cases hp : p.Purl <;> simp [k2, hA, hB, hp, okS]
 by_cases k3 : p.Kind = 3
 ·by_cases h1 : 2 ≤ p.A <;> by_cases h2 : p.A ≤ 4 <;> by_cases hB : p.B = 0 <;> simp [k3, h1, h2, hB, okS]
 by_cases k4 : p.Kind = 4
 ·by_cases h1 : 2 ≤ p.A <;> by_cases h2 : p.A ≤ 4 <;> by_cases hB : p.B = 0 <;> simp [k4, h1, h2, hB, okS]
 by_cases k5 : p.Kind = 5
 ·by_cases h1 : 2 ≤ p.A <;> by_cases h2 : p.A ≤ 4 <;> by_cases hB : p.B = 0 <;> simp [k5, h1, h2, hB, okS]
 by_cases k6 : p.Kind = 6
 ·by_cases h1 : 1 ≤ p.A <;> by_cases h2 : p.A ≤ 6 <;> by_cases h3 : 1 ≤ p.B <;> by_cases h4 : p.B ≤ 6 <;> simp [k6, h1, h2, h3, h4, okS]
 by_cases k7 : p.Kind = 7
 ·by_cases h1 : 1 ≤ p.A <;> by_cases h2 : p.A ≤ 6 <;> by_cases h3 : 1 ≤ p.B <;> by_cases h4 : p.B ≤ 6 <;> simp [k7, h1, h2, h3, h4, okS]
 by_cases k9 : p.Kind = 9
 ·by_cases h1 : 1 ≤ p.A <;> by_cases h2 : p.A ≤ 200 <;> by_cases hB : p.B = 0 <;> cases hp : p.Purl <;> simp [k9, h1, h2, hB, hp, okS]
 by_cases k10 : p.Kind = 10
 ·by_cases h1 : 1 ≤ p.A <;> by_cases h2 : p.A ≤ 200 <;> by_cases hB : p.B = 0 <;> simp [k10, h1, h2, hB, okS]
 have hn : ¬ okS p := by unfold okS; omega
 simp [k1, k2, k3, k4, k5, k6, k7, k8, k9, k10, hn]
theorem form_ok {p : api_Stitch} (h : okS p) : ∃ f, F_stitch_forms p.Kind = some (f, true) ∧ F_stitch_loops p f.uses = some (usedS p) ∧ F_stitch_loops p f.made = some (madeS p) := by
 have hb := okS_bd h
 have hw : w64 (p.A + p.B) = p.A + p.B := w64_of (by omega) (by omega)
 have l0 : F_stitch_loops p 0 = some 0 := rfl
 have l1 : F_stitch_loops p 1 = some 1 := rfl
 have l2 : F_stitch_loops p 2 = some p.A := rfl
 have l3 : F_stitch_loops p 3 = some (p.A + p.B) := by rw [← hw]; rfl
 rcases kinds (x := p.Kind) (by omega) with k | k | k | k | k | k | k | k | k | k | k | k
 ·omega
 ·exact ⟨⟨⟨#[]⟩, (0, 0), (0, 0), true, 1, 1⟩, by rw [k]; rfl, by rw [l1]; simp [usedS, k], by rw [l1]; simp [madeS, k]⟩
 ·exact ⟨⟨⟨#[]⟩, (0, 0), (0, 0), false, 0, 1⟩, by rw [k]; rfl, by rw [l0]; simp [usedS, k], by rw [l1]; simp [madeS, k]⟩
 ·exact ⟨⟨⟨#[102]⟩, (2, 4), (0, 0), true, 2, 1⟩, by rw [k]; rfl, by rw [l2]; simp [usedS, k], by rw [l1]; simp [madeS, k]⟩
 ·exact ⟨⟨⟨#[108]⟩, (2, 4), (0, 0), true, 2, 1⟩, by rw [k]; rfl, by rw [l2]; simp [usedS, k], by rw [l1]; simp [madeS, k]⟩
 ·exact ⟨⟨⟨#[109]⟩, (2, 4), (0, 0), true, 1, 2⟩, by rw [k]; rfl, by rw [l1]; simp [usedS, k], by rw [l2]; simp [madeS, k]⟩
 ·exact ⟨⟨⟨#[120]⟩, (1, 6), (1, 6), true, 3, 3⟩, by rw [k]; rfl, by rw [l3]; simp [usedS, k], by rw [l3]; simp [madeS, k]⟩
 ·exact ⟨⟨⟨#[121]⟩, (1, 6), (1, 6), true, 3, 3⟩, by rw [k]; rfl, by rw [l3]; simp [usedS, k], by rw [l3]; simp [madeS, k]⟩
 ·exact ⟨⟨⟨#[115]⟩, (0, 0), (0, 0), true, 1, 1⟩, by rw [k]; rfl, by rw [l1]; simp [usedS, k], by rw [l1]; simp [madeS, k]⟩
 ·exact ⟨⟨⟨#[]⟩, (1, 200), (0, 0), false, 0, 2⟩, by rw [k]; rfl, by rw [l0]; simp [usedS, k], by rw [l2]; simp [madeS, k]⟩
 ·exact ⟨⟨⟨#[111]⟩, (1, 200), (0, 0), true, 2, 0⟩, by rw [k]; rfl, by rw [l2]; simp [usedS, k], by rw [l0]; simp [madeS, k]⟩
 ·omega
theorem rused_eq {p : api_Stitch} (h : okS p) : F_raddleref25_Used p = some (usedS p) := by
 have hb := okS_bd h
 have hw : w64 (p.A + p.B) = p.A + p.B := w64_of (by omega) (by omega)
 unfold F_raddleref25_Used usedS
 rcases kinds (x := p.Kind) (by omega) with k | k | k | k | k | k | k | k | k | k | k | k <;> first | omega | simp [k, hw]
theorem rgives_eq {p : api_Stitch} (h : okS p) : F_raddleref25_Gives p = some (madeS p) := by
 have hb := okS_bd h
 have hw : w64 (p.A + p.B) = p.A + p.B := w64_of (by omega) (by omega)
 unfold F_raddleref25_Gives madeS
 rcases kinds (x := p.Kind) (by omega) with k | k | k | k | k | k | k | k | k | k | k | k <;> first | omega | simp [k, hw]
def allOk (l : List api_Stitch) : Prop := ∀ p, p ∈ l → okS p
instance (l : List api_Stitch) : Decidable (allOk l) := by unfold allOk; infer_instance
def wfS (p : api_Stitch) : Prop := 0 ≤ p.Kind ∧ p.Kind ≤ 255
theorem used_bd {l : List api_Stitch} (h : allOk l) : 0 ≤ sm usedS l ∧ sm usedS l ≤ 200 * l.length := sm_bd fun _ hx => usedS_bd (h _ hx)
theorem made_bd {l : List api_Stitch} (h : allOk l) : 0 ≤ sm madeS l ∧ sm madeS l ≤ 200 * l.length := sm_bd fun _ hx => madeS_bd (h _ hx)
theorem take_ok {l : List api_Stitch} (h : allOk l) (k : Nat) : allOk (l.take k) := fun _ hx => h _ (List.mem_of_mem_take hx)
theorem sum_step {l : List api_Stitch} (h : allOk l) (hl : l.length ≤ 100000) {k : Nat} (hk : k < l.length) :
 w64 (sm usedS (l.take k) + usedS l[k]) = sm usedS (l.take (k + 1)) ∧ w64 (sm madeS (l.take k) + madeS l[k]) = sm madeS (l.take (k + 1)) := by
 have h1 := used_bd (take_ok h k)
 have h2 := made_bd (take_ok h k)
 have h3 := usedS_bd (h _ (List.getElem_mem hk))
 have h4 := madeS_bd (h _ (List.getElem_mem hk))
 have hlen : (l.take k).length ≤ 100000 := by rw [List.length_take]; omega
 rw [sm_take _ _ hk, sm_take _ _ hk]
 exact ⟨w64_of (by omega) (by omega), w64_of (by omega) (by omega)⟩
theorem sum_eq {l : List api_Stitch} (h : allOk l) (hl : l.length ≤ 100000) : F_stitch_sum l = some (sm usedS l, sm madeS l) := by
 have key : ∃ t, whileO (stitch_sum_l1 l) (0, 0, 0) = some t ∧ t = (sm usedS l, sm madeS l) := by
  refine loop_at (σ := Unit) l.length (fun k _ => (sm usedS (l.take k), sm madeS (l.take k), (k : Int))) (fun _ _ => True) _ (s0 := ()) trivial ?_ ?_
  ·intro k _ hk _
   refine .inl ⟨(), ?_, trivial⟩
   obtain ⟨f, f1, f2, f3⟩ := form_ok (h _ (List.getElem_mem hk))
   have hs := sum_step h hl hk
   unfold stitch_sum_l1
   simp only [dT (show (k : Int) < (l.length : Int) by omega), if_true, idxO_nat hk, Option.bind_some, f1, f2, f3, hs.1, hs.2, w64_succ (show k < 9223372036854775807 by omega)]
  ·intro _ _
   refine ⟨_, ?_, rfl⟩
   unfold stitch_sum_l1
   simp only [dF (show ¬ (l.length : Int) < (l.length : Int) by omega), Bool.false_eq_true, if_false, List.take_length]
 obtain ⟨t, h1, rfl⟩ := key
 unfold F_stitch_sum
 rw [h1]; rfl
theorem rsums_eq {l : List api_Stitch} (h : allOk l) (hl : l.length ≤ 100000) : F_raddleref25_sums l = some (sm usedS l, sm madeS l) := by
 have key : ∃ t, whileO (raddleref25_sums_l1 l) (0, 0, 0) = some t ∧ t = (sm usedS l, sm madeS l) := by
  refine loop_at (σ := Unit) l.length (fun k _ => (sm usedS (l.take k), sm madeS (l.take k), (k : Int))) (fun _ _ => True) _ (s0 := ()) trivial ?_ ?_
  ·intro k _ hk _
   refine .inl ⟨(), ?_, trivial⟩
   have hs := sum_step h hl hk
   unfold raddleref25_sums_l1
   simp only [dT (show (k : Int) < (l.length : Int) by omega), if_true, idxO_nat hk, Option.bind_some, rused_eq (h _ (List.getElem_mem hk)), rgives_eq (h _ (List.getElem_mem hk)), hs.1, hs.2, w64_succ (show k < 9223372036854775807 by omega)]
  ·intro _ _
   refine ⟨_, ?_, rfl⟩
   unfold raddleref25_sums_l1
   simp only [dF (show ¬ (l.length : Int) < (l.length : Int) by omega), Bool.false_eq_true, if_false, List.take_length]
 obtain ⟨t, h1, rfl⟩ := key
 unfold F_raddleref25_sums
 rw [h1]; rfl
def allS (l : List api_Stitch) : Int := if 200 < l.length then 4 else if allOk l then (if 200 < sm usedS l ∨ 200 < sm madeS l then 4 else 0) else 8
theorem allOk_range {l : List api_Stitch} : (List.range l.length).all (fun k => decide (okS (l.getD k ⟨0, false, 0, 0⟩))) = true ↔ allOk l := by
 rw [List.all_eq_true]
 constructor
 ·intro h p hp
  obtain ⟨k, hk, rfl⟩ := List.getElem_of_mem hp
  have := h k (List.mem_range.2 hk)
  simpa [hk] using this
 ·intro h k hk
  have hk := List.mem_range.1 hk
  have := h _ (List.getElem_mem hk)
  simpa [hk] using this
theorem getD_of {α : Type} {l : List α} {k : Nat} (d : α) (h : k < l.length) : l.getD k d = l[k] := by simp [h]
theorem find_bad {l : List api_Stitch} (hw : ∀ p, p ∈ l → wfS p) (hl : l.length ≤ 100000) : ∃ j, F_slices_IndexFunc___api_Stitch_api_Stitch__s0 l = some j ∧ (0 ≤ j ↔ ¬ allOk l) := by
 have key : ∃ t, whileO (slices_IndexFunc___api_Stitch_api_Stitch__s0_l1 l) 0 = some t ∧ ((t = .inr () ∧ allOk l) ∨ (∃ k : Nat, t = .inl (k : Int) ∧ ¬ allOk l)) := by
  refine loop_ix l.length (fun k => allOk (l.take k)) _ (fun p hp => by simp at hp) ?_ ?_
  ·intro k hk hI
   have hc := check_eq l[k] (hw _ (List.getElem_mem hk))
   unfold slices_IndexFunc___api_Stitch_api_Stitch__s0_l1 F_stitch_All_1
   simp only [dT (show (k : Int) < (l.length : Int) by omega), if_true, idxO_nat hk, Option.bind_some, hc, w64_succ (show k < 9223372036854775807 by omega)]
   by_cases ho : okS l[k]
   ·refine .inl ⟨by simp [ho], fun p hp => ?_⟩
    rw [List.take_succ_eq_append_getElem hk, List.mem_append] at hp
    rcases hp with hp | hp
    ·exact hI p hp
    ·simp at hp; subst hp; exact ho
   ·exact .inr ⟨.inl (k : Int), by simp [ho], .inr ⟨k, rfl, fun h => ho (h _ (List.getElem_mem hk))⟩⟩
  ·intro hI
   refine ⟨.inr (), ?_, .inl ⟨rfl, by simpa using hI⟩⟩
   unfold slices_IndexFunc___api_Stitch_api_Stitch__s0_l1
   simp only [dF (show ¬ (l.length : Int) < (l.length : Int) by omega), Bool.false_eq_true, if_false]
 obtain ⟨t, h1, h2⟩ := key
 unfold F_slices_IndexFunc___api_Stitch_api_Stitch__s0
 rw [h1]
 rcases h2 with ⟨rfl, h⟩ | ⟨k, rfl, h⟩
 ·exact ⟨-1, rfl, by simp [h]⟩
 ·exact ⟨(k : Int), rfl, by simp [h]⟩
theorem all_eq {l : List api_Stitch} (hw : ∀ p, p ∈ l → wfS p) : F_stitch_All l = some (allS l) := by
 unfold F_stitch_All allS
 by_cases hl : 200 < l.length
 ·simp only [dT (show (200 : Int) < (l.length : Int) by omega), if_true, if_pos hl]
 simp only [dF (show ¬ (200 : Int) < (l.length : Int) by omega), Bool.false_eq_true, if_false, if_neg hl]
 obtain ⟨j, h1, h2⟩ := find_bad hw (by omega)
 unfold F_slices_ContainsFunc___api_Stitch_api_Stitch__s0
 rw [h1]
 by_cases ho : allOk l
 ·have : ¬ 0 ≤ j := fun h => h2.1 h ho
  simp only [Option.bind_some, dF this, Bool.false_eq_true, if_false, sum_eq ho (show l.length ≤ 100000 by omega), if_pos ho]
  by_cases hm : 200 < sm usedS l ∨ 200 < sm madeS l
  ·rw [dT (show (200 : Int) < if sm usedS l < sm madeS l then sm madeS l else sm usedS l by split <;> omega)]
   simp [hm]
  ·rw [dF (show ¬ (200 : Int) < if sm usedS l < sm madeS l then sm madeS l else sm usedS l by split <;> omega)]
   simp [hm]
 ·have : 0 ≤ j := h2.2 ho
  simp only [Option.bind_some, dT this, if_true, if_neg ho]
theorem rall_eq (l : List api_Stitch) : F_raddleref25_All l = some (allS l) := by
 unfold F_raddleref25_All allS
 by_cases hl : 200 < l.length
 ·simp only [dT (show (200 : Int) < (l.length : Int) by omega), if_true, if_pos hl]
 simp only [dF (show ¬ (200 : Int) < (l.length : Int) by omega), Bool.false_eq_true, if_false, if_neg hl]
 have hloop : whileO (raddleref25_All_l1 l) 0 = some (if (List.range l.length).all (fun k => decide (okS (l.getD k ⟨0, false, 0, 0⟩))) = true then .inr () else .inl 8) := by
  refine loop_all l.length _ _ _ ?_ ?_
  ·intro k hk
   unfold raddleref25_All_l1
   simp only [dT (show (k : Int) < (l.length : Int) by omega), if_true, idxO_nat hk, Option.bind_some, rstitch_eq, w64_succ (show k < 9223372036854775807 by omega), getD_of _ hk]
   by_cases ho : okS l[k] <;> simp [ho]
  ·unfold raddleref25_All_l1
   simp only [dF (show ¬ (l.length : Int) < (l.length : Int) by omega), Bool.false_eq_true, if_false]
 rw [hloop]
 by_cases ho : allOk l
 ·rw [if_pos (allOk_range.2 ho), if_pos ho]
  simp only [Option.bind_some, rsums_eq ho (show l.length ≤ 100000 by omega)]
  by_cases hu : 200 < sm usedS l
  ·simp [hu]
  ·by_cases hm : 200 < sm madeS l <;> simp [hu, hm]
 ·rw [if_neg (fun h => ho (allOk_range.1 h)), if_neg ho]
  rfl
theorem allS_ok {l : List api_Stitch} (h : allS l = 0) : l.length ≤ 200 ∧ allOk l ∧ sm usedS l ≤ 200 ∧ sm madeS l ≤ 200 := by
 unfold allS at h
 split at h
 ·omega
 ·split at h
  ·rename_i h1 h2
   split at h
   ·omega
   ·rename_i h3
    exact ⟨by omega, h2, by omega, by omega⟩
  ·omega
def fin3 {σ τ : Type} (z0 : (σ ⊕ τ) ⊕ σ) : Option (σ ⊕ τ) := match z0 with
 | .inl z => some z
 | .inr g => some (.inl g)
noncomputable def F_raddleref25_Other (p0 : api_Stitch) : Option api_Stitch :=
 Option.bind (α := Bool) (
  Option.bind (α := Bool) (
   if p0.Kind != 2 then
    some (p0.Kind != 9)
   else
    some false) fun o7 =>
  if o7 then
   some (!p0.Purl)
  else
   some p0.Purl) fun o4 =>
 Option.bind (α := (Int × Int)) (
  Option.bind (α := Bool) (
   if p0.Kind == 6 then
    some true
   else
    some (p0.Kind == 7)) fun a0 =>
  if a0 then
   some (p0.B, p0.A)
  else
   some (p0.A, p0.B)) fun (a8, a9) =>
 some (api_Stitch.mk p0.Kind o4 a8 a9)
def c_raddleref25_Other_val (r : api_Stitch) (x : Value) : Value := x
def c_raddleref25_Other_D (r : api_Stitch) (x : Value) : List Fact := [fRep r_api_Stitch x r]
theorem c_raddleref25_Other (E : Nat → Prop) (w0 : World) (p0 : api_Stitch) (v0 : Value) (r : api_Stitch) (h : F_raddleref25_Other p0 = some r) (S : St0 E [] w0 w0 [] [fRep r_api_Stitch (v0) p0]) :
 Calls Try.prog 51 #[v0] w0 (Ret (X := Value) E [] w0 (c_raddleref25_Other_val r) (fun _ => []) (c_raddleref25_Other_D r)) := by
 unfold F_raddleref25_Other at h
 obtain rfl : v0 = .agg #[.int .u8 p0.Kind, .bool p0.Purl, iv p0.A, iv p0.B] := S.know (i := 0) (e := fRep r_api_Stitch (v0) p0) rfl
 refine sEnter (args := [.agg #[.int .u8 p0.Kind, .bool p0.Purl, iv p0.A, iv p0.B]]) 30 Try.func51 rfl rfl (by simp) S (fun a S => ?_)
 refine sSeq (fun K1 ag => sRegion (sBox (v := .agg #[.int .u8 p0.Kind, .bool p0.Purl, iv p0.A, iv p0.B]) S (wN rfl) rfl rfl [.int .u8 p0.Kind, .bool p0.Purl, iv p0.A, iv p0.B] rfl rfl (lb rfl) fun a b2 w S => ?_))
 refine sAlloc (.agg #[.int .u8 0, .bool false, iv 0, iv 0]) S (wN rfl) rfl rfl [.int .u8 0, .bool false, iv 0, iv 0] rfl rfl (lb rfl) fun a b3 w S => ?_
 refine lT (ag _ _ ?_)
 obtain ⟨t5, h, g6⟩ := bS h
 refine sCut (fun a w => ∃ o4, o4 = t5 ∧ St [] E [] w0 30 a w [(1, .pointer (some ⟨b2, 0, none⟩)), (2, .pointer (some ⟨b3, 0, none⟩))] [eBox b2 61 [.int .u8 p0.Kind, .bool o4, iv p0.A, iv p0.B], eBox b3 61 [.int .u8 0, .bool false, iv 0, iv 0]] []) ?_ (fun a w hI => ?_)
 ·obtain ⟨t8, h, g9⟩ := bS h
  refine sCut (fun a w => ∃ o7, o7 = t8 ∧ St [] E [] w0 30 a w [(1, .pointer (some ⟨b2, 0, none⟩)), (2, .pointer (some ⟨b3, 0, none⟩)), (10, .bool o7)] [eBox b2 61 [.int .u8 p0.Kind, .bool p0.Purl, iv p0.A, iv p0.B], eBox b3 61 [.int .u8 0, .bool false, iv 0, iv 0]] []) ?_ (fun a w hI => ?_)
  rotate_left
  ·obtain ⟨o7, rfl, S⟩ := hI
   have h := g9
   try dsimp only at h
   rcases iS h with ⟨ab, h⟩ | ⟨ab, h⟩
   rotate_left
   ·refine sCondF S rfl ab ?_
    exact wp_skip (leafT (⟨p0.Purl, Option.some.inj h, S.fix [0, 1] [] (by decide) rfl rfl rfl⟩))
   refine sCondT S rfl ab ?_
   refine sRegion (sField (b := b2) (off := 0) 1 1 S (wN rfl) rfl rfl rfl rfl rfl (lb rfl) fun a S => ?_)
   refine sLoad1 0 (.bool p0.Purl) S (wN rfl) rfl rfl rfl rfl rfl rfl (lb rfl) fun a S => ?_
   refine sNot (b := p0.Purl) S (wN rfl) rfl rfl rfl (lb rfl) fun a S => ?_
   refine sField (b := b2) (off := 0) 1 1 S (wN rfl) rfl rfl rfl rfl rfl (lb rfl) fun a S => ?_
   refine sStore (p := b2) (off := 1) (T := 61) (vs := [.int .u8 p0.Kind, .bool p0.Purl, iv p0.A, iv p0.B]) (v := .bool (!p0.Purl)) 0 [.bool (!p0.Purl)] S (wN rfl) rfl rfl rfl rfl rfl rfl rfl (by simp) rfl fun a w S => ?_
   exact lT (⟨!p0.Purl, Option.some.inj h, S.fix [0, 1] [] (by decide) rfl rfl rfl⟩)
  refine sRegion (sField (b := b2) (off := 0) 0 0 S (wN rfl) rfl rfl rfl rfl rfl (lb rfl) fun a S => ?_)
  refine sLoad1 1 (.int .u8 p0.Kind) S (wN rfl) rfl rfl rfl rfl rfl rfl (lb rfl) fun a S => ?_
  refine sBin _ S (wN rfl) rfl rfl rfl (bNe _ _ _ _ .u8 p0.Kind 2) rfl (lb rfl) fun a S => ?_
  refine sM S fun a S => ?_
  rcases iS h with ⟨a0, h⟩ | ⟨a0, h⟩
  rotate_left
  ·refine sSkN 3 3 true 6 S rfl rfl a0 rfl fun a S => ?_
   refine sPickF (.bool false) S (wN rfl) rfl rfl a0 rfl rfl (lb rfl) fun a S => ?_
   exact lT (⟨false, Option.some.inj h, S.fix [1, 0] [] (by decide) rfl rfl rfl⟩)
  refine sField (b := b2) (off := 0) 0 0 S (wG 3 true 6 rfl rfl rfl a0) rfl rfl rfl rfl rfl (lb rfl) fun a S => ?_
  refine sLoad1 1 (.int .u8 p0.Kind) S (wG 3 true 6 rfl rfl rfl a0) rfl rfl rfl rfl rfl rfl (lb rfl) fun a S => ?_
  refine sBin _ S (wG 3 true 6 rfl rfl rfl a0) rfl rfl rfl (bNe _ _ _ _ .u8 p0.Kind 9) rfl (lb rfl) fun a S => ?_
  refine sPickT (.bool (p0.Kind != 9)) S (wN rfl) rfl rfl a0 rfl rfl (lb rfl) fun a S => ?_
  exact lT (⟨p0.Kind != 9, Option.some.inj h, S.fix [1, 0] [] (by decide) rfl rfl rfl⟩)
 obtain ⟨o4, rfl, S⟩ := hI
 have h := g6
 try dsimp only at h
 obtain ⟨ah, h, ai⟩ := bS h
 refine sCut (fun a w => ∃ a9, ∃ aa, (a9, aa) = ah ∧ St [] E [] w0 30 a w [(1, .pointer (some ⟨b2, 0, none⟩)), (2, .pointer (some ⟨b3, 0, none⟩))] [eBox b2 61 [.int .u8 p0.Kind, .bool o4, iv a9, iv aa], eBox b3 61 [.int .u8 0, .bool false, iv 0, iv 0]] []) ?_ (fun a w hI => ?_)
 rotate_left
 ·obtain ⟨a9, aa, rfl, S⟩ := hI
  have h := ai
  try dsimp only at h
  refine sSeq (fun al ae => sRegion (sLoadN (p := b2) (off := 0) (T := 61) (vs := [.int .u8 p0.Kind, .bool o4, iv a9, iv aa]) 0 [.int .u8 p0.Kind, .bool o4, iv a9, iv aa] S (wN rfl) rfl rfl rfl rfl rfl rfl rfl (lb rfl) fun a S => ?_))
  refine sStore (p := b3) (off := 0) (T := 61) (vs := [.int .u8 0, .bool false, iv 0, iv 0]) (v := .agg #[.int .u8 p0.Kind, .bool o4, iv a9, iv aa]) 1 [.int .u8 p0.Kind, .bool o4, iv a9, iv aa] S (wN rfl) rfl rfl rfl rfl rfl rfl rfl (by simp) rfl fun a w S => ?_
  refine lT (ae _ _ ?_)
  obtain rfl := tS h
  have S := S.learn (fRep r_api_Stitch (.agg #[.int .u8 p0.Kind, .bool o4, iv a9, iv aa]) (api_Stitch.mk p0.Kind o4 a9 aa)) rfl
  exact wp_ret (sRet (.agg #[.int .u8 p0.Kind, .bool o4, iv a9, iv aa]) S (rsl1 rfl (rvN (c := 2) (t := 61) (T := 61) (p := b3) 0 [.int .u8 p0.Kind, .bool o4, iv a9, iv aa] S rfl rfl rfl rfl)) ⟨(.agg #[.int .u8 p0.Kind, .bool o4, iv a9, iv aa]), rfl, S.mem.sel [] [0] (by decide) rfl rfl⟩)
 obtain ⟨aj, h, ak⟩ := bS h
 refine sCut (fun a w => ∃ af, af = aj ∧ St [] E [] w0 30 a w [(1, .pointer (some ⟨b2, 0, none⟩)), (2, .pointer (some ⟨b3, 0, none⟩)), (22, .bool af)] [eBox b2 61 [.int .u8 p0.Kind, .bool o4, iv p0.A, iv p0.B], eBox b3 61 [.int .u8 0, .bool false, iv 0, iv 0]] []) ?_ (fun a w hI => ?_)
 rotate_left
 ·obtain ⟨af, rfl, S⟩ := hI
  have h := ak
  try dsimp only at h
  rcases iS h with ⟨ac, h⟩ | ⟨ac, h⟩
  rotate_left
  ·refine sCondF S rfl ac ?_
   exact wp_skip (leafT (⟨p0.A, p0.B, Option.some.inj h, S.fix [0, 1] [] (by decide) rfl rfl rfl⟩))
  refine sCondT S rfl ac ?_
  refine sRegion (sField (b := b2) (off := 0) 3 3 S (wN rfl) rfl rfl rfl rfl rfl (lb rfl) fun a S => ?_)
  refine sLoad1 0 (iv p0.B) S (wN rfl) rfl rfl rfl rfl rfl rfl (lb rfl) fun a S => ?_
  refine sField (b := b2) (off := 0) 2 2 S (wN rfl) rfl rfl rfl rfl rfl (lb rfl) fun a S => ?_
  refine sLoad1 0 (iv p0.A) S (wN rfl) rfl rfl rfl rfl rfl rfl (lb rfl) fun a S => ?_
  refine sField (b := b2) (off := 0) 2 2 S (wN rfl) rfl rfl rfl rfl rfl (lb rfl) fun a S => ?_
  refine sStore (p := b2) (off := 2) (T := 61) (vs := [.int .u8 p0.Kind, .bool o4, iv p0.A, iv p0.B]) (v := iv p0.B) 0 [iv p0.B] S (wN rfl) rfl rfl rfl rfl rfl rfl rfl (by simp) rfl fun a w S => ?_
  refine sField (b := b2) (off := 0) 3 3 S (wN rfl) rfl rfl rfl rfl rfl (lb rfl) fun a S => ?_
  refine sStore (p := b2) (off := 3) (T := 61) (vs := [.int .u8 p0.Kind, .bool o4, iv p0.B, iv p0.B]) (v := iv p0.A) 0 [iv p0.A] S (wN rfl) rfl rfl rfl rfl rfl rfl rfl (by simp) rfl fun a w S => ?_
  exact lT (⟨p0.B, p0.A, Option.some.inj h, S.fix [0, 1] [] (by decide) rfl rfl rfl⟩)
 refine sRegion (sField (b := b2) (off := 0) 0 0 S (wN rfl) rfl rfl rfl rfl rfl (lb rfl) fun a S => ?_)
 refine sLoad1 0 (.int .u8 p0.Kind) S (wN rfl) rfl rfl rfl rfl rfl rfl (lb rfl) fun a S => ?_
 refine sBin _ S (wN rfl) rfl rfl rfl (bEq _ _ _ _ .u8 p0.Kind 6) rfl (lb rfl) fun a S => ?_
 refine sM S fun a S => ?_
 rcases iS h with ⟨a8, h⟩ | ⟨a8, h⟩
 ·refine sSkN 3 3 false 18 S rfl rfl a8 rfl fun a S => ?_
  refine sPickT (.bool true) S (wN rfl) rfl rfl a8 rfl rfl (lb rfl) fun a S => ?_
  exact lT (⟨true, Option.some.inj h, S.fix [0, 1] [] (by decide) rfl rfl rfl⟩)
 refine sField (b := b2) (off := 0) 0 0 S (wG 3 false 18 rfl rfl rfl a8) rfl rfl rfl rfl rfl (lb rfl) fun a S => ?_
 refine sLoad1 0 (.int .u8 p0.Kind) S (wG 3 false 18 rfl rfl rfl a8) rfl rfl rfl rfl rfl rfl (lb rfl) fun a S => ?_
 refine sBin _ S (wG 3 false 18 rfl rfl rfl a8) rfl rfl rfl (bEq _ _ _ _ .u8 p0.Kind 7) rfl (lb rfl) fun a S => ?_
 refine sPickF (.bool (p0.Kind == 7)) S (wN rfl) rfl rfl a8 rfl rfl (lb rfl) fun a S => ?_
 exact lT (⟨p0.Kind == 7, Option.some.inj h, S.fix [0, 1] [] (by decide) rfl rfl rfl⟩)
noncomputable def raddleref25_Turned_l1 (p0 : (List api_Stitch)) : (List api_Stitch × Int) → Option ((List api_Stitch × Int) ⊕ List api_Stitch) := fun s0 => match s0 with
 | (a8, a0) =>
  if decide (0 ≤ a0) then
   (idxO p0 a0).bind fun a9 =>
   (F_raddleref25_Other a9).bind fun aa =>
   (appO a8 [aa]).bind fun ab =>
   some (.inl (ab, w64 (a0 - 1)))
  else
   some (.inr a8)
noncomputable def F_raddleref25_Turned (p0 : (List api_Stitch)) : Option (List api_Stitch) :=
 Option.bind (α := List api_Stitch) (
  (whileO (raddleref25_Turned_l1 p0) (([] : List api_Stitch), w64 ((p0.length : Int) - 1))).bind fun a0 =>
   some a0) fun o5 =>
 some o5
def c_raddleref25_Turned_val (r : (List api_Stitch)) (x : Value) : Value := x
def c_raddleref25_Turned_D (r : (List api_Stitch)) (x : Value) : List Fact := [fRep (rL r_api_Stitch) x r]
theorem c_raddleref25_Turned (E : Nat → Prop) (w0 : World) (p0 : (List api_Stitch)) (v0 : Value) (r : (List api_Stitch)) (h : F_raddleref25_Turned p0 = some r) (S : St0 E [] w0 w0 [] [fRep (rL r_api_Stitch) (v0) p0]) :
 Calls Try.prog 41 #[v0] w0 (Ret (X := Value) E [] w0 (c_raddleref25_Turned_val r) (fun _ => []) (c_raddleref25_Turned_D r)) := by
 unfold F_raddleref25_Turned at h
 obtain ⟨ah, ai, _, rfl, _⟩ := S.know (i := 0) (e := fRep (rL r_api_Stitch) (v0) p0) rfl
 refine sEnter (args := [.slice ah p0.length ai]) 21 Try.func41 rfl rfl (by simp) S (fun a S => ?_)
 refine sSeq (fun K3 aH => sRegion (sN S fun a S => ?_))
 refine lT (aH _ _ (sSeq (fun K4 aI => sRegion (sN S fun a S => ?_))))
 refine lT (aI _ _ ?_)
 obtain ⟨t8, h, g9⟩ := bS h
 refine sCut (fun a w => ∃ o5, o5 = t8 ∧ ∃ ac, ∃ ae, St [] E [] w0 21 a w [(3, .slice ac o5.length ae)] [eRow r_api_Stitch 61 (.slice ac o5.length ae) o5] []) ?_ (fun a w hI => ?_)
 rotate_left
 ·obtain ⟨o5, rfl, ac, ae, S⟩ := hI
  have h := g9
  try dsimp only at h
  refine sSeq (fun aL aj => sRegion (sM S fun a S => ?_))
  refine sN S fun a S => ?_
  refine lT (aj _ _ ?_)
  obtain rfl := tS h
  have S := S.shutR (r := r_api_Stitch) (T := 61) (v := .slice ac o5.length ae) (xs := o5) 0 rfl
  exact wp_ret (sRet (.slice ac o5.length ae) S (rsl1 rfl (rvT (t := 2) (v := .slice ac o5.length ae) S rfl)) ⟨(.slice ac o5.length ae), rfl, S.mem.sel [] [0] (by decide) rfl rfl⟩)
 refine sSeq (fun aM ak => sRegion (sM S fun a S => ?_))
 refine sLen S (wN rfl) rfl Try.underlying62 rfl rfl (lb rfl) fun a S => ?_
 refine sBin _ S (wN rfl) rfl rfl rfl (bSub _ _ _ _ (p0.length : Int) 1) rfl (lb rfl) fun a S => ?_
 refine sN S fun a S => ?_
 refine lT (ak _ _ (wp_block ?_))
 have S := S.nilRow r_api_Stitch 61 (α := api_Stitch)
 obtain ⟨aO, hl, aJ⟩ := bS h
 refine sLoop hl (fun s0 a w => match s0 with | (ab, ag) => ∃ a9, ∃ aa, St [] E [] w0 21 a w [(0, .slice ah p0.length ai), (3, .slice a9 ab.length aa), (4, iv ag)] [eRow r_api_Stitch 61 (.slice a9 ab.length aa) ab] [fRep (rL r_api_Stitch) (.slice ah p0.length ai) p0]) ⟨none, 0, S.fix [0] [0] (by decide) rfl rfl rfl⟩ ?_
 clear hl h
 intro s0 a w c0 hI h al
 obtain ⟨ab, ag⟩ := s0
 unfold raddleref25_Turned_l1 at h
 dsimp only at h hI
 obtain ⟨a9, aa, S⟩ := hI
 refine sSeq (fun aP am => sSeq (fun aQ ao => sRegion (sM S fun a S => ?_)))
 refine sBin _ S (wN rfl) rfl rfl rfl (bGe _ _ _ _ .i64 ag 0) rfl (lb rfl) fun a S => ?_
 refine lT (ao _ _ ?_)
 rcases iS h with ⟨af, h⟩ | ⟨af, h⟩
 rotate_left
 ·refine sCondF S rfl af ?_
  obtain rfl := tS h
  obtain rfl := al _ rfl
  have h := aJ
  try dsimp only at h
  exact wp_exit (xThen (xThen (xHit (leafT (⟨ab, Option.some.inj h, a9, aa, S.fix [0] [] (by decide) rfl rfl rfl⟩)))))
 refine sCondT S rfl af ?_
 refine wp_skip (leafT (am _ _ ?_))
 refine sSeq (fun aR ap => wp_block ?_)
 refine sRegion (sM S fun a S => ?_)
 refine sM S fun a S => ?_
 refine sM S fun a S => ?_
 obtain ⟨a8, aq, h⟩ := bS h
 obtain ⟨aA, ar, S⟩ := pIdx (P := Try.prog) (r := r_api_Stitch) (v := .slice ah p0.length ai) (xs := p0) (j := ag) 62 61 0 S Try.underlying62 rfl rfl aq
 refine sIdxV S (wN rfl) rfl rfl rfl ar rfl (lb rfl) fun a S => ?_
 obtain ⟨aC, S⟩ := pLoad (r := r_api_Stitch) (q := aA) (x := a8) 0 S rfl
 obtain rfl : aC = .agg #[.int .u8 a8.Kind, .bool a8.Purl, iv a8.A, iv a8.B] := S.mem.know (i := 1) (e := fRep r_api_Stitch (aC) a8) rfl
 refine sLoadVN (vq := aA) 0 [.int .u8 a8.Kind, .bool a8.Purl, iv a8.A, iv a8.B] S (wN rfl) rfl rfl rfl rfl rfl rfl (lb rfl) fun a S => ?_
 obtain ⟨a0, au, h⟩ := bS h
 refine sCall (X := Value) (f := 51) (vs := [.agg #[.int .u8 a8.Kind, .bool a8.Purl, iv a8.A, iv a8.B]]) (val := c_raddleref25_Other_val a0) (B' := fun _ => []) (D' := c_raddleref25_Other_D a0) [] [eRow r_api_Stitch 61 (.slice a9 ab.length aa) ab] [fRep r_api_Stitch (.agg #[.int .u8 a8.Kind, .bool a8.Purl, iv a8.A, iv a8.B]) a8] [0] [1] S (wN rfl) rfl callee51 rfl (by decide) rfl rfl (fun E1 w1 S1 => c_raddleref25_Other E1 w1 a8 (.agg #[.int .u8 a8.Kind, .bool a8.Purl, iv a8.A, iv a8.B]) a0 au S1) rfl (lb rfl) fun aG a w S => ?_
 obtain rfl : aG = .agg #[.int .u8 a0.Kind, .bool a0.Purl, iv a0.A, iv a0.B] := S.mem.know (i := 0) (e := fRep r_api_Stitch (aG) a0) rfl
 refine sLit (r := r_api_Stitch) (T := 61) (xs := [a0]) [(0, .agg #[.int .u8 a0.Kind, .bool a0.Purl, iv a0.A, iv a0.B])] 1 [.agg #[.int .u8 a0.Kind, .bool a0.Purl, iv a0.A, iv a0.B]] [.int .u8 a0.Kind, .bool a0.Purl, iv a0.A, iv a0.B] (.agg #[.int .u8 0, .bool false, iv 0, iv 0]) 24 S (wN rfl) rfl rfl Try.underlying62 rfl (by decide) (by decide) (by kernel_rfl) rfl (fun E1 w1 hE => All.cons (r_api_Stitch.mono hE (S.mem.know (i := 0) (e := fRep r_api_Stitch (.agg #[.int .u8 a0.Kind, .bool a0.Purl, iv a0.A, iv a0.B]) a0) rfl)) (All.nil _ _ _)) rfl rfl (lb rfl) fun a w av aw S => ?_
 obtain ⟨aK, ax, h⟩ := bS h
 refine sApp (r := r_api_Stitch) (T := 61) (xs := ab) (ys := [a0]) (v := .slice a9 ab.length aa) (u := .slice av [a0].length aw) 1 (.agg #[.int .u8 0, .bool false, iv 0, iv 0]) 24 S (wN rfl) rfl Try.underlying62 rfl rfl (by decide) rfl rfl rfl (src_R (T := 61) 0 S.mem rfl) ax rfl (lb rfl) fun a w ay az S => ?_
 refine sN S fun a S => ?_
 refine leafL (leafB (leafT (ap _ _ ?_)))
 refine sRegion (sM S fun a S => ?_)
 refine sBin _ S (wN rfl) rfl rfl rfl (bSub _ _ _ _ ag 1) rfl (lb rfl) fun a S => ?_
 refine sN S fun a S => ?_
 exact lT (⟨(aK, w64 (ag - 1)), (Option.some.inj h).symm, ⟨ay, az, S.fix [0] [4] (by decide) rfl rfl rfl⟩⟩)
theorem take_one {α : Type} (l : List α) {k : Nat} (hk : k < l.length) : l.take (k + 1) = l.take k ++ [l[k]] := by
 rw [List.take_add_one, List.getElem?_eq_getElem hk]; rfl
def othS (p : api_Stitch) : api_Stitch := ⟨p.Kind, if p.Kind = 2 ∨ p.Kind = 9 then p.Purl else !p.Purl, if p.Kind = 6 ∨ p.Kind = 7 then p.B else p.A, if p.Kind = 6 ∨ p.Kind = 7 then p.A else p.B⟩
theorem purl_no {p : api_Stitch} (h : okS p) (k : p.Kind = 2 ∨ p.Kind = 9) : p.Purl = false := by
 rcases h with h | h | h | h | h | h
 ·omega
 ·exact h.2.2.2
 ·omega
 ·omega
 ·exact h.2.2.2.2
 ·omega
theorem turn_form {p : api_Stitch} (h : okS p) : ∃ f, F_stitch_forms p.Kind = some (f, true) ∧ (if f.sided = true then some (!p.Purl) else some false) = some (othS p).Purl ∧ (if decide (0 < f.b.2) = true then some (p.B, p.A) else some (p.A, p.B)) = some ((othS p).A, (othS p).B) := by
 have hb := okS_bd h
 unfold othS
 rcases kinds (x := p.Kind) (by omega) with k | k | k | k | k | k | k | k | k | k | k | k
 ·omega
 ·exact ⟨⟨⟨#[]⟩, (0, 0), (0, 0), true, 1, 1⟩, by rw [k]; rfl, by simp [k], by simp [k]⟩
 ·exact ⟨⟨⟨#[]⟩, (0, 0), (0, 0), false, 0, 1⟩, by rw [k]; rfl, by simp [k, purl_no h (.inl k)], by simp [k]⟩
 ·exact ⟨⟨⟨#[102]⟩, (2, 4), (0, 0), true, 2, 1⟩, by rw [k]; rfl, by simp [k], by simp [k]⟩
 ·exact ⟨⟨⟨#[108]⟩, (2, 4), (0, 0), true, 2, 1⟩, by rw [k]; rfl, by simp [k], by simp [k]⟩
 ·exact ⟨⟨⟨#[109]⟩, (2, 4), (0, 0), true, 1, 2⟩, by rw [k]; rfl, by simp [k], by simp [k]⟩
 ·exact ⟨⟨⟨#[120]⟩, (1, 6), (1, 6), true, 3, 3⟩, by rw [k]; rfl, by simp [k], by simp [k]⟩
 ·exact ⟨⟨⟨#[121]⟩, (1, 6), (1, 6), true, 3, 3⟩, by rw [k]; rfl, by simp [k], by simp [k]⟩
 ·exact ⟨⟨⟨#[115]⟩, (0, 0), (0, 0), true, 1, 1⟩, by rw [k]; rfl, by simp [k], by simp [k]⟩
 ·exact ⟨⟨⟨#[]⟩, (1, 200), (0, 0), false, 0, 2⟩, by rw [k]; rfl, by simp [k, purl_no h (.inr k)], by simp [k]⟩
 ·exact ⟨⟨⟨#[111]⟩, (1, 200), (0, 0), true, 2, 0⟩, by rw [k]; rfl, by simp [k], by simp [k]⟩
 ·omega
theorem turn_step {p : api_Stitch} (h : okS p) (s : List api_Stitch) (hs : s.length ≤ 1000000000) (i : Int) : stitch_Turn_l2 s (i, p) = some (.inl (s ++ [othS p])) := by
 obtain ⟨f, f1, f2, f3⟩ := turn_form h
 unfold stitch_Turn_l2
 simp only [f1, Option.bind_some, f2, f3]
 rw [appO_of (by simp; omega)]
 rfl
def bkw {α : Type} (l : List α) : Nat → List (Int × α)
 | 0 => []
 | k + 1 => match l[k]? with
  | some x => ((k : Int), x) :: bkw l k
  | none => bkw l k
theorem bkw_fold {α β τ : Type} {B : List β → (Int × α) → Option (List β ⊕ τ)} (l : List α) (g : α → β) (m : Nat) (hB : ∀ s x i, x ∈ l → s.length ≤ m → B s (i, x) = some (.inl (s ++ [g x]))) : ∀ (k : Nat) (s : List β), k ≤ l.length → s.length + k ≤ m → foldO B s (bkw l k) = some (.inl (s ++ ((l.take k).map g).reverse)) := by
 intro k
 induction k with
 | zero => intro s _ _; simp [bkw, foldO]
 | succ k ih =>
  intro s hk hs
  have hx : l[k]? = some (l[k]'(by omega)) := List.getElem?_eq_getElem (by omega)
  simp only [bkw, hx, foldO]
  rw [hB s _ _ (List.getElem_mem _) (by omega)]
  simp only [Option.bind_some]
  rw [ih _ (by omega) (by simp; omega), take_one l (by omega), List.map_append, List.reverse_append, List.append_assoc]
  rfl
theorem back_loop {σ τ : Type} (l : List api_Stitch) (hl : l.length ≤ 1000000000) (B : σ → (Int × api_Stitch) → Option (σ ⊕ τ)) : ∀ (k : Nat) (z : σ), k ≤ l.length → (whileO (slices_Backward___api_Stitch_api_Stitch__1_l1 l B) ((k : Int) - 1, z)).bind fin3 = foldO B z (bkw l k) := by
 intro k
 induction k with
 | zero =>
  intro z _
  have : slices_Backward___api_Stitch_api_Stitch__1_l1 l B (((0 : Nat) : Int) - 1, z) = some (.inr (.inr z)) := by
   unfold slices_Backward___api_Stitch_api_Stitch__1_l1
   simp only [dF (show ¬ (0 : Int) ≤ ((0 : Nat) : Int) - 1 by omega), Bool.false_eq_true, if_false]
  rw [whileO_done this]
  rfl
 | succ k ih =>
  intro z hk
  have e : ((k + 1 : Nat) : Int) - 1 = (k : Int) := by omega
  have hx : l[k]? = some (l[k]'(by omega)) := List.getElem?_eq_getElem (by omega)
  have e1 : slices_Backward___api_Stitch_api_Stitch__1_l1 l B ((k : Int), z) = (B z ((k : Int), l[k]'(by omega))).bind fun y => match y with | .inl z' => some (.inl ((k : Int) - 1, z')) | .inr t => some (.inr (.inl (.inr t))) := by
   unfold slices_Backward___api_Stitch_api_Stitch__1_l1
   simp only [dT (show (0 : Int) ≤ (k : Int) by omega), if_true, idxO_nat (show k < l.length by omega), Option.bind_some, w64_of (show (-9223372036854775808 : Int) ≤ (k : Int) - 1 by omega) (by omega)]
   try congr 1
  simp only [bkw, hx]
  rw [e, whileO_eq, e1, foldO]
  cases hb : B z ((k : Int), l[k]'(by omega)) with
  | none => rfl
  | some y =>
   cases y with
   | inl z' => exact ih z' (by omega)
   | inr t => rfl
theorem backI_eq {σ τ : Type} (l : List api_Stitch) (hl : l.length ≤ 1000000000) (B : σ → (Int × api_Stitch) → Option (σ ⊕ τ)) (z : σ) : I_slices_Backward___api_Stitch_api_Stitch__1 l σ τ B z = foldO B z (bkw l l.length) := by
 rw [← back_loop l hl B l.length z (Nat.le_refl _)]
 unfold I_slices_Backward___api_Stitch_api_Stitch__1
 rw [w64_of (show (-9223372036854775808 : Int) ≤ (l.length : Int) - 1 by omega) (by omega)]
 try congr 1
theorem turn_eq {l : List api_Stitch} (hw : ∀ p, p ∈ l → wfS p) : F_stitch_Turn l = some (if allS l = 0 then ((l.map othS).reverse, 0) else ([], allS l)) := by
 unfold F_stitch_Turn F_slices_Backward___api_Stitch_api_Stitch_
 rw [all_eq hw]
 by_cases h : allS l = 0
 case neg => simp only [Option.bind_some, nT h, if_true, if_neg h]
 have hk := allS_ok h
 simp only [Option.bind_some, nF h, Bool.false_eq_true, if_false, capO_of (n := (l.length : Int)) (k := l.length) rfl (by omega), if_pos h]
 rw [backI_eq l (by omega), bkw_fold l othS 1000000000 (fun s x i hx hs => turn_step (hk.2.1 x hx) s hs i) l.length [] (Nat.le_refl _) (by simp; omega), List.take_length]
 rfl
theorem rother_eq (p : api_Stitch) : F_raddleref25_Other p = some (othS p) := by
 unfold F_raddleref25_Other othS
 by_cases k2 : p.Kind = 2
 ·simp [k2]
 by_cases k9 : p.Kind = 9
 ·simp [k9]
 by_cases k6 : p.Kind = 6
 ·simp [k6]
 by_cases k7 : p.Kind = 7
 ·simp [k7]
 simp [k2, k9, k6, k7]
theorem rturned_eq {l : List api_Stitch} (hl : l.length ≤ 1000000000) : F_raddleref25_Turned l = some ((l.map othS).reverse) := by
 have key : ∀ (k : Nat) (s : List api_Stitch), k ≤ l.length → s.length + k ≤ 1000000000 → whileO (raddleref25_Turned_l1 l) (s, (k : Int) - 1) = some (s ++ ((l.take k).map othS).reverse) := by
  intro k
  induction k with
  | zero =>
   intro s _ _
   have : raddleref25_Turned_l1 l (s, ((0 : Nat) : Int) - 1) = some (.inr s) := by
    unfold raddleref25_Turned_l1
    simp only [dF (show ¬ (0 : Int) ≤ ((0 : Nat) : Int) - 1 by omega), Bool.false_eq_true, if_false]
   rw [whileO_done this]
   simp
  | succ k ih =>
   intro s hk hs
   have hx : l[k]? = some (l[k]'(by omega)) := List.getElem?_eq_getElem (by omega)
   have e : ((k + 1 : Nat) : Int) - 1 = (k : Int) := by omega
   have e1 : raddleref25_Turned_l1 l (s, (k : Int)) = some (.inl (s ++ [othS (l[k]'(by omega))], (k : Int) - 1)) := by
    unfold raddleref25_Turned_l1
    simp only [dT (show (0 : Int) ≤ (k : Int) by omega), if_true, idxO_nat (show k < l.length by omega), Option.bind_some, rother_eq, appO_of (show s.length + [othS (l[k]'(by omega))].length ≤ 68719476736 by simp; omega), w64_of (show (-9223372036854775808 : Int) ≤ (k : Int) - 1 by omega) (by omega)]
   rw [e, whileO_step e1, ih _ (by omega) (by simp; omega), take_one l (by omega), List.map_append, List.reverse_append, List.append_assoc]
   rfl
 have h0 := key l.length [] (Nat.le_refl _) (by simp; omega)
 unfold F_raddleref25_Turned
 rw [w64_of (show (-9223372036854775808 : Int) ≤ (l.length : Int) - 1 by omega) (by omega), h0, List.take_length]
 rfl
theorem oth_ok {p : api_Stitch} (h : okS p) : okS (othS p) ∧ usedS (othS p) = usedS p ∧ madeS (othS p) = madeS p := by
 have hb := okS_bd h
 have hk : (othS p).Kind = p.Kind := rfl
 rcases kinds (x := p.Kind) (by omega) with k | k | k | k | k | k | k | k | k | k | k | k
 ·omega
 ·refine ⟨?_, ?_, ?_⟩ <;> simp [okS, usedS, madeS, othS, k] at h ⊢ <;> omega
 ·refine ⟨?_, ?_, ?_⟩ <;> simp [okS, usedS, madeS, othS, k] at h ⊢ <;> exact h
 ·refine ⟨?_, ?_, ?_⟩ <;> simp [okS, usedS, madeS, othS, k] at h ⊢ <;> omega
 ·refine ⟨?_, ?_, ?_⟩ <;> simp [okS, usedS, madeS, othS, k] at h ⊢ <;> omega
 ·refine ⟨?_, ?_, ?_⟩ <;> simp [okS, usedS, madeS, othS, k] at h ⊢ <;> omega
 ·refine ⟨?_, ?_, ?_⟩ <;> simp [okS, usedS, madeS, othS, k] at h ⊢ <;> omega
 ·refine ⟨?_, ?_, ?_⟩ <;> simp [okS, usedS, madeS, othS, k] at h ⊢ <;> omega
 ·refine ⟨?_, ?_, ?_⟩ <;> simp [okS, usedS, madeS, othS, k] at h ⊢ <;> omega
 ·refine ⟨?_, ?_, ?_⟩ <;> simp [okS, usedS, madeS, othS, k] at h ⊢ <;> first | exact h | omega
 ·refine ⟨?_, ?_, ?_⟩ <;> simp [okS, usedS, madeS, othS, k] at h ⊢ <;> omega
 ·omega
theorem sm_reverse {α : Type} (f : α → Int) (l : List α) : sm f l.reverse = sm f l := by
 induction l with
 | nil => rfl
 | cons x l ih => rw [List.reverse_cons, sm_append, ih]; simp only [sm]; omega
theorem sm_oth {l : List api_Stitch} (h : allOk l) : sm usedS (l.map othS) = sm usedS l ∧ sm madeS (l.map othS) = sm madeS l := by
 induction l with
 | nil => exact ⟨rfl, rfl⟩
 | cons x l ih =>
  have hx := oth_ok (h x (by simp))
  have ih := ih fun y hy => h y (by simp [hy])
  simp only [List.map_cons, sm, hx.2.1, hx.2.2, ih.1, ih.2, and_self]
theorem turned_ok {l : List api_Stitch} (h : allS l = 0) : allS ((l.map othS).reverse) = 0 ∧ sm usedS ((l.map othS).reverse) = sm usedS l ∧ sm madeS ((l.map othS).reverse) = sm madeS l := by
 obtain ⟨h1, h2, h3, h4⟩ := allS_ok h
 have hs := sm_oth h2
 have hok : allOk ((l.map othS).reverse) := by
  intro p hp
  rw [List.mem_reverse] at hp
  obtain ⟨q, hq, rfl⟩ := List.mem_map.1 hp
  exact (oth_ok (h2 q hq)).1
 rw [sm_reverse, sm_reverse, hs.1, hs.2]
 refine ⟨?_, rfl, rfl⟩
 unfold allS
 rw [sm_reverse, sm_reverse, hs.1, hs.2, if_neg (by simp; omega), if_pos hok, if_neg (by omega)]
noncomputable def F_raddleref25_Uses (p0 : (List api_Stitch)) : Option (Int × Int) :=
 (F_raddleref25_All p0).bind fun r6 =>
 if r6 != 0 then
  some (0, r6)
 else
  (F_raddleref25_sums p0).bind fun a0 =>
  some (a0.1, 0)
theorem c_raddleref25_Uses (E : Nat → Prop) (w0 : World) (p0 : (List api_Stitch)) (v0 : Value) (r : (Int × Int)) (h : F_raddleref25_Uses p0 = some r) (S : St0 E [] w0 w0 [] [fRep (rL r_api_Stitch) (v0) p0]) :
 Calls Try.prog 35 #[v0] w0 (Ret (X := Unit) E [] w0 (fun _ => .tuple #[.int .i64 r.1, .int .i64 r.2]) (fun _ => []) (fun _ => [])) := by
 unfold F_raddleref25_Uses at h
 obtain ⟨a8, a9, _, rfl, _⟩ := S.know (i := 0) (e := fRep (rL r_api_Stitch) (v0) p0) rfl
 refine sEnter (args := [.slice a8 p0.length a9]) 17 Try.func35 rfl rfl (by simp) S (fun a S => ?_)
 refine sSeq (fun K3 ag => sRegion (sN S fun a S => ?_))
 refine sN S fun a S => ?_
 refine lT (ag _ _ (sSeq (fun K4 ah => sSeq (fun K5 ai => sRegion (sM S fun a S => ?_)))))
 obtain ⟨r6, af, h⟩ := bS h
 have S1 := S.mem
 refine sCq [.slice a8 p0.length a9] (iv r6) S callee48 (S1.quiet [0] rfl) (fun E1 w1 S1 => c_raddleref25_All E1 w1 p0 (.slice a8 p0.length a9) r6 af S1) fun a w S => ?_
 refine sBin _ S (wN rfl) rfl rfl rfl (bNe _ _ _ _ .i64 r6 0) rfl (lb rfl) fun a S => ?_
 refine lT (ai _ _ ?_)
 rcases iS h with ⟨aa, h⟩ | ⟨aa, h⟩
 ·refine sCondT S rfl aa ?_
  refine sSeq (fun K9 aj => sRegion (sM S fun a S => ?_))
  have S1 := S.mem
  refine sCq [.slice a8 p0.length a9] (iv r6) S callee48 (S1.quiet [0] rfl) (fun E1 w1 S1 => c_raddleref25_All E1 w1 p0 (.slice a8 p0.length a9) r6 af S1) fun a w S => ?_
  refine sN S fun a S => ?_
  refine sN S fun a S => ?_
  refine lT (aj _ _ ?_)
  obtain rfl := tS h
  exact wp_ret (rThen (sRet (.tuple #[iv 0, iv r6]) S (rsl2 rfl (rvT (t := 2) (v := iv 0) S rfl) (rvT (t := 3) (v := iv r6) S rfl)) ⟨(), rfl, S.mem.sel [] [] (by decide) rfl rfl⟩))
 refine sCondF S rfl aa ?_
 refine wp_skip (leafT (ah _ _ ?_))
 refine sSeq (fun ak ab => sRegion (sM S fun a S => ?_))
 obtain ⟨a0, ac, h⟩ := bS h
 have S1 := S.mem
 refine sCq [.slice a8 p0.length a9] (.tuple #[iv a0.1, iv a0.2]) S callee49 (S1.quiet [0] rfl) (fun E1 w1 S1 => c_raddleref25_sums E1 w1 p0 (.slice a8 p0.length a9) a0 ac S1) fun a w S => ?_
 refine sM S fun a S => ?_
 refine sExtract (vs := [iv a0.1, iv a0.2]) (iv a0.1) S (wN rfl) rfl rfl rfl rfl (lb rfl) fun a S => ?_
 refine sExtract (vs := [iv a0.1, iv a0.2]) (iv a0.2) S (wN rfl) rfl rfl rfl rfl (lb rfl) fun a S => ?_
 refine sN S fun a S => ?_
 refine sN S fun a S => ?_
 refine lT (ab _ _ (sSeq (fun al ae => sRegion (sM S fun a S => ?_))))
 refine sN S fun a S => ?_
 refine sN S fun a S => ?_
 refine lT (ae _ _ ?_)
 obtain rfl := tS h
 exact wp_ret (sRet (.tuple #[iv a0.1, iv 0]) S (rsl2 rfl (rvT (t := 2) (v := iv a0.1) S rfl) (rvT (t := 3) (v := iv 0) S rfl)) ⟨(), rfl, S.mem.sel [] [] (by decide) rfl rfl⟩)
noncomputable def F_raddleref25_Makes (p0 : (List api_Stitch)) : Option (Int × Int) :=
 (F_raddleref25_All p0).bind fun r6 =>
 if r6 != 0 then
  some (0, r6)
 else
  (F_raddleref25_sums p0).bind fun a0 =>
  some (a0.2, 0)
theorem c_raddleref25_Makes (E : Nat → Prop) (w0 : World) (p0 : (List api_Stitch)) (v0 : Value) (r : (Int × Int)) (h : F_raddleref25_Makes p0 = some r) (S : St0 E [] w0 w0 [] [fRep (rL r_api_Stitch) (v0) p0]) :
 Calls Try.prog 36 #[v0] w0 (Ret (X := Unit) E [] w0 (fun _ => .tuple #[.int .i64 r.1, .int .i64 r.2]) (fun _ => []) (fun _ => [])) := by
 unfold F_raddleref25_Makes at h
 obtain ⟨a8, a9, _, rfl, _⟩ := S.know (i := 0) (e := fRep (rL r_api_Stitch) (v0) p0) rfl
 refine sEnter (args := [.slice a8 p0.length a9]) 17 Try.func36 rfl rfl (by simp) S (fun a S => ?_)
 refine sSeq (fun K3 ag => sRegion (sN S fun a S => ?_))
 refine sN S fun a S => ?_
 refine lT (ag _ _ (sSeq (fun K4 ah => sSeq (fun K5 ai => sRegion (sM S fun a S => ?_)))))
 obtain ⟨r6, af, h⟩ := bS h
 have S1 := S.mem
 refine sCq [.slice a8 p0.length a9] (iv r6) S callee48 (S1.quiet [0] rfl) (fun E1 w1 S1 => c_raddleref25_All E1 w1 p0 (.slice a8 p0.length a9) r6 af S1) fun a w S => ?_
 refine sBin _ S (wN rfl) rfl rfl rfl (bNe _ _ _ _ .i64 r6 0) rfl (lb rfl) fun a S => ?_
 refine lT (ai _ _ ?_)
 rcases iS h with ⟨aa, h⟩ | ⟨aa, h⟩
 ·refine sCondT S rfl aa ?_
  refine sSeq (fun K9 aj => sRegion (sM S fun a S => ?_))
  have S1 := S.mem
  refine sCq [.slice a8 p0.length a9] (iv r6) S callee48 (S1.quiet [0] rfl) (fun E1 w1 S1 => c_raddleref25_All E1 w1 p0 (.slice a8 p0.length a9) r6 af S1) fun a w S => ?_
  refine sN S fun a S => ?_
  refine sN S fun a S => ?_
  refine lT (aj _ _ ?_)
  obtain rfl := tS h
  exact wp_ret (rThen (sRet (.tuple #[iv 0, iv r6]) S (rsl2 rfl (rvT (t := 2) (v := iv 0) S rfl) (rvT (t := 3) (v := iv r6) S rfl)) ⟨(), rfl, S.mem.sel [] [] (by decide) rfl rfl⟩))
 refine sCondF S rfl aa ?_
 refine wp_skip (leafT (ah _ _ ?_))
 refine sSeq (fun ak ab => sRegion (sM S fun a S => ?_))
 obtain ⟨a0, ac, h⟩ := bS h
 have S1 := S.mem
 refine sCq [.slice a8 p0.length a9] (.tuple #[iv a0.1, iv a0.2]) S callee49 (S1.quiet [0] rfl) (fun E1 w1 S1 => c_raddleref25_sums E1 w1 p0 (.slice a8 p0.length a9) a0 ac S1) fun a w S => ?_
 refine sM S fun a S => ?_
 refine sExtract (vs := [iv a0.1, iv a0.2]) (iv a0.1) S (wN rfl) rfl rfl rfl rfl (lb rfl) fun a S => ?_
 refine sExtract (vs := [iv a0.1, iv a0.2]) (iv a0.2) S (wN rfl) rfl rfl rfl rfl (lb rfl) fun a S => ?_
 refine sN S fun a S => ?_
 refine sN S fun a S => ?_
 refine lT (ab _ _ (sSeq (fun al ae => sRegion (sM S fun a S => ?_))))
 refine sN S fun a S => ?_
 refine sN S fun a S => ?_
 refine lT (ae _ _ ?_)
 obtain rfl := tS h
 exact wp_ret (sRet (.tuple #[iv a0.2, iv 0]) S (rsl2 rfl (rvT (t := 2) (v := iv a0.2) S rfl) (rvT (t := 3) (v := iv 0) S rfl)) ⟨(), rfl, S.mem.sel [] [] (by decide) rfl rfl⟩)
theorem uses_eq {l : List api_Stitch} (hw : ∀ p, p ∈ l → wfS p) : F_stitch_Uses l = some (if allS l = 0 then (sm usedS l, 0) else (0, allS l)) := by
 unfold F_stitch_Uses
 rw [all_eq hw, Option.bind_some]
 by_cases h : allS l = 0
 ·simp only [nF h, Bool.false_eq_true, if_false, sum_eq (allS_ok h).2.1 (show l.length ≤ 100000 by have := (allS_ok h).1; omega), Option.bind_some, if_pos h]
 ·simp only [nT h, if_true, if_neg h]
theorem makes_eq {l : List api_Stitch} (hw : ∀ p, p ∈ l → wfS p) : F_stitch_Makes l = some (if allS l = 0 then (sm madeS l, 0) else (0, allS l)) := by
 unfold F_stitch_Makes
 rw [all_eq hw, Option.bind_some]
 by_cases h : allS l = 0
 ·simp only [nF h, Bool.false_eq_true, if_false, sum_eq (allS_ok h).2.1 (show l.length ≤ 100000 by have := (allS_ok h).1; omega), Option.bind_some, if_pos h]
 ·simp only [nT h, if_true, if_neg h]
theorem ruses_eq (l : List api_Stitch) : F_raddleref25_Uses l = some (if allS l = 0 then (sm usedS l, 0) else (0, allS l)) := by
 unfold F_raddleref25_Uses
 rw [rall_eq, Option.bind_some]
 by_cases h : allS l = 0
 ·simp only [nF h, Bool.false_eq_true, if_false, rsums_eq (allS_ok h).2.1 (show l.length ≤ 100000 by have := (allS_ok h).1; omega), Option.bind_some, if_pos h]
 ·simp only [nT h, if_true, if_neg h]
theorem rmakes_eq (l : List api_Stitch) : F_raddleref25_Makes l = some (if allS l = 0 then (sm madeS l, 0) else (0, allS l)) := by
 unfold F_raddleref25_Makes
 rw [rall_eq, Option.bind_some]
 by_cases h : allS l = 0
 ·simp only [nF h, Bool.false_eq_true, if_false, rsums_eq (allS_ok h).2.1 (show l.length ≤ 100000 by have := (allS_ok h).1; omega), Option.bind_some, if_pos h]
 ·simp only [nT h, if_true, if_neg h]
noncomputable def raddleref26_Check_l1 (p0 : api_Chart) : (Int × Int) → Option ((Int × Int) ⊕ (Int ⊕ Unit)) := fun s0 => match s0 with
 | (aa, a0) =>
  if decide (a0 < (p0.Rows.length : Int)) then
   (idxO p0.Rows a0).bind fun a9 =>
   (F_raddleref25_Uses a9.Cells).bind fun a8 =>
   if a8.2 != 0 then
    some (.inr (.inl a8.2))
   else
    if a8.1 != aa then
     some (.inr (.inl 26))
    else
     (F_raddleref25_Makes a9.Cells).bind fun ab =>
     some (.inl (ab.1, w64 (a0 + 1)))
  else
   some (.inr (.inr ()))
noncomputable def F_raddleref26_Check (p0 : api_Chart) : Option Int :=
 if decide (100 < (p0.Rows.length : Int)) then
  some 4
 else
  Option.bind (α := Bool) (
   if decide (p0.Start < 0) then
    some true
   else
    some (decide (200 < p0.Start))) fun a0 =>
  if a0 then
   some 8
  else
   Option.bind (α := Unit ⊕ Int) (
    (whileO (raddleref26_Check_l1 p0) (p0.Start, 0)).bind fun z0 => match z0 with
     | .inl z =>
      some (.inr z)
     | .inr _ =>
      some (.inl ())) fun z0 => match z0 with
    | .inl _ =>
     some 0
    | .inr z =>
     some z
theorem c_raddleref26_Check (E : Nat → Prop) (w0 : World) (p0 : api_Chart) (v0 : Value) (r : Int) (h : F_raddleref26_Check p0 = some r) (S : St0 E [] w0 w0 [] [fRep r_api_Chart (v0) p0]) :
 Calls Try.prog 21 #[v0] w0 (Ret (X := Unit) E [] w0 (fun _ => .int .i64 r) (fun _ => []) (fun _ => [])) := by
 unfold F_raddleref26_Check at h
 obtain ⟨u1, rfl, aZ⟩ := S.know (i := 0) (e := fRep r_api_Chart (v0) p0) rfl
 have S := S.learn (fRep (rL r_api_Row) u1 p0.Rows) aZ
 obtain ⟨a9, aa, _, rfl, _⟩ := aZ
 refine sEnter (args := [.agg #[iv p0.Start, .slice a9 p0.Rows.length aa]]) 54 Try.func21 rfl rfl (by simp) S (fun a S => ?_)
 refine sSeq (fun K5 bg => sRegion (sBox (v := .agg #[iv p0.Start, .slice a9 p0.Rows.length aa]) S (wN rfl) rfl rfl [iv p0.Start, .slice a9 p0.Rows.length aa] rfl rfl (lb rfl) fun a b6 w S => ?_))
 refine sN S fun a S => ?_
 refine lT (bg _ _ (sSeq (fun K7 bh => sSeq (fun K8 bi => sRegion (sField (b := b6) (off := 0) 1 1 S (wN rfl) rfl rfl rfl rfl rfl (lb rfl) fun a S => ?_)))))
 refine sLoad1 0 (.slice a9 p0.Rows.length aa) S (wN rfl) rfl rfl rfl rfl rfl rfl (lb rfl) fun a S => ?_
 refine sLen S (wN rfl) rfl Try.underlying22 rfl rfl (lb rfl) fun a S => ?_
 refine sBin _ S (wN rfl) rfl rfl rfl (bGt _ _ _ _ .i64 (p0.Rows.length : Int) 100) rfl (lb rfl) fun a S => ?_
 refine lT (bi _ _ ?_)
 rcases iS h with ⟨aq, h⟩ | ⟨aq, h⟩
 ·refine sCondT S rfl aq ?_
  refine sSeq (fun bo ar => sRegion (sN S fun a S => ?_))
  refine lT (ar _ _ ?_)
  obtain rfl := tS h
  exact wp_ret (rThen (sRet (iv 4) S (rsl1 rfl (rvT (t := 2) (v := iv 4) S rfl)) ⟨(), rfl, S.mem.sel [] [] (by decide) rfl rfl⟩))
 refine sCondF S rfl aq ?_
 refine wp_skip (leafT (bh _ _ ?_))
 refine sSeq (fun bp au => ?_)
 obtain ⟨bj, h, bk⟩ := bS h
 refine sCut (fun a w => ∃ av, av = bj ∧ St [] E [] w0 54 a w [(1, .pointer (some ⟨b6, 0, none⟩)), (18, .bool av)] [eBox b6 24 [iv p0.Start, .slice a9 p0.Rows.length aa]] [fRep (rL r_api_Row) (.slice a9 p0.Rows.length aa) p0.Rows]) ?_ (fun a w hI => ?_)
 ·refine sRegion (sField (b := b6) (off := 0) 0 0 S (wN rfl) rfl rfl rfl rfl rfl (lb rfl) fun a S => ?_)
  refine sLoad1 0 (iv p0.Start) S (wN rfl) rfl rfl rfl rfl rfl rfl (lb rfl) fun a S => ?_
  refine sBin _ S (wN rfl) rfl rfl rfl (bLt _ _ _ _ .i64 p0.Start 0) rfl (lb rfl) fun a S => ?_
  refine sM S fun a S => ?_
  rcases iS h with ⟨a0, h⟩ | ⟨a0, h⟩
  ·refine sSkN 3 3 false 14 S rfl rfl a0 rfl fun a S => ?_
   refine sPickT (.bool true) S (wN rfl) rfl rfl a0 rfl rfl (lb rfl) fun a S => ?_
   exact lT (⟨true, Option.some.inj h, S.fix [0] [0] (by decide) rfl rfl rfl⟩)
  refine sField (b := b6) (off := 0) 0 0 S (wG 3 false 14 rfl rfl rfl a0) rfl rfl rfl rfl rfl (lb rfl) fun a S => ?_
  refine sLoad1 0 (iv p0.Start) S (wG 3 false 14 rfl rfl rfl a0) rfl rfl rfl rfl rfl rfl (lb rfl) fun a S => ?_
  refine sBin _ S (wG 3 false 14 rfl rfl rfl a0) rfl rfl rfl (bGt _ _ _ _ .i64 p0.Start 200) rfl (lb rfl) fun a S => ?_
  refine sPickF (.bool (decide (200 < p0.Start))) S (wN rfl) rfl rfl a0 rfl rfl (lb rfl) fun a S => ?_
  exact lT (⟨decide (200 < p0.Start), Option.some.inj h, S.fix [0] [0] (by decide) rfl rfl rfl⟩)
 obtain ⟨av, rfl, S⟩ := hI
 have h := bk
 try dsimp only at h
 rcases iS h with ⟨ae, h⟩ | ⟨ae, h⟩
 ·refine sCondT S rfl ae ?_
  refine sSeq (fun bq aw => sRegion (sN S fun a S => ?_))
  refine lT (aw _ _ ?_)
  obtain rfl := tS h
  exact wp_ret (rThen (sRet (iv 8) S (rsl1 rfl (rvT (t := 2) (v := iv 8) S rfl)) ⟨(), rfl, S.mem.sel [] [] (by decide) rfl rfl⟩))
 refine sCondF S rfl ae ?_
 refine wp_skip (leafT (au _ _ ?_))
 refine sSeq (fun br ax => sRegion (sField (b := b6) (off := 0) 0 0 S (wN rfl) rfl rfl rfl rfl rfl (lb rfl) fun a S => ?_))
 refine sLoad1 0 (iv p0.Start) S (wN rfl) rfl rfl rfl rfl rfl rfl (lb rfl) fun a S => ?_
 refine sN S fun a S => ?_
 refine lT (ax _ _ ?_)
 obtain ⟨bl, h, ay⟩ := bS h
 refine sCut (fun a w => .inl () = bl ∧ St [] E [] w0 54 a w [] [] []) ?_ (fun a w hI => ?_)
 rotate_left
 ·obtain ⟨rfl, S⟩ := hI
  have h := ay
  try dsimp only at h
  refine sSeq (fun bt az => sRegion (sN S fun a S => ?_))
  refine lT (az _ _ ?_)
  obtain rfl := tS h
  exact wp_ret (sRet (iv 0) S (rsl1 rfl (rvT (t := 2) (v := iv 0) S rfl)) ⟨(), rfl, S.mem.sel [] [] (by decide) rfl rfl⟩)
 refine sSeq (fun bu aA => sRegion (sN S fun a S => ?_))
 refine lT (aA _ _ (wp_block ?_))
 obtain ⟨bv, hl, aC⟩ := bS h
 refine sLoop hl (fun s0 a w => match s0 with | (aG, af) => St [] E [] w0 54 a w [(1, .pointer (some ⟨b6, 0, none⟩)), (3, iv aG), (4, iv af)] [eBox b6 24 [iv p0.Start, .slice a9 p0.Rows.length aa]] [fRep (rL r_api_Row) (.slice a9 p0.Rows.length aa) p0.Rows]) (S.fix [0] [0] (by decide) rfl rfl rfl) ?_
 clear hl h
 intro s0 a w c0 hI h ag
 obtain ⟨aG, af⟩ := s0
 unfold raddleref26_Check_l1 at h
 dsimp only at h hI
 have S := hI
 refine sSeq (fun bw aH => sSeq (fun bx aI => sRegion (sM S fun a S => ?_)))
 refine sField (b := b6) (off := 0) 1 1 S (wN rfl) rfl rfl rfl rfl rfl (lb rfl) fun a S => ?_
 refine sLoad1 0 (.slice a9 p0.Rows.length aa) S (wN rfl) rfl rfl rfl rfl rfl rfl (lb rfl) fun a S => ?_
 refine sLen S (wN rfl) rfl Try.underlying22 rfl rfl (lb rfl) fun a S => ?_
 refine sBin _ S (wN rfl) rfl rfl rfl (bLt _ _ _ _ .i64 af (p0.Rows.length : Int)) rfl (lb rfl) fun a S => ?_
 refine lT (aI _ _ ?_)
 rcases iS h with ⟨ah, h⟩ | ⟨ah, h⟩
 rotate_left
 ·refine sCondF S rfl ah ?_
  obtain rfl := tS h
  obtain rfl := ag _ rfl
  have h := aC
  try dsimp only at h
  exact wp_exit (xThen (xThen (xHit (leafT (⟨Option.some.inj h, S.fix [] [] (by decide) rfl rfl rfl⟩)))))
 refine sCondT S rfl ah ?_
 refine wp_skip (leafT (aH _ _ ?_))
 refine sSeq (fun bz aJ => wp_block ?_)
 refine sSeq (fun bA aK => sRegion (sField (b := b6) (off := 0) 1 1 S (wN rfl) rfl rfl rfl rfl rfl (lb rfl) fun a S => ?_))
 refine sLoad1 0 (.slice a9 p0.Rows.length aa) S (wN rfl) rfl rfl rfl rfl rfl rfl (lb rfl) fun a S => ?_
 refine sM S fun a S => ?_
 obtain ⟨a8, ap, h⟩ := bS h
 obtain ⟨ba, aL, S⟩ := pIdx (P := Try.prog) (r := r_api_Row) (v := .slice a9 p0.Rows.length aa) (xs := p0.Rows) (j := af) 22 65 0 S Try.underlying22 rfl rfl ap
 refine sIdxV S (wN rfl) rfl rfl rfl aL rfl (lb rfl) fun a S => ?_
 obtain ⟨bb, aM, S⟩ := pFld (P := Try.prog) (r := r_api_Row) (s2 := (rL r_api_Stitch)) (g := (·.Cells)) (q := ba) (z := a8) 65 1 0 1 S rfl rfl comp_api_Row_Cells
 refine sFldV (q := ba) S (wN rfl) rfl rfl aM rfl (lb rfl) fun a S => ?_
 obtain ⟨bm, S⟩ := pLoad (r := (rL r_api_Stitch)) (q := bb) (x := a8.Cells) 0 S rfl
 obtain ⟨ai, aj, _, rfl, _⟩ := S.mem.know (i := 1) (e := fRep (rL r_api_Stitch) (bm) a8.Cells) rfl
 refine sLoadV1 (vq := bb) 0 (.slice ai a8.Cells.length aj) S (wN rfl) rfl rfl rfl rfl rfl (lb rfl) fun a S => ?_
 obtain ⟨ab, aO, h⟩ := bS h
 have S1 := S.mem
 refine sCq [.slice ai a8.Cells.length aj] (.tuple #[iv ab.1, iv ab.2]) S callee35 (S1.quiet [1] rfl) (fun E1 w1 S1 => c_raddleref25_Uses E1 w1 a8.Cells (.slice ai a8.Cells.length aj) ab aO S1) fun a w S => ?_
 refine sM S fun a S => ?_
 refine sExtract (vs := [iv ab.1, iv ab.2]) (iv ab.1) S (wN rfl) rfl rfl rfl rfl (lb rfl) fun a S => ?_
 refine sExtract (vs := [iv ab.1, iv ab.2]) (iv ab.2) S (wN rfl) rfl rfl rfl rfl (lb rfl) fun a S => ?_
 refine sN S fun a S => ?_
 refine sN S fun a S => ?_
 refine lT (aK _ _ (sSeq (fun bB aP => sSeq (fun bC aQ => sRegion (sM S fun a S => ?_)))))
 refine sBin _ S (wN rfl) rfl rfl rfl (bNe _ _ _ _ .i64 ab.2 0) rfl (lb rfl) fun a S => ?_
 refine lT (aQ _ _ ?_)
 rcases iS h with ⟨ak, h⟩ | ⟨ak, h⟩
 ·refine sCondT S rfl ak ?_
  refine sSeq (fun bD aR => sRegion (sM S fun a S => ?_))
  refine sN S fun a S => ?_
  refine lT (aR _ _ ?_)
  obtain rfl := tS h
  obtain rfl := ag _ rfl
  have h := aC
  try dsimp only at h
  obtain rfl := tS h
  have h := ay
  try dsimp only at h
  obtain rfl := tS h
  exact wp_ret (rThen (rBlock (rThen (rThen (rBlock (rThen (sRet (iv ab.2) S (rsl1 rfl (rvT (t := 2) (v := iv ab.2) S rfl)) ⟨(), rfl, S.mem.sel [] [] (by decide) rfl rfl⟩)))))))
 refine sCondF S rfl ak ?_
 refine wp_skip (leafT (aP _ _ ?_))
 refine sSeq (fun bE aS => sSeq (fun bG aT => sRegion (sM S fun a S => ?_)))
 refine sM S fun a S => ?_
 refine sBin _ S (wN rfl) rfl rfl rfl (bNe _ _ _ _ .i64 ab.1 aG) rfl (lb rfl) fun a S => ?_
 refine lT (aT _ _ ?_)
 rcases iS h with ⟨al, h⟩ | ⟨al, h⟩
 ·refine sCondT S rfl al ?_
  refine sSeq (fun bH aU => sRegion (sN S fun a S => ?_))
  refine lT (aU _ _ ?_)
  obtain rfl := tS h
  obtain rfl := ag _ rfl
  have h := aC
  try dsimp only at h
  obtain rfl := tS h
  have h := ay
  try dsimp only at h
  obtain rfl := tS h
  exact wp_ret (rThen (rBlock (rThen (rThen (rBlock (rThen (sRet (iv 26) S (rsl1 rfl (rvT (t := 2) (v := iv 26) S rfl)) ⟨(), rfl, S.mem.sel [] [] (by decide) rfl rfl⟩)))))))
 refine sCondF S rfl al ?_
 refine wp_skip (leafT (aS _ _ ?_))
 refine sRegion (sField (b := b6) (off := 0) 1 1 S (wN rfl) rfl rfl rfl rfl rfl (lb rfl) fun a S => ?_)
 refine sLoad1 0 (.slice a9 p0.Rows.length aa) S (wN rfl) rfl rfl rfl rfl rfl rfl (lb rfl) fun a S => ?_
 refine sM S fun a S => ?_
 obtain ⟨bc, aV, S⟩ := pIdx (P := Try.prog) (r := r_api_Row) (v := .slice a9 p0.Rows.length aa) (xs := p0.Rows) (j := af) 22 65 4 S Try.underlying22 rfl rfl ap
 refine sIdxV S (wN rfl) rfl rfl rfl aV rfl (lb rfl) fun a S => ?_
 obtain ⟨bf, aW, S⟩ := pFld (P := Try.prog) (r := r_api_Row) (s2 := (rL r_api_Stitch)) (g := (·.Cells)) (q := bc) (z := a8) 65 1 0 1 S rfl rfl comp_api_Row_Cells
 refine sFldV (q := bc) S (wN rfl) rfl rfl aW rfl (lb rfl) fun a S => ?_
 obtain ⟨bn, S⟩ := pLoad (r := (rL r_api_Stitch)) (q := bf) (x := a8.Cells) 0 S rfl
 obtain ⟨am, ao, _, rfl, _⟩ := S.mem.know (i := 1) (e := fRep (rL r_api_Stitch) (bn) a8.Cells) rfl
 refine sLoadV1 (vq := bf) 0 (.slice am a8.Cells.length ao) S (wN rfl) rfl rfl rfl rfl rfl (lb rfl) fun a S => ?_
 obtain ⟨ac, aX, h⟩ := bS h
 have S1 := S.mem
 refine sCq [.slice am a8.Cells.length ao] (.tuple #[iv ac.1, iv ac.2]) S callee36 (S1.quiet [1] rfl) (fun E1 w1 S1 => c_raddleref25_Makes E1 w1 a8.Cells (.slice am a8.Cells.length ao) ac aX S1) fun a w S => ?_
 refine sM S fun a S => ?_
 refine sExtract (vs := [iv ac.1, iv ac.2]) (iv ac.1) S (wN rfl) rfl rfl rfl rfl (lb rfl) fun a S => ?_
 refine sExtract (vs := [iv ac.1, iv ac.2]) (iv ac.2) S (wN rfl) rfl rfl rfl rfl (lb rfl) fun a S => ?_
 refine sN S fun a S => ?_
 refine leafL (leafB (leafT (aJ _ _ ?_)))
 refine sRegion (sM S fun a S => ?_)
 refine sBin _ S (wN rfl) rfl rfl rfl (bAdd _ _ _ _ af 1) rfl (lb rfl) fun a S => ?_
 refine sN S fun a S => ?_
 exact lT (⟨(ac.1, w64 (af + 1)), (Option.some.inj h).symm, (S.fix [0] [8] (by decide) rfl rfl rfl)⟩)
def wfR (rows : List api_Row) : Prop := ∀ r, r ∈ rows → ∀ p, p ∈ r.Cells → wfS p
def chkR : Int → List api_Row → Int
 | _, [] => 0
 | n, r :: rs => if allS r.Cells ≠ 0 then allS r.Cells else if sm usedS r.Cells ≠ n then 26 else chkR (sm madeS r.Cells) rs
def ctl : Nat → Int → List api_Row → List (Int × chart_count)
 | _, _, [] => []
 | i, n, r :: rs => if allS r.Cells ≠ 0 then [((i : Int), ⟨n, 0, allS r.Cells⟩)] else if sm usedS r.Cells ≠ n then [((i : Int), ⟨n, 0, 26⟩)] else ((i : Int), ⟨n, sm madeS r.Cells, 0⟩) :: ctl (i + 1) (sm madeS r.Cells) rs
theorem counted_loop {σ τ : Type} (c : api_Chart) (hw : wfR c.Rows) (hl : c.Rows.length ≤ 1000000000) (B : σ → (Int × chart_count) → Option (σ ⊕ τ)) : ∀ (rs : List api_Row) (i : Nat) (n : Int) (z : σ), c.Rows.drop i = rs → (whileO (chart_counted_1_l1 c B) (n, (i : Int), z)).bind fin3 = foldO B z (ctl i n rs) := by
 intro rs
 induction rs with
 | nil =>
  intro i n z hd
  have hi : c.Rows.length ≤ i := by
   have := congrArg List.length hd
   simp at this; omega
  have : chart_counted_1_l1 c B (n, (i : Int), z) = some (.inr (.inr z)) := by
   unfold chart_counted_1_l1
   simp only [dF (show ¬ (i : Int) < (c.Rows.length : Int) by omega), Bool.false_eq_true, if_false]
  rw [whileO_done this]
  rfl
 | cons r rs ih =>
  intro i n z hd
  have hi : i < c.Rows.length := by
   have := congrArg List.length hd
   simp at this; omega
  have hr : c.Rows[i] = r := by
   have := List.getElem_drop (xs := c.Rows) (i := i) (j := 0) (h := by rw [hd]; simp)
   simp only [hd, List.getElem_cons_zero, Nat.add_zero] at this
   exact this.symm
  have hrs : c.Rows.drop (i + 1) = rs := by
   rw [← List.drop_drop, hd]; rfl
  have hwr : ∀ p, p ∈ r.Cells → wfS p := hw r (hr ▸ List.getElem_mem hi)
  have hs : w64 ((i : Int) + 1) = ((i + 1 : Nat) : Int) := w64_succ (by omega)
  simp only [ctl]
  by_cases ha : allS r.Cells = 0
  ·have eu : F_stitch_Uses r.Cells = some (sm usedS r.Cells, 0) := by rw [uses_eq hwr, if_pos ha]
   have em : F_stitch_Makes r.Cells = some (sm madeS r.Cells, 0) := by rw [makes_eq hwr, if_pos ha]
   rw [if_neg (by simp [ha])]
   by_cases hu : sm usedS r.Cells = n
   ·have e1 : chart_counted_1_l1 c B (n, (i : Int), z) = (B z ((i : Int), ⟨n, sm madeS r.Cells, 0⟩)).bind fun y => match y with | .inl z' => some (.inl (sm madeS r.Cells, ((i + 1 : Nat) : Int), z')) | .inr t => some (.inr (.inl (.inr t))) := by
     unfold chart_counted_1_l1
     simp only [dT (show (i : Int) < (c.Rows.length : Int) by omega), if_true, idxO_nat hi, hr, Option.bind_some, eu, em, bne_self_eq_false, Bool.false_eq_true, if_false, nF hu, hs]
     try congr 1
    rw [if_neg (by simp [hu]), whileO_eq, e1, foldO]
    cases hb : B z ((i : Int), ⟨n, sm madeS r.Cells, 0⟩) with
    | none => rfl
    | some y =>
     cases y with
     | inl z' => exact ih (i + 1) (sm madeS r.Cells) z' hrs
     | inr t => rfl
   ·have e1 : chart_counted_1_l1 c B (n, (i : Int), z) = (B z ((i : Int), ⟨n, 0, 26⟩)).bind fun y => match y with | .inl z' => some (.inr (.inl (.inl z'))) | .inr t => some (.inr (.inl (.inr t))) := by
     unfold chart_counted_1_l1
     simp only [dT (show (i : Int) < (c.Rows.length : Int) by omega), if_true, idxO_nat hi, hr, Option.bind_some, eu, em, bne_self_eq_false, Bool.false_eq_true, if_false, nT hu, nT (show ¬ (26 : Int) = 0 by omega)]
     try congr 1
    rw [if_pos (by simp [hu]), whileO_eq, e1, foldO]
    cases hb : B z ((i : Int), ⟨n, 0, 26⟩) with
    | none => rfl
    | some y => cases y <;> rfl
  ·have eu : F_stitch_Uses r.Cells = some (0, allS r.Cells) := by rw [uses_eq hwr, if_neg ha]
   have e1 : chart_counted_1_l1 c B (n, (i : Int), z) = (B z ((i : Int), ⟨n, 0, allS r.Cells⟩)).bind fun y => match y with | .inl z' => some (.inr (.inl (.inl z'))) | .inr t => some (.inr (.inl (.inr t))) := by
    unfold chart_counted_1_l1
    simp only [dT (show (i : Int) < (c.Rows.length : Int) by omega), if_true, idxO_nat hi, hr, Option.bind_some, eu, nT ha]
    try congr 1
   rw [if_pos (by simp [ha]), whileO_eq, e1, foldO]
   cases hb : B z ((i : Int), ⟨n, 0, allS r.Cells⟩) with
   | none => rfl
   | some y => cases y <;> rfl
theorem chcount_eq {σ τ : Type} (c : api_Chart) (hw : wfR c.Rows) (hl : c.Rows.length ≤ 1000000000) (B : σ → (Int × chart_count) → Option (σ ⊕ τ)) (z : σ) : I_chart_counted_1 c σ τ B z = foldO B z (ctl 0 c.Start c.Rows) := by
 rw [← counted_loop c hw hl B c.Rows 0 c.Start z rfl]
 unfold I_chart_counted_1
 try congr 1
def chk (c : api_Chart) : Int := if 100 < c.Rows.length then 4 else if c.Start < 0 ∨ 200 < c.Start then 8 else chkR c.Start c.Rows
theorem check_fold : ∀ (rs : List api_Row) (i : Nat) (n : Int), foldO chart_Check_l2 () (ctl i n rs) = some (if chkR n rs = 0 then .inl () else .inr (chkR n rs)) := by
 intro rs
 induction rs with
 | nil => intro i n; rfl
 | cons r rs ih =>
  intro i n
  simp only [ctl, chkR]
  by_cases ha : allS r.Cells = 0
  ·simp only [ha, ne_eq, not_true_eq_false, if_false]
   by_cases hu : sm usedS r.Cells = n
   ·simp only [hu, not_true_eq_false, if_false, foldO, chart_Check_l2, bne_self_eq_false, Bool.false_eq_true, Option.bind_some]
    exact ih _ _
   ·simp only [hu, not_false_eq_true, if_true, foldO, chart_Check_l2, nT (show ¬ (26 : Int) = 0 by omega), Option.bind_some]
    rfl
  ·simp only [ha, ne_eq, not_false_eq_true, if_true, foldO, chart_Check_l2, nT ha, Option.bind_some, if_false]
theorem chart_check_eq (c : api_Chart) (hw : wfR c.Rows) : F_chart_Check c = some (chk c) := by
 unfold F_chart_Check chk F_chart_counted
 by_cases h1 : 100 < c.Rows.length
 ·simp only [dT (show (100 : Int) < (c.Rows.length : Int) by omega), if_true, if_pos h1]
 simp only [dF (show ¬ (100 : Int) < (c.Rows.length : Int) by omega), Bool.false_eq_true, if_false, if_neg h1, Option.bind_some, chcount_eq c hw (show c.Rows.length ≤ 1000000000 by omega), check_fold]
 by_cases h2 : c.Start < 0
 ·simp [h2]
 by_cases h3 : 200 < c.Start
 ·simp [h2, h3]
 by_cases h4 : chkR c.Start c.Rows = 0 <;> simp [h2, h3, h4]
theorem rchart_loop (c : api_Chart) (hl : c.Rows.length ≤ 1000000000) : ∀ (rs : List api_Row) (i : Nat) (n : Int), c.Rows.drop i = rs → whileO (raddleref26_Check_l1 c) (n, (i : Int)) = some (if chkR n rs = 0 then .inr () else .inl (chkR n rs)) := by
 intro rs
 induction rs with
 | nil =>
  intro i n hd
  have hi : c.Rows.length ≤ i := by
   have := congrArg List.length hd
   simp at this; omega
  have : raddleref26_Check_l1 c (n, (i : Int)) = some (.inr (.inr ())) := by
   unfold raddleref26_Check_l1
   simp only [dF (show ¬ (i : Int) < (c.Rows.length : Int) by omega), Bool.false_eq_true, if_false]
  rw [whileO_done this]
  rfl
 | cons r rs ih =>
  intro i n hd
  have hi : i < c.Rows.length := by
   have := congrArg List.length hd
   simp at this; omega
  have hr : c.Rows[i] = r := by
   have := List.getElem_drop (xs := c.Rows) (i := i) (j := 0) (h := by rw [hd]; simp)
   simp only [hd, List.getElem_cons_zero, Nat.add_zero] at this
   exact this.symm
  have hrs : c.Rows.drop (i + 1) = rs := by
   rw [← List.drop_drop, hd]; rfl
  have hs : w64 ((i : Int) + 1) = ((i + 1 : Nat) : Int) := w64_succ (by omega)
  by_cases ha : allS r.Cells = 0
  ·have eu : F_raddleref25_Uses r.Cells = some (sm usedS r.Cells, 0) := by rw [ruses_eq, if_pos ha]
   have em : F_raddleref25_Makes r.Cells = some (sm madeS r.Cells, 0) := by rw [rmakes_eq, if_pos ha]
   by_cases hu : sm usedS r.Cells = n
   ·have e1 : raddleref26_Check_l1 c (n, (i : Int)) = some (.inl (sm madeS r.Cells, ((i + 1 : Nat) : Int))) := by
     unfold raddleref26_Check_l1
     simp only [dT (show (i : Int) < (c.Rows.length : Int) by omega), if_true, idxO_nat hi, hr, Option.bind_some, eu, em, bne_self_eq_false, Bool.false_eq_true, if_false, nF hu, hs]
    have hc : chkR n (r :: rs) = chkR (sm madeS r.Cells) rs := by simp [chkR, ha, hu]
    rw [whileO_step e1, ih (i + 1) (sm madeS r.Cells) hrs, hc]
   ·have e1 : raddleref26_Check_l1 c (n, (i : Int)) = some (.inr (.inl 26)) := by
     unfold raddleref26_Check_l1
     simp only [dT (show (i : Int) < (c.Rows.length : Int) by omega), if_true, idxO_nat hi, hr, Option.bind_some, eu, em, bne_self_eq_false, Bool.false_eq_true, if_false, nT hu]
    have hc : chkR n (r :: rs) = 26 := by simp [chkR, ha, hu]
    rw [whileO_done e1, hc]
    rfl
  ·have eu : F_raddleref25_Uses r.Cells = some (0, allS r.Cells) := by rw [ruses_eq, if_neg ha]
   have e1 : raddleref26_Check_l1 c (n, (i : Int)) = some (.inr (.inl (allS r.Cells))) := by
    unfold raddleref26_Check_l1
    simp only [dT (show (i : Int) < (c.Rows.length : Int) by omega), if_true, idxO_nat hi, hr, Option.bind_some, eu, nT ha]
   have hc : chkR n (r :: rs) = allS r.Cells := by simp [chkR, ha]
   rw [whileO_done e1, hc, if_neg ha]
theorem rchart_check_eq (c : api_Chart) : F_raddleref26_Check c = some (chk c) := by
 unfold F_raddleref26_Check chk
 by_cases h1 : 100 < c.Rows.length
 ·simp only [dT (show (100 : Int) < (c.Rows.length : Int) by omega), if_true, if_pos h1]
 simp only [dF (show ¬ (100 : Int) < (c.Rows.length : Int) by omega), Bool.false_eq_true, if_false, if_neg h1]
 have hloop := rchart_loop c (by omega) c.Rows 0 c.Start rfl
 have h0 : ((0 : Nat) : Int) = 0 := rfl
 rw [h0] at hloop
 rw [hloop]
 by_cases h2 : c.Start < 0
 ·simp [h2]
 by_cases h3 : 200 < c.Start
 ·simp [h2, h3]
 by_cases h4 : chkR c.Start c.Rows = 0 <;> simp [h2, h3, h4]
theorem chk_ok {c : api_Chart} (h : chk c = 0) : c.Rows.length ≤ 100 ∧ 0 ≤ c.Start ∧ c.Start ≤ 200 ∧ chkR c.Start c.Rows = 0 := by
 unfold chk at h
 split at h
 ·omega
 ·split at h
  ·omega
  ·rename_i h1 h2
   exact ⟨by omega, by omega, by omega, h⟩
theorem chkR_cons {n : Int} {r : api_Row} {rs : List api_Row} : chkR n (r :: rs) = 0 ↔ allS r.Cells = 0 ∧ sm usedS r.Cells = n ∧ chkR (sm madeS r.Cells) rs = 0 := by
 simp only [chkR]
 by_cases ha : allS r.Cells = 0
 ·by_cases hu : sm usedS r.Cells = n
  ·simp [ha, hu]
  ·simp [ha, hu]
 ·simp [ha]
theorem chkR_mem : ∀ {rs : List api_Row} {n : Int}, chkR n rs = 0 → ∀ r, r ∈ rs → allS r.Cells = 0 := by
 intro rs
 induction rs with
 | nil => intro n _ r hr; cases hr
 | cons x rs ih =>
  intro n h r hr
  obtain ⟨h1, h2, h3⟩ := chkR_cons.1 h
  rcases List.mem_cons.1 hr with rfl | hr
  ·exact h1
  ·exact ih h3 r hr
theorem wfR_of {c : api_Chart} (h : wf_api_Chart c) : wfR c.Rows := fun r hr p hp => inK_u8 ((((h.2.2 r hr).2).2 p hp).1)
theorem loop_seq {S τ : Type} {B : S → Option (S ⊕ τ)} (c : Nat → S) (n : Nat) {t : τ} (h : ∀ k, k < n → B (c k) = some (.inl (c (k + 1)))) (hn : B (c n) = some (.inr t)) : whileO B (c 0) = some t := by
 have key : ∀ j k, j + k = n → whileO B (c k) = some t := by
  intro j
  induction j with
  | zero =>
   intro k hk
   obtain rfl : k = n := by omega
   exact whileO_done hn
  | succ j ih =>
   intro k hk
   rw [whileO_step (h k (by omega))]
   exact ih _ (by omega)
 exact key n 0 (by omega)
theorem loop_idx {α τ : Type} {B : Int → Option (Int ⊕ τ)} (l : List α) (p : α → Bool) (hit : Nat → τ) (good : τ)
 (h : ∀ k (hk : k < l.length), B (k : Int) = some (if p l[k] = true then .inr (hit k) else .inl ((k + 1 : Nat) : Int))) (hn : B (l.length : Int) = some (.inr good)) : whileO B 0 = some (if l.findIdx p < l.length then hit (l.findIdx p) else good) := by
 have key : ∀ j k, j + k = l.length → k ≤ l.findIdx p → whileO B (k : Int) = some (if l.findIdx p < l.length then hit (l.findIdx p) else good) := by
  intro j
  induction j with
  | zero =>
   intro k hk hI
   obtain rfl : k = l.length := by omega
   rw [whileO_done hn, if_neg (by omega)]
  | succ j ih =>
   intro k hk hI
   have hk2 : k < l.length := by omega
   have hb := h k hk2
   cases hp : p l[k] with
   | true =>
    rw [hp, if_pos rfl] at hb
    have e : l.findIdx p = k := by
     rcases Nat.lt_or_ge k (l.findIdx p) with h1 | h1
     ·have := List.not_of_lt_findIdx h1
      rw [hp] at this; cases this
     ·omega
    rw [whileO_done hb, e, if_pos hk2]
   | false =>
    rw [hp, if_neg (by decide)] at hb
    rw [whileO_step hb]
    refine ih _ (by omega) ?_
    rcases Nat.eq_or_lt_of_le hI with h1 | h1
    ·have h2 : l.findIdx p < l.length := by omega
     have h3 : p (l[l.findIdx p]'h2) = true := List.findIdx_getElem
     have h4 : l[l.findIdx p]'h2 = l[k] := by congr 1; exact h1.symm
     rw [h4, hp] at h3; cases h3
    ·exact h1
 exact key l.length 0 (by omega) (Nat.zero_le _)
theorem loop_same {τ : Type} {B : Int → Option (Int ⊕ τ)} (n : Nat) (good : τ) (h : ∀ k, k < n → B (k : Int) = some (.inl ((k + 1 : Nat) : Int))) (hn : B (n : Int) = some (.inr good)) : whileO B 0 = some good :=
 loop_seq (fun k => (k : Int)) n h hn
def ups (u k : Nat) : List Int := (List.range k).map fun i => ((u + i : Nat) : Int)
theorem ups_len (u k : Nat) : (ups u k).length = k := by simp [ups]
theorem ups_mem {u k : Nat} {x : Int} : x ∈ ups u k ↔ (u : Int) ≤ x ∧ x < ((u + k : Nat) : Int) := by
 simp only [ups, List.mem_map, List.mem_range]
 constructor
 ·rintro ⟨i, hi, rfl⟩; omega
 ·intro h; exact ⟨(x - u).toNat, by omega, by omega⟩
theorem ups_get {u k j : Nat} (h : j < (ups u k).length) : (ups u k)[j] = ((u + j : Nat) : Int) := by simp [ups]
theorem ups_succ (u k : Nat) : ups u (k + 1) = ups u k ++ [((u + k : Nat) : Int)] := by simp [ups, List.range_succ]
theorem ups_nodup (u k : Nat) : (ups u k).Nodup := by
 rw [List.nodup_iff_pairwise_ne]
 refine List.pairwise_map.2 (List.Pairwise.imp ?_ (List.pairwise_lt_range (n := k)))
 intro a b h; omega
theorem knd {p : api_Stitch} (h : okS p) : (∃ b, p = ⟨1, b, 0, 0⟩) ∨ (∃ b, p = ⟨8, b, 0, 0⟩) ∨ p = ⟨2, false, 0, 0⟩ ∨ (∃ b, ∃ a : Nat, 2 ≤ a ∧ a ≤ 4 ∧ p = ⟨3, b, a, 0⟩) ∨ (∃ b, ∃ a : Nat, 2 ≤ a ∧ a ≤ 4 ∧ p = ⟨4, b, a, 0⟩) ∨
 (∃ b, ∃ a : Nat, 2 ≤ a ∧ a ≤ 4 ∧ p = ⟨5, b, a, 0⟩) ∨ (∃ k b, ∃ a c : Nat, (k = 6 ∨ k = 7) ∧ 1 ≤ a ∧ a ≤ 6 ∧ 1 ≤ c ∧ c ≤ 6 ∧ p = ⟨k, b, a, c⟩) ∨ (∃ a : Nat, 1 ≤ a ∧ a ≤ 200 ∧ p = ⟨9, false, a, 0⟩) ∨ (∃ b, ∃ a : Nat, 1 ≤ a ∧ a ≤ 200 ∧ p = ⟨10, b, a, 0⟩) := by
 obtain ⟨k, b, A, B⟩ := p
 unfold okS at h
 simp only at h
 rcases h with ⟨h | h, rfl, rfl⟩ | ⟨rfl, rfl, rfl, rfl⟩ | ⟨h | h | h, h1, h2, rfl⟩ | ⟨h, h1, h2, h3, h4⟩ | ⟨rfl, h1, h2, rfl, rfl⟩ | ⟨rfl, h1, h2, rfl⟩
 ·exact .inl ⟨b, by rw [h]⟩
 ·exact .inr (.inl ⟨b, by rw [h]⟩)
 ·exact .inr (.inr (.inl rfl))
 ·exact .inr (.inr (.inr (.inl ⟨b, A.toNat, by omega, by omega, by rw [h, Int.toNat_of_nonneg (by omega)]⟩)))
 ·exact .inr (.inr (.inr (.inr (.inl ⟨b, A.toNat, by omega, by omega, by rw [h, Int.toNat_of_nonneg (by omega)]⟩))))
 ·exact .inr (.inr (.inr (.inr (.inr (.inl ⟨b, A.toNat, by omega, by omega, by rw [h, Int.toNat_of_nonneg (by omega)]⟩)))))
 ·exact .inr (.inr (.inr (.inr (.inr (.inr (.inl ⟨k, b, A.toNat, B.toNat, h, by omega, by omega, by omega, by omega, by rw [Int.toNat_of_nonneg (by omega), Int.toNat_of_nonneg (by omega)]⟩))))))
 ·exact .inr (.inr (.inr (.inr (.inr (.inr (.inr (.inl ⟨A.toNat, by omega, by omega, by rw [Int.toNat_of_nonneg (by omega)]⟩)))))))
 ·exact .inr (.inr (.inr (.inr (.inr (.inr (.inr (.inr ⟨b, A.toNat, by omega, by omega, by rw [Int.toNat_of_nonneg (by omega)]⟩)))))))
def uN (s : api_Stitch) : Nat := (usedS s).toNat
def mN (s : api_Stitch) : Nat := (madeS s).toNat
def pars (s : api_Stitch) (u : Nat) : List (List Int) :=
 if s.Kind = 2 then [[]] else if s.Kind = 9 then List.replicate s.A.toNat []
 else if s.Kind = 3 then [ups u s.A.toNat] else if s.Kind = 4 then [(ups u s.A.toNat).reverse]
 else if s.Kind = 5 then List.replicate s.A.toNat [(u : Int)]
 else if s.Kind = 6 ∨ s.Kind = 7 then ((ups u (s.A.toNat + s.B.toNat)).drop s.A.toNat ++ (ups u (s.A.toNat + s.B.toNat)).take s.A.toNat).map fun x => [x]
 else if s.Kind = 10 then [] else [[(u : Int)]]
theorem pars_len {s : api_Stitch} (h : okS s) (u : Nat) : (pars s u).length = mN s := by
 rcases knd h with ⟨b, rfl⟩ | ⟨b, rfl⟩ | rfl | ⟨b, a, h1, h2, rfl⟩ | ⟨b, a, h1, h2, rfl⟩ | ⟨b, a, h1, h2, rfl⟩ | ⟨k, b, a, c, hk, h1, h2, h3, h4, rfl⟩ | ⟨a, h1, h2, rfl⟩ | ⟨b, a, h1, h2, rfl⟩
 ·rfl
 ·rfl
 ·rfl
 ·simp [pars, mN, madeS]
 ·simp [pars, mN, madeS]
 ·simp [pars, mN, madeS]
 ·rcases hk with rfl | rfl <;> simp [pars, mN, madeS, ups_len] <;> omega
 ·simp [pars, mN, madeS]
 ·simp [pars, mN, madeS]
theorem pars_bd {s : api_Stitch} (h : okS s) (u : Nat) : ∀ ps, ps ∈ pars s u → ps.Nodup ∧ ∀ p, p ∈ ps → (u : Int) ≤ p ∧ p < ((u + uN s : Nat) : Int) := by
 intro ps hps
 rcases knd h with ⟨b, rfl⟩ | ⟨b, rfl⟩ | rfl | ⟨b, a, h1, h2, rfl⟩ | ⟨b, a, h1, h2, rfl⟩ | ⟨b, a, h1, h2, rfl⟩ | ⟨k, b, a, c, hk, h1, h2, h3, h4, rfl⟩ | ⟨a, h1, h2, rfl⟩ | ⟨b, a, h1, h2, rfl⟩
 ·simp [pars] at hps; subst hps; simp [uN, usedS]; omega
 ·simp [pars] at hps; subst hps; simp [uN, usedS]; omega
 ·simp [pars] at hps; subst hps; simp
 ·simp [pars] at hps; subst hps; refine ⟨ups_nodup _ _, fun p hp => ?_⟩; have := ups_mem.1 hp; simpa [uN, usedS] using this
 ·simp [pars] at hps; subst hps; refine ⟨(List.reverse_perm _).nodup_iff.2 (ups_nodup _ _), fun p hp => ?_⟩; have := ups_mem.1 (List.mem_reverse.1 hp); simpa [uN, usedS] using this
 ·simp [pars] at hps; obtain ⟨_, rfl⟩ := hps; simp [uN, usedS]; omega
 ·have e : pars ⟨k, b, (a : Int), (c : Int)⟩ u = ((ups u (a + c)).drop a ++ (ups u (a + c)).take a).map fun x => [x] := by rcases hk with rfl | rfl <;> simp [pars]
  have e2 : uN ⟨k, b, (a : Int), (c : Int)⟩ = a + c := by rcases hk with rfl | rfl <;> simp [uN, usedS] <;> omega
  rw [e] at hps
  obtain ⟨x, hx, rfl⟩ := List.mem_map.1 hps
  have hx : x ∈ ups u (a + c) := by
   rcases List.mem_append.1 hx with hx | hx
   ·exact List.mem_of_mem_drop hx
   ·exact List.mem_of_mem_take hx
  rw [e2]
  refine ⟨by simp, fun p hp => ?_⟩
  simp at hp; subst hp
  exact ups_mem.1 hx
 ·simp [pars] at hps; obtain ⟨_, rfl⟩ := hps; simp
 ·simp [pars] at hps
def offB (s : api_Stitch) (u : Nat) : List Int := if s.Kind = 10 then ups u s.A.toNat else []
def crs (s : api_Stitch) (n : Nat) : List (Int × Int) :=
 if s.Kind = 6 ∨ s.Kind = 7 then ((List.range s.A.toNat).map fun a => (List.range s.B.toNat).map fun b => if s.Kind = 7 then (((n + b : Nat) : Int), ((n + s.B.toNat + a : Nat) : Int)) else (((n + s.B.toNat + a : Nat) : Int), ((n + b : Nat) : Int))).flatten else []
def mkL (R K : Nat) (pl : Bool) (ps : List (List Int)) : List api_Loop := ps.map fun p => ⟨(R : Int), (K : Int), p, pl⟩
def side (L : List api_Loop) (s : api_Stitch) (u : Nat) : Bool := if s.Kind = 8 then (L[u]?.map fun l => l.Purl).getD false else s.Purl
structure Wk where
 L : List api_Loop
 B : List Int
 C : List (Int × Int)
 u : Nat
def stepW (R K : Nat) (s : api_Stitch) (z : Wk) : Wk := ⟨z.L ++ mkL R K (side z.L s z.u) (pars s z.u), z.B ++ offB s z.u, z.C ++ crs s z.L.length, z.u + uN s⟩
def cellsW (R : Nat) : Nat → List api_Stitch → Wk → Wk
 | _, [], z => z
 | k, s :: l, z => cellsW R (k + 1) l (stepW R k s z)
def rowsW : Nat → List (List api_Stitch) → Wk × List Int → Wk × List Int
 | _, [], z => z
 | i, f :: fs, z => rowsW (i + 1) fs (cellsW (i + 1) 0 f z.1, z.2 ++ [((cellsW (i + 1) 0 f z.1).L.length : Int)])
def faceR (r : api_Row) : List api_Stitch := if r.Back = true then (r.Cells.map othS).reverse else r.Cells
def zeroL (n : Nat) : List api_Loop := (List.range n).map fun i : Nat => (⟨0, (i : Int), [], false⟩ : api_Loop)
def workC (c : api_Chart) : Wk × List Int := rowsW 0 (c.Rows.map faceR) (⟨zeroL c.Start.toNat, [], [], 0⟩, [0, c.Start])
def smN (f : api_Stitch → Nat) : List api_Stitch → Nat
 | [] => 0
 | s :: l => f s + smN f l
theorem smN_used {l : List api_Stitch} (h : allOk l) : (smN uN l : Int) = sm usedS l := by
 induction l with
 | nil => rfl
 | cons s l ih =>
  have h1 := (usedS_bd (h s (by simp))).1
  have h2 := ih fun p hp => h p (by simp [hp])
  simp only [smN, sm, uN] at h2 ⊢
  omega
theorem smN_made {l : List api_Stitch} (h : allOk l) : (smN mN l : Int) = sm madeS l := by
 induction l with
 | nil => rfl
 | cons s l ih =>
  have h1 := (madeS_bd (h s (by simp))).1
  have h2 := ih fun p hp => h p (by simp [hp])
  simp only [smN, sm, mN] at h2 ⊢
  omega
theorem mkL_len (R K : Nat) (pl : Bool) (ps : List (List Int)) : (mkL R K pl ps).length = ps.length := by simp [mkL]
end Go.Proofs.Yticjoiolfibmlaa
