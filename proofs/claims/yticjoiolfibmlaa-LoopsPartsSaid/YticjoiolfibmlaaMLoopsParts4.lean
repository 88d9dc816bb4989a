/- LoopsParts: walks, tables, laws. -/
import Derived.Test.YticjoiolfibmlaaProg
import Derived.Test.YticjoiolfibmlaaRows
import Derived.Test.YticjoiolfibmlaaMLoopsParts3
set_option linter.unusedVariables false
set_option linter.unusedSimpArgs false
set_option maxHeartbeats 4000000
set_option maxRecDepth 100000
namespace Go.Proofs.Yticjoiolfibmlaa
open Go.RowKit
def K_raddlelaw27_one (p0 : Int) (p1 : (List api_Stitch)) : Option api_Chart :=
 some (api_Chart.mk p0 [(api_Row.mk false p1)])
def K_chart_counted (p0 : api_Chart) : Option api_Chart :=
 some p0
def K_stitch_forms (p0 : Int) : Option (stitch_form × Bool) :=
 Option.bind (α := Bool) (
  if decide (p0 < 1) then
   some true
  else
   some (decide (([(stitch_form.mk (⟨#[]⟩ : ByteArray) (0, 0) (0, 0) true 1 1), (stitch_form.mk (⟨#[]⟩ : ByteArray) (0, 0) (0, 0) false 0 1), (stitch_form.mk (⟨#[102]⟩ : ByteArray) (2, 4) (0, 0) true 2 1), (stitch_form.mk (⟨#[108]⟩ : ByteArray) (2, 4) (0, 0) true 2 1), (stitch_form.mk (⟨#[109]⟩ : ByteArray) (2, 4) (0, 0) true 1 2), (stitch_form.mk (⟨#[120]⟩ : ByteArray) (1, 6) (1, 6) true 3 3), (stitch_form.mk (⟨#[121]⟩ : ByteArray) (1, 6) (1, 6) true 3 3), (stitch_form.mk (⟨#[115]⟩ : ByteArray) (0, 0) (0, 0) true 1 1), (stitch_form.mk (⟨#[]⟩ : ByteArray) (1, 200) (0, 0) false 0 2), (stitch_form.mk (⟨#[111]⟩ : ByteArray) (1, 200) (0, 0) true 2 0)].length : Int) < (IntKind.i64.wrap p0)))) fun o12 =>
 if o12 then
  some ((stitch_form.mk (⟨#[]⟩ : ByteArray) (0, 0) (0, 0) false 0 0), false)
 else
  Option.bind (idxO [(stitch_form.mk (⟨#[]⟩ : ByteArray) (0, 0) (0, 0) true 1 1), (stitch_form.mk (⟨#[]⟩ : ByteArray) (0, 0) (0, 0) false 0 1), (stitch_form.mk (⟨#[102]⟩ : ByteArray) (2, 4) (0, 0) true 2 1), (stitch_form.mk (⟨#[108]⟩ : ByteArray) (2, 4) (0, 0) true 2 1), (stitch_form.mk (⟨#[109]⟩ : ByteArray) (2, 4) (0, 0) true 1 2), (stitch_form.mk (⟨#[120]⟩ : ByteArray) (1, 6) (1, 6) true 3 3), (stitch_form.mk (⟨#[121]⟩ : ByteArray) (1, 6) (1, 6) true 3 3), (stitch_form.mk (⟨#[115]⟩ : ByteArray) (0, 0) (0, 0) true 1 1), (stitch_form.mk (⟨#[]⟩ : ByteArray) (1, 200) (0, 0) false 0 2), (stitch_form.mk (⟨#[111]⟩ : ByteArray) (1, 200) (0, 0) true 2 0)] (IntKind.u8.wrap (p0 - 1))) fun x19 =>
  some (x19, true)
def K_stitch_within (p0 : Int) (p1 : (Int × Int)) : Option Bool :=
 Option.bind (α := Bool) (
  if decide (p1.1 ≤ p0) then
   some (decide (p0 ≤ p1.2))
  else
   some false) fun o3 =>
 some o3
def K_stitch_Check (p0 : api_Stitch) : Option Int :=
 Option.bind (K_stitch_forms p0.Kind) fun r4 =>
 Option.bind (α := Bool) (
  if !r4.2 then
   some true
  else
   Option.bind (K_stitch_within p0.A r4.1.a) fun r13 =>
   if !r13 then
    some true
   else
    Option.bind (K_stitch_within p0.B r4.1.b) fun r16 =>
    if !r16 then
     some true
    else
     if p0.Purl then
      some (!r4.1.sided)
     else
      some false) fun o9 =>
 if o9 then
  some 8
 else
  some 0
def K_stitch_All_1 (p0 : api_Stitch) : Option Bool :=
 Option.bind (K_stitch_Check p0) fun r4 =>
 some (r4 != 0)
def K_slices_IndexFunc___api_Stitch_api_Stitch__s0_l1 (p0 : (List api_Stitch)) : Int → Option (Int ⊕ (Int ⊕ Unit)) := fun s0 => match s0 with
 | s7 =>
  if decide (s7 < (p0.length : Int)) then
   Option.bind (idxO p0 s7) fun x17 =>
   Option.bind (K_stitch_All_1 x17) fun r22 =>
   if r22 then
    some (.inr (.inl s7))
   else
    some (.inl (w64 (s7 + 1)))
  else
   some (.inr (.inr ()))
def K_slices_IndexFunc___api_Stitch_api_Stitch__s0 (p0 : (List api_Stitch)) : Option Int :=
 Option.bind (α := Unit ⊕ Int) (
  Option.bind (whileK (K_slices_IndexFunc___api_Stitch_api_Stitch__s0_l1 p0) 0) fun z0 => match z0 with
   | .inl z =>
    some (.inr z)
   | .inr _ =>
    some (.inl ())) fun z0 => match z0 with
  | .inl _ =>
   some (-1)
  | .inr z =>
   some z
def K_slices_ContainsFunc___api_Stitch_api_Stitch__s0 (p0 : (List api_Stitch)) : Option Bool :=
 Option.bind (K_slices_IndexFunc___api_Stitch_api_Stitch__s0 p0) fun r5 =>
 some (decide (0 ≤ r5))
def K_stitch_loops (p0 : api_Stitch) (p1 : Int) : Option Int :=
 Option.bind (idxO ([0, 1, p0.A, w64 (p0.A + p0.B)] : List Int) p1) fun x4 =>
 some x4
def K_stitch_sum_l1 (p0 : (List api_Stitch)) : (Int × Int × Int) → Option ((Int × Int × Int) ⊕ (Int × Int)) := fun s0 => match s0 with
 | (s9, s10, s11) =>
  if decide (s11 < (p0.length : Int)) then
   Option.bind (idxO p0 s11) fun x22 =>
   Option.bind (K_stitch_forms x22.Kind) fun r29 =>
   Option.bind (K_stitch_loops x22 r29.1.uses) fun r34 =>
   Option.bind (K_stitch_loops x22 r29.1.made) fun r36 =>
   some (.inl (w64 (s9 + r34), w64 (s10 + r36), w64 (s11 + 1)))
  else
   some (.inr (s9, s10))
def K_stitch_sum (p0 : (List api_Stitch)) : Option (Int × Int) :=
 Option.bind (α := (Int × Int)) (
  Option.bind (whileK (K_stitch_sum_l1 p0) (0, 0, 0)) fun (e15, e16) =>
   some (e15, e16)) fun (o4, o5) =>
 some (o4, o5)
def K_stitch_All (p0 : (List api_Stitch)) : Option Int :=
 if decide (200 < (p0.length : Int)) then
  some 4
 else
  Option.bind (K_slices_ContainsFunc___api_Stitch_api_Stitch__s0 p0) fun r10 =>
  if r10 then
   some 8
  else
   Option.bind (K_stitch_sum p0) fun r16 =>
   if decide (200 < (if r16.1 < r16.2 then r16.2 else r16.1)) then
    some 4
   else
    some 0
def K_stitch_Uses (p0 : (List api_Stitch)) : Option (Int × Int) :=
 Option.bind (K_stitch_All p0) fun r6 =>
 if r6 != 0 then
  some (0, r6)
 else
  Option.bind (K_stitch_sum p0) fun r12 =>
  some (r12.1, 0)
def K_stitch_Makes (p0 : (List api_Stitch)) : Option (Int × Int) :=
 Option.bind (K_stitch_All p0) fun r6 =>
 if r6 != 0 then
  some (0, r6)
 else
  Option.bind (K_stitch_sum p0) fun r12 =>
  some (r12.2, 0)
def K_chart_counted_1_l1 {σ τ : Type} (p0 : api_Chart) (B : σ → (Int × chart_count) → Option (σ ⊕ τ)) : (Int × Int × σ) → Option ((Int × Int × σ) ⊕ ((σ ⊕ τ) ⊕ (σ))) := fun s0 => match s0 with
 | (s11, s12, gz13) =>
  if decide (s12 < (p0.Rows.length : Int)) then
   Option.bind (idxO p0.Rows s12) fun x23 =>
   Option.bind (K_stitch_Uses x23.Cells) fun r36 =>
   Option.bind (α := (Int × Int)) (
    if r36.2 != 0 then
     some (0, r36.2)
    else
     if r36.1 != s11 then
      some (0, 26)
     else
      Option.bind (K_stitch_Makes x23.Cells) fun r46 =>
      some (r46.1, 0)) fun (o38, o39) =>
   Option.bind (B gz13 (s12, (chart_count.mk s11 o38 o39))) fun y51 =>
   match y51 with
   | .inl gz53 =>
    if ((chart_count.mk s11 o38 o39).e) != 0 then
     some (.inr (.inl (.inl gz53)))
    else
     some (.inl ((chart_count.mk s11 o38 o39).after, w64 (s12 + 1), gz53))
   | .inr tz54 =>
    some (.inr (.inl (.inr tz54)))
  else
   some (.inr (.inr gz13))
def K_I_chart_counted_1 (p0 : api_Chart) (σ τ : Type) (B : σ → (Int × chart_count) → Option (σ ⊕ τ)) (gz0 : σ) : Option (σ ⊕ τ) :=
 Option.bind (whileK (K_chart_counted_1_l1 p0 B) (p0.Start, 0, gz0)) fun z0 => match z0 with
  | .inl z =>
   some z
  | .inr gz17 =>
   some (.inl gz17)
def K_chart_Check_l2  : Unit → (Int × chart_count) → Option (Unit ⊕ Int) := fun s0 x0 => match s0, x0 with
 | _, (x25, x27) =>
  if x27.e != 0 then
   some (.inr x27.e)
  else
   some (.inl ())
def K_chart_Check (p0 : api_Chart) : Option Int :=
 if decide (100 < (p0.Rows.length : Int)) then
  some 4
 else
  Option.bind (α := Bool) (
   if decide (p0.Start < 0) then
    some true
   else
    some (decide (200 < p0.Start))) fun o13 =>
  if o13 then
   some 8
  else
   Option.bind (K_chart_counted p0) fun r21 =>
   Option.bind (K_I_chart_counted_1 r21 _ _ (K_chart_Check_l2) ()) fun z0 => match z0 with
    | .inl _ =>
     some 0
    | .inr e24 =>
     some e24
def K_loops_of_l1 (p0 : api_Chart) : (Int × List api_Loop) → Option ((Int × List api_Loop) ⊕ List api_Loop) := fun s0 => match s0 with
 | (s21, s22) =>
  if decide (s21 < p0.Start) then
   Option.bind (appO s22 [(api_Loop.mk 0 s21 ([] : (List Int)) false)]) fun l38 =>
   some (.inl (w64 (s21 + 1), l38))
  else
   some (.inr s22)
def K_slices_Backward___api_Stitch_api_Stitch_ (p0 : (List api_Stitch)) : Option (List api_Stitch) :=
 some p0
def K_slices_Backward___api_Stitch_api_Stitch__1_l1 {σ τ : Type} (p0 : (List api_Stitch)) (B : σ → (Int × api_Stitch) → Option (σ ⊕ τ)) : (Int × σ) → Option ((Int × σ) ⊕ ((σ ⊕ τ) ⊕ (σ))) := fun s0 => match s0 with
 | (s5, gz6) =>
  if decide (0 ≤ s5) then
   Option.bind (idxO p0 s5) fun x20 =>
   Option.bind (B gz6 (s5, x20)) fun y25 =>
   match y25 with
   | .inl gz27 =>
    some (.inl (w64 (s5 - 1), gz27))
   | .inr tz28 =>
    some (.inr (.inl (.inr tz28)))
  else
   some (.inr (.inr gz6))
def K_I_slices_Backward___api_Stitch_api_Stitch__1 (p0 : (List api_Stitch)) (σ τ : Type) (B : σ → (Int × api_Stitch) → Option (σ ⊕ τ)) (gz0 : σ) : Option (σ ⊕ τ) :=
 Option.bind (whileK (K_slices_Backward___api_Stitch_api_Stitch__1_l1 p0 B) (w64 ((p0.length : Int) - 1), gz0)) fun z0 => match z0 with
  | .inl z =>
   some z
  | .inr gz10 =>
   some (.inl gz10)
def K_stitch_Turn_l2  : List api_Stitch → (Int × api_Stitch) → Option (List api_Stitch ⊕ Empty) := fun s0 x0 => match s0, x0 with
 | s22, (x25, x27) =>
  Option.bind (K_stitch_forms x27.Kind) fun r31 =>
  Option.bind (α := Bool) (
   if r31.1.sided then
    some (!x27.Purl)
   else
    some false) fun o35 =>
  Option.bind (α := (Int × Int)) (
   if decide (0 < r31.1.b.2) then
    some (x27.B, x27.A)
   else
    some (x27.A, x27.B)) fun (o39, o40) =>
  Option.bind (appO s22 [(api_Stitch.mk x27.Kind o35 o39 o40)]) fun l47 =>
  some (.inl l47)
def K_stitch_Turn (p0 : (List api_Stitch)) : Option ((List api_Stitch) × Int) :=
 Option.bind (K_stitch_All p0) fun r6 =>
 if r6 != 0 then
  some (([] : (List api_Stitch)), r6)
 else
  Option.bind (capO (p0.length : Int)) fun z14 =>
  Option.bind (K_slices_Backward___api_Stitch_api_Stitch_ p0) fun r19 =>
  Option.bind (K_I_slices_Backward___api_Stitch_api_Stitch__1 r19 _ _ (K_stitch_Turn_l2) ([] : List api_Stitch)) fun z0 => match z0 with
   | .inl s22 =>
    some (s22, 0)
   | .inr z0 =>
    nomatch z0
def K_slices_Clone___api_Stitch_api_Stitch_ (p0 : (List api_Stitch)) : Option (List api_Stitch) :=
 Option.bind (appO ([] : List api_Stitch) p0) fun l12 =>
 some l12
def K_chart_Face (p0 : api_Chart) (p1 : Int) : Option ((List api_Stitch) × Int) :=
 Option.bind (K_chart_Check p0) fun r9 =>
 if r9 != 0 then
  some (([] : (List api_Stitch)), r9)
 else
  Option.bind (α := Bool) (
   if decide (p1 < 0) then
    some true
   else
    some (decide ((p0.Rows.length : Int) ≤ p1))) fun o15 =>
  if o15 then
   some (([] : (List api_Stitch)), 2)
  else
   Option.bind (idxO p0.Rows p1) fun x23 =>
   if x23.Back then
    Option.bind (K_stitch_Turn x23.Cells) fun r39 =>
    some (r39.1, r39.2)
   else
    Option.bind (K_slices_Clone___api_Stitch_api_Stitch_ x23.Cells) fun r52 =>
    some (r52, 0)
def K_loops_piece_take_s3_l1 (m5 : List Int) (p0 : loops_piece) : (List Int × Int) → Option ((List Int × Int) ⊕ List Int) := fun s0 => match s0 with
 | (s19, s20) =>
  if decide (s20 < (m5.length : Int)) then
   Option.bind (idxO s19 s20) fun x46 =>
   Option.bind (setO s19 s20 (w64 (p0.next + s20))) fun l51 =>
   some (.inl (l51, w64 (s20 + 1)))
  else
   some (.inr s19)
def K_loops_piece_take_s3 (p0 : loops_piece) (p1 : Int) : Option ((List Int) × loops_piece) :=
 Option.bind (makeO p1 (0 : Int)) fun m5 =>
 Option.bind (α := List Int) (
  Option.bind (whileK (K_loops_piece_take_s3_l1 m5 p0) (m5, 0)) fun e32 =>
   some e32) fun o7 =>
 some (o7, (loops_piece.mk p0.loops p0.rows p0.bound p0.cross (w64 (p0.next + p1))))
def K_loops_piece_add_s1_l1 (p2 : (List (List Int))) (p1 : api_Loop) : (Int × List api_Loop × List Int) → Option ((Int × List api_Loop × List Int) ⊕ List api_Loop) := fun s0 => match s0 with
 | (s10, s11, s20) =>
  if decide (s10 < (p2.length : Int)) then
   Option.bind (idxO p2 s10) fun x40 =>
   Option.bind (appO s11 [(api_Loop.mk p1.Row p1.Cell x40 p1.Purl)]) fun l50 =>
   some (.inl (w64 (s10 + 1), l50, x40))
  else
   some (.inr s11)
def K_loops_piece_add_s1 (p0 : loops_piece) (p1 : api_Loop) (p2 : (List (List Int))) : Option loops_piece :=
 Option.bind (whileK (K_loops_piece_add_s1_l1 p2 p1) (0, p0.loops, p1.Parents)) fun e26 =>
  some (loops_piece.mk e26 p0.rows p0.bound p0.cross p0.next)
def K_slices_Reverse___int_int__s0_l1  : (List Int × Int × Int) → Option ((List Int × Int × Int) ⊕ List Int) := fun s0 => match s0 with
 | (s2, s3, s4) =>
  if decide (s3 < s4) then
   Option.bind (idxO s2 s4) fun x13 =>
   Option.bind (idxO s2 s3) fun x18 =>
   Option.bind (setO s2 s3 x13) fun l26 =>
   Option.bind (idxO l26 s4) fun x28 =>
   Option.bind (setO l26 s4 x18) fun l33 =>
   some (.inl (l33, w64 (s3 + 1), w64 (s4 - 1)))
  else
   some (.inr s2)
def K_slices_Reverse___int_int__s0 (p0 : (List Int)) : Option (List Int) :=
 Option.bind (whileK (K_slices_Reverse___int_int__s0_l1) (p0, 0, w64 ((p0.length : Int) - 1))) fun e8 =>
  (keepO p0 e8).bind fun _ =>
  some e8
def K_slices_Clone___int_int__s0 (p0 : (List Int)) : Option (List Int) :=
 Option.bind (appO ([] : List Int) p0) fun l12 =>
 some l12
def K_loops_piece_work_s1_l1 (p3 : api_Stitch) (r9 : ((List Int) × loops_piece)) (p1 : Int) (p2 : Int) : (Int × List api_Loop × List Int × List Int × List (Int × Int) × Int) → Option ((Int × List api_Loop × List Int × List Int × List (Int × Int) × Int) ⊕ (List api_Loop × List Int × List Int × List (Int × Int) × Int)) := fun s0 => match s0 with
 | (s140, s141, s144, s147, s150, s153) =>
  if decide (s140 < p3.A) then
   Option.bind (K_slices_Clone___int_int__s0 r9.1) fun r174 =>
   Option.bind (K_loops_piece_add_s1 (loops_piece.mk s141 s144 s147 s150 s153) (api_Loop.mk p1 p2 ([] : (List Int)) p3.Purl) [r174]) fun r180 =>
   some (.inl (w64 (s140 + 1), r180.loops, r180.rows, r180.bound, r180.cross, r180.next))
  else
   some (.inr (s141, s144, s147, s150, s153))
def K_slices_Concat___int_int__l1 (p0 : (List (List Int))) : (Int × Int) → Option ((Int × Int) ⊕ Int) := fun s0 => match s0 with
 | (s9, s10) =>
  if decide (s10 < (p0.length : Int)) then
   Option.bind (idxO p0 s10) fun x20 =>
   if decide ((w64 (s9 + (x20.length : Int))) < 0) then
    none
   else
    some (.inl (w64 (s9 + (x20.length : Int)), w64 (s10 + 1)))
  else
   some (.inr s9)
def K_slices_Grow___int_int__s1 (p0 : Int) : Option (List Int) :=
 if decide (p0 < 0) then
  none
 else
  Option.bind (α := List Int) (
   if decide (0 < (w64 (p0 - (w64 ((0 : Int) - 0))))) then
    Option.bind (appZ (w64 (p0 - (w64 ((0 : Int) - 0)))) (0 : Int)) fun m15 =>
    Option.bind (sliceO m15 0 0) fun y17 =>
    some y17
   else
    some ([] : List Int)) fun o5 =>
  some o5
def K_slices_Concat___int_int__l2 (p0 : (List (List Int))) : (List Int × Int) → Option ((List Int × Int) ⊕ List Int) := fun s0 => match s0 with
 | (s41, s44) =>
  if decide (s44 < (p0.length : Int)) then
   Option.bind (idxO p0 s44) fun x56 =>
   Option.bind (appO s41 x56) fun l63 =>
   some (.inl (l63, w64 (s44 + 1)))
  else
   some (.inr s41)
def K_slices_Concat___int_int_ (p0 : (List (List Int))) : Option (List Int) :=
 Option.bind (α := Int) (
  Option.bind (whileK (K_slices_Concat___int_int__l1 p0) (0, 0)) fun e14 =>
   some e14) fun o5 =>
 Option.bind (K_slices_Grow___int_int__s1 o5) fun r31 =>
 Option.bind (α := List Int) (
  Option.bind (whileK (K_slices_Concat___int_int__l2 p0) (r31, 0)) fun e48 =>
   some e48) fun o35 =>
 some o35
def K_loops_piece_cable_s1_l1 (r37 : (List Int)) (p1 : api_Loop) : (Int × List api_Loop × List Int × List Int × List (Int × Int) × Int) → Option ((Int × List api_Loop × List Int × List Int × List (Int × Int) × Int) ⊕ (List api_Loop × List Int × List Int × List (Int × Int) × Int)) := fun s0 => match s0 with
 | (s51, s52, s55, s58, s61, s64) =>
  if decide (s51 < (r37.length : Int)) then
   Option.bind (idxO r37 s51) fun x86 =>
   Option.bind (K_loops_piece_add_s1 (loops_piece.mk s52 s55 s58 s61 s64) p1 [([x86] : List Int)]) fun r95 =>
   some (.inl (w64 (s51 + 1), r95.loops, r95.rows, r95.bound, r95.cross, r95.next))
  else
   some (.inr (s52, s55, s58, s61, s64))
def K_slices_Reverse___int_int__s1_l1  : (Int × Int × Int × Int) → Option ((Int × Int × Int × Int) ⊕ (Int × Int)) := fun s0 => match s0 with
 | (s2, s3, s4, s5) =>
  if decide (s2 < s3) then
   Option.bind (idxO ([s4, s5] : List Int) s3) fun x15 =>
   Option.bind (idxO ([s4, s5] : List Int) s2) fun x17 =>
   Option.bind (idxO ([(if s2 = 0 then x15 else s4), (if s2 = 1 then x15 else s5)] : List Int) s3) fun x20 =>
   some (.inl (w64 (s2 + 1), w64 (s3 - 1), (if s3 = 0 then x17 else (if s2 = 0 then x15 else s4)), (if s3 = 1 then x17 else (if s2 = 1 then x15 else s5))))
  else
   some (.inr (s4, s5))
def K_slices_Reverse___int_int__s1 (p0 : (Int × Int)) : Option (Int × Int) :=
 Option.bind (whileK (K_slices_Reverse___int_int__s1_l1) (0, w64 (((2 : Nat) : Int) - 1), p0.1, p0.2)) fun (e9, e10) =>
  some (e9, e10)
def K_loops_piece_cable_s1_l2 (p2 : api_Stitch) (p0 : loops_piece) (s110 : Int) : (Int × List (Int × Int)) → Option ((Int × List (Int × Int)) ⊕ List (Int × Int)) := fun s0 => match s0 with
 | (s130, s131) =>
  if decide (s130 < p2.B) then
   Option.bind (α := (Int × Int)) (
    if p2.Kind == 7 then
     Option.bind (K_slices_Reverse___int_int__s1 (w64 ((w64 ((p0.loops.length : Int) + p2.B)) + s110), w64 ((p0.loops.length : Int) + s130))) fun r153 =>
     some (r153.1, r153.2)
    else
     some (w64 ((w64 ((p0.loops.length : Int) + p2.B)) + s110), w64 ((p0.loops.length : Int) + s130))) fun (o147, o148) =>
   Option.bind (appO s131 [(o147, o148)]) fun l157 =>
   some (.inl (w64 (s130 + 1), l157))
  else
   some (.inr s131)
def K_loops_piece_cable_s1_l3 (p2 : api_Stitch) (p0 : loops_piece) : (Int × List (Int × Int)) → Option ((Int × List (Int × Int)) ⊕ List (Int × Int)) := fun s0 => match s0 with
 | (s110, s111) =>
  if decide (s110 < p2.A) then
   Option.bind (α := List (Int × Int)) (
    Option.bind (whileK (K_loops_piece_cable_s1_l2 p2 p0 s110) (0, s111)) fun e137 =>
     some e137) fun o123 =>
   some (.inl (w64 (s110 + 1), o123))
  else
   some (.inr s111)
def K_loops_piece_cable_s1 (p0 : loops_piece) (p1 : api_Loop) (p2 : api_Stitch) (p3 : (List Int)) : Option loops_piece :=
 Option.bind (α := (List api_Loop × List Int × List Int × List (Int × Int) × Int)) (
  Option.bind (sliceO p3 p2.A (p3.length : Int)) fun y27 =>
  Option.bind (sliceO p3 0 p2.A) fun y31 =>
  Option.bind (K_slices_Concat___int_int_ [y27, y31]) fun r37 =>
  Option.bind (whileK (K_loops_piece_cable_s1_l1 r37 p1) (0, p0.loops, p0.rows, p0.bound, p0.cross, p0.next)) fun (e68, e71, e74, e77, e80) =>
   some (e68, e71, e74, e77, e80)) fun (o11, o14, o17, o20, o23) =>
 Option.bind (whileK (K_loops_piece_cable_s1_l3 p2 p0) (0, o20)) fun e117 =>
  some (loops_piece.mk o11 o14 o17 e117 o23)
def K_loops_piece_work_s1 (p0 : loops_piece) (p1 : Int) (p2 : Int) (p3 : api_Stitch) : Option loops_piece :=
 Option.bind (K_stitch_Uses [p3]) fun r6 =>
 Option.bind (K_loops_piece_take_s3 p0 r6.1) fun r9 =>
 Option.bind (α := Bool) (
  if p3.Kind == 2 then
   some (p3.Kind == 2)
  else
   some (p3.Kind == 9)) fun o24 =>
 if o24 then
  Option.bind (makeO (if (1 : Int) < p3.A then p3.A else 1) ([] : (List Int))) fun m32 =>
  Option.bind (K_loops_piece_add_s1 r9.2 (api_Loop.mk p1 p2 ([] : (List Int)) p3.Purl) m32) fun r34 =>
  some r34
 else
  if p3.Kind == 1 then
   Option.bind (K_loops_piece_add_s1 r9.2 (api_Loop.mk p1 p2 ([] : (List Int)) p3.Purl) [r9.1]) fun r58 =>
   some r58
  else
   if p3.Kind == 8 then
    Option.bind (idxO r9.1 0) fun x71 =>
    Option.bind (idxO r9.2.loops x71) fun x76 =>
    Option.bind (K_loops_piece_add_s1 r9.2 (api_Loop.mk p1 p2 ([] : (List Int)) x76.Purl) [r9.1]) fun r95 =>
    some r95
   else
    if p3.Kind == 4 then
     Option.bind (K_slices_Reverse___int_int__s0 r9.1) fun r108 =>
     Option.bind (K_loops_piece_add_s1 r9.2 (api_Loop.mk p1 p2 ([] : (List Int)) p3.Purl) [r108]) fun r113 =>
     some r113
    else
     if p3.Kind == 3 then
      Option.bind (K_loops_piece_add_s1 r9.2 (api_Loop.mk p1 p2 ([] : (List Int)) p3.Purl) [r9.1]) fun r127 =>
      some r127
     else
      if p3.Kind == 5 then
       Option.bind (whileK (K_loops_piece_work_s1_l1 p3 r9 p1 p2) (0, r9.2.loops, r9.2.rows, r9.2.bound, r9.2.cross, r9.2.next)) fun (e157, e160, e163, e166, e169) =>
        some (loops_piece.mk e157 e160 e163 e166 e169)
      else
       if p3.Kind == 10 then
        Option.bind (appO r9.2.bound r9.1) fun l204 =>
        some (loops_piece.mk r9.2.loops r9.2.rows l204 r9.2.cross r9.2.next)
       else
        Option.bind (K_loops_piece_cable_s1 r9.2 (api_Loop.mk p1 p2 ([] : (List Int)) p3.Purl) p3 r9.1) fun r208 =>
        some r208
def K_loops_of_l2 (r111 : ((List api_Stitch) × Int)) (s61 : Int) : (Int × List api_Loop × List Int × List Int × List (Int × Int) × Int) → Option ((Int × List api_Loop × List Int × List Int × List (Int × Int) × Int) ⊕ (List api_Loop × List Int × List Int × List (Int × Int) × Int)) := fun s0 => match s0 with
 | (s132, s133, s136, s139, s142, s145) =>
  if decide (s132 < (r111.1.length : Int)) then
   Option.bind (idxO r111.1 s132) fun x167 =>
   Option.bind (K_loops_piece_work_s1 (loops_piece.mk s133 s136 s139 s142 s145) (w64 (s61 + 1)) s132 x167) fun r173 =>
   some (.inl (w64 (s132 + 1), r173.loops, r173.rows, r173.bound, r173.cross, r173.next))
  else
   some (.inr (s133, s136, s139, s142, s145))
def K_loops_of_l3 (p0 : api_Chart) : (Int × List api_Loop × List Int × List Int × List (Int × Int) × Int) → Option ((Int × List api_Loop × List Int × List Int × List (Int × Int) × Int) ⊕ (List api_Loop × List Int × List Int × List (Int × Int) × Int)) := fun s0 => match s0 with
 | (s61, s62, s65, s68, s71, s74) =>
  if decide (s61 < (p0.Rows.length : Int)) then
   Option.bind (α := (List api_Loop × List Int × List Int × List (Int × Int) × Int)) (
    Option.bind (K_chart_Face p0 s61) fun r111 =>
    Option.bind (α := (List api_Loop × List Int × List Int × List (Int × Int) × Int)) (
     Option.bind (whileK (K_loops_of_l2 r111 s61) (0, s62, s65, s68, s71, s74)) fun (e149, e152, e155, e158, e161) =>
      some (e149, e152, e155, e158, e161)) fun (o116, o119, o122, o125, o128) =>
    Option.bind (appO o119 ([(o116.length : Int)] : List Int)) fun l185 =>
    some (o116, l185, o122, o125, o128)) fun (o94, o97, o100, o103, o106) =>
   some (.inl (w64 (s61 + 1), o94, o97, o100, o103, o106))
  else
   some (.inr (s62, s65, s68, s71, s74))
def K_loops_of (p0 : api_Chart) : Option (loops_piece × Int) :=
 Option.bind (K_chart_Check p0) fun r10 =>
 if r10 != 0 then
  some ((loops_piece.mk ([] : (List api_Loop)) ([] : (List Int)) ([] : (List Int)) ([] : (List (Int × Int))) 0), r10)
 else
  Option.bind (α := List api_Loop) (
   Option.bind (whileK (K_loops_of_l1 p0) (0, ([] : List api_Loop))) fun e28 =>
    some e28) fun o15 =>
  Option.bind (α := (List api_Loop × List Int × List Int × List (Int × Int) × Int)) (
   Option.bind (whileK (K_loops_of_l3 p0) (0, o15, ([0, p0.Start] : List Int), ([] : List Int), ([] : List (Int × Int)), 0)) fun (e78, e81, e84, e87, e90) =>
    some (e78, e81, e84, e87, e90)) fun (o45, o48, o51, o54, o57) =>
  some ((loops_piece.mk o45 o48 o51 o54 o57), 0)
def K_loops_Of (p0 : api_Chart) : Option ((List api_Loop) × Int) :=
 Option.bind (K_loops_of p0) fun r8 =>
 some (r8.1.loops, r8.2)
def K_loops_Crossings (p0 : api_Chart) : Option ((List (Int × Int)) × Int) :=
 Option.bind (K_loops_of p0) fun r8 =>
 some (r8.1.cross, r8.2)
def K_loops_Bound (p0 : api_Chart) : Option ((List Int) × Int) :=
 Option.bind (K_loops_of p0) fun r8 =>
 some (r8.1.bound, r8.2)
def K_raddleref26_SameInts_l1 (p0 : (List Int)) (p1 : (List Int)) : Int → Option (Int ⊕ (Bool ⊕ Unit)) := fun s0 => match s0 with
 | s13 =>
  if decide (s13 < (p0.length : Int)) then
   Option.bind (idxO p0 s13) fun x22 =>
   Option.bind (idxO p1 s13) fun x27 =>
   if x22 != x27 then
    some (.inr (.inl false))
   else
    some (.inl (w64 (s13 + 1)))
  else
   some (.inr (.inr ()))
def K_raddleref26_SameInts (p0 : (List Int)) (p1 : (List Int)) : Option Bool :=
 if (p0.length : Int) != (p1.length : Int) then
  some false
 else
  Option.bind (α := Unit ⊕ Bool) (
   Option.bind (whileK (K_raddleref26_SameInts_l1 p0 p1) 0) fun z0 => match z0 with
    | .inl z =>
     some (.inr z)
    | .inr _ =>
     some (.inl ())) fun z0 => match z0 with
   | .inl _ =>
    some true
   | .inr z =>
    some z
def K_raddleref27_SamePairs_l1 (p0 : (List (Int × Int))) (p1 : (List (Int × Int))) : Int → Option (Int ⊕ (Bool ⊕ Unit)) := fun s0 => match s0 with
 | s13 =>
  if decide (s13 < (p0.length : Int)) then
   Option.bind (idxO p0 s13) fun x22 =>
   Option.bind (idxO p1 s13) fun x27 =>
   if !((x22.1 == x27.1) && ((x22.2 == x27.2) && true)) then
    some (.inr (.inl false))
   else
    some (.inl (w64 (s13 + 1)))
  else
   some (.inr (.inr ()))
def K_raddleref27_SamePairs (p0 : (List (Int × Int))) (p1 : (List (Int × Int))) : Option Bool :=
 if (p0.length : Int) != (p1.length : Int) then
  some false
 else
  Option.bind (α := Unit ⊕ Bool) (
   Option.bind (whileK (K_raddleref27_SamePairs_l1 p0 p1) 0) fun z0 => match z0 with
    | .inl z =>
     some (.inr z)
    | .inr _ =>
     some (.inl ())) fun z0 => match z0 with
   | .inl _ =>
    some true
   | .inr z =>
    some z
theorem m_F_raddlelaw27_one (p0 : Int) (p1 : (List api_Stitch)) : Le (K_raddlelaw27_one p0 p1) (F_raddlelaw27_one p0 p1) := by
 unfold K_raddlelaw27_one F_raddlelaw27_one
 with_reducible repeat' (first | exact Le.rfl _ | refine Le.loop _ ?_ | refine Le.bind ?_ ?_ | refine Le.ite ?_ ?_ | refine Le.sum ?_ ?_ | refine Le.prod ?_ | intro _ | exact Empty.elim (by assumption) | dsimp only)
theorem m_F_chart_counted (p0 : api_Chart) : Le (K_chart_counted p0) (F_chart_counted p0) := by
 unfold K_chart_counted F_chart_counted
 with_reducible repeat' (first | exact Le.rfl _ | refine Le.loop _ ?_ | refine Le.bind ?_ ?_ | refine Le.ite ?_ ?_ | refine Le.sum ?_ ?_ | refine Le.prod ?_ | intro _ | exact Empty.elim (by assumption) | dsimp only)
theorem m_F_stitch_forms (p0 : Int) : Le (K_stitch_forms p0) (F_stitch_forms p0) := by
 unfold K_stitch_forms F_stitch_forms
 with_reducible repeat' (first | exact Le.rfl _ | refine Le.loop _ ?_ | refine Le.bind ?_ ?_ | refine Le.ite ?_ ?_ | refine Le.sum ?_ ?_ | refine Le.prod ?_ | intro _ | exact Empty.elim (by assumption) | dsimp only)
theorem m_F_stitch_within (p0 : Int) (p1 : (Int × Int)) : Le (K_stitch_within p0 p1) (F_stitch_within p0 p1) := by
 unfold K_stitch_within F_stitch_within
 with_reducible repeat' (first | exact Le.rfl _ | refine Le.loop _ ?_ | refine Le.bind ?_ ?_ | refine Le.ite ?_ ?_ | refine Le.sum ?_ ?_ | refine Le.prod ?_ | intro _ | exact Empty.elim (by assumption) | dsimp only)
theorem m_F_stitch_Check (p0 : api_Stitch) : Le (K_stitch_Check p0) (F_stitch_Check p0) := by
 unfold K_stitch_Check F_stitch_Check
 with_reducible repeat' (first | exact m_F_stitch_forms _ | exact m_F_stitch_within _ _ | exact Le.rfl _ | refine Le.loop _ ?_ | refine Le.bind ?_ ?_ | refine Le.ite ?_ ?_ | refine Le.sum ?_ ?_ | refine Le.prod ?_ | intro _ | exact Empty.elim (by assumption) | dsimp only)
theorem m_F_stitch_All_1 (p0 : api_Stitch) : Le (K_stitch_All_1 p0) (F_stitch_All_1 p0) := by
 unfold K_stitch_All_1 F_stitch_All_1
 with_reducible repeat' (first | exact m_F_stitch_Check _ | exact Le.rfl _ | refine Le.loop _ ?_ | refine Le.bind ?_ ?_ | refine Le.ite ?_ ?_ | refine Le.sum ?_ ?_ | refine Le.prod ?_ | intro _ | exact Empty.elim (by assumption) | dsimp only)
theorem m_slices_IndexFunc___api_Stitch_api_Stitch__s0_l1 (p0 : (List api_Stitch)) : ∀ s, Le (K_slices_IndexFunc___api_Stitch_api_Stitch__s0_l1 p0 s) (slices_IndexFunc___api_Stitch_api_Stitch__s0_l1 p0 s) := by
 unfold K_slices_IndexFunc___api_Stitch_api_Stitch__s0_l1 slices_IndexFunc___api_Stitch_api_Stitch__s0_l1
 with_reducible repeat' (first | exact m_F_stitch_All_1 _ | exact Le.rfl _ | refine Le.loop _ ?_ | refine Le.bind ?_ ?_ | refine Le.ite ?_ ?_ | refine Le.sum ?_ ?_ | refine Le.prod ?_ | intro _ | exact Empty.elim (by assumption) | dsimp only)
theorem m_F_slices_IndexFunc___api_Stitch_api_Stitch__s0 (p0 : (List api_Stitch)) : Le (K_slices_IndexFunc___api_Stitch_api_Stitch__s0 p0) (F_slices_IndexFunc___api_Stitch_api_Stitch__s0 p0) := by
 unfold K_slices_IndexFunc___api_Stitch_api_Stitch__s0 F_slices_IndexFunc___api_Stitch_api_Stitch__s0
 with_reducible repeat' (first | exact m_slices_IndexFunc___api_Stitch_api_Stitch__s0_l1 _ | exact Le.rfl _ | refine Le.loop _ ?_ | refine Le.bind ?_ ?_ | refine Le.ite ?_ ?_ | refine Le.sum ?_ ?_ | refine Le.prod ?_ | intro _ | exact Empty.elim (by assumption) | dsimp only)
theorem m_F_slices_ContainsFunc___api_Stitch_api_Stitch__s0 (p0 : (List api_Stitch)) : Le (K_slices_ContainsFunc___api_Stitch_api_Stitch__s0 p0) (F_slices_ContainsFunc___api_Stitch_api_Stitch__s0 p0) := by
 unfold K_slices_ContainsFunc___api_Stitch_api_Stitch__s0 F_slices_ContainsFunc___api_Stitch_api_Stitch__s0
 with_reducible repeat' (first | exact m_F_slices_IndexFunc___api_Stitch_api_Stitch__s0 _ | exact Le.rfl _ | refine Le.loop _ ?_ | refine Le.bind ?_ ?_ | refine Le.ite ?_ ?_ | refine Le.sum ?_ ?_ | refine Le.prod ?_ | intro _ | exact Empty.elim (by assumption) | dsimp only)
theorem m_F_stitch_loops (p0 : api_Stitch) (p1 : Int) : Le (K_stitch_loops p0 p1) (F_stitch_loops p0 p1) := by
 unfold K_stitch_loops F_stitch_loops
 with_reducible repeat' (first | exact Le.rfl _ | refine Le.loop _ ?_ | refine Le.bind ?_ ?_ | refine Le.ite ?_ ?_ | refine Le.sum ?_ ?_ | refine Le.prod ?_ | intro _ | exact Empty.elim (by assumption) | dsimp only)
theorem m_stitch_sum_l1 (p0 : (List api_Stitch)) : ∀ s, Le (K_stitch_sum_l1 p0 s) (stitch_sum_l1 p0 s) := by
 unfold K_stitch_sum_l1 stitch_sum_l1
 with_reducible repeat' (first | exact m_F_stitch_forms _ | exact m_F_stitch_loops _ _ | exact Le.rfl _ | refine Le.loop _ ?_ | refine Le.bind ?_ ?_ | refine Le.ite ?_ ?_ | refine Le.sum ?_ ?_ | refine Le.prod ?_ | intro _ | exact Empty.elim (by assumption) | dsimp only)
theorem m_F_stitch_sum (p0 : (List api_Stitch)) : Le (K_stitch_sum p0) (F_stitch_sum p0) := by
 unfold K_stitch_sum F_stitch_sum
 with_reducible repeat' (first | exact m_stitch_sum_l1 _ | exact Le.rfl _ | refine Le.loop _ ?_ | refine Le.bind ?_ ?_ | refine Le.ite ?_ ?_ | refine Le.sum ?_ ?_ | refine Le.prod ?_ | intro _ | exact Empty.elim (by assumption) | dsimp only)
theorem m_F_stitch_All (p0 : (List api_Stitch)) : Le (K_stitch_All p0) (F_stitch_All p0) := by
 unfold K_stitch_All F_stitch_All
 with_reducible repeat' (first | exact m_F_slices_ContainsFunc___api_Stitch_api_Stitch__s0 _ | exact m_F_stitch_sum _ | exact Le.rfl _ | refine Le.loop _ ?_ | refine Le.bind ?_ ?_ | refine Le.ite ?_ ?_ | refine Le.sum ?_ ?_ | refine Le.prod ?_ | intro _ | exact Empty.elim (by assumption) | dsimp only)
theorem m_F_stitch_Uses (p0 : (List api_Stitch)) : Le (K_stitch_Uses p0) (F_stitch_Uses p0) := by
 unfold K_stitch_Uses F_stitch_Uses
 with_reducible repeat' (first | exact m_F_stitch_All _ | exact m_F_stitch_sum _ | exact Le.rfl _ | refine Le.loop _ ?_ | refine Le.bind ?_ ?_ | refine Le.ite ?_ ?_ | refine Le.sum ?_ ?_ | refine Le.prod ?_ | intro _ | exact Empty.elim (by assumption) | dsimp only)
theorem m_F_stitch_Makes (p0 : (List api_Stitch)) : Le (K_stitch_Makes p0) (F_stitch_Makes p0) := by
 unfold K_stitch_Makes F_stitch_Makes
 with_reducible repeat' (first | exact m_F_stitch_All _ | exact m_F_stitch_sum _ | exact Le.rfl _ | refine Le.loop _ ?_ | refine Le.bind ?_ ?_ | refine Le.ite ?_ ?_ | refine Le.sum ?_ ?_ | refine Le.prod ?_ | intro _ | exact Empty.elim (by assumption) | dsimp only)
theorem m_chart_counted_1_l1 {σ τ : Type} (p0 : api_Chart) (B B' : σ → (Int × chart_count) → Option (σ ⊕ τ)) (hB : ∀ s x, Le (B s x) (B' s x)) : ∀ s, Le (K_chart_counted_1_l1 p0 B s) (chart_counted_1_l1 p0 B' s) := by
 unfold K_chart_counted_1_l1 chart_counted_1_l1
 with_reducible repeat' (first | exact hB _ _ | exact m_F_stitch_Uses _ | exact m_F_stitch_Makes _ | exact Le.rfl _ | refine Le.loop _ ?_ | refine Le.bind ?_ ?_ | refine Le.ite ?_ ?_ | refine Le.sum ?_ ?_ | refine Le.prod ?_ | intro _ | exact Empty.elim (by assumption) | dsimp only)
theorem m_I_chart_counted_1 (p0 : api_Chart) (σ τ : Type) (B B' : σ → (Int × chart_count) → Option (σ ⊕ τ)) (hB : ∀ s x, Le (B s x) (B' s x)) (gz0 : σ) : Le (K_I_chart_counted_1 p0 σ τ B gz0) (I_chart_counted_1 p0 σ τ B' gz0) := by
 unfold K_I_chart_counted_1 I_chart_counted_1
 with_reducible repeat' (first | exact hB _ _ | exact m_chart_counted_1_l1 _ _ _ hB | exact Le.rfl _ | refine Le.loop _ ?_ | refine Le.bind ?_ ?_ | refine Le.ite ?_ ?_ | refine Le.sum ?_ ?_ | refine Le.prod ?_ | intro _ | exact Empty.elim (by assumption) | dsimp only)
theorem m_chart_Check_l2  : ∀ s x, Le (K_chart_Check_l2 s x) (chart_Check_l2 s x) := by
 unfold K_chart_Check_l2 chart_Check_l2
 with_reducible repeat' (first | exact Le.rfl _ | refine Le.loop _ ?_ | refine Le.bind ?_ ?_ | refine Le.ite ?_ ?_ | refine Le.sum ?_ ?_ | refine Le.prod ?_ | intro _ | exact Empty.elim (by assumption) | dsimp only)
theorem m_F_chart_Check (p0 : api_Chart) : Le (K_chart_Check p0) (F_chart_Check p0) := by
 unfold K_chart_Check F_chart_Check
 with_reducible repeat' (first | exact m_F_chart_counted _ | refine m_I_chart_counted_1 _ _ _ _ _ ?_ _ | exact m_chart_Check_l2 | exact Le.rfl _ | refine Le.loop _ ?_ | refine Le.bind ?_ ?_ | refine Le.ite ?_ ?_ | refine Le.sum ?_ ?_ | refine Le.prod ?_ | intro _ | exact Empty.elim (by assumption) | dsimp only)
theorem m_loops_of_l1 (p0 : api_Chart) : ∀ s, Le (K_loops_of_l1 p0 s) (loops_of_l1 p0 s) := by
 unfold K_loops_of_l1 loops_of_l1
 with_reducible repeat' (first | exact Le.rfl _ | refine Le.loop _ ?_ | refine Le.bind ?_ ?_ | refine Le.ite ?_ ?_ | refine Le.sum ?_ ?_ | refine Le.prod ?_ | intro _ | exact Empty.elim (by assumption) | dsimp only)
theorem m_F_slices_Backward___api_Stitch_api_Stitch_ (p0 : (List api_Stitch)) : Le (K_slices_Backward___api_Stitch_api_Stitch_ p0) (F_slices_Backward___api_Stitch_api_Stitch_ p0) := by
 unfold K_slices_Backward___api_Stitch_api_Stitch_ F_slices_Backward___api_Stitch_api_Stitch_
 with_reducible repeat' (first | exact Le.rfl _ | refine Le.loop _ ?_ | refine Le.bind ?_ ?_ | refine Le.ite ?_ ?_ | refine Le.sum ?_ ?_ | refine Le.prod ?_ | intro _ | exact Empty.elim (by assumption) | dsimp only)
theorem m_slices_Backward___api_Stitch_api_Stitch__1_l1 {σ τ : Type} (p0 : (List api_Stitch)) (B B' : σ → (Int × api_Stitch) → Option (σ ⊕ τ)) (hB : ∀ s x, Le (B s x) (B' s x)) : ∀ s, Le (K_slices_Backward___api_Stitch_api_Stitch__1_l1 p0 B s) (slices_Backward___api_Stitch_api_Stitch__1_l1 p0 B' s) := by
 unfold K_slices_Backward___api_Stitch_api_Stitch__1_l1 slices_Backward___api_Stitch_api_Stitch__1_l1
 with_reducible repeat' (first | exact hB _ _ | exact Le.rfl _ | refine Le.loop _ ?_ | refine Le.bind ?_ ?_ | refine Le.ite ?_ ?_ | refine Le.sum ?_ ?_ | refine Le.prod ?_ | intro _ | exact Empty.elim (by assumption) | dsimp only)
theorem m_I_slices_Backward___api_Stitch_api_Stitch__1 (p0 : (List api_Stitch)) (σ τ : Type) (B B' : σ → (Int × api_Stitch) → Option (σ ⊕ τ)) (hB : ∀ s x, Le (B s x) (B' s x)) (gz0 : σ) : Le (K_I_slices_Backward___api_Stitch_api_Stitch__1 p0 σ τ B gz0) (I_slices_Backward___api_Stitch_api_Stitch__1 p0 σ τ B' gz0) := by
 unfold K_I_slices_Backward___api_Stitch_api_Stitch__1 I_slices_Backward___api_Stitch_api_Stitch__1
 with_reducible repeat' (first | exact hB _ _ | exact m_slices_Backward___api_Stitch_api_Stitch__1_l1 _ _ _ hB | exact Le.rfl _ | refine Le.loop _ ?_ | refine Le.bind ?_ ?_ | refine Le.ite ?_ ?_ | refine Le.sum ?_ ?_ | refine Le.prod ?_ | intro _ | exact Empty.elim (by assumption) | dsimp only)
theorem m_stitch_Turn_l2  : ∀ s x, Le (K_stitch_Turn_l2 s x) (stitch_Turn_l2 s x) := by
 unfold K_stitch_Turn_l2 stitch_Turn_l2
 with_reducible repeat' (first | exact m_F_stitch_forms _ | exact Le.rfl _ | refine Le.loop _ ?_ | refine Le.bind ?_ ?_ | refine Le.ite ?_ ?_ | refine Le.sum ?_ ?_ | refine Le.prod ?_ | intro _ | exact Empty.elim (by assumption) | dsimp only)
theorem m_F_stitch_Turn (p0 : (List api_Stitch)) : Le (K_stitch_Turn p0) (F_stitch_Turn p0) := by
 unfold K_stitch_Turn F_stitch_Turn
 with_reducible repeat' (first | exact m_F_stitch_All _ | exact m_F_slices_Backward___api_Stitch_api_Stitch_ _ | refine m_I_slices_Backward___api_Stitch_api_Stitch__1 _ _ _ _ _ ?_ _ | exact m_stitch_Turn_l2 | exact Le.rfl _ | refine Le.loop _ ?_ | refine Le.bind ?_ ?_ | refine Le.ite ?_ ?_ | refine Le.sum ?_ ?_ | refine Le.prod ?_ | intro _ | exact Empty.elim (by assumption) | dsimp only)
theorem m_F_slices_Clone___api_Stitch_api_Stitch_ (p0 : (List api_Stitch)) : Le (K_slices_Clone___api_Stitch_api_Stitch_ p0) (F_slices_Clone___api_Stitch_api_Stitch_ p0) := by
 unfold K_slices_Clone___api_Stitch_api_Stitch_ F_slices_Clone___api_Stitch_api_Stitch_
 with_reducible repeat' (first | exact Le.rfl _ | refine Le.loop _ ?_ | refine Le.bind ?_ ?_ | refine Le.ite ?_ ?_ | refine Le.sum ?_ ?_ | refine Le.prod ?_ | intro _ | exact Empty.elim (by assumption) | dsimp only)
theorem m_F_chart_Face (p0 : api_Chart) (p1 : Int) : Le (K_chart_Face p0 p1) (F_chart_Face p0 p1) := by
 unfold K_chart_Face F_chart_Face
 with_reducible repeat' (first | exact m_F_chart_Check _ | exact m_F_stitch_Turn _ | exact m_F_slices_Clone___api_Stitch_api_Stitch_ _ | exact Le.rfl _ | refine Le.loop _ ?_ | refine Le.bind ?_ ?_ | refine Le.ite ?_ ?_ | refine Le.sum ?_ ?_ | refine Le.prod ?_ | intro _ | exact Empty.elim (by assumption) | dsimp only)
theorem m_loops_piece_take_s3_l1 (m5 : List Int) (p0 : loops_piece) : ∀ s, Le (K_loops_piece_take_s3_l1 m5 p0 s) (loops_piece_take_s3_l1 m5 p0 s) := by
 unfold K_loops_piece_take_s3_l1 loops_piece_take_s3_l1
 with_reducible repeat' (first | exact Le.rfl _ | refine Le.loop _ ?_ | refine Le.bind ?_ ?_ | refine Le.ite ?_ ?_ | refine Le.sum ?_ ?_ | refine Le.prod ?_ | intro _ | exact Empty.elim (by assumption) | dsimp only)
theorem m_F_loops_piece_take_s3 (p0 : loops_piece) (p1 : Int) : Le (K_loops_piece_take_s3 p0 p1) (F_loops_piece_take_s3 p0 p1) := by
 unfold K_loops_piece_take_s3 F_loops_piece_take_s3
 with_reducible repeat' (first | exact m_loops_piece_take_s3_l1 _ _ | exact Le.rfl _ | refine Le.loop _ ?_ | refine Le.bind ?_ ?_ | refine Le.ite ?_ ?_ | refine Le.sum ?_ ?_ | refine Le.prod ?_ | intro _ | exact Empty.elim (by assumption) | dsimp only)
theorem m_loops_piece_add_s1_l1 (p2 : (List (List Int))) (p1 : api_Loop) : ∀ s, Le (K_loops_piece_add_s1_l1 p2 p1 s) (loops_piece_add_s1_l1 p2 p1 s) := by
 unfold K_loops_piece_add_s1_l1 loops_piece_add_s1_l1
 with_reducible repeat' (first | exact Le.rfl _ | refine Le.loop _ ?_ | refine Le.bind ?_ ?_ | refine Le.ite ?_ ?_ | refine Le.sum ?_ ?_ | refine Le.prod ?_ | intro _ | exact Empty.elim (by assumption) | dsimp only)
theorem m_F_loops_piece_add_s1 (p0 : loops_piece) (p1 : api_Loop) (p2 : (List (List Int))) : Le (K_loops_piece_add_s1 p0 p1 p2) (F_loops_piece_add_s1 p0 p1 p2) := by
 unfold K_loops_piece_add_s1 F_loops_piece_add_s1
 with_reducible repeat' (first | exact m_loops_piece_add_s1_l1 _ _ | exact Le.rfl _ | refine Le.loop _ ?_ | refine Le.bind ?_ ?_ | refine Le.ite ?_ ?_ | refine Le.sum ?_ ?_ | refine Le.prod ?_ | intro _ | exact Empty.elim (by assumption) | dsimp only)
theorem m_slices_Reverse___int_int__s0_l1  : ∀ s, Le (K_slices_Reverse___int_int__s0_l1 s) (slices_Reverse___int_int__s0_l1 s) := by
 unfold K_slices_Reverse___int_int__s0_l1 slices_Reverse___int_int__s0_l1
 with_reducible repeat' (first | exact Le.rfl _ | refine Le.loop _ ?_ | refine Le.bind ?_ ?_ | refine Le.ite ?_ ?_ | refine Le.sum ?_ ?_ | refine Le.prod ?_ | intro _ | exact Empty.elim (by assumption) | dsimp only)
theorem m_F_slices_Reverse___int_int__s0 (p0 : (List Int)) : Le (K_slices_Reverse___int_int__s0 p0) (F_slices_Reverse___int_int__s0 p0) := by
 unfold K_slices_Reverse___int_int__s0 F_slices_Reverse___int_int__s0
 with_reducible repeat' (first | exact m_slices_Reverse___int_int__s0_l1 | exact Le.rfl _ | refine Le.loop _ ?_ | refine Le.bind ?_ ?_ | refine Le.ite ?_ ?_ | refine Le.sum ?_ ?_ | refine Le.prod ?_ | intro _ | exact Empty.elim (by assumption) | dsimp only)
theorem m_F_slices_Clone___int_int__s0 (p0 : (List Int)) : Le (K_slices_Clone___int_int__s0 p0) (F_slices_Clone___int_int__s0 p0) := by
 unfold K_slices_Clone___int_int__s0 F_slices_Clone___int_int__s0
 with_reducible repeat' (first | exact Le.rfl _ | refine Le.loop _ ?_ | refine Le.bind ?_ ?_ | refine Le.ite ?_ ?_ | refine Le.sum ?_ ?_ | refine Le.prod ?_ | intro _ | exact Empty.elim (by assumption) | dsimp only)
theorem m_loops_piece_work_s1_l1 (p3 : api_Stitch) (r9 : ((List Int) × loops_piece)) (p1 : Int) (p2 : Int) : ∀ s, Le (K_loops_piece_work_s1_l1 p3 r9 p1 p2 s) (loops_piece_work_s1_l1 p3 r9 p1 p2 s) := by
 unfold K_loops_piece_work_s1_l1 loops_piece_work_s1_l1
 with_reducible repeat' (first | exact m_F_slices_Clone___int_int__s0 _ | exact m_F_loops_piece_add_s1 _ _ _ | exact Le.rfl _ | refine Le.loop _ ?_ | refine Le.bind ?_ ?_ | refine Le.ite ?_ ?_ | refine Le.sum ?_ ?_ | refine Le.prod ?_ | intro _ | exact Empty.elim (by assumption) | dsimp only)
theorem m_slices_Concat___int_int__l1 (p0 : (List (List Int))) : ∀ s, Le (K_slices_Concat___int_int__l1 p0 s) (slices_Concat___int_int__l1 p0 s) := by
 unfold K_slices_Concat___int_int__l1 slices_Concat___int_int__l1
 with_reducible repeat' (first | exact Le.rfl _ | refine Le.loop _ ?_ | refine Le.bind ?_ ?_ | refine Le.ite ?_ ?_ | refine Le.sum ?_ ?_ | refine Le.prod ?_ | intro _ | exact Empty.elim (by assumption) | dsimp only)
theorem m_F_slices_Grow___int_int__s1 (p0 : Int) : Le (K_slices_Grow___int_int__s1 p0) (F_slices_Grow___int_int__s1 p0) := by
 unfold K_slices_Grow___int_int__s1 F_slices_Grow___int_int__s1
 with_reducible repeat' (first | exact Le.rfl _ | refine Le.loop _ ?_ | refine Le.bind ?_ ?_ | refine Le.ite ?_ ?_ | refine Le.sum ?_ ?_ | refine Le.prod ?_ | intro _ | exact Empty.elim (by assumption) | dsimp only)
theorem m_slices_Concat___int_int__l2 (p0 : (List (List Int))) : ∀ s, Le (K_slices_Concat___int_int__l2 p0 s) (slices_Concat___int_int__l2 p0 s) := by
 unfold K_slices_Concat___int_int__l2 slices_Concat___int_int__l2
 with_reducible repeat' (first | exact Le.rfl _ | refine Le.loop _ ?_ | refine Le.bind ?_ ?_ | refine Le.ite ?_ ?_ | refine Le.sum ?_ ?_ | refine Le.prod ?_ | intro _ | exact Empty.elim (by assumption) | dsimp only)
theorem m_F_slices_Concat___int_int_ (p0 : (List (List Int))) : Le (K_slices_Concat___int_int_ p0) (F_slices_Concat___int_int_ p0) := by
 unfold K_slices_Concat___int_int_ F_slices_Concat___int_int_
 with_reducible repeat' (first | exact m_slices_Concat___int_int__l1 _ | exact m_F_slices_Grow___int_int__s1 _ | exact m_slices_Concat___int_int__l2 _ | exact Le.rfl _ | refine Le.loop _ ?_ | refine Le.bind ?_ ?_ | refine Le.ite ?_ ?_ | refine Le.sum ?_ ?_ | refine Le.prod ?_ | intro _ | exact Empty.elim (by assumption) | dsimp only)
theorem m_loops_piece_cable_s1_l1 (r37 : (List Int)) (p1 : api_Loop) : ∀ s, Le (K_loops_piece_cable_s1_l1 r37 p1 s) (loops_piece_cable_s1_l1 r37 p1 s) := by
 unfold K_loops_piece_cable_s1_l1 loops_piece_cable_s1_l1
 with_reducible repeat' (first | exact m_F_loops_piece_add_s1 _ _ _ | exact Le.rfl _ | refine Le.loop _ ?_ | refine Le.bind ?_ ?_ | refine Le.ite ?_ ?_ | refine Le.sum ?_ ?_ | refine Le.prod ?_ | intro _ | exact Empty.elim (by assumption) | dsimp only)
theorem m_slices_Reverse___int_int__s1_l1  : ∀ s, Le (K_slices_Reverse___int_int__s1_l1 s) (slices_Reverse___int_int__s1_l1 s) := by
 unfold K_slices_Reverse___int_int__s1_l1 slices_Reverse___int_int__s1_l1
 with_reducible repeat' (first | exact Le.rfl _ | refine Le.loop _ ?_ | refine Le.bind ?_ ?_ | refine Le.ite ?_ ?_ | refine Le.sum ?_ ?_ | refine Le.prod ?_ | intro _ | exact Empty.elim (by assumption) | dsimp only)
theorem m_F_slices_Reverse___int_int__s1 (p0 : (Int × Int)) : Le (K_slices_Reverse___int_int__s1 p0) (F_slices_Reverse___int_int__s1 p0) := by
 unfold K_slices_Reverse___int_int__s1 F_slices_Reverse___int_int__s1
 with_reducible repeat' (first | exact m_slices_Reverse___int_int__s1_l1 | exact Le.rfl _ | refine Le.loop _ ?_ | refine Le.bind ?_ ?_ | refine Le.ite ?_ ?_ | refine Le.sum ?_ ?_ | refine Le.prod ?_ | intro _ | exact Empty.elim (by assumption) | dsimp only)
theorem m_loops_piece_cable_s1_l2 (p2 : api_Stitch) (p0 : loops_piece) (s110 : Int) : ∀ s, Le (K_loops_piece_cable_s1_l2 p2 p0 s110 s) (loops_piece_cable_s1_l2 p2 p0 s110 s) := by
 unfold K_loops_piece_cable_s1_l2 loops_piece_cable_s1_l2
 with_reducible repeat' (first | exact m_F_slices_Reverse___int_int__s1 _ | exact Le.rfl _ | refine Le.loop _ ?_ | refine Le.bind ?_ ?_ | refine Le.ite ?_ ?_ | refine Le.sum ?_ ?_ | refine Le.prod ?_ | intro _ | exact Empty.elim (by assumption) | dsimp only)
theorem m_loops_piece_cable_s1_l3 (p2 : api_Stitch) (p0 : loops_piece) : ∀ s, Le (K_loops_piece_cable_s1_l3 p2 p0 s) (loops_piece_cable_s1_l3 p2 p0 s) := by
 unfold K_loops_piece_cable_s1_l3 loops_piece_cable_s1_l3
 with_reducible repeat' (first | exact m_loops_piece_cable_s1_l2 _ _ _ | exact Le.rfl _ | refine Le.loop _ ?_ | refine Le.bind ?_ ?_ | refine Le.ite ?_ ?_ | refine Le.sum ?_ ?_ | refine Le.prod ?_ | intro _ | exact Empty.elim (by assumption) | dsimp only)
theorem m_F_loops_piece_cable_s1 (p0 : loops_piece) (p1 : api_Loop) (p2 : api_Stitch) (p3 : (List Int)) : Le (K_loops_piece_cable_s1 p0 p1 p2 p3) (F_loops_piece_cable_s1 p0 p1 p2 p3) := by
 unfold K_loops_piece_cable_s1 F_loops_piece_cable_s1
 with_reducible repeat' (first | exact m_F_slices_Concat___int_int_ _ | exact m_loops_piece_cable_s1_l1 _ _ | exact m_loops_piece_cable_s1_l3 _ _ | exact Le.rfl _ | refine Le.loop _ ?_ | refine Le.bind ?_ ?_ | refine Le.ite ?_ ?_ | refine Le.sum ?_ ?_ | refine Le.prod ?_ | intro _ | exact Empty.elim (by assumption) | dsimp only)
theorem m_F_loops_piece_work_s1 (p0 : loops_piece) (p1 : Int) (p2 : Int) (p3 : api_Stitch) : Le (K_loops_piece_work_s1 p0 p1 p2 p3) (F_loops_piece_work_s1 p0 p1 p2 p3) := by
 unfold K_loops_piece_work_s1 F_loops_piece_work_s1
 with_reducible repeat' (first | exact m_F_stitch_Uses _ | exact m_F_loops_piece_take_s3 _ _ | exact m_F_loops_piece_add_s1 _ _ _ | exact m_F_slices_Reverse___int_int__s0 _ | exact m_loops_piece_work_s1_l1 _ _ _ _ | exact m_F_loops_piece_cable_s1 _ _ _ _ | exact Le.rfl _ | refine Le.loop _ ?_ | refine Le.bind ?_ ?_ | refine Le.ite ?_ ?_ | refine Le.sum ?_ ?_ | refine Le.prod ?_ | intro _ | exact Empty.elim (by assumption) | dsimp only)
theorem m_loops_of_l2 (r111 : ((List api_Stitch) × Int)) (s61 : Int) : ∀ s, Le (K_loops_of_l2 r111 s61 s) (loops_of_l2 r111 s61 s) := by
 unfold K_loops_of_l2 loops_of_l2
 with_reducible repeat' (first | exact m_F_loops_piece_work_s1 _ _ _ _ | exact Le.rfl _ | refine Le.loop _ ?_ | refine Le.bind ?_ ?_ | refine Le.ite ?_ ?_ | refine Le.sum ?_ ?_ | refine Le.prod ?_ | intro _ | exact Empty.elim (by assumption) | dsimp only)
theorem m_loops_of_l3 (p0 : api_Chart) : ∀ s, Le (K_loops_of_l3 p0 s) (loops_of_l3 p0 s) := by
 unfold K_loops_of_l3 loops_of_l3
 with_reducible repeat' (first | exact m_F_chart_Face _ _ | exact m_loops_of_l2 _ _ | exact Le.rfl _ | refine Le.loop _ ?_ | refine Le.bind ?_ ?_ | refine Le.ite ?_ ?_ | refine Le.sum ?_ ?_ | refine Le.prod ?_ | intro _ | exact Empty.elim (by assumption) | dsimp only)
theorem m_F_loops_of (p0 : api_Chart) : Le (K_loops_of p0) (F_loops_of p0) := by
 unfold K_loops_of F_loops_of
 with_reducible repeat' (first | exact m_F_chart_Check _ | exact m_loops_of_l1 _ | exact m_loops_of_l3 _ | exact Le.rfl _ | refine Le.loop _ ?_ | refine Le.bind ?_ ?_ | refine Le.ite ?_ ?_ | refine Le.sum ?_ ?_ | refine Le.prod ?_ | intro _ | exact Empty.elim (by assumption) | dsimp only)
theorem m_F_loops_Of (p0 : api_Chart) : Le (K_loops_Of p0) (F_loops_Of p0) := by
 unfold K_loops_Of F_loops_Of
 with_reducible repeat' (first | exact m_F_loops_of _ | exact Le.rfl _ | refine Le.loop _ ?_ | refine Le.bind ?_ ?_ | refine Le.ite ?_ ?_ | refine Le.sum ?_ ?_ | refine Le.prod ?_ | intro _ | exact Empty.elim (by assumption) | dsimp only)
theorem m_F_loops_Crossings (p0 : api_Chart) : Le (K_loops_Crossings p0) (F_loops_Crossings p0) := by
 unfold K_loops_Crossings F_loops_Crossings
 with_reducible repeat' (first | exact m_F_loops_of _ | exact Le.rfl _ | refine Le.loop _ ?_ | refine Le.bind ?_ ?_ | refine Le.ite ?_ ?_ | refine Le.sum ?_ ?_ | refine Le.prod ?_ | intro _ | exact Empty.elim (by assumption) | dsimp only)
theorem m_F_loops_Bound (p0 : api_Chart) : Le (K_loops_Bound p0) (F_loops_Bound p0) := by
 unfold K_loops_Bound F_loops_Bound
 with_reducible repeat' (first | exact m_F_loops_of _ | exact Le.rfl _ | refine Le.loop _ ?_ | refine Le.bind ?_ ?_ | refine Le.ite ?_ ?_ | refine Le.sum ?_ ?_ | refine Le.prod ?_ | intro _ | exact Empty.elim (by assumption) | dsimp only)
theorem m_raddleref26_SameInts_l1 (p0 : (List Int)) (p1 : (List Int)) : ∀ s, Le (K_raddleref26_SameInts_l1 p0 p1 s) (raddleref26_SameInts_l1 p0 p1 s) := by
 unfold K_raddleref26_SameInts_l1 raddleref26_SameInts_l1
 with_reducible repeat' (first | exact Le.rfl _ | refine Le.loop _ ?_ | refine Le.bind ?_ ?_ | refine Le.ite ?_ ?_ | refine Le.sum ?_ ?_ | refine Le.prod ?_ | intro _ | exact Empty.elim (by assumption) | dsimp only)
theorem m_F_raddleref26_SameInts (p0 : (List Int)) (p1 : (List Int)) : Le (K_raddleref26_SameInts p0 p1) (F_raddleref26_SameInts p0 p1) := by
 unfold K_raddleref26_SameInts F_raddleref26_SameInts
 with_reducible repeat' (first | exact m_raddleref26_SameInts_l1 _ _ | exact Le.rfl _ | refine Le.loop _ ?_ | refine Le.bind ?_ ?_ | refine Le.ite ?_ ?_ | refine Le.sum ?_ ?_ | refine Le.prod ?_ | intro _ | exact Empty.elim (by assumption) | dsimp only)
theorem m_raddleref27_SamePairs_l1 (p0 : (List (Int × Int))) (p1 : (List (Int × Int))) : ∀ s, Le (K_raddleref27_SamePairs_l1 p0 p1 s) (raddleref27_SamePairs_l1 p0 p1 s) := by
 unfold K_raddleref27_SamePairs_l1 raddleref27_SamePairs_l1
 with_reducible repeat' (first | exact Le.rfl _ | refine Le.loop _ ?_ | refine Le.bind ?_ ?_ | refine Le.ite ?_ ?_ | refine Le.sum ?_ ?_ | refine Le.prod ?_ | intro _ | exact Empty.elim (by assumption) | dsimp only)
theorem m_F_raddleref27_SamePairs (p0 : (List (Int × Int))) (p1 : (List (Int × Int))) : Le (K_raddleref27_SamePairs p0 p1) (F_raddleref27_SamePairs p0 p1) := by
 unfold K_raddleref27_SamePairs F_raddleref27_SamePairs
 with_reducible repeat' (first | exact m_raddleref27_SamePairs_l1 _ _ | exact Le.rfl _ | refine Le.loop _ ?_ | refine Le.bind ?_ ?_ | refine Le.ite ?_ ?_ | refine Le.sum ?_ ?_ | refine Le.prod ?_ | intro _ | exact Empty.elim (by assumption) | dsimp only)
set_option maxRecDepth 1000000 in
theorem kc_raddlelaw27_alive_0 : F_raddlelaw27_one 3 [(api_Stitch.mk 6 false 1 2)] = some (api_Chart.mk 3 [(api_Row.mk false [(api_Stitch.mk 6 false 1 2)])]) := m_F_raddlelaw27_one _ _ _ (by kernel_rfl)
set_option maxRecDepth 1000000 in
theorem kc_raddlelaw27_alive_1 : F_loops_Of ((api_Chart.mk 3 [(api_Row.mk false [(api_Stitch.mk 6 false 1 2)])])) = some ([(api_Loop.mk 0 0 [] false), (api_Loop.mk 0 1 [] false), (api_Loop.mk 0 2 [] false), (api_Loop.mk 1 0 [1] false), (api_Loop.mk 1 0 [2] false), (api_Loop.mk 1 0 [0] false)], 0) := m_F_loops_Of _ _ (by kernel_rfl)
set_option maxRecDepth 1000000 in
theorem kc_raddlelaw27_alive_2 : F_loops_Crossings ((api_Chart.mk 3 [(api_Row.mk false [(api_Stitch.mk 6 false 1 2)])])) = some ([(5, 3), (5, 4)], 0) := m_F_loops_Crossings _ _ (by kernel_rfl)
set_option maxRecDepth 1000000 in
theorem kc_raddlelaw27_alive_3 : F_raddlelaw27_one 3 [(api_Stitch.mk 3 false 2 0), (api_Stitch.mk 2 false 0 0), (api_Stitch.mk 10 false 1 0)] = some (api_Chart.mk 3 [(api_Row.mk false [(api_Stitch.mk 3 false 2 0), (api_Stitch.mk 2 false 0 0), (api_Stitch.mk 10 false 1 0)])]) := m_F_raddlelaw27_one _ _ _ (by kernel_rfl)
set_option maxRecDepth 1000000 in
theorem kc_raddlelaw27_alive_4 : F_loops_Of ((api_Chart.mk 3 [(api_Row.mk false [(api_Stitch.mk 3 false 2 0), (api_Stitch.mk 2 false 0 0), (api_Stitch.mk 10 false 1 0)])])) = some ([(api_Loop.mk 0 0 [] false), (api_Loop.mk 0 1 [] false), (api_Loop.mk 0 2 [] false), (api_Loop.mk 1 0 [0, 1] false), (api_Loop.mk 1 1 [] false)], 0) := m_F_loops_Of _ _ (by kernel_rfl)
set_option maxRecDepth 1000000 in
theorem kc_raddlelaw27_alive_5 : F_loops_Bound ((api_Chart.mk 3 [(api_Row.mk false [(api_Stitch.mk 3 false 2 0), (api_Stitch.mk 2 false 0 0), (api_Stitch.mk 10 false 1 0)])])) = some ([2], 0) := m_F_loops_Bound _ _ (by kernel_rfl)
set_option maxRecDepth 1000000 in
theorem kc_raddlelaw27_alive_6 : F_raddleref26_SameInts ((api_Loop.mk 1 0 [1] false)).Parents ([1] : List Int) = some true := m_F_raddleref26_SameInts _ _ _ (by kernel_rfl)
set_option maxRecDepth 1000000 in
theorem kc_raddlelaw27_alive_7 : F_raddleref26_SameInts ((api_Loop.mk 1 0 [2] false)).Parents ([2] : List Int) = some true := m_F_raddleref26_SameInts _ _ _ (by kernel_rfl)
set_option maxRecDepth 1000000 in
theorem kc_raddlelaw27_alive_8 : F_raddleref26_SameInts ((api_Loop.mk 1 0 [0] false)).Parents ([0] : List Int) = some true := m_F_raddleref26_SameInts _ _ _ (by kernel_rfl)
set_option maxRecDepth 1000000 in
theorem kc_raddlelaw27_alive_9 : F_raddleref27_SamePairs (([(5, 3), (5, 4)], 0)).1 [(5, 3), (5, 4)] = some true := m_F_raddleref27_SamePairs _ _ _ (by kernel_rfl)
set_option maxRecDepth 1000000 in
theorem kc_raddlelaw27_alive_10 : F_raddleref26_SameInts ((api_Loop.mk 1 0 [0, 1] false)).Parents ([0, 1] : List Int) = some true := m_F_raddleref26_SameInts _ _ _ (by kernel_rfl)
set_option maxRecDepth 1000000 in
theorem kc_raddlelaw27_alive_11 : F_raddleref26_SameInts (([2], 0)).1 ([2] : List Int) = some true := m_F_raddleref26_SameInts _ _ _ (by kernel_rfl)
noncomputable def F_raddlelaw27_alive  : Option Bool :=
 (F_raddlelaw27_one 3 [(api_Stitch.mk 6 false 1 2)]).bind fun r5 =>
 (F_loops_Of r5).bind fun a0 =>
 (F_loops_Crossings r5).bind fun aa =>
 (F_raddlelaw27_one 3 [(api_Stitch.mk 3 false 2 0), (api_Stitch.mk 2 false 0 0), (api_Stitch.mk 10 false 1 0)]).bind fun ab =>
 (F_loops_Of ab).bind fun a4 =>
 (F_loops_Bound ab).bind fun ac =>
 if a0.2 != 0 then
  none
 else
  if aa.2 != 0 then
   none
  else
   if a4.2 != 0 then
    none
   else
    if ac.2 != 0 then
     none
    else
     if (a0.1.length : Int) != 6 then
      none
     else
      if (a4.1.length : Int) != 5 then
       some false
      else
       (idxO a0.1 3).bind fun ae =>
       (F_raddleref26_SameInts ae.Parents ([1] : List Int)).bind fun af =>
       if af then
        (idxO a0.1 4).bind fun ag =>
        (F_raddleref26_SameInts ag.Parents ([2] : List Int)).bind fun ah =>
        if ah then
         (idxO a0.1 5).bind fun ai =>
         (F_raddleref26_SameInts ai.Parents ([0] : List Int)).bind fun aj =>
         if aj then
          (F_raddleref27_SamePairs aa.1 [(5, 3), (5, 4)]).bind fun a5 =>
          if a5 then
           (idxO a4.1 3).bind fun a6 =>
           (F_raddleref26_SameInts a6.Parents ([0, 1] : List Int)).bind fun a7 =>
           if a7 then
            (idxO a4.1 4).bind fun a8 =>
            if (a8.Parents.length : Int) == 0 then
             (F_raddleref26_SameInts ac.1 ([2] : List Int)).bind fun a9 =>
             some a9
            else
             none
           else
            none
          else
           none
         else
          none
        else
         none
       else
        none
theorem c_raddlelaw27_alive (E : Nat → Prop) (w0 : World)  (r : Bool) (h : F_raddlelaw27_alive  = some r) (S : St0 E [] w0 w0 [] []) :
 Calls Try.prog 20 #[] w0 (Ret (X := Unit) E [] w0 (fun _ => .bool r) (fun _ => []) (fun _ => [])) := by
 unfold F_raddlelaw27_alive at h
 refine sEnter (args := []) 115 Try.func20 rfl rfl (by simp) S (fun a S => ?_)
 refine sSeq (fun K1 hK1 => sRegion (sN S fun a S => ?_))
 refine lT (hK1 _ _ (sSeq (fun K2 hK2 => sRegion (sBuild [(0, .int .u8 6), (2, iv 1), (3, iv 2)] [.int .u8 6, .bool false, iv 1, iv 2] S (wN rfl) rfl rfl rfl rfl (lb rfl) fun a S => ?_))))
 have S := S.learn (fRep r_api_Stitch (.agg #[.int .u8 6, .bool false, iv 1, iv 2]) (api_Stitch.mk 6 false 1 2)) rfl
 refine sLit (r := r_api_Stitch) (T := 61) (xs := [(api_Stitch.mk 6 false 1 2)]) [(0, .agg #[.int .u8 6, .bool false, iv 1, iv 2])] 1 [.agg #[.int .u8 6, .bool false, iv 1, iv 2]] [.int .u8 6, .bool false, iv 1, iv 2] (.agg #[.int .u8 0, .bool false, iv 0, iv 0]) 24 S (wN rfl) rfl rfl Try.underlying62 rfl (by decide) (by decide) (by kernel_rfl) rfl (fun E1 w1 hE => All.cons (r_api_Stitch.mono hE (S.mem.know (i := 0) (e := fRep r_api_Stitch (.agg #[.int .u8 6, .bool false, iv 1, iv 2]) (api_Stitch.mk 6 false 1 2)) rfl)) (All.nil _ _ _)) rfl rfl (lb rfl) fun a w ad3 cp4 S => ?_
 obtain ⟨r5, hx6, h⟩ := bS h
 have hv_r5 : r5 = (api_Chart.mk 3 [(api_Row.mk false [(api_Stitch.mk 6 false 1 2)])]) := Option.some.inj (hx6.symm.trans (by exact kc_raddlelaw27_alive_0))
 have S := S.shutR (r := r_api_Stitch) (T := 61) (v := .slice ad3 [(api_Stitch.mk 6 false 1 2)].length cp4) (xs := [(api_Stitch.mk 6 false 1 2)]) 0 rfl
 refine sCall (X := Value) (f := 30) (vs := [iv 3, .slice ad3 [(api_Stitch.mk 6 false 1 2)].length cp4]) (val := c_raddlelaw27_one_val r5) (B' := fun _ => []) (D' := c_raddlelaw27_one_D r5) [] [] [fRep (rL r_api_Stitch) (.slice ad3 [(api_Stitch.mk 6 false 1 2)].length cp4) [(api_Stitch.mk 6 false 1 2)]] [] [0] S (wN rfl) rfl callee30 rfl (by decide) rfl rfl (fun E1 w1 S1 => c_raddlelaw27_one E1 w1 3 [(api_Stitch.mk 6 false 1 2)] (.slice ad3 [(api_Stitch.mk 6 false 1 2)].length cp4) r5 hx6 S1) rfl (lb rfl) fun u7 a w S => ?_
 obtain ⟨u8, rfl, hu9⟩ := S.mem.know (i := 0) (e := fRep r_api_Chart (u7) r5) rfl
 have S := S.learn (fRep (rL r_api_Row) u8 r5.Rows) hu9
 obtain ⟨a4, a5, _, rfl, _⟩ := hu9
 refine sAlloc (.agg #[iv 0, .slice none 0 0]) S (wN rfl) rfl rfl [iv 0, .slice none 0 0] rfl rfl (lb rfl) fun a aT w S => ?_
 refine sStore (p := aT) (off := 0) (T := 24) (vs := [iv 0, .slice none 0 0]) (v := .agg #[iv r5.Start, .slice a4 r5.Rows.length a5]) 0 [iv r5.Start, .slice a4 r5.Rows.length a5] S (wN rfl) rfl rfl rfl rfl rfl rfl rfl (by simp) rfl fun a w S => ?_
 refine lT (hK2 _ _ (sSeq (fun cB bW => sRegion (sLoadN (p := aT) (off := 0) (T := 24) (vs := [iv r5.Start, .slice a4 r5.Rows.length a5]) 0 [iv r5.Start, .slice a4 r5.Rows.length a5] S (wN rfl) rfl rfl rfl rfl rfl rfl rfl (lb rfl) fun a S => ?_))))
 obtain ⟨aa, bu, h⟩ := bS h
 have hv_r14 : aa = ([(api_Loop.mk 0 0 [] false), (api_Loop.mk 0 1 [] false), (api_Loop.mk 0 2 [] false), (api_Loop.mk 1 0 [1] false), (api_Loop.mk 1 0 [2] false), (api_Loop.mk 1 0 [0] false)], 0) := Option.some.inj (bu.symm.trans (by rw [hv_r5]; exact kc_raddlelaw27_alive_1))
 refine sCall (X := Value) (f := 11) (vs := [.agg #[iv r5.Start, .slice a4 r5.Rows.length a5]]) (val := c_loops_Of_val aa) (B' := fun _ => []) (D' := c_loops_Of_D aa) [] [eBox aT 24 [iv r5.Start, .slice a4 r5.Rows.length a5]] [fRep r_api_Chart (.agg #[iv r5.Start, .slice a4 r5.Rows.length a5]) r5] [0] [1] S (wN rfl) rfl callee11 rfl (by decide) rfl rfl (fun E1 w1 S1 => c_loops_Of E1 w1 r5 (.agg #[iv r5.Start, .slice a4 r5.Rows.length a5]) aa bu S1) rfl (lb rfl) fun cq a w S => ?_
 obtain ⟨ae, af, _, rfl, _⟩ := S.mem.know (i := 0) (e := fRep (rL r_api_Loop) (cq) aa.1) rfl
 refine sM S fun a S => ?_
 refine sExtract (vs := [.slice ae aa.1.length af, iv aa.2]) (.slice ae aa.1.length af) S (wN rfl) rfl rfl rfl rfl (lb rfl) fun a S => ?_
 refine sExtract (vs := [.slice ae aa.1.length af, iv aa.2]) (iv aa.2) S (wN rfl) rfl rfl rfl rfl (lb rfl) fun a S => ?_
 refine sN S fun a S => ?_
 refine sN S fun a S => ?_
 refine lT (bW _ _ (sSeq (fun cC bX => sRegion (sLoadN (p := aT) (off := 0) (T := 24) (vs := [iv r5.Start, .slice a4 r5.Rows.length a5]) 0 [iv r5.Start, .slice a4 r5.Rows.length a5] S (wN rfl) rfl rfl rfl rfl rfl rfl rfl (lb rfl) fun a S => ?_))))
 obtain ⟨ai, bv, h⟩ := bS h
 have hv_r20 : ai = ([(5, 3), (5, 4)], 0) := Option.some.inj (bv.symm.trans (by rw [hv_r5]; exact kc_raddlelaw27_alive_2))
 refine sCall (X := Value) (f := 15) (vs := [.agg #[iv r5.Start, .slice a4 r5.Rows.length a5]]) (val := c_loops_Crossings_val ai) (B' := fun _ => []) (D' := c_loops_Crossings_D ai) [] [eBox aT 24 [iv r5.Start, .slice a4 r5.Rows.length a5]] [fRep r_api_Chart (.agg #[iv r5.Start, .slice a4 r5.Rows.length a5]) r5] [0] [2] S (wN rfl) rfl callee15 rfl (by decide) rfl rfl (fun E1 w1 S1 => c_loops_Crossings E1 w1 r5 (.agg #[iv r5.Start, .slice a4 r5.Rows.length a5]) ai bv S1) rfl (lb rfl) fun cr a w S => ?_
 obtain ⟨aq, ar, _, rfl, _⟩ := S.mem.know (i := 0) (e := fRep (rL r_A2_Int) (cr) ai.1) rfl
 refine sM S fun a S => ?_
 refine sExtract (vs := [.slice aq ai.1.length ar, iv ai.2]) (.slice aq ai.1.length ar) S (wN rfl) rfl rfl rfl rfl (lb rfl) fun a S => ?_
 refine sExtract (vs := [.slice aq ai.1.length ar, iv ai.2]) (iv ai.2) S (wN rfl) rfl rfl rfl rfl (lb rfl) fun a S => ?_
 refine sN S fun a S => ?_
 refine sN S fun a S => ?_
 refine lT (bX _ _ (sSeq (fun cD bY => sRegion (sBuild [(0, .int .u8 3), (2, iv 2)] [.int .u8 3, .bool false, iv 2, iv 0] S (wN rfl) rfl rfl rfl rfl (lb rfl) fun a S => ?_))))
 refine sBuild [(0, .int .u8 2)] [.int .u8 2, .bool false, iv 0, iv 0] S (wN rfl) rfl rfl rfl rfl (lb rfl) fun a S => ?_
 refine sBuild [(0, .int .u8 10), (2, iv 1)] [.int .u8 10, .bool false, iv 1, iv 0] S (wN rfl) rfl rfl rfl rfl (lb rfl) fun a S => ?_
 have S := S.learn (fRep r_api_Stitch (.agg #[.int .u8 3, .bool false, iv 2, iv 0]) (api_Stitch.mk 3 false 2 0)) rfl
 have S := S.learn (fRep r_api_Stitch (.agg #[.int .u8 2, .bool false, iv 0, iv 0]) (api_Stitch.mk 2 false 0 0)) rfl
 have S := S.learn (fRep r_api_Stitch (.agg #[.int .u8 10, .bool false, iv 1, iv 0]) (api_Stitch.mk 10 false 1 0)) rfl
 refine sLit (r := r_api_Stitch) (T := 61) (xs := [(api_Stitch.mk 3 false 2 0), (api_Stitch.mk 2 false 0 0), (api_Stitch.mk 10 false 1 0)]) [(0, .agg #[.int .u8 3, .bool false, iv 2, iv 0]), (1, .agg #[.int .u8 2, .bool false, iv 0, iv 0]), (2, .agg #[.int .u8 10, .bool false, iv 1, iv 0])] 3 [.agg #[.int .u8 3, .bool false, iv 2, iv 0], .agg #[.int .u8 2, .bool false, iv 0, iv 0], .agg #[.int .u8 10, .bool false, iv 1, iv 0]] [.int .u8 3, .bool false, iv 2, iv 0, .int .u8 2, .bool false, iv 0, iv 0, .int .u8 10, .bool false, iv 1, iv 0] (.agg #[.int .u8 0, .bool false, iv 0, iv 0]) 24 S (wN rfl) rfl rfl Try.underlying62 rfl (by decide) (by decide) (by kernel_rfl) rfl (fun E1 w1 hE => All.cons (r_api_Stitch.mono hE (S.mem.know (i := 2) (e := fRep r_api_Stitch (.agg #[.int .u8 3, .bool false, iv 2, iv 0]) (api_Stitch.mk 3 false 2 0)) rfl)) (All.cons (r_api_Stitch.mono hE (S.mem.know (i := 1) (e := fRep r_api_Stitch (.agg #[.int .u8 2, .bool false, iv 0, iv 0]) (api_Stitch.mk 2 false 0 0)) rfl)) (All.cons (r_api_Stitch.mono hE (S.mem.know (i := 0) (e := fRep r_api_Stitch (.agg #[.int .u8 10, .bool false, iv 1, iv 0]) (api_Stitch.mk 10 false 1 0)) rfl)) (All.nil _ _ _)))) rfl rfl (lb rfl) fun a w aP aQ S => ?_
 obtain ⟨a0, bw, h⟩ := bS h
 have hv_r28 : a0 = (api_Chart.mk 3 [(api_Row.mk false [(api_Stitch.mk 3 false 2 0), (api_Stitch.mk 2 false 0 0), (api_Stitch.mk 10 false 1 0)])]) := Option.some.inj (bw.symm.trans (by exact kc_raddlelaw27_alive_3))
 have S := S.shutR (r := r_api_Stitch) (T := 61) (v := .slice aP [(api_Stitch.mk 3 false 2 0), (api_Stitch.mk 2 false 0 0), (api_Stitch.mk 10 false 1 0)].length aQ) (xs := [(api_Stitch.mk 3 false 2 0), (api_Stitch.mk 2 false 0 0), (api_Stitch.mk 10 false 1 0)]) 0 rfl
 refine sCall (X := Value) (f := 30) (vs := [iv 3, .slice aP [(api_Stitch.mk 3 false 2 0), (api_Stitch.mk 2 false 0 0), (api_Stitch.mk 10 false 1 0)].length aQ]) (val := c_raddlelaw27_one_val a0) (B' := fun _ => []) (D' := c_raddlelaw27_one_D a0) [] [eBox aT 24 [iv r5.Start, .slice a4 r5.Rows.length a5]] [fRep (rL r_api_Stitch) (.slice aP [(api_Stitch.mk 3 false 2 0), (api_Stitch.mk 2 false 0 0), (api_Stitch.mk 10 false 1 0)].length aQ) [(api_Stitch.mk 3 false 2 0), (api_Stitch.mk 2 false 0 0), (api_Stitch.mk 10 false 1 0)]] [0] [0] S (wN rfl) rfl callee30 rfl (by decide) rfl rfl (fun E1 w1 S1 => c_raddlelaw27_one E1 w1 3 [(api_Stitch.mk 3 false 2 0), (api_Stitch.mk 2 false 0 0), (api_Stitch.mk 10 false 1 0)] (.slice aP [(api_Stitch.mk 3 false 2 0), (api_Stitch.mk 2 false 0 0), (api_Stitch.mk 10 false 1 0)].length aQ) a0 bw S1) rfl (lb rfl) fun ct a w S => ?_
 obtain ⟨cu, rfl, bx⟩ := S.mem.know (i := 0) (e := fRep r_api_Chart (ct) a0) rfl
 have S := S.learn (fRep (rL r_api_Row) cu a0.Rows) bx
 obtain ⟨a6, a7, _, rfl, _⟩ := bx
 refine sAlloc (.agg #[iv 0, .slice none 0 0]) S (wN rfl) rfl rfl [iv 0, .slice none 0 0] rfl rfl (lb rfl) fun a bz w S => ?_
 refine sStore (p := bz) (off := 0) (T := 24) (vs := [iv 0, .slice none 0 0]) (v := .agg #[iv a0.Start, .slice a6 a0.Rows.length a7]) 0 [iv a0.Start, .slice a6 a0.Rows.length a7] S (wN rfl) rfl rfl rfl rfl rfl rfl rfl (by simp) rfl fun a w S => ?_
 refine lT (bY _ _ (sSeq (fun cE bZ => sRegion (sLoadN (p := bz) (off := 0) (T := 24) (vs := [iv a0.Start, .slice a6 a0.Rows.length a7]) 0 [iv a0.Start, .slice a6 a0.Rows.length a7] S (wN rfl) rfl rfl rfl rfl rfl rfl rfl (lb rfl) fun a S => ?_))))
 obtain ⟨ab, bA, h⟩ := bS h
 have hv_r37 : ab = ([(api_Loop.mk 0 0 [] false), (api_Loop.mk 0 1 [] false), (api_Loop.mk 0 2 [] false), (api_Loop.mk 1 0 [0, 1] false), (api_Loop.mk 1 1 [] false)], 0) := Option.some.inj (bA.symm.trans (by rw [hv_r28]; exact kc_raddlelaw27_alive_4))
 refine sCall (X := Value) (f := 11) (vs := [.agg #[iv a0.Start, .slice a6 a0.Rows.length a7]]) (val := c_loops_Of_val ab) (B' := fun _ => []) (D' := c_loops_Of_D ab) [] [eBox bz 24 [iv a0.Start, .slice a6 a0.Rows.length a7], eBox aT 24 [iv r5.Start, .slice a4 r5.Rows.length a5]] [fRep r_api_Chart (.agg #[iv a0.Start, .slice a6 a0.Rows.length a7]) a0] [0, 1] [1] S (wN rfl) rfl callee11 rfl (by decide) rfl rfl (fun E1 w1 S1 => c_loops_Of E1 w1 a0 (.agg #[iv a0.Start, .slice a6 a0.Rows.length a7]) ab bA S1) rfl (lb rfl) fun cv a w S => ?_
 obtain ⟨ak, al, _, rfl, _⟩ := S.mem.know (i := 0) (e := fRep (rL r_api_Loop) (cv) ab.1) rfl
 refine sM S fun a S => ?_
 refine sExtract (vs := [.slice ak ab.1.length al, iv ab.2]) (.slice ak ab.1.length al) S (wN rfl) rfl rfl rfl rfl (lb rfl) fun a S => ?_
 refine sExtract (vs := [.slice ak ab.1.length al, iv ab.2]) (iv ab.2) S (wN rfl) rfl rfl rfl rfl (lb rfl) fun a S => ?_
 refine sN S fun a S => ?_
 refine sN S fun a S => ?_
 refine lT (bZ _ _ (sSeq (fun cF c5 => sRegion (sLoadN (p := bz) (off := 0) (T := 24) (vs := [iv a0.Start, .slice a6 a0.Rows.length a7]) 0 [iv a0.Start, .slice a6 a0.Rows.length a7] S (wN rfl) rfl rfl rfl rfl rfl rfl rfl (lb rfl) fun a S => ?_))))
 obtain ⟨aj, bB, h⟩ := bS h
 have hv_r43 : aj = ([2], 0) := Option.some.inj (bB.symm.trans (by rw [hv_r28]; exact kc_raddlelaw27_alive_5))
 refine sCall (X := Value) (f := 13) (vs := [.agg #[iv a0.Start, .slice a6 a0.Rows.length a7]]) (val := c_loops_Bound_val aj) (B' := fun _ => []) (D' := c_loops_Bound_D aj) [] [eBox bz 24 [iv a0.Start, .slice a6 a0.Rows.length a7], eBox aT 24 [iv r5.Start, .slice a4 r5.Rows.length a5]] [fRep r_api_Chart (.agg #[iv a0.Start, .slice a6 a0.Rows.length a7]) a0] [0, 1] [2] S (wN rfl) rfl callee13 rfl (by decide) rfl rfl (fun E1 w1 S1 => c_loops_Bound E1 w1 a0 (.agg #[iv a0.Start, .slice a6 a0.Rows.length a7]) aj bB S1) rfl (lb rfl) fun cw a w S => ?_
 obtain ⟨au, av, _, rfl, _⟩ := S.mem.know (i := 0) (e := fRep (rL (rI .i64)) (cw) aj.1) rfl
 refine sM S fun a S => ?_
 refine sExtract (vs := [.slice au aj.1.length av, iv aj.2]) (.slice au aj.1.length av) S (wN rfl) rfl rfl rfl rfl (lb rfl) fun a S => ?_
 refine sExtract (vs := [.slice au aj.1.length av, iv aj.2]) (iv aj.2) S (wN rfl) rfl rfl rfl rfl (lb rfl) fun a S => ?_
 refine sN S fun a S => ?_
 refine sN S fun a S => ?_
 refine lT (c5 _ _ (sSeq (fun cG c6 => sSeq (fun cH c7 => sRegion (sM S fun a S => ?_)))))
 refine sBin _ S (wN rfl) rfl rfl rfl (bNe _ _ _ _ .i64 aa.2 0) rfl (lb rfl) fun a S => ?_
 refine sM S fun a S => ?_
 rcases iS h with ⟨az, h⟩ | ⟨az, h⟩
 ·exact absurd az (by rw [hv_r14]; decide)
 refine sMove (iv ai.2) S (wG 2 false 42 rfl rfl rfl az) (.inl rfl) rfl rfl (lb rfl) fun a S => ?_
 refine sBin _ S (wG 2 false 42 rfl rfl rfl az) rfl rfl rfl (bNe _ _ _ _ .i64 ai.2 0) rfl (lb rfl) fun a S => ?_
 refine sPickF (.bool (ai.2 != 0)) S (wN rfl) rfl rfl az rfl rfl (lb rfl) fun a S => ?_
 refine sM S fun a S => ?_
 rcases iS h with ⟨aA, h⟩ | ⟨aA, h⟩
 ·exact absurd aA (by rw [hv_r20]; decide)
 refine sMove (iv ab.2) S (wG 6 false 46 rfl rfl rfl aA) (.inl rfl) rfl rfl (lb rfl) fun a S => ?_
 refine sBin _ S (wG 6 false 46 rfl rfl rfl aA) rfl rfl rfl (bNe _ _ _ _ .i64 ab.2 0) rfl (lb rfl) fun a S => ?_
 refine sPickF (.bool (ab.2 != 0)) S (wN rfl) rfl rfl aA rfl rfl (lb rfl) fun a S => ?_
 refine sM S fun a S => ?_
 rcases iS h with ⟨aC, h⟩ | ⟨aC, h⟩
 ·exact absurd aC (by rw [hv_r37]; decide)
 refine sMove (iv aj.2) S (wG 10 false 50 rfl rfl rfl aC) (.inl rfl) rfl rfl (lb rfl) fun a S => ?_
 refine sBin _ S (wG 10 false 50 rfl rfl rfl aC) rfl rfl rfl (bNe _ _ _ _ .i64 aj.2 0) rfl (lb rfl) fun a S => ?_
 refine sPickF (.bool (aj.2 != 0)) S (wN rfl) rfl rfl aC rfl rfl (lb rfl) fun a S => ?_
 refine sM S fun a S => ?_
 rcases iS h with ⟨aw, h⟩ | ⟨aw, h⟩
 ·exact absurd aw (by rw [hv_r43]; decide)
 refine sMove (.slice ae aa.1.length af) S (wG 14 false 54 rfl rfl rfl aw) (.inl rfl) rfl rfl (lb rfl) fun a S => ?_
 refine sLen S (wG 14 false 54 rfl rfl rfl aw) rfl Try.underlying26 rfl rfl (lb rfl) fun a S => ?_
 refine sBin _ S (wG 14 false 54 rfl rfl rfl aw) rfl rfl rfl (bNe _ _ _ _ .i64 (aa.1.length : Int) 6) rfl (lb rfl) fun a S => ?_
 refine sPickF (.bool ((aa.1.length : Int) != 6)) S (wN rfl) rfl rfl aw rfl rfl (lb rfl) fun a S => ?_
 refine sM S fun a S => ?_
 rcases iS h with ⟨ax, h⟩ | ⟨ax, h⟩
 ·exact absurd ax (by rw [hv_r14]; decide)
 refine sMove (.slice ak ab.1.length al) S (wG 19 false 59 rfl rfl rfl ax) (.inl rfl) rfl rfl (lb rfl) fun a S => ?_
 refine sLen S (wG 19 false 59 rfl rfl rfl ax) rfl Try.underlying26 rfl rfl (lb rfl) fun a S => ?_
 refine sBin _ S (wG 19 false 59 rfl rfl rfl ax) rfl rfl rfl (bNe _ _ _ _ .i64 (ab.1.length : Int) 5) rfl (lb rfl) fun a S => ?_
 refine sPickF (.bool ((ab.1.length : Int) != 5)) S (wN rfl) rfl rfl ax rfl rfl (lb rfl) fun a S => ?_
 refine lT (c7 _ _ ?_)
 rcases iS h with ⟨bf, h⟩ | ⟨bf, h⟩
 ·refine sCondT S rfl bf ?_
  refine sSeq (fun cI c8 => sRegion (sN S fun a S => ?_))
  refine lT (c8 _ _ ?_)
  obtain rfl := tS h
  exact wp_ret (rThen (sRet (.bool false) S (rsl1 rfl (rvT (t := 0) (v := .bool false) S rfl)) ⟨(), rfl, S.mem.sel [] [] (by decide) rfl rfl⟩))
 refine sCondF S rfl bf ?_
 refine wp_skip (leafT (c6 _ _ ?_))
 refine sSeq (fun cJ c9 => sRegion (sM S fun a S => ?_))
 obtain ⟨aU, bC, h⟩ := bS h
 have hv_x58 : aU = (api_Loop.mk 1 0 [1] false) := Option.some.inj (bC.symm.trans (by rw [hv_r14]; kernel_rfl))
 obtain ⟨ck, ca, S⟩ := pIdx (P := Try.prog) (r := r_api_Loop) (v := .slice ae aa.1.length af) (xs := aa.1) (j := 3) 26 48 9 S Try.underlying26 rfl rfl bC
 refine sIdxV S (wN rfl) rfl rfl rfl ca rfl (lb rfl) fun a S => ?_
 obtain ⟨cl, cb, S⟩ := pFld (P := Try.prog) (r := r_api_Loop) (s2 := (rL (rI .i64))) (g := (·.Parents)) (q := ck) (z := aU) 48 2 0 2 S rfl rfl comp_api_Loop_Parents
 refine sFldV (q := ck) S (wN rfl) rfl rfl cb rfl (lb rfl) fun a S => ?_
 obtain ⟨cx, S⟩ := pLoad (r := (rL (rI .i64))) (q := cl) (x := aU.Parents) 0 S rfl
 obtain ⟨bg, bh, _, rfl, _⟩ := S.mem.know (i := 1) (e := fRep (rL (rI .i64)) (cx) aU.Parents) rfl
 refine sLoadV1 (vq := cl) 0 (.slice bg aU.Parents.length bh) S (wN rfl) rfl rfl rfl rfl rfl (lb rfl) fun a S => ?_
 refine sLit (r := (rI .i64)) (T := 3) (xs := ([1] : List Int)) [(0, iv 1)] 1 [iv 1] [iv 1] (iv 0) 8 S (wN rfl) rfl rfl Try.underlying32 rfl (by decide) (by decide) (by kernel_rfl) rfl (fun E1 w1 hE => All.cons rfl (All.nil _ _ _)) rfl rfl (lb rfl) fun a w bi bj S => ?_
 obtain ⟨cc, bD, h⟩ := bS h
 have hv_r69 : cc = true := Option.some.inj (bD.symm.trans (by rw [hv_x58]; exact kc_raddlelaw27_alive_6))
 have S1 := S.mem
 have S1 := S1.shutR (r := (rI .i64)) (T := 3) (v := .slice bi ([1] : List Int).length bj) (xs := ([1] : List Int)) 0 rfl
 refine sCq [.slice bg aU.Parents.length bh, .slice bi ([1] : List Int).length bj] (.bool cc) S callee18 (S1.quiet [2, 0] rfl) (fun E1 w1 S1 => c_raddleref26_SameInts E1 w1 aU.Parents (.slice bg aU.Parents.length bh) ([1] : List Int) (.slice bi ([1] : List Int).length bj) cc bD S1) fun a w S => ?_
 refine sM S fun a S => ?_
 rcases iS h with ⟨ag, h⟩ | ⟨ag, h⟩
 rotate_left
 ·exact absurd ag (by rw [hv_r69]; decide)
 refine sMove (.slice ae aa.1.length af) S (wG 6 true 70 rfl rfl rfl ag) (.inl rfl) rfl rfl (lb rfl) fun a S => ?_
 obtain ⟨aV, bE, h⟩ := bS h
 have hv_x72 : aV = (api_Loop.mk 1 0 [2] false) := Option.some.inj (bE.symm.trans (by rw [hv_r14]; kernel_rfl))
 obtain ⟨cm, cd, S⟩ := pIdx (P := Try.prog) (r := r_api_Loop) (v := .slice ae aa.1.length af) (xs := aa.1) (j := 4) 26 48 13 S Try.underlying26 rfl rfl bE
 refine sIdxV S (wG 6 true 70 rfl rfl rfl ag) rfl rfl rfl cd rfl (lb rfl) fun a S => ?_
 obtain ⟨cn, ce, S⟩ := pFld (P := Try.prog) (r := r_api_Loop) (s2 := (rL (rI .i64))) (g := (·.Parents)) (q := cm) (z := aV) 48 2 0 2 S rfl rfl comp_api_Loop_Parents
 refine sFldV (q := cm) S (wG 6 true 70 rfl rfl rfl ag) rfl rfl ce rfl (lb rfl) fun a S => ?_
 obtain ⟨cy, S⟩ := pLoad (r := (rL (rI .i64))) (q := cn) (x := aV.Parents) 0 S rfl
 obtain ⟨bl, bm, _, rfl, _⟩ := S.mem.know (i := 1) (e := fRep (rL (rI .i64)) (cy) aV.Parents) rfl
 refine sLoadV1 (vq := cn) 0 (.slice bl aV.Parents.length bm) S (wG 6 true 70 rfl rfl rfl ag) rfl rfl rfl rfl rfl (lb rfl) fun a S => ?_
 refine sLit (r := (rI .i64)) (T := 3) (xs := ([2] : List Int)) [(0, iv 2)] 1 [iv 2] [iv 2] (iv 0) 8 S (wG 6 true 70 rfl rfl rfl ag) rfl rfl Try.underlying32 rfl (by decide) (by decide) (by kernel_rfl) rfl (fun E1 w1 hE => All.cons rfl (All.nil _ _ _)) rfl rfl (lb rfl) fun a w bn bo S => ?_
 obtain ⟨bU, bF, h⟩ := bS h
 have hv_r83 : bU = true := Option.some.inj (bF.symm.trans (by rw [hv_x72]; exact kc_raddlelaw27_alive_7))
 have S1 := S.mem
 have S1 := S1.shutR (r := (rI .i64)) (T := 3) (v := .slice bn ([2] : List Int).length bo) (xs := ([2] : List Int)) 0 rfl
 refine sCallQ (X := Unit) (f := 18) (vs := [.slice bl aV.Parents.length bm, .slice bn ([2] : List Int).length bo]) (val := fun _ => .bool bU) S (wG 6 true 70 rfl rfl rfl ag) rfl callee18 rfl (S1.quiet [2, 0] rfl) (fun E1 w1 S1 => c_raddleref26_SameInts E1 w1 aV.Parents (.slice bl aV.Parents.length bm) ([2] : List Int) (.slice bn ([2] : List Int).length bo) bU bF S1) rfl (lb rfl) fun _ a w S => ?_
 refine sPickT (.bool bU) S (wN rfl) rfl rfl ag rfl rfl (lb rfl) fun a S => ?_
 refine sM S fun a S => ?_
 rcases iS h with ⟨ah, h⟩ | ⟨ah, h⟩
 rotate_left
 ·exact absurd ah (by rw [hv_r83]; decide)
 refine sMove (.slice ae aa.1.length af) S (wG 14 true 78 rfl rfl rfl ah) (.inl rfl) rfl rfl (lb rfl) fun a S => ?_
 obtain ⟨aW, bG, h⟩ := bS h
 have hv_x86 : aW = (api_Loop.mk 1 0 [0] false) := Option.some.inj (bG.symm.trans (by rw [hv_r14]; kernel_rfl))
 obtain ⟨co, cf, S⟩ := pIdx (P := Try.prog) (r := r_api_Loop) (v := .slice ae aa.1.length af) (xs := aa.1) (j := 5) 26 48 17 S Try.underlying26 rfl rfl bG
 refine sIdxV S (wG 14 true 78 rfl rfl rfl ah) rfl rfl rfl cf rfl (lb rfl) fun a S => ?_
 obtain ⟨cp, cg, S⟩ := pFld (P := Try.prog) (r := r_api_Loop) (s2 := (rL (rI .i64))) (g := (·.Parents)) (q := co) (z := aW) 48 2 0 2 S rfl rfl comp_api_Loop_Parents
 refine sFldV (q := co) S (wG 14 true 78 rfl rfl rfl ah) rfl rfl cg rfl (lb rfl) fun a S => ?_
 obtain ⟨cz, S⟩ := pLoad (r := (rL (rI .i64))) (q := cp) (x := aW.Parents) 0 S rfl
 obtain ⟨bp, bq, _, rfl, _⟩ := S.mem.know (i := 1) (e := fRep (rL (rI .i64)) (cz) aW.Parents) rfl
 refine sLoadV1 (vq := cp) 0 (.slice bp aW.Parents.length bq) S (wG 14 true 78 rfl rfl rfl ah) rfl rfl rfl rfl rfl (lb rfl) fun a S => ?_
 refine sLit (r := (rI .i64)) (T := 3) (xs := ([0] : List Int)) [(0, iv 0)] 1 [iv 0] [iv 0] (iv 0) 8 S (wG 14 true 78 rfl rfl rfl ah) rfl rfl Try.underlying32 rfl (by decide) (by decide) (by kernel_rfl) rfl (fun E1 w1 hE => All.cons rfl (All.nil _ _ _)) rfl rfl (lb rfl) fun a w br bt S => ?_
 obtain ⟨bV, bH, h⟩ := bS h
 have hv_r97 : bV = true := Option.some.inj (bH.symm.trans (by rw [hv_x86]; exact kc_raddlelaw27_alive_8))
 have S1 := S.mem
 have S1 := S1.shutR (r := (rI .i64)) (T := 3) (v := .slice br ([0] : List Int).length bt) (xs := ([0] : List Int)) 0 rfl
 refine sCallQ (X := Unit) (f := 18) (vs := [.slice bp aW.Parents.length bq, .slice br ([0] : List Int).length bt]) (val := fun _ => .bool bV) S (wG 14 true 78 rfl rfl rfl ah) rfl callee18 rfl (S1.quiet [2, 0] rfl) (fun E1 w1 S1 => c_raddleref26_SameInts E1 w1 aW.Parents (.slice bp aW.Parents.length bq) ([0] : List Int) (.slice br ([0] : List Int).length bt) bV bH S1) rfl (lb rfl) fun _ a w S => ?_
 refine sPickT (.bool bV) S (wN rfl) rfl rfl ah rfl rfl (lb rfl) fun a S => ?_
 refine sM S fun a S => ?_
 rcases iS h with ⟨am, h⟩ | ⟨am, h⟩
 rotate_left
 ·exact absurd am (by rw [hv_r97]; decide)
 refine sMove (.slice aq ai.1.length ar) S (wG 22 true 86 rfl rfl rfl am) (.inl rfl) rfl rfl (lb rfl) fun a S => ?_
 refine sBuild [(0, iv 5), (1, iv 3)] [iv 5, iv 3] S (wG 22 true 86 rfl rfl rfl am) rfl rfl rfl rfl (lb rfl) fun a S => ?_
 refine sBuild [(0, iv 5), (1, iv 4)] [iv 5, iv 4] S (wG 22 true 86 rfl rfl rfl am) rfl rfl rfl rfl (lb rfl) fun a S => ?_
 have S := S.learn (fRep r_A2_Int (.agg #[iv 5, iv 3]) (5, 3)) rfl
 have S := S.learn (fRep r_A2_Int (.agg #[iv 5, iv 4]) (5, 4)) rfl
 refine sLit (r := r_A2_Int) (T := 49) (xs := [(5, 3), (5, 4)]) [(0, .agg #[iv 5, iv 3]), (1, .agg #[iv 5, iv 4])] 2 [.agg #[iv 5, iv 3], .agg #[iv 5, iv 4]] [iv 5, iv 3, iv 5, iv 4] (.agg #[iv 0, iv 0]) 16 S (wG 22 true 86 rfl rfl rfl am) rfl rfl Try.underlying37 rfl (by decide) (by decide) (by kernel_rfl) rfl (fun E1 w1 hE => All.cons (r_A2_Int.mono hE (S.mem.know (i := 1) (e := fRep r_A2_Int (.agg #[iv 5, iv 3]) (5, 3)) rfl)) (All.cons (r_A2_Int.mono hE (S.mem.know (i := 0) (e := fRep r_A2_Int (.agg #[iv 5, iv 4]) (5, 4)) rfl)) (All.nil _ _ _))) rfl rfl (lb rfl) fun a w aG aH S => ?_
 obtain ⟨aR, aX, h⟩ := bS h
 have hv_r102 : aR = true := Option.some.inj (aX.symm.trans (by rw [hv_r20]; exact kc_raddlelaw27_alive_9))
 have S1 := S.mem
 have S1 := S1.shutR (r := r_A2_Int) (T := 49) (v := .slice aG [(5, 3), (5, 4)].length aH) (xs := [(5, 3), (5, 4)]) 0 rfl
 refine sCallQ (X := Unit) (f := 19) (vs := [.slice aq ai.1.length ar, .slice aG [(5, 3), (5, 4)].length aH]) (val := fun _ => .bool aR) S (wG 22 true 86 rfl rfl rfl am) rfl callee19 rfl (S1.quiet [23, 0] rfl) (fun E1 w1 S1 => c_raddleref27_SamePairs E1 w1 ai.1 (.slice aq ai.1.length ar) [(5, 3), (5, 4)] (.slice aG [(5, 3), (5, 4)].length aH) aR aX S1) rfl (lb rfl) fun _ a w S => ?_
 refine sPickT (.bool aR) S (wN rfl) rfl rfl am rfl rfl (lb rfl) fun a S => ?_
 refine sN S fun a S => ?_
 refine lT (c9 _ _ (sSeq (fun cA bI => sRegion (sM S fun a S => ?_))))
 refine sM S fun a S => ?_
 rcases iS h with ⟨a8, h⟩ | ⟨a8, h⟩
 rotate_left
 ·exact absurd a8 (by rw [hv_r102]; decide)
 refine sMove (.slice ak ab.1.length al) S (wG 1 true 94 rfl rfl rfl a8) (.inl rfl) rfl rfl (lb rfl) fun a S => ?_
 obtain ⟨ao, aZ, h⟩ := bS h
 have hv_x106 : ao = (api_Loop.mk 1 0 [0, 1] false) := Option.some.inj (aZ.symm.trans (by rw [hv_r37]; kernel_rfl))
 obtain ⟨bJ, bK, S⟩ := pIdx (P := Try.prog) (r := r_api_Loop) (v := .slice ak ab.1.length al) (xs := ab.1) (j := 3) 26 48 15 S Try.underlying26 rfl rfl aZ
 refine sIdxV S (wG 1 true 94 rfl rfl rfl a8) rfl rfl rfl bK rfl (lb rfl) fun a S => ?_
 obtain ⟨bL, bM, S⟩ := pFld (P := Try.prog) (r := r_api_Loop) (s2 := (rL (rI .i64))) (g := (·.Parents)) (q := bJ) (z := ao) 48 2 0 2 S rfl rfl comp_api_Loop_Parents
 refine sFldV (q := bJ) S (wG 1 true 94 rfl rfl rfl a8) rfl rfl bM rfl (lb rfl) fun a S => ?_
 obtain ⟨ci, S⟩ := pLoad (r := (rL (rI .i64))) (q := bL) (x := ao.Parents) 0 S rfl
 obtain ⟨aI, aJ, _, rfl, _⟩ := S.mem.know (i := 1) (e := fRep (rL (rI .i64)) (ci) ao.Parents) rfl
 refine sLoadV1 (vq := bL) 0 (.slice aI ao.Parents.length aJ) S (wG 1 true 94 rfl rfl rfl a8) rfl rfl rfl rfl rfl (lb rfl) fun a S => ?_
 refine sLit (r := (rI .i64)) (T := 3) (xs := ([0, 1] : List Int)) [(0, iv 0), (1, iv 1)] 2 [iv 0, iv 1] [iv 0, iv 1] (iv 0) 8 S (wG 1 true 94 rfl rfl rfl a8) rfl rfl Try.underlying32 rfl (by decide) (by decide) (by kernel_rfl) rfl (fun E1 w1 hE => All.cons rfl (All.cons rfl (All.nil _ _ _))) rfl rfl (lb rfl) fun a w aK aL S => ?_
 obtain ⟨aS, ba, h⟩ := bS h
 have hv_r117 : aS = true := Option.some.inj (ba.symm.trans (by rw [hv_x106]; exact kc_raddlelaw27_alive_10))
 have S1 := S.mem
 have S1 := S1.shutR (r := (rI .i64)) (T := 3) (v := .slice aK ([0, 1] : List Int).length aL) (xs := ([0, 1] : List Int)) 0 rfl
 refine sCallQ (X := Unit) (f := 18) (vs := [.slice aI ao.Parents.length aJ, .slice aK ([0, 1] : List Int).length aL]) (val := fun _ => .bool aS) S (wG 1 true 94 rfl rfl rfl a8) rfl callee18 rfl (S1.quiet [2, 0] rfl) (fun E1 w1 S1 => c_raddleref26_SameInts E1 w1 ao.Parents (.slice aI ao.Parents.length aJ) ([0, 1] : List Int) (.slice aK ([0, 1] : List Int).length aL) aS ba S1) rfl (lb rfl) fun _ a w S => ?_
 refine sPickT (.bool aS) S (wN rfl) rfl rfl a8 rfl rfl (lb rfl) fun a S => ?_
 refine sM S fun a S => ?_
 rcases iS h with ⟨a9, h⟩ | ⟨a9, h⟩
 rotate_left
 ·exact absurd a9 (by rw [hv_r117]; decide)
 refine sMove (.slice ak ab.1.length al) S (wG 9 true 102 rfl rfl rfl a9) (.inl rfl) rfl rfl (lb rfl) fun a S => ?_
 obtain ⟨ap, bb, h⟩ := bS h
 have hv_x120 : ap = (api_Loop.mk 1 1 [] false) := Option.some.inj (bb.symm.trans (by rw [hv_r37]; kernel_rfl))
 obtain ⟨bN, bO, S⟩ := pIdx (P := Try.prog) (r := r_api_Loop) (v := .slice ak ab.1.length al) (xs := ab.1) (j := 4) 26 48 19 S Try.underlying26 rfl rfl bb
 refine sIdxV S (wG 9 true 102 rfl rfl rfl a9) rfl rfl rfl bO rfl (lb rfl) fun a S => ?_
 obtain ⟨bP, bQ, S⟩ := pFld (P := Try.prog) (r := r_api_Loop) (s2 := (rL (rI .i64))) (g := (·.Parents)) (q := bN) (z := ap) 48 2 0 2 S rfl rfl comp_api_Loop_Parents
 refine sFldV (q := bN) S (wG 9 true 102 rfl rfl rfl a9) rfl rfl bQ rfl (lb rfl) fun a S => ?_
 obtain ⟨cj, S⟩ := pLoad (r := (rL (rI .i64))) (q := bP) (x := ap.Parents) 0 S rfl
 obtain ⟨bR, bT, _, rfl, _⟩ := S.mem.know (i := 1) (e := fRep (rL (rI .i64)) (cj) ap.Parents) rfl
 refine sLoadV1 (vq := bP) 0 (.slice bR ap.Parents.length bT) S (wG 9 true 102 rfl rfl rfl a9) rfl rfl rfl rfl rfl (lb rfl) fun a S => ?_
 refine sLen S (wG 9 true 102 rfl rfl rfl a9) rfl Try.underlying32 rfl rfl (lb rfl) fun a S => ?_
 refine sBin _ S (wG 9 true 102 rfl rfl rfl a9) rfl rfl rfl (bEq _ _ _ _ .i64 (ap.Parents.length : Int) 0) rfl (lb rfl) fun a S => ?_
 refine sPickT (.bool ((ap.Parents.length : Int) == 0)) S (wN rfl) rfl rfl a9 rfl rfl (lb rfl) fun a S => ?_
 refine sM S fun a S => ?_
 rcases iS h with ⟨ac, h⟩ | ⟨ac, h⟩
 rotate_left
 ·exact absurd ac (by rw [hv_x120]; decide)
 refine sMove (.slice au aj.1.length av) S (wG 17 true 110 rfl rfl rfl ac) (.inl rfl) rfl rfl (lb rfl) fun a S => ?_
 refine sLit (r := (rI .i64)) (T := 3) (xs := ([2] : List Int)) [(0, iv 2)] 1 [iv 2] [iv 2] (iv 0) 8 S (wG 17 true 110 rfl rfl rfl ac) rfl rfl Try.underlying32 rfl (by decide) (by decide) (by kernel_rfl) rfl (fun E1 w1 hE => All.cons rfl (All.nil _ _ _)) rfl rfl (lb rfl) fun a w aM aO S => ?_
 obtain ⟨ay, bc, h⟩ := bS h
 have hv_r132 : ay = true := Option.some.inj (bc.symm.trans (by rw [hv_r43]; exact kc_raddlelaw27_alive_11))
 have S1 := S.mem
 have S1 := S1.shutR (r := (rI .i64)) (T := 3) (v := .slice aM ([2] : List Int).length aO) (xs := ([2] : List Int)) 0 rfl
 refine sCallQ (X := Unit) (f := 18) (vs := [.slice au aj.1.length av, .slice aM ([2] : List Int).length aO]) (val := fun _ => .bool ay) S (wG 17 true 110 rfl rfl rfl ac) rfl callee18 rfl (S1.quiet [23, 0] rfl) (fun E1 w1 S1 => c_raddleref26_SameInts E1 w1 aj.1 (.slice au aj.1.length av) ([2] : List Int) (.slice aM ([2] : List Int).length aO) ay bc S1) rfl (lb rfl) fun _ a w S => ?_
 refine sPickT (.bool ay) S (wN rfl) rfl rfl ac rfl rfl (lb rfl) fun a S => ?_
 refine sN S fun a S => ?_
 refine lT (bI _ _ ?_)
 obtain rfl := tS h
 exact wp_ret (sRet (.bool ay) S (rsl1 rfl (rvT (t := 0) (v := .bool ay) S rfl)) ⟨(), rfl, S.mem.sel [] [] (by decide) rfl rfl⟩)
def K_raddlelaw27_alive  : Option Bool :=
 Option.bind (K_raddlelaw27_one 3 [(api_Stitch.mk 6 false 1 2)]) fun r5 =>
 Option.bind (K_loops_Of r5) fun r14 =>
 Option.bind (K_loops_Crossings r5) fun r20 =>
 Option.bind (K_raddlelaw27_one 3 [(api_Stitch.mk 3 false 2 0), (api_Stitch.mk 2 false 0 0), (api_Stitch.mk 10 false 1 0)]) fun r28 =>
 Option.bind (K_loops_Of r28) fun r37 =>
 Option.bind (K_loops_Bound r28) fun r43 =>
 if r14.2 != 0 then
  none
 else
  if r20.2 != 0 then
   none
  else
   if r37.2 != 0 then
    none
   else
    if r43.2 != 0 then
     none
    else
     if (r14.1.length : Int) != 6 then
      none
     else
      if (r37.1.length : Int) != 5 then
       some false
      else
       Option.bind (idxO r14.1 3) fun x58 =>
       Option.bind (K_raddleref26_SameInts x58.Parents ([1] : List Int)) fun r69 =>
       if r69 then
        Option.bind (idxO r14.1 4) fun x72 =>
        Option.bind (K_raddleref26_SameInts x72.Parents ([2] : List Int)) fun r83 =>
        if r83 then
         Option.bind (idxO r14.1 5) fun x86 =>
         Option.bind (K_raddleref26_SameInts x86.Parents ([0] : List Int)) fun r97 =>
         if r97 then
          Option.bind (K_raddleref27_SamePairs r20.1 [(5, 3), (5, 4)]) fun r102 =>
          if r102 then
           Option.bind (idxO r37.1 3) fun x106 =>
           Option.bind (K_raddleref26_SameInts x106.Parents ([0, 1] : List Int)) fun r117 =>
           if r117 then
            Option.bind (idxO r37.1 4) fun x120 =>
            if (x120.Parents.length : Int) == 0 then
             Option.bind (K_raddleref26_SameInts r43.1 ([2] : List Int)) fun r132 =>
             some r132
            else
             none
           else
            none
          else
           none
         else
          none
        else
         none
       else
        none
theorem m_F_raddlelaw27_alive  : Le (K_raddlelaw27_alive) (F_raddlelaw27_alive) := by
 unfold K_raddlelaw27_alive F_raddlelaw27_alive
 with_reducible repeat' (first | exact m_F_raddlelaw27_one _ _ | exact m_F_loops_Of _ | exact m_F_loops_Crossings _ | exact m_F_loops_Bound _ | exact m_F_raddleref26_SameInts _ _ | exact m_F_raddleref27_SamePairs _ _ | exact Le.rfl _ | refine Le.loop _ ?_ | refine Le.bind ?_ ?_ | refine Le.ite ?_ ?_ | refine Le.sum ?_ ?_ | refine Le.prod ?_ | intro _ | exact Empty.elim (by assumption) | dsimp only)
set_option maxRecDepth 1000000 in
theorem k_raddlelaw27_alive : F_raddlelaw27_alive = some true := m_F_raddlelaw27_alive _ (by kernel_rfl)
theorem w64_of {x : Int} (h0 : -9223372036854775808 ≤ x) (h1 : x ≤ 9223372036854775807) : w64 x = x := w64_id ⟨h0, h1⟩
theorem w64_succ {k : Nat} (h : k < 9223372036854775807) : w64 ((k : Int) + 1) = ((k + 1 : Nat) : Int) := by
 rw [w64_of (by omega) (by omega)]; omega
theorem idxO_nat {α : Type} {xs : List α} {k : Nat} (h : k < xs.length) : idxO xs (k : Int) = some xs[k] := by
 simp [idxO, h]
theorem idxO_of {α : Type} {xs : List α} {i : Int} {k : Nat} (hi : i = (k : Int)) (h : k < xs.length) : idxO xs i = some xs[k] := by subst hi; exact idxO_nat h
theorem setO_nat {α : Type} {xs : List α} {k : Nat} {y : α} (h : k < xs.length) : setO xs (k : Int) y = some (xs.set k y) := by
 simp [setO, h]
theorem appO_of {α : Type} {xs ys : List α} (h : xs.length + ys.length ≤ 68719476736) : appO xs ys = some (xs ++ ys) := by
 simp [appO, lim, h]
theorem capO_of {n : Int} {k : Nat} (h : n = (k : Int)) (hk : k ≤ 68719476736) : capO n = some () := by
 subst h; simp [capO, lim, hk]
theorem makeO_of {α : Type} {n : Int} {z : α} {k : Nat} (h : n = (k : Int)) (hk : k ≤ 68719476736) : makeO n z = some (List.replicate k z) := by
 subst h; simp [makeO, lim, hk]
theorem sliceO_of {α : Type} {xs : List α} {lo hi : Int} {l k : Nat} (h1 : lo = l) (h2 : hi = k) (h3 : l ≤ k) (h4 : k ≤ xs.length) : sliceO xs lo hi = some ((xs.take k).drop l) := by
 subst h1 h2; simp [sliceO, h3, h4]
theorem loop_st {σ τ : Type} {B : σ × Int → Option ((σ × Int) ⊕ τ)} (n : Nat) (I : Nat → σ → Prop) (Pt : τ → Prop) {s0 : σ} (h0 : I 0 s0)
 (step : ∀ k s, k < n → I k s → (∃ s', B (s, (k : Int)) = some (.inl (s', ((k + 1 : Nat) : Int))) ∧ I (k + 1) s') ∨ (∃ t, B (s, (k : Int)) = some (.inr t) ∧ Pt t))
 (last : ∀ s, I n s → ∃ t, B (s, (n : Int)) = some (.inr t) ∧ Pt t) : ∃ t, whileO B (s0, 0) = some t ∧ Pt t := by
 refine whileO_inv (fun s => ∃ k : Nat, k ≤ n ∧ s.2 = (k : Int) ∧ I k s.1) (fun s => ((n : Int) - s.2).toNat) Pt ⟨0, Nat.zero_le _, rfl, h0⟩ ?_
 rintro ⟨s, i⟩ ⟨k, hk, rfl, hI⟩
 by_cases hlt : k < n
 ·rcases step k s hlt hI with ⟨s', h1, h2⟩ | h
  ·exact .inl ⟨_, h1, ⟨k + 1, hlt, rfl, h2⟩, by simp; omega⟩
  ·exact .inr h
 ·obtain rfl : k = n := by omega
  exact .inr (last s hI)
theorem loop_ix {τ : Type} {B : Int → Option (Int ⊕ τ)} (n : Nat) (I : Nat → Prop) (Pt : τ → Prop) (h0 : I 0)
 (step : ∀ k, k < n → I k → (B (k : Int) = some (.inl ((k + 1 : Nat) : Int)) ∧ I (k + 1)) ∨ (∃ t, B (k : Int) = some (.inr t) ∧ Pt t))
 (last : I n → ∃ t, B (n : Int) = some (.inr t) ∧ Pt t) : ∃ t, whileO B 0 = some t ∧ Pt t := by
 refine whileO_inv (fun s => ∃ k : Nat, k ≤ n ∧ s = (k : Int) ∧ I k) (fun s => ((n : Int) - s).toNat) Pt ⟨0, Nat.zero_le _, rfl, h0⟩ ?_
 rintro i ⟨k, hk, rfl, hI⟩
 by_cases hlt : k < n
 ·rcases step k hlt hI with ⟨h1, h2⟩ | h
  ·exact .inl ⟨_, h1, ⟨k + 1, hlt, rfl, h2⟩, by simp; omega⟩
  ·exact .inr h
 ·obtain rfl : k = n := by omega
  exact .inr (last hI)
theorem loop_all {τ : Type} {B : Int → Option (Int ⊕ τ)} (n : Nat) (p : Nat → Bool) (good bad : τ)
 (h : ∀ k, k < n → B (k : Int) = some (if p k = true then .inl ((k + 1 : Nat) : Int) else .inr bad)) (hn : B (n : Int) = some (.inr good)) :
 whileO B 0 = some (if (List.range n).all p = true then good else bad) := by
 have key : ∃ t, whileO B 0 = some t ∧ t = if (List.range n).all p = true then good else bad := by
  refine loop_ix n (fun k => ∀ j, j < k → p j = true) _ (fun j h => absurd h (Nat.not_lt_zero j)) ?_ ?_
  ·intro k hk hI
   cases hf : p k with
   | true =>
    refine .inl ⟨by rw [h k hk, if_pos hf], fun j hj => ?_⟩
    by_cases e : j = k
    ·rw [e]; exact hf
    ·exact hI j (by omega)
   | false =>
    refine .inr ⟨bad, by rw [h k hk, hf]; simp, ?_⟩
    rw [if_neg]
    intro hc
    rw [List.all_eq_true] at hc
    have := hc k (List.mem_range.2 hk)
    rw [hf] at this; cases this
  ·intro hI
   refine ⟨good, hn, ?_⟩
   rw [if_pos]
   rw [List.all_eq_true]
   exact fun j hj => hI j (List.mem_range.1 hj)
 obtain ⟨t, h1, rfl⟩ := key
 exact h1
theorem dT {p : Prop} [Decidable p] (h : p) : decide p = true := decide_eq_true h
theorem dF {p : Prop} [Decidable p] (h : ¬ p) : decide p = false := decide_eq_false h
theorem nT {a b : Int} (h : ¬ a = b) : (a != b) = true := by simp [h]
theorem nF {a b : Int} (h : a = b) : (a != b) = false := by simp [h]
def Fill {α : Type} (n : Nat) (f : Nat → α) (k : Nat) (s : List α) : Prop := s.length = n ∧ ∀ j, j < k → s[j]? = some (f j)
theorem Fill.zero {α : Type} (n : Nat) (f : Nat → α) (z : α) : Fill n f 0 (List.replicate n z) := ⟨by simp, fun j hj => absurd hj (Nat.not_lt_zero j)⟩
theorem Fill.set {α : Type} {n : Nat} {f : Nat → α} {k : Nat} {s : List α} (h : Fill n f k s) (hk : k < n) : Fill n f (k + 1) (s.set k (f k)) := by
 refine ⟨by simp [h.1], fun j hj => ?_⟩
 by_cases e : j = k
 ·subst e; simp [h.1, hk]
 ·rw [List.getElem?_set_ne (fun h => e h.symm)]; exact h.2 j (by omega)
theorem Fill.all {α : Type} {n : Nat} {f : Nat → α} {s : List α} (h : Fill n f n s) : s = (List.range n).map f := by
 apply List.ext_getElem?
 intro j
 by_cases hj : j < n
 ·rw [h.2 j hj]; simp [hj]
 ·rw [List.getElem?_eq_none (by rw [h.1]; omega), List.getElem?_eq_none (by simp; omega)]
theorem sliceO_all {α : Type} {xs : List α} {k : Nat} (h : k ≤ xs.length) : sliceO xs (k : Int) (xs.length : Int) = some (xs.drop k) := by
 rw [sliceO_of (l := k) (k := xs.length) rfl rfl h (Nat.le_refl _), List.take_length]
noncomputable def F_raddleref25_Used (p0 : api_Stitch) : Option Int :=
 Option.bind (α := Bool) (
  if p0.Kind == 2 then
   some (p0.Kind == 2)
  else
   some (p0.Kind == 9)) fun o5 =>
 if o5 then
  some 0
 else
  Option.bind (α := Bool) (
   if p0.Kind == 3 then
    some (p0.Kind == 3)
   else
    if p0.Kind == 4 then
     some (p0.Kind == 4)
    else
     some (p0.Kind == 10)) fun a0 =>
  if a0 then
   some p0.A
  else
   Option.bind (α := Bool) (
    if p0.Kind == 6 then
     some (p0.Kind == 6)
    else
     some (p0.Kind == 7)) fun a4 =>
   if a4 then
    some (w64 (p0.A + p0.B))
   else
    some 1
theorem c_raddleref25_Used (E : Nat → Prop) (w0 : World) (p0 : api_Stitch) (v0 : Value) (r : Int) (h : F_raddleref25_Used p0 = some r) (S : St0 E [] w0 w0 [] [fRep r_api_Stitch (v0) p0]) :
 Calls Try.prog 46 #[v0] w0 (Ret (X := Unit) E [] w0 (fun _ => .int .i64 r) (fun _ => []) (fun _ => [])) := by
 unfold F_raddleref25_Used at h
 obtain rfl : v0 = .agg #[.int .u8 p0.Kind, .bool p0.Purl, iv p0.A, iv p0.B] := S.know (i := 0) (e := fRep r_api_Stitch (v0) p0) rfl
 refine sEnter (args := [.agg #[.int .u8 p0.Kind, .bool p0.Purl, iv p0.A, iv p0.B]]) 22 Try.func46 rfl rfl (by simp) S (fun a S => ?_)
 refine sSeq (fun K1 hK1 => sRegion (sBox (v := .agg #[.int .u8 p0.Kind, .bool p0.Purl, iv p0.A, iv p0.B]) S (wN rfl) rfl rfl [.int .u8 p0.Kind, .bool p0.Purl, iv p0.A, iv p0.B] rfl rfl (lb rfl) fun a b2 w S => ?_))
 refine sN S fun a S => ?_
 refine lT (hK1 _ _ (sSeq (fun K3 hK3 => sSeq (fun K4 hK4 => sRegion (sField (b := b2) (off := 0) 0 0 S (wN rfl) rfl rfl rfl rfl rfl (lb rfl) fun a S => ?_)))))
 refine sLoad1 0 (.int .u8 p0.Kind) S (wN rfl) rfl rfl rfl rfl rfl rfl (lb rfl) fun a S => ?_
 refine lT (hK4 _ _ (wp_block ?_))
 obtain ⟨t6, h, g7⟩ := bS h
 refine sCut (fun a w => ∃ o5, o5 = t6 ∧ St [] E [] w0 22 a w [(1, .pointer (some ⟨b2, 0, none⟩)), (4, .int .u8 p0.Kind), (5, .bool o5)] [eBox b2 61 [.int .u8 p0.Kind, .bool p0.Purl, iv p0.A, iv p0.B]] []) ?_ (fun a w hI => ?_)
 ·refine sSeq (fun K8 hK8 => sRegion (sBin _ S (wN rfl) rfl rfl rfl (bEq _ _ _ _ .u8 p0.Kind 2) rfl (lb rfl) fun a S => ?_))
  refine sN S fun a S => ?_
  refine lT (hK8 _ _ ?_)
  rcases iS h with ⟨hc9, h⟩ | ⟨hc9, h⟩
  ·refine sCondT S rfl hc9 ?_
   exact wp_skip (leafT (⟨p0.Kind == 2, Option.some.inj h, S.fix [0] [] (by decide) rfl rfl rfl⟩))
  refine sCondF S rfl hc9 ?_
  refine sRegion (sBin _ S (wN rfl) rfl rfl rfl (bEq _ _ _ _ .u8 p0.Kind 9) rfl (lb rfl) fun a S => ?_)
  refine sN S fun a S => ?_
  exact lT (⟨p0.Kind == 9, Option.some.inj h, S.fix [0] [] (by decide) rfl rfl rfl⟩)
 obtain ⟨o5, rfl, S⟩ := hI
 have h := g7
 try dsimp only at h
 rcases iS h with ⟨a0, h⟩ | ⟨a0, h⟩
 ·refine sCondT S rfl a0 ?_
  refine sSeq (fun ao a9 => sRegion (sN S fun a S => ?_))
  refine lT (a9 _ _ ?_)
  obtain rfl := tS h
  exact wp_ret (rBlock (rThen (sRet (iv 0) S (rsl1 rfl (rvT (t := 2) (v := iv 0) S rfl)) ⟨(), rfl, S.mem.sel [] [] (by decide) rfl rfl⟩)))
 refine sCondF S rfl a0 ?_
 obtain ⟨aj, h, ak⟩ := bS h
 refine sCut (fun a w => ∃ aa, aa = aj ∧ St [] E [] w0 22 a w [(1, .pointer (some ⟨b2, 0, none⟩)), (4, .int .u8 p0.Kind), (8, .bool aa)] [eBox b2 61 [.int .u8 p0.Kind, .bool p0.Purl, iv p0.A, iv p0.B]] []) ?_ (fun a w hI => ?_)
 ·refine sSeq (fun ap ab => sRegion (sBin _ S (wN rfl) rfl rfl rfl (bEq _ _ _ _ .u8 p0.Kind 3) rfl (lb rfl) fun a S => ?_))
  refine sN S fun a S => ?_
  refine lT (ab _ _ ?_)
  rcases iS h with ⟨a4, h⟩ | ⟨a4, h⟩
  ·refine sCondT S rfl a4 ?_
   exact wp_skip (leafT (⟨p0.Kind == 3, Option.some.inj h, S.fix [0] [] (by decide) rfl rfl rfl⟩))
  refine sCondF S rfl a4 ?_
  refine sSeq (fun aq ac => sRegion (sBin _ S (wN rfl) rfl rfl rfl (bEq _ _ _ _ .u8 p0.Kind 4) rfl (lb rfl) fun a S => ?_))
  refine sN S fun a S => ?_
  refine lT (ac _ _ ?_)
  rcases iS h with ⟨a5, h⟩ | ⟨a5, h⟩
  ·refine sCondT S rfl a5 ?_
   exact wp_skip (leafT (⟨p0.Kind == 4, Option.some.inj h, S.fix [0] [] (by decide) rfl rfl rfl⟩))
  refine sCondF S rfl a5 ?_
  refine sRegion (sBin _ S (wN rfl) rfl rfl rfl (bEq _ _ _ _ .u8 p0.Kind 10) rfl (lb rfl) fun a S => ?_)
  refine sN S fun a S => ?_
  exact lT (⟨p0.Kind == 10, Option.some.inj h, S.fix [0] [] (by decide) rfl rfl rfl⟩)
 obtain ⟨aa, rfl, S⟩ := hI
 have h := ak
 try dsimp only at h
 rcases iS h with ⟨a6, h⟩ | ⟨a6, h⟩
 ·refine sCondT S rfl a6 ?_
  refine sSeq (fun ar ae => sRegion (sField (b := b2) (off := 0) 2 2 S (wN rfl) rfl rfl rfl rfl rfl (lb rfl) fun a S => ?_))
  refine sLoad1 0 (iv p0.A) S (wN rfl) rfl rfl rfl rfl rfl rfl (lb rfl) fun a S => ?_
  refine sN S fun a S => ?_
  refine lT (ae _ _ ?_)
  obtain rfl := tS h
  exact wp_ret (rBlock (rThen (sRet (iv p0.A) S (rsl1 rfl (rvT (t := 2) (v := iv p0.A) S rfl)) ⟨(), rfl, S.mem.sel [] [] (by decide) rfl rfl⟩)))
 refine sCondF S rfl a6 ?_
 obtain ⟨al, h, am⟩ := bS h
 refine sCut (fun a w => ∃ af, af = al ∧ St [] E [] w0 22 a w [(1, .pointer (some ⟨b2, 0, none⟩)), (14, .bool af)] [eBox b2 61 [.int .u8 p0.Kind, .bool p0.Purl, iv p0.A, iv p0.B]] []) ?_ (fun a w hI => ?_)
 ·refine sSeq (fun au ag => sRegion (sBin _ S (wN rfl) rfl rfl rfl (bEq _ _ _ _ .u8 p0.Kind 6) rfl (lb rfl) fun a S => ?_))
  refine sN S fun a S => ?_
  refine lT (ag _ _ ?_)
  rcases iS h with ⟨a7, h⟩ | ⟨a7, h⟩
  ·refine sCondT S rfl a7 ?_
   exact wp_skip (leafT (⟨p0.Kind == 6, Option.some.inj h, S.fix [0] [] (by decide) rfl rfl rfl⟩))
  refine sCondF S rfl a7 ?_
  refine sRegion (sBin _ S (wN rfl) rfl rfl rfl (bEq _ _ _ _ .u8 p0.Kind 7) rfl (lb rfl) fun a S => ?_)
  refine sN S fun a S => ?_
  exact lT (⟨p0.Kind == 7, Option.some.inj h, S.fix [0] [] (by decide) rfl rfl rfl⟩)
 obtain ⟨af, rfl, S⟩ := hI
 have h := am
 try dsimp only at h
 rcases iS h with ⟨a8, h⟩ | ⟨a8, h⟩
 rotate_left
 ·refine sCondF S rfl a8 ?_
  refine wp_skip (leafB (leafT (hK3 _ _ ?_)))
  refine sSeq (fun av ah => sRegion (sN S fun a S => ?_))
  refine lT (ah _ _ ?_)
  obtain rfl := tS h
  exact wp_ret (sRet (iv 1) S (rsl1 rfl (rvT (t := 2) (v := iv 1) S rfl)) ⟨(), rfl, S.mem.sel [] [] (by decide) rfl rfl⟩)
 refine sCondT S rfl a8 ?_
 refine sSeq (fun aw ai => sRegion (sField (b := b2) (off := 0) 2 2 S (wN rfl) rfl rfl rfl rfl rfl (lb rfl) fun a S => ?_))
 refine sLoad1 0 (iv p0.A) S (wN rfl) rfl rfl rfl rfl rfl rfl (lb rfl) fun a S => ?_
 refine sField (b := b2) (off := 0) 3 3 S (wN rfl) rfl rfl rfl rfl rfl (lb rfl) fun a S => ?_
 refine sLoad1 0 (iv p0.B) S (wN rfl) rfl rfl rfl rfl rfl rfl (lb rfl) fun a S => ?_
 refine sBin _ S (wN rfl) rfl rfl rfl (bAdd _ _ _ _ p0.A p0.B) rfl (lb rfl) fun a S => ?_
 refine sN S fun a S => ?_
 refine lT (ai _ _ ?_)
 obtain rfl := tS h
 exact wp_ret (rBlock (rThen (sRet (iv (w64 (p0.A + p0.B))) S (rsl1 rfl (rvT (t := 2) (v := iv (w64 (p0.A + p0.B))) S rfl)) ⟨(), rfl, S.mem.sel [] [] (by decide) rfl rfl⟩)))
noncomputable def F_raddleref25_Gives (p0 : api_Stitch) : Option Int :=
 if p0.Kind == 10 then
  some 0
 else
  Option.bind (α := Bool) (
   if p0.Kind == 5 then
    some (p0.Kind == 5)
   else
    some (p0.Kind == 9)) fun o8 =>
  if o8 then
   some p0.A
  else
   Option.bind (α := Bool) (
    if p0.Kind == 6 then
     some (p0.Kind == 6)
    else
     some (p0.Kind == 7)) fun a0 =>
   if a0 then
    some (w64 (p0.A + p0.B))
   else
    some 1
theorem c_raddleref25_Gives (E : Nat → Prop) (w0 : World) (p0 : api_Stitch) (v0 : Value) (r : Int) (h : F_raddleref25_Gives p0 = some r) (S : St0 E [] w0 w0 [] [fRep r_api_Stitch (v0) p0]) :
 Calls Try.prog 63 #[v0] w0 (Ret (X := Unit) E [] w0 (fun _ => .int .i64 r) (fun _ => []) (fun _ => [])) := by
 unfold F_raddleref25_Gives at h
 obtain rfl : v0 = .agg #[.int .u8 p0.Kind, .bool p0.Purl, iv p0.A, iv p0.B] := S.know (i := 0) (e := fRep r_api_Stitch (v0) p0) rfl
 refine sEnter (args := [.agg #[.int .u8 p0.Kind, .bool p0.Purl, iv p0.A, iv p0.B]]) 20 Try.func63 rfl rfl (by simp) S (fun a S => ?_)
 refine sSeq (fun K1 hK1 => sRegion (sBox (v := .agg #[.int .u8 p0.Kind, .bool p0.Purl, iv p0.A, iv p0.B]) S (wN rfl) rfl rfl [.int .u8 p0.Kind, .bool p0.Purl, iv p0.A, iv p0.B] rfl rfl (lb rfl) fun a b2 w S => ?_))
 refine sN S fun a S => ?_
 refine lT (hK1 _ _ (sSeq (fun K3 hK3 => sSeq (fun K4 hK4 => sRegion (sField (b := b2) (off := 0) 0 0 S (wN rfl) rfl rfl rfl rfl rfl (lb rfl) fun a S => ?_)))))
 refine sLoad1 0 (.int .u8 p0.Kind) S (wN rfl) rfl rfl rfl rfl rfl rfl (lb rfl) fun a S => ?_
 refine lT (hK4 _ _ (wp_block ?_))
 refine sSeq (fun K5 hK5 => sRegion (sBin _ S (wN rfl) rfl rfl rfl (bEq _ _ _ _ .u8 p0.Kind 10) rfl (lb rfl) fun a S => ?_))
 refine sN S fun a S => ?_
 refine lT (hK5 _ _ ?_)
 rcases iS h with ⟨hc6, h⟩ | ⟨hc6, h⟩
 ·refine sCondT S rfl hc6 ?_
  refine sSeq (fun K7 hK7 => sRegion (sN S fun a S => ?_))
  refine lT (hK7 _ _ ?_)
  obtain rfl := tS h
  exact wp_ret (rBlock (rThen (sRet (iv 0) S (rsl1 rfl (rvT (t := 2) (v := iv 0) S rfl)) ⟨(), rfl, S.mem.sel [] [] (by decide) rfl rfl⟩)))
 refine sCondF S rfl hc6 ?_
 obtain ⟨t9, h, ae⟩ := bS h
 refine sCut (fun a w => ∃ o8, o8 = t9 ∧ St [] E [] w0 20 a w [(1, .pointer (some ⟨b2, 0, none⟩)), (4, .int .u8 p0.Kind), (7, .bool o8)] [eBox b2 61 [.int .u8 p0.Kind, .bool p0.Purl, iv p0.A, iv p0.B]] []) ?_ (fun a w hI => ?_)
 ·refine sSeq (fun ah a7 => sRegion (sBin _ S (wN rfl) rfl rfl rfl (bEq _ _ _ _ .u8 p0.Kind 5) rfl (lb rfl) fun a S => ?_))
  refine sN S fun a S => ?_
  refine lT (a7 _ _ ?_)
  rcases iS h with ⟨a0, h⟩ | ⟨a0, h⟩
  ·refine sCondT S rfl a0 ?_
   exact wp_skip (leafT (⟨p0.Kind == 5, Option.some.inj h, S.fix [0] [] (by decide) rfl rfl rfl⟩))
  refine sCondF S rfl a0 ?_
  refine sRegion (sBin _ S (wN rfl) rfl rfl rfl (bEq _ _ _ _ .u8 p0.Kind 9) rfl (lb rfl) fun a S => ?_)
  refine sN S fun a S => ?_
  exact lT (⟨p0.Kind == 9, Option.some.inj h, S.fix [0] [] (by decide) rfl rfl rfl⟩)
 obtain ⟨o8, rfl, S⟩ := hI
 have h := ae
 try dsimp only at h
 rcases iS h with ⟨a4, h⟩ | ⟨a4, h⟩
 ·refine sCondT S rfl a4 ?_
  refine sSeq (fun ai a8 => sRegion (sField (b := b2) (off := 0) 2 2 S (wN rfl) rfl rfl rfl rfl rfl (lb rfl) fun a S => ?_))
  refine sLoad1 0 (iv p0.A) S (wN rfl) rfl rfl rfl rfl rfl rfl (lb rfl) fun a S => ?_
  refine sN S fun a S => ?_
  refine lT (a8 _ _ ?_)
  obtain rfl := tS h
  exact wp_ret (rBlock (rThen (sRet (iv p0.A) S (rsl1 rfl (rvT (t := 2) (v := iv p0.A) S rfl)) ⟨(), rfl, S.mem.sel [] [] (by decide) rfl rfl⟩)))
 refine sCondF S rfl a4 ?_
 obtain ⟨af, h, ag⟩ := bS h
 refine sCut (fun a w => ∃ a9, a9 = af ∧ St [] E [] w0 20 a w [(1, .pointer (some ⟨b2, 0, none⟩)), (12, .bool a9)] [eBox b2 61 [.int .u8 p0.Kind, .bool p0.Purl, iv p0.A, iv p0.B]] []) ?_ (fun a w hI => ?_)
 ·refine sSeq (fun aj aa => sRegion (sBin _ S (wN rfl) rfl rfl rfl (bEq _ _ _ _ .u8 p0.Kind 6) rfl (lb rfl) fun a S => ?_))
  refine sN S fun a S => ?_
  refine lT (aa _ _ ?_)
  rcases iS h with ⟨a5, h⟩ | ⟨a5, h⟩
  ·refine sCondT S rfl a5 ?_
   exact wp_skip (leafT (⟨p0.Kind == 6, Option.some.inj h, S.fix [0] [] (by decide) rfl rfl rfl⟩))
  refine sCondF S rfl a5 ?_
  refine sRegion (sBin _ S (wN rfl) rfl rfl rfl (bEq _ _ _ _ .u8 p0.Kind 7) rfl (lb rfl) fun a S => ?_)
  refine sN S fun a S => ?_
  exact lT (⟨p0.Kind == 7, Option.some.inj h, S.fix [0] [] (by decide) rfl rfl rfl⟩)
 obtain ⟨a9, rfl, S⟩ := hI
 have h := ag
 try dsimp only at h
 rcases iS h with ⟨a6, h⟩ | ⟨a6, h⟩
 rotate_left
 ·refine sCondF S rfl a6 ?_
  refine wp_skip (leafB (leafT (hK3 _ _ ?_)))
  refine sSeq (fun ak ab => sRegion (sN S fun a S => ?_))
  refine lT (ab _ _ ?_)
  obtain rfl := tS h
  exact wp_ret (sRet (iv 1) S (rsl1 rfl (rvT (t := 2) (v := iv 1) S rfl)) ⟨(), rfl, S.mem.sel [] [] (by decide) rfl rfl⟩)
 refine sCondT S rfl a6 ?_
 refine sSeq (fun al ac => sRegion (sField (b := b2) (off := 0) 2 2 S (wN rfl) rfl rfl rfl rfl rfl (lb rfl) fun a S => ?_))
 refine sLoad1 0 (iv p0.A) S (wN rfl) rfl rfl rfl rfl rfl rfl (lb rfl) fun a S => ?_
 refine sField (b := b2) (off := 0) 3 3 S (wN rfl) rfl rfl rfl rfl rfl (lb rfl) fun a S => ?_
 refine sLoad1 0 (iv p0.B) S (wN rfl) rfl rfl rfl rfl rfl rfl (lb rfl) fun a S => ?_
 refine sBin _ S (wN rfl) rfl rfl rfl (bAdd _ _ _ _ p0.A p0.B) rfl (lb rfl) fun a S => ?_
 refine sN S fun a S => ?_
 refine lT (ac _ _ ?_)
 obtain rfl := tS h
 exact wp_ret (rBlock (rThen (sRet (iv (w64 (p0.A + p0.B))) S (rsl1 rfl (rvT (t := 2) (v := iv (w64 (p0.A + p0.B))) S rfl)) ⟨(), rfl, S.mem.sel [] [] (by decide) rfl rfl⟩)))
noncomputable def raddleref25_sums_l1 (p0 : (List api_Stitch)) : (Int × Int × Int) → Option ((Int × Int × Int) ⊕ (Int × Int)) := fun s0 => match s0 with
 | (a4, a5, a0) =>
  if decide (a0 < (p0.length : Int)) then
   (idxO p0 a0).bind fun a6 =>
   (F_raddleref25_Used a6).bind fun a7 =>
   (F_raddleref25_Gives a6).bind fun a8 =>
   some (.inl (w64 (a4 + a7), w64 (a5 + a8), w64 (a0 + 1)))
  else
   some (.inr (a4, a5))
noncomputable def F_raddleref25_sums (p0 : (List api_Stitch)) : Option (Int × Int) :=
 Option.bind (α := (Int × Int)) (
  (whileO (raddleref25_sums_l1 p0) (0, 0, 0)).bind fun (a0, a4) =>
   some (a0, a4)) fun (o5, o6) =>
 some (o5, o6)
theorem c_raddleref25_sums (E : Nat → Prop) (w0 : World) (p0 : (List api_Stitch)) (v0 : Value) (r : (Int × Int)) (h : F_raddleref25_sums p0 = some r) (S : St0 E [] w0 w0 [] [fRep (rL r_api_Stitch) (v0) p0]) :
 Calls Try.prog 49 #[v0] w0 (Ret (X := Unit) E [] w0 (fun _ => .tuple #[.int .i64 r.1, .int .i64 r.2]) (fun _ => []) (fun _ => [])) := by
 unfold F_raddleref25_sums at h
 obtain ⟨ad1, cp2, _, rfl, _⟩ := S.know (i := 0) (e := fRep (rL r_api_Stitch) (v0) p0) rfl
 refine sEnter (args := [.slice ad1 p0.length cp2]) 29 Try.func49 rfl rfl (by simp) S (fun a S => ?_)
 refine sSeq (fun K3 hK3 => sRegion (sN S fun a S => ?_))
 refine sN S fun a S => ?_
 refine lT (hK3 _ _ (sSeq (fun K4 hK4 => sRegion (sN S fun a S => ?_))))
 refine sN S fun a S => ?_
 refine lT (hK4 _ _ ?_)
 obtain ⟨t7, h, g8⟩ := bS h
 refine sCut (fun a w => ∃ o5, ∃ o6, (o5, o6) = t7 ∧ St [] E [] w0 29 a w [(4, iv o5), (5, iv o6)] [] []) ?_ (fun a w hI => ?_)
 rotate_left
 ·obtain ⟨o5, o6, rfl, S⟩ := hI
  have h := g8
  try dsimp only at h
  refine sSeq (fun au ab => sRegion (sM S fun a S => ?_))
  refine sM S fun a S => ?_
  refine sN S fun a S => ?_
  refine sN S fun a S => ?_
  refine lT (ab _ _ ?_)
  obtain rfl := tS h
  exact wp_ret (sRet (.tuple #[iv o5, iv o6]) S (rsl2 rfl (rvT (t := 2) (v := iv o5) S rfl) (rvT (t := 3) (v := iv o6) S rfl)) ⟨(), rfl, S.mem.sel [] [] (by decide) rfl rfl⟩)
 refine sSeq (fun K9 hK9 => sRegion (sN S fun a S => ?_))
 refine lT (hK9 _ _ (wp_block ?_))
 obtain ⟨av, hl, ar⟩ := bS h
 refine sLoop hl (fun s0 a w => match s0 with | (a6, a7, a4) => St [] E [] w0 29 a w [(0, .slice ad1 p0.length cp2), (4, iv a6), (5, iv a7), (6, iv a4)] [] [fRep (rL r_api_Stitch) (.slice ad1 p0.length cp2) p0]) (S.fix [] [0] (by decide) rfl rfl rfl) ?_
 clear hl h
 intro s0 a w c0 hI h ac
 obtain ⟨a6, a7, a4⟩ := s0
 unfold raddleref25_sums_l1 at h
 dsimp only at h hI
 have S := hI
 refine sSeq (fun aw ae => sSeq (fun ax af => sRegion (sM S fun a S => ?_)))
 refine sM S fun a S => ?_
 refine sLen S (wN rfl) rfl Try.underlying62 rfl rfl (lb rfl) fun a S => ?_
 refine sBin _ S (wN rfl) rfl rfl rfl (bLt _ _ _ _ .i64 a4 (p0.length : Int)) rfl (lb rfl) fun a S => ?_
 refine lT (af _ _ ?_)
 rcases iS h with ⟨a5, h⟩ | ⟨a5, h⟩
 rotate_left
 ·refine sCondF S rfl a5 ?_
  obtain rfl := tS h
  obtain rfl := ac _ rfl
  have h := ar
  try dsimp only at h
  exact wp_exit (xThen (xThen (xHit (leafT (⟨a6, a7, Option.some.inj h, S.fix [] [] (by decide) rfl rfl rfl⟩)))))
 refine sCondT S rfl a5 ?_
 refine wp_skip (leafT (ae _ _ ?_))
 refine sSeq (fun ay ag => wp_block ?_)
 refine sSeq (fun az ah => sRegion (sM S fun a S => ?_))
 refine sM S fun a S => ?_
 refine sM S fun a S => ?_
 obtain ⟨a0, a8, h⟩ := bS h
 obtain ⟨am, ai, S⟩ := pIdx (P := Try.prog) (r := r_api_Stitch) (v := .slice ad1 p0.length cp2) (xs := p0) (j := a4) 62 61 0 S Try.underlying62 rfl rfl a8
 refine sIdxV S (wN rfl) rfl rfl rfl ai rfl (lb rfl) fun a S => ?_
 obtain ⟨ao, S⟩ := pLoad (r := r_api_Stitch) (q := am) (x := a0) 0 S rfl
 obtain rfl : ao = .agg #[.int .u8 a0.Kind, .bool a0.Purl, iv a0.A, iv a0.B] := S.mem.know (i := 1) (e := fRep r_api_Stitch (ao) a0) rfl
 refine sLoadVN (vq := am) 0 [.int .u8 a0.Kind, .bool a0.Purl, iv a0.A, iv a0.B] S (wN rfl) rfl rfl rfl rfl rfl rfl (lb rfl) fun a S => ?_
 obtain ⟨a9, aj, h⟩ := bS h
 have S1 := S.mem
 refine sCq [.agg #[.int .u8 a0.Kind, .bool a0.Purl, iv a0.A, iv a0.B]] (iv a9) S callee46 (S1.quiet [1] rfl) (fun E1 w1 S1 => c_raddleref25_Used E1 w1 a0 (.agg #[.int .u8 a0.Kind, .bool a0.Purl, iv a0.A, iv a0.B]) a9 aj S1) fun a w S => ?_
 refine sBin _ S (wN rfl) rfl rfl rfl (bAdd _ _ _ _ a6 a9) rfl (lb rfl) fun a S => ?_
 refine sN S fun a S => ?_
 refine lT (ah _ _ (sRegion (sM S fun a S => ?_)))
 refine sM S fun a S => ?_
 refine sM S fun a S => ?_
 obtain ⟨ap, ak, S⟩ := pIdx (P := Try.prog) (r := r_api_Stitch) (v := .slice ad1 p0.length cp2) (xs := p0) (j := a4) 62 61 3 S Try.underlying62 rfl rfl a8
 refine sIdxV S (wN rfl) rfl rfl rfl ak rfl (lb rfl) fun a S => ?_
 obtain ⟨aq, S⟩ := pLoad (r := r_api_Stitch) (q := ap) (x := a0) 0 S rfl
 obtain rfl : aq = .agg #[.int .u8 a0.Kind, .bool a0.Purl, iv a0.A, iv a0.B] := S.mem.know (i := 1) (e := fRep r_api_Stitch (aq) a0) rfl
 refine sLoadVN (vq := ap) 0 [.int .u8 a0.Kind, .bool a0.Purl, iv a0.A, iv a0.B] S (wN rfl) rfl rfl rfl rfl rfl rfl (lb rfl) fun a S => ?_
 obtain ⟨aa, al, h⟩ := bS h
 have S1 := S.mem
 refine sCq [.agg #[.int .u8 a0.Kind, .bool a0.Purl, iv a0.A, iv a0.B]] (iv aa) S callee63 (S1.quiet [1] rfl) (fun E1 w1 S1 => c_raddleref25_Gives E1 w1 a0 (.agg #[.int .u8 a0.Kind, .bool a0.Purl, iv a0.A, iv a0.B]) aa al S1) fun a w S => ?_
 refine sBin _ S (wN rfl) rfl rfl rfl (bAdd _ _ _ _ a7 aa) rfl (lb rfl) fun a S => ?_
 refine sN S fun a S => ?_
 refine leafL (leafB (leafT (ag _ _ ?_)))
 refine sRegion (sM S fun a S => ?_)
 refine sBin _ S (wN rfl) rfl rfl rfl (bAdd _ _ _ _ a4 1) rfl (lb rfl) fun a S => ?_
 refine sN S fun a S => ?_
 exact lT (⟨(w64 (a6 + a9), w64 (a7 + aa), w64 (a4 + 1)), (Option.some.inj h).symm, (S.fix [] [6] (by decide) rfl rfl rfl)⟩)
noncomputable def F_raddleref25_Check (p0 : api_Stitch) : Option Int :=
 Option.bind (α := Bool) (
  if p0.A == 0 then
   some (p0.B == 0)
  else
   some false) fun o3 =>
 Option.bind (α := Bool) (
  Option.bind (α := Bool) (
   if p0.Kind == 1 then
    some (p0.Kind == 1)
   else
    some (p0.Kind == 8)) fun a0 =>
  if a0 then
   some o3
  else
   if p0.Kind == 2 then
    if o3 then
     some (!p0.Purl)
    else
     some false
   else
    Option.bind (α := Bool) (
     if p0.Kind == 3 then
      some (p0.Kind == 3)
     else
      if p0.Kind == 4 then
       some (p0.Kind == 4)
      else
       some (p0.Kind == 5)) fun a4 =>
    if a4 then
     if p0.B == 0 then
      if decide (2 ≤ p0.A) then
       some (decide (p0.A ≤ 4))
      else
       some false
     else
      some false
    else
     Option.bind (α := Bool) (
      if p0.Kind == 6 then
       some (p0.Kind == 6)
      else
       some (p0.Kind == 7)) fun a5 =>
     if a5 then
      if decide (1 ≤ p0.A) then
       if decide (p0.A ≤ 6) then
        if decide (1 ≤ p0.B) then
         some (decide (p0.B ≤ 6))
        else
         some false
       else
        some false
      else
       some false
     else
      if p0.Kind == 9 then
       if p0.B == 0 then
        if !p0.Purl then
         if decide (1 ≤ p0.A) then
          some (decide (p0.A ≤ 200))
         else
          some false
        else
         some false
       else
        some false
      else
       if p0.Kind == 10 then
        if p0.B == 0 then
         if decide (1 ≤ p0.A) then
          some (decide (p0.A ≤ 200))
         else
          some false
        else
         some false
       else
        some false) fun o8 =>
 if !o8 then
  some 8
 else
  some 0
theorem c_raddleref25_Check (E : Nat → Prop) (w0 : World) (p0 : api_Stitch) (v0 : Value) (r : Int) (h : F_raddleref25_Check p0 = some r) (S : St0 E [] w0 w0 [] [fRep r_api_Stitch (v0) p0]) :
 Calls Try.prog 62 #[v0] w0 (Ret (X := Unit) E [] w0 (fun _ => .int .i64 r) (fun _ => []) (fun _ => [])) := by
 unfold F_raddleref25_Check at h
 obtain rfl : v0 = .agg #[.int .u8 p0.Kind, .bool p0.Purl, iv p0.A, iv p0.B] := S.know (i := 0) (e := fRep r_api_Stitch (v0) p0) rfl
 refine sEnter (args := [.agg #[.int .u8 p0.Kind, .bool p0.Purl, iv p0.A, iv p0.B]]) 102 Try.func62 rfl rfl (by simp) S (fun a S => ?_)
 refine sSeq (fun K1 hK1 => sRegion (sBox (v := .agg #[.int .u8 p0.Kind, .bool p0.Purl, iv p0.A, iv p0.B]) S (wN rfl) rfl rfl [.int .u8 p0.Kind, .bool p0.Purl, iv p0.A, iv p0.B] rfl rfl (lb rfl) fun a b2 w S => ?_))
 refine sN S fun a S => ?_
 refine lT (hK1 _ _ ?_)
 obtain ⟨t4, h, g5⟩ := bS h
 refine sCut (fun a w => ∃ o3, o3 = t4 ∧ St [] E [] w0 102 a w [(1, .pointer (some ⟨b2, 0, none⟩)), (3, .bool o3)] [eBox b2 61 [.int .u8 p0.Kind, .bool p0.Purl, iv p0.A, iv p0.B]] []) ?_ (fun a w hI => ?_)
 ·refine sRegion (sField (b := b2) (off := 0) 2 2 S (wN rfl) rfl rfl rfl rfl rfl (lb rfl) fun a S => ?_)
  refine sLoad1 0 (iv p0.A) S (wN rfl) rfl rfl rfl rfl rfl rfl (lb rfl) fun a S => ?_
  refine sBin _ S (wN rfl) rfl rfl rfl (bEq _ _ _ _ .i64 p0.A 0) rfl (lb rfl) fun a S => ?_
  refine sM S fun a S => ?_
  rcases iS h with ⟨hc6, h⟩ | ⟨hc6, h⟩
  rotate_left
  ·refine sSkN 3 3 true 8 S rfl rfl hc6 rfl fun a S => ?_
   refine sPickF (.bool false) S (wN rfl) rfl rfl hc6 rfl rfl (lb rfl) fun a S => ?_
   refine sN S fun a S => ?_
   exact lT (⟨false, Option.some.inj h, S.fix [0] [] (by decide) rfl rfl rfl⟩)
  refine sField (b := b2) (off := 0) 3 3 S (wG 3 true 8 rfl rfl rfl hc6) rfl rfl rfl rfl rfl (lb rfl) fun a S => ?_
  refine sLoad1 0 (iv p0.B) S (wG 3 true 8 rfl rfl rfl hc6) rfl rfl rfl rfl rfl rfl (lb rfl) fun a S => ?_
  refine sBin _ S (wG 3 true 8 rfl rfl rfl hc6) rfl rfl rfl (bEq _ _ _ _ .i64 p0.B 0) rfl (lb rfl) fun a S => ?_
  refine sPickT (.bool (p0.B == 0)) S (wN rfl) rfl rfl hc6 rfl rfl (lb rfl) fun a S => ?_
  refine sN S fun a S => ?_
  exact lT (⟨p0.B == 0, Option.some.inj h, S.fix [0] [] (by decide) rfl rfl rfl⟩)
 obtain ⟨o3, rfl, S⟩ := hI
 have h := g5
 try dsimp only at h
 refine sSeq (fun K7 hK7 => sRegion (sN S fun a S => ?_))
 refine lT (hK7 _ _ ?_)
 obtain ⟨t9, h, aM⟩ := bS h
 refine sCut (fun a w => ∃ o8, o8 = t9 ∧ St [] E [] w0 102 a w [(4, .bool o8)] [] []) ?_ (fun a w hI => ?_)
 rotate_left
 ·obtain ⟨o8, rfl, S⟩ := hI
  have h := aM
  try dsimp only at h
  refine sSeq (fun aU ar => sSeq (fun aV au => sRegion (sM S fun a S => ?_)))
  refine sNot (b := o8) S (wN rfl) rfl rfl rfl (lb rfl) fun a S => ?_
  refine lT (au _ _ ?_)
  rcases iS h with ⟨af, h⟩ | ⟨af, h⟩
  ·refine sCondT S rfl af ?_
   refine sSeq (fun aW av => sRegion (sN S fun a S => ?_))
   refine lT (av _ _ ?_)
   obtain rfl := tS h
   exact wp_ret (rThen (sRet (iv 8) S (rsl1 rfl (rvT (t := 2) (v := iv 8) S rfl)) ⟨(), rfl, S.mem.sel [] [] (by decide) rfl rfl⟩))
  refine sCondF S rfl af ?_
  refine wp_skip (leafT (ar _ _ ?_))
  refine sSeq (fun aX aw => sRegion (sN S fun a S => ?_))
  refine lT (aw _ _ ?_)
  obtain rfl := tS h
  exact wp_ret (sRet (iv 0) S (rsl1 rfl (rvT (t := 2) (v := iv 0) S rfl)) ⟨(), rfl, S.mem.sel [] [] (by decide) rfl rfl⟩)
 refine sSeq (fun aZ ax => sRegion (sField (b := b2) (off := 0) 0 0 S (wN rfl) rfl rfl rfl rfl rfl (lb rfl) fun a S => ?_))
 refine sLoad1 0 (.int .u8 p0.Kind) S (wN rfl) rfl rfl rfl rfl rfl rfl (lb rfl) fun a S => ?_
 refine lT (ax _ _ (wp_block ?_))
 obtain ⟨aO, h, aP⟩ := bS h
 refine sCut (fun a w => ∃ ay, ay = aO ∧ St [] E [] w0 102 a w [(1, .pointer (some ⟨b2, 0, none⟩)), (3, .bool o3), (4, .bool false), (14, .int .u8 p0.Kind), (15, .bool ay)] [eBox b2 61 [.int .u8 p0.Kind, .bool p0.Purl, iv p0.A, iv p0.B]] []) ?_ (fun a w hI => ?_)
 ·refine sSeq (fun ba az => sRegion (sBin _ S (wN rfl) rfl rfl rfl (bEq _ _ _ _ .u8 p0.Kind 1) rfl (lb rfl) fun a S => ?_))
  refine sN S fun a S => ?_
  refine lT (az _ _ ?_)
  rcases iS h with ⟨ag, h⟩ | ⟨ag, h⟩
  ·refine sCondT S rfl ag ?_
   exact wp_skip (leafT (⟨p0.Kind == 1, Option.some.inj h, S.fix [0] [] (by decide) rfl rfl rfl⟩))
  refine sCondF S rfl ag ?_
  refine sRegion (sBin _ S (wN rfl) rfl rfl rfl (bEq _ _ _ _ .u8 p0.Kind 8) rfl (lb rfl) fun a S => ?_)
  refine sN S fun a S => ?_
  exact lT (⟨p0.Kind == 8, Option.some.inj h, S.fix [0] [] (by decide) rfl rfl rfl⟩)
 obtain ⟨ay, rfl, S⟩ := hI
 have h := aP
 try dsimp only at h
 rcases iS h with ⟨ah, h⟩ | ⟨ah, h⟩
 ·refine sCondT S rfl ah ?_
  refine sRegion (sM S fun a S => ?_)
  refine sN S fun a S => ?_
  exact leafL (leafB (leafT (⟨o3, Option.some.inj h, S.fix [] [] (by decide) rfl rfl rfl⟩)))
 refine sCondF S rfl ah ?_
 refine sSeq (fun bb aA => sRegion (sBin _ S (wN rfl) rfl rfl rfl (bEq _ _ _ _ .u8 p0.Kind 2) rfl (lb rfl) fun a S => ?_))
 refine sN S fun a S => ?_
 refine lT (aA _ _ ?_)
 rcases iS h with ⟨ai, h⟩ | ⟨ai, h⟩
 ·refine sCondT S rfl ai ?_
  refine sRegion (sM S fun a S => ?_)
  refine sM S fun a S => ?_
  rcases iS h with ⟨a0, h⟩ | ⟨a0, h⟩
  rotate_left
  ·refine sSkN 3 1 true 22 S rfl rfl a0 rfl fun a S => ?_
   refine sPickF (.bool false) S (wN rfl) rfl rfl a0 rfl rfl (lb rfl) fun a S => ?_
   refine sN S fun a S => ?_
   exact leafL (leafB (leafT (⟨false, Option.some.inj h, S.fix [] [] (by decide) rfl rfl rfl⟩)))
  refine sField (b := b2) (off := 0) 1 1 S (wG 1 true 22 rfl rfl rfl a0) rfl rfl rfl rfl rfl (lb rfl) fun a S => ?_
  refine sLoad1 0 (.bool p0.Purl) S (wG 1 true 22 rfl rfl rfl a0) rfl rfl rfl rfl rfl rfl (lb rfl) fun a S => ?_
  refine sNot (b := p0.Purl) S (wG 1 true 22 rfl rfl rfl a0) rfl rfl rfl (lb rfl) fun a S => ?_
  refine sPickT (.bool (!p0.Purl)) S (wN rfl) rfl rfl a0 rfl rfl (lb rfl) fun a S => ?_
  refine sN S fun a S => ?_
  exact leafL (leafB (leafT (⟨!p0.Purl, Option.some.inj h, S.fix [] [] (by decide) rfl rfl rfl⟩)))
 refine sCondF S rfl ai ?_
 obtain ⟨aQ, h, aR⟩ := bS h
 refine sCut (fun a w => ∃ aC, aC = aQ ∧ St [] E [] w0 102 a w [(1, .pointer (some ⟨b2, 0, none⟩)), (4, .bool false), (14, .int .u8 p0.Kind), (27, .bool aC)] [eBox b2 61 [.int .u8 p0.Kind, .bool p0.Purl, iv p0.A, iv p0.B]] []) ?_ (fun a w hI => ?_)
 ·refine sSeq (fun bc aG => sRegion (sBin _ S (wN rfl) rfl rfl rfl (bEq _ _ _ _ .u8 p0.Kind 3) rfl (lb rfl) fun a S => ?_))
  refine sN S fun a S => ?_
  refine lT (aG _ _ ?_)
  rcases iS h with ⟨aj, h⟩ | ⟨aj, h⟩
  ·refine sCondT S rfl aj ?_
   exact wp_skip (leafT (⟨p0.Kind == 3, Option.some.inj h, S.fix [0] [] (by decide) rfl rfl rfl⟩))
  refine sCondF S rfl aj ?_
  refine sSeq (fun bf aH => sRegion (sBin _ S (wN rfl) rfl rfl rfl (bEq _ _ _ _ .u8 p0.Kind 4) rfl (lb rfl) fun a S => ?_))
  refine sN S fun a S => ?_
  refine lT (aH _ _ ?_)
  rcases iS h with ⟨ak, h⟩ | ⟨ak, h⟩
  ·refine sCondT S rfl ak ?_
   exact wp_skip (leafT (⟨p0.Kind == 4, Option.some.inj h, S.fix [0] [] (by decide) rfl rfl rfl⟩))
  refine sCondF S rfl ak ?_
  refine sRegion (sBin _ S (wN rfl) rfl rfl rfl (bEq _ _ _ _ .u8 p0.Kind 5) rfl (lb rfl) fun a S => ?_)
  refine sN S fun a S => ?_
  exact lT (⟨p0.Kind == 5, Option.some.inj h, S.fix [0] [] (by decide) rfl rfl rfl⟩)
 obtain ⟨aC, rfl, S⟩ := hI
 have h := aR
 try dsimp only at h
 rcases iS h with ⟨al, h⟩ | ⟨al, h⟩
 ·refine sCondT S rfl al ?_
  refine sRegion (sField (b := b2) (off := 0) 3 3 S (wN rfl) rfl rfl rfl rfl rfl (lb rfl) fun a S => ?_)
  refine sLoad1 0 (iv p0.B) S (wN rfl) rfl rfl rfl rfl rfl rfl (lb rfl) fun a S => ?_
  refine sBin _ S (wN rfl) rfl rfl rfl (bEq _ _ _ _ .i64 p0.B 0) rfl (lb rfl) fun a S => ?_
  refine sM S fun a S => ?_
  rcases iS h with ⟨a4, h⟩ | ⟨a4, h⟩
  rotate_left
  ·refine sSkN 3 3 true 34 S rfl rfl a4 rfl fun a S => ?_
   refine sPickF (.bool false) S (wN rfl) rfl rfl a4 rfl rfl (lb rfl) fun a S => ?_
   refine sM S fun a S => ?_
   refine sSkN 3 8 true 39 S rfl rfl rfl rfl fun a S => ?_
   refine sPickF (.bool false) S (wN rfl) rfl rfl rfl rfl rfl (lb rfl) fun a S => ?_
   refine sN S fun a S => ?_
   exact leafL (leafB (leafT (⟨false, Option.some.inj h, S.fix [] [] (by decide) rfl rfl rfl⟩)))
  refine sField (b := b2) (off := 0) 2 2 S (wG 3 true 34 rfl rfl rfl a4) rfl rfl rfl rfl rfl (lb rfl) fun a S => ?_
  refine sLoad1 0 (iv p0.A) S (wG 3 true 34 rfl rfl rfl a4) rfl rfl rfl rfl rfl rfl (lb rfl) fun a S => ?_
  refine sBin _ S (wG 3 true 34 rfl rfl rfl a4) rfl rfl rfl (bGe _ _ _ _ .i64 p0.A 2) rfl (lb rfl) fun a S => ?_
  refine sPickT (.bool (decide (2 ≤ p0.A))) S (wN rfl) rfl rfl a4 rfl rfl (lb rfl) fun a S => ?_
  refine sM S fun a S => ?_
  rcases iS h with ⟨a5, h⟩ | ⟨a5, h⟩
  rotate_left
  ·refine sSkN 3 8 true 39 S rfl rfl a5 rfl fun a S => ?_
   refine sPickF (.bool false) S (wN rfl) rfl rfl a5 rfl rfl (lb rfl) fun a S => ?_
   refine sN S fun a S => ?_
   exact leafL (leafB (leafT (⟨false, Option.some.inj h, S.fix [] [] (by decide) rfl rfl rfl⟩)))
  refine sField (b := b2) (off := 0) 2 2 S (wG 8 true 39 rfl rfl rfl a5) rfl rfl rfl rfl rfl (lb rfl) fun a S => ?_
  refine sLoad1 0 (iv p0.A) S (wG 8 true 39 rfl rfl rfl a5) rfl rfl rfl rfl rfl rfl (lb rfl) fun a S => ?_
  refine sBin _ S (wG 8 true 39 rfl rfl rfl a5) rfl rfl rfl (bLe _ _ _ _ .i64 p0.A 4) rfl (lb rfl) fun a S => ?_
  refine sPickT (.bool (decide (p0.A ≤ 4))) S (wN rfl) rfl rfl a5 rfl rfl (lb rfl) fun a S => ?_
  refine sN S fun a S => ?_
  exact leafL (leafB (leafT (⟨decide (p0.A ≤ 4), Option.some.inj h, S.fix [] [] (by decide) rfl rfl rfl⟩)))
 refine sCondF S rfl al ?_
 obtain ⟨aS, h, aT⟩ := bS h
 refine sCut (fun a w => ∃ aI, aI = aS ∧ St [] E [] w0 102 a w [(1, .pointer (some ⟨b2, 0, none⟩)), (4, .bool false), (14, .int .u8 p0.Kind), (44, .bool aI)] [eBox b2 61 [.int .u8 p0.Kind, .bool p0.Purl, iv p0.A, iv p0.B]] []) ?_ (fun a w hI => ?_)
 ·refine sSeq (fun bg aJ => sRegion (sBin _ S (wN rfl) rfl rfl rfl (bEq _ _ _ _ .u8 p0.Kind 6) rfl (lb rfl) fun a S => ?_))
  refine sN S fun a S => ?_
  refine lT (aJ _ _ ?_)
  rcases iS h with ⟨am, h⟩ | ⟨am, h⟩
  ·refine sCondT S rfl am ?_
   exact wp_skip (leafT (⟨p0.Kind == 6, Option.some.inj h, S.fix [0] [] (by decide) rfl rfl rfl⟩))
  refine sCondF S rfl am ?_
  refine sRegion (sBin _ S (wN rfl) rfl rfl rfl (bEq _ _ _ _ .u8 p0.Kind 7) rfl (lb rfl) fun a S => ?_)
  refine sN S fun a S => ?_
  exact lT (⟨p0.Kind == 7, Option.some.inj h, S.fix [0] [] (by decide) rfl rfl rfl⟩)
 obtain ⟨aI, rfl, S⟩ := hI
 have h := aT
 try dsimp only at h
 rcases iS h with ⟨ao, h⟩ | ⟨ao, h⟩
 ·refine sCondT S rfl ao ?_
  refine sRegion (sField (b := b2) (off := 0) 2 2 S (wN rfl) rfl rfl rfl rfl rfl (lb rfl) fun a S => ?_)
  refine sLoad1 0 (iv p0.A) S (wN rfl) rfl rfl rfl rfl rfl rfl (lb rfl) fun a S => ?_
  refine sBin _ S (wN rfl) rfl rfl rfl (bGe _ _ _ _ .i64 p0.A 1) rfl (lb rfl) fun a S => ?_
  refine sM S fun a S => ?_
  rcases iS h with ⟨a6, h⟩ | ⟨a6, h⟩
  rotate_left
  ·refine sSkN 3 3 true 50 S rfl rfl a6 rfl fun a S => ?_
   refine sPickF (.bool false) S (wN rfl) rfl rfl a6 rfl rfl (lb rfl) fun a S => ?_
   refine sM S fun a S => ?_
   refine sSkN 3 8 true 55 S rfl rfl rfl rfl fun a S => ?_
   refine sPickF (.bool false) S (wN rfl) rfl rfl rfl rfl rfl (lb rfl) fun a S => ?_
   refine sM S fun a S => ?_
   refine sSkN 3 13 true 60 S rfl rfl rfl rfl fun a S => ?_
   refine sPickF (.bool false) S (wN rfl) rfl rfl rfl rfl rfl (lb rfl) fun a S => ?_
   refine sN S fun a S => ?_
   exact leafL (leafB (leafT (⟨false, Option.some.inj h, S.fix [] [] (by decide) rfl rfl rfl⟩)))
  refine sField (b := b2) (off := 0) 2 2 S (wG 3 true 50 rfl rfl rfl a6) rfl rfl rfl rfl rfl (lb rfl) fun a S => ?_
  refine sLoad1 0 (iv p0.A) S (wG 3 true 50 rfl rfl rfl a6) rfl rfl rfl rfl rfl rfl (lb rfl) fun a S => ?_
  refine sBin _ S (wG 3 true 50 rfl rfl rfl a6) rfl rfl rfl (bLe _ _ _ _ .i64 p0.A 6) rfl (lb rfl) fun a S => ?_
  refine sPickT (.bool (decide (p0.A ≤ 6))) S (wN rfl) rfl rfl a6 rfl rfl (lb rfl) fun a S => ?_
  refine sM S fun a S => ?_
  rcases iS h with ⟨a7, h⟩ | ⟨a7, h⟩
  rotate_left
  ·refine sSkN 3 8 true 55 S rfl rfl a7 rfl fun a S => ?_
   refine sPickF (.bool false) S (wN rfl) rfl rfl a7 rfl rfl (lb rfl) fun a S => ?_
   refine sM S fun a S => ?_
   refine sSkN 3 13 true 60 S rfl rfl rfl rfl fun a S => ?_
   refine sPickF (.bool false) S (wN rfl) rfl rfl rfl rfl rfl (lb rfl) fun a S => ?_
   refine sN S fun a S => ?_
   exact leafL (leafB (leafT (⟨false, Option.some.inj h, S.fix [] [] (by decide) rfl rfl rfl⟩)))
  refine sField (b := b2) (off := 0) 3 3 S (wG 8 true 55 rfl rfl rfl a7) rfl rfl rfl rfl rfl (lb rfl) fun a S => ?_
  refine sLoad1 0 (iv p0.B) S (wG 8 true 55 rfl rfl rfl a7) rfl rfl rfl rfl rfl rfl (lb rfl) fun a S => ?_
  refine sBin _ S (wG 8 true 55 rfl rfl rfl a7) rfl rfl rfl (bGe _ _ _ _ .i64 p0.B 1) rfl (lb rfl) fun a S => ?_
  refine sPickT (.bool (decide (1 ≤ p0.B))) S (wN rfl) rfl rfl a7 rfl rfl (lb rfl) fun a S => ?_
  refine sM S fun a S => ?_
  rcases iS h with ⟨a8, h⟩ | ⟨a8, h⟩
  rotate_left
  ·refine sSkN 3 13 true 60 S rfl rfl a8 rfl fun a S => ?_
   refine sPickF (.bool false) S (wN rfl) rfl rfl a8 rfl rfl (lb rfl) fun a S => ?_
   refine sN S fun a S => ?_
   exact leafL (leafB (leafT (⟨false, Option.some.inj h, S.fix [] [] (by decide) rfl rfl rfl⟩)))
  refine sField (b := b2) (off := 0) 3 3 S (wG 13 true 60 rfl rfl rfl a8) rfl rfl rfl rfl rfl (lb rfl) fun a S => ?_
  refine sLoad1 0 (iv p0.B) S (wG 13 true 60 rfl rfl rfl a8) rfl rfl rfl rfl rfl rfl (lb rfl) fun a S => ?_
  refine sBin _ S (wG 13 true 60 rfl rfl rfl a8) rfl rfl rfl (bLe _ _ _ _ .i64 p0.B 6) rfl (lb rfl) fun a S => ?_
  refine sPickT (.bool (decide (p0.B ≤ 6))) S (wN rfl) rfl rfl a8 rfl rfl (lb rfl) fun a S => ?_
  refine sN S fun a S => ?_
  exact leafL (leafB (leafT (⟨decide (p0.B ≤ 6), Option.some.inj h, S.fix [] [] (by decide) rfl rfl rfl⟩)))
 refine sCondF S rfl ao ?_
 refine sSeq (fun bh aK => sRegion (sBin _ S (wN rfl) rfl rfl rfl (bEq _ _ _ _ .u8 p0.Kind 9) rfl (lb rfl) fun a S => ?_))
 refine sN S fun a S => ?_
 refine lT (aK _ _ ?_)
 rcases iS h with ⟨ap, h⟩ | ⟨ap, h⟩
 rotate_left
 ·refine sCondF S rfl ap ?_
  refine sSeq (fun bi aL => sRegion (sBin _ S (wN rfl) rfl rfl rfl (bEq _ _ _ _ .u8 p0.Kind 10) rfl (lb rfl) fun a S => ?_))
  refine sN S fun a S => ?_
  refine lT (aL _ _ ?_)
  rcases iS h with ⟨aq, h⟩ | ⟨aq, h⟩
  rotate_left
  ·refine sCondF S rfl aq ?_
   exact wp_skip (leafB (leafT (⟨false, Option.some.inj h, S.fix [] [] (by decide) rfl rfl rfl⟩)))
  refine sCondT S rfl aq ?_
  refine sRegion (sField (b := b2) (off := 0) 3 3 S (wN rfl) rfl rfl rfl rfl rfl (lb rfl) fun a S => ?_)
  refine sLoad1 0 (iv p0.B) S (wN rfl) rfl rfl rfl rfl rfl rfl (lb rfl) fun a S => ?_
  refine sBin _ S (wN rfl) rfl rfl rfl (bEq _ _ _ _ .i64 p0.B 0) rfl (lb rfl) fun a S => ?_
  refine sM S fun a S => ?_
  rcases iS h with ⟨a9, h⟩ | ⟨a9, h⟩
  rotate_left
  ·refine sSkN 3 3 true 90 S rfl rfl a9 rfl fun a S => ?_
   refine sPickF (.bool false) S (wN rfl) rfl rfl a9 rfl rfl (lb rfl) fun a S => ?_
   refine sM S fun a S => ?_
   refine sSkN 3 8 true 95 S rfl rfl rfl rfl fun a S => ?_
   refine sPickF (.bool false) S (wN rfl) rfl rfl rfl rfl rfl (lb rfl) fun a S => ?_
   refine sN S fun a S => ?_
   exact leafL (leafB (leafT (⟨false, Option.some.inj h, S.fix [] [] (by decide) rfl rfl rfl⟩)))
  refine sField (b := b2) (off := 0) 2 2 S (wG 3 true 90 rfl rfl rfl a9) rfl rfl rfl rfl rfl (lb rfl) fun a S => ?_
  refine sLoad1 0 (iv p0.A) S (wG 3 true 90 rfl rfl rfl a9) rfl rfl rfl rfl rfl rfl (lb rfl) fun a S => ?_
  refine sBin _ S (wG 3 true 90 rfl rfl rfl a9) rfl rfl rfl (bGe _ _ _ _ .i64 p0.A 1) rfl (lb rfl) fun a S => ?_
  refine sPickT (.bool (decide (1 ≤ p0.A))) S (wN rfl) rfl rfl a9 rfl rfl (lb rfl) fun a S => ?_
  refine sM S fun a S => ?_
  rcases iS h with ⟨aa, h⟩ | ⟨aa, h⟩
  rotate_left
  ·refine sSkN 3 8 true 95 S rfl rfl aa rfl fun a S => ?_
   refine sPickF (.bool false) S (wN rfl) rfl rfl aa rfl rfl (lb rfl) fun a S => ?_
   refine sN S fun a S => ?_
   exact leafL (leafB (leafT (⟨false, Option.some.inj h, S.fix [] [] (by decide) rfl rfl rfl⟩)))
  refine sField (b := b2) (off := 0) 2 2 S (wG 8 true 95 rfl rfl rfl aa) rfl rfl rfl rfl rfl (lb rfl) fun a S => ?_
  refine sLoad1 0 (iv p0.A) S (wG 8 true 95 rfl rfl rfl aa) rfl rfl rfl rfl rfl rfl (lb rfl) fun a S => ?_
  refine sBin _ S (wG 8 true 95 rfl rfl rfl aa) rfl rfl rfl (bLe _ _ _ _ .i64 p0.A 200) rfl (lb rfl) fun a S => ?_
  refine sPickT (.bool (decide (p0.A ≤ 200))) S (wN rfl) rfl rfl aa rfl rfl (lb rfl) fun a S => ?_
  refine sN S fun a S => ?_
  exact leafL (leafB (leafT (⟨decide (p0.A ≤ 200), Option.some.inj h, S.fix [] [] (by decide) rfl rfl rfl⟩)))
 refine sCondT S rfl ap ?_
 refine sRegion (sField (b := b2) (off := 0) 3 3 S (wN rfl) rfl rfl rfl rfl rfl (lb rfl) fun a S => ?_)
 refine sLoad1 0 (iv p0.B) S (wN rfl) rfl rfl rfl rfl rfl rfl (lb rfl) fun a S => ?_
 refine sBin _ S (wN rfl) rfl rfl rfl (bEq _ _ _ _ .i64 p0.B 0) rfl (lb rfl) fun a S => ?_
 refine sM S fun a S => ?_
 rcases iS h with ⟨ab, h⟩ | ⟨ab, h⟩
 rotate_left
 ·refine sSkN 3 3 true 70 S rfl rfl ab rfl fun a S => ?_
  refine sPickF (.bool false) S (wN rfl) rfl rfl ab rfl rfl (lb rfl) fun a S => ?_
  refine sM S fun a S => ?_
  refine sSkN 3 8 true 75 S rfl rfl rfl rfl fun a S => ?_
  refine sPickF (.bool false) S (wN rfl) rfl rfl rfl rfl rfl (lb rfl) fun a S => ?_
  refine sM S fun a S => ?_
  refine sSkN 3 13 true 80 S rfl rfl rfl rfl fun a S => ?_
  refine sPickF (.bool false) S (wN rfl) rfl rfl rfl rfl rfl (lb rfl) fun a S => ?_
  refine sN S fun a S => ?_
  exact leafL (leafB (leafT (⟨false, Option.some.inj h, S.fix [] [] (by decide) rfl rfl rfl⟩)))
 refine sField (b := b2) (off := 0) 1 1 S (wG 3 true 70 rfl rfl rfl ab) rfl rfl rfl rfl rfl (lb rfl) fun a S => ?_
 refine sLoad1 0 (.bool p0.Purl) S (wG 3 true 70 rfl rfl rfl ab) rfl rfl rfl rfl rfl rfl (lb rfl) fun a S => ?_
 refine sNot (b := p0.Purl) S (wG 3 true 70 rfl rfl rfl ab) rfl rfl rfl (lb rfl) fun a S => ?_
 refine sPickT (.bool (!p0.Purl)) S (wN rfl) rfl rfl ab rfl rfl (lb rfl) fun a S => ?_
 refine sM S fun a S => ?_
 rcases iS h with ⟨ac, h⟩ | ⟨ac, h⟩
 rotate_left
 ·refine sSkN 3 8 true 75 S rfl rfl ac rfl fun a S => ?_
  refine sPickF (.bool false) S (wN rfl) rfl rfl ac rfl rfl (lb rfl) fun a S => ?_
  refine sM S fun a S => ?_
  refine sSkN 3 13 true 80 S rfl rfl rfl rfl fun a S => ?_
  refine sPickF (.bool false) S (wN rfl) rfl rfl rfl rfl rfl (lb rfl) fun a S => ?_
  refine sN S fun a S => ?_
  exact leafL (leafB (leafT (⟨false, Option.some.inj h, S.fix [] [] (by decide) rfl rfl rfl⟩)))
 refine sField (b := b2) (off := 0) 2 2 S (wG 8 true 75 rfl rfl rfl ac) rfl rfl rfl rfl rfl (lb rfl) fun a S => ?_
 refine sLoad1 0 (iv p0.A) S (wG 8 true 75 rfl rfl rfl ac) rfl rfl rfl rfl rfl rfl (lb rfl) fun a S => ?_
 refine sBin _ S (wG 8 true 75 rfl rfl rfl ac) rfl rfl rfl (bGe _ _ _ _ .i64 p0.A 1) rfl (lb rfl) fun a S => ?_
 refine sPickT (.bool (decide (1 ≤ p0.A))) S (wN rfl) rfl rfl ac rfl rfl (lb rfl) fun a S => ?_
 refine sM S fun a S => ?_
 rcases iS h with ⟨ae, h⟩ | ⟨ae, h⟩
 rotate_left
 ·refine sSkN 3 13 true 80 S rfl rfl ae rfl fun a S => ?_
  refine sPickF (.bool false) S (wN rfl) rfl rfl ae rfl rfl (lb rfl) fun a S => ?_
  refine sN S fun a S => ?_
  exact leafL (leafB (leafT (⟨false, Option.some.inj h, S.fix [] [] (by decide) rfl rfl rfl⟩)))
 refine sField (b := b2) (off := 0) 2 2 S (wG 13 true 80 rfl rfl rfl ae) rfl rfl rfl rfl rfl (lb rfl) fun a S => ?_
 refine sLoad1 0 (iv p0.A) S (wG 13 true 80 rfl rfl rfl ae) rfl rfl rfl rfl rfl rfl (lb rfl) fun a S => ?_
 refine sBin _ S (wG 13 true 80 rfl rfl rfl ae) rfl rfl rfl (bLe _ _ _ _ .i64 p0.A 200) rfl (lb rfl) fun a S => ?_
 refine sPickT (.bool (decide (p0.A ≤ 200))) S (wN rfl) rfl rfl ae rfl rfl (lb rfl) fun a S => ?_
 refine sN S fun a S => ?_
 exact leafL (leafB (leafT (⟨decide (p0.A ≤ 200), Option.some.inj h, S.fix [] [] (by decide) rfl rfl rfl⟩)))
noncomputable def raddleref25_All_l1 (p0 : (List api_Stitch)) : Int → Option (Int ⊕ (Int ⊕ Unit)) := fun s0 => match s0 with
 | a0 =>
  if decide (a0 < (p0.length : Int)) then
   (idxO p0 a0).bind fun a4 =>
   (F_raddleref25_Check a4).bind fun a5 =>
   if a5 != 0 then
    some (.inr (.inl 8))
   else
    some (.inl (w64 (a0 + 1)))
  else
   some (.inr (.inr ()))
noncomputable def F_raddleref25_All (p0 : (List api_Stitch)) : Option Int :=
 if decide (200 < (p0.length : Int)) then
  some 4
 else
  Option.bind (α := Unit ⊕ Int) (
   (whileO (raddleref25_All_l1 p0) 0).bind fun z0 => match z0 with
    | .inl z =>
     some (.inr z)
    | .inr _ =>
     some (.inl ())) fun z0 => match z0 with
   | .inl _ =>
    (F_raddleref25_sums p0).bind fun a0 =>
    Option.bind (α := Bool) (
     if decide (200 < a0.1) then
      some true
     else
      some (decide (200 < a0.2))) fun a4 =>
    if a4 then
     some 4
    else
     some 0
   | .inr z =>
    some z
theorem c_raddleref25_All (E : Nat → Prop) (w0 : World) (p0 : (List api_Stitch)) (v0 : Value) (r : Int) (h : F_raddleref25_All p0 = some r) (S : St0 E [] w0 w0 [] [fRep (rL r_api_Stitch) (v0) p0]) :
 Calls Try.prog 48 #[v0] w0 (Ret (X := Unit) E [] w0 (fun _ => .int .i64 r) (fun _ => []) (fun _ => [])) := by
 unfold F_raddleref25_All at h
 obtain ⟨ad1, cp2, _, rfl, _⟩ := S.know (i := 0) (e := fRep (rL r_api_Stitch) (v0) p0) rfl
 refine sEnter (args := [.slice ad1 p0.length cp2]) 32 Try.func48 rfl rfl (by simp) S (fun a S => ?_)
 refine sSeq (fun K3 hK3 => sRegion (sN S fun a S => ?_))
 refine lT (hK3 _ _ (sSeq (fun K4 hK4 => sSeq (fun K5 hK5 => sRegion (sM S fun a S => ?_)))))
 refine sLen S (wN rfl) rfl Try.underlying62 rfl rfl (lb rfl) fun a S => ?_
 refine sBin _ S (wN rfl) rfl rfl rfl (bGt _ _ _ _ .i64 (p0.length : Int) 200) rfl (lb rfl) fun a S => ?_
 refine lT (hK5 _ _ ?_)
 rcases iS h with ⟨hc6, h⟩ | ⟨hc6, h⟩
 ·refine sCondT S rfl hc6 ?_
  refine sSeq (fun K7 hK7 => sRegion (sN S fun a S => ?_))
  refine lT (hK7 _ _ ?_)
  obtain rfl := tS h
  exact wp_ret (rThen (sRet (iv 4) S (rsl1 rfl (rvT (t := 2) (v := iv 4) S rfl)) ⟨(), rfl, S.mem.sel [] [] (by decide) rfl rfl⟩))
 refine sCondF S rfl hc6 ?_
 refine wp_skip (leafT (hK4 _ _ ?_))
 obtain ⟨t8, h, g9⟩ := bS h
 refine sCut (fun a w => .inl () = t8 ∧ St [] E [] w0 32 a w [(0, .slice ad1 p0.length cp2)] [] [fRep (rL r_api_Stitch) (.slice ad1 p0.length cp2) p0]) ?_ (fun a w hI => ?_)
 rotate_left
 ·obtain ⟨rfl, S⟩ := hI
  have h := g9
  try dsimp only at h
  refine sSeq (fun aA ab => sRegion (sM S fun a S => ?_))
  obtain ⟨a4, ac, h⟩ := bS h
  have S1 := S.mem
  refine sCq [.slice ad1 p0.length cp2] (.tuple #[iv a4.1, iv a4.2]) S callee49 (S1.quiet [0] rfl) (fun E1 w1 S1 => c_raddleref25_sums E1 w1 p0 (.slice ad1 p0.length cp2) a4 ac S1) fun a w S => ?_
  refine sM S fun a S => ?_
  refine sExtract (vs := [iv a4.1, iv a4.2]) (iv a4.1) S (wN rfl) rfl rfl rfl rfl (lb rfl) fun a S => ?_
  refine sExtract (vs := [iv a4.1, iv a4.2]) (iv a4.2) S (wN rfl) rfl rfl rfl rfl (lb rfl) fun a S => ?_
  refine sN S fun a S => ?_
  refine sN S fun a S => ?_
  refine lT (ab _ _ (sSeq (fun aC ae => ?_)))
  obtain ⟨ay, h, az⟩ := bS h
  refine sCut (fun a w => ∃ af, af = ay ∧ St [] E [] w0 32 a w [(31, .bool af)] [] []) ?_ (fun a w hI => ?_)
  rotate_left
  ·obtain ⟨af, rfl, S⟩ := hI
   have h := az
   try dsimp only at h
   rcases iS h with ⟨a6, h⟩ | ⟨a6, h⟩
   ·refine sCondT S rfl a6 ?_
    refine sSeq (fun aG ag => sRegion (sN S fun a S => ?_))
    refine lT (ag _ _ ?_)
    obtain rfl := tS h
    exact wp_ret (rThen (sRet (iv 4) S (rsl1 rfl (rvT (t := 2) (v := iv 4) S rfl)) ⟨(), rfl, S.mem.sel [] [] (by decide) rfl rfl⟩))
   refine sCondF S rfl a6 ?_
   refine wp_skip (leafT (ae _ _ ?_))
   refine sSeq (fun aH ah => sRegion (sN S fun a S => ?_))
   refine lT (ah _ _ ?_)
   obtain rfl := tS h
   exact wp_ret (sRet (iv 0) S (rsl1 rfl (rvT (t := 2) (v := iv 0) S rfl)) ⟨(), rfl, S.mem.sel [] [] (by decide) rfl rfl⟩)
  refine sRegion (sM S fun a S => ?_)
  refine sBin _ S (wN rfl) rfl rfl rfl (bGt _ _ _ _ .i64 a4.1 200) rfl (lb rfl) fun a S => ?_
  refine sM S fun a S => ?_
  rcases iS h with ⟨a5, h⟩ | ⟨a5, h⟩
  ·refine sSkN 2 2 false 28 S rfl rfl a5 rfl fun a S => ?_
   refine sPickT (.bool true) S (wN rfl) rfl rfl a5 rfl rfl (lb rfl) fun a S => ?_
   exact lT (⟨true, Option.some.inj h, S.fix [] [] (by decide) rfl rfl rfl⟩)
  refine sMove (iv a4.2) S (wG 2 false 28 rfl rfl rfl a5) (.inl rfl) rfl rfl (lb rfl) fun a S => ?_
  refine sBin _ S (wG 2 false 28 rfl rfl rfl a5) rfl rfl rfl (bGt _ _ _ _ .i64 a4.2 200) rfl (lb rfl) fun a S => ?_
  refine sPickF (.bool (decide (200 < a4.2))) S (wN rfl) rfl rfl a5 rfl rfl (lb rfl) fun a S => ?_
  exact lT (⟨decide (200 < a4.2), Option.some.inj h, S.fix [] [] (by decide) rfl rfl rfl⟩)
 refine sSeq (fun aI ai => sRegion (sN S fun a S => ?_))
 refine lT (ai _ _ (wp_block ?_))
 obtain ⟨aJ, hl, av⟩ := bS h
 refine sLoop hl (fun s0 a w => match s0 with | a9 => St [] E [] w0 32 a w [(0, .slice ad1 p0.length cp2), (3, iv a9)] [] [fRep (rL r_api_Stitch) (.slice ad1 p0.length cp2) p0]) (S.fix [] [0] (by decide) rfl rfl rfl) ?_
 clear hl h
 intro a9 a w c0 hI h aa
 unfold raddleref25_All_l1 at h
 dsimp only at h hI
 have S := hI
 refine sSeq (fun aK aj => sSeq (fun aL ak => sRegion (sM S fun a S => ?_)))
 refine sM S fun a S => ?_
 refine sLen S (wN rfl) rfl Try.underlying62 rfl rfl (lb rfl) fun a S => ?_
 refine sBin _ S (wN rfl) rfl rfl rfl (bLt _ _ _ _ .i64 a9 (p0.length : Int)) rfl (lb rfl) fun a S => ?_
 refine lT (ak _ _ ?_)
 rcases iS h with ⟨a7, h⟩ | ⟨a7, h⟩
 rotate_left
 ·refine sCondF S rfl a7 ?_
  obtain rfl := tS h
  obtain rfl := aa _ rfl
  have h := av
  try dsimp only at h
  exact wp_exit (xThen (xThen (xHit (leafT (⟨Option.some.inj h, S.fix [] [0] (by decide) rfl rfl rfl⟩)))))
 refine sCondT S rfl a7 ?_
 refine wp_skip (leafT (aj _ _ ?_))
 refine sSeq (fun aM al => wp_block ?_)
 refine sSeq (fun aO am => sRegion (sM S fun a S => ?_))
 refine sM S fun a S => ?_
 obtain ⟨a0, ao, h⟩ := bS h
 obtain ⟨aw, ap, S⟩ := pIdx (P := Try.prog) (r := r_api_Stitch) (v := .slice ad1 p0.length cp2) (xs := p0) (j := a9) 62 61 0 S Try.underlying62 rfl rfl ao
 refine sIdxV S (wN rfl) rfl rfl rfl ap rfl (lb rfl) fun a S => ?_
 obtain ⟨ax, S⟩ := pLoad (r := r_api_Stitch) (q := aw) (x := a0) 0 S rfl
 obtain rfl : ax = .agg #[.int .u8 a0.Kind, .bool a0.Purl, iv a0.A, iv a0.B] := S.mem.know (i := 1) (e := fRep r_api_Stitch (ax) a0) rfl
 refine sLoadVN (vq := aw) 0 [.int .u8 a0.Kind, .bool a0.Purl, iv a0.A, iv a0.B] S (wN rfl) rfl rfl rfl rfl rfl rfl (lb rfl) fun a S => ?_
 obtain ⟨aq, ar, h⟩ := bS h
 have S1 := S.mem
 refine sCq [.agg #[.int .u8 a0.Kind, .bool a0.Purl, iv a0.A, iv a0.B]] (iv aq) S callee62 (S1.quiet [1] rfl) (fun E1 w1 S1 => c_raddleref25_Check E1 w1 a0 (.agg #[.int .u8 a0.Kind, .bool a0.Purl, iv a0.A, iv a0.B]) aq ar S1) fun a w S => ?_
 refine sBin _ S (wN rfl) rfl rfl rfl (bNe _ _ _ _ .i64 aq 0) rfl (lb rfl) fun a S => ?_
 refine lT (am _ _ ?_)
 rcases iS h with ⟨a8, h⟩ | ⟨a8, h⟩
 rotate_left
 ·refine sCondF S rfl a8 ?_
  refine wp_skip (leafB (leafT (al _ _ ?_)))
  refine sRegion (sM S fun a S => ?_)
  refine sBin _ S (wN rfl) rfl rfl rfl (bAdd _ _ _ _ a9 1) rfl (lb rfl) fun a S => ?_
  refine sN S fun a S => ?_
  exact lT (⟨w64 (a9 + 1), (Option.some.inj h).symm, (S.fix [] [3] (by decide) rfl rfl rfl)⟩)
 refine sCondT S rfl a8 ?_
 refine sSeq (fun aP au => sRegion (sN S fun a S => ?_))
 refine lT (au _ _ ?_)
 obtain rfl := tS h
 obtain rfl := aa _ rfl
 have h := av
 try dsimp only at h
 obtain rfl := tS h
 have h := g9
 try dsimp only at h
 obtain rfl := tS h
 exact wp_ret (rBlock (rThen (rThen (rBlock (rThen (sRet (iv 8) S (rsl1 rfl (rvT (t := 2) (v := iv 8) S rfl)) ⟨(), rfl, S.mem.sel [] [] (by decide) rfl rfl⟩))))))
theorem loop_at {S σ τ : Type} {B : S → Option (S ⊕ τ)} (n : Nat) (st : Nat → σ → S) (I : Nat → σ → Prop) (Pt : τ → Prop) {s0 : σ} (h0 : I 0 s0)
 (step : ∀ k s, k < n → I k s → (∃ s', B (st k s) = some (.inl (st (k + 1) s')) ∧ I (k + 1) s') ∨ (∃ t, B (st k s) = some (.inr t) ∧ Pt t))
 (last : ∀ s, I n s → ∃ t, B (st n s) = some (.inr t) ∧ Pt t) : ∃ t, whileO B (st 0 s0) = some t ∧ Pt t := by
 have key : ∀ j k s, j + k = n → I k s → ∃ t, whileO B (st k s) = some t ∧ Pt t := by
  intro j
  induction j with
  | zero =>
   intro k s hk hI
   obtain rfl : k = n := by omega
   obtain ⟨t, h1, h2⟩ := last s hI
   exact ⟨t, whileO_done h1, h2⟩
  | succ j ih =>
   intro k s hk hI
   rcases step k s (by omega) hI with ⟨s', h1, h2⟩ | ⟨t, h1, h2⟩
   ·rw [whileO_step h1]; exact ih _ _ (by omega) h2
   ·exact ⟨t, whileO_done h1, h2⟩
 exact key n 0 s0 (by omega) h0
theorem whileO_none {σ τ : Type} {B : σ → Option (σ ⊕ τ)} {s : σ} (h : B s = none) : whileO B s = none := by
 cases hx : whileO B s with
 | none => rfl
 | some t =>
  obtain ⟨n, hn⟩ := whileO_some hx
  cases n with
  | zero => simp [iterO] at hn
  | succ n => rw [iterO, h] at hn; cases hn
theorem whileO_eq {σ τ : Type} (B : σ → Option (σ ⊕ τ)) (s : σ) : whileO B s = (B s).bind fun r => match r with | .inl s' => whileO B s' | .inr t => some t := by
 cases h : B s with
 | none => rw [whileO_none h]; rfl
 | some r =>
  cases r with
  | inl s' => rw [whileO_step h]; rfl
  | inr t => rw [whileO_done h]; rfl
def sm {α : Type} (f : α → Int) : List α → Int
 | [] => 0
 | x :: l => f x + sm f l
theorem sm_append {α : Type} (f : α → Int) (l k : List α) : sm f (l ++ k) = sm f l + sm f k := by
 induction l with
 | nil => simp [sm]
 | cons x l ih => simp only [List.cons_append, sm, ih]; omega
theorem sm_take {α : Type} (f : α → Int) (l : List α) {k : Nat} (h : k < l.length) : sm f (l.take (k + 1)) = sm f (l.take k) + f l[k] := by
 rw [List.take_succ_eq_append_getElem h, sm_append]
 simp [sm]
theorem sm_bd {α : Type} {f : α → Int} {b : Int} {l : List α} (h : ∀ x, x ∈ l → 0 ≤ f x ∧ f x ≤ b) : 0 ≤ sm f l ∧ sm f l ≤ b * l.length := by
 induction l with
 | nil => simp [sm]
 | cons x l ih =>
  have h1 := h x (by simp)
  have h2 := ih fun y hy => h y (by simp [hy])
  simp only [sm, List.length_cons]
  have e : b * ((l.length + 1 : Nat) : Int) = b * l.length + b := by rw [Int.natCast_add, Int.mul_add]; simp
  rw [e]
  omega
def usedS (p : api_Stitch) : Int := if p.Kind = 2 ∨ p.Kind = 9 then 0 else if p.Kind = 3 ∨ p.Kind = 4 ∨ p.Kind = 10 then p.A else if p.Kind = 6 ∨ p.Kind = 7 then p.A + p.B else 1
def madeS (p : api_Stitch) : Int := if p.Kind = 10 then 0 else if p.Kind = 5 ∨ p.Kind = 9 then p.A else if p.Kind = 6 ∨ p.Kind = 7 then p.A + p.B else 1
def okS (p : api_Stitch) : Prop :=
 (p.Kind = 1 ∨ p.Kind = 8) ∧ p.A = 0 ∧ p.B = 0 ∨ p.Kind = 2 ∧ p.A = 0 ∧ p.B = 0 ∧ p.Purl = false ∨ (p.Kind = 3 ∨ p.Kind = 4 ∨ p.Kind = 5) ∧ 2 ≤ p.A ∧ p.A ≤ 4 ∧ p.B = 0 ∨
 (p.Kind = 6 ∨ p.Kind = 7) ∧ 1 ≤ p.A ∧ p.A ≤ 6 ∧ 1 ≤ p.B ∧ p.B ≤ 6 ∨ p.Kind = 9 ∧ 1 ≤ p.A ∧ p.A ≤ 200 ∧ p.B = 0 ∧ p.Purl = false ∨ p.Kind = 10 ∧ 1 ≤ p.A ∧ p.A ≤ 200 ∧ p.B = 0
instance (p : api_Stitch) : Decidable (okS p) := by unfold okS; infer_instance
theorem okS_bd {p : api_Stitch} (h : okS p) : 1 ≤ p.Kind ∧ p.Kind ≤ 10 ∧ 0 ≤ p.A ∧ p.A ≤ 200 ∧ 0 ≤ p.B ∧ p.B ≤ 6 := by
 unfold okS at h
 omega
theorem usedS_bd {p : api_Stitch} (h : okS p) : 0 ≤ usedS p ∧ usedS p ≤ 200 := by
 have hb := okS_bd h
 unfold okS at h
 unfold usedS
 split
 ·omega
 ·split
  ·omega
  ·split <;> omega
theorem madeS_bd {p : api_Stitch} (h : okS p) : 0 ≤ madeS p ∧ madeS p ≤ 200 := by
 have hb := okS_bd h
 unfold okS at h
 unfold madeS
 split
 ·omega
 ·split
  ·omega
  ·split <;> omega
theorem check_form (p : api_Stitch) (f : stitch_form) (h : F_stitch_forms p.Kind = some (f, true)) :
 F_stitch_Check p = some (if (f.a.1 ≤ p.A ∧ p.A ≤ f.a.2) ∧ (f.b.1 ≤ p.B ∧ p.B ≤ f.b.2) ∧ (p.Purl = true → f.sided = true) then 0 else 8) := by
 unfold F_stitch_Check F_stitch_within
 rw [h]
 by_cases a1 : f.a.1 ≤ p.A <;> by_cases a2 : p.A ≤ f.a.2 <;> by_cases b1 : f.b.1 ≤ p.B <;> by_cases b2 : p.B ≤ f.b.2 <;> cases hp : p.Purl <;> cases hs : f.sided <;> simp [a1, a2, b1, b2, hs]
theorem ifc {α : Type} {c d : Prop} [Decidable c] [Decidable d] {a b : α} (h : c ↔ d) : (if c then a else b) = if d then a else b := by
 by_cases hc : c
 ·rw [if_pos hc, if_pos (h.1 hc)]
 ·rw [if_neg hc, if_neg (fun hd => hc (h.2 hd))]
theorem kinds {x : Int} (h : 0 ≤ x ∧ x ≤ 255) : x = 0 ∨ x = 1 ∨ x = 2 ∨ x = 3 ∨ x = 4 ∨ x = 5 ∨ x = 6 ∨ x = 7 ∨ x = 8 ∨ x = 9 ∨ x = 10 ∨ 10 < x := by omega
theorem forms_none {x : Int} (h : 10 < x ∧ x ≤ 255) : ∃ f, F_stitch_forms x = some (f, false) := by
 unfold F_stitch_forms
 have hw : IntKind.i64.wrap x = x := w64_of (by omega) (by omega)
 simp only [dF (show ¬ x < 1 by omega), hw, Bool.false_eq_true, if_false, Option.bind_some, List.length_cons, List.length_nil]
 rw [dT (show ((0 + 1 + 1 + 1 + 1 + 1 + 1 + 1 + 1 + 1 + 1 : Nat) : Int) < x by omega)]
 exact ⟨_, rfl⟩
theorem check_none {p : api_Stitch} {f : stitch_form} (h : F_stitch_forms p.Kind = some (f, false)) : F_stitch_Check p = some 8 := by
 unfold F_stitch_Check
 rw [h]
 simp
theorem check_eq (p : api_Stitch) (hk : 0 ≤ p.Kind ∧ p.Kind ≤ 255) : F_stitch_Check p = some (if okS p then 0 else 8) := by
 rcases kinds hk with h | h | h | h | h | h | h | h | h | h | h | h
 ·rw [check_none (f := ⟨⟨#[]⟩, (0, 0), (0, 0), false, 0, 0⟩) (by rw [h]; rfl), if_neg (by unfold okS; omega)]
 ·rw [check_form p _ (by rw [h]; rfl)]; cases hp : p.Purl <;> exact congrArg some (ifc (by simp [okS, h]; omega))
 ·rw [check_form p _ (by rw [h]; rfl)]; cases hp : p.Purl <;> exact congrArg some (ifc (by simp [okS, h, hp] <;> omega))
 ·rw [check_form p _ (by rw [h]; rfl)]; cases hp : p.Purl <;> exact congrArg some (ifc (by simp [okS, h]; omega))
 ·rw [check_form p _ (by rw [h]; rfl)]; cases hp : p.Purl <;> exact congrArg some (ifc (by simp [okS, h]; omega))
 ·rw [check_form p _ (by rw [h]; rfl)]; cases hp : p.Purl <;> exact congrArg some (ifc (by simp [okS, h]; omega))
 ·rw [check_form p _ (by rw [h]; rfl)]; cases hp : p.Purl <;> exact congrArg some (ifc (by simp [okS, h]; omega))
 ·rw [check_form p _ (by rw [h]; rfl)]; cases hp : p.Purl <;> exact congrArg some (ifc (by simp [okS, h]; omega))
 ·rw [check_form p _ (by rw [h]; rfl)]; cases hp : p.Purl <;> exact congrArg some (ifc (by simp [okS, h]; omega))
 ·rw [check_form p _ (by rw [h]; rfl)]; cases hp : p.Purl <;> exact congrArg some (ifc (by simp [okS, h, hp] <;> omega))
 ·rw [check_form p _ (by rw [h]; rfl)]; cases hp : p.Purl <;> exact congrArg some (ifc (by simp [okS, h]; omega))
 ·obtain ⟨f, hf⟩ := forms_none ⟨h, hk.2⟩
  rw [check_none hf, if_neg (by unfold okS; omega)]
theorem rstitch_eq (p : api_Stitch) : F_raddleref25_Check p = some (if okS p then 0 else 8) := by
 have e3 : (if (p.A == 0) = true then some (p.B == 0) else some false) = some (p.A == 0 && p.B == 0) := by cases h : (p.A == 0) <;> simp
 unfold F_raddleref25_Check
 rw [e3, Option.bind_some]
 by_cases k1 : p.Kind = 1
 ·by_cases hA : p.A = 0 <;> by_cases hB : p.B = 0 <;> simp [k1, hA, hB, okS]
 by_cases k8 : p.Kind = 8
 ·by_cases hA : p.A = 0 <;> by_cases hB : p.B = 0 <;> simp [k8, hA, hB, okS]
 by_cases k2 : p.Kind = 2
 ·by_cases hA : p.A = 0 <;> by_cases hB : p.B = 0 <;> cases hp : p.Purl <;> simp [k2, hA, hB, hp, okS]
 by_cases k3 : p.Kind = 3
 ·by_cases h1 : 2 ≤ p.A <;> by_cases h2 : p.A ≤ 4 <;> by_cases hB : p.B = 0 <;> simp [k3, h1, h2, hB, okS]
 by_cases k4 : p.Kind = 4
 ·by_cases h1 : 2 ≤ p.A <;> by_cases h2 : p.A ≤ 4 <;> by_cases hB : p.B = 0 <;> simp [k4, h1, h2, hB, okS]
 by_cases k5 : p.Kind = 5
 ·by_cases h1 : 2 ≤ p.A <;> by_cases h2 : p.A ≤ 4 <;> by_cases hB : p.B = 0 <;> simp [k5, h1, h2, hB, okS]
 by_cases k6 : p.Kind = 6
 ·by_cases h1 : 1 ≤ p.A <;> by_cases h2 : p.A ≤ 6 <;> by_cases h3 : 1 ≤ p.B <;> by_cases h4 : p.B ≤ 6 <;> simp [k6, h1, h2, h3, h4, okS]
 by_cases k7 : p.Kind = 7
 ·by_cases h1 : 1 ≤ p.A <;> by_cases h2 : p.A ≤ 6 <;> by_cases h3 : 1 ≤ p.B <;> by_cases h4 : p.B ≤ 6 <;> simp [k7, h1, h2, h3, h4, okS]
 by_cases k9 : p.Kind = 9
 ·by_cases h1 : 1 ≤ p.A <;> by_cases h2 : p.A ≤ 200 <;> by_cases hB : p.B = 0 <;> cases hp : p.Purl <;> simp [k9, h1, h2, hB, hp, okS]
 by_cases k10 : p.Kind = 10
 ·by_cases h1 : 1 ≤ p.A <;> by_cases h2 : p.A ≤ 200 <;> by_cases hB : p.B = 0 <;> simp [k10, h1, h2, hB, okS]
 have hn : ¬ okS p := by unfold okS; omega
 simp [k1, k2, k3, k4, k5, k6, k7, k8, k9, k10, hn]
theorem form_ok {p : api_Stitch} (h : okS p) : ∃ f, F_stitch_forms p.Kind = some (f, true) ∧ F_stitch_loops p f.uses = some (usedS p) ∧ F_stitch_loops p f.made = some (madeS p) := by
 have hb := okS_bd h
 have hw : w64 (p.A + p.B) = p.A + p.B := w64_of (by omega) (by omega)
 have l0 : F_stitch_loops p 0 = some 0 := rfl
 have l1 : F_stitch_loops p 1 = some 1 := rfl
 have l2 : F_stitch_loops p 2 = some p.A := rfl
 have l3 : F_stitch_loops p 3 = some (p.A + p.B) := by rw [← hw]; rfl
 rcases kinds (x := p.Kind) (by omega) with k | k | k | k | k | k | k | k | k | k | k | k
 ·omega
 ·exact ⟨⟨⟨#[]⟩, (0, 0), (0, 0), true, 1, 1⟩, by rw [k]; rfl, by rw [l1]; simp [usedS, k], by rw [l1]; simp [madeS, k]⟩
 ·exact ⟨⟨⟨#[]⟩, (0, 0), (0, 0), false, 0, 1⟩, by rw [k]; rfl, by rw [l0]; simp [usedS, k], by rw [l1]; simp [madeS, k]⟩
 ·exact ⟨⟨⟨#[102]⟩, (2, 4), (0, 0), true, 2, 1⟩, by rw [k]; rfl, by rw [l2]; simp [usedS, k], by rw [l1]; simp [madeS, k]⟩
 ·exact ⟨⟨⟨#[108]⟩, (2, 4), (0, 0), true, 2, 1⟩, by rw [k]; rfl, by rw [l2]; simp [usedS, k], by rw [l1]; simp [madeS, k]⟩
 ·exact ⟨⟨⟨#[109]⟩, (2, 4), (0, 0), true, 1, 2⟩, by rw [k]; rfl, by rw [l1]; simp [usedS, k], by rw [l2]; simp [madeS, k]⟩
 ·exact ⟨⟨⟨#[120]⟩, (1, 6), (1, 6), true, 3, 3⟩, by rw [k]; rfl, by rw [l3]; simp [usedS, k], by rw [l3]; simp [madeS, k]⟩
 ·exact ⟨⟨⟨#[121]⟩, (1, 6), (1, 6), true, 3, 3⟩, by rw [k]; rfl, by rw [l3]; simp [usedS, k], by rw [l3]; simp [madeS, k]⟩
 ·exact ⟨⟨⟨#[115]⟩, (0, 0), (0, 0), true, 1, 1⟩, by rw [k]; rfl, by rw [l1]; simp [usedS, k], by rw [l1]; simp [madeS, k]⟩
 ·exact ⟨⟨⟨#[]⟩, (1, 200), (0, 0), false, 0, 2⟩, by rw [k]; rfl, by rw [l0]; simp [usedS, k], by rw [l2]; simp [madeS, k]⟩
 ·exact ⟨⟨⟨#[111]⟩, (1, 200), (0, 0), true, 2, 0⟩, by rw [k]; rfl, by rw [l2]; simp [usedS, k], by rw [l0]; simp [madeS, k]⟩
 ·omega
theorem rused_eq {p : api_Stitch} (h : okS p) : F_raddleref25_Used p = some (usedS p) := by
 have hb := okS_bd h
 have hw : w64 (p.A + p.B) = p.A + p.B := w64_of (by omega) (by omega)
 unfold F_raddleref25_Used usedS
 rcases kinds (x := p.Kind) (by omega) with k | k | k | k | k | k | k | k | k | k | k | k <;> first | omega | simp [k, hw]
theorem rgives_eq {p : api_Stitch} (h : okS p) : F_raddleref25_Gives p = some (madeS p) := by
 have hb := okS_bd h
 have hw : w64 (p.A + p.B) = p.A + p.B := w64_of (by omega) (by omega)
 unfold F_raddleref25_Gives madeS
 rcases kinds (x := p.Kind) (by omega) with k | k | k | k | k | k | k | k | k | k | k | k <;> first | omega | simp [k, hw]
def allOk (l : List api_Stitch) : Prop := ∀ p, p ∈ l → okS p
instance (l : List api_Stitch) : Decidable (allOk l) := by unfold allOk; infer_instance
def wfS (p : api_Stitch) : Prop := 0 ≤ p.Kind ∧ p.Kind ≤ 255
theorem used_bd {l : List api_Stitch} (h : allOk l) : 0 ≤ sm usedS l ∧ sm usedS l ≤ 200 * l.length := sm_bd fun _ hx => usedS_bd (h _ hx)
theorem made_bd {l : List api_Stitch} (h : allOk l) : 0 ≤ sm madeS l ∧ sm madeS l ≤ 200 * l.length := sm_bd fun _ hx => madeS_bd (h _ hx)
theorem take_ok {l : List api_Stitch} (h : allOk l) (k : Nat) : allOk (l.take k) := fun _ hx => h _ (List.mem_of_mem_take hx)
theorem sum_step {l : List api_Stitch} (h : allOk l) (hl : l.length ≤ 100000) {k : Nat} (hk : k < l.length) :
 w64 (sm usedS (l.take k) + usedS l[k]) = sm usedS (l.take (k + 1)) ∧ w64 (sm madeS (l.take k) + madeS l[k]) = sm madeS (l.take (k + 1)) := by
 have h1 := used_bd (take_ok h k)
 have h2 := made_bd (take_ok h k)
 have h3 := usedS_bd (h _ (List.getElem_mem hk))
 have h4 := madeS_bd (h _ (List.getElem_mem hk))
 have hlen : (l.take k).length ≤ 100000 := by rw [List.length_take]; omega
 rw [sm_take _ _ hk, sm_take _ _ hk]
 exact ⟨w64_of (by omega) (by omega), w64_of (by omega) (by omega)⟩
theorem sum_eq {l : List api_Stitch} (h : allOk l) (hl : l.length ≤ 100000) : F_stitch_sum l = some (sm usedS l, sm madeS l) := by
 have key : ∃ t, whileO (stitch_sum_l1 l) (0, 0, 0) = some t ∧ t = (sm usedS l, sm madeS l) := by
  refine loop_at (σ := Unit) l.length (fun k _ => (sm usedS (l.take k), sm madeS (l.take k), (k : Int))) (fun _ _ => True) _ (s0 := ()) trivial ?_ ?_
  ·intro k _ hk _
   refine .inl ⟨(), ?_, trivial⟩
   obtain ⟨f, f1, f2, f3⟩ := form_ok (h _ (List.getElem_mem hk))
   have hs := sum_step h hl hk
   unfold stitch_sum_l1
   simp only [dT (show (k : Int) < (l.length : Int) by omega), if_true, idxO_nat hk, Option.bind_some, f1, f2, f3, hs.1, hs.2, w64_succ (show k < 9223372036854775807 by omega)]
  ·intro _ _
   refine ⟨_, ?_, rfl⟩
   unfold stitch_sum_l1
   simp only [dF (show ¬ (l.length : Int) < (l.length : Int) by omega), Bool.false_eq_true, if_false, List.take_length]
 obtain ⟨t, h1, rfl⟩ := key
 unfold F_stitch_sum
 rw [h1]; rfl
theorem rsums_eq {l : List api_Stitch} (h : allOk l) (hl : l.length ≤ 100000) : F_raddleref25_sums l = some (sm usedS l, sm madeS l) := by
 have key : ∃ t, whileO (raddleref25_sums_l1 l) (0, 0, 0) = some t ∧ t = (sm usedS l, sm madeS l) := by
  refine loop_at (σ := Unit) l.length (fun k _ => (sm usedS (l.take k), sm madeS (l.take k), (k : Int))) (fun _ _ => True) _ (s0 := ()) trivial ?_ ?_
  ·intro k _ hk _
   refine .inl ⟨(), ?_, trivial⟩
   have hs := sum_step h hl hk
   unfold raddleref25_sums_l1
   simp only [dT (show (k : Int) < (l.length : Int) by omega), if_true, idxO_nat hk, Option.bind_some, rused_eq (h _ (List.getElem_mem hk)), rgives_eq (h _ (List.getElem_mem hk)), hs.1, hs.2, w64_succ (show k < 9223372036854775807 by omega)]
  ·intro _ _
   refine ⟨_, ?_, rfl⟩
   unfold raddleref25_sums_l1
   simp only [dF (show ¬ (l.length : Int) < (l.length : Int) by omega), Bool.false_eq_true, if_false, List.take_length]
 obtain ⟨t, h1, rfl⟩ := key
 unfold F_raddleref25_sums
 rw [h1]; rfl
def allS (l : List api_Stitch) : Int := if 200 < l.length then 4 else if allOk l then (if 200 < sm usedS l ∨ 200 < sm madeS l then 4 else 0) else 8
theorem allOk_range {l : List api_Stitch} : (List.range l.length).all (fun k => decide (okS (l.getD k ⟨0, false, 0, 0⟩))) = true ↔ allOk l := by
 rw [List.all_eq_true]
 constructor
 ·intro h p hp
  obtain ⟨k, hk, rfl⟩ := List.getElem_of_mem hp
  have := h k (List.mem_range.2 hk)
  simpa [hk] using this
 ·intro h k hk
  have hk := List.mem_range.1 hk
  have := h _ (List.getElem_mem hk)
  simpa [hk] using this
theorem getD_of {α : Type} {l : List α} {k : Nat} (d : α) (h : k < l.length) : l.getD k d = l[k] := by simp [h]
theorem find_bad {l : List api_Stitch} (hw : ∀ p, p ∈ l → wfS p) (hl : l.length ≤ 100000) : ∃ j, F_slices_IndexFunc___api_Stitch_api_Stitch__s0 l = some j ∧ (0 ≤ j ↔ ¬ allOk l) := by
 have key : ∃ t, whileO (slices_IndexFunc___api_Stitch_api_Stitch__s0_l1 l) 0 = some t ∧ ((t = .inr () ∧ allOk l) ∨ (∃ k : Nat, t = .inl (k : Int) ∧ ¬ allOk l)) := by
  refine loop_ix l.length (fun k => allOk (l.take k)) _ (fun p hp => by simp at hp) ?_ ?_
  ·intro k hk hI
   have hc := check_eq l[k] (hw _ (List.getElem_mem hk))
   unfold slices_IndexFunc___api_Stitch_api_Stitch__s0_l1 F_stitch_All_1
   simp only [dT (show (k : Int) < (l.length : Int) by omega), if_true, idxO_nat hk, Option.bind_some, hc, w64_succ (show k < 9223372036854775807 by omega)]
   by_cases ho : okS l[k]
   ·refine .inl ⟨by simp [ho], fun p hp => ?_⟩
    rw [List.take_succ_eq_append_getElem hk, List.mem_append] at hp
    rcases hp with hp | hp
    ·exact hI p hp
    ·simp at hp; subst hp; exact ho
   ·exact .inr ⟨.inl (k : Int), by simp [ho], .inr ⟨k, rfl, fun h => ho (h _ (List.getElem_mem hk))⟩⟩
  ·intro hI
   refine ⟨.inr (), ?_, .inl ⟨rfl, by simpa using hI⟩⟩
   unfold slices_IndexFunc___api_Stitch_api_Stitch__s0_l1
   simp only [dF (show ¬ (l.length : Int) < (l.length : Int) by omega), Bool.false_eq_true, if_false]
 obtain ⟨t, h1, h2⟩ := key
 unfold F_slices_IndexFunc___api_Stitch_api_Stitch__s0
 rw [h1]
 rcases h2 with ⟨rfl, h⟩ | ⟨k, rfl, h⟩
 ·exact ⟨-1, rfl, by simp [h]⟩
 ·exact ⟨(k : Int), rfl, by simp [h]⟩
theorem all_eq {l : List api_Stitch} (hw : ∀ p, p ∈ l → wfS p) : F_stitch_All l = some (allS l) := by
 unfold F_stitch_All allS
 by_cases hl : 200 < l.length
 ·simp only [dT (show (200 : Int) < (l.length : Int) by omega), if_true, if_pos hl]
 simp only [dF (show ¬ (200 : Int) < (l.length : Int) by omega), Bool.false_eq_true, if_false, if_neg hl]
 obtain ⟨j, h1, h2⟩ := find_bad hw (by omega)
 unfold F_slices_ContainsFunc___api_Stitch_api_Stitch__s0
 rw [h1]
 by_cases ho : allOk l
 ·have : ¬ 0 ≤ j := fun h => h2.1 h ho
  simp only [Option.bind_some, dF this, Bool.false_eq_true, if_false, sum_eq ho (show l.length ≤ 100000 by omega), if_pos ho]
  by_cases hm : 200 < sm usedS l ∨ 200 < sm madeS l
  ·rw [dT (show (200 : Int) < if sm usedS l < sm madeS l then sm madeS l else sm usedS l by split <;> omega)]
   simp [hm]
  ·rw [dF (show ¬ (200 : Int) < if sm usedS l < sm madeS l then sm madeS l else sm usedS l by split <;> omega)]
   simp [hm]
 ·have : 0 ≤ j := h2.2 ho
  simp only [Option.bind_some, dT this, if_true, if_neg ho]
theorem rall_eq (l : List api_Stitch) : F_raddleref25_All l = some (allS l) := by
 unfold F_raddleref25_All allS
 by_cases hl : 200 < l.length
 ·simp only [dT (show (200 : Int) < (l.length : Int) by omega), if_true, if_pos hl]
 simp only [dF (show ¬ (200 : Int) < (l.length : Int) by omega), Bool.false_eq_true, if_false, if_neg hl]
 have hloop : whileO (raddleref25_All_l1 l) 0 = some (if (List.range l.length).all (fun k => decide (okS (l.getD k ⟨0, false, 0, 0⟩))) = true then .inr () else .inl 8) := by
  refine loop_all l.length _ _ _ ?_ ?_
  ·intro k hk
   unfold raddleref25_All_l1
   simp only [dT (show (k : Int) < (l.length : Int) by omega), if_true, idxO_nat hk, Option.bind_some, rstitch_eq, w64_succ (show k < 9223372036854775807 by omega), getD_of _ hk]
   by_cases ho : okS l[k] <;> simp [ho]
  ·unfold raddleref25_All_l1
   simp only [dF (show ¬ (l.length : Int) < (l.length : Int) by omega), Bool.false_eq_true, if_false]
 rw [hloop]
 by_cases ho : allOk l
 ·rw [if_pos (allOk_range.2 ho), if_pos ho]
  simp only [Option.bind_some, rsums_eq ho (show l.length ≤ 100000 by omega)]
  by_cases hu : 200 < sm usedS l
  ·simp [hu]
  ·by_cases hm : 200 < sm madeS l <;> simp [hu, hm]
 ·rw [if_neg (fun h => ho (allOk_range.1 h)), if_neg ho]
  rfl
theorem allS_ok {l : List api_Stitch} (h : allS l = 0) : l.length ≤ 200 ∧ allOk l ∧ sm usedS l ≤ 200 ∧ sm madeS l ≤ 200 := by
 unfold allS at h
 split at h
 ·omega
 ·split at h
  ·rename_i h1 h2
   split at h
   ·omega
   ·rename_i h3
    exact ⟨by omega, h2, by omega, by omega⟩
  ·omega
def fin3 {σ τ : Type} (z0 : (σ ⊕ τ) ⊕ σ) : Option (σ ⊕ τ) := match z0 with
 | .inl z => some z
 | .inr g => some (.inl g)
theorem take_one {α : Type} (l : List α) {k : Nat} (hk : k < l.length) : l.take (k + 1) = l.take k ++ [l[k]] := by
 rw [List.take_add_one, List.getElem?_eq_getElem hk]; rfl
def othS (p : api_Stitch) : api_Stitch := ⟨p.Kind, if p.Kind = 2 ∨ p.Kind = 9 then p.Purl else !p.Purl, if p.Kind = 6 ∨ p.Kind = 7 then p.B else p.A, if p.Kind = 6 ∨ p.Kind = 7 then p.A else p.B⟩
theorem purl_no {p : api_Stitch} (h : okS p) (k : p.Kind = 2 ∨ p.Kind = 9) : p.Purl = false := by
 rcases h with h | h | h | h | h | h
 ·omega
 ·exact h.2.2.2
 ·omega
 ·omega
 ·exact h.2.2.2.2
 ·omega
theorem turn_form {p : api_Stitch} (h : okS p) : ∃ f, F_stitch_forms p.Kind = some (f, true) ∧ (if f.sided = true then some (!p.Purl) else some false) = some (othS p).Purl ∧ (if decide (0 < f.b.2) = true then some (p.B, p.A) else some (p.A, p.B)) = some ((othS p).A, (othS p).B) := by
 have hb := okS_bd h
 unfold othS
 rcases kinds (x := p.Kind) (by omega) with k | k | k | k | k | k | k | k | k | k | k | k
 ·omega
 ·exact ⟨⟨⟨#[]⟩, (0, 0), (0, 0), true, 1, 1⟩, by rw [k]; rfl, by simp [k], by simp [k]⟩
 ·exact ⟨⟨⟨#[]⟩, (0, 0), (0, 0), false, 0, 1⟩, by rw [k]; rfl, by simp [k, purl_no h (.inl k)], by simp [k]⟩
 ·exact ⟨⟨⟨#[102]⟩, (2, 4), (0, 0), true, 2, 1⟩, by rw [k]; rfl, by simp [k], by simp [k]⟩
 ·exact ⟨⟨⟨#[108]⟩, (2, 4), (0, 0), true, 2, 1⟩, by rw [k]; rfl, by simp [k], by simp [k]⟩
 ·exact ⟨⟨⟨#[109]⟩, (2, 4), (0, 0), true, 1, 2⟩, by rw [k]; rfl, by simp [k], by simp [k]⟩
 ·exact ⟨⟨⟨#[120]⟩, (1, 6), (1, 6), true, 3, 3⟩, by rw [k]; rfl, by simp [k], by simp [k]⟩
 ·exact ⟨⟨⟨#[121]⟩, (1, 6), (1, 6), true, 3, 3⟩, by rw [k]; rfl, by simp [k], by simp [k]⟩
 ·exact ⟨⟨⟨#[115]⟩, (0, 0), (0, 0), true, 1, 1⟩, by rw [k]; rfl, by simp [k], by simp [k]⟩
 ·exact ⟨⟨⟨#[]⟩, (1, 200), (0, 0), false, 0, 2⟩, by rw [k]; rfl, by simp [k, purl_no h (.inr k)], by simp [k]⟩
 ·exact ⟨⟨⟨#[111]⟩, (1, 200), (0, 0), true, 2, 0⟩, by rw [k]; rfl, by simp [k], by simp [k]⟩
 ·omega
theorem turn_step {p : api_Stitch} (h : okS p) (s : List api_Stitch) (hs : s.length ≤ 1000000000) (i : Int) : stitch_Turn_l2 s (i, p) = some (.inl (s ++ [othS p])) := by
 obtain ⟨f, f1, f2, f3⟩ := turn_form h
 unfold stitch_Turn_l2
 simp only [f1, Option.bind_some, f2, f3]
 rw [appO_of (by simp; omega)]
 rfl
def bkw {α : Type} (l : List α) : Nat → List (Int × α)
 | 0 => []
 | k + 1 => match l[k]? with
  | some x => ((k : Int), x) :: bkw l k
  | none => bkw l k
theorem bkw_fold {α β τ : Type} {B : List β → (Int × α) → Option (List β ⊕ τ)} (l : List α) (g : α → β) (m : Nat) (hB : ∀ s x i, x ∈ l → s.length ≤ m → B s (i, x) = some (.inl (s ++ [g x]))) : ∀ (k : Nat) (s : List β), k ≤ l.length → s.length + k ≤ m → foldO B s (bkw l k) = some (.inl (s ++ ((l.take k).map g).reverse)) := by
 intro k
 induction k with
 | zero => intro s _ _; simp [bkw, foldO]
 | succ k ih =>
  intro s hk hs
  have hx : l[k]? = some (l[k]'(by omega)) := List.getElem?_eq_getElem (by omega)
  simp only [bkw, hx, foldO]
  rw [hB s _ _ (List.getElem_mem _) (by omega)]
  simp only [Option.bind_some]
  rw [ih _ (by omega) (by simp; omega), take_one l (by omega), List.map_append, List.reverse_append, List.append_assoc]
  rfl
theorem back_loop {σ τ : Type} (l : List api_Stitch) (hl : l.length ≤ 1000000000) (B : σ → (Int × api_Stitch) → Option (σ ⊕ τ)) : ∀ (k : Nat) (z : σ), k ≤ l.length → (whileO (slices_Backward___api_Stitch_api_Stitch__1_l1 l B) ((k : Int) - 1, z)).bind fin3 = foldO B z (bkw l k) := by
 intro k
 induction k with
 | zero =>
  intro z _
  have : slices_Backward___api_Stitch_api_Stitch__1_l1 l B (((0 : Nat) : Int) - 1, z) = some (.inr (.inr z)) := by
   unfold slices_Backward___api_Stitch_api_Stitch__1_l1
   simp only [dF (show ¬ (0 : Int) ≤ ((0 : Nat) : Int) - 1 by omega), Bool.false_eq_true, if_false]
  rw [whileO_done this]
  rfl
 | succ k ih =>
  intro z hk
  have e : ((k + 1 : Nat) : Int) - 1 = (k : Int) := by omega
  have hx : l[k]? = some (l[k]'(by omega)) := List.getElem?_eq_getElem (by omega)
  have e1 : slices_Backward___api_Stitch_api_Stitch__1_l1 l B ((k : Int), z) = (B z ((k : Int), l[k]'(by omega))).bind fun y => match y with | .inl z' => some (.inl ((k : Int) - 1, z')) | .inr t => some (.inr (.inl (.inr t))) := by
   unfold slices_Backward___api_Stitch_api_Stitch__1_l1
   simp only [dT (show (0 : Int) ≤ (k : Int) by omega), if_true, idxO_nat (show k < l.length by omega), Option.bind_some, w64_of (show (-9223372036854775808 : Int) ≤ (k : Int) - 1 by omega) (by omega)]
   try congr 1
  simp only [bkw, hx]
  rw [e, whileO_eq, e1, foldO]
  cases hb : B z ((k : Int), l[k]'(by omega)) with
  | none => rfl
  | some y =>
   cases y with
   | inl z' => exact ih z' (by omega)
   | inr t => rfl
theorem backI_eq {σ τ : Type} (l : List api_Stitch) (hl : l.length ≤ 1000000000) (B : σ → (Int × api_Stitch) → Option (σ ⊕ τ)) (z : σ) : I_slices_Backward___api_Stitch_api_Stitch__1 l σ τ B z = foldO B z (bkw l l.length) := by
 rw [← back_loop l hl B l.length z (Nat.le_refl _)]
 unfold I_slices_Backward___api_Stitch_api_Stitch__1
 rw [w64_of (show (-9223372036854775808 : Int) ≤ (l.length : Int) - 1 by omega) (by omega)]
 try congr 1
theorem turn_eq {l : List api_Stitch} (hw : ∀ p, p ∈ l → wfS p) : F_stitch_Turn l = some (if allS l = 0 then ((l.map othS).reverse, 0) else ([], allS l)) := by
 unfold F_stitch_Turn F_slices_Backward___api_Stitch_api_Stitch_
 rw [all_eq hw]
 by_cases h : allS l = 0
 case neg => simp only [Option.bind_some, nT h, if_true, if_neg h]
 have hk := allS_ok h
 simp only [Option.bind_some, nF h, Bool.false_eq_true, if_false, capO_of (n := (l.length : Int)) (k := l.length) rfl (by omega), if_pos h]
 rw [backI_eq l (by omega), bkw_fold l othS 1000000000 (fun s x i hx hs => turn_step (hk.2.1 x hx) s hs i) l.length [] (Nat.le_refl _) (by simp; omega), List.take_length]
 rfl
theorem oth_ok {p : api_Stitch} (h : okS p) : okS (othS p) ∧ usedS (othS p) = usedS p ∧ madeS (othS p) = madeS p := by
 have hb := okS_bd h
 have hk : (othS p).Kind = p.Kind := rfl
 rcases kinds (x := p.Kind) (by omega) with k | k | k | k | k | k | k | k | k | k | k | k
 ·omega
 ·refine ⟨?_, ?_, ?_⟩ <;> simp [okS, usedS, madeS, othS, k] at h ⊢ <;> omega
 ·refine ⟨?_, ?_, ?_⟩ <;> simp [okS, usedS, madeS, othS, k] at h ⊢ <;> exact h
 ·refine ⟨?_, ?_, ?_⟩ <;> simp [okS, usedS, madeS, othS, k] at h ⊢ <;> omega
 ·refine ⟨?_, ?_, ?_⟩ <;> simp [okS, usedS, madeS, othS, k] at h ⊢ <;> omega
 ·refine ⟨?_, ?_, ?_⟩ <;> simp [okS, usedS, madeS, othS, k] at h ⊢ <;> omega
 ·refine ⟨?_, ?_, ?_⟩ <;> simp [okS, usedS, madeS, othS, k] at h ⊢ <;> omega
 ·refine ⟨?_, ?_, ?_⟩ <;> simp [okS, usedS, madeS, othS, k] at h ⊢ <;> omega
 ·refine ⟨?_, ?_, ?_⟩ <;> simp [okS, usedS, madeS, othS, k] at h ⊢ <;> omega
 ·refine ⟨?_, ?_, ?_⟩ <;> simp [okS, usedS, madeS, othS, k] at h ⊢ <;> first | exact h | omega
 ·refine ⟨?_, ?_, ?_⟩ <;> simp [okS, usedS, madeS, othS, k] at h ⊢ <;> omega
 ·omega
theorem sm_reverse {α : Type} (f : α → Int) (l : List α) : sm f l.reverse = sm f l := by
 induction l with
 | nil => rfl
 | cons x l ih => rw [List.reverse_cons, sm_append, ih]; simp only [sm]; omega
theorem sm_oth {l : List api_Stitch} (h : allOk l) : sm usedS (l.map othS) = sm usedS l ∧ sm madeS (l.map othS) = sm madeS l := by
 induction l with
 | nil => exact ⟨rfl, rfl⟩
 | cons x l ih =>
  have hx := oth_ok (h x (by simp))
  have ih := ih fun y hy => h y (by simp [hy])
  simp only [List.map_cons, sm, hx.2.1, hx.2.2, ih.1, ih.2, and_self]
theorem turned_ok {l : List api_Stitch} (h : allS l = 0) : allS ((l.map othS).reverse) = 0 ∧ sm usedS ((l.map othS).reverse) = sm usedS l ∧ sm madeS ((l.map othS).reverse) = sm madeS l := by
 obtain ⟨h1, h2, h3, h4⟩ := allS_ok h
 have hs := sm_oth h2
 have hok : allOk ((l.map othS).reverse) := by
  intro p hp
  rw [List.mem_reverse] at hp
  obtain ⟨q, hq, rfl⟩ := List.mem_map.1 hp
  exact (oth_ok (h2 q hq)).1
 rw [sm_reverse, sm_reverse, hs.1, hs.2]
 refine ⟨?_, rfl, rfl⟩
 unfold allS
 rw [sm_reverse, sm_reverse, hs.1, hs.2, if_neg (by simp; omega), if_pos hok, if_neg (by omega)]
noncomputable def F_raddleref25_Uses (p0 : (List api_Stitch)) : Option (Int × Int) :=
 (F_raddleref25_All p0).bind fun r6 =>
 if r6 != 0 then
  some (0, r6)
 else
  (F_raddleref25_sums p0).bind fun a0 =>
  some (a0.1, 0)
theorem c_raddleref25_Uses (E : Nat → Prop) (w0 : World) (p0 : (List api_Stitch)) (v0 : Value) (r : (Int × Int)) (h : F_raddleref25_Uses p0 = some r) (S : St0 E [] w0 w0 [] [fRep (rL r_api_Stitch) (v0) p0]) :
 Calls Try.prog 35 #[v0] w0 (Ret (X := Unit) E [] w0 (fun _ => .tuple #[.int .i64 r.1, .int .i64 r.2]) (fun _ => []) (fun _ => [])) := by
 unfold F_raddleref25_Uses at h
 obtain ⟨ad1, cp2, _, rfl, _⟩ := S.know (i := 0) (e := fRep (rL r_api_Stitch) (v0) p0) rfl
 refine sEnter (args := [.slice ad1 p0.length cp2]) 17 Try.func35 rfl rfl (by simp) S (fun a S => ?_)
 refine sSeq (fun K3 hK3 => sRegion (sN S fun a S => ?_))
 refine sN S fun a S => ?_
 refine lT (hK3 _ _ (sSeq (fun K4 hK4 => sSeq (fun K5 hK5 => sRegion (sM S fun a S => ?_)))))
 obtain ⟨r6, hx7, h⟩ := bS h
 have S1 := S.mem
 refine sCq [.slice ad1 p0.length cp2] (iv r6) S callee48 (S1.quiet [0] rfl) (fun E1 w1 S1 => c_raddleref25_All E1 w1 p0 (.slice ad1 p0.length cp2) r6 hx7 S1) fun a w S => ?_
 refine sBin _ S (wN rfl) rfl rfl rfl (bNe _ _ _ _ .i64 r6 0) rfl (lb rfl) fun a S => ?_
 refine lT (hK5 _ _ ?_)
 rcases iS h with ⟨hc8, h⟩ | ⟨hc8, h⟩
 ·refine sCondT S rfl hc8 ?_
  refine sSeq (fun K9 hK9 => sRegion (sM S fun a S => ?_))
  have S1 := S.mem
  refine sCq [.slice ad1 p0.length cp2] (iv r6) S callee48 (S1.quiet [0] rfl) (fun E1 w1 S1 => c_raddleref25_All E1 w1 p0 (.slice ad1 p0.length cp2) r6 hx7 S1) fun a w S => ?_
  refine sN S fun a S => ?_
  refine sN S fun a S => ?_
  refine lT (hK9 _ _ ?_)
  obtain rfl := tS h
  exact wp_ret (rThen (sRet (.tuple #[iv 0, iv r6]) S (rsl2 rfl (rvT (t := 2) (v := iv 0) S rfl) (rvT (t := 3) (v := iv r6) S rfl)) ⟨(), rfl, S.mem.sel [] [] (by decide) rfl rfl⟩))
 refine sCondF S rfl hc8 ?_
 refine wp_skip (leafT (hK4 _ _ ?_))
 refine sSeq (fun a7 a4 => sRegion (sM S fun a S => ?_))
 obtain ⟨a0, a5, h⟩ := bS h
 have S1 := S.mem
 refine sCq [.slice ad1 p0.length cp2] (.tuple #[iv a0.1, iv a0.2]) S callee49 (S1.quiet [0] rfl) (fun E1 w1 S1 => c_raddleref25_sums E1 w1 p0 (.slice ad1 p0.length cp2) a0 a5 S1) fun a w S => ?_
 refine sM S fun a S => ?_
 refine sExtract (vs := [iv a0.1, iv a0.2]) (iv a0.1) S (wN rfl) rfl rfl rfl rfl (lb rfl) fun a S => ?_
 refine sExtract (vs := [iv a0.1, iv a0.2]) (iv a0.2) S (wN rfl) rfl rfl rfl rfl (lb rfl) fun a S => ?_
 refine sN S fun a S => ?_
 refine sN S fun a S => ?_
 refine lT (a4 _ _ (sSeq (fun a8 a6 => sRegion (sM S fun a S => ?_))))
 refine sN S fun a S => ?_
 refine sN S fun a S => ?_
 refine lT (a6 _ _ ?_)
 obtain rfl := tS h
 exact wp_ret (sRet (.tuple #[iv a0.1, iv 0]) S (rsl2 rfl (rvT (t := 2) (v := iv a0.1) S rfl) (rvT (t := 3) (v := iv 0) S rfl)) ⟨(), rfl, S.mem.sel [] [] (by decide) rfl rfl⟩)
noncomputable def F_raddleref25_Makes (p0 : (List api_Stitch)) : Option (Int × Int) :=
 (F_raddleref25_All p0).bind fun r6 =>
 if r6 != 0 then
  some (0, r6)
 else
  (F_raddleref25_sums p0).bind fun a0 =>
  some (a0.2, 0)
theorem c_raddleref25_Makes (E : Nat → Prop) (w0 : World) (p0 : (List api_Stitch)) (v0 : Value) (r : (Int × Int)) (h : F_raddleref25_Makes p0 = some r) (S : St0 E [] w0 w0 [] [fRep (rL r_api_Stitch) (v0) p0]) :
 Calls Try.prog 36 #[v0] w0 (Ret (X := Unit) E [] w0 (fun _ => .tuple #[.int .i64 r.1, .int .i64 r.2]) (fun _ => []) (fun _ => [])) := by
 unfold F_raddleref25_Makes at h
 obtain ⟨ad1, cp2, _, rfl, _⟩ := S.know (i := 0) (e := fRep (rL r_api_Stitch) (v0) p0) rfl
 refine sEnter (args := [.slice ad1 p0.length cp2]) 17 Try.func36 rfl rfl (by simp) S (fun a S => ?_)
 refine sSeq (fun K3 hK3 => sRegion (sN S fun a S => ?_))
 refine sN S fun a S => ?_
 refine lT (hK3 _ _ (sSeq (fun K4 hK4 => sSeq (fun K5 hK5 => sRegion (sM S fun a S => ?_)))))
 obtain ⟨r6, hx7, h⟩ := bS h
 have S1 := S.mem
 refine sCq [.slice ad1 p0.length cp2] (iv r6) S callee48 (S1.quiet [0] rfl) (fun E1 w1 S1 => c_raddleref25_All E1 w1 p0 (.slice ad1 p0.length cp2) r6 hx7 S1) fun a w S => ?_
 refine sBin _ S (wN rfl) rfl rfl rfl (bNe _ _ _ _ .i64 r6 0) rfl (lb rfl) fun a S => ?_
 refine lT (hK5 _ _ ?_)
 rcases iS h with ⟨hc8, h⟩ | ⟨hc8, h⟩
 ·refine sCondT S rfl hc8 ?_
  refine sSeq (fun K9 hK9 => sRegion (sM S fun a S => ?_))
  have S1 := S.mem
  refine sCq [.slice ad1 p0.length cp2] (iv r6) S callee48 (S1.quiet [0] rfl) (fun E1 w1 S1 => c_raddleref25_All E1 w1 p0 (.slice ad1 p0.length cp2) r6 hx7 S1) fun a w S => ?_
  refine sN S fun a S => ?_
  refine sN S fun a S => ?_
  refine lT (hK9 _ _ ?_)
  obtain rfl := tS h
  exact wp_ret (rThen (sRet (.tuple #[iv 0, iv r6]) S (rsl2 rfl (rvT (t := 2) (v := iv 0) S rfl) (rvT (t := 3) (v := iv r6) S rfl)) ⟨(), rfl, S.mem.sel [] [] (by decide) rfl rfl⟩))
 refine sCondF S rfl hc8 ?_
 refine wp_skip (leafT (hK4 _ _ ?_))
 refine sSeq (fun a7 a4 => sRegion (sM S fun a S => ?_))
 obtain ⟨a0, a5, h⟩ := bS h
 have S1 := S.mem
 refine sCq [.slice ad1 p0.length cp2] (.tuple #[iv a0.1, iv a0.2]) S callee49 (S1.quiet [0] rfl) (fun E1 w1 S1 => c_raddleref25_sums E1 w1 p0 (.slice ad1 p0.length cp2) a0 a5 S1) fun a w S => ?_
 refine sM S fun a S => ?_
 refine sExtract (vs := [iv a0.1, iv a0.2]) (iv a0.1) S (wN rfl) rfl rfl rfl rfl (lb rfl) fun a S => ?_
 refine sExtract (vs := [iv a0.1, iv a0.2]) (iv a0.2) S (wN rfl) rfl rfl rfl rfl (lb rfl) fun a S => ?_
 refine sN S fun a S => ?_
 refine sN S fun a S => ?_
 refine lT (a4 _ _ (sSeq (fun a8 a6 => sRegion (sM S fun a S => ?_))))
 refine sN S fun a S => ?_
 refine sN S fun a S => ?_
 refine lT (a6 _ _ ?_)
 obtain rfl := tS h
 exact wp_ret (sRet (.tuple #[iv a0.2, iv 0]) S (rsl2 rfl (rvT (t := 2) (v := iv a0.2) S rfl) (rvT (t := 3) (v := iv 0) S rfl)) ⟨(), rfl, S.mem.sel [] [] (by decide) rfl rfl⟩)
theorem uses_eq {l : List api_Stitch} (hw : ∀ p, p ∈ l → wfS p) : F_stitch_Uses l = some (if allS l = 0 then (sm usedS l, 0) else (0, allS l)) := by
 unfold F_stitch_Uses
 rw [all_eq hw, Option.bind_some]
 by_cases h : allS l = 0
 ·simp only [nF h, Bool.false_eq_true, if_false, sum_eq (allS_ok h).2.1 (show l.length ≤ 100000 by have := (allS_ok h).1; omega), Option.bind_some, if_pos h]
 ·simp only [nT h, if_true, if_neg h]
theorem makes_eq {l : List api_Stitch} (hw : ∀ p, p ∈ l → wfS p) : F_stitch_Makes l = some (if allS l = 0 then (sm madeS l, 0) else (0, allS l)) := by
 unfold F_stitch_Makes
 rw [all_eq hw, Option.bind_some]
 by_cases h : allS l = 0
 ·simp only [nF h, Bool.false_eq_true, if_false, sum_eq (allS_ok h).2.1 (show l.length ≤ 100000 by have := (allS_ok h).1; omega), Option.bind_some, if_pos h]
 ·simp only [nT h, if_true, if_neg h]
theorem ruses_eq (l : List api_Stitch) : F_raddleref25_Uses l = some (if allS l = 0 then (sm usedS l, 0) else (0, allS l)) := by
 unfold F_raddleref25_Uses
 rw [rall_eq, Option.bind_some]
 by_cases h : allS l = 0
 ·simp only [nF h, Bool.false_eq_true, if_false, rsums_eq (allS_ok h).2.1 (show l.length ≤ 100000 by have := (allS_ok h).1; omega), Option.bind_some, if_pos h]
 ·simp only [nT h, if_true, if_neg h]
theorem rmakes_eq (l : List api_Stitch) : F_raddleref25_Makes l = some (if allS l = 0 then (sm madeS l, 0) else (0, allS l)) := by
 unfold F_raddleref25_Makes
 rw [rall_eq, Option.bind_some]
 by_cases h : allS l = 0
 ·simp only [nF h, Bool.false_eq_true, if_false, rsums_eq (allS_ok h).2.1 (show l.length ≤ 100000 by have := (allS_ok h).1; omega), Option.bind_some, if_pos h]
 ·simp only [nT h, if_true, if_neg h]
noncomputable def raddleref26_Check_l1 (p0 : api_Chart) : (Int × Int) → Option ((Int × Int) ⊕ (Int ⊕ Unit)) := fun s0 => match s0 with
 | (a6, a0) =>
  if decide (a0 < (p0.Rows.length : Int)) then
   (idxO p0.Rows a0).bind fun a5 =>
   (F_raddleref25_Uses a5.Cells).bind fun a4 =>
   if a4.2 != 0 then
    some (.inr (.inl a4.2))
   else
    if a4.1 != a6 then
     some (.inr (.inl 26))
    else
     (F_raddleref25_Makes a5.Cells).bind fun a7 =>
     some (.inl (a7.1, w64 (a0 + 1)))
  else
   some (.inr (.inr ()))
noncomputable def F_raddleref26_Check (p0 : api_Chart) : Option Int :=
 if decide (100 < (p0.Rows.length : Int)) then
  some 4
 else
  Option.bind (α := Bool) (
   if decide (p0.Start < 0) then
    some true
   else
    some (decide (200 < p0.Start))) fun a0 =>
  if a0 then
   some 8
  else
   Option.bind (α := Unit ⊕ Int) (
    (whileO (raddleref26_Check_l1 p0) (p0.Start, 0)).bind fun z0 => match z0 with
     | .inl z =>
      some (.inr z)
     | .inr _ =>
      some (.inl ())) fun z0 => match z0 with
    | .inl _ =>
     some 0
    | .inr z =>
     some z
theorem c_raddleref26_Check (E : Nat → Prop) (w0 : World) (p0 : api_Chart) (v0 : Value) (r : Int) (h : F_raddleref26_Check p0 = some r) (S : St0 E [] w0 w0 [] [fRep r_api_Chart (v0) p0]) :
 Calls Try.prog 21 #[v0] w0 (Ret (X := Unit) E [] w0 (fun _ => .int .i64 r) (fun _ => []) (fun _ => [])) := by
 unfold F_raddleref26_Check at h
 obtain ⟨u1, rfl, hu2⟩ := S.know (i := 0) (e := fRep r_api_Chart (v0) p0) rfl
 have S := S.learn (fRep (rL r_api_Row) u1 p0.Rows) hu2
 obtain ⟨ad3, cp4, _, rfl, _⟩ := hu2
 refine sEnter (args := [.agg #[iv p0.Start, .slice ad3 p0.Rows.length cp4]]) 54 Try.func21 rfl rfl (by simp) S (fun a S => ?_)
 refine sSeq (fun K5 hK5 => sRegion (sBox (v := .agg #[iv p0.Start, .slice ad3 p0.Rows.length cp4]) S (wN rfl) rfl rfl [iv p0.Start, .slice ad3 p0.Rows.length cp4] rfl rfl (lb rfl) fun a b6 w S => ?_))
 refine sN S fun a S => ?_
 refine lT (hK5 _ _ (sSeq (fun K7 hK7 => sSeq (fun K8 hK8 => sRegion (sField (b := b6) (off := 0) 1 1 S (wN rfl) rfl rfl rfl rfl rfl (lb rfl) fun a S => ?_)))))
 refine sLoad1 0 (.slice ad3 p0.Rows.length cp4) S (wN rfl) rfl rfl rfl rfl rfl rfl (lb rfl) fun a S => ?_
 refine sLen S (wN rfl) rfl Try.underlying22 rfl rfl (lb rfl) fun a S => ?_
 refine sBin _ S (wN rfl) rfl rfl rfl (bGt _ _ _ _ .i64 (p0.Rows.length : Int) 100) rfl (lb rfl) fun a S => ?_
 refine lT (hK8 _ _ ?_)
 rcases iS h with ⟨hc9, h⟩ | ⟨hc9, h⟩
 ·refine sCondT S rfl hc9 ?_
  refine sSeq (fun bb aj => sRegion (sN S fun a S => ?_))
  refine lT (aj _ _ ?_)
  obtain rfl := tS h
  exact wp_ret (rThen (sRet (iv 4) S (rsl1 rfl (rvT (t := 2) (v := iv 4) S rfl)) ⟨(), rfl, S.mem.sel [] [] (by decide) rfl rfl⟩))
 refine sCondF S rfl hc9 ?_
 refine wp_skip (leafT (hK7 _ _ ?_))
 refine sSeq (fun bc ak => ?_)
 obtain ⟨aV, h, aW⟩ := bS h
 refine sCut (fun a w => ∃ al, al = aV ∧ St [] E [] w0 54 a w [(1, .pointer (some ⟨b6, 0, none⟩)), (18, .bool al)] [eBox b6 24 [iv p0.Start, .slice ad3 p0.Rows.length cp4]] [fRep (rL r_api_Row) (.slice ad3 p0.Rows.length cp4) p0.Rows]) ?_ (fun a w hI => ?_)
 ·refine sRegion (sField (b := b6) (off := 0) 0 0 S (wN rfl) rfl rfl rfl rfl rfl (lb rfl) fun a S => ?_)
  refine sLoad1 0 (iv p0.Start) S (wN rfl) rfl rfl rfl rfl rfl rfl (lb rfl) fun a S => ?_
  refine sBin _ S (wN rfl) rfl rfl rfl (bLt _ _ _ _ .i64 p0.Start 0) rfl (lb rfl) fun a S => ?_
  refine sM S fun a S => ?_
  rcases iS h with ⟨a0, h⟩ | ⟨a0, h⟩
  ·refine sSkN 3 3 false 14 S rfl rfl a0 rfl fun a S => ?_
   refine sPickT (.bool true) S (wN rfl) rfl rfl a0 rfl rfl (lb rfl) fun a S => ?_
   exact lT (⟨true, Option.some.inj h, S.fix [0] [0] (by decide) rfl rfl rfl⟩)
  refine sField (b := b6) (off := 0) 0 0 S (wG 3 false 14 rfl rfl rfl a0) rfl rfl rfl rfl rfl (lb rfl) fun a S => ?_
  refine sLoad1 0 (iv p0.Start) S (wG 3 false 14 rfl rfl rfl a0) rfl rfl rfl rfl rfl rfl (lb rfl) fun a S => ?_
  refine sBin _ S (wG 3 false 14 rfl rfl rfl a0) rfl rfl rfl (bGt _ _ _ _ .i64 p0.Start 200) rfl (lb rfl) fun a S => ?_
  refine sPickF (.bool (decide (200 < p0.Start))) S (wN rfl) rfl rfl a0 rfl rfl (lb rfl) fun a S => ?_
  exact lT (⟨decide (200 < p0.Start), Option.some.inj h, S.fix [0] [0] (by decide) rfl rfl rfl⟩)
 obtain ⟨al, rfl, S⟩ := hI
 have h := aW
 try dsimp only at h
 rcases iS h with ⟨a7, h⟩ | ⟨a7, h⟩
 ·refine sCondT S rfl a7 ?_
  refine sSeq (fun bf am => sRegion (sN S fun a S => ?_))
  refine lT (am _ _ ?_)
  obtain rfl := tS h
  exact wp_ret (rThen (sRet (iv 8) S (rsl1 rfl (rvT (t := 2) (v := iv 8) S rfl)) ⟨(), rfl, S.mem.sel [] [] (by decide) rfl rfl⟩))
 refine sCondF S rfl a7 ?_
 refine wp_skip (leafT (ak _ _ ?_))
 refine sSeq (fun bg ao => sRegion (sField (b := b6) (off := 0) 0 0 S (wN rfl) rfl rfl rfl rfl rfl (lb rfl) fun a S => ?_))
 refine sLoad1 0 (iv p0.Start) S (wN rfl) rfl rfl rfl rfl rfl rfl (lb rfl) fun a S => ?_
 refine sN S fun a S => ?_
 refine lT (ao _ _ ?_)
 obtain ⟨aX, h, ap⟩ := bS h
 refine sCut (fun a w => .inl () = aX ∧ St [] E [] w0 54 a w [] [] []) ?_ (fun a w hI => ?_)
 rotate_left
 ·obtain ⟨rfl, S⟩ := hI
  have h := ap
  try dsimp only at h
  refine sSeq (fun bh aq => sRegion (sN S fun a S => ?_))
  refine lT (aq _ _ ?_)
  obtain rfl := tS h
  exact wp_ret (sRet (iv 0) S (rsl1 rfl (rvT (t := 2) (v := iv 0) S rfl)) ⟨(), rfl, S.mem.sel [] [] (by decide) rfl rfl⟩)
 refine sSeq (fun bi ar => sRegion (sN S fun a S => ?_))
 refine lT (ar _ _ (wp_block ?_))
 obtain ⟨bj, hl, au⟩ := bS h
 refine sLoop hl (fun s0 a w => match s0 with | (av, a8) => St [] E [] w0 54 a w [(1, .pointer (some ⟨b6, 0, none⟩)), (3, iv av), (4, iv a8)] [eBox b6 24 [iv p0.Start, .slice ad3 p0.Rows.length cp4]] [fRep (rL r_api_Row) (.slice ad3 p0.Rows.length cp4) p0.Rows]) (S.fix [0] [0] (by decide) rfl rfl rfl) ?_
 clear hl h
 intro s0 a w c0 hI h a9
 obtain ⟨av, a8⟩ := s0
 unfold raddleref26_Check_l1 at h
 dsimp only at h hI
 have S := hI
 refine sSeq (fun bl aw => sSeq (fun bm ax => sRegion (sM S fun a S => ?_)))
 refine sField (b := b6) (off := 0) 1 1 S (wN rfl) rfl rfl rfl rfl rfl (lb rfl) fun a S => ?_
 refine sLoad1 0 (.slice ad3 p0.Rows.length cp4) S (wN rfl) rfl rfl rfl rfl rfl rfl (lb rfl) fun a S => ?_
 refine sLen S (wN rfl) rfl Try.underlying22 rfl rfl (lb rfl) fun a S => ?_
 refine sBin _ S (wN rfl) rfl rfl rfl (bLt _ _ _ _ .i64 a8 (p0.Rows.length : Int)) rfl (lb rfl) fun a S => ?_
 refine lT (ax _ _ ?_)
 rcases iS h with ⟨aa, h⟩ | ⟨aa, h⟩
 rotate_left
 ·refine sCondF S rfl aa ?_
  obtain rfl := tS h
  obtain rfl := a9 _ rfl
  have h := au
  try dsimp only at h
  exact wp_exit (xThen (xThen (xHit (leafT (⟨Option.some.inj h, S.fix [] [] (by decide) rfl rfl rfl⟩)))))
 refine sCondT S rfl aa ?_
 refine wp_skip (leafT (aw _ _ ?_))
 refine sSeq (fun bn ay => wp_block ?_)
 refine sSeq (fun bo az => sRegion (sField (b := b6) (off := 0) 1 1 S (wN rfl) rfl rfl rfl rfl rfl (lb rfl) fun a S => ?_))
 refine sLoad1 0 (.slice ad3 p0.Rows.length cp4) S (wN rfl) rfl rfl rfl rfl rfl rfl (lb rfl) fun a S => ?_
 refine sM S fun a S => ?_
 obtain ⟨a4, ai, h⟩ := bS h
 obtain ⟨aR, aA, S⟩ := pIdx (P := Try.prog) (r := r_api_Row) (v := .slice ad3 p0.Rows.length cp4) (xs := p0.Rows) (j := a8) 22 65 0 S Try.underlying22 rfl rfl ai
 refine sIdxV S (wN rfl) rfl rfl rfl aA rfl (lb rfl) fun a S => ?_
 obtain ⟨aS, aC, S⟩ := pFld (P := Try.prog) (r := r_api_Row) (s2 := (rL r_api_Stitch)) (g := (·.Cells)) (q := aR) (z := a4) 65 1 0 1 S rfl rfl comp_api_Row_Cells
 refine sFldV (q := aR) S (wN rfl) rfl rfl aC rfl (lb rfl) fun a S => ?_
 obtain ⟨aZ, S⟩ := pLoad (r := (rL r_api_Stitch)) (q := aS) (x := a4.Cells) 0 S rfl
 obtain ⟨ab, ac, _, rfl, _⟩ := S.mem.know (i := 1) (e := fRep (rL r_api_Stitch) (aZ) a4.Cells) rfl
 refine sLoadV1 (vq := aS) 0 (.slice ab a4.Cells.length ac) S (wN rfl) rfl rfl rfl rfl rfl (lb rfl) fun a S => ?_
 obtain ⟨a5, aG, h⟩ := bS h
 have S1 := S.mem
 refine sCq [.slice ab a4.Cells.length ac] (.tuple #[iv a5.1, iv a5.2]) S callee35 (S1.quiet [1] rfl) (fun E1 w1 S1 => c_raddleref25_Uses E1 w1 a4.Cells (.slice ab a4.Cells.length ac) a5 aG S1) fun a w S => ?_
 refine sM S fun a S => ?_
 refine sExtract (vs := [iv a5.1, iv a5.2]) (iv a5.1) S (wN rfl) rfl rfl rfl rfl (lb rfl) fun a S => ?_
 refine sExtract (vs := [iv a5.1, iv a5.2]) (iv a5.2) S (wN rfl) rfl rfl rfl rfl (lb rfl) fun a S => ?_
 refine sN S fun a S => ?_
 refine sN S fun a S => ?_
 refine lT (az _ _ (sSeq (fun bp aH => sSeq (fun bq aI => sRegion (sM S fun a S => ?_)))))
 refine sBin _ S (wN rfl) rfl rfl rfl (bNe _ _ _ _ .i64 a5.2 0) rfl (lb rfl) fun a S => ?_
 refine lT (aI _ _ ?_)
 rcases iS h with ⟨ae, h⟩ | ⟨ae, h⟩
 ·refine sCondT S rfl ae ?_
  refine sSeq (fun br aJ => sRegion (sM S fun a S => ?_))
  refine sN S fun a S => ?_
  refine lT (aJ _ _ ?_)
  obtain rfl := tS h
  obtain rfl := a9 _ rfl
  have h := au
  try dsimp only at h
  obtain rfl := tS h
  have h := ap
  try dsimp only at h
  obtain rfl := tS h
  exact wp_ret (rThen (rBlock (rThen (rThen (rBlock (rThen (sRet (iv a5.2) S (rsl1 rfl (rvT (t := 2) (v := iv a5.2) S rfl)) ⟨(), rfl, S.mem.sel [] [] (by decide) rfl rfl⟩)))))))
 refine sCondF S rfl ae ?_
 refine wp_skip (leafT (aH _ _ ?_))
 refine sSeq (fun bt aK => sSeq (fun bu aL => sRegion (sM S fun a S => ?_)))
 refine sM S fun a S => ?_
 refine sBin _ S (wN rfl) rfl rfl rfl (bNe _ _ _ _ .i64 a5.1 av) rfl (lb rfl) fun a S => ?_
 refine lT (aL _ _ ?_)
 rcases iS h with ⟨af, h⟩ | ⟨af, h⟩
 ·refine sCondT S rfl af ?_
  refine sSeq (fun bv aM => sRegion (sN S fun a S => ?_))
  refine lT (aM _ _ ?_)
  obtain rfl := tS h
  obtain rfl := a9 _ rfl
  have h := au
  try dsimp only at h
  obtain rfl := tS h
  have h := ap
  try dsimp only at h
  obtain rfl := tS h
  exact wp_ret (rThen (rBlock (rThen (rThen (rBlock (rThen (sRet (iv 26) S (rsl1 rfl (rvT (t := 2) (v := iv 26) S rfl)) ⟨(), rfl, S.mem.sel [] [] (by decide) rfl rfl⟩)))))))
 refine sCondF S rfl af ?_
 refine wp_skip (leafT (aK _ _ ?_))
 refine sRegion (sField (b := b6) (off := 0) 1 1 S (wN rfl) rfl rfl rfl rfl rfl (lb rfl) fun a S => ?_)
 refine sLoad1 0 (.slice ad3 p0.Rows.length cp4) S (wN rfl) rfl rfl rfl rfl rfl rfl (lb rfl) fun a S => ?_
 refine sM S fun a S => ?_
 obtain ⟨aT, aO, S⟩ := pIdx (P := Try.prog) (r := r_api_Row) (v := .slice ad3 p0.Rows.length cp4) (xs := p0.Rows) (j := a8) 22 65 4 S Try.underlying22 rfl rfl ai
 refine sIdxV S (wN rfl) rfl rfl rfl aO rfl (lb rfl) fun a S => ?_
 obtain ⟨aU, aP, S⟩ := pFld (P := Try.prog) (r := r_api_Row) (s2 := (rL r_api_Stitch)) (g := (·.Cells)) (q := aT) (z := a4) 65 1 0 1 S rfl rfl comp_api_Row_Cells
 refine sFldV (q := aT) S (wN rfl) rfl rfl aP rfl (lb rfl) fun a S => ?_
 obtain ⟨ba, S⟩ := pLoad (r := (rL r_api_Stitch)) (q := aU) (x := a4.Cells) 0 S rfl
 obtain ⟨ag, ah, _, rfl, _⟩ := S.mem.know (i := 1) (e := fRep (rL r_api_Stitch) (ba) a4.Cells) rfl
 refine sLoadV1 (vq := aU) 0 (.slice ag a4.Cells.length ah) S (wN rfl) rfl rfl rfl rfl rfl (lb rfl) fun a S => ?_
 obtain ⟨a6, aQ, h⟩ := bS h
 have S1 := S.mem
 refine sCq [.slice ag a4.Cells.length ah] (.tuple #[iv a6.1, iv a6.2]) S callee36 (S1.quiet [1] rfl) (fun E1 w1 S1 => c_raddleref25_Makes E1 w1 a4.Cells (.slice ag a4.Cells.length ah) a6 aQ S1) fun a w S => ?_
 refine sM S fun a S => ?_
 refine sExtract (vs := [iv a6.1, iv a6.2]) (iv a6.1) S (wN rfl) rfl rfl rfl rfl (lb rfl) fun a S => ?_
 refine sExtract (vs := [iv a6.1, iv a6.2]) (iv a6.2) S (wN rfl) rfl rfl rfl rfl (lb rfl) fun a S => ?_
 refine sN S fun a S => ?_
 refine leafL (leafB (leafT (ay _ _ ?_)))
 refine sRegion (sM S fun a S => ?_)
 refine sBin _ S (wN rfl) rfl rfl rfl (bAdd _ _ _ _ a8 1) rfl (lb rfl) fun a S => ?_
 refine sN S fun a S => ?_
 exact lT (⟨(a6.1, w64 (a8 + 1)), (Option.some.inj h).symm, (S.fix [0] [8] (by decide) rfl rfl rfl)⟩)
def wfR (rows : List api_Row) : Prop := ∀ r, r ∈ rows → ∀ p, p ∈ r.Cells → wfS p
def chkR : Int → List api_Row → Int
 | _, [] => 0
 | n, r :: rs => if allS r.Cells ≠ 0 then allS r.Cells else if sm usedS r.Cells ≠ n then 26 else chkR (sm madeS r.Cells) rs
def ctl : Nat → Int → List api_Row → List (Int × chart_count)
 | _, _, [] => []
 | i, n, r :: rs => if allS r.Cells ≠ 0 then [((i : Int), ⟨n, 0, allS r.Cells⟩)] else if sm usedS r.Cells ≠ n then [((i : Int), ⟨n, 0, 26⟩)] else ((i : Int), ⟨n, sm madeS r.Cells, 0⟩) :: ctl (i + 1) (sm madeS r.Cells) rs
theorem counted_loop {σ τ : Type} (c : api_Chart) (hw : wfR c.Rows) (hl : c.Rows.length ≤ 1000000000) (B : σ → (Int × chart_count) → Option (σ ⊕ τ)) : ∀ (rs : List api_Row) (i : Nat) (n : Int) (z : σ), c.Rows.drop i = rs → (whileO (chart_counted_1_l1 c B) (n, (i : Int), z)).bind fin3 = foldO B z (ctl i n rs) := by
 intro rs
 induction rs with
 | nil =>
  intro i n z hd
  have hi : c.Rows.length ≤ i := by
   have := congrArg List.length hd
   simp at this; omega
  have : chart_counted_1_l1 c B (n, (i : Int), z) = some (.inr (.inr z)) := by
   unfold chart_counted_1_l1
   simp only [dF (show ¬ (i : Int) < (c.Rows.length : Int) by omega), Bool.false_eq_true, if_false]
  rw [whileO_done this]
  rfl
 | cons r rs ih =>
  intro i n z hd
  have hi : i < c.Rows.length := by
   have := congrArg List.length hd
   simp at this; omega
  have hr : c.Rows[i] = r := by
   have := List.getElem_drop (xs := c.Rows) (i := i) (j := 0) (h := by rw [hd]; simp)
   simp only [hd, List.getElem_cons_zero, Nat.add_zero] at this
   exact this.symm
  have hrs : c.Rows.drop (i + 1) = rs := by
   rw [← List.drop_drop, hd]; rfl
  have hwr : ∀ p, p ∈ r.Cells → wfS p := hw r (hr ▸ List.getElem_mem hi)
  have hs : w64 ((i : Int) + 1) = ((i + 1 : Nat) : Int) := w64_succ (by omega)
  simp only [ctl]
  by_cases ha : allS r.Cells = 0
  ·have eu : F_stitch_Uses r.Cells = some (sm usedS r.Cells, 0) := by rw [uses_eq hwr, if_pos ha]
   have em : F_stitch_Makes r.Cells = some (sm madeS r.Cells, 0) := by rw [makes_eq hwr, if_pos ha]
   rw [if_neg (by simp [ha])]
   by_cases hu : sm usedS r.Cells = n
   ·have e1 : chart_counted_1_l1 c B (n, (i : Int), z) = (B z ((i : Int), ⟨n, sm madeS r.Cells, 0⟩)).bind fun y => match y with | .inl z' => some (.inl (sm madeS r.Cells, ((i + 1 : Nat) : Int), z')) | .inr t => some (.inr (.inl (.inr t))) := by
     unfold chart_counted_1_l1
     simp only [dT (show (i : Int) < (c.Rows.length : Int) by omega), if_true, idxO_nat hi, hr, Option.bind_some, eu, em, bne_self_eq_false, Bool.false_eq_true, if_false, nF hu, hs]
     try congr 1
    rw [if_neg (by simp [hu]), whileO_eq, e1, foldO]
    cases hb : B z ((i : Int), ⟨n, sm madeS r.Cells, 0⟩) with
    | none => rfl
    | some y =>
     cases y with
     | inl z' => exact ih (i + 1) (sm madeS r.Cells) z' hrs
     | inr t => rfl
   ·have e1 : chart_counted_1_l1 c B (n, (i : Int), z) = (B z ((i : Int), ⟨n, 0, 26⟩)).bind fun y => match y with | .inl z' => some (.inr (.inl (.inl z'))) | .inr t => some (.inr (.inl (.inr t))) := by
     unfold chart_counted_1_l1
     simp only [dT (show (i : Int) < (c.Rows.length : Int) by omega), if_true, idxO_nat hi, hr, Option.bind_some, eu, em, bne_self_eq_false, Bool.false_eq_true, if_false, nT hu, nT (show ¬ (26 : Int) = 0 by omega)]
     try congr 1
    rw [if_pos (by simp [hu]), whileO_eq, e1, foldO]
    cases hb : B z ((i : Int), ⟨n, 0, 26⟩) with
    | none => rfl
    | some y => cases y <;> rfl
  ·have eu : F_stitch_Uses r.Cells = some (0, allS r.Cells) := by rw [uses_eq hwr, if_neg ha]
   have e1 : chart_counted_1_l1 c B (n, (i : Int), z) = (B z ((i : Int), ⟨n, 0, allS r.Cells⟩)).bind fun y => match y with | .inl z' => some (.inr (.inl (.inl z'))) | .inr t => some (.inr (.inl (.inr t))) := by
    unfold chart_counted_1_l1
    simp only [dT (show (i : Int) < (c.Rows.length : Int) by omega), if_true, idxO_nat hi, hr, Option.bind_some, eu, nT ha]
    try congr 1
   rw [if_pos (by simp [ha]), whileO_eq, e1, foldO]
   cases hb : B z ((i : Int), ⟨n, 0, allS r.Cells⟩) with
   | none => rfl
   | some y => cases y <;> rfl
theorem chcount_eq {σ τ : Type} (c : api_Chart) (hw : wfR c.Rows) (hl : c.Rows.length ≤ 1000000000) (B : σ → (Int × chart_count) → Option (σ ⊕ τ)) (z : σ) : I_chart_counted_1 c σ τ B z = foldO B z (ctl 0 c.Start c.Rows) := by
 rw [← counted_loop c hw hl B c.Rows 0 c.Start z rfl]
 unfold I_chart_counted_1
 try congr 1
def chk (c : api_Chart) : Int := if 100 < c.Rows.length then 4 else if c.Start < 0 ∨ 200 < c.Start then 8 else chkR c.Start c.Rows
theorem check_fold : ∀ (rs : List api_Row) (i : Nat) (n : Int), foldO chart_Check_l2 () (ctl i n rs) = some (if chkR n rs = 0 then .inl () else .inr (chkR n rs)) := by
 intro rs
 induction rs with
 | nil => intro i n; rfl
 | cons r rs ih =>
  intro i n
  simp only [ctl, chkR]
  by_cases ha : allS r.Cells = 0
  ·simp only [ha, ne_eq, not_true_eq_false, if_false]
   by_cases hu : sm usedS r.Cells = n
   ·simp only [hu, not_true_eq_false, if_false, foldO, chart_Check_l2, bne_self_eq_false, Bool.false_eq_true, Option.bind_some]
    exact ih _ _
   ·simp only [hu, not_false_eq_true, if_true, foldO, chart_Check_l2, nT (show ¬ (26 : Int) = 0 by omega), Option.bind_some]
    rfl
  ·simp only [ha, ne_eq, not_false_eq_true, if_true, foldO, chart_Check_l2, nT ha, Option.bind_some, if_false]
theorem chart_check_eq (c : api_Chart) (hw : wfR c.Rows) : F_chart_Check c = some (chk c) := by
 unfold F_chart_Check chk F_chart_counted
 by_cases h1 : 100 < c.Rows.length
 ·simp only [dT (show (100 : Int) < (c.Rows.length : Int) by omega), if_true, if_pos h1]
 simp only [dF (show ¬ (100 : Int) < (c.Rows.length : Int) by omega), Bool.false_eq_true, if_false, if_neg h1, Option.bind_some, chcount_eq c hw (show c.Rows.length ≤ 1000000000 by omega), check_fold]
 by_cases h2 : c.Start < 0
 ·simp [h2]
 by_cases h3 : 200 < c.Start
 ·simp [h2, h3]
 by_cases h4 : chkR c.Start c.Rows = 0 <;> simp [h2, h3, h4]
theorem rchart_loop (c : api_Chart) (hl : c.Rows.length ≤ 1000000000) : ∀ (rs : List api_Row) (i : Nat) (n : Int), c.Rows.drop i = rs → whileO (raddleref26_Check_l1 c) (n, (i : Int)) = some (if chkR n rs = 0 then .inr () else .inl (chkR n rs)) := by
 intro rs
 induction rs with
 | nil =>
  intro i n hd
  have hi : c.Rows.length ≤ i := by
   have := congrArg List.length hd
   simp at this; omega
  have : raddleref26_Check_l1 c (n, (i : Int)) = some (.inr (.inr ())) := by
   unfold raddleref26_Check_l1
   simp only [dF (show ¬ (i : Int) < (c.Rows.length : Int) by omega), Bool.false_eq_true, if_false]
  rw [whileO_done this]
  rfl
 | cons r rs ih =>
  intro i n hd
  have hi : i < c.Rows.length := by
   have := congrArg List.length hd
   simp at this; omega
  have hr : c.Rows[i] = r := by
   have := List.getElem_drop (xs := c.Rows) (i := i) (j := 0) (h := by rw [hd]; simp)
   simp only [hd, List.getElem_cons_zero, Nat.add_zero] at this
   exact this.symm
  have hrs : c.Rows.drop (i + 1) = rs := by
   rw [← List.drop_drop, hd]; rfl
  have hs : w64 ((i : Int) + 1) = ((i + 1 : Nat) : Int) := w64_succ (by omega)
  by_cases ha : allS r.Cells = 0
  ·have eu : F_raddleref25_Uses r.Cells = some (sm usedS r.Cells, 0) := by rw [ruses_eq, if_pos ha]
   have em : F_raddleref25_Makes r.Cells = some (sm madeS r.Cells, 0) := by rw [rmakes_eq, if_pos ha]
   by_cases hu : sm usedS r.Cells = n
   ·have e1 : raddleref26_Check_l1 c (n, (i : Int)) = some (.inl (sm madeS r.Cells, ((i + 1 : Nat) : Int))) := by
     unfold raddleref26_Check_l1
     simp only [dT (show (i : Int) < (c.Rows.length : Int) by omega), if_true, idxO_nat hi, hr, Option.bind_some, eu, em, bne_self_eq_false, Bool.false_eq_true, if_false, nF hu, hs]
    have hc : chkR n (r :: rs) = chkR (sm madeS r.Cells) rs := by simp [chkR, ha, hu]
    rw [whileO_step e1, ih (i + 1) (sm madeS r.Cells) hrs, hc]
   ·have e1 : raddleref26_Check_l1 c (n, (i : Int)) = some (.inr (.inl 26)) := by
     unfold raddleref26_Check_l1
     simp only [dT (show (i : Int) < (c.Rows.length : Int) by omega), if_true, idxO_nat hi, hr, Option.bind_some, eu, em, bne_self_eq_false, Bool.false_eq_true, if_false, nT hu]
    have hc : chkR n (r :: rs) = 26 := by simp [chkR, ha, hu]
    rw [whileO_done e1, hc]
    rfl
  ·have eu : F_raddleref25_Uses r.Cells = some (0, allS r.Cells) := by rw [ruses_eq, if_neg ha]
   have e1 : raddleref26_Check_l1 c (n, (i : Int)) = some (.inr (.inl (allS r.Cells))) := by
    unfold raddleref26_Check_l1
    simp only [dT (show (i : Int) < (c.Rows.length : Int) by omega), if_true, idxO_nat hi, hr, Option.bind_some, eu, nT ha]
   have hc : chkR n (r :: rs) = allS r.Cells := by simp [chkR, ha]
   rw [whileO_done e1, hc, if_neg ha]
theorem rchart_check_eq (c : api_Chart) : F_raddleref26_Check c = some (chk c) := by
 unfold F_raddleref26_Check chk
 by_cases h1 : 100 < c.Rows.length
 ·simp only [dT (show (100 : Int) < (c.Rows.length : Int) by omega), if_true, if_pos h1]
 simp only [dF (show ¬ (100 : Int) < (c.Rows.length : Int) by omega), Bool.false_eq_true, if_false, if_neg h1]
 have hloop := rchart_loop c (by omega) c.Rows 0 c.Start rfl
 have h0 : ((0 : Nat) : Int) = 0 := rfl
 rw [h0] at hloop
 rw [hloop]
 by_cases h2 : c.Start < 0
 ·simp [h2]
 by_cases h3 : 200 < c.Start
 ·simp [h2, h3]
 by_cases h4 : chkR c.Start c.Rows = 0 <;> simp [h2, h3, h4]
theorem chk_ok {c : api_Chart} (h : chk c = 0) : c.Rows.length ≤ 100 ∧ 0 ≤ c.Start ∧ c.Start ≤ 200 ∧ chkR c.Start c.Rows = 0 := by
 unfold chk at h
 split at h
 ·omega
 ·split at h
  ·omega
  ·rename_i h1 h2
   exact ⟨by omega, by omega, by omega, h⟩
theorem chkR_cons {n : Int} {r : api_Row} {rs : List api_Row} : chkR n (r :: rs) = 0 ↔ allS r.Cells = 0 ∧ sm usedS r.Cells = n ∧ chkR (sm madeS r.Cells) rs = 0 := by
 simp only [chkR]
 by_cases ha : allS r.Cells = 0
 ·by_cases hu : sm usedS r.Cells = n
  ·simp [ha, hu]
  ·simp [ha, hu]
 ·simp [ha]
theorem chkR_mem : ∀ {rs : List api_Row} {n : Int}, chkR n rs = 0 → ∀ r, r ∈ rs → allS r.Cells = 0 := by
 intro rs
 induction rs with
 | nil => intro n _ r hr; cases hr
 | cons x rs ih =>
  intro n h r hr
  obtain ⟨h1, h2, h3⟩ := chkR_cons.1 h
  rcases List.mem_cons.1 hr with rfl | hr
  ·exact h1
  ·exact ih h3 r hr
theorem wfR_of {c : api_Chart} (h : wf_api_Chart c) : wfR c.Rows := fun r hr p hp => inK_u8 ((((h.2.2 r hr).2).2 p hp).1)
theorem loop_seq {S τ : Type} {B : S → Option (S ⊕ τ)} (c : Nat → S) (n : Nat) {t : τ} (h : ∀ k, k < n → B (c k) = some (.inl (c (k + 1)))) (hn : B (c n) = some (.inr t)) : whileO B (c 0) = some t := by
 have key : ∀ j k, j + k = n → whileO B (c k) = some t := by
  intro j
  induction j with
  | zero =>
   intro k hk
   obtain rfl : k = n := by omega
   exact whileO_done hn
  | succ j ih =>
   intro k hk
   rw [whileO_step (h k (by omega))]
   exact ih _ (by omega)
 exact key n 0 (by omega)
theorem loop_same {τ : Type} {B : Int → Option (Int ⊕ τ)} (n : Nat) (good : τ) (h : ∀ k, k < n → B (k : Int) = some (.inl ((k + 1 : Nat) : Int))) (hn : B (n : Int) = some (.inr good)) : whileO B 0 = some good :=
 loop_seq (fun k => (k : Int)) n h hn
def ups (u k : Nat) : List Int := (List.range k).map fun i => ((u + i : Nat) : Int)
theorem ups_len (u k : Nat) : (ups u k).length = k := by simp [ups]
theorem ups_mem {u k : Nat} {x : Int} : x ∈ ups u k ↔ (u : Int) ≤ x ∧ x < ((u + k : Nat) : Int) := by
 simp only [ups, List.mem_map, List.mem_range]
 constructor
 ·rintro ⟨i, hi, rfl⟩; omega
 ·intro h; exact ⟨(x - u).toNat, by omega, by omega⟩
theorem ups_get {u k j : Nat} (h : j < (ups u k).length) : (ups u k)[j] = ((u + j : Nat) : Int) := by simp [ups]
theorem ups_succ (u k : Nat) : ups u (k + 1) = ups u k ++ [((u + k : Nat) : Int)] := by simp [ups, List.range_succ]
theorem ups_nodup (u k : Nat) : (ups u k).Nodup := by
 rw [List.nodup_iff_pairwise_ne]
 refine List.pairwise_map.2 (List.Pairwise.imp ?_ (List.pairwise_lt_range (n := k)))
 intro a b h; omega
theorem knd {p : api_Stitch} (h : okS p) : (∃ b, p = ⟨1, b, 0, 0⟩) ∨ (∃ b, p = ⟨8, b, 0, 0⟩) ∨ p = ⟨2, false, 0, 0⟩ ∨ (∃ b, ∃ a : Nat, 2 ≤ a ∧ a ≤ 4 ∧ p = ⟨3, b, a, 0⟩) ∨ (∃ b, ∃ a : Nat, 2 ≤ a ∧ a ≤ 4 ∧ p = ⟨4, b, a, 0⟩) ∨
 (∃ b, ∃ a : Nat, 2 ≤ a ∧ a ≤ 4 ∧ p = ⟨5, b, a, 0⟩) ∨ (∃ k b, ∃ a c : Nat, (k = 6 ∨ k = 7) ∧ 1 ≤ a ∧ a ≤ 6 ∧ 1 ≤ c ∧ c ≤ 6 ∧ p = ⟨k, b, a, c⟩) ∨ (∃ a : Nat, 1 ≤ a ∧ a ≤ 200 ∧ p = ⟨9, false, a, 0⟩) ∨ (∃ b, ∃ a : Nat, 1 ≤ a ∧ a ≤ 200 ∧ p = ⟨10, b, a, 0⟩) := by
 obtain ⟨k, b, A, B⟩ := p
 unfold okS at h
 simp only at h
 rcases h with ⟨h | h, rfl, rfl⟩ | ⟨rfl, rfl, rfl, rfl⟩ | ⟨h | h | h, h1, h2, rfl⟩ | ⟨h, h1, h2, h3, h4⟩ | ⟨rfl, h1, h2, rfl, rfl⟩ | ⟨rfl, h1, h2, rfl⟩
 ·exact .inl ⟨b, by rw [h]⟩
 ·exact .inr (.inl ⟨b, by rw [h]⟩)
 ·exact .inr (.inr (.inl rfl))
 ·exact .inr (.inr (.inr (.inl ⟨b, A.toNat, by omega, by omega, by rw [h, Int.toNat_of_nonneg (by omega)]⟩)))
 ·exact .inr (.inr (.inr (.inr (.inl ⟨b, A.toNat, by omega, by omega, by rw [h, Int.toNat_of_nonneg (by omega)]⟩))))
 ·exact .inr (.inr (.inr (.inr (.inr (.inl ⟨b, A.toNat, by omega, by omega, by rw [h, Int.toNat_of_nonneg (by omega)]⟩)))))
 ·exact .inr (.inr (.inr (.inr (.inr (.inr (.inl ⟨k, b, A.toNat, B.toNat, h, by omega, by omega, by omega, by omega, by rw [Int.toNat_of_nonneg (by omega), Int.toNat_of_nonneg (by omega)]⟩))))))
 ·exact .inr (.inr (.inr (.inr (.inr (.inr (.inr (.inl ⟨A.toNat, by omega, by omega, by rw [Int.toNat_of_nonneg (by omega)]⟩)))))))
 ·exact .inr (.inr (.inr (.inr (.inr (.inr (.inr (.inr ⟨b, A.toNat, by omega, by omega, by rw [Int.toNat_of_nonneg (by omega)]⟩)))))))
def uN (s : api_Stitch) : Nat := (usedS s).toNat
def mN (s : api_Stitch) : Nat := (madeS s).toNat
def pars (s : api_Stitch) (u : Nat) : List (List Int) :=
 if s.Kind = 2 then [[]] else if s.Kind = 9 then List.replicate s.A.toNat []
 else if s.Kind = 3 then [ups u s.A.toNat] else if s.Kind = 4 then [(ups u s.A.toNat).reverse]
 else if s.Kind = 5 then List.replicate s.A.toNat [(u : Int)]
 else if s.Kind = 6 ∨ s.Kind = 7 then ((ups u (s.A.toNat + s.B.toNat)).drop s.A.toNat ++ (ups u (s.A.toNat + s.B.toNat)).take s.A.toNat).map fun x => [x]
 else if s.Kind = 10 then [] else [[(u : Int)]]
theorem pars_len {s : api_Stitch} (h : okS s) (u : Nat) : (pars s u).length = mN s := by
 rcases knd h with ⟨b, rfl⟩ | ⟨b, rfl⟩ | rfl | ⟨b, a, h1, h2, rfl⟩ | ⟨b, a, h1, h2, rfl⟩ | ⟨b, a, h1, h2, rfl⟩ | ⟨k, b, a, c, hk, h1, h2, h3, h4, rfl⟩ | ⟨a, h1, h2, rfl⟩ | ⟨b, a, h1, h2, rfl⟩
 ·rfl
 ·rfl
 ·rfl
 ·simp [pars, mN, madeS]
 ·simp [pars, mN, madeS]
 ·simp [pars, mN, madeS]
 ·rcases hk with rfl | rfl <;> simp [pars, mN, madeS, ups_len] <;> omega
 ·simp [pars, mN, madeS]
 ·simp [pars, mN, madeS]
theorem pars_bd {s : api_Stitch} (h : okS s) (u : Nat) : ∀ ps, ps ∈ pars s u → ps.Nodup ∧ ∀ p, p ∈ ps → (u : Int) ≤ p ∧ p < ((u + uN s : Nat) : Int) := by
 intro ps hps
 rcases knd h with ⟨b, rfl⟩ | ⟨b, rfl⟩ | rfl | ⟨b, a, h1, h2, rfl⟩ | ⟨b, a, h1, h2, rfl⟩ | ⟨b, a, h1, h2, rfl⟩ | ⟨k, b, a, c, hk, h1, h2, h3, h4, rfl⟩ | ⟨a, h1, h2, rfl⟩ | ⟨b, a, h1, h2, rfl⟩
 ·simp [pars] at hps; subst hps; simp [uN, usedS]; omega
 ·simp [pars] at hps; subst hps; simp [uN, usedS]; omega
 ·simp [pars] at hps; subst hps; simp
 ·simp [pars] at hps; subst hps; refine ⟨ups_nodup _ _, fun p hp => ?_⟩; have := ups_mem.1 hp; simpa [uN, usedS] using this
 ·simp [pars] at hps; subst hps; refine ⟨(List.reverse_perm _).nodup_iff.2 (ups_nodup _ _), fun p hp => ?_⟩; have := ups_mem.1 (List.mem_reverse.1 hp); simpa [uN, usedS] using this
 ·simp [pars] at hps; obtain ⟨_, rfl⟩ := hps; simp [uN, usedS]; omega
 ·have e : pars ⟨k, b, (a : Int), (c : Int)⟩ u = ((ups u (a + c)).drop a ++ (ups u (a + c)).take a).map fun x => [x] := by rcases hk with rfl | rfl <;> simp [pars]
  have e2 : uN ⟨k, b, (a : Int), (c : Int)⟩ = a + c := by rcases hk with rfl | rfl <;> simp [uN, usedS] <;> omega
  rw [e] at hps
  obtain ⟨x, hx, rfl⟩ := List.mem_map.1 hps
  have hx : x ∈ ups u (a + c) := by
   rcases List.mem_append.1 hx with hx | hx
   ·exact List.mem_of_mem_drop hx
   ·exact List.mem_of_mem_take hx
  rw [e2]
  refine ⟨by simp, fun p hp => ?_⟩
  simp at hp; subst hp
  exact ups_mem.1 hx
 ·simp [pars] at hps; obtain ⟨_, rfl⟩ := hps; simp
 ·simp [pars] at hps
def offB (s : api_Stitch) (u : Nat) : List Int := if s.Kind = 10 then ups u s.A.toNat else []
def crs (s : api_Stitch) (n : Nat) : List (Int × Int) :=
 if s.Kind = 6 ∨ s.Kind = 7 then ((List.range s.A.toNat).map fun a => (List.range s.B.toNat).map fun b => if s.Kind = 7 then (((n + b : Nat) : Int), ((n + s.B.toNat + a : Nat) : Int)) else (((n + s.B.toNat + a : Nat) : Int), ((n + b : Nat) : Int))).flatten else []
def mkL (R K : Nat) (pl : Bool) (ps : List (List Int)) : List api_Loop := ps.map fun p => ⟨(R : Int), (K : Int), p, pl⟩
def side (L : List api_Loop) (s : api_Stitch) (u : Nat) : Bool := if s.Kind = 8 then (L[u]?.map fun l => l.Purl).getD false else s.Purl
structure Wk where
 L : List api_Loop
 B : List Int
 C : List (Int × Int)
 u : Nat
def stepW (R K : Nat) (s : api_Stitch) (z : Wk) : Wk := ⟨z.L ++ mkL R K (side z.L s z.u) (pars s z.u), z.B ++ offB s z.u, z.C ++ crs s z.L.length, z.u + uN s⟩
def cellsW (R : Nat) : Nat → List api_Stitch → Wk → Wk
 | _, [], z => z
 | k, s :: l, z => cellsW R (k + 1) l (stepW R k s z)
def rowsW : Nat → List (List api_Stitch) → Wk × List Int → Wk × List Int
 | _, [], z => z
 | i, f :: fs, z => rowsW (i + 1) fs (cellsW (i + 1) 0 f z.1, z.2 ++ [((cellsW (i + 1) 0 f z.1).L.length : Int)])
def faceR (r : api_Row) : List api_Stitch := if r.Back = true then (r.Cells.map othS).reverse else r.Cells
def zeroL (n : Nat) : List api_Loop := (List.range n).map fun i : Nat => (⟨0, (i : Int), [], false⟩ : api_Loop)
def workC (c : api_Chart) : Wk × List Int := rowsW 0 (c.Rows.map faceR) (⟨zeroL c.Start.toNat, [], [], 0⟩, [0, c.Start])
def smN (f : api_Stitch → Nat) : List api_Stitch → Nat
 | [] => 0
 | s :: l => f s + smN f l
theorem smN_used {l : List api_Stitch} (h : allOk l) : (smN uN l : Int) = sm usedS l := by
 induction l with
 | nil => rfl
 | cons s l ih =>
  have h1 := (usedS_bd (h s (by simp))).1
  have h2 := ih fun p hp => h p (by simp [hp])
  simp only [smN, sm, uN] at h2 ⊢
  omega
theorem smN_made {l : List api_Stitch} (h : allOk l) : (smN mN l : Int) = sm madeS l := by
 induction l with
 | nil => rfl
 | cons s l ih =>
  have h1 := (madeS_bd (h s (by simp))).1
  have h2 := ih fun p hp => h p (by simp [hp])
  simp only [smN, sm, mN] at h2 ⊢
  omega
theorem mkL_len (R K : Nat) (pl : Bool) (ps : List (List Int)) : (mkL R K pl ps).length = ps.length := by simp [mkL]
theorem cellsW_snoc (R : Nat) : ∀ (l : List api_Stitch) (k : Nat) (z : Wk) (s : api_Stitch), cellsW R k (l ++ [s]) z = stepW R (k + l.length) s (cellsW R k l z)
 | [], k, z, s => rfl
 | t :: l, k, z, s => by
  simp only [List.cons_append, cellsW, List.length_cons]
  rw [cellsW_snoc R l (k + 1) _ s]
  congr 1; omega
theorem rowsW_snoc : ∀ (fs : List (List api_Stitch)) (i : Nat) (z : Wk × List Int) (f : List api_Stitch), rowsW i (fs ++ [f]) z = (cellsW (i + fs.length + 1) 0 f (rowsW i fs z).1, (rowsW i fs z).2 ++ [((cellsW (i + fs.length + 1) 0 f (rowsW i fs z).1).L.length : Int)])
 | [], i, z, f => rfl
 | g :: fs, i, z, f => by
  simp only [List.cons_append, rowsW, List.length_cons]
  rw [rowsW_snoc fs (i + 1) _ f]
  have e : i + 1 + fs.length + 1 = i + (fs.length + 1) + 1 := by omega
  rw [e]
theorem cells_ind {R : Nat} {l : List api_Stitch} {z : Wk} (P : Nat → Wk → Prop) (h0 : P 0 z) (step : ∀ (j : Nat) (hj : j < l.length) (y : Wk), P j y → P (j + 1) (stepW R j l[j] y)) : P l.length (cellsW R 0 l z) := by
 have key : ∀ k, k ≤ l.length → P k (cellsW R 0 (l.take k) z) := by
  intro k
  induction k with
  | zero => intro _; exact h0
  | succ k ih =>
   intro hk
   rw [List.take_succ_eq_append_getElem (by omega), cellsW_snoc]
   have := step k (by omega) _ (ih (by omega))
   rwa [Nat.zero_add, List.length_take, Nat.min_eq_left (by omega)]
 have := key l.length (Nat.le_refl _)
 rwa [List.take_length] at this
theorem smN_append (g : api_Stitch → Nat) (l k : List api_Stitch) : smN g (l ++ k) = smN g l + smN g k := by
 induction l with
 | nil => simp [smN]
 | cons s l ih => simp only [List.cons_append, smN, ih]; omega
theorem smN_take (g : api_Stitch → Nat) (l : List api_Stitch) {k : Nat} (h : k < l.length) : smN g (l.take (k + 1)) = smN g (l.take k) + g l[k] := by
 rw [List.take_succ_eq_append_getElem h, smN_append]; simp [smN]
theorem smN_take_le (g : api_Stitch → Nat) (l : List api_Stitch) (k : Nat) : smN g (l.take k) ≤ smN g l := by
 have h := smN_append g (l.take k) (l.drop k)
 rw [List.take_append_drop] at h
 omega
def nR (S : Nat) (fs : List (List api_Stitch)) (i : Nat) : Nat := if i = 0 then S else smN mN (fs.getD (i - 1) [])
def off (S : Nat) (fs : List (List api_Stitch)) : Nat → Nat
 | 0 => 0
 | r + 1 => off S fs r + nR S fs r
def okF (S : Nat) (fs : List (List api_Stitch)) : Prop := S ≤ 200 ∧ ∀ (i : Nat) (h : i < fs.length), allOk fs[i] ∧ fs[i].length ≤ 200 ∧ smN mN fs[i] ≤ 200 ∧ smN uN fs[i] = nR S fs i
theorem off_mono {S : Nat} {fs : List (List api_Stitch)} {a b : Nat} (h : a ≤ b) : off S fs a ≤ off S fs b := by
 induction b with
 | zero => rw [show a = 0 by omega]; exact Nat.le_refl _
 | succ b ih =>
  by_cases e : a = b + 1
  ·rw [e]; exact Nat.le_refl _
  ·have := ih (by omega); simp only [off]; omega
theorem nR_le {S : Nat} {fs : List (List api_Stitch)} (h : okF S fs) {i : Nat} (hi : i ≤ fs.length) : nR S fs i ≤ 200 := by
 unfold nR
 split
 ·exact h.1
 ·have hl : i - 1 < fs.length := by omega
  have := (h.2 (i - 1) hl).2.2.1
  simpa [List.getD_eq_getElem?_getD, List.getElem?_eq_getElem hl] using this
theorem off_le {S : Nat} {fs : List (List api_Stitch)} (h : okF S fs) {r : Nat} (hr : r ≤ fs.length + 1) : off S fs r ≤ 200 * r := by
 induction r with
 | zero => exact Nat.le_refl _
 | succ r ih => have := ih (by omega); have := nR_le h (i := r) (by omega); simp only [off]; omega
theorem nR_succ {S : Nat} {fs : List (List api_Stitch)} {i : Nat} (hi : i < fs.length) : nR S fs (i + 1) = smN mN fs[i] := by
 simp [nR, List.getD_eq_getElem?_getD, List.getElem?_eq_getElem hi]
def pm (S : Nat) (fs : List (List api_Stitch)) (r j : Nat) : Nat := off S fs (r + 1) + smN mN ((fs.getD r []).take j)
def pu (S : Nat) (fs : List (List api_Stitch)) (r j : Nat) : Nat := off S fs r + smN uN ((fs.getD r []).take j)
def isL (l : Option api_Loop) (R K : Nat) (s : api_Stitch) (u x : Nat) : Prop := ∃ pl ps, (s.Kind ≠ 8 → pl = s.Purl) ∧ (pars s u)[x]? = some ps ∧ l = some ⟨(R : Int), (K : Int), ps, pl⟩
structure LInv (S : Nat) (fs : List (List api_Stitch)) (k j : Nat) (z : Wk) : Prop where
 len : z.L.length = pm S fs k j
 u : z.u = pu S fs k j
 zero : ∀ i, i < S → z.L[i]? = some ⟨0, (i : Int), [], false⟩
 old : ∀ (r t x : Nat) (h : r < fs.length) (ht : t < fs[r].length), r < k ∨ r = k ∧ t < j → x < mN (fs[r][t]) → isL z.L[pm S fs r t + x]? (r + 1) t (fs[r][t]) (pu S fs r t) x
theorem isL_left {l : List api_Loop} {m : List api_Loop} {i R K u x : Nat} {s : api_Stitch} (h : isL l[i]? R K s u x) : isL (l ++ m)[i]? R K s u x := by
 obtain ⟨pl, ps, h1, h2, h3⟩ := h
 refine ⟨pl, ps, h1, h2, ?_⟩
 rw [List.getElem?_append_left (List.getElem?_eq_some_iff.1 h3).1]; exact h3
theorem LInv.step {S : Nat} {fs : List (List api_Stitch)} {k j : Nat} {z : Wk} (hf : okF S fs) (hk : k < fs.length) (hj : j < fs[k].length) (h : LInv S fs k j z) : LInv S fs k (j + 1) (stepW (k + 1) j (fs[k][j]) z) := by
 have hg : fs.getD k [] = fs[k] := by simp [List.getD_eq_getElem?_getD, List.getElem?_eq_getElem hk]
 have hok : okS (fs[k][j]) := (hf.2 k hk).1 _ (List.getElem_mem _)
 have hlen := pars_len hok z.u
 refine ⟨?_, ?_, ?_, ?_⟩
 ·simp only [stepW, List.length_append, mkL_len, hlen, h.len, pm, hg]
  rw [smN_take mN _ hj]; omega
 ·simp only [stepW, h.u, pu, hg]
  rw [smN_take uN _ hj]; omega
 ·intro i hi
  have := h.zero i hi
  simp only [stepW]
  rw [List.getElem?_append_left (List.getElem?_eq_some_iff.1 this).1]; exact this
 ·intro r t x hr ht hlt hx
  by_cases e : r < k ∨ r = k ∧ t < j
  ·exact isL_left (h.old r t x hr ht e hx)
  ·obtain ⟨rfl, rfl⟩ : r = k ∧ t = j := by omega
   simp only [stepW]
   rw [← h.len, List.getElem?_append_right (by omega), Nat.add_sub_cancel_left, ← h.u]
   have hx' : x < (pars (fs[r][t]) z.u).length := by rw [hlen]; exact hx
   refine ⟨side z.L (fs[r][t]) z.u, (pars (fs[r][t]) z.u)[x], fun hn => by simp [side, hn], List.getElem?_eq_getElem hx', ?_⟩
   simp only [mkL, List.getElem?_map, List.getElem?_eq_getElem hx', Option.map_some]
theorem LInv.row {S : Nat} {fs : List (List api_Stitch)} {k : Nat} {z : Wk} (hf : okF S fs) (hk : k < fs.length) (h : LInv S fs k fs[k].length z) : LInv S fs (k + 1) 0 z := by
 have hg : fs.getD k [] = fs[k] := by simp [List.getD_eq_getElem?_getD, List.getElem?_eq_getElem hk]
 refine ⟨?_, ?_, h.zero, ?_⟩
 ·have e := nR_succ (S := S) hk
  rw [h.len]; simp only [pm, hg, List.take_length, off, e, List.take_zero, smN]; omega
 ·have e := (hf.2 k hk).2.2.2
  rw [h.u]; simp only [pu, hg, List.take_length, off, e, List.take_zero, smN]; omega
 ·intro r t x hr ht hlt hx
  refine h.old r t x hr ht ?_ hx
  rcases hlt with h1 | ⟨_, h1⟩
  ·by_cases e : r < k
   ·exact .inl e
   ·obtain rfl : r = k := by omega
    exact .inr ⟨rfl, ht⟩
  ·omega
theorem LInv.start (S : Nat) (fs : List (List api_Stitch)) : LInv S fs 0 0 ⟨zeroL S, [], [], 0⟩ := by
 refine ⟨?_, ?_, ?_, ?_⟩
 ·simp [zeroL, pm, off, smN, nR]
 ·simp [pu, off, smN]
 ·intro i hi; simp [zeroL, hi]
 ·intro r t x hr ht hlt; omega
end Go.Proofs.Yticjoiolfibmlaa
