/- Closed functions, run by the kernel (printed by tools/kern.py). -/
import Derived.Test.YtjndecalogklhaaKeA
import Derived.Test.YtjndecalogklhaaG11
import Derived.Test.YtjndecalogklhaaG13
import Derived.Test.YtjndecalogklhaaG15
import Derived.Test.YtjndecalogklhaaG19
import Derived.Test.YtjndecalogklhaaG21
import Derived.Test.YtjndecalogklhaaG22
import Derived.Test.YtjndecalogklhaaG23
import Derived.Test.YtjndecalogklhaaG24
import Derived.Test.YtjndecalogklhaaG25
import Derived.Test.YtjndecalogklhaaG32
import Derived.Test.YtjndecalogklhaaG33s0
import Derived.Test.YtjndecalogklhaaG34s0
import Derived.Test.YtjndecalogklhaaG34s1
import Derived.Test.YtjndecalogklhaaG35s0
import Derived.Test.YtjndecalogklhaaG38
import Derived.Test.YtjndecalogklhaaG39
import Derived.Test.YtjndecalogklhaaG40
import Derived.Test.YtjndecalogklhaaG43
import Derived.Test.YtjndecalogklhaaG44
import Derived.Test.YtjndecalogklhaaG46
import Derived.Test.YtjndecalogklhaaG47
import Derived.Test.YtjndecalogklhaaG48
import Derived.Test.YtjndecalogklhaaG49
import Derived.Test.YtjndecalogklhaaG50s0
import Derived.Test.YtjndecalogklhaaG51s0
import Derived.Test.YtjndecalogklhaaG52
import Derived.Test.YtjndecalogklhaaG61
import Derived.Test.YtjndecalogklhaaG62
namespace Go.Proofs.Ytjndecalogklhaa
open Go.RowKit
set_option linter.unusedVariables false

def K_raddleref01_Zero_s0 (p0 : Int) (p1 : Int) : Option api_Grid :=
  Option.bind (makeO (w64 (p0 * p1)) false) fun m6 =>
  some (api_Grid.mk p0 p1 m6)
def K_raddleref01_Mod (p0 : Int) (p1 : Int) : Option Int :=
  Option.bind (remI p0 p1) fun z3 =>
  Option.bind (remI (w64 (z3 + p1)) p1) fun z5 =>
  some z5
def K_raddleref01_Set_s0 (p0 : Int) (p1 : Int) (p2 : (List Bool)) (p3 : Int) (p4 : Int) (p5 : Bool) : Option (List Bool) :=
  Option.bind (idxO p2 (w64 ((w64 (p4 * p0)) + p3))) fun x3 =>
  Option.bind (setO p2 (w64 ((w64 (p4 * p0)) + p3)) p5) fun l8 =>
  (keepO p2 l8).bind fun _ =>
  some l8
def K_raddlelaw24_cloth_l1 (p0 : Int) (s15 : Int) (r4 : api_Grid) (p2 : Int) : (Int × List Bool) → Option ((Int × List Bool) ⊕ List Bool) := fun s0 => match s0 with
  | (s34, s35) =>
    if decide (s34 < p0) then
      Option.bind (K_raddleref01_Mod (w64 (s34 - s15)) p0) fun r48 =>
      Option.bind (K_raddleref01_Set_s0 r4.W r4.H s35 s34 s15 (decide (r48 < p2))) fun r50 =>
      some (.inl (w64 (s34 + 1), r50))
    else
      some (.inr s35)
def K_raddlelaw24_cloth_l2 (p1 : Int) (p0 : Int) (r4 : api_Grid) (p2 : Int) : (Int × List Bool) → Option ((Int × List Bool) ⊕ List Bool) := fun s0 => match s0 with
  | (s15, s16) =>
    if decide (s15 < p1) then
      Option.bind (α := List Bool) (
        Option.bind (whileK (K_raddlelaw24_cloth_l1 p0 s15 r4 p2) (0, s16)) fun e41 =>
          some e41) fun o28 =>
      some (.inl (w64 (s15 + 1), o28))
    else
      some (.inr s16)
def K_raddlelaw24_cloth (p0 : Int) (p1 : Int) (p2 : Int) : Option api_Grid :=
  Option.bind (K_raddleref01_Zero_s0 p0 p1) fun r4 =>
  Option.bind (α := List Bool) (
    Option.bind (whileK (K_raddlelaw24_cloth_l2 p1 p0 r4 p2) (0, r4.Bits)) fun e22 =>
      some e22) fun o9 =>
  some (api_Grid.mk r4.W r4.H o9)
def K_grid_Check (p0 : api_Grid) : Option Int :=
  if decide (64 < (if p0.W < p0.H then p0.H else p0.W)) then
    some 4
  else
    Option.bind (α := Bool) (
      if decide ((if p0.H < p0.W then p0.H else p0.W) < 1) then
        some true
      else
        some ((p0.Bits.length : Int) != (w64 (p0.W * p0.H)))) fun o11 =>
    if o11 then
      some 8
    else
      some 0
def K_sett_Turns_1_s0 (p0 : Int) (p1 : api_Grid) (p2 : Int) : Option Bool :=
  Option.bind (idxO p1.Bits (w64 ((w64 (p2 * p1.W)) + p0))) fun x12 =>
  some x12
def K_sett_line_turns_s0_l1 (p0 : Int) (p1 : api_Grid) (p2 : Int) : (Int × Int) → Option ((Int × Int) ⊕ Int) := fun s0 => match s0 with
  | (s8, s9) =>
    if decide (s9 < p0) then
      Option.bind (α := Int) (
        Option.bind (K_sett_Turns_1_s0 s9 p1 p2) fun r22 =>
        Option.bind (remI (w64 (s9 + 1)) p0) fun z24 =>
        Option.bind (K_sett_Turns_1_s0 z24 p1 p2) fun r26 =>
        if r22 != r26 then
          some (w64 (s8 + 1))
        else
          some s8) fun o17 =>
      some (.inl (o17, w64 (s9 + 1)))
    else
      some (.inr s8)
def K_sett_line_turns_s0 (p0 : Int) (p1 : api_Grid) (p2 : Int) : Option Int :=
  Option.bind (α := Int) (
    Option.bind (whileK (K_sett_line_turns_s0_l1 p0 p1 p2) (0, 0)) fun e13 =>
      some e13) fun o4 =>
  some o4
def K_sett_Turns_l1 (p0 : api_Grid) : (List Int × Int) → Option ((List Int × Int) ⊕ List Int) := fun s0 => match s0 with
  | (s20, s23) =>
    if decide (s23 < p0.H) then
      Option.bind (K_sett_line_turns_s0 p0.W p0 s23) fun r36 =>
      Option.bind (appO s20 ([r36] : List Int)) fun l40 =>
      some (.inl (l40, w64 (s23 + 1)))
    else
      some (.inr s20)
def K_sett_Turns_2_s0 (p0 : Int) (p1 : api_Grid) (p2 : Int) : Option Bool :=
  Option.bind (idxO p1.Bits (w64 ((w64 (p0 * p1.W)) + p2))) fun x12 =>
  some x12
def K_sett_line_turns_s1_l1 (p0 : Int) (p1 : api_Grid) (p2 : Int) : (Int × Int) → Option ((Int × Int) ⊕ Int) := fun s0 => match s0 with
  | (s8, s9) =>
    if decide (s9 < p0) then
      Option.bind (α := Int) (
        Option.bind (K_sett_Turns_2_s0 s9 p1 p2) fun r22 =>
        Option.bind (remI (w64 (s9 + 1)) p0) fun z24 =>
        Option.bind (K_sett_Turns_2_s0 z24 p1 p2) fun r26 =>
        if r22 != r26 then
          some (w64 (s8 + 1))
        else
          some s8) fun o17 =>
      some (.inl (o17, w64 (s9 + 1)))
    else
      some (.inr s8)
def K_sett_line_turns_s1 (p0 : Int) (p1 : api_Grid) (p2 : Int) : Option Int :=
  Option.bind (α := Int) (
    Option.bind (whileK (K_sett_line_turns_s1_l1 p0 p1 p2) (0, 0)) fun e13 =>
      some e13) fun o4 =>
  some o4
def K_sett_Turns_l2 (p0 : api_Grid) : (List Int × Int) → Option ((List Int × Int) ⊕ List Int) := fun s0 => match s0 with
  | (s50, s53) =>
    if decide (s53 < p0.W) then
      Option.bind (K_sett_line_turns_s1 p0.H p0 s53) fun r66 =>
      Option.bind (appO s50 ([r66] : List Int)) fun l70 =>
      some (.inl (l70, w64 (s53 + 1)))
    else
      some (.inr s50)
def K_sett_Turns (p0 : api_Grid) : Option ((List Int) × (List Int) × Int) :=
  Option.bind (K_grid_Check p0) fun r9 =>
  if r9 != 0 then
    some (([] : (List Int)), ([] : (List Int)), r9)
  else
    Option.bind (α := List Int) (
      Option.bind (whileK (K_sett_Turns_l1 p0) (([] : List Int), 0)) fun e27 =>
        some e27) fun o14 =>
    Option.bind (α := List Int) (
      Option.bind (whileK (K_sett_Turns_l2 p0) (([] : List Int), 0)) fun e57 =>
        some e57) fun o44 =>
    some (o14, o44, 0)
def K_sett_sum_l1 (p1 : (List Int)) : (Int × Int) → Option ((Int × Int) ⊕ Int) := fun s0 => match s0 with
  | (s8, s9) =>
    if decide (s9 < (p1.length : Int)) then
      Option.bind (idxO p1 s9) fun x19 =>
      some (.inl (w64 (s8 + x19), w64 (s9 + 1)))
    else
      some (.inr s8)
def K_sett_sum (p0 : Int) (p1 : (List Int)) : Option Int :=
  Option.bind (α := Int) (
    Option.bind (whileK (K_sett_sum_l1 p1) (p0, 0)) fun e13 =>
      some e13) fun o4 =>
  some o4
def K_yarn_size (p0 : Int) : Option Int :=
  if decide (p0 < 0) then
    some (IntKind.u64.wrap (0 - (IntKind.u64.wrap p0)))
  else
    some (IntKind.u64.wrap p0)
def K_yarn_gcd_l1  : (Int × Int) → Option ((Int × Int) ⊕ Int) := fun s0 => match s0 with
  | (s5, s6) =>
    if s6 != 0 then
      Option.bind (remI s5 s6) fun z14 =>
      some (.inl (s6, z14))
    else
      some (.inr s5)
def K_yarn_gcd (p0 : Int) (p1 : Int) : Option Int :=
  Option.bind (α := Int) (
    Option.bind (whileK (K_yarn_gcd_l1) (p0, p1)) fun e10 =>
      some e10) fun o2 =>
  some o2
def K_yarn_Make (p0 : Int) (p1 : Int) : Option (api_Ratio × Int) :=
  if p1 == 0 then
    some ((api_Ratio.mk 0 0), 18)
  else
    Option.bind (K_yarn_size p0) fun r8 =>
    Option.bind (K_yarn_size p1) fun r10 =>
    Option.bind (K_yarn_gcd r8 r10) fun r13 =>
    Option.bind (quoK .u64 r8 r13) fun z16 =>
    Option.bind (quoK .u64 r10 r13) fun z18 =>
    Option.bind (α := Bool) (
      if decide (1000000000 < z16) then
        some true
      else
        some (decide (1000000000 < z18))) fun o21 =>
    if o21 then
      some ((api_Ratio.mk 0 0), 16)
    else
      Option.bind (α := Int) (
        if (decide (p0 < 0)) != (decide (p1 < 0)) then
          some (w64 (0 - (IntKind.i64.wrap z16)))
        else
          some (IntKind.i64.wrap z16)) fun o29 =>
      some ((api_Ratio.mk o29 (IntKind.i64.wrap z18)), 0)
def K_sett_Setts (p0 : api_Grid) (p1 : Int) : Option (api_Ratio × api_Ratio × Int) :=
  Option.bind (K_sett_Turns p0) fun r10 =>
  if r10.2.2 != 0 then
    some ((api_Ratio.mk 0 0), (api_Ratio.mk 0 0), r10.2.2)
  else
    Option.bind (α := Bool) (
      if decide (p1 < 1) then
        some true
      else
        some (decide (1000 < p1))) fun o23 =>
    if o23 then
      some ((api_Ratio.mk 0 0), (api_Ratio.mk 0 0), 2)
    else
      Option.bind (K_sett_sum (w64 (p0.W * p0.H)) r10.1) fun r31 =>
      Option.bind (K_yarn_Make (w64 (p1 * (w64 (p0.W * p0.H)))) r31) fun r33 =>
      Option.bind (K_sett_sum (w64 (p0.W * p0.H)) r10.2.1) fun r37 =>
      Option.bind (K_yarn_Make (w64 (p1 * (w64 (p0.W * p0.H)))) r37) fun r39 =>
      some (r33.1, r39.1, 0)
def K_raddlelaw24_part (p0 : Int) (p1 : Int) : Option api_Ratio :=
  some (api_Ratio.mk p0 p1)
def K_yarn_Check (p0 : api_Ratio) : Option Int :=
  Option.bind (α := Bool) (
    if decide (p0.Den < 1) then
      some true
    else
      if decide (1000000000 < p0.Den) then
        some true
      else
        Option.bind (K_yarn_size p0.Num) fun r9 =>
        if decide (1000000000 < r9) then
          some true
        else
          Option.bind (K_yarn_gcd r9 (IntKind.u64.wrap p0.Den)) fun r12 =>
          some (r12 != 1)) fun o4 =>
  if o4 then
    some 8
  else
    some 0
def K_sett_checked (p0 : api_Ratio) (p1 : Bool) (p2 : Int) : Option Int :=
  Option.bind (α := Bool) (
    Option.bind (K_yarn_Check p0) fun r7 =>
    if r7 != 0 then
      some true
    else
      if decide (p0.Num < 0) then
        some true
      else
        if p1 then
          some (p0.Num == 0)
        else
          some false) fun o4 =>
  if o4 then
    some 8
  else
    Option.bind (α := Bool) (
      if decide (p2 < 0) then
        some true
      else
        some (decide (1000000000 < p2))) fun o15 =>
    if o15 then
      some 2
    else
      some 0
def K_sett_over_int64_ (p0 : Int) (p1 : Int) (p2 : Bool) : Option Int :=
  Option.bind (α := Int) (
    if p2 then
      some (w64 (p0 + (w64 (p1 - 1))))
    else
      some p0) fun o2 =>
  Option.bind (quoI o2 p1) fun z8 =>
  some z8
def K_sett_Ends (p0 : Int) (p1 : api_Ratio) : Option (Int × Int) :=
  Option.bind (K_sett_checked p1 true p0) fun r5 =>
  if r5 != 0 then
    some (0, r5)
  else
    Option.bind (K_sett_over_int64_ (w64 (p0 * p1.Num)) (w64 (1000 * p1.Den)) false) fun r11 =>
    some (r11, 0)
def K_math_bits_Mul64 (p0 : Int) (p1 : Int) : Option (Int × Int) :=
  Option.bind (shrI .u64 p0 32) fun z4 =>
  Option.bind (shrI .u64 p1 32) fun z8 =>
  Option.bind (shrI .u64 (IntKind.u64.wrap ((andI .u64 p0 4294967295) * (andI .u64 p1 4294967295))) 32) fun z12 =>
  Option.bind (shrI .u64 (IntKind.u64.wrap ((IntKind.u64.wrap (z4 * (andI .u64 p1 4294967295))) + z12)) 32) fun z16 =>
  Option.bind (shrI .u64 (IntKind.u64.wrap ((andI .u64 (IntKind.u64.wrap ((IntKind.u64.wrap (z4 * (andI .u64 p1 4294967295))) + z12)) 4294967295) + (IntKind.u64.wrap ((andI .u64 p0 4294967295) * z8)))) 32) fun z20 =>
  some (IntKind.u64.wrap ((IntKind.u64.wrap ((IntKind.u64.wrap (z4 * z8)) + z16)) + z20), IntKind.u64.wrap (p0 * p1))
def K_math_bits_Len64 (p0 : Int) : Option Int :=
  Option.bind (α := (Int × Int)) (
    if decide (4294967296 ≤ p0) then
      Option.bind (shrI .u64 p0 32) fun z9 =>
      some (z9, 32)
    else
      some (p0, 0)) fun (o2, o3) =>
  Option.bind (α := (Int × Int)) (
    if decide (65536 ≤ o2) then
      Option.bind (shrI .u64 o2 16) fun z18 =>
      some (z18, w64 (o3 + 16))
    else
      some (o2, o3)) fun (o11, o12) =>
  Option.bind (α := (Int × Int)) (
    if decide (256 ≤ o11) then
      Option.bind (shrI .u64 o11 8) fun z27 =>
      some (z27, w64 (o12 + 8))
    else
      some (o11, o12)) fun (o20, o21) =>
  Option.bind (idxS (⟨#[0, 1, 2, 2, 3, 3, 3, 3, 4, 4, 4, 4, 4, 4, 4, 4, 5, 5, 5, 5, 5, 5, 5, 5, 5, 5, 5, 5, 5, 5, 5, 5, 6, 6, 6, 6, 6, 6, 6, 6, 6, 6, 6, 6, 6, 6, 6, 6, 6, 6, 6, 6, 6, 6, 6, 6, 6, 6, 6, 6, 6, 6, 6, 6, 7, 7, 7, 7, 7, 7, 7, 7, 7, 7, 7, 7, 7, 7, 7, 7, 7, 7, 7, 7, 7, 7, 7, 7, 7, 7, 7, 7, 7, 7, 7, 7, 7, 7, 7, 7, 7, 7, 7, 7, 7, 7, 7, 7, 7, 7, 7, 7, 7, 7, 7, 7, 7, 7, 7, 7, 7, 7, 7, 7, 7, 7, 7, 7, 8, 8, 8, 8, 8, 8, 8, 8, 8, 8, 8, 8, 8, 8, 8, 8, 8, 8, 8, 8, 8, 8, 8, 8, 8, 8, 8, 8, 8, 8, 8, 8, 8, 8, 8, 8, 8, 8, 8, 8, 8, 8, 8, 8, 8, 8, 8, 8, 8, 8, 8, 8, 8, 8, 8, 8, 8, 8, 8, 8, 8, 8, 8, 8, 8, 8, 8, 8, 8, 8, 8, 8, 8, 8, 8, 8, 8, 8, 8, 8, 8, 8, 8, 8, 8, 8, 8, 8, 8, 8, 8, 8, 8, 8, 8, 8, 8, 8, 8, 8, 8, 8, 8, 8, 8, 8, 8, 8, 8, 8, 8, 8, 8, 8, 8, 8, 8, 8, 8, 8, 8, 8, 8, 8, 8, 8, 8, 8]⟩ : ByteArray) (IntKind.u8.wrap o20)) fun x30 =>
  some (w64 (o21 + (IntKind.i64.wrap x30)))
def K_math_bits_LeadingZeros64 (p0 : Int) : Option Int :=
  Option.bind (K_math_bits_Len64 p0) fun r3 =>
  some (w64 (64 - r3))
def K_math_bits_Div64_l1 (z35 : Int) (z20 : Int) (z23 : Int) : (Int × Int) → Option ((Int × Int) ⊕ Int) := fun s0 => match s0 with
  | (s45, s46) =>
    Option.bind (α := Bool) (
      if decide (4294967296 ≤ s45) then
        some true
      else
        some (decide ((IntKind.u64.wrap ((IntKind.u64.wrap (4294967296 * s46)) + z35)) < (IntKind.u64.wrap (s45 * (andI .u64 z20 4294967295)))))) fun o52 =>
    if o52 then
      if decide (4294967296 ≤ (IntKind.u64.wrap (s46 + z23))) then
        some (.inr (IntKind.u64.wrap (s45 - 1)))
      else
        some (.inl (IntKind.u64.wrap (s45 - 1), IntKind.u64.wrap (s46 + z23)))
    else
      some (.inr s45)
def K_math_bits_Div64_l2 (z32 : Int) (z20 : Int) (z23 : Int) : (Int × Int) → Option ((Int × Int) ⊕ Int) := fun s0 => match s0 with
  | (s69, s70) =>
    Option.bind (α := Bool) (
      if decide (4294967296 ≤ s70) then
        some true
      else
        some (decide ((IntKind.u64.wrap ((IntKind.u64.wrap (4294967296 * s69)) + (andI .u64 z32 4294967295))) < (IntKind.u64.wrap (s70 * (andI .u64 z20 4294967295)))))) fun o76 =>
    if o76 then
      if decide (4294967296 ≤ (IntKind.u64.wrap (s69 + z23))) then
        some (.inr (IntKind.u64.wrap (s70 - 1)))
      else
        some (.inl (IntKind.u64.wrap (s69 + z23), IntKind.u64.wrap (s70 - 1)))
    else
      some (.inr s70)
def K_math_bits_Div64 (p0 : Int) (p1 : Int) (p2 : Int) : Option (Int × Int) :=
  if p2 == 0 then
    none
  else
    if decide (p2 ≤ p0) then
      none
    else
      if p0 == 0 then
        Option.bind (quoK .u64 p1 p2) fun z12 =>
        Option.bind (remI p1 p2) fun z14 =>
        some (z12, z14)
      else
        Option.bind (K_math_bits_LeadingZeros64 p2) fun r17 =>
        Option.bind (shlI .u64 p2 (IntKind.u64.wrap r17)) fun z20 =>
        Option.bind (shrI .u64 z20 32) fun z23 =>
        Option.bind (shlI .u64 p0 (IntKind.u64.wrap r17)) fun z27 =>
        Option.bind (shrI .u64 p1 (IntKind.u64.wrap (64 - (IntKind.u64.wrap r17)))) fun z29 =>
        Option.bind (shlI .u64 p1 (IntKind.u64.wrap r17)) fun z32 =>
        Option.bind (shrI .u64 z32 32) fun z35 =>
        Option.bind (quoK .u64 (orI .u64 z27 z29) z23) fun z39 =>
        Option.bind (α := Int) (
          Option.bind (whileK (K_math_bits_Div64_l1 z35 z20 z23) (z39, IntKind.u64.wrap ((orI .u64 z27 z29) - (IntKind.u64.wrap (z39 * z23))))) fun e50 =>
            some e50) fun o42 =>
        Option.bind (quoK .u64 (IntKind.u64.wrap ((IntKind.u64.wrap ((IntKind.u64.wrap ((orI .u64 z27 z29) * 4294967296)) + z35)) - (IntKind.u64.wrap (o42 * z20)))) z23) fun z63 =>
        Option.bind (α := Int) (
          Option.bind (whileK (K_math_bits_Div64_l2 z32 z20 z23) (IntKind.u64.wrap ((IntKind.u64.wrap ((IntKind.u64.wrap ((IntKind.u64.wrap ((orI .u64 z27 z29) * 4294967296)) + z35)) - (IntKind.u64.wrap (o42 * z20)))) - (IntKind.u64.wrap (z63 * z23))), z63)) fun e74 =>
            some e74) fun o66 =>
        Option.bind (shrI .u64 (IntKind.u64.wrap ((IntKind.u64.wrap ((IntKind.u64.wrap ((IntKind.u64.wrap ((IntKind.u64.wrap ((IntKind.u64.wrap ((orI .u64 z27 z29) * 4294967296)) + z35)) - (IntKind.u64.wrap (o42 * z20)))) * 4294967296)) + (andI .u64 z32 4294967295))) - (IntKind.u64.wrap (o66 * z20)))) (IntKind.u64.wrap r17)) fun z86 =>
        some (IntKind.u64.wrap ((IntKind.u64.wrap (o42 * 4294967296)) + o66), z86)
def K_sett_Width (p0 : Int) (p1 : api_Ratio) : Option (Int × Int) :=
  Option.bind (K_sett_checked p1 true p0) fun r5 =>
  if r5 != 0 then
    some (0, r5)
  else
    Option.bind (K_math_bits_Mul64 (IntKind.u64.wrap (w64 (p0 * 1000))) (IntKind.u64.wrap p1.Den)) fun r11 =>
    if decide ((IntKind.u64.wrap p1.Num) ≤ r11.1) then
      some (0, 16)
    else
      Option.bind (K_math_bits_Div64 r11.1 r11.2 (IntKind.u64.wrap p1.Num)) fun r18 =>
      Option.bind (α := Int) (
        if decide (0 < r18.2) then
          some (IntKind.u64.wrap (r18.1 + 1))
        else
          some r18.1) fun o20 =>
      if decide (1000000000 < o20) then
        some (0, 16)
      else
        some (IntKind.i64.wrap o20, 0)
def K_sett_upTo (p0 : api_Ratio) (p1 : Int) : Option Int :=
  Option.bind (K_sett_checked p0 false 0) fun r5 =>
  Option.bind (α := Bool) (
    if r5 != 0 then
      some true
    else
      some (decide ((w64 (10 * p0.Den)) < p0.Num))) fun o7 =>
  if o7 then
    some 8
  else
    Option.bind (K_sett_checked p0 false p1) fun r14 =>
    some r14
def K_sett_Need (p0 : Int) (p1 : api_Ratio) : Option (Int × Int) :=
  Option.bind (K_sett_upTo p1 p0) fun r5 =>
  if r5 != 0 then
    some (0, r5)
  else
    Option.bind (K_sett_over_int64_ (w64 (p0 * (w64 (p1.Den + p1.Num)))) p1.Den true) fun r11 =>
    some (r11, 0)
def K_raddleref24_Same_l1 (p0 : (List Int)) (p1 : (List Int)) : Int → Option (Int ⊕ (Bool ⊕ Unit)) := fun s0 => match s0 with
  | s13 =>
    if decide (s13 < (p0.length : Int)) then
      Option.bind (idxO p0 s13) fun x22 =>
      Option.bind (idxO p1 s13) fun x27 =>
      if x22 != x27 then
        some (.inr (.inl false))
      else
        some (.inl (w64 (s13 + 1)))
    else
      some (.inr (.inr ()))
def K_raddleref24_Same (p0 : (List Int)) (p1 : (List Int)) : Option Bool :=
  if (p0.length : Int) != (p1.length : Int) then
    some false
  else
    Option.bind (α := Unit ⊕ Bool) (
      Option.bind (whileK (K_raddleref24_Same_l1 p0 p1) 0) fun z0 => match z0 with
        | .inl z =>
          some (.inr z)
        | .inr _ =>
          some (.inl ())) fun z0 => match z0 with
      | .inl _ =>
        some true
      | .inr z =>
        some z
theorem m_F_raddleref01_Zero_s0 (p0 : Int) (p1 : Int) : Le (K_raddleref01_Zero_s0 p0 p1) (F_raddleref01_Zero_s0 p0 p1) := by
  unfold K_raddleref01_Zero_s0 F_raddleref01_Zero_s0
  with_reducible repeat' (first | exact Le.rfl _ | refine Le.loop _ ?_ | refine Le.bind ?_ ?_ | refine Le.ite ?_ ?_ | refine Le.sum ?_ ?_ | refine Le.prod ?_ | intro _ | dsimp only)
theorem m_F_raddleref01_Mod (p0 : Int) (p1 : Int) : Le (K_raddleref01_Mod p0 p1) (F_raddleref01_Mod p0 p1) := by
  unfold K_raddleref01_Mod F_raddleref01_Mod
  with_reducible repeat' (first | exact Le.rfl _ | refine Le.loop _ ?_ | refine Le.bind ?_ ?_ | refine Le.ite ?_ ?_ | refine Le.sum ?_ ?_ | refine Le.prod ?_ | intro _ | dsimp only)
theorem m_F_raddleref01_Set_s0 (p0 : Int) (p1 : Int) (p2 : (List Bool)) (p3 : Int) (p4 : Int) (p5 : Bool) : Le (K_raddleref01_Set_s0 p0 p1 p2 p3 p4 p5) (F_raddleref01_Set_s0 p0 p1 p2 p3 p4 p5) := by
  unfold K_raddleref01_Set_s0 F_raddleref01_Set_s0
  with_reducible repeat' (first | exact Le.rfl _ | refine Le.loop _ ?_ | refine Le.bind ?_ ?_ | refine Le.ite ?_ ?_ | refine Le.sum ?_ ?_ | refine Le.prod ?_ | intro _ | dsimp only)
theorem m_raddlelaw24_cloth_l1 (p0 : Int) (s15 : Int) (r4 : api_Grid) (p2 : Int) : ∀ s, Le (K_raddlelaw24_cloth_l1 p0 s15 r4 p2 s) (raddlelaw24_cloth_l1 p0 s15 r4 p2 s) := by
  unfold K_raddlelaw24_cloth_l1 raddlelaw24_cloth_l1
  with_reducible repeat' (first | exact m_F_raddleref01_Mod _ _ | exact m_F_raddleref01_Set_s0 _ _ _ _ _ _ | exact Le.rfl _ | refine Le.loop _ ?_ | refine Le.bind ?_ ?_ | refine Le.ite ?_ ?_ | refine Le.sum ?_ ?_ | refine Le.prod ?_ | intro _ | dsimp only)
theorem m_raddlelaw24_cloth_l2 (p1 : Int) (p0 : Int) (r4 : api_Grid) (p2 : Int) : ∀ s, Le (K_raddlelaw24_cloth_l2 p1 p0 r4 p2 s) (raddlelaw24_cloth_l2 p1 p0 r4 p2 s) := by
  unfold K_raddlelaw24_cloth_l2 raddlelaw24_cloth_l2
  with_reducible repeat' (first | exact m_raddlelaw24_cloth_l1 _ _ _ _ | exact Le.rfl _ | refine Le.loop _ ?_ | refine Le.bind ?_ ?_ | refine Le.ite ?_ ?_ | refine Le.sum ?_ ?_ | refine Le.prod ?_ | intro _ | dsimp only)
theorem m_F_raddlelaw24_cloth (p0 : Int) (p1 : Int) (p2 : Int) : Le (K_raddlelaw24_cloth p0 p1 p2) (F_raddlelaw24_cloth p0 p1 p2) := by
  unfold K_raddlelaw24_cloth F_raddlelaw24_cloth
  with_reducible repeat' (first | exact m_F_raddleref01_Zero_s0 _ _ | exact m_raddlelaw24_cloth_l2 _ _ _ _ | exact Le.rfl _ | refine Le.loop _ ?_ | refine Le.bind ?_ ?_ | refine Le.ite ?_ ?_ | refine Le.sum ?_ ?_ | refine Le.prod ?_ | intro _ | dsimp only)
theorem m_F_grid_Check (p0 : api_Grid) : Le (K_grid_Check p0) (F_grid_Check p0) := by
  unfold K_grid_Check F_grid_Check
  with_reducible repeat' (first | exact Le.rfl _ | refine Le.loop _ ?_ | refine Le.bind ?_ ?_ | refine Le.ite ?_ ?_ | refine Le.sum ?_ ?_ | refine Le.prod ?_ | intro _ | dsimp only)
theorem m_F_sett_Turns_1_s0 (p0 : Int) (p1 : api_Grid) (p2 : Int) : Le (K_sett_Turns_1_s0 p0 p1 p2) (F_sett_Turns_1_s0 p0 p1 p2) := by
  unfold K_sett_Turns_1_s0 F_sett_Turns_1_s0
  with_reducible repeat' (first | exact Le.rfl _ | refine Le.loop _ ?_ | refine Le.bind ?_ ?_ | refine Le.ite ?_ ?_ | refine Le.sum ?_ ?_ | refine Le.prod ?_ | intro _ | dsimp only)
theorem m_sett_line_turns_s0_l1 (p0 : Int) (p1 : api_Grid) (p2 : Int) : ∀ s, Le (K_sett_line_turns_s0_l1 p0 p1 p2 s) (sett_line_turns_s0_l1 p0 p1 p2 s) := by
  unfold K_sett_line_turns_s0_l1 sett_line_turns_s0_l1
  with_reducible repeat' (first | exact m_F_sett_Turns_1_s0 _ _ _ | exact Le.rfl _ | refine Le.loop _ ?_ | refine Le.bind ?_ ?_ | refine Le.ite ?_ ?_ | refine Le.sum ?_ ?_ | refine Le.prod ?_ | intro _ | dsimp only)
theorem m_F_sett_line_turns_s0 (p0 : Int) (p1 : api_Grid) (p2 : Int) : Le (K_sett_line_turns_s0 p0 p1 p2) (F_sett_line_turns_s0 p0 p1 p2) := by
  unfold K_sett_line_turns_s0 F_sett_line_turns_s0
  with_reducible repeat' (first | exact m_sett_line_turns_s0_l1 _ _ _ | exact Le.rfl _ | refine Le.loop _ ?_ | refine Le.bind ?_ ?_ | refine Le.ite ?_ ?_ | refine Le.sum ?_ ?_ | refine Le.prod ?_ | intro _ | dsimp only)
theorem m_sett_Turns_l1 (p0 : api_Grid) : ∀ s, Le (K_sett_Turns_l1 p0 s) (sett_Turns_l1 p0 s) := by
  unfold K_sett_Turns_l1 sett_Turns_l1
  with_reducible repeat' (first | exact m_F_sett_line_turns_s0 _ _ _ | exact Le.rfl _ | refine Le.loop _ ?_ | refine Le.bind ?_ ?_ | refine Le.ite ?_ ?_ | refine Le.sum ?_ ?_ | refine Le.prod ?_ | intro _ | dsimp only)
theorem m_F_sett_Turns_2_s0 (p0 : Int) (p1 : api_Grid) (p2 : Int) : Le (K_sett_Turns_2_s0 p0 p1 p2) (F_sett_Turns_2_s0 p0 p1 p2) := by
  unfold K_sett_Turns_2_s0 F_sett_Turns_2_s0
  with_reducible repeat' (first | exact Le.rfl _ | refine Le.loop _ ?_ | refine Le.bind ?_ ?_ | refine Le.ite ?_ ?_ | refine Le.sum ?_ ?_ | refine Le.prod ?_ | intro _ | dsimp only)
theorem m_sett_line_turns_s1_l1 (p0 : Int) (p1 : api_Grid) (p2 : Int) : ∀ s, Le (K_sett_line_turns_s1_l1 p0 p1 p2 s) (sett_line_turns_s1_l1 p0 p1 p2 s) := by
  unfold K_sett_line_turns_s1_l1 sett_line_turns_s1_l1
  with_reducible repeat' (first | exact m_F_sett_Turns_2_s0 _ _ _ | exact Le.rfl _ | refine Le.loop _ ?_ | refine Le.bind ?_ ?_ | refine Le.ite ?_ ?_ | refine Le.sum ?_ ?_ | refine Le.prod ?_ | intro _ | dsimp only)
theorem m_F_sett_line_turns_s1 (p0 : Int) (p1 : api_Grid) (p2 : Int) : Le (K_sett_line_turns_s1 p0 p1 p2) (F_sett_line_turns_s1 p0 p1 p2) := by
  unfold K_sett_line_turns_s1 F_sett_line_turns_s1
  with_reducible repeat' (first | exact m_sett_line_turns_s1_l1 _ _ _ | exact Le.rfl _ | refine Le.loop _ ?_ | refine Le.bind ?_ ?_ | refine Le.ite ?_ ?_ | refine Le.sum ?_ ?_ | refine Le.prod ?_ | intro _ | dsimp only)
theorem m_sett_Turns_l2 (p0 : api_Grid) : ∀ s, Le (K_sett_Turns_l2 p0 s) (sett_Turns_l2 p0 s) := by
  unfold K_sett_Turns_l2 sett_Turns_l2
  with_reducible repeat' (first | exact m_F_sett_line_turns_s1 _ _ _ | exact Le.rfl _ | refine Le.loop _ ?_ | refine Le.bind ?_ ?_ | refine Le.ite ?_ ?_ | refine Le.sum ?_ ?_ | refine Le.prod ?_ | intro _ | dsimp only)
theorem m_F_sett_Turns (p0 : api_Grid) : Le (K_sett_Turns p0) (F_sett_Turns p0) := by
  unfold K_sett_Turns F_sett_Turns
  with_reducible repeat' (first | exact m_F_grid_Check _ | exact m_sett_Turns_l1 _ | exact m_sett_Turns_l2 _ | exact Le.rfl _ | refine Le.loop _ ?_ | refine Le.bind ?_ ?_ | refine Le.ite ?_ ?_ | refine Le.sum ?_ ?_ | refine Le.prod ?_ | intro _ | dsimp only)
theorem m_sett_sum_l1 (p1 : (List Int)) : ∀ s, Le (K_sett_sum_l1 p1 s) (sett_sum_l1 p1 s) := by
  unfold K_sett_sum_l1 sett_sum_l1
  with_reducible repeat' (first | exact Le.rfl _ | refine Le.loop _ ?_ | refine Le.bind ?_ ?_ | refine Le.ite ?_ ?_ | refine Le.sum ?_ ?_ | refine Le.prod ?_ | intro _ | dsimp only)
theorem m_F_sett_sum (p0 : Int) (p1 : (List Int)) : Le (K_sett_sum p0 p1) (F_sett_sum p0 p1) := by
  unfold K_sett_sum F_sett_sum
  with_reducible repeat' (first | exact m_sett_sum_l1 _ | exact Le.rfl _ | refine Le.loop _ ?_ | refine Le.bind ?_ ?_ | refine Le.ite ?_ ?_ | refine Le.sum ?_ ?_ | refine Le.prod ?_ | intro _ | dsimp only)
theorem m_F_yarn_size (p0 : Int) : Le (K_yarn_size p0) (F_yarn_size p0) := by
  unfold K_yarn_size F_yarn_size
  with_reducible repeat' (first | exact Le.rfl _ | refine Le.loop _ ?_ | refine Le.bind ?_ ?_ | refine Le.ite ?_ ?_ | refine Le.sum ?_ ?_ | refine Le.prod ?_ | intro _ | dsimp only)
theorem m_yarn_gcd_l1  : ∀ s, Le (K_yarn_gcd_l1  s) (yarn_gcd_l1  s) := by
  unfold K_yarn_gcd_l1 yarn_gcd_l1
  with_reducible repeat' (first | exact Le.rfl _ | refine Le.loop _ ?_ | refine Le.bind ?_ ?_ | refine Le.ite ?_ ?_ | refine Le.sum ?_ ?_ | refine Le.prod ?_ | intro _ | dsimp only)
theorem m_F_yarn_gcd (p0 : Int) (p1 : Int) : Le (K_yarn_gcd p0 p1) (F_yarn_gcd p0 p1) := by
  unfold K_yarn_gcd F_yarn_gcd
  with_reducible repeat' (first | exact m_yarn_gcd_l1 | exact Le.rfl _ | refine Le.loop _ ?_ | refine Le.bind ?_ ?_ | refine Le.ite ?_ ?_ | refine Le.sum ?_ ?_ | refine Le.prod ?_ | intro _ | dsimp only)
theorem m_F_yarn_Make (p0 : Int) (p1 : Int) : Le (K_yarn_Make p0 p1) (F_yarn_Make p0 p1) := by
  unfold K_yarn_Make F_yarn_Make
  with_reducible repeat' (first | exact m_F_yarn_size _ | exact m_F_yarn_gcd _ _ | exact Le.rfl _ | refine Le.loop _ ?_ | refine Le.bind ?_ ?_ | refine Le.ite ?_ ?_ | refine Le.sum ?_ ?_ | refine Le.prod ?_ | intro _ | dsimp only)
theorem m_F_sett_Setts (p0 : api_Grid) (p1 : Int) : Le (K_sett_Setts p0 p1) (F_sett_Setts p0 p1) := by
  unfold K_sett_Setts F_sett_Setts
  with_reducible repeat' (first | exact m_F_sett_Turns _ | exact m_F_sett_sum _ _ | exact m_F_yarn_Make _ _ | exact Le.rfl _ | refine Le.loop _ ?_ | refine Le.bind ?_ ?_ | refine Le.ite ?_ ?_ | refine Le.sum ?_ ?_ | refine Le.prod ?_ | intro _ | dsimp only)
theorem m_F_raddlelaw24_part (p0 : Int) (p1 : Int) : Le (K_raddlelaw24_part p0 p1) (F_raddlelaw24_part p0 p1) := by
  unfold K_raddlelaw24_part F_raddlelaw24_part
  with_reducible repeat' (first | exact Le.rfl _ | refine Le.loop _ ?_ | refine Le.bind ?_ ?_ | refine Le.ite ?_ ?_ | refine Le.sum ?_ ?_ | refine Le.prod ?_ | intro _ | dsimp only)
theorem m_F_yarn_Check (p0 : api_Ratio) : Le (K_yarn_Check p0) (F_yarn_Check p0) := by
  unfold K_yarn_Check F_yarn_Check
  with_reducible repeat' (first | exact m_F_yarn_size _ | exact m_F_yarn_gcd _ _ | exact Le.rfl _ | refine Le.loop _ ?_ | refine Le.bind ?_ ?_ | refine Le.ite ?_ ?_ | refine Le.sum ?_ ?_ | refine Le.prod ?_ | intro _ | dsimp only)
theorem m_F_sett_checked (p0 : api_Ratio) (p1 : Bool) (p2 : Int) : Le (K_sett_checked p0 p1 p2) (F_sett_checked p0 p1 p2) := by
  unfold K_sett_checked F_sett_checked
  with_reducible repeat' (first | exact m_F_yarn_Check _ | exact Le.rfl _ | refine Le.loop _ ?_ | refine Le.bind ?_ ?_ | refine Le.ite ?_ ?_ | refine Le.sum ?_ ?_ | refine Le.prod ?_ | intro _ | dsimp only)
theorem m_F_sett_over_int64_ (p0 : Int) (p1 : Int) (p2 : Bool) : Le (K_sett_over_int64_ p0 p1 p2) (F_sett_over_int64_ p0 p1 p2) := by
  unfold K_sett_over_int64_ F_sett_over_int64_
  with_reducible repeat' (first | exact Le.rfl _ | refine Le.loop _ ?_ | refine Le.bind ?_ ?_ | refine Le.ite ?_ ?_ | refine Le.sum ?_ ?_ | refine Le.prod ?_ | intro _ | dsimp only)
theorem m_F_sett_Ends (p0 : Int) (p1 : api_Ratio) : Le (K_sett_Ends p0 p1) (F_sett_Ends p0 p1) := by
  unfold K_sett_Ends F_sett_Ends
  with_reducible repeat' (first | exact m_F_sett_checked _ _ _ | exact m_F_sett_over_int64_ _ _ _ | exact Le.rfl _ | refine Le.loop _ ?_ | refine Le.bind ?_ ?_ | refine Le.ite ?_ ?_ | refine Le.sum ?_ ?_ | refine Le.prod ?_ | intro _ | dsimp only)
theorem m_F_math_bits_Mul64 (p0 : Int) (p1 : Int) : Le (K_math_bits_Mul64 p0 p1) (F_math_bits_Mul64 p0 p1) := by
  unfold K_math_bits_Mul64 F_math_bits_Mul64
  with_reducible repeat' (first | exact Le.rfl _ | refine Le.loop _ ?_ | refine Le.bind ?_ ?_ | refine Le.ite ?_ ?_ | refine Le.sum ?_ ?_ | refine Le.prod ?_ | intro _ | dsimp only)
theorem m_F_math_bits_Len64 (p0 : Int) : Le (K_math_bits_Len64 p0) (F_math_bits_Len64 p0) := by
  unfold K_math_bits_Len64 F_math_bits_Len64
  with_reducible repeat' (first | exact Le.rfl _ | refine Le.loop _ ?_ | refine Le.bind ?_ ?_ | refine Le.ite ?_ ?_ | refine Le.sum ?_ ?_ | refine Le.prod ?_ | intro _ | dsimp only)
theorem m_F_math_bits_LeadingZeros64 (p0 : Int) : Le (K_math_bits_LeadingZeros64 p0) (F_math_bits_LeadingZeros64 p0) := by
  unfold K_math_bits_LeadingZeros64 F_math_bits_LeadingZeros64
  with_reducible repeat' (first | exact m_F_math_bits_Len64 _ | exact Le.rfl _ | refine Le.loop _ ?_ | refine Le.bind ?_ ?_ | refine Le.ite ?_ ?_ | refine Le.sum ?_ ?_ | refine Le.prod ?_ | intro _ | dsimp only)
theorem m_math_bits_Div64_l1 (z35 : Int) (z20 : Int) (z23 : Int) : ∀ s, Le (K_math_bits_Div64_l1 z35 z20 z23 s) (math_bits_Div64_l1 z35 z20 z23 s) := by
  unfold K_math_bits_Div64_l1 math_bits_Div64_l1
  with_reducible repeat' (first | exact Le.rfl _ | refine Le.loop _ ?_ | refine Le.bind ?_ ?_ | refine Le.ite ?_ ?_ | refine Le.sum ?_ ?_ | refine Le.prod ?_ | intro _ | dsimp only)
theorem m_math_bits_Div64_l2 (z32 : Int) (z20 : Int) (z23 : Int) : ∀ s, Le (K_math_bits_Div64_l2 z32 z20 z23 s) (math_bits_Div64_l2 z32 z20 z23 s) := by
  unfold K_math_bits_Div64_l2 math_bits_Div64_l2
  with_reducible repeat' (first | exact Le.rfl _ | refine Le.loop _ ?_ | refine Le.bind ?_ ?_ | refine Le.ite ?_ ?_ | refine Le.sum ?_ ?_ | refine Le.prod ?_ | intro _ | dsimp only)
theorem m_F_math_bits_Div64 (p0 : Int) (p1 : Int) (p2 : Int) : Le (K_math_bits_Div64 p0 p1 p2) (F_math_bits_Div64 p0 p1 p2) := by
  unfold K_math_bits_Div64 F_math_bits_Div64
  with_reducible repeat' (first | exact m_F_math_bits_LeadingZeros64 _ | exact m_math_bits_Div64_l1 _ _ _ | exact m_math_bits_Div64_l2 _ _ _ | exact Le.rfl _ | refine Le.loop _ ?_ | refine Le.bind ?_ ?_ | refine Le.ite ?_ ?_ | refine Le.sum ?_ ?_ | refine Le.prod ?_ | intro _ | dsimp only)
theorem m_F_sett_Width (p0 : Int) (p1 : api_Ratio) : Le (K_sett_Width p0 p1) (F_sett_Width p0 p1) := by
  unfold K_sett_Width F_sett_Width
  with_reducible repeat' (first | exact m_F_sett_checked _ _ _ | exact m_F_math_bits_Mul64 _ _ | exact m_F_math_bits_Div64 _ _ _ | exact Le.rfl _ | refine Le.loop _ ?_ | refine Le.bind ?_ ?_ | refine Le.ite ?_ ?_ | refine Le.sum ?_ ?_ | refine Le.prod ?_ | intro _ | dsimp only)
theorem m_F_sett_upTo (p0 : api_Ratio) (p1 : Int) : Le (K_sett_upTo p0 p1) (F_sett_upTo p0 p1) := by
  unfold K_sett_upTo F_sett_upTo
  with_reducible repeat' (first | exact m_F_sett_checked _ _ _ | exact Le.rfl _ | refine Le.loop _ ?_ | refine Le.bind ?_ ?_ | refine Le.ite ?_ ?_ | refine Le.sum ?_ ?_ | refine Le.prod ?_ | intro _ | dsimp only)
theorem m_F_sett_Need (p0 : Int) (p1 : api_Ratio) : Le (K_sett_Need p0 p1) (F_sett_Need p0 p1) := by
  unfold K_sett_Need F_sett_Need
  with_reducible repeat' (first | exact m_F_sett_upTo _ _ | exact m_F_sett_over_int64_ _ _ _ | exact Le.rfl _ | refine Le.loop _ ?_ | refine Le.bind ?_ ?_ | refine Le.ite ?_ ?_ | refine Le.sum ?_ ?_ | refine Le.prod ?_ | intro _ | dsimp only)
theorem m_raddleref24_Same_l1 (p0 : (List Int)) (p1 : (List Int)) : ∀ s, Le (K_raddleref24_Same_l1 p0 p1 s) (raddleref24_Same_l1 p0 p1 s) := by
  unfold K_raddleref24_Same_l1 raddleref24_Same_l1
  with_reducible repeat' (first | exact Le.rfl _ | refine Le.loop _ ?_ | refine Le.bind ?_ ?_ | refine Le.ite ?_ ?_ | refine Le.sum ?_ ?_ | refine Le.prod ?_ | intro _ | dsimp only)
theorem m_F_raddleref24_Same (p0 : (List Int)) (p1 : (List Int)) : Le (K_raddleref24_Same p0 p1) (F_raddleref24_Same p0 p1) := by
  unfold K_raddleref24_Same F_raddleref24_Same
  with_reducible repeat' (first | exact m_raddleref24_Same_l1 _ _ | exact Le.rfl _ | refine Le.loop _ ?_ | refine Le.bind ?_ ?_ | refine Le.ite ?_ ?_ | refine Le.sum ?_ ?_ | refine Le.prod ?_ | intro _ | dsimp only)
set_option maxRecDepth 1000000 in
theorem kc_raddlelaw24_alive_0 : F_raddlelaw24_cloth 2 2 1 = some (api_Grid.mk 2 2 [true, false, false, true]) := m_F_raddlelaw24_cloth _ _ _ _ (by kernel_rfl)
set_option maxRecDepth 1000000 in
theorem kc_raddlelaw24_alive_1 : F_sett_Turns ((api_Grid.mk 2 2 [true, false, false, true])) = some ([2, 2], ([2, 2], 0)) := m_F_sett_Turns _ _ (by kernel_rfl)
set_option maxRecDepth 1000000 in
theorem kc_raddlelaw24_alive_2 : F_sett_Setts ((api_Grid.mk 2 2 [true, false, false, true])) 200 = some ((api_Ratio.mk 100 1), ((api_Ratio.mk 100 1), 0)) := m_F_sett_Setts _ _ _ (by kernel_rfl)
set_option maxRecDepth 1000000 in
theorem kc_raddlelaw24_alive_3 : F_raddlelaw24_cloth 4 4 2 = some (api_Grid.mk 4 4 [true, true, false, false, false, true, true, false, false, false, true, true, true, false, false, true]) := m_F_raddlelaw24_cloth _ _ _ _ (by kernel_rfl)
set_option maxRecDepth 1000000 in
theorem kc_raddlelaw24_alive_4 : F_sett_Setts ((api_Grid.mk 4 4 [true, true, false, false, false, true, true, false, false, false, true, true, true, false, false, true])) 200 = some ((api_Ratio.mk 400 3), ((api_Ratio.mk 400 3), 0)) := m_F_sett_Setts _ _ _ (by kernel_rfl)
set_option maxRecDepth 1000000 in
theorem kc_raddlelaw24_alive_5 : F_raddlelaw24_cloth 3 2 3 = some (api_Grid.mk 3 2 [true, true, true, true, true, true]) := m_F_raddlelaw24_cloth _ _ _ _ (by kernel_rfl)
set_option maxRecDepth 1000000 in
theorem kc_raddlelaw24_alive_6 : F_sett_Setts ((api_Grid.mk 3 2 [true, true, true, true, true, true])) 200 = some ((api_Ratio.mk 200 1), ((api_Ratio.mk 200 1), 0)) := m_F_sett_Setts _ _ _ (by kernel_rfl)
set_option maxRecDepth 1000000 in
theorem kc_raddlelaw24_alive_7 : F_raddlelaw24_part 100 1 = some (api_Ratio.mk 100 1) := m_F_raddlelaw24_part _ _ _ (by kernel_rfl)
set_option maxRecDepth 1000000 in
theorem kc_raddlelaw24_alive_8 : F_sett_Ends 1005 ((api_Ratio.mk 100 1)) = some (100, 0) := m_F_sett_Ends _ _ _ (by kernel_rfl)
set_option maxRecDepth 1000000 in
theorem kc_raddlelaw24_alive_9 : F_sett_Width 100 ((api_Ratio.mk 100 1)) = some (1000, 0) := m_F_sett_Width _ _ _ (by kernel_rfl)
set_option maxRecDepth 1000000 in
theorem kc_raddlelaw24_alive_10 : F_raddlelaw24_part 1 10 = some (api_Ratio.mk 1 10) := m_F_raddlelaw24_part _ _ _ (by kernel_rfl)
set_option maxRecDepth 1000000 in
theorem kc_raddlelaw24_alive_11 : F_sett_Need 1000 ((api_Ratio.mk 1 10)) = some (1100, 0) := m_F_sett_Need _ _ _ (by kernel_rfl)
set_option maxRecDepth 1000000 in
theorem kc_raddlelaw24_alive_12 : F_raddleref24_Same (([2, 2], ([2, 2], 0))).1 ([2, 2] : List Int) = some true := m_F_raddleref24_Same _ _ _ (by kernel_rfl)
set_option maxRecDepth 1000000 in
theorem kc_raddlelaw24_alive_13 : F_raddleref24_Same (([2, 2], ([2, 2], 0))).2.1 ([2, 2] : List Int) = some true := m_F_raddleref24_Same _ _ _ (by kernel_rfl)
set_option maxRecDepth 1000000 in
theorem kc_raddlelaw24_alive_14 : F_raddlelaw24_part 400 3 = some (api_Ratio.mk 400 3) := m_F_raddlelaw24_part _ _ _ (by kernel_rfl)
set_option maxRecDepth 1000000 in
theorem kc_raddlelaw24_alive_15 : F_raddlelaw24_part 200 1 = some (api_Ratio.mk 200 1) := m_F_raddlelaw24_part _ _ _ (by kernel_rfl)
end Go.Proofs.Ytjndecalogklhaa
