/- Several texts in one: KeAlive G24 KvAlive PlA PlB PlS PlSu PlT G52 G52s0 G31 PlTw G17 G43 G23 -/
import Derived.WalkKit
import Derived.Maps.AppendAt
import Derived.Deep.AppendLies
import Derived.KernelRfl
import Derived.Laws.OwnMore
import Derived.Great.BuildSlice
import Derived.Orders
import Derived.Laws.StructEq
import Derived.ChangeKeysEq
import Derived.Defers
import Derived.Laws.BytesString
import Derived.RangeFuncNested
import Derived.RangeFuncBound
import Derived.RangeFuncCalls
import Derived.RangeFuncLeaves
import Derived.OrdersIn
import Derived.LoopNIn
import Derived.Test.YtdbgkakmhlmpbaaProg
import Derived.ProofKit
import Derived.OpenShut
import Derived.ChangeOld
import Derived.Deep.Slices
import Derived.Lib.SmallJoins
import Derived.JoinedOf
import Derived.JoinedAt
import Derived.Below
import Derived.Test.YtdbgkakmhlmpbaaRows
import Derived.Test.YtdbgkakmhlmpbaaMCostSides5
namespace Go.Proofs.Ytdbgkakmhlmpbaa
open Go.RowKit
set_option linter.unusedVariables false

def K_raddleref25_Cut_l1 (p0 : ByteArray) (p1 : Int) : (List ByteArray × Int × Int) → Option ((List ByteArray × Int × Int) ⊕ List ByteArray) := fun s0 => match s0 with
  | (s10, s13, s14) =>
    if decide (s14 ≤ (p0.size : Int)) then
      Option.bind (α := (List ByteArray × Int)) (
        Option.bind (α := Bool) (
          if s14 == (p0.size : Int) then
            some true
          else
            Option.bind (idxS p0 s14) fun x34 =>
            some (x34 == p1)) fun o30 =>
        if o30 then
          Option.bind (sliceS p0 s13 s14) fun y38 =>
          Option.bind (appO s10 [y38]) fun l42 =>
          some (l42, w64 (s14 + 1))
        else
          some (s10, s13)) fun (o24, o27) =>
      some (.inl (o24, o27, w64 (s14 + 1)))
    else
      some (.inr s10)
def K_raddleref25_Cut (p0 : ByteArray) (p1 : Int) : Option (List ByteArray) :=
  Option.bind (α := List ByteArray) (
    Option.bind (whileK (K_raddleref25_Cut_l1 p0 p1) (([] : List ByteArray), 0, 0)) fun e18 =>
      some e18) fun o4 =>
  some o4
def K_raddleref25_Number_l1 (p0 : ByteArray) : (Int × Int) → Option ((Int × Int) ⊕ ((Int × Bool) ⊕ Int)) := fun s0 => match s0 with
  | (s18, s19) =>
    if decide (s19 < (p0.size : Int)) then
      Option.bind (α := Bool) (
        Option.bind (idxS p0 s19) fun x32 =>
        if decide (x32 < 48) then
          some true
        else
          some (decide (57 < x32))) fun o29 =>
      if o29 then
        some (.inr (.inl (0, false)))
      else
        Option.bind (idxS p0 s19) fun x37 =>
        some (.inl (w64 ((w64 (10 * s18)) + (IntKind.i64.wrap (IntKind.u8.wrap (x37 - 48)))), w64 (s19 + 1)))
    else
      some (.inr (.inr s18))
def K_raddleref25_Number (p0 : ByteArray) : Option (Int × Bool) :=
  Option.bind (α := Bool) (
    if (p0.size : Int) == 0 then
      some true
    else
      if decide (4 < (p0.size : Int)) then
        some true
      else
        if decide (1 < (p0.size : Int)) then
          Option.bind (idxS p0 0) fun x9 =>
          some (x9 == 48)
        else
          some false) fun o3 =>
  if o3 then
    some (0, false)
  else
    Option.bind (α := Int ⊕ (Int × Bool)) (
      Option.bind (whileK (K_raddleref25_Number_l1 p0) (0, 0)) fun z0 => match z0 with
        | .inl z =>
          some (.inr z)
        | .inr e23 =>
          some (.inl e23)) fun z0 => match z0 with
      | .inl o14 =>
        some (o14, true)
      | .inr z =>
        some z
def K_raddleref26_Parse_l1 (r8 : (List ByteArray)) (s54 : Int) : Int → Option (Int ⊕ Int) := fun s0 => match s0 with
  | s76 =>
    Option.bind (α := Bool) (
      Option.bind (idxO r8 s54) fun x85 =>
      if decide (s76 < (x85.size : Int)) then
        Option.bind (idxS x85 s76) fun x94 =>
        some (x94 != 32)
      else
        some false) fun o82 =>
    if o82 then
      some (.inl (w64 (s76 + 1)))
    else
      some (.inr s76)
def K_raddleref25_word_l1 (r49 : (Int × Bool)) (x35 : Int) : (List api_Stitch × Int) → Option ((List api_Stitch × Int) ⊕ List api_Stitch) := fun s0 => match s0 with
  | (s60, s63) =>
    Option.bind (α := Bool) (
      if decide (s63 < r49.1) then
        some (decide (s63 < 300))
      else
        some false) fun o71 =>
    if o71 then
      Option.bind (appO s60 [(api_Stitch.mk 1 (x35 == 112) 0 0)]) fun l79 =>
      some (.inl (l79, w64 (s63 + 1)))
    else
      some (.inr s60)
def K_raddleref25_kind_l1 (p0 : Int) : Int → Option (Int ⊕ (Int ⊕ Unit)) := fun s0 => match s0 with
  | s9 =>
    if decide (s9 < ((⟨#[102, 108, 109, 120, 121, 115, 111]⟩ : ByteArray).size : Int)) then
      Option.bind (idxS (⟨#[102, 108, 109, 120, 121, 115, 111]⟩ : ByteArray) s9) fun x18 =>
      if x18 == p0 then
        Option.bind (idxO ([3, 4, 5, 6, 7, 8, 10] : List Int) s9) fun x22 =>
        some (.inr (.inl x22))
      else
        some (.inl (w64 (s9 + 1)))
    else
      some (.inr (.inr ()))
def K_raddleref25_kind (p0 : Int) : Option Int :=
  Option.bind (α := Unit ⊕ Int) (
    Option.bind (whileK (K_raddleref25_kind_l1 p0) 0) fun z0 => match z0 with
      | .inl z =>
        some (.inr z)
      | .inr _ =>
        some (.inl ())) fun z0 => match z0 with
    | .inl _ =>
      some 0
    | .inr z =>
      some z
def K_raddleref25_word (p0 : ByteArray) : Option ((List api_Stitch) × Bool) :=
  if p0 == (⟨#[121, 111]⟩ : ByteArray) then
    some ([(api_Stitch.mk 2 false 0 0)], true)
  else
    Option.bind (α := Bool) (
      if decide (2 < (p0.size : Int)) then
        Option.bind (sliceS p0 0 2) fun y13 =>
        some (y13 == (⟨#[111, 110]⟩ : ByteArray))
      else
        some false) fun o9 =>
    if o9 then
      Option.bind (sliceS p0 2 (p0.size : Int)) fun y17 =>
      Option.bind (K_raddleref25_Number y17) fun r19 =>
      some ([(api_Stitch.mk 9 false r19.1 0)], r19.2)
    else
      Option.bind (α := Bool) (
        if (p0.size : Int) == 0 then
          some true
        else
          Option.bind (idxS p0 0) fun x29 =>
          if x29 != 107 then
            some (x29 != 112)
          else
            some false) fun o25 =>
      if o25 then
        some (([] : (List api_Stitch)), false)
      else
        Option.bind (idxS p0 0) fun x35 =>
        if (p0.size : Int) == 1 then
          some ([(api_Stitch.mk 1 (x35 == 112) 0 0)], true)
        else
          Option.bind (α := Unit ⊕ ((List api_Stitch) × Bool)) (
            Option.bind (sliceS p0 1 (p0.size : Int)) fun y47 =>
            Option.bind (K_raddleref25_Number y47) fun r49 =>
            if r49.2 then
              Option.bind (α := List api_Stitch) (
                Option.bind (whileK (K_raddleref25_word_l1 r49 x35) (([] : List api_Stitch), 0)) fun e67 =>
                  some e67) fun o54 =>
              some (.inr (o54, decide (1 < r49.1)))
            else
              some (.inl ())) fun z0 => match z0 with
            | .inl _ =>
              Option.bind (idxS p0 1) fun x85 =>
              Option.bind (K_raddleref25_kind x85) fun r87 =>
              if r87 == 8 then
                some ([(api_Stitch.mk r87 (x35 == 112) 0 0)], (p0.size : Int) == 2)
              else
                Option.bind (sliceS p0 2 (p0.size : Int)) fun y96 =>
                Option.bind (K_raddleref25_Cut y96 47) fun r98 =>
                Option.bind (α := Bool) (
                  if r87 != 0 then
                    some ((r98.length : Int) == 1)
                  else
                    some false) fun o103 =>
                Option.bind (α := (Bool × Int)) (
                  Option.bind (α := Bool) (
                    if r87 == 6 then
                      some true
                    else
                      some (r87 == 7)) fun o111 =>
                  if o111 then
                    if (r98.length : Int) == 2 then
                      Option.bind (idxO r98 1) fun x119 =>
                      Option.bind (K_raddleref25_Number x119) fun r124 =>
                      some (r124.2, r124.1)
                    else
                      some ((r98.length : Int) == 2, 0)
                  else
                    some (o103, 0)) fun (o107, o108) =>
                Option.bind (idxO r98 0) fun x127 =>
                Option.bind (K_raddleref25_Number x127) fun r132 =>
                Option.bind (α := Bool) (
                  if o107 then
                    some r132.2
                  else
                    some false) fun o137 =>
                some ([(api_Stitch.mk r87 (x35 == 112) r132.1 o108)], o137)
            | .inr z =>
              some z
def K_raddleref25_Parse_l1 (r11 : (List ByteArray)) : (List api_Stitch × Int) → Option ((List api_Stitch × Int) ⊕ (((List api_Stitch) × Int) ⊕ (List api_Stitch))) := fun s0 => match s0 with
  | (s23, s26) =>
    if decide (s26 < (r11.length : Int)) then
      Option.bind (idxO r11 s26) fun x38 =>
      Option.bind (K_raddleref25_word x38) fun r43 =>
      if !r43.2 then
        some (.inr (.inl (([] : (List api_Stitch)), 12)))
      else
        Option.bind (appO s23 r43.1) fun l53 =>
        if decide (200 < (l53.length : Int)) then
          some (.inr (.inl (([] : (List api_Stitch)), 12)))
        else
          some (.inl (l53, w64 (s26 + 1)))
    else
      some (.inr (.inr s23))
def K_raddleref25_Check (p0 : api_Stitch) : Option Int :=
  Option.bind (α := Bool) (
    if p0.A == 0 then
      some (p0.B == 0)
    else
      some false) fun o3 =>
  Option.bind (α := Bool) (
    Option.bind (α := Bool) (
      if p0.Kind == 1 then
        some (p0.Kind == 1)
      else
        some (p0.Kind == 8)) fun o12 =>
    if o12 then
      some o3
    else
      if p0.Kind == 2 then
        if o3 then
          some (!p0.Purl)
        else
          some false
      else
        Option.bind (α := Bool) (
          if p0.Kind == 3 then
            some (p0.Kind == 3)
          else
            if p0.Kind == 4 then
              some (p0.Kind == 4)
            else
              some (p0.Kind == 5)) fun o21 =>
        if o21 then
          if p0.B == 0 then
            if decide (2 ≤ p0.A) then
              some (decide (p0.A ≤ 4))
            else
              some false
          else
            some false
        else
          Option.bind (α := Bool) (
            if p0.Kind == 6 then
              some (p0.Kind == 6)
            else
              some (p0.Kind == 7)) fun o31 =>
          if o31 then
            if decide (1 ≤ p0.A) then
              if decide (p0.A ≤ 6) then
                if decide (1 ≤ p0.B) then
                  some (decide (p0.B ≤ 6))
                else
                  some false
              else
                some false
            else
              some false
          else
            if p0.Kind == 9 then
              if p0.B == 0 then
                if !p0.Purl then
                  if decide (1 ≤ p0.A) then
                    some (decide (p0.A ≤ 200))
                  else
                    some false
                else
                  some false
              else
                some false
            else
              if p0.Kind == 10 then
                if p0.B == 0 then
                  if decide (1 ≤ p0.A) then
                    some (decide (p0.A ≤ 200))
                  else
                    some false
                else
                  some false
              else
                some false) fun o8 =>
  if !o8 then
    some 8
  else
    some 0
def K_raddleref25_All_l1 (p0 : (List api_Stitch)) : Int → Option (Int ⊕ (Int ⊕ Unit)) := fun s0 => match s0 with
  | s11 =>
    if decide (s11 < (p0.length : Int)) then
      Option.bind (idxO p0 s11) fun x20 =>
      Option.bind (K_raddleref25_Check x20) fun r25 =>
      if r25 != 0 then
        some (.inr (.inl 8))
      else
        some (.inl (w64 (s11 + 1)))
    else
      some (.inr (.inr ()))
def K_raddleref25_Used (p0 : api_Stitch) : Option Int :=
  Option.bind (α := Bool) (
    if p0.Kind == 2 then
      some (p0.Kind == 2)
    else
      some (p0.Kind == 9)) fun o5 =>
  if o5 then
    some 0
  else
    Option.bind (α := Bool) (
      if p0.Kind == 3 then
        some (p0.Kind == 3)
      else
        if p0.Kind == 4 then
          some (p0.Kind == 4)
        else
          some (p0.Kind == 10)) fun o12 =>
    if o12 then
      some p0.A
    else
      Option.bind (α := Bool) (
        if p0.Kind == 6 then
          some (p0.Kind == 6)
        else
          some (p0.Kind == 7)) fun o21 =>
      if o21 then
        some (w64 (p0.A + p0.B))
      else
        some 1
def K_raddleref25_Gives (p0 : api_Stitch) : Option Int :=
  if p0.Kind == 10 then
    some 0
  else
    Option.bind (α := Bool) (
      if p0.Kind == 5 then
        some (p0.Kind == 5)
      else
        some (p0.Kind == 9)) fun o8 =>
    if o8 then
      some p0.A
    else
      Option.bind (α := Bool) (
        if p0.Kind == 6 then
          some (p0.Kind == 6)
        else
          some (p0.Kind == 7)) fun o15 =>
      if o15 then
        some (w64 (p0.A + p0.B))
      else
        some 1
def K_raddleref25_sums_l1 (p0 : (List api_Stitch)) : (Int × Int × Int) → Option ((Int × Int × Int) ⊕ (Int × Int)) := fun s0 => match s0 with
  | (s10, s11, s12) =>
    if decide (s12 < (p0.length : Int)) then
      Option.bind (idxO p0 s12) fun x23 =>
      Option.bind (K_raddleref25_Used x23) fun r28 =>
      Option.bind (K_raddleref25_Gives x23) fun r33 =>
      some (.inl (w64 (s10 + r28), w64 (s11 + r33), w64 (s12 + 1)))
    else
      some (.inr (s10, s11))
def K_raddleref25_sums (p0 : (List api_Stitch)) : Option (Int × Int) :=
  Option.bind (α := (Int × Int)) (
    Option.bind (whileK (K_raddleref25_sums_l1 p0) (0, 0, 0)) fun (e16, e17) =>
      some (e16, e17)) fun (o5, o6) =>
  some (o5, o6)
def K_raddleref25_All (p0 : (List api_Stitch)) : Option Int :=
  if decide (200 < (p0.length : Int)) then
    some 4
  else
    Option.bind (α := Unit ⊕ Int) (
      Option.bind (whileK (K_raddleref25_All_l1 p0) 0) fun z0 => match z0 with
        | .inl z =>
          some (.inr z)
        | .inr _ =>
          some (.inl ())) fun z0 => match z0 with
      | .inl _ =>
        Option.bind (K_raddleref25_sums p0) fun r30 =>
        Option.bind (α := Bool) (
          if decide (200 < r30.1) then
            some true
          else
            some (decide (200 < r30.2))) fun o33 =>
        if o33 then
          some 4
        else
          some 0
      | .inr z =>
        some z
def K_raddleref25_Decimal_l1  : (Int × ByteArray) → Option ((Int × ByteArray) ⊕ ByteArray) := fun s0 => match s0 with
  | (s13, s14) =>
    if decide (0 < s13) then
      Option.bind (remI s13 10) fun z23 =>
      Option.bind (addS (strO ([IntKind.u8.wrap (w64 (48 + z23))] : List Int)) s14) fun z27 =>
      Option.bind (quoI s13 10) fun z29 =>
      some (.inl (z29, z27))
    else
      some (.inr s14)
def K_raddleref25_Decimal (p0 : Int) : Option ByteArray :=
  Option.bind (remI p0 10) fun z3 =>
  Option.bind (α := ByteArray) (
    Option.bind (quoI p0 10) fun z11 =>
    Option.bind (whileK (K_raddleref25_Decimal_l1) (z11, strO ([IntKind.u8.wrap (w64 (48 + z3))] : List Int))) fun e18 =>
      some e18) fun o7 =>
  some o7
def K_raddleref25_one (p0 : api_Stitch) : Option ByteArray :=
  Option.bind (α := ByteArray) (
    if p0.Purl then
      some (⟨#[112]⟩ : ByteArray)
    else
      some (⟨#[107]⟩ : ByteArray)) fun o4 =>
  if p0.Kind == 1 then
    some o4
  else
    if p0.Kind == 2 then
      some (⟨#[121, 111]⟩ : ByteArray)
    else
      if p0.Kind == 3 then
        Option.bind (addS o4 (⟨#[102]⟩ : ByteArray)) fun z20 =>
        Option.bind (K_raddleref25_Decimal p0.A) fun r22 =>
        Option.bind (addS z20 r22) fun z24 =>
        some z24
      else
        if p0.Kind == 4 then
          Option.bind (addS o4 (⟨#[108]⟩ : ByteArray)) fun z29 =>
          Option.bind (K_raddleref25_Decimal p0.A) fun r31 =>
          Option.bind (addS z29 r31) fun z33 =>
          some z33
        else
          if p0.Kind == 5 then
            Option.bind (addS o4 (⟨#[109]⟩ : ByteArray)) fun z38 =>
            Option.bind (K_raddleref25_Decimal p0.A) fun r40 =>
            Option.bind (addS z38 r40) fun z42 =>
            some z42
          else
            if p0.Kind == 6 then
              Option.bind (addS o4 (⟨#[120]⟩ : ByteArray)) fun z47 =>
              Option.bind (K_raddleref25_Decimal p0.A) fun r49 =>
              Option.bind (addS z47 r49) fun z51 =>
              Option.bind (addS z51 (⟨#[47]⟩ : ByteArray)) fun z53 =>
              Option.bind (K_raddleref25_Decimal p0.B) fun r55 =>
              Option.bind (addS z53 r55) fun z57 =>
              some z57
            else
              if p0.Kind == 7 then
                Option.bind (addS o4 (⟨#[121]⟩ : ByteArray)) fun z62 =>
                Option.bind (K_raddleref25_Decimal p0.A) fun r64 =>
                Option.bind (addS z62 r64) fun z66 =>
                Option.bind (addS z66 (⟨#[47]⟩ : ByteArray)) fun z68 =>
                Option.bind (K_raddleref25_Decimal p0.B) fun r70 =>
                Option.bind (addS z68 r70) fun z72 =>
                some z72
              else
                if p0.Kind == 8 then
                  Option.bind (addS o4 (⟨#[115]⟩ : ByteArray)) fun z77 =>
                  some z77
                else
                  if p0.Kind == 9 then
                    Option.bind (K_raddleref25_Decimal p0.A) fun r82 =>
                    Option.bind (addS (⟨#[111, 110]⟩ : ByteArray) r82) fun z84 =>
                    some z84
                  else
                    Option.bind (addS o4 (⟨#[111]⟩ : ByteArray)) fun z87 =>
                    Option.bind (K_raddleref25_Decimal p0.A) fun r89 =>
                    Option.bind (addS z87 r89) fun z91 =>
                    some z91
def K_raddleref25_Written_l1 (p0 : (List api_Stitch)) : (Int × Int) → Option ((Int × Int) ⊕ (Int × Int)) := fun s0 => match s0 with
  | (s44, s45) =>
    Option.bind (α := Bool) (
      Option.bind (idxO p0 s44) fun x55 =>
      if x55.Kind == 1 then
        if decide ((w64 (s44 + 1)) < (p0.length : Int)) then
          Option.bind (idxO p0 (w64 (s44 + 1))) fun x64 =>
          some ((x64.Kind == x55.Kind) && ((x64.Purl == x55.Purl) && ((x64.A == x55.A) && ((x64.B == x55.B) && true))))
        else
          some false
      else
        some false) fun o52 =>
    if o52 then
      some (.inl (w64 (s44 + 1), w64 (s45 + 1)))
    else
      some (.inr (s44, s45))
def K_raddleref25_Written_l2 (p0 : (List api_Stitch)) : (ByteArray × Int) → Option ((ByteArray × Int) ⊕ ByteArray) := fun s0 => match s0 with
  | (s9, s10) =>
    if decide (s10 < (p0.length : Int)) then
      Option.bind (α := (ByteArray × Int)) (
        Option.bind (α := ByteArray) (
          if decide (0 < s10) then
            Option.bind (addS s9 (⟨#[32]⟩ : ByteArray)) fun z27 =>
            some z27
          else
            some s9) fun o22 =>
        Option.bind (idxO p0 s10) fun x30 =>
        Option.bind (K_raddleref25_one x30) fun r35 =>
        Option.bind (addS o22 r35) fun z37 =>
        Option.bind (α := (Int × Int)) (
          Option.bind (whileK (K_raddleref25_Written_l1 p0) (s10, 1)) fun (e49, e50) =>
            some (e49, e50)) fun (o40, o41) =>
        if decide (1 < o41) then
          Option.bind (K_raddleref25_Decimal o41) fun r97 =>
          Option.bind (addS z37 r97) fun z99 =>
          some (z99, o40)
        else
          some (z37, o40)) fun (o18, o19) =>
      some (.inl (o18, w64 (o19 + 1)))
    else
      some (.inr s9)
def K_raddleref25_Written (p0 : (List api_Stitch)) : Option ByteArray :=
  Option.bind (α := ByteArray) (
    Option.bind (whileK (K_raddleref25_Written_l2 p0) ((⟨#[]⟩ : ByteArray), 0)) fun e14 =>
      some e14) fun o5 =>
  some o5
def K_raddleref25_Parse (p0 : ByteArray) : Option ((List api_Stitch) × Int) :=
  if decide (3000 < (p0.size : Int)) then
    some (([] : (List api_Stitch)), 12)
  else
    if p0 == (⟨#[]⟩ : ByteArray) then
      some (([] : (List api_Stitch)), 0)
    else
      Option.bind (K_raddleref25_Cut p0 32) fun r11 =>
      Option.bind (α := List api_Stitch ⊕ ((List api_Stitch) × Int)) (
        Option.bind (whileK (K_raddleref25_Parse_l1 r11) (([] : List api_Stitch), 0)) fun z0 => match z0 with
          | .inl z =>
            some (.inr z)
          | .inr e30 =>
            some (.inl e30)) fun z0 => match z0 with
        | .inl o17 =>
          Option.bind (α := Bool) (
            Option.bind (K_raddleref25_All o17) fun r64 =>
            if r64 != 0 then
              some true
            else
              Option.bind (K_raddleref25_Written o17) fun r67 =>
              some (r67 != p0)) fun o61 =>
          if o61 then
            some (([] : (List api_Stitch)), 12)
          else
            some (o17, 0)
        | .inr z =>
          some z
def K_raddleref26_Parse_l2 (r8 : (List ByteArray)) : (Int × List api_Row) → Option ((Int × List api_Row) ⊕ ((api_Chart × Int) ⊕ (List api_Row))) := fun s0 => match s0 with
  | (s54, s55) =>
    if decide ((w64 (s54 + 1)) < (r8.length : Int)) then
      Option.bind (α := List api_Row ⊕ (api_Chart × Int)) (
        Option.bind (α := Int) (
          Option.bind (whileK (K_raddleref26_Parse_l1 r8 s54) 0) fun e80 =>
            some e80) fun o73 =>
        Option.bind (α := Bool) (
          Option.bind (idxO r8 s54) fun x101 =>
          Option.bind (sliceS x101 0 o73) fun y106 =>
          if y106 != (⟨#[102, 114, 111, 110, 116]⟩ : ByteArray) then
            some (y106 != (⟨#[98, 97, 99, 107]⟩ : ByteArray))
          else
            some false) fun o98 =>
        if o98 then
          some (.inr ((api_Chart.mk 0 ([] : (List api_Row))), 12))
        else
          Option.bind (idxO r8 s54) fun x115 =>
          Option.bind (sliceS x115 0 o73) fun y120 =>
          Option.bind (α := List api_Stitch ⊕ (api_Chart × Int)) (
            if decide (o73 < (x115.size : Int)) then
              Option.bind (sliceS x115 (w64 (o73 + 1)) (x115.size : Int)) fun y137 =>
              Option.bind (K_raddleref25_Parse y137) fun r139 =>
              if r139.2 != 0 then
                some (.inr ((api_Chart.mk 0 ([] : (List api_Row))), 12))
              else
                some (.inl r139.1)
            else
              some (.inl ([] : List api_Stitch))) fun z0 => match z0 with
            | .inl o123 =>
              Option.bind (appO s55 [(api_Row.mk (y120 == (⟨#[98, 97, 99, 107]⟩ : ByteArray)) o123)]) fun l150 =>
              some (.inl l150)
            | .inr z =>
              some (.inr z)) fun z0 => match z0 with
        | .inl o67 =>
          some (.inl (w64 (s54 + 1), o67))
        | .inr z =>
          some (.inr (.inl z))
    else
      some (.inr (.inr s55))
def K_raddleref25_Uses (p0 : (List api_Stitch)) : Option (Int × Int) :=
  Option.bind (K_raddleref25_All p0) fun r6 =>
  if r6 != 0 then
    some (0, r6)
  else
    Option.bind (K_raddleref25_sums p0) fun r11 =>
    some (r11.1, 0)
def K_raddleref25_Makes (p0 : (List api_Stitch)) : Option (Int × Int) :=
  Option.bind (K_raddleref25_All p0) fun r6 =>
  if r6 != 0 then
    some (0, r6)
  else
    Option.bind (K_raddleref25_sums p0) fun r11 =>
    some (r11.2, 0)
def K_raddleref26_Check_l1 (p0 : api_Chart) : (Int × Int) → Option ((Int × Int) ⊕ (Int ⊕ Unit)) := fun s0 => match s0 with
  | (s22, s23) =>
    if decide (s23 < (p0.Rows.length : Int)) then
      Option.bind (idxO p0.Rows s23) fun x32 =>
      Option.bind (K_raddleref25_Uses x32.Cells) fun r41 =>
      if r41.2 != 0 then
        some (.inr (.inl r41.2))
      else
        if r41.1 != s22 then
          some (.inr (.inl 26))
        else
          Option.bind (K_raddleref25_Makes x32.Cells) fun r58 =>
          some (.inl (r58.1, w64 (s23 + 1)))
    else
      some (.inr (.inr ()))
def K_raddleref26_Check (p0 : api_Chart) : Option Int :=
  if decide (100 < (p0.Rows.length : Int)) then
    some 4
  else
    Option.bind (α := Bool) (
      if decide (p0.Start < 0) then
        some true
      else
        some (decide (200 < p0.Start))) fun o12 =>
    if o12 then
      some 8
    else
      Option.bind (α := Unit ⊕ Int) (
        Option.bind (whileK (K_raddleref26_Check_l1 p0) (p0.Start, 0)) fun z0 => match z0 with
          | .inl z =>
            some (.inr z)
          | .inr _ =>
            some (.inl ())) fun z0 => match z0 with
        | .inl _ =>
          some 0
        | .inr z =>
          some z
def K_raddleref26_side (p0 : Bool) : Option ByteArray :=
  if p0 then
    some (⟨#[98, 97, 99, 107]⟩ : ByteArray)
  else
    some (⟨#[102, 114, 111, 110, 116]⟩ : ByteArray)
def K_raddleref26_Written_l1 (p0 : api_Chart) : (ByteArray × Int) → Option ((ByteArray × Int) ⊕ ((ByteArray × Bool) ⊕ ByteArray)) := fun s0 => match s0 with
  | (s18, s19) =>
    if decide (s19 < (p0.Rows.length : Int)) then
      Option.bind (idxO p0.Rows s19) fun x29 =>
      Option.bind (K_raddleref25_Written x29.Cells) fun r38 =>
      if decide (3000 < (r38.size : Int)) then
        some (.inr (.inl ((⟨#[]⟩ : ByteArray), false)))
      else
        Option.bind (K_raddleref26_side x29.Back) fun r50 =>
        Option.bind (addS s18 r50) fun z52 =>
        Option.bind (α := ByteArray) (
          if r38 != (⟨#[]⟩ : ByteArray) then
            Option.bind (addS z52 (⟨#[32]⟩ : ByteArray)) fun z59 =>
            Option.bind (addS z59 r38) fun z61 =>
            some z61
          else
            some z52) fun o54 =>
        Option.bind (addS o54 (⟨#[10]⟩ : ByteArray)) fun z63 =>
        some (.inl (z63, w64 (s19 + 1)))
    else
      some (.inr (.inr s18))
def K_raddleref26_Written (p0 : api_Chart) : Option (ByteArray × Bool) :=
  Option.bind (K_raddleref25_Decimal p0.Start) fun r8 =>
  Option.bind (addS (⟨#[115, 116, 97, 114, 116, 32]⟩ : ByteArray) r8) fun z10 =>
  Option.bind (addS z10 (⟨#[10]⟩ : ByteArray)) fun z12 =>
  Option.bind (α := ByteArray ⊕ (ByteArray × Bool)) (
    Option.bind (whileK (K_raddleref26_Written_l1 p0) (z12, 0)) fun z0 => match z0 with
      | .inl z =>
        some (.inr z)
      | .inr e23 =>
        some (.inl e23)) fun z0 => match z0 with
    | .inl o14 =>
      some (o14, true)
    | .inr z =>
      some z
def K_raddleref26_Parse (p0 : ByteArray) : Option (api_Chart × Int) :=
  if decide (20000 < (p0.size : Int)) then
    some ((api_Chart.mk 0 ([] : (List api_Row))), 12)
  else
    Option.bind (K_raddleref25_Cut p0 10) fun r8 =>
    Option.bind (α := Bool) (
      if decide ((r8.length : Int) < 2) then
        some true
      else
        if decide (100 < (w64 ((r8.length : Int) - 2))) then
          some true
        else
          Option.bind (idxO r8 0) fun x19 =>
          if decide ((x19.size : Int) < 7) then
            some true
          else
            Option.bind (sliceS x19 0 6) fun y28 =>
            some (y28 != (⟨#[115, 116, 97, 114, 116, 32]⟩ : ByteArray))) fun o14 =>
    if o14 then
      some ((api_Chart.mk 0 ([] : (List api_Row))), 12)
    else
      Option.bind (idxO r8 0) fun x33 =>
      Option.bind (sliceS x33 6 (x33.size : Int)) fun y38 =>
      Option.bind (K_raddleref25_Number y38) fun r40 =>
      if !r40.2 then
        some ((api_Chart.mk 0 ([] : (List api_Row))), 12)
      else
        Option.bind (α := List api_Row ⊕ (api_Chart × Int)) (
          Option.bind (whileK (K_raddleref26_Parse_l2 r8) (1, ([] : List api_Row))) fun z0 => match z0 with
            | .inl z =>
              some (.inr z)
            | .inr e61 =>
              some (.inl e61)) fun z0 => match z0 with
          | .inl o48 =>
            Option.bind (K_raddleref26_Check (api_Chart.mk r40.1 o48)) fun r156 =>
            if r156 != 0 then
              some ((api_Chart.mk 0 ([] : (List api_Row))), 12)
            else
              Option.bind (K_raddleref26_Written (api_Chart.mk r40.1 o48)) fun r161 =>
              Option.bind (α := Bool) (
                if !r161.2 then
                  some true
                else
                  some (r161.1 != p0)) fun o164 =>
              if o164 then
                some ((api_Chart.mk 0 ([] : (List api_Row))), 12)
              else
                some ((api_Chart.mk r40.1 o48), 0)
          | .inr z =>
            some z
def K_raddlelaw45_given  : Option api_Chart :=
  Option.bind (K_raddleref26_Parse (⟨#[115, 116, 97, 114, 116, 32, 51, 10, 102, 114, 111, 110, 116, 32, 107, 32, 121, 111, 32, 107, 108, 50, 10, 98, 97, 99, 107, 32, 112, 51, 10]⟩ : ByteArray)) fun r4 =>
  if r4.2 != 0 then
    some (api_Chart.mk 0 ([] : (List api_Row)))
  else
    some r4.1
def K_chart_counted (p0 : api_Chart) : Option api_Chart :=
  some p0
def K_stitch_forms (p0 : Int) : Option (stitch_form × Bool) :=
  Option.bind (α := Bool) (
    if decide (p0 < 1) then
      some true
    else
      some (decide (([(stitch_form.mk (⟨#[]⟩ : ByteArray) (0, 0) (0, 0) true 1 1), (stitch_form.mk (⟨#[]⟩ : ByteArray) (0, 0) (0, 0) false 0 1), (stitch_form.mk (⟨#[102]⟩ : ByteArray) (2, 4) (0, 0) true 2 1), (stitch_form.mk (⟨#[108]⟩ : ByteArray) (2, 4) (0, 0) true 2 1), (stitch_form.mk (⟨#[109]⟩ : ByteArray) (2, 4) (0, 0) true 1 2), (stitch_form.mk (⟨#[120]⟩ : ByteArray) (1, 6) (1, 6) true 3 3), (stitch_form.mk (⟨#[121]⟩ : ByteArray) (1, 6) (1, 6) true 3 3), (stitch_form.mk (⟨#[115]⟩ : ByteArray) (0, 0) (0, 0) true 1 1), (stitch_form.mk (⟨#[]⟩ : ByteArray) (1, 200) (0, 0) false 0 2), (stitch_form.mk (⟨#[111]⟩ : ByteArray) (1, 200) (0, 0) true 2 0)].length : Int) < (IntKind.i64.wrap p0)))) fun o12 =>
  if o12 then
    some ((stitch_form.mk (⟨#[]⟩ : ByteArray) (0, 0) (0, 0) false 0 0), false)
  else
    Option.bind (idxO [(stitch_form.mk (⟨#[]⟩ : ByteArray) (0, 0) (0, 0) true 1 1), (stitch_form.mk (⟨#[]⟩ : ByteArray) (0, 0) (0, 0) false 0 1), (stitch_form.mk (⟨#[102]⟩ : ByteArray) (2, 4) (0, 0) true 2 1), (stitch_form.mk (⟨#[108]⟩ : ByteArray) (2, 4) (0, 0) true 2 1), (stitch_form.mk (⟨#[109]⟩ : ByteArray) (2, 4) (0, 0) true 1 2), (stitch_form.mk (⟨#[120]⟩ : ByteArray) (1, 6) (1, 6) true 3 3), (stitch_form.mk (⟨#[121]⟩ : ByteArray) (1, 6) (1, 6) true 3 3), (stitch_form.mk (⟨#[115]⟩ : ByteArray) (0, 0) (0, 0) true 1 1), (stitch_form.mk (⟨#[]⟩ : ByteArray) (1, 200) (0, 0) false 0 2), (stitch_form.mk (⟨#[111]⟩ : ByteArray) (1, 200) (0, 0) true 2 0)] (IntKind.u8.wrap (p0 - 1))) fun x19 =>
    some (x19, true)
def K_stitch_within (p0 : Int) (p1 : (Int × Int)) : Option Bool :=
  Option.bind (α := Bool) (
    if decide (p1.1 ≤ p0) then
      some (decide (p0 ≤ p1.2))
    else
      some false) fun o3 =>
  some o3
def K_stitch_Check (p0 : api_Stitch) : Option Int :=
  Option.bind (K_stitch_forms p0.Kind) fun r4 =>
  Option.bind (α := Bool) (
    if !r4.2 then
      some true
    else
      Option.bind (K_stitch_within p0.A r4.1.a) fun r13 =>
      if !r13 then
        some true
      else
        Option.bind (K_stitch_within p0.B r4.1.b) fun r16 =>
        if !r16 then
          some true
        else
          if p0.Purl then
            some (!r4.1.sided)
          else
            some false) fun o9 =>
  if o9 then
    some 8
  else
    some 0
def K_stitch_All_1 (p0 : api_Stitch) : Option Bool :=
  Option.bind (K_stitch_Check p0) fun r4 =>
  some (r4 != 0)
def K_slices_IndexFunc___api_Stitch_api_Stitch__s0_l1 (p0 : (List api_Stitch)) : Int → Option (Int ⊕ (Int ⊕ Unit)) := fun s0 => match s0 with
  | s7 =>
    if decide (s7 < (p0.length : Int)) then
      Option.bind (idxO p0 s7) fun x17 =>
      Option.bind (K_stitch_All_1 x17) fun r22 =>
      if r22 then
        some (.inr (.inl s7))
      else
        some (.inl (w64 (s7 + 1)))
    else
      some (.inr (.inr ()))
def K_slices_IndexFunc___api_Stitch_api_Stitch__s0 (p0 : (List api_Stitch)) : Option Int :=
  Option.bind (α := Unit ⊕ Int) (
    Option.bind (whileK (K_slices_IndexFunc___api_Stitch_api_Stitch__s0_l1 p0) 0) fun z0 => match z0 with
      | .inl z =>
        some (.inr z)
      | .inr _ =>
        some (.inl ())) fun z0 => match z0 with
    | .inl _ =>
      some (-1)
    | .inr z =>
      some z
def K_slices_ContainsFunc___api_Stitch_api_Stitch__s0 (p0 : (List api_Stitch)) : Option Bool :=
  Option.bind (K_slices_IndexFunc___api_Stitch_api_Stitch__s0 p0) fun r5 =>
  some (decide (0 ≤ r5))
def K_stitch_loops (p0 : api_Stitch) (p1 : Int) : Option Int :=
  Option.bind (idxO ([0, 1, p0.A, w64 (p0.A + p0.B)] : List Int) p1) fun x4 =>
  some x4
def K_stitch_sum_l1 (p0 : (List api_Stitch)) : (Int × Int × Int) → Option ((Int × Int × Int) ⊕ (Int × Int)) := fun s0 => match s0 with
  | (s9, s10, s11) =>
    if decide (s11 < (p0.length : Int)) then
      Option.bind (idxO p0 s11) fun x22 =>
      Option.bind (K_stitch_forms x22.Kind) fun r29 =>
      Option.bind (K_stitch_loops x22 r29.1.uses) fun r34 =>
      Option.bind (K_stitch_loops x22 r29.1.made) fun r36 =>
      some (.inl (w64 (s9 + r34), w64 (s10 + r36), w64 (s11 + 1)))
    else
      some (.inr (s9, s10))
def K_stitch_sum (p0 : (List api_Stitch)) : Option (Int × Int) :=
  Option.bind (α := (Int × Int)) (
    Option.bind (whileK (K_stitch_sum_l1 p0) (0, 0, 0)) fun (e15, e16) =>
      some (e15, e16)) fun (o4, o5) =>
  some (o4, o5)
def K_stitch_All (p0 : (List api_Stitch)) : Option Int :=
  if decide (200 < (p0.length : Int)) then
    some 4
  else
    Option.bind (K_slices_ContainsFunc___api_Stitch_api_Stitch__s0 p0) fun r10 =>
    if r10 then
      some 8
    else
      Option.bind (K_stitch_sum p0) fun r16 =>
      if decide (200 < (if r16.1 < r16.2 then r16.2 else r16.1)) then
        some 4
      else
        some 0
def K_stitch_Uses (p0 : (List api_Stitch)) : Option (Int × Int) :=
  Option.bind (K_stitch_All p0) fun r6 =>
  if r6 != 0 then
    some (0, r6)
  else
    Option.bind (K_stitch_sum p0) fun r12 =>
    some (r12.1, 0)
def K_stitch_Makes (p0 : (List api_Stitch)) : Option (Int × Int) :=
  Option.bind (K_stitch_All p0) fun r6 =>
  if r6 != 0 then
    some (0, r6)
  else
    Option.bind (K_stitch_sum p0) fun r12 =>
    some (r12.2, 0)
def K_chart_counted_1_l1 {σ τ : Type} (p0 : api_Chart) (B : σ → (Int × chart_count) → Option (σ ⊕ τ)) : (Int × Int × σ) → Option ((Int × Int × σ) ⊕ ((σ ⊕ τ) ⊕ (σ))) := fun s0 => match s0 with
  | (s11, s12, gz13) =>
    if decide (s12 < (p0.Rows.length : Int)) then
      Option.bind (idxO p0.Rows s12) fun x23 =>
      Option.bind (K_stitch_Uses x23.Cells) fun r36 =>
      Option.bind (α := (Int × Int)) (
        if r36.2 != 0 then
          some (0, r36.2)
        else
          if r36.1 != s11 then
            some (0, 26)
          else
            Option.bind (K_stitch_Makes x23.Cells) fun r46 =>
            some (r46.1, 0)) fun (o38, o39) =>
      Option.bind (B gz13 (s12, (chart_count.mk s11 o38 o39))) fun y51 =>
      match y51 with
      | .inl gz53 =>
        if ((chart_count.mk s11 o38 o39).e) != 0 then
          some (.inr (.inl (.inl gz53)))
        else
          some (.inl ((chart_count.mk s11 o38 o39).after, w64 (s12 + 1), gz53))
      | .inr tz54 =>
        some (.inr (.inl (.inr tz54)))
    else
      some (.inr (.inr gz13))
def K_I_chart_counted_1 (p0 : api_Chart) (σ τ : Type) (B : σ → (Int × chart_count) → Option (σ ⊕ τ)) (gz0 : σ) : Option (σ ⊕ τ) :=
  Option.bind (whileK (K_chart_counted_1_l1 p0 B) (p0.Start, 0, gz0)) fun z0 => match z0 with
    | .inl z =>
      some z
    | .inr gz17 =>
      some (.inl gz17)
def K_chart_Check_l2  : Unit → (Int × chart_count) → Option (Unit ⊕ Int) := fun s0 x0 => match s0, x0 with
  | _, (x25, x27) =>
    if x27.e != 0 then
      some (.inr x27.e)
    else
      some (.inl ())
def K_chart_Check (p0 : api_Chart) : Option Int :=
  if decide (100 < (p0.Rows.length : Int)) then
    some 4
  else
    Option.bind (α := Bool) (
      if decide (p0.Start < 0) then
        some true
      else
        some (decide (200 < p0.Start))) fun o13 =>
    if o13 then
      some 8
    else
      Option.bind (K_chart_counted p0) fun r21 =>
      Option.bind (K_I_chart_counted_1 r21 _ _ (K_chart_Check_l2) ()) fun z0 => match z0 with
        | .inl _ =>
          some 0
        | .inr e24 =>
          some e24
def K_cost_Count_l1 (x74 : api_Row) : (Int × Int × Int × Int × Int × Int × Int × Int × Int × Int × Int × Int) → Option ((Int × Int × Int × Int × Int × Int × Int × Int × Int × Int × Int × Int) ⊕ (Int × Int × Int × Int × Int × Int × Int × Int × Int × Int × Int)) := fun s0 => match s0 with
  | (s85, s86, s87, s88, s89, s90, s91, s92, s93, s94, s95, s96) =>
    if decide (s85 < (x74.Cells.length : Int)) then
      Option.bind (idxO x74.Cells s85) fun x116 =>
      Option.bind (idxO ([s86, s87, s88, s89, s90, s91, s92, s93, s94, s95, s96] : List Int) x116.Kind) fun x122 =>
      some (.inl (w64 (s85 + 1), (if x116.Kind = 0 then w64 (x122 + 1) else s86), (if x116.Kind = 1 then w64 (x122 + 1) else s87), (if x116.Kind = 2 then w64 (x122 + 1) else s88), (if x116.Kind = 3 then w64 (x122 + 1) else s89), (if x116.Kind = 4 then w64 (x122 + 1) else s90), (if x116.Kind = 5 then w64 (x122 + 1) else s91), (if x116.Kind = 6 then w64 (x122 + 1) else s92), (if x116.Kind = 7 then w64 (x122 + 1) else s93), (if x116.Kind = 8 then w64 (x122 + 1) else s94), (if x116.Kind = 9 then w64 (x122 + 1) else s95), (if x116.Kind = 10 then w64 (x122 + 1) else s96)))
    else
      some (.inr (s86, s87, s88, s89, s90, s91, s92, s93, s94, s95, s96))
def K_cost_Count_l2 (p0 : api_Chart) : (Int × Int × Int × Int × Int × Int × Int × Int × Int × Int × Int × Int) → Option ((Int × Int × Int × Int × Int × Int × Int × Int × Int × Int × Int × Int) ⊕ (Int × Int × Int × Int × Int × Int × Int × Int × Int × Int × Int)) := fun s0 => match s0 with
  | (s31, s32, s33, s34, s35, s36, s37, s38, s39, s40, s41, s42) =>
    if decide (s31 < (p0.Rows.length : Int)) then
      Option.bind (α := (Int × Int × Int × Int × Int × Int × Int × Int × Int × Int × Int)) (
        Option.bind (idxO p0.Rows s31) fun x74 =>
        Option.bind (whileK (K_cost_Count_l1 x74) (0, s32, s33, s34, s35, s36, s37, s38, s39, s40, s41, s42)) fun (e100, e101, e102, e103, e104, e105, e106, e107, e108, e109, e110) =>
          some (e100, e101, e102, e103, e104, e105, e106, e107, e108, e109, e110)) fun (o60, o61, o62, o63, o64, o65, o66, o67, o68, o69, o70) =>
      some (.inl (w64 (s31 + 1), o60, o61, o62, o63, o64, o65, o66, o67, o68, o69, o70))
    else
      some (.inr (s32, s33, s34, s35, s36, s37, s38, s39, s40, s41, s42))
def K_cost_Count (p0 : api_Chart) : Option ((Int × Int × Int × Int × Int × Int × Int × Int × Int × Int × Int) × Int) :=
  Option.bind (K_chart_Check p0) fun r12 =>
  if r12 != 0 then
    some ((0, 0, 0, 0, 0, 0, 0, 0, 0, 0, 0), r12)
  else
    Option.bind (α := (Int × Int × Int × Int × Int × Int × Int × Int × Int × Int × Int)) (
      Option.bind (whileK (K_cost_Count_l2 p0) (0, 0, 0, 0, 0, 0, 0, 0, 0, 0, 0, 0)) fun (e46, e47, e48, e49, e50, e51, e52, e53, e54, e55, e56) =>
        some (e46, e47, e48, e49, e50, e51, e52, e53, e54, e55, e56)) fun (o17, o18, o19, o20, o21, o22, o23, o24, o25, o26, o27) =>
    some ((o17, o18, o19, o20, o21, o22, o23, o24, o25, o26, o27), 0)
def K_raddlelaw45_rates  : Option api_Rates :=
  some (api_Rates.mk (0, 100, 150, 0, 90, 0, 0, 0, 0, 0, 0) (0, 1000, 500, 0, 1500, 0, 0, 0, 0, 0, 0) 2000)
def K_cost_rate (p0 : Int) : Option Bool :=
  Option.bind (α := Bool) (
    if decide (0 ≤ p0) then
      some (decide (p0 ≤ 1000000))
    else
      some false) fun o2 =>
  some o2
def K_cost_Check_l1 (p0 : api_Rates) : Int → Option (Int ⊕ (Int ⊕ Unit)) := fun s0 => match s0 with
  | s6 =>
    if decide (s6 < 11) then
      Option.bind (idxO ([p0.Length.1, p0.Length.2.1, p0.Length.2.2.1, p0.Length.2.2.2.1, p0.Length.2.2.2.2.1, p0.Length.2.2.2.2.2.1, p0.Length.2.2.2.2.2.2.1, p0.Length.2.2.2.2.2.2.2.1, p0.Length.2.2.2.2.2.2.2.2.1, p0.Length.2.2.2.2.2.2.2.2.2.1, p0.Length.2.2.2.2.2.2.2.2.2.2] : List Int) s6) fun x15 =>
      Option.bind (α := Bool) (
        Option.bind (K_cost_rate x15) fun r20 =>
        if !r20 then
          some true
        else
          Option.bind (idxO ([p0.Time.1, p0.Time.2.1, p0.Time.2.2.1, p0.Time.2.2.2.1, p0.Time.2.2.2.2.1, p0.Time.2.2.2.2.2.1, p0.Time.2.2.2.2.2.2.1, p0.Time.2.2.2.2.2.2.2.1, p0.Time.2.2.2.2.2.2.2.2.1, p0.Time.2.2.2.2.2.2.2.2.2.1, p0.Time.2.2.2.2.2.2.2.2.2.2] : List Int) s6) fun x23 =>
          Option.bind (K_cost_rate x23) fun r25 =>
          some (!r25)) fun o17 =>
      if o17 then
        some (.inr (.inl 8))
      else
        some (.inl (w64 (s6 + 1)))
    else
      some (.inr (.inr ()))
def K_cost_Check (p0 : api_Rates) : Option Int :=
  Option.bind (α := Unit ⊕ Int) (
    Option.bind (whileK (K_cost_Check_l1 p0) 0) fun z0 => match z0 with
      | .inl z =>
        some (.inr z)
      | .inr _ =>
        some (.inl ())) fun z0 => match z0 with
    | .inl _ =>
      Option.bind (α := Bool) (
        Option.bind (K_cost_rate p0.Turn) fun r33 =>
        if !r33 then
          some true
        else
          if p0.Length.1 != 0 then
            some true
          else
            some (p0.Time.1 != 0)) fun o30 =>
      if o30 then
        some 8
      else
        some 0
    | .inr z =>
      some z
def K_cost_Need_l1 (r10 : ((Int × Int × Int × Int × Int × Int × Int × Int × Int × Int × Int) × Int)) (p1 : api_Rates) : (Int × Int) → Option ((Int × Int) ⊕ Int) := fun s0 => match s0 with
  | (s31, s32) =>
    if decide (s31 < 11) then
      Option.bind (idxO ([r10.1.1, r10.1.2.1, r10.1.2.2.1, r10.1.2.2.2.1, r10.1.2.2.2.2.1, r10.1.2.2.2.2.2.1, r10.1.2.2.2.2.2.2.1, r10.1.2.2.2.2.2.2.2.1, r10.1.2.2.2.2.2.2.2.2.1, r10.1.2.2.2.2.2.2.2.2.2.1, r10.1.2.2.2.2.2.2.2.2.2.2] : List Int) s31) fun x42 =>
      Option.bind (idxO ([p1.Time.1, p1.Time.2.1, p1.Time.2.2.1, p1.Time.2.2.2.1, p1.Time.2.2.2.2.1, p1.Time.2.2.2.2.2.1, p1.Time.2.2.2.2.2.2.1, p1.Time.2.2.2.2.2.2.2.1, p1.Time.2.2.2.2.2.2.2.2.1, p1.Time.2.2.2.2.2.2.2.2.2.1, p1.Time.2.2.2.2.2.2.2.2.2.2] : List Int) s31) fun x44 =>
      some (.inl (w64 (s31 + 1), w64 (s32 + (w64 (x44 * x42)))))
    else
      some (.inr s32)
def K_cost_Need_l2 (x63 : api_Row) (p1 : api_Rates) : (Int × Int) → Option ((Int × Int) ⊕ Int) := fun s0 => match s0 with
  | (s74, s75) =>
    if decide (s74 < (x63.Cells.length : Int)) then
      Option.bind (idxO x63.Cells s74) fun x85 =>
      Option.bind (K_stitch_Makes [x85]) fun r94 =>
      Option.bind (idxO ([p1.Length.1, p1.Length.2.1, p1.Length.2.2.1, p1.Length.2.2.2.1, p1.Length.2.2.2.2.1, p1.Length.2.2.2.2.2.1, p1.Length.2.2.2.2.2.2.1, p1.Length.2.2.2.2.2.2.2.1, p1.Length.2.2.2.2.2.2.2.2.1, p1.Length.2.2.2.2.2.2.2.2.2.1, p1.Length.2.2.2.2.2.2.2.2.2.2] : List Int) x85.Kind) fun x96 =>
      some (.inl (w64 (s74 + 1), w64 (s75 + (w64 (x96 * (if (1 : Int) < r94.1 then r94.1 else 1))))))
    else
      some (.inr s75)
def K_cost_Need_l3 (p0 : api_Chart) (p1 : api_Rates) : (Int × Int) → Option ((Int × Int) ⊕ Int) := fun s0 => match s0 with
  | (s50, s51) =>
    if decide (s50 < (p0.Rows.length : Int)) then
      Option.bind (α := Int) (
        Option.bind (idxO p0.Rows s50) fun x63 =>
        Option.bind (whileK (K_cost_Need_l2 x63 p1) (0, s51)) fun e79 =>
          some e79) fun o59 =>
      some (.inl (w64 (s50 + 1), o59))
    else
      some (.inr s51)
def K_cost_Need (p0 : api_Chart) (p1 : api_Rates) : Option (api_Bill × Int) :=
  Option.bind (K_cost_Count p0) fun r10 =>
  if r10.2 != 0 then
    some ((api_Bill.mk 0 0), r10.2)
  else
    Option.bind (K_cost_Check p1) fun r20 =>
    if r20 != 0 then
      some ((api_Bill.mk 0 0), r20)
    else
      Option.bind (α := Int) (
        Option.bind (whileK (K_cost_Need_l1 r10 p1) (0, w64 (p1.Turn * (p0.Rows.length : Int)))) fun e36 =>
          some e36) fun o27 =>
      Option.bind (α := Int) (
        Option.bind (whileK (K_cost_Need_l3 p0 p1) (0, 0)) fun e55 =>
          some e55) fun o46 =>
      some ((api_Bill.mk o46 o27), 0)
def K_raddlelaw45_tex (p0 : Int) : Option api_Count :=
  some (api_Count.mk 1 (api_Ratio.mk p0 1))
def K_yarn_factors (p0 : Int) : Option (Int × Int × Bool × Bool) :=
  if p0 == 1 then
    some (1, 1, true, true)
  else
    if p0 == 2 then
      some (1, 9, true, true)
    else
      if p0 == 3 then
        some (1000, 1, false, true)
      else
        if p0 == 4 then
          some (226796185, 384048, false, true)
        else
          some (0, 0, false, false)
def K_yarn_size (p0 : Int) : Option Int :=
  if decide (p0 < 0) then
    some (IntKind.u64.wrap (0 - (IntKind.u64.wrap p0)))
  else
    some (IntKind.u64.wrap p0)
def K_yarn_gcd_l1  : (Int × Int) → Option ((Int × Int) ⊕ Int) := fun s0 => match s0 with
  | (s5, s6) =>
    if s6 != 0 then
      Option.bind (remI s5 s6) fun z14 =>
      some (.inl (s6, z14))
    else
      some (.inr s5)
def K_yarn_gcd (p0 : Int) (p1 : Int) : Option Int :=
  Option.bind (α := Int) (
    Option.bind (whileK (K_yarn_gcd_l1) (p0, p1)) fun e10 =>
      some e10) fun o2 =>
  some o2
def K_yarn_Check (p0 : api_Ratio) : Option Int :=
  Option.bind (α := Bool) (
    if decide (p0.Den < 1) then
      some true
    else
      if decide (1000000000 < p0.Den) then
        some true
      else
        Option.bind (K_yarn_size p0.Num) fun r9 =>
        if decide (1000000000 < r9) then
          some true
        else
          Option.bind (K_yarn_gcd r9 (IntKind.u64.wrap p0.Den)) fun r12 =>
          some (r12 != 1)) fun o4 =>
  if o4 then
    some 8
  else
    some 0
def K_yarn_counted (p0 : api_Count) : Option Int :=
  Option.bind (K_yarn_factors p0.System) fun r5 =>
  Option.bind (α := Bool) (
    if !r5.2.2.2 then
      some true
    else
      Option.bind (K_yarn_Check p0.N) fun r11 =>
      if r11 != 0 then
        some true
      else
        some (decide (p0.N.Num ≤ 0))) fun o7 =>
  if o7 then
    some 8
  else
    some 0
def K_yarn_Make (p0 : Int) (p1 : Int) : Option (api_Ratio × Int) :=
  if p1 == 0 then
    some ((api_Ratio.mk 0 0), 18)
  else
    Option.bind (K_yarn_size p0) fun r8 =>
    Option.bind (K_yarn_size p1) fun r10 =>
    Option.bind (K_yarn_gcd r8 r10) fun r13 =>
    Option.bind (quoK .u64 r8 r13) fun z16 =>
    Option.bind (quoK .u64 r10 r13) fun z18 =>
    Option.bind (α := Bool) (
      if decide (1000000000 < z16) then
        some true
      else
        some (decide (1000000000 < z18))) fun o21 =>
    if o21 then
      some ((api_Ratio.mk 0 0), 16)
    else
      Option.bind (α := Int) (
        if (decide (p0 < 0)) != (decide (p1 < 0)) then
          some (w64 (0 - (IntKind.i64.wrap z16)))
        else
          some (IntKind.i64.wrap z16)) fun o29 =>
      some ((api_Ratio.mk o29 (IntKind.i64.wrap z18)), 0)
def K_yarn_Convert (p0 : api_Count) (p1 : Int) : Option (api_Count × Int) :=
  Option.bind (K_yarn_counted p0) fun r6 =>
  if r6 != 0 then
    some ((api_Count.mk 0 (api_Ratio.mk 0 0)), r6)
  else
    Option.bind (K_yarn_factors p0.System) fun r12 =>
    Option.bind (K_yarn_factors p1) fun r15 =>
    if !r15.2.2.2 then
      some ((api_Count.mk 0 (api_Ratio.mk 0 0)), 2)
    else
      Option.bind (α := (Int × Int)) (
        Option.bind (α := Bool) (
          if !r12.2.2.1 then
            some (!r15.2.2.1)
          else
            some false) fun o26 =>
        if o26 then
          some (w64 (r12.2.1 * r15.1), w64 (r12.1 * r15.2.1))
        else
          some (w64 (r12.1 * r15.2.1), w64 (r12.2.1 * r15.1))) fun (o22, o23) =>
      Option.bind (α := (Int × Int)) (
        Option.bind (α := Bool) (
          if r12.2.2.1 then
            some (!r15.2.2.1)
          else
            some false) fun o35 =>
        if o35 then
          some (w64 (r15.1 * r12.2.1), w64 (r15.2.1 * r12.1))
        else
          some (o22, o23)) fun (o31, o32) =>
      Option.bind (K_yarn_gcd (IntKind.u64.wrap o31) (IntKind.u64.wrap o32)) fun r41 =>
      Option.bind (quoI o31 (IntKind.i64.wrap r41)) fun z44 =>
      Option.bind (quoI o32 (IntKind.i64.wrap r41)) fun z46 =>
      Option.bind (α := (Int × Int)) (
        if r12.2.2.1 != r15.2.2.1 then
          some (p0.N.Den, p0.N.Num)
        else
          some (p0.N.Num, p0.N.Den)) fun (o50, o51) =>
      Option.bind (K_yarn_Make (w64 (z44 * o50)) (w64 (z46 * o51))) fun r57 =>
      if r57.2 != 0 then
        some ((api_Count.mk 0 (api_Ratio.mk 0 0)), r57.2)
      else
        if r57.1.Num == 0 then
          some ((api_Count.mk 0 (api_Ratio.mk 0 0)), 16)
        else
          some ((api_Count.mk p1 r57.1), 0)
def K_yarn_Weigh (p0 : api_Count) (p1 : Int) : Option (api_Ratio × Int) :=
  Option.bind (K_yarn_counted p0) fun r6 =>
  if r6 != 0 then
    some ((api_Ratio.mk 0 0), r6)
  else
    Option.bind (α := Bool) (
      if decide (p1 < 0) then
        some true
      else
        some (decide (1000000000 < p1))) fun o12 =>
    if o12 then
      some ((api_Ratio.mk 0 0), 2)
    else
      Option.bind (K_yarn_Convert p0 1) fun r19 =>
      if r19.2 != 0 then
        some ((api_Ratio.mk 0 0), r19.2)
      else
        Option.bind (K_yarn_Make (w64 (p1 * r19.1.N.Num)) (w64 (10000 * r19.1.N.Den))) fun r28 =>
        some (r28.1, r28.2)
def K_cost_Weight (p0 : api_Bill) (p1 : api_Count) : Option (api_Ratio × Int) :=
  Option.bind (α := Bool) (
    if decide (p0.Length < 0) then
      some true
    else
      some (decide (p0.Time < 0))) fun o6 =>
  if o6 then
    some ((api_Ratio.mk 0 0), 2)
  else
    Option.bind (K_yarn_Weigh p1 p0.Length) fun r13 =>
    some (r13.1, r13.2)
def K_yarn_floor (p0 : Int) (p1 : Int) : Option Int :=
  Option.bind (quoI p0 p1) fun z3 =>
  Option.bind (α := Int) (
    Option.bind (remI p0 p1) fun z9 =>
    if decide (z9 < 0) then
      some (w64 (z3 - 1))
    else
      some z3) fun o5 =>
  some o5
def K_yarn_Skeins (p0 : api_Count) (p1 : Int) (p2 : Int) : Option (Int × Int) :=
  Option.bind (K_yarn_Weigh p0 p1) fun r4 =>
  if r4.2 != 0 then
    some (0, r4.2)
  else
    Option.bind (α := Bool) (
      if decide (p2 < 1) then
        some true
      else
        some (decide (1000000000 < p2))) fun o13 =>
    if o13 then
      some (0, 2)
    else
      Option.bind (K_yarn_floor (w64 (0 - r4.1.Num)) (w64 (r4.1.Den * p2))) fun r20 =>
      some (w64 (0 - r20), 0)
def K_cost_Price (p0 : api_Bill) (p1 : api_Count) (p2 : Int) (p3 : Int) : Option (Int × Int × Int) :=
  Option.bind (α := Bool) (
    if decide (p0.Length < 0) then
      some true
    else
      some (decide (p0.Time < 0))) fun o5 =>
  if o5 then
    some (0, 0, 2)
  else
    Option.bind (K_yarn_Skeins p1 p0.Length p2) fun r12 =>
    if r12.2 != 0 then
      some (0, 0, r12.2)
    else
      Option.bind (α := Bool) (
        if decide (p3 < 0) then
          some true
        else
          some (decide (1000000 < p3))) fun o19 =>
      if o19 then
        some (0, 0, 2)
      else
        some (r12.1, w64 (r12.1 * p3), 0)
theorem m_raddleref25_Cut_l1 (p0 : ByteArray) (p1 : Int) : ∀ s, Le (K_raddleref25_Cut_l1 p0 p1 s) (raddleref25_Cut_l1 p0 p1 s) := by
  unfold K_raddleref25_Cut_l1 raddleref25_Cut_l1
  with_reducible repeat' (first | exact Le.rfl _ | refine Le.loop _ ?_ | refine Le.bind ?_ ?_ | refine Le.ite ?_ ?_ | refine Le.sum ?_ ?_ | refine Le.prod ?_ | intro _ | exact Empty.elim (by assumption) | dsimp only)
theorem m_F_raddleref25_Cut (p0 : ByteArray) (p1 : Int) : Le (K_raddleref25_Cut p0 p1) (F_raddleref25_Cut p0 p1) := by
  unfold K_raddleref25_Cut F_raddleref25_Cut
  with_reducible repeat' (first | exact m_raddleref25_Cut_l1 _ _ | exact Le.rfl _ | refine Le.loop _ ?_ | refine Le.bind ?_ ?_ | refine Le.ite ?_ ?_ | refine Le.sum ?_ ?_ | refine Le.prod ?_ | intro _ | exact Empty.elim (by assumption) | dsimp only)
theorem m_raddleref25_Number_l1 (p0 : ByteArray) : ∀ s, Le (K_raddleref25_Number_l1 p0 s) (raddleref25_Number_l1 p0 s) := by
  unfold K_raddleref25_Number_l1 raddleref25_Number_l1
  with_reducible repeat' (first | exact Le.rfl _ | refine Le.loop _ ?_ | refine Le.bind ?_ ?_ | refine Le.ite ?_ ?_ | refine Le.sum ?_ ?_ | refine Le.prod ?_ | intro _ | exact Empty.elim (by assumption) | dsimp only)
theorem m_F_raddleref25_Number (p0 : ByteArray) : Le (K_raddleref25_Number p0) (F_raddleref25_Number p0) := by
  unfold K_raddleref25_Number F_raddleref25_Number
  with_reducible repeat' (first | exact m_raddleref25_Number_l1 _ | exact Le.rfl _ | refine Le.loop _ ?_ | refine Le.bind ?_ ?_ | refine Le.ite ?_ ?_ | refine Le.sum ?_ ?_ | refine Le.prod ?_ | intro _ | exact Empty.elim (by assumption) | dsimp only)
theorem m_raddleref26_Parse_l1 (r8 : (List ByteArray)) (s54 : Int) : ∀ s, Le (K_raddleref26_Parse_l1 r8 s54 s) (raddleref26_Parse_l1 r8 s54 s) := by
  unfold K_raddleref26_Parse_l1 raddleref26_Parse_l1
  with_reducible repeat' (first | exact Le.rfl _ | refine Le.loop _ ?_ | refine Le.bind ?_ ?_ | refine Le.ite ?_ ?_ | refine Le.sum ?_ ?_ | refine Le.prod ?_ | intro _ | exact Empty.elim (by assumption) | dsimp only)
theorem m_raddleref25_word_l1 (r49 : (Int × Bool)) (x35 : Int) : ∀ s, Le (K_raddleref25_word_l1 r49 x35 s) (raddleref25_word_l1 r49 x35 s) := by
  unfold K_raddleref25_word_l1 raddleref25_word_l1
  with_reducible repeat' (first | exact Le.rfl _ | refine Le.loop _ ?_ | refine Le.bind ?_ ?_ | refine Le.ite ?_ ?_ | refine Le.sum ?_ ?_ | refine Le.prod ?_ | intro _ | exact Empty.elim (by assumption) | dsimp only)
theorem m_raddleref25_kind_l1 (p0 : Int) : ∀ s, Le (K_raddleref25_kind_l1 p0 s) (raddleref25_kind_l1 p0 s) := by
  unfold K_raddleref25_kind_l1 raddleref25_kind_l1
  with_reducible repeat' (first | exact Le.rfl _ | refine Le.loop _ ?_ | refine Le.bind ?_ ?_ | refine Le.ite ?_ ?_ | refine Le.sum ?_ ?_ | refine Le.prod ?_ | intro _ | exact Empty.elim (by assumption) | dsimp only)
theorem m_F_raddleref25_kind (p0 : Int) : Le (K_raddleref25_kind p0) (F_raddleref25_kind p0) := by
  unfold K_raddleref25_kind F_raddleref25_kind
  with_reducible repeat' (first | exact m_raddleref25_kind_l1 _ | exact Le.rfl _ | refine Le.loop _ ?_ | refine Le.bind ?_ ?_ | refine Le.ite ?_ ?_ | refine Le.sum ?_ ?_ | refine Le.prod ?_ | intro _ | exact Empty.elim (by assumption) | dsimp only)
theorem m_F_raddleref25_word (p0 : ByteArray) : Le (K_raddleref25_word p0) (F_raddleref25_word p0) := by
  unfold K_raddleref25_word F_raddleref25_word
  with_reducible repeat' (first | exact m_F_raddleref25_Number _ | exact m_raddleref25_word_l1 _ _ | exact m_F_raddleref25_kind _ | exact m_F_raddleref25_Cut _ _ | exact Le.rfl _ | refine Le.loop _ ?_ | refine Le.bind ?_ ?_ | refine Le.ite ?_ ?_ | refine Le.sum ?_ ?_ | refine Le.prod ?_ | intro _ | exact Empty.elim (by assumption) | dsimp only)
theorem m_raddleref25_Parse_l1 (r11 : (List ByteArray)) : ∀ s, Le (K_raddleref25_Parse_l1 r11 s) (raddleref25_Parse_l1 r11 s) := by
  unfold K_raddleref25_Parse_l1 raddleref25_Parse_l1
  with_reducible repeat' (first | exact m_F_raddleref25_word _ | exact Le.rfl _ | refine Le.loop _ ?_ | refine Le.bind ?_ ?_ | refine Le.ite ?_ ?_ | refine Le.sum ?_ ?_ | refine Le.prod ?_ | intro _ | exact Empty.elim (by assumption) | dsimp only)
theorem m_F_raddleref25_Check (p0 : api_Stitch) : Le (K_raddleref25_Check p0) (F_raddleref25_Check p0) := by
  unfold K_raddleref25_Check F_raddleref25_Check
  with_reducible repeat' (first | exact Le.rfl _ | refine Le.loop _ ?_ | refine Le.bind ?_ ?_ | refine Le.ite ?_ ?_ | refine Le.sum ?_ ?_ | refine Le.prod ?_ | intro _ | exact Empty.elim (by assumption) | dsimp only)
theorem m_raddleref25_All_l1 (p0 : (List api_Stitch)) : ∀ s, Le (K_raddleref25_All_l1 p0 s) (raddleref25_All_l1 p0 s) := by
  unfold K_raddleref25_All_l1 raddleref25_All_l1
  with_reducible repeat' (first | exact m_F_raddleref25_Check _ | exact Le.rfl _ | refine Le.loop _ ?_ | refine Le.bind ?_ ?_ | refine Le.ite ?_ ?_ | refine Le.sum ?_ ?_ | refine Le.prod ?_ | intro _ | exact Empty.elim (by assumption) | dsimp only)
theorem m_F_raddleref25_Used (p0 : api_Stitch) : Le (K_raddleref25_Used p0) (F_raddleref25_Used p0) := by
  unfold K_raddleref25_Used F_raddleref25_Used
  with_reducible repeat' (first | exact Le.rfl _ | refine Le.loop _ ?_ | refine Le.bind ?_ ?_ | refine Le.ite ?_ ?_ | refine Le.sum ?_ ?_ | refine Le.prod ?_ | intro _ | exact Empty.elim (by assumption) | dsimp only)
theorem m_F_raddleref25_Gives (p0 : api_Stitch) : Le (K_raddleref25_Gives p0) (F_raddleref25_Gives p0) := by
  unfold K_raddleref25_Gives F_raddleref25_Gives
  with_reducible repeat' (first | exact Le.rfl _ | refine Le.loop _ ?_ | refine Le.bind ?_ ?_ | refine Le.ite ?_ ?_ | refine Le.sum ?_ ?_ | refine Le.prod ?_ | intro _ | exact Empty.elim (by assumption) | dsimp only)
theorem m_raddleref25_sums_l1 (p0 : (List api_Stitch)) : ∀ s, Le (K_raddleref25_sums_l1 p0 s) (raddleref25_sums_l1 p0 s) := by
  unfold K_raddleref25_sums_l1 raddleref25_sums_l1
  with_reducible repeat' (first | exact m_F_raddleref25_Used _ | exact m_F_raddleref25_Gives _ | exact Le.rfl _ | refine Le.loop _ ?_ | refine Le.bind ?_ ?_ | refine Le.ite ?_ ?_ | refine Le.sum ?_ ?_ | refine Le.prod ?_ | intro _ | exact Empty.elim (by assumption) | dsimp only)
theorem m_F_raddleref25_sums (p0 : (List api_Stitch)) : Le (K_raddleref25_sums p0) (F_raddleref25_sums p0) := by
  unfold K_raddleref25_sums F_raddleref25_sums
  with_reducible repeat' (first | exact m_raddleref25_sums_l1 _ | exact Le.rfl _ | refine Le.loop _ ?_ | refine Le.bind ?_ ?_ | refine Le.ite ?_ ?_ | refine Le.sum ?_ ?_ | refine Le.prod ?_ | intro _ | exact Empty.elim (by assumption) | dsimp only)
theorem m_F_raddleref25_All (p0 : (List api_Stitch)) : Le (K_raddleref25_All p0) (F_raddleref25_All p0) := by
  unfold K_raddleref25_All F_raddleref25_All
  with_reducible repeat' (first | exact m_raddleref25_All_l1 _ | exact m_F_raddleref25_sums _ | exact Le.rfl _ | refine Le.loop _ ?_ | refine Le.bind ?_ ?_ | refine Le.ite ?_ ?_ | refine Le.sum ?_ ?_ | refine Le.prod ?_ | intro _ | exact Empty.elim (by assumption) | dsimp only)
theorem m_raddleref25_Decimal_l1  : ∀ s, Le (K_raddleref25_Decimal_l1 s) (raddleref25_Decimal_l1 s) := by
  unfold K_raddleref25_Decimal_l1 raddleref25_Decimal_l1
  with_reducible repeat' (first | exact Le.rfl _ | refine Le.loop _ ?_ | refine Le.bind ?_ ?_ | refine Le.ite ?_ ?_ | refine Le.sum ?_ ?_ | refine Le.prod ?_ | intro _ | exact Empty.elim (by assumption) | dsimp only)
theorem m_F_raddleref25_Decimal (p0 : Int) : Le (K_raddleref25_Decimal p0) (F_raddleref25_Decimal p0) := by
  unfold K_raddleref25_Decimal F_raddleref25_Decimal
  with_reducible repeat' (first | exact m_raddleref25_Decimal_l1 | exact Le.rfl _ | refine Le.loop _ ?_ | refine Le.bind ?_ ?_ | refine Le.ite ?_ ?_ | refine Le.sum ?_ ?_ | refine Le.prod ?_ | intro _ | exact Empty.elim (by assumption) | dsimp only)
theorem m_F_raddleref25_one (p0 : api_Stitch) : Le (K_raddleref25_one p0) (F_raddleref25_one p0) := by
  unfold K_raddleref25_one F_raddleref25_one
  with_reducible repeat' (first | exact m_F_raddleref25_Decimal _ | exact Le.rfl _ | refine Le.loop _ ?_ | refine Le.bind ?_ ?_ | refine Le.ite ?_ ?_ | refine Le.sum ?_ ?_ | refine Le.prod ?_ | intro _ | exact Empty.elim (by assumption) | dsimp only)
theorem m_raddleref25_Written_l1 (p0 : (List api_Stitch)) : ∀ s, Le (K_raddleref25_Written_l1 p0 s) (raddleref25_Written_l1 p0 s) := by
  unfold K_raddleref25_Written_l1 raddleref25_Written_l1
  with_reducible repeat' (first | exact Le.rfl _ | refine Le.loop _ ?_ | refine Le.bind ?_ ?_ | refine Le.ite ?_ ?_ | refine Le.sum ?_ ?_ | refine Le.prod ?_ | intro _ | exact Empty.elim (by assumption) | dsimp only)
theorem m_raddleref25_Written_l2 (p0 : (List api_Stitch)) : ∀ s, Le (K_raddleref25_Written_l2 p0 s) (raddleref25_Written_l2 p0 s) := by
  unfold K_raddleref25_Written_l2 raddleref25_Written_l2
  with_reducible repeat' (first | exact m_F_raddleref25_one _ | exact m_raddleref25_Written_l1 _ | exact m_F_raddleref25_Decimal _ | exact Le.rfl _ | refine Le.loop _ ?_ | refine Le.bind ?_ ?_ | refine Le.ite ?_ ?_ | refine Le.sum ?_ ?_ | refine Le.prod ?_ | intro _ | exact Empty.elim (by assumption) | dsimp only)
theorem m_F_raddleref25_Written (p0 : (List api_Stitch)) : Le (K_raddleref25_Written p0) (F_raddleref25_Written p0) := by
  unfold K_raddleref25_Written F_raddleref25_Written
  with_reducible repeat' (first | exact m_raddleref25_Written_l2 _ | exact Le.rfl _ | refine Le.loop _ ?_ | refine Le.bind ?_ ?_ | refine Le.ite ?_ ?_ | refine Le.sum ?_ ?_ | refine Le.prod ?_ | intro _ | exact Empty.elim (by assumption) | dsimp only)
theorem m_F_raddleref25_Parse (p0 : ByteArray) : Le (K_raddleref25_Parse p0) (F_raddleref25_Parse p0) := by
  unfold K_raddleref25_Parse F_raddleref25_Parse
  with_reducible repeat' (first | exact m_F_raddleref25_Cut _ _ | exact m_raddleref25_Parse_l1 _ | exact m_F_raddleref25_All _ | exact m_F_raddleref25_Written _ | exact Le.rfl _ | refine Le.loop _ ?_ | refine Le.bind ?_ ?_ | refine Le.ite ?_ ?_ | refine Le.sum ?_ ?_ | refine Le.prod ?_ | intro _ | exact Empty.elim (by assumption) | dsimp only)
theorem m_raddleref26_Parse_l2 (r8 : (List ByteArray)) : ∀ s, Le (K_raddleref26_Parse_l2 r8 s) (raddleref26_Parse_l2 r8 s) := by
  unfold K_raddleref26_Parse_l2 raddleref26_Parse_l2
  with_reducible repeat' (first | exact m_raddleref26_Parse_l1 _ _ | exact m_F_raddleref25_Parse _ | exact Le.rfl _ | refine Le.loop _ ?_ | refine Le.bind ?_ ?_ | refine Le.ite ?_ ?_ | refine Le.sum ?_ ?_ | refine Le.prod ?_ | intro _ | exact Empty.elim (by assumption) | dsimp only)
theorem m_F_raddleref25_Uses (p0 : (List api_Stitch)) : Le (K_raddleref25_Uses p0) (F_raddleref25_Uses p0) := by
  unfold K_raddleref25_Uses F_raddleref25_Uses
  with_reducible repeat' (first | exact m_F_raddleref25_All _ | exact m_F_raddleref25_sums _ | exact Le.rfl _ | refine Le.loop _ ?_ | refine Le.bind ?_ ?_ | refine Le.ite ?_ ?_ | refine Le.sum ?_ ?_ | refine Le.prod ?_ | intro _ | exact Empty.elim (by assumption) | dsimp only)
theorem m_F_raddleref25_Makes (p0 : (List api_Stitch)) : Le (K_raddleref25_Makes p0) (F_raddleref25_Makes p0) := by
  unfold K_raddleref25_Makes F_raddleref25_Makes
  with_reducible repeat' (first | exact m_F_raddleref25_All _ | exact m_F_raddleref25_sums _ | exact Le.rfl _ | refine Le.loop _ ?_ | refine Le.bind ?_ ?_ | refine Le.ite ?_ ?_ | refine Le.sum ?_ ?_ | refine Le.prod ?_ | intro _ | exact Empty.elim (by assumption) | dsimp only)
theorem m_raddleref26_Check_l1 (p0 : api_Chart) : ∀ s, Le (K_raddleref26_Check_l1 p0 s) (raddleref26_Check_l1 p0 s) := by
  unfold K_raddleref26_Check_l1 raddleref26_Check_l1
  with_reducible repeat' (first | exact m_F_raddleref25_Uses _ | exact m_F_raddleref25_Makes _ | exact Le.rfl _ | refine Le.loop _ ?_ | refine Le.bind ?_ ?_ | refine Le.ite ?_ ?_ | refine Le.sum ?_ ?_ | refine Le.prod ?_ | intro _ | exact Empty.elim (by assumption) | dsimp only)
theorem m_F_raddleref26_Check (p0 : api_Chart) : Le (K_raddleref26_Check p0) (F_raddleref26_Check p0) := by
  unfold K_raddleref26_Check F_raddleref26_Check
  with_reducible repeat' (first | exact m_raddleref26_Check_l1 _ | exact Le.rfl _ | refine Le.loop _ ?_ | refine Le.bind ?_ ?_ | refine Le.ite ?_ ?_ | refine Le.sum ?_ ?_ | refine Le.prod ?_ | intro _ | exact Empty.elim (by assumption) | dsimp only)
theorem m_F_raddleref26_side (p0 : Bool) : Le (K_raddleref26_side p0) (F_raddleref26_side p0) := by
  unfold K_raddleref26_side F_raddleref26_side
  with_reducible repeat' (first | exact Le.rfl _ | refine Le.loop _ ?_ | refine Le.bind ?_ ?_ | refine Le.ite ?_ ?_ | refine Le.sum ?_ ?_ | refine Le.prod ?_ | intro _ | exact Empty.elim (by assumption) | dsimp only)
theorem m_raddleref26_Written_l1 (p0 : api_Chart) : ∀ s, Le (K_raddleref26_Written_l1 p0 s) (raddleref26_Written_l1 p0 s) := by
  unfold K_raddleref26_Written_l1 raddleref26_Written_l1
  with_reducible repeat' (first | exact m_F_raddleref25_Written _ | exact m_F_raddleref26_side _ | exact Le.rfl _ | refine Le.loop _ ?_ | refine Le.bind ?_ ?_ | refine Le.ite ?_ ?_ | refine Le.sum ?_ ?_ | refine Le.prod ?_ | intro _ | exact Empty.elim (by assumption) | dsimp only)
theorem m_F_raddleref26_Written (p0 : api_Chart) : Le (K_raddleref26_Written p0) (F_raddleref26_Written p0) := by
  unfold K_raddleref26_Written F_raddleref26_Written
  with_reducible repeat' (first | exact m_F_raddleref25_Decimal _ | exact m_raddleref26_Written_l1 _ | exact Le.rfl _ | refine Le.loop _ ?_ | refine Le.bind ?_ ?_ | refine Le.ite ?_ ?_ | refine Le.sum ?_ ?_ | refine Le.prod ?_ | intro _ | exact Empty.elim (by assumption) | dsimp only)
theorem m_F_raddleref26_Parse (p0 : ByteArray) : Le (K_raddleref26_Parse p0) (F_raddleref26_Parse p0) := by
  unfold K_raddleref26_Parse F_raddleref26_Parse
  with_reducible repeat' (first | exact m_F_raddleref25_Cut _ _ | exact m_F_raddleref25_Number _ | exact m_raddleref26_Parse_l2 _ | exact m_F_raddleref26_Check _ | exact m_F_raddleref26_Written _ | exact Le.rfl _ | refine Le.loop _ ?_ | refine Le.bind ?_ ?_ | refine Le.ite ?_ ?_ | refine Le.sum ?_ ?_ | refine Le.prod ?_ | intro _ | exact Empty.elim (by assumption) | dsimp only)
theorem m_F_raddlelaw45_given  : Le (K_raddlelaw45_given) (F_raddlelaw45_given) := by
  unfold K_raddlelaw45_given F_raddlelaw45_given
  with_reducible repeat' (first | exact m_F_raddleref26_Parse _ | exact Le.rfl _ | refine Le.loop _ ?_ | refine Le.bind ?_ ?_ | refine Le.ite ?_ ?_ | refine Le.sum ?_ ?_ | refine Le.prod ?_ | intro _ | exact Empty.elim (by assumption) | dsimp only)
theorem m_F_chart_counted (p0 : api_Chart) : Le (K_chart_counted p0) (F_chart_counted p0) := by
  unfold K_chart_counted F_chart_counted
  with_reducible repeat' (first | exact Le.rfl _ | refine Le.loop _ ?_ | refine Le.bind ?_ ?_ | refine Le.ite ?_ ?_ | refine Le.sum ?_ ?_ | refine Le.prod ?_ | intro _ | exact Empty.elim (by assumption) | dsimp only)
theorem m_F_stitch_forms (p0 : Int) : Le (K_stitch_forms p0) (F_stitch_forms p0) := by
  unfold K_stitch_forms F_stitch_forms
  with_reducible repeat' (first | exact Le.rfl _ | refine Le.loop _ ?_ | refine Le.bind ?_ ?_ | refine Le.ite ?_ ?_ | refine Le.sum ?_ ?_ | refine Le.prod ?_ | intro _ | exact Empty.elim (by assumption) | dsimp only)
theorem m_F_stitch_within (p0 : Int) (p1 : (Int × Int)) : Le (K_stitch_within p0 p1) (F_stitch_within p0 p1) := by
  unfold K_stitch_within F_stitch_within
  with_reducible repeat' (first | exact Le.rfl _ | refine Le.loop _ ?_ | refine Le.bind ?_ ?_ | refine Le.ite ?_ ?_ | refine Le.sum ?_ ?_ | refine Le.prod ?_ | intro _ | exact Empty.elim (by assumption) | dsimp only)
theorem m_F_stitch_Check (p0 : api_Stitch) : Le (K_stitch_Check p0) (F_stitch_Check p0) := by
  unfold K_stitch_Check F_stitch_Check
  with_reducible repeat' (first | exact m_F_stitch_forms _ | exact m_F_stitch_within _ _ | exact Le.rfl _ | refine Le.loop _ ?_ | refine Le.bind ?_ ?_ | refine Le.ite ?_ ?_ | refine Le.sum ?_ ?_ | refine Le.prod ?_ | intro _ | exact Empty.elim (by assumption) | dsimp only)
theorem m_F_stitch_All_1 (p0 : api_Stitch) : Le (K_stitch_All_1 p0) (F_stitch_All_1 p0) := by
  unfold K_stitch_All_1 F_stitch_All_1
  with_reducible repeat' (first | exact m_F_stitch_Check _ | exact Le.rfl _ | refine Le.loop _ ?_ | refine Le.bind ?_ ?_ | refine Le.ite ?_ ?_ | refine Le.sum ?_ ?_ | refine Le.prod ?_ | intro _ | exact Empty.elim (by assumption) | dsimp only)
theorem m_slices_IndexFunc___api_Stitch_api_Stitch__s0_l1 (p0 : (List api_Stitch)) : ∀ s, Le (K_slices_IndexFunc___api_Stitch_api_Stitch__s0_l1 p0 s) (slices_IndexFunc___api_Stitch_api_Stitch__s0_l1 p0 s) := by
  unfold K_slices_IndexFunc___api_Stitch_api_Stitch__s0_l1 slices_IndexFunc___api_Stitch_api_Stitch__s0_l1
  with_reducible repeat' (first | exact m_F_stitch_All_1 _ | exact Le.rfl _ | refine Le.loop _ ?_ | refine Le.bind ?_ ?_ | refine Le.ite ?_ ?_ | refine Le.sum ?_ ?_ | refine Le.prod ?_ | intro _ | exact Empty.elim (by assumption) | dsimp only)
theorem m_F_slices_IndexFunc___api_Stitch_api_Stitch__s0 (p0 : (List api_Stitch)) : Le (K_slices_IndexFunc___api_Stitch_api_Stitch__s0 p0) (F_slices_IndexFunc___api_Stitch_api_Stitch__s0 p0) := by
  unfold K_slices_IndexFunc___api_Stitch_api_Stitch__s0 F_slices_IndexFunc___api_Stitch_api_Stitch__s0
  with_reducible repeat' (first | exact m_slices_IndexFunc___api_Stitch_api_Stitch__s0_l1 _ | exact Le.rfl _ | refine Le.loop _ ?_ | refine Le.bind ?_ ?_ | refine Le.ite ?_ ?_ | refine Le.sum ?_ ?_ | refine Le.prod ?_ | intro _ | exact Empty.elim (by assumption) | dsimp only)
theorem m_F_slices_ContainsFunc___api_Stitch_api_Stitch__s0 (p0 : (List api_Stitch)) : Le (K_slices_ContainsFunc___api_Stitch_api_Stitch__s0 p0) (F_slices_ContainsFunc___api_Stitch_api_Stitch__s0 p0) := by
  unfold K_slices_ContainsFunc___api_Stitch_api_Stitch__s0 F_slices_ContainsFunc___api_Stitch_api_Stitch__s0
  with_reducible repeat' (first | exact m_F_slices_IndexFunc___api_Stitch_api_Stitch__s0 _ | exact Le.rfl _ | refine Le.loop _ ?_ | refine Le.bind ?_ ?_ | refine Le.ite ?_ ?_ | refine Le.sum ?_ ?_ | refine Le.prod ?_ | intro _ | exact Empty.elim (by assumption) | dsimp only)
theorem m_F_stitch_loops (p0 : api_Stitch) (p1 : Int) : Le (K_stitch_loops p0 p1) (F_stitch_loops p0 p1) := by
  unfold K_stitch_loops F_stitch_loops
  with_reducible repeat' (first | exact Le.rfl _ | refine Le.loop _ ?_ | refine Le.bind ?_ ?_ | refine Le.ite ?_ ?_ | refine Le.sum ?_ ?_ | refine Le.prod ?_ | intro _ | exact Empty.elim (by assumption) | dsimp only)
theorem m_stitch_sum_l1 (p0 : (List api_Stitch)) : ∀ s, Le (K_stitch_sum_l1 p0 s) (stitch_sum_l1 p0 s) := by
  unfold K_stitch_sum_l1 stitch_sum_l1
  with_reducible repeat' (first | exact m_F_stitch_forms _ | exact m_F_stitch_loops _ _ | exact Le.rfl _ | refine Le.loop _ ?_ | refine Le.bind ?_ ?_ | refine Le.ite ?_ ?_ | refine Le.sum ?_ ?_ | refine Le.prod ?_ | intro _ | exact Empty.elim (by assumption) | dsimp only)
theorem m_F_stitch_sum (p0 : (List api_Stitch)) : Le (K_stitch_sum p0) (F_stitch_sum p0) := by
  unfold K_stitch_sum F_stitch_sum
  with_reducible repeat' (first | exact m_stitch_sum_l1 _ | exact Le.rfl _ | refine Le.loop _ ?_ | refine Le.bind ?_ ?_ | refine Le.ite ?_ ?_ | refine Le.sum ?_ ?_ | refine Le.prod ?_ | intro _ | exact Empty.elim (by assumption) | dsimp only)
theorem m_F_stitch_All (p0 : (List api_Stitch)) : Le (K_stitch_All p0) (F_stitch_All p0) := by
  unfold K_stitch_All F_stitch_All
  with_reducible repeat' (first | exact m_F_slices_ContainsFunc___api_Stitch_api_Stitch__s0 _ | exact m_F_stitch_sum _ | exact Le.rfl _ | refine Le.loop _ ?_ | refine Le.bind ?_ ?_ | refine Le.ite ?_ ?_ | refine Le.sum ?_ ?_ | refine Le.prod ?_ | intro _ | exact Empty.elim (by assumption) | dsimp only)
theorem m_F_stitch_Uses (p0 : (List api_Stitch)) : Le (K_stitch_Uses p0) (F_stitch_Uses p0) := by
  unfold K_stitch_Uses F_stitch_Uses
  with_reducible repeat' (first | exact m_F_stitch_All _ | exact m_F_stitch_sum _ | exact Le.rfl _ | refine Le.loop _ ?_ | refine Le.bind ?_ ?_ | refine Le.ite ?_ ?_ | refine Le.sum ?_ ?_ | refine Le.prod ?_ | intro _ | exact Empty.elim (by assumption) | dsimp only)
theorem m_F_stitch_Makes (p0 : (List api_Stitch)) : Le (K_stitch_Makes p0) (F_stitch_Makes p0) := by
  unfold K_stitch_Makes F_stitch_Makes
  with_reducible repeat' (first | exact m_F_stitch_All _ | exact m_F_stitch_sum _ | exact Le.rfl _ | refine Le.loop _ ?_ | refine Le.bind ?_ ?_ | refine Le.ite ?_ ?_ | refine Le.sum ?_ ?_ | refine Le.prod ?_ | intro _ | exact Empty.elim (by assumption) | dsimp only)
theorem m_chart_counted_1_l1 {σ τ : Type} (p0 : api_Chart) (B B' : σ → (Int × chart_count) → Option (σ ⊕ τ)) (hB : ∀ s x, Le (B s x) (B' s x)) : ∀ s, Le (K_chart_counted_1_l1 p0 B s) (chart_counted_1_l1 p0 B' s) := by
  unfold K_chart_counted_1_l1 chart_counted_1_l1
  with_reducible repeat' (first | exact hB _ _ | exact m_F_stitch_Uses _ | exact m_F_stitch_Makes _ | exact Le.rfl _ | refine Le.loop _ ?_ | refine Le.bind ?_ ?_ | refine Le.ite ?_ ?_ | refine Le.sum ?_ ?_ | refine Le.prod ?_ | intro _ | exact Empty.elim (by assumption) | dsimp only)
theorem m_I_chart_counted_1 (p0 : api_Chart) (σ τ : Type) (B B' : σ → (Int × chart_count) → Option (σ ⊕ τ)) (hB : ∀ s x, Le (B s x) (B' s x)) (gz0 : σ) : Le (K_I_chart_counted_1 p0 σ τ B gz0) (I_chart_counted_1 p0 σ τ B' gz0) := by
  unfold K_I_chart_counted_1 I_chart_counted_1
  with_reducible repeat' (first | exact hB _ _ | exact m_chart_counted_1_l1 _ _ _ hB | exact Le.rfl _ | refine Le.loop _ ?_ | refine Le.bind ?_ ?_ | refine Le.ite ?_ ?_ | refine Le.sum ?_ ?_ | refine Le.prod ?_ | intro _ | exact Empty.elim (by assumption) | dsimp only)
theorem m_chart_Check_l2  : ∀ s x, Le (K_chart_Check_l2 s x) (chart_Check_l2 s x) := by
  unfold K_chart_Check_l2 chart_Check_l2
  with_reducible repeat' (first | exact Le.rfl _ | refine Le.loop _ ?_ | refine Le.bind ?_ ?_ | refine Le.ite ?_ ?_ | refine Le.sum ?_ ?_ | refine Le.prod ?_ | intro _ | exact Empty.elim (by assumption) | dsimp only)
theorem m_F_chart_Check (p0 : api_Chart) : Le (K_chart_Check p0) (F_chart_Check p0) := by
  unfold K_chart_Check F_chart_Check
  with_reducible repeat' (first | exact m_F_chart_counted _ | refine m_I_chart_counted_1 _ _ _ _ _ ?_ _ | exact m_chart_Check_l2 | exact Le.rfl _ | refine Le.loop _ ?_ | refine Le.bind ?_ ?_ | refine Le.ite ?_ ?_ | refine Le.sum ?_ ?_ | refine Le.prod ?_ | intro _ | exact Empty.elim (by assumption) | dsimp only)
theorem m_cost_Count_l1 (x74 : api_Row) : ∀ s, Le (K_cost_Count_l1 x74 s) (cost_Count_l1 x74 s) := by
  unfold K_cost_Count_l1 cost_Count_l1
  with_reducible repeat' (first | exact Le.rfl _ | refine Le.loop _ ?_ | refine Le.bind ?_ ?_ | refine Le.ite ?_ ?_ | refine Le.sum ?_ ?_ | refine Le.prod ?_ | intro _ | exact Empty.elim (by assumption) | dsimp only)
theorem m_cost_Count_l2 (p0 : api_Chart) : ∀ s, Le (K_cost_Count_l2 p0 s) (cost_Count_l2 p0 s) := by
  unfold K_cost_Count_l2 cost_Count_l2
  with_reducible repeat' (first | exact m_cost_Count_l1 _ | exact Le.rfl _ | refine Le.loop _ ?_ | refine Le.bind ?_ ?_ | refine Le.ite ?_ ?_ | refine Le.sum ?_ ?_ | refine Le.prod ?_ | intro _ | exact Empty.elim (by assumption) | dsimp only)
theorem m_F_cost_Count (p0 : api_Chart) : Le (K_cost_Count p0) (F_cost_Count p0) := by
  unfold K_cost_Count F_cost_Count
  with_reducible repeat' (first | exact m_F_chart_Check _ | exact m_cost_Count_l2 _ | exact Le.rfl _ | refine Le.loop _ ?_ | refine Le.bind ?_ ?_ | refine Le.ite ?_ ?_ | refine Le.sum ?_ ?_ | refine Le.prod ?_ | intro _ | exact Empty.elim (by assumption) | dsimp only)
theorem m_F_raddlelaw45_rates  : Le (K_raddlelaw45_rates) (F_raddlelaw45_rates) := by
  unfold K_raddlelaw45_rates F_raddlelaw45_rates
  with_reducible repeat' (first | exact Le.rfl _ | refine Le.loop _ ?_ | refine Le.bind ?_ ?_ | refine Le.ite ?_ ?_ | refine Le.sum ?_ ?_ | refine Le.prod ?_ | intro _ | exact Empty.elim (by assumption) | dsimp only)
theorem m_F_cost_rate (p0 : Int) : Le (K_cost_rate p0) (F_cost_rate p0) := by
  unfold K_cost_rate F_cost_rate
  with_reducible repeat' (first | exact Le.rfl _ | refine Le.loop _ ?_ | refine Le.bind ?_ ?_ | refine Le.ite ?_ ?_ | refine Le.sum ?_ ?_ | refine Le.prod ?_ | intro _ | exact Empty.elim (by assumption) | dsimp only)
theorem m_cost_Check_l1 (p0 : api_Rates) : ∀ s, Le (K_cost_Check_l1 p0 s) (cost_Check_l1 p0 s) := by
  unfold K_cost_Check_l1 cost_Check_l1
  with_reducible repeat' (first | exact m_F_cost_rate _ | exact Le.rfl _ | refine Le.loop _ ?_ | refine Le.bind ?_ ?_ | refine Le.ite ?_ ?_ | refine Le.sum ?_ ?_ | refine Le.prod ?_ | intro _ | exact Empty.elim (by assumption) | dsimp only)
theorem m_F_cost_Check (p0 : api_Rates) : Le (K_cost_Check p0) (F_cost_Check p0) := by
  unfold K_cost_Check F_cost_Check
  with_reducible repeat' (first | exact m_cost_Check_l1 _ | exact m_F_cost_rate _ | exact Le.rfl _ | refine Le.loop _ ?_ | refine Le.bind ?_ ?_ | refine Le.ite ?_ ?_ | refine Le.sum ?_ ?_ | refine Le.prod ?_ | intro _ | exact Empty.elim (by assumption) | dsimp only)
theorem m_cost_Need_l1 (r10 : ((Int × Int × Int × Int × Int × Int × Int × Int × Int × Int × Int) × Int)) (p1 : api_Rates) : ∀ s, Le (K_cost_Need_l1 r10 p1 s) (cost_Need_l1 r10 p1 s) := by
  unfold K_cost_Need_l1 cost_Need_l1
  with_reducible repeat' (first | exact Le.rfl _ | refine Le.loop _ ?_ | refine Le.bind ?_ ?_ | refine Le.ite ?_ ?_ | refine Le.sum ?_ ?_ | refine Le.prod ?_ | intro _ | exact Empty.elim (by assumption) | dsimp only)
theorem m_cost_Need_l2 (x63 : api_Row) (p1 : api_Rates) : ∀ s, Le (K_cost_Need_l2 x63 p1 s) (cost_Need_l2 x63 p1 s) := by
  unfold K_cost_Need_l2 cost_Need_l2
  with_reducible repeat' (first | exact m_F_stitch_Makes _ | exact Le.rfl _ | refine Le.loop _ ?_ | refine Le.bind ?_ ?_ | refine Le.ite ?_ ?_ | refine Le.sum ?_ ?_ | refine Le.prod ?_ | intro _ | exact Empty.elim (by assumption) | dsimp only)
theorem m_cost_Need_l3 (p0 : api_Chart) (p1 : api_Rates) : ∀ s, Le (K_cost_Need_l3 p0 p1 s) (cost_Need_l3 p0 p1 s) := by
  unfold K_cost_Need_l3 cost_Need_l3
  with_reducible repeat' (first | exact m_cost_Need_l2 _ _ | exact Le.rfl _ | refine Le.loop _ ?_ | refine Le.bind ?_ ?_ | refine Le.ite ?_ ?_ | refine Le.sum ?_ ?_ | refine Le.prod ?_ | intro _ | exact Empty.elim (by assumption) | dsimp only)
theorem m_F_cost_Need (p0 : api_Chart) (p1 : api_Rates) : Le (K_cost_Need p0 p1) (F_cost_Need p0 p1) := by
  unfold K_cost_Need F_cost_Need
  with_reducible repeat' (first | exact m_F_cost_Count _ | exact m_F_cost_Check _ | exact m_cost_Need_l1 _ _ | exact m_cost_Need_l3 _ _ | exact Le.rfl _ | refine Le.loop _ ?_ | refine Le.bind ?_ ?_ | refine Le.ite ?_ ?_ | refine Le.sum ?_ ?_ | refine Le.prod ?_ | intro _ | exact Empty.elim (by assumption) | dsimp only)
theorem m_F_raddlelaw45_tex (p0 : Int) : Le (K_raddlelaw45_tex p0) (F_raddlelaw45_tex p0) := by
  unfold K_raddlelaw45_tex F_raddlelaw45_tex
  with_reducible repeat' (first | exact Le.rfl _ | refine Le.loop _ ?_ | refine Le.bind ?_ ?_ | refine Le.ite ?_ ?_ | refine Le.sum ?_ ?_ | refine Le.prod ?_ | intro _ | exact Empty.elim (by assumption) | dsimp only)
theorem m_F_yarn_factors (p0 : Int) : Le (K_yarn_factors p0) (F_yarn_factors p0) := by
  unfold K_yarn_factors F_yarn_factors
  with_reducible repeat' (first | exact Le.rfl _ | refine Le.loop _ ?_ | refine Le.bind ?_ ?_ | refine Le.ite ?_ ?_ | refine Le.sum ?_ ?_ | refine Le.prod ?_ | intro _ | exact Empty.elim (by assumption) | dsimp only)
theorem m_F_yarn_size (p0 : Int) : Le (K_yarn_size p0) (F_yarn_size p0) := by
  unfold K_yarn_size F_yarn_size
  with_reducible repeat' (first | exact Le.rfl _ | refine Le.loop _ ?_ | refine Le.bind ?_ ?_ | refine Le.ite ?_ ?_ | refine Le.sum ?_ ?_ | refine Le.prod ?_ | intro _ | exact Empty.elim (by assumption) | dsimp only)
theorem m_yarn_gcd_l1  : ∀ s, Le (K_yarn_gcd_l1 s) (yarn_gcd_l1 s) := by
  unfold K_yarn_gcd_l1 yarn_gcd_l1
  with_reducible repeat' (first | exact Le.rfl _ | refine Le.loop _ ?_ | refine Le.bind ?_ ?_ | refine Le.ite ?_ ?_ | refine Le.sum ?_ ?_ | refine Le.prod ?_ | intro _ | exact Empty.elim (by assumption) | dsimp only)
theorem m_F_yarn_gcd (p0 : Int) (p1 : Int) : Le (K_yarn_gcd p0 p1) (F_yarn_gcd p0 p1) := by
  unfold K_yarn_gcd F_yarn_gcd
  with_reducible repeat' (first | exact m_yarn_gcd_l1 | exact Le.rfl _ | refine Le.loop _ ?_ | refine Le.bind ?_ ?_ | refine Le.ite ?_ ?_ | refine Le.sum ?_ ?_ | refine Le.prod ?_ | intro _ | exact Empty.elim (by assumption) | dsimp only)
theorem m_F_yarn_Check (p0 : api_Ratio) : Le (K_yarn_Check p0) (F_yarn_Check p0) := by
  unfold K_yarn_Check F_yarn_Check
  with_reducible repeat' (first | exact m_F_yarn_size _ | exact m_F_yarn_gcd _ _ | exact Le.rfl _ | refine Le.loop _ ?_ | refine Le.bind ?_ ?_ | refine Le.ite ?_ ?_ | refine Le.sum ?_ ?_ | refine Le.prod ?_ | intro _ | exact Empty.elim (by assumption) | dsimp only)
theorem m_F_yarn_counted (p0 : api_Count) : Le (K_yarn_counted p0) (F_yarn_counted p0) := by
  unfold K_yarn_counted F_yarn_counted
  with_reducible repeat' (first | exact m_F_yarn_factors _ | exact m_F_yarn_Check _ | exact Le.rfl _ | refine Le.loop _ ?_ | refine Le.bind ?_ ?_ | refine Le.ite ?_ ?_ | refine Le.sum ?_ ?_ | refine Le.prod ?_ | intro _ | exact Empty.elim (by assumption) | dsimp only)
theorem m_F_yarn_Make (p0 : Int) (p1 : Int) : Le (K_yarn_Make p0 p1) (F_yarn_Make p0 p1) := by
  unfold K_yarn_Make F_yarn_Make
  with_reducible repeat' (first | exact m_F_yarn_size _ | exact m_F_yarn_gcd _ _ | exact Le.rfl _ | refine Le.loop _ ?_ | refine Le.bind ?_ ?_ | refine Le.ite ?_ ?_ | refine Le.sum ?_ ?_ | refine Le.prod ?_ | intro _ | exact Empty.elim (by assumption) | dsimp only)
theorem m_F_yarn_Convert (p0 : api_Count) (p1 : Int) : Le (K_yarn_Convert p0 p1) (F_yarn_Convert p0 p1) := by
  unfold K_yarn_Convert F_yarn_Convert
  with_reducible repeat' (first | exact m_F_yarn_counted _ | exact m_F_yarn_factors _ | exact m_F_yarn_gcd _ _ | exact m_F_yarn_Make _ _ | exact Le.rfl _ | refine Le.loop _ ?_ | refine Le.bind ?_ ?_ | refine Le.ite ?_ ?_ | refine Le.sum ?_ ?_ | refine Le.prod ?_ | intro _ | exact Empty.elim (by assumption) | dsimp only)
theorem m_F_yarn_Weigh (p0 : api_Count) (p1 : Int) : Le (K_yarn_Weigh p0 p1) (F_yarn_Weigh p0 p1) := by
  unfold K_yarn_Weigh F_yarn_Weigh
  with_reducible repeat' (first | exact m_F_yarn_counted _ | exact m_F_yarn_Convert _ _ | exact m_F_yarn_Make _ _ | exact Le.rfl _ | refine Le.loop _ ?_ | refine Le.bind ?_ ?_ | refine Le.ite ?_ ?_ | refine Le.sum ?_ ?_ | refine Le.prod ?_ | intro _ | exact Empty.elim (by assumption) | dsimp only)
theorem m_F_cost_Weight (p0 : api_Bill) (p1 : api_Count) : Le (K_cost_Weight p0 p1) (F_cost_Weight p0 p1) := by
  unfold K_cost_Weight F_cost_Weight
  with_reducible repeat' (first | exact m_F_yarn_Weigh _ _ | exact Le.rfl _ | refine Le.loop _ ?_ | refine Le.bind ?_ ?_ | refine Le.ite ?_ ?_ | refine Le.sum ?_ ?_ | refine Le.prod ?_ | intro _ | exact Empty.elim (by assumption) | dsimp only)
theorem m_F_yarn_floor (p0 : Int) (p1 : Int) : Le (K_yarn_floor p0 p1) (F_yarn_floor p0 p1) := by
  unfold K_yarn_floor F_yarn_floor
  with_reducible repeat' (first | exact Le.rfl _ | refine Le.loop _ ?_ | refine Le.bind ?_ ?_ | refine Le.ite ?_ ?_ | refine Le.sum ?_ ?_ | refine Le.prod ?_ | intro _ | exact Empty.elim (by assumption) | dsimp only)
theorem m_F_yarn_Skeins (p0 : api_Count) (p1 : Int) (p2 : Int) : Le (K_yarn_Skeins p0 p1 p2) (F_yarn_Skeins p0 p1 p2) := by
  unfold K_yarn_Skeins F_yarn_Skeins
  with_reducible repeat' (first | exact m_F_yarn_Weigh _ _ | exact m_F_yarn_floor _ _ | exact Le.rfl _ | refine Le.loop _ ?_ | refine Le.bind ?_ ?_ | refine Le.ite ?_ ?_ | refine Le.sum ?_ ?_ | refine Le.prod ?_ | intro _ | exact Empty.elim (by assumption) | dsimp only)
theorem m_F_cost_Price (p0 : api_Bill) (p1 : api_Count) (p2 : Int) (p3 : Int) : Le (K_cost_Price p0 p1 p2 p3) (F_cost_Price p0 p1 p2 p3) := by
  unfold K_cost_Price F_cost_Price
  with_reducible repeat' (first | exact m_F_yarn_Skeins _ _ _ | exact Le.rfl _ | refine Le.loop _ ?_ | refine Le.bind ?_ ?_ | refine Le.ite ?_ ?_ | refine Le.sum ?_ ?_ | refine Le.prod ?_ | intro _ | exact Empty.elim (by assumption) | dsimp only)
set_option maxRecDepth 1000000 in
theorem kc_raddlelaw45_alive_0 : F_raddlelaw45_given = some (api_Chart.mk 3 [(api_Row.mk false [(api_Stitch.mk 1 false 0 0), (api_Stitch.mk 2 false 0 0), (api_Stitch.mk 4 false 2 0)]), (api_Row.mk true [(api_Stitch.mk 1 true 0 0), (api_Stitch.mk 1 true 0 0), (api_Stitch.mk 1 true 0 0)])]) := m_F_raddlelaw45_given _ (by kernel_rfl)
set_option maxRecDepth 1000000 in
theorem kc_raddlelaw45_alive_1 : F_cost_Count ((api_Chart.mk 3 [(api_Row.mk false [(api_Stitch.mk 1 false 0 0), (api_Stitch.mk 2 false 0 0), (api_Stitch.mk 4 false 2 0)]), (api_Row.mk true [(api_Stitch.mk 1 true 0 0), (api_Stitch.mk 1 true 0 0), (api_Stitch.mk 1 true 0 0)])])) = some ((0, (4, (1, (0, (1, (0, (0, (0, (0, (0, 0)))))))))), 0) := m_F_cost_Count _ _ (by kernel_rfl)
set_option maxRecDepth 1000000 in
theorem kc_raddlelaw45_alive_2 : F_raddlelaw45_rates = some (api_Rates.mk (0, (100, (150, (0, (90, (0, (0, (0, (0, (0, 0)))))))))) (0, (1000, (500, (0, (1500, (0, (0, (0, (0, (0, 0)))))))))) 2000) := m_F_raddlelaw45_rates _ (by kernel_rfl)
set_option maxRecDepth 1000000 in
theorem kc_raddlelaw45_alive_3 : F_cost_Need ((api_Chart.mk 3 [(api_Row.mk false [(api_Stitch.mk 1 false 0 0), (api_Stitch.mk 2 false 0 0), (api_Stitch.mk 4 false 2 0)]), (api_Row.mk true [(api_Stitch.mk 1 true 0 0), (api_Stitch.mk 1 true 0 0), (api_Stitch.mk 1 true 0 0)])])) ((api_Rates.mk (0, (100, (150, (0, (90, (0, (0, (0, (0, (0, 0)))))))))) (0, (1000, (500, (0, (1500, (0, (0, (0, (0, (0, 0)))))))))) 2000)) = some ((api_Bill.mk 640 10000), 0) := m_F_cost_Need _ _ _ (by kernel_rfl)
set_option maxRecDepth 1000000 in
theorem kc_raddlelaw45_alive_4 : F_raddlelaw45_tex 50 = some (api_Count.mk 1 (api_Ratio.mk 50 1)) := m_F_raddlelaw45_tex _ _ (by kernel_rfl)
set_option maxRecDepth 1000000 in
theorem kc_raddlelaw45_alive_5 : F_cost_Weight (api_Bill.mk 1000000 0) ((api_Count.mk 1 (api_Ratio.mk 50 1))) = some ((api_Ratio.mk 5000 1), 0) := m_F_cost_Weight _ _ _ (by kernel_rfl)
set_option maxRecDepth 1000000 in
theorem kc_raddlelaw45_alive_6 : F_cost_Price (api_Bill.mk 1000000 0) ((api_Count.mk 1 (api_Ratio.mk 50 1))) 2000 350 = some (3, (1050, 0)) := m_F_cost_Price _ _ _ _ _ (by kernel_rfl)
end Go.Proofs.Ytdbgkakmhlmpbaa
namespace Go.Proofs.Ytdbgkakmhlmpbaa
open Go.RowKit
set_option linter.unusedVariables false

noncomputable def F_raddlelaw45_alive  : Option Bool :=
  Option.bind (F_raddlelaw45_given) fun r3 =>
  Option.bind (F_cost_Count r3) fun r10 =>
  Option.bind (F_raddlelaw45_rates) fun r20 =>
  Option.bind (F_cost_Need r3 r20) fun r23 =>
  Option.bind (F_raddlelaw45_tex 50) fun r28 =>
  Option.bind (F_cost_Weight (api_Bill.mk 1000000 0) r28) fun r31 =>
  Option.bind (F_cost_Price (api_Bill.mk 1000000 0) r28 2000 350) fun r37 =>
  if r10.2 == 0 then
    if ((r10.1.1 == 0) && ((r10.1.2.1 == 4) && ((r10.1.2.2.1 == 1) && ((r10.1.2.2.2.1 == 0) && ((r10.1.2.2.2.2.1 == 1) && ((r10.1.2.2.2.2.2.1 == 0) && ((r10.1.2.2.2.2.2.2.1 == 0) && ((r10.1.2.2.2.2.2.2.2.1 == 0) && ((r10.1.2.2.2.2.2.2.2.2.1 == 0) && ((r10.1.2.2.2.2.2.2.2.2.2.1 == 0) && ((r10.1.2.2.2.2.2.2.2.2.2.2 == 0) && true))))))))))) then
      if r23.2 == 0 then
        if ((r23.1.Length == 640) && ((r23.1.Time == 10000) && true)) then
          if r31.2 == 0 then
            if ((r31.1.Num == 5000) && ((r31.1.Den == 1) && true)) then
              if r37.2.2 == 0 then
                if r37.1 == 3 then
                  some (r37.2.1 == 1050)
                else
                  none
              else
                none
            else
              none
          else
            none
        else
          none
      else
        none
    else
      none
  else
    none
set_option maxHeartbeats 4000000 in
set_option maxRecDepth 100000 in
theorem c_raddlelaw45_alive (E : Nat → Prop) (w0 : World)  (r : Bool) (h : F_raddlelaw45_alive  = some r) (S : St0 E [] w0 w0 [] []) :
    Calls Try.prog 24 #[] w0 (Ret (X := Unit) E [] w0 (fun _ => .bool r) (fun _ => []) (fun _ => [])) := by
  unfold F_raddlelaw45_alive at h
  refine sEnter (args := []) 73 Try.func24 rfl rfl (by simp) S (fun a S => ?_)
  refine sSeq (fun K1 hK1 => ?_)
  refine sRegion ?_
  refine sMove (.bool false) S (wN rfl) (.inr rfl) rfl rfl (lb rfl) fun a S => ?_
  refine leafL (leafT (hK1 _ _ ?_))
  refine sSeq (fun K2 hK2 => ?_)
  refine sRegion ?_
  obtain ⟨r3, hx4, h⟩ := bindSome h
  have hv_r3 : r3 = (api_Chart.mk 3 [(api_Row.mk false [(api_Stitch.mk 1 false 0 0), (api_Stitch.mk 2 false 0 0), (api_Stitch.mk 4 false 2 0)]), (api_Row.mk true [(api_Stitch.mk 1 true 0 0), (api_Stitch.mk 1 true 0 0), (api_Stitch.mk 1 true 0 0)])]) := Option.some.inj (hx4.symm.trans (by exact kc_raddlelaw45_alive_0))
  refine sCall (X := Value) (f := 44) (vs := []) (val := c_raddlelaw45_given_val r3) (B' := fun _ => []) (D' := c_raddlelaw45_given_D r3) [] [] [] [] [] S (wN rfl) rfl callee44 rfl (by decide) rfl rfl (fun E1 w1 S1 => c_raddlelaw45_given E1 w1  r3 hx4 S1) rfl (lb rfl) fun u5 a w S => ?_
  obtain ⟨u6, rfl, hu7⟩ := S.mem.know (i := 0) (e := fRep r_api_Chart (u5) r3) rfl
  have S := S.learn (fRep (rL r_api_Row) u6 r3.Rows) hu7
  obtain ⟨ad8, cp9, _, rfl, _⟩ := hu7
  obtain ⟨r10, hx11, h⟩ := bindSome h
  have hv_r10 : r10 = ((0, (4, (1, (0, (1, (0, (0, (0, (0, (0, 0)))))))))), 0) := Option.some.inj (hx11.symm.trans (by rw [hv_r3]; exact kc_raddlelaw45_alive_1))
  refine sCall (X := Value) (f := 16) (vs := [.agg #[iv r3.Start, .slice ad8 r3.Rows.length cp9]]) (val := c_cost_Count_val r10) (B' := fun _ => []) (D' := c_cost_Count_D r10) [] [] [fRep r_api_Chart (.agg #[iv r3.Start, .slice ad8 r3.Rows.length cp9]) r3] [] [1] S (wN rfl) rfl callee16 rfl (by decide) rfl rfl (fun E1 w1 S1 => c_cost_Count E1 w1 r3 (.agg #[iv r3.Start, .slice ad8 r3.Rows.length cp9]) r10 hx11 S1) rfl (lb rfl) fun u12 a w S => ?_
  obtain rfl : u12 = gv_A11_Int r10.1 := S.mem.know (i := 0) (e := fRep r_A11_Int (u12) r10.1) rfl
  refine sMove (.tuple #[gv_A11_Int r10.1, iv r10.2]) S (wN rfl) (.inl rfl) rfl rfl (lb rfl) fun a S => ?_
  refine sExtract (vs := [gv_A11_Int r10.1, iv r10.2]) (gv_A11_Int r10.1) S (wN rfl) rfl rfl rfl rfl (lb rfl) fun a S => ?_
  refine sExtract (vs := [gv_A11_Int r10.1, iv r10.2]) (iv r10.2) S (wN rfl) rfl rfl rfl rfl (lb rfl) fun a S => ?_
  refine sAlloc (gv_A11_Int (0, 0, 0, 0, 0, 0, 0, 0, 0, 0, 0)) S (wN rfl) rfl rfl (gl_A11_Int (0, 0, 0, 0, 0, 0, 0, 0, 0, 0, 0)) rfl rfl (lb rfl) fun a b13 w S => ?_
  refine sStore (p := b13) (off := 0) (T := 42) (vs := [iv 0, iv 0, iv 0, iv 0, iv 0, iv 0, iv 0, iv 0, iv 0, iv 0, iv 0]) (v := gv_A11_Int r10.1) 0 [iv r10.1.1, iv r10.1.2.1, iv r10.1.2.2.1, iv r10.1.2.2.2.1, iv r10.1.2.2.2.2.1, iv r10.1.2.2.2.2.2.1, iv r10.1.2.2.2.2.2.2.1, iv r10.1.2.2.2.2.2.2.2.1, iv r10.1.2.2.2.2.2.2.2.2.1, iv r10.1.2.2.2.2.2.2.2.2.2.1, iv r10.1.2.2.2.2.2.2.2.2.2.2] S (wN rfl) rfl rfl rfl rfl rfl rfl rfl (by simp) rfl fun a w S => ?_
  refine sMove (iv r10.2) S (wN rfl) (.inr rfl) rfl rfl (lb rfl) fun a S => ?_
  refine leafL (leafT (hK2 _ _ ?_))
  refine sSeq (fun K14 hK14 => ?_)
  refine sRegion ?_
  refine sCall (X := Value) (f := 44) (vs := []) (val := c_raddlelaw45_given_val r3) (B' := fun _ => []) (D' := c_raddlelaw45_given_D r3) [] [eBox b13 42 (gl_A11_Int r10.1)] [] [0] [] S (wN rfl) rfl callee44 rfl (by decide) rfl rfl (fun E1 w1 S1 => c_raddlelaw45_given E1 w1  r3 hx4 S1) rfl (lb rfl) fun u15 a w S => ?_
  obtain ⟨u16, rfl, hu17⟩ := S.mem.know (i := 0) (e := fRep r_api_Chart (u15) r3) rfl
  have S := S.learn (fRep (rL r_api_Row) u16 r3.Rows) hu17
  obtain ⟨ad18, cp19, _, rfl, _⟩ := hu17
  obtain ⟨r20, hx21, h⟩ := bindSome h
  have hv_r20 : r20 = (api_Rates.mk (0, (100, (150, (0, (90, (0, (0, (0, (0, (0, 0)))))))))) (0, (1000, (500, (0, (1500, (0, (0, (0, (0, (0, 0)))))))))) 2000) := Option.some.inj (hx21.symm.trans (by exact kc_raddlelaw45_alive_2))
  refine sCall (X := Value) (f := 28) (vs := []) (val := c_raddlelaw45_rates_val r20) (B' := fun _ => []) (D' := c_raddlelaw45_rates_D r20) [] [eBox b13 42 (gl_A11_Int r10.1)] [] [0] [] S (wN rfl) rfl callee28 rfl (by decide) rfl rfl (fun E1 w1 S1 => c_raddlelaw45_rates E1 w1  r20 hx21 S1) rfl (lb rfl) fun u22 a w S => ?_
  obtain rfl : u22 = gv_api_Rates r20 := S.mem.know (i := 0) (e := fRep r_api_Rates (u22) r20) rfl
  obtain ⟨r23, hx24, h⟩ := bindSome h
  have hv_r23 : r23 = ((api_Bill.mk 640 10000), 0) := Option.some.inj (hx24.symm.trans (by rw [hv_r3, hv_r20]; exact kc_raddlelaw45_alive_3))
  refine sCall (X := Value) (f := 18) (vs := [.agg #[iv r3.Start, .slice ad18 r3.Rows.length cp19], gv_api_Rates r20]) (val := c_cost_Need_val r23) (B' := fun _ => []) (D' := c_cost_Need_D r23) [] [eBox b13 42 (gl_A11_Int r10.1)] [fRep r_api_Chart (.agg #[iv r3.Start, .slice ad18 r3.Rows.length cp19]) r3, fRep r_api_Rates (gv_api_Rates r20) r20] [0] [2, 0] S (wN rfl) rfl callee18 rfl (by decide) rfl rfl (fun E1 w1 S1 => c_cost_Need E1 w1 r3 (.agg #[iv r3.Start, .slice ad18 r3.Rows.length cp19]) r20 (gv_api_Rates r20) r23 hx24 S1) rfl (lb rfl) fun u25 a w S => ?_
  obtain rfl : u25 = .agg #[iv r23.1.Length, iv r23.1.Time] := S.mem.know (i := 0) (e := fRep r_api_Bill (u25) r23.1) rfl
  refine sMove (.tuple #[.agg #[iv r23.1.Length, iv r23.1.Time], iv r23.2]) S (wN rfl) (.inl rfl) rfl rfl (lb rfl) fun a S => ?_
  refine sExtract (vs := [.agg #[iv r23.1.Length, iv r23.1.Time], iv r23.2]) (.agg #[iv r23.1.Length, iv r23.1.Time]) S (wN rfl) rfl rfl rfl rfl (lb rfl) fun a S => ?_
  refine sExtract (vs := [.agg #[iv r23.1.Length, iv r23.1.Time], iv r23.2]) (iv r23.2) S (wN rfl) rfl rfl rfl rfl (lb rfl) fun a S => ?_
  refine sAlloc (.agg #[iv 0, iv 0]) S (wN rfl) rfl rfl [iv 0, iv 0] rfl rfl (lb rfl) fun a b26 w S => ?_
  refine sStore (p := b26) (off := 0) (T := 23) (vs := [iv 0, iv 0]) (v := .agg #[iv r23.1.Length, iv r23.1.Time]) 0 [iv r23.1.Length, iv r23.1.Time] S (wN rfl) rfl rfl rfl rfl rfl rfl rfl (by simp) rfl fun a w S => ?_
  refine sMove (iv r23.2) S (wN rfl) (.inr rfl) rfl rfl (lb rfl) fun a S => ?_
  refine leafL (leafT (hK14 _ _ ?_))
  refine sSeq (fun K27 hK27 => ?_)
  refine sRegion ?_
  refine sBuild [(0, iv 1000000)] [iv 1000000, iv 0] S (wN rfl) rfl rfl rfl rfl (lb rfl) fun a S => ?_
  obtain ⟨r28, hx29, h⟩ := bindSome h
  have hv_r28 : r28 = (api_Count.mk 1 (api_Ratio.mk 50 1)) := Option.some.inj (hx29.symm.trans (by exact kc_raddlelaw45_alive_4))
  refine sCall (X := Value) (f := 29) (vs := [iv 50]) (val := c_raddlelaw45_tex_val r28) (B' := fun _ => []) (D' := c_raddlelaw45_tex_D r28) [] [eBox b26 23 [iv r23.1.Length, iv r23.1.Time], eBox b13 42 (gl_A11_Int r10.1)] [] [0, 1] [] S (wN rfl) rfl callee29 rfl (by decide) rfl rfl (fun E1 w1 S1 => c_raddlelaw45_tex E1 w1 50 r28 hx29 S1) rfl (lb rfl) fun u30 a w S => ?_
  obtain rfl : u30 = .agg #[.int .u8 r28.System, iv r28.N.Num, iv r28.N.Den] := S.mem.know (i := 0) (e := fRep r_api_Count (u30) r28) rfl
  obtain ⟨r31, hx32, h⟩ := bindSome h
  have hv_r31 : r31 = ((api_Ratio.mk 5000 1), 0) := Option.some.inj (hx32.symm.trans (by rw [hv_r28]; exact kc_raddlelaw45_alive_5))
  have S := S.learn (fRep r_api_Bill (.agg #[iv 1000000, iv 0]) (api_Bill.mk 1000000 0)) rfl
  refine sCall (X := Value) (f := 10) (vs := [.agg #[iv 1000000, iv 0], .agg #[.int .u8 r28.System, iv r28.N.Num, iv r28.N.Den]]) (val := c_cost_Weight_val r31) (B' := fun _ => []) (D' := c_cost_Weight_D r31) [] [eBox b26 23 [iv r23.1.Length, iv r23.1.Time], eBox b13 42 (gl_A11_Int r10.1)] [fRep r_api_Bill (.agg #[iv 1000000, iv 0]) (api_Bill.mk 1000000 0), fRep r_api_Count (.agg #[.int .u8 r28.System, iv r28.N.Num, iv r28.N.Den]) r28] [0, 1] [0, 1] S (wN rfl) rfl callee10 rfl (by decide) rfl rfl (fun E1 w1 S1 => c_cost_Weight E1 w1 (api_Bill.mk 1000000 0) (.agg #[iv 1000000, iv 0]) r28 (.agg #[.int .u8 r28.System, iv r28.N.Num, iv r28.N.Den]) r31 hx32 S1) rfl (lb rfl) fun u33 a w S => ?_
  obtain rfl : u33 = .agg #[iv r31.1.Num, iv r31.1.Den] := S.mem.know (i := 0) (e := fRep r_api_Ratio (u33) r31.1) rfl
  refine sMove (.tuple #[.agg #[iv r31.1.Num, iv r31.1.Den], iv r31.2]) S (wN rfl) (.inl rfl) rfl rfl (lb rfl) fun a S => ?_
  refine sExtract (vs := [.agg #[iv r31.1.Num, iv r31.1.Den], iv r31.2]) (.agg #[iv r31.1.Num, iv r31.1.Den]) S (wN rfl) rfl rfl rfl rfl (lb rfl) fun a S => ?_
  refine sExtract (vs := [.agg #[iv r31.1.Num, iv r31.1.Den], iv r31.2]) (iv r31.2) S (wN rfl) rfl rfl rfl rfl (lb rfl) fun a S => ?_
  refine sAlloc (.agg #[iv 0, iv 0]) S (wN rfl) rfl rfl [iv 0, iv 0] rfl rfl (lb rfl) fun a b34 w S => ?_
  refine sStore (p := b34) (off := 0) (T := 25) (vs := [iv 0, iv 0]) (v := .agg #[iv r31.1.Num, iv r31.1.Den]) 0 [iv r31.1.Num, iv r31.1.Den] S (wN rfl) rfl rfl rfl rfl rfl rfl rfl (by simp) rfl fun a w S => ?_
  refine sMove (iv r31.2) S (wN rfl) (.inr rfl) rfl rfl (lb rfl) fun a S => ?_
  refine leafL (leafT (hK27 _ _ ?_))
  refine sSeq (fun K35 hK35 => ?_)
  refine sRegion ?_
  refine sBuild [(0, iv 1000000)] [iv 1000000, iv 0] S (wN rfl) rfl rfl rfl rfl (lb rfl) fun a S => ?_
  refine sCall (X := Value) (f := 29) (vs := [iv 50]) (val := c_raddlelaw45_tex_val r28) (B' := fun _ => []) (D' := c_raddlelaw45_tex_D r28) [] [eBox b34 25 [iv r31.1.Num, iv r31.1.Den], eBox b26 23 [iv r23.1.Length, iv r23.1.Time], eBox b13 42 (gl_A11_Int r10.1)] [] [0, 1, 2] [] S (wN rfl) rfl callee29 rfl (by decide) rfl rfl (fun E1 w1 S1 => c_raddlelaw45_tex E1 w1 50 r28 hx29 S1) rfl (lb rfl) fun u36 a w S => ?_
  obtain rfl : u36 = .agg #[.int .u8 r28.System, iv r28.N.Num, iv r28.N.Den] := S.mem.know (i := 0) (e := fRep r_api_Count (u36) r28) rfl
  obtain ⟨r37, hx38, h⟩ := bindSome h
  have hv_r37 : r37 = (3, (1050, 0)) := Option.some.inj (hx38.symm.trans (by rw [hv_r28]; exact kc_raddlelaw45_alive_6))
  have S1 := S.mem
  refine sCallQ (X := Unit) (f := 12) (vs := [.agg #[iv 1000000, iv 0], .agg #[.int .u8 r28.System, iv r28.N.Num, iv r28.N.Den], iv 2000, iv 350]) (val := fun _ => .tuple #[iv r37.1, iv r37.2.1, iv r37.2.2]) S (wN rfl) rfl callee12 rfl (S1.quiet [2, 0] rfl) (fun E1 w1 S1 => c_cost_Price E1 w1 (api_Bill.mk 1000000 0) (.agg #[iv 1000000, iv 0]) r28 (.agg #[.int .u8 r28.System, iv r28.N.Num, iv r28.N.Den]) 2000 350 r37 hx38 S1) rfl (lb rfl) fun _ a w S => ?_
  refine sMove (.tuple #[iv r37.1, iv r37.2.1, iv r37.2.2]) S (wN rfl) (.inl rfl) rfl rfl (lb rfl) fun a S => ?_
  refine sExtract (vs := [iv r37.1, iv r37.2.1, iv r37.2.2]) (iv r37.1) S (wN rfl) rfl rfl rfl rfl (lb rfl) fun a S => ?_
  refine sExtract (vs := [iv r37.1, iv r37.2.1, iv r37.2.2]) (iv r37.2.1) S (wN rfl) rfl rfl rfl rfl (lb rfl) fun a S => ?_
  refine sExtract (vs := [iv r37.1, iv r37.2.1, iv r37.2.2]) (iv r37.2.2) S (wN rfl) rfl rfl rfl rfl (lb rfl) fun a S => ?_
  refine sMove (iv r37.1) S (wN rfl) (.inr rfl) rfl rfl (lb rfl) fun a S => ?_
  refine sMove (iv r37.2.1) S (wN rfl) (.inr rfl) rfl rfl (lb rfl) fun a S => ?_
  refine sMove (iv r37.2.2) S (wN rfl) (.inr rfl) rfl rfl (lb rfl) fun a S => ?_
  refine leafL (leafT (hK35 _ _ ?_))
  refine sSeq (fun K39 hK39 => ?_)
  refine sRegion ?_
  refine sBuild [(1, iv 4), (2, iv 1), (4, iv 1)] (gl_A11_Int (0, 4, 1, 0, 1, 0, 0, 0, 0, 0, 0)) S (wN rfl) rfl rfl rfl rfl (lb rfl) fun a S => ?_
  refine sAlloc (gv_A11_Int (0, 0, 0, 0, 0, 0, 0, 0, 0, 0, 0)) S (wN rfl) rfl rfl (gl_A11_Int (0, 0, 0, 0, 0, 0, 0, 0, 0, 0, 0)) rfl rfl (lb rfl) fun a b40 w S => ?_
  refine sStore (p := b40) (off := 0) (T := 42) (vs := [iv 0, iv 0, iv 0, iv 0, iv 0, iv 0, iv 0, iv 0, iv 0, iv 0, iv 0]) (v := gv_A11_Int (0, 4, 1, 0, 1, 0, 0, 0, 0, 0, 0)) 0 [iv 0, iv 4, iv 1, iv 0, iv 1, iv 0, iv 0, iv 0, iv 0, iv 0, iv 0] S (wN rfl) rfl rfl rfl rfl rfl rfl rfl (by simp) rfl fun a w S => ?_
  refine leafL (leafT (hK39 _ _ ?_))
  refine sSeq (fun K41 hK41 => ?_)
  refine sRegion ?_
  refine sMove (iv r10.2) S (wN rfl) (.inl rfl) rfl rfl (lb rfl) fun a S => ?_
  refine sBin (.bool (r10.2 == 0)) S (wN rfl) rfl rfl rfl (bEq _ _ _ _ .i64 r10.2 0) rfl (lb rfl) fun a S => ?_
  refine sMove (.bool (r10.2 == 0)) S (wN rfl) (.inl rfl) rfl rfl (lb rfl) fun a S => ?_
  rcases iteSome h with ⟨hc42, h⟩ | ⟨hc42, h⟩
  rotate_left
  · exact absurd hc42 (by rw [hv_r10]; decide)
  refine sLoadN (p := b13) (off := 0) (T := 42) (vs := (gl_A11_Int r10.1)) 3 (gl_A11_Int r10.1) S (wG 2 true 38 rfl rfl rfl hc42) rfl rfl rfl rfl rfl rfl rfl (lb rfl) fun a S => ?_
  refine sLoadN (p := b40) (off := 0) (T := 42) (vs := (gl_A11_Int (0, 4, 1, 0, 1, 0, 0, 0, 0, 0, 0))) 0 (gl_A11_Int (0, 4, 1, 0, 1, 0, 0, 0, 0, 0, 0)) S (wG 2 true 38 rfl rfl rfl hc42) rfl rfl rfl rfl rfl rfl rfl (lb rfl) fun a S => ?_
  refine sBin (.bool ((r10.1.1 == 0) && ((r10.1.2.1 == 4) && ((r10.1.2.2.1 == 1) && ((r10.1.2.2.2.1 == 0) && ((r10.1.2.2.2.2.1 == 1) && ((r10.1.2.2.2.2.2.1 == 0) && ((r10.1.2.2.2.2.2.2.1 == 0) && ((r10.1.2.2.2.2.2.2.2.1 == 0) && ((r10.1.2.2.2.2.2.2.2.2.1 == 0) && ((r10.1.2.2.2.2.2.2.2.2.2.1 == 0) && ((r10.1.2.2.2.2.2.2.2.2.2.2 == 0) && true)))))))))))) S (wG 2 true 38 rfl rfl rfl hc42) rfl rfl rfl (bEqV _ _ _ _ #[iv r10.1.1, iv r10.1.2.1, iv r10.1.2.2.1, iv r10.1.2.2.2.1, iv r10.1.2.2.2.2.1, iv r10.1.2.2.2.2.2.1, iv r10.1.2.2.2.2.2.2.1, iv r10.1.2.2.2.2.2.2.2.1, iv r10.1.2.2.2.2.2.2.2.2.1, iv r10.1.2.2.2.2.2.2.2.2.2.1, iv r10.1.2.2.2.2.2.2.2.2.2.2] #[iv 0, iv 4, iv 1, iv 0, iv 1, iv 0, iv 0, iv 0, iv 0, iv 0, iv 0] ((r10.1.1 == 0) && ((r10.1.2.1 == 4) && ((r10.1.2.2.1 == 1) && ((r10.1.2.2.2.1 == 0) && ((r10.1.2.2.2.2.1 == 1) && ((r10.1.2.2.2.2.2.1 == 0) && ((r10.1.2.2.2.2.2.2.1 == 0) && ((r10.1.2.2.2.2.2.2.2.1 == 0) && ((r10.1.2.2.2.2.2.2.2.2.1 == 0) && ((r10.1.2.2.2.2.2.2.2.2.2.1 == 0) && ((r10.1.2.2.2.2.2.2.2.2.2.2 == 0) && true))))))))))) (by kernel_rfl) (eqlV_of (by kernel_rfl))) rfl (lb rfl) fun a S => ?_
  refine sPickT (.bool ((r10.1.1 == 0) && ((r10.1.2.1 == 4) && ((r10.1.2.2.1 == 1) && ((r10.1.2.2.2.1 == 0) && ((r10.1.2.2.2.2.1 == 1) && ((r10.1.2.2.2.2.2.1 == 0) && ((r10.1.2.2.2.2.2.2.1 == 0) && ((r10.1.2.2.2.2.2.2.2.1 == 0) && ((r10.1.2.2.2.2.2.2.2.2.1 == 0) && ((r10.1.2.2.2.2.2.2.2.2.2.1 == 0) && ((r10.1.2.2.2.2.2.2.2.2.2.2 == 0) && true)))))))))))) S (wN rfl) rfl rfl hc42 rfl rfl (lb rfl) fun a S => ?_
  refine sMove (.bool ((r10.1.1 == 0) && ((r10.1.2.1 == 4) && ((r10.1.2.2.1 == 1) && ((r10.1.2.2.2.1 == 0) && ((r10.1.2.2.2.2.1 == 1) && ((r10.1.2.2.2.2.2.1 == 0) && ((r10.1.2.2.2.2.2.2.1 == 0) && ((r10.1.2.2.2.2.2.2.2.1 == 0) && ((r10.1.2.2.2.2.2.2.2.2.1 == 0) && ((r10.1.2.2.2.2.2.2.2.2.2.1 == 0) && ((r10.1.2.2.2.2.2.2.2.2.2.2 == 0) && true)))))))))))) S (wN rfl) (.inl rfl) rfl rfl (lb rfl) fun a S => ?_
  rcases iteSome h with ⟨hc43, h⟩ | ⟨hc43, h⟩
  rotate_left
  · exact absurd hc43 (by rw [hv_r10]; decide)
  refine sMove (iv r23.2) S (wG 7 true 43 rfl rfl rfl hc43) (.inl rfl) rfl rfl (lb rfl) fun a S => ?_
  refine sBin (.bool (r23.2 == 0)) S (wG 7 true 43 rfl rfl rfl hc43) rfl rfl rfl (bEq _ _ _ _ .i64 r23.2 0) rfl (lb rfl) fun a S => ?_
  refine sPickT (.bool (r23.2 == 0)) S (wN rfl) rfl rfl hc43 rfl rfl (lb rfl) fun a S => ?_
  refine sMove (.bool (r23.2 == 0)) S (wN rfl) (.inl rfl) rfl rfl (lb rfl) fun a S => ?_
  rcases iteSome h with ⟨hc44, h⟩ | ⟨hc44, h⟩
  rotate_left
  · exact absurd hc44 (by rw [hv_r23]; decide)
  refine sLoadN (p := b26) (off := 0) (T := 23) (vs := [iv r23.1.Length, iv r23.1.Time]) 2 [iv r23.1.Length, iv r23.1.Time] S (wG 11 true 47 rfl rfl rfl hc44) rfl rfl rfl rfl rfl rfl rfl (lb rfl) fun a S => ?_
  refine sBuild [(0, iv 640), (1, iv 10000)] [iv 640, iv 10000] S (wG 11 true 47 rfl rfl rfl hc44) rfl rfl rfl rfl (lb rfl) fun a S => ?_
  refine sBin (.bool ((r23.1.Length == 640) && ((r23.1.Time == 10000) && true))) S (wG 11 true 47 rfl rfl rfl hc44) rfl rfl rfl (bEqV _ _ _ _ #[iv r23.1.Length, iv r23.1.Time] #[iv 640, iv 10000] ((r23.1.Length == 640) && ((r23.1.Time == 10000) && true)) (by kernel_rfl) (eqlV_of (by kernel_rfl))) rfl (lb rfl) fun a S => ?_
  refine sPickT (.bool ((r23.1.Length == 640) && ((r23.1.Time == 10000) && true))) S (wN rfl) rfl rfl hc44 rfl rfl (lb rfl) fun a S => ?_
  refine sMove (.bool ((r23.1.Length == 640) && ((r23.1.Time == 10000) && true))) S (wN rfl) (.inl rfl) rfl rfl (lb rfl) fun a S => ?_
  rcases iteSome h with ⟨hc45, h⟩ | ⟨hc45, h⟩
  rotate_left
  · exact absurd hc45 (by rw [hv_r23]; decide)
  refine sMove (iv r31.2) S (wG 16 true 52 rfl rfl rfl hc45) (.inl rfl) rfl rfl (lb rfl) fun a S => ?_
  refine sBin (.bool (r31.2 == 0)) S (wG 16 true 52 rfl rfl rfl hc45) rfl rfl rfl (bEq _ _ _ _ .i64 r31.2 0) rfl (lb rfl) fun a S => ?_
  refine sPickT (.bool (r31.2 == 0)) S (wN rfl) rfl rfl hc45 rfl rfl (lb rfl) fun a S => ?_
  refine sMove (.bool (r31.2 == 0)) S (wN rfl) (.inl rfl) rfl rfl (lb rfl) fun a S => ?_
  rcases iteSome h with ⟨hc46, h⟩ | ⟨hc46, h⟩
  rotate_left
  · exact absurd hc46 (by rw [hv_r31]; decide)
  refine sLoadN (p := b34) (off := 0) (T := 25) (vs := [iv r31.1.Num, iv r31.1.Den]) 1 [iv r31.1.Num, iv r31.1.Den] S (wG 20 true 56 rfl rfl rfl hc46) rfl rfl rfl rfl rfl rfl rfl (lb rfl) fun a S => ?_
  refine sBuild [(0, iv 5000), (1, iv 1)] [iv 5000, iv 1] S (wG 20 true 56 rfl rfl rfl hc46) rfl rfl rfl rfl (lb rfl) fun a S => ?_
  refine sBin (.bool ((r31.1.Num == 5000) && ((r31.1.Den == 1) && true))) S (wG 20 true 56 rfl rfl rfl hc46) rfl rfl rfl (bEqV _ _ _ _ #[iv r31.1.Num, iv r31.1.Den] #[iv 5000, iv 1] ((r31.1.Num == 5000) && ((r31.1.Den == 1) && true)) (by kernel_rfl) (eqlV_of (by kernel_rfl))) rfl (lb rfl) fun a S => ?_
  refine sPickT (.bool ((r31.1.Num == 5000) && ((r31.1.Den == 1) && true))) S (wN rfl) rfl rfl hc46 rfl rfl (lb rfl) fun a S => ?_
  refine sMove (.bool ((r31.1.Num == 5000) && ((r31.1.Den == 1) && true))) S (wN rfl) (.inl rfl) rfl rfl (lb rfl) fun a S => ?_
  rcases iteSome h with ⟨hc47, h⟩ | ⟨hc47, h⟩
  rotate_left
  · exact absurd hc47 (by rw [hv_r31]; decide)
  refine sMove (iv r37.2.2) S (wG 25 true 61 rfl rfl rfl hc47) (.inl rfl) rfl rfl (lb rfl) fun a S => ?_
  refine sBin (.bool (r37.2.2 == 0)) S (wG 25 true 61 rfl rfl rfl hc47) rfl rfl rfl (bEq _ _ _ _ .i64 r37.2.2 0) rfl (lb rfl) fun a S => ?_
  refine sPickT (.bool (r37.2.2 == 0)) S (wN rfl) rfl rfl hc47 rfl rfl (lb rfl) fun a S => ?_
  refine sMove (.bool (r37.2.2 == 0)) S (wN rfl) (.inl rfl) rfl rfl (lb rfl) fun a S => ?_
  rcases iteSome h with ⟨hc48, h⟩ | ⟨hc48, h⟩
  rotate_left
  · exact absurd hc48 (by rw [hv_r37]; decide)
  refine sMove (iv r37.1) S (wG 29 true 65 rfl rfl rfl hc48) (.inl rfl) rfl rfl (lb rfl) fun a S => ?_
  refine sBin (.bool (r37.1 == 3)) S (wG 29 true 65 rfl rfl rfl hc48) rfl rfl rfl (bEq _ _ _ _ .i64 r37.1 3) rfl (lb rfl) fun a S => ?_
  refine sPickT (.bool (r37.1 == 3)) S (wN rfl) rfl rfl hc48 rfl rfl (lb rfl) fun a S => ?_
  refine sMove (.bool (r37.1 == 3)) S (wN rfl) (.inl rfl) rfl rfl (lb rfl) fun a S => ?_
  rcases iteSome h with ⟨hc49, h⟩ | ⟨hc49, h⟩
  rotate_left
  · exact absurd hc49 (by rw [hv_r37]; decide)
  refine sMove (iv r37.2.1) S (wG 33 true 69 rfl rfl rfl hc49) (.inl rfl) rfl rfl (lb rfl) fun a S => ?_
  refine sBin (.bool (r37.2.1 == 1050)) S (wG 33 true 69 rfl rfl rfl hc49) rfl rfl rfl (bEq _ _ _ _ .i64 r37.2.1 1050) rfl (lb rfl) fun a S => ?_
  refine sPickT (.bool (r37.2.1 == 1050)) S (wN rfl) rfl rfl hc49 rfl rfl (lb rfl) fun a S => ?_
  refine sMove (.bool (r37.2.1 == 1050)) S (wN rfl) (.inr rfl) rfl rfl (lb rfl) fun a S => ?_
  refine leafL (leafT (hK41 _ _ ?_))
  obtain rfl := Option.some.inj h
  exact wp_ret (sRet (.bool (r37.2.1 == 1050)) S (rsl1 rfl (rvT (t := 0) (v := .bool (r37.2.1 == 1050)) S rfl)) ⟨(), rfl, S.mem.sel [] [] (by decide) rfl rfl⟩)

end Go.Proofs.Ytdbgkakmhlmpbaa
namespace Go.Proofs.Ytdbgkakmhlmpbaa
open Go.RowKit
set_option linter.unusedVariables false

def K_raddlelaw45_alive  : Option Bool :=
  Option.bind (K_raddlelaw45_given) fun r3 =>
  Option.bind (K_cost_Count r3) fun r10 =>
  Option.bind (K_raddlelaw45_rates) fun r20 =>
  Option.bind (K_cost_Need r3 r20) fun r23 =>
  Option.bind (K_raddlelaw45_tex 50) fun r28 =>
  Option.bind (K_cost_Weight (api_Bill.mk 1000000 0) r28) fun r31 =>
  Option.bind (K_cost_Price (api_Bill.mk 1000000 0) r28 2000 350) fun r37 =>
  if r10.2 == 0 then
    if ((r10.1.1 == 0) && ((r10.1.2.1 == 4) && ((r10.1.2.2.1 == 1) && ((r10.1.2.2.2.1 == 0) && ((r10.1.2.2.2.2.1 == 1) && ((r10.1.2.2.2.2.2.1 == 0) && ((r10.1.2.2.2.2.2.2.1 == 0) && ((r10.1.2.2.2.2.2.2.2.1 == 0) && ((r10.1.2.2.2.2.2.2.2.2.1 == 0) && ((r10.1.2.2.2.2.2.2.2.2.2.1 == 0) && ((r10.1.2.2.2.2.2.2.2.2.2.2 == 0) && true))))))))))) then
      if r23.2 == 0 then
        if ((r23.1.Length == 640) && ((r23.1.Time == 10000) && true)) then
          if r31.2 == 0 then
            if ((r31.1.Num == 5000) && ((r31.1.Den == 1) && true)) then
              if r37.2.2 == 0 then
                if r37.1 == 3 then
                  some (r37.2.1 == 1050)
                else
                  none
              else
                none
            else
              none
          else
            none
        else
          none
      else
        none
    else
      none
  else
    none
theorem m_F_raddlelaw45_alive  : Le (K_raddlelaw45_alive) (F_raddlelaw45_alive) := by
  unfold K_raddlelaw45_alive F_raddlelaw45_alive
  with_reducible repeat' (first | exact m_F_raddlelaw45_given | exact m_F_cost_Count _ | exact m_F_raddlelaw45_rates | exact m_F_cost_Need _ _ | exact m_F_raddlelaw45_tex _ | exact m_F_cost_Weight _ _ | exact m_F_cost_Price _ _ _ _ | exact Le.rfl _ | refine Le.loop _ ?_ | refine Le.bind ?_ ?_ | refine Le.ite ?_ ?_ | refine Le.sum ?_ ?_ | refine Le.prod ?_ | intro _ | exact Empty.elim (by assumption) | dsimp only)
set_option maxRecDepth 1000000 in
theorem k_raddlelaw45_alive : F_raddlelaw45_alive = some true := m_F_raddlelaw45_alive _ (by kernel_rfl)
end Go.Proofs.Ytdbgkakmhlmpbaa
namespace Go.Proofs.Ytdbgkakmhlmpbaa
open Go.RowKit
set_option linter.unusedVariables false

theorem w64_of {x : Int} (h0 : -9223372036854775808 ≤ x) (h1 : x ≤ 9223372036854775807) : w64 x = x := w64_id ⟨h0, h1⟩
theorem w64_succ {k : Nat} (h : k < 9223372036854775807) : w64 ((k : Int) + 1) = ((k + 1 : Nat) : Int) := by
  rw [w64_of (by omega) (by omega)]; omega
theorem idxO_nat {α : Type} {xs : List α} {k : Nat} (h : k < xs.length) : idxO xs (k : Int) = some xs[k] := by
  simp [idxO, h]
theorem setO_nat {α : Type} {xs : List α} {k : Nat} {y : α} (h : k < xs.length) : setO xs (k : Int) y = some (xs.set k y) := by
  simp [setO, h]
theorem makeO_of {α : Type} {n : Int} {z : α} {k : Nat} (h : n = (k : Int)) (hk : k ≤ 68719476736) : makeO n z = some (List.replicate k z) := by
  subst h; simp [makeO, lim, hk]
/-- a loop over an index, with a state beside it -/
theorem loop_st {σ τ : Type} {B : σ × Int → Option ((σ × Int) ⊕ τ)} (n : Nat) (I : Nat → σ → Prop) (Pt : τ → Prop) {s0 : σ} (h0 : I 0 s0)
    (step : ∀ k s, k < n → I k s → (∃ s', B (s, (k : Int)) = some (.inl (s', ((k + 1 : Nat) : Int))) ∧ I (k + 1) s') ∨ (∃ t, B (s, (k : Int)) = some (.inr t) ∧ Pt t))
    (last : ∀ s, I n s → ∃ t, B (s, (n : Int)) = some (.inr t) ∧ Pt t) : ∃ t, whileO B (s0, 0) = some t ∧ Pt t := by
  refine whileO_inv (fun s => ∃ k : Nat, k ≤ n ∧ s.2 = (k : Int) ∧ I k s.1) (fun s => ((n : Int) - s.2).toNat) Pt ⟨0, Nat.zero_le _, rfl, h0⟩ ?_
  rintro ⟨s, i⟩ ⟨k, hk, rfl, hI⟩
  by_cases hlt : k < n
  · rcases step k s hlt hI with ⟨s', h1, h2⟩ | h
    · exact .inl ⟨_, h1, ⟨k + 1, hlt, rfl, h2⟩, by simp; omega⟩
    · exact .inr h
  · obtain rfl : k = n := by omega
    exact .inr (last s hI)
/-- a loop over an index alone -/
theorem loop_ix {τ : Type} {B : Int → Option (Int ⊕ τ)} (n : Nat) (I : Nat → Prop) (Pt : τ → Prop) (h0 : I 0)
    (step : ∀ k, k < n → I k → (B (k : Int) = some (.inl ((k + 1 : Nat) : Int)) ∧ I (k + 1)) ∨ (∃ t, B (k : Int) = some (.inr t) ∧ Pt t))
    (last : I n → ∃ t, B (n : Int) = some (.inr t) ∧ Pt t) : ∃ t, whileO B 0 = some t ∧ Pt t := by
  refine whileO_inv (fun s => ∃ k : Nat, k ≤ n ∧ s = (k : Int) ∧ I k) (fun s => ((n : Int) - s).toNat) Pt ⟨0, Nat.zero_le _, rfl, h0⟩ ?_
  rintro i ⟨k, hk, rfl, hI⟩
  by_cases hlt : k < n
  · rcases step k hlt hI with ⟨h1, h2⟩ | h
    · exact .inl ⟨_, h1, ⟨k + 1, hlt, rfl, h2⟩, by simp; omega⟩
    · exact .inr h
  · obtain rfl : k = n := by omega
    exact .inr (last hI)

end Go.Proofs.Ytdbgkakmhlmpbaa
namespace Go.Proofs.Ytdbgkakmhlmpbaa
open Go.RowKit
set_option linter.unusedVariables false

/-- a loop that tests all, and says bad at the first that fails -/
theorem loop_all {τ : Type} {B : Int → Option (Int ⊕ τ)} (n : Nat) (p : Nat → Bool) (good bad : τ)
    (h : ∀ k, k < n → B (k : Int) = some (if p k = true then .inl ((k + 1 : Nat) : Int) else .inr bad)) (hn : B (n : Int) = some (.inr good)) :
    whileO B 0 = some (if (List.range n).all p = true then good else bad) := by
  have key : ∃ t, whileO B 0 = some t ∧ t = if (List.range n).all p = true then good else bad := by
    refine loop_ix n (fun k => ∀ j, j < k → p j = true) _ (fun j h => absurd h (Nat.not_lt_zero j)) ?_ ?_
    · intro k hk hI
      cases hf : p k with
      | true =>
        refine .inl ⟨by rw [h k hk, if_pos hf], fun j hj => ?_⟩
        by_cases e : j = k
        · rw [e]; exact hf
        · exact hI j (by omega)
      | false =>
        refine .inr ⟨bad, by rw [h k hk, hf]; simp, ?_⟩
        rw [if_neg]
        intro hc
        rw [List.all_eq_true] at hc
        have := hc k (List.mem_range.2 hk)
        rw [hf] at this; cases this
    · intro hI
      refine ⟨good, hn, ?_⟩
      rw [if_pos]
      rw [List.all_eq_true]
      exact fun j hj => hI j (List.mem_range.1 hj)
  obtain ⟨t, h1, rfl⟩ := key
  exact h1
theorem dT {p : Prop} [Decidable p] (h : p) : decide p = true := decide_eq_true h
theorem dF {p : Prop} [Decidable p] (h : ¬ p) : decide p = false := decide_eq_false h
theorem bT {a b : Int} (h : a = b) : (a == b) = true := by simp [h]
theorem bF {a b : Int} (h : ¬ a = b) : (a == b) = false := by simp [h]
theorem nT {a b : Int} (h : ¬ a = b) : (a != b) = true := by simp [h]
theorem nF {a b : Int} (h : a = b) : (a != b) = false := by simp [h]
/-- a loop whose index comes first in its state -/
theorem loop_ts {σ τ : Type} {B : Int × σ → Option ((Int × σ) ⊕ τ)} (n : Nat) (I : Nat → σ → Prop) (Pt : τ → Prop) {s0 : σ} (h0 : I 0 s0)
    (step : ∀ k s, k < n → I k s → (∃ s', B ((k : Int), s) = some (.inl (((k + 1 : Nat) : Int), s')) ∧ I (k + 1) s') ∨ (∃ t, B ((k : Int), s) = some (.inr t) ∧ Pt t))
    (last : ∀ s, I n s → ∃ t, B ((n : Int), s) = some (.inr t) ∧ Pt t) : ∃ t, whileO B (0, s0) = some t ∧ Pt t := by
  refine whileO_inv (fun s => ∃ k : Nat, k ≤ n ∧ s.1 = (k : Int) ∧ I k s.2) (fun s => ((n : Int) - s.1).toNat) Pt ⟨0, Nat.zero_le _, rfl, h0⟩ ?_
  rintro ⟨i, s⟩ ⟨k, hk, rfl, hI⟩
  by_cases hlt : k < n
  · rcases step k s hlt hI with ⟨s', h1, h2⟩ | h
    · exact .inl ⟨_, h1, ⟨k + 1, hlt, rfl, h2⟩, by simp; omega⟩
    · exact .inr h
  · obtain rfl : k = n := by omega
    exact .inr (last s hI)
/-- a row filled from its start on -/
def Fill {α : Type} (n : Nat) (f : Nat → α) (k : Nat) (s : List α) : Prop := s.length = n ∧ ∀ j, j < k → s[j]? = some (f j)
theorem Fill.zero {α : Type} (n : Nat) (f : Nat → α) (z : α) : Fill n f 0 (List.replicate n z) := ⟨by simp, fun j hj => absurd hj (Nat.not_lt_zero j)⟩
theorem Fill.set {α : Type} {n : Nat} {f : Nat → α} {k : Nat} {s : List α} (h : Fill n f k s) (hk : k < n) : Fill n f (k + 1) (s.set k (f k)) := by
  refine ⟨by simp [h.1], fun j hj => ?_⟩
  by_cases e : j = k
  · subst e; simp [h.1, hk]
  · rw [List.getElem?_set_ne (fun h => e h.symm)]; exact h.2 j (by omega)
theorem Fill.all {α : Type} {n : Nat} {f : Nat → α} {s : List α} (h : Fill n f n s) : s = (List.range n).map f := by
  apply List.ext_getElem?
  intro j
  by_cases hj : j < n
  · rw [h.2 j hj]; simp [hj]
  · rw [List.getElem?_eq_none (by rw [h.1]; omega), List.getElem?_eq_none (by simp; omega)]
theorem mul_bd {u v a b : Int} (u0 : 0 ≤ u) (u1 : u ≤ a) (v0 : 0 ≤ v) (v1 : v ≤ b) : 0 ≤ u * v ∧ u * v ≤ a * b :=
  ⟨Int.mul_nonneg u0 v0, Int.mul_le_mul u1 v1 v0 (by omega)⟩
end Go.Proofs.Ytdbgkakmhlmpbaa
namespace Go.Proofs.Ytdbgkakmhlmpbaa
open Go.RowKit
set_option linter.unusedVariables false

/-- a loop by a count, whatever its state looks like -/
theorem loop_at {S σ τ : Type} {B : S → Option (S ⊕ τ)} (n : Nat) (st : Nat → σ → S) (I : Nat → σ → Prop) (Pt : τ → Prop) {s0 : σ} (h0 : I 0 s0)
    (step : ∀ k s, k < n → I k s → (∃ s', B (st k s) = some (.inl (st (k + 1) s')) ∧ I (k + 1) s') ∨ (∃ t, B (st k s) = some (.inr t) ∧ Pt t))
    (last : ∀ s, I n s → ∃ t, B (st n s) = some (.inr t) ∧ Pt t) : ∃ t, whileO B (st 0 s0) = some t ∧ Pt t := by
  have key : ∀ j k s, j + k = n → I k s → ∃ t, whileO B (st k s) = some t ∧ Pt t := by
    intro j
    induction j with
    | zero =>
      intro k s hk hI
      obtain rfl : k = n := by omega
      obtain ⟨t, h1, h2⟩ := last s hI
      exact ⟨t, whileO_done h1, h2⟩
    | succ j ih =>
      intro k s hk hI
      rcases step k s (by omega) hI with ⟨s', h1, h2⟩ | ⟨t, h1, h2⟩
      · rw [whileO_step h1]; exact ih _ _ (by omega) h2
      · exact ⟨t, whileO_done h1, h2⟩
  exact key n 0 s0 (by omega) h0
theorem whileO_none {σ τ : Type} {B : σ → Option (σ ⊕ τ)} {s : σ} (h : B s = none) : whileO B s = none := by
  cases hx : whileO B s with
  | none => rfl
  | some t =>
    obtain ⟨n, hn⟩ := whileO_some hx
    cases n with
    | zero => simp [iterO] at hn
    | succ n => rw [iterO, h] at hn; cases hn
theorem whileO_eq {σ τ : Type} (B : σ → Option (σ ⊕ τ)) (s : σ) : whileO B s = (B s).bind fun r => match r with | .inl s' => whileO B s' | .inr t => some t := by
  cases h : B s with
  | none => rw [whileO_none h]; rfl
  | some r =>
    cases r with
    | inl s' => rw [whileO_step h]; rfl
    | inr t => rw [whileO_done h]; rfl
/-- sums over a list -/
def sm {α : Type} (f : α → Int) : List α → Int
  | [] => 0
  | x :: l => f x + sm f l
theorem sm_append {α : Type} (f : α → Int) (l k : List α) : sm f (l ++ k) = sm f l + sm f k := by
  induction l with
  | nil => simp [sm]
  | cons x l ih => simp only [List.cons_append, sm, ih]; omega
theorem sm_take {α : Type} (f : α → Int) (l : List α) {k : Nat} (h : k < l.length) : sm f (l.take (k + 1)) = sm f (l.take k) + f l[k] := by
  rw [List.take_succ_eq_append_getElem h, sm_append]
  simp [sm]
theorem sm_bd {α : Type} {f : α → Int} {b : Int} {l : List α} (h : ∀ x, x ∈ l → 0 ≤ f x ∧ f x ≤ b) : 0 ≤ sm f l ∧ sm f l ≤ b * l.length := by
  induction l with
  | nil => simp [sm]
  | cons x l ih =>
    have h1 := h x (by simp)
    have h2 := ih fun y hy => h y (by simp [hy])
    simp only [sm, List.length_cons]
    have e : b * ((l.length + 1 : Nat) : Int) = b * l.length + b := by rw [Int.natCast_add, Int.mul_add]; simp
    rw [e]
    omega
def usedS (p : api_Stitch) : Int := if p.Kind = 2 ∨ p.Kind = 9 then 0 else if p.Kind = 3 ∨ p.Kind = 4 ∨ p.Kind = 10 then p.A else if p.Kind = 6 ∨ p.Kind = 7 then p.A + p.B else 1
def madeS (p : api_Stitch) : Int := if p.Kind = 10 then 0 else if p.Kind = 5 ∨ p.Kind = 9 then p.A else if p.Kind = 6 ∨ p.Kind = 7 then p.A + p.B else 1
def okS (p : api_Stitch) : Prop :=
  (p.Kind = 1 ∨ p.Kind = 8) ∧ p.A = 0 ∧ p.B = 0 ∨ p.Kind = 2 ∧ p.A = 0 ∧ p.B = 0 ∧ p.Purl = false ∨ (p.Kind = 3 ∨ p.Kind = 4 ∨ p.Kind = 5) ∧ 2 ≤ p.A ∧ p.A ≤ 4 ∧ p.B = 0 ∨
  (p.Kind = 6 ∨ p.Kind = 7) ∧ 1 ≤ p.A ∧ p.A ≤ 6 ∧ 1 ≤ p.B ∧ p.B ≤ 6 ∨ p.Kind = 9 ∧ 1 ≤ p.A ∧ p.A ≤ 200 ∧ p.B = 0 ∧ p.Purl = false ∨ p.Kind = 10 ∧ 1 ≤ p.A ∧ p.A ≤ 200 ∧ p.B = 0
instance (p : api_Stitch) : Decidable (okS p) := by unfold okS; infer_instance
theorem okS_bd {p : api_Stitch} (h : okS p) : 1 ≤ p.Kind ∧ p.Kind ≤ 10 ∧ 0 ≤ p.A ∧ p.A ≤ 200 ∧ 0 ≤ p.B ∧ p.B ≤ 6 := by
  unfold okS at h
  omega
theorem usedS_bd {p : api_Stitch} (h : okS p) : 0 ≤ usedS p ∧ usedS p ≤ 200 := by
  have hb := okS_bd h
  unfold okS at h
  unfold usedS
  split
  · omega
  · split
    · omega
    · split <;> omega
theorem madeS_bd {p : api_Stitch} (h : okS p) : 0 ≤ madeS p ∧ madeS p ≤ 200 := by
  have hb := okS_bd h
  unfold okS at h
  unfold madeS
  split
  · omega
  · split
    · omega
    · split <;> omega
theorem check_form (p : api_Stitch) (f : stitch_form) (h : F_stitch_forms p.Kind = some (f, true)) :
    F_stitch_Check p = some (if (f.a.1 ≤ p.A ∧ p.A ≤ f.a.2) ∧ (f.b.1 ≤ p.B ∧ p.B ≤ f.b.2) ∧ (p.Purl = true → f.sided = true) then 0 else 8) := by
  unfold F_stitch_Check F_stitch_within
  rw [h]
  by_cases a1 : f.a.1 ≤ p.A <;> by_cases a2 : p.A ≤ f.a.2 <;> by_cases b1 : f.b.1 ≤ p.B <;> by_cases b2 : p.B ≤ f.b.2 <;> cases hp : p.Purl <;> cases hs : f.sided <;> simp [a1, a2, b1, b2, hs]
theorem ifc {α : Type} {c d : Prop} [Decidable c] [Decidable d] {a b : α} (h : c ↔ d) : (if c then a else b) = if d then a else b := by
  by_cases hc : c
  · rw [if_pos hc, if_pos (h.1 hc)]
  · rw [if_neg hc, if_neg (fun hd => hc (h.2 hd))]
theorem kinds {x : Int} (h : 0 ≤ x ∧ x ≤ 255) : x = 0 ∨ x = 1 ∨ x = 2 ∨ x = 3 ∨ x = 4 ∨ x = 5 ∨ x = 6 ∨ x = 7 ∨ x = 8 ∨ x = 9 ∨ x = 10 ∨ 10 < x := by omega
theorem forms_none {x : Int} (h : 10 < x ∧ x ≤ 255) : ∃ f, F_stitch_forms x = some (f, false) := by
  unfold F_stitch_forms
  have hw : IntKind.i64.wrap x = x := w64_of (by omega) (by omega)
  simp only [dF (show ¬ x < 1 by omega), hw, Bool.false_eq_true, if_false, Option.bind_some, List.length_cons, List.length_nil]
  rw [dT (show ((0 + 1 + 1 + 1 + 1 + 1 + 1 + 1 + 1 + 1 + 1 : Nat) : Int) < x by omega)]
  exact ⟨_, rfl⟩
theorem check_none {p : api_Stitch} {f : stitch_form} (h : F_stitch_forms p.Kind = some (f, false)) : F_stitch_Check p = some 8 := by
  unfold F_stitch_Check
  rw [h]
  simp
theorem check_eq (p : api_Stitch) (hk : 0 ≤ p.Kind ∧ p.Kind ≤ 255) : F_stitch_Check p = some (if okS p then 0 else 8) := by
  rcases kinds hk with h | h | h | h | h | h | h | h | h | h | h | h
  · rw [check_none (f := ⟨⟨#[]⟩, (0, 0), (0, 0), false, 0, 0⟩) (by rw [h]; rfl), if_neg (by unfold okS; omega)]
  · rw [check_form p _ (by rw [h]; rfl)]; cases hp : p.Purl <;> exact congrArg some (ifc (by simp [okS, h]; omega))
  · rw [check_form p _ (by rw [h]; rfl)]; cases hp : p.Purl <;> exact congrArg some (ifc (by simp [okS, h, hp] <;> omega))
  · rw [check_form p _ (by rw [h]; rfl)]; cases hp : p.Purl <;> exact congrArg some (ifc (by simp [okS, h]; omega))
  · rw [check_form p _ (by rw [h]; rfl)]; cases hp : p.Purl <;> exact congrArg some (ifc (by simp [okS, h]; omega))
  · rw [check_form p _ (by rw [h]; rfl)]; cases hp : p.Purl <;> exact congrArg some (ifc (by simp [okS, h]; omega))
  · rw [check_form p _ (by rw [h]; rfl)]; cases hp : p.Purl <;> exact congrArg some (ifc (by simp [okS, h]; omega))
  · rw [check_form p _ (by rw [h]; rfl)]; cases hp : p.Purl <;> exact congrArg some (ifc (by simp [okS, h]; omega))
  · rw [check_form p _ (by rw [h]; rfl)]; cases hp : p.Purl <;> exact congrArg some (ifc (by simp [okS, h]; omega))
  · rw [check_form p _ (by rw [h]; rfl)]; cases hp : p.Purl <;> exact congrArg some (ifc (by simp [okS, h, hp] <;> omega))
  · rw [check_form p _ (by rw [h]; rfl)]; cases hp : p.Purl <;> exact congrArg some (ifc (by simp [okS, h]; omega))
  · obtain ⟨f, hf⟩ := forms_none ⟨h, hk.2⟩
    rw [check_none hf, if_neg (by unfold okS; omega)]
theorem rstitch_eq (p : api_Stitch) : F_raddleref25_Check p = some (if okS p then 0 else 8) := by
  have e3 : (if (p.A == 0) = true then some (p.B == 0) else some false) = some (p.A == 0 && p.B == 0) := by cases h : (p.A == 0) <;> simp
  unfold F_raddleref25_Check
  rw [e3, Option.bind_some]
  by_cases k1 : p.Kind = 1
  · by_cases hA : p.A = 0 <;> by_cases hB : p.B = 0 <;> simp [k1, hA, hB, okS]
  by_cases k8 : p.Kind = 8
  · by_cases hA : p.A = 0 <;> by_cases hB : p.B = 0 <;> simp [k8, hA, hB, okS]
  by_cases k2 : p.Kind = 2
  · by_cases hA : p.A = 0 <;> by_cases hB : p.B = 0 <;> cases hp : p.Purl <;> simp [k2, hA, hB, hp, okS]
  by_cases k3 : p.Kind = 3
  · by_cases h1 : 2 ≤ p.A <;> by_cases h2 : p.A ≤ 4 <;> by_cases hB : p.B = 0 <;> simp [k3, h1, h2, hB, okS]
  by_cases k4 : p.Kind = 4
  · by_cases h1 : 2 ≤ p.A <;> by_cases h2 : p.A ≤ 4 <;> by_cases hB : p.B = 0 <;> simp [k4, h1, h2, hB, okS]
  by_cases k5 : p.Kind = 5
  · by_cases h1 : 2 ≤ p.A <;> by_cases h2 : p.A ≤ 4 <;> by_cases hB : p.B = 0 <;> simp [k5, h1, h2, hB, okS]
  by_cases k6 : p.Kind = 6
  · by_cases h1 : 1 ≤ p.A <;> by_cases h2 : p.A ≤ 6 <;> by_cases h3 : 1 ≤ p.B <;> by_cases h4 : p.B ≤ 6 <;> simp [k6, h1, h2, h3, h4, okS]
  by_cases k7 : p.Kind = 7
  · by_cases h1 : 1 ≤ p.A <;> by_cases h2 : p.A ≤ 6 <;> by_cases h3 : 1 ≤ p.B <;> by_cases h4 : p.B ≤ 6 <;> simp [k7, h1, h2, h3, h4, okS]
  by_cases k9 : p.Kind = 9
  · by_cases h1 : 1 ≤ p.A <;> by_cases h2 : p.A ≤ 200 <;> by_cases hB : p.B = 0 <;> cases hp : p.Purl <;> simp [k9, h1, h2, hB, hp, okS]
  by_cases k10 : p.Kind = 10
  · by_cases h1 : 1 ≤ p.A <;> by_cases h2 : p.A ≤ 200 <;> by_cases hB : p.B = 0 <;> simp [k10, h1, h2, hB, okS]
  have hn : ¬ okS p := by unfold okS; omega
  simp [k1, k2, k3, k4, k5, k6, k7, k8, k9, k10, hn]
theorem form_ok {p : api_Stitch} (h : okS p) : ∃ f, F_stitch_forms p.Kind = some (f, true) ∧ F_stitch_loops p f.uses = some (usedS p) ∧ F_stitch_loops p f.made = some (madeS p) := by
  have hb := okS_bd h
  have hw : w64 (p.A + p.B) = p.A + p.B := w64_of (by omega) (by omega)
  have l0 : F_stitch_loops p 0 = some 0 := rfl
  have l1 : F_stitch_loops p 1 = some 1 := rfl
  have l2 : F_stitch_loops p 2 = some p.A := rfl
  have l3 : F_stitch_loops p 3 = some (p.A + p.B) := by rw [← hw]; rfl
  rcases kinds (x := p.Kind) (by omega) with k | k | k | k | k | k | k | k | k | k | k | k
  · omega
  · exact ⟨⟨⟨#[]⟩, (0, 0), (0, 0), true, 1, 1⟩, by rw [k]; rfl, by rw [l1]; simp [usedS, k], by rw [l1]; simp [madeS, k]⟩
  · exact ⟨⟨⟨#[]⟩, (0, 0), (0, 0), false, 0, 1⟩, by rw [k]; rfl, by rw [l0]; simp [usedS, k], by rw [l1]; simp [madeS, k]⟩
  · exact ⟨⟨⟨#[102]⟩, (2, 4), (0, 0), true, 2, 1⟩, by rw [k]; rfl, by rw [l2]; simp [usedS, k], by rw [l1]; simp [madeS, k]⟩
  · exact ⟨⟨⟨#[108]⟩, (2, 4), (0, 0), true, 2, 1⟩, by rw [k]; rfl, by rw [l2]; simp [usedS, k], by rw [l1]; simp [madeS, k]⟩
  · exact ⟨⟨⟨#[109]⟩, (2, 4), (0, 0), true, 1, 2⟩, by rw [k]; rfl, by rw [l1]; simp [usedS, k], by rw [l2]; simp [madeS, k]⟩
  · exact ⟨⟨⟨#[120]⟩, (1, 6), (1, 6), true, 3, 3⟩, by rw [k]; rfl, by rw [l3]; simp [usedS, k], by rw [l3]; simp [madeS, k]⟩
  · exact ⟨⟨⟨#[121]⟩, (1, 6), (1, 6), true, 3, 3⟩, by rw [k]; rfl, by rw [l3]; simp [usedS, k], by rw [l3]; simp [madeS, k]⟩
  · exact ⟨⟨⟨#[115]⟩, (0, 0), (0, 0), true, 1, 1⟩, by rw [k]; rfl, by rw [l1]; simp [usedS, k], by rw [l1]; simp [madeS, k]⟩
  · exact ⟨⟨⟨#[]⟩, (1, 200), (0, 0), false, 0, 2⟩, by rw [k]; rfl, by rw [l0]; simp [usedS, k], by rw [l2]; simp [madeS, k]⟩
  · exact ⟨⟨⟨#[111]⟩, (1, 200), (0, 0), true, 2, 0⟩, by rw [k]; rfl, by rw [l2]; simp [usedS, k], by rw [l0]; simp [madeS, k]⟩
  · omega
theorem rused_eq {p : api_Stitch} (h : okS p) : F_raddleref25_Used p = some (usedS p) := by
  have hb := okS_bd h
  have hw : w64 (p.A + p.B) = p.A + p.B := w64_of (by omega) (by omega)
  unfold F_raddleref25_Used usedS
  rcases kinds (x := p.Kind) (by omega) with k | k | k | k | k | k | k | k | k | k | k | k <;> first | omega | simp [k, hw]
theorem rgives_eq {p : api_Stitch} (h : okS p) : F_raddleref25_Gives p = some (madeS p) := by
  have hb := okS_bd h
  have hw : w64 (p.A + p.B) = p.A + p.B := w64_of (by omega) (by omega)
  unfold F_raddleref25_Gives madeS
  rcases kinds (x := p.Kind) (by omega) with k | k | k | k | k | k | k | k | k | k | k | k <;> first | omega | simp [k, hw]
/-- lists of stitches -/
def allOk (l : List api_Stitch) : Prop := ∀ p, p ∈ l → okS p
instance (l : List api_Stitch) : Decidable (allOk l) := by unfold allOk; infer_instance
def wfS (p : api_Stitch) : Prop := 0 ≤ p.Kind ∧ p.Kind ≤ 255
theorem used_bd {l : List api_Stitch} (h : allOk l) : 0 ≤ sm usedS l ∧ sm usedS l ≤ 200 * l.length := sm_bd fun _ hx => usedS_bd (h _ hx)
theorem made_bd {l : List api_Stitch} (h : allOk l) : 0 ≤ sm madeS l ∧ sm madeS l ≤ 200 * l.length := sm_bd fun _ hx => madeS_bd (h _ hx)
theorem take_ok {l : List api_Stitch} (h : allOk l) (k : Nat) : allOk (l.take k) := fun _ hx => h _ (List.mem_of_mem_take hx)
theorem sum_step {l : List api_Stitch} (h : allOk l) (hl : l.length ≤ 100000) {k : Nat} (hk : k < l.length) :
    w64 (sm usedS (l.take k) + usedS l[k]) = sm usedS (l.take (k + 1)) ∧ w64 (sm madeS (l.take k) + madeS l[k]) = sm madeS (l.take (k + 1)) := by
  have h1 := used_bd (take_ok h k)
  have h2 := made_bd (take_ok h k)
  have h3 := usedS_bd (h _ (List.getElem_mem hk))
  have h4 := madeS_bd (h _ (List.getElem_mem hk))
  have hlen : (l.take k).length ≤ 100000 := by rw [List.length_take]; omega
  rw [sm_take _ _ hk, sm_take _ _ hk]
  exact ⟨w64_of (by omega) (by omega), w64_of (by omega) (by omega)⟩
theorem sum_eq {l : List api_Stitch} (h : allOk l) (hl : l.length ≤ 100000) : F_stitch_sum l = some (sm usedS l, sm madeS l) := by
  have key : ∃ t, whileO (stitch_sum_l1 l) (0, 0, 0) = some t ∧ t = (sm usedS l, sm madeS l) := by
    refine loop_at (σ := Unit) l.length (fun k _ => (sm usedS (l.take k), sm madeS (l.take k), (k : Int))) (fun _ _ => True) _ (s0 := ()) trivial ?_ ?_
    · intro k _ hk _
      refine .inl ⟨(), ?_, trivial⟩
      obtain ⟨f, f1, f2, f3⟩ := form_ok (h _ (List.getElem_mem hk))
      have hs := sum_step h hl hk
      unfold stitch_sum_l1
      simp only [dT (show (k : Int) < (l.length : Int) by omega), if_true, idxO_nat hk, Option.bind_some, f1, f2, f3, hs.1, hs.2, w64_succ (show k < 9223372036854775807 by omega)]
    · intro _ _
      refine ⟨_, ?_, rfl⟩
      unfold stitch_sum_l1
      simp only [dF (show ¬ (l.length : Int) < (l.length : Int) by omega), Bool.false_eq_true, if_false, List.take_length]
  obtain ⟨t, h1, rfl⟩ := key
  unfold F_stitch_sum
  rw [h1]; rfl
theorem rsums_eq {l : List api_Stitch} (h : allOk l) (hl : l.length ≤ 100000) : F_raddleref25_sums l = some (sm usedS l, sm madeS l) := by
  have key : ∃ t, whileO (raddleref25_sums_l1 l) (0, 0, 0) = some t ∧ t = (sm usedS l, sm madeS l) := by
    refine loop_at (σ := Unit) l.length (fun k _ => (sm usedS (l.take k), sm madeS (l.take k), (k : Int))) (fun _ _ => True) _ (s0 := ()) trivial ?_ ?_
    · intro k _ hk _
      refine .inl ⟨(), ?_, trivial⟩
      have hs := sum_step h hl hk
      unfold raddleref25_sums_l1
      simp only [dT (show (k : Int) < (l.length : Int) by omega), if_true, idxO_nat hk, Option.bind_some, rused_eq (h _ (List.getElem_mem hk)), rgives_eq (h _ (List.getElem_mem hk)), hs.1, hs.2, w64_succ (show k < 9223372036854775807 by omega)]
    · intro _ _
      refine ⟨_, ?_, rfl⟩
      unfold raddleref25_sums_l1
      simp only [dF (show ¬ (l.length : Int) < (l.length : Int) by omega), Bool.false_eq_true, if_false, List.take_length]
  obtain ⟨t, h1, rfl⟩ := key
  unfold F_raddleref25_sums
  rw [h1]; rfl
/-- the error of a list -/
def allS (l : List api_Stitch) : Int := if 200 < l.length then 4 else if allOk l then (if 200 < sm usedS l ∨ 200 < sm madeS l then 4 else 0) else 8
theorem allOk_range {l : List api_Stitch} : (List.range l.length).all (fun k => decide (okS (l.getD k ⟨0, false, 0, 0⟩))) = true ↔ allOk l := by
  rw [List.all_eq_true]
  constructor
  · intro h p hp
    obtain ⟨k, hk, rfl⟩ := List.getElem_of_mem hp
    have := h k (List.mem_range.2 hk)
    simpa [hk] using this
  · intro h k hk
    have hk := List.mem_range.1 hk
    have := h _ (List.getElem_mem hk)
    simpa [hk] using this
theorem getD_of {α : Type} {l : List α} {k : Nat} (d : α) (h : k < l.length) : l.getD k d = l[k] := by simp [h]
theorem find_bad {l : List api_Stitch} (hw : ∀ p, p ∈ l → wfS p) (hl : l.length ≤ 100000) : ∃ j, F_slices_IndexFunc___api_Stitch_api_Stitch__s0 l = some j ∧ (0 ≤ j ↔ ¬ allOk l) := by
  have key : ∃ t, whileO (slices_IndexFunc___api_Stitch_api_Stitch__s0_l1 l) 0 = some t ∧ ((t = .inr () ∧ allOk l) ∨ (∃ k : Nat, t = .inl (k : Int) ∧ ¬ allOk l)) := by
    refine loop_ix l.length (fun k => allOk (l.take k)) _ (fun p hp => by simp at hp) ?_ ?_
    · intro k hk hI
      have hc := check_eq l[k] (hw _ (List.getElem_mem hk))
      unfold slices_IndexFunc___api_Stitch_api_Stitch__s0_l1 F_stitch_All_1
      simp only [dT (show (k : Int) < (l.length : Int) by omega), if_true, idxO_nat hk, Option.bind_some, hc, w64_succ (show k < 9223372036854775807 by omega)]
      by_cases ho : okS l[k]
      · refine .inl ⟨by simp [ho], fun p hp => ?_⟩
        rw [List.take_succ_eq_append_getElem hk, List.mem_append] at hp
        rcases hp with hp | hp
        · exact hI p hp
        · simp at hp; subst hp; exact ho
      · exact .inr ⟨.inl (k : Int), by simp [ho], .inr ⟨k, rfl, fun h => ho (h _ (List.getElem_mem hk))⟩⟩
    · intro hI
      refine ⟨.inr (), ?_, .inl ⟨rfl, by simpa using hI⟩⟩
      unfold slices_IndexFunc___api_Stitch_api_Stitch__s0_l1
      simp only [dF (show ¬ (l.length : Int) < (l.length : Int) by omega), Bool.false_eq_true, if_false]
  obtain ⟨t, h1, h2⟩ := key
  unfold F_slices_IndexFunc___api_Stitch_api_Stitch__s0
  rw [h1]
  rcases h2 with ⟨rfl, h⟩ | ⟨k, rfl, h⟩
  · exact ⟨-1, rfl, by simp [h]⟩
  · exact ⟨(k : Int), rfl, by simp [h]⟩
theorem all_eq {l : List api_Stitch} (hw : ∀ p, p ∈ l → wfS p) : F_stitch_All l = some (allS l) := by
  unfold F_stitch_All allS
  by_cases hl : 200 < l.length
  · simp only [dT (show (200 : Int) < (l.length : Int) by omega), if_true, if_pos hl]
  simp only [dF (show ¬ (200 : Int) < (l.length : Int) by omega), Bool.false_eq_true, if_false, if_neg hl]
  obtain ⟨j, h1, h2⟩ := find_bad hw (by omega)
  unfold F_slices_ContainsFunc___api_Stitch_api_Stitch__s0
  rw [h1]
  by_cases ho : allOk l
  · have : ¬ 0 ≤ j := fun h => h2.1 h ho
    simp only [Option.bind_some, dF this, Bool.false_eq_true, if_false, sum_eq ho (show l.length ≤ 100000 by omega), if_pos ho]
    by_cases hm : 200 < sm usedS l ∨ 200 < sm madeS l
    · rw [dT (show (200 : Int) < if sm usedS l < sm madeS l then sm madeS l else sm usedS l by split <;> omega)]
      simp [hm]
    · rw [dF (show ¬ (200 : Int) < if sm usedS l < sm madeS l then sm madeS l else sm usedS l by split <;> omega)]
      simp [hm]
  · have : 0 ≤ j := h2.2 ho
    simp only [Option.bind_some, dT this, if_true, if_neg ho]
theorem rall_eq (l : List api_Stitch) : F_raddleref25_All l = some (allS l) := by
  unfold F_raddleref25_All allS
  by_cases hl : 200 < l.length
  · simp only [dT (show (200 : Int) < (l.length : Int) by omega), if_true, if_pos hl]
  simp only [dF (show ¬ (200 : Int) < (l.length : Int) by omega), Bool.false_eq_true, if_false, if_neg hl]
  have hloop : whileO (raddleref25_All_l1 l) 0 = some (if (List.range l.length).all (fun k => decide (okS (l.getD k ⟨0, false, 0, 0⟩))) = true then .inr () else .inl 8) := by
    refine loop_all l.length _ _ _ ?_ ?_
    · intro k hk
      unfold raddleref25_All_l1
      simp only [dT (show (k : Int) < (l.length : Int) by omega), if_true, idxO_nat hk, Option.bind_some, rstitch_eq, w64_succ (show k < 9223372036854775807 by omega), getD_of _ hk]
      by_cases ho : okS l[k] <;> simp [ho]
    · unfold raddleref25_All_l1
      simp only [dF (show ¬ (l.length : Int) < (l.length : Int) by omega), Bool.false_eq_true, if_false]
  rw [hloop]
  by_cases ho : allOk l
  · rw [if_pos (allOk_range.2 ho), if_pos ho]
    simp only [Option.bind_some, rsums_eq ho (show l.length ≤ 100000 by omega)]
    by_cases hu : 200 < sm usedS l
    · simp [hu]
    · by_cases hm : 200 < sm madeS l <;> simp [hu, hm]
  · rw [if_neg (fun h => ho (allOk_range.1 h)), if_neg ho]
    rfl
theorem allS_ok {l : List api_Stitch} (h : allS l = 0) : l.length ≤ 200 ∧ allOk l ∧ sm usedS l ≤ 200 ∧ sm madeS l ≤ 200 := by
  unfold allS at h
  split at h
  · omega
  · split at h
    · rename_i h1 h2
      split at h
      · omega
      · rename_i h3
        exact ⟨by omega, h2, by omega, by omega⟩
    · omega
def fin3 {σ τ : Type} (z0 : (σ ⊕ τ) ⊕ σ) : Option (σ ⊕ τ) := match z0 with
  | .inl z => some z
  | .inr g => some (.inl g)

end Go.Proofs.Ytdbgkakmhlmpbaa
namespace Go.Proofs.Ytdbgkakmhlmpbaa
open Go.RowKit
set_option linter.unusedVariables false

theorem uses_eq {l : List api_Stitch} (hw : ∀ p, p ∈ l → wfS p) : F_stitch_Uses l = some (if allS l = 0 then (sm usedS l, 0) else (0, allS l)) := by
  unfold F_stitch_Uses
  rw [all_eq hw, Option.bind_some]
  by_cases h : allS l = 0
  · simp only [nF h, Bool.false_eq_true, if_false, sum_eq (allS_ok h).2.1 (show l.length ≤ 100000 by have := (allS_ok h).1; omega), Option.bind_some, if_pos h]
  · simp only [nT h, if_true, if_neg h]
theorem makes_eq {l : List api_Stitch} (hw : ∀ p, p ∈ l → wfS p) : F_stitch_Makes l = some (if allS l = 0 then (sm madeS l, 0) else (0, allS l)) := by
  unfold F_stitch_Makes
  rw [all_eq hw, Option.bind_some]
  by_cases h : allS l = 0
  · simp only [nF h, Bool.false_eq_true, if_false, sum_eq (allS_ok h).2.1 (show l.length ≤ 100000 by have := (allS_ok h).1; omega), Option.bind_some, if_pos h]
  · simp only [nT h, if_true, if_neg h]
theorem ruses_eq (l : List api_Stitch) : F_raddleref25_Uses l = some (if allS l = 0 then (sm usedS l, 0) else (0, allS l)) := by
  unfold F_raddleref25_Uses
  rw [rall_eq, Option.bind_some]
  by_cases h : allS l = 0
  · simp only [nF h, Bool.false_eq_true, if_false, rsums_eq (allS_ok h).2.1 (show l.length ≤ 100000 by have := (allS_ok h).1; omega), Option.bind_some, if_pos h]
  · simp only [nT h, if_true, if_neg h]
theorem rmakes_eq (l : List api_Stitch) : F_raddleref25_Makes l = some (if allS l = 0 then (sm madeS l, 0) else (0, allS l)) := by
  unfold F_raddleref25_Makes
  rw [rall_eq, Option.bind_some]
  by_cases h : allS l = 0
  · simp only [nF h, Bool.false_eq_true, if_false, rsums_eq (allS_ok h).2.1 (show l.length ≤ 100000 by have := (allS_ok h).1; omega), Option.bind_some, if_pos h]
  · simp only [nT h, if_true, if_neg h]

end Go.Proofs.Ytdbgkakmhlmpbaa
namespace Go.Proofs.Ytdbgkakmhlmpbaa
open Go.RowKit
set_option linter.unusedVariables false

def wfR (rows : List api_Row) : Prop := ∀ r, r ∈ rows → ∀ p, p ∈ r.Cells → wfS p
/-- the error of rows behind n loops -/
def chkR : Int → List api_Row → Int
  | _, [] => 0
  | n, r :: rs => if allS r.Cells ≠ 0 then allS r.Cells else if sm usedS r.Cells ≠ n then 26 else chkR (sm madeS r.Cells) rs
/-- what the iterator goes over -/
def ctl : Nat → Int → List api_Row → List (Int × chart_count)
  | _, _, [] => []
  | i, n, r :: rs => if allS r.Cells ≠ 0 then [((i : Int), ⟨n, 0, allS r.Cells⟩)] else if sm usedS r.Cells ≠ n then [((i : Int), ⟨n, 0, 26⟩)] else ((i : Int), ⟨n, sm madeS r.Cells, 0⟩) :: ctl (i + 1) (sm madeS r.Cells) rs
theorem counted_loop {σ τ : Type} (c : api_Chart) (hw : wfR c.Rows) (hl : c.Rows.length ≤ 1000000000) (B : σ → (Int × chart_count) → Option (σ ⊕ τ)) : ∀ (rs : List api_Row) (i : Nat) (n : Int) (z : σ), c.Rows.drop i = rs → (whileO (chart_counted_1_l1 c B) (n, (i : Int), z)).bind fin3 = foldO B z (ctl i n rs) := by
  intro rs
  induction rs with
  | nil =>
    intro i n z hd
    have hi : c.Rows.length ≤ i := by
      have := congrArg List.length hd
      simp at this; omega
    have : chart_counted_1_l1 c B (n, (i : Int), z) = some (.inr (.inr z)) := by
      unfold chart_counted_1_l1
      simp only [dF (show ¬ (i : Int) < (c.Rows.length : Int) by omega), Bool.false_eq_true, if_false]
    rw [whileO_done this]
    rfl
  | cons r rs ih =>
    intro i n z hd
    have hi : i < c.Rows.length := by
      have := congrArg List.length hd
      simp at this; omega
    have hr : c.Rows[i] = r := by
      have := List.getElem_drop (xs := c.Rows) (i := i) (j := 0) (h := by rw [hd]; simp)
      simp only [hd, List.getElem_cons_zero, Nat.add_zero] at this
      exact this.symm
    have hrs : c.Rows.drop (i + 1) = rs := by
      rw [← List.drop_drop, hd]; rfl
    have hwr : ∀ p, p ∈ r.Cells → wfS p := hw r (hr ▸ List.getElem_mem hi)
    have hs : w64 ((i : Int) + 1) = ((i + 1 : Nat) : Int) := w64_succ (by omega)
    simp only [ctl]
    by_cases ha : allS r.Cells = 0
    · have eu : F_stitch_Uses r.Cells = some (sm usedS r.Cells, 0) := by rw [uses_eq hwr, if_pos ha]
      have em : F_stitch_Makes r.Cells = some (sm madeS r.Cells, 0) := by rw [makes_eq hwr, if_pos ha]
      rw [if_neg (by simp [ha])]
      by_cases hu : sm usedS r.Cells = n
      · have e1 : chart_counted_1_l1 c B (n, (i : Int), z) = (B z ((i : Int), ⟨n, sm madeS r.Cells, 0⟩)).bind fun y => match y with | .inl z' => some (.inl (sm madeS r.Cells, ((i + 1 : Nat) : Int), z')) | .inr t => some (.inr (.inl (.inr t))) := by
          unfold chart_counted_1_l1
          simp only [dT (show (i : Int) < (c.Rows.length : Int) by omega), if_true, idxO_nat hi, hr, Option.bind_some, eu, em, bne_self_eq_false, Bool.false_eq_true, if_false, nF hu, hs]
          try congr 1
        rw [if_neg (by simp [hu]), whileO_eq, e1, foldO]
        cases hb : B z ((i : Int), ⟨n, sm madeS r.Cells, 0⟩) with
        | none => rfl
        | some y =>
          cases y with
          | inl z' => exact ih (i + 1) (sm madeS r.Cells) z' hrs
          | inr t => rfl
      · have e1 : chart_counted_1_l1 c B (n, (i : Int), z) = (B z ((i : Int), ⟨n, 0, 26⟩)).bind fun y => match y with | .inl z' => some (.inr (.inl (.inl z'))) | .inr t => some (.inr (.inl (.inr t))) := by
          unfold chart_counted_1_l1
          simp only [dT (show (i : Int) < (c.Rows.length : Int) by omega), if_true, idxO_nat hi, hr, Option.bind_some, eu, em, bne_self_eq_false, Bool.false_eq_true, if_false, nT hu, nT (show ¬ (26 : Int) = 0 by omega)]
          try congr 1
        rw [if_pos (by simp [hu]), whileO_eq, e1, foldO]
        cases hb : B z ((i : Int), ⟨n, 0, 26⟩) with
        | none => rfl
        | some y => cases y <;> rfl
    · have eu : F_stitch_Uses r.Cells = some (0, allS r.Cells) := by rw [uses_eq hwr, if_neg ha]
      have e1 : chart_counted_1_l1 c B (n, (i : Int), z) = (B z ((i : Int), ⟨n, 0, allS r.Cells⟩)).bind fun y => match y with | .inl z' => some (.inr (.inl (.inl z'))) | .inr t => some (.inr (.inl (.inr t))) := by
        unfold chart_counted_1_l1
        simp only [dT (show (i : Int) < (c.Rows.length : Int) by omega), if_true, idxO_nat hi, hr, Option.bind_some, eu, nT ha]
        try congr 1
      rw [if_pos (by simp [ha]), whileO_eq, e1, foldO]
      cases hb : B z ((i : Int), ⟨n, 0, allS r.Cells⟩) with
      | none => rfl
      | some y => cases y <;> rfl
theorem chcount_eq {σ τ : Type} (c : api_Chart) (hw : wfR c.Rows) (hl : c.Rows.length ≤ 1000000000) (B : σ → (Int × chart_count) → Option (σ ⊕ τ)) (z : σ) : I_chart_counted_1 c σ τ B z = foldO B z (ctl 0 c.Start c.Rows) := by
  rw [← counted_loop c hw hl B c.Rows 0 c.Start z rfl]
  unfold I_chart_counted_1
  try congr 1
/-- the error of a chart -/
def chk (c : api_Chart) : Int := if 100 < c.Rows.length then 4 else if c.Start < 0 ∨ 200 < c.Start then 8 else chkR c.Start c.Rows
theorem check_fold : ∀ (rs : List api_Row) (i : Nat) (n : Int), foldO chart_Check_l2 () (ctl i n rs) = some (if chkR n rs = 0 then .inl () else .inr (chkR n rs)) := by
  intro rs
  induction rs with
  | nil => intro i n; rfl
  | cons r rs ih =>
    intro i n
    simp only [ctl, chkR]
    by_cases ha : allS r.Cells = 0
    · simp only [ha, ne_eq, not_true_eq_false, if_false]
      by_cases hu : sm usedS r.Cells = n
      · simp only [hu, not_true_eq_false, if_false, foldO, chart_Check_l2, bne_self_eq_false, Bool.false_eq_true, Option.bind_some]
        exact ih _ _
      · simp only [hu, not_false_eq_true, if_true, foldO, chart_Check_l2, nT (show ¬ (26 : Int) = 0 by omega), Option.bind_some]
        rfl
    · simp only [ha, ne_eq, not_false_eq_true, if_true, foldO, chart_Check_l2, nT ha, Option.bind_some, if_false]
theorem chart_check_eq (c : api_Chart) (hw : wfR c.Rows) : F_chart_Check c = some (chk c) := by
  unfold F_chart_Check chk F_chart_counted
  by_cases h1 : 100 < c.Rows.length
  · simp only [dT (show (100 : Int) < (c.Rows.length : Int) by omega), if_true, if_pos h1]
  simp only [dF (show ¬ (100 : Int) < (c.Rows.length : Int) by omega), Bool.false_eq_true, if_false, if_neg h1, Option.bind_some, chcount_eq c hw (show c.Rows.length ≤ 1000000000 by omega), check_fold]
  by_cases h2 : c.Start < 0
  · simp [h2]
  by_cases h3 : 200 < c.Start
  · simp [h2, h3]
  by_cases h4 : chkR c.Start c.Rows = 0 <;> simp [h2, h3, h4]
theorem rchart_loop (c : api_Chart) (hl : c.Rows.length ≤ 1000000000) : ∀ (rs : List api_Row) (i : Nat) (n : Int), c.Rows.drop i = rs → whileO (raddleref26_Check_l1 c) (n, (i : Int)) = some (if chkR n rs = 0 then .inr () else .inl (chkR n rs)) := by
  intro rs
  induction rs with
  | nil =>
    intro i n hd
    have hi : c.Rows.length ≤ i := by
      have := congrArg List.length hd
      simp at this; omega
    have : raddleref26_Check_l1 c (n, (i : Int)) = some (.inr (.inr ())) := by
      unfold raddleref26_Check_l1
      simp only [dF (show ¬ (i : Int) < (c.Rows.length : Int) by omega), Bool.false_eq_true, if_false]
    rw [whileO_done this]
    rfl
  | cons r rs ih =>
    intro i n hd
    have hi : i < c.Rows.length := by
      have := congrArg List.length hd
      simp at this; omega
    have hr : c.Rows[i] = r := by
      have := List.getElem_drop (xs := c.Rows) (i := i) (j := 0) (h := by rw [hd]; simp)
      simp only [hd, List.getElem_cons_zero, Nat.add_zero] at this
      exact this.symm
    have hrs : c.Rows.drop (i + 1) = rs := by
      rw [← List.drop_drop, hd]; rfl
    have hs : w64 ((i : Int) + 1) = ((i + 1 : Nat) : Int) := w64_succ (by omega)
    by_cases ha : allS r.Cells = 0
    · have eu : F_raddleref25_Uses r.Cells = some (sm usedS r.Cells, 0) := by rw [ruses_eq, if_pos ha]
      have em : F_raddleref25_Makes r.Cells = some (sm madeS r.Cells, 0) := by rw [rmakes_eq, if_pos ha]
      by_cases hu : sm usedS r.Cells = n
      · have e1 : raddleref26_Check_l1 c (n, (i : Int)) = some (.inl (sm madeS r.Cells, ((i + 1 : Nat) : Int))) := by
          unfold raddleref26_Check_l1
          simp only [dT (show (i : Int) < (c.Rows.length : Int) by omega), if_true, idxO_nat hi, hr, Option.bind_some, eu, em, bne_self_eq_false, Bool.false_eq_true, if_false, nF hu, hs]
        have hc : chkR n (r :: rs) = chkR (sm madeS r.Cells) rs := by simp [chkR, ha, hu]
        rw [whileO_step e1, ih (i + 1) (sm madeS r.Cells) hrs, hc]
      · have e1 : raddleref26_Check_l1 c (n, (i : Int)) = some (.inr (.inl 26)) := by
          unfold raddleref26_Check_l1
          simp only [dT (show (i : Int) < (c.Rows.length : Int) by omega), if_true, idxO_nat hi, hr, Option.bind_some, eu, em, bne_self_eq_false, Bool.false_eq_true, if_false, nT hu]
        have hc : chkR n (r :: rs) = 26 := by simp [chkR, ha, hu]
        rw [whileO_done e1, hc]
        rfl
    · have eu : F_raddleref25_Uses r.Cells = some (0, allS r.Cells) := by rw [ruses_eq, if_neg ha]
      have e1 : raddleref26_Check_l1 c (n, (i : Int)) = some (.inr (.inl (allS r.Cells))) := by
        unfold raddleref26_Check_l1
        simp only [dT (show (i : Int) < (c.Rows.length : Int) by omega), if_true, idxO_nat hi, hr, Option.bind_some, eu, nT ha]
      have hc : chkR n (r :: rs) = allS r.Cells := by simp [chkR, ha]
      rw [whileO_done e1, hc, if_neg ha]
theorem rchart_check_eq (c : api_Chart) : F_raddleref26_Check c = some (chk c) := by
  unfold F_raddleref26_Check chk
  by_cases h1 : 100 < c.Rows.length
  · simp only [dT (show (100 : Int) < (c.Rows.length : Int) by omega), if_true, if_pos h1]
  simp only [dF (show ¬ (100 : Int) < (c.Rows.length : Int) by omega), Bool.false_eq_true, if_false, if_neg h1]
  have hloop := rchart_loop c (by omega) c.Rows 0 c.Start rfl
  have h0 : ((0 : Nat) : Int) = 0 := rfl
  rw [h0] at hloop
  rw [hloop]
  by_cases h2 : c.Start < 0
  · simp [h2]
  by_cases h3 : 200 < c.Start
  · simp [h2, h3]
  by_cases h4 : chkR c.Start c.Rows = 0 <;> simp [h2, h3, h4]
/-- a chart without an error: every row is one, uses what the row before made -/
theorem chk_ok {c : api_Chart} (h : chk c = 0) : c.Rows.length ≤ 100 ∧ 0 ≤ c.Start ∧ c.Start ≤ 200 ∧ chkR c.Start c.Rows = 0 := by
  unfold chk at h
  split at h
  · omega
  · split at h
    · omega
    · rename_i h1 h2
      exact ⟨by omega, by omega, by omega, h⟩
theorem chkR_cons {n : Int} {r : api_Row} {rs : List api_Row} : chkR n (r :: rs) = 0 ↔ allS r.Cells = 0 ∧ sm usedS r.Cells = n ∧ chkR (sm madeS r.Cells) rs = 0 := by
  simp only [chkR]
  by_cases ha : allS r.Cells = 0
  · by_cases hu : sm usedS r.Cells = n
    · simp [ha, hu]
    · simp [ha, hu]
  · simp [ha]
theorem chkR_mem : ∀ {rs : List api_Row} {n : Int}, chkR n rs = 0 → ∀ r, r ∈ rs → allS r.Cells = 0 := by
  intro rs
  induction rs with
  | nil => intro n _ r hr; cases hr
  | cons x rs ih =>
    intro n h r hr
    obtain ⟨h1, h2, h3⟩ := chkR_cons.1 h
    rcases List.mem_cons.1 hr with rfl | hr
    · exact h1
    · exact ih h3 r hr
theorem wfR_of {c : api_Chart} (h : wf_api_Chart c) : wfR c.Rows := fun r hr p hp => inK_u8 ((((h.2.2 r hr).2).2 p hp).1)

end Go.Proofs.Ytdbgkakmhlmpbaa
namespace Go.Proofs.Ytdbgkakmhlmpbaa
open Go.RowKit
set_option linter.unusedVariables false

noncomputable def chart_twin_l1 (p0 : (List api_Row)) : (List api_Row × Int) → Option ((List api_Row × Int) ⊕ List api_Row) := fun s0 => match s0 with
  | (s16, s19) =>
    if decide (s19 < (p0.length : Int)) then
      Option.bind (idxO p0 s19) fun x31 =>
      Option.bind (makeO (x31.Cells.length : Int) (api_Stitch.mk 0 false 0 0)) fun m44 =>
      Option.bind (idxO s16 s19) fun x46 =>
      Option.bind (setO s16 s19 (api_Row.mk x46.Back (cpO m44 x31.Cells))) fun l60 =>
      some (.inl (l60, w64 (s19 + 1)))
    else
      some (.inr s16)
noncomputable def F_chart_twin (p0 : (List api_Row)) : Option (List api_Row) :=
  Option.bind (makeO (p0.length : Int) (api_Row.mk false ([] : (List api_Stitch)))) fun m7 =>
  Option.bind (α := List api_Row) (
    Option.bind (whileO (chart_twin_l1 p0) (cpO m7 p0, 0)) fun e23 =>
      some e23) fun o10 =>
  some o10
end Go.Proofs.Ytdbgkakmhlmpbaa
namespace Go.Proofs.Ytdbgkakmhlmpbaa
open Go.RowKit
set_option linter.unusedVariables false

def anc_chart_twin_s0_0 : List (List Nat) := [[], [], [0, 1], [0, 1, 2], [0, 1, 2, 3], [], [5], [0, 1, 2, 3, 4, 5, 6]]
noncomputable def chart_twin_s0_l1 (p0 : (List api_Row)) : (List api_Row × Int) → Option ((List api_Row × Int) ⊕ List api_Row) := fun s0 => match s0 with
  | (s16, s19) =>
    if decide (s19 < (p0.length : Int)) then
      Option.bind (idxO p0 s19) fun x31 =>
      Option.bind (makeO (x31.Cells.length : Int) (api_Stitch.mk 0 false 0 0)) fun m44 =>
      Option.bind (idxO s16 s19) fun x46 =>
      Option.bind (setO s16 s19 (api_Row.mk x46.Back (cpO m44 x31.Cells))) fun l60 =>
      some (.inl (l60, w64 (s19 + 1)))
    else
      some (.inr s16)
noncomputable def F_chart_twin_s0 (p0 : (List api_Row)) : Option (List api_Row) :=
  Option.bind (makeO (p0.length : Int) (api_Row.mk false ([] : (List api_Stitch)))) fun m7 =>
  Option.bind (α := List api_Row) (
    Option.bind (whileO (chart_twin_s0_l1 p0) (cpO m7 p0, 0)) fun e23 =>
      some e23) fun o10 =>
  some o10
set_option maxHeartbeats 4000000 in
set_option maxRecDepth 100000 in
theorem c_chart_twin_s0 (E : Nat → Prop) (w0 : World) (p0 : (List api_Row)) (v0 : Value) (r : (List api_Row)) (h : F_chart_twin_s0 p0 = some r) (S : St0 E [] w0 w0 [] [fRep (rL r_api_Row) (v0) p0]) :
    Calls Try.prog 52 #[v0] w0 (Ret (X := Option Addr × Nat) E [] w0 (fun x => .slice x.1 r.length x.2) (fun x => [eRow r_api_Row 72 (.slice x.1 r.length x.2) r]) (fun _ => [])) := by
  unfold F_chart_twin_s0 at h
  obtain ⟨ad1, cp2, _, rfl, _⟩ := S.know (i := 0) (e := fRep (rL r_api_Row) (v0) p0) rfl
  refine sEnter (args := [.slice ad1 p0.length cp2]) 37 Try.func52 rfl rfl (by simp) S (fun a S => ?_)
  refine sSeq (fun K3 hK3 => ?_)
  refine sRegion ?_
  refine sMove (.slice none 0 0) S (wN rfl) (.inr rfl) rfl rfl (lb rfl) fun a S => ?_
  refine leafL (leafT (hK3 _ _ ?_))
  refine sSeq (fun K4 hK4 => ?_)
  refine sRegion ?_
  refine sMove (.slice ad1 p0.length cp2) S (wN rfl) (.inl rfl) rfl rfl (lb rfl) fun a S => ?_
  refine sLen (ad := ad1) (m := p0.length) (c := cp2) S (wN rfl) rfl Try.underlying39 rfl rfl (lb rfl) fun a S => ?_
  obtain ⟨m7, hx8, h⟩ := bindSome h
  refine sMakeG (r := r_api_Row) (m := (p0.length : Int)) (xs := m7) (.agg #[.bool false, .slice none 0 0]) (api_Row.mk false ([] : (List api_Stitch))) 32 S (wN rfl) rfl Try.underlying39 rfl (by decide) (fun E w => ⟨_, rfl, rL_nil _ E w⟩) rfl rfl hx8 rfl (lb rfl) fun a w ad5 cp6 S => ?_
  refine sMove (.slice ad5 m7.length cp6) S (wN rfl) (.inr rfl) rfl rfl (lb rfl) fun a S => ?_
  refine leafL (leafT (hK4 _ _ ?_))
  refine sSeq (fun K9 hK9 => ?_)
  refine sRegion ?_
  refine sMove (.slice ad5 m7.length cp6) S (wN rfl) (.inl rfl) rfl rfl (lb rfl) fun a S => ?_
  refine sMove (.slice ad1 p0.length cp2) S (wN rfl) (.inl rfl) rfl rfl (lb rfl) fun a S => ?_
  refine sCopyR (r := r_api_Row) (T := 72) (xs := m7) (ys := p0) (v := .slice ad5 m7.length cp6) (u := .slice ad1 p0.length cp2) 0 0 S (wN rfl) rfl Try.underlying39 rfl rfl rfl rfl rfl rfl (lb rfl) fun a w S => ?_
  rw [cpO_v m7 p0 ad5 cp6] at S
  refine leafL (leafT (hK9 _ _ ?_))
  obtain ⟨t13, h, g14⟩ := bindSome h
  refine sCut (fun a w => ∃ o10, o10 = t13 ∧ ∃ ad11, ∃ cp12, St [] E [] w0 37 a w [(3, .slice ad11 o10.length cp12)] [eRow r_api_Row 72 (.slice ad11 o10.length cp12) o10] []) ?_ (fun a w hI => ?_)
  rotate_left
  · obtain ⟨o10, rfl, ad11, cp12, S⟩ := hI
    have h := g14
    clear g14
    try dsimp only at h
    refine sSeq (fun K68 hK68 => ?_)
    refine sRegion ?_
    refine sMove (.slice ad11 o10.length cp12) S (wN rfl) (.inl rfl) rfl rfl (lb rfl) fun a S => ?_
    refine sMove (.slice ad11 o10.length cp12) S (wN rfl) (.inr rfl) rfl rfl (lb rfl) fun a S => ?_
    refine leafL (leafT (hK68 _ _ ?_))
    obtain rfl := Option.some.inj h
    exact wp_ret (sRet (.slice ad11 o10.length cp12) S (rsl1 rfl (rvT (t := 2) (v := .slice ad11 o10.length cp12) S rfl)) ⟨(ad11, cp12), rfl, S.mem.sel [0] [] (by decide) rfl rfl⟩)
  refine sSeq (fun K15 hK15 => ?_)
  refine sRegion ?_
  refine sMove (.slice ad1 p0.length cp2) S (wN rfl) (.inl rfl) rfl rfl (lb rfl) fun a S => ?_
  refine sLen (ad := ad1) (m := p0.length) (c := cp2) S (wN rfl) rfl Try.underlying39 rfl rfl (lb rfl) fun a S => ?_
  refine sMove (iv 0) S (wN rfl) (.inl rfl) rfl rfl (lb rfl) fun a S => ?_
  refine leafL (leafT (hK15 _ _ ?_))
  refine wp_block ?_
  obtain ⟨t22, hl, g21⟩ := bindSome h
  refine sLoop hl (fun s0 a w => match s0 with | (s16, s19) => ∃ ad17, ∃ cp18, St [] E [] w0 37 a w [(3, .slice ad17 s16.length cp18), (12, .slice ad1 p0.length cp2), (13, iv (p0.length : Int)), (14, iv s19)] [eRow r_api_Row 72 (.slice ad17 s16.length cp18) s16] [fRep (rL r_api_Row) (.slice ad1 p0.length cp2) p0]) ⟨ad5, cp6, S.fix [0] [0] (by decide) rfl rfl rfl⟩ ?_
  clear hl h
  intro s0 a w c0 hI h hu20
  obtain ⟨s16, s19⟩ := s0
  unfold chart_twin_s0_l1 at h
  dsimp only at h hI
  obtain ⟨ad17, cp18, S⟩ := hI
  refine sSeq (fun K26 hK26 => ?_)
  refine sRegion ?_
  refine sBin (.bool (decide (s19 < (p0.length : Int)))) S (wN rfl) rfl rfl rfl (bLt _ _ _ _ .i64 s19 (p0.length : Int)) rfl (lb rfl) fun a S => ?_
  refine leafL (leafT (hK26 _ _ ?_))
  refine sSeq (fun K27 hK27 => ?_)
  rcases iteSome h with ⟨hc28, h⟩ | ⟨hc28, h⟩
  rotate_left
  · refine sCondF S rfl hc28 ?_
    obtain rfl := Option.some.inj h
    obtain rfl := hu20 _ rfl
    have h := g21
    clear g21
    try dsimp only at h
    exact wp_exit (xThen (xThen (xHit (leafT (⟨s16, Option.some.inj h, ad17, cp18, S.fix [0] [] (by decide) rfl rfl rfl⟩)))))
  refine sCondT S rfl hc28 ?_
  refine wp_skip (leafT (hK27 _ _ ?_))
  refine sSeq (fun K29 hK29 => ?_)
  refine wp_block ?_
  refine sSeq (fun K30 hK30 => ?_)
  refine sRegion ?_
  refine sMove (iv s19) S (wN rfl) (.inl rfl) rfl rfl (lb rfl) fun a S => ?_
  obtain ⟨x31, hx32, h⟩ := bindSome h
  obtain ⟨q33, hq34, S⟩ := pIdx (P := Try.prog) (r := r_api_Row) (v := .slice ad1 p0.length cp2) (xs := p0) (j := s19) 39 72 0 S Try.underlying39 rfl rfl hx32
  refine sIdxV (v := .slice ad1 p0.length cp2) (k := .i64) (j := s19) S (wN rfl) rfl rfl rfl hq34 rfl (lb rfl) fun a S => ?_
  obtain ⟨u35, S⟩ := pLoad (r := r_api_Row) (q := q33) (x := x31) 0 S rfl
  obtain ⟨u36, rfl, hu37⟩ := S.mem.know (i := 1) (e := fRep r_api_Row (u35) x31) rfl
  have S := S.learn (fRep (rL r_api_Stitch) u36 x31.Cells) hu37
  obtain ⟨ad38, cp39, _, rfl, _⟩ := hu37
  refine sLoadVN (vq := q33) 1 [.bool x31.Back, .slice ad38 x31.Cells.length cp39] S (wN rfl) rfl rfl rfl rfl rfl rfl (lb rfl) fun a S => ?_
  refine sAlloc (.agg #[.bool false, .slice none 0 0]) S (wN rfl) rfl rfl [.bool false, .slice none 0 0] rfl rfl (lb rfl) fun a b40 w S => ?_
  refine sMove (iv s19) S (wN rfl) (.inr rfl) rfl rfl (lb rfl) fun a S => ?_
  refine sStore (p := b40) (off := 0) (T := 72) (vs := [.bool false, .slice none 0 0]) (v := .agg #[.bool x31.Back, .slice ad38 x31.Cells.length cp39]) 0 [.bool x31.Back, .slice ad38 x31.Cells.length cp39] S (wN rfl) rfl rfl rfl rfl rfl rfl rfl (by simp) rfl fun a w S => ?_
  refine leafL (leafT (hK30 _ _ ?_))
  refine sSeq (fun K41 hK41 => ?_)
  refine sRegion ?_
  refine sMove (.slice ad17 s16.length cp18) S (wN rfl) (.inl rfl) rfl rfl (lb rfl) fun a S => ?_
  refine sMove (iv s19) S (wN rfl) (.inl rfl) rfl rfl (lb rfl) fun a S => ?_
  refine sField (b := b40) (off := 0) 1 1 S (wN rfl) rfl rfl rfl rfl rfl (lb rfl) fun a S => ?_
  refine sLoad1 (p := b40) (off := 1) (T := 72) (vs := [.bool x31.Back, .slice ad38 x31.Cells.length cp39]) 0 (.slice ad38 x31.Cells.length cp39) S (wN rfl) rfl rfl rfl rfl rfl rfl (lb rfl) fun a S => ?_
  refine sLen (ad := ad38) (m := x31.Cells.length) (c := cp39) S (wN rfl) rfl Try.underlying70 rfl rfl (lb rfl) fun a S => ?_
  obtain ⟨m44, hx45, h⟩ := bindSome h
  refine sMakeG (r := r_api_Stitch) (m := (x31.Cells.length : Int)) (xs := m44) (.agg #[.int .u8 0, .bool false, iv 0, iv 0]) (api_Stitch.mk 0 false 0 0) 24 S (wN rfl) rfl Try.underlying70 rfl (by decide) (fun _ _ => rfl) rfl rfl hx45 rfl (lb rfl) fun a w ad42 cp43 S => ?_
  obtain ⟨x46, hx47, h⟩ := bindSome h
  obtain ⟨q48, hq49, hp50⟩ := pIdxR (P := Try.prog) (r := r_api_Row) (T := 72) (v := .slice ad17 s16.length cp18) (xs := s16) (j := s19) 39 72 2 S Try.underlying39 rfl rfl hx47
  refine sIdxV (v := .slice ad17 s16.length cp18) (k := .i64) (j := s19) S (wN rfl) rfl rfl rfl hq49 rfl (lb rfl) fun a S => ?_
  obtain ⟨q51, hq52, hp53⟩ := pFldR (P := Try.prog) 72 1 1 hp50 rfl
  refine sFldV (q := q48) S (wN rfl) rfl rfl hq52 rfl (lb rfl) fun a S => ?_
  refine sStoreH (r := r_api_Row) (T := 72) (xs := s16) (x := x46) (v := .slice ad17 s16.length cp18) (vq := q51) (u := .slice ad42 m44.length cp43) (j := s19) 2 1 S hp53 (wN rfl) rfl rfl rfl rfl hx47 (lb rfl) rfl rfl rfl rfl fun a w S => ?_
  refine leafL (leafT (hK41 _ _ ?_))
  obtain ⟨l60, hx61, h⟩ := bindSome h
  obtain ⟨q62, hq63, hp64⟩ := pIdxH (P := Try.prog) (r := r_api_Row) (T := 72) (v := .slice ad17 s16.length cp18) (xs := s16) (j := s19) 39 72 0 S Try.underlying39 rfl rfl hx47
  obtain ⟨q65, hq66, hp67⟩ := pFldR (P := Try.prog) 72 1 1 hp64 rfl
  refine sDraw (nf := [7]) (W := [(0, 27, .slice ad17 s16.length cp18), (1, 28, iv s19), (2, 29, q62), (3, 30, q65), (4, 31, .slice ad42 m44.length cp43), (5, 32, .pointer (some ⟨b40, 1, none⟩)), (6, 33, .slice ad38 x31.Cells.length cp39)]) rfl S ?_
  refine node_by (A := anc_chart_twin_s0_0) (nf := [7]) (Y := []) (W := [(0, 27, .slice ad17 s16.length cp18), (1, 28, iv s19), (2, 29, q62), (3, 30, q65), (4, 31, .slice ad42 m44.length cp43), (5, 32, .pointer (some ⟨b40, 1, none⟩)), (6, 33, .slice ad38 x31.Cells.length cp39)]) 8 (by kernel_rfl) (by kernel_rfl) (by kernel_rfl) (by kernel_rfl) (by kernel_rfl) [0, 1, 2, 3, 4, 5, 6] (by kernel_rfl) (by decide) (by decide) (aF 0 7 (by decide) ?_ (aF 1 6 (by decide) ?_ (aF 2 5 (by decide) ?_ (aF 3 4 (by decide) ?_ (aF 4 3 (by decide) ?_ (aF 5 2 (by decide) ?_ (aF 6 1 (by decide) ?_ (aN 7 0 (by decide) ?_ (trivial))))))))) [] (fun q hq => by cases hq) (fun hY => absurd (hY 7 (by decide)) (by decide))
  · refine fI 27 (.slice ad17 s16.length cp18) [(3, .slice ad17 s16.length cp18)] 0 [none] rfl rfl rfl rfl rfl rfl fun G a w S => ?_
    refine sMove (.slice ad17 s16.length cp18) S (wN rfl) (.inl rfl) rfl rfl (lb rfl) fun a S => ?_
    exact leafL ⟨rfl, S⟩
  · refine fI 28 (iv s19) [(4, iv s19)] 1 [none] rfl rfl rfl rfl rfl rfl fun G a w S => ?_
    refine sMove (iv s19) S (wN rfl) (.inl rfl) rfl rfl (lb rfl) fun a S => ?_
    exact leafL ⟨rfl, S⟩
  · refine fI 29 q62 [(27, .slice ad17 s16.length cp18), (28, iv s19)] 2 [some 0, some 1] rfl rfl rfl rfl rfl rfl fun G a w S => ?_
    refine sIdxV (v := .slice ad17 s16.length cp18) (k := .i64) (j := s19) S (wN rfl) rfl rfl rfl hq63 rfl (lb rfl) fun a S => ?_
    exact leafL ⟨rfl, S⟩
  · refine fI 30 q65 [(29, q62)] 3 [some 2] rfl rfl rfl rfl rfl rfl fun G a w S => ?_
    refine sFldV (q := q62) S (wN rfl) rfl rfl hq66 rfl (lb rfl) fun a S => ?_
    exact leafL ⟨rfl, S⟩
  · refine fI 31 (.slice ad42 m44.length cp43) [(30, q65)] 4 [some 3] rfl rfl rfl rfl rfl rfl fun G a w S => ?_
    refine sLoadH (r := r_api_Row) (T := 72) (xs := s16) (u := .slice ad42 m44.length cp43) (v := .slice ad17 s16.length cp18) (vq := q65) (j := s19) 0 1 S hp67 (wN rfl) rfl rfl rfl rfl rfl (lb rfl) fun a S => ?_
    exact leafL ⟨rfl, S⟩
  · refine fI 32 (.pointer (some ⟨b40, 1, none⟩)) [(5, .pointer (some ⟨b40, 0, none⟩))] 5 [none] rfl rfl rfl rfl rfl rfl fun G a w S => ?_
    refine sField (b := b40) (off := 0) 1 1 S (wN rfl) rfl rfl rfl rfl rfl (lb rfl) fun a S => ?_
    exact leafL ⟨rfl, S⟩
  · refine fI 33 (.slice ad38 x31.Cells.length cp39) [(32, .pointer (some ⟨b40, 1, none⟩))] 6 [some 5] rfl rfl rfl rfl rfl rfl fun G a w S => ?_
    refine sLoad1 (p := b40) (off := 1) (T := 72) (vs := [.bool x31.Back, .slice ad38 x31.Cells.length cp39]) 2 (.slice ad38 x31.Cells.length cp39) S (wN rfl) rfl rfl rfl rfl rfl rfl (lb rfl) fun a S => ?_
    exact leafL ⟨rfl, S⟩
  refine ⟨_, [(31, .slice ad42 m44.length cp43), (33, .slice ad38 x31.Cells.length cp39)], rfl, (srcs_of [some 4, some 6] rfl rfl rfl), fun G a w S => ?_⟩
  refine sCopyR (r := r_api_Stitch) (T := 74) (xs := m44) (ys := x31.Cells) (v := .slice ad42 m44.length cp43) (u := .slice ad38 x31.Cells.length cp39) 1 0 S (wN rfl) rfl Try.underlying70 rfl rfl rfl rfl rfl rfl (lb rfl) fun a w S => ?_
  refine leafL ⟨rfl, _, _, .inl ⟨34, (iv ((Nat.min x31.Cells.length m44.length : Nat) : Int)), [], rfl, S, hz_of rfl, ?_⟩⟩
  refine node_by (A := anc_chart_twin_s0_0) (nf := [7]) (Y := [7]) 8 (by kernel_rfl) (by kernel_rfl) (by kernel_rfl) (by kernel_rfl) (by kernel_rfl) [7, 0, 1, 2, 3, 4, 5, 6] (by kernel_rfl) (by decide) (by decide) (aD 0 7 7 (by decide) (aD 1 6 7 (by decide) (aD 2 5 7 (by decide) (aD 3 4 7 (by decide) (aD 4 3 7 (by decide) (aD 5 2 7 (by decide) (aD 6 1 7 (by decide) (aY 7 0 (by decide) (trivial))))))))) [(3, .slice ad17 s16.length cp18), (12, .slice ad1 p0.length cp2), (13, iv (p0.length : Int)), (14, iv s19)] (fin_of [none, none, none, none] rfl (by kernel_rfl) (by kernel_rfl)) (fun _ a w S => ?_)
  rw [cpO_v m44 x31.Cells ad42 cp43] at S
  have S := S.shutR (r := r_api_Stitch) (T := 74) (v := .slice ad42 (cpO m44 x31.Cells).length cp43) (xs := (cpO m44 x31.Cells)) 0 rfl
  have S := S.closeH (r := r_api_Row) (s := (rL r_api_Stitch)) (T := 72) (xs := s16) (ys := l60) (x := x46) (y := (api_Row.mk x46.Back (cpO m44 x31.Cells))) (z := (cpO m44 x31.Cells)) (v := .slice ad17 s16.length cp18) (u := .slice ad42 (cpO m44 x31.Cells).length cp43) (j := s19) 0 1 rfl (S.mem.know (i := 0) (e := fRep (rL r_api_Stitch) (.slice ad42 (cpO m44 x31.Cells).length cp43) (cpO m44 x31.Cells)) rfl) rfl (lb rfl) hx47 (upd_api_Row_Cells _ _) hx61
  rw [setO_v hx61 ad17 cp18] at S
  refine leafB (leafT (hK29 _ _ ?_))
  refine sRegion ?_
  refine sBin (iv (w64 (s19 + 1))) S (wN rfl) rfl rfl rfl (bAdd _ _ _ _ s19 1) rfl (lb rfl) fun a S => ?_
  refine sMove (iv (w64 (s19 + 1))) S (wN rfl) (.inl rfl) rfl rfl (lb rfl) fun a S => ?_
  exact leafL (leafT (⟨(l60, w64 (s19 + 1)), (Option.some.inj h).symm, ⟨ad17, cp18, S.fix [0] [5] (by decide) rfl rfl rfl⟩⟩))

end Go.Proofs.Ytdbgkakmhlmpbaa
namespace Go.Proofs.Ytdbgkakmhlmpbaa
open Go.RowKit
set_option linter.unusedVariables false

def anc_chart_Flip_0 : List (List Nat) := [[], [0], [], [], [3], [], [3, 4, 5], [3, 4, 5, 6], [3, 4, 5, 6, 7], [3, 4, 5, 6, 7, 8], [0, 1, 2, 3, 4, 5, 6, 7, 8, 9], [0, 1, 2, 3, 4, 5, 6, 7, 8, 9, 10], [0, 1, 2, 3, 4, 5, 6, 7, 8, 9, 10, 11]]
noncomputable def chart_Flip_l1 (r16 : (List api_Row)) : (Int × List api_Row) → Option ((Int × List api_Row) ⊕ List api_Row) := fun s0 => match s0 with
  | (s26, s27) =>
    if decide (s26 < (r16.length : Int)) then
      Option.bind (idxO s27 s26) fun x41 =>
      Option.bind (setO s27 s26 (api_Row.mk (!x41.Back) x41.Cells)) fun l55 =>
      some (.inl (w64 (s26 + 1), l55))
    else
      some (.inr s27)
noncomputable def F_chart_Flip (p0 : api_Chart) : Option (api_Chart × Int) :=
  Option.bind (F_chart_Check p0) fun r10 =>
  if r10 != 0 then
    some ((api_Chart.mk 0 ([] : (List api_Row))), r10)
  else
    Option.bind (F_chart_twin_s0 p0.Rows) fun r16 =>
    Option.bind (α := List api_Row) (
      Option.bind (whileO (chart_Flip_l1 r16) (0, r16)) fun e33 =>
        some e33) fun o20 =>
    some ((api_Chart.mk p0.Start o20), 0)
def c_chart_Flip_val (r : (api_Chart × Int)) (x : Value) : Value := .tuple #[x, .int .i64 r.2]
def c_chart_Flip_D (r : (api_Chart × Int)) (x : Value) : List Fact := [fRep r_api_Chart x r.1]
set_option maxHeartbeats 4000000 in
set_option maxRecDepth 100000 in
theorem c_chart_Flip (E : Nat → Prop) (w0 : World) (p0 : api_Chart) (v0 : Value) (r : (api_Chart × Int)) (h : F_chart_Flip p0 = some r) (S : St0 E [] w0 w0 [] [fRep r_api_Chart (v0) p0]) :
    Calls Try.prog 31 #[v0] w0 (Ret (X := Value) E [] w0 (c_chart_Flip_val r) (fun _ => []) (c_chart_Flip_D r)) := by
  unfold F_chart_Flip at h
  obtain ⟨u1, rfl, hu2⟩ := S.know (i := 0) (e := fRep r_api_Chart (v0) p0) rfl
  have S := S.learn (fRep (rL r_api_Row) u1 p0.Rows) hu2
  obtain ⟨ad3, cp4, _, rfl, _⟩ := hu2
  refine sEnter (args := [.agg #[iv p0.Start, .slice ad3 p0.Rows.length cp4]]) 36 Try.func31 rfl rfl (by simp) S (fun a S => ?_)
  refine sSeq (fun K5 hK5 => ?_)
  refine sRegion ?_
  refine sBox (v := .agg #[iv p0.Start, .slice ad3 p0.Rows.length cp4]) S (wN rfl) rfl rfl [iv p0.Start, .slice ad3 p0.Rows.length cp4] rfl rfl (lb rfl) fun a b6 w S => ?_
  refine sAlloc (.agg #[iv 0, .slice none 0 0]) S (wN rfl) rfl rfl [iv 0, .slice none 0 0] rfl rfl (lb rfl) fun a b7 w S => ?_
  refine sMove (iv 0) S (wN rfl) (.inr rfl) rfl rfl (lb rfl) fun a S => ?_
  refine leafL (leafT (hK5 _ _ ?_))
  refine sSeq (fun K8 hK8 => ?_)
  refine sSeq (fun K9 hK9 => ?_)
  refine sRegion ?_
  refine sLoadN (p := b6) (off := 0) (T := 41) (vs := [iv p0.Start, .slice ad3 p0.Rows.length cp4]) 1 [iv p0.Start, .slice ad3 p0.Rows.length cp4] S (wN rfl) rfl rfl rfl rfl rfl rfl rfl (lb rfl) fun a S => ?_
  obtain ⟨r10, hx11, h⟩ := bindSome h
  have S1 := S.mem
  refine sCallQ (X := Unit) (f := 41) (vs := [.agg #[iv p0.Start, .slice ad3 p0.Rows.length cp4]]) (val := fun _ => iv r10) S (wN rfl) rfl callee41 rfl (S1.quiet [1] rfl) (fun E1 w1 S1 => c_chart_Check E1 w1 p0 (.agg #[iv p0.Start, .slice ad3 p0.Rows.length cp4]) r10 hx11 S1) rfl (lb rfl) fun _ a w S => ?_
  refine sMove (iv r10) S (wN rfl) (.inr rfl) rfl rfl (lb rfl) fun a S => ?_
  refine leafL (leafT (hK9 _ _ ?_))
  refine sSeq (fun K12 hK12 => ?_)
  refine sRegion ?_
  refine sMove (iv r10) S (wN rfl) (.inl rfl) rfl rfl (lb rfl) fun a S => ?_
  refine sBin (.bool (r10 != 0)) S (wN rfl) rfl rfl rfl (bNe _ _ _ _ .i64 r10 0) rfl (lb rfl) fun a S => ?_
  refine leafL (leafT (hK12 _ _ ?_))
  rcases iteSome h with ⟨hc13, h⟩ | ⟨hc13, h⟩
  · refine sCondT S rfl hc13 ?_
    refine sSeq (fun K14 hK14 => ?_)
    refine sRegion ?_
    refine sBuild [] [iv 0, .slice none 0 0] S (wN rfl) rfl rfl rfl rfl (lb rfl) fun a S => ?_
    refine sMove (iv r10) S (wN rfl) (.inl rfl) rfl rfl (lb rfl) fun a S => ?_
    refine sStore (p := b7) (off := 0) (T := 41) (vs := [iv 0, .slice none 0 0]) (v := .agg #[iv 0, .slice none 0 0]) 0 [iv 0, .slice none 0 0] S (wN rfl) rfl rfl rfl rfl rfl rfl rfl (by simp) rfl fun a w S => ?_
    refine sMove (iv r10) S (wN rfl) (.inr rfl) rfl rfl (lb rfl) fun a S => ?_
    refine leafL (leafT (hK14 _ _ ?_))
    obtain rfl := Option.some.inj h
    have S := S.learn (fRep (rL r_api_Row) (.slice none 0 0) ([] : (List api_Row))) (rL_nil _ _ _)
    have S := S.learn (fRep r_api_Chart (.agg #[iv 0, .slice none 0 0]) (api_Chart.mk 0 ([] : (List api_Row)))) ⟨_, rfl, S.mem.know (i := 0) (e := fRep (rL r_api_Row) (.slice none 0 0) ([] : (List api_Row))) rfl⟩
    exact wp_ret (rThen (sRet (.tuple #[.agg #[iv 0, .slice none 0 0], iv r10]) S (rsl2 rfl (rvN (c := 2) (t := 41) (T := 41) (p := b7) 0 [iv 0, .slice none 0 0] S rfl rfl rfl rfl) (rvT (t := 3) (v := iv r10) S rfl)) ⟨(.agg #[iv 0, .slice none 0 0]), rfl, S.mem.sel [] [0] (by decide) rfl rfl⟩))
  refine sCondF S rfl hc13 ?_
  refine wp_skip (leafT (hK8 _ _ ?_))
  refine sSeq (fun K15 hK15 => ?_)
  refine sRegion ?_
  refine sField (b := b6) (off := 0) 1 1 S (wN rfl) rfl rfl rfl rfl rfl (lb rfl) fun a S => ?_
  refine sLoad1 (p := b6) (off := 1) (T := 41) (vs := [iv p0.Start, .slice ad3 p0.Rows.length cp4]) 1 (.slice ad3 p0.Rows.length cp4) S (wN rfl) rfl rfl rfl rfl rfl rfl (lb rfl) fun a S => ?_
  obtain ⟨r16, hx17, h⟩ := bindSome h
  refine sCall (X := Option Addr × Nat) (f := 52) (vs := [.slice ad3 p0.Rows.length cp4]) (val := fun x => .slice x.1 r16.length x.2) (B' := fun x => [eRow r_api_Row 72 (.slice x.1 r16.length x.2) r16]) (D' := fun _ => []) [] [eBox b7 41 [iv 0, .slice none 0 0], eBox b6 41 [iv p0.Start, .slice ad3 p0.Rows.length cp4]] [fRep (rL r_api_Row) (.slice ad3 p0.Rows.length cp4) p0.Rows] [0, 1] [0] S (wN rfl) rfl callee52 rfl (by decide) rfl rfl (fun E1 w1 S1 => c_chart_twin_s0 E1 w1 p0.Rows (.slice ad3 p0.Rows.length cp4) r16 hx17 S1) rfl (lb rfl) fun xx a w S => ?_
  obtain ⟨ad18, cp19⟩ := xx
  dsimp only at S
  refine sField (b := b6) (off := 0) 1 1 S (wN rfl) rfl rfl rfl rfl rfl (lb rfl) fun a S => ?_
  refine sStore (p := b6) (off := 1) (T := 41) (vs := [iv p0.Start, .slice ad3 p0.Rows.length cp4]) (v := .slice ad18 r16.length cp19) 2 [.slice ad18 r16.length cp19] S (wN rfl) rfl rfl rfl rfl rfl rfl rfl (by simp) rfl fun a w S => ?_
  refine leafL (leafT (hK15 _ _ ?_))
  obtain ⟨t23, h, g24⟩ := bindSome h
  refine sCut (fun a w => ∃ o20, o20 = t23 ∧ ∃ ad21, ∃ cp22, St [] E [] w0 36 a w [(1, .pointer (some ⟨b6, 0, none⟩)), (2, .pointer (some ⟨b7, 0, none⟩))] [eBox b6 41 [iv p0.Start, .slice ad21 o20.length cp22], eBox b7 41 [iv 0, .slice none 0 0], eRow r_api_Row 72 (.slice ad21 o20.length cp22) o20] []) ?_ (fun a w hI => ?_)
  rotate_left
  · obtain ⟨o20, rfl, ad21, cp22, S⟩ := hI
    have h := g24
    clear g24
    try dsimp only at h
    refine sSeq (fun K69 hK69 => ?_)
    refine sRegion ?_
    refine sLoadN (p := b6) (off := 0) (T := 41) (vs := [iv p0.Start, .slice ad21 o20.length cp22]) 0 [iv p0.Start, .slice ad21 o20.length cp22] S (wN rfl) rfl rfl rfl rfl rfl rfl rfl (lb rfl) fun a S => ?_
    refine sStore (p := b7) (off := 0) (T := 41) (vs := [iv 0, .slice none 0 0]) (v := .agg #[iv p0.Start, .slice ad21 o20.length cp22]) 1 [iv p0.Start, .slice ad21 o20.length cp22] S (wN rfl) rfl rfl rfl rfl rfl rfl rfl (by simp) rfl fun a w S => ?_
    refine sMove (iv 0) S (wN rfl) (.inr rfl) rfl rfl (lb rfl) fun a S => ?_
    refine leafL (leafT (hK69 _ _ ?_))
    obtain rfl := Option.some.inj h
    have S := S.shutR (r := r_api_Row) (T := 72) (v := .slice ad21 o20.length cp22) (xs := o20) 2 rfl
    have S := S.learn (fRep r_api_Chart (.agg #[iv p0.Start, .slice ad21 o20.length cp22]) (api_Chart.mk p0.Start o20)) ⟨_, rfl, S.mem.know (i := 0) (e := fRep (rL r_api_Row) (.slice ad21 o20.length cp22) o20) rfl⟩
    exact wp_ret (sRet (.tuple #[.agg #[iv p0.Start, .slice ad21 o20.length cp22], iv 0]) S (rsl2 rfl (rvN (c := 2) (t := 41) (T := 41) (p := b7) 0 [iv p0.Start, .slice ad21 o20.length cp22] S rfl rfl rfl rfl) (rvT (t := 3) (v := iv 0) S rfl)) ⟨(.agg #[iv p0.Start, .slice ad21 o20.length cp22]), rfl, S.mem.sel [] [0] (by decide) rfl rfl⟩)
  refine sSeq (fun K25 hK25 => ?_)
  refine sRegion ?_
  refine sField (b := b6) (off := 0) 1 1 S (wN rfl) rfl rfl rfl rfl rfl (lb rfl) fun a S => ?_
  refine sLoad1 (p := b6) (off := 1) (T := 41) (vs := [iv p0.Start, .slice ad18 r16.length cp19]) 0 (.slice ad18 r16.length cp19) S (wN rfl) rfl rfl rfl rfl rfl rfl (lb rfl) fun a S => ?_
  refine sLen (ad := ad18) (m := r16.length) (c := cp19) S (wN rfl) rfl Try.underlying39 rfl rfl (lb rfl) fun a S => ?_
  refine sMove (iv 0) S (wN rfl) (.inl rfl) rfl rfl (lb rfl) fun a S => ?_
  refine leafL (leafT (hK25 _ _ ?_))
  refine wp_block ?_
  obtain ⟨t32, hl, g31⟩ := bindSome h
  refine sLoop hl (fun s0 a w => match s0 with | (s26, s27) => ∃ ad28, ∃ cp29, St [] E [] w0 36 a w [(1, .pointer (some ⟨b6, 0, none⟩)), (2, .pointer (some ⟨b7, 0, none⟩)), (18, iv (r16.length : Int)), (19, iv s26)] [eBox b6 41 [iv p0.Start, .slice ad28 s27.length cp29], eBox b7 41 [iv 0, .slice none 0 0], eRow r_api_Row 72 (.slice ad28 s27.length cp29) s27] []) ⟨ad18, cp19, S.fix [0, 2, 1] [] (by decide) rfl rfl rfl⟩ ?_
  clear hl h
  intro s0 a w c0 hI h hu30
  obtain ⟨s26, s27⟩ := s0
  unfold chart_Flip_l1 at h
  dsimp only at h hI
  obtain ⟨ad28, cp29, S⟩ := hI
  refine sSeq (fun K36 hK36 => ?_)
  refine sRegion ?_
  refine sBin (.bool (decide (s26 < (r16.length : Int)))) S (wN rfl) rfl rfl rfl (bLt _ _ _ _ .i64 s26 (r16.length : Int)) rfl (lb rfl) fun a S => ?_
  refine leafL (leafT (hK36 _ _ ?_))
  refine sSeq (fun K37 hK37 => ?_)
  rcases iteSome h with ⟨hc38, h⟩ | ⟨hc38, h⟩
  rotate_left
  · refine sCondF S rfl hc38 ?_
    obtain rfl := Option.some.inj h
    obtain rfl := hu30 _ rfl
    have h := g31
    clear g31
    try dsimp only at h
    exact wp_exit (xThen (xThen (xHit (leafT (⟨s27, Option.some.inj h, ad28, cp29, S.fix [0, 1, 2] [] (by decide) rfl rfl rfl⟩)))))
  refine sCondT S rfl hc38 ?_
  refine wp_skip (leafT (hK37 _ _ ?_))
  refine sSeq (fun K39 hK39 => ?_)
  refine wp_block ?_
  refine sSeq (fun K40 hK40 => ?_)
  refine sRegion ?_
  refine sMove (iv s26) S (wN rfl) (.inl rfl) rfl rfl (lb rfl) fun a S => ?_
  refine sMove (iv s26) S (wN rfl) (.inr rfl) rfl rfl (lb rfl) fun a S => ?_
  refine leafL (leafT (hK40 _ _ ?_))
  obtain ⟨x41, hx42, h⟩ := bindSome h
  obtain ⟨l55, hx56, h⟩ := bindSome h
  obtain ⟨q57, hq58, hp59⟩ := pIdxR (P := Try.prog) (r := r_api_Row) (T := 72) (v := .slice ad28 s27.length cp29) (xs := s27) (j := s26) 39 72 2 S Try.underlying39 rfl rfl hx42
  obtain ⟨q60, hq61, hp62⟩ := pFldR (P := Try.prog) 72 0 0 hp59 rfl
  obtain ⟨q63, hq64, hp65⟩ := pIdxR (P := Try.prog) (r := r_api_Row) (T := 72) (v := .slice ad28 s27.length cp29) (xs := s27) (j := s26) 39 72 2 S Try.underlying39 rfl rfl hx42
  obtain ⟨q66, hq67, hp68⟩ := pFldR (P := Try.prog) 72 0 0 hp65 rfl
  refine sDraw (nf := [12]) (W := [(0, 22, .pointer (some ⟨b6, 1, none⟩)), (1, 23, .slice ad28 s27.length cp29), (2, 24, iv s26), (3, 25, .pointer (some ⟨b6, 1, none⟩)), (4, 26, .slice ad28 s27.length cp29), (5, 27, iv s26), (6, 28, q57), (7, 29, q60), (8, 30, .bool x41.Back), (9, 31, .bool (!x41.Back)), (10, 32, q63), (11, 33, q66)]) rfl S ?_
  refine node_by (A := anc_chart_Flip_0) (nf := [12]) (Y := []) (W := [(0, 22, .pointer (some ⟨b6, 1, none⟩)), (1, 23, .slice ad28 s27.length cp29), (2, 24, iv s26), (3, 25, .pointer (some ⟨b6, 1, none⟩)), (4, 26, .slice ad28 s27.length cp29), (5, 27, iv s26), (6, 28, q57), (7, 29, q60), (8, 30, .bool x41.Back), (9, 31, .bool (!x41.Back)), (10, 32, q63), (11, 33, q66)]) 13 (by kernel_rfl) (by kernel_rfl) (by kernel_rfl) (by kernel_rfl) (by kernel_rfl) [0, 1, 2, 3, 4, 5, 6, 7, 8, 9, 10, 11] (by kernel_rfl) (by decide) (by decide) (aF 0 12 (by decide) ?_ (aF 1 11 (by decide) ?_ (aF 2 10 (by decide) ?_ (aF 3 9 (by decide) ?_ (aF 4 8 (by decide) ?_ (aF 5 7 (by decide) ?_ (aF 6 6 (by decide) ?_ (aF 7 5 (by decide) ?_ (aF 8 4 (by decide) ?_ (aF 9 3 (by decide) ?_ (aF 10 2 (by decide) ?_ (aF 11 1 (by decide) ?_ (aN 12 0 (by decide) ?_ (trivial)))))))))))))) [] (fun q hq => by cases hq) (fun hY => absurd (hY 12 (by decide)) (by decide))
  · refine fI 22 (.pointer (some ⟨b6, 1, none⟩)) [(1, .pointer (some ⟨b6, 0, none⟩))] 0 [none] rfl rfl rfl rfl rfl rfl fun G a w S => ?_
    refine sField (b := b6) (off := 0) 1 1 S (wN rfl) rfl rfl rfl rfl rfl (lb rfl) fun a S => ?_
    exact leafL ⟨rfl, S⟩
  · refine fI 23 (.slice ad28 s27.length cp29) [(22, .pointer (some ⟨b6, 1, none⟩))] 1 [some 0] rfl rfl rfl rfl rfl rfl fun G a w S => ?_
    refine sLoad1 (p := b6) (off := 1) (T := 41) (vs := [iv p0.Start, .slice ad28 s27.length cp29]) 0 (.slice ad28 s27.length cp29) S (wN rfl) rfl rfl rfl rfl rfl rfl (lb rfl) fun a S => ?_
    exact leafL ⟨rfl, S⟩
  · refine fI 24 (iv s26) [(5, iv s26)] 2 [none] rfl rfl rfl rfl rfl rfl fun G a w S => ?_
    refine sMove (iv s26) S (wN rfl) (.inl rfl) rfl rfl (lb rfl) fun a S => ?_
    exact leafL ⟨rfl, S⟩
  · refine fI 25 (.pointer (some ⟨b6, 1, none⟩)) [(1, .pointer (some ⟨b6, 0, none⟩))] 3 [none] rfl rfl rfl rfl rfl rfl fun G a w S => ?_
    refine sField (b := b6) (off := 0) 1 1 S (wN rfl) rfl rfl rfl rfl rfl (lb rfl) fun a S => ?_
    exact leafL ⟨rfl, S⟩
  · refine fI 26 (.slice ad28 s27.length cp29) [(25, .pointer (some ⟨b6, 1, none⟩))] 4 [some 3] rfl rfl rfl rfl rfl rfl fun G a w S => ?_
    refine sLoad1 (p := b6) (off := 1) (T := 41) (vs := [iv p0.Start, .slice ad28 s27.length cp29]) 0 (.slice ad28 s27.length cp29) S (wN rfl) rfl rfl rfl rfl rfl rfl (lb rfl) fun a S => ?_
    exact leafL ⟨rfl, S⟩
  · refine fI 27 (iv s26) [(5, iv s26)] 5 [none] rfl rfl rfl rfl rfl rfl fun G a w S => ?_
    refine sMove (iv s26) S (wN rfl) (.inl rfl) rfl rfl (lb rfl) fun a S => ?_
    exact leafL ⟨rfl, S⟩
  · refine fI 28 q57 [(26, .slice ad28 s27.length cp29), (27, iv s26)] 6 [some 4, some 5] rfl rfl rfl rfl rfl rfl fun G a w S => ?_
    refine sIdxV (v := .slice ad28 s27.length cp29) (k := .i64) (j := s26) S (wN rfl) rfl rfl rfl hq58 rfl (lb rfl) fun a S => ?_
    exact leafL ⟨rfl, S⟩
  · refine fI 29 q60 [(28, q57)] 7 [some 6] rfl rfl rfl rfl rfl rfl fun G a w S => ?_
    refine sFldV (q := q57) S (wN rfl) rfl rfl hq61 rfl (lb rfl) fun a S => ?_
    exact leafL ⟨rfl, S⟩
  · refine fI 30 (.bool x41.Back) [(29, q60)] 8 [some 7] rfl rfl rfl rfl rfl rfl fun G a w S => ?_
    refine sLoadF (r := r_api_Row) (s := rB) (g := (·.Back)) (T := 72) (xs := s27) (x := x41) (v := .slice ad28 s27.length cp29) (vq := q60) (j := s26) 2 0 (.bool x41.Back) S hp62 (wN rfl) rfl rfl rfl hx42 comp_api_Row_Back (fun _ _ _ h => h) scal_B rfl rfl (lb rfl) fun a S => ?_
    exact leafL ⟨rfl, S⟩
  · refine fI 31 (.bool (!x41.Back)) [(30, .bool x41.Back)] 9 [some 8] rfl rfl rfl rfl rfl rfl fun G a w S => ?_
    refine sNot (b := x41.Back) S (wN rfl) rfl rfl rfl (lb rfl) fun a S => ?_
    exact leafL ⟨rfl, S⟩
  · refine fI 32 q63 [(23, .slice ad28 s27.length cp29), (24, iv s26)] 10 [some 1, some 2] rfl rfl rfl rfl rfl rfl fun G a w S => ?_
    refine sIdxV (v := .slice ad28 s27.length cp29) (k := .i64) (j := s26) S (wN rfl) rfl rfl rfl hq64 rfl (lb rfl) fun a S => ?_
    exact leafL ⟨rfl, S⟩
  · refine fI 33 q66 [(32, q63)] 11 [some 10] rfl rfl rfl rfl rfl rfl fun G a w S => ?_
    refine sFldV (q := q63) S (wN rfl) rfl rfl hq67 rfl (lb rfl) fun a S => ?_
    exact leafL ⟨rfl, S⟩
  refine ⟨_, [(31, .bool (!x41.Back)), (33, q66)], rfl, (srcs_of [some 9, some 11] rfl rfl rfl), fun G a w S => ?_⟩
  refine sStoreF (r := r_api_Row) (s := rB) (T := 72) (xs := s27) (ys := l55) (x := x41) (y := (api_Row.mk (!x41.Back) x41.Cells)) (z := (!x41.Back)) (v := .slice ad28 s27.length cp29) (vq := q66) (u := .bool (!x41.Back)) (j := s26) 2 0 S hp68 (wN rfl) rfl rfl rfl rfl rfl hx42 (upd_api_Row_Back _ _) hx56 rfl rfl fun a w S => ?_
  refine leafL ⟨rfl, _, _, .inr ⟨[], rfl, S, hz_of rfl, ?_⟩⟩
  refine node_by (A := anc_chart_Flip_0) (nf := [12]) (Y := [12]) 13 (by kernel_rfl) (by kernel_rfl) (by kernel_rfl) (by kernel_rfl) (by kernel_rfl) [0, 1, 2, 3, 4, 5, 6, 7, 8, 9, 10, 11] (by kernel_rfl) (by decide) (by decide) (aD 0 12 12 (by decide) (aD 1 11 12 (by decide) (aD 2 10 12 (by decide) (aD 3 9 12 (by decide) (aD 4 8 12 (by decide) (aD 5 7 12 (by decide) (aD 6 6 12 (by decide) (aD 7 5 12 (by decide) (aD 8 4 12 (by decide) (aD 9 3 12 (by decide) (aD 10 2 12 (by decide) (aD 11 1 12 (by decide) (aY 12 0 (by decide) (trivial)))))))))))))) [(1, .pointer (some ⟨b6, 0, none⟩)), (2, .pointer (some ⟨b7, 0, none⟩)), (18, iv (r16.length : Int)), (19, iv s26)] (fin_of [none, none, none, none] rfl (by kernel_rfl) (by kernel_rfl)) (fun _ a w S => ?_)
  rw [setO_v hx56 ad28 cp29] at S
  refine leafB (leafT (hK39 _ _ ?_))
  refine sRegion ?_
  refine sBin (iv (w64 (s26 + 1))) S (wN rfl) rfl rfl rfl (bAdd _ _ _ _ s26 1) rfl (lb rfl) fun a S => ?_
  refine sMove (iv (w64 (s26 + 1))) S (wN rfl) (.inl rfl) rfl rfl (lb rfl) fun a S => ?_
  exact leafL (leafT (⟨(w64 (s26 + 1), l55), (Option.some.inj h).symm, ⟨ad28, cp29, S.fix [1, 2, 0] [] (by decide) rfl rfl rfl⟩⟩))

end Go.Proofs.Ytdbgkakmhlmpbaa
namespace Go.Proofs.Ytdbgkakmhlmpbaa
open Go.RowKit
set_option linter.unusedVariables false

def RB (rows : List api_Row) : Prop := rows.length ≤ 1000000 ∧ ∀ r, r ∈ rows → r.Cells.length ≤ 1000000
theorem twin_eq (rows : List api_Row) (h : RB rows) : F_chart_twin rows = some rows := by
  have hm : makeO (rows.length : Int) (api_Row.mk false ([] : List api_Stitch)) = some (List.replicate rows.length (api_Row.mk false [])) := makeO_of rfl (by have := h.1; omega)
  have hc : cpO (List.replicate rows.length (api_Row.mk false [])) rows = rows := cpO_eq (by simp)
  have hw : ∃ t, whileO (chart_twin_l1 rows) (rows, 0) = some t ∧ t = rows := by
    refine loop_st rows.length (fun _ s => s = rows) _ rfl ?_ ?_
    · rintro k s hk rfl
      have hb := h.2 _ (List.getElem_mem hk)
      have hl := h.1
      have m1 : makeO (s[k].Cells.length : Int) (api_Stitch.mk 0 false 0 0) = some (List.replicate s[k].Cells.length (api_Stitch.mk 0 false 0 0)) := makeO_of rfl (by omega)
      have c1 : cpO (List.replicate s[k].Cells.length (api_Stitch.mk 0 false 0 0)) s[k].Cells = s[k].Cells := cpO_eq (by simp)
      have e1 : s.set k (api_Row.mk s[k].Back s[k].Cells) = s := by
        show s.set k s[k] = s
        exact List.set_getElem_self hk
      refine .inl ⟨s, ?_, rfl⟩
      unfold chart_twin_l1
      simp only [dT (show (k : Int) < (s.length : Int) by omega), if_true, idxO_nat hk, Option.bind_some, m1, c1, setO_nat hk, e1, w64_succ (show k < 9223372036854775807 by omega)]
    · rintro s rfl
      refine ⟨s, ?_, rfl⟩
      unfold chart_twin_l1
      simp
  obtain ⟨t, t1, rfl⟩ := hw
  unfold F_chart_twin
  simp only [hm, Option.bind_some, hc, t1]
theorem twins_eq (rows : List api_Row) (h : RB rows) : F_chart_twin_s0 rows = some rows := (show F_chart_twin_s0 rows = F_chart_twin rows from rfl).trans (twin_eq rows h)
def flipR (r : api_Row) : api_Row := ⟨!r.Back, r.Cells⟩
def flipC (c : api_Chart) : api_Chart := ⟨c.Start, c.Rows.map flipR⟩
theorem flip_loop (rows : List api_Row) (hl : rows.length ≤ 1000000) : whileO (chart_Flip_l1 rows) (0, rows) = some (rows.map flipR) := by
  have hw : ∃ t, whileO (chart_Flip_l1 rows) (0, rows) = some t ∧ t = rows.map flipR := by
    refine loop_ts rows.length (fun k s => s = (rows.take k).map flipR ++ rows.drop k) _ (by simp) ?_ ?_
    · rintro k s hk rfl
      have hlen : ((rows.take k).map flipR).length = k := by simp; omega
      have hi : idxO ((rows.take k).map flipR ++ rows.drop k) (k : Int) = some rows[k] := by
        rw [idxO_nat (by simp; omega)]
        congr 1
        have e := List.getElem?_append_right (l₁ := (rows.take k).map flipR) (l₂ := rows.drop k) (i := k) (by omega)
        rw [hlen, Nat.sub_self, List.getElem?_drop, Nat.add_zero, List.getElem?_eq_getElem hk] at e
        exact (List.getElem?_eq_some_iff.1 e).2
      have hd : rows.drop k = rows[k] :: rows.drop (k + 1) := List.drop_eq_getElem_cons hk
      have hs : ((rows.take k).map flipR ++ rows.drop k).set k (api_Row.mk (!rows[k].Back) rows[k].Cells) = (rows.take (k + 1)).map flipR ++ rows.drop (k + 1) := by
        rw [List.set_append_right _ _ (by omega), hlen, Nat.sub_self, hd, List.set_cons_zero, List.take_succ_eq_append_getElem hk, List.map_append, List.append_assoc]
        rfl
      refine .inl ⟨_, ?_, rfl⟩
      unfold chart_Flip_l1
      simp only [dT (show (k : Int) < (rows.length : Int) by omega), if_true, hi, Option.bind_some]
      rw [setO_nat (by simp; omega), hs]
      simp only [Option.bind_some, w64_succ (show k < 9223372036854775807 by omega)]
    · rintro s rfl
      refine ⟨_, ?_, rfl⟩
      unfold chart_Flip_l1
      simp
  obtain ⟨t, t1, rfl⟩ := hw
  exact t1
theorem chk_RB {c : api_Chart} (h : chk c = 0) : RB c.Rows := by
  obtain ⟨h1, _, _, h4⟩ := chk_ok h
  exact ⟨by omega, fun r hr => by have := (allS_ok (chkR_mem h4 r hr)).1; omega⟩
theorem flip_eq (c : api_Chart) (hw : wfR c.Rows) (h : chk c = 0) : F_chart_Flip c = some (flipC c, 0) := by
  have hb := chk_RB h
  unfold F_chart_Flip
  simp only [chart_check_eq c hw, h, Option.bind_some, bne_self_eq_false, Bool.false_eq_true, if_false, twins_eq c.Rows hb, flip_loop c.Rows hb.1]
  rfl
theorem chkR_flip : ∀ (n : Int) (rs : List api_Row), chkR n (rs.map flipR) = chkR n rs
  | _, [] => rfl
  | n, r :: rs => by
    have h1 : (flipR r).Cells = r.Cells := rfl
    simp only [List.map_cons, chkR, h1, chkR_flip (sm madeS r.Cells) rs]
theorem chk_flip (c : api_Chart) : chk (flipC c) = chk c := by
  unfold chk flipC
  simp only [List.length_map, chkR_flip]
theorem wfR_flip {rows : List api_Row} (h : wfR rows) : wfR (rows.map flipR) := by
  intro r hr
  obtain ⟨q, hq, rfl⟩ := List.mem_map.1 hr
  exact h q hq
end Go.Proofs.Ytdbgkakmhlmpbaa
namespace Go.Proofs.Ytdbgkakmhlmpbaa
open Go.RowKit
set_option linter.unusedVariables false

noncomputable def raddleref45_Count_l1 (p0 : api_Chart) (s31 : Int) : (Int × Int × Int × Int × Int × Int × Int × Int × Int × Int × Int × Int) → Option ((Int × Int × Int × Int × Int × Int × Int × Int × Int × Int × Int × Int) ⊕ (Int × Int × Int × Int × Int × Int × Int × Int × Int × Int × Int)) := fun s0 => match s0 with
  | (s74, s75, s76, s77, s78, s79, s80, s81, s82, s83, s84, s85) =>
    Option.bind (idxO p0.Rows s31) fun x102 =>
    if decide (s74 < (x102.Cells.length : Int)) then
      Option.bind (idxO x102.Cells s74) fun x120 =>
      Option.bind (idxO ([s75, s76, s77, s78, s79, s80, s81, s82, s83, s84, s85] : List Int) x120.Kind) fun x127 =>
      some (.inl (w64 (s74 + 1), (if x120.Kind = 0 then w64 (x127 + 1) else s75), (if x120.Kind = 1 then w64 (x127 + 1) else s76), (if x120.Kind = 2 then w64 (x127 + 1) else s77), (if x120.Kind = 3 then w64 (x127 + 1) else s78), (if x120.Kind = 4 then w64 (x127 + 1) else s79), (if x120.Kind = 5 then w64 (x127 + 1) else s80), (if x120.Kind = 6 then w64 (x127 + 1) else s81), (if x120.Kind = 7 then w64 (x127 + 1) else s82), (if x120.Kind = 8 then w64 (x127 + 1) else s83), (if x120.Kind = 9 then w64 (x127 + 1) else s84), (if x120.Kind = 10 then w64 (x127 + 1) else s85)))
    else
      some (.inr (s75, s76, s77, s78, s79, s80, s81, s82, s83, s84, s85))
noncomputable def raddleref45_Count_l2 (p0 : api_Chart) : (Int × Int × Int × Int × Int × Int × Int × Int × Int × Int × Int × Int) → Option ((Int × Int × Int × Int × Int × Int × Int × Int × Int × Int × Int × Int) ⊕ (Int × Int × Int × Int × Int × Int × Int × Int × Int × Int × Int)) := fun s0 => match s0 with
  | (s31, s32, s33, s34, s35, s36, s37, s38, s39, s40, s41, s42) =>
    if decide (s31 < (p0.Rows.length : Int)) then
      Option.bind (α := (Int × Int × Int × Int × Int × Int × Int × Int × Int × Int × Int)) (
        Option.bind (whileO (raddleref45_Count_l1 p0 s31) (0, s32, s33, s34, s35, s36, s37, s38, s39, s40, s41, s42)) fun (e89, e90, e91, e92, e93, e94, e95, e96, e97, e98, e99) =>
          some (e89, e90, e91, e92, e93, e94, e95, e96, e97, e98, e99)) fun (o60, o61, o62, o63, o64, o65, o66, o67, o68, o69, o70) =>
      some (.inl (w64 (s31 + 1), o60, o61, o62, o63, o64, o65, o66, o67, o68, o69, o70))
    else
      some (.inr (s32, s33, s34, s35, s36, s37, s38, s39, s40, s41, s42))
end Go.Proofs.Ytdbgkakmhlmpbaa
namespace Go.Proofs.Ytdbgkakmhlmpbaa
open Go.RowKit
set_option linter.unusedVariables false

noncomputable def F_raddleref45_in (p0 : Int) : Option Bool :=
  Option.bind (α := Bool) (
    if decide (0 ≤ p0) then
      some (decide (p0 ≤ 1000000))
    else
      some false) fun o2 =>
  some o2
set_option maxHeartbeats 4000000 in
set_option maxRecDepth 100000 in
theorem c_raddleref45_in (E : Nat → Prop) (w0 : World) (p0 : Int) (r : Bool) (h : F_raddleref45_in p0 = some r) (S : St0 E [] w0 w0 [] []) :
    Calls Try.prog 43 #[iv p0] w0 (Ret (X := Unit) E [] w0 (fun _ => .bool r) (fun _ => []) (fun _ => [])) := by
  unfold F_raddleref45_in at h
  refine sEnter (args := [iv p0]) 9 Try.func43 rfl rfl (by simp) S (fun a S => ?_)
  refine sSeq (fun K1 hK1 => ?_)
  refine sRegion ?_
  refine sMove (.bool false) S (wN rfl) (.inr rfl) rfl rfl (lb rfl) fun a S => ?_
  refine leafL (leafT (hK1 _ _ ?_))
  obtain ⟨t3, h, g4⟩ := bindSome h
  refine sCut (fun a w => ∃ o2, o2 = t3 ∧ St [] E [] w0 9 a w [(2, .bool o2)] [] []) ?_ (fun a w hI => ?_)
  rotate_left
  · obtain ⟨o2, rfl, S⟩ := hI
    have h := g4
    clear g4
    try dsimp only at h
    obtain rfl := Option.some.inj h
    exact wp_ret (sRet (.bool o2) S (rsl1 rfl (rvT (t := 2) (v := .bool o2) S rfl)) ⟨(), rfl, S.mem.sel [] [] (by decide) rfl rfl⟩)
  refine sRegion ?_
  refine sMove (iv p0) S (wN rfl) (.inl rfl) rfl rfl (lb rfl) fun a S => ?_
  refine sBin (.bool (decide (0 ≤ p0))) S (wN rfl) rfl rfl rfl (bGe _ _ _ _ .i64 p0 0) rfl (lb rfl) fun a S => ?_
  refine sMove (.bool (decide (0 ≤ p0))) S (wN rfl) (.inl rfl) rfl rfl (lb rfl) fun a S => ?_
  rcases iteSome h with ⟨hc5, h⟩ | ⟨hc5, h⟩
  rotate_left
  · refine sSkip 2 true 5 6 S rfl rfl rfl hc5 rfl (lb rfl) fun a S => ?_
    refine sSkip 2 true 5 7 S rfl rfl rfl hc5 rfl (lb rfl) fun a S => ?_
    refine sPickF (.bool false) S (wN rfl) rfl rfl hc5 rfl rfl (lb rfl) fun a S => ?_
    refine sMove (.bool false) S (wN rfl) (.inr rfl) rfl rfl (lb rfl) fun a S => ?_
    exact leafL (leafT (⟨false, Option.some.inj h, S.fix [] [] (by decide) rfl rfl rfl⟩))
  refine sMove (iv p0) S (wG 2 true 5 rfl rfl rfl hc5) (.inl rfl) rfl rfl (lb rfl) fun a S => ?_
  refine sBin (.bool (decide (p0 ≤ 1000000))) S (wG 2 true 5 rfl rfl rfl hc5) rfl rfl rfl (bLe _ _ _ _ .i64 p0 1000000) rfl (lb rfl) fun a S => ?_
  refine sPickT (.bool (decide (p0 ≤ 1000000))) S (wN rfl) rfl rfl hc5 rfl rfl (lb rfl) fun a S => ?_
  refine sMove (.bool (decide (p0 ≤ 1000000))) S (wN rfl) (.inr rfl) rfl rfl (lb rfl) fun a S => ?_
  exact leafL (leafT (⟨decide (p0 ≤ 1000000), Option.some.inj h, S.fix [] [] (by decide) rfl rfl rfl⟩))

end Go.Proofs.Ytdbgkakmhlmpbaa
namespace Go.Proofs.Ytdbgkakmhlmpbaa
open Go.RowKit
set_option linter.unusedVariables false

noncomputable def raddleref45_Check_l1 (p0 : api_Rates) : Int → Option (Int ⊕ (Int ⊕ Unit)) := fun s0 => match s0 with
  | s6 =>
    if decide (s6 < 11) then
      Option.bind (α := Bool) (
        Option.bind (idxO ([p0.Length.1, p0.Length.2.1, p0.Length.2.2.1, p0.Length.2.2.2.1, p0.Length.2.2.2.2.1, p0.Length.2.2.2.2.2.1, p0.Length.2.2.2.2.2.2.1, p0.Length.2.2.2.2.2.2.2.1, p0.Length.2.2.2.2.2.2.2.2.1, p0.Length.2.2.2.2.2.2.2.2.2.1, p0.Length.2.2.2.2.2.2.2.2.2.2] : List Int) s6) fun x17 =>
        Option.bind (F_raddleref45_in x17) fun r19 =>
        if !r19 then
          some true
        else
          Option.bind (idxO ([p0.Time.1, p0.Time.2.1, p0.Time.2.2.1, p0.Time.2.2.2.1, p0.Time.2.2.2.2.1, p0.Time.2.2.2.2.2.1, p0.Time.2.2.2.2.2.2.1, p0.Time.2.2.2.2.2.2.2.1, p0.Time.2.2.2.2.2.2.2.2.1, p0.Time.2.2.2.2.2.2.2.2.2.1, p0.Time.2.2.2.2.2.2.2.2.2.2] : List Int) s6) fun x22 =>
          Option.bind (F_raddleref45_in x22) fun r24 =>
          some (!r24)) fun o14 =>
      if o14 then
        some (.inr (.inl 8))
      else
        some (.inl (w64 (s6 + 1)))
    else
      some (.inr (.inr ()))
noncomputable def F_raddleref45_Check (p0 : api_Rates) : Option Int :=
  Option.bind (α := Unit ⊕ Int) (
    Option.bind (whileO (raddleref45_Check_l1 p0) 0) fun z0 => match z0 with
      | .inl z =>
        some (.inr z)
      | .inr _ =>
        some (.inl ())) fun z0 => match z0 with
    | .inl _ =>
      Option.bind (α := Bool) (
        Option.bind (F_raddleref45_in p0.Turn) fun r32 =>
        if !r32 then
          some true
        else
          if p0.Length.1 != 0 then
            some true
          else
            some (p0.Time.1 != 0)) fun o29 =>
      if o29 then
        some 8
      else
        some 0
    | .inr z =>
      some z
set_option maxHeartbeats 4000000 in
set_option maxRecDepth 100000 in
theorem c_raddleref45_Check (E : Nat → Prop) (w0 : World) (p0 : api_Rates) (v0 : Value) (r : Int) (h : F_raddleref45_Check p0 = some r) (S : St0 E [] w0 w0 [] [fRep r_api_Rates (v0) p0]) :
    Calls Try.prog 23 #[v0] w0 (Ret (X := Unit) E [] w0 (fun _ => .int .i64 r) (fun _ => []) (fun _ => [])) := by
  unfold F_raddleref45_Check at h
  obtain rfl : v0 = gv_api_Rates p0 := S.know (i := 0) (e := fRep r_api_Rates (v0) p0) rfl
  refine sEnter (args := [gv_api_Rates p0]) 38 Try.func23 rfl rfl (by simp) S (fun a S => ?_)
  refine sSeq (fun K1 hK1 => ?_)
  refine sRegion ?_
  refine sBox (v := gv_api_Rates p0) S (wN rfl) rfl rfl (gl_api_Rates p0) rfl rfl (lb rfl) fun a b2 w S => ?_
  refine sMove (iv 0) S (wN rfl) (.inr rfl) rfl rfl (lb rfl) fun a S => ?_
  refine leafL (leafT (hK1 _ _ ?_))
  obtain ⟨t3, h, g4⟩ := bindSome h
  refine sCut (fun a w => .inl () = t3 ∧ St [] E [] w0 38 a w [(1, .pointer (some ⟨b2, 0, none⟩))] [eBox b2 44 (gl_api_Rates p0)] []) ?_ (fun a w hI => ?_)
  rotate_left
  · obtain ⟨rfl, S⟩ := hI
    have h := g4
    clear g4
    try dsimp only at h
    refine sSeq (fun K28 hK28 => ?_)
    obtain ⟨t30, h, g31⟩ := bindSome h
    refine sCut (fun a w => ∃ o29, o29 = t30 ∧ St [] E [] w0 38 a w [(37, .bool o29)] [] []) ?_ (fun a w hI => ?_)
    rotate_left
    · obtain ⟨o29, rfl, S⟩ := hI
      have h := g31
      clear g31
      try dsimp only at h
      rcases iteSome h with ⟨hc36, h⟩ | ⟨hc36, h⟩
      · refine sCondT S rfl hc36 ?_
        refine sSeq (fun K37 hK37 => ?_)
        refine sRegion ?_
        refine sMove (iv 8) S (wN rfl) (.inr rfl) rfl rfl (lb rfl) fun a S => ?_
        refine leafL (leafT (hK37 _ _ ?_))
        obtain rfl := Option.some.inj h
        exact wp_ret (rThen (sRet (iv 8) S (rsl1 rfl (rvT (t := 2) (v := iv 8) S rfl)) ⟨(), rfl, S.mem.sel [] [] (by decide) rfl rfl⟩))
      refine sCondF S rfl hc36 ?_
      refine wp_skip (leafT (hK28 _ _ ?_))
      refine sSeq (fun K38 hK38 => ?_)
      refine sRegion ?_
      refine sMove (iv 0) S (wN rfl) (.inr rfl) rfl rfl (lb rfl) fun a S => ?_
      refine leafL (leafT (hK38 _ _ ?_))
      obtain rfl := Option.some.inj h
      exact wp_ret (sRet (iv 0) S (rsl1 rfl (rvT (t := 2) (v := iv 0) S rfl)) ⟨(), rfl, S.mem.sel [] [] (by decide) rfl rfl⟩)
    refine sRegion ?_
    refine sField (b := b2) (off := 0) 22 22 S (wN rfl) rfl rfl rfl rfl rfl (lb rfl) fun a S => ?_
    refine sLoad1 (p := b2) (off := 22) (T := 44) (vs := (gl_api_Rates p0)) 0 (iv p0.Turn) S (wN rfl) rfl rfl rfl rfl rfl rfl (lb rfl) fun a S => ?_
    obtain ⟨r32, hx33, h⟩ := bindSome h
    have S1 := S.mem
    refine sCallQ (X := Unit) (f := 43) (vs := [iv p0.Turn]) (val := fun _ => .bool r32) S (wN rfl) rfl callee43 rfl (S1.quiet [] rfl) (fun E1 w1 S1 => c_raddleref45_in E1 w1 p0.Turn r32 hx33 S1) rfl (lb rfl) fun _ a w S => ?_
    refine sNot (b := r32) S (wN rfl) rfl rfl rfl (lb rfl) fun a S => ?_
    refine sMove (.bool (!r32)) S (wN rfl) (.inl rfl) rfl rfl (lb rfl) fun a S => ?_
    rcases iteSome h with ⟨hc34, h⟩ | ⟨hc34, h⟩
    · refine sSkip 4 false 26 27 S rfl rfl rfl hc34 rfl (lb rfl) fun a S => ?_
      refine sSkip 4 false 26 28 S rfl rfl rfl hc34 rfl (lb rfl) fun a S => ?_
      refine sSkip 4 false 26 29 S rfl rfl rfl hc34 rfl (lb rfl) fun a S => ?_
      refine sSkip 4 false 26 30 S rfl rfl rfl hc34 rfl (lb rfl) fun a S => ?_
      refine sPickT (.bool true) S (wN rfl) rfl rfl hc34 rfl rfl (lb rfl) fun a S => ?_
      refine sMove (.bool true) S (wN rfl) (.inl rfl) rfl rfl (lb rfl) fun a S => ?_
      refine sSkip 10 false 32 33 S rfl rfl rfl rfl rfl (lb rfl) fun a S => ?_
      refine sSkip 10 false 32 34 S rfl rfl rfl rfl rfl (lb rfl) fun a S => ?_
      refine sSkip 10 false 32 35 S rfl rfl rfl rfl rfl (lb rfl) fun a S => ?_
      refine sSkip 10 false 32 36 S rfl rfl rfl rfl rfl (lb rfl) fun a S => ?_
      refine sPickT (.bool true) S (wN rfl) rfl rfl rfl rfl rfl (lb rfl) fun a S => ?_
      exact leafL (leafT (⟨true, Option.some.inj h, S.fix [] [] (by decide) rfl rfl rfl⟩))
    refine sField (b := b2) (off := 0) 0 0 S (wG 4 false 26 rfl rfl rfl hc34) rfl rfl rfl rfl rfl (lb rfl) fun a S => ?_
    refine sIdxV (v := .pointer (some ⟨b2, 0, none⟩)) (k := .i64) (j := 0) (q := .pointer (some ⟨b2, 0, none⟩)) S (wG 4 false 26 rfl rfl rfl hc34) rfl rfl rfl (idxV_arr (m := 11) (sz := 1) Try.underlying42 rfl (by decide) (by decide) 0) rfl (lb rfl) fun a S => ?_
    refine sLoad1 (p := b2) (off := 0) (T := 44) (vs := (gl_api_Rates p0)) 0 (iv p0.Length.1) S (wG 4 false 26 rfl rfl rfl hc34) rfl rfl rfl rfl rfl rfl (lb rfl) fun a S => ?_
    refine sBin (.bool (p0.Length.1 != 0)) S (wG 4 false 26 rfl rfl rfl hc34) rfl rfl rfl (bNe _ _ _ _ .i64 p0.Length.1 0) rfl (lb rfl) fun a S => ?_
    refine sPickF (.bool (p0.Length.1 != 0)) S (wN rfl) rfl rfl hc34 rfl rfl (lb rfl) fun a S => ?_
    refine sMove (.bool (p0.Length.1 != 0)) S (wN rfl) (.inl rfl) rfl rfl (lb rfl) fun a S => ?_
    rcases iteSome h with ⟨hc35, h⟩ | ⟨hc35, h⟩
    · refine sSkip 10 false 32 33 S rfl rfl rfl hc35 rfl (lb rfl) fun a S => ?_
      refine sSkip 10 false 32 34 S rfl rfl rfl hc35 rfl (lb rfl) fun a S => ?_
      refine sSkip 10 false 32 35 S rfl rfl rfl hc35 rfl (lb rfl) fun a S => ?_
      refine sSkip 10 false 32 36 S rfl rfl rfl hc35 rfl (lb rfl) fun a S => ?_
      refine sPickT (.bool true) S (wN rfl) rfl rfl hc35 rfl rfl (lb rfl) fun a S => ?_
      exact leafL (leafT (⟨true, Option.some.inj h, S.fix [] [] (by decide) rfl rfl rfl⟩))
    refine sField (b := b2) (off := 0) 11 11 S (wG 10 false 32 rfl rfl rfl hc35) rfl rfl rfl rfl rfl (lb rfl) fun a S => ?_
    refine sIdxV (v := .pointer (some ⟨b2, 11, none⟩)) (k := .i64) (j := 0) (q := .pointer (some ⟨b2, 11, none⟩)) S (wG 10 false 32 rfl rfl rfl hc35) rfl rfl rfl (idxV_arr (m := 11) (sz := 1) Try.underlying42 rfl (by decide) (by decide) 11) rfl (lb rfl) fun a S => ?_
    refine sLoad1 (p := b2) (off := 11) (T := 44) (vs := (gl_api_Rates p0)) 0 (iv p0.Time.1) S (wG 10 false 32 rfl rfl rfl hc35) rfl rfl rfl rfl rfl rfl (lb rfl) fun a S => ?_
    refine sBin (.bool (p0.Time.1 != 0)) S (wG 10 false 32 rfl rfl rfl hc35) rfl rfl rfl (bNe _ _ _ _ .i64 p0.Time.1 0) rfl (lb rfl) fun a S => ?_
    refine sPickF (.bool (p0.Time.1 != 0)) S (wN rfl) rfl rfl hc35 rfl rfl (lb rfl) fun a S => ?_
    exact leafL (leafT (⟨p0.Time.1 != 0, Option.some.inj h, S.fix [] [] (by decide) rfl rfl rfl⟩))
  refine sSeq (fun K5 hK5 => ?_)
  refine sRegion ?_
  refine sMove (iv 0) S (wN rfl) (.inr rfl) rfl rfl (lb rfl) fun a S => ?_
  refine leafL (leafT (hK5 _ _ ?_))
  refine wp_block ?_
  obtain ⟨t9, hl, g8⟩ := bindSome h
  refine sLoop hl (fun s0 a w => match s0 with | s6 => St [] E [] w0 38 a w [(1, .pointer (some ⟨b2, 0, none⟩)), (3, iv s6)] [eBox b2 44 (gl_api_Rates p0)] []) (S.fix [0] [] (by decide) rfl rfl rfl) ?_
  clear hl h
  intro s6 a w c0 hI h hu7
  unfold raddleref45_Check_l1 at h
  dsimp only at h hI
  have S := hI
  refine sSeq (fun K10 hK10 => ?_)
  refine sSeq (fun K11 hK11 => ?_)
  refine sRegion ?_
  refine sMove (iv s6) S (wN rfl) (.inl rfl) rfl rfl (lb rfl) fun a S => ?_
  refine sBin (.bool (decide (s6 < 11))) S (wN rfl) rfl rfl rfl (bLt _ _ _ _ .i64 s6 11) rfl (lb rfl) fun a S => ?_
  refine leafL (leafT (hK11 _ _ ?_))
  rcases iteSome h with ⟨hc12, h⟩ | ⟨hc12, h⟩
  rotate_left
  · refine sCondF S rfl hc12 ?_
    obtain rfl := Option.some.inj h
    obtain rfl := hu7 _ rfl
    have h := g8
    clear g8
    try dsimp only at h
    exact wp_exit (xThen (xThen (xHit (leafT (⟨Option.some.inj h, S.fix [0] [] (by decide) rfl rfl rfl⟩)))))
  refine sCondT S rfl hc12 ?_
  refine wp_skip (leafT (hK10 _ _ ?_))
  refine sSeq (fun K13 hK13 => ?_)
  refine wp_block ?_
  obtain ⟨t15, h, g16⟩ := bindSome h
  refine sCut (fun a w => ∃ o14, o14 = t15 ∧ St [] E [] w0 38 a w [(1, .pointer (some ⟨b2, 0, none⟩)), (3, iv s6), (21, .bool o14)] [eBox b2 44 (gl_api_Rates p0)] []) ?_ (fun a w hI => ?_)
  rotate_left
  · obtain ⟨o14, rfl, S⟩ := hI
    have h := g16
    clear g16
    try dsimp only at h
    rcases iteSome h with ⟨hc26, h⟩ | ⟨hc26, h⟩
    rotate_left
    · refine sCondF S rfl hc26 ?_
      refine wp_skip (leafB (leafT (hK13 _ _ ?_)))
      refine sRegion ?_
      refine sMove (iv s6) S (wN rfl) (.inl rfl) rfl rfl (lb rfl) fun a S => ?_
      refine sBin (iv (w64 (s6 + 1))) S (wN rfl) rfl rfl rfl (bAdd _ _ _ _ s6 1) rfl (lb rfl) fun a S => ?_
      refine sMove (iv (w64 (s6 + 1))) S (wN rfl) (.inr rfl) rfl rfl (lb rfl) fun a S => ?_
      exact leafL (leafT (⟨w64 (s6 + 1), (Option.some.inj h).symm, (S.fix [0] [] (by decide) rfl rfl rfl)⟩))
    refine sCondT S rfl hc26 ?_
    refine sSeq (fun K27 hK27 => ?_)
    refine sRegion ?_
    refine sMove (iv 8) S (wN rfl) (.inr rfl) rfl rfl (lb rfl) fun a S => ?_
    refine leafL (leafT (hK27 _ _ ?_))
    obtain rfl := Option.some.inj h
    obtain rfl := hu7 _ rfl
    have h := g8
    clear g8
    try dsimp only at h
    obtain rfl := Option.some.inj h
    have h := g4
    clear g4
    try dsimp only at h
    obtain rfl := Option.some.inj h
    exact wp_ret (rBlock (rThen (rThen (rBlock (rThen (sRet (iv 8) S (rsl1 rfl (rvT (t := 2) (v := iv 8) S rfl)) ⟨(), rfl, S.mem.sel [] [] (by decide) rfl rfl⟩))))))
  refine sRegion ?_
  refine sMove (iv s6) S (wN rfl) (.inl rfl) rfl rfl (lb rfl) fun a S => ?_
  refine sField (b := b2) (off := 0) 0 0 S (wN rfl) rfl rfl rfl rfl rfl (lb rfl) fun a S => ?_
  obtain ⟨x17, hx18, h⟩ := bindSome h
  refine sIdxV (v := .pointer (some ⟨b2, 0, none⟩)) (k := .i64) (j := s6) (q := .pointer (some ⟨b2, 0 + (s6).toNat * 1, none⟩)) S (wN rfl) rfl rfl rfl (idxV_arr (m := 11) (sz := 1) Try.underlying42 rfl (idxO_rng (m := 11) hx18 rfl).1 (idxO_rng (m := 11) hx18 rfl).2 0) rfl (lb rfl) fun a S => ?_
  refine sLoad1 (p := b2) (off := 0 + (s6).toNat * 1) (T := 44) (vs := [iv p0.Length.1, iv p0.Length.2.1, iv p0.Length.2.2.1, iv p0.Length.2.2.2.1, iv p0.Length.2.2.2.2.1, iv p0.Length.2.2.2.2.2.1, iv p0.Length.2.2.2.2.2.2.1, iv p0.Length.2.2.2.2.2.2.2.1, iv p0.Length.2.2.2.2.2.2.2.2.1, iv p0.Length.2.2.2.2.2.2.2.2.2.1, iv p0.Length.2.2.2.2.2.2.2.2.2.2, iv p0.Time.1, iv p0.Time.2.1, iv p0.Time.2.2.1, iv p0.Time.2.2.2.1, iv p0.Time.2.2.2.2.1, iv p0.Time.2.2.2.2.2.1, iv p0.Time.2.2.2.2.2.2.1, iv p0.Time.2.2.2.2.2.2.2.1, iv p0.Time.2.2.2.2.2.2.2.2.1, iv p0.Time.2.2.2.2.2.2.2.2.2.1, iv p0.Time.2.2.2.2.2.2.2.2.2.2, iv p0.Turn]) 0 (iv x17) S (wN rfl) rfl rfl rfl rfl (box_at (g := (fun z => .int .i64 z)) [] [iv p0.Time.1, iv p0.Time.2.1, iv p0.Time.2.2.1, iv p0.Time.2.2.2.1, iv p0.Time.2.2.2.2.1, iv p0.Time.2.2.2.2.2.1, iv p0.Time.2.2.2.2.2.2.1, iv p0.Time.2.2.2.2.2.2.2.1, iv p0.Time.2.2.2.2.2.2.2.2.1, iv p0.Time.2.2.2.2.2.2.2.2.2.1, iv p0.Time.2.2.2.2.2.2.2.2.2.2, iv p0.Turn] 0 hx18 rfl rfl) rfl (lb rfl) fun a S => ?_
  obtain ⟨r19, hx20, h⟩ := bindSome h
  have S1 := S.mem
  refine sCallQ (X := Unit) (f := 43) (vs := [iv x17]) (val := fun _ => .bool r19) S (wN rfl) rfl callee43 rfl (S1.quiet [] rfl) (fun E1 w1 S1 => c_raddleref45_in E1 w1 x17 r19 hx20 S1) rfl (lb rfl) fun _ a w S => ?_
  refine sNot (b := r19) S (wN rfl) rfl rfl rfl (lb rfl) fun a S => ?_
  refine sMove (.bool (!r19)) S (wN rfl) (.inl rfl) rfl rfl (lb rfl) fun a S => ?_
  rcases iteSome h with ⟨hc21, h⟩ | ⟨hc21, h⟩
  · refine sSkip 6 false 14 15 S rfl rfl rfl hc21 rfl (lb rfl) fun a S => ?_
    refine sSkip 6 false 14 16 S rfl rfl rfl hc21 rfl (lb rfl) fun a S => ?_
    refine sSkip 6 false 14 17 S rfl rfl rfl hc21 rfl (lb rfl) fun a S => ?_
    refine sSkip 6 false 14 18 S rfl rfl rfl hc21 rfl (lb rfl) fun a S => ?_
    refine sSkip 6 false 14 19 S rfl rfl rfl hc21 rfl (lb rfl) fun a S => ?_
    refine sSkip 6 false 14 20 S rfl rfl rfl hc21 rfl (lb rfl) fun a S => ?_
    refine sPickT (.bool true) S (wN rfl) rfl rfl hc21 rfl rfl (lb rfl) fun a S => ?_
    exact leafL (leafT (⟨true, Option.some.inj h, S.fix [0] [] (by decide) rfl rfl rfl⟩))
  refine sMove (iv s6) S (wG 6 false 14 rfl rfl rfl hc21) (.inl rfl) rfl rfl (lb rfl) fun a S => ?_
  refine sField (b := b2) (off := 0) 11 11 S (wG 6 false 14 rfl rfl rfl hc21) rfl rfl rfl rfl rfl (lb rfl) fun a S => ?_
  obtain ⟨x22, hx23, h⟩ := bindSome h
  refine sIdxV (v := .pointer (some ⟨b2, 11, none⟩)) (k := .i64) (j := s6) (q := .pointer (some ⟨b2, 11 + (s6).toNat * 1, none⟩)) S (wG 6 false 14 rfl rfl rfl hc21) rfl rfl rfl (idxV_arr (m := 11) (sz := 1) Try.underlying42 rfl (idxO_rng (m := 11) hx23 rfl).1 (idxO_rng (m := 11) hx23 rfl).2 11) rfl (lb rfl) fun a S => ?_
  refine sLoad1 (p := b2) (off := 11 + (s6).toNat * 1) (T := 44) (vs := [iv p0.Length.1, iv p0.Length.2.1, iv p0.Length.2.2.1, iv p0.Length.2.2.2.1, iv p0.Length.2.2.2.2.1, iv p0.Length.2.2.2.2.2.1, iv p0.Length.2.2.2.2.2.2.1, iv p0.Length.2.2.2.2.2.2.2.1, iv p0.Length.2.2.2.2.2.2.2.2.1, iv p0.Length.2.2.2.2.2.2.2.2.2.1, iv p0.Length.2.2.2.2.2.2.2.2.2.2, iv p0.Time.1, iv p0.Time.2.1, iv p0.Time.2.2.1, iv p0.Time.2.2.2.1, iv p0.Time.2.2.2.2.1, iv p0.Time.2.2.2.2.2.1, iv p0.Time.2.2.2.2.2.2.1, iv p0.Time.2.2.2.2.2.2.2.1, iv p0.Time.2.2.2.2.2.2.2.2.1, iv p0.Time.2.2.2.2.2.2.2.2.2.1, iv p0.Time.2.2.2.2.2.2.2.2.2.2, iv p0.Turn]) 0 (iv x22) S (wG 6 false 14 rfl rfl rfl hc21) rfl rfl rfl rfl (box_at (g := (fun z => .int .i64 z)) [iv p0.Length.1, iv p0.Length.2.1, iv p0.Length.2.2.1, iv p0.Length.2.2.2.1, iv p0.Length.2.2.2.2.1, iv p0.Length.2.2.2.2.2.1, iv p0.Length.2.2.2.2.2.2.1, iv p0.Length.2.2.2.2.2.2.2.1, iv p0.Length.2.2.2.2.2.2.2.2.1, iv p0.Length.2.2.2.2.2.2.2.2.2.1, iv p0.Length.2.2.2.2.2.2.2.2.2.2] [iv p0.Turn] 11 hx23 rfl rfl) rfl (lb rfl) fun a S => ?_
  obtain ⟨r24, hx25, h⟩ := bindSome h
  have S1 := S.mem
  refine sCallQ (X := Unit) (f := 43) (vs := [iv x22]) (val := fun _ => .bool r24) S (wG 6 false 14 rfl rfl rfl hc21) rfl callee43 rfl (S1.quiet [] rfl) (fun E1 w1 S1 => c_raddleref45_in E1 w1 x22 r24 hx25 S1) rfl (lb rfl) fun _ a w S => ?_
  refine sNot (b := r24) S (wG 6 false 14 rfl rfl rfl hc21) rfl rfl rfl (lb rfl) fun a S => ?_
  refine sPickF (.bool (!r24)) S (wN rfl) rfl rfl hc21 rfl rfl (lb rfl) fun a S => ?_
  exact leafL (leafT (⟨!r24, Option.some.inj h, S.fix [0] [] (by decide) rfl rfl rfl⟩))

end Go.Proofs.Ytdbgkakmhlmpbaa
