/- Several texts in one: G44 KeAlive G24 KvAlive KeCostNames -/
import Derived.WalkKit
import Derived.Maps.AppendAt
import Derived.Deep.AppendLies
import Derived.KernelRfl
import Derived.Laws.OwnMore
import Derived.Great.BuildSlice
import Derived.Orders
import Derived.Laws.StructEq
import Derived.ChangeKeysEq
import Derived.Defers
import Derived.Laws.BytesString
import Derived.RangeFuncNested
import Derived.RangeFuncBound
import Derived.RangeFuncCalls
import Derived.RangeFuncLeaves
import Derived.OrdersIn
import Derived.LoopNIn
import Derived.Test.YtdbgkakmhlmpbaaProg
import Derived.ProofKit
import Derived.OpenShut
import Derived.ChangeOld
import Derived.Deep.Slices
import Derived.Lib.SmallJoins
import Derived.JoinedOf
import Derived.JoinedAt
import Derived.Below
import Derived.Test.YtdbgkakmhlmpbaaRows
import Derived.Test.YtdbgkakmhlmpbaaMCostNames5
namespace Go.Proofs.Ytdbgkakmhlmpbaa
open Go.RowKit
set_option linter.unusedVariables false

noncomputable def F_raddlelaw45_given  : Option api_Chart :=
  Option.bind (F_raddleref26_Parse (⟨#[115, 116, 97, 114, 116, 32, 51, 10, 102, 114, 111, 110, 116, 32, 107, 32, 121, 111, 32, 107, 108, 50, 10, 98, 97, 99, 107, 32, 112, 51, 10]⟩ : ByteArray)) fun r4 =>
  if r4.2 != 0 then
    some (api_Chart.mk 0 ([] : (List api_Row)))
  else
    some r4.1
def c_raddlelaw45_given_val (r : api_Chart) (x : Value) : Value := x
def c_raddlelaw45_given_D (r : api_Chart) (x : Value) : List Fact := [fRep r_api_Chart x r]
set_option maxHeartbeats 4000000 in
set_option maxRecDepth 100000 in
theorem c_raddlelaw45_given (E : Nat → Prop) (w0 : World)  (r : api_Chart) (h : F_raddlelaw45_given  = some r) (S : St0 E [] w0 w0 [] []) :
    Calls Try.prog 44 #[] w0 (Ret (X := Value) E [] w0 (c_raddlelaw45_given_val r) (fun _ => []) (c_raddlelaw45_given_D r)) := by
  unfold F_raddlelaw45_given at h
  refine sEnter (args := []) 11 Try.func44 rfl rfl (by simp) S (fun a S => ?_)
  refine sSeq (fun K1 hK1 => ?_)
  refine sRegion ?_
  refine sAlloc (.agg #[iv 0, .slice none 0 0]) S (wN rfl) rfl rfl [iv 0, .slice none 0 0] rfl rfl (lb rfl) fun a b2 w S => ?_
  refine leafL (leafT (hK1 _ _ ?_))
  refine sSeq (fun K3 hK3 => ?_)
  refine sRegion ?_
  obtain ⟨r4, hx5, h⟩ := bindSome h
  refine sCall (X := Value) (f := 27) (vs := [.string (⟨#[115, 116, 97, 114, 116, 32, 51, 10, 102, 114, 111, 110, 116, 32, 107, 32, 121, 111, 32, 107, 108, 50, 10, 98, 97, 99, 107, 32, 112, 51, 10]⟩ : ByteArray)]) (val := c_raddleref26_Parse_val r4) (B' := fun _ => []) (D' := c_raddleref26_Parse_D r4) [] [eBox b2 41 [iv 0, .slice none 0 0]] [] [0] [] S (wN rfl) rfl callee27 rfl (by decide) rfl rfl (fun E1 w1 S1 => c_raddleref26_Parse E1 w1 (⟨#[115, 116, 97, 114, 116, 32, 51, 10, 102, 114, 111, 110, 116, 32, 107, 32, 121, 111, 32, 107, 108, 50, 10, 98, 97, 99, 107, 32, 112, 51, 10]⟩ : ByteArray) r4 hx5 S1) rfl (lb rfl) fun u6 a w S => ?_
  obtain ⟨u7, rfl, hu8⟩ := S.mem.know (i := 0) (e := fRep r_api_Chart (u6) r4.1) rfl
  have S := S.learn (fRep (rL r_api_Row) u7 r4.1.Rows) hu8
  obtain ⟨ad9, cp10, _, rfl, _⟩ := hu8
  refine sMove (.tuple #[.agg #[iv r4.1.Start, .slice ad9 r4.1.Rows.length cp10], iv r4.2]) S (wN rfl) (.inl rfl) rfl rfl (lb rfl) fun a S => ?_
  refine sExtract (vs := [.agg #[iv r4.1.Start, .slice ad9 r4.1.Rows.length cp10], iv r4.2]) (.agg #[iv r4.1.Start, .slice ad9 r4.1.Rows.length cp10]) S (wN rfl) rfl rfl rfl rfl (lb rfl) fun a S => ?_
  refine sExtract (vs := [.agg #[iv r4.1.Start, .slice ad9 r4.1.Rows.length cp10], iv r4.2]) (iv r4.2) S (wN rfl) rfl rfl rfl rfl (lb rfl) fun a S => ?_
  refine sAlloc (.agg #[iv 0, .slice none 0 0]) S (wN rfl) rfl rfl [iv 0, .slice none 0 0] rfl rfl (lb rfl) fun a b11 w S => ?_
  refine sStore (p := b11) (off := 0) (T := 41) (vs := [iv 0, .slice none 0 0]) (v := .agg #[iv r4.1.Start, .slice ad9 r4.1.Rows.length cp10]) 0 [iv r4.1.Start, .slice ad9 r4.1.Rows.length cp10] S (wN rfl) rfl rfl rfl rfl rfl rfl rfl (by simp) rfl fun a w S => ?_
  refine sMove (iv r4.2) S (wN rfl) (.inr rfl) rfl rfl (lb rfl) fun a S => ?_
  refine leafL (leafT (hK3 _ _ ?_))
  refine sSeq (fun K12 hK12 => ?_)
  refine sSeq (fun K13 hK13 => ?_)
  refine sRegion ?_
  refine sMove (iv r4.2) S (wN rfl) (.inl rfl) rfl rfl (lb rfl) fun a S => ?_
  refine sBin (.bool (r4.2 != 0)) S (wN rfl) rfl rfl rfl (bNe _ _ _ _ .i64 r4.2 0) rfl (lb rfl) fun a S => ?_
  refine leafL (leafT (hK13 _ _ ?_))
  rcases iteSome h with ⟨hc14, h⟩ | ⟨hc14, h⟩
  rotate_left
  · refine sCondF S rfl hc14 ?_
    refine wp_skip (leafT (hK12 _ _ ?_))
    refine sSeq (fun K16 hK16 => ?_)
    refine sRegion ?_
    refine sLoadN (p := b11) (off := 0) (T := 41) (vs := [iv r4.1.Start, .slice ad9 r4.1.Rows.length cp10]) 0 [iv r4.1.Start, .slice ad9 r4.1.Rows.length cp10] S (wN rfl) rfl rfl rfl rfl rfl rfl rfl (lb rfl) fun a S => ?_
    refine sStore (p := b2) (off := 0) (T := 41) (vs := [iv 0, .slice none 0 0]) (v := .agg #[iv r4.1.Start, .slice ad9 r4.1.Rows.length cp10]) 1 [iv r4.1.Start, .slice ad9 r4.1.Rows.length cp10] S (wN rfl) rfl rfl rfl rfl rfl rfl rfl (by simp) rfl fun a w S => ?_
    refine leafL (leafT (hK16 _ _ ?_))
    obtain rfl := Option.some.inj h
    exact wp_ret (sRet (.agg #[iv r4.1.Start, .slice ad9 r4.1.Rows.length cp10]) S (rsl1 rfl (rvN (c := 0) (t := 41) (T := 41) (p := b2) 0 [iv r4.1.Start, .slice ad9 r4.1.Rows.length cp10] S rfl rfl rfl rfl)) ⟨(.agg #[iv r4.1.Start, .slice ad9 r4.1.Rows.length cp10]), rfl, S.mem.sel [] [1] (by decide) rfl rfl⟩)
  refine sCondT S rfl hc14 ?_
  refine sSeq (fun K15 hK15 => ?_)
  refine sRegion ?_
  refine sBuild [] [iv 0, .slice none 0 0] S (wN rfl) rfl rfl rfl rfl (lb rfl) fun a S => ?_
  refine sStore (p := b2) (off := 0) (T := 41) (vs := [iv 0, .slice none 0 0]) (v := .agg #[iv 0, .slice none 0 0]) 1 [iv 0, .slice none 0 0] S (wN rfl) rfl rfl rfl rfl rfl rfl rfl (by simp) rfl fun a w S => ?_
  refine leafL (leafT (hK15 _ _ ?_))
  obtain rfl := Option.some.inj h
  have S := S.learn (fRep (rL r_api_Row) (.slice none 0 0) ([] : (List api_Row))) (rL_nil _ _ _)
  have S := S.learn (fRep r_api_Chart (.agg #[iv 0, .slice none 0 0]) (api_Chart.mk 0 ([] : (List api_Row)))) ⟨_, rfl, S.mem.know (i := 0) (e := fRep (rL r_api_Row) (.slice none 0 0) ([] : (List api_Row))) rfl⟩
  exact wp_ret (rThen (sRet (.agg #[iv 0, .slice none 0 0]) S (rsl1 rfl (rvN (c := 0) (t := 41) (T := 41) (p := b2) 0 [iv 0, .slice none 0 0] S rfl rfl rfl rfl)) ⟨(.agg #[iv 0, .slice none 0 0]), rfl, S.mem.sel [] [0] (by decide) rfl rfl⟩))

end Go.Proofs.Ytdbgkakmhlmpbaa
namespace Go.Proofs.Ytdbgkakmhlmpbaa
open Go.RowKit
set_option linter.unusedVariables false

def K_raddleref25_Cut_l1 (p0 : ByteArray) (p1 : Int) : (List ByteArray × Int × Int) → Option ((List ByteArray × Int × Int) ⊕ List ByteArray) := fun s0 => match s0 with
  | (s10, s13, s14) =>
    if decide (s14 ≤ (p0.size : Int)) then
      Option.bind (α := (List ByteArray × Int)) (
        Option.bind (α := Bool) (
          if s14 == (p0.size : Int) then
            some true
          else
            Option.bind (idxS p0 s14) fun x34 =>
            some (x34 == p1)) fun o30 =>
        if o30 then
          Option.bind (sliceS p0 s13 s14) fun y38 =>
          Option.bind (appO s10 [y38]) fun l42 =>
          some (l42, w64 (s14 + 1))
        else
          some (s10, s13)) fun (o24, o27) =>
      some (.inl (o24, o27, w64 (s14 + 1)))
    else
      some (.inr s10)
def K_raddleref25_Cut (p0 : ByteArray) (p1 : Int) : Option (List ByteArray) :=
  Option.bind (α := List ByteArray) (
    Option.bind (whileK (K_raddleref25_Cut_l1 p0 p1) (([] : List ByteArray), 0, 0)) fun e18 =>
      some e18) fun o4 =>
  some o4
def K_raddleref25_Number_l1 (p0 : ByteArray) : (Int × Int) → Option ((Int × Int) ⊕ ((Int × Bool) ⊕ Int)) := fun s0 => match s0 with
  | (s18, s19) =>
    if decide (s19 < (p0.size : Int)) then
      Option.bind (α := Bool) (
        Option.bind (idxS p0 s19) fun x32 =>
        if decide (x32 < 48) then
          some true
        else
          some (decide (57 < x32))) fun o29 =>
      if o29 then
        some (.inr (.inl (0, false)))
      else
        Option.bind (idxS p0 s19) fun x37 =>
        some (.inl (w64 ((w64 (10 * s18)) + (IntKind.i64.wrap (IntKind.u8.wrap (x37 - 48)))), w64 (s19 + 1)))
    else
      some (.inr (.inr s18))
def K_raddleref25_Number (p0 : ByteArray) : Option (Int × Bool) :=
  Option.bind (α := Bool) (
    if (p0.size : Int) == 0 then
      some true
    else
      if decide (4 < (p0.size : Int)) then
        some true
      else
        if decide (1 < (p0.size : Int)) then
          Option.bind (idxS p0 0) fun x9 =>
          some (x9 == 48)
        else
          some false) fun o3 =>
  if o3 then
    some (0, false)
  else
    Option.bind (α := Int ⊕ (Int × Bool)) (
      Option.bind (whileK (K_raddleref25_Number_l1 p0) (0, 0)) fun z0 => match z0 with
        | .inl z =>
          some (.inr z)
        | .inr e23 =>
          some (.inl e23)) fun z0 => match z0 with
      | .inl o14 =>
        some (o14, true)
      | .inr z =>
        some z
def K_raddleref26_Parse_l1 (r8 : (List ByteArray)) (s54 : Int) : Int → Option (Int ⊕ Int) := fun s0 => match s0 with
  | s76 =>
    Option.bind (α := Bool) (
      Option.bind (idxO r8 s54) fun x85 =>
      if decide (s76 < (x85.size : Int)) then
        Option.bind (idxS x85 s76) fun x94 =>
        some (x94 != 32)
      else
        some false) fun o82 =>
    if o82 then
      some (.inl (w64 (s76 + 1)))
    else
      some (.inr s76)
def K_raddleref25_word_l1 (r49 : (Int × Bool)) (x35 : Int) : (List api_Stitch × Int) → Option ((List api_Stitch × Int) ⊕ List api_Stitch) := fun s0 => match s0 with
  | (s60, s63) =>
    Option.bind (α := Bool) (
      if decide (s63 < r49.1) then
        some (decide (s63 < 300))
      else
        some false) fun o71 =>
    if o71 then
      Option.bind (appO s60 [(api_Stitch.mk 1 (x35 == 112) 0 0)]) fun l79 =>
      some (.inl (l79, w64 (s63 + 1)))
    else
      some (.inr s60)
def K_raddleref25_kind_l1 (p0 : Int) : Int → Option (Int ⊕ (Int ⊕ Unit)) := fun s0 => match s0 with
  | s9 =>
    if decide (s9 < ((⟨#[102, 108, 109, 120, 121, 115, 111]⟩ : ByteArray).size : Int)) then
      Option.bind (idxS (⟨#[102, 108, 109, 120, 121, 115, 111]⟩ : ByteArray) s9) fun x18 =>
      if x18 == p0 then
        Option.bind (idxO ([3, 4, 5, 6, 7, 8, 10] : List Int) s9) fun x22 =>
        some (.inr (.inl x22))
      else
        some (.inl (w64 (s9 + 1)))
    else
      some (.inr (.inr ()))
def K_raddleref25_kind (p0 : Int) : Option Int :=
  Option.bind (α := Unit ⊕ Int) (
    Option.bind (whileK (K_raddleref25_kind_l1 p0) 0) fun z0 => match z0 with
      | .inl z =>
        some (.inr z)
      | .inr _ =>
        some (.inl ())) fun z0 => match z0 with
    | .inl _ =>
      some 0
    | .inr z =>
      some z
def K_raddleref25_word (p0 : ByteArray) : Option ((List api_Stitch) × Bool) :=
  if p0 == (⟨#[121, 111]⟩ : ByteArray) then
    some ([(api_Stitch.mk 2 false 0 0)], true)
  else
    Option.bind (α := Bool) (
      if decide (2 < (p0.size : Int)) then
        Option.bind (sliceS p0 0 2) fun y13 =>
        some (y13 == (⟨#[111, 110]⟩ : ByteArray))
      else
        some false) fun o9 =>
    if o9 then
      Option.bind (sliceS p0 2 (p0.size : Int)) fun y17 =>
      Option.bind (K_raddleref25_Number y17) fun r19 =>
      some ([(api_Stitch.mk 9 false r19.1 0)], r19.2)
    else
      Option.bind (α := Bool) (
        if (p0.size : Int) == 0 then
          some true
        else
          Option.bind (idxS p0 0) fun x29 =>
          if x29 != 107 then
            some (x29 != 112)
          else
            some false) fun o25 =>
      if o25 then
        some (([] : (List api_Stitch)), false)
      else
        Option.bind (idxS p0 0) fun x35 =>
        if (p0.size : Int) == 1 then
          some ([(api_Stitch.mk 1 (x35 == 112) 0 0)], true)
        else
          Option.bind (α := Unit ⊕ ((List api_Stitch) × Bool)) (
            Option.bind (sliceS p0 1 (p0.size : Int)) fun y47 =>
            Option.bind (K_raddleref25_Number y47) fun r49 =>
            if r49.2 then
              Option.bind (α := List api_Stitch) (
                Option.bind (whileK (K_raddleref25_word_l1 r49 x35) (([] : List api_Stitch), 0)) fun e67 =>
                  some e67) fun o54 =>
              some (.inr (o54, decide (1 < r49.1)))
            else
              some (.inl ())) fun z0 => match z0 with
            | .inl _ =>
              Option.bind (idxS p0 1) fun x85 =>
              Option.bind (K_raddleref25_kind x85) fun r87 =>
              if r87 == 8 then
                some ([(api_Stitch.mk r87 (x35 == 112) 0 0)], (p0.size : Int) == 2)
              else
                Option.bind (sliceS p0 2 (p0.size : Int)) fun y96 =>
                Option.bind (K_raddleref25_Cut y96 47) fun r98 =>
                Option.bind (α := Bool) (
                  if r87 != 0 then
                    some ((r98.length : Int) == 1)
                  else
                    some false) fun o103 =>
                Option.bind (α := (Bool × Int)) (
                  Option.bind (α := Bool) (
                    if r87 == 6 then
                      some true
                    else
                      some (r87 == 7)) fun o111 =>
                  if o111 then
                    if (r98.length : Int) == 2 then
                      Option.bind (idxO r98 1) fun x119 =>
                      Option.bind (K_raddleref25_Number x119) fun r124 =>
                      some (r124.2, r124.1)
                    else
                      some ((r98.length : Int) == 2, 0)
                  else
                    some (o103, 0)) fun (o107, o108) =>
                Option.bind (idxO r98 0) fun x127 =>
                Option.bind (K_raddleref25_Number x127) fun r132 =>
                Option.bind (α := Bool) (
                  if o107 then
                    some r132.2
                  else
                    some false) fun o137 =>
                some ([(api_Stitch.mk r87 (x35 == 112) r132.1 o108)], o137)
            | .inr z =>
              some z
def K_raddleref25_Parse_l1 (r11 : (List ByteArray)) : (List api_Stitch × Int) → Option ((List api_Stitch × Int) ⊕ (((List api_Stitch) × Int) ⊕ (List api_Stitch))) := fun s0 => match s0 with
  | (s23, s26) =>
    if decide (s26 < (r11.length : Int)) then
      Option.bind (idxO r11 s26) fun x38 =>
      Option.bind (K_raddleref25_word x38) fun r43 =>
      if !r43.2 then
        some (.inr (.inl (([] : (List api_Stitch)), 12)))
      else
        Option.bind (appO s23 r43.1) fun l53 =>
        if decide (200 < (l53.length : Int)) then
          some (.inr (.inl (([] : (List api_Stitch)), 12)))
        else
          some (.inl (l53, w64 (s26 + 1)))
    else
      some (.inr (.inr s23))
def K_raddleref25_Check (p0 : api_Stitch) : Option Int :=
  Option.bind (α := Bool) (
    if p0.A == 0 then
      some (p0.B == 0)
    else
      some false) fun o3 =>
  Option.bind (α := Bool) (
    Option.bind (α := Bool) (
      if p0.Kind == 1 then
        some (p0.Kind == 1)
      else
        some (p0.Kind == 8)) fun o12 =>
    if o12 then
      some o3
    else
      if p0.Kind == 2 then
        if o3 then
          some (!p0.Purl)
        else
          some false
      else
        Option.bind (α := Bool) (
          if p0.Kind == 3 then
            some (p0.Kind == 3)
          else
            if p0.Kind == 4 then
              some (p0.Kind == 4)
            else
              some (p0.Kind == 5)) fun o21 =>
        if o21 then
          if p0.B == 0 then
            if decide (2 ≤ p0.A) then
              some (decide (p0.A ≤ 4))
            else
              some false
          else
            some false
        else
          Option.bind (α := Bool) (
            if p0.Kind == 6 then
              some (p0.Kind == 6)
            else
              some (p0.Kind == 7)) fun o31 =>
          if o31 then
            if decide (1 ≤ p0.A) then
              if decide (p0.A ≤ 6) then
                if decide (1 ≤ p0.B) then
                  some (decide (p0.B ≤ 6))
                else
                  some false
              else
                some false
            else
              some false
          else
            if p0.Kind == 9 then
              if p0.B == 0 then
                if !p0.Purl then
                  if decide (1 ≤ p0.A) then
                    some (decide (p0.A ≤ 200))
                  else
                    some false
                else
                  some false
              else
                some false
            else
              if p0.Kind == 10 then
                if p0.B == 0 then
                  if decide (1 ≤ p0.A) then
                    some (decide (p0.A ≤ 200))
                  else
                    some false
                else
                  some false
              else
                some false) fun o8 =>
  if !o8 then
    some 8
  else
    some 0
def K_raddleref25_All_l1 (p0 : (List api_Stitch)) : Int → Option (Int ⊕ (Int ⊕ Unit)) := fun s0 => match s0 with
  | s11 =>
    if decide (s11 < (p0.length : Int)) then
      Option.bind (idxO p0 s11) fun x20 =>
      Option.bind (K_raddleref25_Check x20) fun r25 =>
      if r25 != 0 then
        some (.inr (.inl 8))
      else
        some (.inl (w64 (s11 + 1)))
    else
      some (.inr (.inr ()))
def K_raddleref25_Used (p0 : api_Stitch) : Option Int :=
  Option.bind (α := Bool) (
    if p0.Kind == 2 then
      some (p0.Kind == 2)
    else
      some (p0.Kind == 9)) fun o5 =>
  if o5 then
    some 0
  else
    Option.bind (α := Bool) (
      if p0.Kind == 3 then
        some (p0.Kind == 3)
      else
        if p0.Kind == 4 then
          some (p0.Kind == 4)
        else
          some (p0.Kind == 10)) fun o12 =>
    if o12 then
      some p0.A
    else
      Option.bind (α := Bool) (
        if p0.Kind == 6 then
          some (p0.Kind == 6)
        else
          some (p0.Kind == 7)) fun o21 =>
      if o21 then
        some (w64 (p0.A + p0.B))
      else
        some 1
def K_raddleref25_Gives (p0 : api_Stitch) : Option Int :=
  if p0.Kind == 10 then
    some 0
  else
    Option.bind (α := Bool) (
      if p0.Kind == 5 then
        some (p0.Kind == 5)
      else
        some (p0.Kind == 9)) fun o8 =>
    if o8 then
      some p0.A
    else
      Option.bind (α := Bool) (
        if p0.Kind == 6 then
          some (p0.Kind == 6)
        else
          some (p0.Kind == 7)) fun o15 =>
      if o15 then
        some (w64 (p0.A + p0.B))
      else
        some 1
def K_raddleref25_sums_l1 (p0 : (List api_Stitch)) : (Int × Int × Int) → Option ((Int × Int × Int) ⊕ (Int × Int)) := fun s0 => match s0 with
  | (s10, s11, s12) =>
    if decide (s12 < (p0.length : Int)) then
      Option.bind (idxO p0 s12) fun x23 =>
      Option.bind (K_raddleref25_Used x23) fun r28 =>
      Option.bind (K_raddleref25_Gives x23) fun r33 =>
      some (.inl (w64 (s10 + r28), w64 (s11 + r33), w64 (s12 + 1)))
    else
      some (.inr (s10, s11))
def K_raddleref25_sums (p0 : (List api_Stitch)) : Option (Int × Int) :=
  Option.bind (α := (Int × Int)) (
    Option.bind (whileK (K_raddleref25_sums_l1 p0) (0, 0, 0)) fun (e16, e17) =>
      some (e16, e17)) fun (o5, o6) =>
  some (o5, o6)
def K_raddleref25_All (p0 : (List api_Stitch)) : Option Int :=
  if decide (200 < (p0.length : Int)) then
    some 4
  else
    Option.bind (α := Unit ⊕ Int) (
      Option.bind (whileK (K_raddleref25_All_l1 p0) 0) fun z0 => match z0 with
        | .inl z =>
          some (.inr z)
        | .inr _ =>
          some (.inl ())) fun z0 => match z0 with
      | .inl _ =>
        Option.bind (K_raddleref25_sums p0) fun r30 =>
        Option.bind (α := Bool) (
          if decide (200 < r30.1) then
            some true
          else
            some (decide (200 < r30.2))) fun o33 =>
        if o33 then
          some 4
        else
          some 0
      | .inr z =>
        some z
def K_raddleref25_Decimal_l1  : (Int × ByteArray) → Option ((Int × ByteArray) ⊕ ByteArray) := fun s0 => match s0 with
  | (s13, s14) =>
    if decide (0 < s13) then
      Option.bind (remI s13 10) fun z23 =>
      Option.bind (addS (strO ([IntKind.u8.wrap (w64 (48 + z23))] : List Int)) s14) fun z27 =>
      Option.bind (quoI s13 10) fun z29 =>
      some (.inl (z29, z27))
    else
      some (.inr s14)
def K_raddleref25_Decimal (p0 : Int) : Option ByteArray :=
  Option.bind (remI p0 10) fun z3 =>
  Option.bind (α := ByteArray) (
    Option.bind (quoI p0 10) fun z11 =>
    Option.bind (whileK (K_raddleref25_Decimal_l1) (z11, strO ([IntKind.u8.wrap (w64 (48 + z3))] : List Int))) fun e18 =>
      some e18) fun o7 =>
  some o7
def K_raddleref25_one (p0 : api_Stitch) : Option ByteArray :=
  Option.bind (α := ByteArray) (
    if p0.Purl then
      some (⟨#[112]⟩ : ByteArray)
    else
      some (⟨#[107]⟩ : ByteArray)) fun o4 =>
  if p0.Kind == 1 then
    some o4
  else
    if p0.Kind == 2 then
      some (⟨#[121, 111]⟩ : ByteArray)
    else
      if p0.Kind == 3 then
        Option.bind (addS o4 (⟨#[102]⟩ : ByteArray)) fun z20 =>
        Option.bind (K_raddleref25_Decimal p0.A) fun r22 =>
        Option.bind (addS z20 r22) fun z24 =>
        some z24
      else
        if p0.Kind == 4 then
          Option.bind (addS o4 (⟨#[108]⟩ : ByteArray)) fun z29 =>
          Option.bind (K_raddleref25_Decimal p0.A) fun r31 =>
          Option.bind (addS z29 r31) fun z33 =>
          some z33
        else
          if p0.Kind == 5 then
            Option.bind (addS o4 (⟨#[109]⟩ : ByteArray)) fun z38 =>
            Option.bind (K_raddleref25_Decimal p0.A) fun r40 =>
            Option.bind (addS z38 r40) fun z42 =>
            some z42
          else
            if p0.Kind == 6 then
              Option.bind (addS o4 (⟨#[120]⟩ : ByteArray)) fun z47 =>
              Option.bind (K_raddleref25_Decimal p0.A) fun r49 =>
              Option.bind (addS z47 r49) fun z51 =>
              Option.bind (addS z51 (⟨#[47]⟩ : ByteArray)) fun z53 =>
              Option.bind (K_raddleref25_Decimal p0.B) fun r55 =>
              Option.bind (addS z53 r55) fun z57 =>
              some z57
            else
              if p0.Kind == 7 then
                Option.bind (addS o4 (⟨#[121]⟩ : ByteArray)) fun z62 =>
                Option.bind (K_raddleref25_Decimal p0.A) fun r64 =>
                Option.bind (addS z62 r64) fun z66 =>
                Option.bind (addS z66 (⟨#[47]⟩ : ByteArray)) fun z68 =>
                Option.bind (K_raddleref25_Decimal p0.B) fun r70 =>
                Option.bind (addS z68 r70) fun z72 =>
                some z72
              else
                if p0.Kind == 8 then
                  Option.bind (addS o4 (⟨#[115]⟩ : ByteArray)) fun z77 =>
                  some z77
                else
                  if p0.Kind == 9 then
                    Option.bind (K_raddleref25_Decimal p0.A) fun r82 =>
                    Option.bind (addS (⟨#[111, 110]⟩ : ByteArray) r82) fun z84 =>
                    some z84
                  else
                    Option.bind (addS o4 (⟨#[111]⟩ : ByteArray)) fun z87 =>
                    Option.bind (K_raddleref25_Decimal p0.A) fun r89 =>
                    Option.bind (addS z87 r89) fun z91 =>
                    some z91
def K_raddleref25_Written_l1 (p0 : (List api_Stitch)) : (Int × Int) → Option ((Int × Int) ⊕ (Int × Int)) := fun s0 => match s0 with
  | (s44, s45) =>
    Option.bind (α := Bool) (
      Option.bind (idxO p0 s44) fun x55 =>
      if x55.Kind == 1 then
        if decide ((w64 (s44 + 1)) < (p0.length : Int)) then
          Option.bind (idxO p0 (w64 (s44 + 1))) fun x64 =>
          some ((x64.Kind == x55.Kind) && ((x64.Purl == x55.Purl) && ((x64.A == x55.A) && ((x64.B == x55.B) && true))))
        else
          some false
      else
        some false) fun o52 =>
    if o52 then
      some (.inl (w64 (s44 + 1), w64 (s45 + 1)))
    else
      some (.inr (s44, s45))
def K_raddleref25_Written_l2 (p0 : (List api_Stitch)) : (ByteArray × Int) → Option ((ByteArray × Int) ⊕ ByteArray) := fun s0 => match s0 with
  | (s9, s10) =>
    if decide (s10 < (p0.length : Int)) then
      Option.bind (α := (ByteArray × Int)) (
        Option.bind (α := ByteArray) (
          if decide (0 < s10) then
            Option.bind (addS s9 (⟨#[32]⟩ : ByteArray)) fun z27 =>
            some z27
          else
            some s9) fun o22 =>
        Option.bind (idxO p0 s10) fun x30 =>
        Option.bind (K_raddleref25_one x30) fun r35 =>
        Option.bind (addS o22 r35) fun z37 =>
        Option.bind (α := (Int × Int)) (
          Option.bind (whileK (K_raddleref25_Written_l1 p0) (s10, 1)) fun (e49, e50) =>
            some (e49, e50)) fun (o40, o41) =>
        if decide (1 < o41) then
          Option.bind (K_raddleref25_Decimal o41) fun r97 =>
          Option.bind (addS z37 r97) fun z99 =>
          some (z99, o40)
        else
          some (z37, o40)) fun (o18, o19) =>
      some (.inl (o18, w64 (o19 + 1)))
    else
      some (.inr s9)
def K_raddleref25_Written (p0 : (List api_Stitch)) : Option ByteArray :=
  Option.bind (α := ByteArray) (
    Option.bind (whileK (K_raddleref25_Written_l2 p0) ((⟨#[]⟩ : ByteArray), 0)) fun e14 =>
      some e14) fun o5 =>
  some o5
def K_raddleref25_Parse (p0 : ByteArray) : Option ((List api_Stitch) × Int) :=
  if decide (3000 < (p0.size : Int)) then
    some (([] : (List api_Stitch)), 12)
  else
    if p0 == (⟨#[]⟩ : ByteArray) then
      some (([] : (List api_Stitch)), 0)
    else
      Option.bind (K_raddleref25_Cut p0 32) fun r11 =>
      Option.bind (α := List api_Stitch ⊕ ((List api_Stitch) × Int)) (
        Option.bind (whileK (K_raddleref25_Parse_l1 r11) (([] : List api_Stitch), 0)) fun z0 => match z0 with
          | .inl z =>
            some (.inr z)
          | .inr e30 =>
            some (.inl e30)) fun z0 => match z0 with
        | .inl o17 =>
          Option.bind (α := Bool) (
            Option.bind (K_raddleref25_All o17) fun r64 =>
            if r64 != 0 then
              some true
            else
              Option.bind (K_raddleref25_Written o17) fun r67 =>
              some (r67 != p0)) fun o61 =>
          if o61 then
            some (([] : (List api_Stitch)), 12)
          else
            some (o17, 0)
        | .inr z =>
          some z
def K_raddleref26_Parse_l2 (r8 : (List ByteArray)) : (Int × List api_Row) → Option ((Int × List api_Row) ⊕ ((api_Chart × Int) ⊕ (List api_Row))) := fun s0 => match s0 with
  | (s54, s55) =>
    if decide ((w64 (s54 + 1)) < (r8.length : Int)) then
      Option.bind (α := List api_Row ⊕ (api_Chart × Int)) (
        Option.bind (α := Int) (
          Option.bind (whileK (K_raddleref26_Parse_l1 r8 s54) 0) fun e80 =>
            some e80) fun o73 =>
        Option.bind (α := Bool) (
          Option.bind (idxO r8 s54) fun x101 =>
          Option.bind (sliceS x101 0 o73) fun y106 =>
          if y106 != (⟨#[102, 114, 111, 110, 116]⟩ : ByteArray) then
            some (y106 != (⟨#[98, 97, 99, 107]⟩ : ByteArray))
          else
            some false) fun o98 =>
        if o98 then
          some (.inr ((api_Chart.mk 0 ([] : (List api_Row))), 12))
        else
          Option.bind (idxO r8 s54) fun x115 =>
          Option.bind (sliceS x115 0 o73) fun y120 =>
          Option.bind (α := List api_Stitch ⊕ (api_Chart × Int)) (
            if decide (o73 < (x115.size : Int)) then
              Option.bind (sliceS x115 (w64 (o73 + 1)) (x115.size : Int)) fun y137 =>
              Option.bind (K_raddleref25_Parse y137) fun r139 =>
              if r139.2 != 0 then
                some (.inr ((api_Chart.mk 0 ([] : (List api_Row))), 12))
              else
                some (.inl r139.1)
            else
              some (.inl ([] : List api_Stitch))) fun z0 => match z0 with
            | .inl o123 =>
              Option.bind (appO s55 [(api_Row.mk (y120 == (⟨#[98, 97, 99, 107]⟩ : ByteArray)) o123)]) fun l150 =>
              some (.inl l150)
            | .inr z =>
              some (.inr z)) fun z0 => match z0 with
        | .inl o67 =>
          some (.inl (w64 (s54 + 1), o67))
        | .inr z =>
          some (.inr (.inl z))
    else
      some (.inr (.inr s55))
def K_raddleref25_Uses (p0 : (List api_Stitch)) : Option (Int × Int) :=
  Option.bind (K_raddleref25_All p0) fun r6 =>
  if r6 != 0 then
    some (0, r6)
  else
    Option.bind (K_raddleref25_sums p0) fun r11 =>
    some (r11.1, 0)
def K_raddleref25_Makes (p0 : (List api_Stitch)) : Option (Int × Int) :=
  Option.bind (K_raddleref25_All p0) fun r6 =>
  if r6 != 0 then
    some (0, r6)
  else
    Option.bind (K_raddleref25_sums p0) fun r11 =>
    some (r11.2, 0)
def K_raddleref26_Check_l1 (p0 : api_Chart) : (Int × Int) → Option ((Int × Int) ⊕ (Int ⊕ Unit)) := fun s0 => match s0 with
  | (s22, s23) =>
    if decide (s23 < (p0.Rows.length : Int)) then
      Option.bind (idxO p0.Rows s23) fun x32 =>
      Option.bind (K_raddleref25_Uses x32.Cells) fun r41 =>
      if r41.2 != 0 then
        some (.inr (.inl r41.2))
      else
        if r41.1 != s22 then
          some (.inr (.inl 26))
        else
          Option.bind (K_raddleref25_Makes x32.Cells) fun r58 =>
          some (.inl (r58.1, w64 (s23 + 1)))
    else
      some (.inr (.inr ()))
def K_raddleref26_Check (p0 : api_Chart) : Option Int :=
  if decide (100 < (p0.Rows.length : Int)) then
    some 4
  else
    Option.bind (α := Bool) (
      if decide (p0.Start < 0) then
        some true
      else
        some (decide (200 < p0.Start))) fun o12 =>
    if o12 then
      some 8
    else
      Option.bind (α := Unit ⊕ Int) (
        Option.bind (whileK (K_raddleref26_Check_l1 p0) (p0.Start, 0)) fun z0 => match z0 with
          | .inl z =>
            some (.inr z)
          | .inr _ =>
            some (.inl ())) fun z0 => match z0 with
        | .inl _ =>
          some 0
        | .inr z =>
          some z
def K_raddleref26_side (p0 : Bool) : Option ByteArray :=
  if p0 then
    some (⟨#[98, 97, 99, 107]⟩ : ByteArray)
  else
    some (⟨#[102, 114, 111, 110, 116]⟩ : ByteArray)
def K_raddleref26_Written_l1 (p0 : api_Chart) : (ByteArray × Int) → Option ((ByteArray × Int) ⊕ ((ByteArray × Bool) ⊕ ByteArray)) := fun s0 => match s0 with
  | (s18, s19) =>
    if decide (s19 < (p0.Rows.length : Int)) then
      Option.bind (idxO p0.Rows s19) fun x29 =>
      Option.bind (K_raddleref25_Written x29.Cells) fun r38 =>
      if decide (3000 < (r38.size : Int)) then
        some (.inr (.inl ((⟨#[]⟩ : ByteArray), false)))
      else
        Option.bind (K_raddleref26_side x29.Back) fun r50 =>
        Option.bind (addS s18 r50) fun z52 =>
        Option.bind (α := ByteArray) (
          if r38 != (⟨#[]⟩ : ByteArray) then
            Option.bind (addS z52 (⟨#[32]⟩ : ByteArray)) fun z59 =>
            Option.bind (addS z59 r38) fun z61 =>
            some z61
          else
            some z52) fun o54 =>
        Option.bind (addS o54 (⟨#[10]⟩ : ByteArray)) fun z63 =>
        some (.inl (z63, w64 (s19 + 1)))
    else
      some (.inr (.inr s18))
def K_raddleref26_Written (p0 : api_Chart) : Option (ByteArray × Bool) :=
  Option.bind (K_raddleref25_Decimal p0.Start) fun r8 =>
  Option.bind (addS (⟨#[115, 116, 97, 114, 116, 32]⟩ : ByteArray) r8) fun z10 =>
  Option.bind (addS z10 (⟨#[10]⟩ : ByteArray)) fun z12 =>
  Option.bind (α := ByteArray ⊕ (ByteArray × Bool)) (
    Option.bind (whileK (K_raddleref26_Written_l1 p0) (z12, 0)) fun z0 => match z0 with
      | .inl z =>
        some (.inr z)
      | .inr e23 =>
        some (.inl e23)) fun z0 => match z0 with
    | .inl o14 =>
      some (o14, true)
    | .inr z =>
      some z
def K_raddleref26_Parse (p0 : ByteArray) : Option (api_Chart × Int) :=
  if decide (20000 < (p0.size : Int)) then
    some ((api_Chart.mk 0 ([] : (List api_Row))), 12)
  else
    Option.bind (K_raddleref25_Cut p0 10) fun r8 =>
    Option.bind (α := Bool) (
      if decide ((r8.length : Int) < 2) then
        some true
      else
        if decide (100 < (w64 ((r8.length : Int) - 2))) then
          some true
        else
          Option.bind (idxO r8 0) fun x19 =>
          if decide ((x19.size : Int) < 7) then
            some true
          else
            Option.bind (sliceS x19 0 6) fun y28 =>
            some (y28 != (⟨#[115, 116, 97, 114, 116, 32]⟩ : ByteArray))) fun o14 =>
    if o14 then
      some ((api_Chart.mk 0 ([] : (List api_Row))), 12)
    else
      Option.bind (idxO r8 0) fun x33 =>
      Option.bind (sliceS x33 6 (x33.size : Int)) fun y38 =>
      Option.bind (K_raddleref25_Number y38) fun r40 =>
      if !r40.2 then
        some ((api_Chart.mk 0 ([] : (List api_Row))), 12)
      else
        Option.bind (α := List api_Row ⊕ (api_Chart × Int)) (
          Option.bind (whileK (K_raddleref26_Parse_l2 r8) (1, ([] : List api_Row))) fun z0 => match z0 with
            | .inl z =>
              some (.inr z)
            | .inr e61 =>
              some (.inl e61)) fun z0 => match z0 with
          | .inl o48 =>
            Option.bind (K_raddleref26_Check (api_Chart.mk r40.1 o48)) fun r156 =>
            if r156 != 0 then
              some ((api_Chart.mk 0 ([] : (List api_Row))), 12)
            else
              Option.bind (K_raddleref26_Written (api_Chart.mk r40.1 o48)) fun r161 =>
              Option.bind (α := Bool) (
                if !r161.2 then
                  some true
                else
                  some (r161.1 != p0)) fun o164 =>
              if o164 then
                some ((api_Chart.mk 0 ([] : (List api_Row))), 12)
              else
                some ((api_Chart.mk r40.1 o48), 0)
          | .inr z =>
            some z
def K_raddlelaw45_given  : Option api_Chart :=
  Option.bind (K_raddleref26_Parse (⟨#[115, 116, 97, 114, 116, 32, 51, 10, 102, 114, 111, 110, 116, 32, 107, 32, 121, 111, 32, 107, 108, 50, 10, 98, 97, 99, 107, 32, 112, 51, 10]⟩ : ByteArray)) fun r4 =>
  if r4.2 != 0 then
    some (api_Chart.mk 0 ([] : (List api_Row)))
  else
    some r4.1
def K_chart_counted (p0 : api_Chart) : Option api_Chart :=
  some p0
def K_stitch_forms (p0 : Int) : Option (stitch_form × Bool) :=
  Option.bind (α := Bool) (
    if decide (p0 < 1) then
      some true
    else
      some (decide (([(stitch_form.mk (⟨#[]⟩ : ByteArray) (0, 0) (0, 0) true 1 1), (stitch_form.mk (⟨#[]⟩ : ByteArray) (0, 0) (0, 0) false 0 1), (stitch_form.mk (⟨#[102]⟩ : ByteArray) (2, 4) (0, 0) true 2 1), (stitch_form.mk (⟨#[108]⟩ : ByteArray) (2, 4) (0, 0) true 2 1), (stitch_form.mk (⟨#[109]⟩ : ByteArray) (2, 4) (0, 0) true 1 2), (stitch_form.mk (⟨#[120]⟩ : ByteArray) (1, 6) (1, 6) true 3 3), (stitch_form.mk (⟨#[121]⟩ : ByteArray) (1, 6) (1, 6) true 3 3), (stitch_form.mk (⟨#[115]⟩ : ByteArray) (0, 0) (0, 0) true 1 1), (stitch_form.mk (⟨#[]⟩ : ByteArray) (1, 200) (0, 0) false 0 2), (stitch_form.mk (⟨#[111]⟩ : ByteArray) (1, 200) (0, 0) true 2 0)].length : Int) < (IntKind.i64.wrap p0)))) fun o12 =>
  if o12 then
    some ((stitch_form.mk (⟨#[]⟩ : ByteArray) (0, 0) (0, 0) false 0 0), false)
  else
    Option.bind (idxO [(stitch_form.mk (⟨#[]⟩ : ByteArray) (0, 0) (0, 0) true 1 1), (stitch_form.mk (⟨#[]⟩ : ByteArray) (0, 0) (0, 0) false 0 1), (stitch_form.mk (⟨#[102]⟩ : ByteArray) (2, 4) (0, 0) true 2 1), (stitch_form.mk (⟨#[108]⟩ : ByteArray) (2, 4) (0, 0) true 2 1), (stitch_form.mk (⟨#[109]⟩ : ByteArray) (2, 4) (0, 0) true 1 2), (stitch_form.mk (⟨#[120]⟩ : ByteArray) (1, 6) (1, 6) true 3 3), (stitch_form.mk (⟨#[121]⟩ : ByteArray) (1, 6) (1, 6) true 3 3), (stitch_form.mk (⟨#[115]⟩ : ByteArray) (0, 0) (0, 0) true 1 1), (stitch_form.mk (⟨#[]⟩ : ByteArray) (1, 200) (0, 0) false 0 2), (stitch_form.mk (⟨#[111]⟩ : ByteArray) (1, 200) (0, 0) true 2 0)] (IntKind.u8.wrap (p0 - 1))) fun x19 =>
    some (x19, true)
def K_stitch_within (p0 : Int) (p1 : (Int × Int)) : Option Bool :=
  Option.bind (α := Bool) (
    if decide (p1.1 ≤ p0) then
      some (decide (p0 ≤ p1.2))
    else
      some false) fun o3 =>
  some o3
def K_stitch_Check (p0 : api_Stitch) : Option Int :=
  Option.bind (K_stitch_forms p0.Kind) fun r4 =>
  Option.bind (α := Bool) (
    if !r4.2 then
      some true
    else
      Option.bind (K_stitch_within p0.A r4.1.a) fun r13 =>
      if !r13 then
        some true
      else
        Option.bind (K_stitch_within p0.B r4.1.b) fun r16 =>
        if !r16 then
          some true
        else
          if p0.Purl then
            some (!r4.1.sided)
          else
            some false) fun o9 =>
  if o9 then
    some 8
  else
    some 0
def K_stitch_All_1 (p0 : api_Stitch) : Option Bool :=
  Option.bind (K_stitch_Check p0) fun r4 =>
  some (r4 != 0)
def K_slices_IndexFunc___api_Stitch_api_Stitch__s0_l1 (p0 : (List api_Stitch)) : Int → Option (Int ⊕ (Int ⊕ Unit)) := fun s0 => match s0 with
  | s7 =>
    if decide (s7 < (p0.length : Int)) then
      Option.bind (idxO p0 s7) fun x17 =>
      Option.bind (K_stitch_All_1 x17) fun r22 =>
      if r22 then
        some (.inr (.inl s7))
      else
        some (.inl (w64 (s7 + 1)))
    else
      some (.inr (.inr ()))
def K_slices_IndexFunc___api_Stitch_api_Stitch__s0 (p0 : (List api_Stitch)) : Option Int :=
  Option.bind (α := Unit ⊕ Int) (
    Option.bind (whileK (K_slices_IndexFunc___api_Stitch_api_Stitch__s0_l1 p0) 0) fun z0 => match z0 with
      | .inl z =>
        some (.inr z)
      | .inr _ =>
        some (.inl ())) fun z0 => match z0 with
    | .inl _ =>
      some (-1)
    | .inr z =>
      some z
def K_slices_ContainsFunc___api_Stitch_api_Stitch__s0 (p0 : (List api_Stitch)) : Option Bool :=
  Option.bind (K_slices_IndexFunc___api_Stitch_api_Stitch__s0 p0) fun r5 =>
  some (decide (0 ≤ r5))
def K_stitch_loops (p0 : api_Stitch) (p1 : Int) : Option Int :=
  Option.bind (idxO ([0, 1, p0.A, w64 (p0.A + p0.B)] : List Int) p1) fun x4 =>
  some x4
def K_stitch_sum_l1 (p0 : (List api_Stitch)) : (Int × Int × Int) → Option ((Int × Int × Int) ⊕ (Int × Int)) := fun s0 => match s0 with
  | (s9, s10, s11) =>
    if decide (s11 < (p0.length : Int)) then
      Option.bind (idxO p0 s11) fun x22 =>
      Option.bind (K_stitch_forms x22.Kind) fun r29 =>
      Option.bind (K_stitch_loops x22 r29.1.uses) fun r34 =>
      Option.bind (K_stitch_loops x22 r29.1.made) fun r36 =>
      some (.inl (w64 (s9 + r34), w64 (s10 + r36), w64 (s11 + 1)))
    else
      some (.inr (s9, s10))
def K_stitch_sum (p0 : (List api_Stitch)) : Option (Int × Int) :=
  Option.bind (α := (Int × Int)) (
    Option.bind (whileK (K_stitch_sum_l1 p0) (0, 0, 0)) fun (e15, e16) =>
      some (e15, e16)) fun (o4, o5) =>
  some (o4, o5)
def K_stitch_All (p0 : (List api_Stitch)) : Option Int :=
  if decide (200 < (p0.length : Int)) then
    some 4
  else
    Option.bind (K_slices_ContainsFunc___api_Stitch_api_Stitch__s0 p0) fun r10 =>
    if r10 then
      some 8
    else
      Option.bind (K_stitch_sum p0) fun r16 =>
      if decide (200 < (if r16.1 < r16.2 then r16.2 else r16.1)) then
        some 4
      else
        some 0
def K_stitch_Uses (p0 : (List api_Stitch)) : Option (Int × Int) :=
  Option.bind (K_stitch_All p0) fun r6 =>
  if r6 != 0 then
    some (0, r6)
  else
    Option.bind (K_stitch_sum p0) fun r12 =>
    some (r12.1, 0)
def K_stitch_Makes (p0 : (List api_Stitch)) : Option (Int × Int) :=
  Option.bind (K_stitch_All p0) fun r6 =>
  if r6 != 0 then
    some (0, r6)
  else
    Option.bind (K_stitch_sum p0) fun r12 =>
    some (r12.2, 0)
def K_chart_counted_1_l1 {σ τ : Type} (p0 : api_Chart) (B : σ → (Int × chart_count) → Option (σ ⊕ τ)) : (Int × Int × σ) → Option ((Int × Int × σ) ⊕ ((σ ⊕ τ) ⊕ (σ))) := fun s0 => match s0 with
  | (s11, s12, gz13) =>
    if decide (s12 < (p0.Rows.length : Int)) then
      Option.bind (idxO p0.Rows s12) fun x23 =>
      Option.bind (K_stitch_Uses x23.Cells) fun r36 =>
      Option.bind (α := (Int × Int)) (
        if r36.2 != 0 then
          some (0, r36.2)
        else
          if r36.1 != s11 then
            some (0, 26)
          else
            Option.bind (K_stitch_Makes x23.Cells) fun r46 =>
            some (r46.1, 0)) fun (o38, o39) =>
      Option.bind (B gz13 (s12, (chart_count.mk s11 o38 o39))) fun y51 =>
      match y51 with
      | .inl gz53 =>
        if ((chart_count.mk s11 o38 o39).e) != 0 then
          some (.inr (.inl (.inl gz53)))
        else
          some (.inl ((chart_count.mk s11 o38 o39).after, w64 (s12 + 1), gz53))
      | .inr tz54 =>
        some (.inr (.inl (.inr tz54)))
    else
      some (.inr (.inr gz13))
def K_I_chart_counted_1 (p0 : api_Chart) (σ τ : Type) (B : σ → (Int × chart_count) → Option (σ ⊕ τ)) (gz0 : σ) : Option (σ ⊕ τ) :=
  Option.bind (whileK (K_chart_counted_1_l1 p0 B) (p0.Start, 0, gz0)) fun z0 => match z0 with
    | .inl z =>
      some z
    | .inr gz17 =>
      some (.inl gz17)
def K_chart_Check_l2  : Unit → (Int × chart_count) → Option (Unit ⊕ Int) := fun s0 x0 => match s0, x0 with
  | _, (x25, x27) =>
    if x27.e != 0 then
      some (.inr x27.e)
    else
      some (.inl ())
def K_chart_Check (p0 : api_Chart) : Option Int :=
  if decide (100 < (p0.Rows.length : Int)) then
    some 4
  else
    Option.bind (α := Bool) (
      if decide (p0.Start < 0) then
        some true
      else
        some (decide (200 < p0.Start))) fun o13 =>
    if o13 then
      some 8
    else
      Option.bind (K_chart_counted p0) fun r21 =>
      Option.bind (K_I_chart_counted_1 r21 _ _ (K_chart_Check_l2) ()) fun z0 => match z0 with
        | .inl _ =>
          some 0
        | .inr e24 =>
          some e24
def K_cost_Count_l1 (x74 : api_Row) : (Int × Int × Int × Int × Int × Int × Int × Int × Int × Int × Int × Int) → Option ((Int × Int × Int × Int × Int × Int × Int × Int × Int × Int × Int × Int) ⊕ (Int × Int × Int × Int × Int × Int × Int × Int × Int × Int × Int)) := fun s0 => match s0 with
  | (s85, s86, s87, s88, s89, s90, s91, s92, s93, s94, s95, s96) =>
    if decide (s85 < (x74.Cells.length : Int)) then
      Option.bind (idxO x74.Cells s85) fun x116 =>
      Option.bind (idxO ([s86, s87, s88, s89, s90, s91, s92, s93, s94, s95, s96] : List Int) x116.Kind) fun x122 =>
      some (.inl (w64 (s85 + 1), (if x116.Kind = 0 then w64 (x122 + 1) else s86), (if x116.Kind = 1 then w64 (x122 + 1) else s87), (if x116.Kind = 2 then w64 (x122 + 1) else s88), (if x116.Kind = 3 then w64 (x122 + 1) else s89), (if x116.Kind = 4 then w64 (x122 + 1) else s90), (if x116.Kind = 5 then w64 (x122 + 1) else s91), (if x116.Kind = 6 then w64 (x122 + 1) else s92), (if x116.Kind = 7 then w64 (x122 + 1) else s93), (if x116.Kind = 8 then w64 (x122 + 1) else s94), (if x116.Kind = 9 then w64 (x122 + 1) else s95), (if x116.Kind = 10 then w64 (x122 + 1) else s96)))
    else
      some (.inr (s86, s87, s88, s89, s90, s91, s92, s93, s94, s95, s96))
def K_cost_Count_l2 (p0 : api_Chart) : (Int × Int × Int × Int × Int × Int × Int × Int × Int × Int × Int × Int) → Option ((Int × Int × Int × Int × Int × Int × Int × Int × Int × Int × Int × Int) ⊕ (Int × Int × Int × Int × Int × Int × Int × Int × Int × Int × Int)) := fun s0 => match s0 with
  | (s31, s32, s33, s34, s35, s36, s37, s38, s39, s40, s41, s42) =>
    if decide (s31 < (p0.Rows.length : Int)) then
      Option.bind (α := (Int × Int × Int × Int × Int × Int × Int × Int × Int × Int × Int)) (
        Option.bind (idxO p0.Rows s31) fun x74 =>
        Option.bind (whileK (K_cost_Count_l1 x74) (0, s32, s33, s34, s35, s36, s37, s38, s39, s40, s41, s42)) fun (e100, e101, e102, e103, e104, e105, e106, e107, e108, e109, e110) =>
          some (e100, e101, e102, e103, e104, e105, e106, e107, e108, e109, e110)) fun (o60, o61, o62, o63, o64, o65, o66, o67, o68, o69, o70) =>
      some (.inl (w64 (s31 + 1), o60, o61, o62, o63, o64, o65, o66, o67, o68, o69, o70))
    else
      some (.inr (s32, s33, s34, s35, s36, s37, s38, s39, s40, s41, s42))
def K_cost_Count (p0 : api_Chart) : Option ((Int × Int × Int × Int × Int × Int × Int × Int × Int × Int × Int) × Int) :=
  Option.bind (K_chart_Check p0) fun r12 =>
  if r12 != 0 then
    some ((0, 0, 0, 0, 0, 0, 0, 0, 0, 0, 0), r12)
  else
    Option.bind (α := (Int × Int × Int × Int × Int × Int × Int × Int × Int × Int × Int)) (
      Option.bind (whileK (K_cost_Count_l2 p0) (0, 0, 0, 0, 0, 0, 0, 0, 0, 0, 0, 0)) fun (e46, e47, e48, e49, e50, e51, e52, e53, e54, e55, e56) =>
        some (e46, e47, e48, e49, e50, e51, e52, e53, e54, e55, e56)) fun (o17, o18, o19, o20, o21, o22, o23, o24, o25, o26, o27) =>
    some ((o17, o18, o19, o20, o21, o22, o23, o24, o25, o26, o27), 0)
def K_raddlelaw45_rates  : Option api_Rates :=
  some (api_Rates.mk (0, 100, 150, 0, 90, 0, 0, 0, 0, 0, 0) (0, 1000, 500, 0, 1500, 0, 0, 0, 0, 0, 0) 2000)
def K_cost_rate (p0 : Int) : Option Bool :=
  Option.bind (α := Bool) (
    if decide (0 ≤ p0) then
      some (decide (p0 ≤ 1000000))
    else
      some false) fun o2 =>
  some o2
def K_cost_Check_l1 (p0 : api_Rates) : Int → Option (Int ⊕ (Int ⊕ Unit)) := fun s0 => match s0 with
  | s6 =>
    if decide (s6 < 11) then
      Option.bind (idxO ([p0.Length.1, p0.Length.2.1, p0.Length.2.2.1, p0.Length.2.2.2.1, p0.Length.2.2.2.2.1, p0.Length.2.2.2.2.2.1, p0.Length.2.2.2.2.2.2.1, p0.Length.2.2.2.2.2.2.2.1, p0.Length.2.2.2.2.2.2.2.2.1, p0.Length.2.2.2.2.2.2.2.2.2.1, p0.Length.2.2.2.2.2.2.2.2.2.2] : List Int) s6) fun x15 =>
      Option.bind (α := Bool) (
        Option.bind (K_cost_rate x15) fun r20 =>
        if !r20 then
          some true
        else
          Option.bind (idxO ([p0.Time.1, p0.Time.2.1, p0.Time.2.2.1, p0.Time.2.2.2.1, p0.Time.2.2.2.2.1, p0.Time.2.2.2.2.2.1, p0.Time.2.2.2.2.2.2.1, p0.Time.2.2.2.2.2.2.2.1, p0.Time.2.2.2.2.2.2.2.2.1, p0.Time.2.2.2.2.2.2.2.2.2.1, p0.Time.2.2.2.2.2.2.2.2.2.2] : List Int) s6) fun x23 =>
          Option.bind (K_cost_rate x23) fun r25 =>
          some (!r25)) fun o17 =>
      if o17 then
        some (.inr (.inl 8))
      else
        some (.inl (w64 (s6 + 1)))
    else
      some (.inr (.inr ()))
def K_cost_Check (p0 : api_Rates) : Option Int :=
  Option.bind (α := Unit ⊕ Int) (
    Option.bind (whileK (K_cost_Check_l1 p0) 0) fun z0 => match z0 with
      | .inl z =>
        some (.inr z)
      | .inr _ =>
        some (.inl ())) fun z0 => match z0 with
    | .inl _ =>
      Option.bind (α := Bool) (
        Option.bind (K_cost_rate p0.Turn) fun r33 =>
        if !r33 then
          some true
        else
          if p0.Length.1 != 0 then
            some true
          else
            some (p0.Time.1 != 0)) fun o30 =>
      if o30 then
        some 8
      else
        some 0
    | .inr z =>
      some z
def K_cost_Need_l1 (r10 : ((Int × Int × Int × Int × Int × Int × Int × Int × Int × Int × Int) × Int)) (p1 : api_Rates) : (Int × Int) → Option ((Int × Int) ⊕ Int) := fun s0 => match s0 with
  | (s31, s32) =>
    if decide (s31 < 11) then
      Option.bind (idxO ([r10.1.1, r10.1.2.1, r10.1.2.2.1, r10.1.2.2.2.1, r10.1.2.2.2.2.1, r10.1.2.2.2.2.2.1, r10.1.2.2.2.2.2.2.1, r10.1.2.2.2.2.2.2.2.1, r10.1.2.2.2.2.2.2.2.2.1, r10.1.2.2.2.2.2.2.2.2.2.1, r10.1.2.2.2.2.2.2.2.2.2.2] : List Int) s31) fun x42 =>
      Option.bind (idxO ([p1.Time.1, p1.Time.2.1, p1.Time.2.2.1, p1.Time.2.2.2.1, p1.Time.2.2.2.2.1, p1.Time.2.2.2.2.2.1, p1.Time.2.2.2.2.2.2.1, p1.Time.2.2.2.2.2.2.2.1, p1.Time.2.2.2.2.2.2.2.2.1, p1.Time.2.2.2.2.2.2.2.2.2.1, p1.Time.2.2.2.2.2.2.2.2.2.2] : List Int) s31) fun x44 =>
      some (.inl (w64 (s31 + 1), w64 (s32 + (w64 (x44 * x42)))))
    else
      some (.inr s32)
def K_cost_Need_l2 (x63 : api_Row) (p1 : api_Rates) : (Int × Int) → Option ((Int × Int) ⊕ Int) := fun s0 => match s0 with
  | (s74, s75) =>
    if decide (s74 < (x63.Cells.length : Int)) then
      Option.bind (idxO x63.Cells s74) fun x85 =>
      Option.bind (K_stitch_Makes [x85]) fun r94 =>
      Option.bind (idxO ([p1.Length.1, p1.Length.2.1, p1.Length.2.2.1, p1.Length.2.2.2.1, p1.Length.2.2.2.2.1, p1.Length.2.2.2.2.2.1, p1.Length.2.2.2.2.2.2.1, p1.Length.2.2.2.2.2.2.2.1, p1.Length.2.2.2.2.2.2.2.2.1, p1.Length.2.2.2.2.2.2.2.2.2.1, p1.Length.2.2.2.2.2.2.2.2.2.2] : List Int) x85.Kind) fun x96 =>
      some (.inl (w64 (s74 + 1), w64 (s75 + (w64 (x96 * (if (1 : Int) < r94.1 then r94.1 else 1))))))
    else
      some (.inr s75)
def K_cost_Need_l3 (p0 : api_Chart) (p1 : api_Rates) : (Int × Int) → Option ((Int × Int) ⊕ Int) := fun s0 => match s0 with
  | (s50, s51) =>
    if decide (s50 < (p0.Rows.length : Int)) then
      Option.bind (α := Int) (
        Option.bind (idxO p0.Rows s50) fun x63 =>
        Option.bind (whileK (K_cost_Need_l2 x63 p1) (0, s51)) fun e79 =>
          some e79) fun o59 =>
      some (.inl (w64 (s50 + 1), o59))
    else
      some (.inr s51)
def K_cost_Need (p0 : api_Chart) (p1 : api_Rates) : Option (api_Bill × Int) :=
  Option.bind (K_cost_Count p0) fun r10 =>
  if r10.2 != 0 then
    some ((api_Bill.mk 0 0), r10.2)
  else
    Option.bind (K_cost_Check p1) fun r20 =>
    if r20 != 0 then
      some ((api_Bill.mk 0 0), r20)
    else
      Option.bind (α := Int) (
        Option.bind (whileK (K_cost_Need_l1 r10 p1) (0, w64 (p1.Turn * (p0.Rows.length : Int)))) fun e36 =>
          some e36) fun o27 =>
      Option.bind (α := Int) (
        Option.bind (whileK (K_cost_Need_l3 p0 p1) (0, 0)) fun e55 =>
          some e55) fun o46 =>
      some ((api_Bill.mk o46 o27), 0)
def K_raddlelaw45_tex (p0 : Int) : Option api_Count :=
  some (api_Count.mk 1 (api_Ratio.mk p0 1))
def K_yarn_factors (p0 : Int) : Option (Int × Int × Bool × Bool) :=
  if p0 == 1 then
    some (1, 1, true, true)
  else
    if p0 == 2 then
      some (1, 9, true, true)
    else
      if p0 == 3 then
        some (1000, 1, false, true)
      else
        if p0 == 4 then
          some (226796185, 384048, false, true)
        else
          some (0, 0, false, false)
def K_yarn_size (p0 : Int) : Option Int :=
  if decide (p0 < 0) then
    some (IntKind.u64.wrap (0 - (IntKind.u64.wrap p0)))
  else
    some (IntKind.u64.wrap p0)
def K_yarn_gcd_l1  : (Int × Int) → Option ((Int × Int) ⊕ Int) := fun s0 => match s0 with
  | (s5, s6) =>
    if s6 != 0 then
      Option.bind (remI s5 s6) fun z14 =>
      some (.inl (s6, z14))
    else
      some (.inr s5)
def K_yarn_gcd (p0 : Int) (p1 : Int) : Option Int :=
  Option.bind (α := Int) (
    Option.bind (whileK (K_yarn_gcd_l1) (p0, p1)) fun e10 =>
      some e10) fun o2 =>
  some o2
def K_yarn_Check (p0 : api_Ratio) : Option Int :=
  Option.bind (α := Bool) (
    if decide (p0.Den < 1) then
      some true
    else
      if decide (1000000000 < p0.Den) then
        some true
      else
        Option.bind (K_yarn_size p0.Num) fun r9 =>
        if decide (1000000000 < r9) then
          some true
        else
          Option.bind (K_yarn_gcd r9 (IntKind.u64.wrap p0.Den)) fun r12 =>
          some (r12 != 1)) fun o4 =>
  if o4 then
    some 8
  else
    some 0
def K_yarn_counted (p0 : api_Count) : Option Int :=
  Option.bind (K_yarn_factors p0.System) fun r5 =>
  Option.bind (α := Bool) (
    if !r5.2.2.2 then
      some true
    else
      Option.bind (K_yarn_Check p0.N) fun r11 =>
      if r11 != 0 then
        some true
      else
        some (decide (p0.N.Num ≤ 0))) fun o7 =>
  if o7 then
    some 8
  else
    some 0
def K_yarn_Make (p0 : Int) (p1 : Int) : Option (api_Ratio × Int) :=
  if p1 == 0 then
    some ((api_Ratio.mk 0 0), 18)
  else
    Option.bind (K_yarn_size p0) fun r8 =>
    Option.bind (K_yarn_size p1) fun r10 =>
    Option.bind (K_yarn_gcd r8 r10) fun r13 =>
    Option.bind (quoK .u64 r8 r13) fun z16 =>
    Option.bind (quoK .u64 r10 r13) fun z18 =>
    Option.bind (α := Bool) (
      if decide (1000000000 < z16) then
        some true
      else
        some (decide (1000000000 < z18))) fun o21 =>
    if o21 then
      some ((api_Ratio.mk 0 0), 16)
    else
      Option.bind (α := Int) (
        if (decide (p0 < 0)) != (decide (p1 < 0)) then
          some (w64 (0 - (IntKind.i64.wrap z16)))
        else
          some (IntKind.i64.wrap z16)) fun o29 =>
      some ((api_Ratio.mk o29 (IntKind.i64.wrap z18)), 0)
def K_yarn_Convert (p0 : api_Count) (p1 : Int) : Option (api_Count × Int) :=
  Option.bind (K_yarn_counted p0) fun r6 =>
  if r6 != 0 then
    some ((api_Count.mk 0 (api_Ratio.mk 0 0)), r6)
  else
    Option.bind (K_yarn_factors p0.System) fun r12 =>
    Option.bind (K_yarn_factors p1) fun r15 =>
    if !r15.2.2.2 then
      some ((api_Count.mk 0 (api_Ratio.mk 0 0)), 2)
    else
      Option.bind (α := (Int × Int)) (
        Option.bind (α := Bool) (
          if !r12.2.2.1 then
            some (!r15.2.2.1)
          else
            some false) fun o26 =>
        if o26 then
          some (w64 (r12.2.1 * r15.1), w64 (r12.1 * r15.2.1))
        else
          some (w64 (r12.1 * r15.2.1), w64 (r12.2.1 * r15.1))) fun (o22, o23) =>
      Option.bind (α := (Int × Int)) (
        Option.bind (α := Bool) (
          if r12.2.2.1 then
            some (!r15.2.2.1)
          else
            some false) fun o35 =>
        if o35 then
          some (w64 (r15.1 * r12.2.1), w64 (r15.2.1 * r12.1))
        else
          some (o22, o23)) fun (o31, o32) =>
      Option.bind (K_yarn_gcd (IntKind.u64.wrap o31) (IntKind.u64.wrap o32)) fun r41 =>
      Option.bind (quoI o31 (IntKind.i64.wrap r41)) fun z44 =>
      Option.bind (quoI o32 (IntKind.i64.wrap r41)) fun z46 =>
      Option.bind (α := (Int × Int)) (
        if r12.2.2.1 != r15.2.2.1 then
          some (p0.N.Den, p0.N.Num)
        else
          some (p0.N.Num, p0.N.Den)) fun (o50, o51) =>
      Option.bind (K_yarn_Make (w64 (z44 * o50)) (w64 (z46 * o51))) fun r57 =>
      if r57.2 != 0 then
        some ((api_Count.mk 0 (api_Ratio.mk 0 0)), r57.2)
      else
        if r57.1.Num == 0 then
          some ((api_Count.mk 0 (api_Ratio.mk 0 0)), 16)
        else
          some ((api_Count.mk p1 r57.1), 0)
def K_yarn_Weigh (p0 : api_Count) (p1 : Int) : Option (api_Ratio × Int) :=
  Option.bind (K_yarn_counted p0) fun r6 =>
  if r6 != 0 then
    some ((api_Ratio.mk 0 0), r6)
  else
    Option.bind (α := Bool) (
      if decide (p1 < 0) then
        some true
      else
        some (decide (1000000000 < p1))) fun o12 =>
    if o12 then
      some ((api_Ratio.mk 0 0), 2)
    else
      Option.bind (K_yarn_Convert p0 1) fun r19 =>
      if r19.2 != 0 then
        some ((api_Ratio.mk 0 0), r19.2)
      else
        Option.bind (K_yarn_Make (w64 (p1 * r19.1.N.Num)) (w64 (10000 * r19.1.N.Den))) fun r28 =>
        some (r28.1, r28.2)
def K_cost_Weight (p0 : api_Bill) (p1 : api_Count) : Option (api_Ratio × Int) :=
  Option.bind (α := Bool) (
    if decide (p0.Length < 0) then
      some true
    else
      some (decide (p0.Time < 0))) fun o6 =>
  if o6 then
    some ((api_Ratio.mk 0 0), 2)
  else
    Option.bind (K_yarn_Weigh p1 p0.Length) fun r13 =>
    some (r13.1, r13.2)
def K_yarn_floor (p0 : Int) (p1 : Int) : Option Int :=
  Option.bind (quoI p0 p1) fun z3 =>
  Option.bind (α := Int) (
    Option.bind (remI p0 p1) fun z9 =>
    if decide (z9 < 0) then
      some (w64 (z3 - 1))
    else
      some z3) fun o5 =>
  some o5
def K_yarn_Skeins (p0 : api_Count) (p1 : Int) (p2 : Int) : Option (Int × Int) :=
  Option.bind (K_yarn_Weigh p0 p1) fun r4 =>
  if r4.2 != 0 then
    some (0, r4.2)
  else
    Option.bind (α := Bool) (
      if decide (p2 < 1) then
        some true
      else
        some (decide (1000000000 < p2))) fun o13 =>
    if o13 then
      some (0, 2)
    else
      Option.bind (K_yarn_floor (w64 (0 - r4.1.Num)) (w64 (r4.1.Den * p2))) fun r20 =>
      some (w64 (0 - r20), 0)
def K_cost_Price (p0 : api_Bill) (p1 : api_Count) (p2 : Int) (p3 : Int) : Option (Int × Int × Int) :=
  Option.bind (α := Bool) (
    if decide (p0.Length < 0) then
      some true
    else
      some (decide (p0.Time < 0))) fun o5 =>
  if o5 then
    some (0, 0, 2)
  else
    Option.bind (K_yarn_Skeins p1 p0.Length p2) fun r12 =>
    if r12.2 != 0 then
      some (0, 0, r12.2)
    else
      Option.bind (α := Bool) (
        if decide (p3 < 0) then
          some true
        else
          some (decide (1000000 < p3))) fun o19 =>
      if o19 then
        some (0, 0, 2)
      else
        some (r12.1, w64 (r12.1 * p3), 0)
theorem m_raddleref25_Cut_l1 (p0 : ByteArray) (p1 : Int) : ∀ s, Le (K_raddleref25_Cut_l1 p0 p1 s) (raddleref25_Cut_l1 p0 p1 s) := by
  unfold K_raddleref25_Cut_l1 raddleref25_Cut_l1
  with_reducible repeat' (first | exact Le.rfl _ | refine Le.loop _ ?_ | refine Le.bind ?_ ?_ | refine Le.ite ?_ ?_ | refine Le.sum ?_ ?_ | refine Le.prod ?_ | intro _ | exact Empty.elim (by assumption) | dsimp only)
theorem m_F_raddleref25_Cut (p0 : ByteArray) (p1 : Int) : Le (K_raddleref25_Cut p0 p1) (F_raddleref25_Cut p0 p1) := by
  unfold K_raddleref25_Cut F_raddleref25_Cut
  with_reducible repeat' (first | exact m_raddleref25_Cut_l1 _ _ | exact Le.rfl _ | refine Le.loop _ ?_ | refine Le.bind ?_ ?_ | refine Le.ite ?_ ?_ | refine Le.sum ?_ ?_ | refine Le.prod ?_ | intro _ | exact Empty.elim (by assumption) | dsimp only)
theorem m_raddleref25_Number_l1 (p0 : ByteArray) : ∀ s, Le (K_raddleref25_Number_l1 p0 s) (raddleref25_Number_l1 p0 s) := by
  unfold K_raddleref25_Number_l1 raddleref25_Number_l1
  with_reducible repeat' (first | exact Le.rfl _ | refine Le.loop _ ?_ | refine Le.bind ?_ ?_ | refine Le.ite ?_ ?_ | refine Le.sum ?_ ?_ | refine Le.prod ?_ | intro _ | exact Empty.elim (by assumption) | dsimp only)
theorem m_F_raddleref25_Number (p0 : ByteArray) : Le (K_raddleref25_Number p0) (F_raddleref25_Number p0) := by
  unfold K_raddleref25_Number F_raddleref25_Number
  with_reducible repeat' (first | exact m_raddleref25_Number_l1 _ | exact Le.rfl _ | refine Le.loop _ ?_ | refine Le.bind ?_ ?_ | refine Le.ite ?_ ?_ | refine Le.sum ?_ ?_ | refine Le.prod ?_ | intro _ | exact Empty.elim (by assumption) | dsimp only)
theorem m_raddleref26_Parse_l1 (r8 : (List ByteArray)) (s54 : Int) : ∀ s, Le (K_raddleref26_Parse_l1 r8 s54 s) (raddleref26_Parse_l1 r8 s54 s) := by
  unfold K_raddleref26_Parse_l1 raddleref26_Parse_l1
  with_reducible repeat' (first | exact Le.rfl _ | refine Le.loop _ ?_ | refine Le.bind ?_ ?_ | refine Le.ite ?_ ?_ | refine Le.sum ?_ ?_ | refine Le.prod ?_ | intro _ | exact Empty.elim (by assumption) | dsimp only)
theorem m_raddleref25_word_l1 (r49 : (Int × Bool)) (x35 : Int) : ∀ s, Le (K_raddleref25_word_l1 r49 x35 s) (raddleref25_word_l1 r49 x35 s) := by
  unfold K_raddleref25_word_l1 raddleref25_word_l1
  with_reducible repeat' (first | exact Le.rfl _ | refine Le.loop _ ?_ | refine Le.bind ?_ ?_ | refine Le.ite ?_ ?_ | refine Le.sum ?_ ?_ | refine Le.prod ?_ | intro _ | exact Empty.elim (by assumption) | dsimp only)
theorem m_raddleref25_kind_l1 (p0 : Int) : ∀ s, Le (K_raddleref25_kind_l1 p0 s) (raddleref25_kind_l1 p0 s) := by
  unfold K_raddleref25_kind_l1 raddleref25_kind_l1
  with_reducible repeat' (first | exact Le.rfl _ | refine Le.loop _ ?_ | refine Le.bind ?_ ?_ | refine Le.ite ?_ ?_ | refine Le.sum ?_ ?_ | refine Le.prod ?_ | intro _ | exact Empty.elim (by assumption) | dsimp only)
theorem m_F_raddleref25_kind (p0 : Int) : Le (K_raddleref25_kind p0) (F_raddleref25_kind p0) := by
  unfold K_raddleref25_kind F_raddleref25_kind
  with_reducible repeat' (first | exact m_raddleref25_kind_l1 _ | exact Le.rfl _ | refine Le.loop _ ?_ | refine Le.bind ?_ ?_ | refine Le.ite ?_ ?_ | refine Le.sum ?_ ?_ | refine Le.prod ?_ | intro _ | exact Empty.elim (by assumption) | dsimp only)
theorem m_F_raddleref25_word (p0 : ByteArray) : Le (K_raddleref25_word p0) (F_raddleref25_word p0) := by
  unfold K_raddleref25_word F_raddleref25_word
  with_reducible repeat' (first | exact m_F_raddleref25_Number _ | exact m_raddleref25_word_l1 _ _ | exact m_F_raddleref25_kind _ | exact m_F_raddleref25_Cut _ _ | exact Le.rfl _ | refine Le.loop _ ?_ | refine Le.bind ?_ ?_ | refine Le.ite ?_ ?_ | refine Le.sum ?_ ?_ | refine Le.prod ?_ | intro _ | exact Empty.elim (by assumption) | dsimp only)
theorem m_raddleref25_Parse_l1 (r11 : (List ByteArray)) : ∀ s, Le (K_raddleref25_Parse_l1 r11 s) (raddleref25_Parse_l1 r11 s) := by
  unfold K_raddleref25_Parse_l1 raddleref25_Parse_l1
  with_reducible repeat' (first | exact m_F_raddleref25_word _ | exact Le.rfl _ | refine Le.loop _ ?_ | refine Le.bind ?_ ?_ | refine Le.ite ?_ ?_ | refine Le.sum ?_ ?_ | refine Le.prod ?_ | intro _ | exact Empty.elim (by assumption) | dsimp only)
theorem m_F_raddleref25_Check (p0 : api_Stitch) : Le (K_raddleref25_Check p0) (F_raddleref25_Check p0) := by
  unfold K_raddleref25_Check F_raddleref25_Check
  with_reducible repeat' (first | exact Le.rfl _ | refine Le.loop _ ?_ | refine Le.bind ?_ ?_ | refine Le.ite ?_ ?_ | refine Le.sum ?_ ?_ | refine Le.prod ?_ | intro _ | exact Empty.elim (by assumption) | dsimp only)
theorem m_raddleref25_All_l1 (p0 : (List api_Stitch)) : ∀ s, Le (K_raddleref25_All_l1 p0 s) (raddleref25_All_l1 p0 s) := by
  unfold K_raddleref25_All_l1 raddleref25_All_l1
  with_reducible repeat' (first | exact m_F_raddleref25_Check _ | exact Le.rfl _ | refine Le.loop _ ?_ | refine Le.bind ?_ ?_ | refine Le.ite ?_ ?_ | refine Le.sum ?_ ?_ | refine Le.prod ?_ | intro _ | exact Empty.elim (by assumption) | dsimp only)
theorem m_F_raddleref25_Used (p0 : api_Stitch) : Le (K_raddleref25_Used p0) (F_raddleref25_Used p0) := by
  unfold K_raddleref25_Used F_raddleref25_Used
  with_reducible repeat' (first | exact Le.rfl _ | refine Le.loop _ ?_ | refine Le.bind ?_ ?_ | refine Le.ite ?_ ?_ | refine Le.sum ?_ ?_ | refine Le.prod ?_ | intro _ | exact Empty.elim (by assumption) | dsimp only)
theorem m_F_raddleref25_Gives (p0 : api_Stitch) : Le (K_raddleref25_Gives p0) (F_raddleref25_Gives p0) := by
  unfold K_raddleref25_Gives F_raddleref25_Gives
  with_reducible repeat' (first | exact Le.rfl _ | refine Le.loop _ ?_ | refine Le.bind ?_ ?_ | refine Le.ite ?_ ?_ | refine Le.sum ?_ ?_ | refine Le.prod ?_ | intro _ | exact Empty.elim (by assumption) | dsimp only)
theorem m_raddleref25_sums_l1 (p0 : (List api_Stitch)) : ∀ s, Le (K_raddleref25_sums_l1 p0 s) (raddleref25_sums_l1 p0 s) := by
  unfold K_raddleref25_sums_l1 raddleref25_sums_l1
  with_reducible repeat' (first | exact m_F_raddleref25_Used _ | exact m_F_raddleref25_Gives _ | exact Le.rfl _ | refine Le.loop _ ?_ | refine Le.bind ?_ ?_ | refine Le.ite ?_ ?_ | refine Le.sum ?_ ?_ | refine Le.prod ?_ | intro _ | exact Empty.elim (by assumption) | dsimp only)
theorem m_F_raddleref25_sums (p0 : (List api_Stitch)) : Le (K_raddleref25_sums p0) (F_raddleref25_sums p0) := by
  unfold K_raddleref25_sums F_raddleref25_sums
  with_reducible repeat' (first | exact m_raddleref25_sums_l1 _ | exact Le.rfl _ | refine Le.loop _ ?_ | refine Le.bind ?_ ?_ | refine Le.ite ?_ ?_ | refine Le.sum ?_ ?_ | refine Le.prod ?_ | intro _ | exact Empty.elim (by assumption) | dsimp only)
theorem m_F_raddleref25_All (p0 : (List api_Stitch)) : Le (K_raddleref25_All p0) (F_raddleref25_All p0) := by
  unfold K_raddleref25_All F_raddleref25_All
  with_reducible repeat' (first | exact m_raddleref25_All_l1 _ | exact m_F_raddleref25_sums _ | exact Le.rfl _ | refine Le.loop _ ?_ | refine Le.bind ?_ ?_ | refine Le.ite ?_ ?_ | refine Le.sum ?_ ?_ | refine Le.prod ?_ | intro _ | exact Empty.elim (by assumption) | dsimp only)
theorem m_raddleref25_Decimal_l1  : ∀ s, Le (K_raddleref25_Decimal_l1 s) (raddleref25_Decimal_l1 s) := by
  unfold K_raddleref25_Decimal_l1 raddleref25_Decimal_l1
  with_reducible repeat' (first | exact Le.rfl _ | refine Le.loop _ ?_ | refine Le.bind ?_ ?_ | refine Le.ite ?_ ?_ | refine Le.sum ?_ ?_ | refine Le.prod ?_ | intro _ | exact Empty.elim (by assumption) | dsimp only)
theorem m_F_raddleref25_Decimal (p0 : Int) : Le (K_raddleref25_Decimal p0) (F_raddleref25_Decimal p0) := by
  unfold K_raddleref25_Decimal F_raddleref25_Decimal
  with_reducible repeat' (first | exact m_raddleref25_Decimal_l1 | exact Le.rfl _ | refine Le.loop _ ?_ | refine Le.bind ?_ ?_ | refine Le.ite ?_ ?_ | refine Le.sum ?_ ?_ | refine Le.prod ?_ | intro _ | exact Empty.elim (by assumption) | dsimp only)
theorem m_F_raddleref25_one (p0 : api_Stitch) : Le (K_raddleref25_one p0) (F_raddleref25_one p0) := by
  unfold K_raddleref25_one F_raddleref25_one
  with_reducible repeat' (first | exact m_F_raddleref25_Decimal _ | exact Le.rfl _ | refine Le.loop _ ?_ | refine Le.bind ?_ ?_ | refine Le.ite ?_ ?_ | refine Le.sum ?_ ?_ | refine Le.prod ?_ | intro _ | exact Empty.elim (by assumption) | dsimp only)
theorem m_raddleref25_Written_l1 (p0 : (List api_Stitch)) : ∀ s, Le (K_raddleref25_Written_l1 p0 s) (raddleref25_Written_l1 p0 s) := by
  unfold K_raddleref25_Written_l1 raddleref25_Written_l1
  with_reducible repeat' (first | exact Le.rfl _ | refine Le.loop _ ?_ | refine Le.bind ?_ ?_ | refine Le.ite ?_ ?_ | refine Le.sum ?_ ?_ | refine Le.prod ?_ | intro _ | exact Empty.elim (by assumption) | dsimp only)
theorem m_raddleref25_Written_l2 (p0 : (List api_Stitch)) : ∀ s, Le (K_raddleref25_Written_l2 p0 s) (raddleref25_Written_l2 p0 s) := by
  unfold K_raddleref25_Written_l2 raddleref25_Written_l2
  with_reducible repeat' (first | exact m_F_raddleref25_one _ | exact m_raddleref25_Written_l1 _ | exact m_F_raddleref25_Decimal _ | exact Le.rfl _ | refine Le.loop _ ?_ | refine Le.bind ?_ ?_ | refine Le.ite ?_ ?_ | refine Le.sum ?_ ?_ | refine Le.prod ?_ | intro _ | exact Empty.elim (by assumption) | dsimp only)
theorem m_F_raddleref25_Written (p0 : (List api_Stitch)) : Le (K_raddleref25_Written p0) (F_raddleref25_Written p0) := by
  unfold K_raddleref25_Written F_raddleref25_Written
  with_reducible repeat' (first | exact m_raddleref25_Written_l2 _ | exact Le.rfl _ | refine Le.loop _ ?_ | refine Le.bind ?_ ?_ | refine Le.ite ?_ ?_ | refine Le.sum ?_ ?_ | refine Le.prod ?_ | intro _ | exact Empty.elim (by assumption) | dsimp only)
theorem m_F_raddleref25_Parse (p0 : ByteArray) : Le (K_raddleref25_Parse p0) (F_raddleref25_Parse p0) := by
  unfold K_raddleref25_Parse F_raddleref25_Parse
  with_reducible repeat' (first | exact m_F_raddleref25_Cut _ _ | exact m_raddleref25_Parse_l1 _ | exact m_F_raddleref25_All _ | exact m_F_raddleref25_Written _ | exact Le.rfl _ | refine Le.loop _ ?_ | refine Le.bind ?_ ?_ | refine Le.ite ?_ ?_ | refine Le.sum ?_ ?_ | refine Le.prod ?_ | intro _ | exact Empty.elim (by assumption) | dsimp only)
theorem m_raddleref26_Parse_l2 (r8 : (List ByteArray)) : ∀ s, Le (K_raddleref26_Parse_l2 r8 s) (raddleref26_Parse_l2 r8 s) := by
  unfold K_raddleref26_Parse_l2 raddleref26_Parse_l2
  with_reducible repeat' (first | exact m_raddleref26_Parse_l1 _ _ | exact m_F_raddleref25_Parse _ | exact Le.rfl _ | refine Le.loop _ ?_ | refine Le.bind ?_ ?_ | refine Le.ite ?_ ?_ | refine Le.sum ?_ ?_ | refine Le.prod ?_ | intro _ | exact Empty.elim (by assumption) | dsimp only)
theorem m_F_raddleref25_Uses (p0 : (List api_Stitch)) : Le (K_raddleref25_Uses p0) (F_raddleref25_Uses p0) := by
  unfold K_raddleref25_Uses F_raddleref25_Uses
  with_reducible repeat' (first | exact m_F_raddleref25_All _ | exact m_F_raddleref25_sums _ | exact Le.rfl _ | refine Le.loop _ ?_ | refine Le.bind ?_ ?_ | refine Le.ite ?_ ?_ | refine Le.sum ?_ ?_ | refine Le.prod ?_ | intro _ | exact Empty.elim (by assumption) | dsimp only)
theorem m_F_raddleref25_Makes (p0 : (List api_Stitch)) : Le (K_raddleref25_Makes p0) (F_raddleref25_Makes p0) := by
  unfold K_raddleref25_Makes F_raddleref25_Makes
  with_reducible repeat' (first | exact m_F_raddleref25_All _ | exact m_F_raddleref25_sums _ | exact Le.rfl _ | refine Le.loop _ ?_ | refine Le.bind ?_ ?_ | refine Le.ite ?_ ?_ | refine Le.sum ?_ ?_ | refine Le.prod ?_ | intro _ | exact Empty.elim (by assumption) | dsimp only)
theorem m_raddleref26_Check_l1 (p0 : api_Chart) : ∀ s, Le (K_raddleref26_Check_l1 p0 s) (raddleref26_Check_l1 p0 s) := by
  unfold K_raddleref26_Check_l1 raddleref26_Check_l1
  with_reducible repeat' (first | exact m_F_raddleref25_Uses _ | exact m_F_raddleref25_Makes _ | exact Le.rfl _ | refine Le.loop _ ?_ | refine Le.bind ?_ ?_ | refine Le.ite ?_ ?_ | refine Le.sum ?_ ?_ | refine Le.prod ?_ | intro _ | exact Empty.elim (by assumption) | dsimp only)
theorem m_F_raddleref26_Check (p0 : api_Chart) : Le (K_raddleref26_Check p0) (F_raddleref26_Check p0) := by
  unfold K_raddleref26_Check F_raddleref26_Check
  with_reducible repeat' (first | exact m_raddleref26_Check_l1 _ | exact Le.rfl _ | refine Le.loop _ ?_ | refine Le.bind ?_ ?_ | refine Le.ite ?_ ?_ | refine Le.sum ?_ ?_ | refine Le.prod ?_ | intro _ | exact Empty.elim (by assumption) | dsimp only)
theorem m_F_raddleref26_side (p0 : Bool) : Le (K_raddleref26_side p0) (F_raddleref26_side p0) := by
  unfold K_raddleref26_side F_raddleref26_side
  with_reducible repeat' (first | exact Le.rfl _ | refine Le.loop _ ?_ | refine Le.bind ?_ ?_ | refine Le.ite ?_ ?_ | refine Le.sum ?_ ?_ | refine Le.prod ?_ | intro _ | exact Empty.elim (by assumption) | dsimp only)
theorem m_raddleref26_Written_l1 (p0 : api_Chart) : ∀ s, Le (K_raddleref26_Written_l1 p0 s) (raddleref26_Written_l1 p0 s) := by
  unfold K_raddleref26_Written_l1 raddleref26_Written_l1
  with_reducible repeat' (first | exact m_F_raddleref25_Written _ | exact m_F_raddleref26_side _ | exact Le.rfl _ | refine Le.loop _ ?_ | refine Le.bind ?_ ?_ | refine Le.ite ?_ ?_ | refine Le.sum ?_ ?_ | refine Le.prod ?_ | intro _ | exact Empty.elim (by assumption) | dsimp only)
theorem m_F_raddleref26_Written (p0 : api_Chart) : Le (K_raddleref26_Written p0) (F_raddleref26_Written p0) := by
  unfold K_raddleref26_Written F_raddleref26_Written
  with_reducible repeat' (first | exact m_F_raddleref25_Decimal _ | exact m_raddleref26_Written_l1 _ | exact Le.rfl _ | refine Le.loop _ ?_ | refine Le.bind ?_ ?_ | refine Le.ite ?_ ?_ | refine Le.sum ?_ ?_ | refine Le.prod ?_ | intro _ | exact Empty.elim (by assumption) | dsimp only)
theorem m_F_raddleref26_Parse (p0 : ByteArray) : Le (K_raddleref26_Parse p0) (F_raddleref26_Parse p0) := by
  unfold K_raddleref26_Parse F_raddleref26_Parse
  with_reducible repeat' (first | exact m_F_raddleref25_Cut _ _ | exact m_F_raddleref25_Number _ | exact m_raddleref26_Parse_l2 _ | exact m_F_raddleref26_Check _ | exact m_F_raddleref26_Written _ | exact Le.rfl _ | refine Le.loop _ ?_ | refine Le.bind ?_ ?_ | refine Le.ite ?_ ?_ | refine Le.sum ?_ ?_ | refine Le.prod ?_ | intro _ | exact Empty.elim (by assumption) | dsimp only)
theorem m_F_raddlelaw45_given  : Le (K_raddlelaw45_given) (F_raddlelaw45_given) := by
  unfold K_raddlelaw45_given F_raddlelaw45_given
  with_reducible repeat' (first | exact m_F_raddleref26_Parse _ | exact Le.rfl _ | refine Le.loop _ ?_ | refine Le.bind ?_ ?_ | refine Le.ite ?_ ?_ | refine Le.sum ?_ ?_ | refine Le.prod ?_ | intro _ | exact Empty.elim (by assumption) | dsimp only)
theorem m_F_chart_counted (p0 : api_Chart) : Le (K_chart_counted p0) (F_chart_counted p0) := by
  unfold K_chart_counted F_chart_counted
  with_reducible repeat' (first | exact Le.rfl _ | refine Le.loop _ ?_ | refine Le.bind ?_ ?_ | refine Le.ite ?_ ?_ | refine Le.sum ?_ ?_ | refine Le.prod ?_ | intro _ | exact Empty.elim (by assumption) | dsimp only)
theorem m_F_stitch_forms (p0 : Int) : Le (K_stitch_forms p0) (F_stitch_forms p0) := by
  unfold K_stitch_forms F_stitch_forms
  with_reducible repeat' (first | exact Le.rfl _ | refine Le.loop _ ?_ | refine Le.bind ?_ ?_ | refine Le.ite ?_ ?_ | refine Le.sum ?_ ?_ | refine Le.prod ?_ | intro _ | exact Empty.elim (by assumption) | dsimp only)
theorem m_F_stitch_within (p0 : Int) (p1 : (Int × Int)) : Le (K_stitch_within p0 p1) (F_stitch_within p0 p1) := by
  unfold K_stitch_within F_stitch_within
  with_reducible repeat' (first | exact Le.rfl _ | refine Le.loop _ ?_ | refine Le.bind ?_ ?_ | refine Le.ite ?_ ?_ | refine Le.sum ?_ ?_ | refine Le.prod ?_ | intro _ | exact Empty.elim (by assumption) | dsimp only)
theorem m_F_stitch_Check (p0 : api_Stitch) : Le (K_stitch_Check p0) (F_stitch_Check p0) := by
  unfold K_stitch_Check F_stitch_Check
  with_reducible repeat' (first | exact m_F_stitch_forms _ | exact m_F_stitch_within _ _ | exact Le.rfl _ | refine Le.loop _ ?_ | refine Le.bind ?_ ?_ | refine Le.ite ?_ ?_ | refine Le.sum ?_ ?_ | refine Le.prod ?_ | intro _ | exact Empty.elim (by assumption) | dsimp only)
theorem m_F_stitch_All_1 (p0 : api_Stitch) : Le (K_stitch_All_1 p0) (F_stitch_All_1 p0) := by
  unfold K_stitch_All_1 F_stitch_All_1
  with_reducible repeat' (first | exact m_F_stitch_Check _ | exact Le.rfl _ | refine Le.loop _ ?_ | refine Le.bind ?_ ?_ | refine Le.ite ?_ ?_ | refine Le.sum ?_ ?_ | refine Le.prod ?_ | intro _ | exact Empty.elim (by assumption) | dsimp only)
theorem m_slices_IndexFunc___api_Stitch_api_Stitch__s0_l1 (p0 : (List api_Stitch)) : ∀ s, Le (K_slices_IndexFunc___api_Stitch_api_Stitch__s0_l1 p0 s) (slices_IndexFunc___api_Stitch_api_Stitch__s0_l1 p0 s) := by
  unfold K_slices_IndexFunc___api_Stitch_api_Stitch__s0_l1 slices_IndexFunc___api_Stitch_api_Stitch__s0_l1
  with_reducible repeat' (first | exact m_F_stitch_All_1 _ | exact Le.rfl _ | refine Le.loop _ ?_ | refine Le.bind ?_ ?_ | refine Le.ite ?_ ?_ | refine Le.sum ?_ ?_ | refine Le.prod ?_ | intro _ | exact Empty.elim (by assumption) | dsimp only)
theorem m_F_slices_IndexFunc___api_Stitch_api_Stitch__s0 (p0 : (List api_Stitch)) : Le (K_slices_IndexFunc___api_Stitch_api_Stitch__s0 p0) (F_slices_IndexFunc___api_Stitch_api_Stitch__s0 p0) := by
  unfold K_slices_IndexFunc___api_Stitch_api_Stitch__s0 F_slices_IndexFunc___api_Stitch_api_Stitch__s0
  with_reducible repeat' (first | exact m_slices_IndexFunc___api_Stitch_api_Stitch__s0_l1 _ | exact Le.rfl _ | refine Le.loop _ ?_ | refine Le.bind ?_ ?_ | refine Le.ite ?_ ?_ | refine Le.sum ?_ ?_ | refine Le.prod ?_ | intro _ | exact Empty.elim (by assumption) | dsimp only)
theorem m_F_slices_ContainsFunc___api_Stitch_api_Stitch__s0 (p0 : (List api_Stitch)) : Le (K_slices_ContainsFunc___api_Stitch_api_Stitch__s0 p0) (F_slices_ContainsFunc___api_Stitch_api_Stitch__s0 p0) := by
  unfold K_slices_ContainsFunc___api_Stitch_api_Stitch__s0 F_slices_ContainsFunc___api_Stitch_api_Stitch__s0
  with_reducible repeat' (first | exact m_F_slices_IndexFunc___api_Stitch_api_Stitch__s0 _ | exact Le.rfl _ | refine Le.loop _ ?_ | refine Le.bind ?_ ?_ | refine Le.ite ?_ ?_ | refine Le.sum ?_ ?_ | refine Le.prod ?_ | intro _ | exact Empty.elim (by assumption) | dsimp only)
theorem m_F_stitch_loops (p0 : api_Stitch) (p1 : Int) : Le (K_stitch_loops p0 p1) (F_stitch_loops p0 p1) := by
  unfold K_stitch_loops F_stitch_loops
  with_reducible repeat' (first | exact Le.rfl _ | refine Le.loop _ ?_ | refine Le.bind ?_ ?_ | refine Le.ite ?_ ?_ | refine Le.sum ?_ ?_ | refine Le.prod ?_ | intro _ | exact Empty.elim (by assumption) | dsimp only)
theorem m_stitch_sum_l1 (p0 : (List api_Stitch)) : ∀ s, Le (K_stitch_sum_l1 p0 s) (stitch_sum_l1 p0 s) := by
  unfold K_stitch_sum_l1 stitch_sum_l1
  with_reducible repeat' (first | exact m_F_stitch_forms _ | exact m_F_stitch_loops _ _ | exact Le.rfl _ | refine Le.loop _ ?_ | refine Le.bind ?_ ?_ | refine Le.ite ?_ ?_ | refine Le.sum ?_ ?_ | refine Le.prod ?_ | intro _ | exact Empty.elim (by assumption) | dsimp only)
theorem m_F_stitch_sum (p0 : (List api_Stitch)) : Le (K_stitch_sum p0) (F_stitch_sum p0) := by
  unfold K_stitch_sum F_stitch_sum
  with_reducible repeat' (first | exact m_stitch_sum_l1 _ | exact Le.rfl _ | refine Le.loop _ ?_ | refine Le.bind ?_ ?_ | refine Le.ite ?_ ?_ | refine Le.sum ?_ ?_ | refine Le.prod ?_ | intro _ | exact Empty.elim (by assumption) | dsimp only)
theorem m_F_stitch_All (p0 : (List api_Stitch)) : Le (K_stitch_All p0) (F_stitch_All p0) := by
  unfold K_stitch_All F_stitch_All
  with_reducible repeat' (first | exact m_F_slices_ContainsFunc___api_Stitch_api_Stitch__s0 _ | exact m_F_stitch_sum _ | exact Le.rfl _ | refine Le.loop _ ?_ | refine Le.bind ?_ ?_ | refine Le.ite ?_ ?_ | refine Le.sum ?_ ?_ | refine Le.prod ?_ | intro _ | exact Empty.elim (by assumption) | dsimp only)
theorem m_F_stitch_Uses (p0 : (List api_Stitch)) : Le (K_stitch_Uses p0) (F_stitch_Uses p0) := by
  unfold K_stitch_Uses F_stitch_Uses
  with_reducible repeat' (first | exact m_F_stitch_All _ | exact m_F_stitch_sum _ | exact Le.rfl _ | refine Le.loop _ ?_ | refine Le.bind ?_ ?_ | refine Le.ite ?_ ?_ | refine Le.sum ?_ ?_ | refine Le.prod ?_ | intro _ | exact Empty.elim (by assumption) | dsimp only)
theorem m_F_stitch_Makes (p0 : (List api_Stitch)) : Le (K_stitch_Makes p0) (F_stitch_Makes p0) := by
  unfold K_stitch_Makes F_stitch_Makes
  with_reducible repeat' (first | exact m_F_stitch_All _ | exact m_F_stitch_sum _ | exact Le.rfl _ | refine Le.loop _ ?_ | refine Le.bind ?_ ?_ | refine Le.ite ?_ ?_ | refine Le.sum ?_ ?_ | refine Le.prod ?_ | intro _ | exact Empty.elim (by assumption) | dsimp only)
theorem m_chart_counted_1_l1 {σ τ : Type} (p0 : api_Chart) (B B' : σ → (Int × chart_count) → Option (σ ⊕ τ)) (hB : ∀ s x, Le (B s x) (B' s x)) : ∀ s, Le (K_chart_counted_1_l1 p0 B s) (chart_counted_1_l1 p0 B' s) := by
  unfold K_chart_counted_1_l1 chart_counted_1_l1
  with_reducible repeat' (first | exact hB _ _ | exact m_F_stitch_Uses _ | exact m_F_stitch_Makes _ | exact Le.rfl _ | refine Le.loop _ ?_ | refine Le.bind ?_ ?_ | refine Le.ite ?_ ?_ | refine Le.sum ?_ ?_ | refine Le.prod ?_ | intro _ | exact Empty.elim (by assumption) | dsimp only)
theorem m_I_chart_counted_1 (p0 : api_Chart) (σ τ : Type) (B B' : σ → (Int × chart_count) → Option (σ ⊕ τ)) (hB : ∀ s x, Le (B s x) (B' s x)) (gz0 : σ) : Le (K_I_chart_counted_1 p0 σ τ B gz0) (I_chart_counted_1 p0 σ τ B' gz0) := by
  unfold K_I_chart_counted_1 I_chart_counted_1
  with_reducible repeat' (first | exact hB _ _ | exact m_chart_counted_1_l1 _ _ _ hB | exact Le.rfl _ | refine Le.loop _ ?_ | refine Le.bind ?_ ?_ | refine Le.ite ?_ ?_ | refine Le.sum ?_ ?_ | refine Le.prod ?_ | intro _ | exact Empty.elim (by assumption) | dsimp only)
theorem m_chart_Check_l2  : ∀ s x, Le (K_chart_Check_l2 s x) (chart_Check_l2 s x) := by
  unfold K_chart_Check_l2 chart_Check_l2
  with_reducible repeat' (first | exact Le.rfl _ | refine Le.loop _ ?_ | refine Le.bind ?_ ?_ | refine Le.ite ?_ ?_ | refine Le.sum ?_ ?_ | refine Le.prod ?_ | intro _ | exact Empty.elim (by assumption) | dsimp only)
theorem m_F_chart_Check (p0 : api_Chart) : Le (K_chart_Check p0) (F_chart_Check p0) := by
  unfold K_chart_Check F_chart_Check
  with_reducible repeat' (first | exact m_F_chart_counted _ | refine m_I_chart_counted_1 _ _ _ _ _ ?_ _ | exact m_chart_Check_l2 | exact Le.rfl _ | refine Le.loop _ ?_ | refine Le.bind ?_ ?_ | refine Le.ite ?_ ?_ | refine Le.sum ?_ ?_ | refine Le.prod ?_ | intro _ | exact Empty.elim (by assumption) | dsimp only)
theorem m_cost_Count_l1 (x74 : api_Row) : ∀ s, Le (K_cost_Count_l1 x74 s) (cost_Count_l1 x74 s) := by
  unfold K_cost_Count_l1 cost_Count_l1
  with_reducible repeat' (first | exact Le.rfl _ | refine Le.loop _ ?_ | refine Le.bind ?_ ?_ | refine Le.ite ?_ ?_ | refine Le.sum ?_ ?_ | refine Le.prod ?_ | intro _ | exact Empty.elim (by assumption) | dsimp only)
theorem m_cost_Count_l2 (p0 : api_Chart) : ∀ s, Le (K_cost_Count_l2 p0 s) (cost_Count_l2 p0 s) := by
  unfold K_cost_Count_l2 cost_Count_l2
  with_reducible repeat' (first | exact m_cost_Count_l1 _ | exact Le.rfl _ | refine Le.loop _ ?_ | refine Le.bind ?_ ?_ | refine Le.ite ?_ ?_ | refine Le.sum ?_ ?_ | refine Le.prod ?_ | intro _ | exact Empty.elim (by assumption) | dsimp only)
theorem m_F_cost_Count (p0 : api_Chart) : Le (K_cost_Count p0) (F_cost_Count p0) := by
  unfold K_cost_Count F_cost_Count
  with_reducible repeat' (first | exact m_F_chart_Check _ | exact m_cost_Count_l2 _ | exact Le.rfl _ | refine Le.loop _ ?_ | refine Le.bind ?_ ?_ | refine Le.ite ?_ ?_ | refine Le.sum ?_ ?_ | refine Le.prod ?_ | intro _ | exact Empty.elim (by assumption) | dsimp only)
theorem m_F_raddlelaw45_rates  : Le (K_raddlelaw45_rates) (F_raddlelaw45_rates) := by
  unfold K_raddlelaw45_rates F_raddlelaw45_rates
  with_reducible repeat' (first | exact Le.rfl _ | refine Le.loop _ ?_ | refine Le.bind ?_ ?_ | refine Le.ite ?_ ?_ | refine Le.sum ?_ ?_ | refine Le.prod ?_ | intro _ | exact Empty.elim (by assumption) | dsimp only)
theorem m_F_cost_rate (p0 : Int) : Le (K_cost_rate p0) (F_cost_rate p0) := by
  unfold K_cost_rate F_cost_rate
  with_reducible repeat' (first | exact Le.rfl _ | refine Le.loop _ ?_ | refine Le.bind ?_ ?_ | refine Le.ite ?_ ?_ | refine Le.sum ?_ ?_ | refine Le.prod ?_ | intro _ | exact Empty.elim (by assumption) | dsimp only)
theorem m_cost_Check_l1 (p0 : api_Rates) : ∀ s, Le (K_cost_Check_l1 p0 s) (cost_Check_l1 p0 s) := by
  unfold K_cost_Check_l1 cost_Check_l1
  with_reducible repeat' (first | exact m_F_cost_rate _ | exact Le.rfl _ | refine Le.loop _ ?_ | refine Le.bind ?_ ?_ | refine Le.ite ?_ ?_ | refine Le.sum ?_ ?_ | refine Le.prod ?_ | intro _ | exact Empty.elim (by assumption) | dsimp only)
theorem m_F_cost_Check (p0 : api_Rates) : Le (K_cost_Check p0) (F_cost_Check p0) := by
  unfold K_cost_Check F_cost_Check
  with_reducible repeat' (first | exact m_cost_Check_l1 _ | exact m_F_cost_rate _ | exact Le.rfl _ | refine Le.loop _ ?_ | refine Le.bind ?_ ?_ | refine Le.ite ?_ ?_ | refine Le.sum ?_ ?_ | refine Le.prod ?_ | intro _ | exact Empty.elim (by assumption) | dsimp only)
theorem m_cost_Need_l1 (r10 : ((Int × Int × Int × Int × Int × Int × Int × Int × Int × Int × Int) × Int)) (p1 : api_Rates) : ∀ s, Le (K_cost_Need_l1 r10 p1 s) (cost_Need_l1 r10 p1 s) := by
  unfold K_cost_Need_l1 cost_Need_l1
  with_reducible repeat' (first | exact Le.rfl _ | refine Le.loop _ ?_ | refine Le.bind ?_ ?_ | refine Le.ite ?_ ?_ | refine Le.sum ?_ ?_ | refine Le.prod ?_ | intro _ | exact Empty.elim (by assumption) | dsimp only)
theorem m_cost_Need_l2 (x63 : api_Row) (p1 : api_Rates) : ∀ s, Le (K_cost_Need_l2 x63 p1 s) (cost_Need_l2 x63 p1 s) := by
  unfold K_cost_Need_l2 cost_Need_l2
  with_reducible repeat' (first | exact m_F_stitch_Makes _ | exact Le.rfl _ | refine Le.loop _ ?_ | refine Le.bind ?_ ?_ | refine Le.ite ?_ ?_ | refine Le.sum ?_ ?_ | refine Le.prod ?_ | intro _ | exact Empty.elim (by assumption) | dsimp only)
theorem m_cost_Need_l3 (p0 : api_Chart) (p1 : api_Rates) : ∀ s, Le (K_cost_Need_l3 p0 p1 s) (cost_Need_l3 p0 p1 s) := by
  unfold K_cost_Need_l3 cost_Need_l3
  with_reducible repeat' (first | exact m_cost_Need_l2 _ _ | exact Le.rfl _ | refine Le.loop _ ?_ | refine Le.bind ?_ ?_ | refine Le.ite ?_ ?_ | refine Le.sum ?_ ?_ | refine Le.prod ?_ | intro _ | exact Empty.elim (by assumption) | dsimp only)
theorem m_F_cost_Need (p0 : api_Chart) (p1 : api_Rates) : Le (K_cost_Need p0 p1) (F_cost_Need p0 p1) := by
  unfold K_cost_Need F_cost_Need
  with_reducible repeat' (first | exact m_F_cost_Count _ | exact m_F_cost_Check _ | exact m_cost_Need_l1 _ _ | exact m_cost_Need_l3 _ _ | exact Le.rfl _ | refine Le.loop _ ?_ | refine Le.bind ?_ ?_ | refine Le.ite ?_ ?_ | refine Le.sum ?_ ?_ | refine Le.prod ?_ | intro _ | exact Empty.elim (by assumption) | dsimp only)
theorem m_F_raddlelaw45_tex (p0 : Int) : Le (K_raddlelaw45_tex p0) (F_raddlelaw45_tex p0) := by
  unfold K_raddlelaw45_tex F_raddlelaw45_tex
  with_reducible repeat' (first | exact Le.rfl _ | refine Le.loop _ ?_ | refine Le.bind ?_ ?_ | refine Le.ite ?_ ?_ | refine Le.sum ?_ ?_ | refine Le.prod ?_ | intro _ | exact Empty.elim (by assumption) | dsimp only)
theorem m_F_yarn_factors (p0 : Int) : Le (K_yarn_factors p0) (F_yarn_factors p0) := by
  unfold K_yarn_factors F_yarn_factors
  with_reducible repeat' (first | exact Le.rfl _ | refine Le.loop _ ?_ | refine Le.bind ?_ ?_ | refine Le.ite ?_ ?_ | refine Le.sum ?_ ?_ | refine Le.prod ?_ | intro _ | exact Empty.elim (by assumption) | dsimp only)
theorem m_F_yarn_size (p0 : Int) : Le (K_yarn_size p0) (F_yarn_size p0) := by
  unfold K_yarn_size F_yarn_size
  with_reducible repeat' (first | exact Le.rfl _ | refine Le.loop _ ?_ | refine Le.bind ?_ ?_ | refine Le.ite ?_ ?_ | refine Le.sum ?_ ?_ | refine Le.prod ?_ | intro _ | exact Empty.elim (by assumption) | dsimp only)
theorem m_yarn_gcd_l1  : ∀ s, Le (K_yarn_gcd_l1 s) (yarn_gcd_l1 s) := by
  unfold K_yarn_gcd_l1 yarn_gcd_l1
  with_reducible repeat' (first | exact Le.rfl _ | refine Le.loop _ ?_ | refine Le.bind ?_ ?_ | refine Le.ite ?_ ?_ | refine Le.sum ?_ ?_ | refine Le.prod ?_ | intro _ | exact Empty.elim (by assumption) | dsimp only)
theorem m_F_yarn_gcd (p0 : Int) (p1 : Int) : Le (K_yarn_gcd p0 p1) (F_yarn_gcd p0 p1) := by
  unfold K_yarn_gcd F_yarn_gcd
  with_reducible repeat' (first | exact m_yarn_gcd_l1 | exact Le.rfl _ | refine Le.loop _ ?_ | refine Le.bind ?_ ?_ | refine Le.ite ?_ ?_ | refine Le.sum ?_ ?_ | refine Le.prod ?_ | intro _ | exact Empty.elim (by assumption) | dsimp only)
theorem m_F_yarn_Check (p0 : api_Ratio) : Le (K_yarn_Check p0) (F_yarn_Check p0) := by
  unfold K_yarn_Check F_yarn_Check
  with_reducible repeat' (first | exact m_F_yarn_size _ | exact m_F_yarn_gcd _ _ | exact Le.rfl _ | refine Le.loop _ ?_ | refine Le.bind ?_ ?_ | refine Le.ite ?_ ?_ | refine Le.sum ?_ ?_ | refine Le.prod ?_ | intro _ | exact Empty.elim (by assumption) | dsimp only)
theorem m_F_yarn_counted (p0 : api_Count) : Le (K_yarn_counted p0) (F_yarn_counted p0) := by
  unfold K_yarn_counted F_yarn_counted
  with_reducible repeat' (first | exact m_F_yarn_factors _ | exact m_F_yarn_Check _ | exact Le.rfl _ | refine Le.loop _ ?_ | refine Le.bind ?_ ?_ | refine Le.ite ?_ ?_ | refine Le.sum ?_ ?_ | refine Le.prod ?_ | intro _ | exact Empty.elim (by assumption) | dsimp only)
theorem m_F_yarn_Make (p0 : Int) (p1 : Int) : Le (K_yarn_Make p0 p1) (F_yarn_Make p0 p1) := by
  unfold K_yarn_Make F_yarn_Make
  with_reducible repeat' (first | exact m_F_yarn_size _ | exact m_F_yarn_gcd _ _ | exact Le.rfl _ | refine Le.loop _ ?_ | refine Le.bind ?_ ?_ | refine Le.ite ?_ ?_ | refine Le.sum ?_ ?_ | refine Le.prod ?_ | intro _ | exact Empty.elim (by assumption) | dsimp only)
theorem m_F_yarn_Convert (p0 : api_Count) (p1 : Int) : Le (K_yarn_Convert p0 p1) (F_yarn_Convert p0 p1) := by
  unfold K_yarn_Convert F_yarn_Convert
  with_reducible repeat' (first | exact m_F_yarn_counted _ | exact m_F_yarn_factors _ | exact m_F_yarn_gcd _ _ | exact m_F_yarn_Make _ _ | exact Le.rfl _ | refine Le.loop _ ?_ | refine Le.bind ?_ ?_ | refine Le.ite ?_ ?_ | refine Le.sum ?_ ?_ | refine Le.prod ?_ | intro _ | exact Empty.elim (by assumption) | dsimp only)
theorem m_F_yarn_Weigh (p0 : api_Count) (p1 : Int) : Le (K_yarn_Weigh p0 p1) (F_yarn_Weigh p0 p1) := by
  unfold K_yarn_Weigh F_yarn_Weigh
  with_reducible repeat' (first | exact m_F_yarn_counted _ | exact m_F_yarn_Convert _ _ | exact m_F_yarn_Make _ _ | exact Le.rfl _ | refine Le.loop _ ?_ | refine Le.bind ?_ ?_ | refine Le.ite ?_ ?_ | refine Le.sum ?_ ?_ | refine Le.prod ?_ | intro _ | exact Empty.elim (by assumption) | dsimp only)
theorem m_F_cost_Weight (p0 : api_Bill) (p1 : api_Count) : Le (K_cost_Weight p0 p1) (F_cost_Weight p0 p1) := by
  unfold K_cost_Weight F_cost_Weight
  with_reducible repeat' (first | exact m_F_yarn_Weigh _ _ | exact Le.rfl _ | refine Le.loop _ ?_ | refine Le.bind ?_ ?_ | refine Le.ite ?_ ?_ | refine Le.sum ?_ ?_ | refine Le.prod ?_ | intro _ | exact Empty.elim (by assumption) | dsimp only)
theorem m_F_yarn_floor (p0 : Int) (p1 : Int) : Le (K_yarn_floor p0 p1) (F_yarn_floor p0 p1) := by
  unfold K_yarn_floor F_yarn_floor
  with_reducible repeat' (first | exact Le.rfl _ | refine Le.loop _ ?_ | refine Le.bind ?_ ?_ | refine Le.ite ?_ ?_ | refine Le.sum ?_ ?_ | refine Le.prod ?_ | intro _ | exact Empty.elim (by assumption) | dsimp only)
theorem m_F_yarn_Skeins (p0 : api_Count) (p1 : Int) (p2 : Int) : Le (K_yarn_Skeins p0 p1 p2) (F_yarn_Skeins p0 p1 p2) := by
  unfold K_yarn_Skeins F_yarn_Skeins
  with_reducible repeat' (first | exact m_F_yarn_Weigh _ _ | exact m_F_yarn_floor _ _ | exact Le.rfl _ | refine Le.loop _ ?_ | refine Le.bind ?_ ?_ | refine Le.ite ?_ ?_ | refine Le.sum ?_ ?_ | refine Le.prod ?_ | intro _ | exact Empty.elim (by assumption) | dsimp only)
theorem m_F_cost_Price (p0 : api_Bill) (p1 : api_Count) (p2 : Int) (p3 : Int) : Le (K_cost_Price p0 p1 p2 p3) (F_cost_Price p0 p1 p2 p3) := by
  unfold K_cost_Price F_cost_Price
  with_reducible repeat' (first | exact m_F_yarn_Skeins _ _ _ | exact Le.rfl _ | refine Le.loop _ ?_ | refine Le.bind ?_ ?_ | refine Le.ite ?_ ?_ | refine Le.sum ?_ ?_ | refine Le.prod ?_ | intro _ | exact Empty.elim (by assumption) | dsimp only)
set_option maxRecDepth 1000000 in
theorem kc_raddlelaw45_alive_0 : F_raddlelaw45_given = some (api_Chart.mk 3 [(api_Row.mk false [(api_Stitch.mk 1 false 0 0), (api_Stitch.mk 2 false 0 0), (api_Stitch.mk 4 false 2 0)]), (api_Row.mk true [(api_Stitch.mk 1 true 0 0), (api_Stitch.mk 1 true 0 0), (api_Stitch.mk 1 true 0 0)])]) := m_F_raddlelaw45_given _ (by kernel_rfl)
set_option maxRecDepth 1000000 in
theorem kc_raddlelaw45_alive_1 : F_cost_Count ((api_Chart.mk 3 [(api_Row.mk false [(api_Stitch.mk 1 false 0 0), (api_Stitch.mk 2 false 0 0), (api_Stitch.mk 4 false 2 0)]), (api_Row.mk true [(api_Stitch.mk 1 true 0 0), (api_Stitch.mk 1 true 0 0), (api_Stitch.mk 1 true 0 0)])])) = some ((0, (4, (1, (0, (1, (0, (0, (0, (0, (0, 0)))))))))), 0) := m_F_cost_Count _ _ (by kernel_rfl)
set_option maxRecDepth 1000000 in
theorem kc_raddlelaw45_alive_2 : F_raddlelaw45_rates = some (api_Rates.mk (0, (100, (150, (0, (90, (0, (0, (0, (0, (0, 0)))))))))) (0, (1000, (500, (0, (1500, (0, (0, (0, (0, (0, 0)))))))))) 2000) := m_F_raddlelaw45_rates _ (by kernel_rfl)
set_option maxRecDepth 1000000 in
theorem kc_raddlelaw45_alive_3 : F_cost_Need ((api_Chart.mk 3 [(api_Row.mk false [(api_Stitch.mk 1 false 0 0), (api_Stitch.mk 2 false 0 0), (api_Stitch.mk 4 false 2 0)]), (api_Row.mk true [(api_Stitch.mk 1 true 0 0), (api_Stitch.mk 1 true 0 0), (api_Stitch.mk 1 true 0 0)])])) ((api_Rates.mk (0, (100, (150, (0, (90, (0, (0, (0, (0, (0, 0)))))))))) (0, (1000, (500, (0, (1500, (0, (0, (0, (0, (0, 0)))))))))) 2000)) = some ((api_Bill.mk 640 10000), 0) := m_F_cost_Need _ _ _ (by kernel_rfl)
set_option maxRecDepth 1000000 in
theorem kc_raddlelaw45_alive_4 : F_raddlelaw45_tex 50 = some (api_Count.mk 1 (api_Ratio.mk 50 1)) := m_F_raddlelaw45_tex _ _ (by kernel_rfl)
set_option maxRecDepth 1000000 in
theorem kc_raddlelaw45_alive_5 : F_cost_Weight (api_Bill.mk 1000000 0) ((api_Count.mk 1 (api_Ratio.mk 50 1))) = some ((api_Ratio.mk 5000 1), 0) := m_F_cost_Weight _ _ _ (by kernel_rfl)
set_option maxRecDepth 1000000 in
theorem kc_raddlelaw45_alive_6 : F_cost_Price (api_Bill.mk 1000000 0) ((api_Count.mk 1 (api_Ratio.mk 50 1))) 2000 350 = some (3, (1050, 0)) := m_F_cost_Price _ _ _ _ _ (by kernel_rfl)
end Go.Proofs.Ytdbgkakmhlmpbaa
namespace Go.Proofs.Ytdbgkakmhlmpbaa
open Go.RowKit
set_option linter.unusedVariables false

noncomputable def F_raddlelaw45_alive  : Option Bool :=
  Option.bind (F_raddlelaw45_given) fun r3 =>
  Option.bind (F_cost_Count r3) fun r10 =>
  Option.bind (F_raddlelaw45_rates) fun r20 =>
  Option.bind (F_cost_Need r3 r20) fun r23 =>
  Option.bind (F_raddlelaw45_tex 50) fun r28 =>
  Option.bind (F_cost_Weight (api_Bill.mk 1000000 0) r28) fun r31 =>
  Option.bind (F_cost_Price (api_Bill.mk 1000000 0) r28 2000 350) fun r37 =>
  if r10.2 == 0 then
    if ((r10.1.1 == 0) && ((r10.1.2.1 == 4) && ((r10.1.2.2.1 == 1) && ((r10.1.2.2.2.1 == 0) && ((r10.1.2.2.2.2.1 == 1) && ((r10.1.2.2.2.2.2.1 == 0) && ((r10.1.2.2.2.2.2.2.1 == 0) && ((r10.1.2.2.2.2.2.2.2.1 == 0) && ((r10.1.2.2.2.2.2.2.2.2.1 == 0) && ((r10.1.2.2.2.2.2.2.2.2.2.1 == 0) && ((r10.1.2.2.2.2.2.2.2.2.2.2 == 0) && true))))))))))) then
      if r23.2 == 0 then
        if ((r23.1.Length == 640) && ((r23.1.Time == 10000) && true)) then
          if r31.2 == 0 then
            if ((r31.1.Num == 5000) && ((r31.1.Den == 1) && true)) then
              if r37.2.2 == 0 then
                if r37.1 == 3 then
                  some (r37.2.1 == 1050)
                else
                  none
              else
                none
            else
              none
          else
            none
        else
          none
      else
        none
    else
      none
  else
    none
set_option maxHeartbeats 4000000 in
set_option maxRecDepth 100000 in
theorem c_raddlelaw45_alive (E : Nat → Prop) (w0 : World)  (r : Bool) (h : F_raddlelaw45_alive  = some r) (S : St0 E [] w0 w0 [] []) :
    Calls Try.prog 24 #[] w0 (Ret (X := Unit) E [] w0 (fun _ => .bool r) (fun _ => []) (fun _ => [])) := by
  unfold F_raddlelaw45_alive at h
  refine sEnter (args := []) 73 Try.func24 rfl rfl (by simp) S (fun a S => ?_)
  refine sSeq (fun K1 hK1 => ?_)
  refine sRegion ?_
  refine sMove (.bool false) S (wN rfl) (.inr rfl) rfl rfl (lb rfl) fun a S => ?_
  refine leafL (leafT (hK1 _ _ ?_))
  refine sSeq (fun K2 hK2 => ?_)
  refine sRegion ?_
  obtain ⟨r3, hx4, h⟩ := bindSome h
  have hv_r3 : r3 = (api_Chart.mk 3 [(api_Row.mk false [(api_Stitch.mk 1 false 0 0), (api_Stitch.mk 2 false 0 0), (api_Stitch.mk 4 false 2 0)]), (api_Row.mk true [(api_Stitch.mk 1 true 0 0), (api_Stitch.mk 1 true 0 0), (api_Stitch.mk 1 true 0 0)])]) := Option.some.inj (hx4.symm.trans (by exact kc_raddlelaw45_alive_0))
  refine sCall (X := Value) (f := 44) (vs := []) (val := c_raddlelaw45_given_val r3) (B' := fun _ => []) (D' := c_raddlelaw45_given_D r3) [] [] [] [] [] S (wN rfl) rfl callee44 rfl (by decide) rfl rfl (fun E1 w1 S1 => c_raddlelaw45_given E1 w1  r3 hx4 S1) rfl (lb rfl) fun u5 a w S => ?_
  obtain ⟨u6, rfl, hu7⟩ := S.mem.know (i := 0) (e := fRep r_api_Chart (u5) r3) rfl
  have S := S.learn (fRep (rL r_api_Row) u6 r3.Rows) hu7
  obtain ⟨ad8, cp9, _, rfl, _⟩ := hu7
  obtain ⟨r10, hx11, h⟩ := bindSome h
  have hv_r10 : r10 = ((0, (4, (1, (0, (1, (0, (0, (0, (0, (0, 0)))))))))), 0) := Option.some.inj (hx11.symm.trans (by rw [hv_r3]; exact kc_raddlelaw45_alive_1))
  refine sCall (X := Value) (f := 16) (vs := [.agg #[iv r3.Start, .slice ad8 r3.Rows.length cp9]]) (val := c_cost_Count_val r10) (B' := fun _ => []) (D' := c_cost_Count_D r10) [] [] [fRep r_api_Chart (.agg #[iv r3.Start, .slice ad8 r3.Rows.length cp9]) r3] [] [1] S (wN rfl) rfl callee16 rfl (by decide) rfl rfl (fun E1 w1 S1 => c_cost_Count E1 w1 r3 (.agg #[iv r3.Start, .slice ad8 r3.Rows.length cp9]) r10 hx11 S1) rfl (lb rfl) fun u12 a w S => ?_
  obtain rfl : u12 = gv_A11_Int r10.1 := S.mem.know (i := 0) (e := fRep r_A11_Int (u12) r10.1) rfl
  refine sMove (.tuple #[gv_A11_Int r10.1, iv r10.2]) S (wN rfl) (.inl rfl) rfl rfl (lb rfl) fun a S => ?_
  refine sExtract (vs := [gv_A11_Int r10.1, iv r10.2]) (gv_A11_Int r10.1) S (wN rfl) rfl rfl rfl rfl (lb rfl) fun a S => ?_
  refine sExtract (vs := [gv_A11_Int r10.1, iv r10.2]) (iv r10.2) S (wN rfl) rfl rfl rfl rfl (lb rfl) fun a S => ?_
  refine sAlloc (gv_A11_Int (0, 0, 0, 0, 0, 0, 0, 0, 0, 0, 0)) S (wN rfl) rfl rfl (gl_A11_Int (0, 0, 0, 0, 0, 0, 0, 0, 0, 0, 0)) rfl rfl (lb rfl) fun a b13 w S => ?_
  refine sStore (p := b13) (off := 0) (T := 42) (vs := [iv 0, iv 0, iv 0, iv 0, iv 0, iv 0, iv 0, iv 0, iv 0, iv 0, iv 0]) (v := gv_A11_Int r10.1) 0 [iv r10.1.1, iv r10.1.2.1, iv r10.1.2.2.1, iv r10.1.2.2.2.1, iv r10.1.2.2.2.2.1, iv r10.1.2.2.2.2.2.1, iv r10.1.2.2.2.2.2.2.1, iv r10.1.2.2.2.2.2.2.2.1, iv r10.1.2.2.2.2.2.2.2.2.1, iv r10.1.2.2.2.2.2.2.2.2.2.1, iv r10.1.2.2.2.2.2.2.2.2.2.2] S (wN rfl) rfl rfl rfl rfl rfl rfl rfl (by simp) rfl fun a w S => ?_
  refine sMove (iv r10.2) S (wN rfl) (.inr rfl) rfl rfl (lb rfl) fun a S => ?_
  refine leafL (leafT (hK2 _ _ ?_))
  refine sSeq (fun K14 hK14 => ?_)
  refine sRegion ?_
  refine sCall (X := Value) (f := 44) (vs := []) (val := c_raddlelaw45_given_val r3) (B' := fun _ => []) (D' := c_raddlelaw45_given_D r3) [] [eBox b13 42 (gl_A11_Int r10.1)] [] [0] [] S (wN rfl) rfl callee44 rfl (by decide) rfl rfl (fun E1 w1 S1 => c_raddlelaw45_given E1 w1  r3 hx4 S1) rfl (lb rfl) fun u15 a w S => ?_
  obtain ⟨u16, rfl, hu17⟩ := S.mem.know (i := 0) (e := fRep r_api_Chart (u15) r3) rfl
  have S := S.learn (fRep (rL r_api_Row) u16 r3.Rows) hu17
  obtain ⟨ad18, cp19, _, rfl, _⟩ := hu17
  obtain ⟨r20, hx21, h⟩ := bindSome h
  have hv_r20 : r20 = (api_Rates.mk (0, (100, (150, (0, (90, (0, (0, (0, (0, (0, 0)))))))))) (0, (1000, (500, (0, (1500, (0, (0, (0, (0, (0, 0)))))))))) 2000) := Option.some.inj (hx21.symm.trans (by exact kc_raddlelaw45_alive_2))
  refine sCall (X := Value) (f := 28) (vs := []) (val := c_raddlelaw45_rates_val r20) (B' := fun _ => []) (D' := c_raddlelaw45_rates_D r20) [] [eBox b13 42 (gl_A11_Int r10.1)] [] [0] [] S (wN rfl) rfl callee28 rfl (by decide) rfl rfl (fun E1 w1 S1 => c_raddlelaw45_rates E1 w1  r20 hx21 S1) rfl (lb rfl) fun u22 a w S => ?_
  obtain rfl : u22 = gv_api_Rates r20 := S.mem.know (i := 0) (e := fRep r_api_Rates (u22) r20) rfl
  obtain ⟨r23, hx24, h⟩ := bindSome h
  have hv_r23 : r23 = ((api_Bill.mk 640 10000), 0) := Option.some.inj (hx24.symm.trans (by rw [hv_r3, hv_r20]; exact kc_raddlelaw45_alive_3))
  refine sCall (X := Value) (f := 18) (vs := [.agg #[iv r3.Start, .slice ad18 r3.Rows.length cp19], gv_api_Rates r20]) (val := c_cost_Need_val r23) (B' := fun _ => []) (D' := c_cost_Need_D r23) [] [eBox b13 42 (gl_A11_Int r10.1)] [fRep r_api_Chart (.agg #[iv r3.Start, .slice ad18 r3.Rows.length cp19]) r3, fRep r_api_Rates (gv_api_Rates r20) r20] [0] [2, 0] S (wN rfl) rfl callee18 rfl (by decide) rfl rfl (fun E1 w1 S1 => c_cost_Need E1 w1 r3 (.agg #[iv r3.Start, .slice ad18 r3.Rows.length cp19]) r20 (gv_api_Rates r20) r23 hx24 S1) rfl (lb rfl) fun u25 a w S => ?_
  obtain rfl : u25 = .agg #[iv r23.1.Length, iv r23.1.Time] := S.mem.know (i := 0) (e := fRep r_api_Bill (u25) r23.1) rfl
  refine sMove (.tuple #[.agg #[iv r23.1.Length, iv r23.1.Time], iv r23.2]) S (wN rfl) (.inl rfl) rfl rfl (lb rfl) fun a S => ?_
  refine sExtract (vs := [.agg #[iv r23.1.Length, iv r23.1.Time], iv r23.2]) (.agg #[iv r23.1.Length, iv r23.1.Time]) S (wN rfl) rfl rfl rfl rfl (lb rfl) fun a S => ?_
  refine sExtract (vs := [.agg #[iv r23.1.Length, iv r23.1.Time], iv r23.2]) (iv r23.2) S (wN rfl) rfl rfl rfl rfl (lb rfl) fun a S => ?_
  refine sAlloc (.agg #[iv 0, iv 0]) S (wN rfl) rfl rfl [iv 0, iv 0] rfl rfl (lb rfl) fun a b26 w S => ?_
  refine sStore (p := b26) (off := 0) (T := 23) (vs := [iv 0, iv 0]) (v := .agg #[iv r23.1.Length, iv r23.1.Time]) 0 [iv r23.1.Length, iv r23.1.Time] S (wN rfl) rfl rfl rfl rfl rfl rfl rfl (by simp) rfl fun a w S => ?_
  refine sMove (iv r23.2) S (wN rfl) (.inr rfl) rfl rfl (lb rfl) fun a S => ?_
  refine leafL (leafT (hK14 _ _ ?_))
  refine sSeq (fun K27 hK27 => ?_)
  refine sRegion ?_
  refine sBuild [(0, iv 1000000)] [iv 1000000, iv 0] S (wN rfl) rfl rfl rfl rfl (lb rfl) fun a S => ?_
  obtain ⟨r28, hx29, h⟩ := bindSome h
  have hv_r28 : r28 = (api_Count.mk 1 (api_Ratio.mk 50 1)) := Option.some.inj (hx29.symm.trans (by exact kc_raddlelaw45_alive_4))
  refine sCall (X := Value) (f := 29) (vs := [iv 50]) (val := c_raddlelaw45_tex_val r28) (B' := fun _ => []) (D' := c_raddlelaw45_tex_D r28) [] [eBox b26 23 [iv r23.1.Length, iv r23.1.Time], eBox b13 42 (gl_A11_Int r10.1)] [] [0, 1] [] S (wN rfl) rfl callee29 rfl (by decide) rfl rfl (fun E1 w1 S1 => c_raddlelaw45_tex E1 w1 50 r28 hx29 S1) rfl (lb rfl) fun u30 a w S => ?_
  obtain rfl : u30 = .agg #[.int .u8 r28.System, iv r28.N.Num, iv r28.N.Den] := S.mem.know (i := 0) (e := fRep r_api_Count (u30) r28) rfl
  obtain ⟨r31, hx32, h⟩ := bindSome h
  have hv_r31 : r31 = ((api_Ratio.mk 5000 1), 0) := Option.some.inj (hx32.symm.trans (by rw [hv_r28]; exact kc_raddlelaw45_alive_5))
  have S := S.learn (fRep r_api_Bill (.agg #[iv 1000000, iv 0]) (api_Bill.mk 1000000 0)) rfl
  refine sCall (X := Value) (f := 10) (vs := [.agg #[iv 1000000, iv 0], .agg #[.int .u8 r28.System, iv r28.N.Num, iv r28.N.Den]]) (val := c_cost_Weight_val r31) (B' := fun _ => []) (D' := c_cost_Weight_D r31) [] [eBox b26 23 [iv r23.1.Length, iv r23.1.Time], eBox b13 42 (gl_A11_Int r10.1)] [fRep r_api_Bill (.agg #[iv 1000000, iv 0]) (api_Bill.mk 1000000 0), fRep r_api_Count (.agg #[.int .u8 r28.System, iv r28.N.Num, iv r28.N.Den]) r28] [0, 1] [0, 1] S (wN rfl) rfl callee10 rfl (by decide) rfl rfl (fun E1 w1 S1 => c_cost_Weight E1 w1 (api_Bill.mk 1000000 0) (.agg #[iv 1000000, iv 0]) r28 (.agg #[.int .u8 r28.System, iv r28.N.Num, iv r28.N.Den]) r31 hx32 S1) rfl (lb rfl) fun u33 a w S => ?_
  obtain rfl : u33 = .agg #[iv r31.1.Num, iv r31.1.Den] := S.mem.know (i := 0) (e := fRep r_api_Ratio (u33) r31.1) rfl
  refine sMove (.tuple #[.agg #[iv r31.1.Num, iv r31.1.Den], iv r31.2]) S (wN rfl) (.inl rfl) rfl rfl (lb rfl) fun a S => ?_
  refine sExtract (vs := [.agg #[iv r31.1.Num, iv r31.1.Den], iv r31.2]) (.agg #[iv r31.1.Num, iv r31.1.Den]) S (wN rfl) rfl rfl rfl rfl (lb rfl) fun a S => ?_
  refine sExtract (vs := [.agg #[iv r31.1.Num, iv r31.1.Den], iv r31.2]) (iv r31.2) S (wN rfl) rfl rfl rfl rfl (lb rfl) fun a S => ?_
  refine sAlloc (.agg #[iv 0, iv 0]) S (wN rfl) rfl rfl [iv 0, iv 0] rfl rfl (lb rfl) fun a b34 w S => ?_
  refine sStore (p := b34) (off := 0) (T := 25) (vs := [iv 0, iv 0]) (v := .agg #[iv r31.1.Num, iv r31.1.Den]) 0 [iv r31.1.Num, iv r31.1.Den] S (wN rfl) rfl rfl rfl rfl rfl rfl rfl (by simp) rfl fun a w S => ?_
  refine sMove (iv r31.2) S (wN rfl) (.inr rfl) rfl rfl (lb rfl) fun a S => ?_
  refine leafL (leafT (hK27 _ _ ?_))
  refine sSeq (fun K35 hK35 => ?_)
  refine sRegion ?_
  refine sBuild [(0, iv 1000000)] [iv 1000000, iv 0] S (wN rfl) rfl rfl rfl rfl (lb rfl) fun a S => ?_
  refine sCall (X := Value) (f := 29) (vs := [iv 50]) (val := c_raddlelaw45_tex_val r28) (B' := fun _ => []) (D' := c_raddlelaw45_tex_D r28) [] [eBox b34 25 [iv r31.1.Num, iv r31.1.Den], eBox b26 23 [iv r23.1.Length, iv r23.1.Time], eBox b13 42 (gl_A11_Int r10.1)] [] [0, 1, 2] [] S (wN rfl) rfl callee29 rfl (by decide) rfl rfl (fun E1 w1 S1 => c_raddlelaw45_tex E1 w1 50 r28 hx29 S1) rfl (lb rfl) fun u36 a w S => ?_
  obtain rfl : u36 = .agg #[.int .u8 r28.System, iv r28.N.Num, iv r28.N.Den] := S.mem.know (i := 0) (e := fRep r_api_Count (u36) r28) rfl
  obtain ⟨r37, hx38, h⟩ := bindSome h
  have hv_r37 : r37 = (3, (1050, 0)) := Option.some.inj (hx38.symm.trans (by rw [hv_r28]; exact kc_raddlelaw45_alive_6))
  have S1 := S.mem
  refine sCallQ (X := Unit) (f := 12) (vs := [.agg #[iv 1000000, iv 0], .agg #[.int .u8 r28.System, iv r28.N.Num, iv r28.N.Den], iv 2000, iv 350]) (val := fun _ => .tuple #[iv r37.1, iv r37.2.1, iv r37.2.2]) S (wN rfl) rfl callee12 rfl (S1.quiet [2, 0] rfl) (fun E1 w1 S1 => c_cost_Price E1 w1 (api_Bill.mk 1000000 0) (.agg #[iv 1000000, iv 0]) r28 (.agg #[.int .u8 r28.System, iv r28.N.Num, iv r28.N.Den]) 2000 350 r37 hx38 S1) rfl (lb rfl) fun _ a w S => ?_
  refine sMove (.tuple #[iv r37.1, iv r37.2.1, iv r37.2.2]) S (wN rfl) (.inl rfl) rfl rfl (lb rfl) fun a S => ?_
  refine sExtract (vs := [iv r37.1, iv r37.2.1, iv r37.2.2]) (iv r37.1) S (wN rfl) rfl rfl rfl rfl (lb rfl) fun a S => ?_
  refine sExtract (vs := [iv r37.1, iv r37.2.1, iv r37.2.2]) (iv r37.2.1) S (wN rfl) rfl rfl rfl rfl (lb rfl) fun a S => ?_
  refine sExtract (vs := [iv r37.1, iv r37.2.1, iv r37.2.2]) (iv r37.2.2) S (wN rfl) rfl rfl rfl rfl (lb rfl) fun a S => ?_
  refine sMove (iv r37.1) S (wN rfl) (.inr rfl) rfl rfl (lb rfl) fun a S => ?_
  refine sMove (iv r37.2.1) S (wN rfl) (.inr rfl) rfl rfl (lb rfl) fun a S => ?_
  refine sMove (iv r37.2.2) S (wN rfl) (.inr rfl) rfl rfl (lb rfl) fun a S => ?_
  refine leafL (leafT (hK35 _ _ ?_))
  refine sSeq (fun K39 hK39 => ?_)
  refine sRegion ?_
  refine sBuild [(1, iv 4), (2, iv 1), (4, iv 1)] (gl_A11_Int (0, 4, 1, 0, 1, 0, 0, 0, 0, 0, 0)) S (wN rfl) rfl rfl rfl rfl (lb rfl) fun a S => ?_
  refine sAlloc (gv_A11_Int (0, 0, 0, 0, 0, 0, 0, 0, 0, 0, 0)) S (wN rfl) rfl rfl (gl_A11_Int (0, 0, 0, 0, 0, 0, 0, 0, 0, 0, 0)) rfl rfl (lb rfl) fun a b40 w S => ?_
  refine sStore (p := b40) (off := 0) (T := 42) (vs := [iv 0, iv 0, iv 0, iv 0, iv 0, iv 0, iv 0, iv 0, iv 0, iv 0, iv 0]) (v := gv_A11_Int (0, 4, 1, 0, 1, 0, 0, 0, 0, 0, 0)) 0 [iv 0, iv 4, iv 1, iv 0, iv 1, iv 0, iv 0, iv 0, iv 0, iv 0, iv 0] S (wN rfl) rfl rfl rfl rfl rfl rfl rfl (by simp) rfl fun a w S => ?_
  refine leafL (leafT (hK39 _ _ ?_))
  refine sSeq (fun K41 hK41 => ?_)
  refine sRegion ?_
  refine sMove (iv r10.2) S (wN rfl) (.inl rfl) rfl rfl (lb rfl) fun a S => ?_
  refine sBin (.bool (r10.2 == 0)) S (wN rfl) rfl rfl rfl (bEq _ _ _ _ .i64 r10.2 0) rfl (lb rfl) fun a S => ?_
  refine sMove (.bool (r10.2 == 0)) S (wN rfl) (.inl rfl) rfl rfl (lb rfl) fun a S => ?_
  rcases iteSome h with ⟨hc42, h⟩ | ⟨hc42, h⟩
  rotate_left
  · exact absurd hc42 (by rw [hv_r10]; decide)
  refine sLoadN (p := b13) (off := 0) (T := 42) (vs := (gl_A11_Int r10.1)) 3 (gl_A11_Int r10.1) S (wG 2 true 38 rfl rfl rfl hc42) rfl rfl rfl rfl rfl rfl rfl (lb rfl) fun a S => ?_
  refine sLoadN (p := b40) (off := 0) (T := 42) (vs := (gl_A11_Int (0, 4, 1, 0, 1, 0, 0, 0, 0, 0, 0))) 0 (gl_A11_Int (0, 4, 1, 0, 1, 0, 0, 0, 0, 0, 0)) S (wG 2 true 38 rfl rfl rfl hc42) rfl rfl rfl rfl rfl rfl rfl (lb rfl) fun a S => ?_
  refine sBin (.bool ((r10.1.1 == 0) && ((r10.1.2.1 == 4) && ((r10.1.2.2.1 == 1) && ((r10.1.2.2.2.1 == 0) && ((r10.1.2.2.2.2.1 == 1) && ((r10.1.2.2.2.2.2.1 == 0) && ((r10.1.2.2.2.2.2.2.1 == 0) && ((r10.1.2.2.2.2.2.2.2.1 == 0) && ((r10.1.2.2.2.2.2.2.2.2.1 == 0) && ((r10.1.2.2.2.2.2.2.2.2.2.1 == 0) && ((r10.1.2.2.2.2.2.2.2.2.2.2 == 0) && true)))))))))))) S (wG 2 true 38 rfl rfl rfl hc42) rfl rfl rfl (bEqV _ _ _ _ #[iv r10.1.1, iv r10.1.2.1, iv r10.1.2.2.1, iv r10.1.2.2.2.1, iv r10.1.2.2.2.2.1, iv r10.1.2.2.2.2.2.1, iv r10.1.2.2.2.2.2.2.1, iv r10.1.2.2.2.2.2.2.2.1, iv r10.1.2.2.2.2.2.2.2.2.1, iv r10.1.2.2.2.2.2.2.2.2.2.1, iv r10.1.2.2.2.2.2.2.2.2.2.2] #[iv 0, iv 4, iv 1, iv 0, iv 1, iv 0, iv 0, iv 0, iv 0, iv 0, iv 0] ((r10.1.1 == 0) && ((r10.1.2.1 == 4) && ((r10.1.2.2.1 == 1) && ((r10.1.2.2.2.1 == 0) && ((r10.1.2.2.2.2.1 == 1) && ((r10.1.2.2.2.2.2.1 == 0) && ((r10.1.2.2.2.2.2.2.1 == 0) && ((r10.1.2.2.2.2.2.2.2.1 == 0) && ((r10.1.2.2.2.2.2.2.2.2.1 == 0) && ((r10.1.2.2.2.2.2.2.2.2.2.1 == 0) && ((r10.1.2.2.2.2.2.2.2.2.2.2 == 0) && true))))))))))) (by kernel_rfl) (eqlV_of (by kernel_rfl))) rfl (lb rfl) fun a S => ?_
  refine sPickT (.bool ((r10.1.1 == 0) && ((r10.1.2.1 == 4) && ((r10.1.2.2.1 == 1) && ((r10.1.2.2.2.1 == 0) && ((r10.1.2.2.2.2.1 == 1) && ((r10.1.2.2.2.2.2.1 == 0) && ((r10.1.2.2.2.2.2.2.1 == 0) && ((r10.1.2.2.2.2.2.2.2.1 == 0) && ((r10.1.2.2.2.2.2.2.2.2.1 == 0) && ((r10.1.2.2.2.2.2.2.2.2.2.1 == 0) && ((r10.1.2.2.2.2.2.2.2.2.2.2 == 0) && true)))))))))))) S (wN rfl) rfl rfl hc42 rfl rfl (lb rfl) fun a S => ?_
  refine sMove (.bool ((r10.1.1 == 0) && ((r10.1.2.1 == 4) && ((r10.1.2.2.1 == 1) && ((r10.1.2.2.2.1 == 0) && ((r10.1.2.2.2.2.1 == 1) && ((r10.1.2.2.2.2.2.1 == 0) && ((r10.1.2.2.2.2.2.2.1 == 0) && ((r10.1.2.2.2.2.2.2.2.1 == 0) && ((r10.1.2.2.2.2.2.2.2.2.1 == 0) && ((r10.1.2.2.2.2.2.2.2.2.2.1 == 0) && ((r10.1.2.2.2.2.2.2.2.2.2.2 == 0) && true)))))))))))) S (wN rfl) (.inl rfl) rfl rfl (lb rfl) fun a S => ?_
  rcases iteSome h with ⟨hc43, h⟩ | ⟨hc43, h⟩
  rotate_left
  · exact absurd hc43 (by rw [hv_r10]; decide)
  refine sMove (iv r23.2) S (wG 7 true 43 rfl rfl rfl hc43) (.inl rfl) rfl rfl (lb rfl) fun a S => ?_
  refine sBin (.bool (r23.2 == 0)) S (wG 7 true 43 rfl rfl rfl hc43) rfl rfl rfl (bEq _ _ _ _ .i64 r23.2 0) rfl (lb rfl) fun a S => ?_
  refine sPickT (.bool (r23.2 == 0)) S (wN rfl) rfl rfl hc43 rfl rfl (lb rfl) fun a S => ?_
  refine sMove (.bool (r23.2 == 0)) S (wN rfl) (.inl rfl) rfl rfl (lb rfl) fun a S => ?_
  rcases iteSome h with ⟨hc44, h⟩ | ⟨hc44, h⟩
  rotate_left
  · exact absurd hc44 (by rw [hv_r23]; decide)
  refine sLoadN (p := b26) (off := 0) (T := 23) (vs := [iv r23.1.Length, iv r23.1.Time]) 2 [iv r23.1.Length, iv r23.1.Time] S (wG 11 true 47 rfl rfl rfl hc44) rfl rfl rfl rfl rfl rfl rfl (lb rfl) fun a S => ?_
  refine sBuild [(0, iv 640), (1, iv 10000)] [iv 640, iv 10000] S (wG 11 true 47 rfl rfl rfl hc44) rfl rfl rfl rfl (lb rfl) fun a S => ?_
  refine sBin (.bool ((r23.1.Length == 640) && ((r23.1.Time == 10000) && true))) S (wG 11 true 47 rfl rfl rfl hc44) rfl rfl rfl (bEqV _ _ _ _ #[iv r23.1.Length, iv r23.1.Time] #[iv 640, iv 10000] ((r23.1.Length == 640) && ((r23.1.Time == 10000) && true)) (by kernel_rfl) (eqlV_of (by kernel_rfl))) rfl (lb rfl) fun a S => ?_
  refine sPickT (.bool ((r23.1.Length == 640) && ((r23.1.Time == 10000) && true))) S (wN rfl) rfl rfl hc44 rfl rfl (lb rfl) fun a S => ?_
  refine sMove (.bool ((r23.1.Length == 640) && ((r23.1.Time == 10000) && true))) S (wN rfl) (.inl rfl) rfl rfl (lb rfl) fun a S => ?_
  rcases iteSome h with ⟨hc45, h⟩ | ⟨hc45, h⟩
  rotate_left
  · exact absurd hc45 (by rw [hv_r23]; decide)
  refine sMove (iv r31.2) S (wG 16 true 52 rfl rfl rfl hc45) (.inl rfl) rfl rfl (lb rfl) fun a S => ?_
  refine sBin (.bool (r31.2 == 0)) S (wG 16 true 52 rfl rfl rfl hc45) rfl rfl rfl (bEq _ _ _ _ .i64 r31.2 0) rfl (lb rfl) fun a S => ?_
  refine sPickT (.bool (r31.2 == 0)) S (wN rfl) rfl rfl hc45 rfl rfl (lb rfl) fun a S => ?_
  refine sMove (.bool (r31.2 == 0)) S (wN rfl) (.inl rfl) rfl rfl (lb rfl) fun a S => ?_
  rcases iteSome h with ⟨hc46, h⟩ | ⟨hc46, h⟩
  rotate_left
  · exact absurd hc46 (by rw [hv_r31]; decide)
  refine sLoadN (p := b34) (off := 0) (T := 25) (vs := [iv r31.1.Num, iv r31.1.Den]) 1 [iv r31.1.Num, iv r31.1.Den] S (wG 20 true 56 rfl rfl rfl hc46) rfl rfl rfl rfl rfl rfl rfl (lb rfl) fun a S => ?_
  refine sBuild [(0, iv 5000), (1, iv 1)] [iv 5000, iv 1] S (wG 20 true 56 rfl rfl rfl hc46) rfl rfl rfl rfl (lb rfl) fun a S => ?_
  refine sBin (.bool ((r31.1.Num == 5000) && ((r31.1.Den == 1) && true))) S (wG 20 true 56 rfl rfl rfl hc46) rfl rfl rfl (bEqV _ _ _ _ #[iv r31.1.Num, iv r31.1.Den] #[iv 5000, iv 1] ((r31.1.Num == 5000) && ((r31.1.Den == 1) && true)) (by kernel_rfl) (eqlV_of (by kernel_rfl))) rfl (lb rfl) fun a S => ?_
  refine sPickT (.bool ((r31.1.Num == 5000) && ((r31.1.Den == 1) && true))) S (wN rfl) rfl rfl hc46 rfl rfl (lb rfl) fun a S => ?_
  refine sMove (.bool ((r31.1.Num == 5000) && ((r31.1.Den == 1) && true))) S (wN rfl) (.inl rfl) rfl rfl (lb rfl) fun a S => ?_
  rcases iteSome h with ⟨hc47, h⟩ | ⟨hc47, h⟩
  rotate_left
  · exact absurd hc47 (by rw [hv_r31]; decide)
  refine sMove (iv r37.2.2) S (wG 25 true 61 rfl rfl rfl hc47) (.inl rfl) rfl rfl (lb rfl) fun a S => ?_
  refine sBin (.bool (r37.2.2 == 0)) S (wG 25 true 61 rfl rfl rfl hc47) rfl rfl rfl (bEq _ _ _ _ .i64 r37.2.2 0) rfl (lb rfl) fun a S => ?_
  refine sPickT (.bool (r37.2.2 == 0)) S (wN rfl) rfl rfl hc47 rfl rfl (lb rfl) fun a S => ?_
  refine sMove (.bool (r37.2.2 == 0)) S (wN rfl) (.inl rfl) rfl rfl (lb rfl) fun a S => ?_
  rcases iteSome h with ⟨hc48, h⟩ | ⟨hc48, h⟩
  rotate_left
  · exact absurd hc48 (by rw [hv_r37]; decide)
  refine sMove (iv r37.1) S (wG 29 true 65 rfl rfl rfl hc48) (.inl rfl) rfl rfl (lb rfl) fun a S => ?_
  refine sBin (.bool (r37.1 == 3)) S (wG 29 true 65 rfl rfl rfl hc48) rfl rfl rfl (bEq _ _ _ _ .i64 r37.1 3) rfl (lb rfl) fun a S => ?_
  refine sPickT (.bool (r37.1 == 3)) S (wN rfl) rfl rfl hc48 rfl rfl (lb rfl) fun a S => ?_
  refine sMove (.bool (r37.1 == 3)) S (wN rfl) (.inl rfl) rfl rfl (lb rfl) fun a S => ?_
  rcases iteSome h with ⟨hc49, h⟩ | ⟨hc49, h⟩
  rotate_left
  · exact absurd hc49 (by rw [hv_r37]; decide)
  refine sMove (iv r37.2.1) S (wG 33 true 69 rfl rfl rfl hc49) (.inl rfl) rfl rfl (lb rfl) fun a S => ?_
  refine sBin (.bool (r37.2.1 == 1050)) S (wG 33 true 69 rfl rfl rfl hc49) rfl rfl rfl (bEq _ _ _ _ .i64 r37.2.1 1050) rfl (lb rfl) fun a S => ?_
  refine sPickT (.bool (r37.2.1 == 1050)) S (wN rfl) rfl rfl hc49 rfl rfl (lb rfl) fun a S => ?_
  refine sMove (.bool (r37.2.1 == 1050)) S (wN rfl) (.inr rfl) rfl rfl (lb rfl) fun a S => ?_
  refine leafL (leafT (hK41 _ _ ?_))
  obtain rfl := Option.some.inj h
  exact wp_ret (sRet (.bool (r37.2.1 == 1050)) S (rsl1 rfl (rvT (t := 0) (v := .bool (r37.2.1 == 1050)) S rfl)) ⟨(), rfl, S.mem.sel [] [] (by decide) rfl rfl⟩)

end Go.Proofs.Ytdbgkakmhlmpbaa
namespace Go.Proofs.Ytdbgkakmhlmpbaa
open Go.RowKit
set_option linter.unusedVariables false

def K_raddlelaw45_alive  : Option Bool :=
  Option.bind (K_raddlelaw45_given) fun r3 =>
  Option.bind (K_cost_Count r3) fun r10 =>
  Option.bind (K_raddlelaw45_rates) fun r20 =>
  Option.bind (K_cost_Need r3 r20) fun r23 =>
  Option.bind (K_raddlelaw45_tex 50) fun r28 =>
  Option.bind (K_cost_Weight (api_Bill.mk 1000000 0) r28) fun r31 =>
  Option.bind (K_cost_Price (api_Bill.mk 1000000 0) r28 2000 350) fun r37 =>
  if r10.2 == 0 then
    if ((r10.1.1 == 0) && ((r10.1.2.1 == 4) && ((r10.1.2.2.1 == 1) && ((r10.1.2.2.2.1 == 0) && ((r10.1.2.2.2.2.1 == 1) && ((r10.1.2.2.2.2.2.1 == 0) && ((r10.1.2.2.2.2.2.2.1 == 0) && ((r10.1.2.2.2.2.2.2.2.1 == 0) && ((r10.1.2.2.2.2.2.2.2.2.1 == 0) && ((r10.1.2.2.2.2.2.2.2.2.2.1 == 0) && ((r10.1.2.2.2.2.2.2.2.2.2.2 == 0) && true))))))))))) then
      if r23.2 == 0 then
        if ((r23.1.Length == 640) && ((r23.1.Time == 10000) && true)) then
          if r31.2 == 0 then
            if ((r31.1.Num == 5000) && ((r31.1.Den == 1) && true)) then
              if r37.2.2 == 0 then
                if r37.1 == 3 then
                  some (r37.2.1 == 1050)
                else
                  none
              else
                none
            else
              none
          else
            none
        else
          none
      else
        none
    else
      none
  else
    none
theorem m_F_raddlelaw45_alive  : Le (K_raddlelaw45_alive) (F_raddlelaw45_alive) := by
  unfold K_raddlelaw45_alive F_raddlelaw45_alive
  with_reducible repeat' (first | exact m_F_raddlelaw45_given | exact m_F_cost_Count _ | exact m_F_raddlelaw45_rates | exact m_F_cost_Need _ _ | exact m_F_raddlelaw45_tex _ | exact m_F_cost_Weight _ _ | exact m_F_cost_Price _ _ _ _ | exact Le.rfl _ | refine Le.loop _ ?_ | refine Le.bind ?_ ?_ | refine Le.ite ?_ ?_ | refine Le.sum ?_ ?_ | refine Le.prod ?_ | intro _ | exact Empty.elim (by assumption) | dsimp only)
set_option maxRecDepth 1000000 in
theorem k_raddlelaw45_alive : F_raddlelaw45_alive = some true := m_F_raddlelaw45_alive _ (by kernel_rfl)
end Go.Proofs.Ytdbgkakmhlmpbaa
namespace Go.Proofs.Ytdbgkakmhlmpbaa
open Go.RowKit
set_option linter.unusedVariables false

def K_cost_Total_l1 (p0 : (List api_Chart)) (p1 : api_Rates) : (Int × Int × Int) → Option ((Int × Int × Int) ⊕ ((api_Bill × Int) ⊕ (Int × Int))) := fun s0 => match s0 with
  | (s17, s18, s19) =>
    if decide (s17 < (p0.length : Int)) then
      Option.bind (idxO p0 s17) fun x30 =>
      Option.bind (K_cost_Need x30 p1) fun r41 =>
      if r41.2 != 0 then
        some (.inr (.inl ((api_Bill.mk 0 0), r41.2)))
      else
        some (.inl (w64 (s17 + 1), w64 (s18 + r41.1.Length), w64 (s19 + r41.1.Time)))
    else
      some (.inr (.inr (s18, s19)))
def K_cost_Total (p0 : (List api_Chart)) (p1 : api_Rates) : Option (api_Bill × Int) :=
  if decide (20 < (p0.length : Int)) then
    some ((api_Bill.mk 0 0), 4)
  else
    Option.bind (α := (Int × Int) ⊕ (api_Bill × Int)) (
      Option.bind (whileK (K_cost_Total_l1 p0 p1) (0, 0, 0)) fun z0 => match z0 with
        | .inl z =>
          some (.inr z)
        | .inr (e23, e24) =>
          some (.inl (e23, e24))) fun z0 => match z0 with
      | .inl (o12, o13) =>
        if (p0.length : Int) == 0 then
          Option.bind (K_cost_Check p1) fun r54 =>
          some ((api_Bill.mk o12 o13), r54)
        else
          some ((api_Bill.mk o12 o13), 0)
      | .inr z =>
        some z
theorem m_cost_Total_l1 (p0 : (List api_Chart)) (p1 : api_Rates) : ∀ s, Le (K_cost_Total_l1 p0 p1 s) (cost_Total_l1 p0 p1 s) := by
  unfold K_cost_Total_l1 cost_Total_l1
  with_reducible repeat' (first | exact m_F_cost_Need _ _ | exact Le.rfl _ | refine Le.loop _ ?_ | refine Le.bind ?_ ?_ | refine Le.ite ?_ ?_ | refine Le.sum ?_ ?_ | refine Le.prod ?_ | intro _ | exact Empty.elim (by assumption) | dsimp only)
theorem m_F_cost_Total (p0 : (List api_Chart)) (p1 : api_Rates) : Le (K_cost_Total p0 p1) (F_cost_Total p0 p1) := by
  unfold K_cost_Total F_cost_Total
  with_reducible repeat' (first | exact m_cost_Total_l1 _ _ | exact m_F_cost_Check _ | exact Le.rfl _ | refine Le.loop _ ?_ | refine Le.bind ?_ ?_ | refine Le.ite ?_ ?_ | refine Le.sum ?_ ?_ | refine Le.prod ?_ | intro _ | exact Empty.elim (by assumption) | dsimp only)
set_option maxRecDepth 1000000 in
theorem kc_raddlelaw45_CostNames_0 : F_raddleref26_Parse (⟨#[115, 116, 97, 114, 116, 32, 52, 10, 102, 114, 111, 110, 116, 32, 111, 110, 51, 32, 107, 109, 51, 32, 107, 120, 49, 47, 50, 10, 98, 97, 99, 107, 32, 112, 111, 52, 32, 112, 115, 32, 112, 52, 10, 102, 114, 111, 110, 116, 32, 107, 102, 50, 32, 107, 32, 107, 108, 50, 10]⟩ : ByteArray) = some ((api_Chart.mk 4 [(api_Row.mk false [(api_Stitch.mk 9 false 3 0), (api_Stitch.mk 5 false 3 0), (api_Stitch.mk 6 false 1 2)]), (api_Row.mk true [(api_Stitch.mk 10 true 4 0), (api_Stitch.mk 8 true 0 0), (api_Stitch.mk 1 true 0 0), (api_Stitch.mk 1 true 0 0), (api_Stitch.mk 1 true 0 0), (api_Stitch.mk 1 true 0 0)]), (api_Row.mk false [(api_Stitch.mk 3 false 2 0), (api_Stitch.mk 1 false 0 0), (api_Stitch.mk 4 false 2 0)])]), 0) := m_F_raddleref26_Parse _ _ (by kernel_rfl)
set_option maxRecDepth 1000000 in
theorem kc_raddlelaw45_CostNames_1 : F_cost_Count (((api_Chart.mk 4 [(api_Row.mk false [(api_Stitch.mk 9 false 3 0), (api_Stitch.mk 5 false 3 0), (api_Stitch.mk 6 false 1 2)]), (api_Row.mk true [(api_Stitch.mk 10 true 4 0), (api_Stitch.mk 8 true 0 0), (api_Stitch.mk 1 true 0 0), (api_Stitch.mk 1 true 0 0), (api_Stitch.mk 1 true 0 0), (api_Stitch.mk 1 true 0 0)]), (api_Row.mk false [(api_Stitch.mk 3 false 2 0), (api_Stitch.mk 1 false 0 0), (api_Stitch.mk 4 false 2 0)])]), 0)).1 = some ((0, (5, (0, (1, (1, (1, (1, (0, (1, (1, 1)))))))))), 0) := m_F_cost_Count _ _ (by kernel_rfl)
set_option maxRecDepth 1000000 in
theorem kc_raddlelaw45_CostNames_2 : F_raddlelaw45_rates = some (api_Rates.mk (0, (100, (150, (0, (90, (0, (0, (0, (0, (0, 0)))))))))) (0, (1000, (500, (0, (1500, (0, (0, (0, (0, (0, 0)))))))))) 2000) := m_F_raddlelaw45_rates _ (by kernel_rfl)
set_option maxRecDepth 1000000 in
theorem kc_raddlelaw45_CostNames_3 : F_cost_Need (api_Chart.mk 5 ([] : (List api_Row))) ((api_Rates.mk (0, (100, (150, (0, (90, (0, (0, (0, (0, (0, 0)))))))))) (0, (1000, (500, (0, (1500, (0, (0, (0, (0, (0, 0)))))))))) 2000)) = some ((api_Bill.mk 0 0), 0) := m_F_cost_Need _ _ _ (by kernel_rfl)
set_option maxRecDepth 1000000 in
theorem kc_raddlelaw45_CostNames_4 : F_cost_Total ([] : (List api_Chart)) ((api_Rates.mk (0, (100, (150, (0, (90, (0, (0, (0, (0, (0, 0)))))))))) (0, (1000, (500, (0, (1500, (0, (0, (0, (0, (0, 0)))))))))) 2000)) = some ((api_Bill.mk 0 0), 0) := m_F_cost_Total _ _ _ (by kernel_rfl)
set_option maxRecDepth 1000000 in
theorem kc_raddlelaw45_CostNames_5 : F_cost_Check (api_Rates.mk (0, 0, 0, 0, 0, 0, 0, 0, 0, 0, 0) (0, 0, 0, 0, 0, 0, 0, 0, 0, 0, 0) 0) = some 0 := m_F_cost_Check _ _ (by kernel_rfl)
set_option maxRecDepth 1000000 in
theorem kc_raddlelaw45_CostNames_6 : F_cost_Weight (api_Bill.mk 0 (-1)) (api_Count.mk 0 (api_Ratio.mk 0 0)) = some ((api_Ratio.mk 0 0), 2) := m_F_cost_Weight _ _ _ (by kernel_rfl)
set_option maxRecDepth 1000000 in
theorem kc_raddlelaw45_CostNames_7 : F_cost_Weight (api_Bill.mk 0 0) (api_Count.mk 0 (api_Ratio.mk 0 0)) = some ((api_Ratio.mk 0 0), 8) := m_F_cost_Weight _ _ _ (by kernel_rfl)
set_option maxRecDepth 1000000 in
theorem kc_raddlelaw45_CostNames_8 : F_raddlelaw45_tex 50 = some (api_Count.mk 1 (api_Ratio.mk 50 1)) := m_F_raddlelaw45_tex _ _ (by kernel_rfl)
set_option maxRecDepth 1000000 in
theorem kc_raddlelaw45_CostNames_9 : F_cost_Weight (api_Bill.mk 1000000001 0) ((api_Count.mk 1 (api_Ratio.mk 50 1))) = some ((api_Ratio.mk 0 0), 2) := m_F_cost_Weight _ _ _ (by kernel_rfl)
set_option maxRecDepth 1000000 in
theorem kc_raddlelaw45_CostNames_10 : F_cost_Price (api_Bill.mk (-1) 0) ((api_Count.mk 1 (api_Ratio.mk 50 1))) 0 (-1) = some (0, (0, 2)) := m_F_cost_Price _ _ _ _ _ (by kernel_rfl)
set_option maxRecDepth 1000000 in
theorem kc_raddlelaw45_CostNames_11 : F_cost_Price (api_Bill.mk 1 0) ((api_Count.mk 1 (api_Ratio.mk 50 1))) 0 1 = some (0, (0, 2)) := m_F_cost_Price _ _ _ _ _ (by kernel_rfl)
set_option maxRecDepth 1000000 in
theorem kc_raddlelaw45_CostNames_12 : F_cost_Price (api_Bill.mk 1 0) ((api_Count.mk 1 (api_Ratio.mk 50 1))) 1 1000001 = some (0, (0, 2)) := m_F_cost_Price _ _ _ _ _ (by kernel_rfl)
set_option maxRecDepth 1000000 in
theorem kc_raddlelaw45_CostNames_13 : F_cost_Price (api_Bill.mk 0 0) ((api_Count.mk 1 (api_Ratio.mk 50 1))) 1 1000000 = some (0, (0, 0)) := m_F_cost_Price _ _ _ _ _ (by kernel_rfl)
set_option maxRecDepth 1000000 in
theorem kc_raddlelaw45_CostNames_14 : F_raddlelaw45_alive = some true := m_F_raddlelaw45_alive _ (by kernel_rfl)
end Go.Proofs.Ytdbgkakmhlmpbaa
