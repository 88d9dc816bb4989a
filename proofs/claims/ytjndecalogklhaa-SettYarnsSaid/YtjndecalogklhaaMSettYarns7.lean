/- Several texts in one: G4 LSR PlQ G26 G27 -/
import Derived.WalkKit
import Derived.Maps.AppendAt
import Derived.Deep.AppendLies
import Derived.KernelRfl
import Derived.Laws.OwnMore
import Derived.Great.BuildSlice
import Derived.Orders
import Derived.Laws.StructEq
import Derived.ChangeKeysEq
import Derived.Test.YtjndecalogklhaaProg
import Derived.ProofKit
import Derived.OpenShut
import Derived.ChangeOld
import Derived.Deep.Slices
import Derived.Lib.SmallJoins
import Derived.JoinedOf
import Derived.JoinedAt
import Derived.Below
import Derived.Test.YtjndecalogklhaaRows
import Derived.Test.YtjndecalogklhaaMSettYarns6
namespace Go.Proofs.Ytjndecalogklhaa
open Go.RowKit
set_option linter.unusedVariables false

def anc_raddlelaw24_SettRule_0 : List (List Nat) := [[], [], [0, 1], [0, 1, 2], [0, 1, 2, 3], [0, 1, 2, 3, 4], [0, 1, 2, 3, 4, 5], [0, 1, 2, 3, 4, 5], [0, 1, 2, 3, 4, 5, 6, 7], [0, 1, 2, 3, 4, 5, 6, 7, 8], [0, 1, 2, 3, 4, 5], [0, 1, 2, 3, 4, 5, 10], [0, 1, 2, 3, 4, 5, 6, 7, 8, 9, 10, 11], [0, 1, 2, 3, 4, 5, 6, 7, 8, 9, 10, 11, 12], [0, 1, 2, 3, 4, 5, 6, 7, 8, 9, 10, 11, 12, 13], [0, 1, 2, 3, 4, 5, 6, 7, 8, 9, 10, 11, 12, 13, 14], [0, 1, 2, 3, 4, 5, 6, 7, 8, 9, 10, 11, 12, 13, 14], [0, 1, 2, 3, 4, 5, 6, 7, 8, 9, 10, 11, 12, 13, 14, 15, 16], [0, 1, 2, 3, 4, 5, 6, 7, 8, 9, 10, 11, 12, 13, 14, 15, 16, 17], [0, 1, 2, 3, 4, 5, 6, 7, 8, 9, 10, 11, 12, 13, 14, 15, 16, 17, 18], [0, 1, 2, 3, 4, 5, 6, 7, 8, 9, 10, 11, 12, 13, 14, 15, 16, 17, 18, 19], [0, 1, 2, 3, 4, 5, 6, 7, 8, 9, 10, 11, 12, 13, 14, 15, 16, 17, 18, 19, 20]]
noncomputable def raddlelaw24_SettRule_l1 (p0 : api_Grid) (r22 : ((List Int) × (List Int) × Int)) : (Int × Int) → Option ((Int × Int) ⊕ (Bool ⊕ Int)) := fun s0 => match s0 with
  | (s57, s58) =>
    if decide (s58 < p0.H) then
      Option.bind (α := Bool) (
        Option.bind (idxO r22.1 s58) fun x71 =>
        if decide (x71 < 0) then
          some true
        else
          if decide (p0.W < x71) then
            some true
          else
            Option.bind (remI x71 2) fun z93 =>
            some (z93 != 0)) fun o68 =>
      if o68 then
        some (.inr (.inl false))
      else
        Option.bind (idxO r22.1 s58) fun x106 =>
        some (.inl (w64 (s57 + x106), w64 (s58 + 1)))
    else
      some (.inr (.inr s57))
noncomputable def raddlelaw24_SettRule_l2 (p0 : api_Grid) (r22 : ((List Int) × (List Int) × Int)) : (Int × Int) → Option ((Int × Int) ⊕ (Bool ⊕ Int)) := fun s0 => match s0 with
  | (s115, s116) =>
    if decide (s116 < p0.W) then
      Option.bind (α := Bool) (
        Option.bind (idxO r22.2.1 s116) fun x129 =>
        if decide (x129 < 0) then
          some true
        else
          if decide (p0.H < x129) then
            some true
          else
            Option.bind (remI x129 2) fun z151 =>
            some (z151 != 0)) fun o126 =>
      if o126 then
        some (.inr (.inl false))
      else
        Option.bind (idxO r22.2.1 s116) fun x164 =>
        some (.inl (w64 (s115 + x164), w64 (s116 + 1)))
    else
      some (.inr (.inr s115))
noncomputable def F_raddlelaw24_SettRule (p0 : api_Grid) (p1 : Int) : Option Bool :=
  Option.bind (F_raddlelaw24_alive) fun r8 =>
  Option.bind (α := Bool) (
    Option.bind (F_raddlelaw24_fit p0) fun r14 =>
    if !r14 then
      some true
    else
      if decide (p1 < 1) then
        some true
      else
        if decide (1000 < p1) then
          some true
        else
          some (!r8)) fun o11 =>
  if o11 then
    some r8
  else
    Option.bind (F_sett_Turns p0) fun r22 =>
    Option.bind (F_sett_Setts p0 p1) fun r31 =>
    Option.bind (α := Bool) (
      if r22.2.2 != 0 then
        some true
      else
        if r31.2.2 != 0 then
          some true
        else
          if (r22.1.length : Int) != p0.H then
            some true
          else
            if (r22.2.1.length : Int) != p0.W then
              some true
            else
              Option.bind (F_yarn_Check r31.1) fun r45 =>
              if r45 != 0 then
                some true
              else
                Option.bind (F_yarn_Check r31.2.1) fun r48 =>
                some (r48 != 0)) fun o38 =>
    if o38 then
      some false
    else
      Option.bind (α := Int ⊕ Bool) (
        Option.bind (whileO (raddlelaw24_SettRule_l1 p0 r22) (0, 0)) fun z0 => match z0 with
          | .inl z =>
            some (.inr z)
          | .inr e62 =>
            some (.inl e62)) fun z0 => match z0 with
        | .inl o53 =>
          Option.bind (α := Int ⊕ Bool) (
            Option.bind (whileO (raddlelaw24_SettRule_l2 p0 r22) (0, 0)) fun z0 => match z0 with
              | .inl z =>
                some (.inr z)
              | .inr e120 =>
                some (.inl e120)) fun z0 => match z0 with
            | .inl o111 =>
              Option.bind (α := Bool) (
                if r8 then
                  if (w64 (r31.1.Num * (w64 ((w64 (p0.W * p0.H)) + o53)))) == (w64 ((w64 (p1 * (w64 (p0.W * p0.H)))) * r31.1.Den)) then
                    if (w64 (r31.2.1.Num * (w64 ((w64 (p0.W * p0.H)) + o111)))) == (w64 ((w64 (p1 * (w64 (p0.W * p0.H)))) * r31.2.1.Den)) then
                      if decide ((w64 (p1 * r31.1.Den)) ≤ (w64 (2 * r31.1.Num))) then
                        if decide (r31.1.Num ≤ (w64 (p1 * r31.1.Den))) then
                          if decide ((w64 (p1 * r31.2.1.Den)) ≤ (w64 (2 * r31.2.1.Num))) then
                            some (decide (r31.2.1.Num ≤ (w64 (p1 * r31.2.1.Den))))
                          else
                            some false
                        else
                          some false
                      else
                        some false
                    else
                      some false
                  else
                    some false
                else
                  some false) fun o171 =>
              some o171
            | .inr z =>
              some z
        | .inr z =>
          some z
set_option maxHeartbeats 4000000 in
set_option maxRecDepth 100000 in
theorem c_raddlelaw24_SettRule (E : Nat → Prop) (w0 : World) (p0 : api_Grid) (v0 : Value) (p1 : Int) (r : Bool) (h : F_raddlelaw24_SettRule p0 p1 = some r) (S : St0 E [] w0 w0 [] [fRep r_api_Grid (v0) p0]) :
    Calls Try.prog 4 #[v0, .int .i64 p1] w0 (Ret (X := Unit) E [] w0 (fun _ => .bool r) (fun _ => []) (fun _ => [])) := by
  unfold F_raddlelaw24_SettRule at h
  obtain ⟨u1, rfl, hu2⟩ := S.know (i := 0) (e := fRep r_api_Grid (v0) p0) (by kernel_rfl)
  have S := S.learn (fRep (rL rB) u1 p0.Bits) hu2
  obtain ⟨ad3, cp4, _, rfl, _⟩ := hu2
  refine sEnter (args := [.agg #[.int .i64 p0.W, .int .i64 p0.H, .slice ad3 p0.Bits.length cp4], .int .i64 p1]) 221 Try.func4 rfl rfl (by simp) S (fun a S => ?_)
  refine sSeq (fun K5 hK5 => ?_)
  refine sRegion ?_
  refine sBox (v := .agg #[.int .i64 p0.W, .int .i64 p0.H, .slice ad3 p0.Bits.length cp4]) S (wN rfl) rfl (by kernel_rfl) [.int .i64 p0.W, .int .i64 p0.H, .slice ad3 p0.Bits.length cp4] rfl rfl (by decide) (fun a b6 w S => ?_)
  refine sMove (.bool false) S (wN rfl) (.inr rfl) (by kernel_rfl) rfl (by decide) (fun a S => ?_)
  refine leafL (leafT (hK5 _ _ ?_))
  refine sSeq (fun K7 hK7 => ?_)
  refine sRegion ?_
  obtain ⟨r8, hx9, h⟩ := bindSome h
  have S1 := S.mem
  refine sCallQ (X := Unit) (f := 17) (vs := []) (val := fun _ => .bool r8) S (wN rfl) rfl callee17 (by kernel_rfl) (S1.quiet [] (by kernel_rfl)) (fun E1 w1 S1 => c_raddlelaw24_alive E1 w1  r8 hx9 S1) rfl (by decide) (fun _ a w S => ?_)
  refine sMove (.bool r8) S (wN rfl) (.inr rfl) (by kernel_rfl) rfl (by decide) (fun a S => ?_)
  refine leafL (leafT (hK7 _ _ ?_))
  refine sSeq (fun K10 hK10 => ?_)
  obtain ⟨t12, h, g13⟩ := bindSome h
  refine sCut (fun a w => ∃ o11, o11 = t12 ∧ St E [] w0 221 a w [(1, .int .i64 p1), (2, .pointer (some ⟨b6, 0, none⟩)), (5, .bool r8), (33, .bool o11)] [eBox b6 24 [.int .i64 p0.W, .int .i64 p0.H, .slice ad3 p0.Bits.length cp4]] [fRep (rL rB) (.slice ad3 p0.Bits.length cp4) p0.Bits]) ?_ (fun a w hI => ?_)
  · refine sRegion ?_
    refine sLoadN (p := b6) (off := 0) (T := 24) (vs := [.int .i64 p0.W, .int .i64 p0.H, .slice ad3 p0.Bits.length cp4]) 0 [.int .i64 p0.W, .int .i64 p0.H, .slice ad3 p0.Bits.length cp4] S (wN rfl) rfl (by kernel_rfl) (by kernel_rfl) (by kernel_rfl) (by kernel_rfl) rfl rfl (by decide) (fun a S => ?_)
    obtain ⟨r14, hx15, h⟩ := bindSome h
    have S1 := S.mem
    refine sCallQ (X := Unit) (f := 18) (vs := [.agg #[.int .i64 p0.W, .int .i64 p0.H, .slice ad3 p0.Bits.length cp4]]) (val := fun _ => .bool r14) S (wN rfl) rfl callee18 (by kernel_rfl) (S1.quiet [1] (by kernel_rfl)) (fun E1 w1 S1 => c_raddlelaw24_fit E1 w1 p0 (.agg #[.int .i64 p0.W, .int .i64 p0.H, .slice ad3 p0.Bits.length cp4]) r14 hx15 S1) rfl (by decide) (fun _ a w S => ?_)
    refine sNot (b := r14) S (wN rfl) rfl (by kernel_rfl) rfl (by decide) (fun a S => ?_)
    refine sMove (.bool (!r14)) S (wN rfl) (.inl rfl) (by kernel_rfl) rfl (by decide) (fun a S => ?_)
    rcases iteSome h with ⟨hc16, h⟩ | ⟨hc16, h⟩
    · refine sSkip (c := !r14) 3 false 22 23 S rfl rfl (by kernel_rfl) hc16 rfl (by decide) (fun a S => ?_)
      refine sSkip (c := !r14) 3 false 22 24 S rfl rfl (by kernel_rfl) hc16 rfl (by decide) (fun a S => ?_)
      refine sPickT (b := !r14) (.bool true) S (wN rfl) rfl (by kernel_rfl) hc16 (by kernel_rfl) rfl (by decide) (fun a S => ?_)
      refine sMove (.bool true) S (wN rfl) (.inl rfl) (by kernel_rfl) rfl (by decide) (fun a S => ?_)
      refine sSkip (c := true) 7 false 26 27 S rfl rfl (by kernel_rfl) rfl rfl (by decide) (fun a S => ?_)
      refine sSkip (c := true) 7 false 26 28 S rfl rfl (by kernel_rfl) rfl rfl (by decide) (fun a S => ?_)
      refine sPickT (b := true) (.bool true) S (wN rfl) rfl (by kernel_rfl) rfl (by kernel_rfl) rfl (by decide) (fun a S => ?_)
      refine sMove (.bool true) S (wN rfl) (.inl rfl) (by kernel_rfl) rfl (by decide) (fun a S => ?_)
      refine sSkip (c := true) 11 false 30 31 S rfl rfl (by kernel_rfl) rfl rfl (by decide) (fun a S => ?_)
      refine sSkip (c := true) 11 false 30 32 S rfl rfl (by kernel_rfl) rfl rfl (by decide) (fun a S => ?_)
      refine sPickT (b := true) (.bool true) S (wN rfl) rfl (by kernel_rfl) rfl (by kernel_rfl) rfl (by decide) (fun a S => ?_)
      exact leafL (leafT (⟨true, Option.some.inj h, S.fix [0] [0] (by decide) (by kernel_rfl) (by kernel_rfl) (by kernel_rfl)⟩))
    · refine sMove (.int .i64 p1) S (wG (c := !r14) 3 false 22 rfl rfl (by kernel_rfl) hc16) (.inl rfl) (by kernel_rfl) rfl (by decide) (fun a S => ?_)
      refine sBin (.bool (decide (p1 < 1))) S (wG (c := !r14) 3 false 22 rfl rfl (by kernel_rfl) hc16) rfl (by kernel_rfl) (by kernel_rfl) (bLt _ _ _ _ .i64 p1 1) rfl (by decide) (fun a S => ?_)
      refine sPickF (b := !r14) (.bool (decide (p1 < 1))) S (wN rfl) rfl (by kernel_rfl) hc16 (by kernel_rfl) rfl (by decide) (fun a S => ?_)
      refine sMove (.bool (decide (p1 < 1))) S (wN rfl) (.inl rfl) (by kernel_rfl) rfl (by decide) (fun a S => ?_)
      rcases iteSome h with ⟨hc17, h⟩ | ⟨hc17, h⟩
      · refine sSkip (c := decide (p1 < 1)) 7 false 26 27 S rfl rfl (by kernel_rfl) hc17 rfl (by decide) (fun a S => ?_)
        refine sSkip (c := decide (p1 < 1)) 7 false 26 28 S rfl rfl (by kernel_rfl) hc17 rfl (by decide) (fun a S => ?_)
        refine sPickT (b := decide (p1 < 1)) (.bool true) S (wN rfl) rfl (by kernel_rfl) hc17 (by kernel_rfl) rfl (by decide) (fun a S => ?_)
        refine sMove (.bool true) S (wN rfl) (.inl rfl) (by kernel_rfl) rfl (by decide) (fun a S => ?_)
        refine sSkip (c := true) 11 false 30 31 S rfl rfl (by kernel_rfl) rfl rfl (by decide) (fun a S => ?_)
        refine sSkip (c := true) 11 false 30 32 S rfl rfl (by kernel_rfl) rfl rfl (by decide) (fun a S => ?_)
        refine sPickT (b := true) (.bool true) S (wN rfl) rfl (by kernel_rfl) rfl (by kernel_rfl) rfl (by decide) (fun a S => ?_)
        exact leafL (leafT (⟨true, Option.some.inj h, S.fix [0] [0] (by decide) (by kernel_rfl) (by kernel_rfl) (by kernel_rfl)⟩))
      · refine sMove (.int .i64 p1) S (wG (c := decide (p1 < 1)) 7 false 26 rfl rfl (by kernel_rfl) hc17) (.inl rfl) (by kernel_rfl) rfl (by decide) (fun a S => ?_)
        refine sBin (.bool (decide (1000 < p1))) S (wG (c := decide (p1 < 1)) 7 false 26 rfl rfl (by kernel_rfl) hc17) rfl (by kernel_rfl) (by kernel_rfl) (bGt _ _ _ _ .i64 p1 1000) rfl (by decide) (fun a S => ?_)
        refine sPickF (b := decide (p1 < 1)) (.bool (decide (1000 < p1))) S (wN rfl) rfl (by kernel_rfl) hc17 (by kernel_rfl) rfl (by decide) (fun a S => ?_)
        refine sMove (.bool (decide (1000 < p1))) S (wN rfl) (.inl rfl) (by kernel_rfl) rfl (by decide) (fun a S => ?_)
        rcases iteSome h with ⟨hc18, h⟩ | ⟨hc18, h⟩
        · refine sSkip (c := decide (1000 < p1)) 11 false 30 31 S rfl rfl (by kernel_rfl) hc18 rfl (by decide) (fun a S => ?_)
          refine sSkip (c := decide (1000 < p1)) 11 false 30 32 S rfl rfl (by kernel_rfl) hc18 rfl (by decide) (fun a S => ?_)
          refine sPickT (b := decide (1000 < p1)) (.bool true) S (wN rfl) rfl (by kernel_rfl) hc18 (by kernel_rfl) rfl (by decide) (fun a S => ?_)
          exact leafL (leafT (⟨true, Option.some.inj h, S.fix [0] [0] (by decide) (by kernel_rfl) (by kernel_rfl) (by kernel_rfl)⟩))
        · refine sMove (.bool r8) S (wG (c := decide (1000 < p1)) 11 false 30 rfl rfl (by kernel_rfl) hc18) (.inl rfl) (by kernel_rfl) rfl (by decide) (fun a S => ?_)
          refine sNot (b := r8) S (wG (c := decide (1000 < p1)) 11 false 30 rfl rfl (by kernel_rfl) hc18) rfl (by kernel_rfl) rfl (by decide) (fun a S => ?_)
          refine sPickF (b := decide (1000 < p1)) (.bool (!r8)) S (wN rfl) rfl (by kernel_rfl) hc18 (by kernel_rfl) rfl (by decide) (fun a S => ?_)
          exact leafL (leafT (⟨!r8, Option.some.inj h, S.fix [0] [0] (by decide) (by kernel_rfl) (by kernel_rfl) (by kernel_rfl)⟩))
  · obtain ⟨o11, rfl, S⟩ := hI
    have h := g13
    clear g13
    try dsimp only at h
    rcases iteSome h with ⟨hc19, h⟩ | ⟨hc19, h⟩
    · refine sCondT (b := o11) S (by kernel_rfl) hc19 ?_
      refine sSeq (fun K20 hK20 => ?_)
      refine sRegion ?_
      refine sMove (.bool r8) S (wN rfl) (.inl rfl) (by kernel_rfl) rfl (by decide) (fun a S => ?_)
      refine sMove (.bool r8) S (wN rfl) (.inr rfl) (by kernel_rfl) rfl (by decide) (fun a S => ?_)
      refine leafL (leafT (hK20 _ _ ?_))
      obtain rfl := Option.some.inj h
      exact wp_ret (rThen (sRet (.bool r8) S (rsl1 rfl (rvT (t := 4) (v := .bool r8) S (by kernel_rfl))) ⟨(), rfl, S.mem.sel [] [] (by decide) (by kernel_rfl) (by kernel_rfl)⟩))
    · refine sCondF (b := o11) S (by kernel_rfl) hc19 ?_
      refine wp_skip (leafT (hK10 _ _ ?_))
      refine sSeq (fun K21 hK21 => ?_)
      refine sRegion ?_
      refine sLoadN (p := b6) (off := 0) (T := 24) (vs := [.int .i64 p0.W, .int .i64 p0.H, .slice ad3 p0.Bits.length cp4]) 0 [.int .i64 p0.W, .int .i64 p0.H, .slice ad3 p0.Bits.length cp4] S (wN rfl) rfl (by kernel_rfl) (by kernel_rfl) (by kernel_rfl) (by kernel_rfl) rfl rfl (by decide) (fun a S => ?_)
      obtain ⟨r22, hx23, h⟩ := bindSome h
      have S := S.learn (fRep r_api_Grid (.agg #[.int .i64 p0.W, .int .i64 p0.H, .slice ad3 p0.Bits.length cp4]) p0) ⟨_, rfl, S.mem.know (i := 0) (e := fRep (rL rB) (.slice ad3 p0.Bits.length cp4) p0.Bits) (by kernel_rfl)⟩
      refine sCall (X := Value × Value) (f := 11) (vs := [.agg #[.int .i64 p0.W, .int .i64 p0.H, .slice ad3 p0.Bits.length cp4]]) (val := c_sett_Turns_val r22) (B' := fun _ => []) (D' := c_sett_Turns_D r22) [] [eBox b6 24 [.int .i64 p0.W, .int .i64 p0.H, .slice ad3 p0.Bits.length cp4]] [fRep r_api_Grid (.agg #[.int .i64 p0.W, .int .i64 p0.H, .slice ad3 p0.Bits.length cp4]) p0] [0] [0] S (wN rfl) rfl callee11 (by kernel_rfl) (by decide) (by kernel_rfl) (by kernel_rfl) (fun E1 w1 S1 => c_sett_Turns E1 w1 p0 (.agg #[.int .i64 p0.W, .int .i64 p0.H, .slice ad3 p0.Bits.length cp4]) r22 hx23 S1) rfl (by decide) (fun xx a w S => ?_)
      obtain ⟨u24, u25⟩ := xx
      obtain ⟨ad26, cp27, _, rfl, _⟩ := S.mem.know (i := 0) (e := fRep (rL (rI .i64)) (u24) r22.1) (by kernel_rfl)
      obtain ⟨ad28, cp29, _, rfl, _⟩ := S.mem.know (i := 1) (e := fRep (rL (rI .i64)) (u25) r22.2.1) (by kernel_rfl)
      refine sMove (.tuple #[.slice ad26 r22.1.length cp27, .slice ad28 r22.2.1.length cp29, .int .i64 r22.2.2]) S (wN rfl) (.inl rfl) (by kernel_rfl) rfl (by decide) (fun a S => ?_)
      refine sExtract (vs := [.slice ad26 r22.1.length cp27, .slice ad28 r22.2.1.length cp29, .int .i64 r22.2.2]) (.slice ad26 r22.1.length cp27) S (wN rfl) rfl (by kernel_rfl) rfl rfl (by decide) (fun a S => ?_)
      refine sExtract (vs := [.slice ad26 r22.1.length cp27, .slice ad28 r22.2.1.length cp29, .int .i64 r22.2.2]) (.slice ad28 r22.2.1.length cp29) S (wN rfl) rfl (by kernel_rfl) rfl rfl (by decide) (fun a S => ?_)
      refine sExtract (vs := [.slice ad26 r22.1.length cp27, .slice ad28 r22.2.1.length cp29, .int .i64 r22.2.2]) (.int .i64 r22.2.2) S (wN rfl) rfl (by kernel_rfl) rfl rfl (by decide) (fun a S => ?_)
      refine sMove (.slice ad26 r22.1.length cp27) S (wN rfl) (.inr rfl) (by kernel_rfl) rfl (by decide) (fun a S => ?_)
      refine sMove (.slice ad28 r22.2.1.length cp29) S (wN rfl) (.inr rfl) (by kernel_rfl) rfl (by decide) (fun a S => ?_)
      refine sMove (.int .i64 r22.2.2) S (wN rfl) (.inr rfl) (by kernel_rfl) rfl (by decide) (fun a S => ?_)
      refine leafL (leafT (hK21 _ _ ?_))
      refine sSeq (fun K30 hK30 => ?_)
      refine sRegion ?_
      refine sLoadN (p := b6) (off := 0) (T := 24) (vs := [.int .i64 p0.W, .int .i64 p0.H, .slice ad3 p0.Bits.length cp4]) 0 [.int .i64 p0.W, .int .i64 p0.H, .slice ad3 p0.Bits.length cp4] S (wN rfl) rfl (by kernel_rfl) (by kernel_rfl) (by kernel_rfl) (by kernel_rfl) rfl rfl (by decide) (fun a S => ?_)
      refine sMove (.int .i64 p1) S (wN rfl) (.inl rfl) (by kernel_rfl) rfl (by decide) (fun a S => ?_)
      obtain ⟨r31, hx32, h⟩ := bindSome h
      refine sCall (X := Value × Value) (f := 13) (vs := [.agg #[.int .i64 p0.W, .int .i64 p0.H, .slice ad3 p0.Bits.length cp4], .int .i64 p1]) (val := c_sett_Setts_val r31) (B' := fun _ => []) (D' := c_sett_Setts_D r31) [] [eBox b6 24 [.int .i64 p0.W, .int .i64 p0.H, .slice ad3 p0.Bits.length cp4]] [fRep r_api_Grid (.agg #[.int .i64 p0.W, .int .i64 p0.H, .slice ad3 p0.Bits.length cp4]) p0] [0] [2] S (wN rfl) rfl callee13 (by kernel_rfl) (by decide) (by kernel_rfl) (by kernel_rfl) (fun E1 w1 S1 => c_sett_Setts E1 w1 p0 (.agg #[.int .i64 p0.W, .int .i64 p0.H, .slice ad3 p0.Bits.length cp4]) p1 r31 hx32 S1) rfl (by decide) (fun xx a w S => ?_)
      obtain ⟨u33, u34⟩ := xx
      obtain rfl : u33 = .agg #[.int .i64 r31.1.Num, .int .i64 r31.1.Den] := S.mem.know (i := 0) (e := fRep r_api_Ratio (u33) r31.1) (by kernel_rfl)
      obtain rfl : u34 = .agg #[.int .i64 r31.2.1.Num, .int .i64 r31.2.1.Den] := S.mem.know (i := 1) (e := fRep r_api_Ratio (u34) r31.2.1) (by kernel_rfl)
      refine sMove (.tuple #[.agg #[.int .i64 r31.1.Num, .int .i64 r31.1.Den], .agg #[.int .i64 r31.2.1.Num, .int .i64 r31.2.1.Den], .int .i64 r31.2.2]) S (wN rfl) (.inl rfl) (by kernel_rfl) rfl (by decide) (fun a S => ?_)
      refine sExtract (vs := [.agg #[.int .i64 r31.1.Num, .int .i64 r31.1.Den], .agg #[.int .i64 r31.2.1.Num, .int .i64 r31.2.1.Den], .int .i64 r31.2.2]) (.agg #[.int .i64 r31.1.Num, .int .i64 r31.1.Den]) S (wN rfl) rfl (by kernel_rfl) rfl rfl (by decide) (fun a S => ?_)
      refine sExtract (vs := [.agg #[.int .i64 r31.1.Num, .int .i64 r31.1.Den], .agg #[.int .i64 r31.2.1.Num, .int .i64 r31.2.1.Den], .int .i64 r31.2.2]) (.agg #[.int .i64 r31.2.1.Num, .int .i64 r31.2.1.Den]) S (wN rfl) rfl (by kernel_rfl) rfl rfl (by decide) (fun a S => ?_)
      refine sExtract (vs := [.agg #[.int .i64 r31.1.Num, .int .i64 r31.1.Den], .agg #[.int .i64 r31.2.1.Num, .int .i64 r31.2.1.Den], .int .i64 r31.2.2]) (.int .i64 r31.2.2) S (wN rfl) rfl (by kernel_rfl) rfl rfl (by decide) (fun a S => ?_)
      refine sAlloc (.agg #[.int .i64 0, .int .i64 0]) S (wN rfl) rfl (by kernel_rfl) [.int .i64 0, .int .i64 0] rfl rfl (by decide) (fun a b35 w S => ?_)
      refine sAlloc (.agg #[.int .i64 0, .int .i64 0]) S (wN rfl) rfl (by kernel_rfl) [.int .i64 0, .int .i64 0] rfl rfl (by decide) (fun a b36 w S => ?_)
      refine sStore (p := b35) (off := 0) (T := 34) (vs := [.int .i64 0, .int .i64 0]) (v := .agg #[.int .i64 r31.1.Num, .int .i64 r31.1.Den]) 1 [.int .i64 r31.1.Num, .int .i64 r31.1.Den] S (wN rfl) rfl (by kernel_rfl) (by kernel_rfl) rfl (by kernel_rfl) (by kernel_rfl) rfl (by simp) rfl (fun a w S => ?_)
      refine sStore (p := b36) (off := 0) (T := 34) (vs := [.int .i64 0, .int .i64 0]) (v := .agg #[.int .i64 r31.2.1.Num, .int .i64 r31.2.1.Den]) 1 [.int .i64 r31.2.1.Num, .int .i64 r31.2.1.Den] S (wN rfl) rfl (by kernel_rfl) (by kernel_rfl) rfl (by kernel_rfl) (by kernel_rfl) rfl (by simp) rfl (fun a w S => ?_)
      refine sMove (.int .i64 r31.2.2) S (wN rfl) (.inr rfl) (by kernel_rfl) rfl (by decide) (fun a S => ?_)
      refine leafL (leafT (hK30 _ _ ?_))
      refine sSeq (fun K37 hK37 => ?_)
      obtain ⟨t39, h, g40⟩ := bindSome h
      refine sCut (fun a w => ∃ o38, o38 = t39 ∧ St E [] w0 221 a w [(1, .int .i64 p1), (2, .pointer (some ⟨b6, 0, none⟩)), (5, .bool r8), (6, .slice ad26 r22.1.length cp27), (7, .slice ad28 r22.2.1.length cp29), (9, .pointer (some ⟨b35, 0, none⟩)), (10, .pointer (some ⟨b36, 0, none⟩)), (77, .bool o38)] [eBox b6 24 [.int .i64 p0.W, .int .i64 p0.H, .slice ad3 p0.Bits.length cp4], eBox b35 34 [.int .i64 r31.1.Num, .int .i64 r31.1.Den], eBox b36 34 [.int .i64 r31.2.1.Num, .int .i64 r31.2.1.Den]] [fRep (rL (rI .i64)) (.slice ad26 r22.1.length cp27) r22.1, fRep (rL (rI .i64)) (.slice ad28 r22.2.1.length cp29) r22.2.1, fRep (rL rB) (.slice ad3 p0.Bits.length cp4) p0.Bits]) ?_ (fun a w hI => ?_)
      · refine sRegion ?_
        refine sMove (.int .i64 r22.2.2) S (wN rfl) (.inl rfl) (by kernel_rfl) rfl (by decide) (fun a S => ?_)
        refine sBin (.bool (r22.2.2 != 0)) S (wN rfl) rfl (by kernel_rfl) (by kernel_rfl) (bNe _ _ _ _ .i64 r22.2.2 0) rfl (by decide) (fun a S => ?_)
        refine sMove (.bool (r22.2.2 != 0)) S (wN rfl) (.inl rfl) (by kernel_rfl) rfl (by decide) (fun a S => ?_)
        rcases iteSome h with ⟨hc41, h⟩ | ⟨hc41, h⟩
        · refine sSkip (c := r22.2.2 != 0) 2 false 50 51 S rfl rfl (by kernel_rfl) hc41 rfl (by decide) (fun a S => ?_)
          refine sSkip (c := r22.2.2 != 0) 2 false 50 52 S rfl rfl (by kernel_rfl) hc41 rfl (by decide) (fun a S => ?_)
          refine sPickT (b := r22.2.2 != 0) (.bool true) S (wN rfl) rfl (by kernel_rfl) hc41 (by kernel_rfl) rfl (by decide) (fun a S => ?_)
          refine sMove (.bool true) S (wN rfl) (.inl rfl) (by kernel_rfl) rfl (by decide) (fun a S => ?_)
          refine sSkip (c := true) 6 false 54 55 S rfl rfl (by kernel_rfl) rfl rfl (by decide) (fun a S => ?_)
          refine sSkip (c := true) 6 false 54 56 S rfl rfl (by kernel_rfl) rfl rfl (by decide) (fun a S => ?_)
          refine sSkip (c := true) 6 false 54 57 S rfl rfl (by kernel_rfl) rfl rfl (by decide) (fun a S => ?_)
          refine sSkip (c := true) 6 false 54 58 S rfl rfl (by kernel_rfl) rfl rfl (by decide) (fun a S => ?_)
          refine sSkip (c := true) 6 false 54 59 S rfl rfl (by kernel_rfl) rfl rfl (by decide) (fun a S => ?_)
          refine sPickT (b := true) (.bool true) S (wN rfl) rfl (by kernel_rfl) rfl (by kernel_rfl) rfl (by decide) (fun a S => ?_)
          refine sMove (.bool true) S (wN rfl) (.inl rfl) (by kernel_rfl) rfl (by decide) (fun a S => ?_)
          refine sSkip (c := true) 13 false 61 62 S rfl rfl (by kernel_rfl) rfl rfl (by decide) (fun a S => ?_)
          refine sSkip (c := true) 13 false 61 63 S rfl rfl (by kernel_rfl) rfl rfl (by decide) (fun a S => ?_)
          refine sSkip (c := true) 13 false 61 64 S rfl rfl (by kernel_rfl) rfl rfl (by decide) (fun a S => ?_)
          refine sSkip (c := true) 13 false 61 65 S rfl rfl (by kernel_rfl) rfl rfl (by decide) (fun a S => ?_)
          refine sSkip (c := true) 13 false 61 66 S rfl rfl (by kernel_rfl) rfl rfl (by decide) (fun a S => ?_)
          refine sPickT (b := true) (.bool true) S (wN rfl) rfl (by kernel_rfl) rfl (by kernel_rfl) rfl (by decide) (fun a S => ?_)
          refine sMove (.bool true) S (wN rfl) (.inl rfl) (by kernel_rfl) rfl (by decide) (fun a S => ?_)
          refine sSkip (c := true) 20 false 68 69 S rfl rfl (by kernel_rfl) rfl rfl (by decide) (fun a S => ?_)
          refine sSkip (c := true) 20 false 68 70 S rfl rfl (by kernel_rfl) rfl rfl (by decide) (fun a S => ?_)
          refine sSkip (c := true) 20 false 68 71 S rfl rfl (by kernel_rfl) rfl rfl (by decide) (fun a S => ?_)
          refine sPickT (b := true) (.bool true) S (wN rfl) rfl (by kernel_rfl) rfl (by kernel_rfl) rfl (by decide) (fun a S => ?_)
          refine sMove (.bool true) S (wN rfl) (.inl rfl) (by kernel_rfl) rfl (by decide) (fun a S => ?_)
          refine sSkip (c := true) 25 false 73 74 S rfl rfl (by kernel_rfl) rfl rfl (by decide) (fun a S => ?_)
          refine sSkip (c := true) 25 false 73 75 S rfl rfl (by kernel_rfl) rfl rfl (by decide) (fun a S => ?_)
          refine sSkip (c := true) 25 false 73 76 S rfl rfl (by kernel_rfl) rfl rfl (by decide) (fun a S => ?_)
          refine sPickT (b := true) (.bool true) S (wN rfl) rfl (by kernel_rfl) rfl (by kernel_rfl) rfl (by decide) (fun a S => ?_)
          exact leafL (leafT (⟨true, Option.some.inj h, S.fix [2, 1, 0] [2, 3, 5] (by decide) (by kernel_rfl) (by kernel_rfl) (by kernel_rfl)⟩))
        · refine sMove (.int .i64 r31.2.2) S (wG (c := r22.2.2 != 0) 2 false 50 rfl rfl (by kernel_rfl) hc41) (.inl rfl) (by kernel_rfl) rfl (by decide) (fun a S => ?_)
          refine sBin (.bool (r31.2.2 != 0)) S (wG (c := r22.2.2 != 0) 2 false 50 rfl rfl (by kernel_rfl) hc41) rfl (by kernel_rfl) (by kernel_rfl) (bNe _ _ _ _ .i64 r31.2.2 0) rfl (by decide) (fun a S => ?_)
          refine sPickF (b := r22.2.2 != 0) (.bool (r31.2.2 != 0)) S (wN rfl) rfl (by kernel_rfl) hc41 (by kernel_rfl) rfl (by decide) (fun a S => ?_)
          refine sMove (.bool (r31.2.2 != 0)) S (wN rfl) (.inl rfl) (by kernel_rfl) rfl (by decide) (fun a S => ?_)
          rcases iteSome h with ⟨hc42, h⟩ | ⟨hc42, h⟩
          · refine sSkip (c := r31.2.2 != 0) 6 false 54 55 S rfl rfl (by kernel_rfl) hc42 rfl (by decide) (fun a S => ?_)
            refine sSkip (c := r31.2.2 != 0) 6 false 54 56 S rfl rfl (by kernel_rfl) hc42 rfl (by decide) (fun a S => ?_)
            refine sSkip (c := r31.2.2 != 0) 6 false 54 57 S rfl rfl (by kernel_rfl) hc42 rfl (by decide) (fun a S => ?_)
            refine sSkip (c := r31.2.2 != 0) 6 false 54 58 S rfl rfl (by kernel_rfl) hc42 rfl (by decide) (fun a S => ?_)
            refine sSkip (c := r31.2.2 != 0) 6 false 54 59 S rfl rfl (by kernel_rfl) hc42 rfl (by decide) (fun a S => ?_)
            refine sPickT (b := r31.2.2 != 0) (.bool true) S (wN rfl) rfl (by kernel_rfl) hc42 (by kernel_rfl) rfl (by decide) (fun a S => ?_)
            refine sMove (.bool true) S (wN rfl) (.inl rfl) (by kernel_rfl) rfl (by decide) (fun a S => ?_)
            refine sSkip (c := true) 13 false 61 62 S rfl rfl (by kernel_rfl) rfl rfl (by decide) (fun a S => ?_)
            refine sSkip (c := true) 13 false 61 63 S rfl rfl (by kernel_rfl) rfl rfl (by decide) (fun a S => ?_)
            refine sSkip (c := true) 13 false 61 64 S rfl rfl (by kernel_rfl) rfl rfl (by decide) (fun a S => ?_)
            refine sSkip (c := true) 13 false 61 65 S rfl rfl (by kernel_rfl) rfl rfl (by decide) (fun a S => ?_)
            refine sSkip (c := true) 13 false 61 66 S rfl rfl (by kernel_rfl) rfl rfl (by decide) (fun a S => ?_)
            refine sPickT (b := true) (.bool true) S (wN rfl) rfl (by kernel_rfl) rfl (by kernel_rfl) rfl (by decide) (fun a S => ?_)
            refine sMove (.bool true) S (wN rfl) (.inl rfl) (by kernel_rfl) rfl (by decide) (fun a S => ?_)
            refine sSkip (c := true) 20 false 68 69 S rfl rfl (by kernel_rfl) rfl rfl (by decide) (fun a S => ?_)
            refine sSkip (c := true) 20 false 68 70 S rfl rfl (by kernel_rfl) rfl rfl (by decide) (fun a S => ?_)
            refine sSkip (c := true) 20 false 68 71 S rfl rfl (by kernel_rfl) rfl rfl (by decide) (fun a S => ?_)
            refine sPickT (b := true) (.bool true) S (wN rfl) rfl (by kernel_rfl) rfl (by kernel_rfl) rfl (by decide) (fun a S => ?_)
            refine sMove (.bool true) S (wN rfl) (.inl rfl) (by kernel_rfl) rfl (by decide) (fun a S => ?_)
            refine sSkip (c := true) 25 false 73 74 S rfl rfl (by kernel_rfl) rfl rfl (by decide) (fun a S => ?_)
            refine sSkip (c := true) 25 false 73 75 S rfl rfl (by kernel_rfl) rfl rfl (by decide) (fun a S => ?_)
            refine sSkip (c := true) 25 false 73 76 S rfl rfl (by kernel_rfl) rfl rfl (by decide) (fun a S => ?_)
            refine sPickT (b := true) (.bool true) S (wN rfl) rfl (by kernel_rfl) rfl (by kernel_rfl) rfl (by decide) (fun a S => ?_)
            exact leafL (leafT (⟨true, Option.some.inj h, S.fix [2, 1, 0] [2, 3, 5] (by decide) (by kernel_rfl) (by kernel_rfl) (by kernel_rfl)⟩))
          · refine sMove (.slice ad26 r22.1.length cp27) S (wG (c := r31.2.2 != 0) 6 false 54 rfl rfl (by kernel_rfl) hc42) (.inl rfl) (by kernel_rfl) rfl (by decide) (fun a S => ?_)
            refine sLen (ad := ad26) (m := r22.1.length) (c := cp27) S (wG (c := r31.2.2 != 0) 6 false 54 rfl rfl (by kernel_rfl) hc42) rfl Try.underlying27 (by kernel_rfl) rfl (by decide) (fun a S => ?_)
            refine sField (b := b6) (off := 0) 1 1 S (wG (c := r31.2.2 != 0) 6 false 54 rfl rfl (by kernel_rfl) hc42) rfl (by kernel_rfl) (by kernel_rfl) rfl rfl (by decide) (fun a S => ?_)
            refine sLoad1 (p := b6) (off := 1) (T := 24) (vs := [.int .i64 p0.W, .int .i64 p0.H, .slice ad3 p0.Bits.length cp4]) 2 (.int .i64 p0.H) S (wG (c := r31.2.2 != 0) 6 false 54 rfl rfl (by kernel_rfl) hc42) rfl (by kernel_rfl) (by kernel_rfl) (by kernel_rfl) rfl rfl (by decide) (fun a S => ?_)
            refine sBin (.bool ((r22.1.length : Int) != p0.H)) S (wG (c := r31.2.2 != 0) 6 false 54 rfl rfl (by kernel_rfl) hc42) rfl (by kernel_rfl) (by kernel_rfl) (bNe _ _ _ _ .i64 (r22.1.length : Int) p0.H) rfl (by decide) (fun a S => ?_)
            refine sPickF (b := r31.2.2 != 0) (.bool ((r22.1.length : Int) != p0.H)) S (wN rfl) rfl (by kernel_rfl) hc42 (by kernel_rfl) rfl (by decide) (fun a S => ?_)
            refine sMove (.bool ((r22.1.length : Int) != p0.H)) S (wN rfl) (.inl rfl) (by kernel_rfl) rfl (by decide) (fun a S => ?_)
            rcases iteSome h with ⟨hc43, h⟩ | ⟨hc43, h⟩
            · refine sSkip (c := (r22.1.length : Int) != p0.H) 13 false 61 62 S rfl rfl (by kernel_rfl) hc43 rfl (by decide) (fun a S => ?_)
              refine sSkip (c := (r22.1.length : Int) != p0.H) 13 false 61 63 S rfl rfl (by kernel_rfl) hc43 rfl (by decide) (fun a S => ?_)
              refine sSkip (c := (r22.1.length : Int) != p0.H) 13 false 61 64 S rfl rfl (by kernel_rfl) hc43 rfl (by decide) (fun a S => ?_)
              refine sSkip (c := (r22.1.length : Int) != p0.H) 13 false 61 65 S rfl rfl (by kernel_rfl) hc43 rfl (by decide) (fun a S => ?_)
              refine sSkip (c := (r22.1.length : Int) != p0.H) 13 false 61 66 S rfl rfl (by kernel_rfl) hc43 rfl (by decide) (fun a S => ?_)
              refine sPickT (b := (r22.1.length : Int) != p0.H) (.bool true) S (wN rfl) rfl (by kernel_rfl) hc43 (by kernel_rfl) rfl (by decide) (fun a S => ?_)
              refine sMove (.bool true) S (wN rfl) (.inl rfl) (by kernel_rfl) rfl (by decide) (fun a S => ?_)
              refine sSkip (c := true) 20 false 68 69 S rfl rfl (by kernel_rfl) rfl rfl (by decide) (fun a S => ?_)
              refine sSkip (c := true) 20 false 68 70 S rfl rfl (by kernel_rfl) rfl rfl (by decide) (fun a S => ?_)
              refine sSkip (c := true) 20 false 68 71 S rfl rfl (by kernel_rfl) rfl rfl (by decide) (fun a S => ?_)
              refine sPickT (b := true) (.bool true) S (wN rfl) rfl (by kernel_rfl) rfl (by kernel_rfl) rfl (by decide) (fun a S => ?_)
              refine sMove (.bool true) S (wN rfl) (.inl rfl) (by kernel_rfl) rfl (by decide) (fun a S => ?_)
              refine sSkip (c := true) 25 false 73 74 S rfl rfl (by kernel_rfl) rfl rfl (by decide) (fun a S => ?_)
              refine sSkip (c := true) 25 false 73 75 S rfl rfl (by kernel_rfl) rfl rfl (by decide) (fun a S => ?_)
              refine sSkip (c := true) 25 false 73 76 S rfl rfl (by kernel_rfl) rfl rfl (by decide) (fun a S => ?_)
              refine sPickT (b := true) (.bool true) S (wN rfl) rfl (by kernel_rfl) rfl (by kernel_rfl) rfl (by decide) (fun a S => ?_)
              exact leafL (leafT (⟨true, Option.some.inj h, S.fix [2, 1, 0] [2, 3, 5] (by decide) (by kernel_rfl) (by kernel_rfl) (by kernel_rfl)⟩))
            · refine sMove (.slice ad28 r22.2.1.length cp29) S (wG (c := (r22.1.length : Int) != p0.H) 13 false 61 rfl rfl (by kernel_rfl) hc43) (.inl rfl) (by kernel_rfl) rfl (by decide) (fun a S => ?_)
              refine sLen (ad := ad28) (m := r22.2.1.length) (c := cp29) S (wG (c := (r22.1.length : Int) != p0.H) 13 false 61 rfl rfl (by kernel_rfl) hc43) rfl Try.underlying27 (by kernel_rfl) rfl (by decide) (fun a S => ?_)
              refine sField (b := b6) (off := 0) 0 0 S (wG (c := (r22.1.length : Int) != p0.H) 13 false 61 rfl rfl (by kernel_rfl) hc43) rfl (by kernel_rfl) (by kernel_rfl) rfl rfl (by decide) (fun a S => ?_)
              refine sLoad1 (p := b6) (off := 0) (T := 24) (vs := [.int .i64 p0.W, .int .i64 p0.H, .slice ad3 p0.Bits.length cp4]) 2 (.int .i64 p0.W) S (wG (c := (r22.1.length : Int) != p0.H) 13 false 61 rfl rfl (by kernel_rfl) hc43) rfl (by kernel_rfl) (by kernel_rfl) (by kernel_rfl) rfl rfl (by decide) (fun a S => ?_)
              refine sBin (.bool ((r22.2.1.length : Int) != p0.W)) S (wG (c := (r22.1.length : Int) != p0.H) 13 false 61 rfl rfl (by kernel_rfl) hc43) rfl (by kernel_rfl) (by kernel_rfl) (bNe _ _ _ _ .i64 (r22.2.1.length : Int) p0.W) rfl (by decide) (fun a S => ?_)
              refine sPickF (b := (r22.1.length : Int) != p0.H) (.bool ((r22.2.1.length : Int) != p0.W)) S (wN rfl) rfl (by kernel_rfl) hc43 (by kernel_rfl) rfl (by decide) (fun a S => ?_)
              refine sMove (.bool ((r22.2.1.length : Int) != p0.W)) S (wN rfl) (.inl rfl) (by kernel_rfl) rfl (by decide) (fun a S => ?_)
              rcases iteSome h with ⟨hc44, h⟩ | ⟨hc44, h⟩
              · refine sSkip (c := (r22.2.1.length : Int) != p0.W) 20 false 68 69 S rfl rfl (by kernel_rfl) hc44 rfl (by decide) (fun a S => ?_)
                refine sSkip (c := (r22.2.1.length : Int) != p0.W) 20 false 68 70 S rfl rfl (by kernel_rfl) hc44 rfl (by decide) (fun a S => ?_)
                refine sSkip (c := (r22.2.1.length : Int) != p0.W) 20 false 68 71 S rfl rfl (by kernel_rfl) hc44 rfl (by decide) (fun a S => ?_)
                refine sPickT (b := (r22.2.1.length : Int) != p0.W) (.bool true) S (wN rfl) rfl (by kernel_rfl) hc44 (by kernel_rfl) rfl (by decide) (fun a S => ?_)
                refine sMove (.bool true) S (wN rfl) (.inl rfl) (by kernel_rfl) rfl (by decide) (fun a S => ?_)
                refine sSkip (c := true) 25 false 73 74 S rfl rfl (by kernel_rfl) rfl rfl (by decide) (fun a S => ?_)
                refine sSkip (c := true) 25 false 73 75 S rfl rfl (by kernel_rfl) rfl rfl (by decide) (fun a S => ?_)
                refine sSkip (c := true) 25 false 73 76 S rfl rfl (by kernel_rfl) rfl rfl (by decide) (fun a S => ?_)
                refine sPickT (b := true) (.bool true) S (wN rfl) rfl (by kernel_rfl) rfl (by kernel_rfl) rfl (by decide) (fun a S => ?_)
                exact leafL (leafT (⟨true, Option.some.inj h, S.fix [2, 1, 0] [2, 3, 5] (by decide) (by kernel_rfl) (by kernel_rfl) (by kernel_rfl)⟩))
              · refine sLoadN (p := b35) (off := 0) (T := 34) (vs := [.int .i64 r31.1.Num, .int .i64 r31.1.Den]) 1 [.int .i64 r31.1.Num, .int .i64 r31.1.Den] S (wG (c := (r22.2.1.length : Int) != p0.W) 20 false 68 rfl rfl (by kernel_rfl) hc44) rfl (by kernel_rfl) (by kernel_rfl) (by kernel_rfl) (by kernel_rfl) rfl rfl (by decide) (fun a S => ?_)
                obtain ⟨r45, hx46, h⟩ := bindSome h
                have S1 := S.mem
                refine sCallQ (X := Unit) (f := 19) (vs := [.agg #[.int .i64 r31.1.Num, .int .i64 r31.1.Den]]) (val := fun _ => .int .i64 r45) S (wG (c := (r22.2.1.length : Int) != p0.W) 20 false 68 rfl rfl (by kernel_rfl) hc44) rfl callee19 (by kernel_rfl) (S1.quiet [0] (by kernel_rfl)) (fun E1 w1 S1 => c_yarn_Check E1 w1 r31.1 (.agg #[.int .i64 r31.1.Num, .int .i64 r31.1.Den]) r45 hx46 S1) rfl (by decide) (fun _ a w S => ?_)
                refine sBin (.bool (r45 != 0)) S (wG (c := (r22.2.1.length : Int) != p0.W) 20 false 68 rfl rfl (by kernel_rfl) hc44) rfl (by kernel_rfl) (by kernel_rfl) (bNe _ _ _ _ .i64 r45 0) rfl (by decide) (fun a S => ?_)
                refine sPickF (b := (r22.2.1.length : Int) != p0.W) (.bool (r45 != 0)) S (wN rfl) rfl (by kernel_rfl) hc44 (by kernel_rfl) rfl (by decide) (fun a S => ?_)
                refine sMove (.bool (r45 != 0)) S (wN rfl) (.inl rfl) (by kernel_rfl) rfl (by decide) (fun a S => ?_)
                rcases iteSome h with ⟨hc47, h⟩ | ⟨hc47, h⟩
                · refine sSkip (c := r45 != 0) 25 false 73 74 S rfl rfl (by kernel_rfl) hc47 rfl (by decide) (fun a S => ?_)
                  refine sSkip (c := r45 != 0) 25 false 73 75 S rfl rfl (by kernel_rfl) hc47 rfl (by decide) (fun a S => ?_)
                  refine sSkip (c := r45 != 0) 25 false 73 76 S rfl rfl (by kernel_rfl) hc47 rfl (by decide) (fun a S => ?_)
                  refine sPickT (b := r45 != 0) (.bool true) S (wN rfl) rfl (by kernel_rfl) hc47 (by kernel_rfl) rfl (by decide) (fun a S => ?_)
                  exact leafL (leafT (⟨true, Option.some.inj h, S.fix [2, 1, 0] [2, 3, 5] (by decide) (by kernel_rfl) (by kernel_rfl) (by kernel_rfl)⟩))
                · refine sLoadN (p := b36) (off := 0) (T := 34) (vs := [.int .i64 r31.2.1.Num, .int .i64 r31.2.1.Den]) 0 [.int .i64 r31.2.1.Num, .int .i64 r31.2.1.Den] S (wG (c := r45 != 0) 25 false 73 rfl rfl (by kernel_rfl) hc47) rfl (by kernel_rfl) (by kernel_rfl) (by kernel_rfl) (by kernel_rfl) rfl rfl (by decide) (fun a S => ?_)
                  obtain ⟨r48, hx49, h⟩ := bindSome h
                  have S1 := S.mem
                  refine sCallQ (X := Unit) (f := 19) (vs := [.agg #[.int .i64 r31.2.1.Num, .int .i64 r31.2.1.Den]]) (val := fun _ => .int .i64 r48) S (wG (c := r45 != 0) 25 false 73 rfl rfl (by kernel_rfl) hc47) rfl callee19 (by kernel_rfl) (S1.quiet [1] (by kernel_rfl)) (fun E1 w1 S1 => c_yarn_Check E1 w1 r31.2.1 (.agg #[.int .i64 r31.2.1.Num, .int .i64 r31.2.1.Den]) r48 hx49 S1) rfl (by decide) (fun _ a w S => ?_)
                  refine sBin (.bool (r48 != 0)) S (wG (c := r45 != 0) 25 false 73 rfl rfl (by kernel_rfl) hc47) rfl (by kernel_rfl) (by kernel_rfl) (bNe _ _ _ _ .i64 r48 0) rfl (by decide) (fun a S => ?_)
                  refine sPickF (b := r45 != 0) (.bool (r48 != 0)) S (wN rfl) rfl (by kernel_rfl) hc47 (by kernel_rfl) rfl (by decide) (fun a S => ?_)
                  exact leafL (leafT (⟨r48 != 0, Option.some.inj h, S.fix [2, 1, 0] [2, 3, 5] (by decide) (by kernel_rfl) (by kernel_rfl) (by kernel_rfl)⟩))
      · obtain ⟨o38, rfl, S⟩ := hI
        have h := g40
        clear g40
        try dsimp only at h
        rcases iteSome h with ⟨hc50, h⟩ | ⟨hc50, h⟩
        · refine sCondT (b := o38) S (by kernel_rfl) hc50 ?_
          refine sSeq (fun K51 hK51 => ?_)
          refine sRegion ?_
          refine sMove (.bool false) S (wN rfl) (.inr rfl) (by kernel_rfl) rfl (by decide) (fun a S => ?_)
          refine leafL (leafT (hK51 _ _ ?_))
          obtain rfl := Option.some.inj h
          exact wp_ret (rThen (sRet (.bool false) S (rsl1 rfl (rvT (t := 4) (v := .bool false) S (by kernel_rfl))) ⟨(), rfl, S.mem.sel [] [] (by decide) (by kernel_rfl) (by kernel_rfl)⟩))
        · refine sCondF (b := o38) S (by kernel_rfl) hc50 ?_
          refine wp_skip (leafT (hK37 _ _ ?_))
          refine sSeq (fun K52 hK52 => ?_)
          refine sRegion ?_
          refine sMove (.int .i64 0) S (wN rfl) (.inr rfl) (by kernel_rfl) rfl (by decide) (fun a S => ?_)
          refine sMove (.int .i64 0) S (wN rfl) (.inr rfl) (by kernel_rfl) rfl (by decide) (fun a S => ?_)
          refine leafL (leafT (hK52 _ _ ?_))
          obtain ⟨t54, h, g55⟩ := bindSome h
          refine sCut (fun a w => ∃ o53, .inl o53 = t54 ∧ St E [] w0 221 a w [(1, .int .i64 p1), (2, .pointer (some ⟨b6, 0, none⟩)), (5, .bool r8), (7, .slice ad28 r22.2.1.length cp29), (9, .pointer (some ⟨b35, 0, none⟩)), (10, .pointer (some ⟨b36, 0, none⟩)), (12, .int .i64 o53), (13, .int .i64 0)] [eBox b6 24 [.int .i64 p0.W, .int .i64 p0.H, .slice ad3 p0.Bits.length cp4], eBox b35 34 [.int .i64 r31.1.Num, .int .i64 r31.1.Den], eBox b36 34 [.int .i64 r31.2.1.Num, .int .i64 r31.2.1.Den]] [fRep (rL (rI .i64)) (.slice ad28 r22.2.1.length cp29) r22.2.1, fRep (rL rB) (.slice ad3 p0.Bits.length cp4) p0.Bits]) ?_ (fun a w hI => ?_)
          · refine sSeq (fun K56 hK56 => ?_)
            refine sRegion ?_
            refine sMove (.int .i64 0) S (wN rfl) (.inr rfl) (by kernel_rfl) rfl (by decide) (fun a S => ?_)
            refine leafL (leafT (hK56 _ _ ?_))
            refine wp_block ?_
            obtain ⟨t61, hl, g60⟩ := bindSome h
            refine sLoop hl (fun s0 a w => match s0 with | (s57, s58) => St E [] w0 221 a w [(1, .int .i64 p1), (2, .pointer (some ⟨b6, 0, none⟩)), (5, .bool r8), (6, .slice ad26 r22.1.length cp27), (7, .slice ad28 r22.2.1.length cp29), (9, .pointer (some ⟨b35, 0, none⟩)), (10, .pointer (some ⟨b36, 0, none⟩)), (12, .int .i64 s57), (13, .int .i64 0), (14, .int .i64 s58)] [eBox b6 24 [.int .i64 p0.W, .int .i64 p0.H, .slice ad3 p0.Bits.length cp4], eBox b35 34 [.int .i64 r31.1.Num, .int .i64 r31.1.Den], eBox b36 34 [.int .i64 r31.2.1.Num, .int .i64 r31.2.1.Den]] [fRep (rL (rI .i64)) (.slice ad26 r22.1.length cp27) r22.1, fRep (rL (rI .i64)) (.slice ad28 r22.2.1.length cp29) r22.2.1, fRep (rL rB) (.slice ad3 p0.Bits.length cp4) p0.Bits]) (S.fix [0, 1, 2] [0, 1, 2] (by decide) (by kernel_rfl) (by kernel_rfl) (by kernel_rfl)) ?_
            clear hl h
            intro s0 a w c0 hI h hu59
            obtain ⟨s57, s58⟩ := s0
            unfold raddlelaw24_SettRule_l1 at h
            dsimp only at h hI
            have S := hI
            refine sSeq (fun K63 hK63 => ?_)
            refine sSeq (fun K64 hK64 => ?_)
            refine sRegion ?_
            refine sMove (.int .i64 s58) S (wN rfl) (.inl rfl) (by kernel_rfl) rfl (by decide) (fun a S => ?_)
            refine sField (b := b6) (off := 0) 1 1 S (wN rfl) rfl (by kernel_rfl) (by kernel_rfl) rfl rfl (by decide) (fun a S => ?_)
            refine sLoad1 (p := b6) (off := 1) (T := 24) (vs := [.int .i64 p0.W, .int .i64 p0.H, .slice ad3 p0.Bits.length cp4]) 0 (.int .i64 p0.H) S (wN rfl) rfl (by kernel_rfl) (by kernel_rfl) (by kernel_rfl) rfl rfl (by decide) (fun a S => ?_)
            refine sBin (.bool (decide (s58 < p0.H))) S (wN rfl) rfl (by kernel_rfl) (by kernel_rfl) (bLt _ _ _ _ .i64 s58 p0.H) rfl (by decide) (fun a S => ?_)
            refine leafL (leafT (hK64 _ _ ?_))
            rcases iteSome h with ⟨hc65, h⟩ | ⟨hc65, h⟩
            · refine sCondT (b := decide (s58 < p0.H)) S (by kernel_rfl) hc65 ?_
              refine wp_skip (leafT (hK63 _ _ ?_))
              refine sSeq (fun K66 hK66 => ?_)
              refine wp_block ?_
              refine sSeq (fun K67 hK67 => ?_)
              obtain ⟨t69, h, g70⟩ := bindSome h
              refine sCut (fun a w => ∃ o68, o68 = t69 ∧ St E [] w0 221 a w [(1, .int .i64 p1), (2, .pointer (some ⟨b6, 0, none⟩)), (5, .bool r8), (6, .slice ad26 r22.1.length cp27), (7, .slice ad28 r22.2.1.length cp29), (9, .pointer (some ⟨b35, 0, none⟩)), (10, .pointer (some ⟨b36, 0, none⟩)), (12, .int .i64 s57), (13, .int .i64 0), (14, .int .i64 s58), (105, .bool o68)] [eBox b6 24 [.int .i64 p0.W, .int .i64 p0.H, .slice ad3 p0.Bits.length cp4], eBox b35 34 [.int .i64 r31.1.Num, .int .i64 r31.1.Den], eBox b36 34 [.int .i64 r31.2.1.Num, .int .i64 r31.2.1.Den]] [fRep (rL (rI .i64)) (.slice ad26 r22.1.length cp27) r22.1, fRep (rL (rI .i64)) (.slice ad28 r22.2.1.length cp29) r22.2.1, fRep (rL rB) (.slice ad3 p0.Bits.length cp4) p0.Bits]) ?_ (fun a w hI => ?_)
              · obtain ⟨x71, hx72, h⟩ := bindSome h
                rcases iteSome h with ⟨hc76, h⟩ | ⟨hc76, h⟩
                · obtain ⟨q77, hq78, S⟩ := pIdx (P := Try.prog) (r := (rI .i64)) (v := .slice ad26 r22.1.length cp27) (xs := r22.1) (j := s58) 27 3 0 S Try.underlying27 (by kernel_rfl) (by kernel_rfl) hx72
                  obtain ⟨u79, S⟩ := pLoad (r := (rI .i64)) (q := q77) (x := x71) 0 S (by kernel_rfl)
                  obtain rfl : u79 = .int .i64 x71 := S.mem.know (i := 1) (e := fRep (rI .i64) (u79) x71) (by kernel_rfl)
                  refine sDraw (nf := []) (W := [(0, 84, .slice ad26 r22.1.length cp27), (1, 85, .int .i64 s58), (2, 86, q77), (3, 87, .int .i64 x71), (4, 88, .bool (decide (x71 < 0))), (5, 89, .bool (decide (x71 < 0))), (6, 90, undef), (7, 91, undef), (8, 92, undef), (9, 93, undef), (10, 94, undef), (11, 95, undef), (12, 96, undef), (13, 97, .bool true), (14, 98, .bool true), (15, 99, undef), (16, 100, undef), (17, 101, undef), (18, 102, undef), (19, 103, undef), (20, 104, undef), (21, 105, .bool true)]) (by kernel_rfl) S ?_
                  refine node_by (A := anc_raddlelaw24_SettRule_0) (nf := []) (Y := []) (W := [(0, 84, .slice ad26 r22.1.length cp27), (1, 85, .int .i64 s58), (2, 86, q77), (3, 87, .int .i64 x71), (4, 88, .bool (decide (x71 < 0))), (5, 89, .bool (decide (x71 < 0))), (6, 90, undef), (7, 91, undef), (8, 92, undef), (9, 93, undef), (10, 94, undef), (11, 95, undef), (12, 96, undef), (13, 97, .bool true), (14, 98, .bool true), (15, 99, undef), (16, 100, undef), (17, 101, undef), (18, 102, undef), (19, 103, undef), (20, 104, undef), (21, 105, .bool true)]) 22 (by kernel_rfl) (by kernel_rfl) (by kernel_rfl) (by kernel_rfl) (by kernel_rfl) [0, 1, 2, 3, 4, 5, 6, 7, 8, 9, 10, 11, 12, 13, 14, 15, 16, 17, 18, 19, 20, 21] (by kernel_rfl) (by decide) (by decide) (aF 0 21 (by decide) ?_ (aF 1 20 (by decide) ?_ (aF 2 19 (by decide) ?_ (aF 3 18 (by decide) ?_ (aF 4 17 (by decide) ?_ (aF 5 16 (by decide) ?_ (aF 6 15 (by decide) ?_ (aF 7 14 (by decide) ?_ (aF 8 13 (by decide) ?_ (aF 9 12 (by decide) ?_ (aF 10 11 (by decide) ?_ (aF 11 10 (by decide) ?_ (aF 12 9 (by decide) ?_ (aF 13 8 (by decide) ?_ (aF 14 7 (by decide) ?_ (aF 15 6 (by decide) ?_ (aF 16 5 (by decide) ?_ (aF 17 4 (by decide) ?_ (aF 18 3 (by decide) ?_ (aF 19 2 (by decide) ?_ (aF 20 1 (by decide) ?_ (aF 21 0 (by decide) ?_ (trivial))))))))))))))))))))))) [(1, .int .i64 p1), (2, .pointer (some ⟨b6, 0, none⟩)), (5, .bool r8), (6, .slice ad26 r22.1.length cp27), (7, .slice ad28 r22.2.1.length cp29), (9, .pointer (some ⟨b35, 0, none⟩)), (10, .pointer (some ⟨b36, 0, none⟩)), (12, .int .i64 s57), (13, .int .i64 0), (14, .int .i64 s58), (90, undef), (91, undef), (92, undef), (93, undef), (94, undef), (95, undef), (96, undef), (99, undef), (100, undef), (101, undef), (102, undef), (103, undef), (104, undef), (105, .bool true)] (fin_of [none, none, none, none, none, none, none, none, none, none, some 6, some 7, some 8, some 9, some 10, some 11, some 12, some 15, some 16, some 17, some 18, some 19, some 20, some 21] rfl (by kernel_rfl) (by kernel_rfl)) (fun _ a w S => ?_)
                  · refine fI 84 (.slice ad26 r22.1.length cp27) [(6, .slice ad26 r22.1.length cp27)] 0 [none] rfl rfl (by kernel_rfl) rfl (by kernel_rfl) (by kernel_rfl) fun G a w S => ?_
                    refine sMove (.slice ad26 r22.1.length cp27) S (wN rfl) (.inl rfl) (by kernel_rfl) rfl (by decide) (fun a S => ?_)
                    exact leafL ⟨rfl, S⟩
                  · refine fI 85 (.int .i64 s58) [(14, .int .i64 s58)] 1 [none] rfl rfl (by kernel_rfl) rfl (by kernel_rfl) (by kernel_rfl) fun G a w S => ?_
                    refine sMove (.int .i64 s58) S (wN rfl) (.inl rfl) (by kernel_rfl) rfl (by decide) (fun a S => ?_)
                    exact leafL ⟨rfl, S⟩
                  · refine fI 86 q77 [(84, .slice ad26 r22.1.length cp27), (85, .int .i64 s58)] 2 [some 0, some 1] rfl rfl (by kernel_rfl) rfl (by kernel_rfl) (by kernel_rfl) fun G a w S => ?_
                    refine sIdxV (v := .slice ad26 r22.1.length cp27) (k := .i64) (j := s58) S (wN rfl) rfl (by kernel_rfl) (by kernel_rfl) hq78 rfl (by decide) (fun a S => ?_)
                    exact leafL ⟨rfl, S⟩
                  · refine fI 87 (.int .i64 x71) [(86, q77)] 3 [some 2] rfl rfl (by kernel_rfl) rfl (by kernel_rfl) (by kernel_rfl) fun G a w S => ?_
                    refine sLoadV1 (vq := q77) 0 (.int .i64 x71) S (wN rfl) rfl (by kernel_rfl) (by kernel_rfl) (by kernel_rfl) rfl (by decide) (fun a S => ?_)
                    exact leafL ⟨rfl, S⟩
                  · refine fI 88 (.bool (decide (x71 < 0))) [(87, .int .i64 x71)] 4 [some 3] rfl rfl (by kernel_rfl) rfl (by kernel_rfl) (by kernel_rfl) fun G a w S => ?_
                    refine sBin (.bool (decide (x71 < 0))) S (wN rfl) rfl (by kernel_rfl) (by kernel_rfl) (bLt _ _ _ _ .i64 x71 0) rfl (by decide) (fun a S => ?_)
                    exact leafL ⟨rfl, S⟩
                  · refine fI 89 (.bool (decide (x71 < 0))) [(88, .bool (decide (x71 < 0)))] 5 [some 4] rfl rfl (by kernel_rfl) rfl (by kernel_rfl) (by kernel_rfl) fun G a w S => ?_
                    refine sMove (.bool (decide (x71 < 0))) S (wN rfl) (.inl rfl) (by kernel_rfl) rfl (by decide) (fun a S => ?_)
                    exact leafL ⟨rfl, S⟩
                  · refine fI 90 undef [(6, .slice ad26 r22.1.length cp27), (89, .bool (decide (x71 < 0)))] 6 [none, some 5] rfl rfl (by kernel_rfl) rfl (by kernel_rfl) (by kernel_rfl) fun G a w S => ?_
                    refine sSkip (c := decide (x71 < 0)) 5 false 89 90 S rfl rfl (by kernel_rfl) hc76 rfl (by decide) (fun a S => ?_)
                    exact leafL ⟨rfl, S⟩
                  · refine fI 91 undef [(14, .int .i64 s58), (89, .bool (decide (x71 < 0)))] 7 [none, some 5] rfl rfl (by kernel_rfl) rfl (by kernel_rfl) (by kernel_rfl) fun G a w S => ?_
                    refine sSkip (c := decide (x71 < 0)) 5 false 89 91 S rfl rfl (by kernel_rfl) hc76 rfl (by decide) (fun a S => ?_)
                    exact leafL ⟨rfl, S⟩
                  · refine fI 92 undef [(90, undef), (91, undef), (89, .bool (decide (x71 < 0)))] 8 [some 6, some 7, some 5] rfl rfl (by kernel_rfl) rfl (by kernel_rfl) (by kernel_rfl) fun G a w S => ?_
                    refine sSkip (c := decide (x71 < 0)) 5 false 89 92 S rfl rfl (by kernel_rfl) hc76 rfl (by decide) (fun a S => ?_)
                    exact leafL ⟨rfl, S⟩
                  · refine fI 93 undef [(92, undef), (89, .bool (decide (x71 < 0)))] 9 [some 8, some 5] rfl rfl (by kernel_rfl) rfl (by kernel_rfl) (by kernel_rfl) fun G a w S => ?_
                    refine sSkip (c := decide (x71 < 0)) 5 false 89 93 S rfl rfl (by kernel_rfl) hc76 rfl (by decide) (fun a S => ?_)
                    exact leafL ⟨rfl, S⟩
                  · refine fI 94 undef [(2, .pointer (some ⟨b6, 0, none⟩)), (89, .bool (decide (x71 < 0)))] 10 [none, some 5] rfl rfl (by kernel_rfl) rfl (by kernel_rfl) (by kernel_rfl) fun G a w S => ?_
                    refine sSkip (c := decide (x71 < 0)) 5 false 89 94 S rfl rfl (by kernel_rfl) hc76 rfl (by decide) (fun a S => ?_)
                    exact leafL ⟨rfl, S⟩
                  · refine fI 95 undef [(94, undef), (89, .bool (decide (x71 < 0)))] 11 [some 10, some 5] rfl rfl (by kernel_rfl) rfl (by kernel_rfl) (by kernel_rfl) fun G a w S => ?_
                    refine sSkip (c := decide (x71 < 0)) 5 false 89 95 S rfl rfl (by kernel_rfl) hc76 rfl (by decide) (fun a S => ?_)
                    exact leafL ⟨rfl, S⟩
                  · refine fI 96 undef [(93, undef), (95, undef), (89, .bool (decide (x71 < 0)))] 12 [some 9, some 11, some 5] rfl rfl (by kernel_rfl) rfl (by kernel_rfl) (by kernel_rfl) fun G a w S => ?_
                    refine sSkip (c := decide (x71 < 0)) 5 false 89 96 S rfl rfl (by kernel_rfl) hc76 rfl (by decide) (fun a S => ?_)
                    exact leafL ⟨rfl, S⟩
                  · refine fI 97 (.bool true) [(89, .bool (decide (x71 < 0))), (96, undef)] 13 [some 5, some 12] rfl rfl (by kernel_rfl) rfl (by kernel_rfl) (by kernel_rfl) fun G a w S => ?_
                    refine sPickT (b := decide (x71 < 0)) (.bool true) S (wN rfl) rfl (by kernel_rfl) hc76 (by kernel_rfl) rfl (by decide) (fun a S => ?_)
                    exact leafL ⟨rfl, S⟩
                  · refine fI 98 (.bool true) [(97, .bool true)] 14 [some 13] rfl rfl (by kernel_rfl) rfl (by kernel_rfl) (by kernel_rfl) fun G a w S => ?_
                    refine sMove (.bool true) S (wN rfl) (.inl rfl) (by kernel_rfl) rfl (by decide) (fun a S => ?_)
                    exact leafL ⟨rfl, S⟩
                  · refine fI 99 undef [(6, .slice ad26 r22.1.length cp27), (98, .bool true)] 15 [none, some 14] rfl rfl (by kernel_rfl) rfl (by kernel_rfl) (by kernel_rfl) fun G a w S => ?_
                    refine sSkip (c := true) 14 false 98 99 S rfl rfl (by kernel_rfl) rfl rfl (by decide) (fun a S => ?_)
                    exact leafL ⟨rfl, S⟩
                  · refine fI 100 undef [(14, .int .i64 s58), (98, .bool true)] 16 [none, some 14] rfl rfl (by kernel_rfl) rfl (by kernel_rfl) (by kernel_rfl) fun G a w S => ?_
                    refine sSkip (c := true) 14 false 98 100 S rfl rfl (by kernel_rfl) rfl rfl (by decide) (fun a S => ?_)
                    exact leafL ⟨rfl, S⟩
                  · refine fI 101 undef [(99, undef), (100, undef), (98, .bool true)] 17 [some 15, some 16, some 14] rfl rfl (by kernel_rfl) rfl (by kernel_rfl) (by kernel_rfl) fun G a w S => ?_
                    refine sSkip (c := true) 14 false 98 101 S rfl rfl (by kernel_rfl) rfl rfl (by decide) (fun a S => ?_)
                    exact leafL ⟨rfl, S⟩
                  · refine fI 102 undef [(101, undef), (98, .bool true)] 18 [some 17, some 14] rfl rfl (by kernel_rfl) rfl (by kernel_rfl) (by kernel_rfl) fun G a w S => ?_
                    refine sSkip (c := true) 14 false 98 102 S rfl rfl (by kernel_rfl) rfl rfl (by decide) (fun a S => ?_)
                    exact leafL ⟨rfl, S⟩
                  · refine fI 103 undef [(102, undef), (98, .bool true)] 19 [some 18, some 14] rfl rfl (by kernel_rfl) rfl (by kernel_rfl) (by kernel_rfl) fun G a w S => ?_
                    refine sSkip (c := true) 14 false 98 103 S rfl rfl (by kernel_rfl) rfl rfl (by decide) (fun a S => ?_)
                    exact leafL ⟨rfl, S⟩
                  · refine fI 104 undef [(103, undef), (98, .bool true)] 20 [some 19, some 14] rfl rfl (by kernel_rfl) rfl (by kernel_rfl) (by kernel_rfl) fun G a w S => ?_
                    refine sSkip (c := true) 14 false 98 104 S rfl rfl (by kernel_rfl) rfl rfl (by decide) (fun a S => ?_)
                    exact leafL ⟨rfl, S⟩
                  · refine fI 105 (.bool true) [(98, .bool true), (104, undef)] 21 [some 14, some 20] rfl rfl (by kernel_rfl) rfl (by kernel_rfl) (by kernel_rfl) fun G a w S => ?_
                    refine sPickT (b := true) (.bool true) S (wN rfl) rfl (by kernel_rfl) rfl (by kernel_rfl) rfl (by decide) (fun a S => ?_)
                    exact leafL ⟨rfl, S⟩
                  · exact leafT (⟨true, Option.some.inj h, S.fix [0, 1, 2] [3, 4, 5] (by decide) (by kernel_rfl) (by kernel_rfl) (by kernel_rfl)⟩)
                · rcases iteSome h with ⟨hc83, h⟩ | ⟨hc83, h⟩
                  · obtain ⟨q84, hq85, S⟩ := pIdx (P := Try.prog) (r := (rI .i64)) (v := .slice ad26 r22.1.length cp27) (xs := r22.1) (j := s58) 27 3 0 S Try.underlying27 (by kernel_rfl) (by kernel_rfl) hx72
                    obtain ⟨u86, S⟩ := pLoad (r := (rI .i64)) (q := q84) (x := x71) 0 S (by kernel_rfl)
                    obtain rfl : u86 = .int .i64 x71 := S.mem.know (i := 1) (e := fRep (rI .i64) (u86) x71) (by kernel_rfl)
                    obtain ⟨q87, hq88, S⟩ := pIdx (P := Try.prog) (r := (rI .i64)) (v := .slice ad26 r22.1.length cp27) (xs := r22.1) (j := s58) 27 3 3 S Try.underlying27 (by kernel_rfl) (by kernel_rfl) hx72
                    obtain ⟨u89, S⟩ := pLoad (r := (rI .i64)) (q := q87) (x := x71) 0 S (by kernel_rfl)
                    obtain rfl : u89 = .int .i64 x71 := S.mem.know (i := 1) (e := fRep (rI .i64) (u89) x71) (by kernel_rfl)
                    refine sDraw (nf := []) (W := [(0, 84, .slice ad26 r22.1.length cp27), (1, 85, .int .i64 s58), (2, 86, q84), (3, 87, .int .i64 x71), (4, 88, .bool (decide (x71 < 0))), (5, 89, .bool (decide (x71 < 0))), (6, 90, .slice ad26 r22.1.length cp27), (7, 91, .int .i64 s58), (8, 92, q87), (9, 93, .int .i64 x71), (10, 94, .pointer (some ⟨b6, 0, none⟩)), (11, 95, .int .i64 p0.W), (12, 96, .bool (decide (p0.W < x71))), (13, 97, .bool (decide (p0.W < x71))), (14, 98, .bool (decide (p0.W < x71))), (15, 99, undef), (16, 100, undef), (17, 101, undef), (18, 102, undef), (19, 103, undef), (20, 104, undef), (21, 105, .bool true)]) (by kernel_rfl) S ?_
                    refine node_by (A := anc_raddlelaw24_SettRule_0) (nf := []) (Y := []) (W := [(0, 84, .slice ad26 r22.1.length cp27), (1, 85, .int .i64 s58), (2, 86, q84), (3, 87, .int .i64 x71), (4, 88, .bool (decide (x71 < 0))), (5, 89, .bool (decide (x71 < 0))), (6, 90, .slice ad26 r22.1.length cp27), (7, 91, .int .i64 s58), (8, 92, q87), (9, 93, .int .i64 x71), (10, 94, .pointer (some ⟨b6, 0, none⟩)), (11, 95, .int .i64 p0.W), (12, 96, .bool (decide (p0.W < x71))), (13, 97, .bool (decide (p0.W < x71))), (14, 98, .bool (decide (p0.W < x71))), (15, 99, undef), (16, 100, undef), (17, 101, undef), (18, 102, undef), (19, 103, undef), (20, 104, undef), (21, 105, .bool true)]) 22 (by kernel_rfl) (by kernel_rfl) (by kernel_rfl) (by kernel_rfl) (by kernel_rfl) [0, 1, 2, 3, 4, 5, 6, 7, 8, 9, 10, 11, 12, 13, 14, 15, 16, 17, 18, 19, 20, 21] (by kernel_rfl) (by decide) (by decide) (aF 0 21 (by decide) ?_ (aF 1 20 (by decide) ?_ (aF 2 19 (by decide) ?_ (aF 3 18 (by decide) ?_ (aF 4 17 (by decide) ?_ (aF 5 16 (by decide) ?_ (aF 6 15 (by decide) ?_ (aF 7 14 (by decide) ?_ (aF 8 13 (by decide) ?_ (aF 9 12 (by decide) ?_ (aF 10 11 (by decide) ?_ (aF 11 10 (by decide) ?_ (aF 12 9 (by decide) ?_ (aF 13 8 (by decide) ?_ (aF 14 7 (by decide) ?_ (aF 15 6 (by decide) ?_ (aF 16 5 (by decide) ?_ (aF 17 4 (by decide) ?_ (aF 18 3 (by decide) ?_ (aF 19 2 (by decide) ?_ (aF 20 1 (by decide) ?_ (aF 21 0 (by decide) ?_ (trivial))))))))))))))))))))))) [(1, .int .i64 p1), (2, .pointer (some ⟨b6, 0, none⟩)), (5, .bool r8), (6, .slice ad26 r22.1.length cp27), (7, .slice ad28 r22.2.1.length cp29), (9, .pointer (some ⟨b35, 0, none⟩)), (10, .pointer (some ⟨b36, 0, none⟩)), (12, .int .i64 s57), (13, .int .i64 0), (14, .int .i64 s58), (90, .slice ad26 r22.1.length cp27), (91, .int .i64 s58), (92, q87), (93, .int .i64 x71), (94, .pointer (some ⟨b6, 0, none⟩)), (95, .int .i64 p0.W), (96, .bool (decide (p0.W < x71))), (99, undef), (100, undef), (101, undef), (102, undef), (103, undef), (104, undef), (105, .bool true)] (fin_of [none, none, none, none, none, none, none, none, none, none, some 6, some 7, some 8, some 9, some 10, some 11, some 12, some 15, some 16, some 17, some 18, some 19, some 20, some 21] rfl (by kernel_rfl) (by kernel_rfl)) (fun _ a w S => ?_)
                    · refine fI 84 (.slice ad26 r22.1.length cp27) [(6, .slice ad26 r22.1.length cp27)] 0 [none] rfl rfl (by kernel_rfl) rfl (by kernel_rfl) (by kernel_rfl) fun G a w S => ?_
                      refine sMove (.slice ad26 r22.1.length cp27) S (wN rfl) (.inl rfl) (by kernel_rfl) rfl (by decide) (fun a S => ?_)
                      exact leafL ⟨rfl, S⟩
                    · refine fI 85 (.int .i64 s58) [(14, .int .i64 s58)] 1 [none] rfl rfl (by kernel_rfl) rfl (by kernel_rfl) (by kernel_rfl) fun G a w S => ?_
                      refine sMove (.int .i64 s58) S (wN rfl) (.inl rfl) (by kernel_rfl) rfl (by decide) (fun a S => ?_)
                      exact leafL ⟨rfl, S⟩
                    · refine fI 86 q84 [(84, .slice ad26 r22.1.length cp27), (85, .int .i64 s58)] 2 [some 0, some 1] rfl rfl (by kernel_rfl) rfl (by kernel_rfl) (by kernel_rfl) fun G a w S => ?_
                      refine sIdxV (v := .slice ad26 r22.1.length cp27) (k := .i64) (j := s58) S (wN rfl) rfl (by kernel_rfl) (by kernel_rfl) hq85 rfl (by decide) (fun a S => ?_)
                      exact leafL ⟨rfl, S⟩
                    · refine fI 87 (.int .i64 x71) [(86, q84)] 3 [some 2] rfl rfl (by kernel_rfl) rfl (by kernel_rfl) (by kernel_rfl) fun G a w S => ?_
                      refine sLoadV1 (vq := q84) 3 (.int .i64 x71) S (wN rfl) rfl (by kernel_rfl) (by kernel_rfl) (by kernel_rfl) rfl (by decide) (fun a S => ?_)
                      exact leafL ⟨rfl, S⟩
                    · refine fI 88 (.bool (decide (x71 < 0))) [(87, .int .i64 x71)] 4 [some 3] rfl rfl (by kernel_rfl) rfl (by kernel_rfl) (by kernel_rfl) fun G a w S => ?_
                      refine sBin (.bool (decide (x71 < 0))) S (wN rfl) rfl (by kernel_rfl) (by kernel_rfl) (bLt _ _ _ _ .i64 x71 0) rfl (by decide) (fun a S => ?_)
                      exact leafL ⟨rfl, S⟩
                    · refine fI 89 (.bool (decide (x71 < 0))) [(88, .bool (decide (x71 < 0)))] 5 [some 4] rfl rfl (by kernel_rfl) rfl (by kernel_rfl) (by kernel_rfl) fun G a w S => ?_
                      refine sMove (.bool (decide (x71 < 0))) S (wN rfl) (.inl rfl) (by kernel_rfl) rfl (by decide) (fun a S => ?_)
                      exact leafL ⟨rfl, S⟩
                    · refine fI 90 (.slice ad26 r22.1.length cp27) [(6, .slice ad26 r22.1.length cp27), (89, .bool (decide (x71 < 0)))] 6 [none, some 5] rfl rfl (by kernel_rfl) rfl (by kernel_rfl) (by kernel_rfl) fun G a w S => ?_
                      refine sMove (.slice ad26 r22.1.length cp27) S (wG (c := decide (x71 < 0)) 5 false 89 rfl rfl (by kernel_rfl) hc76) (.inl rfl) (by kernel_rfl) rfl (by decide) (fun a S => ?_)
                      exact leafL ⟨rfl, S⟩
                    · refine fI 91 (.int .i64 s58) [(14, .int .i64 s58), (89, .bool (decide (x71 < 0)))] 7 [none, some 5] rfl rfl (by kernel_rfl) rfl (by kernel_rfl) (by kernel_rfl) fun G a w S => ?_
                      refine sMove (.int .i64 s58) S (wG (c := decide (x71 < 0)) 5 false 89 rfl rfl (by kernel_rfl) hc76) (.inl rfl) (by kernel_rfl) rfl (by decide) (fun a S => ?_)
                      exact leafL ⟨rfl, S⟩
                    · refine fI 92 q87 [(90, .slice ad26 r22.1.length cp27), (91, .int .i64 s58), (89, .bool (decide (x71 < 0)))] 8 [some 6, some 7, some 5] rfl rfl (by kernel_rfl) rfl (by kernel_rfl) (by kernel_rfl) fun G a w S => ?_
                      refine sIdxV (v := .slice ad26 r22.1.length cp27) (k := .i64) (j := s58) S (wG (c := decide (x71 < 0)) 5 false 89 rfl rfl (by kernel_rfl) hc76) rfl (by kernel_rfl) (by kernel_rfl) hq88 rfl (by decide) (fun a S => ?_)
                      exact leafL ⟨rfl, S⟩
                    · refine fI 93 (.int .i64 x71) [(92, q87), (89, .bool (decide (x71 < 0)))] 9 [some 8, some 5] rfl rfl (by kernel_rfl) rfl (by kernel_rfl) (by kernel_rfl) fun G a w S => ?_
                      refine sLoadV1 (vq := q87) 0 (.int .i64 x71) S (wG (c := decide (x71 < 0)) 5 false 89 rfl rfl (by kernel_rfl) hc76) rfl (by kernel_rfl) (by kernel_rfl) (by kernel_rfl) rfl (by decide) (fun a S => ?_)
                      exact leafL ⟨rfl, S⟩
                    · refine fI 94 (.pointer (some ⟨b6, 0, none⟩)) [(2, .pointer (some ⟨b6, 0, none⟩)), (89, .bool (decide (x71 < 0)))] 10 [none, some 5] rfl rfl (by kernel_rfl) rfl (by kernel_rfl) (by kernel_rfl) fun G a w S => ?_
                      refine sField (b := b6) (off := 0) 0 0 S (wG (c := decide (x71 < 0)) 5 false 89 rfl rfl (by kernel_rfl) hc76) rfl (by kernel_rfl) (by kernel_rfl) rfl rfl (by decide) (fun a S => ?_)
                      exact leafL ⟨rfl, S⟩
                    · refine fI 95 (.int .i64 p0.W) [(94, .pointer (some ⟨b6, 0, none⟩)), (89, .bool (decide (x71 < 0)))] 11 [some 10, some 5] rfl rfl (by kernel_rfl) rfl (by kernel_rfl) (by kernel_rfl) fun G a w S => ?_
                      refine sLoad1 (p := b6) (off := 0) (T := 24) (vs := [.int .i64 p0.W, .int .i64 p0.H, .slice ad3 p0.Bits.length cp4]) 0 (.int .i64 p0.W) S (wG (c := decide (x71 < 0)) 5 false 89 rfl rfl (by kernel_rfl) hc76) rfl (by kernel_rfl) (by kernel_rfl) (by kernel_rfl) rfl rfl (by decide) (fun a S => ?_)
                      exact leafL ⟨rfl, S⟩
                    · refine fI 96 (.bool (decide (p0.W < x71))) [(93, .int .i64 x71), (95, .int .i64 p0.W), (89, .bool (decide (x71 < 0)))] 12 [some 9, some 11, some 5] rfl rfl (by kernel_rfl) rfl (by kernel_rfl) (by kernel_rfl) fun G a w S => ?_
                      refine sBin (.bool (decide (p0.W < x71))) S (wG (c := decide (x71 < 0)) 5 false 89 rfl rfl (by kernel_rfl) hc76) rfl (by kernel_rfl) (by kernel_rfl) (bGt _ _ _ _ .i64 x71 p0.W) rfl (by decide) (fun a S => ?_)
                      exact leafL ⟨rfl, S⟩
                    · refine fI 97 (.bool (decide (p0.W < x71))) [(89, .bool (decide (x71 < 0))), (96, .bool (decide (p0.W < x71)))] 13 [some 5, some 12] rfl rfl (by kernel_rfl) rfl (by kernel_rfl) (by kernel_rfl) fun G a w S => ?_
                      refine sPickF (b := decide (x71 < 0)) (.bool (decide (p0.W < x71))) S (wN rfl) rfl (by kernel_rfl) hc76 (by kernel_rfl) rfl (by decide) (fun a S => ?_)
                      exact leafL ⟨rfl, S⟩
                    · refine fI 98 (.bool (decide (p0.W < x71))) [(97, .bool (decide (p0.W < x71)))] 14 [some 13] rfl rfl (by kernel_rfl) rfl (by kernel_rfl) (by kernel_rfl) fun G a w S => ?_
                      refine sMove (.bool (decide (p0.W < x71))) S (wN rfl) (.inl rfl) (by kernel_rfl) rfl (by decide) (fun a S => ?_)
                      exact leafL ⟨rfl, S⟩
                    · refine fI 99 undef [(6, .slice ad26 r22.1.length cp27), (98, .bool (decide (p0.W < x71)))] 15 [none, some 14] rfl rfl (by kernel_rfl) rfl (by kernel_rfl) (by kernel_rfl) fun G a w S => ?_
                      refine sSkip (c := decide (p0.W < x71)) 14 false 98 99 S rfl rfl (by kernel_rfl) hc83 rfl (by decide) (fun a S => ?_)
                      exact leafL ⟨rfl, S⟩
                    · refine fI 100 undef [(14, .int .i64 s58), (98, .bool (decide (p0.W < x71)))] 16 [none, some 14] rfl rfl (by kernel_rfl) rfl (by kernel_rfl) (by kernel_rfl) fun G a w S => ?_
                      refine sSkip (c := decide (p0.W < x71)) 14 false 98 100 S rfl rfl (by kernel_rfl) hc83 rfl (by decide) (fun a S => ?_)
                      exact leafL ⟨rfl, S⟩
                    · refine fI 101 undef [(99, undef), (100, undef), (98, .bool (decide (p0.W < x71)))] 17 [some 15, some 16, some 14] rfl rfl (by kernel_rfl) rfl (by kernel_rfl) (by kernel_rfl) fun G a w S => ?_
                      refine sSkip (c := decide (p0.W < x71)) 14 false 98 101 S rfl rfl (by kernel_rfl) hc83 rfl (by decide) (fun a S => ?_)
                      exact leafL ⟨rfl, S⟩
                    · refine fI 102 undef [(101, undef), (98, .bool (decide (p0.W < x71)))] 18 [some 17, some 14] rfl rfl (by kernel_rfl) rfl (by kernel_rfl) (by kernel_rfl) fun G a w S => ?_
                      refine sSkip (c := decide (p0.W < x71)) 14 false 98 102 S rfl rfl (by kernel_rfl) hc83 rfl (by decide) (fun a S => ?_)
                      exact leafL ⟨rfl, S⟩
                    · refine fI 103 undef [(102, undef), (98, .bool (decide (p0.W < x71)))] 19 [some 18, some 14] rfl rfl (by kernel_rfl) rfl (by kernel_rfl) (by kernel_rfl) fun G a w S => ?_
                      refine sSkip (c := decide (p0.W < x71)) 14 false 98 103 S rfl rfl (by kernel_rfl) hc83 rfl (by decide) (fun a S => ?_)
                      exact leafL ⟨rfl, S⟩
                    · refine fI 104 undef [(103, undef), (98, .bool (decide (p0.W < x71)))] 20 [some 19, some 14] rfl rfl (by kernel_rfl) rfl (by kernel_rfl) (by kernel_rfl) fun G a w S => ?_
                      refine sSkip (c := decide (p0.W < x71)) 14 false 98 104 S rfl rfl (by kernel_rfl) hc83 rfl (by decide) (fun a S => ?_)
                      exact leafL ⟨rfl, S⟩
                    · refine fI 105 (.bool true) [(98, .bool (decide (p0.W < x71))), (104, undef)] 21 [some 14, some 20] rfl rfl (by kernel_rfl) rfl (by kernel_rfl) (by kernel_rfl) fun G a w S => ?_
                      refine sPickT (b := decide (p0.W < x71)) (.bool true) S (wN rfl) rfl (by kernel_rfl) hc83 (by kernel_rfl) rfl (by decide) (fun a S => ?_)
                      exact leafL ⟨rfl, S⟩
                    · exact leafT (⟨true, Option.some.inj h, S.fix [0, 1, 2] [6, 7, 8] (by decide) (by kernel_rfl) (by kernel_rfl) (by kernel_rfl)⟩)
                  · obtain ⟨z93, hx94, h⟩ := bindSome h
                    obtain ⟨q95, hq96, S⟩ := pIdx (P := Try.prog) (r := (rI .i64)) (v := .slice ad26 r22.1.length cp27) (xs := r22.1) (j := s58) 27 3 0 S Try.underlying27 (by kernel_rfl) (by kernel_rfl) hx72
                    obtain ⟨u97, S⟩ := pLoad (r := (rI .i64)) (q := q95) (x := x71) 0 S (by kernel_rfl)
                    obtain rfl : u97 = .int .i64 x71 := S.mem.know (i := 1) (e := fRep (rI .i64) (u97) x71) (by kernel_rfl)
                    obtain ⟨q98, hq99, S⟩ := pIdx (P := Try.prog) (r := (rI .i64)) (v := .slice ad26 r22.1.length cp27) (xs := r22.1) (j := s58) 27 3 3 S Try.underlying27 (by kernel_rfl) (by kernel_rfl) hx72
                    obtain ⟨u100, S⟩ := pLoad (r := (rI .i64)) (q := q98) (x := x71) 0 S (by kernel_rfl)
                    obtain rfl : u100 = .int .i64 x71 := S.mem.know (i := 1) (e := fRep (rI .i64) (u100) x71) (by kernel_rfl)
                    obtain ⟨q101, hq102, S⟩ := pIdx (P := Try.prog) (r := (rI .i64)) (v := .slice ad26 r22.1.length cp27) (xs := r22.1) (j := s58) 27 3 6 S Try.underlying27 (by kernel_rfl) (by kernel_rfl) hx72
                    obtain ⟨u103, S⟩ := pLoad (r := (rI .i64)) (q := q101) (x := x71) 0 S (by kernel_rfl)
                    obtain rfl : u103 = .int .i64 x71 := S.mem.know (i := 1) (e := fRep (rI .i64) (u103) x71) (by kernel_rfl)
                    refine sDraw (nf := []) (W := [(0, 84, .slice ad26 r22.1.length cp27), (1, 85, .int .i64 s58), (2, 86, q95), (3, 87, .int .i64 x71), (4, 88, .bool (decide (x71 < 0))), (5, 89, .bool (decide (x71 < 0))), (6, 90, .slice ad26 r22.1.length cp27), (7, 91, .int .i64 s58), (8, 92, q98), (9, 93, .int .i64 x71), (10, 94, .pointer (some ⟨b6, 0, none⟩)), (11, 95, .int .i64 p0.W), (12, 96, .bool (decide (p0.W < x71))), (13, 97, .bool (decide (p0.W < x71))), (14, 98, .bool (decide (p0.W < x71))), (15, 99, .slice ad26 r22.1.length cp27), (16, 100, .int .i64 s58), (17, 101, q101), (18, 102, .int .i64 x71), (19, 103, .int .i64 z93), (20, 104, .bool (z93 != 0)), (21, 105, .bool (z93 != 0))]) (by kernel_rfl) S ?_
                    refine node_by (A := anc_raddlelaw24_SettRule_0) (nf := []) (Y := []) (W := [(0, 84, .slice ad26 r22.1.length cp27), (1, 85, .int .i64 s58), (2, 86, q95), (3, 87, .int .i64 x71), (4, 88, .bool (decide (x71 < 0))), (5, 89, .bool (decide (x71 < 0))), (6, 90, .slice ad26 r22.1.length cp27), (7, 91, .int .i64 s58), (8, 92, q98), (9, 93, .int .i64 x71), (10, 94, .pointer (some ⟨b6, 0, none⟩)), (11, 95, .int .i64 p0.W), (12, 96, .bool (decide (p0.W < x71))), (13, 97, .bool (decide (p0.W < x71))), (14, 98, .bool (decide (p0.W < x71))), (15, 99, .slice ad26 r22.1.length cp27), (16, 100, .int .i64 s58), (17, 101, q101), (18, 102, .int .i64 x71), (19, 103, .int .i64 z93), (20, 104, .bool (z93 != 0)), (21, 105, .bool (z93 != 0))]) 22 (by kernel_rfl) (by kernel_rfl) (by kernel_rfl) (by kernel_rfl) (by kernel_rfl) [0, 1, 2, 3, 4, 5, 6, 7, 8, 9, 10, 11, 12, 13, 14, 15, 16, 17, 18, 19, 20, 21] (by kernel_rfl) (by decide) (by decide) (aF 0 21 (by decide) ?_ (aF 1 20 (by decide) ?_ (aF 2 19 (by decide) ?_ (aF 3 18 (by decide) ?_ (aF 4 17 (by decide) ?_ (aF 5 16 (by decide) ?_ (aF 6 15 (by decide) ?_ (aF 7 14 (by decide) ?_ (aF 8 13 (by decide) ?_ (aF 9 12 (by decide) ?_ (aF 10 11 (by decide) ?_ (aF 11 10 (by decide) ?_ (aF 12 9 (by decide) ?_ (aF 13 8 (by decide) ?_ (aF 14 7 (by decide) ?_ (aF 15 6 (by decide) ?_ (aF 16 5 (by decide) ?_ (aF 17 4 (by decide) ?_ (aF 18 3 (by decide) ?_ (aF 19 2 (by decide) ?_ (aF 20 1 (by decide) ?_ (aF 21 0 (by decide) ?_ (trivial))))))))))))))))))))))) [(1, .int .i64 p1), (2, .pointer (some ⟨b6, 0, none⟩)), (5, .bool r8), (6, .slice ad26 r22.1.length cp27), (7, .slice ad28 r22.2.1.length cp29), (9, .pointer (some ⟨b35, 0, none⟩)), (10, .pointer (some ⟨b36, 0, none⟩)), (12, .int .i64 s57), (13, .int .i64 0), (14, .int .i64 s58), (90, .slice ad26 r22.1.length cp27), (91, .int .i64 s58), (92, q98), (93, .int .i64 x71), (94, .pointer (some ⟨b6, 0, none⟩)), (95, .int .i64 p0.W), (96, .bool (decide (p0.W < x71))), (99, .slice ad26 r22.1.length cp27), (100, .int .i64 s58), (101, q101), (102, .int .i64 x71), (103, .int .i64 z93), (104, .bool (z93 != 0)), (105, .bool (z93 != 0))] (fin_of [none, none, none, none, none, none, none, none, none, none, some 6, some 7, some 8, some 9, some 10, some 11, some 12, some 15, some 16, some 17, some 18, some 19, some 20, some 21] rfl (by kernel_rfl) (by kernel_rfl)) (fun _ a w S => ?_)
                    · refine fI 84 (.slice ad26 r22.1.length cp27) [(6, .slice ad26 r22.1.length cp27)] 0 [none] rfl rfl (by kernel_rfl) rfl (by kernel_rfl) (by kernel_rfl) fun G a w S => ?_
                      refine sMove (.slice ad26 r22.1.length cp27) S (wN rfl) (.inl rfl) (by kernel_rfl) rfl (by decide) (fun a S => ?_)
                      exact leafL ⟨rfl, S⟩
                    · refine fI 85 (.int .i64 s58) [(14, .int .i64 s58)] 1 [none] rfl rfl (by kernel_rfl) rfl (by kernel_rfl) (by kernel_rfl) fun G a w S => ?_
                      refine sMove (.int .i64 s58) S (wN rfl) (.inl rfl) (by kernel_rfl) rfl (by decide) (fun a S => ?_)
                      exact leafL ⟨rfl, S⟩
                    · refine fI 86 q95 [(84, .slice ad26 r22.1.length cp27), (85, .int .i64 s58)] 2 [some 0, some 1] rfl rfl (by kernel_rfl) rfl (by kernel_rfl) (by kernel_rfl) fun G a w S => ?_
                      refine sIdxV (v := .slice ad26 r22.1.length cp27) (k := .i64) (j := s58) S (wN rfl) rfl (by kernel_rfl) (by kernel_rfl) hq96 rfl (by decide) (fun a S => ?_)
                      exact leafL ⟨rfl, S⟩
                    · refine fI 87 (.int .i64 x71) [(86, q95)] 3 [some 2] rfl rfl (by kernel_rfl) rfl (by kernel_rfl) (by kernel_rfl) fun G a w S => ?_
                      refine sLoadV1 (vq := q95) 6 (.int .i64 x71) S (wN rfl) rfl (by kernel_rfl) (by kernel_rfl) (by kernel_rfl) rfl (by decide) (fun a S => ?_)
                      exact leafL ⟨rfl, S⟩
                    · refine fI 88 (.bool (decide (x71 < 0))) [(87, .int .i64 x71)] 4 [some 3] rfl rfl (by kernel_rfl) rfl (by kernel_rfl) (by kernel_rfl) fun G a w S => ?_
                      refine sBin (.bool (decide (x71 < 0))) S (wN rfl) rfl (by kernel_rfl) (by kernel_rfl) (bLt _ _ _ _ .i64 x71 0) rfl (by decide) (fun a S => ?_)
                      exact leafL ⟨rfl, S⟩
                    · refine fI 89 (.bool (decide (x71 < 0))) [(88, .bool (decide (x71 < 0)))] 5 [some 4] rfl rfl (by kernel_rfl) rfl (by kernel_rfl) (by kernel_rfl) fun G a w S => ?_
                      refine sMove (.bool (decide (x71 < 0))) S (wN rfl) (.inl rfl) (by kernel_rfl) rfl (by decide) (fun a S => ?_)
                      exact leafL ⟨rfl, S⟩
                    · refine fI 90 (.slice ad26 r22.1.length cp27) [(6, .slice ad26 r22.1.length cp27), (89, .bool (decide (x71 < 0)))] 6 [none, some 5] rfl rfl (by kernel_rfl) rfl (by kernel_rfl) (by kernel_rfl) fun G a w S => ?_
                      refine sMove (.slice ad26 r22.1.length cp27) S (wG (c := decide (x71 < 0)) 5 false 89 rfl rfl (by kernel_rfl) hc76) (.inl rfl) (by kernel_rfl) rfl (by decide) (fun a S => ?_)
                      exact leafL ⟨rfl, S⟩
                    · refine fI 91 (.int .i64 s58) [(14, .int .i64 s58), (89, .bool (decide (x71 < 0)))] 7 [none, some 5] rfl rfl (by kernel_rfl) rfl (by kernel_rfl) (by kernel_rfl) fun G a w S => ?_
                      refine sMove (.int .i64 s58) S (wG (c := decide (x71 < 0)) 5 false 89 rfl rfl (by kernel_rfl) hc76) (.inl rfl) (by kernel_rfl) rfl (by decide) (fun a S => ?_)
                      exact leafL ⟨rfl, S⟩
                    · refine fI 92 q98 [(90, .slice ad26 r22.1.length cp27), (91, .int .i64 s58), (89, .bool (decide (x71 < 0)))] 8 [some 6, some 7, some 5] rfl rfl (by kernel_rfl) rfl (by kernel_rfl) (by kernel_rfl) fun G a w S => ?_
                      refine sIdxV (v := .slice ad26 r22.1.length cp27) (k := .i64) (j := s58) S (wG (c := decide (x71 < 0)) 5 false 89 rfl rfl (by kernel_rfl) hc76) rfl (by kernel_rfl) (by kernel_rfl) hq99 rfl (by decide) (fun a S => ?_)
                      exact leafL ⟨rfl, S⟩
                    · refine fI 93 (.int .i64 x71) [(92, q98), (89, .bool (decide (x71 < 0)))] 9 [some 8, some 5] rfl rfl (by kernel_rfl) rfl (by kernel_rfl) (by kernel_rfl) fun G a w S => ?_
                      refine sLoadV1 (vq := q98) 3 (.int .i64 x71) S (wG (c := decide (x71 < 0)) 5 false 89 rfl rfl (by kernel_rfl) hc76) rfl (by kernel_rfl) (by kernel_rfl) (by kernel_rfl) rfl (by decide) (fun a S => ?_)
                      exact leafL ⟨rfl, S⟩
                    · refine fI 94 (.pointer (some ⟨b6, 0, none⟩)) [(2, .pointer (some ⟨b6, 0, none⟩)), (89, .bool (decide (x71 < 0)))] 10 [none, some 5] rfl rfl (by kernel_rfl) rfl (by kernel_rfl) (by kernel_rfl) fun G a w S => ?_
                      refine sField (b := b6) (off := 0) 0 0 S (wG (c := decide (x71 < 0)) 5 false 89 rfl rfl (by kernel_rfl) hc76) rfl (by kernel_rfl) (by kernel_rfl) rfl rfl (by decide) (fun a S => ?_)
                      exact leafL ⟨rfl, S⟩
                    · refine fI 95 (.int .i64 p0.W) [(94, .pointer (some ⟨b6, 0, none⟩)), (89, .bool (decide (x71 < 0)))] 11 [some 10, some 5] rfl rfl (by kernel_rfl) rfl (by kernel_rfl) (by kernel_rfl) fun G a w S => ?_
                      refine sLoad1 (p := b6) (off := 0) (T := 24) (vs := [.int .i64 p0.W, .int .i64 p0.H, .slice ad3 p0.Bits.length cp4]) 0 (.int .i64 p0.W) S (wG (c := decide (x71 < 0)) 5 false 89 rfl rfl (by kernel_rfl) hc76) rfl (by kernel_rfl) (by kernel_rfl) (by kernel_rfl) rfl rfl (by decide) (fun a S => ?_)
                      exact leafL ⟨rfl, S⟩
                    · refine fI 96 (.bool (decide (p0.W < x71))) [(93, .int .i64 x71), (95, .int .i64 p0.W), (89, .bool (decide (x71 < 0)))] 12 [some 9, some 11, some 5] rfl rfl (by kernel_rfl) rfl (by kernel_rfl) (by kernel_rfl) fun G a w S => ?_
                      refine sBin (.bool (decide (p0.W < x71))) S (wG (c := decide (x71 < 0)) 5 false 89 rfl rfl (by kernel_rfl) hc76) rfl (by kernel_rfl) (by kernel_rfl) (bGt _ _ _ _ .i64 x71 p0.W) rfl (by decide) (fun a S => ?_)
                      exact leafL ⟨rfl, S⟩
                    · refine fI 97 (.bool (decide (p0.W < x71))) [(89, .bool (decide (x71 < 0))), (96, .bool (decide (p0.W < x71)))] 13 [some 5, some 12] rfl rfl (by kernel_rfl) rfl (by kernel_rfl) (by kernel_rfl) fun G a w S => ?_
                      refine sPickF (b := decide (x71 < 0)) (.bool (decide (p0.W < x71))) S (wN rfl) rfl (by kernel_rfl) hc76 (by kernel_rfl) rfl (by decide) (fun a S => ?_)
                      exact leafL ⟨rfl, S⟩
                    · refine fI 98 (.bool (decide (p0.W < x71))) [(97, .bool (decide (p0.W < x71)))] 14 [some 13] rfl rfl (by kernel_rfl) rfl (by kernel_rfl) (by kernel_rfl) fun G a w S => ?_
                      refine sMove (.bool (decide (p0.W < x71))) S (wN rfl) (.inl rfl) (by kernel_rfl) rfl (by decide) (fun a S => ?_)
                      exact leafL ⟨rfl, S⟩
                    · refine fI 99 (.slice ad26 r22.1.length cp27) [(6, .slice ad26 r22.1.length cp27), (98, .bool (decide (p0.W < x71)))] 15 [none, some 14] rfl rfl (by kernel_rfl) rfl (by kernel_rfl) (by kernel_rfl) fun G a w S => ?_
                      refine sMove (.slice ad26 r22.1.length cp27) S (wG (c := decide (p0.W < x71)) 14 false 98 rfl rfl (by kernel_rfl) hc83) (.inl rfl) (by kernel_rfl) rfl (by decide) (fun a S => ?_)
                      exact leafL ⟨rfl, S⟩
                    · refine fI 100 (.int .i64 s58) [(14, .int .i64 s58), (98, .bool (decide (p0.W < x71)))] 16 [none, some 14] rfl rfl (by kernel_rfl) rfl (by kernel_rfl) (by kernel_rfl) fun G a w S => ?_
                      refine sMove (.int .i64 s58) S (wG (c := decide (p0.W < x71)) 14 false 98 rfl rfl (by kernel_rfl) hc83) (.inl rfl) (by kernel_rfl) rfl (by decide) (fun a S => ?_)
                      exact leafL ⟨rfl, S⟩
                    · refine fI 101 q101 [(99, .slice ad26 r22.1.length cp27), (100, .int .i64 s58), (98, .bool (decide (p0.W < x71)))] 17 [some 15, some 16, some 14] rfl rfl (by kernel_rfl) rfl (by kernel_rfl) (by kernel_rfl) fun G a w S => ?_
                      refine sIdxV (v := .slice ad26 r22.1.length cp27) (k := .i64) (j := s58) S (wG (c := decide (p0.W < x71)) 14 false 98 rfl rfl (by kernel_rfl) hc83) rfl (by kernel_rfl) (by kernel_rfl) hq102 rfl (by decide) (fun a S => ?_)
                      exact leafL ⟨rfl, S⟩
                    · refine fI 102 (.int .i64 x71) [(101, q101), (98, .bool (decide (p0.W < x71)))] 18 [some 17, some 14] rfl rfl (by kernel_rfl) rfl (by kernel_rfl) (by kernel_rfl) fun G a w S => ?_
                      refine sLoadV1 (vq := q101) 0 (.int .i64 x71) S (wG (c := decide (p0.W < x71)) 14 false 98 rfl rfl (by kernel_rfl) hc83) rfl (by kernel_rfl) (by kernel_rfl) (by kernel_rfl) rfl (by decide) (fun a S => ?_)
                      exact leafL ⟨rfl, S⟩
                    · refine fI 103 (.int .i64 z93) [(102, .int .i64 x71), (98, .bool (decide (p0.W < x71)))] 19 [some 18, some 14] rfl rfl (by kernel_rfl) rfl (by kernel_rfl) (by kernel_rfl) fun G a w S => ?_
                      refine sBin (.int .i64 z93) S (wG (c := decide (p0.W < x71)) 14 false 98 rfl rfl (by kernel_rfl) hc83) rfl (by kernel_rfl) (by kernel_rfl) (bRem _ _ _ _ (x := x71) (y := 2) hx94) rfl (by decide) (fun a S => ?_)
                      exact leafL ⟨rfl, S⟩
                    · refine fI 104 (.bool (z93 != 0)) [(103, .int .i64 z93), (98, .bool (decide (p0.W < x71)))] 20 [some 19, some 14] rfl rfl (by kernel_rfl) rfl (by kernel_rfl) (by kernel_rfl) fun G a w S => ?_
                      refine sBin (.bool (z93 != 0)) S (wG (c := decide (p0.W < x71)) 14 false 98 rfl rfl (by kernel_rfl) hc83) rfl (by kernel_rfl) (by kernel_rfl) (bNe _ _ _ _ .i64 z93 0) rfl (by decide) (fun a S => ?_)
                      exact leafL ⟨rfl, S⟩
                    · refine fI 105 (.bool (z93 != 0)) [(98, .bool (decide (p0.W < x71))), (104, .bool (z93 != 0))] 21 [some 14, some 20] rfl rfl (by kernel_rfl) rfl (by kernel_rfl) (by kernel_rfl) fun G a w S => ?_
                      refine sPickF (b := decide (p0.W < x71)) (.bool (z93 != 0)) S (wN rfl) rfl (by kernel_rfl) hc83 (by kernel_rfl) rfl (by decide) (fun a S => ?_)
                      exact leafL ⟨rfl, S⟩
                    · exact leafT (⟨z93 != 0, Option.some.inj h, S.fix [0, 1, 2] [9, 10, 11] (by decide) (by kernel_rfl) (by kernel_rfl) (by kernel_rfl)⟩)
              · obtain ⟨o68, rfl, S⟩ := hI
                have h := g70
                clear g70
                try dsimp only at h
                rcases iteSome h with ⟨hc104, h⟩ | ⟨hc104, h⟩
                · refine sCondT (b := o68) S (by kernel_rfl) hc104 ?_
                  refine sSeq (fun K105 hK105 => ?_)
                  refine sRegion ?_
                  refine sMove (.bool false) S (wN rfl) (.inr rfl) (by kernel_rfl) rfl (by decide) (fun a S => ?_)
                  refine leafL (leafT (hK105 _ _ ?_))
                  obtain rfl := Option.some.inj h
                  obtain rfl := hu59 _ rfl
                  have h := g60
                  clear g60
                  try dsimp only at h
                  obtain rfl := Option.some.inj h
                  have h := g55
                  clear g55
                  try dsimp only at h
                  obtain rfl := Option.some.inj h
                  exact wp_ret (rThen (rBlock (rThen (rThen (rBlock (rThen (sRet (.bool false) S (rsl1 rfl (rvT (t := 4) (v := .bool false) S (by kernel_rfl))) ⟨(), rfl, S.mem.sel [] [] (by decide) (by kernel_rfl) (by kernel_rfl)⟩)))))))
                · refine sCondF (b := o68) S (by kernel_rfl) hc104 ?_
                  refine wp_skip (leafT (hK67 _ _ ?_))
                  refine sRegion ?_
                  refine sMove (.int .i64 s57) S (wN rfl) (.inl rfl) (by kernel_rfl) rfl (by decide) (fun a S => ?_)
                  refine sMove (.slice ad26 r22.1.length cp27) S (wN rfl) (.inl rfl) (by kernel_rfl) rfl (by decide) (fun a S => ?_)
                  refine sMove (.int .i64 s58) S (wN rfl) (.inl rfl) (by kernel_rfl) rfl (by decide) (fun a S => ?_)
                  obtain ⟨x106, hx107, h⟩ := bindSome h
                  obtain ⟨q108, hq109, S⟩ := pIdx (P := Try.prog) (r := (rI .i64)) (v := .slice ad26 r22.1.length cp27) (xs := r22.1) (j := s58) 27 3 0 S Try.underlying27 (by kernel_rfl) (by kernel_rfl) hx107
                  refine sIdxV (v := .slice ad26 r22.1.length cp27) (k := .i64) (j := s58) S (wN rfl) rfl (by kernel_rfl) (by kernel_rfl) hq109 rfl (by decide) (fun a S => ?_)
                  obtain ⟨u110, S⟩ := pLoad (r := (rI .i64)) (q := q108) (x := x106) 0 S (by kernel_rfl)
                  obtain rfl : u110 = .int .i64 x106 := S.mem.know (i := 1) (e := fRep (rI .i64) (u110) x106) (by kernel_rfl)
                  refine sLoadV1 (vq := q108) 0 (.int .i64 x106) S (wN rfl) rfl (by kernel_rfl) (by kernel_rfl) (by kernel_rfl) rfl (by decide) (fun a S => ?_)
                  refine sBin (.int .i64 (w64 (s57 + x106))) S (wN rfl) rfl (by kernel_rfl) (by kernel_rfl) (bAdd _ _ _ _ s57 x106) rfl (by decide) (fun a S => ?_)
                  refine sMove (.int .i64 (w64 (s57 + x106))) S (wN rfl) (.inr rfl) (by kernel_rfl) rfl (by decide) (fun a S => ?_)
                  refine leafL (leafB (leafT (hK66 _ _ ?_)))
                  refine sRegion ?_
                  refine sMove (.int .i64 s58) S (wN rfl) (.inl rfl) (by kernel_rfl) rfl (by decide) (fun a S => ?_)
                  refine sBin (.int .i64 (w64 (s58 + 1))) S (wN rfl) rfl (by kernel_rfl) (by kernel_rfl) (bAdd _ _ _ _ s58 1) rfl (by decide) (fun a S => ?_)
                  refine sMove (.int .i64 (w64 (s58 + 1))) S (wN rfl) (.inr rfl) (by kernel_rfl) rfl (by decide) (fun a S => ?_)
                  exact leafL (leafT (⟨(w64 (s57 + x106), w64 (s58 + 1)), (Option.some.inj h).symm, (S.fix [0, 1, 2] [3, 4, 5] (by decide) (by kernel_rfl) (by kernel_rfl) (by kernel_rfl))⟩))
            · refine sCondF (b := decide (s58 < p0.H)) S (by kernel_rfl) hc65 ?_
              obtain rfl := Option.some.inj h
              obtain rfl := hu59 _ rfl
              have h := g60
              clear g60
              try dsimp only at h
              exact wp_exit (xThen (xThen (xHit (leafT (⟨s57, Option.some.inj h, S.fix [0, 1, 2] [1, 2] (by decide) (by kernel_rfl) (by kernel_rfl) (by kernel_rfl)⟩)))))
          · obtain ⟨o53, rfl, S⟩ := hI
            have h := g55
            clear g55
            try dsimp only at h
            obtain ⟨t112, h, g113⟩ := bindSome h
            refine sCut (fun a w => ∃ o111, .inl o111 = t112 ∧ St E [] w0 221 a w [(1, .int .i64 p1), (2, .pointer (some ⟨b6, 0, none⟩)), (5, .bool r8), (9, .pointer (some ⟨b35, 0, none⟩)), (10, .pointer (some ⟨b36, 0, none⟩)), (12, .int .i64 o53), (13, .int .i64 o111)] [eBox b6 24 [.int .i64 p0.W, .int .i64 p0.H, .slice ad3 p0.Bits.length cp4], eBox b35 34 [.int .i64 r31.1.Num, .int .i64 r31.1.Den], eBox b36 34 [.int .i64 r31.2.1.Num, .int .i64 r31.2.1.Den]] [fRep (rL rB) (.slice ad3 p0.Bits.length cp4) p0.Bits]) ?_ (fun a w hI => ?_)
            · refine sSeq (fun K114 hK114 => ?_)
              refine sRegion ?_
              refine sMove (.int .i64 0) S (wN rfl) (.inr rfl) (by kernel_rfl) rfl (by decide) (fun a S => ?_)
              refine leafL (leafT (hK114 _ _ ?_))
              refine wp_block ?_
              obtain ⟨t119, hl, g118⟩ := bindSome h
              refine sLoop hl (fun s0 a w => match s0 with | (s115, s116) => St E [] w0 221 a w [(1, .int .i64 p1), (2, .pointer (some ⟨b6, 0, none⟩)), (5, .bool r8), (7, .slice ad28 r22.2.1.length cp29), (9, .pointer (some ⟨b35, 0, none⟩)), (10, .pointer (some ⟨b36, 0, none⟩)), (12, .int .i64 o53), (13, .int .i64 s115), (15, .int .i64 s116)] [eBox b6 24 [.int .i64 p0.W, .int .i64 p0.H, .slice ad3 p0.Bits.length cp4], eBox b35 34 [.int .i64 r31.1.Num, .int .i64 r31.1.Den], eBox b36 34 [.int .i64 r31.2.1.Num, .int .i64 r31.2.1.Den]] [fRep (rL (rI .i64)) (.slice ad28 r22.2.1.length cp29) r22.2.1, fRep (rL rB) (.slice ad3 p0.Bits.length cp4) p0.Bits]) (S.fix [0, 1, 2] [0, 1] (by decide) (by kernel_rfl) (by kernel_rfl) (by kernel_rfl)) ?_
              clear hl h
              intro s0 a w c0 hI h hu117
              obtain ⟨s115, s116⟩ := s0
              unfold raddlelaw24_SettRule_l2 at h
              dsimp only at h hI
              have S := hI
              refine sSeq (fun K121 hK121 => ?_)
              refine sSeq (fun K122 hK122 => ?_)
              refine sRegion ?_
              refine sMove (.int .i64 s116) S (wN rfl) (.inl rfl) (by kernel_rfl) rfl (by decide) (fun a S => ?_)
              refine sField (b := b6) (off := 0) 0 0 S (wN rfl) rfl (by kernel_rfl) (by kernel_rfl) rfl rfl (by decide) (fun a S => ?_)
              refine sLoad1 (p := b6) (off := 0) (T := 24) (vs := [.int .i64 p0.W, .int .i64 p0.H, .slice ad3 p0.Bits.length cp4]) 0 (.int .i64 p0.W) S (wN rfl) rfl (by kernel_rfl) (by kernel_rfl) (by kernel_rfl) rfl rfl (by decide) (fun a S => ?_)
              refine sBin (.bool (decide (s116 < p0.W))) S (wN rfl) rfl (by kernel_rfl) (by kernel_rfl) (bLt _ _ _ _ .i64 s116 p0.W) rfl (by decide) (fun a S => ?_)
              refine leafL (leafT (hK122 _ _ ?_))
              rcases iteSome h with ⟨hc123, h⟩ | ⟨hc123, h⟩
              · refine sCondT (b := decide (s116 < p0.W)) S (by kernel_rfl) hc123 ?_
                refine wp_skip (leafT (hK121 _ _ ?_))
                refine sSeq (fun K124 hK124 => ?_)
                refine wp_block ?_
                refine sSeq (fun K125 hK125 => ?_)
                obtain ⟨t127, h, g128⟩ := bindSome h
                refine sCut (fun a w => ∃ o126, o126 = t127 ∧ St E [] w0 221 a w [(1, .int .i64 p1), (2, .pointer (some ⟨b6, 0, none⟩)), (5, .bool r8), (7, .slice ad28 r22.2.1.length cp29), (9, .pointer (some ⟨b35, 0, none⟩)), (10, .pointer (some ⟨b36, 0, none⟩)), (12, .int .i64 o53), (13, .int .i64 s115), (15, .int .i64 s116), (139, .bool o126)] [eBox b6 24 [.int .i64 p0.W, .int .i64 p0.H, .slice ad3 p0.Bits.length cp4], eBox b35 34 [.int .i64 r31.1.Num, .int .i64 r31.1.Den], eBox b36 34 [.int .i64 r31.2.1.Num, .int .i64 r31.2.1.Den]] [fRep (rL (rI .i64)) (.slice ad28 r22.2.1.length cp29) r22.2.1, fRep (rL rB) (.slice ad3 p0.Bits.length cp4) p0.Bits]) ?_ (fun a w hI => ?_)
                · obtain ⟨x129, hx130, h⟩ := bindSome h
                  rcases iteSome h with ⟨hc134, h⟩ | ⟨hc134, h⟩
                  · obtain ⟨q135, hq136, S⟩ := pIdx (P := Try.prog) (r := (rI .i64)) (v := .slice ad28 r22.2.1.length cp29) (xs := r22.2.1) (j := s116) 27 3 0 S Try.underlying27 (by kernel_rfl) (by kernel_rfl) hx130
                    obtain ⟨u137, S⟩ := pLoad (r := (rI .i64)) (q := q135) (x := x129) 0 S (by kernel_rfl)
                    obtain rfl : u137 = .int .i64 x129 := S.mem.know (i := 1) (e := fRep (rI .i64) (u137) x129) (by kernel_rfl)
                    refine sDraw (nf := []) (W := [(0, 118, .slice ad28 r22.2.1.length cp29), (1, 119, .int .i64 s116), (2, 120, q135), (3, 121, .int .i64 x129), (4, 122, .bool (decide (x129 < 0))), (5, 123, .bool (decide (x129 < 0))), (6, 124, undef), (7, 125, undef), (8, 126, undef), (9, 127, undef), (10, 128, undef), (11, 129, undef), (12, 130, undef), (13, 131, .bool true), (14, 132, .bool true), (15, 133, undef), (16, 134, undef), (17, 135, undef), (18, 136, undef), (19, 137, undef), (20, 138, undef), (21, 139, .bool true)]) (by kernel_rfl) S ?_
                    refine node_by (A := anc_raddlelaw24_SettRule_0) (nf := []) (Y := []) (W := [(0, 118, .slice ad28 r22.2.1.length cp29), (1, 119, .int .i64 s116), (2, 120, q135), (3, 121, .int .i64 x129), (4, 122, .bool (decide (x129 < 0))), (5, 123, .bool (decide (x129 < 0))), (6, 124, undef), (7, 125, undef), (8, 126, undef), (9, 127, undef), (10, 128, undef), (11, 129, undef), (12, 130, undef), (13, 131, .bool true), (14, 132, .bool true), (15, 133, undef), (16, 134, undef), (17, 135, undef), (18, 136, undef), (19, 137, undef), (20, 138, undef), (21, 139, .bool true)]) 22 (by kernel_rfl) (by kernel_rfl) (by kernel_rfl) (by kernel_rfl) (by kernel_rfl) [0, 1, 2, 3, 4, 5, 6, 7, 8, 9, 10, 11, 12, 13, 14, 15, 16, 17, 18, 19, 20, 21] (by kernel_rfl) (by decide) (by decide) (aF 0 21 (by decide) ?_ (aF 1 20 (by decide) ?_ (aF 2 19 (by decide) ?_ (aF 3 18 (by decide) ?_ (aF 4 17 (by decide) ?_ (aF 5 16 (by decide) ?_ (aF 6 15 (by decide) ?_ (aF 7 14 (by decide) ?_ (aF 8 13 (by decide) ?_ (aF 9 12 (by decide) ?_ (aF 10 11 (by decide) ?_ (aF 11 10 (by decide) ?_ (aF 12 9 (by decide) ?_ (aF 13 8 (by decide) ?_ (aF 14 7 (by decide) ?_ (aF 15 6 (by decide) ?_ (aF 16 5 (by decide) ?_ (aF 17 4 (by decide) ?_ (aF 18 3 (by decide) ?_ (aF 19 2 (by decide) ?_ (aF 20 1 (by decide) ?_ (aF 21 0 (by decide) ?_ (trivial))))))))))))))))))))))) [(1, .int .i64 p1), (2, .pointer (some ⟨b6, 0, none⟩)), (5, .bool r8), (7, .slice ad28 r22.2.1.length cp29), (9, .pointer (some ⟨b35, 0, none⟩)), (10, .pointer (some ⟨b36, 0, none⟩)), (12, .int .i64 o53), (13, .int .i64 s115), (15, .int .i64 s116), (124, undef), (125, undef), (126, undef), (127, undef), (128, undef), (129, undef), (130, undef), (133, undef), (134, undef), (135, undef), (136, undef), (137, undef), (138, undef), (139, .bool true)] (fin_of [none, none, none, none, none, none, none, none, none, some 6, some 7, some 8, some 9, some 10, some 11, some 12, some 15, some 16, some 17, some 18, some 19, some 20, some 21] rfl (by kernel_rfl) (by kernel_rfl)) (fun _ a w S => ?_)
                    · refine fI 118 (.slice ad28 r22.2.1.length cp29) [(7, .slice ad28 r22.2.1.length cp29)] 0 [none] rfl rfl (by kernel_rfl) rfl (by kernel_rfl) (by kernel_rfl) fun G a w S => ?_
                      refine sMove (.slice ad28 r22.2.1.length cp29) S (wN rfl) (.inl rfl) (by kernel_rfl) rfl (by decide) (fun a S => ?_)
                      exact leafL ⟨rfl, S⟩
                    · refine fI 119 (.int .i64 s116) [(15, .int .i64 s116)] 1 [none] rfl rfl (by kernel_rfl) rfl (by kernel_rfl) (by kernel_rfl) fun G a w S => ?_
                      refine sMove (.int .i64 s116) S (wN rfl) (.inl rfl) (by kernel_rfl) rfl (by decide) (fun a S => ?_)
                      exact leafL ⟨rfl, S⟩
                    · refine fI 120 q135 [(118, .slice ad28 r22.2.1.length cp29), (119, .int .i64 s116)] 2 [some 0, some 1] rfl rfl (by kernel_rfl) rfl (by kernel_rfl) (by kernel_rfl) fun G a w S => ?_
                      refine sIdxV (v := .slice ad28 r22.2.1.length cp29) (k := .i64) (j := s116) S (wN rfl) rfl (by kernel_rfl) (by kernel_rfl) hq136 rfl (by decide) (fun a S => ?_)
                      exact leafL ⟨rfl, S⟩
                    · refine fI 121 (.int .i64 x129) [(120, q135)] 3 [some 2] rfl rfl (by kernel_rfl) rfl (by kernel_rfl) (by kernel_rfl) fun G a w S => ?_
                      refine sLoadV1 (vq := q135) 0 (.int .i64 x129) S (wN rfl) rfl (by kernel_rfl) (by kernel_rfl) (by kernel_rfl) rfl (by decide) (fun a S => ?_)
                      exact leafL ⟨rfl, S⟩
                    · refine fI 122 (.bool (decide (x129 < 0))) [(121, .int .i64 x129)] 4 [some 3] rfl rfl (by kernel_rfl) rfl (by kernel_rfl) (by kernel_rfl) fun G a w S => ?_
                      refine sBin (.bool (decide (x129 < 0))) S (wN rfl) rfl (by kernel_rfl) (by kernel_rfl) (bLt _ _ _ _ .i64 x129 0) rfl (by decide) (fun a S => ?_)
                      exact leafL ⟨rfl, S⟩
                    · refine fI 123 (.bool (decide (x129 < 0))) [(122, .bool (decide (x129 < 0)))] 5 [some 4] rfl rfl (by kernel_rfl) rfl (by kernel_rfl) (by kernel_rfl) fun G a w S => ?_
                      refine sMove (.bool (decide (x129 < 0))) S (wN rfl) (.inl rfl) (by kernel_rfl) rfl (by decide) (fun a S => ?_)
                      exact leafL ⟨rfl, S⟩
                    · refine fI 124 undef [(7, .slice ad28 r22.2.1.length cp29), (123, .bool (decide (x129 < 0)))] 6 [none, some 5] rfl rfl (by kernel_rfl) rfl (by kernel_rfl) (by kernel_rfl) fun G a w S => ?_
                      refine sSkip (c := decide (x129 < 0)) 5 false 123 124 S rfl rfl (by kernel_rfl) hc134 rfl (by decide) (fun a S => ?_)
                      exact leafL ⟨rfl, S⟩
                    · refine fI 125 undef [(15, .int .i64 s116), (123, .bool (decide (x129 < 0)))] 7 [none, some 5] rfl rfl (by kernel_rfl) rfl (by kernel_rfl) (by kernel_rfl) fun G a w S => ?_
                      refine sSkip (c := decide (x129 < 0)) 5 false 123 125 S rfl rfl (by kernel_rfl) hc134 rfl (by decide) (fun a S => ?_)
                      exact leafL ⟨rfl, S⟩
                    · refine fI 126 undef [(124, undef), (125, undef), (123, .bool (decide (x129 < 0)))] 8 [some 6, some 7, some 5] rfl rfl (by kernel_rfl) rfl (by kernel_rfl) (by kernel_rfl) fun G a w S => ?_
                      refine sSkip (c := decide (x129 < 0)) 5 false 123 126 S rfl rfl (by kernel_rfl) hc134 rfl (by decide) (fun a S => ?_)
                      exact leafL ⟨rfl, S⟩
                    · refine fI 127 undef [(126, undef), (123, .bool (decide (x129 < 0)))] 9 [some 8, some 5] rfl rfl (by kernel_rfl) rfl (by kernel_rfl) (by kernel_rfl) fun G a w S => ?_
                      refine sSkip (c := decide (x129 < 0)) 5 false 123 127 S rfl rfl (by kernel_rfl) hc134 rfl (by decide) (fun a S => ?_)
                      exact leafL ⟨rfl, S⟩
                    · refine fI 128 undef [(2, .pointer (some ⟨b6, 0, none⟩)), (123, .bool (decide (x129 < 0)))] 10 [none, some 5] rfl rfl (by kernel_rfl) rfl (by kernel_rfl) (by kernel_rfl) fun G a w S => ?_
                      refine sSkip (c := decide (x129 < 0)) 5 false 123 128 S rfl rfl (by kernel_rfl) hc134 rfl (by decide) (fun a S => ?_)
                      exact leafL ⟨rfl, S⟩
                    · refine fI 129 undef [(128, undef), (123, .bool (decide (x129 < 0)))] 11 [some 10, some 5] rfl rfl (by kernel_rfl) rfl (by kernel_rfl) (by kernel_rfl) fun G a w S => ?_
                      refine sSkip (c := decide (x129 < 0)) 5 false 123 129 S rfl rfl (by kernel_rfl) hc134 rfl (by decide) (fun a S => ?_)
                      exact leafL ⟨rfl, S⟩
                    · refine fI 130 undef [(127, undef), (129, undef), (123, .bool (decide (x129 < 0)))] 12 [some 9, some 11, some 5] rfl rfl (by kernel_rfl) rfl (by kernel_rfl) (by kernel_rfl) fun G a w S => ?_
                      refine sSkip (c := decide (x129 < 0)) 5 false 123 130 S rfl rfl (by kernel_rfl) hc134 rfl (by decide) (fun a S => ?_)
                      exact leafL ⟨rfl, S⟩
                    · refine fI 131 (.bool true) [(123, .bool (decide (x129 < 0))), (130, undef)] 13 [some 5, some 12] rfl rfl (by kernel_rfl) rfl (by kernel_rfl) (by kernel_rfl) fun G a w S => ?_
                      refine sPickT (b := decide (x129 < 0)) (.bool true) S (wN rfl) rfl (by kernel_rfl) hc134 (by kernel_rfl) rfl (by decide) (fun a S => ?_)
                      exact leafL ⟨rfl, S⟩
                    · refine fI 132 (.bool true) [(131, .bool true)] 14 [some 13] rfl rfl (by kernel_rfl) rfl (by kernel_rfl) (by kernel_rfl) fun G a w S => ?_
                      refine sMove (.bool true) S (wN rfl) (.inl rfl) (by kernel_rfl) rfl (by decide) (fun a S => ?_)
                      exact leafL ⟨rfl, S⟩
                    · refine fI 133 undef [(7, .slice ad28 r22.2.1.length cp29), (132, .bool true)] 15 [none, some 14] rfl rfl (by kernel_rfl) rfl (by kernel_rfl) (by kernel_rfl) fun G a w S => ?_
                      refine sSkip (c := true) 14 false 132 133 S rfl rfl (by kernel_rfl) rfl rfl (by decide) (fun a S => ?_)
                      exact leafL ⟨rfl, S⟩
                    · refine fI 134 undef [(15, .int .i64 s116), (132, .bool true)] 16 [none, some 14] rfl rfl (by kernel_rfl) rfl (by kernel_rfl) (by kernel_rfl) fun G a w S => ?_
                      refine sSkip (c := true) 14 false 132 134 S rfl rfl (by kernel_rfl) rfl rfl (by decide) (fun a S => ?_)
                      exact leafL ⟨rfl, S⟩
                    · refine fI 135 undef [(133, undef), (134, undef), (132, .bool true)] 17 [some 15, some 16, some 14] rfl rfl (by kernel_rfl) rfl (by kernel_rfl) (by kernel_rfl) fun G a w S => ?_
                      refine sSkip (c := true) 14 false 132 135 S rfl rfl (by kernel_rfl) rfl rfl (by decide) (fun a S => ?_)
                      exact leafL ⟨rfl, S⟩
                    · refine fI 136 undef [(135, undef), (132, .bool true)] 18 [some 17, some 14] rfl rfl (by kernel_rfl) rfl (by kernel_rfl) (by kernel_rfl) fun G a w S => ?_
                      refine sSkip (c := true) 14 false 132 136 S rfl rfl (by kernel_rfl) rfl rfl (by decide) (fun a S => ?_)
                      exact leafL ⟨rfl, S⟩
                    · refine fI 137 undef [(136, undef), (132, .bool true)] 19 [some 18, some 14] rfl rfl (by kernel_rfl) rfl (by kernel_rfl) (by kernel_rfl) fun G a w S => ?_
                      refine sSkip (c := true) 14 false 132 137 S rfl rfl (by kernel_rfl) rfl rfl (by decide) (fun a S => ?_)
                      exact leafL ⟨rfl, S⟩
                    · refine fI 138 undef [(137, undef), (132, .bool true)] 20 [some 19, some 14] rfl rfl (by kernel_rfl) rfl (by kernel_rfl) (by kernel_rfl) fun G a w S => ?_
                      refine sSkip (c := true) 14 false 132 138 S rfl rfl (by kernel_rfl) rfl rfl (by decide) (fun a S => ?_)
                      exact leafL ⟨rfl, S⟩
                    · refine fI 139 (.bool true) [(132, .bool true), (138, undef)] 21 [some 14, some 20] rfl rfl (by kernel_rfl) rfl (by kernel_rfl) (by kernel_rfl) fun G a w S => ?_
                      refine sPickT (b := true) (.bool true) S (wN rfl) rfl (by kernel_rfl) rfl (by kernel_rfl) rfl (by decide) (fun a S => ?_)
                      exact leafL ⟨rfl, S⟩
                    · exact leafT (⟨true, Option.some.inj h, S.fix [0, 1, 2] [3, 4] (by decide) (by kernel_rfl) (by kernel_rfl) (by kernel_rfl)⟩)
                  · rcases iteSome h with ⟨hc141, h⟩ | ⟨hc141, h⟩
                    · obtain ⟨q142, hq143, S⟩ := pIdx (P := Try.prog) (r := (rI .i64)) (v := .slice ad28 r22.2.1.length cp29) (xs := r22.2.1) (j := s116) 27 3 0 S Try.underlying27 (by kernel_rfl) (by kernel_rfl) hx130
                      obtain ⟨u144, S⟩ := pLoad (r := (rI .i64)) (q := q142) (x := x129) 0 S (by kernel_rfl)
                      obtain rfl : u144 = .int .i64 x129 := S.mem.know (i := 1) (e := fRep (rI .i64) (u144) x129) (by kernel_rfl)
                      obtain ⟨q145, hq146, S⟩ := pIdx (P := Try.prog) (r := (rI .i64)) (v := .slice ad28 r22.2.1.length cp29) (xs := r22.2.1) (j := s116) 27 3 3 S Try.underlying27 (by kernel_rfl) (by kernel_rfl) hx130
                      obtain ⟨u147, S⟩ := pLoad (r := (rI .i64)) (q := q145) (x := x129) 0 S (by kernel_rfl)
                      obtain rfl : u147 = .int .i64 x129 := S.mem.know (i := 1) (e := fRep (rI .i64) (u147) x129) (by kernel_rfl)
                      refine sDraw (nf := []) (W := [(0, 118, .slice ad28 r22.2.1.length cp29), (1, 119, .int .i64 s116), (2, 120, q142), (3, 121, .int .i64 x129), (4, 122, .bool (decide (x129 < 0))), (5, 123, .bool (decide (x129 < 0))), (6, 124, .slice ad28 r22.2.1.length cp29), (7, 125, .int .i64 s116), (8, 126, q145), (9, 127, .int .i64 x129), (10, 128, .pointer (some ⟨b6, 1, none⟩)), (11, 129, .int .i64 p0.H), (12, 130, .bool (decide (p0.H < x129))), (13, 131, .bool (decide (p0.H < x129))), (14, 132, .bool (decide (p0.H < x129))), (15, 133, undef), (16, 134, undef), (17, 135, undef), (18, 136, undef), (19, 137, undef), (20, 138, undef), (21, 139, .bool true)]) (by kernel_rfl) S ?_
                      refine node_by (A := anc_raddlelaw24_SettRule_0) (nf := []) (Y := []) (W := [(0, 118, .slice ad28 r22.2.1.length cp29), (1, 119, .int .i64 s116), (2, 120, q142), (3, 121, .int .i64 x129), (4, 122, .bool (decide (x129 < 0))), (5, 123, .bool (decide (x129 < 0))), (6, 124, .slice ad28 r22.2.1.length cp29), (7, 125, .int .i64 s116), (8, 126, q145), (9, 127, .int .i64 x129), (10, 128, .pointer (some ⟨b6, 1, none⟩)), (11, 129, .int .i64 p0.H), (12, 130, .bool (decide (p0.H < x129))), (13, 131, .bool (decide (p0.H < x129))), (14, 132, .bool (decide (p0.H < x129))), (15, 133, undef), (16, 134, undef), (17, 135, undef), (18, 136, undef), (19, 137, undef), (20, 138, undef), (21, 139, .bool true)]) 22 (by kernel_rfl) (by kernel_rfl) (by kernel_rfl) (by kernel_rfl) (by kernel_rfl) [0, 1, 2, 3, 4, 5, 6, 7, 8, 9, 10, 11, 12, 13, 14, 15, 16, 17, 18, 19, 20, 21] (by kernel_rfl) (by decide) (by decide) (aF 0 21 (by decide) ?_ (aF 1 20 (by decide) ?_ (aF 2 19 (by decide) ?_ (aF 3 18 (by decide) ?_ (aF 4 17 (by decide) ?_ (aF 5 16 (by decide) ?_ (aF 6 15 (by decide) ?_ (aF 7 14 (by decide) ?_ (aF 8 13 (by decide) ?_ (aF 9 12 (by decide) ?_ (aF 10 11 (by decide) ?_ (aF 11 10 (by decide) ?_ (aF 12 9 (by decide) ?_ (aF 13 8 (by decide) ?_ (aF 14 7 (by decide) ?_ (aF 15 6 (by decide) ?_ (aF 16 5 (by decide) ?_ (aF 17 4 (by decide) ?_ (aF 18 3 (by decide) ?_ (aF 19 2 (by decide) ?_ (aF 20 1 (by decide) ?_ (aF 21 0 (by decide) ?_ (trivial))))))))))))))))))))))) [(1, .int .i64 p1), (2, .pointer (some ⟨b6, 0, none⟩)), (5, .bool r8), (7, .slice ad28 r22.2.1.length cp29), (9, .pointer (some ⟨b35, 0, none⟩)), (10, .pointer (some ⟨b36, 0, none⟩)), (12, .int .i64 o53), (13, .int .i64 s115), (15, .int .i64 s116), (124, .slice ad28 r22.2.1.length cp29), (125, .int .i64 s116), (126, q145), (127, .int .i64 x129), (128, .pointer (some ⟨b6, 1, none⟩)), (129, .int .i64 p0.H), (130, .bool (decide (p0.H < x129))), (133, undef), (134, undef), (135, undef), (136, undef), (137, undef), (138, undef), (139, .bool true)] (fin_of [none, none, none, none, none, none, none, none, none, some 6, some 7, some 8, some 9, some 10, some 11, some 12, some 15, some 16, some 17, some 18, some 19, some 20, some 21] rfl (by kernel_rfl) (by kernel_rfl)) (fun _ a w S => ?_)
                      · refine fI 118 (.slice ad28 r22.2.1.length cp29) [(7, .slice ad28 r22.2.1.length cp29)] 0 [none] rfl rfl (by kernel_rfl) rfl (by kernel_rfl) (by kernel_rfl) fun G a w S => ?_
                        refine sMove (.slice ad28 r22.2.1.length cp29) S (wN rfl) (.inl rfl) (by kernel_rfl) rfl (by decide) (fun a S => ?_)
                        exact leafL ⟨rfl, S⟩
                      · refine fI 119 (.int .i64 s116) [(15, .int .i64 s116)] 1 [none] rfl rfl (by kernel_rfl) rfl (by kernel_rfl) (by kernel_rfl) fun G a w S => ?_
                        refine sMove (.int .i64 s116) S (wN rfl) (.inl rfl) (by kernel_rfl) rfl (by decide) (fun a S => ?_)
                        exact leafL ⟨rfl, S⟩
                      · refine fI 120 q142 [(118, .slice ad28 r22.2.1.length cp29), (119, .int .i64 s116)] 2 [some 0, some 1] rfl rfl (by kernel_rfl) rfl (by kernel_rfl) (by kernel_rfl) fun G a w S => ?_
                        refine sIdxV (v := .slice ad28 r22.2.1.length cp29) (k := .i64) (j := s116) S (wN rfl) rfl (by kernel_rfl) (by kernel_rfl) hq143 rfl (by decide) (fun a S => ?_)
                        exact leafL ⟨rfl, S⟩
                      · refine fI 121 (.int .i64 x129) [(120, q142)] 3 [some 2] rfl rfl (by kernel_rfl) rfl (by kernel_rfl) (by kernel_rfl) fun G a w S => ?_
                        refine sLoadV1 (vq := q142) 3 (.int .i64 x129) S (wN rfl) rfl (by kernel_rfl) (by kernel_rfl) (by kernel_rfl) rfl (by decide) (fun a S => ?_)
                        exact leafL ⟨rfl, S⟩
                      · refine fI 122 (.bool (decide (x129 < 0))) [(121, .int .i64 x129)] 4 [some 3] rfl rfl (by kernel_rfl) rfl (by kernel_rfl) (by kernel_rfl) fun G a w S => ?_
                        refine sBin (.bool (decide (x129 < 0))) S (wN rfl) rfl (by kernel_rfl) (by kernel_rfl) (bLt _ _ _ _ .i64 x129 0) rfl (by decide) (fun a S => ?_)
                        exact leafL ⟨rfl, S⟩
                      · refine fI 123 (.bool (decide (x129 < 0))) [(122, .bool (decide (x129 < 0)))] 5 [some 4] rfl rfl (by kernel_rfl) rfl (by kernel_rfl) (by kernel_rfl) fun G a w S => ?_
                        refine sMove (.bool (decide (x129 < 0))) S (wN rfl) (.inl rfl) (by kernel_rfl) rfl (by decide) (fun a S => ?_)
                        exact leafL ⟨rfl, S⟩
                      · refine fI 124 (.slice ad28 r22.2.1.length cp29) [(7, .slice ad28 r22.2.1.length cp29), (123, .bool (decide (x129 < 0)))] 6 [none, some 5] rfl rfl (by kernel_rfl) rfl (by kernel_rfl) (by kernel_rfl) fun G a w S => ?_
                        refine sMove (.slice ad28 r22.2.1.length cp29) S (wG (c := decide (x129 < 0)) 5 false 123 rfl rfl (by kernel_rfl) hc134) (.inl rfl) (by kernel_rfl) rfl (by decide) (fun a S => ?_)
                        exact leafL ⟨rfl, S⟩
                      · refine fI 125 (.int .i64 s116) [(15, .int .i64 s116), (123, .bool (decide (x129 < 0)))] 7 [none, some 5] rfl rfl (by kernel_rfl) rfl (by kernel_rfl) (by kernel_rfl) fun G a w S => ?_
                        refine sMove (.int .i64 s116) S (wG (c := decide (x129 < 0)) 5 false 123 rfl rfl (by kernel_rfl) hc134) (.inl rfl) (by kernel_rfl) rfl (by decide) (fun a S => ?_)
                        exact leafL ⟨rfl, S⟩
                      · refine fI 126 q145 [(124, .slice ad28 r22.2.1.length cp29), (125, .int .i64 s116), (123, .bool (decide (x129 < 0)))] 8 [some 6, some 7, some 5] rfl rfl (by kernel_rfl) rfl (by kernel_rfl) (by kernel_rfl) fun G a w S => ?_
                        refine sIdxV (v := .slice ad28 r22.2.1.length cp29) (k := .i64) (j := s116) S (wG (c := decide (x129 < 0)) 5 false 123 rfl rfl (by kernel_rfl) hc134) rfl (by kernel_rfl) (by kernel_rfl) hq146 rfl (by decide) (fun a S => ?_)
                        exact leafL ⟨rfl, S⟩
                      · refine fI 127 (.int .i64 x129) [(126, q145), (123, .bool (decide (x129 < 0)))] 9 [some 8, some 5] rfl rfl (by kernel_rfl) rfl (by kernel_rfl) (by kernel_rfl) fun G a w S => ?_
                        refine sLoadV1 (vq := q145) 0 (.int .i64 x129) S (wG (c := decide (x129 < 0)) 5 false 123 rfl rfl (by kernel_rfl) hc134) rfl (by kernel_rfl) (by kernel_rfl) (by kernel_rfl) rfl (by decide) (fun a S => ?_)
                        exact leafL ⟨rfl, S⟩
                      · refine fI 128 (.pointer (some ⟨b6, 1, none⟩)) [(2, .pointer (some ⟨b6, 0, none⟩)), (123, .bool (decide (x129 < 0)))] 10 [none, some 5] rfl rfl (by kernel_rfl) rfl (by kernel_rfl) (by kernel_rfl) fun G a w S => ?_
                        refine sField (b := b6) (off := 0) 1 1 S (wG (c := decide (x129 < 0)) 5 false 123 rfl rfl (by kernel_rfl) hc134) rfl (by kernel_rfl) (by kernel_rfl) rfl rfl (by decide) (fun a S => ?_)
                        exact leafL ⟨rfl, S⟩
                      · refine fI 129 (.int .i64 p0.H) [(128, .pointer (some ⟨b6, 1, none⟩)), (123, .bool (decide (x129 < 0)))] 11 [some 10, some 5] rfl rfl (by kernel_rfl) rfl (by kernel_rfl) (by kernel_rfl) fun G a w S => ?_
                        refine sLoad1 (p := b6) (off := 1) (T := 24) (vs := [.int .i64 p0.W, .int .i64 p0.H, .slice ad3 p0.Bits.length cp4]) 0 (.int .i64 p0.H) S (wG (c := decide (x129 < 0)) 5 false 123 rfl rfl (by kernel_rfl) hc134) rfl (by kernel_rfl) (by kernel_rfl) (by kernel_rfl) rfl rfl (by decide) (fun a S => ?_)
                        exact leafL ⟨rfl, S⟩
                      · refine fI 130 (.bool (decide (p0.H < x129))) [(127, .int .i64 x129), (129, .int .i64 p0.H), (123, .bool (decide (x129 < 0)))] 12 [some 9, some 11, some 5] rfl rfl (by kernel_rfl) rfl (by kernel_rfl) (by kernel_rfl) fun G a w S => ?_
                        refine sBin (.bool (decide (p0.H < x129))) S (wG (c := decide (x129 < 0)) 5 false 123 rfl rfl (by kernel_rfl) hc134) rfl (by kernel_rfl) (by kernel_rfl) (bGt _ _ _ _ .i64 x129 p0.H) rfl (by decide) (fun a S => ?_)
                        exact leafL ⟨rfl, S⟩
                      · refine fI 131 (.bool (decide (p0.H < x129))) [(123, .bool (decide (x129 < 0))), (130, .bool (decide (p0.H < x129)))] 13 [some 5, some 12] rfl rfl (by kernel_rfl) rfl (by kernel_rfl) (by kernel_rfl) fun G a w S => ?_
                        refine sPickF (b := decide (x129 < 0)) (.bool (decide (p0.H < x129))) S (wN rfl) rfl (by kernel_rfl) hc134 (by kernel_rfl) rfl (by decide) (fun a S => ?_)
                        exact leafL ⟨rfl, S⟩
                      · refine fI 132 (.bool (decide (p0.H < x129))) [(131, .bool (decide (p0.H < x129)))] 14 [some 13] rfl rfl (by kernel_rfl) rfl (by kernel_rfl) (by kernel_rfl) fun G a w S => ?_
                        refine sMove (.bool (decide (p0.H < x129))) S (wN rfl) (.inl rfl) (by kernel_rfl) rfl (by decide) (fun a S => ?_)
                        exact leafL ⟨rfl, S⟩
                      · refine fI 133 undef [(7, .slice ad28 r22.2.1.length cp29), (132, .bool (decide (p0.H < x129)))] 15 [none, some 14] rfl rfl (by kernel_rfl) rfl (by kernel_rfl) (by kernel_rfl) fun G a w S => ?_
                        refine sSkip (c := decide (p0.H < x129)) 14 false 132 133 S rfl rfl (by kernel_rfl) hc141 rfl (by decide) (fun a S => ?_)
                        exact leafL ⟨rfl, S⟩
                      · refine fI 134 undef [(15, .int .i64 s116), (132, .bool (decide (p0.H < x129)))] 16 [none, some 14] rfl rfl (by kernel_rfl) rfl (by kernel_rfl) (by kernel_rfl) fun G a w S => ?_
                        refine sSkip (c := decide (p0.H < x129)) 14 false 132 134 S rfl rfl (by kernel_rfl) hc141 rfl (by decide) (fun a S => ?_)
                        exact leafL ⟨rfl, S⟩
                      · refine fI 135 undef [(133, undef), (134, undef), (132, .bool (decide (p0.H < x129)))] 17 [some 15, some 16, some 14] rfl rfl (by kernel_rfl) rfl (by kernel_rfl) (by kernel_rfl) fun G a w S => ?_
                        refine sSkip (c := decide (p0.H < x129)) 14 false 132 135 S rfl rfl (by kernel_rfl) hc141 rfl (by decide) (fun a S => ?_)
                        exact leafL ⟨rfl, S⟩
                      · refine fI 136 undef [(135, undef), (132, .bool (decide (p0.H < x129)))] 18 [some 17, some 14] rfl rfl (by kernel_rfl) rfl (by kernel_rfl) (by kernel_rfl) fun G a w S => ?_
                        refine sSkip (c := decide (p0.H < x129)) 14 false 132 136 S rfl rfl (by kernel_rfl) hc141 rfl (by decide) (fun a S => ?_)
                        exact leafL ⟨rfl, S⟩
                      · refine fI 137 undef [(136, undef), (132, .bool (decide (p0.H < x129)))] 19 [some 18, some 14] rfl rfl (by kernel_rfl) rfl (by kernel_rfl) (by kernel_rfl) fun G a w S => ?_
                        refine sSkip (c := decide (p0.H < x129)) 14 false 132 137 S rfl rfl (by kernel_rfl) hc141 rfl (by decide) (fun a S => ?_)
                        exact leafL ⟨rfl, S⟩
                      · refine fI 138 undef [(137, undef), (132, .bool (decide (p0.H < x129)))] 20 [some 19, some 14] rfl rfl (by kernel_rfl) rfl (by kernel_rfl) (by kernel_rfl) fun G a w S => ?_
                        refine sSkip (c := decide (p0.H < x129)) 14 false 132 138 S rfl rfl (by kernel_rfl) hc141 rfl (by decide) (fun a S => ?_)
                        exact leafL ⟨rfl, S⟩
                      · refine fI 139 (.bool true) [(132, .bool (decide (p0.H < x129))), (138, undef)] 21 [some 14, some 20] rfl rfl (by kernel_rfl) rfl (by kernel_rfl) (by kernel_rfl) fun G a w S => ?_
                        refine sPickT (b := decide (p0.H < x129)) (.bool true) S (wN rfl) rfl (by kernel_rfl) hc141 (by kernel_rfl) rfl (by decide) (fun a S => ?_)
                        exact leafL ⟨rfl, S⟩
                      · exact leafT (⟨true, Option.some.inj h, S.fix [0, 1, 2] [6, 7] (by decide) (by kernel_rfl) (by kernel_rfl) (by kernel_rfl)⟩)
                    · obtain ⟨z151, hx152, h⟩ := bindSome h
                      obtain ⟨q153, hq154, S⟩ := pIdx (P := Try.prog) (r := (rI .i64)) (v := .slice ad28 r22.2.1.length cp29) (xs := r22.2.1) (j := s116) 27 3 0 S Try.underlying27 (by kernel_rfl) (by kernel_rfl) hx130
                      obtain ⟨u155, S⟩ := pLoad (r := (rI .i64)) (q := q153) (x := x129) 0 S (by kernel_rfl)
                      obtain rfl : u155 = .int .i64 x129 := S.mem.know (i := 1) (e := fRep (rI .i64) (u155) x129) (by kernel_rfl)
                      obtain ⟨q156, hq157, S⟩ := pIdx (P := Try.prog) (r := (rI .i64)) (v := .slice ad28 r22.2.1.length cp29) (xs := r22.2.1) (j := s116) 27 3 3 S Try.underlying27 (by kernel_rfl) (by kernel_rfl) hx130
                      obtain ⟨u158, S⟩ := pLoad (r := (rI .i64)) (q := q156) (x := x129) 0 S (by kernel_rfl)
                      obtain rfl : u158 = .int .i64 x129 := S.mem.know (i := 1) (e := fRep (rI .i64) (u158) x129) (by kernel_rfl)
                      obtain ⟨q159, hq160, S⟩ := pIdx (P := Try.prog) (r := (rI .i64)) (v := .slice ad28 r22.2.1.length cp29) (xs := r22.2.1) (j := s116) 27 3 6 S Try.underlying27 (by kernel_rfl) (by kernel_rfl) hx130
                      obtain ⟨u161, S⟩ := pLoad (r := (rI .i64)) (q := q159) (x := x129) 0 S (by kernel_rfl)
                      obtain rfl : u161 = .int .i64 x129 := S.mem.know (i := 1) (e := fRep (rI .i64) (u161) x129) (by kernel_rfl)
                      refine sDraw (nf := []) (W := [(0, 118, .slice ad28 r22.2.1.length cp29), (1, 119, .int .i64 s116), (2, 120, q153), (3, 121, .int .i64 x129), (4, 122, .bool (decide (x129 < 0))), (5, 123, .bool (decide (x129 < 0))), (6, 124, .slice ad28 r22.2.1.length cp29), (7, 125, .int .i64 s116), (8, 126, q156), (9, 127, .int .i64 x129), (10, 128, .pointer (some ⟨b6, 1, none⟩)), (11, 129, .int .i64 p0.H), (12, 130, .bool (decide (p0.H < x129))), (13, 131, .bool (decide (p0.H < x129))), (14, 132, .bool (decide (p0.H < x129))), (15, 133, .slice ad28 r22.2.1.length cp29), (16, 134, .int .i64 s116), (17, 135, q159), (18, 136, .int .i64 x129), (19, 137, .int .i64 z151), (20, 138, .bool (z151 != 0)), (21, 139, .bool (z151 != 0))]) (by kernel_rfl) S ?_
                      refine node_by (A := anc_raddlelaw24_SettRule_0) (nf := []) (Y := []) (W := [(0, 118, .slice ad28 r22.2.1.length cp29), (1, 119, .int .i64 s116), (2, 120, q153), (3, 121, .int .i64 x129), (4, 122, .bool (decide (x129 < 0))), (5, 123, .bool (decide (x129 < 0))), (6, 124, .slice ad28 r22.2.1.length cp29), (7, 125, .int .i64 s116), (8, 126, q156), (9, 127, .int .i64 x129), (10, 128, .pointer (some ⟨b6, 1, none⟩)), (11, 129, .int .i64 p0.H), (12, 130, .bool (decide (p0.H < x129))), (13, 131, .bool (decide (p0.H < x129))), (14, 132, .bool (decide (p0.H < x129))), (15, 133, .slice ad28 r22.2.1.length cp29), (16, 134, .int .i64 s116), (17, 135, q159), (18, 136, .int .i64 x129), (19, 137, .int .i64 z151), (20, 138, .bool (z151 != 0)), (21, 139, .bool (z151 != 0))]) 22 (by kernel_rfl) (by kernel_rfl) (by kernel_rfl) (by kernel_rfl) (by kernel_rfl) [0, 1, 2, 3, 4, 5, 6, 7, 8, 9, 10, 11, 12, 13, 14, 15, 16, 17, 18, 19, 20, 21] (by kernel_rfl) (by decide) (by decide) (aF 0 21 (by decide) ?_ (aF 1 20 (by decide) ?_ (aF 2 19 (by decide) ?_ (aF 3 18 (by decide) ?_ (aF 4 17 (by decide) ?_ (aF 5 16 (by decide) ?_ (aF 6 15 (by decide) ?_ (aF 7 14 (by decide) ?_ (aF 8 13 (by decide) ?_ (aF 9 12 (by decide) ?_ (aF 10 11 (by decide) ?_ (aF 11 10 (by decide) ?_ (aF 12 9 (by decide) ?_ (aF 13 8 (by decide) ?_ (aF 14 7 (by decide) ?_ (aF 15 6 (by decide) ?_ (aF 16 5 (by decide) ?_ (aF 17 4 (by decide) ?_ (aF 18 3 (by decide) ?_ (aF 19 2 (by decide) ?_ (aF 20 1 (by decide) ?_ (aF 21 0 (by decide) ?_ (trivial))))))))))))))))))))))) [(1, .int .i64 p1), (2, .pointer (some ⟨b6, 0, none⟩)), (5, .bool r8), (7, .slice ad28 r22.2.1.length cp29), (9, .pointer (some ⟨b35, 0, none⟩)), (10, .pointer (some ⟨b36, 0, none⟩)), (12, .int .i64 o53), (13, .int .i64 s115), (15, .int .i64 s116), (124, .slice ad28 r22.2.1.length cp29), (125, .int .i64 s116), (126, q156), (127, .int .i64 x129), (128, .pointer (some ⟨b6, 1, none⟩)), (129, .int .i64 p0.H), (130, .bool (decide (p0.H < x129))), (133, .slice ad28 r22.2.1.length cp29), (134, .int .i64 s116), (135, q159), (136, .int .i64 x129), (137, .int .i64 z151), (138, .bool (z151 != 0)), (139, .bool (z151 != 0))] (fin_of [none, none, none, none, none, none, none, none, none, some 6, some 7, some 8, some 9, some 10, some 11, some 12, some 15, some 16, some 17, some 18, some 19, some 20, some 21] rfl (by kernel_rfl) (by kernel_rfl)) (fun _ a w S => ?_)
                      · refine fI 118 (.slice ad28 r22.2.1.length cp29) [(7, .slice ad28 r22.2.1.length cp29)] 0 [none] rfl rfl (by kernel_rfl) rfl (by kernel_rfl) (by kernel_rfl) fun G a w S => ?_
                        refine sMove (.slice ad28 r22.2.1.length cp29) S (wN rfl) (.inl rfl) (by kernel_rfl) rfl (by decide) (fun a S => ?_)
                        exact leafL ⟨rfl, S⟩
                      · refine fI 119 (.int .i64 s116) [(15, .int .i64 s116)] 1 [none] rfl rfl (by kernel_rfl) rfl (by kernel_rfl) (by kernel_rfl) fun G a w S => ?_
                        refine sMove (.int .i64 s116) S (wN rfl) (.inl rfl) (by kernel_rfl) rfl (by decide) (fun a S => ?_)
                        exact leafL ⟨rfl, S⟩
                      · refine fI 120 q153 [(118, .slice ad28 r22.2.1.length cp29), (119, .int .i64 s116)] 2 [some 0, some 1] rfl rfl (by kernel_rfl) rfl (by kernel_rfl) (by kernel_rfl) fun G a w S => ?_
                        refine sIdxV (v := .slice ad28 r22.2.1.length cp29) (k := .i64) (j := s116) S (wN rfl) rfl (by kernel_rfl) (by kernel_rfl) hq154 rfl (by decide) (fun a S => ?_)
                        exact leafL ⟨rfl, S⟩
                      · refine fI 121 (.int .i64 x129) [(120, q153)] 3 [some 2] rfl rfl (by kernel_rfl) rfl (by kernel_rfl) (by kernel_rfl) fun G a w S => ?_
                        refine sLoadV1 (vq := q153) 6 (.int .i64 x129) S (wN rfl) rfl (by kernel_rfl) (by kernel_rfl) (by kernel_rfl) rfl (by decide) (fun a S => ?_)
                        exact leafL ⟨rfl, S⟩
                      · refine fI 122 (.bool (decide (x129 < 0))) [(121, .int .i64 x129)] 4 [some 3] rfl rfl (by kernel_rfl) rfl (by kernel_rfl) (by kernel_rfl) fun G a w S => ?_
                        refine sBin (.bool (decide (x129 < 0))) S (wN rfl) rfl (by kernel_rfl) (by kernel_rfl) (bLt _ _ _ _ .i64 x129 0) rfl (by decide) (fun a S => ?_)
                        exact leafL ⟨rfl, S⟩
                      · refine fI 123 (.bool (decide (x129 < 0))) [(122, .bool (decide (x129 < 0)))] 5 [some 4] rfl rfl (by kernel_rfl) rfl (by kernel_rfl) (by kernel_rfl) fun G a w S => ?_
                        refine sMove (.bool (decide (x129 < 0))) S (wN rfl) (.inl rfl) (by kernel_rfl) rfl (by decide) (fun a S => ?_)
                        exact leafL ⟨rfl, S⟩
                      · refine fI 124 (.slice ad28 r22.2.1.length cp29) [(7, .slice ad28 r22.2.1.length cp29), (123, .bool (decide (x129 < 0)))] 6 [none, some 5] rfl rfl (by kernel_rfl) rfl (by kernel_rfl) (by kernel_rfl) fun G a w S => ?_
                        refine sMove (.slice ad28 r22.2.1.length cp29) S (wG (c := decide (x129 < 0)) 5 false 123 rfl rfl (by kernel_rfl) hc134) (.inl rfl) (by kernel_rfl) rfl (by decide) (fun a S => ?_)
                        exact leafL ⟨rfl, S⟩
                      · refine fI 125 (.int .i64 s116) [(15, .int .i64 s116), (123, .bool (decide (x129 < 0)))] 7 [none, some 5] rfl rfl (by kernel_rfl) rfl (by kernel_rfl) (by kernel_rfl) fun G a w S => ?_
                        refine sMove (.int .i64 s116) S (wG (c := decide (x129 < 0)) 5 false 123 rfl rfl (by kernel_rfl) hc134) (.inl rfl) (by kernel_rfl) rfl (by decide) (fun a S => ?_)
                        exact leafL ⟨rfl, S⟩
                      · refine fI 126 q156 [(124, .slice ad28 r22.2.1.length cp29), (125, .int .i64 s116), (123, .bool (decide (x129 < 0)))] 8 [some 6, some 7, some 5] rfl rfl (by kernel_rfl) rfl (by kernel_rfl) (by kernel_rfl) fun G a w S => ?_
                        refine sIdxV (v := .slice ad28 r22.2.1.length cp29) (k := .i64) (j := s116) S (wG (c := decide (x129 < 0)) 5 false 123 rfl rfl (by kernel_rfl) hc134) rfl (by kernel_rfl) (by kernel_rfl) hq157 rfl (by decide) (fun a S => ?_)
                        exact leafL ⟨rfl, S⟩
                      · refine fI 127 (.int .i64 x129) [(126, q156), (123, .bool (decide (x129 < 0)))] 9 [some 8, some 5] rfl rfl (by kernel_rfl) rfl (by kernel_rfl) (by kernel_rfl) fun G a w S => ?_
                        refine sLoadV1 (vq := q156) 3 (.int .i64 x129) S (wG (c := decide (x129 < 0)) 5 false 123 rfl rfl (by kernel_rfl) hc134) rfl (by kernel_rfl) (by kernel_rfl) (by kernel_rfl) rfl (by decide) (fun a S => ?_)
                        exact leafL ⟨rfl, S⟩
                      · refine fI 128 (.pointer (some ⟨b6, 1, none⟩)) [(2, .pointer (some ⟨b6, 0, none⟩)), (123, .bool (decide (x129 < 0)))] 10 [none, some 5] rfl rfl (by kernel_rfl) rfl (by kernel_rfl) (by kernel_rfl) fun G a w S => ?_
                        refine sField (b := b6) (off := 0) 1 1 S (wG (c := decide (x129 < 0)) 5 false 123 rfl rfl (by kernel_rfl) hc134) rfl (by kernel_rfl) (by kernel_rfl) rfl rfl (by decide) (fun a S => ?_)
                        exact leafL ⟨rfl, S⟩
                      · refine fI 129 (.int .i64 p0.H) [(128, .pointer (some ⟨b6, 1, none⟩)), (123, .bool (decide (x129 < 0)))] 11 [some 10, some 5] rfl rfl (by kernel_rfl) rfl (by kernel_rfl) (by kernel_rfl) fun G a w S => ?_
                        refine sLoad1 (p := b6) (off := 1) (T := 24) (vs := [.int .i64 p0.W, .int .i64 p0.H, .slice ad3 p0.Bits.length cp4]) 0 (.int .i64 p0.H) S (wG (c := decide (x129 < 0)) 5 false 123 rfl rfl (by kernel_rfl) hc134) rfl (by kernel_rfl) (by kernel_rfl) (by kernel_rfl) rfl rfl (by decide) (fun a S => ?_)
                        exact leafL ⟨rfl, S⟩
                      · refine fI 130 (.bool (decide (p0.H < x129))) [(127, .int .i64 x129), (129, .int .i64 p0.H), (123, .bool (decide (x129 < 0)))] 12 [some 9, some 11, some 5] rfl rfl (by kernel_rfl) rfl (by kernel_rfl) (by kernel_rfl) fun G a w S => ?_
                        refine sBin (.bool (decide (p0.H < x129))) S (wG (c := decide (x129 < 0)) 5 false 123 rfl rfl (by kernel_rfl) hc134) rfl (by kernel_rfl) (by kernel_rfl) (bGt _ _ _ _ .i64 x129 p0.H) rfl (by decide) (fun a S => ?_)
                        exact leafL ⟨rfl, S⟩
                      · refine fI 131 (.bool (decide (p0.H < x129))) [(123, .bool (decide (x129 < 0))), (130, .bool (decide (p0.H < x129)))] 13 [some 5, some 12] rfl rfl (by kernel_rfl) rfl (by kernel_rfl) (by kernel_rfl) fun G a w S => ?_
                        refine sPickF (b := decide (x129 < 0)) (.bool (decide (p0.H < x129))) S (wN rfl) rfl (by kernel_rfl) hc134 (by kernel_rfl) rfl (by decide) (fun a S => ?_)
                        exact leafL ⟨rfl, S⟩
                      · refine fI 132 (.bool (decide (p0.H < x129))) [(131, .bool (decide (p0.H < x129)))] 14 [some 13] rfl rfl (by kernel_rfl) rfl (by kernel_rfl) (by kernel_rfl) fun G a w S => ?_
                        refine sMove (.bool (decide (p0.H < x129))) S (wN rfl) (.inl rfl) (by kernel_rfl) rfl (by decide) (fun a S => ?_)
                        exact leafL ⟨rfl, S⟩
                      · refine fI 133 (.slice ad28 r22.2.1.length cp29) [(7, .slice ad28 r22.2.1.length cp29), (132, .bool (decide (p0.H < x129)))] 15 [none, some 14] rfl rfl (by kernel_rfl) rfl (by kernel_rfl) (by kernel_rfl) fun G a w S => ?_
                        refine sMove (.slice ad28 r22.2.1.length cp29) S (wG (c := decide (p0.H < x129)) 14 false 132 rfl rfl (by kernel_rfl) hc141) (.inl rfl) (by kernel_rfl) rfl (by decide) (fun a S => ?_)
                        exact leafL ⟨rfl, S⟩
                      · refine fI 134 (.int .i64 s116) [(15, .int .i64 s116), (132, .bool (decide (p0.H < x129)))] 16 [none, some 14] rfl rfl (by kernel_rfl) rfl (by kernel_rfl) (by kernel_rfl) fun G a w S => ?_
                        refine sMove (.int .i64 s116) S (wG (c := decide (p0.H < x129)) 14 false 132 rfl rfl (by kernel_rfl) hc141) (.inl rfl) (by kernel_rfl) rfl (by decide) (fun a S => ?_)
                        exact leafL ⟨rfl, S⟩
                      · refine fI 135 q159 [(133, .slice ad28 r22.2.1.length cp29), (134, .int .i64 s116), (132, .bool (decide (p0.H < x129)))] 17 [some 15, some 16, some 14] rfl rfl (by kernel_rfl) rfl (by kernel_rfl) (by kernel_rfl) fun G a w S => ?_
                        refine sIdxV (v := .slice ad28 r22.2.1.length cp29) (k := .i64) (j := s116) S (wG (c := decide (p0.H < x129)) 14 false 132 rfl rfl (by kernel_rfl) hc141) rfl (by kernel_rfl) (by kernel_rfl) hq160 rfl (by decide) (fun a S => ?_)
                        exact leafL ⟨rfl, S⟩
                      · refine fI 136 (.int .i64 x129) [(135, q159), (132, .bool (decide (p0.H < x129)))] 18 [some 17, some 14] rfl rfl (by kernel_rfl) rfl (by kernel_rfl) (by kernel_rfl) fun G a w S => ?_
                        refine sLoadV1 (vq := q159) 0 (.int .i64 x129) S (wG (c := decide (p0.H < x129)) 14 false 132 rfl rfl (by kernel_rfl) hc141) rfl (by kernel_rfl) (by kernel_rfl) (by kernel_rfl) rfl (by decide) (fun a S => ?_)
                        exact leafL ⟨rfl, S⟩
                      · refine fI 137 (.int .i64 z151) [(136, .int .i64 x129), (132, .bool (decide (p0.H < x129)))] 19 [some 18, some 14] rfl rfl (by kernel_rfl) rfl (by kernel_rfl) (by kernel_rfl) fun G a w S => ?_
                        refine sBin (.int .i64 z151) S (wG (c := decide (p0.H < x129)) 14 false 132 rfl rfl (by kernel_rfl) hc141) rfl (by kernel_rfl) (by kernel_rfl) (bRem _ _ _ _ (x := x129) (y := 2) hx152) rfl (by decide) (fun a S => ?_)
                        exact leafL ⟨rfl, S⟩
                      · refine fI 138 (.bool (z151 != 0)) [(137, .int .i64 z151), (132, .bool (decide (p0.H < x129)))] 20 [some 19, some 14] rfl rfl (by kernel_rfl) rfl (by kernel_rfl) (by kernel_rfl) fun G a w S => ?_
                        refine sBin (.bool (z151 != 0)) S (wG (c := decide (p0.H < x129)) 14 false 132 rfl rfl (by kernel_rfl) hc141) rfl (by kernel_rfl) (by kernel_rfl) (bNe _ _ _ _ .i64 z151 0) rfl (by decide) (fun a S => ?_)
                        exact leafL ⟨rfl, S⟩
                      · refine fI 139 (.bool (z151 != 0)) [(132, .bool (decide (p0.H < x129))), (138, .bool (z151 != 0))] 21 [some 14, some 20] rfl rfl (by kernel_rfl) rfl (by kernel_rfl) (by kernel_rfl) fun G a w S => ?_
                        refine sPickF (b := decide (p0.H < x129)) (.bool (z151 != 0)) S (wN rfl) rfl (by kernel_rfl) hc141 (by kernel_rfl) rfl (by decide) (fun a S => ?_)
                        exact leafL ⟨rfl, S⟩
                      · exact leafT (⟨z151 != 0, Option.some.inj h, S.fix [0, 1, 2] [9, 10] (by decide) (by kernel_rfl) (by kernel_rfl) (by kernel_rfl)⟩)
                · obtain ⟨o126, rfl, S⟩ := hI
                  have h := g128
                  clear g128
                  try dsimp only at h
                  rcases iteSome h with ⟨hc162, h⟩ | ⟨hc162, h⟩
                  · refine sCondT (b := o126) S (by kernel_rfl) hc162 ?_
                    refine sSeq (fun K163 hK163 => ?_)
                    refine sRegion ?_
                    refine sMove (.bool false) S (wN rfl) (.inr rfl) (by kernel_rfl) rfl (by decide) (fun a S => ?_)
                    refine leafL (leafT (hK163 _ _ ?_))
                    obtain rfl := Option.some.inj h
                    obtain rfl := hu117 _ rfl
                    have h := g118
                    clear g118
                    try dsimp only at h
                    obtain rfl := Option.some.inj h
                    have h := g113
                    clear g113
                    try dsimp only at h
                    obtain rfl := Option.some.inj h
                    exact wp_ret (rThen (rBlock (rThen (rThen (rBlock (rThen (sRet (.bool false) S (rsl1 rfl (rvT (t := 4) (v := .bool false) S (by kernel_rfl))) ⟨(), rfl, S.mem.sel [] [] (by decide) (by kernel_rfl) (by kernel_rfl)⟩)))))))
                  · refine sCondF (b := o126) S (by kernel_rfl) hc162 ?_
                    refine wp_skip (leafT (hK125 _ _ ?_))
                    refine sRegion ?_
                    refine sMove (.int .i64 s115) S (wN rfl) (.inl rfl) (by kernel_rfl) rfl (by decide) (fun a S => ?_)
                    refine sMove (.slice ad28 r22.2.1.length cp29) S (wN rfl) (.inl rfl) (by kernel_rfl) rfl (by decide) (fun a S => ?_)
                    refine sMove (.int .i64 s116) S (wN rfl) (.inl rfl) (by kernel_rfl) rfl (by decide) (fun a S => ?_)
                    obtain ⟨x164, hx165, h⟩ := bindSome h
                    obtain ⟨q166, hq167, S⟩ := pIdx (P := Try.prog) (r := (rI .i64)) (v := .slice ad28 r22.2.1.length cp29) (xs := r22.2.1) (j := s116) 27 3 0 S Try.underlying27 (by kernel_rfl) (by kernel_rfl) hx165
                    refine sIdxV (v := .slice ad28 r22.2.1.length cp29) (k := .i64) (j := s116) S (wN rfl) rfl (by kernel_rfl) (by kernel_rfl) hq167 rfl (by decide) (fun a S => ?_)
                    obtain ⟨u168, S⟩ := pLoad (r := (rI .i64)) (q := q166) (x := x164) 0 S (by kernel_rfl)
                    obtain rfl : u168 = .int .i64 x164 := S.mem.know (i := 1) (e := fRep (rI .i64) (u168) x164) (by kernel_rfl)
                    refine sLoadV1 (vq := q166) 0 (.int .i64 x164) S (wN rfl) rfl (by kernel_rfl) (by kernel_rfl) (by kernel_rfl) rfl (by decide) (fun a S => ?_)
                    refine sBin (.int .i64 (w64 (s115 + x164))) S (wN rfl) rfl (by kernel_rfl) (by kernel_rfl) (bAdd _ _ _ _ s115 x164) rfl (by decide) (fun a S => ?_)
                    refine sMove (.int .i64 (w64 (s115 + x164))) S (wN rfl) (.inr rfl) (by kernel_rfl) rfl (by decide) (fun a S => ?_)
                    refine leafL (leafB (leafT (hK124 _ _ ?_)))
                    refine sRegion ?_
                    refine sMove (.int .i64 s116) S (wN rfl) (.inl rfl) (by kernel_rfl) rfl (by decide) (fun a S => ?_)
                    refine sBin (.int .i64 (w64 (s116 + 1))) S (wN rfl) rfl (by kernel_rfl) (by kernel_rfl) (bAdd _ _ _ _ s116 1) rfl (by decide) (fun a S => ?_)
                    refine sMove (.int .i64 (w64 (s116 + 1))) S (wN rfl) (.inr rfl) (by kernel_rfl) rfl (by decide) (fun a S => ?_)
                    exact leafL (leafT (⟨(w64 (s115 + x164), w64 (s116 + 1)), (Option.some.inj h).symm, (S.fix [0, 1, 2] [3, 4] (by decide) (by kernel_rfl) (by kernel_rfl) (by kernel_rfl))⟩))
              · refine sCondF (b := decide (s116 < p0.W)) S (by kernel_rfl) hc123 ?_
                obtain rfl := Option.some.inj h
                obtain rfl := hu117 _ rfl
                have h := g118
                clear g118
                try dsimp only at h
                exact wp_exit (xThen (xThen (xHit (leafT (⟨s115, Option.some.inj h, S.fix [0, 1, 2] [1] (by decide) (by kernel_rfl) (by kernel_rfl) (by kernel_rfl)⟩)))))
            · obtain ⟨o111, rfl, S⟩ := hI
              have h := g113
              clear g113
              try dsimp only at h
              refine sSeq (fun K169 hK169 => ?_)
              refine sRegion ?_
              refine sField (b := b6) (off := 0) 0 0 S (wN rfl) rfl (by kernel_rfl) (by kernel_rfl) rfl rfl (by decide) (fun a S => ?_)
              refine sLoad1 (p := b6) (off := 0) (T := 24) (vs := [.int .i64 p0.W, .int .i64 p0.H, .slice ad3 p0.Bits.length cp4]) 0 (.int .i64 p0.W) S (wN rfl) rfl (by kernel_rfl) (by kernel_rfl) (by kernel_rfl) rfl rfl (by decide) (fun a S => ?_)
              refine sField (b := b6) (off := 0) 1 1 S (wN rfl) rfl (by kernel_rfl) (by kernel_rfl) rfl rfl (by decide) (fun a S => ?_)
              refine sLoad1 (p := b6) (off := 1) (T := 24) (vs := [.int .i64 p0.W, .int .i64 p0.H, .slice ad3 p0.Bits.length cp4]) 0 (.int .i64 p0.H) S (wN rfl) rfl (by kernel_rfl) (by kernel_rfl) (by kernel_rfl) rfl rfl (by decide) (fun a S => ?_)
              refine sBin (.int .i64 (w64 (p0.W * p0.H))) S (wN rfl) rfl (by kernel_rfl) (by kernel_rfl) (bMul _ _ _ _ p0.W p0.H) rfl (by decide) (fun a S => ?_)
              refine sMove (.int .i64 (w64 (p0.W * p0.H))) S (wN rfl) (.inr rfl) (by kernel_rfl) rfl (by decide) (fun a S => ?_)
              refine leafL (leafT (hK169 _ _ ?_))
              refine sSeq (fun K170 hK170 => ?_)
              refine sRegion ?_
              refine sMove (.int .i64 p1) S (wN rfl) (.inl rfl) (by kernel_rfl) rfl (by decide) (fun a S => ?_)
              refine sMove (.int .i64 p1) S (wN rfl) (.inr rfl) (by kernel_rfl) rfl (by decide) (fun a S => ?_)
              refine leafL (leafT (hK170 _ _ ?_))
              obtain ⟨t172, h, g173⟩ := bindSome h
              refine sCut (fun a w => ∃ o171, o171 = t172 ∧ St E [] w0 221 a w [(4, .bool o171)] [] []) ?_ (fun a w hI => ?_)
              · refine sRegion ?_
                refine sMove (.bool r8) S (wN rfl) (.inl rfl) (by kernel_rfl) rfl (by decide) (fun a S => ?_)
                refine sMove (.bool r8) S (wN rfl) (.inl rfl) (by kernel_rfl) rfl (by decide) (fun a S => ?_)
                rcases iteSome h with ⟨hc174, h⟩ | ⟨hc174, h⟩
                · refine sField (b := b35) (off := 0) 0 0 S (wG (c := r8) 1 true 153 rfl rfl (by kernel_rfl) hc174) rfl (by kernel_rfl) (by kernel_rfl) rfl rfl (by decide) (fun a S => ?_)
                  refine sLoad1 (p := b35) (off := 0) (T := 34) (vs := [.int .i64 r31.1.Num, .int .i64 r31.1.Den]) 1 (.int .i64 r31.1.Num) S (wG (c := r8) 1 true 153 rfl rfl (by kernel_rfl) hc174) rfl (by kernel_rfl) (by kernel_rfl) (by kernel_rfl) rfl rfl (by decide) (fun a S => ?_)
                  refine sMove (.int .i64 (w64 (p0.W * p0.H))) S (wG (c := r8) 1 true 153 rfl rfl (by kernel_rfl) hc174) (.inl rfl) (by kernel_rfl) rfl (by decide) (fun a S => ?_)
                  refine sMove (.int .i64 o53) S (wG (c := r8) 1 true 153 rfl rfl (by kernel_rfl) hc174) (.inl rfl) (by kernel_rfl) rfl (by decide) (fun a S => ?_)
                  refine sBin (.int .i64 (w64 ((w64 (p0.W * p0.H)) + o53))) S (wG (c := r8) 1 true 153 rfl rfl (by kernel_rfl) hc174) rfl (by kernel_rfl) (by kernel_rfl) (bAdd _ _ _ _ (w64 (p0.W * p0.H)) o53) rfl (by decide) (fun a S => ?_)
                  refine sBin (.int .i64 (w64 (r31.1.Num * (w64 ((w64 (p0.W * p0.H)) + o53))))) S (wG (c := r8) 1 true 153 rfl rfl (by kernel_rfl) hc174) rfl (by kernel_rfl) (by kernel_rfl) (bMul _ _ _ _ r31.1.Num (w64 ((w64 (p0.W * p0.H)) + o53))) rfl (by decide) (fun a S => ?_)
                  refine sMove (.int .i64 p1) S (wG (c := r8) 1 true 153 rfl rfl (by kernel_rfl) hc174) (.inl rfl) (by kernel_rfl) rfl (by decide) (fun a S => ?_)
                  refine sMove (.int .i64 (w64 (p0.W * p0.H))) S (wG (c := r8) 1 true 153 rfl rfl (by kernel_rfl) hc174) (.inl rfl) (by kernel_rfl) rfl (by decide) (fun a S => ?_)
                  refine sBin (.int .i64 (w64 (p1 * (w64 (p0.W * p0.H))))) S (wG (c := r8) 1 true 153 rfl rfl (by kernel_rfl) hc174) rfl (by kernel_rfl) (by kernel_rfl) (bMul _ _ _ _ p1 (w64 (p0.W * p0.H))) rfl (by decide) (fun a S => ?_)
                  refine sField (b := b35) (off := 0) 1 1 S (wG (c := r8) 1 true 153 rfl rfl (by kernel_rfl) hc174) rfl (by kernel_rfl) (by kernel_rfl) rfl rfl (by decide) (fun a S => ?_)
                  refine sLoad1 (p := b35) (off := 1) (T := 34) (vs := [.int .i64 r31.1.Num, .int .i64 r31.1.Den]) 1 (.int .i64 r31.1.Den) S (wG (c := r8) 1 true 153 rfl rfl (by kernel_rfl) hc174) rfl (by kernel_rfl) (by kernel_rfl) (by kernel_rfl) rfl rfl (by decide) (fun a S => ?_)
                  refine sBin (.int .i64 (w64 ((w64 (p1 * (w64 (p0.W * p0.H)))) * r31.1.Den))) S (wG (c := r8) 1 true 153 rfl rfl (by kernel_rfl) hc174) rfl (by kernel_rfl) (by kernel_rfl) (bMul _ _ _ _ (w64 (p1 * (w64 (p0.W * p0.H)))) r31.1.Den) rfl (by decide) (fun a S => ?_)
                  refine sBin (.bool ((w64 (r31.1.Num * (w64 ((w64 (p0.W * p0.H)) + o53)))) == (w64 ((w64 (p1 * (w64 (p0.W * p0.H)))) * r31.1.Den)))) S (wG (c := r8) 1 true 153 rfl rfl (by kernel_rfl) hc174) rfl (by kernel_rfl) (by kernel_rfl) (bEq _ _ _ _ .i64 (w64 (r31.1.Num * (w64 ((w64 (p0.W * p0.H)) + o53)))) (w64 ((w64 (p1 * (w64 (p0.W * p0.H)))) * r31.1.Den))) rfl (by decide) (fun a S => ?_)
                  refine sPickT (b := r8) (.bool ((w64 (r31.1.Num * (w64 ((w64 (p0.W * p0.H)) + o53)))) == (w64 ((w64 (p1 * (w64 (p0.W * p0.H)))) * r31.1.Den)))) S (wN rfl) rfl (by kernel_rfl) hc174 (by kernel_rfl) rfl (by decide) (fun a S => ?_)
                  refine sMove (.bool ((w64 (r31.1.Num * (w64 ((w64 (p0.W * p0.H)) + o53)))) == (w64 ((w64 (p1 * (w64 (p0.W * p0.H)))) * r31.1.Den)))) S (wN rfl) (.inl rfl) (by kernel_rfl) rfl (by decide) (fun a S => ?_)
                  rcases iteSome h with ⟨hc175, h⟩ | ⟨hc175, h⟩
                  · refine sField (b := b36) (off := 0) 0 0 S (wG (c := (w64 (r31.1.Num * (w64 ((w64 (p0.W * p0.H)) + o53)))) == (w64 ((w64 (p1 * (w64 (p0.W * p0.H)))) * r31.1.Den))) 16 true 168 rfl rfl (by kernel_rfl) hc175) rfl (by kernel_rfl) (by kernel_rfl) rfl rfl (by decide) (fun a S => ?_)
                    refine sLoad1 (p := b36) (off := 0) (T := 34) (vs := [.int .i64 r31.2.1.Num, .int .i64 r31.2.1.Den]) 2 (.int .i64 r31.2.1.Num) S (wG (c := (w64 (r31.1.Num * (w64 ((w64 (p0.W * p0.H)) + o53)))) == (w64 ((w64 (p1 * (w64 (p0.W * p0.H)))) * r31.1.Den))) 16 true 168 rfl rfl (by kernel_rfl) hc175) rfl (by kernel_rfl) (by kernel_rfl) (by kernel_rfl) rfl rfl (by decide) (fun a S => ?_)
                    refine sMove (.int .i64 (w64 (p0.W * p0.H))) S (wG (c := (w64 (r31.1.Num * (w64 ((w64 (p0.W * p0.H)) + o53)))) == (w64 ((w64 (p1 * (w64 (p0.W * p0.H)))) * r31.1.Den))) 16 true 168 rfl rfl (by kernel_rfl) hc175) (.inl rfl) (by kernel_rfl) rfl (by decide) (fun a S => ?_)
                    refine sMove (.int .i64 o111) S (wG (c := (w64 (r31.1.Num * (w64 ((w64 (p0.W * p0.H)) + o53)))) == (w64 ((w64 (p1 * (w64 (p0.W * p0.H)))) * r31.1.Den))) 16 true 168 rfl rfl (by kernel_rfl) hc175) (.inl rfl) (by kernel_rfl) rfl (by decide) (fun a S => ?_)
                    refine sBin (.int .i64 (w64 ((w64 (p0.W * p0.H)) + o111))) S (wG (c := (w64 (r31.1.Num * (w64 ((w64 (p0.W * p0.H)) + o53)))) == (w64 ((w64 (p1 * (w64 (p0.W * p0.H)))) * r31.1.Den))) 16 true 168 rfl rfl (by kernel_rfl) hc175) rfl (by kernel_rfl) (by kernel_rfl) (bAdd _ _ _ _ (w64 (p0.W * p0.H)) o111) rfl (by decide) (fun a S => ?_)
                    refine sBin (.int .i64 (w64 (r31.2.1.Num * (w64 ((w64 (p0.W * p0.H)) + o111))))) S (wG (c := (w64 (r31.1.Num * (w64 ((w64 (p0.W * p0.H)) + o53)))) == (w64 ((w64 (p1 * (w64 (p0.W * p0.H)))) * r31.1.Den))) 16 true 168 rfl rfl (by kernel_rfl) hc175) rfl (by kernel_rfl) (by kernel_rfl) (bMul _ _ _ _ r31.2.1.Num (w64 ((w64 (p0.W * p0.H)) + o111))) rfl (by decide) (fun a S => ?_)
                    refine sMove (.int .i64 p1) S (wG (c := (w64 (r31.1.Num * (w64 ((w64 (p0.W * p0.H)) + o53)))) == (w64 ((w64 (p1 * (w64 (p0.W * p0.H)))) * r31.1.Den))) 16 true 168 rfl rfl (by kernel_rfl) hc175) (.inl rfl) (by kernel_rfl) rfl (by decide) (fun a S => ?_)
                    refine sMove (.int .i64 (w64 (p0.W * p0.H))) S (wG (c := (w64 (r31.1.Num * (w64 ((w64 (p0.W * p0.H)) + o53)))) == (w64 ((w64 (p1 * (w64 (p0.W * p0.H)))) * r31.1.Den))) 16 true 168 rfl rfl (by kernel_rfl) hc175) (.inl rfl) (by kernel_rfl) rfl (by decide) (fun a S => ?_)
                    refine sBin (.int .i64 (w64 (p1 * (w64 (p0.W * p0.H))))) S (wG (c := (w64 (r31.1.Num * (w64 ((w64 (p0.W * p0.H)) + o53)))) == (w64 ((w64 (p1 * (w64 (p0.W * p0.H)))) * r31.1.Den))) 16 true 168 rfl rfl (by kernel_rfl) hc175) rfl (by kernel_rfl) (by kernel_rfl) (bMul _ _ _ _ p1 (w64 (p0.W * p0.H))) rfl (by decide) (fun a S => ?_)
                    refine sField (b := b36) (off := 0) 1 1 S (wG (c := (w64 (r31.1.Num * (w64 ((w64 (p0.W * p0.H)) + o53)))) == (w64 ((w64 (p1 * (w64 (p0.W * p0.H)))) * r31.1.Den))) 16 true 168 rfl rfl (by kernel_rfl) hc175) rfl (by kernel_rfl) (by kernel_rfl) rfl rfl (by decide) (fun a S => ?_)
                    refine sLoad1 (p := b36) (off := 1) (T := 34) (vs := [.int .i64 r31.2.1.Num, .int .i64 r31.2.1.Den]) 2 (.int .i64 r31.2.1.Den) S (wG (c := (w64 (r31.1.Num * (w64 ((w64 (p0.W * p0.H)) + o53)))) == (w64 ((w64 (p1 * (w64 (p0.W * p0.H)))) * r31.1.Den))) 16 true 168 rfl rfl (by kernel_rfl) hc175) rfl (by kernel_rfl) (by kernel_rfl) (by kernel_rfl) rfl rfl (by decide) (fun a S => ?_)
                    refine sBin (.int .i64 (w64 ((w64 (p1 * (w64 (p0.W * p0.H)))) * r31.2.1.Den))) S (wG (c := (w64 (r31.1.Num * (w64 ((w64 (p0.W * p0.H)) + o53)))) == (w64 ((w64 (p1 * (w64 (p0.W * p0.H)))) * r31.1.Den))) 16 true 168 rfl rfl (by kernel_rfl) hc175) rfl (by kernel_rfl) (by kernel_rfl) (bMul _ _ _ _ (w64 (p1 * (w64 (p0.W * p0.H)))) r31.2.1.Den) rfl (by decide) (fun a S => ?_)
                    refine sBin (.bool ((w64 (r31.2.1.Num * (w64 ((w64 (p0.W * p0.H)) + o111)))) == (w64 ((w64 (p1 * (w64 (p0.W * p0.H)))) * r31.2.1.Den)))) S (wG (c := (w64 (r31.1.Num * (w64 ((w64 (p0.W * p0.H)) + o53)))) == (w64 ((w64 (p1 * (w64 (p0.W * p0.H)))) * r31.1.Den))) 16 true 168 rfl rfl (by kernel_rfl) hc175) rfl (by kernel_rfl) (by kernel_rfl) (bEq _ _ _ _ .i64 (w64 (r31.2.1.Num * (w64 ((w64 (p0.W * p0.H)) + o111)))) (w64 ((w64 (p1 * (w64 (p0.W * p0.H)))) * r31.2.1.Den))) rfl (by decide) (fun a S => ?_)
                    refine sPickT (b := (w64 (r31.1.Num * (w64 ((w64 (p0.W * p0.H)) + o53)))) == (w64 ((w64 (p1 * (w64 (p0.W * p0.H)))) * r31.1.Den))) (.bool ((w64 (r31.2.1.Num * (w64 ((w64 (p0.W * p0.H)) + o111)))) == (w64 ((w64 (p1 * (w64 (p0.W * p0.H)))) * r31.2.1.Den)))) S (wN rfl) rfl (by kernel_rfl) hc175 (by kernel_rfl) rfl (by decide) (fun a S => ?_)
                    refine sMove (.bool ((w64 (r31.2.1.Num * (w64 ((w64 (p0.W * p0.H)) + o111)))) == (w64 ((w64 (p1 * (w64 (p0.W * p0.H)))) * r31.2.1.Den)))) S (wN rfl) (.inl rfl) (by kernel_rfl) rfl (by decide) (fun a S => ?_)
                    rcases iteSome h with ⟨hc176, h⟩ | ⟨hc176, h⟩
                    · refine sField (b := b35) (off := 0) 0 0 S (wG (c := (w64 (r31.2.1.Num * (w64 ((w64 (p0.W * p0.H)) + o111)))) == (w64 ((w64 (p1 * (w64 (p0.W * p0.H)))) * r31.2.1.Den))) 31 true 183 rfl rfl (by kernel_rfl) hc176) rfl (by kernel_rfl) (by kernel_rfl) rfl rfl (by decide) (fun a S => ?_)
                      refine sLoad1 (p := b35) (off := 0) (T := 34) (vs := [.int .i64 r31.1.Num, .int .i64 r31.1.Den]) 1 (.int .i64 r31.1.Num) S (wG (c := (w64 (r31.2.1.Num * (w64 ((w64 (p0.W * p0.H)) + o111)))) == (w64 ((w64 (p1 * (w64 (p0.W * p0.H)))) * r31.2.1.Den))) 31 true 183 rfl rfl (by kernel_rfl) hc176) rfl (by kernel_rfl) (by kernel_rfl) (by kernel_rfl) rfl rfl (by decide) (fun a S => ?_)
                      refine sBin (.int .i64 (w64 (2 * r31.1.Num))) S (wG (c := (w64 (r31.2.1.Num * (w64 ((w64 (p0.W * p0.H)) + o111)))) == (w64 ((w64 (p1 * (w64 (p0.W * p0.H)))) * r31.2.1.Den))) 31 true 183 rfl rfl (by kernel_rfl) hc176) rfl (by kernel_rfl) (by kernel_rfl) (bMul _ _ _ _ 2 r31.1.Num) rfl (by decide) (fun a S => ?_)
                      refine sMove (.int .i64 p1) S (wG (c := (w64 (r31.2.1.Num * (w64 ((w64 (p0.W * p0.H)) + o111)))) == (w64 ((w64 (p1 * (w64 (p0.W * p0.H)))) * r31.2.1.Den))) 31 true 183 rfl rfl (by kernel_rfl) hc176) (.inl rfl) (by kernel_rfl) rfl (by decide) (fun a S => ?_)
                      refine sField (b := b35) (off := 0) 1 1 S (wG (c := (w64 (r31.2.1.Num * (w64 ((w64 (p0.W * p0.H)) + o111)))) == (w64 ((w64 (p1 * (w64 (p0.W * p0.H)))) * r31.2.1.Den))) 31 true 183 rfl rfl (by kernel_rfl) hc176) rfl (by kernel_rfl) (by kernel_rfl) rfl rfl (by decide) (fun a S => ?_)
                      refine sLoad1 (p := b35) (off := 1) (T := 34) (vs := [.int .i64 r31.1.Num, .int .i64 r31.1.Den]) 1 (.int .i64 r31.1.Den) S (wG (c := (w64 (r31.2.1.Num * (w64 ((w64 (p0.W * p0.H)) + o111)))) == (w64 ((w64 (p1 * (w64 (p0.W * p0.H)))) * r31.2.1.Den))) 31 true 183 rfl rfl (by kernel_rfl) hc176) rfl (by kernel_rfl) (by kernel_rfl) (by kernel_rfl) rfl rfl (by decide) (fun a S => ?_)
                      refine sBin (.int .i64 (w64 (p1 * r31.1.Den))) S (wG (c := (w64 (r31.2.1.Num * (w64 ((w64 (p0.W * p0.H)) + o111)))) == (w64 ((w64 (p1 * (w64 (p0.W * p0.H)))) * r31.2.1.Den))) 31 true 183 rfl rfl (by kernel_rfl) hc176) rfl (by kernel_rfl) (by kernel_rfl) (bMul _ _ _ _ p1 r31.1.Den) rfl (by decide) (fun a S => ?_)
                      refine sBin (.bool (decide ((w64 (p1 * r31.1.Den)) ≤ (w64 (2 * r31.1.Num))))) S (wG (c := (w64 (r31.2.1.Num * (w64 ((w64 (p0.W * p0.H)) + o111)))) == (w64 ((w64 (p1 * (w64 (p0.W * p0.H)))) * r31.2.1.Den))) 31 true 183 rfl rfl (by kernel_rfl) hc176) rfl (by kernel_rfl) (by kernel_rfl) (bGe _ _ _ _ .i64 (w64 (2 * r31.1.Num)) (w64 (p1 * r31.1.Den))) rfl (by decide) (fun a S => ?_)
                      refine sPickT (b := (w64 (r31.2.1.Num * (w64 ((w64 (p0.W * p0.H)) + o111)))) == (w64 ((w64 (p1 * (w64 (p0.W * p0.H)))) * r31.2.1.Den))) (.bool (decide ((w64 (p1 * r31.1.Den)) ≤ (w64 (2 * r31.1.Num))))) S (wN rfl) rfl (by kernel_rfl) hc176 (by kernel_rfl) rfl (by decide) (fun a S => ?_)
                      refine sMove (.bool (decide ((w64 (p1 * r31.1.Den)) ≤ (w64 (2 * r31.1.Num))))) S (wN rfl) (.inl rfl) (by kernel_rfl) rfl (by decide) (fun a S => ?_)
                      rcases iteSome h with ⟨hc177, h⟩ | ⟨hc177, h⟩
                      · refine sField (b := b35) (off := 0) 0 0 S (wG (c := decide ((w64 (p1 * r31.1.Den)) ≤ (w64 (2 * r31.1.Num)))) 41 true 193 rfl rfl (by kernel_rfl) hc177) rfl (by kernel_rfl) (by kernel_rfl) rfl rfl (by decide) (fun a S => ?_)
                        refine sLoad1 (p := b35) (off := 0) (T := 34) (vs := [.int .i64 r31.1.Num, .int .i64 r31.1.Den]) 1 (.int .i64 r31.1.Num) S (wG (c := decide ((w64 (p1 * r31.1.Den)) ≤ (w64 (2 * r31.1.Num)))) 41 true 193 rfl rfl (by kernel_rfl) hc177) rfl (by kernel_rfl) (by kernel_rfl) (by kernel_rfl) rfl rfl (by decide) (fun a S => ?_)
                        refine sMove (.int .i64 p1) S (wG (c := decide ((w64 (p1 * r31.1.Den)) ≤ (w64 (2 * r31.1.Num)))) 41 true 193 rfl rfl (by kernel_rfl) hc177) (.inl rfl) (by kernel_rfl) rfl (by decide) (fun a S => ?_)
                        refine sField (b := b35) (off := 0) 1 1 S (wG (c := decide ((w64 (p1 * r31.1.Den)) ≤ (w64 (2 * r31.1.Num)))) 41 true 193 rfl rfl (by kernel_rfl) hc177) rfl (by kernel_rfl) (by kernel_rfl) rfl rfl (by decide) (fun a S => ?_)
                        refine sLoad1 (p := b35) (off := 1) (T := 34) (vs := [.int .i64 r31.1.Num, .int .i64 r31.1.Den]) 1 (.int .i64 r31.1.Den) S (wG (c := decide ((w64 (p1 * r31.1.Den)) ≤ (w64 (2 * r31.1.Num)))) 41 true 193 rfl rfl (by kernel_rfl) hc177) rfl (by kernel_rfl) (by kernel_rfl) (by kernel_rfl) rfl rfl (by decide) (fun a S => ?_)
                        refine sBin (.int .i64 (w64 (p1 * r31.1.Den))) S (wG (c := decide ((w64 (p1 * r31.1.Den)) ≤ (w64 (2 * r31.1.Num)))) 41 true 193 rfl rfl (by kernel_rfl) hc177) rfl (by kernel_rfl) (by kernel_rfl) (bMul _ _ _ _ p1 r31.1.Den) rfl (by decide) (fun a S => ?_)
                        refine sBin (.bool (decide (r31.1.Num ≤ (w64 (p1 * r31.1.Den))))) S (wG (c := decide ((w64 (p1 * r31.1.Den)) ≤ (w64 (2 * r31.1.Num)))) 41 true 193 rfl rfl (by kernel_rfl) hc177) rfl (by kernel_rfl) (by kernel_rfl) (bLe _ _ _ _ .i64 r31.1.Num (w64 (p1 * r31.1.Den))) rfl (by decide) (fun a S => ?_)
                        refine sPickT (b := decide ((w64 (p1 * r31.1.Den)) ≤ (w64 (2 * r31.1.Num)))) (.bool (decide (r31.1.Num ≤ (w64 (p1 * r31.1.Den))))) S (wN rfl) rfl (by kernel_rfl) hc177 (by kernel_rfl) rfl (by decide) (fun a S => ?_)
                        refine sMove (.bool (decide (r31.1.Num ≤ (w64 (p1 * r31.1.Den))))) S (wN rfl) (.inl rfl) (by kernel_rfl) rfl (by decide) (fun a S => ?_)
                        rcases iteSome h with ⟨hc178, h⟩ | ⟨hc178, h⟩
                        · refine sField (b := b36) (off := 0) 0 0 S (wG (c := decide (r31.1.Num ≤ (w64 (p1 * r31.1.Den)))) 50 true 202 rfl rfl (by kernel_rfl) hc178) rfl (by kernel_rfl) (by kernel_rfl) rfl rfl (by decide) (fun a S => ?_)
                          refine sLoad1 (p := b36) (off := 0) (T := 34) (vs := [.int .i64 r31.2.1.Num, .int .i64 r31.2.1.Den]) 2 (.int .i64 r31.2.1.Num) S (wG (c := decide (r31.1.Num ≤ (w64 (p1 * r31.1.Den)))) 50 true 202 rfl rfl (by kernel_rfl) hc178) rfl (by kernel_rfl) (by kernel_rfl) (by kernel_rfl) rfl rfl (by decide) (fun a S => ?_)
                          refine sBin (.int .i64 (w64 (2 * r31.2.1.Num))) S (wG (c := decide (r31.1.Num ≤ (w64 (p1 * r31.1.Den)))) 50 true 202 rfl rfl (by kernel_rfl) hc178) rfl (by kernel_rfl) (by kernel_rfl) (bMul _ _ _ _ 2 r31.2.1.Num) rfl (by decide) (fun a S => ?_)
                          refine sMove (.int .i64 p1) S (wG (c := decide (r31.1.Num ≤ (w64 (p1 * r31.1.Den)))) 50 true 202 rfl rfl (by kernel_rfl) hc178) (.inl rfl) (by kernel_rfl) rfl (by decide) (fun a S => ?_)
                          refine sField (b := b36) (off := 0) 1 1 S (wG (c := decide (r31.1.Num ≤ (w64 (p1 * r31.1.Den)))) 50 true 202 rfl rfl (by kernel_rfl) hc178) rfl (by kernel_rfl) (by kernel_rfl) rfl rfl (by decide) (fun a S => ?_)
                          refine sLoad1 (p := b36) (off := 1) (T := 34) (vs := [.int .i64 r31.2.1.Num, .int .i64 r31.2.1.Den]) 2 (.int .i64 r31.2.1.Den) S (wG (c := decide (r31.1.Num ≤ (w64 (p1 * r31.1.Den)))) 50 true 202 rfl rfl (by kernel_rfl) hc178) rfl (by kernel_rfl) (by kernel_rfl) (by kernel_rfl) rfl rfl (by decide) (fun a S => ?_)
                          refine sBin (.int .i64 (w64 (p1 * r31.2.1.Den))) S (wG (c := decide (r31.1.Num ≤ (w64 (p1 * r31.1.Den)))) 50 true 202 rfl rfl (by kernel_rfl) hc178) rfl (by kernel_rfl) (by kernel_rfl) (bMul _ _ _ _ p1 r31.2.1.Den) rfl (by decide) (fun a S => ?_)
                          refine sBin (.bool (decide ((w64 (p1 * r31.2.1.Den)) ≤ (w64 (2 * r31.2.1.Num))))) S (wG (c := decide (r31.1.Num ≤ (w64 (p1 * r31.1.Den)))) 50 true 202 rfl rfl (by kernel_rfl) hc178) rfl (by kernel_rfl) (by kernel_rfl) (bGe _ _ _ _ .i64 (w64 (2 * r31.2.1.Num)) (w64 (p1 * r31.2.1.Den))) rfl (by decide) (fun a S => ?_)
                          refine sPickT (b := decide (r31.1.Num ≤ (w64 (p1 * r31.1.Den)))) (.bool (decide ((w64 (p1 * r31.2.1.Den)) ≤ (w64 (2 * r31.2.1.Num))))) S (wN rfl) rfl (by kernel_rfl) hc178 (by kernel_rfl) rfl (by decide) (fun a S => ?_)
                          refine sMove (.bool (decide ((w64 (p1 * r31.2.1.Den)) ≤ (w64 (2 * r31.2.1.Num))))) S (wN rfl) (.inl rfl) (by kernel_rfl) rfl (by decide) (fun a S => ?_)
                          rcases iteSome h with ⟨hc179, h⟩ | ⟨hc179, h⟩
                          · refine sField (b := b36) (off := 0) 0 0 S (wG (c := decide ((w64 (p1 * r31.2.1.Den)) ≤ (w64 (2 * r31.2.1.Num)))) 60 true 212 rfl rfl (by kernel_rfl) hc179) rfl (by kernel_rfl) (by kernel_rfl) rfl rfl (by decide) (fun a S => ?_)
                            refine sLoad1 (p := b36) (off := 0) (T := 34) (vs := [.int .i64 r31.2.1.Num, .int .i64 r31.2.1.Den]) 2 (.int .i64 r31.2.1.Num) S (wG (c := decide ((w64 (p1 * r31.2.1.Den)) ≤ (w64 (2 * r31.2.1.Num)))) 60 true 212 rfl rfl (by kernel_rfl) hc179) rfl (by kernel_rfl) (by kernel_rfl) (by kernel_rfl) rfl rfl (by decide) (fun a S => ?_)
                            refine sMove (.int .i64 p1) S (wG (c := decide ((w64 (p1 * r31.2.1.Den)) ≤ (w64 (2 * r31.2.1.Num)))) 60 true 212 rfl rfl (by kernel_rfl) hc179) (.inl rfl) (by kernel_rfl) rfl (by decide) (fun a S => ?_)
                            refine sField (b := b36) (off := 0) 1 1 S (wG (c := decide ((w64 (p1 * r31.2.1.Den)) ≤ (w64 (2 * r31.2.1.Num)))) 60 true 212 rfl rfl (by kernel_rfl) hc179) rfl (by kernel_rfl) (by kernel_rfl) rfl rfl (by decide) (fun a S => ?_)
                            refine sLoad1 (p := b36) (off := 1) (T := 34) (vs := [.int .i64 r31.2.1.Num, .int .i64 r31.2.1.Den]) 2 (.int .i64 r31.2.1.Den) S (wG (c := decide ((w64 (p1 * r31.2.1.Den)) ≤ (w64 (2 * r31.2.1.Num)))) 60 true 212 rfl rfl (by kernel_rfl) hc179) rfl (by kernel_rfl) (by kernel_rfl) (by kernel_rfl) rfl rfl (by decide) (fun a S => ?_)
                            refine sBin (.int .i64 (w64 (p1 * r31.2.1.Den))) S (wG (c := decide ((w64 (p1 * r31.2.1.Den)) ≤ (w64 (2 * r31.2.1.Num)))) 60 true 212 rfl rfl (by kernel_rfl) hc179) rfl (by kernel_rfl) (by kernel_rfl) (bMul _ _ _ _ p1 r31.2.1.Den) rfl (by decide) (fun a S => ?_)
                            refine sBin (.bool (decide (r31.2.1.Num ≤ (w64 (p1 * r31.2.1.Den))))) S (wG (c := decide ((w64 (p1 * r31.2.1.Den)) ≤ (w64 (2 * r31.2.1.Num)))) 60 true 212 rfl rfl (by kernel_rfl) hc179) rfl (by kernel_rfl) (by kernel_rfl) (bLe _ _ _ _ .i64 r31.2.1.Num (w64 (p1 * r31.2.1.Den))) rfl (by decide) (fun a S => ?_)
                            refine sPickT (b := decide ((w64 (p1 * r31.2.1.Den)) ≤ (w64 (2 * r31.2.1.Num)))) (.bool (decide (r31.2.1.Num ≤ (w64 (p1 * r31.2.1.Den))))) S (wN rfl) rfl (by kernel_rfl) hc179 (by kernel_rfl) rfl (by decide) (fun a S => ?_)
                            refine sMove (.bool (decide (r31.2.1.Num ≤ (w64 (p1 * r31.2.1.Den))))) S (wN rfl) (.inr rfl) (by kernel_rfl) rfl (by decide) (fun a S => ?_)
                            exact leafL (leafT (⟨decide (r31.2.1.Num ≤ (w64 (p1 * r31.2.1.Den))), Option.some.inj h, S.fix [] [] (by decide) (by kernel_rfl) (by kernel_rfl) (by kernel_rfl)⟩))
                          · refine sSkip (c := decide ((w64 (p1 * r31.2.1.Den)) ≤ (w64 (2 * r31.2.1.Num)))) 60 true 212 213 S rfl rfl (by kernel_rfl) hc179 rfl (by decide) (fun a S => ?_)
                            refine sSkip (c := decide ((w64 (p1 * r31.2.1.Den)) ≤ (w64 (2 * r31.2.1.Num)))) 60 true 212 214 S rfl rfl (by kernel_rfl) hc179 rfl (by decide) (fun a S => ?_)
                            refine sSkip (c := decide ((w64 (p1 * r31.2.1.Den)) ≤ (w64 (2 * r31.2.1.Num)))) 60 true 212 215 S rfl rfl (by kernel_rfl) hc179 rfl (by decide) (fun a S => ?_)
                            refine sSkip (c := decide ((w64 (p1 * r31.2.1.Den)) ≤ (w64 (2 * r31.2.1.Num)))) 60 true 212 216 S rfl rfl (by kernel_rfl) hc179 rfl (by decide) (fun a S => ?_)
                            refine sSkip (c := decide ((w64 (p1 * r31.2.1.Den)) ≤ (w64 (2 * r31.2.1.Num)))) 60 true 212 217 S rfl rfl (by kernel_rfl) hc179 rfl (by decide) (fun a S => ?_)
                            refine sSkip (c := decide ((w64 (p1 * r31.2.1.Den)) ≤ (w64 (2 * r31.2.1.Num)))) 60 true 212 218 S rfl rfl (by kernel_rfl) hc179 rfl (by decide) (fun a S => ?_)
                            refine sSkip (c := decide ((w64 (p1 * r31.2.1.Den)) ≤ (w64 (2 * r31.2.1.Num)))) 60 true 212 219 S rfl rfl (by kernel_rfl) hc179 rfl (by decide) (fun a S => ?_)
                            refine sPickF (b := decide ((w64 (p1 * r31.2.1.Den)) ≤ (w64 (2 * r31.2.1.Num)))) (.bool false) S (wN rfl) rfl (by kernel_rfl) hc179 (by kernel_rfl) rfl (by decide) (fun a S => ?_)
                            refine sMove (.bool false) S (wN rfl) (.inr rfl) (by kernel_rfl) rfl (by decide) (fun a S => ?_)
                            exact leafL (leafT (⟨false, Option.some.inj h, S.fix [] [] (by decide) (by kernel_rfl) (by kernel_rfl) (by kernel_rfl)⟩))
                        · refine sSkip (c := decide (r31.1.Num ≤ (w64 (p1 * r31.1.Den)))) 50 true 202 203 S rfl rfl (by kernel_rfl) hc178 rfl (by decide) (fun a S => ?_)
                          refine sSkip (c := decide (r31.1.Num ≤ (w64 (p1 * r31.1.Den)))) 50 true 202 204 S rfl rfl (by kernel_rfl) hc178 rfl (by decide) (fun a S => ?_)
                          refine sSkip (c := decide (r31.1.Num ≤ (w64 (p1 * r31.1.Den)))) 50 true 202 205 S rfl rfl (by kernel_rfl) hc178 rfl (by decide) (fun a S => ?_)
                          refine sSkip (c := decide (r31.1.Num ≤ (w64 (p1 * r31.1.Den)))) 50 true 202 206 S rfl rfl (by kernel_rfl) hc178 rfl (by decide) (fun a S => ?_)
                          refine sSkip (c := decide (r31.1.Num ≤ (w64 (p1 * r31.1.Den)))) 50 true 202 207 S rfl rfl (by kernel_rfl) hc178 rfl (by decide) (fun a S => ?_)
                          refine sSkip (c := decide (r31.1.Num ≤ (w64 (p1 * r31.1.Den)))) 50 true 202 208 S rfl rfl (by kernel_rfl) hc178 rfl (by decide) (fun a S => ?_)
                          refine sSkip (c := decide (r31.1.Num ≤ (w64 (p1 * r31.1.Den)))) 50 true 202 209 S rfl rfl (by kernel_rfl) hc178 rfl (by decide) (fun a S => ?_)
                          refine sSkip (c := decide (r31.1.Num ≤ (w64 (p1 * r31.1.Den)))) 50 true 202 210 S rfl rfl (by kernel_rfl) hc178 rfl (by decide) (fun a S => ?_)
                          refine sPickF (b := decide (r31.1.Num ≤ (w64 (p1 * r31.1.Den)))) (.bool false) S (wN rfl) rfl (by kernel_rfl) hc178 (by kernel_rfl) rfl (by decide) (fun a S => ?_)
                          refine sMove (.bool false) S (wN rfl) (.inl rfl) (by kernel_rfl) rfl (by decide) (fun a S => ?_)
                          refine sSkip (c := false) 60 true 212 213 S rfl rfl (by kernel_rfl) rfl rfl (by decide) (fun a S => ?_)
                          refine sSkip (c := false) 60 true 212 214 S rfl rfl (by kernel_rfl) rfl rfl (by decide) (fun a S => ?_)
                          refine sSkip (c := false) 60 true 212 215 S rfl rfl (by kernel_rfl) rfl rfl (by decide) (fun a S => ?_)
                          refine sSkip (c := false) 60 true 212 216 S rfl rfl (by kernel_rfl) rfl rfl (by decide) (fun a S => ?_)
                          refine sSkip (c := false) 60 true 212 217 S rfl rfl (by kernel_rfl) rfl rfl (by decide) (fun a S => ?_)
                          refine sSkip (c := false) 60 true 212 218 S rfl rfl (by kernel_rfl) rfl rfl (by decide) (fun a S => ?_)
                          refine sSkip (c := false) 60 true 212 219 S rfl rfl (by kernel_rfl) rfl rfl (by decide) (fun a S => ?_)
                          refine sPickF (b := false) (.bool false) S (wN rfl) rfl (by kernel_rfl) rfl (by kernel_rfl) rfl (by decide) (fun a S => ?_)
                          refine sMove (.bool false) S (wN rfl) (.inr rfl) (by kernel_rfl) rfl (by decide) (fun a S => ?_)
                          exact leafL (leafT (⟨false, Option.some.inj h, S.fix [] [] (by decide) (by kernel_rfl) (by kernel_rfl) (by kernel_rfl)⟩))
                      · refine sSkip (c := decide ((w64 (p1 * r31.1.Den)) ≤ (w64 (2 * r31.1.Num)))) 41 true 193 194 S rfl rfl (by kernel_rfl) hc177 rfl (by decide) (fun a S => ?_)
                        refine sSkip (c := decide ((w64 (p1 * r31.1.Den)) ≤ (w64 (2 * r31.1.Num)))) 41 true 193 195 S rfl rfl (by kernel_rfl) hc177 rfl (by decide) (fun a S => ?_)
                        refine sSkip (c := decide ((w64 (p1 * r31.1.Den)) ≤ (w64 (2 * r31.1.Num)))) 41 true 193 196 S rfl rfl (by kernel_rfl) hc177 rfl (by decide) (fun a S => ?_)
                        refine sSkip (c := decide ((w64 (p1 * r31.1.Den)) ≤ (w64 (2 * r31.1.Num)))) 41 true 193 197 S rfl rfl (by kernel_rfl) hc177 rfl (by decide) (fun a S => ?_)
                        refine sSkip (c := decide ((w64 (p1 * r31.1.Den)) ≤ (w64 (2 * r31.1.Num)))) 41 true 193 198 S rfl rfl (by kernel_rfl) hc177 rfl (by decide) (fun a S => ?_)
                        refine sSkip (c := decide ((w64 (p1 * r31.1.Den)) ≤ (w64 (2 * r31.1.Num)))) 41 true 193 199 S rfl rfl (by kernel_rfl) hc177 rfl (by decide) (fun a S => ?_)
                        refine sSkip (c := decide ((w64 (p1 * r31.1.Den)) ≤ (w64 (2 * r31.1.Num)))) 41 true 193 200 S rfl rfl (by kernel_rfl) hc177 rfl (by decide) (fun a S => ?_)
                        refine sPickF (b := decide ((w64 (p1 * r31.1.Den)) ≤ (w64 (2 * r31.1.Num)))) (.bool false) S (wN rfl) rfl (by kernel_rfl) hc177 (by kernel_rfl) rfl (by decide) (fun a S => ?_)
                        refine sMove (.bool false) S (wN rfl) (.inl rfl) (by kernel_rfl) rfl (by decide) (fun a S => ?_)
                        refine sSkip (c := false) 50 true 202 203 S rfl rfl (by kernel_rfl) rfl rfl (by decide) (fun a S => ?_)
                        refine sSkip (c := false) 50 true 202 204 S rfl rfl (by kernel_rfl) rfl rfl (by decide) (fun a S => ?_)
                        refine sSkip (c := false) 50 true 202 205 S rfl rfl (by kernel_rfl) rfl rfl (by decide) (fun a S => ?_)
                        refine sSkip (c := false) 50 true 202 206 S rfl rfl (by kernel_rfl) rfl rfl (by decide) (fun a S => ?_)
                        refine sSkip (c := false) 50 true 202 207 S rfl rfl (by kernel_rfl) rfl rfl (by decide) (fun a S => ?_)
                        refine sSkip (c := false) 50 true 202 208 S rfl rfl (by kernel_rfl) rfl rfl (by decide) (fun a S => ?_)
                        refine sSkip (c := false) 50 true 202 209 S rfl rfl (by kernel_rfl) rfl rfl (by decide) (fun a S => ?_)
                        refine sSkip (c := false) 50 true 202 210 S rfl rfl (by kernel_rfl) rfl rfl (by decide) (fun a S => ?_)
                        refine sPickF (b := false) (.bool false) S (wN rfl) rfl (by kernel_rfl) rfl (by kernel_rfl) rfl (by decide) (fun a S => ?_)
                        refine sMove (.bool false) S (wN rfl) (.inl rfl) (by kernel_rfl) rfl (by decide) (fun a S => ?_)
                        refine sSkip (c := false) 60 true 212 213 S rfl rfl (by kernel_rfl) rfl rfl (by decide) (fun a S => ?_)
                        refine sSkip (c := false) 60 true 212 214 S rfl rfl (by kernel_rfl) rfl rfl (by decide) (fun a S => ?_)
                        refine sSkip (c := false) 60 true 212 215 S rfl rfl (by kernel_rfl) rfl rfl (by decide) (fun a S => ?_)
                        refine sSkip (c := false) 60 true 212 216 S rfl rfl (by kernel_rfl) rfl rfl (by decide) (fun a S => ?_)
                        refine sSkip (c := false) 60 true 212 217 S rfl rfl (by kernel_rfl) rfl rfl (by decide) (fun a S => ?_)
                        refine sSkip (c := false) 60 true 212 218 S rfl rfl (by kernel_rfl) rfl rfl (by decide) (fun a S => ?_)
                        refine sSkip (c := false) 60 true 212 219 S rfl rfl (by kernel_rfl) rfl rfl (by decide) (fun a S => ?_)
                        refine sPickF (b := false) (.bool false) S (wN rfl) rfl (by kernel_rfl) rfl (by kernel_rfl) rfl (by decide) (fun a S => ?_)
                        refine sMove (.bool false) S (wN rfl) (.inr rfl) (by kernel_rfl) rfl (by decide) (fun a S => ?_)
                        exact leafL (leafT (⟨false, Option.some.inj h, S.fix [] [] (by decide) (by kernel_rfl) (by kernel_rfl) (by kernel_rfl)⟩))
                    · refine sSkip (c := (w64 (r31.2.1.Num * (w64 ((w64 (p0.W * p0.H)) + o111)))) == (w64 ((w64 (p1 * (w64 (p0.W * p0.H)))) * r31.2.1.Den))) 31 true 183 184 S rfl rfl (by kernel_rfl) hc176 rfl (by decide) (fun a S => ?_)
                      refine sSkip (c := (w64 (r31.2.1.Num * (w64 ((w64 (p0.W * p0.H)) + o111)))) == (w64 ((w64 (p1 * (w64 (p0.W * p0.H)))) * r31.2.1.Den))) 31 true 183 185 S rfl rfl (by kernel_rfl) hc176 rfl (by decide) (fun a S => ?_)
                      refine sSkip (c := (w64 (r31.2.1.Num * (w64 ((w64 (p0.W * p0.H)) + o111)))) == (w64 ((w64 (p1 * (w64 (p0.W * p0.H)))) * r31.2.1.Den))) 31 true 183 186 S rfl rfl (by kernel_rfl) hc176 rfl (by decide) (fun a S => ?_)
                      refine sSkip (c := (w64 (r31.2.1.Num * (w64 ((w64 (p0.W * p0.H)) + o111)))) == (w64 ((w64 (p1 * (w64 (p0.W * p0.H)))) * r31.2.1.Den))) 31 true 183 187 S rfl rfl (by kernel_rfl) hc176 rfl (by decide) (fun a S => ?_)
                      refine sSkip (c := (w64 (r31.2.1.Num * (w64 ((w64 (p0.W * p0.H)) + o111)))) == (w64 ((w64 (p1 * (w64 (p0.W * p0.H)))) * r31.2.1.Den))) 31 true 183 188 S rfl rfl (by kernel_rfl) hc176 rfl (by decide) (fun a S => ?_)
                      refine sSkip (c := (w64 (r31.2.1.Num * (w64 ((w64 (p0.W * p0.H)) + o111)))) == (w64 ((w64 (p1 * (w64 (p0.W * p0.H)))) * r31.2.1.Den))) 31 true 183 189 S rfl rfl (by kernel_rfl) hc176 rfl (by decide) (fun a S => ?_)
                      refine sSkip (c := (w64 (r31.2.1.Num * (w64 ((w64 (p0.W * p0.H)) + o111)))) == (w64 ((w64 (p1 * (w64 (p0.W * p0.H)))) * r31.2.1.Den))) 31 true 183 190 S rfl rfl (by kernel_rfl) hc176 rfl (by decide) (fun a S => ?_)
                      refine sSkip (c := (w64 (r31.2.1.Num * (w64 ((w64 (p0.W * p0.H)) + o111)))) == (w64 ((w64 (p1 * (w64 (p0.W * p0.H)))) * r31.2.1.Den))) 31 true 183 191 S rfl rfl (by kernel_rfl) hc176 rfl (by decide) (fun a S => ?_)
                      refine sPickF (b := (w64 (r31.2.1.Num * (w64 ((w64 (p0.W * p0.H)) + o111)))) == (w64 ((w64 (p1 * (w64 (p0.W * p0.H)))) * r31.2.1.Den))) (.bool false) S (wN rfl) rfl (by kernel_rfl) hc176 (by kernel_rfl) rfl (by decide) (fun a S => ?_)
                      refine sMove (.bool false) S (wN rfl) (.inl rfl) (by kernel_rfl) rfl (by decide) (fun a S => ?_)
                      refine sSkip (c := false) 41 true 193 194 S rfl rfl (by kernel_rfl) rfl rfl (by decide) (fun a S => ?_)
                      refine sSkip (c := false) 41 true 193 195 S rfl rfl (by kernel_rfl) rfl rfl (by decide) (fun a S => ?_)
                      refine sSkip (c := false) 41 true 193 196 S rfl rfl (by kernel_rfl) rfl rfl (by decide) (fun a S => ?_)
                      refine sSkip (c := false) 41 true 193 197 S rfl rfl (by kernel_rfl) rfl rfl (by decide) (fun a S => ?_)
                      refine sSkip (c := false) 41 true 193 198 S rfl rfl (by kernel_rfl) rfl rfl (by decide) (fun a S => ?_)
                      refine sSkip (c := false) 41 true 193 199 S rfl rfl (by kernel_rfl) rfl rfl (by decide) (fun a S => ?_)
                      refine sSkip (c := false) 41 true 193 200 S rfl rfl (by kernel_rfl) rfl rfl (by decide) (fun a S => ?_)
                      refine sPickF (b := false) (.bool false) S (wN rfl) rfl (by kernel_rfl) rfl (by kernel_rfl) rfl (by decide) (fun a S => ?_)
                      refine sMove (.bool false) S (wN rfl) (.inl rfl) (by kernel_rfl) rfl (by decide) (fun a S => ?_)
                      refine sSkip (c := false) 50 true 202 203 S rfl rfl (by kernel_rfl) rfl rfl (by decide) (fun a S => ?_)
                      refine sSkip (c := false) 50 true 202 204 S rfl rfl (by kernel_rfl) rfl rfl (by decide) (fun a S => ?_)
                      refine sSkip (c := false) 50 true 202 205 S rfl rfl (by kernel_rfl) rfl rfl (by decide) (fun a S => ?_)
                      refine sSkip (c := false) 50 true 202 206 S rfl rfl (by kernel_rfl) rfl rfl (by decide) (fun a S => ?_)
                      refine sSkip (c := false) 50 true 202 207 S rfl rfl (by kernel_rfl) rfl rfl (by decide) (fun a S => ?_)
                      refine sSkip (c := false) 50 true 202 208 S rfl rfl (by kernel_rfl) rfl rfl (by decide) (fun a S => ?_)
                      refine sSkip (c := false) 50 true 202 209 S rfl rfl (by kernel_rfl) rfl rfl (by decide) (fun a S => ?_)
                      refine sSkip (c := false) 50 true 202 210 S rfl rfl (by kernel_rfl) rfl rfl (by decide) (fun a S => ?_)
                      refine sPickF (b := false) (.bool false) S (wN rfl) rfl (by kernel_rfl) rfl (by kernel_rfl) rfl (by decide) (fun a S => ?_)
                      refine sMove (.bool false) S (wN rfl) (.inl rfl) (by kernel_rfl) rfl (by decide) (fun a S => ?_)
                      refine sSkip (c := false) 60 true 212 213 S rfl rfl (by kernel_rfl) rfl rfl (by decide) (fun a S => ?_)
                      refine sSkip (c := false) 60 true 212 214 S rfl rfl (by kernel_rfl) rfl rfl (by decide) (fun a S => ?_)
                      refine sSkip (c := false) 60 true 212 215 S rfl rfl (by kernel_rfl) rfl rfl (by decide) (fun a S => ?_)
                      refine sSkip (c := false) 60 true 212 216 S rfl rfl (by kernel_rfl) rfl rfl (by decide) (fun a S => ?_)
                      refine sSkip (c := false) 60 true 212 217 S rfl rfl (by kernel_rfl) rfl rfl (by decide) (fun a S => ?_)
                      refine sSkip (c := false) 60 true 212 218 S rfl rfl (by kernel_rfl) rfl rfl (by decide) (fun a S => ?_)
                      refine sSkip (c := false) 60 true 212 219 S rfl rfl (by kernel_rfl) rfl rfl (by decide) (fun a S => ?_)
                      refine sPickF (b := false) (.bool false) S (wN rfl) rfl (by kernel_rfl) rfl (by kernel_rfl) rfl (by decide) (fun a S => ?_)
                      refine sMove (.bool false) S (wN rfl) (.inr rfl) (by kernel_rfl) rfl (by decide) (fun a S => ?_)
                      exact leafL (leafT (⟨false, Option.some.inj h, S.fix [] [] (by decide) (by kernel_rfl) (by kernel_rfl) (by kernel_rfl)⟩))
                  · refine sSkip (c := (w64 (r31.1.Num * (w64 ((w64 (p0.W * p0.H)) + o53)))) == (w64 ((w64 (p1 * (w64 (p0.W * p0.H)))) * r31.1.Den))) 16 true 168 169 S rfl rfl (by kernel_rfl) hc175 rfl (by decide) (fun a S => ?_)
                    refine sSkip (c := (w64 (r31.1.Num * (w64 ((w64 (p0.W * p0.H)) + o53)))) == (w64 ((w64 (p1 * (w64 (p0.W * p0.H)))) * r31.1.Den))) 16 true 168 170 S rfl rfl (by kernel_rfl) hc175 rfl (by decide) (fun a S => ?_)
                    refine sSkip (c := (w64 (r31.1.Num * (w64 ((w64 (p0.W * p0.H)) + o53)))) == (w64 ((w64 (p1 * (w64 (p0.W * p0.H)))) * r31.1.Den))) 16 true 168 171 S rfl rfl (by kernel_rfl) hc175 rfl (by decide) (fun a S => ?_)
                    refine sSkip (c := (w64 (r31.1.Num * (w64 ((w64 (p0.W * p0.H)) + o53)))) == (w64 ((w64 (p1 * (w64 (p0.W * p0.H)))) * r31.1.Den))) 16 true 168 172 S rfl rfl (by kernel_rfl) hc175 rfl (by decide) (fun a S => ?_)
                    refine sSkip (c := (w64 (r31.1.Num * (w64 ((w64 (p0.W * p0.H)) + o53)))) == (w64 ((w64 (p1 * (w64 (p0.W * p0.H)))) * r31.1.Den))) 16 true 168 173 S rfl rfl (by kernel_rfl) hc175 rfl (by decide) (fun a S => ?_)
                    refine sSkip (c := (w64 (r31.1.Num * (w64 ((w64 (p0.W * p0.H)) + o53)))) == (w64 ((w64 (p1 * (w64 (p0.W * p0.H)))) * r31.1.Den))) 16 true 168 174 S rfl rfl (by kernel_rfl) hc175 rfl (by decide) (fun a S => ?_)
                    refine sSkip (c := (w64 (r31.1.Num * (w64 ((w64 (p0.W * p0.H)) + o53)))) == (w64 ((w64 (p1 * (w64 (p0.W * p0.H)))) * r31.1.Den))) 16 true 168 175 S rfl rfl (by kernel_rfl) hc175 rfl (by decide) (fun a S => ?_)
                    refine sSkip (c := (w64 (r31.1.Num * (w64 ((w64 (p0.W * p0.H)) + o53)))) == (w64 ((w64 (p1 * (w64 (p0.W * p0.H)))) * r31.1.Den))) 16 true 168 176 S rfl rfl (by kernel_rfl) hc175 rfl (by decide) (fun a S => ?_)
                    refine sSkip (c := (w64 (r31.1.Num * (w64 ((w64 (p0.W * p0.H)) + o53)))) == (w64 ((w64 (p1 * (w64 (p0.W * p0.H)))) * r31.1.Den))) 16 true 168 177 S rfl rfl (by kernel_rfl) hc175 rfl (by decide) (fun a S => ?_)
                    refine sSkip (c := (w64 (r31.1.Num * (w64 ((w64 (p0.W * p0.H)) + o53)))) == (w64 ((w64 (p1 * (w64 (p0.W * p0.H)))) * r31.1.Den))) 16 true 168 178 S rfl rfl (by kernel_rfl) hc175 rfl (by decide) (fun a S => ?_)
                    refine sSkip (c := (w64 (r31.1.Num * (w64 ((w64 (p0.W * p0.H)) + o53)))) == (w64 ((w64 (p1 * (w64 (p0.W * p0.H)))) * r31.1.Den))) 16 true 168 179 S rfl rfl (by kernel_rfl) hc175 rfl (by decide) (fun a S => ?_)
                    refine sSkip (c := (w64 (r31.1.Num * (w64 ((w64 (p0.W * p0.H)) + o53)))) == (w64 ((w64 (p1 * (w64 (p0.W * p0.H)))) * r31.1.Den))) 16 true 168 180 S rfl rfl (by kernel_rfl) hc175 rfl (by decide) (fun a S => ?_)
                    refine sSkip (c := (w64 (r31.1.Num * (w64 ((w64 (p0.W * p0.H)) + o53)))) == (w64 ((w64 (p1 * (w64 (p0.W * p0.H)))) * r31.1.Den))) 16 true 168 181 S rfl rfl (by kernel_rfl) hc175 rfl (by decide) (fun a S => ?_)
                    refine sPickF (b := (w64 (r31.1.Num * (w64 ((w64 (p0.W * p0.H)) + o53)))) == (w64 ((w64 (p1 * (w64 (p0.W * p0.H)))) * r31.1.Den))) (.bool false) S (wN rfl) rfl (by kernel_rfl) hc175 (by kernel_rfl) rfl (by decide) (fun a S => ?_)
                    refine sMove (.bool false) S (wN rfl) (.inl rfl) (by kernel_rfl) rfl (by decide) (fun a S => ?_)
                    refine sSkip (c := false) 31 true 183 184 S rfl rfl (by kernel_rfl) rfl rfl (by decide) (fun a S => ?_)
                    refine sSkip (c := false) 31 true 183 185 S rfl rfl (by kernel_rfl) rfl rfl (by decide) (fun a S => ?_)
                    refine sSkip (c := false) 31 true 183 186 S rfl rfl (by kernel_rfl) rfl rfl (by decide) (fun a S => ?_)
                    refine sSkip (c := false) 31 true 183 187 S rfl rfl (by kernel_rfl) rfl rfl (by decide) (fun a S => ?_)
                    refine sSkip (c := false) 31 true 183 188 S rfl rfl (by kernel_rfl) rfl rfl (by decide) (fun a S => ?_)
                    refine sSkip (c := false) 31 true 183 189 S rfl rfl (by kernel_rfl) rfl rfl (by decide) (fun a S => ?_)
                    refine sSkip (c := false) 31 true 183 190 S rfl rfl (by kernel_rfl) rfl rfl (by decide) (fun a S => ?_)
                    refine sSkip (c := false) 31 true 183 191 S rfl rfl (by kernel_rfl) rfl rfl (by decide) (fun a S => ?_)
                    refine sPickF (b := false) (.bool false) S (wN rfl) rfl (by kernel_rfl) rfl (by kernel_rfl) rfl (by decide) (fun a S => ?_)
                    refine sMove (.bool false) S (wN rfl) (.inl rfl) (by kernel_rfl) rfl (by decide) (fun a S => ?_)
                    refine sSkip (c := false) 41 true 193 194 S rfl rfl (by kernel_rfl) rfl rfl (by decide) (fun a S => ?_)
                    refine sSkip (c := false) 41 true 193 195 S rfl rfl (by kernel_rfl) rfl rfl (by decide) (fun a S => ?_)
                    refine sSkip (c := false) 41 true 193 196 S rfl rfl (by kernel_rfl) rfl rfl (by decide) (fun a S => ?_)
                    refine sSkip (c := false) 41 true 193 197 S rfl rfl (by kernel_rfl) rfl rfl (by decide) (fun a S => ?_)
                    refine sSkip (c := false) 41 true 193 198 S rfl rfl (by kernel_rfl) rfl rfl (by decide) (fun a S => ?_)
                    refine sSkip (c := false) 41 true 193 199 S rfl rfl (by kernel_rfl) rfl rfl (by decide) (fun a S => ?_)
                    refine sSkip (c := false) 41 true 193 200 S rfl rfl (by kernel_rfl) rfl rfl (by decide) (fun a S => ?_)
                    refine sPickF (b := false) (.bool false) S (wN rfl) rfl (by kernel_rfl) rfl (by kernel_rfl) rfl (by decide) (fun a S => ?_)
                    refine sMove (.bool false) S (wN rfl) (.inl rfl) (by kernel_rfl) rfl (by decide) (fun a S => ?_)
                    refine sSkip (c := false) 50 true 202 203 S rfl rfl (by kernel_rfl) rfl rfl (by decide) (fun a S => ?_)
                    refine sSkip (c := false) 50 true 202 204 S rfl rfl (by kernel_rfl) rfl rfl (by decide) (fun a S => ?_)
                    refine sSkip (c := false) 50 true 202 205 S rfl rfl (by kernel_rfl) rfl rfl (by decide) (fun a S => ?_)
                    refine sSkip (c := false) 50 true 202 206 S rfl rfl (by kernel_rfl) rfl rfl (by decide) (fun a S => ?_)
                    refine sSkip (c := false) 50 true 202 207 S rfl rfl (by kernel_rfl) rfl rfl (by decide) (fun a S => ?_)
                    refine sSkip (c := false) 50 true 202 208 S rfl rfl (by kernel_rfl) rfl rfl (by decide) (fun a S => ?_)
                    refine sSkip (c := false) 50 true 202 209 S rfl rfl (by kernel_rfl) rfl rfl (by decide) (fun a S => ?_)
                    refine sSkip (c := false) 50 true 202 210 S rfl rfl (by kernel_rfl) rfl rfl (by decide) (fun a S => ?_)
                    refine sPickF (b := false) (.bool false) S (wN rfl) rfl (by kernel_rfl) rfl (by kernel_rfl) rfl (by decide) (fun a S => ?_)
                    refine sMove (.bool false) S (wN rfl) (.inl rfl) (by kernel_rfl) rfl (by decide) (fun a S => ?_)
                    refine sSkip (c := false) 60 true 212 213 S rfl rfl (by kernel_rfl) rfl rfl (by decide) (fun a S => ?_)
                    refine sSkip (c := false) 60 true 212 214 S rfl rfl (by kernel_rfl) rfl rfl (by decide) (fun a S => ?_)
                    refine sSkip (c := false) 60 true 212 215 S rfl rfl (by kernel_rfl) rfl rfl (by decide) (fun a S => ?_)
                    refine sSkip (c := false) 60 true 212 216 S rfl rfl (by kernel_rfl) rfl rfl (by decide) (fun a S => ?_)
                    refine sSkip (c := false) 60 true 212 217 S rfl rfl (by kernel_rfl) rfl rfl (by decide) (fun a S => ?_)
                    refine sSkip (c := false) 60 true 212 218 S rfl rfl (by kernel_rfl) rfl rfl (by decide) (fun a S => ?_)
                    refine sSkip (c := false) 60 true 212 219 S rfl rfl (by kernel_rfl) rfl rfl (by decide) (fun a S => ?_)
                    refine sPickF (b := false) (.bool false) S (wN rfl) rfl (by kernel_rfl) rfl (by kernel_rfl) rfl (by decide) (fun a S => ?_)
                    refine sMove (.bool false) S (wN rfl) (.inr rfl) (by kernel_rfl) rfl (by decide) (fun a S => ?_)
                    exact leafL (leafT (⟨false, Option.some.inj h, S.fix [] [] (by decide) (by kernel_rfl) (by kernel_rfl) (by kernel_rfl)⟩))
                · refine sSkip (c := r8) 1 true 153 154 S rfl rfl (by kernel_rfl) hc174 rfl (by decide) (fun a S => ?_)
                  refine sSkip (c := r8) 1 true 153 155 S rfl rfl (by kernel_rfl) hc174 rfl (by decide) (fun a S => ?_)
                  refine sSkip (c := r8) 1 true 153 156 S rfl rfl (by kernel_rfl) hc174 rfl (by decide) (fun a S => ?_)
                  refine sSkip (c := r8) 1 true 153 157 S rfl rfl (by kernel_rfl) hc174 rfl (by decide) (fun a S => ?_)
                  refine sSkip (c := r8) 1 true 153 158 S rfl rfl (by kernel_rfl) hc174 rfl (by decide) (fun a S => ?_)
                  refine sSkip (c := r8) 1 true 153 159 S rfl rfl (by kernel_rfl) hc174 rfl (by decide) (fun a S => ?_)
                  refine sSkip (c := r8) 1 true 153 160 S rfl rfl (by kernel_rfl) hc174 rfl (by decide) (fun a S => ?_)
                  refine sSkip (c := r8) 1 true 153 161 S rfl rfl (by kernel_rfl) hc174 rfl (by decide) (fun a S => ?_)
                  refine sSkip (c := r8) 1 true 153 162 S rfl rfl (by kernel_rfl) hc174 rfl (by decide) (fun a S => ?_)
                  refine sSkip (c := r8) 1 true 153 163 S rfl rfl (by kernel_rfl) hc174 rfl (by decide) (fun a S => ?_)
                  refine sSkip (c := r8) 1 true 153 164 S rfl rfl (by kernel_rfl) hc174 rfl (by decide) (fun a S => ?_)
                  refine sSkip (c := r8) 1 true 153 165 S rfl rfl (by kernel_rfl) hc174 rfl (by decide) (fun a S => ?_)
                  refine sSkip (c := r8) 1 true 153 166 S rfl rfl (by kernel_rfl) hc174 rfl (by decide) (fun a S => ?_)
                  refine sPickF (b := r8) (.bool false) S (wN rfl) rfl (by kernel_rfl) hc174 (by kernel_rfl) rfl (by decide) (fun a S => ?_)
                  refine sMove (.bool false) S (wN rfl) (.inl rfl) (by kernel_rfl) rfl (by decide) (fun a S => ?_)
                  refine sSkip (c := false) 16 true 168 169 S rfl rfl (by kernel_rfl) rfl rfl (by decide) (fun a S => ?_)
                  refine sSkip (c := false) 16 true 168 170 S rfl rfl (by kernel_rfl) rfl rfl (by decide) (fun a S => ?_)
                  refine sSkip (c := false) 16 true 168 171 S rfl rfl (by kernel_rfl) rfl rfl (by decide) (fun a S => ?_)
                  refine sSkip (c := false) 16 true 168 172 S rfl rfl (by kernel_rfl) rfl rfl (by decide) (fun a S => ?_)
                  refine sSkip (c := false) 16 true 168 173 S rfl rfl (by kernel_rfl) rfl rfl (by decide) (fun a S => ?_)
                  refine sSkip (c := false) 16 true 168 174 S rfl rfl (by kernel_rfl) rfl rfl (by decide) (fun a S => ?_)
                  refine sSkip (c := false) 16 true 168 175 S rfl rfl (by kernel_rfl) rfl rfl (by decide) (fun a S => ?_)
                  refine sSkip (c := false) 16 true 168 176 S rfl rfl (by kernel_rfl) rfl rfl (by decide) (fun a S => ?_)
                  refine sSkip (c := false) 16 true 168 177 S rfl rfl (by kernel_rfl) rfl rfl (by decide) (fun a S => ?_)
                  refine sSkip (c := false) 16 true 168 178 S rfl rfl (by kernel_rfl) rfl rfl (by decide) (fun a S => ?_)
                  refine sSkip (c := false) 16 true 168 179 S rfl rfl (by kernel_rfl) rfl rfl (by decide) (fun a S => ?_)
                  refine sSkip (c := false) 16 true 168 180 S rfl rfl (by kernel_rfl) rfl rfl (by decide) (fun a S => ?_)
                  refine sSkip (c := false) 16 true 168 181 S rfl rfl (by kernel_rfl) rfl rfl (by decide) (fun a S => ?_)
                  refine sPickF (b := false) (.bool false) S (wN rfl) rfl (by kernel_rfl) rfl (by kernel_rfl) rfl (by decide) (fun a S => ?_)
                  refine sMove (.bool false) S (wN rfl) (.inl rfl) (by kernel_rfl) rfl (by decide) (fun a S => ?_)
                  refine sSkip (c := false) 31 true 183 184 S rfl rfl (by kernel_rfl) rfl rfl (by decide) (fun a S => ?_)
                  refine sSkip (c := false) 31 true 183 185 S rfl rfl (by kernel_rfl) rfl rfl (by decide) (fun a S => ?_)
                  refine sSkip (c := false) 31 true 183 186 S rfl rfl (by kernel_rfl) rfl rfl (by decide) (fun a S => ?_)
                  refine sSkip (c := false) 31 true 183 187 S rfl rfl (by kernel_rfl) rfl rfl (by decide) (fun a S => ?_)
                  refine sSkip (c := false) 31 true 183 188 S rfl rfl (by kernel_rfl) rfl rfl (by decide) (fun a S => ?_)
                  refine sSkip (c := false) 31 true 183 189 S rfl rfl (by kernel_rfl) rfl rfl (by decide) (fun a S => ?_)
                  refine sSkip (c := false) 31 true 183 190 S rfl rfl (by kernel_rfl) rfl rfl (by decide) (fun a S => ?_)
                  refine sSkip (c := false) 31 true 183 191 S rfl rfl (by kernel_rfl) rfl rfl (by decide) (fun a S => ?_)
                  refine sPickF (b := false) (.bool false) S (wN rfl) rfl (by kernel_rfl) rfl (by kernel_rfl) rfl (by decide) (fun a S => ?_)
                  refine sMove (.bool false) S (wN rfl) (.inl rfl) (by kernel_rfl) rfl (by decide) (fun a S => ?_)
                  refine sSkip (c := false) 41 true 193 194 S rfl rfl (by kernel_rfl) rfl rfl (by decide) (fun a S => ?_)
                  refine sSkip (c := false) 41 true 193 195 S rfl rfl (by kernel_rfl) rfl rfl (by decide) (fun a S => ?_)
                  refine sSkip (c := false) 41 true 193 196 S rfl rfl (by kernel_rfl) rfl rfl (by decide) (fun a S => ?_)
                  refine sSkip (c := false) 41 true 193 197 S rfl rfl (by kernel_rfl) rfl rfl (by decide) (fun a S => ?_)
                  refine sSkip (c := false) 41 true 193 198 S rfl rfl (by kernel_rfl) rfl rfl (by decide) (fun a S => ?_)
                  refine sSkip (c := false) 41 true 193 199 S rfl rfl (by kernel_rfl) rfl rfl (by decide) (fun a S => ?_)
                  refine sSkip (c := false) 41 true 193 200 S rfl rfl (by kernel_rfl) rfl rfl (by decide) (fun a S => ?_)
                  refine sPickF (b := false) (.bool false) S (wN rfl) rfl (by kernel_rfl) rfl (by kernel_rfl) rfl (by decide) (fun a S => ?_)
                  refine sMove (.bool false) S (wN rfl) (.inl rfl) (by kernel_rfl) rfl (by decide) (fun a S => ?_)
                  refine sSkip (c := false) 50 true 202 203 S rfl rfl (by kernel_rfl) rfl rfl (by decide) (fun a S => ?_)
                  refine sSkip (c := false) 50 true 202 204 S rfl rfl (by kernel_rfl) rfl rfl (by decide) (fun a S => ?_)
                  refine sSkip (c := false) 50 true 202 205 S rfl rfl (by kernel_rfl) rfl rfl (by decide) (fun a S => ?_)
                  refine sSkip (c := false) 50 true 202 206 S rfl rfl (by kernel_rfl) rfl rfl (by decide) (fun a S => ?_)
                  refine sSkip (c := false) 50 true 202 207 S rfl rfl (by kernel_rfl) rfl rfl (by decide) (fun a S => ?_)
                  refine sSkip (c := false) 50 true 202 208 S rfl rfl (by kernel_rfl) rfl rfl (by decide) (fun a S => ?_)
                  refine sSkip (c := false) 50 true 202 209 S rfl rfl (by kernel_rfl) rfl rfl (by decide) (fun a S => ?_)
                  refine sSkip (c := false) 50 true 202 210 S rfl rfl (by kernel_rfl) rfl rfl (by decide) (fun a S => ?_)
                  refine sPickF (b := false) (.bool false) S (wN rfl) rfl (by kernel_rfl) rfl (by kernel_rfl) rfl (by decide) (fun a S => ?_)
                  refine sMove (.bool false) S (wN rfl) (.inl rfl) (by kernel_rfl) rfl (by decide) (fun a S => ?_)
                  refine sSkip (c := false) 60 true 212 213 S rfl rfl (by kernel_rfl) rfl rfl (by decide) (fun a S => ?_)
                  refine sSkip (c := false) 60 true 212 214 S rfl rfl (by kernel_rfl) rfl rfl (by decide) (fun a S => ?_)
                  refine sSkip (c := false) 60 true 212 215 S rfl rfl (by kernel_rfl) rfl rfl (by decide) (fun a S => ?_)
                  refine sSkip (c := false) 60 true 212 216 S rfl rfl (by kernel_rfl) rfl rfl (by decide) (fun a S => ?_)
                  refine sSkip (c := false) 60 true 212 217 S rfl rfl (by kernel_rfl) rfl rfl (by decide) (fun a S => ?_)
                  refine sSkip (c := false) 60 true 212 218 S rfl rfl (by kernel_rfl) rfl rfl (by decide) (fun a S => ?_)
                  refine sSkip (c := false) 60 true 212 219 S rfl rfl (by kernel_rfl) rfl rfl (by decide) (fun a S => ?_)
                  refine sPickF (b := false) (.bool false) S (wN rfl) rfl (by kernel_rfl) rfl (by kernel_rfl) rfl (by decide) (fun a S => ?_)
                  refine sMove (.bool false) S (wN rfl) (.inr rfl) (by kernel_rfl) rfl (by decide) (fun a S => ?_)
                  exact leafL (leafT (⟨false, Option.some.inj h, S.fix [] [] (by decide) (by kernel_rfl) (by kernel_rfl) (by kernel_rfl)⟩))
              · obtain ⟨o171, rfl, S⟩ := hI
                have h := g173
                clear g173
                try dsimp only at h
                obtain rfl := Option.some.inj h
                exact wp_ret (sRet (.bool o171) S (rsl1 rfl (rvT (t := 4) (v := .bool o171) S (by kernel_rfl))) ⟨(), rfl, S.mem.sel [] [] (by decide) (by kernel_rfl) (by kernel_rfl)⟩)

end Go.Proofs.Ytjndecalogklhaa
namespace Go.Proofs.Ytjndecalogklhaa
open Go.RowKit
set_option linter.unusedVariables false

theorem par_path (a : Nat → Bool) (n : Nat) : cnt (fun k => a k != a (k + 1)) n % 2 = if (a 0 != a n) = true then 1 else 0 := by
  induction n with
  | zero => simp [cnt]
  | succ n ih =>
    rw [cnt_succ, Nat.add_mod, ih]
    cases a 0 <;> cases a n <;> cases a (n + 1) <;> rfl
theorem even_round (a : Nat → Bool) (n : Nat) : cnt (fun k => a k != a ((k + n - 1) % n)) n % 2 = 0 := by
  rw [← cnt_round]
  cases n with
  | zero => rfl
  | succ m =>
    have e1 : cnt (fun k => a k != a ((k + 1) % (m + 1))) m = cnt (fun k => a k != a (k + 1)) m := cnt_cong fun k hk => by
      rw [Nat.mod_eq_of_lt (by omega)]
    rw [cnt_succ, e1, Nat.mod_self, Nat.add_mod, par_path]
    cases a 0 <;> cases a m <;> rfl
theorem sumTo_le' {c : Int} {l : List Int} (hl : ∀ x, x ∈ l → 0 ≤ x ∧ x ≤ c) : ∀ {k : Nat}, k ≤ l.length → 0 ≤ sumTo l k ∧ sumTo l k ≤ c * k := by
  intro k
  induction k with
  | zero => intro _; simp [sumTo]
  | succ k ih =>
    intro h
    have h1 := ih (by omega)
    have h2 := hl _ (List.getElem_mem (show k < l.length by omega))
    have h3 : c * ((k + 1 : Nat) : Int) = c * k + c := by rw [Int.natCast_add, Int.mul_add]; simp
    rw [sumTo_succ (by omega), h3]
    omega
theorem rule_loop {B : Int × Int → Option ((Int × Int) ⊕ (Bool ⊕ Int))} (l : List Int) (n : Nat) (m : Int) (hl : l.length = n) (hn : n ≤ 64) (hm : m ≤ 64) (hb : ∀ x, x ∈ l → 0 ≤ x ∧ x ≤ m ∧ remI x 2 = some 0)
    (hB : ∀ s i, B (s, i) = if decide (i < (n : Int)) = true then Option.bind (α := Bool) (Option.bind (idxO l i) fun x => if decide (x < 0) = true then some true else if decide (m < x) = true then some true else Option.bind (remI x 2) fun z => some (z != 0))
      (fun o => if o = true then some (.inr (.inl false)) else Option.bind (idxO l i) fun x => some (.inl (w64 (s + x), w64 (i + 1)))) else some (.inr (.inr s))) :
    whileO B (0, 0) = some (.inr (sumTo l n)) := by
  have key : ∃ t, whileO B (0, 0) = some t ∧ t = .inr (sumTo l n) := by
    refine loop_st n (fun k s => s = sumTo l k) _ (by simp [sumTo]) ?_ ?_
    · rintro k s hk rfl
      have hk' : k < l.length := by omega
      have hs := sumTo_le (l := l) (fun x hx => by have := hb x hx; omega) (show k ≤ l.length by omega)
      have hx := hb _ (List.getElem_mem hk')
      refine .inl ⟨_, ?_, rfl⟩
      rw [hB, sumTo_succ hk']
      simp only [dT (show (k : Int) < (n : Int) by omega), if_true, idxO_nat hk', Option.bind_some, dF (show ¬ l[k] < 0 by omega), dF (show ¬ m < l[k] by omega), hx.2.2, Bool.false_eq_true, if_false, bne_self_eq_false, w64_succ (show k < 9223372036854775807 by omega)]
      rw [w64_of (by omega) (by omega)]
    · rintro s rfl
      refine ⟨_, ?_, rfl⟩
      rw [hB]
      simp only [dF (show ¬ (n : Int) < (n : Int) by omega), Bool.false_eq_true, if_false]
  obtain ⟨t, t1, rfl⟩ := key
  exact t1
theorem wmul {a b : Nat} (h : a * b ≤ 9223372036854775807) : w64 ((a : Int) * (b : Int)) = ((a * b : Nat) : Int) := by
  rw [← Int.natCast_mul, w64_of (by omega) (by omega)]
theorem wadd {a b : Nat} (h : a + b ≤ 9223372036854775807) : w64 ((a : Int) + (b : Int)) = ((a + b : Nat) : Int) := by
  rw [w64_of (by omega) (by omega)]; omega
theorem ycheck_eq (x y : Nat) (h0 : 1 ≤ y) (h1 : y ≤ 1000000000) (h2 : x ≤ 1000000000) (h3 : Nat.gcd x y = 1) : F_yarn_Check ⟨(x : Int), (y : Int)⟩ = some 0 := by
  unfold F_yarn_Check
  simp only [dF (show ¬ (y : Int) < 1 by omega), dF (show ¬ (1000000000 : Int) < y by omega), dF (show ¬ (1000000000 : Int) < x by omega), size_eq x (by omega), u64_of (show (0 : Int) ≤ y by omega) (by omega), ygcd_eq, h3, show (((1 : Nat) : Int) != 1) = false from rfl, Bool.false_eq_true, if_false, Option.bind_some]
/-- what is known of a ratio that Make made of numbers that are not great -/
theorem mk_facts {X Y : Nat} (hX : X ≤ 1000000000) (hY : Y ≤ 1000000000) (hY0 : 0 < Y) : ∃ a b q : Nat, mk X Y = (⟨(a : Int), (b : Int)⟩, 0) ∧ a * q = X ∧ b * q = Y ∧ 0 < q ∧ 0 < b ∧ a ≤ X ∧ b ≤ Y ∧ Nat.gcd a b = 1 := by
  have hg : 0 < Nat.gcd X Y := Nat.gcd_pos_of_pos_right X hY0
  have h3 : Nat.gcd (X / Nat.gcd X Y) (Y / Nat.gcd X Y) = 1 := Nat.gcd_div_gcd_div_gcd_of_pos_right hY0
  have h4 : 1 ≤ Y / Nat.gcd X Y := (Nat.le_div_iff_mul_le hg).2 (by rw [Nat.one_mul]; exact Nat.gcd_le_right X hY0)
  have h5 : X / Nat.gcd X Y ≤ X := Nat.div_le_self _ _
  have h6 : Y / Nat.gcd X Y ≤ Y := Nat.div_le_self _ _
  refine ⟨X / Nat.gcd X Y, Y / Nat.gcd X Y, Nat.gcd X Y, ?_, Nat.div_mul_cancel (Nat.gcd_dvd_left X Y), Nat.div_mul_cancel (Nat.gcd_dvd_right X Y), hg, h4, h5, h6, h3⟩
  unfold mk
  rw [if_pos ⟨by omega, by omega⟩]
/-- the setts of a valid grid -/
theorem setts_val {g : api_Grid} {w h : Nat} (G : Gr g w h) (he : gerr g = 0) {D : Nat} (d0 : 1 ≤ D) (d1 : D ≤ 1000) : ∃ P E : Nat, sumTo (picksL g w h) h = (P : Int) ∧ sumTo (endsL g w h) w = (E : Int) ∧ P ≤ w * h ∧ E ≤ w * h ∧
    F_sett_Setts g (D : Int) = some ((mk (D * (w * h)) (w * h + P)).1, (mk (D * (w * h)) (w * h + E)).1, 0) := by
  have p1 := picks_ok G
  have p2 := ends_ok G
  have q1 : ∀ x, x ∈ picksL g w h → 0 ≤ x ∧ x ≤ (w : Int) := fun x hx => by
    unfold picksL at hx
    rw [List.mem_map] at hx
    obtain ⟨y, _, rfl⟩ := hx
    have := cnt_le (dP g w y) w
    omega
  have q2 : ∀ x, x ∈ endsL g w h → 0 ≤ x ∧ x ≤ (h : Int) := fun x hx => by
    unfold endsL at hx
    rw [List.mem_map] at hx
    obtain ⟨y, _, rfl⟩ := hx
    have := cnt_le (dE g w h y) h
    omega
  have w0 := G.w0
  have w1 := G.w1
  have h0 := G.h0
  have h1 := G.h1
  have hp : w * h ≤ 64 * 64 := Nat.mul_le_mul G.w1 G.h1
  have hp0 : 0 < w * h := Nat.mul_pos w0 h0
  have e1 : w64 (g.W * g.H) = ((w * h : Nat) : Int) := by
    rw [G.hw, G.hh, ← Int.natCast_mul, w64_of (by omega) (by omega)]
  have hq : D * (w * h) ≤ 1000 * 4096 := Nat.mul_le_mul (by omega) hp
  have e2 : w64 ((D : Int) * ((w * h : Nat) : Int)) = ((D * (w * h) : Nat) : Int) := wmul (by omega)
  have s1 := sum_eq ((w * h : Nat) : Int) (picksL g w h) p1.1 (by rw [p1.2]; exact h1) (by omega) (by omega)
  have s2 := sum_eq ((w * h : Nat) : Int) (endsL g w h) p2.1 (by rw [p2.2]; exact w1) (by omega) (by omega)
  have b1 := sumTo_le' q1 (Nat.le_refl _)
  have b2 := sumTo_le' q2 (Nat.le_refl _)
  rw [p1.2, ← Int.natCast_mul] at b1
  rw [p2.2, ← Int.natCast_mul, Nat.mul_comm h w] at b2
  rw [p1.2] at s1
  rw [p2.2] at s2
  obtain ⟨P, hP⟩ : ∃ P : Nat, sumTo (picksL g w h) h = P := ⟨(sumTo (picksL g w h) h).toNat, by omega⟩
  obtain ⟨E, hE⟩ : ∃ E : Nat, sumTo (endsL g w h) w = E := ⟨(sumTo (endsL g w h) w).toNat, by omega⟩
  rw [hP] at s1 b1
  rw [hE] at s2 b2
  refine ⟨P, E, hP, hE, by omega, by omega, ?_⟩
  unfold F_sett_Setts
  rw [pturns G he]
  have e5 : (((w * h : Nat) : Int) + (P : Int)) = ((w * h + P : Nat) : Int) := by omega
  have e6 : (((w * h : Nat) : Int) + (E : Int)) = ((w * h + E : Nat) : Int) := by omega
  simp only [bne_self_eq_false, dF (show ¬ (D : Int) < 1 by omega), dF (show ¬ 1000 < (D : Int) by omega), Bool.false_eq_true, if_false, Option.bind_some, e1, e2, s1.1, s2.1]
  rw [e5, e6]
  simp only [ymake_eq _ _ (show D * (w * h) ≤ 9223372036854775807 by omega) (show w * h + P ≤ 9223372036854775807 by omega) (by omega),
    ymake_eq _ _ (show D * (w * h) ≤ 9223372036854775807 by omega) (show w * h + E ≤ 9223372036854775807 by omega) (by omega), Option.bind_some]
/-- the rule, for one sett -/
theorem rule_one {D n P : Nat} (n0 : 0 < n) (n1 : n ≤ 4096) (d0 : 1 ≤ D) (d1 : D ≤ 1000) (hP : P ≤ n) : ∃ a b : Nat, (mk (D * n) (n + P)).1 = ⟨(a : Int), (b : Int)⟩ ∧ F_yarn_Check ⟨(a : Int), (b : Int)⟩ = some 0 ∧
    w64 ((a : Int) * w64 (((n : Nat) : Int) + (P : Int))) = w64 (w64 ((D : Int) * ((n : Nat) : Int)) * (b : Int)) ∧ w64 ((D : Int) * (b : Int)) ≤ w64 (2 * (a : Int)) ∧ (a : Int) ≤ w64 ((D : Int) * (b : Int)) := by
  have hq : D * n ≤ 1000 * 4096 := Nat.mul_le_mul d1 n1
  obtain ⟨a, b, q, e, h1, h2, h3, h4, h5, h6, h7⟩ := mk_facts (X := D * n) (Y := n + P) (by omega) (by omega) (by omega)
  refine ⟨a, b, by rw [e], ycheck_eq a b h4 (by omega) (by omega) h7, ?_, ?_, ?_⟩
  · have k1 : a * (n + P) = D * n * b := by rw [← h1, ← h2, ← Nat.mul_assoc, Nat.mul_right_comm]
    have k2 : a * (n + P) ≤ 4096000 * 8192 := Nat.mul_le_mul (by omega) (by omega)
    rw [wadd (by omega), wmul (by omega), wmul (by omega), wmul (by omega), k1]
  · have k1 : D * b ≤ 1000 * 8192 := Nat.mul_le_mul d1 (by omega)
    have k2 : D * (n + P) ≤ 2 * (D * n) := by
      have : D * (n + P) ≤ D * (2 * n) := Nat.mul_le_mul_left D (by omega)
      rw [Nat.mul_left_comm] at this
      exact this
    have k3 : D * b * q ≤ 2 * a * q := by rw [Nat.mul_assoc, h2, Nat.mul_assoc, h1]; exact k2
    have k4 : D * b ≤ 2 * a := Nat.le_of_mul_le_mul_right k3 h3
    rw [wmul (by omega), w64_of (by omega) (by omega)]
    omega
  · have k1 : D * b ≤ 1000 * 8192 := Nat.mul_le_mul d1 (by omega)
    have k2 : a * q ≤ D * b * q := by rw [h1, Nat.mul_assoc, h2]; exact Nat.mul_le_mul_left D (by omega)
    have k3 : a ≤ D * b := Nat.le_of_mul_le_mul_right k2 h3
    rw [wmul (by omega)]
    omega
theorem law_SettRule' (ha : F_raddlelaw24_alive = some true) (g : api_Grid) (diam : Int) (wg : wf_api_Grid g) (wd : InK .i64 diam) : F_raddlelaw24_SettRule g diam = some true := by
  unfold F_raddlelaw24_SettRule F_raddlelaw24_fit F_raddleref01_Great
  rw [ha]
  simp only [Option.bind_some, (gcheck_eq g).2]
  by_cases hg : 4200 < g.Bits.length
  · simp only [dT (show (4200 : Int) < (g.Bits.length : Int) by omega), Bool.not_true, Bool.false_eq_true, if_false, Option.bind_some, Bool.not_false, if_true]
  simp only [dF (show ¬ (4200 : Int) < (g.Bits.length : Int) by omega), Bool.not_false, if_true, Option.bind_some]
  by_cases he : gerr g = 0
  case neg => simp only [bF he, Bool.not_false, if_true, Option.bind_some]
  simp only [bT he, Bool.not_true, Bool.false_eq_true, if_false, Option.bind_some]
  by_cases d0 : diam < 1
  · simp only [dT d0, if_true, Option.bind_some]
  by_cases d1 : 1000 < diam
  · simp only [dF d0, dT d1, Bool.false_eq_true, if_true, if_false, Option.bind_some]
  simp only [dF d0, dF d1, Bool.false_eq_true, if_false, Option.bind_some]
  obtain ⟨w, h, G⟩ := gerr_zero he
  obtain ⟨D, rfl⟩ : ∃ D : Nat, diam = D := ⟨diam.toNat, by omega⟩
  obtain ⟨P, E, hP, hE, bP, bE, hv⟩ := setts_val G he (D := D) (by omega) (by omega)
  have p1 := picks_ok G
  have p2 := ends_ok G
  have hp : w * h ≤ 64 * 64 := Nat.mul_le_mul G.w1 G.h1
  have hp0 : 0 < w * h := Nat.mul_pos G.w0 G.h0
  have e1 : w64 (g.W * g.H) = ((w * h : Nat) : Int) := by
    rw [G.hw, G.hh, ← Int.natCast_mul, w64_of (by omega) (by omega)]
  obtain ⟨a, b, r1, r2, r3, r4, r5⟩ := rule_one (D := D) (n := w * h) (P := P) hp0 (by omega) (by omega) (by omega) bP
  obtain ⟨c, d, t1, t2, t3, t4, t5⟩ := rule_one (D := D) (n := w * h) (P := E) hp0 (by omega) (by omega) (by omega) bE
  have l1 : whileO (raddlelaw24_SettRule_l1 g (picksL g w h, endsL g w h, 0)) (0, 0) = some (.inr (P : Int)) := by
    rw [← hP]
    refine rule_loop (picksL g w h) h (w : Int) p1.2 G.h1 (by have := G.w1; omega) (fun x hx => ?_) (fun s i => ?_)
    · unfold picksL at hx
      rw [List.mem_map] at hx
      obtain ⟨y, _, rfl⟩ := hx
      have := cnt_le (dP g w y) w
      have hev : cnt (dP g w y) w % 2 = 0 := even_round (fun x => cell g w x y) w
      exact ⟨by omega, by omega, by rw [show (2 : Int) = ((2 : Nat) : Int) from rfl, rem_nat (by omega), hev]; rfl⟩
    · unfold raddlelaw24_SettRule_l1
      rw [G.hh, G.hw]
  have l2 : whileO (raddlelaw24_SettRule_l2 g (picksL g w h, endsL g w h, 0)) (0, 0) = some (.inr (E : Int)) := by
    rw [← hE]
    refine rule_loop (endsL g w h) w (h : Int) p2.2 G.w1 (by have := G.h1; omega) (fun x hx => ?_) (fun s i => ?_)
    · unfold endsL at hx
      rw [List.mem_map] at hx
      obtain ⟨y, _, rfl⟩ := hx
      have := cnt_le (dE g w h y) h
      have hev : cnt (dE g w h y) h % 2 = 0 := even_round (fun z => cell g w y z) h
      exact ⟨by omega, by omega, by rw [show (2 : Int) = ((2 : Nat) : Int) from rfl, rem_nat (by omega), hev]; rfl⟩
    · unfold raddlelaw24_SettRule_l2
      rw [G.hh, G.hw]
  simp only [pturns G he, hv, Option.bind_some, bne_self_eq_false, Bool.false_eq_true, if_false, r1, t1, r2, t2, l1, l2, e1, if_true,
    nF (show ((picksL g w h).length : Int) = g.H by rw [p1.2, G.hh]), nF (show ((endsL g w h).length : Int) = g.W by rw [p2.2, G.hw]), bT r3, bT t3, dT r4, dT t4, dT r5, dT t5]

end Go.Proofs.Ytjndecalogklhaa
namespace Go.Proofs.Ytjndecalogklhaa
open Go.RowKit
set_option linter.unusedVariables false

theorem gcd_any {B : Int × Int → Option ((Int × Int) ⊕ Int)} (hB : ∀ a b : Int, B (a, b) = if (b != 0) = true then Option.bind (remI a b) fun z => some (.inl (b, z)) else some (.inr a)) (a b : Int) : ∃ t, whileO B (a, b) = some t ∧ t.natAbs = Nat.gcd a.natAbs b.natAbs := by
  refine whileO_inv (fun s => Nat.gcd s.1.natAbs s.2.natAbs = Nat.gcd a.natAbs b.natAbs) (fun s => s.2.natAbs) _ rfl ?_
  rintro ⟨x, y⟩ hg
  dsimp only at hg
  rw [hB]
  by_cases hy : y = 0
  · subst hy
    refine .inr ⟨x, by simp, ?_⟩
    rw [← hg]; simp
  · have h1 : (y != 0) = true := nT hy
    have h2 : remI x y = some (x.tmod y) := by unfold remI; rw [if_neg hy]
    have h3 : (x.tmod y).natAbs = x.natAbs % y.natAbs := Int.natAbs_tmod x y
    refine .inl ⟨(y, x.tmod y), by rw [if_pos h1, h2]; rfl, ?_, ?_⟩
    · show Nat.gcd y.natAbs (x.tmod y).natAbs = _
      rw [← hg, h3, Nat.gcd_comm x.natAbs, Nat.gcd_rec y.natAbs x.natAbs, Nat.gcd_comm]
    · show (x.tmod y).natAbs < y.natAbs
      rw [h3]
      exact Nat.mod_lt _ (by omega)
theorem common_some (a b : Int) : ∃ t, F_raddleref23_common a b = some t := by
  obtain ⟨t, t1, _⟩ := gcd_any (B := raddleref23_common_l1) (fun a b => rfl) a b
  unfold F_raddleref23_common
  rw [t1]
  simp only [Option.bind_some]
  split
  · exact ⟨_, rfl⟩
  · exact ⟨_, rfl⟩
theorem rcheck_some (r : api_Ratio) : ∃ e, F_raddleref23_Check r = some e := by
  obtain ⟨t, ht⟩ := common_some r.Num r.Den
  unfold F_raddleref23_Check
  rw [ht]
  by_cases e1 : r.Den < 1
  · exact ⟨8, by simp [e1]⟩
  by_cases e2 : 1000000000 < r.Den
  · exact ⟨8, by simp [e1, e2]⟩
  by_cases e3 : r.Num < -1000000000
  · exact ⟨8, by simp [e1, e2, e3]⟩
  by_cases e4 : 1000000000 < r.Num
  · exact ⟨8, by simp [e1, e2, e3, e4]⟩
  by_cases e5 : t = 1
  · exact ⟨0, by simp [e1, e2, e3, e4, e5]⟩
  · exact ⟨8, by simp [e1, e2, e3, e4, e5]⟩
theorem ygcd_some (a b : Int) : ∃ t, F_yarn_gcd a b = some t := by
  obtain ⟨t, t1, _⟩ := gcd_any (B := yarn_gcd_l1) (fun a b => rfl) a b
  unfold F_yarn_gcd
  rw [t1]
  exact ⟨_, rfl⟩
theorem ycheck_some (r : api_Ratio) : ∃ e, F_yarn_Check r = some e := by
  have h1 : ∃ n, F_yarn_size r.Num = some n := by
    unfold F_yarn_size
    split
    · exact ⟨_, rfl⟩
    · exact ⟨_, rfl⟩
  obtain ⟨n, hn⟩ := h1
  obtain ⟨t, ht⟩ := ygcd_some n (IntKind.u64.wrap r.Den)
  unfold F_yarn_Check
  rw [hn]
  by_cases e1 : r.Den < 1
  · exact ⟨8, by simp [e1]⟩
  by_cases e2 : 1000000000 < r.Den
  · exact ⟨8, by simp [e1, e2]⟩
  by_cases e3 : 1000000000 < n
  · exact ⟨8, by simp [e1, e2, e3]⟩
  by_cases e5 : t = 1
  · exact ⟨0, by simp [e1, e2, e3, ht, e5]⟩
  · exact ⟨8, by simp [e1, e2, e3, ht, e5]⟩
theorem ycheck_pos (x y : Nat) (hx : x ≤ 9223372036854775807) (hy : y ≤ 9223372036854775807) : F_yarn_Check ⟨(x : Int), (y : Int)⟩ = some (if 1 ≤ y ∧ y ≤ 1000000000 ∧ x ≤ 1000000000 ∧ Nat.gcd x y = 1 then 0 else 8) := by
  unfold F_yarn_Check
  simp only [size_eq x hx, u64_of (show (0 : Int) ≤ y by omega) (by omega), ygcd_eq, Option.bind_some]
  by_cases e1 : 1 ≤ y
  case neg => simp only [dT (show (y : Int) < 1 by omega), if_true, Option.bind_some, e1, false_and, if_false]
  by_cases e2 : y ≤ 1000000000
  case neg => simp only [dF (show ¬ (y : Int) < 1 by omega), dT (show (1000000000 : Int) < y by omega), Bool.false_eq_true, if_true, if_false, Option.bind_some, e2, false_and, and_false]
  by_cases e3 : x ≤ 1000000000
  case neg => simp only [dF (show ¬ (y : Int) < 1 by omega), dF (show ¬ (1000000000 : Int) < y by omega), dT (show (1000000000 : Int) < x by omega), Bool.false_eq_true, if_true, if_false, Option.bind_some, e3, false_and, and_false]
  by_cases e4 : Nat.gcd x y = 1
  · simp only [dF (show ¬ (y : Int) < 1 by omega), dF (show ¬ (1000000000 : Int) < y by omega), dF (show ¬ (1000000000 : Int) < x by omega), e4, show (((1 : Nat) : Int) != 1) = false from rfl, Bool.false_eq_true, if_true, if_false, Option.bind_some, e1, e2, e3, and_self]
  · simp only [dF (show ¬ (y : Int) < 1 by omega), dF (show ¬ (1000000000 : Int) < y by omega), dF (show ¬ (1000000000 : Int) < x by omega), nT (show ¬ ((Nat.gcd x y : Nat) : Int) = 1 by omega), Bool.false_eq_true, if_true, if_false, Option.bind_some, e4, and_false]
/-- what Make answers: a ratio in lowest terms, or the error of its size -/
theorem mk_cases (X Y : Nat) (hY : 0 < Y) : (∃ a b q : Nat, mk X Y = (⟨(a : Int), (b : Int)⟩, 0) ∧ a * q = X ∧ b * q = Y ∧ 0 < q ∧ 0 < b ∧ a ≤ 1000000000 ∧ b ≤ 1000000000 ∧ Nat.gcd a b = 1) ∨ mk X Y = (⟨0, 0⟩, 16) := by
  unfold mk
  by_cases h : X / Nat.gcd X Y ≤ 1000000000 ∧ Y / Nat.gcd X Y ≤ 1000000000
  · rw [if_pos h]
    have hg : 0 < Nat.gcd X Y := Nat.gcd_pos_of_pos_right X hY
    exact .inl ⟨_, _, Nat.gcd X Y, rfl, Nat.div_mul_cancel (Nat.gcd_dvd_left X Y), Nat.div_mul_cancel (Nat.gcd_dvd_right X Y), hg, (Nat.le_div_iff_mul_le hg).2 (by rw [Nat.one_mul]; exact Nat.gcd_le_right X hY), h.1, h.2, Nat.gcd_div_gcd_div_gcd_of_pos_right hY⟩
  · rw [if_neg h]
    exact .inr rfl
theorem mk_low {x y : Nat} (hx : x ≤ 1000000000) (hy : y ≤ 1000000000) (hg : Nat.gcd x y = 1) : mk x y = (⟨(x : Int), (y : Int)⟩, 0) := by
  unfold mk
  rw [hg, Nat.div_one, Nat.div_one, if_pos ⟨hx, hy⟩]

end Go.Proofs.Ytjndecalogklhaa
namespace Go.Proofs.Ytjndecalogklhaa
open Go.RowKit
set_option linter.unusedVariables false

noncomputable def F_sett_Cloth (p0 : Int) (p1 : api_Ratio) : Option (Int × Int) :=
  Option.bind (F_sett_upTo p1 p0) fun r5 =>
  if r5 != 0 then
    some (0, r5)
  else
    Option.bind (F_sett_over_int64_ (w64 (p0 * p1.Den)) (w64 (p1.Den + p1.Num)) false) fun r11 =>
    some (r11, 0)
set_option maxHeartbeats 4000000 in
set_option maxRecDepth 100000 in
theorem c_sett_Cloth (E : Nat → Prop) (w0 : World) (p0 : Int) (p1 : api_Ratio) (v1 : Value) (r : (Int × Int)) (h : F_sett_Cloth p0 p1 = some r) (S : St0 E [] w0 w0 [] [fRep r_api_Ratio (v1) p1]) :
    Calls Try.prog 26 #[.int .i64 p0, v1] w0 (Ret (X := Unit) E [] w0 (fun _ => .tuple #[.int .i64 r.1, .int .i64 r.2]) (fun _ => []) (fun _ => [])) := by
  unfold F_sett_Cloth at h
  obtain rfl : v1 = .agg #[.int .i64 p1.Num, .int .i64 p1.Den] := S.know (i := 0) (e := fRep r_api_Ratio (v1) p1) (by kernel_rfl)
  refine sEnter (args := [.int .i64 p0, .agg #[.int .i64 p1.Num, .int .i64 p1.Den]]) 23 Try.func26 rfl rfl (by simp) S (fun a S => ?_)
  refine sSeq (fun K1 hK1 => ?_)
  refine sRegion ?_
  refine sBox (v := .agg #[.int .i64 p1.Num, .int .i64 p1.Den]) S (wN rfl) rfl (by kernel_rfl) [.int .i64 p1.Num, .int .i64 p1.Den] rfl rfl (by decide) (fun a b2 w S => ?_)
  refine sMove (.int .i64 0) S (wN rfl) (.inr rfl) (by kernel_rfl) rfl (by decide) (fun a S => ?_)
  refine sMove (.int .i64 0) S (wN rfl) (.inr rfl) (by kernel_rfl) rfl (by decide) (fun a S => ?_)
  refine leafL (leafT (hK1 _ _ ?_))
  refine sSeq (fun K3 hK3 => ?_)
  refine sSeq (fun K4 hK4 => ?_)
  refine sRegion ?_
  refine sLoadN (p := b2) (off := 0) (T := 34) (vs := [.int .i64 p1.Num, .int .i64 p1.Den]) 0 [.int .i64 p1.Num, .int .i64 p1.Den] S (wN rfl) rfl (by kernel_rfl) (by kernel_rfl) (by kernel_rfl) (by kernel_rfl) rfl rfl (by decide) (fun a S => ?_)
  refine sMove (.int .i64 p0) S (wN rfl) (.inl rfl) (by kernel_rfl) rfl (by decide) (fun a S => ?_)
  obtain ⟨r5, hx6, h⟩ := bindSome h
  have S1 := S.mem
  refine sCallQ (X := Unit) (f := 52) (vs := [.agg #[.int .i64 p1.Num, .int .i64 p1.Den], .int .i64 p0]) (val := fun _ => .int .i64 r5) S (wN rfl) rfl callee52 (by kernel_rfl) (S1.quiet [0] (by kernel_rfl)) (fun E1 w1 S1 => c_sett_upTo E1 w1 p1 (.agg #[.int .i64 p1.Num, .int .i64 p1.Den]) p0 r5 hx6 S1) rfl (by decide) (fun _ a w S => ?_)
  refine sMove (.int .i64 r5) S (wN rfl) (.inr rfl) (by kernel_rfl) rfl (by decide) (fun a S => ?_)
  refine leafL (leafT (hK4 _ _ ?_))
  refine sSeq (fun K7 hK7 => ?_)
  refine sRegion ?_
  refine sMove (.int .i64 r5) S (wN rfl) (.inl rfl) (by kernel_rfl) rfl (by decide) (fun a S => ?_)
  refine sBin (.bool (r5 != 0)) S (wN rfl) rfl (by kernel_rfl) (by kernel_rfl) (bNe _ _ _ _ .i64 r5 0) rfl (by decide) (fun a S => ?_)
  refine leafL (leafT (hK7 _ _ ?_))
  rcases iteSome h with ⟨hc8, h⟩ | ⟨hc8, h⟩
  · refine sCondT (b := r5 != 0) S (by kernel_rfl) hc8 ?_
    refine sSeq (fun K9 hK9 => ?_)
    refine sRegion ?_
    refine sMove (.int .i64 r5) S (wN rfl) (.inl rfl) (by kernel_rfl) rfl (by decide) (fun a S => ?_)
    refine sMove (.int .i64 0) S (wN rfl) (.inr rfl) (by kernel_rfl) rfl (by decide) (fun a S => ?_)
    refine sMove (.int .i64 r5) S (wN rfl) (.inr rfl) (by kernel_rfl) rfl (by decide) (fun a S => ?_)
    refine leafL (leafT (hK9 _ _ ?_))
    obtain rfl := Option.some.inj h
    exact wp_ret (rThen (sRet (.tuple #[.int .i64 0, .int .i64 r5]) S (rsl2 rfl (rvT (t := 4) (v := .int .i64 0) S (by kernel_rfl)) (rvT (t := 5) (v := .int .i64 r5) S (by kernel_rfl))) ⟨(), rfl, S.mem.sel [] [] (by decide) (by kernel_rfl) (by kernel_rfl)⟩))
  · refine sCondF (b := r5 != 0) S (by kernel_rfl) hc8 ?_
    refine wp_skip (leafT (hK3 _ _ ?_))
    refine sSeq (fun K10 hK10 => ?_)
    refine sRegion ?_
    refine sMove (.int .i64 p0) S (wN rfl) (.inl rfl) (by kernel_rfl) rfl (by decide) (fun a S => ?_)
    refine sField (b := b2) (off := 0) 1 1 S (wN rfl) rfl (by kernel_rfl) (by kernel_rfl) rfl rfl (by decide) (fun a S => ?_)
    refine sLoad1 (p := b2) (off := 1) (T := 34) (vs := [.int .i64 p1.Num, .int .i64 p1.Den]) 0 (.int .i64 p1.Den) S (wN rfl) rfl (by kernel_rfl) (by kernel_rfl) (by kernel_rfl) rfl rfl (by decide) (fun a S => ?_)
    refine sBin (.int .i64 (w64 (p0 * p1.Den))) S (wN rfl) rfl (by kernel_rfl) (by kernel_rfl) (bMul _ _ _ _ p0 p1.Den) rfl (by decide) (fun a S => ?_)
    refine sField (b := b2) (off := 0) 1 1 S (wN rfl) rfl (by kernel_rfl) (by kernel_rfl) rfl rfl (by decide) (fun a S => ?_)
    refine sLoad1 (p := b2) (off := 1) (T := 34) (vs := [.int .i64 p1.Num, .int .i64 p1.Den]) 0 (.int .i64 p1.Den) S (wN rfl) rfl (by kernel_rfl) (by kernel_rfl) (by kernel_rfl) rfl rfl (by decide) (fun a S => ?_)
    refine sField (b := b2) (off := 0) 0 0 S (wN rfl) rfl (by kernel_rfl) (by kernel_rfl) rfl rfl (by decide) (fun a S => ?_)
    refine sLoad1 (p := b2) (off := 0) (T := 34) (vs := [.int .i64 p1.Num, .int .i64 p1.Den]) 0 (.int .i64 p1.Num) S (wN rfl) rfl (by kernel_rfl) (by kernel_rfl) (by kernel_rfl) rfl rfl (by decide) (fun a S => ?_)
    refine sBin (.int .i64 (w64 (p1.Den + p1.Num))) S (wN rfl) rfl (by kernel_rfl) (by kernel_rfl) (bAdd _ _ _ _ p1.Den p1.Num) rfl (by decide) (fun a S => ?_)
    obtain ⟨r11, hx12, h⟩ := bindSome h
    have S1 := S.mem
    refine sCallQ (X := Unit) (f := 49) (vs := [.int .i64 (w64 (p0 * p1.Den)), .int .i64 (w64 (p1.Den + p1.Num)), .bool false]) (val := fun _ => .int .i64 r11) S (wN rfl) rfl callee49 (by kernel_rfl) (S1.quiet [] (by kernel_rfl)) (fun E1 w1 S1 => c_sett_over_int64_ E1 w1 (w64 (p0 * p1.Den)) (w64 (p1.Den + p1.Num)) false r11 hx12 S1) rfl (by decide) (fun _ a w S => ?_)
    refine sMove (.int .i64 r11) S (wN rfl) (.inr rfl) (by kernel_rfl) rfl (by decide) (fun a S => ?_)
    refine sMove (.int .i64 0) S (wN rfl) (.inr rfl) (by kernel_rfl) rfl (by decide) (fun a S => ?_)
    refine leafL (leafT (hK10 _ _ ?_))
    obtain rfl := Option.some.inj h
    exact wp_ret (sRet (.tuple #[.int .i64 r11, .int .i64 0]) S (rsl2 rfl (rvT (t := 4) (v := .int .i64 r11) S (by kernel_rfl)) (rvT (t := 5) (v := .int .i64 0) S (by kernel_rfl))) ⟨(), rfl, S.mem.sel [] [] (by decide) (by kernel_rfl) (by kernel_rfl)⟩)

end Go.Proofs.Ytjndecalogklhaa
namespace Go.Proofs.Ytjndecalogklhaa
open Go.RowKit
set_option linter.unusedVariables false

noncomputable def F_raddleref24_Up (p0 : api_Ratio) (p1 : Int) : Option Int :=
  Option.bind (α := Bool) (
    Option.bind (F_raddleref23_Check p0) fun r7 =>
    if r7 != 0 then
      some true
    else
      if decide (p0.Num < 0) then
        some true
      else
        some (decide ((w64 (10 * p0.Den)) < p0.Num))) fun o4 =>
  if o4 then
    some 8
  else
    Option.bind (α := Bool) (
      if decide (p1 < 0) then
        some true
      else
        some (decide (1000000000 < p1))) fun o14 =>
    if o14 then
      some 2
    else
      some 0
set_option maxHeartbeats 4000000 in
set_option maxRecDepth 100000 in
theorem c_raddleref24_Up (E : Nat → Prop) (w0 : World) (p0 : api_Ratio) (v0 : Value) (p1 : Int) (r : Int) (h : F_raddleref24_Up p0 p1 = some r) (S : St0 E [] w0 w0 [] [fRep r_api_Ratio (v0) p0]) :
    Calls Try.prog 27 #[v0, .int .i64 p1] w0 (Ret (X := Unit) E [] w0 (fun _ => .int .i64 r) (fun _ => []) (fun _ => [])) := by
  unfold F_raddleref24_Up at h
  obtain rfl : v0 = .agg #[.int .i64 p0.Num, .int .i64 p0.Den] := S.know (i := 0) (e := fRep r_api_Ratio (v0) p0) (by kernel_rfl)
  refine sEnter (args := [.agg #[.int .i64 p0.Num, .int .i64 p0.Den], .int .i64 p1]) 27 Try.func27 rfl rfl (by simp) S (fun a S => ?_)
  refine sSeq (fun K1 hK1 => ?_)
  refine sRegion ?_
  refine sBox (v := .agg #[.int .i64 p0.Num, .int .i64 p0.Den]) S (wN rfl) rfl (by kernel_rfl) [.int .i64 p0.Num, .int .i64 p0.Den] rfl rfl (by decide) (fun a b2 w S => ?_)
  refine sMove (.int .i64 0) S (wN rfl) (.inr rfl) (by kernel_rfl) rfl (by decide) (fun a S => ?_)
  refine leafL (leafT (hK1 _ _ ?_))
  refine sSeq (fun K3 hK3 => ?_)
  obtain ⟨t5, h, g6⟩ := bindSome h
  refine sCut (fun a w => ∃ o4, o4 = t5 ∧ St E [] w0 27 a w [(1, .int .i64 p1), (20, .bool o4)] [] []) ?_ (fun a w hI => ?_)
  · refine sRegion ?_
    refine sLoadN (p := b2) (off := 0) (T := 34) (vs := [.int .i64 p0.Num, .int .i64 p0.Den]) 0 [.int .i64 p0.Num, .int .i64 p0.Den] S (wN rfl) rfl (by kernel_rfl) (by kernel_rfl) (by kernel_rfl) (by kernel_rfl) rfl rfl (by decide) (fun a S => ?_)
    obtain ⟨r7, hx8, h⟩ := bindSome h
    have S1 := S.mem
    refine sCallQ (X := Unit) (f := 45) (vs := [.agg #[.int .i64 p0.Num, .int .i64 p0.Den]]) (val := fun _ => .int .i64 r7) S (wN rfl) rfl callee45 (by kernel_rfl) (S1.quiet [0] (by kernel_rfl)) (fun E1 w1 S1 => c_raddleref23_Check E1 w1 p0 (.agg #[.int .i64 p0.Num, .int .i64 p0.Den]) r7 hx8 S1) rfl (by decide) (fun _ a w S => ?_)
    refine sBin (.bool (r7 != 0)) S (wN rfl) rfl (by kernel_rfl) (by kernel_rfl) (bNe _ _ _ _ .i64 r7 0) rfl (by decide) (fun a S => ?_)
    refine sMove (.bool (r7 != 0)) S (wN rfl) (.inl rfl) (by kernel_rfl) rfl (by decide) (fun a S => ?_)
    rcases iteSome h with ⟨hc9, h⟩ | ⟨hc9, h⟩
    · refine sSkip (c := r7 != 0) 3 false 8 9 S rfl rfl (by kernel_rfl) hc9 rfl (by decide) (fun a S => ?_)
      refine sSkip (c := r7 != 0) 3 false 8 10 S rfl rfl (by kernel_rfl) hc9 rfl (by decide) (fun a S => ?_)
      refine sSkip (c := r7 != 0) 3 false 8 11 S rfl rfl (by kernel_rfl) hc9 rfl (by decide) (fun a S => ?_)
      refine sPickT (b := r7 != 0) (.bool true) S (wN rfl) rfl (by kernel_rfl) hc9 (by kernel_rfl) rfl (by decide) (fun a S => ?_)
      refine sMove (.bool true) S (wN rfl) (.inl rfl) (by kernel_rfl) rfl (by decide) (fun a S => ?_)
      refine sSkip (c := true) 8 false 13 14 S rfl rfl (by kernel_rfl) rfl rfl (by decide) (fun a S => ?_)
      refine sSkip (c := true) 8 false 13 15 S rfl rfl (by kernel_rfl) rfl rfl (by decide) (fun a S => ?_)
      refine sSkip (c := true) 8 false 13 16 S rfl rfl (by kernel_rfl) rfl rfl (by decide) (fun a S => ?_)
      refine sSkip (c := true) 8 false 13 17 S rfl rfl (by kernel_rfl) rfl rfl (by decide) (fun a S => ?_)
      refine sSkip (c := true) 8 false 13 18 S rfl rfl (by kernel_rfl) rfl rfl (by decide) (fun a S => ?_)
      refine sSkip (c := true) 8 false 13 19 S rfl rfl (by kernel_rfl) rfl rfl (by decide) (fun a S => ?_)
      refine sPickT (b := true) (.bool true) S (wN rfl) rfl (by kernel_rfl) rfl (by kernel_rfl) rfl (by decide) (fun a S => ?_)
      exact leafL (leafT (⟨true, Option.some.inj h, S.fix [] [] (by decide) (by kernel_rfl) (by kernel_rfl) (by kernel_rfl)⟩))
    · refine sField (b := b2) (off := 0) 0 0 S (wG (c := r7 != 0) 3 false 8 rfl rfl (by kernel_rfl) hc9) rfl (by kernel_rfl) (by kernel_rfl) rfl rfl (by decide) (fun a S => ?_)
      refine sLoad1 (p := b2) (off := 0) (T := 34) (vs := [.int .i64 p0.Num, .int .i64 p0.Den]) 0 (.int .i64 p0.Num) S (wG (c := r7 != 0) 3 false 8 rfl rfl (by kernel_rfl) hc9) rfl (by kernel_rfl) (by kernel_rfl) (by kernel_rfl) rfl rfl (by decide) (fun a S => ?_)
      refine sBin (.bool (decide (p0.Num < 0))) S (wG (c := r7 != 0) 3 false 8 rfl rfl (by kernel_rfl) hc9) rfl (by kernel_rfl) (by kernel_rfl) (bLt _ _ _ _ .i64 p0.Num 0) rfl (by decide) (fun a S => ?_)
      refine sPickF (b := r7 != 0) (.bool (decide (p0.Num < 0))) S (wN rfl) rfl (by kernel_rfl) hc9 (by kernel_rfl) rfl (by decide) (fun a S => ?_)
      refine sMove (.bool (decide (p0.Num < 0))) S (wN rfl) (.inl rfl) (by kernel_rfl) rfl (by decide) (fun a S => ?_)
      rcases iteSome h with ⟨hc10, h⟩ | ⟨hc10, h⟩
      · refine sSkip (c := decide (p0.Num < 0)) 8 false 13 14 S rfl rfl (by kernel_rfl) hc10 rfl (by decide) (fun a S => ?_)
        refine sSkip (c := decide (p0.Num < 0)) 8 false 13 15 S rfl rfl (by kernel_rfl) hc10 rfl (by decide) (fun a S => ?_)
        refine sSkip (c := decide (p0.Num < 0)) 8 false 13 16 S rfl rfl (by kernel_rfl) hc10 rfl (by decide) (fun a S => ?_)
        refine sSkip (c := decide (p0.Num < 0)) 8 false 13 17 S rfl rfl (by kernel_rfl) hc10 rfl (by decide) (fun a S => ?_)
        refine sSkip (c := decide (p0.Num < 0)) 8 false 13 18 S rfl rfl (by kernel_rfl) hc10 rfl (by decide) (fun a S => ?_)
        refine sSkip (c := decide (p0.Num < 0)) 8 false 13 19 S rfl rfl (by kernel_rfl) hc10 rfl (by decide) (fun a S => ?_)
        refine sPickT (b := decide (p0.Num < 0)) (.bool true) S (wN rfl) rfl (by kernel_rfl) hc10 (by kernel_rfl) rfl (by decide) (fun a S => ?_)
        exact leafL (leafT (⟨true, Option.some.inj h, S.fix [] [] (by decide) (by kernel_rfl) (by kernel_rfl) (by kernel_rfl)⟩))
      · refine sField (b := b2) (off := 0) 0 0 S (wG (c := decide (p0.Num < 0)) 8 false 13 rfl rfl (by kernel_rfl) hc10) rfl (by kernel_rfl) (by kernel_rfl) rfl rfl (by decide) (fun a S => ?_)
        refine sLoad1 (p := b2) (off := 0) (T := 34) (vs := [.int .i64 p0.Num, .int .i64 p0.Den]) 0 (.int .i64 p0.Num) S (wG (c := decide (p0.Num < 0)) 8 false 13 rfl rfl (by kernel_rfl) hc10) rfl (by kernel_rfl) (by kernel_rfl) (by kernel_rfl) rfl rfl (by decide) (fun a S => ?_)
        refine sField (b := b2) (off := 0) 1 1 S (wG (c := decide (p0.Num < 0)) 8 false 13 rfl rfl (by kernel_rfl) hc10) rfl (by kernel_rfl) (by kernel_rfl) rfl rfl (by decide) (fun a S => ?_)
        refine sLoad1 (p := b2) (off := 1) (T := 34) (vs := [.int .i64 p0.Num, .int .i64 p0.Den]) 0 (.int .i64 p0.Den) S (wG (c := decide (p0.Num < 0)) 8 false 13 rfl rfl (by kernel_rfl) hc10) rfl (by kernel_rfl) (by kernel_rfl) (by kernel_rfl) rfl rfl (by decide) (fun a S => ?_)
        refine sBin (.int .i64 (w64 (10 * p0.Den))) S (wG (c := decide (p0.Num < 0)) 8 false 13 rfl rfl (by kernel_rfl) hc10) rfl (by kernel_rfl) (by kernel_rfl) (bMul _ _ _ _ 10 p0.Den) rfl (by decide) (fun a S => ?_)
        refine sBin (.bool (decide ((w64 (10 * p0.Den)) < p0.Num))) S (wG (c := decide (p0.Num < 0)) 8 false 13 rfl rfl (by kernel_rfl) hc10) rfl (by kernel_rfl) (by kernel_rfl) (bGt _ _ _ _ .i64 p0.Num (w64 (10 * p0.Den))) rfl (by decide) (fun a S => ?_)
        refine sPickF (b := decide (p0.Num < 0)) (.bool (decide ((w64 (10 * p0.Den)) < p0.Num))) S (wN rfl) rfl (by kernel_rfl) hc10 (by kernel_rfl) rfl (by decide) (fun a S => ?_)
        exact leafL (leafT (⟨decide ((w64 (10 * p0.Den)) < p0.Num), Option.some.inj h, S.fix [] [] (by decide) (by kernel_rfl) (by kernel_rfl) (by kernel_rfl)⟩))
  · obtain ⟨o4, rfl, S⟩ := hI
    have h := g6
    clear g6
    try dsimp only at h
    rcases iteSome h with ⟨hc11, h⟩ | ⟨hc11, h⟩
    · refine sCondT (b := o4) S (by kernel_rfl) hc11 ?_
      refine sSeq (fun K12 hK12 => ?_)
      refine sRegion ?_
      refine sMove (.int .i64 8) S (wN rfl) (.inr rfl) (by kernel_rfl) rfl (by decide) (fun a S => ?_)
      refine leafL (leafT (hK12 _ _ ?_))
      obtain rfl := Option.some.inj h
      exact wp_ret (rThen (sRet (.int .i64 8) S (rsl1 rfl (rvT (t := 4) (v := .int .i64 8) S (by kernel_rfl))) ⟨(), rfl, S.mem.sel [] [] (by decide) (by kernel_rfl) (by kernel_rfl)⟩))
    · refine sCondF (b := o4) S (by kernel_rfl) hc11 ?_
      refine wp_skip (leafT (hK3 _ _ ?_))
      refine sSeq (fun K13 hK13 => ?_)
      obtain ⟨t15, h, g16⟩ := bindSome h
      refine sCut (fun a w => ∃ o14, o14 = t15 ∧ St E [] w0 27 a w [(26, .bool o14)] [] []) ?_ (fun a w hI => ?_)
      · refine sRegion ?_
        refine sMove (.int .i64 p1) S (wN rfl) (.inl rfl) (by kernel_rfl) rfl (by decide) (fun a S => ?_)
        refine sBin (.bool (decide (p1 < 0))) S (wN rfl) rfl (by kernel_rfl) (by kernel_rfl) (bLt _ _ _ _ .i64 p1 0) rfl (by decide) (fun a S => ?_)
        refine sMove (.bool (decide (p1 < 0))) S (wN rfl) (.inl rfl) (by kernel_rfl) rfl (by decide) (fun a S => ?_)
        rcases iteSome h with ⟨hc17, h⟩ | ⟨hc17, h⟩
        · refine sSkip (c := decide (p1 < 0)) 2 false 23 24 S rfl rfl (by kernel_rfl) hc17 rfl (by decide) (fun a S => ?_)
          refine sSkip (c := decide (p1 < 0)) 2 false 23 25 S rfl rfl (by kernel_rfl) hc17 rfl (by decide) (fun a S => ?_)
          refine sPickT (b := decide (p1 < 0)) (.bool true) S (wN rfl) rfl (by kernel_rfl) hc17 (by kernel_rfl) rfl (by decide) (fun a S => ?_)
          exact leafL (leafT (⟨true, Option.some.inj h, S.fix [] [] (by decide) (by kernel_rfl) (by kernel_rfl) (by kernel_rfl)⟩))
        · refine sMove (.int .i64 p1) S (wG (c := decide (p1 < 0)) 2 false 23 rfl rfl (by kernel_rfl) hc17) (.inl rfl) (by kernel_rfl) rfl (by decide) (fun a S => ?_)
          refine sBin (.bool (decide (1000000000 < p1))) S (wG (c := decide (p1 < 0)) 2 false 23 rfl rfl (by kernel_rfl) hc17) rfl (by kernel_rfl) (by kernel_rfl) (bGt _ _ _ _ .i64 p1 1000000000) rfl (by decide) (fun a S => ?_)
          refine sPickF (b := decide (p1 < 0)) (.bool (decide (1000000000 < p1))) S (wN rfl) rfl (by kernel_rfl) hc17 (by kernel_rfl) rfl (by decide) (fun a S => ?_)
          exact leafL (leafT (⟨decide (1000000000 < p1), Option.some.inj h, S.fix [] [] (by decide) (by kernel_rfl) (by kernel_rfl) (by kernel_rfl)⟩))
      · obtain ⟨o14, rfl, S⟩ := hI
        have h := g16
        clear g16
        try dsimp only at h
        rcases iteSome h with ⟨hc18, h⟩ | ⟨hc18, h⟩
        · refine sCondT (b := o14) S (by kernel_rfl) hc18 ?_
          refine sSeq (fun K19 hK19 => ?_)
          refine sRegion ?_
          refine sMove (.int .i64 2) S (wN rfl) (.inr rfl) (by kernel_rfl) rfl (by decide) (fun a S => ?_)
          refine leafL (leafT (hK19 _ _ ?_))
          obtain rfl := Option.some.inj h
          exact wp_ret (rThen (sRet (.int .i64 2) S (rsl1 rfl (rvT (t := 4) (v := .int .i64 2) S (by kernel_rfl))) ⟨(), rfl, S.mem.sel [] [] (by decide) (by kernel_rfl) (by kernel_rfl)⟩))
        · refine sCondF (b := o14) S (by kernel_rfl) hc18 ?_
          refine wp_skip (leafT (hK13 _ _ ?_))
          refine sSeq (fun K20 hK20 => ?_)
          refine sRegion ?_
          refine sMove (.int .i64 0) S (wN rfl) (.inr rfl) (by kernel_rfl) rfl (by decide) (fun a S => ?_)
          refine leafL (leafT (hK20 _ _ ?_))
          obtain rfl := Option.some.inj h
          exact wp_ret (sRet (.int .i64 0) S (rsl1 rfl (rvT (t := 4) (v := .int .i64 0) S (by kernel_rfl))) ⟨(), rfl, S.mem.sel [] [] (by decide) (by kernel_rfl) (by kernel_rfl)⟩)

end Go.Proofs.Ytjndecalogklhaa
