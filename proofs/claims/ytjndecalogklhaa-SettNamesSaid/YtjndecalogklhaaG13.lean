import Derived.Test.YtjndecalogklhaaGTy
import Derived.Test.YtjndecalogklhaaG11
import Derived.Test.YtjndecalogklhaaG39
import Derived.Test.YtjndecalogklhaaG40
namespace Go.Proofs.Ytjndecalogklhaa
open Go.RowKit
set_option linter.unusedVariables false

noncomputable def F_sett_Setts (p0 : api_Grid) (p1 : Int) : Option (api_Ratio × api_Ratio × Int) :=
  Option.bind (F_sett_Turns p0) fun r10 =>
  if r10.2.2 != 0 then
    some ((api_Ratio.mk 0 0), (api_Ratio.mk 0 0), r10.2.2)
  else
    Option.bind (α := Bool) (
      if decide (p1 < 1) then
        some true
      else
        some (decide (1000 < p1))) fun o23 =>
    if o23 then
      some ((api_Ratio.mk 0 0), (api_Ratio.mk 0 0), 2)
    else
      Option.bind (F_sett_sum (w64 (p0.W * p0.H)) r10.1) fun r31 =>
      Option.bind (F_yarn_Make (w64 (p1 * (w64 (p0.W * p0.H)))) r31) fun r33 =>
      Option.bind (F_sett_sum (w64 (p0.W * p0.H)) r10.2.1) fun r37 =>
      Option.bind (F_yarn_Make (w64 (p1 * (w64 (p0.W * p0.H)))) r37) fun r39 =>
      some (r33.1, r39.1, 0)
def c_sett_Setts_val (r : (api_Ratio × api_Ratio × Int)) (x : Value × Value) : Value := .tuple #[x.1, x.2, .int .i64 r.2.2]
def c_sett_Setts_D (r : (api_Ratio × api_Ratio × Int)) (x : Value × Value) : List Fact := [fRep r_api_Ratio x.1 r.1, fRep r_api_Ratio x.2 r.2.1]
set_option maxHeartbeats 4000000 in
set_option maxRecDepth 100000 in
theorem c_sett_Setts (E : Nat → Prop) (w0 : World) (p0 : api_Grid) (v0 : Value) (p1 : Int) (r : (api_Ratio × api_Ratio × Int)) (h : F_sett_Setts p0 p1 = some r) (S : St0 E [] w0 w0 [] [fRep r_api_Grid (v0) p0]) :
    Calls Try.prog 13 #[v0, .int .i64 p1] w0 (Ret (X := Value × Value) E [] w0 (c_sett_Setts_val r) (fun _ => []) (c_sett_Setts_D r)) := by
  unfold F_sett_Setts at h
  obtain ⟨u1, rfl, hu2⟩ := S.know (i := 0) (e := fRep r_api_Grid (v0) p0) (by kernel_rfl)
  have S := S.learn (fRep (rL rB) u1 p0.Bits) hu2
  obtain ⟨ad3, cp4, _, rfl, _⟩ := hu2
  refine sEnter (args := [.agg #[.int .i64 p0.W, .int .i64 p0.H, .slice ad3 p0.Bits.length cp4], .int .i64 p1]) 56 Try.func13 rfl rfl (by simp) S (fun a S => ?_)
  refine sSeq (fun K5 hK5 => ?_)
  refine sRegion ?_
  refine sBox (v := .agg #[.int .i64 p0.W, .int .i64 p0.H, .slice ad3 p0.Bits.length cp4]) S (wN rfl) rfl (by kernel_rfl) [.int .i64 p0.W, .int .i64 p0.H, .slice ad3 p0.Bits.length cp4] rfl rfl (by decide) (fun a b6 w S => ?_)
  refine sAlloc (.agg #[.int .i64 0, .int .i64 0]) S (wN rfl) rfl (by kernel_rfl) [.int .i64 0, .int .i64 0] rfl rfl (by decide) (fun a b7 w S => ?_)
  refine sAlloc (.agg #[.int .i64 0, .int .i64 0]) S (wN rfl) rfl (by kernel_rfl) [.int .i64 0, .int .i64 0] rfl rfl (by decide) (fun a b8 w S => ?_)
  refine sMove (.int .i64 0) S (wN rfl) (.inr rfl) (by kernel_rfl) rfl (by decide) (fun a S => ?_)
  refine leafL (leafT (hK5 _ _ ?_))
  refine sSeq (fun K9 hK9 => ?_)
  refine sRegion ?_
  refine sLoadN (p := b6) (off := 0) (T := 24) (vs := [.int .i64 p0.W, .int .i64 p0.H, .slice ad3 p0.Bits.length cp4]) 2 [.int .i64 p0.W, .int .i64 p0.H, .slice ad3 p0.Bits.length cp4] S (wN rfl) rfl (by kernel_rfl) (by kernel_rfl) (by kernel_rfl) (by kernel_rfl) rfl rfl (by decide) (fun a S => ?_)
  obtain ⟨r10, hx11, h⟩ := bindSome h
  refine sCall (X := Value × Value) (f := 11) (vs := [.agg #[.int .i64 p0.W, .int .i64 p0.H, .slice ad3 p0.Bits.length cp4]]) (val := c_sett_Turns_val r10) (B' := fun _ => []) (D' := c_sett_Turns_D r10) [] [eBox b8 34 [.int .i64 0, .int .i64 0], eBox b7 34 [.int .i64 0, .int .i64 0], eBox b6 24 [.int .i64 p0.W, .int .i64 p0.H, .slice ad3 p0.Bits.length cp4]] [fRep r_api_Grid (.agg #[.int .i64 p0.W, .int .i64 p0.H, .slice ad3 p0.Bits.length cp4]) p0] [0, 1, 2] [1] S (wN rfl) rfl callee11 (by kernel_rfl) (by decide) (by kernel_rfl) (by kernel_rfl) (fun E1 w1 S1 => c_sett_Turns E1 w1 p0 (.agg #[.int .i64 p0.W, .int .i64 p0.H, .slice ad3 p0.Bits.length cp4]) r10 hx11 S1) rfl (by decide) (fun xx a w S => ?_)
  obtain ⟨u12, u13⟩ := xx
  obtain ⟨ad14, cp15, _, rfl, _⟩ := S.mem.know (i := 0) (e := fRep (rL (rI .i64)) (u12) r10.1) (by kernel_rfl)
  obtain ⟨ad16, cp17, _, rfl, _⟩ := S.mem.know (i := 1) (e := fRep (rL (rI .i64)) (u13) r10.2.1) (by kernel_rfl)
  refine sMove (.tuple #[.slice ad14 r10.1.length cp15, .slice ad16 r10.2.1.length cp17, .int .i64 r10.2.2]) S (wN rfl) (.inl rfl) (by kernel_rfl) rfl (by decide) (fun a S => ?_)
  refine sExtract (vs := [.slice ad14 r10.1.length cp15, .slice ad16 r10.2.1.length cp17, .int .i64 r10.2.2]) (.slice ad14 r10.1.length cp15) S (wN rfl) rfl (by kernel_rfl) rfl rfl (by decide) (fun a S => ?_)
  refine sExtract (vs := [.slice ad14 r10.1.length cp15, .slice ad16 r10.2.1.length cp17, .int .i64 r10.2.2]) (.slice ad16 r10.2.1.length cp17) S (wN rfl) rfl (by kernel_rfl) rfl rfl (by decide) (fun a S => ?_)
  refine sExtract (vs := [.slice ad14 r10.1.length cp15, .slice ad16 r10.2.1.length cp17, .int .i64 r10.2.2]) (.int .i64 r10.2.2) S (wN rfl) rfl (by kernel_rfl) rfl rfl (by decide) (fun a S => ?_)
  refine sMove (.slice ad14 r10.1.length cp15) S (wN rfl) (.inr rfl) (by kernel_rfl) rfl (by decide) (fun a S => ?_)
  refine sMove (.slice ad16 r10.2.1.length cp17) S (wN rfl) (.inr rfl) (by kernel_rfl) rfl (by decide) (fun a S => ?_)
  refine sMove (.int .i64 r10.2.2) S (wN rfl) (.inr rfl) (by kernel_rfl) rfl (by decide) (fun a S => ?_)
  refine leafL (leafT (hK9 _ _ ?_))
  refine sSeq (fun K18 hK18 => ?_)
  refine sSeq (fun K19 hK19 => ?_)
  refine sRegion ?_
  refine sMove (.int .i64 r10.2.2) S (wN rfl) (.inl rfl) (by kernel_rfl) rfl (by decide) (fun a S => ?_)
  refine sBin (.bool (r10.2.2 != 0)) S (wN rfl) rfl (by kernel_rfl) (by kernel_rfl) (bNe _ _ _ _ .i64 r10.2.2 0) rfl (by decide) (fun a S => ?_)
  refine leafL (leafT (hK19 _ _ ?_))
  rcases iteSome h with ⟨hc20, h⟩ | ⟨hc20, h⟩
  · refine sCondT (b := r10.2.2 != 0) S (by kernel_rfl) hc20 ?_
    refine sSeq (fun K21 hK21 => ?_)
    refine sRegion ?_
    refine sBuild [] [.int .i64 0, .int .i64 0] S (wN rfl) rfl (by kernel_rfl) (by kernel_rfl) rfl (by decide) (fun a S => ?_)
    refine sBuild [] [.int .i64 0, .int .i64 0] S (wN rfl) rfl (by kernel_rfl) (by kernel_rfl) rfl (by decide) (fun a S => ?_)
    refine sMove (.int .i64 r10.2.2) S (wN rfl) (.inl rfl) (by kernel_rfl) rfl (by decide) (fun a S => ?_)
    refine sStore (p := b7) (off := 0) (T := 34) (vs := [.int .i64 0, .int .i64 0]) (v := .agg #[.int .i64 0, .int .i64 0]) 1 [.int .i64 0, .int .i64 0] S (wN rfl) rfl (by kernel_rfl) (by kernel_rfl) rfl (by kernel_rfl) (by kernel_rfl) rfl (by simp) rfl (fun a w S => ?_)
    refine sStore (p := b8) (off := 0) (T := 34) (vs := [.int .i64 0, .int .i64 0]) (v := .agg #[.int .i64 0, .int .i64 0]) 1 [.int .i64 0, .int .i64 0] S (wN rfl) rfl (by kernel_rfl) (by kernel_rfl) rfl (by kernel_rfl) (by kernel_rfl) rfl (by simp) rfl (fun a w S => ?_)
    refine sMove (.int .i64 r10.2.2) S (wN rfl) (.inr rfl) (by kernel_rfl) rfl (by decide) (fun a S => ?_)
    refine leafL (leafT (hK21 _ _ ?_))
    obtain rfl := Option.some.inj h
    have S := S.learn (fRep r_api_Ratio (.agg #[.int .i64 0, .int .i64 0]) (api_Ratio.mk 0 0)) rfl
    exact wp_ret (rThen (sRet (.tuple #[.agg #[.int .i64 0, .int .i64 0], .agg #[.int .i64 0, .int .i64 0], .int .i64 r10.2.2]) S (rsl3 rfl (rvN (c := 4) (t := 34) (T := 34) (p := b7) 1 [.int .i64 0, .int .i64 0] S (by kernel_rfl) (by kernel_rfl) (by kernel_rfl) (by kernel_rfl)) (rvN (c := 5) (t := 34) (T := 34) (p := b8) 0 [.int .i64 0, .int .i64 0] S (by kernel_rfl) (by kernel_rfl) (by kernel_rfl) (by kernel_rfl)) (rvT (t := 6) (v := .int .i64 r10.2.2) S (by kernel_rfl))) ⟨((.agg #[.int .i64 0, .int .i64 0]), (.agg #[.int .i64 0, .int .i64 0])), rfl, S.mem.sel [] [0, 0] (by decide) (by kernel_rfl) (by kernel_rfl)⟩))
  · refine sCondF (b := r10.2.2 != 0) S (by kernel_rfl) hc20 ?_
    refine wp_skip (leafT (hK18 _ _ ?_))
    refine sSeq (fun K22 hK22 => ?_)
    obtain ⟨t24, h, g25⟩ := bindSome h
    refine sCut (fun a w => ∃ o23, o23 = t24 ∧ St E [] w0 56 a w [(1, .int .i64 p1), (2, .pointer (some ⟨b6, 0, none⟩)), (4, .pointer (some ⟨b7, 0, none⟩)), (5, .pointer (some ⟨b8, 0, none⟩)), (7, .slice ad14 r10.1.length cp15), (8, .slice ad16 r10.2.1.length cp17), (26, .bool o23)] [eBox b6 24 [.int .i64 p0.W, .int .i64 p0.H, .slice ad3 p0.Bits.length cp4], eBox b7 34 [.int .i64 0, .int .i64 0], eBox b8 34 [.int .i64 0, .int .i64 0]] [fRep (rL (rI .i64)) (.slice ad14 r10.1.length cp15) r10.1, fRep (rL (rI .i64)) (.slice ad16 r10.2.1.length cp17) r10.2.1, fRep (rL rB) (.slice ad3 p0.Bits.length cp4) p0.Bits]) ?_ (fun a w hI => ?_)
    · refine sRegion ?_
      refine sMove (.int .i64 p1) S (wN rfl) (.inl rfl) (by kernel_rfl) rfl (by decide) (fun a S => ?_)
      refine sBin (.bool (decide (p1 < 1))) S (wN rfl) rfl (by kernel_rfl) (by kernel_rfl) (bLt _ _ _ _ .i64 p1 1) rfl (by decide) (fun a S => ?_)
      refine sMove (.bool (decide (p1 < 1))) S (wN rfl) (.inl rfl) (by kernel_rfl) rfl (by decide) (fun a S => ?_)
      rcases iteSome h with ⟨hc26, h⟩ | ⟨hc26, h⟩
      · refine sSkip (c := decide (p1 < 1)) 2 false 23 24 S rfl rfl (by kernel_rfl) hc26 rfl (by decide) (fun a S => ?_)
        refine sSkip (c := decide (p1 < 1)) 2 false 23 25 S rfl rfl (by kernel_rfl) hc26 rfl (by decide) (fun a S => ?_)
        refine sPickT (b := decide (p1 < 1)) (.bool true) S (wN rfl) rfl (by kernel_rfl) hc26 (by kernel_rfl) rfl (by decide) (fun a S => ?_)
        exact leafL (leafT (⟨true, Option.some.inj h, S.fix [2, 1, 0] [0, 1, 2] (by decide) (by kernel_rfl) (by kernel_rfl) (by kernel_rfl)⟩))
      · refine sMove (.int .i64 p1) S (wG (c := decide (p1 < 1)) 2 false 23 rfl rfl (by kernel_rfl) hc26) (.inl rfl) (by kernel_rfl) rfl (by decide) (fun a S => ?_)
        refine sBin (.bool (decide (1000 < p1))) S (wG (c := decide (p1 < 1)) 2 false 23 rfl rfl (by kernel_rfl) hc26) rfl (by kernel_rfl) (by kernel_rfl) (bGt _ _ _ _ .i64 p1 1000) rfl (by decide) (fun a S => ?_)
        refine sPickF (b := decide (p1 < 1)) (.bool (decide (1000 < p1))) S (wN rfl) rfl (by kernel_rfl) hc26 (by kernel_rfl) rfl (by decide) (fun a S => ?_)
        exact leafL (leafT (⟨decide (1000 < p1), Option.some.inj h, S.fix [2, 1, 0] [0, 1, 2] (by decide) (by kernel_rfl) (by kernel_rfl) (by kernel_rfl)⟩))
    · obtain ⟨o23, rfl, S⟩ := hI
      have h := g25
      clear g25
      try dsimp only at h
      rcases iteSome h with ⟨hc27, h⟩ | ⟨hc27, h⟩
      · refine sCondT (b := o23) S (by kernel_rfl) hc27 ?_
        refine sSeq (fun K28 hK28 => ?_)
        refine sRegion ?_
        refine sBuild [] [.int .i64 0, .int .i64 0] S (wN rfl) rfl (by kernel_rfl) (by kernel_rfl) rfl (by decide) (fun a S => ?_)
        refine sBuild [] [.int .i64 0, .int .i64 0] S (wN rfl) rfl (by kernel_rfl) (by kernel_rfl) rfl (by decide) (fun a S => ?_)
        refine sStore (p := b7) (off := 0) (T := 34) (vs := [.int .i64 0, .int .i64 0]) (v := .agg #[.int .i64 0, .int .i64 0]) 1 [.int .i64 0, .int .i64 0] S (wN rfl) rfl (by kernel_rfl) (by kernel_rfl) rfl (by kernel_rfl) (by kernel_rfl) rfl (by simp) rfl (fun a w S => ?_)
        refine sStore (p := b8) (off := 0) (T := 34) (vs := [.int .i64 0, .int .i64 0]) (v := .agg #[.int .i64 0, .int .i64 0]) 2 [.int .i64 0, .int .i64 0] S (wN rfl) rfl (by kernel_rfl) (by kernel_rfl) rfl (by kernel_rfl) (by kernel_rfl) rfl (by simp) rfl (fun a w S => ?_)
        refine sMove (.int .i64 2) S (wN rfl) (.inr rfl) (by kernel_rfl) rfl (by decide) (fun a S => ?_)
        refine leafL (leafT (hK28 _ _ ?_))
        obtain rfl := Option.some.inj h
        have S := S.learn (fRep r_api_Ratio (.agg #[.int .i64 0, .int .i64 0]) (api_Ratio.mk 0 0)) rfl
        exact wp_ret (rThen (sRet (.tuple #[.agg #[.int .i64 0, .int .i64 0], .agg #[.int .i64 0, .int .i64 0], .int .i64 2]) S (rsl3 rfl (rvN (c := 4) (t := 34) (T := 34) (p := b7) 1 [.int .i64 0, .int .i64 0] S (by kernel_rfl) (by kernel_rfl) (by kernel_rfl) (by kernel_rfl)) (rvN (c := 5) (t := 34) (T := 34) (p := b8) 0 [.int .i64 0, .int .i64 0] S (by kernel_rfl) (by kernel_rfl) (by kernel_rfl) (by kernel_rfl)) (rvT (t := 6) (v := .int .i64 2) S (by kernel_rfl))) ⟨((.agg #[.int .i64 0, .int .i64 0]), (.agg #[.int .i64 0, .int .i64 0])), rfl, S.mem.sel [] [0, 0] (by decide) (by kernel_rfl) (by kernel_rfl)⟩))
      · refine sCondF (b := o23) S (by kernel_rfl) hc27 ?_
        refine wp_skip (leafT (hK22 _ _ ?_))
        refine sSeq (fun K29 hK29 => ?_)
        refine sRegion ?_
        refine sField (b := b6) (off := 0) 0 0 S (wN rfl) rfl (by kernel_rfl) (by kernel_rfl) rfl rfl (by decide) (fun a S => ?_)
        refine sLoad1 (p := b6) (off := 0) (T := 24) (vs := [.int .i64 p0.W, .int .i64 p0.H, .slice ad3 p0.Bits.length cp4]) 0 (.int .i64 p0.W) S (wN rfl) rfl (by kernel_rfl) (by kernel_rfl) (by kernel_rfl) rfl rfl (by decide) (fun a S => ?_)
        refine sField (b := b6) (off := 0) 1 1 S (wN rfl) rfl (by kernel_rfl) (by kernel_rfl) rfl rfl (by decide) (fun a S => ?_)
        refine sLoad1 (p := b6) (off := 1) (T := 24) (vs := [.int .i64 p0.W, .int .i64 p0.H, .slice ad3 p0.Bits.length cp4]) 0 (.int .i64 p0.H) S (wN rfl) rfl (by kernel_rfl) (by kernel_rfl) (by kernel_rfl) rfl rfl (by decide) (fun a S => ?_)
        refine sBin (.int .i64 (w64 (p0.W * p0.H))) S (wN rfl) rfl (by kernel_rfl) (by kernel_rfl) (bMul _ _ _ _ p0.W p0.H) rfl (by decide) (fun a S => ?_)
        refine sMove (.int .i64 (w64 (p0.W * p0.H))) S (wN rfl) (.inr rfl) (by kernel_rfl) rfl (by decide) (fun a S => ?_)
        refine leafL (leafT (hK29 _ _ ?_))
        refine sSeq (fun K30 hK30 => ?_)
        refine sRegion ?_
        refine sMove (.int .i64 p1) S (wN rfl) (.inl rfl) (by kernel_rfl) rfl (by decide) (fun a S => ?_)
        refine sMove (.int .i64 (w64 (p0.W * p0.H))) S (wN rfl) (.inl rfl) (by kernel_rfl) rfl (by decide) (fun a S => ?_)
        refine sBin (.int .i64 (w64 (p1 * (w64 (p0.W * p0.H))))) S (wN rfl) rfl (by kernel_rfl) (by kernel_rfl) (bMul _ _ _ _ p1 (w64 (p0.W * p0.H))) rfl (by decide) (fun a S => ?_)
        refine sMove (.int .i64 (w64 (p0.W * p0.H))) S (wN rfl) (.inl rfl) (by kernel_rfl) rfl (by decide) (fun a S => ?_)
        refine sMove (.slice ad14 r10.1.length cp15) S (wN rfl) (.inl rfl) (by kernel_rfl) rfl (by decide) (fun a S => ?_)
        obtain ⟨r31, hx32, h⟩ := bindSome h
        have S1 := S.mem
        refine sCallQ (X := Unit) (f := 40) (vs := [.int .i64 (w64 (p0.W * p0.H)), .slice ad14 r10.1.length cp15]) (val := fun _ => .int .i64 r31) S (wN rfl) rfl callee40 (by kernel_rfl) (S1.quiet [0] (by kernel_rfl)) (fun E1 w1 S1 => c_sett_sum E1 w1 (w64 (p0.W * p0.H)) r10.1 (.slice ad14 r10.1.length cp15) r31 hx32 S1) rfl (by decide) (fun _ a w S => ?_)
        obtain ⟨r33, hx34, h⟩ := bindSome h
        refine sCall (X := Value) (f := 39) (vs := [.int .i64 (w64 (p1 * (w64 (p0.W * p0.H)))), .int .i64 r31]) (val := c_yarn_Make_val r33) (B' := fun _ => []) (D' := c_yarn_Make_D r33) [] [eBox b6 24 [.int .i64 p0.W, .int .i64 p0.H, .slice ad3 p0.Bits.length cp4], eBox b7 34 [.int .i64 0, .int .i64 0], eBox b8 34 [.int .i64 0, .int .i64 0]] [] [0, 1, 2] [] S (wN rfl) rfl callee39 (by kernel_rfl) (by decide) (by kernel_rfl) (by kernel_rfl) (fun E1 w1 S1 => c_yarn_Make E1 w1 (w64 (p1 * (w64 (p0.W * p0.H)))) r31 r33 hx34 S1) rfl (by decide) (fun u35 a w S => ?_)
        obtain rfl : u35 = .agg #[.int .i64 r33.1.Num, .int .i64 r33.1.Den] := S.mem.know (i := 0) (e := fRep r_api_Ratio (u35) r33.1) (by kernel_rfl)
        refine sMove (.tuple #[.agg #[.int .i64 r33.1.Num, .int .i64 r33.1.Den], .int .i64 r33.2]) S (wN rfl) (.inl rfl) (by kernel_rfl) rfl (by decide) (fun a S => ?_)
        refine sExtract (vs := [.agg #[.int .i64 r33.1.Num, .int .i64 r33.1.Den], .int .i64 r33.2]) (.agg #[.int .i64 r33.1.Num, .int .i64 r33.1.Den]) S (wN rfl) rfl (by kernel_rfl) rfl rfl (by decide) (fun a S => ?_)
        refine sExtract (vs := [.agg #[.int .i64 r33.1.Num, .int .i64 r33.1.Den], .int .i64 r33.2]) (.int .i64 r33.2) S (wN rfl) rfl (by kernel_rfl) rfl rfl (by decide) (fun a S => ?_)
        refine sStore (p := b7) (off := 0) (T := 34) (vs := [.int .i64 0, .int .i64 0]) (v := .agg #[.int .i64 r33.1.Num, .int .i64 r33.1.Den]) 1 [.int .i64 r33.1.Num, .int .i64 r33.1.Den] S (wN rfl) rfl (by kernel_rfl) (by kernel_rfl) rfl (by kernel_rfl) (by kernel_rfl) rfl (by simp) rfl (fun a w S => ?_)
        refine leafL (leafT (hK30 _ _ ?_))
        refine sSeq (fun K36 hK36 => ?_)
        refine sRegion ?_
        refine sMove (.int .i64 p1) S (wN rfl) (.inl rfl) (by kernel_rfl) rfl (by decide) (fun a S => ?_)
        refine sMove (.int .i64 (w64 (p0.W * p0.H))) S (wN rfl) (.inl rfl) (by kernel_rfl) rfl (by decide) (fun a S => ?_)
        refine sBin (.int .i64 (w64 (p1 * (w64 (p0.W * p0.H))))) S (wN rfl) rfl (by kernel_rfl) (by kernel_rfl) (bMul _ _ _ _ p1 (w64 (p0.W * p0.H))) rfl (by decide) (fun a S => ?_)
        refine sMove (.int .i64 (w64 (p0.W * p0.H))) S (wN rfl) (.inl rfl) (by kernel_rfl) rfl (by decide) (fun a S => ?_)
        refine sMove (.slice ad16 r10.2.1.length cp17) S (wN rfl) (.inl rfl) (by kernel_rfl) rfl (by decide) (fun a S => ?_)
        obtain ⟨r37, hx38, h⟩ := bindSome h
        have S1 := S.mem
        refine sCallQ (X := Unit) (f := 40) (vs := [.int .i64 (w64 (p0.W * p0.H)), .slice ad16 r10.2.1.length cp17]) (val := fun _ => .int .i64 r37) S (wN rfl) rfl callee40 (by kernel_rfl) (S1.quiet [2] (by kernel_rfl)) (fun E1 w1 S1 => c_sett_sum E1 w1 (w64 (p0.W * p0.H)) r10.2.1 (.slice ad16 r10.2.1.length cp17) r37 hx38 S1) rfl (by decide) (fun _ a w S => ?_)
        obtain ⟨r39, hx40, h⟩ := bindSome h
        refine sCall (X := Value) (f := 39) (vs := [.int .i64 (w64 (p1 * (w64 (p0.W * p0.H)))), .int .i64 r37]) (val := c_yarn_Make_val r39) (B' := fun _ => []) (D' := c_yarn_Make_D r39) [] [eBox b7 34 [.int .i64 r33.1.Num, .int .i64 r33.1.Den], eBox b6 24 [.int .i64 p0.W, .int .i64 p0.H, .slice ad3 p0.Bits.length cp4], eBox b8 34 [.int .i64 0, .int .i64 0]] [] [0, 1, 2] [] S (wN rfl) rfl callee39 (by kernel_rfl) (by decide) (by kernel_rfl) (by kernel_rfl) (fun E1 w1 S1 => c_yarn_Make E1 w1 (w64 (p1 * (w64 (p0.W * p0.H)))) r37 r39 hx40 S1) rfl (by decide) (fun u41 a w S => ?_)
        obtain rfl : u41 = .agg #[.int .i64 r39.1.Num, .int .i64 r39.1.Den] := S.mem.know (i := 0) (e := fRep r_api_Ratio (u41) r39.1) (by kernel_rfl)
        refine sMove (.tuple #[.agg #[.int .i64 r39.1.Num, .int .i64 r39.1.Den], .int .i64 r39.2]) S (wN rfl) (.inl rfl) (by kernel_rfl) rfl (by decide) (fun a S => ?_)
        refine sExtract (vs := [.agg #[.int .i64 r39.1.Num, .int .i64 r39.1.Den], .int .i64 r39.2]) (.agg #[.int .i64 r39.1.Num, .int .i64 r39.1.Den]) S (wN rfl) rfl (by kernel_rfl) rfl rfl (by decide) (fun a S => ?_)
        refine sExtract (vs := [.agg #[.int .i64 r39.1.Num, .int .i64 r39.1.Den], .int .i64 r39.2]) (.int .i64 r39.2) S (wN rfl) rfl (by kernel_rfl) rfl rfl (by decide) (fun a S => ?_)
        refine sStore (p := b8) (off := 0) (T := 34) (vs := [.int .i64 0, .int .i64 0]) (v := .agg #[.int .i64 r39.1.Num, .int .i64 r39.1.Den]) 2 [.int .i64 r39.1.Num, .int .i64 r39.1.Den] S (wN rfl) rfl (by kernel_rfl) (by kernel_rfl) rfl (by kernel_rfl) (by kernel_rfl) rfl (by simp) rfl (fun a w S => ?_)
        refine leafL (leafT (hK36 _ _ ?_))
        refine sSeq (fun K42 hK42 => ?_)
        refine sDraw (nf := [2, 3]) (W := [(0, 54, .agg #[.int .i64 r33.1.Num, .int .i64 r33.1.Den]), (1, 55, .agg #[.int .i64 r39.1.Num, .int .i64 r39.1.Den])]) (by kernel_rfl) S ?_
        refine node_by (A := [[], [], [0], [0, 1, 2], [0, 1, 2, 3]]) (nf := [2, 3]) (Y := []) (W := [(0, 54, .agg #[.int .i64 r33.1.Num, .int .i64 r33.1.Den]), (1, 55, .agg #[.int .i64 r39.1.Num, .int .i64 r39.1.Den])]) 5 (by kernel_rfl) (by kernel_rfl) (by kernel_rfl) (by kernel_rfl) (by kernel_rfl) [0, 1] (by kernel_rfl) (by decide) (by decide) (aF 0 4 (by decide) ?_ (aF 1 3 (by decide) ?_ (aN 2 2 (by decide) ?_ (aB 3 1 2 (by decide) (aE 4 0 2 (by decide) (trivial)))))) [] (fun q hq => by cases hq) (fun hY => absurd (hY 2 (by decide)) (by decide))
        · refine fI 54 (.agg #[.int .i64 r33.1.Num, .int .i64 r33.1.Den]) [(4, .pointer (some ⟨b7, 0, none⟩))] 0 [none] rfl rfl (by kernel_rfl) rfl (by kernel_rfl) (by kernel_rfl) fun G a w S => ?_
          refine sLoadN (p := b7) (off := 0) (T := 34) (vs := [.int .i64 r33.1.Num, .int .i64 r33.1.Den]) 1 [.int .i64 r33.1.Num, .int .i64 r33.1.Den] S (wN rfl) rfl (by kernel_rfl) (by kernel_rfl) (by kernel_rfl) (by kernel_rfl) rfl rfl (by decide) (fun a S => ?_)
          exact leafL ⟨rfl, S⟩
        · refine fI 55 (.agg #[.int .i64 r39.1.Num, .int .i64 r39.1.Den]) [(5, .pointer (some ⟨b8, 0, none⟩))] 1 [none] rfl rfl (by kernel_rfl) rfl (by kernel_rfl) (by kernel_rfl) fun G a w S => ?_
          refine sLoadN (p := b8) (off := 0) (T := 34) (vs := [.int .i64 r39.1.Num, .int .i64 r39.1.Den]) 0 [.int .i64 r39.1.Num, .int .i64 r39.1.Den] S (wN rfl) rfl (by kernel_rfl) (by kernel_rfl) (by kernel_rfl) (by kernel_rfl) rfl rfl (by decide) (fun a S => ?_)
          exact leafL ⟨rfl, S⟩
        · refine ⟨_, [(4, .pointer (some ⟨b7, 0, none⟩)), (54, .agg #[.int .i64 r33.1.Num, .int .i64 r33.1.Den])], rfl, (srcs_of [none, some 0] rfl (by kernel_rfl) (by kernel_rfl)), fun G a w S => ?_⟩
          refine sStore (p := b7) (off := 0) (T := 34) (vs := [.int .i64 r33.1.Num, .int .i64 r33.1.Den]) (v := .agg #[.int .i64 r33.1.Num, .int .i64 r33.1.Den]) 1 [.int .i64 r33.1.Num, .int .i64 r33.1.Den] S (wN rfl) rfl (by kernel_rfl) (by kernel_rfl) rfl (by kernel_rfl) (by kernel_rfl) rfl (by simp) rfl (fun a w S => ?_)
          refine leafL ⟨rfl, _, _, .inr ⟨[], rfl, S, hz_of (by kernel_rfl), ?_⟩⟩
          refine node_by (A := [[], [], [0], [0, 1, 2], [0, 1, 2, 3]]) (nf := [2, 3]) (Y := [2]) 5 (by kernel_rfl) (by kernel_rfl) (by kernel_rfl) (by kernel_rfl) (by kernel_rfl) [0, 1] (by kernel_rfl) (by decide) (by decide) (aD 0 4 2 (by decide) (aF 1 3 (by decide) ?_ (aY 2 2 (by decide) (aN 3 1 (by decide) ?_ (aE 4 0 3 (by decide) (trivial)))))) [] (fun q hq => by cases hq) (fun hY => absurd (hY 3 (by decide)) (by decide))
          · refine fI 55 (.agg #[.int .i64 r39.1.Num, .int .i64 r39.1.Den]) [(5, .pointer (some ⟨b8, 0, none⟩))] 1 [none] rfl rfl (by kernel_rfl) rfl (by kernel_rfl) (by kernel_rfl) fun G a w S => ?_
            refine sLoadN (p := b8) (off := 0) (T := 34) (vs := [.int .i64 r39.1.Num, .int .i64 r39.1.Den]) 1 [.int .i64 r39.1.Num, .int .i64 r39.1.Den] S (wN rfl) rfl (by kernel_rfl) (by kernel_rfl) (by kernel_rfl) (by kernel_rfl) rfl rfl (by decide) (fun a S => ?_)
            exact leafL ⟨rfl, S⟩
          · refine ⟨_, [(5, .pointer (some ⟨b8, 0, none⟩)), (55, .agg #[.int .i64 r39.1.Num, .int .i64 r39.1.Den])], rfl, (srcs_of [none, some 1] rfl (by kernel_rfl) (by kernel_rfl)), fun G a w S => ?_⟩
            refine sStore (p := b8) (off := 0) (T := 34) (vs := [.int .i64 r39.1.Num, .int .i64 r39.1.Den]) (v := .agg #[.int .i64 r39.1.Num, .int .i64 r39.1.Den]) 1 [.int .i64 r39.1.Num, .int .i64 r39.1.Den] S (wN rfl) rfl (by kernel_rfl) (by kernel_rfl) rfl (by kernel_rfl) (by kernel_rfl) rfl (by simp) rfl (fun a w S => ?_)
            refine leafL ⟨rfl, _, _, .inr ⟨[(4, 6, .int .i64 0)], rfl, S, hz_of (by kernel_rfl), ?_⟩⟩
            refine node_by (A := [[], [], [0], [0, 1, 2], [0, 1, 2, 3]]) (nf := [2, 3]) (Y := [3, 2]) 5 (by kernel_rfl) (by kernel_rfl) (by kernel_rfl) (by kernel_rfl) (by kernel_rfl) [4, 0, 1] (by kernel_rfl) (by decide) (by decide) (aD 0 4 3 (by decide) (aD 1 3 3 (by decide) (aY 2 2 (by decide) (aY 3 1 (by decide) (aF 4 0 (by decide) ?_ (trivial)))))) [(4, .pointer (some ⟨b7, 0, none⟩)), (5, .pointer (some ⟨b8, 0, none⟩)), (6, .int .i64 0)] (fin_of [none, none, some 0] rfl (by kernel_rfl) (by kernel_rfl)) (fun _ a w S => ?_)
            · refine fI 6 (.int .i64 0) [] 0 [] rfl rfl (by kernel_rfl) rfl (by kernel_rfl) (by kernel_rfl) fun G a w S => ?_
              refine sMove (.int .i64 0) S (wN rfl) (.inr rfl) (by kernel_rfl) rfl (by decide) (fun a S => ?_)
              exact leafL ⟨rfl, S⟩
            · refine leafT (hK42 _ _ ?_)
              obtain rfl := Option.some.inj h
              exact wp_ret (sRet (.tuple #[.agg #[.int .i64 r33.1.Num, .int .i64 r33.1.Den], .agg #[.int .i64 r39.1.Num, .int .i64 r39.1.Den], .int .i64 0]) S (rsl3 rfl (rvN (c := 4) (t := 34) (T := 34) (p := b7) 1 [.int .i64 r33.1.Num, .int .i64 r33.1.Den] S (by kernel_rfl) (by kernel_rfl) (by kernel_rfl) (by kernel_rfl)) (rvN (c := 5) (t := 34) (T := 34) (p := b8) 0 [.int .i64 r39.1.Num, .int .i64 r39.1.Den] S (by kernel_rfl) (by kernel_rfl) (by kernel_rfl) (by kernel_rfl)) (rvT (t := 6) (v := .int .i64 0) S (by kernel_rfl))) ⟨((.agg #[.int .i64 r33.1.Num, .int .i64 r33.1.Den]), (.agg #[.int .i64 r39.1.Num, .int .i64 r39.1.Den])), rfl, S.mem.sel [] [1, 0] (by decide) (by kernel_rfl) (by kernel_rfl)⟩)

end Go.Proofs.Ytjndecalogklhaa
