import Derived.Test.YtmedbnjhgkcndaaGTy
namespace Go.Proofs.Ytmedbnjhgkcndaa
open Go.RowKit
set_option linter.unusedVariables false

noncomputable def F_raddleref35_Check (p0 : api_Gauge) : Option Int :=
  Option.bind (α := Bool) (
    if decide (p0.Stitches < 1) then
      some true
    else
      if decide (10000 < p0.Stitches) then
        some true
      else
        if decide (p0.Width < 1) then
          some true
        else
          if decide (10000 < p0.Width) then
            some true
          else
            if decide (p0.Rows < 1) then
              some true
            else
              if decide (10000 < p0.Rows) then
                some true
              else
                if decide (p0.Height < 1) then
                  some true
                else
                  some (decide (10000 < p0.Height))) fun o4 =>
  if o4 then
    some 8
  else
    some 0
set_option maxHeartbeats 4000000 in
set_option maxRecDepth 100000 in
theorem c_raddleref35_Check (E : Nat → Prop) (w0 : World) (p0 : api_Gauge) (v0 : Value) (r : Int) (h : F_raddleref35_Check p0 = some r) (S : St0 E [] w0 w0 [] [fRep r_api_Gauge v0 p0]) :
    Calls Try.prog 82 #[v0] w0 (Ret (X := Unit) E [] w0 (fun _ => .int .i64 r) (fun _ => []) (fun _ => [])) := by
  unfold F_raddleref35_Check at h
  obtain rfl : v0 = .agg #[.int .i64 p0.Stitches, .int .i64 p0.Width, .int .i64 p0.Rows, .int .i64 p0.Height] := S.know (i := 0) (e := fRep r_api_Gauge (v0) p0) (by kernel_rfl)
  refine sEnter (args := [.agg #[.int .i64 p0.Stitches, .int .i64 p0.Width, .int .i64 p0.Rows, .int .i64 p0.Height]]) 41 Try.func82 rfl rfl (by simp) S (fun a S => ?_)
  refine sSeq (fun K1 hK1 => ?_)
  refine sRegion ?_
  refine sBox (v := .agg #[.int .i64 p0.Stitches, .int .i64 p0.Width, .int .i64 p0.Rows, .int .i64 p0.Height]) S (wN rfl) rfl (by kernel_rfl) [.int .i64 p0.Stitches, .int .i64 p0.Width, .int .i64 p0.Rows, .int .i64 p0.Height] rfl rfl (by decide) (fun a b2 w S => ?_)
  refine sMove (.int .i64 0) S (wN rfl) (.inr rfl) (by kernel_rfl) rfl (by decide) (fun a S => ?_)
  refine leafL (leafT (hK1 _ _ ?_))
  refine sSeq (fun K3 hK3 => ?_)
  obtain ⟨t5, h, g6⟩ := bindSome h
  refine sCut (fun a w => ∃ o4, o4 = t5 ∧ St E [] w0 41 a w [(40, .bool o4)] [] []) ?_ (fun a w hI => ?_)
  · refine sRegion ?_
    refine sField (b := b2) (off := 0) 0 0 S (wN rfl) rfl (by kernel_rfl) (by kernel_rfl) rfl rfl (by decide) (fun a S => ?_)
    refine sLoad1 (p := b2) (off := 0) (T := 23) (vs := [.int .i64 p0.Stitches, .int .i64 p0.Width, .int .i64 p0.Rows, .int .i64 p0.Height]) 0 (.int .i64 p0.Stitches) S (wN rfl) rfl (by kernel_rfl) (by kernel_rfl) (by kernel_rfl) rfl rfl (by decide) (fun a S => ?_)
    refine sBin (.bool (decide (p0.Stitches < 1))) S (wN rfl) rfl (by kernel_rfl) (by kernel_rfl) (bLt _ _ _ _ .i64 p0.Stitches 1) rfl (by decide) (fun a S => ?_)
    refine sMove (.bool (decide (p0.Stitches < 1))) S (wN rfl) (.inl rfl) (by kernel_rfl) rfl (by decide) (fun a S => ?_)
    rcases iteSome h with ⟨hc7, h⟩ | ⟨hc7, h⟩
    · refine sSkip (c := decide (p0.Stitches < 1)) 3 false 6 7 S rfl rfl (by kernel_rfl) hc7 rfl (by decide) (fun a S => ?_)
      refine sSkip (c := decide (p0.Stitches < 1)) 3 false 6 8 S rfl rfl (by kernel_rfl) hc7 rfl (by decide) (fun a S => ?_)
      refine sSkip (c := decide (p0.Stitches < 1)) 3 false 6 9 S rfl rfl (by kernel_rfl) hc7 rfl (by decide) (fun a S => ?_)
      refine sPickT (b := decide (p0.Stitches < 1)) (.bool true) S (wN rfl) rfl (by kernel_rfl) hc7 (by kernel_rfl) rfl (by decide) (fun a S => ?_)
      refine sMove (.bool true) S (wN rfl) (.inl rfl) (by kernel_rfl) rfl (by decide) (fun a S => ?_)
      refine sSkip (c := true) 8 false 11 12 S rfl rfl (by kernel_rfl) rfl rfl (by decide) (fun a S => ?_)
      refine sSkip (c := true) 8 false 11 13 S rfl rfl (by kernel_rfl) rfl rfl (by decide) (fun a S => ?_)
      refine sSkip (c := true) 8 false 11 14 S rfl rfl (by kernel_rfl) rfl rfl (by decide) (fun a S => ?_)
      refine sPickT (b := true) (.bool true) S (wN rfl) rfl (by kernel_rfl) rfl (by kernel_rfl) rfl (by decide) (fun a S => ?_)
      refine sMove (.bool true) S (wN rfl) (.inl rfl) (by kernel_rfl) rfl (by decide) (fun a S => ?_)
      refine sSkip (c := true) 13 false 16 17 S rfl rfl (by kernel_rfl) rfl rfl (by decide) (fun a S => ?_)
      refine sSkip (c := true) 13 false 16 18 S rfl rfl (by kernel_rfl) rfl rfl (by decide) (fun a S => ?_)
      refine sSkip (c := true) 13 false 16 19 S rfl rfl (by kernel_rfl) rfl rfl (by decide) (fun a S => ?_)
      refine sPickT (b := true) (.bool true) S (wN rfl) rfl (by kernel_rfl) rfl (by kernel_rfl) rfl (by decide) (fun a S => ?_)
      refine sMove (.bool true) S (wN rfl) (.inl rfl) (by kernel_rfl) rfl (by decide) (fun a S => ?_)
      refine sSkip (c := true) 18 false 21 22 S rfl rfl (by kernel_rfl) rfl rfl (by decide) (fun a S => ?_)
      refine sSkip (c := true) 18 false 21 23 S rfl rfl (by kernel_rfl) rfl rfl (by decide) (fun a S => ?_)
      refine sSkip (c := true) 18 false 21 24 S rfl rfl (by kernel_rfl) rfl rfl (by decide) (fun a S => ?_)
      refine sPickT (b := true) (.bool true) S (wN rfl) rfl (by kernel_rfl) rfl (by kernel_rfl) rfl (by decide) (fun a S => ?_)
      refine sMove (.bool true) S (wN rfl) (.inl rfl) (by kernel_rfl) rfl (by decide) (fun a S => ?_)
      refine sSkip (c := true) 23 false 26 27 S rfl rfl (by kernel_rfl) rfl rfl (by decide) (fun a S => ?_)
      refine sSkip (c := true) 23 false 26 28 S rfl rfl (by kernel_rfl) rfl rfl (by decide) (fun a S => ?_)
      refine sSkip (c := true) 23 false 26 29 S rfl rfl (by kernel_rfl) rfl rfl (by decide) (fun a S => ?_)
      refine sPickT (b := true) (.bool true) S (wN rfl) rfl (by kernel_rfl) rfl (by kernel_rfl) rfl (by decide) (fun a S => ?_)
      refine sMove (.bool true) S (wN rfl) (.inl rfl) (by kernel_rfl) rfl (by decide) (fun a S => ?_)
      refine sSkip (c := true) 28 false 31 32 S rfl rfl (by kernel_rfl) rfl rfl (by decide) (fun a S => ?_)
      refine sSkip (c := true) 28 false 31 33 S rfl rfl (by kernel_rfl) rfl rfl (by decide) (fun a S => ?_)
      refine sSkip (c := true) 28 false 31 34 S rfl rfl (by kernel_rfl) rfl rfl (by decide) (fun a S => ?_)
      refine sPickT (b := true) (.bool true) S (wN rfl) rfl (by kernel_rfl) rfl (by kernel_rfl) rfl (by decide) (fun a S => ?_)
      refine sMove (.bool true) S (wN rfl) (.inl rfl) (by kernel_rfl) rfl (by decide) (fun a S => ?_)
      refine sSkip (c := true) 33 false 36 37 S rfl rfl (by kernel_rfl) rfl rfl (by decide) (fun a S => ?_)
      refine sSkip (c := true) 33 false 36 38 S rfl rfl (by kernel_rfl) rfl rfl (by decide) (fun a S => ?_)
      refine sSkip (c := true) 33 false 36 39 S rfl rfl (by kernel_rfl) rfl rfl (by decide) (fun a S => ?_)
      refine sPickT (b := true) (.bool true) S (wN rfl) rfl (by kernel_rfl) rfl (by kernel_rfl) rfl (by decide) (fun a S => ?_)
      exact leafL (leafT (⟨true, Option.some.inj h, S.fix [] [] (by decide) (by kernel_rfl) (by kernel_rfl) (by kernel_rfl)⟩))
    · refine sField (b := b2) (off := 0) 0 0 S (wG (c := decide (p0.Stitches < 1)) 3 false 6 rfl rfl (by kernel_rfl) hc7) rfl (by kernel_rfl) (by kernel_rfl) rfl rfl (by decide) (fun a S => ?_)
      refine sLoad1 (p := b2) (off := 0) (T := 23) (vs := [.int .i64 p0.Stitches, .int .i64 p0.Width, .int .i64 p0.Rows, .int .i64 p0.Height]) 0 (.int .i64 p0.Stitches) S (wG (c := decide (p0.Stitches < 1)) 3 false 6 rfl rfl (by kernel_rfl) hc7) rfl (by kernel_rfl) (by kernel_rfl) (by kernel_rfl) rfl rfl (by decide) (fun a S => ?_)
      refine sBin (.bool (decide (10000 < p0.Stitches))) S (wG (c := decide (p0.Stitches < 1)) 3 false 6 rfl rfl (by kernel_rfl) hc7) rfl (by kernel_rfl) (by kernel_rfl) (bGt _ _ _ _ .i64 p0.Stitches 10000) rfl (by decide) (fun a S => ?_)
      refine sPickF (b := decide (p0.Stitches < 1)) (.bool (decide (10000 < p0.Stitches))) S (wN rfl) rfl (by kernel_rfl) hc7 (by kernel_rfl) rfl (by decide) (fun a S => ?_)
      refine sMove (.bool (decide (10000 < p0.Stitches))) S (wN rfl) (.inl rfl) (by kernel_rfl) rfl (by decide) (fun a S => ?_)
      rcases iteSome h with ⟨hc8, h⟩ | ⟨hc8, h⟩
      · refine sSkip (c := decide (10000 < p0.Stitches)) 8 false 11 12 S rfl rfl (by kernel_rfl) hc8 rfl (by decide) (fun a S => ?_)
        refine sSkip (c := decide (10000 < p0.Stitches)) 8 false 11 13 S rfl rfl (by kernel_rfl) hc8 rfl (by decide) (fun a S => ?_)
        refine sSkip (c := decide (10000 < p0.Stitches)) 8 false 11 14 S rfl rfl (by kernel_rfl) hc8 rfl (by decide) (fun a S => ?_)
        refine sPickT (b := decide (10000 < p0.Stitches)) (.bool true) S (wN rfl) rfl (by kernel_rfl) hc8 (by kernel_rfl) rfl (by decide) (fun a S => ?_)
        refine sMove (.bool true) S (wN rfl) (.inl rfl) (by kernel_rfl) rfl (by decide) (fun a S => ?_)
        refine sSkip (c := true) 13 false 16 17 S rfl rfl (by kernel_rfl) rfl rfl (by decide) (fun a S => ?_)
        refine sSkip (c := true) 13 false 16 18 S rfl rfl (by kernel_rfl) rfl rfl (by decide) (fun a S => ?_)
        refine sSkip (c := true) 13 false 16 19 S rfl rfl (by kernel_rfl) rfl rfl (by decide) (fun a S => ?_)
        refine sPickT (b := true) (.bool true) S (wN rfl) rfl (by kernel_rfl) rfl (by kernel_rfl) rfl (by decide) (fun a S => ?_)
        refine sMove (.bool true) S (wN rfl) (.inl rfl) (by kernel_rfl) rfl (by decide) (fun a S => ?_)
        refine sSkip (c := true) 18 false 21 22 S rfl rfl (by kernel_rfl) rfl rfl (by decide) (fun a S => ?_)
        refine sSkip (c := true) 18 false 21 23 S rfl rfl (by kernel_rfl) rfl rfl (by decide) (fun a S => ?_)
        refine sSkip (c := true) 18 false 21 24 S rfl rfl (by kernel_rfl) rfl rfl (by decide) (fun a S => ?_)
        refine sPickT (b := true) (.bool true) S (wN rfl) rfl (by kernel_rfl) rfl (by kernel_rfl) rfl (by decide) (fun a S => ?_)
        refine sMove (.bool true) S (wN rfl) (.inl rfl) (by kernel_rfl) rfl (by decide) (fun a S => ?_)
        refine sSkip (c := true) 23 false 26 27 S rfl rfl (by kernel_rfl) rfl rfl (by decide) (fun a S => ?_)
        refine sSkip (c := true) 23 false 26 28 S rfl rfl (by kernel_rfl) rfl rfl (by decide) (fun a S => ?_)
        refine sSkip (c := true) 23 false 26 29 S rfl rfl (by kernel_rfl) rfl rfl (by decide) (fun a S => ?_)
        refine sPickT (b := true) (.bool true) S (wN rfl) rfl (by kernel_rfl) rfl (by kernel_rfl) rfl (by decide) (fun a S => ?_)
        refine sMove (.bool true) S (wN rfl) (.inl rfl) (by kernel_rfl) rfl (by decide) (fun a S => ?_)
        refine sSkip (c := true) 28 false 31 32 S rfl rfl (by kernel_rfl) rfl rfl (by decide) (fun a S => ?_)
        refine sSkip (c := true) 28 false 31 33 S rfl rfl (by kernel_rfl) rfl rfl (by decide) (fun a S => ?_)
        refine sSkip (c := true) 28 false 31 34 S rfl rfl (by kernel_rfl) rfl rfl (by decide) (fun a S => ?_)
        refine sPickT (b := true) (.bool true) S (wN rfl) rfl (by kernel_rfl) rfl (by kernel_rfl) rfl (by decide) (fun a S => ?_)
        refine sMove (.bool true) S (wN rfl) (.inl rfl) (by kernel_rfl) rfl (by decide) (fun a S => ?_)
        refine sSkip (c := true) 33 false 36 37 S rfl rfl (by kernel_rfl) rfl rfl (by decide) (fun a S => ?_)
        refine sSkip (c := true) 33 false 36 38 S rfl rfl (by kernel_rfl) rfl rfl (by decide) (fun a S => ?_)
        refine sSkip (c := true) 33 false 36 39 S rfl rfl (by kernel_rfl) rfl rfl (by decide) (fun a S => ?_)
        refine sPickT (b := true) (.bool true) S (wN rfl) rfl (by kernel_rfl) rfl (by kernel_rfl) rfl (by decide) (fun a S => ?_)
        exact leafL (leafT (⟨true, Option.some.inj h, S.fix [] [] (by decide) (by kernel_rfl) (by kernel_rfl) (by kernel_rfl)⟩))
      · refine sField (b := b2) (off := 0) 1 1 S (wG (c := decide (10000 < p0.Stitches)) 8 false 11 rfl rfl (by kernel_rfl) hc8) rfl (by kernel_rfl) (by kernel_rfl) rfl rfl (by decide) (fun a S => ?_)
        refine sLoad1 (p := b2) (off := 1) (T := 23) (vs := [.int .i64 p0.Stitches, .int .i64 p0.Width, .int .i64 p0.Rows, .int .i64 p0.Height]) 0 (.int .i64 p0.Width) S (wG (c := decide (10000 < p0.Stitches)) 8 false 11 rfl rfl (by kernel_rfl) hc8) rfl (by kernel_rfl) (by kernel_rfl) (by kernel_rfl) rfl rfl (by decide) (fun a S => ?_)
        refine sBin (.bool (decide (p0.Width < 1))) S (wG (c := decide (10000 < p0.Stitches)) 8 false 11 rfl rfl (by kernel_rfl) hc8) rfl (by kernel_rfl) (by kernel_rfl) (bLt _ _ _ _ .i64 p0.Width 1) rfl (by decide) (fun a S => ?_)
        refine sPickF (b := decide (10000 < p0.Stitches)) (.bool (decide (p0.Width < 1))) S (wN rfl) rfl (by kernel_rfl) hc8 (by kernel_rfl) rfl (by decide) (fun a S => ?_)
        refine sMove (.bool (decide (p0.Width < 1))) S (wN rfl) (.inl rfl) (by kernel_rfl) rfl (by decide) (fun a S => ?_)
        rcases iteSome h with ⟨hc9, h⟩ | ⟨hc9, h⟩
        · refine sSkip (c := decide (p0.Width < 1)) 13 false 16 17 S rfl rfl (by kernel_rfl) hc9 rfl (by decide) (fun a S => ?_)
          refine sSkip (c := decide (p0.Width < 1)) 13 false 16 18 S rfl rfl (by kernel_rfl) hc9 rfl (by decide) (fun a S => ?_)
          refine sSkip (c := decide (p0.Width < 1)) 13 false 16 19 S rfl rfl (by kernel_rfl) hc9 rfl (by decide) (fun a S => ?_)
          refine sPickT (b := decide (p0.Width < 1)) (.bool true) S (wN rfl) rfl (by kernel_rfl) hc9 (by kernel_rfl) rfl (by decide) (fun a S => ?_)
          refine sMove (.bool true) S (wN rfl) (.inl rfl) (by kernel_rfl) rfl (by decide) (fun a S => ?_)
          refine sSkip (c := true) 18 false 21 22 S rfl rfl (by kernel_rfl) rfl rfl (by decide) (fun a S => ?_)
          refine sSkip (c := true) 18 false 21 23 S rfl rfl (by kernel_rfl) rfl rfl (by decide) (fun a S => ?_)
          refine sSkip (c := true) 18 false 21 24 S rfl rfl (by kernel_rfl) rfl rfl (by decide) (fun a S => ?_)
          refine sPickT (b := true) (.bool true) S (wN rfl) rfl (by kernel_rfl) rfl (by kernel_rfl) rfl (by decide) (fun a S => ?_)
          refine sMove (.bool true) S (wN rfl) (.inl rfl) (by kernel_rfl) rfl (by decide) (fun a S => ?_)
          refine sSkip (c := true) 23 false 26 27 S rfl rfl (by kernel_rfl) rfl rfl (by decide) (fun a S => ?_)
          refine sSkip (c := true) 23 false 26 28 S rfl rfl (by kernel_rfl) rfl rfl (by decide) (fun a S => ?_)
          refine sSkip (c := true) 23 false 26 29 S rfl rfl (by kernel_rfl) rfl rfl (by decide) (fun a S => ?_)
          refine sPickT (b := true) (.bool true) S (wN rfl) rfl (by kernel_rfl) rfl (by kernel_rfl) rfl (by decide) (fun a S => ?_)
          refine sMove (.bool true) S (wN rfl) (.inl rfl) (by kernel_rfl) rfl (by decide) (fun a S => ?_)
          refine sSkip (c := true) 28 false 31 32 S rfl rfl (by kernel_rfl) rfl rfl (by decide) (fun a S => ?_)
          refine sSkip (c := true) 28 false 31 33 S rfl rfl (by kernel_rfl) rfl rfl (by decide) (fun a S => ?_)
          refine sSkip (c := true) 28 false 31 34 S rfl rfl (by kernel_rfl) rfl rfl (by decide) (fun a S => ?_)
          refine sPickT (b := true) (.bool true) S (wN rfl) rfl (by kernel_rfl) rfl (by kernel_rfl) rfl (by decide) (fun a S => ?_)
          refine sMove (.bool true) S (wN rfl) (.inl rfl) (by kernel_rfl) rfl (by decide) (fun a S => ?_)
          refine sSkip (c := true) 33 false 36 37 S rfl rfl (by kernel_rfl) rfl rfl (by decide) (fun a S => ?_)
          refine sSkip (c := true) 33 false 36 38 S rfl rfl (by kernel_rfl) rfl rfl (by decide) (fun a S => ?_)
          refine sSkip (c := true) 33 false 36 39 S rfl rfl (by kernel_rfl) rfl rfl (by decide) (fun a S => ?_)
          refine sPickT (b := true) (.bool true) S (wN rfl) rfl (by kernel_rfl) rfl (by kernel_rfl) rfl (by decide) (fun a S => ?_)
          exact leafL (leafT (⟨true, Option.some.inj h, S.fix [] [] (by decide) (by kernel_rfl) (by kernel_rfl) (by kernel_rfl)⟩))
        · refine sField (b := b2) (off := 0) 1 1 S (wG (c := decide (p0.Width < 1)) 13 false 16 rfl rfl (by kernel_rfl) hc9) rfl (by kernel_rfl) (by kernel_rfl) rfl rfl (by decide) (fun a S => ?_)
          refine sLoad1 (p := b2) (off := 1) (T := 23) (vs := [.int .i64 p0.Stitches, .int .i64 p0.Width, .int .i64 p0.Rows, .int .i64 p0.Height]) 0 (.int .i64 p0.Width) S (wG (c := decide (p0.Width < 1)) 13 false 16 rfl rfl (by kernel_rfl) hc9) rfl (by kernel_rfl) (by kernel_rfl) (by kernel_rfl) rfl rfl (by decide) (fun a S => ?_)
          refine sBin (.bool (decide (10000 < p0.Width))) S (wG (c := decide (p0.Width < 1)) 13 false 16 rfl rfl (by kernel_rfl) hc9) rfl (by kernel_rfl) (by kernel_rfl) (bGt _ _ _ _ .i64 p0.Width 10000) rfl (by decide) (fun a S => ?_)
          refine sPickF (b := decide (p0.Width < 1)) (.bool (decide (10000 < p0.Width))) S (wN rfl) rfl (by kernel_rfl) hc9 (by kernel_rfl) rfl (by decide) (fun a S => ?_)
          refine sMove (.bool (decide (10000 < p0.Width))) S (wN rfl) (.inl rfl) (by kernel_rfl) rfl (by decide) (fun a S => ?_)
          rcases iteSome h with ⟨hc10, h⟩ | ⟨hc10, h⟩
          · refine sSkip (c := decide (10000 < p0.Width)) 18 false 21 22 S rfl rfl (by kernel_rfl) hc10 rfl (by decide) (fun a S => ?_)
            refine sSkip (c := decide (10000 < p0.Width)) 18 false 21 23 S rfl rfl (by kernel_rfl) hc10 rfl (by decide) (fun a S => ?_)
            refine sSkip (c := decide (10000 < p0.Width)) 18 false 21 24 S rfl rfl (by kernel_rfl) hc10 rfl (by decide) (fun a S => ?_)
            refine sPickT (b := decide (10000 < p0.Width)) (.bool true) S (wN rfl) rfl (by kernel_rfl) hc10 (by kernel_rfl) rfl (by decide) (fun a S => ?_)
            refine sMove (.bool true) S (wN rfl) (.inl rfl) (by kernel_rfl) rfl (by decide) (fun a S => ?_)
            refine sSkip (c := true) 23 false 26 27 S rfl rfl (by kernel_rfl) rfl rfl (by decide) (fun a S => ?_)
            refine sSkip (c := true) 23 false 26 28 S rfl rfl (by kernel_rfl) rfl rfl (by decide) (fun a S => ?_)
            refine sSkip (c := true) 23 false 26 29 S rfl rfl (by kernel_rfl) rfl rfl (by decide) (fun a S => ?_)
            refine sPickT (b := true) (.bool true) S (wN rfl) rfl (by kernel_rfl) rfl (by kernel_rfl) rfl (by decide) (fun a S => ?_)
            refine sMove (.bool true) S (wN rfl) (.inl rfl) (by kernel_rfl) rfl (by decide) (fun a S => ?_)
            refine sSkip (c := true) 28 false 31 32 S rfl rfl (by kernel_rfl) rfl rfl (by decide) (fun a S => ?_)
            refine sSkip (c := true) 28 false 31 33 S rfl rfl (by kernel_rfl) rfl rfl (by decide) (fun a S => ?_)
            refine sSkip (c := true) 28 false 31 34 S rfl rfl (by kernel_rfl) rfl rfl (by decide) (fun a S => ?_)
            refine sPickT (b := true) (.bool true) S (wN rfl) rfl (by kernel_rfl) rfl (by kernel_rfl) rfl (by decide) (fun a S => ?_)
            refine sMove (.bool true) S (wN rfl) (.inl rfl) (by kernel_rfl) rfl (by decide) (fun a S => ?_)
            refine sSkip (c := true) 33 false 36 37 S rfl rfl (by kernel_rfl) rfl rfl (by decide) (fun a S => ?_)
            refine sSkip (c := true) 33 false 36 38 S rfl rfl (by kernel_rfl) rfl rfl (by decide) (fun a S => ?_)
            refine sSkip (c := true) 33 false 36 39 S rfl rfl (by kernel_rfl) rfl rfl (by decide) (fun a S => ?_)
            refine sPickT (b := true) (.bool true) S (wN rfl) rfl (by kernel_rfl) rfl (by kernel_rfl) rfl (by decide) (fun a S => ?_)
            exact leafL (leafT (⟨true, Option.some.inj h, S.fix [] [] (by decide) (by kernel_rfl) (by kernel_rfl) (by kernel_rfl)⟩))
          · refine sField (b := b2) (off := 0) 2 2 S (wG (c := decide (10000 < p0.Width)) 18 false 21 rfl rfl (by kernel_rfl) hc10) rfl (by kernel_rfl) (by kernel_rfl) rfl rfl (by decide) (fun a S => ?_)
            refine sLoad1 (p := b2) (off := 2) (T := 23) (vs := [.int .i64 p0.Stitches, .int .i64 p0.Width, .int .i64 p0.Rows, .int .i64 p0.Height]) 0 (.int .i64 p0.Rows) S (wG (c := decide (10000 < p0.Width)) 18 false 21 rfl rfl (by kernel_rfl) hc10) rfl (by kernel_rfl) (by kernel_rfl) (by kernel_rfl) rfl rfl (by decide) (fun a S => ?_)
            refine sBin (.bool (decide (p0.Rows < 1))) S (wG (c := decide (10000 < p0.Width)) 18 false 21 rfl rfl (by kernel_rfl) hc10) rfl (by kernel_rfl) (by kernel_rfl) (bLt _ _ _ _ .i64 p0.Rows 1) rfl (by decide) (fun a S => ?_)
            refine sPickF (b := decide (10000 < p0.Width)) (.bool (decide (p0.Rows < 1))) S (wN rfl) rfl (by kernel_rfl) hc10 (by kernel_rfl) rfl (by decide) (fun a S => ?_)
            refine sMove (.bool (decide (p0.Rows < 1))) S (wN rfl) (.inl rfl) (by kernel_rfl) rfl (by decide) (fun a S => ?_)
            rcases iteSome h with ⟨hc11, h⟩ | ⟨hc11, h⟩
            · refine sSkip (c := decide (p0.Rows < 1)) 23 false 26 27 S rfl rfl (by kernel_rfl) hc11 rfl (by decide) (fun a S => ?_)
              refine sSkip (c := decide (p0.Rows < 1)) 23 false 26 28 S rfl rfl (by kernel_rfl) hc11 rfl (by decide) (fun a S => ?_)
              refine sSkip (c := decide (p0.Rows < 1)) 23 false 26 29 S rfl rfl (by kernel_rfl) hc11 rfl (by decide) (fun a S => ?_)
              refine sPickT (b := decide (p0.Rows < 1)) (.bool true) S (wN rfl) rfl (by kernel_rfl) hc11 (by kernel_rfl) rfl (by decide) (fun a S => ?_)
              refine sMove (.bool true) S (wN rfl) (.inl rfl) (by kernel_rfl) rfl (by decide) (fun a S => ?_)
              refine sSkip (c := true) 28 false 31 32 S rfl rfl (by kernel_rfl) rfl rfl (by decide) (fun a S => ?_)
              refine sSkip (c := true) 28 false 31 33 S rfl rfl (by kernel_rfl) rfl rfl (by decide) (fun a S => ?_)
              refine sSkip (c := true) 28 false 31 34 S rfl rfl (by kernel_rfl) rfl rfl (by decide) (fun a S => ?_)
              refine sPickT (b := true) (.bool true) S (wN rfl) rfl (by kernel_rfl) rfl (by kernel_rfl) rfl (by decide) (fun a S => ?_)
              refine sMove (.bool true) S (wN rfl) (.inl rfl) (by kernel_rfl) rfl (by decide) (fun a S => ?_)
              refine sSkip (c := true) 33 false 36 37 S rfl rfl (by kernel_rfl) rfl rfl (by decide) (fun a S => ?_)
              refine sSkip (c := true) 33 false 36 38 S rfl rfl (by kernel_rfl) rfl rfl (by decide) (fun a S => ?_)
              refine sSkip (c := true) 33 false 36 39 S rfl rfl (by kernel_rfl) rfl rfl (by decide) (fun a S => ?_)
              refine sPickT (b := true) (.bool true) S (wN rfl) rfl (by kernel_rfl) rfl (by kernel_rfl) rfl (by decide) (fun a S => ?_)
              exact leafL (leafT (⟨true, Option.some.inj h, S.fix [] [] (by decide) (by kernel_rfl) (by kernel_rfl) (by kernel_rfl)⟩))
            · refine sField (b := b2) (off := 0) 2 2 S (wG (c := decide (p0.Rows < 1)) 23 false 26 rfl rfl (by kernel_rfl) hc11) rfl (by kernel_rfl) (by kernel_rfl) rfl rfl (by decide) (fun a S => ?_)
              refine sLoad1 (p := b2) (off := 2) (T := 23) (vs := [.int .i64 p0.Stitches, .int .i64 p0.Width, .int .i64 p0.Rows, .int .i64 p0.Height]) 0 (.int .i64 p0.Rows) S (wG (c := decide (p0.Rows < 1)) 23 false 26 rfl rfl (by kernel_rfl) hc11) rfl (by kernel_rfl) (by kernel_rfl) (by kernel_rfl) rfl rfl (by decide) (fun a S => ?_)
              refine sBin (.bool (decide (10000 < p0.Rows))) S (wG (c := decide (p0.Rows < 1)) 23 false 26 rfl rfl (by kernel_rfl) hc11) rfl (by kernel_rfl) (by kernel_rfl) (bGt _ _ _ _ .i64 p0.Rows 10000) rfl (by decide) (fun a S => ?_)
              refine sPickF (b := decide (p0.Rows < 1)) (.bool (decide (10000 < p0.Rows))) S (wN rfl) rfl (by kernel_rfl) hc11 (by kernel_rfl) rfl (by decide) (fun a S => ?_)
              refine sMove (.bool (decide (10000 < p0.Rows))) S (wN rfl) (.inl rfl) (by kernel_rfl) rfl (by decide) (fun a S => ?_)
              rcases iteSome h with ⟨hc12, h⟩ | ⟨hc12, h⟩
              · refine sSkip (c := decide (10000 < p0.Rows)) 28 false 31 32 S rfl rfl (by kernel_rfl) hc12 rfl (by decide) (fun a S => ?_)
                refine sSkip (c := decide (10000 < p0.Rows)) 28 false 31 33 S rfl rfl (by kernel_rfl) hc12 rfl (by decide) (fun a S => ?_)
                refine sSkip (c := decide (10000 < p0.Rows)) 28 false 31 34 S rfl rfl (by kernel_rfl) hc12 rfl (by decide) (fun a S => ?_)
                refine sPickT (b := decide (10000 < p0.Rows)) (.bool true) S (wN rfl) rfl (by kernel_rfl) hc12 (by kernel_rfl) rfl (by decide) (fun a S => ?_)
                refine sMove (.bool true) S (wN rfl) (.inl rfl) (by kernel_rfl) rfl (by decide) (fun a S => ?_)
                refine sSkip (c := true) 33 false 36 37 S rfl rfl (by kernel_rfl) rfl rfl (by decide) (fun a S => ?_)
                refine sSkip (c := true) 33 false 36 38 S rfl rfl (by kernel_rfl) rfl rfl (by decide) (fun a S => ?_)
                refine sSkip (c := true) 33 false 36 39 S rfl rfl (by kernel_rfl) rfl rfl (by decide) (fun a S => ?_)
                refine sPickT (b := true) (.bool true) S (wN rfl) rfl (by kernel_rfl) rfl (by kernel_rfl) rfl (by decide) (fun a S => ?_)
                exact leafL (leafT (⟨true, Option.some.inj h, S.fix [] [] (by decide) (by kernel_rfl) (by kernel_rfl) (by kernel_rfl)⟩))
              · refine sField (b := b2) (off := 0) 3 3 S (wG (c := decide (10000 < p0.Rows)) 28 false 31 rfl rfl (by kernel_rfl) hc12) rfl (by kernel_rfl) (by kernel_rfl) rfl rfl (by decide) (fun a S => ?_)
                refine sLoad1 (p := b2) (off := 3) (T := 23) (vs := [.int .i64 p0.Stitches, .int .i64 p0.Width, .int .i64 p0.Rows, .int .i64 p0.Height]) 0 (.int .i64 p0.Height) S (wG (c := decide (10000 < p0.Rows)) 28 false 31 rfl rfl (by kernel_rfl) hc12) rfl (by kernel_rfl) (by kernel_rfl) (by kernel_rfl) rfl rfl (by decide) (fun a S => ?_)
                refine sBin (.bool (decide (p0.Height < 1))) S (wG (c := decide (10000 < p0.Rows)) 28 false 31 rfl rfl (by kernel_rfl) hc12) rfl (by kernel_rfl) (by kernel_rfl) (bLt _ _ _ _ .i64 p0.Height 1) rfl (by decide) (fun a S => ?_)
                refine sPickF (b := decide (10000 < p0.Rows)) (.bool (decide (p0.Height < 1))) S (wN rfl) rfl (by kernel_rfl) hc12 (by kernel_rfl) rfl (by decide) (fun a S => ?_)
                refine sMove (.bool (decide (p0.Height < 1))) S (wN rfl) (.inl rfl) (by kernel_rfl) rfl (by decide) (fun a S => ?_)
                rcases iteSome h with ⟨hc13, h⟩ | ⟨hc13, h⟩
                · refine sSkip (c := decide (p0.Height < 1)) 33 false 36 37 S rfl rfl (by kernel_rfl) hc13 rfl (by decide) (fun a S => ?_)
                  refine sSkip (c := decide (p0.Height < 1)) 33 false 36 38 S rfl rfl (by kernel_rfl) hc13 rfl (by decide) (fun a S => ?_)
                  refine sSkip (c := decide (p0.Height < 1)) 33 false 36 39 S rfl rfl (by kernel_rfl) hc13 rfl (by decide) (fun a S => ?_)
                  refine sPickT (b := decide (p0.Height < 1)) (.bool true) S (wN rfl) rfl (by kernel_rfl) hc13 (by kernel_rfl) rfl (by decide) (fun a S => ?_)
                  exact leafL (leafT (⟨true, Option.some.inj h, S.fix [] [] (by decide) (by kernel_rfl) (by kernel_rfl) (by kernel_rfl)⟩))
                · refine sField (b := b2) (off := 0) 3 3 S (wG (c := decide (p0.Height < 1)) 33 false 36 rfl rfl (by kernel_rfl) hc13) rfl (by kernel_rfl) (by kernel_rfl) rfl rfl (by decide) (fun a S => ?_)
                  refine sLoad1 (p := b2) (off := 3) (T := 23) (vs := [.int .i64 p0.Stitches, .int .i64 p0.Width, .int .i64 p0.Rows, .int .i64 p0.Height]) 0 (.int .i64 p0.Height) S (wG (c := decide (p0.Height < 1)) 33 false 36 rfl rfl (by kernel_rfl) hc13) rfl (by kernel_rfl) (by kernel_rfl) (by kernel_rfl) rfl rfl (by decide) (fun a S => ?_)
                  refine sBin (.bool (decide (10000 < p0.Height))) S (wG (c := decide (p0.Height < 1)) 33 false 36 rfl rfl (by kernel_rfl) hc13) rfl (by kernel_rfl) (by kernel_rfl) (bGt _ _ _ _ .i64 p0.Height 10000) rfl (by decide) (fun a S => ?_)
                  refine sPickF (b := decide (p0.Height < 1)) (.bool (decide (10000 < p0.Height))) S (wN rfl) rfl (by kernel_rfl) hc13 (by kernel_rfl) rfl (by decide) (fun a S => ?_)
                  exact leafL (leafT (⟨decide (10000 < p0.Height), Option.some.inj h, S.fix [] [] (by decide) (by kernel_rfl) (by kernel_rfl) (by kernel_rfl)⟩))
  · obtain ⟨o4, rfl, S⟩ := hI
    have h := g6
    clear g6
    try dsimp only at h
    rcases iteSome h with ⟨hc14, h⟩ | ⟨hc14, h⟩
    · refine sCondT (b := o4) S (by kernel_rfl) hc14 ?_
      refine sSeq (fun K15 hK15 => ?_)
      refine sRegion ?_
      refine sMove (.int .i64 8) S (wN rfl) (.inr rfl) (by kernel_rfl) rfl (by decide) (fun a S => ?_)
      refine leafL (leafT (hK15 _ _ ?_))
      obtain rfl := Option.some.inj h
      exact wp_ret (rThen (sRet (.int .i64 8) S (rsl1 rfl (rvT (t := 2) (v := .int .i64 8) S (by kernel_rfl))) ⟨(), rfl, S.mem.sel [] [] (by decide) (by kernel_rfl) (by kernel_rfl)⟩))
    · refine sCondF (b := o4) S (by kernel_rfl) hc14 ?_
      refine wp_skip (leafT (hK3 _ _ ?_))
      refine sSeq (fun K16 hK16 => ?_)
      refine sRegion ?_
      refine sMove (.int .i64 0) S (wN rfl) (.inr rfl) (by kernel_rfl) rfl (by decide) (fun a S => ?_)
      refine leafL (leafT (hK16 _ _ ?_))
      obtain rfl := Option.some.inj h
      exact wp_ret (sRet (.int .i64 0) S (rsl1 rfl (rvT (t := 2) (v := .int .i64 0) S (by kernel_rfl))) ⟨(), rfl, S.mem.sel [] [] (by decide) (by kernel_rfl) (by kernel_rfl)⟩)

end Go.Proofs.Ytmedbnjhgkcndaa
