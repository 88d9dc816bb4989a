import Derived.Test.YtjndecalogklhaaGTy
import Derived.Test.YtjndecalogklhaaG32
import Derived.Test.YtjndecalogklhaaG34s0
import Derived.Test.YtjndecalogklhaaG34s1
namespace Go.Proofs.Ytjndecalogklhaa
open Go.RowKit
set_option linter.unusedVariables false

noncomputable def sett_Turns_l1 (p0 : api_Grid) : (List Int × Int) → Option ((List Int × Int) ⊕ List Int) := fun s0 => match s0 with
  | (s20, s23) =>
    if decide (s23 < p0.H) then
      Option.bind (F_sett_line_turns_s0 p0.W p0 s23) fun r36 =>
      Option.bind (appO s20 ([r36] : List Int)) fun l40 =>
      some (.inl (l40, w64 (s23 + 1)))
    else
      some (.inr s20)
noncomputable def sett_Turns_l2 (p0 : api_Grid) : (List Int × Int) → Option ((List Int × Int) ⊕ List Int) := fun s0 => match s0 with
  | (s50, s53) =>
    if decide (s53 < p0.W) then
      Option.bind (F_sett_line_turns_s1 p0.H p0 s53) fun r66 =>
      Option.bind (appO s50 ([r66] : List Int)) fun l70 =>
      some (.inl (l70, w64 (s53 + 1)))
    else
      some (.inr s50)
noncomputable def F_sett_Turns (p0 : api_Grid) : Option ((List Int) × (List Int) × Int) :=
  Option.bind (F_grid_Check p0) fun r9 =>
  if r9 != 0 then
    some (([] : (List Int)), ([] : (List Int)), r9)
  else
    Option.bind (α := List Int) (
      Option.bind (whileO (sett_Turns_l1 p0) (([] : List Int), 0)) fun e27 =>
        some e27) fun o14 =>
    Option.bind (α := List Int) (
      Option.bind (whileO (sett_Turns_l2 p0) (([] : List Int), 0)) fun e57 =>
        some e57) fun o44 =>
    some (o14, o44, 0)
def c_sett_Turns_val (r : ((List Int) × (List Int) × Int)) (x : Value × Value) : Value := .tuple #[x.1, x.2, .int .i64 r.2.2]
def c_sett_Turns_D (r : ((List Int) × (List Int) × Int)) (x : Value × Value) : List Fact := [fRep (rL (rI .i64)) x.1 r.1, fRep (rL (rI .i64)) x.2 r.2.1]
set_option maxHeartbeats 4000000 in
set_option maxRecDepth 100000 in
theorem c_sett_Turns (E : Nat → Prop) (w0 : World) (p0 : api_Grid) (v0 : Value) (r : ((List Int) × (List Int) × Int)) (h : F_sett_Turns p0 = some r) (S : St0 E [] w0 w0 [] [fRep r_api_Grid (v0) p0]) :
    Calls Try.prog 11 #[v0] w0 (Ret (X := Value × Value) E [] w0 (c_sett_Turns_val r) (fun _ => []) (c_sett_Turns_D r)) := by
  unfold F_sett_Turns at h
  obtain ⟨u1, rfl, hu2⟩ := S.know (i := 0) (e := fRep r_api_Grid (v0) p0) (by kernel_rfl)
  have S := S.learn (fRep (rL rB) u1 p0.Bits) hu2
  obtain ⟨ad3, cp4, _, rfl, _⟩ := hu2
  refine sEnter (args := [.agg #[.int .i64 p0.W, .int .i64 p0.H, .slice ad3 p0.Bits.length cp4]]) 43 Try.func11 rfl rfl (by simp) S (fun a S => ?_)
  refine sSeq (fun K5 hK5 => ?_)
  refine sRegion ?_
  refine sBox (v := .agg #[.int .i64 p0.W, .int .i64 p0.H, .slice ad3 p0.Bits.length cp4]) S (wN rfl) rfl (by kernel_rfl) [.int .i64 p0.W, .int .i64 p0.H, .slice ad3 p0.Bits.length cp4] rfl rfl (by decide) (fun a b6 w S => ?_)
  refine sMove (.slice none 0 0) S (wN rfl) (.inr rfl) (by kernel_rfl) rfl (by decide) (fun a S => ?_)
  refine sMove (.slice none 0 0) S (wN rfl) (.inr rfl) (by kernel_rfl) rfl (by decide) (fun a S => ?_)
  refine sMove (.int .i64 0) S (wN rfl) (.inr rfl) (by kernel_rfl) rfl (by decide) (fun a S => ?_)
  refine leafL (leafT (hK5 _ _ ?_))
  refine sSeq (fun K7 hK7 => ?_)
  refine sSeq (fun K8 hK8 => ?_)
  refine sRegion ?_
  refine sLoadN (p := b6) (off := 0) (T := 24) (vs := [.int .i64 p0.W, .int .i64 p0.H, .slice ad3 p0.Bits.length cp4]) 0 [.int .i64 p0.W, .int .i64 p0.H, .slice ad3 p0.Bits.length cp4] S (wN rfl) rfl (by kernel_rfl) (by kernel_rfl) (by kernel_rfl) (by kernel_rfl) rfl rfl (by decide) (fun a S => ?_)
  obtain ⟨r9, hx10, h⟩ := bindSome h
  have S1 := S.mem
  refine sCallQ (X := Unit) (f := 32) (vs := [.agg #[.int .i64 p0.W, .int .i64 p0.H, .slice ad3 p0.Bits.length cp4]]) (val := fun _ => .int .i64 r9) S (wN rfl) rfl callee32 (by kernel_rfl) (S1.quiet [1] (by kernel_rfl)) (fun E1 w1 S1 => c_grid_Check E1 w1 p0 (.agg #[.int .i64 p0.W, .int .i64 p0.H, .slice ad3 p0.Bits.length cp4]) r9 hx10 S1) rfl (by decide) (fun _ a w S => ?_)
  refine sMove (.int .i64 r9) S (wN rfl) (.inr rfl) (by kernel_rfl) rfl (by decide) (fun a S => ?_)
  refine leafL (leafT (hK8 _ _ ?_))
  refine sSeq (fun K11 hK11 => ?_)
  refine sRegion ?_
  refine sMove (.int .i64 r9) S (wN rfl) (.inl rfl) (by kernel_rfl) rfl (by decide) (fun a S => ?_)
  refine sBin (.bool (r9 != 0)) S (wN rfl) rfl (by kernel_rfl) (by kernel_rfl) (bNe _ _ _ _ .i64 r9 0) rfl (by decide) (fun a S => ?_)
  refine leafL (leafT (hK11 _ _ ?_))
  rcases iteSome h with ⟨hc12, h⟩ | ⟨hc12, h⟩
  · refine sCondT (b := r9 != 0) S (by kernel_rfl) hc12 ?_
    refine sSeq (fun K13 hK13 => ?_)
    refine sRegion ?_
    refine sMove (.int .i64 r9) S (wN rfl) (.inl rfl) (by kernel_rfl) rfl (by decide) (fun a S => ?_)
    refine sMove (.slice none 0 0) S (wN rfl) (.inr rfl) (by kernel_rfl) rfl (by decide) (fun a S => ?_)
    refine sMove (.slice none 0 0) S (wN rfl) (.inr rfl) (by kernel_rfl) rfl (by decide) (fun a S => ?_)
    refine sMove (.int .i64 r9) S (wN rfl) (.inr rfl) (by kernel_rfl) rfl (by decide) (fun a S => ?_)
    refine leafL (leafT (hK13 _ _ ?_))
    obtain rfl := Option.some.inj h
    have S := S.learn (fRep (rL (rI .i64)) (.slice none 0 0) ([] : (List Int))) (rL_nil _ _ _)
    exact wp_ret (rThen (sRet (.tuple #[.slice none 0 0, .slice none 0 0, .int .i64 r9]) S (rsl3 rfl (rvT (t := 2) (v := .slice none 0 0) S (by kernel_rfl)) (rvT (t := 3) (v := .slice none 0 0) S (by kernel_rfl)) (rvT (t := 4) (v := .int .i64 r9) S (by kernel_rfl))) ⟨((.slice none 0 0), (.slice none 0 0)), rfl, S.mem.sel [] [0, 0] (by decide) (by kernel_rfl) (by kernel_rfl)⟩))
  · refine sCondF (b := r9 != 0) S (by kernel_rfl) hc12 ?_
    refine wp_skip (leafT (hK7 _ _ ?_))
    obtain ⟨t17, h, g18⟩ := bindSome h
    refine sCut (fun a w => ∃ o14, o14 = t17 ∧ ∃ ad15, ∃ cp16, St E [] w0 43 a w [(1, .pointer (some ⟨b6, 0, none⟩)), (2, .slice ad15 o14.length cp16), (3, .slice none 0 0)] [eBox b6 24 [.int .i64 p0.W, .int .i64 p0.H, .slice ad3 p0.Bits.length cp4], eRow (rI .i64) 3 (.slice ad15 o14.length cp16) o14] [fRep (rL rB) (.slice ad3 p0.Bits.length cp4) p0.Bits]) ?_ (fun a w hI => ?_)
    · refine sSeq (fun K19 hK19 => ?_)
      refine sRegion ?_
      refine sField (b := b6) (off := 0) 1 1 S (wN rfl) rfl (by kernel_rfl) (by kernel_rfl) rfl rfl (by decide) (fun a S => ?_)
      refine sLoad1 (p := b6) (off := 1) (T := 24) (vs := [.int .i64 p0.W, .int .i64 p0.H, .slice ad3 p0.Bits.length cp4]) 0 (.int .i64 p0.H) S (wN rfl) rfl (by kernel_rfl) (by kernel_rfl) (by kernel_rfl) rfl rfl (by decide) (fun a S => ?_)
      refine sMove (.int .i64 0) S (wN rfl) (.inl rfl) (by kernel_rfl) rfl (by decide) (fun a S => ?_)
      refine leafL (leafT (hK19 _ _ ?_))
      refine wp_block ?_
      have S := S.nilRow (rI .i64) 3 (α := Int)
      obtain ⟨t26, hl, g25⟩ := bindSome h
      refine sLoop hl (fun s0 a w => match s0 with | (s20, s23) => ∃ ad21, ∃ cp22, St E [] w0 43 a w [(1, .pointer (some ⟨b6, 0, none⟩)), (2, .slice ad21 s20.length cp22), (3, .slice none 0 0), (14, .int .i64 p0.H), (15, .int .i64 s23)] [eBox b6 24 [.int .i64 p0.W, .int .i64 p0.H, .slice ad3 p0.Bits.length cp4], eRow (rI .i64) 3 (.slice ad21 s20.length cp22) s20] [fRep (rL rB) (.slice ad3 p0.Bits.length cp4) p0.Bits]) ⟨none, 0, S.fix [1, 0] [0] (by decide) (by kernel_rfl) (by kernel_rfl) (by kernel_rfl)⟩ ?_
      clear hl h
      intro s0 a w c0 hI h hu24
      obtain ⟨s20, s23⟩ := s0
      unfold sett_Turns_l1 at h
      dsimp only at h hI
      obtain ⟨ad21, cp22, S⟩ := hI
      refine sSeq (fun K30 hK30 => ?_)
      refine sRegion ?_
      refine sBin (.bool (decide (s23 < p0.H))) S (wN rfl) rfl (by kernel_rfl) (by kernel_rfl) (bLt _ _ _ _ .i64 s23 p0.H) rfl (by decide) (fun a S => ?_)
      refine leafL (leafT (hK30 _ _ ?_))
      refine sSeq (fun K31 hK31 => ?_)
      rcases iteSome h with ⟨hc32, h⟩ | ⟨hc32, h⟩
      · refine sCondT (b := decide (s23 < p0.H)) S (by kernel_rfl) hc32 ?_
        refine wp_skip (leafT (hK31 _ _ ?_))
        refine sSeq (fun K33 hK33 => ?_)
        refine wp_block ?_
        refine sSeq (fun K34 hK34 => ?_)
        refine sRegion ?_
        refine sMove (.int .i64 s23) S (wN rfl) (.inl rfl) (by kernel_rfl) rfl (by decide) (fun a S => ?_)
        refine sAlloc (.int .i64 0) S (wN rfl) rfl (by kernel_rfl) [.int .i64 0] rfl rfl (by decide) (fun a b35 w S => ?_)
        refine sStore (p := b35) (off := 0) (T := 3) (vs := [.int .i64 0]) (v := .int .i64 s23) 0 [.int .i64 s23] S (wN rfl) rfl (by kernel_rfl) (by kernel_rfl) rfl (by kernel_rfl) (by kernel_rfl) rfl (by simp) rfl (fun a w S => ?_)
        refine leafL (leafT (hK34 _ _ ?_))
        refine sRegion ?_
        refine sMove (.slice ad21 s20.length cp22) S (wN rfl) (.inl rfl) (by kernel_rfl) rfl (by decide) (fun a S => ?_)
        refine sField (b := b6) (off := 0) 0 0 S (wN rfl) rfl (by kernel_rfl) (by kernel_rfl) rfl rfl (by decide) (fun a S => ?_)
        refine sLoad1 (p := b6) (off := 0) (T := 24) (vs := [.int .i64 p0.W, .int .i64 p0.H, .slice ad3 p0.Bits.length cp4]) 1 (.int .i64 p0.W) S (wN rfl) rfl (by kernel_rfl) (by kernel_rfl) (by kernel_rfl) rfl rfl (by decide) (fun a S => ?_)
        refine sFunc (g := 33) (vs := [.pointer (some ⟨b6, 0, none⟩), .pointer (some ⟨b35, 0, none⟩)]) S (wN rfl) rfl (by kernel_rfl) rfl (by decide) (fun a S => ?_)
        refine sBuild [(0, .int .i64 p0.W), (1, .func (.func 33) #[] #[.pointer (some ⟨b6, 0, none⟩), .pointer (some ⟨b35, 0, none⟩)])] [.int .i64 p0.W, .func (.func 33) #[] #[.pointer (some ⟨b6, 0, none⟩), .pointer (some ⟨b35, 0, none⟩)]] S (wN rfl) rfl (by kernel_rfl) (by kernel_rfl) rfl (by decide) (fun a S => ?_)
        obtain ⟨r36, hx37, h⟩ := bindSome h
        have S1 := S.mem
        have S1 := S1.learn (fRep r_api_Grid (.agg #[.int .i64 p0.W, .int .i64 p0.H, .slice ad3 p0.Bits.length cp4]) p0) ⟨_, rfl, S1.know (i := 0) (e := fRep (rL rB) (.slice ad3 p0.Bits.length cp4) p0.Bits) (by kernel_rfl)⟩
        have S1 := S1.shutB (r := r_api_Grid) (T := 24) (b := b6) (cs := [.int .i64 p0.W, .int .i64 p0.H, .slice ad3 p0.Bits.length cp4]) 1 (.agg #[.int .i64 p0.W, .int .i64 p0.H, .slice ad3 p0.Bits.length cp4]) p0 (by kernel_rfl) rfl (S1.know (i := 0) (e := fRep r_api_Grid (.agg #[.int .i64 p0.W, .int .i64 p0.H, .slice ad3 p0.Bits.length cp4]) p0) (by kernel_rfl))
        have S1 := S1.shutB (r := (rI .i64)) (T := 3) (b := b35) (cs := [.int .i64 s23]) 0 (.int .i64 s23) s23 (by kernel_rfl) rfl (rfl)
        refine sCallQ (X := Unit) (f := 34) (vs := [.agg #[.int .i64 p0.W, .func (.func 33) #[] #[.pointer (some ⟨b6, 0, none⟩), .pointer (some ⟨b35, 0, none⟩)]]]) (val := fun _ => .int .i64 r36) S (wN rfl) rfl callee34 (by kernel_rfl) (S1.quiet [1, 0] (by kernel_rfl)) (fun E1 w1 S1 => c_sett_line_turns_s0 E1 w1 p0.W p0 (.pointer (some ⟨b6, 0, none⟩)) s23 (.pointer (some ⟨b35, 0, none⟩)) r36 hx37 S1) rfl (by decide) (fun _ a w S => ?_)
        refine sLit (r := (rI .i64)) (T := 3) (xs := ([r36] : List Int)) [(0, .int .i64 r36)] 1 [.int .i64 r36] [.int .i64 r36] (.int .i64 0) 8 S (wN rfl) rfl (by kernel_rfl) Try.underlying27 (by kernel_rfl) (by decide) (by decide) (by kernel_rfl) rfl (fun E1 w1 hE => All.cons rfl (All.nil _ _ _)) rfl rfl (by decide) (fun a w ad38 cp39 S => ?_)
        obtain ⟨l40, hx41, h⟩ := bindSome h
        refine sApp (r := (rI .i64)) (T := 3) (xs := s20) (ys := ([r36] : List Int)) (v := .slice ad21 s20.length cp22) (u := .slice ad38 ([r36] : List Int).length cp39) 3 (.int .i64 0) 8 S (wN rfl) rfl Try.underlying27 (by kernel_rfl) rfl (by decide) (by kernel_rfl) (by kernel_rfl) (by kernel_rfl) (src_R (T := 3) 0 S.mem (by kernel_rfl)) hx41 rfl (by decide) (fun a w ad42 cp43 S => ?_)
        refine sMove (.slice ad42 l40.length cp43) S (wN rfl) (.inr rfl) (by kernel_rfl) rfl (by decide) (fun a S => ?_)
        refine leafL (leafB (leafT (hK33 _ _ ?_)))
        refine sRegion ?_
        refine sBin (.int .i64 (w64 (s23 + 1))) S (wN rfl) rfl (by kernel_rfl) (by kernel_rfl) (bAdd _ _ _ _ s23 1) rfl (by decide) (fun a S => ?_)
        refine sMove (.int .i64 (w64 (s23 + 1))) S (wN rfl) (.inl rfl) (by kernel_rfl) rfl (by decide) (fun a S => ?_)
        exact leafL (leafT (⟨(l40, w64 (s23 + 1)), (Option.some.inj h).symm, ⟨ad42, cp43, S.fix [3, 0] [0] (by decide) (by kernel_rfl) (by kernel_rfl) (by kernel_rfl)⟩⟩))
      · refine sCondF (b := decide (s23 < p0.H)) S (by kernel_rfl) hc32 ?_
        obtain rfl := Option.some.inj h
        obtain rfl := hu24 _ rfl
        have h := g25
        clear g25
        try dsimp only at h
        exact wp_exit (xThen (xThen (xHit (leafT (⟨s20, Option.some.inj h, ad21, cp22, S.fix [0, 1] [0] (by decide) (by kernel_rfl) (by kernel_rfl) (by kernel_rfl)⟩)))))
    · obtain ⟨o14, rfl, ad15, cp16, S⟩ := hI
      have h := g18
      clear g18
      try dsimp only at h
      obtain ⟨t47, h, g48⟩ := bindSome h
      refine sCut (fun a w => ∃ o44, o44 = t47 ∧ ∃ ad45, ∃ cp46, St E [] w0 43 a w [(2, .slice ad15 o14.length cp16), (3, .slice ad45 o44.length cp46)] [eRow (rI .i64) 3 (.slice ad15 o14.length cp16) o14, eRow (rI .i64) 3 (.slice ad45 o44.length cp46) o44] []) ?_ (fun a w hI => ?_)
      · refine sSeq (fun K49 hK49 => ?_)
        refine sRegion ?_
        refine sField (b := b6) (off := 0) 0 0 S (wN rfl) rfl (by kernel_rfl) (by kernel_rfl) rfl rfl (by decide) (fun a S => ?_)
        refine sLoad1 (p := b6) (off := 0) (T := 24) (vs := [.int .i64 p0.W, .int .i64 p0.H, .slice ad3 p0.Bits.length cp4]) 0 (.int .i64 p0.W) S (wN rfl) rfl (by kernel_rfl) (by kernel_rfl) (by kernel_rfl) rfl rfl (by decide) (fun a S => ?_)
        refine sMove (.int .i64 0) S (wN rfl) (.inl rfl) (by kernel_rfl) rfl (by decide) (fun a S => ?_)
        refine leafL (leafT (hK49 _ _ ?_))
        refine wp_block ?_
        have S := S.nilRow (rI .i64) 3 (α := Int)
        obtain ⟨t56, hl, g55⟩ := bindSome h
        refine sLoop hl (fun s0 a w => match s0 with | (s50, s53) => ∃ ad51, ∃ cp52, St E [] w0 43 a w [(1, .pointer (some ⟨b6, 0, none⟩)), (2, .slice ad15 o14.length cp16), (3, .slice ad51 s50.length cp52), (28, .int .i64 p0.W), (29, .int .i64 s53)] [eBox b6 24 [.int .i64 p0.W, .int .i64 p0.H, .slice ad3 p0.Bits.length cp4], eRow (rI .i64) 3 (.slice ad15 o14.length cp16) o14, eRow (rI .i64) 3 (.slice ad51 s50.length cp52) s50] [fRep (rL rB) (.slice ad3 p0.Bits.length cp4) p0.Bits]) ⟨none, 0, S.fix [1, 2, 0] [0] (by decide) (by kernel_rfl) (by kernel_rfl) (by kernel_rfl)⟩ ?_
        clear hl h
        intro s0 a w c0 hI h hu54
        obtain ⟨s50, s53⟩ := s0
        unfold sett_Turns_l2 at h
        dsimp only at h hI
        obtain ⟨ad51, cp52, S⟩ := hI
        refine sSeq (fun K60 hK60 => ?_)
        refine sRegion ?_
        refine sBin (.bool (decide (s53 < p0.W))) S (wN rfl) rfl (by kernel_rfl) (by kernel_rfl) (bLt _ _ _ _ .i64 s53 p0.W) rfl (by decide) (fun a S => ?_)
        refine leafL (leafT (hK60 _ _ ?_))
        refine sSeq (fun K61 hK61 => ?_)
        rcases iteSome h with ⟨hc62, h⟩ | ⟨hc62, h⟩
        · refine sCondT (b := decide (s53 < p0.W)) S (by kernel_rfl) hc62 ?_
          refine wp_skip (leafT (hK61 _ _ ?_))
          refine sSeq (fun K63 hK63 => ?_)
          refine wp_block ?_
          refine sSeq (fun K64 hK64 => ?_)
          refine sRegion ?_
          refine sMove (.int .i64 s53) S (wN rfl) (.inl rfl) (by kernel_rfl) rfl (by decide) (fun a S => ?_)
          refine sAlloc (.int .i64 0) S (wN rfl) rfl (by kernel_rfl) [.int .i64 0] rfl rfl (by decide) (fun a b65 w S => ?_)
          refine sStore (p := b65) (off := 0) (T := 3) (vs := [.int .i64 0]) (v := .int .i64 s53) 0 [.int .i64 s53] S (wN rfl) rfl (by kernel_rfl) (by kernel_rfl) rfl (by kernel_rfl) (by kernel_rfl) rfl (by simp) rfl (fun a w S => ?_)
          refine leafL (leafT (hK64 _ _ ?_))
          refine sRegion ?_
          refine sMove (.slice ad51 s50.length cp52) S (wN rfl) (.inl rfl) (by kernel_rfl) rfl (by decide) (fun a S => ?_)
          refine sField (b := b6) (off := 0) 1 1 S (wN rfl) rfl (by kernel_rfl) (by kernel_rfl) rfl rfl (by decide) (fun a S => ?_)
          refine sLoad1 (p := b6) (off := 1) (T := 24) (vs := [.int .i64 p0.W, .int .i64 p0.H, .slice ad3 p0.Bits.length cp4]) 1 (.int .i64 p0.H) S (wN rfl) rfl (by kernel_rfl) (by kernel_rfl) (by kernel_rfl) rfl rfl (by decide) (fun a S => ?_)
          refine sFunc (g := 35) (vs := [.pointer (some ⟨b6, 0, none⟩), .pointer (some ⟨b65, 0, none⟩)]) S (wN rfl) rfl (by kernel_rfl) rfl (by decide) (fun a S => ?_)
          refine sBuild [(0, .int .i64 p0.H), (1, .func (.func 35) #[] #[.pointer (some ⟨b6, 0, none⟩), .pointer (some ⟨b65, 0, none⟩)])] [.int .i64 p0.H, .func (.func 35) #[] #[.pointer (some ⟨b6, 0, none⟩), .pointer (some ⟨b65, 0, none⟩)]] S (wN rfl) rfl (by kernel_rfl) (by kernel_rfl) rfl (by decide) (fun a S => ?_)
          obtain ⟨r66, hx67, h⟩ := bindSome h
          have S1 := S.mem
          have S1 := S1.learn (fRep r_api_Grid (.agg #[.int .i64 p0.W, .int .i64 p0.H, .slice ad3 p0.Bits.length cp4]) p0) ⟨_, rfl, S1.know (i := 0) (e := fRep (rL rB) (.slice ad3 p0.Bits.length cp4) p0.Bits) (by kernel_rfl)⟩
          have S1 := S1.shutB (r := r_api_Grid) (T := 24) (b := b6) (cs := [.int .i64 p0.W, .int .i64 p0.H, .slice ad3 p0.Bits.length cp4]) 1 (.agg #[.int .i64 p0.W, .int .i64 p0.H, .slice ad3 p0.Bits.length cp4]) p0 (by kernel_rfl) rfl (S1.know (i := 0) (e := fRep r_api_Grid (.agg #[.int .i64 p0.W, .int .i64 p0.H, .slice ad3 p0.Bits.length cp4]) p0) (by kernel_rfl))
          have S1 := S1.shutB (r := (rI .i64)) (T := 3) (b := b65) (cs := [.int .i64 s53]) 0 (.int .i64 s53) s53 (by kernel_rfl) rfl (rfl)
          refine sCallQ (X := Unit) (f := 34) (vs := [.agg #[.int .i64 p0.H, .func (.func 35) #[] #[.pointer (some ⟨b6, 0, none⟩), .pointer (some ⟨b65, 0, none⟩)]]]) (val := fun _ => .int .i64 r66) S (wN rfl) rfl callee34 (by kernel_rfl) (S1.quiet [1, 0] (by kernel_rfl)) (fun E1 w1 S1 => c_sett_line_turns_s1 E1 w1 p0.H p0 (.pointer (some ⟨b6, 0, none⟩)) s53 (.pointer (some ⟨b65, 0, none⟩)) r66 hx67 S1) rfl (by decide) (fun _ a w S => ?_)
          refine sLit (r := (rI .i64)) (T := 3) (xs := ([r66] : List Int)) [(0, .int .i64 r66)] 1 [.int .i64 r66] [.int .i64 r66] (.int .i64 0) 8 S (wN rfl) rfl (by kernel_rfl) Try.underlying27 (by kernel_rfl) (by decide) (by decide) (by kernel_rfl) rfl (fun E1 w1 hE => All.cons rfl (All.nil _ _ _)) rfl rfl (by decide) (fun a w ad68 cp69 S => ?_)
          obtain ⟨l70, hx71, h⟩ := bindSome h
          refine sApp (r := (rI .i64)) (T := 3) (xs := s50) (ys := ([r66] : List Int)) (v := .slice ad51 s50.length cp52) (u := .slice ad68 ([r66] : List Int).length cp69) 4 (.int .i64 0) 8 S (wN rfl) rfl Try.underlying27 (by kernel_rfl) rfl (by decide) (by kernel_rfl) (by kernel_rfl) (by kernel_rfl) (src_R (T := 3) 0 S.mem (by kernel_rfl)) hx71 rfl (by decide) (fun a w ad72 cp73 S => ?_)
          refine sMove (.slice ad72 l70.length cp73) S (wN rfl) (.inr rfl) (by kernel_rfl) rfl (by decide) (fun a S => ?_)
          refine leafL (leafB (leafT (hK63 _ _ ?_)))
          refine sRegion ?_
          refine sBin (.int .i64 (w64 (s53 + 1))) S (wN rfl) rfl (by kernel_rfl) (by kernel_rfl) (bAdd _ _ _ _ s53 1) rfl (by decide) (fun a S => ?_)
          refine sMove (.int .i64 (w64 (s53 + 1))) S (wN rfl) (.inl rfl) (by kernel_rfl) rfl (by decide) (fun a S => ?_)
          exact leafL (leafT (⟨(l70, w64 (s53 + 1)), (Option.some.inj h).symm, ⟨ad72, cp73, S.fix [3, 4, 0] [0] (by decide) (by kernel_rfl) (by kernel_rfl) (by kernel_rfl)⟩⟩))
        · refine sCondF (b := decide (s53 < p0.W)) S (by kernel_rfl) hc62 ?_
          obtain rfl := Option.some.inj h
          obtain rfl := hu54 _ rfl
          have h := g55
          clear g55
          try dsimp only at h
          exact wp_exit (xThen (xThen (xHit (leafT (⟨s50, Option.some.inj h, ad51, cp52, S.fix [1, 2] [] (by decide) (by kernel_rfl) (by kernel_rfl) (by kernel_rfl)⟩)))))
      · obtain ⟨o44, rfl, ad45, cp46, S⟩ := hI
        have h := g48
        clear g48
        try dsimp only at h
        refine sSeq (fun K74 hK74 => ?_)
        refine sRegion ?_
        refine sMove (.slice ad15 o14.length cp16) S (wN rfl) (.inl rfl) (by kernel_rfl) rfl (by decide) (fun a S => ?_)
        refine sMove (.slice ad45 o44.length cp46) S (wN rfl) (.inl rfl) (by kernel_rfl) rfl (by decide) (fun a S => ?_)
        refine sMove (.slice ad15 o14.length cp16) S (wN rfl) (.inr rfl) (by kernel_rfl) rfl (by decide) (fun a S => ?_)
        refine sMove (.slice ad45 o44.length cp46) S (wN rfl) (.inr rfl) (by kernel_rfl) rfl (by decide) (fun a S => ?_)
        refine sMove (.int .i64 0) S (wN rfl) (.inr rfl) (by kernel_rfl) rfl (by decide) (fun a S => ?_)
        refine leafL (leafT (hK74 _ _ ?_))
        obtain rfl := Option.some.inj h
        have S := S.shutR (r := (rI .i64)) (T := 3) (v := .slice ad15 o14.length cp16) (xs := o14) 0 (by kernel_rfl)
        have S := S.shutR (r := (rI .i64)) (T := 3) (v := .slice ad45 o44.length cp46) (xs := o44) 0 (by kernel_rfl)
        exact wp_ret (sRet (.tuple #[.slice ad15 o14.length cp16, .slice ad45 o44.length cp46, .int .i64 0]) S (rsl3 rfl (rvT (t := 2) (v := .slice ad15 o14.length cp16) S (by kernel_rfl)) (rvT (t := 3) (v := .slice ad45 o44.length cp46) S (by kernel_rfl)) (rvT (t := 4) (v := .int .i64 0) S (by kernel_rfl))) ⟨((.slice ad15 o14.length cp16), (.slice ad45 o44.length cp46)), rfl, S.mem.sel [] [1, 0] (by decide) (by kernel_rfl) (by kernel_rfl)⟩)

end Go.Proofs.Ytjndecalogklhaa
