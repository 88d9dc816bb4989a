import Derived.Test.YtjndecalogklhaaGTy
import Derived.Test.YtjndecalogklhaaG36
import Derived.Test.YtjndecalogklhaaG37
import Derived.Test.YtjndecalogklhaaG38
namespace Go.Proofs.Ytjndecalogklhaa
open Go.RowKit
set_option linter.unusedVariables false

def anc_raddleref24_Turns_0 : List (List Nat) := [[], [0], [0, 1], [], [3], [3, 4], [0, 1, 2], [0, 1, 2, 3, 4, 5, 6]]
def anc_raddleref24_Turns_1 : List (List Nat) := [[], [], [], [0, 1, 2], [], [], [5], [], [7], [0, 1, 2, 3, 5, 6, 7, 8], [], [0, 1, 2, 3, 4, 5, 6, 7, 8, 9, 10], [0, 1, 2, 3, 4, 5, 6, 7, 8, 9, 10, 11]]
def anc_raddleref24_Turns_2 : List (List Nat) := [[], [], [], [0, 1, 2], [], [], [], [6], [], [8], [0, 1, 2, 3, 6, 7, 8, 9], [0, 1, 2, 3, 4, 5, 6, 7, 8, 9, 10], [0, 1, 2, 3, 4, 5, 6, 7, 8, 9, 10, 11]]
noncomputable def raddleref24_Turns_l1 (p0 : api_Grid) (s52 : Int) : (List Int × List Int × Int) → Option ((List Int × List Int × Int) ⊕ (List Int × List Int)) := fun s0 => match s0 with
  | (s74, s77, s80) =>
    if decide (s80 < p0.W) then
      Option.bind (α := (List Int × List Int)) (
        Option.bind (α := List Int) (
          Option.bind (F_raddleref01_At p0 s80 s52) fun r107 =>
          Option.bind (F_raddleref01_Mod (w64 (s80 - 1)) p0.W) fun r109 =>
          Option.bind (F_raddleref01_At p0 r109 s52) fun r111 =>
          if r107 != r111 then
            Option.bind (idxO s74 s52) fun x114 =>
            Option.bind (setO s74 s52 (w64 (x114 + 1))) fun l122 =>
            some l122
          else
            some s74) fun o101 =>
        Option.bind (F_raddleref01_At p0 s80 s52) fun r125 =>
        Option.bind (F_raddleref01_Mod (w64 (s52 - 1)) p0.H) fun r127 =>
        Option.bind (F_raddleref01_At p0 s80 r127) fun r129 =>
        if r125 != r129 then
          Option.bind (idxO s77 s80) fun x132 =>
          Option.bind (setO s77 s80 (w64 (x132 + 1))) fun l140 =>
          some (o101, l140)
        else
          some (o101, s77)) fun (o93, o96) =>
      some (.inl (o93, o96, w64 (s80 + 1)))
    else
      some (.inr (s74, s77))
noncomputable def raddleref24_Turns_l2 (p0 : api_Grid) : (List Int × List Int × Int) → Option ((List Int × List Int × Int) ⊕ (List Int × List Int)) := fun s0 => match s0 with
  | (s46, s49, s52) =>
    if decide (s52 < p0.H) then
      Option.bind (α := (List Int × List Int)) (
        Option.bind (whileO (raddleref24_Turns_l1 p0 s52) (s46, s49, 0)) fun (e84, e87) =>
          some (e84, e87)) fun (o65, o68) =>
      some (.inl (o65, o68, w64 (s52 + 1)))
    else
      some (.inr (s46, s49))
noncomputable def F_raddleref24_Turns (p0 : api_Grid) : Option ((List Int) × (List Int) × Int) :=
  Option.bind (F_raddleref01_Check p0) fun r9 =>
  if r9 != 0 then
    some (([] : (List Int)), ([] : (List Int)), r9)
  else
    Option.bind (α := (List Int × List Int)) (
      Option.bind (makeO p0.H (0 : Int)) fun m23 =>
      Option.bind (makeO p0.W (0 : Int)) fun m27 =>
      some (m23, m27)) fun (o13, o16) =>
    Option.bind (α := (List Int × List Int)) (
      Option.bind (whileO (raddleref24_Turns_l2 p0) (o13, o16, 0)) fun (e56, e59) =>
        some (e56, e59)) fun (o37, o40) =>
    some (o37, o40, 0)
def c_raddleref24_Turns_val (r : ((List Int) × (List Int) × Int)) (x : Value × Value) : Value := .tuple #[x.1, x.2, .int .i64 r.2.2]
def c_raddleref24_Turns_D (r : ((List Int) × (List Int) × Int)) (x : Value × Value) : List Fact := [fRep (rL (rI .i64)) x.1 r.1, fRep (rL (rI .i64)) x.2 r.2.1]
set_option maxHeartbeats 4000000 in
set_option maxRecDepth 100000 in
theorem c_raddleref24_Turns (E : Nat → Prop) (w0 : World) (p0 : api_Grid) (v0 : Value) (r : ((List Int) × (List Int) × Int)) (h : F_raddleref24_Turns p0 = some r) (S : St0 E [] w0 w0 [] [fRep r_api_Grid (v0) p0]) :
    Calls Try.prog 12 #[v0] w0 (Ret (X := Value × Value) E [] w0 (c_raddleref24_Turns_val r) (fun _ => []) (c_raddleref24_Turns_D r)) := by
  unfold F_raddleref24_Turns at h
  obtain ⟨u1, rfl, hu2⟩ := S.know (i := 0) (e := fRep r_api_Grid (v0) p0) (by kernel_rfl)
  have S := S.learn (fRep (rL rB) u1 p0.Bits) hu2
  obtain ⟨ad3, cp4, _, rfl, _⟩ := hu2
  refine sEnter (args := [.agg #[.int .i64 p0.W, .int .i64 p0.H, .slice ad3 p0.Bits.length cp4]]) 72 Try.func12 rfl rfl (by simp) S (fun a S => ?_)
  refine sSeq (fun K5 hK5 => ?_)
  refine sRegion ?_
  refine sBox (v := .agg #[.int .i64 p0.W, .int .i64 p0.H, .slice ad3 p0.Bits.length cp4]) S (wN rfl) rfl (by kernel_rfl) [.int .i64 p0.W, .int .i64 p0.H, .slice ad3 p0.Bits.length cp4] rfl rfl (by decide) (fun a b6 w S => ?_)
  refine sMove (.slice none 0 0) S (wN rfl) (.inr rfl) (by kernel_rfl) rfl (by decide) (fun a S => ?_)
  refine sMove (.slice none 0 0) S (wN rfl) (.inr rfl) (by kernel_rfl) rfl (by decide) (fun a S => ?_)
  refine sMove (.int .i64 0) S (wN rfl) (.inr rfl) (by kernel_rfl) rfl (by decide) (fun a S => ?_)
  refine leafL (leafT (hK5 _ _ ?_))
  refine sSeq (fun K7 hK7 => ?_)
  refine sSeq (fun K8 hK8 => ?_)
  refine sRegion ?_
  refine sLoadN (p := b6) (off := 0) (T := 24) (vs := [.int .i64 p0.W, .int .i64 p0.H, .slice ad3 p0.Bits.length cp4]) 0 [.int .i64 p0.W, .int .i64 p0.H, .slice ad3 p0.Bits.length cp4] S (wN rfl) rfl (by kernel_rfl) (by kernel_rfl) (by kernel_rfl) (by kernel_rfl) rfl rfl (by decide) (fun a S => ?_)
  obtain ⟨r9, hx10, h⟩ := bindSome h
  have S1 := S.mem
  refine sCallQ (X := Unit) (f := 36) (vs := [.agg #[.int .i64 p0.W, .int .i64 p0.H, .slice ad3 p0.Bits.length cp4]]) (val := fun _ => .int .i64 r9) S (wN rfl) rfl callee36 (by kernel_rfl) (S1.quiet [1] (by kernel_rfl)) (fun E1 w1 S1 => c_raddleref01_Check E1 w1 p0 (.agg #[.int .i64 p0.W, .int .i64 p0.H, .slice ad3 p0.Bits.length cp4]) r9 hx10 S1) rfl (by decide) (fun _ a w S => ?_)
  refine sBin (.bool (r9 != 0)) S (wN rfl) rfl (by kernel_rfl) (by kernel_rfl) (bNe _ _ _ _ .i64 r9 0) rfl (by decide) (fun a S => ?_)
  refine leafL (leafT (hK8 _ _ ?_))
  rcases iteSome h with ⟨hc11, h⟩ | ⟨hc11, h⟩
  · refine sCondT (b := r9 != 0) S (by kernel_rfl) hc11 ?_
    refine sSeq (fun K12 hK12 => ?_)
    refine sRegion ?_
    refine sLoadN (p := b6) (off := 0) (T := 24) (vs := [.int .i64 p0.W, .int .i64 p0.H, .slice ad3 p0.Bits.length cp4]) 0 [.int .i64 p0.W, .int .i64 p0.H, .slice ad3 p0.Bits.length cp4] S (wN rfl) rfl (by kernel_rfl) (by kernel_rfl) (by kernel_rfl) (by kernel_rfl) rfl rfl (by decide) (fun a S => ?_)
    have S1 := S.mem
    refine sCallQ (X := Unit) (f := 36) (vs := [.agg #[.int .i64 p0.W, .int .i64 p0.H, .slice ad3 p0.Bits.length cp4]]) (val := fun _ => .int .i64 r9) S (wN rfl) rfl callee36 (by kernel_rfl) (S1.quiet [1] (by kernel_rfl)) (fun E1 w1 S1 => c_raddleref01_Check E1 w1 p0 (.agg #[.int .i64 p0.W, .int .i64 p0.H, .slice ad3 p0.Bits.length cp4]) r9 hx10 S1) rfl (by decide) (fun _ a w S => ?_)
    refine sMove (.slice none 0 0) S (wN rfl) (.inr rfl) (by kernel_rfl) rfl (by decide) (fun a S => ?_)
    refine sMove (.slice none 0 0) S (wN rfl) (.inr rfl) (by kernel_rfl) rfl (by decide) (fun a S => ?_)
    refine sMove (.int .i64 r9) S (wN rfl) (.inr rfl) (by kernel_rfl) rfl (by decide) (fun a S => ?_)
    refine leafL (leafT (hK12 _ _ ?_))
    obtain rfl := Option.some.inj h
    have S := S.learn (fRep (rL (rI .i64)) (.slice none 0 0) ([] : (List Int))) (rL_nil _ _ _)
    exact wp_ret (rThen (sRet (.tuple #[.slice none 0 0, .slice none 0 0, .int .i64 r9]) S (rsl3 rfl (rvT (t := 2) (v := .slice none 0 0) S (by kernel_rfl)) (rvT (t := 3) (v := .slice none 0 0) S (by kernel_rfl)) (rvT (t := 4) (v := .int .i64 r9) S (by kernel_rfl))) ⟨((.slice none 0 0), (.slice none 0 0)), rfl, S.mem.sel [] [0, 0] (by decide) (by kernel_rfl) (by kernel_rfl)⟩))
  · refine sCondF (b := r9 != 0) S (by kernel_rfl) hc11 ?_
    refine wp_skip (leafT (hK7 _ _ ?_))
    obtain ⟨t19, h, g20⟩ := bindSome h
    refine sCut (fun a w => ∃ o13, ∃ o16, (o13, o16) = t19 ∧ ∃ ad14, ∃ cp15, ∃ ad17, ∃ cp18, St E [] w0 72 a w [(1, .pointer (some ⟨b6, 0, none⟩)), (5, .slice ad14 o13.length cp15), (6, .slice ad17 o16.length cp18)] [eBox b6 24 [.int .i64 p0.W, .int .i64 p0.H, .slice ad3 p0.Bits.length cp4], eRow (rI .i64) 3 (.slice ad14 o13.length cp15) o13, eRow (rI .i64) 3 (.slice ad17 o16.length cp18) o16] [fRep (rL rB) (.slice ad3 p0.Bits.length cp4) p0.Bits]) ?_ (fun a w hI => ?_)
    · obtain ⟨m23, hx24, h⟩ := bindSome h
      obtain ⟨m27, hx28, h⟩ := bindSome h
      refine sDraw (nf := [2, 5]) (W := [(0, 14, .pointer (some ⟨b6, 1, none⟩)), (1, 15, .int .i64 p0.H), (3, 17, .pointer (some ⟨b6, 0, none⟩)), (4, 18, .int .i64 p0.W)]) (by kernel_rfl) S ?_
      refine node_by (A := anc_raddleref24_Turns_0) (nf := [2, 5]) (Y := []) (W := [(0, 14, .pointer (some ⟨b6, 1, none⟩)), (1, 15, .int .i64 p0.H), (3, 17, .pointer (some ⟨b6, 0, none⟩)), (4, 18, .int .i64 p0.W)]) 8 (by kernel_rfl) (by kernel_rfl) (by kernel_rfl) (by kernel_rfl) (by kernel_rfl) [0, 1, 3, 4] (by kernel_rfl) (by decide) (by decide) (aF 0 7 (by decide) ?_ (aF 1 6 (by decide) ?_ (aN 2 5 (by decide) ?_ (aF 3 4 (by decide) ?_ (aF 4 3 (by decide) ?_ (aN 5 2 (by decide) ?_ (aE 6 1 2 (by decide) (aE 7 0 2 (by decide) (trivial))))))))) [] (fun q hq => by cases hq) (fun hY => absurd (hY 2 (by decide)) (by decide))
      · refine fI 14 (.pointer (some ⟨b6, 1, none⟩)) [(1, .pointer (some ⟨b6, 0, none⟩))] 0 [none] rfl rfl (by kernel_rfl) rfl (by kernel_rfl) (by kernel_rfl) fun G a w S => ?_
        refine sField (b := b6) (off := 0) 1 1 S (wN rfl) rfl (by kernel_rfl) (by kernel_rfl) rfl rfl (by decide) (fun a S => ?_)
        exact leafL ⟨rfl, S⟩
      · refine fI 15 (.int .i64 p0.H) [(14, .pointer (some ⟨b6, 1, none⟩))] 1 [some 0] rfl rfl (by kernel_rfl) rfl (by kernel_rfl) (by kernel_rfl) fun G a w S => ?_
        refine sLoad1 (p := b6) (off := 1) (T := 24) (vs := [.int .i64 p0.W, .int .i64 p0.H, .slice ad3 p0.Bits.length cp4]) 0 (.int .i64 p0.H) S (wN rfl) rfl (by kernel_rfl) (by kernel_rfl) (by kernel_rfl) rfl rfl (by decide) (fun a S => ?_)
        exact leafL ⟨rfl, S⟩
      · refine ⟨_, [(15, .int .i64 p0.H)], rfl, (srcs_of [some 1] rfl (by kernel_rfl) (by kernel_rfl)), fun G a w S => ?_⟩
        refine sMake (r := (rI .i64)) (m := p0.H) (xs := m23) (.int .i64 0) (0 : Int) 8 S (wN rfl) rfl Try.underlying27 (by kernel_rfl) rfl (by decide) (fun _ _ => rfl) (by kernel_rfl) (by kernel_rfl) hx24 rfl (by decide) (fun a w ad29 cp30 S => ?_)
        refine leafL ⟨rfl, _, _, .inl ⟨16, (.slice ad29 m23.length cp30), [(6, 5, .slice ad29 m23.length cp30)], rfl, S, hz_of (by kernel_rfl), ?_⟩⟩
        refine node_by (A := anc_raddleref24_Turns_0) (nf := [2, 5]) (Y := [2]) 8 (by kernel_rfl) (by kernel_rfl) (by kernel_rfl) (by kernel_rfl) (by kernel_rfl) [6, 2, 0, 1, 3, 4] (by kernel_rfl) (by decide) (by decide) (aD 0 7 2 (by decide) (aD 1 6 2 (by decide) (aY 2 5 (by decide) (aF 3 4 (by decide) ?_ (aF 4 3 (by decide) ?_ (aN 5 2 (by decide) ?_ (aF 6 1 (by decide) ?_ (aE 7 0 5 (by decide) (trivial))))))))) [] (fun q hq => by cases hq) (fun hY => absurd (hY 5 (by decide)) (by decide))
        · refine fI 17 (.pointer (some ⟨b6, 0, none⟩)) [(1, .pointer (some ⟨b6, 0, none⟩))] 4 [none] rfl rfl (by kernel_rfl) rfl (by kernel_rfl) (by kernel_rfl) fun G a w S => ?_
          refine sField (b := b6) (off := 0) 0 0 S (wN rfl) rfl (by kernel_rfl) (by kernel_rfl) rfl rfl (by decide) (fun a S => ?_)
          exact leafL ⟨rfl, S⟩
        · refine fI 18 (.int .i64 p0.W) [(17, .pointer (some ⟨b6, 0, none⟩))] 5 [some 4] rfl rfl (by kernel_rfl) rfl (by kernel_rfl) (by kernel_rfl) fun G a w S => ?_
          refine sLoad1 (p := b6) (off := 0) (T := 24) (vs := [.int .i64 p0.W, .int .i64 p0.H, .slice ad3 p0.Bits.length cp4]) 1 (.int .i64 p0.W) S (wN rfl) rfl (by kernel_rfl) (by kernel_rfl) (by kernel_rfl) rfl rfl (by decide) (fun a S => ?_)
          exact leafL ⟨rfl, S⟩
        · refine ⟨_, [(18, .int .i64 p0.W)], rfl, (srcs_of [some 5] rfl (by kernel_rfl) (by kernel_rfl)), fun G a w S => ?_⟩
          refine sMake (r := (rI .i64)) (m := p0.W) (xs := m27) (.int .i64 0) (0 : Int) 8 S (wN rfl) rfl Try.underlying27 (by kernel_rfl) rfl (by decide) (fun _ _ => rfl) (by kernel_rfl) (by kernel_rfl) hx28 rfl (by decide) (fun a w ad31 cp32 S => ?_)
          refine leafL ⟨rfl, _, _, .inl ⟨19, (.slice ad31 m27.length cp32), [(7, 6, .slice ad31 m27.length cp32)], rfl, S, hz_of (by kernel_rfl), ?_⟩⟩
          refine node_by (A := anc_raddleref24_Turns_0) (nf := [2, 5]) (Y := [5, 2]) 8 (by kernel_rfl) (by kernel_rfl) (by kernel_rfl) (by kernel_rfl) (by kernel_rfl) [7, 5, 6, 2, 0, 1, 3, 4] (by kernel_rfl) (by decide) (by decide) (aD 0 7 2 (by decide) (aD 1 6 2 (by decide) (aY 2 5 (by decide) (aD 3 4 5 (by decide) (aD 4 3 5 (by decide) (aY 5 2 (by decide) (aF 6 1 (by decide) ?_ (aF 7 0 (by decide) ?_ (trivial))))))))) [(1, .pointer (some ⟨b6, 0, none⟩)), (5, .slice ad29 m23.length cp30), (6, .slice ad31 m27.length cp32)] (fin_of [none, some 2, some 0] rfl (by kernel_rfl) (by kernel_rfl)) (fun _ a w S => ?_)
          · refine fI 5 (.slice ad29 m23.length cp30) [(16, .slice ad29 m23.length cp30)] 2 [some 3] rfl rfl (by kernel_rfl) rfl (by kernel_rfl) (by kernel_rfl) fun G a w S => ?_
            refine sMove (.slice ad29 m23.length cp30) S (wN rfl) (.inr rfl) (by kernel_rfl) rfl (by decide) (fun a S => ?_)
            exact leafL ⟨rfl, S⟩
          · refine fI 6 (.slice ad31 m27.length cp32) [(19, .slice ad31 m27.length cp32)] 0 [some 1] rfl rfl (by kernel_rfl) rfl (by kernel_rfl) (by kernel_rfl) fun G a w S => ?_
            refine sMove (.slice ad31 m27.length cp32) S (wN rfl) (.inr rfl) (by kernel_rfl) rfl (by decide) (fun a S => ?_)
            exact leafL ⟨rfl, S⟩
          · exact leafT (⟨m23, m27, Option.some.inj h, ad29, cp30, ad31, cp32, S.fix [2, 1, 0] [0] (by decide) (by kernel_rfl) (by kernel_rfl) (by kernel_rfl)⟩)
        · refine fI 5 (.slice ad29 m23.length cp30) [(16, .slice ad29 m23.length cp30)] 0 [some 1] rfl rfl (by kernel_rfl) rfl (by kernel_rfl) (by kernel_rfl) fun G a w S => ?_
          refine sMove (.slice ad29 m23.length cp30) S (wN rfl) (.inr rfl) (by kernel_rfl) rfl (by decide) (fun a S => ?_)
          exact leafL ⟨rfl, S⟩
      · refine fI 17 (.pointer (some ⟨b6, 0, none⟩)) [(1, .pointer (some ⟨b6, 0, none⟩))] 2 [none] rfl rfl (by kernel_rfl) rfl (by kernel_rfl) (by kernel_rfl) fun G a w S => ?_
        refine sField (b := b6) (off := 0) 0 0 S (wN rfl) rfl (by kernel_rfl) (by kernel_rfl) rfl rfl (by decide) (fun a S => ?_)
        exact leafL ⟨rfl, S⟩
      · refine fI 18 (.int .i64 p0.W) [(17, .pointer (some ⟨b6, 0, none⟩))] 3 [some 2] rfl rfl (by kernel_rfl) rfl (by kernel_rfl) (by kernel_rfl) fun G a w S => ?_
        refine sLoad1 (p := b6) (off := 0) (T := 24) (vs := [.int .i64 p0.W, .int .i64 p0.H, .slice ad3 p0.Bits.length cp4]) 0 (.int .i64 p0.W) S (wN rfl) rfl (by kernel_rfl) (by kernel_rfl) (by kernel_rfl) rfl rfl (by decide) (fun a S => ?_)
        exact leafL ⟨rfl, S⟩
      · refine ⟨_, [(18, .int .i64 p0.W)], rfl, (srcs_of [some 3] rfl (by kernel_rfl) (by kernel_rfl)), fun G a w S => ?_⟩
        refine sMake (r := (rI .i64)) (m := p0.W) (xs := m27) (.int .i64 0) (0 : Int) 8 S (wN rfl) rfl Try.underlying27 (by kernel_rfl) rfl (by decide) (fun _ _ => rfl) (by kernel_rfl) (by kernel_rfl) hx28 rfl (by decide) (fun a w ad33 cp34 S => ?_)
        refine leafL ⟨rfl, _, _, .inl ⟨19, (.slice ad33 m27.length cp34), [], rfl, S, hz_of (by kernel_rfl), ?_⟩⟩
        refine node_by (A := anc_raddleref24_Turns_0) (nf := [2, 5]) (Y := [5]) 8 (by kernel_rfl) (by kernel_rfl) (by kernel_rfl) (by kernel_rfl) (by kernel_rfl) [5, 0, 1, 3, 4] (by kernel_rfl) (by decide) (by decide) (aF 0 7 (by decide) ?_ (aF 1 6 (by decide) ?_ (aN 2 5 (by decide) ?_ (aD 3 4 5 (by decide) (aD 4 3 5 (by decide) (aY 5 2 (by decide) (aE 6 1 2 (by decide) (aE 7 0 2 (by decide) (trivial))))))))) [] (fun q hq => by cases hq) (fun hY => absurd (hY 2 (by decide)) (by decide))
        · refine fI 14 (.pointer (some ⟨b6, 1, none⟩)) [(1, .pointer (some ⟨b6, 0, none⟩))] 1 [none] rfl rfl (by kernel_rfl) rfl (by kernel_rfl) (by kernel_rfl) fun G a w S => ?_
          refine sField (b := b6) (off := 0) 1 1 S (wN rfl) rfl (by kernel_rfl) (by kernel_rfl) rfl rfl (by decide) (fun a S => ?_)
          exact leafL ⟨rfl, S⟩
        · refine fI 15 (.int .i64 p0.H) [(14, .pointer (some ⟨b6, 1, none⟩))] 2 [some 1] rfl rfl (by kernel_rfl) rfl (by kernel_rfl) (by kernel_rfl) fun G a w S => ?_
          refine sLoad1 (p := b6) (off := 1) (T := 24) (vs := [.int .i64 p0.W, .int .i64 p0.H, .slice ad3 p0.Bits.length cp4]) 1 (.int .i64 p0.H) S (wN rfl) rfl (by kernel_rfl) (by kernel_rfl) (by kernel_rfl) rfl rfl (by decide) (fun a S => ?_)
          exact leafL ⟨rfl, S⟩
        · refine ⟨_, [(15, .int .i64 p0.H)], rfl, (srcs_of [some 2] rfl (by kernel_rfl) (by kernel_rfl)), fun G a w S => ?_⟩
          refine sMake (r := (rI .i64)) (m := p0.H) (xs := m23) (.int .i64 0) (0 : Int) 8 S (wN rfl) rfl Try.underlying27 (by kernel_rfl) rfl (by decide) (fun _ _ => rfl) (by kernel_rfl) (by kernel_rfl) hx24 rfl (by decide) (fun a w ad35 cp36 S => ?_)
          refine leafL ⟨rfl, _, _, .inl ⟨16, (.slice ad35 m23.length cp36), [(6, 5, .slice ad35 m23.length cp36), (7, 6, .slice ad33 m27.length cp34)], rfl, S, hz_of (by kernel_rfl), ?_⟩⟩
          refine node_by (A := anc_raddleref24_Turns_0) (nf := [2, 5]) (Y := [2, 5]) 8 (by kernel_rfl) (by kernel_rfl) (by kernel_rfl) (by kernel_rfl) (by kernel_rfl) [6, 7, 2, 5, 0, 1, 3, 4] (by kernel_rfl) (by decide) (by decide) (aD 0 7 2 (by decide) (aD 1 6 2 (by decide) (aY 2 5 (by decide) (aD 3 4 5 (by decide) (aD 4 3 5 (by decide) (aY 5 2 (by decide) (aF 6 1 (by decide) ?_ (aF 7 0 (by decide) ?_ (trivial))))))))) [(1, .pointer (some ⟨b6, 0, none⟩)), (5, .slice ad35 m23.length cp36), (6, .slice ad33 m27.length cp34)] (fin_of [none, some 0, some 1] rfl (by kernel_rfl) (by kernel_rfl)) (fun _ a w S => ?_)
          · refine fI 5 (.slice ad35 m23.length cp36) [(16, .slice ad35 m23.length cp36)] 0 [some 2] rfl rfl (by kernel_rfl) rfl (by kernel_rfl) (by kernel_rfl) fun G a w S => ?_
            refine sMove (.slice ad35 m23.length cp36) S (wN rfl) (.inr rfl) (by kernel_rfl) rfl (by decide) (fun a S => ?_)
            exact leafL ⟨rfl, S⟩
          · refine fI 6 (.slice ad33 m27.length cp34) [(19, .slice ad33 m27.length cp34)] 1 [some 3] rfl rfl (by kernel_rfl) rfl (by kernel_rfl) (by kernel_rfl) fun G a w S => ?_
            refine sMove (.slice ad33 m27.length cp34) S (wN rfl) (.inr rfl) (by kernel_rfl) rfl (by decide) (fun a S => ?_)
            exact leafL ⟨rfl, S⟩
          · exact leafT (⟨m23, m27, Option.some.inj h, ad35, cp36, ad33, cp34, S.fix [2, 0, 1] [0] (by decide) (by kernel_rfl) (by kernel_rfl) (by kernel_rfl)⟩)
    · obtain ⟨o13, o16, rfl, ad14, cp15, ad17, cp18, S⟩ := hI
      have h := g20
      clear g20
      try dsimp only at h
      obtain ⟨t43, h, g44⟩ := bindSome h
      refine sCut (fun a w => ∃ o37, ∃ o40, (o37, o40) = t43 ∧ ∃ ad38, ∃ cp39, ∃ ad41, ∃ cp42, St E [] w0 72 a w [(5, .slice ad38 o37.length cp39), (6, .slice ad41 o40.length cp42)] [eRow (rI .i64) 3 (.slice ad38 o37.length cp39) o37, eRow (rI .i64) 3 (.slice ad41 o40.length cp42) o40] []) ?_ (fun a w hI => ?_)
      · refine sSeq (fun K45 hK45 => ?_)
        refine sRegion ?_
        refine sMove (.int .i64 0) S (wN rfl) (.inr rfl) (by kernel_rfl) rfl (by decide) (fun a S => ?_)
        refine leafL (leafT (hK45 _ _ ?_))
        refine wp_block ?_
        obtain ⟨t55, hl, g54⟩ := bindSome h
        refine sLoop hl (fun s0 a w => match s0 with | (s46, s49, s52) => ∃ ad47, ∃ cp48, ∃ ad50, ∃ cp51, St E [] w0 72 a w [(1, .pointer (some ⟨b6, 0, none⟩)), (5, .slice ad47 s46.length cp48), (6, .slice ad50 s49.length cp51), (7, .int .i64 s52)] [eBox b6 24 [.int .i64 p0.W, .int .i64 p0.H, .slice ad3 p0.Bits.length cp4], eRow (rI .i64) 3 (.slice ad47 s46.length cp48) s46, eRow (rI .i64) 3 (.slice ad50 s49.length cp51) s49] [fRep (rL rB) (.slice ad3 p0.Bits.length cp4) p0.Bits]) ⟨ad14, cp15, ad17, cp18, S.fix [0, 1, 2] [0] (by decide) (by kernel_rfl) (by kernel_rfl) (by kernel_rfl)⟩ ?_
        clear hl h
        intro s0 a w c0 hI h hu53
        obtain ⟨s46, s49, s52⟩ := s0
        unfold raddleref24_Turns_l2 at h
        dsimp only at h hI
        obtain ⟨ad47, cp48, ad50, cp51, S⟩ := hI
        refine sSeq (fun K62 hK62 => ?_)
        refine sSeq (fun K63 hK63 => ?_)
        refine sRegion ?_
        refine sMove (.int .i64 s52) S (wN rfl) (.inl rfl) (by kernel_rfl) rfl (by decide) (fun a S => ?_)
        refine sField (b := b6) (off := 0) 1 1 S (wN rfl) rfl (by kernel_rfl) (by kernel_rfl) rfl rfl (by decide) (fun a S => ?_)
        refine sLoad1 (p := b6) (off := 1) (T := 24) (vs := [.int .i64 p0.W, .int .i64 p0.H, .slice ad3 p0.Bits.length cp4]) 0 (.int .i64 p0.H) S (wN rfl) rfl (by kernel_rfl) (by kernel_rfl) (by kernel_rfl) rfl rfl (by decide) (fun a S => ?_)
        refine sBin (.bool (decide (s52 < p0.H))) S (wN rfl) rfl (by kernel_rfl) (by kernel_rfl) (bLt _ _ _ _ .i64 s52 p0.H) rfl (by decide) (fun a S => ?_)
        refine leafL (leafT (hK63 _ _ ?_))
        rcases iteSome h with ⟨hc64, h⟩ | ⟨hc64, h⟩
        · refine sCondT (b := decide (s52 < p0.H)) S (by kernel_rfl) hc64 ?_
          refine wp_skip (leafT (hK62 _ _ ?_))
          obtain ⟨t71, h, g72⟩ := bindSome h
          refine sCut (fun a w => ∃ o65, ∃ o68, (o65, o68) = t71 ∧ ∃ ad66, ∃ cp67, ∃ ad69, ∃ cp70, St E [] w0 72 a w [(1, .pointer (some ⟨b6, 0, none⟩)), (5, .slice ad66 o65.length cp67), (6, .slice ad69 o68.length cp70), (7, .int .i64 s52)] [eBox b6 24 [.int .i64 p0.W, .int .i64 p0.H, .slice ad3 p0.Bits.length cp4], eRow (rI .i64) 3 (.slice ad66 o65.length cp67) o65, eRow (rI .i64) 3 (.slice ad69 o68.length cp70) o68] [fRep (rL rB) (.slice ad3 p0.Bits.length cp4) p0.Bits]) ?_ (fun a w hI => ?_)
          · refine wp_block ?_
            refine sSeq (fun K73 hK73 => ?_)
            refine sRegion ?_
            refine sMove (.int .i64 0) S (wN rfl) (.inr rfl) (by kernel_rfl) rfl (by decide) (fun a S => ?_)
            refine leafL (leafT (hK73 _ _ ?_))
            refine wp_block ?_
            obtain ⟨t83, hl, g82⟩ := bindSome h
            refine sLoop hl (fun s0 a w => match s0 with | (s74, s77, s80) => ∃ ad75, ∃ cp76, ∃ ad78, ∃ cp79, St E [] w0 72 a w [(1, .pointer (some ⟨b6, 0, none⟩)), (5, .slice ad75 s74.length cp76), (6, .slice ad78 s77.length cp79), (7, .int .i64 s52), (8, .int .i64 s80)] [eBox b6 24 [.int .i64 p0.W, .int .i64 p0.H, .slice ad3 p0.Bits.length cp4], eRow (rI .i64) 3 (.slice ad75 s74.length cp76) s74, eRow (rI .i64) 3 (.slice ad78 s77.length cp79) s77] [fRep (rL rB) (.slice ad3 p0.Bits.length cp4) p0.Bits]) ⟨ad47, cp48, ad50, cp51, S.fix [0, 1, 2] [0] (by decide) (by kernel_rfl) (by kernel_rfl) (by kernel_rfl)⟩ ?_
            clear hl h
            intro s0 a w c0 hI h hu81
            obtain ⟨s74, s77, s80⟩ := s0
            unfold raddleref24_Turns_l1 at h
            dsimp only at h hI
            obtain ⟨ad75, cp76, ad78, cp79, S⟩ := hI
            refine sSeq (fun K90 hK90 => ?_)
            refine sSeq (fun K91 hK91 => ?_)
            refine sRegion ?_
            refine sMove (.int .i64 s80) S (wN rfl) (.inl rfl) (by kernel_rfl) rfl (by decide) (fun a S => ?_)
            refine sField (b := b6) (off := 0) 0 0 S (wN rfl) rfl (by kernel_rfl) (by kernel_rfl) rfl rfl (by decide) (fun a S => ?_)
            refine sLoad1 (p := b6) (off := 0) (T := 24) (vs := [.int .i64 p0.W, .int .i64 p0.H, .slice ad3 p0.Bits.length cp4]) 0 (.int .i64 p0.W) S (wN rfl) rfl (by kernel_rfl) (by kernel_rfl) (by kernel_rfl) rfl rfl (by decide) (fun a S => ?_)
            refine sBin (.bool (decide (s80 < p0.W))) S (wN rfl) rfl (by kernel_rfl) (by kernel_rfl) (bLt _ _ _ _ .i64 s80 p0.W) rfl (by decide) (fun a S => ?_)
            refine leafL (leafT (hK91 _ _ ?_))
            rcases iteSome h with ⟨hc92, h⟩ | ⟨hc92, h⟩
            · refine sCondT (b := decide (s80 < p0.W)) S (by kernel_rfl) hc92 ?_
              refine wp_skip (leafT (hK90 _ _ ?_))
              obtain ⟨t99, h, g100⟩ := bindSome h
              refine sCut (fun a w => ∃ o93, ∃ o96, (o93, o96) = t99 ∧ ∃ ad94, ∃ cp95, ∃ ad97, ∃ cp98, St E [] w0 72 a w [(1, .pointer (some ⟨b6, 0, none⟩)), (5, .slice ad94 o93.length cp95), (6, .slice ad97 o96.length cp98), (7, .int .i64 s52), (8, .int .i64 s80)] [eBox b6 24 [.int .i64 p0.W, .int .i64 p0.H, .slice ad3 p0.Bits.length cp4], eRow (rI .i64) 3 (.slice ad94 o93.length cp95) o93, eRow (rI .i64) 3 (.slice ad97 o96.length cp98) o96] [fRep (rL rB) (.slice ad3 p0.Bits.length cp4) p0.Bits]) ?_ (fun a w hI => ?_)
              · refine wp_block ?_
                obtain ⟨t104, h, g105⟩ := bindSome h
                refine sCut (fun a w => ∃ o101, o101 = t104 ∧ ∃ ad102, ∃ cp103, St E [] w0 72 a w [(1, .pointer (some ⟨b6, 0, none⟩)), (5, .slice ad102 o101.length cp103), (6, .slice ad78 s77.length cp79), (7, .int .i64 s52), (8, .int .i64 s80)] [eBox b6 24 [.int .i64 p0.W, .int .i64 p0.H, .slice ad3 p0.Bits.length cp4], eRow (rI .i64) 3 (.slice ad102 o101.length cp103) o101, eRow (rI .i64) 3 (.slice ad78 s77.length cp79) s77] [fRep (rL rB) (.slice ad3 p0.Bits.length cp4) p0.Bits]) ?_ (fun a w hI => ?_)
                · refine sSeq (fun K106 hK106 => ?_)
                  obtain ⟨r107, hx108, h⟩ := bindSome h
                  obtain ⟨r109, hx110, h⟩ := bindSome h
                  obtain ⟨r111, hx112, h⟩ := bindSome h
                  refine sDraw (nf := []) (W := [(0, 32, .agg #[.int .i64 p0.W, .int .i64 p0.H, .slice ad3 p0.Bits.length cp4]), (1, 33, .int .i64 s80), (2, 34, .int .i64 s52), (3, 35, .bool r107), (4, 36, .agg #[.int .i64 p0.W, .int .i64 p0.H, .slice ad3 p0.Bits.length cp4]), (5, 37, .int .i64 s80), (6, 38, .int .i64 (w64 (s80 - 1))), (7, 39, .pointer (some ⟨b6, 0, none⟩)), (8, 40, .int .i64 p0.W), (9, 41, .int .i64 r109), (10, 42, .int .i64 s52), (11, 43, .bool r111), (12, 44, .bool (r107 != r111))]) (by kernel_rfl) S ?_
                  refine node_by (A := anc_raddleref24_Turns_1) (nf := []) (Y := []) (W := [(0, 32, .agg #[.int .i64 p0.W, .int .i64 p0.H, .slice ad3 p0.Bits.length cp4]), (1, 33, .int .i64 s80), (2, 34, .int .i64 s52), (3, 35, .bool r107), (4, 36, .agg #[.int .i64 p0.W, .int .i64 p0.H, .slice ad3 p0.Bits.length cp4]), (5, 37, .int .i64 s80), (6, 38, .int .i64 (w64 (s80 - 1))), (7, 39, .pointer (some ⟨b6, 0, none⟩)), (8, 40, .int .i64 p0.W), (9, 41, .int .i64 r109), (10, 42, .int .i64 s52), (11, 43, .bool r111), (12, 44, .bool (r107 != r111))]) 13 (by kernel_rfl) (by kernel_rfl) (by kernel_rfl) (by kernel_rfl) (by kernel_rfl) [0, 1, 2, 3, 4, 5, 6, 7, 8, 9, 10, 11, 12] (by kernel_rfl) (by decide) (by decide) (aF 0 12 (by decide) ?_ (aF 1 11 (by decide) ?_ (aF 2 10 (by decide) ?_ (aF 3 9 (by decide) ?_ (aF 4 8 (by decide) ?_ (aF 5 7 (by decide) ?_ (aF 6 6 (by decide) ?_ (aF 7 5 (by decide) ?_ (aF 8 4 (by decide) ?_ (aF 9 3 (by decide) ?_ (aF 10 2 (by decide) ?_ (aF 11 1 (by decide) ?_ (aF 12 0 (by decide) ?_ (trivial)))))))))))))) [(1, .pointer (some ⟨b6, 0, none⟩)), (5, .slice ad75 s74.length cp76), (6, .slice ad78 s77.length cp79), (7, .int .i64 s52), (8, .int .i64 s80), (44, .bool (r107 != r111))] (fin_of [none, none, none, none, none, some 12] rfl (by kernel_rfl) (by kernel_rfl)) (fun _ a w S => ?_)
                  · refine fI 32 (.agg #[.int .i64 p0.W, .int .i64 p0.H, .slice ad3 p0.Bits.length cp4]) [(1, .pointer (some ⟨b6, 0, none⟩))] 0 [none] rfl rfl (by kernel_rfl) rfl (by kernel_rfl) (by kernel_rfl) fun G a w S => ?_
                    refine sLoadN (p := b6) (off := 0) (T := 24) (vs := [.int .i64 p0.W, .int .i64 p0.H, .slice ad3 p0.Bits.length cp4]) 0 [.int .i64 p0.W, .int .i64 p0.H, .slice ad3 p0.Bits.length cp4] S (wN rfl) rfl (by kernel_rfl) (by kernel_rfl) (by kernel_rfl) (by kernel_rfl) rfl rfl (by decide) (fun a S => ?_)
                    exact leafL ⟨rfl, S⟩
                  · refine fI 33 (.int .i64 s80) [(8, .int .i64 s80)] 1 [none] rfl rfl (by kernel_rfl) rfl (by kernel_rfl) (by kernel_rfl) fun G a w S => ?_
                    refine sMove (.int .i64 s80) S (wN rfl) (.inl rfl) (by kernel_rfl) rfl (by decide) (fun a S => ?_)
                    exact leafL ⟨rfl, S⟩
                  · refine fI 34 (.int .i64 s52) [(7, .int .i64 s52)] 2 [none] rfl rfl (by kernel_rfl) rfl (by kernel_rfl) (by kernel_rfl) fun G a w S => ?_
                    refine sMove (.int .i64 s52) S (wN rfl) (.inl rfl) (by kernel_rfl) rfl (by decide) (fun a S => ?_)
                    exact leafL ⟨rfl, S⟩
                  · refine fI 35 (.bool r107) [(32, .agg #[.int .i64 p0.W, .int .i64 p0.H, .slice ad3 p0.Bits.length cp4]), (33, .int .i64 s80), (34, .int .i64 s52)] 3 [some 0, some 1, some 2] rfl rfl (by kernel_rfl) rfl (by kernel_rfl) (by kernel_rfl) fun G a w S => ?_
                    have S1 := S.mem
                    have S1 := S1.learn (fRep r_api_Grid (.agg #[.int .i64 p0.W, .int .i64 p0.H, .slice ad3 p0.Bits.length cp4]) p0) ⟨_, rfl, S1.know (i := 0) (e := fRep (rL rB) (.slice ad3 p0.Bits.length cp4) p0.Bits) (by kernel_rfl)⟩
                    refine sCallQ (X := Unit) (f := 37) (vs := [.agg #[.int .i64 p0.W, .int .i64 p0.H, .slice ad3 p0.Bits.length cp4], .int .i64 s80, .int .i64 s52]) (val := fun _ => .bool r107) S (wN rfl) rfl callee37 (by kernel_rfl) (S1.quiet [0] (by kernel_rfl)) (fun E1 w1 S1 => c_raddleref01_At E1 w1 p0 (.agg #[.int .i64 p0.W, .int .i64 p0.H, .slice ad3 p0.Bits.length cp4]) s80 s52 r107 hx108 S1) rfl (by decide) (fun _ a w S => ?_)
                    exact leafL ⟨rfl, S⟩
                  · refine fI 36 (.agg #[.int .i64 p0.W, .int .i64 p0.H, .slice ad3 p0.Bits.length cp4]) [(1, .pointer (some ⟨b6, 0, none⟩))] 4 [none] rfl rfl (by kernel_rfl) rfl (by kernel_rfl) (by kernel_rfl) fun G a w S => ?_
                    refine sLoadN (p := b6) (off := 0) (T := 24) (vs := [.int .i64 p0.W, .int .i64 p0.H, .slice ad3 p0.Bits.length cp4]) 0 [.int .i64 p0.W, .int .i64 p0.H, .slice ad3 p0.Bits.length cp4] S (wN rfl) rfl (by kernel_rfl) (by kernel_rfl) (by kernel_rfl) (by kernel_rfl) rfl rfl (by decide) (fun a S => ?_)
                    exact leafL ⟨rfl, S⟩
                  · refine fI 37 (.int .i64 s80) [(8, .int .i64 s80)] 5 [none] rfl rfl (by kernel_rfl) rfl (by kernel_rfl) (by kernel_rfl) fun G a w S => ?_
                    refine sMove (.int .i64 s80) S (wN rfl) (.inl rfl) (by kernel_rfl) rfl (by decide) (fun a S => ?_)
                    exact leafL ⟨rfl, S⟩
                  · refine fI 38 (.int .i64 (w64 (s80 - 1))) [(37, .int .i64 s80)] 6 [some 5] rfl rfl (by kernel_rfl) rfl (by kernel_rfl) (by kernel_rfl) fun G a w S => ?_
                    refine sBin (.int .i64 (w64 (s80 - 1))) S (wN rfl) rfl (by kernel_rfl) (by kernel_rfl) (bSub _ _ _ _ s80 1) rfl (by decide) (fun a S => ?_)
                    exact leafL ⟨rfl, S⟩
                  · refine fI 39 (.pointer (some ⟨b6, 0, none⟩)) [(1, .pointer (some ⟨b6, 0, none⟩))] 7 [none] rfl rfl (by kernel_rfl) rfl (by kernel_rfl) (by kernel_rfl) fun G a w S => ?_
                    refine sField (b := b6) (off := 0) 0 0 S (wN rfl) rfl (by kernel_rfl) (by kernel_rfl) rfl rfl (by decide) (fun a S => ?_)
                    exact leafL ⟨rfl, S⟩
                  · refine fI 40 (.int .i64 p0.W) [(39, .pointer (some ⟨b6, 0, none⟩))] 8 [some 7] rfl rfl (by kernel_rfl) rfl (by kernel_rfl) (by kernel_rfl) fun G a w S => ?_
                    refine sLoad1 (p := b6) (off := 0) (T := 24) (vs := [.int .i64 p0.W, .int .i64 p0.H, .slice ad3 p0.Bits.length cp4]) 0 (.int .i64 p0.W) S (wN rfl) rfl (by kernel_rfl) (by kernel_rfl) (by kernel_rfl) rfl rfl (by decide) (fun a S => ?_)
                    exact leafL ⟨rfl, S⟩
                  · refine fI 41 (.int .i64 r109) [(38, .int .i64 (w64 (s80 - 1))), (40, .int .i64 p0.W)] 9 [some 6, some 8] rfl rfl (by kernel_rfl) rfl (by kernel_rfl) (by kernel_rfl) fun G a w S => ?_
                    have S1 := S.mem
                    refine sCallQ (X := Unit) (f := 38) (vs := [.int .i64 (w64 (s80 - 1)), .int .i64 p0.W]) (val := fun _ => .int .i64 r109) S (wN rfl) rfl callee38 (by kernel_rfl) (S1.quiet [] (by kernel_rfl)) (fun E1 w1 S1 => c_raddleref01_Mod E1 w1 (w64 (s80 - 1)) p0.W r109 hx110 S1) rfl (by decide) (fun _ a w S => ?_)
                    exact leafL ⟨rfl, S⟩
                  · refine fI 42 (.int .i64 s52) [(7, .int .i64 s52)] 10 [none] rfl rfl (by kernel_rfl) rfl (by kernel_rfl) (by kernel_rfl) fun G a w S => ?_
                    refine sMove (.int .i64 s52) S (wN rfl) (.inl rfl) (by kernel_rfl) rfl (by decide) (fun a S => ?_)
                    exact leafL ⟨rfl, S⟩
                  · refine fI 43 (.bool r111) [(36, .agg #[.int .i64 p0.W, .int .i64 p0.H, .slice ad3 p0.Bits.length cp4]), (41, .int .i64 r109), (42, .int .i64 s52)] 11 [some 4, some 9, some 10] rfl rfl (by kernel_rfl) rfl (by kernel_rfl) (by kernel_rfl) fun G a w S => ?_
                    have S1 := S.mem
                    have S1 := S1.learn (fRep r_api_Grid (.agg #[.int .i64 p0.W, .int .i64 p0.H, .slice ad3 p0.Bits.length cp4]) p0) ⟨_, rfl, S1.know (i := 0) (e := fRep (rL rB) (.slice ad3 p0.Bits.length cp4) p0.Bits) (by kernel_rfl)⟩
                    refine sCallQ (X := Unit) (f := 37) (vs := [.agg #[.int .i64 p0.W, .int .i64 p0.H, .slice ad3 p0.Bits.length cp4], .int .i64 r109, .int .i64 s52]) (val := fun _ => .bool r111) S (wN rfl) rfl callee37 (by kernel_rfl) (S1.quiet [0] (by kernel_rfl)) (fun E1 w1 S1 => c_raddleref01_At E1 w1 p0 (.agg #[.int .i64 p0.W, .int .i64 p0.H, .slice ad3 p0.Bits.length cp4]) r109 s52 r111 hx112 S1) rfl (by decide) (fun _ a w S => ?_)
                    exact leafL ⟨rfl, S⟩
                  · refine fI 44 (.bool (r107 != r111)) [(35, .bool r107), (43, .bool r111)] 12 [some 3, some 11] rfl rfl (by kernel_rfl) rfl (by kernel_rfl) (by kernel_rfl) fun G a w S => ?_
                    refine sBin (.bool (r107 != r111)) S (wN rfl) rfl (by kernel_rfl) (by kernel_rfl) (bNeB _ _ _ _ Try.underlying4 r107 r111) rfl (by decide) (fun a S => ?_)
                    exact leafL ⟨rfl, S⟩
                  · refine leafT (hK106 _ _ ?_)
                    rcases iteSome h with ⟨hc113, h⟩ | ⟨hc113, h⟩
                    · refine sCondT (b := r107 != r111) S (by kernel_rfl) hc113 ?_
                      refine sRegion ?_
                      refine sMove (.slice ad75 s74.length cp76) S (wN rfl) (.inl rfl) (by kernel_rfl) rfl (by decide) (fun a S => ?_)
                      refine sMove (.int .i64 s52) S (wN rfl) (.inl rfl) (by kernel_rfl) rfl (by decide) (fun a S => ?_)
                      obtain ⟨x114, hx115, h⟩ := bindSome h
                      obtain ⟨q116, hq117, hp118⟩ := pIdxR (P := Try.prog) (r := (rI .i64)) (T := 3) (v := .slice ad75 s74.length cp76) (xs := s74) (j := s52) 27 3 1 S Try.underlying27 (by kernel_rfl) (by kernel_rfl) hx115
                      refine sIdxV (v := .slice ad75 s74.length cp76) (k := .i64) (j := s52) S (wN rfl) rfl (by kernel_rfl) (by kernel_rfl) hq117 rfl (by decide) (fun a S => ?_)
                      refine sLoadR (r := (rI .i64)) (T := 3) (xs := s74) (x := x114) (v := .slice ad75 s74.length cp76) (vq := q116) (j := s52) 1 (.int .i64 x114) S hp118 (wN rfl) rfl (by kernel_rfl) (by kernel_rfl) hx115 (fun _ _ _ h => h) (scal_I _) (by kernel_rfl) rfl (by decide) (fun a S => ?_)
                      refine sBin (.int .i64 (w64 (x114 + 1))) S (wN rfl) rfl (by kernel_rfl) (by kernel_rfl) (bAdd _ _ _ _ x114 1) rfl (by decide) (fun a S => ?_)
                      obtain ⟨q119, hq120, hp121⟩ := pIdxR (P := Try.prog) (r := (rI .i64)) (T := 3) (v := .slice ad75 s74.length cp76) (xs := s74) (j := s52) 27 3 1 S Try.underlying27 (by kernel_rfl) (by kernel_rfl) hx115
                      refine sIdxV (v := .slice ad75 s74.length cp76) (k := .i64) (j := s52) S (wN rfl) rfl (by kernel_rfl) (by kernel_rfl) hq120 rfl (by decide) (fun a S => ?_)
                      obtain ⟨l122, hx123, h⟩ := bindSome h
                      refine sStoreR (r := (rI .i64)) (T := 3) (xs := s74) (ys := l122) (y := (w64 (x114 + 1))) (v := .slice ad75 s74.length cp76) (vq := q119) (u := .int .i64 (w64 (x114 + 1))) (j := s52) 1 S hp121 (wN rfl) rfl (by kernel_rfl) (by kernel_rfl) (by kernel_rfl) rfl hx123 (by kernel_rfl) rfl (fun a w S => ?_)
                      rw [setO_v hx123 ad75 cp76] at S
                      exact leafL (leafT (⟨l122, Option.some.inj h, ad75, cp76, S.fix [1, 0, 2] [0] (by decide) (by kernel_rfl) (by kernel_rfl) (by kernel_rfl)⟩))
                    · refine sCondF (b := r107 != r111) S (by kernel_rfl) hc113 ?_
                      exact wp_skip (leafT (⟨s74, Option.some.inj h, ad75, cp76, S.fix [0, 1, 2] [0] (by decide) (by kernel_rfl) (by kernel_rfl) (by kernel_rfl)⟩))
                · obtain ⟨o101, rfl, ad102, cp103, S⟩ := hI
                  have h := g105
                  clear g105
                  try dsimp only at h
                  refine sSeq (fun K124 hK124 => ?_)
                  obtain ⟨r125, hx126, h⟩ := bindSome h
                  obtain ⟨r127, hx128, h⟩ := bindSome h
                  obtain ⟨r129, hx130, h⟩ := bindSome h
                  refine sDraw (nf := []) (W := [(0, 51, .agg #[.int .i64 p0.W, .int .i64 p0.H, .slice ad3 p0.Bits.length cp4]), (1, 52, .int .i64 s80), (2, 53, .int .i64 s52), (3, 54, .bool r125), (4, 55, .agg #[.int .i64 p0.W, .int .i64 p0.H, .slice ad3 p0.Bits.length cp4]), (5, 56, .int .i64 s80), (6, 57, .int .i64 s52), (7, 58, .int .i64 (w64 (s52 - 1))), (8, 59, .pointer (some ⟨b6, 1, none⟩)), (9, 60, .int .i64 p0.H), (10, 61, .int .i64 r127), (11, 62, .bool r129), (12, 63, .bool (r125 != r129))]) (by kernel_rfl) S ?_
                  refine node_by (A := anc_raddleref24_Turns_2) (nf := []) (Y := []) (W := [(0, 51, .agg #[.int .i64 p0.W, .int .i64 p0.H, .slice ad3 p0.Bits.length cp4]), (1, 52, .int .i64 s80), (2, 53, .int .i64 s52), (3, 54, .bool r125), (4, 55, .agg #[.int .i64 p0.W, .int .i64 p0.H, .slice ad3 p0.Bits.length cp4]), (5, 56, .int .i64 s80), (6, 57, .int .i64 s52), (7, 58, .int .i64 (w64 (s52 - 1))), (8, 59, .pointer (some ⟨b6, 1, none⟩)), (9, 60, .int .i64 p0.H), (10, 61, .int .i64 r127), (11, 62, .bool r129), (12, 63, .bool (r125 != r129))]) 13 (by kernel_rfl) (by kernel_rfl) (by kernel_rfl) (by kernel_rfl) (by kernel_rfl) [0, 1, 2, 3, 4, 5, 6, 7, 8, 9, 10, 11, 12] (by kernel_rfl) (by decide) (by decide) (aF 0 12 (by decide) ?_ (aF 1 11 (by decide) ?_ (aF 2 10 (by decide) ?_ (aF 3 9 (by decide) ?_ (aF 4 8 (by decide) ?_ (aF 5 7 (by decide) ?_ (aF 6 6 (by decide) ?_ (aF 7 5 (by decide) ?_ (aF 8 4 (by decide) ?_ (aF 9 3 (by decide) ?_ (aF 10 2 (by decide) ?_ (aF 11 1 (by decide) ?_ (aF 12 0 (by decide) ?_ (trivial)))))))))))))) [(1, .pointer (some ⟨b6, 0, none⟩)), (5, .slice ad102 o101.length cp103), (6, .slice ad78 s77.length cp79), (7, .int .i64 s52), (8, .int .i64 s80), (63, .bool (r125 != r129))] (fin_of [none, none, none, none, none, some 12] rfl (by kernel_rfl) (by kernel_rfl)) (fun _ a w S => ?_)
                  · refine fI 51 (.agg #[.int .i64 p0.W, .int .i64 p0.H, .slice ad3 p0.Bits.length cp4]) [(1, .pointer (some ⟨b6, 0, none⟩))] 0 [none] rfl rfl (by kernel_rfl) rfl (by kernel_rfl) (by kernel_rfl) fun G a w S => ?_
                    refine sLoadN (p := b6) (off := 0) (T := 24) (vs := [.int .i64 p0.W, .int .i64 p0.H, .slice ad3 p0.Bits.length cp4]) 0 [.int .i64 p0.W, .int .i64 p0.H, .slice ad3 p0.Bits.length cp4] S (wN rfl) rfl (by kernel_rfl) (by kernel_rfl) (by kernel_rfl) (by kernel_rfl) rfl rfl (by decide) (fun a S => ?_)
                    exact leafL ⟨rfl, S⟩
                  · refine fI 52 (.int .i64 s80) [(8, .int .i64 s80)] 1 [none] rfl rfl (by kernel_rfl) rfl (by kernel_rfl) (by kernel_rfl) fun G a w S => ?_
                    refine sMove (.int .i64 s80) S (wN rfl) (.inl rfl) (by kernel_rfl) rfl (by decide) (fun a S => ?_)
                    exact leafL ⟨rfl, S⟩
                  · refine fI 53 (.int .i64 s52) [(7, .int .i64 s52)] 2 [none] rfl rfl (by kernel_rfl) rfl (by kernel_rfl) (by kernel_rfl) fun G a w S => ?_
                    refine sMove (.int .i64 s52) S (wN rfl) (.inl rfl) (by kernel_rfl) rfl (by decide) (fun a S => ?_)
                    exact leafL ⟨rfl, S⟩
                  · refine fI 54 (.bool r125) [(51, .agg #[.int .i64 p0.W, .int .i64 p0.H, .slice ad3 p0.Bits.length cp4]), (52, .int .i64 s80), (53, .int .i64 s52)] 3 [some 0, some 1, some 2] rfl rfl (by kernel_rfl) rfl (by kernel_rfl) (by kernel_rfl) fun G a w S => ?_
                    have S1 := S.mem
                    have S1 := S1.learn (fRep r_api_Grid (.agg #[.int .i64 p0.W, .int .i64 p0.H, .slice ad3 p0.Bits.length cp4]) p0) ⟨_, rfl, S1.know (i := 0) (e := fRep (rL rB) (.slice ad3 p0.Bits.length cp4) p0.Bits) (by kernel_rfl)⟩
                    refine sCallQ (X := Unit) (f := 37) (vs := [.agg #[.int .i64 p0.W, .int .i64 p0.H, .slice ad3 p0.Bits.length cp4], .int .i64 s80, .int .i64 s52]) (val := fun _ => .bool r125) S (wN rfl) rfl callee37 (by kernel_rfl) (S1.quiet [0] (by kernel_rfl)) (fun E1 w1 S1 => c_raddleref01_At E1 w1 p0 (.agg #[.int .i64 p0.W, .int .i64 p0.H, .slice ad3 p0.Bits.length cp4]) s80 s52 r125 hx126 S1) rfl (by decide) (fun _ a w S => ?_)
                    exact leafL ⟨rfl, S⟩
                  · refine fI 55 (.agg #[.int .i64 p0.W, .int .i64 p0.H, .slice ad3 p0.Bits.length cp4]) [(1, .pointer (some ⟨b6, 0, none⟩))] 4 [none] rfl rfl (by kernel_rfl) rfl (by kernel_rfl) (by kernel_rfl) fun G a w S => ?_
                    refine sLoadN (p := b6) (off := 0) (T := 24) (vs := [.int .i64 p0.W, .int .i64 p0.H, .slice ad3 p0.Bits.length cp4]) 0 [.int .i64 p0.W, .int .i64 p0.H, .slice ad3 p0.Bits.length cp4] S (wN rfl) rfl (by kernel_rfl) (by kernel_rfl) (by kernel_rfl) (by kernel_rfl) rfl rfl (by decide) (fun a S => ?_)
                    exact leafL ⟨rfl, S⟩
                  · refine fI 56 (.int .i64 s80) [(8, .int .i64 s80)] 5 [none] rfl rfl (by kernel_rfl) rfl (by kernel_rfl) (by kernel_rfl) fun G a w S => ?_
                    refine sMove (.int .i64 s80) S (wN rfl) (.inl rfl) (by kernel_rfl) rfl (by decide) (fun a S => ?_)
                    exact leafL ⟨rfl, S⟩
                  · refine fI 57 (.int .i64 s52) [(7, .int .i64 s52)] 6 [none] rfl rfl (by kernel_rfl) rfl (by kernel_rfl) (by kernel_rfl) fun G a w S => ?_
                    refine sMove (.int .i64 s52) S (wN rfl) (.inl rfl) (by kernel_rfl) rfl (by decide) (fun a S => ?_)
                    exact leafL ⟨rfl, S⟩
                  · refine fI 58 (.int .i64 (w64 (s52 - 1))) [(57, .int .i64 s52)] 7 [some 6] rfl rfl (by kernel_rfl) rfl (by kernel_rfl) (by kernel_rfl) fun G a w S => ?_
                    refine sBin (.int .i64 (w64 (s52 - 1))) S (wN rfl) rfl (by kernel_rfl) (by kernel_rfl) (bSub _ _ _ _ s52 1) rfl (by decide) (fun a S => ?_)
                    exact leafL ⟨rfl, S⟩
                  · refine fI 59 (.pointer (some ⟨b6, 1, none⟩)) [(1, .pointer (some ⟨b6, 0, none⟩))] 8 [none] rfl rfl (by kernel_rfl) rfl (by kernel_rfl) (by kernel_rfl) fun G a w S => ?_
                    refine sField (b := b6) (off := 0) 1 1 S (wN rfl) rfl (by kernel_rfl) (by kernel_rfl) rfl rfl (by decide) (fun a S => ?_)
                    exact leafL ⟨rfl, S⟩
                  · refine fI 60 (.int .i64 p0.H) [(59, .pointer (some ⟨b6, 1, none⟩))] 9 [some 8] rfl rfl (by kernel_rfl) rfl (by kernel_rfl) (by kernel_rfl) fun G a w S => ?_
                    refine sLoad1 (p := b6) (off := 1) (T := 24) (vs := [.int .i64 p0.W, .int .i64 p0.H, .slice ad3 p0.Bits.length cp4]) 0 (.int .i64 p0.H) S (wN rfl) rfl (by kernel_rfl) (by kernel_rfl) (by kernel_rfl) rfl rfl (by decide) (fun a S => ?_)
                    exact leafL ⟨rfl, S⟩
                  · refine fI 61 (.int .i64 r127) [(58, .int .i64 (w64 (s52 - 1))), (60, .int .i64 p0.H)] 10 [some 7, some 9] rfl rfl (by kernel_rfl) rfl (by kernel_rfl) (by kernel_rfl) fun G a w S => ?_
                    have S1 := S.mem
                    refine sCallQ (X := Unit) (f := 38) (vs := [.int .i64 (w64 (s52 - 1)), .int .i64 p0.H]) (val := fun _ => .int .i64 r127) S (wN rfl) rfl callee38 (by kernel_rfl) (S1.quiet [] (by kernel_rfl)) (fun E1 w1 S1 => c_raddleref01_Mod E1 w1 (w64 (s52 - 1)) p0.H r127 hx128 S1) rfl (by decide) (fun _ a w S => ?_)
                    exact leafL ⟨rfl, S⟩
                  · refine fI 62 (.bool r129) [(55, .agg #[.int .i64 p0.W, .int .i64 p0.H, .slice ad3 p0.Bits.length cp4]), (56, .int .i64 s80), (61, .int .i64 r127)] 11 [some 4, some 5, some 10] rfl rfl (by kernel_rfl) rfl (by kernel_rfl) (by kernel_rfl) fun G a w S => ?_
                    have S1 := S.mem
                    have S1 := S1.learn (fRep r_api_Grid (.agg #[.int .i64 p0.W, .int .i64 p0.H, .slice ad3 p0.Bits.length cp4]) p0) ⟨_, rfl, S1.know (i := 0) (e := fRep (rL rB) (.slice ad3 p0.Bits.length cp4) p0.Bits) (by kernel_rfl)⟩
                    refine sCallQ (X := Unit) (f := 37) (vs := [.agg #[.int .i64 p0.W, .int .i64 p0.H, .slice ad3 p0.Bits.length cp4], .int .i64 s80, .int .i64 r127]) (val := fun _ => .bool r129) S (wN rfl) rfl callee37 (by kernel_rfl) (S1.quiet [0] (by kernel_rfl)) (fun E1 w1 S1 => c_raddleref01_At E1 w1 p0 (.agg #[.int .i64 p0.W, .int .i64 p0.H, .slice ad3 p0.Bits.length cp4]) s80 r127 r129 hx130 S1) rfl (by decide) (fun _ a w S => ?_)
                    exact leafL ⟨rfl, S⟩
                  · refine fI 63 (.bool (r125 != r129)) [(54, .bool r125), (62, .bool r129)] 12 [some 3, some 11] rfl rfl (by kernel_rfl) rfl (by kernel_rfl) (by kernel_rfl) fun G a w S => ?_
                    refine sBin (.bool (r125 != r129)) S (wN rfl) rfl (by kernel_rfl) (by kernel_rfl) (bNeB _ _ _ _ Try.underlying4 r125 r129) rfl (by decide) (fun a S => ?_)
                    exact leafL ⟨rfl, S⟩
                  · refine leafT (hK124 _ _ ?_)
                    rcases iteSome h with ⟨hc131, h⟩ | ⟨hc131, h⟩
                    · refine sCondT (b := r125 != r129) S (by kernel_rfl) hc131 ?_
                      refine sRegion ?_
                      refine sMove (.slice ad78 s77.length cp79) S (wN rfl) (.inl rfl) (by kernel_rfl) rfl (by decide) (fun a S => ?_)
                      refine sMove (.int .i64 s80) S (wN rfl) (.inl rfl) (by kernel_rfl) rfl (by decide) (fun a S => ?_)
                      obtain ⟨x132, hx133, h⟩ := bindSome h
                      obtain ⟨q134, hq135, hp136⟩ := pIdxR (P := Try.prog) (r := (rI .i64)) (T := 3) (v := .slice ad78 s77.length cp79) (xs := s77) (j := s80) 27 3 2 S Try.underlying27 (by kernel_rfl) (by kernel_rfl) hx133
                      refine sIdxV (v := .slice ad78 s77.length cp79) (k := .i64) (j := s80) S (wN rfl) rfl (by kernel_rfl) (by kernel_rfl) hq135 rfl (by decide) (fun a S => ?_)
                      refine sLoadR (r := (rI .i64)) (T := 3) (xs := s77) (x := x132) (v := .slice ad78 s77.length cp79) (vq := q134) (j := s80) 2 (.int .i64 x132) S hp136 (wN rfl) rfl (by kernel_rfl) (by kernel_rfl) hx133 (fun _ _ _ h => h) (scal_I _) (by kernel_rfl) rfl (by decide) (fun a S => ?_)
                      refine sBin (.int .i64 (w64 (x132 + 1))) S (wN rfl) rfl (by kernel_rfl) (by kernel_rfl) (bAdd _ _ _ _ x132 1) rfl (by decide) (fun a S => ?_)
                      obtain ⟨q137, hq138, hp139⟩ := pIdxR (P := Try.prog) (r := (rI .i64)) (T := 3) (v := .slice ad78 s77.length cp79) (xs := s77) (j := s80) 27 3 2 S Try.underlying27 (by kernel_rfl) (by kernel_rfl) hx133
                      refine sIdxV (v := .slice ad78 s77.length cp79) (k := .i64) (j := s80) S (wN rfl) rfl (by kernel_rfl) (by kernel_rfl) hq138 rfl (by decide) (fun a S => ?_)
                      obtain ⟨l140, hx141, h⟩ := bindSome h
                      refine sStoreR (r := (rI .i64)) (T := 3) (xs := s77) (ys := l140) (y := (w64 (x132 + 1))) (v := .slice ad78 s77.length cp79) (vq := q137) (u := .int .i64 (w64 (x132 + 1))) (j := s80) 2 S hp139 (wN rfl) rfl (by kernel_rfl) (by kernel_rfl) (by kernel_rfl) rfl hx141 (by kernel_rfl) rfl (fun a w S => ?_)
                      rw [setO_v hx141 ad78 cp79] at S
                      exact leafL (leafB (leafT (⟨o101, l140, Option.some.inj h, ad102, cp103, ad78, cp79, S.fix [1, 2, 0] [0] (by decide) (by kernel_rfl) (by kernel_rfl) (by kernel_rfl)⟩)))
                    · refine sCondF (b := r125 != r129) S (by kernel_rfl) hc131 ?_
                      exact wp_skip (leafB (leafT (⟨o101, s77, Option.some.inj h, ad102, cp103, ad78, cp79, S.fix [0, 1, 2] [0] (by decide) (by kernel_rfl) (by kernel_rfl) (by kernel_rfl)⟩)))
              · obtain ⟨o93, o96, rfl, ad94, cp95, ad97, cp98, S⟩ := hI
                have h := g100
                clear g100
                try dsimp only at h
                refine sRegion ?_
                refine sMove (.int .i64 s80) S (wN rfl) (.inl rfl) (by kernel_rfl) rfl (by decide) (fun a S => ?_)
                refine sBin (.int .i64 (w64 (s80 + 1))) S (wN rfl) rfl (by kernel_rfl) (by kernel_rfl) (bAdd _ _ _ _ s80 1) rfl (by decide) (fun a S => ?_)
                refine sMove (.int .i64 (w64 (s80 + 1))) S (wN rfl) (.inr rfl) (by kernel_rfl) rfl (by decide) (fun a S => ?_)
                exact leafL (leafT (⟨(o93, o96, w64 (s80 + 1)), (Option.some.inj h).symm, ⟨ad94, cp95, ad97, cp98, S.fix [0, 1, 2] [0] (by decide) (by kernel_rfl) (by kernel_rfl) (by kernel_rfl)⟩⟩))
            · refine sCondF (b := decide (s80 < p0.W)) S (by kernel_rfl) hc92 ?_
              obtain rfl := Option.some.inj h
              obtain rfl := hu81 _ rfl
              have h := g82
              clear g82
              try dsimp only at h
              exact wp_exit (xThen (xThen (xHit (leafB (leafT (⟨s74, s77, Option.some.inj h, ad75, cp76, ad78, cp79, S.fix [0, 1, 2] [0] (by decide) (by kernel_rfl) (by kernel_rfl) (by kernel_rfl)⟩))))))
          · obtain ⟨o65, o68, rfl, ad66, cp67, ad69, cp70, S⟩ := hI
            have h := g72
            clear g72
            try dsimp only at h
            refine sRegion ?_
            refine sMove (.int .i64 s52) S (wN rfl) (.inl rfl) (by kernel_rfl) rfl (by decide) (fun a S => ?_)
            refine sBin (.int .i64 (w64 (s52 + 1))) S (wN rfl) rfl (by kernel_rfl) (by kernel_rfl) (bAdd _ _ _ _ s52 1) rfl (by decide) (fun a S => ?_)
            refine sMove (.int .i64 (w64 (s52 + 1))) S (wN rfl) (.inr rfl) (by kernel_rfl) rfl (by decide) (fun a S => ?_)
            exact leafL (leafT (⟨(o65, o68, w64 (s52 + 1)), (Option.some.inj h).symm, ⟨ad66, cp67, ad69, cp70, S.fix [0, 1, 2] [0] (by decide) (by kernel_rfl) (by kernel_rfl) (by kernel_rfl)⟩⟩))
        · refine sCondF (b := decide (s52 < p0.H)) S (by kernel_rfl) hc64 ?_
          obtain rfl := Option.some.inj h
          obtain rfl := hu53 _ rfl
          have h := g54
          clear g54
          try dsimp only at h
          exact wp_exit (xThen (xThen (xHit (leafT (⟨s46, s49, Option.some.inj h, ad47, cp48, ad50, cp51, S.fix [1, 2] [] (by decide) (by kernel_rfl) (by kernel_rfl) (by kernel_rfl)⟩)))))
      · obtain ⟨o37, o40, rfl, ad38, cp39, ad41, cp42, S⟩ := hI
        have h := g44
        clear g44
        try dsimp only at h
        refine sSeq (fun K142 hK142 => ?_)
        refine sRegion ?_
        refine sMove (.slice ad38 o37.length cp39) S (wN rfl) (.inl rfl) (by kernel_rfl) rfl (by decide) (fun a S => ?_)
        refine sMove (.slice ad41 o40.length cp42) S (wN rfl) (.inl rfl) (by kernel_rfl) rfl (by decide) (fun a S => ?_)
        refine sMove (.slice ad38 o37.length cp39) S (wN rfl) (.inr rfl) (by kernel_rfl) rfl (by decide) (fun a S => ?_)
        refine sMove (.slice ad41 o40.length cp42) S (wN rfl) (.inr rfl) (by kernel_rfl) rfl (by decide) (fun a S => ?_)
        refine sMove (.int .i64 0) S (wN rfl) (.inr rfl) (by kernel_rfl) rfl (by decide) (fun a S => ?_)
        refine leafL (leafT (hK142 _ _ ?_))
        obtain rfl := Option.some.inj h
        have S := S.shutR (r := (rI .i64)) (T := 3) (v := .slice ad38 o37.length cp39) (xs := o37) 0 (by kernel_rfl)
        have S := S.shutR (r := (rI .i64)) (T := 3) (v := .slice ad41 o40.length cp42) (xs := o40) 0 (by kernel_rfl)
        exact wp_ret (sRet (.tuple #[.slice ad38 o37.length cp39, .slice ad41 o40.length cp42, .int .i64 0]) S (rsl3 rfl (rvT (t := 2) (v := .slice ad38 o37.length cp39) S (by kernel_rfl)) (rvT (t := 3) (v := .slice ad41 o40.length cp42) S (by kernel_rfl)) (rvT (t := 4) (v := .int .i64 0) S (by kernel_rfl))) ⟨((.slice ad38 o37.length cp39), (.slice ad41 o40.length cp42)), rfl, S.mem.sel [] [1, 0] (by decide) (by kernel_rfl) (by kernel_rfl)⟩)

end Go.Proofs.Ytjndecalogklhaa
