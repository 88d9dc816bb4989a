import Derived.Test.YtjndecalogklhaaGTy
namespace Go.Proofs.Ytjndecalogklhaa
open Go.RowKit
set_option linter.unusedVariables false

def anc_raddleref01_Twin_0 : List (List Nat) := [[], [0], [], [2], [], [], [5], [4, 5, 6], [0, 1, 2, 3, 4, 5, 6, 7], [0, 1, 2, 3, 4, 5, 6, 7, 8]]
noncomputable def F_raddleref01_Twin (p0 : api_Grid) : Option api_Grid :=
  Option.bind (appO ([] : List Bool) p0.Bits) fun l11 =>
  some (api_Grid.mk p0.W p0.H l11)
def c_raddleref01_Twin_val (r : api_Grid) (x : Value) : Value := x
def c_raddleref01_Twin_D (r : api_Grid) (x : Value) : List Fact := [fRep r_api_Grid x r]
set_option maxHeartbeats 4000000 in
set_option maxRecDepth 100000 in
theorem c_raddleref01_Twin (E : Nat → Prop) (w0 : World) (p0 : api_Grid) (v0 : Value) (r : api_Grid) (h : F_raddleref01_Twin p0 = some r) (S : St0 E [] w0 w0 [] [fRep r_api_Grid (v0) p0]) :
    Calls Try.prog 10 #[v0] w0 (Ret (X := Value) E [] w0 (c_raddleref01_Twin_val r) (fun _ => []) (c_raddleref01_Twin_D r)) := by
  unfold F_raddleref01_Twin at h
  obtain ⟨u1, rfl, hu2⟩ := S.know (i := 0) (e := fRep r_api_Grid (v0) p0) (by kernel_rfl)
  have S := S.learn (fRep (rL rB) u1 p0.Bits) hu2
  obtain ⟨ad3, cp4, _, rfl, _⟩ := hu2
  refine sEnter (args := [.agg #[.int .i64 p0.W, .int .i64 p0.H, .slice ad3 p0.Bits.length cp4]]) 12 Try.func10 rfl rfl (by simp) S (fun a S => ?_)
  refine sSeq (fun K5 hK5 => ?_)
  refine sRegion ?_
  refine sBox (v := .agg #[.int .i64 p0.W, .int .i64 p0.H, .slice ad3 p0.Bits.length cp4]) S (wN rfl) rfl (by kernel_rfl) [.int .i64 p0.W, .int .i64 p0.H, .slice ad3 p0.Bits.length cp4] rfl rfl (by decide) (fun a b6 w S => ?_)
  refine sAlloc (.agg #[.int .i64 0, .int .i64 0, .slice none 0 0]) S (wN rfl) rfl (by kernel_rfl) [.int .i64 0, .int .i64 0, .slice none 0 0] rfl rfl (by decide) (fun a b7 w S => ?_)
  refine leafL (leafT (hK5 _ _ ?_))
  refine sSeq (fun K8 hK8 => ?_)
  obtain ⟨l11, hx12, h⟩ := bindSome h
  refine sDraw (nf := [4, 7, 9]) (W := [(0, 3, .pointer (some ⟨b6, 0, none⟩)), (1, 4, .int .i64 p0.W), (2, 5, .pointer (some ⟨b6, 1, none⟩)), (3, 6, .int .i64 p0.H), (5, 8, .pointer (some ⟨b6, 2, none⟩)), (6, 9, .slice ad3 p0.Bits.length cp4)]) (by kernel_rfl) S ?_
  refine node_by (A := anc_raddleref01_Twin_0) (nf := [4, 7, 9]) (Y := []) (W := [(0, 3, .pointer (some ⟨b6, 0, none⟩)), (1, 4, .int .i64 p0.W), (2, 5, .pointer (some ⟨b6, 1, none⟩)), (3, 6, .int .i64 p0.H), (5, 8, .pointer (some ⟨b6, 2, none⟩)), (6, 9, .slice ad3 p0.Bits.length cp4)]) 10 (by kernel_rfl) (by kernel_rfl) (by kernel_rfl) (by kernel_rfl) (by kernel_rfl) [0, 1, 2, 3, 5, 6] (by kernel_rfl) (by decide) (by decide) (aF 0 9 (by decide) ?_ (aF 1 8 (by decide) ?_ (aF 2 7 (by decide) ?_ (aF 3 6 (by decide) ?_ (aN 4 5 (by decide) ?_ (aF 5 4 (by decide) ?_ (aF 6 3 (by decide) ?_ (aB 7 2 4 (by decide) (aE 8 1 4 (by decide) (aB 9 0 4 (by decide) (trivial))))))))))) [] (fun q hq => by cases hq) (fun hY => absurd (hY 4 (by decide)) (by decide))
  · refine fI 3 (.pointer (some ⟨b6, 0, none⟩)) [(1, .pointer (some ⟨b6, 0, none⟩))] 0 [none] rfl rfl (by kernel_rfl) rfl (by kernel_rfl) (by kernel_rfl) fun G a w S => ?_
    refine sField (b := b6) (off := 0) 0 0 S (wN rfl) rfl (by kernel_rfl) (by kernel_rfl) rfl rfl (by decide) (fun a S => ?_)
    exact leafL ⟨rfl, S⟩
  · refine fI 4 (.int .i64 p0.W) [(3, .pointer (some ⟨b6, 0, none⟩))] 1 [some 0] rfl rfl (by kernel_rfl) rfl (by kernel_rfl) (by kernel_rfl) fun G a w S => ?_
    refine sLoad1 (p := b6) (off := 0) (T := 24) (vs := [.int .i64 p0.W, .int .i64 p0.H, .slice ad3 p0.Bits.length cp4]) 1 (.int .i64 p0.W) S (wN rfl) rfl (by kernel_rfl) (by kernel_rfl) (by kernel_rfl) rfl rfl (by decide) (fun a S => ?_)
    exact leafL ⟨rfl, S⟩
  · refine fI 5 (.pointer (some ⟨b6, 1, none⟩)) [(1, .pointer (some ⟨b6, 0, none⟩))] 2 [none] rfl rfl (by kernel_rfl) rfl (by kernel_rfl) (by kernel_rfl) fun G a w S => ?_
    refine sField (b := b6) (off := 0) 1 1 S (wN rfl) rfl (by kernel_rfl) (by kernel_rfl) rfl rfl (by decide) (fun a S => ?_)
    exact leafL ⟨rfl, S⟩
  · refine fI 6 (.int .i64 p0.H) [(5, .pointer (some ⟨b6, 1, none⟩))] 3 [some 2] rfl rfl (by kernel_rfl) rfl (by kernel_rfl) (by kernel_rfl) fun G a w S => ?_
    refine sLoad1 (p := b6) (off := 1) (T := 24) (vs := [.int .i64 p0.W, .int .i64 p0.H, .slice ad3 p0.Bits.length cp4]) 1 (.int .i64 p0.H) S (wN rfl) rfl (by kernel_rfl) (by kernel_rfl) (by kernel_rfl) rfl rfl (by decide) (fun a S => ?_)
    exact leafL ⟨rfl, S⟩
  · refine ⟨_, [], rfl, (srcs_of [] rfl (by kernel_rfl) (by kernel_rfl)), fun G a w S => ?_⟩
    refine sLit0 (α := Bool) rB (T := 4) S (wN rfl) rfl Try.underlying22 (by kernel_rfl) rfl (by decide) (fun a w ad15 cp16 S => ?_)
    refine leafL ⟨rfl, _, _, .inl ⟨7, (.slice ad15 ([] : List Bool).length cp16), [], rfl, S, hz_of (by kernel_rfl), ?_⟩⟩
    refine node_by (A := anc_raddleref01_Twin_0) (nf := [4, 7, 9]) (Y := [4]) 10 (by kernel_rfl) (by kernel_rfl) (by kernel_rfl) (by kernel_rfl) (by kernel_rfl) [4, 0, 1, 2, 3, 5, 6] (by kernel_rfl) (by decide) (by decide) (aF 0 9 (by decide) ?_ (aF 1 8 (by decide) ?_ (aF 2 7 (by decide) ?_ (aF 3 6 (by decide) ?_ (aY 4 5 (by decide) (aF 5 4 (by decide) ?_ (aF 6 3 (by decide) ?_ (aN 7 2 (by decide) ?_ (aE 8 1 7 (by decide) (aB 9 0 7 (by decide) (trivial))))))))))) [] (fun q hq => by cases hq) (fun hY => absurd (hY 7 (by decide)) (by decide))
    · refine fI 3 (.pointer (some ⟨b6, 0, none⟩)) [(1, .pointer (some ⟨b6, 0, none⟩))] 1 [none] rfl rfl (by kernel_rfl) rfl (by kernel_rfl) (by kernel_rfl) fun G a w S => ?_
      refine sField (b := b6) (off := 0) 0 0 S (wN rfl) rfl (by kernel_rfl) (by kernel_rfl) rfl rfl (by decide) (fun a S => ?_)
      exact leafL ⟨rfl, S⟩
    · refine fI 4 (.int .i64 p0.W) [(3, .pointer (some ⟨b6, 0, none⟩))] 2 [some 1] rfl rfl (by kernel_rfl) rfl (by kernel_rfl) (by kernel_rfl) fun G a w S => ?_
      refine sLoad1 (p := b6) (off := 0) (T := 24) (vs := [.int .i64 p0.W, .int .i64 p0.H, .slice ad3 p0.Bits.length cp4]) 2 (.int .i64 p0.W) S (wN rfl) rfl (by kernel_rfl) (by kernel_rfl) (by kernel_rfl) rfl rfl (by decide) (fun a S => ?_)
      exact leafL ⟨rfl, S⟩
    · refine fI 5 (.pointer (some ⟨b6, 1, none⟩)) [(1, .pointer (some ⟨b6, 0, none⟩))] 3 [none] rfl rfl (by kernel_rfl) rfl (by kernel_rfl) (by kernel_rfl) fun G a w S => ?_
      refine sField (b := b6) (off := 0) 1 1 S (wN rfl) rfl (by kernel_rfl) (by kernel_rfl) rfl rfl (by decide) (fun a S => ?_)
      exact leafL ⟨rfl, S⟩
    · refine fI 6 (.int .i64 p0.H) [(5, .pointer (some ⟨b6, 1, none⟩))] 4 [some 3] rfl rfl (by kernel_rfl) rfl (by kernel_rfl) (by kernel_rfl) fun G a w S => ?_
      refine sLoad1 (p := b6) (off := 1) (T := 24) (vs := [.int .i64 p0.W, .int .i64 p0.H, .slice ad3 p0.Bits.length cp4]) 2 (.int .i64 p0.H) S (wN rfl) rfl (by kernel_rfl) (by kernel_rfl) (by kernel_rfl) rfl rfl (by decide) (fun a S => ?_)
      exact leafL ⟨rfl, S⟩
    · refine fI 8 (.pointer (some ⟨b6, 2, none⟩)) [(1, .pointer (some ⟨b6, 0, none⟩))] 5 [none] rfl rfl (by kernel_rfl) rfl (by kernel_rfl) (by kernel_rfl) fun G a w S => ?_
      refine sField (b := b6) (off := 0) 2 2 S (wN rfl) rfl (by kernel_rfl) (by kernel_rfl) rfl rfl (by decide) (fun a S => ?_)
      exact leafL ⟨rfl, S⟩
    · refine fI 9 (.slice ad3 p0.Bits.length cp4) [(8, .pointer (some ⟨b6, 2, none⟩))] 6 [some 5] rfl rfl (by kernel_rfl) rfl (by kernel_rfl) (by kernel_rfl) fun G a w S => ?_
      refine sLoad1 (p := b6) (off := 2) (T := 24) (vs := [.int .i64 p0.W, .int .i64 p0.H, .slice ad3 p0.Bits.length cp4]) 2 (.slice ad3 p0.Bits.length cp4) S (wN rfl) rfl (by kernel_rfl) (by kernel_rfl) (by kernel_rfl) rfl rfl (by decide) (fun a S => ?_)
      exact leafL ⟨rfl, S⟩
    · refine ⟨_, [(7, .slice ad15 ([] : List Bool).length cp16), (9, .slice ad3 p0.Bits.length cp4)], rfl, (srcs_of [some 0, some 6] rfl (by kernel_rfl) (by kernel_rfl)), fun G a w S => ?_⟩
      refine sApp (r := rB) (T := 4) (xs := ([] : List Bool)) (ys := p0.Bits) (v := .slice ad15 ([] : List Bool).length cp16) (u := .slice ad3 p0.Bits.length cp4) 0 (.bool false) 1 S (wN rfl) rfl Try.underlying22 (by kernel_rfl) rfl (by decide) (by kernel_rfl) (by kernel_rfl) (by kernel_rfl) (src_D 0 S.mem (by kernel_rfl)) hx12 rfl (by decide) (fun a w ad17 cp18 S => ?_)
      refine leafL ⟨rfl, _, _, .inl ⟨10, (.slice ad17 l11.length cp18), [(8, 11, .agg #[.int .i64 p0.W, .int .i64 p0.H, .slice ad17 l11.length cp18])], rfl, S, hz_of (by kernel_rfl), ?_⟩⟩
      refine node_by (A := anc_raddleref01_Twin_0) (nf := [4, 7, 9]) (Y := [7, 4]) 10 (by kernel_rfl) (by kernel_rfl) (by kernel_rfl) (by kernel_rfl) (by kernel_rfl) [8, 7, 4, 0, 1, 2, 3, 5, 6] (by kernel_rfl) (by decide) (by decide) (aF 0 9 (by decide) ?_ (aF 1 8 (by decide) ?_ (aF 2 7 (by decide) ?_ (aF 3 6 (by decide) ?_ (aY 4 5 (by decide) (aD 5 4 7 (by decide) (aD 6 3 7 (by decide) (aY 7 2 (by decide) (aF 8 1 (by decide) ?_ (aN 9 0 (by decide) ?_ (trivial))))))))))) [] (fun q hq => by cases hq) (fun hY => absurd (hY 9 (by decide)) (by decide))
      · refine fI 3 (.pointer (some ⟨b6, 0, none⟩)) [(1, .pointer (some ⟨b6, 0, none⟩))] 3 [none] rfl rfl (by kernel_rfl) rfl (by kernel_rfl) (by kernel_rfl) fun G a w S => ?_
        refine sField (b := b6) (off := 0) 0 0 S (wN rfl) rfl (by kernel_rfl) (by kernel_rfl) rfl rfl (by decide) (fun a S => ?_)
        exact leafL ⟨rfl, S⟩
      · refine fI 4 (.int .i64 p0.W) [(3, .pointer (some ⟨b6, 0, none⟩))] 4 [some 3] rfl rfl (by kernel_rfl) rfl (by kernel_rfl) (by kernel_rfl) fun G a w S => ?_
        refine sLoad1 (p := b6) (off := 0) (T := 24) (vs := [.int .i64 p0.W, .int .i64 p0.H, .slice ad3 p0.Bits.length cp4]) 2 (.int .i64 p0.W) S (wN rfl) rfl (by kernel_rfl) (by kernel_rfl) (by kernel_rfl) rfl rfl (by decide) (fun a S => ?_)
        exact leafL ⟨rfl, S⟩
      · refine fI 5 (.pointer (some ⟨b6, 1, none⟩)) [(1, .pointer (some ⟨b6, 0, none⟩))] 5 [none] rfl rfl (by kernel_rfl) rfl (by kernel_rfl) (by kernel_rfl) fun G a w S => ?_
        refine sField (b := b6) (off := 0) 1 1 S (wN rfl) rfl (by kernel_rfl) (by kernel_rfl) rfl rfl (by decide) (fun a S => ?_)
        exact leafL ⟨rfl, S⟩
      · refine fI 6 (.int .i64 p0.H) [(5, .pointer (some ⟨b6, 1, none⟩))] 6 [some 5] rfl rfl (by kernel_rfl) rfl (by kernel_rfl) (by kernel_rfl) fun G a w S => ?_
        refine sLoad1 (p := b6) (off := 1) (T := 24) (vs := [.int .i64 p0.W, .int .i64 p0.H, .slice ad3 p0.Bits.length cp4]) 2 (.int .i64 p0.H) S (wN rfl) rfl (by kernel_rfl) (by kernel_rfl) (by kernel_rfl) rfl rfl (by decide) (fun a S => ?_)
        exact leafL ⟨rfl, S⟩
      · refine fI 11 (.agg #[.int .i64 p0.W, .int .i64 p0.H, .slice ad17 l11.length cp18]) [(4, .int .i64 p0.W), (6, .int .i64 p0.H), (10, .slice ad17 l11.length cp18)] 0 [some 4, some 6, some 1] rfl rfl (by kernel_rfl) rfl (by kernel_rfl) (by kernel_rfl) fun G a w S => ?_
        refine sBuild [(0, .int .i64 p0.W), (1, .int .i64 p0.H), (2, .slice ad17 l11.length cp18)] [.int .i64 p0.W, .int .i64 p0.H, .slice ad17 l11.length cp18] S (wN rfl) rfl (by kernel_rfl) (by kernel_rfl) rfl (by decide) (fun a S => ?_)
        exact leafL ⟨rfl, S⟩
      · refine ⟨_, [(2, .pointer (some ⟨b7, 0, none⟩)), (11, .agg #[.int .i64 p0.W, .int .i64 p0.H, .slice ad17 l11.length cp18])], rfl, (srcs_of [none, some 0] rfl (by kernel_rfl) (by kernel_rfl)), fun G a w S => ?_⟩
        refine sStore (p := b7) (off := 0) (T := 24) (vs := [.int .i64 0, .int .i64 0, .slice none 0 0]) (v := .agg #[.int .i64 p0.W, .int .i64 p0.H, .slice ad17 l11.length cp18]) 1 [.int .i64 p0.W, .int .i64 p0.H, .slice ad17 l11.length cp18] S (wN rfl) rfl (by kernel_rfl) (by kernel_rfl) rfl (by kernel_rfl) (by kernel_rfl) rfl (by simp) rfl (fun a w S => ?_)
        refine leafL ⟨rfl, _, _, .inr ⟨[], rfl, S, hz_of (by kernel_rfl), ?_⟩⟩
        refine node_by (A := anc_raddleref01_Twin_0) (nf := [4, 7, 9]) (Y := [9, 7, 4]) 10 (by kernel_rfl) (by kernel_rfl) (by kernel_rfl) (by kernel_rfl) (by kernel_rfl) [8, 7, 4, 0, 1, 2, 3, 5, 6] (by kernel_rfl) (by decide) (by decide) (aD 0 9 9 (by decide) (aD 1 8 9 (by decide) (aD 2 7 9 (by decide) (aD 3 6 9 (by decide) (aY 4 5 (by decide) (aD 5 4 9 (by decide) (aD 6 3 9 (by decide) (aY 7 2 (by decide) (aD 8 1 9 (by decide) (aY 9 0 (by decide) (trivial))))))))))) [(2, .pointer (some ⟨b7, 0, none⟩))] (fin_of [none] rfl (by kernel_rfl) (by kernel_rfl)) (fun _ a w S => ?_)
        · refine leafT (hK8 _ _ ?_)
          obtain rfl := Option.some.inj h
          have S := S.shutR (r := rB) (T := 4) (v := .slice ad17 l11.length cp18) (xs := l11) 1 (by kernel_rfl)
          have S := S.learn (fRep r_api_Grid (.agg #[.int .i64 p0.W, .int .i64 p0.H, .slice ad17 l11.length cp18]) (api_Grid.mk p0.W p0.H l11)) ⟨_, rfl, S.mem.know (i := 0) (e := fRep (rL rB) (.slice ad17 l11.length cp18) l11) (by kernel_rfl)⟩
          exact wp_ret (sRet (.agg #[.int .i64 p0.W, .int .i64 p0.H, .slice ad17 l11.length cp18]) S (rsl1 rfl (rvN (c := 2) (t := 24) (T := 24) (p := b7) 0 [.int .i64 p0.W, .int .i64 p0.H, .slice ad17 l11.length cp18] S (by kernel_rfl) (by kernel_rfl) (by kernel_rfl) (by kernel_rfl))) ⟨(.agg #[.int .i64 p0.W, .int .i64 p0.H, .slice ad17 l11.length cp18]), rfl, S.mem.sel [] [0] (by decide) (by kernel_rfl) (by kernel_rfl)⟩)
  · refine fI 8 (.pointer (some ⟨b6, 2, none⟩)) [(1, .pointer (some ⟨b6, 0, none⟩))] 4 [none] rfl rfl (by kernel_rfl) rfl (by kernel_rfl) (by kernel_rfl) fun G a w S => ?_
    refine sField (b := b6) (off := 0) 2 2 S (wN rfl) rfl (by kernel_rfl) (by kernel_rfl) rfl rfl (by decide) (fun a S => ?_)
    exact leafL ⟨rfl, S⟩
  · refine fI 9 (.slice ad3 p0.Bits.length cp4) [(8, .pointer (some ⟨b6, 2, none⟩))] 5 [some 4] rfl rfl (by kernel_rfl) rfl (by kernel_rfl) (by kernel_rfl) fun G a w S => ?_
    refine sLoad1 (p := b6) (off := 2) (T := 24) (vs := [.int .i64 p0.W, .int .i64 p0.H, .slice ad3 p0.Bits.length cp4]) 1 (.slice ad3 p0.Bits.length cp4) S (wN rfl) rfl (by kernel_rfl) (by kernel_rfl) (by kernel_rfl) rfl rfl (by decide) (fun a S => ?_)
    exact leafL ⟨rfl, S⟩

end Go.Proofs.Ytjndecalogklhaa
