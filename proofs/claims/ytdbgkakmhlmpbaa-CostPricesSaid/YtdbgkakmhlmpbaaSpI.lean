/- Regions that draw their order: what holds whatever the order. -/
import Derived.Orders
import Derived.Test.YtdbgkakmhlmpbaaSpH
namespace Go.Proofs.Ytdbgkakmhlmpbaa
open Go.RowKit
set_option linter.unusedVariables false

section
variable {P : Program} (dq : List Deferred) (E : Nat → Prop) (M : List Nat) (w0 : World) (n : Nat) (ops : Array Oper) (A : List (List Nat)) (F0 : List (Nat × Value)) (nf : List Nat)

def doneB (X : Array Bool) (i : Nat) : Bool := X.getD i false
/-- what is done is closed under 'before' -/
def Clo (X : Array Bool) : Prop := X.size = ops.size ∧ ∀ (i : Nat) (o : Oper), ops[i]? = some o → doneB X i = true → ∀ e, e ∈ o.after → Region.binds .any e = true → doneB X e.on = true
/-- the lists A name what comes before an operation -/
def ancOk : Bool := (List.range ops.size).all fun i => ((ops[i]?).map fun o =>
  (o.after.all fun e => !Region.binds .any e || decide (e.on < i)) && (A.getD i []).all fun j => o.after.any fun e => Region.binds .any e && (e.on == j || (A.getD e.on []).contains j)).getD true
/-- the frame is as it must be when X is done; W: what the operations leave -/
def Agr (X : Array Bool) (a : Act) (W : List (Nat × Nat × Value)) : Prop :=
  a.defers = dq ∧ a.tmps.size = n ∧ (∀ i d v, (i, d, v) ∈ W → doneB X i = true → a.tmps[d]? = some v) ∧
  (∀ t v, look F0 t = some v → (∀ (i : Nat) (o : Oper), ops[i]? = some o → o.dst = some t → doneB X i = false) → a.tmps[t]? = some v)
def Node (P : Program) (Q : Exit → Act → World → Prop) (Y : List Nat) (W : List (Nat × Nat × Value)) (L : List Ent) (D : List Fact) : Prop :=
  ∀ fuel X a w, Clo ops X → (∀ j, j ∈ nf → doneB X j = decide (j ∈ Y)) → Agr dq n ops F0 X a W → St0 E M w0 w L D → X.count false ≤ fuel → wpAny P .any ops Q fuel X a w
/-- where an operation's operands come from -/
def Srcs (i : Nat) (W : List (Nat × Nat × Value)) (Fi : List (Nat × Value)) : Prop :=
  ∀ q, q ∈ Fi → (∃ j, j ∈ A.getD i [] ∧ (j, q.1, q.2) ∈ W) ∨ (look F0 q.1 = some q.2 ∧ ∀ (k : Nat) (o : Oper), ops[k]? = some o → o.dst = some q.1 → k = i ∨ i ∈ A.getD k [])
def Fin (W : List (Nat × Nat × Value)) (Fi : List (Nat × Value)) : Prop :=
  ∀ q, q ∈ Fi → (∃ j, j < ops.size ∧ (j, q.1, q.2) ∈ W) ∨ (look F0 q.1 = some q.2 ∧ ∀ (k : Nat) (o : Oper), ops[k]? = some o → o.dst = some q.1 → False)
def FixOk (P : Program) (W : List (Nat × Nat × Value)) (L : List Ent) (D : List Fact) (i : Nat) : Prop :=
  ∃ o d v Fi, ops[i]? = some o ∧ o.dst = some d ∧ (i, d, v) ∈ W ∧ Srcs ops A F0 i W Fi ∧
    ∀ G a w, St dq E M w0 n a w (Fi ++ G) L D → wpList P ops (fun e a' w' => e = .normal ∧ St dq E M w0 n a' w' ((d, v) :: (Fi ++ G)) L D) [o] a w
def NonOk (P : Program) (Q : Exit → Act → World → Prop) (Y : List Nat) (W : List (Nat × Nat × Value)) (L : List Ent) (D : List Fact) (i : Nat) : Prop :=
  ∃ o Fi, ops[i]? = some o ∧ Srcs ops A F0 i W Fi ∧
    ∀ G a w, St dq E M w0 n a w (Fi ++ G) L D → wpList P ops (fun e a' w' => e = .normal ∧ ∃ L' D',
      (∃ d v W2, o.dst = some d ∧ St dq E M w0 n a' w' ((d, v) :: (Fi ++ G)) L' D' ∧ (∀ z, z ∈ W2 → i ∈ A.getD z.1 []) ∧ Node dq E M w0 n ops F0 nf P Q (i :: Y) (W2 ++ (i, d, v) :: W) L' D') ∨
      (∃ W2, o.dst = none ∧ St dq E M w0 n a' w' (Fi ++ G) L' D' ∧ (∀ z, z ∈ W2 → i ∈ A.getD z.1 []) ∧ Node dq E M w0 n ops F0 nf P Q (i :: Y) (W2 ++ W) L' D')) [o] a w

variable {dq E M w0 n ops A F0 nf}
theorem anc_done (hA : ancOk ops A = true) {X : Array Bool} (hX : Clo ops X) : ∀ i o, ops[i]? = some o → (∀ e, e ∈ o.after → Region.binds .any e = true → doneB X e.on = true) → ∀ j, j ∈ A.getD i [] → doneB X j = true := by
  intro i
  induction i using Nat.strongRecOn with
  | _ i ih =>
    intro o ho hd j hj
    have hi : i < ops.size := (Array.getElem?_eq_some_iff.1 ho).1
    have h := List.all_eq_true.1 hA i (List.mem_range.2 hi)
    simp only [ho, Option.map_some, Option.getD_some, Bool.and_eq_true] at h
    have h2 := List.all_eq_true.1 h.2 j hj
    obtain ⟨e, he, hb⟩ := Array.any_eq_true'.1 h2
    simp only [Bool.and_eq_true, Bool.or_eq_true] at hb
    have hlt : e.on < i := by
      have := Array.all_eq_true'.1 h.1 e he
      simpa [hb.1] using this
    have hde := hd e he hb.1
    rcases hb.2 with hb2 | hb2
    · rw [← eq_of_beq hb2]; exact hde
    · have hlt2 : e.on < ops.size := by omega
      exact ih e.on hlt ops[e.on] (Array.getElem?_eq_getElem hlt2) (fun e' he' hb' => hX.2 e.on _ (Array.getElem?_eq_getElem hlt2) hde e' he' hb') j (List.contains_iff_mem.1 hb2)
theorem ready_spec {X : Array Bool} {i : Nat} (h : i ∈ Region.ready .any ops X) : ∃ o, ops[i]? = some o ∧ X.getD i true = false ∧ ∀ e, e ∈ o.after → Region.binds .any e = true → doneB X e.on = true := by
  simp only [Region.ready, List.mem_filter, List.mem_range, Bool.and_eq_true] at h
  obtain ⟨h1, h2, h3⟩ := h
  refine ⟨ops[i], Array.getElem?_eq_getElem h1, by simpa using h2, fun e he hb => ?_⟩
  simp only [Array.getElem?_eq_getElem h1, Option.map_some, Option.getD_some] at h3
  have := Array.all_eq_true'.1 h3 e he
  simpa [hb, doneB] using this
theorem ready_nil (hA : ancOk ops A = true) {X : Array Bool} (hX : Clo ops X) (h : Region.ready .any ops X = []) : ∀ i, i < ops.size → doneB X i = true := by
  intro i
  induction i using Nat.strongRecOn with
  | _ i ih =>
    intro hi
    cases hd : doneB X i with
    | true => rfl
    | false =>
      have hall := List.all_eq_true.1 hA i (List.mem_range.2 hi)
      simp only [Array.getElem?_eq_getElem hi, Option.map_some, Option.getD_some, Bool.and_eq_true] at hall
      have hmem : i ∈ Region.ready .any ops X := by
        simp only [Region.ready, List.mem_filter, List.mem_range, Bool.and_eq_true, Array.getElem?_eq_getElem hi, Option.map_some, Option.getD_some]
        refine ⟨hi, ?_, ?_⟩
        · have : i < X.size := by rw [hX.1]; exact hi
          simp [doneB, Array.getD, this] at hd ⊢
          exact hd
        · refine Array.all_eq_true'.2 fun e he => ?_
          have h1 := Array.all_eq_true'.1 hall.1 e he
          cases hb : Region.binds .any e with
          | false => rfl
          | true =>
            simp only [hb, Bool.not_true, Bool.false_or, decide_eq_true_eq] at h1
            have := ih e.on h1 (by omega)
            simpa [doneB] using this
      rw [h] at hmem
      cases hmem
theorem count_set {X : Array Bool} {i : Nat} (h : X.getD i true = false) : (X.setIfInBounds i true).count false + 1 = X.count false := by
  have hi : i < X.size := by
    rcases Nat.lt_or_ge i X.size with h1 | h1
    · exact h1
    · simp [Array.getD, Nat.not_lt.2 h1] at h
  have hx : X[i] = false := by simpa [Array.getD, hi] using h
  have hpos : 0 < X.count false := Array.count_pos_iff.2 (hx ▸ Array.getElem_mem hi)
  rw [Array.setIfInBounds_def, dif_pos hi, Array.count_set hi]
  simp [hx]
  omega
theorem done_set {X : Array Bool} {i : Nat} (hi : i < X.size) (j : Nat) : doneB (X.setIfInBounds i true) j = (decide (i = j) || doneB X j) := by
  unfold doneB
  simp only [Array.getD_eq_getD_getElem?, Array.getElem?_setIfInBounds]
  by_cases h : i = j
  · subst h; simp [hi]
  · simp [h]
def AllFrom (p : Nat → Prop) (k : Nat) : Nat → Prop
  | 0 => True
  | m + 1 => p k ∧ AllFrom p (k + 1) m
theorem AllFrom.cons {p : Nat → Prop} {k m : Nat} (h : p k) (g : AllFrom p (k + 1) m) : AllFrom p k (m + 1) := ⟨h, g⟩
theorem AllFrom.get {p : Nat → Prop} {k m : Nat} (h : AllFrom p k m) : ∀ i, k ≤ i → i < k + m → p i := by
  induction m generalizing k with
  | zero => intro i h1 h2; omega
  | succ m ih =>
    intro i h1 h2
    by_cases e : i = k
    · subst e; exact h.1
    · exact ih h.2 i (by omega) (by omega)
def snap (n : Nat) (a : Act) : List (Nat × Value) := (List.range n).map fun t => (t, a.tmps.getD t undef)
theorem look_app (F G : List (Nat × Value)) (t : Nat) : look (F ++ G) t = (look F t).orElse fun _ => look G t := by
  induction F with
  | nil => simp [look]
  | cons q F ih =>
    simp only [List.cons_append, look]
    split
    · simp
    · exact ih
theorem look_mem {F : List (Nat × Value)} {t : Nat} {v : Value} (h : look F t = some v) : (t, v) ∈ F := by
  induction F with
  | nil => simp [look] at h
  | cons q F ih =>
    simp only [look] at h
    split at h
    · rename_i e
      cases h
      subst e
      exact List.mem_cons_self
    · exact List.mem_cons_of_mem _ (ih h)
theorem look_snap {n : Nat} {a : Act} (hn : a.tmps.size = n) {t : Nat} (ht : t < n) : look (snap n a) t = a.tmps[t]? := by
  have key : ∀ (m k : Nat), k ≤ t → t < k + m → look ((List.range' k m).map fun t => (t, a.tmps.getD t undef)) t = some (a.tmps.getD t undef) := by
    intro m
    induction m with
    | zero => intro k h1 h2; omega
    | succ m ih =>
      intro k h1 h2
      simp only [List.range'_succ, List.map_cons, look]
      split
      · rename_i e; subst e; rfl
      · exact ih (k + 1) (by omega) (by omega)
  unfold snap
  rw [List.range_eq_range', key n 0 (Nat.zero_le _) (by omega)]
  simp [Array.getD_eq_getD_getElem?, hn, ht]
theorem frm_snap {a : Act} {Fi : List (Nat × Value)} (hd : a.defers = dq) (hn : a.tmps.size = n) (h : ∀ q, q ∈ Fi → a.tmps[q.1]? = some q.2) : Frm dq n a (Fi ++ snap n a) := by
  refine ⟨hd, hn, fun t v ht => ?_⟩
  rw [look_app] at ht
  cases hl : look Fi t with
  | some u =>
    rw [hl] at ht
    simp at ht
    subst ht
    exact h _ (look_mem hl)
  | none =>
    rw [hl] at ht
    simp only [Option.orElse_none] at ht
    have hm := look_mem ht
    simp only [snap, List.mem_map, List.mem_range] at hm
    obtain ⟨t', h1, h2⟩ := hm
    cases h2
    rw [← look_snap hn h1]
    exact ht

theorem look_all {a : Act} {Fi : List (Nat × Value)} (hn : a.tmps.size = n) (h : ∀ q, q ∈ Fi → a.tmps[q.1]? = some q.2) {t : Nat} {v : Value} (ht : a.tmps[t]? = some v) : look (Fi ++ snap n a) t = some v := by
  rw [look_app]
  cases hl : look Fi t with
  | some u =>
    have := h _ (look_mem hl)
    rw [ht] at this
    simpa using this.symm
  | none =>
    have hlt : t < n := by rw [← hn]; exact (Array.getElem?_eq_some_iff.1 ht).1
    simp only [Option.orElse_none]
    rw [look_snap hn hlt, ht]
theorem wp_change {o : Oper} {a : Act} {w : World} {K K' : Act → World → Prop} {Q Q' : Exit → Act → World → Prop} (h : ∀ a w, K a w → K' a w) (hp : ∀ c a w, ¬ Q (.panic c) a w) (hl : ¬ LetsOut Q) (hh : o.wp P a w K Q) : o.wp P a w K' Q' := by
  unfold Oper.wp at *
  generalize (execOp a.eval o).run P w = r at *
  cases r with
  | ok n w' =>
    cases n <;> simp only [Oper.upon] at hh ⊢ <;>
      first
        | exact h _ _ hh
        | exact Calls.mono hh (fun e w'' he => by cases e <;> first | exact h _ _ he | exact absurd he (hp _ _ _) | exact absurd he hl)
        | exact Rows.mono hh (fun _ _ he => h _ _ he)
  | halt x w' => cases x <;> simp only [Oper.upon] at hh ⊢ <;> first | exact hh | exact absurd hh (hp _ _ _)
theorem wpOp_of {o : Oper} {i : Nat} {a : Act} {w : World} {R : Act → World → Prop} {K : Act → World → Prop} {Q : Exit → Act → World → Prop} (ho : ops[i]? = some o) (h : wpList P ops (fun e a w => e = .normal ∧ R a w) [o] a w) (hR : ∀ a w, R a w → K a w) : wpOp P ops Q i K a w := by
  have hl : ¬ LetsOut (fun e a w => e = Exit.normal ∧ R a w) := by rintro ⟨a, w, h, _⟩; cases h
  have hp : ∀ c a w, ¬ ((Exit.panic c) = Exit.normal ∧ R a w) := by rintro c a w ⟨h, _⟩; cases h
  unfold wpOp
  simp only [ho]
  unfold wpList at h
  split
  · rename_i hw
    rw [if_pos hw] at h
    rcases h with h | ⟨_, h⟩
    · exact .inl (wp_change (fun a w h => hR a w h.2) hp hl h)
    · exact absurd h hl
  · rename_i hw
    rw [if_neg hw] at h
    exact hR _ _ h.2

theorem node_of {Q : Exit → Act → World → Prop} {Y : List Nat} {W : List (Nat × Nat × Value)} {L : List Ent} {D : List Fact} (hA : ancOk ops A = true) (hnf : ∀ j, j ∈ nf → j < ops.size) (hW : ∀ (i d : Nat) v, (i, d, v) ∈ W → ∃ o, ops[i]? = some o ∧ o.dst = some d)
    (huniq : ∀ (i j : Nat) (o p : Oper) (d : Nat), ops[i]? = some o → ops[j]? = some p → o.dst = some d → p.dst = some d → i = j) (hWf : ∀ (i d : Nat) v u, (i, d, v) ∈ W → (i, d, u) ∈ W → v = u) (hWn : ∀ (i d : Nat) v, (i, d, v) ∈ W → i ∈ nf → i ∈ Y)
    (hall : AllFrom (fun i => (i ∈ nf ∧ (i ∈ Y ∨ (∃ k, k ∈ A.getD i [] ∧ k ∈ nf ∧ k ∉ Y) ∨ NonOk dq E M w0 n ops A F0 nf P Q Y W L D i)) ∨ (i ∉ nf ∧ ((∃ y, y ∈ Y ∧ y ∈ nf ∧ i ∈ A.getD y []) ∨ (∃ k, k ∈ A.getD i [] ∧ k ∈ nf ∧ k ∉ Y) ∨ FixOk dq E M w0 n ops A F0 P W L D i))) 0 ops.size)
    (Ff : List (Nat × Value)) (hf : Fin ops F0 W Ff) (hend : (∀ j, j ∈ nf → j ∈ Y) → ∀ a w, St dq E M w0 n a w Ff L D → Q .normal a w) : Node dq E M w0 n ops F0 nf P Q Y W L D := by
  have hfin : ∀ X a w, Clo ops X → (∀ j, j ∈ nf → doneB X j = decide (j ∈ Y)) → Agr dq n ops F0 X a W → St0 E M w0 w L D → (∀ i, i < ops.size → doneB X i = true) → Q .normal a w := by
    intro X a w hX hN hg hS hdone
    refine hend (fun j hj => ?_) a w ⟨⟨hg.1, hg.2.1, fun t v ht => ?_⟩, hS⟩
    · have := hN j hj
      rw [hdone j (hnf j hj)] at this
      exact of_decide_eq_true this.symm
    · rcases hf _ (look_mem ht) with ⟨j, h1, h2⟩ | ⟨h1, h2⟩
      · exact hg.2.2.1 j t v h2 (hdone j h1)
      · exact hg.2.2.2 t v h1 (fun k o ho hd => (h2 k o ho hd).elim)
  intro fuel
  induction fuel with
  | zero =>
    intro X a w hX hN hg hS hc
    have hdone : ∀ i, i < ops.size → doneB X i = true := by
      intro i hi
      cases h : doneB X i with
      | true => rfl
      | false =>
        have hi' : i < X.size := by rw [hX.1]; exact hi
        have : X[i] = false := by simpa [doneB, Array.getD, hi'] using h
        have hpos : 0 < X.count false := Array.count_pos_iff.2 (this ▸ Array.getElem_mem hi')
        omega
    have hr : Region.ready .any ops X = [] := by
      cases h : Region.ready .any ops X with
      | nil => rfl
      | cons i l =>
        obtain ⟨o, ho, h1, _⟩ := ready_spec (ops := ops) (X := X) (i := i) (by rw [h]; exact List.mem_cons_self)
        have hi : i < ops.size := (Array.getElem?_eq_some_iff.1 ho).1
        have h2 := hdone i hi
        have hi' : i < X.size := by rw [hX.1]; exact hi
        simp [doneB, Array.getD, hi'] at h1 h2
        rw [h1] at h2; cases h2
    exact ⟨hr, hfin X a w hX hN hg hS hdone⟩
  | succ fuel ih =>
    intro X a w hX hN hg hS hc
    refine ⟨fun hr => hfin X a w hX hN hg hS (ready_nil hA hX hr), fun i hi => ?_⟩
    obtain ⟨o, ho, hx, hdeps⟩ := ready_spec hi
    have hlt : i < ops.size := (Array.getElem?_eq_some_iff.1 ho).1
    have hltX : i < X.size := by rw [hX.1]; exact hlt
    have hnd : doneB X i = false := by simpa [doneB, Array.getD, hltX] using hx
    have hanc := anc_done hA hX i o ho hdeps
    have hset := done_set (X := X) hltX
    have hX' : Clo ops (X.setIfInBounds i true) := by
      refine ⟨by simp [hX.1], fun k p hp hk e he hb => ?_⟩
      rw [hset] at hk ⊢
      by_cases hik : i = k
      · subst hik
        rw [ho] at hp; cases hp
        rw [hdeps e he hb]; simp
      · simp [hik] at hk
        rw [hX.2 k p hp hk e he hb]; simp
    have hc' : (X.setIfInBounds i true).count false ≤ fuel := by have := count_set hx; omega
    have hv : ∀ Fi, Srcs ops A F0 i W Fi → ∀ q, q ∈ Fi → a.tmps[q.1]? = some q.2 := by
      intro Fi hs q hq
      rcases hs q hq with ⟨j, h1, h2⟩ | ⟨h1, h2⟩
      · exact hg.2.2.1 j _ _ h2 (hanc j h1)
      · refine hg.2.2.2 _ _ h1 (fun k p hp hd => ?_)
        rcases h2 k p hp hd with rfl | h3
        · exact hnd
        · cases hk : doneB X k with
          | false => rfl
          | true =>
            have := anc_done hA hX k p hp (fun e he hb => hX.2 k p hp hk e he hb) i h3
            rw [hnd] at this; cases this
    -- what stays behind the step
    have hstay : ∀ Fi a' F' w', (∀ q, q ∈ Fi → a.tmps[q.1]? = some q.2) → St dq E M w0 n a' w' (F' ++ (Fi ++ snap n a)) L D ∨ True → True := fun _ _ _ _ _ _ => trivial
    clear hstay
    have hold : ∀ (i2 d2 : Nat) (v2 : Value), (i2, d2, v2) ∈ W → i2 ≠ i → doneB (X.setIfInBounds i true) i2 = true → a.tmps[d2]? = some v2 ∧ o.dst ≠ some d2 := by
      intro i2 d2 v2 hm hne hd2
      rw [hset] at hd2
      have hd3 : doneB X i2 = true := by simpa [Ne.symm hne] using hd2
      refine ⟨hg.2.2.1 _ _ _ hm hd3, fun hod => ?_⟩
      obtain ⟨p, hp, hpd⟩ := hW _ _ _ hm
      exact hne (huniq i2 i p o d2 hp ho hpd hod)
    have hbase : ∀ (t : Nat) (v : Value), look F0 t = some v → (∀ (k : Nat) (p : Oper), ops[k]? = some p → p.dst = some t → doneB (X.setIfInBounds i true) k = false) → a.tmps[t]? = some v ∧ o.dst ≠ some t := by
      intro t v hl hk
      refine ⟨hg.2.2.2 t v hl (fun k p hp hpd => ?_), fun hod => ?_⟩
      · have := hk k p hp hpd
        rw [hset] at this
        simp at this
        exact this.2
      · have := hk i o ho hod
        rw [hset] at this
        simp at this
    rcases hall.get i (Nat.zero_le _) (by omega) with ⟨hin, h⟩ | ⟨hin, h⟩
    · have hiY : i ∉ Y := fun hy => by
        have := hN i hin
        rw [hnd] at this
        simp [hy] at this
      rcases h with h | ⟨k, h1, h2, h3⟩ | h
      · exact absurd h hiY
      · have := hN k h2
        rw [hanc k h1] at this
        simp [h3] at this
      · obtain ⟨o', Fi, ho', hs, hstep⟩ := h
        rw [ho] at ho'; cases ho'
        have hval := hv Fi hs
        refine wpOp_of ho (hstep (snap n a) a w ⟨frm_snap hg.1 hg.2.1 hval, hS⟩) fun a' w' hr => ?_
        obtain ⟨L', D', hr⟩ := hr
        have hN' : ∀ j, j ∈ nf → doneB (X.setIfInBounds i true) j = decide (j ∈ i :: Y) := by
          intro j hj
          rw [hset, hN j hj]
          by_cases e : i = j
          · subst e; simp
          · have : ¬ j = i := fun h => e h.symm
            simp [e, this]
        have hW2 : ∀ (W2 : List (Nat × Nat × Value)), (∀ z, z ∈ W2 → i ∈ A.getD z.1 []) → ∀ (i2 d2 : Nat) (v2 : Value), (i2, d2, v2) ∈ W2 → doneB (X.setIfInBounds i true) i2 = true → False := by
          intro W2 hz i2 d2 v2 hm hd2
          have hi2 := hz _ hm
          rw [hset] at hd2
          by_cases e : i = i2
          · have h9 := hanc i (by rw [e] at hi2 ⊢; exact hi2)
            rw [hnd] at h9; cases h9
          · have hd3 : doneB X i2 = true := by simpa [e] using hd2
            have h8 : i2 < ops.size := by
              rcases Nat.lt_or_ge i2 X.size with h | h
              · rw [← hX.1]; exact h
              · simp [doneB, Array.getD, Nat.not_lt.2 h] at hd3
            have h9 := anc_done hA hX i2 ops[i2] (Array.getElem?_eq_getElem h8) (fun e he hb => hX.2 i2 _ (Array.getElem?_eq_getElem h8) hd3 e he hb) i hi2
            rw [hnd] at h9; cases h9
        rcases hr with ⟨d, v, W2, hod, hSt, hz, hNode⟩ | ⟨W2, hod, hSt, hz, hNode⟩
        · refine hNode fuel _ a' w' hX' hN' ⟨hSt.frm.defers, hSt.frm.size, fun i2 d2 v2 hm hd2 => ?_, fun t u hl hk => ?_⟩ hSt.mem hc'
          · rcases List.mem_append.1 hm with hm0 | hm1
            · exact (hW2 W2 hz _ _ _ hm0 hd2).elim
            rcases List.mem_cons.1 hm1 with hm2 | hm2
            · cases hm2
              exact hSt.frm.get d v (by simp [look])
            · have hne : i2 ≠ i := fun e => hiY (hWn _ _ _ (e ▸ hm2) hin)
              obtain ⟨h1, h2⟩ := hold i2 d2 v2 hm2 hne hd2
              refine hSt.frm.get d2 v2 ?_
              simp only [look]
              rw [if_neg (fun e => h2 (by rw [hod, e]))]
              exact look_all hg.2.1 hval h1
          · obtain ⟨h1, h2⟩ := hbase t u hl hk
            refine hSt.frm.get t u ?_
            simp only [look]
            rw [if_neg (fun e => h2 (by rw [hod, e]))]
            exact look_all hg.2.1 hval h1
        · refine hNode fuel _ a' w' hX' hN' ⟨hSt.frm.defers, hSt.frm.size, fun i2 d2 v2 hm hd2 => ?_, fun t u hl hk => ?_⟩ hSt.mem hc'
          · rcases List.mem_append.1 hm with hm0 | hm
            · exact (hW2 W2 hz _ _ _ hm0 hd2).elim
            have hne : i2 ≠ i := fun e => hiY (hWn _ _ _ (e ▸ hm) hin)
            exact hSt.frm.get d2 v2 (look_all hg.2.1 hval (hold i2 d2 v2 hm hne hd2).1)
          · exact hSt.frm.get t u (look_all hg.2.1 hval (hbase t u hl hk).1)
    · rcases h with ⟨y, h1, h2, h3⟩ | ⟨k, h1, h2, h3⟩ | h
      · -- done already
        have hy : doneB X y = true := by rw [hN y h2]; simpa using h1
        obtain ⟨p, hp⟩ : ∃ p, ops[y]? = some p := ⟨_, Array.getElem?_eq_getElem (hnf y h2)⟩
        have := anc_done hA hX y p hp (fun e he hb => hX.2 y p hp hy e he hb) i h3
        rw [hnd] at this; cases this
      · have := hN k h2
        rw [hanc k h1] at this
        simp [h3] at this
      · obtain ⟨o', d, v, Fi, ho', hod, hmem, hs, hstep⟩ := h
        rw [ho] at ho'; cases ho'
        have hval := hv Fi hs
        refine wpOp_of ho (hstep (snap n a) a w ⟨frm_snap hg.1 hg.2.1 hval, hS⟩) fun a' w' hSt => ?_
        have hN' : ∀ j, j ∈ nf → doneB (X.setIfInBounds i true) j = decide (j ∈ Y) := by
          intro j hj
          rw [hset, ← hN j hj]
          have : ¬ i = j := fun e => hin (e ▸ hj)
          simp [this]
        refine ih _ a' w' hX' hN' ⟨hSt.frm.defers, hSt.frm.size, fun i2 d2 v2 hm hd2 => ?_, fun t u hl hk => ?_⟩ hSt.mem hc'
        · by_cases hne : i2 = i
          · subst hne
            obtain ⟨p, hp, hpd⟩ := hW _ _ _ hm
            rw [ho] at hp; cases hp
            rw [hod] at hpd; cases hpd
            rw [hWf _ _ _ _ hm hmem]
            exact hSt.frm.get d v (by simp [look])
          · obtain ⟨h1, h2⟩ := hold i2 d2 v2 hm hne hd2
            refine hSt.frm.get d2 v2 ?_
            simp only [look]
            rw [if_neg (fun e => h2 (by rw [hod, e]))]
            exact look_all hg.2.1 hval h1
        · obtain ⟨h1, h2⟩ := hbase t u hl hk
          refine hSt.frm.get t u ?_
          simp only [look]
          rw [if_neg (fun e => h2 (by rw [hod, e]))]
          exact look_all hg.2.1 hval h1
/-- a region that draws its order -/
theorem sDraw {id : Nat} {l : List Oper} {Q : Exit → Act → World → Prop} {a : Act} {w : World} {L : List Ent} {D : List Fact} {W : List (Nat × Nat × Value)} (hm : P.follows .mixedOrders = true) (S : St dq E M w0 n a w F0 L D)
    (h : Node dq E M w0 n l.toArray F0 nf P Q [] W L D) : (Code.region id l.toArray true).wp P Q a w := by
  refine wp_region_any hm ?_
  refine h _ _ a _ ⟨by simp, fun i o ho hd => ?_⟩ (fun j hj => ?_) ⟨S.frm.defers, S.frm.size, fun i d v hm hd => ?_, fun t v hl _ => S.frm.get t v hl⟩ S.mem.drew ?_
  · simp [doneB, Array.getD] at hd
  · simp [doneB, Array.getD]
  · simp [doneB, Array.getD] at hd
  · simp

/-- the checks by reckoning -/
def srcOne (F0 : List (Nat × Value)) (W : List (Nat × Nat × Value)) (t : Nat) : Option Nat → Option (Nat × Value)
  | some k => (W[k]?).map (·.2)
  | none => (look F0 t).map (t, ·)
def srcB1 (F0 : List (Nat × Value)) (W : List (Nat × Nat × Value)) (cert : List (Option Nat)) (Fi : List (Nat × Value)) : List (Option (Nat × Value)) :=
  (cert.zip Fi).map fun c => srcOne F0 W c.2.1 c.1
def srcB2 (ops : Array Oper) (A : List (List Nat)) (i : Nat) (ixs : List Nat) (cert : List (Option Nat)) (ts : List Nat) : Bool :=
  (cert.zip ts).all fun c => match c.1 with
    | some k => ((ixs[k]?).map fun j => (A.getD i []).contains j).getD false
    | none => (List.range ops.size).all fun k => ((ops[k]?).map fun o => (match o.dst with | some d => Nat.beq d c.2 | none => false)).getD false == false || k == i || (A.getD k []).contains i
def finB2 (ops : Array Oper) (ixs : List Nat) (cert : List (Option Nat)) (ts : List Nat) : Bool :=
  (cert.zip ts).all fun c => match c.1 with
    | some k => ((ixs[k]?).map fun j => decide (j < ops.size)).getD false
    | none => (List.range ops.size).all fun k => ((ops[k]?).map fun o => (match o.dst with | some d => Nat.beq d c.2 | none => false)).getD false == false
theorem zip_mem {α β : Type} {cs : List α} {bs : List β} (hl : cs.length = bs.length) {b : β} (hb : b ∈ bs) : ∃ a, (a, b) ∈ cs.zip bs := by
  induction bs generalizing cs with
  | nil => simp at hb
  | cons y bs ih =>
    cases cs with
    | nil => simp at hl
    | cons x cs =>
      rcases List.mem_cons.1 hb with rfl | hb
      · exact ⟨x, by simp⟩
      · obtain ⟨a, ha⟩ := ih (by simpa using hl) hb
        exact ⟨a, by simp [ha]⟩
theorem zip_map {α : Type} {cs : List α} {Fi : List (Nat × Value)} {a : α} {q : Nat × Value} (h : (a, q) ∈ cs.zip Fi) : (a, q.1) ∈ cs.zip (Fi.map (·.1)) := by
  induction Fi generalizing cs with
  | nil => simp at h
  | cons y Fi ih =>
    cases cs with
    | nil => simp at h
    | cons x cs =>
      simp only [List.zip_cons_cons, List.mem_cons, List.map_cons] at h ⊢
      rcases h with h | h
      · cases h; exact .inl rfl
      · exact .inr (ih h)
theorem src_get {F0 : List (Nat × Value)} {W : List (Nat × Nat × Value)} {cert : List (Option Nat)} {Fi : List (Nat × Value)} (h1 : srcB1 F0 W cert Fi = Fi.map some) {c : Option Nat} {q : Nat × Value} (h : (c, q) ∈ cert.zip Fi) :
    srcOne F0 W q.1 c = some q := by
  unfold srcB1 at h1
  induction Fi generalizing cert with
  | nil => simp at h
  | cons y Fi ih =>
    cases cert with
    | nil => simp at h
    | cons x cert =>
      simp only [List.zip_cons_cons, List.map_cons, List.cons.injEq, List.mem_cons] at h1 h
      rcases h with h | h
      · cases h; exact h1.1
      · exact ih h1.2 h
theorem writer_none {o : Oper} {t : Nat} (h : (match o.dst with | some d => Nat.beq d t | none => false) = false) : o.dst ≠ some t := fun e => by
  rw [e] at h
  simp at h
theorem srcs_of {i : Nat} {W : List (Nat × Nat × Value)} {Fi : List (Nat × Value)} (cert : List (Option Nat)) (hl : cert.length = Fi.length) (h1 : srcB1 F0 W cert Fi = Fi.map some) (h2 : srcB2 ops A i (W.map (·.1)) cert (Fi.map (·.1)) = true) : Srcs ops A F0 i W Fi := by
  intro q hq
  obtain ⟨c, hc⟩ := zip_mem hl hq
  have h3 := src_get h1 hc
  have h4 := List.all_eq_true.1 h2 _ (zip_map hc)
  cases c with
  | some k =>
    simp only [srcOne] at h3 h4
    cases hk : W[k]? with
    | none => rw [hk] at h3; cases h3
    | some z =>
      rw [hk] at h3
      simp only [Option.map_some, Option.some.injEq] at h3
      simp only [List.getElem?_map, hk, Option.map_some, Option.getD_some] at h4
      refine .inl ⟨z.1, List.contains_iff_mem.1 h4, ?_⟩
      rw [← h3]
      exact List.mem_of_getElem? hk
  | none =>
    simp only [srcOne] at h3 h4
    refine .inr ⟨?_, fun k o ho hd => ?_⟩
    · cases hl : look F0 q.1 with
      | none => rw [hl] at h3; cases h3
      | some v => rw [hl] at h3; simp at h3; rw [← h3]
    · have hk : k < ops.size := (Array.getElem?_eq_some_iff.1 ho).1
      have := List.all_eq_true.1 h4 k (List.mem_range.2 hk)
      simp only [ho, Option.map_some, Option.getD_some, Bool.or_eq_true, beq_iff_eq] at this
      rcases this with (h | h) | h
      · exact absurd hd (writer_none h)
      · exact .inl h
      · exact .inr (List.contains_iff_mem.1 h)
theorem fin_of {W : List (Nat × Nat × Value)} {Fi : List (Nat × Value)} (cert : List (Option Nat)) (hl : cert.length = Fi.length) (h1 : srcB1 F0 W cert Fi = Fi.map some) (h2 : finB2 ops (W.map (·.1)) cert (Fi.map (·.1)) = true) : Fin ops F0 W Fi := by
  intro q hq
  obtain ⟨c, hc⟩ := zip_mem hl hq
  have h3 := src_get h1 hc
  have h4 := List.all_eq_true.1 h2 _ (zip_map hc)
  cases c with
  | some k =>
    simp only [srcOne] at h3 h4
    cases hk : W[k]? with
    | none => rw [hk] at h3; cases h3
    | some z =>
      rw [hk] at h3
      simp only [Option.map_some, Option.some.injEq] at h3
      simp only [List.getElem?_map, hk, Option.map_some, Option.getD_some, decide_eq_true_eq] at h4
      refine .inl ⟨z.1, h4, ?_⟩
      rw [← h3]
      exact List.mem_of_getElem? hk
  | none =>
    simp only [srcOne] at h3 h4
    refine .inr ⟨?_, fun k o ho hd => ?_⟩
    · cases hl : look F0 q.1 with
      | none => rw [hl] at h3; cases h3
      | some v => rw [hl] at h3; simp at h3; rw [← h3]
    · have hk : k < ops.size := (Array.getElem?_eq_some_iff.1 ho).1
      have := List.all_eq_true.1 h4 k (List.mem_range.2 hk)
      simp only [ho, Option.map_some, Option.getD_some, beq_iff_eq] at this
      exact absurd hd (writer_none this)
def uniqB (ops : Array Oper) : Bool := (List.range ops.size).all fun i => (List.range i).all fun j => match (ops[i]?).bind (·.dst), (ops[j]?).bind (·.dst) with | some d, some e => !Nat.beq d e | _, _ => true
theorem uniq_lt (h : uniqB ops = true) {i j : Nat} {o p : Oper} {d : Nat} (hij : j < i) (ho : ops[i]? = some o) (hp : ops[j]? = some p) (hd : o.dst = some d) (he : p.dst = some d) : False := by
  have hi : i < ops.size := (Array.getElem?_eq_some_iff.1 ho).1
  have h1 := List.all_eq_true.1 (List.all_eq_true.1 h i (List.mem_range.2 hi)) j (List.mem_range.2 hij)
  simp [ho, hp, hd, he] at h1
section
variable {nf Y : List Nat} {A : List (List Nat)} {X Z : Nat → Prop}
theorem aY (k m : Nat) (h : k ∈ nf ∧ k ∈ Y) (g : AllFrom (fun i => (i ∈ nf ∧ (i ∈ Y ∨ (∃ k, k ∈ A.getD i [] ∧ k ∈ nf ∧ k ∉ Y) ∨ X i)) ∨ (i ∉ nf ∧ ((∃ y, y ∈ Y ∧ y ∈ nf ∧ i ∈ A.getD y []) ∨ (∃ k, k ∈ A.getD i [] ∧ k ∈ nf ∧ k ∉ Y) ∨ Z i))) (k + 1) m) :
    AllFrom (fun i => (i ∈ nf ∧ (i ∈ Y ∨ (∃ k, k ∈ A.getD i [] ∧ k ∈ nf ∧ k ∉ Y) ∨ X i)) ∨ (i ∉ nf ∧ ((∃ y, y ∈ Y ∧ y ∈ nf ∧ i ∈ A.getD y []) ∨ (∃ k, k ∈ A.getD i [] ∧ k ∈ nf ∧ k ∉ Y) ∨ Z i))) k (m + 1) := ⟨.inl ⟨h.1, .inl h.2⟩, g⟩
theorem aB (k m b : Nat) (h : k ∈ nf ∧ b ∈ A.getD k [] ∧ b ∈ nf ∧ b ∉ Y) (g : AllFrom (fun i => (i ∈ nf ∧ (i ∈ Y ∨ (∃ k, k ∈ A.getD i [] ∧ k ∈ nf ∧ k ∉ Y) ∨ X i)) ∨ (i ∉ nf ∧ ((∃ y, y ∈ Y ∧ y ∈ nf ∧ i ∈ A.getD y []) ∨ (∃ k, k ∈ A.getD i [] ∧ k ∈ nf ∧ k ∉ Y) ∨ Z i))) (k + 1) m) :
    AllFrom (fun i => (i ∈ nf ∧ (i ∈ Y ∨ (∃ k, k ∈ A.getD i [] ∧ k ∈ nf ∧ k ∉ Y) ∨ X i)) ∨ (i ∉ nf ∧ ((∃ y, y ∈ Y ∧ y ∈ nf ∧ i ∈ A.getD y []) ∨ (∃ k, k ∈ A.getD i [] ∧ k ∈ nf ∧ k ∉ Y) ∨ Z i))) k (m + 1) := ⟨.inl ⟨h.1, .inr (.inl ⟨b, h.2.1, h.2.2.1, h.2.2.2⟩)⟩, g⟩
theorem aN (k m : Nat) (h : k ∈ nf) (x : X k) (g : AllFrom (fun i => (i ∈ nf ∧ (i ∈ Y ∨ (∃ k, k ∈ A.getD i [] ∧ k ∈ nf ∧ k ∉ Y) ∨ X i)) ∨ (i ∉ nf ∧ ((∃ y, y ∈ Y ∧ y ∈ nf ∧ i ∈ A.getD y []) ∨ (∃ k, k ∈ A.getD i [] ∧ k ∈ nf ∧ k ∉ Y) ∨ Z i))) (k + 1) m) :
    AllFrom (fun i => (i ∈ nf ∧ (i ∈ Y ∨ (∃ k, k ∈ A.getD i [] ∧ k ∈ nf ∧ k ∉ Y) ∨ X i)) ∨ (i ∉ nf ∧ ((∃ y, y ∈ Y ∧ y ∈ nf ∧ i ∈ A.getD y []) ∨ (∃ k, k ∈ A.getD i [] ∧ k ∈ nf ∧ k ∉ Y) ∨ Z i))) k (m + 1) := ⟨.inl ⟨h, .inr (.inr x)⟩, g⟩
theorem aD (k m y : Nat) (h : k ∉ nf ∧ y ∈ Y ∧ y ∈ nf ∧ k ∈ A.getD y []) (g : AllFrom (fun i => (i ∈ nf ∧ (i ∈ Y ∨ (∃ k, k ∈ A.getD i [] ∧ k ∈ nf ∧ k ∉ Y) ∨ X i)) ∨ (i ∉ nf ∧ ((∃ y, y ∈ Y ∧ y ∈ nf ∧ i ∈ A.getD y []) ∨ (∃ k, k ∈ A.getD i [] ∧ k ∈ nf ∧ k ∉ Y) ∨ Z i))) (k + 1) m) :
    AllFrom (fun i => (i ∈ nf ∧ (i ∈ Y ∨ (∃ k, k ∈ A.getD i [] ∧ k ∈ nf ∧ k ∉ Y) ∨ X i)) ∨ (i ∉ nf ∧ ((∃ y, y ∈ Y ∧ y ∈ nf ∧ i ∈ A.getD y []) ∨ (∃ k, k ∈ A.getD i [] ∧ k ∈ nf ∧ k ∉ Y) ∨ Z i))) k (m + 1) := ⟨.inr ⟨h.1, .inl ⟨y, h.2.1, h.2.2.1, h.2.2.2⟩⟩, g⟩
theorem aE (k m b : Nat) (h : k ∉ nf ∧ b ∈ A.getD k [] ∧ b ∈ nf ∧ b ∉ Y) (g : AllFrom (fun i => (i ∈ nf ∧ (i ∈ Y ∨ (∃ k, k ∈ A.getD i [] ∧ k ∈ nf ∧ k ∉ Y) ∨ X i)) ∨ (i ∉ nf ∧ ((∃ y, y ∈ Y ∧ y ∈ nf ∧ i ∈ A.getD y []) ∨ (∃ k, k ∈ A.getD i [] ∧ k ∈ nf ∧ k ∉ Y) ∨ Z i))) (k + 1) m) :
    AllFrom (fun i => (i ∈ nf ∧ (i ∈ Y ∨ (∃ k, k ∈ A.getD i [] ∧ k ∈ nf ∧ k ∉ Y) ∨ X i)) ∨ (i ∉ nf ∧ ((∃ y, y ∈ Y ∧ y ∈ nf ∧ i ∈ A.getD y []) ∨ (∃ k, k ∈ A.getD i [] ∧ k ∈ nf ∧ k ∉ Y) ∨ Z i))) k (m + 1) := ⟨.inr ⟨h.1, .inr (.inl ⟨b, h.2.1, h.2.2.1, h.2.2.2⟩)⟩, g⟩
theorem aF (k m : Nat) (h : k ∉ nf) (x : Z k) (g : AllFrom (fun i => (i ∈ nf ∧ (i ∈ Y ∨ (∃ k, k ∈ A.getD i [] ∧ k ∈ nf ∧ k ∉ Y) ∨ X i)) ∨ (i ∉ nf ∧ ((∃ y, y ∈ Y ∧ y ∈ nf ∧ i ∈ A.getD y []) ∨ (∃ k, k ∈ A.getD i [] ∧ k ∈ nf ∧ k ∉ Y) ∨ Z i))) (k + 1) m) :
    AllFrom (fun i => (i ∈ nf ∧ (i ∈ Y ∨ (∃ k, k ∈ A.getD i [] ∧ k ∈ nf ∧ k ∉ Y) ∨ X i)) ∨ (i ∉ nf ∧ ((∃ y, y ∈ Y ∧ y ∈ nf ∧ i ∈ A.getD y []) ∨ (∃ k, k ∈ A.getD i [] ∧ k ∈ nf ∧ k ∉ Y) ∨ Z i))) k (m + 1) := ⟨.inr ⟨h, .inr (.inr x)⟩, g⟩
end
theorem mI {α : Type} {a : α} {l : List α} (i : Nat) (h : l[i]? = some a) : a ∈ l := List.mem_of_getElem? h
theorem node_by {Q : Exit → Act → World → Prop} {Y : List Nat} {W : List (Nat × Nat × Value)} {L : List Ent} {D : List Fact} (N : Nat) (hN : ops.size = N) (hA : ancOk ops A = true) (hu : uniqB ops = true) (hnf : (nf.all fun j => decide (j < ops.size)) = true)
    (hW : W.map (fun q => (ops[q.1]?).bind (·.dst)) = W.map (fun q => some q.2.1)) (ix : List Nat) (hix : W.map (·.1) = ix) (hWi' : ix.Nodup) (hWn' : (ix.all fun i => !nf.contains i || Y.contains i) = true)
    (hall : AllFrom (fun i => (i ∈ nf ∧ (i ∈ Y ∨ (∃ k, k ∈ A.getD i [] ∧ k ∈ nf ∧ k ∉ Y) ∨ NonOk dq E M w0 n ops A F0 nf P Q Y W L D i)) ∨ (i ∉ nf ∧ ((∃ y, y ∈ Y ∧ y ∈ nf ∧ i ∈ A.getD y []) ∨ (∃ k, k ∈ A.getD i [] ∧ k ∈ nf ∧ k ∉ Y) ∨ FixOk dq E M w0 n ops A F0 P W L D i))) 0 N)
    (Ff : List (Nat × Value)) (hf : Fin ops F0 W Ff) (hend : (∀ j, j ∈ nf → j ∈ Y) → ∀ a w, St dq E M w0 n a w Ff L D → Q .normal a w) : Node dq E M w0 n ops F0 nf P Q Y W L D := by
  subst hN
  have hWi : (W.map (·.1)).Nodup := by rw [hix]; exact hWi'
  have hWn : ((W.map (·.1)).all fun i => !nf.contains i || Y.contains i) = true := by rw [hix]; exact hWn'
  clear hWi' hWn' hix
  refine node_of hA (fun j hj => by simpa using List.all_eq_true.1 hnf j hj) (fun i d v hm => ?_) (fun i j o p d ho hp hd he => ?_) (fun i d v u h1 h2 => ?_) (fun i d v hm hin => ?_) hall Ff hf hend
  · have : (ops[i]?).bind (·.dst) = some d := by
      clear hWi hWn hall hf
      induction W with
      | nil => cases hm
      | cons z W ih =>
        simp only [List.map_cons, List.cons.injEq] at hW
        rcases List.mem_cons.1 hm with rfl | hm
        · exact hW.1
        · exact ih hW.2 hm
    cases ho : ops[i]? with
    | none => rw [ho] at this; cases this
    | some o => rw [ho] at this; exact ⟨o, rfl, this⟩
  · rcases Nat.lt_trichotomy i j with h | h | h
    · exact (uniq_lt hu h hp ho he hd).elim
    · exact h
    · exact (uniq_lt hu h ho hp hd he).elim
  · clear hW hWn hall hf
    induction W with
    | nil => cases h1
    | cons z W ih =>
      simp only [List.map_cons, List.nodup_cons] at hWi
      rcases List.mem_cons.1 h1 with e1 | h1 <;> rcases List.mem_cons.1 h2 with e2 | h2
      · rw [← e1] at e2; cases e2; rfl
      · exact absurd (List.mem_map.2 ⟨_, h2, by rw [← e1]⟩) hWi.1
      · exact absurd (List.mem_map.2 ⟨_, h1, by rw [← e2]⟩) hWi.1
      · exact ih hWi.2 h1 h2
  · have := List.all_eq_true.1 hWn i (List.mem_map.2 ⟨_, hm, rfl⟩)
    simpa [hin] using this
theorem fI {W : List (Nat × Nat × Value)} {L : List Ent} {D : List Fact} {i : Nat} {o : Oper} (d : Nat) (v : Value) (Fi : List (Nat × Value)) (ix : Nat) (cert : List (Option Nat)) (ho : ops[i]? = some o) (hd : o.dst = some d) (hW : W[ix]? = some (i, d, v)) (hl : cert.length = Fi.length)
    (h1 : srcB1 F0 W cert Fi = Fi.map some) (h2 : srcB2 ops A i (W.map (·.1)) cert (Fi.map (·.1)) = true)
    (k : ∀ G a w, St dq E M w0 n a w (Fi ++ G) L D → wpList P ops (fun e a' w' => e = .normal ∧ St dq E M w0 n a' w' ((d, v) :: (Fi ++ G)) L D) [o] a w) : FixOk dq E M w0 n ops A F0 P W L D i :=
  ⟨o, d, v, Fi, ho, hd, List.mem_of_getElem? hW, srcs_of cert hl h1 h2, k⟩
theorem hz_of {i : Nat} {W2 : List (Nat × Nat × Value)} (h : ((W2.map (·.1)).all fun k => (A.getD k []).contains i) = true) : ∀ z, z ∈ W2 → i ∈ A.getD z.1 [] := fun z hz =>
  List.contains_iff_mem.1 (List.all_eq_true.1 h z.1 (List.mem_map.2 ⟨z, hz, rfl⟩))
end

end Go.Proofs.Ytdbgkakmhlmpbaa
