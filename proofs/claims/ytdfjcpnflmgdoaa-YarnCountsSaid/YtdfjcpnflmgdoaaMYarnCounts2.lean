/- Several texts in one: SpO GOp PlA PlB G37 G38 G48 G39 G9 G36s1 G36s0 G36 PlR -/
import Derived.WalkKit
import Derived.Maps.AppendAt
import Derived.Deep.AppendLies
import Derived.KernelRfl
import Derived.Laws.OwnMore
import Derived.Great.BuildSlice
import Derived.Orders
import Derived.Laws.StructEq
import Derived.ChangeKeysEq
import Derived.Defers
import Derived.Test.YtdfjcpnflmgdoaaProg
import Derived.ProofKit
import Derived.OpenShut
import Derived.ChangeOld
import Derived.Deep.Slices
import Derived.Lib.SmallJoins
import Derived.JoinedOf
import Derived.JoinedAt
import Derived.Below
import Derived.Test.YtdfjcpnflmgdoaaRows
import Derived.Test.YtdfjcpnflmgdoaaMYarnCounts1
namespace Go.Proofs.Ytdfjcpnflmgdoaa
open Go.RowKit
set_option linter.unusedVariables false

open Go.ChangeShapes Go.WideShapes Go.ChangeAt Go.Joins
def InK (k : IntKind) (x : Int) : Prop := (Lit.int k x).wf = true
theorem inK_64 {x : Int} (h : InK .i64 x) : -9223372036854775808 ≤ x ∧ x ≤ 9223372036854775807 := by
  simpa [InK, Lit.wf, IntKind.min, IntKind.max, IntKind.signed, IntKind.bits] using h
theorem inK_u8 {x : Int} (h : InK .u8 x) : 0 ≤ x ∧ x ≤ 255 := by
  simpa [InK, Lit.wf, IntKind.min, IntKind.max, IntKind.signed, IntKind.bits] using h
def Wl {α : Type} (p : α → Prop) (xs : List α) : Prop := xs.length ≤ 9223372036854775807 ∧ ∀ x, x ∈ xs → p x
/-- cells of a type read, well formed -/
def OpC {α : Type} (P : Program) (t : TypeId) (r : R α) (p : α → Prop) : Prop :=
  ∀ (H : Type) (enc : TypeId × Value → H) (w : World) (base : Nat) (spare : Nat → Bool) (held : Bool) (fuel : Nat) (cs : List Value) (x : DataW H × List MemPlace),
    DataW.trod enc P w base spare held fuel t cs = some x → ∃ v y, v.cells.toList = cs ∧ r.rep (fun _ => False) w v y ∧ p y
section
variable {P : Program}
theorem op_int {t : TypeId} (k : IntKind) (ht : P.underlying t = some (.int k)) : OpC P t (rI k) (InK k) := fun H enc w base spare held fuel cs x h => by
  obtain ⟨n, rfl, _, hw⟩ := DataW.trod_int ht h
  exact ⟨_, n, rfl, rfl, hw⟩
theorem op_bool {t : TypeId} (ht : P.underlying t = some .bool) : OpC P t rB (fun _ => True) := fun H enc w base spare held fuel cs x h => by
  obtain ⟨n, rfl, _⟩ := DataW.trod_bool ht h
  exact ⟨_, n, rfl, rfl, trivial⟩
theorem op_string {t : TypeId} (ht : P.underlying t = some .string) : OpC P t rS (fun s => s.size ≤ 9223372036854775807) := fun H enc w base spare held fuel cs x h => by
  obtain ⟨n, rfl, _, hw⟩ := DataW.trod_string ht h
  exact ⟨_, n, rfl, rfl, by simpa [maxLen] using hw⟩
theorem choose_list {α : Type} {n : Nat} {p : Nat → α → Prop} (h : ∀ i, i < n → ∃ x, p i x) : ∃ l : List α, l.length = n ∧ ∀ i x, l[i]? = some x → p i x := by
  induction n with
  | zero => exact ⟨[], rfl, fun i x hi => by simp at hi⟩
  | succ n ih =>
    obtain ⟨l, hl, hp⟩ := ih fun i hi => h i (by omega)
    obtain ⟨x, hx⟩ := h n (by omega)
    refine ⟨l ++ [x], by simp [hl], fun i y hi => ?_⟩
    by_cases e : i < l.length
    · rw [List.getElem?_append_left e] at hi; exact hp i y hi
    · rw [List.getElem?_append_right (by omega)] at hi
      have : i - l.length = 0 := by
        have := (List.getElem?_eq_some_iff.1 hi).1
        simp at this; omega
      rw [this] at hi
      simp at hi; subst hi
      have : i = n := by omega
      subst this; exact hx
theorem op_slice {α : Type} {t e : TypeId} {r : R α} {p : α → Prop} (ht : P.underlying t = some (.slice e)) (hc : P.cellsOf e = r.sz) (he : OpC P e r p) : OpC P t (rL r) (Wl p) := fun H enc w base spare held fuel cs x h => by
  rcases Go.Deep.open_slice ht h with ⟨rfl, _⟩ | ⟨a, len, cap, m, n, D, Pl, rfl, _, hl, hm, hmm, _, hx⟩
  · exact ⟨_, [], rfl, rL_nil _ _ _, by simp, fun x hx => by simp at hx⟩
  · have hlm : len ≤ m := by rw [hmm]; split <;> omega
    obtain ⟨b, off, spot⟩ := a
    have hcell : ∀ i, i < len → ∃ vy : Value × α, (∀ j, j < r.sz → w.cell? ((⟨b, off, spot⟩ : Addr).add (i * r.sz + j)) = vy.1.cells.toList[j]?) ∧ r.rep (fun _ => False) w vy.1 vy.2 ∧ p vy.2 := fun i hi => by
      obtain ⟨cs, h1, h2⟩ := hx i (by omega)
      obtain ⟨_, h3, h4⟩ := World.cells?_some h1
      obtain ⟨v, y, h5, h6, h7⟩ := he _ _ _ _ _ _ _ _ _ h2
      refine ⟨(v, y), fun j hj => ?_, h6, h7⟩
      have := h4 j (by rw [hc]; exact hj)
      rw [Addr.add_add, hc] at this
      rw [this, h5]
    obtain ⟨l, hll, hlp⟩ := choose_list hcell
    subst hll
    have hA : All r (fun _ => False) w (l.map (·.1)) (l.map (·.2)) := ⟨by simp, fun k v x hv hx => by
      rw [List.getElem?_map] at hv hx
      cases hk : l[k]? with
      | none => rw [hk] at hv; cases hv
      | some q => rw [hk] at hv hx; simp at hv hx; subst hv hx; exact (hlp k q hk).2.1⟩
    refine ⟨.slice (some ⟨b, off, spot⟩) l.length cap, l.map (·.2), rfl, ?_, by simp [maxLen] at hm ⊢; omega, fun x hx => ?_⟩
    · refine ⟨some ⟨b, off, spot⟩, cap, l.map (·.1), by simp, by simpa using hl, by simp [maxLen] at hm ⊢; omega, hA, fun k u hu => ?_⟩
      have hsz := fun v hv => (hA.cells v hv).1
      have hk := (List.getElem?_eq_some_iff.1 hu).1
      rw [flat_length hsz] at hk
      simp only [List.length_map] at hk
      have hi : k / r.sz < l.length := Nat.div_lt_of_lt_mul (by rw [Nat.mul_comm]; exact hk)
      have hj := Nat.mod_lt k r.pos
      have hq : l[k / r.sz]? = some l[k / r.sz] := List.getElem?_eq_getElem hi
      have h1 := (hlp _ _ hq).1 (k % r.sz) hj
      have h2 := flat_get hsz (k := k / r.sz) (v := l[k / r.sz].1) (by rw [List.getElem?_map, hq]; rfl) hj
      rw [Nat.mul_comm, Nat.div_add_mod] at h1 h2
      rw [hu] at h2
      rw [← h2] at h1
      have hspot : spot = none := by
        have h0 : 0 < l.length := Nat.lt_of_le_of_lt (Nat.zero_le _) hi
        have hq0 : l[0]? = some l[0] := List.getElem?_eq_getElem h0
        have h3 := (hlp 0 _ hq0).1 0 r.pos
        have hs0 := r.size (hlp 0 _ hq0).2.1
        rw [List.getElem?_eq_getElem (by rw [Array.length_toList, hs0]; exact r.pos)] at h3
        simpa [Addr.add] using World.cell?_spot h3
      subst hspot
      rw [add_addr] at h1
      exact ⟨b, off, rfl, not_false, World.block_lt_of_cell? w _ h1, h1⟩
    · obtain ⟨q, hq, rfl⟩ := List.mem_map.1 hx
      obtain ⟨k, hk, rfl⟩ := List.getElem_of_mem hq
      exact (hlp k _ (List.getElem?_eq_getElem hk)).2.2
/-- an argument that is a slice; a struct; numbers -/
theorem top_slice {α : Type} {H : Type} {enc : TypeId × Value → H} {w : World} {base b0 : Nat} {spare : Nat → Bool} {held : Bool} {rr : Reach} {v : Value} {d : DataW H} {p : List MemPlace} {t e : TypeId} {r : R α} {q : List α → Prop} (ht : P.underlying t = some (.slice e)) (ho : OpC P t (rL r) q)
    (hv : Value.okWide P w rr b0 t v) (h : DataW.Trod enc P w base spare held t v d p) : ∃ y, (rL r).rep (fun _ => False) w v y ∧ q y := by
  obtain ⟨a, n, c, rfl⟩ := okWide_slice ht hv
  obtain ⟨fuel, hf⟩ := h
  obtain ⟨v, y, h1, h2, h3⟩ := ho _ _ _ _ _ _ _ _ _ hf
  have hs := scal_L _ _ _ _ _ h2
  rw [hs] at h1
  simp [Value.cells] at h1
  subst h1
  exact ⟨y, h2, h3⟩
theorem top_agg {α : Type} {H : Type} {enc : TypeId × Value → H} {w : World} {base b0 : Nat} {spare : Nat → Bool} {held : Bool} {rr : Reach} {v : Value} {d : DataW H} {p : List MemPlace} {t : TypeId} {fs : Array Field} {r : R α} {q : α → Prop} (ht : P.underlying t = some (.struct fs)) (hr : Aggr r) (ho : OpC P t r q)
    (hv : Value.okWide P w rr b0 t v) (h : DataW.Trod enc P w base spare held t v d p) : ∃ y, r.rep (fun _ => False) w v y ∧ q y := by
  obtain ⟨cs, rfl, hsz⟩ := okWide_struct ht hv
  obtain ⟨fuel, hf⟩ := h
  obtain ⟨v, y, h1, h2, h3⟩ := ho _ _ _ _ _ _ _ _ _ hf
  obtain ⟨ds, rfl⟩ := hr _ _ _ _ h2
  simp [Value.cells] at h1
  subst h1
  exact ⟨y, h2, h3⟩
theorem St0.start {w : World} {D : List Fact} (h : ∀ d, d ∈ D → d.p (fun _ => False) w) : St0 (fun _ => False) [] w w [] D := by
  have hE : tot (fun _ => False) [] = (fun _ => False) := by funext b; simp [tot, keysL]
  exact ⟨Chg.refl _ _, by simp, fun d hd => by rw [hE]; exact h d hd, by simp [keysL], by simp [keysL], fun _ h => h.elim⟩
theorem Chg.below {w w' : World} (h : Chg [] w w') : Below w.heap.size w w' := ⟨h.os, h.tape, h.output, h.size, fun k hk => h.block k hk (by simp)⟩
theorem len1 {α : Type} {l : List α} (h : l.length = 1) : ∃ a, l = [a] := by match l, h with | [a], _ => exact ⟨a, rfl⟩
theorem len2 {α : Type} {l : List α} (h : l.length = 2) : ∃ a b, l = [a, b] := by match l, h with | [a, b], _ => exact ⟨a, b, rfl⟩
theorem len3 {α : Type} {l : List α} (h : l.length = 3) : ∃ a b c, l = [a, b, c] := by match l, h with | [a, b, c], _ => exact ⟨a, b, c, rfl⟩
theorem len4 {α : Type} {l : List α} (h : l.length = 4) : ∃ a b c d, l = [a, b, c, d] := by match l, h with | [a, b, c, d], _ => exact ⟨a, b, c, d, rfl⟩
theorem len5 {α : Type} {l : List α} (h : l.length = 5) : ∃ a b c d e, l = [a, b, c, d, e] := by match l, h with | [a, b, c, d, e], _ => exact ⟨a, b, c, d, e, rfl⟩
theorem len6 {α : Type} {l : List α} (h : l.length = 6) : ∃ a b c d e f, l = [a, b, c, d, e, f] := by match l, h with | [a, b, c, d, e, f], _ => exact ⟨a, b, c, d, e, f, rfl⟩
end
theorem fld {α : Type} {x : Option α} {ys : List α} {i : Nat} (h : x = ys[i]?) (hi : i < ys.length) : ∃ z, x = some z := ⟨ys[i], by rw [h]; exact List.getElem?_eq_getElem hi⟩

end Go.Proofs.Ytdfjcpnflmgdoaa
namespace Go.Proofs.Ytdfjcpnflmgdoaa
open Go.RowKit
set_option linter.unusedVariables false

open Go.ChangeShapes Go.WideShapes Go.ChangeAt Go.Joins
def wf_api_Ratio (x : api_Ratio) : Prop := (InK .i64) x.Num ∧ (InK .i64) x.Den
theorem op_api_Ratio : OpC Try.prog 23 r_api_Ratio wf_api_Ratio := fun H enc w base spare held fuel cs x h => by
  obtain ⟨ys, m, _, _, hl, hy, hf⟩ := DataW.trod_struct Try.underlying23 h
  obtain ⟨c0, c1, rfl⟩ := len2 (hl.trans (by kernel_rfl))
  obtain ⟨z0, f0⟩ := fld (hf 0 _ rfl) (by rw [hy]; decide)
  obtain ⟨u0, y0, k0, r0, w0⟩ := (op_int .i64 Try.underlying2) _ _ _ _ _ _ _ _ _ f0
  replace k0 : u0.cells.toList = [c0] := k0.trans (by kernel_rfl)
  obtain rfl : u0 = .int .i64 y0 := r0
  obtain rfl : Value.int .i64 y0 = c0 := by simpa [Value.cells] using k0
  obtain ⟨z1, f1⟩ := fld (hf 1 _ rfl) (by rw [hy]; decide)
  obtain ⟨u1, y1, k1, r1, w1⟩ := (op_int .i64 Try.underlying2) _ _ _ _ _ _ _ _ _ f1
  replace k1 : u1.cells.toList = [c1] := k1.trans (by kernel_rfl)
  obtain rfl : u1 = .int .i64 y1 := r1
  obtain rfl : Value.int .i64 y1 = c1 := by simpa [Value.cells] using k1
  exact ⟨_, ⟨y0, y1⟩, rfl, rfl, ⟨w0, w1⟩⟩
def wf_api_Count (x : api_Count) : Prop := (InK .u8) x.System ∧ wf_api_Ratio x.N
theorem op_api_Count : OpC Try.prog 41 r_api_Count wf_api_Count := fun H enc w base spare held fuel cs x h => by
  obtain ⟨ys, m, _, _, hl, hy, hf⟩ := DataW.trod_struct Try.underlying41 h
  obtain ⟨c0, c1, c2, rfl⟩ := len3 (hl.trans (by kernel_rfl))
  obtain ⟨z0, f0⟩ := fld (hf 0 _ rfl) (by rw [hy]; decide)
  obtain ⟨u0, y0, k0, r0, w0⟩ := (op_int .u8 Try.underlying5) _ _ _ _ _ _ _ _ _ f0
  replace k0 : u0.cells.toList = [c0] := k0.trans (by kernel_rfl)
  obtain rfl : u0 = .int .u8 y0 := r0
  obtain rfl : Value.int .u8 y0 = c0 := by simpa [Value.cells] using k0
  obtain ⟨z1, f1⟩ := fld (hf 1 _ rfl) (by rw [hy]; decide)
  obtain ⟨u1, y1, k1, r1, w1⟩ := op_api_Ratio _ _ _ _ _ _ _ _ _ f1
  replace k1 : u1.cells.toList = [c1, c2] := k1.trans (by kernel_rfl)
  obtain rfl : u1 = .agg #[.int .i64 y1.Num, .int .i64 y1.Den] := r1
  simp only [Value.cells, List.cons.injEq, and_true] at k1
  obtain ⟨rfl, rfl⟩ := k1
  exact ⟨_, ⟨y0, y1⟩, rfl, rfl, ⟨w0, w1⟩⟩

end Go.Proofs.Ytdfjcpnflmgdoaa
namespace Go.Proofs.Ytdfjcpnflmgdoaa
open Go.RowKit
set_option linter.unusedVariables false

theorem w64_of {x : Int} (h0 : -9223372036854775808 ≤ x) (h1 : x ≤ 9223372036854775807) : w64 x = x := w64_id ⟨h0, h1⟩
theorem w64_succ {k : Nat} (h : k < 9223372036854775807) : w64 ((k : Int) + 1) = ((k + 1 : Nat) : Int) := by
  rw [w64_of (by omega) (by omega)]; omega
theorem idxO_nat {α : Type} {xs : List α} {k : Nat} (h : k < xs.length) : idxO xs (k : Int) = some xs[k] := by
  simp [idxO, h]
theorem idxO_of {α : Type} {xs : List α} {i : Int} {k : Nat} (hi : i = (k : Int)) (h : k < xs.length) : idxO xs i = some xs[k] := by subst hi; exact idxO_nat h
theorem setO_nat {α : Type} {xs : List α} {k : Nat} {y : α} (h : k < xs.length) : setO xs (k : Int) y = some (xs.set k y) := by
  simp [setO, h]
theorem appO_of {α : Type} {xs ys : List α} (h : xs.length + ys.length ≤ 68719476736) : appO xs ys = some (xs ++ ys) := by
  simp [appO, lim, h]
theorem capO_of {n : Int} {k : Nat} (h : n = (k : Int)) (hk : k ≤ 68719476736) : capO n = some () := by
  subst h; simp [capO, lim, hk]
theorem makeO_of {α : Type} {n : Int} {z : α} {k : Nat} (h : n = (k : Int)) (hk : k ≤ 68719476736) : makeO n z = some (List.replicate k z) := by
  subst h; simp [makeO, lim, hk]
theorem sliceO_of {α : Type} {xs : List α} {lo hi : Int} {l k : Nat} (h1 : lo = l) (h2 : hi = k) (h3 : l ≤ k) (h4 : k ≤ xs.length) : sliceO xs lo hi = some ((xs.take k).drop l) := by
  subst h1 h2; simp [sliceO, h3, h4]
/-- a loop over an index, with a state beside it -/
theorem loop_st {σ τ : Type} {B : σ × Int → Option ((σ × Int) ⊕ τ)} (n : Nat) (I : Nat → σ → Prop) (Pt : τ → Prop) {s0 : σ} (h0 : I 0 s0)
    (step : ∀ k s, k < n → I k s → (∃ s', B (s, (k : Int)) = some (.inl (s', ((k + 1 : Nat) : Int))) ∧ I (k + 1) s') ∨ (∃ t, B (s, (k : Int)) = some (.inr t) ∧ Pt t))
    (last : ∀ s, I n s → ∃ t, B (s, (n : Int)) = some (.inr t) ∧ Pt t) : ∃ t, whileO B (s0, 0) = some t ∧ Pt t := by
  refine whileO_inv (fun s => ∃ k : Nat, k ≤ n ∧ s.2 = (k : Int) ∧ I k s.1) (fun s => ((n : Int) - s.2).toNat) Pt ⟨0, Nat.zero_le _, rfl, h0⟩ ?_
  rintro ⟨s, i⟩ ⟨k, hk, rfl, hI⟩
  by_cases hlt : k < n
  · rcases step k s hlt hI with ⟨s', h1, h2⟩ | h
    · exact .inl ⟨_, h1, ⟨k + 1, hlt, rfl, h2⟩, by simp; omega⟩
    · exact .inr h
  · obtain rfl : k = n := by omega
    exact .inr (last s hI)
/-- a loop over an index alone -/
theorem loop_ix {τ : Type} {B : Int → Option (Int ⊕ τ)} (n : Nat) (I : Nat → Prop) (Pt : τ → Prop) (h0 : I 0)
    (step : ∀ k, k < n → I k → (B (k : Int) = some (.inl ((k + 1 : Nat) : Int)) ∧ I (k + 1)) ∨ (∃ t, B (k : Int) = some (.inr t) ∧ Pt t))
    (last : I n → ∃ t, B (n : Int) = some (.inr t) ∧ Pt t) : ∃ t, whileO B 0 = some t ∧ Pt t := by
  refine whileO_inv (fun s => ∃ k : Nat, k ≤ n ∧ s = (k : Int) ∧ I k) (fun s => ((n : Int) - s).toNat) Pt ⟨0, Nat.zero_le _, rfl, h0⟩ ?_
  rintro i ⟨k, hk, rfl, hI⟩
  by_cases hlt : k < n
  · rcases step k hlt hI with ⟨h1, h2⟩ | h
    · exact .inl ⟨_, h1, ⟨k + 1, hlt, rfl, h2⟩, by simp; omega⟩
    · exact .inr h
  · obtain rfl : k = n := by omega
    exact .inr (last hI)

end Go.Proofs.Ytdfjcpnflmgdoaa
namespace Go.Proofs.Ytdfjcpnflmgdoaa
open Go.RowKit
set_option linter.unusedVariables false

theorem loop_fr {σ τ : Type} {B : σ × Int → Option ((σ × Int) ⊕ τ)} (a n : Nat) (ha : a ≤ n) (I : Nat → σ → Prop) (Pt : τ → Prop) {s0 : σ} (h0 : I a s0)
    (step : ∀ k s, a ≤ k → k < n → I k s → (∃ s', B (s, (k : Int)) = some (.inl (s', ((k + 1 : Nat) : Int))) ∧ I (k + 1) s') ∨ (∃ t, B (s, (k : Int)) = some (.inr t) ∧ Pt t))
    (last : ∀ s, I n s → ∃ t, B (s, (n : Int)) = some (.inr t) ∧ Pt t) : ∃ t, whileO B (s0, (a : Int)) = some t ∧ Pt t := by
  refine whileO_inv (fun s => ∃ k : Nat, a ≤ k ∧ k ≤ n ∧ s.2 = (k : Int) ∧ I k s.1) (fun s => ((n : Int) - s.2).toNat) Pt ⟨a, Nat.le_refl _, ha, rfl, h0⟩ ?_
  rintro ⟨s, i⟩ ⟨k, hak, hk, rfl, hI⟩
  by_cases hlt : k < n
  · rcases step k s hak hlt hI with ⟨s', h1, h2⟩ | h
    · exact .inl ⟨_, h1, ⟨k + 1, by omega, hlt, rfl, h2⟩, by simp; omega⟩
    · exact .inr h
  · obtain rfl : k = n := by omega
    exact .inr (last s hI)
/-- a loop that leaves at the first index where f answers -/
theorem loop_find {τ : Type} {B : Int → Option (Int ⊕ τ)} (n : Nat) (f : Nat → Option τ) (good : τ)
    (h : ∀ k, k < n → B (k : Int) = some (match f k with | none => .inl ((k + 1 : Nat) : Int) | some t => .inr t)) (hn : B (n : Int) = some (.inr good)) :
    whileO B 0 = some (((List.range n).findSome? f).getD good) := by
  have key : ∃ t, whileO B 0 = some t ∧ t = ((List.range n).findSome? f).getD good := by
    refine loop_ix n (fun k => (List.range k).findSome? f = none) _ rfl ?_ ?_
    · intro k hk hI
      cases hf : f k with
      | none =>
        refine .inl ⟨by rw [h k hk, hf], ?_⟩
        rw [List.range_succ, List.findSome?_append, hI]
        simp [hf]
      | some t =>
        refine .inr ⟨t, by rw [h k hk, hf], ?_⟩
        have e : List.range n = List.range (k + 1) ++ (List.range (n - (k + 1))).map (k + 1 + ·) := by
          rw [← List.range_add]; congr 1; omega
        rw [e, List.findSome?_append, List.range_succ, List.findSome?_append, hI]
        simp [hf]
    · intro hI
      exact ⟨good, hn, by rw [hI]; rfl⟩
  obtain ⟨t, h1, rfl⟩ := key
  exact h1
/-- a loop that tests all, and says bad at the first that fails -/
theorem loop_all {τ : Type} {B : Int → Option (Int ⊕ τ)} (n : Nat) (p : Nat → Bool) (good bad : τ)
    (h : ∀ k, k < n → B (k : Int) = some (if p k = true then .inl ((k + 1 : Nat) : Int) else .inr bad)) (hn : B (n : Int) = some (.inr good)) :
    whileO B 0 = some (if (List.range n).all p = true then good else bad) := by
  have key : ∃ t, whileO B 0 = some t ∧ t = if (List.range n).all p = true then good else bad := by
    refine loop_ix n (fun k => ∀ j, j < k → p j = true) _ (fun j h => absurd h (Nat.not_lt_zero j)) ?_ ?_
    · intro k hk hI
      cases hf : p k with
      | true =>
        refine .inl ⟨by rw [h k hk, if_pos hf], fun j hj => ?_⟩
        by_cases e : j = k
        · rw [e]; exact hf
        · exact hI j (by omega)
      | false =>
        refine .inr ⟨bad, by rw [h k hk, hf]; simp, ?_⟩
        rw [if_neg]
        intro hc
        rw [List.all_eq_true] at hc
        have := hc k (List.mem_range.2 hk)
        rw [hf] at this; cases this
    · intro hI
      refine ⟨good, hn, ?_⟩
      rw [if_pos]
      rw [List.all_eq_true]
      exact fun j hj => hI j (List.mem_range.1 hj)
  obtain ⟨t, h1, rfl⟩ := key
  exact h1
/-- a loop that folds -/
theorem loop_fold {σ τ : Type} {B : σ × Int → Option ((σ × Int) ⊕ τ)} (n : Nat) (f : σ → Nat → σ) (s0 : σ) {t : τ}
    (h : ∀ k s, k < n → s = (List.range k).foldl f s0 → B (s, (k : Int)) = some (.inl (f s k, ((k + 1 : Nat) : Int))))
    (hn : B ((List.range n).foldl f s0, (n : Int)) = some (.inr t)) : whileO B (s0, 0) = some t := by
  have key : ∃ u, whileO B (s0, 0) = some u ∧ u = t := by
    refine loop_st n (fun k s => s = (List.range k).foldl f s0) _ rfl ?_ ?_
    · rintro k s hk hI
      refine .inl ⟨_, h k s hk hI, ?_⟩
      rw [List.range_succ, List.foldl_append, ← hI]; rfl
    · rintro s rfl
      exact ⟨t, hn, rfl⟩
  obtain ⟨u, h1, rfl⟩ := key
  exact h1
/-- a loop that gathers -/
theorem loop_map {α τ : Type} {B : List α × Int → Option ((List α × Int) ⊕ τ)} (n : Nat) (f : Nat → α) {t : τ}
    (h : ∀ k s, k < n → s = (List.range k).map f → B (s, (k : Int)) = some (.inl (s ++ [f k], ((k + 1 : Nat) : Int))))
    (hn : B ((List.range n).map f, (n : Int)) = some (.inr t)) : whileO B ([], 0) = some t := by
  have key : ∃ u, whileO B ([], 0) = some u ∧ u = t := by
    refine loop_st n (fun k s => s = (List.range k).map f) _ rfl ?_ ?_
    · rintro k s hk hI
      refine .inl ⟨_, h k s hk hI, ?_⟩
      rw [List.range_succ, List.map_append, ← hI]; rfl
    · rintro s rfl
      exact ⟨t, hn, rfl⟩
  obtain ⟨u, h1, rfl⟩ := key
  exact h1
theorem all_cong {n : Nat} {p q : Nat → Bool} (h : ∀ k, k < n → p k = q k) : (List.range n).all p = (List.range n).all q := by
  have : ∀ m, m ≤ n → (List.range m).all p = (List.range m).all q := by
    intro m
    induction m with
    | zero => intro _; rfl
    | succ m ih => intro hm; rw [List.range_succ, List.all_append, List.all_append, ih (by omega)]; simp [h m (by omega)]
  exact this n (Nat.le_refl _)
theorem map_cong {α : Type} {n : Nat} {f g : Nat → α} (h : ∀ k, k < n → f k = g k) : (List.range n).map f = (List.range n).map g :=
  List.map_congr_left fun k hk => h k (List.mem_range.1 hk)
/-- an element, wherever the index lies -/
theorem idxO_get {α : Type} {xs : List α} {i : Int} (h0 : 0 ≤ i) (h1 : i < (xs.length : Int)) : idxO xs i = some (xs[i.toNat]'(by omega)) := by
  have : i.toNat < xs.length := by omega
  simp [idxO, h0, this]
theorem dT {p : Prop} [Decidable p] (h : p) : decide p = true := decide_eq_true h
theorem dF {p : Prop} [Decidable p] (h : ¬ p) : decide p = false := decide_eq_false h
theorem bT {a b : Int} (h : a = b) : (a == b) = true := by simp [h]
theorem bF {a b : Int} (h : ¬ a = b) : (a == b) = false := by simp [h]
theorem nT {a b : Int} (h : ¬ a = b) : (a != b) = true := by simp [h]
theorem nF {a b : Int} (h : a = b) : (a != b) = false := by simp [h]
/-- a loop whose index comes first in its state -/
theorem loop_ts {σ τ : Type} {B : Int × σ → Option ((Int × σ) ⊕ τ)} (n : Nat) (I : Nat → σ → Prop) (Pt : τ → Prop) {s0 : σ} (h0 : I 0 s0)
    (step : ∀ k s, k < n → I k s → (∃ s', B ((k : Int), s) = some (.inl (((k + 1 : Nat) : Int), s')) ∧ I (k + 1) s') ∨ (∃ t, B ((k : Int), s) = some (.inr t) ∧ Pt t))
    (last : ∀ s, I n s → ∃ t, B ((n : Int), s) = some (.inr t) ∧ Pt t) : ∃ t, whileO B (0, s0) = some t ∧ Pt t := by
  refine whileO_inv (fun s => ∃ k : Nat, k ≤ n ∧ s.1 = (k : Int) ∧ I k s.2) (fun s => ((n : Int) - s.1).toNat) Pt ⟨0, Nat.zero_le _, rfl, h0⟩ ?_
  rintro ⟨i, s⟩ ⟨k, hk, rfl, hI⟩
  by_cases hlt : k < n
  · rcases step k s hlt hI with ⟨s', h1, h2⟩ | h
    · exact .inl ⟨_, h1, ⟨k + 1, hlt, rfl, h2⟩, by simp; omega⟩
    · exact .inr h
  · obtain rfl : k = n := by omega
    exact .inr (last s hI)
/-- a row filled from its start on -/
def Fill {α : Type} (n : Nat) (f : Nat → α) (k : Nat) (s : List α) : Prop := s.length = n ∧ ∀ j, j < k → s[j]? = some (f j)
theorem Fill.zero {α : Type} (n : Nat) (f : Nat → α) (z : α) : Fill n f 0 (List.replicate n z) := ⟨by simp, fun j hj => absurd hj (Nat.not_lt_zero j)⟩
theorem Fill.set {α : Type} {n : Nat} {f : Nat → α} {k : Nat} {s : List α} (h : Fill n f k s) (hk : k < n) : Fill n f (k + 1) (s.set k (f k)) := by
  refine ⟨by simp [h.1], fun j hj => ?_⟩
  by_cases e : j = k
  · subst e; simp [h.1, hk]
  · rw [List.getElem?_set_ne (fun h => e h.symm)]; exact h.2 j (by omega)
theorem Fill.all {α : Type} {n : Nat} {f : Nat → α} {s : List α} (h : Fill n f n s) : s = (List.range n).map f := by
  apply List.ext_getElem?
  intro j
  by_cases hj : j < n
  · rw [h.2 j hj]; simp [hj]
  · rw [List.getElem?_eq_none (by rw [h.1]; omega), List.getElem?_eq_none (by simp; omega)]
theorem loop_set {α τ : Type} {B : List α × Int → Option ((List α × Int) ⊕ τ)} (n : Nat) (f : Nat → α) (z : α) {t : τ}
    (h : ∀ k s, k < n → s.length = n → B (s, (k : Int)) = some (.inl (s.set k (f k), ((k + 1 : Nat) : Int))))
    (hn : B ((List.range n).map f, (n : Int)) = some (.inr t)) : whileO B (List.replicate n z, 0) = some t := by
  have key : ∃ u, whileO B (List.replicate n z, 0) = some u ∧ u = t := by
    refine loop_st n (fun k s => Fill n f k s) _ (Fill.zero n f z) ?_ ?_
    · intro k s hk hI
      exact .inl ⟨_, h k s hk hI.1, hI.set hk⟩
    · intro s hs
      rw [hs.all]
      exact ⟨t, hn, rfl⟩
  obtain ⟨u, h1, rfl⟩ := key
  exact h1
theorem idxO_D {α : Type} {xs : List α} {k : Nat} (d : α) (h : k < xs.length) : idxO xs (k : Int) = some (xs.getD k d) := by
  rw [idxO_nat h]; simp [h]
theorem mul_bd {u v a b : Int} (u0 : 0 ≤ u) (u1 : u ≤ a) (v0 : 0 ≤ v) (v1 : v ≤ b) : 0 ≤ u * v ∧ u * v ≤ a * b :=
  ⟨Int.mul_nonneg u0 v0, Int.mul_le_mul u1 v1 v0 (by omega)⟩
theorem sliceO_all {α : Type} {xs : List α} {k : Nat} (h : k ≤ xs.length) : sliceO xs (k : Int) (xs.length : Int) = some (xs.drop k) := by
  rw [sliceO_of (l := k) (k := xs.length) rfl rfl h (Nat.le_refl _), List.take_length]
theorem getD_drop {α : Type} (xs : List α) (n k : Nat) (d : α) : (xs.drop n).getD k d = xs.getD (k + n) d := by
  simp [List.getD_eq_getElem?_getD, List.getElem?_drop, Nat.add_comm]

end Go.Proofs.Ytdfjcpnflmgdoaa
namespace Go.Proofs.Ytdfjcpnflmgdoaa
open Go.RowKit
set_option linter.unusedVariables false

noncomputable def F_yarn_size (p0 : Int) : Option Int :=
  if decide (p0 < 0) then
    some (IntKind.u64.wrap (0 - (IntKind.u64.wrap p0)))
  else
    some (IntKind.u64.wrap p0)
set_option maxHeartbeats 4000000 in
set_option maxRecDepth 100000 in
theorem c_yarn_size (E : Nat → Prop) (w0 : World) (p0 : Int) (r : Int) (h : F_yarn_size p0 = some r) (S : St0 E [] w0 w0 [] []) :
    Calls Try.prog 37 #[.int .i64 p0] w0 (Ret (X := Unit) E [] w0 (fun _ => .int .u64 r) (fun _ => []) (fun _ => [])) := by
  unfold F_yarn_size at h
  refine sEnter (args := [.int .i64 p0]) 10 Try.func37 rfl rfl (by simp) S (fun a S => ?_)
  refine sSeq (fun K1 hK1 => ?_)
  refine sRegion ?_
  refine sMove (.int .u64 0) S (wN rfl) (.inr rfl) (by kernel_rfl) rfl (by decide) (fun a S => ?_)
  refine leafL (leafT (hK1 _ _ ?_))
  refine sSeq (fun K2 hK2 => ?_)
  refine sSeq (fun K3 hK3 => ?_)
  refine sRegion ?_
  refine sMove (.int .i64 p0) S (wN rfl) (.inl rfl) (by kernel_rfl) rfl (by decide) (fun a S => ?_)
  refine sBin (.bool (decide (p0 < 0))) S (wN rfl) rfl (by kernel_rfl) (by kernel_rfl) (bLt _ _ _ _ .i64 p0 0) rfl (by decide) (fun a S => ?_)
  refine leafL (leafT (hK3 _ _ ?_))
  rcases iteSome h with ⟨hc4, h⟩ | ⟨hc4, h⟩
  · refine sCondT (b := decide (p0 < 0)) S (by kernel_rfl) hc4 ?_
    refine sSeq (fun K5 hK5 => ?_)
    refine sRegion ?_
    refine sMove (.int .i64 p0) S (wN rfl) (.inl rfl) (by kernel_rfl) rfl (by decide) (fun a S => ?_)
    refine sConv (k := .i64) (k2 := .u64) (b := p0) S (wN rfl) rfl Try.underlying2 Try.underlying60 (by kernel_rfl) rfl (by decide) (fun a S => ?_)
    refine sNegK (k := .u64) (b := IntKind.u64.wrap p0) S (wN rfl) rfl (by kernel_rfl) rfl (by decide) (fun a S => ?_)
    refine sMove (.int .u64 (IntKind.u64.wrap (0 - (IntKind.u64.wrap p0)))) S (wN rfl) (.inr rfl) (by kernel_rfl) rfl (by decide) (fun a S => ?_)
    refine leafL (leafT (hK5 _ _ ?_))
    obtain rfl := Option.some.inj h
    exact wp_ret (rThen (sRet (.int .u64 (IntKind.u64.wrap (0 - (IntKind.u64.wrap p0)))) S (rsl1 rfl (rvT (t := 2) (v := .int .u64 (IntKind.u64.wrap (0 - (IntKind.u64.wrap p0)))) S (by kernel_rfl))) ⟨(), rfl, S.mem.sel [] [] (by decide) (by kernel_rfl) (by kernel_rfl)⟩))
  · refine sCondF (b := decide (p0 < 0)) S (by kernel_rfl) hc4 ?_
    refine wp_skip (leafT (hK2 _ _ ?_))
    refine sSeq (fun K6 hK6 => ?_)
    refine sRegion ?_
    refine sMove (.int .i64 p0) S (wN rfl) (.inl rfl) (by kernel_rfl) rfl (by decide) (fun a S => ?_)
    refine sConv (k := .i64) (k2 := .u64) (b := p0) S (wN rfl) rfl Try.underlying2 Try.underlying60 (by kernel_rfl) rfl (by decide) (fun a S => ?_)
    refine sMove (.int .u64 (IntKind.u64.wrap p0)) S (wN rfl) (.inr rfl) (by kernel_rfl) rfl (by decide) (fun a S => ?_)
    refine leafL (leafT (hK6 _ _ ?_))
    obtain rfl := Option.some.inj h
    exact wp_ret (sRet (.int .u64 (IntKind.u64.wrap p0)) S (rsl1 rfl (rvT (t := 2) (v := .int .u64 (IntKind.u64.wrap p0)) S (by kernel_rfl))) ⟨(), rfl, S.mem.sel [] [] (by decide) (by kernel_rfl) (by kernel_rfl)⟩)

end Go.Proofs.Ytdfjcpnflmgdoaa
namespace Go.Proofs.Ytdfjcpnflmgdoaa
open Go.RowKit
set_option linter.unusedVariables false

noncomputable def yarn_gcd_l1  : (Int × Int) → Option ((Int × Int) ⊕ Int) := fun s0 => match s0 with
  | (s5, s6) =>
    if s6 != 0 then
      Option.bind (remI s5 s6) fun z14 =>
      some (.inl (s6, z14))
    else
      some (.inr s5)
noncomputable def F_yarn_gcd (p0 : Int) (p1 : Int) : Option Int :=
  Option.bind (α := Int) (
    Option.bind (whileO (yarn_gcd_l1) (p0, p1)) fun e10 =>
      some e10) fun o2 =>
  some o2
set_option maxHeartbeats 4000000 in
set_option maxRecDepth 100000 in
theorem c_yarn_gcd (E : Nat → Prop) (w0 : World) (p0 : Int) (p1 : Int) (r : Int) (h : F_yarn_gcd p0 p1 = some r) (S : St0 E [] w0 w0 [] []) :
    Calls Try.prog 38 #[.int .u64 p0, .int .u64 p1] w0 (Ret (X := Unit) E [] w0 (fun _ => .int .u64 r) (fun _ => []) (fun _ => [])) := by
  unfold F_yarn_gcd at h
  refine sEnter (args := [.int .u64 p0, .int .u64 p1]) 12 Try.func38 rfl rfl (by simp) S (fun a S => ?_)
  refine sSeq (fun K1 hK1 => ?_)
  refine sRegion ?_
  refine sMove (.int .u64 0) S (wN rfl) (.inr rfl) (by kernel_rfl) rfl (by decide) (fun a S => ?_)
  refine leafL (leafT (hK1 _ _ ?_))
  obtain ⟨t3, h, g4⟩ := bindSome h
  refine sCut (fun a w => ∃ o2, o2 = t3 ∧ St [] E [] w0 12 a w [(0, .int .u64 o2)] [] []) ?_ (fun a w hI => ?_)
  · refine wp_block ?_
    obtain ⟨t9, hl, g8⟩ := bindSome h
    refine sLoop hl (fun s0 a w => match s0 with | (s5, s6) => St [] E [] w0 12 a w [(0, .int .u64 s5), (1, .int .u64 s6)] [] []) (S.fix [] [] (by decide) (by kernel_rfl) (by kernel_rfl) (by kernel_rfl)) ?_
    clear hl h
    intro s0 a w c0 hI h hu7
    obtain ⟨s5, s6⟩ := s0
    unfold yarn_gcd_l1 at h
    dsimp only at h hI
    have S := hI
    refine sSeq (fun K11 hK11 => ?_)
    refine sSeq (fun K12 hK12 => ?_)
    refine sRegion ?_
    refine sMove (.int .u64 s6) S (wN rfl) (.inl rfl) (by kernel_rfl) rfl (by decide) (fun a S => ?_)
    refine sBin (.bool (s6 != 0)) S (wN rfl) rfl (by kernel_rfl) (by kernel_rfl) (bNe _ _ _ _ .u64 s6 0) rfl (by decide) (fun a S => ?_)
    refine leafL (leafT (hK12 _ _ ?_))
    rcases iteSome h with ⟨hc13, h⟩ | ⟨hc13, h⟩
    · refine sCondT (b := s6 != 0) S (by kernel_rfl) hc13 ?_
      refine wp_skip (leafT (hK11 _ _ ?_))
      refine wp_block ?_
      obtain ⟨z14, hx15, h⟩ := bindSome h
      refine sDraw (nf := []) (W := [(0, 7, .int .u64 s6), (1, 8, .int .u64 s5), (2, 9, .int .u64 s6), (3, 10, .int .u64 z14), (4, 0, .int .u64 s6), (5, 1, .int .u64 z14)]) (by kernel_rfl) S ?_
      refine node_by (A := [[], [], [], [1, 2], [0, 1], [0, 1, 2, 3, 4]]) (nf := []) (Y := []) (W := [(0, 7, .int .u64 s6), (1, 8, .int .u64 s5), (2, 9, .int .u64 s6), (3, 10, .int .u64 z14), (4, 0, .int .u64 s6), (5, 1, .int .u64 z14)]) 6 (by kernel_rfl) (by kernel_rfl) (by kernel_rfl) (by kernel_rfl) (by kernel_rfl) [0, 1, 2, 3, 4, 5] (by kernel_rfl) (by decide) (by decide) (aF 0 5 (by decide) ?_ (aF 1 4 (by decide) ?_ (aF 2 3 (by decide) ?_ (aF 3 2 (by decide) ?_ (aF 4 1 (by decide) ?_ (aF 5 0 (by decide) ?_ (trivial))))))) [(0, .int .u64 s6), (1, .int .u64 z14)] (fin_of [some 4, some 5] rfl (by kernel_rfl) (by kernel_rfl)) (fun _ a w S => ?_)
      · refine fI 7 (.int .u64 s6) [(1, .int .u64 s6)] 0 [none] rfl rfl (by kernel_rfl) rfl (by kernel_rfl) (by kernel_rfl) fun G a w S => ?_
        refine sMove (.int .u64 s6) S (wN rfl) (.inl rfl) (by kernel_rfl) rfl (by decide) (fun a S => ?_)
        exact leafL ⟨rfl, S⟩
      · refine fI 8 (.int .u64 s5) [(0, .int .u64 s5)] 1 [none] rfl rfl (by kernel_rfl) rfl (by kernel_rfl) (by kernel_rfl) fun G a w S => ?_
        refine sMove (.int .u64 s5) S (wN rfl) (.inl rfl) (by kernel_rfl) rfl (by decide) (fun a S => ?_)
        exact leafL ⟨rfl, S⟩
      · refine fI 9 (.int .u64 s6) [(1, .int .u64 s6)] 2 [none] rfl rfl (by kernel_rfl) rfl (by kernel_rfl) (by kernel_rfl) fun G a w S => ?_
        refine sMove (.int .u64 s6) S (wN rfl) (.inl rfl) (by kernel_rfl) rfl (by decide) (fun a S => ?_)
        exact leafL ⟨rfl, S⟩
      · refine fI 10 (.int .u64 z14) [(8, .int .u64 s5), (9, .int .u64 s6)] 3 [some 1, some 2] rfl rfl (by kernel_rfl) rfl (by kernel_rfl) (by kernel_rfl) fun G a w S => ?_
        refine sBin (.int .u64 z14) S (wN rfl) rfl (by kernel_rfl) (by kernel_rfl) (bRemK _ _ _ _ (k := .u64) (x := s5) (y := s6) hx15) rfl (by decide) (fun a S => ?_)
        exact leafL ⟨rfl, S⟩
      · refine fI 0 (.int .u64 s6) [(7, .int .u64 s6)] 4 [some 0] rfl rfl (by kernel_rfl) rfl (by kernel_rfl) (by kernel_rfl) fun G a w S => ?_
        refine sMove (.int .u64 s6) S (wN rfl) (.inr rfl) (by kernel_rfl) rfl (by decide) (fun a S => ?_)
        exact leafL ⟨rfl, S⟩
      · refine fI 1 (.int .u64 z14) [(10, .int .u64 z14)] 5 [some 3] rfl rfl (by kernel_rfl) rfl (by kernel_rfl) (by kernel_rfl) fun G a w S => ?_
        refine sMove (.int .u64 z14) S (wN rfl) (.inr rfl) (by kernel_rfl) rfl (by decide) (fun a S => ?_)
        exact leafL ⟨rfl, S⟩
      · exact leafB (leafT (⟨(s6, z14), (Option.some.inj h).symm, (S.fix [] [] (by decide) (by kernel_rfl) (by kernel_rfl) (by kernel_rfl))⟩))
    · refine sCondF (b := s6 != 0) S (by kernel_rfl) hc13 ?_
      obtain rfl := Option.some.inj h
      obtain rfl := hu7 _ rfl
      have h := g8
      clear g8
      try dsimp only at h
      exact wp_exit (xThen (xThen (xHit (leafT (⟨s5, Option.some.inj h, S.fix [] [] (by decide) (by kernel_rfl) (by kernel_rfl) (by kernel_rfl)⟩)))))
  · obtain ⟨o2, rfl, S⟩ := hI
    have h := g4
    clear g4
    try dsimp only at h
    refine sSeq (fun K16 hK16 => ?_)
    refine sRegion ?_
    refine sMove (.int .u64 o2) S (wN rfl) (.inl rfl) (by kernel_rfl) rfl (by decide) (fun a S => ?_)
    refine sMove (.int .u64 o2) S (wN rfl) (.inr rfl) (by kernel_rfl) rfl (by decide) (fun a S => ?_)
    refine leafL (leafT (hK16 _ _ ?_))
    obtain rfl := Option.some.inj h
    exact wp_ret (sRet (.int .u64 o2) S (rsl1 rfl (rvT (t := 4) (v := .int .u64 o2) S (by kernel_rfl))) ⟨(), rfl, S.mem.sel [] [] (by decide) (by kernel_rfl) (by kernel_rfl)⟩)

end Go.Proofs.Ytdfjcpnflmgdoaa
namespace Go.Proofs.Ytdfjcpnflmgdoaa
open Go.RowKit
set_option linter.unusedVariables false

def anc_yarn_Make_0 : List (List Nat) := [[], [], [0, 1], [], [], [3, 4], [0, 1, 2], [0, 1, 2, 3, 4, 5, 6]]
noncomputable def F_yarn_Make (p0 : Int) (p1 : Int) : Option (api_Ratio × Int) :=
  if p1 == 0 then
    some ((api_Ratio.mk 0 0), 18)
  else
    Option.bind (F_yarn_size p0) fun r8 =>
    Option.bind (F_yarn_size p1) fun r10 =>
    Option.bind (F_yarn_gcd r8 r10) fun r13 =>
    Option.bind (quoK .u64 r8 r13) fun z16 =>
    Option.bind (quoK .u64 r10 r13) fun z18 =>
    Option.bind (α := Bool) (
      if decide (1000000000 < z16) then
        some true
      else
        some (decide (1000000000 < z18))) fun o21 =>
    if o21 then
      some ((api_Ratio.mk 0 0), 16)
    else
      Option.bind (α := Int) (
        if (decide (p0 < 0)) != (decide (p1 < 0)) then
          some (w64 (0 - (IntKind.i64.wrap z16)))
        else
          some (IntKind.i64.wrap z16)) fun o29 =>
      some ((api_Ratio.mk o29 (IntKind.i64.wrap z18)), 0)
def c_yarn_Make_val (r : (api_Ratio × Int)) (x : Value) : Value := .tuple #[x, .int .i64 r.2]
def c_yarn_Make_D (r : (api_Ratio × Int)) (x : Value) : List Fact := [fRep r_api_Ratio x r.1]
set_option maxHeartbeats 4000000 in
set_option maxRecDepth 100000 in
theorem c_yarn_Make (E : Nat → Prop) (w0 : World) (p0 : Int) (p1 : Int) (r : (api_Ratio × Int)) (h : F_yarn_Make p0 p1 = some r) (S : St0 E [] w0 w0 [] []) :
    Calls Try.prog 48 #[.int .i64 p0, .int .i64 p1] w0 (Ret (X := Value) E [] w0 (c_yarn_Make_val r) (fun _ => []) (c_yarn_Make_D r)) := by
  unfold F_yarn_Make at h
  refine sEnter (args := [.int .i64 p0, .int .i64 p1]) 48 Try.func48 rfl rfl (by simp) S (fun a S => ?_)
  refine sSeq (fun K1 hK1 => ?_)
  refine sRegion ?_
  refine sAlloc (.agg #[.int .i64 0, .int .i64 0]) S (wN rfl) rfl (by kernel_rfl) [.int .i64 0, .int .i64 0] rfl rfl (by decide) (fun a b2 w S => ?_)
  refine sMove (.int .i64 0) S (wN rfl) (.inr rfl) (by kernel_rfl) rfl (by decide) (fun a S => ?_)
  refine leafL (leafT (hK1 _ _ ?_))
  refine sSeq (fun K3 hK3 => ?_)
  refine sSeq (fun K4 hK4 => ?_)
  refine sRegion ?_
  refine sMove (.int .i64 p1) S (wN rfl) (.inl rfl) (by kernel_rfl) rfl (by decide) (fun a S => ?_)
  refine sBin (.bool (p1 == 0)) S (wN rfl) rfl (by kernel_rfl) (by kernel_rfl) (bEq _ _ _ _ .i64 p1 0) rfl (by decide) (fun a S => ?_)
  refine leafL (leafT (hK4 _ _ ?_))
  rcases iteSome h with ⟨hc5, h⟩ | ⟨hc5, h⟩
  · refine sCondT (b := p1 == 0) S (by kernel_rfl) hc5 ?_
    refine sSeq (fun K6 hK6 => ?_)
    refine sRegion ?_
    refine sBuild [] [.int .i64 0, .int .i64 0] S (wN rfl) rfl (by kernel_rfl) (by kernel_rfl) rfl (by decide) (fun a S => ?_)
    refine sStore (p := b2) (off := 0) (T := 23) (vs := [.int .i64 0, .int .i64 0]) (v := .agg #[.int .i64 0, .int .i64 0]) 0 [.int .i64 0, .int .i64 0] S (wN rfl) rfl (by kernel_rfl) (by kernel_rfl) rfl (by kernel_rfl) (by kernel_rfl) rfl (by simp) rfl (fun a w S => ?_)
    refine sMove (.int .i64 18) S (wN rfl) (.inr rfl) (by kernel_rfl) rfl (by decide) (fun a S => ?_)
    refine leafL (leafT (hK6 _ _ ?_))
    obtain rfl := Option.some.inj h
    have S := S.learn (fRep r_api_Ratio (.agg #[.int .i64 0, .int .i64 0]) (api_Ratio.mk 0 0)) rfl
    exact wp_ret (rThen (sRet (.tuple #[.agg #[.int .i64 0, .int .i64 0], .int .i64 18]) S (rsl2 rfl (rvN (c := 4) (t := 23) (T := 23) (p := b2) 0 [.int .i64 0, .int .i64 0] S (by kernel_rfl) (by kernel_rfl) (by kernel_rfl) (by kernel_rfl)) (rvT (t := 5) (v := .int .i64 18) S (by kernel_rfl))) ⟨(.agg #[.int .i64 0, .int .i64 0]), rfl, S.mem.sel [] [0] (by decide) (by kernel_rfl) (by kernel_rfl)⟩))
  · refine sCondF (b := p1 == 0) S (by kernel_rfl) hc5 ?_
    refine wp_skip (leafT (hK3 _ _ ?_))
    refine sSeq (fun K7 hK7 => ?_)
    refine sRegion ?_
    refine sMove (.int .i64 p0) S (wN rfl) (.inl rfl) (by kernel_rfl) rfl (by decide) (fun a S => ?_)
    obtain ⟨r8, hx9, h⟩ := bindSome h
    have S1 := S.mem
    refine sCallQ (X := Unit) (f := 37) (vs := [.int .i64 p0]) (val := fun _ => .int .u64 r8) S (wN rfl) rfl callee37 (by kernel_rfl) (S1.quiet [] (by kernel_rfl)) (fun E1 w1 S1 => c_yarn_size E1 w1 p0 r8 hx9 S1) rfl (by decide) (fun _ a w S => ?_)
    refine sMove (.int .i64 p1) S (wN rfl) (.inl rfl) (by kernel_rfl) rfl (by decide) (fun a S => ?_)
    obtain ⟨r10, hx11, h⟩ := bindSome h
    have S1 := S.mem
    refine sCallQ (X := Unit) (f := 37) (vs := [.int .i64 p1]) (val := fun _ => .int .u64 r10) S (wN rfl) rfl callee37 (by kernel_rfl) (S1.quiet [] (by kernel_rfl)) (fun E1 w1 S1 => c_yarn_size E1 w1 p1 r10 hx11 S1) rfl (by decide) (fun _ a w S => ?_)
    refine sMove (.int .u64 r8) S (wN rfl) (.inr rfl) (by kernel_rfl) rfl (by decide) (fun a S => ?_)
    refine sMove (.int .u64 r10) S (wN rfl) (.inr rfl) (by kernel_rfl) rfl (by decide) (fun a S => ?_)
    refine leafL (leafT (hK7 _ _ ?_))
    refine sSeq (fun K12 hK12 => ?_)
    refine sRegion ?_
    refine sMove (.int .u64 r8) S (wN rfl) (.inl rfl) (by kernel_rfl) rfl (by decide) (fun a S => ?_)
    refine sMove (.int .u64 r10) S (wN rfl) (.inl rfl) (by kernel_rfl) rfl (by decide) (fun a S => ?_)
    obtain ⟨r13, hx14, h⟩ := bindSome h
    have S1 := S.mem
    refine sCallQ (X := Unit) (f := 38) (vs := [.int .u64 r8, .int .u64 r10]) (val := fun _ => .int .u64 r13) S (wN rfl) rfl callee38 (by kernel_rfl) (S1.quiet [] (by kernel_rfl)) (fun E1 w1 S1 => c_yarn_gcd E1 w1 r8 r10 r13 hx14 S1) rfl (by decide) (fun _ a w S => ?_)
    refine sMove (.int .u64 r13) S (wN rfl) (.inr rfl) (by kernel_rfl) rfl (by decide) (fun a S => ?_)
    refine leafL (leafT (hK12 _ _ ?_))
    refine sSeq (fun K15 hK15 => ?_)
    obtain ⟨z16, hx17, h⟩ := bindSome h
    obtain ⟨z18, hx19, h⟩ := bindSome h
    refine sDraw (nf := []) (W := [(0, 20, .int .u64 r8), (1, 21, .int .u64 r13), (2, 22, .int .u64 z16), (3, 23, .int .u64 r10), (4, 24, .int .u64 r13), (5, 25, .int .u64 z18), (6, 6, .int .u64 z16), (7, 7, .int .u64 z18)]) (by kernel_rfl) S ?_
    refine node_by (A := anc_yarn_Make_0) (nf := []) (Y := []) (W := [(0, 20, .int .u64 r8), (1, 21, .int .u64 r13), (2, 22, .int .u64 z16), (3, 23, .int .u64 r10), (4, 24, .int .u64 r13), (5, 25, .int .u64 z18), (6, 6, .int .u64 z16), (7, 7, .int .u64 z18)]) 8 (by kernel_rfl) (by kernel_rfl) (by kernel_rfl) (by kernel_rfl) (by kernel_rfl) [0, 1, 2, 3, 4, 5, 6, 7] (by kernel_rfl) (by decide) (by decide) (aF 0 7 (by decide) ?_ (aF 1 6 (by decide) ?_ (aF 2 5 (by decide) ?_ (aF 3 4 (by decide) ?_ (aF 4 3 (by decide) ?_ (aF 5 2 (by decide) ?_ (aF 6 1 (by decide) ?_ (aF 7 0 (by decide) ?_ (trivial))))))))) [(0, .int .i64 p0), (1, .int .i64 p1), (4, .pointer (some ⟨b2, 0, none⟩)), (6, .int .u64 z16), (7, .int .u64 z18)] (fin_of [none, none, none, some 6, some 7] rfl (by kernel_rfl) (by kernel_rfl)) (fun _ a w S => ?_)
    · refine fI 20 (.int .u64 r8) [(6, .int .u64 r8)] 0 [none] rfl rfl (by kernel_rfl) rfl (by kernel_rfl) (by kernel_rfl) fun G a w S => ?_
      refine sMove (.int .u64 r8) S (wN rfl) (.inl rfl) (by kernel_rfl) rfl (by decide) (fun a S => ?_)
      exact leafL ⟨rfl, S⟩
    · refine fI 21 (.int .u64 r13) [(8, .int .u64 r13)] 1 [none] rfl rfl (by kernel_rfl) rfl (by kernel_rfl) (by kernel_rfl) fun G a w S => ?_
      refine sMove (.int .u64 r13) S (wN rfl) (.inl rfl) (by kernel_rfl) rfl (by decide) (fun a S => ?_)
      exact leafL ⟨rfl, S⟩
    · refine fI 22 (.int .u64 z16) [(20, .int .u64 r8), (21, .int .u64 r13)] 2 [some 0, some 1] rfl rfl (by kernel_rfl) rfl (by kernel_rfl) (by kernel_rfl) fun G a w S => ?_
      refine sBin (.int .u64 z16) S (wN rfl) rfl (by kernel_rfl) (by kernel_rfl) (bQuoK _ _ _ _ (k := .u64) (x := r8) (y := r13) hx17) rfl (by decide) (fun a S => ?_)
      exact leafL ⟨rfl, S⟩
    · refine fI 23 (.int .u64 r10) [(7, .int .u64 r10)] 3 [none] rfl rfl (by kernel_rfl) rfl (by kernel_rfl) (by kernel_rfl) fun G a w S => ?_
      refine sMove (.int .u64 r10) S (wN rfl) (.inl rfl) (by kernel_rfl) rfl (by decide) (fun a S => ?_)
      exact leafL ⟨rfl, S⟩
    · refine fI 24 (.int .u64 r13) [(8, .int .u64 r13)] 4 [none] rfl rfl (by kernel_rfl) rfl (by kernel_rfl) (by kernel_rfl) fun G a w S => ?_
      refine sMove (.int .u64 r13) S (wN rfl) (.inl rfl) (by kernel_rfl) rfl (by decide) (fun a S => ?_)
      exact leafL ⟨rfl, S⟩
    · refine fI 25 (.int .u64 z18) [(23, .int .u64 r10), (24, .int .u64 r13)] 5 [some 3, some 4] rfl rfl (by kernel_rfl) rfl (by kernel_rfl) (by kernel_rfl) fun G a w S => ?_
      refine sBin (.int .u64 z18) S (wN rfl) rfl (by kernel_rfl) (by kernel_rfl) (bQuoK _ _ _ _ (k := .u64) (x := r10) (y := r13) hx19) rfl (by decide) (fun a S => ?_)
      exact leafL ⟨rfl, S⟩
    · refine fI 6 (.int .u64 z16) [(22, .int .u64 z16)] 6 [some 2] rfl rfl (by kernel_rfl) rfl (by kernel_rfl) (by kernel_rfl) fun G a w S => ?_
      refine sMove (.int .u64 z16) S (wN rfl) (.inr rfl) (by kernel_rfl) rfl (by decide) (fun a S => ?_)
      exact leafL ⟨rfl, S⟩
    · refine fI 7 (.int .u64 z18) [(25, .int .u64 z18)] 7 [some 5] rfl rfl (by kernel_rfl) rfl (by kernel_rfl) (by kernel_rfl) fun G a w S => ?_
      refine sMove (.int .u64 z18) S (wN rfl) (.inr rfl) (by kernel_rfl) rfl (by decide) (fun a S => ?_)
      exact leafL ⟨rfl, S⟩
    · refine leafT (hK15 _ _ ?_)
      refine sSeq (fun K20 hK20 => ?_)
      obtain ⟨t22, h, g23⟩ := bindSome h
      refine sCut (fun a w => ∃ o21, o21 = t22 ∧ St [] E [] w0 48 a w [(0, .int .i64 p0), (1, .int .i64 p1), (4, .pointer (some ⟨b2, 0, none⟩)), (6, .int .u64 z16), (7, .int .u64 z18), (31, .bool o21)] [eBox b2 23 [.int .i64 0, .int .i64 0]] []) ?_ (fun a w hI => ?_)
      · refine sRegion ?_
        refine sMove (.int .u64 z16) S (wN rfl) (.inl rfl) (by kernel_rfl) rfl (by decide) (fun a S => ?_)
        refine sBin (.bool (decide (1000000000 < z16))) S (wN rfl) rfl (by kernel_rfl) (by kernel_rfl) (bGt _ _ _ _ .u64 z16 1000000000) rfl (by decide) (fun a S => ?_)
        refine sMove (.bool (decide (1000000000 < z16))) S (wN rfl) (.inl rfl) (by kernel_rfl) rfl (by decide) (fun a S => ?_)
        rcases iteSome h with ⟨hc24, h⟩ | ⟨hc24, h⟩
        · refine sSkip (c := decide (1000000000 < z16)) 2 false 28 29 S rfl rfl (by kernel_rfl) hc24 rfl (by decide) (fun a S => ?_)
          refine sSkip (c := decide (1000000000 < z16)) 2 false 28 30 S rfl rfl (by kernel_rfl) hc24 rfl (by decide) (fun a S => ?_)
          refine sPickT (b := decide (1000000000 < z16)) (.bool true) S (wN rfl) rfl (by kernel_rfl) hc24 (by kernel_rfl) rfl (by decide) (fun a S => ?_)
          exact leafL (leafT (⟨true, Option.some.inj h, S.fix [0] [] (by decide) (by kernel_rfl) (by kernel_rfl) (by kernel_rfl)⟩))
        · refine sMove (.int .u64 z18) S (wG (c := decide (1000000000 < z16)) 2 false 28 rfl rfl (by kernel_rfl) hc24) (.inl rfl) (by kernel_rfl) rfl (by decide) (fun a S => ?_)
          refine sBin (.bool (decide (1000000000 < z18))) S (wG (c := decide (1000000000 < z16)) 2 false 28 rfl rfl (by kernel_rfl) hc24) rfl (by kernel_rfl) (by kernel_rfl) (bGt _ _ _ _ .u64 z18 1000000000) rfl (by decide) (fun a S => ?_)
          refine sPickF (b := decide (1000000000 < z16)) (.bool (decide (1000000000 < z18))) S (wN rfl) rfl (by kernel_rfl) hc24 (by kernel_rfl) rfl (by decide) (fun a S => ?_)
          exact leafL (leafT (⟨decide (1000000000 < z18), Option.some.inj h, S.fix [0] [] (by decide) (by kernel_rfl) (by kernel_rfl) (by kernel_rfl)⟩))
      · obtain ⟨o21, rfl, S⟩ := hI
        have h := g23
        clear g23
        try dsimp only at h
        rcases iteSome h with ⟨hc25, h⟩ | ⟨hc25, h⟩
        · refine sCondT (b := o21) S (by kernel_rfl) hc25 ?_
          refine sSeq (fun K26 hK26 => ?_)
          refine sRegion ?_
          refine sBuild [] [.int .i64 0, .int .i64 0] S (wN rfl) rfl (by kernel_rfl) (by kernel_rfl) rfl (by decide) (fun a S => ?_)
          refine sStore (p := b2) (off := 0) (T := 23) (vs := [.int .i64 0, .int .i64 0]) (v := .agg #[.int .i64 0, .int .i64 0]) 0 [.int .i64 0, .int .i64 0] S (wN rfl) rfl (by kernel_rfl) (by kernel_rfl) rfl (by kernel_rfl) (by kernel_rfl) rfl (by simp) rfl (fun a w S => ?_)
          refine sMove (.int .i64 16) S (wN rfl) (.inr rfl) (by kernel_rfl) rfl (by decide) (fun a S => ?_)
          refine leafL (leafT (hK26 _ _ ?_))
          obtain rfl := Option.some.inj h
          have S := S.learn (fRep r_api_Ratio (.agg #[.int .i64 0, .int .i64 0]) (api_Ratio.mk 0 0)) rfl
          exact wp_ret (rThen (sRet (.tuple #[.agg #[.int .i64 0, .int .i64 0], .int .i64 16]) S (rsl2 rfl (rvN (c := 4) (t := 23) (T := 23) (p := b2) 0 [.int .i64 0, .int .i64 0] S (by kernel_rfl) (by kernel_rfl) (by kernel_rfl) (by kernel_rfl)) (rvT (t := 5) (v := .int .i64 16) S (by kernel_rfl))) ⟨(.agg #[.int .i64 0, .int .i64 0]), rfl, S.mem.sel [] [0] (by decide) (by kernel_rfl) (by kernel_rfl)⟩))
        · refine sCondF (b := o21) S (by kernel_rfl) hc25 ?_
          refine wp_skip (leafT (hK20 _ _ ?_))
          refine sSeq (fun K27 hK27 => ?_)
          refine sRegion ?_
          refine sMove (.int .u64 z16) S (wN rfl) (.inl rfl) (by kernel_rfl) rfl (by decide) (fun a S => ?_)
          refine sConv (k := .u64) (k2 := .i64) (b := z16) S (wN rfl) rfl Try.underlying60 Try.underlying2 (by kernel_rfl) rfl (by decide) (fun a S => ?_)
          refine sMove (.int .u64 z18) S (wN rfl) (.inl rfl) (by kernel_rfl) rfl (by decide) (fun a S => ?_)
          refine sConv (k := .u64) (k2 := .i64) (b := z18) S (wN rfl) rfl Try.underlying60 Try.underlying2 (by kernel_rfl) rfl (by decide) (fun a S => ?_)
          refine sBuild [(0, .int .i64 (IntKind.i64.wrap z16)), (1, .int .i64 (IntKind.i64.wrap z18))] [.int .i64 (IntKind.i64.wrap z16), .int .i64 (IntKind.i64.wrap z18)] S (wN rfl) rfl (by kernel_rfl) (by kernel_rfl) rfl (by decide) (fun a S => ?_)
          refine sAlloc (.agg #[.int .i64 0, .int .i64 0]) S (wN rfl) rfl (by kernel_rfl) [.int .i64 0, .int .i64 0] rfl rfl (by decide) (fun a b28 w S => ?_)
          refine sStore (p := b28) (off := 0) (T := 23) (vs := [.int .i64 0, .int .i64 0]) (v := .agg #[.int .i64 (IntKind.i64.wrap z16), .int .i64 (IntKind.i64.wrap z18)]) 0 [.int .i64 (IntKind.i64.wrap z16), .int .i64 (IntKind.i64.wrap z18)] S (wN rfl) rfl (by kernel_rfl) (by kernel_rfl) rfl (by kernel_rfl) (by kernel_rfl) rfl (by simp) rfl (fun a w S => ?_)
          refine leafL (leafT (hK27 _ _ ?_))
          obtain ⟨t30, h, g31⟩ := bindSome h
          refine sCut (fun a w => ∃ o29, o29 = t30 ∧ St [] E [] w0 48 a w [(4, .pointer (some ⟨b2, 0, none⟩)), (9, .pointer (some ⟨b28, 0, none⟩))] [eBox b2 23 [.int .i64 0, .int .i64 0], eBox b28 23 [.int .i64 o29, .int .i64 (IntKind.i64.wrap z18)]] []) ?_ (fun a w hI => ?_)
          · refine sSeq (fun K32 hK32 => ?_)
            refine sRegion ?_
            refine sMove (.int .i64 p0) S (wN rfl) (.inl rfl) (by kernel_rfl) rfl (by decide) (fun a S => ?_)
            refine sBin (.bool (decide (p0 < 0))) S (wN rfl) rfl (by kernel_rfl) (by kernel_rfl) (bLt _ _ _ _ .i64 p0 0) rfl (by decide) (fun a S => ?_)
            refine sMove (.int .i64 p1) S (wN rfl) (.inl rfl) (by kernel_rfl) rfl (by decide) (fun a S => ?_)
            refine sBin (.bool (decide (p1 < 0))) S (wN rfl) rfl (by kernel_rfl) (by kernel_rfl) (bLt _ _ _ _ .i64 p1 0) rfl (by decide) (fun a S => ?_)
            refine sBin (.bool ((decide (p0 < 0)) != (decide (p1 < 0)))) S (wN rfl) rfl (by kernel_rfl) (by kernel_rfl) (bNeB _ _ _ _ Try.underlying4 (decide (p0 < 0)) (decide (p1 < 0))) rfl (by decide) (fun a S => ?_)
            refine leafL (leafT (hK32 _ _ ?_))
            rcases iteSome h with ⟨hc33, h⟩ | ⟨hc33, h⟩
            · refine sCondT (b := (decide (p0 < 0)) != (decide (p1 < 0))) S (by kernel_rfl) hc33 ?_
              refine sRegion ?_
              refine sField (b := b28) (off := 0) 0 0 S (wN rfl) rfl (by kernel_rfl) (by kernel_rfl) rfl rfl (by decide) (fun a S => ?_)
              refine sLoad1 (p := b28) (off := 0) (T := 23) (vs := [.int .i64 (IntKind.i64.wrap z16), .int .i64 (IntKind.i64.wrap z18)]) 0 (.int .i64 (IntKind.i64.wrap z16)) S (wN rfl) rfl (by kernel_rfl) (by kernel_rfl) (by kernel_rfl) rfl rfl (by decide) (fun a S => ?_)
              refine sNeg (b := IntKind.i64.wrap z16) S (wN rfl) rfl (by kernel_rfl) rfl (by decide) (fun a S => ?_)
              refine sField (b := b28) (off := 0) 0 0 S (wN rfl) rfl (by kernel_rfl) (by kernel_rfl) rfl rfl (by decide) (fun a S => ?_)
              refine sStore (p := b28) (off := 0) (T := 23) (vs := [.int .i64 (IntKind.i64.wrap z16), .int .i64 (IntKind.i64.wrap z18)]) (v := .int .i64 (w64 (0 - (IntKind.i64.wrap z16)))) 0 [.int .i64 (w64 (0 - (IntKind.i64.wrap z16)))] S (wN rfl) rfl (by kernel_rfl) (by kernel_rfl) rfl (by kernel_rfl) (by kernel_rfl) rfl (by simp) rfl (fun a w S => ?_)
              exact leafL (leafT (⟨w64 (0 - (IntKind.i64.wrap z16)), Option.some.inj h, S.fix [1, 0] [] (by decide) (by kernel_rfl) (by kernel_rfl) (by kernel_rfl)⟩))
            · refine sCondF (b := (decide (p0 < 0)) != (decide (p1 < 0))) S (by kernel_rfl) hc33 ?_
              exact wp_skip (leafT (⟨IntKind.i64.wrap z16, Option.some.inj h, S.fix [1, 0] [] (by decide) (by kernel_rfl) (by kernel_rfl) (by kernel_rfl)⟩))
          · obtain ⟨o29, rfl, S⟩ := hI
            have h := g31
            clear g31
            try dsimp only at h
            refine sSeq (fun K34 hK34 => ?_)
            refine sRegion ?_
            refine sLoadN (p := b28) (off := 0) (T := 23) (vs := [.int .i64 o29, .int .i64 (IntKind.i64.wrap z18)]) 1 [.int .i64 o29, .int .i64 (IntKind.i64.wrap z18)] S (wN rfl) rfl (by kernel_rfl) (by kernel_rfl) (by kernel_rfl) (by kernel_rfl) rfl rfl (by decide) (fun a S => ?_)
            refine sStore (p := b2) (off := 0) (T := 23) (vs := [.int .i64 0, .int .i64 0]) (v := .agg #[.int .i64 o29, .int .i64 (IntKind.i64.wrap z18)]) 0 [.int .i64 o29, .int .i64 (IntKind.i64.wrap z18)] S (wN rfl) rfl (by kernel_rfl) (by kernel_rfl) rfl (by kernel_rfl) (by kernel_rfl) rfl (by simp) rfl (fun a w S => ?_)
            refine sMove (.int .i64 0) S (wN rfl) (.inr rfl) (by kernel_rfl) rfl (by decide) (fun a S => ?_)
            refine leafL (leafT (hK34 _ _ ?_))
            obtain rfl := Option.some.inj h
            have S := S.learn (fRep r_api_Ratio (.agg #[.int .i64 o29, .int .i64 (IntKind.i64.wrap z18)]) (api_Ratio.mk o29 (IntKind.i64.wrap z18))) rfl
            exact wp_ret (sRet (.tuple #[.agg #[.int .i64 o29, .int .i64 (IntKind.i64.wrap z18)], .int .i64 0]) S (rsl2 rfl (rvN (c := 4) (t := 23) (T := 23) (p := b2) 0 [.int .i64 o29, .int .i64 (IntKind.i64.wrap z18)] S (by kernel_rfl) (by kernel_rfl) (by kernel_rfl) (by kernel_rfl)) (rvT (t := 5) (v := .int .i64 0) S (by kernel_rfl))) ⟨(.agg #[.int .i64 o29, .int .i64 (IntKind.i64.wrap z18)]), rfl, S.mem.sel [] [0] (by decide) (by kernel_rfl) (by kernel_rfl)⟩)

end Go.Proofs.Ytdfjcpnflmgdoaa
namespace Go.Proofs.Ytdfjcpnflmgdoaa
open Go.RowKit
set_option linter.unusedVariables false

noncomputable def raddleref23_common_l1  : (Int × Int) → Option ((Int × Int) ⊕ Int) := fun s0 => match s0 with
  | (s5, s6) =>
    if s6 != 0 then
      Option.bind (remI s5 s6) fun z14 =>
      some (.inl (s6, z14))
    else
      some (.inr s5)
noncomputable def F_raddleref23_common (p0 : Int) (p1 : Int) : Option Int :=
  Option.bind (α := Int) (
    Option.bind (whileO (raddleref23_common_l1) (p0, p1)) fun e10 =>
      some e10) fun o2 =>
  if decide (o2 < 0) then
    some (w64 (0 - o2))
  else
    some o2
set_option maxHeartbeats 4000000 in
set_option maxRecDepth 100000 in
theorem c_raddleref23_common (E : Nat → Prop) (w0 : World) (p0 : Int) (p1 : Int) (r : Int) (h : F_raddleref23_common p0 p1 = some r) (S : St0 E [] w0 w0 [] []) :
    Calls Try.prog 39 #[.int .i64 p0, .int .i64 p1] w0 (Ret (X := Unit) E [] w0 (fun _ => .int .i64 r) (fun _ => []) (fun _ => [])) := by
  unfold F_raddleref23_common at h
  refine sEnter (args := [.int .i64 p0, .int .i64 p1]) 16 Try.func39 rfl rfl (by simp) S (fun a S => ?_)
  refine sSeq (fun K1 hK1 => ?_)
  refine sRegion ?_
  refine sMove (.int .i64 0) S (wN rfl) (.inr rfl) (by kernel_rfl) rfl (by decide) (fun a S => ?_)
  refine leafL (leafT (hK1 _ _ ?_))
  obtain ⟨t3, h, g4⟩ := bindSome h
  refine sCut (fun a w => ∃ o2, o2 = t3 ∧ St [] E [] w0 16 a w [(0, .int .i64 o2)] [] []) ?_ (fun a w hI => ?_)
  · refine wp_block ?_
    obtain ⟨t9, hl, g8⟩ := bindSome h
    refine sLoop hl (fun s0 a w => match s0 with | (s5, s6) => St [] E [] w0 16 a w [(0, .int .i64 s5), (1, .int .i64 s6)] [] []) (S.fix [] [] (by decide) (by kernel_rfl) (by kernel_rfl) (by kernel_rfl)) ?_
    clear hl h
    intro s0 a w c0 hI h hu7
    obtain ⟨s5, s6⟩ := s0
    unfold raddleref23_common_l1 at h
    dsimp only at h hI
    have S := hI
    refine sSeq (fun K11 hK11 => ?_)
    refine sSeq (fun K12 hK12 => ?_)
    refine sRegion ?_
    refine sMove (.int .i64 s6) S (wN rfl) (.inl rfl) (by kernel_rfl) rfl (by decide) (fun a S => ?_)
    refine sBin (.bool (s6 != 0)) S (wN rfl) rfl (by kernel_rfl) (by kernel_rfl) (bNe _ _ _ _ .i64 s6 0) rfl (by decide) (fun a S => ?_)
    refine leafL (leafT (hK12 _ _ ?_))
    rcases iteSome h with ⟨hc13, h⟩ | ⟨hc13, h⟩
    · refine sCondT (b := s6 != 0) S (by kernel_rfl) hc13 ?_
      refine wp_skip (leafT (hK11 _ _ ?_))
      refine wp_block ?_
      obtain ⟨z14, hx15, h⟩ := bindSome h
      refine sDraw (nf := []) (W := [(0, 7, .int .i64 s6), (1, 8, .int .i64 s5), (2, 9, .int .i64 s6), (3, 10, .int .i64 z14), (4, 0, .int .i64 s6), (5, 1, .int .i64 z14)]) (by kernel_rfl) S ?_
      refine node_by (A := [[], [], [], [1, 2], [0, 1], [0, 1, 2, 3, 4]]) (nf := []) (Y := []) (W := [(0, 7, .int .i64 s6), (1, 8, .int .i64 s5), (2, 9, .int .i64 s6), (3, 10, .int .i64 z14), (4, 0, .int .i64 s6), (5, 1, .int .i64 z14)]) 6 (by kernel_rfl) (by kernel_rfl) (by kernel_rfl) (by kernel_rfl) (by kernel_rfl) [0, 1, 2, 3, 4, 5] (by kernel_rfl) (by decide) (by decide) (aF 0 5 (by decide) ?_ (aF 1 4 (by decide) ?_ (aF 2 3 (by decide) ?_ (aF 3 2 (by decide) ?_ (aF 4 1 (by decide) ?_ (aF 5 0 (by decide) ?_ (trivial))))))) [(0, .int .i64 s6), (1, .int .i64 z14)] (fin_of [some 4, some 5] rfl (by kernel_rfl) (by kernel_rfl)) (fun _ a w S => ?_)
      · refine fI 7 (.int .i64 s6) [(1, .int .i64 s6)] 0 [none] rfl rfl (by kernel_rfl) rfl (by kernel_rfl) (by kernel_rfl) fun G a w S => ?_
        refine sMove (.int .i64 s6) S (wN rfl) (.inl rfl) (by kernel_rfl) rfl (by decide) (fun a S => ?_)
        exact leafL ⟨rfl, S⟩
      · refine fI 8 (.int .i64 s5) [(0, .int .i64 s5)] 1 [none] rfl rfl (by kernel_rfl) rfl (by kernel_rfl) (by kernel_rfl) fun G a w S => ?_
        refine sMove (.int .i64 s5) S (wN rfl) (.inl rfl) (by kernel_rfl) rfl (by decide) (fun a S => ?_)
        exact leafL ⟨rfl, S⟩
      · refine fI 9 (.int .i64 s6) [(1, .int .i64 s6)] 2 [none] rfl rfl (by kernel_rfl) rfl (by kernel_rfl) (by kernel_rfl) fun G a w S => ?_
        refine sMove (.int .i64 s6) S (wN rfl) (.inl rfl) (by kernel_rfl) rfl (by decide) (fun a S => ?_)
        exact leafL ⟨rfl, S⟩
      · refine fI 10 (.int .i64 z14) [(8, .int .i64 s5), (9, .int .i64 s6)] 3 [some 1, some 2] rfl rfl (by kernel_rfl) rfl (by kernel_rfl) (by kernel_rfl) fun G a w S => ?_
        refine sBin (.int .i64 z14) S (wN rfl) rfl (by kernel_rfl) (by kernel_rfl) (bRem _ _ _ _ (x := s5) (y := s6) hx15) rfl (by decide) (fun a S => ?_)
        exact leafL ⟨rfl, S⟩
      · refine fI 0 (.int .i64 s6) [(7, .int .i64 s6)] 4 [some 0] rfl rfl (by kernel_rfl) rfl (by kernel_rfl) (by kernel_rfl) fun G a w S => ?_
        refine sMove (.int .i64 s6) S (wN rfl) (.inr rfl) (by kernel_rfl) rfl (by decide) (fun a S => ?_)
        exact leafL ⟨rfl, S⟩
      · refine fI 1 (.int .i64 z14) [(10, .int .i64 z14)] 5 [some 3] rfl rfl (by kernel_rfl) rfl (by kernel_rfl) (by kernel_rfl) fun G a w S => ?_
        refine sMove (.int .i64 z14) S (wN rfl) (.inr rfl) (by kernel_rfl) rfl (by decide) (fun a S => ?_)
        exact leafL ⟨rfl, S⟩
      · exact leafB (leafT (⟨(s6, z14), (Option.some.inj h).symm, (S.fix [] [] (by decide) (by kernel_rfl) (by kernel_rfl) (by kernel_rfl))⟩))
    · refine sCondF (b := s6 != 0) S (by kernel_rfl) hc13 ?_
      obtain rfl := Option.some.inj h
      obtain rfl := hu7 _ rfl
      have h := g8
      clear g8
      try dsimp only at h
      exact wp_exit (xThen (xThen (xHit (leafT (⟨s5, Option.some.inj h, S.fix [] [] (by decide) (by kernel_rfl) (by kernel_rfl) (by kernel_rfl)⟩)))))
  · obtain ⟨o2, rfl, S⟩ := hI
    have h := g4
    clear g4
    try dsimp only at h
    refine sSeq (fun K16 hK16 => ?_)
    refine sSeq (fun K17 hK17 => ?_)
    refine sRegion ?_
    refine sMove (.int .i64 o2) S (wN rfl) (.inl rfl) (by kernel_rfl) rfl (by decide) (fun a S => ?_)
    refine sBin (.bool (decide (o2 < 0))) S (wN rfl) rfl (by kernel_rfl) (by kernel_rfl) (bLt _ _ _ _ .i64 o2 0) rfl (by decide) (fun a S => ?_)
    refine leafL (leafT (hK17 _ _ ?_))
    rcases iteSome h with ⟨hc18, h⟩ | ⟨hc18, h⟩
    · refine sCondT (b := decide (o2 < 0)) S (by kernel_rfl) hc18 ?_
      refine sSeq (fun K19 hK19 => ?_)
      refine sRegion ?_
      refine sMove (.int .i64 o2) S (wN rfl) (.inl rfl) (by kernel_rfl) rfl (by decide) (fun a S => ?_)
      refine sNeg (b := o2) S (wN rfl) rfl (by kernel_rfl) rfl (by decide) (fun a S => ?_)
      refine sMove (.int .i64 (w64 (0 - o2))) S (wN rfl) (.inr rfl) (by kernel_rfl) rfl (by decide) (fun a S => ?_)
      refine leafL (leafT (hK19 _ _ ?_))
      obtain rfl := Option.some.inj h
      exact wp_ret (rThen (sRet (.int .i64 (w64 (0 - o2))) S (rsl1 rfl (rvT (t := 4) (v := .int .i64 (w64 (0 - o2))) S (by kernel_rfl))) ⟨(), rfl, S.mem.sel [] [] (by decide) (by kernel_rfl) (by kernel_rfl)⟩))
    · refine sCondF (b := decide (o2 < 0)) S (by kernel_rfl) hc18 ?_
      refine wp_skip (leafT (hK16 _ _ ?_))
      refine sSeq (fun K20 hK20 => ?_)
      refine sRegion ?_
      refine sMove (.int .i64 o2) S (wN rfl) (.inl rfl) (by kernel_rfl) rfl (by decide) (fun a S => ?_)
      refine sMove (.int .i64 o2) S (wN rfl) (.inr rfl) (by kernel_rfl) rfl (by decide) (fun a S => ?_)
      refine leafL (leafT (hK20 _ _ ?_))
      obtain rfl := Option.some.inj h
      exact wp_ret (sRet (.int .i64 o2) S (rsl1 rfl (rvT (t := 4) (v := .int .i64 o2) S (by kernel_rfl))) ⟨(), rfl, S.mem.sel [] [] (by decide) (by kernel_rfl) (by kernel_rfl)⟩)

end Go.Proofs.Ytdfjcpnflmgdoaa
namespace Go.Proofs.Ytdfjcpnflmgdoaa
open Go.RowKit
set_option linter.unusedVariables false

noncomputable def F_raddleref23_Check (p0 : api_Ratio) : Option Int :=
  Option.bind (α := Bool) (
    if decide (p0.Den < 1) then
      some true
    else
      if decide (1000000000 < p0.Den) then
        some true
      else
        if decide (p0.Num < (-1000000000)) then
          some true
        else
          if decide (1000000000 < p0.Num) then
            some true
          else
            Option.bind (F_raddleref23_common p0.Num p0.Den) fun r11 =>
            some (r11 != 1)) fun o4 =>
  if o4 then
    some 8
  else
    some 0
set_option maxHeartbeats 4000000 in
set_option maxRecDepth 100000 in
theorem c_raddleref23_Check (E : Nat → Prop) (w0 : World) (p0 : api_Ratio) (v0 : Value) (r : Int) (h : F_raddleref23_Check p0 = some r) (S : St0 E [] w0 w0 [] [fRep r_api_Ratio (v0) p0]) :
    Calls Try.prog 9 #[v0] w0 (Ret (X := Unit) E [] w0 (fun _ => .int .i64 r) (fun _ => []) (fun _ => [])) := by
  unfold F_raddleref23_Check at h
  obtain rfl : v0 = .agg #[.int .i64 p0.Num, .int .i64 p0.Den] := S.know (i := 0) (e := fRep r_api_Ratio (v0) p0) (by kernel_rfl)
  refine sEnter (args := [.agg #[.int .i64 p0.Num, .int .i64 p0.Den]]) 29 Try.func9 rfl rfl (by simp) S (fun a S => ?_)
  refine sSeq (fun K1 hK1 => ?_)
  refine sRegion ?_
  refine sBox (v := .agg #[.int .i64 p0.Num, .int .i64 p0.Den]) S (wN rfl) rfl (by kernel_rfl) [.int .i64 p0.Num, .int .i64 p0.Den] rfl rfl (by decide) (fun a b2 w S => ?_)
  refine sMove (.int .i64 0) S (wN rfl) (.inr rfl) (by kernel_rfl) rfl (by decide) (fun a S => ?_)
  refine leafL (leafT (hK1 _ _ ?_))
  refine sSeq (fun K3 hK3 => ?_)
  obtain ⟨t5, h, g6⟩ := bindSome h
  refine sCut (fun a w => ∃ o4, o4 = t5 ∧ St [] E [] w0 29 a w [(28, .bool o4)] [] []) ?_ (fun a w hI => ?_)
  · refine sRegion ?_
    refine sField (b := b2) (off := 0) 1 1 S (wN rfl) rfl (by kernel_rfl) (by kernel_rfl) rfl rfl (by decide) (fun a S => ?_)
    refine sLoad1 (p := b2) (off := 1) (T := 23) (vs := [.int .i64 p0.Num, .int .i64 p0.Den]) 0 (.int .i64 p0.Den) S (wN rfl) rfl (by kernel_rfl) (by kernel_rfl) (by kernel_rfl) rfl rfl (by decide) (fun a S => ?_)
    refine sBin (.bool (decide (p0.Den < 1))) S (wN rfl) rfl (by kernel_rfl) (by kernel_rfl) (bLt _ _ _ _ .i64 p0.Den 1) rfl (by decide) (fun a S => ?_)
    refine sMove (.bool (decide (p0.Den < 1))) S (wN rfl) (.inl rfl) (by kernel_rfl) rfl (by decide) (fun a S => ?_)
    rcases iteSome h with ⟨hc7, h⟩ | ⟨hc7, h⟩
    · refine sSkip (c := decide (p0.Den < 1)) 3 false 6 7 S rfl rfl (by kernel_rfl) hc7 rfl (by decide) (fun a S => ?_)
      refine sSkip (c := decide (p0.Den < 1)) 3 false 6 8 S rfl rfl (by kernel_rfl) hc7 rfl (by decide) (fun a S => ?_)
      refine sSkip (c := decide (p0.Den < 1)) 3 false 6 9 S rfl rfl (by kernel_rfl) hc7 rfl (by decide) (fun a S => ?_)
      refine sPickT (b := decide (p0.Den < 1)) (.bool true) S (wN rfl) rfl (by kernel_rfl) hc7 (by kernel_rfl) rfl (by decide) (fun a S => ?_)
      refine sMove (.bool true) S (wN rfl) (.inl rfl) (by kernel_rfl) rfl (by decide) (fun a S => ?_)
      refine sSkip (c := true) 8 false 11 12 S rfl rfl (by kernel_rfl) rfl rfl (by decide) (fun a S => ?_)
      refine sSkip (c := true) 8 false 11 13 S rfl rfl (by kernel_rfl) rfl rfl (by decide) (fun a S => ?_)
      refine sSkip (c := true) 8 false 11 14 S rfl rfl (by kernel_rfl) rfl rfl (by decide) (fun a S => ?_)
      refine sPickT (b := true) (.bool true) S (wN rfl) rfl (by kernel_rfl) rfl (by kernel_rfl) rfl (by decide) (fun a S => ?_)
      refine sMove (.bool true) S (wN rfl) (.inl rfl) (by kernel_rfl) rfl (by decide) (fun a S => ?_)
      refine sSkip (c := true) 13 false 16 17 S rfl rfl (by kernel_rfl) rfl rfl (by decide) (fun a S => ?_)
      refine sSkip (c := true) 13 false 16 18 S rfl rfl (by kernel_rfl) rfl rfl (by decide) (fun a S => ?_)
      refine sSkip (c := true) 13 false 16 19 S rfl rfl (by kernel_rfl) rfl rfl (by decide) (fun a S => ?_)
      refine sPickT (b := true) (.bool true) S (wN rfl) rfl (by kernel_rfl) rfl (by kernel_rfl) rfl (by decide) (fun a S => ?_)
      refine sMove (.bool true) S (wN rfl) (.inl rfl) (by kernel_rfl) rfl (by decide) (fun a S => ?_)
      refine sSkip (c := true) 18 false 21 22 S rfl rfl (by kernel_rfl) rfl rfl (by decide) (fun a S => ?_)
      refine sSkip (c := true) 18 false 21 23 S rfl rfl (by kernel_rfl) rfl rfl (by decide) (fun a S => ?_)
      refine sSkip (c := true) 18 false 21 24 S rfl rfl (by kernel_rfl) rfl rfl (by decide) (fun a S => ?_)
      refine sSkip (c := true) 18 false 21 25 S rfl rfl (by kernel_rfl) rfl rfl (by decide) (fun a S => ?_)
      refine sSkip (c := true) 18 false 21 26 S rfl rfl (by kernel_rfl) rfl rfl (by decide) (fun a S => ?_)
      refine sSkip (c := true) 18 false 21 27 S rfl rfl (by kernel_rfl) rfl rfl (by decide) (fun a S => ?_)
      refine sPickT (b := true) (.bool true) S (wN rfl) rfl (by kernel_rfl) rfl (by kernel_rfl) rfl (by decide) (fun a S => ?_)
      exact leafL (leafT (⟨true, Option.some.inj h, S.fix [] [] (by decide) (by kernel_rfl) (by kernel_rfl) (by kernel_rfl)⟩))
    · refine sField (b := b2) (off := 0) 1 1 S (wG (c := decide (p0.Den < 1)) 3 false 6 rfl rfl (by kernel_rfl) hc7) rfl (by kernel_rfl) (by kernel_rfl) rfl rfl (by decide) (fun a S => ?_)
      refine sLoad1 (p := b2) (off := 1) (T := 23) (vs := [.int .i64 p0.Num, .int .i64 p0.Den]) 0 (.int .i64 p0.Den) S (wG (c := decide (p0.Den < 1)) 3 false 6 rfl rfl (by kernel_rfl) hc7) rfl (by kernel_rfl) (by kernel_rfl) (by kernel_rfl) rfl rfl (by decide) (fun a S => ?_)
      refine sBin (.bool (decide (1000000000 < p0.Den))) S (wG (c := decide (p0.Den < 1)) 3 false 6 rfl rfl (by kernel_rfl) hc7) rfl (by kernel_rfl) (by kernel_rfl) (bGt _ _ _ _ .i64 p0.Den 1000000000) rfl (by decide) (fun a S => ?_)
      refine sPickF (b := decide (p0.Den < 1)) (.bool (decide (1000000000 < p0.Den))) S (wN rfl) rfl (by kernel_rfl) hc7 (by kernel_rfl) rfl (by decide) (fun a S => ?_)
      refine sMove (.bool (decide (1000000000 < p0.Den))) S (wN rfl) (.inl rfl) (by kernel_rfl) rfl (by decide) (fun a S => ?_)
      rcases iteSome h with ⟨hc8, h⟩ | ⟨hc8, h⟩
      · refine sSkip (c := decide (1000000000 < p0.Den)) 8 false 11 12 S rfl rfl (by kernel_rfl) hc8 rfl (by decide) (fun a S => ?_)
        refine sSkip (c := decide (1000000000 < p0.Den)) 8 false 11 13 S rfl rfl (by kernel_rfl) hc8 rfl (by decide) (fun a S => ?_)
        refine sSkip (c := decide (1000000000 < p0.Den)) 8 false 11 14 S rfl rfl (by kernel_rfl) hc8 rfl (by decide) (fun a S => ?_)
        refine sPickT (b := decide (1000000000 < p0.Den)) (.bool true) S (wN rfl) rfl (by kernel_rfl) hc8 (by kernel_rfl) rfl (by decide) (fun a S => ?_)
        refine sMove (.bool true) S (wN rfl) (.inl rfl) (by kernel_rfl) rfl (by decide) (fun a S => ?_)
        refine sSkip (c := true) 13 false 16 17 S rfl rfl (by kernel_rfl) rfl rfl (by decide) (fun a S => ?_)
        refine sSkip (c := true) 13 false 16 18 S rfl rfl (by kernel_rfl) rfl rfl (by decide) (fun a S => ?_)
        refine sSkip (c := true) 13 false 16 19 S rfl rfl (by kernel_rfl) rfl rfl (by decide) (fun a S => ?_)
        refine sPickT (b := true) (.bool true) S (wN rfl) rfl (by kernel_rfl) rfl (by kernel_rfl) rfl (by decide) (fun a S => ?_)
        refine sMove (.bool true) S (wN rfl) (.inl rfl) (by kernel_rfl) rfl (by decide) (fun a S => ?_)
        refine sSkip (c := true) 18 false 21 22 S rfl rfl (by kernel_rfl) rfl rfl (by decide) (fun a S => ?_)
        refine sSkip (c := true) 18 false 21 23 S rfl rfl (by kernel_rfl) rfl rfl (by decide) (fun a S => ?_)
        refine sSkip (c := true) 18 false 21 24 S rfl rfl (by kernel_rfl) rfl rfl (by decide) (fun a S => ?_)
        refine sSkip (c := true) 18 false 21 25 S rfl rfl (by kernel_rfl) rfl rfl (by decide) (fun a S => ?_)
        refine sSkip (c := true) 18 false 21 26 S rfl rfl (by kernel_rfl) rfl rfl (by decide) (fun a S => ?_)
        refine sSkip (c := true) 18 false 21 27 S rfl rfl (by kernel_rfl) rfl rfl (by decide) (fun a S => ?_)
        refine sPickT (b := true) (.bool true) S (wN rfl) rfl (by kernel_rfl) rfl (by kernel_rfl) rfl (by decide) (fun a S => ?_)
        exact leafL (leafT (⟨true, Option.some.inj h, S.fix [] [] (by decide) (by kernel_rfl) (by kernel_rfl) (by kernel_rfl)⟩))
      · refine sField (b := b2) (off := 0) 0 0 S (wG (c := decide (1000000000 < p0.Den)) 8 false 11 rfl rfl (by kernel_rfl) hc8) rfl (by kernel_rfl) (by kernel_rfl) rfl rfl (by decide) (fun a S => ?_)
        refine sLoad1 (p := b2) (off := 0) (T := 23) (vs := [.int .i64 p0.Num, .int .i64 p0.Den]) 0 (.int .i64 p0.Num) S (wG (c := decide (1000000000 < p0.Den)) 8 false 11 rfl rfl (by kernel_rfl) hc8) rfl (by kernel_rfl) (by kernel_rfl) (by kernel_rfl) rfl rfl (by decide) (fun a S => ?_)
        refine sBin (.bool (decide (p0.Num < (-1000000000)))) S (wG (c := decide (1000000000 < p0.Den)) 8 false 11 rfl rfl (by kernel_rfl) hc8) rfl (by kernel_rfl) (by kernel_rfl) (bLt _ _ _ _ .i64 p0.Num (-1000000000)) rfl (by decide) (fun a S => ?_)
        refine sPickF (b := decide (1000000000 < p0.Den)) (.bool (decide (p0.Num < (-1000000000)))) S (wN rfl) rfl (by kernel_rfl) hc8 (by kernel_rfl) rfl (by decide) (fun a S => ?_)
        refine sMove (.bool (decide (p0.Num < (-1000000000)))) S (wN rfl) (.inl rfl) (by kernel_rfl) rfl (by decide) (fun a S => ?_)
        rcases iteSome h with ⟨hc9, h⟩ | ⟨hc9, h⟩
        · refine sSkip (c := decide (p0.Num < (-1000000000))) 13 false 16 17 S rfl rfl (by kernel_rfl) hc9 rfl (by decide) (fun a S => ?_)
          refine sSkip (c := decide (p0.Num < (-1000000000))) 13 false 16 18 S rfl rfl (by kernel_rfl) hc9 rfl (by decide) (fun a S => ?_)
          refine sSkip (c := decide (p0.Num < (-1000000000))) 13 false 16 19 S rfl rfl (by kernel_rfl) hc9 rfl (by decide) (fun a S => ?_)
          refine sPickT (b := decide (p0.Num < (-1000000000))) (.bool true) S (wN rfl) rfl (by kernel_rfl) hc9 (by kernel_rfl) rfl (by decide) (fun a S => ?_)
          refine sMove (.bool true) S (wN rfl) (.inl rfl) (by kernel_rfl) rfl (by decide) (fun a S => ?_)
          refine sSkip (c := true) 18 false 21 22 S rfl rfl (by kernel_rfl) rfl rfl (by decide) (fun a S => ?_)
          refine sSkip (c := true) 18 false 21 23 S rfl rfl (by kernel_rfl) rfl rfl (by decide) (fun a S => ?_)
          refine sSkip (c := true) 18 false 21 24 S rfl rfl (by kernel_rfl) rfl rfl (by decide) (fun a S => ?_)
          refine sSkip (c := true) 18 false 21 25 S rfl rfl (by kernel_rfl) rfl rfl (by decide) (fun a S => ?_)
          refine sSkip (c := true) 18 false 21 26 S rfl rfl (by kernel_rfl) rfl rfl (by decide) (fun a S => ?_)
          refine sSkip (c := true) 18 false 21 27 S rfl rfl (by kernel_rfl) rfl rfl (by decide) (fun a S => ?_)
          refine sPickT (b := true) (.bool true) S (wN rfl) rfl (by kernel_rfl) rfl (by kernel_rfl) rfl (by decide) (fun a S => ?_)
          exact leafL (leafT (⟨true, Option.some.inj h, S.fix [] [] (by decide) (by kernel_rfl) (by kernel_rfl) (by kernel_rfl)⟩))
        · refine sField (b := b2) (off := 0) 0 0 S (wG (c := decide (p0.Num < (-1000000000))) 13 false 16 rfl rfl (by kernel_rfl) hc9) rfl (by kernel_rfl) (by kernel_rfl) rfl rfl (by decide) (fun a S => ?_)
          refine sLoad1 (p := b2) (off := 0) (T := 23) (vs := [.int .i64 p0.Num, .int .i64 p0.Den]) 0 (.int .i64 p0.Num) S (wG (c := decide (p0.Num < (-1000000000))) 13 false 16 rfl rfl (by kernel_rfl) hc9) rfl (by kernel_rfl) (by kernel_rfl) (by kernel_rfl) rfl rfl (by decide) (fun a S => ?_)
          refine sBin (.bool (decide (1000000000 < p0.Num))) S (wG (c := decide (p0.Num < (-1000000000))) 13 false 16 rfl rfl (by kernel_rfl) hc9) rfl (by kernel_rfl) (by kernel_rfl) (bGt _ _ _ _ .i64 p0.Num 1000000000) rfl (by decide) (fun a S => ?_)
          refine sPickF (b := decide (p0.Num < (-1000000000))) (.bool (decide (1000000000 < p0.Num))) S (wN rfl) rfl (by kernel_rfl) hc9 (by kernel_rfl) rfl (by decide) (fun a S => ?_)
          refine sMove (.bool (decide (1000000000 < p0.Num))) S (wN rfl) (.inl rfl) (by kernel_rfl) rfl (by decide) (fun a S => ?_)
          rcases iteSome h with ⟨hc10, h⟩ | ⟨hc10, h⟩
          · refine sSkip (c := decide (1000000000 < p0.Num)) 18 false 21 22 S rfl rfl (by kernel_rfl) hc10 rfl (by decide) (fun a S => ?_)
            refine sSkip (c := decide (1000000000 < p0.Num)) 18 false 21 23 S rfl rfl (by kernel_rfl) hc10 rfl (by decide) (fun a S => ?_)
            refine sSkip (c := decide (1000000000 < p0.Num)) 18 false 21 24 S rfl rfl (by kernel_rfl) hc10 rfl (by decide) (fun a S => ?_)
            refine sSkip (c := decide (1000000000 < p0.Num)) 18 false 21 25 S rfl rfl (by kernel_rfl) hc10 rfl (by decide) (fun a S => ?_)
            refine sSkip (c := decide (1000000000 < p0.Num)) 18 false 21 26 S rfl rfl (by kernel_rfl) hc10 rfl (by decide) (fun a S => ?_)
            refine sSkip (c := decide (1000000000 < p0.Num)) 18 false 21 27 S rfl rfl (by kernel_rfl) hc10 rfl (by decide) (fun a S => ?_)
            refine sPickT (b := decide (1000000000 < p0.Num)) (.bool true) S (wN rfl) rfl (by kernel_rfl) hc10 (by kernel_rfl) rfl (by decide) (fun a S => ?_)
            exact leafL (leafT (⟨true, Option.some.inj h, S.fix [] [] (by decide) (by kernel_rfl) (by kernel_rfl) (by kernel_rfl)⟩))
          · refine sField (b := b2) (off := 0) 0 0 S (wG (c := decide (1000000000 < p0.Num)) 18 false 21 rfl rfl (by kernel_rfl) hc10) rfl (by kernel_rfl) (by kernel_rfl) rfl rfl (by decide) (fun a S => ?_)
            refine sLoad1 (p := b2) (off := 0) (T := 23) (vs := [.int .i64 p0.Num, .int .i64 p0.Den]) 0 (.int .i64 p0.Num) S (wG (c := decide (1000000000 < p0.Num)) 18 false 21 rfl rfl (by kernel_rfl) hc10) rfl (by kernel_rfl) (by kernel_rfl) (by kernel_rfl) rfl rfl (by decide) (fun a S => ?_)
            refine sField (b := b2) (off := 0) 1 1 S (wG (c := decide (1000000000 < p0.Num)) 18 false 21 rfl rfl (by kernel_rfl) hc10) rfl (by kernel_rfl) (by kernel_rfl) rfl rfl (by decide) (fun a S => ?_)
            refine sLoad1 (p := b2) (off := 1) (T := 23) (vs := [.int .i64 p0.Num, .int .i64 p0.Den]) 0 (.int .i64 p0.Den) S (wG (c := decide (1000000000 < p0.Num)) 18 false 21 rfl rfl (by kernel_rfl) hc10) rfl (by kernel_rfl) (by kernel_rfl) (by kernel_rfl) rfl rfl (by decide) (fun a S => ?_)
            obtain ⟨r11, hx12, h⟩ := bindSome h
            have S1 := S.mem
            refine sCallQ (X := Unit) (f := 39) (vs := [.int .i64 p0.Num, .int .i64 p0.Den]) (val := fun _ => .int .i64 r11) S (wG (c := decide (1000000000 < p0.Num)) 18 false 21 rfl rfl (by kernel_rfl) hc10) rfl callee39 (by kernel_rfl) (S1.quiet [] (by kernel_rfl)) (fun E1 w1 S1 => c_raddleref23_common E1 w1 p0.Num p0.Den r11 hx12 S1) rfl (by decide) (fun _ a w S => ?_)
            refine sBin (.bool (r11 != 1)) S (wG (c := decide (1000000000 < p0.Num)) 18 false 21 rfl rfl (by kernel_rfl) hc10) rfl (by kernel_rfl) (by kernel_rfl) (bNe _ _ _ _ .i64 r11 1) rfl (by decide) (fun a S => ?_)
            refine sPickF (b := decide (1000000000 < p0.Num)) (.bool (r11 != 1)) S (wN rfl) rfl (by kernel_rfl) hc10 (by kernel_rfl) rfl (by decide) (fun a S => ?_)
            exact leafL (leafT (⟨r11 != 1, Option.some.inj h, S.fix [] [] (by decide) (by kernel_rfl) (by kernel_rfl) (by kernel_rfl)⟩))
  · obtain ⟨o4, rfl, S⟩ := hI
    have h := g6
    clear g6
    try dsimp only at h
    rcases iteSome h with ⟨hc13, h⟩ | ⟨hc13, h⟩
    · refine sCondT (b := o4) S (by kernel_rfl) hc13 ?_
      refine sSeq (fun K14 hK14 => ?_)
      refine sRegion ?_
      refine sMove (.int .i64 8) S (wN rfl) (.inr rfl) (by kernel_rfl) rfl (by decide) (fun a S => ?_)
      refine leafL (leafT (hK14 _ _ ?_))
      obtain rfl := Option.some.inj h
      exact wp_ret (rThen (sRet (.int .i64 8) S (rsl1 rfl (rvT (t := 2) (v := .int .i64 8) S (by kernel_rfl))) ⟨(), rfl, S.mem.sel [] [] (by decide) (by kernel_rfl) (by kernel_rfl)⟩))
    · refine sCondF (b := o4) S (by kernel_rfl) hc13 ?_
      refine wp_skip (leafT (hK3 _ _ ?_))
      refine sSeq (fun K15 hK15 => ?_)
      refine sRegion ?_
      refine sMove (.int .i64 0) S (wN rfl) (.inr rfl) (by kernel_rfl) rfl (by decide) (fun a S => ?_)
      refine leafL (leafT (hK15 _ _ ?_))
      obtain rfl := Option.some.inj h
      exact wp_ret (sRet (.int .i64 0) S (rsl1 rfl (rvT (t := 2) (v := .int .i64 0) S (by kernel_rfl))) ⟨(), rfl, S.mem.sel [] [] (by decide) (by kernel_rfl) (by kernel_rfl)⟩)

end Go.Proofs.Ytdfjcpnflmgdoaa
namespace Go.Proofs.Ytdfjcpnflmgdoaa
open Go.RowKit
set_option linter.unusedVariables false

def anc_raddleref23_Make_s1_0 : List (List Nat) := [[], [], [0, 1], [], [], [3, 4], [0, 1, 2, 3, 4, 5], [], [0, 1, 2, 3, 4, 5, 6, 7]]
noncomputable def F_raddleref23_Make_s1 (p0 : Int) (p1 : Int) : Option (api_Ratio × Int) :=
  if p1 == 0 then
    some ((api_Ratio.mk 0 0), 18)
  else
    Option.bind (α := Bool) (
      if p0 == (-9223372036854775808) then
        some (p1 == (-9223372036854775808))
      else
        some false) fun o8 =>
    if o8 then
      some ((api_Ratio.mk 1 1), 0)
    else
      Option.bind (α := Bool) (
        if p0 == (-9223372036854775808) then
          some true
        else
          some (p1 == (-9223372036854775808))) fun o15 =>
      if o15 then
        Option.bind (α := Bool) (
          Option.bind (remI p0 2) fun z24 =>
          if z24 == 0 then
            Option.bind (remI p1 2) fun z27 =>
            some (z27 == 0)
          else
            some false) fun o21 =>
        if o21 then
          Option.bind (quoI p0 2) fun z31 =>
          Option.bind (quoI p1 2) fun z33 =>
          none
        else
          some ((api_Ratio.mk 0 0), 16)
      else
        Option.bind (α := (Int × Int)) (
          if decide (p1 < 0) then
            some (w64 (0 - p0), w64 (0 - p1))
          else
            some (p0, p1)) fun (o36, o37) =>
        Option.bind (F_raddleref23_common o36 o37) fun r43 =>
        Option.bind (quoI o36 r43) fun z46 =>
        Option.bind (quoI o37 r43) fun z48 =>
        Option.bind (F_raddleref23_Check (api_Ratio.mk z46 z48)) fun r54 =>
        if r54 != 0 then
          some ((api_Ratio.mk 0 0), 16)
        else
          some ((api_Ratio.mk z46 z48), 0)
def c_raddleref23_Make_s1_val (r : (api_Ratio × Int)) (x : Value) : Value := .tuple #[x, .int .i64 r.2]
def c_raddleref23_Make_s1_D (r : (api_Ratio × Int)) (x : Value) : List Fact := [fRep r_api_Ratio x r.1]
set_option maxHeartbeats 4000000 in
set_option maxRecDepth 100000 in
theorem c_raddleref23_Make_s1 (E : Nat → Prop) (w0 : World) (p0 : Int) (p1 : Int) (r : (api_Ratio × Int)) (h : F_raddleref23_Make_s1 p0 p1 = some r) (S : St0 E [] w0 w0 [] []) :
    Calls Try.prog 36 #[.int .i64 p0, .int .i64 p1] w0 (Ret (X := Value) E [] w0 (c_raddleref23_Make_s1_val r) (fun _ => []) (c_raddleref23_Make_s1_D r)) := by
  unfold F_raddleref23_Make_s1 at h
  refine sEnter (args := [.int .i64 p0, .int .i64 p1]) 61 Try.func36 rfl rfl (by simp) S (fun a S => ?_)
  refine sSeq (fun K1 hK1 => ?_)
  refine sRegion ?_
  refine sAlloc (.agg #[.int .i64 0, .int .i64 0]) S (wN rfl) rfl (by kernel_rfl) [.int .i64 0, .int .i64 0] rfl rfl (by decide) (fun a b2 w S => ?_)
  refine sMove (.int .i64 0) S (wN rfl) (.inr rfl) (by kernel_rfl) rfl (by decide) (fun a S => ?_)
  refine leafL (leafT (hK1 _ _ ?_))
  refine sSeq (fun K3 hK3 => ?_)
  refine sSeq (fun K4 hK4 => ?_)
  refine sRegion ?_
  refine sMove (.int .i64 p1) S (wN rfl) (.inl rfl) (by kernel_rfl) rfl (by decide) (fun a S => ?_)
  refine sBin (.bool (p1 == 0)) S (wN rfl) rfl (by kernel_rfl) (by kernel_rfl) (bEq _ _ _ _ .i64 p1 0) rfl (by decide) (fun a S => ?_)
  refine leafL (leafT (hK4 _ _ ?_))
  rcases iteSome h with ⟨hc5, h⟩ | ⟨hc5, h⟩
  · refine sCondT (b := p1 == 0) S (by kernel_rfl) hc5 ?_
    refine sSeq (fun K6 hK6 => ?_)
    refine sRegion ?_
    refine sBuild [] [.int .i64 0, .int .i64 0] S (wN rfl) rfl (by kernel_rfl) (by kernel_rfl) rfl (by decide) (fun a S => ?_)
    refine sStore (p := b2) (off := 0) (T := 23) (vs := [.int .i64 0, .int .i64 0]) (v := .agg #[.int .i64 0, .int .i64 0]) 0 [.int .i64 0, .int .i64 0] S (wN rfl) rfl (by kernel_rfl) (by kernel_rfl) rfl (by kernel_rfl) (by kernel_rfl) rfl (by simp) rfl (fun a w S => ?_)
    refine sMove (.int .i64 18) S (wN rfl) (.inr rfl) (by kernel_rfl) rfl (by decide) (fun a S => ?_)
    refine leafL (leafT (hK6 _ _ ?_))
    obtain rfl := Option.some.inj h
    have S := S.learn (fRep r_api_Ratio (.agg #[.int .i64 0, .int .i64 0]) (api_Ratio.mk 0 0)) rfl
    exact wp_ret (rThen (sRet (.tuple #[.agg #[.int .i64 0, .int .i64 0], .int .i64 18]) S (rsl2 rfl (rvN (c := 4) (t := 23) (T := 23) (p := b2) 0 [.int .i64 0, .int .i64 0] S (by kernel_rfl) (by kernel_rfl) (by kernel_rfl) (by kernel_rfl)) (rvT (t := 5) (v := .int .i64 18) S (by kernel_rfl))) ⟨(.agg #[.int .i64 0, .int .i64 0]), rfl, S.mem.sel [] [0] (by decide) (by kernel_rfl) (by kernel_rfl)⟩))
  · refine sCondF (b := p1 == 0) S (by kernel_rfl) hc5 ?_
    refine wp_skip (leafT (hK3 _ _ ?_))
    refine sSeq (fun K7 hK7 => ?_)
    obtain ⟨t9, h, g10⟩ := bindSome h
    refine sCut (fun a w => ∃ o8, o8 = t9 ∧ St [] E [] w0 61 a w [(0, .int .i64 p0), (1, .int .i64 p1), (4, .pointer (some ⟨b2, 0, none⟩)), (16, .bool o8)] [eBox b2 23 [.int .i64 0, .int .i64 0]] []) ?_ (fun a w hI => ?_)
    · refine sRegion ?_
      refine sMove (.int .i64 p0) S (wN rfl) (.inl rfl) (by kernel_rfl) rfl (by decide) (fun a S => ?_)
      refine sBin (.bool (p0 == (-9223372036854775808))) S (wN rfl) rfl (by kernel_rfl) (by kernel_rfl) (bEq _ _ _ _ .i64 p0 (-9223372036854775808)) rfl (by decide) (fun a S => ?_)
      refine sMove (.bool (p0 == (-9223372036854775808))) S (wN rfl) (.inl rfl) (by kernel_rfl) rfl (by decide) (fun a S => ?_)
      rcases iteSome h with ⟨hc11, h⟩ | ⟨hc11, h⟩
      · refine sMove (.int .i64 p1) S (wG (c := p0 == (-9223372036854775808)) 2 true 13 rfl rfl (by kernel_rfl) hc11) (.inl rfl) (by kernel_rfl) rfl (by decide) (fun a S => ?_)
        refine sBin (.bool (p1 == (-9223372036854775808))) S (wG (c := p0 == (-9223372036854775808)) 2 true 13 rfl rfl (by kernel_rfl) hc11) rfl (by kernel_rfl) (by kernel_rfl) (bEq _ _ _ _ .i64 p1 (-9223372036854775808)) rfl (by decide) (fun a S => ?_)
        refine sPickT (b := p0 == (-9223372036854775808)) (.bool (p1 == (-9223372036854775808))) S (wN rfl) rfl (by kernel_rfl) hc11 (by kernel_rfl) rfl (by decide) (fun a S => ?_)
        exact leafL (leafT (⟨p1 == (-9223372036854775808), Option.some.inj h, S.fix [0] [] (by decide) (by kernel_rfl) (by kernel_rfl) (by kernel_rfl)⟩))
      · refine sSkip (c := p0 == (-9223372036854775808)) 2 true 13 14 S rfl rfl (by kernel_rfl) hc11 rfl (by decide) (fun a S => ?_)
        refine sSkip (c := p0 == (-9223372036854775808)) 2 true 13 15 S rfl rfl (by kernel_rfl) hc11 rfl (by decide) (fun a S => ?_)
        refine sPickF (b := p0 == (-9223372036854775808)) (.bool false) S (wN rfl) rfl (by kernel_rfl) hc11 (by kernel_rfl) rfl (by decide) (fun a S => ?_)
        exact leafL (leafT (⟨false, Option.some.inj h, S.fix [0] [] (by decide) (by kernel_rfl) (by kernel_rfl) (by kernel_rfl)⟩))
    · obtain ⟨o8, rfl, S⟩ := hI
      have h := g10
      clear g10
      try dsimp only at h
      rcases iteSome h with ⟨hc12, h⟩ | ⟨hc12, h⟩
      · refine sCondT (b := o8) S (by kernel_rfl) hc12 ?_
        refine sSeq (fun K13 hK13 => ?_)
        refine sRegion ?_
        refine sBuild [(0, .int .i64 1), (1, .int .i64 1)] [.int .i64 1, .int .i64 1] S (wN rfl) rfl (by kernel_rfl) (by kernel_rfl) rfl (by decide) (fun a S => ?_)
        refine sStore (p := b2) (off := 0) (T := 23) (vs := [.int .i64 0, .int .i64 0]) (v := .agg #[.int .i64 1, .int .i64 1]) 0 [.int .i64 1, .int .i64 1] S (wN rfl) rfl (by kernel_rfl) (by kernel_rfl) rfl (by kernel_rfl) (by kernel_rfl) rfl (by simp) rfl (fun a w S => ?_)
        refine sMove (.int .i64 0) S (wN rfl) (.inr rfl) (by kernel_rfl) rfl (by decide) (fun a S => ?_)
        refine leafL (leafT (hK13 _ _ ?_))
        obtain rfl := Option.some.inj h
        have S := S.learn (fRep r_api_Ratio (.agg #[.int .i64 1, .int .i64 1]) (api_Ratio.mk 1 1)) rfl
        exact wp_ret (rThen (sRet (.tuple #[.agg #[.int .i64 1, .int .i64 1], .int .i64 0]) S (rsl2 rfl (rvN (c := 4) (t := 23) (T := 23) (p := b2) 0 [.int .i64 1, .int .i64 1] S (by kernel_rfl) (by kernel_rfl) (by kernel_rfl) (by kernel_rfl)) (rvT (t := 5) (v := .int .i64 0) S (by kernel_rfl))) ⟨(.agg #[.int .i64 1, .int .i64 1]), rfl, S.mem.sel [] [0] (by decide) (by kernel_rfl) (by kernel_rfl)⟩))
      · refine sCondF (b := o8) S (by kernel_rfl) hc12 ?_
        refine wp_skip (leafT (hK7 _ _ ?_))
        refine sSeq (fun K14 hK14 => ?_)
        obtain ⟨t16, h, g17⟩ := bindSome h
        refine sCut (fun a w => ∃ o15, o15 = t16 ∧ St [] E [] w0 61 a w [(0, .int .i64 p0), (1, .int .i64 p1), (4, .pointer (some ⟨b2, 0, none⟩)), (23, .bool o15)] [eBox b2 23 [.int .i64 0, .int .i64 0]] []) ?_ (fun a w hI => ?_)
        · refine sRegion ?_
          refine sMove (.int .i64 p0) S (wN rfl) (.inl rfl) (by kernel_rfl) rfl (by decide) (fun a S => ?_)
          refine sBin (.bool (p0 == (-9223372036854775808))) S (wN rfl) rfl (by kernel_rfl) (by kernel_rfl) (bEq _ _ _ _ .i64 p0 (-9223372036854775808)) rfl (by decide) (fun a S => ?_)
          refine sMove (.bool (p0 == (-9223372036854775808))) S (wN rfl) (.inl rfl) (by kernel_rfl) rfl (by decide) (fun a S => ?_)
          rcases iteSome h with ⟨hc18, h⟩ | ⟨hc18, h⟩
          · refine sSkip (c := p0 == (-9223372036854775808)) 2 false 20 21 S rfl rfl (by kernel_rfl) hc18 rfl (by decide) (fun a S => ?_)
            refine sSkip (c := p0 == (-9223372036854775808)) 2 false 20 22 S rfl rfl (by kernel_rfl) hc18 rfl (by decide) (fun a S => ?_)
            refine sPickT (b := p0 == (-9223372036854775808)) (.bool true) S (wN rfl) rfl (by kernel_rfl) hc18 (by kernel_rfl) rfl (by decide) (fun a S => ?_)
            exact leafL (leafT (⟨true, Option.some.inj h, S.fix [0] [] (by decide) (by kernel_rfl) (by kernel_rfl) (by kernel_rfl)⟩))
          · refine sMove (.int .i64 p1) S (wG (c := p0 == (-9223372036854775808)) 2 false 20 rfl rfl (by kernel_rfl) hc18) (.inl rfl) (by kernel_rfl) rfl (by decide) (fun a S => ?_)
            refine sBin (.bool (p1 == (-9223372036854775808))) S (wG (c := p0 == (-9223372036854775808)) 2 false 20 rfl rfl (by kernel_rfl) hc18) rfl (by kernel_rfl) (by kernel_rfl) (bEq _ _ _ _ .i64 p1 (-9223372036854775808)) rfl (by decide) (fun a S => ?_)
            refine sPickF (b := p0 == (-9223372036854775808)) (.bool (p1 == (-9223372036854775808))) S (wN rfl) rfl (by kernel_rfl) hc18 (by kernel_rfl) rfl (by decide) (fun a S => ?_)
            exact leafL (leafT (⟨p1 == (-9223372036854775808), Option.some.inj h, S.fix [0] [] (by decide) (by kernel_rfl) (by kernel_rfl) (by kernel_rfl)⟩))
        · obtain ⟨o15, rfl, S⟩ := hI
          have h := g17
          clear g17
          try dsimp only at h
          rcases iteSome h with ⟨hc19, h⟩ | ⟨hc19, h⟩
          · refine sCondT (b := o15) S (by kernel_rfl) hc19 ?_
            refine sSeq (fun K20 hK20 => ?_)
            obtain ⟨t22, h, g23⟩ := bindSome h
            refine sCut (fun a w => ∃ o21, o21 = t22 ∧ St [] E [] w0 61 a w [(0, .int .i64 p0), (1, .int .i64 p1), (4, .pointer (some ⟨b2, 0, none⟩)), (31, .bool o21)] [eBox b2 23 [.int .i64 0, .int .i64 0]] []) ?_ (fun a w hI => ?_)
            · refine sRegion ?_
              refine sMove (.int .i64 p0) S (wN rfl) (.inl rfl) (by kernel_rfl) rfl (by decide) (fun a S => ?_)
              obtain ⟨z24, hx25, h⟩ := bindSome h
              refine sBin (.int .i64 z24) S (wN rfl) rfl (by kernel_rfl) (by kernel_rfl) (bRem _ _ _ _ (x := p0) (y := 2) hx25) rfl (by decide) (fun a S => ?_)
              refine sBin (.bool (z24 == 0)) S (wN rfl) rfl (by kernel_rfl) (by kernel_rfl) (bEq _ _ _ _ .i64 z24 0) rfl (by decide) (fun a S => ?_)
              refine sMove (.bool (z24 == 0)) S (wN rfl) (.inl rfl) (by kernel_rfl) rfl (by decide) (fun a S => ?_)
              rcases iteSome h with ⟨hc26, h⟩ | ⟨hc26, h⟩
              · refine sMove (.int .i64 p1) S (wG (c := z24 == 0) 3 true 27 rfl rfl (by kernel_rfl) hc26) (.inl rfl) (by kernel_rfl) rfl (by decide) (fun a S => ?_)
                obtain ⟨z27, hx28, h⟩ := bindSome h
                refine sBin (.int .i64 z27) S (wG (c := z24 == 0) 3 true 27 rfl rfl (by kernel_rfl) hc26) rfl (by kernel_rfl) (by kernel_rfl) (bRem _ _ _ _ (x := p1) (y := 2) hx28) rfl (by decide) (fun a S => ?_)
                refine sBin (.bool (z27 == 0)) S (wG (c := z24 == 0) 3 true 27 rfl rfl (by kernel_rfl) hc26) rfl (by kernel_rfl) (by kernel_rfl) (bEq _ _ _ _ .i64 z27 0) rfl (by decide) (fun a S => ?_)
                refine sPickT (b := z24 == 0) (.bool (z27 == 0)) S (wN rfl) rfl (by kernel_rfl) hc26 (by kernel_rfl) rfl (by decide) (fun a S => ?_)
                exact leafL (leafT (⟨z27 == 0, Option.some.inj h, S.fix [0] [] (by decide) (by kernel_rfl) (by kernel_rfl) (by kernel_rfl)⟩))
              · refine sSkip (c := z24 == 0) 3 true 27 28 S rfl rfl (by kernel_rfl) hc26 rfl (by decide) (fun a S => ?_)
                refine sSkip (c := z24 == 0) 3 true 27 29 S rfl rfl (by kernel_rfl) hc26 rfl (by decide) (fun a S => ?_)
                refine sSkip (c := z24 == 0) 3 true 27 30 S rfl rfl (by kernel_rfl) hc26 rfl (by decide) (fun a S => ?_)
                refine sPickF (b := z24 == 0) (.bool false) S (wN rfl) rfl (by kernel_rfl) hc26 (by kernel_rfl) rfl (by decide) (fun a S => ?_)
                exact leafL (leafT (⟨false, Option.some.inj h, S.fix [0] [] (by decide) (by kernel_rfl) (by kernel_rfl) (by kernel_rfl)⟩))
            · obtain ⟨o21, rfl, S⟩ := hI
              have h := g23
              clear g23
              try dsimp only at h
              rcases iteSome h with ⟨hc29, h⟩ | ⟨hc29, h⟩
              · refine sCondT (b := o21) S (by kernel_rfl) hc29 ?_
                refine sSeq (fun K30 hK30 => ?_)
                refine sRegion ?_
                refine sMove (.int .i64 p0) S (wN rfl) (.inl rfl) (by kernel_rfl) rfl (by decide) (fun a S => ?_)
                obtain ⟨z31, hx32, h⟩ := bindSome h
                refine sBin (.int .i64 z31) S (wN rfl) rfl (by kernel_rfl) (by kernel_rfl) (bQuo _ _ _ _ (x := p0) (y := 2) hx32) rfl (by decide) (fun a S => ?_)
                refine sMove (.int .i64 p1) S (wN rfl) (.inl rfl) (by kernel_rfl) rfl (by decide) (fun a S => ?_)
                obtain ⟨z33, hx34, h⟩ := bindSome h
                refine sBin (.int .i64 z33) S (wN rfl) rfl (by kernel_rfl) (by kernel_rfl) (bQuo _ _ _ _ (x := p1) (y := 2) hx34) rfl (by decide) (fun a S => ?_)
                cases h
              · refine sCondF (b := o21) S (by kernel_rfl) hc29 ?_
                refine wp_skip (leafT (hK20 _ _ ?_))
                refine sSeq (fun K35 hK35 => ?_)
                refine sRegion ?_
                refine sBuild [] [.int .i64 0, .int .i64 0] S (wN rfl) rfl (by kernel_rfl) (by kernel_rfl) rfl (by decide) (fun a S => ?_)
                refine sStore (p := b2) (off := 0) (T := 23) (vs := [.int .i64 0, .int .i64 0]) (v := .agg #[.int .i64 0, .int .i64 0]) 0 [.int .i64 0, .int .i64 0] S (wN rfl) rfl (by kernel_rfl) (by kernel_rfl) rfl (by kernel_rfl) (by kernel_rfl) rfl (by simp) rfl (fun a w S => ?_)
                refine sMove (.int .i64 16) S (wN rfl) (.inr rfl) (by kernel_rfl) rfl (by decide) (fun a S => ?_)
                refine leafL (leafT (hK35 _ _ ?_))
                obtain rfl := Option.some.inj h
                have S := S.learn (fRep r_api_Ratio (.agg #[.int .i64 0, .int .i64 0]) (api_Ratio.mk 0 0)) rfl
                exact wp_ret (rThen (sRet (.tuple #[.agg #[.int .i64 0, .int .i64 0], .int .i64 16]) S (rsl2 rfl (rvN (c := 4) (t := 23) (T := 23) (p := b2) 0 [.int .i64 0, .int .i64 0] S (by kernel_rfl) (by kernel_rfl) (by kernel_rfl) (by kernel_rfl)) (rvT (t := 5) (v := .int .i64 16) S (by kernel_rfl))) ⟨(.agg #[.int .i64 0, .int .i64 0]), rfl, S.mem.sel [] [0] (by decide) (by kernel_rfl) (by kernel_rfl)⟩))
          · refine sCondF (b := o15) S (by kernel_rfl) hc19 ?_
            refine wp_skip (leafT (hK14 _ _ ?_))
            obtain ⟨t38, h, g39⟩ := bindSome h
            refine sCut (fun a w => ∃ o36, ∃ o37, (o36, o37) = t38 ∧ St [] E [] w0 61 a w [(0, .int .i64 o36), (1, .int .i64 o37), (4, .pointer (some ⟨b2, 0, none⟩))] [eBox b2 23 [.int .i64 0, .int .i64 0]] []) ?_ (fun a w hI => ?_)
            · refine sSeq (fun K40 hK40 => ?_)
              refine sRegion ?_
              refine sMove (.int .i64 p1) S (wN rfl) (.inl rfl) (by kernel_rfl) rfl (by decide) (fun a S => ?_)
              refine sBin (.bool (decide (p1 < 0))) S (wN rfl) rfl (by kernel_rfl) (by kernel_rfl) (bLt _ _ _ _ .i64 p1 0) rfl (by decide) (fun a S => ?_)
              refine leafL (leafT (hK40 _ _ ?_))
              rcases iteSome h with ⟨hc41, h⟩ | ⟨hc41, h⟩
              · refine sCondT (b := decide (p1 < 0)) S (by kernel_rfl) hc41 ?_
                refine sRegion ?_
                refine sMove (.int .i64 p0) S (wN rfl) (.inl rfl) (by kernel_rfl) rfl (by decide) (fun a S => ?_)
                refine sNeg (b := p0) S (wN rfl) rfl (by kernel_rfl) rfl (by decide) (fun a S => ?_)
                refine sMove (.int .i64 p1) S (wN rfl) (.inl rfl) (by kernel_rfl) rfl (by decide) (fun a S => ?_)
                refine sNeg (b := p1) S (wN rfl) rfl (by kernel_rfl) rfl (by decide) (fun a S => ?_)
                refine sMove (.int .i64 (w64 (0 - p0))) S (wN rfl) (.inr rfl) (by kernel_rfl) rfl (by decide) (fun a S => ?_)
                refine sMove (.int .i64 (w64 (0 - p1))) S (wN rfl) (.inr rfl) (by kernel_rfl) rfl (by decide) (fun a S => ?_)
                exact leafL (leafT (⟨w64 (0 - p0), w64 (0 - p1), Option.some.inj h, S.fix [0] [] (by decide) (by kernel_rfl) (by kernel_rfl) (by kernel_rfl)⟩))
              · refine sCondF (b := decide (p1 < 0)) S (by kernel_rfl) hc41 ?_
                exact wp_skip (leafT (⟨p0, p1, Option.some.inj h, S.fix [0] [] (by decide) (by kernel_rfl) (by kernel_rfl) (by kernel_rfl)⟩))
            · obtain ⟨o36, o37, rfl, S⟩ := hI
              have h := g39
              clear g39
              try dsimp only at h
              refine sSeq (fun K42 hK42 => ?_)
              refine sRegion ?_
              refine sMove (.int .i64 o36) S (wN rfl) (.inl rfl) (by kernel_rfl) rfl (by decide) (fun a S => ?_)
              refine sMove (.int .i64 o37) S (wN rfl) (.inl rfl) (by kernel_rfl) rfl (by decide) (fun a S => ?_)
              obtain ⟨r43, hx44, h⟩ := bindSome h
              have S1 := S.mem
              refine sCallQ (X := Unit) (f := 39) (vs := [.int .i64 o36, .int .i64 o37]) (val := fun _ => .int .i64 r43) S (wN rfl) rfl callee39 (by kernel_rfl) (S1.quiet [] (by kernel_rfl)) (fun E1 w1 S1 => c_raddleref23_common E1 w1 o36 o37 r43 hx44 S1) rfl (by decide) (fun _ a w S => ?_)
              refine sMove (.int .i64 r43) S (wN rfl) (.inr rfl) (by kernel_rfl) rfl (by decide) (fun a S => ?_)
              refine leafL (leafT (hK42 _ _ ?_))
              refine sSeq (fun K45 hK45 => ?_)
              obtain ⟨z46, hx47, h⟩ := bindSome h
              obtain ⟨z48, hx49, h⟩ := bindSome h
              refine sDraw (nf := [7, 8]) (W := [(0, 49, .int .i64 o36), (1, 50, .int .i64 r43), (2, 51, .int .i64 z46), (3, 52, .int .i64 o37), (4, 53, .int .i64 r43), (5, 54, .int .i64 z48), (6, 55, .agg #[.int .i64 z46, .int .i64 z48])]) (by kernel_rfl) S ?_
              refine node_by (A := anc_raddleref23_Make_s1_0) (nf := [7, 8]) (Y := []) (W := [(0, 49, .int .i64 o36), (1, 50, .int .i64 r43), (2, 51, .int .i64 z46), (3, 52, .int .i64 o37), (4, 53, .int .i64 r43), (5, 54, .int .i64 z48), (6, 55, .agg #[.int .i64 z46, .int .i64 z48])]) 9 (by kernel_rfl) (by kernel_rfl) (by kernel_rfl) (by kernel_rfl) (by kernel_rfl) [0, 1, 2, 3, 4, 5, 6] (by kernel_rfl) (by decide) (by decide) (aF 0 8 (by decide) ?_ (aF 1 7 (by decide) ?_ (aF 2 6 (by decide) ?_ (aF 3 5 (by decide) ?_ (aF 4 4 (by decide) ?_ (aF 5 3 (by decide) ?_ (aF 6 2 (by decide) ?_ (aN 7 1 (by decide) ?_ (aB 8 0 7 (by decide) (trivial)))))))))) [] (fun q hq => by cases hq) (fun hY => absurd (hY 7 (by decide)) (by decide))
              · refine fI 49 (.int .i64 o36) [(0, .int .i64 o36)] 0 [none] rfl rfl (by kernel_rfl) rfl (by kernel_rfl) (by kernel_rfl) fun G a w S => ?_
                refine sMove (.int .i64 o36) S (wN rfl) (.inl rfl) (by kernel_rfl) rfl (by decide) (fun a S => ?_)
                exact leafL ⟨rfl, S⟩
              · refine fI 50 (.int .i64 r43) [(6, .int .i64 r43)] 1 [none] rfl rfl (by kernel_rfl) rfl (by kernel_rfl) (by kernel_rfl) fun G a w S => ?_
                refine sMove (.int .i64 r43) S (wN rfl) (.inl rfl) (by kernel_rfl) rfl (by decide) (fun a S => ?_)
                exact leafL ⟨rfl, S⟩
              · refine fI 51 (.int .i64 z46) [(49, .int .i64 o36), (50, .int .i64 r43)] 2 [some 0, some 1] rfl rfl (by kernel_rfl) rfl (by kernel_rfl) (by kernel_rfl) fun G a w S => ?_
                refine sBin (.int .i64 z46) S (wN rfl) rfl (by kernel_rfl) (by kernel_rfl) (bQuo _ _ _ _ (x := o36) (y := r43) hx47) rfl (by decide) (fun a S => ?_)
                exact leafL ⟨rfl, S⟩
              · refine fI 52 (.int .i64 o37) [(1, .int .i64 o37)] 3 [none] rfl rfl (by kernel_rfl) rfl (by kernel_rfl) (by kernel_rfl) fun G a w S => ?_
                refine sMove (.int .i64 o37) S (wN rfl) (.inl rfl) (by kernel_rfl) rfl (by decide) (fun a S => ?_)
                exact leafL ⟨rfl, S⟩
              · refine fI 53 (.int .i64 r43) [(6, .int .i64 r43)] 4 [none] rfl rfl (by kernel_rfl) rfl (by kernel_rfl) (by kernel_rfl) fun G a w S => ?_
                refine sMove (.int .i64 r43) S (wN rfl) (.inl rfl) (by kernel_rfl) rfl (by decide) (fun a S => ?_)
                exact leafL ⟨rfl, S⟩
              · refine fI 54 (.int .i64 z48) [(52, .int .i64 o37), (53, .int .i64 r43)] 5 [some 3, some 4] rfl rfl (by kernel_rfl) rfl (by kernel_rfl) (by kernel_rfl) fun G a w S => ?_
                refine sBin (.int .i64 z48) S (wN rfl) rfl (by kernel_rfl) (by kernel_rfl) (bQuo _ _ _ _ (x := o37) (y := r43) hx49) rfl (by decide) (fun a S => ?_)
                exact leafL ⟨rfl, S⟩
              · refine fI 55 (.agg #[.int .i64 z46, .int .i64 z48]) [(51, .int .i64 z46), (54, .int .i64 z48)] 6 [some 2, some 5] rfl rfl (by kernel_rfl) rfl (by kernel_rfl) (by kernel_rfl) fun G a w S => ?_
                refine sBuild [(0, .int .i64 z46), (1, .int .i64 z48)] [.int .i64 z46, .int .i64 z48] S (wN rfl) rfl (by kernel_rfl) (by kernel_rfl) rfl (by decide) (fun a S => ?_)
                exact leafL ⟨rfl, S⟩
              · refine ⟨_, [], rfl, (srcs_of [] rfl (by kernel_rfl) (by kernel_rfl)), fun G a w S => ?_⟩
                refine sAlloc (.agg #[.int .i64 0, .int .i64 0]) S (wN rfl) rfl (by kernel_rfl) [.int .i64 0, .int .i64 0] rfl rfl (by decide) (fun a b51 w S => ?_)
                refine leafL ⟨rfl, _, _, .inl ⟨7, (.pointer (some ⟨b51, 0, none⟩)), [], rfl, S, hz_of (by kernel_rfl), ?_⟩⟩
                refine node_by (A := anc_raddleref23_Make_s1_0) (nf := [7, 8]) (Y := [7]) 9 (by kernel_rfl) (by kernel_rfl) (by kernel_rfl) (by kernel_rfl) (by kernel_rfl) [7, 0, 1, 2, 3, 4, 5, 6] (by kernel_rfl) (by decide) (by decide) (aF 0 8 (by decide) ?_ (aF 1 7 (by decide) ?_ (aF 2 6 (by decide) ?_ (aF 3 5 (by decide) ?_ (aF 4 4 (by decide) ?_ (aF 5 3 (by decide) ?_ (aF 6 2 (by decide) ?_ (aY 7 1 (by decide) (aN 8 0 (by decide) ?_ (trivial)))))))))) [] (fun q hq => by cases hq) (fun hY => absurd (hY 8 (by decide)) (by decide))
                · refine fI 49 (.int .i64 o36) [(0, .int .i64 o36)] 1 [none] rfl rfl (by kernel_rfl) rfl (by kernel_rfl) (by kernel_rfl) fun G a w S => ?_
                  refine sMove (.int .i64 o36) S (wN rfl) (.inl rfl) (by kernel_rfl) rfl (by decide) (fun a S => ?_)
                  exact leafL ⟨rfl, S⟩
                · refine fI 50 (.int .i64 r43) [(6, .int .i64 r43)] 2 [none] rfl rfl (by kernel_rfl) rfl (by kernel_rfl) (by kernel_rfl) fun G a w S => ?_
                  refine sMove (.int .i64 r43) S (wN rfl) (.inl rfl) (by kernel_rfl) rfl (by decide) (fun a S => ?_)
                  exact leafL ⟨rfl, S⟩
                · refine fI 51 (.int .i64 z46) [(49, .int .i64 o36), (50, .int .i64 r43)] 3 [some 1, some 2] rfl rfl (by kernel_rfl) rfl (by kernel_rfl) (by kernel_rfl) fun G a w S => ?_
                  refine sBin (.int .i64 z46) S (wN rfl) rfl (by kernel_rfl) (by kernel_rfl) (bQuo _ _ _ _ (x := o36) (y := r43) hx47) rfl (by decide) (fun a S => ?_)
                  exact leafL ⟨rfl, S⟩
                · refine fI 52 (.int .i64 o37) [(1, .int .i64 o37)] 4 [none] rfl rfl (by kernel_rfl) rfl (by kernel_rfl) (by kernel_rfl) fun G a w S => ?_
                  refine sMove (.int .i64 o37) S (wN rfl) (.inl rfl) (by kernel_rfl) rfl (by decide) (fun a S => ?_)
                  exact leafL ⟨rfl, S⟩
                · refine fI 53 (.int .i64 r43) [(6, .int .i64 r43)] 5 [none] rfl rfl (by kernel_rfl) rfl (by kernel_rfl) (by kernel_rfl) fun G a w S => ?_
                  refine sMove (.int .i64 r43) S (wN rfl) (.inl rfl) (by kernel_rfl) rfl (by decide) (fun a S => ?_)
                  exact leafL ⟨rfl, S⟩
                · refine fI 54 (.int .i64 z48) [(52, .int .i64 o37), (53, .int .i64 r43)] 6 [some 4, some 5] rfl rfl (by kernel_rfl) rfl (by kernel_rfl) (by kernel_rfl) fun G a w S => ?_
                  refine sBin (.int .i64 z48) S (wN rfl) rfl (by kernel_rfl) (by kernel_rfl) (bQuo _ _ _ _ (x := o37) (y := r43) hx49) rfl (by decide) (fun a S => ?_)
                  exact leafL ⟨rfl, S⟩
                · refine fI 55 (.agg #[.int .i64 z46, .int .i64 z48]) [(51, .int .i64 z46), (54, .int .i64 z48)] 7 [some 3, some 6] rfl rfl (by kernel_rfl) rfl (by kernel_rfl) (by kernel_rfl) fun G a w S => ?_
                  refine sBuild [(0, .int .i64 z46), (1, .int .i64 z48)] [.int .i64 z46, .int .i64 z48] S (wN rfl) rfl (by kernel_rfl) (by kernel_rfl) rfl (by decide) (fun a S => ?_)
                  exact leafL ⟨rfl, S⟩
                · refine ⟨_, [(7, .pointer (some ⟨b51, 0, none⟩)), (55, .agg #[.int .i64 z46, .int .i64 z48])], rfl, (srcs_of [some 0, some 7] rfl (by kernel_rfl) (by kernel_rfl)), fun G a w S => ?_⟩
                  refine sStore (p := b51) (off := 0) (T := 23) (vs := [.int .i64 0, .int .i64 0]) (v := .agg #[.int .i64 z46, .int .i64 z48]) 0 [.int .i64 z46, .int .i64 z48] S (wN rfl) rfl (by kernel_rfl) (by kernel_rfl) rfl (by kernel_rfl) (by kernel_rfl) rfl (by simp) rfl (fun a w S => ?_)
                  refine leafL ⟨rfl, _, _, .inr ⟨[], rfl, S, hz_of (by kernel_rfl), ?_⟩⟩
                  refine node_by (A := anc_raddleref23_Make_s1_0) (nf := [7, 8]) (Y := [8, 7]) 9 (by kernel_rfl) (by kernel_rfl) (by kernel_rfl) (by kernel_rfl) (by kernel_rfl) [7, 0, 1, 2, 3, 4, 5, 6] (by kernel_rfl) (by decide) (by decide) (aD 0 8 8 (by decide) (aD 1 7 8 (by decide) (aD 2 6 8 (by decide) (aD 3 5 8 (by decide) (aD 4 4 8 (by decide) (aD 5 3 8 (by decide) (aD 6 2 8 (by decide) (aY 7 1 (by decide) (aY 8 0 (by decide) (trivial)))))))))) [(4, .pointer (some ⟨b2, 0, none⟩)), (7, .pointer (some ⟨b51, 0, none⟩))] (fin_of [none, some 0] rfl (by kernel_rfl) (by kernel_rfl)) (fun _ a w S => ?_)
                  · refine leafT (hK45 _ _ ?_)
                    refine sSeq (fun K52 hK52 => ?_)
                    refine sSeq (fun K53 hK53 => ?_)
                    refine sRegion ?_
                    refine sLoadN (p := b51) (off := 0) (T := 23) (vs := [.int .i64 z46, .int .i64 z48]) 0 [.int .i64 z46, .int .i64 z48] S (wN rfl) rfl (by kernel_rfl) (by kernel_rfl) (by kernel_rfl) (by kernel_rfl) rfl rfl (by decide) (fun a S => ?_)
                    obtain ⟨r54, hx55, h⟩ := bindSome h
                    have S1 := S.mem
                    have S1 := S1.learn (fRep r_api_Ratio (.agg #[.int .i64 z46, .int .i64 z48]) (api_Ratio.mk z46 z48)) rfl
                    refine sCallQ (X := Unit) (f := 9) (vs := [.agg #[.int .i64 z46, .int .i64 z48]]) (val := fun _ => .int .i64 r54) S (wN rfl) rfl callee9 (by kernel_rfl) (S1.quiet [0] (by kernel_rfl)) (fun E1 w1 S1 => c_raddleref23_Check E1 w1 (api_Ratio.mk z46 z48) (.agg #[.int .i64 z46, .int .i64 z48]) r54 hx55 S1) rfl (by decide) (fun _ a w S => ?_)
                    refine sBin (.bool (r54 != 0)) S (wN rfl) rfl (by kernel_rfl) (by kernel_rfl) (bNe _ _ _ _ .i64 r54 0) rfl (by decide) (fun a S => ?_)
                    refine leafL (leafT (hK53 _ _ ?_))
                    rcases iteSome h with ⟨hc56, h⟩ | ⟨hc56, h⟩
                    · refine sCondT (b := r54 != 0) S (by kernel_rfl) hc56 ?_
                      refine sSeq (fun K57 hK57 => ?_)
                      refine sRegion ?_
                      refine sBuild [] [.int .i64 0, .int .i64 0] S (wN rfl) rfl (by kernel_rfl) (by kernel_rfl) rfl (by decide) (fun a S => ?_)
                      refine sStore (p := b2) (off := 0) (T := 23) (vs := [.int .i64 0, .int .i64 0]) (v := .agg #[.int .i64 0, .int .i64 0]) 1 [.int .i64 0, .int .i64 0] S (wN rfl) rfl (by kernel_rfl) (by kernel_rfl) rfl (by kernel_rfl) (by kernel_rfl) rfl (by simp) rfl (fun a w S => ?_)
                      refine sMove (.int .i64 16) S (wN rfl) (.inr rfl) (by kernel_rfl) rfl (by decide) (fun a S => ?_)
                      refine leafL (leafT (hK57 _ _ ?_))
                      obtain rfl := Option.some.inj h
                      have S := S.learn (fRep r_api_Ratio (.agg #[.int .i64 0, .int .i64 0]) (api_Ratio.mk 0 0)) rfl
                      exact wp_ret (rThen (sRet (.tuple #[.agg #[.int .i64 0, .int .i64 0], .int .i64 16]) S (rsl2 rfl (rvN (c := 4) (t := 23) (T := 23) (p := b2) 0 [.int .i64 0, .int .i64 0] S (by kernel_rfl) (by kernel_rfl) (by kernel_rfl) (by kernel_rfl)) (rvT (t := 5) (v := .int .i64 16) S (by kernel_rfl))) ⟨(.agg #[.int .i64 0, .int .i64 0]), rfl, S.mem.sel [] [0] (by decide) (by kernel_rfl) (by kernel_rfl)⟩))
                    · refine sCondF (b := r54 != 0) S (by kernel_rfl) hc56 ?_
                      refine wp_skip (leafT (hK52 _ _ ?_))
                      refine sSeq (fun K58 hK58 => ?_)
                      refine sRegion ?_
                      refine sLoadN (p := b51) (off := 0) (T := 23) (vs := [.int .i64 z46, .int .i64 z48]) 0 [.int .i64 z46, .int .i64 z48] S (wN rfl) rfl (by kernel_rfl) (by kernel_rfl) (by kernel_rfl) (by kernel_rfl) rfl rfl (by decide) (fun a S => ?_)
                      refine sStore (p := b2) (off := 0) (T := 23) (vs := [.int .i64 0, .int .i64 0]) (v := .agg #[.int .i64 z46, .int .i64 z48]) 1 [.int .i64 z46, .int .i64 z48] S (wN rfl) rfl (by kernel_rfl) (by kernel_rfl) rfl (by kernel_rfl) (by kernel_rfl) rfl (by simp) rfl (fun a w S => ?_)
                      refine sMove (.int .i64 0) S (wN rfl) (.inr rfl) (by kernel_rfl) rfl (by decide) (fun a S => ?_)
                      refine leafL (leafT (hK58 _ _ ?_))
                      obtain rfl := Option.some.inj h
                      have S := S.learn (fRep r_api_Ratio (.agg #[.int .i64 z46, .int .i64 z48]) (api_Ratio.mk z46 z48)) rfl
                      exact wp_ret (sRet (.tuple #[.agg #[.int .i64 z46, .int .i64 z48], .int .i64 0]) S (rsl2 rfl (rvN (c := 4) (t := 23) (T := 23) (p := b2) 0 [.int .i64 z46, .int .i64 z48] S (by kernel_rfl) (by kernel_rfl) (by kernel_rfl) (by kernel_rfl)) (rvT (t := 5) (v := .int .i64 0) S (by kernel_rfl))) ⟨(.agg #[.int .i64 z46, .int .i64 z48]), rfl, S.mem.sel [] [0] (by decide) (by kernel_rfl) (by kernel_rfl)⟩)

end Go.Proofs.Ytdfjcpnflmgdoaa
namespace Go.Proofs.Ytdfjcpnflmgdoaa
open Go.RowKit
set_option linter.unusedVariables false

def anc_raddleref23_Make_s0_0 : List (List Nat) := [[], [], [0, 1], [], [], [3, 4], [0, 1, 2, 3, 4, 5], [], [0, 1, 2, 3, 4, 5, 6, 7]]
noncomputable def F_raddleref23_Make_s0 (p0 : Int) (p1 : Int) : Option (api_Ratio × Int) :=
  if p1 == 0 then
    some ((api_Ratio.mk 0 0), 18)
  else
    Option.bind (α := Bool) (
      if p0 == (-9223372036854775808) then
        some (p1 == (-9223372036854775808))
      else
        some false) fun o8 =>
    if o8 then
      some ((api_Ratio.mk 1 1), 0)
    else
      Option.bind (α := Bool) (
        if p0 == (-9223372036854775808) then
          some true
        else
          some (p1 == (-9223372036854775808))) fun o15 =>
      if o15 then
        Option.bind (α := Bool) (
          Option.bind (remI p0 2) fun z24 =>
          if z24 == 0 then
            Option.bind (remI p1 2) fun z27 =>
            some (z27 == 0)
          else
            some false) fun o21 =>
        if o21 then
          Option.bind (quoI p0 2) fun z31 =>
          Option.bind (quoI p1 2) fun z33 =>
          Option.bind (F_raddleref23_Make_s1 z31 z33) fun r35 =>
          some (r35.1, r35.2)
        else
          some ((api_Ratio.mk 0 0), 16)
      else
        Option.bind (α := (Int × Int)) (
          if decide (p1 < 0) then
            some (w64 (0 - p0), w64 (0 - p1))
          else
            some (p0, p1)) fun (o39, o40) =>
        Option.bind (F_raddleref23_common o39 o40) fun r46 =>
        Option.bind (quoI o39 r46) fun z49 =>
        Option.bind (quoI o40 r46) fun z51 =>
        Option.bind (F_raddleref23_Check (api_Ratio.mk z49 z51)) fun r57 =>
        if r57 != 0 then
          some ((api_Ratio.mk 0 0), 16)
        else
          some ((api_Ratio.mk z49 z51), 0)
def c_raddleref23_Make_s0_val (r : (api_Ratio × Int)) (x : Value) : Value := .tuple #[x, .int .i64 r.2]
def c_raddleref23_Make_s0_D (r : (api_Ratio × Int)) (x : Value) : List Fact := [fRep r_api_Ratio x r.1]
set_option maxHeartbeats 4000000 in
set_option maxRecDepth 100000 in
theorem c_raddleref23_Make_s0 (E : Nat → Prop) (w0 : World) (p0 : Int) (p1 : Int) (r : (api_Ratio × Int)) (h : F_raddleref23_Make_s0 p0 p1 = some r) (S : St0 E [] w0 w0 [] []) :
    Calls Try.prog 36 #[.int .i64 p0, .int .i64 p1] w0 (Ret (X := Value) E [] w0 (c_raddleref23_Make_s0_val r) (fun _ => []) (c_raddleref23_Make_s0_D r)) := by
  unfold F_raddleref23_Make_s0 at h
  refine sEnter (args := [.int .i64 p0, .int .i64 p1]) 61 Try.func36 rfl rfl (by simp) S (fun a S => ?_)
  refine sSeq (fun K1 hK1 => ?_)
  refine sRegion ?_
  refine sAlloc (.agg #[.int .i64 0, .int .i64 0]) S (wN rfl) rfl (by kernel_rfl) [.int .i64 0, .int .i64 0] rfl rfl (by decide) (fun a b2 w S => ?_)
  refine sMove (.int .i64 0) S (wN rfl) (.inr rfl) (by kernel_rfl) rfl (by decide) (fun a S => ?_)
  refine leafL (leafT (hK1 _ _ ?_))
  refine sSeq (fun K3 hK3 => ?_)
  refine sSeq (fun K4 hK4 => ?_)
  refine sRegion ?_
  refine sMove (.int .i64 p1) S (wN rfl) (.inl rfl) (by kernel_rfl) rfl (by decide) (fun a S => ?_)
  refine sBin (.bool (p1 == 0)) S (wN rfl) rfl (by kernel_rfl) (by kernel_rfl) (bEq _ _ _ _ .i64 p1 0) rfl (by decide) (fun a S => ?_)
  refine leafL (leafT (hK4 _ _ ?_))
  rcases iteSome h with ⟨hc5, h⟩ | ⟨hc5, h⟩
  · refine sCondT (b := p1 == 0) S (by kernel_rfl) hc5 ?_
    refine sSeq (fun K6 hK6 => ?_)
    refine sRegion ?_
    refine sBuild [] [.int .i64 0, .int .i64 0] S (wN rfl) rfl (by kernel_rfl) (by kernel_rfl) rfl (by decide) (fun a S => ?_)
    refine sStore (p := b2) (off := 0) (T := 23) (vs := [.int .i64 0, .int .i64 0]) (v := .agg #[.int .i64 0, .int .i64 0]) 0 [.int .i64 0, .int .i64 0] S (wN rfl) rfl (by kernel_rfl) (by kernel_rfl) rfl (by kernel_rfl) (by kernel_rfl) rfl (by simp) rfl (fun a w S => ?_)
    refine sMove (.int .i64 18) S (wN rfl) (.inr rfl) (by kernel_rfl) rfl (by decide) (fun a S => ?_)
    refine leafL (leafT (hK6 _ _ ?_))
    obtain rfl := Option.some.inj h
    have S := S.learn (fRep r_api_Ratio (.agg #[.int .i64 0, .int .i64 0]) (api_Ratio.mk 0 0)) rfl
    exact wp_ret (rThen (sRet (.tuple #[.agg #[.int .i64 0, .int .i64 0], .int .i64 18]) S (rsl2 rfl (rvN (c := 4) (t := 23) (T := 23) (p := b2) 0 [.int .i64 0, .int .i64 0] S (by kernel_rfl) (by kernel_rfl) (by kernel_rfl) (by kernel_rfl)) (rvT (t := 5) (v := .int .i64 18) S (by kernel_rfl))) ⟨(.agg #[.int .i64 0, .int .i64 0]), rfl, S.mem.sel [] [0] (by decide) (by kernel_rfl) (by kernel_rfl)⟩))
  · refine sCondF (b := p1 == 0) S (by kernel_rfl) hc5 ?_
    refine wp_skip (leafT (hK3 _ _ ?_))
    refine sSeq (fun K7 hK7 => ?_)
    obtain ⟨t9, h, g10⟩ := bindSome h
    refine sCut (fun a w => ∃ o8, o8 = t9 ∧ St [] E [] w0 61 a w [(0, .int .i64 p0), (1, .int .i64 p1), (4, .pointer (some ⟨b2, 0, none⟩)), (16, .bool o8)] [eBox b2 23 [.int .i64 0, .int .i64 0]] []) ?_ (fun a w hI => ?_)
    · refine sRegion ?_
      refine sMove (.int .i64 p0) S (wN rfl) (.inl rfl) (by kernel_rfl) rfl (by decide) (fun a S => ?_)
      refine sBin (.bool (p0 == (-9223372036854775808))) S (wN rfl) rfl (by kernel_rfl) (by kernel_rfl) (bEq _ _ _ _ .i64 p0 (-9223372036854775808)) rfl (by decide) (fun a S => ?_)
      refine sMove (.bool (p0 == (-9223372036854775808))) S (wN rfl) (.inl rfl) (by kernel_rfl) rfl (by decide) (fun a S => ?_)
      rcases iteSome h with ⟨hc11, h⟩ | ⟨hc11, h⟩
      · refine sMove (.int .i64 p1) S (wG (c := p0 == (-9223372036854775808)) 2 true 13 rfl rfl (by kernel_rfl) hc11) (.inl rfl) (by kernel_rfl) rfl (by decide) (fun a S => ?_)
        refine sBin (.bool (p1 == (-9223372036854775808))) S (wG (c := p0 == (-9223372036854775808)) 2 true 13 rfl rfl (by kernel_rfl) hc11) rfl (by kernel_rfl) (by kernel_rfl) (bEq _ _ _ _ .i64 p1 (-9223372036854775808)) rfl (by decide) (fun a S => ?_)
        refine sPickT (b := p0 == (-9223372036854775808)) (.bool (p1 == (-9223372036854775808))) S (wN rfl) rfl (by kernel_rfl) hc11 (by kernel_rfl) rfl (by decide) (fun a S => ?_)
        exact leafL (leafT (⟨p1 == (-9223372036854775808), Option.some.inj h, S.fix [0] [] (by decide) (by kernel_rfl) (by kernel_rfl) (by kernel_rfl)⟩))
      · refine sSkip (c := p0 == (-9223372036854775808)) 2 true 13 14 S rfl rfl (by kernel_rfl) hc11 rfl (by decide) (fun a S => ?_)
        refine sSkip (c := p0 == (-9223372036854775808)) 2 true 13 15 S rfl rfl (by kernel_rfl) hc11 rfl (by decide) (fun a S => ?_)
        refine sPickF (b := p0 == (-9223372036854775808)) (.bool false) S (wN rfl) rfl (by kernel_rfl) hc11 (by kernel_rfl) rfl (by decide) (fun a S => ?_)
        exact leafL (leafT (⟨false, Option.some.inj h, S.fix [0] [] (by decide) (by kernel_rfl) (by kernel_rfl) (by kernel_rfl)⟩))
    · obtain ⟨o8, rfl, S⟩ := hI
      have h := g10
      clear g10
      try dsimp only at h
      rcases iteSome h with ⟨hc12, h⟩ | ⟨hc12, h⟩
      · refine sCondT (b := o8) S (by kernel_rfl) hc12 ?_
        refine sSeq (fun K13 hK13 => ?_)
        refine sRegion ?_
        refine sBuild [(0, .int .i64 1), (1, .int .i64 1)] [.int .i64 1, .int .i64 1] S (wN rfl) rfl (by kernel_rfl) (by kernel_rfl) rfl (by decide) (fun a S => ?_)
        refine sStore (p := b2) (off := 0) (T := 23) (vs := [.int .i64 0, .int .i64 0]) (v := .agg #[.int .i64 1, .int .i64 1]) 0 [.int .i64 1, .int .i64 1] S (wN rfl) rfl (by kernel_rfl) (by kernel_rfl) rfl (by kernel_rfl) (by kernel_rfl) rfl (by simp) rfl (fun a w S => ?_)
        refine sMove (.int .i64 0) S (wN rfl) (.inr rfl) (by kernel_rfl) rfl (by decide) (fun a S => ?_)
        refine leafL (leafT (hK13 _ _ ?_))
        obtain rfl := Option.some.inj h
        have S := S.learn (fRep r_api_Ratio (.agg #[.int .i64 1, .int .i64 1]) (api_Ratio.mk 1 1)) rfl
        exact wp_ret (rThen (sRet (.tuple #[.agg #[.int .i64 1, .int .i64 1], .int .i64 0]) S (rsl2 rfl (rvN (c := 4) (t := 23) (T := 23) (p := b2) 0 [.int .i64 1, .int .i64 1] S (by kernel_rfl) (by kernel_rfl) (by kernel_rfl) (by kernel_rfl)) (rvT (t := 5) (v := .int .i64 0) S (by kernel_rfl))) ⟨(.agg #[.int .i64 1, .int .i64 1]), rfl, S.mem.sel [] [0] (by decide) (by kernel_rfl) (by kernel_rfl)⟩))
      · refine sCondF (b := o8) S (by kernel_rfl) hc12 ?_
        refine wp_skip (leafT (hK7 _ _ ?_))
        refine sSeq (fun K14 hK14 => ?_)
        obtain ⟨t16, h, g17⟩ := bindSome h
        refine sCut (fun a w => ∃ o15, o15 = t16 ∧ St [] E [] w0 61 a w [(0, .int .i64 p0), (1, .int .i64 p1), (4, .pointer (some ⟨b2, 0, none⟩)), (23, .bool o15)] [eBox b2 23 [.int .i64 0, .int .i64 0]] []) ?_ (fun a w hI => ?_)
        · refine sRegion ?_
          refine sMove (.int .i64 p0) S (wN rfl) (.inl rfl) (by kernel_rfl) rfl (by decide) (fun a S => ?_)
          refine sBin (.bool (p0 == (-9223372036854775808))) S (wN rfl) rfl (by kernel_rfl) (by kernel_rfl) (bEq _ _ _ _ .i64 p0 (-9223372036854775808)) rfl (by decide) (fun a S => ?_)
          refine sMove (.bool (p0 == (-9223372036854775808))) S (wN rfl) (.inl rfl) (by kernel_rfl) rfl (by decide) (fun a S => ?_)
          rcases iteSome h with ⟨hc18, h⟩ | ⟨hc18, h⟩
          · refine sSkip (c := p0 == (-9223372036854775808)) 2 false 20 21 S rfl rfl (by kernel_rfl) hc18 rfl (by decide) (fun a S => ?_)
            refine sSkip (c := p0 == (-9223372036854775808)) 2 false 20 22 S rfl rfl (by kernel_rfl) hc18 rfl (by decide) (fun a S => ?_)
            refine sPickT (b := p0 == (-9223372036854775808)) (.bool true) S (wN rfl) rfl (by kernel_rfl) hc18 (by kernel_rfl) rfl (by decide) (fun a S => ?_)
            exact leafL (leafT (⟨true, Option.some.inj h, S.fix [0] [] (by decide) (by kernel_rfl) (by kernel_rfl) (by kernel_rfl)⟩))
          · refine sMove (.int .i64 p1) S (wG (c := p0 == (-9223372036854775808)) 2 false 20 rfl rfl (by kernel_rfl) hc18) (.inl rfl) (by kernel_rfl) rfl (by decide) (fun a S => ?_)
            refine sBin (.bool (p1 == (-9223372036854775808))) S (wG (c := p0 == (-9223372036854775808)) 2 false 20 rfl rfl (by kernel_rfl) hc18) rfl (by kernel_rfl) (by kernel_rfl) (bEq _ _ _ _ .i64 p1 (-9223372036854775808)) rfl (by decide) (fun a S => ?_)
            refine sPickF (b := p0 == (-9223372036854775808)) (.bool (p1 == (-9223372036854775808))) S (wN rfl) rfl (by kernel_rfl) hc18 (by kernel_rfl) rfl (by decide) (fun a S => ?_)
            exact leafL (leafT (⟨p1 == (-9223372036854775808), Option.some.inj h, S.fix [0] [] (by decide) (by kernel_rfl) (by kernel_rfl) (by kernel_rfl)⟩))
        · obtain ⟨o15, rfl, S⟩ := hI
          have h := g17
          clear g17
          try dsimp only at h
          rcases iteSome h with ⟨hc19, h⟩ | ⟨hc19, h⟩
          · refine sCondT (b := o15) S (by kernel_rfl) hc19 ?_
            refine sSeq (fun K20 hK20 => ?_)
            obtain ⟨t22, h, g23⟩ := bindSome h
            refine sCut (fun a w => ∃ o21, o21 = t22 ∧ St [] E [] w0 61 a w [(0, .int .i64 p0), (1, .int .i64 p1), (4, .pointer (some ⟨b2, 0, none⟩)), (31, .bool o21)] [eBox b2 23 [.int .i64 0, .int .i64 0]] []) ?_ (fun a w hI => ?_)
            · refine sRegion ?_
              refine sMove (.int .i64 p0) S (wN rfl) (.inl rfl) (by kernel_rfl) rfl (by decide) (fun a S => ?_)
              obtain ⟨z24, hx25, h⟩ := bindSome h
              refine sBin (.int .i64 z24) S (wN rfl) rfl (by kernel_rfl) (by kernel_rfl) (bRem _ _ _ _ (x := p0) (y := 2) hx25) rfl (by decide) (fun a S => ?_)
              refine sBin (.bool (z24 == 0)) S (wN rfl) rfl (by kernel_rfl) (by kernel_rfl) (bEq _ _ _ _ .i64 z24 0) rfl (by decide) (fun a S => ?_)
              refine sMove (.bool (z24 == 0)) S (wN rfl) (.inl rfl) (by kernel_rfl) rfl (by decide) (fun a S => ?_)
              rcases iteSome h with ⟨hc26, h⟩ | ⟨hc26, h⟩
              · refine sMove (.int .i64 p1) S (wG (c := z24 == 0) 3 true 27 rfl rfl (by kernel_rfl) hc26) (.inl rfl) (by kernel_rfl) rfl (by decide) (fun a S => ?_)
                obtain ⟨z27, hx28, h⟩ := bindSome h
                refine sBin (.int .i64 z27) S (wG (c := z24 == 0) 3 true 27 rfl rfl (by kernel_rfl) hc26) rfl (by kernel_rfl) (by kernel_rfl) (bRem _ _ _ _ (x := p1) (y := 2) hx28) rfl (by decide) (fun a S => ?_)
                refine sBin (.bool (z27 == 0)) S (wG (c := z24 == 0) 3 true 27 rfl rfl (by kernel_rfl) hc26) rfl (by kernel_rfl) (by kernel_rfl) (bEq _ _ _ _ .i64 z27 0) rfl (by decide) (fun a S => ?_)
                refine sPickT (b := z24 == 0) (.bool (z27 == 0)) S (wN rfl) rfl (by kernel_rfl) hc26 (by kernel_rfl) rfl (by decide) (fun a S => ?_)
                exact leafL (leafT (⟨z27 == 0, Option.some.inj h, S.fix [0] [] (by decide) (by kernel_rfl) (by kernel_rfl) (by kernel_rfl)⟩))
              · refine sSkip (c := z24 == 0) 3 true 27 28 S rfl rfl (by kernel_rfl) hc26 rfl (by decide) (fun a S => ?_)
                refine sSkip (c := z24 == 0) 3 true 27 29 S rfl rfl (by kernel_rfl) hc26 rfl (by decide) (fun a S => ?_)
                refine sSkip (c := z24 == 0) 3 true 27 30 S rfl rfl (by kernel_rfl) hc26 rfl (by decide) (fun a S => ?_)
                refine sPickF (b := z24 == 0) (.bool false) S (wN rfl) rfl (by kernel_rfl) hc26 (by kernel_rfl) rfl (by decide) (fun a S => ?_)
                exact leafL (leafT (⟨false, Option.some.inj h, S.fix [0] [] (by decide) (by kernel_rfl) (by kernel_rfl) (by kernel_rfl)⟩))
            · obtain ⟨o21, rfl, S⟩ := hI
              have h := g23
              clear g23
              try dsimp only at h
              rcases iteSome h with ⟨hc29, h⟩ | ⟨hc29, h⟩
              · refine sCondT (b := o21) S (by kernel_rfl) hc29 ?_
                refine sSeq (fun K30 hK30 => ?_)
                refine sRegion ?_
                refine sMove (.int .i64 p0) S (wN rfl) (.inl rfl) (by kernel_rfl) rfl (by decide) (fun a S => ?_)
                obtain ⟨z31, hx32, h⟩ := bindSome h
                refine sBin (.int .i64 z31) S (wN rfl) rfl (by kernel_rfl) (by kernel_rfl) (bQuo _ _ _ _ (x := p0) (y := 2) hx32) rfl (by decide) (fun a S => ?_)
                refine sMove (.int .i64 p1) S (wN rfl) (.inl rfl) (by kernel_rfl) rfl (by decide) (fun a S => ?_)
                obtain ⟨z33, hx34, h⟩ := bindSome h
                refine sBin (.int .i64 z33) S (wN rfl) rfl (by kernel_rfl) (by kernel_rfl) (bQuo _ _ _ _ (x := p1) (y := 2) hx34) rfl (by decide) (fun a S => ?_)
                obtain ⟨r35, hx36, h⟩ := bindSome h
                refine sCall (X := Value) (f := 36) (vs := [.int .i64 z31, .int .i64 z33]) (val := c_raddleref23_Make_s1_val r35) (B' := fun _ => []) (D' := c_raddleref23_Make_s1_D r35) [] [eBox b2 23 [.int .i64 0, .int .i64 0]] [] [0] [] S (wN rfl) rfl callee36 (by kernel_rfl) (by decide) (by kernel_rfl) (by kernel_rfl) (fun E1 w1 S1 => c_raddleref23_Make_s1 E1 w1 z31 z33 r35 hx36 S1) rfl (by decide) (fun u37 a w S => ?_)
                obtain rfl : u37 = .agg #[.int .i64 r35.1.Num, .int .i64 r35.1.Den] := S.mem.know (i := 0) (e := fRep r_api_Ratio (u37) r35.1) (by kernel_rfl)
                refine sExtract (vs := [.agg #[.int .i64 r35.1.Num, .int .i64 r35.1.Den], .int .i64 r35.2]) (.agg #[.int .i64 r35.1.Num, .int .i64 r35.1.Den]) S (wN rfl) rfl (by kernel_rfl) rfl rfl (by decide) (fun a S => ?_)
                refine sExtract (vs := [.agg #[.int .i64 r35.1.Num, .int .i64 r35.1.Den], .int .i64 r35.2]) (.int .i64 r35.2) S (wN rfl) rfl (by kernel_rfl) rfl rfl (by decide) (fun a S => ?_)
                refine sStore (p := b2) (off := 0) (T := 23) (vs := [.int .i64 0, .int .i64 0]) (v := .agg #[.int .i64 r35.1.Num, .int .i64 r35.1.Den]) 0 [.int .i64 r35.1.Num, .int .i64 r35.1.Den] S (wN rfl) rfl (by kernel_rfl) (by kernel_rfl) rfl (by kernel_rfl) (by kernel_rfl) rfl (by simp) rfl (fun a w S => ?_)
                refine sMove (.int .i64 r35.2) S (wN rfl) (.inr rfl) (by kernel_rfl) rfl (by decide) (fun a S => ?_)
                refine leafL (leafT (hK30 _ _ ?_))
                obtain rfl := Option.some.inj h
                exact wp_ret (rThen (rThen (sRet (.tuple #[.agg #[.int .i64 r35.1.Num, .int .i64 r35.1.Den], .int .i64 r35.2]) S (rsl2 rfl (rvN (c := 4) (t := 23) (T := 23) (p := b2) 0 [.int .i64 r35.1.Num, .int .i64 r35.1.Den] S (by kernel_rfl) (by kernel_rfl) (by kernel_rfl) (by kernel_rfl)) (rvT (t := 5) (v := .int .i64 r35.2) S (by kernel_rfl))) ⟨(.agg #[.int .i64 r35.1.Num, .int .i64 r35.1.Den]), rfl, S.mem.sel [] [0] (by decide) (by kernel_rfl) (by kernel_rfl)⟩)))
              · refine sCondF (b := o21) S (by kernel_rfl) hc29 ?_
                refine wp_skip (leafT (hK20 _ _ ?_))
                refine sSeq (fun K38 hK38 => ?_)
                refine sRegion ?_
                refine sBuild [] [.int .i64 0, .int .i64 0] S (wN rfl) rfl (by kernel_rfl) (by kernel_rfl) rfl (by decide) (fun a S => ?_)
                refine sStore (p := b2) (off := 0) (T := 23) (vs := [.int .i64 0, .int .i64 0]) (v := .agg #[.int .i64 0, .int .i64 0]) 0 [.int .i64 0, .int .i64 0] S (wN rfl) rfl (by kernel_rfl) (by kernel_rfl) rfl (by kernel_rfl) (by kernel_rfl) rfl (by simp) rfl (fun a w S => ?_)
                refine sMove (.int .i64 16) S (wN rfl) (.inr rfl) (by kernel_rfl) rfl (by decide) (fun a S => ?_)
                refine leafL (leafT (hK38 _ _ ?_))
                obtain rfl := Option.some.inj h
                have S := S.learn (fRep r_api_Ratio (.agg #[.int .i64 0, .int .i64 0]) (api_Ratio.mk 0 0)) rfl
                exact wp_ret (rThen (sRet (.tuple #[.agg #[.int .i64 0, .int .i64 0], .int .i64 16]) S (rsl2 rfl (rvN (c := 4) (t := 23) (T := 23) (p := b2) 0 [.int .i64 0, .int .i64 0] S (by kernel_rfl) (by kernel_rfl) (by kernel_rfl) (by kernel_rfl)) (rvT (t := 5) (v := .int .i64 16) S (by kernel_rfl))) ⟨(.agg #[.int .i64 0, .int .i64 0]), rfl, S.mem.sel [] [0] (by decide) (by kernel_rfl) (by kernel_rfl)⟩))
          · refine sCondF (b := o15) S (by kernel_rfl) hc19 ?_
            refine wp_skip (leafT (hK14 _ _ ?_))
            obtain ⟨t41, h, g42⟩ := bindSome h
            refine sCut (fun a w => ∃ o39, ∃ o40, (o39, o40) = t41 ∧ St [] E [] w0 61 a w [(0, .int .i64 o39), (1, .int .i64 o40), (4, .pointer (some ⟨b2, 0, none⟩))] [eBox b2 23 [.int .i64 0, .int .i64 0]] []) ?_ (fun a w hI => ?_)
            · refine sSeq (fun K43 hK43 => ?_)
              refine sRegion ?_
              refine sMove (.int .i64 p1) S (wN rfl) (.inl rfl) (by kernel_rfl) rfl (by decide) (fun a S => ?_)
              refine sBin (.bool (decide (p1 < 0))) S (wN rfl) rfl (by kernel_rfl) (by kernel_rfl) (bLt _ _ _ _ .i64 p1 0) rfl (by decide) (fun a S => ?_)
              refine leafL (leafT (hK43 _ _ ?_))
              rcases iteSome h with ⟨hc44, h⟩ | ⟨hc44, h⟩
              · refine sCondT (b := decide (p1 < 0)) S (by kernel_rfl) hc44 ?_
                refine sRegion ?_
                refine sMove (.int .i64 p0) S (wN rfl) (.inl rfl) (by kernel_rfl) rfl (by decide) (fun a S => ?_)
                refine sNeg (b := p0) S (wN rfl) rfl (by kernel_rfl) rfl (by decide) (fun a S => ?_)
                refine sMove (.int .i64 p1) S (wN rfl) (.inl rfl) (by kernel_rfl) rfl (by decide) (fun a S => ?_)
                refine sNeg (b := p1) S (wN rfl) rfl (by kernel_rfl) rfl (by decide) (fun a S => ?_)
                refine sMove (.int .i64 (w64 (0 - p0))) S (wN rfl) (.inr rfl) (by kernel_rfl) rfl (by decide) (fun a S => ?_)
                refine sMove (.int .i64 (w64 (0 - p1))) S (wN rfl) (.inr rfl) (by kernel_rfl) rfl (by decide) (fun a S => ?_)
                exact leafL (leafT (⟨w64 (0 - p0), w64 (0 - p1), Option.some.inj h, S.fix [0] [] (by decide) (by kernel_rfl) (by kernel_rfl) (by kernel_rfl)⟩))
              · refine sCondF (b := decide (p1 < 0)) S (by kernel_rfl) hc44 ?_
                exact wp_skip (leafT (⟨p0, p1, Option.some.inj h, S.fix [0] [] (by decide) (by kernel_rfl) (by kernel_rfl) (by kernel_rfl)⟩))
            · obtain ⟨o39, o40, rfl, S⟩ := hI
              have h := g42
              clear g42
              try dsimp only at h
              refine sSeq (fun K45 hK45 => ?_)
              refine sRegion ?_
              refine sMove (.int .i64 o39) S (wN rfl) (.inl rfl) (by kernel_rfl) rfl (by decide) (fun a S => ?_)
              refine sMove (.int .i64 o40) S (wN rfl) (.inl rfl) (by kernel_rfl) rfl (by decide) (fun a S => ?_)
              obtain ⟨r46, hx47, h⟩ := bindSome h
              have S1 := S.mem
              refine sCallQ (X := Unit) (f := 39) (vs := [.int .i64 o39, .int .i64 o40]) (val := fun _ => .int .i64 r46) S (wN rfl) rfl callee39 (by kernel_rfl) (S1.quiet [] (by kernel_rfl)) (fun E1 w1 S1 => c_raddleref23_common E1 w1 o39 o40 r46 hx47 S1) rfl (by decide) (fun _ a w S => ?_)
              refine sMove (.int .i64 r46) S (wN rfl) (.inr rfl) (by kernel_rfl) rfl (by decide) (fun a S => ?_)
              refine leafL (leafT (hK45 _ _ ?_))
              refine sSeq (fun K48 hK48 => ?_)
              obtain ⟨z49, hx50, h⟩ := bindSome h
              obtain ⟨z51, hx52, h⟩ := bindSome h
              refine sDraw (nf := [7, 8]) (W := [(0, 49, .int .i64 o39), (1, 50, .int .i64 r46), (2, 51, .int .i64 z49), (3, 52, .int .i64 o40), (4, 53, .int .i64 r46), (5, 54, .int .i64 z51), (6, 55, .agg #[.int .i64 z49, .int .i64 z51])]) (by kernel_rfl) S ?_
              refine node_by (A := anc_raddleref23_Make_s0_0) (nf := [7, 8]) (Y := []) (W := [(0, 49, .int .i64 o39), (1, 50, .int .i64 r46), (2, 51, .int .i64 z49), (3, 52, .int .i64 o40), (4, 53, .int .i64 r46), (5, 54, .int .i64 z51), (6, 55, .agg #[.int .i64 z49, .int .i64 z51])]) 9 (by kernel_rfl) (by kernel_rfl) (by kernel_rfl) (by kernel_rfl) (by kernel_rfl) [0, 1, 2, 3, 4, 5, 6] (by kernel_rfl) (by decide) (by decide) (aF 0 8 (by decide) ?_ (aF 1 7 (by decide) ?_ (aF 2 6 (by decide) ?_ (aF 3 5 (by decide) ?_ (aF 4 4 (by decide) ?_ (aF 5 3 (by decide) ?_ (aF 6 2 (by decide) ?_ (aN 7 1 (by decide) ?_ (aB 8 0 7 (by decide) (trivial)))))))))) [] (fun q hq => by cases hq) (fun hY => absurd (hY 7 (by decide)) (by decide))
              · refine fI 49 (.int .i64 o39) [(0, .int .i64 o39)] 0 [none] rfl rfl (by kernel_rfl) rfl (by kernel_rfl) (by kernel_rfl) fun G a w S => ?_
                refine sMove (.int .i64 o39) S (wN rfl) (.inl rfl) (by kernel_rfl) rfl (by decide) (fun a S => ?_)
                exact leafL ⟨rfl, S⟩
              · refine fI 50 (.int .i64 r46) [(6, .int .i64 r46)] 1 [none] rfl rfl (by kernel_rfl) rfl (by kernel_rfl) (by kernel_rfl) fun G a w S => ?_
                refine sMove (.int .i64 r46) S (wN rfl) (.inl rfl) (by kernel_rfl) rfl (by decide) (fun a S => ?_)
                exact leafL ⟨rfl, S⟩
              · refine fI 51 (.int .i64 z49) [(49, .int .i64 o39), (50, .int .i64 r46)] 2 [some 0, some 1] rfl rfl (by kernel_rfl) rfl (by kernel_rfl) (by kernel_rfl) fun G a w S => ?_
                refine sBin (.int .i64 z49) S (wN rfl) rfl (by kernel_rfl) (by kernel_rfl) (bQuo _ _ _ _ (x := o39) (y := r46) hx50) rfl (by decide) (fun a S => ?_)
                exact leafL ⟨rfl, S⟩
              · refine fI 52 (.int .i64 o40) [(1, .int .i64 o40)] 3 [none] rfl rfl (by kernel_rfl) rfl (by kernel_rfl) (by kernel_rfl) fun G a w S => ?_
                refine sMove (.int .i64 o40) S (wN rfl) (.inl rfl) (by kernel_rfl) rfl (by decide) (fun a S => ?_)
                exact leafL ⟨rfl, S⟩
              · refine fI 53 (.int .i64 r46) [(6, .int .i64 r46)] 4 [none] rfl rfl (by kernel_rfl) rfl (by kernel_rfl) (by kernel_rfl) fun G a w S => ?_
                refine sMove (.int .i64 r46) S (wN rfl) (.inl rfl) (by kernel_rfl) rfl (by decide) (fun a S => ?_)
                exact leafL ⟨rfl, S⟩
              · refine fI 54 (.int .i64 z51) [(52, .int .i64 o40), (53, .int .i64 r46)] 5 [some 3, some 4] rfl rfl (by kernel_rfl) rfl (by kernel_rfl) (by kernel_rfl) fun G a w S => ?_
                refine sBin (.int .i64 z51) S (wN rfl) rfl (by kernel_rfl) (by kernel_rfl) (bQuo _ _ _ _ (x := o40) (y := r46) hx52) rfl (by decide) (fun a S => ?_)
                exact leafL ⟨rfl, S⟩
              · refine fI 55 (.agg #[.int .i64 z49, .int .i64 z51]) [(51, .int .i64 z49), (54, .int .i64 z51)] 6 [some 2, some 5] rfl rfl (by kernel_rfl) rfl (by kernel_rfl) (by kernel_rfl) fun G a w S => ?_
                refine sBuild [(0, .int .i64 z49), (1, .int .i64 z51)] [.int .i64 z49, .int .i64 z51] S (wN rfl) rfl (by kernel_rfl) (by kernel_rfl) rfl (by decide) (fun a S => ?_)
                exact leafL ⟨rfl, S⟩
              · refine ⟨_, [], rfl, (srcs_of [] rfl (by kernel_rfl) (by kernel_rfl)), fun G a w S => ?_⟩
                refine sAlloc (.agg #[.int .i64 0, .int .i64 0]) S (wN rfl) rfl (by kernel_rfl) [.int .i64 0, .int .i64 0] rfl rfl (by decide) (fun a b54 w S => ?_)
                refine leafL ⟨rfl, _, _, .inl ⟨7, (.pointer (some ⟨b54, 0, none⟩)), [], rfl, S, hz_of (by kernel_rfl), ?_⟩⟩
                refine node_by (A := anc_raddleref23_Make_s0_0) (nf := [7, 8]) (Y := [7]) 9 (by kernel_rfl) (by kernel_rfl) (by kernel_rfl) (by kernel_rfl) (by kernel_rfl) [7, 0, 1, 2, 3, 4, 5, 6] (by kernel_rfl) (by decide) (by decide) (aF 0 8 (by decide) ?_ (aF 1 7 (by decide) ?_ (aF 2 6 (by decide) ?_ (aF 3 5 (by decide) ?_ (aF 4 4 (by decide) ?_ (aF 5 3 (by decide) ?_ (aF 6 2 (by decide) ?_ (aY 7 1 (by decide) (aN 8 0 (by decide) ?_ (trivial)))))))))) [] (fun q hq => by cases hq) (fun hY => absurd (hY 8 (by decide)) (by decide))
                · refine fI 49 (.int .i64 o39) [(0, .int .i64 o39)] 1 [none] rfl rfl (by kernel_rfl) rfl (by kernel_rfl) (by kernel_rfl) fun G a w S => ?_
                  refine sMove (.int .i64 o39) S (wN rfl) (.inl rfl) (by kernel_rfl) rfl (by decide) (fun a S => ?_)
                  exact leafL ⟨rfl, S⟩
                · refine fI 50 (.int .i64 r46) [(6, .int .i64 r46)] 2 [none] rfl rfl (by kernel_rfl) rfl (by kernel_rfl) (by kernel_rfl) fun G a w S => ?_
                  refine sMove (.int .i64 r46) S (wN rfl) (.inl rfl) (by kernel_rfl) rfl (by decide) (fun a S => ?_)
                  exact leafL ⟨rfl, S⟩
                · refine fI 51 (.int .i64 z49) [(49, .int .i64 o39), (50, .int .i64 r46)] 3 [some 1, some 2] rfl rfl (by kernel_rfl) rfl (by kernel_rfl) (by kernel_rfl) fun G a w S => ?_
                  refine sBin (.int .i64 z49) S (wN rfl) rfl (by kernel_rfl) (by kernel_rfl) (bQuo _ _ _ _ (x := o39) (y := r46) hx50) rfl (by decide) (fun a S => ?_)
                  exact leafL ⟨rfl, S⟩
                · refine fI 52 (.int .i64 o40) [(1, .int .i64 o40)] 4 [none] rfl rfl (by kernel_rfl) rfl (by kernel_rfl) (by kernel_rfl) fun G a w S => ?_
                  refine sMove (.int .i64 o40) S (wN rfl) (.inl rfl) (by kernel_rfl) rfl (by decide) (fun a S => ?_)
                  exact leafL ⟨rfl, S⟩
                · refine fI 53 (.int .i64 r46) [(6, .int .i64 r46)] 5 [none] rfl rfl (by kernel_rfl) rfl (by kernel_rfl) (by kernel_rfl) fun G a w S => ?_
                  refine sMove (.int .i64 r46) S (wN rfl) (.inl rfl) (by kernel_rfl) rfl (by decide) (fun a S => ?_)
                  exact leafL ⟨rfl, S⟩
                · refine fI 54 (.int .i64 z51) [(52, .int .i64 o40), (53, .int .i64 r46)] 6 [some 4, some 5] rfl rfl (by kernel_rfl) rfl (by kernel_rfl) (by kernel_rfl) fun G a w S => ?_
                  refine sBin (.int .i64 z51) S (wN rfl) rfl (by kernel_rfl) (by kernel_rfl) (bQuo _ _ _ _ (x := o40) (y := r46) hx52) rfl (by decide) (fun a S => ?_)
                  exact leafL ⟨rfl, S⟩
                · refine fI 55 (.agg #[.int .i64 z49, .int .i64 z51]) [(51, .int .i64 z49), (54, .int .i64 z51)] 7 [some 3, some 6] rfl rfl (by kernel_rfl) rfl (by kernel_rfl) (by kernel_rfl) fun G a w S => ?_
                  refine sBuild [(0, .int .i64 z49), (1, .int .i64 z51)] [.int .i64 z49, .int .i64 z51] S (wN rfl) rfl (by kernel_rfl) (by kernel_rfl) rfl (by decide) (fun a S => ?_)
                  exact leafL ⟨rfl, S⟩
                · refine ⟨_, [(7, .pointer (some ⟨b54, 0, none⟩)), (55, .agg #[.int .i64 z49, .int .i64 z51])], rfl, (srcs_of [some 0, some 7] rfl (by kernel_rfl) (by kernel_rfl)), fun G a w S => ?_⟩
                  refine sStore (p := b54) (off := 0) (T := 23) (vs := [.int .i64 0, .int .i64 0]) (v := .agg #[.int .i64 z49, .int .i64 z51]) 0 [.int .i64 z49, .int .i64 z51] S (wN rfl) rfl (by kernel_rfl) (by kernel_rfl) rfl (by kernel_rfl) (by kernel_rfl) rfl (by simp) rfl (fun a w S => ?_)
                  refine leafL ⟨rfl, _, _, .inr ⟨[], rfl, S, hz_of (by kernel_rfl), ?_⟩⟩
                  refine node_by (A := anc_raddleref23_Make_s0_0) (nf := [7, 8]) (Y := [8, 7]) 9 (by kernel_rfl) (by kernel_rfl) (by kernel_rfl) (by kernel_rfl) (by kernel_rfl) [7, 0, 1, 2, 3, 4, 5, 6] (by kernel_rfl) (by decide) (by decide) (aD 0 8 8 (by decide) (aD 1 7 8 (by decide) (aD 2 6 8 (by decide) (aD 3 5 8 (by decide) (aD 4 4 8 (by decide) (aD 5 3 8 (by decide) (aD 6 2 8 (by decide) (aY 7 1 (by decide) (aY 8 0 (by decide) (trivial)))))))))) [(4, .pointer (some ⟨b2, 0, none⟩)), (7, .pointer (some ⟨b54, 0, none⟩))] (fin_of [none, some 0] rfl (by kernel_rfl) (by kernel_rfl)) (fun _ a w S => ?_)
                  · refine leafT (hK48 _ _ ?_)
                    refine sSeq (fun K55 hK55 => ?_)
                    refine sSeq (fun K56 hK56 => ?_)
                    refine sRegion ?_
                    refine sLoadN (p := b54) (off := 0) (T := 23) (vs := [.int .i64 z49, .int .i64 z51]) 0 [.int .i64 z49, .int .i64 z51] S (wN rfl) rfl (by kernel_rfl) (by kernel_rfl) (by kernel_rfl) (by kernel_rfl) rfl rfl (by decide) (fun a S => ?_)
                    obtain ⟨r57, hx58, h⟩ := bindSome h
                    have S1 := S.mem
                    have S1 := S1.learn (fRep r_api_Ratio (.agg #[.int .i64 z49, .int .i64 z51]) (api_Ratio.mk z49 z51)) rfl
                    refine sCallQ (X := Unit) (f := 9) (vs := [.agg #[.int .i64 z49, .int .i64 z51]]) (val := fun _ => .int .i64 r57) S (wN rfl) rfl callee9 (by kernel_rfl) (S1.quiet [0] (by kernel_rfl)) (fun E1 w1 S1 => c_raddleref23_Check E1 w1 (api_Ratio.mk z49 z51) (.agg #[.int .i64 z49, .int .i64 z51]) r57 hx58 S1) rfl (by decide) (fun _ a w S => ?_)
                    refine sBin (.bool (r57 != 0)) S (wN rfl) rfl (by kernel_rfl) (by kernel_rfl) (bNe _ _ _ _ .i64 r57 0) rfl (by decide) (fun a S => ?_)
                    refine leafL (leafT (hK56 _ _ ?_))
                    rcases iteSome h with ⟨hc59, h⟩ | ⟨hc59, h⟩
                    · refine sCondT (b := r57 != 0) S (by kernel_rfl) hc59 ?_
                      refine sSeq (fun K60 hK60 => ?_)
                      refine sRegion ?_
                      refine sBuild [] [.int .i64 0, .int .i64 0] S (wN rfl) rfl (by kernel_rfl) (by kernel_rfl) rfl (by decide) (fun a S => ?_)
                      refine sStore (p := b2) (off := 0) (T := 23) (vs := [.int .i64 0, .int .i64 0]) (v := .agg #[.int .i64 0, .int .i64 0]) 1 [.int .i64 0, .int .i64 0] S (wN rfl) rfl (by kernel_rfl) (by kernel_rfl) rfl (by kernel_rfl) (by kernel_rfl) rfl (by simp) rfl (fun a w S => ?_)
                      refine sMove (.int .i64 16) S (wN rfl) (.inr rfl) (by kernel_rfl) rfl (by decide) (fun a S => ?_)
                      refine leafL (leafT (hK60 _ _ ?_))
                      obtain rfl := Option.some.inj h
                      have S := S.learn (fRep r_api_Ratio (.agg #[.int .i64 0, .int .i64 0]) (api_Ratio.mk 0 0)) rfl
                      exact wp_ret (rThen (sRet (.tuple #[.agg #[.int .i64 0, .int .i64 0], .int .i64 16]) S (rsl2 rfl (rvN (c := 4) (t := 23) (T := 23) (p := b2) 0 [.int .i64 0, .int .i64 0] S (by kernel_rfl) (by kernel_rfl) (by kernel_rfl) (by kernel_rfl)) (rvT (t := 5) (v := .int .i64 16) S (by kernel_rfl))) ⟨(.agg #[.int .i64 0, .int .i64 0]), rfl, S.mem.sel [] [0] (by decide) (by kernel_rfl) (by kernel_rfl)⟩))
                    · refine sCondF (b := r57 != 0) S (by kernel_rfl) hc59 ?_
                      refine wp_skip (leafT (hK55 _ _ ?_))
                      refine sSeq (fun K61 hK61 => ?_)
                      refine sRegion ?_
                      refine sLoadN (p := b54) (off := 0) (T := 23) (vs := [.int .i64 z49, .int .i64 z51]) 0 [.int .i64 z49, .int .i64 z51] S (wN rfl) rfl (by kernel_rfl) (by kernel_rfl) (by kernel_rfl) (by kernel_rfl) rfl rfl (by decide) (fun a S => ?_)
                      refine sStore (p := b2) (off := 0) (T := 23) (vs := [.int .i64 0, .int .i64 0]) (v := .agg #[.int .i64 z49, .int .i64 z51]) 1 [.int .i64 z49, .int .i64 z51] S (wN rfl) rfl (by kernel_rfl) (by kernel_rfl) rfl (by kernel_rfl) (by kernel_rfl) rfl (by simp) rfl (fun a w S => ?_)
                      refine sMove (.int .i64 0) S (wN rfl) (.inr rfl) (by kernel_rfl) rfl (by decide) (fun a S => ?_)
                      refine leafL (leafT (hK61 _ _ ?_))
                      obtain rfl := Option.some.inj h
                      have S := S.learn (fRep r_api_Ratio (.agg #[.int .i64 z49, .int .i64 z51]) (api_Ratio.mk z49 z51)) rfl
                      exact wp_ret (sRet (.tuple #[.agg #[.int .i64 z49, .int .i64 z51], .int .i64 0]) S (rsl2 rfl (rvN (c := 4) (t := 23) (T := 23) (p := b2) 0 [.int .i64 z49, .int .i64 z51] S (by kernel_rfl) (by kernel_rfl) (by kernel_rfl) (by kernel_rfl)) (rvT (t := 5) (v := .int .i64 0) S (by kernel_rfl))) ⟨(.agg #[.int .i64 z49, .int .i64 z51]), rfl, S.mem.sel [] [0] (by decide) (by kernel_rfl) (by kernel_rfl)⟩)

end Go.Proofs.Ytdfjcpnflmgdoaa
namespace Go.Proofs.Ytdfjcpnflmgdoaa
open Go.RowKit
set_option linter.unusedVariables false

def anc_raddleref23_Make_0 : List (List Nat) := [[], [], [0, 1], [], [], [3, 4], [0, 1, 2, 3, 4, 5], [], [0, 1, 2, 3, 4, 5, 6, 7]]
noncomputable def F_raddleref23_Make (p0 : Int) (p1 : Int) : Option (api_Ratio × Int) :=
  if p1 == 0 then
    some ((api_Ratio.mk 0 0), 18)
  else
    Option.bind (α := Bool) (
      if p0 == (-9223372036854775808) then
        some (p1 == (-9223372036854775808))
      else
        some false) fun o8 =>
    if o8 then
      some ((api_Ratio.mk 1 1), 0)
    else
      Option.bind (α := Bool) (
        if p0 == (-9223372036854775808) then
          some true
        else
          some (p1 == (-9223372036854775808))) fun o15 =>
      if o15 then
        Option.bind (α := Bool) (
          Option.bind (remI p0 2) fun z24 =>
          if z24 == 0 then
            Option.bind (remI p1 2) fun z27 =>
            some (z27 == 0)
          else
            some false) fun o21 =>
        if o21 then
          Option.bind (quoI p0 2) fun z31 =>
          Option.bind (quoI p1 2) fun z33 =>
          Option.bind (F_raddleref23_Make_s0 z31 z33) fun r35 =>
          some (r35.1, r35.2)
        else
          some ((api_Ratio.mk 0 0), 16)
      else
        Option.bind (α := (Int × Int)) (
          if decide (p1 < 0) then
            some (w64 (0 - p0), w64 (0 - p1))
          else
            some (p0, p1)) fun (o39, o40) =>
        Option.bind (F_raddleref23_common o39 o40) fun r46 =>
        Option.bind (quoI o39 r46) fun z49 =>
        Option.bind (quoI o40 r46) fun z51 =>
        Option.bind (F_raddleref23_Check (api_Ratio.mk z49 z51)) fun r57 =>
        if r57 != 0 then
          some ((api_Ratio.mk 0 0), 16)
        else
          some ((api_Ratio.mk z49 z51), 0)
def c_raddleref23_Make_val (r : (api_Ratio × Int)) (x : Value) : Value := .tuple #[x, .int .i64 r.2]
def c_raddleref23_Make_D (r : (api_Ratio × Int)) (x : Value) : List Fact := [fRep r_api_Ratio x r.1]
set_option maxHeartbeats 4000000 in
set_option maxRecDepth 100000 in
theorem c_raddleref23_Make (E : Nat → Prop) (w0 : World) (p0 : Int) (p1 : Int) (r : (api_Ratio × Int)) (h : F_raddleref23_Make p0 p1 = some r) (S : St0 E [] w0 w0 [] []) :
    Calls Try.prog 36 #[.int .i64 p0, .int .i64 p1] w0 (Ret (X := Value) E [] w0 (c_raddleref23_Make_val r) (fun _ => []) (c_raddleref23_Make_D r)) := by
  unfold F_raddleref23_Make at h
  refine sEnter (args := [.int .i64 p0, .int .i64 p1]) 61 Try.func36 rfl rfl (by simp) S (fun a S => ?_)
  refine sSeq (fun K1 hK1 => ?_)
  refine sRegion ?_
  refine sAlloc (.agg #[.int .i64 0, .int .i64 0]) S (wN rfl) rfl (by kernel_rfl) [.int .i64 0, .int .i64 0] rfl rfl (by decide) (fun a b2 w S => ?_)
  refine sMove (.int .i64 0) S (wN rfl) (.inr rfl) (by kernel_rfl) rfl (by decide) (fun a S => ?_)
  refine leafL (leafT (hK1 _ _ ?_))
  refine sSeq (fun K3 hK3 => ?_)
  refine sSeq (fun K4 hK4 => ?_)
  refine sRegion ?_
  refine sMove (.int .i64 p1) S (wN rfl) (.inl rfl) (by kernel_rfl) rfl (by decide) (fun a S => ?_)
  refine sBin (.bool (p1 == 0)) S (wN rfl) rfl (by kernel_rfl) (by kernel_rfl) (bEq _ _ _ _ .i64 p1 0) rfl (by decide) (fun a S => ?_)
  refine leafL (leafT (hK4 _ _ ?_))
  rcases iteSome h with ⟨hc5, h⟩ | ⟨hc5, h⟩
  · refine sCondT (b := p1 == 0) S (by kernel_rfl) hc5 ?_
    refine sSeq (fun K6 hK6 => ?_)
    refine sRegion ?_
    refine sBuild [] [.int .i64 0, .int .i64 0] S (wN rfl) rfl (by kernel_rfl) (by kernel_rfl) rfl (by decide) (fun a S => ?_)
    refine sStore (p := b2) (off := 0) (T := 23) (vs := [.int .i64 0, .int .i64 0]) (v := .agg #[.int .i64 0, .int .i64 0]) 0 [.int .i64 0, .int .i64 0] S (wN rfl) rfl (by kernel_rfl) (by kernel_rfl) rfl (by kernel_rfl) (by kernel_rfl) rfl (by simp) rfl (fun a w S => ?_)
    refine sMove (.int .i64 18) S (wN rfl) (.inr rfl) (by kernel_rfl) rfl (by decide) (fun a S => ?_)
    refine leafL (leafT (hK6 _ _ ?_))
    obtain rfl := Option.some.inj h
    have S := S.learn (fRep r_api_Ratio (.agg #[.int .i64 0, .int .i64 0]) (api_Ratio.mk 0 0)) rfl
    exact wp_ret (rThen (sRet (.tuple #[.agg #[.int .i64 0, .int .i64 0], .int .i64 18]) S (rsl2 rfl (rvN (c := 4) (t := 23) (T := 23) (p := b2) 0 [.int .i64 0, .int .i64 0] S (by kernel_rfl) (by kernel_rfl) (by kernel_rfl) (by kernel_rfl)) (rvT (t := 5) (v := .int .i64 18) S (by kernel_rfl))) ⟨(.agg #[.int .i64 0, .int .i64 0]), rfl, S.mem.sel [] [0] (by decide) (by kernel_rfl) (by kernel_rfl)⟩))
  · refine sCondF (b := p1 == 0) S (by kernel_rfl) hc5 ?_
    refine wp_skip (leafT (hK3 _ _ ?_))
    refine sSeq (fun K7 hK7 => ?_)
    obtain ⟨t9, h, g10⟩ := bindSome h
    refine sCut (fun a w => ∃ o8, o8 = t9 ∧ St [] E [] w0 61 a w [(0, .int .i64 p0), (1, .int .i64 p1), (4, .pointer (some ⟨b2, 0, none⟩)), (16, .bool o8)] [eBox b2 23 [.int .i64 0, .int .i64 0]] []) ?_ (fun a w hI => ?_)
    · refine sRegion ?_
      refine sMove (.int .i64 p0) S (wN rfl) (.inl rfl) (by kernel_rfl) rfl (by decide) (fun a S => ?_)
      refine sBin (.bool (p0 == (-9223372036854775808))) S (wN rfl) rfl (by kernel_rfl) (by kernel_rfl) (bEq _ _ _ _ .i64 p0 (-9223372036854775808)) rfl (by decide) (fun a S => ?_)
      refine sMove (.bool (p0 == (-9223372036854775808))) S (wN rfl) (.inl rfl) (by kernel_rfl) rfl (by decide) (fun a S => ?_)
      rcases iteSome h with ⟨hc11, h⟩ | ⟨hc11, h⟩
      · refine sMove (.int .i64 p1) S (wG (c := p0 == (-9223372036854775808)) 2 true 13 rfl rfl (by kernel_rfl) hc11) (.inl rfl) (by kernel_rfl) rfl (by decide) (fun a S => ?_)
        refine sBin (.bool (p1 == (-9223372036854775808))) S (wG (c := p0 == (-9223372036854775808)) 2 true 13 rfl rfl (by kernel_rfl) hc11) rfl (by kernel_rfl) (by kernel_rfl) (bEq _ _ _ _ .i64 p1 (-9223372036854775808)) rfl (by decide) (fun a S => ?_)
        refine sPickT (b := p0 == (-9223372036854775808)) (.bool (p1 == (-9223372036854775808))) S (wN rfl) rfl (by kernel_rfl) hc11 (by kernel_rfl) rfl (by decide) (fun a S => ?_)
        exact leafL (leafT (⟨p1 == (-9223372036854775808), Option.some.inj h, S.fix [0] [] (by decide) (by kernel_rfl) (by kernel_rfl) (by kernel_rfl)⟩))
      · refine sSkip (c := p0 == (-9223372036854775808)) 2 true 13 14 S rfl rfl (by kernel_rfl) hc11 rfl (by decide) (fun a S => ?_)
        refine sSkip (c := p0 == (-9223372036854775808)) 2 true 13 15 S rfl rfl (by kernel_rfl) hc11 rfl (by decide) (fun a S => ?_)
        refine sPickF (b := p0 == (-9223372036854775808)) (.bool false) S (wN rfl) rfl (by kernel_rfl) hc11 (by kernel_rfl) rfl (by decide) (fun a S => ?_)
        exact leafL (leafT (⟨false, Option.some.inj h, S.fix [0] [] (by decide) (by kernel_rfl) (by kernel_rfl) (by kernel_rfl)⟩))
    · obtain ⟨o8, rfl, S⟩ := hI
      have h := g10
      clear g10
      try dsimp only at h
      rcases iteSome h with ⟨hc12, h⟩ | ⟨hc12, h⟩
      · refine sCondT (b := o8) S (by kernel_rfl) hc12 ?_
        refine sSeq (fun K13 hK13 => ?_)
        refine sRegion ?_
        refine sBuild [(0, .int .i64 1), (1, .int .i64 1)] [.int .i64 1, .int .i64 1] S (wN rfl) rfl (by kernel_rfl) (by kernel_rfl) rfl (by decide) (fun a S => ?_)
        refine sStore (p := b2) (off := 0) (T := 23) (vs := [.int .i64 0, .int .i64 0]) (v := .agg #[.int .i64 1, .int .i64 1]) 0 [.int .i64 1, .int .i64 1] S (wN rfl) rfl (by kernel_rfl) (by kernel_rfl) rfl (by kernel_rfl) (by kernel_rfl) rfl (by simp) rfl (fun a w S => ?_)
        refine sMove (.int .i64 0) S (wN rfl) (.inr rfl) (by kernel_rfl) rfl (by decide) (fun a S => ?_)
        refine leafL (leafT (hK13 _ _ ?_))
        obtain rfl := Option.some.inj h
        have S := S.learn (fRep r_api_Ratio (.agg #[.int .i64 1, .int .i64 1]) (api_Ratio.mk 1 1)) rfl
        exact wp_ret (rThen (sRet (.tuple #[.agg #[.int .i64 1, .int .i64 1], .int .i64 0]) S (rsl2 rfl (rvN (c := 4) (t := 23) (T := 23) (p := b2) 0 [.int .i64 1, .int .i64 1] S (by kernel_rfl) (by kernel_rfl) (by kernel_rfl) (by kernel_rfl)) (rvT (t := 5) (v := .int .i64 0) S (by kernel_rfl))) ⟨(.agg #[.int .i64 1, .int .i64 1]), rfl, S.mem.sel [] [0] (by decide) (by kernel_rfl) (by kernel_rfl)⟩))
      · refine sCondF (b := o8) S (by kernel_rfl) hc12 ?_
        refine wp_skip (leafT (hK7 _ _ ?_))
        refine sSeq (fun K14 hK14 => ?_)
        obtain ⟨t16, h, g17⟩ := bindSome h
        refine sCut (fun a w => ∃ o15, o15 = t16 ∧ St [] E [] w0 61 a w [(0, .int .i64 p0), (1, .int .i64 p1), (4, .pointer (some ⟨b2, 0, none⟩)), (23, .bool o15)] [eBox b2 23 [.int .i64 0, .int .i64 0]] []) ?_ (fun a w hI => ?_)
        · refine sRegion ?_
          refine sMove (.int .i64 p0) S (wN rfl) (.inl rfl) (by kernel_rfl) rfl (by decide) (fun a S => ?_)
          refine sBin (.bool (p0 == (-9223372036854775808))) S (wN rfl) rfl (by kernel_rfl) (by kernel_rfl) (bEq _ _ _ _ .i64 p0 (-9223372036854775808)) rfl (by decide) (fun a S => ?_)
          refine sMove (.bool (p0 == (-9223372036854775808))) S (wN rfl) (.inl rfl) (by kernel_rfl) rfl (by decide) (fun a S => ?_)
          rcases iteSome h with ⟨hc18, h⟩ | ⟨hc18, h⟩
          · refine sSkip (c := p0 == (-9223372036854775808)) 2 false 20 21 S rfl rfl (by kernel_rfl) hc18 rfl (by decide) (fun a S => ?_)
            refine sSkip (c := p0 == (-9223372036854775808)) 2 false 20 22 S rfl rfl (by kernel_rfl) hc18 rfl (by decide) (fun a S => ?_)
            refine sPickT (b := p0 == (-9223372036854775808)) (.bool true) S (wN rfl) rfl (by kernel_rfl) hc18 (by kernel_rfl) rfl (by decide) (fun a S => ?_)
            exact leafL (leafT (⟨true, Option.some.inj h, S.fix [0] [] (by decide) (by kernel_rfl) (by kernel_rfl) (by kernel_rfl)⟩))
          · refine sMove (.int .i64 p1) S (wG (c := p0 == (-9223372036854775808)) 2 false 20 rfl rfl (by kernel_rfl) hc18) (.inl rfl) (by kernel_rfl) rfl (by decide) (fun a S => ?_)
            refine sBin (.bool (p1 == (-9223372036854775808))) S (wG (c := p0 == (-9223372036854775808)) 2 false 20 rfl rfl (by kernel_rfl) hc18) rfl (by kernel_rfl) (by kernel_rfl) (bEq _ _ _ _ .i64 p1 (-9223372036854775808)) rfl (by decide) (fun a S => ?_)
            refine sPickF (b := p0 == (-9223372036854775808)) (.bool (p1 == (-9223372036854775808))) S (wN rfl) rfl (by kernel_rfl) hc18 (by kernel_rfl) rfl (by decide) (fun a S => ?_)
            exact leafL (leafT (⟨p1 == (-9223372036854775808), Option.some.inj h, S.fix [0] [] (by decide) (by kernel_rfl) (by kernel_rfl) (by kernel_rfl)⟩))
        · obtain ⟨o15, rfl, S⟩ := hI
          have h := g17
          clear g17
          try dsimp only at h
          rcases iteSome h with ⟨hc19, h⟩ | ⟨hc19, h⟩
          · refine sCondT (b := o15) S (by kernel_rfl) hc19 ?_
            refine sSeq (fun K20 hK20 => ?_)
            obtain ⟨t22, h, g23⟩ := bindSome h
            refine sCut (fun a w => ∃ o21, o21 = t22 ∧ St [] E [] w0 61 a w [(0, .int .i64 p0), (1, .int .i64 p1), (4, .pointer (some ⟨b2, 0, none⟩)), (31, .bool o21)] [eBox b2 23 [.int .i64 0, .int .i64 0]] []) ?_ (fun a w hI => ?_)
            · refine sRegion ?_
              refine sMove (.int .i64 p0) S (wN rfl) (.inl rfl) (by kernel_rfl) rfl (by decide) (fun a S => ?_)
              obtain ⟨z24, hx25, h⟩ := bindSome h
              refine sBin (.int .i64 z24) S (wN rfl) rfl (by kernel_rfl) (by kernel_rfl) (bRem _ _ _ _ (x := p0) (y := 2) hx25) rfl (by decide) (fun a S => ?_)
              refine sBin (.bool (z24 == 0)) S (wN rfl) rfl (by kernel_rfl) (by kernel_rfl) (bEq _ _ _ _ .i64 z24 0) rfl (by decide) (fun a S => ?_)
              refine sMove (.bool (z24 == 0)) S (wN rfl) (.inl rfl) (by kernel_rfl) rfl (by decide) (fun a S => ?_)
              rcases iteSome h with ⟨hc26, h⟩ | ⟨hc26, h⟩
              · refine sMove (.int .i64 p1) S (wG (c := z24 == 0) 3 true 27 rfl rfl (by kernel_rfl) hc26) (.inl rfl) (by kernel_rfl) rfl (by decide) (fun a S => ?_)
                obtain ⟨z27, hx28, h⟩ := bindSome h
                refine sBin (.int .i64 z27) S (wG (c := z24 == 0) 3 true 27 rfl rfl (by kernel_rfl) hc26) rfl (by kernel_rfl) (by kernel_rfl) (bRem _ _ _ _ (x := p1) (y := 2) hx28) rfl (by decide) (fun a S => ?_)
                refine sBin (.bool (z27 == 0)) S (wG (c := z24 == 0) 3 true 27 rfl rfl (by kernel_rfl) hc26) rfl (by kernel_rfl) (by kernel_rfl) (bEq _ _ _ _ .i64 z27 0) rfl (by decide) (fun a S => ?_)
                refine sPickT (b := z24 == 0) (.bool (z27 == 0)) S (wN rfl) rfl (by kernel_rfl) hc26 (by kernel_rfl) rfl (by decide) (fun a S => ?_)
                exact leafL (leafT (⟨z27 == 0, Option.some.inj h, S.fix [0] [] (by decide) (by kernel_rfl) (by kernel_rfl) (by kernel_rfl)⟩))
              · refine sSkip (c := z24 == 0) 3 true 27 28 S rfl rfl (by kernel_rfl) hc26 rfl (by decide) (fun a S => ?_)
                refine sSkip (c := z24 == 0) 3 true 27 29 S rfl rfl (by kernel_rfl) hc26 rfl (by decide) (fun a S => ?_)
                refine sSkip (c := z24 == 0) 3 true 27 30 S rfl rfl (by kernel_rfl) hc26 rfl (by decide) (fun a S => ?_)
                refine sPickF (b := z24 == 0) (.bool false) S (wN rfl) rfl (by kernel_rfl) hc26 (by kernel_rfl) rfl (by decide) (fun a S => ?_)
                exact leafL (leafT (⟨false, Option.some.inj h, S.fix [0] [] (by decide) (by kernel_rfl) (by kernel_rfl) (by kernel_rfl)⟩))
            · obtain ⟨o21, rfl, S⟩ := hI
              have h := g23
              clear g23
              try dsimp only at h
              rcases iteSome h with ⟨hc29, h⟩ | ⟨hc29, h⟩
              · refine sCondT (b := o21) S (by kernel_rfl) hc29 ?_
                refine sSeq (fun K30 hK30 => ?_)
                refine sRegion ?_
                refine sMove (.int .i64 p0) S (wN rfl) (.inl rfl) (by kernel_rfl) rfl (by decide) (fun a S => ?_)
                obtain ⟨z31, hx32, h⟩ := bindSome h
                refine sBin (.int .i64 z31) S (wN rfl) rfl (by kernel_rfl) (by kernel_rfl) (bQuo _ _ _ _ (x := p0) (y := 2) hx32) rfl (by decide) (fun a S => ?_)
                refine sMove (.int .i64 p1) S (wN rfl) (.inl rfl) (by kernel_rfl) rfl (by decide) (fun a S => ?_)
                obtain ⟨z33, hx34, h⟩ := bindSome h
                refine sBin (.int .i64 z33) S (wN rfl) rfl (by kernel_rfl) (by kernel_rfl) (bQuo _ _ _ _ (x := p1) (y := 2) hx34) rfl (by decide) (fun a S => ?_)
                obtain ⟨r35, hx36, h⟩ := bindSome h
                refine sCall (X := Value) (f := 36) (vs := [.int .i64 z31, .int .i64 z33]) (val := c_raddleref23_Make_s0_val r35) (B' := fun _ => []) (D' := c_raddleref23_Make_s0_D r35) [] [eBox b2 23 [.int .i64 0, .int .i64 0]] [] [0] [] S (wN rfl) rfl callee36 (by kernel_rfl) (by decide) (by kernel_rfl) (by kernel_rfl) (fun E1 w1 S1 => c_raddleref23_Make_s0 E1 w1 z31 z33 r35 hx36 S1) rfl (by decide) (fun u37 a w S => ?_)
                obtain rfl : u37 = .agg #[.int .i64 r35.1.Num, .int .i64 r35.1.Den] := S.mem.know (i := 0) (e := fRep r_api_Ratio (u37) r35.1) (by kernel_rfl)
                refine sExtract (vs := [.agg #[.int .i64 r35.1.Num, .int .i64 r35.1.Den], .int .i64 r35.2]) (.agg #[.int .i64 r35.1.Num, .int .i64 r35.1.Den]) S (wN rfl) rfl (by kernel_rfl) rfl rfl (by decide) (fun a S => ?_)
                refine sExtract (vs := [.agg #[.int .i64 r35.1.Num, .int .i64 r35.1.Den], .int .i64 r35.2]) (.int .i64 r35.2) S (wN rfl) rfl (by kernel_rfl) rfl rfl (by decide) (fun a S => ?_)
                refine sStore (p := b2) (off := 0) (T := 23) (vs := [.int .i64 0, .int .i64 0]) (v := .agg #[.int .i64 r35.1.Num, .int .i64 r35.1.Den]) 0 [.int .i64 r35.1.Num, .int .i64 r35.1.Den] S (wN rfl) rfl (by kernel_rfl) (by kernel_rfl) rfl (by kernel_rfl) (by kernel_rfl) rfl (by simp) rfl (fun a w S => ?_)
                refine sMove (.int .i64 r35.2) S (wN rfl) (.inr rfl) (by kernel_rfl) rfl (by decide) (fun a S => ?_)
                refine leafL (leafT (hK30 _ _ ?_))
                obtain rfl := Option.some.inj h
                exact wp_ret (rThen (rThen (sRet (.tuple #[.agg #[.int .i64 r35.1.Num, .int .i64 r35.1.Den], .int .i64 r35.2]) S (rsl2 rfl (rvN (c := 4) (t := 23) (T := 23) (p := b2) 0 [.int .i64 r35.1.Num, .int .i64 r35.1.Den] S (by kernel_rfl) (by kernel_rfl) (by kernel_rfl) (by kernel_rfl)) (rvT (t := 5) (v := .int .i64 r35.2) S (by kernel_rfl))) ⟨(.agg #[.int .i64 r35.1.Num, .int .i64 r35.1.Den]), rfl, S.mem.sel [] [0] (by decide) (by kernel_rfl) (by kernel_rfl)⟩)))
              · refine sCondF (b := o21) S (by kernel_rfl) hc29 ?_
                refine wp_skip (leafT (hK20 _ _ ?_))
                refine sSeq (fun K38 hK38 => ?_)
                refine sRegion ?_
                refine sBuild [] [.int .i64 0, .int .i64 0] S (wN rfl) rfl (by kernel_rfl) (by kernel_rfl) rfl (by decide) (fun a S => ?_)
                refine sStore (p := b2) (off := 0) (T := 23) (vs := [.int .i64 0, .int .i64 0]) (v := .agg #[.int .i64 0, .int .i64 0]) 0 [.int .i64 0, .int .i64 0] S (wN rfl) rfl (by kernel_rfl) (by kernel_rfl) rfl (by kernel_rfl) (by kernel_rfl) rfl (by simp) rfl (fun a w S => ?_)
                refine sMove (.int .i64 16) S (wN rfl) (.inr rfl) (by kernel_rfl) rfl (by decide) (fun a S => ?_)
                refine leafL (leafT (hK38 _ _ ?_))
                obtain rfl := Option.some.inj h
                have S := S.learn (fRep r_api_Ratio (.agg #[.int .i64 0, .int .i64 0]) (api_Ratio.mk 0 0)) rfl
                exact wp_ret (rThen (sRet (.tuple #[.agg #[.int .i64 0, .int .i64 0], .int .i64 16]) S (rsl2 rfl (rvN (c := 4) (t := 23) (T := 23) (p := b2) 0 [.int .i64 0, .int .i64 0] S (by kernel_rfl) (by kernel_rfl) (by kernel_rfl) (by kernel_rfl)) (rvT (t := 5) (v := .int .i64 16) S (by kernel_rfl))) ⟨(.agg #[.int .i64 0, .int .i64 0]), rfl, S.mem.sel [] [0] (by decide) (by kernel_rfl) (by kernel_rfl)⟩))
          · refine sCondF (b := o15) S (by kernel_rfl) hc19 ?_
            refine wp_skip (leafT (hK14 _ _ ?_))
            obtain ⟨t41, h, g42⟩ := bindSome h
            refine sCut (fun a w => ∃ o39, ∃ o40, (o39, o40) = t41 ∧ St [] E [] w0 61 a w [(0, .int .i64 o39), (1, .int .i64 o40), (4, .pointer (some ⟨b2, 0, none⟩))] [eBox b2 23 [.int .i64 0, .int .i64 0]] []) ?_ (fun a w hI => ?_)
            · refine sSeq (fun K43 hK43 => ?_)
              refine sRegion ?_
              refine sMove (.int .i64 p1) S (wN rfl) (.inl rfl) (by kernel_rfl) rfl (by decide) (fun a S => ?_)
              refine sBin (.bool (decide (p1 < 0))) S (wN rfl) rfl (by kernel_rfl) (by kernel_rfl) (bLt _ _ _ _ .i64 p1 0) rfl (by decide) (fun a S => ?_)
              refine leafL (leafT (hK43 _ _ ?_))
              rcases iteSome h with ⟨hc44, h⟩ | ⟨hc44, h⟩
              · refine sCondT (b := decide (p1 < 0)) S (by kernel_rfl) hc44 ?_
                refine sRegion ?_
                refine sMove (.int .i64 p0) S (wN rfl) (.inl rfl) (by kernel_rfl) rfl (by decide) (fun a S => ?_)
                refine sNeg (b := p0) S (wN rfl) rfl (by kernel_rfl) rfl (by decide) (fun a S => ?_)
                refine sMove (.int .i64 p1) S (wN rfl) (.inl rfl) (by kernel_rfl) rfl (by decide) (fun a S => ?_)
                refine sNeg (b := p1) S (wN rfl) rfl (by kernel_rfl) rfl (by decide) (fun a S => ?_)
                refine sMove (.int .i64 (w64 (0 - p0))) S (wN rfl) (.inr rfl) (by kernel_rfl) rfl (by decide) (fun a S => ?_)
                refine sMove (.int .i64 (w64 (0 - p1))) S (wN rfl) (.inr rfl) (by kernel_rfl) rfl (by decide) (fun a S => ?_)
                exact leafL (leafT (⟨w64 (0 - p0), w64 (0 - p1), Option.some.inj h, S.fix [0] [] (by decide) (by kernel_rfl) (by kernel_rfl) (by kernel_rfl)⟩))
              · refine sCondF (b := decide (p1 < 0)) S (by kernel_rfl) hc44 ?_
                exact wp_skip (leafT (⟨p0, p1, Option.some.inj h, S.fix [0] [] (by decide) (by kernel_rfl) (by kernel_rfl) (by kernel_rfl)⟩))
            · obtain ⟨o39, o40, rfl, S⟩ := hI
              have h := g42
              clear g42
              try dsimp only at h
              refine sSeq (fun K45 hK45 => ?_)
              refine sRegion ?_
              refine sMove (.int .i64 o39) S (wN rfl) (.inl rfl) (by kernel_rfl) rfl (by decide) (fun a S => ?_)
              refine sMove (.int .i64 o40) S (wN rfl) (.inl rfl) (by kernel_rfl) rfl (by decide) (fun a S => ?_)
              obtain ⟨r46, hx47, h⟩ := bindSome h
              have S1 := S.mem
              refine sCallQ (X := Unit) (f := 39) (vs := [.int .i64 o39, .int .i64 o40]) (val := fun _ => .int .i64 r46) S (wN rfl) rfl callee39 (by kernel_rfl) (S1.quiet [] (by kernel_rfl)) (fun E1 w1 S1 => c_raddleref23_common E1 w1 o39 o40 r46 hx47 S1) rfl (by decide) (fun _ a w S => ?_)
              refine sMove (.int .i64 r46) S (wN rfl) (.inr rfl) (by kernel_rfl) rfl (by decide) (fun a S => ?_)
              refine leafL (leafT (hK45 _ _ ?_))
              refine sSeq (fun K48 hK48 => ?_)
              obtain ⟨z49, hx50, h⟩ := bindSome h
              obtain ⟨z51, hx52, h⟩ := bindSome h
              refine sDraw (nf := [7, 8]) (W := [(0, 49, .int .i64 o39), (1, 50, .int .i64 r46), (2, 51, .int .i64 z49), (3, 52, .int .i64 o40), (4, 53, .int .i64 r46), (5, 54, .int .i64 z51), (6, 55, .agg #[.int .i64 z49, .int .i64 z51])]) (by kernel_rfl) S ?_
              refine node_by (A := anc_raddleref23_Make_0) (nf := [7, 8]) (Y := []) (W := [(0, 49, .int .i64 o39), (1, 50, .int .i64 r46), (2, 51, .int .i64 z49), (3, 52, .int .i64 o40), (4, 53, .int .i64 r46), (5, 54, .int .i64 z51), (6, 55, .agg #[.int .i64 z49, .int .i64 z51])]) 9 (by kernel_rfl) (by kernel_rfl) (by kernel_rfl) (by kernel_rfl) (by kernel_rfl) [0, 1, 2, 3, 4, 5, 6] (by kernel_rfl) (by decide) (by decide) (aF 0 8 (by decide) ?_ (aF 1 7 (by decide) ?_ (aF 2 6 (by decide) ?_ (aF 3 5 (by decide) ?_ (aF 4 4 (by decide) ?_ (aF 5 3 (by decide) ?_ (aF 6 2 (by decide) ?_ (aN 7 1 (by decide) ?_ (aB 8 0 7 (by decide) (trivial)))))))))) [] (fun q hq => by cases hq) (fun hY => absurd (hY 7 (by decide)) (by decide))
              · refine fI 49 (.int .i64 o39) [(0, .int .i64 o39)] 0 [none] rfl rfl (by kernel_rfl) rfl (by kernel_rfl) (by kernel_rfl) fun G a w S => ?_
                refine sMove (.int .i64 o39) S (wN rfl) (.inl rfl) (by kernel_rfl) rfl (by decide) (fun a S => ?_)
                exact leafL ⟨rfl, S⟩
              · refine fI 50 (.int .i64 r46) [(6, .int .i64 r46)] 1 [none] rfl rfl (by kernel_rfl) rfl (by kernel_rfl) (by kernel_rfl) fun G a w S => ?_
                refine sMove (.int .i64 r46) S (wN rfl) (.inl rfl) (by kernel_rfl) rfl (by decide) (fun a S => ?_)
                exact leafL ⟨rfl, S⟩
              · refine fI 51 (.int .i64 z49) [(49, .int .i64 o39), (50, .int .i64 r46)] 2 [some 0, some 1] rfl rfl (by kernel_rfl) rfl (by kernel_rfl) (by kernel_rfl) fun G a w S => ?_
                refine sBin (.int .i64 z49) S (wN rfl) rfl (by kernel_rfl) (by kernel_rfl) (bQuo _ _ _ _ (x := o39) (y := r46) hx50) rfl (by decide) (fun a S => ?_)
                exact leafL ⟨rfl, S⟩
              · refine fI 52 (.int .i64 o40) [(1, .int .i64 o40)] 3 [none] rfl rfl (by kernel_rfl) rfl (by kernel_rfl) (by kernel_rfl) fun G a w S => ?_
                refine sMove (.int .i64 o40) S (wN rfl) (.inl rfl) (by kernel_rfl) rfl (by decide) (fun a S => ?_)
                exact leafL ⟨rfl, S⟩
              · refine fI 53 (.int .i64 r46) [(6, .int .i64 r46)] 4 [none] rfl rfl (by kernel_rfl) rfl (by kernel_rfl) (by kernel_rfl) fun G a w S => ?_
                refine sMove (.int .i64 r46) S (wN rfl) (.inl rfl) (by kernel_rfl) rfl (by decide) (fun a S => ?_)
                exact leafL ⟨rfl, S⟩
              · refine fI 54 (.int .i64 z51) [(52, .int .i64 o40), (53, .int .i64 r46)] 5 [some 3, some 4] rfl rfl (by kernel_rfl) rfl (by kernel_rfl) (by kernel_rfl) fun G a w S => ?_
                refine sBin (.int .i64 z51) S (wN rfl) rfl (by kernel_rfl) (by kernel_rfl) (bQuo _ _ _ _ (x := o40) (y := r46) hx52) rfl (by decide) (fun a S => ?_)
                exact leafL ⟨rfl, S⟩
              · refine fI 55 (.agg #[.int .i64 z49, .int .i64 z51]) [(51, .int .i64 z49), (54, .int .i64 z51)] 6 [some 2, some 5] rfl rfl (by kernel_rfl) rfl (by kernel_rfl) (by kernel_rfl) fun G a w S => ?_
                refine sBuild [(0, .int .i64 z49), (1, .int .i64 z51)] [.int .i64 z49, .int .i64 z51] S (wN rfl) rfl (by kernel_rfl) (by kernel_rfl) rfl (by decide) (fun a S => ?_)
                exact leafL ⟨rfl, S⟩
              · refine ⟨_, [], rfl, (srcs_of [] rfl (by kernel_rfl) (by kernel_rfl)), fun G a w S => ?_⟩
                refine sAlloc (.agg #[.int .i64 0, .int .i64 0]) S (wN rfl) rfl (by kernel_rfl) [.int .i64 0, .int .i64 0] rfl rfl (by decide) (fun a b54 w S => ?_)
                refine leafL ⟨rfl, _, _, .inl ⟨7, (.pointer (some ⟨b54, 0, none⟩)), [], rfl, S, hz_of (by kernel_rfl), ?_⟩⟩
                refine node_by (A := anc_raddleref23_Make_0) (nf := [7, 8]) (Y := [7]) 9 (by kernel_rfl) (by kernel_rfl) (by kernel_rfl) (by kernel_rfl) (by kernel_rfl) [7, 0, 1, 2, 3, 4, 5, 6] (by kernel_rfl) (by decide) (by decide) (aF 0 8 (by decide) ?_ (aF 1 7 (by decide) ?_ (aF 2 6 (by decide) ?_ (aF 3 5 (by decide) ?_ (aF 4 4 (by decide) ?_ (aF 5 3 (by decide) ?_ (aF 6 2 (by decide) ?_ (aY 7 1 (by decide) (aN 8 0 (by decide) ?_ (trivial)))))))))) [] (fun q hq => by cases hq) (fun hY => absurd (hY 8 (by decide)) (by decide))
                · refine fI 49 (.int .i64 o39) [(0, .int .i64 o39)] 1 [none] rfl rfl (by kernel_rfl) rfl (by kernel_rfl) (by kernel_rfl) fun G a w S => ?_
                  refine sMove (.int .i64 o39) S (wN rfl) (.inl rfl) (by kernel_rfl) rfl (by decide) (fun a S => ?_)
                  exact leafL ⟨rfl, S⟩
                · refine fI 50 (.int .i64 r46) [(6, .int .i64 r46)] 2 [none] rfl rfl (by kernel_rfl) rfl (by kernel_rfl) (by kernel_rfl) fun G a w S => ?_
                  refine sMove (.int .i64 r46) S (wN rfl) (.inl rfl) (by kernel_rfl) rfl (by decide) (fun a S => ?_)
                  exact leafL ⟨rfl, S⟩
                · refine fI 51 (.int .i64 z49) [(49, .int .i64 o39), (50, .int .i64 r46)] 3 [some 1, some 2] rfl rfl (by kernel_rfl) rfl (by kernel_rfl) (by kernel_rfl) fun G a w S => ?_
                  refine sBin (.int .i64 z49) S (wN rfl) rfl (by kernel_rfl) (by kernel_rfl) (bQuo _ _ _ _ (x := o39) (y := r46) hx50) rfl (by decide) (fun a S => ?_)
                  exact leafL ⟨rfl, S⟩
                · refine fI 52 (.int .i64 o40) [(1, .int .i64 o40)] 4 [none] rfl rfl (by kernel_rfl) rfl (by kernel_rfl) (by kernel_rfl) fun G a w S => ?_
                  refine sMove (.int .i64 o40) S (wN rfl) (.inl rfl) (by kernel_rfl) rfl (by decide) (fun a S => ?_)
                  exact leafL ⟨rfl, S⟩
                · refine fI 53 (.int .i64 r46) [(6, .int .i64 r46)] 5 [none] rfl rfl (by kernel_rfl) rfl (by kernel_rfl) (by kernel_rfl) fun G a w S => ?_
                  refine sMove (.int .i64 r46) S (wN rfl) (.inl rfl) (by kernel_rfl) rfl (by decide) (fun a S => ?_)
                  exact leafL ⟨rfl, S⟩
                · refine fI 54 (.int .i64 z51) [(52, .int .i64 o40), (53, .int .i64 r46)] 6 [some 4, some 5] rfl rfl (by kernel_rfl) rfl (by kernel_rfl) (by kernel_rfl) fun G a w S => ?_
                  refine sBin (.int .i64 z51) S (wN rfl) rfl (by kernel_rfl) (by kernel_rfl) (bQuo _ _ _ _ (x := o40) (y := r46) hx52) rfl (by decide) (fun a S => ?_)
                  exact leafL ⟨rfl, S⟩
                · refine fI 55 (.agg #[.int .i64 z49, .int .i64 z51]) [(51, .int .i64 z49), (54, .int .i64 z51)] 7 [some 3, some 6] rfl rfl (by kernel_rfl) rfl (by kernel_rfl) (by kernel_rfl) fun G a w S => ?_
                  refine sBuild [(0, .int .i64 z49), (1, .int .i64 z51)] [.int .i64 z49, .int .i64 z51] S (wN rfl) rfl (by kernel_rfl) (by kernel_rfl) rfl (by decide) (fun a S => ?_)
                  exact leafL ⟨rfl, S⟩
                · refine ⟨_, [(7, .pointer (some ⟨b54, 0, none⟩)), (55, .agg #[.int .i64 z49, .int .i64 z51])], rfl, (srcs_of [some 0, some 7] rfl (by kernel_rfl) (by kernel_rfl)), fun G a w S => ?_⟩
                  refine sStore (p := b54) (off := 0) (T := 23) (vs := [.int .i64 0, .int .i64 0]) (v := .agg #[.int .i64 z49, .int .i64 z51]) 0 [.int .i64 z49, .int .i64 z51] S (wN rfl) rfl (by kernel_rfl) (by kernel_rfl) rfl (by kernel_rfl) (by kernel_rfl) rfl (by simp) rfl (fun a w S => ?_)
                  refine leafL ⟨rfl, _, _, .inr ⟨[], rfl, S, hz_of (by kernel_rfl), ?_⟩⟩
                  refine node_by (A := anc_raddleref23_Make_0) (nf := [7, 8]) (Y := [8, 7]) 9 (by kernel_rfl) (by kernel_rfl) (by kernel_rfl) (by kernel_rfl) (by kernel_rfl) [7, 0, 1, 2, 3, 4, 5, 6] (by kernel_rfl) (by decide) (by decide) (aD 0 8 8 (by decide) (aD 1 7 8 (by decide) (aD 2 6 8 (by decide) (aD 3 5 8 (by decide) (aD 4 4 8 (by decide) (aD 5 3 8 (by decide) (aD 6 2 8 (by decide) (aY 7 1 (by decide) (aY 8 0 (by decide) (trivial)))))))))) [(4, .pointer (some ⟨b2, 0, none⟩)), (7, .pointer (some ⟨b54, 0, none⟩))] (fin_of [none, some 0] rfl (by kernel_rfl) (by kernel_rfl)) (fun _ a w S => ?_)
                  · refine leafT (hK48 _ _ ?_)
                    refine sSeq (fun K55 hK55 => ?_)
                    refine sSeq (fun K56 hK56 => ?_)
                    refine sRegion ?_
                    refine sLoadN (p := b54) (off := 0) (T := 23) (vs := [.int .i64 z49, .int .i64 z51]) 0 [.int .i64 z49, .int .i64 z51] S (wN rfl) rfl (by kernel_rfl) (by kernel_rfl) (by kernel_rfl) (by kernel_rfl) rfl rfl (by decide) (fun a S => ?_)
                    obtain ⟨r57, hx58, h⟩ := bindSome h
                    have S1 := S.mem
                    have S1 := S1.learn (fRep r_api_Ratio (.agg #[.int .i64 z49, .int .i64 z51]) (api_Ratio.mk z49 z51)) rfl
                    refine sCallQ (X := Unit) (f := 9) (vs := [.agg #[.int .i64 z49, .int .i64 z51]]) (val := fun _ => .int .i64 r57) S (wN rfl) rfl callee9 (by kernel_rfl) (S1.quiet [0] (by kernel_rfl)) (fun E1 w1 S1 => c_raddleref23_Check E1 w1 (api_Ratio.mk z49 z51) (.agg #[.int .i64 z49, .int .i64 z51]) r57 hx58 S1) rfl (by decide) (fun _ a w S => ?_)
                    refine sBin (.bool (r57 != 0)) S (wN rfl) rfl (by kernel_rfl) (by kernel_rfl) (bNe _ _ _ _ .i64 r57 0) rfl (by decide) (fun a S => ?_)
                    refine leafL (leafT (hK56 _ _ ?_))
                    rcases iteSome h with ⟨hc59, h⟩ | ⟨hc59, h⟩
                    · refine sCondT (b := r57 != 0) S (by kernel_rfl) hc59 ?_
                      refine sSeq (fun K60 hK60 => ?_)
                      refine sRegion ?_
                      refine sBuild [] [.int .i64 0, .int .i64 0] S (wN rfl) rfl (by kernel_rfl) (by kernel_rfl) rfl (by decide) (fun a S => ?_)
                      refine sStore (p := b2) (off := 0) (T := 23) (vs := [.int .i64 0, .int .i64 0]) (v := .agg #[.int .i64 0, .int .i64 0]) 1 [.int .i64 0, .int .i64 0] S (wN rfl) rfl (by kernel_rfl) (by kernel_rfl) rfl (by kernel_rfl) (by kernel_rfl) rfl (by simp) rfl (fun a w S => ?_)
                      refine sMove (.int .i64 16) S (wN rfl) (.inr rfl) (by kernel_rfl) rfl (by decide) (fun a S => ?_)
                      refine leafL (leafT (hK60 _ _ ?_))
                      obtain rfl := Option.some.inj h
                      have S := S.learn (fRep r_api_Ratio (.agg #[.int .i64 0, .int .i64 0]) (api_Ratio.mk 0 0)) rfl
                      exact wp_ret (rThen (sRet (.tuple #[.agg #[.int .i64 0, .int .i64 0], .int .i64 16]) S (rsl2 rfl (rvN (c := 4) (t := 23) (T := 23) (p := b2) 0 [.int .i64 0, .int .i64 0] S (by kernel_rfl) (by kernel_rfl) (by kernel_rfl) (by kernel_rfl)) (rvT (t := 5) (v := .int .i64 16) S (by kernel_rfl))) ⟨(.agg #[.int .i64 0, .int .i64 0]), rfl, S.mem.sel [] [0] (by decide) (by kernel_rfl) (by kernel_rfl)⟩))
                    · refine sCondF (b := r57 != 0) S (by kernel_rfl) hc59 ?_
                      refine wp_skip (leafT (hK55 _ _ ?_))
                      refine sSeq (fun K61 hK61 => ?_)
                      refine sRegion ?_
                      refine sLoadN (p := b54) (off := 0) (T := 23) (vs := [.int .i64 z49, .int .i64 z51]) 0 [.int .i64 z49, .int .i64 z51] S (wN rfl) rfl (by kernel_rfl) (by kernel_rfl) (by kernel_rfl) (by kernel_rfl) rfl rfl (by decide) (fun a S => ?_)
                      refine sStore (p := b2) (off := 0) (T := 23) (vs := [.int .i64 0, .int .i64 0]) (v := .agg #[.int .i64 z49, .int .i64 z51]) 1 [.int .i64 z49, .int .i64 z51] S (wN rfl) rfl (by kernel_rfl) (by kernel_rfl) rfl (by kernel_rfl) (by kernel_rfl) rfl (by simp) rfl (fun a w S => ?_)
                      refine sMove (.int .i64 0) S (wN rfl) (.inr rfl) (by kernel_rfl) rfl (by decide) (fun a S => ?_)
                      refine leafL (leafT (hK61 _ _ ?_))
                      obtain rfl := Option.some.inj h
                      have S := S.learn (fRep r_api_Ratio (.agg #[.int .i64 z49, .int .i64 z51]) (api_Ratio.mk z49 z51)) rfl
                      exact wp_ret (sRet (.tuple #[.agg #[.int .i64 z49, .int .i64 z51], .int .i64 0]) S (rsl2 rfl (rvN (c := 4) (t := 23) (T := 23) (p := b2) 0 [.int .i64 z49, .int .i64 z51] S (by kernel_rfl) (by kernel_rfl) (by kernel_rfl) (by kernel_rfl)) (rvT (t := 5) (v := .int .i64 0) S (by kernel_rfl))) ⟨(.agg #[.int .i64 z49, .int .i64 z51]), rfl, S.mem.sel [] [0] (by decide) (by kernel_rfl) (by kernel_rfl)⟩)

end Go.Proofs.Ytdfjcpnflmgdoaa
namespace Go.Proofs.Ytdfjcpnflmgdoaa
open Go.RowKit
set_option linter.unusedVariables false

theorem gcd_loop {B : Int × Int → Option ((Int × Int) ⊕ Int)} (hB : ∀ a b : Int, B (a, b) = if (b != 0) = true then Option.bind (remI a b) fun z => some (.inl (b, z)) else some (.inr a)) (a b : Nat) : whileO B ((a : Int), (b : Int)) = some ((Nat.gcd a b : Nat) : Int) := by
  have key : ∃ t, whileO B ((a : Int), (b : Int)) = some t ∧ t = ((Nat.gcd a b : Nat) : Int) := by
    refine whileO_inv (fun s => ∃ x y : Nat, s = ((x : Int), (y : Int)) ∧ Nat.gcd x y = Nat.gcd a b) (fun s => s.2.toNat) _ ⟨a, b, rfl, rfl⟩ ?_
    rintro s ⟨x, y, rfl, hg⟩
    rw [hB]
    by_cases hy : y = 0
    · subst hy
      refine .inr ⟨(x : Int), by simp, ?_⟩
      rw [← hg, Nat.gcd_zero_right]
    · have h1 : ((y : Int) != 0) = true := nT (by omega)
      have h2 : remI (x : Int) (y : Int) = some ((x % y : Nat) : Int) := by
        unfold remI
        rw [if_neg (by omega)]
        rfl
      refine .inl ⟨((y : Int), ((x % y : Nat) : Int)), by rw [if_pos h1, h2]; rfl, ⟨y, x % y, rfl, ?_⟩, ?_⟩
      · rw [← hg, Nat.gcd_comm x y, Nat.gcd_rec y x, Nat.gcd_comm]
      · have := Nat.mod_lt x (Nat.pos_of_ne_zero hy)
        show ((x % y : Nat) : Int).toNat < ((y : Nat) : Int).toNat
        omega
  obtain ⟨t, h1, rfl⟩ := key
  exact h1
theorem ygcd_eq (a b : Nat) : F_yarn_gcd (a : Int) (b : Int) = some ((Nat.gcd a b : Nat) : Int) := by
  unfold F_yarn_gcd
  rw [gcd_loop (fun a b => rfl)]
  rfl
theorem common_eq (a b : Nat) : F_raddleref23_common (a : Int) (b : Int) = some ((Nat.gcd a b : Nat) : Int) := by
  unfold F_raddleref23_common
  rw [gcd_loop (fun a b => rfl)]
  simp only [Option.bind_some]
  have : decide (((Nat.gcd a b : Nat) : Int) < 0) = false := dF (by omega)
  simp only [this, Bool.false_eq_true, if_false]
theorem u64_of {x : Int} (h0 : 0 ≤ x) (h1 : x ≤ 18446744073709551615) : IntKind.u64.wrap x = x := by
  unfold IntKind.wrap
  simp [IntKind.bits, IntKind.signed]
  omega
theorem i64_of {x : Int} (h0 : -9223372036854775808 ≤ x) (h1 : x ≤ 9223372036854775807) : IntKind.i64.wrap x = x := w64_of h0 h1
theorem size_eq (a : Nat) (h : a ≤ 9223372036854775807) : F_yarn_size (a : Int) = some (a : Int) := by
  unfold F_yarn_size
  have : decide ((a : Int) < 0) = false := dF (by omega)
  simp only [this, Bool.false_eq_true, if_false, u64_of (show (0 : Int) ≤ a by omega) (by omega)]
/-- the ratio of two numbers that are not negative -/
def mk (a b : Nat) : api_Ratio × Int := if a / Nat.gcd a b ≤ 1000000000 ∧ b / Nat.gcd a b ≤ 1000000000 then (⟨((a / Nat.gcd a b : Nat) : Int), ((b / Nat.gcd a b : Nat) : Int)⟩, 0) else (⟨0, 0⟩, 16)
theorem quo_nat {a g : Nat} (hg : 0 < g) (ha : a ≤ 9223372036854775807) : quoI (a : Int) (g : Int) = some ((a / g : Nat) : Int) := by
  unfold quoI
  rw [if_neg (by omega)]
  have h1 : a / g ≤ a := Nat.div_le_self _ _
  have : ((a : Int).tdiv (g : Int)) = ((a / g : Nat) : Int) := rfl
  have hq : w64 ((a / g : Nat) : Int) = ((a / g : Nat) : Int) := by
    generalize a / g = q at *
    exact w64_of (by omega) (by omega)
  rw [this, hq]
theorem quoK_nat {a g : Nat} (hg : 0 < g) (ha : a ≤ 9223372036854775807) : quoK .u64 (a : Int) (g : Int) = some ((a / g : Nat) : Int) := by
  unfold quoK
  rw [if_neg (by omega)]
  have h1 : a / g ≤ a := Nat.div_le_self _ _
  have : ((a : Int).tdiv (g : Int)) = ((a / g : Nat) : Int) := rfl
  have hq : IntKind.u64.wrap ((a / g : Nat) : Int) = ((a / g : Nat) : Int) := by
    generalize a / g = q at *
    exact u64_of (by omega) (by omega)
  rw [this, hq]
theorem ymake_eq (a b : Nat) (ha : a ≤ 9223372036854775807) (hb : b ≤ 9223372036854775807) (hb0 : 0 < b) : F_yarn_Make (a : Int) (b : Int) = some (mk a b) := by
  have hg : 0 < Nat.gcd a b := Nat.gcd_pos_of_pos_right a hb0
  unfold F_yarn_Make mk
  simp only [bF (show ¬ (b : Int) = 0 by omega), Bool.false_eq_true, if_false, size_eq a ha, size_eq b hb, ygcd_eq, Option.bind_some, quoK_nat hg ha, quoK_nat hg hb, dF (show ¬ (a : Int) < 0 by omega), dF (show ¬ (b : Int) < 0 by omega), bne_self_eq_false]
  have h1 : a / Nat.gcd a b ≤ a := Nat.div_le_self _ _
  have h2 : b / Nat.gcd a b ≤ b := Nat.div_le_self _ _
  generalize a / Nat.gcd a b = x at *
  generalize b / Nat.gcd a b = y at *
  by_cases e1 : x ≤ 1000000000
  · by_cases e2 : y ≤ 1000000000
    · simp only [dF (show ¬ (1000000000 : Int) < x by omega), dF (show ¬ (1000000000 : Int) < y by omega), Bool.false_eq_true, if_false, Option.bind_some, i64_of (show (-9223372036854775808 : Int) ≤ x by omega) (by omega), i64_of (show (-9223372036854775808 : Int) ≤ y by omega) (by omega), e1, e2, and_self, if_true]
    · simp only [dF (show ¬ (1000000000 : Int) < x by omega), dT (show (1000000000 : Int) < y by omega), Bool.false_eq_true, if_false, if_true, Option.bind_some, e1, e2, and_false]
  · simp only [dT (show (1000000000 : Int) < x by omega), if_true, Option.bind_some, e1, false_and, if_false]
theorem rcheck_eq (x y : Nat) : F_raddleref23_Check ⟨(x : Int), (y : Int)⟩ = some (if 1 ≤ y ∧ y ≤ 1000000000 ∧ x ≤ 1000000000 ∧ Nat.gcd x y = 1 then 0 else 8) := by
  unfold F_raddleref23_Check
  simp only [common_eq, Option.bind_some]
  by_cases e1 : 1 ≤ y
  case neg => simp only [dT (show (y : Int) < 1 by omega), if_true, Option.bind_some, e1, false_and, if_false]
  by_cases e2 : y ≤ 1000000000
  case neg => simp only [dF (show ¬ (y : Int) < 1 by omega), dT (show (1000000000 : Int) < y by omega), Bool.false_eq_true, if_true, if_false, Option.bind_some, e2, false_and, and_false]
  by_cases e3 : x ≤ 1000000000
  case neg => simp only [dF (show ¬ (y : Int) < 1 by omega), dF (show ¬ (1000000000 : Int) < y by omega), dF (show ¬ (x : Int) < -1000000000 by omega), dT (show (1000000000 : Int) < x by omega), Bool.false_eq_true, if_true, if_false, Option.bind_some, e3, false_and, and_false]
  by_cases e4 : Nat.gcd x y = 1
  · simp only [dF (show ¬ (y : Int) < 1 by omega), dF (show ¬ (1000000000 : Int) < y by omega), dF (show ¬ (x : Int) < -1000000000 by omega), dF (show ¬ (1000000000 : Int) < x by omega), e4, show (((1 : Nat) : Int) != 1) = false from rfl, Bool.false_eq_true, if_true, if_false, Option.bind_some, e1, e2, e3, and_self]
  · simp only [dF (show ¬ (y : Int) < 1 by omega), dF (show ¬ (1000000000 : Int) < y by omega), dF (show ¬ (x : Int) < -1000000000 by omega), dF (show ¬ (1000000000 : Int) < x by omega), nT (show ¬ ((Nat.gcd x y : Nat) : Int) = 1 by omega), Bool.false_eq_true, if_true, if_false, Option.bind_some, e4, and_false]
theorem rmake_eq (a b : Nat) (ha : a ≤ 9223372036854775807) (hb : b ≤ 9223372036854775807) (hb0 : 0 < b) : F_raddleref23_Make (a : Int) (b : Int) = some (mk a b) := by
  have hg : 0 < Nat.gcd a b := Nat.gcd_pos_of_pos_right a hb0
  have h3 : Nat.gcd (a / Nat.gcd a b) (b / Nat.gcd a b) = 1 := Nat.gcd_div_gcd_div_gcd_of_pos_right hb0
  have h4 : 1 ≤ b / Nat.gcd a b := (Nat.le_div_iff_mul_le hg).2 (by rw [Nat.one_mul]; exact Nat.gcd_le_right a hb0)
  unfold F_raddleref23_Make mk
  simp only [bF (show ¬ (b : Int) = 0 by omega), bF (show ¬ (a : Int) = -9223372036854775808 by omega), bF (show ¬ (b : Int) = -9223372036854775808 by omega), dF (show ¬ (b : Int) < 0 by omega), Bool.false_eq_true, if_false, Option.bind_some, common_eq, quo_nat hg ha, quo_nat hg hb, rcheck_eq, h3, h4, and_true, true_and]
  generalize a / Nat.gcd a b = x at *
  generalize b / Nat.gcd a b = y at *
  by_cases e1 : x ≤ 1000000000
  · by_cases e2 : y ≤ 1000000000
    · simp only [e1, e2, and_self, if_true, bne_self_eq_false, Bool.false_eq_true, if_false]
    · simp only [e1, e2, and_true, false_and, and_false, if_false, nT (show ¬ (8 : Int) = 0 by omega), if_true]
  · simp only [e1, false_and, and_false, if_false, nT (show ¬ (8 : Int) = 0 by omega), if_true]

end Go.Proofs.Ytdfjcpnflmgdoaa
