/- Several texts in one: GTy SpO GOp PlA PlB PlLp PlMo G12 G13 G45 G46 G14 G80 G47 G48 G15 G49 G60 G61 G62 G33 G63 G65s0 G64s0 G34 -/
import Derived.WalkKit
import Derived.Maps.AppendAt
import Derived.Deep.AppendLies
import Derived.KernelRfl
import Derived.Laws.OwnMore
import Derived.Great.BuildSlice
import Derived.Orders
import Derived.Laws.StructEq
import Derived.ChangeKeysEq
import Derived.Defers
import Derived.Laws.BytesString
import Derived.RangeFuncNested
import Derived.RangeFuncBound
import Derived.RangeFuncCalls
import Derived.RangeFuncLeaves
import Derived.OrdersIn
import Derived.LoopNIn
import Derived.ArgAppend
import Derived.Test.YtffikfajljbmnaaProg
import Derived.ProofKit
import Derived.OpenShut
import Derived.ChangeOld
import Derived.Deep.Slices
import Derived.Lib.SmallJoins
import Derived.JoinedOf
import Derived.JoinedAt
import Derived.Below
import Derived.Test.YtffikfajljbmnaaRows
import Derived.Test.YtffikfajljbmnaaMCompareGrids1
namespace Go.Proofs.Ytffikfajljbmnaa
open Go.RowKit
set_option linter.unusedVariables false

structure api_Grid where
  W : Int
  H : Int
  Bits : (List Bool)
def r_api_Grid : R api_Grid where
  sz := 3
  rep := fun E w v x => ∃ v0, v = .agg #[.int .i64 x.W, .int .i64 x.H, v0] ∧ (rL rB).rep E w v0 x.Bits
  pos := by decide
  size := by rintro _ _ _ _ ⟨v0, rfl, h0⟩; rfl
  one := by
    rintro _ _ _ _ ⟨v0, rfl, h0⟩ u hu
    simp [Value.cells] at hu
    rcases hu with rfl | rfl | rfl
    · rfl
    · rfl
    · exact (rL rB).one h0 _ (by rw [scal_L _ _ _ _ _ h0]; simp)
  mono := by
    rintro _ _ _ _ _ _ h ⟨v0, e, h0⟩
    exact ⟨v0, e, (rL rB).mono h h0⟩
theorem aggr_api_Grid : Aggr r_api_Grid := by rintro _ _ _ _ ⟨v0, rfl, h0⟩; exact ⟨_, rfl⟩
theorem comp_api_Grid_W : Comp r_api_Grid (rI .i64) 0 (·.W) := by
  rintro _ _ _ x ⟨v0, rfl, h0⟩
  refine ⟨.int .i64 x.W, rfl, fun j c hj => ?_⟩
  match j, hj with
  | 0, hj => exact hj
  | j + 1, hj => exact absurd (List.getElem?_eq_some_iff.1 hj).1 (by simp [Value.cells])
theorem comp_api_Grid_H : Comp r_api_Grid (rI .i64) 1 (·.H) := by
  rintro _ _ _ x ⟨v0, rfl, h0⟩
  refine ⟨.int .i64 x.H, rfl, fun j c hj => ?_⟩
  match j, hj with
  | 0, hj => exact hj
  | j + 1, hj => exact absurd (List.getElem?_eq_some_iff.1 hj).1 (by simp [Value.cells])
theorem comp_api_Grid_Bits : Comp r_api_Grid (rL rB) 2 (·.Bits) := by
  rintro _ _ _ x ⟨v0, rfl, h0⟩
  refine ⟨v0, h0, fun j c hj => ?_⟩
  rw [scal_L _ _ _ _ _ h0] at hj
  match j, hj with
  | 0, hj => exact hj
  | j + 1, hj => exact absurd (List.getElem?_eq_some_iff.1 hj).1 (by simp)
structure api_Point where
  X : Int
  Y : Int
def r_api_Point : R api_Point where
  sz := 2
  rep := fun E w v x => v = .agg #[.int .i64 x.X, .int .i64 x.Y]
  pos := by decide
  size := by rintro _ _ _ _ rfl; rfl
  one := by
    rintro _ _ _ _ rfl u hu
    simp [Value.cells] at hu
    rcases hu with rfl | rfl
    · rfl
    · rfl
  mono := fun _ h => h
structure compare_way where
  op : Int
  at_ : api_Point
def r_compare_way : R compare_way where
  sz := 3
  rep := fun E w v x => v = .agg #[.int .i64 x.op, .int .i64 x.at_.X, .int .i64 x.at_.Y]
  pos := by decide
  size := by rintro _ _ _ _ rfl; rfl
  one := by
    rintro _ _ _ _ rfl u hu
    simp [Value.cells] at hu
    rcases hu with rfl | rfl | rfl
    · rfl
    · rfl
    · rfl
  mono := fun _ h => h
structure api_Stitch where
  Kind : Int
  Purl : Bool
  A : Int
  B : Int
structure api_Row where
  Back : Bool
  Cells : (List api_Stitch)
structure api_Chart where
  Start : Int
  Rows : (List api_Row)
structure chart_count where
  before : Int
  after : Int
  e : Int
structure stitch_form where
  letter : ByteArray
  a : (Int × Int)
  b : (Int × Int)
  sided : Bool
  uses : Int
  made : Int
structure api_CellStep where
  Kind : Int
  S : api_Stitch
theorem callee12 : ∀ vs w, (callFunc 12 vs).run Try.prog w = .ok (.enter 12 vs) w := callee Try.func12 rfl rfl
theorem callee13 : ∀ vs w, (callFunc 13 vs).run Try.prog w = .ok (.enter 13 vs) w := callee Try.func13 rfl rfl
theorem callee14 : ∀ vs w, (callFunc 14 vs).run Try.prog w = .ok (.enter 14 vs) w := callee Try.func14 rfl rfl
theorem callee15 : ∀ vs w, (callFunc 15 vs).run Try.prog w = .ok (.enter 15 vs) w := callee Try.func15 rfl rfl
theorem callee16 : ∀ vs w, (callFunc 16 vs).run Try.prog w = .ok (.enter 16 vs) w := callee Try.func16 rfl rfl
theorem callee17 : ∀ vs w, (callFunc 17 vs).run Try.prog w = .ok (.enter 17 vs) w := callee Try.func17 rfl rfl
theorem callee18 : ∀ vs w, (callFunc 18 vs).run Try.prog w = .ok (.enter 18 vs) w := callee Try.func18 rfl rfl
theorem callee32 : ∀ vs w, (callFunc 32 vs).run Try.prog w = .ok (.enter 32 vs) w := callee Try.func32 rfl rfl
theorem callee33 : ∀ vs w, (callFunc 33 vs).run Try.prog w = .ok (.enter 33 vs) w := callee Try.func33 rfl rfl
theorem callee34 : ∀ vs w, (callFunc 34 vs).run Try.prog w = .ok (.enter 34 vs) w := callee Try.func34 rfl rfl
theorem callee35 : ∀ vs w, (callFunc 35 vs).run Try.prog w = .ok (.enter 35 vs) w := callee Try.func35 rfl rfl
theorem callee36 : ∀ vs w, (callFunc 36 vs).run Try.prog w = .ok (.enter 36 vs) w := callee Try.func36 rfl rfl
theorem callee37 : ∀ vs w, (callFunc 37 vs).run Try.prog w = .ok (.enter 37 vs) w := callee Try.func37 rfl rfl
theorem callee45 : ∀ vs w, (callFunc 45 vs).run Try.prog w = .ok (.enter 45 vs) w := callee Try.func45 rfl rfl
theorem callee46 : ∀ vs w, (callFunc 46 vs).run Try.prog w = .ok (.enter 46 vs) w := callee Try.func46 rfl rfl
theorem callee47 : ∀ vs w, (callFunc 47 vs).run Try.prog w = .ok (.enter 47 vs) w := callee Try.func47 rfl rfl
theorem callee48 : ∀ vs w, (callFunc 48 vs).run Try.prog w = .ok (.enter 48 vs) w := callee Try.func48 rfl rfl
theorem callee49 : ∀ vs w, (callFunc 49 vs).run Try.prog w = .ok (.enter 49 vs) w := callee Try.func49 rfl rfl
theorem callee60 : ∀ vs w, (callFunc 60 vs).run Try.prog w = .ok (.enter 60 vs) w := callee Try.func60 rfl rfl
theorem callee61 : ∀ vs w, (callFunc 61 vs).run Try.prog w = .ok (.enter 61 vs) w := callee Try.func61 rfl rfl
theorem callee62 : ∀ vs w, (callFunc 62 vs).run Try.prog w = .ok (.enter 62 vs) w := callee Try.func62 rfl rfl
theorem callee63 : ∀ vs w, (callFunc 63 vs).run Try.prog w = .ok (.enter 63 vs) w := callee Try.func63 rfl rfl
theorem callee64 : ∀ vs w, (callFunc 64 vs).run Try.prog w = .ok (.enter 64 vs) w := callee Try.func64 rfl rfl
theorem callee65 : ∀ vs w, (callFunc 65 vs).run Try.prog w = .ok (.enter 65 vs) w := callee Try.func65 rfl rfl
theorem callee66 : ∀ vs w, (callFunc 66 vs).run Try.prog w = .ok (.enter 66 vs) w := callee Try.func66 rfl rfl
theorem callee67 : ∀ vs w, (callFunc 67 vs).run Try.prog w = .ok (.enter 67 vs) w := callee Try.func67 rfl rfl
theorem callee68 : ∀ vs w, (callFunc 68 vs).run Try.prog w = .ok (.enter 68 vs) w := callee Try.func68 rfl rfl
theorem callee69 : ∀ vs w, (callFunc 69 vs).run Try.prog w = .ok (.enter 69 vs) w := callee Try.func69 rfl rfl
theorem callee70 : ∀ vs w, (callFunc 70 vs).run Try.prog w = .ok (.enter 70 vs) w := callee Try.func70 rfl rfl
theorem callee71 : ∀ vs w, (callFunc 71 vs).run Try.prog w = .ok (.enter 71 vs) w := callee Try.func71 rfl rfl
theorem callee72 : ∀ vs w, (callFunc 72 vs).run Try.prog w = .ok (.enter 72 vs) w := callee Try.func72 rfl rfl
theorem callee80 : ∀ vs w, (callFunc 80 vs).run Try.prog w = .ok (.enter 80 vs) w := callee Try.func80 rfl rfl
theorem callee81 : ∀ vs w, (callFunc 81 vs).run Try.prog w = .ok (.enter 81 vs) w := callee Try.func81 rfl rfl
end Go.Proofs.Ytffikfajljbmnaa
namespace Go.Proofs.Ytffikfajljbmnaa
open Go.RowKit
set_option linter.unusedVariables false

open Go.ChangeShapes Go.WideShapes Go.ChangeAt Go.Joins
def InK (k : IntKind) (x : Int) : Prop := (Lit.int k x).wf = true
def Wl {α : Type} (p : α → Prop) (xs : List α) : Prop := xs.length ≤ 9223372036854775807 ∧ ∀ x, x ∈ xs → p x
/-- cells of a type read, well formed -/
def OpC {α : Type} (P : Program) (t : TypeId) (r : R α) (p : α → Prop) : Prop :=
  ∀ (H : Type) (enc : TypeId × Value → H) (w : World) (base : Nat) (spare : Nat → Bool) (held : Bool) (fuel : Nat) (cs : List Value) (x : DataW H × List MemPlace),
    DataW.trod enc P w base spare held fuel t cs = some x → ∃ v y, v.cells.toList = cs ∧ r.rep (fun _ => False) w v y ∧ p y
section
variable {P : Program}
theorem op_int {t : TypeId} (k : IntKind) (ht : P.underlying t = some (.int k)) : OpC P t (rI k) (InK k) := fun H enc w base spare held fuel cs x h => by
  obtain ⟨n, rfl, _, hw⟩ := DataW.trod_int ht h
  exact ⟨_, n, rfl, rfl, hw⟩
theorem op_bool {t : TypeId} (ht : P.underlying t = some .bool) : OpC P t rB (fun _ => True) := fun H enc w base spare held fuel cs x h => by
  obtain ⟨n, rfl, _⟩ := DataW.trod_bool ht h
  exact ⟨_, n, rfl, rfl, trivial⟩
theorem choose_list {α : Type} {n : Nat} {p : Nat → α → Prop} (h : ∀ i, i < n → ∃ x, p i x) : ∃ l : List α, l.length = n ∧ ∀ i x, l[i]? = some x → p i x := by
  induction n with
  | zero => exact ⟨[], rfl, fun i x hi => by simp at hi⟩
  | succ n ih =>
    obtain ⟨l, hl, hp⟩ := ih fun i hi => h i (by omega)
    obtain ⟨x, hx⟩ := h n (by omega)
    refine ⟨l ++ [x], by simp [hl], fun i y hi => ?_⟩
    by_cases e : i < l.length
    · rw [List.getElem?_append_left e] at hi; exact hp i y hi
    · rw [List.getElem?_append_right (by omega)] at hi
      have : i - l.length = 0 := by
        have := (List.getElem?_eq_some_iff.1 hi).1
        simp at this; omega
      rw [this] at hi
      simp at hi; subst hi
      have : i = n := by omega
      subst this; exact hx
theorem op_slice {α : Type} {t e : TypeId} {r : R α} {p : α → Prop} (ht : P.underlying t = some (.slice e)) (hc : P.cellsOf e = r.sz) (he : OpC P e r p) : OpC P t (rL r) (Wl p) := fun H enc w base spare held fuel cs x h => by
  rcases Go.Deep.open_slice ht h with ⟨rfl, _⟩ | ⟨a, len, cap, m, n, D, Pl, rfl, _, hl, hm, hmm, _, hx⟩
  · exact ⟨_, [], rfl, rL_nil _ _ _, by simp, fun x hx => by simp at hx⟩
  · have hlm : len ≤ m := by rw [hmm]; split <;> omega
    obtain ⟨b, off, spot⟩ := a
    have hcell : ∀ i, i < len → ∃ vy : Value × α, (∀ j, j < r.sz → w.cell? ((⟨b, off, spot⟩ : Addr).add (i * r.sz + j)) = vy.1.cells.toList[j]?) ∧ r.rep (fun _ => False) w vy.1 vy.2 ∧ p vy.2 := fun i hi => by
      obtain ⟨cs, h1, h2⟩ := hx i (by omega)
      obtain ⟨_, h3, h4⟩ := World.cells?_some h1
      obtain ⟨v, y, h5, h6, h7⟩ := he _ _ _ _ _ _ _ _ _ h2
      refine ⟨(v, y), fun j hj => ?_, h6, h7⟩
      have := h4 j (by rw [hc]; exact hj)
      rw [Addr.add_add, hc] at this
      rw [this, h5]
    obtain ⟨l, hll, hlp⟩ := choose_list hcell
    subst hll
    have hA : All r (fun _ => False) w (l.map (·.1)) (l.map (·.2)) := ⟨by simp, fun k v x hv hx => by
      rw [List.getElem?_map] at hv hx
      cases hk : l[k]? with
      | none => rw [hk] at hv; cases hv
      | some q => rw [hk] at hv hx; simp at hv hx; subst hv hx; exact (hlp k q hk).2.1⟩
    refine ⟨.slice (some ⟨b, off, spot⟩) l.length cap, l.map (·.2), rfl, ?_, by simp [maxLen] at hm ⊢; omega, fun x hx => ?_⟩
    · refine ⟨some ⟨b, off, spot⟩, cap, l.map (·.1), by simp, by simpa using hl, by simp [maxLen] at hm ⊢; omega, hA, fun k u hu => ?_⟩
      have hsz := fun v hv => (hA.cells v hv).1
      have hk := (List.getElem?_eq_some_iff.1 hu).1
      rw [flat_length hsz] at hk
      simp only [List.length_map] at hk
      have hi : k / r.sz < l.length := Nat.div_lt_of_lt_mul (by rw [Nat.mul_comm]; exact hk)
      have hj := Nat.mod_lt k r.pos
      have hq : l[k / r.sz]? = some l[k / r.sz] := List.getElem?_eq_getElem hi
      have h1 := (hlp _ _ hq).1 (k % r.sz) hj
      have h2 := flat_get hsz (k := k / r.sz) (v := l[k / r.sz].1) (by rw [List.getElem?_map, hq]; rfl) hj
      rw [Nat.mul_comm, Nat.div_add_mod] at h1 h2
      rw [hu] at h2
      rw [← h2] at h1
      have hspot : spot = none := by
        have h0 : 0 < l.length := Nat.lt_of_le_of_lt (Nat.zero_le _) hi
        have hq0 : l[0]? = some l[0] := List.getElem?_eq_getElem h0
        have h3 := (hlp 0 _ hq0).1 0 r.pos
        have hs0 := r.size (hlp 0 _ hq0).2.1
        rw [List.getElem?_eq_getElem (by rw [Array.length_toList, hs0]; exact r.pos)] at h3
        simpa [Addr.add] using World.cell?_spot h3
      subst hspot
      rw [add_addr] at h1
      exact ⟨b, off, rfl, not_false, World.block_lt_of_cell? w _ h1, h1⟩
    · obtain ⟨q, hq, rfl⟩ := List.mem_map.1 hx
      obtain ⟨k, hk, rfl⟩ := List.getElem_of_mem hq
      exact (hlp k _ (List.getElem?_eq_getElem hk)).2.2
theorem top_agg {α : Type} {H : Type} {enc : TypeId × Value → H} {w : World} {base b0 : Nat} {spare : Nat → Bool} {held : Bool} {rr : Reach} {v : Value} {d : DataW H} {p : List MemPlace} {t : TypeId} {fs : Array Field} {r : R α} {q : α → Prop} (ht : P.underlying t = some (.struct fs)) (hr : Aggr r) (ho : OpC P t r q)
    (hv : Value.okWide P w rr b0 t v) (h : DataW.Trod enc P w base spare held t v d p) : ∃ y, r.rep (fun _ => False) w v y ∧ q y := by
  obtain ⟨cs, rfl, hsz⟩ := okWide_struct ht hv
  obtain ⟨fuel, hf⟩ := h
  obtain ⟨v, y, h1, h2, h3⟩ := ho _ _ _ _ _ _ _ _ _ hf
  obtain ⟨ds, rfl⟩ := hr _ _ _ _ h2
  simp [Value.cells] at h1
  subst h1
  exact ⟨y, h2, h3⟩
theorem St0.start {w : World} {D : List Fact} (h : ∀ d, d ∈ D → d.p (fun _ => False) w) : St0 (fun _ => False) [] w w [] D := by
  have hE : tot (fun _ => False) [] = (fun _ => False) := by funext b; simp [tot, keysL]
  exact ⟨Chg.refl _ _, by simp, fun d hd => by rw [hE]; exact h d hd, by simp [keysL], by simp [keysL], fun _ h => h.elim⟩
theorem Chg.below {w w' : World} (h : Chg [] w w') : Below w.heap.size w w' := ⟨h.os, h.tape, h.output, h.size, fun k hk => h.block k hk (by simp)⟩
theorem len3 {α : Type} {l : List α} (h : l.length = 3) : ∃ a b c, l = [a, b, c] := by match l, h with | [a, b, c], _ => exact ⟨a, b, c, rfl⟩
end
theorem fld {α : Type} {x : Option α} {ys : List α} {i : Nat} (h : x = ys[i]?) (hi : i < ys.length) : ∃ z, x = some z := ⟨ys[i], by rw [h]; exact List.getElem?_eq_getElem hi⟩

end Go.Proofs.Ytffikfajljbmnaa
namespace Go.Proofs.Ytffikfajljbmnaa
open Go.RowKit
set_option linter.unusedVariables false

open Go.ChangeShapes Go.WideShapes Go.ChangeAt Go.Joins
def wf_api_Grid (x : api_Grid) : Prop := (InK .i64) x.W ∧ (InK .i64) x.H ∧ (Wl (fun _ => True)) x.Bits
theorem op_api_Grid : OpC Try.prog 24 r_api_Grid wf_api_Grid := fun H enc w base spare held fuel cs x h => by
  obtain ⟨ys, m, _, _, hl, hy, hf⟩ := DataW.trod_struct Try.underlying24 h
  obtain ⟨c0, c1, c2, rfl⟩ := len3 (hl.trans (by kernel_rfl))
  obtain ⟨z0, f0⟩ := fld (hf 0 _ rfl) (by rw [hy]; decide)
  obtain ⟨u0, y0, k0, r0, w0⟩ := (op_int .i64 Try.underlying3) _ _ _ _ _ _ _ _ _ f0
  replace k0 : u0.cells.toList = [c0] := k0.trans (by kernel_rfl)
  obtain rfl : u0 = .int .i64 y0 := r0
  obtain rfl : Value.int .i64 y0 = c0 := by simpa [Value.cells] using k0
  obtain ⟨z1, f1⟩ := fld (hf 1 _ rfl) (by rw [hy]; decide)
  obtain ⟨u1, y1, k1, r1, w1⟩ := (op_int .i64 Try.underlying3) _ _ _ _ _ _ _ _ _ f1
  replace k1 : u1.cells.toList = [c1] := k1.trans (by kernel_rfl)
  obtain rfl : u1 = .int .i64 y1 := r1
  obtain rfl : Value.int .i64 y1 = c1 := by simpa [Value.cells] using k1
  obtain ⟨z2, f2⟩ := fld (hf 2 _ rfl) (by rw [hy]; decide)
  obtain ⟨u2, y2, k2, r2, w2⟩ := (op_slice (r := rB) Try.underlying22 (by kernel_rfl) (op_bool Try.underlying4)) _ _ _ _ _ _ _ _ _ f2
  replace k2 : u2.cells.toList = [c2] := k2.trans (by kernel_rfl)
  rw [scal_L _ _ _ _ _ r2] at k2
  obtain rfl : u2 = c2 := by simpa using k2
  exact ⟨_, ⟨y0, y1, y2⟩, rfl, ⟨_, rfl, r2⟩, ⟨w0, w1, w2⟩⟩
end Go.Proofs.Ytffikfajljbmnaa
namespace Go.Proofs.Ytffikfajljbmnaa
open Go.RowKit
set_option linter.unusedVariables false

theorem w64_of {x : Int} (h0 : -9223372036854775808 ≤ x) (h1 : x ≤ 9223372036854775807) : w64 x = x := w64_id ⟨h0, h1⟩
theorem w64_succ {k : Nat} (h : k < 9223372036854775807) : w64 ((k : Int) + 1) = ((k + 1 : Nat) : Int) := by
  rw [w64_of (by omega) (by omega)]; omega
theorem idxO_nat {α : Type} {xs : List α} {k : Nat} (h : k < xs.length) : idxO xs (k : Int) = some xs[k] := by
  simp [idxO, h]
theorem idxO_of {α : Type} {xs : List α} {i : Int} {k : Nat} (hi : i = (k : Int)) (h : k < xs.length) : idxO xs i = some xs[k] := by subst hi; exact idxO_nat h
theorem setO_nat {α : Type} {xs : List α} {k : Nat} {y : α} (h : k < xs.length) : setO xs (k : Int) y = some (xs.set k y) := by
  simp [setO, h]
theorem appO_of {α : Type} {xs ys : List α} (h : xs.length + ys.length ≤ 68719476736) : appO xs ys = some (xs ++ ys) := by
  simp [appO, lim, h]
theorem capO_of {n : Int} {k : Nat} (h : n = (k : Int)) (hk : k ≤ 68719476736) : capO n = some () := by
  subst h; simp [capO, lim, hk]
theorem makeO_of {α : Type} {n : Int} {z : α} {k : Nat} (h : n = (k : Int)) (hk : k ≤ 68719476736) : makeO n z = some (List.replicate k z) := by
  subst h; simp [makeO, lim, hk]
end Go.Proofs.Ytffikfajljbmnaa
namespace Go.Proofs.Ytffikfajljbmnaa
open Go.RowKit
set_option linter.unusedVariables false

theorem map_cong {α : Type} {n : Nat} {f g : Nat → α} (h : ∀ k, k < n → f k = g k) : (List.range n).map f = (List.range n).map g :=
  List.map_congr_left fun k hk => h k (List.mem_range.1 hk)
theorem dT {p : Prop} [Decidable p] (h : p) : decide p = true := decide_eq_true h
theorem dF {p : Prop} [Decidable p] (h : ¬ p) : decide p = false := decide_eq_false h
theorem bT {a b : Int} (h : a = b) : (a == b) = true := by simp [h]
theorem bF {a b : Int} (h : ¬ a = b) : (a == b) = false := by simp [h]
theorem nT {a b : Int} (h : ¬ a = b) : (a != b) = true := by simp [h]
theorem nF {a b : Int} (h : a = b) : (a != b) = false := by simp [h]
/-- a loop whose index comes first in its state -/
theorem loop_ts {σ τ : Type} {B : Int × σ → Option ((Int × σ) ⊕ τ)} (n : Nat) (I : Nat → σ → Prop) (Pt : τ → Prop) {s0 : σ} (h0 : I 0 s0)
    (step : ∀ k s, k < n → I k s → (∃ s', B ((k : Int), s) = some (.inl (((k + 1 : Nat) : Int), s')) ∧ I (k + 1) s') ∨ (∃ t, B ((k : Int), s) = some (.inr t) ∧ Pt t))
    (last : ∀ s, I n s → ∃ t, B ((n : Int), s) = some (.inr t) ∧ Pt t) : ∃ t, whileO B (0, s0) = some t ∧ Pt t := by
  refine whileO_inv (fun s => ∃ k : Nat, k ≤ n ∧ s.1 = (k : Int) ∧ I k s.2) (fun s => ((n : Int) - s.1).toNat) Pt ⟨0, Nat.zero_le _, rfl, h0⟩ ?_
  rintro ⟨i, s⟩ ⟨k, hk, rfl, hI⟩
  by_cases hlt : k < n
  · rcases step k s hlt hI with ⟨s', h1, h2⟩ | h
    · exact .inl ⟨_, h1, ⟨k + 1, hlt, rfl, h2⟩, by simp; omega⟩
    · exact .inr h
  · obtain rfl : k = n := by omega
    exact .inr (last s hI)
/-- a row filled from its start on -/
def Fill {α : Type} (n : Nat) (f : Nat → α) (k : Nat) (s : List α) : Prop := s.length = n ∧ ∀ j, j < k → s[j]? = some (f j)
theorem Fill.zero {α : Type} (n : Nat) (f : Nat → α) (z : α) : Fill n f 0 (List.replicate n z) := ⟨by simp, fun j hj => absurd hj (Nat.not_lt_zero j)⟩
theorem Fill.set {α : Type} {n : Nat} {f : Nat → α} {k : Nat} {s : List α} (h : Fill n f k s) (hk : k < n) : Fill n f (k + 1) (s.set k (f k)) := by
  refine ⟨by simp [h.1], fun j hj => ?_⟩
  by_cases e : j = k
  · subst e; simp [h.1, hk]
  · rw [List.getElem?_set_ne (fun h => e h.symm)]; exact h.2 j (by omega)
theorem Fill.all {α : Type} {n : Nat} {f : Nat → α} {s : List α} (h : Fill n f n s) : s = (List.range n).map f := by
  apply List.ext_getElem?
  intro j
  by_cases hj : j < n
  · rw [h.2 j hj]; simp [hj]
  · rw [List.getElem?_eq_none (by rw [h.1]; omega), List.getElem?_eq_none (by simp; omega)]
theorem idxO_D {α : Type} {xs : List α} {k : Nat} (d : α) (h : k < xs.length) : idxO xs (k : Int) = some (xs.getD k d) := by
  rw [idxO_nat h]; simp [h]
theorem mul_bd {u v a b : Int} (u0 : 0 ≤ u) (u1 : u ≤ a) (v0 : 0 ≤ v) (v1 : v ≤ b) : 0 ≤ u * v ∧ u * v ≤ a * b :=
  ⟨Int.mul_nonneg u0 v0, Int.mul_le_mul u1 v1 v0 (by omega)⟩
end Go.Proofs.Ytffikfajljbmnaa
namespace Go.Proofs.Ytffikfajljbmnaa
open Go.RowKit
set_option linter.unusedVariables false

/-- a loop whose states are known -/
theorem loop_seq {S τ : Type} {B : S → Option (S ⊕ τ)} (c : Nat → S) (n : Nat) {t : τ} (h : ∀ k, k < n → B (c k) = some (.inl (c (k + 1)))) (hn : B (c n) = some (.inr t)) : whileO B (c 0) = some t := by
  have key : ∀ j k, j + k = n → whileO B (c k) = some t := by
    intro j
    induction j with
    | zero =>
      intro k hk
      obtain rfl : k = n := by omega
      exact whileO_done hn
    | succ j ih =>
      intro k hk
      rw [whileO_step (h k (by omega))]
      exact ih _ (by omega)
  exact key n 0 (by omega)
/-- a loop whose states are known, and that leaves where g fails -/
theorem loop_seqf {S τ : Type} {B : S → Option (S ⊕ τ)} (c : Nat → S) (n : Nat) (g : Nat → Bool) {bad t : τ} (h : ∀ k, k < n → (∀ j, j < k → g j = true) → B (c k) = some (if g k = true then .inl (c (k + 1)) else .inr bad)) (hn : (∀ j, j < n → g j = true) → B (c n) = some (.inr t)) :
    whileO B (c 0) = some (if (List.range n).all g = true then t else bad) := by
  have key : ∀ j k, j + k = n → (∀ i, i < k → g i = true) → whileO B (c k) = some (if (List.range n).all g = true then t else bad) := by
    intro j
    induction j with
    | zero =>
      intro k hk hI
      obtain rfl : k = n := by omega
      rw [whileO_done (hn hI), if_pos (List.all_eq_true.2 fun i hi => hI i (List.mem_range.1 hi))]
    | succ j ih =>
      intro k hk hI
      have hb := h k (by omega) hI
      cases hg : g k with
      | true =>
        rw [hg, if_pos rfl] at hb
        rw [whileO_step hb]
        refine ih _ (by omega) fun i hi => ?_
        by_cases e : i = k
        · rw [e]; exact hg
        · exact hI i (by omega)
      | false =>
        rw [hg, if_neg (by decide)] at hb
        rw [whileO_done hb, if_neg]
        intro ha
        have := List.all_eq_true.1 ha k (List.mem_range.2 (by omega))
        rw [hg] at this; cases this
  exact key n 0 (by omega) fun i hi => absurd hi (Nat.not_lt_zero i)
/-- two lists compared one by one -/
theorem loop_eql {α τ : Type} [DecidableEq α] {B : Int → Option (Int ⊕ τ)} (a b : List α) (hl : a.length = b.length) (good bad : τ)
    (h : ∀ k (hk : k < a.length), B (k : Int) = some (if a[k] = b[k]'(by omega) then .inl ((k + 1 : Nat) : Int) else .inr bad)) (hn : B (a.length : Int) = some (.inr good)) : whileO B 0 = some (if a = b then good else bad) := by
  have := loop_seqf (B := B) (fun k => (k : Int)) a.length (fun k => decide (a[k]? = b[k]?)) (bad := bad) (t := good) (fun k hk _ => by
    rw [h k hk]
    by_cases e : a[k] = b[k]'(by omega)
    · rw [if_pos e, if_pos]; exact decide_eq_true (by rw [List.getElem?_eq_getElem hk, List.getElem?_eq_getElem (by omega), e])
    · rw [if_neg e, if_neg]; intro hc; have := of_decide_eq_true hc; rw [List.getElem?_eq_getElem hk, List.getElem?_eq_getElem (by omega)] at this; exact e (Option.some.inj this)) (fun _ => hn)
  have h0 : (((0 : Nat) : Int)) = 0 := rfl
  rw [h0] at this
  rw [this]
  congr 1
  by_cases e : a = b
  · subst e; rw [if_pos rfl, if_pos]; simp
  · rw [if_neg e, if_neg]
    intro hc
    refine e (List.ext_getElem? fun j => ?_)
    by_cases hj : j < a.length
    · exact of_decide_eq_true (List.all_eq_true.1 hc j (List.mem_range.2 hj))
    · rw [List.getElem?_eq_none (by omega), List.getElem?_eq_none (by omega)]
theorem wmul {a b : Nat} (h : a * b ≤ 9223372036854775807) : w64 ((a : Int) * (b : Int)) = ((a * b : Nat) : Int) := by
  rw [← Int.natCast_mul]; exact w64_of (by omega) (by omega)
theorem wadd {a b : Nat} (h : a + b ≤ 9223372036854775807) : w64 ((a : Int) + (b : Int)) = ((a + b : Nat) : Int) := by
  rw [← Int.natCast_add]; exact w64_of (by omega) (by omega)
theorem rem_nat {a b : Nat} (h : 0 < b) : remI (a : Int) (b : Int) = some ((a % b : Nat) : Int) := by
  unfold remI; rw [if_neg (by omega)]; rfl
/-- a place in a row of rows -/
theorem pl_lt {w h x y : Nat} (hx : x < w) (hy : y < h) : y * w + x < w * h := by
  have := Nat.mul_le_mul_right w (show y + 1 ≤ h by omega)
  rw [Nat.add_mul, Nat.one_mul, Nat.mul_comm h w] at this
  omega
theorem pl_mod {w x y : Nat} (hx : x < w) : (y * w + x) % w = x := by rw [Nat.mul_comm, Nat.mul_add_mod, Nat.mod_eq_of_lt hx]
theorem pl_div {w x y : Nat} (hx : x < w) : (y * w + x) / w = y := by
  rw [Nat.mul_comm, Nat.mul_add_div (by omega), Nat.div_eq_of_lt hx, Nat.add_zero]
theorem pl_of (t w : Nat) : (t / w) * w + t % w = t := by rw [Nat.mul_comm]; exact Nat.div_add_mod t w
theorem pl_divlt {t w h : Nat} (ht : t < w * h) : t / w < h := Nat.div_lt_of_lt_mul ht
theorem pl_modlt {t w : Nat} (hw : 0 < w) : t % w < w := Nat.mod_lt _ hw
theorem pl_inj {w x y x' y' : Nat} (hx : x < w) (hx' : x' < w) (h : y * w + x = y' * w + x') : x = x' ∧ y = y' := by
  have h1 := pl_mod (y := y) hx
  have h2 := pl_div (y := y) hx
  rw [h] at h1 h2
  rw [pl_mod hx'] at h1
  rw [pl_div hx'] at h2
  exact ⟨h1.symm, h2.symm⟩
/-- n places, row by row -/
def glf {α : Type} (f : Nat → Nat → α) (w n : Nat) : List α := (List.range n).map fun t => f (t % w) (t / w)
def gl {α : Type} (f : Nat → Nat → α) (w h : Nat) : List α := glf f w (w * h)
theorem gl_len {α : Type} (f : Nat → Nat → α) (w h : Nat) : (gl f w h).length = w * h := by simp [gl, glf]
theorem glf_succ {α : Type} (f : Nat → Nat → α) (w n : Nat) : glf f w (n + 1) = glf f w n ++ [f (n % w) (n / w)] := by simp [glf, List.range_succ]
theorem gl_get {α : Type} (f : Nat → Nat → α) (w h : Nat) (d : α) (x y : Nat) (hx : x < w) (hy : y < h) : (gl f w h).getD (y * w + x) d = f x y := by
  have := pl_lt hx hy
  simp only [gl, glf, List.getD_eq_getElem?_getD, List.getElem?_map, List.getElem?_range this, Option.map_some, Option.getD_some, pl_mod hx, pl_div hx]
theorem gl_cong {α : Type} {f f' : Nat → Nat → α} {w h : Nat} (e : ∀ x y, x < w → y < h → f x y = f' x y) : gl f w h = gl f' w h := by
  unfold gl glf
  refine map_cong fun t ht => ?_
  have hw : 0 < w := by rcases Nat.eq_zero_or_pos w with h0 | h0; rw [h0, Nat.zero_mul] at ht; omega; exact h0
  exact e _ _ (pl_modlt hw) (pl_divlt ht)
theorem gl_of {α : Type} {s : List α} {f : Nat → Nat → α} {w h : Nat} (d : α) (hl : s.length = w * h) (hc : ∀ x y, x < w → y < h → s.getD (y * w + x) d = f x y) : s = gl f w h := by
  apply List.ext_getElem?
  intro t
  by_cases ht : t < w * h
  · have hw : 0 < w := by rcases Nat.eq_zero_or_pos w with h0 | h0; rw [h0, Nat.zero_mul] at ht; omega; exact h0
    have := hc _ _ (pl_modlt (t := t) hw) (pl_divlt ht)
    rw [pl_of] at this
    rw [List.getElem?_eq_getElem (by omega)]
    simp only [gl, glf, List.getElem?_map, List.getElem?_range ht, Option.map_some, ← this]
    simp [hl, ht]
  · rw [List.getElem?_eq_none (by omega), List.getElem?_eq_none (by rw [gl_len]; omega)]
/-- rows of rounds -/
theorem loop2 {S1 S2 τ1 : Type} {l1 : Nat → S1 → Option (S1 ⊕ τ1)} {τ2 : Type} {l2 : S2 → Option (S2 ⊕ τ2)} (c1 : Nat → Nat → S1) (c2 : Nat → S2) (e1 : Nat → τ1) (w h : Nat) {t : τ2}
    (h1 : ∀ y x, y < h → x < w → l1 y (c1 y x) = some (.inl (c1 y (x + 1)))) (h1e : ∀ y, y < h → l1 y (c1 y w) = some (.inr (e1 y)))
    (h2 : ∀ y, y < h → whileO (l1 y) (c1 y 0) = some (e1 y) → l2 (c2 y) = some (.inl (c2 (y + 1)))) (h2e : l2 (c2 h) = some (.inr t)) : whileO l2 (c2 0) = some t :=
  loop_seq c2 h (fun y hy => h2 y hy (loop_seq (c1 y) w (fun x hx => h1 y x hy hx) (h1e y hy))) h2e
theorem loop_same {τ : Type} {B : Int → Option (Int ⊕ τ)} (n : Nat) (good : τ) (h : ∀ k, k < n → B (k : Int) = some (.inl ((k + 1 : Nat) : Int))) (hn : B (n : Int) = some (.inr good)) : whileO B 0 = some good :=
  loop_seq (fun k => (k : Int)) n h hn

end Go.Proofs.Ytffikfajljbmnaa
namespace Go.Proofs.Ytffikfajljbmnaa
open Go.RowKit
set_option linter.unusedVariables false

def sumN (F : Nat → Nat) : Nat → Nat
  | 0 => 0
  | n + 1 => sumN F n + F n
def dst (w h : Nat) (f g : Int → Int → Bool) : Nat := sumN (fun y => sumN (fun x => if f x y = g x y then 0 else 1) w) h
structure Mo where
  e : Bool
  p : Bool
  q : Bool
  c : Int
  d : Int
  s : Bool
/-- the least of the first n values, and the first place that has it -/
def fm (f : Nat → Nat) (big : Nat) : Nat → Nat × Nat
  | 0 => (big, 0)
  | k + 1 => if f k < (fm f big k).1 then (f k, k) else fm f big k
theorem fm_stop {f : Nat → Nat} {big k : Nat} (h : (fm f big k).1 = 0) : ∀ n, fm f big (k + n) = fm f big k := by
  intro n
  induction n with
  | zero => rfl
  | succ n ih =>
    rw [← Nat.add_assoc]
    simp only [fm]
    rw [if_neg (by rw [ih, h]; omega), ih]

end Go.Proofs.Ytffikfajljbmnaa
namespace Go.Proofs.Ytffikfajljbmnaa
open Go.RowKit
set_option linter.unusedVariables false

noncomputable def F_raddleref46_GreatGrid (p0 : api_Grid) : Option Bool :=
  Option.bind (α := Bool) (
    if decide (36 < (p0.Bits.length : Int)) then
      if decide (p0.W ≤ 16) then
        if decide (p0.H ≤ 16) then
          some true
        else
          some (decide (4200 < (p0.Bits.length : Int)))
      else
        some (decide (4200 < (p0.Bits.length : Int)))
    else
      some (decide (4200 < (p0.Bits.length : Int)))) fun o7 =>
  some o7
set_option maxHeartbeats 4000000 in
set_option maxRecDepth 100000 in
theorem c_raddleref46_GreatGrid (E : Nat → Prop) (w0 : World) (p0 : api_Grid) (v0 : Value) (r : Bool) (h : F_raddleref46_GreatGrid p0 = some r) (S : St0 E [] w0 w0 [] [fRep r_api_Grid (v0) p0]) :
    Calls Try.prog 12 #[v0] w0 (Ret (X := Unit) E [] w0 (fun _ => .bool r) (fun _ => []) (fun _ => [])) := by
  unfold F_raddleref46_GreatGrid at h
  obtain ⟨u1, rfl, hu2⟩ := S.know (i := 0) (e := fRep r_api_Grid (v0) p0) rfl
  have S := S.learn (fRep (rL rB) u1 p0.Bits) hu2
  obtain ⟨ad3, cp4, _, rfl, _⟩ := hu2
  refine sEnter (args := [.agg #[iv p0.W, iv p0.H, .slice ad3 p0.Bits.length cp4]]) 23 Try.func12 rfl rfl (by simp) S (fun a S => ?_)
  refine sSeq (fun K5 hK5 => ?_)
  refine sRegion ?_
  refine sBox (v := .agg #[iv p0.W, iv p0.H, .slice ad3 p0.Bits.length cp4]) S (wN rfl) rfl rfl [iv p0.W, iv p0.H, .slice ad3 p0.Bits.length cp4] rfl rfl (lb rfl) fun a b6 w S => ?_
  refine sMove (.bool false) S (wN rfl) (.inr rfl) rfl rfl (lb rfl) fun a S => ?_
  refine leafL (leafT (hK5 _ _ ?_))
  obtain ⟨t8, h, g9⟩ := bindSome h
  refine sCut (fun a w => ∃ o7, o7 = t8 ∧ St [] E [] w0 23 a w [(2, .bool o7)] [] []) ?_ (fun a w hI => ?_)
  rotate_left
  · obtain ⟨o7, rfl, S⟩ := hI
    have h := g9
    clear g9
    try dsimp only at h
    obtain rfl := Option.some.inj h
    exact wp_ret (sRet (.bool o7) S (rsl1 rfl (rvT (t := 2) (v := .bool o7) S rfl)) ⟨(), rfl, S.mem.sel [] [] (by decide) rfl rfl⟩)
  refine sRegion ?_
  refine sField (b := b6) (off := 0) 2 2 S (wN rfl) rfl rfl rfl rfl rfl (lb rfl) fun a S => ?_
  refine sLoad1 (p := b6) (off := 2) (T := 24) (vs := [iv p0.W, iv p0.H, .slice ad3 p0.Bits.length cp4]) 0 (.slice ad3 p0.Bits.length cp4) S (wN rfl) rfl rfl rfl rfl rfl rfl (lb rfl) fun a S => ?_
  refine sLen (ad := ad3) (m := p0.Bits.length) (c := cp4) S (wN rfl) rfl Try.underlying22 rfl rfl (lb rfl) fun a S => ?_
  refine sBin (.bool (decide (36 < (p0.Bits.length : Int)))) S (wN rfl) rfl rfl rfl (bGt _ _ _ _ .i64 (p0.Bits.length : Int) 36) rfl (lb rfl) fun a S => ?_
  refine sMove (.bool (decide (36 < (p0.Bits.length : Int)))) S (wN rfl) (.inl rfl) rfl rfl (lb rfl) fun a S => ?_
  rcases iteSome h with ⟨hc10, h⟩ | ⟨hc10, h⟩
  rotate_left
  · refine sSkip 4 true 7 8 S rfl rfl rfl hc10 rfl (lb rfl) fun a S => ?_
    refine sSkip 4 true 7 9 S rfl rfl rfl hc10 rfl (lb rfl) fun a S => ?_
    refine sSkip 4 true 7 10 S rfl rfl rfl hc10 rfl (lb rfl) fun a S => ?_
    refine sPickF (.bool false) S (wN rfl) rfl rfl hc10 rfl rfl (lb rfl) fun a S => ?_
    refine sMove (.bool false) S (wN rfl) (.inl rfl) rfl rfl (lb rfl) fun a S => ?_
    refine sSkip 9 true 12 13 S rfl rfl rfl rfl rfl (lb rfl) fun a S => ?_
    refine sSkip 9 true 12 14 S rfl rfl rfl rfl rfl (lb rfl) fun a S => ?_
    refine sSkip 9 true 12 15 S rfl rfl rfl rfl rfl (lb rfl) fun a S => ?_
    refine sPickF (.bool false) S (wN rfl) rfl rfl rfl rfl rfl (lb rfl) fun a S => ?_
    refine sMove (.bool false) S (wN rfl) (.inl rfl) rfl rfl (lb rfl) fun a S => ?_
    refine sField (b := b6) (off := 0) 2 2 S (wG 14 false 17 rfl rfl rfl rfl) rfl rfl rfl rfl rfl (lb rfl) fun a S => ?_
    refine sLoad1 (p := b6) (off := 2) (T := 24) (vs := [iv p0.W, iv p0.H, .slice ad3 p0.Bits.length cp4]) 0 (.slice ad3 p0.Bits.length cp4) S (wG 14 false 17 rfl rfl rfl rfl) rfl rfl rfl rfl rfl rfl (lb rfl) fun a S => ?_
    refine sLen (ad := ad3) (m := p0.Bits.length) (c := cp4) S (wG 14 false 17 rfl rfl rfl rfl) rfl Try.underlying22 rfl rfl (lb rfl) fun a S => ?_
    refine sBin (.bool (decide (4200 < (p0.Bits.length : Int)))) S (wG 14 false 17 rfl rfl rfl rfl) rfl rfl rfl (bGt _ _ _ _ .i64 (p0.Bits.length : Int) 4200) rfl (lb rfl) fun a S => ?_
    refine sPickF (.bool (decide (4200 < (p0.Bits.length : Int)))) S (wN rfl) rfl rfl rfl rfl rfl (lb rfl) fun a S => ?_
    refine sMove (.bool (decide (4200 < (p0.Bits.length : Int)))) S (wN rfl) (.inr rfl) rfl rfl (lb rfl) fun a S => ?_
    exact leafL (leafT (⟨decide (4200 < (p0.Bits.length : Int)), Option.some.inj h, S.fix [] [] (by decide) rfl rfl rfl⟩))
  refine sField (b := b6) (off := 0) 0 0 S (wG 4 true 7 rfl rfl rfl hc10) rfl rfl rfl rfl rfl (lb rfl) fun a S => ?_
  refine sLoad1 (p := b6) (off := 0) (T := 24) (vs := [iv p0.W, iv p0.H, .slice ad3 p0.Bits.length cp4]) 0 (iv p0.W) S (wG 4 true 7 rfl rfl rfl hc10) rfl rfl rfl rfl rfl rfl (lb rfl) fun a S => ?_
  refine sBin (.bool (decide (p0.W ≤ 16))) S (wG 4 true 7 rfl rfl rfl hc10) rfl rfl rfl (bLe _ _ _ _ .i64 p0.W 16) rfl (lb rfl) fun a S => ?_
  refine sPickT (.bool (decide (p0.W ≤ 16))) S (wN rfl) rfl rfl hc10 rfl rfl (lb rfl) fun a S => ?_
  refine sMove (.bool (decide (p0.W ≤ 16))) S (wN rfl) (.inl rfl) rfl rfl (lb rfl) fun a S => ?_
  rcases iteSome h with ⟨hc11, h⟩ | ⟨hc11, h⟩
  rotate_left
  · refine sSkip 9 true 12 13 S rfl rfl rfl hc11 rfl (lb rfl) fun a S => ?_
    refine sSkip 9 true 12 14 S rfl rfl rfl hc11 rfl (lb rfl) fun a S => ?_
    refine sSkip 9 true 12 15 S rfl rfl rfl hc11 rfl (lb rfl) fun a S => ?_
    refine sPickF (.bool false) S (wN rfl) rfl rfl hc11 rfl rfl (lb rfl) fun a S => ?_
    refine sMove (.bool false) S (wN rfl) (.inl rfl) rfl rfl (lb rfl) fun a S => ?_
    refine sField (b := b6) (off := 0) 2 2 S (wG 14 false 17 rfl rfl rfl rfl) rfl rfl rfl rfl rfl (lb rfl) fun a S => ?_
    refine sLoad1 (p := b6) (off := 2) (T := 24) (vs := [iv p0.W, iv p0.H, .slice ad3 p0.Bits.length cp4]) 0 (.slice ad3 p0.Bits.length cp4) S (wG 14 false 17 rfl rfl rfl rfl) rfl rfl rfl rfl rfl rfl (lb rfl) fun a S => ?_
    refine sLen (ad := ad3) (m := p0.Bits.length) (c := cp4) S (wG 14 false 17 rfl rfl rfl rfl) rfl Try.underlying22 rfl rfl (lb rfl) fun a S => ?_
    refine sBin (.bool (decide (4200 < (p0.Bits.length : Int)))) S (wG 14 false 17 rfl rfl rfl rfl) rfl rfl rfl (bGt _ _ _ _ .i64 (p0.Bits.length : Int) 4200) rfl (lb rfl) fun a S => ?_
    refine sPickF (.bool (decide (4200 < (p0.Bits.length : Int)))) S (wN rfl) rfl rfl rfl rfl rfl (lb rfl) fun a S => ?_
    refine sMove (.bool (decide (4200 < (p0.Bits.length : Int)))) S (wN rfl) (.inr rfl) rfl rfl (lb rfl) fun a S => ?_
    exact leafL (leafT (⟨decide (4200 < (p0.Bits.length : Int)), Option.some.inj h, S.fix [] [] (by decide) rfl rfl rfl⟩))
  refine sField (b := b6) (off := 0) 1 1 S (wG 9 true 12 rfl rfl rfl hc11) rfl rfl rfl rfl rfl (lb rfl) fun a S => ?_
  refine sLoad1 (p := b6) (off := 1) (T := 24) (vs := [iv p0.W, iv p0.H, .slice ad3 p0.Bits.length cp4]) 0 (iv p0.H) S (wG 9 true 12 rfl rfl rfl hc11) rfl rfl rfl rfl rfl rfl (lb rfl) fun a S => ?_
  refine sBin (.bool (decide (p0.H ≤ 16))) S (wG 9 true 12 rfl rfl rfl hc11) rfl rfl rfl (bLe _ _ _ _ .i64 p0.H 16) rfl (lb rfl) fun a S => ?_
  refine sPickT (.bool (decide (p0.H ≤ 16))) S (wN rfl) rfl rfl hc11 rfl rfl (lb rfl) fun a S => ?_
  refine sMove (.bool (decide (p0.H ≤ 16))) S (wN rfl) (.inl rfl) rfl rfl (lb rfl) fun a S => ?_
  rcases iteSome h with ⟨hc12, h⟩ | ⟨hc12, h⟩
  · refine sSkip 14 false 17 18 S rfl rfl rfl hc12 rfl (lb rfl) fun a S => ?_
    refine sSkip 14 false 17 19 S rfl rfl rfl hc12 rfl (lb rfl) fun a S => ?_
    refine sSkip 14 false 17 20 S rfl rfl rfl hc12 rfl (lb rfl) fun a S => ?_
    refine sSkip 14 false 17 21 S rfl rfl rfl hc12 rfl (lb rfl) fun a S => ?_
    refine sPickT (.bool true) S (wN rfl) rfl rfl hc12 rfl rfl (lb rfl) fun a S => ?_
    refine sMove (.bool true) S (wN rfl) (.inr rfl) rfl rfl (lb rfl) fun a S => ?_
    exact leafL (leafT (⟨true, Option.some.inj h, S.fix [] [] (by decide) rfl rfl rfl⟩))
  refine sField (b := b6) (off := 0) 2 2 S (wG 14 false 17 rfl rfl rfl hc12) rfl rfl rfl rfl rfl (lb rfl) fun a S => ?_
  refine sLoad1 (p := b6) (off := 2) (T := 24) (vs := [iv p0.W, iv p0.H, .slice ad3 p0.Bits.length cp4]) 0 (.slice ad3 p0.Bits.length cp4) S (wG 14 false 17 rfl rfl rfl hc12) rfl rfl rfl rfl rfl rfl (lb rfl) fun a S => ?_
  refine sLen (ad := ad3) (m := p0.Bits.length) (c := cp4) S (wG 14 false 17 rfl rfl rfl hc12) rfl Try.underlying22 rfl rfl (lb rfl) fun a S => ?_
  refine sBin (.bool (decide (4200 < (p0.Bits.length : Int)))) S (wG 14 false 17 rfl rfl rfl hc12) rfl rfl rfl (bGt _ _ _ _ .i64 (p0.Bits.length : Int) 4200) rfl (lb rfl) fun a S => ?_
  refine sPickF (.bool (decide (4200 < (p0.Bits.length : Int)))) S (wN rfl) rfl rfl hc12 rfl rfl (lb rfl) fun a S => ?_
  refine sMove (.bool (decide (4200 < (p0.Bits.length : Int)))) S (wN rfl) (.inr rfl) rfl rfl (lb rfl) fun a S => ?_
  exact leafL (leafT (⟨decide (4200 < (p0.Bits.length : Int)), Option.some.inj h, S.fix [] [] (by decide) rfl rfl rfl⟩))

end Go.Proofs.Ytffikfajljbmnaa
namespace Go.Proofs.Ytffikfajljbmnaa
open Go.RowKit
set_option linter.unusedVariables false

def anc_raddleref01_Twin_0 : List (List Nat) := [[], [0], [], [2], [], [], [5], [4, 5, 6], [0, 1, 2, 3, 4, 5, 6, 7], [0, 1, 2, 3, 4, 5, 6, 7, 8]]
noncomputable def F_raddleref01_Twin (p0 : api_Grid) : Option api_Grid :=
  Option.bind (appO ([] : List Bool) p0.Bits) fun l11 =>
  some (api_Grid.mk p0.W p0.H l11)
def c_raddleref01_Twin_val (r : api_Grid) (x : Value) : Value := x
def c_raddleref01_Twin_D (r : api_Grid) (x : Value) : List Fact := [fRep r_api_Grid x r]
set_option maxHeartbeats 4000000 in
set_option maxRecDepth 100000 in
theorem c_raddleref01_Twin (E : Nat → Prop) (w0 : World) (p0 : api_Grid) (v0 : Value) (r : api_Grid) (h : F_raddleref01_Twin p0 = some r) (S : St0 E [] w0 w0 [] [fRep r_api_Grid (v0) p0]) :
    Calls Try.prog 13 #[v0] w0 (Ret (X := Value) E [] w0 (c_raddleref01_Twin_val r) (fun _ => []) (c_raddleref01_Twin_D r)) := by
  unfold F_raddleref01_Twin at h
  obtain ⟨u1, rfl, hu2⟩ := S.know (i := 0) (e := fRep r_api_Grid (v0) p0) rfl
  have S := S.learn (fRep (rL rB) u1 p0.Bits) hu2
  obtain ⟨ad3, cp4, _, rfl, _⟩ := hu2
  refine sEnter (args := [.agg #[iv p0.W, iv p0.H, .slice ad3 p0.Bits.length cp4]]) 12 Try.func13 rfl rfl (by simp) S (fun a S => ?_)
  refine sSeq (fun K5 hK5 => ?_)
  refine sRegion ?_
  refine sBox (v := .agg #[iv p0.W, iv p0.H, .slice ad3 p0.Bits.length cp4]) S (wN rfl) rfl rfl [iv p0.W, iv p0.H, .slice ad3 p0.Bits.length cp4] rfl rfl (lb rfl) fun a b6 w S => ?_
  refine sAlloc (.agg #[iv 0, iv 0, .slice none 0 0]) S (wN rfl) rfl rfl [iv 0, iv 0, .slice none 0 0] rfl rfl (lb rfl) fun a b7 w S => ?_
  refine leafL (leafT (hK5 _ _ ?_))
  refine sSeq (fun K8 hK8 => ?_)
  obtain ⟨l11, hx12, h⟩ := bindSome h
  refine sDraw (nf := [4, 7, 9]) (W := [(0, 3, .pointer (some ⟨b6, 0, none⟩)), (1, 4, iv p0.W), (2, 5, .pointer (some ⟨b6, 1, none⟩)), (3, 6, iv p0.H), (5, 8, .pointer (some ⟨b6, 2, none⟩)), (6, 9, .slice ad3 p0.Bits.length cp4)]) rfl S ?_
  refine node_by (A := anc_raddleref01_Twin_0) (nf := [4, 7, 9]) (Y := []) (W := [(0, 3, .pointer (some ⟨b6, 0, none⟩)), (1, 4, iv p0.W), (2, 5, .pointer (some ⟨b6, 1, none⟩)), (3, 6, iv p0.H), (5, 8, .pointer (some ⟨b6, 2, none⟩)), (6, 9, .slice ad3 p0.Bits.length cp4)]) 10 (by kernel_rfl) (by kernel_rfl) (by kernel_rfl) (by kernel_rfl) (by kernel_rfl) [0, 1, 2, 3, 5, 6] (by kernel_rfl) (by decide) (by decide) (aF 0 9 (by decide) ?_ (aF 1 8 (by decide) ?_ (aF 2 7 (by decide) ?_ (aF 3 6 (by decide) ?_ (aN 4 5 (by decide) ?_ (aF 5 4 (by decide) ?_ (aF 6 3 (by decide) ?_ (aB 7 2 4 (by decide) (aE 8 1 4 (by decide) (aB 9 0 4 (by decide) (trivial))))))))))) [] (fun q hq => by cases hq) (fun hY => absurd (hY 4 (by decide)) (by decide))
  · refine fI 3 (.pointer (some ⟨b6, 0, none⟩)) [(1, .pointer (some ⟨b6, 0, none⟩))] 0 [none] rfl rfl rfl rfl rfl rfl fun G a w S => ?_
    refine sField (b := b6) (off := 0) 0 0 S (wN rfl) rfl rfl rfl rfl rfl (lb rfl) fun a S => ?_
    exact leafL ⟨rfl, S⟩
  · refine fI 4 (iv p0.W) [(3, .pointer (some ⟨b6, 0, none⟩))] 1 [some 0] rfl rfl rfl rfl rfl rfl fun G a w S => ?_
    refine sLoad1 (p := b6) (off := 0) (T := 24) (vs := [iv p0.W, iv p0.H, .slice ad3 p0.Bits.length cp4]) 1 (iv p0.W) S (wN rfl) rfl rfl rfl rfl rfl rfl (lb rfl) fun a S => ?_
    exact leafL ⟨rfl, S⟩
  · refine fI 5 (.pointer (some ⟨b6, 1, none⟩)) [(1, .pointer (some ⟨b6, 0, none⟩))] 2 [none] rfl rfl rfl rfl rfl rfl fun G a w S => ?_
    refine sField (b := b6) (off := 0) 1 1 S (wN rfl) rfl rfl rfl rfl rfl (lb rfl) fun a S => ?_
    exact leafL ⟨rfl, S⟩
  · refine fI 6 (iv p0.H) [(5, .pointer (some ⟨b6, 1, none⟩))] 3 [some 2] rfl rfl rfl rfl rfl rfl fun G a w S => ?_
    refine sLoad1 (p := b6) (off := 1) (T := 24) (vs := [iv p0.W, iv p0.H, .slice ad3 p0.Bits.length cp4]) 1 (iv p0.H) S (wN rfl) rfl rfl rfl rfl rfl rfl (lb rfl) fun a S => ?_
    exact leafL ⟨rfl, S⟩
  · refine ⟨_, [], rfl, (srcs_of [] rfl rfl rfl), fun G a w S => ?_⟩
    refine sLit0 (α := Bool) rB (T := 4) S (wN rfl) rfl Try.underlying22 rfl rfl (lb rfl) fun a w ad15 cp16 S => ?_
    refine leafL ⟨rfl, _, _, .inl ⟨7, (.slice ad15 ([] : List Bool).length cp16), [], rfl, S, hz_of rfl, ?_⟩⟩
    refine node_by (A := anc_raddleref01_Twin_0) (nf := [4, 7, 9]) (Y := [4]) 10 (by kernel_rfl) (by kernel_rfl) (by kernel_rfl) (by kernel_rfl) (by kernel_rfl) [4, 0, 1, 2, 3, 5, 6] (by kernel_rfl) (by decide) (by decide) (aF 0 9 (by decide) ?_ (aF 1 8 (by decide) ?_ (aF 2 7 (by decide) ?_ (aF 3 6 (by decide) ?_ (aY 4 5 (by decide) (aF 5 4 (by decide) ?_ (aF 6 3 (by decide) ?_ (aN 7 2 (by decide) ?_ (aE 8 1 7 (by decide) (aB 9 0 7 (by decide) (trivial))))))))))) [] (fun q hq => by cases hq) (fun hY => absurd (hY 7 (by decide)) (by decide))
    · refine fI 3 (.pointer (some ⟨b6, 0, none⟩)) [(1, .pointer (some ⟨b6, 0, none⟩))] 1 [none] rfl rfl rfl rfl rfl rfl fun G a w S => ?_
      refine sField (b := b6) (off := 0) 0 0 S (wN rfl) rfl rfl rfl rfl rfl (lb rfl) fun a S => ?_
      exact leafL ⟨rfl, S⟩
    · refine fI 4 (iv p0.W) [(3, .pointer (some ⟨b6, 0, none⟩))] 2 [some 1] rfl rfl rfl rfl rfl rfl fun G a w S => ?_
      refine sLoad1 (p := b6) (off := 0) (T := 24) (vs := [iv p0.W, iv p0.H, .slice ad3 p0.Bits.length cp4]) 2 (iv p0.W) S (wN rfl) rfl rfl rfl rfl rfl rfl (lb rfl) fun a S => ?_
      exact leafL ⟨rfl, S⟩
    · refine fI 5 (.pointer (some ⟨b6, 1, none⟩)) [(1, .pointer (some ⟨b6, 0, none⟩))] 3 [none] rfl rfl rfl rfl rfl rfl fun G a w S => ?_
      refine sField (b := b6) (off := 0) 1 1 S (wN rfl) rfl rfl rfl rfl rfl (lb rfl) fun a S => ?_
      exact leafL ⟨rfl, S⟩
    · refine fI 6 (iv p0.H) [(5, .pointer (some ⟨b6, 1, none⟩))] 4 [some 3] rfl rfl rfl rfl rfl rfl fun G a w S => ?_
      refine sLoad1 (p := b6) (off := 1) (T := 24) (vs := [iv p0.W, iv p0.H, .slice ad3 p0.Bits.length cp4]) 2 (iv p0.H) S (wN rfl) rfl rfl rfl rfl rfl rfl (lb rfl) fun a S => ?_
      exact leafL ⟨rfl, S⟩
    · refine fI 8 (.pointer (some ⟨b6, 2, none⟩)) [(1, .pointer (some ⟨b6, 0, none⟩))] 5 [none] rfl rfl rfl rfl rfl rfl fun G a w S => ?_
      refine sField (b := b6) (off := 0) 2 2 S (wN rfl) rfl rfl rfl rfl rfl (lb rfl) fun a S => ?_
      exact leafL ⟨rfl, S⟩
    · refine fI 9 (.slice ad3 p0.Bits.length cp4) [(8, .pointer (some ⟨b6, 2, none⟩))] 6 [some 5] rfl rfl rfl rfl rfl rfl fun G a w S => ?_
      refine sLoad1 (p := b6) (off := 2) (T := 24) (vs := [iv p0.W, iv p0.H, .slice ad3 p0.Bits.length cp4]) 2 (.slice ad3 p0.Bits.length cp4) S (wN rfl) rfl rfl rfl rfl rfl rfl (lb rfl) fun a S => ?_
      exact leafL ⟨rfl, S⟩
    refine ⟨_, [(7, .slice ad15 ([] : List Bool).length cp16), (9, .slice ad3 p0.Bits.length cp4)], rfl, (srcs_of [some 0, some 6] rfl rfl rfl), fun G a w S => ?_⟩
    refine sApp (r := rB) (T := 4) (xs := ([] : List Bool)) (ys := p0.Bits) (v := .slice ad15 ([] : List Bool).length cp16) (u := .slice ad3 p0.Bits.length cp4) 0 (.bool false) 1 S (wN rfl) rfl Try.underlying22 rfl rfl (by decide) rfl rfl rfl (src_D 0 S.mem rfl) hx12 rfl (lb rfl) fun a w ad17 cp18 S => ?_
    refine leafL ⟨rfl, _, _, .inl ⟨10, (.slice ad17 l11.length cp18), [(8, 11, .agg #[iv p0.W, iv p0.H, .slice ad17 l11.length cp18])], rfl, S, hz_of rfl, ?_⟩⟩
    refine node_by (A := anc_raddleref01_Twin_0) (nf := [4, 7, 9]) (Y := [7, 4]) 10 (by kernel_rfl) (by kernel_rfl) (by kernel_rfl) (by kernel_rfl) (by kernel_rfl) [8, 7, 4, 0, 1, 2, 3, 5, 6] (by kernel_rfl) (by decide) (by decide) (aF 0 9 (by decide) ?_ (aF 1 8 (by decide) ?_ (aF 2 7 (by decide) ?_ (aF 3 6 (by decide) ?_ (aY 4 5 (by decide) (aD 5 4 7 (by decide) (aD 6 3 7 (by decide) (aY 7 2 (by decide) (aF 8 1 (by decide) ?_ (aN 9 0 (by decide) ?_ (trivial))))))))))) [] (fun q hq => by cases hq) (fun hY => absurd (hY 9 (by decide)) (by decide))
    · refine fI 3 (.pointer (some ⟨b6, 0, none⟩)) [(1, .pointer (some ⟨b6, 0, none⟩))] 3 [none] rfl rfl rfl rfl rfl rfl fun G a w S => ?_
      refine sField (b := b6) (off := 0) 0 0 S (wN rfl) rfl rfl rfl rfl rfl (lb rfl) fun a S => ?_
      exact leafL ⟨rfl, S⟩
    · refine fI 4 (iv p0.W) [(3, .pointer (some ⟨b6, 0, none⟩))] 4 [some 3] rfl rfl rfl rfl rfl rfl fun G a w S => ?_
      refine sLoad1 (p := b6) (off := 0) (T := 24) (vs := [iv p0.W, iv p0.H, .slice ad3 p0.Bits.length cp4]) 2 (iv p0.W) S (wN rfl) rfl rfl rfl rfl rfl rfl (lb rfl) fun a S => ?_
      exact leafL ⟨rfl, S⟩
    · refine fI 5 (.pointer (some ⟨b6, 1, none⟩)) [(1, .pointer (some ⟨b6, 0, none⟩))] 5 [none] rfl rfl rfl rfl rfl rfl fun G a w S => ?_
      refine sField (b := b6) (off := 0) 1 1 S (wN rfl) rfl rfl rfl rfl rfl (lb rfl) fun a S => ?_
      exact leafL ⟨rfl, S⟩
    · refine fI 6 (iv p0.H) [(5, .pointer (some ⟨b6, 1, none⟩))] 6 [some 5] rfl rfl rfl rfl rfl rfl fun G a w S => ?_
      refine sLoad1 (p := b6) (off := 1) (T := 24) (vs := [iv p0.W, iv p0.H, .slice ad3 p0.Bits.length cp4]) 2 (iv p0.H) S (wN rfl) rfl rfl rfl rfl rfl rfl (lb rfl) fun a S => ?_
      exact leafL ⟨rfl, S⟩
    · refine fI 11 (.agg #[iv p0.W, iv p0.H, .slice ad17 l11.length cp18]) [(4, iv p0.W), (6, iv p0.H), (10, .slice ad17 l11.length cp18)] 0 [some 4, some 6, some 1] rfl rfl rfl rfl rfl rfl fun G a w S => ?_
      refine sBuild [(0, iv p0.W), (1, iv p0.H), (2, .slice ad17 l11.length cp18)] [iv p0.W, iv p0.H, .slice ad17 l11.length cp18] S (wN rfl) rfl rfl rfl rfl (lb rfl) fun a S => ?_
      exact leafL ⟨rfl, S⟩
    refine ⟨_, [(2, .pointer (some ⟨b7, 0, none⟩)), (11, .agg #[iv p0.W, iv p0.H, .slice ad17 l11.length cp18])], rfl, (srcs_of [none, some 0] rfl rfl rfl), fun G a w S => ?_⟩
    refine sStore (p := b7) (off := 0) (T := 24) (vs := [iv 0, iv 0, .slice none 0 0]) (v := .agg #[iv p0.W, iv p0.H, .slice ad17 l11.length cp18]) 1 [iv p0.W, iv p0.H, .slice ad17 l11.length cp18] S (wN rfl) rfl rfl rfl rfl rfl rfl rfl (by simp) rfl fun a w S => ?_
    refine leafL ⟨rfl, _, _, .inr ⟨[], rfl, S, hz_of rfl, ?_⟩⟩
    refine node_by (A := anc_raddleref01_Twin_0) (nf := [4, 7, 9]) (Y := [9, 7, 4]) 10 (by kernel_rfl) (by kernel_rfl) (by kernel_rfl) (by kernel_rfl) (by kernel_rfl) [8, 7, 4, 0, 1, 2, 3, 5, 6] (by kernel_rfl) (by decide) (by decide) (aD 0 9 9 (by decide) (aD 1 8 9 (by decide) (aD 2 7 9 (by decide) (aD 3 6 9 (by decide) (aY 4 5 (by decide) (aD 5 4 9 (by decide) (aD 6 3 9 (by decide) (aY 7 2 (by decide) (aD 8 1 9 (by decide) (aY 9 0 (by decide) (trivial))))))))))) [(2, .pointer (some ⟨b7, 0, none⟩))] (fin_of [none] rfl (by kernel_rfl) (by kernel_rfl)) (fun _ a w S => ?_)
    refine leafT (hK8 _ _ ?_)
    obtain rfl := Option.some.inj h
    have S := S.shutR (r := rB) (T := 4) (v := .slice ad17 l11.length cp18) (xs := l11) 1 rfl
    have S := S.learn (fRep r_api_Grid (.agg #[iv p0.W, iv p0.H, .slice ad17 l11.length cp18]) (api_Grid.mk p0.W p0.H l11)) ⟨_, rfl, S.mem.know (i := 0) (e := fRep (rL rB) (.slice ad17 l11.length cp18) l11) rfl⟩
    exact wp_ret (sRet (.agg #[iv p0.W, iv p0.H, .slice ad17 l11.length cp18]) S (rsl1 rfl (rvN (c := 2) (t := 24) (T := 24) (p := b7) 0 [iv p0.W, iv p0.H, .slice ad17 l11.length cp18] S rfl rfl rfl rfl)) ⟨(.agg #[iv p0.W, iv p0.H, .slice ad17 l11.length cp18]), rfl, S.mem.sel [] [0] (by decide) rfl rfl⟩)
  · refine fI 8 (.pointer (some ⟨b6, 2, none⟩)) [(1, .pointer (some ⟨b6, 0, none⟩))] 4 [none] rfl rfl rfl rfl rfl rfl fun G a w S => ?_
    refine sField (b := b6) (off := 0) 2 2 S (wN rfl) rfl rfl rfl rfl rfl (lb rfl) fun a S => ?_
    exact leafL ⟨rfl, S⟩
  refine fI 9 (.slice ad3 p0.Bits.length cp4) [(8, .pointer (some ⟨b6, 2, none⟩))] 5 [some 4] rfl rfl rfl rfl rfl rfl fun G a w S => ?_
  refine sLoad1 (p := b6) (off := 2) (T := 24) (vs := [iv p0.W, iv p0.H, .slice ad3 p0.Bits.length cp4]) 1 (.slice ad3 p0.Bits.length cp4) S (wN rfl) rfl rfl rfl rfl rfl rfl (lb rfl) fun a S => ?_
  exact leafL ⟨rfl, S⟩

end Go.Proofs.Ytffikfajljbmnaa
namespace Go.Proofs.Ytffikfajljbmnaa
open Go.RowKit
set_option linter.unusedVariables false

noncomputable def F_grid_Check (p0 : api_Grid) : Option Int :=
  if decide (64 < (if p0.W < p0.H then p0.H else p0.W)) then
    some 4
  else
    Option.bind (α := Bool) (
      if decide ((if p0.H < p0.W then p0.H else p0.W) < 1) then
        some true
      else
        some ((p0.Bits.length : Int) != (w64 (p0.W * p0.H)))) fun o11 =>
    if o11 then
      some 8
    else
      some 0
set_option maxHeartbeats 4000000 in
set_option maxRecDepth 100000 in
theorem c_grid_Check (E : Nat → Prop) (w0 : World) (p0 : api_Grid) (v0 : Value) (r : Int) (h : F_grid_Check p0 = some r) (S : St0 E [] w0 w0 [] [fRep r_api_Grid (v0) p0]) :
    Calls Try.prog 45 #[v0] w0 (Ret (X := Unit) E [] w0 (fun _ => .int .i64 r) (fun _ => []) (fun _ => [])) := by
  unfold F_grid_Check at h
  obtain ⟨u1, rfl, hu2⟩ := S.know (i := 0) (e := fRep r_api_Grid (v0) p0) rfl
  have S := S.learn (fRep (rL rB) u1 p0.Bits) hu2
  obtain ⟨ad3, cp4, _, rfl, _⟩ := hu2
  refine sEnter (args := [.agg #[iv p0.W, iv p0.H, .slice ad3 p0.Bits.length cp4]]) 28 Try.func45 rfl rfl (by simp) S (fun a S => ?_)
  refine sSeq (fun K5 hK5 => ?_)
  refine sRegion ?_
  refine sBox (v := .agg #[iv p0.W, iv p0.H, .slice ad3 p0.Bits.length cp4]) S (wN rfl) rfl rfl [iv p0.W, iv p0.H, .slice ad3 p0.Bits.length cp4] rfl rfl (lb rfl) fun a b6 w S => ?_
  refine sMove (iv 0) S (wN rfl) (.inr rfl) rfl rfl (lb rfl) fun a S => ?_
  refine leafL (leafT (hK5 _ _ ?_))
  refine sSeq (fun K7 hK7 => ?_)
  refine wp_block ?_
  refine sSeq (fun K8 hK8 => ?_)
  refine sRegion ?_
  refine sField (b := b6) (off := 0) 0 0 S (wN rfl) rfl rfl rfl rfl rfl (lb rfl) fun a S => ?_
  refine sLoad1 (p := b6) (off := 0) (T := 24) (vs := [iv p0.W, iv p0.H, .slice ad3 p0.Bits.length cp4]) 0 (iv p0.W) S (wN rfl) rfl rfl rfl rfl rfl rfl (lb rfl) fun a S => ?_
  refine sField (b := b6) (off := 0) 1 1 S (wN rfl) rfl rfl rfl rfl rfl (lb rfl) fun a S => ?_
  refine sLoad1 (p := b6) (off := 1) (T := 24) (vs := [iv p0.W, iv p0.H, .slice ad3 p0.Bits.length cp4]) 0 (iv p0.H) S (wN rfl) rfl rfl rfl rfl rfl rfl (lb rfl) fun a S => ?_
  refine sMax2 (p := p0.W) (q := p0.H) S (wN rfl) rfl rfl rfl rfl (lb rfl) fun a S => ?_
  refine sBin (.bool (decide (64 < (if p0.W < p0.H then p0.H else p0.W)))) S (wN rfl) rfl rfl rfl (bGt _ _ _ _ .i64 (if p0.W < p0.H then p0.H else p0.W) 64) rfl (lb rfl) fun a S => ?_
  refine sMove (.bool (decide (64 < (if p0.W < p0.H then p0.H else p0.W)))) S (wN rfl) (.inr rfl) rfl rfl (lb rfl) fun a S => ?_
  refine leafL (leafT (hK8 _ _ ?_))
  rcases iteSome h with ⟨hc9, h⟩ | ⟨hc9, h⟩
  · refine sCondT S rfl hc9 ?_
    refine sSeq (fun K10 hK10 => ?_)
    refine sRegion ?_
    refine sMove (iv 4) S (wN rfl) (.inr rfl) rfl rfl (lb rfl) fun a S => ?_
    refine leafL (leafT (hK10 _ _ ?_))
    obtain rfl := Option.some.inj h
    exact wp_ret (rBlock (rThen (sRet (iv 4) S (rsl1 rfl (rvT (t := 2) (v := iv 4) S rfl)) ⟨(), rfl, S.mem.sel [] [] (by decide) rfl rfl⟩)))
  refine sCondF S rfl hc9 ?_
  obtain ⟨t12, h, g13⟩ := bindSome h
  refine sCut (fun a w => ∃ o11, o11 = t12 ∧ St [] E [] w0 28 a w [(10, .bool o11)] [] []) ?_ (fun a w hI => ?_)
  rotate_left
  · obtain ⟨o11, rfl, S⟩ := hI
    have h := g13
    clear g13
    try dsimp only at h
    rcases iteSome h with ⟨hc15, h⟩ | ⟨hc15, h⟩
    · refine sCondT S rfl hc15 ?_
      refine sSeq (fun K16 hK16 => ?_)
      refine sRegion ?_
      refine sMove (iv 8) S (wN rfl) (.inr rfl) rfl rfl (lb rfl) fun a S => ?_
      refine leafL (leafT (hK16 _ _ ?_))
      obtain rfl := Option.some.inj h
      exact wp_ret (rBlock (rThen (sRet (iv 8) S (rsl1 rfl (rvT (t := 2) (v := iv 8) S rfl)) ⟨(), rfl, S.mem.sel [] [] (by decide) rfl rfl⟩)))
    refine sCondF S rfl hc15 ?_
    refine wp_skip (leafB (leafT (hK7 _ _ ?_)))
    refine sSeq (fun K17 hK17 => ?_)
    refine sRegion ?_
    refine sMove (iv 0) S (wN rfl) (.inr rfl) rfl rfl (lb rfl) fun a S => ?_
    refine leafL (leafT (hK17 _ _ ?_))
    obtain rfl := Option.some.inj h
    exact wp_ret (sRet (iv 0) S (rsl1 rfl (rvT (t := 2) (v := iv 0) S rfl)) ⟨(), rfl, S.mem.sel [] [] (by decide) rfl rfl⟩)
  refine sRegion ?_
  refine sField (b := b6) (off := 0) 0 0 S (wN rfl) rfl rfl rfl rfl rfl (lb rfl) fun a S => ?_
  refine sLoad1 (p := b6) (off := 0) (T := 24) (vs := [iv p0.W, iv p0.H, .slice ad3 p0.Bits.length cp4]) 0 (iv p0.W) S (wN rfl) rfl rfl rfl rfl rfl rfl (lb rfl) fun a S => ?_
  refine sField (b := b6) (off := 0) 1 1 S (wN rfl) rfl rfl rfl rfl rfl (lb rfl) fun a S => ?_
  refine sLoad1 (p := b6) (off := 1) (T := 24) (vs := [iv p0.W, iv p0.H, .slice ad3 p0.Bits.length cp4]) 0 (iv p0.H) S (wN rfl) rfl rfl rfl rfl rfl rfl (lb rfl) fun a S => ?_
  refine sMin2 (p := p0.W) (q := p0.H) S (wN rfl) rfl rfl rfl rfl (lb rfl) fun a S => ?_
  refine sBin (.bool (decide ((if p0.H < p0.W then p0.H else p0.W) < 1))) S (wN rfl) rfl rfl rfl (bLt _ _ _ _ .i64 (if p0.H < p0.W then p0.H else p0.W) 1) rfl (lb rfl) fun a S => ?_
  refine sMove (.bool (decide ((if p0.H < p0.W then p0.H else p0.W) < 1))) S (wN rfl) (.inl rfl) rfl rfl (lb rfl) fun a S => ?_
  rcases iteSome h with ⟨hc14, h⟩ | ⟨hc14, h⟩
  · refine sSkip 6 false 17 18 S rfl rfl rfl hc14 rfl (lb rfl) fun a S => ?_
    refine sSkip 6 false 17 19 S rfl rfl rfl hc14 rfl (lb rfl) fun a S => ?_
    refine sSkip 6 false 17 20 S rfl rfl rfl hc14 rfl (lb rfl) fun a S => ?_
    refine sSkip 6 false 17 21 S rfl rfl rfl hc14 rfl (lb rfl) fun a S => ?_
    refine sSkip 6 false 17 22 S rfl rfl rfl hc14 rfl (lb rfl) fun a S => ?_
    refine sSkip 6 false 17 23 S rfl rfl rfl hc14 rfl (lb rfl) fun a S => ?_
    refine sSkip 6 false 17 24 S rfl rfl rfl hc14 rfl (lb rfl) fun a S => ?_
    refine sSkip 6 false 17 25 S rfl rfl rfl hc14 rfl (lb rfl) fun a S => ?_
    refine sSkip 6 false 17 26 S rfl rfl rfl hc14 rfl (lb rfl) fun a S => ?_
    refine sPickT (.bool true) S (wN rfl) rfl rfl hc14 rfl rfl (lb rfl) fun a S => ?_
    refine sMove (.bool true) S (wN rfl) (.inr rfl) rfl rfl (lb rfl) fun a S => ?_
    exact leafL (leafT (⟨true, Option.some.inj h, S.fix [] [] (by decide) rfl rfl rfl⟩))
  refine sField (b := b6) (off := 0) 2 2 S (wG 6 false 17 rfl rfl rfl hc14) rfl rfl rfl rfl rfl (lb rfl) fun a S => ?_
  refine sLoad1 (p := b6) (off := 2) (T := 24) (vs := [iv p0.W, iv p0.H, .slice ad3 p0.Bits.length cp4]) 0 (.slice ad3 p0.Bits.length cp4) S (wG 6 false 17 rfl rfl rfl hc14) rfl rfl rfl rfl rfl rfl (lb rfl) fun a S => ?_
  refine sLen (ad := ad3) (m := p0.Bits.length) (c := cp4) S (wG 6 false 17 rfl rfl rfl hc14) rfl Try.underlying22 rfl rfl (lb rfl) fun a S => ?_
  refine sField (b := b6) (off := 0) 0 0 S (wG 6 false 17 rfl rfl rfl hc14) rfl rfl rfl rfl rfl (lb rfl) fun a S => ?_
  refine sLoad1 (p := b6) (off := 0) (T := 24) (vs := [iv p0.W, iv p0.H, .slice ad3 p0.Bits.length cp4]) 0 (iv p0.W) S (wG 6 false 17 rfl rfl rfl hc14) rfl rfl rfl rfl rfl rfl (lb rfl) fun a S => ?_
  refine sField (b := b6) (off := 0) 1 1 S (wG 6 false 17 rfl rfl rfl hc14) rfl rfl rfl rfl rfl (lb rfl) fun a S => ?_
  refine sLoad1 (p := b6) (off := 1) (T := 24) (vs := [iv p0.W, iv p0.H, .slice ad3 p0.Bits.length cp4]) 0 (iv p0.H) S (wG 6 false 17 rfl rfl rfl hc14) rfl rfl rfl rfl rfl rfl (lb rfl) fun a S => ?_
  refine sBin (iv (w64 (p0.W * p0.H))) S (wG 6 false 17 rfl rfl rfl hc14) rfl rfl rfl (bMul _ _ _ _ p0.W p0.H) rfl (lb rfl) fun a S => ?_
  refine sBin (.bool ((p0.Bits.length : Int) != (w64 (p0.W * p0.H)))) S (wG 6 false 17 rfl rfl rfl hc14) rfl rfl rfl (bNe _ _ _ _ .i64 (p0.Bits.length : Int) (w64 (p0.W * p0.H))) rfl (lb rfl) fun a S => ?_
  refine sPickF (.bool ((p0.Bits.length : Int) != (w64 (p0.W * p0.H)))) S (wN rfl) rfl rfl hc14 rfl rfl (lb rfl) fun a S => ?_
  refine sMove (.bool ((p0.Bits.length : Int) != (w64 (p0.W * p0.H)))) S (wN rfl) (.inr rfl) rfl rfl (lb rfl) fun a S => ?_
  exact leafL (leafT (⟨(p0.Bits.length : Int) != (w64 (p0.W * p0.H)), Option.some.inj h, S.fix [] [] (by decide) rfl rfl rfl⟩))

end Go.Proofs.Ytffikfajljbmnaa
namespace Go.Proofs.Ytffikfajljbmnaa
open Go.RowKit
set_option linter.unusedVariables false

noncomputable def compare_differ_l1 (p0 : (List Bool)) (p1 : (List Bool)) : (Int × Int) → Option ((Int × Int) ⊕ Int) := fun s0 => match s0 with
  | (s11, s12) =>
    if decide (s12 < (p0.length : Int)) then
      Option.bind (α := Int) (
        Option.bind (idxO p0 s12) fun x24 =>
        Option.bind (idxO p1 s12) fun x30 =>
        if x24 != x30 then
          some (w64 (s11 + 1))
        else
          some s11) fun o20 =>
      some (.inl (o20, w64 (s12 + 1)))
    else
      some (.inr s11)
noncomputable def F_compare_differ (p0 : (List Bool)) (p1 : (List Bool)) : Option Int :=
  Option.bind (α := Int) (
    Option.bind (whileO (compare_differ_l1 p0 p1) (0, 0)) fun e16 =>
      some e16) fun o7 =>
  some o7
set_option maxHeartbeats 4000000 in
set_option maxRecDepth 100000 in
theorem c_compare_differ (E : Nat → Prop) (w0 : World) (p0 : (List Bool)) (v0 : Value) (p1 : (List Bool)) (v1 : Value) (r : Int) (h : F_compare_differ p0 p1 = some r) (S : St0 E [] w0 w0 [] [fRep (rL rB) (v0) p0, fRep (rL rB) (v1) p1]) :
    Calls Try.prog 46 #[v0, v1] w0 (Ret (X := Unit) E [] w0 (fun _ => .int .i64 r) (fun _ => []) (fun _ => [])) := by
  unfold F_compare_differ at h
  obtain ⟨ad1, cp2, _, rfl, _⟩ := S.know (i := 0) (e := fRep (rL rB) (v0) p0) rfl
  obtain ⟨ad3, cp4, _, rfl, _⟩ := S.know (i := 1) (e := fRep (rL rB) (v1) p1) rfl
  refine sEnter (args := [.slice ad1 p0.length cp2, .slice ad3 p1.length cp4]) 25 Try.func46 rfl rfl (by simp) S (fun a S => ?_)
  refine sSeq (fun K5 hK5 => ?_)
  refine sRegion ?_
  refine sMove (iv 0) S (wN rfl) (.inr rfl) rfl rfl (lb rfl) fun a S => ?_
  refine leafL (leafT (hK5 _ _ ?_))
  refine sSeq (fun K6 hK6 => ?_)
  refine sRegion ?_
  refine sMove (iv 0) S (wN rfl) (.inr rfl) rfl rfl (lb rfl) fun a S => ?_
  refine leafL (leafT (hK6 _ _ ?_))
  obtain ⟨t8, h, g9⟩ := bindSome h
  refine sCut (fun a w => ∃ o7, o7 = t8 ∧ St [] E [] w0 25 a w [(5, iv o7)] [] []) ?_ (fun a w hI => ?_)
  rotate_left
  · obtain ⟨o7, rfl, S⟩ := hI
    have h := g9
    clear g9
    try dsimp only at h
    refine sSeq (fun K36 hK36 => ?_)
    refine sRegion ?_
    refine sMove (iv o7) S (wN rfl) (.inl rfl) rfl rfl (lb rfl) fun a S => ?_
    refine sMove (iv o7) S (wN rfl) (.inr rfl) rfl rfl (lb rfl) fun a S => ?_
    refine leafL (leafT (hK36 _ _ ?_))
    obtain rfl := Option.some.inj h
    exact wp_ret (sRet (iv o7) S (rsl1 rfl (rvT (t := 4) (v := iv o7) S rfl)) ⟨(), rfl, S.mem.sel [] [] (by decide) rfl rfl⟩)
  refine sSeq (fun K10 hK10 => ?_)
  refine sRegion ?_
  refine sMove (.slice ad1 p0.length cp2) S (wN rfl) (.inl rfl) rfl rfl (lb rfl) fun a S => ?_
  refine sLen (ad := ad1) (m := p0.length) (c := cp2) S (wN rfl) rfl Try.underlying22 rfl rfl (lb rfl) fun a S => ?_
  refine sMove (iv 0) S (wN rfl) (.inl rfl) rfl rfl (lb rfl) fun a S => ?_
  refine leafL (leafT (hK10 _ _ ?_))
  refine wp_block ?_
  obtain ⟨t15, hl, g14⟩ := bindSome h
  refine sLoop hl (fun s0 a w => match s0 with | (s11, s12) => St [] E [] w0 25 a w [(1, .slice ad3 p1.length cp4), (5, iv s11), (8, .slice ad1 p0.length cp2), (9, iv (p0.length : Int)), (10, iv s12)] [] [fRep (rL rB) (.slice ad3 p1.length cp4) p1, fRep (rL rB) (.slice ad1 p0.length cp2) p0]) (S.fix [] [1, 0] (by decide) rfl rfl rfl) ?_
  clear hl h
  intro s0 a w c0 hI h hu13
  obtain ⟨s11, s12⟩ := s0
  unfold compare_differ_l1 at h
  dsimp only at h hI
  have S := hI
  refine sSeq (fun K17 hK17 => ?_)
  refine sRegion ?_
  refine sBin (.bool (decide (s12 < (p0.length : Int)))) S (wN rfl) rfl rfl rfl (bLt _ _ _ _ .i64 s12 (p0.length : Int)) rfl (lb rfl) fun a S => ?_
  refine leafL (leafT (hK17 _ _ ?_))
  refine sSeq (fun K18 hK18 => ?_)
  rcases iteSome h with ⟨hc19, h⟩ | ⟨hc19, h⟩
  rotate_left
  · refine sCondF S rfl hc19 ?_
    obtain rfl := Option.some.inj h
    obtain rfl := hu13 _ rfl
    have h := g14
    clear g14
    try dsimp only at h
    exact wp_exit (xThen (xThen (xHit (leafT (⟨s11, Option.some.inj h, S.fix [] [] (by decide) rfl rfl rfl⟩)))))
  refine sCondT S rfl hc19 ?_
  refine wp_skip (leafT (hK18 _ _ ?_))
  obtain ⟨t21, h, g22⟩ := bindSome h
  refine sCut (fun a w => ∃ o20, o20 = t21 ∧ St [] E [] w0 25 a w [(1, .slice ad3 p1.length cp4), (5, iv o20), (8, .slice ad1 p0.length cp2), (9, iv (p0.length : Int)), (10, iv s12)] [] [fRep (rL rB) (.slice ad3 p1.length cp4) p1, fRep (rL rB) (.slice ad1 p0.length cp2) p0]) ?_ (fun a w hI => ?_)
  rotate_left
  · obtain ⟨o20, rfl, S⟩ := hI
    have h := g22
    clear g22
    try dsimp only at h
    refine sRegion ?_
    refine sBin (iv (w64 (s12 + 1))) S (wN rfl) rfl rfl rfl (bAdd _ _ _ _ s12 1) rfl (lb rfl) fun a S => ?_
    refine sMove (iv (w64 (s12 + 1))) S (wN rfl) (.inl rfl) rfl rfl (lb rfl) fun a S => ?_
    exact leafL (leafT (⟨(o20, w64 (s12 + 1)), (Option.some.inj h).symm, (S.fix [] [0, 1] (by decide) rfl rfl rfl)⟩))
  refine wp_block ?_
  refine sSeq (fun K23 hK23 => ?_)
  refine sRegion ?_
  refine sMove (iv s12) S (wN rfl) (.inl rfl) rfl rfl (lb rfl) fun a S => ?_
  obtain ⟨x24, hx25, h⟩ := bindSome h
  obtain ⟨q26, hq27, S⟩ := pIdx (P := Try.prog) (r := rB) (v := .slice ad1 p0.length cp2) (xs := p0) (j := s12) 22 4 1 S Try.underlying22 rfl rfl hx25
  refine sIdxV (v := .slice ad1 p0.length cp2) (k := .i64) (j := s12) S (wN rfl) rfl rfl rfl hq27 rfl (lb rfl) fun a S => ?_
  obtain ⟨u28, S⟩ := pLoad (r := rB) (q := q26) (x := x24) 0 S rfl
  obtain rfl : u28 = .bool x24 := S.mem.know (i := 1) (e := fRep rB (u28) x24) rfl
  refine sLoadV1 (vq := q26) 0 (.bool x24) S (wN rfl) rfl rfl rfl rfl rfl (lb rfl) fun a S => ?_
  refine sMove (iv s12) S (wN rfl) (.inr rfl) rfl rfl (lb rfl) fun a S => ?_
  refine sMove (.bool x24) S (wN rfl) (.inr rfl) rfl rfl (lb rfl) fun a S => ?_
  refine leafL (leafT (hK23 _ _ ?_))
  refine sSeq (fun K29 hK29 => ?_)
  refine sRegion ?_
  refine sMove (.bool x24) S (wN rfl) (.inl rfl) rfl rfl (lb rfl) fun a S => ?_
  refine sMove (.slice ad3 p1.length cp4) S (wN rfl) (.inl rfl) rfl rfl (lb rfl) fun a S => ?_
  refine sMove (iv s12) S (wN rfl) (.inl rfl) rfl rfl (lb rfl) fun a S => ?_
  obtain ⟨x30, hx31, h⟩ := bindSome h
  obtain ⟨q32, hq33, S⟩ := pIdx (P := Try.prog) (r := rB) (v := .slice ad3 p1.length cp4) (xs := p1) (j := s12) 22 4 3 S Try.underlying22 rfl rfl hx31
  refine sIdxV (v := .slice ad3 p1.length cp4) (k := .i64) (j := s12) S (wN rfl) rfl rfl rfl hq33 rfl (lb rfl) fun a S => ?_
  obtain ⟨u34, S⟩ := pLoad (r := rB) (q := q32) (x := x30) 0 S rfl
  obtain rfl : u34 = .bool x30 := S.mem.know (i := 1) (e := fRep rB (u34) x30) rfl
  refine sLoadV1 (vq := q32) 0 (.bool x30) S (wN rfl) rfl rfl rfl rfl rfl (lb rfl) fun a S => ?_
  refine sBin (.bool (x24 != x30)) S (wN rfl) rfl rfl rfl (bNeB _ _ _ _ Try.underlying4 x24 x30) rfl (lb rfl) fun a S => ?_
  refine leafL (leafT (hK29 _ _ ?_))
  rcases iteSome h with ⟨hc35, h⟩ | ⟨hc35, h⟩
  rotate_left
  · refine sCondF S rfl hc35 ?_
    exact wp_skip (leafB (leafT (⟨s11, Option.some.inj h, S.fix [] [6, 7] (by decide) rfl rfl rfl⟩)))
  refine sCondT S rfl hc35 ?_
  refine sRegion ?_
  refine sMove (iv s11) S (wN rfl) (.inl rfl) rfl rfl (lb rfl) fun a S => ?_
  refine sBin (iv (w64 (s11 + 1))) S (wN rfl) rfl rfl rfl (bAdd _ _ _ _ s11 1) rfl (lb rfl) fun a S => ?_
  refine sMove (iv (w64 (s11 + 1))) S (wN rfl) (.inr rfl) rfl rfl (lb rfl) fun a S => ?_
  exact leafL (leafB (leafT (⟨w64 (s11 + 1), Option.some.inj h, S.fix [] [6, 7] (by decide) rfl rfl rfl⟩)))

end Go.Proofs.Ytffikfajljbmnaa
namespace Go.Proofs.Ytffikfajljbmnaa
open Go.RowKit
set_option linter.unusedVariables false

noncomputable def F_compare_Cells (p0 : api_Grid) (p1 : api_Grid) : Option (Int × Int) :=
  Option.bind (F_grid_Check p0) fun r14 =>
  if r14 != 0 then
    some (0, r14)
  else
    Option.bind (F_grid_Check p1) fun r21 =>
    if r21 != 0 then
      some (0, r21)
    else
      Option.bind (α := Bool) (
        if p0.W != p1.W then
          some true
        else
          some (p0.H != p1.H)) fun o27 =>
      if o27 then
        some (0, 2)
      else
        Option.bind (F_compare_differ p0.Bits p1.Bits) fun r34 =>
        some (r34, 0)
set_option maxHeartbeats 4000000 in
set_option maxRecDepth 100000 in
theorem c_compare_Cells (E : Nat → Prop) (w0 : World) (p0 : api_Grid) (v0 : Value) (p1 : api_Grid) (v1 : Value) (r : (Int × Int)) (h : F_compare_Cells p0 p1 = some r) (S : St0 E [] w0 w0 [] [fRep r_api_Grid (v0) p0, fRep r_api_Grid (v1) p1]) :
    Calls Try.prog 14 #[v0, v1] w0 (Ret (X := Unit) E [] w0 (fun _ => .tuple #[.int .i64 r.1, .int .i64 r.2]) (fun _ => []) (fun _ => [])) := by
  unfold F_compare_Cells at h
  obtain ⟨u1, rfl, hu2⟩ := S.know (i := 0) (e := fRep r_api_Grid (v0) p0) rfl
  have S := S.learn (fRep (rL rB) u1 p0.Bits) hu2
  obtain ⟨ad3, cp4, _, rfl, _⟩ := hu2
  obtain ⟨u5, rfl, hu6⟩ := S.know (i := 2) (e := fRep r_api_Grid (v1) p1) rfl
  have S := S.learn (fRep (rL rB) u5 p1.Bits) hu6
  obtain ⟨ad7, cp8, _, rfl, _⟩ := hu6
  refine sEnter (args := [.agg #[iv p0.W, iv p0.H, .slice ad3 p0.Bits.length cp4], .agg #[iv p1.W, iv p1.H, .slice ad7 p1.Bits.length cp8]]) 35 Try.func14 rfl rfl (by simp) S (fun a S => ?_)
  refine sSeq (fun K9 hK9 => ?_)
  refine sRegion ?_
  refine sBox (v := .agg #[iv p0.W, iv p0.H, .slice ad3 p0.Bits.length cp4]) S (wN rfl) rfl rfl [iv p0.W, iv p0.H, .slice ad3 p0.Bits.length cp4] rfl rfl (lb rfl) fun a b10 w S => ?_
  refine sBox (v := .agg #[iv p1.W, iv p1.H, .slice ad7 p1.Bits.length cp8]) S (wN rfl) rfl rfl [iv p1.W, iv p1.H, .slice ad7 p1.Bits.length cp8] rfl rfl (lb rfl) fun a b11 w S => ?_
  refine sMove (iv 0) S (wN rfl) (.inr rfl) rfl rfl (lb rfl) fun a S => ?_
  refine sMove (iv 0) S (wN rfl) (.inr rfl) rfl rfl (lb rfl) fun a S => ?_
  refine leafL (leafT (hK9 _ _ ?_))
  refine sSeq (fun K12 hK12 => ?_)
  refine sSeq (fun K13 hK13 => ?_)
  refine sRegion ?_
  refine sLoadN (p := b10) (off := 0) (T := 24) (vs := [iv p0.W, iv p0.H, .slice ad3 p0.Bits.length cp4]) 1 [iv p0.W, iv p0.H, .slice ad3 p0.Bits.length cp4] S (wN rfl) rfl rfl rfl rfl rfl rfl rfl (lb rfl) fun a S => ?_
  obtain ⟨r14, hx15, h⟩ := bindSome h
  have S1 := S.mem
  refine sCallQ (X := Unit) (f := 45) (vs := [.agg #[iv p0.W, iv p0.H, .slice ad3 p0.Bits.length cp4]]) (val := fun _ => iv r14) S (wN rfl) rfl callee45 rfl (S1.quiet [2] rfl) (fun E1 w1 S1 => c_grid_Check E1 w1 p0 (.agg #[iv p0.W, iv p0.H, .slice ad3 p0.Bits.length cp4]) r14 hx15 S1) rfl (lb rfl) fun _ a w S => ?_
  refine sMove (iv r14) S (wN rfl) (.inr rfl) rfl rfl (lb rfl) fun a S => ?_
  refine leafL (leafT (hK13 _ _ ?_))
  refine sSeq (fun K16 hK16 => ?_)
  refine sRegion ?_
  refine sMove (iv r14) S (wN rfl) (.inl rfl) rfl rfl (lb rfl) fun a S => ?_
  refine sBin (.bool (r14 != 0)) S (wN rfl) rfl rfl rfl (bNe _ _ _ _ .i64 r14 0) rfl (lb rfl) fun a S => ?_
  refine leafL (leafT (hK16 _ _ ?_))
  rcases iteSome h with ⟨hc17, h⟩ | ⟨hc17, h⟩
  · refine sCondT S rfl hc17 ?_
    refine sSeq (fun K18 hK18 => ?_)
    refine sRegion ?_
    refine sMove (iv r14) S (wN rfl) (.inl rfl) rfl rfl (lb rfl) fun a S => ?_
    refine sMove (iv 0) S (wN rfl) (.inr rfl) rfl rfl (lb rfl) fun a S => ?_
    refine sMove (iv r14) S (wN rfl) (.inr rfl) rfl rfl (lb rfl) fun a S => ?_
    refine leafL (leafT (hK18 _ _ ?_))
    obtain rfl := Option.some.inj h
    exact wp_ret (rThen (sRet (.tuple #[iv 0, iv r14]) S (rsl2 rfl (rvT (t := 4) (v := iv 0) S rfl) (rvT (t := 5) (v := iv r14) S rfl)) ⟨(), rfl, S.mem.sel [] [] (by decide) rfl rfl⟩))
  refine sCondF S rfl hc17 ?_
  refine wp_skip (leafT (hK12 _ _ ?_))
  refine sSeq (fun K19 hK19 => ?_)
  refine sSeq (fun K20 hK20 => ?_)
  refine sRegion ?_
  refine sLoadN (p := b11) (off := 0) (T := 24) (vs := [iv p1.W, iv p1.H, .slice ad7 p1.Bits.length cp8]) 0 [iv p1.W, iv p1.H, .slice ad7 p1.Bits.length cp8] S (wN rfl) rfl rfl rfl rfl rfl rfl rfl (lb rfl) fun a S => ?_
  obtain ⟨r21, hx22, h⟩ := bindSome h
  have S1 := S.mem
  refine sCallQ (X := Unit) (f := 45) (vs := [.agg #[iv p1.W, iv p1.H, .slice ad7 p1.Bits.length cp8]]) (val := fun _ => iv r21) S (wN rfl) rfl callee45 rfl (S1.quiet [3] rfl) (fun E1 w1 S1 => c_grid_Check E1 w1 p1 (.agg #[iv p1.W, iv p1.H, .slice ad7 p1.Bits.length cp8]) r21 hx22 S1) rfl (lb rfl) fun _ a w S => ?_
  refine sMove (iv r21) S (wN rfl) (.inr rfl) rfl rfl (lb rfl) fun a S => ?_
  refine leafL (leafT (hK20 _ _ ?_))
  refine sSeq (fun K23 hK23 => ?_)
  refine sRegion ?_
  refine sMove (iv r21) S (wN rfl) (.inl rfl) rfl rfl (lb rfl) fun a S => ?_
  refine sBin (.bool (r21 != 0)) S (wN rfl) rfl rfl rfl (bNe _ _ _ _ .i64 r21 0) rfl (lb rfl) fun a S => ?_
  refine leafL (leafT (hK23 _ _ ?_))
  rcases iteSome h with ⟨hc24, h⟩ | ⟨hc24, h⟩
  · refine sCondT S rfl hc24 ?_
    refine sSeq (fun K25 hK25 => ?_)
    refine sRegion ?_
    refine sMove (iv r21) S (wN rfl) (.inl rfl) rfl rfl (lb rfl) fun a S => ?_
    refine sMove (iv 0) S (wN rfl) (.inr rfl) rfl rfl (lb rfl) fun a S => ?_
    refine sMove (iv r21) S (wN rfl) (.inr rfl) rfl rfl (lb rfl) fun a S => ?_
    refine leafL (leafT (hK25 _ _ ?_))
    obtain rfl := Option.some.inj h
    exact wp_ret (rThen (sRet (.tuple #[iv 0, iv r21]) S (rsl2 rfl (rvT (t := 4) (v := iv 0) S rfl) (rvT (t := 5) (v := iv r21) S rfl)) ⟨(), rfl, S.mem.sel [] [] (by decide) rfl rfl⟩))
  refine sCondF S rfl hc24 ?_
  refine wp_skip (leafT (hK19 _ _ ?_))
  refine sSeq (fun K26 hK26 => ?_)
  obtain ⟨t28, h, g29⟩ := bindSome h
  refine sCut (fun a w => ∃ o27, o27 = t28 ∧ St [] E [] w0 35 a w [(2, .pointer (some ⟨b10, 0, none⟩)), (3, .pointer (some ⟨b11, 0, none⟩)), (29, .bool o27)] [eBox b10 24 [iv p0.W, iv p0.H, .slice ad3 p0.Bits.length cp4], eBox b11 24 [iv p1.W, iv p1.H, .slice ad7 p1.Bits.length cp8]] [fRep (rL rB) (.slice ad3 p0.Bits.length cp4) p0.Bits, fRep (rL rB) (.slice ad7 p1.Bits.length cp8) p1.Bits]) ?_ (fun a w hI => ?_)
  rotate_left
  · obtain ⟨o27, rfl, S⟩ := hI
    have h := g29
    clear g29
    try dsimp only at h
    rcases iteSome h with ⟨hc31, h⟩ | ⟨hc31, h⟩
    · refine sCondT S rfl hc31 ?_
      refine sSeq (fun K32 hK32 => ?_)
      refine sRegion ?_
      refine sMove (iv 0) S (wN rfl) (.inr rfl) rfl rfl (lb rfl) fun a S => ?_
      refine sMove (iv 2) S (wN rfl) (.inr rfl) rfl rfl (lb rfl) fun a S => ?_
      refine leafL (leafT (hK32 _ _ ?_))
      obtain rfl := Option.some.inj h
      exact wp_ret (rThen (sRet (.tuple #[iv 0, iv 2]) S (rsl2 rfl (rvT (t := 4) (v := iv 0) S rfl) (rvT (t := 5) (v := iv 2) S rfl)) ⟨(), rfl, S.mem.sel [] [] (by decide) rfl rfl⟩))
    refine sCondF S rfl hc31 ?_
    refine wp_skip (leafT (hK26 _ _ ?_))
    refine sSeq (fun K33 hK33 => ?_)
    refine sRegion ?_
    refine sField (b := b10) (off := 0) 2 2 S (wN rfl) rfl rfl rfl rfl rfl (lb rfl) fun a S => ?_
    refine sLoad1 (p := b10) (off := 2) (T := 24) (vs := [iv p0.W, iv p0.H, .slice ad3 p0.Bits.length cp4]) 0 (.slice ad3 p0.Bits.length cp4) S (wN rfl) rfl rfl rfl rfl rfl rfl (lb rfl) fun a S => ?_
    refine sField (b := b11) (off := 0) 2 2 S (wN rfl) rfl rfl rfl rfl rfl (lb rfl) fun a S => ?_
    refine sLoad1 (p := b11) (off := 2) (T := 24) (vs := [iv p1.W, iv p1.H, .slice ad7 p1.Bits.length cp8]) 1 (.slice ad7 p1.Bits.length cp8) S (wN rfl) rfl rfl rfl rfl rfl rfl (lb rfl) fun a S => ?_
    obtain ⟨r34, hx35, h⟩ := bindSome h
    have S1 := S.mem
    refine sCallQ (X := Unit) (f := 46) (vs := [.slice ad3 p0.Bits.length cp4, .slice ad7 p1.Bits.length cp8]) (val := fun _ => iv r34) S (wN rfl) rfl callee46 rfl (S1.quiet [0, 1] rfl) (fun E1 w1 S1 => c_compare_differ E1 w1 p0.Bits (.slice ad3 p0.Bits.length cp4) p1.Bits (.slice ad7 p1.Bits.length cp8) r34 hx35 S1) rfl (lb rfl) fun _ a w S => ?_
    refine sMove (iv r34) S (wN rfl) (.inr rfl) rfl rfl (lb rfl) fun a S => ?_
    refine sMove (iv 0) S (wN rfl) (.inr rfl) rfl rfl (lb rfl) fun a S => ?_
    refine leafL (leafT (hK33 _ _ ?_))
    obtain rfl := Option.some.inj h
    exact wp_ret (sRet (.tuple #[iv r34, iv 0]) S (rsl2 rfl (rvT (t := 4) (v := iv r34) S rfl) (rvT (t := 5) (v := iv 0) S rfl)) ⟨(), rfl, S.mem.sel [] [] (by decide) rfl rfl⟩)
  refine sRegion ?_
  refine sField (b := b10) (off := 0) 0 0 S (wN rfl) rfl rfl rfl rfl rfl (lb rfl) fun a S => ?_
  refine sLoad1 (p := b10) (off := 0) (T := 24) (vs := [iv p0.W, iv p0.H, .slice ad3 p0.Bits.length cp4]) 1 (iv p0.W) S (wN rfl) rfl rfl rfl rfl rfl rfl (lb rfl) fun a S => ?_
  refine sField (b := b11) (off := 0) 0 0 S (wN rfl) rfl rfl rfl rfl rfl (lb rfl) fun a S => ?_
  refine sLoad1 (p := b11) (off := 0) (T := 24) (vs := [iv p1.W, iv p1.H, .slice ad7 p1.Bits.length cp8]) 0 (iv p1.W) S (wN rfl) rfl rfl rfl rfl rfl rfl (lb rfl) fun a S => ?_
  refine sBin (.bool (p0.W != p1.W)) S (wN rfl) rfl rfl rfl (bNe _ _ _ _ .i64 p0.W p1.W) rfl (lb rfl) fun a S => ?_
  refine sMove (.bool (p0.W != p1.W)) S (wN rfl) (.inl rfl) rfl rfl (lb rfl) fun a S => ?_
  rcases iteSome h with ⟨hc30, h⟩ | ⟨hc30, h⟩
  · refine sSkip 5 false 23 24 S rfl rfl rfl hc30 rfl (lb rfl) fun a S => ?_
    refine sSkip 5 false 23 25 S rfl rfl rfl hc30 rfl (lb rfl) fun a S => ?_
    refine sSkip 5 false 23 26 S rfl rfl rfl hc30 rfl (lb rfl) fun a S => ?_
    refine sSkip 5 false 23 27 S rfl rfl rfl hc30 rfl (lb rfl) fun a S => ?_
    refine sSkip 5 false 23 28 S rfl rfl rfl hc30 rfl (lb rfl) fun a S => ?_
    refine sPickT (.bool true) S (wN rfl) rfl rfl hc30 rfl rfl (lb rfl) fun a S => ?_
    exact leafL (leafT (⟨true, Option.some.inj h, S.fix [1, 0] [1, 0] (by decide) rfl rfl rfl⟩))
  refine sField (b := b10) (off := 0) 1 1 S (wG 5 false 23 rfl rfl rfl hc30) rfl rfl rfl rfl rfl (lb rfl) fun a S => ?_
  refine sLoad1 (p := b10) (off := 1) (T := 24) (vs := [iv p0.W, iv p0.H, .slice ad3 p0.Bits.length cp4]) 1 (iv p0.H) S (wG 5 false 23 rfl rfl rfl hc30) rfl rfl rfl rfl rfl rfl (lb rfl) fun a S => ?_
  refine sField (b := b11) (off := 0) 1 1 S (wG 5 false 23 rfl rfl rfl hc30) rfl rfl rfl rfl rfl (lb rfl) fun a S => ?_
  refine sLoad1 (p := b11) (off := 1) (T := 24) (vs := [iv p1.W, iv p1.H, .slice ad7 p1.Bits.length cp8]) 0 (iv p1.H) S (wG 5 false 23 rfl rfl rfl hc30) rfl rfl rfl rfl rfl rfl (lb rfl) fun a S => ?_
  refine sBin (.bool (p0.H != p1.H)) S (wG 5 false 23 rfl rfl rfl hc30) rfl rfl rfl (bNe _ _ _ _ .i64 p0.H p1.H) rfl (lb rfl) fun a S => ?_
  refine sPickF (.bool (p0.H != p1.H)) S (wN rfl) rfl rfl hc30 rfl rfl (lb rfl) fun a S => ?_
  exact leafL (leafT (⟨p0.H != p1.H, Option.some.inj h, S.fix [1, 0] [1, 0] (by decide) rfl rfl rfl⟩))

end Go.Proofs.Ytffikfajljbmnaa
namespace Go.Proofs.Ytffikfajljbmnaa
open Go.RowKit
set_option linter.unusedVariables false

noncomputable def F_raddleref01_Check (p0 : api_Grid) : Option Int :=
  Option.bind (α := Bool) (
    if decide (64 < p0.W) then
      some true
    else
      some (decide (64 < p0.H))) fun o8 =>
  if o8 then
    some 4
  else
    Option.bind (α := Bool) (
      if decide (p0.W < 1) then
        some true
      else
        if decide (p0.H < 1) then
          some true
        else
          some ((p0.Bits.length : Int) != (w64 (p0.W * p0.H)))) fun o15 =>
    if o15 then
      some 8
    else
      some 0
set_option maxHeartbeats 4000000 in
set_option maxRecDepth 100000 in
theorem c_raddleref01_Check (E : Nat → Prop) (w0 : World) (p0 : api_Grid) (v0 : Value) (r : Int) (h : F_raddleref01_Check p0 = some r) (S : St0 E [] w0 w0 [] [fRep r_api_Grid (v0) p0]) :
    Calls Try.prog 80 #[v0] w0 (Ret (X := Unit) E [] w0 (fun _ => .int .i64 r) (fun _ => []) (fun _ => [])) := by
  unfold F_raddleref01_Check at h
  obtain ⟨u1, rfl, hu2⟩ := S.know (i := 0) (e := fRep r_api_Grid (v0) p0) rfl
  have S := S.learn (fRep (rL rB) u1 p0.Bits) hu2
  obtain ⟨ad3, cp4, _, rfl, _⟩ := hu2
  refine sEnter (args := [.agg #[iv p0.W, iv p0.H, .slice ad3 p0.Bits.length cp4]]) 30 Try.func80 rfl rfl (by simp) S (fun a S => ?_)
  refine sSeq (fun K5 hK5 => ?_)
  refine sRegion ?_
  refine sBox (v := .agg #[iv p0.W, iv p0.H, .slice ad3 p0.Bits.length cp4]) S (wN rfl) rfl rfl [iv p0.W, iv p0.H, .slice ad3 p0.Bits.length cp4] rfl rfl (lb rfl) fun a b6 w S => ?_
  refine sMove (iv 0) S (wN rfl) (.inr rfl) rfl rfl (lb rfl) fun a S => ?_
  refine leafL (leafT (hK5 _ _ ?_))
  refine sSeq (fun K7 hK7 => ?_)
  obtain ⟨t9, h, g10⟩ := bindSome h
  refine sCut (fun a w => ∃ o8, o8 = t9 ∧ St [] E [] w0 30 a w [(1, .pointer (some ⟨b6, 0, none⟩)), (10, .bool o8)] [eBox b6 24 [iv p0.W, iv p0.H, .slice ad3 p0.Bits.length cp4]] [fRep (rL rB) (.slice ad3 p0.Bits.length cp4) p0.Bits]) ?_ (fun a w hI => ?_)
  · refine sRegion ?_
    refine sField (b := b6) (off := 0) 0 0 S (wN rfl) rfl rfl rfl rfl rfl (lb rfl) fun a S => ?_
    refine sLoad1 (p := b6) (off := 0) (T := 24) (vs := [iv p0.W, iv p0.H, .slice ad3 p0.Bits.length cp4]) 0 (iv p0.W) S (wN rfl) rfl rfl rfl rfl rfl rfl (lb rfl) fun a S => ?_
    refine sBin (.bool (decide (64 < p0.W))) S (wN rfl) rfl rfl rfl (bGt _ _ _ _ .i64 p0.W 64) rfl (lb rfl) fun a S => ?_
    refine sMove (.bool (decide (64 < p0.W))) S (wN rfl) (.inl rfl) rfl rfl (lb rfl) fun a S => ?_
    rcases iteSome h with ⟨hc11, h⟩ | ⟨hc11, h⟩
    · refine sSkip 3 false 6 7 S rfl rfl rfl hc11 rfl (lb rfl) fun a S => ?_
      refine sSkip 3 false 6 8 S rfl rfl rfl hc11 rfl (lb rfl) fun a S => ?_
      refine sSkip 3 false 6 9 S rfl rfl rfl hc11 rfl (lb rfl) fun a S => ?_
      refine sPickT (.bool true) S (wN rfl) rfl rfl hc11 rfl rfl (lb rfl) fun a S => ?_
      exact leafL (leafT (⟨true, Option.some.inj h, S.fix [0] [0] (by decide) rfl rfl rfl⟩))
    refine sField (b := b6) (off := 0) 1 1 S (wG 3 false 6 rfl rfl rfl hc11) rfl rfl rfl rfl rfl (lb rfl) fun a S => ?_
    refine sLoad1 (p := b6) (off := 1) (T := 24) (vs := [iv p0.W, iv p0.H, .slice ad3 p0.Bits.length cp4]) 0 (iv p0.H) S (wG 3 false 6 rfl rfl rfl hc11) rfl rfl rfl rfl rfl rfl (lb rfl) fun a S => ?_
    refine sBin (.bool (decide (64 < p0.H))) S (wG 3 false 6 rfl rfl rfl hc11) rfl rfl rfl (bGt _ _ _ _ .i64 p0.H 64) rfl (lb rfl) fun a S => ?_
    refine sPickF (.bool (decide (64 < p0.H))) S (wN rfl) rfl rfl hc11 rfl rfl (lb rfl) fun a S => ?_
    exact leafL (leafT (⟨decide (64 < p0.H), Option.some.inj h, S.fix [0] [0] (by decide) rfl rfl rfl⟩))
  obtain ⟨o8, rfl, S⟩ := hI
  have h := g10
  clear g10
  try dsimp only at h
  rcases iteSome h with ⟨hc12, h⟩ | ⟨hc12, h⟩
  · refine sCondT S rfl hc12 ?_
    refine sSeq (fun K13 hK13 => ?_)
    refine sRegion ?_
    refine sMove (iv 4) S (wN rfl) (.inr rfl) rfl rfl (lb rfl) fun a S => ?_
    refine leafL (leafT (hK13 _ _ ?_))
    obtain rfl := Option.some.inj h
    exact wp_ret (rThen (sRet (iv 4) S (rsl1 rfl (rvT (t := 2) (v := iv 4) S rfl)) ⟨(), rfl, S.mem.sel [] [] (by decide) rfl rfl⟩))
  refine sCondF S rfl hc12 ?_
  refine wp_skip (leafT (hK7 _ _ ?_))
  refine sSeq (fun K14 hK14 => ?_)
  obtain ⟨t16, h, g17⟩ := bindSome h
  refine sCut (fun a w => ∃ o15, o15 = t16 ∧ St [] E [] w0 30 a w [(29, .bool o15)] [] []) ?_ (fun a w hI => ?_)
  rotate_left
  · obtain ⟨o15, rfl, S⟩ := hI
    have h := g17
    clear g17
    try dsimp only at h
    rcases iteSome h with ⟨hc20, h⟩ | ⟨hc20, h⟩
    · refine sCondT S rfl hc20 ?_
      refine sSeq (fun K21 hK21 => ?_)
      refine sRegion ?_
      refine sMove (iv 8) S (wN rfl) (.inr rfl) rfl rfl (lb rfl) fun a S => ?_
      refine leafL (leafT (hK21 _ _ ?_))
      obtain rfl := Option.some.inj h
      exact wp_ret (rThen (sRet (iv 8) S (rsl1 rfl (rvT (t := 2) (v := iv 8) S rfl)) ⟨(), rfl, S.mem.sel [] [] (by decide) rfl rfl⟩))
    refine sCondF S rfl hc20 ?_
    refine wp_skip (leafT (hK14 _ _ ?_))
    refine sSeq (fun K22 hK22 => ?_)
    refine sRegion ?_
    refine sMove (iv 0) S (wN rfl) (.inr rfl) rfl rfl (lb rfl) fun a S => ?_
    refine leafL (leafT (hK22 _ _ ?_))
    obtain rfl := Option.some.inj h
    exact wp_ret (sRet (iv 0) S (rsl1 rfl (rvT (t := 2) (v := iv 0) S rfl)) ⟨(), rfl, S.mem.sel [] [] (by decide) rfl rfl⟩)
  refine sRegion ?_
  refine sField (b := b6) (off := 0) 0 0 S (wN rfl) rfl rfl rfl rfl rfl (lb rfl) fun a S => ?_
  refine sLoad1 (p := b6) (off := 0) (T := 24) (vs := [iv p0.W, iv p0.H, .slice ad3 p0.Bits.length cp4]) 0 (iv p0.W) S (wN rfl) rfl rfl rfl rfl rfl rfl (lb rfl) fun a S => ?_
  refine sBin (.bool (decide (p0.W < 1))) S (wN rfl) rfl rfl rfl (bLt _ _ _ _ .i64 p0.W 1) rfl (lb rfl) fun a S => ?_
  refine sMove (.bool (decide (p0.W < 1))) S (wN rfl) (.inl rfl) rfl rfl (lb rfl) fun a S => ?_
  rcases iteSome h with ⟨hc18, h⟩ | ⟨hc18, h⟩
  · refine sSkip 3 false 14 15 S rfl rfl rfl hc18 rfl (lb rfl) fun a S => ?_
    refine sSkip 3 false 14 16 S rfl rfl rfl hc18 rfl (lb rfl) fun a S => ?_
    refine sSkip 3 false 14 17 S rfl rfl rfl hc18 rfl (lb rfl) fun a S => ?_
    refine sPickT (.bool true) S (wN rfl) rfl rfl hc18 rfl rfl (lb rfl) fun a S => ?_
    refine sMove (.bool true) S (wN rfl) (.inl rfl) rfl rfl (lb rfl) fun a S => ?_
    refine sSkip 8 false 19 20 S rfl rfl rfl rfl rfl (lb rfl) fun a S => ?_
    refine sSkip 8 false 19 21 S rfl rfl rfl rfl rfl (lb rfl) fun a S => ?_
    refine sSkip 8 false 19 22 S rfl rfl rfl rfl rfl (lb rfl) fun a S => ?_
    refine sSkip 8 false 19 23 S rfl rfl rfl rfl rfl (lb rfl) fun a S => ?_
    refine sSkip 8 false 19 24 S rfl rfl rfl rfl rfl (lb rfl) fun a S => ?_
    refine sSkip 8 false 19 25 S rfl rfl rfl rfl rfl (lb rfl) fun a S => ?_
    refine sSkip 8 false 19 26 S rfl rfl rfl rfl rfl (lb rfl) fun a S => ?_
    refine sSkip 8 false 19 27 S rfl rfl rfl rfl rfl (lb rfl) fun a S => ?_
    refine sSkip 8 false 19 28 S rfl rfl rfl rfl rfl (lb rfl) fun a S => ?_
    refine sPickT (.bool true) S (wN rfl) rfl rfl rfl rfl rfl (lb rfl) fun a S => ?_
    exact leafL (leafT (⟨true, Option.some.inj h, S.fix [] [] (by decide) rfl rfl rfl⟩))
  refine sField (b := b6) (off := 0) 1 1 S (wG 3 false 14 rfl rfl rfl hc18) rfl rfl rfl rfl rfl (lb rfl) fun a S => ?_
  refine sLoad1 (p := b6) (off := 1) (T := 24) (vs := [iv p0.W, iv p0.H, .slice ad3 p0.Bits.length cp4]) 0 (iv p0.H) S (wG 3 false 14 rfl rfl rfl hc18) rfl rfl rfl rfl rfl rfl (lb rfl) fun a S => ?_
  refine sBin (.bool (decide (p0.H < 1))) S (wG 3 false 14 rfl rfl rfl hc18) rfl rfl rfl (bLt _ _ _ _ .i64 p0.H 1) rfl (lb rfl) fun a S => ?_
  refine sPickF (.bool (decide (p0.H < 1))) S (wN rfl) rfl rfl hc18 rfl rfl (lb rfl) fun a S => ?_
  refine sMove (.bool (decide (p0.H < 1))) S (wN rfl) (.inl rfl) rfl rfl (lb rfl) fun a S => ?_
  rcases iteSome h with ⟨hc19, h⟩ | ⟨hc19, h⟩
  · refine sSkip 8 false 19 20 S rfl rfl rfl hc19 rfl (lb rfl) fun a S => ?_
    refine sSkip 8 false 19 21 S rfl rfl rfl hc19 rfl (lb rfl) fun a S => ?_
    refine sSkip 8 false 19 22 S rfl rfl rfl hc19 rfl (lb rfl) fun a S => ?_
    refine sSkip 8 false 19 23 S rfl rfl rfl hc19 rfl (lb rfl) fun a S => ?_
    refine sSkip 8 false 19 24 S rfl rfl rfl hc19 rfl (lb rfl) fun a S => ?_
    refine sSkip 8 false 19 25 S rfl rfl rfl hc19 rfl (lb rfl) fun a S => ?_
    refine sSkip 8 false 19 26 S rfl rfl rfl hc19 rfl (lb rfl) fun a S => ?_
    refine sSkip 8 false 19 27 S rfl rfl rfl hc19 rfl (lb rfl) fun a S => ?_
    refine sSkip 8 false 19 28 S rfl rfl rfl hc19 rfl (lb rfl) fun a S => ?_
    refine sPickT (.bool true) S (wN rfl) rfl rfl hc19 rfl rfl (lb rfl) fun a S => ?_
    exact leafL (leafT (⟨true, Option.some.inj h, S.fix [] [] (by decide) rfl rfl rfl⟩))
  refine sField (b := b6) (off := 0) 2 2 S (wG 8 false 19 rfl rfl rfl hc19) rfl rfl rfl rfl rfl (lb rfl) fun a S => ?_
  refine sLoad1 (p := b6) (off := 2) (T := 24) (vs := [iv p0.W, iv p0.H, .slice ad3 p0.Bits.length cp4]) 0 (.slice ad3 p0.Bits.length cp4) S (wG 8 false 19 rfl rfl rfl hc19) rfl rfl rfl rfl rfl rfl (lb rfl) fun a S => ?_
  refine sLen (ad := ad3) (m := p0.Bits.length) (c := cp4) S (wG 8 false 19 rfl rfl rfl hc19) rfl Try.underlying22 rfl rfl (lb rfl) fun a S => ?_
  refine sField (b := b6) (off := 0) 0 0 S (wG 8 false 19 rfl rfl rfl hc19) rfl rfl rfl rfl rfl (lb rfl) fun a S => ?_
  refine sLoad1 (p := b6) (off := 0) (T := 24) (vs := [iv p0.W, iv p0.H, .slice ad3 p0.Bits.length cp4]) 0 (iv p0.W) S (wG 8 false 19 rfl rfl rfl hc19) rfl rfl rfl rfl rfl rfl (lb rfl) fun a S => ?_
  refine sField (b := b6) (off := 0) 1 1 S (wG 8 false 19 rfl rfl rfl hc19) rfl rfl rfl rfl rfl (lb rfl) fun a S => ?_
  refine sLoad1 (p := b6) (off := 1) (T := 24) (vs := [iv p0.W, iv p0.H, .slice ad3 p0.Bits.length cp4]) 0 (iv p0.H) S (wG 8 false 19 rfl rfl rfl hc19) rfl rfl rfl rfl rfl rfl (lb rfl) fun a S => ?_
  refine sBin (iv (w64 (p0.W * p0.H))) S (wG 8 false 19 rfl rfl rfl hc19) rfl rfl rfl (bMul _ _ _ _ p0.W p0.H) rfl (lb rfl) fun a S => ?_
  refine sBin (.bool ((p0.Bits.length : Int) != (w64 (p0.W * p0.H)))) S (wG 8 false 19 rfl rfl rfl hc19) rfl rfl rfl (bNe _ _ _ _ .i64 (p0.Bits.length : Int) (w64 (p0.W * p0.H))) rfl (lb rfl) fun a S => ?_
  refine sPickF (.bool ((p0.Bits.length : Int) != (w64 (p0.W * p0.H)))) S (wN rfl) rfl rfl hc19 rfl rfl (lb rfl) fun a S => ?_
  exact leafL (leafT (⟨(p0.Bits.length : Int) != (w64 (p0.W * p0.H)), Option.some.inj h, S.fix [] [] (by decide) rfl rfl rfl⟩))

end Go.Proofs.Ytffikfajljbmnaa
namespace Go.Proofs.Ytffikfajljbmnaa
open Go.RowKit
set_option linter.unusedVariables false

noncomputable def F_raddleref01_Both (p0 : api_Grid) (p1 : api_Grid) : Option Int :=
  Option.bind (F_raddleref01_Check p0) fun r14 =>
  if r14 != 0 then
    some r14
  else
    Option.bind (F_raddleref01_Check p1) fun r19 =>
    some r19
set_option maxHeartbeats 4000000 in
set_option maxRecDepth 100000 in
theorem c_raddleref01_Both (E : Nat → Prop) (w0 : World) (p0 : api_Grid) (v0 : Value) (p1 : api_Grid) (v1 : Value) (r : Int) (h : F_raddleref01_Both p0 p1 = some r) (S : St0 E [] w0 w0 [] [fRep r_api_Grid (v0) p0, fRep r_api_Grid (v1) p1]) :
    Calls Try.prog 47 #[v0, v1] w0 (Ret (X := Unit) E [] w0 (fun _ => .int .i64 r) (fun _ => []) (fun _ => [])) := by
  unfold F_raddleref01_Both at h
  obtain ⟨u1, rfl, hu2⟩ := S.know (i := 0) (e := fRep r_api_Grid (v0) p0) rfl
  have S := S.learn (fRep (rL rB) u1 p0.Bits) hu2
  obtain ⟨ad3, cp4, _, rfl, _⟩ := hu2
  obtain ⟨u5, rfl, hu6⟩ := S.know (i := 2) (e := fRep r_api_Grid (v1) p1) rfl
  have S := S.learn (fRep (rL rB) u5 p1.Bits) hu6
  obtain ⟨ad7, cp8, _, rfl, _⟩ := hu6
  refine sEnter (args := [.agg #[iv p0.W, iv p0.H, .slice ad3 p0.Bits.length cp4], .agg #[iv p1.W, iv p1.H, .slice ad7 p1.Bits.length cp8]]) 12 Try.func47 rfl rfl (by simp) S (fun a S => ?_)
  refine sSeq (fun K9 hK9 => ?_)
  refine sRegion ?_
  refine sBox (v := .agg #[iv p0.W, iv p0.H, .slice ad3 p0.Bits.length cp4]) S (wN rfl) rfl rfl [iv p0.W, iv p0.H, .slice ad3 p0.Bits.length cp4] rfl rfl (lb rfl) fun a b10 w S => ?_
  refine sBox (v := .agg #[iv p1.W, iv p1.H, .slice ad7 p1.Bits.length cp8]) S (wN rfl) rfl rfl [iv p1.W, iv p1.H, .slice ad7 p1.Bits.length cp8] rfl rfl (lb rfl) fun a b11 w S => ?_
  refine sMove (iv 0) S (wN rfl) (.inr rfl) rfl rfl (lb rfl) fun a S => ?_
  refine leafL (leafT (hK9 _ _ ?_))
  refine sSeq (fun K12 hK12 => ?_)
  refine sSeq (fun K13 hK13 => ?_)
  refine sRegion ?_
  refine sLoadN (p := b10) (off := 0) (T := 24) (vs := [iv p0.W, iv p0.H, .slice ad3 p0.Bits.length cp4]) 1 [iv p0.W, iv p0.H, .slice ad3 p0.Bits.length cp4] S (wN rfl) rfl rfl rfl rfl rfl rfl rfl (lb rfl) fun a S => ?_
  obtain ⟨r14, hx15, h⟩ := bindSome h
  have S1 := S.mem
  refine sCallQ (X := Unit) (f := 80) (vs := [.agg #[iv p0.W, iv p0.H, .slice ad3 p0.Bits.length cp4]]) (val := fun _ => iv r14) S (wN rfl) rfl callee80 rfl (S1.quiet [2] rfl) (fun E1 w1 S1 => c_raddleref01_Check E1 w1 p0 (.agg #[iv p0.W, iv p0.H, .slice ad3 p0.Bits.length cp4]) r14 hx15 S1) rfl (lb rfl) fun _ a w S => ?_
  refine sBin (.bool (r14 != 0)) S (wN rfl) rfl rfl rfl (bNe _ _ _ _ .i64 r14 0) rfl (lb rfl) fun a S => ?_
  refine leafL (leafT (hK13 _ _ ?_))
  rcases iteSome h with ⟨hc16, h⟩ | ⟨hc16, h⟩
  · refine sCondT S rfl hc16 ?_
    refine sSeq (fun K17 hK17 => ?_)
    refine sRegion ?_
    refine sLoadN (p := b10) (off := 0) (T := 24) (vs := [iv p0.W, iv p0.H, .slice ad3 p0.Bits.length cp4]) 1 [iv p0.W, iv p0.H, .slice ad3 p0.Bits.length cp4] S (wN rfl) rfl rfl rfl rfl rfl rfl rfl (lb rfl) fun a S => ?_
    have S1 := S.mem
    refine sCallQ (X := Unit) (f := 80) (vs := [.agg #[iv p0.W, iv p0.H, .slice ad3 p0.Bits.length cp4]]) (val := fun _ => iv r14) S (wN rfl) rfl callee80 rfl (S1.quiet [2] rfl) (fun E1 w1 S1 => c_raddleref01_Check E1 w1 p0 (.agg #[iv p0.W, iv p0.H, .slice ad3 p0.Bits.length cp4]) r14 hx15 S1) rfl (lb rfl) fun _ a w S => ?_
    refine sMove (iv r14) S (wN rfl) (.inr rfl) rfl rfl (lb rfl) fun a S => ?_
    refine leafL (leafT (hK17 _ _ ?_))
    obtain rfl := Option.some.inj h
    exact wp_ret (rThen (sRet (iv r14) S (rsl1 rfl (rvT (t := 4) (v := iv r14) S rfl)) ⟨(), rfl, S.mem.sel [] [] (by decide) rfl rfl⟩))
  refine sCondF S rfl hc16 ?_
  refine wp_skip (leafT (hK12 _ _ ?_))
  refine sSeq (fun K18 hK18 => ?_)
  refine sRegion ?_
  refine sLoadN (p := b11) (off := 0) (T := 24) (vs := [iv p1.W, iv p1.H, .slice ad7 p1.Bits.length cp8]) 0 [iv p1.W, iv p1.H, .slice ad7 p1.Bits.length cp8] S (wN rfl) rfl rfl rfl rfl rfl rfl rfl (lb rfl) fun a S => ?_
  obtain ⟨r19, hx20, h⟩ := bindSome h
  have S1 := S.mem
  refine sCallQ (X := Unit) (f := 80) (vs := [.agg #[iv p1.W, iv p1.H, .slice ad7 p1.Bits.length cp8]]) (val := fun _ => iv r19) S (wN rfl) rfl callee80 rfl (S1.quiet [3] rfl) (fun E1 w1 S1 => c_raddleref01_Check E1 w1 p1 (.agg #[iv p1.W, iv p1.H, .slice ad7 p1.Bits.length cp8]) r19 hx20 S1) rfl (lb rfl) fun _ a w S => ?_
  refine sMove (iv r19) S (wN rfl) (.inr rfl) rfl rfl (lb rfl) fun a S => ?_
  refine leafL (leafT (hK18 _ _ ?_))
  obtain rfl := Option.some.inj h
  exact wp_ret (sRet (iv r19) S (rsl1 rfl (rvT (t := 4) (v := iv r19) S rfl)) ⟨(), rfl, S.mem.sel [] [] (by decide) rfl rfl⟩)

end Go.Proofs.Ytffikfajljbmnaa
namespace Go.Proofs.Ytffikfajljbmnaa
open Go.RowKit
set_option linter.unusedVariables false

def anc_raddleref46_differ_0 : List (List Nat) := [[], [0], [], [0, 1, 2], [0, 1, 2, 3], [], [5], [], [5, 6, 7], [5, 6, 7, 8], [0, 1, 2, 3, 4, 5, 6, 7, 8, 9]]
noncomputable def raddleref46_differ_l1 (p0 : api_Grid) (p1 : api_Grid) : (Int × Int) → Option ((Int × Int) ⊕ Int) := fun s0 => match s0 with
  | (s17, s18) =>
    if decide (s18 < (p0.Bits.length : Int)) then
      Option.bind (α := Int) (
        Option.bind (idxO p0.Bits s18) fun x30 =>
        Option.bind (idxO p1.Bits s18) fun x35 =>
        if x30 != x35 then
          some (w64 (s17 + 1))
        else
          some s17) fun o26 =>
      some (.inl (o26, w64 (s18 + 1)))
    else
      some (.inr s17)
noncomputable def F_raddleref46_differ (p0 : api_Grid) (p1 : api_Grid) : Option Int :=
  Option.bind (α := Int) (
    Option.bind (whileO (raddleref46_differ_l1 p0 p1) (0, 0)) fun e22 =>
      some e22) fun o13 =>
  some o13
set_option maxHeartbeats 4000000 in
set_option maxRecDepth 100000 in
theorem c_raddleref46_differ (E : Nat → Prop) (w0 : World) (p0 : api_Grid) (v0 : Value) (p1 : api_Grid) (v1 : Value) (r : Int) (h : F_raddleref46_differ p0 p1 = some r) (S : St0 E [] w0 w0 [] [fRep r_api_Grid (v0) p0, fRep r_api_Grid (v1) p1]) :
    Calls Try.prog 48 #[v0, v1] w0 (Ret (X := Unit) E [] w0 (fun _ => .int .i64 r) (fun _ => []) (fun _ => [])) := by
  unfold F_raddleref46_differ at h
  obtain ⟨u1, rfl, hu2⟩ := S.know (i := 0) (e := fRep r_api_Grid (v0) p0) rfl
  have S := S.learn (fRep (rL rB) u1 p0.Bits) hu2
  obtain ⟨ad3, cp4, _, rfl, _⟩ := hu2
  obtain ⟨u5, rfl, hu6⟩ := S.know (i := 2) (e := fRep r_api_Grid (v1) p1) rfl
  have S := S.learn (fRep (rL rB) u5 p1.Bits) hu6
  obtain ⟨ad7, cp8, _, rfl, _⟩ := hu6
  refine sEnter (args := [.agg #[iv p0.W, iv p0.H, .slice ad3 p0.Bits.length cp4], .agg #[iv p1.W, iv p1.H, .slice ad7 p1.Bits.length cp8]]) 28 Try.func48 rfl rfl (by simp) S (fun a S => ?_)
  refine sSeq (fun K9 hK9 => ?_)
  refine sRegion ?_
  refine sBox (v := .agg #[iv p0.W, iv p0.H, .slice ad3 p0.Bits.length cp4]) S (wN rfl) rfl rfl [iv p0.W, iv p0.H, .slice ad3 p0.Bits.length cp4] rfl rfl (lb rfl) fun a b10 w S => ?_
  refine sBox (v := .agg #[iv p1.W, iv p1.H, .slice ad7 p1.Bits.length cp8]) S (wN rfl) rfl rfl [iv p1.W, iv p1.H, .slice ad7 p1.Bits.length cp8] rfl rfl (lb rfl) fun a b11 w S => ?_
  refine sMove (iv 0) S (wN rfl) (.inr rfl) rfl rfl (lb rfl) fun a S => ?_
  refine leafL (leafT (hK9 _ _ ?_))
  refine sSeq (fun K12 hK12 => ?_)
  refine sRegion ?_
  refine sMove (iv 0) S (wN rfl) (.inr rfl) rfl rfl (lb rfl) fun a S => ?_
  refine leafL (leafT (hK12 _ _ ?_))
  obtain ⟨t14, h, g15⟩ := bindSome h
  refine sCut (fun a w => ∃ o13, o13 = t14 ∧ St [] E [] w0 28 a w [(5, iv o13)] [] []) ?_ (fun a w hI => ?_)
  rotate_left
  · obtain ⟨o13, rfl, S⟩ := hI
    have h := g15
    clear g15
    try dsimp only at h
    refine sSeq (fun K47 hK47 => ?_)
    refine sRegion ?_
    refine sMove (iv o13) S (wN rfl) (.inl rfl) rfl rfl (lb rfl) fun a S => ?_
    refine sMove (iv o13) S (wN rfl) (.inr rfl) rfl rfl (lb rfl) fun a S => ?_
    refine leafL (leafT (hK47 _ _ ?_))
    obtain rfl := Option.some.inj h
    exact wp_ret (sRet (iv o13) S (rsl1 rfl (rvT (t := 4) (v := iv o13) S rfl)) ⟨(), rfl, S.mem.sel [] [] (by decide) rfl rfl⟩)
  refine sSeq (fun K16 hK16 => ?_)
  refine sRegion ?_
  refine sMove (iv 0) S (wN rfl) (.inr rfl) rfl rfl (lb rfl) fun a S => ?_
  refine leafL (leafT (hK16 _ _ ?_))
  refine wp_block ?_
  obtain ⟨t21, hl, g20⟩ := bindSome h
  refine sLoop hl (fun s0 a w => match s0 with | (s17, s18) => St [] E [] w0 28 a w [(2, .pointer (some ⟨b10, 0, none⟩)), (3, .pointer (some ⟨b11, 0, none⟩)), (5, iv s17), (6, iv s18)] [eBox b10 24 [iv p0.W, iv p0.H, .slice ad3 p0.Bits.length cp4], eBox b11 24 [iv p1.W, iv p1.H, .slice ad7 p1.Bits.length cp8]] [fRep (rL rB) (.slice ad3 p0.Bits.length cp4) p0.Bits, fRep (rL rB) (.slice ad7 p1.Bits.length cp8) p1.Bits]) (S.fix [1, 0] [1, 0] (by decide) rfl rfl rfl) ?_
  clear hl h
  intro s0 a w c0 hI h hu19
  obtain ⟨s17, s18⟩ := s0
  unfold raddleref46_differ_l1 at h
  dsimp only at h hI
  have S := hI
  refine sSeq (fun K23 hK23 => ?_)
  refine sSeq (fun K24 hK24 => ?_)
  refine sRegion ?_
  refine sMove (iv s18) S (wN rfl) (.inl rfl) rfl rfl (lb rfl) fun a S => ?_
  refine sField (b := b10) (off := 0) 2 2 S (wN rfl) rfl rfl rfl rfl rfl (lb rfl) fun a S => ?_
  refine sLoad1 (p := b10) (off := 2) (T := 24) (vs := [iv p0.W, iv p0.H, .slice ad3 p0.Bits.length cp4]) 0 (.slice ad3 p0.Bits.length cp4) S (wN rfl) rfl rfl rfl rfl rfl rfl (lb rfl) fun a S => ?_
  refine sLen (ad := ad3) (m := p0.Bits.length) (c := cp4) S (wN rfl) rfl Try.underlying22 rfl rfl (lb rfl) fun a S => ?_
  refine sBin (.bool (decide (s18 < (p0.Bits.length : Int)))) S (wN rfl) rfl rfl rfl (bLt _ _ _ _ .i64 s18 (p0.Bits.length : Int)) rfl (lb rfl) fun a S => ?_
  refine leafL (leafT (hK24 _ _ ?_))
  rcases iteSome h with ⟨hc25, h⟩ | ⟨hc25, h⟩
  rotate_left
  · refine sCondF S rfl hc25 ?_
    obtain rfl := Option.some.inj h
    obtain rfl := hu19 _ rfl
    have h := g20
    clear g20
    try dsimp only at h
    exact wp_exit (xThen (xThen (xHit (leafT (⟨s17, Option.some.inj h, S.fix [] [] (by decide) rfl rfl rfl⟩)))))
  refine sCondT S rfl hc25 ?_
  refine wp_skip (leafT (hK23 _ _ ?_))
  obtain ⟨t27, h, g28⟩ := bindSome h
  refine sCut (fun a w => ∃ o26, o26 = t27 ∧ St [] E [] w0 28 a w [(2, .pointer (some ⟨b10, 0, none⟩)), (3, .pointer (some ⟨b11, 0, none⟩)), (5, iv o26), (6, iv s18)] [eBox b10 24 [iv p0.W, iv p0.H, .slice ad3 p0.Bits.length cp4], eBox b11 24 [iv p1.W, iv p1.H, .slice ad7 p1.Bits.length cp8]] [fRep (rL rB) (.slice ad3 p0.Bits.length cp4) p0.Bits, fRep (rL rB) (.slice ad7 p1.Bits.length cp8) p1.Bits]) ?_ (fun a w hI => ?_)
  rotate_left
  · obtain ⟨o26, rfl, S⟩ := hI
    have h := g28
    clear g28
    try dsimp only at h
    refine sRegion ?_
    refine sMove (iv s18) S (wN rfl) (.inl rfl) rfl rfl (lb rfl) fun a S => ?_
    refine sBin (iv (w64 (s18 + 1))) S (wN rfl) rfl rfl rfl (bAdd _ _ _ _ s18 1) rfl (lb rfl) fun a S => ?_
    refine sMove (iv (w64 (s18 + 1))) S (wN rfl) (.inr rfl) rfl rfl (lb rfl) fun a S => ?_
    exact leafL (leafT (⟨(o26, w64 (s18 + 1)), (Option.some.inj h).symm, (S.fix [0, 1] [0, 1] (by decide) rfl rfl rfl)⟩))
  refine wp_block ?_
  refine sSeq (fun K29 hK29 => ?_)
  obtain ⟨x30, hx31, h⟩ := bindSome h
  obtain ⟨x35, hx36, h⟩ := bindSome h
  obtain ⟨q40, hq41, S⟩ := pIdx (P := Try.prog) (r := rB) (v := .slice ad3 p0.Bits.length cp4) (xs := p0.Bits) (j := s18) 22 4 0 S Try.underlying22 rfl rfl hx31
  obtain ⟨u42, S⟩ := pLoad (r := rB) (q := q40) (x := x30) 0 S rfl
  obtain rfl : u42 = .bool x30 := S.mem.know (i := 1) (e := fRep rB (u42) x30) rfl
  obtain ⟨q43, hq44, S⟩ := pIdx (P := Try.prog) (r := rB) (v := .slice ad7 p1.Bits.length cp8) (xs := p1.Bits) (j := s18) 22 4 4 S Try.underlying22 rfl rfl hx36
  obtain ⟨u45, S⟩ := pLoad (r := rB) (q := q43) (x := x35) 0 S rfl
  obtain rfl : u45 = .bool x35 := S.mem.know (i := 1) (e := fRep rB (u45) x35) rfl
  refine sDraw (nf := []) (W := [(0, 14, .pointer (some ⟨b10, 2, none⟩)), (1, 15, .slice ad3 p0.Bits.length cp4), (2, 16, iv s18), (3, 17, q40), (4, 18, .bool x30), (5, 19, .pointer (some ⟨b11, 2, none⟩)), (6, 20, .slice ad7 p1.Bits.length cp8), (7, 21, iv s18), (8, 22, q43), (9, 23, .bool x35), (10, 24, .bool (x30 != x35))]) rfl S ?_
  refine node_by (A := anc_raddleref46_differ_0) (nf := []) (Y := []) (W := [(0, 14, .pointer (some ⟨b10, 2, none⟩)), (1, 15, .slice ad3 p0.Bits.length cp4), (2, 16, iv s18), (3, 17, q40), (4, 18, .bool x30), (5, 19, .pointer (some ⟨b11, 2, none⟩)), (6, 20, .slice ad7 p1.Bits.length cp8), (7, 21, iv s18), (8, 22, q43), (9, 23, .bool x35), (10, 24, .bool (x30 != x35))]) 11 (by kernel_rfl) (by kernel_rfl) (by kernel_rfl) (by kernel_rfl) (by kernel_rfl) [0, 1, 2, 3, 4, 5, 6, 7, 8, 9, 10] (by kernel_rfl) (by decide) (by decide) (aF 0 10 (by decide) ?_ (aF 1 9 (by decide) ?_ (aF 2 8 (by decide) ?_ (aF 3 7 (by decide) ?_ (aF 4 6 (by decide) ?_ (aF 5 5 (by decide) ?_ (aF 6 4 (by decide) ?_ (aF 7 3 (by decide) ?_ (aF 8 2 (by decide) ?_ (aF 9 1 (by decide) ?_ (aF 10 0 (by decide) ?_ (trivial)))))))))))) [(2, .pointer (some ⟨b10, 0, none⟩)), (3, .pointer (some ⟨b11, 0, none⟩)), (5, iv s17), (6, iv s18), (24, .bool (x30 != x35))] (fin_of [none, none, none, none, some 10] rfl (by kernel_rfl) (by kernel_rfl)) (fun _ a w S => ?_)
  · refine fI 14 (.pointer (some ⟨b10, 2, none⟩)) [(2, .pointer (some ⟨b10, 0, none⟩))] 0 [none] rfl rfl rfl rfl rfl rfl fun G a w S => ?_
    refine sField (b := b10) (off := 0) 2 2 S (wN rfl) rfl rfl rfl rfl rfl (lb rfl) fun a S => ?_
    exact leafL ⟨rfl, S⟩
  · refine fI 15 (.slice ad3 p0.Bits.length cp4) [(14, .pointer (some ⟨b10, 2, none⟩))] 1 [some 0] rfl rfl rfl rfl rfl rfl fun G a w S => ?_
    refine sLoad1 (p := b10) (off := 2) (T := 24) (vs := [iv p0.W, iv p0.H, .slice ad3 p0.Bits.length cp4]) 0 (.slice ad3 p0.Bits.length cp4) S (wN rfl) rfl rfl rfl rfl rfl rfl (lb rfl) fun a S => ?_
    exact leafL ⟨rfl, S⟩
  · refine fI 16 (iv s18) [(6, iv s18)] 2 [none] rfl rfl rfl rfl rfl rfl fun G a w S => ?_
    refine sMove (iv s18) S (wN rfl) (.inl rfl) rfl rfl (lb rfl) fun a S => ?_
    exact leafL ⟨rfl, S⟩
  · refine fI 17 q40 [(15, .slice ad3 p0.Bits.length cp4), (16, iv s18)] 3 [some 1, some 2] rfl rfl rfl rfl rfl rfl fun G a w S => ?_
    refine sIdxV (v := .slice ad3 p0.Bits.length cp4) (k := .i64) (j := s18) S (wN rfl) rfl rfl rfl hq41 rfl (lb rfl) fun a S => ?_
    exact leafL ⟨rfl, S⟩
  · refine fI 18 (.bool x30) [(17, q40)] 4 [some 3] rfl rfl rfl rfl rfl rfl fun G a w S => ?_
    refine sLoadV1 (vq := q40) 3 (.bool x30) S (wN rfl) rfl rfl rfl rfl rfl (lb rfl) fun a S => ?_
    exact leafL ⟨rfl, S⟩
  · refine fI 19 (.pointer (some ⟨b11, 2, none⟩)) [(3, .pointer (some ⟨b11, 0, none⟩))] 5 [none] rfl rfl rfl rfl rfl rfl fun G a w S => ?_
    refine sField (b := b11) (off := 0) 2 2 S (wN rfl) rfl rfl rfl rfl rfl (lb rfl) fun a S => ?_
    exact leafL ⟨rfl, S⟩
  · refine fI 20 (.slice ad7 p1.Bits.length cp8) [(19, .pointer (some ⟨b11, 2, none⟩))] 6 [some 5] rfl rfl rfl rfl rfl rfl fun G a w S => ?_
    refine sLoad1 (p := b11) (off := 2) (T := 24) (vs := [iv p1.W, iv p1.H, .slice ad7 p1.Bits.length cp8]) 1 (.slice ad7 p1.Bits.length cp8) S (wN rfl) rfl rfl rfl rfl rfl rfl (lb rfl) fun a S => ?_
    exact leafL ⟨rfl, S⟩
  · refine fI 21 (iv s18) [(6, iv s18)] 7 [none] rfl rfl rfl rfl rfl rfl fun G a w S => ?_
    refine sMove (iv s18) S (wN rfl) (.inl rfl) rfl rfl (lb rfl) fun a S => ?_
    exact leafL ⟨rfl, S⟩
  · refine fI 22 q43 [(20, .slice ad7 p1.Bits.length cp8), (21, iv s18)] 8 [some 6, some 7] rfl rfl rfl rfl rfl rfl fun G a w S => ?_
    refine sIdxV (v := .slice ad7 p1.Bits.length cp8) (k := .i64) (j := s18) S (wN rfl) rfl rfl rfl hq44 rfl (lb rfl) fun a S => ?_
    exact leafL ⟨rfl, S⟩
  · refine fI 23 (.bool x35) [(22, q43)] 9 [some 8] rfl rfl rfl rfl rfl rfl fun G a w S => ?_
    refine sLoadV1 (vq := q43) 0 (.bool x35) S (wN rfl) rfl rfl rfl rfl rfl (lb rfl) fun a S => ?_
    exact leafL ⟨rfl, S⟩
  · refine fI 24 (.bool (x30 != x35)) [(18, .bool x30), (23, .bool x35)] 10 [some 4, some 9] rfl rfl rfl rfl rfl rfl fun G a w S => ?_
    refine sBin (.bool (x30 != x35)) S (wN rfl) rfl rfl rfl (bNeB _ _ _ _ Try.underlying4 x30 x35) rfl (lb rfl) fun a S => ?_
    exact leafL ⟨rfl, S⟩
  refine leafT (hK29 _ _ ?_)
  rcases iteSome h with ⟨hc46, h⟩ | ⟨hc46, h⟩
  rotate_left
  · refine sCondF S rfl hc46 ?_
    exact wp_skip (leafB (leafT (⟨s17, Option.some.inj h, S.fix [0, 1] [6, 7] (by decide) rfl rfl rfl⟩)))
  refine sCondT S rfl hc46 ?_
  refine sRegion ?_
  refine sMove (iv s17) S (wN rfl) (.inl rfl) rfl rfl (lb rfl) fun a S => ?_
  refine sBin (iv (w64 (s17 + 1))) S (wN rfl) rfl rfl rfl (bAdd _ _ _ _ s17 1) rfl (lb rfl) fun a S => ?_
  refine sMove (iv (w64 (s17 + 1))) S (wN rfl) (.inr rfl) rfl rfl (lb rfl) fun a S => ?_
  exact leafL (leafB (leafT (⟨w64 (s17 + 1), Option.some.inj h, S.fix [0, 1] [6, 7] (by decide) rfl rfl rfl⟩)))

end Go.Proofs.Ytffikfajljbmnaa
namespace Go.Proofs.Ytffikfajljbmnaa
open Go.RowKit
set_option linter.unusedVariables false

noncomputable def F_raddleref46_Cells (p0 : api_Grid) (p1 : api_Grid) : Option (Int × Int) :=
  Option.bind (F_raddleref01_Both p0 p1) fun r14 =>
  if r14 != 0 then
    some (0, r14)
  else
    Option.bind (α := Bool) (
      if p0.W != p1.W then
        some true
      else
        some (p0.H != p1.H)) fun o20 =>
    if o20 then
      some (0, 2)
    else
      Option.bind (F_raddleref46_differ p0 p1) fun r27 =>
      some (r27, 0)
set_option maxHeartbeats 4000000 in
set_option maxRecDepth 100000 in
theorem c_raddleref46_Cells (E : Nat → Prop) (w0 : World) (p0 : api_Grid) (v0 : Value) (p1 : api_Grid) (v1 : Value) (r : (Int × Int)) (h : F_raddleref46_Cells p0 p1 = some r) (S : St0 E [] w0 w0 [] [fRep r_api_Grid (v0) p0, fRep r_api_Grid (v1) p1]) :
    Calls Try.prog 15 #[v0, v1] w0 (Ret (X := Unit) E [] w0 (fun _ => .tuple #[.int .i64 r.1, .int .i64 r.2]) (fun _ => []) (fun _ => [])) := by
  unfold F_raddleref46_Cells at h
  obtain ⟨u1, rfl, hu2⟩ := S.know (i := 0) (e := fRep r_api_Grid (v0) p0) rfl
  have S := S.learn (fRep (rL rB) u1 p0.Bits) hu2
  obtain ⟨ad3, cp4, _, rfl, _⟩ := hu2
  obtain ⟨u5, rfl, hu6⟩ := S.know (i := 2) (e := fRep r_api_Grid (v1) p1) rfl
  have S := S.learn (fRep (rL rB) u5 p1.Bits) hu6
  obtain ⟨ad7, cp8, _, rfl, _⟩ := hu6
  refine sEnter (args := [.agg #[iv p0.W, iv p0.H, .slice ad3 p0.Bits.length cp4], .agg #[iv p1.W, iv p1.H, .slice ad7 p1.Bits.length cp8]]) 28 Try.func15 rfl rfl (by simp) S (fun a S => ?_)
  refine sSeq (fun K9 hK9 => ?_)
  refine sRegion ?_
  refine sBox (v := .agg #[iv p0.W, iv p0.H, .slice ad3 p0.Bits.length cp4]) S (wN rfl) rfl rfl [iv p0.W, iv p0.H, .slice ad3 p0.Bits.length cp4] rfl rfl (lb rfl) fun a b10 w S => ?_
  refine sBox (v := .agg #[iv p1.W, iv p1.H, .slice ad7 p1.Bits.length cp8]) S (wN rfl) rfl rfl [iv p1.W, iv p1.H, .slice ad7 p1.Bits.length cp8] rfl rfl (lb rfl) fun a b11 w S => ?_
  refine sMove (iv 0) S (wN rfl) (.inr rfl) rfl rfl (lb rfl) fun a S => ?_
  refine sMove (iv 0) S (wN rfl) (.inr rfl) rfl rfl (lb rfl) fun a S => ?_
  refine leafL (leafT (hK9 _ _ ?_))
  refine sSeq (fun K12 hK12 => ?_)
  refine sSeq (fun K13 hK13 => ?_)
  refine sRegion ?_
  refine sLoadN (p := b10) (off := 0) (T := 24) (vs := [iv p0.W, iv p0.H, .slice ad3 p0.Bits.length cp4]) 1 [iv p0.W, iv p0.H, .slice ad3 p0.Bits.length cp4] S (wN rfl) rfl rfl rfl rfl rfl rfl rfl (lb rfl) fun a S => ?_
  refine sLoadN (p := b11) (off := 0) (T := 24) (vs := [iv p1.W, iv p1.H, .slice ad7 p1.Bits.length cp8]) 0 [iv p1.W, iv p1.H, .slice ad7 p1.Bits.length cp8] S (wN rfl) rfl rfl rfl rfl rfl rfl rfl (lb rfl) fun a S => ?_
  obtain ⟨r14, hx15, h⟩ := bindSome h
  have S1 := S.mem
  refine sCallQ (X := Unit) (f := 47) (vs := [.agg #[iv p0.W, iv p0.H, .slice ad3 p0.Bits.length cp4], .agg #[iv p1.W, iv p1.H, .slice ad7 p1.Bits.length cp8]]) (val := fun _ => iv r14) S (wN rfl) rfl callee47 rfl (S1.quiet [2, 3] rfl) (fun E1 w1 S1 => c_raddleref01_Both E1 w1 p0 (.agg #[iv p0.W, iv p0.H, .slice ad3 p0.Bits.length cp4]) p1 (.agg #[iv p1.W, iv p1.H, .slice ad7 p1.Bits.length cp8]) r14 hx15 S1) rfl (lb rfl) fun _ a w S => ?_
  refine sMove (iv r14) S (wN rfl) (.inr rfl) rfl rfl (lb rfl) fun a S => ?_
  refine leafL (leafT (hK13 _ _ ?_))
  refine sSeq (fun K16 hK16 => ?_)
  refine sRegion ?_
  refine sMove (iv r14) S (wN rfl) (.inl rfl) rfl rfl (lb rfl) fun a S => ?_
  refine sBin (.bool (r14 != 0)) S (wN rfl) rfl rfl rfl (bNe _ _ _ _ .i64 r14 0) rfl (lb rfl) fun a S => ?_
  refine leafL (leafT (hK16 _ _ ?_))
  rcases iteSome h with ⟨hc17, h⟩ | ⟨hc17, h⟩
  · refine sCondT S rfl hc17 ?_
    refine sSeq (fun K18 hK18 => ?_)
    refine sRegion ?_
    refine sMove (iv r14) S (wN rfl) (.inl rfl) rfl rfl (lb rfl) fun a S => ?_
    refine sMove (iv 0) S (wN rfl) (.inr rfl) rfl rfl (lb rfl) fun a S => ?_
    refine sMove (iv r14) S (wN rfl) (.inr rfl) rfl rfl (lb rfl) fun a S => ?_
    refine leafL (leafT (hK18 _ _ ?_))
    obtain rfl := Option.some.inj h
    exact wp_ret (rThen (sRet (.tuple #[iv 0, iv r14]) S (rsl2 rfl (rvT (t := 4) (v := iv 0) S rfl) (rvT (t := 5) (v := iv r14) S rfl)) ⟨(), rfl, S.mem.sel [] [] (by decide) rfl rfl⟩))
  refine sCondF S rfl hc17 ?_
  refine wp_skip (leafT (hK12 _ _ ?_))
  refine sSeq (fun K19 hK19 => ?_)
  obtain ⟨t21, h, g22⟩ := bindSome h
  refine sCut (fun a w => ∃ o20, o20 = t21 ∧ St [] E [] w0 28 a w [(2, .pointer (some ⟨b10, 0, none⟩)), (3, .pointer (some ⟨b11, 0, none⟩)), (24, .bool o20)] [eBox b10 24 [iv p0.W, iv p0.H, .slice ad3 p0.Bits.length cp4], eBox b11 24 [iv p1.W, iv p1.H, .slice ad7 p1.Bits.length cp8]] [fRep (rL rB) (.slice ad3 p0.Bits.length cp4) p0.Bits, fRep (rL rB) (.slice ad7 p1.Bits.length cp8) p1.Bits]) ?_ (fun a w hI => ?_)
  · refine sRegion ?_
    refine sField (b := b10) (off := 0) 0 0 S (wN rfl) rfl rfl rfl rfl rfl (lb rfl) fun a S => ?_
    refine sLoad1 (p := b10) (off := 0) (T := 24) (vs := [iv p0.W, iv p0.H, .slice ad3 p0.Bits.length cp4]) 1 (iv p0.W) S (wN rfl) rfl rfl rfl rfl rfl rfl (lb rfl) fun a S => ?_
    refine sField (b := b11) (off := 0) 0 0 S (wN rfl) rfl rfl rfl rfl rfl (lb rfl) fun a S => ?_
    refine sLoad1 (p := b11) (off := 0) (T := 24) (vs := [iv p1.W, iv p1.H, .slice ad7 p1.Bits.length cp8]) 0 (iv p1.W) S (wN rfl) rfl rfl rfl rfl rfl rfl (lb rfl) fun a S => ?_
    refine sBin (.bool (p0.W != p1.W)) S (wN rfl) rfl rfl rfl (bNe _ _ _ _ .i64 p0.W p1.W) rfl (lb rfl) fun a S => ?_
    refine sMove (.bool (p0.W != p1.W)) S (wN rfl) (.inl rfl) rfl rfl (lb rfl) fun a S => ?_
    rcases iteSome h with ⟨hc23, h⟩ | ⟨hc23, h⟩
    · refine sSkip 5 false 18 19 S rfl rfl rfl hc23 rfl (lb rfl) fun a S => ?_
      refine sSkip 5 false 18 20 S rfl rfl rfl hc23 rfl (lb rfl) fun a S => ?_
      refine sSkip 5 false 18 21 S rfl rfl rfl hc23 rfl (lb rfl) fun a S => ?_
      refine sSkip 5 false 18 22 S rfl rfl rfl hc23 rfl (lb rfl) fun a S => ?_
      refine sSkip 5 false 18 23 S rfl rfl rfl hc23 rfl (lb rfl) fun a S => ?_
      refine sPickT (.bool true) S (wN rfl) rfl rfl hc23 rfl rfl (lb rfl) fun a S => ?_
      exact leafL (leafT (⟨true, Option.some.inj h, S.fix [1, 0] [1, 0] (by decide) rfl rfl rfl⟩))
    refine sField (b := b10) (off := 0) 1 1 S (wG 5 false 18 rfl rfl rfl hc23) rfl rfl rfl rfl rfl (lb rfl) fun a S => ?_
    refine sLoad1 (p := b10) (off := 1) (T := 24) (vs := [iv p0.W, iv p0.H, .slice ad3 p0.Bits.length cp4]) 1 (iv p0.H) S (wG 5 false 18 rfl rfl rfl hc23) rfl rfl rfl rfl rfl rfl (lb rfl) fun a S => ?_
    refine sField (b := b11) (off := 0) 1 1 S (wG 5 false 18 rfl rfl rfl hc23) rfl rfl rfl rfl rfl (lb rfl) fun a S => ?_
    refine sLoad1 (p := b11) (off := 1) (T := 24) (vs := [iv p1.W, iv p1.H, .slice ad7 p1.Bits.length cp8]) 0 (iv p1.H) S (wG 5 false 18 rfl rfl rfl hc23) rfl rfl rfl rfl rfl rfl (lb rfl) fun a S => ?_
    refine sBin (.bool (p0.H != p1.H)) S (wG 5 false 18 rfl rfl rfl hc23) rfl rfl rfl (bNe _ _ _ _ .i64 p0.H p1.H) rfl (lb rfl) fun a S => ?_
    refine sPickF (.bool (p0.H != p1.H)) S (wN rfl) rfl rfl hc23 rfl rfl (lb rfl) fun a S => ?_
    exact leafL (leafT (⟨p0.H != p1.H, Option.some.inj h, S.fix [1, 0] [1, 0] (by decide) rfl rfl rfl⟩))
  obtain ⟨o20, rfl, S⟩ := hI
  have h := g22
  clear g22
  try dsimp only at h
  rcases iteSome h with ⟨hc24, h⟩ | ⟨hc24, h⟩
  · refine sCondT S rfl hc24 ?_
    refine sSeq (fun K25 hK25 => ?_)
    refine sRegion ?_
    refine sMove (iv 0) S (wN rfl) (.inr rfl) rfl rfl (lb rfl) fun a S => ?_
    refine sMove (iv 2) S (wN rfl) (.inr rfl) rfl rfl (lb rfl) fun a S => ?_
    refine leafL (leafT (hK25 _ _ ?_))
    obtain rfl := Option.some.inj h
    exact wp_ret (rThen (sRet (.tuple #[iv 0, iv 2]) S (rsl2 rfl (rvT (t := 4) (v := iv 0) S rfl) (rvT (t := 5) (v := iv 2) S rfl)) ⟨(), rfl, S.mem.sel [] [] (by decide) rfl rfl⟩))
  refine sCondF S rfl hc24 ?_
  refine wp_skip (leafT (hK19 _ _ ?_))
  refine sSeq (fun K26 hK26 => ?_)
  refine sRegion ?_
  refine sLoadN (p := b10) (off := 0) (T := 24) (vs := [iv p0.W, iv p0.H, .slice ad3 p0.Bits.length cp4]) 0 [iv p0.W, iv p0.H, .slice ad3 p0.Bits.length cp4] S (wN rfl) rfl rfl rfl rfl rfl rfl rfl (lb rfl) fun a S => ?_
  refine sLoadN (p := b11) (off := 0) (T := 24) (vs := [iv p1.W, iv p1.H, .slice ad7 p1.Bits.length cp8]) 1 [iv p1.W, iv p1.H, .slice ad7 p1.Bits.length cp8] S (wN rfl) rfl rfl rfl rfl rfl rfl rfl (lb rfl) fun a S => ?_
  obtain ⟨r27, hx28, h⟩ := bindSome h
  have S1 := S.mem
  have S1 := S1.learn (fRep r_api_Grid (.agg #[iv p0.W, iv p0.H, .slice ad3 p0.Bits.length cp4]) p0) ⟨_, rfl, S1.know (i := 0) (e := fRep (rL rB) (.slice ad3 p0.Bits.length cp4) p0.Bits) rfl⟩
  have S1 := S1.learn (fRep r_api_Grid (.agg #[iv p1.W, iv p1.H, .slice ad7 p1.Bits.length cp8]) p1) ⟨_, rfl, S1.know (i := 2) (e := fRep (rL rB) (.slice ad7 p1.Bits.length cp8) p1.Bits) rfl⟩
  refine sCallQ (X := Unit) (f := 48) (vs := [.agg #[iv p0.W, iv p0.H, .slice ad3 p0.Bits.length cp4], .agg #[iv p1.W, iv p1.H, .slice ad7 p1.Bits.length cp8]]) (val := fun _ => iv r27) S (wN rfl) rfl callee48 rfl (S1.quiet [1, 0] rfl) (fun E1 w1 S1 => c_raddleref46_differ E1 w1 p0 (.agg #[iv p0.W, iv p0.H, .slice ad3 p0.Bits.length cp4]) p1 (.agg #[iv p1.W, iv p1.H, .slice ad7 p1.Bits.length cp8]) r27 hx28 S1) rfl (lb rfl) fun _ a w S => ?_
  refine sMove (iv r27) S (wN rfl) (.inr rfl) rfl rfl (lb rfl) fun a S => ?_
  refine sMove (iv 0) S (wN rfl) (.inr rfl) rfl rfl (lb rfl) fun a S => ?_
  refine leafL (leafT (hK26 _ _ ?_))
  obtain rfl := Option.some.inj h
  exact wp_ret (sRet (.tuple #[iv r27, iv 0]) S (rsl2 rfl (rvT (t := 4) (v := iv r27) S rfl) (rvT (t := 5) (v := iv 0) S rfl)) ⟨(), rfl, S.mem.sel [] [] (by decide) rfl rfl⟩)

end Go.Proofs.Ytffikfajljbmnaa
namespace Go.Proofs.Ytffikfajljbmnaa
open Go.RowKit
set_option linter.unusedVariables false

noncomputable def F_compare_ways (p0 : api_Grid) (p1 : Int) : Option (Int × api_Grid) :=
  some (p1, p0)
def c_compare_ways_val (r : (Int × api_Grid)) (x : Value × Value) : Value := .func (.func 81) #[] #[x.1, x.2]
def c_compare_ways_D (r : (Int × api_Grid)) (x : Value × Value) : List Fact := [fPtr (rI .i64) x.1 r.1, fPtr r_api_Grid x.2 r.2]
set_option maxHeartbeats 4000000 in
set_option maxRecDepth 100000 in
theorem c_compare_ways (E : Nat → Prop) (w0 : World) (p0 : api_Grid) (v0 : Value) (p1 : Int) (r : (Int × api_Grid)) (h : F_compare_ways p0 p1 = some r) (S : St0 E [] w0 w0 [] [fRep r_api_Grid (v0) p0]) :
    Calls Try.prog 49 #[v0, iv p1] w0 (Ret (X := Value × Value) E [] w0 (c_compare_ways_val r) (fun _ => []) (c_compare_ways_D r)) := by
  unfold F_compare_ways at h
  obtain ⟨u1, rfl, hu2⟩ := S.know (i := 0) (e := fRep r_api_Grid (v0) p0) rfl
  have S := S.learn (fRep (rL rB) u1 p0.Bits) hu2
  obtain ⟨ad3, cp4, _, rfl, _⟩ := hu2
  refine sEnter (args := [.agg #[iv p0.W, iv p0.H, .slice ad3 p0.Bits.length cp4], iv p1]) 6 Try.func49 rfl rfl (by simp) S (fun a S => ?_)
  refine sSeq (fun K5 hK5 => ?_)
  refine sRegion ?_
  refine sBox (v := .agg #[iv p0.W, iv p0.H, .slice ad3 p0.Bits.length cp4]) S (wN rfl) rfl rfl [iv p0.W, iv p0.H, .slice ad3 p0.Bits.length cp4] rfl rfl (lb rfl) fun a b6 w S => ?_
  refine sBox (v := iv p1) S (wN rfl) rfl rfl [iv p1] rfl rfl (lb rfl) fun a b7 w S => ?_
  refine sMove (.nilFunc) S (wN rfl) (.inr rfl) rfl rfl (lb rfl) fun a S => ?_
  refine leafL (leafT (hK5 _ _ ?_))
  refine sSeq (fun K8 hK8 => ?_)
  refine sRegion ?_
  refine sFunc (g := 81) (vs := [.pointer (some ⟨b7, 0, none⟩), .pointer (some ⟨b6, 0, none⟩)]) S (wN rfl) rfl rfl rfl (lb rfl) fun a S => ?_
  refine sMove (.func (.func 81) #[] #[.pointer (some ⟨b7, 0, none⟩), .pointer (some ⟨b6, 0, none⟩)]) S (wN rfl) (.inr rfl) rfl rfl (lb rfl) fun a S => ?_
  refine leafL (leafT (hK8 _ _ ?_))
  have S := S.shutB (r := (rI .i64)) (T := 3) (b := b7) (cs := [iv p1]) 0 (iv p1) p1 rfl rfl (rfl)
  have S := S.shutB (r := r_api_Grid) (T := 24) (b := b6) (cs := [iv p0.W, iv p0.H, .slice ad3 p0.Bits.length cp4]) 0 (.agg #[iv p0.W, iv p0.H, .slice ad3 p0.Bits.length cp4]) p0 rfl rfl (S.mem.know (i := 2) (e := fRep r_api_Grid (.agg #[iv p0.W, iv p0.H, .slice ad3 p0.Bits.length cp4]) p0) rfl)
  obtain rfl := Option.some.inj h
  exact wp_ret (sRet (.func (.func 81) #[] #[.pointer (some ⟨b7, 0, none⟩), .pointer (some ⟨b6, 0, none⟩)]) S (rsl1 rfl (rvT (t := 4) (v := .func (.func 81) #[] #[.pointer (some ⟨b7, 0, none⟩), .pointer (some ⟨b6, 0, none⟩)]) S rfl)) ⟨((.pointer (some ⟨b7, 0, none⟩)), (.pointer (some ⟨b6, 0, none⟩))), rfl, S.mem.sel [] [1, 0] (by decide) rfl rfl⟩)

end Go.Proofs.Ytffikfajljbmnaa
namespace Go.Proofs.Ytffikfajljbmnaa
open Go.RowKit
set_option linter.unusedVariables false

noncomputable def symmetry_check_l1 (p0 : (List api_Grid)) : Int → Option (Int ⊕ (Int ⊕ Unit)) := fun s0 => match s0 with
  | s7 =>
    if decide (s7 < (p0.length : Int)) then
      Option.bind (idxO p0 s7) fun x16 =>
      Option.bind (F_grid_Check x16) fun r27 =>
      if r27 != 0 then
        some (.inr (.inl r27))
      else
        some (.inl (w64 (s7 + 1)))
    else
      some (.inr (.inr ()))
noncomputable def symmetry_check_l2 (p0 : (List api_Grid)) : Int → Option (Int ⊕ (Int ⊕ Unit)) := fun s0 => match s0 with
  | s35 =>
    if decide (s35 < (p0.length : Int)) then
      Option.bind (idxO p0 s35) fun x44 =>
      if decide (16 < (if x44.W < x44.H then x44.H else x44.W)) then
        some (.inr (.inl 4))
      else
        some (.inl (w64 (s35 + 1)))
    else
      some (.inr (.inr ()))
noncomputable def F_symmetry_check (p0 : (List api_Grid)) : Option Int :=
  Option.bind (α := Unit ⊕ Int) (
    Option.bind (whileO (symmetry_check_l1 p0) 0) fun z0 => match z0 with
      | .inl z =>
        some (.inr z)
      | .inr _ =>
        some (.inl ())) fun z0 => match z0 with
    | .inl _ =>
      Option.bind (α := Unit ⊕ Int) (
        Option.bind (whileO (symmetry_check_l2 p0) 0) fun z0 => match z0 with
          | .inl z =>
            some (.inr z)
          | .inr _ =>
            some (.inl ())) fun z0 => match z0 with
        | .inl _ =>
          some 0
        | .inr z =>
          some z
    | .inr z =>
      some z
set_option maxHeartbeats 4000000 in
set_option maxRecDepth 100000 in
theorem c_symmetry_check (E : Nat → Prop) (w0 : World) (p0 : (List api_Grid)) (v0 : Value) (r : Int) (h : F_symmetry_check p0 = some r) (S : St0 E [] w0 w0 [] [fRep (rL r_api_Grid) (v0) p0]) :
    Calls Try.prog 60 #[v0] w0 (Ret (X := Unit) E [] w0 (fun _ => .int .i64 r) (fun _ => []) (fun _ => [])) := by
  unfold F_symmetry_check at h
  obtain ⟨ad1, cp2, _, rfl, _⟩ := S.know (i := 0) (e := fRep (rL r_api_Grid) (v0) p0) rfl
  refine sEnter (args := [.slice ad1 p0.length cp2]) 33 Try.func60 rfl rfl (by simp) S (fun a S => ?_)
  refine sSeq (fun K3 hK3 => ?_)
  refine sRegion ?_
  refine sMove (iv 0) S (wN rfl) (.inr rfl) rfl rfl (lb rfl) fun a S => ?_
  refine leafL (leafT (hK3 _ _ ?_))
  obtain ⟨t4, h, g5⟩ := bindSome h
  refine sCut (fun a w => .inl () = t4 ∧ St [] E [] w0 33 a w [(0, .slice ad1 p0.length cp2)] [] [fRep (rL r_api_Grid) (.slice ad1 p0.length cp2) p0]) ?_ (fun a w hI => ?_)
  · refine sSeq (fun K6 hK6 => ?_)
    refine sRegion ?_
    refine sMove (.slice ad1 p0.length cp2) S (wN rfl) (.inl rfl) rfl rfl (lb rfl) fun a S => ?_
    refine sLen (ad := ad1) (m := p0.length) (c := cp2) S (wN rfl) rfl Try.underlying141 rfl rfl (lb rfl) fun a S => ?_
    refine sMove (iv 0) S (wN rfl) (.inl rfl) rfl rfl (lb rfl) fun a S => ?_
    refine leafL (leafT (hK6 _ _ ?_))
    refine wp_block ?_
    obtain ⟨t10, hl, g9⟩ := bindSome h
    refine sLoop hl (fun s0 a w => match s0 with | s7 => St [] E [] w0 33 a w [(0, .slice ad1 p0.length cp2), (8, .slice ad1 p0.length cp2), (9, iv (p0.length : Int)), (10, iv s7)] [] [fRep (rL r_api_Grid) (.slice ad1 p0.length cp2) p0]) (S.fix [] [0] (by decide) rfl rfl rfl) ?_
    clear hl h
    intro s7 a w c0 hI h hu8
    unfold symmetry_check_l1 at h
    dsimp only at h hI
    have S := hI
    refine sSeq (fun K11 hK11 => ?_)
    refine sRegion ?_
    refine sBin (.bool (decide (s7 < (p0.length : Int)))) S (wN rfl) rfl rfl rfl (bLt _ _ _ _ .i64 s7 (p0.length : Int)) rfl (lb rfl) fun a S => ?_
    refine leafL (leafT (hK11 _ _ ?_))
    refine sSeq (fun K12 hK12 => ?_)
    rcases iteSome h with ⟨hc13, h⟩ | ⟨hc13, h⟩
    rotate_left
    · refine sCondF S rfl hc13 ?_
      obtain rfl := Option.some.inj h
      obtain rfl := hu8 _ rfl
      have h := g9
      clear g9
      try dsimp only at h
      exact wp_exit (xThen (xThen (xHit (leafT (⟨Option.some.inj h, S.fix [] [0] (by decide) rfl rfl rfl⟩)))))
    refine sCondT S rfl hc13 ?_
    refine wp_skip (leafT (hK12 _ _ ?_))
    refine sSeq (fun K14 hK14 => ?_)
    refine wp_block ?_
    refine sSeq (fun K15 hK15 => ?_)
    refine sRegion ?_
    obtain ⟨x16, hx17, h⟩ := bindSome h
    obtain ⟨q18, hq19, S⟩ := pIdx (P := Try.prog) (r := r_api_Grid) (v := .slice ad1 p0.length cp2) (xs := p0) (j := s7) 141 24 0 S Try.underlying141 rfl rfl hx17
    refine sIdxV (v := .slice ad1 p0.length cp2) (k := .i64) (j := s7) S (wN rfl) rfl rfl rfl hq19 rfl (lb rfl) fun a S => ?_
    obtain ⟨u20, S⟩ := pLoad (r := r_api_Grid) (q := q18) (x := x16) 0 S rfl
    obtain ⟨u21, rfl, hu22⟩ := S.mem.know (i := 1) (e := fRep r_api_Grid (u20) x16) rfl
    have S := S.learn (fRep (rL rB) u21 x16.Bits) hu22
    obtain ⟨ad23, cp24, _, rfl, _⟩ := hu22
    refine sLoadVN (vq := q18) 1 [iv x16.W, iv x16.H, .slice ad23 x16.Bits.length cp24] S (wN rfl) rfl rfl rfl rfl rfl rfl (lb rfl) fun a S => ?_
    refine sAlloc (.agg #[iv 0, iv 0, .slice none 0 0]) S (wN rfl) rfl rfl [iv 0, iv 0, .slice none 0 0] rfl rfl (lb rfl) fun a b25 w S => ?_
    refine sStore (p := b25) (off := 0) (T := 24) (vs := [iv 0, iv 0, .slice none 0 0]) (v := .agg #[iv x16.W, iv x16.H, .slice ad23 x16.Bits.length cp24]) 0 [iv x16.W, iv x16.H, .slice ad23 x16.Bits.length cp24] S (wN rfl) rfl rfl rfl rfl rfl rfl rfl (by simp) rfl fun a w S => ?_
    refine leafL (leafT (hK15 _ _ ?_))
    refine sSeq (fun K26 hK26 => ?_)
    refine sRegion ?_
    refine sLoadN (p := b25) (off := 0) (T := 24) (vs := [iv x16.W, iv x16.H, .slice ad23 x16.Bits.length cp24]) 0 [iv x16.W, iv x16.H, .slice ad23 x16.Bits.length cp24] S (wN rfl) rfl rfl rfl rfl rfl rfl rfl (lb rfl) fun a S => ?_
    obtain ⟨r27, hx28, h⟩ := bindSome h
    have S1 := S.mem
    refine sCallQ (X := Unit) (f := 45) (vs := [.agg #[iv x16.W, iv x16.H, .slice ad23 x16.Bits.length cp24]]) (val := fun _ => iv r27) S (wN rfl) rfl callee45 rfl (S1.quiet [2] rfl) (fun E1 w1 S1 => c_grid_Check E1 w1 x16 (.agg #[iv x16.W, iv x16.H, .slice ad23 x16.Bits.length cp24]) r27 hx28 S1) rfl (lb rfl) fun _ a w S => ?_
    refine sMove (iv r27) S (wN rfl) (.inr rfl) rfl rfl (lb rfl) fun a S => ?_
    refine leafL (leafT (hK26 _ _ ?_))
    refine sSeq (fun K29 hK29 => ?_)
    refine sRegion ?_
    refine sMove (iv r27) S (wN rfl) (.inl rfl) rfl rfl (lb rfl) fun a S => ?_
    refine sBin (.bool (r27 != 0)) S (wN rfl) rfl rfl rfl (bNe _ _ _ _ .i64 r27 0) rfl (lb rfl) fun a S => ?_
    refine leafL (leafT (hK29 _ _ ?_))
    rcases iteSome h with ⟨hc30, h⟩ | ⟨hc30, h⟩
    rotate_left
    · refine sCondF S rfl hc30 ?_
      refine wp_skip (leafB (leafT (hK14 _ _ ?_)))
      refine sRegion ?_
      refine sBin (iv (w64 (s7 + 1))) S (wN rfl) rfl rfl rfl (bAdd _ _ _ _ s7 1) rfl (lb rfl) fun a S => ?_
      refine sMove (iv (w64 (s7 + 1))) S (wN rfl) (.inl rfl) rfl rfl (lb rfl) fun a S => ?_
      exact leafL (leafT (⟨w64 (s7 + 1), (Option.some.inj h).symm, (S.fix [] [4] (by decide) rfl rfl rfl)⟩))
    refine sCondT S rfl hc30 ?_
    refine sSeq (fun K31 hK31 => ?_)
    refine sRegion ?_
    refine sMove (iv r27) S (wN rfl) (.inl rfl) rfl rfl (lb rfl) fun a S => ?_
    refine sMove (iv r27) S (wN rfl) (.inr rfl) rfl rfl (lb rfl) fun a S => ?_
    refine leafL (leafT (hK31 _ _ ?_))
    obtain rfl := Option.some.inj h
    obtain rfl := hu8 _ rfl
    have h := g9
    clear g9
    try dsimp only at h
    obtain rfl := Option.some.inj h
    have h := g5
    clear g5
    try dsimp only at h
    obtain rfl := Option.some.inj h
    exact wp_ret (rBlock (rThen (rThen (rBlock (rThen (sRet (iv r27) S (rsl1 rfl (rvT (t := 2) (v := iv r27) S rfl)) ⟨(), rfl, S.mem.sel [] [] (by decide) rfl rfl⟩))))))
  obtain ⟨rfl, S⟩ := hI
  have h := g5
  clear g5
  try dsimp only at h
  obtain ⟨t32, h, g33⟩ := bindSome h
  refine sCut (fun a w => .inl () = t32 ∧ St [] E [] w0 33 a w [] [] []) ?_ (fun a w hI => ?_)
  rotate_left
  · obtain ⟨rfl, S⟩ := hI
    have h := g33
    clear g33
    try dsimp only at h
    refine sSeq (fun K57 hK57 => ?_)
    refine sRegion ?_
    refine sMove (iv 0) S (wN rfl) (.inr rfl) rfl rfl (lb rfl) fun a S => ?_
    refine leafL (leafT (hK57 _ _ ?_))
    obtain rfl := Option.some.inj h
    exact wp_ret (sRet (iv 0) S (rsl1 rfl (rvT (t := 2) (v := iv 0) S rfl)) ⟨(), rfl, S.mem.sel [] [] (by decide) rfl rfl⟩)
  refine sSeq (fun K34 hK34 => ?_)
  refine sRegion ?_
  refine sMove (.slice ad1 p0.length cp2) S (wN rfl) (.inl rfl) rfl rfl (lb rfl) fun a S => ?_
  refine sLen (ad := ad1) (m := p0.length) (c := cp2) S (wN rfl) rfl Try.underlying141 rfl rfl (lb rfl) fun a S => ?_
  refine sMove (iv 0) S (wN rfl) (.inl rfl) rfl rfl (lb rfl) fun a S => ?_
  refine leafL (leafT (hK34 _ _ ?_))
  refine wp_block ?_
  obtain ⟨t38, hl, g37⟩ := bindSome h
  refine sLoop hl (fun s0 a w => match s0 with | s35 => St [] E [] w0 33 a w [(20, .slice ad1 p0.length cp2), (21, iv (p0.length : Int)), (22, iv s35)] [] [fRep (rL r_api_Grid) (.slice ad1 p0.length cp2) p0]) (S.fix [] [0] (by decide) rfl rfl rfl) ?_
  clear hl h
  intro s35 a w c0 hI h hu36
  unfold symmetry_check_l2 at h
  dsimp only at h hI
  have S := hI
  refine sSeq (fun K39 hK39 => ?_)
  refine sRegion ?_
  refine sBin (.bool (decide (s35 < (p0.length : Int)))) S (wN rfl) rfl rfl rfl (bLt _ _ _ _ .i64 s35 (p0.length : Int)) rfl (lb rfl) fun a S => ?_
  refine leafL (leafT (hK39 _ _ ?_))
  refine sSeq (fun K40 hK40 => ?_)
  rcases iteSome h with ⟨hc41, h⟩ | ⟨hc41, h⟩
  rotate_left
  · refine sCondF S rfl hc41 ?_
    obtain rfl := Option.some.inj h
    obtain rfl := hu36 _ rfl
    have h := g37
    clear g37
    try dsimp only at h
    exact wp_exit (xThen (xThen (xHit (leafT (⟨Option.some.inj h, S.fix [] [] (by decide) rfl rfl rfl⟩)))))
  refine sCondT S rfl hc41 ?_
  refine wp_skip (leafT (hK40 _ _ ?_))
  refine sSeq (fun K42 hK42 => ?_)
  refine wp_block ?_
  refine sSeq (fun K43 hK43 => ?_)
  refine sRegion ?_
  obtain ⟨x44, hx45, h⟩ := bindSome h
  obtain ⟨q46, hq47, S⟩ := pIdx (P := Try.prog) (r := r_api_Grid) (v := .slice ad1 p0.length cp2) (xs := p0) (j := s35) 141 24 0 S Try.underlying141 rfl rfl hx45
  refine sIdxV (v := .slice ad1 p0.length cp2) (k := .i64) (j := s35) S (wN rfl) rfl rfl rfl hq47 rfl (lb rfl) fun a S => ?_
  obtain ⟨u48, S⟩ := pLoad (r := r_api_Grid) (q := q46) (x := x44) 0 S rfl
  obtain ⟨u49, rfl, hu50⟩ := S.mem.know (i := 1) (e := fRep r_api_Grid (u48) x44) rfl
  have S := S.learn (fRep (rL rB) u49 x44.Bits) hu50
  obtain ⟨ad51, cp52, _, rfl, _⟩ := hu50
  refine sLoadVN (vq := q46) 1 [iv x44.W, iv x44.H, .slice ad51 x44.Bits.length cp52] S (wN rfl) rfl rfl rfl rfl rfl rfl (lb rfl) fun a S => ?_
  refine sAlloc (.agg #[iv 0, iv 0, .slice none 0 0]) S (wN rfl) rfl rfl [iv 0, iv 0, .slice none 0 0] rfl rfl (lb rfl) fun a b53 w S => ?_
  refine sStore (p := b53) (off := 0) (T := 24) (vs := [iv 0, iv 0, .slice none 0 0]) (v := .agg #[iv x44.W, iv x44.H, .slice ad51 x44.Bits.length cp52]) 0 [iv x44.W, iv x44.H, .slice ad51 x44.Bits.length cp52] S (wN rfl) rfl rfl rfl rfl rfl rfl rfl (by simp) rfl fun a w S => ?_
  refine leafL (leafT (hK43 _ _ ?_))
  refine sSeq (fun K54 hK54 => ?_)
  refine sRegion ?_
  refine sField (b := b53) (off := 0) 0 0 S (wN rfl) rfl rfl rfl rfl rfl (lb rfl) fun a S => ?_
  refine sLoad1 (p := b53) (off := 0) (T := 24) (vs := [iv x44.W, iv x44.H, .slice ad51 x44.Bits.length cp52]) 0 (iv x44.W) S (wN rfl) rfl rfl rfl rfl rfl rfl (lb rfl) fun a S => ?_
  refine sField (b := b53) (off := 0) 1 1 S (wN rfl) rfl rfl rfl rfl rfl (lb rfl) fun a S => ?_
  refine sLoad1 (p := b53) (off := 1) (T := 24) (vs := [iv x44.W, iv x44.H, .slice ad51 x44.Bits.length cp52]) 0 (iv x44.H) S (wN rfl) rfl rfl rfl rfl rfl rfl (lb rfl) fun a S => ?_
  refine sMax2 (p := x44.W) (q := x44.H) S (wN rfl) rfl rfl rfl rfl (lb rfl) fun a S => ?_
  refine sBin (.bool (decide (16 < (if x44.W < x44.H then x44.H else x44.W)))) S (wN rfl) rfl rfl rfl (bGt _ _ _ _ .i64 (if x44.W < x44.H then x44.H else x44.W) 16) rfl (lb rfl) fun a S => ?_
  refine leafL (leafT (hK54 _ _ ?_))
  rcases iteSome h with ⟨hc55, h⟩ | ⟨hc55, h⟩
  rotate_left
  · refine sCondF S rfl hc55 ?_
    refine wp_skip (leafB (leafT (hK42 _ _ ?_)))
    refine sRegion ?_
    refine sBin (iv (w64 (s35 + 1))) S (wN rfl) rfl rfl rfl (bAdd _ _ _ _ s35 1) rfl (lb rfl) fun a S => ?_
    refine sMove (iv (w64 (s35 + 1))) S (wN rfl) (.inl rfl) rfl rfl (lb rfl) fun a S => ?_
    exact leafL (leafT (⟨w64 (s35 + 1), (Option.some.inj h).symm, (S.fix [] [4] (by decide) rfl rfl rfl)⟩))
  refine sCondT S rfl hc55 ?_
  refine sSeq (fun K56 hK56 => ?_)
  refine sRegion ?_
  refine sMove (iv 4) S (wN rfl) (.inr rfl) rfl rfl (lb rfl) fun a S => ?_
  refine leafL (leafT (hK56 _ _ ?_))
  obtain rfl := Option.some.inj h
  obtain rfl := hu36 _ rfl
  have h := g37
  clear g37
  try dsimp only at h
  obtain rfl := Option.some.inj h
  have h := g33
  clear g33
  try dsimp only at h
  obtain rfl := Option.some.inj h
  exact wp_ret (rBlock (rThen (rThen (rBlock (rThen (sRet (iv 4) S (rsl1 rfl (rvT (t := 2) (v := iv 4) S rfl)) ⟨(), rfl, S.mem.sel [] [] (by decide) rfl rfl⟩))))))

end Go.Proofs.Ytffikfajljbmnaa
namespace Go.Proofs.Ytffikfajljbmnaa
open Go.RowKit
set_option linter.unusedVariables false

noncomputable def F_symmetry_is (p0 : Int) : Option Bool :=
  Option.bind (α := Bool) (
    if decide (0 ≤ p0) then
      some (decide (p0 < 16))
    else
      some false) fun o2 =>
  some o2
set_option maxHeartbeats 4000000 in
set_option maxRecDepth 100000 in
theorem c_symmetry_is (E : Nat → Prop) (w0 : World) (p0 : Int) (r : Bool) (h : F_symmetry_is p0 = some r) (S : St0 E [] w0 w0 [] []) :
    Calls Try.prog 61 #[iv p0] w0 (Ret (X := Unit) E [] w0 (fun _ => .bool r) (fun _ => []) (fun _ => [])) := by
  unfold F_symmetry_is at h
  refine sEnter (args := [iv p0]) 9 Try.func61 rfl rfl (by simp) S (fun a S => ?_)
  refine sSeq (fun K1 hK1 => ?_)
  refine sRegion ?_
  refine sMove (.bool false) S (wN rfl) (.inr rfl) rfl rfl (lb rfl) fun a S => ?_
  refine leafL (leafT (hK1 _ _ ?_))
  obtain ⟨t3, h, g4⟩ := bindSome h
  refine sCut (fun a w => ∃ o2, o2 = t3 ∧ St [] E [] w0 9 a w [(2, .bool o2)] [] []) ?_ (fun a w hI => ?_)
  rotate_left
  · obtain ⟨o2, rfl, S⟩ := hI
    have h := g4
    clear g4
    try dsimp only at h
    obtain rfl := Option.some.inj h
    exact wp_ret (sRet (.bool o2) S (rsl1 rfl (rvT (t := 2) (v := .bool o2) S rfl)) ⟨(), rfl, S.mem.sel [] [] (by decide) rfl rfl⟩)
  refine sRegion ?_
  refine sMove (iv p0) S (wN rfl) (.inl rfl) rfl rfl (lb rfl) fun a S => ?_
  refine sBin (.bool (decide (0 ≤ p0))) S (wN rfl) rfl rfl rfl (bGe _ _ _ _ .i64 p0 0) rfl (lb rfl) fun a S => ?_
  refine sMove (.bool (decide (0 ≤ p0))) S (wN rfl) (.inl rfl) rfl rfl (lb rfl) fun a S => ?_
  rcases iteSome h with ⟨hc5, h⟩ | ⟨hc5, h⟩
  rotate_left
  · refine sSkip 2 true 5 6 S rfl rfl rfl hc5 rfl (lb rfl) fun a S => ?_
    refine sSkip 2 true 5 7 S rfl rfl rfl hc5 rfl (lb rfl) fun a S => ?_
    refine sPickF (.bool false) S (wN rfl) rfl rfl hc5 rfl rfl (lb rfl) fun a S => ?_
    refine sMove (.bool false) S (wN rfl) (.inr rfl) rfl rfl (lb rfl) fun a S => ?_
    exact leafL (leafT (⟨false, Option.some.inj h, S.fix [] [] (by decide) rfl rfl rfl⟩))
  refine sMove (iv p0) S (wG 2 true 5 rfl rfl rfl hc5) (.inl rfl) rfl rfl (lb rfl) fun a S => ?_
  refine sBin (.bool (decide (p0 < 16))) S (wG 2 true 5 rfl rfl rfl hc5) rfl rfl rfl (bLt _ _ _ _ .i64 p0 16) rfl (lb rfl) fun a S => ?_
  refine sPickT (.bool (decide (p0 < 16))) S (wN rfl) rfl rfl hc5 rfl rfl (lb rfl) fun a S => ?_
  refine sMove (.bool (decide (p0 < 16))) S (wN rfl) (.inr rfl) rfl rfl (lb rfl) fun a S => ?_
  exact leafL (leafT (⟨decide (p0 < 16), Option.some.inj h, S.fix [] [] (by decide) rfl rfl rfl⟩))

end Go.Proofs.Ytffikfajljbmnaa
namespace Go.Proofs.Ytffikfajljbmnaa
open Go.RowKit
set_option linter.unusedVariables false

def anc_symmetry_applied_0 : List (List Nat) := [[], [0], [], [2], [], [], [5], [4, 5, 6], [], [4, 5, 6, 7, 8], [2, 3, 4, 5, 6, 7, 8, 9], [2, 3, 4, 5, 6, 7, 8, 9, 10], [], [12], [12, 13], [2, 3, 4, 5, 6, 7, 8, 9, 10, 11, 12, 13, 14], [2, 3, 4, 5, 6, 7, 8, 9, 10, 11, 12, 13, 14, 15], [0, 1, 2, 3, 4, 5, 6, 7, 8, 9, 10, 11, 12, 13, 14, 15, 16], [0, 1, 2, 3, 4, 5, 6, 7, 8, 9, 10, 11, 12, 13, 14, 15, 16, 17], [0, 1, 2, 3, 4, 5, 6, 7, 8, 9, 10, 11, 12, 13, 14, 15, 16, 17, 18]]
noncomputable def symmetry_applied_l1 (o9 : Int) (p1 : Int) (s23 : Int) (p0 : api_Grid) : (Int × List Bool) → Option ((Int × List Bool) ⊕ List Bool) := fun s0 => match s0 with
  | (s43, s44) =>
    if decide (s43 < o9) then
      Option.bind (α := (Int × Int)) (
        if (andI .i64 p1 4) != 0 then
          some (s23, s43)
        else
          some (s43, s23)) fun (o59, o60) =>
      Option.bind (α := Int) (
        if (andI .i64 p1 1) != 0 then
          some (w64 ((w64 (p0.W - 1)) - o59))
        else
          some o59) fun o65 =>
      Option.bind (α := Int) (
        if (andI .i64 p1 2) != 0 then
          some (w64 ((w64 (p0.H - 1)) - o60))
        else
          some o60) fun o70 =>
      Option.bind (idxO p0.Bits (w64 ((w64 (o70 * p0.W)) + o65))) fun x75 =>
      Option.bind (appO s44 [x75 != ((andI .i64 p1 8) != 0)]) fun l82 =>
      some (.inl (w64 (s43 + 1), l82))
    else
      some (.inr s44)
noncomputable def symmetry_applied_l2 (o10 : Int) (o9 : Int) (p1 : Int) (p0 : api_Grid) : (Int × List Bool) → Option ((Int × List Bool) ⊕ List Bool) := fun s0 => match s0 with
  | (s23, s24) =>
    if decide (s23 < o10) then
      Option.bind (α := List Bool) (
        Option.bind (whileO (symmetry_applied_l1 o9 p1 s23 p0) (0, s24)) fun e50 =>
          some e50) fun o36 =>
      some (.inl (w64 (s23 + 1), o36))
    else
      some (.inr s24)
noncomputable def F_symmetry_applied (p0 : api_Grid) (p1 : Int) : Option api_Grid :=
  Option.bind (α := (Int × Int)) (
    if (andI .i64 p1 4) != 0 then
      some (p0.H, p0.W)
    else
      some (p0.W, p0.H)) fun (o9, o10) =>
  Option.bind (α := List Bool) (
    Option.bind (whileO (symmetry_applied_l2 o10 o9 p1 p0) (0, ([] : List Bool))) fun e30 =>
      some e30) fun o17 =>
  some (api_Grid.mk o9 o10 o17)
def c_symmetry_applied_val (r : api_Grid) (x : Value) : Value := x
def c_symmetry_applied_D (r : api_Grid) (x : Value) : List Fact := [fRep r_api_Grid x r]
set_option maxHeartbeats 4000000 in
set_option maxRecDepth 100000 in
theorem c_symmetry_applied (E : Nat → Prop) (w0 : World) (p0 : api_Grid) (v0 : Value) (p1 : Int) (r : api_Grid) (h : F_symmetry_applied p0 p1 = some r) (S : St0 E [] w0 w0 [] [fRep r_api_Grid (v0) p0]) :
    Calls Try.prog 62 #[v0, iv p1] w0 (Ret (X := Value) E [] w0 (c_symmetry_applied_val r) (fun _ => []) (c_symmetry_applied_D r)) := by
  unfold F_symmetry_applied at h
  obtain ⟨u1, rfl, hu2⟩ := S.know (i := 0) (e := fRep r_api_Grid (v0) p0) rfl
  have S := S.learn (fRep (rL rB) u1 p0.Bits) hu2
  obtain ⟨ad3, cp4, _, rfl, _⟩ := hu2
  refine sEnter (args := [.agg #[iv p0.W, iv p0.H, .slice ad3 p0.Bits.length cp4], iv p1]) 77 Try.func62 rfl rfl (by simp) S (fun a S => ?_)
  refine sSeq (fun K5 hK5 => ?_)
  refine sRegion ?_
  refine sBox (v := .agg #[iv p0.W, iv p0.H, .slice ad3 p0.Bits.length cp4]) S (wN rfl) rfl rfl [iv p0.W, iv p0.H, .slice ad3 p0.Bits.length cp4] rfl rfl (lb rfl) fun a b6 w S => ?_
  refine sAlloc (.agg #[iv 0, iv 0, .slice none 0 0]) S (wN rfl) rfl rfl [iv 0, iv 0, .slice none 0 0] rfl rfl (lb rfl) fun a b7 w S => ?_
  refine leafL (leafT (hK5 _ _ ?_))
  refine sSeq (fun K8 hK8 => ?_)
  refine sDraw (nf := []) (W := [(0, 12, .pointer (some ⟨b6, 0, none⟩)), (1, 13, iv p0.W), (2, 14, .pointer (some ⟨b6, 1, none⟩)), (3, 15, iv p0.H), (4, 5, iv p0.W), (5, 6, iv p0.H)]) rfl S ?_
  refine node_by (A := [[], [0], [], [2], [0, 1], [0, 1, 2, 3, 4]]) (nf := []) (Y := []) (W := [(0, 12, .pointer (some ⟨b6, 0, none⟩)), (1, 13, iv p0.W), (2, 14, .pointer (some ⟨b6, 1, none⟩)), (3, 15, iv p0.H), (4, 5, iv p0.W), (5, 6, iv p0.H)]) 6 (by kernel_rfl) (by kernel_rfl) (by kernel_rfl) (by kernel_rfl) (by kernel_rfl) [0, 1, 2, 3, 4, 5] (by kernel_rfl) (by decide) (by decide) (aF 0 5 (by decide) ?_ (aF 1 4 (by decide) ?_ (aF 2 3 (by decide) ?_ (aF 3 2 (by decide) ?_ (aF 4 1 (by decide) ?_ (aF 5 0 (by decide) ?_ (trivial))))))) [(1, iv p1), (2, .pointer (some ⟨b6, 0, none⟩)), (4, .pointer (some ⟨b7, 0, none⟩)), (5, iv p0.W), (6, iv p0.H)] (fin_of [none, none, none, some 4, some 5] rfl (by kernel_rfl) (by kernel_rfl)) (fun _ a w S => ?_)
  · refine fI 12 (.pointer (some ⟨b6, 0, none⟩)) [(2, .pointer (some ⟨b6, 0, none⟩))] 0 [none] rfl rfl rfl rfl rfl rfl fun G a w S => ?_
    refine sField (b := b6) (off := 0) 0 0 S (wN rfl) rfl rfl rfl rfl rfl (lb rfl) fun a S => ?_
    exact leafL ⟨rfl, S⟩
  · refine fI 13 (iv p0.W) [(12, .pointer (some ⟨b6, 0, none⟩))] 1 [some 0] rfl rfl rfl rfl rfl rfl fun G a w S => ?_
    refine sLoad1 (p := b6) (off := 0) (T := 24) (vs := [iv p0.W, iv p0.H, .slice ad3 p0.Bits.length cp4]) 1 (iv p0.W) S (wN rfl) rfl rfl rfl rfl rfl rfl (lb rfl) fun a S => ?_
    exact leafL ⟨rfl, S⟩
  · refine fI 14 (.pointer (some ⟨b6, 1, none⟩)) [(2, .pointer (some ⟨b6, 0, none⟩))] 2 [none] rfl rfl rfl rfl rfl rfl fun G a w S => ?_
    refine sField (b := b6) (off := 0) 1 1 S (wN rfl) rfl rfl rfl rfl rfl (lb rfl) fun a S => ?_
    exact leafL ⟨rfl, S⟩
  · refine fI 15 (iv p0.H) [(14, .pointer (some ⟨b6, 1, none⟩))] 3 [some 2] rfl rfl rfl rfl rfl rfl fun G a w S => ?_
    refine sLoad1 (p := b6) (off := 1) (T := 24) (vs := [iv p0.W, iv p0.H, .slice ad3 p0.Bits.length cp4]) 1 (iv p0.H) S (wN rfl) rfl rfl rfl rfl rfl rfl (lb rfl) fun a S => ?_
    exact leafL ⟨rfl, S⟩
  · refine fI 5 (iv p0.W) [(13, iv p0.W)] 4 [some 1] rfl rfl rfl rfl rfl rfl fun G a w S => ?_
    refine sMove (iv p0.W) S (wN rfl) (.inr rfl) rfl rfl (lb rfl) fun a S => ?_
    exact leafL ⟨rfl, S⟩
  · refine fI 6 (iv p0.H) [(15, iv p0.H)] 5 [some 3] rfl rfl rfl rfl rfl rfl fun G a w S => ?_
    refine sMove (iv p0.H) S (wN rfl) (.inr rfl) rfl rfl (lb rfl) fun a S => ?_
    exact leafL ⟨rfl, S⟩
  refine leafT (hK8 _ _ ?_)
  obtain ⟨t11, h, g12⟩ := bindSome h
  refine sCut (fun a w => ∃ o9, ∃ o10, (o9, o10) = t11 ∧ St [] E [] w0 77 a w [(1, iv p1), (2, .pointer (some ⟨b6, 0, none⟩)), (4, .pointer (some ⟨b7, 0, none⟩)), (5, iv o9), (6, iv o10)] [eBox b6 24 [iv p0.W, iv p0.H, .slice ad3 p0.Bits.length cp4], eBox b7 24 [iv 0, iv 0, .slice none 0 0]] [fRep (rL rB) (.slice ad3 p0.Bits.length cp4) p0.Bits]) ?_ (fun a w hI => ?_)
  · refine sSeq (fun K13 hK13 => ?_)
    refine sRegion ?_
    refine sMove (iv p1) S (wN rfl) (.inl rfl) rfl rfl (lb rfl) fun a S => ?_
    refine sBin (iv (andI .i64 p1 4)) S (wN rfl) rfl rfl rfl (bAndK _ _ _ _ .i64 p1 4) rfl (lb rfl) fun a S => ?_
    refine sBin (.bool ((andI .i64 p1 4) != 0)) S (wN rfl) rfl rfl rfl (bNe _ _ _ _ .i64 (andI .i64 p1 4) 0) rfl (lb rfl) fun a S => ?_
    refine leafL (leafT (hK13 _ _ ?_))
    rcases iteSome h with ⟨hc14, h⟩ | ⟨hc14, h⟩
    rotate_left
    · refine sCondF S rfl hc14 ?_
      exact wp_skip (leafT (⟨p0.W, p0.H, Option.some.inj h, S.fix [1, 0] [0] (by decide) rfl rfl rfl⟩))
    refine sCondT S rfl hc14 ?_
    refine sRegion ?_
    refine sMove (iv p0.H) S (wN rfl) (.inl rfl) rfl rfl (lb rfl) fun a S => ?_
    refine sMove (iv p0.W) S (wN rfl) (.inl rfl) rfl rfl (lb rfl) fun a S => ?_
    refine sMove (iv p0.H) S (wN rfl) (.inr rfl) rfl rfl (lb rfl) fun a S => ?_
    refine sMove (iv p0.W) S (wN rfl) (.inr rfl) rfl rfl (lb rfl) fun a S => ?_
    exact leafL (leafT (⟨p0.H, p0.W, Option.some.inj h, S.fix [1, 0] [0] (by decide) rfl rfl rfl⟩))
  obtain ⟨o9, o10, rfl, S⟩ := hI
  have h := g12
  clear g12
  try dsimp only at h
  refine sSeq (fun K15 hK15 => ?_)
  refine sRegion ?_
  refine sMove (iv o9) S (wN rfl) (.inl rfl) rfl rfl (lb rfl) fun a S => ?_
  refine sMove (iv o10) S (wN rfl) (.inl rfl) rfl rfl (lb rfl) fun a S => ?_
  refine sBuild [(0, iv o9), (1, iv o10)] [iv o9, iv o10, .slice none 0 0] S (wN rfl) rfl rfl rfl rfl (lb rfl) fun a S => ?_
  refine sAlloc (.agg #[iv 0, iv 0, .slice none 0 0]) S (wN rfl) rfl rfl [iv 0, iv 0, .slice none 0 0] rfl rfl (lb rfl) fun a b16 w S => ?_
  refine sStore (p := b16) (off := 0) (T := 24) (vs := [iv 0, iv 0, .slice none 0 0]) (v := .agg #[iv o9, iv o10, .slice none 0 0]) 0 [iv o9, iv o10, .slice none 0 0] S (wN rfl) rfl rfl rfl rfl rfl rfl rfl (by simp) rfl fun a w S => ?_
  refine leafL (leafT (hK15 _ _ ?_))
  obtain ⟨t20, h, g21⟩ := bindSome h
  refine sCut (fun a w => ∃ o17, o17 = t20 ∧ ∃ ad18, ∃ cp19, St [] E [] w0 77 a w [(4, .pointer (some ⟨b7, 0, none⟩)), (7, .pointer (some ⟨b16, 0, none⟩))] [eBox b7 24 [iv 0, iv 0, .slice none 0 0], eBox b16 24 [iv o9, iv o10, .slice ad18 o17.length cp19], eRow rB 4 (.slice ad18 o17.length cp19) o17] []) ?_ (fun a w hI => ?_)
  rotate_left
  · obtain ⟨o17, rfl, ad18, cp19, S⟩ := hI
    have h := g21
    clear g21
    try dsimp only at h
    refine sSeq (fun K93 hK93 => ?_)
    refine sRegion ?_
    refine sLoadN (p := b16) (off := 0) (T := 24) (vs := [iv o9, iv o10, .slice ad18 o17.length cp19]) 1 [iv o9, iv o10, .slice ad18 o17.length cp19] S (wN rfl) rfl rfl rfl rfl rfl rfl rfl (lb rfl) fun a S => ?_
    refine sStore (p := b7) (off := 0) (T := 24) (vs := [iv 0, iv 0, .slice none 0 0]) (v := .agg #[iv o9, iv o10, .slice ad18 o17.length cp19]) 0 [iv o9, iv o10, .slice ad18 o17.length cp19] S (wN rfl) rfl rfl rfl rfl rfl rfl rfl (by simp) rfl fun a w S => ?_
    refine leafL (leafT (hK93 _ _ ?_))
    obtain rfl := Option.some.inj h
    have S := S.shutR (r := rB) (T := 4) (v := .slice ad18 o17.length cp19) (xs := o17) 2 rfl
    have S := S.learn (fRep r_api_Grid (.agg #[iv o9, iv o10, .slice ad18 o17.length cp19]) (api_Grid.mk o9 o10 o17)) ⟨_, rfl, S.mem.know (i := 0) (e := fRep (rL rB) (.slice ad18 o17.length cp19) o17) rfl⟩
    exact wp_ret (sRet (.agg #[iv o9, iv o10, .slice ad18 o17.length cp19]) S (rsl1 rfl (rvN (c := 4) (t := 24) (T := 24) (p := b7) 0 [iv o9, iv o10, .slice ad18 o17.length cp19] S rfl rfl rfl rfl)) ⟨(.agg #[iv o9, iv o10, .slice ad18 o17.length cp19]), rfl, S.mem.sel [] [0] (by decide) rfl rfl⟩)
  refine sSeq (fun K22 hK22 => ?_)
  refine sRegion ?_
  refine sMove (iv o10) S (wN rfl) (.inl rfl) rfl rfl (lb rfl) fun a S => ?_
  refine sMove (iv 0) S (wN rfl) (.inl rfl) rfl rfl (lb rfl) fun a S => ?_
  refine leafL (leafT (hK22 _ _ ?_))
  refine wp_block ?_
  have S := S.nilRow rB 4 (α := Bool)
  obtain ⟨t29, hl, g28⟩ := bindSome h
  refine sLoop hl (fun s0 a w => match s0 with | (s23, s24) => ∃ ad25, ∃ cp26, St [] E [] w0 77 a w [(1, iv p1), (2, .pointer (some ⟨b6, 0, none⟩)), (4, .pointer (some ⟨b7, 0, none⟩)), (5, iv o9), (7, .pointer (some ⟨b16, 0, none⟩)), (24, iv o10), (25, iv s23)] [eBox b6 24 [iv p0.W, iv p0.H, .slice ad3 p0.Bits.length cp4], eBox b7 24 [iv 0, iv 0, .slice none 0 0], eBox b16 24 [iv o9, iv o10, .slice ad25 s24.length cp26], eRow rB 4 (.slice ad25 s24.length cp26) s24] [fRep (rL rB) (.slice ad3 p0.Bits.length cp4) p0.Bits]) ⟨none, 0, S.fix [2, 3, 1, 0] [0] (by decide) rfl rfl rfl⟩ ?_
  clear hl h
  intro s0 a w c0 hI h hu27
  obtain ⟨s23, s24⟩ := s0
  unfold symmetry_applied_l2 at h
  dsimp only at h hI
  obtain ⟨ad25, cp26, S⟩ := hI
  refine sSeq (fun K33 hK33 => ?_)
  refine sRegion ?_
  refine sBin (.bool (decide (s23 < o10))) S (wN rfl) rfl rfl rfl (bLt _ _ _ _ .i64 s23 o10) rfl (lb rfl) fun a S => ?_
  refine leafL (leafT (hK33 _ _ ?_))
  refine sSeq (fun K34 hK34 => ?_)
  rcases iteSome h with ⟨hc35, h⟩ | ⟨hc35, h⟩
  rotate_left
  · refine sCondF S rfl hc35 ?_
    obtain rfl := Option.some.inj h
    obtain rfl := hu27 _ rfl
    have h := g28
    clear g28
    try dsimp only at h
    exact wp_exit (xThen (xThen (xHit (leafT (⟨s24, Option.some.inj h, ad25, cp26, S.fix [1, 2, 3] [] (by decide) rfl rfl rfl⟩)))))
  refine sCondT S rfl hc35 ?_
  refine wp_skip (leafT (hK34 _ _ ?_))
  obtain ⟨t39, h, g40⟩ := bindSome h
  refine sCut (fun a w => ∃ o36, o36 = t39 ∧ ∃ ad37, ∃ cp38, St [] E [] w0 77 a w [(1, iv p1), (2, .pointer (some ⟨b6, 0, none⟩)), (4, .pointer (some ⟨b7, 0, none⟩)), (5, iv o9), (7, .pointer (some ⟨b16, 0, none⟩)), (24, iv o10), (25, iv s23)] [eBox b6 24 [iv p0.W, iv p0.H, .slice ad3 p0.Bits.length cp4], eBox b7 24 [iv 0, iv 0, .slice none 0 0], eBox b16 24 [iv o9, iv o10, .slice ad37 o36.length cp38], eRow rB 4 (.slice ad37 o36.length cp38) o36] [fRep (rL rB) (.slice ad3 p0.Bits.length cp4) p0.Bits]) ?_ (fun a w hI => ?_)
  rotate_left
  · obtain ⟨o36, rfl, ad37, cp38, S⟩ := hI
    have h := g40
    clear g40
    try dsimp only at h
    refine sRegion ?_
    refine sBin (iv (w64 (s23 + 1))) S (wN rfl) rfl rfl rfl (bAdd _ _ _ _ s23 1) rfl (lb rfl) fun a S => ?_
    refine sMove (iv (w64 (s23 + 1))) S (wN rfl) (.inl rfl) rfl rfl (lb rfl) fun a S => ?_
    exact leafL (leafT (⟨(w64 (s23 + 1), o36), (Option.some.inj h).symm, ⟨ad37, cp38, S.fix [0, 1, 2, 3] [0] (by decide) rfl rfl rfl⟩⟩))
  refine wp_block ?_
  refine sSeq (fun K41 hK41 => ?_)
  refine sRegion ?_
  refine sMove (iv s23) S (wN rfl) (.inl rfl) rfl rfl (lb rfl) fun a S => ?_
  refine sMove (iv s23) S (wN rfl) (.inr rfl) rfl rfl (lb rfl) fun a S => ?_
  refine leafL (leafT (hK41 _ _ ?_))
  refine sSeq (fun K42 hK42 => ?_)
  refine sRegion ?_
  refine sMove (iv o9) S (wN rfl) (.inl rfl) rfl rfl (lb rfl) fun a S => ?_
  refine sMove (iv 0) S (wN rfl) (.inl rfl) rfl rfl (lb rfl) fun a S => ?_
  refine leafL (leafT (hK42 _ _ ?_))
  refine wp_block ?_
  obtain ⟨t49, hl, g48⟩ := bindSome h
  refine sLoop hl (fun s0 a w => match s0 with | (s43, s44) => ∃ ad45, ∃ cp46, St [] E [] w0 77 a w [(1, iv p1), (2, .pointer (some ⟨b6, 0, none⟩)), (4, .pointer (some ⟨b7, 0, none⟩)), (5, iv o9), (7, .pointer (some ⟨b16, 0, none⟩)), (8, iv s23), (24, iv o10), (25, iv s23), (28, iv o9), (29, iv s43)] [eBox b6 24 [iv p0.W, iv p0.H, .slice ad3 p0.Bits.length cp4], eBox b7 24 [iv 0, iv 0, .slice none 0 0], eBox b16 24 [iv o9, iv o10, .slice ad45 s44.length cp46], eRow rB 4 (.slice ad45 s44.length cp46) s44] [fRep (rL rB) (.slice ad3 p0.Bits.length cp4) p0.Bits]) ⟨ad25, cp26, S.fix [0, 1, 2, 3] [0] (by decide) rfl rfl rfl⟩ ?_
  clear hl h
  intro s0 a w c0 hI h hu47
  obtain ⟨s43, s44⟩ := s0
  unfold symmetry_applied_l1 at h
  dsimp only at h hI
  obtain ⟨ad45, cp46, S⟩ := hI
  refine sSeq (fun K53 hK53 => ?_)
  refine sRegion ?_
  refine sBin (.bool (decide (s43 < o9))) S (wN rfl) rfl rfl rfl (bLt _ _ _ _ .i64 s43 o9) rfl (lb rfl) fun a S => ?_
  refine leafL (leafT (hK53 _ _ ?_))
  refine sSeq (fun K54 hK54 => ?_)
  rcases iteSome h with ⟨hc55, h⟩ | ⟨hc55, h⟩
  rotate_left
  · refine sCondF S rfl hc55 ?_
    obtain rfl := Option.some.inj h
    obtain rfl := hu47 _ rfl
    have h := g48
    clear g48
    try dsimp only at h
    exact wp_exit (xThen (xThen (xHit (leafB (leafT (⟨s44, Option.some.inj h, ad45, cp46, S.fix [0, 1, 2, 3] [0] (by decide) rfl rfl rfl⟩))))))
  refine sCondT S rfl hc55 ?_
  refine wp_skip (leafT (hK54 _ _ ?_))
  refine sSeq (fun K56 hK56 => ?_)
  refine wp_block ?_
  refine sSeq (fun K57 hK57 => ?_)
  refine sRegion ?_
  refine sMove (iv s43) S (wN rfl) (.inl rfl) rfl rfl (lb rfl) fun a S => ?_
  refine sMove (iv s43) S (wN rfl) (.inr rfl) rfl rfl (lb rfl) fun a S => ?_
  refine leafL (leafT (hK57 _ _ ?_))
  refine sSeq (fun K58 hK58 => ?_)
  refine sRegion ?_
  refine sMove (iv s43) S (wN rfl) (.inl rfl) rfl rfl (lb rfl) fun a S => ?_
  refine sMove (iv s23) S (wN rfl) (.inl rfl) rfl rfl (lb rfl) fun a S => ?_
  refine sMove (iv s43) S (wN rfl) (.inr rfl) rfl rfl (lb rfl) fun a S => ?_
  refine sMove (iv s23) S (wN rfl) (.inr rfl) rfl rfl (lb rfl) fun a S => ?_
  refine leafL (leafT (hK58 _ _ ?_))
  obtain ⟨t61, h, g62⟩ := bindSome h
  refine sCut (fun a w => ∃ o59, ∃ o60, (o59, o60) = t61 ∧ St [] E [] w0 77 a w [(1, iv p1), (2, .pointer (some ⟨b6, 0, none⟩)), (4, .pointer (some ⟨b7, 0, none⟩)), (5, iv o9), (7, .pointer (some ⟨b16, 0, none⟩)), (8, iv s23), (10, iv o59), (11, iv o60), (24, iv o10), (25, iv s23), (28, iv o9), (29, iv s43)] [eBox b6 24 [iv p0.W, iv p0.H, .slice ad3 p0.Bits.length cp4], eBox b7 24 [iv 0, iv 0, .slice none 0 0], eBox b16 24 [iv o9, iv o10, .slice ad45 s44.length cp46], eRow rB 4 (.slice ad45 s44.length cp46) s44] [fRep (rL rB) (.slice ad3 p0.Bits.length cp4) p0.Bits]) ?_ (fun a w hI => ?_)
  · refine sSeq (fun K63 hK63 => ?_)
    refine sRegion ?_
    refine sMove (iv p1) S (wN rfl) (.inl rfl) rfl rfl (lb rfl) fun a S => ?_
    refine sBin (iv (andI .i64 p1 4)) S (wN rfl) rfl rfl rfl (bAndK _ _ _ _ .i64 p1 4) rfl (lb rfl) fun a S => ?_
    refine sBin (.bool ((andI .i64 p1 4) != 0)) S (wN rfl) rfl rfl rfl (bNe _ _ _ _ .i64 (andI .i64 p1 4) 0) rfl (lb rfl) fun a S => ?_
    refine leafL (leafT (hK63 _ _ ?_))
    rcases iteSome h with ⟨hc64, h⟩ | ⟨hc64, h⟩
    rotate_left
    · refine sCondF S rfl hc64 ?_
      exact wp_skip (leafT (⟨s43, s23, Option.some.inj h, S.fix [0, 1, 2, 3] [0] (by decide) rfl rfl rfl⟩))
    refine sCondT S rfl hc64 ?_
    refine sRegion ?_
    refine sMove (iv s23) S (wN rfl) (.inl rfl) rfl rfl (lb rfl) fun a S => ?_
    refine sMove (iv s43) S (wN rfl) (.inl rfl) rfl rfl (lb rfl) fun a S => ?_
    refine sMove (iv s23) S (wN rfl) (.inr rfl) rfl rfl (lb rfl) fun a S => ?_
    refine sMove (iv s43) S (wN rfl) (.inr rfl) rfl rfl (lb rfl) fun a S => ?_
    exact leafL (leafT (⟨s23, s43, Option.some.inj h, S.fix [0, 1, 2, 3] [0] (by decide) rfl rfl rfl⟩))
  obtain ⟨o59, o60, rfl, S⟩ := hI
  have h := g62
  clear g62
  try dsimp only at h
  obtain ⟨t66, h, g67⟩ := bindSome h
  refine sCut (fun a w => ∃ o65, o65 = t66 ∧ St [] E [] w0 77 a w [(1, iv p1), (2, .pointer (some ⟨b6, 0, none⟩)), (4, .pointer (some ⟨b7, 0, none⟩)), (5, iv o9), (7, .pointer (some ⟨b16, 0, none⟩)), (8, iv s23), (10, iv o65), (11, iv o60), (24, iv o10), (25, iv s23), (28, iv o9), (29, iv s43)] [eBox b6 24 [iv p0.W, iv p0.H, .slice ad3 p0.Bits.length cp4], eBox b7 24 [iv 0, iv 0, .slice none 0 0], eBox b16 24 [iv o9, iv o10, .slice ad45 s44.length cp46], eRow rB 4 (.slice ad45 s44.length cp46) s44] [fRep (rL rB) (.slice ad3 p0.Bits.length cp4) p0.Bits]) ?_ (fun a w hI => ?_)
  · refine sSeq (fun K68 hK68 => ?_)
    refine sRegion ?_
    refine sMove (iv p1) S (wN rfl) (.inl rfl) rfl rfl (lb rfl) fun a S => ?_
    refine sBin (iv (andI .i64 p1 1)) S (wN rfl) rfl rfl rfl (bAndK _ _ _ _ .i64 p1 1) rfl (lb rfl) fun a S => ?_
    refine sBin (.bool ((andI .i64 p1 1) != 0)) S (wN rfl) rfl rfl rfl (bNe _ _ _ _ .i64 (andI .i64 p1 1) 0) rfl (lb rfl) fun a S => ?_
    refine leafL (leafT (hK68 _ _ ?_))
    rcases iteSome h with ⟨hc69, h⟩ | ⟨hc69, h⟩
    rotate_left
    · refine sCondF S rfl hc69 ?_
      exact wp_skip (leafT (⟨o59, Option.some.inj h, S.fix [0, 1, 2, 3] [0] (by decide) rfl rfl rfl⟩))
    refine sCondT S rfl hc69 ?_
    refine sRegion ?_
    refine sField (b := b6) (off := 0) 0 0 S (wN rfl) rfl rfl rfl rfl rfl (lb rfl) fun a S => ?_
    refine sLoad1 (p := b6) (off := 0) (T := 24) (vs := [iv p0.W, iv p0.H, .slice ad3 p0.Bits.length cp4]) 0 (iv p0.W) S (wN rfl) rfl rfl rfl rfl rfl rfl (lb rfl) fun a S => ?_
    refine sBin (iv (w64 (p0.W - 1))) S (wN rfl) rfl rfl rfl (bSub _ _ _ _ p0.W 1) rfl (lb rfl) fun a S => ?_
    refine sMove (iv o59) S (wN rfl) (.inl rfl) rfl rfl (lb rfl) fun a S => ?_
    refine sBin (iv (w64 ((w64 (p0.W - 1)) - o59))) S (wN rfl) rfl rfl rfl (bSub _ _ _ _ (w64 (p0.W - 1)) o59) rfl (lb rfl) fun a S => ?_
    refine sMove (iv (w64 ((w64 (p0.W - 1)) - o59))) S (wN rfl) (.inr rfl) rfl rfl (lb rfl) fun a S => ?_
    exact leafL (leafT (⟨w64 ((w64 (p0.W - 1)) - o59), Option.some.inj h, S.fix [0, 1, 2, 3] [0] (by decide) rfl rfl rfl⟩))
  obtain ⟨o65, rfl, S⟩ := hI
  have h := g67
  clear g67
  try dsimp only at h
  obtain ⟨t71, h, g72⟩ := bindSome h
  refine sCut (fun a w => ∃ o70, o70 = t71 ∧ St [] E [] w0 77 a w [(1, iv p1), (2, .pointer (some ⟨b6, 0, none⟩)), (4, .pointer (some ⟨b7, 0, none⟩)), (5, iv o9), (7, .pointer (some ⟨b16, 0, none⟩)), (8, iv s23), (10, iv o65), (11, iv o70), (24, iv o10), (25, iv s23), (28, iv o9), (29, iv s43)] [eBox b6 24 [iv p0.W, iv p0.H, .slice ad3 p0.Bits.length cp4], eBox b7 24 [iv 0, iv 0, .slice none 0 0], eBox b16 24 [iv o9, iv o10, .slice ad45 s44.length cp46], eRow rB 4 (.slice ad45 s44.length cp46) s44] [fRep (rL rB) (.slice ad3 p0.Bits.length cp4) p0.Bits]) ?_ (fun a w hI => ?_)
  · refine sSeq (fun K73 hK73 => ?_)
    refine sRegion ?_
    refine sMove (iv p1) S (wN rfl) (.inl rfl) rfl rfl (lb rfl) fun a S => ?_
    refine sBin (iv (andI .i64 p1 2)) S (wN rfl) rfl rfl rfl (bAndK _ _ _ _ .i64 p1 2) rfl (lb rfl) fun a S => ?_
    refine sBin (.bool ((andI .i64 p1 2) != 0)) S (wN rfl) rfl rfl rfl (bNe _ _ _ _ .i64 (andI .i64 p1 2) 0) rfl (lb rfl) fun a S => ?_
    refine leafL (leafT (hK73 _ _ ?_))
    rcases iteSome h with ⟨hc74, h⟩ | ⟨hc74, h⟩
    rotate_left
    · refine sCondF S rfl hc74 ?_
      exact wp_skip (leafT (⟨o60, Option.some.inj h, S.fix [0, 1, 2, 3] [0] (by decide) rfl rfl rfl⟩))
    refine sCondT S rfl hc74 ?_
    refine sRegion ?_
    refine sField (b := b6) (off := 0) 1 1 S (wN rfl) rfl rfl rfl rfl rfl (lb rfl) fun a S => ?_
    refine sLoad1 (p := b6) (off := 1) (T := 24) (vs := [iv p0.W, iv p0.H, .slice ad3 p0.Bits.length cp4]) 0 (iv p0.H) S (wN rfl) rfl rfl rfl rfl rfl rfl (lb rfl) fun a S => ?_
    refine sBin (iv (w64 (p0.H - 1))) S (wN rfl) rfl rfl rfl (bSub _ _ _ _ p0.H 1) rfl (lb rfl) fun a S => ?_
    refine sMove (iv o60) S (wN rfl) (.inl rfl) rfl rfl (lb rfl) fun a S => ?_
    refine sBin (iv (w64 ((w64 (p0.H - 1)) - o60))) S (wN rfl) rfl rfl rfl (bSub _ _ _ _ (w64 (p0.H - 1)) o60) rfl (lb rfl) fun a S => ?_
    refine sMove (iv (w64 ((w64 (p0.H - 1)) - o60))) S (wN rfl) (.inr rfl) rfl rfl (lb rfl) fun a S => ?_
    exact leafL (leafT (⟨w64 ((w64 (p0.H - 1)) - o60), Option.some.inj h, S.fix [0, 1, 2, 3] [0] (by decide) rfl rfl rfl⟩))
  obtain ⟨o70, rfl, S⟩ := hI
  have h := g72
  clear g72
  try dsimp only at h
  obtain ⟨x75, hx76, h⟩ := bindSome h
  obtain ⟨l82, hx83, h⟩ := bindSome h
  obtain ⟨q86, hq87, S⟩ := pIdx (P := Try.prog) (r := rB) (v := .slice ad3 p0.Bits.length cp4) (xs := p0.Bits) (j := w64 ((w64 (o70 * p0.W)) + o65)) 22 4 0 S Try.underlying22 rfl rfl hx76
  obtain ⟨u88, S⟩ := pLoad (r := rB) (q := q86) (x := x75) 0 S rfl
  obtain rfl : u88 = .bool x75 := S.mem.know (i := 1) (e := fRep rB (u88) x75) rfl
  refine sDraw (nf := [16, 17, 19]) (W := [(0, 55, .pointer (some ⟨b16, 2, none⟩)), (1, 56, .slice ad45 s44.length cp46), (2, 57, .pointer (some ⟨b6, 2, none⟩)), (3, 58, .slice ad3 p0.Bits.length cp4), (4, 59, iv o70), (5, 60, .pointer (some ⟨b6, 0, none⟩)), (6, 61, iv p0.W), (7, 62, iv (w64 (o70 * p0.W))), (8, 63, iv o65), (9, 64, iv (w64 ((w64 (o70 * p0.W)) + o65))), (10, 65, q86), (11, 66, .bool x75), (12, 67, iv p1), (13, 68, iv (andI .i64 p1 8)), (14, 69, .bool ((andI .i64 p1 8) != 0)), (15, 70, .bool (x75 != ((andI .i64 p1 8) != 0)))]) rfl S ?_
  refine node_by (A := anc_symmetry_applied_0) (nf := [16, 17, 19]) (Y := []) (W := [(0, 55, .pointer (some ⟨b16, 2, none⟩)), (1, 56, .slice ad45 s44.length cp46), (2, 57, .pointer (some ⟨b6, 2, none⟩)), (3, 58, .slice ad3 p0.Bits.length cp4), (4, 59, iv o70), (5, 60, .pointer (some ⟨b6, 0, none⟩)), (6, 61, iv p0.W), (7, 62, iv (w64 (o70 * p0.W))), (8, 63, iv o65), (9, 64, iv (w64 ((w64 (o70 * p0.W)) + o65))), (10, 65, q86), (11, 66, .bool x75), (12, 67, iv p1), (13, 68, iv (andI .i64 p1 8)), (14, 69, .bool ((andI .i64 p1 8) != 0)), (15, 70, .bool (x75 != ((andI .i64 p1 8) != 0)))]) 20 (by kernel_rfl) (by kernel_rfl) (by kernel_rfl) (by kernel_rfl) (by kernel_rfl) [0, 1, 2, 3, 4, 5, 6, 7, 8, 9, 10, 11, 12, 13, 14, 15] (by kernel_rfl) (by decide) (by decide) (aF 0 19 (by decide) ?_ (aF 1 18 (by decide) ?_ (aF 2 17 (by decide) ?_ (aF 3 16 (by decide) ?_ (aF 4 15 (by decide) ?_ (aF 5 14 (by decide) ?_ (aF 6 13 (by decide) ?_ (aF 7 12 (by decide) ?_ (aF 8 11 (by decide) ?_ (aF 9 10 (by decide) ?_ (aF 10 9 (by decide) ?_ (aF 11 8 (by decide) ?_ (aF 12 7 (by decide) ?_ (aF 13 6 (by decide) ?_ (aF 14 5 (by decide) ?_ (aF 15 4 (by decide) ?_ (aN 16 3 (by decide) ?_ (aB 17 2 16 (by decide) (aE 18 1 16 (by decide) (aB 19 0 16 (by decide) (trivial))))))))))))))))))))) [] (fun q hq => by cases hq) (fun hY => absurd (hY 16 (by decide)) (by decide))
  · refine fI 55 (.pointer (some ⟨b16, 2, none⟩)) [(7, .pointer (some ⟨b16, 0, none⟩))] 0 [none] rfl rfl rfl rfl rfl rfl fun G a w S => ?_
    refine sField (b := b16) (off := 0) 2 2 S (wN rfl) rfl rfl rfl rfl rfl (lb rfl) fun a S => ?_
    exact leafL ⟨rfl, S⟩
  · refine fI 56 (.slice ad45 s44.length cp46) [(55, .pointer (some ⟨b16, 2, none⟩))] 1 [some 0] rfl rfl rfl rfl rfl rfl fun G a w S => ?_
    refine sLoad1 (p := b16) (off := 2) (T := 24) (vs := [iv o9, iv o10, .slice ad45 s44.length cp46]) 2 (.slice ad45 s44.length cp46) S (wN rfl) rfl rfl rfl rfl rfl rfl (lb rfl) fun a S => ?_
    exact leafL ⟨rfl, S⟩
  · refine fI 57 (.pointer (some ⟨b6, 2, none⟩)) [(2, .pointer (some ⟨b6, 0, none⟩))] 2 [none] rfl rfl rfl rfl rfl rfl fun G a w S => ?_
    refine sField (b := b6) (off := 0) 2 2 S (wN rfl) rfl rfl rfl rfl rfl (lb rfl) fun a S => ?_
    exact leafL ⟨rfl, S⟩
  · refine fI 58 (.slice ad3 p0.Bits.length cp4) [(57, .pointer (some ⟨b6, 2, none⟩))] 3 [some 2] rfl rfl rfl rfl rfl rfl fun G a w S => ?_
    refine sLoad1 (p := b6) (off := 2) (T := 24) (vs := [iv p0.W, iv p0.H, .slice ad3 p0.Bits.length cp4]) 0 (.slice ad3 p0.Bits.length cp4) S (wN rfl) rfl rfl rfl rfl rfl rfl (lb rfl) fun a S => ?_
    exact leafL ⟨rfl, S⟩
  · refine fI 59 (iv o70) [(11, iv o70)] 4 [none] rfl rfl rfl rfl rfl rfl fun G a w S => ?_
    refine sMove (iv o70) S (wN rfl) (.inl rfl) rfl rfl (lb rfl) fun a S => ?_
    exact leafL ⟨rfl, S⟩
  · refine fI 60 (.pointer (some ⟨b6, 0, none⟩)) [(2, .pointer (some ⟨b6, 0, none⟩))] 5 [none] rfl rfl rfl rfl rfl rfl fun G a w S => ?_
    refine sField (b := b6) (off := 0) 0 0 S (wN rfl) rfl rfl rfl rfl rfl (lb rfl) fun a S => ?_
    exact leafL ⟨rfl, S⟩
  · refine fI 61 (iv p0.W) [(60, .pointer (some ⟨b6, 0, none⟩))] 6 [some 5] rfl rfl rfl rfl rfl rfl fun G a w S => ?_
    refine sLoad1 (p := b6) (off := 0) (T := 24) (vs := [iv p0.W, iv p0.H, .slice ad3 p0.Bits.length cp4]) 0 (iv p0.W) S (wN rfl) rfl rfl rfl rfl rfl rfl (lb rfl) fun a S => ?_
    exact leafL ⟨rfl, S⟩
  · refine fI 62 (iv (w64 (o70 * p0.W))) [(59, iv o70), (61, iv p0.W)] 7 [some 4, some 6] rfl rfl rfl rfl rfl rfl fun G a w S => ?_
    refine sBin (iv (w64 (o70 * p0.W))) S (wN rfl) rfl rfl rfl (bMul _ _ _ _ o70 p0.W) rfl (lb rfl) fun a S => ?_
    exact leafL ⟨rfl, S⟩
  · refine fI 63 (iv o65) [(10, iv o65)] 8 [none] rfl rfl rfl rfl rfl rfl fun G a w S => ?_
    refine sMove (iv o65) S (wN rfl) (.inl rfl) rfl rfl (lb rfl) fun a S => ?_
    exact leafL ⟨rfl, S⟩
  · refine fI 64 (iv (w64 ((w64 (o70 * p0.W)) + o65))) [(62, iv (w64 (o70 * p0.W))), (63, iv o65)] 9 [some 7, some 8] rfl rfl rfl rfl rfl rfl fun G a w S => ?_
    refine sBin (iv (w64 ((w64 (o70 * p0.W)) + o65))) S (wN rfl) rfl rfl rfl (bAdd _ _ _ _ (w64 (o70 * p0.W)) o65) rfl (lb rfl) fun a S => ?_
    exact leafL ⟨rfl, S⟩
  · refine fI 65 q86 [(58, .slice ad3 p0.Bits.length cp4), (64, iv (w64 ((w64 (o70 * p0.W)) + o65)))] 10 [some 3, some 9] rfl rfl rfl rfl rfl rfl fun G a w S => ?_
    refine sIdxV (v := .slice ad3 p0.Bits.length cp4) (k := .i64) (j := w64 ((w64 (o70 * p0.W)) + o65)) S (wN rfl) rfl rfl rfl hq87 rfl (lb rfl) fun a S => ?_
    exact leafL ⟨rfl, S⟩
  · refine fI 66 (.bool x75) [(65, q86)] 11 [some 10] rfl rfl rfl rfl rfl rfl fun G a w S => ?_
    refine sLoadV1 (vq := q86) 0 (.bool x75) S (wN rfl) rfl rfl rfl rfl rfl (lb rfl) fun a S => ?_
    exact leafL ⟨rfl, S⟩
  · refine fI 67 (iv p1) [(1, iv p1)] 12 [none] rfl rfl rfl rfl rfl rfl fun G a w S => ?_
    refine sMove (iv p1) S (wN rfl) (.inl rfl) rfl rfl (lb rfl) fun a S => ?_
    exact leafL ⟨rfl, S⟩
  · refine fI 68 (iv (andI .i64 p1 8)) [(67, iv p1)] 13 [some 12] rfl rfl rfl rfl rfl rfl fun G a w S => ?_
    refine sBin (iv (andI .i64 p1 8)) S (wN rfl) rfl rfl rfl (bAndK _ _ _ _ .i64 p1 8) rfl (lb rfl) fun a S => ?_
    exact leafL ⟨rfl, S⟩
  · refine fI 69 (.bool ((andI .i64 p1 8) != 0)) [(68, iv (andI .i64 p1 8))] 14 [some 13] rfl rfl rfl rfl rfl rfl fun G a w S => ?_
    refine sBin (.bool ((andI .i64 p1 8) != 0)) S (wN rfl) rfl rfl rfl (bNe _ _ _ _ .i64 (andI .i64 p1 8) 0) rfl (lb rfl) fun a S => ?_
    exact leafL ⟨rfl, S⟩
  · refine fI 70 (.bool (x75 != ((andI .i64 p1 8) != 0))) [(66, .bool x75), (69, .bool ((andI .i64 p1 8) != 0))] 15 [some 11, some 14] rfl rfl rfl rfl rfl rfl fun G a w S => ?_
    refine sBin (.bool (x75 != ((andI .i64 p1 8) != 0))) S (wN rfl) rfl rfl rfl (bNeB _ _ _ _ Try.underlying4 x75 ((andI .i64 p1 8) != 0)) rfl (lb rfl) fun a S => ?_
    exact leafL ⟨rfl, S⟩
  refine ⟨_, [(70, .bool (x75 != ((andI .i64 p1 8) != 0)))], rfl, (srcs_of [some 15] rfl rfl rfl), fun G a w S => ?_⟩
  refine sLit (r := rB) (T := 4) (xs := [x75 != ((andI .i64 p1 8) != 0)]) [(0, .bool (x75 != ((andI .i64 p1 8) != 0)))] 1 [.bool (x75 != ((andI .i64 p1 8) != 0))] [.bool (x75 != ((andI .i64 p1 8) != 0))] (.bool false) 1 S (wN rfl) rfl rfl Try.underlying22 rfl (by decide) (by decide) (by kernel_rfl) rfl (fun E1 w1 hE => All.cons rfl (All.nil _ _ _)) rfl rfl (lb rfl) fun a w ad89 cp90 S => ?_
  refine leafL ⟨rfl, _, _, .inl ⟨71, (.slice ad89 [x75 != ((andI .i64 p1 8) != 0)].length cp90), [], rfl, S, hz_of rfl, ?_⟩⟩
  refine node_by (A := anc_symmetry_applied_0) (nf := [16, 17, 19]) (Y := [16]) 20 (by kernel_rfl) (by kernel_rfl) (by kernel_rfl) (by kernel_rfl) (by kernel_rfl) [16, 0, 1, 2, 3, 4, 5, 6, 7, 8, 9, 10, 11, 12, 13, 14, 15] (by kernel_rfl) (by decide) (by decide) (aF 0 19 (by decide) ?_ (aF 1 18 (by decide) ?_ (aD 2 17 16 (by decide) (aD 3 16 16 (by decide) (aD 4 15 16 (by decide) (aD 5 14 16 (by decide) (aD 6 13 16 (by decide) (aD 7 12 16 (by decide) (aD 8 11 16 (by decide) (aD 9 10 16 (by decide) (aD 10 9 16 (by decide) (aD 11 8 16 (by decide) (aD 12 7 16 (by decide) (aD 13 6 16 (by decide) (aD 14 5 16 (by decide) (aD 15 4 16 (by decide) (aY 16 3 (by decide) (aN 17 2 (by decide) ?_ (aE 18 1 17 (by decide) (aB 19 0 17 (by decide) (trivial))))))))))))))))))))) [] (fun q hq => by cases hq) (fun hY => absurd (hY 17 (by decide)) (by decide))
  · refine fI 55 (.pointer (some ⟨b16, 2, none⟩)) [(7, .pointer (some ⟨b16, 0, none⟩))] 1 [none] rfl rfl rfl rfl rfl rfl fun G a w S => ?_
    refine sField (b := b16) (off := 0) 2 2 S (wN rfl) rfl rfl rfl rfl rfl (lb rfl) fun a S => ?_
    exact leafL ⟨rfl, S⟩
  · refine fI 56 (.slice ad45 s44.length cp46) [(55, .pointer (some ⟨b16, 2, none⟩))] 2 [some 1] rfl rfl rfl rfl rfl rfl fun G a w S => ?_
    refine sLoad1 (p := b16) (off := 2) (T := 24) (vs := [iv o9, iv o10, .slice ad45 s44.length cp46]) 3 (.slice ad45 s44.length cp46) S (wN rfl) rfl rfl rfl rfl rfl rfl (lb rfl) fun a S => ?_
    exact leafL ⟨rfl, S⟩
  refine ⟨_, [(56, .slice ad45 s44.length cp46), (71, .slice ad89 [x75 != ((andI .i64 p1 8) != 0)].length cp90)], rfl, (srcs_of [some 2, some 0] rfl rfl rfl), fun G a w S => ?_⟩
  refine sApp (r := rB) (T := 4) (xs := s44) (ys := [x75 != ((andI .i64 p1 8) != 0)]) (v := .slice ad45 s44.length cp46) (u := .slice ad89 [x75 != ((andI .i64 p1 8) != 0)].length cp90) 4 (.bool false) 1 S (wN rfl) rfl Try.underlying22 rfl rfl (by decide) rfl rfl rfl (src_R (T := 4) 0 S.mem rfl) hx83 rfl (lb rfl) fun a w ad91 cp92 S => ?_
  refine leafL ⟨rfl, _, _, .inl ⟨72, (.slice ad91 l82.length cp92), [(18, 73, .pointer (some ⟨b16, 2, none⟩))], rfl, S, hz_of rfl, ?_⟩⟩
  refine node_by (A := anc_symmetry_applied_0) (nf := [16, 17, 19]) (Y := [17, 16]) 20 (by kernel_rfl) (by kernel_rfl) (by kernel_rfl) (by kernel_rfl) (by kernel_rfl) [18, 17, 16, 0, 1, 2, 3, 4, 5, 6, 7, 8, 9, 10, 11, 12, 13, 14, 15] (by kernel_rfl) (by decide) (by decide) (aD 0 19 17 (by decide) (aD 1 18 17 (by decide) (aD 2 17 17 (by decide) (aD 3 16 17 (by decide) (aD 4 15 17 (by decide) (aD 5 14 17 (by decide) (aD 6 13 17 (by decide) (aD 7 12 17 (by decide) (aD 8 11 17 (by decide) (aD 9 10 17 (by decide) (aD 10 9 17 (by decide) (aD 11 8 17 (by decide) (aD 12 7 17 (by decide) (aD 13 6 17 (by decide) (aD 14 5 17 (by decide) (aD 15 4 17 (by decide) (aY 16 3 (by decide) (aY 17 2 (by decide) (aF 18 1 (by decide) ?_ (aN 19 0 (by decide) ?_ (trivial))))))))))))))))))))) [] (fun q hq => by cases hq) (fun hY => absurd (hY 19 (by decide)) (by decide))
  · refine fI 73 (.pointer (some ⟨b16, 2, none⟩)) [(7, .pointer (some ⟨b16, 0, none⟩))] 0 [none] rfl rfl rfl rfl rfl rfl fun G a w S => ?_
    refine sField (b := b16) (off := 0) 2 2 S (wN rfl) rfl rfl rfl rfl rfl (lb rfl) fun a S => ?_
    exact leafL ⟨rfl, S⟩
  refine ⟨_, [(72, .slice ad91 l82.length cp92), (73, .pointer (some ⟨b16, 2, none⟩))], rfl, (srcs_of [some 1, some 0] rfl rfl rfl), fun G a w S => ?_⟩
  refine sStore (p := b16) (off := 2) (T := 24) (vs := [iv o9, iv o10, .slice ad45 s44.length cp46]) (v := .slice ad91 l82.length cp92) 4 [.slice ad91 l82.length cp92] S (wN rfl) rfl rfl rfl rfl rfl rfl rfl (by simp) rfl fun a w S => ?_
  refine leafL ⟨rfl, _, _, .inr ⟨[], rfl, S, hz_of rfl, ?_⟩⟩
  refine node_by (A := anc_symmetry_applied_0) (nf := [16, 17, 19]) (Y := [19, 17, 16]) 20 (by kernel_rfl) (by kernel_rfl) (by kernel_rfl) (by kernel_rfl) (by kernel_rfl) [18, 17, 16, 0, 1, 2, 3, 4, 5, 6, 7, 8, 9, 10, 11, 12, 13, 14, 15] (by kernel_rfl) (by decide) (by decide) (aD 0 19 19 (by decide) (aD 1 18 19 (by decide) (aD 2 17 19 (by decide) (aD 3 16 19 (by decide) (aD 4 15 19 (by decide) (aD 5 14 19 (by decide) (aD 6 13 19 (by decide) (aD 7 12 19 (by decide) (aD 8 11 19 (by decide) (aD 9 10 19 (by decide) (aD 10 9 19 (by decide) (aD 11 8 19 (by decide) (aD 12 7 19 (by decide) (aD 13 6 19 (by decide) (aD 14 5 19 (by decide) (aD 15 4 19 (by decide) (aY 16 3 (by decide) (aY 17 2 (by decide) (aD 18 1 19 (by decide) (aY 19 0 (by decide) (trivial))))))))))))))))))))) [(1, iv p1), (2, .pointer (some ⟨b6, 0, none⟩)), (4, .pointer (some ⟨b7, 0, none⟩)), (5, iv o9), (7, .pointer (some ⟨b16, 0, none⟩)), (8, iv s23), (24, iv o10), (25, iv s23), (28, iv o9), (29, iv s43)] (fin_of [none, none, none, none, none, none, none, none, none, none] rfl (by kernel_rfl) (by kernel_rfl)) (fun _ a w S => ?_)
  refine leafB (leafT (hK56 _ _ ?_))
  refine sRegion ?_
  refine sBin (iv (w64 (s43 + 1))) S (wN rfl) rfl rfl rfl (bAdd _ _ _ _ s43 1) rfl (lb rfl) fun a S => ?_
  refine sMove (iv (w64 (s43 + 1))) S (wN rfl) (.inl rfl) rfl rfl (lb rfl) fun a S => ?_
  exact leafL (leafT (⟨(w64 (s43 + 1), l82), (Option.some.inj h).symm, ⟨ad91, cp92, S.fix [3, 4, 0, 1] [3] (by decide) rfl rfl rfl⟩⟩))

end Go.Proofs.Ytffikfajljbmnaa
namespace Go.Proofs.Ytffikfajljbmnaa
open Go.RowKit
set_option linter.unusedVariables false

noncomputable def F_symmetry_Apply (p0 : api_Grid) (p1 : Int) : Option (api_Grid × Int) :=
  Option.bind (F_symmetry_check [p0]) fun r12 =>
  if r12 != 0 then
    some ((api_Grid.mk 0 0 ([] : (List Bool))), r12)
  else
    Option.bind (F_symmetry_is p1) fun r19 =>
    if !r19 then
      some ((api_Grid.mk 0 0 ([] : (List Bool))), 2)
    else
      Option.bind (F_symmetry_applied p0 p1) fun r24 =>
      some (r24, 0)
def c_symmetry_Apply_val (r : (api_Grid × Int)) (x : Value) : Value := .tuple #[x, .int .i64 r.2]
def c_symmetry_Apply_D (r : (api_Grid × Int)) (x : Value) : List Fact := [fRep r_api_Grid x r.1]
set_option maxHeartbeats 4000000 in
set_option maxRecDepth 100000 in
theorem c_symmetry_Apply (E : Nat → Prop) (w0 : World) (p0 : api_Grid) (v0 : Value) (p1 : Int) (r : (api_Grid × Int)) (h : F_symmetry_Apply p0 p1 = some r) (S : St0 E [] w0 w0 [] [fRep r_api_Grid (v0) p0]) :
    Calls Try.prog 33 #[v0, iv p1] w0 (Ret (X := Value) E [] w0 (c_symmetry_Apply_val r) (fun _ => []) (c_symmetry_Apply_D r)) := by
  unfold F_symmetry_Apply at h
  obtain ⟨u1, rfl, hu2⟩ := S.know (i := 0) (e := fRep r_api_Grid (v0) p0) rfl
  have S := S.learn (fRep (rL rB) u1 p0.Bits) hu2
  obtain ⟨ad3, cp4, _, rfl, _⟩ := hu2
  refine sEnter (args := [.agg #[iv p0.W, iv p0.H, .slice ad3 p0.Bits.length cp4], iv p1]) 21 Try.func33 rfl rfl (by simp) S (fun a S => ?_)
  refine sSeq (fun K5 hK5 => ?_)
  refine sRegion ?_
  refine sBox (v := .agg #[iv p0.W, iv p0.H, .slice ad3 p0.Bits.length cp4]) S (wN rfl) rfl rfl [iv p0.W, iv p0.H, .slice ad3 p0.Bits.length cp4] rfl rfl (lb rfl) fun a b6 w S => ?_
  refine sAlloc (.agg #[iv 0, iv 0, .slice none 0 0]) S (wN rfl) rfl rfl [iv 0, iv 0, .slice none 0 0] rfl rfl (lb rfl) fun a b7 w S => ?_
  refine sMove (iv 0) S (wN rfl) (.inr rfl) rfl rfl (lb rfl) fun a S => ?_
  refine leafL (leafT (hK5 _ _ ?_))
  refine sSeq (fun K8 hK8 => ?_)
  refine sSeq (fun K9 hK9 => ?_)
  refine sRegion ?_
  refine sLoadN (p := b6) (off := 0) (T := 24) (vs := [iv p0.W, iv p0.H, .slice ad3 p0.Bits.length cp4]) 1 [iv p0.W, iv p0.H, .slice ad3 p0.Bits.length cp4] S (wN rfl) rfl rfl rfl rfl rfl rfl rfl (lb rfl) fun a S => ?_
  refine sLit (r := r_api_Grid) (T := 24) (xs := [p0]) [(0, .agg #[iv p0.W, iv p0.H, .slice ad3 p0.Bits.length cp4])] 1 [.agg #[iv p0.W, iv p0.H, .slice ad3 p0.Bits.length cp4]] [iv p0.W, iv p0.H, .slice ad3 p0.Bits.length cp4] (.agg #[iv 0, iv 0, .slice none 0 0]) 40 S (wN rfl) rfl rfl Try.underlying141 rfl (by decide) (by decide) (by kernel_rfl) rfl (fun E1 w1 hE => All.cons (r_api_Grid.mono hE (S.mem.know (i := 1) (e := fRep r_api_Grid (.agg #[iv p0.W, iv p0.H, .slice ad3 p0.Bits.length cp4]) p0) rfl)) (All.nil _ _ _)) rfl rfl (lb rfl) fun a w ad10 cp11 S => ?_
  obtain ⟨r12, hx13, h⟩ := bindSome h
  have S1 := S.mem
  have S1 := S1.shutR (r := r_api_Grid) (T := 24) (v := .slice ad10 [p0].length cp11) (xs := [p0]) 0 rfl
  refine sCallQ (X := Unit) (f := 60) (vs := [.slice ad10 [p0].length cp11]) (val := fun _ => iv r12) S (wN rfl) rfl callee60 rfl (S1.quiet [0] rfl) (fun E1 w1 S1 => c_symmetry_check E1 w1 [p0] (.slice ad10 [p0].length cp11) r12 hx13 S1) rfl (lb rfl) fun _ a w S => ?_
  refine sMove (iv r12) S (wN rfl) (.inr rfl) rfl rfl (lb rfl) fun a S => ?_
  refine leafL (leafT (hK9 _ _ ?_))
  refine sSeq (fun K14 hK14 => ?_)
  refine sRegion ?_
  refine sMove (iv r12) S (wN rfl) (.inl rfl) rfl rfl (lb rfl) fun a S => ?_
  refine sBin (.bool (r12 != 0)) S (wN rfl) rfl rfl rfl (bNe _ _ _ _ .i64 r12 0) rfl (lb rfl) fun a S => ?_
  refine leafL (leafT (hK14 _ _ ?_))
  rcases iteSome h with ⟨hc15, h⟩ | ⟨hc15, h⟩
  · refine sCondT S rfl hc15 ?_
    refine sSeq (fun K16 hK16 => ?_)
    refine sRegion ?_
    refine sBuild [] [iv 0, iv 0, .slice none 0 0] S (wN rfl) rfl rfl rfl rfl (lb rfl) fun a S => ?_
    refine sMove (iv r12) S (wN rfl) (.inl rfl) rfl rfl (lb rfl) fun a S => ?_
    refine sStore (p := b7) (off := 0) (T := 24) (vs := [iv 0, iv 0, .slice none 0 0]) (v := .agg #[iv 0, iv 0, .slice none 0 0]) 1 [iv 0, iv 0, .slice none 0 0] S (wN rfl) rfl rfl rfl rfl rfl rfl rfl (by simp) rfl fun a w S => ?_
    refine sMove (iv r12) S (wN rfl) (.inr rfl) rfl rfl (lb rfl) fun a S => ?_
    refine leafL (leafT (hK16 _ _ ?_))
    obtain rfl := Option.some.inj h
    have S := S.learn (fRep (rL rB) (.slice none 0 0) ([] : (List Bool))) (rL_nil _ _ _)
    have S := S.learn (fRep r_api_Grid (.agg #[iv 0, iv 0, .slice none 0 0]) (api_Grid.mk 0 0 ([] : (List Bool)))) ⟨_, rfl, S.mem.know (i := 0) (e := fRep (rL rB) (.slice none 0 0) ([] : (List Bool))) rfl⟩
    exact wp_ret (rThen (sRet (.tuple #[.agg #[iv 0, iv 0, .slice none 0 0], iv r12]) S (rsl2 rfl (rvN (c := 4) (t := 24) (T := 24) (p := b7) 0 [iv 0, iv 0, .slice none 0 0] S rfl rfl rfl rfl) (rvT (t := 5) (v := iv r12) S rfl)) ⟨(.agg #[iv 0, iv 0, .slice none 0 0]), rfl, S.mem.sel [] [0] (by decide) rfl rfl⟩))
  refine sCondF S rfl hc15 ?_
  refine wp_skip (leafT (hK8 _ _ ?_))
  refine sSeq (fun K17 hK17 => ?_)
  refine sSeq (fun K18 hK18 => ?_)
  refine sRegion ?_
  refine sMove (iv p1) S (wN rfl) (.inl rfl) rfl rfl (lb rfl) fun a S => ?_
  obtain ⟨r19, hx20, h⟩ := bindSome h
  have S1 := S.mem
  refine sCallQ (X := Unit) (f := 61) (vs := [iv p1]) (val := fun _ => .bool r19) S (wN rfl) rfl callee61 rfl (S1.quiet [] rfl) (fun E1 w1 S1 => c_symmetry_is E1 w1 p1 r19 hx20 S1) rfl (lb rfl) fun _ a w S => ?_
  refine sNot (b := r19) S (wN rfl) rfl rfl rfl (lb rfl) fun a S => ?_
  refine leafL (leafT (hK18 _ _ ?_))
  rcases iteSome h with ⟨hc21, h⟩ | ⟨hc21, h⟩
  · refine sCondT S rfl hc21 ?_
    refine sSeq (fun K22 hK22 => ?_)
    refine sRegion ?_
    refine sBuild [] [iv 0, iv 0, .slice none 0 0] S (wN rfl) rfl rfl rfl rfl (lb rfl) fun a S => ?_
    refine sStore (p := b7) (off := 0) (T := 24) (vs := [iv 0, iv 0, .slice none 0 0]) (v := .agg #[iv 0, iv 0, .slice none 0 0]) 1 [iv 0, iv 0, .slice none 0 0] S (wN rfl) rfl rfl rfl rfl rfl rfl rfl (by simp) rfl fun a w S => ?_
    refine sMove (iv 2) S (wN rfl) (.inr rfl) rfl rfl (lb rfl) fun a S => ?_
    refine leafL (leafT (hK22 _ _ ?_))
    obtain rfl := Option.some.inj h
    have S := S.learn (fRep (rL rB) (.slice none 0 0) ([] : (List Bool))) (rL_nil _ _ _)
    have S := S.learn (fRep r_api_Grid (.agg #[iv 0, iv 0, .slice none 0 0]) (api_Grid.mk 0 0 ([] : (List Bool)))) ⟨_, rfl, S.mem.know (i := 0) (e := fRep (rL rB) (.slice none 0 0) ([] : (List Bool))) rfl⟩
    exact wp_ret (rThen (sRet (.tuple #[.agg #[iv 0, iv 0, .slice none 0 0], iv 2]) S (rsl2 rfl (rvN (c := 4) (t := 24) (T := 24) (p := b7) 0 [iv 0, iv 0, .slice none 0 0] S rfl rfl rfl rfl) (rvT (t := 5) (v := iv 2) S rfl)) ⟨(.agg #[iv 0, iv 0, .slice none 0 0]), rfl, S.mem.sel [] [0] (by decide) rfl rfl⟩))
  refine sCondF S rfl hc21 ?_
  refine wp_skip (leafT (hK17 _ _ ?_))
  refine sSeq (fun K23 hK23 => ?_)
  refine sRegion ?_
  refine sLoadN (p := b6) (off := 0) (T := 24) (vs := [iv p0.W, iv p0.H, .slice ad3 p0.Bits.length cp4]) 2 [iv p0.W, iv p0.H, .slice ad3 p0.Bits.length cp4] S (wN rfl) rfl rfl rfl rfl rfl rfl rfl (lb rfl) fun a S => ?_
  refine sMove (iv p1) S (wN rfl) (.inl rfl) rfl rfl (lb rfl) fun a S => ?_
  obtain ⟨r24, hx25, h⟩ := bindSome h
  refine sCall (X := Value) (f := 62) (vs := [.agg #[iv p0.W, iv p0.H, .slice ad3 p0.Bits.length cp4], iv p1]) (val := c_symmetry_applied_val r24) (B' := fun _ => []) (D' := c_symmetry_applied_D r24) [] [eRow r_api_Grid 24 (.slice ad10 [p0].length cp11) [p0], eBox b7 24 [iv 0, iv 0, .slice none 0 0], eBox b6 24 [iv p0.W, iv p0.H, .slice ad3 p0.Bits.length cp4]] [fRep r_api_Grid (.agg #[iv p0.W, iv p0.H, .slice ad3 p0.Bits.length cp4]) p0] [0, 1, 2] [1] S (wN rfl) rfl callee62 rfl (by decide) rfl rfl (fun E1 w1 S1 => c_symmetry_applied E1 w1 p0 (.agg #[iv p0.W, iv p0.H, .slice ad3 p0.Bits.length cp4]) p1 r24 hx25 S1) rfl (lb rfl) fun u26 a w S => ?_
  obtain ⟨u27, rfl, hu28⟩ := S.mem.know (i := 0) (e := fRep r_api_Grid (u26) r24) rfl
  have S := S.learn (fRep (rL rB) u27 r24.Bits) hu28
  obtain ⟨ad29, cp30, _, rfl, _⟩ := hu28
  refine sStore (p := b7) (off := 0) (T := 24) (vs := [iv 0, iv 0, .slice none 0 0]) (v := .agg #[iv r24.W, iv r24.H, .slice ad29 r24.Bits.length cp30]) 1 [iv r24.W, iv r24.H, .slice ad29 r24.Bits.length cp30] S (wN rfl) rfl rfl rfl rfl rfl rfl rfl (by simp) rfl fun a w S => ?_
  refine sMove (iv 0) S (wN rfl) (.inr rfl) rfl rfl (lb rfl) fun a S => ?_
  refine leafL (leafT (hK23 _ _ ?_))
  obtain rfl := Option.some.inj h
  exact wp_ret (sRet (.tuple #[.agg #[iv r24.W, iv r24.H, .slice ad29 r24.Bits.length cp30], iv 0]) S (rsl2 rfl (rvN (c := 4) (t := 24) (T := 24) (p := b7) 0 [iv r24.W, iv r24.H, .slice ad29 r24.Bits.length cp30] S rfl rfl rfl rfl) (rvT (t := 5) (v := iv 0) S rfl)) ⟨(.agg #[iv r24.W, iv r24.H, .slice ad29 r24.Bits.length cp30]), rfl, S.mem.sel [] [1] (by decide) rfl rfl⟩)

end Go.Proofs.Ytffikfajljbmnaa
namespace Go.Proofs.Ytffikfajljbmnaa
open Go.RowKit
set_option linter.unusedVariables false

noncomputable def F_grid_around (p0 : Int) (p1 : Int) : Option Int :=
  Option.bind (α := Int) (
    Option.bind (remI p0 p1) fun z6 =>
    if decide (z6 < 0) then
      some (w64 (z6 + p1))
    else
      some z6) fun o2 =>
  some o2
set_option maxHeartbeats 4000000 in
set_option maxRecDepth 100000 in
theorem c_grid_around (E : Nat → Prop) (w0 : World) (p0 : Int) (p1 : Int) (r : Int) (h : F_grid_around p0 p1 = some r) (S : St0 E [] w0 w0 [] []) :
    Calls Try.prog 63 #[iv p0, iv p1] w0 (Ret (X := Unit) E [] w0 (fun _ => .int .i64 r) (fun _ => []) (fun _ => [])) := by
  unfold F_grid_around at h
  refine sEnter (args := [iv p0, iv p1]) 14 Try.func63 rfl rfl (by simp) S (fun a S => ?_)
  refine sSeq (fun K1 hK1 => ?_)
  refine sRegion ?_
  refine sMove (iv 0) S (wN rfl) (.inr rfl) rfl rfl (lb rfl) fun a S => ?_
  refine leafL (leafT (hK1 _ _ ?_))
  obtain ⟨t3, h, g4⟩ := bindSome h
  refine sCut (fun a w => ∃ o2, o2 = t3 ∧ St [] E [] w0 14 a w [(0, iv o2)] [] []) ?_ (fun a w hI => ?_)
  rotate_left
  · obtain ⟨o2, rfl, S⟩ := hI
    have h := g4
    clear g4
    try dsimp only at h
    refine sSeq (fun K10 hK10 => ?_)
    refine sRegion ?_
    refine sMove (iv o2) S (wN rfl) (.inl rfl) rfl rfl (lb rfl) fun a S => ?_
    refine sMove (iv o2) S (wN rfl) (.inr rfl) rfl rfl (lb rfl) fun a S => ?_
    refine leafL (leafT (hK10 _ _ ?_))
    obtain rfl := Option.some.inj h
    exact wp_ret (sRet (iv o2) S (rsl1 rfl (rvT (t := 4) (v := iv o2) S rfl)) ⟨(), rfl, S.mem.sel [] [] (by decide) rfl rfl⟩)
  refine sSeq (fun K5 hK5 => ?_)
  refine sRegion ?_
  refine sMove (iv p0) S (wN rfl) (.inl rfl) rfl rfl (lb rfl) fun a S => ?_
  refine sMove (iv p1) S (wN rfl) (.inl rfl) rfl rfl (lb rfl) fun a S => ?_
  obtain ⟨z6, hx7, h⟩ := bindSome h
  refine sBin (iv z6) S (wN rfl) rfl rfl rfl (bRem _ _ _ _ (x := p0) (y := p1) hx7) rfl (lb rfl) fun a S => ?_
  refine sMove (iv z6) S (wN rfl) (.inr rfl) rfl rfl (lb rfl) fun a S => ?_
  refine leafL (leafT (hK5 _ _ ?_))
  refine sSeq (fun K8 hK8 => ?_)
  refine sRegion ?_
  refine sMove (iv z6) S (wN rfl) (.inl rfl) rfl rfl (lb rfl) fun a S => ?_
  refine sBin (.bool (decide (z6 < 0))) S (wN rfl) rfl rfl rfl (bLt _ _ _ _ .i64 z6 0) rfl (lb rfl) fun a S => ?_
  refine leafL (leafT (hK8 _ _ ?_))
  rcases iteSome h with ⟨hc9, h⟩ | ⟨hc9, h⟩
  rotate_left
  · refine sCondF S rfl hc9 ?_
    exact wp_skip (leafT (⟨z6, Option.some.inj h, S.fix [] [] (by decide) rfl rfl rfl⟩))
  refine sCondT S rfl hc9 ?_
  refine sRegion ?_
  refine sMove (iv z6) S (wN rfl) (.inl rfl) rfl rfl (lb rfl) fun a S => ?_
  refine sMove (iv p1) S (wN rfl) (.inl rfl) rfl rfl (lb rfl) fun a S => ?_
  refine sBin (iv (w64 (z6 + p1))) S (wN rfl) rfl rfl rfl (bAdd _ _ _ _ z6 p1) rfl (lb rfl) fun a S => ?_
  refine sMove (iv (w64 (z6 + p1))) S (wN rfl) (.inr rfl) rfl rfl (lb rfl) fun a S => ?_
  exact leafL (leafT (⟨w64 (z6 + p1), Option.some.inj h, S.fix [] [] (by decide) rfl rfl rfl⟩))

end Go.Proofs.Ytffikfajljbmnaa
namespace Go.Proofs.Ytffikfajljbmnaa
open Go.RowKit
set_option linter.unusedVariables false

def anc_grid_Shift_1_s0_0 : List (List Nat) := [[], [0], [], [], [2, 3], [], [5], [2, 3, 4, 5, 6], [], [8], [2, 3, 4, 5, 6, 7, 8, 9], [], [], [11, 12], [], [14], [2, 3, 4, 5, 6, 7, 11, 12, 13, 14, 15], [2, 3, 4, 5, 6, 7, 8, 9, 10, 11, 12, 13, 14, 15, 16], [0, 1, 2, 3, 4, 5, 6, 7, 8, 9, 10, 11, 12, 13, 14, 15, 16, 17], [0, 1, 2, 3, 4, 5, 6, 7, 8, 9, 10, 11, 12, 13, 14, 15, 16, 17, 18], [0, 1, 2, 3, 4, 5, 6, 7, 8, 9, 10, 11, 12, 13, 14, 15, 16, 17, 18, 19]]
noncomputable def F_grid_Shift_1_s0 (p0 : Int) (p1 : Int) (p2 : api_Grid) (p3 : Int) (p4 : Int) : Option Bool :=
  Option.bind (F_grid_around (w64 (p1 - p3)) p2.H) fun r12 =>
  Option.bind (F_grid_around (w64 (p0 - p4)) p2.W) fun r21 =>
  Option.bind (idxO p2.Bits (w64 ((w64 (r12 * p2.W)) + r21))) fun x23 =>
  some x23
set_option maxHeartbeats 4000000 in
set_option maxRecDepth 100000 in
theorem c_grid_Shift_1_s0 (E : Nat → Prop) (w0 : World) (p0 : Int) (p1 : Int) (p2 : api_Grid) (v2 : Value) (p3 : Int) (v3 : Value) (p4 : Int) (v4 : Value) (r : Bool) (h : F_grid_Shift_1_s0 p0 p1 p2 p3 p4 = some r) (S : St0 E [] w0 w0 [] [fPtr r_api_Grid (v2) p2, fPtr (rI .i64) (v3) p3, fPtr (rI .i64) (v4) p4]) :
    Calls Try.prog 65 #[iv p0, iv p1, v2, v3, v4] w0 (Ret (X := Unit) E [] w0 (fun _ => .bool r) (fun _ => []) (fun _ => [])) := by
  unfold F_grid_Shift_1_s0 at h
  refine sEnter (args := [iv p0, iv p1, v2, v3, v4]) 28 Try.func65 rfl rfl (by simp) S (fun a S => ?_)
  refine sSeq (fun K1 hK1 => ?_)
  refine sRegion ?_
  refine sMove (.bool false) S (wN rfl) (.inr rfl) rfl rfl (lb rfl) fun a S => ?_
  refine leafL (leafT (hK1 _ _ ?_))
  refine sSeq (fun K2 hK2 => ?_)
  obtain ⟨r12, hx13, h⟩ := bindSome h
  obtain ⟨r21, hx22, h⟩ := bindSome h
  obtain ⟨x23, hx24, h⟩ := bindSome h
  obtain ⟨q28, hq29, S⟩ := pFld (P := Try.prog) (r := r_api_Grid) (s2 := (rL rB)) (g := (·.Bits)) (q := v2) (z := p2) 24 2 0 2 S rfl rfl comp_api_Grid_Bits
  obtain ⟨u30, S⟩ := pLoad (r := (rL rB)) (q := q28) (x := p2.Bits) 0 S rfl
  obtain ⟨ad31, cp32, _, rfl, _⟩ := S.mem.know (i := 1) (e := fRep (rL rB) (u30) p2.Bits) rfl
  obtain ⟨u33, S⟩ := pLoad (r := (rI .i64)) (q := v3) (x := p3) 4 S rfl
  obtain rfl : u33 = iv p3 := S.mem.know (i := 1) (e := fRep (rI .i64) (u33) p3) rfl
  obtain ⟨q34, hq35, S⟩ := pFld (P := Try.prog) (r := r_api_Grid) (s2 := (rI .i64)) (g := (·.H)) (q := v2) (z := p2) 24 1 5 1 S rfl rfl comp_api_Grid_H
  obtain ⟨u36, S⟩ := pLoad (r := (rI .i64)) (q := q34) (x := p2.H) 0 S rfl
  obtain rfl : u36 = iv p2.H := S.mem.know (i := 1) (e := fRep (rI .i64) (u36) p2.H) rfl
  obtain ⟨q37, hq38, S⟩ := pFld (P := Try.prog) (r := r_api_Grid) (s2 := (rI .i64)) (g := (·.W)) (q := v2) (z := p2) 24 0 8 0 S rfl rfl comp_api_Grid_W
  obtain ⟨u39, S⟩ := pLoad (r := (rI .i64)) (q := q37) (x := p2.W) 0 S rfl
  obtain rfl : u39 = iv p2.W := S.mem.know (i := 1) (e := fRep (rI .i64) (u39) p2.W) rfl
  obtain ⟨u40, S⟩ := pLoad (r := (rI .i64)) (q := v4) (x := p4) 13 S rfl
  obtain rfl : u40 = iv p4 := S.mem.know (i := 1) (e := fRep (rI .i64) (u40) p4) rfl
  obtain ⟨q41, hq42, S⟩ := pFld (P := Try.prog) (r := r_api_Grid) (s2 := (rI .i64)) (g := (·.W)) (q := v2) (z := p2) 24 0 13 0 S rfl rfl comp_api_Grid_W
  obtain ⟨u43, S⟩ := pLoad (r := (rI .i64)) (q := q41) (x := p2.W) 0 S rfl
  obtain rfl : u43 = iv p2.W := S.mem.know (i := 1) (e := fRep (rI .i64) (u43) p2.W) rfl
  obtain ⟨q44, hq45, S⟩ := pIdx (P := Try.prog) (r := rB) (v := .slice ad31 p2.Bits.length cp32) (xs := p2.Bits) (j := w64 ((w64 (r12 * p2.W)) + r21)) 22 4 14 S Try.underlying22 rfl rfl hx24
  obtain ⟨u46, S⟩ := pLoad (r := rB) (q := q44) (x := x23) 0 S rfl
  obtain rfl : u46 = .bool x23 := S.mem.know (i := 1) (e := fRep rB (u46) x23) rfl
  refine sDraw (nf := []) (W := [(0, 8, q28), (1, 9, .slice ad31 p2.Bits.length cp32), (2, 10, iv p1), (3, 11, iv p3), (4, 12, iv (w64 (p1 - p3))), (5, 13, q34), (6, 14, iv p2.H), (7, 15, iv r12), (8, 16, q37), (9, 17, iv p2.W), (10, 18, iv (w64 (r12 * p2.W))), (11, 19, iv p0), (12, 20, iv p4), (13, 21, iv (w64 (p0 - p4))), (14, 22, q41), (15, 23, iv p2.W), (16, 24, iv r21), (17, 25, iv (w64 ((w64 (r12 * p2.W)) + r21))), (18, 26, q44), (19, 27, .bool x23), (20, 7, .bool x23)]) rfl S ?_
  refine node_by (A := anc_grid_Shift_1_s0_0) (nf := []) (Y := []) (W := [(0, 8, q28), (1, 9, .slice ad31 p2.Bits.length cp32), (2, 10, iv p1), (3, 11, iv p3), (4, 12, iv (w64 (p1 - p3))), (5, 13, q34), (6, 14, iv p2.H), (7, 15, iv r12), (8, 16, q37), (9, 17, iv p2.W), (10, 18, iv (w64 (r12 * p2.W))), (11, 19, iv p0), (12, 20, iv p4), (13, 21, iv (w64 (p0 - p4))), (14, 22, q41), (15, 23, iv p2.W), (16, 24, iv r21), (17, 25, iv (w64 ((w64 (r12 * p2.W)) + r21))), (18, 26, q44), (19, 27, .bool x23), (20, 7, .bool x23)]) 21 (by kernel_rfl) (by kernel_rfl) (by kernel_rfl) (by kernel_rfl) (by kernel_rfl) [0, 1, 2, 3, 4, 5, 6, 7, 8, 9, 10, 11, 12, 13, 14, 15, 16, 17, 18, 19, 20] (by kernel_rfl) (by decide) (by decide) (aF 0 20 (by decide) ?_ (aF 1 19 (by decide) ?_ (aF 2 18 (by decide) ?_ (aF 3 17 (by decide) ?_ (aF 4 16 (by decide) ?_ (aF 5 15 (by decide) ?_ (aF 6 14 (by decide) ?_ (aF 7 13 (by decide) ?_ (aF 8 12 (by decide) ?_ (aF 9 11 (by decide) ?_ (aF 10 10 (by decide) ?_ (aF 11 9 (by decide) ?_ (aF 12 8 (by decide) ?_ (aF 13 7 (by decide) ?_ (aF 14 6 (by decide) ?_ (aF 15 5 (by decide) ?_ (aF 16 4 (by decide) ?_ (aF 17 3 (by decide) ?_ (aF 18 2 (by decide) ?_ (aF 19 1 (by decide) ?_ (aF 20 0 (by decide) ?_ (trivial)))))))))))))))))))))) [(7, .bool x23)] (fin_of [some 20] rfl (by kernel_rfl) (by kernel_rfl)) (fun _ a w S => ?_)
  · refine fI 8 q28 [(2, v2)] 0 [none] rfl rfl rfl rfl rfl rfl fun G a w S => ?_
    refine sFldV (q := v2) S (wN rfl) rfl rfl hq29 rfl (lb rfl) fun a S => ?_
    exact leafL ⟨rfl, S⟩
  · refine fI 9 (.slice ad31 p2.Bits.length cp32) [(8, q28)] 1 [some 0] rfl rfl rfl rfl rfl rfl fun G a w S => ?_
    refine sLoadV1 (vq := q28) 16 (.slice ad31 p2.Bits.length cp32) S (wN rfl) rfl rfl rfl rfl rfl (lb rfl) fun a S => ?_
    exact leafL ⟨rfl, S⟩
  · refine fI 10 (iv p1) [(1, iv p1)] 2 [none] rfl rfl rfl rfl rfl rfl fun G a w S => ?_
    refine sMove (iv p1) S (wN rfl) (.inl rfl) rfl rfl (lb rfl) fun a S => ?_
    exact leafL ⟨rfl, S⟩
  · refine fI 11 (iv p3) [(3, v3)] 3 [none] rfl rfl rfl rfl rfl rfl fun G a w S => ?_
    refine sLoadV1 (vq := v3) 14 (iv p3) S (wN rfl) rfl rfl rfl rfl rfl (lb rfl) fun a S => ?_
    exact leafL ⟨rfl, S⟩
  · refine fI 12 (iv (w64 (p1 - p3))) [(10, iv p1), (11, iv p3)] 4 [some 2, some 3] rfl rfl rfl rfl rfl rfl fun G a w S => ?_
    refine sBin (iv (w64 (p1 - p3))) S (wN rfl) rfl rfl rfl (bSub _ _ _ _ p1 p3) rfl (lb rfl) fun a S => ?_
    exact leafL ⟨rfl, S⟩
  · refine fI 13 q34 [(2, v2)] 5 [none] rfl rfl rfl rfl rfl rfl fun G a w S => ?_
    refine sFldV (q := v2) S (wN rfl) rfl rfl hq35 rfl (lb rfl) fun a S => ?_
    exact leafL ⟨rfl, S⟩
  · refine fI 14 (iv p2.H) [(13, q34)] 6 [some 5] rfl rfl rfl rfl rfl rfl fun G a w S => ?_
    refine sLoadV1 (vq := q34) 11 (iv p2.H) S (wN rfl) rfl rfl rfl rfl rfl (lb rfl) fun a S => ?_
    exact leafL ⟨rfl, S⟩
  · refine fI 15 (iv r12) [(12, iv (w64 (p1 - p3))), (14, iv p2.H)] 7 [some 4, some 6] rfl rfl rfl rfl rfl rfl fun G a w S => ?_
    have S1 := S.mem
    refine sCallQ (X := Unit) (f := 63) (vs := [iv (w64 (p1 - p3)), iv p2.H]) (val := fun _ => iv r12) S (wN rfl) rfl callee63 rfl (S1.quiet [] rfl) (fun E1 w1 S1 => c_grid_around E1 w1 (w64 (p1 - p3)) p2.H r12 hx13 S1) rfl (lb rfl) fun _ a w S => ?_
    exact leafL ⟨rfl, S⟩
  · refine fI 16 q37 [(2, v2)] 8 [none] rfl rfl rfl rfl rfl rfl fun G a w S => ?_
    refine sFldV (q := v2) S (wN rfl) rfl rfl hq38 rfl (lb rfl) fun a S => ?_
    exact leafL ⟨rfl, S⟩
  · refine fI 17 (iv p2.W) [(16, q37)] 9 [some 8] rfl rfl rfl rfl rfl rfl fun G a w S => ?_
    refine sLoadV1 (vq := q37) 8 (iv p2.W) S (wN rfl) rfl rfl rfl rfl rfl (lb rfl) fun a S => ?_
    exact leafL ⟨rfl, S⟩
  · refine fI 18 (iv (w64 (r12 * p2.W))) [(15, iv r12), (17, iv p2.W)] 10 [some 7, some 9] rfl rfl rfl rfl rfl rfl fun G a w S => ?_
    refine sBin (iv (w64 (r12 * p2.W))) S (wN rfl) rfl rfl rfl (bMul _ _ _ _ r12 p2.W) rfl (lb rfl) fun a S => ?_
    exact leafL ⟨rfl, S⟩
  · refine fI 19 (iv p0) [(0, iv p0)] 11 [none] rfl rfl rfl rfl rfl rfl fun G a w S => ?_
    refine sMove (iv p0) S (wN rfl) (.inl rfl) rfl rfl (lb rfl) fun a S => ?_
    exact leafL ⟨rfl, S⟩
  · refine fI 20 (iv p4) [(4, v4)] 12 [none] rfl rfl rfl rfl rfl rfl fun G a w S => ?_
    refine sLoadV1 (vq := v4) 6 (iv p4) S (wN rfl) rfl rfl rfl rfl rfl (lb rfl) fun a S => ?_
    exact leafL ⟨rfl, S⟩
  · refine fI 21 (iv (w64 (p0 - p4))) [(19, iv p0), (20, iv p4)] 13 [some 11, some 12] rfl rfl rfl rfl rfl rfl fun G a w S => ?_
    refine sBin (iv (w64 (p0 - p4))) S (wN rfl) rfl rfl rfl (bSub _ _ _ _ p0 p4) rfl (lb rfl) fun a S => ?_
    exact leafL ⟨rfl, S⟩
  · refine fI 22 q41 [(2, v2)] 14 [none] rfl rfl rfl rfl rfl rfl fun G a w S => ?_
    refine sFldV (q := v2) S (wN rfl) rfl rfl hq42 rfl (lb rfl) fun a S => ?_
    exact leafL ⟨rfl, S⟩
  · refine fI 23 (iv p2.W) [(22, q41)] 15 [some 14] rfl rfl rfl rfl rfl rfl fun G a w S => ?_
    refine sLoadV1 (vq := q41) 3 (iv p2.W) S (wN rfl) rfl rfl rfl rfl rfl (lb rfl) fun a S => ?_
    exact leafL ⟨rfl, S⟩
  · refine fI 24 (iv r21) [(21, iv (w64 (p0 - p4))), (23, iv p2.W)] 16 [some 13, some 15] rfl rfl rfl rfl rfl rfl fun G a w S => ?_
    have S1 := S.mem
    refine sCallQ (X := Unit) (f := 63) (vs := [iv (w64 (p0 - p4)), iv p2.W]) (val := fun _ => iv r21) S (wN rfl) rfl callee63 rfl (S1.quiet [] rfl) (fun E1 w1 S1 => c_grid_around E1 w1 (w64 (p0 - p4)) p2.W r21 hx22 S1) rfl (lb rfl) fun _ a w S => ?_
    exact leafL ⟨rfl, S⟩
  · refine fI 25 (iv (w64 ((w64 (r12 * p2.W)) + r21))) [(18, iv (w64 (r12 * p2.W))), (24, iv r21)] 17 [some 10, some 16] rfl rfl rfl rfl rfl rfl fun G a w S => ?_
    refine sBin (iv (w64 ((w64 (r12 * p2.W)) + r21))) S (wN rfl) rfl rfl rfl (bAdd _ _ _ _ (w64 (r12 * p2.W)) r21) rfl (lb rfl) fun a S => ?_
    exact leafL ⟨rfl, S⟩
  · refine fI 26 q44 [(9, .slice ad31 p2.Bits.length cp32), (25, iv (w64 ((w64 (r12 * p2.W)) + r21)))] 18 [some 1, some 17] rfl rfl rfl rfl rfl rfl fun G a w S => ?_
    refine sIdxV (v := .slice ad31 p2.Bits.length cp32) (k := .i64) (j := w64 ((w64 (r12 * p2.W)) + r21)) S (wN rfl) rfl rfl rfl hq45 rfl (lb rfl) fun a S => ?_
    exact leafL ⟨rfl, S⟩
  · refine fI 27 (.bool x23) [(26, q44)] 19 [some 18] rfl rfl rfl rfl rfl rfl fun G a w S => ?_
    refine sLoadV1 (vq := q44) 0 (.bool x23) S (wN rfl) rfl rfl rfl rfl rfl (lb rfl) fun a S => ?_
    exact leafL ⟨rfl, S⟩
  · refine fI 7 (.bool x23) [(27, .bool x23)] 20 [some 19] rfl rfl rfl rfl rfl rfl fun G a w S => ?_
    refine sMove (.bool x23) S (wN rfl) (.inr rfl) rfl rfl (lb rfl) fun a S => ?_
    exact leafL ⟨rfl, S⟩
  refine leafT (hK2 _ _ ?_)
  obtain rfl := Option.some.inj h
  exact wp_ret (sRet (.bool x23) S (rsl1 rfl (rvT (t := 7) (v := .bool x23) S rfl)) ⟨(), rfl, S.mem.sel [] [] (by decide) rfl rfl⟩)

end Go.Proofs.Ytffikfajljbmnaa
namespace Go.Proofs.Ytffikfajljbmnaa
open Go.RowKit
set_option linter.unusedVariables false

def anc_grid_build_s0_0 : List (List Nat) := [[], [0], [], [], [], [2, 3, 4], [2, 3, 4, 5], [0, 1, 2, 3, 4, 5, 6], [0, 1, 2, 3, 4, 5, 6, 7], [0, 1, 2, 3, 4, 5, 6, 7, 8]]
noncomputable def grid_build_s0_l1 (p0 : Int) (s15 : Int) (p2 : api_Grid) (p3 : Int) (p4 : Int) : (Int × List Bool) → Option ((Int × List Bool) ⊕ List Bool) := fun s0 => match s0 with
  | (s35, s36) =>
    if decide (s35 < p0) then
      Option.bind (F_grid_Shift_1_s0 s35 s15 p2 p3 p4) fun r50 =>
      Option.bind (appO s36 [r50]) fun l54 =>
      some (.inl (w64 (s35 + 1), l54))
    else
      some (.inr s36)
noncomputable def grid_build_s0_l2 (p1 : Int) (p0 : Int) (p2 : api_Grid) (p3 : Int) (p4 : Int) : (Int × List Bool) → Option ((Int × List Bool) ⊕ List Bool) := fun s0 => match s0 with
  | (s15, s16) =>
    if decide (s15 < p1) then
      Option.bind (α := List Bool) (
        Option.bind (whileO (grid_build_s0_l1 p0 s15 p2 p3 p4) (0, s16)) fun e42 =>
          some e42) fun o28 =>
      some (.inl (w64 (s15 + 1), o28))
    else
      some (.inr s16)
noncomputable def F_grid_build_s0 (p0 : Int) (p1 : Int) (p2 : api_Grid) (p3 : Int) (p4 : Int) : Option api_Grid :=
  Option.bind (capO (w64 (p0 * p1))) fun z6 =>
  Option.bind (α := List Bool) (
    Option.bind (whileO (grid_build_s0_l2 p1 p0 p2 p3 p4) (0, ([] : List Bool))) fun e22 =>
      some e22) fun o9 =>
  some (api_Grid.mk p0 p1 o9)
def c_grid_build_s0_val (r : api_Grid) (x : Value) : Value := x
def c_grid_build_s0_D (r : api_Grid) (x : Value) : List Fact := [fRep r_api_Grid x r]
set_option maxHeartbeats 4000000 in
set_option maxRecDepth 100000 in
theorem c_grid_build_s0 (E : Nat → Prop) (w0 : World) (p0 : Int) (p1 : Int) (p2 : api_Grid) (v2 : Value) (p3 : Int) (v3 : Value) (p4 : Int) (v4 : Value) (r : api_Grid) (h : F_grid_build_s0 p0 p1 p2 p3 p4 = some r) (S : St0 E [] w0 w0 [] [fPtr r_api_Grid (v2) p2, fPtr (rI .i64) (v3) p3, fPtr (rI .i64) (v4) p4]) :
    Calls Try.prog 64 #[iv p0, iv p1, .func (.func 65) #[] #[v2, v3, v4]] w0 (Ret (X := Value) E [] w0 (c_grid_build_s0_val r) (fun _ => []) (c_grid_build_s0_D r)) := by
  unfold F_grid_build_s0 at h
  refine sEnter (args := [iv p0, iv p1, .func (.func 65) #[] #[v2, v3, v4]]) 37 Try.func64 rfl rfl (by simp) S (fun a S => ?_)
  refine sSeq (fun K1 hK1 => ?_)
  refine sRegion ?_
  refine sAlloc (.agg #[iv 0, iv 0, .slice none 0 0]) S (wN rfl) rfl rfl [iv 0, iv 0, .slice none 0 0] rfl rfl (lb rfl) fun a b2 w S => ?_
  refine leafL (leafT (hK1 _ _ ?_))
  refine sSeq (fun K3 hK3 => ?_)
  refine sRegion ?_
  refine sMove (iv p0) S (wN rfl) (.inl rfl) rfl rfl (lb rfl) fun a S => ?_
  refine sMove (iv p1) S (wN rfl) (.inl rfl) rfl rfl (lb rfl) fun a S => ?_
  refine sMove (iv p0) S (wN rfl) (.inl rfl) rfl rfl (lb rfl) fun a S => ?_
  refine sMove (iv p1) S (wN rfl) (.inl rfl) rfl rfl (lb rfl) fun a S => ?_
  refine sBin (iv (w64 (p0 * p1))) S (wN rfl) rfl rfl rfl (bMul _ _ _ _ p0 p1) rfl (lb rfl) fun a S => ?_
  obtain ⟨z6, hx7, h⟩ := bindSome h
  refine sMake0 rB (m := w64 (p0 * p1)) (u := z6) (.bool false) 1 S (wN rfl) rfl Try.underlying22 rfl (by decide) rfl rfl hx7 rfl (lb rfl) fun a w ad4 cp5 S => ?_
  refine sBuild [(0, iv p0), (1, iv p1), (2, .slice ad4 ([] : List Bool).length cp5)] [iv p0, iv p1, .slice ad4 ([] : List Bool).length cp5] S (wN rfl) rfl rfl rfl rfl (lb rfl) fun a S => ?_
  refine sAlloc (.agg #[iv 0, iv 0, .slice none 0 0]) S (wN rfl) rfl rfl [iv 0, iv 0, .slice none 0 0] rfl rfl (lb rfl) fun a b8 w S => ?_
  refine sStore (p := b8) (off := 0) (T := 24) (vs := [iv 0, iv 0, .slice none 0 0]) (v := .agg #[iv p0, iv p1, .slice ad4 ([] : List Bool).length cp5]) 0 [iv p0, iv p1, .slice ad4 ([] : List Bool).length cp5] S (wN rfl) rfl rfl rfl rfl rfl rfl rfl (by simp) rfl fun a w S => ?_
  refine leafL (leafT (hK3 _ _ ?_))
  obtain ⟨t12, h, g13⟩ := bindSome h
  refine sCut (fun a w => ∃ o9, o9 = t12 ∧ ∃ ad10, ∃ cp11, St [] E [] w0 37 a w [(6, .pointer (some ⟨b2, 0, none⟩)), (7, .pointer (some ⟨b8, 0, none⟩))] [eBox b2 24 [iv 0, iv 0, .slice none 0 0], eBox b8 24 [iv p0, iv p1, .slice ad10 o9.length cp11], eRow rB 4 (.slice ad10 o9.length cp11) o9] []) ?_ (fun a w hI => ?_)
  rotate_left
  · obtain ⟨o9, rfl, ad10, cp11, S⟩ := hI
    have h := g13
    clear g13
    try dsimp only at h
    refine sSeq (fun K62 hK62 => ?_)
    refine sRegion ?_
    refine sLoadN (p := b8) (off := 0) (T := 24) (vs := [iv p0, iv p1, .slice ad10 o9.length cp11]) 1 [iv p0, iv p1, .slice ad10 o9.length cp11] S (wN rfl) rfl rfl rfl rfl rfl rfl rfl (lb rfl) fun a S => ?_
    refine sStore (p := b2) (off := 0) (T := 24) (vs := [iv 0, iv 0, .slice none 0 0]) (v := .agg #[iv p0, iv p1, .slice ad10 o9.length cp11]) 0 [iv p0, iv p1, .slice ad10 o9.length cp11] S (wN rfl) rfl rfl rfl rfl rfl rfl rfl (by simp) rfl fun a w S => ?_
    refine leafL (leafT (hK62 _ _ ?_))
    obtain rfl := Option.some.inj h
    have S := S.shutR (r := rB) (T := 4) (v := .slice ad10 o9.length cp11) (xs := o9) 2 rfl
    have S := S.learn (fRep r_api_Grid (.agg #[iv p0, iv p1, .slice ad10 o9.length cp11]) (api_Grid.mk p0 p1 o9)) ⟨_, rfl, S.mem.know (i := 0) (e := fRep (rL rB) (.slice ad10 o9.length cp11) o9) rfl⟩
    exact wp_ret (sRet (.agg #[iv p0, iv p1, .slice ad10 o9.length cp11]) S (rsl1 rfl (rvN (c := 6) (t := 24) (T := 24) (p := b2) 0 [iv p0, iv p1, .slice ad10 o9.length cp11] S rfl rfl rfl rfl)) ⟨(.agg #[iv p0, iv p1, .slice ad10 o9.length cp11]), rfl, S.mem.sel [] [0] (by decide) rfl rfl⟩)
  refine sSeq (fun K14 hK14 => ?_)
  refine sRegion ?_
  refine sMove (iv p1) S (wN rfl) (.inl rfl) rfl rfl (lb rfl) fun a S => ?_
  refine sMove (iv 0) S (wN rfl) (.inl rfl) rfl rfl (lb rfl) fun a S => ?_
  refine leafL (leafT (hK14 _ _ ?_))
  refine wp_block ?_
  obtain ⟨t21, hl, g20⟩ := bindSome h
  refine sLoop hl (fun s0 a w => match s0 with | (s15, s16) => ∃ ad17, ∃ cp18, St [] E [] w0 37 a w [(0, iv p0), (2, .func (.func 65) #[] #[v2, v3, v4]), (6, .pointer (some ⟨b2, 0, none⟩)), (7, .pointer (some ⟨b8, 0, none⟩)), (17, iv p1), (18, iv s15)] [eBox b2 24 [iv 0, iv 0, .slice none 0 0], eBox b8 24 [iv p0, iv p1, .slice ad17 s16.length cp18], eRow rB 4 (.slice ad17 s16.length cp18) s16] [fPtr r_api_Grid (v2) p2, fPtr (rI .i64) (v3) p3, fPtr (rI .i64) (v4) p4]) ⟨ad4, cp5, S.fix [2, 0, 1] [0, 1, 2] (by decide) rfl rfl rfl⟩ ?_
  clear hl h
  intro s0 a w c0 hI h hu19
  obtain ⟨s15, s16⟩ := s0
  unfold grid_build_s0_l2 at h
  dsimp only at h hI
  obtain ⟨ad17, cp18, S⟩ := hI
  refine sSeq (fun K25 hK25 => ?_)
  refine sRegion ?_
  refine sBin (.bool (decide (s15 < p1))) S (wN rfl) rfl rfl rfl (bLt _ _ _ _ .i64 s15 p1) rfl (lb rfl) fun a S => ?_
  refine leafL (leafT (hK25 _ _ ?_))
  refine sSeq (fun K26 hK26 => ?_)
  rcases iteSome h with ⟨hc27, h⟩ | ⟨hc27, h⟩
  rotate_left
  · refine sCondF S rfl hc27 ?_
    obtain rfl := Option.some.inj h
    obtain rfl := hu19 _ rfl
    have h := g20
    clear g20
    try dsimp only at h
    exact wp_exit (xThen (xThen (xHit (leafT (⟨s16, Option.some.inj h, ad17, cp18, S.fix [0, 1, 2] [] (by decide) rfl rfl rfl⟩)))))
  refine sCondT S rfl hc27 ?_
  refine wp_skip (leafT (hK26 _ _ ?_))
  obtain ⟨t31, h, g32⟩ := bindSome h
  refine sCut (fun a w => ∃ o28, o28 = t31 ∧ ∃ ad29, ∃ cp30, St [] E [] w0 37 a w [(0, iv p0), (2, .func (.func 65) #[] #[v2, v3, v4]), (6, .pointer (some ⟨b2, 0, none⟩)), (7, .pointer (some ⟨b8, 0, none⟩)), (17, iv p1), (18, iv s15)] [eBox b2 24 [iv 0, iv 0, .slice none 0 0], eBox b8 24 [iv p0, iv p1, .slice ad29 o28.length cp30], eRow rB 4 (.slice ad29 o28.length cp30) o28] [fPtr r_api_Grid (v2) p2, fPtr (rI .i64) (v3) p3, fPtr (rI .i64) (v4) p4]) ?_ (fun a w hI => ?_)
  rotate_left
  · obtain ⟨o28, rfl, ad29, cp30, S⟩ := hI
    have h := g32
    clear g32
    try dsimp only at h
    refine sRegion ?_
    refine sBin (iv (w64 (s15 + 1))) S (wN rfl) rfl rfl rfl (bAdd _ _ _ _ s15 1) rfl (lb rfl) fun a S => ?_
    refine sMove (iv (w64 (s15 + 1))) S (wN rfl) (.inl rfl) rfl rfl (lb rfl) fun a S => ?_
    exact leafL (leafT (⟨(w64 (s15 + 1), o28), (Option.some.inj h).symm, ⟨ad29, cp30, S.fix [0, 1, 2] [0, 1, 2] (by decide) rfl rfl rfl⟩⟩))
  refine wp_block ?_
  refine sSeq (fun K33 hK33 => ?_)
  refine sRegion ?_
  refine sMove (iv s15) S (wN rfl) (.inl rfl) rfl rfl (lb rfl) fun a S => ?_
  refine sMove (iv s15) S (wN rfl) (.inr rfl) rfl rfl (lb rfl) fun a S => ?_
  refine leafL (leafT (hK33 _ _ ?_))
  refine sSeq (fun K34 hK34 => ?_)
  refine sRegion ?_
  refine sMove (iv p0) S (wN rfl) (.inl rfl) rfl rfl (lb rfl) fun a S => ?_
  refine sMove (iv 0) S (wN rfl) (.inl rfl) rfl rfl (lb rfl) fun a S => ?_
  refine leafL (leafT (hK34 _ _ ?_))
  refine wp_block ?_
  obtain ⟨t41, hl, g40⟩ := bindSome h
  refine sLoop hl (fun s0 a w => match s0 with | (s35, s36) => ∃ ad37, ∃ cp38, St [] E [] w0 37 a w [(0, iv p0), (2, .func (.func 65) #[] #[v2, v3, v4]), (6, .pointer (some ⟨b2, 0, none⟩)), (7, .pointer (some ⟨b8, 0, none⟩)), (8, iv s15), (17, iv p1), (18, iv s15), (21, iv p0), (22, iv s35)] [eBox b2 24 [iv 0, iv 0, .slice none 0 0], eBox b8 24 [iv p0, iv p1, .slice ad37 s36.length cp38], eRow rB 4 (.slice ad37 s36.length cp38) s36] [fPtr r_api_Grid (v2) p2, fPtr (rI .i64) (v3) p3, fPtr (rI .i64) (v4) p4]) ⟨ad17, cp18, S.fix [0, 1, 2] [0, 1, 2] (by decide) rfl rfl rfl⟩ ?_
  clear hl h
  intro s0 a w c0 hI h hu39
  obtain ⟨s35, s36⟩ := s0
  unfold grid_build_s0_l1 at h
  dsimp only at h hI
  obtain ⟨ad37, cp38, S⟩ := hI
  refine sSeq (fun K45 hK45 => ?_)
  refine sRegion ?_
  refine sBin (.bool (decide (s35 < p0))) S (wN rfl) rfl rfl rfl (bLt _ _ _ _ .i64 s35 p0) rfl (lb rfl) fun a S => ?_
  refine leafL (leafT (hK45 _ _ ?_))
  refine sSeq (fun K46 hK46 => ?_)
  rcases iteSome h with ⟨hc47, h⟩ | ⟨hc47, h⟩
  rotate_left
  · refine sCondF S rfl hc47 ?_
    obtain rfl := Option.some.inj h
    obtain rfl := hu39 _ rfl
    have h := g40
    clear g40
    try dsimp only at h
    exact wp_exit (xThen (xThen (xHit (leafB (leafT (⟨s36, Option.some.inj h, ad37, cp38, S.fix [0, 1, 2] [0, 1, 2] (by decide) rfl rfl rfl⟩))))))
  refine sCondT S rfl hc47 ?_
  refine wp_skip (leafT (hK46 _ _ ?_))
  refine sSeq (fun K48 hK48 => ?_)
  refine wp_block ?_
  refine sSeq (fun K49 hK49 => ?_)
  refine sRegion ?_
  refine sMove (iv s35) S (wN rfl) (.inl rfl) rfl rfl (lb rfl) fun a S => ?_
  refine sMove (iv s35) S (wN rfl) (.inr rfl) rfl rfl (lb rfl) fun a S => ?_
  refine leafL (leafT (hK49 _ _ ?_))
  obtain ⟨r50, hx51, h⟩ := bindSome h
  obtain ⟨l54, hx55, h⟩ := bindSome h
  refine sDraw (nf := [6, 7, 9]) (W := [(0, 25, .pointer (some ⟨b8, 2, none⟩)), (1, 26, .slice ad37 s36.length cp38), (2, 27, .func (.func 65) #[] #[v2, v3, v4]), (3, 28, iv s35), (4, 29, iv s15), (5, 30, .bool r50)]) rfl S ?_
  refine node_by (A := anc_grid_build_s0_0) (nf := [6, 7, 9]) (Y := []) (W := [(0, 25, .pointer (some ⟨b8, 2, none⟩)), (1, 26, .slice ad37 s36.length cp38), (2, 27, .func (.func 65) #[] #[v2, v3, v4]), (3, 28, iv s35), (4, 29, iv s15), (5, 30, .bool r50)]) 10 (by kernel_rfl) (by kernel_rfl) (by kernel_rfl) (by kernel_rfl) (by kernel_rfl) [0, 1, 2, 3, 4, 5] (by kernel_rfl) (by decide) (by decide) (aF 0 9 (by decide) ?_ (aF 1 8 (by decide) ?_ (aF 2 7 (by decide) ?_ (aF 3 6 (by decide) ?_ (aF 4 5 (by decide) ?_ (aF 5 4 (by decide) ?_ (aN 6 3 (by decide) ?_ (aB 7 2 6 (by decide) (aE 8 1 6 (by decide) (aB 9 0 6 (by decide) (trivial))))))))))) [] (fun q hq => by cases hq) (fun hY => absurd (hY 6 (by decide)) (by decide))
  · refine fI 25 (.pointer (some ⟨b8, 2, none⟩)) [(7, .pointer (some ⟨b8, 0, none⟩))] 0 [none] rfl rfl rfl rfl rfl rfl fun G a w S => ?_
    refine sField (b := b8) (off := 0) 2 2 S (wN rfl) rfl rfl rfl rfl rfl (lb rfl) fun a S => ?_
    exact leafL ⟨rfl, S⟩
  · refine fI 26 (.slice ad37 s36.length cp38) [(25, .pointer (some ⟨b8, 2, none⟩))] 1 [some 0] rfl rfl rfl rfl rfl rfl fun G a w S => ?_
    refine sLoad1 (p := b8) (off := 2) (T := 24) (vs := [iv p0, iv p1, .slice ad37 s36.length cp38]) 1 (.slice ad37 s36.length cp38) S (wN rfl) rfl rfl rfl rfl rfl rfl (lb rfl) fun a S => ?_
    exact leafL ⟨rfl, S⟩
  · refine fI 27 (.func (.func 65) #[] #[v2, v3, v4]) [(2, .func (.func 65) #[] #[v2, v3, v4])] 2 [none] rfl rfl rfl rfl rfl rfl fun G a w S => ?_
    refine sMove (.func (.func 65) #[] #[v2, v3, v4]) S (wN rfl) (.inl rfl) rfl rfl (lb rfl) fun a S => ?_
    exact leafL ⟨rfl, S⟩
  · refine fI 28 (iv s35) [(9, iv s35)] 3 [none] rfl rfl rfl rfl rfl rfl fun G a w S => ?_
    refine sMove (iv s35) S (wN rfl) (.inl rfl) rfl rfl (lb rfl) fun a S => ?_
    exact leafL ⟨rfl, S⟩
  · refine fI 29 (iv s15) [(8, iv s15)] 4 [none] rfl rfl rfl rfl rfl rfl fun G a w S => ?_
    refine sMove (iv s15) S (wN rfl) (.inl rfl) rfl rfl (lb rfl) fun a S => ?_
    exact leafL ⟨rfl, S⟩
  · refine fI 30 (.bool r50) [(27, .func (.func 65) #[] #[v2, v3, v4]), (28, iv s35), (29, iv s15)] 5 [some 2, some 3, some 4] rfl rfl rfl rfl rfl rfl fun G a w S => ?_
    have S1 := S.mem
    refine sCallVQ (X := Unit) (g := 65) (vs := [iv s35, iv s15]) (caps := [v2, v3, v4]) (val := fun _ => .bool r50) S (wN rfl) rfl rfl callee65 rfl (S1.quiet [0, 1, 2] rfl) (fun E1 w1 S1 => c_grid_Shift_1_s0 E1 w1 s35 s15 p2 v2 p3 v3 p4 v4 r50 hx51 S1) rfl (lb rfl) fun _ a w S => ?_
    exact leafL ⟨rfl, S⟩
  refine ⟨_, [(30, .bool r50)], rfl, (srcs_of [some 5] rfl rfl rfl), fun G a w S => ?_⟩
  refine sLit (r := rB) (T := 4) (xs := [r50]) [(0, .bool r50)] 1 [.bool r50] [.bool r50] (.bool false) 1 S (wN rfl) rfl rfl Try.underlying22 rfl (by decide) (by decide) (by kernel_rfl) rfl (fun E1 w1 hE => All.cons rfl (All.nil _ _ _)) rfl rfl (lb rfl) fun a w ad58 cp59 S => ?_
  refine leafL ⟨rfl, _, _, .inl ⟨31, (.slice ad58 [r50].length cp59), [], rfl, S, hz_of rfl, ?_⟩⟩
  refine node_by (A := anc_grid_build_s0_0) (nf := [6, 7, 9]) (Y := [6]) 10 (by kernel_rfl) (by kernel_rfl) (by kernel_rfl) (by kernel_rfl) (by kernel_rfl) [6, 0, 1, 2, 3, 4, 5] (by kernel_rfl) (by decide) (by decide) (aF 0 9 (by decide) ?_ (aF 1 8 (by decide) ?_ (aD 2 7 6 (by decide) (aD 3 6 6 (by decide) (aD 4 5 6 (by decide) (aD 5 4 6 (by decide) (aY 6 3 (by decide) (aN 7 2 (by decide) ?_ (aE 8 1 7 (by decide) (aB 9 0 7 (by decide) (trivial))))))))))) [] (fun q hq => by cases hq) (fun hY => absurd (hY 7 (by decide)) (by decide))
  · refine fI 25 (.pointer (some ⟨b8, 2, none⟩)) [(7, .pointer (some ⟨b8, 0, none⟩))] 1 [none] rfl rfl rfl rfl rfl rfl fun G a w S => ?_
    refine sField (b := b8) (off := 0) 2 2 S (wN rfl) rfl rfl rfl rfl rfl (lb rfl) fun a S => ?_
    exact leafL ⟨rfl, S⟩
  · refine fI 26 (.slice ad37 s36.length cp38) [(25, .pointer (some ⟨b8, 2, none⟩))] 2 [some 1] rfl rfl rfl rfl rfl rfl fun G a w S => ?_
    refine sLoad1 (p := b8) (off := 2) (T := 24) (vs := [iv p0, iv p1, .slice ad37 s36.length cp38]) 2 (.slice ad37 s36.length cp38) S (wN rfl) rfl rfl rfl rfl rfl rfl (lb rfl) fun a S => ?_
    exact leafL ⟨rfl, S⟩
  refine ⟨_, [(26, .slice ad37 s36.length cp38), (31, .slice ad58 [r50].length cp59)], rfl, (srcs_of [some 2, some 0] rfl rfl rfl), fun G a w S => ?_⟩
  refine sApp (r := rB) (T := 4) (xs := s36) (ys := [r50]) (v := .slice ad37 s36.length cp38) (u := .slice ad58 [r50].length cp59) 3 (.bool false) 1 S (wN rfl) rfl Try.underlying22 rfl rfl (by decide) rfl rfl rfl (src_R (T := 4) 0 S.mem rfl) hx55 rfl (lb rfl) fun a w ad60 cp61 S => ?_
  refine leafL ⟨rfl, _, _, .inl ⟨32, (.slice ad60 l54.length cp61), [(8, 33, .pointer (some ⟨b8, 2, none⟩))], rfl, S, hz_of rfl, ?_⟩⟩
  refine node_by (A := anc_grid_build_s0_0) (nf := [6, 7, 9]) (Y := [7, 6]) 10 (by kernel_rfl) (by kernel_rfl) (by kernel_rfl) (by kernel_rfl) (by kernel_rfl) [8, 7, 6, 0, 1, 2, 3, 4, 5] (by kernel_rfl) (by decide) (by decide) (aD 0 9 7 (by decide) (aD 1 8 7 (by decide) (aD 2 7 7 (by decide) (aD 3 6 7 (by decide) (aD 4 5 7 (by decide) (aD 5 4 7 (by decide) (aY 6 3 (by decide) (aY 7 2 (by decide) (aF 8 1 (by decide) ?_ (aN 9 0 (by decide) ?_ (trivial))))))))))) [] (fun q hq => by cases hq) (fun hY => absurd (hY 9 (by decide)) (by decide))
  · refine fI 33 (.pointer (some ⟨b8, 2, none⟩)) [(7, .pointer (some ⟨b8, 0, none⟩))] 0 [none] rfl rfl rfl rfl rfl rfl fun G a w S => ?_
    refine sField (b := b8) (off := 0) 2 2 S (wN rfl) rfl rfl rfl rfl rfl (lb rfl) fun a S => ?_
    exact leafL ⟨rfl, S⟩
  refine ⟨_, [(32, .slice ad60 l54.length cp61), (33, .pointer (some ⟨b8, 2, none⟩))], rfl, (srcs_of [some 1, some 0] rfl rfl rfl), fun G a w S => ?_⟩
  refine sStore (p := b8) (off := 2) (T := 24) (vs := [iv p0, iv p1, .slice ad37 s36.length cp38]) (v := .slice ad60 l54.length cp61) 3 [.slice ad60 l54.length cp61] S (wN rfl) rfl rfl rfl rfl rfl rfl rfl (by simp) rfl fun a w S => ?_
  refine leafL ⟨rfl, _, _, .inr ⟨[], rfl, S, hz_of rfl, ?_⟩⟩
  refine node_by (A := anc_grid_build_s0_0) (nf := [6, 7, 9]) (Y := [9, 7, 6]) 10 (by kernel_rfl) (by kernel_rfl) (by kernel_rfl) (by kernel_rfl) (by kernel_rfl) [8, 7, 6, 0, 1, 2, 3, 4, 5] (by kernel_rfl) (by decide) (by decide) (aD 0 9 9 (by decide) (aD 1 8 9 (by decide) (aD 2 7 9 (by decide) (aD 3 6 9 (by decide) (aD 4 5 9 (by decide) (aD 5 4 9 (by decide) (aY 6 3 (by decide) (aY 7 2 (by decide) (aD 8 1 9 (by decide) (aY 9 0 (by decide) (trivial))))))))))) [(0, iv p0), (2, .func (.func 65) #[] #[v2, v3, v4]), (6, .pointer (some ⟨b2, 0, none⟩)), (7, .pointer (some ⟨b8, 0, none⟩)), (8, iv s15), (17, iv p1), (18, iv s15), (21, iv p0), (22, iv s35)] (fin_of [none, none, none, none, none, none, none, none, none] rfl (by kernel_rfl) (by kernel_rfl)) (fun _ a w S => ?_)
  refine leafB (leafT (hK48 _ _ ?_))
  refine sRegion ?_
  refine sBin (iv (w64 (s35 + 1))) S (wN rfl) rfl rfl rfl (bAdd _ _ _ _ s35 1) rfl (lb rfl) fun a S => ?_
  refine sMove (iv (w64 (s35 + 1))) S (wN rfl) (.inl rfl) rfl rfl (lb rfl) fun a S => ?_
  exact leafL (leafT (⟨(w64 (s35 + 1), l54), (Option.some.inj h).symm, ⟨ad60, cp61, S.fix [3, 0, 1] [0, 1, 2] (by decide) rfl rfl rfl⟩⟩))

end Go.Proofs.Ytffikfajljbmnaa
namespace Go.Proofs.Ytffikfajljbmnaa
open Go.RowKit
set_option linter.unusedVariables false

def anc_grid_Shift_0 : List (List Nat) := [[], [], [1], [0, 1, 2], [], [], [5], [0, 1, 2, 3, 4, 5, 6], [0, 1, 2, 3, 4, 5, 6, 7], [0, 1, 2, 3, 4, 5, 6, 7, 8]]
noncomputable def F_grid_Shift (p0 : api_Grid) (p1 : Int) (p2 : Int) : Option (api_Grid × Int) :=
  Option.bind (F_grid_Check p0) fun r12 =>
  if r12 != 0 then
    some ((api_Grid.mk 0 0 ([] : (List Bool))), r12)
  else
    Option.bind (F_grid_around p1 p0.W) fun r18 =>
    Option.bind (F_grid_around p2 p0.H) fun r20 =>
    Option.bind (F_grid_build_s0 p0.W p0.H p0 r20 r18) fun r23 =>
    some (r23, 0)
def c_grid_Shift_val (r : (api_Grid × Int)) (x : Value) : Value := .tuple #[x, .int .i64 r.2]
def c_grid_Shift_D (r : (api_Grid × Int)) (x : Value) : List Fact := [fRep r_api_Grid x r.1]
set_option maxHeartbeats 4000000 in
set_option maxRecDepth 100000 in
theorem c_grid_Shift (E : Nat → Prop) (w0 : World) (p0 : api_Grid) (v0 : Value) (p1 : Int) (p2 : Int) (r : (api_Grid × Int)) (h : F_grid_Shift p0 p1 p2 = some r) (S : St0 E [] w0 w0 [] [fRep r_api_Grid (v0) p0]) :
    Calls Try.prog 34 #[v0, iv p1, iv p2] w0 (Ret (X := Value) E [] w0 (c_grid_Shift_val r) (fun _ => []) (c_grid_Shift_D r)) := by
  unfold F_grid_Shift at h
  obtain ⟨u1, rfl, hu2⟩ := S.know (i := 0) (e := fRep r_api_Grid (v0) p0) rfl
  have S := S.learn (fRep (rL rB) u1 p0.Bits) hu2
  obtain ⟨ad3, cp4, _, rfl, _⟩ := hu2
  refine sEnter (args := [.agg #[iv p0.W, iv p0.H, .slice ad3 p0.Bits.length cp4], iv p1, iv p2]) 29 Try.func34 rfl rfl (by simp) S (fun a S => ?_)
  refine sSeq (fun K5 hK5 => ?_)
  refine sRegion ?_
  refine sBox (v := .agg #[iv p0.W, iv p0.H, .slice ad3 p0.Bits.length cp4]) S (wN rfl) rfl rfl [iv p0.W, iv p0.H, .slice ad3 p0.Bits.length cp4] rfl rfl (lb rfl) fun a b6 w S => ?_
  refine sBox (v := iv p1) S (wN rfl) rfl rfl [iv p1] rfl rfl (lb rfl) fun a b7 w S => ?_
  refine sBox (v := iv p2) S (wN rfl) rfl rfl [iv p2] rfl rfl (lb rfl) fun a b8 w S => ?_
  refine sAlloc (.agg #[iv 0, iv 0, .slice none 0 0]) S (wN rfl) rfl rfl [iv 0, iv 0, .slice none 0 0] rfl rfl (lb rfl) fun a b9 w S => ?_
  refine sMove (iv 0) S (wN rfl) (.inr rfl) rfl rfl (lb rfl) fun a S => ?_
  refine leafL (leafT (hK5 _ _ ?_))
  refine sSeq (fun K10 hK10 => ?_)
  refine sSeq (fun K11 hK11 => ?_)
  refine sRegion ?_
  refine sLoadN (p := b6) (off := 0) (T := 24) (vs := [iv p0.W, iv p0.H, .slice ad3 p0.Bits.length cp4]) 3 [iv p0.W, iv p0.H, .slice ad3 p0.Bits.length cp4] S (wN rfl) rfl rfl rfl rfl rfl rfl rfl (lb rfl) fun a S => ?_
  obtain ⟨r12, hx13, h⟩ := bindSome h
  have S1 := S.mem
  refine sCallQ (X := Unit) (f := 45) (vs := [.agg #[iv p0.W, iv p0.H, .slice ad3 p0.Bits.length cp4]]) (val := fun _ => iv r12) S (wN rfl) rfl callee45 rfl (S1.quiet [1] rfl) (fun E1 w1 S1 => c_grid_Check E1 w1 p0 (.agg #[iv p0.W, iv p0.H, .slice ad3 p0.Bits.length cp4]) r12 hx13 S1) rfl (lb rfl) fun _ a w S => ?_
  refine sMove (iv r12) S (wN rfl) (.inr rfl) rfl rfl (lb rfl) fun a S => ?_
  refine leafL (leafT (hK11 _ _ ?_))
  refine sSeq (fun K14 hK14 => ?_)
  refine sRegion ?_
  refine sMove (iv r12) S (wN rfl) (.inl rfl) rfl rfl (lb rfl) fun a S => ?_
  refine sBin (.bool (r12 != 0)) S (wN rfl) rfl rfl rfl (bNe _ _ _ _ .i64 r12 0) rfl (lb rfl) fun a S => ?_
  refine leafL (leafT (hK14 _ _ ?_))
  rcases iteSome h with ⟨hc15, h⟩ | ⟨hc15, h⟩
  · refine sCondT S rfl hc15 ?_
    refine sSeq (fun K16 hK16 => ?_)
    refine sRegion ?_
    refine sBuild [] [iv 0, iv 0, .slice none 0 0] S (wN rfl) rfl rfl rfl rfl (lb rfl) fun a S => ?_
    refine sMove (iv r12) S (wN rfl) (.inl rfl) rfl rfl (lb rfl) fun a S => ?_
    refine sStore (p := b9) (off := 0) (T := 24) (vs := [iv 0, iv 0, .slice none 0 0]) (v := .agg #[iv 0, iv 0, .slice none 0 0]) 0 [iv 0, iv 0, .slice none 0 0] S (wN rfl) rfl rfl rfl rfl rfl rfl rfl (by simp) rfl fun a w S => ?_
    refine sMove (iv r12) S (wN rfl) (.inr rfl) rfl rfl (lb rfl) fun a S => ?_
    refine leafL (leafT (hK16 _ _ ?_))
    obtain rfl := Option.some.inj h
    have S := S.learn (fRep (rL rB) (.slice none 0 0) ([] : (List Bool))) (rL_nil _ _ _)
    have S := S.learn (fRep r_api_Grid (.agg #[iv 0, iv 0, .slice none 0 0]) (api_Grid.mk 0 0 ([] : (List Bool)))) ⟨_, rfl, S.mem.know (i := 0) (e := fRep (rL rB) (.slice none 0 0) ([] : (List Bool))) rfl⟩
    exact wp_ret (rThen (sRet (.tuple #[.agg #[iv 0, iv 0, .slice none 0 0], iv r12]) S (rsl2 rfl (rvN (c := 6) (t := 24) (T := 24) (p := b9) 0 [iv 0, iv 0, .slice none 0 0] S rfl rfl rfl rfl) (rvT (t := 7) (v := iv r12) S rfl)) ⟨(.agg #[iv 0, iv 0, .slice none 0 0]), rfl, S.mem.sel [] [0] (by decide) rfl rfl⟩))
  refine sCondF S rfl hc15 ?_
  refine wp_skip (leafT (hK10 _ _ ?_))
  refine sSeq (fun K17 hK17 => ?_)
  obtain ⟨r18, hx19, h⟩ := bindSome h
  obtain ⟨r20, hx21, h⟩ := bindSome h
  refine sDraw (nf := [8, 9]) (W := [(0, 15, iv p1), (1, 16, .pointer (some ⟨b6, 0, none⟩)), (2, 17, iv p0.W), (3, 18, iv r18), (4, 19, iv p2), (5, 20, .pointer (some ⟨b6, 1, none⟩)), (6, 21, iv p0.H), (7, 22, iv r20)]) rfl S ?_
  refine node_by (A := anc_grid_Shift_0) (nf := [8, 9]) (Y := []) (W := [(0, 15, iv p1), (1, 16, .pointer (some ⟨b6, 0, none⟩)), (2, 17, iv p0.W), (3, 18, iv r18), (4, 19, iv p2), (5, 20, .pointer (some ⟨b6, 1, none⟩)), (6, 21, iv p0.H), (7, 22, iv r20)]) 10 (by kernel_rfl) (by kernel_rfl) (by kernel_rfl) (by kernel_rfl) (by kernel_rfl) [0, 1, 2, 3, 4, 5, 6, 7] (by kernel_rfl) (by decide) (by decide) (aF 0 9 (by decide) ?_ (aF 1 8 (by decide) ?_ (aF 2 7 (by decide) ?_ (aF 3 6 (by decide) ?_ (aF 4 5 (by decide) ?_ (aF 5 4 (by decide) ?_ (aF 6 3 (by decide) ?_ (aF 7 2 (by decide) ?_ (aN 8 1 (by decide) ?_ (aB 9 0 8 (by decide) (trivial))))))))))) [] (fun q hq => by cases hq) (fun hY => absurd (hY 8 (by decide)) (by decide))
  · refine fI 15 (iv p1) [(4, .pointer (some ⟨b7, 0, none⟩))] 0 [none] rfl rfl rfl rfl rfl rfl fun G a w S => ?_
    refine sLoad1 (p := b7) (off := 0) (T := 3) (vs := [iv p1]) 2 (iv p1) S (wN rfl) rfl rfl rfl rfl rfl rfl (lb rfl) fun a S => ?_
    exact leafL ⟨rfl, S⟩
  · refine fI 16 (.pointer (some ⟨b6, 0, none⟩)) [(3, .pointer (some ⟨b6, 0, none⟩))] 1 [none] rfl rfl rfl rfl rfl rfl fun G a w S => ?_
    refine sField (b := b6) (off := 0) 0 0 S (wN rfl) rfl rfl rfl rfl rfl (lb rfl) fun a S => ?_
    exact leafL ⟨rfl, S⟩
  · refine fI 17 (iv p0.W) [(16, .pointer (some ⟨b6, 0, none⟩))] 2 [some 1] rfl rfl rfl rfl rfl rfl fun G a w S => ?_
    refine sLoad1 (p := b6) (off := 0) (T := 24) (vs := [iv p0.W, iv p0.H, .slice ad3 p0.Bits.length cp4]) 3 (iv p0.W) S (wN rfl) rfl rfl rfl rfl rfl rfl (lb rfl) fun a S => ?_
    exact leafL ⟨rfl, S⟩
  · refine fI 18 (iv r18) [(15, iv p1), (17, iv p0.W)] 3 [some 0, some 2] rfl rfl rfl rfl rfl rfl fun G a w S => ?_
    have S1 := S.mem
    refine sCallQ (X := Unit) (f := 63) (vs := [iv p1, iv p0.W]) (val := fun _ => iv r18) S (wN rfl) rfl callee63 rfl (S1.quiet [] rfl) (fun E1 w1 S1 => c_grid_around E1 w1 p1 p0.W r18 hx19 S1) rfl (lb rfl) fun _ a w S => ?_
    exact leafL ⟨rfl, S⟩
  · refine fI 19 (iv p2) [(5, .pointer (some ⟨b8, 0, none⟩))] 4 [none] rfl rfl rfl rfl rfl rfl fun G a w S => ?_
    refine sLoad1 (p := b8) (off := 0) (T := 3) (vs := [iv p2]) 1 (iv p2) S (wN rfl) rfl rfl rfl rfl rfl rfl (lb rfl) fun a S => ?_
    exact leafL ⟨rfl, S⟩
  · refine fI 20 (.pointer (some ⟨b6, 1, none⟩)) [(3, .pointer (some ⟨b6, 0, none⟩))] 5 [none] rfl rfl rfl rfl rfl rfl fun G a w S => ?_
    refine sField (b := b6) (off := 0) 1 1 S (wN rfl) rfl rfl rfl rfl rfl (lb rfl) fun a S => ?_
    exact leafL ⟨rfl, S⟩
  · refine fI 21 (iv p0.H) [(20, .pointer (some ⟨b6, 1, none⟩))] 6 [some 5] rfl rfl rfl rfl rfl rfl fun G a w S => ?_
    refine sLoad1 (p := b6) (off := 1) (T := 24) (vs := [iv p0.W, iv p0.H, .slice ad3 p0.Bits.length cp4]) 3 (iv p0.H) S (wN rfl) rfl rfl rfl rfl rfl rfl (lb rfl) fun a S => ?_
    exact leafL ⟨rfl, S⟩
  · refine fI 22 (iv r20) [(19, iv p2), (21, iv p0.H)] 7 [some 4, some 6] rfl rfl rfl rfl rfl rfl fun G a w S => ?_
    have S1 := S.mem
    refine sCallQ (X := Unit) (f := 63) (vs := [iv p2, iv p0.H]) (val := fun _ => iv r20) S (wN rfl) rfl callee63 rfl (S1.quiet [] rfl) (fun E1 w1 S1 => c_grid_around E1 w1 p2 p0.H r20 hx21 S1) rfl (lb rfl) fun _ a w S => ?_
    exact leafL ⟨rfl, S⟩
  refine ⟨_, [(4, .pointer (some ⟨b7, 0, none⟩)), (18, iv r18)], rfl, (srcs_of [none, some 3] rfl rfl rfl), fun G a w S => ?_⟩
  refine sStore (p := b7) (off := 0) (T := 3) (vs := [iv p1]) (v := iv r18) 2 [iv r18] S (wN rfl) rfl rfl rfl rfl rfl rfl rfl (by simp) rfl fun a w S => ?_
  refine leafL ⟨rfl, _, _, .inr ⟨[], rfl, S, hz_of rfl, ?_⟩⟩
  refine node_by (A := anc_grid_Shift_0) (nf := [8, 9]) (Y := [8]) 10 (by kernel_rfl) (by kernel_rfl) (by kernel_rfl) (by kernel_rfl) (by kernel_rfl) [0, 1, 2, 3, 4, 5, 6, 7] (by kernel_rfl) (by decide) (by decide) (aD 0 9 8 (by decide) (aD 1 8 8 (by decide) (aD 2 7 8 (by decide) (aD 3 6 8 (by decide) (aD 4 5 8 (by decide) (aD 5 4 8 (by decide) (aD 6 3 8 (by decide) (aD 7 2 8 (by decide) (aY 8 1 (by decide) (aN 9 0 (by decide) ?_ (trivial))))))))))) [] (fun q hq => by cases hq) (fun hY => absurd (hY 9 (by decide)) (by decide))
  refine ⟨_, [(5, .pointer (some ⟨b8, 0, none⟩)), (22, iv r20)], rfl, (srcs_of [none, some 7] rfl rfl rfl), fun G a w S => ?_⟩
  refine sStore (p := b8) (off := 0) (T := 3) (vs := [iv p2]) (v := iv r20) 2 [iv r20] S (wN rfl) rfl rfl rfl rfl rfl rfl rfl (by simp) rfl fun a w S => ?_
  refine leafL ⟨rfl, _, _, .inr ⟨[], rfl, S, hz_of rfl, ?_⟩⟩
  refine node_by (A := anc_grid_Shift_0) (nf := [8, 9]) (Y := [9, 8]) 10 (by kernel_rfl) (by kernel_rfl) (by kernel_rfl) (by kernel_rfl) (by kernel_rfl) [0, 1, 2, 3, 4, 5, 6, 7] (by kernel_rfl) (by decide) (by decide) (aD 0 9 9 (by decide) (aD 1 8 9 (by decide) (aD 2 7 9 (by decide) (aD 3 6 9 (by decide) (aD 4 5 9 (by decide) (aD 5 4 9 (by decide) (aD 6 3 9 (by decide) (aD 7 2 9 (by decide) (aY 8 1 (by decide) (aY 9 0 (by decide) (trivial))))))))))) [(3, .pointer (some ⟨b6, 0, none⟩)), (4, .pointer (some ⟨b7, 0, none⟩)), (5, .pointer (some ⟨b8, 0, none⟩)), (6, .pointer (some ⟨b9, 0, none⟩))] (fin_of [none, none, none, none] rfl (by kernel_rfl) (by kernel_rfl)) (fun _ a w S => ?_)
  refine leafT (hK17 _ _ ?_)
  refine sSeq (fun K22 hK22 => ?_)
  refine sRegion ?_
  refine sField (b := b6) (off := 0) 0 0 S (wN rfl) rfl rfl rfl rfl rfl (lb rfl) fun a S => ?_
  refine sLoad1 (p := b6) (off := 0) (T := 24) (vs := [iv p0.W, iv p0.H, .slice ad3 p0.Bits.length cp4]) 3 (iv p0.W) S (wN rfl) rfl rfl rfl rfl rfl rfl (lb rfl) fun a S => ?_
  refine sField (b := b6) (off := 0) 1 1 S (wN rfl) rfl rfl rfl rfl rfl (lb rfl) fun a S => ?_
  refine sLoad1 (p := b6) (off := 1) (T := 24) (vs := [iv p0.W, iv p0.H, .slice ad3 p0.Bits.length cp4]) 3 (iv p0.H) S (wN rfl) rfl rfl rfl rfl rfl rfl (lb rfl) fun a S => ?_
  refine sFunc (g := 65) (vs := [.pointer (some ⟨b6, 0, none⟩), .pointer (some ⟨b8, 0, none⟩), .pointer (some ⟨b7, 0, none⟩)]) S (wN rfl) rfl rfl rfl (lb rfl) fun a S => ?_
  obtain ⟨r23, hx24, h⟩ := bindSome h
  have S := S.shutB (r := r_api_Grid) (T := 24) (b := b6) (cs := [iv p0.W, iv p0.H, .slice ad3 p0.Bits.length cp4]) 3 (.agg #[iv p0.W, iv p0.H, .slice ad3 p0.Bits.length cp4]) p0 rfl rfl (S.mem.know (i := 1) (e := fRep r_api_Grid (.agg #[iv p0.W, iv p0.H, .slice ad3 p0.Bits.length cp4]) p0) rfl)
  have S := S.shutB (r := (rI .i64)) (T := 3) (b := b8) (cs := [iv r20]) 0 (iv r20) r20 rfl rfl (rfl)
  have S := S.shutB (r := (rI .i64)) (T := 3) (b := b7) (cs := [iv r18]) 0 (iv r18) r18 rfl rfl (rfl)
  refine sCall (X := Value) (f := 64) (vs := [iv p0.W, iv p0.H, .func (.func 65) #[] #[.pointer (some ⟨b6, 0, none⟩), .pointer (some ⟨b8, 0, none⟩), .pointer (some ⟨b7, 0, none⟩)]]) (val := c_grid_build_s0_val r23) (B' := fun _ => []) (D' := c_grid_build_s0_D r23) [] [eBox b9 24 [iv 0, iv 0, .slice none 0 0]] [fPtr r_api_Grid (.pointer (some ⟨b6, 0, none⟩)) p0, fPtr (rI .i64) (.pointer (some ⟨b8, 0, none⟩)) r20, fPtr (rI .i64) (.pointer (some ⟨b7, 0, none⟩)) r18] [0] [2, 1, 0] S (wN rfl) rfl callee64 rfl (by decide) rfl rfl (fun E1 w1 S1 => c_grid_build_s0 E1 w1 p0.W p0.H p0 (.pointer (some ⟨b6, 0, none⟩)) r20 (.pointer (some ⟨b8, 0, none⟩)) r18 (.pointer (some ⟨b7, 0, none⟩)) r23 hx24 S1) rfl (lb rfl) fun u25 a w S => ?_
  obtain ⟨u26, rfl, hu27⟩ := S.mem.know (i := 0) (e := fRep r_api_Grid (u25) r23) rfl
  have S := S.learn (fRep (rL rB) u26 r23.Bits) hu27
  obtain ⟨ad28, cp29, _, rfl, _⟩ := hu27
  refine sStore (p := b9) (off := 0) (T := 24) (vs := [iv 0, iv 0, .slice none 0 0]) (v := .agg #[iv r23.W, iv r23.H, .slice ad28 r23.Bits.length cp29]) 0 [iv r23.W, iv r23.H, .slice ad28 r23.Bits.length cp29] S (wN rfl) rfl rfl rfl rfl rfl rfl rfl (by simp) rfl fun a w S => ?_
  refine sMove (iv 0) S (wN rfl) (.inr rfl) rfl rfl (lb rfl) fun a S => ?_
  refine leafL (leafT (hK22 _ _ ?_))
  obtain rfl := Option.some.inj h
  exact wp_ret (sRet (.tuple #[.agg #[iv r23.W, iv r23.H, .slice ad28 r23.Bits.length cp29], iv 0]) S (rsl2 rfl (rvN (c := 6) (t := 24) (T := 24) (p := b9) 0 [iv r23.W, iv r23.H, .slice ad28 r23.Bits.length cp29] S rfl rfl rfl rfl) (rvT (t := 7) (v := iv 0) S rfl)) ⟨(.agg #[iv r23.W, iv r23.H, .slice ad28 r23.Bits.length cp29]), rfl, S.mem.sel [] [1] (by decide) rfl rfl⟩)

end Go.Proofs.Ytffikfajljbmnaa
