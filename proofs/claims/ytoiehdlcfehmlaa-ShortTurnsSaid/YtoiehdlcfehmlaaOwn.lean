/- Slices of the call's own: append, make, store, and what they read as. Elements of one cell each. -/
import Derived.Maps.AppendAt
import Derived.Deep.AppendLies
import Derived.Deep.RegionHeld3
import Derived.Test.YtoiehdlcfehmlaaKit
namespace Go.Proofs.Ytoiehdlcfehmlaa
open Go.RowKit
set_option linter.unusedVariables false

/-- the values f 0 .. f (m - 1) -/
def vals (f : Nat → Value) (m : Nat) : List Value := (List.range m).map f
theorem vals_length (f : Nat → Value) (m : Nat) : (vals f m).length = m := by simp [vals]
theorem vals_get (f : Nat → Value) {m k : Nat} (h : k < m) : (vals f m)[k]? = some (f k) := by simp [vals, h]
theorem vals_mem {f : Nat → Value} {m : Nat} {u : Value} (h : u ∈ vals f m) : ∃ k, k < m ∧ f k = u := by
  simpa [vals] using h

/-- An owned row reads as its cells. -/
theorem ownsRow_row {w : World} {base : Nat} {e : TypeId} {v : Value} {n : Nat} {xs : List Value} (h : w.ownsRow base e 1 v n xs) {f : Nat → Value} (hf : ∀ k, k < n → xs[k]? = some (f k)) :
    ∃ a c, v = .slice a n c ∧ Row w a n f ∧ (a = none → n = 0) ∧ (∀ p, a = some p → base ≤ p.block ∧ p.off = 0 ∧ p.spot = none ∧ p.block < w.heap.size) := by
  rcases h.2 with ⟨rfl, rfl⟩ | ⟨g, cap, cur, rfl, hb, hg, hnc, hcm, hcs, htake⟩
  · exact ⟨none, 0, rfl, Row.nil _ _ _, fun _ => rfl, fun p hp => by cases hp⟩
  · have hlt : g < w.heap.size := (Array.getElem?_eq_some_iff.1 hg).1
    refine ⟨_, _, rfl, ?_, (fun h => by cases h), fun p hp => by cases hp; exact ⟨hb, rfl, rfl, hlt⟩⟩
    intro k hk
    refine ⟨g, 0, rfl, hlt, ?_⟩
    rw [cell_of_row w g (0 + k) cur e (0, 0) hg]
    have h1 := hf k hk
    rw [← htake, List.getElem?_take] at h1
    rw [if_pos (by omega)] at h1
    simpa using h1

theorem row_news {w : World} {b : Addr} {m : Nat} {f : Nat → Value} (h : Row w (some b) m f) : ∀ j u, (vals f m)[j]? = some u → w.cell? (b.add j) = some u := by
  intro j u hu
  have hj : j < m := by
    have := (List.getElem?_eq_some_iff.1 hu).1
    simpa [vals] using this
  rw [vals_get f hj] at hu
  obtain ⟨b', off, e, _, hc⟩ := h j hj
  cases e
  have hadd : (⟨b', off, none⟩ : Addr).add j = ⟨b', off + j, none⟩ := by unfold Addr.add; split <;> simp_all
  rw [hadd, hc, ← hu]

/-- append(out, xs...): the source nil or not, empty or not; where the new row lies. -/
theorem run_append_row {P : Program} (w : World) (base : Nat) (t ty e : TypeId) (i : TypeInfo) (z : Value) (bytes : Nat) (ht : P.underlying t = some (.slice e)) (hi : P.info? e = some i) (hz : i.zero = some z)
    (hsize : i.size = 1) (hby : i.bytes = bytes) (hzs : z.cells.size = 1) (v : Value) (n : Nat) (xs : List Value) (hown : w.ownsRow base e 1 v n xs)
    (a : Option Addr) (m c : Nat) (f : Nat → Value) (hrow : Row w a m f) (h1 : ∀ k, k < m → (f k).oneCell' = true)
    (h63 : n + m ≤ maxLen) (hbytes : (n + m) * bytes ≤ 140737488355328) (hbase : base ≤ w.heap.size) :
    ∃ v' w', (Builtin.append_ #[t, t] ty #[v, .slice a m c]).run P w = .ok v' w' ∧ w'.ownsRow base e 1 v' (n + m) (xs ++ vals f m) ∧ w.grownBy w' v.ownBlock ∧
      (v'.ownBlock = v.ownBlock ∨ v'.ownBlock = some w.heap.size) := by
  cases a with
  | some b =>
    obtain ⟨v', w', hr, h2, h3, _, h5⟩ := run_append_own_at (P := P) w base t ty e i z 1 bytes ht hi hz hsize hby hzs (by omega) v n xs hown b m c (vals f m) (by simp [vals]) (row_news hrow) (fun u hu => by
      obtain ⟨k, hk, rfl⟩ := vals_mem hu
      exact h1 k hk) h63 hbytes hbase
    exact ⟨v', w', hr, h2, h3, h5⟩
  | none =>
    have hm : m = 0 := by
      rcases Nat.eq_zero_or_pos m with h | h
      · exact h
      · obtain ⟨b, o, e, _⟩ := hrow 0 h
        cases e
    subst hm
    refine ⟨v, w, ?_, by simpa [vals] using hown, World.grownBy.refl _ _, .inl rfl⟩
    rcases hown.2 with ⟨rfl, rfl⟩ | ⟨g, cap, cur, rfl, hbg, hg, hnc, hcm, hcs, htake⟩
    · simp [Builtin.append_, run_underlying ht, sizeOf, typeInfo, hi, Builtin.lenOf, Builtin.firstCells]
    · simp [Builtin.append_, run_underlying ht, sizeOf, typeInfo, hi, Builtin.lenOf, Builtin.firstCells, hnc, storeCells]

theorem ownsRow_slice {w : World} {base : Nat} {e : TypeId} {v : Value} {n : Nat} {xs : List Value} (h : w.ownsRow base e 1 v n xs) : ∃ a c, v = .slice a n c := by
  rcases h.2 with ⟨rfl, rfl⟩ | ⟨g, cap, cur, rfl, _⟩
  · exact ⟨none, 0, rfl⟩
  · exact ⟨_, _, rfl⟩

theorem wp_append_row {P : Program} {w : World} {o : Oper} {a : Act} {K : Act → World → Prop} {Q : Exit → Act → World → Prop} (s x : Operand) (t : TypeId)
    (ho : o.op = .call { callee := .builtin .append, args := #[s, x], argTypes := #[t, t] })
    (base : Nat) (e : TypeId) {z : Value} {bytes : Nat} (ht : P.underlying t = some (.slice e)) (hinfo : (P.info? e).map (fun i => (i.zero, i.size, i.bytes)) = some (some z, 1, bytes)) (hzs : z.cells.size = 1)
    (v : Value) (n : Nat) (xs : List Value) (hs : a.eval s = v) (hown : w.ownsRow base e 1 v n xs)
    (ad : Option Addr) (m c : Nat) (f : Nat → Value) (hx : a.eval x = .slice ad m c) (hrow : Row w ad m f) (h1 : ∀ k, k < m → (f k).oneCell' = true)
    (h63 : n + m ≤ maxLen) (hbytes : (n + m) * bytes ≤ 140737488355328) (hbase : base ≤ w.heap.size)
    (h : ∀ a' c' w', w'.ownsRow base e 1 (.slice a' (n + m) c') (n + m) (xs ++ vals f m) → w.grownBy w' v.ownBlock → ((Value.slice a' (n + m) c').ownBlock = v.ownBlock ∨ (Value.slice a' (n + m) c').ownBlock = some w.heap.size) → K (a.put o.dst (.slice a' (n + m) c')) w') : o.wp P a w K Q := by
  obtain ⟨i, hi, hz, hsize, hby⟩ := info_parts hinfo
  obtain ⟨v', w', hr, h2, h3, h4⟩ := run_append_row (P := P) w base t o.type e i z bytes ht hi hz hsize hby hzs v n xs hown ad m c f hrow h1 h63 hbytes hbase
  unfold Oper.wp execOp
  simp only [ho, resolve, invoke, builtin, Sem.run_bind, Sem.run_pure, Result.andThen_ok, List.map_toArray, List.map_cons, List.map_nil, hs, hx, hr]
  obtain ⟨a', c', rfl⟩ := ownsRow_slice h2
  exact h a' c' w' h2 h3 h4

theorem wpList_append_row {P : Program} {w : World} {ops : Array Oper} {rest : List Oper} {o : Oper} {a : Act} {Q : Exit → Act → World → Prop} (hgd : o.guard = none) (s x : Operand) (t : TypeId)
    (ho : o.op = .call { callee := .builtin .append, args := #[s, x], argTypes := #[t, t] })
    (base : Nat) (e : TypeId) {z : Value} {bytes : Nat} (ht : P.underlying t = some (.slice e)) (hinfo : (P.info? e).map (fun i => (i.zero, i.size, i.bytes)) = some (some z, 1, bytes)) (hzs : z.cells.size = 1)
    (v : Value) (n : Nat) (xs : List Value) (hs : a.eval s = v) (hown : w.ownsRow base e 1 v n xs)
    (ad : Option Addr) (m c : Nat) (f : Nat → Value) (hx : a.eval x = .slice ad m c) (hrow : Row w ad m f) (h1 : ∀ k, k < m → (f k).oneCell' = true)
    (h63 : n + m ≤ maxLen) (hbytes : (n + m) * bytes ≤ 140737488355328) (hbase : base ≤ w.heap.size)
    (h : ∀ a' c' w', w'.ownsRow base e 1 (.slice a' (n + m) c') (n + m) (xs ++ vals f m) → w.grownBy w' v.ownBlock → ((Value.slice a' (n + m) c').ownBlock = v.ownBlock ∨ (Value.slice a' (n + m) c').ownBlock = some w.heap.size) → wpList P ops Q rest (a.put o.dst (.slice a' (n + m) c')) w') : wpList P ops Q (o :: rest) a w :=
  wpList_plain hgd fun _ hK => wp_append_row s x t ho base e ht hinfo hzs v n xs hs hown ad m c f hx hrow h1 h63 hbytes hbase fun a' c' w' h2 h3 h4 => hK _ _ (h a' c' w' h2 h3 h4)

theorem step_append_row {P : Program} {w : World} {ops : Array Oper} {o : Oper} {a : Act} {K : Act → World → Prop} {Q : Exit → Act → World → Prop} {E : Prop} (hgd : o.guard = none) (s x : Operand) (t : TypeId)
    (ho : o.op = .call { callee := .builtin .append, args := #[s, x], argTypes := #[t, t] })
    (base : Nat) (e : TypeId) {z : Value} {bytes : Nat} (ht : P.underlying t = some (.slice e)) (hinfo : (P.info? e).map (fun i => (i.zero, i.size, i.bytes)) = some (some z, 1, bytes)) (hzs : z.cells.size = 1)
    (v : Value) (n : Nat) (xs : List Value) (hs : a.eval s = v) (hown : w.ownsRow base e 1 v n xs)
    (ad : Option Addr) (m c : Nat) (f : Nat → Value) (hx : a.eval x = .slice ad m c) (hrow : Row w ad m f) (h1 : ∀ k, k < m → (f k).oneCell' = true)
    (h63 : n + m ≤ maxLen) (hbytes : (n + m) * bytes ≤ 140737488355328) (hbase : base ≤ w.heap.size)
    (h : ∀ a' c' w', w'.ownsRow base e 1 (.slice a' (n + m) c') (n + m) (xs ++ vals f m) → w.grownBy w' v.ownBlock → ((Value.slice a' (n + m) c').ownBlock = v.ownBlock ∨ (Value.slice a' (n + m) c').ownBlock = some w.heap.size) → K (a.put o.dst (.slice a' (n + m) c')) w') :
    if Region.wanted o (yielded ops a.tmps) = true then Oper.wp P o a w K Q else E := by
  have hw : Region.wanted o (yielded ops a.tmps) = true := by simp [Region.wanted, hgd]
  rw [if_pos hw]
  exact wp_append_row s x t ho base e ht hinfo hzs v n xs hs hown ad m c f hx hrow h1 h63 hbytes hbase h

theorem own_empty (w : World) (base e k : Nat) (hk : k = w.heap.size) (hb : base ≤ k) : (w.alloc (.cells #[] e)).ownsRow base e 1 (.slice (some ⟨k, 0, none⟩) 0 0) 0 [] := by
  subst hk
  exact World.ownsRow_made w #[] 0 hb (Nat.zero_le _) rfl
theorem own_empty_drew (w : World) (base e k : Nat) (hk : k = w.heap.size) (hb : base ≤ k) : (w.alloc (.cells #[] e)).drew.ownsRow base e 1 (.slice (some ⟨k, 0, none⟩) 0 0) 0 [] := own_empty w base e k hk hb
/-- behind an append: what lies elsewhere reads as it did -/
theorem gcell {W w1 : World} {row : Option Nat} (hg : W.grownBy w1 row) (B : Nat) (hB : B ≤ W.heap.size) (hr : ∀ k, row = some k → B ≤ k) :
    (∀ b o, b < B → w1.cell? ⟨b, o, none⟩ = W.cell? ⟨b, o, none⟩) ∧ (∀ b o, b < B → w1.frozen? ⟨b, o, none⟩ = W.frozen? ⟨b, o, none⟩) ∧ Below B W w1 :=
  ⟨fun b o h => World.cell?_of_block (hg.block b (by omega) (fun e => by have := hr b e.symm; omega)), fun b o h => World.frozen?_of_block (hg.block b (by omega) (fun e => by have := hr b e.symm; omega)),
    (Below.refl _ _).grown hg hB hr⟩

theorem ownsRow_base {w : World} {base base' : Nat} {e : TypeId} {size : Nat} {v : Value} {n : Nat} {xs : List Value} (h : w.ownsRow base e size v n xs) (hb : base' ≤ base) : w.ownsRow base' e size v n xs := by
  refine ⟨h.1, ?_⟩
  rcases h.2 with h2 | ⟨g, cap, cur, hv, hg, r⟩
  · exact .inl h2
  · exact .inr ⟨g, cap, cur, hv, Nat.le_trans hb hg, r⟩
/-- an owned row elsewhere is as it was, whatever is grown or written beyond it -/
theorem ownsRow_block {w w' : World} {base : Nat} {e : TypeId} {size : Nat} {g n c : Nat} {xs : List Value} (h : w.ownsRow base e size (.slice (some ⟨g, 0, none⟩) n c) n xs) (hb : w'.heap[g]? = w.heap[g]?) : w'.ownsRow base e size (.slice (some ⟨g, 0, none⟩) n c) n xs := by
  refine ⟨h.1, ?_⟩
  rcases h.2 with ⟨hv, _⟩ | ⟨g', cap, cur, hv, hg, hh, r⟩
  · cases hv
  · cases hv
    exact .inr ⟨g, c, cur, rfl, hg, by rw [hb]; exact hh, r⟩
theorem ownsRow_below {w w' : World} {base B : Nat} {e : TypeId} {size : Nat} {g n c : Nat} {xs : List Value} (h : w.ownsRow base e size (.slice (some ⟨g, 0, none⟩) n c) n xs) (hb : Below B w w') (hg : g < B) : w'.ownsRow base e size (.slice (some ⟨g, 0, none⟩) n c) n xs :=
  ownsRow_block h (hb.block g hg)
theorem ownsRow_at {w : World} {base : Nat} {e : TypeId} {size : Nat} {g n c : Nat} {xs : List Value} (h : w.ownsRow base e size (.slice (some ⟨g, 0, none⟩) n c) n xs) : base ≤ g ∧ g < w.heap.size := by
  have := h.lt g rfl
  exact this
theorem ownsRow_cap {w : World} {base : Nat} {e : TypeId} {size : Nat} {a : Option Addr} {n c : Nat} {xs : List Value} (h : w.ownsRow base e size (.slice a n c) n xs) : n ≤ c := by
  rcases h.2 with ⟨hv, h0⟩ | ⟨g', cap, cur, hv, hg, hh, hnc, r⟩
  · omega
  · cases hv
    exact hnc
theorem ownsRow_head {w : World} {base : Nat} {e : TypeId} {size : Nat} {g n c : Nat} {xs : List Value} (h : w.ownsRow base e size (.slice (some ⟨g, 0, none⟩) n c) n xs) : w.ownsRow g e size (.slice (some ⟨g, 0, none⟩) n c) n xs := by
  refine ⟨h.1, ?_⟩
  rcases h.2 with ⟨hv, _⟩ | ⟨g', cap, cur, hv, hg, hh, r⟩
  · cases hv
  · cases hv
    exact .inr ⟨g, c, cur, rfl, Nat.le_refl _, hh, r⟩
theorem ownsRow_cellrow {w : World} {base : Nat} {e : TypeId} {g n c : Nat} {f : Nat → Value} (h : w.ownsRow base e 1 (.slice (some ⟨g, 0, none⟩) n c) n (vals f n)) : Row w (some ⟨g, 0, none⟩) n f := by
  intro k hk
  refine ⟨g, 0, rfl, (ownsRow_at h).2, ?_⟩
  have := h.cellAt k (by omega)
  rw [vals_get f hk] at this
  simpa using this
theorem vals_none (f : Nat → Value) {n k : Nat} (h : ¬ k < n) : (vals f n)[k]? = none := by simp [vals, h]
theorem vals_set (f : Nat → Value) (n j : Nat) (u : Value) : (vals f n).set j u = vals (fun k => if k = j then u else f k) n := by
  apply List.ext_getElem?
  intro k
  rw [List.getElem?_set]
  by_cases hk : k < n
  · rw [vals_get (fun k => if k = j then u else f k) hk, vals_get f hk]
    by_cases e : j = k
    · subst e
      rw [if_pos rfl, if_pos (by rw [vals_length]; exact hk), if_pos rfl]
    · rw [if_neg e, if_neg (fun h => e h.symm)]
  · rw [vals_none _ hk, vals_none _ hk]
    by_cases e : j = k
    · subst e
      rw [if_pos rfl, if_neg (by rw [vals_length]; exact hk)]
    · rw [if_neg e]
theorem vals_congr {f g : Nat → Value} {n : Nat} (h : ∀ k, k < n → f k = g k) : vals f n = vals g n := by
  apply List.ext_getElem?
  intro k
  by_cases hk : k < n
  · rw [vals_get _ hk, vals_get _ hk, h k hk]
  · simp [vals, hk]

theorem row_one (w : World) (v : Value) (e : TypeId) : Row (w.alloc (.cells #[v] e)) (some ⟨w.heap.size, 0, none⟩) 1 (fun _ => v) := by
  intro k hk
  obtain rfl : k = 0 := by omega
  exact ⟨w.heap.size, 0, rfl, by simp, by simp⟩

theorem below_push {w wr w5 : World} {X : Obj} {row : Option Nat} (h : Below w.heap.size w wr) (hg : (wr.alloc X).grownBy w5 row) (hr : ∀ k, row = some k → w.heap.size ≤ k) : Below w.heap.size w w5 :=
  (h.alloc h.size X).grown hg (by have := h.size; simp; omega) hr
theorem vals_snoc {f g : Nat → Value} {n : Nat} (h : g 0 = f n) : vals f n ++ vals g 1 = vals f (n + 1) := by
  simp [vals, List.range_succ, h]
theorem wrap_id (n : Int) (h0 : -9223372036854775808 ≤ n) (h1 : n ≤ 9223372036854775807) : IntKind.i64.wrap n = n := by
  simp [IntKind.wrap, IntKind.bits, IntKind.signed]
  omega

end Go.Proofs.Ytoiehdlcfehmlaa
