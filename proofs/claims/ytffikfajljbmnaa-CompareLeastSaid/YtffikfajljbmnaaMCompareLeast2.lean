/- CompareLeast: walks, tables, laws. -/
import Derived.Test.YtffikfajljbmnaaProg
import Derived.Test.YtffikfajljbmnaaRows
import Derived.Test.YtffikfajljbmnaaMCompareLeast1
set_option linter.unusedVariables false
set_option linter.unusedSimpArgs false
set_option maxHeartbeats 4000000
set_option maxRecDepth 100000
namespace Go.Proofs.Ytffikfajljbmnaa
open Go.RowKit
theorem All.take {α : Type} {r : R α} {E : Nat → Prop} {w : World} {vs : List Value} {xs : List α} (a : All r E w vs xs) (k : Nat) : All r E w (vs.take k) (xs.take k) := by
 refine ⟨by simp [a.1], fun j v x hv hx => ?_⟩
 rw [List.getElem?_take] at hv hx
 split at hv
 ·rename_i h
  rw [if_pos h] at hx
  exact a.2 j v x hv hx
 ·cases hv
theorem All.drop {α : Type} {r : R α} {E : Nat → Prop} {w : World} {vs : List Value} {xs : List α} (a : All r E w vs xs) (k : Nat) : All r E w (vs.drop k) (xs.drop k) := by
 refine ⟨by simp [a.1], fun j v x hv hx => ?_⟩
 rw [List.getElem?_drop] at hv hx
 exact a.2 _ v x hv hx
section
variable {P : Program} {dq : List Deferred} {E : Nat → Prop} {M : List Nat} {w0 : World} {n : Nat} {a : Act} {w : World} {F : List (Nat × Value)} {L : List Ent} {D : List Fact} {Q : Exit → Act → World → Prop}
variable {ops : Array Oper} {rest : List Oper} {o : Oper} {d : Nat}
def eHole {α : Type} (r : R α) (T : TypeId) (v : Value) (xs : List α) (p : Nat) (u : Value) : Ent where
 keys := vkeys v
 p := fun E w => ∃ vs, All r E w vs xs ∧ xs.length ≤ 68719476736 ∧ p < xs.length * r.sz ∧ w.ownsRow 0 T r.sz v xs.length (over (flat vs) p [u])
 mono := by
  rintro E E' w w' h hs ⟨vs, ha, hm, hp, hl, ho⟩
  refine ⟨vs, ha.mono h, hm, hp, hl, ?_⟩
  rcases ho with ho | ⟨g, cap, cur, hv, hg, hh, hr⟩
  ·exact .inl ho
  ·subst hv
   exact .inr ⟨g, cap, cur, rfl, hg, by rw [hs g (by simp [vkeys])]; exact hh, hr⟩
 lt := by
  rintro E w ⟨vs, ha, _, _, hl, ho⟩ b hb
  rcases ho with ⟨ho, _⟩ | ⟨g, cap, cur, hv, hg, hh, hr⟩
  ·subst ho; simp [vkeys] at hb
  ·subst hv
   simp [vkeys] at hb; subst hb
   exact (Array.getElem?_eq_some_iff.1 hh).1
theorem sStoreH {α : Type} {r : R α} {T : TypeId} {xs : List α} {x : α} {t : TypeId} {q xo : Operand} {v vq u : Value} {j : Int} (i kf : Nat) (S : St dq E M w0 n a w F L D) (hp : OwnF r.sz v vq j.toNat kf)
 (hw : ∀ a, Frm dq n a F → Region.wanted o (yielded ops a.tmps) = true) (ho : o.op = .store t q xo) (hq : lookO F q = some vq) (hxo : lookO F xo = some u) (hL : L[i]? = some (eRow r T v xs)) (hix : idxO xs j = some x) (hk : kf < r.sz) (hc : u.cells.toList = [u]) (h1 : u.oneCell' = true) (hm : cellsB P t = some 1) (hd : o.dst = none)
 (k : ∀ a w, St dq E M w0 n a w F (eHole r T v xs (j.toNat * r.sz + kf) u :: L.eraseIdx i) D → wpList P ops Q rest a w) : wpList P ops Q (o :: rest) a w := by
 obtain ⟨_, h2, _⟩ := idxO_some hix
 obtain ⟨vs, ha, hlen, hown⟩ := S.mem.at hL
 obtain ⟨g, m, c, rfl, rfl⟩ := hp
 have he := S.frm.eval hq
 have hex := S.frm.eval hxo
 have hcs1 : u.cells.size = 1 := by rw [← Array.length_toList, hc]; rfl
 have hown1 := hown
 rcases hown.2 with ⟨h, _⟩ | ⟨g', cap, cur, h, hb, hg, hnc, hcm, hcs, htake⟩
 ·cases h
 obtain ⟨rfl, rfl, rfl⟩ : g = g' ∧ m = xs.length ∧ c = cap := by simpa using h
 have hle : (j.toNat + 1) * r.sz ≤ xs.length * r.sz := Nat.mul_le_mul_right _ h2
 have hle2 : xs.length * r.sz ≤ c * r.sz := Nat.mul_le_mul_right _ hnc
 rw [Nat.add_mul, Nat.one_mul] at hle
 have hfl := flat_length (fun v hv => (ha.cells v hv).1)
 rw [ha.1] at hfl
 have hst := run_storeVar (P := P) (t := t) (off := j.toNat * r.sz + kf) (u := u) (by rw [hcs1]; exact hm) (by rw [hc]; intro c hc'; simp at hc'; rw [hc']; exact h1) hg (by rw [hcs1, hcs]; omega)
 rw [hc] at hst
 have hchg : Chg (eRow r T (.slice (some ⟨g, 0, none⟩) xs.length c) xs).keys w (w.setRow g (over cur.toList (j.toNat * r.sz + kf) [u]).toArray) := ⟨rfl, rfl, rfl, by simp [World.setRow], fun k _ hk => setRow_other w g k _ (fun e => hk (by simp [eRow, vkeys, e]))⟩
 have hext : Ext (tot E L) (tot E (eHole r T (.slice (some ⟨g, 0, none⟩) xs.length c) xs (j.toNat * r.sz + kf) u :: L.eraseIdx i)) w (w.setRow g (over cur.toList (j.toNat * r.sz + kf) [u]).toArray) := by
  refine ⟨hchg.size, fun b hb hn _ => hchg.block b hb (fun e => hn (.inr (keysL_mem.2 ⟨_, List.mem_of_getElem? hL, e⟩))), fun b hb h => ?_⟩
  rcases h with h | h
  ·exact .inl h
  ·obtain ⟨e, h2, h3⟩ := keysL_mem.1 h
   rcases List.mem_cons.1 h2 with rfl | h2
   ·exact .inr (keysL_mem.2 ⟨_, List.mem_of_getElem? hL, h3⟩)
   ·exact .inr (keysL_mem.2 ⟨e, List.mem_of_mem_eraseIdx h2, h3⟩)
 refine sUnit S hw hd (w' := w.setRow g (over cur.toList (j.toNat * r.sz + kf) [u]).toArray) ?_ (S.mem.put hL (eHole r T (.slice (some ⟨g, 0, none⟩) xs.length c) xs (j.toNat * r.sz + kf) u) hchg (fun b hb => .inl hb) (by simp [eHole, vkeys]) ?_) (fun a => k a _)
 ·simp only [execOp, ho, he, hex, Instr.storeAt, Instr.sureAddr, Sem.run_bind, Sem.run_pure, Result.andThen_ok, hst]
 ·refine ⟨vs, ha.mono hext, hlen, by omega, ?_⟩
  refine ⟨by rw [over_length (by rw [hfl]; simp; omega), hfl], .inr ⟨g, c, (over cur.toList (j.toNat * r.sz + kf) [u]).toArray, rfl, Nat.zero_le _, setRow_heap w g cur _ T _ hg, hnc, hcm, ?_, ?_⟩⟩
  ·simp only [List.size_toArray]; rw [over_length (by simp [hcs]; omega)]; simpa using hcs
  ·rw [over_take (by simp; omega) (by simp [hcs]; omega), htake]
theorem hole_slice {α : Type} {r : R α} {T : TypeId} {v : Value} {xs : List α} {p : Nat} {u : Value} {E : Nat → Prop} {w : World} (h : (eHole r T v xs p u).p E w) : ∃ g c, v = .slice (some ⟨g, 0, none⟩) xs.length c ∧ w.cell? ⟨g, p, none⟩ = some u := by
 obtain ⟨vs, ha, _, hp, hown⟩ := h
 have hfl := flat_length (fun v hv => (ha.cells v hv).1)
 rw [ha.1] at hfl
 rcases hown.2 with ⟨_, h0⟩ | ⟨g, cap, cur, rfl, _⟩
 ·rw [h0] at hp; omega
 ·refine ⟨g, cap, rfl, ?_⟩
  rw [hown.cellAt _ hp, over_get (by rw [hfl]; simp; omega), if_pos (by simp), Nat.sub_self]
  rfl
theorem pIdxH {α : Type} {r : R α} {T : TypeId} {xs : List α} {x : α} {v : Value} {p : Nat} {u : Value} {j : Int} (t e i : Nat) (S : St dq E M w0 n a w F L D) (ht : P.underlying t = some (.slice e)) (hs : cellsB P e = some r.sz) (hL : L[i]? = some (eHole r T v xs p u)) (hx : idxO xs j = some x) :
 ∃ q, IdxV P t v j q ∧ OwnP r.sz v q j.toNat := by
 obtain ⟨h0, h1, h2⟩ := idxO_some hx
 obtain ⟨g, c, rfl, _⟩ := hole_slice (S.mem.at hL)
 refine ⟨_, fun k w => ?_, ⟨g, _, c, rfl, rfl⟩⟩
 have := run_indexAt (P := P) ht hs (b := g) (off := 0) (c := c) (k := k) h0 h1 w
 simpa using this
theorem sLoadH {α : Type} {r : R α} {T : TypeId} {xs : List α} {u : Value} {t : TypeId} {q : Operand} {v vq : Value} {j : Int} (i kf : Nat) (S : St dq E M w0 n a w F L D) (hp : OwnF r.sz v vq j.toNat kf)
 (hw : ∀ a, Frm dq n a F → Region.wanted o (yielded ops a.tmps) = true) (ho : o.op = .load t q) (hq : lookO F q = some vq) (hL : L[i]? = some (eHole r T v xs (j.toNat * r.sz + kf) u)) (ht : aggB P t = some false) (hd : o.dst = some d) (hn : d < n)
 (k : ∀ a, St dq E M w0 n a w ((d, u) :: F) L D → wpList P ops Q rest a w) : wpList P ops Q (o :: rest) a w := by
 obtain ⟨g, c, rfl, hcell⟩ := hole_slice (S.mem.at hL)
 obtain ⟨g', m', c', e1, rfl⟩ := hp
 cases e1
 have he := S.frm.eval hq
 exact sVal S hw hd hn (by simp [execOp, ho, he, Instr.loadAt, Instr.sureAddr, loadVar, run_isAgg ht, hcell]) S.mem k
theorem St0.closeH {α β : Type} {r : R α} {s : R β} {T : TypeId} {xs ys : List α} {x y : α} {z : β} {v u : Value} {j : Int} (i kf : Nat) (S : St0 E M w0 w L D) (hL : L[i]? = some (eHole r T v xs (j.toNat * r.sz + kf) u)) (hu0 : (fRep s u z).p (tot E L) w) (hc : u.cells.toList = [u]) (hk : kf < r.sz) (hix : idxO xs j = some x) (hup : Upd r s kf x z y) (hs : setO xs j y = some ys) :
 St0 E M w0 w (eRow r T v ys :: L.eraseIdx i) D := by
 obtain ⟨h0, h1, rfl⟩ := setO_some hs
 obtain ⟨_, _, hxj⟩ := idxO_some hix
 obtain ⟨vs, ha, hlen, hp, hown⟩ := S.at hL
 have hj : j.toNat < vs.length := by rw [ha.1]; exact h1
 have hvj : vs[j.toNat]? = some vs[j.toNat] := List.getElem?_eq_getElem hj
 have hrep := ha.2 _ _ _ hvj hxj
 have hsv := r.size hrep
 obtain ⟨v', hu, hcl, hle0⟩ := hup _ _ _ _ hrep hu0
 have hsz := r.size hu
 have hfl := flat_length (fun v hv => (ha.cells v hv).1)
 rw [ha.1] at hfl
 have hle : (j.toNat + 1) * r.sz ≤ xs.length * r.sz := Nat.mul_le_mul_right _ h1
 rw [Nat.add_mul, Nat.one_mul] at hle
 have heq : over (flat vs) (j.toNat * r.sz + kf) [u] = over (flat vs) (j.toNat * r.sz) v'.cells.toList := by
  rw [hcl, hc]
  refine (over_over (fun b hb => ?_) (by simp [hsv]; omega) (by simp [hsv, hfl]; omega)).symm
  have hb2 : b < r.sz := by simpa [hsv] using hb
  exact flat_get (fun v hv => (ha.cells v hv).1) hvj hb2
 have hext : Ext (tot E L) (tot E (eRow r T v (xs.set j.toNat y) :: L.eraseIdx i)) w w := by
  refine ⟨Nat.le_refl _, fun _ _ _ _ => rfl, fun b hb h => ?_⟩
  rcases h with h | h
  ·exact .inl h
  ·obtain ⟨e, h2, h3⟩ := keysL_mem.1 h
   rcases List.mem_cons.1 h2 with rfl | h2
   ·exact .inr (keysL_mem.2 ⟨_, List.mem_of_getElem? hL, h3⟩)
   ·exact .inr (keysL_mem.2 ⟨e, List.mem_of_mem_eraseIdx h2, h3⟩)
 refine S.put hL (eRow r T v (xs.set j.toNat y)) (Chg.refl _ _) (fun b hb => .inl hb) ?_ ?_
 ·cases v <;> simp [eRow, vkeys]
  rename_i a _ _
  cases a <;> simp
 ·refine ⟨vs.set j.toNat v', (ha.mono hext).set _ (r.mono hext hu), by simpa using hlen, ?_⟩
  rw [flat_set (fun v hv => (ha.cells v hv).1) hj hsz, ← heq, List.length_set]
  exact hown
theorem St.closeH {α β : Type} {r : R α} {s : R β} {T : TypeId} {xs ys : List α} {x y : α} {z : β} {v u : Value} {j : Int} (i kf : Nat) (S : St dq E M w0 n a w F L D) (hL : L[i]? = some (eHole r T v xs (j.toNat * r.sz + kf) u)) (hu0 : (fRep s u z).p (tot E L) w) (hc : u.cells.toList = [u]) (hk : kf < r.sz) (hix : idxO xs j = some x) (hup : Upd r s kf x z y) (hs : setO xs j y = some ys) :
 St dq E M w0 n a w F (eRow r T v ys :: L.eraseIdx i) D := ⟨S.frm, S.mem.closeH i kf hL hu0 hc hk hix hup hs⟩
end
section
variable {P : Program} {dq : List Deferred} {E : Nat → Prop} {M : List Nat} {w0 : World} {n : Nat} {a : Act} {w : World} {F : List (Nat × Value)} {L : List Ent} {D : List Fact} {Q : Exit → Act → World → Prop}
variable {ops : Array Oper} {rest : List Oper} {o : Oper} {d : Nat}
theorem hole_at {α : Type} {r : R α} {T : TypeId} {v : Value} {xs : List α} {p : Nat} {u : Value} {E : Nat → Prop} {w : World} (h : (eHole r T v xs p u).p E w) {j : Nat} {x : α} (hx : xs[j]? = some x) (hr : Scal r) (hne : j * r.sz ≠ p) :
 ∃ g c z, v = .slice (some ⟨g, 0, none⟩) xs.length c ∧ r.rep E w z x ∧ w.cell? ⟨g, j * r.sz, none⟩ = some z := by
 obtain ⟨vs, ha, _, hp, hown⟩ := h
 have hlx := (List.getElem?_eq_some_iff.1 hx).1
 have hj : j < vs.length := by rw [ha.1]; exact hlx
 have hu : vs[j]? = some vs[j] := List.getElem?_eq_getElem hj
 have hrep := ha.2 j _ x hu hx
 have hsz := r.size hrep
 have hfl := flat_length (fun v hv => (ha.cells v hv).1)
 rw [ha.1] at hfl
 rcases hown.2 with ⟨_, h0⟩ | ⟨g, cap, cur, rfl, _⟩
 ·omega
 ·refine ⟨g, cap, vs[j], rfl, hrep, ?_⟩
  have hlt : (j + 1) * r.sz ≤ xs.length * r.sz := Nat.mul_le_mul_right _ hlx
  have hpos := r.pos
  rw [Nat.add_mul, Nat.one_mul] at hlt
  rw [hown.cellAt _ (by omega), over_get (by rw [hfl]; simp; omega), if_neg (by simp; omega)]
  have := flat_get (fun v hv => (ha.cells v hv).1) hu (j := 0) hpos
  rw [Nat.add_zero] at this
  rw [this, hr _ _ _ _ hrep]
  rfl
theorem sLoadHo {α : Type} {r : R α} {T : TypeId} {xs : List α} {x : α} {p : Nat} {u : Value} {t : TypeId} {q : Operand} {v vq : Value} {j : Int} (i : Nat) (S : St dq E M w0 n a w F L D) (hp : OwnP r.sz v vq j.toNat)
 (hw : ∀ a, Frm dq n a F → Region.wanted o (yielded ops a.tmps) = true) (ho : o.op = .load t q) (hq : lookO F q = some vq) (hL : L[i]? = some (eHole r T v xs p u)) (hx : idxO xs j = some x) (hne : j.toNat * r.sz ≠ p) (hr : Scal r) (ht : aggB P t = some false) (hd : o.dst = some d) (hn : d < n)
 (k : ∀ a z, St dq E M w0 n a w ((d, z) :: F) L (fRep r z x :: D) → wpList P ops Q rest a w) : wpList P ops Q (o :: rest) a w := by
 obtain ⟨h0, h1, h2⟩ := idxO_some hx
 obtain ⟨g, c, z, rfl, hrep, hcell⟩ := hole_at (S.mem.at hL) h2 hr hne
 obtain ⟨g', m', c', e1, rfl⟩ := hp
 cases e1
 have he := S.frm.eval hq
 exact sVal S hw hd hn (by simp [execOp, ho, he, Instr.loadAt, Instr.sureAddr, loadVar, run_isAgg ht, hcell]) (S.mem.learn _ hrep) (fun a => k a z)
theorem sStoreHE {α : Type} {r : R α} {T : TypeId} {xs : List α} {x : α} {t : TypeId} {q xo : Operand} {v vq u : Value} {j : Int} (i : Nat) (S : St dq E M w0 n a w F L D) (hp : OwnP r.sz v vq j.toNat)
 (hw : ∀ a, Frm dq n a F → Region.wanted o (yielded ops a.tmps) = true) (ho : o.op = .store t q xo) (hq : lookO F q = some vq) (hxo : lookO F xo = some u) (hL : L[i]? = some (eRow r T v xs)) (hix : idxO xs j = some x) (hc : u.cells.toList = [u]) (h1 : u.oneCell' = true) (hm : cellsB P t = some 1) (hd : o.dst = none)
 (k : ∀ a w, St dq E M w0 n a w F (eHole r T v xs (j.toNat * r.sz + 0) u :: L.eraseIdx i) D → wpList P ops Q rest a w) : wpList P ops Q (o :: rest) a w := by
 obtain ⟨g, m, c, e1, e2⟩ := hp
 exact sStoreH (x := x) i 0 S ⟨g, m, c, e1, by rw [e2, Nat.add_zero]⟩ hw ho hq hxo hL hix r.pos hc h1 hm hd k
theorem sLoadHE {α : Type} {r : R α} {T : TypeId} {xs : List α} {u : Value} {t : TypeId} {q : Operand} {v vq : Value} {j : Int} (i : Nat) (S : St dq E M w0 n a w F L D) (hp : OwnP r.sz v vq j.toNat)
 (hw : ∀ a, Frm dq n a F → Region.wanted o (yielded ops a.tmps) = true) (ho : o.op = .load t q) (hq : lookO F q = some vq) (hL : L[i]? = some (eHole r T v xs (j.toNat * r.sz + 0) u)) (ht : aggB P t = some false) (hd : o.dst = some d) (hn : d < n)
 (k : ∀ a, St dq E M w0 n a w ((d, u) :: F) L D → wpList P ops Q rest a w) : wpList P ops Q (o :: rest) a w := by
 obtain ⟨g, m, c, e1, e2⟩ := hp
 exact sLoadH i 0 S ⟨g, m, c, e1, by rw [e2, Nat.add_zero]⟩ hw ho hq hL ht hd hn k
theorem St.closeHE {α : Type} {r : R α} {T : TypeId} {xs ys : List α} {x y : α} {v u : Value} {j : Int} (i : Nat) (S : St dq E M w0 n a w F L D) (hL : L[i]? = some (eHole r T v xs (j.toNat * r.sz + 0) u)) (hu0 : (fRep r u y).p (tot E L) w) (hc : u.cells.toList = [u]) (hr : Scal r) (hix : idxO xs j = some x) (hs : setO xs j y = some ys) :
 St dq E M w0 n a w F (eRow r T v ys :: L.eraseIdx i) D := by
 refine S.closeH (s := r) (z := y) i 0 hL hu0 hc r.pos hix ?_ hs
 intro E w v z hv hz
 refine ⟨z, hz, ?_, ?_⟩
 ·rw [hr _ _ _ _ hv, hr _ _ _ _ hz]; rfl
 ·simp
end
section
variable {P : Program} {dq : List Deferred} {E : Nat → Prop} {M : List Nat} {w0 : World} {n : Nat} {a : Act} {w : World} {F : List (Nat × Value)} {L : List Ent} {D : List Fact} {Q : Exit → Act → World → Prop}
variable {ops : Array Oper} {rest : List Oper} {o : Oper} {d : Nat}
theorem sIndexAL {α : Type} {r : R α} {t e : TypeId} {x ix : Operand} {xs : List α} {k : IntKind} {j : Int} {y : α} (m : Nat) (cs : List Value) (is : List Nat) (S : St dq E M w0 n a w F L D)
 (hw : ∀ a, Frm dq n a F → Region.wanted o (yielded ops a.tmps) = true) (ho : o.op = .index t x ix) (ht : P.underlying t = some (.array m e)) (he : aggB P e = some false) (hs : cellsB P e = some 1) (hx : lookO F x = some (.agg cs.toArray)) (hj : lookO F ix = some (.int k j))
 (hm : xs.length = m) (hy : idxO xs j = some y) (hcx : cs.length = xs.length) (hi : is.map (fun i => D[i]?) = (cs.zip xs).map (fun q => some (fRep r q.1 q.2))) (hd : o.dst = some d) (hn : d < n)
 (K : ∀ a u, St dq E M w0 n a w ((d, u) :: F) L (fRep r u y :: D) → wpList P ops Q rest a w) : wpList P ops Q (o :: rest) a w := by
 have h1 := S.frm.eval hx
 have h2 := S.frm.eval hj
 obtain ⟨h0, hlt, hget⟩ := idxO_some hy
 subst hm
 have hlt2 : j < (xs.length : Int) := by omega
 have hc : cs[j.toNat]? = some (cs[j.toNat]'(by omega)) := List.getElem?_eq_getElem _
 have hz : (cs.zip xs)[j.toNat]? = some (cs[j.toNat]'(by omega), y) := by
  rw [List.getElem?_zip_eq_some]
  exact ⟨hc, hget⟩
 have hil : is.length = (cs.zip xs).length := by simpa using congrArg List.length hi
 have hii : ∃ i, is[j.toNat]? = some i ∧ D[i]? = some (fRep r (cs[j.toNat]'(by omega)) y) := by
  have hj2 : j.toNat < is.length := by rw [hil]; exact (List.getElem?_eq_some_iff.1 hz).1
  refine ⟨is[j.toNat], List.getElem?_eq_getElem hj2, ?_⟩
  have := congrArg (fun l => l[j.toNat]?) hi
  simp only [List.getElem?_map, List.getElem?_eq_getElem hj2, hz, Option.map_some, Option.some.injEq] at this
  exact this
 obtain ⟨i, _, hDi⟩ := hii
 refine sVal S hw hd hn ?_ (S.mem.learn (fRep r (cs[j.toNat]'(by omega)) y) (S.mem.know hDi)) (fun a => K a _)
 simp [execOp, ho, h1, h2, Instr.index, run_underlying ht, asIntOf, h0, hlt2, part, run_isAgg he, run_sizeOf' hs, hc]
end
section
variable {P : Program} {dq : List Deferred} {E : Nat → Prop} {M : List Nat} {w0 : World} {n : Nat} {a : Act} {w : World} {F : List (Nat × Value)} {L : List Ent} {D : List Fact} {Q : Exit → Act → World → Prop}
variable {ops : Array Oper} {rest : List Oper} {o : Oper} {d : Nat}
end
def max4 (p q r s : Int) : Int := if max3 p q r < s then s else max3 p q r
theorem idx_next {α : Type} {xs : List α} {j : Int} {x y : α} {sz : Nat} (hs : 0 < sz) (hl : xs.length ≤ 68719476736) (h : idxO xs j = some x) (_ : idxO xs (w64 (j + 1)) = some y) : (w64 (j + 1)).toNat * sz ≠ j.toNat * sz + 0 := by
 obtain ⟨h0, h1, _⟩ := idxO_some h
 have e : w64 (j + 1) = j + 1 := w64_id ⟨by omega, by omega⟩
 rw [e]
 intro hc
 have e2 : (j + 1).toNat = j.toNat + 1 := by omega
 rw [e2, Nat.add_mul] at hc
 omega
section
variable {P : Program} {dq : List Deferred} {E : Nat → Prop} {M : List Nat} {w0 : World} {n : Nat} {a : Act} {w : World} {F : List (Nat × Value)} {L : List Ent} {D : List Fact} {Q : Exit → Act → World → Prop}
variable {ops : Array Oper} {rest : List Oper} {o : Oper} {d : Nat}
theorem sMax4 {ts : Array TypeId} {x y z u : Operand} {p q r s : Int} (S : St dq E M w0 n a w F L D)
 (hw : ∀ a, Frm dq n a F → Region.wanted o (yielded ops a.tmps) = true) (ho : o.op = .call { callee := .builtin .max, args := #[x, y, z, u], argTypes := ts }) (hx : lookO F x = some (.int .i64 p)) (hy : lookO F y = some (.int .i64 q)) (hz : lookO F z = some (.int .i64 r)) (hu : lookO F u = some (.int .i64 s)) (hd : o.dst = some d) (hn : d < n)
 (k : ∀ a, St dq E M w0 n a w ((d, .int .i64 (max4 p q r s)) :: F) L D → wpList P ops Q rest a w) : wpList P ops Q (o :: rest) a w := by
 have hex := S.frm.eval hx
 have hey := S.frm.eval hy
 have hez := S.frm.eval hz
 have heu := S.frm.eval hu
 exact sVal S hw hd hn (by simp [execOp, ho, hex, hey, hez, heu, resolve, invoke, builtin, Builtin.max_, Builtin.max2, max3, max4]; first | rfl | congr) S.mem k
theorem hole_lim {α : Type} {r : R α} {T : TypeId} {v : Value} {xs : List α} {p : Nat} {u : Value} (i : Nat) (S : St0 E M w0 w L D) (hL : L[i]? = some (eHole r T v xs p u)) : xs.length ≤ 68719476736 := by
 obtain ⟨_, _, h, _⟩ := S.at hL
 exact h
end
structure api_Grid where
 W : Int
 H : Int
 Bits : (List Bool)
def r_api_Grid : R api_Grid where
 sz := 3
 rep := fun E w v x => ∃ v0, v = .agg #[.int .i64 x.W, .int .i64 x.H, v0] ∧ (rL rB).rep E w v0 x.Bits
 pos := by decide
 size := by rintro _ _ _ _ ⟨v0, rfl, h0⟩; rfl
 one := by
  rintro _ _ _ _ ⟨v0, rfl, h0⟩ u hu
  simp [Value.cells] at hu
  rcases hu with rfl | rfl | rfl
  ·rfl
  ·rfl
  ·exact (rL rB).one h0 _ (by rw [scal_L _ _ _ _ _ h0]; simp)
 mono := by
  rintro _ _ _ _ _ _ h ⟨v0, e, h0⟩
  exact ⟨v0, e, (rL rB).mono h h0⟩
theorem comp_api_Grid_W : Comp r_api_Grid (rI .i64) 0 (·.W) := by
 rintro _ _ _ x ⟨v0, rfl, h0⟩
 refine ⟨.int .i64 x.W, rfl, fun j c hj => ?_⟩
 match j, hj with
 | 0, hj => exact hj
 | j + 1, hj => exact absurd (List.getElem?_eq_some_iff.1 hj).1 (by simp [Value.cells])
theorem comp_api_Grid_H : Comp r_api_Grid (rI .i64) 1 (·.H) := by
 rintro _ _ _ x ⟨v0, rfl, h0⟩
 refine ⟨.int .i64 x.H, rfl, fun j c hj => ?_⟩
 match j, hj with
 | 0, hj => exact hj
 | j + 1, hj => exact absurd (List.getElem?_eq_some_iff.1 hj).1 (by simp [Value.cells])
theorem comp_api_Grid_Bits : Comp r_api_Grid (rL rB) 2 (·.Bits) := by
 rintro _ _ _ x ⟨v0, rfl, h0⟩
 refine ⟨v0, h0, fun j c hj => ?_⟩
 rw [scal_L _ _ _ _ _ h0] at hj
 match j, hj with
 | 0, hj => exact hj
 | j + 1, hj => exact absurd (List.getElem?_eq_some_iff.1 hj).1 (by simp)
structure api_Point where
 X : Int
 Y : Int
def r_api_Point : R api_Point where
 sz := 2
 rep := fun E w v x => v = .agg #[.int .i64 x.X, .int .i64 x.Y]
 pos := by decide
 size := by rintro _ _ _ _ rfl; rfl
 one := by
  rintro _ _ _ _ rfl u hu
  simp [Value.cells] at hu
  rcases hu with rfl | rfl
  ·rfl
  ·rfl
 mono := fun _ h => h
structure compare_way where
 op : Int
 at_ : api_Point
def r_compare_way : R compare_way where
 sz := 3
 rep := fun E w v x => v = .agg #[.int .i64 x.op, .int .i64 x.at_.X, .int .i64 x.at_.Y]
 pos := by decide
 size := by rintro _ _ _ _ rfl; rfl
 one := by
  rintro _ _ _ _ rfl u hu
  simp [Value.cells] at hu
  rcases hu with rfl | rfl | rfl
  ·rfl
  ·rfl
  ·rfl
 mono := fun _ h => h
structure api_Stitch where
 Kind : Int
 Purl : Bool
 A : Int
 B : Int
def r_api_Stitch : R api_Stitch where
 sz := 4
 rep := fun E w v x => v = .agg #[.int .u8 x.Kind, .bool x.Purl, .int .i64 x.A, .int .i64 x.B]
 pos := by decide
 size := by rintro _ _ _ _ rfl; rfl
 one := by
  rintro _ _ _ _ rfl u hu
  simp [Value.cells] at hu
  rcases hu with rfl | rfl | rfl | rfl
  ·rfl
  ·rfl
  ·rfl
  ·rfl
 mono := fun _ h => h
theorem comp_api_Stitch_Kind : Comp r_api_Stitch (rI .u8) 0 (·.Kind) := by
 rintro _ _ _ x rfl
 refine ⟨.int .u8 x.Kind, rfl, fun j c hj => ?_⟩
 match j, hj with
 | 0, hj => exact hj
 | j + 1, hj => exact absurd (List.getElem?_eq_some_iff.1 hj).1 (by simp [Value.cells])
structure api_Row where
 Back : Bool
 Cells : (List api_Stitch)
def r_api_Row : R api_Row where
 sz := 2
 rep := fun E w v x => ∃ v0, v = .agg #[.bool x.Back, v0] ∧ (rL r_api_Stitch).rep E w v0 x.Cells
 pos := by decide
 size := by rintro _ _ _ _ ⟨v0, rfl, h0⟩; rfl
 one := by
  rintro _ _ _ _ ⟨v0, rfl, h0⟩ u hu
  simp [Value.cells] at hu
  rcases hu with rfl | rfl
  ·rfl
  ·exact (rL r_api_Stitch).one h0 _ (by rw [scal_L _ _ _ _ _ h0]; simp)
 mono := by
  rintro _ _ _ _ _ _ h ⟨v0, e, h0⟩
  exact ⟨v0, e, (rL r_api_Stitch).mono h h0⟩
theorem comp_api_Row_Back : Comp r_api_Row rB 0 (·.Back) := by
 rintro _ _ _ x ⟨v0, rfl, h0⟩
 refine ⟨.bool x.Back, rfl, fun j c hj => ?_⟩
 match j, hj with
 | 0, hj => exact hj
 | j + 1, hj => exact absurd (List.getElem?_eq_some_iff.1 hj).1 (by simp [Value.cells])
theorem comp_api_Row_Cells : Comp r_api_Row (rL r_api_Stitch) 1 (·.Cells) := by
 rintro _ _ _ x ⟨v0, rfl, h0⟩
 refine ⟨v0, h0, fun j c hj => ?_⟩
 rw [scal_L _ _ _ _ _ h0] at hj
 match j, hj with
 | 0, hj => exact hj
 | j + 1, hj => exact absurd (List.getElem?_eq_some_iff.1 hj).1 (by simp)
structure api_Chart where
 Start : Int
 Rows : (List api_Row)
def r_api_Chart : R api_Chart where
 sz := 2
 rep := fun E w v x => ∃ v0, v = .agg #[.int .i64 x.Start, v0] ∧ (rL r_api_Row).rep E w v0 x.Rows
 pos := by decide
 size := by rintro _ _ _ _ ⟨v0, rfl, h0⟩; rfl
 one := by
  rintro _ _ _ _ ⟨v0, rfl, h0⟩ u hu
  simp [Value.cells] at hu
  rcases hu with rfl | rfl
  ·rfl
  ·exact (rL r_api_Row).one h0 _ (by rw [scal_L _ _ _ _ _ h0]; simp)
 mono := by
  rintro _ _ _ _ _ _ h ⟨v0, e, h0⟩
  exact ⟨v0, e, (rL r_api_Row).mono h h0⟩
theorem comp_api_Chart_Start : Comp r_api_Chart (rI .i64) 0 (·.Start) := by
 rintro _ _ _ x ⟨v0, rfl, h0⟩
 refine ⟨.int .i64 x.Start, rfl, fun j c hj => ?_⟩
 match j, hj with
 | 0, hj => exact hj
 | j + 1, hj => exact absurd (List.getElem?_eq_some_iff.1 hj).1 (by simp [Value.cells])
theorem comp_api_Chart_Rows : Comp r_api_Chart (rL r_api_Row) 1 (·.Rows) := by
 rintro _ _ _ x ⟨v0, rfl, h0⟩
 refine ⟨v0, h0, fun j c hj => ?_⟩
 rw [scal_L _ _ _ _ _ h0] at hj
 match j, hj with
 | 0, hj => exact hj
 | j + 1, hj => exact absurd (List.getElem?_eq_some_iff.1 hj).1 (by simp)
structure chart_count where
 before : Int
 after : Int
 e : Int
def r_chart_count : R chart_count where
 sz := 3
 rep := fun E w v x => v = .agg #[.int .i64 x.before, .int .i64 x.after, .int .i64 x.e]
 pos := by decide
 size := by rintro _ _ _ _ rfl; rfl
 one := by
  rintro _ _ _ _ rfl u hu
  simp [Value.cells] at hu
  rcases hu with rfl | rfl | rfl
  ·rfl
  ·rfl
  ·rfl
 mono := fun _ h => h
theorem comp_chart_count_after : Comp r_chart_count (rI .i64) 1 (·.after) := by
 rintro _ _ _ x rfl
 refine ⟨.int .i64 x.after, rfl, fun j c hj => ?_⟩
 match j, hj with
 | 0, hj => exact hj
 | j + 1, hj => exact absurd (List.getElem?_eq_some_iff.1 hj).1 (by simp [Value.cells])
theorem comp_chart_count_e : Comp r_chart_count (rI .i64) 2 (·.e) := by
 rintro _ _ _ x rfl
 refine ⟨.int .i64 x.e, rfl, fun j c hj => ?_⟩
 match j, hj with
 | 0, hj => exact hj
 | j + 1, hj => exact absurd (List.getElem?_eq_some_iff.1 hj).1 (by simp [Value.cells])
def r_A2_Int : R (Int × Int) where
 sz := 2
 rep := fun E w v x => v = .agg #[.int .i64 x.1, .int .i64 x.2]
 pos := by decide
 size := by rintro _ _ _ _ rfl; rfl
 one := by
  rintro _ _ _ _ rfl u hu
  simp [Value.cells] at hu
  rcases hu with rfl | rfl
  ·rfl
  ·rfl
 mono := fun _ h => h
structure stitch_form where
 letter : ByteArray
 a : (Int × Int)
 b : (Int × Int)
 sided : Bool
 uses : Int
 made : Int
def r_stitch_form : R stitch_form where
 sz := 8
 rep := fun E w v x => v = .agg #[.string x.letter, .int .i64 x.a.1, .int .i64 x.a.2, .int .i64 x.b.1, .int .i64 x.b.2, .bool x.sided, .int .i64 x.uses, .int .i64 x.made]
 pos := by decide
 size := by rintro _ _ _ _ rfl; rfl
 one := by
  rintro _ _ _ _ rfl u hu
  simp [Value.cells] at hu
  rcases hu with rfl | rfl | rfl | rfl | rfl | rfl | rfl | rfl
  ·rfl
  ·rfl
  ·rfl
  ·rfl
  ·rfl
  ·rfl
  ·rfl
  ·rfl
 mono := fun _ h => h
structure api_CellStep where
 Kind : Int
 S : api_Stitch
def r_api_CellStep : R api_CellStep where
 sz := 5
 rep := fun E w v x => v = .agg #[.int .u8 x.Kind, .int .u8 x.S.Kind, .bool x.S.Purl, .int .i64 x.S.A, .int .i64 x.S.B]
 pos := by decide
 size := by rintro _ _ _ _ rfl; rfl
 one := by
  rintro _ _ _ _ rfl u hu
  simp [Value.cells] at hu
  rcases hu with rfl | rfl | rfl | rfl | rfl
  ·rfl
  ·rfl
  ·rfl
  ·rfl
  ·rfl
 mono := fun _ h => h
theorem comp_api_CellStep_Kind : Comp r_api_CellStep (rI .u8) 0 (·.Kind) := by
 rintro _ _ _ x rfl
 refine ⟨.int .u8 x.Kind, rfl, fun j c hj => ?_⟩
 match j, hj with
 | 0, hj => exact hj
 | j + 1, hj => exact absurd (List.getElem?_eq_some_iff.1 hj).1 (by simp [Value.cells])
def gl_stitch_form (x : stitch_form) : List Value := [.string x.letter, .int .i64 x.a.1, .int .i64 x.a.2, .int .i64 x.b.1, .int .i64 x.b.2, .bool x.sided, .int .i64 x.uses, .int .i64 x.made]
def gv_stitch_form (x : stitch_form) : Value := .agg (gl_stitch_form x).toArray
theorem callee14 : ∀ vs w, (callFunc 14 vs).run Try.prog w = .ok (.enter 14 vs) w := callee Try.func14 rfl rfl
theorem callee16 : ∀ vs w, (callFunc 16 vs).run Try.prog w = .ok (.enter 16 vs) w := callee Try.func16 rfl rfl
theorem callee20 : ∀ vs w, (callFunc 20 vs).run Try.prog w = .ok (.enter 20 vs) w := callee Try.func20 rfl rfl
theorem callee22 : ∀ vs w, (callFunc 22 vs).run Try.prog w = .ok (.enter 22 vs) w := callee Try.func22 rfl rfl
theorem callee23 : ∀ vs w, (callFunc 23 vs).run Try.prog w = .ok (.enter 23 vs) w := callee Try.func23 rfl rfl
theorem callee25 : ∀ vs w, (callFunc 25 vs).run Try.prog w = .ok (.enter 25 vs) w := callee Try.func25 rfl rfl
theorem callee27 : ∀ vs w, (callFunc 27 vs).run Try.prog w = .ok (.enter 27 vs) w := callee Try.func27 rfl rfl
theorem callee29 : ∀ vs w, (callFunc 29 vs).run Try.prog w = .ok (.enter 29 vs) w := callee Try.func29 rfl rfl
theorem callee30 : ∀ vs w, (callFunc 30 vs).run Try.prog w = .ok (.enter 30 vs) w := callee Try.func30 rfl rfl
theorem callee31 : ∀ vs w, (callFunc 31 vs).run Try.prog w = .ok (.enter 31 vs) w := callee Try.func31 rfl rfl
theorem callee33 : ∀ vs w, (callFunc 33 vs).run Try.prog w = .ok (.enter 33 vs) w := callee Try.func33 rfl rfl
theorem callee34 : ∀ vs w, (callFunc 34 vs).run Try.prog w = .ok (.enter 34 vs) w := callee Try.func34 rfl rfl
theorem callee38 : ∀ vs w, (callFunc 38 vs).run Try.prog w = .ok (.enter 38 vs) w := callee Try.func38 rfl rfl
theorem callee39 : ∀ vs w, (callFunc 39 vs).run Try.prog w = .ok (.enter 39 vs) w := callee Try.func39 rfl rfl
theorem callee41 : ∀ vs w, (callFunc 41 vs).run Try.prog w = .ok (.enter 41 vs) w := callee Try.func41 rfl rfl
theorem callee42 : ∀ vs w, (callFunc 42 vs).run Try.prog w = .ok (.enter 42 vs) w := callee Try.func42 rfl rfl
theorem callee43 : ∀ vs w, (callFunc 43 vs).run Try.prog w = .ok (.enter 43 vs) w := callee Try.func43 rfl rfl
theorem callee44 : ∀ vs w, (callFunc 44 vs).run Try.prog w = .ok (.enter 44 vs) w := callee Try.func44 rfl rfl
theorem callee45 : ∀ vs w, (callFunc 45 vs).run Try.prog w = .ok (.enter 45 vs) w := callee Try.func45 rfl rfl
theorem callee46 : ∀ vs w, (callFunc 46 vs).run Try.prog w = .ok (.enter 46 vs) w := callee Try.func46 rfl rfl
theorem callee49 : ∀ vs w, (callFunc 49 vs).run Try.prog w = .ok (.enter 49 vs) w := callee Try.func49 rfl rfl
theorem callee50 : ∀ vs w, (callFunc 50 vs).run Try.prog w = .ok (.enter 50 vs) w := callee Try.func50 rfl rfl
theorem callee51 : ∀ vs w, (callFunc 51 vs).run Try.prog w = .ok (.enter 51 vs) w := callee Try.func51 rfl rfl
theorem callee52 : ∀ vs w, (callFunc 52 vs).run Try.prog w = .ok (.enter 52 vs) w := callee Try.func52 rfl rfl
theorem callee53 : ∀ vs w, (callFunc 53 vs).run Try.prog w = .ok (.enter 53 vs) w := callee Try.func53 rfl rfl
theorem callee54 : ∀ vs w, (callFunc 54 vs).run Try.prog w = .ok (.enter 54 vs) w := callee Try.func54 rfl rfl
theorem callee56 : ∀ vs w, (callFunc 56 vs).run Try.prog w = .ok (.enter 56 vs) w := callee Try.func56 rfl rfl
theorem callee58 : ∀ vs w, (callFunc 58 vs).run Try.prog w = .ok (.enter 58 vs) w := callee Try.func58 rfl rfl
theorem callee60 : ∀ vs w, (callFunc 60 vs).run Try.prog w = .ok (.enter 60 vs) w := callee Try.func60 rfl rfl
theorem callee61 : ∀ vs w, (callFunc 61 vs).run Try.prog w = .ok (.enter 61 vs) w := callee Try.func61 rfl rfl
theorem callee62 : ∀ vs w, (callFunc 62 vs).run Try.prog w = .ok (.enter 62 vs) w := callee Try.func62 rfl rfl
theorem callee63 : ∀ vs w, (callFunc 63 vs).run Try.prog w = .ok (.enter 63 vs) w := callee Try.func63 rfl rfl
theorem callee64 : ∀ vs w, (callFunc 64 vs).run Try.prog w = .ok (.enter 64 vs) w := callee Try.func64 rfl rfl
theorem callee65 : ∀ vs w, (callFunc 65 vs).run Try.prog w = .ok (.enter 65 vs) w := callee Try.func65 rfl rfl
theorem callee66 : ∀ vs w, (callFunc 66 vs).run Try.prog w = .ok (.enter 66 vs) w := callee Try.func66 rfl rfl
theorem callee67 : ∀ vs w, (callFunc 67 vs).run Try.prog w = .ok (.enter 67 vs) w := callee Try.func67 rfl rfl
theorem callee73 : ∀ vs w, (callFunc 73 vs).run Try.prog w = .ok (.enter 73 vs) w := callee Try.func73 rfl rfl
theorem callee74 : ∀ vs w, (callFunc 74 vs).run Try.prog w = .ok (.enter 74 vs) w := callee Try.func74 rfl rfl
theorem callee75 : ∀ vs w, (callFunc 75 vs).run Try.prog w = .ok (.enter 75 vs) w := callee Try.func75 rfl rfl
theorem callee76 : ∀ vs w, (callFunc 76 vs).run Try.prog w = .ok (.enter 76 vs) w := callee Try.func76 rfl rfl
theorem callee77 : ∀ vs w, (callFunc 77 vs).run Try.prog w = .ok (.enter 77 vs) w := callee Try.func77 rfl rfl
theorem callee78 : ∀ vs w, (callFunc 78 vs).run Try.prog w = .ok (.enter 78 vs) w := callee Try.func78 rfl rfl
theorem callee79 : ∀ vs w, (callFunc 79 vs).run Try.prog w = .ok (.enter 79 vs) w := callee Try.func79 rfl rfl
theorem callee81 : ∀ vs w, (callFunc 81 vs).run Try.prog w = .ok (.enter 81 vs) w := callee Try.func81 rfl rfl
theorem callee82 : ∀ vs w, (callFunc 82 vs).run Try.prog w = .ok (.enter 82 vs) w := callee Try.func82 rfl rfl
theorem callee83 : ∀ vs w, (callFunc 83 vs).run Try.prog w = .ok (.enter 83 vs) w := callee Try.func83 rfl rfl
theorem callee84 : ∀ vs w, (callFunc 84 vs).run Try.prog w = .ok (.enter 84 vs) w := callee Try.func84 rfl rfl
theorem callee85 : ∀ vs w, (callFunc 85 vs).run Try.prog w = .ok (.enter 85 vs) w := callee Try.func85 rfl rfl
theorem callee86 : ∀ vs w, (callFunc 86 vs).run Try.prog w = .ok (.enter 86 vs) w := callee Try.func86 rfl rfl
theorem callee87 : ∀ vs w, (callFunc 87 vs).run Try.prog w = .ok (.enter 87 vs) w := callee Try.func87 rfl rfl
theorem callee88 : ∀ vs w, (callFunc 88 vs).run Try.prog w = .ok (.enter 88 vs) w := callee Try.func88 rfl rfl
theorem callee89 : ∀ vs w, (callFunc 89 vs).run Try.prog w = .ok (.enter 89 vs) w := callee Try.func89 rfl rfl
theorem callee90 : ∀ vs w, (callFunc 90 vs).run Try.prog w = .ok (.enter 90 vs) w := callee Try.func90 rfl rfl
theorem callee92 : ∀ vs w, (callFunc 92 vs).run Try.prog w = .ok (.enter 92 vs) w := callee Try.func92 rfl rfl
theorem callee93 : ∀ vs w, (callFunc 93 vs).run Try.prog w = .ok (.enter 93 vs) w := callee Try.func93 rfl rfl
theorem callee94 : ∀ vs w, (callFunc 94 vs).run Try.prog w = .ok (.enter 94 vs) w := callee Try.func94 rfl rfl
theorem callee95 : ∀ vs w, (callFunc 95 vs).run Try.prog w = .ok (.enter 95 vs) w := callee Try.func95 rfl rfl
theorem callee96 : ∀ vs w, (callFunc 96 vs).run Try.prog w = .ok (.enter 96 vs) w := callee Try.func96 rfl rfl
theorem callee97 : ∀ vs w, (callFunc 97 vs).run Try.prog w = .ok (.enter 97 vs) w := callee Try.func97 rfl rfl
theorem callee98 : ∀ vs w, (callFunc 98 vs).run Try.prog w = .ok (.enter 98 vs) w := callee Try.func98 rfl rfl
theorem callee99 : ∀ vs w, (callFunc 99 vs).run Try.prog w = .ok (.enter 99 vs) w := callee Try.func99 rfl rfl
theorem callee100 : ∀ vs w, (callFunc 100 vs).run Try.prog w = .ok (.enter 100 vs) w := callee Try.func100 rfl rfl
theorem callee101 : ∀ vs w, (callFunc 101 vs).run Try.prog w = .ok (.enter 101 vs) w := callee Try.func101 rfl rfl
theorem callee102 : ∀ vs w, (callFunc 102 vs).run Try.prog w = .ok (.enter 102 vs) w := callee Try.func102 rfl rfl
theorem callee103 : ∀ vs w, (callFunc 103 vs).run Try.prog w = .ok (.enter 103 vs) w := callee Try.func103 rfl rfl
theorem callee104 : ∀ vs w, (callFunc 104 vs).run Try.prog w = .ok (.enter 104 vs) w := callee Try.func104 rfl rfl
theorem callee105 : ∀ vs w, (callFunc 105 vs).run Try.prog w = .ok (.enter 105 vs) w := callee Try.func105 rfl rfl
theorem callee106 : ∀ vs w, (callFunc 106 vs).run Try.prog w = .ok (.enter 106 vs) w := callee Try.func106 rfl rfl
theorem callee107 : ∀ vs w, (callFunc 107 vs).run Try.prog w = .ok (.enter 107 vs) w := callee Try.func107 rfl rfl
theorem callee108 : ∀ vs w, (callFunc 108 vs).run Try.prog w = .ok (.enter 108 vs) w := callee Try.func108 rfl rfl
theorem callee109 : ∀ vs w, (callFunc 109 vs).run Try.prog w = .ok (.enter 109 vs) w := callee Try.func109 rfl rfl
open Go.ChangeShapes Go.WideShapes Go.ChangeAt Go.Joins
def InK (k : IntKind) (x : Int) : Prop := (Lit.int k x).wf = true
theorem inK_u8 {x : Int} (h : InK .u8 x) : 0 ≤ x ∧ x ≤ 255 := by
 simpa [InK, Lit.wf, IntKind.min, IntKind.max, IntKind.signed, IntKind.bits] using h
def Wl {α : Type} (p : α → Prop) (xs : List α) : Prop := xs.length ≤ 9223372036854775807 ∧ ∀ x, x ∈ xs → p x
def OpC {α : Type} (P : Program) (t : TypeId) (r : R α) (p : α → Prop) : Prop :=
 ∀ (H : Type) (enc : TypeId × Value → H) (w : World) (base : Nat) (spare : Nat → Bool) (held : Bool) (fuel : Nat) (cs : List Value) (x : DataW H × List MemPlace),
  DataW.trod enc P w base spare held fuel t cs = some x → ∃ v y, v.cells.toList = cs ∧ r.rep (fun _ => False) w v y ∧ p y
section
variable {P : Program}
theorem op_int {t : TypeId} (k : IntKind) (ht : P.underlying t = some (.int k)) : OpC P t (rI k) (InK k) := fun H enc w base spare held fuel cs x h => by
 obtain ⟨n, rfl, _, hw⟩ := DataW.trod_int ht h
 exact ⟨_, n, rfl, rfl, hw⟩
theorem op_bool {t : TypeId} (ht : P.underlying t = some .bool) : OpC P t rB (fun _ => True) := fun H enc w base spare held fuel cs x h => by
 obtain ⟨n, rfl, _⟩ := DataW.trod_bool ht h
 exact ⟨_, n, rfl, rfl, trivial⟩
theorem choose_list {α : Type} {n : Nat} {p : Nat → α → Prop} (h : ∀ i, i < n → ∃ x, p i x) : ∃ l : List α, l.length = n ∧ ∀ i x, l[i]? = some x → p i x := by
 induction n with
 | zero => exact ⟨[], rfl, fun i x hi => by simp at hi⟩
 | succ n ih =>
  obtain ⟨l, hl, hp⟩ := ih fun i hi => h i (by omega)
  obtain ⟨x, hx⟩ := h n (by omega)
  refine ⟨l ++ [x], by simp [hl], fun i y hi => ?_⟩
  by_cases e : i < l.length
  ·rw [List.getElem?_append_left e] at hi; exact hp i y hi
  ·rw [List.getElem?_append_right (by omega)] at hi
   have : i - l.length = 0 := by
    have := (List.getElem?_eq_some_iff.1 hi).1
    simp at this; omega
   rw [this] at hi
   simp at hi; subst hi
   have : i = n := by omega
   subst this; exact hx
theorem op_slice {α : Type} {t e : TypeId} {r : R α} {p : α → Prop} (ht : P.underlying t = some (.slice e)) (hc : P.cellsOf e = r.sz) (he : OpC P e r p) : OpC P t (rL r) (Wl p) := fun H enc w base spare held fuel cs x h => by
 rcases Go.Deep.open_slice ht h with ⟨rfl, _⟩ | ⟨a, len, cap, m, n, D, Pl, rfl, _, hl, hm, hmm, _, hx⟩
 ·exact ⟨_, [], rfl, rL_nil _ _ _, by simp, fun x hx => by simp at hx⟩
 ·have hlm : len ≤ m := by rw [hmm]; split <;> omega
  obtain ⟨b, off, spot⟩ := a
  have hcell : ∀ i, i < len → ∃ vy : Value × α, (∀ j, j < r.sz → w.cell? ((⟨b, off, spot⟩ : Addr).add (i * r.sz + j)) = vy.1.cells.toList[j]?) ∧ r.rep (fun _ => False) w vy.1 vy.2 ∧ p vy.2 := fun i hi => by
   obtain ⟨cs, h1, h2⟩ := hx i (by omega)
   obtain ⟨_, h3, h4⟩ := World.cells?_some h1
   obtain ⟨v, y, h5, h6, h7⟩ := he _ _ _ _ _ _ _ _ _ h2
   refine ⟨(v, y), fun j hj => ?_, h6, h7⟩
   have := h4 j (by rw [hc]; exact hj)
   rw [Addr.add_add, hc] at this
   rw [this, h5]
  obtain ⟨l, hll, hlp⟩ := choose_list hcell
  subst hll
  have hA : All r (fun _ => False) w (l.map (·.1)) (l.map (·.2)) := ⟨by simp, fun k v x hv hx => by
   rw [List.getElem?_map] at hv hx
   cases hk : l[k]? with
   | none => rw [hk] at hv; cases hv
   | some q => rw [hk] at hv hx; simp at hv hx; subst hv hx; exact (hlp k q hk).2.1⟩
  refine ⟨.slice (some ⟨b, off, spot⟩) l.length cap, l.map (·.2), rfl, ?_, by simp [maxLen] at hm ⊢; omega, fun x hx => ?_⟩
  ·refine ⟨some ⟨b, off, spot⟩, cap, l.map (·.1), by simp, by simpa using hl, by simp [maxLen] at hm ⊢; omega, hA, fun k u hu => ?_⟩
   have hsz := fun v hv => (hA.cells v hv).1
   have hk := (List.getElem?_eq_some_iff.1 hu).1
   rw [flat_length hsz] at hk
   simp only [List.length_map] at hk
   have hi : k / r.sz < l.length := Nat.div_lt_of_lt_mul (by rw [Nat.mul_comm]; exact hk)
   have hj := Nat.mod_lt k r.pos
   have hq : l[k / r.sz]? = some l[k / r.sz] := List.getElem?_eq_getElem hi
   have h1 := (hlp _ _ hq).1 (k % r.sz) hj
   have h2 := flat_get hsz (k := k / r.sz) (v := l[k / r.sz].1) (by rw [List.getElem?_map, hq]; rfl) hj
   rw [Nat.mul_comm, Nat.div_add_mod] at h1 h2
   rw [hu] at h2
   rw [← h2] at h1
   have hspot : spot = none := by
    have h0 : 0 < l.length := Nat.lt_of_le_of_lt (Nat.zero_le _) hi
    have hq0 : l[0]? = some l[0] := List.getElem?_eq_getElem h0
    have h3 := (hlp 0 _ hq0).1 0 r.pos
    have hs0 := r.size (hlp 0 _ hq0).2.1
    rw [List.getElem?_eq_getElem (by rw [Array.length_toList, hs0]; exact r.pos)] at h3
    simpa [Addr.add] using World.cell?_spot h3
   subst hspot
   rw [add_addr] at h1
   exact ⟨b, off, rfl, not_false, World.block_lt_of_cell? w _ h1, h1⟩
  ·obtain ⟨q, hq, rfl⟩ := List.mem_map.1 hx
   obtain ⟨k, hk, rfl⟩ := List.getElem_of_mem hq
   exact (hlp k _ (List.getElem?_eq_getElem hk)).2.2
theorem top_slice {α : Type} {H : Type} {enc : TypeId × Value → H} {w : World} {base b0 : Nat} {spare : Nat → Bool} {held : Bool} {rr : Reach} {v : Value} {d : DataW H} {p : List MemPlace} {t e : TypeId} {r : R α} {q : List α → Prop} (ht : P.underlying t = some (.slice e)) (ho : OpC P t (rL r) q)
 (hv : Value.okWide P w rr b0 t v) (h : DataW.Trod enc P w base spare held t v d p) : ∃ y, (rL r).rep (fun _ => False) w v y ∧ q y := by
 obtain ⟨a, n, c, rfl⟩ := okWide_slice ht hv
 obtain ⟨fuel, hf⟩ := h
 obtain ⟨v, y, h1, h2, h3⟩ := ho _ _ _ _ _ _ _ _ _ hf
 have hs := scal_L _ _ _ _ _ h2
 rw [hs] at h1
 simp [Value.cells] at h1
 subst h1
 exact ⟨y, h2, h3⟩
theorem St0.start {w : World} {D : List Fact} (h : ∀ d, d ∈ D → d.p (fun _ => False) w) : St0 (fun _ => False) [] w w [] D := by
 have hE : tot (fun _ => False) [] = (fun _ => False) := by funext b; simp [tot, keysL]
 exact ⟨Chg.refl _ _, by simp, fun d hd => by rw [hE]; exact h d hd, by simp [keysL], by simp [keysL], fun _ h => h.elim⟩
theorem Chg.below {w w' : World} (h : Chg [] w w') : Below w.heap.size w w' := ⟨h.os, h.tape, h.output, h.size, fun k hk => h.block k hk (by simp)⟩
theorem len4 {α : Type} {l : List α} (h : l.length = 4) : ∃ a b c d, l = [a, b, c, d] := by match l, h with | [a, b, c, d], _ => exact ⟨a, b, c, d, rfl⟩
theorem len5 {α : Type} {l : List α} (h : l.length = 5) : ∃ a b c d e, l = [a, b, c, d, e] := by match l, h with | [a, b, c, d, e], _ => exact ⟨a, b, c, d, e, rfl⟩
end
theorem fld {α : Type} {x : Option α} {ys : List α} {i : Nat} (h : x = ys[i]?) (hi : i < ys.length) : ∃ z, x = some z := ⟨ys[i], by rw [h]; exact List.getElem?_eq_getElem hi⟩
end Go.Proofs.Ytffikfajljbmnaa
namespace Go.Proofs.Ytffikfajljbmnaa
open Go.RowKit
open Go.ChangeShapes Go.WideShapes Go.ChangeAt Go.Joins
def wf_api_Stitch (x : api_Stitch) : Prop := (InK .u8) x.Kind ∧ (fun _ => True) x.Purl ∧ (InK .i64) x.A ∧ (InK .i64) x.B
theorem op_api_Stitch : OpC Try.prog 81 r_api_Stitch wf_api_Stitch := fun H enc w base spare held fuel cs x h => by
 obtain ⟨ys, m, _, _, hl, hy, hf⟩ := DataW.trod_struct Try.underlying81 h
 obtain ⟨c0, c1, c2, c3, rfl⟩ := len4 (hl.trans (by kernel_rfl))
 obtain ⟨z0, f0⟩ := fld (hf 0 _ rfl) (by rw [hy]; decide)
 obtain ⟨u0, y0, k0, r0, w0⟩ := (op_int .u8 Try.underlying5) _ _ _ _ _ _ _ _ _ f0
 replace k0 : u0.cells.toList = [c0] := k0.trans (by kernel_rfl)
 obtain rfl : u0 = .int .u8 y0 := r0
 obtain rfl : Value.int .u8 y0 = c0 := by simpa [Value.cells] using k0
 obtain ⟨z1, f1⟩ := fld (hf 1 _ rfl) (by rw [hy]; decide)
 obtain ⟨u1, y1, k1, r1, w1⟩ := (op_bool Try.underlying4) _ _ _ _ _ _ _ _ _ f1
 replace k1 : u1.cells.toList = [c1] := k1.trans (by kernel_rfl)
 obtain rfl : u1 = .bool y1 := r1
 obtain rfl : Value.bool y1 = c1 := by simpa [Value.cells] using k1
 obtain ⟨z2, f2⟩ := fld (hf 2 _ rfl) (by rw [hy]; decide)
 obtain ⟨u2, y2, k2, r2, w2⟩ := (op_int .i64 Try.underlying3) _ _ _ _ _ _ _ _ _ f2
 replace k2 : u2.cells.toList = [c2] := k2.trans (by kernel_rfl)
 obtain rfl : u2 = .int .i64 y2 := r2
 obtain rfl : Value.int .i64 y2 = c2 := by simpa [Value.cells] using k2
 obtain ⟨z3, f3⟩ := fld (hf 3 _ rfl) (by rw [hy]; decide)
 obtain ⟨u3, y3, k3, r3, w3⟩ := (op_int .i64 Try.underlying3) _ _ _ _ _ _ _ _ _ f3
 replace k3 : u3.cells.toList = [c3] := k3.trans (by kernel_rfl)
 obtain rfl : u3 = .int .i64 y3 := r3
 obtain rfl : Value.int .i64 y3 = c3 := by simpa [Value.cells] using k3
 exact ⟨_, ⟨y0, y1, y2, y3⟩, rfl, rfl, ⟨w0, w1, w2, w3⟩⟩
def wf_api_CellStep (x : api_CellStep) : Prop := (InK .u8) x.Kind ∧ wf_api_Stitch x.S
theorem op_api_CellStep : OpC Try.prog 83 r_api_CellStep wf_api_CellStep := fun H enc w base spare held fuel cs x h => by
 obtain ⟨ys, m, _, _, hl, hy, hf⟩ := DataW.trod_struct Try.underlying83 h
 obtain ⟨c0, c1, c2, c3, c4, rfl⟩ := len5 (hl.trans (by kernel_rfl))
 obtain ⟨z0, f0⟩ := fld (hf 0 _ rfl) (by rw [hy]; decide)
 obtain ⟨u0, y0, k0, r0, w0⟩ := (op_int .u8 Try.underlying5) _ _ _ _ _ _ _ _ _ f0
 replace k0 : u0.cells.toList = [c0] := k0.trans (by kernel_rfl)
 obtain rfl : u0 = .int .u8 y0 := r0
 obtain rfl : Value.int .u8 y0 = c0 := by simpa [Value.cells] using k0
 obtain ⟨z1, f1⟩ := fld (hf 1 _ rfl) (by rw [hy]; decide)
 obtain ⟨u1, y1, k1, r1, w1⟩ := op_api_Stitch _ _ _ _ _ _ _ _ _ f1
 replace k1 : u1.cells.toList = [c1, c2, c3, c4] := k1.trans (by kernel_rfl)
 obtain rfl : u1 = .agg #[.int .u8 y1.Kind, .bool y1.Purl, .int .i64 y1.A, .int .i64 y1.B] := r1
 simp only [Value.cells, List.cons.injEq, and_true] at k1
 obtain ⟨rfl, rfl, rfl, rfl⟩ := k1
 exact ⟨_, ⟨y0, y1⟩, rfl, rfl, ⟨w0, w1⟩⟩
end Go.Proofs.Ytffikfajljbmnaa
namespace Go.Proofs.Ytffikfajljbmnaa
open Go.RowKit
def Le {α : Type} (a b : Option α) : Prop := ∀ r, a = some r → b = some r
theorem Le.rfl {α : Type} (a : Option α) : Le a a := fun _ h => h
theorem Le.bind {α β : Type} {a b : Option α} {f g : α → Option β} (h : Le a b) (hf : ∀ x, Le (f x) (g x)) : Le (Option.bind a f) (Option.bind b g) := by
 intro r hr
 cases ha : a with
 | none => rw [ha] at hr; cases hr
 | some x =>
  rw [ha] at hr
  rw [h x ha]
  exact hf x r hr
theorem Le.ite {α : Type} {c : Prop} [Decidable c] {a b a' b' : Option α} (h : Le a b) (h' : Le a' b') : Le (if c then a else a') (if c then b else b') := by
 by_cases hc : c
 ·rw [if_pos hc, if_pos hc]; exact h
 ·rw [if_neg hc, if_neg hc]; exact h'
theorem Le.sum {α β γ : Type} {f g : α ⊕ β → Option γ} (h : ∀ a, Le (f (.inl a)) (g (.inl a))) (h' : ∀ b, Le (f (.inr b)) (g (.inr b))) : ∀ z, Le (f z) (g z)
 | .inl a => h a
 | .inr b => h' b
theorem Le.prod {α β γ : Type} {f g : α × β → Option γ} (h : ∀ a b, Le (f (a, b)) (g (a, b))) : ∀ z, Le (f z) (g z)
 | (a, b) => h a b
theorem iterO_Le {σ τ : Type} {B B' : σ → Option (σ ⊕ τ)} (h : ∀ s, Le (B s) (B' s)) : ∀ (n : Nat) (s : σ), Le (iterO B n s) (iterO B' n s) := by
 intro n
 induction n with
 | zero => intro s r hr; cases hr
 | succ n ih =>
  intro s r hr
  unfold iterO at hr ⊢
  cases hB : B s with
  | none => rw [hB] at hr; cases hr
  | some x =>
   rw [hB] at hr
   rw [h s x hB]
   cases x with
   | inl s' => exact ih s' r hr
   | inr t => exact hr
def whileK {σ τ : Type} (B : σ → Option (σ ⊕ τ)) (s : σ) : Option τ := iterO B 1000000 s
theorem Le.loop {σ τ : Type} {B B' : σ → Option (σ ⊕ τ)} (s : σ) (h : ∀ s, Le (B s) (B' s)) : Le (whileK B s) (whileO B' s) :=
 fun r hr => whileO_of (iterO_Le h 1000000 s r hr)
noncomputable def F_stitch_forms (p0 : Int) : Option (stitch_form × Bool) :=
 Option.bind (α := Bool) (
  if decide (p0 < 1) then
   some true
  else
   some (decide (([(stitch_form.mk (⟨#[]⟩ : ByteArray) (0, 0) (0, 0) true 1 1), (stitch_form.mk (⟨#[]⟩ : ByteArray) (0, 0) (0, 0) false 0 1), (stitch_form.mk (⟨#[102]⟩ : ByteArray) (2, 4) (0, 0) true 2 1), (stitch_form.mk (⟨#[108]⟩ : ByteArray) (2, 4) (0, 0) true 2 1), (stitch_form.mk (⟨#[109]⟩ : ByteArray) (2, 4) (0, 0) true 1 2), (stitch_form.mk (⟨#[120]⟩ : ByteArray) (1, 6) (1, 6) true 3 3), (stitch_form.mk (⟨#[121]⟩ : ByteArray) (1, 6) (1, 6) true 3 3), (stitch_form.mk (⟨#[115]⟩ : ByteArray) (0, 0) (0, 0) true 1 1), (stitch_form.mk (⟨#[]⟩ : ByteArray) (1, 200) (0, 0) false 0 2), (stitch_form.mk (⟨#[111]⟩ : ByteArray) (1, 200) (0, 0) true 2 0)].length : Int) < (IntKind.i64.wrap p0)))) fun a0 =>
 if a0 then
  some ((stitch_form.mk (⟨#[]⟩ : ByteArray) (0, 0) (0, 0) false 0 0), false)
 else
  (idxO [(stitch_form.mk (⟨#[]⟩ : ByteArray) (0, 0) (0, 0) true 1 1), (stitch_form.mk (⟨#[]⟩ : ByteArray) (0, 0) (0, 0) false 0 1), (stitch_form.mk (⟨#[102]⟩ : ByteArray) (2, 4) (0, 0) true 2 1), (stitch_form.mk (⟨#[108]⟩ : ByteArray) (2, 4) (0, 0) true 2 1), (stitch_form.mk (⟨#[109]⟩ : ByteArray) (2, 4) (0, 0) true 1 2), (stitch_form.mk (⟨#[120]⟩ : ByteArray) (1, 6) (1, 6) true 3 3), (stitch_form.mk (⟨#[121]⟩ : ByteArray) (1, 6) (1, 6) true 3 3), (stitch_form.mk (⟨#[115]⟩ : ByteArray) (0, 0) (0, 0) true 1 1), (stitch_form.mk (⟨#[]⟩ : ByteArray) (1, 200) (0, 0) false 0 2), (stitch_form.mk (⟨#[111]⟩ : ByteArray) (1, 200) (0, 0) true 2 0)] (IntKind.u8.wrap (p0 - 1))).bind fun a4 =>
  some (a4, true)
def c_stitch_forms_val (r : (stitch_form × Bool)) (x : Value) : Value := .tuple #[x, .bool r.2]
def c_stitch_forms_D (r : (stitch_form × Bool)) (x : Value) : List Fact := [fRep r_stitch_form x r.1]
theorem c_stitch_forms (E : Nat → Prop) (w0 : World) (p0 : Int) (r : (stitch_form × Bool)) (h : F_stitch_forms p0 = some r) (S : St0 E [] w0 w0 [] []) :
 Calls Try.prog 103 #[.int .u8 p0] w0 (Ret (X := Value) E [] w0 (c_stitch_forms_val r) (fun _ => []) (c_stitch_forms_D r)) := by
 unfold F_stitch_forms at h
 refine sEnter (args := [.int .u8 p0]) 57 Try.func103 rfl rfl (by simp) S (fun a S => ?_)
 refine sSeq (fun K1 ah => sRegion (sAlloc (gv_stitch_form (stitch_form.mk (⟨#[]⟩ : ByteArray) (0, 0) (0, 0) false 0 0)) S (wN rfl) rfl rfl (gl_stitch_form (stitch_form.mk (⟨#[]⟩ : ByteArray) (0, 0) (0, 0) false 0 0)) rfl rfl (lb rfl) fun a b2 w S => ?_))
 refine sN S fun a S => ?_
 refine lT (ah _ _ (sSeq (fun K3 ai => sRegion (sBuild [(0, iv 2), (1, iv 4)] [iv 2, iv 4] S (wN rfl) rfl rfl rfl rfl (lb rfl) fun a S => ?_))))
 refine sBuild [(0, iv 1), (1, iv 6)] [iv 1, iv 6] S (wN rfl) rfl rfl rfl rfl (lb rfl) fun a S => ?_
 refine sAlloc (.agg #[iv 0, iv 0]) S (wN rfl) rfl rfl [iv 0, iv 0] rfl rfl (lb rfl) fun a b4 w S => ?_
 refine sAlloc (.agg #[iv 0, iv 0]) S (wN rfl) rfl rfl [iv 0, iv 0] rfl rfl (lb rfl) fun a b5 w S => ?_
 refine sStore (p := b4) (off := 0) (T := 154) (vs := [iv 0, iv 0]) (v := .agg #[iv 2, iv 4]) 1 [iv 2, iv 4] S (wN rfl) rfl rfl rfl rfl rfl rfl rfl (by simp) rfl fun a w S => ?_
 refine sStore (p := b5) (off := 0) (T := 154) (vs := [iv 0, iv 0]) (v := .agg #[iv 1, iv 6]) 1 [iv 1, iv 6] S (wN rfl) rfl rfl rfl rfl rfl rfl rfl (by simp) rfl fun a w S => ?_
 refine lT (ai _ _ (sSeq (fun K6 aj => sRegion (sBuild [(0, iv 1), (1, iv 200)] [iv 1, iv 200] S (wN rfl) rfl rfl rfl rfl (lb rfl) fun a S => ?_))))
 refine sAlloc (.agg #[iv 0, iv 0]) S (wN rfl) rfl rfl [iv 0, iv 0] rfl rfl (lb rfl) fun a b7 w S => ?_
 refine sStore (p := b7) (off := 0) (T := 154) (vs := [iv 0, iv 0]) (v := .agg #[iv 1, iv 200]) 0 [iv 1, iv 200] S (wN rfl) rfl rfl rfl rfl rfl rfl rfl (by simp) rfl fun a w S => ?_
 refine lT (aj _ _ (sSeq (fun K8 ak => sRegion (sBuild [] [iv 0, iv 0] S (wN rfl) rfl rfl rfl rfl (lb rfl) fun a S => ?_))))
 refine sBuild [] [iv 0, iv 0] S (wN rfl) rfl rfl rfl rfl (lb rfl) fun a S => ?_
 refine sBuild [(0, .string (⟨#[]⟩ : ByteArray)), (1, .agg #[iv 0, iv 0]), (2, .agg #[iv 0, iv 0]), (3, .bool true), (4, iv 1), (5, iv 1)] (gl_stitch_form (stitch_form.mk (⟨#[]⟩ : ByteArray) (0, 0) (0, 0) true 1 1)) S (wN rfl) rfl rfl rfl rfl (lb rfl) fun a S => ?_
 refine sBuild [] [iv 0, iv 0] S (wN rfl) rfl rfl rfl rfl (lb rfl) fun a S => ?_
 refine sBuild [] [iv 0, iv 0] S (wN rfl) rfl rfl rfl rfl (lb rfl) fun a S => ?_
 refine sBuild [(0, .string (⟨#[]⟩ : ByteArray)), (1, .agg #[iv 0, iv 0]), (2, .agg #[iv 0, iv 0]), (3, .bool false), (4, iv 0), (5, iv 1)] (gl_stitch_form (stitch_form.mk (⟨#[]⟩ : ByteArray) (0, 0) (0, 0) false 0 1)) S (wN rfl) rfl rfl rfl rfl (lb rfl) fun a S => ?_
 refine sLoadN (p := b4) (off := 0) (T := 154) (vs := [iv 2, iv 4]) 2 [iv 2, iv 4] S (wN rfl) rfl rfl rfl rfl rfl rfl rfl (lb rfl) fun a S => ?_
 refine sBuild [] [iv 0, iv 0] S (wN rfl) rfl rfl rfl rfl (lb rfl) fun a S => ?_
 refine sBuild [(0, .string (⟨#[102]⟩ : ByteArray)), (1, .agg #[iv 2, iv 4]), (2, .agg #[iv 0, iv 0]), (3, .bool true), (4, iv 2), (5, iv 1)] (gl_stitch_form (stitch_form.mk (⟨#[102]⟩ : ByteArray) (2, 4) (0, 0) true 2 1)) S (wN rfl) rfl rfl rfl rfl (lb rfl) fun a S => ?_
 refine sLoadN (p := b4) (off := 0) (T := 154) (vs := [iv 2, iv 4]) 2 [iv 2, iv 4] S (wN rfl) rfl rfl rfl rfl rfl rfl rfl (lb rfl) fun a S => ?_
 refine sBuild [] [iv 0, iv 0] S (wN rfl) rfl rfl rfl rfl (lb rfl) fun a S => ?_
 refine sBuild [(0, .string (⟨#[108]⟩ : ByteArray)), (1, .agg #[iv 2, iv 4]), (2, .agg #[iv 0, iv 0]), (3, .bool true), (4, iv 2), (5, iv 1)] (gl_stitch_form (stitch_form.mk (⟨#[108]⟩ : ByteArray) (2, 4) (0, 0) true 2 1)) S (wN rfl) rfl rfl rfl rfl (lb rfl) fun a S => ?_
 refine sLoadN (p := b4) (off := 0) (T := 154) (vs := [iv 2, iv 4]) 2 [iv 2, iv 4] S (wN rfl) rfl rfl rfl rfl rfl rfl rfl (lb rfl) fun a S => ?_
 refine sBuild [] [iv 0, iv 0] S (wN rfl) rfl rfl rfl rfl (lb rfl) fun a S => ?_
 refine sBuild [(0, .string (⟨#[109]⟩ : ByteArray)), (1, .agg #[iv 2, iv 4]), (2, .agg #[iv 0, iv 0]), (3, .bool true), (4, iv 1), (5, iv 2)] (gl_stitch_form (stitch_form.mk (⟨#[109]⟩ : ByteArray) (2, 4) (0, 0) true 1 2)) S (wN rfl) rfl rfl rfl rfl (lb rfl) fun a S => ?_
 refine sLoadN (p := b5) (off := 0) (T := 154) (vs := [iv 1, iv 6]) 1 [iv 1, iv 6] S (wN rfl) rfl rfl rfl rfl rfl rfl rfl (lb rfl) fun a S => ?_
 refine sLoadN (p := b5) (off := 0) (T := 154) (vs := [iv 1, iv 6]) 1 [iv 1, iv 6] S (wN rfl) rfl rfl rfl rfl rfl rfl rfl (lb rfl) fun a S => ?_
 refine sBuild [(0, .string (⟨#[120]⟩ : ByteArray)), (1, .agg #[iv 1, iv 6]), (2, .agg #[iv 1, iv 6]), (3, .bool true), (4, iv 3), (5, iv 3)] (gl_stitch_form (stitch_form.mk (⟨#[120]⟩ : ByteArray) (1, 6) (1, 6) true 3 3)) S (wN rfl) rfl rfl rfl rfl (lb rfl) fun a S => ?_
 refine sLoadN (p := b5) (off := 0) (T := 154) (vs := [iv 1, iv 6]) 1 [iv 1, iv 6] S (wN rfl) rfl rfl rfl rfl rfl rfl rfl (lb rfl) fun a S => ?_
 refine sLoadN (p := b5) (off := 0) (T := 154) (vs := [iv 1, iv 6]) 1 [iv 1, iv 6] S (wN rfl) rfl rfl rfl rfl rfl rfl rfl (lb rfl) fun a S => ?_
 refine sBuild [(0, .string (⟨#[121]⟩ : ByteArray)), (1, .agg #[iv 1, iv 6]), (2, .agg #[iv 1, iv 6]), (3, .bool true), (4, iv 3), (5, iv 3)] (gl_stitch_form (stitch_form.mk (⟨#[121]⟩ : ByteArray) (1, 6) (1, 6) true 3 3)) S (wN rfl) rfl rfl rfl rfl (lb rfl) fun a S => ?_
 refine sBuild [] [iv 0, iv 0] S (wN rfl) rfl rfl rfl rfl (lb rfl) fun a S => ?_
 refine sBuild [] [iv 0, iv 0] S (wN rfl) rfl rfl rfl rfl (lb rfl) fun a S => ?_
 refine sBuild [(0, .string (⟨#[115]⟩ : ByteArray)), (1, .agg #[iv 0, iv 0]), (2, .agg #[iv 0, iv 0]), (3, .bool true), (4, iv 1), (5, iv 1)] (gl_stitch_form (stitch_form.mk (⟨#[115]⟩ : ByteArray) (0, 0) (0, 0) true 1 1)) S (wN rfl) rfl rfl rfl rfl (lb rfl) fun a S => ?_
 refine sLoadN (p := b7) (off := 0) (T := 154) (vs := [iv 1, iv 200]) 0 [iv 1, iv 200] S (wN rfl) rfl rfl rfl rfl rfl rfl rfl (lb rfl) fun a S => ?_
 refine sBuild [] [iv 0, iv 0] S (wN rfl) rfl rfl rfl rfl (lb rfl) fun a S => ?_
 refine sBuild [(0, .string (⟨#[]⟩ : ByteArray)), (1, .agg #[iv 1, iv 200]), (2, .agg #[iv 0, iv 0]), (3, .bool false), (4, iv 0), (5, iv 2)] (gl_stitch_form (stitch_form.mk (⟨#[]⟩ : ByteArray) (1, 200) (0, 0) false 0 2)) S (wN rfl) rfl rfl rfl rfl (lb rfl) fun a S => ?_
 refine sLoadN (p := b7) (off := 0) (T := 154) (vs := [iv 1, iv 200]) 0 [iv 1, iv 200] S (wN rfl) rfl rfl rfl rfl rfl rfl rfl (lb rfl) fun a S => ?_
 refine sBuild [] [iv 0, iv 0] S (wN rfl) rfl rfl rfl rfl (lb rfl) fun a S => ?_
 refine sBuild [(0, .string (⟨#[111]⟩ : ByteArray)), (1, .agg #[iv 1, iv 200]), (2, .agg #[iv 0, iv 0]), (3, .bool true), (4, iv 2), (5, iv 0)] (gl_stitch_form (stitch_form.mk (⟨#[111]⟩ : ByteArray) (1, 200) (0, 0) true 2 0)) S (wN rfl) rfl rfl rfl rfl (lb rfl) fun a S => ?_
 have S := S.learn (fRep r_stitch_form (gv_stitch_form (stitch_form.mk (⟨#[]⟩ : ByteArray) (0, 0) (0, 0) true 1 1)) (stitch_form.mk (⟨#[]⟩ : ByteArray) (0, 0) (0, 0) true 1 1)) rfl
 have S := S.learn (fRep r_stitch_form (gv_stitch_form (stitch_form.mk (⟨#[]⟩ : ByteArray) (0, 0) (0, 0) false 0 1)) (stitch_form.mk (⟨#[]⟩ : ByteArray) (0, 0) (0, 0) false 0 1)) rfl
 have S := S.learn (fRep r_stitch_form (gv_stitch_form (stitch_form.mk (⟨#[102]⟩ : ByteArray) (2, 4) (0, 0) true 2 1)) (stitch_form.mk (⟨#[102]⟩ : ByteArray) (2, 4) (0, 0) true 2 1)) rfl
 have S := S.learn (fRep r_stitch_form (gv_stitch_form (stitch_form.mk (⟨#[108]⟩ : ByteArray) (2, 4) (0, 0) true 2 1)) (stitch_form.mk (⟨#[108]⟩ : ByteArray) (2, 4) (0, 0) true 2 1)) rfl
 have S := S.learn (fRep r_stitch_form (gv_stitch_form (stitch_form.mk (⟨#[109]⟩ : ByteArray) (2, 4) (0, 0) true 1 2)) (stitch_form.mk (⟨#[109]⟩ : ByteArray) (2, 4) (0, 0) true 1 2)) rfl
 have S := S.learn (fRep r_stitch_form (gv_stitch_form (stitch_form.mk (⟨#[120]⟩ : ByteArray) (1, 6) (1, 6) true 3 3)) (stitch_form.mk (⟨#[120]⟩ : ByteArray) (1, 6) (1, 6) true 3 3)) rfl
 have S := S.learn (fRep r_stitch_form (gv_stitch_form (stitch_form.mk (⟨#[121]⟩ : ByteArray) (1, 6) (1, 6) true 3 3)) (stitch_form.mk (⟨#[121]⟩ : ByteArray) (1, 6) (1, 6) true 3 3)) rfl
 have S := S.learn (fRep r_stitch_form (gv_stitch_form (stitch_form.mk (⟨#[115]⟩ : ByteArray) (0, 0) (0, 0) true 1 1)) (stitch_form.mk (⟨#[115]⟩ : ByteArray) (0, 0) (0, 0) true 1 1)) rfl
 have S := S.learn (fRep r_stitch_form (gv_stitch_form (stitch_form.mk (⟨#[]⟩ : ByteArray) (1, 200) (0, 0) false 0 2)) (stitch_form.mk (⟨#[]⟩ : ByteArray) (1, 200) (0, 0) false 0 2)) rfl
 have S := S.learn (fRep r_stitch_form (gv_stitch_form (stitch_form.mk (⟨#[111]⟩ : ByteArray) (1, 200) (0, 0) true 2 0)) (stitch_form.mk (⟨#[111]⟩ : ByteArray) (1, 200) (0, 0) true 2 0)) rfl
 refine sLit (r := r_stitch_form) (T := 156) (xs := [(stitch_form.mk (⟨#[]⟩ : ByteArray) (0, 0) (0, 0) true 1 1), (stitch_form.mk (⟨#[]⟩ : ByteArray) (0, 0) (0, 0) false 0 1), (stitch_form.mk (⟨#[102]⟩ : ByteArray) (2, 4) (0, 0) true 2 1), (stitch_form.mk (⟨#[108]⟩ : ByteArray) (2, 4) (0, 0) true 2 1), (stitch_form.mk (⟨#[109]⟩ : ByteArray) (2, 4) (0, 0) true 1 2), (stitch_form.mk (⟨#[120]⟩ : ByteArray) (1, 6) (1, 6) true 3 3), (stitch_form.mk (⟨#[121]⟩ : ByteArray) (1, 6) (1, 6) true 3 3), (stitch_form.mk (⟨#[115]⟩ : ByteArray) (0, 0) (0, 0) true 1 1), (stitch_form.mk (⟨#[]⟩ : ByteArray) (1, 200) (0, 0) false 0 2), (stitch_form.mk (⟨#[111]⟩ : ByteArray) (1, 200) (0, 0) true 2 0)]) [(0, gv_stitch_form (stitch_form.mk (⟨#[]⟩ : ByteArray) (0, 0) (0, 0) true 1 1)), (1, gv_stitch_form (stitch_form.mk (⟨#[]⟩ : ByteArray) (0, 0) (0, 0) false 0 1)), (2, gv_stitch_form (stitch_form.mk (⟨#[102]⟩ : ByteArray) (2, 4) (0, 0) true 2 1)), (3, gv_stitch_form (stitch_form.mk (⟨#[108]⟩ : ByteArray) (2, 4) (0, 0) true 2 1)), (4, gv_stitch_form (stitch_form.mk (⟨#[109]⟩ : ByteArray) (2, 4) (0, 0) true 1 2)), (5, gv_stitch_form (stitch_form.mk (⟨#[120]⟩ : ByteArray) (1, 6) (1, 6) true 3 3)), (6, gv_stitch_form (stitch_form.mk (⟨#[121]⟩ : ByteArray) (1, 6) (1, 6) true 3 3)), (7, gv_stitch_form (stitch_form.mk (⟨#[115]⟩ : ByteArray) (0, 0) (0, 0) true 1 1)), (8, gv_stitch_form (stitch_form.mk (⟨#[]⟩ : ByteArray) (1, 200) (0, 0) false 0 2)), (9, gv_stitch_form (stitch_form.mk (⟨#[111]⟩ : ByteArray) (1, 200) (0, 0) true 2 0))] 10 [gv_stitch_form (stitch_form.mk (⟨#[]⟩ : ByteArray) (0, 0) (0, 0) true 1 1), gv_stitch_form (stitch_form.mk (⟨#[]⟩ : ByteArray) (0, 0) (0, 0) false 0 1), gv_stitch_form (stitch_form.mk (⟨#[102]⟩ : ByteArray) (2, 4) (0, 0) true 2 1), gv_stitch_form (stitch_form.mk (⟨#[108]⟩ : ByteArray) (2, 4) (0, 0) true 2 1), gv_stitch_form (stitch_form.mk (⟨#[109]⟩ : ByteArray) (2, 4) (0, 0) true 1 2), gv_stitch_form (stitch_form.mk (⟨#[120]⟩ : ByteArray) (1, 6) (1, 6) true 3 3), gv_stitch_form (stitch_form.mk (⟨#[121]⟩ : ByteArray) (1, 6) (1, 6) true 3 3), gv_stitch_form (stitch_form.mk (⟨#[115]⟩ : ByteArray) (0, 0) (0, 0) true 1 1), gv_stitch_form (stitch_form.mk (⟨#[]⟩ : ByteArray) (1, 200) (0, 0) false 0 2), gv_stitch_form (stitch_form.mk (⟨#[111]⟩ : ByteArray) (1, 200) (0, 0) true 2 0)] [.string (⟨#[]⟩ : ByteArray), iv 0, iv 0, iv 0, iv 0, .bool true, iv 1, iv 1, .string (⟨#[]⟩ : ByteArray), iv 0, iv 0, iv 0, iv 0, .bool false, iv 0, iv 1, .string (⟨#[102]⟩ : ByteArray), iv 2, iv 4, iv 0, iv 0, .bool true, iv 2, iv 1, .string (⟨#[108]⟩ : ByteArray), iv 2, iv 4, iv 0, iv 0, .bool true, iv 2, iv 1, .string (⟨#[109]⟩ : ByteArray), iv 2, iv 4, iv 0, iv 0, .bool true, iv 1, iv 2, .string (⟨#[120]⟩ : ByteArray), iv 1, iv 6, iv 1, iv 6, .bool true, iv 3, iv 3, .string (⟨#[121]⟩ : ByteArray), iv 1, iv 6, iv 1, iv 6, .bool true, iv 3, iv 3, .string (⟨#[115]⟩ : ByteArray), iv 0, iv 0, iv 0, iv 0, .bool true, iv 1, iv 1, .string (⟨#[]⟩ : ByteArray), iv 1, iv 200, iv 0, iv 0, .bool false, iv 0, iv 2, .string (⟨#[111]⟩ : ByteArray), iv 1, iv 200, iv 0, iv 0, .bool true, iv 2, iv 0] (gv_stitch_form (stitch_form.mk (⟨#[]⟩ : ByteArray) (0, 0) (0, 0) false 0 0)) 72 S (wN rfl) rfl rfl Try.underlying165 rfl (by decide) (by decide) (by kernel_rfl) rfl (fun E1 w1 hE => All.cons (r_stitch_form.mono hE (S.mem.know (i := 9) (e := fRep r_stitch_form (gv_stitch_form (stitch_form.mk (⟨#[]⟩ : ByteArray) (0, 0) (0, 0) true 1 1)) (stitch_form.mk (⟨#[]⟩ : ByteArray) (0, 0) (0, 0) true 1 1)) rfl)) (All.cons (r_stitch_form.mono hE (S.mem.know (i := 8) (e := fRep r_stitch_form (gv_stitch_form (stitch_form.mk (⟨#[]⟩ : ByteArray) (0, 0) (0, 0) false 0 1)) (stitch_form.mk (⟨#[]⟩ : ByteArray) (0, 0) (0, 0) false 0 1)) rfl)) (All.cons (r_stitch_form.mono hE (S.mem.know (i := 7) (e := fRep r_stitch_form (gv_stitch_form (stitch_form.mk (⟨#[102]⟩ : ByteArray) (2, 4) (0, 0) true 2 1)) (stitch_form.mk (⟨#[102]⟩ : ByteArray) (2, 4) (0, 0) true 2 1)) rfl)) (All.cons (r_stitch_form.mono hE (S.mem.know (i := 6) (e := fRep r_stitch_form (gv_stitch_form (stitch_form.mk (⟨#[108]⟩ : ByteArray) (2, 4) (0, 0) true 2 1)) (stitch_form.mk (⟨#[108]⟩ : ByteArray) (2, 4) (0, 0) true 2 1)) rfl)) (All.cons (r_stitch_form.mono hE (S.mem.know (i := 5) (e := fRep r_stitch_form (gv_stitch_form (stitch_form.mk (⟨#[109]⟩ : ByteArray) (2, 4) (0, 0) true 1 2)) (stitch_form.mk (⟨#[109]⟩ : ByteArray) (2, 4) (0, 0) true 1 2)) rfl)) (All.cons (r_stitch_form.mono hE (S.mem.know (i := 4) (e := fRep r_stitch_form (gv_stitch_form (stitch_form.mk (⟨#[120]⟩ : ByteArray) (1, 6) (1, 6) true 3 3)) (stitch_form.mk (⟨#[120]⟩ : ByteArray) (1, 6) (1, 6) true 3 3)) rfl)) (All.cons (r_stitch_form.mono hE (S.mem.know (i := 3) (e := fRep r_stitch_form (gv_stitch_form (stitch_form.mk (⟨#[121]⟩ : ByteArray) (1, 6) (1, 6) true 3 3)) (stitch_form.mk (⟨#[121]⟩ : ByteArray) (1, 6) (1, 6) true 3 3)) rfl)) (All.cons (r_stitch_form.mono hE (S.mem.know (i := 2) (e := fRep r_stitch_form (gv_stitch_form (stitch_form.mk (⟨#[115]⟩ : ByteArray) (0, 0) (0, 0) true 1 1)) (stitch_form.mk (⟨#[115]⟩ : ByteArray) (0, 0) (0, 0) true 1 1)) rfl)) (All.cons (r_stitch_form.mono hE (S.mem.know (i := 1) (e := fRep r_stitch_form (gv_stitch_form (stitch_form.mk (⟨#[]⟩ : ByteArray) (1, 200) (0, 0) false 0 2)) (stitch_form.mk (⟨#[]⟩ : ByteArray) (1, 200) (0, 0) false 0 2)) rfl)) (All.cons (r_stitch_form.mono hE (S.mem.know (i := 0) (e := fRep r_stitch_form (gv_stitch_form (stitch_form.mk (⟨#[111]⟩ : ByteArray) (1, 200) (0, 0) true 2 0)) (stitch_form.mk (⟨#[111]⟩ : ByteArray) (1, 200) (0, 0) true 2 0)) rfl)) (All.nil _ _ _))))))))))) rfl rfl (lb rfl) fun a w a7 a5 S => ?_
 refine sN S fun a S => ?_
 refine lT (ak _ _ (sSeq (fun ap a8 => ?_)))
 obtain ⟨am, h, ao⟩ := bS h
 refine sCut (fun a w => ∃ a9, a9 = am ∧ St [] E [] w0 57 a w [(0, .int .u8 p0), (2, .pointer (some ⟨b2, 0, none⟩)), (7, .slice a7 [(stitch_form.mk (⟨#[]⟩ : ByteArray) (0, 0) (0, 0) true 1 1), (stitch_form.mk (⟨#[]⟩ : ByteArray) (0, 0) (0, 0) false 0 1), (stitch_form.mk (⟨#[102]⟩ : ByteArray) (2, 4) (0, 0) true 2 1), (stitch_form.mk (⟨#[108]⟩ : ByteArray) (2, 4) (0, 0) true 2 1), (stitch_form.mk (⟨#[109]⟩ : ByteArray) (2, 4) (0, 0) true 1 2), (stitch_form.mk (⟨#[120]⟩ : ByteArray) (1, 6) (1, 6) true 3 3), (stitch_form.mk (⟨#[121]⟩ : ByteArray) (1, 6) (1, 6) true 3 3), (stitch_form.mk (⟨#[115]⟩ : ByteArray) (0, 0) (0, 0) true 1 1), (stitch_form.mk (⟨#[]⟩ : ByteArray) (1, 200) (0, 0) false 0 2), (stitch_form.mk (⟨#[111]⟩ : ByteArray) (1, 200) (0, 0) true 2 0)].length a5), (50, .bool a9)] [eBox b2 156 (gl_stitch_form (stitch_form.mk (⟨#[]⟩ : ByteArray) (0, 0) (0, 0) false 0 0)), eRow r_stitch_form 156 (.slice a7 [(stitch_form.mk (⟨#[]⟩ : ByteArray) (0, 0) (0, 0) true 1 1), (stitch_form.mk (⟨#[]⟩ : ByteArray) (0, 0) (0, 0) false 0 1), (stitch_form.mk (⟨#[102]⟩ : ByteArray) (2, 4) (0, 0) true 2 1), (stitch_form.mk (⟨#[108]⟩ : ByteArray) (2, 4) (0, 0) true 2 1), (stitch_form.mk (⟨#[109]⟩ : ByteArray) (2, 4) (0, 0) true 1 2), (stitch_form.mk (⟨#[120]⟩ : ByteArray) (1, 6) (1, 6) true 3 3), (stitch_form.mk (⟨#[121]⟩ : ByteArray) (1, 6) (1, 6) true 3 3), (stitch_form.mk (⟨#[115]⟩ : ByteArray) (0, 0) (0, 0) true 1 1), (stitch_form.mk (⟨#[]⟩ : ByteArray) (1, 200) (0, 0) false 0 2), (stitch_form.mk (⟨#[111]⟩ : ByteArray) (1, 200) (0, 0) true 2 0)].length a5) [(stitch_form.mk (⟨#[]⟩ : ByteArray) (0, 0) (0, 0) true 1 1), (stitch_form.mk (⟨#[]⟩ : ByteArray) (0, 0) (0, 0) false 0 1), (stitch_form.mk (⟨#[102]⟩ : ByteArray) (2, 4) (0, 0) true 2 1), (stitch_form.mk (⟨#[108]⟩ : ByteArray) (2, 4) (0, 0) true 2 1), (stitch_form.mk (⟨#[109]⟩ : ByteArray) (2, 4) (0, 0) true 1 2), (stitch_form.mk (⟨#[120]⟩ : ByteArray) (1, 6) (1, 6) true 3 3), (stitch_form.mk (⟨#[121]⟩ : ByteArray) (1, 6) (1, 6) true 3 3), (stitch_form.mk (⟨#[115]⟩ : ByteArray) (0, 0) (0, 0) true 1 1), (stitch_form.mk (⟨#[]⟩ : ByteArray) (1, 200) (0, 0) false 0 2), (stitch_form.mk (⟨#[111]⟩ : ByteArray) (1, 200) (0, 0) true 2 0)]] []) ?_ (fun a w hI => ?_)
 ·refine sRegion (sM S fun a S => ?_)
  refine sBin _ S (wN rfl) rfl rfl rfl (bLt _ _ _ _ .u8 p0 1) rfl (lb rfl) fun a S => ?_
  refine sM S fun a S => ?_
  rcases iS h with ⟨a4, h⟩ | ⟨a4, h⟩
  ·refine sSkN 5 2 false 44 S rfl rfl a4 rfl fun a S => ?_
   refine sPickT (.bool true) S (wN rfl) rfl rfl a4 rfl rfl (lb rfl) fun a S => ?_
   exact lT (⟨true, Option.some.inj h, S.fix [4, 0] [] (by decide) rfl rfl rfl⟩)
  refine sMove (.int .u8 p0) S (wG 2 false 44 rfl rfl rfl a4) (.inl rfl) rfl rfl (lb rfl) fun a S => ?_
  refine sConv (k := .u8) (k2 := .i64) (b := p0) S (wG 2 false 44 rfl rfl rfl a4) rfl Try.underlying5 Try.underlying3 rfl rfl (lb rfl) fun a S => ?_
  refine sMove (.slice a7 [(stitch_form.mk (⟨#[]⟩ : ByteArray) (0, 0) (0, 0) true 1 1), (stitch_form.mk (⟨#[]⟩ : ByteArray) (0, 0) (0, 0) false 0 1), (stitch_form.mk (⟨#[102]⟩ : ByteArray) (2, 4) (0, 0) true 2 1), (stitch_form.mk (⟨#[108]⟩ : ByteArray) (2, 4) (0, 0) true 2 1), (stitch_form.mk (⟨#[109]⟩ : ByteArray) (2, 4) (0, 0) true 1 2), (stitch_form.mk (⟨#[120]⟩ : ByteArray) (1, 6) (1, 6) true 3 3), (stitch_form.mk (⟨#[121]⟩ : ByteArray) (1, 6) (1, 6) true 3 3), (stitch_form.mk (⟨#[115]⟩ : ByteArray) (0, 0) (0, 0) true 1 1), (stitch_form.mk (⟨#[]⟩ : ByteArray) (1, 200) (0, 0) false 0 2), (stitch_form.mk (⟨#[111]⟩ : ByteArray) (1, 200) (0, 0) true 2 0)].length a5) S (wG 2 false 44 rfl rfl rfl a4) (.inl rfl) rfl rfl (lb rfl) fun a S => ?_
  refine sLen S (wG 2 false 44 rfl rfl rfl a4) rfl Try.underlying165 rfl rfl (lb rfl) fun a S => ?_
  refine sBin _ S (wG 2 false 44 rfl rfl rfl a4) rfl rfl rfl (bGt _ _ _ _ .i64 (IntKind.i64.wrap p0) ([(stitch_form.mk (⟨#[]⟩ : ByteArray) (0, 0) (0, 0) true 1 1), (stitch_form.mk (⟨#[]⟩ : ByteArray) (0, 0) (0, 0) false 0 1), (stitch_form.mk (⟨#[102]⟩ : ByteArray) (2, 4) (0, 0) true 2 1), (stitch_form.mk (⟨#[108]⟩ : ByteArray) (2, 4) (0, 0) true 2 1), (stitch_form.mk (⟨#[109]⟩ : ByteArray) (2, 4) (0, 0) true 1 2), (stitch_form.mk (⟨#[120]⟩ : ByteArray) (1, 6) (1, 6) true 3 3), (stitch_form.mk (⟨#[121]⟩ : ByteArray) (1, 6) (1, 6) true 3 3), (stitch_form.mk (⟨#[115]⟩ : ByteArray) (0, 0) (0, 0) true 1 1), (stitch_form.mk (⟨#[]⟩ : ByteArray) (1, 200) (0, 0) false 0 2), (stitch_form.mk (⟨#[111]⟩ : ByteArray) (1, 200) (0, 0) true 2 0)].length : Int)) rfl (lb rfl) fun a S => ?_
  refine sPickF (.bool (decide (([(stitch_form.mk (⟨#[]⟩ : ByteArray) (0, 0) (0, 0) true 1 1), (stitch_form.mk (⟨#[]⟩ : ByteArray) (0, 0) (0, 0) false 0 1), (stitch_form.mk (⟨#[102]⟩ : ByteArray) (2, 4) (0, 0) true 2 1), (stitch_form.mk (⟨#[108]⟩ : ByteArray) (2, 4) (0, 0) true 2 1), (stitch_form.mk (⟨#[109]⟩ : ByteArray) (2, 4) (0, 0) true 1 2), (stitch_form.mk (⟨#[120]⟩ : ByteArray) (1, 6) (1, 6) true 3 3), (stitch_form.mk (⟨#[121]⟩ : ByteArray) (1, 6) (1, 6) true 3 3), (stitch_form.mk (⟨#[115]⟩ : ByteArray) (0, 0) (0, 0) true 1 1), (stitch_form.mk (⟨#[]⟩ : ByteArray) (1, 200) (0, 0) false 0 2), (stitch_form.mk (⟨#[111]⟩ : ByteArray) (1, 200) (0, 0) true 2 0)].length : Int) < (IntKind.i64.wrap p0)))) S (wN rfl) rfl rfl a4 rfl rfl (lb rfl) fun a S => ?_
  exact lT (⟨decide (([(stitch_form.mk (⟨#[]⟩ : ByteArray) (0, 0) (0, 0) true 1 1), (stitch_form.mk (⟨#[]⟩ : ByteArray) (0, 0) (0, 0) false 0 1), (stitch_form.mk (⟨#[102]⟩ : ByteArray) (2, 4) (0, 0) true 2 1), (stitch_form.mk (⟨#[108]⟩ : ByteArray) (2, 4) (0, 0) true 2 1), (stitch_form.mk (⟨#[109]⟩ : ByteArray) (2, 4) (0, 0) true 1 2), (stitch_form.mk (⟨#[120]⟩ : ByteArray) (1, 6) (1, 6) true 3 3), (stitch_form.mk (⟨#[121]⟩ : ByteArray) (1, 6) (1, 6) true 3 3), (stitch_form.mk (⟨#[115]⟩ : ByteArray) (0, 0) (0, 0) true 1 1), (stitch_form.mk (⟨#[]⟩ : ByteArray) (1, 200) (0, 0) false 0 2), (stitch_form.mk (⟨#[111]⟩ : ByteArray) (1, 200) (0, 0) true 2 0)].length : Int) < (IntKind.i64.wrap p0)), Option.some.inj h, S.fix [4, 0] [] (by decide) rfl rfl rfl⟩)
 obtain ⟨a9, rfl, S⟩ := hI
 have h := ao
 try dsimp only at h
 rcases iS h with ⟨a6, h⟩ | ⟨a6, h⟩
 ·refine sCondT S rfl a6 ?_
  refine sSeq (fun aq aa => sRegion (sBuild [] (gl_stitch_form (stitch_form.mk (⟨#[]⟩ : ByteArray) (0, 0) (0, 0) false 0 0)) S (wN rfl) rfl rfl rfl rfl (lb rfl) fun a S => ?_))
  refine sStore (p := b2) (off := 0) (T := 156) (vs := [.string (⟨#[]⟩ : ByteArray), iv 0, iv 0, iv 0, iv 0, .bool false, iv 0, iv 0]) (v := gv_stitch_form (stitch_form.mk (⟨#[]⟩ : ByteArray) (0, 0) (0, 0) false 0 0)) 0 [.string (⟨#[]⟩ : ByteArray), iv 0, iv 0, iv 0, iv 0, .bool false, iv 0, iv 0] S (wN rfl) rfl rfl rfl rfl rfl rfl rfl (by simp) rfl fun a w S => ?_
  refine sN S fun a S => ?_
  refine lT (aa _ _ ?_)
  obtain rfl := tS h
  have S := S.learn (fRep r_stitch_form (gv_stitch_form (stitch_form.mk (⟨#[]⟩ : ByteArray) (0, 0) (0, 0) false 0 0)) (stitch_form.mk (⟨#[]⟩ : ByteArray) (0, 0) (0, 0) false 0 0)) rfl
  exact wp_ret (rThen (sRet (.tuple #[gv_stitch_form (stitch_form.mk (⟨#[]⟩ : ByteArray) (0, 0) (0, 0) false 0 0), .bool false]) S (rsl2 rfl (rvN (c := 2) (t := 156) (T := 156) (p := b2) 0 [.string (⟨#[]⟩ : ByteArray), iv 0, iv 0, iv 0, iv 0, .bool false, iv 0, iv 0] S rfl rfl rfl rfl) (rvT (t := 3) (v := .bool false) S rfl)) ⟨(gv_stitch_form (stitch_form.mk (⟨#[]⟩ : ByteArray) (0, 0) (0, 0) false 0 0)), rfl, S.mem.sel [] [0] (by decide) rfl rfl⟩))
 refine sCondF S rfl a6 ?_
 refine wp_skip (leafT (a8 _ _ ?_))
 refine sSeq (fun ar ab => sRegion (sM S fun a S => ?_))
 refine sM S fun a S => ?_
 refine sBin _ S (wN rfl) rfl rfl rfl (bSubK _ _ _ _ .u8 p0 1) rfl (lb rfl) fun a S => ?_
 obtain ⟨a0, ac, h⟩ := bS h
 have S := S.shutR (r := r_stitch_form) (T := 156) (v := .slice a7 [(stitch_form.mk (⟨#[]⟩ : ByteArray) (0, 0) (0, 0) true 1 1), (stitch_form.mk (⟨#[]⟩ : ByteArray) (0, 0) (0, 0) false 0 1), (stitch_form.mk (⟨#[102]⟩ : ByteArray) (2, 4) (0, 0) true 2 1), (stitch_form.mk (⟨#[108]⟩ : ByteArray) (2, 4) (0, 0) true 2 1), (stitch_form.mk (⟨#[109]⟩ : ByteArray) (2, 4) (0, 0) true 1 2), (stitch_form.mk (⟨#[120]⟩ : ByteArray) (1, 6) (1, 6) true 3 3), (stitch_form.mk (⟨#[121]⟩ : ByteArray) (1, 6) (1, 6) true 3 3), (stitch_form.mk (⟨#[115]⟩ : ByteArray) (0, 0) (0, 0) true 1 1), (stitch_form.mk (⟨#[]⟩ : ByteArray) (1, 200) (0, 0) false 0 2), (stitch_form.mk (⟨#[111]⟩ : ByteArray) (1, 200) (0, 0) true 2 0)].length a5) (xs := [(stitch_form.mk (⟨#[]⟩ : ByteArray) (0, 0) (0, 0) true 1 1), (stitch_form.mk (⟨#[]⟩ : ByteArray) (0, 0) (0, 0) false 0 1), (stitch_form.mk (⟨#[102]⟩ : ByteArray) (2, 4) (0, 0) true 2 1), (stitch_form.mk (⟨#[108]⟩ : ByteArray) (2, 4) (0, 0) true 2 1), (stitch_form.mk (⟨#[109]⟩ : ByteArray) (2, 4) (0, 0) true 1 2), (stitch_form.mk (⟨#[120]⟩ : ByteArray) (1, 6) (1, 6) true 3 3), (stitch_form.mk (⟨#[121]⟩ : ByteArray) (1, 6) (1, 6) true 3 3), (stitch_form.mk (⟨#[115]⟩ : ByteArray) (0, 0) (0, 0) true 1 1), (stitch_form.mk (⟨#[]⟩ : ByteArray) (1, 200) (0, 0) false 0 2), (stitch_form.mk (⟨#[111]⟩ : ByteArray) (1, 200) (0, 0) true 2 0)]) 1 rfl
 obtain ⟨af, ae, S⟩ := pIdx (P := Try.prog) (r := r_stitch_form) (v := .slice a7 [(stitch_form.mk (⟨#[]⟩ : ByteArray) (0, 0) (0, 0) true 1 1), (stitch_form.mk (⟨#[]⟩ : ByteArray) (0, 0) (0, 0) false 0 1), (stitch_form.mk (⟨#[102]⟩ : ByteArray) (2, 4) (0, 0) true 2 1), (stitch_form.mk (⟨#[108]⟩ : ByteArray) (2, 4) (0, 0) true 2 1), (stitch_form.mk (⟨#[109]⟩ : ByteArray) (2, 4) (0, 0) true 1 2), (stitch_form.mk (⟨#[120]⟩ : ByteArray) (1, 6) (1, 6) true 3 3), (stitch_form.mk (⟨#[121]⟩ : ByteArray) (1, 6) (1, 6) true 3 3), (stitch_form.mk (⟨#[115]⟩ : ByteArray) (0, 0) (0, 0) true 1 1), (stitch_form.mk (⟨#[]⟩ : ByteArray) (1, 200) (0, 0) false 0 2), (stitch_form.mk (⟨#[111]⟩ : ByteArray) (1, 200) (0, 0) true 2 0)].length a5) (xs := [(stitch_form.mk (⟨#[]⟩ : ByteArray) (0, 0) (0, 0) true 1 1), (stitch_form.mk (⟨#[]⟩ : ByteArray) (0, 0) (0, 0) false 0 1), (stitch_form.mk (⟨#[102]⟩ : ByteArray) (2, 4) (0, 0) true 2 1), (stitch_form.mk (⟨#[108]⟩ : ByteArray) (2, 4) (0, 0) true 2 1), (stitch_form.mk (⟨#[109]⟩ : ByteArray) (2, 4) (0, 0) true 1 2), (stitch_form.mk (⟨#[120]⟩ : ByteArray) (1, 6) (1, 6) true 3 3), (stitch_form.mk (⟨#[121]⟩ : ByteArray) (1, 6) (1, 6) true 3 3), (stitch_form.mk (⟨#[115]⟩ : ByteArray) (0, 0) (0, 0) true 1 1), (stitch_form.mk (⟨#[]⟩ : ByteArray) (1, 200) (0, 0) false 0 2), (stitch_form.mk (⟨#[111]⟩ : ByteArray) (1, 200) (0, 0) true 2 0)]) (j := IntKind.u8.wrap (p0 - 1)) 165 156 0 S Try.underlying165 rfl rfl ac
 refine sIdxV S (wN rfl) rfl rfl rfl ae rfl (lb rfl) fun a S => ?_
 obtain ⟨ag, S⟩ := pLoad (r := r_stitch_form) (q := af) (x := a0) 0 S rfl
 obtain rfl : ag = gv_stitch_form a0 := S.mem.know (i := 1) (e := fRep r_stitch_form (ag) a0) rfl
 refine sLoadVN (vq := af) 0 [.string a0.letter, iv a0.a.1, iv a0.a.2, iv a0.b.1, iv a0.b.2, .bool a0.sided, iv a0.uses, iv a0.made] S (wN rfl) rfl rfl rfl rfl rfl rfl (lb rfl) fun a S => ?_
 refine sStore (p := b2) (off := 0) (T := 156) (vs := [.string (⟨#[]⟩ : ByteArray), iv 0, iv 0, iv 0, iv 0, .bool false, iv 0, iv 0]) (v := gv_stitch_form a0) 0 [.string a0.letter, iv a0.a.1, iv a0.a.2, iv a0.b.1, iv a0.b.2, .bool a0.sided, iv a0.uses, iv a0.made] S (wN rfl) rfl rfl rfl rfl rfl rfl rfl (by simp) rfl fun a w S => ?_
 refine sN S fun a S => ?_
 refine lT (ab _ _ ?_)
 obtain rfl := tS h
 exact wp_ret (sRet (.tuple #[gv_stitch_form a0, .bool true]) S (rsl2 rfl (rvN (c := 2) (t := 156) (T := 156) (p := b2) 0 [.string a0.letter, iv a0.a.1, iv a0.a.2, iv a0.b.1, iv a0.b.2, .bool a0.sided, iv a0.uses, iv a0.made] S rfl rfl rfl rfl) (rvT (t := 3) (v := .bool true) S rfl)) ⟨(gv_stitch_form a0), rfl, S.mem.sel [] [1] (by decide) rfl rfl⟩)
noncomputable def F_stitch_within (p0 : Int) (p1 : (Int × Int)) : Option Bool :=
 Option.bind (α := Bool) (
  if decide (p1.1 ≤ p0) then
   some (decide (p0 ≤ p1.2))
  else
   some false) fun o3 =>
 some o3
theorem c_stitch_within (E : Nat → Prop) (w0 : World) (p0 : Int) (p1 : (Int × Int)) (v1 : Value) (r : Bool) (h : F_stitch_within p0 p1 = some r) (S : St0 E [] w0 w0 [] [fRep r_A2_Int (v1) p1]) :
 Calls Try.prog 104 #[iv p0, v1] w0 (Ret (X := Unit) E [] w0 (fun _ => .bool r) (fun _ => []) (fun _ => [])) := by
 unfold F_stitch_within at h
 obtain rfl : v1 = .agg #[iv p1.1, iv p1.2] := S.know (i := 0) (e := fRep r_A2_Int (v1) p1) rfl
 refine sEnter (args := [iv p0, .agg #[iv p1.1, iv p1.2]]) 15 Try.func104 rfl rfl (by simp) S (fun a S => ?_)
 refine sSeq (fun K1 a4 => sRegion (sBox (v := .agg #[iv p1.1, iv p1.2]) S (wN rfl) rfl rfl [iv p1.1, iv p1.2] rfl rfl (lb rfl) fun a b2 w S => ?_))
 refine sN S fun a S => ?_
 refine lT (a4 _ _ ?_)
 obtain ⟨t4, h, g5⟩ := bS h
 refine sCut (fun a w => ∃ o3, o3 = t4 ∧ St [] E [] w0 15 a w [(4, .bool o3)] [] []) ?_ (fun a w hI => ?_)
 rotate_left
 ·obtain ⟨o3, rfl, S⟩ := hI
  have h := g5
  try dsimp only at h
  obtain rfl := tS h
  exact wp_ret (sRet (.bool o3) S (rsl1 rfl (rvT (t := 4) (v := .bool o3) S rfl)) ⟨(), rfl, S.mem.sel [] [] (by decide) rfl rfl⟩)
 refine sRegion (sM S fun a S => ?_)
 refine sIdxV S (wN rfl) rfl rfl rfl (idxV_arr (m := 2) (sz := 1) Try.underlying154 rfl (by decide) (by decide) 0) rfl (lb rfl) fun a S => ?_
 refine sLoad1 0 (iv p1.1) S (wN rfl) rfl rfl rfl rfl rfl rfl (lb rfl) fun a S => ?_
 refine sBin _ S (wN rfl) rfl rfl rfl (bGe _ _ _ _ .i64 p0 p1.1) rfl (lb rfl) fun a S => ?_
 refine sM S fun a S => ?_
 rcases iS h with ⟨a0, h⟩ | ⟨a0, h⟩
 rotate_left
 ·refine sSkN 4 4 true 9 S rfl rfl a0 rfl fun a S => ?_
  refine sPickF (.bool false) S (wN rfl) rfl rfl a0 rfl rfl (lb rfl) fun a S => ?_
  refine sN S fun a S => ?_
  exact lT (⟨false, Option.some.inj h, S.fix [] [] (by decide) rfl rfl rfl⟩)
 refine sMove (iv p0) S (wG 4 true 9 rfl rfl rfl a0) (.inl rfl) rfl rfl (lb rfl) fun a S => ?_
 refine sIdxV S (wG 4 true 9 rfl rfl rfl a0) rfl rfl rfl (idxV_arr (m := 2) (sz := 1) Try.underlying154 rfl (by decide) (by decide) 0) rfl (lb rfl) fun a S => ?_
 refine sLoad1 0 (iv p1.2) S (wG 4 true 9 rfl rfl rfl a0) rfl rfl rfl rfl rfl rfl (lb rfl) fun a S => ?_
 refine sBin _ S (wG 4 true 9 rfl rfl rfl a0) rfl rfl rfl (bLe _ _ _ _ .i64 p0 p1.2) rfl (lb rfl) fun a S => ?_
 refine sPickT (.bool (decide (p0 ≤ p1.2))) S (wN rfl) rfl rfl a0 rfl rfl (lb rfl) fun a S => ?_
 refine sN S fun a S => ?_
 exact lT (⟨decide (p0 ≤ p1.2), Option.some.inj h, S.fix [] [] (by decide) rfl rfl rfl⟩)
noncomputable def F_stitch_Check (p0 : api_Stitch) : Option Int :=
 (F_stitch_forms p0.Kind).bind fun r4 =>
 Option.bind (α := Bool) (
  if !r4.2 then
   some true
  else
   (F_stitch_within p0.A r4.1.a).bind fun a0 =>
   if !a0 then
    some true
   else
    (F_stitch_within p0.B r4.1.b).bind fun a4 =>
    if !a4 then
     some true
    else
     if p0.Purl then
      some (!r4.1.sided)
     else
      some false) fun o9 =>
 if o9 then
  some 8
 else
  some 0
theorem c_stitch_Check (E : Nat → Prop) (w0 : World) (p0 : api_Stitch) (v0 : Value) (r : Int) (h : F_stitch_Check p0 = some r) (S : St0 E [] w0 w0 [] [fRep r_api_Stitch (v0) p0]) :
 Calls Try.prog 88 #[v0] w0 (Ret (X := Unit) E [] w0 (fun _ => .int .i64 r) (fun _ => []) (fun _ => [])) := by
 unfold F_stitch_Check at h
 obtain rfl : v0 = .agg #[.int .u8 p0.Kind, .bool p0.Purl, iv p0.A, iv p0.B] := S.know (i := 0) (e := fRep r_api_Stitch (v0) p0) rfl
 refine sEnter (args := [.agg #[.int .u8 p0.Kind, .bool p0.Purl, iv p0.A, iv p0.B]]) 38 Try.func88 rfl rfl (by simp) S (fun a S => ?_)
 refine sSeq (fun K1 af => sRegion (sBox (v := .agg #[.int .u8 p0.Kind, .bool p0.Purl, iv p0.A, iv p0.B]) S (wN rfl) rfl rfl [.int .u8 p0.Kind, .bool p0.Purl, iv p0.A, iv p0.B] rfl rfl (lb rfl) fun a b2 w S => ?_))
 refine sN S fun a S => ?_
 refine lT (af _ _ (sSeq (fun K3 ag => sRegion (sField (b := b2) (off := 0) 0 0 S (wN rfl) rfl rfl rfl rfl rfl (lb rfl) fun a S => ?_))))
 refine sLoad1 0 (.int .u8 p0.Kind) S (wN rfl) rfl rfl rfl rfl rfl rfl (lb rfl) fun a S => ?_
 obtain ⟨r4, ah, h⟩ := bS h
 refine sCall (X := Value) (f := 103) (vs := [.int .u8 p0.Kind]) (val := c_stitch_forms_val r4) (B' := fun _ => []) (D' := c_stitch_forms_D r4) [] [eBox b2 81 [.int .u8 p0.Kind, .bool p0.Purl, iv p0.A, iv p0.B]] [] [0] [] S (wN rfl) rfl callee103 rfl (by decide) rfl rfl (fun E1 w1 S1 => c_stitch_forms E1 w1 p0.Kind r4 ah S1) rfl (lb rfl) fun u6 a w S => ?_
 obtain rfl : u6 = gv_stitch_form r4.1 := S.mem.know (i := 0) (e := fRep r_stitch_form (u6) r4.1) rfl
 refine sM S fun a S => ?_
 refine sExtract (vs := [gv_stitch_form r4.1, .bool r4.2]) (gv_stitch_form r4.1) S (wN rfl) rfl rfl rfl rfl (lb rfl) fun a S => ?_
 refine sExtract (vs := [gv_stitch_form r4.1, .bool r4.2]) (.bool r4.2) S (wN rfl) rfl rfl rfl rfl (lb rfl) fun a S => ?_
 refine sAlloc (gv_stitch_form (stitch_form.mk (⟨#[]⟩ : ByteArray) (0, 0) (0, 0) false 0 0)) S (wN rfl) rfl rfl (gl_stitch_form (stitch_form.mk (⟨#[]⟩ : ByteArray) (0, 0) (0, 0) false 0 0)) rfl rfl (lb rfl) fun a b7 w S => ?_
 refine sStore (p := b7) (off := 0) (T := 156) (vs := [.string (⟨#[]⟩ : ByteArray), iv 0, iv 0, iv 0, iv 0, .bool false, iv 0, iv 0]) (v := gv_stitch_form r4.1) 0 [.string r4.1.letter, iv r4.1.a.1, iv r4.1.a.2, iv r4.1.b.1, iv r4.1.b.2, .bool r4.1.sided, iv r4.1.uses, iv r4.1.made] S (wN rfl) rfl rfl rfl rfl rfl rfl rfl (by simp) rfl fun a w S => ?_
 refine sN S fun a S => ?_
 refine lT (ag _ _ (sSeq (fun K8 ai => ?_)))
 obtain ⟨aj, h, ak⟩ := bS h
 refine sCut (fun a w => ∃ o9, o9 = aj ∧ St [] E [] w0 38 a w [(37, .bool o9)] [] []) ?_ (fun a w hI => ?_)
 rotate_left
 ·obtain ⟨o9, rfl, S⟩ := hI
  have h := ak
  try dsimp only at h
  rcases iS h with ⟨a7, h⟩ | ⟨a7, h⟩
  ·refine sCondT S rfl a7 ?_
   refine sSeq (fun am aa => sRegion (sN S fun a S => ?_))
   refine lT (aa _ _ ?_)
   obtain rfl := tS h
   exact wp_ret (rThen (sRet (iv 8) S (rsl1 rfl (rvT (t := 2) (v := iv 8) S rfl)) ⟨(), rfl, S.mem.sel [] [] (by decide) rfl rfl⟩))
  refine sCondF S rfl a7 ?_
  refine wp_skip (leafT (ai _ _ ?_))
  refine sSeq (fun ao ab => sRegion (sN S fun a S => ?_))
  refine lT (ab _ _ ?_)
  obtain rfl := tS h
  exact wp_ret (sRet (iv 0) S (rsl1 rfl (rvT (t := 2) (v := iv 0) S rfl)) ⟨(), rfl, S.mem.sel [] [] (by decide) rfl rfl⟩)
 refine sRegion (sM S fun a S => ?_)
 refine sNot (b := r4.2) S (wN rfl) rfl rfl rfl (lb rfl) fun a S => ?_
 refine sM S fun a S => ?_
 rcases iS h with ⟨a4, h⟩ | ⟨a4, h⟩
 ·refine sSkN 6 2 false 13 S rfl rfl a4 rfl fun a S => ?_
  refine sPickT (.bool true) S (wN rfl) rfl rfl a4 rfl rfl (lb rfl) fun a S => ?_
  refine sM S fun a S => ?_
  refine sSkN 6 10 false 21 S rfl rfl rfl rfl fun a S => ?_
  refine sPickT (.bool true) S (wN rfl) rfl rfl rfl rfl rfl (lb rfl) fun a S => ?_
  refine sM S fun a S => ?_
  refine sSkN 3 18 false 29 S rfl rfl rfl rfl fun a S => ?_
  refine sSkipU 21 true 32 33 S rfl rfl rfl rfl (lb rfl) fun a S => ?_
  refine sSkipU 21 true 32 34 S rfl rfl rfl rfl (lb rfl) fun a S => ?_
  refine sSkipU 21 true 32 35 S rfl rfl rfl rfl (lb rfl) fun a S => ?_
  refine sSk S rfl rfl rfl rfl rfl rfl fun a S => ?_
  refine sPickT (.bool true) S (wN rfl) rfl rfl rfl rfl rfl (lb rfl) fun a S => ?_
  exact lT (⟨true, Option.some.inj h, S.fix [] [] (by decide) rfl rfl rfl⟩)
 refine sField (b := b2) (off := 0) 2 2 S (wG 2 false 13 rfl rfl rfl a4) rfl rfl rfl rfl rfl (lb rfl) fun a S => ?_
 refine sLoad1 1 (iv p0.A) S (wG 2 false 13 rfl rfl rfl a4) rfl rfl rfl rfl rfl rfl (lb rfl) fun a S => ?_
 refine sField (b := b7) (off := 0) 1 1 S (wG 2 false 13 rfl rfl rfl a4) rfl rfl rfl rfl rfl (lb rfl) fun a S => ?_
 refine sLoadN (p := b7) (off := 1) (T := 156) (vs := (gl_stitch_form r4.1)) 0 [iv r4.1.a.1, iv r4.1.a.2] S (wG 2 false 13 rfl rfl rfl a4) rfl rfl rfl rfl rfl rfl rfl (lb rfl) fun a S => ?_
 obtain ⟨a8, ac, h⟩ := bS h
 have S1 := S.mem
 have S1 := S1.learn (fRep r_A2_Int (.agg #[iv r4.1.a.1, iv r4.1.a.2]) r4.1.a) rfl
 refine sCallQ (X := Unit) (f := 104) (vs := [iv p0.A, .agg #[iv r4.1.a.1, iv r4.1.a.2]]) (val := fun _ => .bool a8) S (wG 2 false 13 rfl rfl rfl a4) rfl callee104 rfl (S1.quiet [0] rfl) (fun E1 w1 S1 => c_stitch_within E1 w1 p0.A r4.1.a (.agg #[iv r4.1.a.1, iv r4.1.a.2]) a8 ac S1) rfl (lb rfl) fun _ a w S => ?_
 refine sNot (b := a8) S (wG 2 false 13 rfl rfl rfl a4) rfl rfl rfl (lb rfl) fun a S => ?_
 refine sPickF (.bool (!a8)) S (wN rfl) rfl rfl a4 rfl rfl (lb rfl) fun a S => ?_
 refine sM S fun a S => ?_
 rcases iS h with ⟨a5, h⟩ | ⟨a5, h⟩
 ·refine sSkN 6 10 false 21 S rfl rfl a5 rfl fun a S => ?_
  refine sPickT (.bool true) S (wN rfl) rfl rfl a5 rfl rfl (lb rfl) fun a S => ?_
  refine sM S fun a S => ?_
  refine sSkN 3 18 false 29 S rfl rfl rfl rfl fun a S => ?_
  refine sSkipU 21 true 32 33 S rfl rfl rfl rfl (lb rfl) fun a S => ?_
  refine sSkipU 21 true 32 34 S rfl rfl rfl rfl (lb rfl) fun a S => ?_
  refine sSkipU 21 true 32 35 S rfl rfl rfl rfl (lb rfl) fun a S => ?_
  refine sSk S rfl rfl rfl rfl rfl rfl fun a S => ?_
  refine sPickT (.bool true) S (wN rfl) rfl rfl rfl rfl rfl (lb rfl) fun a S => ?_
  exact lT (⟨true, Option.some.inj h, S.fix [] [] (by decide) rfl rfl rfl⟩)
 refine sField (b := b2) (off := 0) 3 3 S (wG 10 false 21 rfl rfl rfl a5) rfl rfl rfl rfl rfl (lb rfl) fun a S => ?_
 refine sLoad1 1 (iv p0.B) S (wG 10 false 21 rfl rfl rfl a5) rfl rfl rfl rfl rfl rfl (lb rfl) fun a S => ?_
 refine sField (b := b7) (off := 0) 3 3 S (wG 10 false 21 rfl rfl rfl a5) rfl rfl rfl rfl rfl (lb rfl) fun a S => ?_
 refine sLoadN (p := b7) (off := 3) (T := 156) (vs := (gl_stitch_form r4.1)) 0 [iv r4.1.b.1, iv r4.1.b.2] S (wG 10 false 21 rfl rfl rfl a5) rfl rfl rfl rfl rfl rfl rfl (lb rfl) fun a S => ?_
 obtain ⟨a9, ae, h⟩ := bS h
 have S1 := S.mem
 have S1 := S1.learn (fRep r_A2_Int (.agg #[iv r4.1.b.1, iv r4.1.b.2]) r4.1.b) rfl
 refine sCallQ (X := Unit) (f := 104) (vs := [iv p0.B, .agg #[iv r4.1.b.1, iv r4.1.b.2]]) (val := fun _ => .bool a9) S (wG 10 false 21 rfl rfl rfl a5) rfl callee104 rfl (S1.quiet [0] rfl) (fun E1 w1 S1 => c_stitch_within E1 w1 p0.B r4.1.b (.agg #[iv r4.1.b.1, iv r4.1.b.2]) a9 ae S1) rfl (lb rfl) fun _ a w S => ?_
 refine sNot (b := a9) S (wG 10 false 21 rfl rfl rfl a5) rfl rfl rfl (lb rfl) fun a S => ?_
 refine sPickF (.bool (!a9)) S (wN rfl) rfl rfl a5 rfl rfl (lb rfl) fun a S => ?_
 refine sM S fun a S => ?_
 rcases iS h with ⟨a0, h⟩ | ⟨a0, h⟩
 ·refine sSkN 3 18 false 29 S rfl rfl a0 rfl fun a S => ?_
  refine sSkipU 21 true 32 33 S rfl rfl rfl rfl (lb rfl) fun a S => ?_
  refine sSkipU 21 true 32 34 S rfl rfl rfl rfl (lb rfl) fun a S => ?_
  refine sSkipU 21 true 32 35 S rfl rfl rfl rfl (lb rfl) fun a S => ?_
  refine sSk S rfl rfl rfl a0 rfl rfl fun a S => ?_
  refine sPickT (.bool true) S (wN rfl) rfl rfl a0 rfl rfl (lb rfl) fun a S => ?_
  exact lT (⟨true, Option.some.inj h, S.fix [] [] (by decide) rfl rfl rfl⟩)
 refine sField (b := b2) (off := 0) 1 1 S (wG 18 false 29 rfl rfl rfl a0) rfl rfl rfl rfl rfl (lb rfl) fun a S => ?_
 refine sLoad1 1 (.bool p0.Purl) S (wG 18 false 29 rfl rfl rfl a0) rfl rfl rfl rfl rfl rfl (lb rfl) fun a S => ?_
 refine sMove (.bool p0.Purl) S (wG 18 false 29 rfl rfl rfl a0) (.inl rfl) rfl rfl (lb rfl) fun a S => ?_
 rcases iS h with ⟨a6, h⟩ | ⟨a6, h⟩
 rotate_left
 ·refine sSkN 3 21 true 32 S rfl rfl a6 rfl fun a S => ?_
  refine sPickF (.bool false) S (wG 18 false 29 rfl rfl rfl a0) rfl rfl a6 rfl rfl (lb rfl) fun a S => ?_
  refine sPickF (.bool false) S (wN rfl) rfl rfl a0 rfl rfl (lb rfl) fun a S => ?_
  exact lT (⟨false, Option.some.inj h, S.fix [] [] (by decide) rfl rfl rfl⟩)
 refine sField (b := b7) (off := 0) 5 5 S (wG 21 true 32 rfl rfl rfl a6) rfl rfl rfl rfl rfl (lb rfl) fun a S => ?_
 refine sLoad1 0 (.bool r4.1.sided) S (wG 21 true 32 rfl rfl rfl a6) rfl rfl rfl rfl rfl rfl (lb rfl) fun a S => ?_
 refine sNot (b := r4.1.sided) S (wG 21 true 32 rfl rfl rfl a6) rfl rfl rfl (lb rfl) fun a S => ?_
 refine sPickT (.bool (!r4.1.sided)) S (wG 18 false 29 rfl rfl rfl a0) rfl rfl a6 rfl rfl (lb rfl) fun a S => ?_
 refine sPickF (.bool (!r4.1.sided)) S (wN rfl) rfl rfl a0 rfl rfl (lb rfl) fun a S => ?_
 exact lT (⟨!r4.1.sided, Option.some.inj h, S.fix [] [] (by decide) rfl rfl rfl⟩)
noncomputable def F_stitch_All_1 (p0 : api_Stitch) : Option Bool :=
 (F_stitch_Check p0).bind fun r4 =>
 some (r4 != 0)
theorem c_stitch_All_1 (E : Nat → Prop) (w0 : World) (p0 : api_Stitch) (v0 : Value) (r : Bool) (h : F_stitch_All_1 p0 = some r) (S : St0 E [] w0 w0 [] [fRep r_api_Stitch (v0) p0]) :
 Calls Try.prog 87 #[v0] w0 (Ret (X := Unit) E [] w0 (fun _ => .bool r) (fun _ => []) (fun _ => [])) := by
 unfold F_stitch_All_1 at h
 obtain rfl : v0 = .agg #[.int .u8 p0.Kind, .bool p0.Purl, iv p0.A, iv p0.B] := S.know (i := 0) (e := fRep r_api_Stitch (v0) p0) rfl
 refine sEnter (args := [.agg #[.int .u8 p0.Kind, .bool p0.Purl, iv p0.A, iv p0.B]]) 6 Try.func87 rfl rfl (by simp) S (fun a S => ?_)
 refine sSeq (fun K1 a0 => sRegion (sBox (v := .agg #[.int .u8 p0.Kind, .bool p0.Purl, iv p0.A, iv p0.B]) S (wN rfl) rfl rfl [.int .u8 p0.Kind, .bool p0.Purl, iv p0.A, iv p0.B] rfl rfl (lb rfl) fun a b2 w S => ?_))
 refine sN S fun a S => ?_
 refine lT (a0 _ _ (sSeq (fun K3 a4 => sRegion (sLoadN (p := b2) (off := 0) (T := 81) (vs := [.int .u8 p0.Kind, .bool p0.Purl, iv p0.A, iv p0.B]) 0 [.int .u8 p0.Kind, .bool p0.Purl, iv p0.A, iv p0.B] S (wN rfl) rfl rfl rfl rfl rfl rfl rfl (lb rfl) fun a S => ?_))))
 obtain ⟨r4, a5, h⟩ := bS h
 have S1 := S.mem
 refine sCq [.agg #[.int .u8 p0.Kind, .bool p0.Purl, iv p0.A, iv p0.B]] (iv r4) S callee88 (S1.quiet [0] rfl) (fun E1 w1 S1 => c_stitch_Check E1 w1 p0 (.agg #[.int .u8 p0.Kind, .bool p0.Purl, iv p0.A, iv p0.B]) r4 a5 S1) fun a w S => ?_
 refine sBin _ S (wN rfl) rfl rfl rfl (bNe _ _ _ _ .i64 r4 0) rfl (lb rfl) fun a S => ?_
 refine sN S fun a S => ?_
 refine lT (a4 _ _ ?_)
 obtain rfl := tS h
 exact wp_ret (sRet (.bool (r4 != 0)) S (rsl1 rfl (rvT (t := 2) (v := .bool (r4 != 0)) S rfl)) ⟨(), rfl, S.mem.sel [] [] (by decide) rfl rfl⟩)
noncomputable def slices_IndexFunc___api_Stitch_api_Stitch__s0_l1 (p0 : (List api_Stitch)) : Int → Option (Int ⊕ (Int ⊕ Unit)) := fun s0 => match s0 with
 | s7 =>
  if decide (s7 < (p0.length : Int)) then
   (idxO p0 s7).bind fun a0 =>
   (F_stitch_All_1 a0).bind fun a4 =>
   if a4 then
    some (.inr (.inl s7))
   else
    some (.inl (w64 (s7 + 1)))
  else
   some (.inr (.inr ()))
noncomputable def F_slices_IndexFunc___api_Stitch_api_Stitch__s0 (p0 : (List api_Stitch)) : Option Int :=
 Option.bind (α := Unit ⊕ Int) (
  (whileO (slices_IndexFunc___api_Stitch_api_Stitch__s0_l1 p0) 0).bind fun z0 => match z0 with
   | .inl z =>
    some (.inr z)
   | .inr _ =>
    some (.inl ())) fun z0 => match z0 with
  | .inl _ =>
   some (-1)
  | .inr z =>
   some z
theorem c_slices_IndexFunc___api_Stitch_api_Stitch__s0 (E : Nat → Prop) (w0 : World) (p0 : (List api_Stitch)) (v0 : Value) (r : Int) (h : F_slices_IndexFunc___api_Stitch_api_Stitch__s0 p0 = some r) (S : St0 E [] w0 w0 [] [fRep (rL r_api_Stitch) (v0) p0]) :
 Calls Try.prog 102 #[v0, .func (.func 87) #[] #[]] w0 (Ret (X := Unit) E [] w0 (fun _ => .int .i64 r) (fun _ => []) (fun _ => [])) := by
 unfold F_slices_IndexFunc___api_Stitch_api_Stitch__s0 at h
 obtain ⟨a6, a7, _, rfl, _⟩ := S.know (i := 0) (e := fRep (rL r_api_Stitch) (v0) p0) rfl
 refine sEnter (args := [.slice a6 p0.length a7, .func (.func 87) #[] #[]]) 19 Try.func102 rfl rfl (by simp) S (fun a S => ?_)
 refine sSeq (fun K3 ap => sRegion (sN S fun a S => ?_))
 refine lT (ap _ _ ?_)
 obtain ⟨t4, h, g5⟩ := bS h
 refine sCut (fun a w => .inl () = t4 ∧ St [] E [] w0 19 a w [] [] []) ?_ (fun a w hI => ?_)
 rotate_left
 ·obtain ⟨rfl, S⟩ := hI
  have h := g5
  try dsimp only at h
  refine sSeq (fun ar a8 => sRegion (sN S fun a S => ?_))
  refine lT (a8 _ _ ?_)
  obtain rfl := tS h
  exact wp_ret (sRet (iv (-1)) S (rsl1 rfl (rvT (t := 4) (v := iv (-1)) S rfl)) ⟨(), rfl, S.mem.sel [] [] (by decide) rfl rfl⟩)
 refine sSeq (fun K6 aq => sRegion (sM S fun a S => ?_))
 refine sLen S (wN rfl) rfl Try.underlying47 rfl rfl (lb rfl) fun a S => ?_
 refine sM S fun a S => ?_
 refine lT (aq _ _ (wp_block ?_))
 obtain ⟨au, hl, g9⟩ := bS h
 refine sLoop hl (fun s0 a w => match s0 with | s7 => St [] E [] w0 19 a w [(0, .slice a6 p0.length a7), (1, .func (.func 87) #[] #[]), (7, iv (p0.length : Int)), (8, iv s7)] [] [fRep (rL r_api_Stitch) (.slice a6 p0.length a7) p0]) (S.fix [] [0] (by decide) rfl rfl rfl) ?_
 clear hl h
 intro s7 a w c0 hI h aj
 unfold slices_IndexFunc___api_Stitch_api_Stitch__s0_l1 at h
 dsimp only at h hI
 have S := hI
 refine sSeq (fun av a9 => sRegion (sBin _ S (wN rfl) rfl rfl rfl (bLt _ _ _ _ .i64 s7 (p0.length : Int)) rfl (lb rfl) fun a S => ?_))
 refine lT (a9 _ _ (sSeq (fun aw aa => ?_)))
 rcases iS h with ⟨a4, h⟩ | ⟨a4, h⟩
 rotate_left
 ·refine sCondF S rfl a4 ?_
  obtain rfl := tS h
  obtain rfl := aj _ rfl
  have h := g9
  try dsimp only at h
  exact wp_exit (xThen (xThen (xHit (leafT (⟨Option.some.inj h, S.fix [] [] (by decide) rfl rfl rfl⟩)))))
 refine sCondT S rfl a4 ?_
 refine wp_skip (leafT (aa _ _ ?_))
 refine sSeq (fun ax ab => wp_block ?_)
 refine sSeq (fun ay ac => sRegion (sM S fun a S => ?_))
 refine sN S fun a S => ?_
 refine lT (ac _ _ (sSeq (fun az ae => sRegion (sM S fun a S => ?_))))
 refine sM S fun a S => ?_
 refine sM S fun a S => ?_
 obtain ⟨a0, af, h⟩ := bS h
 obtain ⟨ak, ag, S⟩ := pIdx (P := Try.prog) (r := r_api_Stitch) (v := .slice a6 p0.length a7) (xs := p0) (j := s7) 47 81 0 S Try.underlying47 rfl rfl af
 refine sIdxV S (wN rfl) rfl rfl rfl ag rfl (lb rfl) fun a S => ?_
 obtain ⟨am, S⟩ := pLoad (r := r_api_Stitch) (q := ak) (x := a0) 0 S rfl
 obtain rfl : am = .agg #[.int .u8 a0.Kind, .bool a0.Purl, iv a0.A, iv a0.B] := S.mem.know (i := 1) (e := fRep r_api_Stitch (am) a0) rfl
 refine sLoadVN (vq := ak) 0 [.int .u8 a0.Kind, .bool a0.Purl, iv a0.A, iv a0.B] S (wN rfl) rfl rfl rfl rfl rfl rfl (lb rfl) fun a S => ?_
 obtain ⟨ao, ah, h⟩ := bS h
 have S1 := S.mem
 refine sCallVQ (X := Unit) (g := 87) (vs := [.agg #[.int .u8 a0.Kind, .bool a0.Purl, iv a0.A, iv a0.B]]) (caps := []) (val := fun _ => .bool ao) S (wN rfl) rfl rfl callee87 rfl (S1.quiet [1] rfl) (fun E1 w1 S1 => c_stitch_All_1 E1 w1 a0 (.agg #[.int .u8 a0.Kind, .bool a0.Purl, iv a0.A, iv a0.B]) ao ah S1) rfl (lb rfl) fun _ a w S => ?_
 refine lT (ae _ _ ?_)
 rcases iS h with ⟨a5, h⟩ | ⟨a5, h⟩
 rotate_left
 ·refine sCondF S rfl a5 ?_
  refine wp_skip (leafB (leafT (ab _ _ ?_)))
  refine sRegion (sBin _ S (wN rfl) rfl rfl rfl (bAdd _ _ _ _ s7 1) rfl (lb rfl) fun a S => ?_)
  refine sM S fun a S => ?_
  exact lT (⟨w64 (s7 + 1), (Option.some.inj h).symm, (S.fix [] [3] (by decide) rfl rfl rfl)⟩)
 refine sCondT S rfl a5 ?_
 refine sSeq (fun aA ai => sRegion (sM S fun a S => ?_))
 refine sN S fun a S => ?_
 refine lT (ai _ _ ?_)
 obtain rfl := tS h
 obtain rfl := aj _ rfl
 have h := g9
 try dsimp only at h
 obtain rfl := tS h
 have h := g5
 try dsimp only at h
 obtain rfl := tS h
 exact wp_ret (rBlock (rThen (rThen (rBlock (rThen (sRet (iv s7) S (rsl1 rfl (rvT (t := 4) (v := iv s7) S rfl)) ⟨(), rfl, S.mem.sel [] [] (by decide) rfl rfl⟩))))))
noncomputable def F_slices_ContainsFunc___api_Stitch_api_Stitch__s0 (p0 : (List api_Stitch)) : Option Bool :=
 (F_slices_IndexFunc___api_Stitch_api_Stitch__s0 p0).bind fun r5 =>
 some (decide (0 ≤ r5))
theorem c_slices_ContainsFunc___api_Stitch_api_Stitch__s0 (E : Nat → Prop) (w0 : World) (p0 : (List api_Stitch)) (v0 : Value) (r : Bool) (h : F_slices_ContainsFunc___api_Stitch_api_Stitch__s0 p0 = some r) (S : St0 E [] w0 w0 [] [fRep (rL r_api_Stitch) (v0) p0]) :
 Calls Try.prog 86 #[v0, .func (.func 87) #[] #[]] w0 (Ret (X := Unit) E [] w0 (fun _ => .bool r) (fun _ => []) (fun _ => [])) := by
 unfold F_slices_ContainsFunc___api_Stitch_api_Stitch__s0 at h
 obtain ⟨a0, a4, _, rfl, _⟩ := S.know (i := 0) (e := fRep (rL r_api_Stitch) (v0) p0) rfl
 refine sEnter (args := [.slice a0 p0.length a4, .func (.func 87) #[] #[]]) 9 Try.func86 rfl rfl (by simp) S (fun a S => ?_)
 refine sSeq (fun K3 a5 => sRegion (sN S fun a S => ?_))
 refine lT (a5 _ _ (sSeq (fun K4 a6 => sRegion (sM S fun a S => ?_))))
 refine sM S fun a S => ?_
 obtain ⟨r5, a7, h⟩ := bS h
 have S1 := S.mem
 refine sCq [.slice a0 p0.length a4, .func (.func 87) #[] #[]] (iv r5) S callee102 (S1.quiet [0] rfl) (fun E1 w1 S1 => c_slices_IndexFunc___api_Stitch_api_Stitch__s0 E1 w1 p0 (.slice a0 p0.length a4) r5 a7 S1) fun a w S => ?_
 refine sBin _ S (wN rfl) rfl rfl rfl (bGe _ _ _ _ .i64 r5 0) rfl (lb rfl) fun a S => ?_
 refine sN S fun a S => ?_
 refine lT (a6 _ _ ?_)
 obtain rfl := tS h
 exact wp_ret (sRet (.bool (decide (0 ≤ r5))) S (rsl1 rfl (rvT (t := 4) (v := .bool (decide (0 ≤ r5))) S rfl)) ⟨(), rfl, S.mem.sel [] [] (by decide) rfl rfl⟩)
noncomputable def F_stitch_loops (p0 : api_Stitch) (p1 : Int) : Option Int :=
 (idxO ([0, 1, p0.A, w64 (p0.A + p0.B)] : List Int) p1).bind fun x4 =>
 some x4
theorem c_stitch_loops (E : Nat → Prop) (w0 : World) (p0 : api_Stitch) (v0 : Value) (p1 : Int) (r : Int) (h : F_stitch_loops p0 p1 = some r) (S : St0 E [] w0 w0 [] [fRep r_api_Stitch (v0) p0]) :
 Calls Try.prog 105 #[v0, iv p1] w0 (Ret (X := Unit) E [] w0 (fun _ => .int .i64 r) (fun _ => []) (fun _ => [])) := by
 unfold F_stitch_loops at h
 obtain rfl : v0 = .agg #[.int .u8 p0.Kind, .bool p0.Purl, iv p0.A, iv p0.B] := S.know (i := 0) (e := fRep r_api_Stitch (v0) p0) rfl
 refine sEnter (args := [.agg #[.int .u8 p0.Kind, .bool p0.Purl, iv p0.A, iv p0.B], iv p1]) 15 Try.func105 rfl rfl (by simp) S (fun a S => ?_)
 refine sSeq (fun K1 a0 => sRegion (sBox (v := .agg #[.int .u8 p0.Kind, .bool p0.Purl, iv p0.A, iv p0.B]) S (wN rfl) rfl rfl [.int .u8 p0.Kind, .bool p0.Purl, iv p0.A, iv p0.B] rfl rfl (lb rfl) fun a b2 w S => ?_))
 refine sN S fun a S => ?_
 refine lT (a0 _ _ (sSeq (fun K3 a4 => sRegion (sField (b := b2) (off := 0) 2 2 S (wN rfl) rfl rfl rfl rfl rfl (lb rfl) fun a S => ?_))))
 refine sLoad1 0 (iv p0.A) S (wN rfl) rfl rfl rfl rfl rfl rfl (lb rfl) fun a S => ?_
 refine sField (b := b2) (off := 0) 2 2 S (wN rfl) rfl rfl rfl rfl rfl (lb rfl) fun a S => ?_
 refine sLoad1 0 (iv p0.A) S (wN rfl) rfl rfl rfl rfl rfl rfl (lb rfl) fun a S => ?_
 refine sField (b := b2) (off := 0) 3 3 S (wN rfl) rfl rfl rfl rfl rfl (lb rfl) fun a S => ?_
 refine sLoad1 0 (iv p0.B) S (wN rfl) rfl rfl rfl rfl rfl rfl (lb rfl) fun a S => ?_
 refine sBin _ S (wN rfl) rfl rfl rfl (bAdd _ _ _ _ p0.A p0.B) rfl (lb rfl) fun a S => ?_
 refine sBuild [(0, iv 0), (1, iv 1), (2, iv p0.A), (3, iv (w64 (p0.A + p0.B)))] [iv 0, iv 1, iv p0.A, iv (w64 (p0.A + p0.B))] S (wN rfl) rfl rfl rfl rfl (lb rfl) fun a S => ?_
 refine sM S fun a S => ?_
 obtain ⟨x4, a5, h⟩ := bS h
 refine sIndexA (g := fun z => .int .i64 z) (xs := ([0, 1, p0.A, w64 (p0.A + p0.B)] : List Int)) (j := p1) (k := .i64) 4 [iv 0, iv 1, iv p0.A, iv (w64 (p0.A + p0.B))] S (wN rfl) rfl Try.underlying129 rfl rfl rfl rfl rfl rfl a5 rfl (lb rfl) fun a S => ?_
 refine sN S fun a S => ?_
 refine lT (a4 _ _ ?_)
 obtain rfl := tS h
 exact wp_ret (sRet (iv x4) S (rsl1 rfl (rvT (t := 4) (v := iv x4) S rfl)) ⟨(), rfl, S.mem.sel [] [] (by decide) rfl rfl⟩)
noncomputable def stitch_sum_l1 (p0 : (List api_Stitch)) : (Int × Int × Int) → Option ((Int × Int × Int) ⊕ (Int × Int)) := fun s0 => match s0 with
 | (s9, a5, a0) =>
  if decide (a0 < (p0.length : Int)) then
   (idxO p0 a0).bind fun a4 =>
   (F_stitch_forms a4.Kind).bind fun a6 =>
   (F_stitch_loops a4 a6.1.uses).bind fun a7 =>
   (F_stitch_loops a4 a6.1.made).bind fun a8 =>
   some (.inl (w64 (s9 + a7), w64 (a5 + a8), w64 (a0 + 1)))
  else
   some (.inr (s9, a5))
noncomputable def F_stitch_sum (p0 : (List api_Stitch)) : Option (Int × Int) :=
 Option.bind (α := (Int × Int)) (
  (whileO (stitch_sum_l1 p0) (0, 0, 0)).bind fun (a0, a4) =>
   some (a0, a4)) fun (o4, o5) =>
 some (o4, o5)
theorem c_stitch_sum (E : Nat → Prop) (w0 : World) (p0 : (List api_Stitch)) (v0 : Value) (r : (Int × Int)) (h : F_stitch_sum p0 = some r) (S : St0 E [] w0 w0 [] [fRep (rL r_api_Stitch) (v0) p0]) :
 Calls Try.prog 89 #[v0] w0 (Ret (X := Unit) E [] w0 (fun _ => .tuple #[.int .i64 r.1, .int .i64 r.2]) (fun _ => []) (fun _ => [])) := by
 unfold F_stitch_sum at h
 obtain ⟨a9, aa, _, rfl, _⟩ := S.know (i := 0) (e := fRep (rL r_api_Stitch) (v0) p0) rfl
 refine sEnter (args := [.slice a9 p0.length aa]) 35 Try.func89 rfl rfl (by simp) S (fun a S => ?_)
 refine sSeq (fun K3 az => sRegion (sN S fun a S => ?_))
 refine sN S fun a S => ?_
 refine lT (az _ _ ?_)
 obtain ⟨t6, h, g7⟩ := bS h
 refine sCut (fun a w => ∃ o4, ∃ o5, (o4, o5) = t6 ∧ St [] E [] w0 35 a w [(2, iv o4), (3, iv o5)] [] []) ?_ (fun a w hI => ?_)
 rotate_left
 ·obtain ⟨o4, o5, rfl, S⟩ := hI
  have h := g7
  try dsimp only at h
  refine sSeq (fun aG ae => sRegion (sM S fun a S => ?_))
  refine sM S fun a S => ?_
  refine sN S fun a S => ?_
  refine sN S fun a S => ?_
  refine lT (ae _ _ ?_)
  obtain rfl := tS h
  exact wp_ret (sRet (.tuple #[iv o4, iv o5]) S (rsl2 rfl (rvT (t := 2) (v := iv o4) S rfl) (rvT (t := 3) (v := iv o5) S rfl)) ⟨(), rfl, S.mem.sel [] [] (by decide) rfl rfl⟩)
 refine sSeq (fun K8 aA => sRegion (sM S fun a S => ?_))
 refine sLen S (wN rfl) rfl Try.underlying47 rfl rfl (lb rfl) fun a S => ?_
 refine sM S fun a S => ?_
 refine lT (aA _ _ (wp_block ?_))
 obtain ⟨aH, hl, aC⟩ := bS h
 refine sLoop hl (fun s0 a w => match s0 with | (s9, a7, a6) => St [] E [] w0 35 a w [(2, iv s9), (3, iv a7), (8, .slice a9 p0.length aa), (9, iv (p0.length : Int)), (10, iv a6)] [] [fRep (rL r_api_Stitch) (.slice a9 p0.length aa) p0]) (S.fix [] [0] (by decide) rfl rfl rfl) ?_
 clear hl h
 intro s0 a w c0 hI h af
 obtain ⟨s9, a7, a6⟩ := s0
 unfold stitch_sum_l1 at h
 dsimp only at h hI
 have S := hI
 refine sSeq (fun aI ag => sRegion (sBin _ S (wN rfl) rfl rfl rfl (bLt _ _ _ _ .i64 a6 (p0.length : Int)) rfl (lb rfl) fun a S => ?_))
 refine lT (ag _ _ (sSeq (fun aJ ah => ?_)))
 rcases iS h with ⟨a5, h⟩ | ⟨a5, h⟩
 rotate_left
 ·refine sCondF S rfl a5 ?_
  obtain rfl := tS h
  obtain rfl := af _ rfl
  have h := aC
  try dsimp only at h
  exact wp_exit (xThen (xThen (xHit (leafT (⟨s9, a7, Option.some.inj h, S.fix [] [] (by decide) rfl rfl rfl⟩)))))
 refine sCondT S rfl a5 ?_
 refine wp_skip (leafT (ah _ _ ?_))
 refine sSeq (fun aK ai => wp_block ?_)
 refine sSeq (fun aL aj => sRegion ?_)
 obtain ⟨a0, ak, h⟩ := bS h
 obtain ⟨aw, am, S⟩ := pIdx (P := Try.prog) (r := r_api_Stitch) (v := .slice a9 p0.length aa) (xs := p0) (j := a6) 47 81 0 S Try.underlying47 rfl rfl ak
 refine sIdxV S (wN rfl) rfl rfl rfl am rfl (lb rfl) fun a S => ?_
 obtain ⟨ax, S⟩ := pLoad (r := r_api_Stitch) (q := aw) (x := a0) 0 S rfl
 obtain rfl : ax = .agg #[.int .u8 a0.Kind, .bool a0.Purl, iv a0.A, iv a0.B] := S.mem.know (i := 1) (e := fRep r_api_Stitch (ax) a0) rfl
 refine sLoadVN (vq := aw) 0 [.int .u8 a0.Kind, .bool a0.Purl, iv a0.A, iv a0.B] S (wN rfl) rfl rfl rfl rfl rfl rfl (lb rfl) fun a S => ?_
 refine sAlloc (.agg #[.int .u8 0, .bool false, iv 0, iv 0]) S (wN rfl) rfl rfl [.int .u8 0, .bool false, iv 0, iv 0] rfl rfl (lb rfl) fun a a8 w S => ?_
 refine sStore (p := a8) (off := 0) (T := 81) (vs := [.int .u8 0, .bool false, iv 0, iv 0]) (v := .agg #[.int .u8 a0.Kind, .bool a0.Purl, iv a0.A, iv a0.B]) 0 [.int .u8 a0.Kind, .bool a0.Purl, iv a0.A, iv a0.B] S (wN rfl) rfl rfl rfl rfl rfl rfl rfl (by simp) rfl fun a w S => ?_
 refine lT (aj _ _ (sSeq (fun aM ao => sRegion (sField (b := a8) (off := 0) 0 0 S (wN rfl) rfl rfl rfl rfl rfl (lb rfl) fun a S => ?_))))
 refine sLoad1 0 (.int .u8 a0.Kind) S (wN rfl) rfl rfl rfl rfl rfl rfl (lb rfl) fun a S => ?_
 obtain ⟨a4, ap, h⟩ := bS h
 refine sCall (X := Value) (f := 103) (vs := [.int .u8 a0.Kind]) (val := c_stitch_forms_val a4) (B' := fun _ => []) (D' := c_stitch_forms_D a4) [] [eBox a8 81 [.int .u8 a0.Kind, .bool a0.Purl, iv a0.A, iv a0.B]] [] [0] [] S (wN rfl) rfl callee103 rfl (by decide) rfl rfl (fun E1 w1 S1 => c_stitch_forms E1 w1 a0.Kind a4 ap S1) rfl (lb rfl) fun ay a w S => ?_
 obtain rfl : ay = gv_stitch_form a4.1 := S.mem.know (i := 0) (e := fRep r_stitch_form (ay) a4.1) rfl
 refine sM S fun a S => ?_
 refine sExtract (vs := [gv_stitch_form a4.1, .bool a4.2]) (gv_stitch_form a4.1) S (wN rfl) rfl rfl rfl rfl (lb rfl) fun a S => ?_
 refine sExtract (vs := [gv_stitch_form a4.1, .bool a4.2]) (.bool a4.2) S (wN rfl) rfl rfl rfl rfl (lb rfl) fun a S => ?_
 refine sAlloc (gv_stitch_form (stitch_form.mk (⟨#[]⟩ : ByteArray) (0, 0) (0, 0) false 0 0)) S (wN rfl) rfl rfl (gl_stitch_form (stitch_form.mk (⟨#[]⟩ : ByteArray) (0, 0) (0, 0) false 0 0)) rfl rfl (lb rfl) fun a aq w S => ?_
 refine sStore (p := aq) (off := 0) (T := 156) (vs := [.string (⟨#[]⟩ : ByteArray), iv 0, iv 0, iv 0, iv 0, .bool false, iv 0, iv 0]) (v := gv_stitch_form a4.1) 0 [.string a4.1.letter, iv a4.1.a.1, iv a4.1.a.2, iv a4.1.b.1, iv a4.1.b.2, .bool a4.1.sided, iv a4.1.uses, iv a4.1.made] S (wN rfl) rfl rfl rfl rfl rfl rfl rfl (by simp) rfl fun a w S => ?_
 refine sN S fun a S => ?_
 refine lT (ao _ _ (sSeq (fun aO ar => sRegion (sM S fun a S => ?_))))
 refine sLoadN (p := a8) (off := 0) (T := 81) (vs := [.int .u8 a0.Kind, .bool a0.Purl, iv a0.A, iv a0.B]) 1 [.int .u8 a0.Kind, .bool a0.Purl, iv a0.A, iv a0.B] S (wN rfl) rfl rfl rfl rfl rfl rfl rfl (lb rfl) fun a S => ?_
 refine sField (b := aq) (off := 0) 6 6 S (wN rfl) rfl rfl rfl rfl rfl (lb rfl) fun a S => ?_
 refine sLoad1 0 (iv a4.1.uses) S (wN rfl) rfl rfl rfl rfl rfl rfl (lb rfl) fun a S => ?_
 obtain ⟨ab, au, h⟩ := bS h
 have S1 := S.mem
 refine sCq [.agg #[.int .u8 a0.Kind, .bool a0.Purl, iv a0.A, iv a0.B], iv a4.1.uses] (iv ab) S callee105 (S1.quiet [2] rfl) (fun E1 w1 S1 => c_stitch_loops E1 w1 a0 (.agg #[.int .u8 a0.Kind, .bool a0.Purl, iv a0.A, iv a0.B]) a4.1.uses ab au S1) fun a w S => ?_
 refine sBin _ S (wN rfl) rfl rfl rfl (bAdd _ _ _ _ s9 ab) rfl (lb rfl) fun a S => ?_
 refine sN S fun a S => ?_
 refine lT (ar _ _ (sRegion (sM S fun a S => ?_)))
 refine sLoadN (p := a8) (off := 0) (T := 81) (vs := [.int .u8 a0.Kind, .bool a0.Purl, iv a0.A, iv a0.B]) 1 [.int .u8 a0.Kind, .bool a0.Purl, iv a0.A, iv a0.B] S (wN rfl) rfl rfl rfl rfl rfl rfl rfl (lb rfl) fun a S => ?_
 refine sField (b := aq) (off := 0) 7 7 S (wN rfl) rfl rfl rfl rfl rfl (lb rfl) fun a S => ?_
 refine sLoad1 0 (iv a4.1.made) S (wN rfl) rfl rfl rfl rfl rfl rfl (lb rfl) fun a S => ?_
 obtain ⟨ac, av, h⟩ := bS h
 have S1 := S.mem
 refine sCq [.agg #[.int .u8 a0.Kind, .bool a0.Purl, iv a0.A, iv a0.B], iv a4.1.made] (iv ac) S callee105 (S1.quiet [2] rfl) (fun E1 w1 S1 => c_stitch_loops E1 w1 a0 (.agg #[.int .u8 a0.Kind, .bool a0.Purl, iv a0.A, iv a0.B]) a4.1.made ac av S1) fun a w S => ?_
 refine sBin _ S (wN rfl) rfl rfl rfl (bAdd _ _ _ _ a7 ac) rfl (lb rfl) fun a S => ?_
 refine sN S fun a S => ?_
 refine leafL (leafB (leafT (ai _ _ ?_)))
 refine sRegion (sBin _ S (wN rfl) rfl rfl rfl (bAdd _ _ _ _ a6 1) rfl (lb rfl) fun a S => ?_)
 refine sM S fun a S => ?_
 exact lT (⟨(w64 (s9 + ab), w64 (a7 + ac), w64 (a6 + 1)), (Option.some.inj h).symm, (S.fix [] [4] (by decide) rfl rfl rfl)⟩)
noncomputable def F_stitch_All (p0 : (List api_Stitch)) : Option Int :=
 if decide (200 < (p0.length : Int)) then
  some 4
 else
  (F_slices_ContainsFunc___api_Stitch_api_Stitch__s0 p0).bind fun a4 =>
  if a4 then
   some 8
  else
   (F_stitch_sum p0).bind fun a0 =>
   if decide (200 < (if a0.1 < a0.2 then a0.2 else a0.1)) then
    some 4
   else
    some 0
theorem c_stitch_All (E : Nat → Prop) (w0 : World) (p0 : (List api_Stitch)) (v0 : Value) (r : Int) (h : F_stitch_All p0 = some r) (S : St0 E [] w0 w0 [] [fRep (rL r_api_Stitch) (v0) p0]) :
 Calls Try.prog 56 #[v0] w0 (Ret (X := Unit) E [] w0 (fun _ => .int .i64 r) (fun _ => []) (fun _ => [])) := by
 unfold F_stitch_All at h
 obtain ⟨a6, a7, _, rfl, _⟩ := S.know (i := 0) (e := fRep (rL r_api_Stitch) (v0) p0) rfl
 refine sEnter (args := [.slice a6 p0.length a7]) 19 Try.func56 rfl rfl (by simp) S (fun a S => ?_)
 refine sSeq (fun K3 aj => sRegion (sN S fun a S => ?_))
 refine lT (aj _ _ (sSeq (fun K4 ak => sSeq (fun K5 am => sRegion (sM S fun a S => ?_)))))
 refine sLen S (wN rfl) rfl Try.underlying47 rfl rfl (lb rfl) fun a S => ?_
 refine sBin _ S (wN rfl) rfl rfl rfl (bGt _ _ _ _ .i64 (p0.length : Int) 200) rfl (lb rfl) fun a S => ?_
 refine lT (am _ _ ?_)
 rcases iS h with ⟨a8, h⟩ | ⟨a8, h⟩
 ·refine sCondT S rfl a8 ?_
  refine sSeq (fun K7 ao => sRegion (sN S fun a S => ?_))
  refine lT (ao _ _ ?_)
  obtain rfl := tS h
  exact wp_ret (rThen (sRet (iv 4) S (rsl1 rfl (rvT (t := 2) (v := iv 4) S rfl)) ⟨(), rfl, S.mem.sel [] [] (by decide) rfl rfl⟩))
 refine sCondF S rfl a8 ?_
 refine wp_skip (leafT (ak _ _ ?_))
 refine sSeq (fun K8 ap => sSeq (fun K9 aq => sRegion (sM S fun a S => ?_)))
 obtain ⟨ai, a9, h⟩ := bS h
 have S1 := S.mem
 refine sCq [.slice a6 p0.length a7, .func (.func 87) #[] #[]] (.bool ai) S callee86 (S1.quiet [0] rfl) (fun E1 w1 S1 => c_slices_ContainsFunc___api_Stitch_api_Stitch__s0 E1 w1 p0 (.slice a6 p0.length a7) ai a9 S1) fun a w S => ?_
 refine lT (aq _ _ ?_)
 rcases iS h with ⟨a4, h⟩ | ⟨a4, h⟩
 ·refine sCondT S rfl a4 ?_
  refine sSeq (fun ar aa => sRegion (sN S fun a S => ?_))
  refine lT (aa _ _ ?_)
  obtain rfl := tS h
  exact wp_ret (rThen (sRet (iv 8) S (rsl1 rfl (rvT (t := 2) (v := iv 8) S rfl)) ⟨(), rfl, S.mem.sel [] [] (by decide) rfl rfl⟩))
 refine sCondF S rfl a4 ?_
 refine wp_skip (leafT (ap _ _ ?_))
 refine sSeq (fun au ab => sSeq (fun av ac => sRegion (sM S fun a S => ?_)))
 obtain ⟨a0, ae, h⟩ := bS h
 have S1 := S.mem
 refine sCq [.slice a6 p0.length a7] (.tuple #[iv a0.1, iv a0.2]) S callee89 (S1.quiet [0] rfl) (fun E1 w1 S1 => c_stitch_sum E1 w1 p0 (.slice a6 p0.length a7) a0 ae S1) fun a w S => ?_
 refine sM S fun a S => ?_
 refine sExtract (vs := [iv a0.1, iv a0.2]) (iv a0.1) S (wN rfl) rfl rfl rfl rfl (lb rfl) fun a S => ?_
 refine sExtract (vs := [iv a0.1, iv a0.2]) (iv a0.2) S (wN rfl) rfl rfl rfl rfl (lb rfl) fun a S => ?_
 refine sN S fun a S => ?_
 refine sN S fun a S => ?_
 refine lT (ac _ _ (sSeq (fun aw af => sRegion (sM S fun a S => ?_))))
 refine sM S fun a S => ?_
 refine sMax2 (p := a0.1) (q := a0.2) S (wN rfl) rfl rfl rfl rfl (lb rfl) fun a S => ?_
 refine sBin _ S (wN rfl) rfl rfl rfl (bGt _ _ _ _ .i64 (if a0.1 < a0.2 then a0.2 else a0.1) 200) rfl (lb rfl) fun a S => ?_
 refine lT (af _ _ ?_)
 rcases iS h with ⟨a5, h⟩ | ⟨a5, h⟩
 ·refine sCondT S rfl a5 ?_
  refine sSeq (fun ax ag => sRegion (sN S fun a S => ?_))
  refine lT (ag _ _ ?_)
  obtain rfl := tS h
  exact wp_ret (rThen (sRet (iv 4) S (rsl1 rfl (rvT (t := 2) (v := iv 4) S rfl)) ⟨(), rfl, S.mem.sel [] [] (by decide) rfl rfl⟩))
 refine sCondF S rfl a5 ?_
 refine wp_skip (leafT (ab _ _ ?_))
 refine sSeq (fun ay ah => sRegion (sN S fun a S => ?_))
 refine lT (ah _ _ ?_)
 obtain rfl := tS h
 exact wp_ret (sRet (iv 0) S (rsl1 rfl (rvT (t := 2) (v := iv 0) S rfl)) ⟨(), rfl, S.mem.sel [] [] (by decide) rfl rfl⟩)
noncomputable def F_stitch_Uses (p0 : (List api_Stitch)) : Option (Int × Int) :=
 (F_stitch_All p0).bind fun r6 =>
 if r6 != 0 then
  some (0, r6)
 else
  (F_stitch_sum p0).bind fun a0 =>
  some (a0.1, 0)
theorem c_stitch_Uses (E : Nat → Prop) (w0 : World) (p0 : (List api_Stitch)) (v0 : Value) (r : (Int × Int)) (h : F_stitch_Uses p0 = some r) (S : St0 E [] w0 w0 [] [fRep (rL r_api_Stitch) (v0) p0]) :
 Calls Try.prog 100 #[v0] w0 (Ret (X := Unit) E [] w0 (fun _ => .tuple #[.int .i64 r.1, .int .i64 r.2]) (fun _ => []) (fun _ => [])) := by
 unfold F_stitch_Uses at h
 obtain ⟨a4, a5, _, rfl, _⟩ := S.know (i := 0) (e := fRep (rL r_api_Stitch) (v0) p0) rfl
 refine sEnter (args := [.slice a4 p0.length a5]) 18 Try.func100 rfl rfl (by simp) S (fun a S => ?_)
 refine sSeq (fun K3 ab => sRegion (sN S fun a S => ?_))
 refine sN S fun a S => ?_
 refine lT (ab _ _ (sSeq (fun K4 ac => sSeq (fun K5 ae => sRegion (sM S fun a S => ?_)))))
 obtain ⟨r6, af, h⟩ := bS h
 have S1 := S.mem
 refine sCq [.slice a4 p0.length a5] (iv r6) S callee56 (S1.quiet [0] rfl) (fun E1 w1 S1 => c_stitch_All E1 w1 p0 (.slice a4 p0.length a5) r6 af S1) fun a w S => ?_
 refine sN S fun a S => ?_
 refine lT (ae _ _ (sSeq (fun K8 ag => sRegion (sM S fun a S => ?_))))
 refine sBin _ S (wN rfl) rfl rfl rfl (bNe _ _ _ _ .i64 r6 0) rfl (lb rfl) fun a S => ?_
 refine lT (ag _ _ ?_)
 rcases iS h with ⟨a6, h⟩ | ⟨a6, h⟩
 ·refine sCondT S rfl a6 ?_
  refine sSeq (fun ah a7 => sRegion (sM S fun a S => ?_))
  refine sN S fun a S => ?_
  refine sN S fun a S => ?_
  refine lT (a7 _ _ ?_)
  obtain rfl := tS h
  exact wp_ret (rThen (sRet (.tuple #[iv 0, iv r6]) S (rsl2 rfl (rvT (t := 2) (v := iv 0) S rfl) (rvT (t := 3) (v := iv r6) S rfl)) ⟨(), rfl, S.mem.sel [] [] (by decide) rfl rfl⟩))
 refine sCondF S rfl a6 ?_
 refine wp_skip (leafT (ac _ _ ?_))
 refine sSeq (fun ai a8 => sRegion (sM S fun a S => ?_))
 obtain ⟨a0, a9, h⟩ := bS h
 have S1 := S.mem
 refine sCq [.slice a4 p0.length a5] (.tuple #[iv a0.1, iv a0.2]) S callee89 (S1.quiet [0] rfl) (fun E1 w1 S1 => c_stitch_sum E1 w1 p0 (.slice a4 p0.length a5) a0 a9 S1) fun a w S => ?_
 refine sM S fun a S => ?_
 refine sExtract (vs := [iv a0.1, iv a0.2]) (iv a0.1) S (wN rfl) rfl rfl rfl rfl (lb rfl) fun a S => ?_
 refine sExtract (vs := [iv a0.1, iv a0.2]) (iv a0.2) S (wN rfl) rfl rfl rfl rfl (lb rfl) fun a S => ?_
 refine sN S fun a S => ?_
 refine sN S fun a S => ?_
 refine lT (a8 _ _ (sSeq (fun aj aa => sRegion (sM S fun a S => ?_))))
 refine sN S fun a S => ?_
 refine sN S fun a S => ?_
 refine lT (aa _ _ ?_)
 obtain rfl := tS h
 exact wp_ret (sRet (.tuple #[iv a0.1, iv 0]) S (rsl2 rfl (rvT (t := 2) (v := iv a0.1) S rfl) (rvT (t := 3) (v := iv 0) S rfl)) ⟨(), rfl, S.mem.sel [] [] (by decide) rfl rfl⟩)
noncomputable def F_stitch_Makes (p0 : (List api_Stitch)) : Option (Int × Int) :=
 (F_stitch_All p0).bind fun r6 =>
 if r6 != 0 then
  some (0, r6)
 else
  (F_stitch_sum p0).bind fun a0 =>
  some (a0.2, 0)
theorem c_stitch_Makes (E : Nat → Prop) (w0 : World) (p0 : (List api_Stitch)) (v0 : Value) (r : (Int × Int)) (h : F_stitch_Makes p0 = some r) (S : St0 E [] w0 w0 [] [fRep (rL r_api_Stitch) (v0) p0]) :
 Calls Try.prog 101 #[v0] w0 (Ret (X := Unit) E [] w0 (fun _ => .tuple #[.int .i64 r.1, .int .i64 r.2]) (fun _ => []) (fun _ => [])) := by
 unfold F_stitch_Makes at h
 obtain ⟨a4, a5, _, rfl, _⟩ := S.know (i := 0) (e := fRep (rL r_api_Stitch) (v0) p0) rfl
 refine sEnter (args := [.slice a4 p0.length a5]) 18 Try.func101 rfl rfl (by simp) S (fun a S => ?_)
 refine sSeq (fun K3 ab => sRegion (sN S fun a S => ?_))
 refine sN S fun a S => ?_
 refine lT (ab _ _ (sSeq (fun K4 ac => sSeq (fun K5 ae => sRegion (sM S fun a S => ?_)))))
 obtain ⟨r6, af, h⟩ := bS h
 have S1 := S.mem
 refine sCq [.slice a4 p0.length a5] (iv r6) S callee56 (S1.quiet [0] rfl) (fun E1 w1 S1 => c_stitch_All E1 w1 p0 (.slice a4 p0.length a5) r6 af S1) fun a w S => ?_
 refine sN S fun a S => ?_
 refine lT (ae _ _ (sSeq (fun K8 ag => sRegion (sM S fun a S => ?_))))
 refine sBin _ S (wN rfl) rfl rfl rfl (bNe _ _ _ _ .i64 r6 0) rfl (lb rfl) fun a S => ?_
 refine lT (ag _ _ ?_)
 rcases iS h with ⟨a6, h⟩ | ⟨a6, h⟩
 ·refine sCondT S rfl a6 ?_
  refine sSeq (fun ah a7 => sRegion (sM S fun a S => ?_))
  refine sN S fun a S => ?_
  refine sN S fun a S => ?_
  refine lT (a7 _ _ ?_)
  obtain rfl := tS h
  exact wp_ret (rThen (sRet (.tuple #[iv 0, iv r6]) S (rsl2 rfl (rvT (t := 2) (v := iv 0) S rfl) (rvT (t := 3) (v := iv r6) S rfl)) ⟨(), rfl, S.mem.sel [] [] (by decide) rfl rfl⟩))
 refine sCondF S rfl a6 ?_
 refine wp_skip (leafT (ac _ _ ?_))
 refine sSeq (fun ai a8 => sRegion (sM S fun a S => ?_))
 obtain ⟨a0, a9, h⟩ := bS h
 have S1 := S.mem
 refine sCq [.slice a4 p0.length a5] (.tuple #[iv a0.1, iv a0.2]) S callee89 (S1.quiet [0] rfl) (fun E1 w1 S1 => c_stitch_sum E1 w1 p0 (.slice a4 p0.length a5) a0 a9 S1) fun a w S => ?_
 refine sM S fun a S => ?_
 refine sExtract (vs := [iv a0.1, iv a0.2]) (iv a0.1) S (wN rfl) rfl rfl rfl rfl (lb rfl) fun a S => ?_
 refine sExtract (vs := [iv a0.1, iv a0.2]) (iv a0.2) S (wN rfl) rfl rfl rfl rfl (lb rfl) fun a S => ?_
 refine sN S fun a S => ?_
 refine sN S fun a S => ?_
 refine lT (a8 _ _ (sSeq (fun aj aa => sRegion (sM S fun a S => ?_))))
 refine sN S fun a S => ?_
 refine sN S fun a S => ?_
 refine lT (aa _ _ ?_)
 obtain rfl := tS h
 exact wp_ret (sRet (.tuple #[iv a0.2, iv 0]) S (rsl2 rfl (rvT (t := 2) (v := iv a0.2) S rfl) (rvT (t := 3) (v := iv 0) S rfl)) ⟨(), rfl, S.mem.sel [] [] (by decide) rfl rfl⟩)
noncomputable def raddleref25_kind_l1 (p0 : Int) : Int → Option (Int ⊕ (Int ⊕ Unit)) := fun s0 => match s0 with
 | s9 =>
  if decide (s9 < ((⟨#[102, 108, 109, 120, 121, 115, 111]⟩ : ByteArray).size : Int)) then
   (idxS (⟨#[102, 108, 109, 120, 121, 115, 111]⟩ : ByteArray) s9).bind fun a0 =>
   if a0 == p0 then
    (idxO ([3, 4, 5, 6, 7, 8, 10] : List Int) s9).bind fun a4 =>
    some (.inr (.inl a4))
   else
    some (.inl (w64 (s9 + 1)))
  else
   some (.inr (.inr ()))
noncomputable def F_raddleref25_kind (p0 : Int) : Option Int :=
 Option.bind (α := Unit ⊕ Int) (
  (whileO (raddleref25_kind_l1 p0) 0).bind fun z0 => match z0 with
   | .inl z =>
    some (.inr z)
   | .inr _ =>
    some (.inl ())) fun z0 => match z0 with
  | .inl _ =>
   some 0
  | .inr z =>
   some z
theorem c_raddleref25_kind (E : Nat → Prop) (w0 : World) (p0 : Int) (r : Int) (h : F_raddleref25_kind p0 = some r) (S : St0 E [] w0 w0 [] []) :
 Calls Try.prog 106 #[.int .u8 p0] w0 (Ret (X := Unit) E [] w0 (fun _ => .int .u8 r) (fun _ => []) (fun _ => [])) := by
 unfold F_raddleref25_kind at h
 refine sEnter (args := [.int .u8 p0]) 22 Try.func106 rfl rfl (by simp) S (fun a S => ?_)
 refine sSeq (fun K1 am => sRegion (sN S fun a S => ?_))
 refine lT (am _ _ (sSeq (fun K2 ao => sRegion (sN S fun a S => ?_))))
 refine lT (ao _ _ (sSeq (fun K3 ap => sRegion (sLit (r := (rI .u8)) (T := 5) (xs := ([3, 4, 5, 6, 7, 8, 10] : List Int)) [(0, .int .u8 3), (1, .int .u8 4), (2, .int .u8 5), (3, .int .u8 6), (4, .int .u8 7), (5, .int .u8 8), (6, .int .u8 10)] 7 [.int .u8 3, .int .u8 4, .int .u8 5, .int .u8 6, .int .u8 7, .int .u8 8, .int .u8 10] [.int .u8 3, .int .u8 4, .int .u8 5, .int .u8 6, .int .u8 7, .int .u8 8, .int .u8 10] (.int .u8 0) 1 S (wN rfl) rfl rfl Try.underlying166 rfl (by decide) (by decide) (by kernel_rfl) rfl (fun E1 w1 hE => All.cons rfl (All.cons rfl (All.cons rfl (All.cons rfl (All.cons rfl (All.cons rfl (All.cons rfl (All.nil _ _ _)))))))) rfl rfl (lb rfl) fun a w a7 a8 S => ?_))))
 refine sN S fun a S => ?_
 refine lT (ap _ _ ?_)
 obtain ⟨t6, h, g7⟩ := bS h
 refine sCut (fun a w => .inl () = t6 ∧ St [] E [] w0 22 a w [] [] []) ?_ (fun a w hI => ?_)
 rotate_left
 ·obtain ⟨rfl, S⟩ := hI
  have h := g7
  try dsimp only at h
  refine sSeq (fun av aa => sRegion (sN S fun a S => ?_))
  refine lT (aa _ _ ?_)
  obtain rfl := tS h
  exact wp_ret (sRet (.int .u8 0) S (rsl1 rfl (rvT (t := 2) (v := .int .u8 0) S rfl)) ⟨(), rfl, S.mem.sel [] [] (by decide) rfl rfl⟩)
 refine sSeq (fun K8 aq => sRegion (sN S fun a S => ?_))
 refine lT (aq _ _ (wp_block ?_))
 obtain ⟨aw, hl, ak⟩ := bS h
 refine sLoop hl (fun s0 a w => match s0 with | s9 => St [] E [] w0 22 a w [(0, .int .u8 p0), (3, .string (⟨#[102, 108, 109, 120, 121, 115, 111]⟩ : ByteArray)), (4, .slice a7 ([3, 4, 5, 6, 7, 8, 10] : List Int).length a8), (5, iv s9)] [eRow (rI .u8) 5 (.slice a7 ([3, 4, 5, 6, 7, 8, 10] : List Int).length a8) ([3, 4, 5, 6, 7, 8, 10] : List Int)] []) (S.fix [0] [] (by decide) rfl rfl rfl) ?_
 clear hl h
 intro s9 a w c0 hI h a5
 unfold raddleref25_kind_l1 at h
 dsimp only at h hI
 have S := hI
 refine sSeq (fun ax ab => sSeq (fun ay ac => sRegion (sM S fun a S => ?_)))
 refine sM S fun a S => ?_
 refine sLenS (v := (⟨#[102, 108, 109, 120, 121, 115, 111]⟩ : ByteArray)) S (wN rfl) rfl Try.underlying9 rfl rfl (lb rfl) fun a S => ?_
 refine sBin _ S (wN rfl) rfl rfl rfl (bLt _ _ _ _ .i64 s9 ((⟨#[102, 108, 109, 120, 121, 115, 111]⟩ : ByteArray).size : Int)) rfl (lb rfl) fun a S => ?_
 refine lT (ac _ _ ?_)
 rcases iS h with ⟨a0, h⟩ | ⟨a0, h⟩
 rotate_left
 ·refine sCondF S rfl a0 ?_
  obtain rfl := tS h
  obtain rfl := a5 _ rfl
  have h := ak
  try dsimp only at h
  exact wp_exit (xThen (xThen (xHit (leafT (⟨Option.some.inj h, S.fix [] [] (by decide) rfl rfl rfl⟩)))))
 refine sCondT S rfl a0 ?_
 refine wp_skip (leafT (ab _ _ ?_))
 refine sSeq (fun az ae => wp_block ?_)
 refine sSeq (fun aA af => sRegion (sM S fun a S => ?_))
 refine sM S fun a S => ?_
 obtain ⟨ar, ag, h⟩ := bS h
 refine sIndexS (v := (⟨#[102, 108, 109, 120, 121, 115, 111]⟩ : ByteArray)) (j := s9) (k := .i64) S (wN rfl) rfl Try.underlying9 rfl rfl ag rfl (lb rfl) fun a S => ?_
 refine sM S fun a S => ?_
 refine sBin _ S (wN rfl) rfl rfl rfl (bEq _ _ _ _ .u8 ar p0) rfl (lb rfl) fun a S => ?_
 refine lT (af _ _ ?_)
 rcases iS h with ⟨a4, h⟩ | ⟨a4, h⟩
 rotate_left
 ·refine sCondF S rfl a4 ?_
  refine wp_skip (leafB (leafT (ae _ _ ?_)))
  refine sRegion (sM S fun a S => ?_)
  refine sBin _ S (wN rfl) rfl rfl rfl (bAdd _ _ _ _ s9 1) rfl (lb rfl) fun a S => ?_
  refine sN S fun a S => ?_
  exact lT (⟨w64 (s9 + 1), (Option.some.inj h).symm, (S.fix [0] [] (by decide) rfl rfl rfl)⟩)
 refine sCondT S rfl a4 ?_
 refine sSeq (fun aC ah => sRegion (sM S fun a S => ?_))
 refine sM S fun a S => ?_
 obtain ⟨a9, a6, h⟩ := bS h
 obtain ⟨au, ai, aj⟩ := pIdxR (P := Try.prog) (r := (rI .u8)) (T := 5) (v := .slice a7 ([3, 4, 5, 6, 7, 8, 10] : List Int).length a8) (xs := ([3, 4, 5, 6, 7, 8, 10] : List Int)) (j := s9) 166 5 0 S Try.underlying166 rfl rfl a6
 refine sIdxV S (wN rfl) rfl rfl rfl ai rfl (lb rfl) fun a S => ?_
 refine sLoadR (r := (rI .u8)) (T := 5) (xs := ([3, 4, 5, 6, 7, 8, 10] : List Int)) (x := a9) (v := .slice a7 ([3, 4, 5, 6, 7, 8, 10] : List Int).length a8) (vq := au) (j := s9) 0 (.int .u8 a9) S aj (wN rfl) rfl rfl rfl a6 (fun _ _ _ h => h) (scal_I _) rfl rfl (lb rfl) fun a S => ?_
 refine sN S fun a S => ?_
 refine lT (ah _ _ ?_)
 obtain rfl := tS h
 obtain rfl := a5 _ rfl
 have h := ak
 try dsimp only at h
 obtain rfl := tS h
 have h := g7
 try dsimp only at h
 obtain rfl := tS h
 exact wp_ret (rBlock (rThen (rThen (rBlock (rThen (sRet (.int .u8 a9) S (rsl1 rfl (rvT (t := 2) (v := .int .u8 a9) S rfl)) ⟨(), rfl, S.mem.sel [] [] (by decide) rfl rfl⟩))))))
noncomputable def raddleref25_Decimal_l1  : (Int × ByteArray) → Option ((Int × ByteArray) ⊕ ByteArray) := fun s0 => match s0 with
 | (a0, a4) =>
  if decide (0 < a0) then
   (remI a0 10).bind fun a5 =>
   (addS (strO ([IntKind.u8.wrap (w64 (48 + a5))] : List Int)) a4).bind fun a6 =>
   (quoI a0 10).bind fun a7 =>
   some (.inl (a7, a6))
  else
   some (.inr a4)
noncomputable def F_raddleref25_Decimal (p0 : Int) : Option ByteArray :=
 (remI p0 10).bind fun z3 =>
 Option.bind (α := ByteArray) (
  (quoI p0 10).bind fun a0 =>
  (whileO (raddleref25_Decimal_l1) (a0, strO ([IntKind.u8.wrap (w64 (48 + z3))] : List Int))).bind fun a4 =>
   some a4) fun o7 =>
 some o7
theorem c_raddleref25_Decimal (E : Nat → Prop) (w0 : World) (p0 : Int) (r : ByteArray) (h : F_raddleref25_Decimal p0 = some r) (S : St0 E [] w0 w0 [] []) :
 Calls Try.prog 108 #[iv p0] w0 (Ret (X := Unit) E [] w0 (fun _ => .string r) (fun _ => []) (fun _ => [])) := by
 unfold F_raddleref25_Decimal at h
 refine sEnter (args := [iv p0]) 25 Try.func108 rfl rfl (by simp) S (fun a S => ?_)
 refine sSeq (fun K1 ak => sRegion (sN S fun a S => ?_))
 refine lT (ak _ _ (sSeq (fun K2 am => sRegion (sM S fun a S => ?_))))
 obtain ⟨z3, ao, h⟩ := bS h
 refine sBin _ S (wN rfl) rfl rfl rfl (bRem _ _ _ _ (x := p0) (y := 10) ao) rfl (lb rfl) fun a S => ?_
 refine sBin _ S (wN rfl) rfl rfl rfl (bAdd _ _ _ _ 48 z3) rfl (lb rfl) fun a S => ?_
 refine sConv (k := .i64) (k2 := .u8) (b := w64 (48 + z3)) S (wN rfl) rfl Try.underlying3 Try.underlying5 rfl rfl (lb rfl) fun a S => ?_
 refine sLit (r := (rI .u8)) (T := 5) (xs := ([IntKind.u8.wrap (w64 (48 + z3))] : List Int)) [(0, .int .u8 (IntKind.u8.wrap (w64 (48 + z3))))] 1 [.int .u8 (IntKind.u8.wrap (w64 (48 + z3)))] [.int .u8 (IntKind.u8.wrap (w64 (48 + z3)))] (.int .u8 0) 1 S (wN rfl) rfl rfl Try.underlying166 rfl (by decide) (by decide) (by kernel_rfl) rfl (fun E1 w1 hE => All.cons rfl (All.nil _ _ _)) rfl rfl (lb rfl) fun a w ap aq S => ?_
 refine sBytesStr (e := 5) (v := .slice ap ([IntKind.u8.wrap (w64 (48 + z3))] : List Int).length aq) (ys := ([IntKind.u8.wrap (w64 (48 + z3))] : List Int)) S (wN rfl) rfl rfl Try.underlying166 Try.underlying5 Try.underlying9 (src_R (T := 5) 0 S.mem rfl) rfl (lb rfl) fun a S => ?_
 refine sN S fun a S => ?_
 refine lT (am _ _ ?_)
 obtain ⟨t8, h, g9⟩ := bS h
 refine sCut (fun a w => ∃ o7, o7 = t8 ∧ St [] E [] w0 25 a w [(3, .string o7)] [] []) ?_ (fun a w hI => ?_)
 rotate_left
 ·obtain ⟨o7, rfl, S⟩ := hI
  have h := g9
  try dsimp only at h
  refine sSeq (fun aw a7 => sRegion (sM S fun a S => ?_))
  refine sN S fun a S => ?_
  refine lT (a7 _ _ ?_)
  obtain rfl := tS h
  exact wp_ret (sRet (.string o7) S (rsl1 rfl (rvT (t := 2) (v := .string o7) S rfl)) ⟨(), rfl, S.mem.sel [] [] (by decide) rfl rfl⟩)
 refine sSeq (fun ax a8 => sRegion (sM S fun a S => ?_))
 obtain ⟨ay, a9, h⟩ := bS h
 refine sBin _ S (wN rfl) rfl rfl rfl (bQuo _ _ _ _ (x := p0) (y := 10) a9) rfl (lb rfl) fun a S => ?_
 refine sN S fun a S => ?_
 refine lT (a8 _ _ (wp_block ?_))
 obtain ⟨az, hl, ar⟩ := bS h
 refine sLoop hl (fun s0 a w => match s0 with | (a5, a6) => St [] E [] w0 25 a w [(0, iv a5), (3, .string a6)] [] []) (S.fix [] [] (by decide) rfl rfl rfl) ?_
 clear hl h
 intro s0 a w c0 hI h aa
 obtain ⟨a5, a6⟩ := s0
 unfold raddleref25_Decimal_l1 at h
 dsimp only at h hI
 have S := hI
 refine sSeq (fun aA ab => sSeq (fun aC ac => sRegion (sM S fun a S => ?_)))
 refine sBin _ S (wN rfl) rfl rfl rfl (bGt _ _ _ _ .i64 a5 0) rfl (lb rfl) fun a S => ?_
 refine lT (ac _ _ ?_)
 rcases iS h with ⟨a4, h⟩ | ⟨a4, h⟩
 rotate_left
 ·refine sCondF S rfl a4 ?_
  obtain rfl := tS h
  obtain rfl := aa _ rfl
  have h := ar
  try dsimp only at h
  exact wp_exit (xThen (xThen (xHit (leafT (⟨a6, Option.some.inj h, S.fix [] [] (by decide) rfl rfl rfl⟩)))))
 refine sCondT S rfl a4 ?_
 refine wp_skip (leafT (ab _ _ ?_))
 refine sSeq (fun aG ae => wp_block ?_)
 refine sRegion (sM S fun a S => ?_)
 obtain ⟨a0, af, h⟩ := bS h
 refine sBin _ S (wN rfl) rfl rfl rfl (bRem _ _ _ _ (x := a5) (y := 10) af) rfl (lb rfl) fun a S => ?_
 refine sBin _ S (wN rfl) rfl rfl rfl (bAdd _ _ _ _ 48 a0) rfl (lb rfl) fun a S => ?_
 refine sConv (k := .i64) (k2 := .u8) (b := w64 (48 + a0)) S (wN rfl) rfl Try.underlying3 Try.underlying5 rfl rfl (lb rfl) fun a S => ?_
 refine sLit (r := (rI .u8)) (T := 5) (xs := ([IntKind.u8.wrap (w64 (48 + a0))] : List Int)) [(0, .int .u8 (IntKind.u8.wrap (w64 (48 + a0))))] 1 [.int .u8 (IntKind.u8.wrap (w64 (48 + a0)))] [.int .u8 (IntKind.u8.wrap (w64 (48 + a0)))] (.int .u8 0) 1 S (wN rfl) rfl rfl Try.underlying166 rfl (by decide) (by decide) (by kernel_rfl) rfl (fun E1 w1 hE => All.cons rfl (All.nil _ _ _)) rfl rfl (lb rfl) fun a w ag ah S => ?_
 refine sBytesStr (e := 5) (v := .slice ag ([IntKind.u8.wrap (w64 (48 + a0))] : List Int).length ah) (ys := ([IntKind.u8.wrap (w64 (48 + a0))] : List Int)) S (wN rfl) rfl rfl Try.underlying166 Try.underlying5 Try.underlying9 (src_R (T := 5) 0 S.mem rfl) rfl (lb rfl) fun a S => ?_
 refine sM S fun a S => ?_
 obtain ⟨au, ai, h⟩ := bS h
 refine sBin _ S (wN rfl) rfl rfl rfl (bAddS _ _ _ _ (x := strO ([IntKind.u8.wrap (w64 (48 + a0))] : List Int)) (y := a6) ai) rfl (lb rfl) fun a S => ?_
 refine sN S fun a S => ?_
 refine leafL (leafB (leafT (ae _ _ ?_)))
 refine sRegion (sM S fun a S => ?_)
 obtain ⟨av, aj, h⟩ := bS h
 refine sBin _ S (wN rfl) rfl rfl rfl (bQuo _ _ _ _ (x := a5) (y := 10) aj) rfl (lb rfl) fun a S => ?_
 refine sN S fun a S => ?_
 exact lT (⟨(av, au), (Option.some.inj h).symm, (S.fix [] [] (by decide) rfl rfl rfl)⟩)
def anc_raddleref25_one_0 : List (List Nat) := [[], [0], [], [2], [2, 3], [0, 1, 2, 3, 4], [0, 1, 2, 3, 4, 5], [], [7], [2, 3, 4, 7, 8], [0, 1, 2, 3, 4, 5, 6, 7, 8, 9], [0, 1, 2, 3, 4, 5, 6, 7, 8, 9, 10]]
noncomputable def F_raddleref25_one (p0 : api_Stitch) : Option ByteArray :=
 Option.bind (α := ByteArray) (
  if p0.Purl then
   some (⟨#[112]⟩ : ByteArray)
  else
   some (⟨#[107]⟩ : ByteArray)) fun o4 =>
 if p0.Kind == 1 then
  some o4
 else
  if p0.Kind == 2 then
   some (⟨#[121, 111]⟩ : ByteArray)
  else
   if p0.Kind == 3 then
    (addS o4 (⟨#[102]⟩ : ByteArray)).bind fun a0 =>
    (F_raddleref25_Decimal p0.A).bind fun a4 =>
    (addS a0 a4).bind fun a5 =>
    some a5
   else
    if p0.Kind == 4 then
     (addS o4 (⟨#[108]⟩ : ByteArray)).bind fun a6 =>
     (F_raddleref25_Decimal p0.A).bind fun a7 =>
     (addS a6 a7).bind fun a8 =>
     some a8
    else
     if p0.Kind == 5 then
      (addS o4 (⟨#[109]⟩ : ByteArray)).bind fun a9 =>
      (F_raddleref25_Decimal p0.A).bind fun aa =>
      (addS a9 aa).bind fun ab =>
      some ab
     else
      if p0.Kind == 6 then
       (addS o4 (⟨#[120]⟩ : ByteArray)).bind fun ac =>
       (F_raddleref25_Decimal p0.A).bind fun ae =>
       (addS ac ae).bind fun af =>
       (addS af (⟨#[47]⟩ : ByteArray)).bind fun ag =>
       (F_raddleref25_Decimal p0.B).bind fun ah =>
       (addS ag ah).bind fun ai =>
       some ai
      else
       if p0.Kind == 7 then
        (addS o4 (⟨#[121]⟩ : ByteArray)).bind fun aj =>
        (F_raddleref25_Decimal p0.A).bind fun ak =>
        (addS aj ak).bind fun am =>
        (addS am (⟨#[47]⟩ : ByteArray)).bind fun ao =>
        (F_raddleref25_Decimal p0.B).bind fun ap =>
        (addS ao ap).bind fun aq =>
        some aq
       else
        if p0.Kind == 8 then
         (addS o4 (⟨#[115]⟩ : ByteArray)).bind fun ar =>
         some ar
        else
         if p0.Kind == 9 then
          (F_raddleref25_Decimal p0.A).bind fun au =>
          (addS (⟨#[111, 110]⟩ : ByteArray) au).bind fun av =>
          some av
         else
          (addS o4 (⟨#[111]⟩ : ByteArray)).bind fun aw =>
          (F_raddleref25_Decimal p0.A).bind fun ax =>
          (addS aw ax).bind fun ay =>
          some ay
theorem c_raddleref25_one (E : Nat → Prop) (w0 : World) (p0 : api_Stitch) (v0 : Value) (r : ByteArray) (h : F_raddleref25_one p0 = some r) (S : St0 E [] w0 w0 [] [fRep r_api_Stitch (v0) p0]) :
 Calls Try.prog 107 #[v0] w0 (Ret (X := Unit) E [] w0 (fun _ => .string r) (fun _ => []) (fun _ => [])) := by
 unfold F_raddleref25_one at h
 obtain rfl : v0 = .agg #[.int .u8 p0.Kind, .bool p0.Purl, iv p0.A, iv p0.B] := S.know (i := 0) (e := fRep r_api_Stitch (v0) p0) rfl
 refine sEnter (args := [.agg #[.int .u8 p0.Kind, .bool p0.Purl, iv p0.A, iv p0.B]]) 79 Try.func107 rfl rfl (by simp) S (fun a S => ?_)
 refine sSeq (fun K1 bM => sRegion (sBox (v := .agg #[.int .u8 p0.Kind, .bool p0.Purl, iv p0.A, iv p0.B]) S (wN rfl) rfl rfl [.int .u8 p0.Kind, .bool p0.Purl, iv p0.A, iv p0.B] rfl rfl (lb rfl) fun a b2 w S => ?_))
 refine sN S fun a S => ?_
 refine lT (bM _ _ (sSeq (fun K3 bN => sRegion (sN S fun a S => ?_))))
 refine lT (bN _ _ ?_)
 obtain ⟨t5, h, g6⟩ := bS h
 refine sCut (fun a w => ∃ o4, o4 = t5 ∧ St [] E [] w0 79 a w [(1, .pointer (some ⟨b2, 0, none⟩)), (3, .string o4)] [eBox b2 81 [.int .u8 p0.Kind, .bool p0.Purl, iv p0.A, iv p0.B]] []) ?_ (fun a w hI => ?_)
 ·refine sSeq (fun K7 bO => sRegion (sField (b := b2) (off := 0) 1 1 S (wN rfl) rfl rfl rfl rfl rfl (lb rfl) fun a S => ?_))
  refine sLoad1 0 (.bool p0.Purl) S (wN rfl) rfl rfl rfl rfl rfl rfl (lb rfl) fun a S => ?_
  refine lT (bO _ _ ?_)
  rcases iS h with ⟨aj, h⟩ | ⟨aj, h⟩
  rotate_left
  ·refine sCondF S rfl aj ?_
   exact wp_skip (leafT (⟨(⟨#[107]⟩ : ByteArray), Option.some.inj h, S.fix [0] [] (by decide) rfl rfl rfl⟩))
  refine sCondT S rfl aj ?_
  refine sRegion (sN S fun a S => ?_)
  exact lT (⟨(⟨#[112]⟩ : ByteArray), Option.some.inj h, S.fix [0] [] (by decide) rfl rfl rfl⟩)
 obtain ⟨o4, rfl, S⟩ := hI
 have h := g6
 try dsimp only at h
 refine sSeq (fun K9 bP => sSeq (fun bW ak => sRegion (sField (b := b2) (off := 0) 0 0 S (wN rfl) rfl rfl rfl rfl rfl (lb rfl) fun a S => ?_)))
 refine sLoad1 0 (.int .u8 p0.Kind) S (wN rfl) rfl rfl rfl rfl rfl rfl (lb rfl) fun a S => ?_
 refine lT (ak _ _ (wp_block ?_))
 refine sSeq (fun bX am => sRegion (sBin _ S (wN rfl) rfl rfl rfl (bEq _ _ _ _ .u8 p0.Kind 1) rfl (lb rfl) fun a S => ?_))
 refine sN S fun a S => ?_
 refine lT (am _ _ ?_)
 rcases iS h with ⟨a0, h⟩ | ⟨a0, h⟩
 ·refine sCondT S rfl a0 ?_
  refine sSeq (fun bY ao => sRegion (sM S fun a S => ?_))
  refine sN S fun a S => ?_
  refine lT (ao _ _ ?_)
  obtain rfl := tS h
  exact wp_ret (rBlock (rThen (sRet (.string o4) S (rsl1 rfl (rvT (t := 2) (v := .string o4) S rfl)) ⟨(), rfl, S.mem.sel [] [] (by decide) rfl rfl⟩)))
 refine sCondF S rfl a0 ?_
 refine sSeq (fun bZ ap => sRegion (sBin _ S (wN rfl) rfl rfl rfl (bEq _ _ _ _ .u8 p0.Kind 2) rfl (lb rfl) fun a S => ?_))
 refine sN S fun a S => ?_
 refine lT (ap _ _ ?_)
 rcases iS h with ⟨a4, h⟩ | ⟨a4, h⟩
 ·refine sCondT S rfl a4 ?_
  refine sSeq (fun c5 aq => sRegion (sN S fun a S => ?_))
  refine lT (aq _ _ ?_)
  obtain rfl := tS h
  exact wp_ret (rBlock (rThen (sRet (.string (⟨#[121, 111]⟩ : ByteArray)) S (rsl1 rfl (rvT (t := 2) (v := .string (⟨#[121, 111]⟩ : ByteArray)) S rfl)) ⟨(), rfl, S.mem.sel [] [] (by decide) rfl rfl⟩)))
 refine sCondF S rfl a4 ?_
 refine sSeq (fun c6 ar => sRegion (sBin _ S (wN rfl) rfl rfl rfl (bEq _ _ _ _ .u8 p0.Kind 3) rfl (lb rfl) fun a S => ?_))
 refine sN S fun a S => ?_
 refine lT (ar _ _ ?_)
 rcases iS h with ⟨a5, h⟩ | ⟨a5, h⟩
 ·refine sCondT S rfl a5 ?_
  refine sSeq (fun c7 au => sRegion (sM S fun a S => ?_))
  obtain ⟨bQ, av, h⟩ := bS h
  refine sBin _ S (wN rfl) rfl rfl rfl (bAddS _ _ _ _ (x := o4) (y := (⟨#[102]⟩ : ByteArray)) av) rfl (lb rfl) fun a S => ?_
  refine sField (b := b2) (off := 0) 2 2 S (wN rfl) rfl rfl rfl rfl rfl (lb rfl) fun a S => ?_
  refine sLoad1 0 (iv p0.A) S (wN rfl) rfl rfl rfl rfl rfl rfl (lb rfl) fun a S => ?_
  obtain ⟨aw, ax, h⟩ := bS h
  have S1 := S.mem
  refine sCq [iv p0.A] (.string aw) S callee108 (S1.quiet [] rfl) (fun E1 w1 S1 => c_raddleref25_Decimal E1 w1 p0.A aw ax S1) fun a w S => ?_
  obtain ⟨bz, ay, h⟩ := bS h
  refine sBin _ S (wN rfl) rfl rfl rfl (bAddS _ _ _ _ (x := bQ) (y := aw) ay) rfl (lb rfl) fun a S => ?_
  refine sN S fun a S => ?_
  refine lT (au _ _ ?_)
  obtain rfl := tS h
  exact wp_ret (rBlock (rThen (sRet (.string bz) S (rsl1 rfl (rvT (t := 2) (v := .string bz) S rfl)) ⟨(), rfl, S.mem.sel [] [] (by decide) rfl rfl⟩)))
 refine sCondF S rfl a5 ?_
 refine sSeq (fun c8 az => sRegion (sBin _ S (wN rfl) rfl rfl rfl (bEq _ _ _ _ .u8 p0.Kind 4) rfl (lb rfl) fun a S => ?_))
 refine sN S fun a S => ?_
 refine lT (az _ _ ?_)
 rcases iS h with ⟨a6, h⟩ | ⟨a6, h⟩
 ·refine sCondT S rfl a6 ?_
  refine sSeq (fun c9 aA => sRegion (sM S fun a S => ?_))
  obtain ⟨bR, aC, h⟩ := bS h
  refine sBin _ S (wN rfl) rfl rfl rfl (bAddS _ _ _ _ (x := o4) (y := (⟨#[108]⟩ : ByteArray)) aC) rfl (lb rfl) fun a S => ?_
  refine sField (b := b2) (off := 0) 2 2 S (wN rfl) rfl rfl rfl rfl rfl (lb rfl) fun a S => ?_
  refine sLoad1 0 (iv p0.A) S (wN rfl) rfl rfl rfl rfl rfl rfl (lb rfl) fun a S => ?_
  obtain ⟨aG, aH, h⟩ := bS h
  have S1 := S.mem
  refine sCq [iv p0.A] (.string aG) S callee108 (S1.quiet [] rfl) (fun E1 w1 S1 => c_raddleref25_Decimal E1 w1 p0.A aG aH S1) fun a w S => ?_
  obtain ⟨bA, aI, h⟩ := bS h
  refine sBin _ S (wN rfl) rfl rfl rfl (bAddS _ _ _ _ (x := bR) (y := aG) aI) rfl (lb rfl) fun a S => ?_
  refine sN S fun a S => ?_
  refine lT (aA _ _ ?_)
  obtain rfl := tS h
  exact wp_ret (rBlock (rThen (sRet (.string bA) S (rsl1 rfl (rvT (t := 2) (v := .string bA) S rfl)) ⟨(), rfl, S.mem.sel [] [] (by decide) rfl rfl⟩)))
 refine sCondF S rfl a6 ?_
 refine sSeq (fun ca aJ => sRegion (sBin _ S (wN rfl) rfl rfl rfl (bEq _ _ _ _ .u8 p0.Kind 5) rfl (lb rfl) fun a S => ?_))
 refine sN S fun a S => ?_
 refine lT (aJ _ _ ?_)
 rcases iS h with ⟨a7, h⟩ | ⟨a7, h⟩
 ·refine sCondT S rfl a7 ?_
  refine sSeq (fun cb aK => sRegion (sM S fun a S => ?_))
  obtain ⟨bU, aL, h⟩ := bS h
  refine sBin _ S (wN rfl) rfl rfl rfl (bAddS _ _ _ _ (x := o4) (y := (⟨#[109]⟩ : ByteArray)) aL) rfl (lb rfl) fun a S => ?_
  refine sField (b := b2) (off := 0) 2 2 S (wN rfl) rfl rfl rfl rfl rfl (lb rfl) fun a S => ?_
  refine sLoad1 0 (iv p0.A) S (wN rfl) rfl rfl rfl rfl rfl rfl (lb rfl) fun a S => ?_
  obtain ⟨aM, aO, h⟩ := bS h
  have S1 := S.mem
  refine sCq [iv p0.A] (.string aM) S callee108 (S1.quiet [] rfl) (fun E1 w1 S1 => c_raddleref25_Decimal E1 w1 p0.A aM aO S1) fun a w S => ?_
  obtain ⟨bB, aP, h⟩ := bS h
  refine sBin _ S (wN rfl) rfl rfl rfl (bAddS _ _ _ _ (x := bU) (y := aM) aP) rfl (lb rfl) fun a S => ?_
  refine sN S fun a S => ?_
  refine lT (aK _ _ ?_)
  obtain rfl := tS h
  exact wp_ret (rBlock (rThen (sRet (.string bB) S (rsl1 rfl (rvT (t := 2) (v := .string bB) S rfl)) ⟨(), rfl, S.mem.sel [] [] (by decide) rfl rfl⟩)))
 refine sCondF S rfl a7 ?_
 refine sSeq (fun cc aQ => sRegion (sBin _ S (wN rfl) rfl rfl rfl (bEq _ _ _ _ .u8 p0.Kind 6) rfl (lb rfl) fun a S => ?_))
 refine sN S fun a S => ?_
 refine lT (aQ _ _ ?_)
 rcases iS h with ⟨a8, h⟩ | ⟨a8, h⟩
 ·refine sCondT S rfl a8 ?_
  refine sSeq (fun cd aR => ?_)
  obtain ⟨bC, aS, h⟩ := bS h
  obtain ⟨af, aT, h⟩ := bS h
  obtain ⟨bD, aU, h⟩ := bS h
  obtain ⟨bE, aV, h⟩ := bS h
  obtain ⟨ag, aW, h⟩ := bS h
  obtain ⟨ac, aX, h⟩ := bS h
  refine sDraw (nf := []) (W := [(0, 39, .string o4), (1, 40, .string bC), (2, 41, .pointer (some ⟨b2, 2, none⟩)), (3, 42, iv p0.A), (4, 43, .string af), (5, 44, .string bD), (6, 45, .string bE), (7, 46, .pointer (some ⟨b2, 3, none⟩)), (8, 47, iv p0.B), (9, 48, .string ag), (10, 49, .string ac), (11, 2, .string ac)]) rfl S ?_
  refine node_by (A := anc_raddleref25_one_0) 12 (by kernel_rfl) (by kernel_rfl) (by kernel_rfl) (by kernel_rfl) (by kernel_rfl) [0, 1, 2, 3, 4, 5, 6, 7, 8, 9, 10, 11] (by kernel_rfl) (by decide) (by decide) (fF ?_ (fF ?_ (fF ?_ (fF ?_ (fF ?_ (fF ?_ (fF ?_ (fF ?_ (fF ?_ (fF ?_ (fF ?_ (fF ?_ (trivial))))))))))))) [(2, .string ac)] (fin_of [some 11] rfl (by kernel_rfl) (by kernel_rfl)) (fun _ a w S => ?_)
  ·exact fM 0 none rfl rfl rfl rfl (.inl rfl) rfl rfl rfl
  ·refine fJ [(39, _)] 1 [some 0] fun G a w S => ?_
   exact sBin _ S (wN rfl) rfl rfl rfl (bAddS _ _ _ _ (x := o4) (y := (⟨#[120]⟩ : ByteArray)) aS) rfl (lb rfl) fun a S => leafL ⟨rfl, S⟩
  ·refine fJ [(1, _)] 2 [none] fun G a w S => ?_
   exact sField (b := b2) (off := 0) 2 2 S (wN rfl) rfl rfl rfl rfl rfl (lb rfl) fun a S => leafL ⟨rfl, S⟩
  ·refine fJ [(41, _)] 3 [some 2] fun G a w S => ?_
   exact sLoad1 0 (iv p0.A) S (wN rfl) rfl rfl rfl rfl rfl rfl (lb rfl) fun a S => leafL ⟨rfl, S⟩
  ·refine fJ [(42, _)] 4 [some 3] fun G a w S => ?_
   have S1 := S.mem
   refine sCq [iv p0.A] (.string af) S callee108 (S1.quiet [] rfl) (fun E1 w1 S1 => c_raddleref25_Decimal E1 w1 p0.A af aT S1) fun a w S => ?_
   exact leafL ⟨rfl, S⟩
  ·refine fJ [(40, _), (43, _)] 5 [some 1, some 4] fun G a w S => ?_
   exact sBin _ S (wN rfl) rfl rfl rfl (bAddS _ _ _ _ (x := bC) (y := af) aU) rfl (lb rfl) fun a S => leafL ⟨rfl, S⟩
  ·refine fJ [(44, _)] 6 [some 5] fun G a w S => ?_
   exact sBin _ S (wN rfl) rfl rfl rfl (bAddS _ _ _ _ (x := bD) (y := (⟨#[47]⟩ : ByteArray)) aV) rfl (lb rfl) fun a S => leafL ⟨rfl, S⟩
  ·refine fJ [(1, _)] 7 [none] fun G a w S => ?_
   exact sField (b := b2) (off := 0) 3 3 S (wN rfl) rfl rfl rfl rfl rfl (lb rfl) fun a S => leafL ⟨rfl, S⟩
  ·refine fJ [(46, _)] 8 [some 7] fun G a w S => ?_
   exact sLoad1 0 (iv p0.B) S (wN rfl) rfl rfl rfl rfl rfl rfl (lb rfl) fun a S => leafL ⟨rfl, S⟩
  ·refine fJ [(47, _)] 9 [some 8] fun G a w S => ?_
   have S1 := S.mem
   refine sCq [iv p0.B] (.string ag) S callee108 (S1.quiet [] rfl) (fun E1 w1 S1 => c_raddleref25_Decimal E1 w1 p0.B ag aW S1) fun a w S => ?_
   exact leafL ⟨rfl, S⟩
  ·refine fJ [(45, _), (48, _)] 10 [some 6, some 9] fun G a w S => ?_
   exact sBin _ S (wN rfl) rfl rfl rfl (bAddS _ _ _ _ (x := bE) (y := ag) aX) rfl (lb rfl) fun a S => leafL ⟨rfl, S⟩
  ·exact fM 11 (some 10) rfl rfl rfl rfl (.inr rfl) rfl rfl rfl
  refine leafT (aR _ _ ?_)
  obtain rfl := tS h
  exact wp_ret (rBlock (rThen (sRet (.string ac) S (rsl1 rfl (rvT (t := 2) (v := .string ac) S rfl)) ⟨(), rfl, S.mem.sel [] [] (by decide) rfl rfl⟩)))
 refine sCondF S rfl a8 ?_
 refine sSeq (fun ce aZ => sRegion (sBin _ S (wN rfl) rfl rfl rfl (bEq _ _ _ _ .u8 p0.Kind 7) rfl (lb rfl) fun a S => ?_))
 refine sN S fun a S => ?_
 refine lT (aZ _ _ ?_)
 rcases iS h with ⟨a9, h⟩ | ⟨a9, h⟩
 rotate_left
 ·refine sCondF S rfl a9 ?_
  refine sSeq (fun cg ba => sRegion (sBin _ S (wN rfl) rfl rfl rfl (bEq _ _ _ _ .u8 p0.Kind 8) rfl (lb rfl) fun a S => ?_))
  refine sN S fun a S => ?_
  refine lT (ba _ _ ?_)
  rcases iS h with ⟨aa, h⟩ | ⟨aa, h⟩
  ·refine sCondT S rfl aa ?_
   refine sSeq (fun ci bb => sRegion (sM S fun a S => ?_))
   obtain ⟨bG, bc, h⟩ := bS h
   refine sBin _ S (wN rfl) rfl rfl rfl (bAddS _ _ _ _ (x := o4) (y := (⟨#[115]⟩ : ByteArray)) bc) rfl (lb rfl) fun a S => ?_
   refine sN S fun a S => ?_
   refine lT (bb _ _ ?_)
   obtain rfl := tS h
   exact wp_ret (rBlock (rThen (sRet (.string bG) S (rsl1 rfl (rvT (t := 2) (v := .string bG) S rfl)) ⟨(), rfl, S.mem.sel [] [] (by decide) rfl rfl⟩)))
  refine sCondF S rfl aa ?_
  refine sSeq (fun cj bf => sRegion (sBin _ S (wN rfl) rfl rfl rfl (bEq _ _ _ _ .u8 p0.Kind 9) rfl (lb rfl) fun a S => ?_))
  refine sN S fun a S => ?_
  refine lT (bf _ _ ?_)
  rcases iS h with ⟨ab, h⟩ | ⟨ab, h⟩
  ·refine sCondT S rfl ab ?_
   refine sSeq (fun ck bg => sRegion (sField (b := b2) (off := 0) 2 2 S (wN rfl) rfl rfl rfl rfl rfl (lb rfl) fun a S => ?_))
   refine sLoad1 0 (iv p0.A) S (wN rfl) rfl rfl rfl rfl rfl rfl (lb rfl) fun a S => ?_
   obtain ⟨bh, bi, h⟩ := bS h
   have S1 := S.mem
   refine sCq [iv p0.A] (.string bh) S callee108 (S1.quiet [] rfl) (fun E1 w1 S1 => c_raddleref25_Decimal E1 w1 p0.A bh bi S1) fun a w S => ?_
   obtain ⟨bH, bj, h⟩ := bS h
   refine sBin _ S (wN rfl) rfl rfl rfl (bAddS _ _ _ _ (x := (⟨#[111, 110]⟩ : ByteArray)) (y := bh) bj) rfl (lb rfl) fun a S => ?_
   refine sN S fun a S => ?_
   refine lT (bg _ _ ?_)
   obtain rfl := tS h
   exact wp_ret (rBlock (rThen (sRet (.string bH) S (rsl1 rfl (rvT (t := 2) (v := .string bH) S rfl)) ⟨(), rfl, S.mem.sel [] [] (by decide) rfl rfl⟩)))
  refine sCondF S rfl ab ?_
  refine wp_skip (leafB (leafT (bP _ _ ?_)))
  refine sSeq (fun cl bk => sRegion (sM S fun a S => ?_))
  obtain ⟨bV, bl, h⟩ := bS h
  refine sBin _ S (wN rfl) rfl rfl rfl (bAddS _ _ _ _ (x := o4) (y := (⟨#[111]⟩ : ByteArray)) bl) rfl (lb rfl) fun a S => ?_
  refine sField (b := b2) (off := 0) 2 2 S (wN rfl) rfl rfl rfl rfl rfl (lb rfl) fun a S => ?_
  refine sLoad1 0 (iv p0.A) S (wN rfl) rfl rfl rfl rfl rfl rfl (lb rfl) fun a S => ?_
  obtain ⟨bm, bn, h⟩ := bS h
  have S1 := S.mem
  refine sCq [iv p0.A] (.string bm) S callee108 (S1.quiet [] rfl) (fun E1 w1 S1 => c_raddleref25_Decimal E1 w1 p0.A bm bn S1) fun a w S => ?_
  obtain ⟨bI, bp, h⟩ := bS h
  refine sBin _ S (wN rfl) rfl rfl rfl (bAddS _ _ _ _ (x := bV) (y := bm) bp) rfl (lb rfl) fun a S => ?_
  refine sN S fun a S => ?_
  refine lT (bk _ _ ?_)
  obtain rfl := tS h
  exact wp_ret (sRet (.string bI) S (rsl1 rfl (rvT (t := 2) (v := .string bI) S rfl)) ⟨(), rfl, S.mem.sel [] [] (by decide) rfl rfl⟩)
 refine sCondT S rfl a9 ?_
 refine sSeq (fun cm bq => ?_)
 obtain ⟨bJ, br, h⟩ := bS h
 obtain ⟨ah, bt, h⟩ := bS h
 obtain ⟨bK, bu, h⟩ := bS h
 obtain ⟨bL, bv, h⟩ := bS h
 obtain ⟨ai, bw, h⟩ := bS h
 obtain ⟨ae, bx, h⟩ := bS h
 refine sDraw (nf := []) (W := [(0, 52, .string o4), (1, 53, .string bJ), (2, 54, .pointer (some ⟨b2, 2, none⟩)), (3, 55, iv p0.A), (4, 56, .string ah), (5, 57, .string bK), (6, 58, .string bL), (7, 59, .pointer (some ⟨b2, 3, none⟩)), (8, 60, iv p0.B), (9, 61, .string ai), (10, 62, .string ae), (11, 2, .string ae)]) rfl S ?_
 refine node_by (A := anc_raddleref25_one_0) 12 (by kernel_rfl) (by kernel_rfl) (by kernel_rfl) (by kernel_rfl) (by kernel_rfl) [0, 1, 2, 3, 4, 5, 6, 7, 8, 9, 10, 11] (by kernel_rfl) (by decide) (by decide) (fF ?_ (fF ?_ (fF ?_ (fF ?_ (fF ?_ (fF ?_ (fF ?_ (fF ?_ (fF ?_ (fF ?_ (fF ?_ (fF ?_ (trivial))))))))))))) [(2, .string ae)] (fin_of [some 11] rfl (by kernel_rfl) (by kernel_rfl)) (fun _ a w S => ?_)
 ·exact fM 0 none rfl rfl rfl rfl (.inl rfl) rfl rfl rfl
 ·refine fJ [(52, _)] 1 [some 0] fun G a w S => ?_
  exact sBin _ S (wN rfl) rfl rfl rfl (bAddS _ _ _ _ (x := o4) (y := (⟨#[121]⟩ : ByteArray)) br) rfl (lb rfl) fun a S => leafL ⟨rfl, S⟩
 ·refine fJ [(1, _)] 2 [none] fun G a w S => ?_
  exact sField (b := b2) (off := 0) 2 2 S (wN rfl) rfl rfl rfl rfl rfl (lb rfl) fun a S => leafL ⟨rfl, S⟩
 ·refine fJ [(54, _)] 3 [some 2] fun G a w S => ?_
  exact sLoad1 0 (iv p0.A) S (wN rfl) rfl rfl rfl rfl rfl rfl (lb rfl) fun a S => leafL ⟨rfl, S⟩
 ·refine fJ [(55, _)] 4 [some 3] fun G a w S => ?_
  have S1 := S.mem
  refine sCq [iv p0.A] (.string ah) S callee108 (S1.quiet [] rfl) (fun E1 w1 S1 => c_raddleref25_Decimal E1 w1 p0.A ah bt S1) fun a w S => ?_
  exact leafL ⟨rfl, S⟩
 ·refine fJ [(53, _), (56, _)] 5 [some 1, some 4] fun G a w S => ?_
  exact sBin _ S (wN rfl) rfl rfl rfl (bAddS _ _ _ _ (x := bJ) (y := ah) bu) rfl (lb rfl) fun a S => leafL ⟨rfl, S⟩
 ·refine fJ [(57, _)] 6 [some 5] fun G a w S => ?_
  exact sBin _ S (wN rfl) rfl rfl rfl (bAddS _ _ _ _ (x := bK) (y := (⟨#[47]⟩ : ByteArray)) bv) rfl (lb rfl) fun a S => leafL ⟨rfl, S⟩
 ·refine fJ [(1, _)] 7 [none] fun G a w S => ?_
  exact sField (b := b2) (off := 0) 3 3 S (wN rfl) rfl rfl rfl rfl rfl (lb rfl) fun a S => leafL ⟨rfl, S⟩
 ·refine fJ [(59, _)] 8 [some 7] fun G a w S => ?_
  exact sLoad1 0 (iv p0.B) S (wN rfl) rfl rfl rfl rfl rfl rfl (lb rfl) fun a S => leafL ⟨rfl, S⟩
 ·refine fJ [(60, _)] 9 [some 8] fun G a w S => ?_
  have S1 := S.mem
  refine sCq [iv p0.B] (.string ai) S callee108 (S1.quiet [] rfl) (fun E1 w1 S1 => c_raddleref25_Decimal E1 w1 p0.B ai bw S1) fun a w S => ?_
  exact leafL ⟨rfl, S⟩
 ·refine fJ [(58, _), (61, _)] 10 [some 6, some 9] fun G a w S => ?_
  exact sBin _ S (wN rfl) rfl rfl rfl (bAddS _ _ _ _ (x := bL) (y := ai) bx) rfl (lb rfl) fun a S => leafL ⟨rfl, S⟩
 ·exact fM 11 (some 10) rfl rfl rfl rfl (.inr rfl) rfl rfl rfl
 refine leafT (bq _ _ ?_)
 obtain rfl := tS h
 exact wp_ret (rBlock (rThen (sRet (.string ae) S (rsl1 rfl (rvT (t := 2) (v := .string ae) S rfl)) ⟨(), rfl, S.mem.sel [] [] (by decide) rfl rfl⟩)))
noncomputable def F_raddleref26_side (p0 : Bool) : Option ByteArray :=
 if p0 then
  some (⟨#[98, 97, 99, 107]⟩ : ByteArray)
 else
  some (⟨#[102, 114, 111, 110, 116]⟩ : ByteArray)
theorem c_raddleref26_side (E : Nat → Prop) (w0 : World) (p0 : Bool) (r : ByteArray) (h : F_raddleref26_side p0 = some r) (S : St0 E [] w0 w0 [] []) :
 Calls Try.prog 109 #[.bool p0] w0 (Ret (X := Unit) E [] w0 (fun _ => .string r) (fun _ => []) (fun _ => [])) := by
 unfold F_raddleref26_side at h
 refine sEnter (args := [.bool p0]) 4 Try.func109 rfl rfl (by simp) S (fun a S => ?_)
 refine sSeq (fun K1 a4 => sRegion (sN S fun a S => ?_))
 refine lT (a4 _ _ (sSeq (fun K2 a5 => sSeq (fun K3 a6 => sRegion (sM S fun a S => ?_)))))
 refine lT (a6 _ _ ?_)
 rcases iS h with ⟨a0, h⟩ | ⟨a0, h⟩
 ·refine sCondT S rfl a0 ?_
  refine sSeq (fun K5 a7 => sRegion (sN S fun a S => ?_))
  refine lT (a7 _ _ ?_)
  obtain rfl := tS h
  exact wp_ret (rThen (sRet (.string (⟨#[98, 97, 99, 107]⟩ : ByteArray)) S (rsl1 rfl (rvT (t := 2) (v := .string (⟨#[98, 97, 99, 107]⟩ : ByteArray)) S rfl)) ⟨(), rfl, S.mem.sel [] [] (by decide) rfl rfl⟩))
 refine sCondF S rfl a0 ?_
 refine wp_skip (leafT (a5 _ _ ?_))
 refine sSeq (fun K6 a8 => sRegion (sN S fun a S => ?_))
 refine lT (a8 _ _ ?_)
 obtain rfl := tS h
 exact wp_ret (sRet (.string (⟨#[102, 114, 111, 110, 116]⟩ : ByteArray)) S (rsl1 rfl (rvT (t := 2) (v := .string (⟨#[102, 114, 111, 110, 116]⟩ : ByteArray)) S rfl)) ⟨(), rfl, S.mem.sel [] [] (by decide) rfl rfl⟩)
noncomputable def F_grid_Check (p0 : api_Grid) : Option Int :=
 if decide (64 < (if p0.W < p0.H then p0.H else p0.W)) then
  some 4
 else
  Option.bind (α := Bool) (
   if decide ((if p0.H < p0.W then p0.H else p0.W) < 1) then
    some true
   else
    some ((p0.Bits.length : Int) != (w64 (p0.W * p0.H)))) fun a0 =>
  if a0 then
   some 8
  else
   some 0
theorem c_grid_Check (E : Nat → Prop) (w0 : World) (p0 : api_Grid) (v0 : Value) (r : Int) (h : F_grid_Check p0 = some r) (S : St0 E [] w0 w0 [] [fRep r_api_Grid (v0) p0]) :
 Calls Try.prog 45 #[v0] w0 (Ret (X := Unit) E [] w0 (fun _ => .int .i64 r) (fun _ => []) (fun _ => [])) := by
 unfold F_grid_Check at h
 obtain ⟨u1, rfl, ac⟩ := S.know (i := 0) (e := fRep r_api_Grid (v0) p0) rfl
 have S := S.learn (fRep (rL rB) u1 p0.Bits) ac
 obtain ⟨a5, a6, _, rfl, _⟩ := ac
 refine sEnter (args := [.agg #[iv p0.W, iv p0.H, .slice a5 p0.Bits.length a6]]) 28 Try.func45 rfl rfl (by simp) S (fun a S => ?_)
 refine sSeq (fun K5 ae => sRegion (sBox (v := .agg #[iv p0.W, iv p0.H, .slice a5 p0.Bits.length a6]) S (wN rfl) rfl rfl [iv p0.W, iv p0.H, .slice a5 p0.Bits.length a6] rfl rfl (lb rfl) fun a b6 w S => ?_))
 refine sN S fun a S => ?_
 refine lT (ae _ _ (sSeq (fun K7 af => wp_block ?_)))
 refine sSeq (fun K8 ag => sRegion (sField (b := b6) (off := 0) 0 0 S (wN rfl) rfl rfl rfl rfl rfl (lb rfl) fun a S => ?_))
 refine sLoad1 0 (iv p0.W) S (wN rfl) rfl rfl rfl rfl rfl rfl (lb rfl) fun a S => ?_
 refine sField (b := b6) (off := 0) 1 1 S (wN rfl) rfl rfl rfl rfl rfl (lb rfl) fun a S => ?_
 refine sLoad1 0 (iv p0.H) S (wN rfl) rfl rfl rfl rfl rfl rfl (lb rfl) fun a S => ?_
 refine sMax2 (p := p0.W) (q := p0.H) S (wN rfl) rfl rfl rfl rfl (lb rfl) fun a S => ?_
 refine sBin _ S (wN rfl) rfl rfl rfl (bGt _ _ _ _ .i64 (if p0.W < p0.H then p0.H else p0.W) 64) rfl (lb rfl) fun a S => ?_
 refine sN S fun a S => ?_
 refine lT (ag _ _ ?_)
 rcases iS h with ⟨a7, h⟩ | ⟨a7, h⟩
 ·refine sCondT S rfl a7 ?_
  refine sSeq (fun aj a8 => sRegion (sN S fun a S => ?_))
  refine lT (a8 _ _ ?_)
  obtain rfl := tS h
  exact wp_ret (rBlock (rThen (sRet (iv 4) S (rsl1 rfl (rvT (t := 2) (v := iv 4) S rfl)) ⟨(), rfl, S.mem.sel [] [] (by decide) rfl rfl⟩)))
 refine sCondF S rfl a7 ?_
 obtain ⟨ah, h, ai⟩ := bS h
 refine sCut (fun a w => ∃ a9, a9 = ah ∧ St [] E [] w0 28 a w [(10, .bool a9)] [] []) ?_ (fun a w hI => ?_)
 rotate_left
 ·obtain ⟨a9, rfl, S⟩ := hI
  have h := ai
  try dsimp only at h
  rcases iS h with ⟨a4, h⟩ | ⟨a4, h⟩
  ·refine sCondT S rfl a4 ?_
   refine sSeq (fun ak aa => sRegion (sN S fun a S => ?_))
   refine lT (aa _ _ ?_)
   obtain rfl := tS h
   exact wp_ret (rBlock (rThen (sRet (iv 8) S (rsl1 rfl (rvT (t := 2) (v := iv 8) S rfl)) ⟨(), rfl, S.mem.sel [] [] (by decide) rfl rfl⟩)))
  refine sCondF S rfl a4 ?_
  refine wp_skip (leafB (leafT (af _ _ ?_)))
  refine sSeq (fun am ab => sRegion (sN S fun a S => ?_))
  refine lT (ab _ _ ?_)
  obtain rfl := tS h
  exact wp_ret (sRet (iv 0) S (rsl1 rfl (rvT (t := 2) (v := iv 0) S rfl)) ⟨(), rfl, S.mem.sel [] [] (by decide) rfl rfl⟩)
 refine sRegion (sField (b := b6) (off := 0) 0 0 S (wN rfl) rfl rfl rfl rfl rfl (lb rfl) fun a S => ?_)
 refine sLoad1 0 (iv p0.W) S (wN rfl) rfl rfl rfl rfl rfl rfl (lb rfl) fun a S => ?_
 refine sField (b := b6) (off := 0) 1 1 S (wN rfl) rfl rfl rfl rfl rfl (lb rfl) fun a S => ?_
 refine sLoad1 0 (iv p0.H) S (wN rfl) rfl rfl rfl rfl rfl rfl (lb rfl) fun a S => ?_
 refine sMin2 (p := p0.W) (q := p0.H) S (wN rfl) rfl rfl rfl rfl (lb rfl) fun a S => ?_
 refine sBin _ S (wN rfl) rfl rfl rfl (bLt _ _ _ _ .i64 (if p0.H < p0.W then p0.H else p0.W) 1) rfl (lb rfl) fun a S => ?_
 refine sM S fun a S => ?_
 rcases iS h with ⟨a0, h⟩ | ⟨a0, h⟩
 ·refine sSkN 9 6 false 17 S rfl rfl a0 rfl fun a S => ?_
  refine sPickT (.bool true) S (wN rfl) rfl rfl a0 rfl rfl (lb rfl) fun a S => ?_
  refine sN S fun a S => ?_
  exact lT (⟨true, Option.some.inj h, S.fix [] [] (by decide) rfl rfl rfl⟩)
 refine sField (b := b6) (off := 0) 2 2 S (wG 6 false 17 rfl rfl rfl a0) rfl rfl rfl rfl rfl (lb rfl) fun a S => ?_
 refine sLoad1 0 (.slice a5 p0.Bits.length a6) S (wG 6 false 17 rfl rfl rfl a0) rfl rfl rfl rfl rfl rfl (lb rfl) fun a S => ?_
 refine sLen S (wG 6 false 17 rfl rfl rfl a0) rfl Try.underlying22 rfl rfl (lb rfl) fun a S => ?_
 refine sField (b := b6) (off := 0) 0 0 S (wG 6 false 17 rfl rfl rfl a0) rfl rfl rfl rfl rfl (lb rfl) fun a S => ?_
 refine sLoad1 0 (iv p0.W) S (wG 6 false 17 rfl rfl rfl a0) rfl rfl rfl rfl rfl rfl (lb rfl) fun a S => ?_
 refine sField (b := b6) (off := 0) 1 1 S (wG 6 false 17 rfl rfl rfl a0) rfl rfl rfl rfl rfl (lb rfl) fun a S => ?_
 refine sLoad1 0 (iv p0.H) S (wG 6 false 17 rfl rfl rfl a0) rfl rfl rfl rfl rfl rfl (lb rfl) fun a S => ?_
 refine sBin _ S (wG 6 false 17 rfl rfl rfl a0) rfl rfl rfl (bMul _ _ _ _ p0.W p0.H) rfl (lb rfl) fun a S => ?_
 refine sBin _ S (wG 6 false 17 rfl rfl rfl a0) rfl rfl rfl (bNe _ _ _ _ .i64 (p0.Bits.length : Int) (w64 (p0.W * p0.H))) rfl (lb rfl) fun a S => ?_
 refine sPickF (.bool ((p0.Bits.length : Int) != (w64 (p0.W * p0.H)))) S (wN rfl) rfl rfl a0 rfl rfl (lb rfl) fun a S => ?_
 refine sN S fun a S => ?_
 exact lT (⟨(p0.Bits.length : Int) != (w64 (p0.W * p0.H)), Option.some.inj h, S.fix [] [] (by decide) rfl rfl rfl⟩)
noncomputable def compare_differ_l1 (p0 : (List Bool)) (p1 : (List Bool)) : (Int × Int) → Option ((Int × Int) ⊕ Int) := fun s0 => match s0 with
 | (a4, a0) =>
  if decide (a0 < (p0.length : Int)) then
   Option.bind (α := Int) (
    (idxO p0 a0).bind fun a5 =>
    (idxO p1 a0).bind fun a6 =>
    if a5 != a6 then
     some (w64 (a4 + 1))
    else
     some a4) fun a7 =>
   some (.inl (a7, w64 (a0 + 1)))
  else
   some (.inr a4)
noncomputable def F_compare_differ (p0 : (List Bool)) (p1 : (List Bool)) : Option Int :=
 Option.bind (α := Int) (
  (whileO (compare_differ_l1 p0 p1) (0, 0)).bind fun a0 =>
   some a0) fun o7 =>
 some o7
theorem c_compare_differ (E : Nat → Prop) (w0 : World) (p0 : (List Bool)) (v0 : Value) (p1 : (List Bool)) (v1 : Value) (r : Int) (h : F_compare_differ p0 p1 = some r) (S : St0 E [] w0 w0 [] [fRep (rL rB) (v0) p0, fRep (rL rB) (v1) p1]) :
 Calls Try.prog 46 #[v0, v1] w0 (Ret (X := Unit) E [] w0 (fun _ => .int .i64 r) (fun _ => []) (fun _ => [])) := by
 unfold F_compare_differ at h
 obtain ⟨a6, a7, _, rfl, _⟩ := S.know (i := 0) (e := fRep (rL rB) (v0) p0) rfl
 obtain ⟨a8, a9, _, rfl, _⟩ := S.know (i := 1) (e := fRep (rL rB) (v1) p1) rfl
 refine sEnter (args := [.slice a6 p0.length a7, .slice a8 p1.length a9]) 25 Try.func46 rfl rfl (by simp) S (fun a S => ?_)
 refine sSeq (fun K5 ay => sRegion (sN S fun a S => ?_))
 refine lT (ay _ _ (sSeq (fun K6 az => sRegion (sN S fun a S => ?_))))
 refine lT (az _ _ ?_)
 obtain ⟨t8, h, g9⟩ := bS h
 refine sCut (fun a w => ∃ o7, o7 = t8 ∧ St [] E [] w0 25 a w [(5, iv o7)] [] []) ?_ (fun a w hI => ?_)
 rotate_left
 ·obtain ⟨o7, rfl, S⟩ := hI
  have h := g9
  try dsimp only at h
  refine sSeq (fun aH af => sRegion (sM S fun a S => ?_))
  refine sN S fun a S => ?_
  refine lT (af _ _ ?_)
  obtain rfl := tS h
  exact wp_ret (sRet (iv o7) S (rsl1 rfl (rvT (t := 4) (v := iv o7) S rfl)) ⟨(), rfl, S.mem.sel [] [] (by decide) rfl rfl⟩)
 refine sSeq (fun aI ag => sRegion (sM S fun a S => ?_))
 refine sLen S (wN rfl) rfl Try.underlying22 rfl rfl (lb rfl) fun a S => ?_
 refine sM S fun a S => ?_
 refine lT (ag _ _ (wp_block ?_))
 obtain ⟨aJ, hl, aA⟩ := bS h
 refine sLoop hl (fun s0 a w => match s0 with | (aa, a0) => St [] E [] w0 25 a w [(1, .slice a8 p1.length a9), (5, iv aa), (8, .slice a6 p0.length a7), (9, iv (p0.length : Int)), (10, iv a0)] [] [fRep (rL rB) (.slice a8 p1.length a9) p1, fRep (rL rB) (.slice a6 p0.length a7) p0]) (S.fix [] [1, 0] (by decide) rfl rfl rfl) ?_
 clear hl h
 intro s0 a w c0 hI h ah
 obtain ⟨aa, a0⟩ := s0
 unfold compare_differ_l1 at h
 dsimp only at h hI
 have S := hI
 refine sSeq (fun aK ai => sRegion (sBin _ S (wN rfl) rfl rfl rfl (bLt _ _ _ _ .i64 a0 (p0.length : Int)) rfl (lb rfl) fun a S => ?_))
 refine lT (ai _ _ (sSeq (fun aL aj => ?_)))
 rcases iS h with ⟨a4, h⟩ | ⟨a4, h⟩
 rotate_left
 ·refine sCondF S rfl a4 ?_
  obtain rfl := tS h
  obtain rfl := ah _ rfl
  have h := aA
  try dsimp only at h
  exact wp_exit (xThen (xThen (xHit (leafT (⟨aa, Option.some.inj h, S.fix [] [] (by decide) rfl rfl rfl⟩)))))
 refine sCondT S rfl a4 ?_
 refine wp_skip (leafT (aj _ _ ?_))
 obtain ⟨aC, h, aG⟩ := bS h
 refine sCut (fun a w => ∃ ae, ae = aC ∧ St [] E [] w0 25 a w [(1, .slice a8 p1.length a9), (5, iv ae), (8, .slice a6 p0.length a7), (9, iv (p0.length : Int)), (10, iv a0)] [] [fRep (rL rB) (.slice a8 p1.length a9) p1, fRep (rL rB) (.slice a6 p0.length a7) p0]) ?_ (fun a w hI => ?_)
 rotate_left
 ·obtain ⟨ae, rfl, S⟩ := hI
  have h := aG
  try dsimp only at h
  refine sRegion (sBin _ S (wN rfl) rfl rfl rfl (bAdd _ _ _ _ a0 1) rfl (lb rfl) fun a S => ?_)
  refine sM S fun a S => ?_
  exact lT (⟨(ae, w64 (a0 + 1)), (Option.some.inj h).symm, (S.fix [] [0, 1] (by decide) rfl rfl rfl)⟩)
 refine wp_block ?_
 refine sSeq (fun aM ak => sRegion (sM S fun a S => ?_))
 obtain ⟨ab, am, h⟩ := bS h
 obtain ⟨au, ao, S⟩ := pIdx (P := Try.prog) (r := rB) (v := .slice a6 p0.length a7) (xs := p0) (j := a0) 22 4 1 S Try.underlying22 rfl rfl am
 refine sIdxV S (wN rfl) rfl rfl rfl ao rfl (lb rfl) fun a S => ?_
 obtain ⟨av, S⟩ := pLoad (r := rB) (q := au) (x := ab) 0 S rfl
 obtain rfl : av = .bool ab := S.mem.know (i := 1) (e := fRep rB (av) ab) rfl
 refine sLoadV1 (vq := au) 0 (.bool ab) S (wN rfl) rfl rfl rfl rfl rfl (lb rfl) fun a S => ?_
 refine sN S fun a S => ?_
 refine sN S fun a S => ?_
 refine lT (ak _ _ (sSeq (fun aO ap => sRegion (sM S fun a S => ?_))))
 refine sM S fun a S => ?_
 refine sM S fun a S => ?_
 obtain ⟨ac, aq, h⟩ := bS h
 obtain ⟨aw, ar, S⟩ := pIdx (P := Try.prog) (r := rB) (v := .slice a8 p1.length a9) (xs := p1) (j := a0) 22 4 3 S Try.underlying22 rfl rfl aq
 refine sIdxV S (wN rfl) rfl rfl rfl ar rfl (lb rfl) fun a S => ?_
 obtain ⟨ax, S⟩ := pLoad (r := rB) (q := aw) (x := ac) 0 S rfl
 obtain rfl : ax = .bool ac := S.mem.know (i := 1) (e := fRep rB (ax) ac) rfl
 refine sLoadV1 (vq := aw) 0 (.bool ac) S (wN rfl) rfl rfl rfl rfl rfl (lb rfl) fun a S => ?_
 refine sBin _ S (wN rfl) rfl rfl rfl (bNeB _ _ _ _ Try.underlying4 ab ac) rfl (lb rfl) fun a S => ?_
 refine lT (ap _ _ ?_)
 rcases iS h with ⟨a5, h⟩ | ⟨a5, h⟩
 rotate_left
 ·refine sCondF S rfl a5 ?_
  exact wp_skip (leafB (leafT (⟨aa, Option.some.inj h, S.fix [] [6, 7] (by decide) rfl rfl rfl⟩)))
 refine sCondT S rfl a5 ?_
 refine sRegion (sM S fun a S => ?_)
 refine sBin _ S (wN rfl) rfl rfl rfl (bAdd _ _ _ _ aa 1) rfl (lb rfl) fun a S => ?_
 refine sN S fun a S => ?_
 exact leafL (leafB (leafT (⟨w64 (aa + 1), Option.some.inj h, S.fix [] [6, 7] (by decide) rfl rfl rfl⟩)))
noncomputable def F_compare_Cells (p0 : api_Grid) (p1 : api_Grid) : Option (Int × Int) :=
 (F_grid_Check p0).bind fun a0 =>
 if a0 != 0 then
  some (0, a0)
 else
  (F_grid_Check p1).bind fun a4 =>
  if a4 != 0 then
   some (0, a4)
  else
   Option.bind (α := Bool) (
    if p0.W != p1.W then
     some true
    else
     some (p0.H != p1.H)) fun a5 =>
   if a5 then
    some (0, 2)
   else
    (F_compare_differ p0.Bits p1.Bits).bind fun a6 =>
    some (a6, 0)
theorem c_compare_Cells (E : Nat → Prop) (w0 : World) (p0 : api_Grid) (v0 : Value) (p1 : api_Grid) (v1 : Value) (r : (Int × Int)) (h : F_compare_Cells p0 p1 = some r) (S : St0 E [] w0 w0 [] [fRep r_api_Grid (v0) p0, fRep r_api_Grid (v1) p1]) :
 Calls Try.prog 14 #[v0, v1] w0 (Ret (X := Unit) E [] w0 (fun _ => .tuple #[.int .i64 r.1, .int .i64 r.2]) (fun _ => []) (fun _ => [])) := by
 unfold F_compare_Cells at h
 obtain ⟨u1, rfl, aA⟩ := S.know (i := 0) (e := fRep r_api_Grid (v0) p0) rfl
 have S := S.learn (fRep (rL rB) u1 p0.Bits) aA
 obtain ⟨a4, a5, _, rfl, _⟩ := aA
 obtain ⟨u5, rfl, aC⟩ := S.know (i := 2) (e := fRep r_api_Grid (v1) p1) rfl
 have S := S.learn (fRep (rL rB) u5 p1.Bits) aC
 obtain ⟨a6, a7, _, rfl, _⟩ := aC
 refine sEnter (args := [.agg #[iv p0.W, iv p0.H, .slice a4 p0.Bits.length a5], .agg #[iv p1.W, iv p1.H, .slice a6 p1.Bits.length a7]]) 35 Try.func14 rfl rfl (by simp) S (fun a S => ?_)
 refine sSeq (fun K9 aG => sRegion (sBox (v := .agg #[iv p0.W, iv p0.H, .slice a4 p0.Bits.length a5]) S (wN rfl) rfl rfl [iv p0.W, iv p0.H, .slice a4 p0.Bits.length a5] rfl rfl (lb rfl) fun a ab w S => ?_))
 refine sBox (v := .agg #[iv p1.W, iv p1.H, .slice a6 p1.Bits.length a7]) S (wN rfl) rfl rfl [iv p1.W, iv p1.H, .slice a6 p1.Bits.length a7] rfl rfl (lb rfl) fun a ac w S => ?_
 refine sN S fun a S => ?_
 refine sN S fun a S => ?_
 refine lT (aG _ _ (sSeq (fun aJ ah => sSeq (fun aK ai => sRegion (sLoadN (p := ab) (off := 0) (T := 24) (vs := [iv p0.W, iv p0.H, .slice a4 p0.Bits.length a5]) 1 [iv p0.W, iv p0.H, .slice a4 p0.Bits.length a5] S (wN rfl) rfl rfl rfl rfl rfl rfl rfl (lb rfl) fun a S => ?_)))))
 obtain ⟨ae, aj, h⟩ := bS h
 have S1 := S.mem
 refine sCq [.agg #[iv p0.W, iv p0.H, .slice a4 p0.Bits.length a5]] (iv ae) S callee45 (S1.quiet [2] rfl) (fun E1 w1 S1 => c_grid_Check E1 w1 p0 (.agg #[iv p0.W, iv p0.H, .slice a4 p0.Bits.length a5]) ae aj S1) fun a w S => ?_
 refine sN S fun a S => ?_
 refine lT (ai _ _ (sSeq (fun aL ak => sRegion (sM S fun a S => ?_))))
 refine sBin _ S (wN rfl) rfl rfl rfl (bNe _ _ _ _ .i64 ae 0) rfl (lb rfl) fun a S => ?_
 refine lT (ak _ _ ?_)
 rcases iS h with ⟨a8, h⟩ | ⟨a8, h⟩
 ·refine sCondT S rfl a8 ?_
  refine sSeq (fun aM am => sRegion (sM S fun a S => ?_))
  refine sN S fun a S => ?_
  refine sN S fun a S => ?_
  refine lT (am _ _ ?_)
  obtain rfl := tS h
  exact wp_ret (rThen (sRet (.tuple #[iv 0, iv ae]) S (rsl2 rfl (rvT (t := 4) (v := iv 0) S rfl) (rvT (t := 5) (v := iv ae) S rfl)) ⟨(), rfl, S.mem.sel [] [] (by decide) rfl rfl⟩))
 refine sCondF S rfl a8 ?_
 refine wp_skip (leafT (ah _ _ ?_))
 refine sSeq (fun aO ao => sSeq (fun aP ap => sRegion (sLoadN (p := ac) (off := 0) (T := 24) (vs := [iv p1.W, iv p1.H, .slice a6 p1.Bits.length a7]) 0 [iv p1.W, iv p1.H, .slice a6 p1.Bits.length a7] S (wN rfl) rfl rfl rfl rfl rfl rfl rfl (lb rfl) fun a S => ?_)))
 obtain ⟨af, aq, h⟩ := bS h
 have S1 := S.mem
 refine sCq [.agg #[iv p1.W, iv p1.H, .slice a6 p1.Bits.length a7]] (iv af) S callee45 (S1.quiet [3] rfl) (fun E1 w1 S1 => c_grid_Check E1 w1 p1 (.agg #[iv p1.W, iv p1.H, .slice a6 p1.Bits.length a7]) af aq S1) fun a w S => ?_
 refine sN S fun a S => ?_
 refine lT (ap _ _ (sSeq (fun aQ ar => sRegion (sM S fun a S => ?_))))
 refine sBin _ S (wN rfl) rfl rfl rfl (bNe _ _ _ _ .i64 af 0) rfl (lb rfl) fun a S => ?_
 refine lT (ar _ _ ?_)
 rcases iS h with ⟨a9, h⟩ | ⟨a9, h⟩
 ·refine sCondT S rfl a9 ?_
  refine sSeq (fun aR au => sRegion (sM S fun a S => ?_))
  refine sN S fun a S => ?_
  refine sN S fun a S => ?_
  refine lT (au _ _ ?_)
  obtain rfl := tS h
  exact wp_ret (rThen (sRet (.tuple #[iv 0, iv af]) S (rsl2 rfl (rvT (t := 4) (v := iv 0) S rfl) (rvT (t := 5) (v := iv af) S rfl)) ⟨(), rfl, S.mem.sel [] [] (by decide) rfl rfl⟩))
 refine sCondF S rfl a9 ?_
 refine wp_skip (leafT (ao _ _ ?_))
 refine sSeq (fun aS av => ?_)
 obtain ⟨aH, h, aI⟩ := bS h
 refine sCut (fun a w => ∃ aw, aw = aH ∧ St [] E [] w0 35 a w [(2, .pointer (some ⟨ab, 0, none⟩)), (3, .pointer (some ⟨ac, 0, none⟩)), (29, .bool aw)] [eBox ab 24 [iv p0.W, iv p0.H, .slice a4 p0.Bits.length a5], eBox ac 24 [iv p1.W, iv p1.H, .slice a6 p1.Bits.length a7]] [fRep (rL rB) (.slice a4 p0.Bits.length a5) p0.Bits, fRep (rL rB) (.slice a6 p1.Bits.length a7) p1.Bits]) ?_ (fun a w hI => ?_)
 rotate_left
 ·obtain ⟨aw, rfl, S⟩ := hI
  have h := aI
  try dsimp only at h
  rcases iS h with ⟨aa, h⟩ | ⟨aa, h⟩
  ·refine sCondT S rfl aa ?_
   refine sSeq (fun aT ax => sRegion (sN S fun a S => ?_))
   refine sN S fun a S => ?_
   refine lT (ax _ _ ?_)
   obtain rfl := tS h
   exact wp_ret (rThen (sRet (.tuple #[iv 0, iv 2]) S (rsl2 rfl (rvT (t := 4) (v := iv 0) S rfl) (rvT (t := 5) (v := iv 2) S rfl)) ⟨(), rfl, S.mem.sel [] [] (by decide) rfl rfl⟩))
  refine sCondF S rfl aa ?_
  refine wp_skip (leafT (av _ _ ?_))
  refine sSeq (fun aU ay => sRegion (sField (b := ab) (off := 0) 2 2 S (wN rfl) rfl rfl rfl rfl rfl (lb rfl) fun a S => ?_))
  refine sLoad1 0 (.slice a4 p0.Bits.length a5) S (wN rfl) rfl rfl rfl rfl rfl rfl (lb rfl) fun a S => ?_
  refine sField (b := ac) (off := 0) 2 2 S (wN rfl) rfl rfl rfl rfl rfl (lb rfl) fun a S => ?_
  refine sLoad1 1 (.slice a6 p1.Bits.length a7) S (wN rfl) rfl rfl rfl rfl rfl rfl (lb rfl) fun a S => ?_
  obtain ⟨ag, az, h⟩ := bS h
  have S1 := S.mem
  refine sCq [.slice a4 p0.Bits.length a5, .slice a6 p1.Bits.length a7] (iv ag) S callee46 (S1.quiet [0, 1] rfl) (fun E1 w1 S1 => c_compare_differ E1 w1 p0.Bits (.slice a4 p0.Bits.length a5) p1.Bits (.slice a6 p1.Bits.length a7) ag az S1) fun a w S => ?_
  refine sN S fun a S => ?_
  refine sN S fun a S => ?_
  refine lT (ay _ _ ?_)
  obtain rfl := tS h
  exact wp_ret (sRet (.tuple #[iv ag, iv 0]) S (rsl2 rfl (rvT (t := 4) (v := iv ag) S rfl) (rvT (t := 5) (v := iv 0) S rfl)) ⟨(), rfl, S.mem.sel [] [] (by decide) rfl rfl⟩)
 refine sRegion (sField (b := ab) (off := 0) 0 0 S (wN rfl) rfl rfl rfl rfl rfl (lb rfl) fun a S => ?_)
 refine sLoad1 1 (iv p0.W) S (wN rfl) rfl rfl rfl rfl rfl rfl (lb rfl) fun a S => ?_
 refine sField (b := ac) (off := 0) 0 0 S (wN rfl) rfl rfl rfl rfl rfl (lb rfl) fun a S => ?_
 refine sLoad1 0 (iv p1.W) S (wN rfl) rfl rfl rfl rfl rfl rfl (lb rfl) fun a S => ?_
 refine sBin _ S (wN rfl) rfl rfl rfl (bNe _ _ _ _ .i64 p0.W p1.W) rfl (lb rfl) fun a S => ?_
 refine sM S fun a S => ?_
 rcases iS h with ⟨a0, h⟩ | ⟨a0, h⟩
 ·refine sSkN 5 5 false 23 S rfl rfl a0 rfl fun a S => ?_
  refine sPickT (.bool true) S (wN rfl) rfl rfl a0 rfl rfl (lb rfl) fun a S => ?_
  exact lT (⟨true, Option.some.inj h, S.fix [1, 0] [1, 0] (by decide) rfl rfl rfl⟩)
 refine sField (b := ab) (off := 0) 1 1 S (wG 5 false 23 rfl rfl rfl a0) rfl rfl rfl rfl rfl (lb rfl) fun a S => ?_
 refine sLoad1 1 (iv p0.H) S (wG 5 false 23 rfl rfl rfl a0) rfl rfl rfl rfl rfl rfl (lb rfl) fun a S => ?_
 refine sField (b := ac) (off := 0) 1 1 S (wG 5 false 23 rfl rfl rfl a0) rfl rfl rfl rfl rfl (lb rfl) fun a S => ?_
 refine sLoad1 0 (iv p1.H) S (wG 5 false 23 rfl rfl rfl a0) rfl rfl rfl rfl rfl rfl (lb rfl) fun a S => ?_
 refine sBin _ S (wG 5 false 23 rfl rfl rfl a0) rfl rfl rfl (bNe _ _ _ _ .i64 p0.H p1.H) rfl (lb rfl) fun a S => ?_
 refine sPickF (.bool (p0.H != p1.H)) S (wN rfl) rfl rfl a0 rfl rfl (lb rfl) fun a S => ?_
 exact lT (⟨p0.H != p1.H, Option.some.inj h, S.fix [1, 0] [1, 0] (by decide) rfl rfl rfl⟩)
noncomputable def F_compare_ways (p0 : api_Grid) (p1 : Int) : Option (Int × api_Grid) :=
 some (p1, p0)
def c_compare_ways_val (r : (Int × api_Grid)) (x : Value × Value) : Value := .func (.func 81) #[] #[x.1, x.2]
def c_compare_ways_D (r : (Int × api_Grid)) (x : Value × Value) : List Fact := [fPtr (rI .i64) x.1 r.1, fPtr r_api_Grid x.2 r.2]
theorem c_compare_ways (E : Nat → Prop) (w0 : World) (p0 : api_Grid) (v0 : Value) (p1 : Int) (r : (Int × api_Grid)) (h : F_compare_ways p0 p1 = some r) (S : St0 E [] w0 w0 [] [fRep r_api_Grid (v0) p0]) :
 Calls Try.prog 49 #[v0, iv p1] w0 (Ret (X := Value × Value) E [] w0 (c_compare_ways_val r) (fun _ => []) (c_compare_ways_D r)) := by
 unfold F_compare_ways at h
 obtain ⟨u1, rfl, a5⟩ := S.know (i := 0) (e := fRep r_api_Grid (v0) p0) rfl
 have S := S.learn (fRep (rL rB) u1 p0.Bits) a5
 obtain ⟨a0, a4, _, rfl, _⟩ := a5
 refine sEnter (args := [.agg #[iv p0.W, iv p0.H, .slice a0 p0.Bits.length a4], iv p1]) 6 Try.func49 rfl rfl (by simp) S (fun a S => ?_)
 refine sSeq (fun K5 a6 => sRegion (sBox (v := .agg #[iv p0.W, iv p0.H, .slice a0 p0.Bits.length a4]) S (wN rfl) rfl rfl [iv p0.W, iv p0.H, .slice a0 p0.Bits.length a4] rfl rfl (lb rfl) fun a b6 w S => ?_))
 refine sBox (v := iv p1) S (wN rfl) rfl rfl [iv p1] rfl rfl (lb rfl) fun a b7 w S => ?_
 refine sN S fun a S => ?_
 refine lT (a6 _ _ (sSeq (fun K8 a7 => sRegion (sFunc (g := 81) (vs := [.pointer (some ⟨b7, 0, none⟩), .pointer (some ⟨b6, 0, none⟩)]) S (wN rfl) rfl rfl rfl (lb rfl) fun a S => ?_))))
 refine sN S fun a S => ?_
 refine lT (a7 _ _ ?_)
 have S := S.shutB (r := (rI .i64)) (T := 3) (b := b7) (cs := [iv p1]) 0 (iv p1) p1 rfl rfl (rfl)
 have S := S.shutB (r := r_api_Grid) (T := 24) (b := b6) (cs := [iv p0.W, iv p0.H, .slice a0 p0.Bits.length a4]) 0 (.agg #[iv p0.W, iv p0.H, .slice a0 p0.Bits.length a4]) p0 rfl rfl (S.mem.know (i := 2) (e := fRep r_api_Grid (.agg #[iv p0.W, iv p0.H, .slice a0 p0.Bits.length a4]) p0) rfl)
 obtain rfl := tS h
 exact wp_ret (sRet (.func (.func 81) #[] #[.pointer (some ⟨b7, 0, none⟩), .pointer (some ⟨b6, 0, none⟩)]) S (rsl1 rfl (rvT (t := 4) (v := .func (.func 81) #[] #[.pointer (some ⟨b7, 0, none⟩), .pointer (some ⟨b6, 0, none⟩)]) S rfl)) ⟨((.pointer (some ⟨b7, 0, none⟩)), (.pointer (some ⟨b6, 0, none⟩))), rfl, S.mem.sel [] [1, 0] (by decide) rfl rfl⟩)
noncomputable def symmetry_check_l1 (p0 : (List api_Grid)) : Int → Option (Int ⊕ (Int ⊕ Unit)) := fun s0 => match s0 with
 | s7 =>
  if decide (s7 < (p0.length : Int)) then
   (idxO p0 s7).bind fun a4 =>
   (F_grid_Check a4).bind fun a0 =>
   if a0 != 0 then
    some (.inr (.inl a0))
   else
    some (.inl (w64 (s7 + 1)))
  else
   some (.inr (.inr ()))
noncomputable def symmetry_check_l2 (p0 : (List api_Grid)) : Int → Option (Int ⊕ (Int ⊕ Unit)) := fun s0 => match s0 with
 | a4 =>
  if decide (a4 < (p0.length : Int)) then
   (idxO p0 a4).bind fun a0 =>
   if decide (16 < (if a0.W < a0.H then a0.H else a0.W)) then
    some (.inr (.inl 4))
   else
    some (.inl (w64 (a4 + 1)))
  else
   some (.inr (.inr ()))
noncomputable def F_symmetry_check (p0 : (List api_Grid)) : Option Int :=
 Option.bind (α := Unit ⊕ Int) (
  (whileO (symmetry_check_l1 p0) 0).bind fun z0 => match z0 with
   | .inl z =>
    some (.inr z)
   | .inr _ =>
    some (.inl ())) fun z0 => match z0 with
  | .inl _ =>
   Option.bind (α := Unit ⊕ Int) (
    (whileO (symmetry_check_l2 p0) 0).bind fun z0 => match z0 with
     | .inl z =>
      some (.inr z)
     | .inr _ =>
      some (.inl ())) fun z0 => match z0 with
    | .inl _ =>
     some 0
    | .inr z =>
     some z
  | .inr z =>
   some z
theorem c_symmetry_check (E : Nat → Prop) (w0 : World) (p0 : (List api_Grid)) (v0 : Value) (r : Int) (h : F_symmetry_check p0 = some r) (S : St0 E [] w0 w0 [] [fRep (rL r_api_Grid) (v0) p0]) :
 Calls Try.prog 60 #[v0] w0 (Ret (X := Unit) E [] w0 (fun _ => .int .i64 r) (fun _ => []) (fun _ => [])) := by
 unfold F_symmetry_check at h
 obtain ⟨a7, a8, _, rfl, _⟩ := S.know (i := 0) (e := fRep (rL r_api_Grid) (v0) p0) rfl
 refine sEnter (args := [.slice a7 p0.length a8]) 33 Try.func60 rfl rfl (by simp) S (fun a S => ?_)
 refine sSeq (fun K3 aV => sRegion (sN S fun a S => ?_))
 refine lT (aV _ _ ?_)
 obtain ⟨t4, h, g5⟩ := bS h
 refine sCut (fun a w => .inl () = t4 ∧ St [] E [] w0 33 a w [(0, .slice a7 p0.length a8)] [] [fRep (rL r_api_Grid) (.slice a7 p0.length a8) p0]) ?_ (fun a w hI => ?_)
 ·refine sSeq (fun K6 aW => sRegion (sM S fun a S => ?_))
  refine sLen S (wN rfl) rfl Try.underlying141 rfl rfl (lb rfl) fun a S => ?_
  refine sM S fun a S => ?_
  refine lT (aW _ _ (wp_block ?_))
  obtain ⟨bf, hl, g9⟩ := bS h
  refine sLoop hl (fun s0 a w => match s0 with | s7 => St [] E [] w0 33 a w [(0, .slice a7 p0.length a8), (8, .slice a7 p0.length a8), (9, iv (p0.length : Int)), (10, iv s7)] [] [fRep (rL r_api_Grid) (.slice a7 p0.length a8) p0]) (S.fix [] [0] (by decide) rfl rfl rfl) ?_
  clear hl h
  intro s7 a w c0 hI h aP
  unfold symmetry_check_l1 at h
  dsimp only at h hI
  have S := hI
  refine sSeq (fun bg am => sRegion (sBin _ S (wN rfl) rfl rfl rfl (bLt _ _ _ _ .i64 s7 (p0.length : Int)) rfl (lb rfl) fun a S => ?_))
  refine lT (am _ _ (sSeq (fun bh ao => ?_)))
  rcases iS h with ⟨a9, h⟩ | ⟨a9, h⟩
  rotate_left
  ·refine sCondF S rfl a9 ?_
   obtain rfl := tS h
   obtain rfl := aP _ rfl
   have h := g9
   try dsimp only at h
   exact wp_exit (xThen (xThen (xHit (leafT (⟨Option.some.inj h, S.fix [] [0] (by decide) rfl rfl rfl⟩)))))
  refine sCondT S rfl a9 ?_
  refine wp_skip (leafT (ao _ _ ?_))
  refine sSeq (fun bi ap => wp_block ?_)
  refine sSeq (fun bj aq => sRegion ?_)
  obtain ⟨a0, ar, h⟩ := bS h
  obtain ⟨aQ, au, S⟩ := pIdx (P := Try.prog) (r := r_api_Grid) (v := .slice a7 p0.length a8) (xs := p0) (j := s7) 141 24 0 S Try.underlying141 rfl rfl ar
  refine sIdxV S (wN rfl) rfl rfl rfl au rfl (lb rfl) fun a S => ?_
  obtain ⟨aX, S⟩ := pLoad (r := r_api_Grid) (q := aQ) (x := a0) 0 S rfl
  obtain ⟨aZ, rfl, ah⟩ := S.mem.know (i := 1) (e := fRep r_api_Grid (aX) a0) rfl
  have S := S.learn (fRep (rL rB) aZ a0.Bits) ah
  obtain ⟨a5, a6, _, rfl, _⟩ := ah
  refine sLoadVN (vq := aQ) 1 [iv a0.W, iv a0.H, .slice a5 a0.Bits.length a6] S (wN rfl) rfl rfl rfl rfl rfl rfl (lb rfl) fun a S => ?_
  refine sAlloc (.agg #[iv 0, iv 0, .slice none 0 0]) S (wN rfl) rfl rfl [iv 0, iv 0, .slice none 0 0] rfl rfl (lb rfl) fun a aR w S => ?_
  refine sStore (p := aR) (off := 0) (T := 24) (vs := [iv 0, iv 0, .slice none 0 0]) (v := .agg #[iv a0.W, iv a0.H, .slice a5 a0.Bits.length a6]) 0 [iv a0.W, iv a0.H, .slice a5 a0.Bits.length a6] S (wN rfl) rfl rfl rfl rfl rfl rfl rfl (by simp) rfl fun a w S => ?_
  refine lT (aq _ _ (sSeq (fun bk av => sRegion (sLoadN (p := aR) (off := 0) (T := 24) (vs := [iv a0.W, iv a0.H, .slice a5 a0.Bits.length a6]) 0 [iv a0.W, iv a0.H, .slice a5 a0.Bits.length a6] S (wN rfl) rfl rfl rfl rfl rfl rfl rfl (lb rfl) fun a S => ?_))))
  obtain ⟨ai, aw, h⟩ := bS h
  have S1 := S.mem
  refine sCq [.agg #[iv a0.W, iv a0.H, .slice a5 a0.Bits.length a6]] (iv ai) S callee45 (S1.quiet [2] rfl) (fun E1 w1 S1 => c_grid_Check E1 w1 a0 (.agg #[iv a0.W, iv a0.H, .slice a5 a0.Bits.length a6]) ai aw S1) fun a w S => ?_
  refine sN S fun a S => ?_
  refine lT (av _ _ (sSeq (fun bl ax => sRegion (sM S fun a S => ?_))))
  refine sBin _ S (wN rfl) rfl rfl rfl (bNe _ _ _ _ .i64 ai 0) rfl (lb rfl) fun a S => ?_
  refine lT (ax _ _ ?_)
  rcases iS h with ⟨aa, h⟩ | ⟨aa, h⟩
  rotate_left
  ·refine sCondF S rfl aa ?_
   refine wp_skip (leafB (leafT (ap _ _ ?_)))
   refine sRegion (sBin _ S (wN rfl) rfl rfl rfl (bAdd _ _ _ _ s7 1) rfl (lb rfl) fun a S => ?_)
   refine sM S fun a S => ?_
   exact lT (⟨w64 (s7 + 1), (Option.some.inj h).symm, (S.fix [] [4] (by decide) rfl rfl rfl)⟩)
  refine sCondT S rfl aa ?_
  refine sSeq (fun bm ay => sRegion (sM S fun a S => ?_))
  refine sN S fun a S => ?_
  refine lT (ay _ _ ?_)
  obtain rfl := tS h
  obtain rfl := aP _ rfl
  have h := g9
  try dsimp only at h
  obtain rfl := tS h
  have h := g5
  try dsimp only at h
  obtain rfl := tS h
  exact wp_ret (rBlock (rThen (rThen (rBlock (rThen (sRet (iv ai) S (rsl1 rfl (rvT (t := 2) (v := iv ai) S rfl)) ⟨(), rfl, S.mem.sel [] [] (by decide) rfl rfl⟩))))))
 obtain ⟨rfl, S⟩ := hI
 have h := g5
 try dsimp only at h
 obtain ⟨ba, h, aS⟩ := bS h
 refine sCut (fun a w => .inl () = ba ∧ St [] E [] w0 33 a w [] [] []) ?_ (fun a w hI => ?_)
 rotate_left
 ·obtain ⟨rfl, S⟩ := hI
  have h := aS
  try dsimp only at h
  refine sSeq (fun bn az => sRegion (sN S fun a S => ?_))
  refine lT (az _ _ ?_)
  obtain rfl := tS h
  exact wp_ret (sRet (iv 0) S (rsl1 rfl (rvT (t := 2) (v := iv 0) S rfl)) ⟨(), rfl, S.mem.sel [] [] (by decide) rfl rfl⟩)
 refine sSeq (fun bp aA => sRegion (sM S fun a S => ?_))
 refine sLen S (wN rfl) rfl Try.underlying141 rfl rfl (lb rfl) fun a S => ?_
 refine sM S fun a S => ?_
 refine lT (aA _ _ (wp_block ?_))
 obtain ⟨bq, hl, aT⟩ := bS h
 refine sLoop hl (fun s0 a w => match s0 with | ag => St [] E [] w0 33 a w [(20, .slice a7 p0.length a8), (21, iv (p0.length : Int)), (22, iv ag)] [] [fRep (rL r_api_Grid) (.slice a7 p0.length a8) p0]) (S.fix [] [0] (by decide) rfl rfl rfl) ?_
 clear hl h
 intro ag a w c0 hI h aj
 unfold symmetry_check_l2 at h
 dsimp only at h hI
 have S := hI
 refine sSeq (fun br aC => sRegion (sBin _ S (wN rfl) rfl rfl rfl (bLt _ _ _ _ .i64 ag (p0.length : Int)) rfl (lb rfl) fun a S => ?_))
 refine lT (aC _ _ (sSeq (fun bt aG => ?_)))
 rcases iS h with ⟨ab, h⟩ | ⟨ab, h⟩
 rotate_left
 ·refine sCondF S rfl ab ?_
  obtain rfl := tS h
  obtain rfl := aj _ rfl
  have h := aT
  try dsimp only at h
  exact wp_exit (xThen (xThen (xHit (leafT (⟨Option.some.inj h, S.fix [] [] (by decide) rfl rfl rfl⟩)))))
 refine sCondT S rfl ab ?_
 refine wp_skip (leafT (aG _ _ ?_))
 refine sSeq (fun bu aH => wp_block ?_)
 refine sSeq (fun bv aI => sRegion ?_)
 obtain ⟨a4, aJ, h⟩ := bS h
 obtain ⟨aU, aK, S⟩ := pIdx (P := Try.prog) (r := r_api_Grid) (v := .slice a7 p0.length a8) (xs := p0) (j := ag) 141 24 0 S Try.underlying141 rfl rfl aJ
 refine sIdxV S (wN rfl) rfl rfl rfl aK rfl (lb rfl) fun a S => ?_
 obtain ⟨bb, S⟩ := pLoad (r := r_api_Grid) (q := aU) (x := a4) 0 S rfl
 obtain ⟨bc, rfl, ak⟩ := S.mem.know (i := 1) (e := fRep r_api_Grid (bb) a4) rfl
 have S := S.learn (fRep (rL rB) bc a4.Bits) ak
 obtain ⟨ac, ae, _, rfl, _⟩ := ak
 refine sLoadVN (vq := aU) 1 [iv a4.W, iv a4.H, .slice ac a4.Bits.length ae] S (wN rfl) rfl rfl rfl rfl rfl rfl (lb rfl) fun a S => ?_
 refine sAlloc (.agg #[iv 0, iv 0, .slice none 0 0]) S (wN rfl) rfl rfl [iv 0, iv 0, .slice none 0 0] rfl rfl (lb rfl) fun a aL w S => ?_
 refine sStore (p := aL) (off := 0) (T := 24) (vs := [iv 0, iv 0, .slice none 0 0]) (v := .agg #[iv a4.W, iv a4.H, .slice ac a4.Bits.length ae]) 0 [iv a4.W, iv a4.H, .slice ac a4.Bits.length ae] S (wN rfl) rfl rfl rfl rfl rfl rfl rfl (by simp) rfl fun a w S => ?_
 refine lT (aI _ _ (sSeq (fun bw aM => sRegion (sField (b := aL) (off := 0) 0 0 S (wN rfl) rfl rfl rfl rfl rfl (lb rfl) fun a S => ?_))))
 refine sLoad1 0 (iv a4.W) S (wN rfl) rfl rfl rfl rfl rfl rfl (lb rfl) fun a S => ?_
 refine sField (b := aL) (off := 0) 1 1 S (wN rfl) rfl rfl rfl rfl rfl (lb rfl) fun a S => ?_
 refine sLoad1 0 (iv a4.H) S (wN rfl) rfl rfl rfl rfl rfl rfl (lb rfl) fun a S => ?_
 refine sMax2 (p := a4.W) (q := a4.H) S (wN rfl) rfl rfl rfl rfl (lb rfl) fun a S => ?_
 refine sBin _ S (wN rfl) rfl rfl rfl (bGt _ _ _ _ .i64 (if a4.W < a4.H then a4.H else a4.W) 16) rfl (lb rfl) fun a S => ?_
 refine lT (aM _ _ ?_)
 rcases iS h with ⟨af, h⟩ | ⟨af, h⟩
 rotate_left
 ·refine sCondF S rfl af ?_
  refine wp_skip (leafB (leafT (aH _ _ ?_)))
  refine sRegion (sBin _ S (wN rfl) rfl rfl rfl (bAdd _ _ _ _ ag 1) rfl (lb rfl) fun a S => ?_)
  refine sM S fun a S => ?_
  exact lT (⟨w64 (ag + 1), (Option.some.inj h).symm, (S.fix [] [4] (by decide) rfl rfl rfl)⟩)
 refine sCondT S rfl af ?_
 refine sSeq (fun bx aO => sRegion (sN S fun a S => ?_))
 refine lT (aO _ _ ?_)
 obtain rfl := tS h
 obtain rfl := aj _ rfl
 have h := aT
 try dsimp only at h
 obtain rfl := tS h
 have h := aS
 try dsimp only at h
 obtain rfl := tS h
 exact wp_ret (rBlock (rThen (rThen (rBlock (rThen (sRet (iv 4) S (rsl1 rfl (rvT (t := 2) (v := iv 4) S rfl)) ⟨(), rfl, S.mem.sel [] [] (by decide) rfl rfl⟩))))))
noncomputable def F_symmetry_is (p0 : Int) : Option Bool :=
 Option.bind (α := Bool) (
  if decide (0 ≤ p0) then
   some (decide (p0 < 16))
  else
   some false) fun o2 =>
 some o2
theorem c_symmetry_is (E : Nat → Prop) (w0 : World) (p0 : Int) (r : Bool) (h : F_symmetry_is p0 = some r) (S : St0 E [] w0 w0 [] []) :
 Calls Try.prog 61 #[iv p0] w0 (Ret (X := Unit) E [] w0 (fun _ => .bool r) (fun _ => []) (fun _ => [])) := by
 unfold F_symmetry_is at h
 refine sEnter (args := [iv p0]) 9 Try.func61 rfl rfl (by simp) S (fun a S => ?_)
 refine sSeq (fun K1 a4 => sRegion (sN S fun a S => ?_))
 refine lT (a4 _ _ ?_)
 obtain ⟨t3, h, g4⟩ := bS h
 refine sCut (fun a w => ∃ o2, o2 = t3 ∧ St [] E [] w0 9 a w [(2, .bool o2)] [] []) ?_ (fun a w hI => ?_)
 rotate_left
 ·obtain ⟨o2, rfl, S⟩ := hI
  have h := g4
  try dsimp only at h
  obtain rfl := tS h
  exact wp_ret (sRet (.bool o2) S (rsl1 rfl (rvT (t := 2) (v := .bool o2) S rfl)) ⟨(), rfl, S.mem.sel [] [] (by decide) rfl rfl⟩)
 refine sRegion (sM S fun a S => ?_)
 refine sBin _ S (wN rfl) rfl rfl rfl (bGe _ _ _ _ .i64 p0 0) rfl (lb rfl) fun a S => ?_
 refine sM S fun a S => ?_
 rcases iS h with ⟨a0, h⟩ | ⟨a0, h⟩
 rotate_left
 ·refine sSkN 2 2 true 5 S rfl rfl a0 rfl fun a S => ?_
  refine sPickF (.bool false) S (wN rfl) rfl rfl a0 rfl rfl (lb rfl) fun a S => ?_
  refine sN S fun a S => ?_
  exact lT (⟨false, Option.some.inj h, S.fix [] [] (by decide) rfl rfl rfl⟩)
 refine sMove (iv p0) S (wG 2 true 5 rfl rfl rfl a0) (.inl rfl) rfl rfl (lb rfl) fun a S => ?_
 refine sBin _ S (wG 2 true 5 rfl rfl rfl a0) rfl rfl rfl (bLt _ _ _ _ .i64 p0 16) rfl (lb rfl) fun a S => ?_
 refine sPickT (.bool (decide (p0 < 16))) S (wN rfl) rfl rfl a0 rfl rfl (lb rfl) fun a S => ?_
 refine sN S fun a S => ?_
 exact lT (⟨decide (p0 < 16), Option.some.inj h, S.fix [] [] (by decide) rfl rfl rfl⟩)
def anc_symmetry_applied_0 : List (List Nat) := [[], [0], [], [2], [], [], [5], [4, 5, 6], [], [4, 5, 6, 7, 8], [2, 3, 4, 5, 6, 7, 8, 9], [2, 3, 4, 5, 6, 7, 8, 9, 10], [], [12], [12, 13], [2, 3, 4, 5, 6, 7, 8, 9, 10, 11, 12, 13, 14], [2, 3, 4, 5, 6, 7, 8, 9, 10, 11, 12, 13, 14, 15], [0, 1, 2, 3, 4, 5, 6, 7, 8, 9, 10, 11, 12, 13, 14, 15, 16], [0, 1, 2, 3, 4, 5, 6, 7, 8, 9, 10, 11, 12, 13, 14, 15, 16, 17], [0, 1, 2, 3, 4, 5, 6, 7, 8, 9, 10, 11, 12, 13, 14, 15, 16, 17, 18]]
noncomputable def symmetry_applied_l1 (o9 : Int) (p1 : Int) (a4 : Int) (p0 : api_Grid) : (Int × List Bool) → Option ((Int × List Bool) ⊕ List Bool) := fun s0 => match s0 with
 | (a0, a5) =>
  if decide (a0 < o9) then
   Option.bind (α := (Int × Int)) (
    if (andI .i64 p1 4) != 0 then
     some (a4, a0)
    else
     some (a0, a4)) fun (a6, a7) =>
   Option.bind (α := Int) (
    if (andI .i64 p1 1) != 0 then
     some (w64 ((w64 (p0.W - 1)) - a6))
    else
     some a6) fun a8 =>
   Option.bind (α := Int) (
    if (andI .i64 p1 2) != 0 then
     some (w64 ((w64 (p0.H - 1)) - a7))
    else
     some a7) fun a9 =>
   (idxO p0.Bits (w64 ((w64 (a9 * p0.W)) + a8))).bind fun aa =>
   (appO a5 [aa != ((andI .i64 p1 8) != 0)]).bind fun ab =>
   some (.inl (w64 (a0 + 1), ab))
  else
   some (.inr a5)
noncomputable def symmetry_applied_l2 (a5 : Int) (o9 : Int) (p1 : Int) (p0 : api_Grid) : (Int × List Bool) → Option ((Int × List Bool) ⊕ List Bool) := fun s0 => match s0 with
 | (a0, a4) =>
  if decide (a0 < a5) then
   Option.bind (α := List Bool) (
    (whileO (symmetry_applied_l1 o9 p1 a0 p0) (0, a4)).bind fun a6 =>
     some a6) fun a7 =>
   some (.inl (w64 (a0 + 1), a7))
  else
   some (.inr a4)
noncomputable def F_symmetry_applied (p0 : api_Grid) (p1 : Int) : Option api_Grid :=
 Option.bind (α := (Int × Int)) (
  if (andI .i64 p1 4) != 0 then
   some (p0.H, p0.W)
  else
   some (p0.W, p0.H)) fun (o9, a0) =>
 Option.bind (α := List Bool) (
  (whileO (symmetry_applied_l2 a0 o9 p1 p0) (0, ([] : List Bool))).bind fun a4 =>
   some a4) fun a5 =>
 some (api_Grid.mk o9 a0 a5)
def c_symmetry_applied_val (r : api_Grid) (x : Value) : Value := x
def c_symmetry_applied_D (r : api_Grid) (x : Value) : List Fact := [fRep r_api_Grid x r]
theorem c_symmetry_applied (E : Nat → Prop) (w0 : World) (p0 : api_Grid) (v0 : Value) (p1 : Int) (r : api_Grid) (h : F_symmetry_applied p0 p1 = some r) (S : St0 E [] w0 w0 [] [fRep r_api_Grid (v0) p0]) :
 Calls Try.prog 62 #[v0, iv p1] w0 (Ret (X := Value) E [] w0 (c_symmetry_applied_val r) (fun _ => []) (c_symmetry_applied_D r)) := by
 unfold F_symmetry_applied at h
 obtain ⟨u1, rfl, bk⟩ := S.know (i := 0) (e := fRep r_api_Grid (v0) p0) rfl
 have S := S.learn (fRep (rL rB) u1 p0.Bits) bk
 obtain ⟨aa, ab, _, rfl, _⟩ := bk
 refine sEnter (args := [.agg #[iv p0.W, iv p0.H, .slice aa p0.Bits.length ab], iv p1]) 77 Try.func62 rfl rfl (by simp) S (fun a S => ?_)
 refine sSeq (fun K5 bm => sRegion (sBox (v := .agg #[iv p0.W, iv p0.H, .slice aa p0.Bits.length ab]) S (wN rfl) rfl rfl [iv p0.W, iv p0.H, .slice aa p0.Bits.length ab] rfl rfl (lb rfl) fun a b6 w S => ?_))
 refine sAlloc (.agg #[iv 0, iv 0, .slice none 0 0]) S (wN rfl) rfl rfl [iv 0, iv 0, .slice none 0 0] rfl rfl (lb rfl) fun a b7 w S => ?_
 refine lT (bm _ _ (sSeq (fun K8 bn => sDraw (nf := []) (W := [(0, 12, .pointer (some ⟨b6, 0, none⟩)), (1, 13, iv p0.W), (2, 14, .pointer (some ⟨b6, 1, none⟩)), (3, 15, iv p0.H), (4, 5, iv p0.W), (5, 6, iv p0.H)]) rfl S ?_)))
 refine node_by (A := [[], [0], [], [2], [0, 1], [0, 1, 2, 3, 4]]) (nf := []) (Y := []) (W := [(0, 12, .pointer (some ⟨b6, 0, none⟩)), (1, 13, iv p0.W), (2, 14, .pointer (some ⟨b6, 1, none⟩)), (3, 15, iv p0.H), (4, 5, iv p0.W), (5, 6, iv p0.H)]) 6 (by kernel_rfl) (by kernel_rfl) (by kernel_rfl) (by kernel_rfl) (by kernel_rfl) [0, 1, 2, 3, 4, 5] (by kernel_rfl) (by decide) (by decide) (fF ?_ (fF ?_ (fF ?_ (fF ?_ (fF ?_ (fF ?_ (trivial))))))) [(1, iv p1), (2, .pointer (some ⟨b6, 0, none⟩)), (4, .pointer (some ⟨b7, 0, none⟩)), (5, iv p0.W), (6, iv p0.H)] (fin_of [none, none, none, some 4, some 5] rfl (by kernel_rfl) (by kernel_rfl)) (fun _ a w S => ?_)
 ·refine fJ [(2, _)] 0 [none] fun G a w S => ?_
  exact sField (b := b6) (off := 0) 0 0 S (wN rfl) rfl rfl rfl rfl rfl (lb rfl) fun a S => leafL ⟨rfl, S⟩
 ·refine fJ [(12, _)] 1 [some 0] fun G a w S => ?_
  exact sLoad1 1 (iv p0.W) S (wN rfl) rfl rfl rfl rfl rfl rfl (lb rfl) fun a S => leafL ⟨rfl, S⟩
 ·refine fJ [(2, _)] 2 [none] fun G a w S => ?_
  exact sField (b := b6) (off := 0) 1 1 S (wN rfl) rfl rfl rfl rfl rfl (lb rfl) fun a S => leafL ⟨rfl, S⟩
 ·refine fJ [(14, _)] 3 [some 2] fun G a w S => ?_
  exact sLoad1 1 (iv p0.H) S (wN rfl) rfl rfl rfl rfl rfl rfl (lb rfl) fun a S => leafL ⟨rfl, S⟩
 ·exact fM 4 (some 1) rfl rfl rfl rfl (.inr rfl) rfl rfl rfl
 ·exact fM 5 (some 3) rfl rfl rfl rfl (.inr rfl) rfl rfl rfl
 refine leafT (bn _ _ ?_)
 obtain ⟨bp, h, bq⟩ := bS h
 refine sCut (fun a w => ∃ o9, ∃ a5, (o9, a5) = bp ∧ St [] E [] w0 77 a w [(1, iv p1), (2, .pointer (some ⟨b6, 0, none⟩)), (4, .pointer (some ⟨b7, 0, none⟩)), (5, iv o9), (6, iv a5)] [eBox b6 24 [iv p0.W, iv p0.H, .slice aa p0.Bits.length ab], eBox b7 24 [iv 0, iv 0, .slice none 0 0]] [fRep (rL rB) (.slice aa p0.Bits.length ab) p0.Bits]) ?_ (fun a w hI => ?_)
 ·refine sSeq (fun bG aK => sRegion (sM S fun a S => ?_))
  refine sBin _ S (wN rfl) rfl rfl rfl (bAndK _ _ _ _ .i64 p1 4) rfl (lb rfl) fun a S => ?_
  refine sBin _ S (wN rfl) rfl rfl rfl (bNe _ _ _ _ .i64 (andI .i64 p1 4) 0) rfl (lb rfl) fun a S => ?_
  refine lT (aK _ _ ?_)
  rcases iS h with ⟨ar, h⟩ | ⟨ar, h⟩
  rotate_left
  ·refine sCondF S rfl ar ?_
   exact wp_skip (leafT (⟨p0.W, p0.H, Option.some.inj h, S.fix [1, 0] [0] (by decide) rfl rfl rfl⟩))
  refine sCondT S rfl ar ?_
  refine sRegion (sM S fun a S => ?_)
  refine sM S fun a S => ?_
  refine sN S fun a S => ?_
  refine sN S fun a S => ?_
  exact lT (⟨p0.H, p0.W, Option.some.inj h, S.fix [1, 0] [0] (by decide) rfl rfl rfl⟩)
 obtain ⟨o9, a5, rfl, S⟩ := hI
 have h := bq
 try dsimp only at h
 refine sSeq (fun bH aL => sRegion (sM S fun a S => ?_))
 refine sM S fun a S => ?_
 refine sBuild [(0, iv o9), (1, iv a5)] [iv o9, iv a5, .slice none 0 0] S (wN rfl) rfl rfl rfl rfl (lb rfl) fun a S => ?_
 refine sAlloc (.agg #[iv 0, iv 0, .slice none 0 0]) S (wN rfl) rfl rfl [iv 0, iv 0, .slice none 0 0] rfl rfl (lb rfl) fun a a8 w S => ?_
 refine sStore (p := a8) (off := 0) (T := 24) (vs := [iv 0, iv 0, .slice none 0 0]) (v := .agg #[iv o9, iv a5, .slice none 0 0]) 0 [iv o9, iv a5, .slice none 0 0] S (wN rfl) rfl rfl rfl rfl rfl rfl rfl (by simp) rfl fun a w S => ?_
 refine lT (aL _ _ ?_)
 obtain ⟨br, h, bt⟩ := bS h
 refine sCut (fun a w => ∃ ac, ac = br ∧ ∃ a6, ∃ a7, St [] E [] w0 77 a w [(4, .pointer (some ⟨b7, 0, none⟩)), (7, .pointer (some ⟨a8, 0, none⟩))] [eBox b7 24 [iv 0, iv 0, .slice none 0 0], eBox a8 24 [iv o9, iv a5, .slice a6 ac.length a7], eRow rB 4 (.slice a6 ac.length a7) ac] []) ?_ (fun a w hI => ?_)
 rotate_left
 ·obtain ⟨ac, rfl, a6, a7, S⟩ := hI
  have h := bt
  try dsimp only at h
  refine sSeq (fun bI aM => sRegion (sLoadN (p := a8) (off := 0) (T := 24) (vs := [iv o9, iv a5, .slice a6 ac.length a7]) 1 [iv o9, iv a5, .slice a6 ac.length a7] S (wN rfl) rfl rfl rfl rfl rfl rfl rfl (lb rfl) fun a S => ?_))
  refine sStore (p := b7) (off := 0) (T := 24) (vs := [iv 0, iv 0, .slice none 0 0]) (v := .agg #[iv o9, iv a5, .slice a6 ac.length a7]) 0 [iv o9, iv a5, .slice a6 ac.length a7] S (wN rfl) rfl rfl rfl rfl rfl rfl rfl (by simp) rfl fun a w S => ?_
  refine lT (aM _ _ ?_)
  obtain rfl := tS h
  have S := S.shutR (r := rB) (T := 4) (v := .slice a6 ac.length a7) (xs := ac) 2 rfl
  have S := S.learn (fRep r_api_Grid (.agg #[iv o9, iv a5, .slice a6 ac.length a7]) (api_Grid.mk o9 a5 ac)) ⟨_, rfl, S.mem.know (i := 0) (e := fRep (rL rB) (.slice a6 ac.length a7) ac) rfl⟩
  exact wp_ret (sRet (.agg #[iv o9, iv a5, .slice a6 ac.length a7]) S (rsl1 rfl (rvN (c := 4) (t := 24) (T := 24) (p := b7) 0 [iv o9, iv a5, .slice a6 ac.length a7] S rfl rfl rfl rfl)) ⟨(.agg #[iv o9, iv a5, .slice a6 ac.length a7]), rfl, S.mem.sel [] [0] (by decide) rfl rfl⟩)
 refine sSeq (fun bJ aO => sRegion (sM S fun a S => ?_))
 refine sM S fun a S => ?_
 refine lT (aO _ _ (wp_block ?_))
 have S := S.nilRow rB 4 (α := Bool)
 obtain ⟨bK, hl, bu⟩ := bS h
 refine sLoop hl (fun s0 a w => match s0 with | (ae, aI) => ∃ ag, ∃ ah, St [] E [] w0 77 a w [(1, iv p1), (2, .pointer (some ⟨b6, 0, none⟩)), (4, .pointer (some ⟨b7, 0, none⟩)), (5, iv o9), (7, .pointer (some ⟨a8, 0, none⟩)), (24, iv a5), (25, iv ae)] [eBox b6 24 [iv p0.W, iv p0.H, .slice aa p0.Bits.length ab], eBox b7 24 [iv 0, iv 0, .slice none 0 0], eBox a8 24 [iv o9, iv a5, .slice ag aI.length ah], eRow rB 4 (.slice ag aI.length ah) aI] [fRep (rL rB) (.slice aa p0.Bits.length ab) p0.Bits]) ⟨none, 0, S.fix [2, 3, 1, 0] [0] (by decide) rfl rfl rfl⟩ ?_
 clear hl h
 intro s0 a w c0 hI h aP
 obtain ⟨ae, aI⟩ := s0
 unfold symmetry_applied_l2 at h
 dsimp only at h hI
 obtain ⟨ag, ah, S⟩ := hI
 refine sSeq (fun bL aQ => sRegion (sBin _ S (wN rfl) rfl rfl rfl (bLt _ _ _ _ .i64 ae a5) rfl (lb rfl) fun a S => ?_))
 refine lT (aQ _ _ (sSeq (fun bM aR => ?_)))
 rcases iS h with ⟨au, h⟩ | ⟨au, h⟩
 rotate_left
 ·refine sCondF S rfl au ?_
  obtain rfl := tS h
  obtain rfl := aP _ rfl
  have h := bu
  try dsimp only at h
  exact wp_exit (xThen (xThen (xHit (leafT (⟨aI, Option.some.inj h, ag, ah, S.fix [1, 2, 3] [] (by decide) rfl rfl rfl⟩)))))
 refine sCondT S rfl au ?_
 refine wp_skip (leafT (aR _ _ ?_))
 obtain ⟨bv, h, bw⟩ := bS h
 refine sCut (fun a w => ∃ aG, aG = bv ∧ ∃ am, ∃ ao, St [] E [] w0 77 a w [(1, iv p1), (2, .pointer (some ⟨b6, 0, none⟩)), (4, .pointer (some ⟨b7, 0, none⟩)), (5, iv o9), (7, .pointer (some ⟨a8, 0, none⟩)), (24, iv a5), (25, iv ae)] [eBox b6 24 [iv p0.W, iv p0.H, .slice aa p0.Bits.length ab], eBox b7 24 [iv 0, iv 0, .slice none 0 0], eBox a8 24 [iv o9, iv a5, .slice am aG.length ao], eRow rB 4 (.slice am aG.length ao) aG] [fRep (rL rB) (.slice aa p0.Bits.length ab) p0.Bits]) ?_ (fun a w hI => ?_)
 rotate_left
 ·obtain ⟨aG, rfl, am, ao, S⟩ := hI
  have h := bw
  try dsimp only at h
  refine sRegion (sBin _ S (wN rfl) rfl rfl rfl (bAdd _ _ _ _ ae 1) rfl (lb rfl) fun a S => ?_)
  refine sM S fun a S => ?_
  exact lT (⟨(w64 (ae + 1), aG), (Option.some.inj h).symm, ⟨am, ao, S.fix [0, 1, 2, 3] [0] (by decide) rfl rfl rfl⟩⟩)
 refine wp_block ?_
 refine sSeq (fun bN aS => sRegion (sM S fun a S => ?_))
 refine sN S fun a S => ?_
 refine lT (aS _ _ (sSeq (fun bO aT => sRegion (sM S fun a S => ?_))))
 refine sM S fun a S => ?_
 refine lT (aT _ _ (wp_block ?_))
 obtain ⟨bP, hl, bx⟩ := bS h
 refine sLoop hl (fun s0 a w => match s0 with | (ai, a9) => ∃ a0, ∃ a4, St [] E [] w0 77 a w [(1, iv p1), (2, .pointer (some ⟨b6, 0, none⟩)), (4, .pointer (some ⟨b7, 0, none⟩)), (5, iv o9), (7, .pointer (some ⟨a8, 0, none⟩)), (8, iv ae), (24, iv a5), (25, iv ae), (28, iv o9), (29, iv ai)] [eBox b6 24 [iv p0.W, iv p0.H, .slice aa p0.Bits.length ab], eBox b7 24 [iv 0, iv 0, .slice none 0 0], eBox a8 24 [iv o9, iv a5, .slice a0 a9.length a4], eRow rB 4 (.slice a0 a9.length a4) a9] [fRep (rL rB) (.slice aa p0.Bits.length ab) p0.Bits]) ⟨ag, ah, S.fix [0, 1, 2, 3] [0] (by decide) rfl rfl rfl⟩ ?_
 clear hl h
 intro s0 a w c0 hI h aU
 obtain ⟨ai, a9⟩ := s0
 unfold symmetry_applied_l1 at h
 dsimp only at h hI
 obtain ⟨a0, a4, S⟩ := hI
 refine sSeq (fun bQ aV => sRegion (sBin _ S (wN rfl) rfl rfl rfl (bLt _ _ _ _ .i64 ai o9) rfl (lb rfl) fun a S => ?_))
 refine lT (aV _ _ (sSeq (fun bR aW => ?_)))
 rcases iS h with ⟨av, h⟩ | ⟨av, h⟩
 rotate_left
 ·refine sCondF S rfl av ?_
  obtain rfl := tS h
  obtain rfl := aU _ rfl
  have h := bx
  try dsimp only at h
  exact wp_exit (xThen (xThen (xHit (leafB (leafT (⟨a9, Option.some.inj h, a0, a4, S.fix [0, 1, 2, 3] [0] (by decide) rfl rfl rfl⟩))))))
 refine sCondT S rfl av ?_
 refine wp_skip (leafT (aW _ _ ?_))
 refine sSeq (fun bU aX => wp_block ?_)
 refine sSeq (fun bV aZ => sRegion (sM S fun a S => ?_))
 refine sN S fun a S => ?_
 refine lT (aZ _ _ (sSeq (fun bW ba => sRegion (sM S fun a S => ?_))))
 refine sM S fun a S => ?_
 refine sN S fun a S => ?_
 refine sN S fun a S => ?_
 refine lT (ba _ _ ?_)
 obtain ⟨bz, h, bA⟩ := bS h
 refine sCut (fun a w => ∃ aH, ∃ aw, (aH, aw) = bz ∧ St [] E [] w0 77 a w [(1, iv p1), (2, .pointer (some ⟨b6, 0, none⟩)), (4, .pointer (some ⟨b7, 0, none⟩)), (5, iv o9), (7, .pointer (some ⟨a8, 0, none⟩)), (8, iv ae), (10, iv aH), (11, iv aw), (24, iv a5), (25, iv ae), (28, iv o9), (29, iv ai)] [eBox b6 24 [iv p0.W, iv p0.H, .slice aa p0.Bits.length ab], eBox b7 24 [iv 0, iv 0, .slice none 0 0], eBox a8 24 [iv o9, iv a5, .slice a0 a9.length a4], eRow rB 4 (.slice a0 a9.length a4) a9] [fRep (rL rB) (.slice aa p0.Bits.length ab) p0.Bits]) ?_ (fun a w hI => ?_)
 ·refine sSeq (fun bX bb => sRegion (sM S fun a S => ?_))
  refine sBin _ S (wN rfl) rfl rfl rfl (bAndK _ _ _ _ .i64 p1 4) rfl (lb rfl) fun a S => ?_
  refine sBin _ S (wN rfl) rfl rfl rfl (bNe _ _ _ _ .i64 (andI .i64 p1 4) 0) rfl (lb rfl) fun a S => ?_
  refine lT (bb _ _ ?_)
  rcases iS h with ⟨ax, h⟩ | ⟨ax, h⟩
  rotate_left
  ·refine sCondF S rfl ax ?_
   exact wp_skip (leafT (⟨ai, ae, Option.some.inj h, S.fix [0, 1, 2, 3] [0] (by decide) rfl rfl rfl⟩))
  refine sCondT S rfl ax ?_
  refine sRegion (sM S fun a S => ?_)
  refine sM S fun a S => ?_
  refine sN S fun a S => ?_
  refine sN S fun a S => ?_
  exact lT (⟨ae, ai, Option.some.inj h, S.fix [0, 1, 2, 3] [0] (by decide) rfl rfl rfl⟩)
 obtain ⟨aH, aw, rfl, S⟩ := hI
 have h := bA
 try dsimp only at h
 obtain ⟨bB, h, bC⟩ := bS h
 refine sCut (fun a w => ∃ aq, aq = bB ∧ St [] E [] w0 77 a w [(1, iv p1), (2, .pointer (some ⟨b6, 0, none⟩)), (4, .pointer (some ⟨b7, 0, none⟩)), (5, iv o9), (7, .pointer (some ⟨a8, 0, none⟩)), (8, iv ae), (10, iv aq), (11, iv aw), (24, iv a5), (25, iv ae), (28, iv o9), (29, iv ai)] [eBox b6 24 [iv p0.W, iv p0.H, .slice aa p0.Bits.length ab], eBox b7 24 [iv 0, iv 0, .slice none 0 0], eBox a8 24 [iv o9, iv a5, .slice a0 a9.length a4], eRow rB 4 (.slice a0 a9.length a4) a9] [fRep (rL rB) (.slice aa p0.Bits.length ab) p0.Bits]) ?_ (fun a w hI => ?_)
 ·refine sSeq (fun bY bc => sRegion (sM S fun a S => ?_))
  refine sBin _ S (wN rfl) rfl rfl rfl (bAndK _ _ _ _ .i64 p1 1) rfl (lb rfl) fun a S => ?_
  refine sBin _ S (wN rfl) rfl rfl rfl (bNe _ _ _ _ .i64 (andI .i64 p1 1) 0) rfl (lb rfl) fun a S => ?_
  refine lT (bc _ _ ?_)
  rcases iS h with ⟨ay, h⟩ | ⟨ay, h⟩
  rotate_left
  ·refine sCondF S rfl ay ?_
   exact wp_skip (leafT (⟨aH, Option.some.inj h, S.fix [0, 1, 2, 3] [0] (by decide) rfl rfl rfl⟩))
  refine sCondT S rfl ay ?_
  refine sRegion (sField (b := b6) (off := 0) 0 0 S (wN rfl) rfl rfl rfl rfl rfl (lb rfl) fun a S => ?_)
  refine sLoad1 0 (iv p0.W) S (wN rfl) rfl rfl rfl rfl rfl rfl (lb rfl) fun a S => ?_
  refine sBin _ S (wN rfl) rfl rfl rfl (bSub _ _ _ _ p0.W 1) rfl (lb rfl) fun a S => ?_
  refine sM S fun a S => ?_
  refine sBin _ S (wN rfl) rfl rfl rfl (bSub _ _ _ _ (w64 (p0.W - 1)) aH) rfl (lb rfl) fun a S => ?_
  refine sN S fun a S => ?_
  exact lT (⟨w64 ((w64 (p0.W - 1)) - aH), Option.some.inj h, S.fix [0, 1, 2, 3] [0] (by decide) rfl rfl rfl⟩)
 obtain ⟨aq, rfl, S⟩ := hI
 have h := bC
 try dsimp only at h
 obtain ⟨bD, h, bE⟩ := bS h
 refine sCut (fun a w => ∃ ap, ap = bD ∧ St [] E [] w0 77 a w [(1, iv p1), (2, .pointer (some ⟨b6, 0, none⟩)), (4, .pointer (some ⟨b7, 0, none⟩)), (5, iv o9), (7, .pointer (some ⟨a8, 0, none⟩)), (8, iv ae), (10, iv aq), (11, iv ap), (24, iv a5), (25, iv ae), (28, iv o9), (29, iv ai)] [eBox b6 24 [iv p0.W, iv p0.H, .slice aa p0.Bits.length ab], eBox b7 24 [iv 0, iv 0, .slice none 0 0], eBox a8 24 [iv o9, iv a5, .slice a0 a9.length a4], eRow rB 4 (.slice a0 a9.length a4) a9] [fRep (rL rB) (.slice aa p0.Bits.length ab) p0.Bits]) ?_ (fun a w hI => ?_)
 ·refine sSeq (fun bZ bf => sRegion (sM S fun a S => ?_))
  refine sBin _ S (wN rfl) rfl rfl rfl (bAndK _ _ _ _ .i64 p1 2) rfl (lb rfl) fun a S => ?_
  refine sBin _ S (wN rfl) rfl rfl rfl (bNe _ _ _ _ .i64 (andI .i64 p1 2) 0) rfl (lb rfl) fun a S => ?_
  refine lT (bf _ _ ?_)
  rcases iS h with ⟨az, h⟩ | ⟨az, h⟩
  rotate_left
  ·refine sCondF S rfl az ?_
   exact wp_skip (leafT (⟨aw, Option.some.inj h, S.fix [0, 1, 2, 3] [0] (by decide) rfl rfl rfl⟩))
  refine sCondT S rfl az ?_
  refine sRegion (sField (b := b6) (off := 0) 1 1 S (wN rfl) rfl rfl rfl rfl rfl (lb rfl) fun a S => ?_)
  refine sLoad1 0 (iv p0.H) S (wN rfl) rfl rfl rfl rfl rfl rfl (lb rfl) fun a S => ?_
  refine sBin _ S (wN rfl) rfl rfl rfl (bSub _ _ _ _ p0.H 1) rfl (lb rfl) fun a S => ?_
  refine sM S fun a S => ?_
  refine sBin _ S (wN rfl) rfl rfl rfl (bSub _ _ _ _ (w64 (p0.H - 1)) aw) rfl (lb rfl) fun a S => ?_
  refine sN S fun a S => ?_
  exact lT (⟨w64 ((w64 (p0.H - 1)) - aw), Option.some.inj h, S.fix [0, 1, 2, 3] [0] (by decide) rfl rfl rfl⟩)
 obtain ⟨ap, rfl, S⟩ := hI
 have h := bE
 try dsimp only at h
 obtain ⟨af, bg, h⟩ := bS h
 obtain ⟨aJ, bh, h⟩ := bS h
 obtain ⟨bi, bj, S⟩ := pIdx (P := Try.prog) (r := rB) (v := .slice aa p0.Bits.length ab) (xs := p0.Bits) (j := w64 ((w64 (ap * p0.W)) + aq)) 22 4 0 S Try.underlying22 rfl rfl bg
 obtain ⟨bl, S⟩ := pLoad (r := rB) (q := bi) (x := af) 0 S rfl
 obtain rfl : bl = .bool af := S.mem.know (i := 1) (e := fRep rB (bl) af) rfl
 refine sDraw (nf := [16, 17, 19]) (W := [(0, 55, .pointer (some ⟨a8, 2, none⟩)), (1, 56, .slice a0 a9.length a4), (2, 57, .pointer (some ⟨b6, 2, none⟩)), (3, 58, .slice aa p0.Bits.length ab), (4, 59, iv ap), (5, 60, .pointer (some ⟨b6, 0, none⟩)), (6, 61, iv p0.W), (7, 62, iv (w64 (ap * p0.W))), (8, 63, iv aq), (9, 64, iv (w64 ((w64 (ap * p0.W)) + aq))), (10, 65, bi), (11, 66, .bool af), (12, 67, iv p1), (13, 68, iv (andI .i64 p1 8)), (14, 69, .bool ((andI .i64 p1 8) != 0)), (15, 70, .bool (af != ((andI .i64 p1 8) != 0)))]) rfl S ?_
 refine node_by (A := anc_symmetry_applied_0) 20 (by kernel_rfl) (by kernel_rfl) (by kernel_rfl) (by kernel_rfl) (by kernel_rfl) [0, 1, 2, 3, 4, 5, 6, 7, 8, 9, 10, 11, 12, 13, 14, 15] (by kernel_rfl) (by decide) (by decide) (fF ?_ (fF ?_ (fF ?_ (fF ?_ (fF ?_ (fF ?_ (fF ?_ (fF ?_ (fF ?_ (fF ?_ (fF ?_ (fF ?_ (fF ?_ (fF ?_ (fF ?_ (fF ?_ (fN ?_ (aB 17 2 16 (by decide) (fE 16 (aB 19 0 16 (by decide) (trivial))))))))))))))))))))) [] (fun q hq => by cases hq) (fun hY => absurd (hY 16 (by decide)) (by decide))
 ·refine fJ [(7, _)] 0 [none] fun G a w S => ?_
  exact sField (b := a8) (off := 0) 2 2 S (wN rfl) rfl rfl rfl rfl rfl (lb rfl) fun a S => leafL ⟨rfl, S⟩
 ·refine fJ [(55, _)] 1 [some 0] fun G a w S => ?_
  exact sLoad1 2 (.slice a0 a9.length a4) S (wN rfl) rfl rfl rfl rfl rfl rfl (lb rfl) fun a S => leafL ⟨rfl, S⟩
 ·refine fJ [(2, _)] 2 [none] fun G a w S => ?_
  exact sField (b := b6) (off := 0) 2 2 S (wN rfl) rfl rfl rfl rfl rfl (lb rfl) fun a S => leafL ⟨rfl, S⟩
 ·refine fJ [(57, _)] 3 [some 2] fun G a w S => ?_
  exact sLoad1 0 (.slice aa p0.Bits.length ab) S (wN rfl) rfl rfl rfl rfl rfl rfl (lb rfl) fun a S => leafL ⟨rfl, S⟩
 ·exact fM 4 none rfl rfl rfl rfl (.inl rfl) rfl rfl rfl
 ·refine fJ [(2, _)] 5 [none] fun G a w S => ?_
  exact sField (b := b6) (off := 0) 0 0 S (wN rfl) rfl rfl rfl rfl rfl (lb rfl) fun a S => leafL ⟨rfl, S⟩
 ·refine fJ [(60, _)] 6 [some 5] fun G a w S => ?_
  exact sLoad1 0 (iv p0.W) S (wN rfl) rfl rfl rfl rfl rfl rfl (lb rfl) fun a S => leafL ⟨rfl, S⟩
 ·refine fJ [(59, _), (61, _)] 7 [some 4, some 6] fun G a w S => ?_
  exact sBin _ S (wN rfl) rfl rfl rfl (bMul _ _ _ _ ap p0.W) rfl (lb rfl) fun a S => leafL ⟨rfl, S⟩
 ·exact fM 8 none rfl rfl rfl rfl (.inl rfl) rfl rfl rfl
 ·refine fJ [(62, _), (63, _)] 9 [some 7, some 8] fun G a w S => ?_
  exact sBin _ S (wN rfl) rfl rfl rfl (bAdd _ _ _ _ (w64 (ap * p0.W)) aq) rfl (lb rfl) fun a S => leafL ⟨rfl, S⟩
 ·refine fJ [(58, _), (64, _)] 10 [some 3, some 9] fun G a w S => ?_
  exact sIdxV S (wN rfl) rfl rfl rfl bj rfl (lb rfl) fun a S => leafL ⟨rfl, S⟩
 ·refine fJ [(65, _)] 11 [some 10] fun G a w S => ?_
  exact sLoadV1 (vq := bi) 0 (.bool af) S (wN rfl) rfl rfl rfl rfl rfl (lb rfl) fun a S => leafL ⟨rfl, S⟩
 ·exact fM 12 none rfl rfl rfl rfl (.inl rfl) rfl rfl rfl
 ·refine fJ [(67, _)] 13 [some 12] fun G a w S => ?_
  exact sBin _ S (wN rfl) rfl rfl rfl (bAndK _ _ _ _ .i64 p1 8) rfl (lb rfl) fun a S => leafL ⟨rfl, S⟩
 ·refine fJ [(68, _)] 14 [some 13] fun G a w S => ?_
  exact sBin _ S (wN rfl) rfl rfl rfl (bNe _ _ _ _ .i64 (andI .i64 p1 8) 0) rfl (lb rfl) fun a S => leafL ⟨rfl, S⟩
 ·refine fJ [(66, _), (69, _)] 15 [some 11, some 14] fun G a w S => ?_
  exact sBin _ S (wN rfl) rfl rfl rfl (bNeB _ _ _ _ Try.underlying4 af ((andI .i64 p1 8) != 0)) rfl (lb rfl) fun a S => leafL ⟨rfl, S⟩
 refine ⟨_, [(70, .bool (af != ((andI .i64 p1 8) != 0)))], rfl, (srcs_of [some 15] rfl rfl rfl), fun G a w S => ?_⟩
 refine sLit (r := rB) (T := 4) (xs := [af != ((andI .i64 p1 8) != 0)]) [(0, .bool (af != ((andI .i64 p1 8) != 0)))] 1 [.bool (af != ((andI .i64 p1 8) != 0))] [.bool (af != ((andI .i64 p1 8) != 0))] (.bool false) 1 S (wN rfl) rfl rfl Try.underlying22 rfl (by decide) (by decide) (by kernel_rfl) rfl (fun E1 w1 hE => All.cons rfl (All.nil _ _ _)) rfl rfl (lb rfl) fun a w aA aC S => ?_
 refine leafL ⟨rfl, _, _, .inl ⟨71, (.slice aA [af != ((andI .i64 p1 8) != 0)].length aC), [], rfl, S, hz_of rfl, ?_⟩⟩
 refine node_by (A := anc_symmetry_applied_0) 20 (by kernel_rfl) (by kernel_rfl) (by kernel_rfl) (by kernel_rfl) (by kernel_rfl) [16, 0, 1, 2, 3, 4, 5, 6, 7, 8, 9, 10, 11, 12, 13, 14, 15] (by kernel_rfl) (by decide) (by decide) (fF ?_ (fF ?_ (fD 16 (fD 16 (fD 16 (fD 16 (fD 16 (fD 16 (fD 16 (fD 16 (fD 16 (fD 16 (fD 16 (fD 16 (fD 16 (fD 16 (fY (fN ?_ (fE 17 (aB 19 0 17 (by decide) (trivial))))))))))))))))))))) [] (fun q hq => by cases hq) (fun hY => absurd (hY 17 (by decide)) (by decide))
 ·refine fJ [(7, _)] 1 [none] fun G a w S => ?_
  exact sField (b := a8) (off := 0) 2 2 S (wN rfl) rfl rfl rfl rfl rfl (lb rfl) fun a S => leafL ⟨rfl, S⟩
 ·refine fJ [(55, _)] 2 [some 1] fun G a w S => ?_
  exact sLoad1 3 (.slice a0 a9.length a4) S (wN rfl) rfl rfl rfl rfl rfl rfl (lb rfl) fun a S => leafL ⟨rfl, S⟩
 refine ⟨_, [(56, .slice a0 a9.length a4), (71, .slice aA [af != ((andI .i64 p1 8) != 0)].length aC)], rfl, (srcs_of [some 2, some 0] rfl rfl rfl), fun G a w S => ?_⟩
 refine sApp (r := rB) (T := 4) (xs := a9) (ys := [af != ((andI .i64 p1 8) != 0)]) (v := .slice a0 a9.length a4) (u := .slice aA [af != ((andI .i64 p1 8) != 0)].length aC) 4 (.bool false) 1 S (wN rfl) rfl Try.underlying22 rfl rfl (by decide) rfl rfl rfl (src_R (T := 4) 0 S.mem rfl) bh rfl (lb rfl) fun a w aj ak S => ?_
 refine leafL ⟨rfl, _, _, .inl ⟨72, (.slice aj aJ.length ak), [(18, 73, .pointer (some ⟨a8, 2, none⟩))], rfl, S, hz_of rfl, ?_⟩⟩
 refine node_by (A := anc_symmetry_applied_0) 20 (by kernel_rfl) (by kernel_rfl) (by kernel_rfl) (by kernel_rfl) (by kernel_rfl) [18, 17, 16, 0, 1, 2, 3, 4, 5, 6, 7, 8, 9, 10, 11, 12, 13, 14, 15] (by kernel_rfl) (by decide) (by decide) (fD 17 (fD 17 (fD 17 (fD 17 (fD 17 (fD 17 (fD 17 (fD 17 (fD 17 (fD 17 (fD 17 (fD 17 (fD 17 (fD 17 (fD 17 (fD 17 (fY (fY (fF ?_ (fN ?_ (trivial))))))))))))))))))))) [] (fun q hq => by cases hq) (fun hY => absurd (hY 19 (by decide)) (by decide))
 ·refine fJ [(7, _)] 0 [none] fun G a w S => ?_
  exact sField (b := a8) (off := 0) 2 2 S (wN rfl) rfl rfl rfl rfl rfl (lb rfl) fun a S => leafL ⟨rfl, S⟩
 refine ⟨_, [(72, .slice aj aJ.length ak), (73, .pointer (some ⟨a8, 2, none⟩))], rfl, (srcs_of [some 1, some 0] rfl rfl rfl), fun G a w S => ?_⟩
 refine sStore (p := a8) (off := 2) (T := 24) (vs := [iv o9, iv a5, .slice a0 a9.length a4]) (v := .slice aj aJ.length ak) 4 [.slice aj aJ.length ak] S (wN rfl) rfl rfl rfl rfl rfl rfl rfl (by simp) rfl fun a w S => ?_
 refine leafL ⟨rfl, _, _, .inr ⟨[], rfl, S, hz_of rfl, ?_⟩⟩
 refine node_by (A := anc_symmetry_applied_0) 20 (by kernel_rfl) (by kernel_rfl) (by kernel_rfl) (by kernel_rfl) (by kernel_rfl) [18, 17, 16, 0, 1, 2, 3, 4, 5, 6, 7, 8, 9, 10, 11, 12, 13, 14, 15] (by kernel_rfl) (by decide) (by decide) (fD 19 (fD 19 (fD 19 (fD 19 (fD 19 (fD 19 (fD 19 (fD 19 (fD 19 (fD 19 (fD 19 (fD 19 (fD 19 (fD 19 (fD 19 (fD 19 (fY (fY (fD 19 (fY (trivial))))))))))))))))))))) [(1, iv p1), (2, .pointer (some ⟨b6, 0, none⟩)), (4, .pointer (some ⟨b7, 0, none⟩)), (5, iv o9), (7, .pointer (some ⟨a8, 0, none⟩)), (8, iv ae), (24, iv a5), (25, iv ae), (28, iv o9), (29, iv ai)] (fin_of [none, none, none, none, none, none, none, none, none, none] rfl (by kernel_rfl) (by kernel_rfl)) (fun _ a w S => ?_)
 refine leafB (leafT (aX _ _ ?_))
 refine sRegion (sBin _ S (wN rfl) rfl rfl rfl (bAdd _ _ _ _ ai 1) rfl (lb rfl) fun a S => ?_)
 refine sM S fun a S => ?_
 exact lT (⟨(w64 (ai + 1), aJ), (Option.some.inj h).symm, ⟨aj, ak, S.fix [3, 4, 0, 1] [3] (by decide) rfl rfl rfl⟩⟩)
noncomputable def F_symmetry_Apply (p0 : api_Grid) (p1 : Int) : Option (api_Grid × Int) :=
 (F_symmetry_check [p0]).bind fun a0 =>
 if a0 != 0 then
  some ((api_Grid.mk 0 0 ([] : (List Bool))), a0)
 else
  (F_symmetry_is p1).bind fun a4 =>
  if !a4 then
   some ((api_Grid.mk 0 0 ([] : (List Bool))), 2)
  else
   (F_symmetry_applied p0 p1).bind fun a5 =>
   some (a5, 0)
def c_symmetry_Apply_val (r : (api_Grid × Int)) (x : Value) : Value := .tuple #[x, .int .i64 r.2]
def c_symmetry_Apply_D (r : (api_Grid × Int)) (x : Value) : List Fact := [fRep r_api_Grid x r.1]
theorem c_symmetry_Apply (E : Nat → Prop) (w0 : World) (p0 : api_Grid) (v0 : Value) (p1 : Int) (r : (api_Grid × Int)) (h : F_symmetry_Apply p0 p1 = some r) (S : St0 E [] w0 w0 [] [fRep r_api_Grid (v0) p0]) :
 Calls Try.prog 33 #[v0, iv p1] w0 (Ret (X := Value) E [] w0 (c_symmetry_Apply_val r) (fun _ => []) (c_symmetry_Apply_D r)) := by
 unfold F_symmetry_Apply at h
 obtain ⟨u1, rfl, ar⟩ := S.know (i := 0) (e := fRep r_api_Grid (v0) p0) rfl
 have S := S.learn (fRep (rL rB) u1 p0.Bits) ar
 obtain ⟨a4, a5, _, rfl, _⟩ := ar
 refine sEnter (args := [.agg #[iv p0.W, iv p0.H, .slice a4 p0.Bits.length a5], iv p1]) 21 Try.func33 rfl rfl (by simp) S (fun a S => ?_)
 refine sSeq (fun K5 au => sRegion (sBox (v := .agg #[iv p0.W, iv p0.H, .slice a4 p0.Bits.length a5]) S (wN rfl) rfl rfl [iv p0.W, iv p0.H, .slice a4 p0.Bits.length a5] rfl rfl (lb rfl) fun a b6 w S => ?_))
 refine sAlloc (.agg #[iv 0, iv 0, .slice none 0 0]) S (wN rfl) rfl rfl [iv 0, iv 0, .slice none 0 0] rfl rfl (lb rfl) fun a b7 w S => ?_
 refine sN S fun a S => ?_
 refine lT (au _ _ (sSeq (fun K8 av => sSeq (fun K9 aw => sRegion (sLoadN (p := b6) (off := 0) (T := 24) (vs := [iv p0.W, iv p0.H, .slice a4 p0.Bits.length a5]) 1 [iv p0.W, iv p0.H, .slice a4 p0.Bits.length a5] S (wN rfl) rfl rfl rfl rfl rfl rfl rfl (lb rfl) fun a S => ?_)))))
 refine sLit (r := r_api_Grid) (T := 24) (xs := [p0]) [(0, .agg #[iv p0.W, iv p0.H, .slice a4 p0.Bits.length a5])] 1 [.agg #[iv p0.W, iv p0.H, .slice a4 p0.Bits.length a5]] [iv p0.W, iv p0.H, .slice a4 p0.Bits.length a5] (.agg #[iv 0, iv 0, .slice none 0 0]) 40 S (wN rfl) rfl rfl Try.underlying141 rfl (by decide) (by decide) (by kernel_rfl) rfl (fun E1 w1 hE => All.cons (r_api_Grid.mono hE (S.mem.know (i := 1) (e := fRep r_api_Grid (.agg #[iv p0.W, iv p0.H, .slice a4 p0.Bits.length a5]) p0) rfl)) (All.nil _ _ _)) rfl rfl (lb rfl) fun a w a8 a9 S => ?_
 obtain ⟨ac, af, h⟩ := bS h
 have S1 := S.mem
 have S1 := S1.shutR (r := r_api_Grid) (T := 24) (v := .slice a8 [p0].length a9) (xs := [p0]) 0 rfl
 refine sCq [.slice a8 [p0].length a9] (iv ac) S callee60 (S1.quiet [0] rfl) (fun E1 w1 S1 => c_symmetry_check E1 w1 [p0] (.slice a8 [p0].length a9) ac af S1) fun a w S => ?_
 refine sN S fun a S => ?_
 refine lT (aw _ _ (sSeq (fun az ag => sRegion (sM S fun a S => ?_))))
 refine sBin _ S (wN rfl) rfl rfl rfl (bNe _ _ _ _ .i64 ac 0) rfl (lb rfl) fun a S => ?_
 refine lT (ag _ _ ?_)
 rcases iS h with ⟨aa, h⟩ | ⟨aa, h⟩
 ·refine sCondT S rfl aa ?_
  refine sSeq (fun aA ah => sRegion (sBuild [] [iv 0, iv 0, .slice none 0 0] S (wN rfl) rfl rfl rfl rfl (lb rfl) fun a S => ?_))
  refine sM S fun a S => ?_
  refine sStore (p := b7) (off := 0) (T := 24) (vs := [iv 0, iv 0, .slice none 0 0]) (v := .agg #[iv 0, iv 0, .slice none 0 0]) 1 [iv 0, iv 0, .slice none 0 0] S (wN rfl) rfl rfl rfl rfl rfl rfl rfl (by simp) rfl fun a w S => ?_
  refine sN S fun a S => ?_
  refine lT (ah _ _ ?_)
  obtain rfl := tS h
  have S := S.learn (fRep (rL rB) (.slice none 0 0) ([] : (List Bool))) (rL_nil _ _ _)
  have S := S.learn (fRep r_api_Grid (.agg #[iv 0, iv 0, .slice none 0 0]) (api_Grid.mk 0 0 ([] : (List Bool)))) ⟨_, rfl, S.mem.know (i := 0) (e := fRep (rL rB) (.slice none 0 0) ([] : (List Bool))) rfl⟩
  exact wp_ret (rThen (sRet (.tuple #[.agg #[iv 0, iv 0, .slice none 0 0], iv ac]) S (rsl2 rfl (rvN (c := 4) (t := 24) (T := 24) (p := b7) 0 [iv 0, iv 0, .slice none 0 0] S rfl rfl rfl rfl) (rvT (t := 5) (v := iv ac) S rfl)) ⟨(.agg #[iv 0, iv 0, .slice none 0 0]), rfl, S.mem.sel [] [0] (by decide) rfl rfl⟩))
 refine sCondF S rfl aa ?_
 refine wp_skip (leafT (av _ _ ?_))
 refine sSeq (fun aC ai => sSeq (fun aG aj => sRegion (sM S fun a S => ?_)))
 obtain ⟨ak, am, h⟩ := bS h
 have S1 := S.mem
 refine sCq [iv p1] (.bool ak) S callee61 (S1.quiet [] rfl) (fun E1 w1 S1 => c_symmetry_is E1 w1 p1 ak am S1) fun a w S => ?_
 refine sNot (b := ak) S (wN rfl) rfl rfl rfl (lb rfl) fun a S => ?_
 refine lT (aj _ _ ?_)
 rcases iS h with ⟨ab, h⟩ | ⟨ab, h⟩
 ·refine sCondT S rfl ab ?_
  refine sSeq (fun aH ao => sRegion (sBuild [] [iv 0, iv 0, .slice none 0 0] S (wN rfl) rfl rfl rfl rfl (lb rfl) fun a S => ?_))
  refine sStore (p := b7) (off := 0) (T := 24) (vs := [iv 0, iv 0, .slice none 0 0]) (v := .agg #[iv 0, iv 0, .slice none 0 0]) 1 [iv 0, iv 0, .slice none 0 0] S (wN rfl) rfl rfl rfl rfl rfl rfl rfl (by simp) rfl fun a w S => ?_
  refine sN S fun a S => ?_
  refine lT (ao _ _ ?_)
  obtain rfl := tS h
  have S := S.learn (fRep (rL rB) (.slice none 0 0) ([] : (List Bool))) (rL_nil _ _ _)
  have S := S.learn (fRep r_api_Grid (.agg #[iv 0, iv 0, .slice none 0 0]) (api_Grid.mk 0 0 ([] : (List Bool)))) ⟨_, rfl, S.mem.know (i := 0) (e := fRep (rL rB) (.slice none 0 0) ([] : (List Bool))) rfl⟩
  exact wp_ret (rThen (sRet (.tuple #[.agg #[iv 0, iv 0, .slice none 0 0], iv 2]) S (rsl2 rfl (rvN (c := 4) (t := 24) (T := 24) (p := b7) 0 [iv 0, iv 0, .slice none 0 0] S rfl rfl rfl rfl) (rvT (t := 5) (v := iv 2) S rfl)) ⟨(.agg #[iv 0, iv 0, .slice none 0 0]), rfl, S.mem.sel [] [0] (by decide) rfl rfl⟩))
 refine sCondF S rfl ab ?_
 refine wp_skip (leafT (ai _ _ ?_))
 refine sSeq (fun aI ap => sRegion (sLoadN (p := b6) (off := 0) (T := 24) (vs := [iv p0.W, iv p0.H, .slice a4 p0.Bits.length a5]) 2 [iv p0.W, iv p0.H, .slice a4 p0.Bits.length a5] S (wN rfl) rfl rfl rfl rfl rfl rfl rfl (lb rfl) fun a S => ?_))
 refine sM S fun a S => ?_
 obtain ⟨a0, aq, h⟩ := bS h
 refine sCall (X := Value) (f := 62) (vs := [.agg #[iv p0.W, iv p0.H, .slice a4 p0.Bits.length a5], iv p1]) (val := c_symmetry_applied_val a0) (B' := fun _ => []) (D' := c_symmetry_applied_D a0) [] [eRow r_api_Grid 24 (.slice a8 [p0].length a9) [p0], eBox b7 24 [iv 0, iv 0, .slice none 0 0], eBox b6 24 [iv p0.W, iv p0.H, .slice a4 p0.Bits.length a5]] [fRep r_api_Grid (.agg #[iv p0.W, iv p0.H, .slice a4 p0.Bits.length a5]) p0] [0, 1, 2] [1] S (wN rfl) rfl callee62 rfl (by decide) rfl rfl (fun E1 w1 S1 => c_symmetry_applied E1 w1 p0 (.agg #[iv p0.W, iv p0.H, .slice a4 p0.Bits.length a5]) p1 a0 aq S1) rfl (lb rfl) fun ax a w S => ?_
 obtain ⟨ay, rfl, ae⟩ := S.mem.know (i := 0) (e := fRep r_api_Grid (ax) a0) rfl
 have S := S.learn (fRep (rL rB) ay a0.Bits) ae
 obtain ⟨a6, a7, _, rfl, _⟩ := ae
 refine sStore (p := b7) (off := 0) (T := 24) (vs := [iv 0, iv 0, .slice none 0 0]) (v := .agg #[iv a0.W, iv a0.H, .slice a6 a0.Bits.length a7]) 1 [iv a0.W, iv a0.H, .slice a6 a0.Bits.length a7] S (wN rfl) rfl rfl rfl rfl rfl rfl rfl (by simp) rfl fun a w S => ?_
 refine sN S fun a S => ?_
 refine lT (ap _ _ ?_)
 obtain rfl := tS h
 exact wp_ret (sRet (.tuple #[.agg #[iv a0.W, iv a0.H, .slice a6 a0.Bits.length a7], iv 0]) S (rsl2 rfl (rvN (c := 4) (t := 24) (T := 24) (p := b7) 0 [iv a0.W, iv a0.H, .slice a6 a0.Bits.length a7] S rfl rfl rfl rfl) (rvT (t := 5) (v := iv 0) S rfl)) ⟨(.agg #[iv a0.W, iv a0.H, .slice a6 a0.Bits.length a7]), rfl, S.mem.sel [] [1] (by decide) rfl rfl⟩)
noncomputable def F_grid_around (p0 : Int) (p1 : Int) : Option Int :=
 Option.bind (α := Int) (
  (remI p0 p1).bind fun z6 =>
  if decide (z6 < 0) then
   some (w64 (z6 + p1))
  else
   some z6) fun o2 =>
 some o2
theorem c_grid_around (E : Nat → Prop) (w0 : World) (p0 : Int) (p1 : Int) (r : Int) (h : F_grid_around p0 p1 = some r) (S : St0 E [] w0 w0 [] []) :
 Calls Try.prog 63 #[iv p0, iv p1] w0 (Ret (X := Unit) E [] w0 (fun _ => .int .i64 r) (fun _ => []) (fun _ => [])) := by
 unfold F_grid_around at h
 refine sEnter (args := [iv p0, iv p1]) 14 Try.func63 rfl rfl (by simp) S (fun a S => ?_)
 refine sSeq (fun K1 a5 => sRegion (sN S fun a S => ?_))
 refine lT (a5 _ _ ?_)
 obtain ⟨t3, h, g4⟩ := bS h
 refine sCut (fun a w => ∃ o2, o2 = t3 ∧ St [] E [] w0 14 a w [(0, iv o2)] [] []) ?_ (fun a w hI => ?_)
 rotate_left
 ·obtain ⟨o2, rfl, S⟩ := hI
  have h := g4
  try dsimp only at h
  refine sSeq (fun a9 a0 => sRegion (sM S fun a S => ?_))
  refine sN S fun a S => ?_
  refine lT (a0 _ _ ?_)
  obtain rfl := tS h
  exact wp_ret (sRet (iv o2) S (rsl1 rfl (rvT (t := 4) (v := iv o2) S rfl)) ⟨(), rfl, S.mem.sel [] [] (by decide) rfl rfl⟩)
 refine sSeq (fun K5 a6 => sRegion (sM S fun a S => ?_))
 refine sM S fun a S => ?_
 obtain ⟨z6, a7, h⟩ := bS h
 refine sBin _ S (wN rfl) rfl rfl rfl (bRem _ _ _ _ (x := p0) (y := p1) a7) rfl (lb rfl) fun a S => ?_
 refine sN S fun a S => ?_
 refine lT (a6 _ _ (sSeq (fun K8 a8 => sRegion (sM S fun a S => ?_))))
 refine sBin _ S (wN rfl) rfl rfl rfl (bLt _ _ _ _ .i64 z6 0) rfl (lb rfl) fun a S => ?_
 refine lT (a8 _ _ ?_)
 rcases iS h with ⟨a4, h⟩ | ⟨a4, h⟩
 rotate_left
 ·refine sCondF S rfl a4 ?_
  exact wp_skip (leafT (⟨z6, Option.some.inj h, S.fix [] [] (by decide) rfl rfl rfl⟩))
 refine sCondT S rfl a4 ?_
 refine sRegion (sM S fun a S => ?_)
 refine sM S fun a S => ?_
 refine sBin _ S (wN rfl) rfl rfl rfl (bAdd _ _ _ _ z6 p1) rfl (lb rfl) fun a S => ?_
 refine sN S fun a S => ?_
 exact lT (⟨w64 (z6 + p1), Option.some.inj h, S.fix [] [] (by decide) rfl rfl rfl⟩)
def anc_grid_Shift_1_s0_0 : List (List Nat) := [[], [0], [], [], [2, 3], [], [5], [2, 3, 4, 5, 6], [], [8], [2, 3, 4, 5, 6, 7, 8, 9], [], [], [11, 12], [], [14], [2, 3, 4, 5, 6, 7, 11, 12, 13, 14, 15], [2, 3, 4, 5, 6, 7, 8, 9, 10, 11, 12, 13, 14, 15, 16], [0, 1, 2, 3, 4, 5, 6, 7, 8, 9, 10, 11, 12, 13, 14, 15, 16, 17], [0, 1, 2, 3, 4, 5, 6, 7, 8, 9, 10, 11, 12, 13, 14, 15, 16, 17, 18], [0, 1, 2, 3, 4, 5, 6, 7, 8, 9, 10, 11, 12, 13, 14, 15, 16, 17, 18, 19]]
noncomputable def F_grid_Shift_1_s0 (p0 : Int) (p1 : Int) (p2 : api_Grid) (p3 : Int) (p4 : Int) : Option Bool :=
 (F_grid_around (w64 (p1 - p3)) p2.H).bind fun a0 =>
 (F_grid_around (w64 (p0 - p4)) p2.W).bind fun a4 =>
 (idxO p2.Bits (w64 ((w64 (a0 * p2.W)) + a4))).bind fun a5 =>
 some a5
theorem c_grid_Shift_1_s0 (E : Nat → Prop) (w0 : World) (p0 : Int) (p1 : Int) (p2 : api_Grid) (v2 : Value) (p3 : Int) (v3 : Value) (p4 : Int) (v4 : Value) (r : Bool) (h : F_grid_Shift_1_s0 p0 p1 p2 p3 p4 = some r) (S : St0 E [] w0 w0 [] [fPtr r_api_Grid (v2) p2, fPtr (rI .i64) (v3) p3, fPtr (rI .i64) (v4) p4]) :
 Calls Try.prog 65 #[iv p0, iv p1, v2, v3, v4] w0 (Ret (X := Unit) E [] w0 (fun _ => .bool r) (fun _ => []) (fun _ => [])) := by
 unfold F_grid_Shift_1_s0 at h
 refine sEnter (args := [iv p0, iv p1, v2, v3, v4]) 28 Try.func65 rfl rfl (by simp) S (fun a S => ?_)
 refine sSeq (fun K1 aw => sRegion (sN S fun a S => ?_))
 refine lT (aw _ _ (sSeq (fun K2 ax => ?_)))
 obtain ⟨a4, a8, h⟩ := bS h
 obtain ⟨a7, a9, h⟩ := bS h
 obtain ⟨a0, aa, h⟩ := bS h
 obtain ⟨ab, ac, S⟩ := pFld (P := Try.prog) (r := r_api_Grid) (s2 := (rL rB)) (g := (·.Bits)) (q := v2) (z := p2) 24 2 0 2 S rfl rfl comp_api_Grid_Bits
 obtain ⟨ay, S⟩ := pLoad (r := (rL rB)) (q := ab) (x := p2.Bits) 0 S rfl
 obtain ⟨a5, a6, _, rfl, _⟩ := S.mem.know (i := 1) (e := fRep (rL rB) (ay) p2.Bits) rfl
 obtain ⟨ao, S⟩ := pLoad (r := (rI .i64)) (q := v3) (x := p3) 4 S rfl
 obtain rfl : ao = iv p3 := S.mem.know (i := 1) (e := fRep (rI .i64) (ao) p3) rfl
 obtain ⟨ae, af, S⟩ := pFld (P := Try.prog) (r := r_api_Grid) (s2 := (rI .i64)) (g := (·.H)) (q := v2) (z := p2) 24 1 5 1 S rfl rfl comp_api_Grid_H
 obtain ⟨ap, S⟩ := pLoad (r := (rI .i64)) (q := ae) (x := p2.H) 0 S rfl
 obtain rfl : ap = iv p2.H := S.mem.know (i := 1) (e := fRep (rI .i64) (ap) p2.H) rfl
 obtain ⟨ag, ah, S⟩ := pFld (P := Try.prog) (r := r_api_Grid) (s2 := (rI .i64)) (g := (·.W)) (q := v2) (z := p2) 24 0 8 0 S rfl rfl comp_api_Grid_W
 obtain ⟨aq, S⟩ := pLoad (r := (rI .i64)) (q := ag) (x := p2.W) 0 S rfl
 obtain rfl : aq = iv p2.W := S.mem.know (i := 1) (e := fRep (rI .i64) (aq) p2.W) rfl
 obtain ⟨ar, S⟩ := pLoad (r := (rI .i64)) (q := v4) (x := p4) 13 S rfl
 obtain rfl : ar = iv p4 := S.mem.know (i := 1) (e := fRep (rI .i64) (ar) p4) rfl
 obtain ⟨ai, aj, S⟩ := pFld (P := Try.prog) (r := r_api_Grid) (s2 := (rI .i64)) (g := (·.W)) (q := v2) (z := p2) 24 0 13 0 S rfl rfl comp_api_Grid_W
 obtain ⟨au, S⟩ := pLoad (r := (rI .i64)) (q := ai) (x := p2.W) 0 S rfl
 obtain rfl : au = iv p2.W := S.mem.know (i := 1) (e := fRep (rI .i64) (au) p2.W) rfl
 obtain ⟨ak, am, S⟩ := pIdx (P := Try.prog) (r := rB) (v := .slice a5 p2.Bits.length a6) (xs := p2.Bits) (j := w64 ((w64 (a4 * p2.W)) + a7)) 22 4 14 S Try.underlying22 rfl rfl aa
 obtain ⟨av, S⟩ := pLoad (r := rB) (q := ak) (x := a0) 0 S rfl
 obtain rfl : av = .bool a0 := S.mem.know (i := 1) (e := fRep rB (av) a0) rfl
 refine sDraw (nf := []) (W := [(0, 8, ab), (1, 9, .slice a5 p2.Bits.length a6), (2, 10, iv p1), (3, 11, iv p3), (4, 12, iv (w64 (p1 - p3))), (5, 13, ae), (6, 14, iv p2.H), (7, 15, iv a4), (8, 16, ag), (9, 17, iv p2.W), (10, 18, iv (w64 (a4 * p2.W))), (11, 19, iv p0), (12, 20, iv p4), (13, 21, iv (w64 (p0 - p4))), (14, 22, ai), (15, 23, iv p2.W), (16, 24, iv a7), (17, 25, iv (w64 ((w64 (a4 * p2.W)) + a7))), (18, 26, ak), (19, 27, .bool a0), (20, 7, .bool a0)]) rfl S ?_
 refine node_by (A := anc_grid_Shift_1_s0_0) 21 (by kernel_rfl) (by kernel_rfl) (by kernel_rfl) (by kernel_rfl) (by kernel_rfl) [0, 1, 2, 3, 4, 5, 6, 7, 8, 9, 10, 11, 12, 13, 14, 15, 16, 17, 18, 19, 20] (by kernel_rfl) (by decide) (by decide) (fF ?_ (fF ?_ (fF ?_ (fF ?_ (fF ?_ (fF ?_ (fF ?_ (fF ?_ (fF ?_ (fF ?_ (fF ?_ (fF ?_ (fF ?_ (fF ?_ (fF ?_ (fF ?_ (fF ?_ (fF ?_ (fF ?_ (fF ?_ (fF ?_ (trivial)))))))))))))))))))))) [(7, .bool a0)] (fin_of [some 20] rfl (by kernel_rfl) (by kernel_rfl)) (fun _ a w S => ?_)
 ·refine fJ [(2, _)] 0 [none] fun G a w S => ?_
  exact sFldV (q := v2) S (wN rfl) rfl rfl ac rfl (lb rfl) fun a S => leafL ⟨rfl, S⟩
 ·refine fJ [(8, _)] 1 [some 0] fun G a w S => ?_
  exact sLoadV1 (vq := ab) 16 (.slice a5 p2.Bits.length a6) S (wN rfl) rfl rfl rfl rfl rfl (lb rfl) fun a S => leafL ⟨rfl, S⟩
 ·exact fM 2 none rfl rfl rfl rfl (.inl rfl) rfl rfl rfl
 ·refine fJ [(3, _)] 3 [none] fun G a w S => ?_
  exact sLoadV1 (vq := v3) 14 (iv p3) S (wN rfl) rfl rfl rfl rfl rfl (lb rfl) fun a S => leafL ⟨rfl, S⟩
 ·refine fJ [(10, _), (11, _)] 4 [some 2, some 3] fun G a w S => ?_
  exact sBin _ S (wN rfl) rfl rfl rfl (bSub _ _ _ _ p1 p3) rfl (lb rfl) fun a S => leafL ⟨rfl, S⟩
 ·refine fJ [(2, _)] 5 [none] fun G a w S => ?_
  exact sFldV (q := v2) S (wN rfl) rfl rfl af rfl (lb rfl) fun a S => leafL ⟨rfl, S⟩
 ·refine fJ [(13, _)] 6 [some 5] fun G a w S => ?_
  exact sLoadV1 (vq := ae) 11 (iv p2.H) S (wN rfl) rfl rfl rfl rfl rfl (lb rfl) fun a S => leafL ⟨rfl, S⟩
 ·refine fJ [(12, _), (14, _)] 7 [some 4, some 6] fun G a w S => ?_
  have S1 := S.mem
  refine sCq [iv (w64 (p1 - p3)), iv p2.H] (iv a4) S callee63 (S1.quiet [] rfl) (fun E1 w1 S1 => c_grid_around E1 w1 (w64 (p1 - p3)) p2.H a4 a8 S1) fun a w S => ?_
  exact leafL ⟨rfl, S⟩
 ·refine fJ [(2, _)] 8 [none] fun G a w S => ?_
  exact sFldV (q := v2) S (wN rfl) rfl rfl ah rfl (lb rfl) fun a S => leafL ⟨rfl, S⟩
 ·refine fJ [(16, _)] 9 [some 8] fun G a w S => ?_
  exact sLoadV1 (vq := ag) 8 (iv p2.W) S (wN rfl) rfl rfl rfl rfl rfl (lb rfl) fun a S => leafL ⟨rfl, S⟩
 ·refine fJ [(15, _), (17, _)] 10 [some 7, some 9] fun G a w S => ?_
  exact sBin _ S (wN rfl) rfl rfl rfl (bMul _ _ _ _ a4 p2.W) rfl (lb rfl) fun a S => leafL ⟨rfl, S⟩
 ·exact fM 11 none rfl rfl rfl rfl (.inl rfl) rfl rfl rfl
 ·refine fJ [(4, _)] 12 [none] fun G a w S => ?_
  exact sLoadV1 (vq := v4) 6 (iv p4) S (wN rfl) rfl rfl rfl rfl rfl (lb rfl) fun a S => leafL ⟨rfl, S⟩
 ·refine fJ [(19, _), (20, _)] 13 [some 11, some 12] fun G a w S => ?_
  exact sBin _ S (wN rfl) rfl rfl rfl (bSub _ _ _ _ p0 p4) rfl (lb rfl) fun a S => leafL ⟨rfl, S⟩
 ·refine fJ [(2, _)] 14 [none] fun G a w S => ?_
  exact sFldV (q := v2) S (wN rfl) rfl rfl aj rfl (lb rfl) fun a S => leafL ⟨rfl, S⟩
 ·refine fJ [(22, _)] 15 [some 14] fun G a w S => ?_
  exact sLoadV1 (vq := ai) 3 (iv p2.W) S (wN rfl) rfl rfl rfl rfl rfl (lb rfl) fun a S => leafL ⟨rfl, S⟩
 ·refine fJ [(21, _), (23, _)] 16 [some 13, some 15] fun G a w S => ?_
  have S1 := S.mem
  refine sCq [iv (w64 (p0 - p4)), iv p2.W] (iv a7) S callee63 (S1.quiet [] rfl) (fun E1 w1 S1 => c_grid_around E1 w1 (w64 (p0 - p4)) p2.W a7 a9 S1) fun a w S => ?_
  exact leafL ⟨rfl, S⟩
 ·refine fJ [(18, _), (24, _)] 17 [some 10, some 16] fun G a w S => ?_
  exact sBin _ S (wN rfl) rfl rfl rfl (bAdd _ _ _ _ (w64 (a4 * p2.W)) a7) rfl (lb rfl) fun a S => leafL ⟨rfl, S⟩
 ·refine fJ [(9, _), (25, _)] 18 [some 1, some 17] fun G a w S => ?_
  exact sIdxV S (wN rfl) rfl rfl rfl am rfl (lb rfl) fun a S => leafL ⟨rfl, S⟩
 ·refine fJ [(26, _)] 19 [some 18] fun G a w S => ?_
  exact sLoadV1 (vq := ak) 0 (.bool a0) S (wN rfl) rfl rfl rfl rfl rfl (lb rfl) fun a S => leafL ⟨rfl, S⟩
 ·exact fM 20 (some 19) rfl rfl rfl rfl (.inr rfl) rfl rfl rfl
 refine leafT (ax _ _ ?_)
 obtain rfl := tS h
 exact wp_ret (sRet (.bool a0) S (rsl1 rfl (rvT (t := 7) (v := .bool a0) S rfl)) ⟨(), rfl, S.mem.sel [] [] (by decide) rfl rfl⟩)
end Go.Proofs.Ytffikfajljbmnaa
