/- LoopsFlips: walks, tables, laws. -/
import Derived.Test.YticjoiolfibmlaaProg
import Derived.Test.YticjoiolfibmlaaRows
import Derived.Test.YticjoiolfibmlaaMLoopsFlips1
set_option linter.unusedVariables false
set_option linter.unusedSimpArgs false
set_option maxHeartbeats 4000000
set_option maxRecDepth 100000
namespace Go.Proofs.Yticjoiolfibmlaa
open Go.RowKit
theorem All.take {α : Type} {r : R α} {E : Nat → Prop} {w : World} {vs : List Value} {xs : List α} (a : All r E w vs xs) (k : Nat) : All r E w (vs.take k) (xs.take k) := by
 refine ⟨by simp [a.1], fun j v x hv hx => ?_⟩
 rw [List.getElem?_take] at hv hx
 split at hv
 ·rename_i h
  rw [if_pos h] at hx
  exact a.2 j v x hv hx
 ·cases hv
theorem All.drop {α : Type} {r : R α} {E : Nat → Prop} {w : World} {vs : List Value} {xs : List α} (a : All r E w vs xs) (k : Nat) : All r E w (vs.drop k) (xs.drop k) := by
 refine ⟨by simp [a.1], fun j v x hv hx => ?_⟩
 rw [List.getElem?_drop] at hv hx
 exact a.2 _ v x hv hx
theorem flat_split {sz : Nat} {vs : List Value} (h : ∀ v, v ∈ vs → v.cells.size = sz) (k : Nat) (hk : k ≤ vs.length) : flat vs = flat (vs.take k) ++ flat (vs.drop k) ∧ (flat (vs.take k)).length = k * sz := by
 refine ⟨by rw [← flat_append, List.take_append_drop], ?_⟩
 rw [flat_length (fun v hv => h v (List.mem_of_mem_take hv)), List.length_take, Nat.min_eq_left hk]
def cpO {α : Type} (xs ys : List α) : List α := ys.take xs.length ++ xs.drop ys.length
theorem cpO_length {α : Type} (xs ys : List α) : (cpO xs ys).length = xs.length := by simp [cpO]; omega
theorem cpO_eq {α : Type} {xs ys : List α} (h : xs.length = ys.length) : cpO xs ys = ys := by simp [cpO, h]
theorem cpO_v {α : Type} (xs ys : List α) (ad : Option Addr) (c : Nat) : Value.slice ad xs.length c = Value.slice ad (cpO xs ys).length c := by rw [cpO_length]
section
variable {P : Program} {dq : List Deferred} {E : Nat → Prop} {M : List Nat} {w0 : World} {n : Nat} {a : Act} {w : World} {F : List (Nat × Value)} {L : List Ent} {D : List Fact} {Q : Exit → Act → World → Prop}
variable {ops : Array Oper} {rest : List Oper} {o : Oper} {d : Nat}
theorem run_copyN {dT sT ty elem : TypeId} {sz g dLen dCap sLen sCap : Nat} {ad : Option Addr} {cur : Array Value} {t : TypeId} (cs : List Value) (hu : P.underlying dT = some (.slice elem)) (hs : cellsB P elem = some sz)
 (hg : w.heap[g]? = some (.cells cur t (0, 0))) (hn : cs.length = Nat.min sLen dLen * sz) (hsrc : ∀ j c, cs[j]? = some c → ∃ b off, ad = some ⟨b, off, none⟩ ∧ w.cell? ⟨b, off + j, none⟩ = some c) (hfit : cs.length ≤ cur.size) (h1 : ∀ v ∈ cs, v.oneCell' = true) :
 (Builtin.copy_ #[dT, sT] ty #[.slice (some ⟨g, 0, none⟩) dLen dCap, .slice ad sLen sCap]).run P w = .ok (goInt ((Nat.min sLen dLen : Nat) : Int)) (w.setRow g (over cur.toList 0 cs).toArray) := by
 have hst := run_storeCells_at P g 0 t cs 0 cur w hg (by simpa using hfit) h1
 simp only [Nat.zero_add, List.take_zero, List.nil_append] at hst
 have ho : over cur.toList 0 cs = cs ++ cur.toList.drop cs.length := by simp [over]
 rw [ho]
 cases hq : P.info? elem with
 | none => simp [cellsB, hq] at hs
 | some i =>
  have hi : i.size = sz := by simpa [cellsB, hq] using hs
  cases ad with
  | none =>
   have hcs : cs = [] := by
    cases cs with
    | nil => rfl
    | cons c cs => obtain ⟨_, _, h, _⟩ := hsrc 0 c rfl; cases h
   subst hcs
   simp [Builtin.copy_, run_underlying hu, Builtin.lenOf, Builtin.firstCells, sizeOf, typeInfo, hq, hi, hst]
  | some ad =>
   have hl := run_loadCells_list (P := P) w ad cs (fun j v hv => by
    obtain ⟨b, off, h, hc⟩ := hsrc j v hv
    cases h
    rw [add_addr]; exact hc)
   rw [hn] at hl
   simp [Builtin.copy_, run_underlying hu, Builtin.lenOf, Builtin.firstCells, sizeOf, typeInfo, hq, hi, hl, hst]
theorem sCopyR {α : Type} {r : R α} {T elem dT sT : TypeId} {xs ys : List α} {x y : Operand} {v u : Value} (i m : Nat) (S : St dq E M w0 n a w F L D)
 (hw : ∀ a, Frm dq n a F → Region.wanted o (yielded ops a.tmps) = true) (ho : o.op = .call { callee := .builtin .copy, args := #[x, y], argTypes := #[dT, sT] }) (hu : P.underlying dT = some (.slice elem)) (hs : cellsB P elem = some r.sz)
 (hx : lookO F x = some v) (hy : lookO F y = some u) (hL : L[i]? = some (eRow r T v xs)) (hD : D[m]? = some (fRep (rL r) u ys)) (hd : o.dst = some d) (hn : d < n)
 (k : ∀ a w, St dq E M w0 n a w ((d, .int .i64 ((Nat.min ys.length xs.length : Nat) : Int)) :: F) (eRow r T v (cpO xs ys) :: L.eraseIdx i) D → wpList P ops Q rest a w) : wpList P ops Q (o :: rest) a w := by
 obtain ⟨vs, ha, hlen, hown⟩ := S.mem.at hL
 obtain ⟨ad, cS, us, rfl, hcS, hmS, hb, hcells⟩ := S.mem.know hD
 have hex := S.frm.eval hx
 have hey := S.frm.eval hy
 have hown1 := hown
 rcases hown.2 with ⟨rfl, h0⟩ | ⟨g, cap, cur, rfl, hgb, hg, hnc, hcm, hcs, htake⟩
 ·have hxs : xs = [] := List.eq_nil_of_length_eq_zero h0
  subst hxs
  have hrun : (Builtin.copy_ #[dT, sT] o.type #[.slice none 0 0, .slice ad ys.length cS]).run P w = .ok (goInt 0) w := by
   cases hq : P.info? elem with
   | none => simp [cellsB, hq] at hs
   | some q =>
    cases ad with
    | none => simp [Builtin.copy_, run_underlying hu, Builtin.lenOf, Builtin.firstCells, sizeOf, typeInfo, hq]
    | some ad =>
     have hl := run_loadCells_list (P := P) w ad [] (fun j v hv => by simp at hv)
     simp only [List.length_nil] at hl
     simp [Builtin.copy_, run_underlying hu, Builtin.lenOf, Builtin.firstCells, sizeOf, typeInfo, hq, hl]
  have hcp : cpO ([] : List α) ys = [] := by simp [cpO]
  rw [hcp] at k
  have hput : St0 E M w0 w (eRow r T (.slice none 0 0) ([] : List α) :: L.eraseIdx i) D := S.mem.perm (erase_perm hL)
  refine sVal (v := .int .i64 ((Nat.min ys.length 0 : Nat) : Int)) S hw hd hn ?_ hput (fun a => k a _)
  simp [execOp, ho, resolve, invoke, builtin, hex, hey, hrun, Result.andThen, goInt]
 ·have hlv : vs.length = xs.length := ha.1
  have hlu : us.length = ys.length := hb.1
  have hfl := flat_length (fun v hv => (ha.cells v hv).1)
  rw [hlv] at hfl
  have hcut : (flat (us.take xs.length)).length = Nat.min ys.length xs.length * r.sz := by
   rw [flat_length (fun v hv => (hb.cells v (List.mem_of_mem_take hv)).1), List.length_take, hlu, Nat.min_comm]
  have hmin : Nat.min ys.length xs.length ≤ xs.length := Nat.min_le_right _ _
  have hle : Nat.min ys.length xs.length * r.sz ≤ xs.length * r.sz := Nat.mul_le_mul_right _ hmin
  have hle2 : xs.length * r.sz ≤ cap * r.sz := Nat.mul_le_mul_right _ hnc
  have hpre : ∃ post, flat us = flat (us.take xs.length) ++ post := ⟨flat (us.drop xs.length), by rw [← flat_append, List.take_append_drop]⟩
  obtain ⟨post, hpre⟩ := hpre
  have hrun := run_copyN (P := P) (w := w) (sT := sT) (ty := o.type) (dLen := xs.length) (dCap := cap) (sLen := ys.length) (sCap := cS) (ad := ad) (flat (us.take xs.length)) hu hs hg hcut (fun j c hc => by
   have hj : j < (flat (us.take xs.length)).length := (List.getElem?_eq_some_iff.1 hc).1
   obtain ⟨b, off, h1, _, _, h4⟩ := hcells j c (by rw [hpre, List.getElem?_append_left hj]; exact hc)
   exact ⟨b, off, h1, h4⟩) (by rw [hcut, hcs]; omega) (flat_one (fun v hv => (hb.cells v (List.mem_of_mem_take hv)).2))
  have hchg : Chg (eRow r T (.slice (some ⟨g, 0, none⟩) xs.length cap) xs).keys w (w.setRow g (over cur.toList 0 (flat (us.take xs.length))).toArray) := ⟨rfl, rfl, rfl, by simp [World.setRow], fun k _ hk => setRow_other w g k _ (fun e => hk (by simp [eRow, vkeys, e]))⟩
  have hext : Ext (tot E L) (tot E (eRow r T (.slice (some ⟨g, 0, none⟩) xs.length cap) (cpO xs ys) :: L.eraseIdx i)) w (w.setRow g (over cur.toList 0 (flat (us.take xs.length))).toArray) := by
   refine ⟨hchg.size, fun b hb hn _ => hchg.block b hb (fun e => hn (.inr (keysL_mem.2 ⟨_, List.mem_of_getElem? hL, e⟩))), fun b hb h => ?_⟩
   rcases h with h | h
   ·exact .inl h
   ·obtain ⟨e, h2, h3⟩ := keysL_mem.1 h
    rcases List.mem_cons.1 h2 with rfl | h2
    ·exact .inr (keysL_mem.2 ⟨_, List.mem_of_getElem? hL, h3⟩)
    ·exact .inr (keysL_mem.2 ⟨e, List.mem_of_mem_eraseIdx h2, h3⟩)
  refine sVal (v := .int .i64 ((Nat.min ys.length xs.length : Nat) : Int)) S hw hd hn (w' := w.setRow g (over cur.toList 0 (flat (us.take xs.length))).toArray) ?_ (S.mem.put hL (eRow r T (.slice (some ⟨g, 0, none⟩) xs.length cap) (cpO xs ys)) hchg (fun b hb => .inl hb) (by simp [eRow, vkeys]) ?_) (fun a => k a _)
  ·simp only [execOp, ho, resolve, invoke, builtin]
   simp [hex, hey, hrun, Result.andThen, goInt]
  ·have hall : All r (tot E (eRow r T (.slice (some ⟨g, 0, none⟩) xs.length cap) (cpO xs ys) :: L.eraseIdx i)) (w.setRow g (over cur.toList 0 (flat (us.take xs.length))).toArray) (cpO vs us) (cpO xs ys) := by
    unfold cpO
    rw [hlv, hlu]
    exact ((hb.mono hext).take _).append ((ha.mono hext).drop _)
   have hfc : flat (cpO vs us) = over (flat vs) 0 (flat (us.take xs.length)) := by
    unfold cpO over
    rw [flat_append, hlv, hlu, List.take_zero, List.nil_append, Nat.zero_add, hcut]
    congr 1
    by_cases h : ys.length ≤ xs.length
    ·have e := flat_split (fun v hv => (ha.cells v hv).1) ys.length (by omega)
     rw [e.1, show Nat.min ys.length xs.length = ys.length from Nat.min_eq_left h, List.drop_append, e.2]
     simp [e.2]
    ·rw [show Nat.min ys.length xs.length = xs.length from Nat.min_eq_right (by omega), List.drop_eq_nil_of_le (by omega), List.drop_eq_nil_of_le (by omega)]
     rfl
   refine ⟨cpO vs us, hall, by rw [cpO_length]; exact hlen, ?_⟩
   rw [cpO_length, hfc]
   refine ⟨by rw [over_length (by rw [hcut, hfl]; omega), hfl], .inr ⟨g, cap, (over cur.toList 0 (flat (us.take xs.length))).toArray, rfl, Nat.zero_le _, setRow_heap w g cur _ T _ hg, hnc, hcm, ?_, ?_⟩⟩
   ·simp only [List.size_toArray]; rw [over_length (by rw [hcut]; simp only [Nat.zero_add, Array.length_toList]; omega)]; simpa using hcs
   ·rw [over_take (by rw [hcut]; omega) (by simp only [Array.length_toList]; omega), htake]
def eHole {α : Type} (r : R α) (T : TypeId) (v : Value) (xs : List α) (p : Nat) (u : Value) : Ent where
 keys := vkeys v
 p := fun E w => ∃ vs, All r E w vs xs ∧ xs.length ≤ 68719476736 ∧ p < xs.length * r.sz ∧ w.ownsRow 0 T r.sz v xs.length (over (flat vs) p [u])
 mono := by
  rintro E E' w w' h hs ⟨vs, ha, hm, hp, hl, ho⟩
  refine ⟨vs, ha.mono h, hm, hp, hl, ?_⟩
  rcases ho with ho | ⟨g, cap, cur, hv, hg, hh, hr⟩
  ·exact .inl ho
  ·subst hv
   exact .inr ⟨g, cap, cur, rfl, hg, by rw [hs g (by simp [vkeys])]; exact hh, hr⟩
 lt := by
  rintro E w ⟨vs, ha, _, _, hl, ho⟩ b hb
  rcases ho with ⟨ho, _⟩ | ⟨g, cap, cur, hv, hg, hh, hr⟩
  ·subst ho; simp [vkeys] at hb
  ·subst hv
   simp [vkeys] at hb; subst hb
   exact (Array.getElem?_eq_some_iff.1 hh).1
theorem sStoreH {α : Type} {r : R α} {T : TypeId} {xs : List α} {x : α} {t : TypeId} {q xo : Operand} {v vq u : Value} {j : Int} (i kf : Nat) (S : St dq E M w0 n a w F L D) (hp : OwnF r.sz v vq j.toNat kf)
 (hw : ∀ a, Frm dq n a F → Region.wanted o (yielded ops a.tmps) = true) (ho : o.op = .store t q xo) (hq : lookO F q = some vq) (hxo : lookO F xo = some u) (hL : L[i]? = some (eRow r T v xs)) (hix : idxO xs j = some x) (hk : kf < r.sz) (hc : u.cells.toList = [u]) (h1 : u.oneCell' = true) (hm : cellsB P t = some 1) (hd : o.dst = none)
 (k : ∀ a w, St dq E M w0 n a w F (eHole r T v xs (j.toNat * r.sz + kf) u :: L.eraseIdx i) D → wpList P ops Q rest a w) : wpList P ops Q (o :: rest) a w := by
 obtain ⟨_, h2, _⟩ := idxO_some hix
 obtain ⟨vs, ha, hlen, hown⟩ := S.mem.at hL
 obtain ⟨g, m, c, rfl, rfl⟩ := hp
 have he := S.frm.eval hq
 have hex := S.frm.eval hxo
 have hcs1 : u.cells.size = 1 := by rw [← Array.length_toList, hc]; rfl
 have hown1 := hown
 rcases hown.2 with ⟨h, _⟩ | ⟨g', cap, cur, h, hb, hg, hnc, hcm, hcs, htake⟩
 ·cases h
 obtain ⟨rfl, rfl, rfl⟩ : g = g' ∧ m = xs.length ∧ c = cap := by simpa using h
 have hle : (j.toNat + 1) * r.sz ≤ xs.length * r.sz := Nat.mul_le_mul_right _ h2
 have hle2 : xs.length * r.sz ≤ c * r.sz := Nat.mul_le_mul_right _ hnc
 rw [Nat.add_mul, Nat.one_mul] at hle
 have hfl := flat_length (fun v hv => (ha.cells v hv).1)
 rw [ha.1] at hfl
 have hst := run_storeVar (P := P) (t := t) (off := j.toNat * r.sz + kf) (u := u) (by rw [hcs1]; exact hm) (by rw [hc]; intro c hc'; simp at hc'; rw [hc']; exact h1) hg (by rw [hcs1, hcs]; omega)
 rw [hc] at hst
 have hchg : Chg (eRow r T (.slice (some ⟨g, 0, none⟩) xs.length c) xs).keys w (w.setRow g (over cur.toList (j.toNat * r.sz + kf) [u]).toArray) := ⟨rfl, rfl, rfl, by simp [World.setRow], fun k _ hk => setRow_other w g k _ (fun e => hk (by simp [eRow, vkeys, e]))⟩
 have hext : Ext (tot E L) (tot E (eHole r T (.slice (some ⟨g, 0, none⟩) xs.length c) xs (j.toNat * r.sz + kf) u :: L.eraseIdx i)) w (w.setRow g (over cur.toList (j.toNat * r.sz + kf) [u]).toArray) := by
  refine ⟨hchg.size, fun b hb hn _ => hchg.block b hb (fun e => hn (.inr (keysL_mem.2 ⟨_, List.mem_of_getElem? hL, e⟩))), fun b hb h => ?_⟩
  rcases h with h | h
  ·exact .inl h
  ·obtain ⟨e, h2, h3⟩ := keysL_mem.1 h
   rcases List.mem_cons.1 h2 with rfl | h2
   ·exact .inr (keysL_mem.2 ⟨_, List.mem_of_getElem? hL, h3⟩)
   ·exact .inr (keysL_mem.2 ⟨e, List.mem_of_mem_eraseIdx h2, h3⟩)
 refine sUnit S hw hd (w' := w.setRow g (over cur.toList (j.toNat * r.sz + kf) [u]).toArray) ?_ (S.mem.put hL (eHole r T (.slice (some ⟨g, 0, none⟩) xs.length c) xs (j.toNat * r.sz + kf) u) hchg (fun b hb => .inl hb) (by simp [eHole, vkeys]) ?_) (fun a => k a _)
 ·simp only [execOp, ho, he, hex, Instr.storeAt, Instr.sureAddr, Sem.run_bind, Sem.run_pure, Result.andThen_ok, hst]
 ·refine ⟨vs, ha.mono hext, hlen, by omega, ?_⟩
  refine ⟨by rw [over_length (by rw [hfl]; simp; omega), hfl], .inr ⟨g, c, (over cur.toList (j.toNat * r.sz + kf) [u]).toArray, rfl, Nat.zero_le _, setRow_heap w g cur _ T _ hg, hnc, hcm, ?_, ?_⟩⟩
  ·simp only [List.size_toArray]; rw [over_length (by simp [hcs]; omega)]; simpa using hcs
  ·rw [over_take (by simp; omega) (by simp [hcs]; omega), htake]
theorem hole_slice {α : Type} {r : R α} {T : TypeId} {v : Value} {xs : List α} {p : Nat} {u : Value} {E : Nat → Prop} {w : World} (h : (eHole r T v xs p u).p E w) : ∃ g c, v = .slice (some ⟨g, 0, none⟩) xs.length c ∧ w.cell? ⟨g, p, none⟩ = some u := by
 obtain ⟨vs, ha, _, hp, hown⟩ := h
 have hfl := flat_length (fun v hv => (ha.cells v hv).1)
 rw [ha.1] at hfl
 rcases hown.2 with ⟨_, h0⟩ | ⟨g, cap, cur, rfl, _⟩
 ·rw [h0] at hp; omega
 ·refine ⟨g, cap, rfl, ?_⟩
  rw [hown.cellAt _ hp, over_get (by rw [hfl]; simp; omega), if_pos (by simp), Nat.sub_self]
  rfl
theorem pIdxH {α : Type} {r : R α} {T : TypeId} {xs : List α} {x : α} {v : Value} {p : Nat} {u : Value} {j : Int} (t e i : Nat) (S : St dq E M w0 n a w F L D) (ht : P.underlying t = some (.slice e)) (hs : cellsB P e = some r.sz) (hL : L[i]? = some (eHole r T v xs p u)) (hx : idxO xs j = some x) :
 ∃ q, IdxV P t v j q ∧ OwnP r.sz v q j.toNat := by
 obtain ⟨h0, h1, h2⟩ := idxO_some hx
 obtain ⟨g, c, rfl, _⟩ := hole_slice (S.mem.at hL)
 refine ⟨_, fun k w => ?_, ⟨g, _, c, rfl, rfl⟩⟩
 have := run_indexAt (P := P) ht hs (b := g) (off := 0) (c := c) (k := k) h0 h1 w
 simpa using this
theorem sLoadH {α : Type} {r : R α} {T : TypeId} {xs : List α} {u : Value} {t : TypeId} {q : Operand} {v vq : Value} {j : Int} (i kf : Nat) (S : St dq E M w0 n a w F L D) (hp : OwnF r.sz v vq j.toNat kf)
 (hw : ∀ a, Frm dq n a F → Region.wanted o (yielded ops a.tmps) = true) (ho : o.op = .load t q) (hq : lookO F q = some vq) (hL : L[i]? = some (eHole r T v xs (j.toNat * r.sz + kf) u)) (ht : aggB P t = some false) (hd : o.dst = some d) (hn : d < n)
 (k : ∀ a, St dq E M w0 n a w ((d, u) :: F) L D → wpList P ops Q rest a w) : wpList P ops Q (o :: rest) a w := by
 obtain ⟨g, c, rfl, hcell⟩ := hole_slice (S.mem.at hL)
 obtain ⟨g', m', c', e1, rfl⟩ := hp
 cases e1
 have he := S.frm.eval hq
 exact sVal S hw hd hn (by simp [execOp, ho, he, Instr.loadAt, Instr.sureAddr, loadVar, run_isAgg ht, hcell]) S.mem k
theorem St0.closeH {α β : Type} {r : R α} {s : R β} {T : TypeId} {xs ys : List α} {x y : α} {z : β} {v u : Value} {j : Int} (i kf : Nat) (S : St0 E M w0 w L D) (hL : L[i]? = some (eHole r T v xs (j.toNat * r.sz + kf) u)) (hu0 : (fRep s u z).p (tot E L) w) (hc : u.cells.toList = [u]) (hk : kf < r.sz) (hix : idxO xs j = some x) (hup : Upd r s kf x z y) (hs : setO xs j y = some ys) :
 St0 E M w0 w (eRow r T v ys :: L.eraseIdx i) D := by
 obtain ⟨h0, h1, rfl⟩ := setO_some hs
 obtain ⟨_, _, hxj⟩ := idxO_some hix
 obtain ⟨vs, ha, hlen, hp, hown⟩ := S.at hL
 have hj : j.toNat < vs.length := by rw [ha.1]; exact h1
 have hvj : vs[j.toNat]? = some vs[j.toNat] := List.getElem?_eq_getElem hj
 have hrep := ha.2 _ _ _ hvj hxj
 have hsv := r.size hrep
 obtain ⟨v', hu, hcl, hle0⟩ := hup _ _ _ _ hrep hu0
 have hsz := r.size hu
 have hfl := flat_length (fun v hv => (ha.cells v hv).1)
 rw [ha.1] at hfl
 have hle : (j.toNat + 1) * r.sz ≤ xs.length * r.sz := Nat.mul_le_mul_right _ h1
 rw [Nat.add_mul, Nat.one_mul] at hle
 have heq : over (flat vs) (j.toNat * r.sz + kf) [u] = over (flat vs) (j.toNat * r.sz) v'.cells.toList := by
  rw [hcl, hc]
  refine (over_over (fun b hb => ?_) (by simp [hsv]; omega) (by simp [hsv, hfl]; omega)).symm
  have hb2 : b < r.sz := by simpa [hsv] using hb
  exact flat_get (fun v hv => (ha.cells v hv).1) hvj hb2
 have hext : Ext (tot E L) (tot E (eRow r T v (xs.set j.toNat y) :: L.eraseIdx i)) w w := by
  refine ⟨Nat.le_refl _, fun _ _ _ _ => rfl, fun b hb h => ?_⟩
  rcases h with h | h
  ·exact .inl h
  ·obtain ⟨e, h2, h3⟩ := keysL_mem.1 h
   rcases List.mem_cons.1 h2 with rfl | h2
   ·exact .inr (keysL_mem.2 ⟨_, List.mem_of_getElem? hL, h3⟩)
   ·exact .inr (keysL_mem.2 ⟨e, List.mem_of_mem_eraseIdx h2, h3⟩)
 refine S.put hL (eRow r T v (xs.set j.toNat y)) (Chg.refl _ _) (fun b hb => .inl hb) ?_ ?_
 ·cases v <;> simp [eRow, vkeys]
  rename_i a _ _
  cases a <;> simp
 ·refine ⟨vs.set j.toNat v', (ha.mono hext).set _ (r.mono hext hu), by simpa using hlen, ?_⟩
  rw [flat_set (fun v hv => (ha.cells v hv).1) hj hsz, ← heq, List.length_set]
  exact hown
theorem St.closeH {α β : Type} {r : R α} {s : R β} {T : TypeId} {xs ys : List α} {x y : α} {z : β} {v u : Value} {j : Int} (i kf : Nat) (S : St dq E M w0 n a w F L D) (hL : L[i]? = some (eHole r T v xs (j.toNat * r.sz + kf) u)) (hu0 : (fRep s u z).p (tot E L) w) (hc : u.cells.toList = [u]) (hk : kf < r.sz) (hix : idxO xs j = some x) (hup : Upd r s kf x z y) (hs : setO xs j y = some ys) :
 St dq E M w0 n a w F (eRow r T v ys :: L.eraseIdx i) D := ⟨S.frm, S.mem.closeH i kf hL hu0 hc hk hix hup hs⟩
end
section
variable {P : Program} {dq : List Deferred} {E : Nat → Prop} {M : List Nat} {w0 : World} {n : Nat} {a : Act} {w : World} {F : List (Nat × Value)} {L : List Ent} {D : List Fact} {Q : Exit → Act → World → Prop}
variable {ops : Array Oper} {rest : List Oper} {o : Oper} {d : Nat}
end
section
variable {P : Program} {dq : List Deferred} {E : Nat → Prop} {M : List Nat} {w0 : World} {n : Nat} {a : Act} {w : World} {F : List (Nat × Value)} {L : List Ent} {D : List Fact} {Q : Exit → Act → World → Prop}
variable {ops : Array Oper} {rest : List Oper} {o : Oper} {d : Nat}
theorem sSliceT {α : Type} {r : R α} {T t e : TypeId} {x : Operand} {lo hi : Option Operand} {ad : Option Addr} {c : Nat} {xs ys : List α} {vlo vhi : Option Value} {hi' : Int} (i : Nat) (S : St dq E M w0 n a w F L D)
 (hw : ∀ a, Frm dq n a F → Region.wanted o (yielded ops a.tmps) = true) (ho : o.op = .slice t x lo hi none) (ht : P.underlying t = some (.slice e)) (hs : cellsB P e = some r.sz) (hx : lookO F x = some (.slice ad xs.length c)) (hL : L[i]? = some (eRow r T (.slice ad xs.length c) xs))
 (hlo : lo.map (lookO F) = vlo.map some) (hhi : hi.map (lookO F) = vhi.map some) (hl : vlo = some (.int .i64 0) ∨ vlo = none) (hh : vhi = some (.int .i64 hi') ∨ vhi = none ∧ hi' = (xs.length : Int)) (hsl : sliceO xs 0 hi' = some ys) (hd : o.dst = some d) (hn : d < n)
 (k : ∀ a, St dq E M w0 n a w ((d, .slice ad ys.length c) :: F) (eRow r T (.slice ad ys.length c) ys :: L.eraseIdx i) D → wpList P ops Q rest a w) : wpList P ops Q (o :: rest) a w := by
 obtain ⟨l, q, hl0, rfl, h1, h2, rfl⟩ := sliceO_some hsl
 obtain rfl : l = 0 := by omega
 have hex := S.frm.eval hx
 have elo : lo.map a.eval = vlo := by
  cases lo with
  | none => cases vlo with | none => rfl | some _ => simp at hlo
  | some y => cases vlo with | none => simp at hlo | some u => simp at hlo; simp [S.frm.eval hlo]
 have ehi : hi.map a.eval = vhi := by
  cases hi with
  | none => cases vhi with | none => rfl | some _ => simp at hhi
  | some y => cases vhi with | none => simp at hhi | some u => simp at hhi; simp [S.frm.eval hhi]
 obtain ⟨vs, ha, hlen, hown⟩ := S.mem.at hL
 have hc : xs.length ≤ c := by
  rcases hown.2 with ⟨h, h0⟩ | ⟨g, cap, cur, h, _, _, hnc, _⟩
  ·simp only [Value.slice.injEq] at h; omega
  ·simp only [Value.slice.injEq] at h; omega
 have hrun := run_sliceAt (P := P) ht hs ad xs.length c 0 q vlo vhi (by rcases hl with h | h; exact .inl h; exact .inr ⟨h, rfl⟩) (by rcases hh with h | ⟨h, h'⟩; exact .inl h; exact .inr ⟨h, by omega⟩) h1 h2 hc w
 have had : (if c = 0 then ad else ad.map (·.add (0 * r.sz))) = ad := by
  split
  ·rfl
  ·rcases hown.2 with ⟨h, h0⟩ | ⟨g, cap, cur, h, _⟩
   ·simp only [Value.slice.injEq] at h; rw [h.1]; rfl
   ·simp only [Value.slice.injEq] at h; rw [h.1]; simp [add_addr]
 have hl2 : ((xs.take q).drop 0).length = q := by simp; omega
 rw [had, Nat.sub_zero, Nat.sub_zero] at hrun
 have hkeys : ∀ b, b ∈ (eRow r T (.slice ad ((xs.take q).drop 0).length c) ((xs.take q).drop 0)).keys → b ∈ (eRow r T (.slice ad xs.length c) xs).keys ∨ w.heap.size ≤ b := by
  intro b hb
  left
  cases ad with
  | none => simp [eRow, vkeys] at hb
  | some a1 => simpa [eRow, vkeys] using hb
 have hext : Ext (tot E L) (tot E (eRow r T (.slice ad ((xs.take q).drop 0).length c) ((xs.take q).drop 0) :: L.eraseIdx i)) w w := by
  refine ⟨Nat.le_refl _, fun _ _ _ _ => rfl, fun b hb h => ?_⟩
  rcases h with h | h
  ·exact .inl h
  ·obtain ⟨e, h5, h6⟩ := keysL_mem.1 h
   rcases List.mem_cons.1 h5 with rfl | h5
   ·rcases hkeys b h6 with h7 | h7
    ·exact .inr (keysL_mem.2 ⟨_, List.mem_of_getElem? hL, h7⟩)
    ·omega
   ·exact .inr (keysL_mem.2 ⟨e, List.mem_of_mem_eraseIdx h5, h6⟩)
 refine sVal S hw hd hn (w' := w) (v := .slice ad ((xs.take q).drop 0).length c) ?_ (S.mem.put hL (eRow r T (.slice ad ((xs.take q).drop 0).length c) ((xs.take q).drop 0)) (Chg.refl _ _) hkeys (by cases ad <;> simp [eRow, vkeys]) ?_) (fun a => k a)
 ·rw [hl2]
  unfold execOp
  simp only [ho, hex, elo, ehi, Option.map_none, Sem.run_bind, hrun, Result.andThen_ok, Sem.run_pure]
 ·have hA : All r (tot E (eRow r T (.slice ad ((xs.take q).drop 0).length c) ((xs.take q).drop 0) :: L.eraseIdx i)) w ((vs.take q).drop 0) ((xs.take q).drop 0) := ((ha.mono hext).take q).drop 0
  refine ⟨(vs.take q).drop 0, hA, by rw [hl2]; omega, ?_⟩
  rw [hl2]
  have hfs := flat_split (fun v hv => (ha.cells v hv).1) q (by rw [ha.1]; omega)
  refine ⟨?_, ?_⟩
  ·rw [List.drop_zero, hfs.2]
  ·rcases hown.2 with ⟨h, h0⟩ | ⟨g, cap, cur, h, hgb, hg, hnc, hcm, hcs, htake⟩
   ·simp only [Value.slice.injEq] at h
    exact .inl ⟨by rw [h.1, h.2.2, show q = 0 by omega], by omega⟩
   ·simp only [Value.slice.injEq] at h
    obtain ⟨rfl, _, rfl⟩ := h
    refine .inr ⟨g, c, cur, rfl, hgb, hg, by omega, hcm, hcs, ?_⟩
    have hle : q * r.sz ≤ xs.length * r.sz := Nat.mul_le_mul_right _ h2
    rw [List.drop_zero, show cur.toList.take (q * r.sz) = (cur.toList.take (xs.length * r.sz)).take (q * r.sz) by rw [List.take_take, Nat.min_eq_left hle], htake, hfs.1, ← hfs.2, List.take_left]
end
section
variable {P : Program} {dq : List Deferred} {E : Nat → Prop} {M : List Nat} {w0 : World} {n : Nat} {a : Act} {w : World} {F : List (Nat × Value)} {L : List Ent} {D : List Fact} {Q : Exit → Act → World → Prop}
variable {ops : Array Oper} {rest : List Oper} {o : Oper} {d : Nat}
end
section
variable {P : Program} {dq : List Deferred} {E : Nat → Prop} {M : List Nat} {w0 : World} {n : Nat} {a : Act} {w : World} {F : List (Nat × Value)} {L : List Ent} {D : List Fact} {Q : Exit → Act → World → Prop}
variable {ops : Array Oper} {rest : List Oper} {o : Oper} {d : Nat}
end
section
variable {P : Program} {dq : List Deferred} {E : Nat → Prop} {M : List Nat} {w0 : World} {n : Nat} {a : Act} {w : World} {F : List (Nat × Value)} {L : List Ent} {D : List Fact} {Q : Exit → Act → World → Prop}
variable {ops : Array Oper} {rest : List Oper} {o : Oper} {d : Nat}
theorem run_equalIn_nil (d : Nat) {u e : TypeId} (hu : P.underlying u = some (.slice e)) (ad : Option Addr) (m c : Nat) (w : World) : (Op.equalIn (d + 1) u (.slice ad m c) (.slice none 0 0)).run P w = .ok ad.isNone w := by
 cases ad <;> simp [Op.equalIn, run_underlying hu]
theorem bEqNil (t u : TypeId) (p q : Operand) {e : TypeId} (hu : P.underlying u = some (.slice e)) (ad : Option Addr) (m c : Nat) : ∀ w, (eqGuard .eql t p q (.slice ad m c) (.slice none 0 0)).run P w = .ok () w ∧ (binOp .eql u (.slice ad m c) (.slice none 0 0)).run P w = .ok (.bool ad.isNone) w := fun w => ⟨rfl, by
 simp only [binOp]
 simp [Op.equal, Op.maxDepth, run_equalIn_nil 9999 hu]⟩
theorem nil_cases (ad : Option Addr) : ad.isNone = true ∨ ad.isNone = false := by cases ad <;> simp
theorem rL_isNil {α : Type} {r : R α} {E : Nat → Prop} {w : World} {ad : Option Addr} {c : Nat} {xs : List α} (h : (rL r).rep E w (.slice ad xs.length c) xs) (hn : ad.isNone = true) : xs = [] := by
 obtain ⟨ad0, c0, vs, hv, hc, hm, ha, hcell⟩ := h
 obtain ⟨rfl, rfl⟩ : ad = ad0 ∧ c = c0 := by simpa using hv
 cases ad with
 | some _ => simp at hn
 | none =>
  cases xs with
  | nil => rfl
  | cons x xs =>
   have hfl := flat_length (fun v hv => (ha.cells v hv).1)
   have hpos : 0 < (flat vs).length := by rw [hfl, ha.1]; exact Nat.mul_pos (by simp) r.pos
   obtain ⟨_, _, h, _⟩ := hcell 0 _ (List.getElem?_eq_getElem hpos)
   cases h
theorem sSliceA {t e : TypeId} {m sz b : Nat} {x : Operand} (S : St dq E M w0 n a w F L D)
 (hw : ∀ a, Frm dq n a F → Region.wanted o (yielded ops a.tmps) = true) (ho : o.op = .slice t x none none none) (ht : P.underlying t = some (.array m e)) (hs : cellsB P e = some sz) (hx : lookO F x = some (.pointer (some ⟨b, 0, none⟩))) (hm : m ≠ 0) (hd : o.dst = some d) (hn : d < n)
 (k : ∀ a, St dq E M w0 n a w ((d, .slice (some ⟨b, 0, none⟩) m m) :: F) L D → wpList P ops Q rest a w) : wpList P ops Q (o :: rest) a w := by
 have hex := S.frm.eval hx
 refine sVal S hw hd hn (w' := w) ?_ S.mem k
 simp [execOp, ho, hex, Instr.sliceAt, run_underlying ht, Instr.sureAddr, Instr.sliceBounds, Instr.sliceBound, run_sizeOf' hs, hm, add_addr]
theorem idxV_bsl {t e : TypeId} {m c sz : Nat} {b : Nat} {j : Int} (ht : P.underlying t = some (.slice e)) (hs : cellsB P e = some sz) (h0 : 0 ≤ j) (h1 : j < (m : Int)) (off : Nat) : IdxV P t (.slice (some ⟨b, off, none⟩) m c) j (.pointer (some ⟨b, off + j.toNat * sz, none⟩)) := fun k w => by
 exact run_indexAt (P := P) ht hs (b := b) (off := off) (c := c) (k := k) h0 (by omega) w
theorem sCapNil {t e : TypeId} {x : Operand} (S : St dq E M w0 n a w F L D)
 (hw : ∀ a, Frm dq n a F → Region.wanted o (yielded ops a.tmps) = true) (ho : o.op = .call { callee := .builtin .cap, args := #[x], argTypes := #[t] }) (ht : P.underlying t = some (.slice e)) (hx : lookO F x = some (.slice none 0 0)) (hd : o.dst = some d) (hn : d < n)
 (k : ∀ a, St dq E M w0 n a w ((d, .int .i64 0) :: F) L D → wpList P ops Q rest a w) : wpList P ops Q (o :: rest) a w := by
 have he := S.frm.eval hx
 exact sVal S hw hd hn (by simp [execOp, ho, he, resolve, invoke, builtin, Builtin.cap_, run_underlying ht, goInt]) S.mem k
theorem sSliceNil {t e : TypeId} {sz : Nat} {x hi : Operand} (S : St dq E M w0 n a w F L D)
 (hw : ∀ a, Frm dq n a F → Region.wanted o (yielded ops a.tmps) = true) (ho : o.op = .slice t x none (some hi) none) (ht : P.underlying t = some (.slice e)) (hs : cellsB P e = some sz) (hx : lookO F x = some (.slice none 0 0)) (hhi : lookO F hi = some (.int .i64 0)) (hd : o.dst = some d) (hn : d < n)
 (k : ∀ a, St dq E M w0 n a w ((d, .slice none 0 0) :: F) L D → wpList P ops Q rest a w) : wpList P ops Q (o :: rest) a w := by
 have hex := S.frm.eval hx
 have ehi := S.frm.eval hhi
 refine sVal S hw hd hn (w' := w) ?_ S.mem k
 have hrun := run_sliceAt (P := P) ht hs none 0 0 0 0 none (some (.int .i64 0)) (.inr ⟨rfl, rfl⟩) (.inl rfl) (Nat.le_refl _) (Nat.le_refl _) (Nat.le_refl _) w
 simp only [Nat.sub_zero, if_true] at hrun
 unfold execOp
 simp only [ho, hex, ehi, Option.map_none, Option.map_some, Sem.run_bind, hrun, Result.andThen_ok, Sem.run_pure]
def appZ {α : Type} (m : Int) (z : α) : Option (List α) := if 1 ≤ m ∧ m.toNat ≤ lim then some (List.replicate m.toNat z) else none
theorem appZ_some {α : Type} {m : Int} {z : α} {xs : List α} (h : appZ m z = some xs) : ∃ k : Nat, m = k ∧ 1 ≤ k ∧ k ≤ 68719476736 ∧ xs = List.replicate k z := by
 unfold appZ lim at h
 split at h
 ·rename_i hc
  exact ⟨m.toNat, by omega, by omega, hc.2, (Option.some.inj h).symm⟩
 ·cases h
theorem sAppZ {α : Type} {r : R α} {T t tn : TypeId} {kn : IntKind} {s x : Operand} {xs : List α} {m : Int} (z : Value) (zx : α) (bytes : Nat) (S : St dq E M w0 n a w F L D)
 (hw : ∀ a, Frm dq n a F → Region.wanted o (yielded ops a.tmps) = true) (ho : o.op = .call { callee := .builtin .append, args := #[s, x], argTypes := #[t, tn] }) (ht : P.underlying t = some (.slice T)) (htn : P.underlying tn = some (.int kn)) (hinfo : (P.info? T).map (fun i => (i.zero, i.size, i.bytes)) = some (some z, r.sz, bytes)) (hby : bytes ≤ 2048) (hzx : ∀ E w, r.rep E w z zx)
 (hs : lookO F s = some (.slice none 0 0)) (hx : lookO F x = some (.int .i64 m)) (hm : appZ m zx = some xs) (hd : o.dst = some d) (hn : d < n)
 (hkn : kn = .i64)
 (k : ∀ a w ad c, St dq E M w0 n a w ((d, .slice ad xs.length c) :: F) (eRow r T (.slice ad xs.length c) xs :: L) D → wpList P ops Q rest a w) : wpList P ops Q (o :: rest) a w := by
 subst hkn
 obtain ⟨q, rfl, hq0, hq, rfl⟩ := appZ_some hm
 have hes := S.frm.eval hs
 have hex := S.frm.eval hx
 obtain ⟨ie, hi, hzi, hsize, hbytes⟩ := info_parts hinfo
 have hzs : z.cells.size = r.sz := r.size (hzx (fun _ => False) w)
 have hr := Lib.run_append_nil_zeros (P := P) w t tn o.type T ie z .i64 .i64 ht htn hi hzi q (by omega) (by rw [hsize]; exact r.pos) (by omega) (by rw [hbytes]; exact Nat.le_trans (Nat.mul_le_mul hq hby) (by decide))
 generalize hc : grownCap w q 0 T = c at hr
 have hge : q ≤ c := by rw [← hc]; exact grownCap_ge w q 0 T
 have hmx : c ≤ maxLen := by rw [← hc]; exact grownCap_le_maxLen w q 0 T (by unfold maxLen; omega)
 have hfl : flat (List.replicate q z) = (Builtin.zeroCells z.cells q).toList := by rw [flat_made rfl q]; rfl
 have hAll : ∀ E w, All r E w (List.replicate q z) (List.replicate q zx) := fun E w => ⟨by simp, fun k v x hv hx => by
  rw [List.getElem?_replicate] at hv hx
  split at hv
  ·rename_i hk
   rw [if_pos hk] at hx
   cases hv; cases hx; exact hzx E w
  ·cases hv⟩
 have hgr : Chg [] w (w.drew.alloc (.cells (Builtin.zeroCells z.cells q ++ Builtin.zeroCells z.cells (c - q)) T)) := (Chg.refl [] w).drew.trans (Chg.alloc [] w.drew _) (by simp)
 have S' : St0 E M w0 (w.drew.alloc (.cells (Builtin.zeroCells z.cells q ++ Builtin.zeroCells z.cells (c - q)) T)) (eRow r T (.slice (some ⟨w.heap.size, 0, none⟩) q c) (List.replicate q zx) :: L) D := by
  have := St0.upd (B := []) (Rs := L) S.mem (by simpa [keysL] using hgr) [eRow r T (.slice (some ⟨w.heap.size, 0, none⟩) q c) (List.replicate q zx)] [] ⟨by simpa [keysL] using hgr, by
   intro e he
   simp at he; subst he
   refine ⟨List.replicate q z, hAll _ _, by simpa using hq, ?_⟩
   rw [List.length_replicate, hfl]
   refine ⟨by simp [size_zeroCells, hzs], .inr ⟨w.heap.size, c, _, rfl, Nat.zero_le _, heap_alloc_new w.drew _, hge, hmx, by simp [size_zeroCells, hzs]; rw [← Nat.add_mul]; congr 1; omega, ?_⟩⟩
   rw [Array.toList_append, List.take_append_of_le_length (by simp [size_zeroCells, hzs]), List.take_of_length_le (by simp [size_zeroCells, hzs])], by simp, by simp [keysL, eRow, vkeys], by
    intro b hb
    simp [keysL, eRow, vkeys] at hb
    subst hb
    refine ⟨.inl (Nat.le_refl _), fun h => ?_⟩
    rcases h with h | h
    ·exact absurd (S.mem.bnd _ h) (by have := S.mem.chg.size; omega)
    ·exact absurd (S.mem.lt _ h) (by omega), by
    intro b hb
    rcases hb with h | h
    ·exact Nat.lt_of_lt_of_le (S.mem.bnd b h) S.mem.chg.size
    ·exact S.mem.lt b h⟩
  simpa using this
 refine sVal S hw hd hn (v := .slice (some ⟨w.heap.size, 0, none⟩) q c) ?_ S' (fun a Sa => k a _ (some ⟨w.heap.size, 0, none⟩) c (by simpa using Sa))
 unfold execOp
 simp only [ho, resolve, invoke, builtin, Sem.run_bind, Sem.run_pure, Result.andThen_ok, List.map_toArray, List.map_cons, List.map_nil, hes, hex, hr]
end
structure api_Stitch where
 Kind : Int
 Purl : Bool
 A : Int
 B : Int
def r_api_Stitch : R api_Stitch where
 sz := 4
 rep := fun E w v x => v = .agg #[.int .u8 x.Kind, .bool x.Purl, .int .i64 x.A, .int .i64 x.B]
 pos := by decide
 size := by rintro _ _ _ _ rfl; rfl
 one := by
  rintro _ _ _ _ rfl u hu
  simp [Value.cells] at hu
  rcases hu with rfl | rfl | rfl | rfl
  ·rfl
  ·rfl
  ·rfl
  ·rfl
 mono := fun _ h => h
theorem comp_api_Stitch_Kind : Comp r_api_Stitch (rI .u8) 0 (·.Kind) := by
 rintro _ _ _ x rfl
 refine ⟨.int .u8 x.Kind, rfl, fun j c hj => ?_⟩
 match j, hj with
 | 0, hj => exact hj
 | j + 1, hj => exact absurd (List.getElem?_eq_some_iff.1 hj).1 (by simp [Value.cells])
structure api_Row where
 Back : Bool
 Cells : (List api_Stitch)
def r_api_Row : R api_Row where
 sz := 2
 rep := fun E w v x => ∃ v0, v = .agg #[.bool x.Back, v0] ∧ (rL r_api_Stitch).rep E w v0 x.Cells
 pos := by decide
 size := by rintro _ _ _ _ ⟨v0, rfl, h0⟩; rfl
 one := by
  rintro _ _ _ _ ⟨v0, rfl, h0⟩ u hu
  simp [Value.cells] at hu
  rcases hu with rfl | rfl
  ·rfl
  ·exact (rL r_api_Stitch).one h0 _ (by rw [scal_L _ _ _ _ _ h0]; simp)
 mono := by
  rintro _ _ _ _ _ _ h ⟨v0, e, h0⟩
  exact ⟨v0, e, (rL r_api_Stitch).mono h h0⟩
theorem comp_api_Row_Back : Comp r_api_Row rB 0 (·.Back) := by
 rintro _ _ _ x ⟨v0, rfl, h0⟩
 refine ⟨.bool x.Back, rfl, fun j c hj => ?_⟩
 match j, hj with
 | 0, hj => exact hj
 | j + 1, hj => exact absurd (List.getElem?_eq_some_iff.1 hj).1 (by simp [Value.cells])
theorem comp_api_Row_Cells : Comp r_api_Row (rL r_api_Stitch) 1 (·.Cells) := by
 rintro _ _ _ x ⟨v0, rfl, h0⟩
 refine ⟨v0, h0, fun j c hj => ?_⟩
 rw [scal_L _ _ _ _ _ h0] at hj
 match j, hj with
 | 0, hj => exact hj
 | j + 1, hj => exact absurd (List.getElem?_eq_some_iff.1 hj).1 (by simp)
structure api_Chart where
 Start : Int
 Rows : (List api_Row)
def r_api_Chart : R api_Chart where
 sz := 2
 rep := fun E w v x => ∃ v0, v = .agg #[.int .i64 x.Start, v0] ∧ (rL r_api_Row).rep E w v0 x.Rows
 pos := by decide
 size := by rintro _ _ _ _ ⟨v0, rfl, h0⟩; rfl
 one := by
  rintro _ _ _ _ ⟨v0, rfl, h0⟩ u hu
  simp [Value.cells] at hu
  rcases hu with rfl | rfl
  ·rfl
  ·exact (rL r_api_Row).one h0 _ (by rw [scal_L _ _ _ _ _ h0]; simp)
 mono := by
  rintro _ _ _ _ _ _ h ⟨v0, e, h0⟩
  exact ⟨v0, e, (rL r_api_Row).mono h h0⟩
theorem aggr_api_Chart : Aggr r_api_Chart := by rintro _ _ _ _ ⟨v0, rfl, h0⟩; exact ⟨_, rfl⟩
theorem comp_api_Chart_Start : Comp r_api_Chart (rI .i64) 0 (·.Start) := by
 rintro _ _ _ x ⟨v0, rfl, h0⟩
 refine ⟨.int .i64 x.Start, rfl, fun j c hj => ?_⟩
 match j, hj with
 | 0, hj => exact hj
 | j + 1, hj => exact absurd (List.getElem?_eq_some_iff.1 hj).1 (by simp [Value.cells])
theorem comp_api_Chart_Rows : Comp r_api_Chart (rL r_api_Row) 1 (·.Rows) := by
 rintro _ _ _ x ⟨v0, rfl, h0⟩
 refine ⟨v0, h0, fun j c hj => ?_⟩
 rw [scal_L _ _ _ _ _ h0] at hj
 match j, hj with
 | 0, hj => exact hj
 | j + 1, hj => exact absurd (List.getElem?_eq_some_iff.1 hj).1 (by simp)
structure chart_count where
 before : Int
 after : Int
 e : Int
def r_chart_count : R chart_count where
 sz := 3
 rep := fun E w v x => v = .agg #[.int .i64 x.before, .int .i64 x.after, .int .i64 x.e]
 pos := by decide
 size := by rintro _ _ _ _ rfl; rfl
 one := by
  rintro _ _ _ _ rfl u hu
  simp [Value.cells] at hu
  rcases hu with rfl | rfl | rfl
  ·rfl
  ·rfl
  ·rfl
 mono := fun _ h => h
theorem comp_chart_count_after : Comp r_chart_count (rI .i64) 1 (·.after) := by
 rintro _ _ _ x rfl
 refine ⟨.int .i64 x.after, rfl, fun j c hj => ?_⟩
 match j, hj with
 | 0, hj => exact hj
 | j + 1, hj => exact absurd (List.getElem?_eq_some_iff.1 hj).1 (by simp [Value.cells])
theorem comp_chart_count_e : Comp r_chart_count (rI .i64) 2 (·.e) := by
 rintro _ _ _ x rfl
 refine ⟨.int .i64 x.e, rfl, fun j c hj => ?_⟩
 match j, hj with
 | 0, hj => exact hj
 | j + 1, hj => exact absurd (List.getElem?_eq_some_iff.1 hj).1 (by simp [Value.cells])
def r_A2_Int : R (Int × Int) where
 sz := 2
 rep := fun E w v x => v = .agg #[.int .i64 x.1, .int .i64 x.2]
 pos := by decide
 size := by rintro _ _ _ _ rfl; rfl
 one := by
  rintro _ _ _ _ rfl u hu
  simp [Value.cells] at hu
  rcases hu with rfl | rfl
  ·rfl
  ·rfl
 mono := fun _ h => h
structure stitch_form where
 letter : ByteArray
 a : (Int × Int)
 b : (Int × Int)
 sided : Bool
 uses : Int
 made : Int
def r_stitch_form : R stitch_form where
 sz := 8
 rep := fun E w v x => v = .agg #[.string x.letter, .int .i64 x.a.1, .int .i64 x.a.2, .int .i64 x.b.1, .int .i64 x.b.2, .bool x.sided, .int .i64 x.uses, .int .i64 x.made]
 pos := by decide
 size := by rintro _ _ _ _ rfl; rfl
 one := by
  rintro _ _ _ _ rfl u hu
  simp [Value.cells] at hu
  rcases hu with rfl | rfl | rfl | rfl | rfl | rfl | rfl | rfl
  ·rfl
  ·rfl
  ·rfl
  ·rfl
  ·rfl
  ·rfl
  ·rfl
  ·rfl
 mono := fun _ h => h
structure api_Loop where
 Row : Int
 Cell : Int
 Parents : (List Int)
 Purl : Bool
def r_api_Loop : R api_Loop where
 sz := 4
 rep := fun E w v x => ∃ v0, v = .agg #[.int .i64 x.Row, .int .i64 x.Cell, v0, .bool x.Purl] ∧ (rL (rI .i64)).rep E w v0 x.Parents
 pos := by decide
 size := by rintro _ _ _ _ ⟨v0, rfl, h0⟩; rfl
 one := by
  rintro _ _ _ _ ⟨v0, rfl, h0⟩ u hu
  simp [Value.cells] at hu
  rcases hu with rfl | rfl | rfl | rfl
  ·rfl
  ·rfl
  ·exact (rL (rI .i64)).one h0 _ (by rw [scal_L _ _ _ _ _ h0]; simp)
  ·rfl
 mono := by
  rintro _ _ _ _ _ _ h ⟨v0, e, h0⟩
  exact ⟨v0, e, (rL (rI .i64)).mono h h0⟩
theorem comp_api_Loop_Parents : Comp r_api_Loop (rL (rI .i64)) 2 (·.Parents) := by
 rintro _ _ _ x ⟨v0, rfl, h0⟩
 refine ⟨v0, h0, fun j c hj => ?_⟩
 rw [scal_L _ _ _ _ _ h0] at hj
 match j, hj with
 | 0, hj => exact hj
 | j + 1, hj => exact absurd (List.getElem?_eq_some_iff.1 hj).1 (by simp)
theorem comp_api_Loop_Purl : Comp r_api_Loop rB 3 (·.Purl) := by
 rintro _ _ _ x ⟨v0, rfl, h0⟩
 refine ⟨.bool x.Purl, rfl, fun j c hj => ?_⟩
 match j, hj with
 | 0, hj => exact hj
 | j + 1, hj => exact absurd (List.getElem?_eq_some_iff.1 hj).1 (by simp [Value.cells])
structure loops_piece where
 loops : (List api_Loop)
 rows : (List Int)
 bound : (List Int)
 cross : (List (Int × Int))
 next : Int
def r_loops_piece : R loops_piece where
 sz := 5
 rep := fun E w v x => ∃ v0 v1 v2 v3, v = .agg #[v0, v1, v2, v3, .int .i64 x.next] ∧ (rL r_api_Loop).rep E w v0 x.loops ∧ (rL (rI .i64)).rep E w v1 x.rows ∧ (rL (rI .i64)).rep E w v2 x.bound ∧ (rL r_A2_Int).rep E w v3 x.cross
 pos := by decide
 size := by rintro _ _ _ _ ⟨v0, v1, v2, v3, rfl, h0, h1, h2, h3⟩; rfl
 one := by
  rintro _ _ _ _ ⟨v0, v1, v2, v3, rfl, h0, h1, h2, h3⟩ u hu
  simp [Value.cells] at hu
  rcases hu with rfl | rfl | rfl | rfl | rfl
  ·exact (rL r_api_Loop).one h0 _ (by rw [scal_L _ _ _ _ _ h0]; simp)
  ·exact (rL (rI .i64)).one h1 _ (by rw [scal_L _ _ _ _ _ h1]; simp)
  ·exact (rL (rI .i64)).one h2 _ (by rw [scal_L _ _ _ _ _ h2]; simp)
  ·exact (rL r_A2_Int).one h3 _ (by rw [scal_L _ _ _ _ _ h3]; simp)
  ·rfl
 mono := by
  rintro _ _ _ _ _ _ h ⟨v0, v1, v2, v3, e, h0, h1, h2, h3⟩
  exact ⟨v0, v1, v2, v3, e, (rL r_api_Loop).mono h h0, (rL (rI .i64)).mono h h1, (rL (rI .i64)).mono h h2, (rL r_A2_Int).mono h h3⟩
structure raddleref27_Piece where
 Loops : (List api_Loop)
 Bound : (List Int)
 Cross : (List (Int × Int))
 Rows : (List Int)
def gl_stitch_form (x : stitch_form) : List Value := [.string x.letter, .int .i64 x.a.1, .int .i64 x.a.2, .int .i64 x.b.1, .int .i64 x.b.2, .bool x.sided, .int .i64 x.uses, .int .i64 x.made]
def gv_stitch_form (x : stitch_form) : Value := .agg (gl_stitch_form x).toArray
theorem upd_api_Row_Back (x : api_Row) (z : Bool) : Upd r_api_Row rB 0 x z (api_Row.mk z x.Cells) := by
 rintro E w _ u ⟨v0, rfl, h0⟩ hz
 obtain rfl : u = .bool z := hz
 exact ⟨.agg #[.bool z, v0], ⟨v0, rfl, h0⟩, rfl, by decide⟩
theorem upd_api_Row_Cells (x : api_Row) (z : (List api_Stitch)) : Upd r_api_Row (rL r_api_Stitch) 1 x z (api_Row.mk x.Back z) := by
 rintro E w _ u ⟨v0, rfl, h0⟩ hz
 refine ⟨.agg #[.bool x.Back, u], ⟨u, rfl, hz⟩, ?_, by decide⟩
 rw [scal_L _ _ _ _ _ hz]
 rfl
theorem comp_A2_Int_0 : Comp r_A2_Int (rI .i64) 0 (fun x => x.1) := by
 rintro _ _ _ x rfl
 refine ⟨.int .i64 x.1, rfl, fun j c hj => ?_⟩
 match j, hj with
 | 0, hj => exact hj
 | j + 1, hj => exact absurd (List.getElem?_eq_some_iff.1 hj).1 (by simp [Value.cells])
theorem comp_A2_Int_1 : Comp r_A2_Int (rI .i64) 1 (fun x => x.2) := by
 rintro _ _ _ x rfl
 refine ⟨.int .i64 x.2, rfl, fun j c hj => ?_⟩
 match j, hj with
 | 0, hj => exact hj
 | j + 1, hj => exact absurd (List.getElem?_eq_some_iff.1 hj).1 (by simp [Value.cells])
theorem callee10 : ∀ vs w, (callFunc 10 vs).run Try.prog w = .ok (.enter 10 vs) w := callee Try.func10 rfl rfl
theorem callee11 : ∀ vs w, (callFunc 11 vs).run Try.prog w = .ok (.enter 11 vs) w := callee Try.func11 rfl rfl
theorem callee13 : ∀ vs w, (callFunc 13 vs).run Try.prog w = .ok (.enter 13 vs) w := callee Try.func13 rfl rfl
theorem callee15 : ∀ vs w, (callFunc 15 vs).run Try.prog w = .ok (.enter 15 vs) w := callee Try.func15 rfl rfl
theorem callee18 : ∀ vs w, (callFunc 18 vs).run Try.prog w = .ok (.enter 18 vs) w := callee Try.func18 rfl rfl
theorem callee19 : ∀ vs w, (callFunc 19 vs).run Try.prog w = .ok (.enter 19 vs) w := callee Try.func19 rfl rfl
theorem callee20 : ∀ vs w, (callFunc 20 vs).run Try.prog w = .ok (.enter 20 vs) w := callee Try.func20 rfl rfl
theorem callee21 : ∀ vs w, (callFunc 21 vs).run Try.prog w = .ok (.enter 21 vs) w := callee Try.func21 rfl rfl
theorem callee22 : ∀ vs w, (callFunc 22 vs).run Try.prog w = .ok (.enter 22 vs) w := callee Try.func22 rfl rfl
theorem callee26 : ∀ vs w, (callFunc 26 vs).run Try.prog w = .ok (.enter 26 vs) w := callee Try.func26 rfl rfl
theorem callee27 : ∀ vs w, (callFunc 27 vs).run Try.prog w = .ok (.enter 27 vs) w := callee Try.func27 rfl rfl
theorem callee28 : ∀ vs w, (callFunc 28 vs).run Try.prog w = .ok (.enter 28 vs) w := callee Try.func28 rfl rfl
theorem callee30 : ∀ vs w, (callFunc 30 vs).run Try.prog w = .ok (.enter 30 vs) w := callee Try.func30 rfl rfl
theorem callee32 : ∀ vs w, (callFunc 32 vs).run Try.prog w = .ok (.enter 32 vs) w := callee Try.func32 rfl rfl
theorem callee33 : ∀ vs w, (callFunc 33 vs).run Try.prog w = .ok (.enter 33 vs) w := callee Try.func33 rfl rfl
theorem callee35 : ∀ vs w, (callFunc 35 vs).run Try.prog w = .ok (.enter 35 vs) w := callee Try.func35 rfl rfl
theorem callee36 : ∀ vs w, (callFunc 36 vs).run Try.prog w = .ok (.enter 36 vs) w := callee Try.func36 rfl rfl
theorem callee39 : ∀ vs w, (callFunc 39 vs).run Try.prog w = .ok (.enter 39 vs) w := callee Try.func39 rfl rfl
theorem callee40 : ∀ vs w, (callFunc 40 vs).run Try.prog w = .ok (.enter 40 vs) w := callee Try.func40 rfl rfl
theorem callee41 : ∀ vs w, (callFunc 41 vs).run Try.prog w = .ok (.enter 41 vs) w := callee Try.func41 rfl rfl
theorem callee42 : ∀ vs w, (callFunc 42 vs).run Try.prog w = .ok (.enter 42 vs) w := callee Try.func42 rfl rfl
theorem callee43 : ∀ vs w, (callFunc 43 vs).run Try.prog w = .ok (.enter 43 vs) w := callee Try.func43 rfl rfl
theorem callee44 : ∀ vs w, (callFunc 44 vs).run Try.prog w = .ok (.enter 44 vs) w := callee Try.func44 rfl rfl
theorem callee46 : ∀ vs w, (callFunc 46 vs).run Try.prog w = .ok (.enter 46 vs) w := callee Try.func46 rfl rfl
theorem callee48 : ∀ vs w, (callFunc 48 vs).run Try.prog w = .ok (.enter 48 vs) w := callee Try.func48 rfl rfl
theorem callee49 : ∀ vs w, (callFunc 49 vs).run Try.prog w = .ok (.enter 49 vs) w := callee Try.func49 rfl rfl
theorem callee51 : ∀ vs w, (callFunc 51 vs).run Try.prog w = .ok (.enter 51 vs) w := callee Try.func51 rfl rfl
theorem callee52 : ∀ vs w, (callFunc 52 vs).run Try.prog w = .ok (.enter 52 vs) w := callee Try.func52 rfl rfl
theorem callee53 : ∀ vs w, (callFunc 53 vs).run Try.prog w = .ok (.enter 53 vs) w := callee Try.func53 rfl rfl
theorem callee54 : ∀ vs w, (callFunc 54 vs).run Try.prog w = .ok (.enter 54 vs) w := callee Try.func54 rfl rfl
theorem callee55 : ∀ vs w, (callFunc 55 vs).run Try.prog w = .ok (.enter 55 vs) w := callee Try.func55 rfl rfl
theorem callee56 : ∀ vs w, (callFunc 56 vs).run Try.prog w = .ok (.enter 56 vs) w := callee Try.func56 rfl rfl
theorem callee57 : ∀ vs w, (callFunc 57 vs).run Try.prog w = .ok (.enter 57 vs) w := callee Try.func57 rfl rfl
theorem callee58 : ∀ vs w, (callFunc 58 vs).run Try.prog w = .ok (.enter 58 vs) w := callee Try.func58 rfl rfl
theorem callee59 : ∀ vs w, (callFunc 59 vs).run Try.prog w = .ok (.enter 59 vs) w := callee Try.func59 rfl rfl
theorem callee60 : ∀ vs w, (callFunc 60 vs).run Try.prog w = .ok (.enter 60 vs) w := callee Try.func60 rfl rfl
theorem callee61 : ∀ vs w, (callFunc 61 vs).run Try.prog w = .ok (.enter 61 vs) w := callee Try.func61 rfl rfl
theorem callee62 : ∀ vs w, (callFunc 62 vs).run Try.prog w = .ok (.enter 62 vs) w := callee Try.func62 rfl rfl
theorem callee63 : ∀ vs w, (callFunc 63 vs).run Try.prog w = .ok (.enter 63 vs) w := callee Try.func63 rfl rfl
theorem callee64 : ∀ vs w, (callFunc 64 vs).run Try.prog w = .ok (.enter 64 vs) w := callee Try.func64 rfl rfl
theorem callee65 : ∀ vs w, (callFunc 65 vs).run Try.prog w = .ok (.enter 65 vs) w := callee Try.func65 rfl rfl
theorem callee66 : ∀ vs w, (callFunc 66 vs).run Try.prog w = .ok (.enter 66 vs) w := callee Try.func66 rfl rfl
theorem callee67 : ∀ vs w, (callFunc 67 vs).run Try.prog w = .ok (.enter 67 vs) w := callee Try.func67 rfl rfl
theorem callee68 : ∀ vs w, (callFunc 68 vs).run Try.prog w = .ok (.enter 68 vs) w := callee Try.func68 rfl rfl
theorem callee69 : ∀ vs w, (callFunc 69 vs).run Try.prog w = .ok (.enter 69 vs) w := callee Try.func69 rfl rfl
theorem callee70 : ∀ vs w, (callFunc 70 vs).run Try.prog w = .ok (.enter 70 vs) w := callee Try.func70 rfl rfl
theorem callee71 : ∀ vs w, (callFunc 71 vs).run Try.prog w = .ok (.enter 71 vs) w := callee Try.func71 rfl rfl
theorem callee72 : ∀ vs w, (callFunc 72 vs).run Try.prog w = .ok (.enter 72 vs) w := callee Try.func72 rfl rfl
theorem callee73 : ∀ vs w, (callFunc 73 vs).run Try.prog w = .ok (.enter 73 vs) w := callee Try.func73 rfl rfl
theorem callee74 : ∀ vs w, (callFunc 74 vs).run Try.prog w = .ok (.enter 74 vs) w := callee Try.func74 rfl rfl
theorem callee75 : ∀ vs w, (callFunc 75 vs).run Try.prog w = .ok (.enter 75 vs) w := callee Try.func75 rfl rfl
theorem callee76 : ∀ vs w, (callFunc 76 vs).run Try.prog w = .ok (.enter 76 vs) w := callee Try.func76 rfl rfl
open Go.ChangeShapes Go.WideShapes Go.ChangeAt Go.Joins
def InK (k : IntKind) (x : Int) : Prop := (Lit.int k x).wf = true
theorem inK_u8 {x : Int} (h : InK .u8 x) : 0 ≤ x ∧ x ≤ 255 := by
 simpa [InK, Lit.wf, IntKind.min, IntKind.max, IntKind.signed, IntKind.bits] using h
def Wl {α : Type} (p : α → Prop) (xs : List α) : Prop := xs.length ≤ 9223372036854775807 ∧ ∀ x, x ∈ xs → p x
def OpC {α : Type} (P : Program) (t : TypeId) (r : R α) (p : α → Prop) : Prop :=
 ∀ (H : Type) (enc : TypeId × Value → H) (w : World) (base : Nat) (spare : Nat → Bool) (held : Bool) (fuel : Nat) (cs : List Value) (x : DataW H × List MemPlace),
  DataW.trod enc P w base spare held fuel t cs = some x → ∃ v y, v.cells.toList = cs ∧ r.rep (fun _ => False) w v y ∧ p y
section
variable {P : Program}
theorem op_int {t : TypeId} (k : IntKind) (ht : P.underlying t = some (.int k)) : OpC P t (rI k) (InK k) := fun H enc w base spare held fuel cs x h => by
 obtain ⟨n, rfl, _, hw⟩ := DataW.trod_int ht h
 exact ⟨_, n, rfl, rfl, hw⟩
theorem op_bool {t : TypeId} (ht : P.underlying t = some .bool) : OpC P t rB (fun _ => True) := fun H enc w base spare held fuel cs x h => by
 obtain ⟨n, rfl, _⟩ := DataW.trod_bool ht h
 exact ⟨_, n, rfl, rfl, trivial⟩
theorem choose_list {α : Type} {n : Nat} {p : Nat → α → Prop} (h : ∀ i, i < n → ∃ x, p i x) : ∃ l : List α, l.length = n ∧ ∀ i x, l[i]? = some x → p i x := by
 induction n with
 | zero => exact ⟨[], rfl, fun i x hi => by simp at hi⟩
 | succ n ih =>
  obtain ⟨l, hl, hp⟩ := ih fun i hi => h i (by omega)
  obtain ⟨x, hx⟩ := h n (by omega)
  refine ⟨l ++ [x], by simp [hl], fun i y hi => ?_⟩
  by_cases e : i < l.length
  ·rw [List.getElem?_append_left e] at hi; exact hp i y hi
  ·rw [List.getElem?_append_right (by omega)] at hi
   have : i - l.length = 0 := by
    have := (List.getElem?_eq_some_iff.1 hi).1
    simp at this; omega
   rw [this] at hi
   simp at hi; subst hi
   have : i = n := by omega
   subst this; exact hx
theorem op_slice {α : Type} {t e : TypeId} {r : R α} {p : α → Prop} (ht : P.underlying t = some (.slice e)) (hc : P.cellsOf e = r.sz) (he : OpC P e r p) : OpC P t (rL r) (Wl p) := fun H enc w base spare held fuel cs x h => by
 rcases Go.Deep.open_slice ht h with ⟨rfl, _⟩ | ⟨a, len, cap, m, n, D, Pl, rfl, _, hl, hm, hmm, _, hx⟩
 ·exact ⟨_, [], rfl, rL_nil _ _ _, by simp, fun x hx => by simp at hx⟩
 ·have hlm : len ≤ m := by rw [hmm]; split <;> omega
  obtain ⟨b, off, spot⟩ := a
  have hcell : ∀ i, i < len → ∃ vy : Value × α, (∀ j, j < r.sz → w.cell? ((⟨b, off, spot⟩ : Addr).add (i * r.sz + j)) = vy.1.cells.toList[j]?) ∧ r.rep (fun _ => False) w vy.1 vy.2 ∧ p vy.2 := fun i hi => by
   obtain ⟨cs, h1, h2⟩ := hx i (by omega)
   obtain ⟨_, h3, h4⟩ := World.cells?_some h1
   obtain ⟨v, y, h5, h6, h7⟩ := he _ _ _ _ _ _ _ _ _ h2
   refine ⟨(v, y), fun j hj => ?_, h6, h7⟩
   have := h4 j (by rw [hc]; exact hj)
   rw [Addr.add_add, hc] at this
   rw [this, h5]
  obtain ⟨l, hll, hlp⟩ := choose_list hcell
  subst hll
  have hA : All r (fun _ => False) w (l.map (·.1)) (l.map (·.2)) := ⟨by simp, fun k v x hv hx => by
   rw [List.getElem?_map] at hv hx
   cases hk : l[k]? with
   | none => rw [hk] at hv; cases hv
   | some q => rw [hk] at hv hx; simp at hv hx; subst hv hx; exact (hlp k q hk).2.1⟩
  refine ⟨.slice (some ⟨b, off, spot⟩) l.length cap, l.map (·.2), rfl, ?_, by simp [maxLen] at hm ⊢; omega, fun x hx => ?_⟩
  ·refine ⟨some ⟨b, off, spot⟩, cap, l.map (·.1), by simp, by simpa using hl, by simp [maxLen] at hm ⊢; omega, hA, fun k u hu => ?_⟩
   have hsz := fun v hv => (hA.cells v hv).1
   have hk := (List.getElem?_eq_some_iff.1 hu).1
   rw [flat_length hsz] at hk
   simp only [List.length_map] at hk
   have hi : k / r.sz < l.length := Nat.div_lt_of_lt_mul (by rw [Nat.mul_comm]; exact hk)
   have hj := Nat.mod_lt k r.pos
   have hq : l[k / r.sz]? = some l[k / r.sz] := List.getElem?_eq_getElem hi
   have h1 := (hlp _ _ hq).1 (k % r.sz) hj
   have h2 := flat_get hsz (k := k / r.sz) (v := l[k / r.sz].1) (by rw [List.getElem?_map, hq]; rfl) hj
   rw [Nat.mul_comm, Nat.div_add_mod] at h1 h2
   rw [hu] at h2
   rw [← h2] at h1
   have hspot : spot = none := by
    have h0 : 0 < l.length := Nat.lt_of_le_of_lt (Nat.zero_le _) hi
    have hq0 : l[0]? = some l[0] := List.getElem?_eq_getElem h0
    have h3 := (hlp 0 _ hq0).1 0 r.pos
    have hs0 := r.size (hlp 0 _ hq0).2.1
    rw [List.getElem?_eq_getElem (by rw [Array.length_toList, hs0]; exact r.pos)] at h3
    simpa [Addr.add] using World.cell?_spot h3
   subst hspot
   rw [add_addr] at h1
   exact ⟨b, off, rfl, not_false, World.block_lt_of_cell? w _ h1, h1⟩
  ·obtain ⟨q, hq, rfl⟩ := List.mem_map.1 hx
   obtain ⟨k, hk, rfl⟩ := List.getElem_of_mem hq
   exact (hlp k _ (List.getElem?_eq_getElem hk)).2.2
theorem top_agg {α : Type} {H : Type} {enc : TypeId × Value → H} {w : World} {base b0 : Nat} {spare : Nat → Bool} {held : Bool} {rr : Reach} {v : Value} {d : DataW H} {p : List MemPlace} {t : TypeId} {fs : Array Field} {r : R α} {q : α → Prop} (ht : P.underlying t = some (.struct fs)) (hr : Aggr r) (ho : OpC P t r q)
 (hv : Value.okWide P w rr b0 t v) (h : DataW.Trod enc P w base spare held t v d p) : ∃ y, r.rep (fun _ => False) w v y ∧ q y := by
 obtain ⟨cs, rfl, hsz⟩ := okWide_struct ht hv
 obtain ⟨fuel, hf⟩ := h
 obtain ⟨v, y, h1, h2, h3⟩ := ho _ _ _ _ _ _ _ _ _ hf
 obtain ⟨ds, rfl⟩ := hr _ _ _ _ h2
 simp [Value.cells] at h1
 subst h1
 exact ⟨y, h2, h3⟩
theorem St0.start {w : World} {D : List Fact} (h : ∀ d, d ∈ D → d.p (fun _ => False) w) : St0 (fun _ => False) [] w w [] D := by
 have hE : tot (fun _ => False) [] = (fun _ => False) := by funext b; simp [tot, keysL]
 exact ⟨Chg.refl _ _, by simp, fun d hd => by rw [hE]; exact h d hd, by simp [keysL], by simp [keysL], fun _ h => h.elim⟩
theorem Chg.below {w w' : World} (h : Chg [] w w') : Below w.heap.size w w' := ⟨h.os, h.tape, h.output, h.size, fun k hk => h.block k hk (by simp)⟩
theorem len2 {α : Type} {l : List α} (h : l.length = 2) : ∃ a b, l = [a, b] := by match l, h with | [a, b], _ => exact ⟨a, b, rfl⟩
theorem len4 {α : Type} {l : List α} (h : l.length = 4) : ∃ a b c d, l = [a, b, c, d] := by match l, h with | [a, b, c, d], _ => exact ⟨a, b, c, d, rfl⟩
end
theorem fld {α : Type} {x : Option α} {ys : List α} {i : Nat} (h : x = ys[i]?) (hi : i < ys.length) : ∃ z, x = some z := ⟨ys[i], by rw [h]; exact List.getElem?_eq_getElem hi⟩
end Go.Proofs.Yticjoiolfibmlaa
namespace Go.Proofs.Yticjoiolfibmlaa
open Go.RowKit
open Go.ChangeShapes Go.WideShapes Go.ChangeAt Go.Joins
def wf_api_Stitch (x : api_Stitch) : Prop := (InK .u8) x.Kind ∧ (fun _ => True) x.Purl ∧ (InK .i64) x.A ∧ (InK .i64) x.B
theorem op_api_Stitch : OpC Try.prog 61 r_api_Stitch wf_api_Stitch := fun H enc w base spare held fuel cs x h => by
 obtain ⟨ys, m, _, _, hl, hy, hf⟩ := DataW.trod_struct Try.underlying61 h
 obtain ⟨c0, c1, c2, c3, rfl⟩ := len4 (hl.trans (by kernel_rfl))
 obtain ⟨z0, f0⟩ := fld (hf 0 _ rfl) (by rw [hy]; decide)
 obtain ⟨u0, y0, k0, r0, w0⟩ := (op_int .u8 Try.underlying5) _ _ _ _ _ _ _ _ _ f0
 replace k0 : u0.cells.toList = [c0] := k0.trans (by kernel_rfl)
 obtain rfl : u0 = .int .u8 y0 := r0
 obtain rfl : Value.int .u8 y0 = c0 := by simpa [Value.cells] using k0
 obtain ⟨z1, f1⟩ := fld (hf 1 _ rfl) (by rw [hy]; decide)
 obtain ⟨u1, y1, k1, r1, w1⟩ := (op_bool Try.underlying4) _ _ _ _ _ _ _ _ _ f1
 replace k1 : u1.cells.toList = [c1] := k1.trans (by kernel_rfl)
 obtain rfl : u1 = .bool y1 := r1
 obtain rfl : Value.bool y1 = c1 := by simpa [Value.cells] using k1
 obtain ⟨z2, f2⟩ := fld (hf 2 _ rfl) (by rw [hy]; decide)
 obtain ⟨u2, y2, k2, r2, w2⟩ := (op_int .i64 Try.underlying3) _ _ _ _ _ _ _ _ _ f2
 replace k2 : u2.cells.toList = [c2] := k2.trans (by kernel_rfl)
 obtain rfl : u2 = .int .i64 y2 := r2
 obtain rfl : Value.int .i64 y2 = c2 := by simpa [Value.cells] using k2
 obtain ⟨z3, f3⟩ := fld (hf 3 _ rfl) (by rw [hy]; decide)
 obtain ⟨u3, y3, k3, r3, w3⟩ := (op_int .i64 Try.underlying3) _ _ _ _ _ _ _ _ _ f3
 replace k3 : u3.cells.toList = [c3] := k3.trans (by kernel_rfl)
 obtain rfl : u3 = .int .i64 y3 := r3
 obtain rfl : Value.int .i64 y3 = c3 := by simpa [Value.cells] using k3
 exact ⟨_, ⟨y0, y1, y2, y3⟩, rfl, rfl, ⟨w0, w1, w2, w3⟩⟩
def wf_api_Row (x : api_Row) : Prop := (fun _ => True) x.Back ∧ (Wl wf_api_Stitch) x.Cells
theorem op_api_Row : OpC Try.prog 65 r_api_Row wf_api_Row := fun H enc w base spare held fuel cs x h => by
 obtain ⟨ys, m, _, _, hl, hy, hf⟩ := DataW.trod_struct Try.underlying65 h
 obtain ⟨c0, c1, rfl⟩ := len2 (hl.trans (by kernel_rfl))
 obtain ⟨z0, f0⟩ := fld (hf 0 _ rfl) (by rw [hy]; decide)
 obtain ⟨u0, y0, k0, r0, w0⟩ := (op_bool Try.underlying4) _ _ _ _ _ _ _ _ _ f0
 replace k0 : u0.cells.toList = [c0] := k0.trans (by kernel_rfl)
 obtain rfl : u0 = .bool y0 := r0
 obtain rfl : Value.bool y0 = c0 := by simpa [Value.cells] using k0
 obtain ⟨z1, f1⟩ := fld (hf 1 _ rfl) (by rw [hy]; decide)
 obtain ⟨u1, y1, k1, r1, w1⟩ := (op_slice (r := r_api_Stitch) Try.underlying62 (by kernel_rfl) op_api_Stitch) _ _ _ _ _ _ _ _ _ f1
 replace k1 : u1.cells.toList = [c1] := k1.trans (by kernel_rfl)
 rw [scal_L _ _ _ _ _ r1] at k1
 obtain rfl : u1 = c1 := by simpa using k1
 exact ⟨_, ⟨y0, y1⟩, rfl, ⟨_, rfl, r1⟩, ⟨w0, w1⟩⟩
def wf_api_Chart (x : api_Chart) : Prop := (InK .i64) x.Start ∧ (Wl wf_api_Row) x.Rows
theorem op_api_Chart : OpC Try.prog 24 r_api_Chart wf_api_Chart := fun H enc w base spare held fuel cs x h => by
 obtain ⟨ys, m, _, _, hl, hy, hf⟩ := DataW.trod_struct Try.underlying24 h
 obtain ⟨c0, c1, rfl⟩ := len2 (hl.trans (by kernel_rfl))
 obtain ⟨z0, f0⟩ := fld (hf 0 _ rfl) (by rw [hy]; decide)
 obtain ⟨u0, y0, k0, r0, w0⟩ := (op_int .i64 Try.underlying3) _ _ _ _ _ _ _ _ _ f0
 replace k0 : u0.cells.toList = [c0] := k0.trans (by kernel_rfl)
 obtain rfl : u0 = .int .i64 y0 := r0
 obtain rfl : Value.int .i64 y0 = c0 := by simpa [Value.cells] using k0
 obtain ⟨z1, f1⟩ := fld (hf 1 _ rfl) (by rw [hy]; decide)
 obtain ⟨u1, y1, k1, r1, w1⟩ := (op_slice (r := r_api_Row) Try.underlying22 (by kernel_rfl) op_api_Row) _ _ _ _ _ _ _ _ _ f1
 replace k1 : u1.cells.toList = [c1] := k1.trans (by kernel_rfl)
 rw [scal_L _ _ _ _ _ r1] at k1
 obtain rfl : u1 = c1 := by simpa using k1
 exact ⟨_, ⟨y0, y1⟩, rfl, ⟨_, rfl, r1⟩, ⟨w0, w1⟩⟩
end Go.Proofs.Yticjoiolfibmlaa
namespace Go.Proofs.Yticjoiolfibmlaa
open Go.RowKit
def Le {α : Type} (a b : Option α) : Prop := ∀ r, a = some r → b = some r
theorem Le.rfl {α : Type} (a : Option α) : Le a a := fun _ h => h
theorem Le.bind {α β : Type} {a b : Option α} {f g : α → Option β} (h : Le a b) (hf : ∀ x, Le (f x) (g x)) : Le (Option.bind a f) (Option.bind b g) := by
 intro r hr
 cases ha : a with
 | none => rw [ha] at hr; cases hr
 | some x =>
  rw [ha] at hr
  rw [h x ha]
  exact hf x r hr
theorem Le.ite {α : Type} {c : Prop} [Decidable c] {a b a' b' : Option α} (h : Le a b) (h' : Le a' b') : Le (if c then a else a') (if c then b else b') := by
 by_cases hc : c
 ·rw [if_pos hc, if_pos hc]; exact h
 ·rw [if_neg hc, if_neg hc]; exact h'
theorem Le.sum {α β γ : Type} {f g : α ⊕ β → Option γ} (h : ∀ a, Le (f (.inl a)) (g (.inl a))) (h' : ∀ b, Le (f (.inr b)) (g (.inr b))) : ∀ z, Le (f z) (g z)
 | .inl a => h a
 | .inr b => h' b
theorem Le.prod {α β γ : Type} {f g : α × β → Option γ} (h : ∀ a b, Le (f (a, b)) (g (a, b))) : ∀ z, Le (f z) (g z)
 | (a, b) => h a b
theorem iterO_Le {σ τ : Type} {B B' : σ → Option (σ ⊕ τ)} (h : ∀ s, Le (B s) (B' s)) : ∀ (n : Nat) (s : σ), Le (iterO B n s) (iterO B' n s) := by
 intro n
 induction n with
 | zero => intro s r hr; cases hr
 | succ n ih =>
  intro s r hr
  unfold iterO at hr ⊢
  cases hB : B s with
  | none => rw [hB] at hr; cases hr
  | some x =>
   rw [hB] at hr
   rw [h s x hB]
   cases x with
   | inl s' => exact ih s' r hr
   | inr t => exact hr
def whileK {σ τ : Type} (B : σ → Option (σ ⊕ τ)) (s : σ) : Option τ := iterO B 1000000 s
theorem Le.loop {σ τ : Type} {B B' : σ → Option (σ ⊕ τ)} (s : σ) (h : ∀ s, Le (B s) (B' s)) : Le (whileK B s) (whileO B' s) :=
 fun r hr => whileO_of (iterO_Le h 1000000 s r hr)
noncomputable def F_chart_counted (p0 : api_Chart) : Option api_Chart :=
 some p0
def c_chart_counted_val (r : api_Chart) (x : Value) : Value := .func (.func 52) #[] #[x]
def c_chart_counted_D (r : api_Chart) (x : Value) : List Fact := [fPtr r_api_Chart x r]
theorem c_chart_counted (E : Nat → Prop) (w0 : World) (p0 : api_Chart) (v0 : Value) (r : api_Chart) (h : F_chart_counted p0 = some r) (S : St0 E [] w0 w0 [] [fRep r_api_Chart (v0) p0]) :
 Calls Try.prog 42 #[v0] w0 (Ret (X := Value) E [] w0 (c_chart_counted_val r) (fun _ => []) (c_chart_counted_D r)) := by
 unfold F_chart_counted at h
 obtain ⟨u1, rfl, a9⟩ := S.know (i := 0) (e := fRep r_api_Chart (v0) p0) rfl
 have S := S.learn (fRep (rL r_api_Row) u1 p0.Rows) a9
 obtain ⟨a0, a8, _, rfl, _⟩ := a9
 refine sEnter (args := [.agg #[iv p0.Start, .slice a0 p0.Rows.length a8]]) 4 Try.func42 rfl rfl (by simp) S (fun a S => ?_)
 refine sSeq (fun K5 aa => sRegion (sBox (v := .agg #[iv p0.Start, .slice a0 p0.Rows.length a8]) S (wN rfl) rfl rfl [iv p0.Start, .slice a0 p0.Rows.length a8] rfl rfl (lb rfl) fun a b6 w S => ?_))
 refine sN S fun a S => ?_
 refine lT (aa _ _ (sSeq (fun K7 ab => sRegion (sFunc (g := 52) (vs := [.pointer (some ⟨b6, 0, none⟩)]) S (wN rfl) rfl rfl rfl (lb rfl) fun a S => ?_))))
 refine sN S fun a S => ?_
 refine lT (ab _ _ ?_)
 have S := S.shutB (r := r_api_Chart) (T := 24) (b := b6) (cs := [iv p0.Start, .slice a0 p0.Rows.length a8]) 0 (.agg #[iv p0.Start, .slice a0 p0.Rows.length a8]) p0 rfl rfl (S.mem.know (i := 1) (e := fRep r_api_Chart (.agg #[iv p0.Start, .slice a0 p0.Rows.length a8]) p0) rfl)
 obtain rfl := tS h
 exact wp_ret (sRet (.func (.func 52) #[] #[.pointer (some ⟨b6, 0, none⟩)]) S (rsl1 rfl (rvT (t := 2) (v := .func (.func 52) #[] #[.pointer (some ⟨b6, 0, none⟩)]) S rfl)) ⟨(.pointer (some ⟨b6, 0, none⟩)), rfl, S.mem.sel [] [0] (by decide) rfl rfl⟩)
noncomputable def F_stitch_forms (p0 : Int) : Option (stitch_form × Bool) :=
 Option.bind (α := Bool) (
  if decide (p0 < 1) then
   some true
  else
   some (decide (([(stitch_form.mk (⟨#[]⟩ : ByteArray) (0, 0) (0, 0) true 1 1), (stitch_form.mk (⟨#[]⟩ : ByteArray) (0, 0) (0, 0) false 0 1), (stitch_form.mk (⟨#[102]⟩ : ByteArray) (2, 4) (0, 0) true 2 1), (stitch_form.mk (⟨#[108]⟩ : ByteArray) (2, 4) (0, 0) true 2 1), (stitch_form.mk (⟨#[109]⟩ : ByteArray) (2, 4) (0, 0) true 1 2), (stitch_form.mk (⟨#[120]⟩ : ByteArray) (1, 6) (1, 6) true 3 3), (stitch_form.mk (⟨#[121]⟩ : ByteArray) (1, 6) (1, 6) true 3 3), (stitch_form.mk (⟨#[115]⟩ : ByteArray) (0, 0) (0, 0) true 1 1), (stitch_form.mk (⟨#[]⟩ : ByteArray) (1, 200) (0, 0) false 0 2), (stitch_form.mk (⟨#[111]⟩ : ByteArray) (1, 200) (0, 0) true 2 0)].length : Int) < (IntKind.i64.wrap p0)))) fun a0 =>
 if a0 then
  some ((stitch_form.mk (⟨#[]⟩ : ByteArray) (0, 0) (0, 0) false 0 0), false)
 else
  (idxO [(stitch_form.mk (⟨#[]⟩ : ByteArray) (0, 0) (0, 0) true 1 1), (stitch_form.mk (⟨#[]⟩ : ByteArray) (0, 0) (0, 0) false 0 1), (stitch_form.mk (⟨#[102]⟩ : ByteArray) (2, 4) (0, 0) true 2 1), (stitch_form.mk (⟨#[108]⟩ : ByteArray) (2, 4) (0, 0) true 2 1), (stitch_form.mk (⟨#[109]⟩ : ByteArray) (2, 4) (0, 0) true 1 2), (stitch_form.mk (⟨#[120]⟩ : ByteArray) (1, 6) (1, 6) true 3 3), (stitch_form.mk (⟨#[121]⟩ : ByteArray) (1, 6) (1, 6) true 3 3), (stitch_form.mk (⟨#[115]⟩ : ByteArray) (0, 0) (0, 0) true 1 1), (stitch_form.mk (⟨#[]⟩ : ByteArray) (1, 200) (0, 0) false 0 2), (stitch_form.mk (⟨#[111]⟩ : ByteArray) (1, 200) (0, 0) true 2 0)] (IntKind.u8.wrap (p0 - 1))).bind fun a8 =>
  some (a8, true)
def c_stitch_forms_val (r : (stitch_form × Bool)) (x : Value) : Value := .tuple #[x, .bool r.2]
def c_stitch_forms_D (r : (stitch_form × Bool)) (x : Value) : List Fact := [fRep r_stitch_form x r.1]
theorem c_stitch_forms (E : Nat → Prop) (w0 : World) (p0 : Int) (r : (stitch_form × Bool)) (h : F_stitch_forms p0 = some r) (S : St0 E [] w0 w0 [] []) :
 Calls Try.prog 67 #[.int .u8 p0] w0 (Ret (X := Value) E [] w0 (c_stitch_forms_val r) (fun _ => []) (c_stitch_forms_D r)) := by
 unfold F_stitch_forms at h
 refine sEnter (args := [.int .u8 p0]) 57 Try.func67 rfl rfl (by simp) S (fun a S => ?_)
 refine sSeq (fun K1 al => sRegion (sAlloc (gv_stitch_form (stitch_form.mk (⟨#[]⟩ : ByteArray) (0, 0) (0, 0) false 0 0)) S (wN rfl) rfl rfl (gl_stitch_form (stitch_form.mk (⟨#[]⟩ : ByteArray) (0, 0) (0, 0) false 0 0)) rfl rfl (lb rfl) fun a b2 w S => ?_))
 refine sN S fun a S => ?_
 refine lT (al _ _ (sSeq (fun K3 am => sRegion (sBuild [(0, iv 2), (1, iv 4)] [iv 2, iv 4] S (wN rfl) rfl rfl rfl rfl (lb rfl) fun a S => ?_))))
 refine sBuild [(0, iv 1), (1, iv 6)] [iv 1, iv 6] S (wN rfl) rfl rfl rfl rfl (lb rfl) fun a S => ?_
 refine sAlloc (.agg #[iv 0, iv 0]) S (wN rfl) rfl rfl [iv 0, iv 0] rfl rfl (lb rfl) fun a b4 w S => ?_
 refine sAlloc (.agg #[iv 0, iv 0]) S (wN rfl) rfl rfl [iv 0, iv 0] rfl rfl (lb rfl) fun a b5 w S => ?_
 refine sStore (p := b4) (off := 0) (T := 49) (vs := [iv 0, iv 0]) (v := .agg #[iv 2, iv 4]) 1 [iv 2, iv 4] S (wN rfl) rfl rfl rfl rfl rfl rfl rfl (by simp) rfl fun a w S => ?_
 refine sStore (p := b5) (off := 0) (T := 49) (vs := [iv 0, iv 0]) (v := .agg #[iv 1, iv 6]) 1 [iv 1, iv 6] S (wN rfl) rfl rfl rfl rfl rfl rfl rfl (by simp) rfl fun a w S => ?_
 refine lT (am _ _ (sSeq (fun K6 ao => sRegion (sBuild [(0, iv 1), (1, iv 200)] [iv 1, iv 200] S (wN rfl) rfl rfl rfl rfl (lb rfl) fun a S => ?_))))
 refine sAlloc (.agg #[iv 0, iv 0]) S (wN rfl) rfl rfl [iv 0, iv 0] rfl rfl (lb rfl) fun a b7 w S => ?_
 refine sStore (p := b7) (off := 0) (T := 49) (vs := [iv 0, iv 0]) (v := .agg #[iv 1, iv 200]) 0 [iv 1, iv 200] S (wN rfl) rfl rfl rfl rfl rfl rfl rfl (by simp) rfl fun a w S => ?_
 refine lT (ao _ _ (sSeq (fun K8 ap => sRegion (sBuild [] [iv 0, iv 0] S (wN rfl) rfl rfl rfl rfl (lb rfl) fun a S => ?_))))
 refine sBuild [] [iv 0, iv 0] S (wN rfl) rfl rfl rfl rfl (lb rfl) fun a S => ?_
 refine sBuild [(0, .string (⟨#[]⟩ : ByteArray)), (1, .agg #[iv 0, iv 0]), (2, .agg #[iv 0, iv 0]), (3, .bool true), (4, iv 1), (5, iv 1)] (gl_stitch_form (stitch_form.mk (⟨#[]⟩ : ByteArray) (0, 0) (0, 0) true 1 1)) S (wN rfl) rfl rfl rfl rfl (lb rfl) fun a S => ?_
 refine sBuild [] [iv 0, iv 0] S (wN rfl) rfl rfl rfl rfl (lb rfl) fun a S => ?_
 refine sBuild [] [iv 0, iv 0] S (wN rfl) rfl rfl rfl rfl (lb rfl) fun a S => ?_
 refine sBuild [(0, .string (⟨#[]⟩ : ByteArray)), (1, .agg #[iv 0, iv 0]), (2, .agg #[iv 0, iv 0]), (3, .bool false), (4, iv 0), (5, iv 1)] (gl_stitch_form (stitch_form.mk (⟨#[]⟩ : ByteArray) (0, 0) (0, 0) false 0 1)) S (wN rfl) rfl rfl rfl rfl (lb rfl) fun a S => ?_
 refine sLoadN (p := b4) (off := 0) (T := 49) (vs := [iv 2, iv 4]) 2 [iv 2, iv 4] S (wN rfl) rfl rfl rfl rfl rfl rfl rfl (lb rfl) fun a S => ?_
 refine sBuild [] [iv 0, iv 0] S (wN rfl) rfl rfl rfl rfl (lb rfl) fun a S => ?_
 refine sBuild [(0, .string (⟨#[102]⟩ : ByteArray)), (1, .agg #[iv 2, iv 4]), (2, .agg #[iv 0, iv 0]), (3, .bool true), (4, iv 2), (5, iv 1)] (gl_stitch_form (stitch_form.mk (⟨#[102]⟩ : ByteArray) (2, 4) (0, 0) true 2 1)) S (wN rfl) rfl rfl rfl rfl (lb rfl) fun a S => ?_
 refine sLoadN (p := b4) (off := 0) (T := 49) (vs := [iv 2, iv 4]) 2 [iv 2, iv 4] S (wN rfl) rfl rfl rfl rfl rfl rfl rfl (lb rfl) fun a S => ?_
 refine sBuild [] [iv 0, iv 0] S (wN rfl) rfl rfl rfl rfl (lb rfl) fun a S => ?_
 refine sBuild [(0, .string (⟨#[108]⟩ : ByteArray)), (1, .agg #[iv 2, iv 4]), (2, .agg #[iv 0, iv 0]), (3, .bool true), (4, iv 2), (5, iv 1)] (gl_stitch_form (stitch_form.mk (⟨#[108]⟩ : ByteArray) (2, 4) (0, 0) true 2 1)) S (wN rfl) rfl rfl rfl rfl (lb rfl) fun a S => ?_
 refine sLoadN (p := b4) (off := 0) (T := 49) (vs := [iv 2, iv 4]) 2 [iv 2, iv 4] S (wN rfl) rfl rfl rfl rfl rfl rfl rfl (lb rfl) fun a S => ?_
 refine sBuild [] [iv 0, iv 0] S (wN rfl) rfl rfl rfl rfl (lb rfl) fun a S => ?_
 refine sBuild [(0, .string (⟨#[109]⟩ : ByteArray)), (1, .agg #[iv 2, iv 4]), (2, .agg #[iv 0, iv 0]), (3, .bool true), (4, iv 1), (5, iv 2)] (gl_stitch_form (stitch_form.mk (⟨#[109]⟩ : ByteArray) (2, 4) (0, 0) true 1 2)) S (wN rfl) rfl rfl rfl rfl (lb rfl) fun a S => ?_
 refine sLoadN (p := b5) (off := 0) (T := 49) (vs := [iv 1, iv 6]) 1 [iv 1, iv 6] S (wN rfl) rfl rfl rfl rfl rfl rfl rfl (lb rfl) fun a S => ?_
 refine sLoadN (p := b5) (off := 0) (T := 49) (vs := [iv 1, iv 6]) 1 [iv 1, iv 6] S (wN rfl) rfl rfl rfl rfl rfl rfl rfl (lb rfl) fun a S => ?_
 refine sBuild [(0, .string (⟨#[120]⟩ : ByteArray)), (1, .agg #[iv 1, iv 6]), (2, .agg #[iv 1, iv 6]), (3, .bool true), (4, iv 3), (5, iv 3)] (gl_stitch_form (stitch_form.mk (⟨#[120]⟩ : ByteArray) (1, 6) (1, 6) true 3 3)) S (wN rfl) rfl rfl rfl rfl (lb rfl) fun a S => ?_
 refine sLoadN (p := b5) (off := 0) (T := 49) (vs := [iv 1, iv 6]) 1 [iv 1, iv 6] S (wN rfl) rfl rfl rfl rfl rfl rfl rfl (lb rfl) fun a S => ?_
 refine sLoadN (p := b5) (off := 0) (T := 49) (vs := [iv 1, iv 6]) 1 [iv 1, iv 6] S (wN rfl) rfl rfl rfl rfl rfl rfl rfl (lb rfl) fun a S => ?_
 refine sBuild [(0, .string (⟨#[121]⟩ : ByteArray)), (1, .agg #[iv 1, iv 6]), (2, .agg #[iv 1, iv 6]), (3, .bool true), (4, iv 3), (5, iv 3)] (gl_stitch_form (stitch_form.mk (⟨#[121]⟩ : ByteArray) (1, 6) (1, 6) true 3 3)) S (wN rfl) rfl rfl rfl rfl (lb rfl) fun a S => ?_
 refine sBuild [] [iv 0, iv 0] S (wN rfl) rfl rfl rfl rfl (lb rfl) fun a S => ?_
 refine sBuild [] [iv 0, iv 0] S (wN rfl) rfl rfl rfl rfl (lb rfl) fun a S => ?_
 refine sBuild [(0, .string (⟨#[115]⟩ : ByteArray)), (1, .agg #[iv 0, iv 0]), (2, .agg #[iv 0, iv 0]), (3, .bool true), (4, iv 1), (5, iv 1)] (gl_stitch_form (stitch_form.mk (⟨#[115]⟩ : ByteArray) (0, 0) (0, 0) true 1 1)) S (wN rfl) rfl rfl rfl rfl (lb rfl) fun a S => ?_
 refine sLoadN (p := b7) (off := 0) (T := 49) (vs := [iv 1, iv 200]) 0 [iv 1, iv 200] S (wN rfl) rfl rfl rfl rfl rfl rfl rfl (lb rfl) fun a S => ?_
 refine sBuild [] [iv 0, iv 0] S (wN rfl) rfl rfl rfl rfl (lb rfl) fun a S => ?_
 refine sBuild [(0, .string (⟨#[]⟩ : ByteArray)), (1, .agg #[iv 1, iv 200]), (2, .agg #[iv 0, iv 0]), (3, .bool false), (4, iv 0), (5, iv 2)] (gl_stitch_form (stitch_form.mk (⟨#[]⟩ : ByteArray) (1, 200) (0, 0) false 0 2)) S (wN rfl) rfl rfl rfl rfl (lb rfl) fun a S => ?_
 refine sLoadN (p := b7) (off := 0) (T := 49) (vs := [iv 1, iv 200]) 0 [iv 1, iv 200] S (wN rfl) rfl rfl rfl rfl rfl rfl rfl (lb rfl) fun a S => ?_
 refine sBuild [] [iv 0, iv 0] S (wN rfl) rfl rfl rfl rfl (lb rfl) fun a S => ?_
 refine sBuild [(0, .string (⟨#[111]⟩ : ByteArray)), (1, .agg #[iv 1, iv 200]), (2, .agg #[iv 0, iv 0]), (3, .bool true), (4, iv 2), (5, iv 0)] (gl_stitch_form (stitch_form.mk (⟨#[111]⟩ : ByteArray) (1, 200) (0, 0) true 2 0)) S (wN rfl) rfl rfl rfl rfl (lb rfl) fun a S => ?_
 have S := S.learn (fRep r_stitch_form (gv_stitch_form (stitch_form.mk (⟨#[]⟩ : ByteArray) (0, 0) (0, 0) true 1 1)) (stitch_form.mk (⟨#[]⟩ : ByteArray) (0, 0) (0, 0) true 1 1)) rfl
 have S := S.learn (fRep r_stitch_form (gv_stitch_form (stitch_form.mk (⟨#[]⟩ : ByteArray) (0, 0) (0, 0) false 0 1)) (stitch_form.mk (⟨#[]⟩ : ByteArray) (0, 0) (0, 0) false 0 1)) rfl
 have S := S.learn (fRep r_stitch_form (gv_stitch_form (stitch_form.mk (⟨#[102]⟩ : ByteArray) (2, 4) (0, 0) true 2 1)) (stitch_form.mk (⟨#[102]⟩ : ByteArray) (2, 4) (0, 0) true 2 1)) rfl
 have S := S.learn (fRep r_stitch_form (gv_stitch_form (stitch_form.mk (⟨#[108]⟩ : ByteArray) (2, 4) (0, 0) true 2 1)) (stitch_form.mk (⟨#[108]⟩ : ByteArray) (2, 4) (0, 0) true 2 1)) rfl
 have S := S.learn (fRep r_stitch_form (gv_stitch_form (stitch_form.mk (⟨#[109]⟩ : ByteArray) (2, 4) (0, 0) true 1 2)) (stitch_form.mk (⟨#[109]⟩ : ByteArray) (2, 4) (0, 0) true 1 2)) rfl
 have S := S.learn (fRep r_stitch_form (gv_stitch_form (stitch_form.mk (⟨#[120]⟩ : ByteArray) (1, 6) (1, 6) true 3 3)) (stitch_form.mk (⟨#[120]⟩ : ByteArray) (1, 6) (1, 6) true 3 3)) rfl
 have S := S.learn (fRep r_stitch_form (gv_stitch_form (stitch_form.mk (⟨#[121]⟩ : ByteArray) (1, 6) (1, 6) true 3 3)) (stitch_form.mk (⟨#[121]⟩ : ByteArray) (1, 6) (1, 6) true 3 3)) rfl
 have S := S.learn (fRep r_stitch_form (gv_stitch_form (stitch_form.mk (⟨#[115]⟩ : ByteArray) (0, 0) (0, 0) true 1 1)) (stitch_form.mk (⟨#[115]⟩ : ByteArray) (0, 0) (0, 0) true 1 1)) rfl
 have S := S.learn (fRep r_stitch_form (gv_stitch_form (stitch_form.mk (⟨#[]⟩ : ByteArray) (1, 200) (0, 0) false 0 2)) (stitch_form.mk (⟨#[]⟩ : ByteArray) (1, 200) (0, 0) false 0 2)) rfl
 have S := S.learn (fRep r_stitch_form (gv_stitch_form (stitch_form.mk (⟨#[111]⟩ : ByteArray) (1, 200) (0, 0) true 2 0)) (stitch_form.mk (⟨#[111]⟩ : ByteArray) (1, 200) (0, 0) true 2 0)) rfl
 refine sLit (r := r_stitch_form) (T := 115) (xs := [(stitch_form.mk (⟨#[]⟩ : ByteArray) (0, 0) (0, 0) true 1 1), (stitch_form.mk (⟨#[]⟩ : ByteArray) (0, 0) (0, 0) false 0 1), (stitch_form.mk (⟨#[102]⟩ : ByteArray) (2, 4) (0, 0) true 2 1), (stitch_form.mk (⟨#[108]⟩ : ByteArray) (2, 4) (0, 0) true 2 1), (stitch_form.mk (⟨#[109]⟩ : ByteArray) (2, 4) (0, 0) true 1 2), (stitch_form.mk (⟨#[120]⟩ : ByteArray) (1, 6) (1, 6) true 3 3), (stitch_form.mk (⟨#[121]⟩ : ByteArray) (1, 6) (1, 6) true 3 3), (stitch_form.mk (⟨#[115]⟩ : ByteArray) (0, 0) (0, 0) true 1 1), (stitch_form.mk (⟨#[]⟩ : ByteArray) (1, 200) (0, 0) false 0 2), (stitch_form.mk (⟨#[111]⟩ : ByteArray) (1, 200) (0, 0) true 2 0)]) [(0, gv_stitch_form (stitch_form.mk (⟨#[]⟩ : ByteArray) (0, 0) (0, 0) true 1 1)), (1, gv_stitch_form (stitch_form.mk (⟨#[]⟩ : ByteArray) (0, 0) (0, 0) false 0 1)), (2, gv_stitch_form (stitch_form.mk (⟨#[102]⟩ : ByteArray) (2, 4) (0, 0) true 2 1)), (3, gv_stitch_form (stitch_form.mk (⟨#[108]⟩ : ByteArray) (2, 4) (0, 0) true 2 1)), (4, gv_stitch_form (stitch_form.mk (⟨#[109]⟩ : ByteArray) (2, 4) (0, 0) true 1 2)), (5, gv_stitch_form (stitch_form.mk (⟨#[120]⟩ : ByteArray) (1, 6) (1, 6) true 3 3)), (6, gv_stitch_form (stitch_form.mk (⟨#[121]⟩ : ByteArray) (1, 6) (1, 6) true 3 3)), (7, gv_stitch_form (stitch_form.mk (⟨#[115]⟩ : ByteArray) (0, 0) (0, 0) true 1 1)), (8, gv_stitch_form (stitch_form.mk (⟨#[]⟩ : ByteArray) (1, 200) (0, 0) false 0 2)), (9, gv_stitch_form (stitch_form.mk (⟨#[111]⟩ : ByteArray) (1, 200) (0, 0) true 2 0))] 10 [gv_stitch_form (stitch_form.mk (⟨#[]⟩ : ByteArray) (0, 0) (0, 0) true 1 1), gv_stitch_form (stitch_form.mk (⟨#[]⟩ : ByteArray) (0, 0) (0, 0) false 0 1), gv_stitch_form (stitch_form.mk (⟨#[102]⟩ : ByteArray) (2, 4) (0, 0) true 2 1), gv_stitch_form (stitch_form.mk (⟨#[108]⟩ : ByteArray) (2, 4) (0, 0) true 2 1), gv_stitch_form (stitch_form.mk (⟨#[109]⟩ : ByteArray) (2, 4) (0, 0) true 1 2), gv_stitch_form (stitch_form.mk (⟨#[120]⟩ : ByteArray) (1, 6) (1, 6) true 3 3), gv_stitch_form (stitch_form.mk (⟨#[121]⟩ : ByteArray) (1, 6) (1, 6) true 3 3), gv_stitch_form (stitch_form.mk (⟨#[115]⟩ : ByteArray) (0, 0) (0, 0) true 1 1), gv_stitch_form (stitch_form.mk (⟨#[]⟩ : ByteArray) (1, 200) (0, 0) false 0 2), gv_stitch_form (stitch_form.mk (⟨#[111]⟩ : ByteArray) (1, 200) (0, 0) true 2 0)] [.string (⟨#[]⟩ : ByteArray), iv 0, iv 0, iv 0, iv 0, .bool true, iv 1, iv 1, .string (⟨#[]⟩ : ByteArray), iv 0, iv 0, iv 0, iv 0, .bool false, iv 0, iv 1, .string (⟨#[102]⟩ : ByteArray), iv 2, iv 4, iv 0, iv 0, .bool true, iv 2, iv 1, .string (⟨#[108]⟩ : ByteArray), iv 2, iv 4, iv 0, iv 0, .bool true, iv 2, iv 1, .string (⟨#[109]⟩ : ByteArray), iv 2, iv 4, iv 0, iv 0, .bool true, iv 1, iv 2, .string (⟨#[120]⟩ : ByteArray), iv 1, iv 6, iv 1, iv 6, .bool true, iv 3, iv 3, .string (⟨#[121]⟩ : ByteArray), iv 1, iv 6, iv 1, iv 6, .bool true, iv 3, iv 3, .string (⟨#[115]⟩ : ByteArray), iv 0, iv 0, iv 0, iv 0, .bool true, iv 1, iv 1, .string (⟨#[]⟩ : ByteArray), iv 1, iv 200, iv 0, iv 0, .bool false, iv 0, iv 2, .string (⟨#[111]⟩ : ByteArray), iv 1, iv 200, iv 0, iv 0, .bool true, iv 2, iv 0] (gv_stitch_form (stitch_form.mk (⟨#[]⟩ : ByteArray) (0, 0) (0, 0) false 0 0)) 72 S (wN rfl) rfl rfl Try.underlying124 rfl (by decide) (by decide) (by kernel_rfl) rfl (fun E1 w1 hE => All.cons (r_stitch_form.mono hE (S.mem.know (i := 9) (e := fRep r_stitch_form (gv_stitch_form (stitch_form.mk (⟨#[]⟩ : ByteArray) (0, 0) (0, 0) true 1 1)) (stitch_form.mk (⟨#[]⟩ : ByteArray) (0, 0) (0, 0) true 1 1)) rfl)) (All.cons (r_stitch_form.mono hE (S.mem.know (i := 8) (e := fRep r_stitch_form (gv_stitch_form (stitch_form.mk (⟨#[]⟩ : ByteArray) (0, 0) (0, 0) false 0 1)) (stitch_form.mk (⟨#[]⟩ : ByteArray) (0, 0) (0, 0) false 0 1)) rfl)) (All.cons (r_stitch_form.mono hE (S.mem.know (i := 7) (e := fRep r_stitch_form (gv_stitch_form (stitch_form.mk (⟨#[102]⟩ : ByteArray) (2, 4) (0, 0) true 2 1)) (stitch_form.mk (⟨#[102]⟩ : ByteArray) (2, 4) (0, 0) true 2 1)) rfl)) (All.cons (r_stitch_form.mono hE (S.mem.know (i := 6) (e := fRep r_stitch_form (gv_stitch_form (stitch_form.mk (⟨#[108]⟩ : ByteArray) (2, 4) (0, 0) true 2 1)) (stitch_form.mk (⟨#[108]⟩ : ByteArray) (2, 4) (0, 0) true 2 1)) rfl)) (All.cons (r_stitch_form.mono hE (S.mem.know (i := 5) (e := fRep r_stitch_form (gv_stitch_form (stitch_form.mk (⟨#[109]⟩ : ByteArray) (2, 4) (0, 0) true 1 2)) (stitch_form.mk (⟨#[109]⟩ : ByteArray) (2, 4) (0, 0) true 1 2)) rfl)) (All.cons (r_stitch_form.mono hE (S.mem.know (i := 4) (e := fRep r_stitch_form (gv_stitch_form (stitch_form.mk (⟨#[120]⟩ : ByteArray) (1, 6) (1, 6) true 3 3)) (stitch_form.mk (⟨#[120]⟩ : ByteArray) (1, 6) (1, 6) true 3 3)) rfl)) (All.cons (r_stitch_form.mono hE (S.mem.know (i := 3) (e := fRep r_stitch_form (gv_stitch_form (stitch_form.mk (⟨#[121]⟩ : ByteArray) (1, 6) (1, 6) true 3 3)) (stitch_form.mk (⟨#[121]⟩ : ByteArray) (1, 6) (1, 6) true 3 3)) rfl)) (All.cons (r_stitch_form.mono hE (S.mem.know (i := 2) (e := fRep r_stitch_form (gv_stitch_form (stitch_form.mk (⟨#[115]⟩ : ByteArray) (0, 0) (0, 0) true 1 1)) (stitch_form.mk (⟨#[115]⟩ : ByteArray) (0, 0) (0, 0) true 1 1)) rfl)) (All.cons (r_stitch_form.mono hE (S.mem.know (i := 1) (e := fRep r_stitch_form (gv_stitch_form (stitch_form.mk (⟨#[]⟩ : ByteArray) (1, 200) (0, 0) false 0 2)) (stitch_form.mk (⟨#[]⟩ : ByteArray) (1, 200) (0, 0) false 0 2)) rfl)) (All.cons (r_stitch_form.mono hE (S.mem.know (i := 0) (e := fRep r_stitch_form (gv_stitch_form (stitch_form.mk (⟨#[111]⟩ : ByteArray) (1, 200) (0, 0) true 2 0)) (stitch_form.mk (⟨#[111]⟩ : ByteArray) (1, 200) (0, 0) true 2 0)) rfl)) (All.nil _ _ _))))))))))) rfl rfl (lb rfl) fun a w ab a9 S => ?_
 refine sN S fun a S => ?_
 refine lT (ap _ _ (sSeq (fun au ac => ?_)))
 obtain ⟨aq, h, ar⟩ := bS h
 refine sCut (fun a w => ∃ ae, ae = aq ∧ St [] E [] w0 57 a w [(0, .int .u8 p0), (2, .pointer (some ⟨b2, 0, none⟩)), (7, .slice ab [(stitch_form.mk (⟨#[]⟩ : ByteArray) (0, 0) (0, 0) true 1 1), (stitch_form.mk (⟨#[]⟩ : ByteArray) (0, 0) (0, 0) false 0 1), (stitch_form.mk (⟨#[102]⟩ : ByteArray) (2, 4) (0, 0) true 2 1), (stitch_form.mk (⟨#[108]⟩ : ByteArray) (2, 4) (0, 0) true 2 1), (stitch_form.mk (⟨#[109]⟩ : ByteArray) (2, 4) (0, 0) true 1 2), (stitch_form.mk (⟨#[120]⟩ : ByteArray) (1, 6) (1, 6) true 3 3), (stitch_form.mk (⟨#[121]⟩ : ByteArray) (1, 6) (1, 6) true 3 3), (stitch_form.mk (⟨#[115]⟩ : ByteArray) (0, 0) (0, 0) true 1 1), (stitch_form.mk (⟨#[]⟩ : ByteArray) (1, 200) (0, 0) false 0 2), (stitch_form.mk (⟨#[111]⟩ : ByteArray) (1, 200) (0, 0) true 2 0)].length a9), (50, .bool ae)] [eBox b2 115 (gl_stitch_form (stitch_form.mk (⟨#[]⟩ : ByteArray) (0, 0) (0, 0) false 0 0)), eRow r_stitch_form 115 (.slice ab [(stitch_form.mk (⟨#[]⟩ : ByteArray) (0, 0) (0, 0) true 1 1), (stitch_form.mk (⟨#[]⟩ : ByteArray) (0, 0) (0, 0) false 0 1), (stitch_form.mk (⟨#[102]⟩ : ByteArray) (2, 4) (0, 0) true 2 1), (stitch_form.mk (⟨#[108]⟩ : ByteArray) (2, 4) (0, 0) true 2 1), (stitch_form.mk (⟨#[109]⟩ : ByteArray) (2, 4) (0, 0) true 1 2), (stitch_form.mk (⟨#[120]⟩ : ByteArray) (1, 6) (1, 6) true 3 3), (stitch_form.mk (⟨#[121]⟩ : ByteArray) (1, 6) (1, 6) true 3 3), (stitch_form.mk (⟨#[115]⟩ : ByteArray) (0, 0) (0, 0) true 1 1), (stitch_form.mk (⟨#[]⟩ : ByteArray) (1, 200) (0, 0) false 0 2), (stitch_form.mk (⟨#[111]⟩ : ByteArray) (1, 200) (0, 0) true 2 0)].length a9) [(stitch_form.mk (⟨#[]⟩ : ByteArray) (0, 0) (0, 0) true 1 1), (stitch_form.mk (⟨#[]⟩ : ByteArray) (0, 0) (0, 0) false 0 1), (stitch_form.mk (⟨#[102]⟩ : ByteArray) (2, 4) (0, 0) true 2 1), (stitch_form.mk (⟨#[108]⟩ : ByteArray) (2, 4) (0, 0) true 2 1), (stitch_form.mk (⟨#[109]⟩ : ByteArray) (2, 4) (0, 0) true 1 2), (stitch_form.mk (⟨#[120]⟩ : ByteArray) (1, 6) (1, 6) true 3 3), (stitch_form.mk (⟨#[121]⟩ : ByteArray) (1, 6) (1, 6) true 3 3), (stitch_form.mk (⟨#[115]⟩ : ByteArray) (0, 0) (0, 0) true 1 1), (stitch_form.mk (⟨#[]⟩ : ByteArray) (1, 200) (0, 0) false 0 2), (stitch_form.mk (⟨#[111]⟩ : ByteArray) (1, 200) (0, 0) true 2 0)]] []) ?_ (fun a w hI => ?_)
 ·refine sRegion (sM S fun a S => ?_)
  refine sBin _ S (wN rfl) rfl rfl rfl (bLt _ _ _ _ .u8 p0 1) rfl (lb rfl) fun a S => ?_
  refine sM S fun a S => ?_
  rcases iS h with ⟨a8, h⟩ | ⟨a8, h⟩
  ·refine sSkN 5 2 false 44 S rfl rfl a8 rfl fun a S => ?_
   refine sPickT (.bool true) S (wN rfl) rfl rfl a8 rfl rfl (lb rfl) fun a S => ?_
   exact lT (⟨true, Option.some.inj h, S.fix [4, 0] [] (by decide) rfl rfl rfl⟩)
  refine sMove (.int .u8 p0) S (wG 2 false 44 rfl rfl rfl a8) (.inl rfl) rfl rfl (lb rfl) fun a S => ?_
  refine sConv (k := .u8) (k2 := .i64) (b := p0) S (wG 2 false 44 rfl rfl rfl a8) rfl Try.underlying5 Try.underlying3 rfl rfl (lb rfl) fun a S => ?_
  refine sMove (.slice ab [(stitch_form.mk (⟨#[]⟩ : ByteArray) (0, 0) (0, 0) true 1 1), (stitch_form.mk (⟨#[]⟩ : ByteArray) (0, 0) (0, 0) false 0 1), (stitch_form.mk (⟨#[102]⟩ : ByteArray) (2, 4) (0, 0) true 2 1), (stitch_form.mk (⟨#[108]⟩ : ByteArray) (2, 4) (0, 0) true 2 1), (stitch_form.mk (⟨#[109]⟩ : ByteArray) (2, 4) (0, 0) true 1 2), (stitch_form.mk (⟨#[120]⟩ : ByteArray) (1, 6) (1, 6) true 3 3), (stitch_form.mk (⟨#[121]⟩ : ByteArray) (1, 6) (1, 6) true 3 3), (stitch_form.mk (⟨#[115]⟩ : ByteArray) (0, 0) (0, 0) true 1 1), (stitch_form.mk (⟨#[]⟩ : ByteArray) (1, 200) (0, 0) false 0 2), (stitch_form.mk (⟨#[111]⟩ : ByteArray) (1, 200) (0, 0) true 2 0)].length a9) S (wG 2 false 44 rfl rfl rfl a8) (.inl rfl) rfl rfl (lb rfl) fun a S => ?_
  refine sLen S (wG 2 false 44 rfl rfl rfl a8) rfl Try.underlying124 rfl rfl (lb rfl) fun a S => ?_
  refine sBin _ S (wG 2 false 44 rfl rfl rfl a8) rfl rfl rfl (bGt _ _ _ _ .i64 (IntKind.i64.wrap p0) ([(stitch_form.mk (⟨#[]⟩ : ByteArray) (0, 0) (0, 0) true 1 1), (stitch_form.mk (⟨#[]⟩ : ByteArray) (0, 0) (0, 0) false 0 1), (stitch_form.mk (⟨#[102]⟩ : ByteArray) (2, 4) (0, 0) true 2 1), (stitch_form.mk (⟨#[108]⟩ : ByteArray) (2, 4) (0, 0) true 2 1), (stitch_form.mk (⟨#[109]⟩ : ByteArray) (2, 4) (0, 0) true 1 2), (stitch_form.mk (⟨#[120]⟩ : ByteArray) (1, 6) (1, 6) true 3 3), (stitch_form.mk (⟨#[121]⟩ : ByteArray) (1, 6) (1, 6) true 3 3), (stitch_form.mk (⟨#[115]⟩ : ByteArray) (0, 0) (0, 0) true 1 1), (stitch_form.mk (⟨#[]⟩ : ByteArray) (1, 200) (0, 0) false 0 2), (stitch_form.mk (⟨#[111]⟩ : ByteArray) (1, 200) (0, 0) true 2 0)].length : Int)) rfl (lb rfl) fun a S => ?_
  refine sPickF (.bool (decide (([(stitch_form.mk (⟨#[]⟩ : ByteArray) (0, 0) (0, 0) true 1 1), (stitch_form.mk (⟨#[]⟩ : ByteArray) (0, 0) (0, 0) false 0 1), (stitch_form.mk (⟨#[102]⟩ : ByteArray) (2, 4) (0, 0) true 2 1), (stitch_form.mk (⟨#[108]⟩ : ByteArray) (2, 4) (0, 0) true 2 1), (stitch_form.mk (⟨#[109]⟩ : ByteArray) (2, 4) (0, 0) true 1 2), (stitch_form.mk (⟨#[120]⟩ : ByteArray) (1, 6) (1, 6) true 3 3), (stitch_form.mk (⟨#[121]⟩ : ByteArray) (1, 6) (1, 6) true 3 3), (stitch_form.mk (⟨#[115]⟩ : ByteArray) (0, 0) (0, 0) true 1 1), (stitch_form.mk (⟨#[]⟩ : ByteArray) (1, 200) (0, 0) false 0 2), (stitch_form.mk (⟨#[111]⟩ : ByteArray) (1, 200) (0, 0) true 2 0)].length : Int) < (IntKind.i64.wrap p0)))) S (wN rfl) rfl rfl a8 rfl rfl (lb rfl) fun a S => ?_
  exact lT (⟨decide (([(stitch_form.mk (⟨#[]⟩ : ByteArray) (0, 0) (0, 0) true 1 1), (stitch_form.mk (⟨#[]⟩ : ByteArray) (0, 0) (0, 0) false 0 1), (stitch_form.mk (⟨#[102]⟩ : ByteArray) (2, 4) (0, 0) true 2 1), (stitch_form.mk (⟨#[108]⟩ : ByteArray) (2, 4) (0, 0) true 2 1), (stitch_form.mk (⟨#[109]⟩ : ByteArray) (2, 4) (0, 0) true 1 2), (stitch_form.mk (⟨#[120]⟩ : ByteArray) (1, 6) (1, 6) true 3 3), (stitch_form.mk (⟨#[121]⟩ : ByteArray) (1, 6) (1, 6) true 3 3), (stitch_form.mk (⟨#[115]⟩ : ByteArray) (0, 0) (0, 0) true 1 1), (stitch_form.mk (⟨#[]⟩ : ByteArray) (1, 200) (0, 0) false 0 2), (stitch_form.mk (⟨#[111]⟩ : ByteArray) (1, 200) (0, 0) true 2 0)].length : Int) < (IntKind.i64.wrap p0)), Option.some.inj h, S.fix [4, 0] [] (by decide) rfl rfl rfl⟩)
 obtain ⟨ae, rfl, S⟩ := hI
 have h := ar
 try dsimp only at h
 rcases iS h with ⟨aa, h⟩ | ⟨aa, h⟩
 ·refine sCondT S rfl aa ?_
  refine sSeq (fun av af => sRegion (sBuild [] (gl_stitch_form (stitch_form.mk (⟨#[]⟩ : ByteArray) (0, 0) (0, 0) false 0 0)) S (wN rfl) rfl rfl rfl rfl (lb rfl) fun a S => ?_))
  refine sStore (p := b2) (off := 0) (T := 115) (vs := [.string (⟨#[]⟩ : ByteArray), iv 0, iv 0, iv 0, iv 0, .bool false, iv 0, iv 0]) (v := gv_stitch_form (stitch_form.mk (⟨#[]⟩ : ByteArray) (0, 0) (0, 0) false 0 0)) 0 [.string (⟨#[]⟩ : ByteArray), iv 0, iv 0, iv 0, iv 0, .bool false, iv 0, iv 0] S (wN rfl) rfl rfl rfl rfl rfl rfl rfl (by simp) rfl fun a w S => ?_
  refine sN S fun a S => ?_
  refine lT (af _ _ ?_)
  obtain rfl := tS h
  have S := S.learn (fRep r_stitch_form (gv_stitch_form (stitch_form.mk (⟨#[]⟩ : ByteArray) (0, 0) (0, 0) false 0 0)) (stitch_form.mk (⟨#[]⟩ : ByteArray) (0, 0) (0, 0) false 0 0)) rfl
  exact wp_ret (rThen (sRet (.tuple #[gv_stitch_form (stitch_form.mk (⟨#[]⟩ : ByteArray) (0, 0) (0, 0) false 0 0), .bool false]) S (rsl2 rfl (rvN (c := 2) (t := 115) (T := 115) (p := b2) 0 [.string (⟨#[]⟩ : ByteArray), iv 0, iv 0, iv 0, iv 0, .bool false, iv 0, iv 0] S rfl rfl rfl rfl) (rvT (t := 3) (v := .bool false) S rfl)) ⟨(gv_stitch_form (stitch_form.mk (⟨#[]⟩ : ByteArray) (0, 0) (0, 0) false 0 0)), rfl, S.mem.sel [] [0] (by decide) rfl rfl⟩))
 refine sCondF S rfl aa ?_
 refine wp_skip (leafT (ac _ _ ?_))
 refine sSeq (fun aw ag => sRegion (sM S fun a S => ?_))
 refine sM S fun a S => ?_
 refine sBin _ S (wN rfl) rfl rfl rfl (bSubK _ _ _ _ .u8 p0 1) rfl (lb rfl) fun a S => ?_
 obtain ⟨a0, ah, h⟩ := bS h
 have S := S.shutR (r := r_stitch_form) (T := 115) (v := .slice ab [(stitch_form.mk (⟨#[]⟩ : ByteArray) (0, 0) (0, 0) true 1 1), (stitch_form.mk (⟨#[]⟩ : ByteArray) (0, 0) (0, 0) false 0 1), (stitch_form.mk (⟨#[102]⟩ : ByteArray) (2, 4) (0, 0) true 2 1), (stitch_form.mk (⟨#[108]⟩ : ByteArray) (2, 4) (0, 0) true 2 1), (stitch_form.mk (⟨#[109]⟩ : ByteArray) (2, 4) (0, 0) true 1 2), (stitch_form.mk (⟨#[120]⟩ : ByteArray) (1, 6) (1, 6) true 3 3), (stitch_form.mk (⟨#[121]⟩ : ByteArray) (1, 6) (1, 6) true 3 3), (stitch_form.mk (⟨#[115]⟩ : ByteArray) (0, 0) (0, 0) true 1 1), (stitch_form.mk (⟨#[]⟩ : ByteArray) (1, 200) (0, 0) false 0 2), (stitch_form.mk (⟨#[111]⟩ : ByteArray) (1, 200) (0, 0) true 2 0)].length a9) (xs := [(stitch_form.mk (⟨#[]⟩ : ByteArray) (0, 0) (0, 0) true 1 1), (stitch_form.mk (⟨#[]⟩ : ByteArray) (0, 0) (0, 0) false 0 1), (stitch_form.mk (⟨#[102]⟩ : ByteArray) (2, 4) (0, 0) true 2 1), (stitch_form.mk (⟨#[108]⟩ : ByteArray) (2, 4) (0, 0) true 2 1), (stitch_form.mk (⟨#[109]⟩ : ByteArray) (2, 4) (0, 0) true 1 2), (stitch_form.mk (⟨#[120]⟩ : ByteArray) (1, 6) (1, 6) true 3 3), (stitch_form.mk (⟨#[121]⟩ : ByteArray) (1, 6) (1, 6) true 3 3), (stitch_form.mk (⟨#[115]⟩ : ByteArray) (0, 0) (0, 0) true 1 1), (stitch_form.mk (⟨#[]⟩ : ByteArray) (1, 200) (0, 0) false 0 2), (stitch_form.mk (⟨#[111]⟩ : ByteArray) (1, 200) (0, 0) true 2 0)]) 1 rfl
 obtain ⟨aj, ai, S⟩ := pIdx (P := Try.prog) (r := r_stitch_form) (v := .slice ab [(stitch_form.mk (⟨#[]⟩ : ByteArray) (0, 0) (0, 0) true 1 1), (stitch_form.mk (⟨#[]⟩ : ByteArray) (0, 0) (0, 0) false 0 1), (stitch_form.mk (⟨#[102]⟩ : ByteArray) (2, 4) (0, 0) true 2 1), (stitch_form.mk (⟨#[108]⟩ : ByteArray) (2, 4) (0, 0) true 2 1), (stitch_form.mk (⟨#[109]⟩ : ByteArray) (2, 4) (0, 0) true 1 2), (stitch_form.mk (⟨#[120]⟩ : ByteArray) (1, 6) (1, 6) true 3 3), (stitch_form.mk (⟨#[121]⟩ : ByteArray) (1, 6) (1, 6) true 3 3), (stitch_form.mk (⟨#[115]⟩ : ByteArray) (0, 0) (0, 0) true 1 1), (stitch_form.mk (⟨#[]⟩ : ByteArray) (1, 200) (0, 0) false 0 2), (stitch_form.mk (⟨#[111]⟩ : ByteArray) (1, 200) (0, 0) true 2 0)].length a9) (xs := [(stitch_form.mk (⟨#[]⟩ : ByteArray) (0, 0) (0, 0) true 1 1), (stitch_form.mk (⟨#[]⟩ : ByteArray) (0, 0) (0, 0) false 0 1), (stitch_form.mk (⟨#[102]⟩ : ByteArray) (2, 4) (0, 0) true 2 1), (stitch_form.mk (⟨#[108]⟩ : ByteArray) (2, 4) (0, 0) true 2 1), (stitch_form.mk (⟨#[109]⟩ : ByteArray) (2, 4) (0, 0) true 1 2), (stitch_form.mk (⟨#[120]⟩ : ByteArray) (1, 6) (1, 6) true 3 3), (stitch_form.mk (⟨#[121]⟩ : ByteArray) (1, 6) (1, 6) true 3 3), (stitch_form.mk (⟨#[115]⟩ : ByteArray) (0, 0) (0, 0) true 1 1), (stitch_form.mk (⟨#[]⟩ : ByteArray) (1, 200) (0, 0) false 0 2), (stitch_form.mk (⟨#[111]⟩ : ByteArray) (1, 200) (0, 0) true 2 0)]) (j := IntKind.u8.wrap (p0 - 1)) 124 115 0 S Try.underlying124 rfl rfl ah
 refine sIdxV S (wN rfl) rfl rfl rfl ai rfl (lb rfl) fun a S => ?_
 obtain ⟨ak, S⟩ := pLoad (r := r_stitch_form) (q := aj) (x := a0) 0 S rfl
 obtain rfl : ak = gv_stitch_form a0 := S.mem.know (i := 1) (e := fRep r_stitch_form (ak) a0) rfl
 refine sLoadVN (vq := aj) 0 [.string a0.letter, iv a0.a.1, iv a0.a.2, iv a0.b.1, iv a0.b.2, .bool a0.sided, iv a0.uses, iv a0.made] S (wN rfl) rfl rfl rfl rfl rfl rfl (lb rfl) fun a S => ?_
 refine sStore (p := b2) (off := 0) (T := 115) (vs := [.string (⟨#[]⟩ : ByteArray), iv 0, iv 0, iv 0, iv 0, .bool false, iv 0, iv 0]) (v := gv_stitch_form a0) 0 [.string a0.letter, iv a0.a.1, iv a0.a.2, iv a0.b.1, iv a0.b.2, .bool a0.sided, iv a0.uses, iv a0.made] S (wN rfl) rfl rfl rfl rfl rfl rfl rfl (by simp) rfl fun a w S => ?_
 refine sN S fun a S => ?_
 refine lT (ag _ _ ?_)
 obtain rfl := tS h
 exact wp_ret (sRet (.tuple #[gv_stitch_form a0, .bool true]) S (rsl2 rfl (rvN (c := 2) (t := 115) (T := 115) (p := b2) 0 [.string a0.letter, iv a0.a.1, iv a0.a.2, iv a0.b.1, iv a0.b.2, .bool a0.sided, iv a0.uses, iv a0.made] S rfl rfl rfl rfl) (rvT (t := 3) (v := .bool true) S rfl)) ⟨(gv_stitch_form a0), rfl, S.mem.sel [] [1] (by decide) rfl rfl⟩)
noncomputable def F_stitch_loops (p0 : api_Stitch) (p1 : Int) : Option Int :=
 (idxO ([0, 1, p0.A, w64 (p0.A + p0.B)] : List Int) p1).bind fun x4 =>
 some x4
theorem c_stitch_loops (E : Nat → Prop) (w0 : World) (p0 : api_Stitch) (v0 : Value) (p1 : Int) (r : Int) (h : F_stitch_loops p0 p1 = some r) (S : St0 E [] w0 w0 [] [fRep r_api_Stitch (v0) p0]) :
 Calls Try.prog 72 #[v0, iv p1] w0 (Ret (X := Unit) E [] w0 (fun _ => .int .i64 r) (fun _ => []) (fun _ => [])) := by
 unfold F_stitch_loops at h
 obtain rfl : v0 = .agg #[.int .u8 p0.Kind, .bool p0.Purl, iv p0.A, iv p0.B] := S.know (i := 0) (e := fRep r_api_Stitch (v0) p0) rfl
 refine sEnter (args := [.agg #[.int .u8 p0.Kind, .bool p0.Purl, iv p0.A, iv p0.B], iv p1]) 15 Try.func72 rfl rfl (by simp) S (fun a S => ?_)
 refine sSeq (fun K1 a0 => sRegion (sBox (v := .agg #[.int .u8 p0.Kind, .bool p0.Purl, iv p0.A, iv p0.B]) S (wN rfl) rfl rfl [.int .u8 p0.Kind, .bool p0.Purl, iv p0.A, iv p0.B] rfl rfl (lb rfl) fun a b2 w S => ?_))
 refine sN S fun a S => ?_
 refine lT (a0 _ _ (sSeq (fun K3 a8 => sRegion (sField (b := b2) (off := 0) 2 2 S (wN rfl) rfl rfl rfl rfl rfl (lb rfl) fun a S => ?_))))
 refine sLoad1 0 (iv p0.A) S (wN rfl) rfl rfl rfl rfl rfl rfl (lb rfl) fun a S => ?_
 refine sField (b := b2) (off := 0) 2 2 S (wN rfl) rfl rfl rfl rfl rfl (lb rfl) fun a S => ?_
 refine sLoad1 0 (iv p0.A) S (wN rfl) rfl rfl rfl rfl rfl rfl (lb rfl) fun a S => ?_
 refine sField (b := b2) (off := 0) 3 3 S (wN rfl) rfl rfl rfl rfl rfl (lb rfl) fun a S => ?_
 refine sLoad1 0 (iv p0.B) S (wN rfl) rfl rfl rfl rfl rfl rfl (lb rfl) fun a S => ?_
 refine sBin _ S (wN rfl) rfl rfl rfl (bAdd _ _ _ _ p0.A p0.B) rfl (lb rfl) fun a S => ?_
 refine sBuild [(0, iv 0), (1, iv 1), (2, iv p0.A), (3, iv (w64 (p0.A + p0.B)))] [iv 0, iv 1, iv p0.A, iv (w64 (p0.A + p0.B))] S (wN rfl) rfl rfl rfl rfl (lb rfl) fun a S => ?_
 refine sM S fun a S => ?_
 obtain ⟨x4, a9, h⟩ := bS h
 refine sIndexA (g := fun z => .int .i64 z) (xs := ([0, 1, p0.A, w64 (p0.A + p0.B)] : List Int)) (j := p1) (k := .i64) 4 [iv 0, iv 1, iv p0.A, iv (w64 (p0.A + p0.B))] S (wN rfl) rfl Try.underlying128 rfl rfl rfl rfl rfl rfl a9 rfl (lb rfl) fun a S => ?_
 refine sN S fun a S => ?_
 refine lT (a8 _ _ ?_)
 obtain rfl := tS h
 exact wp_ret (sRet (iv x4) S (rsl1 rfl (rvT (t := 4) (v := iv x4) S rfl)) ⟨(), rfl, S.mem.sel [] [] (by decide) rfl rfl⟩)
noncomputable def stitch_sum_l1 (p0 : (List api_Stitch)) : (Int × Int × Int) → Option ((Int × Int × Int) ⊕ (Int × Int)) := fun s0 => match s0 with
 | (s9, a9, a0) =>
  if decide (a0 < (p0.length : Int)) then
   (idxO p0 a0).bind fun a8 =>
   (F_stitch_forms a8.Kind).bind fun aa =>
   (F_stitch_loops a8 aa.1.uses).bind fun ab =>
   (F_stitch_loops a8 aa.1.made).bind fun ac =>
   some (.inl (w64 (s9 + ab), w64 (a9 + ac), w64 (a0 + 1)))
  else
   some (.inr (s9, a9))
noncomputable def F_stitch_sum (p0 : (List api_Stitch)) : Option (Int × Int) :=
 Option.bind (α := (Int × Int)) (
  (whileO (stitch_sum_l1 p0) (0, 0, 0)).bind fun (a0, a8) =>
   some (a0, a8)) fun (o4, o5) =>
 some (o4, o5)
theorem c_stitch_sum (E : Nat → Prop) (w0 : World) (p0 : (List api_Stitch)) (v0 : Value) (r : (Int × Int)) (h : F_stitch_sum p0 = some r) (S : St0 E [] w0 w0 [] [fRep (rL r_api_Stitch) (v0) p0]) :
 Calls Try.prog 65 #[v0] w0 (Ret (X := Unit) E [] w0 (fun _ => .tuple #[.int .i64 r.1, .int .i64 r.2]) (fun _ => []) (fun _ => [])) := by
 unfold F_stitch_sum at h
 obtain ⟨ae, af, _, rfl, _⟩ := S.know (i := 0) (e := fRep (rL r_api_Stitch) (v0) p0) rfl
 refine sEnter (args := [.slice ae p0.length af]) 35 Try.func65 rfl rfl (by simp) S (fun a S => ?_)
 refine sSeq (fun K3 aG => sRegion (sN S fun a S => ?_))
 refine sN S fun a S => ?_
 refine lT (aG _ _ ?_)
 obtain ⟨t6, h, g7⟩ := bS h
 refine sCut (fun a w => ∃ o4, ∃ o5, (o4, o5) = t6 ∧ St [] E [] w0 35 a w [(2, iv o4), (3, iv o5)] [] []) ?_ (fun a w hI => ?_)
 rotate_left
 ·obtain ⟨o4, o5, rfl, S⟩ := hI
  have h := g7
  try dsimp only at h
  refine sSeq (fun aJ ai => sRegion (sM S fun a S => ?_))
  refine sM S fun a S => ?_
  refine sN S fun a S => ?_
  refine sN S fun a S => ?_
  refine lT (ai _ _ ?_)
  obtain rfl := tS h
  exact wp_ret (sRet (.tuple #[iv o4, iv o5]) S (rsl2 rfl (rvT (t := 2) (v := iv o4) S rfl) (rvT (t := 3) (v := iv o5) S rfl)) ⟨(), rfl, S.mem.sel [] [] (by decide) rfl rfl⟩)
 refine sSeq (fun K8 aH => sRegion (sM S fun a S => ?_))
 refine sLen S (wN rfl) rfl Try.underlying62 rfl rfl (lb rfl) fun a S => ?_
 refine sM S fun a S => ?_
 refine lT (aH _ _ (wp_block ?_))
 obtain ⟨aK, hl, aI⟩ := bS h
 refine sLoop hl (fun s0 a w => match s0 with | (s9, ab, aa) => St [] E [] w0 35 a w [(2, iv s9), (3, iv ab), (8, .slice ae p0.length af), (9, iv (p0.length : Int)), (10, iv aa)] [] [fRep (rL r_api_Stitch) (.slice ae p0.length af) p0]) (S.fix [] [0] (by decide) rfl rfl rfl) ?_
 clear hl h
 intro s0 a w c0 hI h aj
 obtain ⟨s9, ab, aa⟩ := s0
 unfold stitch_sum_l1 at h
 dsimp only at h hI
 have S := hI
 refine sSeq (fun aL ak => sRegion (sBin _ S (wN rfl) rfl rfl rfl (bLt _ _ _ _ .i64 aa (p0.length : Int)) rfl (lb rfl) fun a S => ?_))
 refine lT (ak _ _ (sSeq (fun aM al => ?_)))
 rcases iS h with ⟨a9, h⟩ | ⟨a9, h⟩
 rotate_left
 ·refine sCondF S rfl a9 ?_
  obtain rfl := tS h
  obtain rfl := aj _ rfl
  have h := aI
  try dsimp only at h
  exact wp_exit (xThen (xThen (xHit (leafT (⟨s9, ab, Option.some.inj h, S.fix [] [] (by decide) rfl rfl rfl⟩)))))
 refine sCondT S rfl a9 ?_
 refine wp_skip (leafT (al _ _ ?_))
 refine sSeq (fun aO am => wp_block ?_)
 refine sSeq (fun aP ao => sRegion ?_)
 obtain ⟨a0, ap, h⟩ := bS h
 obtain ⟨az, aq, S⟩ := pIdx (P := Try.prog) (r := r_api_Stitch) (v := .slice ae p0.length af) (xs := p0) (j := aa) 62 61 0 S Try.underlying62 rfl rfl ap
 refine sIdxV S (wN rfl) rfl rfl rfl aq rfl (lb rfl) fun a S => ?_
 obtain ⟨aA, S⟩ := pLoad (r := r_api_Stitch) (q := az) (x := a0) 0 S rfl
 obtain rfl : aA = .agg #[.int .u8 a0.Kind, .bool a0.Purl, iv a0.A, iv a0.B] := S.mem.know (i := 1) (e := fRep r_api_Stitch (aA) a0) rfl
 refine sLoadVN (vq := az) 0 [.int .u8 a0.Kind, .bool a0.Purl, iv a0.A, iv a0.B] S (wN rfl) rfl rfl rfl rfl rfl rfl (lb rfl) fun a S => ?_
 refine sAlloc (.agg #[.int .u8 0, .bool false, iv 0, iv 0]) S (wN rfl) rfl rfl [.int .u8 0, .bool false, iv 0, iv 0] rfl rfl (lb rfl) fun a ac w S => ?_
 refine sStore (p := ac) (off := 0) (T := 61) (vs := [.int .u8 0, .bool false, iv 0, iv 0]) (v := .agg #[.int .u8 a0.Kind, .bool a0.Purl, iv a0.A, iv a0.B]) 0 [.int .u8 a0.Kind, .bool a0.Purl, iv a0.A, iv a0.B] S (wN rfl) rfl rfl rfl rfl rfl rfl rfl (by simp) rfl fun a w S => ?_
 refine lT (ao _ _ (sSeq (fun aQ ar => sRegion (sField (b := ac) (off := 0) 0 0 S (wN rfl) rfl rfl rfl rfl rfl (lb rfl) fun a S => ?_))))
 refine sLoad1 0 (.int .u8 a0.Kind) S (wN rfl) rfl rfl rfl rfl rfl rfl (lb rfl) fun a S => ?_
 obtain ⟨a8, au, h⟩ := bS h
 refine sCall (X := Value) (f := 67) (vs := [.int .u8 a0.Kind]) (val := c_stitch_forms_val a8) (B' := fun _ => []) (D' := c_stitch_forms_D a8) [] [eBox ac 61 [.int .u8 a0.Kind, .bool a0.Purl, iv a0.A, iv a0.B]] [] [0] [] S (wN rfl) rfl callee67 rfl (by decide) rfl rfl (fun E1 w1 S1 => c_stitch_forms E1 w1 a0.Kind a8 au S1) rfl (lb rfl) fun aC a w S => ?_
 obtain rfl : aC = gv_stitch_form a8.1 := S.mem.know (i := 0) (e := fRep r_stitch_form (aC) a8.1) rfl
 refine sM S fun a S => ?_
 refine sExtract (vs := [gv_stitch_form a8.1, .bool a8.2]) (gv_stitch_form a8.1) S (wN rfl) rfl rfl rfl rfl (lb rfl) fun a S => ?_
 refine sExtract (vs := [gv_stitch_form a8.1, .bool a8.2]) (.bool a8.2) S (wN rfl) rfl rfl rfl rfl (lb rfl) fun a S => ?_
 refine sAlloc (gv_stitch_form (stitch_form.mk (⟨#[]⟩ : ByteArray) (0, 0) (0, 0) false 0 0)) S (wN rfl) rfl rfl (gl_stitch_form (stitch_form.mk (⟨#[]⟩ : ByteArray) (0, 0) (0, 0) false 0 0)) rfl rfl (lb rfl) fun a av w S => ?_
 refine sStore (p := av) (off := 0) (T := 115) (vs := [.string (⟨#[]⟩ : ByteArray), iv 0, iv 0, iv 0, iv 0, .bool false, iv 0, iv 0]) (v := gv_stitch_form a8.1) 0 [.string a8.1.letter, iv a8.1.a.1, iv a8.1.a.2, iv a8.1.b.1, iv a8.1.b.2, .bool a8.1.sided, iv a8.1.uses, iv a8.1.made] S (wN rfl) rfl rfl rfl rfl rfl rfl rfl (by simp) rfl fun a w S => ?_
 refine sN S fun a S => ?_
 refine lT (ar _ _ (sSeq (fun aR aw => sRegion (sM S fun a S => ?_))))
 refine sLoadN (p := ac) (off := 0) (T := 61) (vs := [.int .u8 a0.Kind, .bool a0.Purl, iv a0.A, iv a0.B]) 1 [.int .u8 a0.Kind, .bool a0.Purl, iv a0.A, iv a0.B] S (wN rfl) rfl rfl rfl rfl rfl rfl rfl (lb rfl) fun a S => ?_
 refine sField (b := av) (off := 0) 6 6 S (wN rfl) rfl rfl rfl rfl rfl (lb rfl) fun a S => ?_
 refine sLoad1 0 (iv a8.1.uses) S (wN rfl) rfl rfl rfl rfl rfl rfl (lb rfl) fun a S => ?_
 obtain ⟨ag, ax, h⟩ := bS h
 have S1 := S.mem
 refine sCq [.agg #[.int .u8 a0.Kind, .bool a0.Purl, iv a0.A, iv a0.B], iv a8.1.uses] (iv ag) S callee72 (S1.quiet [2] rfl) (fun E1 w1 S1 => c_stitch_loops E1 w1 a0 (.agg #[.int .u8 a0.Kind, .bool a0.Purl, iv a0.A, iv a0.B]) a8.1.uses ag ax S1) fun a w S => ?_
 refine sBin _ S (wN rfl) rfl rfl rfl (bAdd _ _ _ _ s9 ag) rfl (lb rfl) fun a S => ?_
 refine sN S fun a S => ?_
 refine lT (aw _ _ (sRegion (sM S fun a S => ?_)))
 refine sLoadN (p := ac) (off := 0) (T := 61) (vs := [.int .u8 a0.Kind, .bool a0.Purl, iv a0.A, iv a0.B]) 1 [.int .u8 a0.Kind, .bool a0.Purl, iv a0.A, iv a0.B] S (wN rfl) rfl rfl rfl rfl rfl rfl rfl (lb rfl) fun a S => ?_
 refine sField (b := av) (off := 0) 7 7 S (wN rfl) rfl rfl rfl rfl rfl (lb rfl) fun a S => ?_
 refine sLoad1 0 (iv a8.1.made) S (wN rfl) rfl rfl rfl rfl rfl rfl (lb rfl) fun a S => ?_
 obtain ⟨ah, ay, h⟩ := bS h
 have S1 := S.mem
 refine sCq [.agg #[.int .u8 a0.Kind, .bool a0.Purl, iv a0.A, iv a0.B], iv a8.1.made] (iv ah) S callee72 (S1.quiet [2] rfl) (fun E1 w1 S1 => c_stitch_loops E1 w1 a0 (.agg #[.int .u8 a0.Kind, .bool a0.Purl, iv a0.A, iv a0.B]) a8.1.made ah ay S1) fun a w S => ?_
 refine sBin _ S (wN rfl) rfl rfl rfl (bAdd _ _ _ _ ab ah) rfl (lb rfl) fun a S => ?_
 refine sN S fun a S => ?_
 refine leafL (leafB (leafT (am _ _ ?_)))
 refine sRegion (sBin _ S (wN rfl) rfl rfl rfl (bAdd _ _ _ _ aa 1) rfl (lb rfl) fun a S => ?_)
 refine sM S fun a S => ?_
 exact lT (⟨(w64 (s9 + ag), w64 (ab + ah), w64 (aa + 1)), (Option.some.inj h).symm, (S.fix [] [4] (by decide) rfl rfl rfl)⟩)
noncomputable def F_stitch_within (p0 : Int) (p1 : (Int × Int)) : Option Bool :=
 Option.bind (α := Bool) (
  if decide (p1.1 ≤ p0) then
   some (decide (p0 ≤ p1.2))
  else
   some false) fun o3 =>
 some o3
theorem c_stitch_within (E : Nat → Prop) (w0 : World) (p0 : Int) (p1 : (Int × Int)) (v1 : Value) (r : Bool) (h : F_stitch_within p0 p1 = some r) (S : St0 E [] w0 w0 [] [fRep r_A2_Int (v1) p1]) :
 Calls Try.prog 76 #[iv p0, v1] w0 (Ret (X := Unit) E [] w0 (fun _ => .bool r) (fun _ => []) (fun _ => [])) := by
 unfold F_stitch_within at h
 obtain rfl : v1 = .agg #[iv p1.1, iv p1.2] := S.know (i := 0) (e := fRep r_A2_Int (v1) p1) rfl
 refine sEnter (args := [iv p0, .agg #[iv p1.1, iv p1.2]]) 15 Try.func76 rfl rfl (by simp) S (fun a S => ?_)
 refine sSeq (fun K1 a8 => sRegion (sBox (v := .agg #[iv p1.1, iv p1.2]) S (wN rfl) rfl rfl [iv p1.1, iv p1.2] rfl rfl (lb rfl) fun a b2 w S => ?_))
 refine sN S fun a S => ?_
 refine lT (a8 _ _ ?_)
 obtain ⟨t4, h, g5⟩ := bS h
 refine sCut (fun a w => ∃ o3, o3 = t4 ∧ St [] E [] w0 15 a w [(4, .bool o3)] [] []) ?_ (fun a w hI => ?_)
 rotate_left
 ·obtain ⟨o3, rfl, S⟩ := hI
  have h := g5
  try dsimp only at h
  obtain rfl := tS h
  exact wp_ret (sRet (.bool o3) S (rsl1 rfl (rvT (t := 4) (v := .bool o3) S rfl)) ⟨(), rfl, S.mem.sel [] [] (by decide) rfl rfl⟩)
 refine sRegion (sM S fun a S => ?_)
 refine sIdxV S (wN rfl) rfl rfl rfl (idxV_arr (m := 2) (sz := 1) Try.underlying49 rfl (by decide) (by decide) 0) rfl (lb rfl) fun a S => ?_
 refine sLoad1 0 (iv p1.1) S (wN rfl) rfl rfl rfl rfl rfl rfl (lb rfl) fun a S => ?_
 refine sBin _ S (wN rfl) rfl rfl rfl (bGe _ _ _ _ .i64 p0 p1.1) rfl (lb rfl) fun a S => ?_
 refine sM S fun a S => ?_
 rcases iS h with ⟨a0, h⟩ | ⟨a0, h⟩
 rotate_left
 ·refine sSkN 4 4 true 9 S rfl rfl a0 rfl fun a S => ?_
  refine sPickF (.bool false) S (wN rfl) rfl rfl a0 rfl rfl (lb rfl) fun a S => ?_
  refine sN S fun a S => ?_
  exact lT (⟨false, Option.some.inj h, S.fix [] [] (by decide) rfl rfl rfl⟩)
 refine sMove (iv p0) S (wG 4 true 9 rfl rfl rfl a0) (.inl rfl) rfl rfl (lb rfl) fun a S => ?_
 refine sIdxV S (wG 4 true 9 rfl rfl rfl a0) rfl rfl rfl (idxV_arr (m := 2) (sz := 1) Try.underlying49 rfl (by decide) (by decide) 0) rfl (lb rfl) fun a S => ?_
 refine sLoad1 0 (iv p1.2) S (wG 4 true 9 rfl rfl rfl a0) rfl rfl rfl rfl rfl rfl (lb rfl) fun a S => ?_
 refine sBin _ S (wG 4 true 9 rfl rfl rfl a0) rfl rfl rfl (bLe _ _ _ _ .i64 p0 p1.2) rfl (lb rfl) fun a S => ?_
 refine sPickT (.bool (decide (p0 ≤ p1.2))) S (wN rfl) rfl rfl a0 rfl rfl (lb rfl) fun a S => ?_
 refine sN S fun a S => ?_
 exact lT (⟨decide (p0 ≤ p1.2), Option.some.inj h, S.fix [] [] (by decide) rfl rfl rfl⟩)
noncomputable def F_stitch_Check (p0 : api_Stitch) : Option Int :=
 (F_stitch_forms p0.Kind).bind fun r4 =>
 Option.bind (α := Bool) (
  if !r4.2 then
   some true
  else
   (F_stitch_within p0.A r4.1.a).bind fun a0 =>
   if !a0 then
    some true
   else
    (F_stitch_within p0.B r4.1.b).bind fun a8 =>
    if !a8 then
     some true
    else
     if p0.Purl then
      some (!r4.1.sided)
     else
      some false) fun o9 =>
 if o9 then
  some 8
 else
  some 0
theorem c_stitch_Check (E : Nat → Prop) (w0 : World) (p0 : api_Stitch) (v0 : Value) (r : Int) (h : F_stitch_Check p0 = some r) (S : St0 E [] w0 w0 [] [fRep r_api_Stitch (v0) p0]) :
 Calls Try.prog 71 #[v0] w0 (Ret (X := Unit) E [] w0 (fun _ => .int .i64 r) (fun _ => []) (fun _ => [])) := by
 unfold F_stitch_Check at h
 obtain rfl : v0 = .agg #[.int .u8 p0.Kind, .bool p0.Purl, iv p0.A, iv p0.B] := S.know (i := 0) (e := fRep r_api_Stitch (v0) p0) rfl
 refine sEnter (args := [.agg #[.int .u8 p0.Kind, .bool p0.Purl, iv p0.A, iv p0.B]]) 38 Try.func71 rfl rfl (by simp) S (fun a S => ?_)
 refine sSeq (fun K1 aj => sRegion (sBox (v := .agg #[.int .u8 p0.Kind, .bool p0.Purl, iv p0.A, iv p0.B]) S (wN rfl) rfl rfl [.int .u8 p0.Kind, .bool p0.Purl, iv p0.A, iv p0.B] rfl rfl (lb rfl) fun a b2 w S => ?_))
 refine sN S fun a S => ?_
 refine lT (aj _ _ (sSeq (fun K3 ak => sRegion (sField (b := b2) (off := 0) 0 0 S (wN rfl) rfl rfl rfl rfl rfl (lb rfl) fun a S => ?_))))
 refine sLoad1 0 (.int .u8 p0.Kind) S (wN rfl) rfl rfl rfl rfl rfl rfl (lb rfl) fun a S => ?_
 obtain ⟨r4, al, h⟩ := bS h
 refine sCall (X := Value) (f := 67) (vs := [.int .u8 p0.Kind]) (val := c_stitch_forms_val r4) (B' := fun _ => []) (D' := c_stitch_forms_D r4) [] [eBox b2 61 [.int .u8 p0.Kind, .bool p0.Purl, iv p0.A, iv p0.B]] [] [0] [] S (wN rfl) rfl callee67 rfl (by decide) rfl rfl (fun E1 w1 S1 => c_stitch_forms E1 w1 p0.Kind r4 al S1) rfl (lb rfl) fun u6 a w S => ?_
 obtain rfl : u6 = gv_stitch_form r4.1 := S.mem.know (i := 0) (e := fRep r_stitch_form (u6) r4.1) rfl
 refine sM S fun a S => ?_
 refine sExtract (vs := [gv_stitch_form r4.1, .bool r4.2]) (gv_stitch_form r4.1) S (wN rfl) rfl rfl rfl rfl (lb rfl) fun a S => ?_
 refine sExtract (vs := [gv_stitch_form r4.1, .bool r4.2]) (.bool r4.2) S (wN rfl) rfl rfl rfl rfl (lb rfl) fun a S => ?_
 refine sAlloc (gv_stitch_form (stitch_form.mk (⟨#[]⟩ : ByteArray) (0, 0) (0, 0) false 0 0)) S (wN rfl) rfl rfl (gl_stitch_form (stitch_form.mk (⟨#[]⟩ : ByteArray) (0, 0) (0, 0) false 0 0)) rfl rfl (lb rfl) fun a b7 w S => ?_
 refine sStore (p := b7) (off := 0) (T := 115) (vs := [.string (⟨#[]⟩ : ByteArray), iv 0, iv 0, iv 0, iv 0, .bool false, iv 0, iv 0]) (v := gv_stitch_form r4.1) 0 [.string r4.1.letter, iv r4.1.a.1, iv r4.1.a.2, iv r4.1.b.1, iv r4.1.b.2, .bool r4.1.sided, iv r4.1.uses, iv r4.1.made] S (wN rfl) rfl rfl rfl rfl rfl rfl rfl (by simp) rfl fun a w S => ?_
 refine sN S fun a S => ?_
 refine lT (ak _ _ (sSeq (fun K8 am => ?_)))
 obtain ⟨ao, h, ap⟩ := bS h
 refine sCut (fun a w => ∃ o9, o9 = ao ∧ St [] E [] w0 38 a w [(37, .bool o9)] [] []) ?_ (fun a w hI => ?_)
 rotate_left
 ·obtain ⟨o9, rfl, S⟩ := hI
  have h := ap
  try dsimp only at h
  rcases iS h with ⟨ab, h⟩ | ⟨ab, h⟩
  ·refine sCondT S rfl ab ?_
   refine sSeq (fun aq af => sRegion (sN S fun a S => ?_))
   refine lT (af _ _ ?_)
   obtain rfl := tS h
   exact wp_ret (rThen (sRet (iv 8) S (rsl1 rfl (rvT (t := 2) (v := iv 8) S rfl)) ⟨(), rfl, S.mem.sel [] [] (by decide) rfl rfl⟩))
  refine sCondF S rfl ab ?_
  refine wp_skip (leafT (am _ _ ?_))
  refine sSeq (fun ar ag => sRegion (sN S fun a S => ?_))
  refine lT (ag _ _ ?_)
  obtain rfl := tS h
  exact wp_ret (sRet (iv 0) S (rsl1 rfl (rvT (t := 2) (v := iv 0) S rfl)) ⟨(), rfl, S.mem.sel [] [] (by decide) rfl rfl⟩)
 refine sRegion (sM S fun a S => ?_)
 refine sNot (b := r4.2) S (wN rfl) rfl rfl rfl (lb rfl) fun a S => ?_
 refine sM S fun a S => ?_
 rcases iS h with ⟨a8, h⟩ | ⟨a8, h⟩
 ·refine sSkN 6 2 false 13 S rfl rfl a8 rfl fun a S => ?_
  refine sPickT (.bool true) S (wN rfl) rfl rfl a8 rfl rfl (lb rfl) fun a S => ?_
  refine sM S fun a S => ?_
  refine sSkN 6 10 false 21 S rfl rfl rfl rfl fun a S => ?_
  refine sPickT (.bool true) S (wN rfl) rfl rfl rfl rfl rfl (lb rfl) fun a S => ?_
  refine sM S fun a S => ?_
  refine sSkN 3 18 false 29 S rfl rfl rfl rfl fun a S => ?_
  refine sSkipU 21 true 32 33 S rfl rfl rfl rfl (lb rfl) fun a S => ?_
  refine sSkipU 21 true 32 34 S rfl rfl rfl rfl (lb rfl) fun a S => ?_
  refine sSkipU 21 true 32 35 S rfl rfl rfl rfl (lb rfl) fun a S => ?_
  refine sSk S rfl rfl rfl rfl rfl rfl fun a S => ?_
  refine sPickT (.bool true) S (wN rfl) rfl rfl rfl rfl rfl (lb rfl) fun a S => ?_
  exact lT (⟨true, Option.some.inj h, S.fix [] [] (by decide) rfl rfl rfl⟩)
 refine sField (b := b2) (off := 0) 2 2 S (wG 2 false 13 rfl rfl rfl a8) rfl rfl rfl rfl rfl (lb rfl) fun a S => ?_
 refine sLoad1 1 (iv p0.A) S (wG 2 false 13 rfl rfl rfl a8) rfl rfl rfl rfl rfl rfl (lb rfl) fun a S => ?_
 refine sField (b := b7) (off := 0) 1 1 S (wG 2 false 13 rfl rfl rfl a8) rfl rfl rfl rfl rfl (lb rfl) fun a S => ?_
 refine sLoadN (p := b7) (off := 1) (T := 115) (vs := (gl_stitch_form r4.1)) 0 [iv r4.1.a.1, iv r4.1.a.2] S (wG 2 false 13 rfl rfl rfl a8) rfl rfl rfl rfl rfl rfl rfl (lb rfl) fun a S => ?_
 obtain ⟨ac, ah, h⟩ := bS h
 have S1 := S.mem
 have S1 := S1.learn (fRep r_A2_Int (.agg #[iv r4.1.a.1, iv r4.1.a.2]) r4.1.a) rfl
 refine sCallQ (X := Unit) (f := 76) (vs := [iv p0.A, .agg #[iv r4.1.a.1, iv r4.1.a.2]]) (val := fun _ => .bool ac) S (wG 2 false 13 rfl rfl rfl a8) rfl callee76 rfl (S1.quiet [0] rfl) (fun E1 w1 S1 => c_stitch_within E1 w1 p0.A r4.1.a (.agg #[iv r4.1.a.1, iv r4.1.a.2]) ac ah S1) rfl (lb rfl) fun _ a w S => ?_
 refine sNot (b := ac) S (wG 2 false 13 rfl rfl rfl a8) rfl rfl rfl (lb rfl) fun a S => ?_
 refine sPickF (.bool (!ac)) S (wN rfl) rfl rfl a8 rfl rfl (lb rfl) fun a S => ?_
 refine sM S fun a S => ?_
 rcases iS h with ⟨a9, h⟩ | ⟨a9, h⟩
 ·refine sSkN 6 10 false 21 S rfl rfl a9 rfl fun a S => ?_
  refine sPickT (.bool true) S (wN rfl) rfl rfl a9 rfl rfl (lb rfl) fun a S => ?_
  refine sM S fun a S => ?_
  refine sSkN 3 18 false 29 S rfl rfl rfl rfl fun a S => ?_
  refine sSkipU 21 true 32 33 S rfl rfl rfl rfl (lb rfl) fun a S => ?_
  refine sSkipU 21 true 32 34 S rfl rfl rfl rfl (lb rfl) fun a S => ?_
  refine sSkipU 21 true 32 35 S rfl rfl rfl rfl (lb rfl) fun a S => ?_
  refine sSk S rfl rfl rfl rfl rfl rfl fun a S => ?_
  refine sPickT (.bool true) S (wN rfl) rfl rfl rfl rfl rfl (lb rfl) fun a S => ?_
  exact lT (⟨true, Option.some.inj h, S.fix [] [] (by decide) rfl rfl rfl⟩)
 refine sField (b := b2) (off := 0) 3 3 S (wG 10 false 21 rfl rfl rfl a9) rfl rfl rfl rfl rfl (lb rfl) fun a S => ?_
 refine sLoad1 1 (iv p0.B) S (wG 10 false 21 rfl rfl rfl a9) rfl rfl rfl rfl rfl rfl (lb rfl) fun a S => ?_
 refine sField (b := b7) (off := 0) 3 3 S (wG 10 false 21 rfl rfl rfl a9) rfl rfl rfl rfl rfl (lb rfl) fun a S => ?_
 refine sLoadN (p := b7) (off := 3) (T := 115) (vs := (gl_stitch_form r4.1)) 0 [iv r4.1.b.1, iv r4.1.b.2] S (wG 10 false 21 rfl rfl rfl a9) rfl rfl rfl rfl rfl rfl rfl (lb rfl) fun a S => ?_
 obtain ⟨ae, ai, h⟩ := bS h
 have S1 := S.mem
 have S1 := S1.learn (fRep r_A2_Int (.agg #[iv r4.1.b.1, iv r4.1.b.2]) r4.1.b) rfl
 refine sCallQ (X := Unit) (f := 76) (vs := [iv p0.B, .agg #[iv r4.1.b.1, iv r4.1.b.2]]) (val := fun _ => .bool ae) S (wG 10 false 21 rfl rfl rfl a9) rfl callee76 rfl (S1.quiet [0] rfl) (fun E1 w1 S1 => c_stitch_within E1 w1 p0.B r4.1.b (.agg #[iv r4.1.b.1, iv r4.1.b.2]) ae ai S1) rfl (lb rfl) fun _ a w S => ?_
 refine sNot (b := ae) S (wG 10 false 21 rfl rfl rfl a9) rfl rfl rfl (lb rfl) fun a S => ?_
 refine sPickF (.bool (!ae)) S (wN rfl) rfl rfl a9 rfl rfl (lb rfl) fun a S => ?_
 refine sM S fun a S => ?_
 rcases iS h with ⟨a0, h⟩ | ⟨a0, h⟩
 ·refine sSkN 3 18 false 29 S rfl rfl a0 rfl fun a S => ?_
  refine sSkipU 21 true 32 33 S rfl rfl rfl rfl (lb rfl) fun a S => ?_
  refine sSkipU 21 true 32 34 S rfl rfl rfl rfl (lb rfl) fun a S => ?_
  refine sSkipU 21 true 32 35 S rfl rfl rfl rfl (lb rfl) fun a S => ?_
  refine sSk S rfl rfl rfl a0 rfl rfl fun a S => ?_
  refine sPickT (.bool true) S (wN rfl) rfl rfl a0 rfl rfl (lb rfl) fun a S => ?_
  exact lT (⟨true, Option.some.inj h, S.fix [] [] (by decide) rfl rfl rfl⟩)
 refine sField (b := b2) (off := 0) 1 1 S (wG 18 false 29 rfl rfl rfl a0) rfl rfl rfl rfl rfl (lb rfl) fun a S => ?_
 refine sLoad1 1 (.bool p0.Purl) S (wG 18 false 29 rfl rfl rfl a0) rfl rfl rfl rfl rfl rfl (lb rfl) fun a S => ?_
 refine sMove (.bool p0.Purl) S (wG 18 false 29 rfl rfl rfl a0) (.inl rfl) rfl rfl (lb rfl) fun a S => ?_
 rcases iS h with ⟨aa, h⟩ | ⟨aa, h⟩
 rotate_left
 ·refine sSkN 3 21 true 32 S rfl rfl aa rfl fun a S => ?_
  refine sPickF (.bool false) S (wG 18 false 29 rfl rfl rfl a0) rfl rfl aa rfl rfl (lb rfl) fun a S => ?_
  refine sPickF (.bool false) S (wN rfl) rfl rfl a0 rfl rfl (lb rfl) fun a S => ?_
  exact lT (⟨false, Option.some.inj h, S.fix [] [] (by decide) rfl rfl rfl⟩)
 refine sField (b := b7) (off := 0) 5 5 S (wG 21 true 32 rfl rfl rfl aa) rfl rfl rfl rfl rfl (lb rfl) fun a S => ?_
 refine sLoad1 0 (.bool r4.1.sided) S (wG 21 true 32 rfl rfl rfl aa) rfl rfl rfl rfl rfl rfl (lb rfl) fun a S => ?_
 refine sNot (b := r4.1.sided) S (wG 21 true 32 rfl rfl rfl aa) rfl rfl rfl (lb rfl) fun a S => ?_
 refine sPickT (.bool (!r4.1.sided)) S (wG 18 false 29 rfl rfl rfl a0) rfl rfl aa rfl rfl (lb rfl) fun a S => ?_
 refine sPickF (.bool (!r4.1.sided)) S (wN rfl) rfl rfl a0 rfl rfl (lb rfl) fun a S => ?_
 exact lT (⟨!r4.1.sided, Option.some.inj h, S.fix [] [] (by decide) rfl rfl rfl⟩)
noncomputable def F_stitch_All_1 (p0 : api_Stitch) : Option Bool :=
 (F_stitch_Check p0).bind fun r4 =>
 some (r4 != 0)
theorem c_stitch_All_1 (E : Nat → Prop) (w0 : World) (p0 : api_Stitch) (v0 : Value) (r : Bool) (h : F_stitch_All_1 p0 = some r) (S : St0 E [] w0 w0 [] [fRep r_api_Stitch (v0) p0]) :
 Calls Try.prog 70 #[v0] w0 (Ret (X := Unit) E [] w0 (fun _ => .bool r) (fun _ => []) (fun _ => [])) := by
 unfold F_stitch_All_1 at h
 obtain rfl : v0 = .agg #[.int .u8 p0.Kind, .bool p0.Purl, iv p0.A, iv p0.B] := S.know (i := 0) (e := fRep r_api_Stitch (v0) p0) rfl
 refine sEnter (args := [.agg #[.int .u8 p0.Kind, .bool p0.Purl, iv p0.A, iv p0.B]]) 6 Try.func70 rfl rfl (by simp) S (fun a S => ?_)
 refine sSeq (fun K1 a0 => sRegion (sBox (v := .agg #[.int .u8 p0.Kind, .bool p0.Purl, iv p0.A, iv p0.B]) S (wN rfl) rfl rfl [.int .u8 p0.Kind, .bool p0.Purl, iv p0.A, iv p0.B] rfl rfl (lb rfl) fun a b2 w S => ?_))
 refine sN S fun a S => ?_
 refine lT (a0 _ _ (sSeq (fun K3 a8 => sRegion (sLoadN (p := b2) (off := 0) (T := 61) (vs := [.int .u8 p0.Kind, .bool p0.Purl, iv p0.A, iv p0.B]) 0 [.int .u8 p0.Kind, .bool p0.Purl, iv p0.A, iv p0.B] S (wN rfl) rfl rfl rfl rfl rfl rfl rfl (lb rfl) fun a S => ?_))))
 obtain ⟨r4, a9, h⟩ := bS h
 have S1 := S.mem
 refine sCq [.agg #[.int .u8 p0.Kind, .bool p0.Purl, iv p0.A, iv p0.B]] (iv r4) S callee71 (S1.quiet [0] rfl) (fun E1 w1 S1 => c_stitch_Check E1 w1 p0 (.agg #[.int .u8 p0.Kind, .bool p0.Purl, iv p0.A, iv p0.B]) r4 a9 S1) fun a w S => ?_
 refine sBin _ S (wN rfl) rfl rfl rfl (bNe _ _ _ _ .i64 r4 0) rfl (lb rfl) fun a S => ?_
 refine sN S fun a S => ?_
 refine lT (a8 _ _ ?_)
 obtain rfl := tS h
 exact wp_ret (sRet (.bool (r4 != 0)) S (rsl1 rfl (rvT (t := 2) (v := .bool (r4 != 0)) S rfl)) ⟨(), rfl, S.mem.sel [] [] (by decide) rfl rfl⟩)
noncomputable def slices_IndexFunc___api_Stitch_api_Stitch__s0_l1 (p0 : (List api_Stitch)) : Int → Option (Int ⊕ (Int ⊕ Unit)) := fun s0 => match s0 with
 | s7 =>
  if decide (s7 < (p0.length : Int)) then
   (idxO p0 s7).bind fun a0 =>
   (F_stitch_All_1 a0).bind fun a8 =>
   if a8 then
    some (.inr (.inl s7))
   else
    some (.inl (w64 (s7 + 1)))
  else
   some (.inr (.inr ()))
noncomputable def F_slices_IndexFunc___api_Stitch_api_Stitch__s0 (p0 : (List api_Stitch)) : Option Int :=
 Option.bind (α := Unit ⊕ Int) (
  (whileO (slices_IndexFunc___api_Stitch_api_Stitch__s0_l1 p0) 0).bind fun z0 => match z0 with
   | .inl z =>
    some (.inr z)
   | .inr _ =>
    some (.inl ())) fun z0 => match z0 with
  | .inl _ =>
   some (-1)
  | .inr z =>
   some z
theorem c_slices_IndexFunc___api_Stitch_api_Stitch__s0 (E : Nat → Prop) (w0 : World) (p0 : (List api_Stitch)) (v0 : Value) (r : Int) (h : F_slices_IndexFunc___api_Stitch_api_Stitch__s0 p0 = some r) (S : St0 E [] w0 w0 [] [fRep (rL r_api_Stitch) (v0) p0]) :
 Calls Try.prog 75 #[v0, .func (.func 70) #[] #[]] w0 (Ret (X := Unit) E [] w0 (fun _ => .int .i64 r) (fun _ => []) (fun _ => [])) := by
 unfold F_slices_IndexFunc___api_Stitch_api_Stitch__s0 at h
 obtain ⟨aa, ab, _, rfl, _⟩ := S.know (i := 0) (e := fRep (rL r_api_Stitch) (v0) p0) rfl
 refine sEnter (args := [.slice aa p0.length ab, .func (.func 70) #[] #[]]) 19 Try.func75 rfl rfl (by simp) S (fun a S => ?_)
 refine sSeq (fun K3 au => sRegion (sN S fun a S => ?_))
 refine lT (au _ _ ?_)
 obtain ⟨t4, h, g5⟩ := bS h
 refine sCut (fun a w => .inl () = t4 ∧ St [] E [] w0 19 a w [] [] []) ?_ (fun a w hI => ?_)
 rotate_left
 ·obtain ⟨rfl, S⟩ := hI
  have h := g5
  try dsimp only at h
  refine sSeq (fun aw ac => sRegion (sN S fun a S => ?_))
  refine lT (ac _ _ ?_)
  obtain rfl := tS h
  exact wp_ret (sRet (iv (-1)) S (rsl1 rfl (rvT (t := 4) (v := iv (-1)) S rfl)) ⟨(), rfl, S.mem.sel [] [] (by decide) rfl rfl⟩)
 refine sSeq (fun K6 av => sRegion (sM S fun a S => ?_))
 refine sLen S (wN rfl) rfl Try.underlying62 rfl rfl (lb rfl) fun a S => ?_
 refine sM S fun a S => ?_
 refine lT (av _ _ (wp_block ?_))
 obtain ⟨ax, hl, g9⟩ := bS h
 refine sLoop hl (fun s0 a w => match s0 with | s7 => St [] E [] w0 19 a w [(0, .slice aa p0.length ab), (1, .func (.func 70) #[] #[]), (7, iv (p0.length : Int)), (8, iv s7)] [] [fRep (rL r_api_Stitch) (.slice aa p0.length ab) p0]) (S.fix [] [0] (by decide) rfl rfl rfl) ?_
 clear hl h
 intro s7 a w c0 hI h ao
 unfold slices_IndexFunc___api_Stitch_api_Stitch__s0_l1 at h
 dsimp only at h hI
 have S := hI
 refine sSeq (fun ay ae => sRegion (sBin _ S (wN rfl) rfl rfl rfl (bLt _ _ _ _ .i64 s7 (p0.length : Int)) rfl (lb rfl) fun a S => ?_))
 refine lT (ae _ _ (sSeq (fun az af => ?_)))
 rcases iS h with ⟨a8, h⟩ | ⟨a8, h⟩
 rotate_left
 ·refine sCondF S rfl a8 ?_
  obtain rfl := tS h
  obtain rfl := ao _ rfl
  have h := g9
  try dsimp only at h
  exact wp_exit (xThen (xThen (xHit (leafT (⟨Option.some.inj h, S.fix [] [] (by decide) rfl rfl rfl⟩)))))
 refine sCondT S rfl a8 ?_
 refine wp_skip (leafT (af _ _ ?_))
 refine sSeq (fun aA ag => wp_block ?_)
 refine sSeq (fun aC ah => sRegion (sM S fun a S => ?_))
 refine sN S fun a S => ?_
 refine lT (ah _ _ (sSeq (fun aG ai => sRegion (sM S fun a S => ?_))))
 refine sM S fun a S => ?_
 refine sM S fun a S => ?_
 obtain ⟨a0, aj, h⟩ := bS h
 obtain ⟨ap, ak, S⟩ := pIdx (P := Try.prog) (r := r_api_Stitch) (v := .slice aa p0.length ab) (xs := p0) (j := s7) 62 61 0 S Try.underlying62 rfl rfl aj
 refine sIdxV S (wN rfl) rfl rfl rfl ak rfl (lb rfl) fun a S => ?_
 obtain ⟨aq, S⟩ := pLoad (r := r_api_Stitch) (q := ap) (x := a0) 0 S rfl
 obtain rfl : aq = .agg #[.int .u8 a0.Kind, .bool a0.Purl, iv a0.A, iv a0.B] := S.mem.know (i := 1) (e := fRep r_api_Stitch (aq) a0) rfl
 refine sLoadVN (vq := ap) 0 [.int .u8 a0.Kind, .bool a0.Purl, iv a0.A, iv a0.B] S (wN rfl) rfl rfl rfl rfl rfl rfl (lb rfl) fun a S => ?_
 obtain ⟨ar, al, h⟩ := bS h
 have S1 := S.mem
 refine sCallVQ (X := Unit) (g := 70) (vs := [.agg #[.int .u8 a0.Kind, .bool a0.Purl, iv a0.A, iv a0.B]]) (caps := []) (val := fun _ => .bool ar) S (wN rfl) rfl rfl callee70 rfl (S1.quiet [1] rfl) (fun E1 w1 S1 => c_stitch_All_1 E1 w1 a0 (.agg #[.int .u8 a0.Kind, .bool a0.Purl, iv a0.A, iv a0.B]) ar al S1) rfl (lb rfl) fun _ a w S => ?_
 refine lT (ai _ _ ?_)
 rcases iS h with ⟨a9, h⟩ | ⟨a9, h⟩
 rotate_left
 ·refine sCondF S rfl a9 ?_
  refine wp_skip (leafB (leafT (ag _ _ ?_)))
  refine sRegion (sBin _ S (wN rfl) rfl rfl rfl (bAdd _ _ _ _ s7 1) rfl (lb rfl) fun a S => ?_)
  refine sM S fun a S => ?_
  exact lT (⟨w64 (s7 + 1), (Option.some.inj h).symm, (S.fix [] [3] (by decide) rfl rfl rfl)⟩)
 refine sCondT S rfl a9 ?_
 refine sSeq (fun aH am => sRegion (sM S fun a S => ?_))
 refine sN S fun a S => ?_
 refine lT (am _ _ ?_)
 obtain rfl := tS h
 obtain rfl := ao _ rfl
 have h := g9
 try dsimp only at h
 obtain rfl := tS h
 have h := g5
 try dsimp only at h
 obtain rfl := tS h
 exact wp_ret (rBlock (rThen (rThen (rBlock (rThen (sRet (iv s7) S (rsl1 rfl (rvT (t := 4) (v := iv s7) S rfl)) ⟨(), rfl, S.mem.sel [] [] (by decide) rfl rfl⟩))))))
noncomputable def F_slices_ContainsFunc___api_Stitch_api_Stitch__s0 (p0 : (List api_Stitch)) : Option Bool :=
 (F_slices_IndexFunc___api_Stitch_api_Stitch__s0 p0).bind fun r5 =>
 some (decide (0 ≤ r5))
theorem c_slices_ContainsFunc___api_Stitch_api_Stitch__s0 (E : Nat → Prop) (w0 : World) (p0 : (List api_Stitch)) (v0 : Value) (r : Bool) (h : F_slices_ContainsFunc___api_Stitch_api_Stitch__s0 p0 = some r) (S : St0 E [] w0 w0 [] [fRep (rL r_api_Stitch) (v0) p0]) :
 Calls Try.prog 69 #[v0, .func (.func 70) #[] #[]] w0 (Ret (X := Unit) E [] w0 (fun _ => .bool r) (fun _ => []) (fun _ => [])) := by
 unfold F_slices_ContainsFunc___api_Stitch_api_Stitch__s0 at h
 obtain ⟨a0, a8, _, rfl, _⟩ := S.know (i := 0) (e := fRep (rL r_api_Stitch) (v0) p0) rfl
 refine sEnter (args := [.slice a0 p0.length a8, .func (.func 70) #[] #[]]) 9 Try.func69 rfl rfl (by simp) S (fun a S => ?_)
 refine sSeq (fun K3 a9 => sRegion (sN S fun a S => ?_))
 refine lT (a9 _ _ (sSeq (fun K4 aa => sRegion (sM S fun a S => ?_))))
 refine sM S fun a S => ?_
 obtain ⟨r5, ab, h⟩ := bS h
 have S1 := S.mem
 refine sCq [.slice a0 p0.length a8, .func (.func 70) #[] #[]] (iv r5) S callee75 (S1.quiet [0] rfl) (fun E1 w1 S1 => c_slices_IndexFunc___api_Stitch_api_Stitch__s0 E1 w1 p0 (.slice a0 p0.length a8) r5 ab S1) fun a w S => ?_
 refine sBin _ S (wN rfl) rfl rfl rfl (bGe _ _ _ _ .i64 r5 0) rfl (lb rfl) fun a S => ?_
 refine sN S fun a S => ?_
 refine lT (aa _ _ ?_)
 obtain rfl := tS h
 exact wp_ret (sRet (.bool (decide (0 ≤ r5))) S (rsl1 rfl (rvT (t := 4) (v := .bool (decide (0 ≤ r5))) S rfl)) ⟨(), rfl, S.mem.sel [] [] (by decide) rfl rfl⟩)
noncomputable def F_stitch_All (p0 : (List api_Stitch)) : Option Int :=
 if decide (200 < (p0.length : Int)) then
  some 4
 else
  (F_slices_ContainsFunc___api_Stitch_api_Stitch__s0 p0).bind fun a8 =>
  if a8 then
   some 8
  else
   (F_stitch_sum p0).bind fun a0 =>
   if decide (200 < (if a0.1 < a0.2 then a0.2 else a0.1)) then
    some 4
   else
    some 0
theorem c_stitch_All (E : Nat → Prop) (w0 : World) (p0 : (List api_Stitch)) (v0 : Value) (r : Int) (h : F_stitch_All p0 = some r) (S : St0 E [] w0 w0 [] [fRep (rL r_api_Stitch) (v0) p0]) :
 Calls Try.prog 64 #[v0] w0 (Ret (X := Unit) E [] w0 (fun _ => .int .i64 r) (fun _ => []) (fun _ => [])) := by
 unfold F_stitch_All at h
 obtain ⟨aa, ab, _, rfl, _⟩ := S.know (i := 0) (e := fRep (rL r_api_Stitch) (v0) p0) rfl
 refine sEnter (args := [.slice aa p0.length ab]) 19 Try.func64 rfl rfl (by simp) S (fun a S => ?_)
 refine sSeq (fun K3 ao => sRegion (sN S fun a S => ?_))
 refine lT (ao _ _ (sSeq (fun K4 ap => sSeq (fun K5 aq => sRegion (sM S fun a S => ?_)))))
 refine sLen S (wN rfl) rfl Try.underlying62 rfl rfl (lb rfl) fun a S => ?_
 refine sBin _ S (wN rfl) rfl rfl rfl (bGt _ _ _ _ .i64 (p0.length : Int) 200) rfl (lb rfl) fun a S => ?_
 refine lT (aq _ _ ?_)
 rcases iS h with ⟨ac, h⟩ | ⟨ac, h⟩
 ·refine sCondT S rfl ac ?_
  refine sSeq (fun K7 ar => sRegion (sN S fun a S => ?_))
  refine lT (ar _ _ ?_)
  obtain rfl := tS h
  exact wp_ret (rThen (sRet (iv 4) S (rsl1 rfl (rvT (t := 2) (v := iv 4) S rfl)) ⟨(), rfl, S.mem.sel [] [] (by decide) rfl rfl⟩))
 refine sCondF S rfl ac ?_
 refine wp_skip (leafT (ap _ _ ?_))
 refine sSeq (fun K8 au => sSeq (fun K9 av => sRegion (sM S fun a S => ?_)))
 obtain ⟨am, ae, h⟩ := bS h
 have S1 := S.mem
 refine sCq [.slice aa p0.length ab, .func (.func 70) #[] #[]] (.bool am) S callee69 (S1.quiet [0] rfl) (fun E1 w1 S1 => c_slices_ContainsFunc___api_Stitch_api_Stitch__s0 E1 w1 p0 (.slice aa p0.length ab) am ae S1) fun a w S => ?_
 refine lT (av _ _ ?_)
 rcases iS h with ⟨a8, h⟩ | ⟨a8, h⟩
 ·refine sCondT S rfl a8 ?_
  refine sSeq (fun aw af => sRegion (sN S fun a S => ?_))
  refine lT (af _ _ ?_)
  obtain rfl := tS h
  exact wp_ret (rThen (sRet (iv 8) S (rsl1 rfl (rvT (t := 2) (v := iv 8) S rfl)) ⟨(), rfl, S.mem.sel [] [] (by decide) rfl rfl⟩))
 refine sCondF S rfl a8 ?_
 refine wp_skip (leafT (au _ _ ?_))
 refine sSeq (fun ax ag => sSeq (fun ay ah => sRegion (sM S fun a S => ?_)))
 obtain ⟨a0, ai, h⟩ := bS h
 have S1 := S.mem
 refine sCq [.slice aa p0.length ab] (.tuple #[iv a0.1, iv a0.2]) S callee65 (S1.quiet [0] rfl) (fun E1 w1 S1 => c_stitch_sum E1 w1 p0 (.slice aa p0.length ab) a0 ai S1) fun a w S => ?_
 refine sM S fun a S => ?_
 refine sExtract (vs := [iv a0.1, iv a0.2]) (iv a0.1) S (wN rfl) rfl rfl rfl rfl (lb rfl) fun a S => ?_
 refine sExtract (vs := [iv a0.1, iv a0.2]) (iv a0.2) S (wN rfl) rfl rfl rfl rfl (lb rfl) fun a S => ?_
 refine sN S fun a S => ?_
 refine sN S fun a S => ?_
 refine lT (ah _ _ (sSeq (fun az aj => sRegion (sM S fun a S => ?_))))
 refine sM S fun a S => ?_
 refine sMax2 (p := a0.1) (q := a0.2) S (wN rfl) rfl rfl rfl rfl (lb rfl) fun a S => ?_
 refine sBin _ S (wN rfl) rfl rfl rfl (bGt _ _ _ _ .i64 (if a0.1 < a0.2 then a0.2 else a0.1) 200) rfl (lb rfl) fun a S => ?_
 refine lT (aj _ _ ?_)
 rcases iS h with ⟨a9, h⟩ | ⟨a9, h⟩
 ·refine sCondT S rfl a9 ?_
  refine sSeq (fun aA ak => sRegion (sN S fun a S => ?_))
  refine lT (ak _ _ ?_)
  obtain rfl := tS h
  exact wp_ret (rThen (sRet (iv 4) S (rsl1 rfl (rvT (t := 2) (v := iv 4) S rfl)) ⟨(), rfl, S.mem.sel [] [] (by decide) rfl rfl⟩))
 refine sCondF S rfl a9 ?_
 refine wp_skip (leafT (ag _ _ ?_))
 refine sSeq (fun aC al => sRegion (sN S fun a S => ?_))
 refine lT (al _ _ ?_)
 obtain rfl := tS h
 exact wp_ret (sRet (iv 0) S (rsl1 rfl (rvT (t := 2) (v := iv 0) S rfl)) ⟨(), rfl, S.mem.sel [] [] (by decide) rfl rfl⟩)
noncomputable def F_stitch_Uses (p0 : (List api_Stitch)) : Option (Int × Int) :=
 (F_stitch_All p0).bind fun r6 =>
 if r6 != 0 then
  some (0, r6)
 else
  (F_stitch_sum p0).bind fun a0 =>
  some (a0.1, 0)
theorem c_stitch_Uses (E : Nat → Prop) (w0 : World) (p0 : (List api_Stitch)) (v0 : Value) (r : (Int × Int)) (h : F_stitch_Uses p0 = some r) (S : St0 E [] w0 w0 [] [fRep (rL r_api_Stitch) (v0) p0]) :
 Calls Try.prog 53 #[v0] w0 (Ret (X := Unit) E [] w0 (fun _ => .tuple #[.int .i64 r.1, .int .i64 r.2]) (fun _ => []) (fun _ => [])) := by
 unfold F_stitch_Uses at h
 obtain ⟨a8, a9, _, rfl, _⟩ := S.know (i := 0) (e := fRep (rL r_api_Stitch) (v0) p0) rfl
 refine sEnter (args := [.slice a8 p0.length a9]) 18 Try.func53 rfl rfl (by simp) S (fun a S => ?_)
 refine sSeq (fun K3 ag => sRegion (sN S fun a S => ?_))
 refine sN S fun a S => ?_
 refine lT (ag _ _ (sSeq (fun K4 ah => sSeq (fun K5 ai => sRegion (sM S fun a S => ?_)))))
 obtain ⟨r6, aj, h⟩ := bS h
 have S1 := S.mem
 refine sCq [.slice a8 p0.length a9] (iv r6) S callee64 (S1.quiet [0] rfl) (fun E1 w1 S1 => c_stitch_All E1 w1 p0 (.slice a8 p0.length a9) r6 aj S1) fun a w S => ?_
 refine sN S fun a S => ?_
 refine lT (ai _ _ (sSeq (fun K8 ak => sRegion (sM S fun a S => ?_))))
 refine sBin _ S (wN rfl) rfl rfl rfl (bNe _ _ _ _ .i64 r6 0) rfl (lb rfl) fun a S => ?_
 refine lT (ak _ _ ?_)
 rcases iS h with ⟨aa, h⟩ | ⟨aa, h⟩
 ·refine sCondT S rfl aa ?_
  refine sSeq (fun al ab => sRegion (sM S fun a S => ?_))
  refine sN S fun a S => ?_
  refine sN S fun a S => ?_
  refine lT (ab _ _ ?_)
  obtain rfl := tS h
  exact wp_ret (rThen (sRet (.tuple #[iv 0, iv r6]) S (rsl2 rfl (rvT (t := 2) (v := iv 0) S rfl) (rvT (t := 3) (v := iv r6) S rfl)) ⟨(), rfl, S.mem.sel [] [] (by decide) rfl rfl⟩))
 refine sCondF S rfl aa ?_
 refine wp_skip (leafT (ah _ _ ?_))
 refine sSeq (fun am ac => sRegion (sM S fun a S => ?_))
 obtain ⟨a0, ae, h⟩ := bS h
 have S1 := S.mem
 refine sCq [.slice a8 p0.length a9] (.tuple #[iv a0.1, iv a0.2]) S callee65 (S1.quiet [0] rfl) (fun E1 w1 S1 => c_stitch_sum E1 w1 p0 (.slice a8 p0.length a9) a0 ae S1) fun a w S => ?_
 refine sM S fun a S => ?_
 refine sExtract (vs := [iv a0.1, iv a0.2]) (iv a0.1) S (wN rfl) rfl rfl rfl rfl (lb rfl) fun a S => ?_
 refine sExtract (vs := [iv a0.1, iv a0.2]) (iv a0.2) S (wN rfl) rfl rfl rfl rfl (lb rfl) fun a S => ?_
 refine sN S fun a S => ?_
 refine sN S fun a S => ?_
 refine lT (ac _ _ (sSeq (fun ao af => sRegion (sM S fun a S => ?_))))
 refine sN S fun a S => ?_
 refine sN S fun a S => ?_
 refine lT (af _ _ ?_)
 obtain rfl := tS h
 exact wp_ret (sRet (.tuple #[iv a0.1, iv 0]) S (rsl2 rfl (rvT (t := 2) (v := iv a0.1) S rfl) (rvT (t := 3) (v := iv 0) S rfl)) ⟨(), rfl, S.mem.sel [] [] (by decide) rfl rfl⟩)
noncomputable def F_stitch_Makes (p0 : (List api_Stitch)) : Option (Int × Int) :=
 (F_stitch_All p0).bind fun r6 =>
 if r6 != 0 then
  some (0, r6)
 else
  (F_stitch_sum p0).bind fun a0 =>
  some (a0.2, 0)
theorem c_stitch_Makes (E : Nat → Prop) (w0 : World) (p0 : (List api_Stitch)) (v0 : Value) (r : (Int × Int)) (h : F_stitch_Makes p0 = some r) (S : St0 E [] w0 w0 [] [fRep (rL r_api_Stitch) (v0) p0]) :
 Calls Try.prog 54 #[v0] w0 (Ret (X := Unit) E [] w0 (fun _ => .tuple #[.int .i64 r.1, .int .i64 r.2]) (fun _ => []) (fun _ => [])) := by
 unfold F_stitch_Makes at h
 obtain ⟨a8, a9, _, rfl, _⟩ := S.know (i := 0) (e := fRep (rL r_api_Stitch) (v0) p0) rfl
 refine sEnter (args := [.slice a8 p0.length a9]) 18 Try.func54 rfl rfl (by simp) S (fun a S => ?_)
 refine sSeq (fun K3 ag => sRegion (sN S fun a S => ?_))
 refine sN S fun a S => ?_
 refine lT (ag _ _ (sSeq (fun K4 ah => sSeq (fun K5 ai => sRegion (sM S fun a S => ?_)))))
 obtain ⟨r6, aj, h⟩ := bS h
 have S1 := S.mem
 refine sCq [.slice a8 p0.length a9] (iv r6) S callee64 (S1.quiet [0] rfl) (fun E1 w1 S1 => c_stitch_All E1 w1 p0 (.slice a8 p0.length a9) r6 aj S1) fun a w S => ?_
 refine sN S fun a S => ?_
 refine lT (ai _ _ (sSeq (fun K8 ak => sRegion (sM S fun a S => ?_))))
 refine sBin _ S (wN rfl) rfl rfl rfl (bNe _ _ _ _ .i64 r6 0) rfl (lb rfl) fun a S => ?_
 refine lT (ak _ _ ?_)
 rcases iS h with ⟨aa, h⟩ | ⟨aa, h⟩
 ·refine sCondT S rfl aa ?_
  refine sSeq (fun al ab => sRegion (sM S fun a S => ?_))
  refine sN S fun a S => ?_
  refine sN S fun a S => ?_
  refine lT (ab _ _ ?_)
  obtain rfl := tS h
  exact wp_ret (rThen (sRet (.tuple #[iv 0, iv r6]) S (rsl2 rfl (rvT (t := 2) (v := iv 0) S rfl) (rvT (t := 3) (v := iv r6) S rfl)) ⟨(), rfl, S.mem.sel [] [] (by decide) rfl rfl⟩))
 refine sCondF S rfl aa ?_
 refine wp_skip (leafT (ah _ _ ?_))
 refine sSeq (fun am ac => sRegion (sM S fun a S => ?_))
 obtain ⟨a0, ae, h⟩ := bS h
 have S1 := S.mem
 refine sCq [.slice a8 p0.length a9] (.tuple #[iv a0.1, iv a0.2]) S callee65 (S1.quiet [0] rfl) (fun E1 w1 S1 => c_stitch_sum E1 w1 p0 (.slice a8 p0.length a9) a0 ae S1) fun a w S => ?_
 refine sM S fun a S => ?_
 refine sExtract (vs := [iv a0.1, iv a0.2]) (iv a0.1) S (wN rfl) rfl rfl rfl rfl (lb rfl) fun a S => ?_
 refine sExtract (vs := [iv a0.1, iv a0.2]) (iv a0.2) S (wN rfl) rfl rfl rfl rfl (lb rfl) fun a S => ?_
 refine sN S fun a S => ?_
 refine sN S fun a S => ?_
 refine lT (ac _ _ (sSeq (fun ao af => sRegion (sM S fun a S => ?_))))
 refine sN S fun a S => ?_
 refine sN S fun a S => ?_
 refine lT (af _ _ ?_)
 obtain rfl := tS h
 exact wp_ret (sRet (.tuple #[iv a0.2, iv 0]) S (rsl2 rfl (rvT (t := 2) (v := iv a0.2) S rfl) (rvT (t := 3) (v := iv 0) S rfl)) ⟨(), rfl, S.mem.sel [] [] (by decide) rfl rfl⟩)
noncomputable def chart_counted_1_l1 {σ τ : Type} (p0 : api_Chart) (B : σ → (Int × chart_count) → Option (σ ⊕ τ)) : (Int × Int × σ) → Option ((Int × Int × σ) ⊕ ((σ ⊕ τ) ⊕ (σ))) := fun s0 => match s0 with
 | (a0, a8, gz13) =>
  if decide (a8 < (p0.Rows.length : Int)) then
   (idxO p0.Rows a8).bind fun ac =>
   (F_stitch_Uses ac.Cells).bind fun a9 =>
   Option.bind (α := (Int × Int)) (
    if a9.2 != 0 then
     some (0, a9.2)
    else
     if a9.1 != a0 then
      some (0, 26)
     else
      (F_stitch_Makes ac.Cells).bind fun ae =>
      some (ae.1, 0)) fun (aa, ab) =>
   (B gz13 (a8, (chart_count.mk a0 aa ab))).bind fun af =>
   match af with
   | .inl gz53 =>
    if ((chart_count.mk a0 aa ab).e) != 0 then
     some (.inr (.inl (.inl gz53)))
    else
     some (.inl ((chart_count.mk a0 aa ab).after, w64 (a8 + 1), gz53))
   | .inr tz54 =>
    some (.inr (.inl (.inr tz54)))
  else
   some (.inr (.inr gz13))
noncomputable def I_chart_counted_1 (p0 : api_Chart) (σ τ : Type) (B : σ → (Int × chart_count) → Option (σ ⊕ τ)) (gz0 : σ) : Option (σ ⊕ τ) :=
 (whileO (chart_counted_1_l1 p0 B) (p0.Start, 0, gz0)).bind fun z0 => match z0 with
  | .inl z =>
   some z
  | .inr gz17 =>
   some (.inl gz17)
theorem it_chart_counted_1 (p0 : api_Chart) (v0 : Value) : SeqF Try.prog 52 #[v0] (fA2 (rI .i64) r_chart_count) (I_chart_counted_1 p0) [fPtr r_api_Chart (v0) p0] := by
 refine seqF_of (lb := [v0]) (fun σ τ B gz0 r h l J Jx E w0 hC S hJ => ?_)
 unfold I_chart_counted_1 at h
 refine sEnterI (args := [.func (.yield l) #[] #[], v0]) 57 Try.func52 rfl rfl (by simp) S (fun a S => ?_)
 refine sSeq (fun K1 aW => sRegion ?_)
 obtain ⟨q2, aX, S⟩ := pFld (P := Try.prog) (r := r_api_Chart) (s2 := (rI .i64)) (g := (·.Start)) (q := v0) (z := p0) 24 0 0 0 S rfl rfl comp_api_Chart_Start
 refine sFldV (q := v0) S (wN rfl) rfl rfl aX rfl (lb rfl) fun a S => ?_
 obtain ⟨u4, S⟩ := pLoad (r := (rI .i64)) (q := q2) (x := p0.Start) 0 S rfl
 obtain rfl : u4 = iv p0.Start := S.mem.know (i := 1) (e := fRep (rI .i64) (u4) p0.Start) rfl
 refine sLoadV1 (vq := q2) 0 (iv p0.Start) S (wN rfl) rfl rfl rfl rfl rfl (lb rfl) fun a S => ?_
 refine sN S fun a S => ?_
 refine lT (aW _ _ (sSeq (fun K5 aZ => sRegion ?_)))
 obtain ⟨q6, ba, S⟩ := pFld (P := Try.prog) (r := r_api_Chart) (s2 := (rL r_api_Row)) (g := (·.Rows)) (q := v0) (z := p0) 24 1 3 1 S rfl rfl comp_api_Chart_Rows
 refine sFldV (q := v0) S (wN rfl) rfl rfl ba rfl (lb rfl) fun a S => ?_
 obtain ⟨u8, S⟩ := pLoad (r := (rL r_api_Row)) (q := q6) (x := p0.Rows) 0 S rfl
 obtain ⟨ap, ag, _, rfl, _⟩ := S.mem.know (i := 1) (e := fRep (rL r_api_Row) (u8) p0.Rows) rfl
 refine sLoadV1 (vq := q6) 0 (.slice ap p0.Rows.length ag) S (wN rfl) rfl rfl rfl rfl rfl (lb rfl) fun a S => ?_
 refine sLen S (wN rfl) rfl Try.underlying22 rfl rfl (lb rfl) fun a S => ?_
 refine sM S fun a S => ?_
 refine lT (aZ _ _ (wp_block ?_))
 obtain ⟨bh, hl, au⟩ := bS h
 refine sLoop hl (fun s0 a w => match s0 with | (a0, ai, gz13) => ∃ E w0, J gz13 E w0 ∧ St [] E [] w0 57 a w [(0, .func (.yield l) #[] #[]), (3, iv a0), (12, .slice ap p0.Rows.length ag), (13, iv (p0.Rows.length : Int)), (14, iv ai)] [] [fRep (rL r_api_Row) (.slice ap p0.Rows.length ag) p0.Rows]) ⟨_, _, hJ, S.fix [] [1] (by decide) rfl rfl rfl⟩ ?_
 clear hl h
 intro s0 a w c0 hI h aj
 obtain ⟨a0, ai, gz13⟩ := s0
 unfold chart_counted_1_l1 at h
 dsimp only at h hI
 obtain ⟨E, w0, hJ, S⟩ := hI
 refine sSeq (fun bi av => sRegion (sBin _ S (wN rfl) rfl rfl rfl (bLt _ _ _ _ .i64 ai (p0.Rows.length : Int)) rfl (lb rfl) fun a S => ?_))
 refine lT (av _ _ (sSeq (fun bj aw => ?_)))
 rcases iS h with ⟨ak, h⟩ | ⟨ak, h⟩
 rotate_left
 ·refine sCondF S rfl ak ?_
  obtain rfl := tS h
  obtain rfl := aj _ rfl
  have h := au
  try dsimp only at h
  exact wp_exit (xThen (xThen (xHit (sEnd (.tuple #[]) S (res0 rfl) (sGoI S hC hJ (Option.some.inj h) _)))))
 refine sCondT S rfl ak ?_
 refine wp_skip (leafT (aw _ _ ?_))
 refine sSeq (fun bk ax => wp_block ?_)
 refine sSeq (fun bl ay => sRegion (sM S fun a S => ?_))
 obtain ⟨ac, az, h⟩ := bS h
 obtain ⟨aR, aA, S⟩ := pIdx (P := Try.prog) (r := r_api_Row) (v := .slice ap p0.Rows.length ag) (xs := p0.Rows) (j := ai) 22 65 0 S Try.underlying22 rfl rfl az
 refine sIdxV S (wN rfl) rfl rfl rfl aA rfl (lb rfl) fun a S => ?_
 obtain ⟨bb, S⟩ := pLoad (r := r_api_Row) (q := aR) (x := ac) 0 S rfl
 obtain ⟨bc, rfl, aq⟩ := S.mem.know (i := 1) (e := fRep r_api_Row (bb) ac) rfl
 have S := S.learn (fRep (rL r_api_Stitch) bc ac.Cells) aq
 obtain ⟨aa, ab, _, rfl, _⟩ := aq
 refine sLoadVN (vq := aR) 1 [.bool ac.Back, .slice aa ac.Cells.length ab] S (wN rfl) rfl rfl rfl rfl rfl rfl (lb rfl) fun a S => ?_
 refine sAlloc (.agg #[.bool false, .slice none 0 0]) S (wN rfl) rfl rfl [.bool false, .slice none 0 0] rfl rfl (lb rfl) fun a aC w S => ?_
 refine sN S fun a S => ?_
 refine sStore (p := aC) (off := 0) (T := 65) (vs := [.bool false, .slice none 0 0]) (v := .agg #[.bool ac.Back, .slice aa ac.Cells.length ab]) 0 [.bool ac.Back, .slice aa ac.Cells.length ab] S (wN rfl) rfl rfl rfl rfl rfl rfl rfl (by simp) rfl fun a w S => ?_
 refine lT (ay _ _ (sSeq (fun bm aG => sRegion (sM S fun a S => ?_))))
 refine sBuild [(0, iv a0)] [iv a0, iv 0, iv 0] S (wN rfl) rfl rfl rfl rfl (lb rfl) fun a S => ?_
 refine sAlloc (.agg #[iv 0, iv 0, iv 0]) S (wN rfl) rfl rfl [iv 0, iv 0, iv 0] rfl rfl (lb rfl) fun a ae w S => ?_
 refine sStore (p := ae) (off := 0) (T := 89) (vs := [iv 0, iv 0, iv 0]) (v := .agg #[iv a0, iv 0, iv 0]) 0 [iv a0, iv 0, iv 0] S (wN rfl) rfl rfl rfl rfl rfl rfl rfl (by simp) rfl fun a w S => ?_
 refine lT (aG _ _ (sSeq (fun bn aH => sRegion (sField (b := aC) (off := 0) 1 1 S (wN rfl) rfl rfl rfl rfl rfl (lb rfl) fun a S => ?_))))
 refine sLoad1 1 (.slice aa ac.Cells.length ab) S (wN rfl) rfl rfl rfl rfl rfl rfl (lb rfl) fun a S => ?_
 obtain ⟨af, aI, h⟩ := bS h
 have S1 := S.mem
 refine sCq [.slice aa ac.Cells.length ab] (.tuple #[iv af.1, iv af.2]) S callee53 (S1.quiet [0] rfl) (fun E1 w1 S1 => c_stitch_Uses E1 w1 ac.Cells (.slice aa ac.Cells.length ab) af aI S1) fun a w S => ?_
 refine sM S fun a S => ?_
 refine sExtract (vs := [iv af.1, iv af.2]) (iv af.1) S (wN rfl) rfl rfl rfl rfl (lb rfl) fun a S => ?_
 refine sExtract (vs := [iv af.1, iv af.2]) (iv af.2) S (wN rfl) rfl rfl rfl rfl (lb rfl) fun a S => ?_
 refine sN S fun a S => ?_
 refine sN S fun a S => ?_
 refine lT (aH _ _ ?_)
 obtain ⟨bf, h, bg⟩ := bS h
 refine sCut (fun a w => ∃ a8, ∃ a9, (a8, a9) = bf ∧ ∃ E w0, J gz13 E w0 ∧ St [] E [] w0 57 a w [(0, .func (.yield l) #[] #[]), (4, iv ai), (6, .pointer (some ⟨ae, 0, none⟩)), (12, .slice ap p0.Rows.length ag), (13, iv (p0.Rows.length : Int)), (14, iv ai)] [eBox ae 89 [iv a0, iv a8, iv a9]] [fRep (rL r_api_Row) (.slice ap p0.Rows.length ag) p0.Rows]) ?_ (fun a w hI => ?_)
 ·refine wp_block ?_
  refine sSeq (fun bo aJ => sRegion (sM S fun a S => ?_))
  refine sBin _ S (wN rfl) rfl rfl rfl (bNe _ _ _ _ .i64 af.2 0) rfl (lb rfl) fun a S => ?_
  refine sN S fun a S => ?_
  refine lT (aJ _ _ ?_)
  rcases iS h with ⟨al, h⟩ | ⟨al, h⟩
  ·refine sCondT S rfl al ?_
   refine sRegion (sM S fun a S => ?_)
   refine sField (b := ae) (off := 0) 2 2 S (wN rfl) rfl rfl rfl rfl rfl (lb rfl) fun a S => ?_
   refine sStore (p := ae) (off := 2) (T := 89) (vs := [iv a0, iv 0, iv 0]) (v := iv af.2) 0 [iv af.2] S (wN rfl) rfl rfl rfl rfl rfl rfl rfl (by simp) rfl fun a w S => ?_
   exact leafL (leafB (leafT (⟨0, af.2, Option.some.inj h, _, _, hJ, S.fix [0] [4] (by decide) rfl rfl rfl⟩)))
  refine sCondF S rfl al ?_
  refine sSeq (fun bp aK => sRegion (sM S fun a S => ?_))
  refine sM S fun a S => ?_
  refine sBin _ S (wN rfl) rfl rfl rfl (bNe _ _ _ _ .i64 af.1 a0) rfl (lb rfl) fun a S => ?_
  refine sN S fun a S => ?_
  refine lT (aK _ _ ?_)
  rcases iS h with ⟨am, h⟩ | ⟨am, h⟩
  ·refine sCondT S rfl am ?_
   refine sRegion (sField (b := ae) (off := 0) 2 2 S (wN rfl) rfl rfl rfl rfl rfl (lb rfl) fun a S => ?_)
   refine sStore (p := ae) (off := 2) (T := 89) (vs := [iv a0, iv 0, iv 0]) (v := iv 26) 0 [iv 26] S (wN rfl) rfl rfl rfl rfl rfl rfl rfl (by simp) rfl fun a w S => ?_
   exact leafL (leafB (leafT (⟨0, 26, Option.some.inj h, _, _, hJ, S.fix [0] [4] (by decide) rfl rfl rfl⟩)))
  refine sCondF S rfl am ?_
  refine sRegion (sField (b := aC) (off := 0) 1 1 S (wN rfl) rfl rfl rfl rfl rfl (lb rfl) fun a S => ?_)
  refine sLoad1 1 (.slice aa ac.Cells.length ab) S (wN rfl) rfl rfl rfl rfl rfl rfl (lb rfl) fun a S => ?_
  obtain ⟨ah, aL, h⟩ := bS h
  have S1 := S.mem
  refine sCq [.slice aa ac.Cells.length ab] (.tuple #[iv ah.1, iv ah.2]) S callee54 (S1.quiet [0] rfl) (fun E1 w1 S1 => c_stitch_Makes E1 w1 ac.Cells (.slice aa ac.Cells.length ab) ah aL S1) fun a w S => ?_
  refine sM S fun a S => ?_
  refine sExtract (vs := [iv ah.1, iv ah.2]) (iv ah.1) S (wN rfl) rfl rfl rfl rfl (lb rfl) fun a S => ?_
  refine sExtract (vs := [iv ah.1, iv ah.2]) (iv ah.2) S (wN rfl) rfl rfl rfl rfl (lb rfl) fun a S => ?_
  refine sField (b := ae) (off := 0) 1 1 S (wN rfl) rfl rfl rfl rfl rfl (lb rfl) fun a S => ?_
  refine sStore (p := ae) (off := 1) (T := 89) (vs := [iv a0, iv 0, iv 0]) (v := iv ah.1) 0 [iv ah.1] S (wN rfl) rfl rfl rfl rfl rfl rfl rfl (by simp) rfl fun a w S => ?_
  exact leafL (leafB (leafT (⟨ah.1, 0, Option.some.inj h, _, _, hJ, S.fix [0] [4] (by decide) rfl rfl rfl⟩)))
 obtain ⟨a8, a9, rfl, E, w0, hJ, S⟩ := hI
 have h := bg
 try dsimp only at h
 refine sSeq (fun bq aM => sSeq (fun br ar => sRegionY ?_))
 refine sSplitR (by repeat (first | exact roundU_out | exact it_out | exact lo_false | refine lo_then ?_ | refine lo_block ?_)) 3 rfl (fun bt aO => ?_)
 refine sM S fun a S => ?_
 refine sM S fun a S => ?_
 refine sLoadN (p := ae) (off := 0) (T := 89) (vs := [iv a0, iv a8, iv a9]) 0 [iv a0, iv a8, iv a9] S (wN rfl) rfl rfl rfl rfl rfl rfl rfl (lb rfl) fun a S => ?_
 refine leafL ⟨rfl, aO _ _ ?_⟩
 have S := S.learn (fRep r_chart_count (.agg #[iv a0, iv a8, iv a9]) (chart_count.mk a0 a8 a9)) rfl
 have S := S.shutB (r := r_chart_count) (T := 89) (b := ae) (cs := [iv a0, iv a8, iv a9]) 0 (.agg #[iv a0, iv a8, iv a9]) (chart_count.mk a0 a8 a9) rfl rfl (S.mem.know (i := 0) (e := fRep r_chart_count (.agg #[iv a0, iv a8, iv a9]) (chart_count.mk a0 a8 a9)) rfl)
 obtain ⟨bu, hy52, h⟩ := bS h
 refine sYieldI (ai, (chart_count.mk a0 a8 a9)) [iv ai, .agg #[iv a0, iv a8, iv a9]] S hC hJ hy52 (fA2_mk (rfl) (S.mem.know (i := 1) (e := fRep r_chart_count (.agg #[iv a0, iv a8, iv a9]) (chart_count.mk a0 a8 a9)) rfl)) (wN rfl) rfl rfl rfl rfl (by decide) (fun gz53 E a w hb hJ S => ?_) (fun tz54 a w hb hJ S => ?_)
 ·obtain rfl := hb
  dsimp only at h
  refine list_inR (by repeat (first | exact roundU_out | exact it_out | exact lo_false | refine lo_then ?_ | refine lo_block ?_)) _ rfl _ _ ?_
  refine sNot (b := true) S (wN rfl) rfl rfl rfl (lb rfl) fun a S => ?_
  refine sM S fun a S => ?_
  obtain ⟨aS, aP, S⟩ := pFld (P := Try.prog) (r := r_chart_count) (s2 := (rI .i64)) (g := (·.e)) (q := .pointer (some ⟨ae, 0, none⟩)) (z := (chart_count.mk a0 a8 a9)) 89 2 0 2 S rfl rfl comp_chart_count_e
  refine sFldV (q := .pointer (some ⟨ae, 0, none⟩)) S (wG 5 false 49 rfl rfl rfl rfl) rfl rfl aP rfl (lb rfl) fun a S => ?_
  obtain ⟨aT, S⟩ := pLoad (r := (rI .i64)) (q := aS) (x := (chart_count.mk a0 a8 a9).e) 0 S rfl
  obtain rfl : aT = iv ((chart_count.mk a0 a8 a9).e) := S.mem.know (i := 1) (e := fRep (rI .i64) (aT) ((chart_count.mk a0 a8 a9).e)) rfl
  refine sLoadV1 (vq := aS) 0 (iv ((chart_count.mk a0 a8 a9).e)) S (wG 5 false 49 rfl rfl rfl rfl) rfl rfl rfl rfl rfl (lb rfl) fun a S => ?_
  refine sBin _ S (wG 5 false 49 rfl rfl rfl rfl) rfl rfl rfl (bNe _ _ _ _ .i64 ((chart_count.mk a0 a8 a9).e) 0) rfl (lb rfl) fun a S => ?_
  refine sPickF (.bool (((chart_count.mk a0 a8 a9).e) != 0)) S (wN rfl) rfl rfl rfl rfl rfl (lb rfl) fun a S => ?_
  refine lT (ar _ _ ?_)
  rcases iS h with ⟨ao, h⟩ | ⟨ao, h⟩
  ·refine sCondT S rfl ao ?_
   obtain rfl := tS h
   obtain rfl := aj _ rfl
   have h := au
   try dsimp only at h
   exact wp_ret (rThen (rBlock (rThen (rThen (rBlock (sRet (.tuple #[]) S (res0 rfl) (sGoI S hC hJ (Option.some.inj h) _)))))))
  refine sCondF S rfl ao ?_
  refine wp_skip (leafT (aM _ _ ?_))
  refine sRegion ?_
  obtain ⟨aU, aQ, S⟩ := pFld (P := Try.prog) (r := r_chart_count) (s2 := (rI .i64)) (g := (·.after)) (q := .pointer (some ⟨ae, 0, none⟩)) (z := (chart_count.mk a0 a8 a9)) 89 1 3 1 S rfl rfl comp_chart_count_after
  refine sFldV (q := .pointer (some ⟨ae, 0, none⟩)) S (wN rfl) rfl rfl aQ rfl (lb rfl) fun a S => ?_
  obtain ⟨aV, S⟩ := pLoad (r := (rI .i64)) (q := aU) (x := (chart_count.mk a0 a8 a9).after) 0 S rfl
  obtain rfl : aV = iv ((chart_count.mk a0 a8 a9).after) := S.mem.know (i := 1) (e := fRep (rI .i64) (aV) ((chart_count.mk a0 a8 a9).after)) rfl
  refine sLoadV1 (vq := aU) 0 (iv ((chart_count.mk a0 a8 a9).after)) S (wN rfl) rfl rfl rfl rfl rfl (lb rfl) fun a S => ?_
  refine sN S fun a S => ?_
  refine leafL (leafB (leafT (ax _ _ ?_)))
  refine sRegion (sBin _ S (wN rfl) rfl rfl rfl (bAdd _ _ _ _ ai 1) rfl (lb rfl) fun a S => ?_)
  refine sM S fun a S => ?_
  exact lT (⟨((chart_count.mk a0 a8 a9).after, w64 (ai + 1), gz53), (Option.some.inj h).symm, ⟨_, _, hJ, S.fix [] [8] (by decide) rfl rfl rfl⟩⟩)
 ·obtain rfl := hb
  dsimp only at h
  refine list_inR (by repeat (first | exact roundU_out | exact it_out | exact lo_false | refine lo_then ?_ | refine lo_block ?_)) _ rfl _ _ ?_
  refine sNot (b := false) S (wN rfl) rfl rfl rfl (lb rfl) fun a S => ?_
  refine sM S fun a S => ?_
  refine sSkN 3 5 false 49 S rfl rfl rfl rfl fun a S => ?_
  refine sPickT (.bool true) S (wN rfl) rfl rfl rfl rfl rfl (lb rfl) fun a S => ?_
  refine lT (ar _ _ (sCondT S rfl rfl ?_))
  obtain rfl := tS h
  obtain rfl := aj _ rfl
  have h := au
  try dsimp only at h
  exact wp_ret (rThen (rBlock (rThen (rThen (rBlock (sRet (.tuple #[]) S (res0 rfl) (sStopI S hC hJ (Option.some.inj h) _)))))))
noncomputable def chart_Check_l2  : Unit → (Int × chart_count) → Option (Unit ⊕ Int) := fun s0 x0 => match s0, x0 with
 | _, (a8, a0) =>
  if a0.e != 0 then
   some (.inr a0.e)
  else
   some (.inl ())
noncomputable def F_chart_Check (p0 : api_Chart) : Option Int :=
 if decide (100 < (p0.Rows.length : Int)) then
  some 4
 else
  Option.bind (α := Bool) (
   if decide (p0.Start < 0) then
    some true
   else
    some (decide (200 < p0.Start))) fun a0 =>
  if a0 then
   some 8
  else
   (F_chart_counted p0).bind fun a8 =>
   (I_chart_counted_1 a8 _ _ (chart_Check_l2) ()).bind fun z0 => match z0 with
    | .inl _ =>
     some 0
    | .inr a9 =>
     some a9
theorem c_chart_Check (E : Nat → Prop) (w0 : World) (p0 : api_Chart) (v0 : Value) (r : Int) (h : F_chart_Check p0 = some r) (S : St0 E [] w0 w0 [] [fRep r_api_Chart (v0) p0]) :
 Calls Try.prog 39 #[v0] w0 (Ret (X := Unit) E [] w0 (fun _ => .int .i64 r) (fun _ => []) (fun _ => [])) := by
 unfold F_chart_Check at h
 obtain ⟨u1, rfl, az⟩ := S.know (i := 0) (e := fRep r_api_Chart (v0) p0) rfl
 have S := S.learn (fRep (rL r_api_Row) u1 p0.Rows) az
 obtain ⟨a9, aa, _, rfl, _⟩ := az
 refine sEnterM (args := [.agg #[iv p0.Start, .slice a9 p0.Rows.length aa]]) 26 Try.func39 rfl rfl (by simp) S (fun a S => ?_)
 refine sSeq (fun K5 aH => sRegion (sBox (v := .agg #[iv p0.Start, .slice a9 p0.Rows.length aa]) S (wN rfl) rfl rfl [iv p0.Start, .slice a9 p0.Rows.length aa] rfl rfl (lb rfl) fun a b6 w S => ?_))
 refine sAlloc (iv 0) S (wN rfl) rfl rfl [iv 0] rfl rfl (lb rfl) fun a b7 w S => ?_
 refine lT (aH _ _ (sSeq (fun K8 aI => sSeq (fun K9 aJ => sRegion (sField (b := b6) (off := 0) 1 1 S (wN rfl) rfl rfl rfl rfl rfl (lb rfl) fun a S => ?_)))))
 refine sLoad1 1 (.slice a9 p0.Rows.length aa) S (wN rfl) rfl rfl rfl rfl rfl rfl (lb rfl) fun a S => ?_
 refine sLen S (wN rfl) rfl Try.underlying22 rfl rfl (lb rfl) fun a S => ?_
 refine sBin _ S (wN rfl) rfl rfl rfl (bGt _ _ _ _ .i64 (p0.Rows.length : Int) 100) rfl (lb rfl) fun a S => ?_
 refine lT (aJ _ _ ?_)
 rcases iS h with ⟨ae, h⟩ | ⟨ae, h⟩
 ·refine sCondT S rfl ae ?_
  refine sSeq (fun aM al => sRegion (sStore (p := b7) (off := 0) (T := 27) (vs := [iv 0]) (v := iv 4) 0 [iv 4] S (wN rfl) rfl rfl rfl rfl rfl rfl rfl (by simp) rfl fun a w S => ?_))
  refine lT (al _ _ ?_)
  obtain rfl := tS h
  exact wp_ret (rThen (sRetM0 (iv 4) S (rsl1 rfl (rv1 (c := 2) (t := 27) (T := 27) (p := b7) 0 (iv 4) S rfl rfl rfl)) ⟨(), rfl, S.mem.sel [] [] (by decide) rfl rfl⟩))
 refine sCondF S rfl ae ?_
 refine wp_skip (leafT (aI _ _ ?_))
 refine sSeq (fun aO am => ?_)
 obtain ⟨aK, h, aL⟩ := bS h
 refine sCut (fun a w => ∃ ao, ao = aK ∧ St [] E [] w0 26 a w [(1, .pointer (some ⟨b6, 0, none⟩)), (2, .pointer (some ⟨b7, 0, none⟩)), (16, .bool ao)] [eBox b6 24 [iv p0.Start, .slice a9 p0.Rows.length aa], eBox b7 27 [iv 0]] [fRep (rL r_api_Row) (.slice a9 p0.Rows.length aa) p0.Rows]) ?_ (fun a w hI => ?_)
 ·refine sRegion (sField (b := b6) (off := 0) 0 0 S (wN rfl) rfl rfl rfl rfl rfl (lb rfl) fun a S => ?_)
  refine sLoad1 1 (iv p0.Start) S (wN rfl) rfl rfl rfl rfl rfl rfl (lb rfl) fun a S => ?_
  refine sBin _ S (wN rfl) rfl rfl rfl (bLt _ _ _ _ .i64 p0.Start 0) rfl (lb rfl) fun a S => ?_
  refine sM S fun a S => ?_
  rcases iS h with ⟨a8, h⟩ | ⟨a8, h⟩
  ·refine sSkN 3 3 false 12 S rfl rfl a8 rfl fun a S => ?_
   refine sPickT (.bool true) S (wN rfl) rfl rfl a8 rfl rfl (lb rfl) fun a S => ?_
   exact lT (⟨true, Option.some.inj h, S.fix [1, 0] [0] (by decide) rfl rfl rfl⟩)
  refine sField (b := b6) (off := 0) 0 0 S (wG 3 false 12 rfl rfl rfl a8) rfl rfl rfl rfl rfl (lb rfl) fun a S => ?_
  refine sLoad1 1 (iv p0.Start) S (wG 3 false 12 rfl rfl rfl a8) rfl rfl rfl rfl rfl rfl (lb rfl) fun a S => ?_
  refine sBin _ S (wG 3 false 12 rfl rfl rfl a8) rfl rfl rfl (bGt _ _ _ _ .i64 p0.Start 200) rfl (lb rfl) fun a S => ?_
  refine sPickF (.bool (decide (200 < p0.Start))) S (wN rfl) rfl rfl a8 rfl rfl (lb rfl) fun a S => ?_
  exact lT (⟨decide (200 < p0.Start), Option.some.inj h, S.fix [1, 0] [0] (by decide) rfl rfl rfl⟩)
 obtain ⟨ao, rfl, S⟩ := hI
 have h := aL
 try dsimp only at h
 rcases iS h with ⟨af, h⟩ | ⟨af, h⟩
 ·refine sCondT S rfl af ?_
  refine sSeq (fun aP ap => sRegion (sStore (p := b7) (off := 0) (T := 27) (vs := [iv 0]) (v := iv 8) 1 [iv 8] S (wN rfl) rfl rfl rfl rfl rfl rfl rfl (by simp) rfl fun a w S => ?_))
  refine lT (ap _ _ ?_)
  obtain rfl := tS h
  exact wp_ret (rThen (sRetM0 (iv 8) S (rsl1 rfl (rv1 (c := 2) (t := 27) (T := 27) (p := b7) 0 (iv 8) S rfl rfl rfl)) ⟨(), rfl, S.mem.sel [] [] (by decide) rfl rfl⟩))
 refine sCondF S rfl af ?_
 refine wp_skip (leafT (am _ _ ?_))
 refine sSeq (fun aQ aq => sSeq (fun aR ar => sRegion (sLoadN (p := b6) (off := 0) (T := 24) (vs := [iv p0.Start, .slice a9 p0.Rows.length aa]) 0 [iv p0.Start, .slice a9 p0.Rows.length aa] S (wN rfl) rfl rfl rfl rfl rfl rfl rfl (lb rfl) fun a S => ?_)))
 obtain ⟨ag, au, h⟩ := bS h
 have S := S.learn (fRep r_api_Chart (.agg #[iv p0.Start, .slice a9 p0.Rows.length aa]) p0) ⟨_, rfl, S.mem.know (i := 0) (e := fRep (rL r_api_Row) (.slice a9 p0.Rows.length aa) p0.Rows) rfl⟩
 refine sCall (X := Value) (f := 42) (vs := [.agg #[iv p0.Start, .slice a9 p0.Rows.length aa]]) (val := c_chart_counted_val ag) (B' := fun _ => []) (D' := c_chart_counted_D ag) [] [eBox b6 24 [iv p0.Start, .slice a9 p0.Rows.length aa], eBox b7 27 [iv 0]] [fRep r_api_Chart (.agg #[iv p0.Start, .slice a9 p0.Rows.length aa]) p0] [0, 1] [0] S (wN rfl) rfl callee42 rfl (by decide) rfl rfl (fun E1 w1 S1 => c_chart_counted E1 w1 p0 (.agg #[iv p0.Start, .slice a9 p0.Rows.length aa]) ag au S1) rfl (lb rfl) fun ah a w S => ?_
 refine lT (ar _ _ (wp_block ?_))
 obtain ⟨aS, ac, ai⟩ := bS h
 replace S : St [] E [] w0 26 a w [(2, .pointer (some ⟨b7, 0, none⟩)), (18, .func (.func 52) #[] #[ah])] [eBox b7 27 [iv 0]] [fPtr r_api_Chart (ah) ag] := S.fix [1] [0] (by decide) rfl rfl rfl
 refine sRange2 (B := chart_Check_l2) (fun s0 L D => match s0 with | _ => L = [eBox b7 27 [iv 0]] ∧ D = [fPtr r_api_Chart (ah) ag]) (fun t0 c L D => match t0 with | ak => c = .ret ∧ L = [eBox b7 27 [iv ak]] ∧ D = []) [0] S ac rfl callee52 (it_chart_counted_1 ag ah) rfl (by decide) (by decide) ⟨rfl, rfl⟩ ?_ ?_ ?_
 ·intro E l0 s0 aA a0 aC aG b L D K a w0 hK hIL hB S
  clear ac ai h hK
  unfold chart_Check_l2 at hB
  dsimp only at hB hIL
  obtain ⟨rfl, rfl⟩ := hIL
  have h := hB
  clear hB
  obtain rfl : aC = iv aA := S.mem.know (i := 0) (e := fRep (rI .i64) (aC) aA) rfl
  obtain rfl : aG = .agg #[iv a0.before, iv a0.after, iv a0.e] := S.mem.know (i := 1) (e := fRep r_chart_count (aG) a0) rfl
  refine sRegionR (by repeat (first | exact roundU_out | exact it_out | exact lo_false | refine lo_then ?_ | refine lo_block ?_)) rfl ?_
  refine sAlloc (.agg #[iv 0, iv 0, iv 0]) S (wN rfl) rfl rfl [iv 0, iv 0, iv 0] rfl rfl (lb rfl) fun a av w S => ?_
  refine sStore (p := av) (off := 0) (T := 89) (vs := [iv 0, iv 0, iv 0]) (v := .agg #[iv a0.before, iv a0.after, iv a0.e]) 0 [iv a0.before, iv a0.after, iv a0.e] S (wN rfl) rfl rfl rfl rfl rfl rfl rfl (by simp) rfl fun a w S => ?_
  refine lT (⟨_, _, _, S, fun K a w0 hK S => ?_⟩)
  refine wpIn_block ?_
  refine sSeqR (fun aT aw => sRegionR (by repeat (first | exact roundU_out | exact it_out | exact lo_false | refine lo_then ?_ | refine lo_block ?_)) rfl ?_)
  refine sField (b := av) (off := 0) 2 2 S (wN rfl) rfl rfl rfl rfl rfl (lb rfl) fun a S => ?_
  refine sLoad1 0 (iv a0.e) S (wN rfl) rfl rfl rfl rfl rfl rfl (lb rfl) fun a S => ?_
  refine sBin _ S (wN rfl) rfl rfl rfl (bNe _ _ _ _ .i64 a0.e 0) rfl (lb rfl) fun a S => ?_
  refine lT (aw _ _ ?_)
  rcases iS h with ⟨aj, h⟩ | ⟨aj, h⟩
  rotate_left
  ·refine sCondFR S rfl aj ?_
   exact wpIn_skip (leafB (rnN () _ _ [] (Option.some.inj h) ⟨rfl, rfl⟩ (S.fix [1] [2] (by decide) rfl rfl rfl)))
  refine sCondTR S rfl aj ?_
  refine sSeqR (fun aU ax => sRegionR (by repeat (first | exact roundU_out | exact it_out | exact lo_false | refine lo_then ?_ | refine lo_block ?_)) rfl ?_)
  refine sField (b := av) (off := 0) 2 2 S (wN rfl) rfl rfl rfl rfl rfl (lb rfl) fun a S => ?_
  refine sLoad1 0 (iv a0.e) S (wN rfl) rfl rfl rfl rfl rfl rfl (lb rfl) fun a S => ?_
  refine sStore (p := b7) (off := 0) (T := 27) (vs := [iv 0]) (v := iv a0.e) 1 [iv a0.e] S (wN rfl) rfl rfl rfl rfl rfl rfl rfl (by simp) rfl fun a w S => ?_
  refine lT (ax _ _ ?_)
  exact wpIn_ret (rBlock (rnR a0.e _ _ [] (Option.some.inj h) ⟨rfl, rfl, rfl⟩ (S.fix [0] [] (by decide) rfl rfl rfl)))
 ·intro ab s0 L D a w hr hIL S
  clear h
  obtain rfl := hr
  dsimp only at ai hIL
  obtain ⟨rfl, rfl⟩ := hIL
  have h := ai
  clear ai ac
  replace S : St [mark ab] E [] w0 26 a w [(2, .pointer (some ⟨b7, 0, none⟩)), (18, .func (.func 52) #[] #[ah])] [eBox b7 27 [iv 0], eDef ab] [fPtr r_api_Chart (ah) ag] := S
  refine leafB (leafT (aq _ _ ?_))
  refine sSeq (fun aV ay => sRegion (sStore (p := b7) (off := 0) (T := 27) (vs := [iv 0]) (v := iv 0) 0 [iv 0] S (wN rfl) rfl rfl rfl rfl rfl rfl rfl (by simp) rfl fun a w S => ?_))
  refine lT (ay _ _ (wp_ret (sRetM1 1 S rfl (fun a w S => ?_))))
  obtain rfl := tS h
  exact sFin (iv 0) S (rsl1 rfl (rv1 (c := 2) (t := 27) (T := 27) (p := b7) 0 (iv 0) S rfl rfl rfl)) ⟨(), rfl, S.mem.sel [] [] (by decide) rfl rfl⟩
 ·intro ab c0 ak L D a w hr hIX S
  clear h
  obtain rfl := hr
  dsimp only at ai hIX
  obtain ⟨rfl, rfl, rfl⟩ := hIX
  have h := ai
  clear ai ac
  replace S : St [mark ab] E [] w0 26 a w [(2, .pointer (some ⟨b7, 0, none⟩)), (18, .func (.func 52) #[] #[ah])] [eBox b7 27 [iv ak], eDef ab] [] := S
  refine wp_ret (rBlock (rThen (sRetM1 1 S rfl (fun a w S => ?_))))
  obtain rfl := tS h
  exact sFin (iv ak) S (rsl1 rfl (rv1 (c := 2) (t := 27) (T := 27) (p := b7) 0 (iv ak) S rfl rfl rfl)) ⟨(), rfl, S.mem.sel [] [] (by decide) rfl rfl⟩
noncomputable def F_slices_Backward___api_Stitch_api_Stitch_ (p0 : (List api_Stitch)) : Option (List api_Stitch) :=
 some p0
def c_slices_Backward___api_Stitch_api_Stitch__val (r : (List api_Stitch)) (x : Value) : Value := .func (.func 73) #[] #[x]
def c_slices_Backward___api_Stitch_api_Stitch__D (r : (List api_Stitch)) (x : Value) : List Fact := [fPtr (rL r_api_Stitch) x r]
theorem c_slices_Backward___api_Stitch_api_Stitch_ (E : Nat → Prop) (w0 : World) (p0 : (List api_Stitch)) (v0 : Value) (r : (List api_Stitch)) (h : F_slices_Backward___api_Stitch_api_Stitch_ p0 = some r) (S : St0 E [] w0 w0 [] [fRep (rL r_api_Stitch) (v0) p0]) :
 Calls Try.prog 66 #[v0] w0 (Ret (X := Value) E [] w0 (c_slices_Backward___api_Stitch_api_Stitch__val r) (fun _ => []) (c_slices_Backward___api_Stitch_api_Stitch__D r)) := by
 unfold F_slices_Backward___api_Stitch_api_Stitch_ at h
 obtain ⟨a0, a8, _, rfl, _⟩ := S.know (i := 0) (e := fRep (rL r_api_Stitch) (v0) p0) rfl
 refine sEnter (args := [.slice a0 p0.length a8]) 4 Try.func66 rfl rfl (by simp) S (fun a S => ?_)
 refine sSeq (fun K3 a9 => sRegion (sBox (v := .slice a0 p0.length a8) S (wN rfl) rfl rfl [.slice a0 p0.length a8] rfl rfl (lb rfl) fun a b4 w S => ?_))
 refine sN S fun a S => ?_
 refine lT (a9 _ _ (sSeq (fun K5 aa => sRegion (sFunc (g := 73) (vs := [.pointer (some ⟨b4, 0, none⟩)]) S (wN rfl) rfl rfl rfl (lb rfl) fun a S => ?_))))
 refine sN S fun a S => ?_
 refine lT (aa _ _ ?_)
 have S := S.shutB (r := (rL r_api_Stitch)) (T := 62) (b := b4) (cs := [.slice a0 p0.length a8]) 0 (.slice a0 p0.length a8) p0 rfl rfl (S.mem.know (i := 0) (e := fRep (rL r_api_Stitch) (.slice a0 p0.length a8) p0) rfl)
 obtain rfl := tS h
 exact wp_ret (sRet (.func (.func 73) #[] #[.pointer (some ⟨b4, 0, none⟩)]) S (rsl1 rfl (rvT (t := 2) (v := .func (.func 73) #[] #[.pointer (some ⟨b4, 0, none⟩)]) S rfl)) ⟨(.pointer (some ⟨b4, 0, none⟩)), rfl, S.mem.sel [] [0] (by decide) rfl rfl⟩)
noncomputable def slices_Backward___api_Stitch_api_Stitch__1_l1 {σ τ : Type} (p0 : (List api_Stitch)) (B : σ → (Int × api_Stitch) → Option (σ ⊕ τ)) : (Int × σ) → Option ((Int × σ) ⊕ ((σ ⊕ τ) ⊕ (σ))) := fun s0 => match s0 with
 | (s5, gz6) =>
  if decide (0 ≤ s5) then
   (idxO p0 s5).bind fun a0 =>
   (B gz6 (s5, a0)).bind fun a8 =>
   match a8 with
   | .inl gz27 =>
    some (.inl (w64 (s5 - 1), gz27))
   | .inr tz28 =>
    some (.inr (.inl (.inr tz28)))
  else
   some (.inr (.inr gz6))
noncomputable def I_slices_Backward___api_Stitch_api_Stitch__1 (p0 : (List api_Stitch)) (σ τ : Type) (B : σ → (Int × api_Stitch) → Option (σ ⊕ τ)) (gz0 : σ) : Option (σ ⊕ τ) :=
 (whileO (slices_Backward___api_Stitch_api_Stitch__1_l1 p0 B) (w64 ((p0.length : Int) - 1), gz0)).bind fun z0 => match z0 with
  | .inl z =>
   some z
  | .inr gz10 =>
   some (.inl gz10)
theorem it_slices_Backward___api_Stitch_api_Stitch__1 (p0 : (List api_Stitch)) (v0 : Value) : SeqF Try.prog 73 #[v0] (fA2 (rI .i64) r_api_Stitch) (I_slices_Backward___api_Stitch_api_Stitch__1 p0) [fPtr (rL r_api_Stitch) (v0) p0] := by
 refine seqF_of (lb := [v0]) (fun σ τ B gz0 r h l J Jx E w0 hC S hJ => ?_)
 unfold I_slices_Backward___api_Stitch_api_Stitch__1 at h
 refine sEnterI (args := [.func (.yield l) #[] #[], v0]) 19 Try.func73 rfl rfl (by simp) S (fun a S => ?_)
 refine sSeq (fun K1 am => sRegion ?_)
 obtain ⟨u2, S⟩ := pLoad (r := (rL r_api_Stitch)) (q := v0) (x := p0) 0 S rfl
 obtain ⟨ao, ap, _, rfl, _⟩ := S.mem.know (i := 1) (e := fRep (rL r_api_Stitch) (u2) p0) rfl
 refine sLoadV1 (vq := v0) 0 (.slice ao p0.length ap) S (wN rfl) rfl rfl rfl rfl rfl (lb rfl) fun a S => ?_
 refine sLen S (wN rfl) rfl Try.underlying62 rfl rfl (lb rfl) fun a S => ?_
 refine sBin _ S (wN rfl) rfl rfl rfl (bSub _ _ _ _ (p0.length : Int) 1) rfl (lb rfl) fun a S => ?_
 refine sN S fun a S => ?_
 refine lT (am _ _ (wp_block ?_))
 obtain ⟨t9, hl, g8⟩ := bS h
 refine sLoop hl (fun s0 a w => match s0 with | (s5, gz6) => ∃ E w0, J gz6 E w0 ∧ St [] E [] w0 19 a w [(0, .func (.yield l) #[] #[]), (1, v0), (3, iv s5)] [] [fPtr (rL r_api_Stitch) (v0) p0]) ⟨_, _, hJ, S.fix [] [2] (by decide) rfl rfl rfl⟩ ?_
 clear hl h
 intro s0 a w c0 hI h aj
 obtain ⟨s5, gz6⟩ := s0
 unfold slices_Backward___api_Stitch_api_Stitch__1_l1 at h
 dsimp only at h hI
 obtain ⟨E, w0, hJ, S⟩ := hI
 refine sSeq (fun ar ac => sSeq (fun au ae => sRegion (sM S fun a S => ?_)))
 refine sBin _ S (wN rfl) rfl rfl rfl (bGe _ _ _ _ .i64 s5 0) rfl (lb rfl) fun a S => ?_
 refine lT (ae _ _ ?_)
 rcases iS h with ⟨a8, h⟩ | ⟨a8, h⟩
 rotate_left
 ·refine sCondF S rfl a8 ?_
  obtain rfl := tS h
  obtain rfl := aj _ rfl
  have h := g8
  try dsimp only at h
  exact wp_exit (xThen (xThen (xHit (sEnd (.tuple #[]) S (res0 rfl) (sGoI S hC hJ (Option.some.inj h) _)))))
 refine sCondT S rfl a8 ?_
 refine wp_skip (leafT (ac _ _ ?_))
 refine sSeq (fun av af => wp_block ?_)
 refine sSeq (fun aw a9 => sRegionY ?_)
 refine sSplitR (by repeat (first | exact roundU_out | exact it_out | exact lo_false | refine lo_then ?_ | refine lo_block ?_)) 6 rfl (fun ax ag => ?_)
 refine sM S fun a S => ?_
 refine sM S fun a S => ?_
 obtain ⟨aq, S⟩ := pLoad (r := (rL r_api_Stitch)) (q := v0) (x := p0) 0 S rfl
 obtain ⟨aa, ab, _, rfl, _⟩ := S.mem.know (i := 1) (e := fRep (rL r_api_Stitch) (aq) p0) rfl
 refine sLoadV1 (vq := v0) 0 (.slice aa p0.length ab) S (wN rfl) rfl rfl rfl rfl rfl (lb rfl) fun a S => ?_
 refine sM S fun a S => ?_
 obtain ⟨a0, ah, h⟩ := bS h
 obtain ⟨ak, ai, S⟩ := pIdx (P := Try.prog) (r := r_api_Stitch) (v := .slice aa p0.length ab) (xs := p0) (j := s5) 62 61 1 S Try.underlying62 rfl rfl ah
 refine sIdxV S (wN rfl) rfl rfl rfl ai rfl (lb rfl) fun a S => ?_
 obtain ⟨al, S⟩ := pLoad (r := r_api_Stitch) (q := ak) (x := a0) 0 S rfl
 obtain rfl : al = .agg #[.int .u8 a0.Kind, .bool a0.Purl, iv a0.A, iv a0.B] := S.mem.know (i := 1) (e := fRep r_api_Stitch (al) a0) rfl
 refine sLoadVN (vq := ak) 0 [.int .u8 a0.Kind, .bool a0.Purl, iv a0.A, iv a0.B] S (wN rfl) rfl rfl rfl rfl rfl rfl (lb rfl) fun a S => ?_
 refine leafL ⟨rfl, ag _ _ ?_⟩
 obtain ⟨ay, hy26, h⟩ := bS h
 refine sYieldI (s5, a0) [iv s5, .agg #[.int .u8 a0.Kind, .bool a0.Purl, iv a0.A, iv a0.B]] S hC hJ hy26 (fA2_mk (rfl) (S.mem.know (i := 1) (e := fRep r_api_Stitch (.agg #[.int .u8 a0.Kind, .bool a0.Purl, iv a0.A, iv a0.B]) a0) rfl)) (wN rfl) rfl rfl rfl rfl (by decide) (fun gz27 E a w hb hJ S => ?_) (fun tz28 a w hb hJ S => ?_)
 ·obtain rfl := hb
  dsimp only at h
  refine list_inR (by repeat (first | exact roundU_out | exact it_out | exact lo_false | refine lo_then ?_ | refine lo_block ?_)) _ rfl _ _ ?_
  refine sNot (b := true) S (wN rfl) rfl rfl rfl (lb rfl) fun a S => ?_
  refine lT (a9 _ _ (sCondF S rfl rfl ?_))
  refine wp_skip (leafB (leafT (af _ _ ?_)))
  refine sRegion (sM S fun a S => ?_)
  refine sBin _ S (wN rfl) rfl rfl rfl (bSub _ _ _ _ s5 1) rfl (lb rfl) fun a S => ?_
  refine sN S fun a S => ?_
  exact lT (⟨(w64 (s5 - 1), gz27), (Option.some.inj h).symm, ⟨_, _, hJ, S.fix [] [5] (by decide) rfl rfl rfl⟩⟩)
 ·obtain rfl := hb
  dsimp only at h
  refine list_inR (by repeat (first | exact roundU_out | exact it_out | exact lo_false | refine lo_then ?_ | refine lo_block ?_)) _ rfl _ _ ?_
  refine sNot (b := false) S (wN rfl) rfl rfl rfl (lb rfl) fun a S => ?_
  refine lT (a9 _ _ (sCondT S rfl rfl ?_))
  obtain rfl := tS h
  obtain rfl := aj _ rfl
  have h := g8
  try dsimp only at h
  exact wp_ret (rBlock (rThen (rThen (rBlock (sRet (.tuple #[]) S (res0 rfl) (sStopI S hC hJ (Option.some.inj h) _))))))
noncomputable def stitch_Turn_l2  : List api_Stitch → (Int × api_Stitch) → Option (List api_Stitch ⊕ Empty) := fun s0 x0 => match s0, x0 with
 | a9, (af, a0) =>
  (F_stitch_forms a0.Kind).bind fun a8 =>
  Option.bind (α := Bool) (
   if a8.1.sided then
    some (!a0.Purl)
   else
    some false) fun aa =>
  Option.bind (α := (Int × Int)) (
   if decide (0 < a8.1.b.2) then
    some (a0.B, a0.A)
   else
    some (a0.A, a0.B)) fun (ab, ac) =>
  (appO a9 [(api_Stitch.mk a0.Kind aa ab ac)]).bind fun ae =>
  some (.inl ae)
noncomputable def F_stitch_Turn (p0 : (List api_Stitch)) : Option ((List api_Stitch) × Int) :=
 (F_stitch_All p0).bind fun r6 =>
 if r6 != 0 then
  some (([] : (List api_Stitch)), r6)
 else
  (capO (p0.length : Int)).bind fun a9 =>
  (F_slices_Backward___api_Stitch_api_Stitch_ p0).bind fun a0 =>
  (I_slices_Backward___api_Stitch_api_Stitch__1 a0 _ _ (stitch_Turn_l2) ([] : List api_Stitch)).bind fun z0 => match z0 with
   | .inl a8 =>
    some (a8, 0)
   | .inr z0 =>
    nomatch z0
def c_stitch_Turn_val (r : ((List api_Stitch) × Int)) (x : Value) : Value := .tuple #[x, .int .i64 r.2]
def c_stitch_Turn_D (r : ((List api_Stitch) × Int)) (x : Value) : List Fact := [fRep (rL r_api_Stitch) x r.1]
theorem c_stitch_Turn (E : Nat → Prop) (w0 : World) (p0 : (List api_Stitch)) (v0 : Value) (r : ((List api_Stitch) × Int)) (h : F_stitch_Turn p0 = some r) (S : St0 E [] w0 w0 [] [fRep (rL r_api_Stitch) (v0) p0]) :
 Calls Try.prog 55 #[v0] w0 (Ret (X := Value) E [] w0 (c_stitch_Turn_val r) (fun _ => []) (c_stitch_Turn_D r)) := by
 unfold F_stitch_Turn at h
 obtain ⟨av, aw, _, rfl, _⟩ := S.know (i := 0) (e := fRep (rL r_api_Stitch) (v0) p0) rfl
 refine sEnterM (args := [.slice av p0.length aw]) 51 Try.func55 rfl rfl (by simp) S (fun a S => ?_)
 refine sSeq (fun K3 aX => sRegion (sN S fun a S => ?_))
 refine sN S fun a S => ?_
 refine lT (aX _ _ (sSeq (fun K4 aZ => sSeq (fun K5 ba => sRegion (sM S fun a S => ?_)))))
 obtain ⟨r6, bb, h⟩ := bS h
 have S1 := S.mem
 refine sCq [.slice av p0.length aw] (iv r6) S callee64 (S1.quiet [0] rfl) (fun E1 w1 S1 => c_stitch_All E1 w1 p0 (.slice av p0.length aw) r6 bb S1) fun a w S => ?_
 refine sN S fun a S => ?_
 refine lT (ba _ _ (sSeq (fun K8 bc => sRegion (sM S fun a S => ?_))))
 refine sBin _ S (wN rfl) rfl rfl rfl (bNe _ _ _ _ .i64 r6 0) rfl (lb rfl) fun a S => ?_
 refine lT (bc _ _ ?_)
 rcases iS h with ⟨az, h⟩ | ⟨az, h⟩
 ·refine sCondT S rfl az ?_
  refine sSeq (fun bk aA => sRegion (sM S fun a S => ?_))
  refine sN S fun a S => ?_
  refine sN S fun a S => ?_
  refine lT (aA _ _ ?_)
  obtain rfl := tS h
  have S := S.learn (fRep (rL r_api_Stitch) (.slice none 0 0) ([] : (List api_Stitch))) (rL_nil _ _ _)
  exact wp_ret (rThen (sRetM0 (.tuple #[.slice none 0 0, iv r6]) S (rsl2 rfl (rvT (t := 2) (v := .slice none 0 0) S rfl) (rvT (t := 3) (v := iv r6) S rfl)) ⟨(.slice none 0 0), rfl, S.mem.sel [] [0] (by decide) rfl rfl⟩))
 refine sCondF S rfl az ?_
 refine wp_skip (leafT (aZ _ _ ?_))
 refine sSeq (fun bl aC => sRegion (sM S fun a S => ?_))
 refine sLen S (wN rfl) rfl Try.underlying62 rfl rfl (lb rfl) fun a S => ?_
 obtain ⟨bf, aG, h⟩ := bS h
 refine sMake0 r_api_Stitch (m := (p0.length : Int)) (u := bf) (.agg #[.int .u8 0, .bool false, iv 0, iv 0]) 24 S (wN rfl) rfl Try.underlying62 rfl (by decide) rfl rfl aG rfl (lb rfl) fun a w af ag S => ?_
 refine sAlloc (.slice none 0 0) S (wN rfl) rfl rfl [.slice none 0 0] rfl rfl (lb rfl) fun a ak w S => ?_
 refine sStore (p := ak) (off := 0) (T := 62) (vs := [.slice none 0 0]) (v := .slice af ([] : List api_Stitch).length ag) 0 [.slice af ([] : List api_Stitch).length ag] S (wN rfl) rfl rfl rfl rfl rfl rfl rfl (by simp) rfl fun a w S => ?_
 refine lT (aC _ _ (sSeq (fun bm aH => sSeq (fun bn aI => sRegion (sM S fun a S => ?_)))))
 obtain ⟨am, aJ, h⟩ := bS h
 refine sCall (X := Value) (f := 66) (vs := [.slice av p0.length aw]) (val := c_slices_Backward___api_Stitch_api_Stitch__val am) (B' := fun _ => []) (D' := c_slices_Backward___api_Stitch_api_Stitch__D am) [] [eBox ak 62 [.slice af ([] : List api_Stitch).length ag], eRow r_api_Stitch 61 (.slice af ([] : List api_Stitch).length ag) ([] : List api_Stitch)] [fRep (rL r_api_Stitch) (.slice av p0.length aw) p0] [0, 1] [0] S (wN rfl) rfl callee66 rfl (by decide) rfl rfl (fun E1 w1 S1 => c_slices_Backward___api_Stitch_api_Stitch_ E1 w1 p0 (.slice av p0.length aw) am aJ S1) rfl (lb rfl) fun al a w S => ?_
 refine lT (aI _ _ (wp_block ?_))
 obtain ⟨bo, ao, ay⟩ := bS h
 replace S : St [] E [] w0 51 a w [(5, .pointer (some ⟨ak, 0, none⟩)), (19, .func (.func 73) #[] #[al])] [eBox ak 62 [.slice af ([] : List api_Stitch).length ag], eRow r_api_Stitch 61 (.slice af ([] : List api_Stitch).length ag) ([] : List api_Stitch)] [fPtr (rL r_api_Stitch) (al) am] := S.fix [0, 1] [0] (by decide) rfl rfl rfl
 refine sRange2 (B := stitch_Turn_l2) (fun s0 L D => match s0 with | aa => ∃ a8, ∃ a9, L = [eBox ak 62 [.slice a8 aa.length a9], eRow r_api_Stitch 61 (.slice a8 aa.length a9) aa] ∧ D = [fPtr (rL r_api_Stitch) (al) am]) (fun _ _ _ _ => False) [0] S ao rfl callee73 (it_slices_Backward___api_Stitch_api_Stitch__1 am al) rfl (by decide) (by decide) ⟨af, ag, rfl, rfl⟩ ?_ ?_ ?_
 ·intro E l0 aa aT a0 aU aV b L D K a w0 hK hIL hB S
  clear ao ay h hK
  unfold stitch_Turn_l2 at hB
  dsimp only at hB hIL
  obtain ⟨a8, a9, rfl, rfl⟩ := hIL
  have h := hB
  clear hB
  obtain rfl : aU = iv aT := S.mem.know (i := 0) (e := fRep (rI .i64) (aU) aT) rfl
  obtain rfl : aV = .agg #[.int .u8 a0.Kind, .bool a0.Purl, iv a0.A, iv a0.B] := S.mem.know (i := 1) (e := fRep r_api_Stitch (aV) a0) rfl
  refine sRegionR (by repeat (first | exact roundU_out | exact it_out | exact lo_false | refine lo_then ?_ | refine lo_block ?_)) rfl ?_
  refine sAlloc (.agg #[.int .u8 0, .bool false, iv 0, iv 0]) S (wN rfl) rfl rfl [.int .u8 0, .bool false, iv 0, iv 0] rfl rfl (lb rfl) fun a ac w S => ?_
  refine sStore (p := ac) (off := 0) (T := 61) (vs := [.int .u8 0, .bool false, iv 0, iv 0]) (v := .agg #[.int .u8 a0.Kind, .bool a0.Purl, iv a0.A, iv a0.B]) 0 [.int .u8 a0.Kind, .bool a0.Purl, iv a0.A, iv a0.B] S (wN rfl) rfl rfl rfl rfl rfl rfl rfl (by simp) rfl fun a w S => ?_
  refine lT (⟨_, _, _, S, fun K a w0 hK S => ?_⟩)
  refine wpIn_block ?_
  refine sSeqR (fun bp aK => sRegionR (by repeat (first | exact roundU_out | exact it_out | exact lo_false | refine lo_then ?_ | refine lo_block ?_)) rfl ?_)
  refine sField (b := ac) (off := 0) 0 0 S (wN rfl) rfl rfl rfl rfl rfl (lb rfl) fun a S => ?_
  refine sLoad1 0 (.int .u8 a0.Kind) S (wN rfl) rfl rfl rfl rfl rfl rfl (lb rfl) fun a S => ?_
  obtain ⟨ab, aL, h⟩ := bS h
  refine sCall (X := Value) (f := 67) (vs := [.int .u8 a0.Kind]) (val := c_stitch_forms_val ab) (B' := fun _ => []) (D' := c_stitch_forms_D ab) [] [eBox ac 61 [.int .u8 a0.Kind, .bool a0.Purl, iv a0.A, iv a0.B], eBox ak 62 [.slice a8 aa.length a9], eRow r_api_Stitch 61 (.slice a8 aa.length a9) aa] [] [0, 1, 2] [] S (wN rfl) rfl callee67 rfl (by decide) rfl rfl (fun E1 w1 S1 => c_stitch_forms E1 w1 a0.Kind ab aL S1) rfl (lb rfl) fun aW a w S => ?_
  obtain rfl : aW = gv_stitch_form ab.1 := S.mem.know (i := 0) (e := fRep r_stitch_form (aW) ab.1) rfl
  refine sM S fun a S => ?_
  refine sExtract (vs := [gv_stitch_form ab.1, .bool ab.2]) (gv_stitch_form ab.1) S (wN rfl) rfl rfl rfl rfl (lb rfl) fun a S => ?_
  refine sExtract (vs := [gv_stitch_form ab.1, .bool ab.2]) (.bool ab.2) S (wN rfl) rfl rfl rfl rfl (lb rfl) fun a S => ?_
  refine sAlloc (gv_stitch_form (stitch_form.mk (⟨#[]⟩ : ByteArray) (0, 0) (0, 0) false 0 0)) S (wN rfl) rfl rfl (gl_stitch_form (stitch_form.mk (⟨#[]⟩ : ByteArray) (0, 0) (0, 0) false 0 0)) rfl rfl (lb rfl) fun a ax w S => ?_
  refine sStore (p := ax) (off := 0) (T := 115) (vs := [.string (⟨#[]⟩ : ByteArray), iv 0, iv 0, iv 0, iv 0, .bool false, iv 0, iv 0]) (v := gv_stitch_form ab.1) 0 [.string ab.1.letter, iv ab.1.a.1, iv ab.1.a.2, iv ab.1.b.1, iv ab.1.b.2, .bool ab.1.sided, iv ab.1.uses, iv ab.1.made] S (wN rfl) rfl rfl rfl rfl rfl rfl rfl (by simp) rfl fun a w S => ?_
  refine sN S fun a S => ?_
  refine lT (aK _ _ ?_)
  obtain ⟨bg, h, bh⟩ := bS h
  refine sCutR (fun a w => ∃ ae, ae = bg ∧ St [] E K w0 51 a w [(5, .pointer (some ⟨ak, 0, none⟩)), (7, .pointer (some ⟨ac, 0, none⟩)), (8, .pointer (some ⟨ax, 0, none⟩)), (19, .func (.func 73) #[] #[al]), (21, .agg #[.int .u8 a0.Kind, .bool a0.Purl, iv a0.A, iv a0.B])] [eBox ak 62 [.slice a8 aa.length a9], eBox ac 61 [.int .u8 a0.Kind, .bool ae, iv a0.A, iv a0.B], eBox ax 115 (gl_stitch_form ab.1), eRow r_api_Stitch 61 (.slice a8 aa.length a9) aa] [fPtr (rL r_api_Stitch) (al) am]) ?_ (fun a w hI => ?_)
  ·refine sRegionR (by repeat (first | exact roundU_out | exact it_out | exact lo_false | refine lo_then ?_ | refine lo_block ?_)) rfl ?_
   refine sField (b := ax) (off := 0) 5 5 S (wN rfl) rfl rfl rfl rfl rfl (lb rfl) fun a S => ?_
   refine sLoad1 0 (.bool ab.1.sided) S (wN rfl) rfl rfl rfl rfl rfl rfl (lb rfl) fun a S => ?_
   refine sM S fun a S => ?_
   rcases iS h with ⟨ah, h⟩ | ⟨ah, h⟩
   rotate_left
   ·refine sSkN 3 2 true 30 S rfl rfl ah rfl fun a S => ?_
    refine sPickF (.bool false) S (wN rfl) rfl rfl ah rfl rfl (lb rfl) fun a S => ?_
    refine sField (b := ac) (off := 0) 1 1 S (wN rfl) rfl rfl rfl rfl rfl (lb rfl) fun a S => ?_
    refine sStore (p := ac) (off := 1) (T := 61) (vs := [.int .u8 a0.Kind, .bool a0.Purl, iv a0.A, iv a0.B]) (v := .bool false) 1 [.bool false] S (wN rfl) rfl rfl rfl rfl rfl rfl rfl (by simp) rfl fun a w S => ?_
    exact lT (⟨false, Option.some.inj h, S.fix [2, 0, 1, 3] [3] (by decide) rfl rfl rfl⟩)
   refine sField (b := ac) (off := 0) 1 1 S (wG 2 true 30 rfl rfl rfl ah) rfl rfl rfl rfl rfl (lb rfl) fun a S => ?_
   refine sLoad1 1 (.bool a0.Purl) S (wG 2 true 30 rfl rfl rfl ah) rfl rfl rfl rfl rfl rfl (lb rfl) fun a S => ?_
   refine sNot (b := a0.Purl) S (wG 2 true 30 rfl rfl rfl ah) rfl rfl rfl (lb rfl) fun a S => ?_
   refine sPickT (.bool (!a0.Purl)) S (wN rfl) rfl rfl ah rfl rfl (lb rfl) fun a S => ?_
   refine sField (b := ac) (off := 0) 1 1 S (wN rfl) rfl rfl rfl rfl rfl (lb rfl) fun a S => ?_
   refine sStore (p := ac) (off := 1) (T := 61) (vs := [.int .u8 a0.Kind, .bool a0.Purl, iv a0.A, iv a0.B]) (v := .bool (!a0.Purl)) 1 [.bool (!a0.Purl)] S (wN rfl) rfl rfl rfl rfl rfl rfl rfl (by simp) rfl fun a w S => ?_
   exact lT (⟨!a0.Purl, Option.some.inj h, S.fix [2, 0, 1, 3] [3] (by decide) rfl rfl rfl⟩)
  obtain ⟨ae, rfl, S⟩ := hI
  have h := bh
  try dsimp only at h
  obtain ⟨bi, h, bj⟩ := bS h
  refine sCutR (fun a w => ∃ ai, ∃ aj, (ai, aj) = bi ∧ St [] E K w0 51 a w [(5, .pointer (some ⟨ak, 0, none⟩)), (7, .pointer (some ⟨ac, 0, none⟩)), (19, .func (.func 73) #[] #[al]), (21, .agg #[.int .u8 a0.Kind, .bool a0.Purl, iv a0.A, iv a0.B])] [eBox ak 62 [.slice a8 aa.length a9], eBox ac 61 [.int .u8 a0.Kind, .bool ae, iv ai, iv aj], eRow r_api_Stitch 61 (.slice a8 aa.length a9) aa] [fPtr (rL r_api_Stitch) (al) am]) ?_ (fun a w hI => ?_)
  rotate_left
  ·obtain ⟨ai, aj, rfl, S⟩ := hI
   have h := bj
   try dsimp only at h
   refine sRegionR (by repeat (first | exact roundU_out | exact it_out | exact lo_false | refine lo_then ?_ | refine lo_block ?_)) rfl ?_
   refine sLoad1 0 (.slice a8 aa.length a9) S (wN rfl) rfl rfl rfl rfl rfl rfl (lb rfl) fun a S => ?_
   refine sLoadN (p := ac) (off := 0) (T := 61) (vs := [.int .u8 a0.Kind, .bool ae, iv ai, iv aj]) 1 [.int .u8 a0.Kind, .bool ae, iv ai, iv aj] S (wN rfl) rfl rfl rfl rfl rfl rfl rfl (lb rfl) fun a S => ?_
   have S := S.learn (fRep r_api_Stitch (.agg #[.int .u8 a0.Kind, .bool ae, iv ai, iv aj]) (api_Stitch.mk a0.Kind ae ai aj)) rfl
   refine sLit (r := r_api_Stitch) (T := 61) (xs := [(api_Stitch.mk a0.Kind ae ai aj)]) [(0, .agg #[.int .u8 a0.Kind, .bool ae, iv ai, iv aj])] 1 [.agg #[.int .u8 a0.Kind, .bool ae, iv ai, iv aj]] [.int .u8 a0.Kind, .bool ae, iv ai, iv aj] (.agg #[.int .u8 0, .bool false, iv 0, iv 0]) 24 S (wN rfl) rfl rfl Try.underlying62 rfl (by decide) (by decide) (by kernel_rfl) rfl (fun E1 w1 hE => All.cons (r_api_Stitch.mono hE (S.mem.know (i := 0) (e := fRep r_api_Stitch (.agg #[.int .u8 a0.Kind, .bool ae, iv ai, iv aj]) (api_Stitch.mk a0.Kind ae ai aj)) rfl)) (All.nil _ _ _)) rfl rfl (lb rfl) fun a w aM aO S => ?_
   obtain ⟨aP, aQ, h⟩ := bS h
   refine sApp (r := r_api_Stitch) (T := 61) (xs := aa) (ys := [(api_Stitch.mk a0.Kind ae ai aj)]) (v := .slice a8 aa.length a9) (u := .slice aM [(api_Stitch.mk a0.Kind ae ai aj)].length aO) 3 (.agg #[.int .u8 0, .bool false, iv 0, iv 0]) 24 S (wN rfl) rfl Try.underlying62 rfl rfl (by decide) rfl rfl rfl (src_R (T := 61) 0 S.mem rfl) aQ rfl (lb rfl) fun a w ap aq S => ?_
   refine sStore (p := ak) (off := 0) (T := 62) (vs := [.slice a8 aa.length a9]) (v := .slice ap aP.length aq) 2 [.slice ap aP.length aq] S (wN rfl) rfl rfl rfl rfl rfl rfl rfl (by simp) rfl fun a w S => ?_
   exact leafL (leafB (rnN aP _ _ [] (Option.some.inj h) ⟨ap, aq, rfl, rfl⟩ (S.fix [0, 1] [1] (by decide) rfl rfl rfl)))
  refine sSeqR (fun bq aR => sRegionR (by repeat (first | exact roundU_out | exact it_out | exact lo_false | refine lo_then ?_ | refine lo_block ?_)) rfl ?_)
  refine sField (b := ax) (off := 0) 3 3 S (wN rfl) rfl rfl rfl rfl rfl (lb rfl) fun a S => ?_
  refine sIdxV S (wN rfl) rfl rfl rfl (idxV_arr (m := 2) (sz := 1) Try.underlying49 rfl (by decide) (by decide) 3) rfl (lb rfl) fun a S => ?_
  refine sLoad1 2 (iv ab.1.b.2) S (wN rfl) rfl rfl rfl rfl rfl rfl (lb rfl) fun a S => ?_
  refine sBin _ S (wN rfl) rfl rfl rfl (bGt _ _ _ _ .i64 ab.1.b.2 0) rfl (lb rfl) fun a S => ?_
  refine lT (aR _ _ ?_)
  rcases iS h with ⟨ar, h⟩ | ⟨ar, h⟩
  rotate_left
  ·refine sCondFR S rfl ar ?_
   exact wpIn_skip (leafT (⟨a0.A, a0.B, Option.some.inj h, S.fix [0, 1, 3] [0] (by decide) rfl rfl rfl⟩))
  refine sCondTR S rfl ar ?_
  refine sRegionR (by repeat (first | exact roundU_out | exact it_out | exact lo_false | refine lo_then ?_ | refine lo_block ?_)) rfl ?_
  refine sField (b := ac) (off := 0) 3 3 S (wN rfl) rfl rfl rfl rfl rfl (lb rfl) fun a S => ?_
  refine sLoad1 1 (iv a0.B) S (wN rfl) rfl rfl rfl rfl rfl rfl (lb rfl) fun a S => ?_
  refine sField (b := ac) (off := 0) 2 2 S (wN rfl) rfl rfl rfl rfl rfl (lb rfl) fun a S => ?_
  refine sLoad1 1 (iv a0.A) S (wN rfl) rfl rfl rfl rfl rfl rfl (lb rfl) fun a S => ?_
  refine sField (b := ac) (off := 0) 2 2 S (wN rfl) rfl rfl rfl rfl rfl (lb rfl) fun a S => ?_
  refine sStore (p := ac) (off := 2) (T := 61) (vs := [.int .u8 a0.Kind, .bool ae, iv a0.A, iv a0.B]) (v := iv a0.B) 1 [iv a0.B] S (wN rfl) rfl rfl rfl rfl rfl rfl rfl (by simp) rfl fun a w S => ?_
  refine sField (b := ac) (off := 0) 3 3 S (wN rfl) rfl rfl rfl rfl rfl (lb rfl) fun a S => ?_
  refine sStore (p := ac) (off := 3) (T := 61) (vs := [.int .u8 a0.Kind, .bool ae, iv a0.B, iv a0.B]) (v := iv a0.A) 0 [iv a0.A] S (wN rfl) rfl rfl rfl rfl rfl rfl rfl (by simp) rfl fun a w S => ?_
  exact lT (⟨a0.B, a0.A, Option.some.inj h, S.fix [1, 0, 3] [0] (by decide) rfl rfl rfl⟩)
 ·intro au aa L D a w hr hIL S
  clear h
  obtain rfl := hr
  dsimp only at ay hIL
  obtain ⟨a8, a9, rfl, rfl⟩ := hIL
  have h := ay
  clear ay ao
  replace S : St [mark au] E [] w0 51 a w [(5, .pointer (some ⟨ak, 0, none⟩)), (19, .func (.func 73) #[] #[al])] [eBox ak 62 [.slice a8 aa.length a9], eRow r_api_Stitch 61 (.slice a8 aa.length a9) aa, eDef au] [fPtr (rL r_api_Stitch) (al) am] := S
  refine leafB (leafT (aH _ _ ?_))
  refine sSeq (fun br aS => sRegion (sLoad1 0 (.slice a8 aa.length a9) S (wN rfl) rfl rfl rfl rfl rfl rfl (lb rfl) fun a S => ?_))
  refine sN S fun a S => ?_
  refine sN S fun a S => ?_
  refine lT (aS _ _ (wp_ret (sRetM1 2 S rfl (fun a w S => ?_))))
  obtain rfl := tS h
  have S := S.shutR (r := r_api_Stitch) (T := 61) (v := .slice a8 aa.length a9) (xs := aa) 1 rfl
  exact sFin (.tuple #[.slice a8 aa.length a9, iv 0]) S (rsl2 rfl (rvT (t := 2) (v := .slice a8 aa.length a9) S rfl) (rvT (t := 3) (v := iv 0) S rfl)) ⟨(.slice a8 aa.length a9), rfl, S.mem.sel [] [0] (by decide) rfl rfl⟩
 ·intro au c0 t0 L D a w hr hIX S
  clear h
  exact hIX.elim
noncomputable def F_slices_Clone___api_Stitch_api_Stitch_ (p0 : (List api_Stitch)) : Option (List api_Stitch) :=
 (appO ([] : List api_Stitch) p0).bind fun a0 =>
 some a0
def c_slices_Clone___api_Stitch_api_Stitch__val (r : (List api_Stitch)) (x : Value) : Value := x
def c_slices_Clone___api_Stitch_api_Stitch__D (r : (List api_Stitch)) (x : Value) : List Fact := [fRep (rL r_api_Stitch) x r]
theorem c_slices_Clone___api_Stitch_api_Stitch_ (E : Nat → Prop) (w0 : World) (p0 : (List api_Stitch)) (v0 : Value) (r : (List api_Stitch)) (h : F_slices_Clone___api_Stitch_api_Stitch_ p0 = some r) (S : St0 E [] w0 w0 [] [fRep (rL r_api_Stitch) (v0) p0]) :
 Calls Try.prog 56 #[v0] w0 (Ret (X := Value) E [] w0 (c_slices_Clone___api_Stitch_api_Stitch__val r) (fun _ => []) (c_slices_Clone___api_Stitch_api_Stitch__D r)) := by
 unfold F_slices_Clone___api_Stitch_api_Stitch_ at h
 obtain ⟨a9, ab, _, rfl, _⟩ := S.know (i := 0) (e := fRep (rL r_api_Stitch) (v0) p0) rfl
 refine sEnter (args := [.slice a9 p0.length ab]) 8 Try.func56 rfl rfl (by simp) S (fun a S => ?_)
 refine sSeq (fun K3 ah => sRegion (sN S fun a S => ?_))
 refine lT (ah _ _ (sSeq (fun K4 ai => sSeq (fun K5 aj => sRegion (sM S fun a S => ?_)))))
 refine sBin _ S (wN rfl) rfl rfl rfl (bEqNil _ _ _ _ Try.underlying62 a9 (p0.length) (ab)) rfl (lb rfl) fun a S => ?_
 refine lT (aj _ _ ?_)
 rcases nil_cases a9 with ac | ac
 ·have ak := rL_isNil (S.mem.know (i := 0) (e := fRep (rL r_api_Stitch) (.slice a9 p0.length ab) p0) rfl) ac
  rw [ak] at h
  have h : some ([] : (List api_Stitch)) = some r := h
  refine sCondT S rfl ac ?_
  refine sSeq (fun K8 al => sRegion (sN S fun a S => ?_))
  refine lT (al _ _ ?_)
  obtain rfl := tS h
  have S := S.learn (fRep (rL r_api_Stitch) (.slice none 0 0) ([] : (List api_Stitch))) (rL_nil _ _ _)
  exact wp_ret (rThen (sRet (.slice none 0 0) S (rsl1 rfl (rvT (t := 2) (v := .slice none 0 0) S rfl)) ⟨(.slice none 0 0), rfl, S.mem.sel [] [0] (by decide) rfl rfl⟩))
 refine sCondF S rfl ac ?_
 refine wp_skip (leafT (ai _ _ ?_))
 refine sSeq (fun K9 am => sRegion (sLit0 (α := api_Stitch) r_api_Stitch (T := 61) S (wN rfl) rfl Try.underlying62 rfl rfl (lb rfl) fun a w ae af S => ?_))
 refine sM S fun a S => ?_
 obtain ⟨aa, ag, h⟩ := bS h
 refine sApp (r := r_api_Stitch) (T := 61) (xs := ([] : List api_Stitch)) (ys := p0) (v := .slice ae ([] : List api_Stitch).length af) (u := .slice a9 p0.length ab) 0 (.agg #[.int .u8 0, .bool false, iv 0, iv 0]) 24 S (wN rfl) rfl Try.underlying62 rfl rfl (by decide) rfl rfl rfl (src_D 0 S.mem rfl) ag rfl (lb rfl) fun a w a0 a8 S => ?_
 refine sN S fun a S => ?_
 refine lT (am _ _ ?_)
 obtain rfl := tS h
 have S := S.shutR (r := r_api_Stitch) (T := 61) (v := .slice a0 aa.length a8) (xs := aa) 0 rfl
 exact wp_ret (sRet (.slice a0 aa.length a8) S (rsl1 rfl (rvT (t := 2) (v := .slice a0 aa.length a8) S rfl)) ⟨(.slice a0 aa.length a8), rfl, S.mem.sel [] [0] (by decide) rfl rfl⟩)
noncomputable def F_chart_Face (p0 : api_Chart) (p1 : Int) : Option ((List api_Stitch) × Int) :=
 (F_chart_Check p0).bind fun r9 =>
 if r9 != 0 then
  some (([] : (List api_Stitch)), r9)
 else
  Option.bind (α := Bool) (
   if decide (p1 < 0) then
    some true
   else
    some (decide ((p0.Rows.length : Int) ≤ p1))) fun a9 =>
  if a9 then
   some (([] : (List api_Stitch)), 2)
  else
   (idxO p0.Rows p1).bind fun a0 =>
   if a0.Back then
    (F_stitch_Turn a0.Cells).bind fun a8 =>
    some (a8.1, a8.2)
   else
    (F_slices_Clone___api_Stitch_api_Stitch_ a0.Cells).bind fun aa =>
    some (aa, 0)
def c_chart_Face_val (r : ((List api_Stitch) × Int)) (x : Value) : Value := .tuple #[x, .int .i64 r.2]
def c_chart_Face_D (r : ((List api_Stitch) × Int)) (x : Value) : List Fact := [fRep (rL r_api_Stitch) x r.1]
theorem c_chart_Face (E : Nat → Prop) (w0 : World) (p0 : api_Chart) (v0 : Value) (p1 : Int) (r : ((List api_Stitch) × Int)) (h : F_chart_Face p0 p1 = some r) (S : St0 E [] w0 w0 [] [fRep r_api_Chart (v0) p0]) :
 Calls Try.prog 43 #[v0, iv p1] w0 (Ret (X := Value) E [] w0 (c_chart_Face_val r) (fun _ => []) (c_chart_Face_D r)) := by
 unfold F_chart_Face at h
 obtain ⟨u1, rfl, aQ⟩ := S.know (i := 0) (e := fRep r_api_Chart (v0) p0) rfl
 have S := S.learn (fRep (rL r_api_Row) u1 p0.Rows) aQ
 obtain ⟨a9, aa, _, rfl, _⟩ := aQ
 refine sEnter (args := [.agg #[iv p0.Start, .slice a9 p0.Rows.length aa], iv p1]) 43 Try.func43 rfl rfl (by simp) S (fun a S => ?_)
 refine sSeq (fun K5 aZ => sRegion (sBox (v := .agg #[iv p0.Start, .slice a9 p0.Rows.length aa]) S (wN rfl) rfl rfl [iv p0.Start, .slice a9 p0.Rows.length aa] rfl rfl (lb rfl) fun a b6 w S => ?_))
 refine sN S fun a S => ?_
 refine sN S fun a S => ?_
 refine lT (aZ _ _ (sSeq (fun K7 ba => sSeq (fun K8 bb => sRegion (sLoadN (p := b6) (off := 0) (T := 24) (vs := [iv p0.Start, .slice a9 p0.Rows.length aa]) 0 [iv p0.Start, .slice a9 p0.Rows.length aa] S (wN rfl) rfl rfl rfl rfl rfl rfl rfl (lb rfl) fun a S => ?_)))))
 obtain ⟨r9, ar, h⟩ := bS h
 have S1 := S.mem
 refine sCq [.agg #[iv p0.Start, .slice a9 p0.Rows.length aa]] (iv r9) S callee39 (S1.quiet [1] rfl) (fun E1 w1 S1 => c_chart_Check E1 w1 p0 (.agg #[iv p0.Start, .slice a9 p0.Rows.length aa]) r9 ar S1) fun a w S => ?_
 refine sN S fun a S => ?_
 refine lT (bb _ _ (sSeq (fun bk au => sRegion (sM S fun a S => ?_))))
 refine sBin _ S (wN rfl) rfl rfl rfl (bNe _ _ _ _ .i64 r9 0) rfl (lb rfl) fun a S => ?_
 refine lT (au _ _ ?_)
 rcases iS h with ⟨aj, h⟩ | ⟨aj, h⟩
 ·refine sCondT S rfl aj ?_
  refine sSeq (fun bl av => sRegion (sM S fun a S => ?_))
  refine sN S fun a S => ?_
  refine sN S fun a S => ?_
  refine lT (av _ _ ?_)
  obtain rfl := tS h
  have S := S.learn (fRep (rL r_api_Stitch) (.slice none 0 0) ([] : (List api_Stitch))) (rL_nil _ _ _)
  exact wp_ret (rThen (sRet (.tuple #[.slice none 0 0, iv r9]) S (rsl2 rfl (rvT (t := 4) (v := .slice none 0 0) S rfl) (rvT (t := 5) (v := iv r9) S rfl)) ⟨(.slice none 0 0), rfl, S.mem.sel [] [0] (by decide) rfl rfl⟩))
 refine sCondF S rfl aj ?_
 refine wp_skip (leafT (ba _ _ ?_))
 refine sSeq (fun bm aw => ?_)
 obtain ⟨bc, h, bf⟩ := bS h
 refine sCut (fun a w => ∃ ax, ax = bc ∧ St [] E [] w0 43 a w [(1, iv p1), (2, .pointer (some ⟨b6, 0, none⟩)), (20, .bool ax)] [eBox b6 24 [iv p0.Start, .slice a9 p0.Rows.length aa]] [fRep (rL r_api_Row) (.slice a9 p0.Rows.length aa) p0.Rows]) ?_ (fun a w hI => ?_)
 ·refine sRegion (sM S fun a S => ?_)
  refine sBin _ S (wN rfl) rfl rfl rfl (bLt _ _ _ _ .i64 p1 0) rfl (lb rfl) fun a S => ?_
  refine sM S fun a S => ?_
  rcases iS h with ⟨a8, h⟩ | ⟨a8, h⟩
  ·refine sSkN 5 2 false 14 S rfl rfl a8 rfl fun a S => ?_
   refine sPickT (.bool true) S (wN rfl) rfl rfl a8 rfl rfl (lb rfl) fun a S => ?_
   exact lT (⟨true, Option.some.inj h, S.fix [0] [0] (by decide) rfl rfl rfl⟩)
  refine sMove (iv p1) S (wG 2 false 14 rfl rfl rfl a8) (.inl rfl) rfl rfl (lb rfl) fun a S => ?_
  refine sField (b := b6) (off := 0) 1 1 S (wG 2 false 14 rfl rfl rfl a8) rfl rfl rfl rfl rfl (lb rfl) fun a S => ?_
  refine sLoad1 0 (.slice a9 p0.Rows.length aa) S (wG 2 false 14 rfl rfl rfl a8) rfl rfl rfl rfl rfl rfl (lb rfl) fun a S => ?_
  refine sLen S (wG 2 false 14 rfl rfl rfl a8) rfl Try.underlying22 rfl rfl (lb rfl) fun a S => ?_
  refine sBin _ S (wG 2 false 14 rfl rfl rfl a8) rfl rfl rfl (bGe _ _ _ _ .i64 p1 (p0.Rows.length : Int)) rfl (lb rfl) fun a S => ?_
  refine sPickF (.bool (decide ((p0.Rows.length : Int) ≤ p1))) S (wN rfl) rfl rfl a8 rfl rfl (lb rfl) fun a S => ?_
  exact lT (⟨decide ((p0.Rows.length : Int) ≤ p1), Option.some.inj h, S.fix [0] [0] (by decide) rfl rfl rfl⟩)
 obtain ⟨ax, rfl, S⟩ := hI
 have h := bf
 try dsimp only at h
 rcases iS h with ⟨ak, h⟩ | ⟨ak, h⟩
 ·refine sCondT S rfl ak ?_
  refine sSeq (fun bn ay => sRegion (sN S fun a S => ?_))
  refine sN S fun a S => ?_
  refine lT (ay _ _ ?_)
  obtain rfl := tS h
  have S := S.learn (fRep (rL r_api_Stitch) (.slice none 0 0) ([] : (List api_Stitch))) (rL_nil _ _ _)
  exact wp_ret (rThen (sRet (.tuple #[.slice none 0 0, iv 2]) S (rsl2 rfl (rvT (t := 4) (v := .slice none 0 0) S rfl) (rvT (t := 5) (v := iv 2) S rfl)) ⟨(.slice none 0 0), rfl, S.mem.sel [] [0] (by decide) rfl rfl⟩))
 refine sCondF S rfl ak ?_
 refine wp_skip (leafT (aw _ _ ?_))
 refine sSeq (fun bo az => sSeq (fun bp aA => sRegion (sField (b := b6) (off := 0) 1 1 S (wN rfl) rfl rfl rfl rfl rfl (lb rfl) fun a S => ?_)))
 refine sLoad1 0 (.slice a9 p0.Rows.length aa) S (wN rfl) rfl rfl rfl rfl rfl rfl (lb rfl) fun a S => ?_
 refine sM S fun a S => ?_
 obtain ⟨a0, al, h⟩ := bS h
 obtain ⟨aR, aC, S⟩ := pIdx (P := Try.prog) (r := r_api_Row) (v := .slice a9 p0.Rows.length aa) (xs := p0.Rows) (j := p1) 22 65 0 S Try.underlying22 rfl rfl al
 refine sIdxV S (wN rfl) rfl rfl rfl aC rfl (lb rfl) fun a S => ?_
 obtain ⟨aS, aG, S⟩ := pFld (P := Try.prog) (r := r_api_Row) (s2 := rB) (g := (·.Back)) (q := aR) (z := a0) 65 0 0 0 S rfl rfl comp_api_Row_Back
 refine sFldV (q := aR) S (wN rfl) rfl rfl aG rfl (lb rfl) fun a S => ?_
 obtain ⟨aT, S⟩ := pLoad (r := rB) (q := aS) (x := a0.Back) 0 S rfl
 obtain rfl : aT = .bool a0.Back := S.mem.know (i := 1) (e := fRep rB (aT) a0.Back) rfl
 refine sLoadV1 (vq := aS) 0 (.bool a0.Back) S (wN rfl) rfl rfl rfl rfl rfl (lb rfl) fun a S => ?_
 refine lT (aA _ _ ?_)
 rcases iS h with ⟨am, h⟩ | ⟨am, h⟩
 rotate_left
 ·refine sCondF S rfl am ?_
  refine wp_skip (leafT (az _ _ ?_))
  refine sSeq (fun bq aH => sRegion (sField (b := b6) (off := 0) 1 1 S (wN rfl) rfl rfl rfl rfl rfl (lb rfl) fun a S => ?_))
  refine sLoad1 0 (.slice a9 p0.Rows.length aa) S (wN rfl) rfl rfl rfl rfl rfl rfl (lb rfl) fun a S => ?_
  refine sM S fun a S => ?_
  obtain ⟨aU, aI, S⟩ := pIdx (P := Try.prog) (r := r_api_Row) (v := .slice a9 p0.Rows.length aa) (xs := p0.Rows) (j := p1) 22 65 4 S Try.underlying22 rfl rfl al
  refine sIdxV S (wN rfl) rfl rfl rfl aI rfl (lb rfl) fun a S => ?_
  obtain ⟨aV, aJ, S⟩ := pFld (P := Try.prog) (r := r_api_Row) (s2 := (rL r_api_Stitch)) (g := (·.Cells)) (q := aU) (z := a0) 65 1 0 1 S rfl rfl comp_api_Row_Cells
  refine sFldV (q := aU) S (wN rfl) rfl rfl aJ rfl (lb rfl) fun a S => ?_
  obtain ⟨bg, S⟩ := pLoad (r := (rL r_api_Stitch)) (q := aV) (x := a0.Cells) 0 S rfl
  obtain ⟨af, ag, _, rfl, _⟩ := S.mem.know (i := 1) (e := fRep (rL r_api_Stitch) (bg) a0.Cells) rfl
  refine sLoadV1 (vq := aV) 0 (.slice af a0.Cells.length ag) S (wN rfl) rfl rfl rfl rfl rfl (lb rfl) fun a S => ?_
  obtain ⟨ao, aK, h⟩ := bS h
  refine sCall (X := Value) (f := 56) (vs := [.slice af a0.Cells.length ag]) (val := c_slices_Clone___api_Stitch_api_Stitch__val ao) (B' := fun _ => []) (D' := c_slices_Clone___api_Stitch_api_Stitch__D ao) [] [eBox b6 24 [iv p0.Start, .slice a9 p0.Rows.length aa]] [fRep (rL r_api_Stitch) (.slice af a0.Cells.length ag) a0.Cells] [0] [1] S (wN rfl) rfl callee56 rfl (by decide) rfl rfl (fun E1 w1 S1 => c_slices_Clone___api_Stitch_api_Stitch_ E1 w1 a0.Cells (.slice af a0.Cells.length ag) ao aK S1) rfl (lb rfl) fun bh a w S => ?_
  obtain ⟨ap, aq, _, rfl, _⟩ := S.mem.know (i := 0) (e := fRep (rL r_api_Stitch) (bh) ao) rfl
  refine sN S fun a S => ?_
  refine sN S fun a S => ?_
  refine lT (aH _ _ ?_)
  obtain rfl := tS h
  exact wp_ret (sRet (.tuple #[.slice ap ao.length aq, iv 0]) S (rsl2 rfl (rvT (t := 4) (v := .slice ap ao.length aq) S rfl) (rvT (t := 5) (v := iv 0) S rfl)) ⟨(.slice ap ao.length aq), rfl, S.mem.sel [] [0] (by decide) rfl rfl⟩)
 refine sCondT S rfl am ?_
 refine sSeq (fun br aL => sRegion (sField (b := b6) (off := 0) 1 1 S (wN rfl) rfl rfl rfl rfl rfl (lb rfl) fun a S => ?_))
 refine sLoad1 0 (.slice a9 p0.Rows.length aa) S (wN rfl) rfl rfl rfl rfl rfl rfl (lb rfl) fun a S => ?_
 refine sM S fun a S => ?_
 obtain ⟨aW, aM, S⟩ := pIdx (P := Try.prog) (r := r_api_Row) (v := .slice a9 p0.Rows.length aa) (xs := p0.Rows) (j := p1) 22 65 4 S Try.underlying22 rfl rfl al
 refine sIdxV S (wN rfl) rfl rfl rfl aM rfl (lb rfl) fun a S => ?_
 obtain ⟨aX, aO, S⟩ := pFld (P := Try.prog) (r := r_api_Row) (s2 := (rL r_api_Stitch)) (g := (·.Cells)) (q := aW) (z := a0) 65 1 0 1 S rfl rfl comp_api_Row_Cells
 refine sFldV (q := aW) S (wN rfl) rfl rfl aO rfl (lb rfl) fun a S => ?_
 obtain ⟨bi, S⟩ := pLoad (r := (rL r_api_Stitch)) (q := aX) (x := a0.Cells) 0 S rfl
 obtain ⟨ah, ai, _, rfl, _⟩ := S.mem.know (i := 1) (e := fRep (rL r_api_Stitch) (bi) a0.Cells) rfl
 refine sLoadV1 (vq := aX) 0 (.slice ah a0.Cells.length ai) S (wN rfl) rfl rfl rfl rfl rfl (lb rfl) fun a S => ?_
 obtain ⟨ab, aP, h⟩ := bS h
 refine sCall (X := Value) (f := 55) (vs := [.slice ah a0.Cells.length ai]) (val := c_stitch_Turn_val ab) (B' := fun _ => []) (D' := c_stitch_Turn_D ab) [] [eBox b6 24 [iv p0.Start, .slice a9 p0.Rows.length aa]] [fRep (rL r_api_Stitch) (.slice ah a0.Cells.length ai) a0.Cells] [0] [1] S (wN rfl) rfl callee55 rfl (by decide) rfl rfl (fun E1 w1 S1 => c_stitch_Turn E1 w1 a0.Cells (.slice ah a0.Cells.length ai) ab aP S1) rfl (lb rfl) fun bj a w S => ?_
 obtain ⟨ac, ae, _, rfl, _⟩ := S.mem.know (i := 0) (e := fRep (rL r_api_Stitch) (bj) ab.1) rfl
 refine sExtract (vs := [.slice ac ab.1.length ae, iv ab.2]) (.slice ac ab.1.length ae) S (wN rfl) rfl rfl rfl rfl (lb rfl) fun a S => ?_
 refine sExtract (vs := [.slice ac ab.1.length ae, iv ab.2]) (iv ab.2) S (wN rfl) rfl rfl rfl rfl (lb rfl) fun a S => ?_
 refine sN S fun a S => ?_
 refine sN S fun a S => ?_
 refine lT (aL _ _ ?_)
 obtain rfl := tS h
 exact wp_ret (rThen (sRet (.tuple #[.slice ac ab.1.length ae, iv ab.2]) S (rsl2 rfl (rvT (t := 4) (v := .slice ac ab.1.length ae) S rfl) (rvT (t := 5) (v := iv ab.2) S rfl)) ⟨(.slice ac ab.1.length ae), rfl, S.mem.sel [] [0] (by decide) rfl rfl⟩))
noncomputable def loops_piece_take_s3_l1 (m5 : List Int) (p0 : loops_piece) : (List Int × Int) → Option ((List Int × Int) ⊕ List Int) := fun s0 => match s0 with
 | (a8, a0) =>
  if decide (a0 < (m5.length : Int)) then
   (idxO a8 a0).bind fun aa =>
   (setO a8 a0 (w64 (p0.next + a0))).bind fun a9 =>
   some (.inl (a9, w64 (a0 + 1)))
  else
   some (.inr a8)
noncomputable def F_loops_piece_take_s3 (p0 : loops_piece) (p1 : Int) : Option ((List Int) × loops_piece) :=
 (makeO p1 (0 : Int)).bind fun m5 =>
 Option.bind (α := List Int) (
  (whileO (loops_piece_take_s3_l1 m5 p0) (m5, 0)).bind fun a0 =>
   some a0) fun o7 =>
 some (o7, (loops_piece.mk p0.loops p0.rows p0.bound p0.cross (w64 (p0.next + p1))))
theorem c_loops_piece_take_s3 (E : Nat → Prop) (w0 : World) (p0 : loops_piece) (bb0 : Nat) (ad_0_0 : Option Addr) (cp_0_0 : Nat) (ad_0_1 : Option Addr) (cp_0_1 : Nat) (ad_0_2 : Option Addr) (cp_0_2 : Nat) (ad_0_3 : Option Addr) (cp_0_3 : Nat) (p1 : Int) (r : ((List Int) × loops_piece)) (h : F_loops_piece_take_s3 p0 p1 = some r) (S : St0 E (keysL [eBox bb0 73 [.slice ad_0_0 p0.loops.length cp_0_0, .slice ad_0_1 p0.rows.length cp_0_1, .slice ad_0_2 p0.bound.length cp_0_2, .slice ad_0_3 p0.cross.length cp_0_3, iv p0.next], eRow r_api_Loop 48 (.slice ad_0_0 p0.loops.length cp_0_0) p0.loops, eRow (rI .i64) 3 (.slice ad_0_1 p0.rows.length cp_0_1) p0.rows, eRow (rI .i64) 3 (.slice ad_0_2 p0.bound.length cp_0_2) p0.bound, eRow r_A2_Int 49 (.slice ad_0_3 p0.cross.length cp_0_3) p0.cross]) w0 w0 [eBox bb0 73 [.slice ad_0_0 p0.loops.length cp_0_0, .slice ad_0_1 p0.rows.length cp_0_1, .slice ad_0_2 p0.bound.length cp_0_2, .slice ad_0_3 p0.cross.length cp_0_3, iv p0.next], eRow r_api_Loop 48 (.slice ad_0_0 p0.loops.length cp_0_0) p0.loops, eRow (rI .i64) 3 (.slice ad_0_1 p0.rows.length cp_0_1) p0.rows, eRow (rI .i64) 3 (.slice ad_0_2 p0.bound.length cp_0_2) p0.bound, eRow r_A2_Int 49 (.slice ad_0_3 p0.cross.length cp_0_3) p0.cross] []) :
 Calls Try.prog 57 #[.pointer (some ⟨bb0, 0, none⟩), iv p1] w0 (Ret (X := Option Addr × Nat × Option Addr × Nat × Option Addr × Nat × Option Addr × Nat × Option Addr × Nat) E (keysL [eBox bb0 73 [.slice ad_0_0 p0.loops.length cp_0_0, .slice ad_0_1 p0.rows.length cp_0_1, .slice ad_0_2 p0.bound.length cp_0_2, .slice ad_0_3 p0.cross.length cp_0_3, iv p0.next], eRow r_api_Loop 48 (.slice ad_0_0 p0.loops.length cp_0_0) p0.loops, eRow (rI .i64) 3 (.slice ad_0_1 p0.rows.length cp_0_1) p0.rows, eRow (rI .i64) 3 (.slice ad_0_2 p0.bound.length cp_0_2) p0.bound, eRow r_A2_Int 49 (.slice ad_0_3 p0.cross.length cp_0_3) p0.cross]) w0 (fun x => .slice x.1 r.1.length x.2.1) (fun x => [eRow (rI .i64) 3 (.slice x.1 r.1.length x.2.1) r.1, eBox bb0 73 [.slice x.2.2.1 r.2.loops.length x.2.2.2.1, .slice x.2.2.2.2.1 r.2.rows.length x.2.2.2.2.2.1, .slice x.2.2.2.2.2.2.1 r.2.bound.length x.2.2.2.2.2.2.2.1, .slice x.2.2.2.2.2.2.2.2.1 r.2.cross.length x.2.2.2.2.2.2.2.2.2, iv r.2.next], eRow r_api_Loop 48 (.slice x.2.2.1 r.2.loops.length x.2.2.2.1) r.2.loops, eRow (rI .i64) 3 (.slice x.2.2.2.2.1 r.2.rows.length x.2.2.2.2.2.1) r.2.rows, eRow (rI .i64) 3 (.slice x.2.2.2.2.2.2.1 r.2.bound.length x.2.2.2.2.2.2.2.1) r.2.bound, eRow r_A2_Int 49 (.slice x.2.2.2.2.2.2.2.2.1 r.2.cross.length x.2.2.2.2.2.2.2.2.2) r.2.cross]) (fun _ => [])) := by
 unfold F_loops_piece_take_s3 at h
 refine sEnter (args := [.pointer (some ⟨bb0, 0, none⟩), iv p1]) 33 Try.func57 rfl rfl (by simp) S (fun a S => ?_)
 refine sSeq (fun K1 aO => sRegion (sN S fun a S => ?_))
 refine lT (aO _ _ (sSeq (fun K2 aP => sRegion (sM S fun a S => ?_))))
 obtain ⟨m5, aQ, h⟩ := bS h
 refine sMake (r := (rI .i64)) (m := p1) (xs := m5) (iv 0) (0 : Int) 8 S (wN rfl) rfl Try.underlying32 rfl rfl (by decide) (fun _ _ => rfl) rfl rfl aQ rfl (lb rfl) fun a w am ao S => ?_
 refine sN S fun a S => ?_
 refine lT (aP _ _ ?_)
 obtain ⟨aR, h, aS⟩ := bS h
 refine sCut (fun a w => ∃ o7, o7 = aR ∧ ∃ au, ∃ av, ∃ a0, ∃ a8, ∃ a9, ∃ aa, ∃ ab, ∃ ac, St [] E (keysL [eBox bb0 73 [.slice ad_0_0 p0.loops.length cp_0_0, .slice ad_0_1 p0.rows.length cp_0_1, .slice ad_0_2 p0.bound.length cp_0_2, .slice ad_0_3 p0.cross.length cp_0_3, iv p0.next], eRow r_api_Loop 48 (.slice ad_0_0 p0.loops.length cp_0_0) p0.loops, eRow (rI .i64) 3 (.slice ad_0_1 p0.rows.length cp_0_1) p0.rows, eRow (rI .i64) 3 (.slice ad_0_2 p0.bound.length cp_0_2) p0.bound, eRow r_A2_Int 49 (.slice ad_0_3 p0.cross.length cp_0_3) p0.cross]) w0 33 a w [(0, .pointer (some ⟨bb0, 0, none⟩)), (1, iv p1), (5, .slice am o7.length ao)] [eBox bb0 73 [.slice au p0.loops.length av, .slice a0 p0.rows.length a8, .slice a9 p0.bound.length aa, .slice ab p0.cross.length ac, iv p0.next], eRow (rI .i64) 3 (.slice am o7.length ao) o7, eRow r_api_Loop 48 (.slice au p0.loops.length av) p0.loops, eRow (rI .i64) 3 (.slice a0 p0.rows.length a8) p0.rows, eRow (rI .i64) 3 (.slice a9 p0.bound.length aa) p0.bound, eRow r_A2_Int 49 (.slice ab p0.cross.length ac) p0.cross] []) ?_ (fun a w hI => ?_)
 rotate_left
 ·obtain ⟨o7, rfl, au, av, a0, a8, a9, aa, ab, ac, S⟩ := hI
  have h := aS
  try dsimp only at h
  refine sSeq (fun aV ax => sRegion (sM S fun a S => ?_))
  refine nilCheck_ok (q := ⟨bb0, 0, none⟩) S (wN rfl) rfl rfl rfl (lb rfl) fun a S => ?_
  refine sField (b := bb0) (off := 0) 4 4 S (wN rfl) rfl rfl rfl rfl rfl (lb rfl) fun a S => ?_
  refine sLoad1 0 (iv p0.next) S (wN rfl) rfl rfl rfl rfl rfl rfl (lb rfl) fun a S => ?_
  refine sM S fun a S => ?_
  refine sBin _ S (wN rfl) rfl rfl rfl (bAdd _ _ _ _ p0.next p1) rfl (lb rfl) fun a S => ?_
  refine nilCheck_ok (q := ⟨bb0, 0, none⟩) S (wN rfl) rfl rfl rfl (lb rfl) fun a S => ?_
  refine sField (b := bb0) (off := 0) 4 4 S (wN rfl) rfl rfl rfl rfl rfl (lb rfl) fun a S => ?_
  refine sStore (p := bb0) (off := 4) (T := 73) (vs := [.slice au p0.loops.length av, .slice a0 p0.rows.length a8, .slice a9 p0.bound.length aa, .slice ab p0.cross.length ac, iv p0.next]) (v := iv (w64 (p0.next + p1))) 0 [iv (w64 (p0.next + p1))] S (wN rfl) rfl rfl rfl rfl rfl rfl rfl (by simp) rfl fun a w S => ?_
  refine lT (ax _ _ (sSeq (fun aW ay => sRegion (sM S fun a S => ?_))))
  refine sN S fun a S => ?_
  refine lT (ay _ _ ?_)
  obtain rfl := tS h
  exact wp_ret (sRet (.slice am o7.length ao) S (rsl1 rfl (rvT (t := 4) (v := .slice am o7.length ao) S rfl)) ⟨(am, ao, au, av, a0, a8, a9, aa, ab, ac), rfl, S.mem.sel [1, 0, 2, 3, 4, 5] [] (by decide) rfl rfl⟩)
 refine sSeq (fun aX az => sRegion (sM S fun a S => ?_))
 refine sLen S (wN rfl) rfl Try.underlying32 rfl rfl (lb rfl) fun a S => ?_
 refine sM S fun a S => ?_
 refine lT (az _ _ (wp_block ?_))
 obtain ⟨aZ, hl, aT⟩ := bS h
 refine sLoop hl (fun s0 a w => match s0 with | (aq, ap) => ∃ ae, ∃ af, ∃ ag, ∃ ah, ∃ ai, ∃ aj, ∃ ak, ∃ al, St [] E (keysL [eBox bb0 73 [.slice ad_0_0 p0.loops.length cp_0_0, .slice ad_0_1 p0.rows.length cp_0_1, .slice ad_0_2 p0.bound.length cp_0_2, .slice ad_0_3 p0.cross.length cp_0_3, iv p0.next], eRow r_api_Loop 48 (.slice ad_0_0 p0.loops.length cp_0_0) p0.loops, eRow (rI .i64) 3 (.slice ad_0_1 p0.rows.length cp_0_1) p0.rows, eRow (rI .i64) 3 (.slice ad_0_2 p0.bound.length cp_0_2) p0.bound, eRow r_A2_Int 49 (.slice ad_0_3 p0.cross.length cp_0_3) p0.cross]) w0 33 a w [(0, .pointer (some ⟨bb0, 0, none⟩)), (1, iv p1), (5, .slice am aq.length ao), (10, iv (m5.length : Int)), (11, iv ap)] [eBox bb0 73 [.slice ae p0.loops.length af, .slice ag p0.rows.length ah, .slice ai p0.bound.length aj, .slice ak p0.cross.length al, iv p0.next], eRow (rI .i64) 3 (.slice am aq.length ao) aq, eRow r_api_Loop 48 (.slice ae p0.loops.length af) p0.loops, eRow (rI .i64) 3 (.slice ag p0.rows.length ah) p0.rows, eRow (rI .i64) 3 (.slice ai p0.bound.length aj) p0.bound, eRow r_A2_Int 49 (.slice ak p0.cross.length al) p0.cross] []) ⟨ad_0_0, cp_0_0, ad_0_1, cp_0_1, ad_0_2, cp_0_2, ad_0_3, cp_0_3, S.fix [1, 0, 2, 3, 4, 5] [] (by decide) rfl rfl rfl⟩ ?_
 clear hl h
 intro s0 a w c0 hI h aA
 obtain ⟨aq, ap⟩ := s0
 unfold loops_piece_take_s3_l1 at h
 dsimp only at h hI
 obtain ⟨ae, af, ag, ah, ai, aj, ak, al, S⟩ := hI
 refine sSeq (fun ba aC => sRegion (sBin _ S (wN rfl) rfl rfl rfl (bLt _ _ _ _ .i64 ap (m5.length : Int)) rfl (lb rfl) fun a S => ?_))
 refine lT (aC _ _ (sSeq (fun bb aG => ?_)))
 rcases iS h with ⟨ar, h⟩ | ⟨ar, h⟩
 rotate_left
 ·refine sCondF S rfl ar ?_
  obtain rfl := tS h
  obtain rfl := aA _ rfl
  have h := aT
  try dsimp only at h
  exact wp_exit (xThen (xThen (xHit (leafT (⟨aq, Option.some.inj h, ae, af, ag, ah, ai, aj, ak, al, S.fix [0, 1, 2, 3, 4, 5] [] (by decide) rfl rfl rfl⟩)))))
 refine sCondT S rfl ar ?_
 refine wp_skip (leafT (aG _ _ ?_))
 refine sSeq (fun bc aH => wp_block ?_)
 refine sSeq (fun bf aI => sRegion (sM S fun a S => ?_))
 refine sN S fun a S => ?_
 refine lT (aI _ _ (sRegion (sM S fun a S => ?_)))
 refine sM S fun a S => ?_
 refine sM S fun a S => ?_
 refine nilCheck_ok (q := ⟨bb0, 0, none⟩) S (wN rfl) rfl rfl rfl (lb rfl) fun a S => ?_
 refine sField (b := bb0) (off := 0) 4 4 S (wN rfl) rfl rfl rfl rfl rfl (lb rfl) fun a S => ?_
 refine sLoad1 0 (iv p0.next) S (wN rfl) rfl rfl rfl rfl rfl rfl (lb rfl) fun a S => ?_
 refine sM S fun a S => ?_
 refine sBin _ S (wN rfl) rfl rfl rfl (bAdd _ _ _ _ p0.next ap) rfl (lb rfl) fun a S => ?_
 obtain ⟨bg, aJ, h⟩ := bS h
 obtain ⟨aU, aK, aL⟩ := pIdxR (P := Try.prog) (r := (rI .i64)) (T := 3) (v := .slice am aq.length ao) (xs := aq) (j := ap) 32 3 1 S Try.underlying32 rfl rfl aJ
 refine sIdxV S (wN rfl) rfl rfl rfl aK rfl (lb rfl) fun a S => ?_
 obtain ⟨aM, aw, h⟩ := bS h
 refine sStoreR (r := (rI .i64)) (T := 3) (xs := aq) (ys := aM) (y := (w64 (p0.next + ap))) (v := .slice am aq.length ao) (vq := aU) (u := iv (w64 (p0.next + ap))) (j := ap) 1 S aL (wN rfl) rfl rfl rfl rfl rfl aw rfl rfl fun a w S => ?_
 rw [setO_v aw am ao] at S
 refine leafL (leafB (leafT (aH _ _ ?_)))
 refine sRegion (sBin _ S (wN rfl) rfl rfl rfl (bAdd _ _ _ _ ap 1) rfl (lb rfl) fun a S => ?_)
 refine sM S fun a S => ?_
 exact lT (⟨(aM, w64 (ap + 1)), (Option.some.inj h).symm, ⟨ae, af, ag, ah, ai, aj, ak, al, S.fix [1, 0, 2, 3, 4, 5] [] (by decide) rfl rfl rfl⟩⟩)
def anc_loops_piece_add_s1_0 : List (List Nat) := [[], [], [1], [1, 2], [1, 2, 3], [], [5], [1, 2, 3, 4, 5, 6], [0, 1, 2, 3, 4, 5, 6, 7], [0, 1, 2, 3, 4, 5, 6, 7, 8], [0, 1, 2, 3, 4, 5, 6, 7, 8, 9]]
noncomputable def loops_piece_add_s1_l1 (p2 : (List (List Int))) (p1 : api_Loop) : (Int × List api_Loop × List Int) → Option ((Int × List api_Loop × List Int) ⊕ List api_Loop) := fun s0 => match s0 with
 | (a0, a8, ab) =>
  if decide (a0 < (p2.length : Int)) then
   (idxO p2 a0).bind fun a9 =>
   (appO a8 [(api_Loop.mk p1.Row p1.Cell a9 p1.Purl)]).bind fun aa =>
   some (.inl (w64 (a0 + 1), aa, a9))
  else
   some (.inr a8)
noncomputable def F_loops_piece_add_s1 (p0 : loops_piece) (p1 : api_Loop) (p2 : (List (List Int))) : Option loops_piece :=
 (whileO (loops_piece_add_s1_l1 p2 p1) (0, p0.loops, p1.Parents)).bind fun a0 =>
  some (loops_piece.mk a0 p0.rows p0.bound p0.cross p0.next)
theorem c_loops_piece_add_s1 (E : Nat → Prop) (w0 : World) (p0 : loops_piece) (bb0 : Nat) (ad_0_0 : Option Addr) (cp_0_0 : Nat) (ad_0_1 : Option Addr) (cp_0_1 : Nat) (ad_0_2 : Option Addr) (cp_0_2 : Nat) (ad_0_3 : Option Addr) (cp_0_3 : Nat) (p1 : api_Loop) (v1 : Value) (p2 : (List (List Int))) (v2 : Value) (r : loops_piece) (h : F_loops_piece_add_s1 p0 p1 p2 = some r) (S : St0 E (keysL [eBox bb0 73 [.slice ad_0_0 p0.loops.length cp_0_0, .slice ad_0_1 p0.rows.length cp_0_1, .slice ad_0_2 p0.bound.length cp_0_2, .slice ad_0_3 p0.cross.length cp_0_3, iv p0.next], eRow r_api_Loop 48 (.slice ad_0_0 p0.loops.length cp_0_0) p0.loops, eRow (rI .i64) 3 (.slice ad_0_1 p0.rows.length cp_0_1) p0.rows, eRow (rI .i64) 3 (.slice ad_0_2 p0.bound.length cp_0_2) p0.bound, eRow r_A2_Int 49 (.slice ad_0_3 p0.cross.length cp_0_3) p0.cross]) w0 w0 [eBox bb0 73 [.slice ad_0_0 p0.loops.length cp_0_0, .slice ad_0_1 p0.rows.length cp_0_1, .slice ad_0_2 p0.bound.length cp_0_2, .slice ad_0_3 p0.cross.length cp_0_3, iv p0.next], eRow r_api_Loop 48 (.slice ad_0_0 p0.loops.length cp_0_0) p0.loops, eRow (rI .i64) 3 (.slice ad_0_1 p0.rows.length cp_0_1) p0.rows, eRow (rI .i64) 3 (.slice ad_0_2 p0.bound.length cp_0_2) p0.bound, eRow r_A2_Int 49 (.slice ad_0_3 p0.cross.length cp_0_3) p0.cross] [fRep r_api_Loop (v1) p1, fRep (rL (rL (rI .i64))) (v2) p2]) :
 Calls Try.prog 58 #[.pointer (some ⟨bb0, 0, none⟩), v1, v2] w0 (Ret (X := Option Addr × Nat × Option Addr × Nat × Option Addr × Nat × Option Addr × Nat) E (keysL [eBox bb0 73 [.slice ad_0_0 p0.loops.length cp_0_0, .slice ad_0_1 p0.rows.length cp_0_1, .slice ad_0_2 p0.bound.length cp_0_2, .slice ad_0_3 p0.cross.length cp_0_3, iv p0.next], eRow r_api_Loop 48 (.slice ad_0_0 p0.loops.length cp_0_0) p0.loops, eRow (rI .i64) 3 (.slice ad_0_1 p0.rows.length cp_0_1) p0.rows, eRow (rI .i64) 3 (.slice ad_0_2 p0.bound.length cp_0_2) p0.bound, eRow r_A2_Int 49 (.slice ad_0_3 p0.cross.length cp_0_3) p0.cross]) w0 (fun _ => .tuple #[]) (fun x => [eBox bb0 73 [.slice x.1 r.loops.length x.2.1, .slice x.2.2.1 r.rows.length x.2.2.2.1, .slice x.2.2.2.2.1 r.bound.length x.2.2.2.2.2.1, .slice x.2.2.2.2.2.2.1 r.cross.length x.2.2.2.2.2.2.2, iv r.next], eRow r_api_Loop 48 (.slice x.1 r.loops.length x.2.1) r.loops, eRow (rI .i64) 3 (.slice x.2.2.1 r.rows.length x.2.2.2.1) r.rows, eRow (rI .i64) 3 (.slice x.2.2.2.2.1 r.bound.length x.2.2.2.2.2.1) r.bound, eRow r_A2_Int 49 (.slice x.2.2.2.2.2.2.1 r.cross.length x.2.2.2.2.2.2.2) r.cross]) (fun _ => [])) := by
 unfold F_loops_piece_add_s1 at h
 obtain ⟨u1, rfl, aP⟩ := S.know (i := 0) (e := fRep r_api_Loop (v1) p1) rfl
 have S := S.learn (fRep (rL (rI .i64)) u1 p1.Parents) aP
 obtain ⟨az, aA, _, rfl, _⟩ := aP
 obtain ⟨av, aw, _, rfl, _⟩ := S.know (i := 2) (e := fRep (rL (rL (rI .i64))) (v2) p2) rfl
 refine sEnter (args := [.pointer (some ⟨bb0, 0, none⟩), .agg #[iv p1.Row, iv p1.Cell, .slice az p1.Parents.length aA, .bool p1.Purl], .slice av p2.length aw]) 27 Try.func58 rfl rfl (by simp) S (fun a S => ?_)
 refine sSeq (fun K7 aR => sRegion (sBox (v := .agg #[iv p1.Row, iv p1.Cell, .slice az p1.Parents.length aA, .bool p1.Purl]) S (wN rfl) rfl rfl [iv p1.Row, iv p1.Cell, .slice az p1.Parents.length aA, .bool p1.Purl] rfl rfl (lb rfl) fun a b8 w S => ?_))
 refine lT (aR _ _ (sSeq (fun K9 aS => sRegion (sM S fun a S => ?_))))
 refine sLen S (wN rfl) rfl Try.underlying69 rfl rfl (lb rfl) fun a S => ?_
 refine sM S fun a S => ?_
 refine lT (aS _ _ (wp_block ?_))
 obtain ⟨aV, hl, aT⟩ := bS h
 refine sLoop hl (fun s0 a w => match s0 with | (ap, aj, ax) => ∃ aa, ∃ ab, ∃ ac, ∃ ae, ∃ af, ∃ ag, ∃ ah, ∃ ai, ∃ am, ∃ ao, St [] E (keysL [eBox bb0 73 [.slice ad_0_0 p0.loops.length cp_0_0, .slice ad_0_1 p0.rows.length cp_0_1, .slice ad_0_2 p0.bound.length cp_0_2, .slice ad_0_3 p0.cross.length cp_0_3, iv p0.next], eRow r_api_Loop 48 (.slice ad_0_0 p0.loops.length cp_0_0) p0.loops, eRow (rI .i64) 3 (.slice ad_0_1 p0.rows.length cp_0_1) p0.rows, eRow (rI .i64) 3 (.slice ad_0_2 p0.bound.length cp_0_2) p0.bound, eRow r_A2_Int 49 (.slice ad_0_3 p0.cross.length cp_0_3) p0.cross]) w0 27 a w [(0, .pointer (some ⟨bb0, 0, none⟩)), (4, .pointer (some ⟨b8, 0, none⟩)), (8, .slice av p2.length aw), (9, iv (p2.length : Int)), (10, iv ap)] [eBox bb0 73 [.slice aa aj.length ab, .slice ac p0.rows.length ae, .slice af p0.bound.length ag, .slice ah p0.cross.length ai, iv p0.next], eBox b8 48 [iv p1.Row, iv p1.Cell, .slice am ax.length ao, .bool p1.Purl], eRow r_api_Loop 48 (.slice aa aj.length ab) aj, eRow (rI .i64) 3 (.slice ac p0.rows.length ae) p0.rows, eRow (rI .i64) 3 (.slice af p0.bound.length ag) p0.bound, eRow r_A2_Int 49 (.slice ah p0.cross.length ai) p0.cross] [fRep (rL (rL (rI .i64))) (.slice av p2.length aw) p2, fRep (rL (rI .i64)) (.slice am ax.length ao) ax]) ⟨ad_0_0, cp_0_0, ad_0_1, cp_0_1, ad_0_2, cp_0_2, ad_0_3, cp_0_3, az, aA, S.fix [1, 0, 2, 3, 4, 5] [2, 0] (by decide) rfl rfl rfl⟩ ?_
 clear hl h
 intro s0 a w c0 hI h aC
 obtain ⟨ap, aj, ax⟩ := s0
 unfold loops_piece_add_s1_l1 at h
 dsimp only at h hI
 obtain ⟨aa, ab, ac, ae, af, ag, ah, ai, am, ao, S⟩ := hI
 refine sSeq (fun aW aG => sRegion (sBin _ S (wN rfl) rfl rfl rfl (bLt _ _ _ _ .i64 ap (p2.length : Int)) rfl (lb rfl) fun a S => ?_))
 refine lT (aG _ _ (sSeq (fun aX aH => ?_)))
 rcases iS h with ⟨aq, h⟩ | ⟨aq, h⟩
 rotate_left
 ·refine sCondF S rfl aq ?_
  obtain rfl := tS h
  obtain rfl := aC _ rfl
  have h := aT
  try dsimp only at h
  obtain rfl := tS h
  exact wp_exit (xThen (xThen (xHit (sEnd (.tuple #[]) S (rsl0 rfl ) ⟨(aa, ab, ac, ae, af, ag, ah, ai), rfl, S.mem.sel [0, 2, 3, 4, 5] [] (by decide) rfl rfl⟩))))
 refine sCondT S rfl aq ?_
 refine wp_skip (leafT (aH _ _ ?_))
 refine sSeq (fun aZ aI => wp_block ?_)
 refine sSeq (fun ba aJ => sRegion ?_)
 obtain ⟨a9, aK, h⟩ := bS h
 obtain ⟨aQ, aL, S⟩ := pIdx (P := Try.prog) (r := (rL (rI .i64))) (v := .slice av p2.length aw) (xs := p2) (j := ap) 69 32 0 S Try.underlying69 rfl rfl aK
 refine sIdxV S (wN rfl) rfl rfl rfl aL rfl (lb rfl) fun a S => ?_
 obtain ⟨aU, S⟩ := pLoad (r := (rL (rI .i64))) (q := aQ) (x := a9) 0 S rfl
 obtain ⟨a0, a8, _, rfl, _⟩ := S.mem.know (i := 1) (e := fRep (rL (rI .i64)) (aU) a9) rfl
 refine sLoadV1 (vq := aQ) 0 (.slice a0 a9.length a8) S (wN rfl) rfl rfl rfl rfl rfl (lb rfl) fun a S => ?_
 refine sN S fun a S => ?_
 refine lT (aJ _ _ (sSeq (fun bb aM => sRegion (sM S fun a S => ?_))))
 refine sField (b := b8) (off := 0) 2 2 S (wN rfl) rfl rfl rfl rfl rfl (lb rfl) fun a S => ?_
 refine sStore (p := b8) (off := 2) (T := 48) (vs := [iv p1.Row, iv p1.Cell, .slice am ax.length ao, .bool p1.Purl]) (v := .slice a0 a9.length a8) 1 [.slice a0 a9.length a8] S (wN rfl) rfl rfl rfl rfl rfl rfl rfl (by simp) rfl fun a w S => ?_
 refine lT (aM _ _ ?_)
 obtain ⟨ay, aO, h⟩ := bS h
 refine sDraw (nf := [6, 7, 10]) (W := [(0, 16, .pointer (some ⟨bb0, 0, none⟩)), (1, 17, .pointer (some ⟨bb0, 0, none⟩)), (2, 18, .pointer (some ⟨bb0, 0, none⟩)), (3, 19, .pointer (some ⟨bb0, 0, none⟩)), (4, 20, .slice aa aj.length ab), (5, 21, .agg #[iv p1.Row, iv p1.Cell, .slice a0 a9.length a8, .bool p1.Purl])]) rfl S ?_
 refine node_by (A := anc_loops_piece_add_s1_0) 11 (by kernel_rfl) (by kernel_rfl) (by kernel_rfl) (by kernel_rfl) (by kernel_rfl) [0, 1, 2, 3, 4, 5] (by kernel_rfl) (by decide) (by decide) (fF ?_ (fF ?_ (fF ?_ (fF ?_ (fF ?_ (fF ?_ (fN ?_ (aB 7 3 6 (by decide) (fE 6 (fE 6 (aB 10 0 6 (by decide) (trivial)))))))))))) [] (fun q hq => by cases hq) (fun hY => absurd (hY 6 (by decide)) (by decide))
 ·exact fM 0 none rfl rfl rfl rfl (.inl rfl) rfl rfl rfl
 ·exact fM 1 none rfl rfl rfl rfl (.inl rfl) rfl rfl rfl
 ·refine fJ [(17, _)] 2 [some 1] fun G a w S => ?_
  exact nilCheck_ok (q := ⟨bb0, 0, none⟩) S (wN rfl) rfl rfl rfl (lb rfl) fun a S => leafL ⟨rfl, S⟩
 ·refine fJ [(18, _)] 3 [some 2] fun G a w S => ?_
  exact sField (b := bb0) (off := 0) 0 0 S (wN rfl) rfl rfl rfl rfl rfl (lb rfl) fun a S => leafL ⟨rfl, S⟩
 ·refine fJ [(19, _)] 4 [some 3] fun G a w S => ?_
  exact sLoad1 1 (.slice aa aj.length ab) S (wN rfl) rfl rfl rfl rfl rfl rfl (lb rfl) fun a S => leafL ⟨rfl, S⟩
 ·refine fJ [(4, _)] 5 [none] fun G a w S => ?_
  exact sLoadN (p := b8) (off := 0) (T := 48) (vs := [iv p1.Row, iv p1.Cell, .slice a0 a9.length a8, .bool p1.Purl]) 0 [iv p1.Row, iv p1.Cell, .slice a0 a9.length a8, .bool p1.Purl] S (wN rfl) rfl rfl rfl rfl rfl rfl rfl (lb rfl) fun a S => leafL ⟨rfl, S⟩
 refine ⟨_, [(21, .agg #[iv p1.Row, iv p1.Cell, .slice a0 a9.length a8, .bool p1.Purl])], rfl, (srcs_of [some 5] rfl rfl rfl), fun G a w S => ?_⟩
 have S := S.learn (fRep r_api_Loop (.agg #[iv p1.Row, iv p1.Cell, .slice a0 a9.length a8, .bool p1.Purl]) (api_Loop.mk p1.Row p1.Cell a9 p1.Purl)) ⟨_, rfl, S.mem.know (i := 1) (e := fRep (rL (rI .i64)) (.slice a0 a9.length a8) a9) rfl⟩
 refine sLit (r := r_api_Loop) (T := 48) (xs := [(api_Loop.mk p1.Row p1.Cell a9 p1.Purl)]) [(0, .agg #[iv p1.Row, iv p1.Cell, .slice a0 a9.length a8, .bool p1.Purl])] 1 [.agg #[iv p1.Row, iv p1.Cell, .slice a0 a9.length a8, .bool p1.Purl]] [iv p1.Row, iv p1.Cell, .slice a0 a9.length a8, .bool p1.Purl] (.agg #[iv 0, iv 0, .slice none 0 0, .bool false]) 48 S (wN rfl) rfl rfl Try.underlying26 rfl (by decide) (by decide) (by kernel_rfl) rfl (fun E1 w1 hE => All.cons (r_api_Loop.mono hE (S.mem.know (i := 0) (e := fRep r_api_Loop (.agg #[iv p1.Row, iv p1.Cell, .slice a0 a9.length a8, .bool p1.Purl]) (api_Loop.mk p1.Row p1.Cell a9 p1.Purl)) rfl)) (All.nil _ _ _)) rfl rfl (lb rfl) fun a w ar au S => ?_
 refine leafL ⟨rfl, _, _, .inl ⟨22, (.slice ar [(api_Loop.mk p1.Row p1.Cell a9 p1.Purl)].length au), [], rfl, S, hz_of rfl, ?_⟩⟩
 refine node_by (A := anc_loops_piece_add_s1_0) 11 (by kernel_rfl) (by kernel_rfl) (by kernel_rfl) (by kernel_rfl) (by kernel_rfl) [6, 0, 1, 2, 3, 4, 5] (by kernel_rfl) (by decide) (by decide) (fF ?_ (fF ?_ (fF ?_ (fF ?_ (fF ?_ (fD 6 (fY (fN ?_ (fE 7 (fE 7 (aB 10 0 7 (by decide) (trivial)))))))))))) [] (fun q hq => by cases hq) (fun hY => absurd (hY 7 (by decide)) (by decide))
 ·exact fM 1 none rfl rfl rfl rfl (.inl rfl) rfl rfl rfl
 ·exact fM 2 none rfl rfl rfl rfl (.inl rfl) rfl rfl rfl
 ·refine fJ [(17, _)] 3 [some 2] fun G a w S => ?_
  exact nilCheck_ok (q := ⟨bb0, 0, none⟩) S (wN rfl) rfl rfl rfl (lb rfl) fun a S => leafL ⟨rfl, S⟩
 ·refine fJ [(18, _)] 4 [some 3] fun G a w S => ?_
  exact sField (b := bb0) (off := 0) 0 0 S (wN rfl) rfl rfl rfl rfl rfl (lb rfl) fun a S => leafL ⟨rfl, S⟩
 ·refine fJ [(19, _)] 5 [some 4] fun G a w S => ?_
  exact sLoad1 2 (.slice aa aj.length ab) S (wN rfl) rfl rfl rfl rfl rfl rfl (lb rfl) fun a S => leafL ⟨rfl, S⟩
 refine ⟨_, [(20, .slice aa aj.length ab), (22, .slice ar [(api_Loop.mk p1.Row p1.Cell a9 p1.Purl)].length au)], rfl, (srcs_of [some 5, some 0] rfl rfl rfl), fun G a w S => ?_⟩
 refine sApp (r := r_api_Loop) (T := 48) (xs := aj) (ys := [(api_Loop.mk p1.Row p1.Cell a9 p1.Purl)]) (v := .slice aa aj.length ab) (u := .slice ar [(api_Loop.mk p1.Row p1.Cell a9 p1.Purl)].length au) 3 (.agg #[iv 0, iv 0, .slice none 0 0, .bool false]) 48 S (wN rfl) rfl Try.underlying26 rfl rfl (by decide) rfl rfl rfl (src_R (T := 48) 0 S.mem rfl) aO rfl (lb rfl) fun a w ak al S => ?_
 refine leafL ⟨rfl, _, _, .inl ⟨23, (.slice ak ay.length al), [(8, 24, .pointer (some ⟨bb0, 0, none⟩)), (9, 25, .pointer (some ⟨bb0, 0, none⟩))], rfl, S, hz_of rfl, ?_⟩⟩
 refine node_by (A := anc_loops_piece_add_s1_0) 11 (by kernel_rfl) (by kernel_rfl) (by kernel_rfl) (by kernel_rfl) (by kernel_rfl) [8, 9, 7, 6, 0, 1, 2, 3, 4, 5] (by kernel_rfl) (by decide) (by decide) (fF ?_ (fD 7 (fD 7 (fD 7 (fD 7 (fD 7 (fY (fY (fF ?_ (fF ?_ (fN ?_ (trivial)))))))))))) [] (fun q hq => by cases hq) (fun hY => absurd (hY 10 (by decide)) (by decide))
 ·exact fM 4 none rfl rfl rfl rfl (.inl rfl) rfl rfl rfl
 ·refine fJ [(16, _)] 0 [some 4] fun G a w S => ?_
  exact nilCheck_ok (q := ⟨bb0, 0, none⟩) S (wN rfl) rfl rfl rfl (lb rfl) fun a S => leafL ⟨rfl, S⟩
 ·refine fJ [(24, _)] 1 [some 0] fun G a w S => ?_
  exact sField (b := bb0) (off := 0) 0 0 S (wN rfl) rfl rfl rfl rfl rfl (lb rfl) fun a S => leafL ⟨rfl, S⟩
 refine ⟨_, [(23, .slice ak ay.length al), (25, .pointer (some ⟨bb0, 0, none⟩))], rfl, (srcs_of [some 2, some 1] rfl rfl rfl), fun G a w S => ?_⟩
 refine sStore (p := bb0) (off := 0) (T := 73) (vs := [.slice aa aj.length ab, .slice ac p0.rows.length ae, .slice af p0.bound.length ag, .slice ah p0.cross.length ai, iv p0.next]) (v := .slice ak ay.length al) 3 [.slice ak ay.length al] S (wN rfl) rfl rfl rfl rfl rfl rfl rfl (by simp) rfl fun a w S => ?_
 refine leafL ⟨rfl, _, _, .inr ⟨[], rfl, S, hz_of rfl, ?_⟩⟩
 refine node_by (A := anc_loops_piece_add_s1_0) 11 (by kernel_rfl) (by kernel_rfl) (by kernel_rfl) (by kernel_rfl) (by kernel_rfl) [8, 9, 7, 6, 0, 1, 2, 3, 4, 5] (by kernel_rfl) (by decide) (by decide) (fD 10 (fD 10 (fD 10 (fD 10 (fD 10 (fD 10 (fY (fY (fD 10 (fD 10 (fY (trivial)))))))))))) [(0, .pointer (some ⟨bb0, 0, none⟩)), (4, .pointer (some ⟨b8, 0, none⟩)), (8, .slice av p2.length aw), (9, iv (p2.length : Int)), (10, iv ap)] (fin_of [none, none, none, none, none] rfl (by kernel_rfl) (by kernel_rfl)) (fun _ a w S => ?_)
 refine leafB (leafT (aI _ _ ?_))
 refine sRegion (sBin _ S (wN rfl) rfl rfl rfl (bAdd _ _ _ _ ap 1) rfl (lb rfl) fun a S => ?_)
 refine sM S fun a S => ?_
 exact lT (⟨(w64 (ap + 1), ay, a9), (Option.some.inj h).symm, ⟨ak, al, ac, ae, af, ag, ah, ai, a0, a8, S.fix [0, 3, 1, 4, 5, 6] [4, 2] (by decide) rfl rfl rfl⟩⟩)
def anc_slices_Reverse___int_int__s0_0 : List (List Nat) := [[], [], [], [], [], [], [4, 5], [4, 5, 6], [], [], [8, 9], [8, 9, 10], [0, 1, 4, 5, 6, 7, 8, 9, 10, 11], [0, 1, 4, 5, 6, 7, 8, 9, 10, 11, 12], [0, 1, 2, 3, 4, 5, 6, 7, 8, 9, 10, 11, 12, 13], [0, 1, 2, 3, 4, 5, 6, 7, 8, 9, 10, 11, 12, 13, 14]]
noncomputable def slices_Reverse___int_int__s0_l1  : (List Int × Int × Int) → Option ((List Int × Int × Int) ⊕ List Int) := fun s0 => match s0 with
 | (s2, s3, s4) =>
  if decide (s3 < s4) then
   (idxO s2 s4).bind fun a8 =>
   (idxO s2 s3).bind fun a9 =>
   (setO s2 s3 a8).bind fun a0 =>
   (idxO a0 s4).bind fun ab =>
   (setO a0 s4 a9).bind fun aa =>
   some (.inl (aa, w64 (s3 + 1), w64 (s4 - 1)))
  else
   some (.inr s2)
noncomputable def F_slices_Reverse___int_int__s0 (p0 : (List Int)) : Option (List Int) :=
 (whileO (slices_Reverse___int_int__s0_l1) (p0, 0, w64 ((p0.length : Int) - 1))).bind fun e8 =>
  (keepO p0 e8).bind fun _ =>
  some e8
theorem c_slices_Reverse___int_int__s0 (E : Nat → Prop) (w0 : World) (p0 : (List Int)) (ad_0 : Option Addr) (cp_0 : Nat) (r : (List Int)) (h : F_slices_Reverse___int_int__s0 p0 = some r) (S : St0 E (keysL [eRow (rI .i64) 3 (.slice ad_0 p0.length cp_0) p0]) w0 w0 [eRow (rI .i64) 3 (.slice ad_0 p0.length cp_0) p0] []) :
 Calls Try.prog 59 #[.slice ad_0 p0.length cp_0] w0 (Ret (X := Unit) E (keysL [eRow (rI .i64) 3 (.slice ad_0 p0.length cp_0) p0]) w0 (fun _ => .tuple #[]) (fun _ => [eRow (rI .i64) 3 (.slice ad_0 p0.length cp_0) r]) (fun _ => [])) := by
 unfold F_slices_Reverse___int_int__s0 at h
 refine sEnter (args := [.slice ad_0 p0.length cp_0]) 28 Try.func59 rfl rfl (by simp) S (fun a S => ?_)
 refine sSeq (fun K1 aA => sRegion (sM S fun a S => ?_))
 refine sLen S (wN rfl) rfl Try.underlying32 rfl rfl (lb rfl) fun a S => ?_
 refine sBin _ S (wN rfl) rfl rfl rfl (bSub _ _ _ _ (p0.length : Int) 1) rfl (lb rfl) fun a S => ?_
 refine sN S fun a S => ?_
 refine sN S fun a S => ?_
 refine lT (aA _ _ (wp_block ?_))
 obtain ⟨t7, hl, g6⟩ := bS h
 refine sLoop hl (fun s0 a w => match s0 with | (s2, s3, s4) => St [] E (keysL [eRow (rI .i64) 3 (.slice ad_0 p0.length cp_0) p0]) w0 28 a w [(0, .slice ad_0 s2.length cp_0), (2, iv s3), (3, iv s4)] [eRow (rI .i64) 3 (.slice ad_0 s2.length cp_0) s2] []) (S.fix [0] [] (by decide) rfl rfl rfl) ?_
 clear hl h
 intro s0 a w c0 hI h aC
 obtain ⟨s2, s3, s4⟩ := s0
 unfold slices_Reverse___int_int__s0_l1 at h
 dsimp only at h hI
 have S := hI
 refine sSeq (fun K9 aG => sSeq (fun aH af => sRegion (sM S fun a S => ?_)))
 refine sM S fun a S => ?_
 refine sBin _ S (wN rfl) rfl rfl rfl (bLt _ _ _ _ .i64 s3 s4) rfl (lb rfl) fun a S => ?_
 refine lT (af _ _ ?_)
 rcases iS h with ⟨a0, h⟩ | ⟨a0, h⟩
 rotate_left
 ·refine sCondF S rfl a0 ?_
  obtain rfl := tS h
  obtain rfl := aC _ rfl
  have h := g6
  try dsimp only at h
  obtain ⟨_, ag, h⟩ := bS h
  rw [keepO_v ag ad_0 cp_0] at S
  obtain rfl := tS h
  exact wp_exit (xThen (xThen (xHit (sEnd (.tuple #[]) S (rsl0 rfl ) ⟨(), rfl, S.mem.sel [0] [] (by decide) rfl rfl⟩))))
 refine sCondT S rfl a0 ?_
 refine wp_skip (leafT (aG _ _ ?_))
 refine sSeq (fun aI ah => wp_block ?_)
 obtain ⟨a9, ab, h⟩ := bS h
 obtain ⟨aa, a8, h⟩ := bS h
 obtain ⟨ai, ac, h⟩ := bS h
 obtain ⟨aJ, aj, h⟩ := bS h
 obtain ⟨ax, ae, h⟩ := bS h
 obtain ⟨ay, ak, al⟩ := pIdxR (P := Try.prog) (r := (rI .i64)) (T := 3) (v := .slice ad_0 s2.length cp_0) (xs := s2) (j := s4) 32 3 0 S Try.underlying32 rfl rfl ab
 obtain ⟨az, am, ao⟩ := pIdxR (P := Try.prog) (r := (rI .i64)) (T := 3) (v := .slice ad_0 s2.length cp_0) (xs := s2) (j := s3) 32 3 0 S Try.underlying32 rfl rfl a8
 obtain ⟨ap, aq, ar⟩ := pIdxR (P := Try.prog) (r := (rI .i64)) (T := 3) (v := .slice ad_0 s2.length cp_0) (xs := s2) (j := s3) 32 3 0 S Try.underlying32 rfl rfl a8
 refine sDraw (nf := [13, 15]) (W := [(0, 14, .slice ad_0 s2.length cp_0), (1, 15, iv s3), (2, 16, .slice ad_0 s2.length cp_0), (3, 17, iv s4), (4, 18, .slice ad_0 s2.length cp_0), (5, 19, iv s4), (6, 20, ay), (7, 21, iv a9), (8, 22, .slice ad_0 s2.length cp_0), (9, 23, iv s3), (10, 24, az), (11, 25, iv aa), (12, 26, ap)]) rfl S ?_
 refine node_by (A := anc_slices_Reverse___int_int__s0_0) 16 (by kernel_rfl) (by kernel_rfl) (by kernel_rfl) (by kernel_rfl) (by kernel_rfl) [0, 1, 2, 3, 4, 5, 6, 7, 8, 9, 10, 11, 12] (by kernel_rfl) (by decide) (by decide) (fF ?_ (fF ?_ (fF ?_ (fF ?_ (fF ?_ (fF ?_ (fF ?_ (fF ?_ (fF ?_ (fF ?_ (fF ?_ (fF ?_ (fF ?_ (fN ?_ (fE 13 (aB 15 0 13 (by decide) (trivial))))))))))))))))) [] (fun q hq => by cases hq) (fun hY => absurd (hY 13 (by decide)) (by decide))
 ·exact fM 0 none rfl rfl rfl rfl (.inl rfl) rfl rfl rfl
 ·exact fM 1 none rfl rfl rfl rfl (.inl rfl) rfl rfl rfl
 ·exact fM 2 none rfl rfl rfl rfl (.inl rfl) rfl rfl rfl
 ·exact fM 3 none rfl rfl rfl rfl (.inl rfl) rfl rfl rfl
 ·exact fM 4 none rfl rfl rfl rfl (.inl rfl) rfl rfl rfl
 ·exact fM 5 none rfl rfl rfl rfl (.inl rfl) rfl rfl rfl
 ·refine fJ [(18, _), (19, _)] 6 [some 4, some 5] fun G a w S => ?_
  exact sIdxV S (wN rfl) rfl rfl rfl ak rfl (lb rfl) fun a S => leafL ⟨rfl, S⟩
 ·refine fJ [(20, _)] 7 [some 6] fun G a w S => ?_
  exact sLoadR (r := (rI .i64)) (T := 3) (xs := s2) (x := a9) (v := .slice ad_0 s2.length cp_0) (vq := ay) (j := s4) 0 (iv a9) S al (wN rfl) rfl rfl rfl ab (fun _ _ _ h => h) (scal_I _) rfl rfl (lb rfl) fun a S => leafL ⟨rfl, S⟩
 ·exact fM 8 none rfl rfl rfl rfl (.inl rfl) rfl rfl rfl
 ·exact fM 9 none rfl rfl rfl rfl (.inl rfl) rfl rfl rfl
 ·refine fJ [(22, _), (23, _)] 10 [some 8, some 9] fun G a w S => ?_
  exact sIdxV S (wN rfl) rfl rfl rfl am rfl (lb rfl) fun a S => leafL ⟨rfl, S⟩
 ·refine fJ [(24, _)] 11 [some 10] fun G a w S => ?_
  exact sLoadR (r := (rI .i64)) (T := 3) (xs := s2) (x := aa) (v := .slice ad_0 s2.length cp_0) (vq := az) (j := s3) 0 (iv aa) S ao (wN rfl) rfl rfl rfl a8 (fun _ _ _ h => h) (scal_I _) rfl rfl (lb rfl) fun a S => leafL ⟨rfl, S⟩
 ·refine fJ [(14, _), (15, _)] 12 [some 0, some 1] fun G a w S => ?_
  exact sIdxV S (wN rfl) rfl rfl rfl aq rfl (lb rfl) fun a S => leafL ⟨rfl, S⟩
 refine ⟨_, [(21, iv a9), (26, ap)], rfl, (srcs_of [some 7, some 12] rfl rfl rfl), fun G a w S => ?_⟩
 refine sStoreR (r := (rI .i64)) (T := 3) (xs := s2) (ys := ai) (y := a9) (v := .slice ad_0 s2.length cp_0) (vq := ap) (u := iv a9) (j := s3) 0 S ar (wN rfl) rfl rfl rfl rfl rfl ac rfl rfl fun a w S => ?_
 obtain ⟨au, av, aw⟩ := pIdxR (P := Try.prog) (r := (rI .i64)) (T := 3) (v := .slice ad_0 s2.length cp_0) (xs := ai) (j := s4) 32 3 0 S Try.underlying32 rfl rfl aj
 refine leafL ⟨rfl, _, _, .inr ⟨[(14, 27, au)], rfl, S, hz_of rfl, ?_⟩⟩
 refine node_by (A := anc_slices_Reverse___int_int__s0_0) 16 (by kernel_rfl) (by kernel_rfl) (by kernel_rfl) (by kernel_rfl) (by kernel_rfl) [14, 0, 1, 2, 3, 4, 5, 6, 7, 8, 9, 10, 11, 12] (by kernel_rfl) (by decide) (by decide) (fD 13 (fD 13 (fF ?_ (fF ?_ (fD 13 (fD 13 (fD 13 (fD 13 (fD 13 (fD 13 (fD 13 (fD 13 (fD 13 (fY (fF ?_ (fN ?_ (trivial))))))))))))))))) [] (fun q hq => by cases hq) (fun hY => absurd (hY 15 (by decide)) (by decide))
 ·exact fM 3 none rfl rfl rfl rfl (.inl rfl) rfl rfl rfl
 ·exact fM 4 none rfl rfl rfl rfl (.inl rfl) rfl rfl rfl
 ·refine fJ [(16, _), (17, _)] 0 [some 3, some 4] fun G a w S => ?_
  exact sIdxV S (wN rfl) rfl rfl rfl av rfl (lb rfl) fun a S => leafL ⟨rfl, S⟩
 refine ⟨_, [(25, iv aa), (27, au)], rfl, (srcs_of [some 12, some 0] rfl rfl rfl), fun G a w S => ?_⟩
 refine sStoreR (r := (rI .i64)) (T := 3) (xs := ai) (ys := ax) (y := aa) (v := .slice ad_0 s2.length cp_0) (vq := au) (u := iv aa) (j := s4) 0 S aw (wN rfl) rfl rfl rfl rfl rfl ae rfl rfl fun a w S => ?_
 refine leafL ⟨rfl, _, _, .inr ⟨[], rfl, S, hz_of rfl, ?_⟩⟩
 refine node_by (A := anc_slices_Reverse___int_int__s0_0) 16 (by kernel_rfl) (by kernel_rfl) (by kernel_rfl) (by kernel_rfl) (by kernel_rfl) [14, 0, 1, 2, 3, 4, 5, 6, 7, 8, 9, 10, 11, 12] (by kernel_rfl) (by decide) (by decide) (fD 15 (fD 15 (fD 15 (fD 15 (fD 15 (fD 15 (fD 15 (fD 15 (fD 15 (fD 15 (fD 15 (fD 15 (fD 15 (fY (fD 15 (fY (trivial))))))))))))))))) [(0, .slice ad_0 s2.length cp_0), (2, iv s3), (3, iv s4)] (fin_of [none, none, none] rfl (by kernel_rfl) (by kernel_rfl)) (fun _ a w S => ?_)
 rw [setO_v ac ad_0 cp_0] at S
 rw [setO_v ae ad_0 cp_0] at S
 refine leafB (leafT (ah _ _ ?_))
 refine sRegion (sM S fun a S => ?_)
 refine sBin _ S (wN rfl) rfl rfl rfl (bAdd _ _ _ _ s3 1) rfl (lb rfl) fun a S => ?_
 refine sM S fun a S => ?_
 refine sBin _ S (wN rfl) rfl rfl rfl (bSub _ _ _ _ s4 1) rfl (lb rfl) fun a S => ?_
 refine sN S fun a S => ?_
 refine sN S fun a S => ?_
 exact lT (⟨(ax, w64 (s3 + 1), w64 (s4 - 1)), (Option.some.inj h).symm, (S.fix [0] [] (by decide) rfl rfl rfl)⟩)
end Go.Proofs.Yticjoiolfibmlaa
