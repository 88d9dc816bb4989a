/- Several texts in one: SpY GTy SpO GOp KeA G79 G81 G82 G80 G58 G60 G59 G37 G10 G63 G39 G12 G64 -/
import Derived.WalkKit
import Derived.Maps.AppendAt
import Derived.Deep.AppendLies
import Derived.KernelRfl
import Derived.Laws.OwnMore
import Derived.Great.BuildSlice
import Derived.Orders
import Derived.Laws.StructEq
import Derived.ChangeKeysEq
import Derived.Defers
import Derived.Laws.BytesString
import Derived.RangeFuncNested
import Derived.RangeFuncBound
import Derived.RangeFuncCalls
import Derived.RangeFuncLeaves
import Derived.OrdersIn
import Derived.LoopNIn
import Derived.Test.YtdbgkakmhlmpbaaProg
import Derived.ProofKit
import Derived.OpenShut
import Derived.ChangeOld
import Derived.Deep.Slices
import Derived.Lib.SmallJoins
import Derived.JoinedOf
import Derived.JoinedAt
import Derived.Below
import Derived.Test.YtdbgkakmhlmpbaaRows
import Derived.Test.YtdbgkakmhlmpbaaMCostSides1
namespace Go.Proofs.Ytdbgkakmhlmpbaa
open Go.RowKit
set_option linter.unusedVariables false

theorem All.take {α : Type} {r : R α} {E : Nat → Prop} {w : World} {vs : List Value} {xs : List α} (a : All r E w vs xs) (k : Nat) : All r E w (vs.take k) (xs.take k) := by
  refine ⟨by simp [a.1], fun j v x hv hx => ?_⟩
  rw [List.getElem?_take] at hv hx
  split at hv
  · rename_i h
    rw [if_pos h] at hx
    exact a.2 j v x hv hx
  · cases hv
theorem All.drop {α : Type} {r : R α} {E : Nat → Prop} {w : World} {vs : List Value} {xs : List α} (a : All r E w vs xs) (k : Nat) : All r E w (vs.drop k) (xs.drop k) := by
  refine ⟨by simp [a.1], fun j v x hv hx => ?_⟩
  rw [List.getElem?_drop] at hv hx
  exact a.2 _ v x hv hx
theorem flat_split {sz : Nat} {vs : List Value} (h : ∀ v, v ∈ vs → v.cells.size = sz) (k : Nat) (hk : k ≤ vs.length) : flat vs = flat (vs.take k) ++ flat (vs.drop k) ∧ (flat (vs.take k)).length = k * sz := by
  refine ⟨by rw [← flat_append, List.take_append_drop], ?_⟩
  rw [flat_length (fun v hv => h v (List.mem_of_mem_take hv)), List.length_take, Nat.min_eq_left hk]
/-- copy's result: the list behind it -/
def cpO {α : Type} (xs ys : List α) : List α := ys.take xs.length ++ xs.drop ys.length
theorem cpO_length {α : Type} (xs ys : List α) : (cpO xs ys).length = xs.length := by simp [cpO]; omega
theorem cpO_eq {α : Type} {xs ys : List α} (h : xs.length = ys.length) : cpO xs ys = ys := by simp [cpO, h]
theorem cpO_v {α : Type} (xs ys : List α) (ad : Option Addr) (c : Nat) : Value.slice ad xs.length c = Value.slice ad (cpO xs ys).length c := by rw [cpO_length]
section
variable {P : Program} {dq : List Deferred} {E : Nat → Prop} {M : List Nat} {w0 : World} {n : Nat} {a : Act} {w : World} {F : List (Nat × Value)} {L : List Ent} {D : List Fact} {Q : Exit → Act → World → Prop}
variable {ops : Array Oper} {rest : List Oper} {o : Oper} {d : Nat}
theorem run_copyN {dT sT ty elem : TypeId} {sz g dLen dCap sLen sCap : Nat} {ad : Option Addr} {cur : Array Value} {t : TypeId} (cs : List Value) (hu : P.underlying dT = some (.slice elem)) (hs : cellsB P elem = some sz)
    (hg : w.heap[g]? = some (.cells cur t (0, 0))) (hn : cs.length = Nat.min sLen dLen * sz) (hsrc : ∀ j c, cs[j]? = some c → ∃ b off, ad = some ⟨b, off, none⟩ ∧ w.cell? ⟨b, off + j, none⟩ = some c) (hfit : cs.length ≤ cur.size) (h1 : ∀ v ∈ cs, v.oneCell' = true) :
    (Builtin.copy_ #[dT, sT] ty #[.slice (some ⟨g, 0, none⟩) dLen dCap, .slice ad sLen sCap]).run P w = .ok (goInt ((Nat.min sLen dLen : Nat) : Int)) (w.setRow g (over cur.toList 0 cs).toArray) := by
  have hst := run_storeCells_at P g 0 t cs 0 cur w hg (by simpa using hfit) h1
  simp only [Nat.zero_add, List.take_zero, List.nil_append] at hst
  have ho : over cur.toList 0 cs = cs ++ cur.toList.drop cs.length := by simp [over]
  rw [ho]
  cases hq : P.info? elem with
  | none => simp [cellsB, hq] at hs
  | some i =>
    have hi : i.size = sz := by simpa [cellsB, hq] using hs
    cases ad with
    | none =>
      have hcs : cs = [] := by
        cases cs with
        | nil => rfl
        | cons c cs => obtain ⟨_, _, h, _⟩ := hsrc 0 c rfl; cases h
      subst hcs
      simp [Builtin.copy_, run_underlying hu, Builtin.lenOf, Builtin.firstCells, sizeOf, typeInfo, hq, hi, hst]
    | some ad =>
      have hl := run_loadCells_list (P := P) w ad cs (fun j v hv => by
        obtain ⟨b, off, h, hc⟩ := hsrc j v hv
        cases h
        rw [add_addr]; exact hc)
      rw [hn] at hl
      simp [Builtin.copy_, run_underlying hu, Builtin.lenOf, Builtin.firstCells, sizeOf, typeInfo, hq, hi, hl, hst]
theorem sCopyR {α : Type} {r : R α} {T elem dT sT : TypeId} {xs ys : List α} {x y : Operand} {v u : Value} (i m : Nat) (S : St dq E M w0 n a w F L D)
    (hw : ∀ a, Frm dq n a F → Region.wanted o (yielded ops a.tmps) = true) (ho : o.op = .call { callee := .builtin .copy, args := #[x, y], argTypes := #[dT, sT] }) (hu : P.underlying dT = some (.slice elem)) (hs : cellsB P elem = some r.sz)
    (hx : lookO F x = some v) (hy : lookO F y = some u) (hL : L[i]? = some (eRow r T v xs)) (hD : D[m]? = some (fRep (rL r) u ys)) (hd : o.dst = some d) (hn : d < n)
    (k : ∀ a w, St dq E M w0 n a w ((d, .int .i64 ((Nat.min ys.length xs.length : Nat) : Int)) :: F) (eRow r T v (cpO xs ys) :: L.eraseIdx i) D → wpList P ops Q rest a w) : wpList P ops Q (o :: rest) a w := by
  obtain ⟨vs, ha, hlen, hown⟩ := S.mem.at hL
  obtain ⟨ad, cS, us, rfl, hcS, hmS, hb, hcells⟩ := S.mem.know hD
  have hex := S.frm.eval hx
  have hey := S.frm.eval hy
  have hown1 := hown
  rcases hown.2 with ⟨rfl, h0⟩ | ⟨g, cap, cur, rfl, hgb, hg, hnc, hcm, hcs, htake⟩
  · have hxs : xs = [] := List.eq_nil_of_length_eq_zero h0
    subst hxs
    have hrun : (Builtin.copy_ #[dT, sT] o.type #[.slice none 0 0, .slice ad ys.length cS]).run P w = .ok (goInt 0) w := by
      cases hq : P.info? elem with
      | none => simp [cellsB, hq] at hs
      | some q =>
        cases ad with
        | none => simp [Builtin.copy_, run_underlying hu, Builtin.lenOf, Builtin.firstCells, sizeOf, typeInfo, hq]
        | some ad =>
          have hl := run_loadCells_list (P := P) w ad [] (fun j v hv => by simp at hv)
          simp only [List.length_nil] at hl
          simp [Builtin.copy_, run_underlying hu, Builtin.lenOf, Builtin.firstCells, sizeOf, typeInfo, hq, hl]
    have hcp : cpO ([] : List α) ys = [] := by simp [cpO]
    rw [hcp] at k
    have hput : St0 E M w0 w (eRow r T (.slice none 0 0) ([] : List α) :: L.eraseIdx i) D := S.mem.perm (erase_perm hL)
    refine sVal (v := .int .i64 ((Nat.min ys.length 0 : Nat) : Int)) S hw hd hn ?_ hput (fun a => k a _)
    simp [execOp, ho, resolve, invoke, builtin, hex, hey, hrun, Result.andThen, goInt]
  · have hlv : vs.length = xs.length := ha.1
    have hlu : us.length = ys.length := hb.1
    have hfl := flat_length (fun v hv => (ha.cells v hv).1)
    rw [hlv] at hfl
    have hcut : (flat (us.take xs.length)).length = Nat.min ys.length xs.length * r.sz := by
      rw [flat_length (fun v hv => (hb.cells v (List.mem_of_mem_take hv)).1), List.length_take, hlu, Nat.min_comm]
    have hmin : Nat.min ys.length xs.length ≤ xs.length := Nat.min_le_right _ _
    have hle : Nat.min ys.length xs.length * r.sz ≤ xs.length * r.sz := Nat.mul_le_mul_right _ hmin
    have hle2 : xs.length * r.sz ≤ cap * r.sz := Nat.mul_le_mul_right _ hnc
    have hpre : ∃ post, flat us = flat (us.take xs.length) ++ post := ⟨flat (us.drop xs.length), by rw [← flat_append, List.take_append_drop]⟩
    obtain ⟨post, hpre⟩ := hpre
    have hrun := run_copyN (P := P) (w := w) (sT := sT) (ty := o.type) (dLen := xs.length) (dCap := cap) (sLen := ys.length) (sCap := cS) (ad := ad) (flat (us.take xs.length)) hu hs hg hcut (fun j c hc => by
      have hj : j < (flat (us.take xs.length)).length := (List.getElem?_eq_some_iff.1 hc).1
      obtain ⟨b, off, h1, _, _, h4⟩ := hcells j c (by rw [hpre, List.getElem?_append_left hj]; exact hc)
      exact ⟨b, off, h1, h4⟩) (by rw [hcut, hcs]; omega) (flat_one (fun v hv => (hb.cells v (List.mem_of_mem_take hv)).2))
    have hchg : Chg (eRow r T (.slice (some ⟨g, 0, none⟩) xs.length cap) xs).keys w (w.setRow g (over cur.toList 0 (flat (us.take xs.length))).toArray) := ⟨rfl, rfl, rfl, by simp [World.setRow], fun k _ hk => setRow_other w g k _ (fun e => hk (by simp [eRow, vkeys, e]))⟩
    have hext : Ext (tot E L) (tot E (eRow r T (.slice (some ⟨g, 0, none⟩) xs.length cap) (cpO xs ys) :: L.eraseIdx i)) w (w.setRow g (over cur.toList 0 (flat (us.take xs.length))).toArray) := by
      refine ⟨hchg.size, fun b hb hn _ => hchg.block b hb (fun e => hn (.inr (keysL_mem.2 ⟨_, List.mem_of_getElem? hL, e⟩))), fun b hb h => ?_⟩
      rcases h with h | h
      · exact .inl h
      · obtain ⟨e, h2, h3⟩ := keysL_mem.1 h
        rcases List.mem_cons.1 h2 with rfl | h2
        · exact .inr (keysL_mem.2 ⟨_, List.mem_of_getElem? hL, h3⟩)
        · exact .inr (keysL_mem.2 ⟨e, List.mem_of_mem_eraseIdx h2, h3⟩)
    refine sVal (v := .int .i64 ((Nat.min ys.length xs.length : Nat) : Int)) S hw hd hn (w' := w.setRow g (over cur.toList 0 (flat (us.take xs.length))).toArray) ?_ (S.mem.put hL (eRow r T (.slice (some ⟨g, 0, none⟩) xs.length cap) (cpO xs ys)) hchg (fun b hb => .inl hb) (by simp [eRow, vkeys]) ?_) (fun a => k a _)
    · simp only [execOp, ho, resolve, invoke, builtin]
      simp [hex, hey, hrun, Result.andThen, goInt]
    · have hall : All r (tot E (eRow r T (.slice (some ⟨g, 0, none⟩) xs.length cap) (cpO xs ys) :: L.eraseIdx i)) (w.setRow g (over cur.toList 0 (flat (us.take xs.length))).toArray) (cpO vs us) (cpO xs ys) := by
        unfold cpO
        rw [hlv, hlu]
        exact ((hb.mono hext).take _).append ((ha.mono hext).drop _)
      have hfc : flat (cpO vs us) = over (flat vs) 0 (flat (us.take xs.length)) := by
        unfold cpO over
        rw [flat_append, hlv, hlu, List.take_zero, List.nil_append, Nat.zero_add, hcut]
        congr 1
        by_cases h : ys.length ≤ xs.length
        · have e := flat_split (fun v hv => (ha.cells v hv).1) ys.length (by omega)
          rw [e.1, show Nat.min ys.length xs.length = ys.length from Nat.min_eq_left h, List.drop_append, e.2]
          simp [e.2]
        · rw [show Nat.min ys.length xs.length = xs.length from Nat.min_eq_right (by omega), List.drop_eq_nil_of_le (by omega), List.drop_eq_nil_of_le (by omega)]
          rfl
      refine ⟨cpO vs us, hall, by rw [cpO_length]; exact hlen, ?_⟩
      rw [cpO_length, hfc]
      refine ⟨by rw [over_length (by rw [hcut, hfl]; omega), hfl], .inr ⟨g, cap, (over cur.toList 0 (flat (us.take xs.length))).toArray, rfl, Nat.zero_le _, setRow_heap w g cur _ T _ hg, hnc, hcm, ?_, ?_⟩⟩
      · simp only [List.size_toArray]; rw [over_length (by rw [hcut]; simp only [Nat.zero_add, Array.length_toList]; omega)]; simpa using hcs
      · rw [over_take (by rw [hcut]; omega) (by simp only [Array.length_toList]; omega), htake]
/-- a row of one's own, but the cell p holds u -/
def eHole {α : Type} (r : R α) (T : TypeId) (v : Value) (xs : List α) (p : Nat) (u : Value) : Ent where
  keys := vkeys v
  p := fun E w => ∃ vs, All r E w vs xs ∧ xs.length ≤ 68719476736 ∧ p < xs.length * r.sz ∧ w.ownsRow 0 T r.sz v xs.length (over (flat vs) p [u])
  mono := by
    rintro E E' w w' h hs ⟨vs, ha, hm, hp, hl, ho⟩
    refine ⟨vs, ha.mono h, hm, hp, hl, ?_⟩
    rcases ho with ho | ⟨g, cap, cur, hv, hg, hh, hr⟩
    · exact .inl ho
    · subst hv
      exact .inr ⟨g, cap, cur, rfl, hg, by rw [hs g (by simp [vkeys])]; exact hh, hr⟩
  lt := by
    rintro E w ⟨vs, ha, _, _, hl, ho⟩ b hb
    rcases ho with ⟨ho, _⟩ | ⟨g, cap, cur, hv, hg, hh, hr⟩
    · subst ho; simp [vkeys] at hb
    · subst hv
      simp [vkeys] at hb; subst hb
      exact (Array.getElem?_eq_some_iff.1 hh).1
theorem sStoreH {α : Type} {r : R α} {T : TypeId} {xs : List α} {x : α} {t : TypeId} {q xo : Operand} {v vq u : Value} {j : Int} (i kf : Nat) (S : St dq E M w0 n a w F L D) (hp : OwnF r.sz v vq j.toNat kf)
    (hw : ∀ a, Frm dq n a F → Region.wanted o (yielded ops a.tmps) = true) (ho : o.op = .store t q xo) (hq : lookO F q = some vq) (hxo : lookO F xo = some u) (hL : L[i]? = some (eRow r T v xs)) (hix : idxO xs j = some x) (hk : kf < r.sz) (hc : u.cells.toList = [u]) (h1 : u.oneCell' = true) (hm : cellsB P t = some 1) (hd : o.dst = none)
    (k : ∀ a w, St dq E M w0 n a w F (eHole r T v xs (j.toNat * r.sz + kf) u :: L.eraseIdx i) D → wpList P ops Q rest a w) : wpList P ops Q (o :: rest) a w := by
  obtain ⟨_, h2, _⟩ := idxO_some hix
  obtain ⟨vs, ha, hlen, hown⟩ := S.mem.at hL
  obtain ⟨g, m, c, rfl, rfl⟩ := hp
  have he := S.frm.eval hq
  have hex := S.frm.eval hxo
  have hcs1 : u.cells.size = 1 := by rw [← Array.length_toList, hc]; rfl
  have hown1 := hown
  rcases hown.2 with ⟨h, _⟩ | ⟨g', cap, cur, h, hb, hg, hnc, hcm, hcs, htake⟩
  · cases h
  obtain ⟨rfl, rfl, rfl⟩ : g = g' ∧ m = xs.length ∧ c = cap := by simpa using h
  have hle : (j.toNat + 1) * r.sz ≤ xs.length * r.sz := Nat.mul_le_mul_right _ h2
  have hle2 : xs.length * r.sz ≤ c * r.sz := Nat.mul_le_mul_right _ hnc
  rw [Nat.add_mul, Nat.one_mul] at hle
  have hfl := flat_length (fun v hv => (ha.cells v hv).1)
  rw [ha.1] at hfl
  have hst := run_storeVar (P := P) (t := t) (off := j.toNat * r.sz + kf) (u := u) (by rw [hcs1]; exact hm) (by rw [hc]; intro c hc'; simp at hc'; rw [hc']; exact h1) hg (by rw [hcs1, hcs]; omega)
  rw [hc] at hst
  have hchg : Chg (eRow r T (.slice (some ⟨g, 0, none⟩) xs.length c) xs).keys w (w.setRow g (over cur.toList (j.toNat * r.sz + kf) [u]).toArray) := ⟨rfl, rfl, rfl, by simp [World.setRow], fun k _ hk => setRow_other w g k _ (fun e => hk (by simp [eRow, vkeys, e]))⟩
  have hext : Ext (tot E L) (tot E (eHole r T (.slice (some ⟨g, 0, none⟩) xs.length c) xs (j.toNat * r.sz + kf) u :: L.eraseIdx i)) w (w.setRow g (over cur.toList (j.toNat * r.sz + kf) [u]).toArray) := by
    refine ⟨hchg.size, fun b hb hn _ => hchg.block b hb (fun e => hn (.inr (keysL_mem.2 ⟨_, List.mem_of_getElem? hL, e⟩))), fun b hb h => ?_⟩
    rcases h with h | h
    · exact .inl h
    · obtain ⟨e, h2, h3⟩ := keysL_mem.1 h
      rcases List.mem_cons.1 h2 with rfl | h2
      · exact .inr (keysL_mem.2 ⟨_, List.mem_of_getElem? hL, h3⟩)
      · exact .inr (keysL_mem.2 ⟨e, List.mem_of_mem_eraseIdx h2, h3⟩)
  refine sUnit S hw hd (w' := w.setRow g (over cur.toList (j.toNat * r.sz + kf) [u]).toArray) ?_ (S.mem.put hL (eHole r T (.slice (some ⟨g, 0, none⟩) xs.length c) xs (j.toNat * r.sz + kf) u) hchg (fun b hb => .inl hb) (by simp [eHole, vkeys]) ?_) (fun a => k a _)
  · simp only [execOp, ho, he, hex, Instr.storeAt, Instr.sureAddr, Sem.run_bind, Sem.run_pure, Result.andThen_ok, hst]
  · refine ⟨vs, ha.mono hext, hlen, by omega, ?_⟩
    refine ⟨by rw [over_length (by rw [hfl]; simp; omega), hfl], .inr ⟨g, c, (over cur.toList (j.toNat * r.sz + kf) [u]).toArray, rfl, Nat.zero_le _, setRow_heap w g cur _ T _ hg, hnc, hcm, ?_, ?_⟩⟩
    · simp only [List.size_toArray]; rw [over_length (by simp [hcs]; omega)]; simpa using hcs
    · rw [over_take (by simp; omega) (by simp [hcs]; omega), htake]
theorem hole_slice {α : Type} {r : R α} {T : TypeId} {v : Value} {xs : List α} {p : Nat} {u : Value} {E : Nat → Prop} {w : World} (h : (eHole r T v xs p u).p E w) : ∃ g c, v = .slice (some ⟨g, 0, none⟩) xs.length c ∧ w.cell? ⟨g, p, none⟩ = some u := by
  obtain ⟨vs, ha, _, hp, hown⟩ := h
  have hfl := flat_length (fun v hv => (ha.cells v hv).1)
  rw [ha.1] at hfl
  rcases hown.2 with ⟨_, h0⟩ | ⟨g, cap, cur, rfl, _⟩
  · rw [h0] at hp; omega
  · refine ⟨g, cap, rfl, ?_⟩
    rw [hown.cellAt _ hp, over_get (by rw [hfl]; simp; omega), if_pos (by simp), Nat.sub_self]
    rfl
theorem pIdxH {α : Type} {r : R α} {T : TypeId} {xs : List α} {x : α} {v : Value} {p : Nat} {u : Value} {j : Int} (t e i : Nat) (S : St dq E M w0 n a w F L D) (ht : P.underlying t = some (.slice e)) (hs : cellsB P e = some r.sz) (hL : L[i]? = some (eHole r T v xs p u)) (hx : idxO xs j = some x) :
    ∃ q, IdxV P t v j q ∧ OwnP r.sz v q j.toNat := by
  obtain ⟨h0, h1, h2⟩ := idxO_some hx
  obtain ⟨g, c, rfl, _⟩ := hole_slice (S.mem.at hL)
  refine ⟨_, fun k w => ?_, ⟨g, _, c, rfl, rfl⟩⟩
  have := run_indexAt (P := P) ht hs (b := g) (off := 0) (c := c) (k := k) h0 h1 w
  simpa using this
theorem sLoadH {α : Type} {r : R α} {T : TypeId} {xs : List α} {u : Value} {t : TypeId} {q : Operand} {v vq : Value} {j : Int} (i kf : Nat) (S : St dq E M w0 n a w F L D) (hp : OwnF r.sz v vq j.toNat kf)
    (hw : ∀ a, Frm dq n a F → Region.wanted o (yielded ops a.tmps) = true) (ho : o.op = .load t q) (hq : lookO F q = some vq) (hL : L[i]? = some (eHole r T v xs (j.toNat * r.sz + kf) u)) (ht : aggB P t = some false) (hd : o.dst = some d) (hn : d < n)
    (k : ∀ a, St dq E M w0 n a w ((d, u) :: F) L D → wpList P ops Q rest a w) : wpList P ops Q (o :: rest) a w := by
  obtain ⟨g, c, rfl, hcell⟩ := hole_slice (S.mem.at hL)
  obtain ⟨g', m', c', e1, rfl⟩ := hp
  cases e1
  have he := S.frm.eval hq
  exact sVal S hw hd hn (by simp [execOp, ho, he, Instr.loadAt, Instr.sureAddr, loadVar, run_isAgg ht, hcell]) S.mem k
/-- the hole is closed: what the cell holds reads as z -/
theorem St0.closeH {α β : Type} {r : R α} {s : R β} {T : TypeId} {xs ys : List α} {x y : α} {z : β} {v u : Value} {j : Int} (i kf : Nat) (S : St0 E M w0 w L D) (hL : L[i]? = some (eHole r T v xs (j.toNat * r.sz + kf) u)) (hu0 : (fRep s u z).p (tot E L) w) (hc : u.cells.toList = [u]) (hk : kf < r.sz) (hix : idxO xs j = some x) (hup : Upd r s kf x z y) (hs : setO xs j y = some ys) :
    St0 E M w0 w (eRow r T v ys :: L.eraseIdx i) D := by
  obtain ⟨h0, h1, rfl⟩ := setO_some hs
  obtain ⟨_, _, hxj⟩ := idxO_some hix
  obtain ⟨vs, ha, hlen, hp, hown⟩ := S.at hL
  have hj : j.toNat < vs.length := by rw [ha.1]; exact h1
  have hvj : vs[j.toNat]? = some vs[j.toNat] := List.getElem?_eq_getElem hj
  have hrep := ha.2 _ _ _ hvj hxj
  have hsv := r.size hrep
  obtain ⟨v', hu, hcl, hle0⟩ := hup _ _ _ _ hrep hu0
  have hsz := r.size hu
  have hfl := flat_length (fun v hv => (ha.cells v hv).1)
  rw [ha.1] at hfl
  have hle : (j.toNat + 1) * r.sz ≤ xs.length * r.sz := Nat.mul_le_mul_right _ h1
  rw [Nat.add_mul, Nat.one_mul] at hle
  have heq : over (flat vs) (j.toNat * r.sz + kf) [u] = over (flat vs) (j.toNat * r.sz) v'.cells.toList := by
    rw [hcl, hc]
    refine (over_over (fun b hb => ?_) (by simp [hsv]; omega) (by simp [hsv, hfl]; omega)).symm
    have hb2 : b < r.sz := by simpa [hsv] using hb
    exact flat_get (fun v hv => (ha.cells v hv).1) hvj hb2
  have hext : Ext (tot E L) (tot E (eRow r T v (xs.set j.toNat y) :: L.eraseIdx i)) w w := by
    refine ⟨Nat.le_refl _, fun _ _ _ _ => rfl, fun b hb h => ?_⟩
    rcases h with h | h
    · exact .inl h
    · obtain ⟨e, h2, h3⟩ := keysL_mem.1 h
      rcases List.mem_cons.1 h2 with rfl | h2
      · exact .inr (keysL_mem.2 ⟨_, List.mem_of_getElem? hL, h3⟩)
      · exact .inr (keysL_mem.2 ⟨e, List.mem_of_mem_eraseIdx h2, h3⟩)
  refine S.put hL (eRow r T v (xs.set j.toNat y)) (Chg.refl _ _) (fun b hb => .inl hb) ?_ ?_
  · cases v <;> simp [eRow, vkeys]
    rename_i a _ _
    cases a <;> simp
  · refine ⟨vs.set j.toNat v', (ha.mono hext).set _ (r.mono hext hu), by simpa using hlen, ?_⟩
    rw [flat_set (fun v hv => (ha.cells v hv).1) hj hsz, ← heq, List.length_set]
    exact hown
theorem St.closeH {α β : Type} {r : R α} {s : R β} {T : TypeId} {xs ys : List α} {x y : α} {z : β} {v u : Value} {j : Int} (i kf : Nat) (S : St dq E M w0 n a w F L D) (hL : L[i]? = some (eHole r T v xs (j.toNat * r.sz + kf) u)) (hu0 : (fRep s u z).p (tot E L) w) (hc : u.cells.toList = [u]) (hk : kf < r.sz) (hix : idxO xs j = some x) (hup : Upd r s kf x z y) (hs : setO xs j y = some ys) :
    St dq E M w0 n a w F (eRow r T v ys :: L.eraseIdx i) D := ⟨S.frm, S.mem.closeH i kf hL hu0 hc hk hix hup hs⟩
end

end Go.Proofs.Ytdbgkakmhlmpbaa
namespace Go.Proofs.Ytdbgkakmhlmpbaa
open Go.RowKit
set_option linter.unusedVariables false

structure api_Bill where
  Length : Int
  Time : Int
def r_api_Bill : R api_Bill where
  sz := 2
  rep := fun E w v x => v = .agg #[.int .i64 x.Length, .int .i64 x.Time]
  pos := by decide
  size := by rintro _ _ _ _ rfl; rfl
  one := by
    rintro _ _ _ _ rfl u hu
    simp [Value.cells] at hu
    rcases hu with rfl | rfl
    · rfl
    · rfl
  mono := fun _ h => h
structure api_Ratio where
  Num : Int
  Den : Int
def r_api_Ratio : R api_Ratio where
  sz := 2
  rep := fun E w v x => v = .agg #[.int .i64 x.Num, .int .i64 x.Den]
  pos := by decide
  size := by rintro _ _ _ _ rfl; rfl
  one := by
    rintro _ _ _ _ rfl u hu
    simp [Value.cells] at hu
    rcases hu with rfl | rfl
    · rfl
    · rfl
  mono := fun _ h => h
structure api_Count where
  System : Int
  N : api_Ratio
def r_api_Count : R api_Count where
  sz := 3
  rep := fun E w v x => v = .agg #[.int .u8 x.System, .int .i64 x.N.Num, .int .i64 x.N.Den]
  pos := by decide
  size := by rintro _ _ _ _ rfl; rfl
  one := by
    rintro _ _ _ _ rfl u hu
    simp [Value.cells] at hu
    rcases hu with rfl | rfl | rfl
    · rfl
    · rfl
    · rfl
  mono := fun _ h => h
structure api_Stitch where
  Kind : Int
  Purl : Bool
  A : Int
  B : Int
def r_api_Stitch : R api_Stitch where
  sz := 4
  rep := fun E w v x => v = .agg #[.int .u8 x.Kind, .bool x.Purl, .int .i64 x.A, .int .i64 x.B]
  pos := by decide
  size := by rintro _ _ _ _ rfl; rfl
  one := by
    rintro _ _ _ _ rfl u hu
    simp [Value.cells] at hu
    rcases hu with rfl | rfl | rfl | rfl
    · rfl
    · rfl
    · rfl
    · rfl
  mono := fun _ h => h
theorem comp_api_Stitch_Kind : Comp r_api_Stitch (rI .u8) 0 (·.Kind) := by
  rintro _ _ _ x rfl
  refine ⟨.int .u8 x.Kind, rfl, fun j c hj => ?_⟩
  match j, hj with
  | 0, hj => exact hj
  | j + 1, hj => exact absurd (List.getElem?_eq_some_iff.1 hj).1 (by simp [Value.cells])
structure api_Row where
  Back : Bool
  Cells : (List api_Stitch)
def r_api_Row : R api_Row where
  sz := 2
  rep := fun E w v x => ∃ v0, v = .agg #[.bool x.Back, v0] ∧ (rL r_api_Stitch).rep E w v0 x.Cells
  pos := by decide
  size := by rintro _ _ _ _ ⟨v0, rfl, h0⟩; rfl
  one := by
    rintro _ _ _ _ ⟨v0, rfl, h0⟩ u hu
    simp [Value.cells] at hu
    rcases hu with rfl | rfl
    · rfl
    · exact (rL r_api_Stitch).one h0 _ (by rw [scal_L _ _ _ _ _ h0]; simp)
  mono := by
    rintro _ _ _ _ _ _ h ⟨v0, e, h0⟩
    exact ⟨v0, e, (rL r_api_Stitch).mono h h0⟩
theorem comp_api_Row_Back : Comp r_api_Row rB 0 (·.Back) := by
  rintro _ _ _ x ⟨v0, rfl, h0⟩
  refine ⟨.bool x.Back, rfl, fun j c hj => ?_⟩
  match j, hj with
  | 0, hj => exact hj
  | j + 1, hj => exact absurd (List.getElem?_eq_some_iff.1 hj).1 (by simp [Value.cells])
theorem comp_api_Row_Cells : Comp r_api_Row (rL r_api_Stitch) 1 (·.Cells) := by
  rintro _ _ _ x ⟨v0, rfl, h0⟩
  refine ⟨v0, h0, fun j c hj => ?_⟩
  rw [scal_L _ _ _ _ _ h0] at hj
  match j, hj with
  | 0, hj => exact hj
  | j + 1, hj => exact absurd (List.getElem?_eq_some_iff.1 hj).1 (by simp)
structure api_Chart where
  Start : Int
  Rows : (List api_Row)
def r_api_Chart : R api_Chart where
  sz := 2
  rep := fun E w v x => ∃ v0, v = .agg #[.int .i64 x.Start, v0] ∧ (rL r_api_Row).rep E w v0 x.Rows
  pos := by decide
  size := by rintro _ _ _ _ ⟨v0, rfl, h0⟩; rfl
  one := by
    rintro _ _ _ _ ⟨v0, rfl, h0⟩ u hu
    simp [Value.cells] at hu
    rcases hu with rfl | rfl
    · rfl
    · exact (rL r_api_Row).one h0 _ (by rw [scal_L _ _ _ _ _ h0]; simp)
  mono := by
    rintro _ _ _ _ _ _ h ⟨v0, e, h0⟩
    exact ⟨v0, e, (rL r_api_Row).mono h h0⟩
theorem aggr_api_Chart : Aggr r_api_Chart := by rintro _ _ _ _ ⟨v0, rfl, h0⟩; exact ⟨_, rfl⟩
theorem comp_api_Chart_Start : Comp r_api_Chart (rI .i64) 0 (·.Start) := by
  rintro _ _ _ x ⟨v0, rfl, h0⟩
  refine ⟨.int .i64 x.Start, rfl, fun j c hj => ?_⟩
  match j, hj with
  | 0, hj => exact hj
  | j + 1, hj => exact absurd (List.getElem?_eq_some_iff.1 hj).1 (by simp [Value.cells])
theorem comp_api_Chart_Rows : Comp r_api_Chart (rL r_api_Row) 1 (·.Rows) := by
  rintro _ _ _ x ⟨v0, rfl, h0⟩
  refine ⟨v0, h0, fun j c hj => ?_⟩
  rw [scal_L _ _ _ _ _ h0] at hj
  match j, hj with
  | 0, hj => exact hj
  | j + 1, hj => exact absurd (List.getElem?_eq_some_iff.1 hj).1 (by simp)
def r_A11_Int : R (Int × Int × Int × Int × Int × Int × Int × Int × Int × Int × Int) where
  sz := 11
  rep := fun E w v x => v = .agg #[.int .i64 x.1, .int .i64 x.2.1, .int .i64 x.2.2.1, .int .i64 x.2.2.2.1, .int .i64 x.2.2.2.2.1, .int .i64 x.2.2.2.2.2.1, .int .i64 x.2.2.2.2.2.2.1, .int .i64 x.2.2.2.2.2.2.2.1, .int .i64 x.2.2.2.2.2.2.2.2.1, .int .i64 x.2.2.2.2.2.2.2.2.2.1, .int .i64 x.2.2.2.2.2.2.2.2.2.2]
  pos := by decide
  size := by rintro _ _ _ _ rfl; rfl
  one := by
    rintro _ _ _ _ rfl u hu
    simp [Value.cells] at hu
    rcases hu with rfl | rfl | rfl | rfl | rfl | rfl | rfl | rfl | rfl | rfl | rfl
    · rfl
    · rfl
    · rfl
    · rfl
    · rfl
    · rfl
    · rfl
    · rfl
    · rfl
    · rfl
    · rfl
  mono := fun _ h => h
structure api_Rates where
  Length : (Int × Int × Int × Int × Int × Int × Int × Int × Int × Int × Int)
  Time : (Int × Int × Int × Int × Int × Int × Int × Int × Int × Int × Int)
  Turn : Int
def r_api_Rates : R api_Rates where
  sz := 23
  rep := fun E w v x => v = .agg #[.int .i64 x.Length.1, .int .i64 x.Length.2.1, .int .i64 x.Length.2.2.1, .int .i64 x.Length.2.2.2.1, .int .i64 x.Length.2.2.2.2.1, .int .i64 x.Length.2.2.2.2.2.1, .int .i64 x.Length.2.2.2.2.2.2.1, .int .i64 x.Length.2.2.2.2.2.2.2.1, .int .i64 x.Length.2.2.2.2.2.2.2.2.1, .int .i64 x.Length.2.2.2.2.2.2.2.2.2.1, .int .i64 x.Length.2.2.2.2.2.2.2.2.2.2, .int .i64 x.Time.1, .int .i64 x.Time.2.1, .int .i64 x.Time.2.2.1, .int .i64 x.Time.2.2.2.1, .int .i64 x.Time.2.2.2.2.1, .int .i64 x.Time.2.2.2.2.2.1, .int .i64 x.Time.2.2.2.2.2.2.1, .int .i64 x.Time.2.2.2.2.2.2.2.1, .int .i64 x.Time.2.2.2.2.2.2.2.2.1, .int .i64 x.Time.2.2.2.2.2.2.2.2.2.1, .int .i64 x.Time.2.2.2.2.2.2.2.2.2.2, .int .i64 x.Turn]
  pos := by decide
  size := by rintro _ _ _ _ rfl; rfl
  one := by
    rintro _ _ _ _ rfl u hu
    simp [Value.cells] at hu
    rcases hu with rfl | rfl | rfl | rfl | rfl | rfl | rfl | rfl | rfl | rfl | rfl | rfl | rfl | rfl | rfl | rfl | rfl | rfl | rfl | rfl | rfl | rfl | rfl
    · rfl
    · rfl
    · rfl
    · rfl
    · rfl
    · rfl
    · rfl
    · rfl
    · rfl
    · rfl
    · rfl
    · rfl
    · rfl
    · rfl
    · rfl
    · rfl
    · rfl
    · rfl
    · rfl
    · rfl
    · rfl
    · rfl
    · rfl
  mono := fun _ h => h
theorem aggr_api_Rates : Aggr r_api_Rates := by rintro _ _ _ _ rfl; exact ⟨_, rfl⟩
structure chart_count where
  before : Int
  after : Int
  e : Int
def r_chart_count : R chart_count where
  sz := 3
  rep := fun E w v x => v = .agg #[.int .i64 x.before, .int .i64 x.after, .int .i64 x.e]
  pos := by decide
  size := by rintro _ _ _ _ rfl; rfl
  one := by
    rintro _ _ _ _ rfl u hu
    simp [Value.cells] at hu
    rcases hu with rfl | rfl | rfl
    · rfl
    · rfl
    · rfl
  mono := fun _ h => h
theorem comp_chart_count_after : Comp r_chart_count (rI .i64) 1 (·.after) := by
  rintro _ _ _ x rfl
  refine ⟨.int .i64 x.after, rfl, fun j c hj => ?_⟩
  match j, hj with
  | 0, hj => exact hj
  | j + 1, hj => exact absurd (List.getElem?_eq_some_iff.1 hj).1 (by simp [Value.cells])
theorem comp_chart_count_e : Comp r_chart_count (rI .i64) 2 (·.e) := by
  rintro _ _ _ x rfl
  refine ⟨.int .i64 x.e, rfl, fun j c hj => ?_⟩
  match j, hj with
  | 0, hj => exact hj
  | j + 1, hj => exact absurd (List.getElem?_eq_some_iff.1 hj).1 (by simp [Value.cells])
def r_A2_Int : R (Int × Int) where
  sz := 2
  rep := fun E w v x => v = .agg #[.int .i64 x.1, .int .i64 x.2]
  pos := by decide
  size := by rintro _ _ _ _ rfl; rfl
  one := by
    rintro _ _ _ _ rfl u hu
    simp [Value.cells] at hu
    rcases hu with rfl | rfl
    · rfl
    · rfl
  mono := fun _ h => h
structure stitch_form where
  letter : ByteArray
  a : (Int × Int)
  b : (Int × Int)
  sided : Bool
  uses : Int
  made : Int
def r_stitch_form : R stitch_form where
  sz := 8
  rep := fun E w v x => v = .agg #[.string x.letter, .int .i64 x.a.1, .int .i64 x.a.2, .int .i64 x.b.1, .int .i64 x.b.2, .bool x.sided, .int .i64 x.uses, .int .i64 x.made]
  pos := by decide
  size := by rintro _ _ _ _ rfl; rfl
  one := by
    rintro _ _ _ _ rfl u hu
    simp [Value.cells] at hu
    rcases hu with rfl | rfl | rfl | rfl | rfl | rfl | rfl | rfl
    · rfl
    · rfl
    · rfl
    · rfl
    · rfl
    · rfl
    · rfl
    · rfl
  mono := fun _ h => h
structure yarn_calc where
  a : api_Ratio
  b : api_Ratio
  out : api_Ratio
  e : Int
def gl_api_Rates (x : api_Rates) : List Value := [.int .i64 x.Length.1, .int .i64 x.Length.2.1, .int .i64 x.Length.2.2.1, .int .i64 x.Length.2.2.2.1, .int .i64 x.Length.2.2.2.2.1, .int .i64 x.Length.2.2.2.2.2.1, .int .i64 x.Length.2.2.2.2.2.2.1, .int .i64 x.Length.2.2.2.2.2.2.2.1, .int .i64 x.Length.2.2.2.2.2.2.2.2.1, .int .i64 x.Length.2.2.2.2.2.2.2.2.2.1, .int .i64 x.Length.2.2.2.2.2.2.2.2.2.2, .int .i64 x.Time.1, .int .i64 x.Time.2.1, .int .i64 x.Time.2.2.1, .int .i64 x.Time.2.2.2.1, .int .i64 x.Time.2.2.2.2.1, .int .i64 x.Time.2.2.2.2.2.1, .int .i64 x.Time.2.2.2.2.2.2.1, .int .i64 x.Time.2.2.2.2.2.2.2.1, .int .i64 x.Time.2.2.2.2.2.2.2.2.1, .int .i64 x.Time.2.2.2.2.2.2.2.2.2.1, .int .i64 x.Time.2.2.2.2.2.2.2.2.2.2, .int .i64 x.Turn]
def gv_api_Rates (x : api_Rates) : Value := .agg (gl_api_Rates x).toArray
def gl_A11_Int (x : (Int × Int × Int × Int × Int × Int × Int × Int × Int × Int × Int)) : List Value := [.int .i64 x.1, .int .i64 x.2.1, .int .i64 x.2.2.1, .int .i64 x.2.2.2.1, .int .i64 x.2.2.2.2.1, .int .i64 x.2.2.2.2.2.1, .int .i64 x.2.2.2.2.2.2.1, .int .i64 x.2.2.2.2.2.2.2.1, .int .i64 x.2.2.2.2.2.2.2.2.1, .int .i64 x.2.2.2.2.2.2.2.2.2.1, .int .i64 x.2.2.2.2.2.2.2.2.2.2]
def gv_A11_Int (x : (Int × Int × Int × Int × Int × Int × Int × Int × Int × Int × Int)) : Value := .agg (gl_A11_Int x).toArray
def gl_stitch_form (x : stitch_form) : List Value := [.string x.letter, .int .i64 x.a.1, .int .i64 x.a.2, .int .i64 x.b.1, .int .i64 x.b.2, .bool x.sided, .int .i64 x.uses, .int .i64 x.made]
def gv_stitch_form (x : stitch_form) : Value := .agg (gl_stitch_form x).toArray
theorem upd_api_Row_Back (x : api_Row) (z : Bool) : Upd r_api_Row rB 0 x z (api_Row.mk z x.Cells) := by
  rintro E w _ u ⟨v0, rfl, h0⟩ hz
  obtain rfl : u = .bool z := hz
  exact ⟨.agg #[.bool z, v0], ⟨v0, rfl, h0⟩, rfl, by decide⟩
theorem upd_api_Row_Cells (x : api_Row) (z : (List api_Stitch)) : Upd r_api_Row (rL r_api_Stitch) 1 x z (api_Row.mk x.Back z) := by
  rintro E w _ u ⟨v0, rfl, h0⟩ hz
  refine ⟨.agg #[.bool x.Back, u], ⟨u, rfl, hz⟩, ?_, by decide⟩
  rw [scal_L _ _ _ _ _ hz]
  rfl
theorem callee10 : ∀ vs w, (callFunc 10 vs).run Try.prog w = .ok (.enter 10 vs) w := callee Try.func10 rfl rfl
theorem callee12 : ∀ vs w, (callFunc 12 vs).run Try.prog w = .ok (.enter 12 vs) w := callee Try.func12 rfl rfl
theorem callee14 : ∀ vs w, (callFunc 14 vs).run Try.prog w = .ok (.enter 14 vs) w := callee Try.func14 rfl rfl
theorem callee16 : ∀ vs w, (callFunc 16 vs).run Try.prog w = .ok (.enter 16 vs) w := callee Try.func16 rfl rfl
theorem callee18 : ∀ vs w, (callFunc 18 vs).run Try.prog w = .ok (.enter 18 vs) w := callee Try.func18 rfl rfl
theorem callee22 : ∀ vs w, (callFunc 22 vs).run Try.prog w = .ok (.enter 22 vs) w := callee Try.func22 rfl rfl
theorem callee23 : ∀ vs w, (callFunc 23 vs).run Try.prog w = .ok (.enter 23 vs) w := callee Try.func23 rfl rfl
theorem callee24 : ∀ vs w, (callFunc 24 vs).run Try.prog w = .ok (.enter 24 vs) w := callee Try.func24 rfl rfl
theorem callee27 : ∀ vs w, (callFunc 27 vs).run Try.prog w = .ok (.enter 27 vs) w := callee Try.func27 rfl rfl
theorem callee28 : ∀ vs w, (callFunc 28 vs).run Try.prog w = .ok (.enter 28 vs) w := callee Try.func28 rfl rfl
theorem callee29 : ∀ vs w, (callFunc 29 vs).run Try.prog w = .ok (.enter 29 vs) w := callee Try.func29 rfl rfl
theorem callee30 : ∀ vs w, (callFunc 30 vs).run Try.prog w = .ok (.enter 30 vs) w := callee Try.func30 rfl rfl
theorem callee31 : ∀ vs w, (callFunc 31 vs).run Try.prog w = .ok (.enter 31 vs) w := callee Try.func31 rfl rfl
theorem callee32 : ∀ vs w, (callFunc 32 vs).run Try.prog w = .ok (.enter 32 vs) w := callee Try.func32 rfl rfl
theorem callee33 : ∀ vs w, (callFunc 33 vs).run Try.prog w = .ok (.enter 33 vs) w := callee Try.func33 rfl rfl
theorem callee37 : ∀ vs w, (callFunc 37 vs).run Try.prog w = .ok (.enter 37 vs) w := callee Try.func37 rfl rfl
theorem callee39 : ∀ vs w, (callFunc 39 vs).run Try.prog w = .ok (.enter 39 vs) w := callee Try.func39 rfl rfl
theorem callee41 : ∀ vs w, (callFunc 41 vs).run Try.prog w = .ok (.enter 41 vs) w := callee Try.func41 rfl rfl
theorem callee42 : ∀ vs w, (callFunc 42 vs).run Try.prog w = .ok (.enter 42 vs) w := callee Try.func42 rfl rfl
theorem callee43 : ∀ vs w, (callFunc 43 vs).run Try.prog w = .ok (.enter 43 vs) w := callee Try.func43 rfl rfl
theorem callee44 : ∀ vs w, (callFunc 44 vs).run Try.prog w = .ok (.enter 44 vs) w := callee Try.func44 rfl rfl
theorem callee46 : ∀ vs w, (callFunc 46 vs).run Try.prog w = .ok (.enter 46 vs) w := callee Try.func46 rfl rfl
theorem callee47 : ∀ vs w, (callFunc 47 vs).run Try.prog w = .ok (.enter 47 vs) w := callee Try.func47 rfl rfl
theorem callee48 : ∀ vs w, (callFunc 48 vs).run Try.prog w = .ok (.enter 48 vs) w := callee Try.func48 rfl rfl
theorem callee49 : ∀ vs w, (callFunc 49 vs).run Try.prog w = .ok (.enter 49 vs) w := callee Try.func49 rfl rfl
theorem callee50 : ∀ vs w, (callFunc 50 vs).run Try.prog w = .ok (.enter 50 vs) w := callee Try.func50 rfl rfl
theorem callee51 : ∀ vs w, (callFunc 51 vs).run Try.prog w = .ok (.enter 51 vs) w := callee Try.func51 rfl rfl
theorem callee52 : ∀ vs w, (callFunc 52 vs).run Try.prog w = .ok (.enter 52 vs) w := callee Try.func52 rfl rfl
theorem callee53 : ∀ vs w, (callFunc 53 vs).run Try.prog w = .ok (.enter 53 vs) w := callee Try.func53 rfl rfl
theorem callee54 : ∀ vs w, (callFunc 54 vs).run Try.prog w = .ok (.enter 54 vs) w := callee Try.func54 rfl rfl
theorem callee58 : ∀ vs w, (callFunc 58 vs).run Try.prog w = .ok (.enter 58 vs) w := callee Try.func58 rfl rfl
theorem callee59 : ∀ vs w, (callFunc 59 vs).run Try.prog w = .ok (.enter 59 vs) w := callee Try.func59 rfl rfl
theorem callee60 : ∀ vs w, (callFunc 60 vs).run Try.prog w = .ok (.enter 60 vs) w := callee Try.func60 rfl rfl
theorem callee63 : ∀ vs w, (callFunc 63 vs).run Try.prog w = .ok (.enter 63 vs) w := callee Try.func63 rfl rfl
theorem callee64 : ∀ vs w, (callFunc 64 vs).run Try.prog w = .ok (.enter 64 vs) w := callee Try.func64 rfl rfl
theorem callee65 : ∀ vs w, (callFunc 65 vs).run Try.prog w = .ok (.enter 65 vs) w := callee Try.func65 rfl rfl
theorem callee66 : ∀ vs w, (callFunc 66 vs).run Try.prog w = .ok (.enter 66 vs) w := callee Try.func66 rfl rfl
theorem callee67 : ∀ vs w, (callFunc 67 vs).run Try.prog w = .ok (.enter 67 vs) w := callee Try.func67 rfl rfl
theorem callee68 : ∀ vs w, (callFunc 68 vs).run Try.prog w = .ok (.enter 68 vs) w := callee Try.func68 rfl rfl
theorem callee69 : ∀ vs w, (callFunc 69 vs).run Try.prog w = .ok (.enter 69 vs) w := callee Try.func69 rfl rfl
theorem callee70 : ∀ vs w, (callFunc 70 vs).run Try.prog w = .ok (.enter 70 vs) w := callee Try.func70 rfl rfl
theorem callee71 : ∀ vs w, (callFunc 71 vs).run Try.prog w = .ok (.enter 71 vs) w := callee Try.func71 rfl rfl
theorem callee72 : ∀ vs w, (callFunc 72 vs).run Try.prog w = .ok (.enter 72 vs) w := callee Try.func72 rfl rfl
theorem callee73 : ∀ vs w, (callFunc 73 vs).run Try.prog w = .ok (.enter 73 vs) w := callee Try.func73 rfl rfl
theorem callee74 : ∀ vs w, (callFunc 74 vs).run Try.prog w = .ok (.enter 74 vs) w := callee Try.func74 rfl rfl
theorem callee75 : ∀ vs w, (callFunc 75 vs).run Try.prog w = .ok (.enter 75 vs) w := callee Try.func75 rfl rfl
theorem callee79 : ∀ vs w, (callFunc 79 vs).run Try.prog w = .ok (.enter 79 vs) w := callee Try.func79 rfl rfl
theorem callee80 : ∀ vs w, (callFunc 80 vs).run Try.prog w = .ok (.enter 80 vs) w := callee Try.func80 rfl rfl
theorem callee81 : ∀ vs w, (callFunc 81 vs).run Try.prog w = .ok (.enter 81 vs) w := callee Try.func81 rfl rfl
theorem callee82 : ∀ vs w, (callFunc 82 vs).run Try.prog w = .ok (.enter 82 vs) w := callee Try.func82 rfl rfl
theorem callee85 : ∀ vs w, (callFunc 85 vs).run Try.prog w = .ok (.enter 85 vs) w := callee Try.func85 rfl rfl
theorem callee86 : ∀ vs w, (callFunc 86 vs).run Try.prog w = .ok (.enter 86 vs) w := callee Try.func86 rfl rfl
theorem callee87 : ∀ vs w, (callFunc 87 vs).run Try.prog w = .ok (.enter 87 vs) w := callee Try.func87 rfl rfl
theorem callee88 : ∀ vs w, (callFunc 88 vs).run Try.prog w = .ok (.enter 88 vs) w := callee Try.func88 rfl rfl
theorem callee89 : ∀ vs w, (callFunc 89 vs).run Try.prog w = .ok (.enter 89 vs) w := callee Try.func89 rfl rfl
theorem callee90 : ∀ vs w, (callFunc 90 vs).run Try.prog w = .ok (.enter 90 vs) w := callee Try.func90 rfl rfl
theorem callee91 : ∀ vs w, (callFunc 91 vs).run Try.prog w = .ok (.enter 91 vs) w := callee Try.func91 rfl rfl
theorem callee92 : ∀ vs w, (callFunc 92 vs).run Try.prog w = .ok (.enter 92 vs) w := callee Try.func92 rfl rfl
end Go.Proofs.Ytdbgkakmhlmpbaa
namespace Go.Proofs.Ytdbgkakmhlmpbaa
open Go.RowKit
set_option linter.unusedVariables false

open Go.ChangeShapes Go.WideShapes Go.ChangeAt Go.Joins
def InK (k : IntKind) (x : Int) : Prop := (Lit.int k x).wf = true
theorem inK_u8 {x : Int} (h : InK .u8 x) : 0 ≤ x ∧ x ≤ 255 := by
  simpa [InK, Lit.wf, IntKind.min, IntKind.max, IntKind.signed, IntKind.bits] using h
def Wl {α : Type} (p : α → Prop) (xs : List α) : Prop := xs.length ≤ 9223372036854775807 ∧ ∀ x, x ∈ xs → p x
/-- cells of a type read, well formed -/
def OpC {α : Type} (P : Program) (t : TypeId) (r : R α) (p : α → Prop) : Prop :=
  ∀ (H : Type) (enc : TypeId × Value → H) (w : World) (base : Nat) (spare : Nat → Bool) (held : Bool) (fuel : Nat) (cs : List Value) (x : DataW H × List MemPlace),
    DataW.trod enc P w base spare held fuel t cs = some x → ∃ v y, v.cells.toList = cs ∧ r.rep (fun _ => False) w v y ∧ p y
section
variable {P : Program}
theorem op_int {t : TypeId} (k : IntKind) (ht : P.underlying t = some (.int k)) : OpC P t (rI k) (InK k) := fun H enc w base spare held fuel cs x h => by
  obtain ⟨n, rfl, _, hw⟩ := DataW.trod_int ht h
  exact ⟨_, n, rfl, rfl, hw⟩
theorem op_bool {t : TypeId} (ht : P.underlying t = some .bool) : OpC P t rB (fun _ => True) := fun H enc w base spare held fuel cs x h => by
  obtain ⟨n, rfl, _⟩ := DataW.trod_bool ht h
  exact ⟨_, n, rfl, rfl, trivial⟩
theorem choose_list {α : Type} {n : Nat} {p : Nat → α → Prop} (h : ∀ i, i < n → ∃ x, p i x) : ∃ l : List α, l.length = n ∧ ∀ i x, l[i]? = some x → p i x := by
  induction n with
  | zero => exact ⟨[], rfl, fun i x hi => by simp at hi⟩
  | succ n ih =>
    obtain ⟨l, hl, hp⟩ := ih fun i hi => h i (by omega)
    obtain ⟨x, hx⟩ := h n (by omega)
    refine ⟨l ++ [x], by simp [hl], fun i y hi => ?_⟩
    by_cases e : i < l.length
    · rw [List.getElem?_append_left e] at hi; exact hp i y hi
    · rw [List.getElem?_append_right (by omega)] at hi
      have : i - l.length = 0 := by
        have := (List.getElem?_eq_some_iff.1 hi).1
        simp at this; omega
      rw [this] at hi
      simp at hi; subst hi
      have : i = n := by omega
      subst this; exact hx
theorem op_slice {α : Type} {t e : TypeId} {r : R α} {p : α → Prop} (ht : P.underlying t = some (.slice e)) (hc : P.cellsOf e = r.sz) (he : OpC P e r p) : OpC P t (rL r) (Wl p) := fun H enc w base spare held fuel cs x h => by
  rcases Go.Deep.open_slice ht h with ⟨rfl, _⟩ | ⟨a, len, cap, m, n, D, Pl, rfl, _, hl, hm, hmm, _, hx⟩
  · exact ⟨_, [], rfl, rL_nil _ _ _, by simp, fun x hx => by simp at hx⟩
  · have hlm : len ≤ m := by rw [hmm]; split <;> omega
    obtain ⟨b, off, spot⟩ := a
    have hcell : ∀ i, i < len → ∃ vy : Value × α, (∀ j, j < r.sz → w.cell? ((⟨b, off, spot⟩ : Addr).add (i * r.sz + j)) = vy.1.cells.toList[j]?) ∧ r.rep (fun _ => False) w vy.1 vy.2 ∧ p vy.2 := fun i hi => by
      obtain ⟨cs, h1, h2⟩ := hx i (by omega)
      obtain ⟨_, h3, h4⟩ := World.cells?_some h1
      obtain ⟨v, y, h5, h6, h7⟩ := he _ _ _ _ _ _ _ _ _ h2
      refine ⟨(v, y), fun j hj => ?_, h6, h7⟩
      have := h4 j (by rw [hc]; exact hj)
      rw [Addr.add_add, hc] at this
      rw [this, h5]
    obtain ⟨l, hll, hlp⟩ := choose_list hcell
    subst hll
    have hA : All r (fun _ => False) w (l.map (·.1)) (l.map (·.2)) := ⟨by simp, fun k v x hv hx => by
      rw [List.getElem?_map] at hv hx
      cases hk : l[k]? with
      | none => rw [hk] at hv; cases hv
      | some q => rw [hk] at hv hx; simp at hv hx; subst hv hx; exact (hlp k q hk).2.1⟩
    refine ⟨.slice (some ⟨b, off, spot⟩) l.length cap, l.map (·.2), rfl, ?_, by simp [maxLen] at hm ⊢; omega, fun x hx => ?_⟩
    · refine ⟨some ⟨b, off, spot⟩, cap, l.map (·.1), by simp, by simpa using hl, by simp [maxLen] at hm ⊢; omega, hA, fun k u hu => ?_⟩
      have hsz := fun v hv => (hA.cells v hv).1
      have hk := (List.getElem?_eq_some_iff.1 hu).1
      rw [flat_length hsz] at hk
      simp only [List.length_map] at hk
      have hi : k / r.sz < l.length := Nat.div_lt_of_lt_mul (by rw [Nat.mul_comm]; exact hk)
      have hj := Nat.mod_lt k r.pos
      have hq : l[k / r.sz]? = some l[k / r.sz] := List.getElem?_eq_getElem hi
      have h1 := (hlp _ _ hq).1 (k % r.sz) hj
      have h2 := flat_get hsz (k := k / r.sz) (v := l[k / r.sz].1) (by rw [List.getElem?_map, hq]; rfl) hj
      rw [Nat.mul_comm, Nat.div_add_mod] at h1 h2
      rw [hu] at h2
      rw [← h2] at h1
      have hspot : spot = none := by
        have h0 : 0 < l.length := Nat.lt_of_le_of_lt (Nat.zero_le _) hi
        have hq0 : l[0]? = some l[0] := List.getElem?_eq_getElem h0
        have h3 := (hlp 0 _ hq0).1 0 r.pos
        have hs0 := r.size (hlp 0 _ hq0).2.1
        rw [List.getElem?_eq_getElem (by rw [Array.length_toList, hs0]; exact r.pos)] at h3
        simpa [Addr.add] using World.cell?_spot h3
      subst hspot
      rw [add_addr] at h1
      exact ⟨b, off, rfl, not_false, World.block_lt_of_cell? w _ h1, h1⟩
    · obtain ⟨q, hq, rfl⟩ := List.mem_map.1 hx
      obtain ⟨k, hk, rfl⟩ := List.getElem_of_mem hq
      exact (hlp k _ (List.getElem?_eq_getElem hk)).2.2
theorem top_agg {α : Type} {H : Type} {enc : TypeId × Value → H} {w : World} {base b0 : Nat} {spare : Nat → Bool} {held : Bool} {rr : Reach} {v : Value} {d : DataW H} {p : List MemPlace} {t : TypeId} {fs : Array Field} {r : R α} {q : α → Prop} (ht : P.underlying t = some (.struct fs)) (hr : Aggr r) (ho : OpC P t r q)
    (hv : Value.okWide P w rr b0 t v) (h : DataW.Trod enc P w base spare held t v d p) : ∃ y, r.rep (fun _ => False) w v y ∧ q y := by
  obtain ⟨cs, rfl, hsz⟩ := okWide_struct ht hv
  obtain ⟨fuel, hf⟩ := h
  obtain ⟨v, y, h1, h2, h3⟩ := ho _ _ _ _ _ _ _ _ _ hf
  obtain ⟨ds, rfl⟩ := hr _ _ _ _ h2
  simp [Value.cells] at h1
  subst h1
  exact ⟨y, h2, h3⟩
theorem St0.start {w : World} {D : List Fact} (h : ∀ d, d ∈ D → d.p (fun _ => False) w) : St0 (fun _ => False) [] w w [] D := by
  have hE : tot (fun _ => False) [] = (fun _ => False) := by funext b; simp [tot, keysL]
  exact ⟨Chg.refl _ _, by simp, fun d hd => by rw [hE]; exact h d hd, by simp [keysL], by simp [keysL], fun _ h => h.elim⟩
theorem Chg.below {w w' : World} (h : Chg [] w w') : Below w.heap.size w w' := ⟨h.os, h.tape, h.output, h.size, fun k hk => h.block k hk (by simp)⟩
theorem len2 {α : Type} {l : List α} (h : l.length = 2) : ∃ a b, l = [a, b] := by match l, h with | [a, b], _ => exact ⟨a, b, rfl⟩
theorem len4 {α : Type} {l : List α} (h : l.length = 4) : ∃ a b c d, l = [a, b, c, d] := by match l, h with | [a, b, c, d], _ => exact ⟨a, b, c, d, rfl⟩
end
theorem fld {α : Type} {x : Option α} {ys : List α} {i : Nat} (h : x = ys[i]?) (hi : i < ys.length) : ∃ z, x = some z := ⟨ys[i], by rw [h]; exact List.getElem?_eq_getElem hi⟩

end Go.Proofs.Ytdbgkakmhlmpbaa
namespace Go.Proofs.Ytdbgkakmhlmpbaa
open Go.RowKit
set_option linter.unusedVariables false

open Go.ChangeShapes Go.WideShapes Go.ChangeAt Go.Joins
theorem lenSx {α : Type} {l : List α} {n : Nat} (h : l.length = n + 1) : ∃ a k, l = a :: k ∧ k.length = n := by
  cases l with
  | nil => simp at h
  | cons a k => exact ⟨a, k, rfl, by simpa using h⟩
theorem len11 {α : Type} {l : List α} (h : l.length = 11) : ∃ c0 c1 c2 c3 c4 c5 c6 c7 c8 c9 c10, l = [c0, c1, c2, c3, c4, c5, c6, c7, c8, c9, c10] := by
  obtain ⟨c0, l1, rfl, h1⟩ := lenSx h
  obtain ⟨c1, l2, rfl, h2⟩ := lenSx h1
  obtain ⟨c2, l3, rfl, h3⟩ := lenSx h2
  obtain ⟨c3, l4, rfl, h4⟩ := lenSx h3
  obtain ⟨c4, l5, rfl, h5⟩ := lenSx h4
  obtain ⟨c5, l6, rfl, h6⟩ := lenSx h5
  obtain ⟨c6, l7, rfl, h7⟩ := lenSx h6
  obtain ⟨c7, l8, rfl, h8⟩ := lenSx h7
  obtain ⟨c8, l9, rfl, h9⟩ := lenSx h8
  obtain ⟨c9, l10, rfl, h10⟩ := lenSx h9
  obtain ⟨c10, l11, rfl, h11⟩ := lenSx h10
  obtain rfl := List.eq_nil_of_length_eq_zero h11
  exact ⟨c0, c1, c2, c3, c4, c5, c6, c7, c8, c9, c10, rfl⟩
theorem len23 {α : Type} {l : List α} (h : l.length = 23) : ∃ c0 c1 c2 c3 c4 c5 c6 c7 c8 c9 c10 c11 c12 c13 c14 c15 c16 c17 c18 c19 c20 c21 c22, l = [c0, c1, c2, c3, c4, c5, c6, c7, c8, c9, c10, c11, c12, c13, c14, c15, c16, c17, c18, c19, c20, c21, c22] := by
  obtain ⟨c0, l1, rfl, h1⟩ := lenSx h
  obtain ⟨c1, l2, rfl, h2⟩ := lenSx h1
  obtain ⟨c2, l3, rfl, h3⟩ := lenSx h2
  obtain ⟨c3, l4, rfl, h4⟩ := lenSx h3
  obtain ⟨c4, l5, rfl, h5⟩ := lenSx h4
  obtain ⟨c5, l6, rfl, h6⟩ := lenSx h5
  obtain ⟨c6, l7, rfl, h7⟩ := lenSx h6
  obtain ⟨c7, l8, rfl, h8⟩ := lenSx h7
  obtain ⟨c8, l9, rfl, h9⟩ := lenSx h8
  obtain ⟨c9, l10, rfl, h10⟩ := lenSx h9
  obtain ⟨c10, l11, rfl, h11⟩ := lenSx h10
  obtain ⟨c11, l12, rfl, h12⟩ := lenSx h11
  obtain ⟨c12, l13, rfl, h13⟩ := lenSx h12
  obtain ⟨c13, l14, rfl, h14⟩ := lenSx h13
  obtain ⟨c14, l15, rfl, h15⟩ := lenSx h14
  obtain ⟨c15, l16, rfl, h16⟩ := lenSx h15
  obtain ⟨c16, l17, rfl, h17⟩ := lenSx h16
  obtain ⟨c17, l18, rfl, h18⟩ := lenSx h17
  obtain ⟨c18, l19, rfl, h19⟩ := lenSx h18
  obtain ⟨c19, l20, rfl, h20⟩ := lenSx h19
  obtain ⟨c20, l21, rfl, h21⟩ := lenSx h20
  obtain ⟨c21, l22, rfl, h22⟩ := lenSx h21
  obtain ⟨c22, l23, rfl, h23⟩ := lenSx h22
  obtain rfl := List.eq_nil_of_length_eq_zero h23
  exact ⟨c0, c1, c2, c3, c4, c5, c6, c7, c8, c9, c10, c11, c12, c13, c14, c15, c16, c17, c18, c19, c20, c21, c22, rfl⟩
def wf_api_Stitch (x : api_Stitch) : Prop := (InK .u8) x.Kind ∧ (fun _ => True) x.Purl ∧ (InK .i64) x.A ∧ (InK .i64) x.B
theorem op_api_Stitch : OpC Try.prog 74 r_api_Stitch wf_api_Stitch := fun H enc w base spare held fuel cs x h => by
  obtain ⟨ys, m, _, _, hl, hy, hf⟩ := DataW.trod_struct Try.underlying74 h
  obtain ⟨c0, c1, c2, c3, rfl⟩ := len4 (hl.trans (by kernel_rfl))
  obtain ⟨z0, f0⟩ := fld (hf 0 _ rfl) (by rw [hy]; decide)
  obtain ⟨u0, y0, k0, r0, w0⟩ := (op_int .u8 Try.underlying5) _ _ _ _ _ _ _ _ _ f0
  replace k0 : u0.cells.toList = [c0] := k0.trans (by kernel_rfl)
  obtain rfl : u0 = .int .u8 y0 := r0
  obtain rfl : Value.int .u8 y0 = c0 := by simpa [Value.cells] using k0
  obtain ⟨z1, f1⟩ := fld (hf 1 _ rfl) (by rw [hy]; decide)
  obtain ⟨u1, y1, k1, r1, w1⟩ := (op_bool Try.underlying4) _ _ _ _ _ _ _ _ _ f1
  replace k1 : u1.cells.toList = [c1] := k1.trans (by kernel_rfl)
  obtain rfl : u1 = .bool y1 := r1
  obtain rfl : Value.bool y1 = c1 := by simpa [Value.cells] using k1
  obtain ⟨z2, f2⟩ := fld (hf 2 _ rfl) (by rw [hy]; decide)
  obtain ⟨u2, y2, k2, r2, w2⟩ := (op_int .i64 Try.underlying3) _ _ _ _ _ _ _ _ _ f2
  replace k2 : u2.cells.toList = [c2] := k2.trans (by kernel_rfl)
  obtain rfl : u2 = .int .i64 y2 := r2
  obtain rfl : Value.int .i64 y2 = c2 := by simpa [Value.cells] using k2
  obtain ⟨z3, f3⟩ := fld (hf 3 _ rfl) (by rw [hy]; decide)
  obtain ⟨u3, y3, k3, r3, w3⟩ := (op_int .i64 Try.underlying3) _ _ _ _ _ _ _ _ _ f3
  replace k3 : u3.cells.toList = [c3] := k3.trans (by kernel_rfl)
  obtain rfl : u3 = .int .i64 y3 := r3
  obtain rfl : Value.int .i64 y3 = c3 := by simpa [Value.cells] using k3
  exact ⟨_, ⟨y0, y1, y2, y3⟩, rfl, rfl, ⟨w0, w1, w2, w3⟩⟩
def wf_api_Row (x : api_Row) : Prop := (fun _ => True) x.Back ∧ (Wl wf_api_Stitch) x.Cells
theorem op_api_Row : OpC Try.prog 72 r_api_Row wf_api_Row := fun H enc w base spare held fuel cs x h => by
  obtain ⟨ys, m, _, _, hl, hy, hf⟩ := DataW.trod_struct Try.underlying72 h
  obtain ⟨c0, c1, rfl⟩ := len2 (hl.trans (by kernel_rfl))
  obtain ⟨z0, f0⟩ := fld (hf 0 _ rfl) (by rw [hy]; decide)
  obtain ⟨u0, y0, k0, r0, w0⟩ := (op_bool Try.underlying4) _ _ _ _ _ _ _ _ _ f0
  replace k0 : u0.cells.toList = [c0] := k0.trans (by kernel_rfl)
  obtain rfl : u0 = .bool y0 := r0
  obtain rfl : Value.bool y0 = c0 := by simpa [Value.cells] using k0
  obtain ⟨z1, f1⟩ := fld (hf 1 _ rfl) (by rw [hy]; decide)
  obtain ⟨u1, y1, k1, r1, w1⟩ := (op_slice (r := r_api_Stitch) Try.underlying70 (by kernel_rfl) op_api_Stitch) _ _ _ _ _ _ _ _ _ f1
  replace k1 : u1.cells.toList = [c1] := k1.trans (by kernel_rfl)
  rw [scal_L _ _ _ _ _ r1] at k1
  obtain rfl : u1 = c1 := by simpa using k1
  exact ⟨_, ⟨y0, y1⟩, rfl, ⟨_, rfl, r1⟩, ⟨w0, w1⟩⟩
def wf_api_Chart (x : api_Chart) : Prop := (InK .i64) x.Start ∧ (Wl wf_api_Row) x.Rows
theorem op_api_Chart : OpC Try.prog 41 r_api_Chart wf_api_Chart := fun H enc w base spare held fuel cs x h => by
  obtain ⟨ys, m, _, _, hl, hy, hf⟩ := DataW.trod_struct Try.underlying41 h
  obtain ⟨c0, c1, rfl⟩ := len2 (hl.trans (by kernel_rfl))
  obtain ⟨z0, f0⟩ := fld (hf 0 _ rfl) (by rw [hy]; decide)
  obtain ⟨u0, y0, k0, r0, w0⟩ := (op_int .i64 Try.underlying3) _ _ _ _ _ _ _ _ _ f0
  replace k0 : u0.cells.toList = [c0] := k0.trans (by kernel_rfl)
  obtain rfl : u0 = .int .i64 y0 := r0
  obtain rfl : Value.int .i64 y0 = c0 := by simpa [Value.cells] using k0
  obtain ⟨z1, f1⟩ := fld (hf 1 _ rfl) (by rw [hy]; decide)
  obtain ⟨u1, y1, k1, r1, w1⟩ := (op_slice (r := r_api_Row) Try.underlying39 (by kernel_rfl) op_api_Row) _ _ _ _ _ _ _ _ _ f1
  replace k1 : u1.cells.toList = [c1] := k1.trans (by kernel_rfl)
  rw [scal_L _ _ _ _ _ r1] at k1
  obtain rfl : u1 = c1 := by simpa using k1
  exact ⟨_, ⟨y0, y1⟩, rfl, ⟨_, rfl, r1⟩, ⟨w0, w1⟩⟩
def wf_A11_Int (x : (Int × Int × Int × Int × Int × Int × Int × Int × Int × Int × Int)) : Prop := (InK .i64) x.1 ∧ (InK .i64) x.2.1 ∧ (InK .i64) x.2.2.1 ∧ (InK .i64) x.2.2.2.1 ∧ (InK .i64) x.2.2.2.2.1 ∧ (InK .i64) x.2.2.2.2.2.1 ∧ (InK .i64) x.2.2.2.2.2.2.1 ∧ (InK .i64) x.2.2.2.2.2.2.2.1 ∧ (InK .i64) x.2.2.2.2.2.2.2.2.1 ∧ (InK .i64) x.2.2.2.2.2.2.2.2.2.1 ∧ (InK .i64) x.2.2.2.2.2.2.2.2.2.2
theorem op_A11_Int : OpC Try.prog 42 r_A11_Int wf_A11_Int := fun H enc w base spare held fuel cs x h => by
  obtain ⟨ys, m, _, _, hl, hy, hf⟩ := DataW.trod_array Try.underlying42 h
  obtain ⟨c0, c1, c2, c3, c4, c5, c6, c7, c8, c9, c10, rfl⟩ := len11 (hl.trans (by kernel_rfl))
  obtain ⟨z0, f0⟩ := fld (hf 0 (by decide)) (by rw [hy]; decide)
  obtain ⟨u0, y0, k0, r0, w0⟩ := (op_int .i64 Try.underlying3) _ _ _ _ _ _ _ _ _ f0
  replace k0 : u0.cells.toList = [c0] := k0.trans (by kernel_rfl)
  obtain rfl : u0 = .int .i64 y0 := r0
  obtain rfl : Value.int .i64 y0 = c0 := by simpa [Value.cells] using k0
  obtain ⟨z1, f1⟩ := fld (hf 1 (by decide)) (by rw [hy]; decide)
  obtain ⟨u1, y1, k1, r1, w1⟩ := (op_int .i64 Try.underlying3) _ _ _ _ _ _ _ _ _ f1
  replace k1 : u1.cells.toList = [c1] := k1.trans (by kernel_rfl)
  obtain rfl : u1 = .int .i64 y1 := r1
  obtain rfl : Value.int .i64 y1 = c1 := by simpa [Value.cells] using k1
  obtain ⟨z2, f2⟩ := fld (hf 2 (by decide)) (by rw [hy]; decide)
  obtain ⟨u2, y2, k2, r2, w2⟩ := (op_int .i64 Try.underlying3) _ _ _ _ _ _ _ _ _ f2
  replace k2 : u2.cells.toList = [c2] := k2.trans (by kernel_rfl)
  obtain rfl : u2 = .int .i64 y2 := r2
  obtain rfl : Value.int .i64 y2 = c2 := by simpa [Value.cells] using k2
  obtain ⟨z3, f3⟩ := fld (hf 3 (by decide)) (by rw [hy]; decide)
  obtain ⟨u3, y3, k3, r3, w3⟩ := (op_int .i64 Try.underlying3) _ _ _ _ _ _ _ _ _ f3
  replace k3 : u3.cells.toList = [c3] := k3.trans (by kernel_rfl)
  obtain rfl : u3 = .int .i64 y3 := r3
  obtain rfl : Value.int .i64 y3 = c3 := by simpa [Value.cells] using k3
  obtain ⟨z4, f4⟩ := fld (hf 4 (by decide)) (by rw [hy]; decide)
  obtain ⟨u4, y4, k4, r4, w4⟩ := (op_int .i64 Try.underlying3) _ _ _ _ _ _ _ _ _ f4
  replace k4 : u4.cells.toList = [c4] := k4.trans (by kernel_rfl)
  obtain rfl : u4 = .int .i64 y4 := r4
  obtain rfl : Value.int .i64 y4 = c4 := by simpa [Value.cells] using k4
  obtain ⟨z5, f5⟩ := fld (hf 5 (by decide)) (by rw [hy]; decide)
  obtain ⟨u5, y5, k5, r5, w5⟩ := (op_int .i64 Try.underlying3) _ _ _ _ _ _ _ _ _ f5
  replace k5 : u5.cells.toList = [c5] := k5.trans (by kernel_rfl)
  obtain rfl : u5 = .int .i64 y5 := r5
  obtain rfl : Value.int .i64 y5 = c5 := by simpa [Value.cells] using k5
  obtain ⟨z6, f6⟩ := fld (hf 6 (by decide)) (by rw [hy]; decide)
  obtain ⟨u6, y6, k6, r6, w6⟩ := (op_int .i64 Try.underlying3) _ _ _ _ _ _ _ _ _ f6
  replace k6 : u6.cells.toList = [c6] := k6.trans (by kernel_rfl)
  obtain rfl : u6 = .int .i64 y6 := r6
  obtain rfl : Value.int .i64 y6 = c6 := by simpa [Value.cells] using k6
  obtain ⟨z7, f7⟩ := fld (hf 7 (by decide)) (by rw [hy]; decide)
  obtain ⟨u7, y7, k7, r7, w7⟩ := (op_int .i64 Try.underlying3) _ _ _ _ _ _ _ _ _ f7
  replace k7 : u7.cells.toList = [c7] := k7.trans (by kernel_rfl)
  obtain rfl : u7 = .int .i64 y7 := r7
  obtain rfl : Value.int .i64 y7 = c7 := by simpa [Value.cells] using k7
  obtain ⟨z8, f8⟩ := fld (hf 8 (by decide)) (by rw [hy]; decide)
  obtain ⟨u8, y8, k8, r8, w8⟩ := (op_int .i64 Try.underlying3) _ _ _ _ _ _ _ _ _ f8
  replace k8 : u8.cells.toList = [c8] := k8.trans (by kernel_rfl)
  obtain rfl : u8 = .int .i64 y8 := r8
  obtain rfl : Value.int .i64 y8 = c8 := by simpa [Value.cells] using k8
  obtain ⟨z9, f9⟩ := fld (hf 9 (by decide)) (by rw [hy]; decide)
  obtain ⟨u9, y9, k9, r9, w9⟩ := (op_int .i64 Try.underlying3) _ _ _ _ _ _ _ _ _ f9
  replace k9 : u9.cells.toList = [c9] := k9.trans (by kernel_rfl)
  obtain rfl : u9 = .int .i64 y9 := r9
  obtain rfl : Value.int .i64 y9 = c9 := by simpa [Value.cells] using k9
  obtain ⟨z10, f10⟩ := fld (hf 10 (by decide)) (by rw [hy]; decide)
  obtain ⟨u10, y10, k10, r10, w10⟩ := (op_int .i64 Try.underlying3) _ _ _ _ _ _ _ _ _ f10
  replace k10 : u10.cells.toList = [c10] := k10.trans (by kernel_rfl)
  obtain rfl : u10 = .int .i64 y10 := r10
  obtain rfl : Value.int .i64 y10 = c10 := by simpa [Value.cells] using k10
  exact ⟨_, (y0, y1, y2, y3, y4, y5, y6, y7, y8, y9, y10), rfl, rfl, ⟨w0, w1, w2, w3, w4, w5, w6, w7, w8, w9, w10⟩⟩
def wf_api_Rates (x : api_Rates) : Prop := wf_A11_Int x.Length ∧ wf_A11_Int x.Time ∧ (InK .i64) x.Turn
theorem op_api_Rates : OpC Try.prog 44 r_api_Rates wf_api_Rates := fun H enc w base spare held fuel cs x h => by
  obtain ⟨ys, m, _, _, hl, hy, hf⟩ := DataW.trod_struct Try.underlying44 h
  obtain ⟨c0, c1, c2, c3, c4, c5, c6, c7, c8, c9, c10, c11, c12, c13, c14, c15, c16, c17, c18, c19, c20, c21, c22, rfl⟩ := len23 (hl.trans (by kernel_rfl))
  obtain ⟨z0, f0⟩ := fld (hf 0 _ rfl) (by rw [hy]; decide)
  obtain ⟨u0, y0, k0, r0, w0⟩ := op_A11_Int _ _ _ _ _ _ _ _ _ f0
  replace k0 : u0.cells.toList = [c0, c1, c2, c3, c4, c5, c6, c7, c8, c9, c10] := k0.trans (by kernel_rfl)
  obtain rfl : u0 = .agg #[.int .i64 y0.1, .int .i64 y0.2.1, .int .i64 y0.2.2.1, .int .i64 y0.2.2.2.1, .int .i64 y0.2.2.2.2.1, .int .i64 y0.2.2.2.2.2.1, .int .i64 y0.2.2.2.2.2.2.1, .int .i64 y0.2.2.2.2.2.2.2.1, .int .i64 y0.2.2.2.2.2.2.2.2.1, .int .i64 y0.2.2.2.2.2.2.2.2.2.1, .int .i64 y0.2.2.2.2.2.2.2.2.2.2] := r0
  simp only [Value.cells, List.cons.injEq, and_true] at k0
  obtain ⟨rfl, rfl, rfl, rfl, rfl, rfl, rfl, rfl, rfl, rfl, rfl⟩ := k0
  obtain ⟨z1, f1⟩ := fld (hf 1 _ rfl) (by rw [hy]; decide)
  obtain ⟨u1, y1, k1, r1, w1⟩ := op_A11_Int _ _ _ _ _ _ _ _ _ f1
  replace k1 : u1.cells.toList = [c11, c12, c13, c14, c15, c16, c17, c18, c19, c20, c21] := k1.trans (by kernel_rfl)
  obtain rfl : u1 = .agg #[.int .i64 y1.1, .int .i64 y1.2.1, .int .i64 y1.2.2.1, .int .i64 y1.2.2.2.1, .int .i64 y1.2.2.2.2.1, .int .i64 y1.2.2.2.2.2.1, .int .i64 y1.2.2.2.2.2.2.1, .int .i64 y1.2.2.2.2.2.2.2.1, .int .i64 y1.2.2.2.2.2.2.2.2.1, .int .i64 y1.2.2.2.2.2.2.2.2.2.1, .int .i64 y1.2.2.2.2.2.2.2.2.2.2] := r1
  simp only [Value.cells, List.cons.injEq, and_true] at k1
  obtain ⟨rfl, rfl, rfl, rfl, rfl, rfl, rfl, rfl, rfl, rfl, rfl⟩ := k1
  obtain ⟨z2, f2⟩ := fld (hf 2 _ rfl) (by rw [hy]; decide)
  obtain ⟨u2, y2, k2, r2, w2⟩ := (op_int .i64 Try.underlying3) _ _ _ _ _ _ _ _ _ f2
  replace k2 : u2.cells.toList = [c22] := k2.trans (by kernel_rfl)
  obtain rfl : u2 = .int .i64 y2 := r2
  obtain rfl : Value.int .i64 y2 = c22 := by simpa [Value.cells] using k2
  exact ⟨_, ⟨y0, y1, y2⟩, rfl, rfl, ⟨w0, w1, w2⟩⟩
end Go.Proofs.Ytdbgkakmhlmpbaa
namespace Go.Proofs.Ytdbgkakmhlmpbaa
open Go.RowKit
set_option linter.unusedVariables false

def Le {α : Type} (a b : Option α) : Prop := ∀ r, a = some r → b = some r
theorem Le.rfl {α : Type} (a : Option α) : Le a a := fun _ h => h
theorem Le.bind {α β : Type} {a b : Option α} {f g : α → Option β} (h : Le a b) (hf : ∀ x, Le (f x) (g x)) : Le (Option.bind a f) (Option.bind b g) := by
  intro r hr
  cases ha : a with
  | none => rw [ha] at hr; cases hr
  | some x =>
    rw [ha] at hr
    rw [h x ha]
    exact hf x r hr
theorem Le.ite {α : Type} {c : Prop} [Decidable c] {a b a' b' : Option α} (h : Le a b) (h' : Le a' b') : Le (if c then a else a') (if c then b else b') := by
  by_cases hc : c
  · rw [if_pos hc, if_pos hc]; exact h
  · rw [if_neg hc, if_neg hc]; exact h'
theorem Le.sum {α β γ : Type} {f g : α ⊕ β → Option γ} (h : ∀ a, Le (f (.inl a)) (g (.inl a))) (h' : ∀ b, Le (f (.inr b)) (g (.inr b))) : ∀ z, Le (f z) (g z)
  | .inl a => h a
  | .inr b => h' b
theorem Le.prod {α β γ : Type} {f g : α × β → Option γ} (h : ∀ a b, Le (f (a, b)) (g (a, b))) : ∀ z, Le (f z) (g z)
  | (a, b) => h a b
theorem iterO_Le {σ τ : Type} {B B' : σ → Option (σ ⊕ τ)} (h : ∀ s, Le (B s) (B' s)) : ∀ (n : Nat) (s : σ), Le (iterO B n s) (iterO B' n s) := by
  intro n
  induction n with
  | zero => intro s r hr; cases hr
  | succ n ih =>
    intro s r hr
    unfold iterO at hr ⊢
    cases hB : B s with
    | none => rw [hB] at hr; cases hr
    | some x =>
      rw [hB] at hr
      rw [h s x hB]
      cases x with
      | inl s' => exact ih s' r hr
      | inr t => exact hr
def whileK {σ τ : Type} (B : σ → Option (σ ⊕ τ)) (s : σ) : Option τ := iterO B 1000000 s
theorem Le.loop {σ τ : Type} {B B' : σ → Option (σ ⊕ τ)} (s : σ) (h : ∀ s, Le (B s) (B' s)) : Le (whileK B s) (whileO B' s) :=
  fun r hr => whileO_of (iterO_Le h 1000000 s r hr)

end Go.Proofs.Ytdbgkakmhlmpbaa
namespace Go.Proofs.Ytdbgkakmhlmpbaa
open Go.RowKit
set_option linter.unusedVariables false

noncomputable def F_yarn_factors (p0 : Int) : Option (Int × Int × Bool × Bool) :=
  if p0 == 1 then
    some (1, 1, true, true)
  else
    if p0 == 2 then
      some (1, 9, true, true)
    else
      if p0 == 3 then
        some (1000, 1, false, true)
      else
        if p0 == 4 then
          some (226796185, 384048, false, true)
        else
          some (0, 0, false, false)
set_option maxHeartbeats 4000000 in
set_option maxRecDepth 100000 in
theorem c_yarn_factors (E : Nat → Prop) (w0 : World) (p0 : Int) (r : (Int × Int × Bool × Bool)) (h : F_yarn_factors p0 = some r) (S : St0 E [] w0 w0 [] []) :
    Calls Try.prog 79 #[.int .u8 p0] w0 (Ret (X := Unit) E [] w0 (fun _ => .tuple #[.int .i64 r.1, .int .i64 r.2.1, .bool r.2.2.1, .bool r.2.2.2]) (fun _ => []) (fun _ => [])) := by
  unfold F_yarn_factors at h
  refine sEnter (args := [.int .u8 p0]) 15 Try.func79 rfl rfl (by simp) S (fun a S => ?_)
  refine sSeq (fun K1 hK1 => ?_)
  refine sRegion ?_
  refine sMove (iv 0) S (wN rfl) (.inr rfl) rfl rfl (lb rfl) fun a S => ?_
  refine sMove (iv 0) S (wN rfl) (.inr rfl) rfl rfl (lb rfl) fun a S => ?_
  refine sMove (.bool false) S (wN rfl) (.inr rfl) rfl rfl (lb rfl) fun a S => ?_
  refine sMove (.bool false) S (wN rfl) (.inr rfl) rfl rfl (lb rfl) fun a S => ?_
  refine leafL (leafT (hK1 _ _ ?_))
  refine sSeq (fun K2 hK2 => ?_)
  refine sSeq (fun K3 hK3 => ?_)
  refine sRegion ?_
  refine sMove (.int .u8 p0) S (wN rfl) (.inl rfl) rfl rfl (lb rfl) fun a S => ?_
  refine leafL (leafT (hK3 _ _ ?_))
  refine wp_block ?_
  refine sSeq (fun K4 hK4 => ?_)
  refine sRegion ?_
  refine sBin (.bool (p0 == 1)) S (wN rfl) rfl rfl rfl (bEq _ _ _ _ .u8 p0 1) rfl (lb rfl) fun a S => ?_
  refine sMove (.bool (p0 == 1)) S (wN rfl) (.inr rfl) rfl rfl (lb rfl) fun a S => ?_
  refine leafL (leafT (hK4 _ _ ?_))
  rcases iteSome h with ⟨hc5, h⟩ | ⟨hc5, h⟩
  · refine sCondT S rfl hc5 ?_
    refine sSeq (fun K6 hK6 => ?_)
    refine sRegion ?_
    refine sMove (iv 1) S (wN rfl) (.inr rfl) rfl rfl (lb rfl) fun a S => ?_
    refine sMove (iv 1) S (wN rfl) (.inr rfl) rfl rfl (lb rfl) fun a S => ?_
    refine sMove (.bool true) S (wN rfl) (.inr rfl) rfl rfl (lb rfl) fun a S => ?_
    refine sMove (.bool true) S (wN rfl) (.inr rfl) rfl rfl (lb rfl) fun a S => ?_
    refine leafL (leafT (hK6 _ _ ?_))
    obtain rfl := Option.some.inj h
    exact wp_ret (rBlock (rThen (sRet (.tuple #[iv 1, iv 1, .bool true, .bool true]) S (rsl4 rfl (rvT (t := 2) (v := iv 1) S rfl) (rvT (t := 3) (v := iv 1) S rfl) (rvT (t := 4) (v := .bool true) S rfl) (rvT (t := 5) (v := .bool true) S rfl)) ⟨(), rfl, S.mem.sel [] [] (by decide) rfl rfl⟩)))
  refine sCondF S rfl hc5 ?_
  refine sSeq (fun K7 hK7 => ?_)
  refine sRegion ?_
  refine sBin (.bool (p0 == 2)) S (wN rfl) rfl rfl rfl (bEq _ _ _ _ .u8 p0 2) rfl (lb rfl) fun a S => ?_
  refine sMove (.bool (p0 == 2)) S (wN rfl) (.inr rfl) rfl rfl (lb rfl) fun a S => ?_
  refine leafL (leafT (hK7 _ _ ?_))
  rcases iteSome h with ⟨hc8, h⟩ | ⟨hc8, h⟩
  · refine sCondT S rfl hc8 ?_
    refine sSeq (fun K9 hK9 => ?_)
    refine sRegion ?_
    refine sMove (iv 1) S (wN rfl) (.inr rfl) rfl rfl (lb rfl) fun a S => ?_
    refine sMove (iv 9) S (wN rfl) (.inr rfl) rfl rfl (lb rfl) fun a S => ?_
    refine sMove (.bool true) S (wN rfl) (.inr rfl) rfl rfl (lb rfl) fun a S => ?_
    refine sMove (.bool true) S (wN rfl) (.inr rfl) rfl rfl (lb rfl) fun a S => ?_
    refine leafL (leafT (hK9 _ _ ?_))
    obtain rfl := Option.some.inj h
    exact wp_ret (rBlock (rThen (sRet (.tuple #[iv 1, iv 9, .bool true, .bool true]) S (rsl4 rfl (rvT (t := 2) (v := iv 1) S rfl) (rvT (t := 3) (v := iv 9) S rfl) (rvT (t := 4) (v := .bool true) S rfl) (rvT (t := 5) (v := .bool true) S rfl)) ⟨(), rfl, S.mem.sel [] [] (by decide) rfl rfl⟩)))
  refine sCondF S rfl hc8 ?_
  refine sSeq (fun K10 hK10 => ?_)
  refine sRegion ?_
  refine sBin (.bool (p0 == 3)) S (wN rfl) rfl rfl rfl (bEq _ _ _ _ .u8 p0 3) rfl (lb rfl) fun a S => ?_
  refine sMove (.bool (p0 == 3)) S (wN rfl) (.inr rfl) rfl rfl (lb rfl) fun a S => ?_
  refine leafL (leafT (hK10 _ _ ?_))
  rcases iteSome h with ⟨hc11, h⟩ | ⟨hc11, h⟩
  · refine sCondT S rfl hc11 ?_
    refine sSeq (fun K12 hK12 => ?_)
    refine sRegion ?_
    refine sMove (iv 1000) S (wN rfl) (.inr rfl) rfl rfl (lb rfl) fun a S => ?_
    refine sMove (iv 1) S (wN rfl) (.inr rfl) rfl rfl (lb rfl) fun a S => ?_
    refine sMove (.bool false) S (wN rfl) (.inr rfl) rfl rfl (lb rfl) fun a S => ?_
    refine sMove (.bool true) S (wN rfl) (.inr rfl) rfl rfl (lb rfl) fun a S => ?_
    refine leafL (leafT (hK12 _ _ ?_))
    obtain rfl := Option.some.inj h
    exact wp_ret (rBlock (rThen (sRet (.tuple #[iv 1000, iv 1, .bool false, .bool true]) S (rsl4 rfl (rvT (t := 2) (v := iv 1000) S rfl) (rvT (t := 3) (v := iv 1) S rfl) (rvT (t := 4) (v := .bool false) S rfl) (rvT (t := 5) (v := .bool true) S rfl)) ⟨(), rfl, S.mem.sel [] [] (by decide) rfl rfl⟩)))
  refine sCondF S rfl hc11 ?_
  refine sSeq (fun K13 hK13 => ?_)
  refine sRegion ?_
  refine sBin (.bool (p0 == 4)) S (wN rfl) rfl rfl rfl (bEq _ _ _ _ .u8 p0 4) rfl (lb rfl) fun a S => ?_
  refine sMove (.bool (p0 == 4)) S (wN rfl) (.inr rfl) rfl rfl (lb rfl) fun a S => ?_
  refine leafL (leafT (hK13 _ _ ?_))
  rcases iteSome h with ⟨hc14, h⟩ | ⟨hc14, h⟩
  rotate_left
  · refine sCondF S rfl hc14 ?_
    refine wp_skip (leafB (leafT (hK2 _ _ ?_)))
    refine sSeq (fun K16 hK16 => ?_)
    refine sRegion ?_
    refine sMove (iv 0) S (wN rfl) (.inr rfl) rfl rfl (lb rfl) fun a S => ?_
    refine sMove (iv 0) S (wN rfl) (.inr rfl) rfl rfl (lb rfl) fun a S => ?_
    refine sMove (.bool false) S (wN rfl) (.inr rfl) rfl rfl (lb rfl) fun a S => ?_
    refine sMove (.bool false) S (wN rfl) (.inr rfl) rfl rfl (lb rfl) fun a S => ?_
    refine leafL (leafT (hK16 _ _ ?_))
    obtain rfl := Option.some.inj h
    exact wp_ret (sRet (.tuple #[iv 0, iv 0, .bool false, .bool false]) S (rsl4 rfl (rvT (t := 2) (v := iv 0) S rfl) (rvT (t := 3) (v := iv 0) S rfl) (rvT (t := 4) (v := .bool false) S rfl) (rvT (t := 5) (v := .bool false) S rfl)) ⟨(), rfl, S.mem.sel [] [] (by decide) rfl rfl⟩)
  refine sCondT S rfl hc14 ?_
  refine sSeq (fun K15 hK15 => ?_)
  refine sRegion ?_
  refine sMove (iv 226796185) S (wN rfl) (.inr rfl) rfl rfl (lb rfl) fun a S => ?_
  refine sMove (iv 384048) S (wN rfl) (.inr rfl) rfl rfl (lb rfl) fun a S => ?_
  refine sMove (.bool false) S (wN rfl) (.inr rfl) rfl rfl (lb rfl) fun a S => ?_
  refine sMove (.bool true) S (wN rfl) (.inr rfl) rfl rfl (lb rfl) fun a S => ?_
  refine leafL (leafT (hK15 _ _ ?_))
  obtain rfl := Option.some.inj h
  exact wp_ret (rBlock (rThen (sRet (.tuple #[iv 226796185, iv 384048, .bool false, .bool true]) S (rsl4 rfl (rvT (t := 2) (v := iv 226796185) S rfl) (rvT (t := 3) (v := iv 384048) S rfl) (rvT (t := 4) (v := .bool false) S rfl) (rvT (t := 5) (v := .bool true) S rfl)) ⟨(), rfl, S.mem.sel [] [] (by decide) rfl rfl⟩)))

end Go.Proofs.Ytdbgkakmhlmpbaa
namespace Go.Proofs.Ytdbgkakmhlmpbaa
open Go.RowKit
set_option linter.unusedVariables false

noncomputable def yarn_gcd_l1  : (Int × Int) → Option ((Int × Int) ⊕ Int) := fun s0 => match s0 with
  | (s5, s6) =>
    if s6 != 0 then
      Option.bind (remI s5 s6) fun z14 =>
      some (.inl (s6, z14))
    else
      some (.inr s5)
noncomputable def F_yarn_gcd (p0 : Int) (p1 : Int) : Option Int :=
  Option.bind (α := Int) (
    Option.bind (whileO (yarn_gcd_l1) (p0, p1)) fun e10 =>
      some e10) fun o2 =>
  some o2
set_option maxHeartbeats 4000000 in
set_option maxRecDepth 100000 in
theorem c_yarn_gcd (E : Nat → Prop) (w0 : World) (p0 : Int) (p1 : Int) (r : Int) (h : F_yarn_gcd p0 p1 = some r) (S : St0 E [] w0 w0 [] []) :
    Calls Try.prog 81 #[.int .u64 p0, .int .u64 p1] w0 (Ret (X := Unit) E [] w0 (fun _ => .int .u64 r) (fun _ => []) (fun _ => [])) := by
  unfold F_yarn_gcd at h
  refine sEnter (args := [.int .u64 p0, .int .u64 p1]) 12 Try.func81 rfl rfl (by simp) S (fun a S => ?_)
  refine sSeq (fun K1 hK1 => ?_)
  refine sRegion ?_
  refine sMove (.int .u64 0) S (wN rfl) (.inr rfl) rfl rfl (lb rfl) fun a S => ?_
  refine leafL (leafT (hK1 _ _ ?_))
  obtain ⟨t3, h, g4⟩ := bindSome h
  refine sCut (fun a w => ∃ o2, o2 = t3 ∧ St [] E [] w0 12 a w [(0, .int .u64 o2)] [] []) ?_ (fun a w hI => ?_)
  rotate_left
  · obtain ⟨o2, rfl, S⟩ := hI
    have h := g4
    clear g4
    try dsimp only at h
    refine sSeq (fun K16 hK16 => ?_)
    refine sRegion ?_
    refine sMove (.int .u64 o2) S (wN rfl) (.inl rfl) rfl rfl (lb rfl) fun a S => ?_
    refine sMove (.int .u64 o2) S (wN rfl) (.inr rfl) rfl rfl (lb rfl) fun a S => ?_
    refine leafL (leafT (hK16 _ _ ?_))
    obtain rfl := Option.some.inj h
    exact wp_ret (sRet (.int .u64 o2) S (rsl1 rfl (rvT (t := 4) (v := .int .u64 o2) S rfl)) ⟨(), rfl, S.mem.sel [] [] (by decide) rfl rfl⟩)
  refine wp_block ?_
  obtain ⟨t9, hl, g8⟩ := bindSome h
  refine sLoop hl (fun s0 a w => match s0 with | (s5, s6) => St [] E [] w0 12 a w [(0, .int .u64 s5), (1, .int .u64 s6)] [] []) (S.fix [] [] (by decide) rfl rfl rfl) ?_
  clear hl h
  intro s0 a w c0 hI h hu7
  obtain ⟨s5, s6⟩ := s0
  unfold yarn_gcd_l1 at h
  dsimp only at h hI
  have S := hI
  refine sSeq (fun K11 hK11 => ?_)
  refine sSeq (fun K12 hK12 => ?_)
  refine sRegion ?_
  refine sMove (.int .u64 s6) S (wN rfl) (.inl rfl) rfl rfl (lb rfl) fun a S => ?_
  refine sBin (.bool (s6 != 0)) S (wN rfl) rfl rfl rfl (bNe _ _ _ _ .u64 s6 0) rfl (lb rfl) fun a S => ?_
  refine leafL (leafT (hK12 _ _ ?_))
  rcases iteSome h with ⟨hc13, h⟩ | ⟨hc13, h⟩
  rotate_left
  · refine sCondF S rfl hc13 ?_
    obtain rfl := Option.some.inj h
    obtain rfl := hu7 _ rfl
    have h := g8
    clear g8
    try dsimp only at h
    exact wp_exit (xThen (xThen (xHit (leafT (⟨s5, Option.some.inj h, S.fix [] [] (by decide) rfl rfl rfl⟩)))))
  refine sCondT S rfl hc13 ?_
  refine wp_skip (leafT (hK11 _ _ ?_))
  refine wp_block ?_
  obtain ⟨z14, hx15, h⟩ := bindSome h
  refine sDraw (nf := []) (W := [(0, 7, .int .u64 s6), (1, 8, .int .u64 s5), (2, 9, .int .u64 s6), (3, 10, .int .u64 z14), (4, 0, .int .u64 s6), (5, 1, .int .u64 z14)]) rfl S ?_
  refine node_by (A := [[], [], [], [1, 2], [0, 1], [0, 1, 2, 3, 4]]) (nf := []) (Y := []) (W := [(0, 7, .int .u64 s6), (1, 8, .int .u64 s5), (2, 9, .int .u64 s6), (3, 10, .int .u64 z14), (4, 0, .int .u64 s6), (5, 1, .int .u64 z14)]) 6 (by kernel_rfl) (by kernel_rfl) (by kernel_rfl) (by kernel_rfl) (by kernel_rfl) [0, 1, 2, 3, 4, 5] (by kernel_rfl) (by decide) (by decide) (aF 0 5 (by decide) ?_ (aF 1 4 (by decide) ?_ (aF 2 3 (by decide) ?_ (aF 3 2 (by decide) ?_ (aF 4 1 (by decide) ?_ (aF 5 0 (by decide) ?_ (trivial))))))) [(0, .int .u64 s6), (1, .int .u64 z14)] (fin_of [some 4, some 5] rfl (by kernel_rfl) (by kernel_rfl)) (fun _ a w S => ?_)
  · refine fI 7 (.int .u64 s6) [(1, .int .u64 s6)] 0 [none] rfl rfl rfl rfl rfl rfl fun G a w S => ?_
    refine sMove (.int .u64 s6) S (wN rfl) (.inl rfl) rfl rfl (lb rfl) fun a S => ?_
    exact leafL ⟨rfl, S⟩
  · refine fI 8 (.int .u64 s5) [(0, .int .u64 s5)] 1 [none] rfl rfl rfl rfl rfl rfl fun G a w S => ?_
    refine sMove (.int .u64 s5) S (wN rfl) (.inl rfl) rfl rfl (lb rfl) fun a S => ?_
    exact leafL ⟨rfl, S⟩
  · refine fI 9 (.int .u64 s6) [(1, .int .u64 s6)] 2 [none] rfl rfl rfl rfl rfl rfl fun G a w S => ?_
    refine sMove (.int .u64 s6) S (wN rfl) (.inl rfl) rfl rfl (lb rfl) fun a S => ?_
    exact leafL ⟨rfl, S⟩
  · refine fI 10 (.int .u64 z14) [(8, .int .u64 s5), (9, .int .u64 s6)] 3 [some 1, some 2] rfl rfl rfl rfl rfl rfl fun G a w S => ?_
    refine sBin (.int .u64 z14) S (wN rfl) rfl rfl rfl (bRemK _ _ _ _ (k := .u64) (x := s5) (y := s6) hx15) rfl (lb rfl) fun a S => ?_
    exact leafL ⟨rfl, S⟩
  · refine fI 0 (.int .u64 s6) [(7, .int .u64 s6)] 4 [some 0] rfl rfl rfl rfl rfl rfl fun G a w S => ?_
    refine sMove (.int .u64 s6) S (wN rfl) (.inr rfl) rfl rfl (lb rfl) fun a S => ?_
    exact leafL ⟨rfl, S⟩
  · refine fI 1 (.int .u64 z14) [(10, .int .u64 z14)] 5 [some 3] rfl rfl rfl rfl rfl rfl fun G a w S => ?_
    refine sMove (.int .u64 z14) S (wN rfl) (.inr rfl) rfl rfl (lb rfl) fun a S => ?_
    exact leafL ⟨rfl, S⟩
  exact leafB (leafT (⟨(s6, z14), (Option.some.inj h).symm, (S.fix [] [] (by decide) rfl rfl rfl)⟩))

end Go.Proofs.Ytdbgkakmhlmpbaa
namespace Go.Proofs.Ytdbgkakmhlmpbaa
open Go.RowKit
set_option linter.unusedVariables false

noncomputable def F_yarn_size (p0 : Int) : Option Int :=
  if decide (p0 < 0) then
    some (IntKind.u64.wrap (0 - (IntKind.u64.wrap p0)))
  else
    some (IntKind.u64.wrap p0)
set_option maxHeartbeats 4000000 in
set_option maxRecDepth 100000 in
theorem c_yarn_size (E : Nat → Prop) (w0 : World) (p0 : Int) (r : Int) (h : F_yarn_size p0 = some r) (S : St0 E [] w0 w0 [] []) :
    Calls Try.prog 82 #[iv p0] w0 (Ret (X := Unit) E [] w0 (fun _ => .int .u64 r) (fun _ => []) (fun _ => [])) := by
  unfold F_yarn_size at h
  refine sEnter (args := [iv p0]) 10 Try.func82 rfl rfl (by simp) S (fun a S => ?_)
  refine sSeq (fun K1 hK1 => ?_)
  refine sRegion ?_
  refine sMove (.int .u64 0) S (wN rfl) (.inr rfl) rfl rfl (lb rfl) fun a S => ?_
  refine leafL (leafT (hK1 _ _ ?_))
  refine sSeq (fun K2 hK2 => ?_)
  refine sSeq (fun K3 hK3 => ?_)
  refine sRegion ?_
  refine sMove (iv p0) S (wN rfl) (.inl rfl) rfl rfl (lb rfl) fun a S => ?_
  refine sBin (.bool (decide (p0 < 0))) S (wN rfl) rfl rfl rfl (bLt _ _ _ _ .i64 p0 0) rfl (lb rfl) fun a S => ?_
  refine leafL (leafT (hK3 _ _ ?_))
  rcases iteSome h with ⟨hc4, h⟩ | ⟨hc4, h⟩
  rotate_left
  · refine sCondF S rfl hc4 ?_
    refine wp_skip (leafT (hK2 _ _ ?_))
    refine sSeq (fun K6 hK6 => ?_)
    refine sRegion ?_
    refine sMove (iv p0) S (wN rfl) (.inl rfl) rfl rfl (lb rfl) fun a S => ?_
    refine sConv (k := .i64) (k2 := .u64) (b := p0) S (wN rfl) rfl Try.underlying2 Try.underlying144 rfl rfl (lb rfl) fun a S => ?_
    refine sMove (.int .u64 (IntKind.u64.wrap p0)) S (wN rfl) (.inr rfl) rfl rfl (lb rfl) fun a S => ?_
    refine leafL (leafT (hK6 _ _ ?_))
    obtain rfl := Option.some.inj h
    exact wp_ret (sRet (.int .u64 (IntKind.u64.wrap p0)) S (rsl1 rfl (rvT (t := 2) (v := .int .u64 (IntKind.u64.wrap p0)) S rfl)) ⟨(), rfl, S.mem.sel [] [] (by decide) rfl rfl⟩)
  refine sCondT S rfl hc4 ?_
  refine sSeq (fun K5 hK5 => ?_)
  refine sRegion ?_
  refine sMove (iv p0) S (wN rfl) (.inl rfl) rfl rfl (lb rfl) fun a S => ?_
  refine sConv (k := .i64) (k2 := .u64) (b := p0) S (wN rfl) rfl Try.underlying2 Try.underlying144 rfl rfl (lb rfl) fun a S => ?_
  refine sNegK (k := .u64) (b := IntKind.u64.wrap p0) S (wN rfl) rfl rfl rfl (lb rfl) fun a S => ?_
  refine sMove (.int .u64 (IntKind.u64.wrap (0 - (IntKind.u64.wrap p0)))) S (wN rfl) (.inr rfl) rfl rfl (lb rfl) fun a S => ?_
  refine leafL (leafT (hK5 _ _ ?_))
  obtain rfl := Option.some.inj h
  exact wp_ret (rThen (sRet (.int .u64 (IntKind.u64.wrap (0 - (IntKind.u64.wrap p0)))) S (rsl1 rfl (rvT (t := 2) (v := .int .u64 (IntKind.u64.wrap (0 - (IntKind.u64.wrap p0)))) S rfl)) ⟨(), rfl, S.mem.sel [] [] (by decide) rfl rfl⟩))

end Go.Proofs.Ytdbgkakmhlmpbaa
namespace Go.Proofs.Ytdbgkakmhlmpbaa
open Go.RowKit
set_option linter.unusedVariables false

def anc_yarn_Check_0 : List (List Nat) := [[], [0], [0, 1], [0, 1, 2], [0, 1, 2, 3], [0, 1, 2, 3, 4], [0, 1, 2, 3, 4, 5], [0, 1, 2, 3, 4, 5, 6], [0, 1, 2, 3, 4, 5, 6, 7], [0, 1, 2, 3, 4, 5, 6, 7, 8], [0, 1, 2, 3, 4, 5, 6, 7, 8, 9], [0, 1, 2, 3, 4, 5, 6, 7, 8, 9, 10], [0, 1, 2, 3, 4, 5, 6, 7, 8, 9, 10, 11], [0, 1, 2, 3, 4, 5, 6, 7, 8, 9, 10, 11, 12], [0, 1, 2, 3, 4, 5, 6, 7, 8, 9, 10, 11, 12, 13], [0, 1, 2, 3, 4, 5, 6, 7, 8, 9, 10, 11, 12, 13, 14], [0, 1, 2, 3, 4, 5, 6, 7, 8, 9, 10, 11, 12, 13, 14, 15], [0, 1, 2, 3, 4, 5, 6, 7, 8, 9, 10, 11, 12, 13, 14, 15, 16], [0, 1, 2, 3, 4, 5, 6, 7, 8, 9, 10, 11, 12, 13, 14], [0, 1, 2, 3, 4, 5, 6, 7, 8, 9, 10, 11, 12, 13, 14, 18], [0, 1, 2, 3, 4, 5, 6, 7, 8, 9, 10, 11, 12, 13, 14, 18, 19], [0, 1, 2, 3, 4, 5, 6, 7, 8, 9, 10, 11, 12, 13, 14, 15, 16, 17, 18, 19, 20], [0, 1, 2, 3, 4, 5, 6, 7, 8, 9, 10, 11, 12, 13, 14, 15, 16, 17, 18, 19, 20, 21], [0, 1, 2, 3, 4, 5, 6, 7, 8, 9, 10, 11, 12, 13, 14, 15, 16, 17, 18, 19, 20, 21, 22]]
noncomputable def F_yarn_Check (p0 : api_Ratio) : Option Int :=
  Option.bind (α := Bool) (
    if decide (p0.Den < 1) then
      some true
    else
      if decide (1000000000 < p0.Den) then
        some true
      else
        Option.bind (F_yarn_size p0.Num) fun r9 =>
        if decide (1000000000 < r9) then
          some true
        else
          Option.bind (F_yarn_gcd r9 (IntKind.u64.wrap p0.Den)) fun r12 =>
          some (r12 != 1)) fun o4 =>
  if o4 then
    some 8
  else
    some 0
set_option maxHeartbeats 4000000 in
set_option maxRecDepth 100000 in
theorem c_yarn_Check (E : Nat → Prop) (w0 : World) (p0 : api_Ratio) (v0 : Value) (r : Int) (h : F_yarn_Check p0 = some r) (S : St0 E [] w0 w0 [] [fRep r_api_Ratio (v0) p0]) :
    Calls Try.prog 80 #[v0] w0 (Ret (X := Unit) E [] w0 (fun _ => .int .i64 r) (fun _ => []) (fun _ => [])) := by
  unfold F_yarn_Check at h
  obtain rfl : v0 = .agg #[iv p0.Num, iv p0.Den] := S.know (i := 0) (e := fRep r_api_Ratio (v0) p0) rfl
  refine sEnter (args := [.agg #[iv p0.Num, iv p0.Den]]) 27 Try.func80 rfl rfl (by simp) S (fun a S => ?_)
  refine sSeq (fun K1 hK1 => ?_)
  refine sRegion ?_
  refine sBox (v := .agg #[iv p0.Num, iv p0.Den]) S (wN rfl) rfl rfl [iv p0.Num, iv p0.Den] rfl rfl (lb rfl) fun a b2 w S => ?_
  refine sMove (iv 0) S (wN rfl) (.inr rfl) rfl rfl (lb rfl) fun a S => ?_
  refine leafL (leafT (hK1 _ _ ?_))
  refine sSeq (fun K3 hK3 => ?_)
  obtain ⟨t5, h, g6⟩ := bindSome h
  refine sCut (fun a w => ∃ o4, o4 = t5 ∧ St [] E [] w0 27 a w [(26, .bool o4)] [] []) ?_ (fun a w hI => ?_)
  rotate_left
  · obtain ⟨o4, rfl, S⟩ := hI
    have h := g6
    clear g6
    try dsimp only at h
    rcases iteSome h with ⟨hc14, h⟩ | ⟨hc14, h⟩
    · refine sCondT S rfl hc14 ?_
      refine sSeq (fun K15 hK15 => ?_)
      refine sRegion ?_
      refine sMove (iv 8) S (wN rfl) (.inr rfl) rfl rfl (lb rfl) fun a S => ?_
      refine leafL (leafT (hK15 _ _ ?_))
      obtain rfl := Option.some.inj h
      exact wp_ret (rThen (sRet (iv 8) S (rsl1 rfl (rvT (t := 2) (v := iv 8) S rfl)) ⟨(), rfl, S.mem.sel [] [] (by decide) rfl rfl⟩))
    refine sCondF S rfl hc14 ?_
    refine wp_skip (leafT (hK3 _ _ ?_))
    refine sSeq (fun K16 hK16 => ?_)
    refine sRegion ?_
    refine sMove (iv 0) S (wN rfl) (.inr rfl) rfl rfl (lb rfl) fun a S => ?_
    refine leafL (leafT (hK16 _ _ ?_))
    obtain rfl := Option.some.inj h
    exact wp_ret (sRet (iv 0) S (rsl1 rfl (rvT (t := 2) (v := iv 0) S rfl)) ⟨(), rfl, S.mem.sel [] [] (by decide) rfl rfl⟩)
  rcases iteSome h with ⟨hc7, h⟩ | ⟨hc7, h⟩
  · refine sDraw (nf := []) (W := [(0, 3, .pointer (some ⟨b2, 1, none⟩)), (1, 4, iv p0.Den), (2, 5, .bool (decide (p0.Den < 1))), (3, 6, .bool (decide (p0.Den < 1))), (4, 7, undef), (5, 8, undef), (6, 9, undef), (7, 10, .bool true), (8, 11, .bool true), (9, 12, undef), (10, 13, undef), (11, 14, undef), (12, 15, undef), (13, 16, .bool true), (14, 17, .bool true), (15, 18, undef), (16, 19, undef), (17, 20, undef), (18, 21, undef), (19, 22, undef), (20, 23, undef), (21, 24, undef), (22, 25, undef), (23, 26, .bool true)]) rfl S ?_
    refine node_by (A := anc_yarn_Check_0) (nf := []) (Y := []) (W := [(0, 3, .pointer (some ⟨b2, 1, none⟩)), (1, 4, iv p0.Den), (2, 5, .bool (decide (p0.Den < 1))), (3, 6, .bool (decide (p0.Den < 1))), (4, 7, undef), (5, 8, undef), (6, 9, undef), (7, 10, .bool true), (8, 11, .bool true), (9, 12, undef), (10, 13, undef), (11, 14, undef), (12, 15, undef), (13, 16, .bool true), (14, 17, .bool true), (15, 18, undef), (16, 19, undef), (17, 20, undef), (18, 21, undef), (19, 22, undef), (20, 23, undef), (21, 24, undef), (22, 25, undef), (23, 26, .bool true)]) 24 (by kernel_rfl) (by kernel_rfl) (by kernel_rfl) (by kernel_rfl) (by kernel_rfl) [0, 1, 2, 3, 4, 5, 6, 7, 8, 9, 10, 11, 12, 13, 14, 15, 16, 17, 18, 19, 20, 21, 22, 23] (by kernel_rfl) (by decide) (by decide) (aF 0 23 (by decide) ?_ (aF 1 22 (by decide) ?_ (aF 2 21 (by decide) ?_ (aF 3 20 (by decide) ?_ (aF 4 19 (by decide) ?_ (aF 5 18 (by decide) ?_ (aF 6 17 (by decide) ?_ (aF 7 16 (by decide) ?_ (aF 8 15 (by decide) ?_ (aF 9 14 (by decide) ?_ (aF 10 13 (by decide) ?_ (aF 11 12 (by decide) ?_ (aF 12 11 (by decide) ?_ (aF 13 10 (by decide) ?_ (aF 14 9 (by decide) ?_ (aF 15 8 (by decide) ?_ (aF 16 7 (by decide) ?_ (aF 17 6 (by decide) ?_ (aF 18 5 (by decide) ?_ (aF 19 4 (by decide) ?_ (aF 20 3 (by decide) ?_ (aF 21 2 (by decide) ?_ (aF 22 1 (by decide) ?_ (aF 23 0 (by decide) ?_ (trivial))))))))))))))))))))))))) [(26, .bool true)] (fin_of [some 23] rfl (by kernel_rfl) (by kernel_rfl)) (fun _ a w S => ?_)
    · refine fI 3 (.pointer (some ⟨b2, 1, none⟩)) [(1, .pointer (some ⟨b2, 0, none⟩))] 0 [none] rfl rfl rfl rfl rfl rfl fun G a w S => ?_
      refine sField (b := b2) (off := 0) 1 1 S (wN rfl) rfl rfl rfl rfl rfl (lb rfl) fun a S => ?_
      exact leafL ⟨rfl, S⟩
    · refine fI 4 (iv p0.Den) [(3, .pointer (some ⟨b2, 1, none⟩))] 1 [some 0] rfl rfl rfl rfl rfl rfl fun G a w S => ?_
      refine sLoad1 (p := b2) (off := 1) (T := 25) (vs := [iv p0.Num, iv p0.Den]) 0 (iv p0.Den) S (wN rfl) rfl rfl rfl rfl rfl rfl (lb rfl) fun a S => ?_
      exact leafL ⟨rfl, S⟩
    · refine fI 5 (.bool (decide (p0.Den < 1))) [(4, iv p0.Den)] 2 [some 1] rfl rfl rfl rfl rfl rfl fun G a w S => ?_
      refine sBin (.bool (decide (p0.Den < 1))) S (wN rfl) rfl rfl rfl (bLt _ _ _ _ .i64 p0.Den 1) rfl (lb rfl) fun a S => ?_
      exact leafL ⟨rfl, S⟩
    · refine fI 6 (.bool (decide (p0.Den < 1))) [(5, .bool (decide (p0.Den < 1)))] 3 [some 2] rfl rfl rfl rfl rfl rfl fun G a w S => ?_
      refine sMove (.bool (decide (p0.Den < 1))) S (wN rfl) (.inl rfl) rfl rfl (lb rfl) fun a S => ?_
      exact leafL ⟨rfl, S⟩
    · refine fI 7 undef [(1, .pointer (some ⟨b2, 0, none⟩)), (6, .bool (decide (p0.Den < 1)))] 4 [none, some 3] rfl rfl rfl rfl rfl rfl fun G a w S => ?_
      refine sSkip 3 false 6 7 S rfl rfl rfl hc7 rfl (lb rfl) fun a S => ?_
      exact leafL ⟨rfl, S⟩
    · refine fI 8 undef [(7, undef), (6, .bool (decide (p0.Den < 1)))] 5 [some 4, some 3] rfl rfl rfl rfl rfl rfl fun G a w S => ?_
      refine sSkip 3 false 6 8 S rfl rfl rfl hc7 rfl (lb rfl) fun a S => ?_
      exact leafL ⟨rfl, S⟩
    · refine fI 9 undef [(8, undef), (6, .bool (decide (p0.Den < 1)))] 6 [some 5, some 3] rfl rfl rfl rfl rfl rfl fun G a w S => ?_
      refine sSkip 3 false 6 9 S rfl rfl rfl hc7 rfl (lb rfl) fun a S => ?_
      exact leafL ⟨rfl, S⟩
    · refine fI 10 (.bool true) [(6, .bool (decide (p0.Den < 1))), (9, undef)] 7 [some 3, some 6] rfl rfl rfl rfl rfl rfl fun G a w S => ?_
      refine sPickT (.bool true) S (wN rfl) rfl rfl hc7 rfl rfl (lb rfl) fun a S => ?_
      exact leafL ⟨rfl, S⟩
    · refine fI 11 (.bool true) [(10, .bool true)] 8 [some 7] rfl rfl rfl rfl rfl rfl fun G a w S => ?_
      refine sMove (.bool true) S (wN rfl) (.inl rfl) rfl rfl (lb rfl) fun a S => ?_
      exact leafL ⟨rfl, S⟩
    · refine fI 12 undef [(1, .pointer (some ⟨b2, 0, none⟩)), (11, .bool true)] 9 [none, some 8] rfl rfl rfl rfl rfl rfl fun G a w S => ?_
      refine sSkip 8 false 11 12 S rfl rfl rfl rfl rfl (lb rfl) fun a S => ?_
      exact leafL ⟨rfl, S⟩
    · refine fI 13 undef [(12, undef), (11, .bool true)] 10 [some 9, some 8] rfl rfl rfl rfl rfl rfl fun G a w S => ?_
      refine sSkip 8 false 11 13 S rfl rfl rfl rfl rfl (lb rfl) fun a S => ?_
      exact leafL ⟨rfl, S⟩
    · refine fI 14 undef [(13, undef), (11, .bool true)] 11 [some 10, some 8] rfl rfl rfl rfl rfl rfl fun G a w S => ?_
      refine sSkip 8 false 11 14 S rfl rfl rfl rfl rfl (lb rfl) fun a S => ?_
      exact leafL ⟨rfl, S⟩
    · refine fI 15 undef [(14, undef), (11, .bool true)] 12 [some 11, some 8] rfl rfl rfl rfl rfl rfl fun G a w S => ?_
      refine sSkip 8 false 11 15 S rfl rfl rfl rfl rfl (lb rfl) fun a S => ?_
      exact leafL ⟨rfl, S⟩
    · refine fI 16 (.bool true) [(11, .bool true), (15, undef)] 13 [some 8, some 12] rfl rfl rfl rfl rfl rfl fun G a w S => ?_
      refine sPickT (.bool true) S (wN rfl) rfl rfl rfl rfl rfl (lb rfl) fun a S => ?_
      exact leafL ⟨rfl, S⟩
    · refine fI 17 (.bool true) [(16, .bool true)] 14 [some 13] rfl rfl rfl rfl rfl rfl fun G a w S => ?_
      refine sMove (.bool true) S (wN rfl) (.inl rfl) rfl rfl (lb rfl) fun a S => ?_
      exact leafL ⟨rfl, S⟩
    · refine fI 18 undef [(1, .pointer (some ⟨b2, 0, none⟩)), (17, .bool true)] 15 [none, some 14] rfl rfl rfl rfl rfl rfl fun G a w S => ?_
      refine sSkip 14 false 17 18 S rfl rfl rfl rfl rfl (lb rfl) fun a S => ?_
      exact leafL ⟨rfl, S⟩
    · refine fI 19 undef [(18, undef), (17, .bool true)] 16 [some 15, some 14] rfl rfl rfl rfl rfl rfl fun G a w S => ?_
      refine sSkip 14 false 17 19 S rfl rfl rfl rfl rfl (lb rfl) fun a S => ?_
      exact leafL ⟨rfl, S⟩
    · refine fI 20 undef [(19, undef), (17, .bool true)] 17 [some 16, some 14] rfl rfl rfl rfl rfl rfl fun G a w S => ?_
      refine sSkip 14 false 17 20 S rfl rfl rfl rfl rfl (lb rfl) fun a S => ?_
      exact leafL ⟨rfl, S⟩
    · refine fI 21 undef [(1, .pointer (some ⟨b2, 0, none⟩)), (17, .bool true)] 18 [none, some 14] rfl rfl rfl rfl rfl rfl fun G a w S => ?_
      refine sSkip 14 false 17 21 S rfl rfl rfl rfl rfl (lb rfl) fun a S => ?_
      exact leafL ⟨rfl, S⟩
    · refine fI 22 undef [(21, undef), (17, .bool true)] 19 [some 18, some 14] rfl rfl rfl rfl rfl rfl fun G a w S => ?_
      refine sSkip 14 false 17 22 S rfl rfl rfl rfl rfl (lb rfl) fun a S => ?_
      exact leafL ⟨rfl, S⟩
    · refine fI 23 undef [(22, undef), (17, .bool true)] 20 [some 19, some 14] rfl rfl rfl rfl rfl rfl fun G a w S => ?_
      refine sSkip 14 false 17 23 S rfl rfl rfl rfl rfl (lb rfl) fun a S => ?_
      exact leafL ⟨rfl, S⟩
    · refine fI 24 undef [(20, undef), (23, undef), (17, .bool true)] 21 [some 17, some 20, some 14] rfl rfl rfl rfl rfl rfl fun G a w S => ?_
      refine sSkip 14 false 17 24 S rfl rfl rfl rfl rfl (lb rfl) fun a S => ?_
      exact leafL ⟨rfl, S⟩
    · refine fI 25 undef [(24, undef), (17, .bool true)] 22 [some 21, some 14] rfl rfl rfl rfl rfl rfl fun G a w S => ?_
      refine sSkip 14 false 17 25 S rfl rfl rfl rfl rfl (lb rfl) fun a S => ?_
      exact leafL ⟨rfl, S⟩
    · refine fI 26 (.bool true) [(17, .bool true), (25, undef)] 23 [some 14, some 22] rfl rfl rfl rfl rfl rfl fun G a w S => ?_
      refine sPickT (.bool true) S (wN rfl) rfl rfl rfl rfl rfl (lb rfl) fun a S => ?_
      exact leafL ⟨rfl, S⟩
    exact leafT (⟨true, Option.some.inj h, S.fix [] [] (by decide) rfl rfl rfl⟩)
  rcases iteSome h with ⟨hc8, h⟩ | ⟨hc8, h⟩
  · refine sDraw (nf := []) (W := [(0, 3, .pointer (some ⟨b2, 1, none⟩)), (1, 4, iv p0.Den), (2, 5, .bool (decide (p0.Den < 1))), (3, 6, .bool (decide (p0.Den < 1))), (4, 7, .pointer (some ⟨b2, 1, none⟩)), (5, 8, iv p0.Den), (6, 9, .bool (decide (1000000000 < p0.Den))), (7, 10, .bool (decide (1000000000 < p0.Den))), (8, 11, .bool (decide (1000000000 < p0.Den))), (9, 12, undef), (10, 13, undef), (11, 14, undef), (12, 15, undef), (13, 16, .bool true), (14, 17, .bool true), (15, 18, undef), (16, 19, undef), (17, 20, undef), (18, 21, undef), (19, 22, undef), (20, 23, undef), (21, 24, undef), (22, 25, undef), (23, 26, .bool true)]) rfl S ?_
    refine node_by (A := anc_yarn_Check_0) (nf := []) (Y := []) (W := [(0, 3, .pointer (some ⟨b2, 1, none⟩)), (1, 4, iv p0.Den), (2, 5, .bool (decide (p0.Den < 1))), (3, 6, .bool (decide (p0.Den < 1))), (4, 7, .pointer (some ⟨b2, 1, none⟩)), (5, 8, iv p0.Den), (6, 9, .bool (decide (1000000000 < p0.Den))), (7, 10, .bool (decide (1000000000 < p0.Den))), (8, 11, .bool (decide (1000000000 < p0.Den))), (9, 12, undef), (10, 13, undef), (11, 14, undef), (12, 15, undef), (13, 16, .bool true), (14, 17, .bool true), (15, 18, undef), (16, 19, undef), (17, 20, undef), (18, 21, undef), (19, 22, undef), (20, 23, undef), (21, 24, undef), (22, 25, undef), (23, 26, .bool true)]) 24 (by kernel_rfl) (by kernel_rfl) (by kernel_rfl) (by kernel_rfl) (by kernel_rfl) [0, 1, 2, 3, 4, 5, 6, 7, 8, 9, 10, 11, 12, 13, 14, 15, 16, 17, 18, 19, 20, 21, 22, 23] (by kernel_rfl) (by decide) (by decide) (aF 0 23 (by decide) ?_ (aF 1 22 (by decide) ?_ (aF 2 21 (by decide) ?_ (aF 3 20 (by decide) ?_ (aF 4 19 (by decide) ?_ (aF 5 18 (by decide) ?_ (aF 6 17 (by decide) ?_ (aF 7 16 (by decide) ?_ (aF 8 15 (by decide) ?_ (aF 9 14 (by decide) ?_ (aF 10 13 (by decide) ?_ (aF 11 12 (by decide) ?_ (aF 12 11 (by decide) ?_ (aF 13 10 (by decide) ?_ (aF 14 9 (by decide) ?_ (aF 15 8 (by decide) ?_ (aF 16 7 (by decide) ?_ (aF 17 6 (by decide) ?_ (aF 18 5 (by decide) ?_ (aF 19 4 (by decide) ?_ (aF 20 3 (by decide) ?_ (aF 21 2 (by decide) ?_ (aF 22 1 (by decide) ?_ (aF 23 0 (by decide) ?_ (trivial))))))))))))))))))))))))) [(26, .bool true)] (fin_of [some 23] rfl (by kernel_rfl) (by kernel_rfl)) (fun _ a w S => ?_)
    · refine fI 3 (.pointer (some ⟨b2, 1, none⟩)) [(1, .pointer (some ⟨b2, 0, none⟩))] 0 [none] rfl rfl rfl rfl rfl rfl fun G a w S => ?_
      refine sField (b := b2) (off := 0) 1 1 S (wN rfl) rfl rfl rfl rfl rfl (lb rfl) fun a S => ?_
      exact leafL ⟨rfl, S⟩
    · refine fI 4 (iv p0.Den) [(3, .pointer (some ⟨b2, 1, none⟩))] 1 [some 0] rfl rfl rfl rfl rfl rfl fun G a w S => ?_
      refine sLoad1 (p := b2) (off := 1) (T := 25) (vs := [iv p0.Num, iv p0.Den]) 0 (iv p0.Den) S (wN rfl) rfl rfl rfl rfl rfl rfl (lb rfl) fun a S => ?_
      exact leafL ⟨rfl, S⟩
    · refine fI 5 (.bool (decide (p0.Den < 1))) [(4, iv p0.Den)] 2 [some 1] rfl rfl rfl rfl rfl rfl fun G a w S => ?_
      refine sBin (.bool (decide (p0.Den < 1))) S (wN rfl) rfl rfl rfl (bLt _ _ _ _ .i64 p0.Den 1) rfl (lb rfl) fun a S => ?_
      exact leafL ⟨rfl, S⟩
    · refine fI 6 (.bool (decide (p0.Den < 1))) [(5, .bool (decide (p0.Den < 1)))] 3 [some 2] rfl rfl rfl rfl rfl rfl fun G a w S => ?_
      refine sMove (.bool (decide (p0.Den < 1))) S (wN rfl) (.inl rfl) rfl rfl (lb rfl) fun a S => ?_
      exact leafL ⟨rfl, S⟩
    · refine fI 7 (.pointer (some ⟨b2, 1, none⟩)) [(1, .pointer (some ⟨b2, 0, none⟩)), (6, .bool (decide (p0.Den < 1)))] 4 [none, some 3] rfl rfl rfl rfl rfl rfl fun G a w S => ?_
      refine sField (b := b2) (off := 0) 1 1 S (wG 3 false 6 rfl rfl rfl hc7) rfl rfl rfl rfl rfl (lb rfl) fun a S => ?_
      exact leafL ⟨rfl, S⟩
    · refine fI 8 (iv p0.Den) [(7, .pointer (some ⟨b2, 1, none⟩)), (6, .bool (decide (p0.Den < 1)))] 5 [some 4, some 3] rfl rfl rfl rfl rfl rfl fun G a w S => ?_
      refine sLoad1 (p := b2) (off := 1) (T := 25) (vs := [iv p0.Num, iv p0.Den]) 0 (iv p0.Den) S (wG 3 false 6 rfl rfl rfl hc7) rfl rfl rfl rfl rfl rfl (lb rfl) fun a S => ?_
      exact leafL ⟨rfl, S⟩
    · refine fI 9 (.bool (decide (1000000000 < p0.Den))) [(8, iv p0.Den), (6, .bool (decide (p0.Den < 1)))] 6 [some 5, some 3] rfl rfl rfl rfl rfl rfl fun G a w S => ?_
      refine sBin (.bool (decide (1000000000 < p0.Den))) S (wG 3 false 6 rfl rfl rfl hc7) rfl rfl rfl (bGt _ _ _ _ .i64 p0.Den 1000000000) rfl (lb rfl) fun a S => ?_
      exact leafL ⟨rfl, S⟩
    · refine fI 10 (.bool (decide (1000000000 < p0.Den))) [(6, .bool (decide (p0.Den < 1))), (9, .bool (decide (1000000000 < p0.Den)))] 7 [some 3, some 6] rfl rfl rfl rfl rfl rfl fun G a w S => ?_
      refine sPickF (.bool (decide (1000000000 < p0.Den))) S (wN rfl) rfl rfl hc7 rfl rfl (lb rfl) fun a S => ?_
      exact leafL ⟨rfl, S⟩
    · refine fI 11 (.bool (decide (1000000000 < p0.Den))) [(10, .bool (decide (1000000000 < p0.Den)))] 8 [some 7] rfl rfl rfl rfl rfl rfl fun G a w S => ?_
      refine sMove (.bool (decide (1000000000 < p0.Den))) S (wN rfl) (.inl rfl) rfl rfl (lb rfl) fun a S => ?_
      exact leafL ⟨rfl, S⟩
    · refine fI 12 undef [(1, .pointer (some ⟨b2, 0, none⟩)), (11, .bool (decide (1000000000 < p0.Den)))] 9 [none, some 8] rfl rfl rfl rfl rfl rfl fun G a w S => ?_
      refine sSkip 8 false 11 12 S rfl rfl rfl hc8 rfl (lb rfl) fun a S => ?_
      exact leafL ⟨rfl, S⟩
    · refine fI 13 undef [(12, undef), (11, .bool (decide (1000000000 < p0.Den)))] 10 [some 9, some 8] rfl rfl rfl rfl rfl rfl fun G a w S => ?_
      refine sSkip 8 false 11 13 S rfl rfl rfl hc8 rfl (lb rfl) fun a S => ?_
      exact leafL ⟨rfl, S⟩
    · refine fI 14 undef [(13, undef), (11, .bool (decide (1000000000 < p0.Den)))] 11 [some 10, some 8] rfl rfl rfl rfl rfl rfl fun G a w S => ?_
      refine sSkip 8 false 11 14 S rfl rfl rfl hc8 rfl (lb rfl) fun a S => ?_
      exact leafL ⟨rfl, S⟩
    · refine fI 15 undef [(14, undef), (11, .bool (decide (1000000000 < p0.Den)))] 12 [some 11, some 8] rfl rfl rfl rfl rfl rfl fun G a w S => ?_
      refine sSkip 8 false 11 15 S rfl rfl rfl hc8 rfl (lb rfl) fun a S => ?_
      exact leafL ⟨rfl, S⟩
    · refine fI 16 (.bool true) [(11, .bool (decide (1000000000 < p0.Den))), (15, undef)] 13 [some 8, some 12] rfl rfl rfl rfl rfl rfl fun G a w S => ?_
      refine sPickT (.bool true) S (wN rfl) rfl rfl hc8 rfl rfl (lb rfl) fun a S => ?_
      exact leafL ⟨rfl, S⟩
    · refine fI 17 (.bool true) [(16, .bool true)] 14 [some 13] rfl rfl rfl rfl rfl rfl fun G a w S => ?_
      refine sMove (.bool true) S (wN rfl) (.inl rfl) rfl rfl (lb rfl) fun a S => ?_
      exact leafL ⟨rfl, S⟩
    · refine fI 18 undef [(1, .pointer (some ⟨b2, 0, none⟩)), (17, .bool true)] 15 [none, some 14] rfl rfl rfl rfl rfl rfl fun G a w S => ?_
      refine sSkip 14 false 17 18 S rfl rfl rfl rfl rfl (lb rfl) fun a S => ?_
      exact leafL ⟨rfl, S⟩
    · refine fI 19 undef [(18, undef), (17, .bool true)] 16 [some 15, some 14] rfl rfl rfl rfl rfl rfl fun G a w S => ?_
      refine sSkip 14 false 17 19 S rfl rfl rfl rfl rfl (lb rfl) fun a S => ?_
      exact leafL ⟨rfl, S⟩
    · refine fI 20 undef [(19, undef), (17, .bool true)] 17 [some 16, some 14] rfl rfl rfl rfl rfl rfl fun G a w S => ?_
      refine sSkip 14 false 17 20 S rfl rfl rfl rfl rfl (lb rfl) fun a S => ?_
      exact leafL ⟨rfl, S⟩
    · refine fI 21 undef [(1, .pointer (some ⟨b2, 0, none⟩)), (17, .bool true)] 18 [none, some 14] rfl rfl rfl rfl rfl rfl fun G a w S => ?_
      refine sSkip 14 false 17 21 S rfl rfl rfl rfl rfl (lb rfl) fun a S => ?_
      exact leafL ⟨rfl, S⟩
    · refine fI 22 undef [(21, undef), (17, .bool true)] 19 [some 18, some 14] rfl rfl rfl rfl rfl rfl fun G a w S => ?_
      refine sSkip 14 false 17 22 S rfl rfl rfl rfl rfl (lb rfl) fun a S => ?_
      exact leafL ⟨rfl, S⟩
    · refine fI 23 undef [(22, undef), (17, .bool true)] 20 [some 19, some 14] rfl rfl rfl rfl rfl rfl fun G a w S => ?_
      refine sSkip 14 false 17 23 S rfl rfl rfl rfl rfl (lb rfl) fun a S => ?_
      exact leafL ⟨rfl, S⟩
    · refine fI 24 undef [(20, undef), (23, undef), (17, .bool true)] 21 [some 17, some 20, some 14] rfl rfl rfl rfl rfl rfl fun G a w S => ?_
      refine sSkip 14 false 17 24 S rfl rfl rfl rfl rfl (lb rfl) fun a S => ?_
      exact leafL ⟨rfl, S⟩
    · refine fI 25 undef [(24, undef), (17, .bool true)] 22 [some 21, some 14] rfl rfl rfl rfl rfl rfl fun G a w S => ?_
      refine sSkip 14 false 17 25 S rfl rfl rfl rfl rfl (lb rfl) fun a S => ?_
      exact leafL ⟨rfl, S⟩
    · refine fI 26 (.bool true) [(17, .bool true), (25, undef)] 23 [some 14, some 22] rfl rfl rfl rfl rfl rfl fun G a w S => ?_
      refine sPickT (.bool true) S (wN rfl) rfl rfl rfl rfl rfl (lb rfl) fun a S => ?_
      exact leafL ⟨rfl, S⟩
    exact leafT (⟨true, Option.some.inj h, S.fix [] [] (by decide) rfl rfl rfl⟩)
  obtain ⟨r9, hx10, h⟩ := bindSome h
  rcases iteSome h with ⟨hc11, h⟩ | ⟨hc11, h⟩
  · refine sDraw (nf := []) (W := [(0, 3, .pointer (some ⟨b2, 1, none⟩)), (1, 4, iv p0.Den), (2, 5, .bool (decide (p0.Den < 1))), (3, 6, .bool (decide (p0.Den < 1))), (4, 7, .pointer (some ⟨b2, 1, none⟩)), (5, 8, iv p0.Den), (6, 9, .bool (decide (1000000000 < p0.Den))), (7, 10, .bool (decide (1000000000 < p0.Den))), (8, 11, .bool (decide (1000000000 < p0.Den))), (9, 12, .pointer (some ⟨b2, 0, none⟩)), (10, 13, iv p0.Num), (11, 14, .int .u64 r9), (12, 15, .bool (decide (1000000000 < r9))), (13, 16, .bool (decide (1000000000 < r9))), (14, 17, .bool (decide (1000000000 < r9))), (15, 18, undef), (16, 19, undef), (17, 20, undef), (18, 21, undef), (19, 22, undef), (20, 23, undef), (21, 24, undef), (22, 25, undef), (23, 26, .bool true)]) rfl S ?_
    refine node_by (A := anc_yarn_Check_0) (nf := []) (Y := []) (W := [(0, 3, .pointer (some ⟨b2, 1, none⟩)), (1, 4, iv p0.Den), (2, 5, .bool (decide (p0.Den < 1))), (3, 6, .bool (decide (p0.Den < 1))), (4, 7, .pointer (some ⟨b2, 1, none⟩)), (5, 8, iv p0.Den), (6, 9, .bool (decide (1000000000 < p0.Den))), (7, 10, .bool (decide (1000000000 < p0.Den))), (8, 11, .bool (decide (1000000000 < p0.Den))), (9, 12, .pointer (some ⟨b2, 0, none⟩)), (10, 13, iv p0.Num), (11, 14, .int .u64 r9), (12, 15, .bool (decide (1000000000 < r9))), (13, 16, .bool (decide (1000000000 < r9))), (14, 17, .bool (decide (1000000000 < r9))), (15, 18, undef), (16, 19, undef), (17, 20, undef), (18, 21, undef), (19, 22, undef), (20, 23, undef), (21, 24, undef), (22, 25, undef), (23, 26, .bool true)]) 24 (by kernel_rfl) (by kernel_rfl) (by kernel_rfl) (by kernel_rfl) (by kernel_rfl) [0, 1, 2, 3, 4, 5, 6, 7, 8, 9, 10, 11, 12, 13, 14, 15, 16, 17, 18, 19, 20, 21, 22, 23] (by kernel_rfl) (by decide) (by decide) (aF 0 23 (by decide) ?_ (aF 1 22 (by decide) ?_ (aF 2 21 (by decide) ?_ (aF 3 20 (by decide) ?_ (aF 4 19 (by decide) ?_ (aF 5 18 (by decide) ?_ (aF 6 17 (by decide) ?_ (aF 7 16 (by decide) ?_ (aF 8 15 (by decide) ?_ (aF 9 14 (by decide) ?_ (aF 10 13 (by decide) ?_ (aF 11 12 (by decide) ?_ (aF 12 11 (by decide) ?_ (aF 13 10 (by decide) ?_ (aF 14 9 (by decide) ?_ (aF 15 8 (by decide) ?_ (aF 16 7 (by decide) ?_ (aF 17 6 (by decide) ?_ (aF 18 5 (by decide) ?_ (aF 19 4 (by decide) ?_ (aF 20 3 (by decide) ?_ (aF 21 2 (by decide) ?_ (aF 22 1 (by decide) ?_ (aF 23 0 (by decide) ?_ (trivial))))))))))))))))))))))))) [(26, .bool true)] (fin_of [some 23] rfl (by kernel_rfl) (by kernel_rfl)) (fun _ a w S => ?_)
    · refine fI 3 (.pointer (some ⟨b2, 1, none⟩)) [(1, .pointer (some ⟨b2, 0, none⟩))] 0 [none] rfl rfl rfl rfl rfl rfl fun G a w S => ?_
      refine sField (b := b2) (off := 0) 1 1 S (wN rfl) rfl rfl rfl rfl rfl (lb rfl) fun a S => ?_
      exact leafL ⟨rfl, S⟩
    · refine fI 4 (iv p0.Den) [(3, .pointer (some ⟨b2, 1, none⟩))] 1 [some 0] rfl rfl rfl rfl rfl rfl fun G a w S => ?_
      refine sLoad1 (p := b2) (off := 1) (T := 25) (vs := [iv p0.Num, iv p0.Den]) 0 (iv p0.Den) S (wN rfl) rfl rfl rfl rfl rfl rfl (lb rfl) fun a S => ?_
      exact leafL ⟨rfl, S⟩
    · refine fI 5 (.bool (decide (p0.Den < 1))) [(4, iv p0.Den)] 2 [some 1] rfl rfl rfl rfl rfl rfl fun G a w S => ?_
      refine sBin (.bool (decide (p0.Den < 1))) S (wN rfl) rfl rfl rfl (bLt _ _ _ _ .i64 p0.Den 1) rfl (lb rfl) fun a S => ?_
      exact leafL ⟨rfl, S⟩
    · refine fI 6 (.bool (decide (p0.Den < 1))) [(5, .bool (decide (p0.Den < 1)))] 3 [some 2] rfl rfl rfl rfl rfl rfl fun G a w S => ?_
      refine sMove (.bool (decide (p0.Den < 1))) S (wN rfl) (.inl rfl) rfl rfl (lb rfl) fun a S => ?_
      exact leafL ⟨rfl, S⟩
    · refine fI 7 (.pointer (some ⟨b2, 1, none⟩)) [(1, .pointer (some ⟨b2, 0, none⟩)), (6, .bool (decide (p0.Den < 1)))] 4 [none, some 3] rfl rfl rfl rfl rfl rfl fun G a w S => ?_
      refine sField (b := b2) (off := 0) 1 1 S (wG 3 false 6 rfl rfl rfl hc7) rfl rfl rfl rfl rfl (lb rfl) fun a S => ?_
      exact leafL ⟨rfl, S⟩
    · refine fI 8 (iv p0.Den) [(7, .pointer (some ⟨b2, 1, none⟩)), (6, .bool (decide (p0.Den < 1)))] 5 [some 4, some 3] rfl rfl rfl rfl rfl rfl fun G a w S => ?_
      refine sLoad1 (p := b2) (off := 1) (T := 25) (vs := [iv p0.Num, iv p0.Den]) 0 (iv p0.Den) S (wG 3 false 6 rfl rfl rfl hc7) rfl rfl rfl rfl rfl rfl (lb rfl) fun a S => ?_
      exact leafL ⟨rfl, S⟩
    · refine fI 9 (.bool (decide (1000000000 < p0.Den))) [(8, iv p0.Den), (6, .bool (decide (p0.Den < 1)))] 6 [some 5, some 3] rfl rfl rfl rfl rfl rfl fun G a w S => ?_
      refine sBin (.bool (decide (1000000000 < p0.Den))) S (wG 3 false 6 rfl rfl rfl hc7) rfl rfl rfl (bGt _ _ _ _ .i64 p0.Den 1000000000) rfl (lb rfl) fun a S => ?_
      exact leafL ⟨rfl, S⟩
    · refine fI 10 (.bool (decide (1000000000 < p0.Den))) [(6, .bool (decide (p0.Den < 1))), (9, .bool (decide (1000000000 < p0.Den)))] 7 [some 3, some 6] rfl rfl rfl rfl rfl rfl fun G a w S => ?_
      refine sPickF (.bool (decide (1000000000 < p0.Den))) S (wN rfl) rfl rfl hc7 rfl rfl (lb rfl) fun a S => ?_
      exact leafL ⟨rfl, S⟩
    · refine fI 11 (.bool (decide (1000000000 < p0.Den))) [(10, .bool (decide (1000000000 < p0.Den)))] 8 [some 7] rfl rfl rfl rfl rfl rfl fun G a w S => ?_
      refine sMove (.bool (decide (1000000000 < p0.Den))) S (wN rfl) (.inl rfl) rfl rfl (lb rfl) fun a S => ?_
      exact leafL ⟨rfl, S⟩
    · refine fI 12 (.pointer (some ⟨b2, 0, none⟩)) [(1, .pointer (some ⟨b2, 0, none⟩)), (11, .bool (decide (1000000000 < p0.Den)))] 9 [none, some 8] rfl rfl rfl rfl rfl rfl fun G a w S => ?_
      refine sField (b := b2) (off := 0) 0 0 S (wG 8 false 11 rfl rfl rfl hc8) rfl rfl rfl rfl rfl (lb rfl) fun a S => ?_
      exact leafL ⟨rfl, S⟩
    · refine fI 13 (iv p0.Num) [(12, .pointer (some ⟨b2, 0, none⟩)), (11, .bool (decide (1000000000 < p0.Den)))] 10 [some 9, some 8] rfl rfl rfl rfl rfl rfl fun G a w S => ?_
      refine sLoad1 (p := b2) (off := 0) (T := 25) (vs := [iv p0.Num, iv p0.Den]) 0 (iv p0.Num) S (wG 8 false 11 rfl rfl rfl hc8) rfl rfl rfl rfl rfl rfl (lb rfl) fun a S => ?_
      exact leafL ⟨rfl, S⟩
    · refine fI 14 (.int .u64 r9) [(13, iv p0.Num), (11, .bool (decide (1000000000 < p0.Den)))] 11 [some 10, some 8] rfl rfl rfl rfl rfl rfl fun G a w S => ?_
      have S1 := S.mem
      refine sCallQ (X := Unit) (f := 82) (vs := [iv p0.Num]) (val := fun _ => .int .u64 r9) S (wG 8 false 11 rfl rfl rfl hc8) rfl callee82 rfl (S1.quiet [] rfl) (fun E1 w1 S1 => c_yarn_size E1 w1 p0.Num r9 hx10 S1) rfl (lb rfl) fun _ a w S => ?_
      exact leafL ⟨rfl, S⟩
    · refine fI 15 (.bool (decide (1000000000 < r9))) [(14, .int .u64 r9), (11, .bool (decide (1000000000 < p0.Den)))] 12 [some 11, some 8] rfl rfl rfl rfl rfl rfl fun G a w S => ?_
      refine sBin (.bool (decide (1000000000 < r9))) S (wG 8 false 11 rfl rfl rfl hc8) rfl rfl rfl (bGt _ _ _ _ .u64 r9 1000000000) rfl (lb rfl) fun a S => ?_
      exact leafL ⟨rfl, S⟩
    · refine fI 16 (.bool (decide (1000000000 < r9))) [(11, .bool (decide (1000000000 < p0.Den))), (15, .bool (decide (1000000000 < r9)))] 13 [some 8, some 12] rfl rfl rfl rfl rfl rfl fun G a w S => ?_
      refine sPickF (.bool (decide (1000000000 < r9))) S (wN rfl) rfl rfl hc8 rfl rfl (lb rfl) fun a S => ?_
      exact leafL ⟨rfl, S⟩
    · refine fI 17 (.bool (decide (1000000000 < r9))) [(16, .bool (decide (1000000000 < r9)))] 14 [some 13] rfl rfl rfl rfl rfl rfl fun G a w S => ?_
      refine sMove (.bool (decide (1000000000 < r9))) S (wN rfl) (.inl rfl) rfl rfl (lb rfl) fun a S => ?_
      exact leafL ⟨rfl, S⟩
    · refine fI 18 undef [(1, .pointer (some ⟨b2, 0, none⟩)), (17, .bool (decide (1000000000 < r9)))] 15 [none, some 14] rfl rfl rfl rfl rfl rfl fun G a w S => ?_
      refine sSkip 14 false 17 18 S rfl rfl rfl hc11 rfl (lb rfl) fun a S => ?_
      exact leafL ⟨rfl, S⟩
    · refine fI 19 undef [(18, undef), (17, .bool (decide (1000000000 < r9)))] 16 [some 15, some 14] rfl rfl rfl rfl rfl rfl fun G a w S => ?_
      refine sSkip 14 false 17 19 S rfl rfl rfl hc11 rfl (lb rfl) fun a S => ?_
      exact leafL ⟨rfl, S⟩
    · refine fI 20 undef [(19, undef), (17, .bool (decide (1000000000 < r9)))] 17 [some 16, some 14] rfl rfl rfl rfl rfl rfl fun G a w S => ?_
      refine sSkip 14 false 17 20 S rfl rfl rfl hc11 rfl (lb rfl) fun a S => ?_
      exact leafL ⟨rfl, S⟩
    · refine fI 21 undef [(1, .pointer (some ⟨b2, 0, none⟩)), (17, .bool (decide (1000000000 < r9)))] 18 [none, some 14] rfl rfl rfl rfl rfl rfl fun G a w S => ?_
      refine sSkip 14 false 17 21 S rfl rfl rfl hc11 rfl (lb rfl) fun a S => ?_
      exact leafL ⟨rfl, S⟩
    · refine fI 22 undef [(21, undef), (17, .bool (decide (1000000000 < r9)))] 19 [some 18, some 14] rfl rfl rfl rfl rfl rfl fun G a w S => ?_
      refine sSkip 14 false 17 22 S rfl rfl rfl hc11 rfl (lb rfl) fun a S => ?_
      exact leafL ⟨rfl, S⟩
    · refine fI 23 undef [(22, undef), (17, .bool (decide (1000000000 < r9)))] 20 [some 19, some 14] rfl rfl rfl rfl rfl rfl fun G a w S => ?_
      refine sSkip 14 false 17 23 S rfl rfl rfl hc11 rfl (lb rfl) fun a S => ?_
      exact leafL ⟨rfl, S⟩
    · refine fI 24 undef [(20, undef), (23, undef), (17, .bool (decide (1000000000 < r9)))] 21 [some 17, some 20, some 14] rfl rfl rfl rfl rfl rfl fun G a w S => ?_
      refine sSkip 14 false 17 24 S rfl rfl rfl hc11 rfl (lb rfl) fun a S => ?_
      exact leafL ⟨rfl, S⟩
    · refine fI 25 undef [(24, undef), (17, .bool (decide (1000000000 < r9)))] 22 [some 21, some 14] rfl rfl rfl rfl rfl rfl fun G a w S => ?_
      refine sSkip 14 false 17 25 S rfl rfl rfl hc11 rfl (lb rfl) fun a S => ?_
      exact leafL ⟨rfl, S⟩
    · refine fI 26 (.bool true) [(17, .bool (decide (1000000000 < r9))), (25, undef)] 23 [some 14, some 22] rfl rfl rfl rfl rfl rfl fun G a w S => ?_
      refine sPickT (.bool true) S (wN rfl) rfl rfl hc11 rfl rfl (lb rfl) fun a S => ?_
      exact leafL ⟨rfl, S⟩
    exact leafT (⟨true, Option.some.inj h, S.fix [] [] (by decide) rfl rfl rfl⟩)
  obtain ⟨r12, hx13, h⟩ := bindSome h
  refine sDraw (nf := []) (W := [(0, 3, .pointer (some ⟨b2, 1, none⟩)), (1, 4, iv p0.Den), (2, 5, .bool (decide (p0.Den < 1))), (3, 6, .bool (decide (p0.Den < 1))), (4, 7, .pointer (some ⟨b2, 1, none⟩)), (5, 8, iv p0.Den), (6, 9, .bool (decide (1000000000 < p0.Den))), (7, 10, .bool (decide (1000000000 < p0.Den))), (8, 11, .bool (decide (1000000000 < p0.Den))), (9, 12, .pointer (some ⟨b2, 0, none⟩)), (10, 13, iv p0.Num), (11, 14, .int .u64 r9), (12, 15, .bool (decide (1000000000 < r9))), (13, 16, .bool (decide (1000000000 < r9))), (14, 17, .bool (decide (1000000000 < r9))), (15, 18, .pointer (some ⟨b2, 0, none⟩)), (16, 19, iv p0.Num), (17, 20, .int .u64 r9), (18, 21, .pointer (some ⟨b2, 1, none⟩)), (19, 22, iv p0.Den), (20, 23, .int .u64 (IntKind.u64.wrap p0.Den)), (21, 24, .int .u64 r12), (22, 25, .bool (r12 != 1)), (23, 26, .bool (r12 != 1))]) rfl S ?_
  refine node_by (A := anc_yarn_Check_0) (nf := []) (Y := []) (W := [(0, 3, .pointer (some ⟨b2, 1, none⟩)), (1, 4, iv p0.Den), (2, 5, .bool (decide (p0.Den < 1))), (3, 6, .bool (decide (p0.Den < 1))), (4, 7, .pointer (some ⟨b2, 1, none⟩)), (5, 8, iv p0.Den), (6, 9, .bool (decide (1000000000 < p0.Den))), (7, 10, .bool (decide (1000000000 < p0.Den))), (8, 11, .bool (decide (1000000000 < p0.Den))), (9, 12, .pointer (some ⟨b2, 0, none⟩)), (10, 13, iv p0.Num), (11, 14, .int .u64 r9), (12, 15, .bool (decide (1000000000 < r9))), (13, 16, .bool (decide (1000000000 < r9))), (14, 17, .bool (decide (1000000000 < r9))), (15, 18, .pointer (some ⟨b2, 0, none⟩)), (16, 19, iv p0.Num), (17, 20, .int .u64 r9), (18, 21, .pointer (some ⟨b2, 1, none⟩)), (19, 22, iv p0.Den), (20, 23, .int .u64 (IntKind.u64.wrap p0.Den)), (21, 24, .int .u64 r12), (22, 25, .bool (r12 != 1)), (23, 26, .bool (r12 != 1))]) 24 (by kernel_rfl) (by kernel_rfl) (by kernel_rfl) (by kernel_rfl) (by kernel_rfl) [0, 1, 2, 3, 4, 5, 6, 7, 8, 9, 10, 11, 12, 13, 14, 15, 16, 17, 18, 19, 20, 21, 22, 23] (by kernel_rfl) (by decide) (by decide) (aF 0 23 (by decide) ?_ (aF 1 22 (by decide) ?_ (aF 2 21 (by decide) ?_ (aF 3 20 (by decide) ?_ (aF 4 19 (by decide) ?_ (aF 5 18 (by decide) ?_ (aF 6 17 (by decide) ?_ (aF 7 16 (by decide) ?_ (aF 8 15 (by decide) ?_ (aF 9 14 (by decide) ?_ (aF 10 13 (by decide) ?_ (aF 11 12 (by decide) ?_ (aF 12 11 (by decide) ?_ (aF 13 10 (by decide) ?_ (aF 14 9 (by decide) ?_ (aF 15 8 (by decide) ?_ (aF 16 7 (by decide) ?_ (aF 17 6 (by decide) ?_ (aF 18 5 (by decide) ?_ (aF 19 4 (by decide) ?_ (aF 20 3 (by decide) ?_ (aF 21 2 (by decide) ?_ (aF 22 1 (by decide) ?_ (aF 23 0 (by decide) ?_ (trivial))))))))))))))))))))))))) [(26, .bool (r12 != 1))] (fin_of [some 23] rfl (by kernel_rfl) (by kernel_rfl)) (fun _ a w S => ?_)
  · refine fI 3 (.pointer (some ⟨b2, 1, none⟩)) [(1, .pointer (some ⟨b2, 0, none⟩))] 0 [none] rfl rfl rfl rfl rfl rfl fun G a w S => ?_
    refine sField (b := b2) (off := 0) 1 1 S (wN rfl) rfl rfl rfl rfl rfl (lb rfl) fun a S => ?_
    exact leafL ⟨rfl, S⟩
  · refine fI 4 (iv p0.Den) [(3, .pointer (some ⟨b2, 1, none⟩))] 1 [some 0] rfl rfl rfl rfl rfl rfl fun G a w S => ?_
    refine sLoad1 (p := b2) (off := 1) (T := 25) (vs := [iv p0.Num, iv p0.Den]) 0 (iv p0.Den) S (wN rfl) rfl rfl rfl rfl rfl rfl (lb rfl) fun a S => ?_
    exact leafL ⟨rfl, S⟩
  · refine fI 5 (.bool (decide (p0.Den < 1))) [(4, iv p0.Den)] 2 [some 1] rfl rfl rfl rfl rfl rfl fun G a w S => ?_
    refine sBin (.bool (decide (p0.Den < 1))) S (wN rfl) rfl rfl rfl (bLt _ _ _ _ .i64 p0.Den 1) rfl (lb rfl) fun a S => ?_
    exact leafL ⟨rfl, S⟩
  · refine fI 6 (.bool (decide (p0.Den < 1))) [(5, .bool (decide (p0.Den < 1)))] 3 [some 2] rfl rfl rfl rfl rfl rfl fun G a w S => ?_
    refine sMove (.bool (decide (p0.Den < 1))) S (wN rfl) (.inl rfl) rfl rfl (lb rfl) fun a S => ?_
    exact leafL ⟨rfl, S⟩
  · refine fI 7 (.pointer (some ⟨b2, 1, none⟩)) [(1, .pointer (some ⟨b2, 0, none⟩)), (6, .bool (decide (p0.Den < 1)))] 4 [none, some 3] rfl rfl rfl rfl rfl rfl fun G a w S => ?_
    refine sField (b := b2) (off := 0) 1 1 S (wG 3 false 6 rfl rfl rfl hc7) rfl rfl rfl rfl rfl (lb rfl) fun a S => ?_
    exact leafL ⟨rfl, S⟩
  · refine fI 8 (iv p0.Den) [(7, .pointer (some ⟨b2, 1, none⟩)), (6, .bool (decide (p0.Den < 1)))] 5 [some 4, some 3] rfl rfl rfl rfl rfl rfl fun G a w S => ?_
    refine sLoad1 (p := b2) (off := 1) (T := 25) (vs := [iv p0.Num, iv p0.Den]) 0 (iv p0.Den) S (wG 3 false 6 rfl rfl rfl hc7) rfl rfl rfl rfl rfl rfl (lb rfl) fun a S => ?_
    exact leafL ⟨rfl, S⟩
  · refine fI 9 (.bool (decide (1000000000 < p0.Den))) [(8, iv p0.Den), (6, .bool (decide (p0.Den < 1)))] 6 [some 5, some 3] rfl rfl rfl rfl rfl rfl fun G a w S => ?_
    refine sBin (.bool (decide (1000000000 < p0.Den))) S (wG 3 false 6 rfl rfl rfl hc7) rfl rfl rfl (bGt _ _ _ _ .i64 p0.Den 1000000000) rfl (lb rfl) fun a S => ?_
    exact leafL ⟨rfl, S⟩
  · refine fI 10 (.bool (decide (1000000000 < p0.Den))) [(6, .bool (decide (p0.Den < 1))), (9, .bool (decide (1000000000 < p0.Den)))] 7 [some 3, some 6] rfl rfl rfl rfl rfl rfl fun G a w S => ?_
    refine sPickF (.bool (decide (1000000000 < p0.Den))) S (wN rfl) rfl rfl hc7 rfl rfl (lb rfl) fun a S => ?_
    exact leafL ⟨rfl, S⟩
  · refine fI 11 (.bool (decide (1000000000 < p0.Den))) [(10, .bool (decide (1000000000 < p0.Den)))] 8 [some 7] rfl rfl rfl rfl rfl rfl fun G a w S => ?_
    refine sMove (.bool (decide (1000000000 < p0.Den))) S (wN rfl) (.inl rfl) rfl rfl (lb rfl) fun a S => ?_
    exact leafL ⟨rfl, S⟩
  · refine fI 12 (.pointer (some ⟨b2, 0, none⟩)) [(1, .pointer (some ⟨b2, 0, none⟩)), (11, .bool (decide (1000000000 < p0.Den)))] 9 [none, some 8] rfl rfl rfl rfl rfl rfl fun G a w S => ?_
    refine sField (b := b2) (off := 0) 0 0 S (wG 8 false 11 rfl rfl rfl hc8) rfl rfl rfl rfl rfl (lb rfl) fun a S => ?_
    exact leafL ⟨rfl, S⟩
  · refine fI 13 (iv p0.Num) [(12, .pointer (some ⟨b2, 0, none⟩)), (11, .bool (decide (1000000000 < p0.Den)))] 10 [some 9, some 8] rfl rfl rfl rfl rfl rfl fun G a w S => ?_
    refine sLoad1 (p := b2) (off := 0) (T := 25) (vs := [iv p0.Num, iv p0.Den]) 0 (iv p0.Num) S (wG 8 false 11 rfl rfl rfl hc8) rfl rfl rfl rfl rfl rfl (lb rfl) fun a S => ?_
    exact leafL ⟨rfl, S⟩
  · refine fI 14 (.int .u64 r9) [(13, iv p0.Num), (11, .bool (decide (1000000000 < p0.Den)))] 11 [some 10, some 8] rfl rfl rfl rfl rfl rfl fun G a w S => ?_
    have S1 := S.mem
    refine sCallQ (X := Unit) (f := 82) (vs := [iv p0.Num]) (val := fun _ => .int .u64 r9) S (wG 8 false 11 rfl rfl rfl hc8) rfl callee82 rfl (S1.quiet [] rfl) (fun E1 w1 S1 => c_yarn_size E1 w1 p0.Num r9 hx10 S1) rfl (lb rfl) fun _ a w S => ?_
    exact leafL ⟨rfl, S⟩
  · refine fI 15 (.bool (decide (1000000000 < r9))) [(14, .int .u64 r9), (11, .bool (decide (1000000000 < p0.Den)))] 12 [some 11, some 8] rfl rfl rfl rfl rfl rfl fun G a w S => ?_
    refine sBin (.bool (decide (1000000000 < r9))) S (wG 8 false 11 rfl rfl rfl hc8) rfl rfl rfl (bGt _ _ _ _ .u64 r9 1000000000) rfl (lb rfl) fun a S => ?_
    exact leafL ⟨rfl, S⟩
  · refine fI 16 (.bool (decide (1000000000 < r9))) [(11, .bool (decide (1000000000 < p0.Den))), (15, .bool (decide (1000000000 < r9)))] 13 [some 8, some 12] rfl rfl rfl rfl rfl rfl fun G a w S => ?_
    refine sPickF (.bool (decide (1000000000 < r9))) S (wN rfl) rfl rfl hc8 rfl rfl (lb rfl) fun a S => ?_
    exact leafL ⟨rfl, S⟩
  · refine fI 17 (.bool (decide (1000000000 < r9))) [(16, .bool (decide (1000000000 < r9)))] 14 [some 13] rfl rfl rfl rfl rfl rfl fun G a w S => ?_
    refine sMove (.bool (decide (1000000000 < r9))) S (wN rfl) (.inl rfl) rfl rfl (lb rfl) fun a S => ?_
    exact leafL ⟨rfl, S⟩
  · refine fI 18 (.pointer (some ⟨b2, 0, none⟩)) [(1, .pointer (some ⟨b2, 0, none⟩)), (17, .bool (decide (1000000000 < r9)))] 15 [none, some 14] rfl rfl rfl rfl rfl rfl fun G a w S => ?_
    refine sField (b := b2) (off := 0) 0 0 S (wG 14 false 17 rfl rfl rfl hc11) rfl rfl rfl rfl rfl (lb rfl) fun a S => ?_
    exact leafL ⟨rfl, S⟩
  · refine fI 19 (iv p0.Num) [(18, .pointer (some ⟨b2, 0, none⟩)), (17, .bool (decide (1000000000 < r9)))] 16 [some 15, some 14] rfl rfl rfl rfl rfl rfl fun G a w S => ?_
    refine sLoad1 (p := b2) (off := 0) (T := 25) (vs := [iv p0.Num, iv p0.Den]) 0 (iv p0.Num) S (wG 14 false 17 rfl rfl rfl hc11) rfl rfl rfl rfl rfl rfl (lb rfl) fun a S => ?_
    exact leafL ⟨rfl, S⟩
  · refine fI 20 (.int .u64 r9) [(19, iv p0.Num), (17, .bool (decide (1000000000 < r9)))] 17 [some 16, some 14] rfl rfl rfl rfl rfl rfl fun G a w S => ?_
    have S1 := S.mem
    refine sCallQ (X := Unit) (f := 82) (vs := [iv p0.Num]) (val := fun _ => .int .u64 r9) S (wG 14 false 17 rfl rfl rfl hc11) rfl callee82 rfl (S1.quiet [] rfl) (fun E1 w1 S1 => c_yarn_size E1 w1 p0.Num r9 hx10 S1) rfl (lb rfl) fun _ a w S => ?_
    exact leafL ⟨rfl, S⟩
  · refine fI 21 (.pointer (some ⟨b2, 1, none⟩)) [(1, .pointer (some ⟨b2, 0, none⟩)), (17, .bool (decide (1000000000 < r9)))] 18 [none, some 14] rfl rfl rfl rfl rfl rfl fun G a w S => ?_
    refine sField (b := b2) (off := 0) 1 1 S (wG 14 false 17 rfl rfl rfl hc11) rfl rfl rfl rfl rfl (lb rfl) fun a S => ?_
    exact leafL ⟨rfl, S⟩
  · refine fI 22 (iv p0.Den) [(21, .pointer (some ⟨b2, 1, none⟩)), (17, .bool (decide (1000000000 < r9)))] 19 [some 18, some 14] rfl rfl rfl rfl rfl rfl fun G a w S => ?_
    refine sLoad1 (p := b2) (off := 1) (T := 25) (vs := [iv p0.Num, iv p0.Den]) 0 (iv p0.Den) S (wG 14 false 17 rfl rfl rfl hc11) rfl rfl rfl rfl rfl rfl (lb rfl) fun a S => ?_
    exact leafL ⟨rfl, S⟩
  · refine fI 23 (.int .u64 (IntKind.u64.wrap p0.Den)) [(22, iv p0.Den), (17, .bool (decide (1000000000 < r9)))] 20 [some 19, some 14] rfl rfl rfl rfl rfl rfl fun G a w S => ?_
    refine sConv (k := .i64) (k2 := .u64) (b := p0.Den) S (wG 14 false 17 rfl rfl rfl hc11) rfl Try.underlying2 Try.underlying144 rfl rfl (lb rfl) fun a S => ?_
    exact leafL ⟨rfl, S⟩
  · refine fI 24 (.int .u64 r12) [(20, .int .u64 r9), (23, .int .u64 (IntKind.u64.wrap p0.Den)), (17, .bool (decide (1000000000 < r9)))] 21 [some 17, some 20, some 14] rfl rfl rfl rfl rfl rfl fun G a w S => ?_
    have S1 := S.mem
    refine sCallQ (X := Unit) (f := 81) (vs := [.int .u64 r9, .int .u64 (IntKind.u64.wrap p0.Den)]) (val := fun _ => .int .u64 r12) S (wG 14 false 17 rfl rfl rfl hc11) rfl callee81 rfl (S1.quiet [] rfl) (fun E1 w1 S1 => c_yarn_gcd E1 w1 r9 (IntKind.u64.wrap p0.Den) r12 hx13 S1) rfl (lb rfl) fun _ a w S => ?_
    exact leafL ⟨rfl, S⟩
  · refine fI 25 (.bool (r12 != 1)) [(24, .int .u64 r12), (17, .bool (decide (1000000000 < r9)))] 22 [some 21, some 14] rfl rfl rfl rfl rfl rfl fun G a w S => ?_
    refine sBin (.bool (r12 != 1)) S (wG 14 false 17 rfl rfl rfl hc11) rfl rfl rfl (bNe _ _ _ _ .u64 r12 1) rfl (lb rfl) fun a S => ?_
    exact leafL ⟨rfl, S⟩
  · refine fI 26 (.bool (r12 != 1)) [(17, .bool (decide (1000000000 < r9))), (25, .bool (r12 != 1))] 23 [some 14, some 22] rfl rfl rfl rfl rfl rfl fun G a w S => ?_
    refine sPickF (.bool (r12 != 1)) S (wN rfl) rfl rfl hc11 rfl rfl (lb rfl) fun a S => ?_
    exact leafL ⟨rfl, S⟩
  exact leafT (⟨r12 != 1, Option.some.inj h, S.fix [] [] (by decide) rfl rfl rfl⟩)

end Go.Proofs.Ytdbgkakmhlmpbaa
namespace Go.Proofs.Ytdbgkakmhlmpbaa
open Go.RowKit
set_option linter.unusedVariables false

noncomputable def F_yarn_counted (p0 : api_Count) : Option Int :=
  Option.bind (F_yarn_factors p0.System) fun r5 =>
  Option.bind (α := Bool) (
    if !r5.2.2.2 then
      some true
    else
      Option.bind (F_yarn_Check p0.N) fun r11 =>
      if r11 != 0 then
        some true
      else
        some (decide (p0.N.Num ≤ 0))) fun o7 =>
  if o7 then
    some 8
  else
    some 0
set_option maxHeartbeats 4000000 in
set_option maxRecDepth 100000 in
theorem c_yarn_counted (E : Nat → Prop) (w0 : World) (p0 : api_Count) (v0 : Value) (r : Int) (h : F_yarn_counted p0 = some r) (S : St0 E [] w0 w0 [] [fRep r_api_Count (v0) p0]) :
    Calls Try.prog 58 #[v0] w0 (Ret (X := Unit) E [] w0 (fun _ => .int .i64 r) (fun _ => []) (fun _ => [])) := by
  unfold F_yarn_counted at h
  obtain rfl : v0 = .agg #[.int .u8 p0.System, iv p0.N.Num, iv p0.N.Den] := S.know (i := 0) (e := fRep r_api_Count (v0) p0) rfl
  refine sEnter (args := [.agg #[.int .u8 p0.System, iv p0.N.Num, iv p0.N.Den]]) 29 Try.func58 rfl rfl (by simp) S (fun a S => ?_)
  refine sSeq (fun K1 hK1 => ?_)
  refine sRegion ?_
  refine sBox (v := .agg #[.int .u8 p0.System, iv p0.N.Num, iv p0.N.Den]) S (wN rfl) rfl rfl [.int .u8 p0.System, iv p0.N.Num, iv p0.N.Den] rfl rfl (lb rfl) fun a b2 w S => ?_
  refine sMove (iv 0) S (wN rfl) (.inr rfl) rfl rfl (lb rfl) fun a S => ?_
  refine leafL (leafT (hK1 _ _ ?_))
  refine sSeq (fun K3 hK3 => ?_)
  refine sSeq (fun K4 hK4 => ?_)
  refine sRegion ?_
  refine sField (b := b2) (off := 0) 0 0 S (wN rfl) rfl rfl rfl rfl rfl (lb rfl) fun a S => ?_
  refine sLoad1 (p := b2) (off := 0) (T := 27) (vs := [.int .u8 p0.System, iv p0.N.Num, iv p0.N.Den]) 0 (.int .u8 p0.System) S (wN rfl) rfl rfl rfl rfl rfl rfl (lb rfl) fun a S => ?_
  obtain ⟨r5, hx6, h⟩ := bindSome h
  have S1 := S.mem
  refine sCallQ (X := Unit) (f := 79) (vs := [.int .u8 p0.System]) (val := fun _ => .tuple #[iv r5.1, iv r5.2.1, .bool r5.2.2.1, .bool r5.2.2.2]) S (wN rfl) rfl callee79 rfl (S1.quiet [] rfl) (fun E1 w1 S1 => c_yarn_factors E1 w1 p0.System r5 hx6 S1) rfl (lb rfl) fun _ a w S => ?_
  refine sMove (.tuple #[iv r5.1, iv r5.2.1, .bool r5.2.2.1, .bool r5.2.2.2]) S (wN rfl) (.inl rfl) rfl rfl (lb rfl) fun a S => ?_
  refine sExtract (vs := [iv r5.1, iv r5.2.1, .bool r5.2.2.1, .bool r5.2.2.2]) (iv r5.1) S (wN rfl) rfl rfl rfl rfl (lb rfl) fun a S => ?_
  refine sExtract (vs := [iv r5.1, iv r5.2.1, .bool r5.2.2.1, .bool r5.2.2.2]) (iv r5.2.1) S (wN rfl) rfl rfl rfl rfl (lb rfl) fun a S => ?_
  refine sExtract (vs := [iv r5.1, iv r5.2.1, .bool r5.2.2.1, .bool r5.2.2.2]) (.bool r5.2.2.1) S (wN rfl) rfl rfl rfl rfl (lb rfl) fun a S => ?_
  refine sExtract (vs := [iv r5.1, iv r5.2.1, .bool r5.2.2.1, .bool r5.2.2.2]) (.bool r5.2.2.2) S (wN rfl) rfl rfl rfl rfl (lb rfl) fun a S => ?_
  refine sMove (iv r5.1) S (wN rfl) (.inr rfl) rfl rfl (lb rfl) fun a S => ?_
  refine sMove (iv r5.2.1) S (wN rfl) (.inr rfl) rfl rfl (lb rfl) fun a S => ?_
  refine sMove (.bool r5.2.2.1) S (wN rfl) (.inr rfl) rfl rfl (lb rfl) fun a S => ?_
  refine sMove (.bool r5.2.2.2) S (wN rfl) (.inr rfl) rfl rfl (lb rfl) fun a S => ?_
  refine leafL (leafT (hK4 _ _ ?_))
  obtain ⟨t8, h, g9⟩ := bindSome h
  refine sCut (fun a w => ∃ o7, o7 = t8 ∧ St [] E [] w0 29 a w [(28, .bool o7)] [] []) ?_ (fun a w hI => ?_)
  rotate_left
  · obtain ⟨o7, rfl, S⟩ := hI
    have h := g9
    clear g9
    try dsimp only at h
    rcases iteSome h with ⟨hc14, h⟩ | ⟨hc14, h⟩
    · refine sCondT S rfl hc14 ?_
      refine sSeq (fun K15 hK15 => ?_)
      refine sRegion ?_
      refine sMove (iv 8) S (wN rfl) (.inr rfl) rfl rfl (lb rfl) fun a S => ?_
      refine leafL (leafT (hK15 _ _ ?_))
      obtain rfl := Option.some.inj h
      exact wp_ret (rThen (sRet (iv 8) S (rsl1 rfl (rvT (t := 2) (v := iv 8) S rfl)) ⟨(), rfl, S.mem.sel [] [] (by decide) rfl rfl⟩))
    refine sCondF S rfl hc14 ?_
    refine wp_skip (leafT (hK3 _ _ ?_))
    refine sSeq (fun K16 hK16 => ?_)
    refine sRegion ?_
    refine sMove (iv 0) S (wN rfl) (.inr rfl) rfl rfl (lb rfl) fun a S => ?_
    refine leafL (leafT (hK16 _ _ ?_))
    obtain rfl := Option.some.inj h
    exact wp_ret (sRet (iv 0) S (rsl1 rfl (rvT (t := 2) (v := iv 0) S rfl)) ⟨(), rfl, S.mem.sel [] [] (by decide) rfl rfl⟩)
  refine sRegion ?_
  refine sMove (.bool r5.2.2.2) S (wN rfl) (.inl rfl) rfl rfl (lb rfl) fun a S => ?_
  refine sNot (b := r5.2.2.2) S (wN rfl) rfl rfl rfl (lb rfl) fun a S => ?_
  refine sMove (.bool (!r5.2.2.2)) S (wN rfl) (.inl rfl) rfl rfl (lb rfl) fun a S => ?_
  rcases iteSome h with ⟨hc10, h⟩ | ⟨hc10, h⟩
  · refine sSkip 2 false 17 18 S rfl rfl rfl hc10 rfl (lb rfl) fun a S => ?_
    refine sSkip 2 false 17 19 S rfl rfl rfl hc10 rfl (lb rfl) fun a S => ?_
    refine sSkip 2 false 17 20 S rfl rfl rfl hc10 rfl (lb rfl) fun a S => ?_
    refine sSkip 2 false 17 21 S rfl rfl rfl hc10 rfl (lb rfl) fun a S => ?_
    refine sPickT (.bool true) S (wN rfl) rfl rfl hc10 rfl rfl (lb rfl) fun a S => ?_
    refine sMove (.bool true) S (wN rfl) (.inl rfl) rfl rfl (lb rfl) fun a S => ?_
    refine sSkip 8 false 23 24 S rfl rfl rfl rfl rfl (lb rfl) fun a S => ?_
    refine sSkip 8 false 23 25 S rfl rfl rfl rfl rfl (lb rfl) fun a S => ?_
    refine sSkip 8 false 23 26 S rfl rfl rfl rfl rfl (lb rfl) fun a S => ?_
    refine sSkip 8 false 23 27 S rfl rfl rfl rfl rfl (lb rfl) fun a S => ?_
    refine sPickT (.bool true) S (wN rfl) rfl rfl rfl rfl rfl (lb rfl) fun a S => ?_
    exact leafL (leafT (⟨true, Option.some.inj h, S.fix [] [] (by decide) rfl rfl rfl⟩))
  refine sField (b := b2) (off := 0) 1 1 S (wG 2 false 17 rfl rfl rfl hc10) rfl rfl rfl rfl rfl (lb rfl) fun a S => ?_
  refine sLoadN (p := b2) (off := 1) (T := 27) (vs := [.int .u8 p0.System, iv p0.N.Num, iv p0.N.Den]) 0 [iv p0.N.Num, iv p0.N.Den] S (wG 2 false 17 rfl rfl rfl hc10) rfl rfl rfl rfl rfl rfl rfl (lb rfl) fun a S => ?_
  obtain ⟨r11, hx12, h⟩ := bindSome h
  have S1 := S.mem
  have S1 := S1.learn (fRep r_api_Ratio (.agg #[iv p0.N.Num, iv p0.N.Den]) p0.N) rfl
  refine sCallQ (X := Unit) (f := 80) (vs := [.agg #[iv p0.N.Num, iv p0.N.Den]]) (val := fun _ => iv r11) S (wG 2 false 17 rfl rfl rfl hc10) rfl callee80 rfl (S1.quiet [0] rfl) (fun E1 w1 S1 => c_yarn_Check E1 w1 p0.N (.agg #[iv p0.N.Num, iv p0.N.Den]) r11 hx12 S1) rfl (lb rfl) fun _ a w S => ?_
  refine sBin (.bool (r11 != 0)) S (wG 2 false 17 rfl rfl rfl hc10) rfl rfl rfl (bNe _ _ _ _ .i64 r11 0) rfl (lb rfl) fun a S => ?_
  refine sPickF (.bool (r11 != 0)) S (wN rfl) rfl rfl hc10 rfl rfl (lb rfl) fun a S => ?_
  refine sMove (.bool (r11 != 0)) S (wN rfl) (.inl rfl) rfl rfl (lb rfl) fun a S => ?_
  rcases iteSome h with ⟨hc13, h⟩ | ⟨hc13, h⟩
  · refine sSkip 8 false 23 24 S rfl rfl rfl hc13 rfl (lb rfl) fun a S => ?_
    refine sSkip 8 false 23 25 S rfl rfl rfl hc13 rfl (lb rfl) fun a S => ?_
    refine sSkip 8 false 23 26 S rfl rfl rfl hc13 rfl (lb rfl) fun a S => ?_
    refine sSkip 8 false 23 27 S rfl rfl rfl hc13 rfl (lb rfl) fun a S => ?_
    refine sPickT (.bool true) S (wN rfl) rfl rfl hc13 rfl rfl (lb rfl) fun a S => ?_
    exact leafL (leafT (⟨true, Option.some.inj h, S.fix [] [] (by decide) rfl rfl rfl⟩))
  refine sField (b := b2) (off := 0) 1 1 S (wG 8 false 23 rfl rfl rfl hc13) rfl rfl rfl rfl rfl (lb rfl) fun a S => ?_
  refine sField (b := b2) (off := 1) 0 1 S (wG 8 false 23 rfl rfl rfl hc13) rfl rfl rfl rfl rfl (lb rfl) fun a S => ?_
  refine sLoad1 (p := b2) (off := 1) (T := 27) (vs := [.int .u8 p0.System, iv p0.N.Num, iv p0.N.Den]) 0 (iv p0.N.Num) S (wG 8 false 23 rfl rfl rfl hc13) rfl rfl rfl rfl rfl rfl (lb rfl) fun a S => ?_
  refine sBin (.bool (decide (p0.N.Num ≤ 0))) S (wG 8 false 23 rfl rfl rfl hc13) rfl rfl rfl (bLe _ _ _ _ .i64 p0.N.Num 0) rfl (lb rfl) fun a S => ?_
  refine sPickF (.bool (decide (p0.N.Num ≤ 0))) S (wN rfl) rfl rfl hc13 rfl rfl (lb rfl) fun a S => ?_
  exact leafL (leafT (⟨decide (p0.N.Num ≤ 0), Option.some.inj h, S.fix [] [] (by decide) rfl rfl rfl⟩))

end Go.Proofs.Ytdbgkakmhlmpbaa
namespace Go.Proofs.Ytdbgkakmhlmpbaa
open Go.RowKit
set_option linter.unusedVariables false

def anc_yarn_Make_0 : List (List Nat) := [[], [], [0, 1], [], [], [3, 4], [0, 1, 2], [0, 1, 2, 3, 4, 5, 6]]
noncomputable def F_yarn_Make (p0 : Int) (p1 : Int) : Option (api_Ratio × Int) :=
  if p1 == 0 then
    some ((api_Ratio.mk 0 0), 18)
  else
    Option.bind (F_yarn_size p0) fun r8 =>
    Option.bind (F_yarn_size p1) fun r10 =>
    Option.bind (F_yarn_gcd r8 r10) fun r13 =>
    Option.bind (quoK .u64 r8 r13) fun z16 =>
    Option.bind (quoK .u64 r10 r13) fun z18 =>
    Option.bind (α := Bool) (
      if decide (1000000000 < z16) then
        some true
      else
        some (decide (1000000000 < z18))) fun o21 =>
    if o21 then
      some ((api_Ratio.mk 0 0), 16)
    else
      Option.bind (α := Int) (
        if (decide (p0 < 0)) != (decide (p1 < 0)) then
          some (w64 (0 - (IntKind.i64.wrap z16)))
        else
          some (IntKind.i64.wrap z16)) fun o29 =>
      some ((api_Ratio.mk o29 (IntKind.i64.wrap z18)), 0)
def c_yarn_Make_val (r : (api_Ratio × Int)) (x : Value) : Value := .tuple #[x, .int .i64 r.2]
def c_yarn_Make_D (r : (api_Ratio × Int)) (x : Value) : List Fact := [fRep r_api_Ratio x r.1]
set_option maxHeartbeats 4000000 in
set_option maxRecDepth 100000 in
theorem c_yarn_Make (E : Nat → Prop) (w0 : World) (p0 : Int) (p1 : Int) (r : (api_Ratio × Int)) (h : F_yarn_Make p0 p1 = some r) (S : St0 E [] w0 w0 [] []) :
    Calls Try.prog 60 #[iv p0, iv p1] w0 (Ret (X := Value) E [] w0 (c_yarn_Make_val r) (fun _ => []) (c_yarn_Make_D r)) := by
  unfold F_yarn_Make at h
  refine sEnter (args := [iv p0, iv p1]) 48 Try.func60 rfl rfl (by simp) S (fun a S => ?_)
  refine sSeq (fun K1 hK1 => ?_)
  refine sRegion ?_
  refine sAlloc (.agg #[iv 0, iv 0]) S (wN rfl) rfl rfl [iv 0, iv 0] rfl rfl (lb rfl) fun a b2 w S => ?_
  refine sMove (iv 0) S (wN rfl) (.inr rfl) rfl rfl (lb rfl) fun a S => ?_
  refine leafL (leafT (hK1 _ _ ?_))
  refine sSeq (fun K3 hK3 => ?_)
  refine sSeq (fun K4 hK4 => ?_)
  refine sRegion ?_
  refine sMove (iv p1) S (wN rfl) (.inl rfl) rfl rfl (lb rfl) fun a S => ?_
  refine sBin (.bool (p1 == 0)) S (wN rfl) rfl rfl rfl (bEq _ _ _ _ .i64 p1 0) rfl (lb rfl) fun a S => ?_
  refine leafL (leafT (hK4 _ _ ?_))
  rcases iteSome h with ⟨hc5, h⟩ | ⟨hc5, h⟩
  · refine sCondT S rfl hc5 ?_
    refine sSeq (fun K6 hK6 => ?_)
    refine sRegion ?_
    refine sBuild [] [iv 0, iv 0] S (wN rfl) rfl rfl rfl rfl (lb rfl) fun a S => ?_
    refine sStore (p := b2) (off := 0) (T := 25) (vs := [iv 0, iv 0]) (v := .agg #[iv 0, iv 0]) 0 [iv 0, iv 0] S (wN rfl) rfl rfl rfl rfl rfl rfl rfl (by simp) rfl fun a w S => ?_
    refine sMove (iv 18) S (wN rfl) (.inr rfl) rfl rfl (lb rfl) fun a S => ?_
    refine leafL (leafT (hK6 _ _ ?_))
    obtain rfl := Option.some.inj h
    have S := S.learn (fRep r_api_Ratio (.agg #[iv 0, iv 0]) (api_Ratio.mk 0 0)) rfl
    exact wp_ret (rThen (sRet (.tuple #[.agg #[iv 0, iv 0], iv 18]) S (rsl2 rfl (rvN (c := 4) (t := 25) (T := 25) (p := b2) 0 [iv 0, iv 0] S rfl rfl rfl rfl) (rvT (t := 5) (v := iv 18) S rfl)) ⟨(.agg #[iv 0, iv 0]), rfl, S.mem.sel [] [0] (by decide) rfl rfl⟩))
  refine sCondF S rfl hc5 ?_
  refine wp_skip (leafT (hK3 _ _ ?_))
  refine sSeq (fun K7 hK7 => ?_)
  refine sRegion ?_
  refine sMove (iv p0) S (wN rfl) (.inl rfl) rfl rfl (lb rfl) fun a S => ?_
  obtain ⟨r8, hx9, h⟩ := bindSome h
  have S1 := S.mem
  refine sCallQ (X := Unit) (f := 82) (vs := [iv p0]) (val := fun _ => .int .u64 r8) S (wN rfl) rfl callee82 rfl (S1.quiet [] rfl) (fun E1 w1 S1 => c_yarn_size E1 w1 p0 r8 hx9 S1) rfl (lb rfl) fun _ a w S => ?_
  refine sMove (iv p1) S (wN rfl) (.inl rfl) rfl rfl (lb rfl) fun a S => ?_
  obtain ⟨r10, hx11, h⟩ := bindSome h
  have S1 := S.mem
  refine sCallQ (X := Unit) (f := 82) (vs := [iv p1]) (val := fun _ => .int .u64 r10) S (wN rfl) rfl callee82 rfl (S1.quiet [] rfl) (fun E1 w1 S1 => c_yarn_size E1 w1 p1 r10 hx11 S1) rfl (lb rfl) fun _ a w S => ?_
  refine sMove (.int .u64 r8) S (wN rfl) (.inr rfl) rfl rfl (lb rfl) fun a S => ?_
  refine sMove (.int .u64 r10) S (wN rfl) (.inr rfl) rfl rfl (lb rfl) fun a S => ?_
  refine leafL (leafT (hK7 _ _ ?_))
  refine sSeq (fun K12 hK12 => ?_)
  refine sRegion ?_
  refine sMove (.int .u64 r8) S (wN rfl) (.inl rfl) rfl rfl (lb rfl) fun a S => ?_
  refine sMove (.int .u64 r10) S (wN rfl) (.inl rfl) rfl rfl (lb rfl) fun a S => ?_
  obtain ⟨r13, hx14, h⟩ := bindSome h
  have S1 := S.mem
  refine sCallQ (X := Unit) (f := 81) (vs := [.int .u64 r8, .int .u64 r10]) (val := fun _ => .int .u64 r13) S (wN rfl) rfl callee81 rfl (S1.quiet [] rfl) (fun E1 w1 S1 => c_yarn_gcd E1 w1 r8 r10 r13 hx14 S1) rfl (lb rfl) fun _ a w S => ?_
  refine sMove (.int .u64 r13) S (wN rfl) (.inr rfl) rfl rfl (lb rfl) fun a S => ?_
  refine leafL (leafT (hK12 _ _ ?_))
  refine sSeq (fun K15 hK15 => ?_)
  obtain ⟨z16, hx17, h⟩ := bindSome h
  obtain ⟨z18, hx19, h⟩ := bindSome h
  refine sDraw (nf := []) (W := [(0, 20, .int .u64 r8), (1, 21, .int .u64 r13), (2, 22, .int .u64 z16), (3, 23, .int .u64 r10), (4, 24, .int .u64 r13), (5, 25, .int .u64 z18), (6, 6, .int .u64 z16), (7, 7, .int .u64 z18)]) rfl S ?_
  refine node_by (A := anc_yarn_Make_0) (nf := []) (Y := []) (W := [(0, 20, .int .u64 r8), (1, 21, .int .u64 r13), (2, 22, .int .u64 z16), (3, 23, .int .u64 r10), (4, 24, .int .u64 r13), (5, 25, .int .u64 z18), (6, 6, .int .u64 z16), (7, 7, .int .u64 z18)]) 8 (by kernel_rfl) (by kernel_rfl) (by kernel_rfl) (by kernel_rfl) (by kernel_rfl) [0, 1, 2, 3, 4, 5, 6, 7] (by kernel_rfl) (by decide) (by decide) (aF 0 7 (by decide) ?_ (aF 1 6 (by decide) ?_ (aF 2 5 (by decide) ?_ (aF 3 4 (by decide) ?_ (aF 4 3 (by decide) ?_ (aF 5 2 (by decide) ?_ (aF 6 1 (by decide) ?_ (aF 7 0 (by decide) ?_ (trivial))))))))) [(0, iv p0), (1, iv p1), (4, .pointer (some ⟨b2, 0, none⟩)), (6, .int .u64 z16), (7, .int .u64 z18)] (fin_of [none, none, none, some 6, some 7] rfl (by kernel_rfl) (by kernel_rfl)) (fun _ a w S => ?_)
  · refine fI 20 (.int .u64 r8) [(6, .int .u64 r8)] 0 [none] rfl rfl rfl rfl rfl rfl fun G a w S => ?_
    refine sMove (.int .u64 r8) S (wN rfl) (.inl rfl) rfl rfl (lb rfl) fun a S => ?_
    exact leafL ⟨rfl, S⟩
  · refine fI 21 (.int .u64 r13) [(8, .int .u64 r13)] 1 [none] rfl rfl rfl rfl rfl rfl fun G a w S => ?_
    refine sMove (.int .u64 r13) S (wN rfl) (.inl rfl) rfl rfl (lb rfl) fun a S => ?_
    exact leafL ⟨rfl, S⟩
  · refine fI 22 (.int .u64 z16) [(20, .int .u64 r8), (21, .int .u64 r13)] 2 [some 0, some 1] rfl rfl rfl rfl rfl rfl fun G a w S => ?_
    refine sBin (.int .u64 z16) S (wN rfl) rfl rfl rfl (bQuoK _ _ _ _ (k := .u64) (x := r8) (y := r13) hx17) rfl (lb rfl) fun a S => ?_
    exact leafL ⟨rfl, S⟩
  · refine fI 23 (.int .u64 r10) [(7, .int .u64 r10)] 3 [none] rfl rfl rfl rfl rfl rfl fun G a w S => ?_
    refine sMove (.int .u64 r10) S (wN rfl) (.inl rfl) rfl rfl (lb rfl) fun a S => ?_
    exact leafL ⟨rfl, S⟩
  · refine fI 24 (.int .u64 r13) [(8, .int .u64 r13)] 4 [none] rfl rfl rfl rfl rfl rfl fun G a w S => ?_
    refine sMove (.int .u64 r13) S (wN rfl) (.inl rfl) rfl rfl (lb rfl) fun a S => ?_
    exact leafL ⟨rfl, S⟩
  · refine fI 25 (.int .u64 z18) [(23, .int .u64 r10), (24, .int .u64 r13)] 5 [some 3, some 4] rfl rfl rfl rfl rfl rfl fun G a w S => ?_
    refine sBin (.int .u64 z18) S (wN rfl) rfl rfl rfl (bQuoK _ _ _ _ (k := .u64) (x := r10) (y := r13) hx19) rfl (lb rfl) fun a S => ?_
    exact leafL ⟨rfl, S⟩
  · refine fI 6 (.int .u64 z16) [(22, .int .u64 z16)] 6 [some 2] rfl rfl rfl rfl rfl rfl fun G a w S => ?_
    refine sMove (.int .u64 z16) S (wN rfl) (.inr rfl) rfl rfl (lb rfl) fun a S => ?_
    exact leafL ⟨rfl, S⟩
  · refine fI 7 (.int .u64 z18) [(25, .int .u64 z18)] 7 [some 5] rfl rfl rfl rfl rfl rfl fun G a w S => ?_
    refine sMove (.int .u64 z18) S (wN rfl) (.inr rfl) rfl rfl (lb rfl) fun a S => ?_
    exact leafL ⟨rfl, S⟩
  refine leafT (hK15 _ _ ?_)
  refine sSeq (fun K20 hK20 => ?_)
  obtain ⟨t22, h, g23⟩ := bindSome h
  refine sCut (fun a w => ∃ o21, o21 = t22 ∧ St [] E [] w0 48 a w [(0, iv p0), (1, iv p1), (4, .pointer (some ⟨b2, 0, none⟩)), (6, .int .u64 z16), (7, .int .u64 z18), (31, .bool o21)] [eBox b2 25 [iv 0, iv 0]] []) ?_ (fun a w hI => ?_)
  · refine sRegion ?_
    refine sMove (.int .u64 z16) S (wN rfl) (.inl rfl) rfl rfl (lb rfl) fun a S => ?_
    refine sBin (.bool (decide (1000000000 < z16))) S (wN rfl) rfl rfl rfl (bGt _ _ _ _ .u64 z16 1000000000) rfl (lb rfl) fun a S => ?_
    refine sMove (.bool (decide (1000000000 < z16))) S (wN rfl) (.inl rfl) rfl rfl (lb rfl) fun a S => ?_
    rcases iteSome h with ⟨hc24, h⟩ | ⟨hc24, h⟩
    · refine sSkip 2 false 28 29 S rfl rfl rfl hc24 rfl (lb rfl) fun a S => ?_
      refine sSkip 2 false 28 30 S rfl rfl rfl hc24 rfl (lb rfl) fun a S => ?_
      refine sPickT (.bool true) S (wN rfl) rfl rfl hc24 rfl rfl (lb rfl) fun a S => ?_
      exact leafL (leafT (⟨true, Option.some.inj h, S.fix [0] [] (by decide) rfl rfl rfl⟩))
    refine sMove (.int .u64 z18) S (wG 2 false 28 rfl rfl rfl hc24) (.inl rfl) rfl rfl (lb rfl) fun a S => ?_
    refine sBin (.bool (decide (1000000000 < z18))) S (wG 2 false 28 rfl rfl rfl hc24) rfl rfl rfl (bGt _ _ _ _ .u64 z18 1000000000) rfl (lb rfl) fun a S => ?_
    refine sPickF (.bool (decide (1000000000 < z18))) S (wN rfl) rfl rfl hc24 rfl rfl (lb rfl) fun a S => ?_
    exact leafL (leafT (⟨decide (1000000000 < z18), Option.some.inj h, S.fix [0] [] (by decide) rfl rfl rfl⟩))
  obtain ⟨o21, rfl, S⟩ := hI
  have h := g23
  clear g23
  try dsimp only at h
  rcases iteSome h with ⟨hc25, h⟩ | ⟨hc25, h⟩
  · refine sCondT S rfl hc25 ?_
    refine sSeq (fun K26 hK26 => ?_)
    refine sRegion ?_
    refine sBuild [] [iv 0, iv 0] S (wN rfl) rfl rfl rfl rfl (lb rfl) fun a S => ?_
    refine sStore (p := b2) (off := 0) (T := 25) (vs := [iv 0, iv 0]) (v := .agg #[iv 0, iv 0]) 0 [iv 0, iv 0] S (wN rfl) rfl rfl rfl rfl rfl rfl rfl (by simp) rfl fun a w S => ?_
    refine sMove (iv 16) S (wN rfl) (.inr rfl) rfl rfl (lb rfl) fun a S => ?_
    refine leafL (leafT (hK26 _ _ ?_))
    obtain rfl := Option.some.inj h
    have S := S.learn (fRep r_api_Ratio (.agg #[iv 0, iv 0]) (api_Ratio.mk 0 0)) rfl
    exact wp_ret (rThen (sRet (.tuple #[.agg #[iv 0, iv 0], iv 16]) S (rsl2 rfl (rvN (c := 4) (t := 25) (T := 25) (p := b2) 0 [iv 0, iv 0] S rfl rfl rfl rfl) (rvT (t := 5) (v := iv 16) S rfl)) ⟨(.agg #[iv 0, iv 0]), rfl, S.mem.sel [] [0] (by decide) rfl rfl⟩))
  refine sCondF S rfl hc25 ?_
  refine wp_skip (leafT (hK20 _ _ ?_))
  refine sSeq (fun K27 hK27 => ?_)
  refine sRegion ?_
  refine sMove (.int .u64 z16) S (wN rfl) (.inl rfl) rfl rfl (lb rfl) fun a S => ?_
  refine sConv (k := .u64) (k2 := .i64) (b := z16) S (wN rfl) rfl Try.underlying144 Try.underlying2 rfl rfl (lb rfl) fun a S => ?_
  refine sMove (.int .u64 z18) S (wN rfl) (.inl rfl) rfl rfl (lb rfl) fun a S => ?_
  refine sConv (k := .u64) (k2 := .i64) (b := z18) S (wN rfl) rfl Try.underlying144 Try.underlying2 rfl rfl (lb rfl) fun a S => ?_
  refine sBuild [(0, iv (IntKind.i64.wrap z16)), (1, iv (IntKind.i64.wrap z18))] [iv (IntKind.i64.wrap z16), iv (IntKind.i64.wrap z18)] S (wN rfl) rfl rfl rfl rfl (lb rfl) fun a S => ?_
  refine sAlloc (.agg #[iv 0, iv 0]) S (wN rfl) rfl rfl [iv 0, iv 0] rfl rfl (lb rfl) fun a b28 w S => ?_
  refine sStore (p := b28) (off := 0) (T := 25) (vs := [iv 0, iv 0]) (v := .agg #[iv (IntKind.i64.wrap z16), iv (IntKind.i64.wrap z18)]) 0 [iv (IntKind.i64.wrap z16), iv (IntKind.i64.wrap z18)] S (wN rfl) rfl rfl rfl rfl rfl rfl rfl (by simp) rfl fun a w S => ?_
  refine leafL (leafT (hK27 _ _ ?_))
  obtain ⟨t30, h, g31⟩ := bindSome h
  refine sCut (fun a w => ∃ o29, o29 = t30 ∧ St [] E [] w0 48 a w [(4, .pointer (some ⟨b2, 0, none⟩)), (9, .pointer (some ⟨b28, 0, none⟩))] [eBox b2 25 [iv 0, iv 0], eBox b28 25 [iv o29, iv (IntKind.i64.wrap z18)]] []) ?_ (fun a w hI => ?_)
  rotate_left
  · obtain ⟨o29, rfl, S⟩ := hI
    have h := g31
    clear g31
    try dsimp only at h
    refine sSeq (fun K34 hK34 => ?_)
    refine sRegion ?_
    refine sLoadN (p := b28) (off := 0) (T := 25) (vs := [iv o29, iv (IntKind.i64.wrap z18)]) 1 [iv o29, iv (IntKind.i64.wrap z18)] S (wN rfl) rfl rfl rfl rfl rfl rfl rfl (lb rfl) fun a S => ?_
    refine sStore (p := b2) (off := 0) (T := 25) (vs := [iv 0, iv 0]) (v := .agg #[iv o29, iv (IntKind.i64.wrap z18)]) 0 [iv o29, iv (IntKind.i64.wrap z18)] S (wN rfl) rfl rfl rfl rfl rfl rfl rfl (by simp) rfl fun a w S => ?_
    refine sMove (iv 0) S (wN rfl) (.inr rfl) rfl rfl (lb rfl) fun a S => ?_
    refine leafL (leafT (hK34 _ _ ?_))
    obtain rfl := Option.some.inj h
    have S := S.learn (fRep r_api_Ratio (.agg #[iv o29, iv (IntKind.i64.wrap z18)]) (api_Ratio.mk o29 (IntKind.i64.wrap z18))) rfl
    exact wp_ret (sRet (.tuple #[.agg #[iv o29, iv (IntKind.i64.wrap z18)], iv 0]) S (rsl2 rfl (rvN (c := 4) (t := 25) (T := 25) (p := b2) 0 [iv o29, iv (IntKind.i64.wrap z18)] S rfl rfl rfl rfl) (rvT (t := 5) (v := iv 0) S rfl)) ⟨(.agg #[iv o29, iv (IntKind.i64.wrap z18)]), rfl, S.mem.sel [] [0] (by decide) rfl rfl⟩)
  refine sSeq (fun K32 hK32 => ?_)
  refine sRegion ?_
  refine sMove (iv p0) S (wN rfl) (.inl rfl) rfl rfl (lb rfl) fun a S => ?_
  refine sBin (.bool (decide (p0 < 0))) S (wN rfl) rfl rfl rfl (bLt _ _ _ _ .i64 p0 0) rfl (lb rfl) fun a S => ?_
  refine sMove (iv p1) S (wN rfl) (.inl rfl) rfl rfl (lb rfl) fun a S => ?_
  refine sBin (.bool (decide (p1 < 0))) S (wN rfl) rfl rfl rfl (bLt _ _ _ _ .i64 p1 0) rfl (lb rfl) fun a S => ?_
  refine sBin (.bool ((decide (p0 < 0)) != (decide (p1 < 0)))) S (wN rfl) rfl rfl rfl (bNeB _ _ _ _ Try.underlying4 (decide (p0 < 0)) (decide (p1 < 0))) rfl (lb rfl) fun a S => ?_
  refine leafL (leafT (hK32 _ _ ?_))
  rcases iteSome h with ⟨hc33, h⟩ | ⟨hc33, h⟩
  rotate_left
  · refine sCondF S rfl hc33 ?_
    exact wp_skip (leafT (⟨IntKind.i64.wrap z16, Option.some.inj h, S.fix [1, 0] [] (by decide) rfl rfl rfl⟩))
  refine sCondT S rfl hc33 ?_
  refine sRegion ?_
  refine sField (b := b28) (off := 0) 0 0 S (wN rfl) rfl rfl rfl rfl rfl (lb rfl) fun a S => ?_
  refine sLoad1 (p := b28) (off := 0) (T := 25) (vs := [iv (IntKind.i64.wrap z16), iv (IntKind.i64.wrap z18)]) 0 (iv (IntKind.i64.wrap z16)) S (wN rfl) rfl rfl rfl rfl rfl rfl (lb rfl) fun a S => ?_
  refine sNeg (b := IntKind.i64.wrap z16) S (wN rfl) rfl rfl rfl (lb rfl) fun a S => ?_
  refine sField (b := b28) (off := 0) 0 0 S (wN rfl) rfl rfl rfl rfl rfl (lb rfl) fun a S => ?_
  refine sStore (p := b28) (off := 0) (T := 25) (vs := [iv (IntKind.i64.wrap z16), iv (IntKind.i64.wrap z18)]) (v := iv (w64 (0 - (IntKind.i64.wrap z16)))) 0 [iv (w64 (0 - (IntKind.i64.wrap z16)))] S (wN rfl) rfl rfl rfl rfl rfl rfl rfl (by simp) rfl fun a w S => ?_
  exact leafL (leafT (⟨w64 (0 - (IntKind.i64.wrap z16)), Option.some.inj h, S.fix [1, 0] [] (by decide) rfl rfl rfl⟩))

end Go.Proofs.Ytdbgkakmhlmpbaa
namespace Go.Proofs.Ytdbgkakmhlmpbaa
open Go.RowKit
set_option linter.unusedVariables false

def anc_yarn_Convert_0 : List (List Nat) := [[], [], [0, 1], [], [], [3, 4], [0, 1, 2], [0, 1, 2, 3, 4, 5, 6]]
noncomputable def F_yarn_Convert (p0 : api_Count) (p1 : Int) : Option (api_Count × Int) :=
  Option.bind (F_yarn_counted p0) fun r6 =>
  if r6 != 0 then
    some ((api_Count.mk 0 (api_Ratio.mk 0 0)), r6)
  else
    Option.bind (F_yarn_factors p0.System) fun r12 =>
    Option.bind (F_yarn_factors p1) fun r15 =>
    if !r15.2.2.2 then
      some ((api_Count.mk 0 (api_Ratio.mk 0 0)), 2)
    else
      Option.bind (α := (Int × Int)) (
        Option.bind (α := Bool) (
          if !r12.2.2.1 then
            some (!r15.2.2.1)
          else
            some false) fun o26 =>
        if o26 then
          some (w64 (r12.2.1 * r15.1), w64 (r12.1 * r15.2.1))
        else
          some (w64 (r12.1 * r15.2.1), w64 (r12.2.1 * r15.1))) fun (o22, o23) =>
      Option.bind (α := (Int × Int)) (
        Option.bind (α := Bool) (
          if r12.2.2.1 then
            some (!r15.2.2.1)
          else
            some false) fun o35 =>
        if o35 then
          some (w64 (r15.1 * r12.2.1), w64 (r15.2.1 * r12.1))
        else
          some (o22, o23)) fun (o31, o32) =>
      Option.bind (F_yarn_gcd (IntKind.u64.wrap o31) (IntKind.u64.wrap o32)) fun r41 =>
      Option.bind (quoI o31 (IntKind.i64.wrap r41)) fun z44 =>
      Option.bind (quoI o32 (IntKind.i64.wrap r41)) fun z46 =>
      Option.bind (α := (Int × Int)) (
        if r12.2.2.1 != r15.2.2.1 then
          some (p0.N.Den, p0.N.Num)
        else
          some (p0.N.Num, p0.N.Den)) fun (o50, o51) =>
      Option.bind (F_yarn_Make (w64 (z44 * o50)) (w64 (z46 * o51))) fun r57 =>
      if r57.2 != 0 then
        some ((api_Count.mk 0 (api_Ratio.mk 0 0)), r57.2)
      else
        if r57.1.Num == 0 then
          some ((api_Count.mk 0 (api_Ratio.mk 0 0)), 16)
        else
          some ((api_Count.mk p1 r57.1), 0)
def c_yarn_Convert_val (r : (api_Count × Int)) (x : Value) : Value := .tuple #[x, .int .i64 r.2]
def c_yarn_Convert_D (r : (api_Count × Int)) (x : Value) : List Fact := [fRep r_api_Count x r.1]
set_option maxHeartbeats 4000000 in
set_option maxRecDepth 100000 in
theorem c_yarn_Convert (E : Nat → Prop) (w0 : World) (p0 : api_Count) (v0 : Value) (p1 : Int) (r : (api_Count × Int)) (h : F_yarn_Convert p0 p1 = some r) (S : St0 E [] w0 w0 [] [fRep r_api_Count (v0) p0]) :
    Calls Try.prog 59 #[v0, .int .u8 p1] w0 (Ret (X := Value) E [] w0 (c_yarn_Convert_val r) (fun _ => []) (c_yarn_Convert_D r)) := by
  unfold F_yarn_Convert at h
  obtain rfl : v0 = .agg #[.int .u8 p0.System, iv p0.N.Num, iv p0.N.Den] := S.know (i := 0) (e := fRep r_api_Count (v0) p0) rfl
  refine sEnter (args := [.agg #[.int .u8 p0.System, iv p0.N.Num, iv p0.N.Den], .int .u8 p1]) 116 Try.func59 rfl rfl (by simp) S (fun a S => ?_)
  refine sSeq (fun K1 hK1 => ?_)
  refine sRegion ?_
  refine sBox (v := .agg #[.int .u8 p0.System, iv p0.N.Num, iv p0.N.Den]) S (wN rfl) rfl rfl [.int .u8 p0.System, iv p0.N.Num, iv p0.N.Den] rfl rfl (lb rfl) fun a b2 w S => ?_
  refine sAlloc (.agg #[.int .u8 0, iv 0, iv 0]) S (wN rfl) rfl rfl [.int .u8 0, iv 0, iv 0] rfl rfl (lb rfl) fun a b3 w S => ?_
  refine sMove (iv 0) S (wN rfl) (.inr rfl) rfl rfl (lb rfl) fun a S => ?_
  refine leafL (leafT (hK1 _ _ ?_))
  refine sSeq (fun K4 hK4 => ?_)
  refine sSeq (fun K5 hK5 => ?_)
  refine sRegion ?_
  refine sLoadN (p := b2) (off := 0) (T := 27) (vs := [.int .u8 p0.System, iv p0.N.Num, iv p0.N.Den]) 1 [.int .u8 p0.System, iv p0.N.Num, iv p0.N.Den] S (wN rfl) rfl rfl rfl rfl rfl rfl rfl (lb rfl) fun a S => ?_
  obtain ⟨r6, hx7, h⟩ := bindSome h
  have S1 := S.mem
  refine sCallQ (X := Unit) (f := 58) (vs := [.agg #[.int .u8 p0.System, iv p0.N.Num, iv p0.N.Den]]) (val := fun _ => iv r6) S (wN rfl) rfl callee58 rfl (S1.quiet [0] rfl) (fun E1 w1 S1 => c_yarn_counted E1 w1 p0 (.agg #[.int .u8 p0.System, iv p0.N.Num, iv p0.N.Den]) r6 hx7 S1) rfl (lb rfl) fun _ a w S => ?_
  refine sMove (iv r6) S (wN rfl) (.inr rfl) rfl rfl (lb rfl) fun a S => ?_
  refine leafL (leafT (hK5 _ _ ?_))
  refine sSeq (fun K8 hK8 => ?_)
  refine sRegion ?_
  refine sMove (iv r6) S (wN rfl) (.inl rfl) rfl rfl (lb rfl) fun a S => ?_
  refine sBin (.bool (r6 != 0)) S (wN rfl) rfl rfl rfl (bNe _ _ _ _ .i64 r6 0) rfl (lb rfl) fun a S => ?_
  refine leafL (leafT (hK8 _ _ ?_))
  rcases iteSome h with ⟨hc9, h⟩ | ⟨hc9, h⟩
  · refine sCondT S rfl hc9 ?_
    refine sSeq (fun K10 hK10 => ?_)
    refine sRegion ?_
    refine sBuild [] [.int .u8 0, iv 0, iv 0] S (wN rfl) rfl rfl rfl rfl (lb rfl) fun a S => ?_
    refine sMove (iv r6) S (wN rfl) (.inl rfl) rfl rfl (lb rfl) fun a S => ?_
    refine sStore (p := b3) (off := 0) (T := 27) (vs := [.int .u8 0, iv 0, iv 0]) (v := .agg #[.int .u8 0, iv 0, iv 0]) 0 [.int .u8 0, iv 0, iv 0] S (wN rfl) rfl rfl rfl rfl rfl rfl rfl (by simp) rfl fun a w S => ?_
    refine sMove (iv r6) S (wN rfl) (.inr rfl) rfl rfl (lb rfl) fun a S => ?_
    refine leafL (leafT (hK10 _ _ ?_))
    obtain rfl := Option.some.inj h
    have S := S.learn (fRep r_api_Count (.agg #[.int .u8 0, iv 0, iv 0]) (api_Count.mk 0 (api_Ratio.mk 0 0))) rfl
    exact wp_ret (rThen (sRet (.tuple #[.agg #[.int .u8 0, iv 0, iv 0], iv r6]) S (rsl2 rfl (rvN (c := 4) (t := 27) (T := 27) (p := b3) 0 [.int .u8 0, iv 0, iv 0] S rfl rfl rfl rfl) (rvT (t := 5) (v := iv r6) S rfl)) ⟨(.agg #[.int .u8 0, iv 0, iv 0]), rfl, S.mem.sel [] [0] (by decide) rfl rfl⟩))
  refine sCondF S rfl hc9 ?_
  refine wp_skip (leafT (hK4 _ _ ?_))
  refine sSeq (fun K11 hK11 => ?_)
  refine sRegion ?_
  refine sField (b := b2) (off := 0) 0 0 S (wN rfl) rfl rfl rfl rfl rfl (lb rfl) fun a S => ?_
  refine sLoad1 (p := b2) (off := 0) (T := 27) (vs := [.int .u8 p0.System, iv p0.N.Num, iv p0.N.Den]) 1 (.int .u8 p0.System) S (wN rfl) rfl rfl rfl rfl rfl rfl (lb rfl) fun a S => ?_
  obtain ⟨r12, hx13, h⟩ := bindSome h
  have S1 := S.mem
  refine sCallQ (X := Unit) (f := 79) (vs := [.int .u8 p0.System]) (val := fun _ => .tuple #[iv r12.1, iv r12.2.1, .bool r12.2.2.1, .bool r12.2.2.2]) S (wN rfl) rfl callee79 rfl (S1.quiet [] rfl) (fun E1 w1 S1 => c_yarn_factors E1 w1 p0.System r12 hx13 S1) rfl (lb rfl) fun _ a w S => ?_
  refine sMove (.tuple #[iv r12.1, iv r12.2.1, .bool r12.2.2.1, .bool r12.2.2.2]) S (wN rfl) (.inl rfl) rfl rfl (lb rfl) fun a S => ?_
  refine sExtract (vs := [iv r12.1, iv r12.2.1, .bool r12.2.2.1, .bool r12.2.2.2]) (iv r12.1) S (wN rfl) rfl rfl rfl rfl (lb rfl) fun a S => ?_
  refine sExtract (vs := [iv r12.1, iv r12.2.1, .bool r12.2.2.1, .bool r12.2.2.2]) (iv r12.2.1) S (wN rfl) rfl rfl rfl rfl (lb rfl) fun a S => ?_
  refine sExtract (vs := [iv r12.1, iv r12.2.1, .bool r12.2.2.1, .bool r12.2.2.2]) (.bool r12.2.2.1) S (wN rfl) rfl rfl rfl rfl (lb rfl) fun a S => ?_
  refine sExtract (vs := [iv r12.1, iv r12.2.1, .bool r12.2.2.1, .bool r12.2.2.2]) (.bool r12.2.2.2) S (wN rfl) rfl rfl rfl rfl (lb rfl) fun a S => ?_
  refine sMove (iv r12.1) S (wN rfl) (.inr rfl) rfl rfl (lb rfl) fun a S => ?_
  refine sMove (iv r12.2.1) S (wN rfl) (.inr rfl) rfl rfl (lb rfl) fun a S => ?_
  refine sMove (.bool r12.2.2.1) S (wN rfl) (.inr rfl) rfl rfl (lb rfl) fun a S => ?_
  refine sMove (.bool r12.2.2.2) S (wN rfl) (.inr rfl) rfl rfl (lb rfl) fun a S => ?_
  refine leafL (leafT (hK11 _ _ ?_))
  refine sSeq (fun K14 hK14 => ?_)
  refine sRegion ?_
  refine sMove (.int .u8 p1) S (wN rfl) (.inl rfl) rfl rfl (lb rfl) fun a S => ?_
  obtain ⟨r15, hx16, h⟩ := bindSome h
  have S1 := S.mem
  refine sCallQ (X := Unit) (f := 79) (vs := [.int .u8 p1]) (val := fun _ => .tuple #[iv r15.1, iv r15.2.1, .bool r15.2.2.1, .bool r15.2.2.2]) S (wN rfl) rfl callee79 rfl (S1.quiet [] rfl) (fun E1 w1 S1 => c_yarn_factors E1 w1 p1 r15 hx16 S1) rfl (lb rfl) fun _ a w S => ?_
  refine sMove (.tuple #[iv r15.1, iv r15.2.1, .bool r15.2.2.1, .bool r15.2.2.2]) S (wN rfl) (.inl rfl) rfl rfl (lb rfl) fun a S => ?_
  refine sExtract (vs := [iv r15.1, iv r15.2.1, .bool r15.2.2.1, .bool r15.2.2.2]) (iv r15.1) S (wN rfl) rfl rfl rfl rfl (lb rfl) fun a S => ?_
  refine sExtract (vs := [iv r15.1, iv r15.2.1, .bool r15.2.2.1, .bool r15.2.2.2]) (iv r15.2.1) S (wN rfl) rfl rfl rfl rfl (lb rfl) fun a S => ?_
  refine sExtract (vs := [iv r15.1, iv r15.2.1, .bool r15.2.2.1, .bool r15.2.2.2]) (.bool r15.2.2.1) S (wN rfl) rfl rfl rfl rfl (lb rfl) fun a S => ?_
  refine sExtract (vs := [iv r15.1, iv r15.2.1, .bool r15.2.2.1, .bool r15.2.2.2]) (.bool r15.2.2.2) S (wN rfl) rfl rfl rfl rfl (lb rfl) fun a S => ?_
  refine sMove (iv r15.1) S (wN rfl) (.inr rfl) rfl rfl (lb rfl) fun a S => ?_
  refine sMove (iv r15.2.1) S (wN rfl) (.inr rfl) rfl rfl (lb rfl) fun a S => ?_
  refine sMove (.bool r15.2.2.1) S (wN rfl) (.inr rfl) rfl rfl (lb rfl) fun a S => ?_
  refine sMove (.bool r15.2.2.2) S (wN rfl) (.inr rfl) rfl rfl (lb rfl) fun a S => ?_
  refine leafL (leafT (hK14 _ _ ?_))
  refine sSeq (fun K17 hK17 => ?_)
  refine sSeq (fun K18 hK18 => ?_)
  refine sRegion ?_
  refine sMove (.bool r15.2.2.2) S (wN rfl) (.inl rfl) rfl rfl (lb rfl) fun a S => ?_
  refine sNot (b := r15.2.2.2) S (wN rfl) rfl rfl rfl (lb rfl) fun a S => ?_
  refine leafL (leafT (hK18 _ _ ?_))
  rcases iteSome h with ⟨hc19, h⟩ | ⟨hc19, h⟩
  · refine sCondT S rfl hc19 ?_
    refine sSeq (fun K20 hK20 => ?_)
    refine sRegion ?_
    refine sBuild [] [.int .u8 0, iv 0, iv 0] S (wN rfl) rfl rfl rfl rfl (lb rfl) fun a S => ?_
    refine sStore (p := b3) (off := 0) (T := 27) (vs := [.int .u8 0, iv 0, iv 0]) (v := .agg #[.int .u8 0, iv 0, iv 0]) 0 [.int .u8 0, iv 0, iv 0] S (wN rfl) rfl rfl rfl rfl rfl rfl rfl (by simp) rfl fun a w S => ?_
    refine sMove (iv 2) S (wN rfl) (.inr rfl) rfl rfl (lb rfl) fun a S => ?_
    refine leafL (leafT (hK20 _ _ ?_))
    obtain rfl := Option.some.inj h
    have S := S.learn (fRep r_api_Count (.agg #[.int .u8 0, iv 0, iv 0]) (api_Count.mk 0 (api_Ratio.mk 0 0))) rfl
    exact wp_ret (rThen (sRet (.tuple #[.agg #[.int .u8 0, iv 0, iv 0], iv 2]) S (rsl2 rfl (rvN (c := 4) (t := 27) (T := 27) (p := b3) 0 [.int .u8 0, iv 0, iv 0] S rfl rfl rfl rfl) (rvT (t := 5) (v := iv 2) S rfl)) ⟨(.agg #[.int .u8 0, iv 0, iv 0]), rfl, S.mem.sel [] [0] (by decide) rfl rfl⟩))
  refine sCondF S rfl hc19 ?_
  refine wp_skip (leafT (hK17 _ _ ?_))
  refine sSeq (fun K21 hK21 => ?_)
  refine sRegion ?_
  refine sMove (iv r12.1) S (wN rfl) (.inl rfl) rfl rfl (lb rfl) fun a S => ?_
  refine sMove (iv r15.2.1) S (wN rfl) (.inl rfl) rfl rfl (lb rfl) fun a S => ?_
  refine sBin (iv (w64 (r12.1 * r15.2.1))) S (wN rfl) rfl rfl rfl (bMul _ _ _ _ r12.1 r15.2.1) rfl (lb rfl) fun a S => ?_
  refine sMove (iv r12.2.1) S (wN rfl) (.inl rfl) rfl rfl (lb rfl) fun a S => ?_
  refine sMove (iv r15.1) S (wN rfl) (.inl rfl) rfl rfl (lb rfl) fun a S => ?_
  refine sBin (iv (w64 (r12.2.1 * r15.1))) S (wN rfl) rfl rfl rfl (bMul _ _ _ _ r12.2.1 r15.1) rfl (lb rfl) fun a S => ?_
  refine sMove (iv (w64 (r12.1 * r15.2.1))) S (wN rfl) (.inr rfl) rfl rfl (lb rfl) fun a S => ?_
  refine sMove (iv (w64 (r12.2.1 * r15.1))) S (wN rfl) (.inr rfl) rfl rfl (lb rfl) fun a S => ?_
  refine leafL (leafT (hK21 _ _ ?_))
  obtain ⟨t24, h, g25⟩ := bindSome h
  refine sCut (fun a w => ∃ o22, ∃ o23, (o22, o23) = t24 ∧ St [] E [] w0 116 a w [(1, .int .u8 p1), (2, .pointer (some ⟨b2, 0, none⟩)), (4, .pointer (some ⟨b3, 0, none⟩)), (7, iv r12.1), (8, iv r12.2.1), (9, .bool r12.2.2.1), (11, iv r15.1), (12, iv r15.2.1), (13, .bool r15.2.2.1), (15, iv o22), (16, iv o23)] [eBox b2 27 [.int .u8 p0.System, iv p0.N.Num, iv p0.N.Den], eBox b3 27 [.int .u8 0, iv 0, iv 0]] []) ?_ (fun a w hI => ?_)
  · obtain ⟨t27, h, g28⟩ := bindSome h
    refine sCut (fun a w => ∃ o26, o26 = t27 ∧ St [] E [] w0 116 a w [(1, .int .u8 p1), (2, .pointer (some ⟨b2, 0, none⟩)), (4, .pointer (some ⟨b3, 0, none⟩)), (7, iv r12.1), (8, iv r12.2.1), (9, .bool r12.2.2.1), (11, iv r15.1), (12, iv r15.2.1), (13, .bool r15.2.2.1), (15, iv (w64 (r12.1 * r15.2.1))), (16, iv (w64 (r12.2.1 * r15.1))), (56, .bool o26)] [eBox b2 27 [.int .u8 p0.System, iv p0.N.Num, iv p0.N.Den], eBox b3 27 [.int .u8 0, iv 0, iv 0]] []) ?_ (fun a w hI => ?_)
    rotate_left
    · obtain ⟨o26, rfl, S⟩ := hI
      have h := g28
      clear g28
      try dsimp only at h
      rcases iteSome h with ⟨hc30, h⟩ | ⟨hc30, h⟩
      rotate_left
      · refine sCondF S rfl hc30 ?_
        exact wp_skip (leafT (⟨w64 (r12.1 * r15.2.1), w64 (r12.2.1 * r15.1), Option.some.inj h, S.fix [0, 1] [] (by decide) rfl rfl rfl⟩))
      refine sCondT S rfl hc30 ?_
      refine sRegion ?_
      refine sMove (iv (w64 (r12.2.1 * r15.1))) S (wN rfl) (.inl rfl) rfl rfl (lb rfl) fun a S => ?_
      refine sMove (iv (w64 (r12.1 * r15.2.1))) S (wN rfl) (.inl rfl) rfl rfl (lb rfl) fun a S => ?_
      refine sMove (iv (w64 (r12.2.1 * r15.1))) S (wN rfl) (.inr rfl) rfl rfl (lb rfl) fun a S => ?_
      refine sMove (iv (w64 (r12.1 * r15.2.1))) S (wN rfl) (.inr rfl) rfl rfl (lb rfl) fun a S => ?_
      exact leafL (leafT (⟨w64 (r12.2.1 * r15.1), w64 (r12.1 * r15.2.1), Option.some.inj h, S.fix [0, 1] [] (by decide) rfl rfl rfl⟩))
    refine sRegion ?_
    refine sMove (.bool r12.2.2.1) S (wN rfl) (.inl rfl) rfl rfl (lb rfl) fun a S => ?_
    refine sNot (b := r12.2.2.1) S (wN rfl) rfl rfl rfl (lb rfl) fun a S => ?_
    refine sMove (.bool (!r12.2.2.1)) S (wN rfl) (.inl rfl) rfl rfl (lb rfl) fun a S => ?_
    rcases iteSome h with ⟨hc29, h⟩ | ⟨hc29, h⟩
    rotate_left
    · refine sSkip 2 true 53 54 S rfl rfl rfl hc29 rfl (lb rfl) fun a S => ?_
      refine sSkip 2 true 53 55 S rfl rfl rfl hc29 rfl (lb rfl) fun a S => ?_
      refine sPickF (.bool false) S (wN rfl) rfl rfl hc29 rfl rfl (lb rfl) fun a S => ?_
      exact leafL (leafT (⟨false, Option.some.inj h, S.fix [1, 0] [] (by decide) rfl rfl rfl⟩))
    refine sMove (.bool r15.2.2.1) S (wG 2 true 53 rfl rfl rfl hc29) (.inl rfl) rfl rfl (lb rfl) fun a S => ?_
    refine sNot (b := r15.2.2.1) S (wG 2 true 53 rfl rfl rfl hc29) rfl rfl rfl (lb rfl) fun a S => ?_
    refine sPickT (.bool (!r15.2.2.1)) S (wN rfl) rfl rfl hc29 rfl rfl (lb rfl) fun a S => ?_
    exact leafL (leafT (⟨!r15.2.2.1, Option.some.inj h, S.fix [1, 0] [] (by decide) rfl rfl rfl⟩))
  obtain ⟨o22, o23, rfl, S⟩ := hI
  have h := g25
  clear g25
  try dsimp only at h
  obtain ⟨t33, h, g34⟩ := bindSome h
  refine sCut (fun a w => ∃ o31, ∃ o32, (o31, o32) = t33 ∧ St [] E [] w0 116 a w [(1, .int .u8 p1), (2, .pointer (some ⟨b2, 0, none⟩)), (4, .pointer (some ⟨b3, 0, none⟩)), (9, .bool r12.2.2.1), (13, .bool r15.2.2.1), (15, iv o31), (16, iv o32)] [eBox b2 27 [.int .u8 p0.System, iv p0.N.Num, iv p0.N.Den], eBox b3 27 [.int .u8 0, iv 0, iv 0]] []) ?_ (fun a w hI => ?_)
  · obtain ⟨t36, h, g37⟩ := bindSome h
    refine sCut (fun a w => ∃ o35, o35 = t36 ∧ St [] E [] w0 116 a w [(1, .int .u8 p1), (2, .pointer (some ⟨b2, 0, none⟩)), (4, .pointer (some ⟨b3, 0, none⟩)), (7, iv r12.1), (8, iv r12.2.1), (9, .bool r12.2.2.1), (11, iv r15.1), (12, iv r15.2.1), (13, .bool r15.2.2.1), (15, iv o22), (16, iv o23), (63, .bool o35)] [eBox b2 27 [.int .u8 p0.System, iv p0.N.Num, iv p0.N.Den], eBox b3 27 [.int .u8 0, iv 0, iv 0]] []) ?_ (fun a w hI => ?_)
    · refine sRegion ?_
      refine sMove (.bool r12.2.2.1) S (wN rfl) (.inl rfl) rfl rfl (lb rfl) fun a S => ?_
      refine sMove (.bool r12.2.2.1) S (wN rfl) (.inl rfl) rfl rfl (lb rfl) fun a S => ?_
      rcases iteSome h with ⟨hc38, h⟩ | ⟨hc38, h⟩
      rotate_left
      · refine sSkip 1 true 60 61 S rfl rfl rfl hc38 rfl (lb rfl) fun a S => ?_
        refine sSkip 1 true 60 62 S rfl rfl rfl hc38 rfl (lb rfl) fun a S => ?_
        refine sPickF (.bool false) S (wN rfl) rfl rfl hc38 rfl rfl (lb rfl) fun a S => ?_
        exact leafL (leafT (⟨false, Option.some.inj h, S.fix [0, 1] [] (by decide) rfl rfl rfl⟩))
      refine sMove (.bool r15.2.2.1) S (wG 1 true 60 rfl rfl rfl hc38) (.inl rfl) rfl rfl (lb rfl) fun a S => ?_
      refine sNot (b := r15.2.2.1) S (wG 1 true 60 rfl rfl rfl hc38) rfl rfl rfl (lb rfl) fun a S => ?_
      refine sPickT (.bool (!r15.2.2.1)) S (wN rfl) rfl rfl hc38 rfl rfl (lb rfl) fun a S => ?_
      exact leafL (leafT (⟨!r15.2.2.1, Option.some.inj h, S.fix [0, 1] [] (by decide) rfl rfl rfl⟩))
    obtain ⟨o35, rfl, S⟩ := hI
    have h := g37
    clear g37
    try dsimp only at h
    rcases iteSome h with ⟨hc39, h⟩ | ⟨hc39, h⟩
    rotate_left
    · refine sCondF S rfl hc39 ?_
      exact wp_skip (leafT (⟨o22, o23, Option.some.inj h, S.fix [0, 1] [] (by decide) rfl rfl rfl⟩))
    refine sCondT S rfl hc39 ?_
    refine sRegion ?_
    refine sMove (iv r15.1) S (wN rfl) (.inl rfl) rfl rfl (lb rfl) fun a S => ?_
    refine sMove (iv r12.2.1) S (wN rfl) (.inl rfl) rfl rfl (lb rfl) fun a S => ?_
    refine sBin (iv (w64 (r15.1 * r12.2.1))) S (wN rfl) rfl rfl rfl (bMul _ _ _ _ r15.1 r12.2.1) rfl (lb rfl) fun a S => ?_
    refine sMove (iv r15.2.1) S (wN rfl) (.inl rfl) rfl rfl (lb rfl) fun a S => ?_
    refine sMove (iv r12.1) S (wN rfl) (.inl rfl) rfl rfl (lb rfl) fun a S => ?_
    refine sBin (iv (w64 (r15.2.1 * r12.1))) S (wN rfl) rfl rfl rfl (bMul _ _ _ _ r15.2.1 r12.1) rfl (lb rfl) fun a S => ?_
    refine sMove (iv (w64 (r15.1 * r12.2.1))) S (wN rfl) (.inr rfl) rfl rfl (lb rfl) fun a S => ?_
    refine sMove (iv (w64 (r15.2.1 * r12.1))) S (wN rfl) (.inr rfl) rfl rfl (lb rfl) fun a S => ?_
    exact leafL (leafT (⟨w64 (r15.1 * r12.2.1), w64 (r15.2.1 * r12.1), Option.some.inj h, S.fix [0, 1] [] (by decide) rfl rfl rfl⟩))
  obtain ⟨o31, o32, rfl, S⟩ := hI
  have h := g34
  clear g34
  try dsimp only at h
  refine sSeq (fun K40 hK40 => ?_)
  refine sRegion ?_
  refine sMove (iv o31) S (wN rfl) (.inl rfl) rfl rfl (lb rfl) fun a S => ?_
  refine sConv (k := .i64) (k2 := .u64) (b := o31) S (wN rfl) rfl Try.underlying2 Try.underlying144 rfl rfl (lb rfl) fun a S => ?_
  refine sMove (iv o32) S (wN rfl) (.inl rfl) rfl rfl (lb rfl) fun a S => ?_
  refine sConv (k := .i64) (k2 := .u64) (b := o32) S (wN rfl) rfl Try.underlying2 Try.underlying144 rfl rfl (lb rfl) fun a S => ?_
  obtain ⟨r41, hx42, h⟩ := bindSome h
  have S1 := S.mem
  refine sCallQ (X := Unit) (f := 81) (vs := [.int .u64 (IntKind.u64.wrap o31), .int .u64 (IntKind.u64.wrap o32)]) (val := fun _ => .int .u64 r41) S (wN rfl) rfl callee81 rfl (S1.quiet [] rfl) (fun E1 w1 S1 => c_yarn_gcd E1 w1 (IntKind.u64.wrap o31) (IntKind.u64.wrap o32) r41 hx42 S1) rfl (lb rfl) fun _ a w S => ?_
  refine sConv (k := .u64) (k2 := .i64) (b := r41) S (wN rfl) rfl Try.underlying144 Try.underlying2 rfl rfl (lb rfl) fun a S => ?_
  refine sMove (iv (IntKind.i64.wrap r41)) S (wN rfl) (.inr rfl) rfl rfl (lb rfl) fun a S => ?_
  refine leafL (leafT (hK40 _ _ ?_))
  refine sSeq (fun K43 hK43 => ?_)
  obtain ⟨z44, hx45, h⟩ := bindSome h
  obtain ⟨z46, hx47, h⟩ := bindSome h
  refine sDraw (nf := []) (W := [(0, 76, iv o31), (1, 77, iv (IntKind.i64.wrap r41)), (2, 78, iv z44), (3, 79, iv o32), (4, 80, iv (IntKind.i64.wrap r41)), (5, 81, iv z46), (6, 15, iv z44), (7, 16, iv z46)]) rfl S ?_
  refine node_by (A := anc_yarn_Convert_0) (nf := []) (Y := []) (W := [(0, 76, iv o31), (1, 77, iv (IntKind.i64.wrap r41)), (2, 78, iv z44), (3, 79, iv o32), (4, 80, iv (IntKind.i64.wrap r41)), (5, 81, iv z46), (6, 15, iv z44), (7, 16, iv z46)]) 8 (by kernel_rfl) (by kernel_rfl) (by kernel_rfl) (by kernel_rfl) (by kernel_rfl) [0, 1, 2, 3, 4, 5, 6, 7] (by kernel_rfl) (by decide) (by decide) (aF 0 7 (by decide) ?_ (aF 1 6 (by decide) ?_ (aF 2 5 (by decide) ?_ (aF 3 4 (by decide) ?_ (aF 4 3 (by decide) ?_ (aF 5 2 (by decide) ?_ (aF 6 1 (by decide) ?_ (aF 7 0 (by decide) ?_ (trivial))))))))) [(1, .int .u8 p1), (2, .pointer (some ⟨b2, 0, none⟩)), (4, .pointer (some ⟨b3, 0, none⟩)), (9, .bool r12.2.2.1), (13, .bool r15.2.2.1), (15, iv z44), (16, iv z46)] (fin_of [none, none, none, none, none, some 6, some 7] rfl (by kernel_rfl) (by kernel_rfl)) (fun _ a w S => ?_)
  · refine fI 76 (iv o31) [(15, iv o31)] 0 [none] rfl rfl rfl rfl rfl rfl fun G a w S => ?_
    refine sMove (iv o31) S (wN rfl) (.inl rfl) rfl rfl (lb rfl) fun a S => ?_
    exact leafL ⟨rfl, S⟩
  · refine fI 77 (iv (IntKind.i64.wrap r41)) [(17, iv (IntKind.i64.wrap r41))] 1 [none] rfl rfl rfl rfl rfl rfl fun G a w S => ?_
    refine sMove (iv (IntKind.i64.wrap r41)) S (wN rfl) (.inl rfl) rfl rfl (lb rfl) fun a S => ?_
    exact leafL ⟨rfl, S⟩
  · refine fI 78 (iv z44) [(76, iv o31), (77, iv (IntKind.i64.wrap r41))] 2 [some 0, some 1] rfl rfl rfl rfl rfl rfl fun G a w S => ?_
    refine sBin (iv z44) S (wN rfl) rfl rfl rfl (bQuo _ _ _ _ (x := o31) (y := IntKind.i64.wrap r41) hx45) rfl (lb rfl) fun a S => ?_
    exact leafL ⟨rfl, S⟩
  · refine fI 79 (iv o32) [(16, iv o32)] 3 [none] rfl rfl rfl rfl rfl rfl fun G a w S => ?_
    refine sMove (iv o32) S (wN rfl) (.inl rfl) rfl rfl (lb rfl) fun a S => ?_
    exact leafL ⟨rfl, S⟩
  · refine fI 80 (iv (IntKind.i64.wrap r41)) [(17, iv (IntKind.i64.wrap r41))] 4 [none] rfl rfl rfl rfl rfl rfl fun G a w S => ?_
    refine sMove (iv (IntKind.i64.wrap r41)) S (wN rfl) (.inl rfl) rfl rfl (lb rfl) fun a S => ?_
    exact leafL ⟨rfl, S⟩
  · refine fI 81 (iv z46) [(79, iv o32), (80, iv (IntKind.i64.wrap r41))] 5 [some 3, some 4] rfl rfl rfl rfl rfl rfl fun G a w S => ?_
    refine sBin (iv z46) S (wN rfl) rfl rfl rfl (bQuo _ _ _ _ (x := o32) (y := IntKind.i64.wrap r41) hx47) rfl (lb rfl) fun a S => ?_
    exact leafL ⟨rfl, S⟩
  · refine fI 15 (iv z44) [(78, iv z44)] 6 [some 2] rfl rfl rfl rfl rfl rfl fun G a w S => ?_
    refine sMove (iv z44) S (wN rfl) (.inr rfl) rfl rfl (lb rfl) fun a S => ?_
    exact leafL ⟨rfl, S⟩
  · refine fI 16 (iv z46) [(81, iv z46)] 7 [some 5] rfl rfl rfl rfl rfl rfl fun G a w S => ?_
    refine sMove (iv z46) S (wN rfl) (.inr rfl) rfl rfl (lb rfl) fun a S => ?_
    exact leafL ⟨rfl, S⟩
  refine leafT (hK43 _ _ ?_)
  refine sSeq (fun K48 hK48 => ?_)
  refine sRegion ?_
  refine sField (b := b2) (off := 0) 1 1 S (wN rfl) rfl rfl rfl rfl rfl (lb rfl) fun a S => ?_
  refine sLoadN (p := b2) (off := 1) (T := 27) (vs := [.int .u8 p0.System, iv p0.N.Num, iv p0.N.Den]) 0 [iv p0.N.Num, iv p0.N.Den] S (wN rfl) rfl rfl rfl rfl rfl rfl rfl (lb rfl) fun a S => ?_
  refine sAlloc (.agg #[iv 0, iv 0]) S (wN rfl) rfl rfl [iv 0, iv 0] rfl rfl (lb rfl) fun a b49 w S => ?_
  refine sStore (p := b49) (off := 0) (T := 25) (vs := [iv 0, iv 0]) (v := .agg #[iv p0.N.Num, iv p0.N.Den]) 0 [iv p0.N.Num, iv p0.N.Den] S (wN rfl) rfl rfl rfl rfl rfl rfl rfl (by simp) rfl fun a w S => ?_
  refine leafL (leafT (hK48 _ _ ?_))
  obtain ⟨t52, h, g53⟩ := bindSome h
  refine sCut (fun a w => ∃ o50, ∃ o51, (o50, o51) = t52 ∧ St [] E [] w0 116 a w [(1, .int .u8 p1), (4, .pointer (some ⟨b3, 0, none⟩)), (15, iv z44), (16, iv z46), (18, .pointer (some ⟨b49, 0, none⟩))] [eBox b3 27 [.int .u8 0, iv 0, iv 0], eBox b49 25 [iv o50, iv o51]] []) ?_ (fun a w hI => ?_)
  · refine sSeq (fun K54 hK54 => ?_)
    refine sRegion ?_
    refine sMove (.bool r12.2.2.1) S (wN rfl) (.inl rfl) rfl rfl (lb rfl) fun a S => ?_
    refine sMove (.bool r15.2.2.1) S (wN rfl) (.inl rfl) rfl rfl (lb rfl) fun a S => ?_
    refine sBin (.bool (r12.2.2.1 != r15.2.2.1)) S (wN rfl) rfl rfl rfl (bNeB _ _ _ _ Try.underlying4 r12.2.2.1 r15.2.2.1) rfl (lb rfl) fun a S => ?_
    refine leafL (leafT (hK54 _ _ ?_))
    rcases iteSome h with ⟨hc55, h⟩ | ⟨hc55, h⟩
    rotate_left
    · refine sCondF S rfl hc55 ?_
      exact wp_skip (leafT (⟨p0.N.Num, p0.N.Den, Option.some.inj h, S.fix [2, 0] [] (by decide) rfl rfl rfl⟩))
    refine sCondT S rfl hc55 ?_
    refine sRegion ?_
    refine sField (b := b49) (off := 0) 1 1 S (wN rfl) rfl rfl rfl rfl rfl (lb rfl) fun a S => ?_
    refine sLoad1 (p := b49) (off := 1) (T := 25) (vs := [iv p0.N.Num, iv p0.N.Den]) 0 (iv p0.N.Den) S (wN rfl) rfl rfl rfl rfl rfl rfl (lb rfl) fun a S => ?_
    refine sField (b := b49) (off := 0) 0 0 S (wN rfl) rfl rfl rfl rfl rfl (lb rfl) fun a S => ?_
    refine sLoad1 (p := b49) (off := 0) (T := 25) (vs := [iv p0.N.Num, iv p0.N.Den]) 0 (iv p0.N.Num) S (wN rfl) rfl rfl rfl rfl rfl rfl (lb rfl) fun a S => ?_
    refine sField (b := b49) (off := 0) 0 0 S (wN rfl) rfl rfl rfl rfl rfl (lb rfl) fun a S => ?_
    refine sStore (p := b49) (off := 0) (T := 25) (vs := [iv p0.N.Num, iv p0.N.Den]) (v := iv p0.N.Den) 0 [iv p0.N.Den] S (wN rfl) rfl rfl rfl rfl rfl rfl rfl (by simp) rfl fun a w S => ?_
    refine sField (b := b49) (off := 0) 1 1 S (wN rfl) rfl rfl rfl rfl rfl (lb rfl) fun a S => ?_
    refine sStore (p := b49) (off := 1) (T := 25) (vs := [iv p0.N.Den, iv p0.N.Den]) (v := iv p0.N.Num) 0 [iv p0.N.Num] S (wN rfl) rfl rfl rfl rfl rfl rfl rfl (by simp) rfl fun a w S => ?_
    exact leafL (leafT (⟨p0.N.Den, p0.N.Num, Option.some.inj h, S.fix [2, 0] [] (by decide) rfl rfl rfl⟩))
  obtain ⟨o50, o51, rfl, S⟩ := hI
  have h := g53
  clear g53
  try dsimp only at h
  refine sSeq (fun K56 hK56 => ?_)
  refine sRegion ?_
  refine sMove (iv z44) S (wN rfl) (.inl rfl) rfl rfl (lb rfl) fun a S => ?_
  refine sField (b := b49) (off := 0) 0 0 S (wN rfl) rfl rfl rfl rfl rfl (lb rfl) fun a S => ?_
  refine sLoad1 (p := b49) (off := 0) (T := 25) (vs := [iv o50, iv o51]) 1 (iv o50) S (wN rfl) rfl rfl rfl rfl rfl rfl (lb rfl) fun a S => ?_
  refine sBin (iv (w64 (z44 * o50))) S (wN rfl) rfl rfl rfl (bMul _ _ _ _ z44 o50) rfl (lb rfl) fun a S => ?_
  refine sMove (iv z46) S (wN rfl) (.inl rfl) rfl rfl (lb rfl) fun a S => ?_
  refine sField (b := b49) (off := 0) 1 1 S (wN rfl) rfl rfl rfl rfl rfl (lb rfl) fun a S => ?_
  refine sLoad1 (p := b49) (off := 1) (T := 25) (vs := [iv o50, iv o51]) 1 (iv o51) S (wN rfl) rfl rfl rfl rfl rfl rfl (lb rfl) fun a S => ?_
  refine sBin (iv (w64 (z46 * o51))) S (wN rfl) rfl rfl rfl (bMul _ _ _ _ z46 o51) rfl (lb rfl) fun a S => ?_
  obtain ⟨r57, hx58, h⟩ := bindSome h
  refine sCall (X := Value) (f := 60) (vs := [iv (w64 (z44 * o50)), iv (w64 (z46 * o51))]) (val := c_yarn_Make_val r57) (B' := fun _ => []) (D' := c_yarn_Make_D r57) [] [eBox b3 27 [.int .u8 0, iv 0, iv 0], eBox b49 25 [iv o50, iv o51]] [] [0, 1] [] S (wN rfl) rfl callee60 rfl (by decide) rfl rfl (fun E1 w1 S1 => c_yarn_Make E1 w1 (w64 (z44 * o50)) (w64 (z46 * o51)) r57 hx58 S1) rfl (lb rfl) fun u59 a w S => ?_
  obtain rfl : u59 = .agg #[iv r57.1.Num, iv r57.1.Den] := S.mem.know (i := 0) (e := fRep r_api_Ratio (u59) r57.1) rfl
  refine sMove (.tuple #[.agg #[iv r57.1.Num, iv r57.1.Den], iv r57.2]) S (wN rfl) (.inl rfl) rfl rfl (lb rfl) fun a S => ?_
  refine sExtract (vs := [.agg #[iv r57.1.Num, iv r57.1.Den], iv r57.2]) (.agg #[iv r57.1.Num, iv r57.1.Den]) S (wN rfl) rfl rfl rfl rfl (lb rfl) fun a S => ?_
  refine sExtract (vs := [.agg #[iv r57.1.Num, iv r57.1.Den], iv r57.2]) (iv r57.2) S (wN rfl) rfl rfl rfl rfl (lb rfl) fun a S => ?_
  refine sAlloc (.agg #[iv 0, iv 0]) S (wN rfl) rfl rfl [iv 0, iv 0] rfl rfl (lb rfl) fun a b60 w S => ?_
  refine sStore (p := b60) (off := 0) (T := 25) (vs := [iv 0, iv 0]) (v := .agg #[iv r57.1.Num, iv r57.1.Den]) 0 [iv r57.1.Num, iv r57.1.Den] S (wN rfl) rfl rfl rfl rfl rfl rfl rfl (by simp) rfl fun a w S => ?_
  refine sMove (iv r57.2) S (wN rfl) (.inr rfl) rfl rfl (lb rfl) fun a S => ?_
  refine leafL (leafT (hK56 _ _ ?_))
  refine sSeq (fun K61 hK61 => ?_)
  refine sSeq (fun K62 hK62 => ?_)
  refine sRegion ?_
  refine sMove (iv r57.2) S (wN rfl) (.inl rfl) rfl rfl (lb rfl) fun a S => ?_
  refine sBin (.bool (r57.2 != 0)) S (wN rfl) rfl rfl rfl (bNe _ _ _ _ .i64 r57.2 0) rfl (lb rfl) fun a S => ?_
  refine leafL (leafT (hK62 _ _ ?_))
  rcases iteSome h with ⟨hc63, h⟩ | ⟨hc63, h⟩
  · refine sCondT S rfl hc63 ?_
    refine sSeq (fun K64 hK64 => ?_)
    refine sRegion ?_
    refine sBuild [] [.int .u8 0, iv 0, iv 0] S (wN rfl) rfl rfl rfl rfl (lb rfl) fun a S => ?_
    refine sMove (iv r57.2) S (wN rfl) (.inl rfl) rfl rfl (lb rfl) fun a S => ?_
    refine sStore (p := b3) (off := 0) (T := 27) (vs := [.int .u8 0, iv 0, iv 0]) (v := .agg #[.int .u8 0, iv 0, iv 0]) 1 [.int .u8 0, iv 0, iv 0] S (wN rfl) rfl rfl rfl rfl rfl rfl rfl (by simp) rfl fun a w S => ?_
    refine sMove (iv r57.2) S (wN rfl) (.inr rfl) rfl rfl (lb rfl) fun a S => ?_
    refine leafL (leafT (hK64 _ _ ?_))
    obtain rfl := Option.some.inj h
    have S := S.learn (fRep r_api_Count (.agg #[.int .u8 0, iv 0, iv 0]) (api_Count.mk 0 (api_Ratio.mk 0 0))) rfl
    exact wp_ret (rThen (sRet (.tuple #[.agg #[.int .u8 0, iv 0, iv 0], iv r57.2]) S (rsl2 rfl (rvN (c := 4) (t := 27) (T := 27) (p := b3) 0 [.int .u8 0, iv 0, iv 0] S rfl rfl rfl rfl) (rvT (t := 5) (v := iv r57.2) S rfl)) ⟨(.agg #[.int .u8 0, iv 0, iv 0]), rfl, S.mem.sel [] [0] (by decide) rfl rfl⟩))
  refine sCondF S rfl hc63 ?_
  refine wp_skip (leafT (hK61 _ _ ?_))
  refine sSeq (fun K65 hK65 => ?_)
  refine sSeq (fun K66 hK66 => ?_)
  refine sRegion ?_
  refine sField (b := b60) (off := 0) 0 0 S (wN rfl) rfl rfl rfl rfl rfl (lb rfl) fun a S => ?_
  refine sLoad1 (p := b60) (off := 0) (T := 25) (vs := [iv r57.1.Num, iv r57.1.Den]) 0 (iv r57.1.Num) S (wN rfl) rfl rfl rfl rfl rfl rfl (lb rfl) fun a S => ?_
  refine sBin (.bool (r57.1.Num == 0)) S (wN rfl) rfl rfl rfl (bEq _ _ _ _ .i64 r57.1.Num 0) rfl (lb rfl) fun a S => ?_
  refine leafL (leafT (hK66 _ _ ?_))
  rcases iteSome h with ⟨hc67, h⟩ | ⟨hc67, h⟩
  · refine sCondT S rfl hc67 ?_
    refine sSeq (fun K68 hK68 => ?_)
    refine sRegion ?_
    refine sBuild [] [.int .u8 0, iv 0, iv 0] S (wN rfl) rfl rfl rfl rfl (lb rfl) fun a S => ?_
    refine sStore (p := b3) (off := 0) (T := 27) (vs := [.int .u8 0, iv 0, iv 0]) (v := .agg #[.int .u8 0, iv 0, iv 0]) 1 [.int .u8 0, iv 0, iv 0] S (wN rfl) rfl rfl rfl rfl rfl rfl rfl (by simp) rfl fun a w S => ?_
    refine sMove (iv 16) S (wN rfl) (.inr rfl) rfl rfl (lb rfl) fun a S => ?_
    refine leafL (leafT (hK68 _ _ ?_))
    obtain rfl := Option.some.inj h
    have S := S.learn (fRep r_api_Count (.agg #[.int .u8 0, iv 0, iv 0]) (api_Count.mk 0 (api_Ratio.mk 0 0))) rfl
    exact wp_ret (rThen (sRet (.tuple #[.agg #[.int .u8 0, iv 0, iv 0], iv 16]) S (rsl2 rfl (rvN (c := 4) (t := 27) (T := 27) (p := b3) 0 [.int .u8 0, iv 0, iv 0] S rfl rfl rfl rfl) (rvT (t := 5) (v := iv 16) S rfl)) ⟨(.agg #[.int .u8 0, iv 0, iv 0]), rfl, S.mem.sel [] [0] (by decide) rfl rfl⟩))
  refine sCondF S rfl hc67 ?_
  refine wp_skip (leafT (hK65 _ _ ?_))
  refine sSeq (fun K69 hK69 => ?_)
  refine sRegion ?_
  refine sMove (.int .u8 p1) S (wN rfl) (.inl rfl) rfl rfl (lb rfl) fun a S => ?_
  refine sLoadN (p := b60) (off := 0) (T := 25) (vs := [iv r57.1.Num, iv r57.1.Den]) 0 [iv r57.1.Num, iv r57.1.Den] S (wN rfl) rfl rfl rfl rfl rfl rfl rfl (lb rfl) fun a S => ?_
  refine sBuild [(0, .int .u8 p1), (1, .agg #[iv r57.1.Num, iv r57.1.Den])] [.int .u8 p1, iv r57.1.Num, iv r57.1.Den] S (wN rfl) rfl rfl rfl rfl (lb rfl) fun a S => ?_
  refine sStore (p := b3) (off := 0) (T := 27) (vs := [.int .u8 0, iv 0, iv 0]) (v := .agg #[.int .u8 p1, iv r57.1.Num, iv r57.1.Den]) 1 [.int .u8 p1, iv r57.1.Num, iv r57.1.Den] S (wN rfl) rfl rfl rfl rfl rfl rfl rfl (by simp) rfl fun a w S => ?_
  refine sMove (iv 0) S (wN rfl) (.inr rfl) rfl rfl (lb rfl) fun a S => ?_
  refine leafL (leafT (hK69 _ _ ?_))
  obtain rfl := Option.some.inj h
  have S := S.learn (fRep r_api_Count (.agg #[.int .u8 p1, iv r57.1.Num, iv r57.1.Den]) (api_Count.mk p1 r57.1)) rfl
  exact wp_ret (sRet (.tuple #[.agg #[.int .u8 p1, iv r57.1.Num, iv r57.1.Den], iv 0]) S (rsl2 rfl (rvN (c := 4) (t := 27) (T := 27) (p := b3) 0 [.int .u8 p1, iv r57.1.Num, iv r57.1.Den] S rfl rfl rfl rfl) (rvT (t := 5) (v := iv 0) S rfl)) ⟨(.agg #[.int .u8 p1, iv r57.1.Num, iv r57.1.Den]), rfl, S.mem.sel [] [0] (by decide) rfl rfl⟩)

end Go.Proofs.Ytdbgkakmhlmpbaa
namespace Go.Proofs.Ytdbgkakmhlmpbaa
open Go.RowKit
set_option linter.unusedVariables false

noncomputable def F_yarn_Weigh (p0 : api_Count) (p1 : Int) : Option (api_Ratio × Int) :=
  Option.bind (F_yarn_counted p0) fun r6 =>
  if r6 != 0 then
    some ((api_Ratio.mk 0 0), r6)
  else
    Option.bind (α := Bool) (
      if decide (p1 < 0) then
        some true
      else
        some (decide (1000000000 < p1))) fun o12 =>
    if o12 then
      some ((api_Ratio.mk 0 0), 2)
    else
      Option.bind (F_yarn_Convert p0 1) fun r19 =>
      if r19.2 != 0 then
        some ((api_Ratio.mk 0 0), r19.2)
      else
        Option.bind (F_yarn_Make (w64 (p1 * r19.1.N.Num)) (w64 (10000 * r19.1.N.Den))) fun r28 =>
        some (r28.1, r28.2)
def c_yarn_Weigh_val (r : (api_Ratio × Int)) (x : Value) : Value := .tuple #[x, .int .i64 r.2]
def c_yarn_Weigh_D (r : (api_Ratio × Int)) (x : Value) : List Fact := [fRep r_api_Ratio x r.1]
set_option maxHeartbeats 4000000 in
set_option maxRecDepth 100000 in
theorem c_yarn_Weigh (E : Nat → Prop) (w0 : World) (p0 : api_Count) (v0 : Value) (p1 : Int) (r : (api_Ratio × Int)) (h : F_yarn_Weigh p0 p1 = some r) (S : St0 E [] w0 w0 [] [fRep r_api_Count (v0) p0]) :
    Calls Try.prog 37 #[v0, iv p1] w0 (Ret (X := Value) E [] w0 (c_yarn_Weigh_val r) (fun _ => []) (c_yarn_Weigh_D r)) := by
  unfold F_yarn_Weigh at h
  obtain rfl : v0 = .agg #[.int .u8 p0.System, iv p0.N.Num, iv p0.N.Den] := S.know (i := 0) (e := fRep r_api_Count (v0) p0) rfl
  refine sEnter (args := [.agg #[.int .u8 p0.System, iv p0.N.Num, iv p0.N.Den], iv p1]) 43 Try.func37 rfl rfl (by simp) S (fun a S => ?_)
  refine sSeq (fun K1 hK1 => ?_)
  refine sRegion ?_
  refine sBox (v := .agg #[.int .u8 p0.System, iv p0.N.Num, iv p0.N.Den]) S (wN rfl) rfl rfl [.int .u8 p0.System, iv p0.N.Num, iv p0.N.Den] rfl rfl (lb rfl) fun a b2 w S => ?_
  refine sAlloc (.agg #[iv 0, iv 0]) S (wN rfl) rfl rfl [iv 0, iv 0] rfl rfl (lb rfl) fun a b3 w S => ?_
  refine sMove (iv 0) S (wN rfl) (.inr rfl) rfl rfl (lb rfl) fun a S => ?_
  refine leafL (leafT (hK1 _ _ ?_))
  refine sSeq (fun K4 hK4 => ?_)
  refine sSeq (fun K5 hK5 => ?_)
  refine sRegion ?_
  refine sLoadN (p := b2) (off := 0) (T := 27) (vs := [.int .u8 p0.System, iv p0.N.Num, iv p0.N.Den]) 1 [.int .u8 p0.System, iv p0.N.Num, iv p0.N.Den] S (wN rfl) rfl rfl rfl rfl rfl rfl rfl (lb rfl) fun a S => ?_
  obtain ⟨r6, hx7, h⟩ := bindSome h
  have S1 := S.mem
  refine sCallQ (X := Unit) (f := 58) (vs := [.agg #[.int .u8 p0.System, iv p0.N.Num, iv p0.N.Den]]) (val := fun _ => iv r6) S (wN rfl) rfl callee58 rfl (S1.quiet [0] rfl) (fun E1 w1 S1 => c_yarn_counted E1 w1 p0 (.agg #[.int .u8 p0.System, iv p0.N.Num, iv p0.N.Den]) r6 hx7 S1) rfl (lb rfl) fun _ a w S => ?_
  refine sMove (iv r6) S (wN rfl) (.inr rfl) rfl rfl (lb rfl) fun a S => ?_
  refine leafL (leafT (hK5 _ _ ?_))
  refine sSeq (fun K8 hK8 => ?_)
  refine sRegion ?_
  refine sMove (iv r6) S (wN rfl) (.inl rfl) rfl rfl (lb rfl) fun a S => ?_
  refine sBin (.bool (r6 != 0)) S (wN rfl) rfl rfl rfl (bNe _ _ _ _ .i64 r6 0) rfl (lb rfl) fun a S => ?_
  refine leafL (leafT (hK8 _ _ ?_))
  rcases iteSome h with ⟨hc9, h⟩ | ⟨hc9, h⟩
  · refine sCondT S rfl hc9 ?_
    refine sSeq (fun K10 hK10 => ?_)
    refine sRegion ?_
    refine sBuild [] [iv 0, iv 0] S (wN rfl) rfl rfl rfl rfl (lb rfl) fun a S => ?_
    refine sMove (iv r6) S (wN rfl) (.inl rfl) rfl rfl (lb rfl) fun a S => ?_
    refine sStore (p := b3) (off := 0) (T := 25) (vs := [iv 0, iv 0]) (v := .agg #[iv 0, iv 0]) 0 [iv 0, iv 0] S (wN rfl) rfl rfl rfl rfl rfl rfl rfl (by simp) rfl fun a w S => ?_
    refine sMove (iv r6) S (wN rfl) (.inr rfl) rfl rfl (lb rfl) fun a S => ?_
    refine leafL (leafT (hK10 _ _ ?_))
    obtain rfl := Option.some.inj h
    have S := S.learn (fRep r_api_Ratio (.agg #[iv 0, iv 0]) (api_Ratio.mk 0 0)) rfl
    exact wp_ret (rThen (sRet (.tuple #[.agg #[iv 0, iv 0], iv r6]) S (rsl2 rfl (rvN (c := 4) (t := 25) (T := 25) (p := b3) 0 [iv 0, iv 0] S rfl rfl rfl rfl) (rvT (t := 5) (v := iv r6) S rfl)) ⟨(.agg #[iv 0, iv 0]), rfl, S.mem.sel [] [0] (by decide) rfl rfl⟩))
  refine sCondF S rfl hc9 ?_
  refine wp_skip (leafT (hK4 _ _ ?_))
  refine sSeq (fun K11 hK11 => ?_)
  obtain ⟨t13, h, g14⟩ := bindSome h
  refine sCut (fun a w => ∃ o12, o12 = t13 ∧ St [] E [] w0 43 a w [(1, iv p1), (2, .pointer (some ⟨b2, 0, none⟩)), (4, .pointer (some ⟨b3, 0, none⟩)), (20, .bool o12)] [eBox b2 27 [.int .u8 p0.System, iv p0.N.Num, iv p0.N.Den], eBox b3 25 [iv 0, iv 0]] []) ?_ (fun a w hI => ?_)
  · refine sRegion ?_
    refine sMove (iv p1) S (wN rfl) (.inl rfl) rfl rfl (lb rfl) fun a S => ?_
    refine sBin (.bool (decide (p1 < 0))) S (wN rfl) rfl rfl rfl (bLt _ _ _ _ .i64 p1 0) rfl (lb rfl) fun a S => ?_
    refine sMove (.bool (decide (p1 < 0))) S (wN rfl) (.inl rfl) rfl rfl (lb rfl) fun a S => ?_
    rcases iteSome h with ⟨hc15, h⟩ | ⟨hc15, h⟩
    · refine sSkip 2 false 17 18 S rfl rfl rfl hc15 rfl (lb rfl) fun a S => ?_
      refine sSkip 2 false 17 19 S rfl rfl rfl hc15 rfl (lb rfl) fun a S => ?_
      refine sPickT (.bool true) S (wN rfl) rfl rfl hc15 rfl rfl (lb rfl) fun a S => ?_
      exact leafL (leafT (⟨true, Option.some.inj h, S.fix [1, 0] [] (by decide) rfl rfl rfl⟩))
    refine sMove (iv p1) S (wG 2 false 17 rfl rfl rfl hc15) (.inl rfl) rfl rfl (lb rfl) fun a S => ?_
    refine sBin (.bool (decide (1000000000 < p1))) S (wG 2 false 17 rfl rfl rfl hc15) rfl rfl rfl (bGt _ _ _ _ .i64 p1 1000000000) rfl (lb rfl) fun a S => ?_
    refine sPickF (.bool (decide (1000000000 < p1))) S (wN rfl) rfl rfl hc15 rfl rfl (lb rfl) fun a S => ?_
    exact leafL (leafT (⟨decide (1000000000 < p1), Option.some.inj h, S.fix [1, 0] [] (by decide) rfl rfl rfl⟩))
  obtain ⟨o12, rfl, S⟩ := hI
  have h := g14
  clear g14
  try dsimp only at h
  rcases iteSome h with ⟨hc16, h⟩ | ⟨hc16, h⟩
  · refine sCondT S rfl hc16 ?_
    refine sSeq (fun K17 hK17 => ?_)
    refine sRegion ?_
    refine sBuild [] [iv 0, iv 0] S (wN rfl) rfl rfl rfl rfl (lb rfl) fun a S => ?_
    refine sStore (p := b3) (off := 0) (T := 25) (vs := [iv 0, iv 0]) (v := .agg #[iv 0, iv 0]) 1 [iv 0, iv 0] S (wN rfl) rfl rfl rfl rfl rfl rfl rfl (by simp) rfl fun a w S => ?_
    refine sMove (iv 2) S (wN rfl) (.inr rfl) rfl rfl (lb rfl) fun a S => ?_
    refine leafL (leafT (hK17 _ _ ?_))
    obtain rfl := Option.some.inj h
    have S := S.learn (fRep r_api_Ratio (.agg #[iv 0, iv 0]) (api_Ratio.mk 0 0)) rfl
    exact wp_ret (rThen (sRet (.tuple #[.agg #[iv 0, iv 0], iv 2]) S (rsl2 rfl (rvN (c := 4) (t := 25) (T := 25) (p := b3) 0 [iv 0, iv 0] S rfl rfl rfl rfl) (rvT (t := 5) (v := iv 2) S rfl)) ⟨(.agg #[iv 0, iv 0]), rfl, S.mem.sel [] [0] (by decide) rfl rfl⟩))
  refine sCondF S rfl hc16 ?_
  refine wp_skip (leafT (hK11 _ _ ?_))
  refine sSeq (fun K18 hK18 => ?_)
  refine sRegion ?_
  refine sLoadN (p := b2) (off := 0) (T := 27) (vs := [.int .u8 p0.System, iv p0.N.Num, iv p0.N.Den]) 0 [.int .u8 p0.System, iv p0.N.Num, iv p0.N.Den] S (wN rfl) rfl rfl rfl rfl rfl rfl rfl (lb rfl) fun a S => ?_
  obtain ⟨r19, hx20, h⟩ := bindSome h
  have S := S.learn (fRep r_api_Count (.agg #[.int .u8 p0.System, iv p0.N.Num, iv p0.N.Den]) p0) rfl
  refine sCall (X := Value) (f := 59) (vs := [.agg #[.int .u8 p0.System, iv p0.N.Num, iv p0.N.Den], .int .u8 1]) (val := c_yarn_Convert_val r19) (B' := fun _ => []) (D' := c_yarn_Convert_D r19) [] [eBox b2 27 [.int .u8 p0.System, iv p0.N.Num, iv p0.N.Den], eBox b3 25 [iv 0, iv 0]] [fRep r_api_Count (.agg #[.int .u8 p0.System, iv p0.N.Num, iv p0.N.Den]) p0] [0, 1] [0] S (wN rfl) rfl callee59 rfl (by decide) rfl rfl (fun E1 w1 S1 => c_yarn_Convert E1 w1 p0 (.agg #[.int .u8 p0.System, iv p0.N.Num, iv p0.N.Den]) 1 r19 hx20 S1) rfl (lb rfl) fun u21 a w S => ?_
  obtain rfl : u21 = .agg #[.int .u8 r19.1.System, iv r19.1.N.Num, iv r19.1.N.Den] := S.mem.know (i := 0) (e := fRep r_api_Count (u21) r19.1) rfl
  refine sMove (.tuple #[.agg #[.int .u8 r19.1.System, iv r19.1.N.Num, iv r19.1.N.Den], iv r19.2]) S (wN rfl) (.inl rfl) rfl rfl (lb rfl) fun a S => ?_
  refine sExtract (vs := [.agg #[.int .u8 r19.1.System, iv r19.1.N.Num, iv r19.1.N.Den], iv r19.2]) (.agg #[.int .u8 r19.1.System, iv r19.1.N.Num, iv r19.1.N.Den]) S (wN rfl) rfl rfl rfl rfl (lb rfl) fun a S => ?_
  refine sExtract (vs := [.agg #[.int .u8 r19.1.System, iv r19.1.N.Num, iv r19.1.N.Den], iv r19.2]) (iv r19.2) S (wN rfl) rfl rfl rfl rfl (lb rfl) fun a S => ?_
  refine sAlloc (.agg #[.int .u8 0, iv 0, iv 0]) S (wN rfl) rfl rfl [.int .u8 0, iv 0, iv 0] rfl rfl (lb rfl) fun a b22 w S => ?_
  refine sStore (p := b22) (off := 0) (T := 27) (vs := [.int .u8 0, iv 0, iv 0]) (v := .agg #[.int .u8 r19.1.System, iv r19.1.N.Num, iv r19.1.N.Den]) 0 [.int .u8 r19.1.System, iv r19.1.N.Num, iv r19.1.N.Den] S (wN rfl) rfl rfl rfl rfl rfl rfl rfl (by simp) rfl fun a w S => ?_
  refine sMove (iv r19.2) S (wN rfl) (.inr rfl) rfl rfl (lb rfl) fun a S => ?_
  refine leafL (leafT (hK18 _ _ ?_))
  refine sSeq (fun K23 hK23 => ?_)
  refine sSeq (fun K24 hK24 => ?_)
  refine sRegion ?_
  refine sMove (iv r19.2) S (wN rfl) (.inl rfl) rfl rfl (lb rfl) fun a S => ?_
  refine sBin (.bool (r19.2 != 0)) S (wN rfl) rfl rfl rfl (bNe _ _ _ _ .i64 r19.2 0) rfl (lb rfl) fun a S => ?_
  refine leafL (leafT (hK24 _ _ ?_))
  rcases iteSome h with ⟨hc25, h⟩ | ⟨hc25, h⟩
  · refine sCondT S rfl hc25 ?_
    refine sSeq (fun K26 hK26 => ?_)
    refine sRegion ?_
    refine sBuild [] [iv 0, iv 0] S (wN rfl) rfl rfl rfl rfl (lb rfl) fun a S => ?_
    refine sMove (iv r19.2) S (wN rfl) (.inl rfl) rfl rfl (lb rfl) fun a S => ?_
    refine sStore (p := b3) (off := 0) (T := 25) (vs := [iv 0, iv 0]) (v := .agg #[iv 0, iv 0]) 2 [iv 0, iv 0] S (wN rfl) rfl rfl rfl rfl rfl rfl rfl (by simp) rfl fun a w S => ?_
    refine sMove (iv r19.2) S (wN rfl) (.inr rfl) rfl rfl (lb rfl) fun a S => ?_
    refine leafL (leafT (hK26 _ _ ?_))
    obtain rfl := Option.some.inj h
    have S := S.learn (fRep r_api_Ratio (.agg #[iv 0, iv 0]) (api_Ratio.mk 0 0)) rfl
    exact wp_ret (rThen (sRet (.tuple #[.agg #[iv 0, iv 0], iv r19.2]) S (rsl2 rfl (rvN (c := 4) (t := 25) (T := 25) (p := b3) 0 [iv 0, iv 0] S rfl rfl rfl rfl) (rvT (t := 5) (v := iv r19.2) S rfl)) ⟨(.agg #[iv 0, iv 0]), rfl, S.mem.sel [] [0] (by decide) rfl rfl⟩))
  refine sCondF S rfl hc25 ?_
  refine wp_skip (leafT (hK23 _ _ ?_))
  refine sSeq (fun K27 hK27 => ?_)
  refine sRegion ?_
  refine sMove (iv p1) S (wN rfl) (.inl rfl) rfl rfl (lb rfl) fun a S => ?_
  refine sField (b := b22) (off := 0) 1 1 S (wN rfl) rfl rfl rfl rfl rfl (lb rfl) fun a S => ?_
  refine sField (b := b22) (off := 1) 0 1 S (wN rfl) rfl rfl rfl rfl rfl (lb rfl) fun a S => ?_
  refine sLoad1 (p := b22) (off := 1) (T := 27) (vs := [.int .u8 r19.1.System, iv r19.1.N.Num, iv r19.1.N.Den]) 0 (iv r19.1.N.Num) S (wN rfl) rfl rfl rfl rfl rfl rfl (lb rfl) fun a S => ?_
  refine sBin (iv (w64 (p1 * r19.1.N.Num))) S (wN rfl) rfl rfl rfl (bMul _ _ _ _ p1 r19.1.N.Num) rfl (lb rfl) fun a S => ?_
  refine sField (b := b22) (off := 0) 1 1 S (wN rfl) rfl rfl rfl rfl rfl (lb rfl) fun a S => ?_
  refine sField (b := b22) (off := 1) 1 2 S (wN rfl) rfl rfl rfl rfl rfl (lb rfl) fun a S => ?_
  refine sLoad1 (p := b22) (off := 2) (T := 27) (vs := [.int .u8 r19.1.System, iv r19.1.N.Num, iv r19.1.N.Den]) 0 (iv r19.1.N.Den) S (wN rfl) rfl rfl rfl rfl rfl rfl (lb rfl) fun a S => ?_
  refine sBin (iv (w64 (10000 * r19.1.N.Den))) S (wN rfl) rfl rfl rfl (bMul _ _ _ _ 10000 r19.1.N.Den) rfl (lb rfl) fun a S => ?_
  obtain ⟨r28, hx29, h⟩ := bindSome h
  refine sCall (X := Value) (f := 60) (vs := [iv (w64 (p1 * r19.1.N.Num)), iv (w64 (10000 * r19.1.N.Den))]) (val := c_yarn_Make_val r28) (B' := fun _ => []) (D' := c_yarn_Make_D r28) [] [eBox b22 27 [.int .u8 r19.1.System, iv r19.1.N.Num, iv r19.1.N.Den], eBox b2 27 [.int .u8 p0.System, iv p0.N.Num, iv p0.N.Den], eBox b3 25 [iv 0, iv 0]] [] [0, 1, 2] [] S (wN rfl) rfl callee60 rfl (by decide) rfl rfl (fun E1 w1 S1 => c_yarn_Make E1 w1 (w64 (p1 * r19.1.N.Num)) (w64 (10000 * r19.1.N.Den)) r28 hx29 S1) rfl (lb rfl) fun u30 a w S => ?_
  obtain rfl : u30 = .agg #[iv r28.1.Num, iv r28.1.Den] := S.mem.know (i := 0) (e := fRep r_api_Ratio (u30) r28.1) rfl
  refine sExtract (vs := [.agg #[iv r28.1.Num, iv r28.1.Den], iv r28.2]) (.agg #[iv r28.1.Num, iv r28.1.Den]) S (wN rfl) rfl rfl rfl rfl (lb rfl) fun a S => ?_
  refine sExtract (vs := [.agg #[iv r28.1.Num, iv r28.1.Den], iv r28.2]) (iv r28.2) S (wN rfl) rfl rfl rfl rfl (lb rfl) fun a S => ?_
  refine sStore (p := b3) (off := 0) (T := 25) (vs := [iv 0, iv 0]) (v := .agg #[iv r28.1.Num, iv r28.1.Den]) 2 [iv r28.1.Num, iv r28.1.Den] S (wN rfl) rfl rfl rfl rfl rfl rfl rfl (by simp) rfl fun a w S => ?_
  refine sMove (iv r28.2) S (wN rfl) (.inr rfl) rfl rfl (lb rfl) fun a S => ?_
  refine leafL (leafT (hK27 _ _ ?_))
  obtain rfl := Option.some.inj h
  exact wp_ret (sRet (.tuple #[.agg #[iv r28.1.Num, iv r28.1.Den], iv r28.2]) S (rsl2 rfl (rvN (c := 4) (t := 25) (T := 25) (p := b3) 0 [iv r28.1.Num, iv r28.1.Den] S rfl rfl rfl rfl) (rvT (t := 5) (v := iv r28.2) S rfl)) ⟨(.agg #[iv r28.1.Num, iv r28.1.Den]), rfl, S.mem.sel [] [0] (by decide) rfl rfl⟩)

end Go.Proofs.Ytdbgkakmhlmpbaa
namespace Go.Proofs.Ytdbgkakmhlmpbaa
open Go.RowKit
set_option linter.unusedVariables false

noncomputable def F_cost_Weight (p0 : api_Bill) (p1 : api_Count) : Option (api_Ratio × Int) :=
  Option.bind (α := Bool) (
    if decide (p0.Length < 0) then
      some true
    else
      some (decide (p0.Time < 0))) fun o6 =>
  if o6 then
    some ((api_Ratio.mk 0 0), 2)
  else
    Option.bind (F_yarn_Weigh p1 p0.Length) fun r13 =>
    some (r13.1, r13.2)
def c_cost_Weight_val (r : (api_Ratio × Int)) (x : Value) : Value := .tuple #[x, .int .i64 r.2]
def c_cost_Weight_D (r : (api_Ratio × Int)) (x : Value) : List Fact := [fRep r_api_Ratio x r.1]
set_option maxHeartbeats 4000000 in
set_option maxRecDepth 100000 in
theorem c_cost_Weight (E : Nat → Prop) (w0 : World) (p0 : api_Bill) (v0 : Value) (p1 : api_Count) (v1 : Value) (r : (api_Ratio × Int)) (h : F_cost_Weight p0 p1 = some r) (S : St0 E [] w0 w0 [] [fRep r_api_Bill (v0) p0, fRep r_api_Count (v1) p1]) :
    Calls Try.prog 10 #[v0, v1] w0 (Ret (X := Value) E [] w0 (c_cost_Weight_val r) (fun _ => []) (c_cost_Weight_D r)) := by
  unfold F_cost_Weight at h
  obtain rfl : v0 = .agg #[iv p0.Length, iv p0.Time] := S.know (i := 0) (e := fRep r_api_Bill (v0) p0) rfl
  obtain rfl : v1 = .agg #[.int .u8 p1.System, iv p1.N.Num, iv p1.N.Den] := S.know (i := 1) (e := fRep r_api_Count (v1) p1) rfl
  refine sEnter (args := [.agg #[iv p0.Length, iv p0.Time], .agg #[.int .u8 p1.System, iv p1.N.Num, iv p1.N.Den]]) 21 Try.func10 rfl rfl (by simp) S (fun a S => ?_)
  refine sSeq (fun K1 hK1 => ?_)
  refine sRegion ?_
  refine sBox (v := .agg #[iv p0.Length, iv p0.Time]) S (wN rfl) rfl rfl [iv p0.Length, iv p0.Time] rfl rfl (lb rfl) fun a b2 w S => ?_
  refine sBox (v := .agg #[.int .u8 p1.System, iv p1.N.Num, iv p1.N.Den]) S (wN rfl) rfl rfl [.int .u8 p1.System, iv p1.N.Num, iv p1.N.Den] rfl rfl (lb rfl) fun a b3 w S => ?_
  refine sAlloc (.agg #[iv 0, iv 0]) S (wN rfl) rfl rfl [iv 0, iv 0] rfl rfl (lb rfl) fun a b4 w S => ?_
  refine sMove (iv 0) S (wN rfl) (.inr rfl) rfl rfl (lb rfl) fun a S => ?_
  refine leafL (leafT (hK1 _ _ ?_))
  refine sSeq (fun K5 hK5 => ?_)
  obtain ⟨t7, h, g8⟩ := bindSome h
  refine sCut (fun a w => ∃ o6, o6 = t7 ∧ St [] E [] w0 21 a w [(2, .pointer (some ⟨b2, 0, none⟩)), (3, .pointer (some ⟨b3, 0, none⟩)), (4, .pointer (some ⟨b4, 0, none⟩)), (13, .bool o6)] [eBox b2 23 [iv p0.Length, iv p0.Time], eBox b3 27 [.int .u8 p1.System, iv p1.N.Num, iv p1.N.Den], eBox b4 25 [iv 0, iv 0]] []) ?_ (fun a w hI => ?_)
  · refine sRegion ?_
    refine sField (b := b2) (off := 0) 0 0 S (wN rfl) rfl rfl rfl rfl rfl (lb rfl) fun a S => ?_
    refine sLoad1 (p := b2) (off := 0) (T := 23) (vs := [iv p0.Length, iv p0.Time]) 2 (iv p0.Length) S (wN rfl) rfl rfl rfl rfl rfl rfl (lb rfl) fun a S => ?_
    refine sBin (.bool (decide (p0.Length < 0))) S (wN rfl) rfl rfl rfl (bLt _ _ _ _ .i64 p0.Length 0) rfl (lb rfl) fun a S => ?_
    refine sMove (.bool (decide (p0.Length < 0))) S (wN rfl) (.inl rfl) rfl rfl (lb rfl) fun a S => ?_
    rcases iteSome h with ⟨hc9, h⟩ | ⟨hc9, h⟩
    · refine sSkip 3 false 9 10 S rfl rfl rfl hc9 rfl (lb rfl) fun a S => ?_
      refine sSkip 3 false 9 11 S rfl rfl rfl hc9 rfl (lb rfl) fun a S => ?_
      refine sSkip 3 false 9 12 S rfl rfl rfl hc9 rfl (lb rfl) fun a S => ?_
      refine sPickT (.bool true) S (wN rfl) rfl rfl hc9 rfl rfl (lb rfl) fun a S => ?_
      exact leafL (leafT (⟨true, Option.some.inj h, S.fix [2, 1, 0] [] (by decide) rfl rfl rfl⟩))
    refine sField (b := b2) (off := 0) 1 1 S (wG 3 false 9 rfl rfl rfl hc9) rfl rfl rfl rfl rfl (lb rfl) fun a S => ?_
    refine sLoad1 (p := b2) (off := 1) (T := 23) (vs := [iv p0.Length, iv p0.Time]) 2 (iv p0.Time) S (wG 3 false 9 rfl rfl rfl hc9) rfl rfl rfl rfl rfl rfl (lb rfl) fun a S => ?_
    refine sBin (.bool (decide (p0.Time < 0))) S (wG 3 false 9 rfl rfl rfl hc9) rfl rfl rfl (bLt _ _ _ _ .i64 p0.Time 0) rfl (lb rfl) fun a S => ?_
    refine sPickF (.bool (decide (p0.Time < 0))) S (wN rfl) rfl rfl hc9 rfl rfl (lb rfl) fun a S => ?_
    exact leafL (leafT (⟨decide (p0.Time < 0), Option.some.inj h, S.fix [2, 1, 0] [] (by decide) rfl rfl rfl⟩))
  obtain ⟨o6, rfl, S⟩ := hI
  have h := g8
  clear g8
  try dsimp only at h
  rcases iteSome h with ⟨hc10, h⟩ | ⟨hc10, h⟩
  · refine sCondT S rfl hc10 ?_
    refine sSeq (fun K11 hK11 => ?_)
    refine sRegion ?_
    refine sBuild [] [iv 0, iv 0] S (wN rfl) rfl rfl rfl rfl (lb rfl) fun a S => ?_
    refine sStore (p := b4) (off := 0) (T := 25) (vs := [iv 0, iv 0]) (v := .agg #[iv 0, iv 0]) 2 [iv 0, iv 0] S (wN rfl) rfl rfl rfl rfl rfl rfl rfl (by simp) rfl fun a w S => ?_
    refine sMove (iv 2) S (wN rfl) (.inr rfl) rfl rfl (lb rfl) fun a S => ?_
    refine leafL (leafT (hK11 _ _ ?_))
    obtain rfl := Option.some.inj h
    have S := S.learn (fRep r_api_Ratio (.agg #[iv 0, iv 0]) (api_Ratio.mk 0 0)) rfl
    exact wp_ret (rThen (sRet (.tuple #[.agg #[iv 0, iv 0], iv 2]) S (rsl2 rfl (rvN (c := 4) (t := 25) (T := 25) (p := b4) 0 [iv 0, iv 0] S rfl rfl rfl rfl) (rvT (t := 5) (v := iv 2) S rfl)) ⟨(.agg #[iv 0, iv 0]), rfl, S.mem.sel [] [0] (by decide) rfl rfl⟩))
  refine sCondF S rfl hc10 ?_
  refine wp_skip (leafT (hK5 _ _ ?_))
  refine sSeq (fun K12 hK12 => ?_)
  refine sRegion ?_
  refine sLoadN (p := b3) (off := 0) (T := 27) (vs := [.int .u8 p1.System, iv p1.N.Num, iv p1.N.Den]) 1 [.int .u8 p1.System, iv p1.N.Num, iv p1.N.Den] S (wN rfl) rfl rfl rfl rfl rfl rfl rfl (lb rfl) fun a S => ?_
  refine sField (b := b2) (off := 0) 0 0 S (wN rfl) rfl rfl rfl rfl rfl (lb rfl) fun a S => ?_
  refine sLoad1 (p := b2) (off := 0) (T := 23) (vs := [iv p0.Length, iv p0.Time]) 0 (iv p0.Length) S (wN rfl) rfl rfl rfl rfl rfl rfl (lb rfl) fun a S => ?_
  obtain ⟨r13, hx14, h⟩ := bindSome h
  have S := S.learn (fRep r_api_Count (.agg #[.int .u8 p1.System, iv p1.N.Num, iv p1.N.Den]) p1) rfl
  refine sCall (X := Value) (f := 37) (vs := [.agg #[.int .u8 p1.System, iv p1.N.Num, iv p1.N.Den], iv p0.Length]) (val := c_yarn_Weigh_val r13) (B' := fun _ => []) (D' := c_yarn_Weigh_D r13) [] [eBox b2 23 [iv p0.Length, iv p0.Time], eBox b3 27 [.int .u8 p1.System, iv p1.N.Num, iv p1.N.Den], eBox b4 25 [iv 0, iv 0]] [fRep r_api_Count (.agg #[.int .u8 p1.System, iv p1.N.Num, iv p1.N.Den]) p1] [0, 1, 2] [0] S (wN rfl) rfl callee37 rfl (by decide) rfl rfl (fun E1 w1 S1 => c_yarn_Weigh E1 w1 p1 (.agg #[.int .u8 p1.System, iv p1.N.Num, iv p1.N.Den]) p0.Length r13 hx14 S1) rfl (lb rfl) fun u15 a w S => ?_
  obtain rfl : u15 = .agg #[iv r13.1.Num, iv r13.1.Den] := S.mem.know (i := 0) (e := fRep r_api_Ratio (u15) r13.1) rfl
  refine sExtract (vs := [.agg #[iv r13.1.Num, iv r13.1.Den], iv r13.2]) (.agg #[iv r13.1.Num, iv r13.1.Den]) S (wN rfl) rfl rfl rfl rfl (lb rfl) fun a S => ?_
  refine sExtract (vs := [.agg #[iv r13.1.Num, iv r13.1.Den], iv r13.2]) (iv r13.2) S (wN rfl) rfl rfl rfl rfl (lb rfl) fun a S => ?_
  refine sStore (p := b4) (off := 0) (T := 25) (vs := [iv 0, iv 0]) (v := .agg #[iv r13.1.Num, iv r13.1.Den]) 2 [iv r13.1.Num, iv r13.1.Den] S (wN rfl) rfl rfl rfl rfl rfl rfl rfl (by simp) rfl fun a w S => ?_
  refine sMove (iv r13.2) S (wN rfl) (.inr rfl) rfl rfl (lb rfl) fun a S => ?_
  refine leafL (leafT (hK12 _ _ ?_))
  obtain rfl := Option.some.inj h
  exact wp_ret (sRet (.tuple #[.agg #[iv r13.1.Num, iv r13.1.Den], iv r13.2]) S (rsl2 rfl (rvN (c := 4) (t := 25) (T := 25) (p := b4) 0 [iv r13.1.Num, iv r13.1.Den] S rfl rfl rfl rfl) (rvT (t := 5) (v := iv r13.2) S rfl)) ⟨(.agg #[iv r13.1.Num, iv r13.1.Den]), rfl, S.mem.sel [] [0] (by decide) rfl rfl⟩)

end Go.Proofs.Ytdbgkakmhlmpbaa
namespace Go.Proofs.Ytdbgkakmhlmpbaa
open Go.RowKit
set_option linter.unusedVariables false

noncomputable def F_yarn_floor (p0 : Int) (p1 : Int) : Option Int :=
  Option.bind (quoI p0 p1) fun z3 =>
  Option.bind (α := Int) (
    Option.bind (remI p0 p1) fun z9 =>
    if decide (z9 < 0) then
      some (w64 (z3 - 1))
    else
      some z3) fun o5 =>
  some o5
set_option maxHeartbeats 4000000 in
set_option maxRecDepth 100000 in
theorem c_yarn_floor (E : Nat → Prop) (w0 : World) (p0 : Int) (p1 : Int) (r : Int) (h : F_yarn_floor p0 p1 = some r) (S : St0 E [] w0 w0 [] []) :
    Calls Try.prog 63 #[iv p0, iv p1] w0 (Ret (X := Unit) E [] w0 (fun _ => .int .i64 r) (fun _ => []) (fun _ => [])) := by
  unfold F_yarn_floor at h
  refine sEnter (args := [iv p0, iv p1]) 16 Try.func63 rfl rfl (by simp) S (fun a S => ?_)
  refine sSeq (fun K1 hK1 => ?_)
  refine sRegion ?_
  refine sMove (iv 0) S (wN rfl) (.inr rfl) rfl rfl (lb rfl) fun a S => ?_
  refine leafL (leafT (hK1 _ _ ?_))
  refine sSeq (fun K2 hK2 => ?_)
  refine sRegion ?_
  refine sMove (iv p0) S (wN rfl) (.inl rfl) rfl rfl (lb rfl) fun a S => ?_
  refine sMove (iv p1) S (wN rfl) (.inl rfl) rfl rfl (lb rfl) fun a S => ?_
  obtain ⟨z3, hx4, h⟩ := bindSome h
  refine sBin (iv z3) S (wN rfl) rfl rfl rfl (bQuo _ _ _ _ (x := p0) (y := p1) hx4) rfl (lb rfl) fun a S => ?_
  refine sMove (iv z3) S (wN rfl) (.inr rfl) rfl rfl (lb rfl) fun a S => ?_
  refine leafL (leafT (hK2 _ _ ?_))
  obtain ⟨t6, h, g7⟩ := bindSome h
  refine sCut (fun a w => ∃ o5, o5 = t6 ∧ St [] E [] w0 16 a w [(5, iv o5)] [] []) ?_ (fun a w hI => ?_)
  rotate_left
  · obtain ⟨o5, rfl, S⟩ := hI
    have h := g7
    clear g7
    try dsimp only at h
    refine sSeq (fun K12 hK12 => ?_)
    refine sRegion ?_
    refine sMove (iv o5) S (wN rfl) (.inl rfl) rfl rfl (lb rfl) fun a S => ?_
    refine sMove (iv o5) S (wN rfl) (.inr rfl) rfl rfl (lb rfl) fun a S => ?_
    refine leafL (leafT (hK12 _ _ ?_))
    obtain rfl := Option.some.inj h
    exact wp_ret (sRet (iv o5) S (rsl1 rfl (rvT (t := 4) (v := iv o5) S rfl)) ⟨(), rfl, S.mem.sel [] [] (by decide) rfl rfl⟩)
  refine sSeq (fun K8 hK8 => ?_)
  refine sRegion ?_
  refine sMove (iv p0) S (wN rfl) (.inl rfl) rfl rfl (lb rfl) fun a S => ?_
  refine sMove (iv p1) S (wN rfl) (.inl rfl) rfl rfl (lb rfl) fun a S => ?_
  obtain ⟨z9, hx10, h⟩ := bindSome h
  refine sBin (iv z9) S (wN rfl) rfl rfl rfl (bRem _ _ _ _ (x := p0) (y := p1) hx10) rfl (lb rfl) fun a S => ?_
  refine sBin (.bool (decide (z9 < 0))) S (wN rfl) rfl rfl rfl (bLt _ _ _ _ .i64 z9 0) rfl (lb rfl) fun a S => ?_
  refine leafL (leafT (hK8 _ _ ?_))
  rcases iteSome h with ⟨hc11, h⟩ | ⟨hc11, h⟩
  rotate_left
  · refine sCondF S rfl hc11 ?_
    exact wp_skip (leafT (⟨z3, Option.some.inj h, S.fix [] [] (by decide) rfl rfl rfl⟩))
  refine sCondT S rfl hc11 ?_
  refine sRegion ?_
  refine sMove (iv z3) S (wN rfl) (.inl rfl) rfl rfl (lb rfl) fun a S => ?_
  refine sBin (iv (w64 (z3 - 1))) S (wN rfl) rfl rfl rfl (bSub _ _ _ _ z3 1) rfl (lb rfl) fun a S => ?_
  refine sMove (iv (w64 (z3 - 1))) S (wN rfl) (.inr rfl) rfl rfl (lb rfl) fun a S => ?_
  exact leafL (leafT (⟨w64 (z3 - 1), Option.some.inj h, S.fix [] [] (by decide) rfl rfl rfl⟩))

end Go.Proofs.Ytdbgkakmhlmpbaa
namespace Go.Proofs.Ytdbgkakmhlmpbaa
open Go.RowKit
set_option linter.unusedVariables false

noncomputable def F_yarn_Skeins (p0 : api_Count) (p1 : Int) (p2 : Int) : Option (Int × Int) :=
  Option.bind (F_yarn_Weigh p0 p1) fun r4 =>
  if r4.2 != 0 then
    some (0, r4.2)
  else
    Option.bind (α := Bool) (
      if decide (p2 < 1) then
        some true
      else
        some (decide (1000000000 < p2))) fun o13 =>
    if o13 then
      some (0, 2)
    else
      Option.bind (F_yarn_floor (w64 (0 - r4.1.Num)) (w64 (r4.1.Den * p2))) fun r20 =>
      some (w64 (0 - r20), 0)
set_option maxHeartbeats 4000000 in
set_option maxRecDepth 100000 in
theorem c_yarn_Skeins (E : Nat → Prop) (w0 : World) (p0 : api_Count) (v0 : Value) (p1 : Int) (p2 : Int) (r : (Int × Int)) (h : F_yarn_Skeins p0 p1 p2 = some r) (S : St0 E [] w0 w0 [] [fRep r_api_Count (v0) p0]) :
    Calls Try.prog 39 #[v0, iv p1, iv p2] w0 (Ret (X := Unit) E [] w0 (fun _ => .tuple #[.int .i64 r.1, .int .i64 r.2]) (fun _ => []) (fun _ => [])) := by
  unfold F_yarn_Skeins at h
  obtain rfl : v0 = .agg #[.int .u8 p0.System, iv p0.N.Num, iv p0.N.Den] := S.know (i := 0) (e := fRep r_api_Count (v0) p0) rfl
  refine sEnter (args := [.agg #[.int .u8 p0.System, iv p0.N.Num, iv p0.N.Den], iv p1, iv p2]) 34 Try.func39 rfl rfl (by simp) S (fun a S => ?_)
  refine sSeq (fun K1 hK1 => ?_)
  refine sRegion ?_
  refine sBox (v := .agg #[.int .u8 p0.System, iv p0.N.Num, iv p0.N.Den]) S (wN rfl) rfl rfl [.int .u8 p0.System, iv p0.N.Num, iv p0.N.Den] rfl rfl (lb rfl) fun a b2 w S => ?_
  refine sMove (iv 0) S (wN rfl) (.inr rfl) rfl rfl (lb rfl) fun a S => ?_
  refine sMove (iv 0) S (wN rfl) (.inr rfl) rfl rfl (lb rfl) fun a S => ?_
  refine leafL (leafT (hK1 _ _ ?_))
  refine sSeq (fun K3 hK3 => ?_)
  refine sRegion ?_
  refine sLoadN (p := b2) (off := 0) (T := 27) (vs := [.int .u8 p0.System, iv p0.N.Num, iv p0.N.Den]) 0 [.int .u8 p0.System, iv p0.N.Num, iv p0.N.Den] S (wN rfl) rfl rfl rfl rfl rfl rfl rfl (lb rfl) fun a S => ?_
  refine sMove (iv p1) S (wN rfl) (.inl rfl) rfl rfl (lb rfl) fun a S => ?_
  obtain ⟨r4, hx5, h⟩ := bindSome h
  refine sCall (X := Value) (f := 37) (vs := [.agg #[.int .u8 p0.System, iv p0.N.Num, iv p0.N.Den], iv p1]) (val := c_yarn_Weigh_val r4) (B' := fun _ => []) (D' := c_yarn_Weigh_D r4) [] [eBox b2 27 [.int .u8 p0.System, iv p0.N.Num, iv p0.N.Den]] [fRep r_api_Count (.agg #[.int .u8 p0.System, iv p0.N.Num, iv p0.N.Den]) p0] [0] [0] S (wN rfl) rfl callee37 rfl (by decide) rfl rfl (fun E1 w1 S1 => c_yarn_Weigh E1 w1 p0 (.agg #[.int .u8 p0.System, iv p0.N.Num, iv p0.N.Den]) p1 r4 hx5 S1) rfl (lb rfl) fun u6 a w S => ?_
  obtain rfl : u6 = .agg #[iv r4.1.Num, iv r4.1.Den] := S.mem.know (i := 0) (e := fRep r_api_Ratio (u6) r4.1) rfl
  refine sMove (.tuple #[.agg #[iv r4.1.Num, iv r4.1.Den], iv r4.2]) S (wN rfl) (.inl rfl) rfl rfl (lb rfl) fun a S => ?_
  refine sExtract (vs := [.agg #[iv r4.1.Num, iv r4.1.Den], iv r4.2]) (.agg #[iv r4.1.Num, iv r4.1.Den]) S (wN rfl) rfl rfl rfl rfl (lb rfl) fun a S => ?_
  refine sExtract (vs := [.agg #[iv r4.1.Num, iv r4.1.Den], iv r4.2]) (iv r4.2) S (wN rfl) rfl rfl rfl rfl (lb rfl) fun a S => ?_
  refine sAlloc (.agg #[iv 0, iv 0]) S (wN rfl) rfl rfl [iv 0, iv 0] rfl rfl (lb rfl) fun a b7 w S => ?_
  refine sStore (p := b7) (off := 0) (T := 25) (vs := [iv 0, iv 0]) (v := .agg #[iv r4.1.Num, iv r4.1.Den]) 0 [iv r4.1.Num, iv r4.1.Den] S (wN rfl) rfl rfl rfl rfl rfl rfl rfl (by simp) rfl fun a w S => ?_
  refine sMove (iv r4.2) S (wN rfl) (.inr rfl) rfl rfl (lb rfl) fun a S => ?_
  refine leafL (leafT (hK3 _ _ ?_))
  refine sSeq (fun K8 hK8 => ?_)
  refine sSeq (fun K9 hK9 => ?_)
  refine sRegion ?_
  refine sMove (iv r4.2) S (wN rfl) (.inl rfl) rfl rfl (lb rfl) fun a S => ?_
  refine sBin (.bool (r4.2 != 0)) S (wN rfl) rfl rfl rfl (bNe _ _ _ _ .i64 r4.2 0) rfl (lb rfl) fun a S => ?_
  refine leafL (leafT (hK9 _ _ ?_))
  rcases iteSome h with ⟨hc10, h⟩ | ⟨hc10, h⟩
  · refine sCondT S rfl hc10 ?_
    refine sSeq (fun K11 hK11 => ?_)
    refine sRegion ?_
    refine sMove (iv r4.2) S (wN rfl) (.inl rfl) rfl rfl (lb rfl) fun a S => ?_
    refine sMove (iv 0) S (wN rfl) (.inr rfl) rfl rfl (lb rfl) fun a S => ?_
    refine sMove (iv r4.2) S (wN rfl) (.inr rfl) rfl rfl (lb rfl) fun a S => ?_
    refine leafL (leafT (hK11 _ _ ?_))
    obtain rfl := Option.some.inj h
    exact wp_ret (rThen (sRet (.tuple #[iv 0, iv r4.2]) S (rsl2 rfl (rvT (t := 6) (v := iv 0) S rfl) (rvT (t := 7) (v := iv r4.2) S rfl)) ⟨(), rfl, S.mem.sel [] [] (by decide) rfl rfl⟩))
  refine sCondF S rfl hc10 ?_
  refine wp_skip (leafT (hK8 _ _ ?_))
  refine sSeq (fun K12 hK12 => ?_)
  obtain ⟨t14, h, g15⟩ := bindSome h
  refine sCut (fun a w => ∃ o13, o13 = t14 ∧ St [] E [] w0 34 a w [(2, iv p2), (8, .pointer (some ⟨b7, 0, none⟩)), (24, .bool o13)] [eBox b7 25 [iv r4.1.Num, iv r4.1.Den]] []) ?_ (fun a w hI => ?_)
  · refine sRegion ?_
    refine sMove (iv p2) S (wN rfl) (.inl rfl) rfl rfl (lb rfl) fun a S => ?_
    refine sBin (.bool (decide (p2 < 1))) S (wN rfl) rfl rfl rfl (bLt _ _ _ _ .i64 p2 1) rfl (lb rfl) fun a S => ?_
    refine sMove (.bool (decide (p2 < 1))) S (wN rfl) (.inl rfl) rfl rfl (lb rfl) fun a S => ?_
    rcases iteSome h with ⟨hc16, h⟩ | ⟨hc16, h⟩
    · refine sSkip 2 false 21 22 S rfl rfl rfl hc16 rfl (lb rfl) fun a S => ?_
      refine sSkip 2 false 21 23 S rfl rfl rfl hc16 rfl (lb rfl) fun a S => ?_
      refine sPickT (.bool true) S (wN rfl) rfl rfl hc16 rfl rfl (lb rfl) fun a S => ?_
      exact leafL (leafT (⟨true, Option.some.inj h, S.fix [0] [] (by decide) rfl rfl rfl⟩))
    refine sMove (iv p2) S (wG 2 false 21 rfl rfl rfl hc16) (.inl rfl) rfl rfl (lb rfl) fun a S => ?_
    refine sBin (.bool (decide (1000000000 < p2))) S (wG 2 false 21 rfl rfl rfl hc16) rfl rfl rfl (bGt _ _ _ _ .i64 p2 1000000000) rfl (lb rfl) fun a S => ?_
    refine sPickF (.bool (decide (1000000000 < p2))) S (wN rfl) rfl rfl hc16 rfl rfl (lb rfl) fun a S => ?_
    exact leafL (leafT (⟨decide (1000000000 < p2), Option.some.inj h, S.fix [0] [] (by decide) rfl rfl rfl⟩))
  obtain ⟨o13, rfl, S⟩ := hI
  have h := g15
  clear g15
  try dsimp only at h
  rcases iteSome h with ⟨hc17, h⟩ | ⟨hc17, h⟩
  · refine sCondT S rfl hc17 ?_
    refine sSeq (fun K18 hK18 => ?_)
    refine sRegion ?_
    refine sMove (iv 0) S (wN rfl) (.inr rfl) rfl rfl (lb rfl) fun a S => ?_
    refine sMove (iv 2) S (wN rfl) (.inr rfl) rfl rfl (lb rfl) fun a S => ?_
    refine leafL (leafT (hK18 _ _ ?_))
    obtain rfl := Option.some.inj h
    exact wp_ret (rThen (sRet (.tuple #[iv 0, iv 2]) S (rsl2 rfl (rvT (t := 6) (v := iv 0) S rfl) (rvT (t := 7) (v := iv 2) S rfl)) ⟨(), rfl, S.mem.sel [] [] (by decide) rfl rfl⟩))
  refine sCondF S rfl hc17 ?_
  refine wp_skip (leafT (hK12 _ _ ?_))
  refine sSeq (fun K19 hK19 => ?_)
  refine sRegion ?_
  refine sField (b := b7) (off := 0) 0 0 S (wN rfl) rfl rfl rfl rfl rfl (lb rfl) fun a S => ?_
  refine sLoad1 (p := b7) (off := 0) (T := 25) (vs := [iv r4.1.Num, iv r4.1.Den]) 0 (iv r4.1.Num) S (wN rfl) rfl rfl rfl rfl rfl rfl (lb rfl) fun a S => ?_
  refine sNeg (b := r4.1.Num) S (wN rfl) rfl rfl rfl (lb rfl) fun a S => ?_
  refine sField (b := b7) (off := 0) 1 1 S (wN rfl) rfl rfl rfl rfl rfl (lb rfl) fun a S => ?_
  refine sLoad1 (p := b7) (off := 1) (T := 25) (vs := [iv r4.1.Num, iv r4.1.Den]) 0 (iv r4.1.Den) S (wN rfl) rfl rfl rfl rfl rfl rfl (lb rfl) fun a S => ?_
  refine sMove (iv p2) S (wN rfl) (.inl rfl) rfl rfl (lb rfl) fun a S => ?_
  refine sBin (iv (w64 (r4.1.Den * p2))) S (wN rfl) rfl rfl rfl (bMul _ _ _ _ r4.1.Den p2) rfl (lb rfl) fun a S => ?_
  obtain ⟨r20, hx21, h⟩ := bindSome h
  have S1 := S.mem
  refine sCallQ (X := Unit) (f := 63) (vs := [iv (w64 (0 - r4.1.Num)), iv (w64 (r4.1.Den * p2))]) (val := fun _ => iv r20) S (wN rfl) rfl callee63 rfl (S1.quiet [] rfl) (fun E1 w1 S1 => c_yarn_floor E1 w1 (w64 (0 - r4.1.Num)) (w64 (r4.1.Den * p2)) r20 hx21 S1) rfl (lb rfl) fun _ a w S => ?_
  refine sNeg (b := r20) S (wN rfl) rfl rfl rfl (lb rfl) fun a S => ?_
  refine sMove (iv (w64 (0 - r20))) S (wN rfl) (.inr rfl) rfl rfl (lb rfl) fun a S => ?_
  refine sMove (iv 0) S (wN rfl) (.inr rfl) rfl rfl (lb rfl) fun a S => ?_
  refine leafL (leafT (hK19 _ _ ?_))
  obtain rfl := Option.some.inj h
  exact wp_ret (sRet (.tuple #[iv (w64 (0 - r20)), iv 0]) S (rsl2 rfl (rvT (t := 6) (v := iv (w64 (0 - r20))) S rfl) (rvT (t := 7) (v := iv 0) S rfl)) ⟨(), rfl, S.mem.sel [] [] (by decide) rfl rfl⟩)

end Go.Proofs.Ytdbgkakmhlmpbaa
namespace Go.Proofs.Ytdbgkakmhlmpbaa
open Go.RowKit
set_option linter.unusedVariables false

noncomputable def F_cost_Price (p0 : api_Bill) (p1 : api_Count) (p2 : Int) (p3 : Int) : Option (Int × Int × Int) :=
  Option.bind (α := Bool) (
    if decide (p0.Length < 0) then
      some true
    else
      some (decide (p0.Time < 0))) fun o5 =>
  if o5 then
    some (0, 0, 2)
  else
    Option.bind (F_yarn_Skeins p1 p0.Length p2) fun r12 =>
    if r12.2 != 0 then
      some (0, 0, r12.2)
    else
      Option.bind (α := Bool) (
        if decide (p3 < 0) then
          some true
        else
          some (decide (1000000 < p3))) fun o19 =>
      if o19 then
        some (0, 0, 2)
      else
        some (r12.1, w64 (r12.1 * p3), 0)
set_option maxHeartbeats 4000000 in
set_option maxRecDepth 100000 in
theorem c_cost_Price (E : Nat → Prop) (w0 : World) (p0 : api_Bill) (v0 : Value) (p1 : api_Count) (v1 : Value) (p2 : Int) (p3 : Int) (r : (Int × Int × Int)) (h : F_cost_Price p0 p1 p2 p3 = some r) (S : St0 E [] w0 w0 [] [fRep r_api_Bill (v0) p0, fRep r_api_Count (v1) p1]) :
    Calls Try.prog 12 #[v0, v1, iv p2, iv p3] w0 (Ret (X := Unit) E [] w0 (fun _ => .tuple #[.int .i64 r.1, .int .i64 r.2.1, .int .i64 r.2.2]) (fun _ => []) (fun _ => [])) := by
  unfold F_cost_Price at h
  obtain rfl : v0 = .agg #[iv p0.Length, iv p0.Time] := S.know (i := 0) (e := fRep r_api_Bill (v0) p0) rfl
  obtain rfl : v1 = .agg #[.int .u8 p1.System, iv p1.N.Num, iv p1.N.Den] := S.know (i := 1) (e := fRep r_api_Count (v1) p1) rfl
  refine sEnter (args := [.agg #[iv p0.Length, iv p0.Time], .agg #[.int .u8 p1.System, iv p1.N.Num, iv p1.N.Den], iv p2, iv p3]) 42 Try.func12 rfl rfl (by simp) S (fun a S => ?_)
  refine sSeq (fun K1 hK1 => ?_)
  refine sRegion ?_
  refine sBox (v := .agg #[iv p0.Length, iv p0.Time]) S (wN rfl) rfl rfl [iv p0.Length, iv p0.Time] rfl rfl (lb rfl) fun a b2 w S => ?_
  refine sBox (v := .agg #[.int .u8 p1.System, iv p1.N.Num, iv p1.N.Den]) S (wN rfl) rfl rfl [.int .u8 p1.System, iv p1.N.Num, iv p1.N.Den] rfl rfl (lb rfl) fun a b3 w S => ?_
  refine sMove (iv 0) S (wN rfl) (.inr rfl) rfl rfl (lb rfl) fun a S => ?_
  refine sMove (iv 0) S (wN rfl) (.inr rfl) rfl rfl (lb rfl) fun a S => ?_
  refine sMove (iv 0) S (wN rfl) (.inr rfl) rfl rfl (lb rfl) fun a S => ?_
  refine leafL (leafT (hK1 _ _ ?_))
  refine sSeq (fun K4 hK4 => ?_)
  obtain ⟨t6, h, g7⟩ := bindSome h
  refine sCut (fun a w => ∃ o5, o5 = t6 ∧ St [] E [] w0 42 a w [(2, iv p2), (3, iv p3), (4, .pointer (some ⟨b2, 0, none⟩)), (5, .pointer (some ⟨b3, 0, none⟩)), (20, .bool o5)] [eBox b2 23 [iv p0.Length, iv p0.Time], eBox b3 27 [.int .u8 p1.System, iv p1.N.Num, iv p1.N.Den]] []) ?_ (fun a w hI => ?_)
  · refine sRegion ?_
    refine sField (b := b2) (off := 0) 0 0 S (wN rfl) rfl rfl rfl rfl rfl (lb rfl) fun a S => ?_
    refine sLoad1 (p := b2) (off := 0) (T := 23) (vs := [iv p0.Length, iv p0.Time]) 1 (iv p0.Length) S (wN rfl) rfl rfl rfl rfl rfl rfl (lb rfl) fun a S => ?_
    refine sBin (.bool (decide (p0.Length < 0))) S (wN rfl) rfl rfl rfl (bLt _ _ _ _ .i64 p0.Length 0) rfl (lb rfl) fun a S => ?_
    refine sMove (.bool (decide (p0.Length < 0))) S (wN rfl) (.inl rfl) rfl rfl (lb rfl) fun a S => ?_
    rcases iteSome h with ⟨hc8, h⟩ | ⟨hc8, h⟩
    · refine sSkip 3 false 16 17 S rfl rfl rfl hc8 rfl (lb rfl) fun a S => ?_
      refine sSkip 3 false 16 18 S rfl rfl rfl hc8 rfl (lb rfl) fun a S => ?_
      refine sSkip 3 false 16 19 S rfl rfl rfl hc8 rfl (lb rfl) fun a S => ?_
      refine sPickT (.bool true) S (wN rfl) rfl rfl hc8 rfl rfl (lb rfl) fun a S => ?_
      exact leafL (leafT (⟨true, Option.some.inj h, S.fix [1, 0] [] (by decide) rfl rfl rfl⟩))
    refine sField (b := b2) (off := 0) 1 1 S (wG 3 false 16 rfl rfl rfl hc8) rfl rfl rfl rfl rfl (lb rfl) fun a S => ?_
    refine sLoad1 (p := b2) (off := 1) (T := 23) (vs := [iv p0.Length, iv p0.Time]) 1 (iv p0.Time) S (wG 3 false 16 rfl rfl rfl hc8) rfl rfl rfl rfl rfl rfl (lb rfl) fun a S => ?_
    refine sBin (.bool (decide (p0.Time < 0))) S (wG 3 false 16 rfl rfl rfl hc8) rfl rfl rfl (bLt _ _ _ _ .i64 p0.Time 0) rfl (lb rfl) fun a S => ?_
    refine sPickF (.bool (decide (p0.Time < 0))) S (wN rfl) rfl rfl hc8 rfl rfl (lb rfl) fun a S => ?_
    exact leafL (leafT (⟨decide (p0.Time < 0), Option.some.inj h, S.fix [1, 0] [] (by decide) rfl rfl rfl⟩))
  obtain ⟨o5, rfl, S⟩ := hI
  have h := g7
  clear g7
  try dsimp only at h
  rcases iteSome h with ⟨hc9, h⟩ | ⟨hc9, h⟩
  · refine sCondT S rfl hc9 ?_
    refine sSeq (fun K10 hK10 => ?_)
    refine sRegion ?_
    refine sMove (iv 0) S (wN rfl) (.inr rfl) rfl rfl (lb rfl) fun a S => ?_
    refine sMove (iv 0) S (wN rfl) (.inr rfl) rfl rfl (lb rfl) fun a S => ?_
    refine sMove (iv 2) S (wN rfl) (.inr rfl) rfl rfl (lb rfl) fun a S => ?_
    refine leafL (leafT (hK10 _ _ ?_))
    obtain rfl := Option.some.inj h
    exact wp_ret (rThen (sRet (.tuple #[iv 0, iv 0, iv 2]) S (rsl3 rfl (rvT (t := 8) (v := iv 0) S rfl) (rvT (t := 9) (v := iv 0) S rfl) (rvT (t := 10) (v := iv 2) S rfl)) ⟨(), rfl, S.mem.sel [] [] (by decide) rfl rfl⟩))
  refine sCondF S rfl hc9 ?_
  refine wp_skip (leafT (hK4 _ _ ?_))
  refine sSeq (fun K11 hK11 => ?_)
  refine sRegion ?_
  refine sLoadN (p := b3) (off := 0) (T := 27) (vs := [.int .u8 p1.System, iv p1.N.Num, iv p1.N.Den]) 1 [.int .u8 p1.System, iv p1.N.Num, iv p1.N.Den] S (wN rfl) rfl rfl rfl rfl rfl rfl rfl (lb rfl) fun a S => ?_
  refine sField (b := b2) (off := 0) 0 0 S (wN rfl) rfl rfl rfl rfl rfl (lb rfl) fun a S => ?_
  refine sLoad1 (p := b2) (off := 0) (T := 23) (vs := [iv p0.Length, iv p0.Time]) 0 (iv p0.Length) S (wN rfl) rfl rfl rfl rfl rfl rfl (lb rfl) fun a S => ?_
  refine sMove (iv p2) S (wN rfl) (.inl rfl) rfl rfl (lb rfl) fun a S => ?_
  obtain ⟨r12, hx13, h⟩ := bindSome h
  have S1 := S.mem
  have S1 := S1.learn (fRep r_api_Count (.agg #[.int .u8 p1.System, iv p1.N.Num, iv p1.N.Den]) p1) rfl
  refine sCallQ (X := Unit) (f := 39) (vs := [.agg #[.int .u8 p1.System, iv p1.N.Num, iv p1.N.Den], iv p0.Length, iv p2]) (val := fun _ => .tuple #[iv r12.1, iv r12.2]) S (wN rfl) rfl callee39 rfl (S1.quiet [0] rfl) (fun E1 w1 S1 => c_yarn_Skeins E1 w1 p1 (.agg #[.int .u8 p1.System, iv p1.N.Num, iv p1.N.Den]) p0.Length p2 r12 hx13 S1) rfl (lb rfl) fun _ a w S => ?_
  refine sMove (.tuple #[iv r12.1, iv r12.2]) S (wN rfl) (.inl rfl) rfl rfl (lb rfl) fun a S => ?_
  refine sExtract (vs := [iv r12.1, iv r12.2]) (iv r12.1) S (wN rfl) rfl rfl rfl rfl (lb rfl) fun a S => ?_
  refine sExtract (vs := [iv r12.1, iv r12.2]) (iv r12.2) S (wN rfl) rfl rfl rfl rfl (lb rfl) fun a S => ?_
  refine sMove (iv r12.1) S (wN rfl) (.inr rfl) rfl rfl (lb rfl) fun a S => ?_
  refine sMove (iv r12.2) S (wN rfl) (.inr rfl) rfl rfl (lb rfl) fun a S => ?_
  refine leafL (leafT (hK11 _ _ ?_))
  refine sSeq (fun K14 hK14 => ?_)
  refine sSeq (fun K15 hK15 => ?_)
  refine sRegion ?_
  refine sMove (iv r12.2) S (wN rfl) (.inl rfl) rfl rfl (lb rfl) fun a S => ?_
  refine sBin (.bool (r12.2 != 0)) S (wN rfl) rfl rfl rfl (bNe _ _ _ _ .i64 r12.2 0) rfl (lb rfl) fun a S => ?_
  refine leafL (leafT (hK15 _ _ ?_))
  rcases iteSome h with ⟨hc16, h⟩ | ⟨hc16, h⟩
  · refine sCondT S rfl hc16 ?_
    refine sSeq (fun K17 hK17 => ?_)
    refine sRegion ?_
    refine sMove (iv r12.2) S (wN rfl) (.inl rfl) rfl rfl (lb rfl) fun a S => ?_
    refine sMove (iv 0) S (wN rfl) (.inr rfl) rfl rfl (lb rfl) fun a S => ?_
    refine sMove (iv 0) S (wN rfl) (.inr rfl) rfl rfl (lb rfl) fun a S => ?_
    refine sMove (iv r12.2) S (wN rfl) (.inr rfl) rfl rfl (lb rfl) fun a S => ?_
    refine leafL (leafT (hK17 _ _ ?_))
    obtain rfl := Option.some.inj h
    exact wp_ret (rThen (sRet (.tuple #[iv 0, iv 0, iv r12.2]) S (rsl3 rfl (rvT (t := 8) (v := iv 0) S rfl) (rvT (t := 9) (v := iv 0) S rfl) (rvT (t := 10) (v := iv r12.2) S rfl)) ⟨(), rfl, S.mem.sel [] [] (by decide) rfl rfl⟩))
  refine sCondF S rfl hc16 ?_
  refine wp_skip (leafT (hK14 _ _ ?_))
  refine sSeq (fun K18 hK18 => ?_)
  obtain ⟨t20, h, g21⟩ := bindSome h
  refine sCut (fun a w => ∃ o19, o19 = t20 ∧ St [] E [] w0 42 a w [(3, iv p3), (11, iv r12.1), (37, .bool o19)] [] []) ?_ (fun a w hI => ?_)
  · refine sRegion ?_
    refine sMove (iv p3) S (wN rfl) (.inl rfl) rfl rfl (lb rfl) fun a S => ?_
    refine sBin (.bool (decide (p3 < 0))) S (wN rfl) rfl rfl rfl (bLt _ _ _ _ .i64 p3 0) rfl (lb rfl) fun a S => ?_
    refine sMove (.bool (decide (p3 < 0))) S (wN rfl) (.inl rfl) rfl rfl (lb rfl) fun a S => ?_
    rcases iteSome h with ⟨hc22, h⟩ | ⟨hc22, h⟩
    · refine sSkip 2 false 34 35 S rfl rfl rfl hc22 rfl (lb rfl) fun a S => ?_
      refine sSkip 2 false 34 36 S rfl rfl rfl hc22 rfl (lb rfl) fun a S => ?_
      refine sPickT (.bool true) S (wN rfl) rfl rfl hc22 rfl rfl (lb rfl) fun a S => ?_
      exact leafL (leafT (⟨true, Option.some.inj h, S.fix [] [] (by decide) rfl rfl rfl⟩))
    refine sMove (iv p3) S (wG 2 false 34 rfl rfl rfl hc22) (.inl rfl) rfl rfl (lb rfl) fun a S => ?_
    refine sBin (.bool (decide (1000000 < p3))) S (wG 2 false 34 rfl rfl rfl hc22) rfl rfl rfl (bGt _ _ _ _ .i64 p3 1000000) rfl (lb rfl) fun a S => ?_
    refine sPickF (.bool (decide (1000000 < p3))) S (wN rfl) rfl rfl hc22 rfl rfl (lb rfl) fun a S => ?_
    exact leafL (leafT (⟨decide (1000000 < p3), Option.some.inj h, S.fix [] [] (by decide) rfl rfl rfl⟩))
  obtain ⟨o19, rfl, S⟩ := hI
  have h := g21
  clear g21
  try dsimp only at h
  rcases iteSome h with ⟨hc23, h⟩ | ⟨hc23, h⟩
  · refine sCondT S rfl hc23 ?_
    refine sSeq (fun K24 hK24 => ?_)
    refine sRegion ?_
    refine sMove (iv 0) S (wN rfl) (.inr rfl) rfl rfl (lb rfl) fun a S => ?_
    refine sMove (iv 0) S (wN rfl) (.inr rfl) rfl rfl (lb rfl) fun a S => ?_
    refine sMove (iv 2) S (wN rfl) (.inr rfl) rfl rfl (lb rfl) fun a S => ?_
    refine leafL (leafT (hK24 _ _ ?_))
    obtain rfl := Option.some.inj h
    exact wp_ret (rThen (sRet (.tuple #[iv 0, iv 0, iv 2]) S (rsl3 rfl (rvT (t := 8) (v := iv 0) S rfl) (rvT (t := 9) (v := iv 0) S rfl) (rvT (t := 10) (v := iv 2) S rfl)) ⟨(), rfl, S.mem.sel [] [] (by decide) rfl rfl⟩))
  refine sCondF S rfl hc23 ?_
  refine wp_skip (leafT (hK18 _ _ ?_))
  refine sSeq (fun K25 hK25 => ?_)
  refine sRegion ?_
  refine sMove (iv r12.1) S (wN rfl) (.inl rfl) rfl rfl (lb rfl) fun a S => ?_
  refine sMove (iv r12.1) S (wN rfl) (.inl rfl) rfl rfl (lb rfl) fun a S => ?_
  refine sMove (iv p3) S (wN rfl) (.inl rfl) rfl rfl (lb rfl) fun a S => ?_
  refine sBin (iv (w64 (r12.1 * p3))) S (wN rfl) rfl rfl rfl (bMul _ _ _ _ r12.1 p3) rfl (lb rfl) fun a S => ?_
  refine sMove (iv r12.1) S (wN rfl) (.inr rfl) rfl rfl (lb rfl) fun a S => ?_
  refine sMove (iv (w64 (r12.1 * p3))) S (wN rfl) (.inr rfl) rfl rfl (lb rfl) fun a S => ?_
  refine sMove (iv 0) S (wN rfl) (.inr rfl) rfl rfl (lb rfl) fun a S => ?_
  refine leafL (leafT (hK25 _ _ ?_))
  obtain rfl := Option.some.inj h
  exact wp_ret (sRet (.tuple #[iv r12.1, iv (w64 (r12.1 * p3)), iv 0]) S (rsl3 rfl (rvT (t := 8) (v := iv r12.1) S rfl) (rvT (t := 9) (v := iv (w64 (r12.1 * p3))) S rfl) (rvT (t := 10) (v := iv 0) S rfl)) ⟨(), rfl, S.mem.sel [] [] (by decide) rfl rfl⟩)

end Go.Proofs.Ytdbgkakmhlmpbaa
namespace Go.Proofs.Ytdbgkakmhlmpbaa
open Go.RowKit
set_option linter.unusedVariables false

noncomputable def F_chart_counted (p0 : api_Chart) : Option api_Chart :=
  some p0
def c_chart_counted_val (r : api_Chart) (x : Value) : Value := .func (.func 85) #[] #[x]
def c_chart_counted_D (r : api_Chart) (x : Value) : List Fact := [fPtr r_api_Chart x r]
set_option maxHeartbeats 4000000 in
set_option maxRecDepth 100000 in
theorem c_chart_counted (E : Nat → Prop) (w0 : World) (p0 : api_Chart) (v0 : Value) (r : api_Chart) (h : F_chart_counted p0 = some r) (S : St0 E [] w0 w0 [] [fRep r_api_Chart (v0) p0]) :
    Calls Try.prog 64 #[v0] w0 (Ret (X := Value) E [] w0 (c_chart_counted_val r) (fun _ => []) (c_chart_counted_D r)) := by
  unfold F_chart_counted at h
  obtain ⟨u1, rfl, hu2⟩ := S.know (i := 0) (e := fRep r_api_Chart (v0) p0) rfl
  have S := S.learn (fRep (rL r_api_Row) u1 p0.Rows) hu2
  obtain ⟨ad3, cp4, _, rfl, _⟩ := hu2
  refine sEnter (args := [.agg #[iv p0.Start, .slice ad3 p0.Rows.length cp4]]) 4 Try.func64 rfl rfl (by simp) S (fun a S => ?_)
  refine sSeq (fun K5 hK5 => ?_)
  refine sRegion ?_
  refine sBox (v := .agg #[iv p0.Start, .slice ad3 p0.Rows.length cp4]) S (wN rfl) rfl rfl [iv p0.Start, .slice ad3 p0.Rows.length cp4] rfl rfl (lb rfl) fun a b6 w S => ?_
  refine sMove (.nilFunc) S (wN rfl) (.inr rfl) rfl rfl (lb rfl) fun a S => ?_
  refine leafL (leafT (hK5 _ _ ?_))
  refine sSeq (fun K7 hK7 => ?_)
  refine sRegion ?_
  refine sFunc (g := 85) (vs := [.pointer (some ⟨b6, 0, none⟩)]) S (wN rfl) rfl rfl rfl (lb rfl) fun a S => ?_
  refine sMove (.func (.func 85) #[] #[.pointer (some ⟨b6, 0, none⟩)]) S (wN rfl) (.inr rfl) rfl rfl (lb rfl) fun a S => ?_
  refine leafL (leafT (hK7 _ _ ?_))
  have S := S.shutB (r := r_api_Chart) (T := 41) (b := b6) (cs := [iv p0.Start, .slice ad3 p0.Rows.length cp4]) 0 (.agg #[iv p0.Start, .slice ad3 p0.Rows.length cp4]) p0 rfl rfl (S.mem.know (i := 1) (e := fRep r_api_Chart (.agg #[iv p0.Start, .slice ad3 p0.Rows.length cp4]) p0) rfl)
  obtain rfl := Option.some.inj h
  exact wp_ret (sRet (.func (.func 85) #[] #[.pointer (some ⟨b6, 0, none⟩)]) S (rsl1 rfl (rvT (t := 2) (v := .func (.func 85) #[] #[.pointer (some ⟨b6, 0, none⟩)]) S rfl)) ⟨(.pointer (some ⟨b6, 0, none⟩)), rfl, S.mem.sel [] [0] (by decide) rfl rfl⟩)

end Go.Proofs.Ytdbgkakmhlmpbaa
