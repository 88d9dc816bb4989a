/- LoopsOnce: walks, tables, laws. -/
import Derived.Test.YticjoiolfibmlaaProg
import Derived.Test.YticjoiolfibmlaaRows
import Derived.Test.YticjoiolfibmlaaMLoopsOnce1
set_option linter.unusedVariables false
set_option linter.unusedSimpArgs false
set_option maxHeartbeats 4000000
set_option maxRecDepth 100000
namespace Go.Proofs.Yticjoiolfibmlaa
open Go.RowKit
section
variable {P : Program} {dq : List Deferred} {E : Nat → Prop} {M : List Nat} {w0 : World} {n : Nat} {a : Act} {w : World} {F : List (Nat × Value)} {L : List Ent} {D : List Fact} {Q : Exit → Act → World → Prop}
variable {ops : Array Oper} {rest : List Oper} {o : Oper} {d : Nat}
theorem sSliceT {α : Type} {r : R α} {T t e : TypeId} {x : Operand} {lo hi : Option Operand} {ad : Option Addr} {c : Nat} {xs ys : List α} {vlo vhi : Option Value} {hi' : Int} (i : Nat) (S : St dq E M w0 n a w F L D)
 (hw : ∀ a, Frm dq n a F → Region.wanted o (yielded ops a.tmps) = true) (ho : o.op = .slice t x lo hi none) (ht : P.underlying t = some (.slice e)) (hs : cellsB P e = some r.sz) (hx : lookO F x = some (.slice ad xs.length c)) (hL : L[i]? = some (eRow r T (.slice ad xs.length c) xs))
 (hlo : lo.map (lookO F) = vlo.map some) (hhi : hi.map (lookO F) = vhi.map some) (hl : vlo = some (.int .i64 0) ∨ vlo = none) (hh : vhi = some (.int .i64 hi') ∨ vhi = none ∧ hi' = (xs.length : Int)) (hsl : sliceO xs 0 hi' = some ys) (hd : o.dst = some d) (hn : d < n)
 (k : ∀ a, St dq E M w0 n a w ((d, .slice ad ys.length c) :: F) (eRow r T (.slice ad ys.length c) ys :: L.eraseIdx i) D → wpList P ops Q rest a w) : wpList P ops Q (o :: rest) a w := by
 obtain ⟨l, q, hl0, rfl, h1, h2, rfl⟩ := sliceO_some hsl
 obtain rfl : l = 0 := by omega
 have hex := S.frm.eval hx
 have elo : lo.map a.eval = vlo := by
  cases lo with
  | none => cases vlo with | none => rfl | some _ => simp at hlo
  | some y => cases vlo with | none => simp at hlo | some u => simp at hlo; simp [S.frm.eval hlo]
 have ehi : hi.map a.eval = vhi := by
  cases hi with
  | none => cases vhi with | none => rfl | some _ => simp at hhi
  | some y => cases vhi with | none => simp at hhi | some u => simp at hhi; simp [S.frm.eval hhi]
 obtain ⟨vs, ha, hlen, hown⟩ := S.mem.at hL
 have hc : xs.length ≤ c := by
  rcases hown.2 with ⟨h, h0⟩ | ⟨g, cap, cur, h, _, _, hnc, _⟩
  ·simp only [Value.slice.injEq] at h; omega
  ·simp only [Value.slice.injEq] at h; omega
 have hrun := run_sliceAt (P := P) ht hs ad xs.length c 0 q vlo vhi (by rcases hl with h | h; exact .inl h; exact .inr ⟨h, rfl⟩) (by rcases hh with h | ⟨h, h'⟩; exact .inl h; exact .inr ⟨h, by omega⟩) h1 h2 hc w
 have had : (if c = 0 then ad else ad.map (·.add (0 * r.sz))) = ad := by
  split
  ·rfl
  ·rcases hown.2 with ⟨h, h0⟩ | ⟨g, cap, cur, h, _⟩
   ·simp only [Value.slice.injEq] at h; rw [h.1]; rfl
   ·simp only [Value.slice.injEq] at h; rw [h.1]; simp [add_addr]
 have hl2 : ((xs.take q).drop 0).length = q := by simp; omega
 rw [had, Nat.sub_zero, Nat.sub_zero] at hrun
 have hkeys : ∀ b, b ∈ (eRow r T (.slice ad ((xs.take q).drop 0).length c) ((xs.take q).drop 0)).keys → b ∈ (eRow r T (.slice ad xs.length c) xs).keys ∨ w.heap.size ≤ b := by
  intro b hb
  left
  cases ad with
  | none => simp [eRow, vkeys] at hb
  | some a1 => simpa [eRow, vkeys] using hb
 have hext : Ext (tot E L) (tot E (eRow r T (.slice ad ((xs.take q).drop 0).length c) ((xs.take q).drop 0) :: L.eraseIdx i)) w w := by
  refine ⟨Nat.le_refl _, fun _ _ _ _ => rfl, fun b hb h => ?_⟩
  rcases h with h | h
  ·exact .inl h
  ·obtain ⟨e, h5, h6⟩ := keysL_mem.1 h
   rcases List.mem_cons.1 h5 with rfl | h5
   ·rcases hkeys b h6 with h7 | h7
    ·exact .inr (keysL_mem.2 ⟨_, List.mem_of_getElem? hL, h7⟩)
    ·omega
   ·exact .inr (keysL_mem.2 ⟨e, List.mem_of_mem_eraseIdx h5, h6⟩)
 refine sVal S hw hd hn (w' := w) (v := .slice ad ((xs.take q).drop 0).length c) ?_ (S.mem.put hL (eRow r T (.slice ad ((xs.take q).drop 0).length c) ((xs.take q).drop 0)) (Chg.refl _ _) hkeys (by cases ad <;> simp [eRow, vkeys]) ?_) (fun a => k a)
 ·rw [hl2]
  unfold execOp
  simp only [ho, hex, elo, ehi, Option.map_none, Sem.run_bind, hrun, Result.andThen_ok, Sem.run_pure]
 ·have hA : All r (tot E (eRow r T (.slice ad ((xs.take q).drop 0).length c) ((xs.take q).drop 0) :: L.eraseIdx i)) w ((vs.take q).drop 0) ((xs.take q).drop 0) := ((ha.mono hext).take q).drop 0
  refine ⟨(vs.take q).drop 0, hA, by rw [hl2]; omega, ?_⟩
  rw [hl2]
  have hfs := flat_split (fun v hv => (ha.cells v hv).1) q (by rw [ha.1]; omega)
  refine ⟨?_, ?_⟩
  ·rw [List.drop_zero, hfs.2]
  ·rcases hown.2 with ⟨h, h0⟩ | ⟨g, cap, cur, h, hgb, hg, hnc, hcm, hcs, htake⟩
   ·simp only [Value.slice.injEq] at h
    exact .inl ⟨by rw [h.1, h.2.2, show q = 0 by omega], by omega⟩
   ·simp only [Value.slice.injEq] at h
    obtain ⟨rfl, _, rfl⟩ := h
    refine .inr ⟨g, c, cur, rfl, hgb, hg, by omega, hcm, hcs, ?_⟩
    have hle : q * r.sz ≤ xs.length * r.sz := Nat.mul_le_mul_right _ h2
    rw [List.drop_zero, show cur.toList.take (q * r.sz) = (cur.toList.take (xs.length * r.sz)).take (q * r.sz) by rw [List.take_take, Nat.min_eq_left hle], htake, hfs.1, ← hfs.2, List.take_left]
end
section
variable {P : Program} {dq : List Deferred} {E : Nat → Prop} {M : List Nat} {w0 : World} {n : Nat} {a : Act} {w : World} {F : List (Nat × Value)} {L : List Ent} {D : List Fact} {Q : Exit → Act → World → Prop}
variable {ops : Array Oper} {rest : List Oper} {o : Oper} {d : Nat}
end
section
variable {P : Program} {dq : List Deferred} {E : Nat → Prop} {M : List Nat} {w0 : World} {n : Nat} {a : Act} {w : World} {F : List (Nat × Value)} {L : List Ent} {D : List Fact} {Q : Exit → Act → World → Prop}
variable {ops : Array Oper} {rest : List Oper} {o : Oper} {d : Nat}
end
section
variable {P : Program} {dq : List Deferred} {E : Nat → Prop} {M : List Nat} {w0 : World} {n : Nat} {a : Act} {w : World} {F : List (Nat × Value)} {L : List Ent} {D : List Fact} {Q : Exit → Act → World → Prop}
variable {ops : Array Oper} {rest : List Oper} {o : Oper} {d : Nat}
theorem run_equalIn_nil (d : Nat) {u e : TypeId} (hu : P.underlying u = some (.slice e)) (ad : Option Addr) (m c : Nat) (w : World) : (Op.equalIn (d + 1) u (.slice ad m c) (.slice none 0 0)).run P w = .ok ad.isNone w := by
 cases ad <;> simp [Op.equalIn, run_underlying hu]
theorem bEqNil (t u : TypeId) (p q : Operand) {e : TypeId} (hu : P.underlying u = some (.slice e)) (ad : Option Addr) (m c : Nat) : ∀ w, (eqGuard .eql t p q (.slice ad m c) (.slice none 0 0)).run P w = .ok () w ∧ (binOp .eql u (.slice ad m c) (.slice none 0 0)).run P w = .ok (.bool ad.isNone) w := fun w => ⟨rfl, by
 simp only [binOp]
 simp [Op.equal, Op.maxDepth, run_equalIn_nil 9999 hu]⟩
theorem nil_cases (ad : Option Addr) : ad.isNone = true ∨ ad.isNone = false := by cases ad <;> simp
theorem rL_isNil {α : Type} {r : R α} {E : Nat → Prop} {w : World} {ad : Option Addr} {c : Nat} {xs : List α} (h : (rL r).rep E w (.slice ad xs.length c) xs) (hn : ad.isNone = true) : xs = [] := by
 obtain ⟨ad0, c0, vs, hv, hc, hm, ha, hcell⟩ := h
 obtain ⟨rfl, rfl⟩ : ad = ad0 ∧ c = c0 := by simpa using hv
 cases ad with
 | some _ => simp at hn
 | none =>
  cases xs with
  | nil => rfl
  | cons x xs =>
   have hfl := flat_length (fun v hv => (ha.cells v hv).1)
   have hpos : 0 < (flat vs).length := by rw [hfl, ha.1]; exact Nat.mul_pos (by simp) r.pos
   obtain ⟨_, _, h, _⟩ := hcell 0 _ (List.getElem?_eq_getElem hpos)
   cases h
theorem sSliceA {t e : TypeId} {m sz b : Nat} {x : Operand} (S : St dq E M w0 n a w F L D)
 (hw : ∀ a, Frm dq n a F → Region.wanted o (yielded ops a.tmps) = true) (ho : o.op = .slice t x none none none) (ht : P.underlying t = some (.array m e)) (hs : cellsB P e = some sz) (hx : lookO F x = some (.pointer (some ⟨b, 0, none⟩))) (hm : m ≠ 0) (hd : o.dst = some d) (hn : d < n)
 (k : ∀ a, St dq E M w0 n a w ((d, .slice (some ⟨b, 0, none⟩) m m) :: F) L D → wpList P ops Q rest a w) : wpList P ops Q (o :: rest) a w := by
 have hex := S.frm.eval hx
 refine sVal S hw hd hn (w' := w) ?_ S.mem k
 simp [execOp, ho, hex, Instr.sliceAt, run_underlying ht, Instr.sureAddr, Instr.sliceBounds, Instr.sliceBound, run_sizeOf' hs, hm, add_addr]
theorem idxV_bsl {t e : TypeId} {m c sz : Nat} {b : Nat} {j : Int} (ht : P.underlying t = some (.slice e)) (hs : cellsB P e = some sz) (h0 : 0 ≤ j) (h1 : j < (m : Int)) (off : Nat) : IdxV P t (.slice (some ⟨b, off, none⟩) m c) j (.pointer (some ⟨b, off + j.toNat * sz, none⟩)) := fun k w => by
 exact run_indexAt (P := P) ht hs (b := b) (off := off) (c := c) (k := k) h0 (by omega) w
theorem sCapNil {t e : TypeId} {x : Operand} (S : St dq E M w0 n a w F L D)
 (hw : ∀ a, Frm dq n a F → Region.wanted o (yielded ops a.tmps) = true) (ho : o.op = .call { callee := .builtin .cap, args := #[x], argTypes := #[t] }) (ht : P.underlying t = some (.slice e)) (hx : lookO F x = some (.slice none 0 0)) (hd : o.dst = some d) (hn : d < n)
 (k : ∀ a, St dq E M w0 n a w ((d, .int .i64 0) :: F) L D → wpList P ops Q rest a w) : wpList P ops Q (o :: rest) a w := by
 have he := S.frm.eval hx
 exact sVal S hw hd hn (by simp [execOp, ho, he, resolve, invoke, builtin, Builtin.cap_, run_underlying ht, goInt]) S.mem k
theorem sSliceNil {t e : TypeId} {sz : Nat} {x hi : Operand} (S : St dq E M w0 n a w F L D)
 (hw : ∀ a, Frm dq n a F → Region.wanted o (yielded ops a.tmps) = true) (ho : o.op = .slice t x none (some hi) none) (ht : P.underlying t = some (.slice e)) (hs : cellsB P e = some sz) (hx : lookO F x = some (.slice none 0 0)) (hhi : lookO F hi = some (.int .i64 0)) (hd : o.dst = some d) (hn : d < n)
 (k : ∀ a, St dq E M w0 n a w ((d, .slice none 0 0) :: F) L D → wpList P ops Q rest a w) : wpList P ops Q (o :: rest) a w := by
 have hex := S.frm.eval hx
 have ehi := S.frm.eval hhi
 refine sVal S hw hd hn (w' := w) ?_ S.mem k
 have hrun := run_sliceAt (P := P) ht hs none 0 0 0 0 none (some (.int .i64 0)) (.inr ⟨rfl, rfl⟩) (.inl rfl) (Nat.le_refl _) (Nat.le_refl _) (Nat.le_refl _) w
 simp only [Nat.sub_zero, if_true] at hrun
 unfold execOp
 simp only [ho, hex, ehi, Option.map_none, Option.map_some, Sem.run_bind, hrun, Result.andThen_ok, Sem.run_pure]
def appZ {α : Type} (m : Int) (z : α) : Option (List α) := if 1 ≤ m ∧ m.toNat ≤ lim then some (List.replicate m.toNat z) else none
theorem appZ_some {α : Type} {m : Int} {z : α} {xs : List α} (h : appZ m z = some xs) : ∃ k : Nat, m = k ∧ 1 ≤ k ∧ k ≤ 68719476736 ∧ xs = List.replicate k z := by
 unfold appZ lim at h
 split at h
 ·rename_i hc
  exact ⟨m.toNat, by omega, by omega, hc.2, (Option.some.inj h).symm⟩
 ·cases h
theorem sAppZ {α : Type} {r : R α} {T t tn : TypeId} {kn : IntKind} {s x : Operand} {xs : List α} {m : Int} (z : Value) (zx : α) (bytes : Nat) (S : St dq E M w0 n a w F L D)
 (hw : ∀ a, Frm dq n a F → Region.wanted o (yielded ops a.tmps) = true) (ho : o.op = .call { callee := .builtin .append, args := #[s, x], argTypes := #[t, tn] }) (ht : P.underlying t = some (.slice T)) (htn : P.underlying tn = some (.int kn)) (hinfo : (P.info? T).map (fun i => (i.zero, i.size, i.bytes)) = some (some z, r.sz, bytes)) (hby : bytes ≤ 2048) (hzx : ∀ E w, r.rep E w z zx)
 (hs : lookO F s = some (.slice none 0 0)) (hx : lookO F x = some (.int .i64 m)) (hm : appZ m zx = some xs) (hd : o.dst = some d) (hn : d < n)
 (hkn : kn = .i64)
 (k : ∀ a w ad c, St dq E M w0 n a w ((d, .slice ad xs.length c) :: F) (eRow r T (.slice ad xs.length c) xs :: L) D → wpList P ops Q rest a w) : wpList P ops Q (o :: rest) a w := by
 subst hkn
 obtain ⟨q, rfl, hq0, hq, rfl⟩ := appZ_some hm
 have hes := S.frm.eval hs
 have hex := S.frm.eval hx
 obtain ⟨ie, hi, hzi, hsize, hbytes⟩ := info_parts hinfo
 have hzs : z.cells.size = r.sz := r.size (hzx (fun _ => False) w)
 have hr := Lib.run_append_nil_zeros (P := P) w t tn o.type T ie z .i64 .i64 ht htn hi hzi q (by omega) (by rw [hsize]; exact r.pos) (by omega) (by rw [hbytes]; exact Nat.le_trans (Nat.mul_le_mul hq hby) (by decide))
 generalize hc : grownCap w q 0 T = c at hr
 have hge : q ≤ c := by rw [← hc]; exact grownCap_ge w q 0 T
 have hmx : c ≤ maxLen := by rw [← hc]; exact grownCap_le_maxLen w q 0 T (by unfold maxLen; omega)
 have hfl : flat (List.replicate q z) = (Builtin.zeroCells z.cells q).toList := by rw [flat_made rfl q]; rfl
 have hAll : ∀ E w, All r E w (List.replicate q z) (List.replicate q zx) := fun E w => ⟨by simp, fun k v x hv hx => by
  rw [List.getElem?_replicate] at hv hx
  split at hv
  ·rename_i hk
   rw [if_pos hk] at hx
   cases hv; cases hx; exact hzx E w
  ·cases hv⟩
 have hgr : Chg [] w (w.drew.alloc (.cells (Builtin.zeroCells z.cells q ++ Builtin.zeroCells z.cells (c - q)) T)) := (Chg.refl [] w).drew.trans (Chg.alloc [] w.drew _) (by simp)
 have S' : St0 E M w0 (w.drew.alloc (.cells (Builtin.zeroCells z.cells q ++ Builtin.zeroCells z.cells (c - q)) T)) (eRow r T (.slice (some ⟨w.heap.size, 0, none⟩) q c) (List.replicate q zx) :: L) D := by
  have := St0.upd (B := []) (Rs := L) S.mem (by simpa [keysL] using hgr) [eRow r T (.slice (some ⟨w.heap.size, 0, none⟩) q c) (List.replicate q zx)] [] ⟨by simpa [keysL] using hgr, by
   intro e he
   simp at he; subst he
   refine ⟨List.replicate q z, hAll _ _, by simpa using hq, ?_⟩
   rw [List.length_replicate, hfl]
   refine ⟨by simp [size_zeroCells, hzs], .inr ⟨w.heap.size, c, _, rfl, Nat.zero_le _, heap_alloc_new w.drew _, hge, hmx, by simp [size_zeroCells, hzs]; rw [← Nat.add_mul]; congr 1; omega, ?_⟩⟩
   rw [Array.toList_append, List.take_append_of_le_length (by simp [size_zeroCells, hzs]), List.take_of_length_le (by simp [size_zeroCells, hzs])], by simp, by simp [keysL, eRow, vkeys], by
    intro b hb
    simp [keysL, eRow, vkeys] at hb
    subst hb
    refine ⟨.inl (Nat.le_refl _), fun h => ?_⟩
    rcases h with h | h
    ·exact absurd (S.mem.bnd _ h) (by have := S.mem.chg.size; omega)
    ·exact absurd (S.mem.lt _ h) (by omega), by
    intro b hb
    rcases hb with h | h
    ·exact Nat.lt_of_lt_of_le (S.mem.bnd b h) S.mem.chg.size
    ·exact S.mem.lt b h⟩
  simpa using this
 refine sVal S hw hd hn (v := .slice (some ⟨w.heap.size, 0, none⟩) q c) ?_ S' (fun a Sa => k a _ (some ⟨w.heap.size, 0, none⟩) c (by simpa using Sa))
 unfold execOp
 simp only [ho, resolve, invoke, builtin, Sem.run_bind, Sem.run_pure, Result.andThen_ok, List.map_toArray, List.map_cons, List.map_nil, hes, hex, hr]
end
structure api_Stitch where
 Kind : Int
 Purl : Bool
 A : Int
 B : Int
def r_api_Stitch : R api_Stitch where
 sz := 4
 rep := fun E w v x => v = .agg #[.int .u8 x.Kind, .bool x.Purl, .int .i64 x.A, .int .i64 x.B]
 pos := by decide
 size := by rintro _ _ _ _ rfl; rfl
 one := by
  rintro _ _ _ _ rfl u hu
  simp [Value.cells] at hu
  rcases hu with rfl | rfl | rfl | rfl
  ·rfl
  ·rfl
  ·rfl
  ·rfl
 mono := fun _ h => h
structure api_Row where
 Back : Bool
 Cells : (List api_Stitch)
def r_api_Row : R api_Row where
 sz := 2
 rep := fun E w v x => ∃ v0, v = .agg #[.bool x.Back, v0] ∧ (rL r_api_Stitch).rep E w v0 x.Cells
 pos := by decide
 size := by rintro _ _ _ _ ⟨v0, rfl, h0⟩; rfl
 one := by
  rintro _ _ _ _ ⟨v0, rfl, h0⟩ u hu
  simp [Value.cells] at hu
  rcases hu with rfl | rfl
  ·rfl
  ·exact (rL r_api_Stitch).one h0 _ (by rw [scal_L _ _ _ _ _ h0]; simp)
 mono := by
  rintro _ _ _ _ _ _ h ⟨v0, e, h0⟩
  exact ⟨v0, e, (rL r_api_Stitch).mono h h0⟩
theorem comp_api_Row_Back : Comp r_api_Row rB 0 (·.Back) := by
 rintro _ _ _ x ⟨v0, rfl, h0⟩
 refine ⟨.bool x.Back, rfl, fun j c hj => ?_⟩
 match j, hj with
 | 0, hj => exact hj
 | j + 1, hj => exact absurd (List.getElem?_eq_some_iff.1 hj).1 (by simp [Value.cells])
theorem comp_api_Row_Cells : Comp r_api_Row (rL r_api_Stitch) 1 (·.Cells) := by
 rintro _ _ _ x ⟨v0, rfl, h0⟩
 refine ⟨v0, h0, fun j c hj => ?_⟩
 rw [scal_L _ _ _ _ _ h0] at hj
 match j, hj with
 | 0, hj => exact hj
 | j + 1, hj => exact absurd (List.getElem?_eq_some_iff.1 hj).1 (by simp)
structure api_Chart where
 Start : Int
 Rows : (List api_Row)
def r_api_Chart : R api_Chart where
 sz := 2
 rep := fun E w v x => ∃ v0, v = .agg #[.int .i64 x.Start, v0] ∧ (rL r_api_Row).rep E w v0 x.Rows
 pos := by decide
 size := by rintro _ _ _ _ ⟨v0, rfl, h0⟩; rfl
 one := by
  rintro _ _ _ _ ⟨v0, rfl, h0⟩ u hu
  simp [Value.cells] at hu
  rcases hu with rfl | rfl
  ·rfl
  ·exact (rL r_api_Row).one h0 _ (by rw [scal_L _ _ _ _ _ h0]; simp)
 mono := by
  rintro _ _ _ _ _ _ h ⟨v0, e, h0⟩
  exact ⟨v0, e, (rL r_api_Row).mono h h0⟩
theorem aggr_api_Chart : Aggr r_api_Chart := by rintro _ _ _ _ ⟨v0, rfl, h0⟩; exact ⟨_, rfl⟩
theorem comp_api_Chart_Start : Comp r_api_Chart (rI .i64) 0 (·.Start) := by
 rintro _ _ _ x ⟨v0, rfl, h0⟩
 refine ⟨.int .i64 x.Start, rfl, fun j c hj => ?_⟩
 match j, hj with
 | 0, hj => exact hj
 | j + 1, hj => exact absurd (List.getElem?_eq_some_iff.1 hj).1 (by simp [Value.cells])
theorem comp_api_Chart_Rows : Comp r_api_Chart (rL r_api_Row) 1 (·.Rows) := by
 rintro _ _ _ x ⟨v0, rfl, h0⟩
 refine ⟨v0, h0, fun j c hj => ?_⟩
 rw [scal_L _ _ _ _ _ h0] at hj
 match j, hj with
 | 0, hj => exact hj
 | j + 1, hj => exact absurd (List.getElem?_eq_some_iff.1 hj).1 (by simp)
structure chart_count where
 before : Int
 after : Int
 e : Int
def r_chart_count : R chart_count where
 sz := 3
 rep := fun E w v x => v = .agg #[.int .i64 x.before, .int .i64 x.after, .int .i64 x.e]
 pos := by decide
 size := by rintro _ _ _ _ rfl; rfl
 one := by
  rintro _ _ _ _ rfl u hu
  simp [Value.cells] at hu
  rcases hu with rfl | rfl | rfl
  ·rfl
  ·rfl
  ·rfl
 mono := fun _ h => h
theorem comp_chart_count_after : Comp r_chart_count (rI .i64) 1 (·.after) := by
 rintro _ _ _ x rfl
 refine ⟨.int .i64 x.after, rfl, fun j c hj => ?_⟩
 match j, hj with
 | 0, hj => exact hj
 | j + 1, hj => exact absurd (List.getElem?_eq_some_iff.1 hj).1 (by simp [Value.cells])
theorem comp_chart_count_e : Comp r_chart_count (rI .i64) 2 (·.e) := by
 rintro _ _ _ x rfl
 refine ⟨.int .i64 x.e, rfl, fun j c hj => ?_⟩
 match j, hj with
 | 0, hj => exact hj
 | j + 1, hj => exact absurd (List.getElem?_eq_some_iff.1 hj).1 (by simp [Value.cells])
def r_A2_Int : R (Int × Int) where
 sz := 2
 rep := fun E w v x => v = .agg #[.int .i64 x.1, .int .i64 x.2]
 pos := by decide
 size := by rintro _ _ _ _ rfl; rfl
 one := by
  rintro _ _ _ _ rfl u hu
  simp [Value.cells] at hu
  rcases hu with rfl | rfl
  ·rfl
  ·rfl
 mono := fun _ h => h
structure stitch_form where
 letter : ByteArray
 a : (Int × Int)
 b : (Int × Int)
 sided : Bool
 uses : Int
 made : Int
def r_stitch_form : R stitch_form where
 sz := 8
 rep := fun E w v x => v = .agg #[.string x.letter, .int .i64 x.a.1, .int .i64 x.a.2, .int .i64 x.b.1, .int .i64 x.b.2, .bool x.sided, .int .i64 x.uses, .int .i64 x.made]
 pos := by decide
 size := by rintro _ _ _ _ rfl; rfl
 one := by
  rintro _ _ _ _ rfl u hu
  simp [Value.cells] at hu
  rcases hu with rfl | rfl | rfl | rfl | rfl | rfl | rfl | rfl
  ·rfl
  ·rfl
  ·rfl
  ·rfl
  ·rfl
  ·rfl
  ·rfl
  ·rfl
 mono := fun _ h => h
structure api_Loop where
 Row : Int
 Cell : Int
 Parents : (List Int)
 Purl : Bool
def r_api_Loop : R api_Loop where
 sz := 4
 rep := fun E w v x => ∃ v0, v = .agg #[.int .i64 x.Row, .int .i64 x.Cell, v0, .bool x.Purl] ∧ (rL (rI .i64)).rep E w v0 x.Parents
 pos := by decide
 size := by rintro _ _ _ _ ⟨v0, rfl, h0⟩; rfl
 one := by
  rintro _ _ _ _ ⟨v0, rfl, h0⟩ u hu
  simp [Value.cells] at hu
  rcases hu with rfl | rfl | rfl | rfl
  ·rfl
  ·rfl
  ·exact (rL (rI .i64)).one h0 _ (by rw [scal_L _ _ _ _ _ h0]; simp)
  ·rfl
 mono := by
  rintro _ _ _ _ _ _ h ⟨v0, e, h0⟩
  exact ⟨v0, e, (rL (rI .i64)).mono h h0⟩
theorem comp_api_Loop_Row : Comp r_api_Loop (rI .i64) 0 (·.Row) := by
 rintro _ _ _ x ⟨v0, rfl, h0⟩
 refine ⟨.int .i64 x.Row, rfl, fun j c hj => ?_⟩
 match j, hj with
 | 0, hj => exact hj
 | j + 1, hj => exact absurd (List.getElem?_eq_some_iff.1 hj).1 (by simp [Value.cells])
theorem comp_api_Loop_Cell : Comp r_api_Loop (rI .i64) 1 (·.Cell) := by
 rintro _ _ _ x ⟨v0, rfl, h0⟩
 refine ⟨.int .i64 x.Cell, rfl, fun j c hj => ?_⟩
 match j, hj with
 | 0, hj => exact hj
 | j + 1, hj => exact absurd (List.getElem?_eq_some_iff.1 hj).1 (by simp [Value.cells])
theorem comp_api_Loop_Parents : Comp r_api_Loop (rL (rI .i64)) 2 (·.Parents) := by
 rintro _ _ _ x ⟨v0, rfl, h0⟩
 refine ⟨v0, h0, fun j c hj => ?_⟩
 rw [scal_L _ _ _ _ _ h0] at hj
 match j, hj with
 | 0, hj => exact hj
 | j + 1, hj => exact absurd (List.getElem?_eq_some_iff.1 hj).1 (by simp)
theorem comp_api_Loop_Purl : Comp r_api_Loop rB 3 (·.Purl) := by
 rintro _ _ _ x ⟨v0, rfl, h0⟩
 refine ⟨.bool x.Purl, rfl, fun j c hj => ?_⟩
 match j, hj with
 | 0, hj => exact hj
 | j + 1, hj => exact absurd (List.getElem?_eq_some_iff.1 hj).1 (by simp [Value.cells])
structure loops_piece where
 loops : (List api_Loop)
 rows : (List Int)
 bound : (List Int)
 cross : (List (Int × Int))
 next : Int
def r_loops_piece : R loops_piece where
 sz := 5
 rep := fun E w v x => ∃ v0 v1 v2 v3, v = .agg #[v0, v1, v2, v3, .int .i64 x.next] ∧ (rL r_api_Loop).rep E w v0 x.loops ∧ (rL (rI .i64)).rep E w v1 x.rows ∧ (rL (rI .i64)).rep E w v2 x.bound ∧ (rL r_A2_Int).rep E w v3 x.cross
 pos := by decide
 size := by rintro _ _ _ _ ⟨v0, v1, v2, v3, rfl, h0, h1, h2, h3⟩; rfl
 one := by
  rintro _ _ _ _ ⟨v0, v1, v2, v3, rfl, h0, h1, h2, h3⟩ u hu
  simp [Value.cells] at hu
  rcases hu with rfl | rfl | rfl | rfl | rfl
  ·exact (rL r_api_Loop).one h0 _ (by rw [scal_L _ _ _ _ _ h0]; simp)
  ·exact (rL (rI .i64)).one h1 _ (by rw [scal_L _ _ _ _ _ h1]; simp)
  ·exact (rL (rI .i64)).one h2 _ (by rw [scal_L _ _ _ _ _ h2]; simp)
  ·exact (rL r_A2_Int).one h3 _ (by rw [scal_L _ _ _ _ _ h3]; simp)
  ·rfl
 mono := by
  rintro _ _ _ _ _ _ h ⟨v0, v1, v2, v3, e, h0, h1, h2, h3⟩
  exact ⟨v0, v1, v2, v3, e, (rL r_api_Loop).mono h h0, (rL (rI .i64)).mono h h1, (rL (rI .i64)).mono h h2, (rL r_A2_Int).mono h h3⟩
structure raddleref27_Piece where
 Loops : (List api_Loop)
 Bound : (List Int)
 Cross : (List (Int × Int))
 Rows : (List Int)
def gl_stitch_form (x : stitch_form) : List Value := [.string x.letter, .int .i64 x.a.1, .int .i64 x.a.2, .int .i64 x.b.1, .int .i64 x.b.2, .bool x.sided, .int .i64 x.uses, .int .i64 x.made]
def gv_stitch_form (x : stitch_form) : Value := .agg (gl_stitch_form x).toArray
theorem callee10 : ∀ vs w, (callFunc 10 vs).run Try.prog w = .ok (.enter 10 vs) w := callee Try.func10 rfl rfl
theorem callee11 : ∀ vs w, (callFunc 11 vs).run Try.prog w = .ok (.enter 11 vs) w := callee Try.func11 rfl rfl
theorem callee13 : ∀ vs w, (callFunc 13 vs).run Try.prog w = .ok (.enter 13 vs) w := callee Try.func13 rfl rfl
theorem callee15 : ∀ vs w, (callFunc 15 vs).run Try.prog w = .ok (.enter 15 vs) w := callee Try.func15 rfl rfl
theorem callee18 : ∀ vs w, (callFunc 18 vs).run Try.prog w = .ok (.enter 18 vs) w := callee Try.func18 rfl rfl
theorem callee19 : ∀ vs w, (callFunc 19 vs).run Try.prog w = .ok (.enter 19 vs) w := callee Try.func19 rfl rfl
theorem callee20 : ∀ vs w, (callFunc 20 vs).run Try.prog w = .ok (.enter 20 vs) w := callee Try.func20 rfl rfl
theorem callee21 : ∀ vs w, (callFunc 21 vs).run Try.prog w = .ok (.enter 21 vs) w := callee Try.func21 rfl rfl
theorem callee22 : ∀ vs w, (callFunc 22 vs).run Try.prog w = .ok (.enter 22 vs) w := callee Try.func22 rfl rfl
theorem callee24 : ∀ vs w, (callFunc 24 vs).run Try.prog w = .ok (.enter 24 vs) w := callee Try.func24 rfl rfl
theorem callee27 : ∀ vs w, (callFunc 27 vs).run Try.prog w = .ok (.enter 27 vs) w := callee Try.func27 rfl rfl
theorem callee30 : ∀ vs w, (callFunc 30 vs).run Try.prog w = .ok (.enter 30 vs) w := callee Try.func30 rfl rfl
theorem callee31 : ∀ vs w, (callFunc 31 vs).run Try.prog w = .ok (.enter 31 vs) w := callee Try.func31 rfl rfl
theorem callee32 : ∀ vs w, (callFunc 32 vs).run Try.prog w = .ok (.enter 32 vs) w := callee Try.func32 rfl rfl
theorem callee33 : ∀ vs w, (callFunc 33 vs).run Try.prog w = .ok (.enter 33 vs) w := callee Try.func33 rfl rfl
theorem callee35 : ∀ vs w, (callFunc 35 vs).run Try.prog w = .ok (.enter 35 vs) w := callee Try.func35 rfl rfl
theorem callee36 : ∀ vs w, (callFunc 36 vs).run Try.prog w = .ok (.enter 36 vs) w := callee Try.func36 rfl rfl
theorem callee37 : ∀ vs w, (callFunc 37 vs).run Try.prog w = .ok (.enter 37 vs) w := callee Try.func37 rfl rfl
theorem callee39 : ∀ vs w, (callFunc 39 vs).run Try.prog w = .ok (.enter 39 vs) w := callee Try.func39 rfl rfl
theorem callee42 : ∀ vs w, (callFunc 42 vs).run Try.prog w = .ok (.enter 42 vs) w := callee Try.func42 rfl rfl
theorem callee43 : ∀ vs w, (callFunc 43 vs).run Try.prog w = .ok (.enter 43 vs) w := callee Try.func43 rfl rfl
theorem callee44 : ∀ vs w, (callFunc 44 vs).run Try.prog w = .ok (.enter 44 vs) w := callee Try.func44 rfl rfl
theorem callee46 : ∀ vs w, (callFunc 46 vs).run Try.prog w = .ok (.enter 46 vs) w := callee Try.func46 rfl rfl
theorem callee48 : ∀ vs w, (callFunc 48 vs).run Try.prog w = .ok (.enter 48 vs) w := callee Try.func48 rfl rfl
theorem callee49 : ∀ vs w, (callFunc 49 vs).run Try.prog w = .ok (.enter 49 vs) w := callee Try.func49 rfl rfl
theorem callee50 : ∀ vs w, (callFunc 50 vs).run Try.prog w = .ok (.enter 50 vs) w := callee Try.func50 rfl rfl
theorem callee52 : ∀ vs w, (callFunc 52 vs).run Try.prog w = .ok (.enter 52 vs) w := callee Try.func52 rfl rfl
theorem callee53 : ∀ vs w, (callFunc 53 vs).run Try.prog w = .ok (.enter 53 vs) w := callee Try.func53 rfl rfl
theorem callee54 : ∀ vs w, (callFunc 54 vs).run Try.prog w = .ok (.enter 54 vs) w := callee Try.func54 rfl rfl
theorem callee55 : ∀ vs w, (callFunc 55 vs).run Try.prog w = .ok (.enter 55 vs) w := callee Try.func55 rfl rfl
theorem callee56 : ∀ vs w, (callFunc 56 vs).run Try.prog w = .ok (.enter 56 vs) w := callee Try.func56 rfl rfl
theorem callee57 : ∀ vs w, (callFunc 57 vs).run Try.prog w = .ok (.enter 57 vs) w := callee Try.func57 rfl rfl
theorem callee58 : ∀ vs w, (callFunc 58 vs).run Try.prog w = .ok (.enter 58 vs) w := callee Try.func58 rfl rfl
theorem callee59 : ∀ vs w, (callFunc 59 vs).run Try.prog w = .ok (.enter 59 vs) w := callee Try.func59 rfl rfl
theorem callee60 : ∀ vs w, (callFunc 60 vs).run Try.prog w = .ok (.enter 60 vs) w := callee Try.func60 rfl rfl
theorem callee61 : ∀ vs w, (callFunc 61 vs).run Try.prog w = .ok (.enter 61 vs) w := callee Try.func61 rfl rfl
theorem callee62 : ∀ vs w, (callFunc 62 vs).run Try.prog w = .ok (.enter 62 vs) w := callee Try.func62 rfl rfl
theorem callee63 : ∀ vs w, (callFunc 63 vs).run Try.prog w = .ok (.enter 63 vs) w := callee Try.func63 rfl rfl
theorem callee64 : ∀ vs w, (callFunc 64 vs).run Try.prog w = .ok (.enter 64 vs) w := callee Try.func64 rfl rfl
theorem callee65 : ∀ vs w, (callFunc 65 vs).run Try.prog w = .ok (.enter 65 vs) w := callee Try.func65 rfl rfl
theorem callee66 : ∀ vs w, (callFunc 66 vs).run Try.prog w = .ok (.enter 66 vs) w := callee Try.func66 rfl rfl
theorem callee67 : ∀ vs w, (callFunc 67 vs).run Try.prog w = .ok (.enter 67 vs) w := callee Try.func67 rfl rfl
theorem callee68 : ∀ vs w, (callFunc 68 vs).run Try.prog w = .ok (.enter 68 vs) w := callee Try.func68 rfl rfl
theorem callee69 : ∀ vs w, (callFunc 69 vs).run Try.prog w = .ok (.enter 69 vs) w := callee Try.func69 rfl rfl
theorem callee70 : ∀ vs w, (callFunc 70 vs).run Try.prog w = .ok (.enter 70 vs) w := callee Try.func70 rfl rfl
theorem callee71 : ∀ vs w, (callFunc 71 vs).run Try.prog w = .ok (.enter 71 vs) w := callee Try.func71 rfl rfl
theorem callee72 : ∀ vs w, (callFunc 72 vs).run Try.prog w = .ok (.enter 72 vs) w := callee Try.func72 rfl rfl
theorem callee73 : ∀ vs w, (callFunc 73 vs).run Try.prog w = .ok (.enter 73 vs) w := callee Try.func73 rfl rfl
theorem callee74 : ∀ vs w, (callFunc 74 vs).run Try.prog w = .ok (.enter 74 vs) w := callee Try.func74 rfl rfl
theorem callee75 : ∀ vs w, (callFunc 75 vs).run Try.prog w = .ok (.enter 75 vs) w := callee Try.func75 rfl rfl
theorem callee76 : ∀ vs w, (callFunc 76 vs).run Try.prog w = .ok (.enter 76 vs) w := callee Try.func76 rfl rfl
open Go.ChangeShapes Go.WideShapes Go.ChangeAt Go.Joins
def InK (k : IntKind) (x : Int) : Prop := (Lit.int k x).wf = true
theorem inK_u8 {x : Int} (h : InK .u8 x) : 0 ≤ x ∧ x ≤ 255 := by
 simpa [InK, Lit.wf, IntKind.min, IntKind.max, IntKind.signed, IntKind.bits] using h
def Wl {α : Type} (p : α → Prop) (xs : List α) : Prop := xs.length ≤ 9223372036854775807 ∧ ∀ x, x ∈ xs → p x
def OpC {α : Type} (P : Program) (t : TypeId) (r : R α) (p : α → Prop) : Prop :=
 ∀ (H : Type) (enc : TypeId × Value → H) (w : World) (base : Nat) (spare : Nat → Bool) (held : Bool) (fuel : Nat) (cs : List Value) (x : DataW H × List MemPlace),
  DataW.trod enc P w base spare held fuel t cs = some x → ∃ v y, v.cells.toList = cs ∧ r.rep (fun _ => False) w v y ∧ p y
section
variable {P : Program}
theorem op_int {t : TypeId} (k : IntKind) (ht : P.underlying t = some (.int k)) : OpC P t (rI k) (InK k) := fun H enc w base spare held fuel cs x h => by
 obtain ⟨n, rfl, _, hw⟩ := DataW.trod_int ht h
 exact ⟨_, n, rfl, rfl, hw⟩
theorem op_bool {t : TypeId} (ht : P.underlying t = some .bool) : OpC P t rB (fun _ => True) := fun H enc w base spare held fuel cs x h => by
 obtain ⟨n, rfl, _⟩ := DataW.trod_bool ht h
 exact ⟨_, n, rfl, rfl, trivial⟩
theorem choose_list {α : Type} {n : Nat} {p : Nat → α → Prop} (h : ∀ i, i < n → ∃ x, p i x) : ∃ l : List α, l.length = n ∧ ∀ i x, l[i]? = some x → p i x := by
 induction n with
 | zero => exact ⟨[], rfl, fun i x hi => by simp at hi⟩
 | succ n ih =>
  obtain ⟨l, hl, hp⟩ := ih fun i hi => h i (by omega)
  obtain ⟨x, hx⟩ := h n (by omega)
  refine ⟨l ++ [x], by simp [hl], fun i y hi => ?_⟩
  by_cases e : i < l.length
  ·rw [List.getElem?_append_left e] at hi; exact hp i y hi
  ·rw [List.getElem?_append_right (by omega)] at hi
   have : i - l.length = 0 := by
    have := (List.getElem?_eq_some_iff.1 hi).1
    simp at this; omega
   rw [this] at hi
   simp at hi; subst hi
   have : i = n := by omega
   subst this; exact hx
theorem op_slice {α : Type} {t e : TypeId} {r : R α} {p : α → Prop} (ht : P.underlying t = some (.slice e)) (hc : P.cellsOf e = r.sz) (he : OpC P e r p) : OpC P t (rL r) (Wl p) := fun H enc w base spare held fuel cs x h => by
 rcases Go.Deep.open_slice ht h with ⟨rfl, _⟩ | ⟨a, len, cap, m, n, D, Pl, rfl, _, hl, hm, hmm, _, hx⟩
 ·exact ⟨_, [], rfl, rL_nil _ _ _, by simp, fun x hx => by simp at hx⟩
 ·have hlm : len ≤ m := by rw [hmm]; split <;> omega
  obtain ⟨b, off, spot⟩ := a
  have hcell : ∀ i, i < len → ∃ vy : Value × α, (∀ j, j < r.sz → w.cell? ((⟨b, off, spot⟩ : Addr).add (i * r.sz + j)) = vy.1.cells.toList[j]?) ∧ r.rep (fun _ => False) w vy.1 vy.2 ∧ p vy.2 := fun i hi => by
   obtain ⟨cs, h1, h2⟩ := hx i (by omega)
   obtain ⟨_, h3, h4⟩ := World.cells?_some h1
   obtain ⟨v, y, h5, h6, h7⟩ := he _ _ _ _ _ _ _ _ _ h2
   refine ⟨(v, y), fun j hj => ?_, h6, h7⟩
   have := h4 j (by rw [hc]; exact hj)
   rw [Addr.add_add, hc] at this
   rw [this, h5]
  obtain ⟨l, hll, hlp⟩ := choose_list hcell
  subst hll
  have hA : All r (fun _ => False) w (l.map (·.1)) (l.map (·.2)) := ⟨by simp, fun k v x hv hx => by
   rw [List.getElem?_map] at hv hx
   cases hk : l[k]? with
   | none => rw [hk] at hv; cases hv
   | some q => rw [hk] at hv hx; simp at hv hx; subst hv hx; exact (hlp k q hk).2.1⟩
  refine ⟨.slice (some ⟨b, off, spot⟩) l.length cap, l.map (·.2), rfl, ?_, by simp [maxLen] at hm ⊢; omega, fun x hx => ?_⟩
  ·refine ⟨some ⟨b, off, spot⟩, cap, l.map (·.1), by simp, by simpa using hl, by simp [maxLen] at hm ⊢; omega, hA, fun k u hu => ?_⟩
   have hsz := fun v hv => (hA.cells v hv).1
   have hk := (List.getElem?_eq_some_iff.1 hu).1
   rw [flat_length hsz] at hk
   simp only [List.length_map] at hk
   have hi : k / r.sz < l.length := Nat.div_lt_of_lt_mul (by rw [Nat.mul_comm]; exact hk)
   have hj := Nat.mod_lt k r.pos
   have hq : l[k / r.sz]? = some l[k / r.sz] := List.getElem?_eq_getElem hi
   have h1 := (hlp _ _ hq).1 (k % r.sz) hj
   have h2 := flat_get hsz (k := k / r.sz) (v := l[k / r.sz].1) (by rw [List.getElem?_map, hq]; rfl) hj
   rw [Nat.mul_comm, Nat.div_add_mod] at h1 h2
   rw [hu] at h2
   rw [← h2] at h1
   have hspot : spot = none := by
    have h0 : 0 < l.length := Nat.lt_of_le_of_lt (Nat.zero_le _) hi
    have hq0 : l[0]? = some l[0] := List.getElem?_eq_getElem h0
    have h3 := (hlp 0 _ hq0).1 0 r.pos
    have hs0 := r.size (hlp 0 _ hq0).2.1
    rw [List.getElem?_eq_getElem (by rw [Array.length_toList, hs0]; exact r.pos)] at h3
    simpa [Addr.add] using World.cell?_spot h3
   subst hspot
   rw [add_addr] at h1
   exact ⟨b, off, rfl, not_false, World.block_lt_of_cell? w _ h1, h1⟩
  ·obtain ⟨q, hq, rfl⟩ := List.mem_map.1 hx
   obtain ⟨k, hk, rfl⟩ := List.getElem_of_mem hq
   exact (hlp k _ (List.getElem?_eq_getElem hk)).2.2
theorem top_agg {α : Type} {H : Type} {enc : TypeId × Value → H} {w : World} {base b0 : Nat} {spare : Nat → Bool} {held : Bool} {rr : Reach} {v : Value} {d : DataW H} {p : List MemPlace} {t : TypeId} {fs : Array Field} {r : R α} {q : α → Prop} (ht : P.underlying t = some (.struct fs)) (hr : Aggr r) (ho : OpC P t r q)
 (hv : Value.okWide P w rr b0 t v) (h : DataW.Trod enc P w base spare held t v d p) : ∃ y, r.rep (fun _ => False) w v y ∧ q y := by
 obtain ⟨cs, rfl, hsz⟩ := okWide_struct ht hv
 obtain ⟨fuel, hf⟩ := h
 obtain ⟨v, y, h1, h2, h3⟩ := ho _ _ _ _ _ _ _ _ _ hf
 obtain ⟨ds, rfl⟩ := hr _ _ _ _ h2
 simp [Value.cells] at h1
 subst h1
 exact ⟨y, h2, h3⟩
theorem St0.start {w : World} {D : List Fact} (h : ∀ d, d ∈ D → d.p (fun _ => False) w) : St0 (fun _ => False) [] w w [] D := by
 have hE : tot (fun _ => False) [] = (fun _ => False) := by funext b; simp [tot, keysL]
 exact ⟨Chg.refl _ _, by simp, fun d hd => by rw [hE]; exact h d hd, by simp [keysL], by simp [keysL], fun _ h => h.elim⟩
theorem Chg.below {w w' : World} (h : Chg [] w w') : Below w.heap.size w w' := ⟨h.os, h.tape, h.output, h.size, fun k hk => h.block k hk (by simp)⟩
theorem len2 {α : Type} {l : List α} (h : l.length = 2) : ∃ a b, l = [a, b] := by match l, h with | [a, b], _ => exact ⟨a, b, rfl⟩
theorem len4 {α : Type} {l : List α} (h : l.length = 4) : ∃ a b c d, l = [a, b, c, d] := by match l, h with | [a, b, c, d], _ => exact ⟨a, b, c, d, rfl⟩
end
theorem fld {α : Type} {x : Option α} {ys : List α} {i : Nat} (h : x = ys[i]?) (hi : i < ys.length) : ∃ z, x = some z := ⟨ys[i], by rw [h]; exact List.getElem?_eq_getElem hi⟩
end Go.Proofs.Yticjoiolfibmlaa
namespace Go.Proofs.Yticjoiolfibmlaa
open Go.RowKit
open Go.ChangeShapes Go.WideShapes Go.ChangeAt Go.Joins
def wf_api_Stitch (x : api_Stitch) : Prop := (InK .u8) x.Kind ∧ (fun _ => True) x.Purl ∧ (InK .i64) x.A ∧ (InK .i64) x.B
theorem op_api_Stitch : OpC Try.prog 61 r_api_Stitch wf_api_Stitch := fun H enc w base spare held fuel cs x h => by
 obtain ⟨ys, m, _, _, hl, hy, hf⟩ := DataW.trod_struct Try.underlying61 h
 obtain ⟨c0, c1, c2, c3, rfl⟩ := len4 (hl.trans (by kernel_rfl))
 obtain ⟨z0, f0⟩ := fld (hf 0 _ rfl) (by rw [hy]; decide)
 obtain ⟨u0, y0, k0, r0, w0⟩ := (op_int .u8 Try.underlying5) _ _ _ _ _ _ _ _ _ f0
 replace k0 : u0.cells.toList = [c0] := k0.trans (by kernel_rfl)
 obtain rfl : u0 = .int .u8 y0 := r0
 obtain rfl : Value.int .u8 y0 = c0 := by simpa [Value.cells] using k0
 obtain ⟨z1, f1⟩ := fld (hf 1 _ rfl) (by rw [hy]; decide)
 obtain ⟨u1, y1, k1, r1, w1⟩ := (op_bool Try.underlying4) _ _ _ _ _ _ _ _ _ f1
 replace k1 : u1.cells.toList = [c1] := k1.trans (by kernel_rfl)
 obtain rfl : u1 = .bool y1 := r1
 obtain rfl : Value.bool y1 = c1 := by simpa [Value.cells] using k1
 obtain ⟨z2, f2⟩ := fld (hf 2 _ rfl) (by rw [hy]; decide)
 obtain ⟨u2, y2, k2, r2, w2⟩ := (op_int .i64 Try.underlying3) _ _ _ _ _ _ _ _ _ f2
 replace k2 : u2.cells.toList = [c2] := k2.trans (by kernel_rfl)
 obtain rfl : u2 = .int .i64 y2 := r2
 obtain rfl : Value.int .i64 y2 = c2 := by simpa [Value.cells] using k2
 obtain ⟨z3, f3⟩ := fld (hf 3 _ rfl) (by rw [hy]; decide)
 obtain ⟨u3, y3, k3, r3, w3⟩ := (op_int .i64 Try.underlying3) _ _ _ _ _ _ _ _ _ f3
 replace k3 : u3.cells.toList = [c3] := k3.trans (by kernel_rfl)
 obtain rfl : u3 = .int .i64 y3 := r3
 obtain rfl : Value.int .i64 y3 = c3 := by simpa [Value.cells] using k3
 exact ⟨_, ⟨y0, y1, y2, y3⟩, rfl, rfl, ⟨w0, w1, w2, w3⟩⟩
def wf_api_Row (x : api_Row) : Prop := (fun _ => True) x.Back ∧ (Wl wf_api_Stitch) x.Cells
theorem op_api_Row : OpC Try.prog 65 r_api_Row wf_api_Row := fun H enc w base spare held fuel cs x h => by
 obtain ⟨ys, m, _, _, hl, hy, hf⟩ := DataW.trod_struct Try.underlying65 h
 obtain ⟨c0, c1, rfl⟩ := len2 (hl.trans (by kernel_rfl))
 obtain ⟨z0, f0⟩ := fld (hf 0 _ rfl) (by rw [hy]; decide)
 obtain ⟨u0, y0, k0, r0, w0⟩ := (op_bool Try.underlying4) _ _ _ _ _ _ _ _ _ f0
 replace k0 : u0.cells.toList = [c0] := k0.trans (by kernel_rfl)
 obtain rfl : u0 = .bool y0 := r0
 obtain rfl : Value.bool y0 = c0 := by simpa [Value.cells] using k0
 obtain ⟨z1, f1⟩ := fld (hf 1 _ rfl) (by rw [hy]; decide)
 obtain ⟨u1, y1, k1, r1, w1⟩ := (op_slice (r := r_api_Stitch) Try.underlying62 (by kernel_rfl) op_api_Stitch) _ _ _ _ _ _ _ _ _ f1
 replace k1 : u1.cells.toList = [c1] := k1.trans (by kernel_rfl)
 rw [scal_L _ _ _ _ _ r1] at k1
 obtain rfl : u1 = c1 := by simpa using k1
 exact ⟨_, ⟨y0, y1⟩, rfl, ⟨_, rfl, r1⟩, ⟨w0, w1⟩⟩
def wf_api_Chart (x : api_Chart) : Prop := (InK .i64) x.Start ∧ (Wl wf_api_Row) x.Rows
theorem op_api_Chart : OpC Try.prog 24 r_api_Chart wf_api_Chart := fun H enc w base spare held fuel cs x h => by
 obtain ⟨ys, m, _, _, hl, hy, hf⟩ := DataW.trod_struct Try.underlying24 h
 obtain ⟨c0, c1, rfl⟩ := len2 (hl.trans (by kernel_rfl))
 obtain ⟨z0, f0⟩ := fld (hf 0 _ rfl) (by rw [hy]; decide)
 obtain ⟨u0, y0, k0, r0, w0⟩ := (op_int .i64 Try.underlying3) _ _ _ _ _ _ _ _ _ f0
 replace k0 : u0.cells.toList = [c0] := k0.trans (by kernel_rfl)
 obtain rfl : u0 = .int .i64 y0 := r0
 obtain rfl : Value.int .i64 y0 = c0 := by simpa [Value.cells] using k0
 obtain ⟨z1, f1⟩ := fld (hf 1 _ rfl) (by rw [hy]; decide)
 obtain ⟨u1, y1, k1, r1, w1⟩ := (op_slice (r := r_api_Row) Try.underlying22 (by kernel_rfl) op_api_Row) _ _ _ _ _ _ _ _ _ f1
 replace k1 : u1.cells.toList = [c1] := k1.trans (by kernel_rfl)
 rw [scal_L _ _ _ _ _ r1] at k1
 obtain rfl : u1 = c1 := by simpa using k1
 exact ⟨_, ⟨y0, y1⟩, rfl, ⟨_, rfl, r1⟩, ⟨w0, w1⟩⟩
end Go.Proofs.Yticjoiolfibmlaa
namespace Go.Proofs.Yticjoiolfibmlaa
open Go.RowKit
def Le {α : Type} (a b : Option α) : Prop := ∀ r, a = some r → b = some r
theorem Le.rfl {α : Type} (a : Option α) : Le a a := fun _ h => h
theorem Le.bind {α β : Type} {a b : Option α} {f g : α → Option β} (h : Le a b) (hf : ∀ x, Le (f x) (g x)) : Le (Option.bind a f) (Option.bind b g) := by
 intro r hr
 cases ha : a with
 | none => rw [ha] at hr; cases hr
 | some x =>
  rw [ha] at hr
  rw [h x ha]
  exact hf x r hr
theorem Le.ite {α : Type} {c : Prop} [Decidable c] {a b a' b' : Option α} (h : Le a b) (h' : Le a' b') : Le (if c then a else a') (if c then b else b') := by
 by_cases hc : c
 ·rw [if_pos hc, if_pos hc]; exact h
 ·rw [if_neg hc, if_neg hc]; exact h'
theorem Le.sum {α β γ : Type} {f g : α ⊕ β → Option γ} (h : ∀ a, Le (f (.inl a)) (g (.inl a))) (h' : ∀ b, Le (f (.inr b)) (g (.inr b))) : ∀ z, Le (f z) (g z)
 | .inl a => h a
 | .inr b => h' b
theorem Le.prod {α β γ : Type} {f g : α × β → Option γ} (h : ∀ a b, Le (f (a, b)) (g (a, b))) : ∀ z, Le (f z) (g z)
 | (a, b) => h a b
theorem iterO_Le {σ τ : Type} {B B' : σ → Option (σ ⊕ τ)} (h : ∀ s, Le (B s) (B' s)) : ∀ (n : Nat) (s : σ), Le (iterO B n s) (iterO B' n s) := by
 intro n
 induction n with
 | zero => intro s r hr; cases hr
 | succ n ih =>
  intro s r hr
  unfold iterO at hr ⊢
  cases hB : B s with
  | none => rw [hB] at hr; cases hr
  | some x =>
   rw [hB] at hr
   rw [h s x hB]
   cases x with
   | inl s' => exact ih s' r hr
   | inr t => exact hr
def whileK {σ τ : Type} (B : σ → Option (σ ⊕ τ)) (s : σ) : Option τ := iterO B 1000000 s
theorem Le.loop {σ τ : Type} {B B' : σ → Option (σ ⊕ τ)} (s : σ) (h : ∀ s, Le (B s) (B' s)) : Le (whileK B s) (whileO B' s) :=
 fun r hr => whileO_of (iterO_Le h 1000000 s r hr)
noncomputable def F_chart_counted (p0 : api_Chart) : Option api_Chart :=
 some p0
def c_chart_counted_val (r : api_Chart) (x : Value) : Value := .func (.func 52) #[] #[x]
def c_chart_counted_D (r : api_Chart) (x : Value) : List Fact := [fPtr r_api_Chart x r]
theorem c_chart_counted (E : Nat → Prop) (w0 : World) (p0 : api_Chart) (v0 : Value) (r : api_Chart) (h : F_chart_counted p0 = some r) (S : St0 E [] w0 w0 [] [fRep r_api_Chart (v0) p0]) :
 Calls Try.prog 42 #[v0] w0 (Ret (X := Value) E [] w0 (c_chart_counted_val r) (fun _ => []) (c_chart_counted_D r)) := by
 unfold F_chart_counted at h
 obtain ⟨u1, rfl, a5⟩ := S.know (i := 0) (e := fRep r_api_Chart (v0) p0) rfl
 have S := S.learn (fRep (rL r_api_Row) u1 p0.Rows) a5
 obtain ⟨a0, a4, _, rfl, _⟩ := a5
 refine sEnter (args := [.agg #[iv p0.Start, .slice a0 p0.Rows.length a4]]) 4 Try.func42 rfl rfl (by simp) S (fun a S => ?_)
 refine sSeq (fun K5 a6 => sRegion (sBox (v := .agg #[iv p0.Start, .slice a0 p0.Rows.length a4]) S (wN rfl) rfl rfl [iv p0.Start, .slice a0 p0.Rows.length a4] rfl rfl (lb rfl) fun a b6 w S => ?_))
 refine sN S fun a S => ?_
 refine lT (a6 _ _ (sSeq (fun K7 a7 => sRegion (sFunc (g := 52) (vs := [.pointer (some ⟨b6, 0, none⟩)]) S (wN rfl) rfl rfl rfl (lb rfl) fun a S => ?_))))
 refine sN S fun a S => ?_
 refine lT (a7 _ _ ?_)
 have S := S.shutB (r := r_api_Chart) (T := 24) (b := b6) (cs := [iv p0.Start, .slice a0 p0.Rows.length a4]) 0 (.agg #[iv p0.Start, .slice a0 p0.Rows.length a4]) p0 rfl rfl (S.mem.know (i := 1) (e := fRep r_api_Chart (.agg #[iv p0.Start, .slice a0 p0.Rows.length a4]) p0) rfl)
 obtain rfl := tS h
 exact wp_ret (sRet (.func (.func 52) #[] #[.pointer (some ⟨b6, 0, none⟩)]) S (rsl1 rfl (rvT (t := 2) (v := .func (.func 52) #[] #[.pointer (some ⟨b6, 0, none⟩)]) S rfl)) ⟨(.pointer (some ⟨b6, 0, none⟩)), rfl, S.mem.sel [] [0] (by decide) rfl rfl⟩)
noncomputable def F_stitch_forms (p0 : Int) : Option (stitch_form × Bool) :=
 Option.bind (α := Bool) (
  if decide (p0 < 1) then
   some true
  else
   some (decide (([(stitch_form.mk (⟨#[]⟩ : ByteArray) (0, 0) (0, 0) true 1 1), (stitch_form.mk (⟨#[]⟩ : ByteArray) (0, 0) (0, 0) false 0 1), (stitch_form.mk (⟨#[102]⟩ : ByteArray) (2, 4) (0, 0) true 2 1), (stitch_form.mk (⟨#[108]⟩ : ByteArray) (2, 4) (0, 0) true 2 1), (stitch_form.mk (⟨#[109]⟩ : ByteArray) (2, 4) (0, 0) true 1 2), (stitch_form.mk (⟨#[120]⟩ : ByteArray) (1, 6) (1, 6) true 3 3), (stitch_form.mk (⟨#[121]⟩ : ByteArray) (1, 6) (1, 6) true 3 3), (stitch_form.mk (⟨#[115]⟩ : ByteArray) (0, 0) (0, 0) true 1 1), (stitch_form.mk (⟨#[]⟩ : ByteArray) (1, 200) (0, 0) false 0 2), (stitch_form.mk (⟨#[111]⟩ : ByteArray) (1, 200) (0, 0) true 2 0)].length : Int) < (IntKind.i64.wrap p0)))) fun a0 =>
 if a0 then
  some ((stitch_form.mk (⟨#[]⟩ : ByteArray) (0, 0) (0, 0) false 0 0), false)
 else
  (idxO [(stitch_form.mk (⟨#[]⟩ : ByteArray) (0, 0) (0, 0) true 1 1), (stitch_form.mk (⟨#[]⟩ : ByteArray) (0, 0) (0, 0) false 0 1), (stitch_form.mk (⟨#[102]⟩ : ByteArray) (2, 4) (0, 0) true 2 1), (stitch_form.mk (⟨#[108]⟩ : ByteArray) (2, 4) (0, 0) true 2 1), (stitch_form.mk (⟨#[109]⟩ : ByteArray) (2, 4) (0, 0) true 1 2), (stitch_form.mk (⟨#[120]⟩ : ByteArray) (1, 6) (1, 6) true 3 3), (stitch_form.mk (⟨#[121]⟩ : ByteArray) (1, 6) (1, 6) true 3 3), (stitch_form.mk (⟨#[115]⟩ : ByteArray) (0, 0) (0, 0) true 1 1), (stitch_form.mk (⟨#[]⟩ : ByteArray) (1, 200) (0, 0) false 0 2), (stitch_form.mk (⟨#[111]⟩ : ByteArray) (1, 200) (0, 0) true 2 0)] (IntKind.u8.wrap (p0 - 1))).bind fun a4 =>
  some (a4, true)
def c_stitch_forms_val (r : (stitch_form × Bool)) (x : Value) : Value := .tuple #[x, .bool r.2]
def c_stitch_forms_D (r : (stitch_form × Bool)) (x : Value) : List Fact := [fRep r_stitch_form x r.1]
theorem c_stitch_forms (E : Nat → Prop) (w0 : World) (p0 : Int) (r : (stitch_form × Bool)) (h : F_stitch_forms p0 = some r) (S : St0 E [] w0 w0 [] []) :
 Calls Try.prog 67 #[.int .u8 p0] w0 (Ret (X := Value) E [] w0 (c_stitch_forms_val r) (fun _ => []) (c_stitch_forms_D r)) := by
 unfold F_stitch_forms at h
 refine sEnter (args := [.int .u8 p0]) 57 Try.func67 rfl rfl (by simp) S (fun a S => ?_)
 refine sSeq (fun K1 ah => sRegion (sAlloc (gv_stitch_form (stitch_form.mk (⟨#[]⟩ : ByteArray) (0, 0) (0, 0) false 0 0)) S (wN rfl) rfl rfl (gl_stitch_form (stitch_form.mk (⟨#[]⟩ : ByteArray) (0, 0) (0, 0) false 0 0)) rfl rfl (lb rfl) fun a b2 w S => ?_))
 refine sN S fun a S => ?_
 refine lT (ah _ _ (sSeq (fun K3 ai => sRegion (sBuild [(0, iv 2), (1, iv 4)] [iv 2, iv 4] S (wN rfl) rfl rfl rfl rfl (lb rfl) fun a S => ?_))))
 refine sBuild [(0, iv 1), (1, iv 6)] [iv 1, iv 6] S (wN rfl) rfl rfl rfl rfl (lb rfl) fun a S => ?_
 refine sAlloc (.agg #[iv 0, iv 0]) S (wN rfl) rfl rfl [iv 0, iv 0] rfl rfl (lb rfl) fun a b4 w S => ?_
 refine sAlloc (.agg #[iv 0, iv 0]) S (wN rfl) rfl rfl [iv 0, iv 0] rfl rfl (lb rfl) fun a b5 w S => ?_
 refine sStore (p := b4) (off := 0) (T := 49) (vs := [iv 0, iv 0]) (v := .agg #[iv 2, iv 4]) 1 [iv 2, iv 4] S (wN rfl) rfl rfl rfl rfl rfl rfl rfl (by simp) rfl fun a w S => ?_
 refine sStore (p := b5) (off := 0) (T := 49) (vs := [iv 0, iv 0]) (v := .agg #[iv 1, iv 6]) 1 [iv 1, iv 6] S (wN rfl) rfl rfl rfl rfl rfl rfl rfl (by simp) rfl fun a w S => ?_
 refine lT (ai _ _ (sSeq (fun K6 aj => sRegion (sBuild [(0, iv 1), (1, iv 200)] [iv 1, iv 200] S (wN rfl) rfl rfl rfl rfl (lb rfl) fun a S => ?_))))
 refine sAlloc (.agg #[iv 0, iv 0]) S (wN rfl) rfl rfl [iv 0, iv 0] rfl rfl (lb rfl) fun a b7 w S => ?_
 refine sStore (p := b7) (off := 0) (T := 49) (vs := [iv 0, iv 0]) (v := .agg #[iv 1, iv 200]) 0 [iv 1, iv 200] S (wN rfl) rfl rfl rfl rfl rfl rfl rfl (by simp) rfl fun a w S => ?_
 refine lT (aj _ _ (sSeq (fun K8 ak => sRegion (sBuild [] [iv 0, iv 0] S (wN rfl) rfl rfl rfl rfl (lb rfl) fun a S => ?_))))
 refine sBuild [] [iv 0, iv 0] S (wN rfl) rfl rfl rfl rfl (lb rfl) fun a S => ?_
 refine sBuild [(0, .string (⟨#[]⟩ : ByteArray)), (1, .agg #[iv 0, iv 0]), (2, .agg #[iv 0, iv 0]), (3, .bool true), (4, iv 1), (5, iv 1)] (gl_stitch_form (stitch_form.mk (⟨#[]⟩ : ByteArray) (0, 0) (0, 0) true 1 1)) S (wN rfl) rfl rfl rfl rfl (lb rfl) fun a S => ?_
 refine sBuild [] [iv 0, iv 0] S (wN rfl) rfl rfl rfl rfl (lb rfl) fun a S => ?_
 refine sBuild [] [iv 0, iv 0] S (wN rfl) rfl rfl rfl rfl (lb rfl) fun a S => ?_
 refine sBuild [(0, .string (⟨#[]⟩ : ByteArray)), (1, .agg #[iv 0, iv 0]), (2, .agg #[iv 0, iv 0]), (3, .bool false), (4, iv 0), (5, iv 1)] (gl_stitch_form (stitch_form.mk (⟨#[]⟩ : ByteArray) (0, 0) (0, 0) false 0 1)) S (wN rfl) rfl rfl rfl rfl (lb rfl) fun a S => ?_
 refine sLoadN (p := b4) (off := 0) (T := 49) (vs := [iv 2, iv 4]) 2 [iv 2, iv 4] S (wN rfl) rfl rfl rfl rfl rfl rfl rfl (lb rfl) fun a S => ?_
 refine sBuild [] [iv 0, iv 0] S (wN rfl) rfl rfl rfl rfl (lb rfl) fun a S => ?_
 refine sBuild [(0, .string (⟨#[102]⟩ : ByteArray)), (1, .agg #[iv 2, iv 4]), (2, .agg #[iv 0, iv 0]), (3, .bool true), (4, iv 2), (5, iv 1)] (gl_stitch_form (stitch_form.mk (⟨#[102]⟩ : ByteArray) (2, 4) (0, 0) true 2 1)) S (wN rfl) rfl rfl rfl rfl (lb rfl) fun a S => ?_
 refine sLoadN (p := b4) (off := 0) (T := 49) (vs := [iv 2, iv 4]) 2 [iv 2, iv 4] S (wN rfl) rfl rfl rfl rfl rfl rfl rfl (lb rfl) fun a S => ?_
 refine sBuild [] [iv 0, iv 0] S (wN rfl) rfl rfl rfl rfl (lb rfl) fun a S => ?_
 refine sBuild [(0, .string (⟨#[108]⟩ : ByteArray)), (1, .agg #[iv 2, iv 4]), (2, .agg #[iv 0, iv 0]), (3, .bool true), (4, iv 2), (5, iv 1)] (gl_stitch_form (stitch_form.mk (⟨#[108]⟩ : ByteArray) (2, 4) (0, 0) true 2 1)) S (wN rfl) rfl rfl rfl rfl (lb rfl) fun a S => ?_
 refine sLoadN (p := b4) (off := 0) (T := 49) (vs := [iv 2, iv 4]) 2 [iv 2, iv 4] S (wN rfl) rfl rfl rfl rfl rfl rfl rfl (lb rfl) fun a S => ?_
 refine sBuild [] [iv 0, iv 0] S (wN rfl) rfl rfl rfl rfl (lb rfl) fun a S => ?_
 refine sBuild [(0, .string (⟨#[109]⟩ : ByteArray)), (1, .agg #[iv 2, iv 4]), (2, .agg #[iv 0, iv 0]), (3, .bool true), (4, iv 1), (5, iv 2)] (gl_stitch_form (stitch_form.mk (⟨#[109]⟩ : ByteArray) (2, 4) (0, 0) true 1 2)) S (wN rfl) rfl rfl rfl rfl (lb rfl) fun a S => ?_
 refine sLoadN (p := b5) (off := 0) (T := 49) (vs := [iv 1, iv 6]) 1 [iv 1, iv 6] S (wN rfl) rfl rfl rfl rfl rfl rfl rfl (lb rfl) fun a S => ?_
 refine sLoadN (p := b5) (off := 0) (T := 49) (vs := [iv 1, iv 6]) 1 [iv 1, iv 6] S (wN rfl) rfl rfl rfl rfl rfl rfl rfl (lb rfl) fun a S => ?_
 refine sBuild [(0, .string (⟨#[120]⟩ : ByteArray)), (1, .agg #[iv 1, iv 6]), (2, .agg #[iv 1, iv 6]), (3, .bool true), (4, iv 3), (5, iv 3)] (gl_stitch_form (stitch_form.mk (⟨#[120]⟩ : ByteArray) (1, 6) (1, 6) true 3 3)) S (wN rfl) rfl rfl rfl rfl (lb rfl) fun a S => ?_
 refine sLoadN (p := b5) (off := 0) (T := 49) (vs := [iv 1, iv 6]) 1 [iv 1, iv 6] S (wN rfl) rfl rfl rfl rfl rfl rfl rfl (lb rfl) fun a S => ?_
 refine sLoadN (p := b5) (off := 0) (T := 49) (vs := [iv 1, iv 6]) 1 [iv 1, iv 6] S (wN rfl) rfl rfl rfl rfl rfl rfl rfl (lb rfl) fun a S => ?_
 refine sBuild [(0, .string (⟨#[121]⟩ : ByteArray)), (1, .agg #[iv 1, iv 6]), (2, .agg #[iv 1, iv 6]), (3, .bool true), (4, iv 3), (5, iv 3)] (gl_stitch_form (stitch_form.mk (⟨#[121]⟩ : ByteArray) (1, 6) (1, 6) true 3 3)) S (wN rfl) rfl rfl rfl rfl (lb rfl) fun a S => ?_
 refine sBuild [] [iv 0, iv 0] S (wN rfl) rfl rfl rfl rfl (lb rfl) fun a S => ?_
 refine sBuild [] [iv 0, iv 0] S (wN rfl) rfl rfl rfl rfl (lb rfl) fun a S => ?_
 refine sBuild [(0, .string (⟨#[115]⟩ : ByteArray)), (1, .agg #[iv 0, iv 0]), (2, .agg #[iv 0, iv 0]), (3, .bool true), (4, iv 1), (5, iv 1)] (gl_stitch_form (stitch_form.mk (⟨#[115]⟩ : ByteArray) (0, 0) (0, 0) true 1 1)) S (wN rfl) rfl rfl rfl rfl (lb rfl) fun a S => ?_
 refine sLoadN (p := b7) (off := 0) (T := 49) (vs := [iv 1, iv 200]) 0 [iv 1, iv 200] S (wN rfl) rfl rfl rfl rfl rfl rfl rfl (lb rfl) fun a S => ?_
 refine sBuild [] [iv 0, iv 0] S (wN rfl) rfl rfl rfl rfl (lb rfl) fun a S => ?_
 refine sBuild [(0, .string (⟨#[]⟩ : ByteArray)), (1, .agg #[iv 1, iv 200]), (2, .agg #[iv 0, iv 0]), (3, .bool false), (4, iv 0), (5, iv 2)] (gl_stitch_form (stitch_form.mk (⟨#[]⟩ : ByteArray) (1, 200) (0, 0) false 0 2)) S (wN rfl) rfl rfl rfl rfl (lb rfl) fun a S => ?_
 refine sLoadN (p := b7) (off := 0) (T := 49) (vs := [iv 1, iv 200]) 0 [iv 1, iv 200] S (wN rfl) rfl rfl rfl rfl rfl rfl rfl (lb rfl) fun a S => ?_
 refine sBuild [] [iv 0, iv 0] S (wN rfl) rfl rfl rfl rfl (lb rfl) fun a S => ?_
 refine sBuild [(0, .string (⟨#[111]⟩ : ByteArray)), (1, .agg #[iv 1, iv 200]), (2, .agg #[iv 0, iv 0]), (3, .bool true), (4, iv 2), (5, iv 0)] (gl_stitch_form (stitch_form.mk (⟨#[111]⟩ : ByteArray) (1, 200) (0, 0) true 2 0)) S (wN rfl) rfl rfl rfl rfl (lb rfl) fun a S => ?_
 have S := S.learn (fRep r_stitch_form (gv_stitch_form (stitch_form.mk (⟨#[]⟩ : ByteArray) (0, 0) (0, 0) true 1 1)) (stitch_form.mk (⟨#[]⟩ : ByteArray) (0, 0) (0, 0) true 1 1)) rfl
 have S := S.learn (fRep r_stitch_form (gv_stitch_form (stitch_form.mk (⟨#[]⟩ : ByteArray) (0, 0) (0, 0) false 0 1)) (stitch_form.mk (⟨#[]⟩ : ByteArray) (0, 0) (0, 0) false 0 1)) rfl
 have S := S.learn (fRep r_stitch_form (gv_stitch_form (stitch_form.mk (⟨#[102]⟩ : ByteArray) (2, 4) (0, 0) true 2 1)) (stitch_form.mk (⟨#[102]⟩ : ByteArray) (2, 4) (0, 0) true 2 1)) rfl
 have S := S.learn (fRep r_stitch_form (gv_stitch_form (stitch_form.mk (⟨#[108]⟩ : ByteArray) (2, 4) (0, 0) true 2 1)) (stitch_form.mk (⟨#[108]⟩ : ByteArray) (2, 4) (0, 0) true 2 1)) rfl
 have S := S.learn (fRep r_stitch_form (gv_stitch_form (stitch_form.mk (⟨#[109]⟩ : ByteArray) (2, 4) (0, 0) true 1 2)) (stitch_form.mk (⟨#[109]⟩ : ByteArray) (2, 4) (0, 0) true 1 2)) rfl
 have S := S.learn (fRep r_stitch_form (gv_stitch_form (stitch_form.mk (⟨#[120]⟩ : ByteArray) (1, 6) (1, 6) true 3 3)) (stitch_form.mk (⟨#[120]⟩ : ByteArray) (1, 6) (1, 6) true 3 3)) rfl
 have S := S.learn (fRep r_stitch_form (gv_stitch_form (stitch_form.mk (⟨#[121]⟩ : ByteArray) (1, 6) (1, 6) true 3 3)) (stitch_form.mk (⟨#[121]⟩ : ByteArray) (1, 6) (1, 6) true 3 3)) rfl
 have S := S.learn (fRep r_stitch_form (gv_stitch_form (stitch_form.mk (⟨#[115]⟩ : ByteArray) (0, 0) (0, 0) true 1 1)) (stitch_form.mk (⟨#[115]⟩ : ByteArray) (0, 0) (0, 0) true 1 1)) rfl
 have S := S.learn (fRep r_stitch_form (gv_stitch_form (stitch_form.mk (⟨#[]⟩ : ByteArray) (1, 200) (0, 0) false 0 2)) (stitch_form.mk (⟨#[]⟩ : ByteArray) (1, 200) (0, 0) false 0 2)) rfl
 have S := S.learn (fRep r_stitch_form (gv_stitch_form (stitch_form.mk (⟨#[111]⟩ : ByteArray) (1, 200) (0, 0) true 2 0)) (stitch_form.mk (⟨#[111]⟩ : ByteArray) (1, 200) (0, 0) true 2 0)) rfl
 refine sLit (r := r_stitch_form) (T := 115) (xs := [(stitch_form.mk (⟨#[]⟩ : ByteArray) (0, 0) (0, 0) true 1 1), (stitch_form.mk (⟨#[]⟩ : ByteArray) (0, 0) (0, 0) false 0 1), (stitch_form.mk (⟨#[102]⟩ : ByteArray) (2, 4) (0, 0) true 2 1), (stitch_form.mk (⟨#[108]⟩ : ByteArray) (2, 4) (0, 0) true 2 1), (stitch_form.mk (⟨#[109]⟩ : ByteArray) (2, 4) (0, 0) true 1 2), (stitch_form.mk (⟨#[120]⟩ : ByteArray) (1, 6) (1, 6) true 3 3), (stitch_form.mk (⟨#[121]⟩ : ByteArray) (1, 6) (1, 6) true 3 3), (stitch_form.mk (⟨#[115]⟩ : ByteArray) (0, 0) (0, 0) true 1 1), (stitch_form.mk (⟨#[]⟩ : ByteArray) (1, 200) (0, 0) false 0 2), (stitch_form.mk (⟨#[111]⟩ : ByteArray) (1, 200) (0, 0) true 2 0)]) [(0, gv_stitch_form (stitch_form.mk (⟨#[]⟩ : ByteArray) (0, 0) (0, 0) true 1 1)), (1, gv_stitch_form (stitch_form.mk (⟨#[]⟩ : ByteArray) (0, 0) (0, 0) false 0 1)), (2, gv_stitch_form (stitch_form.mk (⟨#[102]⟩ : ByteArray) (2, 4) (0, 0) true 2 1)), (3, gv_stitch_form (stitch_form.mk (⟨#[108]⟩ : ByteArray) (2, 4) (0, 0) true 2 1)), (4, gv_stitch_form (stitch_form.mk (⟨#[109]⟩ : ByteArray) (2, 4) (0, 0) true 1 2)), (5, gv_stitch_form (stitch_form.mk (⟨#[120]⟩ : ByteArray) (1, 6) (1, 6) true 3 3)), (6, gv_stitch_form (stitch_form.mk (⟨#[121]⟩ : ByteArray) (1, 6) (1, 6) true 3 3)), (7, gv_stitch_form (stitch_form.mk (⟨#[115]⟩ : ByteArray) (0, 0) (0, 0) true 1 1)), (8, gv_stitch_form (stitch_form.mk (⟨#[]⟩ : ByteArray) (1, 200) (0, 0) false 0 2)), (9, gv_stitch_form (stitch_form.mk (⟨#[111]⟩ : ByteArray) (1, 200) (0, 0) true 2 0))] 10 [gv_stitch_form (stitch_form.mk (⟨#[]⟩ : ByteArray) (0, 0) (0, 0) true 1 1), gv_stitch_form (stitch_form.mk (⟨#[]⟩ : ByteArray) (0, 0) (0, 0) false 0 1), gv_stitch_form (stitch_form.mk (⟨#[102]⟩ : ByteArray) (2, 4) (0, 0) true 2 1), gv_stitch_form (stitch_form.mk (⟨#[108]⟩ : ByteArray) (2, 4) (0, 0) true 2 1), gv_stitch_form (stitch_form.mk (⟨#[109]⟩ : ByteArray) (2, 4) (0, 0) true 1 2), gv_stitch_form (stitch_form.mk (⟨#[120]⟩ : ByteArray) (1, 6) (1, 6) true 3 3), gv_stitch_form (stitch_form.mk (⟨#[121]⟩ : ByteArray) (1, 6) (1, 6) true 3 3), gv_stitch_form (stitch_form.mk (⟨#[115]⟩ : ByteArray) (0, 0) (0, 0) true 1 1), gv_stitch_form (stitch_form.mk (⟨#[]⟩ : ByteArray) (1, 200) (0, 0) false 0 2), gv_stitch_form (stitch_form.mk (⟨#[111]⟩ : ByteArray) (1, 200) (0, 0) true 2 0)] [.string (⟨#[]⟩ : ByteArray), iv 0, iv 0, iv 0, iv 0, .bool true, iv 1, iv 1, .string (⟨#[]⟩ : ByteArray), iv 0, iv 0, iv 0, iv 0, .bool false, iv 0, iv 1, .string (⟨#[102]⟩ : ByteArray), iv 2, iv 4, iv 0, iv 0, .bool true, iv 2, iv 1, .string (⟨#[108]⟩ : ByteArray), iv 2, iv 4, iv 0, iv 0, .bool true, iv 2, iv 1, .string (⟨#[109]⟩ : ByteArray), iv 2, iv 4, iv 0, iv 0, .bool true, iv 1, iv 2, .string (⟨#[120]⟩ : ByteArray), iv 1, iv 6, iv 1, iv 6, .bool true, iv 3, iv 3, .string (⟨#[121]⟩ : ByteArray), iv 1, iv 6, iv 1, iv 6, .bool true, iv 3, iv 3, .string (⟨#[115]⟩ : ByteArray), iv 0, iv 0, iv 0, iv 0, .bool true, iv 1, iv 1, .string (⟨#[]⟩ : ByteArray), iv 1, iv 200, iv 0, iv 0, .bool false, iv 0, iv 2, .string (⟨#[111]⟩ : ByteArray), iv 1, iv 200, iv 0, iv 0, .bool true, iv 2, iv 0] (gv_stitch_form (stitch_form.mk (⟨#[]⟩ : ByteArray) (0, 0) (0, 0) false 0 0)) 72 S (wN rfl) rfl rfl Try.underlying124 rfl (by decide) (by decide) (by kernel_rfl) rfl (fun E1 w1 hE => All.cons (r_stitch_form.mono hE (S.mem.know (i := 9) (e := fRep r_stitch_form (gv_stitch_form (stitch_form.mk (⟨#[]⟩ : ByteArray) (0, 0) (0, 0) true 1 1)) (stitch_form.mk (⟨#[]⟩ : ByteArray) (0, 0) (0, 0) true 1 1)) rfl)) (All.cons (r_stitch_form.mono hE (S.mem.know (i := 8) (e := fRep r_stitch_form (gv_stitch_form (stitch_form.mk (⟨#[]⟩ : ByteArray) (0, 0) (0, 0) false 0 1)) (stitch_form.mk (⟨#[]⟩ : ByteArray) (0, 0) (0, 0) false 0 1)) rfl)) (All.cons (r_stitch_form.mono hE (S.mem.know (i := 7) (e := fRep r_stitch_form (gv_stitch_form (stitch_form.mk (⟨#[102]⟩ : ByteArray) (2, 4) (0, 0) true 2 1)) (stitch_form.mk (⟨#[102]⟩ : ByteArray) (2, 4) (0, 0) true 2 1)) rfl)) (All.cons (r_stitch_form.mono hE (S.mem.know (i := 6) (e := fRep r_stitch_form (gv_stitch_form (stitch_form.mk (⟨#[108]⟩ : ByteArray) (2, 4) (0, 0) true 2 1)) (stitch_form.mk (⟨#[108]⟩ : ByteArray) (2, 4) (0, 0) true 2 1)) rfl)) (All.cons (r_stitch_form.mono hE (S.mem.know (i := 5) (e := fRep r_stitch_form (gv_stitch_form (stitch_form.mk (⟨#[109]⟩ : ByteArray) (2, 4) (0, 0) true 1 2)) (stitch_form.mk (⟨#[109]⟩ : ByteArray) (2, 4) (0, 0) true 1 2)) rfl)) (All.cons (r_stitch_form.mono hE (S.mem.know (i := 4) (e := fRep r_stitch_form (gv_stitch_form (stitch_form.mk (⟨#[120]⟩ : ByteArray) (1, 6) (1, 6) true 3 3)) (stitch_form.mk (⟨#[120]⟩ : ByteArray) (1, 6) (1, 6) true 3 3)) rfl)) (All.cons (r_stitch_form.mono hE (S.mem.know (i := 3) (e := fRep r_stitch_form (gv_stitch_form (stitch_form.mk (⟨#[121]⟩ : ByteArray) (1, 6) (1, 6) true 3 3)) (stitch_form.mk (⟨#[121]⟩ : ByteArray) (1, 6) (1, 6) true 3 3)) rfl)) (All.cons (r_stitch_form.mono hE (S.mem.know (i := 2) (e := fRep r_stitch_form (gv_stitch_form (stitch_form.mk (⟨#[115]⟩ : ByteArray) (0, 0) (0, 0) true 1 1)) (stitch_form.mk (⟨#[115]⟩ : ByteArray) (0, 0) (0, 0) true 1 1)) rfl)) (All.cons (r_stitch_form.mono hE (S.mem.know (i := 1) (e := fRep r_stitch_form (gv_stitch_form (stitch_form.mk (⟨#[]⟩ : ByteArray) (1, 200) (0, 0) false 0 2)) (stitch_form.mk (⟨#[]⟩ : ByteArray) (1, 200) (0, 0) false 0 2)) rfl)) (All.cons (r_stitch_form.mono hE (S.mem.know (i := 0) (e := fRep r_stitch_form (gv_stitch_form (stitch_form.mk (⟨#[111]⟩ : ByteArray) (1, 200) (0, 0) true 2 0)) (stitch_form.mk (⟨#[111]⟩ : ByteArray) (1, 200) (0, 0) true 2 0)) rfl)) (All.nil _ _ _))))))))))) rfl rfl (lb rfl) fun a w a7 a5 S => ?_
 refine sN S fun a S => ?_
 refine lT (ak _ _ (sSeq (fun ao a8 => ?_)))
 obtain ⟨al, h, am⟩ := bS h
 refine sCut (fun a w => ∃ a9, a9 = al ∧ St [] E [] w0 57 a w [(0, .int .u8 p0), (2, .pointer (some ⟨b2, 0, none⟩)), (7, .slice a7 [(stitch_form.mk (⟨#[]⟩ : ByteArray) (0, 0) (0, 0) true 1 1), (stitch_form.mk (⟨#[]⟩ : ByteArray) (0, 0) (0, 0) false 0 1), (stitch_form.mk (⟨#[102]⟩ : ByteArray) (2, 4) (0, 0) true 2 1), (stitch_form.mk (⟨#[108]⟩ : ByteArray) (2, 4) (0, 0) true 2 1), (stitch_form.mk (⟨#[109]⟩ : ByteArray) (2, 4) (0, 0) true 1 2), (stitch_form.mk (⟨#[120]⟩ : ByteArray) (1, 6) (1, 6) true 3 3), (stitch_form.mk (⟨#[121]⟩ : ByteArray) (1, 6) (1, 6) true 3 3), (stitch_form.mk (⟨#[115]⟩ : ByteArray) (0, 0) (0, 0) true 1 1), (stitch_form.mk (⟨#[]⟩ : ByteArray) (1, 200) (0, 0) false 0 2), (stitch_form.mk (⟨#[111]⟩ : ByteArray) (1, 200) (0, 0) true 2 0)].length a5), (50, .bool a9)] [eBox b2 115 (gl_stitch_form (stitch_form.mk (⟨#[]⟩ : ByteArray) (0, 0) (0, 0) false 0 0)), eRow r_stitch_form 115 (.slice a7 [(stitch_form.mk (⟨#[]⟩ : ByteArray) (0, 0) (0, 0) true 1 1), (stitch_form.mk (⟨#[]⟩ : ByteArray) (0, 0) (0, 0) false 0 1), (stitch_form.mk (⟨#[102]⟩ : ByteArray) (2, 4) (0, 0) true 2 1), (stitch_form.mk (⟨#[108]⟩ : ByteArray) (2, 4) (0, 0) true 2 1), (stitch_form.mk (⟨#[109]⟩ : ByteArray) (2, 4) (0, 0) true 1 2), (stitch_form.mk (⟨#[120]⟩ : ByteArray) (1, 6) (1, 6) true 3 3), (stitch_form.mk (⟨#[121]⟩ : ByteArray) (1, 6) (1, 6) true 3 3), (stitch_form.mk (⟨#[115]⟩ : ByteArray) (0, 0) (0, 0) true 1 1), (stitch_form.mk (⟨#[]⟩ : ByteArray) (1, 200) (0, 0) false 0 2), (stitch_form.mk (⟨#[111]⟩ : ByteArray) (1, 200) (0, 0) true 2 0)].length a5) [(stitch_form.mk (⟨#[]⟩ : ByteArray) (0, 0) (0, 0) true 1 1), (stitch_form.mk (⟨#[]⟩ : ByteArray) (0, 0) (0, 0) false 0 1), (stitch_form.mk (⟨#[102]⟩ : ByteArray) (2, 4) (0, 0) true 2 1), (stitch_form.mk (⟨#[108]⟩ : ByteArray) (2, 4) (0, 0) true 2 1), (stitch_form.mk (⟨#[109]⟩ : ByteArray) (2, 4) (0, 0) true 1 2), (stitch_form.mk (⟨#[120]⟩ : ByteArray) (1, 6) (1, 6) true 3 3), (stitch_form.mk (⟨#[121]⟩ : ByteArray) (1, 6) (1, 6) true 3 3), (stitch_form.mk (⟨#[115]⟩ : ByteArray) (0, 0) (0, 0) true 1 1), (stitch_form.mk (⟨#[]⟩ : ByteArray) (1, 200) (0, 0) false 0 2), (stitch_form.mk (⟨#[111]⟩ : ByteArray) (1, 200) (0, 0) true 2 0)]] []) ?_ (fun a w hI => ?_)
 ·refine sRegion (sM S fun a S => ?_)
  refine sBin _ S (wN rfl) rfl rfl rfl (bLt _ _ _ _ .u8 p0 1) rfl (lb rfl) fun a S => ?_
  refine sM S fun a S => ?_
  rcases iS h with ⟨a4, h⟩ | ⟨a4, h⟩
  ·refine sSkN 5 2 false 44 S rfl rfl a4 rfl fun a S => ?_
   refine sPickT (.bool true) S (wN rfl) rfl rfl a4 rfl rfl (lb rfl) fun a S => ?_
   exact lT (⟨true, Option.some.inj h, S.fix [4, 0] [] (by decide) rfl rfl rfl⟩)
  refine sMove (.int .u8 p0) S (wG 2 false 44 rfl rfl rfl a4) (.inl rfl) rfl rfl (lb rfl) fun a S => ?_
  refine sConv (k := .u8) (k2 := .i64) (b := p0) S (wG 2 false 44 rfl rfl rfl a4) rfl Try.underlying5 Try.underlying3 rfl rfl (lb rfl) fun a S => ?_
  refine sMove (.slice a7 [(stitch_form.mk (⟨#[]⟩ : ByteArray) (0, 0) (0, 0) true 1 1), (stitch_form.mk (⟨#[]⟩ : ByteArray) (0, 0) (0, 0) false 0 1), (stitch_form.mk (⟨#[102]⟩ : ByteArray) (2, 4) (0, 0) true 2 1), (stitch_form.mk (⟨#[108]⟩ : ByteArray) (2, 4) (0, 0) true 2 1), (stitch_form.mk (⟨#[109]⟩ : ByteArray) (2, 4) (0, 0) true 1 2), (stitch_form.mk (⟨#[120]⟩ : ByteArray) (1, 6) (1, 6) true 3 3), (stitch_form.mk (⟨#[121]⟩ : ByteArray) (1, 6) (1, 6) true 3 3), (stitch_form.mk (⟨#[115]⟩ : ByteArray) (0, 0) (0, 0) true 1 1), (stitch_form.mk (⟨#[]⟩ : ByteArray) (1, 200) (0, 0) false 0 2), (stitch_form.mk (⟨#[111]⟩ : ByteArray) (1, 200) (0, 0) true 2 0)].length a5) S (wG 2 false 44 rfl rfl rfl a4) (.inl rfl) rfl rfl (lb rfl) fun a S => ?_
  refine sLen S (wG 2 false 44 rfl rfl rfl a4) rfl Try.underlying124 rfl rfl (lb rfl) fun a S => ?_
  refine sBin _ S (wG 2 false 44 rfl rfl rfl a4) rfl rfl rfl (bGt _ _ _ _ .i64 (IntKind.i64.wrap p0) ([(stitch_form.mk (⟨#[]⟩ : ByteArray) (0, 0) (0, 0) true 1 1), (stitch_form.mk (⟨#[]⟩ : ByteArray) (0, 0) (0, 0) false 0 1), (stitch_form.mk (⟨#[102]⟩ : ByteArray) (2, 4) (0, 0) true 2 1), (stitch_form.mk (⟨#[108]⟩ : ByteArray) (2, 4) (0, 0) true 2 1), (stitch_form.mk (⟨#[109]⟩ : ByteArray) (2, 4) (0, 0) true 1 2), (stitch_form.mk (⟨#[120]⟩ : ByteArray) (1, 6) (1, 6) true 3 3), (stitch_form.mk (⟨#[121]⟩ : ByteArray) (1, 6) (1, 6) true 3 3), (stitch_form.mk (⟨#[115]⟩ : ByteArray) (0, 0) (0, 0) true 1 1), (stitch_form.mk (⟨#[]⟩ : ByteArray) (1, 200) (0, 0) false 0 2), (stitch_form.mk (⟨#[111]⟩ : ByteArray) (1, 200) (0, 0) true 2 0)].length : Int)) rfl (lb rfl) fun a S => ?_
  refine sPickF (.bool (decide (([(stitch_form.mk (⟨#[]⟩ : ByteArray) (0, 0) (0, 0) true 1 1), (stitch_form.mk (⟨#[]⟩ : ByteArray) (0, 0) (0, 0) false 0 1), (stitch_form.mk (⟨#[102]⟩ : ByteArray) (2, 4) (0, 0) true 2 1), (stitch_form.mk (⟨#[108]⟩ : ByteArray) (2, 4) (0, 0) true 2 1), (stitch_form.mk (⟨#[109]⟩ : ByteArray) (2, 4) (0, 0) true 1 2), (stitch_form.mk (⟨#[120]⟩ : ByteArray) (1, 6) (1, 6) true 3 3), (stitch_form.mk (⟨#[121]⟩ : ByteArray) (1, 6) (1, 6) true 3 3), (stitch_form.mk (⟨#[115]⟩ : ByteArray) (0, 0) (0, 0) true 1 1), (stitch_form.mk (⟨#[]⟩ : ByteArray) (1, 200) (0, 0) false 0 2), (stitch_form.mk (⟨#[111]⟩ : ByteArray) (1, 200) (0, 0) true 2 0)].length : Int) < (IntKind.i64.wrap p0)))) S (wN rfl) rfl rfl a4 rfl rfl (lb rfl) fun a S => ?_
  exact lT (⟨decide (([(stitch_form.mk (⟨#[]⟩ : ByteArray) (0, 0) (0, 0) true 1 1), (stitch_form.mk (⟨#[]⟩ : ByteArray) (0, 0) (0, 0) false 0 1), (stitch_form.mk (⟨#[102]⟩ : ByteArray) (2, 4) (0, 0) true 2 1), (stitch_form.mk (⟨#[108]⟩ : ByteArray) (2, 4) (0, 0) true 2 1), (stitch_form.mk (⟨#[109]⟩ : ByteArray) (2, 4) (0, 0) true 1 2), (stitch_form.mk (⟨#[120]⟩ : ByteArray) (1, 6) (1, 6) true 3 3), (stitch_form.mk (⟨#[121]⟩ : ByteArray) (1, 6) (1, 6) true 3 3), (stitch_form.mk (⟨#[115]⟩ : ByteArray) (0, 0) (0, 0) true 1 1), (stitch_form.mk (⟨#[]⟩ : ByteArray) (1, 200) (0, 0) false 0 2), (stitch_form.mk (⟨#[111]⟩ : ByteArray) (1, 200) (0, 0) true 2 0)].length : Int) < (IntKind.i64.wrap p0)), Option.some.inj h, S.fix [4, 0] [] (by decide) rfl rfl rfl⟩)
 obtain ⟨a9, rfl, S⟩ := hI
 have h := am
 try dsimp only at h
 rcases iS h with ⟨a6, h⟩ | ⟨a6, h⟩
 ·refine sCondT S rfl a6 ?_
  refine sSeq (fun ap aa => sRegion (sBuild [] (gl_stitch_form (stitch_form.mk (⟨#[]⟩ : ByteArray) (0, 0) (0, 0) false 0 0)) S (wN rfl) rfl rfl rfl rfl (lb rfl) fun a S => ?_))
  refine sStore (p := b2) (off := 0) (T := 115) (vs := [.string (⟨#[]⟩ : ByteArray), iv 0, iv 0, iv 0, iv 0, .bool false, iv 0, iv 0]) (v := gv_stitch_form (stitch_form.mk (⟨#[]⟩ : ByteArray) (0, 0) (0, 0) false 0 0)) 0 [.string (⟨#[]⟩ : ByteArray), iv 0, iv 0, iv 0, iv 0, .bool false, iv 0, iv 0] S (wN rfl) rfl rfl rfl rfl rfl rfl rfl (by simp) rfl fun a w S => ?_
  refine sN S fun a S => ?_
  refine lT (aa _ _ ?_)
  obtain rfl := tS h
  have S := S.learn (fRep r_stitch_form (gv_stitch_form (stitch_form.mk (⟨#[]⟩ : ByteArray) (0, 0) (0, 0) false 0 0)) (stitch_form.mk (⟨#[]⟩ : ByteArray) (0, 0) (0, 0) false 0 0)) rfl
  exact wp_ret (rThen (sRet (.tuple #[gv_stitch_form (stitch_form.mk (⟨#[]⟩ : ByteArray) (0, 0) (0, 0) false 0 0), .bool false]) S (rsl2 rfl (rvN (c := 2) (t := 115) (T := 115) (p := b2) 0 [.string (⟨#[]⟩ : ByteArray), iv 0, iv 0, iv 0, iv 0, .bool false, iv 0, iv 0] S rfl rfl rfl rfl) (rvT (t := 3) (v := .bool false) S rfl)) ⟨(gv_stitch_form (stitch_form.mk (⟨#[]⟩ : ByteArray) (0, 0) (0, 0) false 0 0)), rfl, S.mem.sel [] [0] (by decide) rfl rfl⟩))
 refine sCondF S rfl a6 ?_
 refine wp_skip (leafT (a8 _ _ ?_))
 refine sSeq (fun aq ab => sRegion (sM S fun a S => ?_))
 refine sM S fun a S => ?_
 refine sBin _ S (wN rfl) rfl rfl rfl (bSubK _ _ _ _ .u8 p0 1) rfl (lb rfl) fun a S => ?_
 obtain ⟨a0, ac, h⟩ := bS h
 have S := S.shutR (r := r_stitch_form) (T := 115) (v := .slice a7 [(stitch_form.mk (⟨#[]⟩ : ByteArray) (0, 0) (0, 0) true 1 1), (stitch_form.mk (⟨#[]⟩ : ByteArray) (0, 0) (0, 0) false 0 1), (stitch_form.mk (⟨#[102]⟩ : ByteArray) (2, 4) (0, 0) true 2 1), (stitch_form.mk (⟨#[108]⟩ : ByteArray) (2, 4) (0, 0) true 2 1), (stitch_form.mk (⟨#[109]⟩ : ByteArray) (2, 4) (0, 0) true 1 2), (stitch_form.mk (⟨#[120]⟩ : ByteArray) (1, 6) (1, 6) true 3 3), (stitch_form.mk (⟨#[121]⟩ : ByteArray) (1, 6) (1, 6) true 3 3), (stitch_form.mk (⟨#[115]⟩ : ByteArray) (0, 0) (0, 0) true 1 1), (stitch_form.mk (⟨#[]⟩ : ByteArray) (1, 200) (0, 0) false 0 2), (stitch_form.mk (⟨#[111]⟩ : ByteArray) (1, 200) (0, 0) true 2 0)].length a5) (xs := [(stitch_form.mk (⟨#[]⟩ : ByteArray) (0, 0) (0, 0) true 1 1), (stitch_form.mk (⟨#[]⟩ : ByteArray) (0, 0) (0, 0) false 0 1), (stitch_form.mk (⟨#[102]⟩ : ByteArray) (2, 4) (0, 0) true 2 1), (stitch_form.mk (⟨#[108]⟩ : ByteArray) (2, 4) (0, 0) true 2 1), (stitch_form.mk (⟨#[109]⟩ : ByteArray) (2, 4) (0, 0) true 1 2), (stitch_form.mk (⟨#[120]⟩ : ByteArray) (1, 6) (1, 6) true 3 3), (stitch_form.mk (⟨#[121]⟩ : ByteArray) (1, 6) (1, 6) true 3 3), (stitch_form.mk (⟨#[115]⟩ : ByteArray) (0, 0) (0, 0) true 1 1), (stitch_form.mk (⟨#[]⟩ : ByteArray) (1, 200) (0, 0) false 0 2), (stitch_form.mk (⟨#[111]⟩ : ByteArray) (1, 200) (0, 0) true 2 0)]) 1 rfl
 obtain ⟨af, ae, S⟩ := pIdx (P := Try.prog) (r := r_stitch_form) (v := .slice a7 [(stitch_form.mk (⟨#[]⟩ : ByteArray) (0, 0) (0, 0) true 1 1), (stitch_form.mk (⟨#[]⟩ : ByteArray) (0, 0) (0, 0) false 0 1), (stitch_form.mk (⟨#[102]⟩ : ByteArray) (2, 4) (0, 0) true 2 1), (stitch_form.mk (⟨#[108]⟩ : ByteArray) (2, 4) (0, 0) true 2 1), (stitch_form.mk (⟨#[109]⟩ : ByteArray) (2, 4) (0, 0) true 1 2), (stitch_form.mk (⟨#[120]⟩ : ByteArray) (1, 6) (1, 6) true 3 3), (stitch_form.mk (⟨#[121]⟩ : ByteArray) (1, 6) (1, 6) true 3 3), (stitch_form.mk (⟨#[115]⟩ : ByteArray) (0, 0) (0, 0) true 1 1), (stitch_form.mk (⟨#[]⟩ : ByteArray) (1, 200) (0, 0) false 0 2), (stitch_form.mk (⟨#[111]⟩ : ByteArray) (1, 200) (0, 0) true 2 0)].length a5) (xs := [(stitch_form.mk (⟨#[]⟩ : ByteArray) (0, 0) (0, 0) true 1 1), (stitch_form.mk (⟨#[]⟩ : ByteArray) (0, 0) (0, 0) false 0 1), (stitch_form.mk (⟨#[102]⟩ : ByteArray) (2, 4) (0, 0) true 2 1), (stitch_form.mk (⟨#[108]⟩ : ByteArray) (2, 4) (0, 0) true 2 1), (stitch_form.mk (⟨#[109]⟩ : ByteArray) (2, 4) (0, 0) true 1 2), (stitch_form.mk (⟨#[120]⟩ : ByteArray) (1, 6) (1, 6) true 3 3), (stitch_form.mk (⟨#[121]⟩ : ByteArray) (1, 6) (1, 6) true 3 3), (stitch_form.mk (⟨#[115]⟩ : ByteArray) (0, 0) (0, 0) true 1 1), (stitch_form.mk (⟨#[]⟩ : ByteArray) (1, 200) (0, 0) false 0 2), (stitch_form.mk (⟨#[111]⟩ : ByteArray) (1, 200) (0, 0) true 2 0)]) (j := IntKind.u8.wrap (p0 - 1)) 124 115 0 S Try.underlying124 rfl rfl ac
 refine sIdxV S (wN rfl) rfl rfl rfl ae rfl (lb rfl) fun a S => ?_
 obtain ⟨ag, S⟩ := pLoad (r := r_stitch_form) (q := af) (x := a0) 0 S rfl
 obtain rfl : ag = gv_stitch_form a0 := S.mem.know (i := 1) (e := fRep r_stitch_form (ag) a0) rfl
 refine sLoadVN (vq := af) 0 [.string a0.letter, iv a0.a.1, iv a0.a.2, iv a0.b.1, iv a0.b.2, .bool a0.sided, iv a0.uses, iv a0.made] S (wN rfl) rfl rfl rfl rfl rfl rfl (lb rfl) fun a S => ?_
 refine sStore (p := b2) (off := 0) (T := 115) (vs := [.string (⟨#[]⟩ : ByteArray), iv 0, iv 0, iv 0, iv 0, .bool false, iv 0, iv 0]) (v := gv_stitch_form a0) 0 [.string a0.letter, iv a0.a.1, iv a0.a.2, iv a0.b.1, iv a0.b.2, .bool a0.sided, iv a0.uses, iv a0.made] S (wN rfl) rfl rfl rfl rfl rfl rfl rfl (by simp) rfl fun a w S => ?_
 refine sN S fun a S => ?_
 refine lT (ab _ _ ?_)
 obtain rfl := tS h
 exact wp_ret (sRet (.tuple #[gv_stitch_form a0, .bool true]) S (rsl2 rfl (rvN (c := 2) (t := 115) (T := 115) (p := b2) 0 [.string a0.letter, iv a0.a.1, iv a0.a.2, iv a0.b.1, iv a0.b.2, .bool a0.sided, iv a0.uses, iv a0.made] S rfl rfl rfl rfl) (rvT (t := 3) (v := .bool true) S rfl)) ⟨(gv_stitch_form a0), rfl, S.mem.sel [] [1] (by decide) rfl rfl⟩)
noncomputable def F_stitch_loops (p0 : api_Stitch) (p1 : Int) : Option Int :=
 (idxO ([0, 1, p0.A, w64 (p0.A + p0.B)] : List Int) p1).bind fun x4 =>
 some x4
theorem c_stitch_loops (E : Nat → Prop) (w0 : World) (p0 : api_Stitch) (v0 : Value) (p1 : Int) (r : Int) (h : F_stitch_loops p0 p1 = some r) (S : St0 E [] w0 w0 [] [fRep r_api_Stitch (v0) p0]) :
 Calls Try.prog 72 #[v0, iv p1] w0 (Ret (X := Unit) E [] w0 (fun _ => .int .i64 r) (fun _ => []) (fun _ => [])) := by
 unfold F_stitch_loops at h
 obtain rfl : v0 = .agg #[.int .u8 p0.Kind, .bool p0.Purl, iv p0.A, iv p0.B] := S.know (i := 0) (e := fRep r_api_Stitch (v0) p0) rfl
 refine sEnter (args := [.agg #[.int .u8 p0.Kind, .bool p0.Purl, iv p0.A, iv p0.B], iv p1]) 15 Try.func72 rfl rfl (by simp) S (fun a S => ?_)
 refine sSeq (fun K1 a0 => sRegion (sBox (v := .agg #[.int .u8 p0.Kind, .bool p0.Purl, iv p0.A, iv p0.B]) S (wN rfl) rfl rfl [.int .u8 p0.Kind, .bool p0.Purl, iv p0.A, iv p0.B] rfl rfl (lb rfl) fun a b2 w S => ?_))
 refine sN S fun a S => ?_
 refine lT (a0 _ _ (sSeq (fun K3 a4 => sRegion (sField (b := b2) (off := 0) 2 2 S (wN rfl) rfl rfl rfl rfl rfl (lb rfl) fun a S => ?_))))
 refine sLoad1 0 (iv p0.A) S (wN rfl) rfl rfl rfl rfl rfl rfl (lb rfl) fun a S => ?_
 refine sField (b := b2) (off := 0) 2 2 S (wN rfl) rfl rfl rfl rfl rfl (lb rfl) fun a S => ?_
 refine sLoad1 0 (iv p0.A) S (wN rfl) rfl rfl rfl rfl rfl rfl (lb rfl) fun a S => ?_
 refine sField (b := b2) (off := 0) 3 3 S (wN rfl) rfl rfl rfl rfl rfl (lb rfl) fun a S => ?_
 refine sLoad1 0 (iv p0.B) S (wN rfl) rfl rfl rfl rfl rfl rfl (lb rfl) fun a S => ?_
 refine sBin _ S (wN rfl) rfl rfl rfl (bAdd _ _ _ _ p0.A p0.B) rfl (lb rfl) fun a S => ?_
 refine sBuild [(0, iv 0), (1, iv 1), (2, iv p0.A), (3, iv (w64 (p0.A + p0.B)))] [iv 0, iv 1, iv p0.A, iv (w64 (p0.A + p0.B))] S (wN rfl) rfl rfl rfl rfl (lb rfl) fun a S => ?_
 refine sM S fun a S => ?_
 obtain ⟨x4, a5, h⟩ := bS h
 refine sIndexA (g := fun z => .int .i64 z) (xs := ([0, 1, p0.A, w64 (p0.A + p0.B)] : List Int)) (j := p1) (k := .i64) 4 [iv 0, iv 1, iv p0.A, iv (w64 (p0.A + p0.B))] S (wN rfl) rfl Try.underlying128 rfl rfl rfl rfl rfl rfl a5 rfl (lb rfl) fun a S => ?_
 refine sN S fun a S => ?_
 refine lT (a4 _ _ ?_)
 obtain rfl := tS h
 exact wp_ret (sRet (iv x4) S (rsl1 rfl (rvT (t := 4) (v := iv x4) S rfl)) ⟨(), rfl, S.mem.sel [] [] (by decide) rfl rfl⟩)
noncomputable def stitch_sum_l1 (p0 : (List api_Stitch)) : (Int × Int × Int) → Option ((Int × Int × Int) ⊕ (Int × Int)) := fun s0 => match s0 with
 | (s9, a5, a0) =>
  if decide (a0 < (p0.length : Int)) then
   (idxO p0 a0).bind fun a4 =>
   (F_stitch_forms a4.Kind).bind fun a6 =>
   (F_stitch_loops a4 a6.1.uses).bind fun a7 =>
   (F_stitch_loops a4 a6.1.made).bind fun a8 =>
   some (.inl (w64 (s9 + a7), w64 (a5 + a8), w64 (a0 + 1)))
  else
   some (.inr (s9, a5))
noncomputable def F_stitch_sum (p0 : (List api_Stitch)) : Option (Int × Int) :=
 Option.bind (α := (Int × Int)) (
  (whileO (stitch_sum_l1 p0) (0, 0, 0)).bind fun (a0, a4) =>
   some (a0, a4)) fun (o4, o5) =>
 some (o4, o5)
theorem c_stitch_sum (E : Nat → Prop) (w0 : World) (p0 : (List api_Stitch)) (v0 : Value) (r : (Int × Int)) (h : F_stitch_sum p0 = some r) (S : St0 E [] w0 w0 [] [fRep (rL r_api_Stitch) (v0) p0]) :
 Calls Try.prog 65 #[v0] w0 (Ret (X := Unit) E [] w0 (fun _ => .tuple #[.int .i64 r.1, .int .i64 r.2]) (fun _ => []) (fun _ => [])) := by
 unfold F_stitch_sum at h
 obtain ⟨a9, aa, _, rfl, _⟩ := S.know (i := 0) (e := fRep (rL r_api_Stitch) (v0) p0) rfl
 refine sEnter (args := [.slice a9 p0.length aa]) 35 Try.func65 rfl rfl (by simp) S (fun a S => ?_)
 refine sSeq (fun K3 ay => sRegion (sN S fun a S => ?_))
 refine sN S fun a S => ?_
 refine lT (ay _ _ ?_)
 obtain ⟨t6, h, g7⟩ := bS h
 refine sCut (fun a w => ∃ o4, ∃ o5, (o4, o5) = t6 ∧ St [] E [] w0 35 a w [(2, iv o4), (3, iv o5)] [] []) ?_ (fun a w hI => ?_)
 rotate_left
 ·obtain ⟨o4, o5, rfl, S⟩ := hI
  have h := g7
  try dsimp only at h
  refine sSeq (fun aC ae => sRegion (sM S fun a S => ?_))
  refine sM S fun a S => ?_
  refine sN S fun a S => ?_
  refine sN S fun a S => ?_
  refine lT (ae _ _ ?_)
  obtain rfl := tS h
  exact wp_ret (sRet (.tuple #[iv o4, iv o5]) S (rsl2 rfl (rvT (t := 2) (v := iv o4) S rfl) (rvT (t := 3) (v := iv o5) S rfl)) ⟨(), rfl, S.mem.sel [] [] (by decide) rfl rfl⟩)
 refine sSeq (fun K8 az => sRegion (sM S fun a S => ?_))
 refine sLen S (wN rfl) rfl Try.underlying62 rfl rfl (lb rfl) fun a S => ?_
 refine sM S fun a S => ?_
 refine lT (az _ _ (wp_block ?_))
 obtain ⟨aG, hl, aA⟩ := bS h
 refine sLoop hl (fun s0 a w => match s0 with | (s9, a7, a6) => St [] E [] w0 35 a w [(2, iv s9), (3, iv a7), (8, .slice a9 p0.length aa), (9, iv (p0.length : Int)), (10, iv a6)] [] [fRep (rL r_api_Stitch) (.slice a9 p0.length aa) p0]) (S.fix [] [0] (by decide) rfl rfl rfl) ?_
 clear hl h
 intro s0 a w c0 hI h af
 obtain ⟨s9, a7, a6⟩ := s0
 unfold stitch_sum_l1 at h
 dsimp only at h hI
 have S := hI
 refine sSeq (fun aH ag => sRegion (sBin _ S (wN rfl) rfl rfl rfl (bLt _ _ _ _ .i64 a6 (p0.length : Int)) rfl (lb rfl) fun a S => ?_))
 refine lT (ag _ _ (sSeq (fun aI ah => ?_)))
 rcases iS h with ⟨a5, h⟩ | ⟨a5, h⟩
 rotate_left
 ·refine sCondF S rfl a5 ?_
  obtain rfl := tS h
  obtain rfl := af _ rfl
  have h := aA
  try dsimp only at h
  exact wp_exit (xThen (xThen (xHit (leafT (⟨s9, a7, Option.some.inj h, S.fix [] [] (by decide) rfl rfl rfl⟩)))))
 refine sCondT S rfl a5 ?_
 refine wp_skip (leafT (ah _ _ ?_))
 refine sSeq (fun aJ ai => wp_block ?_)
 refine sSeq (fun aK aj => sRegion ?_)
 obtain ⟨a0, ak, h⟩ := bS h
 obtain ⟨av, al, S⟩ := pIdx (P := Try.prog) (r := r_api_Stitch) (v := .slice a9 p0.length aa) (xs := p0) (j := a6) 62 61 0 S Try.underlying62 rfl rfl ak
 refine sIdxV S (wN rfl) rfl rfl rfl al rfl (lb rfl) fun a S => ?_
 obtain ⟨aw, S⟩ := pLoad (r := r_api_Stitch) (q := av) (x := a0) 0 S rfl
 obtain rfl : aw = .agg #[.int .u8 a0.Kind, .bool a0.Purl, iv a0.A, iv a0.B] := S.mem.know (i := 1) (e := fRep r_api_Stitch (aw) a0) rfl
 refine sLoadVN (vq := av) 0 [.int .u8 a0.Kind, .bool a0.Purl, iv a0.A, iv a0.B] S (wN rfl) rfl rfl rfl rfl rfl rfl (lb rfl) fun a S => ?_
 refine sAlloc (.agg #[.int .u8 0, .bool false, iv 0, iv 0]) S (wN rfl) rfl rfl [.int .u8 0, .bool false, iv 0, iv 0] rfl rfl (lb rfl) fun a a8 w S => ?_
 refine sStore (p := a8) (off := 0) (T := 61) (vs := [.int .u8 0, .bool false, iv 0, iv 0]) (v := .agg #[.int .u8 a0.Kind, .bool a0.Purl, iv a0.A, iv a0.B]) 0 [.int .u8 a0.Kind, .bool a0.Purl, iv a0.A, iv a0.B] S (wN rfl) rfl rfl rfl rfl rfl rfl rfl (by simp) rfl fun a w S => ?_
 refine lT (aj _ _ (sSeq (fun aL am => sRegion (sField (b := a8) (off := 0) 0 0 S (wN rfl) rfl rfl rfl rfl rfl (lb rfl) fun a S => ?_))))
 refine sLoad1 0 (.int .u8 a0.Kind) S (wN rfl) rfl rfl rfl rfl rfl rfl (lb rfl) fun a S => ?_
 obtain ⟨a4, ao, h⟩ := bS h
 refine sCall (X := Value) (f := 67) (vs := [.int .u8 a0.Kind]) (val := c_stitch_forms_val a4) (B' := fun _ => []) (D' := c_stitch_forms_D a4) [] [eBox a8 61 [.int .u8 a0.Kind, .bool a0.Purl, iv a0.A, iv a0.B]] [] [0] [] S (wN rfl) rfl callee67 rfl (by decide) rfl rfl (fun E1 w1 S1 => c_stitch_forms E1 w1 a0.Kind a4 ao S1) rfl (lb rfl) fun ax a w S => ?_
 obtain rfl : ax = gv_stitch_form a4.1 := S.mem.know (i := 0) (e := fRep r_stitch_form (ax) a4.1) rfl
 refine sM S fun a S => ?_
 refine sExtract (vs := [gv_stitch_form a4.1, .bool a4.2]) (gv_stitch_form a4.1) S (wN rfl) rfl rfl rfl rfl (lb rfl) fun a S => ?_
 refine sExtract (vs := [gv_stitch_form a4.1, .bool a4.2]) (.bool a4.2) S (wN rfl) rfl rfl rfl rfl (lb rfl) fun a S => ?_
 refine sAlloc (gv_stitch_form (stitch_form.mk (⟨#[]⟩ : ByteArray) (0, 0) (0, 0) false 0 0)) S (wN rfl) rfl rfl (gl_stitch_form (stitch_form.mk (⟨#[]⟩ : ByteArray) (0, 0) (0, 0) false 0 0)) rfl rfl (lb rfl) fun a ap w S => ?_
 refine sStore (p := ap) (off := 0) (T := 115) (vs := [.string (⟨#[]⟩ : ByteArray), iv 0, iv 0, iv 0, iv 0, .bool false, iv 0, iv 0]) (v := gv_stitch_form a4.1) 0 [.string a4.1.letter, iv a4.1.a.1, iv a4.1.a.2, iv a4.1.b.1, iv a4.1.b.2, .bool a4.1.sided, iv a4.1.uses, iv a4.1.made] S (wN rfl) rfl rfl rfl rfl rfl rfl rfl (by simp) rfl fun a w S => ?_
 refine sN S fun a S => ?_
 refine lT (am _ _ (sSeq (fun aM aq => sRegion (sM S fun a S => ?_))))
 refine sLoadN (p := a8) (off := 0) (T := 61) (vs := [.int .u8 a0.Kind, .bool a0.Purl, iv a0.A, iv a0.B]) 1 [.int .u8 a0.Kind, .bool a0.Purl, iv a0.A, iv a0.B] S (wN rfl) rfl rfl rfl rfl rfl rfl rfl (lb rfl) fun a S => ?_
 refine sField (b := ap) (off := 0) 6 6 S (wN rfl) rfl rfl rfl rfl rfl (lb rfl) fun a S => ?_
 refine sLoad1 0 (iv a4.1.uses) S (wN rfl) rfl rfl rfl rfl rfl rfl (lb rfl) fun a S => ?_
 obtain ⟨ab, ar, h⟩ := bS h
 have S1 := S.mem
 refine sCq [.agg #[.int .u8 a0.Kind, .bool a0.Purl, iv a0.A, iv a0.B], iv a4.1.uses] (iv ab) S callee72 (S1.quiet [2] rfl) (fun E1 w1 S1 => c_stitch_loops E1 w1 a0 (.agg #[.int .u8 a0.Kind, .bool a0.Purl, iv a0.A, iv a0.B]) a4.1.uses ab ar S1) fun a w S => ?_
 refine sBin _ S (wN rfl) rfl rfl rfl (bAdd _ _ _ _ s9 ab) rfl (lb rfl) fun a S => ?_
 refine sN S fun a S => ?_
 refine lT (aq _ _ (sRegion (sM S fun a S => ?_)))
 refine sLoadN (p := a8) (off := 0) (T := 61) (vs := [.int .u8 a0.Kind, .bool a0.Purl, iv a0.A, iv a0.B]) 1 [.int .u8 a0.Kind, .bool a0.Purl, iv a0.A, iv a0.B] S (wN rfl) rfl rfl rfl rfl rfl rfl rfl (lb rfl) fun a S => ?_
 refine sField (b := ap) (off := 0) 7 7 S (wN rfl) rfl rfl rfl rfl rfl (lb rfl) fun a S => ?_
 refine sLoad1 0 (iv a4.1.made) S (wN rfl) rfl rfl rfl rfl rfl rfl (lb rfl) fun a S => ?_
 obtain ⟨ac, au, h⟩ := bS h
 have S1 := S.mem
 refine sCq [.agg #[.int .u8 a0.Kind, .bool a0.Purl, iv a0.A, iv a0.B], iv a4.1.made] (iv ac) S callee72 (S1.quiet [2] rfl) (fun E1 w1 S1 => c_stitch_loops E1 w1 a0 (.agg #[.int .u8 a0.Kind, .bool a0.Purl, iv a0.A, iv a0.B]) a4.1.made ac au S1) fun a w S => ?_
 refine sBin _ S (wN rfl) rfl rfl rfl (bAdd _ _ _ _ a7 ac) rfl (lb rfl) fun a S => ?_
 refine sN S fun a S => ?_
 refine leafL (leafB (leafT (ai _ _ ?_)))
 refine sRegion (sBin _ S (wN rfl) rfl rfl rfl (bAdd _ _ _ _ a6 1) rfl (lb rfl) fun a S => ?_)
 refine sM S fun a S => ?_
 exact lT (⟨(w64 (s9 + ab), w64 (a7 + ac), w64 (a6 + 1)), (Option.some.inj h).symm, (S.fix [] [4] (by decide) rfl rfl rfl)⟩)
noncomputable def F_stitch_within (p0 : Int) (p1 : (Int × Int)) : Option Bool :=
 Option.bind (α := Bool) (
  if decide (p1.1 ≤ p0) then
   some (decide (p0 ≤ p1.2))
  else
   some false) fun o3 =>
 some o3
theorem c_stitch_within (E : Nat → Prop) (w0 : World) (p0 : Int) (p1 : (Int × Int)) (v1 : Value) (r : Bool) (h : F_stitch_within p0 p1 = some r) (S : St0 E [] w0 w0 [] [fRep r_A2_Int (v1) p1]) :
 Calls Try.prog 76 #[iv p0, v1] w0 (Ret (X := Unit) E [] w0 (fun _ => .bool r) (fun _ => []) (fun _ => [])) := by
 unfold F_stitch_within at h
 obtain rfl : v1 = .agg #[iv p1.1, iv p1.2] := S.know (i := 0) (e := fRep r_A2_Int (v1) p1) rfl
 refine sEnter (args := [iv p0, .agg #[iv p1.1, iv p1.2]]) 15 Try.func76 rfl rfl (by simp) S (fun a S => ?_)
 refine sSeq (fun K1 a4 => sRegion (sBox (v := .agg #[iv p1.1, iv p1.2]) S (wN rfl) rfl rfl [iv p1.1, iv p1.2] rfl rfl (lb rfl) fun a b2 w S => ?_))
 refine sN S fun a S => ?_
 refine lT (a4 _ _ ?_)
 obtain ⟨t4, h, g5⟩ := bS h
 refine sCut (fun a w => ∃ o3, o3 = t4 ∧ St [] E [] w0 15 a w [(4, .bool o3)] [] []) ?_ (fun a w hI => ?_)
 rotate_left
 ·obtain ⟨o3, rfl, S⟩ := hI
  have h := g5
  try dsimp only at h
  obtain rfl := tS h
  exact wp_ret (sRet (.bool o3) S (rsl1 rfl (rvT (t := 4) (v := .bool o3) S rfl)) ⟨(), rfl, S.mem.sel [] [] (by decide) rfl rfl⟩)
 refine sRegion (sM S fun a S => ?_)
 refine sIdxV S (wN rfl) rfl rfl rfl (idxV_arr (m := 2) (sz := 1) Try.underlying49 rfl (by decide) (by decide) 0) rfl (lb rfl) fun a S => ?_
 refine sLoad1 0 (iv p1.1) S (wN rfl) rfl rfl rfl rfl rfl rfl (lb rfl) fun a S => ?_
 refine sBin _ S (wN rfl) rfl rfl rfl (bGe _ _ _ _ .i64 p0 p1.1) rfl (lb rfl) fun a S => ?_
 refine sM S fun a S => ?_
 rcases iS h with ⟨a0, h⟩ | ⟨a0, h⟩
 rotate_left
 ·refine sSkN 4 4 true 9 S rfl rfl a0 rfl fun a S => ?_
  refine sPickF (.bool false) S (wN rfl) rfl rfl a0 rfl rfl (lb rfl) fun a S => ?_
  refine sN S fun a S => ?_
  exact lT (⟨false, Option.some.inj h, S.fix [] [] (by decide) rfl rfl rfl⟩)
 refine sMove (iv p0) S (wG 4 true 9 rfl rfl rfl a0) (.inl rfl) rfl rfl (lb rfl) fun a S => ?_
 refine sIdxV S (wG 4 true 9 rfl rfl rfl a0) rfl rfl rfl (idxV_arr (m := 2) (sz := 1) Try.underlying49 rfl (by decide) (by decide) 0) rfl (lb rfl) fun a S => ?_
 refine sLoad1 0 (iv p1.2) S (wG 4 true 9 rfl rfl rfl a0) rfl rfl rfl rfl rfl rfl (lb rfl) fun a S => ?_
 refine sBin _ S (wG 4 true 9 rfl rfl rfl a0) rfl rfl rfl (bLe _ _ _ _ .i64 p0 p1.2) rfl (lb rfl) fun a S => ?_
 refine sPickT (.bool (decide (p0 ≤ p1.2))) S (wN rfl) rfl rfl a0 rfl rfl (lb rfl) fun a S => ?_
 refine sN S fun a S => ?_
 exact lT (⟨decide (p0 ≤ p1.2), Option.some.inj h, S.fix [] [] (by decide) rfl rfl rfl⟩)
noncomputable def F_stitch_Check (p0 : api_Stitch) : Option Int :=
 (F_stitch_forms p0.Kind).bind fun r4 =>
 Option.bind (α := Bool) (
  if !r4.2 then
   some true
  else
   (F_stitch_within p0.A r4.1.a).bind fun a0 =>
   if !a0 then
    some true
   else
    (F_stitch_within p0.B r4.1.b).bind fun a4 =>
    if !a4 then
     some true
    else
     if p0.Purl then
      some (!r4.1.sided)
     else
      some false) fun o9 =>
 if o9 then
  some 8
 else
  some 0
theorem c_stitch_Check (E : Nat → Prop) (w0 : World) (p0 : api_Stitch) (v0 : Value) (r : Int) (h : F_stitch_Check p0 = some r) (S : St0 E [] w0 w0 [] [fRep r_api_Stitch (v0) p0]) :
 Calls Try.prog 71 #[v0] w0 (Ret (X := Unit) E [] w0 (fun _ => .int .i64 r) (fun _ => []) (fun _ => [])) := by
 unfold F_stitch_Check at h
 obtain rfl : v0 = .agg #[.int .u8 p0.Kind, .bool p0.Purl, iv p0.A, iv p0.B] := S.know (i := 0) (e := fRep r_api_Stitch (v0) p0) rfl
 refine sEnter (args := [.agg #[.int .u8 p0.Kind, .bool p0.Purl, iv p0.A, iv p0.B]]) 38 Try.func71 rfl rfl (by simp) S (fun a S => ?_)
 refine sSeq (fun K1 af => sRegion (sBox (v := .agg #[.int .u8 p0.Kind, .bool p0.Purl, iv p0.A, iv p0.B]) S (wN rfl) rfl rfl [.int .u8 p0.Kind, .bool p0.Purl, iv p0.A, iv p0.B] rfl rfl (lb rfl) fun a b2 w S => ?_))
 refine sN S fun a S => ?_
 refine lT (af _ _ (sSeq (fun K3 ag => sRegion (sField (b := b2) (off := 0) 0 0 S (wN rfl) rfl rfl rfl rfl rfl (lb rfl) fun a S => ?_))))
 refine sLoad1 0 (.int .u8 p0.Kind) S (wN rfl) rfl rfl rfl rfl rfl rfl (lb rfl) fun a S => ?_
 obtain ⟨r4, ah, h⟩ := bS h
 refine sCall (X := Value) (f := 67) (vs := [.int .u8 p0.Kind]) (val := c_stitch_forms_val r4) (B' := fun _ => []) (D' := c_stitch_forms_D r4) [] [eBox b2 61 [.int .u8 p0.Kind, .bool p0.Purl, iv p0.A, iv p0.B]] [] [0] [] S (wN rfl) rfl callee67 rfl (by decide) rfl rfl (fun E1 w1 S1 => c_stitch_forms E1 w1 p0.Kind r4 ah S1) rfl (lb rfl) fun u6 a w S => ?_
 obtain rfl : u6 = gv_stitch_form r4.1 := S.mem.know (i := 0) (e := fRep r_stitch_form (u6) r4.1) rfl
 refine sM S fun a S => ?_
 refine sExtract (vs := [gv_stitch_form r4.1, .bool r4.2]) (gv_stitch_form r4.1) S (wN rfl) rfl rfl rfl rfl (lb rfl) fun a S => ?_
 refine sExtract (vs := [gv_stitch_form r4.1, .bool r4.2]) (.bool r4.2) S (wN rfl) rfl rfl rfl rfl (lb rfl) fun a S => ?_
 refine sAlloc (gv_stitch_form (stitch_form.mk (⟨#[]⟩ : ByteArray) (0, 0) (0, 0) false 0 0)) S (wN rfl) rfl rfl (gl_stitch_form (stitch_form.mk (⟨#[]⟩ : ByteArray) (0, 0) (0, 0) false 0 0)) rfl rfl (lb rfl) fun a b7 w S => ?_
 refine sStore (p := b7) (off := 0) (T := 115) (vs := [.string (⟨#[]⟩ : ByteArray), iv 0, iv 0, iv 0, iv 0, .bool false, iv 0, iv 0]) (v := gv_stitch_form r4.1) 0 [.string r4.1.letter, iv r4.1.a.1, iv r4.1.a.2, iv r4.1.b.1, iv r4.1.b.2, .bool r4.1.sided, iv r4.1.uses, iv r4.1.made] S (wN rfl) rfl rfl rfl rfl rfl rfl rfl (by simp) rfl fun a w S => ?_
 refine sN S fun a S => ?_
 refine lT (ag _ _ (sSeq (fun K8 ai => ?_)))
 obtain ⟨aj, h, ak⟩ := bS h
 refine sCut (fun a w => ∃ o9, o9 = aj ∧ St [] E [] w0 38 a w [(37, .bool o9)] [] []) ?_ (fun a w hI => ?_)
 rotate_left
 ·obtain ⟨o9, rfl, S⟩ := hI
  have h := ak
  try dsimp only at h
  rcases iS h with ⟨a7, h⟩ | ⟨a7, h⟩
  ·refine sCondT S rfl a7 ?_
   refine sSeq (fun al aa => sRegion (sN S fun a S => ?_))
   refine lT (aa _ _ ?_)
   obtain rfl := tS h
   exact wp_ret (rThen (sRet (iv 8) S (rsl1 rfl (rvT (t := 2) (v := iv 8) S rfl)) ⟨(), rfl, S.mem.sel [] [] (by decide) rfl rfl⟩))
  refine sCondF S rfl a7 ?_
  refine wp_skip (leafT (ai _ _ ?_))
  refine sSeq (fun am ab => sRegion (sN S fun a S => ?_))
  refine lT (ab _ _ ?_)
  obtain rfl := tS h
  exact wp_ret (sRet (iv 0) S (rsl1 rfl (rvT (t := 2) (v := iv 0) S rfl)) ⟨(), rfl, S.mem.sel [] [] (by decide) rfl rfl⟩)
 refine sRegion (sM S fun a S => ?_)
 refine sNot (b := r4.2) S (wN rfl) rfl rfl rfl (lb rfl) fun a S => ?_
 refine sM S fun a S => ?_
 rcases iS h with ⟨a4, h⟩ | ⟨a4, h⟩
 ·refine sSkN 6 2 false 13 S rfl rfl a4 rfl fun a S => ?_
  refine sPickT (.bool true) S (wN rfl) rfl rfl a4 rfl rfl (lb rfl) fun a S => ?_
  refine sM S fun a S => ?_
  refine sSkN 6 10 false 21 S rfl rfl rfl rfl fun a S => ?_
  refine sPickT (.bool true) S (wN rfl) rfl rfl rfl rfl rfl (lb rfl) fun a S => ?_
  refine sM S fun a S => ?_
  refine sSkN 3 18 false 29 S rfl rfl rfl rfl fun a S => ?_
  refine sSkipU 21 true 32 33 S rfl rfl rfl rfl (lb rfl) fun a S => ?_
  refine sSkipU 21 true 32 34 S rfl rfl rfl rfl (lb rfl) fun a S => ?_
  refine sSkipU 21 true 32 35 S rfl rfl rfl rfl (lb rfl) fun a S => ?_
  refine sSk S rfl rfl rfl rfl rfl rfl fun a S => ?_
  refine sPickT (.bool true) S (wN rfl) rfl rfl rfl rfl rfl (lb rfl) fun a S => ?_
  exact lT (⟨true, Option.some.inj h, S.fix [] [] (by decide) rfl rfl rfl⟩)
 refine sField (b := b2) (off := 0) 2 2 S (wG 2 false 13 rfl rfl rfl a4) rfl rfl rfl rfl rfl (lb rfl) fun a S => ?_
 refine sLoad1 1 (iv p0.A) S (wG 2 false 13 rfl rfl rfl a4) rfl rfl rfl rfl rfl rfl (lb rfl) fun a S => ?_
 refine sField (b := b7) (off := 0) 1 1 S (wG 2 false 13 rfl rfl rfl a4) rfl rfl rfl rfl rfl (lb rfl) fun a S => ?_
 refine sLoadN (p := b7) (off := 1) (T := 115) (vs := (gl_stitch_form r4.1)) 0 [iv r4.1.a.1, iv r4.1.a.2] S (wG 2 false 13 rfl rfl rfl a4) rfl rfl rfl rfl rfl rfl rfl (lb rfl) fun a S => ?_
 obtain ⟨a8, ac, h⟩ := bS h
 have S1 := S.mem
 have S1 := S1.learn (fRep r_A2_Int (.agg #[iv r4.1.a.1, iv r4.1.a.2]) r4.1.a) rfl
 refine sCallQ (X := Unit) (f := 76) (vs := [iv p0.A, .agg #[iv r4.1.a.1, iv r4.1.a.2]]) (val := fun _ => .bool a8) S (wG 2 false 13 rfl rfl rfl a4) rfl callee76 rfl (S1.quiet [0] rfl) (fun E1 w1 S1 => c_stitch_within E1 w1 p0.A r4.1.a (.agg #[iv r4.1.a.1, iv r4.1.a.2]) a8 ac S1) rfl (lb rfl) fun _ a w S => ?_
 refine sNot (b := a8) S (wG 2 false 13 rfl rfl rfl a4) rfl rfl rfl (lb rfl) fun a S => ?_
 refine sPickF (.bool (!a8)) S (wN rfl) rfl rfl a4 rfl rfl (lb rfl) fun a S => ?_
 refine sM S fun a S => ?_
 rcases iS h with ⟨a5, h⟩ | ⟨a5, h⟩
 ·refine sSkN 6 10 false 21 S rfl rfl a5 rfl fun a S => ?_
  refine sPickT (.bool true) S (wN rfl) rfl rfl a5 rfl rfl (lb rfl) fun a S => ?_
  refine sM S fun a S => ?_
  refine sSkN 3 18 false 29 S rfl rfl rfl rfl fun a S => ?_
  refine sSkipU 21 true 32 33 S rfl rfl rfl rfl (lb rfl) fun a S => ?_
  refine sSkipU 21 true 32 34 S rfl rfl rfl rfl (lb rfl) fun a S => ?_
  refine sSkipU 21 true 32 35 S rfl rfl rfl rfl (lb rfl) fun a S => ?_
  refine sSk S rfl rfl rfl rfl rfl rfl fun a S => ?_
  refine sPickT (.bool true) S (wN rfl) rfl rfl rfl rfl rfl (lb rfl) fun a S => ?_
  exact lT (⟨true, Option.some.inj h, S.fix [] [] (by decide) rfl rfl rfl⟩)
 refine sField (b := b2) (off := 0) 3 3 S (wG 10 false 21 rfl rfl rfl a5) rfl rfl rfl rfl rfl (lb rfl) fun a S => ?_
 refine sLoad1 1 (iv p0.B) S (wG 10 false 21 rfl rfl rfl a5) rfl rfl rfl rfl rfl rfl (lb rfl) fun a S => ?_
 refine sField (b := b7) (off := 0) 3 3 S (wG 10 false 21 rfl rfl rfl a5) rfl rfl rfl rfl rfl (lb rfl) fun a S => ?_
 refine sLoadN (p := b7) (off := 3) (T := 115) (vs := (gl_stitch_form r4.1)) 0 [iv r4.1.b.1, iv r4.1.b.2] S (wG 10 false 21 rfl rfl rfl a5) rfl rfl rfl rfl rfl rfl rfl (lb rfl) fun a S => ?_
 obtain ⟨a9, ae, h⟩ := bS h
 have S1 := S.mem
 have S1 := S1.learn (fRep r_A2_Int (.agg #[iv r4.1.b.1, iv r4.1.b.2]) r4.1.b) rfl
 refine sCallQ (X := Unit) (f := 76) (vs := [iv p0.B, .agg #[iv r4.1.b.1, iv r4.1.b.2]]) (val := fun _ => .bool a9) S (wG 10 false 21 rfl rfl rfl a5) rfl callee76 rfl (S1.quiet [0] rfl) (fun E1 w1 S1 => c_stitch_within E1 w1 p0.B r4.1.b (.agg #[iv r4.1.b.1, iv r4.1.b.2]) a9 ae S1) rfl (lb rfl) fun _ a w S => ?_
 refine sNot (b := a9) S (wG 10 false 21 rfl rfl rfl a5) rfl rfl rfl (lb rfl) fun a S => ?_
 refine sPickF (.bool (!a9)) S (wN rfl) rfl rfl a5 rfl rfl (lb rfl) fun a S => ?_
 refine sM S fun a S => ?_
 rcases iS h with ⟨a0, h⟩ | ⟨a0, h⟩
 ·refine sSkN 3 18 false 29 S rfl rfl a0 rfl fun a S => ?_
  refine sSkipU 21 true 32 33 S rfl rfl rfl rfl (lb rfl) fun a S => ?_
  refine sSkipU 21 true 32 34 S rfl rfl rfl rfl (lb rfl) fun a S => ?_
  refine sSkipU 21 true 32 35 S rfl rfl rfl rfl (lb rfl) fun a S => ?_
  refine sSk S rfl rfl rfl a0 rfl rfl fun a S => ?_
  refine sPickT (.bool true) S (wN rfl) rfl rfl a0 rfl rfl (lb rfl) fun a S => ?_
  exact lT (⟨true, Option.some.inj h, S.fix [] [] (by decide) rfl rfl rfl⟩)
 refine sField (b := b2) (off := 0) 1 1 S (wG 18 false 29 rfl rfl rfl a0) rfl rfl rfl rfl rfl (lb rfl) fun a S => ?_
 refine sLoad1 1 (.bool p0.Purl) S (wG 18 false 29 rfl rfl rfl a0) rfl rfl rfl rfl rfl rfl (lb rfl) fun a S => ?_
 refine sMove (.bool p0.Purl) S (wG 18 false 29 rfl rfl rfl a0) (.inl rfl) rfl rfl (lb rfl) fun a S => ?_
 rcases iS h with ⟨a6, h⟩ | ⟨a6, h⟩
 rotate_left
 ·refine sSkN 3 21 true 32 S rfl rfl a6 rfl fun a S => ?_
  refine sPickF (.bool false) S (wG 18 false 29 rfl rfl rfl a0) rfl rfl a6 rfl rfl (lb rfl) fun a S => ?_
  refine sPickF (.bool false) S (wN rfl) rfl rfl a0 rfl rfl (lb rfl) fun a S => ?_
  exact lT (⟨false, Option.some.inj h, S.fix [] [] (by decide) rfl rfl rfl⟩)
 refine sField (b := b7) (off := 0) 5 5 S (wG 21 true 32 rfl rfl rfl a6) rfl rfl rfl rfl rfl (lb rfl) fun a S => ?_
 refine sLoad1 0 (.bool r4.1.sided) S (wG 21 true 32 rfl rfl rfl a6) rfl rfl rfl rfl rfl rfl (lb rfl) fun a S => ?_
 refine sNot (b := r4.1.sided) S (wG 21 true 32 rfl rfl rfl a6) rfl rfl rfl (lb rfl) fun a S => ?_
 refine sPickT (.bool (!r4.1.sided)) S (wG 18 false 29 rfl rfl rfl a0) rfl rfl a6 rfl rfl (lb rfl) fun a S => ?_
 refine sPickF (.bool (!r4.1.sided)) S (wN rfl) rfl rfl a0 rfl rfl (lb rfl) fun a S => ?_
 exact lT (⟨!r4.1.sided, Option.some.inj h, S.fix [] [] (by decide) rfl rfl rfl⟩)
noncomputable def F_stitch_All_1 (p0 : api_Stitch) : Option Bool :=
 (F_stitch_Check p0).bind fun r4 =>
 some (r4 != 0)
theorem c_stitch_All_1 (E : Nat → Prop) (w0 : World) (p0 : api_Stitch) (v0 : Value) (r : Bool) (h : F_stitch_All_1 p0 = some r) (S : St0 E [] w0 w0 [] [fRep r_api_Stitch (v0) p0]) :
 Calls Try.prog 70 #[v0] w0 (Ret (X := Unit) E [] w0 (fun _ => .bool r) (fun _ => []) (fun _ => [])) := by
 unfold F_stitch_All_1 at h
 obtain rfl : v0 = .agg #[.int .u8 p0.Kind, .bool p0.Purl, iv p0.A, iv p0.B] := S.know (i := 0) (e := fRep r_api_Stitch (v0) p0) rfl
 refine sEnter (args := [.agg #[.int .u8 p0.Kind, .bool p0.Purl, iv p0.A, iv p0.B]]) 6 Try.func70 rfl rfl (by simp) S (fun a S => ?_)
 refine sSeq (fun K1 a0 => sRegion (sBox (v := .agg #[.int .u8 p0.Kind, .bool p0.Purl, iv p0.A, iv p0.B]) S (wN rfl) rfl rfl [.int .u8 p0.Kind, .bool p0.Purl, iv p0.A, iv p0.B] rfl rfl (lb rfl) fun a b2 w S => ?_))
 refine sN S fun a S => ?_
 refine lT (a0 _ _ (sSeq (fun K3 a4 => sRegion (sLoadN (p := b2) (off := 0) (T := 61) (vs := [.int .u8 p0.Kind, .bool p0.Purl, iv p0.A, iv p0.B]) 0 [.int .u8 p0.Kind, .bool p0.Purl, iv p0.A, iv p0.B] S (wN rfl) rfl rfl rfl rfl rfl rfl rfl (lb rfl) fun a S => ?_))))
 obtain ⟨r4, a5, h⟩ := bS h
 have S1 := S.mem
 refine sCq [.agg #[.int .u8 p0.Kind, .bool p0.Purl, iv p0.A, iv p0.B]] (iv r4) S callee71 (S1.quiet [0] rfl) (fun E1 w1 S1 => c_stitch_Check E1 w1 p0 (.agg #[.int .u8 p0.Kind, .bool p0.Purl, iv p0.A, iv p0.B]) r4 a5 S1) fun a w S => ?_
 refine sBin _ S (wN rfl) rfl rfl rfl (bNe _ _ _ _ .i64 r4 0) rfl (lb rfl) fun a S => ?_
 refine sN S fun a S => ?_
 refine lT (a4 _ _ ?_)
 obtain rfl := tS h
 exact wp_ret (sRet (.bool (r4 != 0)) S (rsl1 rfl (rvT (t := 2) (v := .bool (r4 != 0)) S rfl)) ⟨(), rfl, S.mem.sel [] [] (by decide) rfl rfl⟩)
noncomputable def slices_IndexFunc___api_Stitch_api_Stitch__s0_l1 (p0 : (List api_Stitch)) : Int → Option (Int ⊕ (Int ⊕ Unit)) := fun s0 => match s0 with
 | s7 =>
  if decide (s7 < (p0.length : Int)) then
   (idxO p0 s7).bind fun a0 =>
   (F_stitch_All_1 a0).bind fun a4 =>
   if a4 then
    some (.inr (.inl s7))
   else
    some (.inl (w64 (s7 + 1)))
  else
   some (.inr (.inr ()))
noncomputable def F_slices_IndexFunc___api_Stitch_api_Stitch__s0 (p0 : (List api_Stitch)) : Option Int :=
 Option.bind (α := Unit ⊕ Int) (
  (whileO (slices_IndexFunc___api_Stitch_api_Stitch__s0_l1 p0) 0).bind fun z0 => match z0 with
   | .inl z =>
    some (.inr z)
   | .inr _ =>
    some (.inl ())) fun z0 => match z0 with
  | .inl _ =>
   some (-1)
  | .inr z =>
   some z
theorem c_slices_IndexFunc___api_Stitch_api_Stitch__s0 (E : Nat → Prop) (w0 : World) (p0 : (List api_Stitch)) (v0 : Value) (r : Int) (h : F_slices_IndexFunc___api_Stitch_api_Stitch__s0 p0 = some r) (S : St0 E [] w0 w0 [] [fRep (rL r_api_Stitch) (v0) p0]) :
 Calls Try.prog 75 #[v0, .func (.func 70) #[] #[]] w0 (Ret (X := Unit) E [] w0 (fun _ => .int .i64 r) (fun _ => []) (fun _ => [])) := by
 unfold F_slices_IndexFunc___api_Stitch_api_Stitch__s0 at h
 obtain ⟨a6, a7, _, rfl, _⟩ := S.know (i := 0) (e := fRep (rL r_api_Stitch) (v0) p0) rfl
 refine sEnter (args := [.slice a6 p0.length a7, .func (.func 70) #[] #[]]) 19 Try.func75 rfl rfl (by simp) S (fun a S => ?_)
 refine sSeq (fun K3 ao => sRegion (sN S fun a S => ?_))
 refine lT (ao _ _ ?_)
 obtain ⟨t4, h, g5⟩ := bS h
 refine sCut (fun a w => .inl () = t4 ∧ St [] E [] w0 19 a w [] [] []) ?_ (fun a w hI => ?_)
 rotate_left
 ·obtain ⟨rfl, S⟩ := hI
  have h := g5
  try dsimp only at h
  refine sSeq (fun aq a8 => sRegion (sN S fun a S => ?_))
  refine lT (a8 _ _ ?_)
  obtain rfl := tS h
  exact wp_ret (sRet (iv (-1)) S (rsl1 rfl (rvT (t := 4) (v := iv (-1)) S rfl)) ⟨(), rfl, S.mem.sel [] [] (by decide) rfl rfl⟩)
 refine sSeq (fun K6 ap => sRegion (sM S fun a S => ?_))
 refine sLen S (wN rfl) rfl Try.underlying62 rfl rfl (lb rfl) fun a S => ?_
 refine sM S fun a S => ?_
 refine lT (ap _ _ (wp_block ?_))
 obtain ⟨ar, hl, g9⟩ := bS h
 refine sLoop hl (fun s0 a w => match s0 with | s7 => St [] E [] w0 19 a w [(0, .slice a6 p0.length a7), (1, .func (.func 70) #[] #[]), (7, iv (p0.length : Int)), (8, iv s7)] [] [fRep (rL r_api_Stitch) (.slice a6 p0.length a7) p0]) (S.fix [] [0] (by decide) rfl rfl rfl) ?_
 clear hl h
 intro s7 a w c0 hI h aj
 unfold slices_IndexFunc___api_Stitch_api_Stitch__s0_l1 at h
 dsimp only at h hI
 have S := hI
 refine sSeq (fun au a9 => sRegion (sBin _ S (wN rfl) rfl rfl rfl (bLt _ _ _ _ .i64 s7 (p0.length : Int)) rfl (lb rfl) fun a S => ?_))
 refine lT (a9 _ _ (sSeq (fun av aa => ?_)))
 rcases iS h with ⟨a4, h⟩ | ⟨a4, h⟩
 rotate_left
 ·refine sCondF S rfl a4 ?_
  obtain rfl := tS h
  obtain rfl := aj _ rfl
  have h := g9
  try dsimp only at h
  exact wp_exit (xThen (xThen (xHit (leafT (⟨Option.some.inj h, S.fix [] [] (by decide) rfl rfl rfl⟩)))))
 refine sCondT S rfl a4 ?_
 refine wp_skip (leafT (aa _ _ ?_))
 refine sSeq (fun aw ab => wp_block ?_)
 refine sSeq (fun ax ac => sRegion (sM S fun a S => ?_))
 refine sN S fun a S => ?_
 refine lT (ac _ _ (sSeq (fun ay ae => sRegion (sM S fun a S => ?_))))
 refine sM S fun a S => ?_
 refine sM S fun a S => ?_
 obtain ⟨a0, af, h⟩ := bS h
 obtain ⟨ak, ag, S⟩ := pIdx (P := Try.prog) (r := r_api_Stitch) (v := .slice a6 p0.length a7) (xs := p0) (j := s7) 62 61 0 S Try.underlying62 rfl rfl af
 refine sIdxV S (wN rfl) rfl rfl rfl ag rfl (lb rfl) fun a S => ?_
 obtain ⟨al, S⟩ := pLoad (r := r_api_Stitch) (q := ak) (x := a0) 0 S rfl
 obtain rfl : al = .agg #[.int .u8 a0.Kind, .bool a0.Purl, iv a0.A, iv a0.B] := S.mem.know (i := 1) (e := fRep r_api_Stitch (al) a0) rfl
 refine sLoadVN (vq := ak) 0 [.int .u8 a0.Kind, .bool a0.Purl, iv a0.A, iv a0.B] S (wN rfl) rfl rfl rfl rfl rfl rfl (lb rfl) fun a S => ?_
 obtain ⟨am, ah, h⟩ := bS h
 have S1 := S.mem
 refine sCallVQ (X := Unit) (g := 70) (vs := [.agg #[.int .u8 a0.Kind, .bool a0.Purl, iv a0.A, iv a0.B]]) (caps := []) (val := fun _ => .bool am) S (wN rfl) rfl rfl callee70 rfl (S1.quiet [1] rfl) (fun E1 w1 S1 => c_stitch_All_1 E1 w1 a0 (.agg #[.int .u8 a0.Kind, .bool a0.Purl, iv a0.A, iv a0.B]) am ah S1) rfl (lb rfl) fun _ a w S => ?_
 refine lT (ae _ _ ?_)
 rcases iS h with ⟨a5, h⟩ | ⟨a5, h⟩
 rotate_left
 ·refine sCondF S rfl a5 ?_
  refine wp_skip (leafB (leafT (ab _ _ ?_)))
  refine sRegion (sBin _ S (wN rfl) rfl rfl rfl (bAdd _ _ _ _ s7 1) rfl (lb rfl) fun a S => ?_)
  refine sM S fun a S => ?_
  exact lT (⟨w64 (s7 + 1), (Option.some.inj h).symm, (S.fix [] [3] (by decide) rfl rfl rfl)⟩)
 refine sCondT S rfl a5 ?_
 refine sSeq (fun az ai => sRegion (sM S fun a S => ?_))
 refine sN S fun a S => ?_
 refine lT (ai _ _ ?_)
 obtain rfl := tS h
 obtain rfl := aj _ rfl
 have h := g9
 try dsimp only at h
 obtain rfl := tS h
 have h := g5
 try dsimp only at h
 obtain rfl := tS h
 exact wp_ret (rBlock (rThen (rThen (rBlock (rThen (sRet (iv s7) S (rsl1 rfl (rvT (t := 4) (v := iv s7) S rfl)) ⟨(), rfl, S.mem.sel [] [] (by decide) rfl rfl⟩))))))
noncomputable def F_slices_ContainsFunc___api_Stitch_api_Stitch__s0 (p0 : (List api_Stitch)) : Option Bool :=
 (F_slices_IndexFunc___api_Stitch_api_Stitch__s0 p0).bind fun r5 =>
 some (decide (0 ≤ r5))
theorem c_slices_ContainsFunc___api_Stitch_api_Stitch__s0 (E : Nat → Prop) (w0 : World) (p0 : (List api_Stitch)) (v0 : Value) (r : Bool) (h : F_slices_ContainsFunc___api_Stitch_api_Stitch__s0 p0 = some r) (S : St0 E [] w0 w0 [] [fRep (rL r_api_Stitch) (v0) p0]) :
 Calls Try.prog 69 #[v0, .func (.func 70) #[] #[]] w0 (Ret (X := Unit) E [] w0 (fun _ => .bool r) (fun _ => []) (fun _ => [])) := by
 unfold F_slices_ContainsFunc___api_Stitch_api_Stitch__s0 at h
 obtain ⟨a0, a4, _, rfl, _⟩ := S.know (i := 0) (e := fRep (rL r_api_Stitch) (v0) p0) rfl
 refine sEnter (args := [.slice a0 p0.length a4, .func (.func 70) #[] #[]]) 9 Try.func69 rfl rfl (by simp) S (fun a S => ?_)
 refine sSeq (fun K3 a5 => sRegion (sN S fun a S => ?_))
 refine lT (a5 _ _ (sSeq (fun K4 a6 => sRegion (sM S fun a S => ?_))))
 refine sM S fun a S => ?_
 obtain ⟨r5, a7, h⟩ := bS h
 have S1 := S.mem
 refine sCq [.slice a0 p0.length a4, .func (.func 70) #[] #[]] (iv r5) S callee75 (S1.quiet [0] rfl) (fun E1 w1 S1 => c_slices_IndexFunc___api_Stitch_api_Stitch__s0 E1 w1 p0 (.slice a0 p0.length a4) r5 a7 S1) fun a w S => ?_
 refine sBin _ S (wN rfl) rfl rfl rfl (bGe _ _ _ _ .i64 r5 0) rfl (lb rfl) fun a S => ?_
 refine sN S fun a S => ?_
 refine lT (a6 _ _ ?_)
 obtain rfl := tS h
 exact wp_ret (sRet (.bool (decide (0 ≤ r5))) S (rsl1 rfl (rvT (t := 4) (v := .bool (decide (0 ≤ r5))) S rfl)) ⟨(), rfl, S.mem.sel [] [] (by decide) rfl rfl⟩)
noncomputable def F_stitch_All (p0 : (List api_Stitch)) : Option Int :=
 if decide (200 < (p0.length : Int)) then
  some 4
 else
  (F_slices_ContainsFunc___api_Stitch_api_Stitch__s0 p0).bind fun a4 =>
  if a4 then
   some 8
  else
   (F_stitch_sum p0).bind fun a0 =>
   if decide (200 < (if a0.1 < a0.2 then a0.2 else a0.1)) then
    some 4
   else
    some 0
theorem c_stitch_All (E : Nat → Prop) (w0 : World) (p0 : (List api_Stitch)) (v0 : Value) (r : Int) (h : F_stitch_All p0 = some r) (S : St0 E [] w0 w0 [] [fRep (rL r_api_Stitch) (v0) p0]) :
 Calls Try.prog 64 #[v0] w0 (Ret (X := Unit) E [] w0 (fun _ => .int .i64 r) (fun _ => []) (fun _ => [])) := by
 unfold F_stitch_All at h
 obtain ⟨a6, a7, _, rfl, _⟩ := S.know (i := 0) (e := fRep (rL r_api_Stitch) (v0) p0) rfl
 refine sEnter (args := [.slice a6 p0.length a7]) 19 Try.func64 rfl rfl (by simp) S (fun a S => ?_)
 refine sSeq (fun K3 aj => sRegion (sN S fun a S => ?_))
 refine lT (aj _ _ (sSeq (fun K4 ak => sSeq (fun K5 al => sRegion (sM S fun a S => ?_)))))
 refine sLen S (wN rfl) rfl Try.underlying62 rfl rfl (lb rfl) fun a S => ?_
 refine sBin _ S (wN rfl) rfl rfl rfl (bGt _ _ _ _ .i64 (p0.length : Int) 200) rfl (lb rfl) fun a S => ?_
 refine lT (al _ _ ?_)
 rcases iS h with ⟨a8, h⟩ | ⟨a8, h⟩
 ·refine sCondT S rfl a8 ?_
  refine sSeq (fun K7 am => sRegion (sN S fun a S => ?_))
  refine lT (am _ _ ?_)
  obtain rfl := tS h
  exact wp_ret (rThen (sRet (iv 4) S (rsl1 rfl (rvT (t := 2) (v := iv 4) S rfl)) ⟨(), rfl, S.mem.sel [] [] (by decide) rfl rfl⟩))
 refine sCondF S rfl a8 ?_
 refine wp_skip (leafT (ak _ _ ?_))
 refine sSeq (fun K8 ao => sSeq (fun K9 ap => sRegion (sM S fun a S => ?_)))
 obtain ⟨ai, a9, h⟩ := bS h
 have S1 := S.mem
 refine sCq [.slice a6 p0.length a7, .func (.func 70) #[] #[]] (.bool ai) S callee69 (S1.quiet [0] rfl) (fun E1 w1 S1 => c_slices_ContainsFunc___api_Stitch_api_Stitch__s0 E1 w1 p0 (.slice a6 p0.length a7) ai a9 S1) fun a w S => ?_
 refine lT (ap _ _ ?_)
 rcases iS h with ⟨a4, h⟩ | ⟨a4, h⟩
 ·refine sCondT S rfl a4 ?_
  refine sSeq (fun aq aa => sRegion (sN S fun a S => ?_))
  refine lT (aa _ _ ?_)
  obtain rfl := tS h
  exact wp_ret (rThen (sRet (iv 8) S (rsl1 rfl (rvT (t := 2) (v := iv 8) S rfl)) ⟨(), rfl, S.mem.sel [] [] (by decide) rfl rfl⟩))
 refine sCondF S rfl a4 ?_
 refine wp_skip (leafT (ao _ _ ?_))
 refine sSeq (fun ar ab => sSeq (fun au ac => sRegion (sM S fun a S => ?_)))
 obtain ⟨a0, ae, h⟩ := bS h
 have S1 := S.mem
 refine sCq [.slice a6 p0.length a7] (.tuple #[iv a0.1, iv a0.2]) S callee65 (S1.quiet [0] rfl) (fun E1 w1 S1 => c_stitch_sum E1 w1 p0 (.slice a6 p0.length a7) a0 ae S1) fun a w S => ?_
 refine sM S fun a S => ?_
 refine sExtract (vs := [iv a0.1, iv a0.2]) (iv a0.1) S (wN rfl) rfl rfl rfl rfl (lb rfl) fun a S => ?_
 refine sExtract (vs := [iv a0.1, iv a0.2]) (iv a0.2) S (wN rfl) rfl rfl rfl rfl (lb rfl) fun a S => ?_
 refine sN S fun a S => ?_
 refine sN S fun a S => ?_
 refine lT (ac _ _ (sSeq (fun av af => sRegion (sM S fun a S => ?_))))
 refine sM S fun a S => ?_
 refine sMax2 (p := a0.1) (q := a0.2) S (wN rfl) rfl rfl rfl rfl (lb rfl) fun a S => ?_
 refine sBin _ S (wN rfl) rfl rfl rfl (bGt _ _ _ _ .i64 (if a0.1 < a0.2 then a0.2 else a0.1) 200) rfl (lb rfl) fun a S => ?_
 refine lT (af _ _ ?_)
 rcases iS h with ⟨a5, h⟩ | ⟨a5, h⟩
 ·refine sCondT S rfl a5 ?_
  refine sSeq (fun aw ag => sRegion (sN S fun a S => ?_))
  refine lT (ag _ _ ?_)
  obtain rfl := tS h
  exact wp_ret (rThen (sRet (iv 4) S (rsl1 rfl (rvT (t := 2) (v := iv 4) S rfl)) ⟨(), rfl, S.mem.sel [] [] (by decide) rfl rfl⟩))
 refine sCondF S rfl a5 ?_
 refine wp_skip (leafT (ab _ _ ?_))
 refine sSeq (fun ax ah => sRegion (sN S fun a S => ?_))
 refine lT (ah _ _ ?_)
 obtain rfl := tS h
 exact wp_ret (sRet (iv 0) S (rsl1 rfl (rvT (t := 2) (v := iv 0) S rfl)) ⟨(), rfl, S.mem.sel [] [] (by decide) rfl rfl⟩)
noncomputable def F_stitch_Uses (p0 : (List api_Stitch)) : Option (Int × Int) :=
 (F_stitch_All p0).bind fun r6 =>
 if r6 != 0 then
  some (0, r6)
 else
  (F_stitch_sum p0).bind fun a0 =>
  some (a0.1, 0)
theorem c_stitch_Uses (E : Nat → Prop) (w0 : World) (p0 : (List api_Stitch)) (v0 : Value) (r : (Int × Int)) (h : F_stitch_Uses p0 = some r) (S : St0 E [] w0 w0 [] [fRep (rL r_api_Stitch) (v0) p0]) :
 Calls Try.prog 53 #[v0] w0 (Ret (X := Unit) E [] w0 (fun _ => .tuple #[.int .i64 r.1, .int .i64 r.2]) (fun _ => []) (fun _ => [])) := by
 unfold F_stitch_Uses at h
 obtain ⟨a4, a5, _, rfl, _⟩ := S.know (i := 0) (e := fRep (rL r_api_Stitch) (v0) p0) rfl
 refine sEnter (args := [.slice a4 p0.length a5]) 18 Try.func53 rfl rfl (by simp) S (fun a S => ?_)
 refine sSeq (fun K3 ab => sRegion (sN S fun a S => ?_))
 refine sN S fun a S => ?_
 refine lT (ab _ _ (sSeq (fun K4 ac => sSeq (fun K5 ae => sRegion (sM S fun a S => ?_)))))
 obtain ⟨r6, af, h⟩ := bS h
 have S1 := S.mem
 refine sCq [.slice a4 p0.length a5] (iv r6) S callee64 (S1.quiet [0] rfl) (fun E1 w1 S1 => c_stitch_All E1 w1 p0 (.slice a4 p0.length a5) r6 af S1) fun a w S => ?_
 refine sN S fun a S => ?_
 refine lT (ae _ _ (sSeq (fun K8 ag => sRegion (sM S fun a S => ?_))))
 refine sBin _ S (wN rfl) rfl rfl rfl (bNe _ _ _ _ .i64 r6 0) rfl (lb rfl) fun a S => ?_
 refine lT (ag _ _ ?_)
 rcases iS h with ⟨a6, h⟩ | ⟨a6, h⟩
 ·refine sCondT S rfl a6 ?_
  refine sSeq (fun ah a7 => sRegion (sM S fun a S => ?_))
  refine sN S fun a S => ?_
  refine sN S fun a S => ?_
  refine lT (a7 _ _ ?_)
  obtain rfl := tS h
  exact wp_ret (rThen (sRet (.tuple #[iv 0, iv r6]) S (rsl2 rfl (rvT (t := 2) (v := iv 0) S rfl) (rvT (t := 3) (v := iv r6) S rfl)) ⟨(), rfl, S.mem.sel [] [] (by decide) rfl rfl⟩))
 refine sCondF S rfl a6 ?_
 refine wp_skip (leafT (ac _ _ ?_))
 refine sSeq (fun ai a8 => sRegion (sM S fun a S => ?_))
 obtain ⟨a0, a9, h⟩ := bS h
 have S1 := S.mem
 refine sCq [.slice a4 p0.length a5] (.tuple #[iv a0.1, iv a0.2]) S callee65 (S1.quiet [0] rfl) (fun E1 w1 S1 => c_stitch_sum E1 w1 p0 (.slice a4 p0.length a5) a0 a9 S1) fun a w S => ?_
 refine sM S fun a S => ?_
 refine sExtract (vs := [iv a0.1, iv a0.2]) (iv a0.1) S (wN rfl) rfl rfl rfl rfl (lb rfl) fun a S => ?_
 refine sExtract (vs := [iv a0.1, iv a0.2]) (iv a0.2) S (wN rfl) rfl rfl rfl rfl (lb rfl) fun a S => ?_
 refine sN S fun a S => ?_
 refine sN S fun a S => ?_
 refine lT (a8 _ _ (sSeq (fun aj aa => sRegion (sM S fun a S => ?_))))
 refine sN S fun a S => ?_
 refine sN S fun a S => ?_
 refine lT (aa _ _ ?_)
 obtain rfl := tS h
 exact wp_ret (sRet (.tuple #[iv a0.1, iv 0]) S (rsl2 rfl (rvT (t := 2) (v := iv a0.1) S rfl) (rvT (t := 3) (v := iv 0) S rfl)) ⟨(), rfl, S.mem.sel [] [] (by decide) rfl rfl⟩)
noncomputable def F_stitch_Makes (p0 : (List api_Stitch)) : Option (Int × Int) :=
 (F_stitch_All p0).bind fun r6 =>
 if r6 != 0 then
  some (0, r6)
 else
  (F_stitch_sum p0).bind fun a0 =>
  some (a0.2, 0)
theorem c_stitch_Makes (E : Nat → Prop) (w0 : World) (p0 : (List api_Stitch)) (v0 : Value) (r : (Int × Int)) (h : F_stitch_Makes p0 = some r) (S : St0 E [] w0 w0 [] [fRep (rL r_api_Stitch) (v0) p0]) :
 Calls Try.prog 54 #[v0] w0 (Ret (X := Unit) E [] w0 (fun _ => .tuple #[.int .i64 r.1, .int .i64 r.2]) (fun _ => []) (fun _ => [])) := by
 unfold F_stitch_Makes at h
 obtain ⟨a4, a5, _, rfl, _⟩ := S.know (i := 0) (e := fRep (rL r_api_Stitch) (v0) p0) rfl
 refine sEnter (args := [.slice a4 p0.length a5]) 18 Try.func54 rfl rfl (by simp) S (fun a S => ?_)
 refine sSeq (fun K3 ab => sRegion (sN S fun a S => ?_))
 refine sN S fun a S => ?_
 refine lT (ab _ _ (sSeq (fun K4 ac => sSeq (fun K5 ae => sRegion (sM S fun a S => ?_)))))
 obtain ⟨r6, af, h⟩ := bS h
 have S1 := S.mem
 refine sCq [.slice a4 p0.length a5] (iv r6) S callee64 (S1.quiet [0] rfl) (fun E1 w1 S1 => c_stitch_All E1 w1 p0 (.slice a4 p0.length a5) r6 af S1) fun a w S => ?_
 refine sN S fun a S => ?_
 refine lT (ae _ _ (sSeq (fun K8 ag => sRegion (sM S fun a S => ?_))))
 refine sBin _ S (wN rfl) rfl rfl rfl (bNe _ _ _ _ .i64 r6 0) rfl (lb rfl) fun a S => ?_
 refine lT (ag _ _ ?_)
 rcases iS h with ⟨a6, h⟩ | ⟨a6, h⟩
 ·refine sCondT S rfl a6 ?_
  refine sSeq (fun ah a7 => sRegion (sM S fun a S => ?_))
  refine sN S fun a S => ?_
  refine sN S fun a S => ?_
  refine lT (a7 _ _ ?_)
  obtain rfl := tS h
  exact wp_ret (rThen (sRet (.tuple #[iv 0, iv r6]) S (rsl2 rfl (rvT (t := 2) (v := iv 0) S rfl) (rvT (t := 3) (v := iv r6) S rfl)) ⟨(), rfl, S.mem.sel [] [] (by decide) rfl rfl⟩))
 refine sCondF S rfl a6 ?_
 refine wp_skip (leafT (ac _ _ ?_))
 refine sSeq (fun ai a8 => sRegion (sM S fun a S => ?_))
 obtain ⟨a0, a9, h⟩ := bS h
 have S1 := S.mem
 refine sCq [.slice a4 p0.length a5] (.tuple #[iv a0.1, iv a0.2]) S callee65 (S1.quiet [0] rfl) (fun E1 w1 S1 => c_stitch_sum E1 w1 p0 (.slice a4 p0.length a5) a0 a9 S1) fun a w S => ?_
 refine sM S fun a S => ?_
 refine sExtract (vs := [iv a0.1, iv a0.2]) (iv a0.1) S (wN rfl) rfl rfl rfl rfl (lb rfl) fun a S => ?_
 refine sExtract (vs := [iv a0.1, iv a0.2]) (iv a0.2) S (wN rfl) rfl rfl rfl rfl (lb rfl) fun a S => ?_
 refine sN S fun a S => ?_
 refine sN S fun a S => ?_
 refine lT (a8 _ _ (sSeq (fun aj aa => sRegion (sM S fun a S => ?_))))
 refine sN S fun a S => ?_
 refine sN S fun a S => ?_
 refine lT (aa _ _ ?_)
 obtain rfl := tS h
 exact wp_ret (sRet (.tuple #[iv a0.2, iv 0]) S (rsl2 rfl (rvT (t := 2) (v := iv a0.2) S rfl) (rvT (t := 3) (v := iv 0) S rfl)) ⟨(), rfl, S.mem.sel [] [] (by decide) rfl rfl⟩)
noncomputable def chart_counted_1_l1 {σ τ : Type} (p0 : api_Chart) (B : σ → (Int × chart_count) → Option (σ ⊕ τ)) : (Int × Int × σ) → Option ((Int × Int × σ) ⊕ ((σ ⊕ τ) ⊕ (σ))) := fun s0 => match s0 with
 | (a0, a4, gz13) =>
  if decide (a4 < (p0.Rows.length : Int)) then
   (idxO p0.Rows a4).bind fun a8 =>
   (F_stitch_Uses a8.Cells).bind fun a5 =>
   Option.bind (α := (Int × Int)) (
    if a5.2 != 0 then
     some (0, a5.2)
    else
     if a5.1 != a0 then
      some (0, 26)
     else
      (F_stitch_Makes a8.Cells).bind fun a9 =>
      some (a9.1, 0)) fun (a6, a7) =>
   (B gz13 (a4, (chart_count.mk a0 a6 a7))).bind fun aa =>
   match aa with
   | .inl gz53 =>
    if ((chart_count.mk a0 a6 a7).e) != 0 then
     some (.inr (.inl (.inl gz53)))
    else
     some (.inl ((chart_count.mk a0 a6 a7).after, w64 (a4 + 1), gz53))
   | .inr tz54 =>
    some (.inr (.inl (.inr tz54)))
  else
   some (.inr (.inr gz13))
noncomputable def I_chart_counted_1 (p0 : api_Chart) (σ τ : Type) (B : σ → (Int × chart_count) → Option (σ ⊕ τ)) (gz0 : σ) : Option (σ ⊕ τ) :=
 (whileO (chart_counted_1_l1 p0 B) (p0.Start, 0, gz0)).bind fun z0 => match z0 with
  | .inl z =>
   some z
  | .inr gz17 =>
   some (.inl gz17)
theorem it_chart_counted_1 (p0 : api_Chart) (v0 : Value) : SeqF Try.prog 52 #[v0] (fA2 (rI .i64) r_chart_count) (I_chart_counted_1 p0) [fPtr r_api_Chart (v0) p0] := by
 refine seqF_of (lb := [v0]) (fun σ τ B gz0 r h l J Jx E w0 hC S hJ => ?_)
 unfold I_chart_counted_1 at h
 refine sEnterI (args := [.func (.yield l) #[] #[], v0]) 57 Try.func52 rfl rfl (by simp) S (fun a S => ?_)
 refine sSeq (fun K1 aS => sRegion ?_)
 obtain ⟨q2, aT, S⟩ := pFld (P := Try.prog) (r := r_api_Chart) (s2 := (rI .i64)) (g := (·.Start)) (q := v0) (z := p0) 24 0 0 0 S rfl rfl comp_api_Chart_Start
 refine sFldV (q := v0) S (wN rfl) rfl rfl aT rfl (lb rfl) fun a S => ?_
 obtain ⟨u4, S⟩ := pLoad (r := (rI .i64)) (q := q2) (x := p0.Start) 0 S rfl
 obtain rfl : u4 = iv p0.Start := S.mem.know (i := 1) (e := fRep (rI .i64) (u4) p0.Start) rfl
 refine sLoadV1 (vq := q2) 0 (iv p0.Start) S (wN rfl) rfl rfl rfl rfl rfl (lb rfl) fun a S => ?_
 refine sN S fun a S => ?_
 refine lT (aS _ _ (sSeq (fun K5 aU => sRegion ?_)))
 obtain ⟨q6, aV, S⟩ := pFld (P := Try.prog) (r := r_api_Chart) (s2 := (rL r_api_Row)) (g := (·.Rows)) (q := v0) (z := p0) 24 1 3 1 S rfl rfl comp_api_Chart_Rows
 refine sFldV (q := v0) S (wN rfl) rfl rfl aV rfl (lb rfl) fun a S => ?_
 obtain ⟨u8, S⟩ := pLoad (r := (rL r_api_Row)) (q := q6) (x := p0.Rows) 0 S rfl
 obtain ⟨ak, ab, _, rfl, _⟩ := S.mem.know (i := 1) (e := fRep (rL r_api_Row) (u8) p0.Rows) rfl
 refine sLoadV1 (vq := q6) 0 (.slice ak p0.Rows.length ab) S (wN rfl) rfl rfl rfl rfl rfl (lb rfl) fun a S => ?_
 refine sLen S (wN rfl) rfl Try.underlying22 rfl rfl (lb rfl) fun a S => ?_
 refine sM S fun a S => ?_
 refine lT (aU _ _ (wp_block ?_))
 obtain ⟨bb, hl, ao⟩ := bS h
 refine sLoop hl (fun s0 a w => match s0 with | (a0, ae, gz13) => ∃ E w0, J gz13 E w0 ∧ St [] E [] w0 57 a w [(0, .func (.yield l) #[] #[]), (3, iv a0), (12, .slice ak p0.Rows.length ab), (13, iv (p0.Rows.length : Int)), (14, iv ae)] [] [fRep (rL r_api_Row) (.slice ak p0.Rows.length ab) p0.Rows]) ⟨_, _, hJ, S.fix [] [1] (by decide) rfl rfl rfl⟩ ?_
 clear hl h
 intro s0 a w c0 hI h af
 obtain ⟨a0, ae, gz13⟩ := s0
 unfold chart_counted_1_l1 at h
 dsimp only at h hI
 obtain ⟨E, w0, hJ, S⟩ := hI
 refine sSeq (fun bc ap => sRegion (sBin _ S (wN rfl) rfl rfl rfl (bLt _ _ _ _ .i64 ae (p0.Rows.length : Int)) rfl (lb rfl) fun a S => ?_))
 refine lT (ap _ _ (sSeq (fun bf aq => ?_)))
 rcases iS h with ⟨ag, h⟩ | ⟨ag, h⟩
 rotate_left
 ·refine sCondF S rfl ag ?_
  obtain rfl := tS h
  obtain rfl := af _ rfl
  have h := ao
  try dsimp only at h
  exact wp_exit (xThen (xThen (xHit (sEnd (.tuple #[]) S (res0 rfl) (sGoI S hC hJ (Option.some.inj h) _)))))
 refine sCondT S rfl ag ?_
 refine wp_skip (leafT (aq _ _ ?_))
 refine sSeq (fun bg ar => wp_block ?_)
 refine sSeq (fun bh au => sRegion (sM S fun a S => ?_))
 obtain ⟨a8, av, h⟩ := bS h
 obtain ⟨aM, aw, S⟩ := pIdx (P := Try.prog) (r := r_api_Row) (v := .slice ak p0.Rows.length ab) (xs := p0.Rows) (j := ae) 22 65 0 S Try.underlying22 rfl rfl av
 refine sIdxV S (wN rfl) rfl rfl rfl aw rfl (lb rfl) fun a S => ?_
 obtain ⟨aW, S⟩ := pLoad (r := r_api_Row) (q := aM) (x := a8) 0 S rfl
 obtain ⟨aX, rfl, al⟩ := S.mem.know (i := 1) (e := fRep r_api_Row (aW) a8) rfl
 have S := S.learn (fRep (rL r_api_Stitch) aX a8.Cells) al
 obtain ⟨a6, a7, _, rfl, _⟩ := al
 refine sLoadVN (vq := aM) 1 [.bool a8.Back, .slice a6 a8.Cells.length a7] S (wN rfl) rfl rfl rfl rfl rfl rfl (lb rfl) fun a S => ?_
 refine sAlloc (.agg #[.bool false, .slice none 0 0]) S (wN rfl) rfl rfl [.bool false, .slice none 0 0] rfl rfl (lb rfl) fun a ax w S => ?_
 refine sN S fun a S => ?_
 refine sStore (p := ax) (off := 0) (T := 65) (vs := [.bool false, .slice none 0 0]) (v := .agg #[.bool a8.Back, .slice a6 a8.Cells.length a7]) 0 [.bool a8.Back, .slice a6 a8.Cells.length a7] S (wN rfl) rfl rfl rfl rfl rfl rfl rfl (by simp) rfl fun a w S => ?_
 refine lT (au _ _ (sSeq (fun bi ay => sRegion (sM S fun a S => ?_))))
 refine sBuild [(0, iv a0)] [iv a0, iv 0, iv 0] S (wN rfl) rfl rfl rfl rfl (lb rfl) fun a S => ?_
 refine sAlloc (.agg #[iv 0, iv 0, iv 0]) S (wN rfl) rfl rfl [iv 0, iv 0, iv 0] rfl rfl (lb rfl) fun a a9 w S => ?_
 refine sStore (p := a9) (off := 0) (T := 89) (vs := [iv 0, iv 0, iv 0]) (v := .agg #[iv a0, iv 0, iv 0]) 0 [iv a0, iv 0, iv 0] S (wN rfl) rfl rfl rfl rfl rfl rfl rfl (by simp) rfl fun a w S => ?_
 refine lT (ay _ _ (sSeq (fun bj az => sRegion (sField (b := ax) (off := 0) 1 1 S (wN rfl) rfl rfl rfl rfl rfl (lb rfl) fun a S => ?_))))
 refine sLoad1 1 (.slice a6 a8.Cells.length a7) S (wN rfl) rfl rfl rfl rfl rfl rfl (lb rfl) fun a S => ?_
 obtain ⟨aa, aA, h⟩ := bS h
 have S1 := S.mem
 refine sCq [.slice a6 a8.Cells.length a7] (.tuple #[iv aa.1, iv aa.2]) S callee53 (S1.quiet [0] rfl) (fun E1 w1 S1 => c_stitch_Uses E1 w1 a8.Cells (.slice a6 a8.Cells.length a7) aa aA S1) fun a w S => ?_
 refine sM S fun a S => ?_
 refine sExtract (vs := [iv aa.1, iv aa.2]) (iv aa.1) S (wN rfl) rfl rfl rfl rfl (lb rfl) fun a S => ?_
 refine sExtract (vs := [iv aa.1, iv aa.2]) (iv aa.2) S (wN rfl) rfl rfl rfl rfl (lb rfl) fun a S => ?_
 refine sN S fun a S => ?_
 refine sN S fun a S => ?_
 refine lT (az _ _ ?_)
 obtain ⟨aZ, h, ba⟩ := bS h
 refine sCut (fun a w => ∃ a4, ∃ a5, (a4, a5) = aZ ∧ ∃ E w0, J gz13 E w0 ∧ St [] E [] w0 57 a w [(0, .func (.yield l) #[] #[]), (4, iv ae), (6, .pointer (some ⟨a9, 0, none⟩)), (12, .slice ak p0.Rows.length ab), (13, iv (p0.Rows.length : Int)), (14, iv ae)] [eBox a9 89 [iv a0, iv a4, iv a5]] [fRep (rL r_api_Row) (.slice ak p0.Rows.length ab) p0.Rows]) ?_ (fun a w hI => ?_)
 ·refine wp_block ?_
  refine sSeq (fun bk aC => sRegion (sM S fun a S => ?_))
  refine sBin _ S (wN rfl) rfl rfl rfl (bNe _ _ _ _ .i64 aa.2 0) rfl (lb rfl) fun a S => ?_
  refine sN S fun a S => ?_
  refine lT (aC _ _ ?_)
  rcases iS h with ⟨ah, h⟩ | ⟨ah, h⟩
  ·refine sCondT S rfl ah ?_
   refine sRegion (sM S fun a S => ?_)
   refine sField (b := a9) (off := 0) 2 2 S (wN rfl) rfl rfl rfl rfl rfl (lb rfl) fun a S => ?_
   refine sStore (p := a9) (off := 2) (T := 89) (vs := [iv a0, iv 0, iv 0]) (v := iv aa.2) 0 [iv aa.2] S (wN rfl) rfl rfl rfl rfl rfl rfl rfl (by simp) rfl fun a w S => ?_
   exact leafL (leafB (leafT (⟨0, aa.2, Option.some.inj h, _, _, hJ, S.fix [0] [4] (by decide) rfl rfl rfl⟩)))
  refine sCondF S rfl ah ?_
  refine sSeq (fun bl aG => sRegion (sM S fun a S => ?_))
  refine sM S fun a S => ?_
  refine sBin _ S (wN rfl) rfl rfl rfl (bNe _ _ _ _ .i64 aa.1 a0) rfl (lb rfl) fun a S => ?_
  refine sN S fun a S => ?_
  refine lT (aG _ _ ?_)
  rcases iS h with ⟨ai, h⟩ | ⟨ai, h⟩
  ·refine sCondT S rfl ai ?_
   refine sRegion (sField (b := a9) (off := 0) 2 2 S (wN rfl) rfl rfl rfl rfl rfl (lb rfl) fun a S => ?_)
   refine sStore (p := a9) (off := 2) (T := 89) (vs := [iv a0, iv 0, iv 0]) (v := iv 26) 0 [iv 26] S (wN rfl) rfl rfl rfl rfl rfl rfl rfl (by simp) rfl fun a w S => ?_
   exact leafL (leafB (leafT (⟨0, 26, Option.some.inj h, _, _, hJ, S.fix [0] [4] (by decide) rfl rfl rfl⟩)))
  refine sCondF S rfl ai ?_
  refine sRegion (sField (b := ax) (off := 0) 1 1 S (wN rfl) rfl rfl rfl rfl rfl (lb rfl) fun a S => ?_)
  refine sLoad1 1 (.slice a6 a8.Cells.length a7) S (wN rfl) rfl rfl rfl rfl rfl rfl (lb rfl) fun a S => ?_
  obtain ⟨ac, aH, h⟩ := bS h
  have S1 := S.mem
  refine sCq [.slice a6 a8.Cells.length a7] (.tuple #[iv ac.1, iv ac.2]) S callee54 (S1.quiet [0] rfl) (fun E1 w1 S1 => c_stitch_Makes E1 w1 a8.Cells (.slice a6 a8.Cells.length a7) ac aH S1) fun a w S => ?_
  refine sM S fun a S => ?_
  refine sExtract (vs := [iv ac.1, iv ac.2]) (iv ac.1) S (wN rfl) rfl rfl rfl rfl (lb rfl) fun a S => ?_
  refine sExtract (vs := [iv ac.1, iv ac.2]) (iv ac.2) S (wN rfl) rfl rfl rfl rfl (lb rfl) fun a S => ?_
  refine sField (b := a9) (off := 0) 1 1 S (wN rfl) rfl rfl rfl rfl rfl (lb rfl) fun a S => ?_
  refine sStore (p := a9) (off := 1) (T := 89) (vs := [iv a0, iv 0, iv 0]) (v := iv ac.1) 0 [iv ac.1] S (wN rfl) rfl rfl rfl rfl rfl rfl rfl (by simp) rfl fun a w S => ?_
  exact leafL (leafB (leafT (⟨ac.1, 0, Option.some.inj h, _, _, hJ, S.fix [0] [4] (by decide) rfl rfl rfl⟩)))
 obtain ⟨a4, a5, rfl, E, w0, hJ, S⟩ := hI
 have h := ba
 try dsimp only at h
 refine sSeq (fun bm aI => sSeq (fun bn am => sRegionY ?_))
 refine sSplitR (by repeat (first | exact roundU_out | exact it_out | exact lo_false | refine lo_then ?_ | refine lo_block ?_)) 3 rfl (fun bo aJ => ?_)
 refine sM S fun a S => ?_
 refine sM S fun a S => ?_
 refine sLoadN (p := a9) (off := 0) (T := 89) (vs := [iv a0, iv a4, iv a5]) 0 [iv a0, iv a4, iv a5] S (wN rfl) rfl rfl rfl rfl rfl rfl rfl (lb rfl) fun a S => ?_
 refine leafL ⟨rfl, aJ _ _ ?_⟩
 have S := S.learn (fRep r_chart_count (.agg #[iv a0, iv a4, iv a5]) (chart_count.mk a0 a4 a5)) rfl
 have S := S.shutB (r := r_chart_count) (T := 89) (b := a9) (cs := [iv a0, iv a4, iv a5]) 0 (.agg #[iv a0, iv a4, iv a5]) (chart_count.mk a0 a4 a5) rfl rfl (S.mem.know (i := 0) (e := fRep r_chart_count (.agg #[iv a0, iv a4, iv a5]) (chart_count.mk a0 a4 a5)) rfl)
 obtain ⟨bp, hy52, h⟩ := bS h
 refine sYieldI (ae, (chart_count.mk a0 a4 a5)) [iv ae, .agg #[iv a0, iv a4, iv a5]] S hC hJ hy52 (fA2_mk (rfl) (S.mem.know (i := 1) (e := fRep r_chart_count (.agg #[iv a0, iv a4, iv a5]) (chart_count.mk a0 a4 a5)) rfl)) (wN rfl) rfl rfl rfl rfl (by decide) (fun gz53 E a w hb hJ S => ?_) (fun tz54 a w hb hJ S => ?_)
 ·obtain rfl := hb
  dsimp only at h
  refine list_inR (by repeat (first | exact roundU_out | exact it_out | exact lo_false | refine lo_then ?_ | refine lo_block ?_)) _ rfl _ _ ?_
  refine sNot (b := true) S (wN rfl) rfl rfl rfl (lb rfl) fun a S => ?_
  refine sM S fun a S => ?_
  obtain ⟨aO, aK, S⟩ := pFld (P := Try.prog) (r := r_chart_count) (s2 := (rI .i64)) (g := (·.e)) (q := .pointer (some ⟨a9, 0, none⟩)) (z := (chart_count.mk a0 a4 a5)) 89 2 0 2 S rfl rfl comp_chart_count_e
  refine sFldV (q := .pointer (some ⟨a9, 0, none⟩)) S (wG 5 false 49 rfl rfl rfl rfl) rfl rfl aK rfl (lb rfl) fun a S => ?_
  obtain ⟨aP, S⟩ := pLoad (r := (rI .i64)) (q := aO) (x := (chart_count.mk a0 a4 a5).e) 0 S rfl
  obtain rfl : aP = iv ((chart_count.mk a0 a4 a5).e) := S.mem.know (i := 1) (e := fRep (rI .i64) (aP) ((chart_count.mk a0 a4 a5).e)) rfl
  refine sLoadV1 (vq := aO) 0 (iv ((chart_count.mk a0 a4 a5).e)) S (wG 5 false 49 rfl rfl rfl rfl) rfl rfl rfl rfl rfl (lb rfl) fun a S => ?_
  refine sBin _ S (wG 5 false 49 rfl rfl rfl rfl) rfl rfl rfl (bNe _ _ _ _ .i64 ((chart_count.mk a0 a4 a5).e) 0) rfl (lb rfl) fun a S => ?_
  refine sPickF (.bool (((chart_count.mk a0 a4 a5).e) != 0)) S (wN rfl) rfl rfl rfl rfl rfl (lb rfl) fun a S => ?_
  refine lT (am _ _ ?_)
  rcases iS h with ⟨aj, h⟩ | ⟨aj, h⟩
  ·refine sCondT S rfl aj ?_
   obtain rfl := tS h
   obtain rfl := af _ rfl
   have h := ao
   try dsimp only at h
   exact wp_ret (rThen (rBlock (rThen (rThen (rBlock (sRet (.tuple #[]) S (res0 rfl) (sGoI S hC hJ (Option.some.inj h) _)))))))
  refine sCondF S rfl aj ?_
  refine wp_skip (leafT (aI _ _ ?_))
  refine sRegion ?_
  obtain ⟨aQ, aL, S⟩ := pFld (P := Try.prog) (r := r_chart_count) (s2 := (rI .i64)) (g := (·.after)) (q := .pointer (some ⟨a9, 0, none⟩)) (z := (chart_count.mk a0 a4 a5)) 89 1 3 1 S rfl rfl comp_chart_count_after
  refine sFldV (q := .pointer (some ⟨a9, 0, none⟩)) S (wN rfl) rfl rfl aL rfl (lb rfl) fun a S => ?_
  obtain ⟨aR, S⟩ := pLoad (r := (rI .i64)) (q := aQ) (x := (chart_count.mk a0 a4 a5).after) 0 S rfl
  obtain rfl : aR = iv ((chart_count.mk a0 a4 a5).after) := S.mem.know (i := 1) (e := fRep (rI .i64) (aR) ((chart_count.mk a0 a4 a5).after)) rfl
  refine sLoadV1 (vq := aQ) 0 (iv ((chart_count.mk a0 a4 a5).after)) S (wN rfl) rfl rfl rfl rfl rfl (lb rfl) fun a S => ?_
  refine sN S fun a S => ?_
  refine leafL (leafB (leafT (ar _ _ ?_)))
  refine sRegion (sBin _ S (wN rfl) rfl rfl rfl (bAdd _ _ _ _ ae 1) rfl (lb rfl) fun a S => ?_)
  refine sM S fun a S => ?_
  exact lT (⟨((chart_count.mk a0 a4 a5).after, w64 (ae + 1), gz53), (Option.some.inj h).symm, ⟨_, _, hJ, S.fix [] [8] (by decide) rfl rfl rfl⟩⟩)
 ·obtain rfl := hb
  dsimp only at h
  refine list_inR (by repeat (first | exact roundU_out | exact it_out | exact lo_false | refine lo_then ?_ | refine lo_block ?_)) _ rfl _ _ ?_
  refine sNot (b := false) S (wN rfl) rfl rfl rfl (lb rfl) fun a S => ?_
  refine sM S fun a S => ?_
  refine sSkN 3 5 false 49 S rfl rfl rfl rfl fun a S => ?_
  refine sPickT (.bool true) S (wN rfl) rfl rfl rfl rfl rfl (lb rfl) fun a S => ?_
  refine lT (am _ _ (sCondT S rfl rfl ?_))
  obtain rfl := tS h
  obtain rfl := af _ rfl
  have h := ao
  try dsimp only at h
  exact wp_ret (rThen (rBlock (rThen (rThen (rBlock (sRet (.tuple #[]) S (res0 rfl) (sStopI S hC hJ (Option.some.inj h) _)))))))
noncomputable def chart_Check_l2  : Unit → (Int × chart_count) → Option (Unit ⊕ Int) := fun s0 x0 => match s0, x0 with
 | _, (a4, a0) =>
  if a0.e != 0 then
   some (.inr a0.e)
  else
   some (.inl ())
noncomputable def F_chart_Check (p0 : api_Chart) : Option Int :=
 if decide (100 < (p0.Rows.length : Int)) then
  some 4
 else
  Option.bind (α := Bool) (
   if decide (p0.Start < 0) then
    some true
   else
    some (decide (200 < p0.Start))) fun a0 =>
  if a0 then
   some 8
  else
   (F_chart_counted p0).bind fun a4 =>
   (I_chart_counted_1 a4 _ _ (chart_Check_l2) ()).bind fun z0 => match z0 with
    | .inl _ =>
     some 0
    | .inr a5 =>
     some a5
theorem c_chart_Check (E : Nat → Prop) (w0 : World) (p0 : api_Chart) (v0 : Value) (r : Int) (h : F_chart_Check p0 = some r) (S : St0 E [] w0 w0 [] [fRep r_api_Chart (v0) p0]) :
 Calls Try.prog 39 #[v0] w0 (Ret (X := Unit) E [] w0 (fun _ => .int .i64 r) (fun _ => []) (fun _ => [])) := by
 unfold F_chart_Check at h
 obtain ⟨u1, rfl, av⟩ := S.know (i := 0) (e := fRep r_api_Chart (v0) p0) rfl
 have S := S.learn (fRep (rL r_api_Row) u1 p0.Rows) av
 obtain ⟨a5, a6, _, rfl, _⟩ := av
 refine sEnterM (args := [.agg #[iv p0.Start, .slice a5 p0.Rows.length a6]]) 26 Try.func39 rfl rfl (by simp) S (fun a S => ?_)
 refine sSeq (fun K5 az => sRegion (sBox (v := .agg #[iv p0.Start, .slice a5 p0.Rows.length a6]) S (wN rfl) rfl rfl [iv p0.Start, .slice a5 p0.Rows.length a6] rfl rfl (lb rfl) fun a b6 w S => ?_))
 refine sAlloc (iv 0) S (wN rfl) rfl rfl [iv 0] rfl rfl (lb rfl) fun a b7 w S => ?_
 refine lT (az _ _ (sSeq (fun K8 aA => sSeq (fun K9 aC => sRegion (sField (b := b6) (off := 0) 1 1 S (wN rfl) rfl rfl rfl rfl rfl (lb rfl) fun a S => ?_)))))
 refine sLoad1 1 (.slice a5 p0.Rows.length a6) S (wN rfl) rfl rfl rfl rfl rfl rfl (lb rfl) fun a S => ?_
 refine sLen S (wN rfl) rfl Try.underlying22 rfl rfl (lb rfl) fun a S => ?_
 refine sBin _ S (wN rfl) rfl rfl rfl (bGt _ _ _ _ .i64 (p0.Rows.length : Int) 100) rfl (lb rfl) fun a S => ?_
 refine lT (aC _ _ ?_)
 rcases iS h with ⟨a9, h⟩ | ⟨a9, h⟩
 ·refine sCondT S rfl a9 ?_
  refine sSeq (fun aI ah => sRegion (sStore (p := b7) (off := 0) (T := 27) (vs := [iv 0]) (v := iv 4) 0 [iv 4] S (wN rfl) rfl rfl rfl rfl rfl rfl rfl (by simp) rfl fun a w S => ?_))
  refine lT (ah _ _ ?_)
  obtain rfl := tS h
  exact wp_ret (rThen (sRetM0 (iv 4) S (rsl1 rfl (rv1 (c := 2) (t := 27) (T := 27) (p := b7) 0 (iv 4) S rfl rfl rfl)) ⟨(), rfl, S.mem.sel [] [] (by decide) rfl rfl⟩))
 refine sCondF S rfl a9 ?_
 refine wp_skip (leafT (aA _ _ ?_))
 refine sSeq (fun aJ ai => ?_)
 obtain ⟨aG, h, aH⟩ := bS h
 refine sCut (fun a w => ∃ aj, aj = aG ∧ St [] E [] w0 26 a w [(1, .pointer (some ⟨b6, 0, none⟩)), (2, .pointer (some ⟨b7, 0, none⟩)), (16, .bool aj)] [eBox b6 24 [iv p0.Start, .slice a5 p0.Rows.length a6], eBox b7 27 [iv 0]] [fRep (rL r_api_Row) (.slice a5 p0.Rows.length a6) p0.Rows]) ?_ (fun a w hI => ?_)
 ·refine sRegion (sField (b := b6) (off := 0) 0 0 S (wN rfl) rfl rfl rfl rfl rfl (lb rfl) fun a S => ?_)
  refine sLoad1 1 (iv p0.Start) S (wN rfl) rfl rfl rfl rfl rfl rfl (lb rfl) fun a S => ?_
  refine sBin _ S (wN rfl) rfl rfl rfl (bLt _ _ _ _ .i64 p0.Start 0) rfl (lb rfl) fun a S => ?_
  refine sM S fun a S => ?_
  rcases iS h with ⟨a4, h⟩ | ⟨a4, h⟩
  ·refine sSkN 3 3 false 12 S rfl rfl a4 rfl fun a S => ?_
   refine sPickT (.bool true) S (wN rfl) rfl rfl a4 rfl rfl (lb rfl) fun a S => ?_
   exact lT (⟨true, Option.some.inj h, S.fix [1, 0] [0] (by decide) rfl rfl rfl⟩)
  refine sField (b := b6) (off := 0) 0 0 S (wG 3 false 12 rfl rfl rfl a4) rfl rfl rfl rfl rfl (lb rfl) fun a S => ?_
  refine sLoad1 1 (iv p0.Start) S (wG 3 false 12 rfl rfl rfl a4) rfl rfl rfl rfl rfl rfl (lb rfl) fun a S => ?_
  refine sBin _ S (wG 3 false 12 rfl rfl rfl a4) rfl rfl rfl (bGt _ _ _ _ .i64 p0.Start 200) rfl (lb rfl) fun a S => ?_
  refine sPickF (.bool (decide (200 < p0.Start))) S (wN rfl) rfl rfl a4 rfl rfl (lb rfl) fun a S => ?_
  exact lT (⟨decide (200 < p0.Start), Option.some.inj h, S.fix [1, 0] [0] (by decide) rfl rfl rfl⟩)
 obtain ⟨aj, rfl, S⟩ := hI
 have h := aH
 try dsimp only at h
 rcases iS h with ⟨aa, h⟩ | ⟨aa, h⟩
 ·refine sCondT S rfl aa ?_
  refine sSeq (fun aK ak => sRegion (sStore (p := b7) (off := 0) (T := 27) (vs := [iv 0]) (v := iv 8) 1 [iv 8] S (wN rfl) rfl rfl rfl rfl rfl rfl rfl (by simp) rfl fun a w S => ?_))
  refine lT (ak _ _ ?_)
  obtain rfl := tS h
  exact wp_ret (rThen (sRetM0 (iv 8) S (rsl1 rfl (rv1 (c := 2) (t := 27) (T := 27) (p := b7) 0 (iv 8) S rfl rfl rfl)) ⟨(), rfl, S.mem.sel [] [] (by decide) rfl rfl⟩))
 refine sCondF S rfl aa ?_
 refine wp_skip (leafT (ai _ _ ?_))
 refine sSeq (fun aL al => sSeq (fun aM am => sRegion (sLoadN (p := b6) (off := 0) (T := 24) (vs := [iv p0.Start, .slice a5 p0.Rows.length a6]) 0 [iv p0.Start, .slice a5 p0.Rows.length a6] S (wN rfl) rfl rfl rfl rfl rfl rfl rfl (lb rfl) fun a S => ?_)))
 obtain ⟨ab, ao, h⟩ := bS h
 have S := S.learn (fRep r_api_Chart (.agg #[iv p0.Start, .slice a5 p0.Rows.length a6]) p0) ⟨_, rfl, S.mem.know (i := 0) (e := fRep (rL r_api_Row) (.slice a5 p0.Rows.length a6) p0.Rows) rfl⟩
 refine sCall (X := Value) (f := 42) (vs := [.agg #[iv p0.Start, .slice a5 p0.Rows.length a6]]) (val := c_chart_counted_val ab) (B' := fun _ => []) (D' := c_chart_counted_D ab) [] [eBox b6 24 [iv p0.Start, .slice a5 p0.Rows.length a6], eBox b7 27 [iv 0]] [fRep r_api_Chart (.agg #[iv p0.Start, .slice a5 p0.Rows.length a6]) p0] [0, 1] [0] S (wN rfl) rfl callee42 rfl (by decide) rfl rfl (fun E1 w1 S1 => c_chart_counted E1 w1 p0 (.agg #[iv p0.Start, .slice a5 p0.Rows.length a6]) ab ao S1) rfl (lb rfl) fun ac a w S => ?_
 refine lT (am _ _ (wp_block ?_))
 obtain ⟨aO, a8, ae⟩ := bS h
 replace S : St [] E [] w0 26 a w [(2, .pointer (some ⟨b7, 0, none⟩)), (18, .func (.func 52) #[] #[ac])] [eBox b7 27 [iv 0]] [fPtr r_api_Chart (ac) ab] := S.fix [1] [0] (by decide) rfl rfl rfl
 refine sRange2 (B := chart_Check_l2) (fun s0 L D => match s0 with | _ => L = [eBox b7 27 [iv 0]] ∧ D = [fPtr r_api_Chart (ac) ab]) (fun t0 c L D => match t0 with | ag => c = .ret ∧ L = [eBox b7 27 [iv ag]] ∧ D = []) [0] S a8 rfl callee52 (it_chart_counted_1 ab ac) rfl (by decide) (by decide) ⟨rfl, rfl⟩ ?_ ?_ ?_
 ·intro E l0 s0 aw a0 ax ay b L D K a w0 hK hIL hB S
  clear a8 ae h hK
  unfold chart_Check_l2 at hB
  dsimp only at hB hIL
  obtain ⟨rfl, rfl⟩ := hIL
  have h := hB
  clear hB
  obtain rfl : ax = iv aw := S.mem.know (i := 0) (e := fRep (rI .i64) (ax) aw) rfl
  obtain rfl : ay = .agg #[iv a0.before, iv a0.after, iv a0.e] := S.mem.know (i := 1) (e := fRep r_chart_count (ay) a0) rfl
  refine sRegionR (by repeat (first | exact roundU_out | exact it_out | exact lo_false | refine lo_then ?_ | refine lo_block ?_)) rfl ?_
  refine sAlloc (.agg #[iv 0, iv 0, iv 0]) S (wN rfl) rfl rfl [iv 0, iv 0, iv 0] rfl rfl (lb rfl) fun a ap w S => ?_
  refine sStore (p := ap) (off := 0) (T := 89) (vs := [iv 0, iv 0, iv 0]) (v := .agg #[iv a0.before, iv a0.after, iv a0.e]) 0 [iv a0.before, iv a0.after, iv a0.e] S (wN rfl) rfl rfl rfl rfl rfl rfl rfl (by simp) rfl fun a w S => ?_
  refine lT (⟨_, _, _, S, fun K a w0 hK S => ?_⟩)
  refine wpIn_block ?_
  refine sSeqR (fun aP aq => sRegionR (by repeat (first | exact roundU_out | exact it_out | exact lo_false | refine lo_then ?_ | refine lo_block ?_)) rfl ?_)
  refine sField (b := ap) (off := 0) 2 2 S (wN rfl) rfl rfl rfl rfl rfl (lb rfl) fun a S => ?_
  refine sLoad1 0 (iv a0.e) S (wN rfl) rfl rfl rfl rfl rfl rfl (lb rfl) fun a S => ?_
  refine sBin _ S (wN rfl) rfl rfl rfl (bNe _ _ _ _ .i64 a0.e 0) rfl (lb rfl) fun a S => ?_
  refine lT (aq _ _ ?_)
  rcases iS h with ⟨af, h⟩ | ⟨af, h⟩
  rotate_left
  ·refine sCondFR S rfl af ?_
   exact wpIn_skip (leafB (rnN () _ _ [] (Option.some.inj h) ⟨rfl, rfl⟩ (S.fix [1] [2] (by decide) rfl rfl rfl)))
  refine sCondTR S rfl af ?_
  refine sSeqR (fun aQ ar => sRegionR (by repeat (first | exact roundU_out | exact it_out | exact lo_false | refine lo_then ?_ | refine lo_block ?_)) rfl ?_)
  refine sField (b := ap) (off := 0) 2 2 S (wN rfl) rfl rfl rfl rfl rfl (lb rfl) fun a S => ?_
  refine sLoad1 0 (iv a0.e) S (wN rfl) rfl rfl rfl rfl rfl rfl (lb rfl) fun a S => ?_
  refine sStore (p := b7) (off := 0) (T := 27) (vs := [iv 0]) (v := iv a0.e) 1 [iv a0.e] S (wN rfl) rfl rfl rfl rfl rfl rfl rfl (by simp) rfl fun a w S => ?_
  refine lT (ar _ _ ?_)
  exact wpIn_ret (rBlock (rnR a0.e _ _ [] (Option.some.inj h) ⟨rfl, rfl, rfl⟩ (S.fix [0] [] (by decide) rfl rfl rfl)))
 ·intro a7 s0 L D a w hr hIL S
  clear h
  obtain rfl := hr
  dsimp only at ae hIL
  obtain ⟨rfl, rfl⟩ := hIL
  have h := ae
  clear ae a8
  replace S : St [mark a7] E [] w0 26 a w [(2, .pointer (some ⟨b7, 0, none⟩)), (18, .func (.func 52) #[] #[ac])] [eBox b7 27 [iv 0], eDef a7] [fPtr r_api_Chart (ac) ab] := S
  refine leafB (leafT (al _ _ ?_))
  refine sSeq (fun aR au => sRegion (sStore (p := b7) (off := 0) (T := 27) (vs := [iv 0]) (v := iv 0) 0 [iv 0] S (wN rfl) rfl rfl rfl rfl rfl rfl rfl (by simp) rfl fun a w S => ?_))
  refine lT (au _ _ (wp_ret (sRetM1 1 S rfl (fun a w S => ?_))))
  obtain rfl := tS h
  exact sFin (iv 0) S (rsl1 rfl (rv1 (c := 2) (t := 27) (T := 27) (p := b7) 0 (iv 0) S rfl rfl rfl)) ⟨(), rfl, S.mem.sel [] [] (by decide) rfl rfl⟩
 ·intro a7 c0 ag L D a w hr hIX S
  clear h
  obtain rfl := hr
  dsimp only at ae hIX
  obtain ⟨rfl, rfl, rfl⟩ := hIX
  have h := ae
  clear ae a8
  replace S : St [mark a7] E [] w0 26 a w [(2, .pointer (some ⟨b7, 0, none⟩)), (18, .func (.func 52) #[] #[ac])] [eBox b7 27 [iv ag], eDef a7] [] := S
  refine wp_ret (rBlock (rThen (sRetM1 1 S rfl (fun a w S => ?_))))
  obtain rfl := tS h
  exact sFin (iv ag) S (rsl1 rfl (rv1 (c := 2) (t := 27) (T := 27) (p := b7) 0 (iv ag) S rfl rfl rfl)) ⟨(), rfl, S.mem.sel [] [] (by decide) rfl rfl⟩
noncomputable def F_slices_Backward___api_Stitch_api_Stitch_ (p0 : (List api_Stitch)) : Option (List api_Stitch) :=
 some p0
def c_slices_Backward___api_Stitch_api_Stitch__val (r : (List api_Stitch)) (x : Value) : Value := .func (.func 73) #[] #[x]
def c_slices_Backward___api_Stitch_api_Stitch__D (r : (List api_Stitch)) (x : Value) : List Fact := [fPtr (rL r_api_Stitch) x r]
theorem c_slices_Backward___api_Stitch_api_Stitch_ (E : Nat → Prop) (w0 : World) (p0 : (List api_Stitch)) (v0 : Value) (r : (List api_Stitch)) (h : F_slices_Backward___api_Stitch_api_Stitch_ p0 = some r) (S : St0 E [] w0 w0 [] [fRep (rL r_api_Stitch) (v0) p0]) :
 Calls Try.prog 66 #[v0] w0 (Ret (X := Value) E [] w0 (c_slices_Backward___api_Stitch_api_Stitch__val r) (fun _ => []) (c_slices_Backward___api_Stitch_api_Stitch__D r)) := by
 unfold F_slices_Backward___api_Stitch_api_Stitch_ at h
 obtain ⟨a0, a4, _, rfl, _⟩ := S.know (i := 0) (e := fRep (rL r_api_Stitch) (v0) p0) rfl
 refine sEnter (args := [.slice a0 p0.length a4]) 4 Try.func66 rfl rfl (by simp) S (fun a S => ?_)
 refine sSeq (fun K3 a5 => sRegion (sBox (v := .slice a0 p0.length a4) S (wN rfl) rfl rfl [.slice a0 p0.length a4] rfl rfl (lb rfl) fun a b4 w S => ?_))
 refine sN S fun a S => ?_
 refine lT (a5 _ _ (sSeq (fun K5 a6 => sRegion (sFunc (g := 73) (vs := [.pointer (some ⟨b4, 0, none⟩)]) S (wN rfl) rfl rfl rfl (lb rfl) fun a S => ?_))))
 refine sN S fun a S => ?_
 refine lT (a6 _ _ ?_)
 have S := S.shutB (r := (rL r_api_Stitch)) (T := 62) (b := b4) (cs := [.slice a0 p0.length a4]) 0 (.slice a0 p0.length a4) p0 rfl rfl (S.mem.know (i := 0) (e := fRep (rL r_api_Stitch) (.slice a0 p0.length a4) p0) rfl)
 obtain rfl := tS h
 exact wp_ret (sRet (.func (.func 73) #[] #[.pointer (some ⟨b4, 0, none⟩)]) S (rsl1 rfl (rvT (t := 2) (v := .func (.func 73) #[] #[.pointer (some ⟨b4, 0, none⟩)]) S rfl)) ⟨(.pointer (some ⟨b4, 0, none⟩)), rfl, S.mem.sel [] [0] (by decide) rfl rfl⟩)
noncomputable def slices_Backward___api_Stitch_api_Stitch__1_l1 {σ τ : Type} (p0 : (List api_Stitch)) (B : σ → (Int × api_Stitch) → Option (σ ⊕ τ)) : (Int × σ) → Option ((Int × σ) ⊕ ((σ ⊕ τ) ⊕ (σ))) := fun s0 => match s0 with
 | (s5, gz6) =>
  if decide (0 ≤ s5) then
   (idxO p0 s5).bind fun a0 =>
   (B gz6 (s5, a0)).bind fun a4 =>
   match a4 with
   | .inl gz27 =>
    some (.inl (w64 (s5 - 1), gz27))
   | .inr tz28 =>
    some (.inr (.inl (.inr tz28)))
  else
   some (.inr (.inr gz6))
noncomputable def I_slices_Backward___api_Stitch_api_Stitch__1 (p0 : (List api_Stitch)) (σ τ : Type) (B : σ → (Int × api_Stitch) → Option (σ ⊕ τ)) (gz0 : σ) : Option (σ ⊕ τ) :=
 (whileO (slices_Backward___api_Stitch_api_Stitch__1_l1 p0 B) (w64 ((p0.length : Int) - 1), gz0)).bind fun z0 => match z0 with
  | .inl z =>
   some z
  | .inr gz10 =>
   some (.inl gz10)
theorem it_slices_Backward___api_Stitch_api_Stitch__1 (p0 : (List api_Stitch)) (v0 : Value) : SeqF Try.prog 73 #[v0] (fA2 (rI .i64) r_api_Stitch) (I_slices_Backward___api_Stitch_api_Stitch__1 p0) [fPtr (rL r_api_Stitch) (v0) p0] := by
 refine seqF_of (lb := [v0]) (fun σ τ B gz0 r h l J Jx E w0 hC S hJ => ?_)
 unfold I_slices_Backward___api_Stitch_api_Stitch__1 at h
 refine sEnterI (args := [.func (.yield l) #[] #[], v0]) 19 Try.func73 rfl rfl (by simp) S (fun a S => ?_)
 refine sSeq (fun K1 ai => sRegion ?_)
 obtain ⟨u2, S⟩ := pLoad (r := (rL r_api_Stitch)) (q := v0) (x := p0) 0 S rfl
 obtain ⟨aj, ak, _, rfl, _⟩ := S.mem.know (i := 1) (e := fRep (rL r_api_Stitch) (u2) p0) rfl
 refine sLoadV1 (vq := v0) 0 (.slice aj p0.length ak) S (wN rfl) rfl rfl rfl rfl rfl (lb rfl) fun a S => ?_
 refine sLen S (wN rfl) rfl Try.underlying62 rfl rfl (lb rfl) fun a S => ?_
 refine sBin _ S (wN rfl) rfl rfl rfl (bSub _ _ _ _ (p0.length : Int) 1) rfl (lb rfl) fun a S => ?_
 refine sN S fun a S => ?_
 refine lT (ai _ _ (wp_block ?_))
 obtain ⟨t9, hl, g8⟩ := bS h
 refine sLoop hl (fun s0 a w => match s0 with | (s5, gz6) => ∃ E w0, J gz6 E w0 ∧ St [] E [] w0 19 a w [(0, .func (.yield l) #[] #[]), (1, v0), (3, iv s5)] [] [fPtr (rL r_api_Stitch) (v0) p0]) ⟨_, _, hJ, S.fix [] [2] (by decide) rfl rfl rfl⟩ ?_
 clear hl h
 intro s0 a w c0 hI h af
 obtain ⟨s5, gz6⟩ := s0
 unfold slices_Backward___api_Stitch_api_Stitch__1_l1 at h
 dsimp only at h hI
 obtain ⟨E, w0, hJ, S⟩ := hI
 refine sSeq (fun am a8 => sSeq (fun ao a9 => sRegion (sM S fun a S => ?_)))
 refine sBin _ S (wN rfl) rfl rfl rfl (bGe _ _ _ _ .i64 s5 0) rfl (lb rfl) fun a S => ?_
 refine lT (a9 _ _ ?_)
 rcases iS h with ⟨a4, h⟩ | ⟨a4, h⟩
 rotate_left
 ·refine sCondF S rfl a4 ?_
  obtain rfl := tS h
  obtain rfl := af _ rfl
  have h := g8
  try dsimp only at h
  exact wp_exit (xThen (xThen (xHit (sEnd (.tuple #[]) S (res0 rfl) (sGoI S hC hJ (Option.some.inj h) _)))))
 refine sCondT S rfl a4 ?_
 refine wp_skip (leafT (a8 _ _ ?_))
 refine sSeq (fun ap aa => wp_block ?_)
 refine sSeq (fun aq a5 => sRegionY ?_)
 refine sSplitR (by repeat (first | exact roundU_out | exact it_out | exact lo_false | refine lo_then ?_ | refine lo_block ?_)) 6 rfl (fun ar ab => ?_)
 refine sM S fun a S => ?_
 refine sM S fun a S => ?_
 obtain ⟨al, S⟩ := pLoad (r := (rL r_api_Stitch)) (q := v0) (x := p0) 0 S rfl
 obtain ⟨a6, a7, _, rfl, _⟩ := S.mem.know (i := 1) (e := fRep (rL r_api_Stitch) (al) p0) rfl
 refine sLoadV1 (vq := v0) 0 (.slice a6 p0.length a7) S (wN rfl) rfl rfl rfl rfl rfl (lb rfl) fun a S => ?_
 refine sM S fun a S => ?_
 obtain ⟨a0, ac, h⟩ := bS h
 obtain ⟨ag, ae, S⟩ := pIdx (P := Try.prog) (r := r_api_Stitch) (v := .slice a6 p0.length a7) (xs := p0) (j := s5) 62 61 1 S Try.underlying62 rfl rfl ac
 refine sIdxV S (wN rfl) rfl rfl rfl ae rfl (lb rfl) fun a S => ?_
 obtain ⟨ah, S⟩ := pLoad (r := r_api_Stitch) (q := ag) (x := a0) 0 S rfl
 obtain rfl : ah = .agg #[.int .u8 a0.Kind, .bool a0.Purl, iv a0.A, iv a0.B] := S.mem.know (i := 1) (e := fRep r_api_Stitch (ah) a0) rfl
 refine sLoadVN (vq := ag) 0 [.int .u8 a0.Kind, .bool a0.Purl, iv a0.A, iv a0.B] S (wN rfl) rfl rfl rfl rfl rfl rfl (lb rfl) fun a S => ?_
 refine leafL ⟨rfl, ab _ _ ?_⟩
 obtain ⟨au, hy26, h⟩ := bS h
 refine sYieldI (s5, a0) [iv s5, .agg #[.int .u8 a0.Kind, .bool a0.Purl, iv a0.A, iv a0.B]] S hC hJ hy26 (fA2_mk (rfl) (S.mem.know (i := 1) (e := fRep r_api_Stitch (.agg #[.int .u8 a0.Kind, .bool a0.Purl, iv a0.A, iv a0.B]) a0) rfl)) (wN rfl) rfl rfl rfl rfl (by decide) (fun gz27 E a w hb hJ S => ?_) (fun tz28 a w hb hJ S => ?_)
 ·obtain rfl := hb
  dsimp only at h
  refine list_inR (by repeat (first | exact roundU_out | exact it_out | exact lo_false | refine lo_then ?_ | refine lo_block ?_)) _ rfl _ _ ?_
  refine sNot (b := true) S (wN rfl) rfl rfl rfl (lb rfl) fun a S => ?_
  refine lT (a5 _ _ (sCondF S rfl rfl ?_))
  refine wp_skip (leafB (leafT (aa _ _ ?_)))
  refine sRegion (sM S fun a S => ?_)
  refine sBin _ S (wN rfl) rfl rfl rfl (bSub _ _ _ _ s5 1) rfl (lb rfl) fun a S => ?_
  refine sN S fun a S => ?_
  exact lT (⟨(w64 (s5 - 1), gz27), (Option.some.inj h).symm, ⟨_, _, hJ, S.fix [] [5] (by decide) rfl rfl rfl⟩⟩)
 ·obtain rfl := hb
  dsimp only at h
  refine list_inR (by repeat (first | exact roundU_out | exact it_out | exact lo_false | refine lo_then ?_ | refine lo_block ?_)) _ rfl _ _ ?_
  refine sNot (b := false) S (wN rfl) rfl rfl rfl (lb rfl) fun a S => ?_
  refine lT (a5 _ _ (sCondT S rfl rfl ?_))
  obtain rfl := tS h
  obtain rfl := af _ rfl
  have h := g8
  try dsimp only at h
  exact wp_ret (rBlock (rThen (rThen (rBlock (sRet (.tuple #[]) S (res0 rfl) (sStopI S hC hJ (Option.some.inj h) _))))))
noncomputable def stitch_Turn_l2  : List api_Stitch → (Int × api_Stitch) → Option (List api_Stitch ⊕ Empty) := fun s0 x0 => match s0, x0 with
 | a5, (aa, a0) =>
  (F_stitch_forms a0.Kind).bind fun a4 =>
  Option.bind (α := Bool) (
   if a4.1.sided then
    some (!a0.Purl)
   else
    some false) fun a6 =>
  Option.bind (α := (Int × Int)) (
   if decide (0 < a4.1.b.2) then
    some (a0.B, a0.A)
   else
    some (a0.A, a0.B)) fun (a7, a8) =>
  (appO a5 [(api_Stitch.mk a0.Kind a6 a7 a8)]).bind fun a9 =>
  some (.inl a9)
noncomputable def F_stitch_Turn (p0 : (List api_Stitch)) : Option ((List api_Stitch) × Int) :=
 (F_stitch_All p0).bind fun r6 =>
 if r6 != 0 then
  some (([] : (List api_Stitch)), r6)
 else
  (capO (p0.length : Int)).bind fun a5 =>
  (F_slices_Backward___api_Stitch_api_Stitch_ p0).bind fun a0 =>
  (I_slices_Backward___api_Stitch_api_Stitch__1 a0 _ _ (stitch_Turn_l2) ([] : List api_Stitch)).bind fun z0 => match z0 with
   | .inl a4 =>
    some (a4, 0)
   | .inr z0 =>
    nomatch z0
def c_stitch_Turn_val (r : ((List api_Stitch) × Int)) (x : Value) : Value := .tuple #[x, .int .i64 r.2]
def c_stitch_Turn_D (r : ((List api_Stitch) × Int)) (x : Value) : List Fact := [fRep (rL r_api_Stitch) x r.1]
theorem c_stitch_Turn (E : Nat → Prop) (w0 : World) (p0 : (List api_Stitch)) (v0 : Value) (r : ((List api_Stitch) × Int)) (h : F_stitch_Turn p0 = some r) (S : St0 E [] w0 w0 [] [fRep (rL r_api_Stitch) (v0) p0]) :
 Calls Try.prog 55 #[v0] w0 (Ret (X := Value) E [] w0 (c_stitch_Turn_val r) (fun _ => []) (c_stitch_Turn_D r)) := by
 unfold F_stitch_Turn at h
 obtain ⟨ap, aq, _, rfl, _⟩ := S.know (i := 0) (e := fRep (rL r_api_Stitch) (v0) p0) rfl
 refine sEnterM (args := [.slice ap p0.length aq]) 51 Try.func55 rfl rfl (by simp) S (fun a S => ?_)
 refine sSeq (fun K3 aT => sRegion (sN S fun a S => ?_))
 refine sN S fun a S => ?_
 refine lT (aT _ _ (sSeq (fun K4 aU => sSeq (fun K5 aV => sRegion (sM S fun a S => ?_)))))
 obtain ⟨r6, aW, h⟩ := bS h
 have S1 := S.mem
 refine sCq [.slice ap p0.length aq] (iv r6) S callee64 (S1.quiet [0] rfl) (fun E1 w1 S1 => c_stitch_All E1 w1 p0 (.slice ap p0.length aq) r6 aW S1) fun a w S => ?_
 refine sN S fun a S => ?_
 refine lT (aV _ _ (sSeq (fun K8 aX => sRegion (sM S fun a S => ?_))))
 refine sBin _ S (wN rfl) rfl rfl rfl (bNe _ _ _ _ .i64 r6 0) rfl (lb rfl) fun a S => ?_
 refine lT (aX _ _ ?_)
 rcases iS h with ⟨av, h⟩ | ⟨av, h⟩
 ·refine sCondT S rfl av ?_
  refine sSeq (fun bg aw => sRegion (sM S fun a S => ?_))
  refine sN S fun a S => ?_
  refine sN S fun a S => ?_
  refine lT (aw _ _ ?_)
  obtain rfl := tS h
  have S := S.learn (fRep (rL r_api_Stitch) (.slice none 0 0) ([] : (List api_Stitch))) (rL_nil _ _ _)
  exact wp_ret (rThen (sRetM0 (.tuple #[.slice none 0 0, iv r6]) S (rsl2 rfl (rvT (t := 2) (v := .slice none 0 0) S rfl) (rvT (t := 3) (v := iv r6) S rfl)) ⟨(.slice none 0 0), rfl, S.mem.sel [] [0] (by decide) rfl rfl⟩))
 refine sCondF S rfl av ?_
 refine wp_skip (leafT (aU _ _ ?_))
 refine sSeq (fun bh ax => sRegion (sM S fun a S => ?_))
 refine sLen S (wN rfl) rfl Try.underlying62 rfl rfl (lb rfl) fun a S => ?_
 obtain ⟨aZ, ay, h⟩ := bS h
 refine sMake0 r_api_Stitch (m := (p0.length : Int)) (u := aZ) (.agg #[.int .u8 0, .bool false, iv 0, iv 0]) 24 S (wN rfl) rfl Try.underlying62 rfl (by decide) rfl rfl ay rfl (lb rfl) fun a w aa ab S => ?_
 refine sAlloc (.slice none 0 0) S (wN rfl) rfl rfl [.slice none 0 0] rfl rfl (lb rfl) fun a ag w S => ?_
 refine sStore (p := ag) (off := 0) (T := 62) (vs := [.slice none 0 0]) (v := .slice aa ([] : List api_Stitch).length ab) 0 [.slice aa ([] : List api_Stitch).length ab] S (wN rfl) rfl rfl rfl rfl rfl rfl rfl (by simp) rfl fun a w S => ?_
 refine lT (ax _ _ (sSeq (fun bi az => sSeq (fun bj aA => sRegion (sM S fun a S => ?_)))))
 obtain ⟨ai, aC, h⟩ := bS h
 refine sCall (X := Value) (f := 66) (vs := [.slice ap p0.length aq]) (val := c_slices_Backward___api_Stitch_api_Stitch__val ai) (B' := fun _ => []) (D' := c_slices_Backward___api_Stitch_api_Stitch__D ai) [] [eBox ag 62 [.slice aa ([] : List api_Stitch).length ab], eRow r_api_Stitch 61 (.slice aa ([] : List api_Stitch).length ab) ([] : List api_Stitch)] [fRep (rL r_api_Stitch) (.slice ap p0.length aq) p0] [0, 1] [0] S (wN rfl) rfl callee66 rfl (by decide) rfl rfl (fun E1 w1 S1 => c_slices_Backward___api_Stitch_api_Stitch_ E1 w1 p0 (.slice ap p0.length aq) ai aC S1) rfl (lb rfl) fun ah a w S => ?_
 refine lT (aA _ _ (wp_block ?_))
 obtain ⟨bk, aj, au⟩ := bS h
 replace S : St [] E [] w0 51 a w [(5, .pointer (some ⟨ag, 0, none⟩)), (19, .func (.func 73) #[] #[ah])] [eBox ag 62 [.slice aa ([] : List api_Stitch).length ab], eRow r_api_Stitch 61 (.slice aa ([] : List api_Stitch).length ab) ([] : List api_Stitch)] [fPtr (rL r_api_Stitch) (ah) ai] := S.fix [0, 1] [0] (by decide) rfl rfl rfl
 refine sRange2 (B := stitch_Turn_l2) (fun s0 L D => match s0 with | a6 => ∃ a4, ∃ a5, L = [eBox ag 62 [.slice a4 a6.length a5], eRow r_api_Stitch 61 (.slice a4 a6.length a5) a6] ∧ D = [fPtr (rL r_api_Stitch) (ah) ai]) (fun _ _ _ _ => False) [0] S aj rfl callee73 (it_slices_Backward___api_Stitch_api_Stitch__1 ai ah) rfl (by decide) (by decide) ⟨aa, ab, rfl, rfl⟩ ?_ ?_ ?_
 ·intro E l0 a6 aP a0 aQ aR b L D K a w0 hK hIL hB S
  clear aj au h hK
  unfold stitch_Turn_l2 at hB
  dsimp only at hB hIL
  obtain ⟨a4, a5, rfl, rfl⟩ := hIL
  have h := hB
  clear hB
  obtain rfl : aQ = iv aP := S.mem.know (i := 0) (e := fRep (rI .i64) (aQ) aP) rfl
  obtain rfl : aR = .agg #[.int .u8 a0.Kind, .bool a0.Purl, iv a0.A, iv a0.B] := S.mem.know (i := 1) (e := fRep r_api_Stitch (aR) a0) rfl
  refine sRegionR (by repeat (first | exact roundU_out | exact it_out | exact lo_false | refine lo_then ?_ | refine lo_block ?_)) rfl ?_
  refine sAlloc (.agg #[.int .u8 0, .bool false, iv 0, iv 0]) S (wN rfl) rfl rfl [.int .u8 0, .bool false, iv 0, iv 0] rfl rfl (lb rfl) fun a a8 w S => ?_
  refine sStore (p := a8) (off := 0) (T := 61) (vs := [.int .u8 0, .bool false, iv 0, iv 0]) (v := .agg #[.int .u8 a0.Kind, .bool a0.Purl, iv a0.A, iv a0.B]) 0 [.int .u8 a0.Kind, .bool a0.Purl, iv a0.A, iv a0.B] S (wN rfl) rfl rfl rfl rfl rfl rfl rfl (by simp) rfl fun a w S => ?_
  refine lT (⟨_, _, _, S, fun K a w0 hK S => ?_⟩)
  refine wpIn_block ?_
  refine sSeqR (fun bl aG => sRegionR (by repeat (first | exact roundU_out | exact it_out | exact lo_false | refine lo_then ?_ | refine lo_block ?_)) rfl ?_)
  refine sField (b := a8) (off := 0) 0 0 S (wN rfl) rfl rfl rfl rfl rfl (lb rfl) fun a S => ?_
  refine sLoad1 0 (.int .u8 a0.Kind) S (wN rfl) rfl rfl rfl rfl rfl rfl (lb rfl) fun a S => ?_
  obtain ⟨a7, aH, h⟩ := bS h
  refine sCall (X := Value) (f := 67) (vs := [.int .u8 a0.Kind]) (val := c_stitch_forms_val a7) (B' := fun _ => []) (D' := c_stitch_forms_D a7) [] [eBox a8 61 [.int .u8 a0.Kind, .bool a0.Purl, iv a0.A, iv a0.B], eBox ag 62 [.slice a4 a6.length a5], eRow r_api_Stitch 61 (.slice a4 a6.length a5) a6] [] [0, 1, 2] [] S (wN rfl) rfl callee67 rfl (by decide) rfl rfl (fun E1 w1 S1 => c_stitch_forms E1 w1 a0.Kind a7 aH S1) rfl (lb rfl) fun aS a w S => ?_
  obtain rfl : aS = gv_stitch_form a7.1 := S.mem.know (i := 0) (e := fRep r_stitch_form (aS) a7.1) rfl
  refine sM S fun a S => ?_
  refine sExtract (vs := [gv_stitch_form a7.1, .bool a7.2]) (gv_stitch_form a7.1) S (wN rfl) rfl rfl rfl rfl (lb rfl) fun a S => ?_
  refine sExtract (vs := [gv_stitch_form a7.1, .bool a7.2]) (.bool a7.2) S (wN rfl) rfl rfl rfl rfl (lb rfl) fun a S => ?_
  refine sAlloc (gv_stitch_form (stitch_form.mk (⟨#[]⟩ : ByteArray) (0, 0) (0, 0) false 0 0)) S (wN rfl) rfl rfl (gl_stitch_form (stitch_form.mk (⟨#[]⟩ : ByteArray) (0, 0) (0, 0) false 0 0)) rfl rfl (lb rfl) fun a ar w S => ?_
  refine sStore (p := ar) (off := 0) (T := 115) (vs := [.string (⟨#[]⟩ : ByteArray), iv 0, iv 0, iv 0, iv 0, .bool false, iv 0, iv 0]) (v := gv_stitch_form a7.1) 0 [.string a7.1.letter, iv a7.1.a.1, iv a7.1.a.2, iv a7.1.b.1, iv a7.1.b.2, .bool a7.1.sided, iv a7.1.uses, iv a7.1.made] S (wN rfl) rfl rfl rfl rfl rfl rfl rfl (by simp) rfl fun a w S => ?_
  refine sN S fun a S => ?_
  refine lT (aG _ _ ?_)
  obtain ⟨ba, h, bb⟩ := bS h
  refine sCutR (fun a w => ∃ a9, a9 = ba ∧ St [] E K w0 51 a w [(5, .pointer (some ⟨ag, 0, none⟩)), (7, .pointer (some ⟨a8, 0, none⟩)), (8, .pointer (some ⟨ar, 0, none⟩)), (19, .func (.func 73) #[] #[ah]), (21, .agg #[.int .u8 a0.Kind, .bool a0.Purl, iv a0.A, iv a0.B])] [eBox ag 62 [.slice a4 a6.length a5], eBox a8 61 [.int .u8 a0.Kind, .bool a9, iv a0.A, iv a0.B], eBox ar 115 (gl_stitch_form a7.1), eRow r_api_Stitch 61 (.slice a4 a6.length a5) a6] [fPtr (rL r_api_Stitch) (ah) ai]) ?_ (fun a w hI => ?_)
  ·refine sRegionR (by repeat (first | exact roundU_out | exact it_out | exact lo_false | refine lo_then ?_ | refine lo_block ?_)) rfl ?_
   refine sField (b := ar) (off := 0) 5 5 S (wN rfl) rfl rfl rfl rfl rfl (lb rfl) fun a S => ?_
   refine sLoad1 0 (.bool a7.1.sided) S (wN rfl) rfl rfl rfl rfl rfl rfl (lb rfl) fun a S => ?_
   refine sM S fun a S => ?_
   rcases iS h with ⟨ac, h⟩ | ⟨ac, h⟩
   rotate_left
   ·refine sSkN 3 2 true 30 S rfl rfl ac rfl fun a S => ?_
    refine sPickF (.bool false) S (wN rfl) rfl rfl ac rfl rfl (lb rfl) fun a S => ?_
    refine sField (b := a8) (off := 0) 1 1 S (wN rfl) rfl rfl rfl rfl rfl (lb rfl) fun a S => ?_
    refine sStore (p := a8) (off := 1) (T := 61) (vs := [.int .u8 a0.Kind, .bool a0.Purl, iv a0.A, iv a0.B]) (v := .bool false) 1 [.bool false] S (wN rfl) rfl rfl rfl rfl rfl rfl rfl (by simp) rfl fun a w S => ?_
    exact lT (⟨false, Option.some.inj h, S.fix [2, 0, 1, 3] [3] (by decide) rfl rfl rfl⟩)
   refine sField (b := a8) (off := 0) 1 1 S (wG 2 true 30 rfl rfl rfl ac) rfl rfl rfl rfl rfl (lb rfl) fun a S => ?_
   refine sLoad1 1 (.bool a0.Purl) S (wG 2 true 30 rfl rfl rfl ac) rfl rfl rfl rfl rfl rfl (lb rfl) fun a S => ?_
   refine sNot (b := a0.Purl) S (wG 2 true 30 rfl rfl rfl ac) rfl rfl rfl (lb rfl) fun a S => ?_
   refine sPickT (.bool (!a0.Purl)) S (wN rfl) rfl rfl ac rfl rfl (lb rfl) fun a S => ?_
   refine sField (b := a8) (off := 0) 1 1 S (wN rfl) rfl rfl rfl rfl rfl (lb rfl) fun a S => ?_
   refine sStore (p := a8) (off := 1) (T := 61) (vs := [.int .u8 a0.Kind, .bool a0.Purl, iv a0.A, iv a0.B]) (v := .bool (!a0.Purl)) 1 [.bool (!a0.Purl)] S (wN rfl) rfl rfl rfl rfl rfl rfl rfl (by simp) rfl fun a w S => ?_
   exact lT (⟨!a0.Purl, Option.some.inj h, S.fix [2, 0, 1, 3] [3] (by decide) rfl rfl rfl⟩)
  obtain ⟨a9, rfl, S⟩ := hI
  have h := bb
  try dsimp only at h
  obtain ⟨bc, h, bf⟩ := bS h
  refine sCutR (fun a w => ∃ ae, ∃ af, (ae, af) = bc ∧ St [] E K w0 51 a w [(5, .pointer (some ⟨ag, 0, none⟩)), (7, .pointer (some ⟨a8, 0, none⟩)), (19, .func (.func 73) #[] #[ah]), (21, .agg #[.int .u8 a0.Kind, .bool a0.Purl, iv a0.A, iv a0.B])] [eBox ag 62 [.slice a4 a6.length a5], eBox a8 61 [.int .u8 a0.Kind, .bool a9, iv ae, iv af], eRow r_api_Stitch 61 (.slice a4 a6.length a5) a6] [fPtr (rL r_api_Stitch) (ah) ai]) ?_ (fun a w hI => ?_)
  rotate_left
  ·obtain ⟨ae, af, rfl, S⟩ := hI
   have h := bf
   try dsimp only at h
   refine sRegionR (by repeat (first | exact roundU_out | exact it_out | exact lo_false | refine lo_then ?_ | refine lo_block ?_)) rfl ?_
   refine sLoad1 0 (.slice a4 a6.length a5) S (wN rfl) rfl rfl rfl rfl rfl rfl (lb rfl) fun a S => ?_
   refine sLoadN (p := a8) (off := 0) (T := 61) (vs := [.int .u8 a0.Kind, .bool a9, iv ae, iv af]) 1 [.int .u8 a0.Kind, .bool a9, iv ae, iv af] S (wN rfl) rfl rfl rfl rfl rfl rfl rfl (lb rfl) fun a S => ?_
   have S := S.learn (fRep r_api_Stitch (.agg #[.int .u8 a0.Kind, .bool a9, iv ae, iv af]) (api_Stitch.mk a0.Kind a9 ae af)) rfl
   refine sLit (r := r_api_Stitch) (T := 61) (xs := [(api_Stitch.mk a0.Kind a9 ae af)]) [(0, .agg #[.int .u8 a0.Kind, .bool a9, iv ae, iv af])] 1 [.agg #[.int .u8 a0.Kind, .bool a9, iv ae, iv af]] [.int .u8 a0.Kind, .bool a9, iv ae, iv af] (.agg #[.int .u8 0, .bool false, iv 0, iv 0]) 24 S (wN rfl) rfl rfl Try.underlying62 rfl (by decide) (by decide) (by kernel_rfl) rfl (fun E1 w1 hE => All.cons (r_api_Stitch.mono hE (S.mem.know (i := 0) (e := fRep r_api_Stitch (.agg #[.int .u8 a0.Kind, .bool a9, iv ae, iv af]) (api_Stitch.mk a0.Kind a9 ae af)) rfl)) (All.nil _ _ _)) rfl rfl (lb rfl) fun a w aI aJ S => ?_
   obtain ⟨aK, aL, h⟩ := bS h
   refine sApp (r := r_api_Stitch) (T := 61) (xs := a6) (ys := [(api_Stitch.mk a0.Kind a9 ae af)]) (v := .slice a4 a6.length a5) (u := .slice aI [(api_Stitch.mk a0.Kind a9 ae af)].length aJ) 3 (.agg #[.int .u8 0, .bool false, iv 0, iv 0]) 24 S (wN rfl) rfl Try.underlying62 rfl rfl (by decide) rfl rfl rfl (src_R (T := 61) 0 S.mem rfl) aL rfl (lb rfl) fun a w ak al S => ?_
   refine sStore (p := ag) (off := 0) (T := 62) (vs := [.slice a4 a6.length a5]) (v := .slice ak aK.length al) 2 [.slice ak aK.length al] S (wN rfl) rfl rfl rfl rfl rfl rfl rfl (by simp) rfl fun a w S => ?_
   exact leafL (leafB (rnN aK _ _ [] (Option.some.inj h) ⟨ak, al, rfl, rfl⟩ (S.fix [0, 1] [1] (by decide) rfl rfl rfl)))
  refine sSeqR (fun bm aM => sRegionR (by repeat (first | exact roundU_out | exact it_out | exact lo_false | refine lo_then ?_ | refine lo_block ?_)) rfl ?_)
  refine sField (b := ar) (off := 0) 3 3 S (wN rfl) rfl rfl rfl rfl rfl (lb rfl) fun a S => ?_
  refine sIdxV S (wN rfl) rfl rfl rfl (idxV_arr (m := 2) (sz := 1) Try.underlying49 rfl (by decide) (by decide) 3) rfl (lb rfl) fun a S => ?_
  refine sLoad1 2 (iv a7.1.b.2) S (wN rfl) rfl rfl rfl rfl rfl rfl (lb rfl) fun a S => ?_
  refine sBin _ S (wN rfl) rfl rfl rfl (bGt _ _ _ _ .i64 a7.1.b.2 0) rfl (lb rfl) fun a S => ?_
  refine lT (aM _ _ ?_)
  rcases iS h with ⟨am, h⟩ | ⟨am, h⟩
  rotate_left
  ·refine sCondFR S rfl am ?_
   exact wpIn_skip (leafT (⟨a0.A, a0.B, Option.some.inj h, S.fix [0, 1, 3] [0] (by decide) rfl rfl rfl⟩))
  refine sCondTR S rfl am ?_
  refine sRegionR (by repeat (first | exact roundU_out | exact it_out | exact lo_false | refine lo_then ?_ | refine lo_block ?_)) rfl ?_
  refine sField (b := a8) (off := 0) 3 3 S (wN rfl) rfl rfl rfl rfl rfl (lb rfl) fun a S => ?_
  refine sLoad1 1 (iv a0.B) S (wN rfl) rfl rfl rfl rfl rfl rfl (lb rfl) fun a S => ?_
  refine sField (b := a8) (off := 0) 2 2 S (wN rfl) rfl rfl rfl rfl rfl (lb rfl) fun a S => ?_
  refine sLoad1 1 (iv a0.A) S (wN rfl) rfl rfl rfl rfl rfl rfl (lb rfl) fun a S => ?_
  refine sField (b := a8) (off := 0) 2 2 S (wN rfl) rfl rfl rfl rfl rfl (lb rfl) fun a S => ?_
  refine sStore (p := a8) (off := 2) (T := 61) (vs := [.int .u8 a0.Kind, .bool a9, iv a0.A, iv a0.B]) (v := iv a0.B) 1 [iv a0.B] S (wN rfl) rfl rfl rfl rfl rfl rfl rfl (by simp) rfl fun a w S => ?_
  refine sField (b := a8) (off := 0) 3 3 S (wN rfl) rfl rfl rfl rfl rfl (lb rfl) fun a S => ?_
  refine sStore (p := a8) (off := 3) (T := 61) (vs := [.int .u8 a0.Kind, .bool a9, iv a0.B, iv a0.B]) (v := iv a0.A) 0 [iv a0.A] S (wN rfl) rfl rfl rfl rfl rfl rfl rfl (by simp) rfl fun a w S => ?_
  exact lT (⟨a0.B, a0.A, Option.some.inj h, S.fix [1, 0, 3] [0] (by decide) rfl rfl rfl⟩)
 ·intro ao a6 L D a w hr hIL S
  clear h
  obtain rfl := hr
  dsimp only at au hIL
  obtain ⟨a4, a5, rfl, rfl⟩ := hIL
  have h := au
  clear au aj
  replace S : St [mark ao] E [] w0 51 a w [(5, .pointer (some ⟨ag, 0, none⟩)), (19, .func (.func 73) #[] #[ah])] [eBox ag 62 [.slice a4 a6.length a5], eRow r_api_Stitch 61 (.slice a4 a6.length a5) a6, eDef ao] [fPtr (rL r_api_Stitch) (ah) ai] := S
  refine leafB (leafT (az _ _ ?_))
  refine sSeq (fun bn aO => sRegion (sLoad1 0 (.slice a4 a6.length a5) S (wN rfl) rfl rfl rfl rfl rfl rfl (lb rfl) fun a S => ?_))
  refine sN S fun a S => ?_
  refine sN S fun a S => ?_
  refine lT (aO _ _ (wp_ret (sRetM1 2 S rfl (fun a w S => ?_))))
  obtain rfl := tS h
  have S := S.shutR (r := r_api_Stitch) (T := 61) (v := .slice a4 a6.length a5) (xs := a6) 1 rfl
  exact sFin (.tuple #[.slice a4 a6.length a5, iv 0]) S (rsl2 rfl (rvT (t := 2) (v := .slice a4 a6.length a5) S rfl) (rvT (t := 3) (v := iv 0) S rfl)) ⟨(.slice a4 a6.length a5), rfl, S.mem.sel [] [0] (by decide) rfl rfl⟩
 ·intro ao c0 t0 L D a w hr hIX S
  clear h
  exact hIX.elim
noncomputable def F_slices_Clone___api_Stitch_api_Stitch_ (p0 : (List api_Stitch)) : Option (List api_Stitch) :=
 (appO ([] : List api_Stitch) p0).bind fun a0 =>
 some a0
def c_slices_Clone___api_Stitch_api_Stitch__val (r : (List api_Stitch)) (x : Value) : Value := x
def c_slices_Clone___api_Stitch_api_Stitch__D (r : (List api_Stitch)) (x : Value) : List Fact := [fRep (rL r_api_Stitch) x r]
theorem c_slices_Clone___api_Stitch_api_Stitch_ (E : Nat → Prop) (w0 : World) (p0 : (List api_Stitch)) (v0 : Value) (r : (List api_Stitch)) (h : F_slices_Clone___api_Stitch_api_Stitch_ p0 = some r) (S : St0 E [] w0 w0 [] [fRep (rL r_api_Stitch) (v0) p0]) :
 Calls Try.prog 56 #[v0] w0 (Ret (X := Value) E [] w0 (c_slices_Clone___api_Stitch_api_Stitch__val r) (fun _ => []) (c_slices_Clone___api_Stitch_api_Stitch__D r)) := by
 unfold F_slices_Clone___api_Stitch_api_Stitch_ at h
 obtain ⟨a5, a7, _, rfl, _⟩ := S.know (i := 0) (e := fRep (rL r_api_Stitch) (v0) p0) rfl
 refine sEnter (args := [.slice a5 p0.length a7]) 8 Try.func56 rfl rfl (by simp) S (fun a S => ?_)
 refine sSeq (fun K3 ac => sRegion (sN S fun a S => ?_))
 refine lT (ac _ _ (sSeq (fun K4 ae => sSeq (fun K5 af => sRegion (sM S fun a S => ?_)))))
 refine sBin _ S (wN rfl) rfl rfl rfl (bEqNil _ _ _ _ Try.underlying62 a5 (p0.length) (a7)) rfl (lb rfl) fun a S => ?_
 refine lT (af _ _ ?_)
 rcases nil_cases a5 with a8 | a8
 ·have ag := rL_isNil (S.mem.know (i := 0) (e := fRep (rL r_api_Stitch) (.slice a5 p0.length a7) p0) rfl) a8
  rw [ag] at h
  have h : some ([] : (List api_Stitch)) = some r := h
  refine sCondT S rfl a8 ?_
  refine sSeq (fun K8 ah => sRegion (sN S fun a S => ?_))
  refine lT (ah _ _ ?_)
  obtain rfl := tS h
  have S := S.learn (fRep (rL r_api_Stitch) (.slice none 0 0) ([] : (List api_Stitch))) (rL_nil _ _ _)
  exact wp_ret (rThen (sRet (.slice none 0 0) S (rsl1 rfl (rvT (t := 2) (v := .slice none 0 0) S rfl)) ⟨(.slice none 0 0), rfl, S.mem.sel [] [0] (by decide) rfl rfl⟩))
 refine sCondF S rfl a8 ?_
 refine wp_skip (leafT (ae _ _ ?_))
 refine sSeq (fun K9 ai => sRegion (sLit0 (α := api_Stitch) r_api_Stitch (T := 61) S (wN rfl) rfl Try.underlying62 rfl rfl (lb rfl) fun a w a9 aa S => ?_))
 refine sM S fun a S => ?_
 obtain ⟨a6, ab, h⟩ := bS h
 refine sApp (r := r_api_Stitch) (T := 61) (xs := ([] : List api_Stitch)) (ys := p0) (v := .slice a9 ([] : List api_Stitch).length aa) (u := .slice a5 p0.length a7) 0 (.agg #[.int .u8 0, .bool false, iv 0, iv 0]) 24 S (wN rfl) rfl Try.underlying62 rfl rfl (by decide) rfl rfl rfl (src_D 0 S.mem rfl) ab rfl (lb rfl) fun a w a0 a4 S => ?_
 refine sN S fun a S => ?_
 refine lT (ai _ _ ?_)
 obtain rfl := tS h
 have S := S.shutR (r := r_api_Stitch) (T := 61) (v := .slice a0 a6.length a4) (xs := a6) 0 rfl
 exact wp_ret (sRet (.slice a0 a6.length a4) S (rsl1 rfl (rvT (t := 2) (v := .slice a0 a6.length a4) S rfl)) ⟨(.slice a0 a6.length a4), rfl, S.mem.sel [] [0] (by decide) rfl rfl⟩)
noncomputable def F_chart_Face (p0 : api_Chart) (p1 : Int) : Option ((List api_Stitch) × Int) :=
 (F_chart_Check p0).bind fun r9 =>
 if r9 != 0 then
  some (([] : (List api_Stitch)), r9)
 else
  Option.bind (α := Bool) (
   if decide (p1 < 0) then
    some true
   else
    some (decide ((p0.Rows.length : Int) ≤ p1))) fun a5 =>
  if a5 then
   some (([] : (List api_Stitch)), 2)
  else
   (idxO p0.Rows p1).bind fun a0 =>
   if a0.Back then
    (F_stitch_Turn a0.Cells).bind fun a4 =>
    some (a4.1, a4.2)
   else
    (F_slices_Clone___api_Stitch_api_Stitch_ a0.Cells).bind fun a6 =>
    some (a6, 0)
def c_chart_Face_val (r : ((List api_Stitch) × Int)) (x : Value) : Value := .tuple #[x, .int .i64 r.2]
def c_chart_Face_D (r : ((List api_Stitch) × Int)) (x : Value) : List Fact := [fRep (rL r_api_Stitch) x r.1]
theorem c_chart_Face (E : Nat → Prop) (w0 : World) (p0 : api_Chart) (v0 : Value) (p1 : Int) (r : ((List api_Stitch) × Int)) (h : F_chart_Face p0 p1 = some r) (S : St0 E [] w0 w0 [] [fRep r_api_Chart (v0) p0]) :
 Calls Try.prog 43 #[v0, iv p1] w0 (Ret (X := Value) E [] w0 (c_chart_Face_val r) (fun _ => []) (c_chart_Face_D r)) := by
 unfold F_chart_Face at h
 obtain ⟨u1, rfl, aL⟩ := S.know (i := 0) (e := fRep r_api_Chart (v0) p0) rfl
 have S := S.learn (fRep (rL r_api_Row) u1 p0.Rows) aL
 obtain ⟨a5, a6, _, rfl, _⟩ := aL
 refine sEnter (args := [.agg #[iv p0.Start, .slice a5 p0.Rows.length a6], iv p1]) 43 Try.func43 rfl rfl (by simp) S (fun a S => ?_)
 refine sSeq (fun K5 aU => sRegion (sBox (v := .agg #[iv p0.Start, .slice a5 p0.Rows.length a6]) S (wN rfl) rfl rfl [iv p0.Start, .slice a5 p0.Rows.length a6] rfl rfl (lb rfl) fun a b6 w S => ?_))
 refine sN S fun a S => ?_
 refine sN S fun a S => ?_
 refine lT (aU _ _ (sSeq (fun K7 aV => sSeq (fun K8 aW => sRegion (sLoadN (p := b6) (off := 0) (T := 24) (vs := [iv p0.Start, .slice a5 p0.Rows.length a6]) 0 [iv p0.Start, .slice a5 p0.Rows.length a6] S (wN rfl) rfl rfl rfl rfl rfl rfl rfl (lb rfl) fun a S => ?_)))))
 obtain ⟨r9, am, h⟩ := bS h
 have S1 := S.mem
 refine sCq [.agg #[iv p0.Start, .slice a5 p0.Rows.length a6]] (iv r9) S callee39 (S1.quiet [1] rfl) (fun E1 w1 S1 => c_chart_Check E1 w1 p0 (.agg #[iv p0.Start, .slice a5 p0.Rows.length a6]) r9 am S1) fun a w S => ?_
 refine sN S fun a S => ?_
 refine lT (aW _ _ (sSeq (fun bg ao => sRegion (sM S fun a S => ?_))))
 refine sBin _ S (wN rfl) rfl rfl rfl (bNe _ _ _ _ .i64 r9 0) rfl (lb rfl) fun a S => ?_
 refine lT (ao _ _ ?_)
 rcases iS h with ⟨af, h⟩ | ⟨af, h⟩
 ·refine sCondT S rfl af ?_
  refine sSeq (fun bh ap => sRegion (sM S fun a S => ?_))
  refine sN S fun a S => ?_
  refine sN S fun a S => ?_
  refine lT (ap _ _ ?_)
  obtain rfl := tS h
  have S := S.learn (fRep (rL r_api_Stitch) (.slice none 0 0) ([] : (List api_Stitch))) (rL_nil _ _ _)
  exact wp_ret (rThen (sRet (.tuple #[.slice none 0 0, iv r9]) S (rsl2 rfl (rvT (t := 4) (v := .slice none 0 0) S rfl) (rvT (t := 5) (v := iv r9) S rfl)) ⟨(.slice none 0 0), rfl, S.mem.sel [] [0] (by decide) rfl rfl⟩))
 refine sCondF S rfl af ?_
 refine wp_skip (leafT (aV _ _ ?_))
 refine sSeq (fun bi aq => ?_)
 obtain ⟨aX, h, aZ⟩ := bS h
 refine sCut (fun a w => ∃ ar, ar = aX ∧ St [] E [] w0 43 a w [(1, iv p1), (2, .pointer (some ⟨b6, 0, none⟩)), (20, .bool ar)] [eBox b6 24 [iv p0.Start, .slice a5 p0.Rows.length a6]] [fRep (rL r_api_Row) (.slice a5 p0.Rows.length a6) p0.Rows]) ?_ (fun a w hI => ?_)
 ·refine sRegion (sM S fun a S => ?_)
  refine sBin _ S (wN rfl) rfl rfl rfl (bLt _ _ _ _ .i64 p1 0) rfl (lb rfl) fun a S => ?_
  refine sM S fun a S => ?_
  rcases iS h with ⟨a4, h⟩ | ⟨a4, h⟩
  ·refine sSkN 5 2 false 14 S rfl rfl a4 rfl fun a S => ?_
   refine sPickT (.bool true) S (wN rfl) rfl rfl a4 rfl rfl (lb rfl) fun a S => ?_
   exact lT (⟨true, Option.some.inj h, S.fix [0] [0] (by decide) rfl rfl rfl⟩)
  refine sMove (iv p1) S (wG 2 false 14 rfl rfl rfl a4) (.inl rfl) rfl rfl (lb rfl) fun a S => ?_
  refine sField (b := b6) (off := 0) 1 1 S (wG 2 false 14 rfl rfl rfl a4) rfl rfl rfl rfl rfl (lb rfl) fun a S => ?_
  refine sLoad1 0 (.slice a5 p0.Rows.length a6) S (wG 2 false 14 rfl rfl rfl a4) rfl rfl rfl rfl rfl rfl (lb rfl) fun a S => ?_
  refine sLen S (wG 2 false 14 rfl rfl rfl a4) rfl Try.underlying22 rfl rfl (lb rfl) fun a S => ?_
  refine sBin _ S (wG 2 false 14 rfl rfl rfl a4) rfl rfl rfl (bGe _ _ _ _ .i64 p1 (p0.Rows.length : Int)) rfl (lb rfl) fun a S => ?_
  refine sPickF (.bool (decide ((p0.Rows.length : Int) ≤ p1))) S (wN rfl) rfl rfl a4 rfl rfl (lb rfl) fun a S => ?_
  exact lT (⟨decide ((p0.Rows.length : Int) ≤ p1), Option.some.inj h, S.fix [0] [0] (by decide) rfl rfl rfl⟩)
 obtain ⟨ar, rfl, S⟩ := hI
 have h := aZ
 try dsimp only at h
 rcases iS h with ⟨ag, h⟩ | ⟨ag, h⟩
 ·refine sCondT S rfl ag ?_
  refine sSeq (fun bj au => sRegion (sN S fun a S => ?_))
  refine sN S fun a S => ?_
  refine lT (au _ _ ?_)
  obtain rfl := tS h
  have S := S.learn (fRep (rL r_api_Stitch) (.slice none 0 0) ([] : (List api_Stitch))) (rL_nil _ _ _)
  exact wp_ret (rThen (sRet (.tuple #[.slice none 0 0, iv 2]) S (rsl2 rfl (rvT (t := 4) (v := .slice none 0 0) S rfl) (rvT (t := 5) (v := iv 2) S rfl)) ⟨(.slice none 0 0), rfl, S.mem.sel [] [0] (by decide) rfl rfl⟩))
 refine sCondF S rfl ag ?_
 refine wp_skip (leafT (aq _ _ ?_))
 refine sSeq (fun bk av => sSeq (fun bl aw => sRegion (sField (b := b6) (off := 0) 1 1 S (wN rfl) rfl rfl rfl rfl rfl (lb rfl) fun a S => ?_)))
 refine sLoad1 0 (.slice a5 p0.Rows.length a6) S (wN rfl) rfl rfl rfl rfl rfl rfl (lb rfl) fun a S => ?_
 refine sM S fun a S => ?_
 obtain ⟨a0, ah, h⟩ := bS h
 obtain ⟨aM, ax, S⟩ := pIdx (P := Try.prog) (r := r_api_Row) (v := .slice a5 p0.Rows.length a6) (xs := p0.Rows) (j := p1) 22 65 0 S Try.underlying22 rfl rfl ah
 refine sIdxV S (wN rfl) rfl rfl rfl ax rfl (lb rfl) fun a S => ?_
 obtain ⟨aO, ay, S⟩ := pFld (P := Try.prog) (r := r_api_Row) (s2 := rB) (g := (·.Back)) (q := aM) (z := a0) 65 0 0 0 S rfl rfl comp_api_Row_Back
 refine sFldV (q := aM) S (wN rfl) rfl rfl ay rfl (lb rfl) fun a S => ?_
 obtain ⟨aP, S⟩ := pLoad (r := rB) (q := aO) (x := a0.Back) 0 S rfl
 obtain rfl : aP = .bool a0.Back := S.mem.know (i := 1) (e := fRep rB (aP) a0.Back) rfl
 refine sLoadV1 (vq := aO) 0 (.bool a0.Back) S (wN rfl) rfl rfl rfl rfl rfl (lb rfl) fun a S => ?_
 refine lT (aw _ _ ?_)
 rcases iS h with ⟨ai, h⟩ | ⟨ai, h⟩
 rotate_left
 ·refine sCondF S rfl ai ?_
  refine wp_skip (leafT (av _ _ ?_))
  refine sSeq (fun bm az => sRegion (sField (b := b6) (off := 0) 1 1 S (wN rfl) rfl rfl rfl rfl rfl (lb rfl) fun a S => ?_))
  refine sLoad1 0 (.slice a5 p0.Rows.length a6) S (wN rfl) rfl rfl rfl rfl rfl rfl (lb rfl) fun a S => ?_
  refine sM S fun a S => ?_
  obtain ⟨aQ, aA, S⟩ := pIdx (P := Try.prog) (r := r_api_Row) (v := .slice a5 p0.Rows.length a6) (xs := p0.Rows) (j := p1) 22 65 4 S Try.underlying22 rfl rfl ah
  refine sIdxV S (wN rfl) rfl rfl rfl aA rfl (lb rfl) fun a S => ?_
  obtain ⟨aR, aC, S⟩ := pFld (P := Try.prog) (r := r_api_Row) (s2 := (rL r_api_Stitch)) (g := (·.Cells)) (q := aQ) (z := a0) 65 1 0 1 S rfl rfl comp_api_Row_Cells
  refine sFldV (q := aQ) S (wN rfl) rfl rfl aC rfl (lb rfl) fun a S => ?_
  obtain ⟨ba, S⟩ := pLoad (r := (rL r_api_Stitch)) (q := aR) (x := a0.Cells) 0 S rfl
  obtain ⟨aa, ab, _, rfl, _⟩ := S.mem.know (i := 1) (e := fRep (rL r_api_Stitch) (ba) a0.Cells) rfl
  refine sLoadV1 (vq := aR) 0 (.slice aa a0.Cells.length ab) S (wN rfl) rfl rfl rfl rfl rfl (lb rfl) fun a S => ?_
  obtain ⟨aj, aG, h⟩ := bS h
  refine sCall (X := Value) (f := 56) (vs := [.slice aa a0.Cells.length ab]) (val := c_slices_Clone___api_Stitch_api_Stitch__val aj) (B' := fun _ => []) (D' := c_slices_Clone___api_Stitch_api_Stitch__D aj) [] [eBox b6 24 [iv p0.Start, .slice a5 p0.Rows.length a6]] [fRep (rL r_api_Stitch) (.slice aa a0.Cells.length ab) a0.Cells] [0] [1] S (wN rfl) rfl callee56 rfl (by decide) rfl rfl (fun E1 w1 S1 => c_slices_Clone___api_Stitch_api_Stitch_ E1 w1 a0.Cells (.slice aa a0.Cells.length ab) aj aG S1) rfl (lb rfl) fun bb a w S => ?_
  obtain ⟨ak, al, _, rfl, _⟩ := S.mem.know (i := 0) (e := fRep (rL r_api_Stitch) (bb) aj) rfl
  refine sN S fun a S => ?_
  refine sN S fun a S => ?_
  refine lT (az _ _ ?_)
  obtain rfl := tS h
  exact wp_ret (sRet (.tuple #[.slice ak aj.length al, iv 0]) S (rsl2 rfl (rvT (t := 4) (v := .slice ak aj.length al) S rfl) (rvT (t := 5) (v := iv 0) S rfl)) ⟨(.slice ak aj.length al), rfl, S.mem.sel [] [0] (by decide) rfl rfl⟩)
 refine sCondT S rfl ai ?_
 refine sSeq (fun bn aH => sRegion (sField (b := b6) (off := 0) 1 1 S (wN rfl) rfl rfl rfl rfl rfl (lb rfl) fun a S => ?_))
 refine sLoad1 0 (.slice a5 p0.Rows.length a6) S (wN rfl) rfl rfl rfl rfl rfl rfl (lb rfl) fun a S => ?_
 refine sM S fun a S => ?_
 obtain ⟨aS, aI, S⟩ := pIdx (P := Try.prog) (r := r_api_Row) (v := .slice a5 p0.Rows.length a6) (xs := p0.Rows) (j := p1) 22 65 4 S Try.underlying22 rfl rfl ah
 refine sIdxV S (wN rfl) rfl rfl rfl aI rfl (lb rfl) fun a S => ?_
 obtain ⟨aT, aJ, S⟩ := pFld (P := Try.prog) (r := r_api_Row) (s2 := (rL r_api_Stitch)) (g := (·.Cells)) (q := aS) (z := a0) 65 1 0 1 S rfl rfl comp_api_Row_Cells
 refine sFldV (q := aS) S (wN rfl) rfl rfl aJ rfl (lb rfl) fun a S => ?_
 obtain ⟨bc, S⟩ := pLoad (r := (rL r_api_Stitch)) (q := aT) (x := a0.Cells) 0 S rfl
 obtain ⟨ac, ae, _, rfl, _⟩ := S.mem.know (i := 1) (e := fRep (rL r_api_Stitch) (bc) a0.Cells) rfl
 refine sLoadV1 (vq := aT) 0 (.slice ac a0.Cells.length ae) S (wN rfl) rfl rfl rfl rfl rfl (lb rfl) fun a S => ?_
 obtain ⟨a7, aK, h⟩ := bS h
 refine sCall (X := Value) (f := 55) (vs := [.slice ac a0.Cells.length ae]) (val := c_stitch_Turn_val a7) (B' := fun _ => []) (D' := c_stitch_Turn_D a7) [] [eBox b6 24 [iv p0.Start, .slice a5 p0.Rows.length a6]] [fRep (rL r_api_Stitch) (.slice ac a0.Cells.length ae) a0.Cells] [0] [1] S (wN rfl) rfl callee55 rfl (by decide) rfl rfl (fun E1 w1 S1 => c_stitch_Turn E1 w1 a0.Cells (.slice ac a0.Cells.length ae) a7 aK S1) rfl (lb rfl) fun bf a w S => ?_
 obtain ⟨a8, a9, _, rfl, _⟩ := S.mem.know (i := 0) (e := fRep (rL r_api_Stitch) (bf) a7.1) rfl
 refine sExtract (vs := [.slice a8 a7.1.length a9, iv a7.2]) (.slice a8 a7.1.length a9) S (wN rfl) rfl rfl rfl rfl (lb rfl) fun a S => ?_
 refine sExtract (vs := [.slice a8 a7.1.length a9, iv a7.2]) (iv a7.2) S (wN rfl) rfl rfl rfl rfl (lb rfl) fun a S => ?_
 refine sN S fun a S => ?_
 refine sN S fun a S => ?_
 refine lT (aH _ _ ?_)
 obtain rfl := tS h
 exact wp_ret (rThen (sRet (.tuple #[.slice a8 a7.1.length a9, iv a7.2]) S (rsl2 rfl (rvT (t := 4) (v := .slice a8 a7.1.length a9) S rfl) (rvT (t := 5) (v := iv a7.2) S rfl)) ⟨(.slice a8 a7.1.length a9), rfl, S.mem.sel [] [0] (by decide) rfl rfl⟩))
noncomputable def loops_piece_take_s3_l1 (m5 : List Int) (p0 : loops_piece) : (List Int × Int) → Option ((List Int × Int) ⊕ List Int) := fun s0 => match s0 with
 | (a4, a0) =>
  if decide (a0 < (m5.length : Int)) then
   (idxO a4 a0).bind fun a6 =>
   (setO a4 a0 (w64 (p0.next + a0))).bind fun a5 =>
   some (.inl (a5, w64 (a0 + 1)))
  else
   some (.inr a4)
noncomputable def F_loops_piece_take_s3 (p0 : loops_piece) (p1 : Int) : Option ((List Int) × loops_piece) :=
 (makeO p1 (0 : Int)).bind fun m5 =>
 Option.bind (α := List Int) (
  (whileO (loops_piece_take_s3_l1 m5 p0) (m5, 0)).bind fun a0 =>
   some a0) fun o7 =>
 some (o7, (loops_piece.mk p0.loops p0.rows p0.bound p0.cross (w64 (p0.next + p1))))
theorem c_loops_piece_take_s3 (E : Nat → Prop) (w0 : World) (p0 : loops_piece) (bb0 : Nat) (ad_0_0 : Option Addr) (cp_0_0 : Nat) (ad_0_1 : Option Addr) (cp_0_1 : Nat) (ad_0_2 : Option Addr) (cp_0_2 : Nat) (ad_0_3 : Option Addr) (cp_0_3 : Nat) (p1 : Int) (r : ((List Int) × loops_piece)) (h : F_loops_piece_take_s3 p0 p1 = some r) (S : St0 E (keysL [eBox bb0 73 [.slice ad_0_0 p0.loops.length cp_0_0, .slice ad_0_1 p0.rows.length cp_0_1, .slice ad_0_2 p0.bound.length cp_0_2, .slice ad_0_3 p0.cross.length cp_0_3, iv p0.next], eRow r_api_Loop 48 (.slice ad_0_0 p0.loops.length cp_0_0) p0.loops, eRow (rI .i64) 3 (.slice ad_0_1 p0.rows.length cp_0_1) p0.rows, eRow (rI .i64) 3 (.slice ad_0_2 p0.bound.length cp_0_2) p0.bound, eRow r_A2_Int 49 (.slice ad_0_3 p0.cross.length cp_0_3) p0.cross]) w0 w0 [eBox bb0 73 [.slice ad_0_0 p0.loops.length cp_0_0, .slice ad_0_1 p0.rows.length cp_0_1, .slice ad_0_2 p0.bound.length cp_0_2, .slice ad_0_3 p0.cross.length cp_0_3, iv p0.next], eRow r_api_Loop 48 (.slice ad_0_0 p0.loops.length cp_0_0) p0.loops, eRow (rI .i64) 3 (.slice ad_0_1 p0.rows.length cp_0_1) p0.rows, eRow (rI .i64) 3 (.slice ad_0_2 p0.bound.length cp_0_2) p0.bound, eRow r_A2_Int 49 (.slice ad_0_3 p0.cross.length cp_0_3) p0.cross] []) :
 Calls Try.prog 57 #[.pointer (some ⟨bb0, 0, none⟩), iv p1] w0 (Ret (X := Option Addr × Nat × Option Addr × Nat × Option Addr × Nat × Option Addr × Nat × Option Addr × Nat) E (keysL [eBox bb0 73 [.slice ad_0_0 p0.loops.length cp_0_0, .slice ad_0_1 p0.rows.length cp_0_1, .slice ad_0_2 p0.bound.length cp_0_2, .slice ad_0_3 p0.cross.length cp_0_3, iv p0.next], eRow r_api_Loop 48 (.slice ad_0_0 p0.loops.length cp_0_0) p0.loops, eRow (rI .i64) 3 (.slice ad_0_1 p0.rows.length cp_0_1) p0.rows, eRow (rI .i64) 3 (.slice ad_0_2 p0.bound.length cp_0_2) p0.bound, eRow r_A2_Int 49 (.slice ad_0_3 p0.cross.length cp_0_3) p0.cross]) w0 (fun x => .slice x.1 r.1.length x.2.1) (fun x => [eRow (rI .i64) 3 (.slice x.1 r.1.length x.2.1) r.1, eBox bb0 73 [.slice x.2.2.1 r.2.loops.length x.2.2.2.1, .slice x.2.2.2.2.1 r.2.rows.length x.2.2.2.2.2.1, .slice x.2.2.2.2.2.2.1 r.2.bound.length x.2.2.2.2.2.2.2.1, .slice x.2.2.2.2.2.2.2.2.1 r.2.cross.length x.2.2.2.2.2.2.2.2.2, iv r.2.next], eRow r_api_Loop 48 (.slice x.2.2.1 r.2.loops.length x.2.2.2.1) r.2.loops, eRow (rI .i64) 3 (.slice x.2.2.2.2.1 r.2.rows.length x.2.2.2.2.2.1) r.2.rows, eRow (rI .i64) 3 (.slice x.2.2.2.2.2.2.1 r.2.bound.length x.2.2.2.2.2.2.2.1) r.2.bound, eRow r_A2_Int 49 (.slice x.2.2.2.2.2.2.2.2.1 r.2.cross.length x.2.2.2.2.2.2.2.2.2) r.2.cross]) (fun _ => [])) := by
 unfold F_loops_piece_take_s3 at h
 refine sEnter (args := [.pointer (some ⟨bb0, 0, none⟩), iv p1]) 33 Try.func57 rfl rfl (by simp) S (fun a S => ?_)
 refine sSeq (fun K1 aJ => sRegion (sN S fun a S => ?_))
 refine lT (aJ _ _ (sSeq (fun K2 aK => sRegion (sM S fun a S => ?_))))
 obtain ⟨m5, aL, h⟩ := bS h
 refine sMake (r := (rI .i64)) (m := p1) (xs := m5) (iv 0) (0 : Int) 8 S (wN rfl) rfl Try.underlying32 rfl rfl (by decide) (fun _ _ => rfl) rfl rfl aL rfl (lb rfl) fun a w ai aj S => ?_
 refine sN S fun a S => ?_
 refine lT (aK _ _ ?_)
 obtain ⟨aM, h, aO⟩ := bS h
 refine sCut (fun a w => ∃ o7, o7 = aM ∧ ∃ ao, ∃ ap, ∃ a0, ∃ a4, ∃ a5, ∃ a6, ∃ a7, ∃ a8, St [] E (keysL [eBox bb0 73 [.slice ad_0_0 p0.loops.length cp_0_0, .slice ad_0_1 p0.rows.length cp_0_1, .slice ad_0_2 p0.bound.length cp_0_2, .slice ad_0_3 p0.cross.length cp_0_3, iv p0.next], eRow r_api_Loop 48 (.slice ad_0_0 p0.loops.length cp_0_0) p0.loops, eRow (rI .i64) 3 (.slice ad_0_1 p0.rows.length cp_0_1) p0.rows, eRow (rI .i64) 3 (.slice ad_0_2 p0.bound.length cp_0_2) p0.bound, eRow r_A2_Int 49 (.slice ad_0_3 p0.cross.length cp_0_3) p0.cross]) w0 33 a w [(0, .pointer (some ⟨bb0, 0, none⟩)), (1, iv p1), (5, .slice ai o7.length aj)] [eBox bb0 73 [.slice ao p0.loops.length ap, .slice a0 p0.rows.length a4, .slice a5 p0.bound.length a6, .slice a7 p0.cross.length a8, iv p0.next], eRow (rI .i64) 3 (.slice ai o7.length aj) o7, eRow r_api_Loop 48 (.slice ao p0.loops.length ap) p0.loops, eRow (rI .i64) 3 (.slice a0 p0.rows.length a4) p0.rows, eRow (rI .i64) 3 (.slice a5 p0.bound.length a6) p0.bound, eRow r_A2_Int 49 (.slice a7 p0.cross.length a8) p0.cross] []) ?_ (fun a w hI => ?_)
 rotate_left
 ·obtain ⟨o7, rfl, ao, ap, a0, a4, a5, a6, a7, a8, S⟩ := hI
  have h := aO
  try dsimp only at h
  refine sSeq (fun aR ar => sRegion (sM S fun a S => ?_))
  refine nilCheck_ok (q := ⟨bb0, 0, none⟩) S (wN rfl) rfl rfl rfl (lb rfl) fun a S => ?_
  refine sField (b := bb0) (off := 0) 4 4 S (wN rfl) rfl rfl rfl rfl rfl (lb rfl) fun a S => ?_
  refine sLoad1 0 (iv p0.next) S (wN rfl) rfl rfl rfl rfl rfl rfl (lb rfl) fun a S => ?_
  refine sM S fun a S => ?_
  refine sBin _ S (wN rfl) rfl rfl rfl (bAdd _ _ _ _ p0.next p1) rfl (lb rfl) fun a S => ?_
  refine nilCheck_ok (q := ⟨bb0, 0, none⟩) S (wN rfl) rfl rfl rfl (lb rfl) fun a S => ?_
  refine sField (b := bb0) (off := 0) 4 4 S (wN rfl) rfl rfl rfl rfl rfl (lb rfl) fun a S => ?_
  refine sStore (p := bb0) (off := 4) (T := 73) (vs := [.slice ao p0.loops.length ap, .slice a0 p0.rows.length a4, .slice a5 p0.bound.length a6, .slice a7 p0.cross.length a8, iv p0.next]) (v := iv (w64 (p0.next + p1))) 0 [iv (w64 (p0.next + p1))] S (wN rfl) rfl rfl rfl rfl rfl rfl rfl (by simp) rfl fun a w S => ?_
  refine lT (ar _ _ (sSeq (fun aS au => sRegion (sM S fun a S => ?_))))
  refine sN S fun a S => ?_
  refine lT (au _ _ ?_)
  obtain rfl := tS h
  exact wp_ret (sRet (.slice ai o7.length aj) S (rsl1 rfl (rvT (t := 4) (v := .slice ai o7.length aj) S rfl)) ⟨(ai, aj, ao, ap, a0, a4, a5, a6, a7, a8), rfl, S.mem.sel [1, 0, 2, 3, 4, 5] [] (by decide) rfl rfl⟩)
 refine sSeq (fun aT av => sRegion (sM S fun a S => ?_))
 refine sLen S (wN rfl) rfl Try.underlying32 rfl rfl (lb rfl) fun a S => ?_
 refine sM S fun a S => ?_
 refine lT (av _ _ (wp_block ?_))
 obtain ⟨aU, hl, aP⟩ := bS h
 refine sLoop hl (fun s0 a w => match s0 with | (al, ak) => ∃ a9, ∃ aa, ∃ ab, ∃ ac, ∃ ae, ∃ af, ∃ ag, ∃ ah, St [] E (keysL [eBox bb0 73 [.slice ad_0_0 p0.loops.length cp_0_0, .slice ad_0_1 p0.rows.length cp_0_1, .slice ad_0_2 p0.bound.length cp_0_2, .slice ad_0_3 p0.cross.length cp_0_3, iv p0.next], eRow r_api_Loop 48 (.slice ad_0_0 p0.loops.length cp_0_0) p0.loops, eRow (rI .i64) 3 (.slice ad_0_1 p0.rows.length cp_0_1) p0.rows, eRow (rI .i64) 3 (.slice ad_0_2 p0.bound.length cp_0_2) p0.bound, eRow r_A2_Int 49 (.slice ad_0_3 p0.cross.length cp_0_3) p0.cross]) w0 33 a w [(0, .pointer (some ⟨bb0, 0, none⟩)), (1, iv p1), (5, .slice ai al.length aj), (10, iv (m5.length : Int)), (11, iv ak)] [eBox bb0 73 [.slice a9 p0.loops.length aa, .slice ab p0.rows.length ac, .slice ae p0.bound.length af, .slice ag p0.cross.length ah, iv p0.next], eRow (rI .i64) 3 (.slice ai al.length aj) al, eRow r_api_Loop 48 (.slice a9 p0.loops.length aa) p0.loops, eRow (rI .i64) 3 (.slice ab p0.rows.length ac) p0.rows, eRow (rI .i64) 3 (.slice ae p0.bound.length af) p0.bound, eRow r_A2_Int 49 (.slice ag p0.cross.length ah) p0.cross] []) ⟨ad_0_0, cp_0_0, ad_0_1, cp_0_1, ad_0_2, cp_0_2, ad_0_3, cp_0_3, S.fix [1, 0, 2, 3, 4, 5] [] (by decide) rfl rfl rfl⟩ ?_
 clear hl h
 intro s0 a w c0 hI h aw
 obtain ⟨al, ak⟩ := s0
 unfold loops_piece_take_s3_l1 at h
 dsimp only at h hI
 obtain ⟨a9, aa, ab, ac, ae, af, ag, ah, S⟩ := hI
 refine sSeq (fun aV ax => sRegion (sBin _ S (wN rfl) rfl rfl rfl (bLt _ _ _ _ .i64 ak (m5.length : Int)) rfl (lb rfl) fun a S => ?_))
 refine lT (ax _ _ (sSeq (fun aW ay => ?_)))
 rcases iS h with ⟨am, h⟩ | ⟨am, h⟩
 rotate_left
 ·refine sCondF S rfl am ?_
  obtain rfl := tS h
  obtain rfl := aw _ rfl
  have h := aP
  try dsimp only at h
  exact wp_exit (xThen (xThen (xHit (leafT (⟨al, Option.some.inj h, a9, aa, ab, ac, ae, af, ag, ah, S.fix [0, 1, 2, 3, 4, 5] [] (by decide) rfl rfl rfl⟩)))))
 refine sCondT S rfl am ?_
 refine wp_skip (leafT (ay _ _ ?_))
 refine sSeq (fun aX az => wp_block ?_)
 refine sSeq (fun aZ aA => sRegion (sM S fun a S => ?_))
 refine sN S fun a S => ?_
 refine lT (aA _ _ (sRegion (sM S fun a S => ?_)))
 refine sM S fun a S => ?_
 refine sM S fun a S => ?_
 refine nilCheck_ok (q := ⟨bb0, 0, none⟩) S (wN rfl) rfl rfl rfl (lb rfl) fun a S => ?_
 refine sField (b := bb0) (off := 0) 4 4 S (wN rfl) rfl rfl rfl rfl rfl (lb rfl) fun a S => ?_
 refine sLoad1 0 (iv p0.next) S (wN rfl) rfl rfl rfl rfl rfl rfl (lb rfl) fun a S => ?_
 refine sM S fun a S => ?_
 refine sBin _ S (wN rfl) rfl rfl rfl (bAdd _ _ _ _ p0.next ak) rfl (lb rfl) fun a S => ?_
 obtain ⟨ba, aC, h⟩ := bS h
 obtain ⟨aQ, aG, aH⟩ := pIdxR (P := Try.prog) (r := (rI .i64)) (T := 3) (v := .slice ai al.length aj) (xs := al) (j := ak) 32 3 1 S Try.underlying32 rfl rfl aC
 refine sIdxV S (wN rfl) rfl rfl rfl aG rfl (lb rfl) fun a S => ?_
 obtain ⟨aI, aq, h⟩ := bS h
 refine sStoreR (r := (rI .i64)) (T := 3) (xs := al) (ys := aI) (y := (w64 (p0.next + ak))) (v := .slice ai al.length aj) (vq := aQ) (u := iv (w64 (p0.next + ak))) (j := ak) 1 S aH (wN rfl) rfl rfl rfl rfl rfl aq rfl rfl fun a w S => ?_
 rw [setO_v aq ai aj] at S
 refine leafL (leafB (leafT (az _ _ ?_)))
 refine sRegion (sBin _ S (wN rfl) rfl rfl rfl (bAdd _ _ _ _ ak 1) rfl (lb rfl) fun a S => ?_)
 refine sM S fun a S => ?_
 exact lT (⟨(aI, w64 (ak + 1)), (Option.some.inj h).symm, ⟨a9, aa, ab, ac, ae, af, ag, ah, S.fix [1, 0, 2, 3, 4, 5] [] (by decide) rfl rfl rfl⟩⟩)
def anc_loops_piece_add_s1_0 : List (List Nat) := [[], [], [1], [1, 2], [1, 2, 3], [], [5], [1, 2, 3, 4, 5, 6], [0, 1, 2, 3, 4, 5, 6, 7], [0, 1, 2, 3, 4, 5, 6, 7, 8], [0, 1, 2, 3, 4, 5, 6, 7, 8, 9]]
noncomputable def loops_piece_add_s1_l1 (p2 : (List (List Int))) (p1 : api_Loop) : (Int × List api_Loop × List Int) → Option ((Int × List api_Loop × List Int) ⊕ List api_Loop) := fun s0 => match s0 with
 | (a0, a4, a7) =>
  if decide (a0 < (p2.length : Int)) then
   (idxO p2 a0).bind fun a5 =>
   (appO a4 [(api_Loop.mk p1.Row p1.Cell a5 p1.Purl)]).bind fun a6 =>
   some (.inl (w64 (a0 + 1), a6, a5))
  else
   some (.inr a4)
noncomputable def F_loops_piece_add_s1 (p0 : loops_piece) (p1 : api_Loop) (p2 : (List (List Int))) : Option loops_piece :=
 (whileO (loops_piece_add_s1_l1 p2 p1) (0, p0.loops, p1.Parents)).bind fun a0 =>
  some (loops_piece.mk a0 p0.rows p0.bound p0.cross p0.next)
theorem c_loops_piece_add_s1 (E : Nat → Prop) (w0 : World) (p0 : loops_piece) (bb0 : Nat) (ad_0_0 : Option Addr) (cp_0_0 : Nat) (ad_0_1 : Option Addr) (cp_0_1 : Nat) (ad_0_2 : Option Addr) (cp_0_2 : Nat) (ad_0_3 : Option Addr) (cp_0_3 : Nat) (p1 : api_Loop) (v1 : Value) (p2 : (List (List Int))) (v2 : Value) (r : loops_piece) (h : F_loops_piece_add_s1 p0 p1 p2 = some r) (S : St0 E (keysL [eBox bb0 73 [.slice ad_0_0 p0.loops.length cp_0_0, .slice ad_0_1 p0.rows.length cp_0_1, .slice ad_0_2 p0.bound.length cp_0_2, .slice ad_0_3 p0.cross.length cp_0_3, iv p0.next], eRow r_api_Loop 48 (.slice ad_0_0 p0.loops.length cp_0_0) p0.loops, eRow (rI .i64) 3 (.slice ad_0_1 p0.rows.length cp_0_1) p0.rows, eRow (rI .i64) 3 (.slice ad_0_2 p0.bound.length cp_0_2) p0.bound, eRow r_A2_Int 49 (.slice ad_0_3 p0.cross.length cp_0_3) p0.cross]) w0 w0 [eBox bb0 73 [.slice ad_0_0 p0.loops.length cp_0_0, .slice ad_0_1 p0.rows.length cp_0_1, .slice ad_0_2 p0.bound.length cp_0_2, .slice ad_0_3 p0.cross.length cp_0_3, iv p0.next], eRow r_api_Loop 48 (.slice ad_0_0 p0.loops.length cp_0_0) p0.loops, eRow (rI .i64) 3 (.slice ad_0_1 p0.rows.length cp_0_1) p0.rows, eRow (rI .i64) 3 (.slice ad_0_2 p0.bound.length cp_0_2) p0.bound, eRow r_A2_Int 49 (.slice ad_0_3 p0.cross.length cp_0_3) p0.cross] [fRep r_api_Loop (v1) p1, fRep (rL (rL (rI .i64))) (v2) p2]) :
 Calls Try.prog 58 #[.pointer (some ⟨bb0, 0, none⟩), v1, v2] w0 (Ret (X := Option Addr × Nat × Option Addr × Nat × Option Addr × Nat × Option Addr × Nat) E (keysL [eBox bb0 73 [.slice ad_0_0 p0.loops.length cp_0_0, .slice ad_0_1 p0.rows.length cp_0_1, .slice ad_0_2 p0.bound.length cp_0_2, .slice ad_0_3 p0.cross.length cp_0_3, iv p0.next], eRow r_api_Loop 48 (.slice ad_0_0 p0.loops.length cp_0_0) p0.loops, eRow (rI .i64) 3 (.slice ad_0_1 p0.rows.length cp_0_1) p0.rows, eRow (rI .i64) 3 (.slice ad_0_2 p0.bound.length cp_0_2) p0.bound, eRow r_A2_Int 49 (.slice ad_0_3 p0.cross.length cp_0_3) p0.cross]) w0 (fun _ => .tuple #[]) (fun x => [eBox bb0 73 [.slice x.1 r.loops.length x.2.1, .slice x.2.2.1 r.rows.length x.2.2.2.1, .slice x.2.2.2.2.1 r.bound.length x.2.2.2.2.2.1, .slice x.2.2.2.2.2.2.1 r.cross.length x.2.2.2.2.2.2.2, iv r.next], eRow r_api_Loop 48 (.slice x.1 r.loops.length x.2.1) r.loops, eRow (rI .i64) 3 (.slice x.2.2.1 r.rows.length x.2.2.2.1) r.rows, eRow (rI .i64) 3 (.slice x.2.2.2.2.1 r.bound.length x.2.2.2.2.2.1) r.bound, eRow r_A2_Int 49 (.slice x.2.2.2.2.2.2.1 r.cross.length x.2.2.2.2.2.2.2) r.cross]) (fun _ => [])) := by
 unfold F_loops_piece_add_s1 at h
 obtain ⟨u1, rfl, aK⟩ := S.know (i := 0) (e := fRep r_api_Loop (v1) p1) rfl
 have S := S.learn (fRep (rL (rI .i64)) u1 p1.Parents) aK
 obtain ⟨av, aw, _, rfl, _⟩ := aK
 obtain ⟨ap, aq, _, rfl, _⟩ := S.know (i := 2) (e := fRep (rL (rL (rI .i64))) (v2) p2) rfl
 refine sEnter (args := [.pointer (some ⟨bb0, 0, none⟩), .agg #[iv p1.Row, iv p1.Cell, .slice av p1.Parents.length aw, .bool p1.Purl], .slice ap p2.length aq]) 27 Try.func58 rfl rfl (by simp) S (fun a S => ?_)
 refine sSeq (fun K7 aM => sRegion (sBox (v := .agg #[iv p1.Row, iv p1.Cell, .slice av p1.Parents.length aw, .bool p1.Purl]) S (wN rfl) rfl rfl [iv p1.Row, iv p1.Cell, .slice av p1.Parents.length aw, .bool p1.Purl] rfl rfl (lb rfl) fun a b8 w S => ?_))
 refine lT (aM _ _ (sSeq (fun K9 aO => sRegion (sM S fun a S => ?_))))
 refine sLen S (wN rfl) rfl Try.underlying69 rfl rfl (lb rfl) fun a S => ?_
 refine sM S fun a S => ?_
 refine lT (aO _ _ (wp_block ?_))
 obtain ⟨aR, hl, aP⟩ := bS h
 refine sLoop hl (fun s0 a w => match s0 with | (ak, af, ar) => ∃ a6, ∃ a7, ∃ a8, ∃ a9, ∃ aa, ∃ ab, ∃ ac, ∃ ae, ∃ ai, ∃ aj, St [] E (keysL [eBox bb0 73 [.slice ad_0_0 p0.loops.length cp_0_0, .slice ad_0_1 p0.rows.length cp_0_1, .slice ad_0_2 p0.bound.length cp_0_2, .slice ad_0_3 p0.cross.length cp_0_3, iv p0.next], eRow r_api_Loop 48 (.slice ad_0_0 p0.loops.length cp_0_0) p0.loops, eRow (rI .i64) 3 (.slice ad_0_1 p0.rows.length cp_0_1) p0.rows, eRow (rI .i64) 3 (.slice ad_0_2 p0.bound.length cp_0_2) p0.bound, eRow r_A2_Int 49 (.slice ad_0_3 p0.cross.length cp_0_3) p0.cross]) w0 27 a w [(0, .pointer (some ⟨bb0, 0, none⟩)), (4, .pointer (some ⟨b8, 0, none⟩)), (8, .slice ap p2.length aq), (9, iv (p2.length : Int)), (10, iv ak)] [eBox bb0 73 [.slice a6 af.length a7, .slice a8 p0.rows.length a9, .slice aa p0.bound.length ab, .slice ac p0.cross.length ae, iv p0.next], eBox b8 48 [iv p1.Row, iv p1.Cell, .slice ai ar.length aj, .bool p1.Purl], eRow r_api_Loop 48 (.slice a6 af.length a7) af, eRow (rI .i64) 3 (.slice a8 p0.rows.length a9) p0.rows, eRow (rI .i64) 3 (.slice aa p0.bound.length ab) p0.bound, eRow r_A2_Int 49 (.slice ac p0.cross.length ae) p0.cross] [fRep (rL (rL (rI .i64))) (.slice ap p2.length aq) p2, fRep (rL (rI .i64)) (.slice ai ar.length aj) ar]) ⟨ad_0_0, cp_0_0, ad_0_1, cp_0_1, ad_0_2, cp_0_2, ad_0_3, cp_0_3, av, aw, S.fix [1, 0, 2, 3, 4, 5] [2, 0] (by decide) rfl rfl rfl⟩ ?_
 clear hl h
 intro s0 a w c0 hI h ax
 obtain ⟨ak, af, ar⟩ := s0
 unfold loops_piece_add_s1_l1 at h
 dsimp only at h hI
 obtain ⟨a6, a7, a8, a9, aa, ab, ac, ae, ai, aj, S⟩ := hI
 refine sSeq (fun aS ay => sRegion (sBin _ S (wN rfl) rfl rfl rfl (bLt _ _ _ _ .i64 ak (p2.length : Int)) rfl (lb rfl) fun a S => ?_))
 refine lT (ay _ _ (sSeq (fun aT az => ?_)))
 rcases iS h with ⟨al, h⟩ | ⟨al, h⟩
 rotate_left
 ·refine sCondF S rfl al ?_
  obtain rfl := tS h
  obtain rfl := ax _ rfl
  have h := aP
  try dsimp only at h
  obtain rfl := tS h
  exact wp_exit (xThen (xThen (xHit (sEnd (.tuple #[]) S (rsl0 rfl ) ⟨(a6, a7, a8, a9, aa, ab, ac, ae), rfl, S.mem.sel [0, 2, 3, 4, 5] [] (by decide) rfl rfl⟩))))
 refine sCondT S rfl al ?_
 refine wp_skip (leafT (az _ _ ?_))
 refine sSeq (fun aU aA => wp_block ?_)
 refine sSeq (fun aV aC => sRegion ?_)
 obtain ⟨a5, aG, h⟩ := bS h
 obtain ⟨aL, aH, S⟩ := pIdx (P := Try.prog) (r := (rL (rI .i64))) (v := .slice ap p2.length aq) (xs := p2) (j := ak) 69 32 0 S Try.underlying69 rfl rfl aG
 refine sIdxV S (wN rfl) rfl rfl rfl aH rfl (lb rfl) fun a S => ?_
 obtain ⟨aQ, S⟩ := pLoad (r := (rL (rI .i64))) (q := aL) (x := a5) 0 S rfl
 obtain ⟨a0, a4, _, rfl, _⟩ := S.mem.know (i := 1) (e := fRep (rL (rI .i64)) (aQ) a5) rfl
 refine sLoadV1 (vq := aL) 0 (.slice a0 a5.length a4) S (wN rfl) rfl rfl rfl rfl rfl (lb rfl) fun a S => ?_
 refine sN S fun a S => ?_
 refine lT (aC _ _ (sSeq (fun aW aI => sRegion (sM S fun a S => ?_))))
 refine sField (b := b8) (off := 0) 2 2 S (wN rfl) rfl rfl rfl rfl rfl (lb rfl) fun a S => ?_
 refine sStore (p := b8) (off := 2) (T := 48) (vs := [iv p1.Row, iv p1.Cell, .slice ai ar.length aj, .bool p1.Purl]) (v := .slice a0 a5.length a4) 1 [.slice a0 a5.length a4] S (wN rfl) rfl rfl rfl rfl rfl rfl rfl (by simp) rfl fun a w S => ?_
 refine lT (aI _ _ ?_)
 obtain ⟨au, aJ, h⟩ := bS h
 refine sDraw (nf := [6, 7, 10]) (W := [(0, 16, .pointer (some ⟨bb0, 0, none⟩)), (1, 17, .pointer (some ⟨bb0, 0, none⟩)), (2, 18, .pointer (some ⟨bb0, 0, none⟩)), (3, 19, .pointer (some ⟨bb0, 0, none⟩)), (4, 20, .slice a6 af.length a7), (5, 21, .agg #[iv p1.Row, iv p1.Cell, .slice a0 a5.length a4, .bool p1.Purl])]) rfl S ?_
 refine node_by (A := anc_loops_piece_add_s1_0) 11 (by kernel_rfl) (by kernel_rfl) (by kernel_rfl) (by kernel_rfl) (by kernel_rfl) [0, 1, 2, 3, 4, 5] (by kernel_rfl) (by decide) (by decide) (fF ?_ (fF ?_ (fF ?_ (fF ?_ (fF ?_ (fF ?_ (fN ?_ (aB 7 3 6 (by decide) (fE 6 (fE 6 (aB 10 0 6 (by decide) (trivial)))))))))))) [] (fun q hq => by cases hq) (fun hY => absurd (hY 6 (by decide)) (by decide))
 ·exact fM 0 none rfl rfl rfl rfl (.inl rfl) rfl rfl rfl
 ·exact fM 1 none rfl rfl rfl rfl (.inl rfl) rfl rfl rfl
 ·refine fJ [(17, _)] 2 [some 1] fun G a w S => ?_
  exact nilCheck_ok (q := ⟨bb0, 0, none⟩) S (wN rfl) rfl rfl rfl (lb rfl) fun a S => leafL ⟨rfl, S⟩
 ·refine fJ [(18, _)] 3 [some 2] fun G a w S => ?_
  exact sField (b := bb0) (off := 0) 0 0 S (wN rfl) rfl rfl rfl rfl rfl (lb rfl) fun a S => leafL ⟨rfl, S⟩
 ·refine fJ [(19, _)] 4 [some 3] fun G a w S => ?_
  exact sLoad1 1 (.slice a6 af.length a7) S (wN rfl) rfl rfl rfl rfl rfl rfl (lb rfl) fun a S => leafL ⟨rfl, S⟩
 ·refine fJ [(4, _)] 5 [none] fun G a w S => ?_
  exact sLoadN (p := b8) (off := 0) (T := 48) (vs := [iv p1.Row, iv p1.Cell, .slice a0 a5.length a4, .bool p1.Purl]) 0 [iv p1.Row, iv p1.Cell, .slice a0 a5.length a4, .bool p1.Purl] S (wN rfl) rfl rfl rfl rfl rfl rfl rfl (lb rfl) fun a S => leafL ⟨rfl, S⟩
 refine ⟨_, [(21, .agg #[iv p1.Row, iv p1.Cell, .slice a0 a5.length a4, .bool p1.Purl])], rfl, (srcs_of [some 5] rfl rfl rfl), fun G a w S => ?_⟩
 have S := S.learn (fRep r_api_Loop (.agg #[iv p1.Row, iv p1.Cell, .slice a0 a5.length a4, .bool p1.Purl]) (api_Loop.mk p1.Row p1.Cell a5 p1.Purl)) ⟨_, rfl, S.mem.know (i := 1) (e := fRep (rL (rI .i64)) (.slice a0 a5.length a4) a5) rfl⟩
 refine sLit (r := r_api_Loop) (T := 48) (xs := [(api_Loop.mk p1.Row p1.Cell a5 p1.Purl)]) [(0, .agg #[iv p1.Row, iv p1.Cell, .slice a0 a5.length a4, .bool p1.Purl])] 1 [.agg #[iv p1.Row, iv p1.Cell, .slice a0 a5.length a4, .bool p1.Purl]] [iv p1.Row, iv p1.Cell, .slice a0 a5.length a4, .bool p1.Purl] (.agg #[iv 0, iv 0, .slice none 0 0, .bool false]) 48 S (wN rfl) rfl rfl Try.underlying26 rfl (by decide) (by decide) (by kernel_rfl) rfl (fun E1 w1 hE => All.cons (r_api_Loop.mono hE (S.mem.know (i := 0) (e := fRep r_api_Loop (.agg #[iv p1.Row, iv p1.Cell, .slice a0 a5.length a4, .bool p1.Purl]) (api_Loop.mk p1.Row p1.Cell a5 p1.Purl)) rfl)) (All.nil _ _ _)) rfl rfl (lb rfl) fun a w am ao S => ?_
 refine leafL ⟨rfl, _, _, .inl ⟨22, (.slice am [(api_Loop.mk p1.Row p1.Cell a5 p1.Purl)].length ao), [], rfl, S, hz_of rfl, ?_⟩⟩
 refine node_by (A := anc_loops_piece_add_s1_0) 11 (by kernel_rfl) (by kernel_rfl) (by kernel_rfl) (by kernel_rfl) (by kernel_rfl) [6, 0, 1, 2, 3, 4, 5] (by kernel_rfl) (by decide) (by decide) (fF ?_ (fF ?_ (fF ?_ (fF ?_ (fF ?_ (fD 6 (fY (fN ?_ (fE 7 (fE 7 (aB 10 0 7 (by decide) (trivial)))))))))))) [] (fun q hq => by cases hq) (fun hY => absurd (hY 7 (by decide)) (by decide))
 ·exact fM 1 none rfl rfl rfl rfl (.inl rfl) rfl rfl rfl
 ·exact fM 2 none rfl rfl rfl rfl (.inl rfl) rfl rfl rfl
 ·refine fJ [(17, _)] 3 [some 2] fun G a w S => ?_
  exact nilCheck_ok (q := ⟨bb0, 0, none⟩) S (wN rfl) rfl rfl rfl (lb rfl) fun a S => leafL ⟨rfl, S⟩
 ·refine fJ [(18, _)] 4 [some 3] fun G a w S => ?_
  exact sField (b := bb0) (off := 0) 0 0 S (wN rfl) rfl rfl rfl rfl rfl (lb rfl) fun a S => leafL ⟨rfl, S⟩
 ·refine fJ [(19, _)] 5 [some 4] fun G a w S => ?_
  exact sLoad1 2 (.slice a6 af.length a7) S (wN rfl) rfl rfl rfl rfl rfl rfl (lb rfl) fun a S => leafL ⟨rfl, S⟩
 refine ⟨_, [(20, .slice a6 af.length a7), (22, .slice am [(api_Loop.mk p1.Row p1.Cell a5 p1.Purl)].length ao)], rfl, (srcs_of [some 5, some 0] rfl rfl rfl), fun G a w S => ?_⟩
 refine sApp (r := r_api_Loop) (T := 48) (xs := af) (ys := [(api_Loop.mk p1.Row p1.Cell a5 p1.Purl)]) (v := .slice a6 af.length a7) (u := .slice am [(api_Loop.mk p1.Row p1.Cell a5 p1.Purl)].length ao) 3 (.agg #[iv 0, iv 0, .slice none 0 0, .bool false]) 48 S (wN rfl) rfl Try.underlying26 rfl rfl (by decide) rfl rfl rfl (src_R (T := 48) 0 S.mem rfl) aJ rfl (lb rfl) fun a w ag ah S => ?_
 refine leafL ⟨rfl, _, _, .inl ⟨23, (.slice ag au.length ah), [(8, 24, .pointer (some ⟨bb0, 0, none⟩)), (9, 25, .pointer (some ⟨bb0, 0, none⟩))], rfl, S, hz_of rfl, ?_⟩⟩
 refine node_by (A := anc_loops_piece_add_s1_0) 11 (by kernel_rfl) (by kernel_rfl) (by kernel_rfl) (by kernel_rfl) (by kernel_rfl) [8, 9, 7, 6, 0, 1, 2, 3, 4, 5] (by kernel_rfl) (by decide) (by decide) (fF ?_ (fD 7 (fD 7 (fD 7 (fD 7 (fD 7 (fY (fY (fF ?_ (fF ?_ (fN ?_ (trivial)))))))))))) [] (fun q hq => by cases hq) (fun hY => absurd (hY 10 (by decide)) (by decide))
 ·exact fM 4 none rfl rfl rfl rfl (.inl rfl) rfl rfl rfl
 ·refine fJ [(16, _)] 0 [some 4] fun G a w S => ?_
  exact nilCheck_ok (q := ⟨bb0, 0, none⟩) S (wN rfl) rfl rfl rfl (lb rfl) fun a S => leafL ⟨rfl, S⟩
 ·refine fJ [(24, _)] 1 [some 0] fun G a w S => ?_
  exact sField (b := bb0) (off := 0) 0 0 S (wN rfl) rfl rfl rfl rfl rfl (lb rfl) fun a S => leafL ⟨rfl, S⟩
 refine ⟨_, [(23, .slice ag au.length ah), (25, .pointer (some ⟨bb0, 0, none⟩))], rfl, (srcs_of [some 2, some 1] rfl rfl rfl), fun G a w S => ?_⟩
 refine sStore (p := bb0) (off := 0) (T := 73) (vs := [.slice a6 af.length a7, .slice a8 p0.rows.length a9, .slice aa p0.bound.length ab, .slice ac p0.cross.length ae, iv p0.next]) (v := .slice ag au.length ah) 3 [.slice ag au.length ah] S (wN rfl) rfl rfl rfl rfl rfl rfl rfl (by simp) rfl fun a w S => ?_
 refine leafL ⟨rfl, _, _, .inr ⟨[], rfl, S, hz_of rfl, ?_⟩⟩
 refine node_by (A := anc_loops_piece_add_s1_0) 11 (by kernel_rfl) (by kernel_rfl) (by kernel_rfl) (by kernel_rfl) (by kernel_rfl) [8, 9, 7, 6, 0, 1, 2, 3, 4, 5] (by kernel_rfl) (by decide) (by decide) (fD 10 (fD 10 (fD 10 (fD 10 (fD 10 (fD 10 (fY (fY (fD 10 (fD 10 (fY (trivial)))))))))))) [(0, .pointer (some ⟨bb0, 0, none⟩)), (4, .pointer (some ⟨b8, 0, none⟩)), (8, .slice ap p2.length aq), (9, iv (p2.length : Int)), (10, iv ak)] (fin_of [none, none, none, none, none] rfl (by kernel_rfl) (by kernel_rfl)) (fun _ a w S => ?_)
 refine leafB (leafT (aA _ _ ?_))
 refine sRegion (sBin _ S (wN rfl) rfl rfl rfl (bAdd _ _ _ _ ak 1) rfl (lb rfl) fun a S => ?_)
 refine sM S fun a S => ?_
 exact lT (⟨(w64 (ak + 1), au, a5), (Option.some.inj h).symm, ⟨ag, ah, a8, a9, aa, ab, ac, ae, a0, a4, S.fix [0, 3, 1, 4, 5, 6] [4, 2] (by decide) rfl rfl rfl⟩⟩)
def anc_slices_Reverse___int_int__s0_0 : List (List Nat) := [[], [], [], [], [], [], [4, 5], [4, 5, 6], [], [], [8, 9], [8, 9, 10], [0, 1, 4, 5, 6, 7, 8, 9, 10, 11], [0, 1, 4, 5, 6, 7, 8, 9, 10, 11, 12], [0, 1, 2, 3, 4, 5, 6, 7, 8, 9, 10, 11, 12, 13], [0, 1, 2, 3, 4, 5, 6, 7, 8, 9, 10, 11, 12, 13, 14]]
noncomputable def slices_Reverse___int_int__s0_l1  : (List Int × Int × Int) → Option ((List Int × Int × Int) ⊕ List Int) := fun s0 => match s0 with
 | (s2, s3, s4) =>
  if decide (s3 < s4) then
   (idxO s2 s4).bind fun a4 =>
   (idxO s2 s3).bind fun a5 =>
   (setO s2 s3 a4).bind fun a0 =>
   (idxO a0 s4).bind fun a7 =>
   (setO a0 s4 a5).bind fun a6 =>
   some (.inl (a6, w64 (s3 + 1), w64 (s4 - 1)))
  else
   some (.inr s2)
noncomputable def F_slices_Reverse___int_int__s0 (p0 : (List Int)) : Option (List Int) :=
 (whileO (slices_Reverse___int_int__s0_l1) (p0, 0, w64 ((p0.length : Int) - 1))).bind fun e8 =>
  (keepO p0 e8).bind fun _ =>
  some e8
theorem c_slices_Reverse___int_int__s0 (E : Nat → Prop) (w0 : World) (p0 : (List Int)) (ad_0 : Option Addr) (cp_0 : Nat) (r : (List Int)) (h : F_slices_Reverse___int_int__s0 p0 = some r) (S : St0 E (keysL [eRow (rI .i64) 3 (.slice ad_0 p0.length cp_0) p0]) w0 w0 [eRow (rI .i64) 3 (.slice ad_0 p0.length cp_0) p0] []) :
 Calls Try.prog 59 #[.slice ad_0 p0.length cp_0] w0 (Ret (X := Unit) E (keysL [eRow (rI .i64) 3 (.slice ad_0 p0.length cp_0) p0]) w0 (fun _ => .tuple #[]) (fun _ => [eRow (rI .i64) 3 (.slice ad_0 p0.length cp_0) r]) (fun _ => [])) := by
 unfold F_slices_Reverse___int_int__s0 at h
 refine sEnter (args := [.slice ad_0 p0.length cp_0]) 28 Try.func59 rfl rfl (by simp) S (fun a S => ?_)
 refine sSeq (fun K1 aw => sRegion (sM S fun a S => ?_))
 refine sLen S (wN rfl) rfl Try.underlying32 rfl rfl (lb rfl) fun a S => ?_
 refine sBin _ S (wN rfl) rfl rfl rfl (bSub _ _ _ _ (p0.length : Int) 1) rfl (lb rfl) fun a S => ?_
 refine sN S fun a S => ?_
 refine sN S fun a S => ?_
 refine lT (aw _ _ (wp_block ?_))
 obtain ⟨t7, hl, g6⟩ := bS h
 refine sLoop hl (fun s0 a w => match s0 with | (s2, s3, s4) => St [] E (keysL [eRow (rI .i64) 3 (.slice ad_0 p0.length cp_0) p0]) w0 28 a w [(0, .slice ad_0 s2.length cp_0), (2, iv s3), (3, iv s4)] [eRow (rI .i64) 3 (.slice ad_0 s2.length cp_0) s2] []) (S.fix [0] [] (by decide) rfl rfl rfl) ?_
 clear hl h
 intro s0 a w c0 hI h ax
 obtain ⟨s2, s3, s4⟩ := s0
 unfold slices_Reverse___int_int__s0_l1 at h
 dsimp only at h hI
 have S := hI
 refine sSeq (fun K9 ay => sSeq (fun az aa => sRegion (sM S fun a S => ?_)))
 refine sM S fun a S => ?_
 refine sBin _ S (wN rfl) rfl rfl rfl (bLt _ _ _ _ .i64 s3 s4) rfl (lb rfl) fun a S => ?_
 refine lT (aa _ _ ?_)
 rcases iS h with ⟨a0, h⟩ | ⟨a0, h⟩
 rotate_left
 ·refine sCondF S rfl a0 ?_
  obtain rfl := tS h
  obtain rfl := ax _ rfl
  have h := g6
  try dsimp only at h
  obtain ⟨_, ab, h⟩ := bS h
  rw [keepO_v ab ad_0 cp_0] at S
  obtain rfl := tS h
  exact wp_exit (xThen (xThen (xHit (sEnd (.tuple #[]) S (rsl0 rfl ) ⟨(), rfl, S.mem.sel [0] [] (by decide) rfl rfl⟩))))
 refine sCondT S rfl a0 ?_
 refine wp_skip (leafT (ay _ _ ?_))
 refine sSeq (fun aA ac => wp_block ?_)
 obtain ⟨a5, a7, h⟩ := bS h
 obtain ⟨a6, a4, h⟩ := bS h
 obtain ⟨ae, a8, h⟩ := bS h
 obtain ⟨aC, af, h⟩ := bS h
 obtain ⟨ar, a9, h⟩ := bS h
 obtain ⟨au, ag, ah⟩ := pIdxR (P := Try.prog) (r := (rI .i64)) (T := 3) (v := .slice ad_0 s2.length cp_0) (xs := s2) (j := s4) 32 3 0 S Try.underlying32 rfl rfl a7
 obtain ⟨av, ai, aj⟩ := pIdxR (P := Try.prog) (r := (rI .i64)) (T := 3) (v := .slice ad_0 s2.length cp_0) (xs := s2) (j := s3) 32 3 0 S Try.underlying32 rfl rfl a4
 obtain ⟨ak, al, am⟩ := pIdxR (P := Try.prog) (r := (rI .i64)) (T := 3) (v := .slice ad_0 s2.length cp_0) (xs := s2) (j := s3) 32 3 0 S Try.underlying32 rfl rfl a4
 refine sDraw (nf := [13, 15]) (W := [(0, 14, .slice ad_0 s2.length cp_0), (1, 15, iv s3), (2, 16, .slice ad_0 s2.length cp_0), (3, 17, iv s4), (4, 18, .slice ad_0 s2.length cp_0), (5, 19, iv s4), (6, 20, au), (7, 21, iv a5), (8, 22, .slice ad_0 s2.length cp_0), (9, 23, iv s3), (10, 24, av), (11, 25, iv a6), (12, 26, ak)]) rfl S ?_
 refine node_by (A := anc_slices_Reverse___int_int__s0_0) 16 (by kernel_rfl) (by kernel_rfl) (by kernel_rfl) (by kernel_rfl) (by kernel_rfl) [0, 1, 2, 3, 4, 5, 6, 7, 8, 9, 10, 11, 12] (by kernel_rfl) (by decide) (by decide) (fF ?_ (fF ?_ (fF ?_ (fF ?_ (fF ?_ (fF ?_ (fF ?_ (fF ?_ (fF ?_ (fF ?_ (fF ?_ (fF ?_ (fF ?_ (fN ?_ (fE 13 (aB 15 0 13 (by decide) (trivial))))))))))))))))) [] (fun q hq => by cases hq) (fun hY => absurd (hY 13 (by decide)) (by decide))
 ·exact fM 0 none rfl rfl rfl rfl (.inl rfl) rfl rfl rfl
 ·exact fM 1 none rfl rfl rfl rfl (.inl rfl) rfl rfl rfl
 ·exact fM 2 none rfl rfl rfl rfl (.inl rfl) rfl rfl rfl
 ·exact fM 3 none rfl rfl rfl rfl (.inl rfl) rfl rfl rfl
 ·exact fM 4 none rfl rfl rfl rfl (.inl rfl) rfl rfl rfl
 ·exact fM 5 none rfl rfl rfl rfl (.inl rfl) rfl rfl rfl
 ·refine fJ [(18, _), (19, _)] 6 [some 4, some 5] fun G a w S => ?_
  exact sIdxV S (wN rfl) rfl rfl rfl ag rfl (lb rfl) fun a S => leafL ⟨rfl, S⟩
 ·refine fJ [(20, _)] 7 [some 6] fun G a w S => ?_
  exact sLoadR (r := (rI .i64)) (T := 3) (xs := s2) (x := a5) (v := .slice ad_0 s2.length cp_0) (vq := au) (j := s4) 0 (iv a5) S ah (wN rfl) rfl rfl rfl a7 (fun _ _ _ h => h) (scal_I _) rfl rfl (lb rfl) fun a S => leafL ⟨rfl, S⟩
 ·exact fM 8 none rfl rfl rfl rfl (.inl rfl) rfl rfl rfl
 ·exact fM 9 none rfl rfl rfl rfl (.inl rfl) rfl rfl rfl
 ·refine fJ [(22, _), (23, _)] 10 [some 8, some 9] fun G a w S => ?_
  exact sIdxV S (wN rfl) rfl rfl rfl ai rfl (lb rfl) fun a S => leafL ⟨rfl, S⟩
 ·refine fJ [(24, _)] 11 [some 10] fun G a w S => ?_
  exact sLoadR (r := (rI .i64)) (T := 3) (xs := s2) (x := a6) (v := .slice ad_0 s2.length cp_0) (vq := av) (j := s3) 0 (iv a6) S aj (wN rfl) rfl rfl rfl a4 (fun _ _ _ h => h) (scal_I _) rfl rfl (lb rfl) fun a S => leafL ⟨rfl, S⟩
 ·refine fJ [(14, _), (15, _)] 12 [some 0, some 1] fun G a w S => ?_
  exact sIdxV S (wN rfl) rfl rfl rfl al rfl (lb rfl) fun a S => leafL ⟨rfl, S⟩
 refine ⟨_, [(21, iv a5), (26, ak)], rfl, (srcs_of [some 7, some 12] rfl rfl rfl), fun G a w S => ?_⟩
 refine sStoreR (r := (rI .i64)) (T := 3) (xs := s2) (ys := ae) (y := a5) (v := .slice ad_0 s2.length cp_0) (vq := ak) (u := iv a5) (j := s3) 0 S am (wN rfl) rfl rfl rfl rfl rfl a8 rfl rfl fun a w S => ?_
 obtain ⟨ao, ap, aq⟩ := pIdxR (P := Try.prog) (r := (rI .i64)) (T := 3) (v := .slice ad_0 s2.length cp_0) (xs := ae) (j := s4) 32 3 0 S Try.underlying32 rfl rfl af
 refine leafL ⟨rfl, _, _, .inr ⟨[(14, 27, ao)], rfl, S, hz_of rfl, ?_⟩⟩
 refine node_by (A := anc_slices_Reverse___int_int__s0_0) 16 (by kernel_rfl) (by kernel_rfl) (by kernel_rfl) (by kernel_rfl) (by kernel_rfl) [14, 0, 1, 2, 3, 4, 5, 6, 7, 8, 9, 10, 11, 12] (by kernel_rfl) (by decide) (by decide) (fD 13 (fD 13 (fF ?_ (fF ?_ (fD 13 (fD 13 (fD 13 (fD 13 (fD 13 (fD 13 (fD 13 (fD 13 (fD 13 (fY (fF ?_ (fN ?_ (trivial))))))))))))))))) [] (fun q hq => by cases hq) (fun hY => absurd (hY 15 (by decide)) (by decide))
 ·exact fM 3 none rfl rfl rfl rfl (.inl rfl) rfl rfl rfl
 ·exact fM 4 none rfl rfl rfl rfl (.inl rfl) rfl rfl rfl
 ·refine fJ [(16, _), (17, _)] 0 [some 3, some 4] fun G a w S => ?_
  exact sIdxV S (wN rfl) rfl rfl rfl ap rfl (lb rfl) fun a S => leafL ⟨rfl, S⟩
 refine ⟨_, [(25, iv a6), (27, ao)], rfl, (srcs_of [some 12, some 0] rfl rfl rfl), fun G a w S => ?_⟩
 refine sStoreR (r := (rI .i64)) (T := 3) (xs := ae) (ys := ar) (y := a6) (v := .slice ad_0 s2.length cp_0) (vq := ao) (u := iv a6) (j := s4) 0 S aq (wN rfl) rfl rfl rfl rfl rfl a9 rfl rfl fun a w S => ?_
 refine leafL ⟨rfl, _, _, .inr ⟨[], rfl, S, hz_of rfl, ?_⟩⟩
 refine node_by (A := anc_slices_Reverse___int_int__s0_0) 16 (by kernel_rfl) (by kernel_rfl) (by kernel_rfl) (by kernel_rfl) (by kernel_rfl) [14, 0, 1, 2, 3, 4, 5, 6, 7, 8, 9, 10, 11, 12] (by kernel_rfl) (by decide) (by decide) (fD 15 (fD 15 (fD 15 (fD 15 (fD 15 (fD 15 (fD 15 (fD 15 (fD 15 (fD 15 (fD 15 (fD 15 (fD 15 (fY (fD 15 (fY (trivial))))))))))))))))) [(0, .slice ad_0 s2.length cp_0), (2, iv s3), (3, iv s4)] (fin_of [none, none, none] rfl (by kernel_rfl) (by kernel_rfl)) (fun _ a w S => ?_)
 rw [setO_v a8 ad_0 cp_0] at S
 rw [setO_v a9 ad_0 cp_0] at S
 refine leafB (leafT (ac _ _ ?_))
 refine sRegion (sM S fun a S => ?_)
 refine sBin _ S (wN rfl) rfl rfl rfl (bAdd _ _ _ _ s3 1) rfl (lb rfl) fun a S => ?_
 refine sM S fun a S => ?_
 refine sBin _ S (wN rfl) rfl rfl rfl (bSub _ _ _ _ s4 1) rfl (lb rfl) fun a S => ?_
 refine sN S fun a S => ?_
 refine sN S fun a S => ?_
 exact lT (⟨(ar, w64 (s3 + 1), w64 (s4 - 1)), (Option.some.inj h).symm, (S.fix [0] [] (by decide) rfl rfl rfl)⟩)
noncomputable def F_slices_Clone___int_int__s0 (p0 : (List Int)) : Option (List Int) :=
 (appO ([] : List Int) p0).bind fun a0 =>
 some a0
theorem c_slices_Clone___int_int__s0 (E : Nat → Prop) (w0 : World) (p0 : (List Int)) (v0 : Value) (r : (List Int)) (h : F_slices_Clone___int_int__s0 p0 = some r) (S : St0 E [] w0 w0 [] [fRep (rL (rI .i64)) (v0) p0]) :
 Calls Try.prog 60 #[v0] w0 (Ret (X := Option Addr × Nat) E [] w0 (fun x => .slice x.1 r.length x.2) (fun x => [eRow (rI .i64) 3 (.slice x.1 r.length x.2) r]) (fun _ => [])) := by
 unfold F_slices_Clone___int_int__s0 at h
 obtain ⟨a5, a6, _, rfl, _⟩ := S.know (i := 0) (e := fRep (rL (rI .i64)) (v0) p0) rfl
 refine sEnter (args := [.slice a5 p0.length a6]) 8 Try.func60 rfl rfl (by simp) S (fun a S => ?_)
 refine sSeq (fun K3 ac => sRegion (sN S fun a S => ?_))
 refine lT (ac _ _ (sSeq (fun K4 ae => sSeq (fun K5 af => sRegion (sM S fun a S => ?_)))))
 refine sBin _ S (wN rfl) rfl rfl rfl (bEqNil _ _ _ _ Try.underlying32 a5 (p0.length) (a6)) rfl (lb rfl) fun a S => ?_
 refine lT (af _ _ ?_)
 rcases nil_cases a5 with a7 | a7
 ·have ag := rL_isNil (S.mem.know (i := 0) (e := fRep (rL (rI .i64)) (.slice a5 p0.length a6) p0) rfl) a7
  rw [ag] at h
  have h : some ([] : (List Int)) = some r := h
  refine sCondT S rfl a7 ?_
  refine sSeq (fun K8 ah => sRegion (sN S fun a S => ?_))
  refine lT (ah _ _ ?_)
  obtain rfl := tS h
  have S := S.nilRow (rI .i64) 3 (α := Int)
  exact wp_ret (rThen (sRet (.slice none 0 0) S (rsl1 rfl (rvT (t := 2) (v := .slice none 0 0) S rfl)) ⟨(none, 0), rfl, S.mem.sel [0] [] (by decide) rfl rfl⟩))
 refine sCondF S rfl a7 ?_
 refine wp_skip (leafT (ae _ _ ?_))
 refine sSeq (fun K9 ai => sRegion (sLit0 (α := Int) (rI .i64) (T := 3) S (wN rfl) rfl Try.underlying32 rfl rfl (lb rfl) fun a w a8 a9 S => ?_))
 refine sM S fun a S => ?_
 obtain ⟨ab, aa, h⟩ := bS h
 refine sApp (r := (rI .i64)) (T := 3) (xs := ([] : List Int)) (ys := p0) (v := .slice a8 ([] : List Int).length a9) (u := .slice a5 p0.length a6) 0 (iv 0) 8 S (wN rfl) rfl Try.underlying32 rfl rfl (by decide) rfl rfl rfl (src_D 0 S.mem rfl) aa rfl (lb rfl) fun a w a0 a4 S => ?_
 refine sN S fun a S => ?_
 refine lT (ai _ _ ?_)
 obtain rfl := tS h
 exact wp_ret (sRet (.slice a0 ab.length a4) S (rsl1 rfl (rvT (t := 2) (v := .slice a0 ab.length a4) S rfl)) ⟨(a0, a4), rfl, S.mem.sel [0] [] (by decide) rfl rfl⟩)
def anc_slices_Reverse___int_int__s1_0 : List (List Nat) := [[], [], [], [], [], [], [4, 5], [4, 5, 6], [], [], [8, 9], [8, 9, 10], [0, 1, 4, 5, 6, 7, 8, 9, 10, 11], [0, 1, 4, 5, 6, 7, 8, 9, 10, 11, 12], [0, 1, 2, 3, 4, 5, 6, 7, 8, 9, 10, 11, 12, 13], [0, 1, 2, 3, 4, 5, 6, 7, 8, 9, 10, 11, 12, 13, 14]]
noncomputable def slices_Reverse___int_int__s1_l1  : (Int × Int × Int × Int) → Option ((Int × Int × Int × Int) ⊕ (Int × Int)) := fun s0 => match s0 with
 | (s2, s3, s4, s5) =>
  if decide (s2 < s3) then
   (idxO ([s4, s5] : List Int) s3).bind fun a0 =>
   (idxO ([s4, s5] : List Int) s2).bind fun a4 =>
   (idxO ([(if s2 = 0 then a0 else s4), (if s2 = 1 then a0 else s5)] : List Int) s3).bind fun a5 =>
   some (.inl (w64 (s2 + 1), w64 (s3 - 1), (if s3 = 0 then a4 else (if s2 = 0 then a0 else s4)), (if s3 = 1 then a4 else (if s2 = 1 then a0 else s5))))
  else
   some (.inr (s4, s5))
noncomputable def F_slices_Reverse___int_int__s1 (p0 : (Int × Int)) : Option (Int × Int) :=
 (whileO (slices_Reverse___int_int__s1_l1) (0, w64 (((2 : Nat) : Int) - 1), p0.1, p0.2)).bind fun (e9, a0) =>
  some (e9, a0)
theorem c_slices_Reverse___int_int__s1 (E : Nat → Prop) (w0 : World) (p0 : (Int × Int)) (bb0 : Nat) (r : (Int × Int)) (h : F_slices_Reverse___int_int__s1 p0 = some r) (S : St0 E (keysL [eBox bb0 49 [iv p0.1, iv p0.2]]) w0 w0 [eBox bb0 49 [iv p0.1, iv p0.2]] []) :
 Calls Try.prog 59 #[.slice (some ⟨bb0, 0, none⟩) 2 2] w0 (Ret (X := Unit) E (keysL [eBox bb0 49 [iv p0.1, iv p0.2]]) w0 (fun _ => .tuple #[]) (fun _ => [eBox bb0 49 [iv r.1, iv r.2]]) (fun _ => [])) := by
 unfold F_slices_Reverse___int_int__s1 at h
 refine sEnter (args := [.slice (some ⟨bb0, 0, none⟩) 2 2]) 28 Try.func59 rfl rfl (by simp) S (fun a S => ?_)
 refine sSeq (fun K1 af => sRegion (sM S fun a S => ?_))
 refine sLen S (wN rfl) rfl Try.underlying32 rfl rfl (lb rfl) fun a S => ?_
 refine sBin _ S (wN rfl) rfl rfl rfl (bSub _ _ _ _ ((2 : Nat) : Int) 1) rfl (lb rfl) fun a S => ?_
 refine sN S fun a S => ?_
 refine sN S fun a S => ?_
 refine lT (af _ _ (wp_block ?_))
 obtain ⟨t8, hl, g7⟩ := bS h
 refine sLoop hl (fun s0 a w => match s0 with | (s2, s3, s4, s5) => St [] E (keysL [eBox bb0 49 [iv p0.1, iv p0.2]]) w0 28 a w [(0, .slice (some ⟨bb0, 0, none⟩) 2 2), (2, iv s2), (3, iv s3)] [eBox bb0 49 [iv s4, iv s5]] []) (S.fix [0] [] (by decide) rfl rfl rfl) ?_
 clear hl h
 intro s0 a w c0 hI h ag
 obtain ⟨s2, s3, s4, s5⟩ := s0
 unfold slices_Reverse___int_int__s1_l1 at h
 dsimp only at h hI
 have S := hI
 refine sSeq (fun ah a9 => sSeq (fun ai aa => sRegion (sM S fun a S => ?_)))
 refine sM S fun a S => ?_
 refine sBin _ S (wN rfl) rfl rfl rfl (bLt _ _ _ _ .i64 s2 s3) rfl (lb rfl) fun a S => ?_
 refine lT (aa _ _ ?_)
 rcases iS h with ⟨a7, h⟩ | ⟨a7, h⟩
 rotate_left
 ·refine sCondF S rfl a7 ?_
  obtain rfl := tS h
  obtain rfl := ag _ rfl
  have h := g7
  try dsimp only at h
  obtain rfl := tS h
  exact wp_exit (xThen (xThen (xHit (sEnd (.tuple #[]) S (rsl0 rfl ) ⟨(), rfl, S.mem.sel [0] [] (by decide) rfl rfl⟩))))
 refine sCondT S rfl a7 ?_
 refine wp_skip (leafT (a9 _ _ ?_))
 refine sSeq (fun aj ab => wp_block ?_)
 obtain ⟨a0, a8, h⟩ := bS h
 obtain ⟨a5, a4, h⟩ := bS h
 obtain ⟨ak, a6, h⟩ := bS h
 refine sDraw (nf := [13, 15]) (W := [(0, 14, .slice (some ⟨bb0, 0, none⟩) 2 2), (1, 15, iv s2), (2, 16, .slice (some ⟨bb0, 0, none⟩) 2 2), (3, 17, iv s3), (4, 18, .slice (some ⟨bb0, 0, none⟩) 2 2), (5, 19, iv s3), (6, 20, .pointer (some ⟨bb0, 0 + (s3).toNat * 1, none⟩)), (7, 21, iv a0), (8, 22, .slice (some ⟨bb0, 0, none⟩) 2 2), (9, 23, iv s2), (10, 24, .pointer (some ⟨bb0, 0 + (s2).toNat * 1, none⟩)), (11, 25, iv a5), (12, 26, .pointer (some ⟨bb0, 0 + (s2).toNat * 1, none⟩))]) rfl S ?_
 refine node_by (A := anc_slices_Reverse___int_int__s1_0) 16 (by kernel_rfl) (by kernel_rfl) (by kernel_rfl) (by kernel_rfl) (by kernel_rfl) [0, 1, 2, 3, 4, 5, 6, 7, 8, 9, 10, 11, 12] (by kernel_rfl) (by decide) (by decide) (fF ?_ (fF ?_ (fF ?_ (fF ?_ (fF ?_ (fF ?_ (fF ?_ (fF ?_ (fF ?_ (fF ?_ (fF ?_ (fF ?_ (fF ?_ (fN ?_ (fE 13 (aB 15 0 13 (by decide) (trivial))))))))))))))))) [] (fun q hq => by cases hq) (fun hY => absurd (hY 13 (by decide)) (by decide))
 ·exact fM 0 none rfl rfl rfl rfl (.inl rfl) rfl rfl rfl
 ·exact fM 1 none rfl rfl rfl rfl (.inl rfl) rfl rfl rfl
 ·exact fM 2 none rfl rfl rfl rfl (.inl rfl) rfl rfl rfl
 ·exact fM 3 none rfl rfl rfl rfl (.inl rfl) rfl rfl rfl
 ·exact fM 4 none rfl rfl rfl rfl (.inl rfl) rfl rfl rfl
 ·exact fM 5 none rfl rfl rfl rfl (.inl rfl) rfl rfl rfl
 ·refine fJ [(18, _), (19, _)] 6 [some 4, some 5] fun G a w S => ?_
  exact sIdxV S (wN rfl) rfl rfl rfl (idxV_bsl (m := 2) (c := 2) (sz := 1) Try.underlying32 rfl (idxO_rng (m := 2) a8 rfl).1 (idxO_rng (m := 2) a8 rfl).2 0) rfl (lb rfl) fun a S => leafL ⟨rfl, S⟩
 ·refine fJ [(20, _)] 7 [some 6] fun G a w S => ?_
  exact sLoad1 0 (iv a0) S (wN rfl) rfl rfl rfl rfl (box_at (g := (fun z => .int .i64 z)) [] [] 0 a8 rfl rfl) rfl (lb rfl) fun a S => leafL ⟨rfl, S⟩
 ·exact fM 8 none rfl rfl rfl rfl (.inl rfl) rfl rfl rfl
 ·exact fM 9 none rfl rfl rfl rfl (.inl rfl) rfl rfl rfl
 ·refine fJ [(22, _), (23, _)] 10 [some 8, some 9] fun G a w S => ?_
  exact sIdxV S (wN rfl) rfl rfl rfl (idxV_bsl (m := 2) (c := 2) (sz := 1) Try.underlying32 rfl (idxO_rng (m := 2) a4 rfl).1 (idxO_rng (m := 2) a4 rfl).2 0) rfl (lb rfl) fun a S => leafL ⟨rfl, S⟩
 ·refine fJ [(24, _)] 11 [some 10] fun G a w S => ?_
  exact sLoad1 0 (iv a5) S (wN rfl) rfl rfl rfl rfl (box_at (g := (fun z => .int .i64 z)) [] [] 0 a4 rfl rfl) rfl (lb rfl) fun a S => leafL ⟨rfl, S⟩
 ·refine fJ [(14, _), (15, _)] 12 [some 0, some 1] fun G a w S => ?_
  exact sIdxV S (wN rfl) rfl rfl rfl (idxV_bsl (m := 2) (c := 2) (sz := 1) Try.underlying32 rfl (idxO_rng (m := 2) a4 rfl).1 (idxO_rng (m := 2) a4 rfl).2 0) rfl (lb rfl) fun a S => leafL ⟨rfl, S⟩
 refine ⟨_, [(21, iv a0), (26, .pointer (some ⟨bb0, 0 + (s2).toNat * 1, none⟩))], rfl, (srcs_of [some 7, some 12] rfl rfl rfl), fun G a w S => ?_⟩
 refine sStore (p := bb0) (off := 0 + (s2).toNat * 1) (T := 49) (vs := [iv s4, iv s5]) (v := iv a0) 0 [iv a0] S (wN rfl) rfl rfl rfl rfl rfl rfl rfl (by have hq := idxO_rng (m := 2) a4 rfl; simp; omega) rfl fun a w S => ?_
 have ac : over [iv s4, iv s5] (0 + (s2).toNat * 1) [iv a0] = [iv (if s2 = 0 then a0 else s4), iv (if s2 = 1 then a0 else s5)] := over_at (g := (fun z => .int .i64 z)) (xs := ([s4, s5] : List Int)) (y := a0) [] [] 0 a4 rfl rfl rfl rfl
 rw [ac] at S
 refine leafL ⟨rfl, _, _, .inr ⟨[(14, 27, .pointer (some ⟨bb0, 0 + (s3).toNat * 1, none⟩))], rfl, S, hz_of rfl, ?_⟩⟩
 refine node_by (A := anc_slices_Reverse___int_int__s1_0) 16 (by kernel_rfl) (by kernel_rfl) (by kernel_rfl) (by kernel_rfl) (by kernel_rfl) [14, 0, 1, 2, 3, 4, 5, 6, 7, 8, 9, 10, 11, 12] (by kernel_rfl) (by decide) (by decide) (fD 13 (fD 13 (fF ?_ (fF ?_ (fD 13 (fD 13 (fD 13 (fD 13 (fD 13 (fD 13 (fD 13 (fD 13 (fD 13 (fY (fF ?_ (fN ?_ (trivial))))))))))))))))) [] (fun q hq => by cases hq) (fun hY => absurd (hY 15 (by decide)) (by decide))
 ·exact fM 3 none rfl rfl rfl rfl (.inl rfl) rfl rfl rfl
 ·exact fM 4 none rfl rfl rfl rfl (.inl rfl) rfl rfl rfl
 ·refine fJ [(16, _), (17, _)] 0 [some 3, some 4] fun G a w S => ?_
  exact sIdxV S (wN rfl) rfl rfl rfl (idxV_bsl (m := 2) (c := 2) (sz := 1) Try.underlying32 rfl (idxO_rng (m := 2) a6 rfl).1 (idxO_rng (m := 2) a6 rfl).2 0) rfl (lb rfl) fun a S => leafL ⟨rfl, S⟩
 refine ⟨_, [(25, iv a5), (27, .pointer (some ⟨bb0, 0 + (s3).toNat * 1, none⟩))], rfl, (srcs_of [some 12, some 0] rfl rfl rfl), fun G a w S => ?_⟩
 refine sStore (p := bb0) (off := 0 + (s3).toNat * 1) (T := 49) (vs := [iv (if s2 = 0 then a0 else s4), iv (if s2 = 1 then a0 else s5)]) (v := iv a5) 0 [iv a5] S (wN rfl) rfl rfl rfl rfl rfl rfl rfl (by have hq := idxO_rng (m := 2) a6 rfl; simp; omega) rfl fun a w S => ?_
 have ae : over [iv (if s2 = 0 then a0 else s4), iv (if s2 = 1 then a0 else s5)] (0 + (s3).toNat * 1) [iv a5] = [iv (if s3 = 0 then a5 else (if s2 = 0 then a0 else s4)), iv (if s3 = 1 then a5 else (if s2 = 1 then a0 else s5))] := over_at (g := (fun z => .int .i64 z)) (xs := ([(if s2 = 0 then a0 else s4), (if s2 = 1 then a0 else s5)] : List Int)) (y := a5) [] [] 0 a6 rfl rfl rfl rfl
 rw [ae] at S
 refine leafL ⟨rfl, _, _, .inr ⟨[], rfl, S, hz_of rfl, ?_⟩⟩
 refine node_by (A := anc_slices_Reverse___int_int__s1_0) 16 (by kernel_rfl) (by kernel_rfl) (by kernel_rfl) (by kernel_rfl) (by kernel_rfl) [14, 0, 1, 2, 3, 4, 5, 6, 7, 8, 9, 10, 11, 12] (by kernel_rfl) (by decide) (by decide) (fD 15 (fD 15 (fD 15 (fD 15 (fD 15 (fD 15 (fD 15 (fD 15 (fD 15 (fD 15 (fD 15 (fD 15 (fD 15 (fY (fD 15 (fY (trivial))))))))))))))))) [(0, .slice (some ⟨bb0, 0, none⟩) 2 2), (2, iv s2), (3, iv s3)] (fin_of [none, none, none] rfl (by kernel_rfl) (by kernel_rfl)) (fun _ a w S => ?_)
 refine leafB (leafT (ab _ _ ?_))
 refine sRegion (sM S fun a S => ?_)
 refine sBin _ S (wN rfl) rfl rfl rfl (bAdd _ _ _ _ s2 1) rfl (lb rfl) fun a S => ?_
 refine sM S fun a S => ?_
 refine sBin _ S (wN rfl) rfl rfl rfl (bSub _ _ _ _ s3 1) rfl (lb rfl) fun a S => ?_
 refine sN S fun a S => ?_
 refine sN S fun a S => ?_
 exact lT (⟨(w64 (s2 + 1), w64 (s3 - 1), (if s3 = 0 then a5 else (if s2 = 0 then a0 else s4)), (if s3 = 1 then a5 else (if s2 = 1 then a0 else s5))), (Option.some.inj h).symm, (S.fix [0] [] (by decide) rfl rfl rfl)⟩)
noncomputable def F_slices_Grow___int_int__s1 (p0 : Int) : Option (List Int) :=
 if decide (p0 < 0) then
  none
 else
  Option.bind (α := List Int) (
   if decide (0 < (w64 (p0 - (w64 ((0 : Int) - 0))))) then
    (appZ (w64 (p0 - (w64 ((0 : Int) - 0)))) (0 : Int)).bind fun a0 =>
    (sliceO a0 0 0).bind fun a4 =>
    some a4
   else
    some ([] : List Int)) fun o5 =>
  some o5
theorem c_slices_Grow___int_int__s1 (E : Nat → Prop) (w0 : World) (p0 : Int) (r : (List Int)) (h : F_slices_Grow___int_int__s1 p0 = some r) (S : St0 E [] w0 w0 [] []) :
 Calls Try.prog 74 #[.slice none 0 0, iv p0] w0 (Ret (X := Option Addr × Nat) E [] w0 (fun x => .slice x.1 r.length x.2) (fun x => [eRow (rI .i64) 3 (.slice x.1 r.length x.2) r]) (fun _ => [])) := by
 unfold F_slices_Grow___int_int__s1 at h
 refine sEnter (args := [.slice none 0 0, iv p0]) 27 Try.func74 rfl rfl (by simp) S (fun a S => ?_)
 refine sSeq (fun K1 ag => sRegion (sN S fun a S => ?_))
 refine lT (ag _ _ (sSeq (fun K2 ah => sSeq (fun K3 ai => sRegion (sM S fun a S => ?_)))))
 refine sBin _ S (wN rfl) rfl rfl rfl (bLt _ _ _ _ .i64 p0 0) rfl (lb rfl) fun a S => ?_
 refine lT (ai _ _ ?_)
 rcases iS h with ⟨a8, h⟩ | ⟨a8, h⟩
 ·refine sCondT S rfl a8 ?_
  refine sRegion ?_
  cases h
 refine sCondF S rfl a8 ?_
 refine wp_skip (leafT (ah _ _ ?_))
 obtain ⟨t8, h, g9⟩ := bS h
 refine sCut (fun a w => ∃ o5, o5 = t8 ∧ ∃ a4, ∃ a5, St [] E [] w0 27 a w [(0, .slice a4 o5.length a5)] [eRow (rI .i64) 3 (.slice a4 o5.length a5) o5] []) ?_ (fun a w hI => ?_)
 rotate_left
 ·obtain ⟨o5, rfl, a4, a5, S⟩ := hI
  have h := g9
  try dsimp only at h
  refine sSeq (fun ak a9 => sRegion (sM S fun a S => ?_))
  refine sN S fun a S => ?_
  refine lT (a9 _ _ ?_)
  obtain rfl := tS h
  exact wp_ret (sRet (.slice a4 o5.length a5) S (rsl1 rfl (rvT (t := 4) (v := .slice a4 o5.length a5) S rfl)) ⟨(a4, a5), rfl, S.mem.sel [0] [] (by decide) rfl rfl⟩)
 refine sSeq (fun al aa => sRegion (sM S fun a S => ?_))
 refine sM S fun a S => ?_
 refine sCapNil S (wN rfl) rfl Try.underlying32 rfl rfl (lb rfl) fun a S => ?_
 refine sM S fun a S => ?_
 refine sLen S (wN rfl) rfl Try.underlying32 rfl rfl (lb rfl) fun a S => ?_
 refine sBin _ S (wN rfl) rfl rfl rfl (bSub _ _ _ _ 0 0) rfl (lb rfl) fun a S => ?_
 refine sBin _ S (wN rfl) rfl rfl rfl (bSub _ _ _ _ p0 (w64 ((0 : Int) - 0))) rfl (lb rfl) fun a S => ?_
 refine sN S fun a S => ?_
 refine lT (aa _ _ (sSeq (fun am ab => sRegion (sM S fun a S => ?_))))
 refine sBin _ S (wN rfl) rfl rfl rfl (bGt _ _ _ _ .i64 (w64 (p0 - (w64 ((0 : Int) - 0)))) 0) rfl (lb rfl) fun a S => ?_
 refine lT (ab _ _ ?_)
 rcases iS h with ⟨a0, h⟩ | ⟨a0, h⟩
 rotate_left
 ·refine sCondF S rfl a0 ?_
  have S := S.nilRow (rI .i64) 3 (α := Int)
  exact wp_skip (leafT (⟨([] : List Int), Option.some.inj h, none, 0, S.fix [0] [] (by decide) rfl rfl rfl⟩))
 refine sCondT S rfl a0 ?_
 refine sRegion (sM S fun a S => ?_)
 refine sM S fun a S => ?_
 refine sCapNil S (wN rfl) rfl Try.underlying32 rfl rfl (lb rfl) fun a S => ?_
 refine sSliceNil S (wN rfl) rfl Try.underlying32 rfl rfl rfl rfl (lb rfl) fun a S => ?_
 refine sM S fun a S => ?_
 obtain ⟨af, ac, h⟩ := bS h
 refine sAppZ (r := (rI .i64)) (T := 3) (m := w64 (p0 - (w64 ((0 : Int) - 0)))) (xs := af) (iv 0) (0 : Int) 8 S (wN rfl) rfl Try.underlying32 Try.underlying3 rfl (by decide) (fun _ _ => rfl) rfl rfl ac rfl (lb rfl) rfl fun a w a6 a7 S => ?_
 refine sM S fun a S => ?_
 refine sLen S (wN rfl) rfl Try.underlying32 rfl rfl (lb rfl) fun a S => ?_
 obtain ⟨aj, ae, h⟩ := bS h
 refine sSliceT (r := (rI .i64)) (T := 3) (ad := a6) (c := a7) (xs := af) (vlo := none) (vhi := (some (.int .i64 0))) (hi' := 0) 0 S (wN rfl) rfl Try.underlying32 rfl rfl rfl rfl rfl (.inr rfl) (.inl rfl) ae rfl (lb rfl) fun a S => ?_
 refine sN S fun a S => ?_
 exact lT (⟨aj, Option.some.inj h, a6, a7, S.fix [0] [] (by decide) rfl rfl rfl⟩)
end Go.Proofs.Yticjoiolfibmlaa
