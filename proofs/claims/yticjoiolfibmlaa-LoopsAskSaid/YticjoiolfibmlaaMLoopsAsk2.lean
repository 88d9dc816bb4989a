/- Several texts in one: SpT SpTn SpN GTy SpO GOp PlA PlB G67 G72 G65 G76 G71 G70 G75s0 G69s0 G64 G46 G63 G49 G62 G48 PlS G66 G73i0 -/
import Derived.WalkKit
import Derived.Maps.AppendAt
import Derived.Deep.AppendLies
import Derived.KernelRfl
import Derived.Laws.OwnMore
import Derived.Great.BuildSlice
import Derived.Orders
import Derived.Laws.StructEq
import Derived.ChangeKeysEq
import Derived.Defers
import Derived.Laws.BytesString
import Derived.RangeFuncNested
import Derived.RangeFuncBound
import Derived.RangeFuncCalls
import Derived.RangeFuncLeaves
import Derived.OrdersIn
import Derived.LoopNIn
import Derived.ArgAppend
import Derived.Lib.AppendZeros
import Derived.Test.YticjoiolfibmlaaProg
import Derived.ProofKit
import Derived.OpenShut
import Derived.ChangeOld
import Derived.Deep.Slices
import Derived.Lib.SmallJoins
import Derived.JoinedOf
import Derived.JoinedAt
import Derived.Below
import Derived.Test.YticjoiolfibmlaaRows
import Derived.Test.YticjoiolfibmlaaMLoopsAsk1
namespace Go.Proofs.Yticjoiolfibmlaa
open Go.RowKit
set_option linter.unusedVariables false

section
variable {P : Program} {dq : List Deferred} {E : Nat → Prop} {M : List Nat} {w0 : World} {n : Nat} {a : Act} {w : World} {F : List (Nat × Value)} {L : List Ent} {D : List Fact} {Q : Exit → Act → World → Prop}
variable {ops : Array Oper} {rest : List Oper} {o : Oper} {d : Nat}
/-- a row of one's own cut short -/
theorem sSliceT {α : Type} {r : R α} {T t e : TypeId} {x : Operand} {lo hi : Option Operand} {ad : Option Addr} {c : Nat} {xs ys : List α} {vlo vhi : Option Value} {hi' : Int} (i : Nat) (S : St dq E M w0 n a w F L D)
    (hw : ∀ a, Frm dq n a F → Region.wanted o (yielded ops a.tmps) = true) (ho : o.op = .slice t x lo hi none) (ht : P.underlying t = some (.slice e)) (hs : cellsB P e = some r.sz) (hx : lookO F x = some (.slice ad xs.length c)) (hL : L[i]? = some (eRow r T (.slice ad xs.length c) xs))
    (hlo : lo.map (lookO F) = vlo.map some) (hhi : hi.map (lookO F) = vhi.map some) (hl : vlo = some (.int .i64 0) ∨ vlo = none) (hh : vhi = some (.int .i64 hi') ∨ vhi = none ∧ hi' = (xs.length : Int)) (hsl : sliceO xs 0 hi' = some ys) (hd : o.dst = some d) (hn : d < n)
    (k : ∀ a, St dq E M w0 n a w ((d, .slice ad ys.length c) :: F) (eRow r T (.slice ad ys.length c) ys :: L.eraseIdx i) D → wpList P ops Q rest a w) : wpList P ops Q (o :: rest) a w := by
  obtain ⟨l, q, hl0, rfl, h1, h2, rfl⟩ := sliceO_some hsl
  obtain rfl : l = 0 := by omega
  have hex := S.frm.eval hx
  have elo : lo.map a.eval = vlo := by
    cases lo with
    | none => cases vlo with | none => rfl | some _ => simp at hlo
    | some y => cases vlo with | none => simp at hlo | some u => simp at hlo; simp [S.frm.eval hlo]
  have ehi : hi.map a.eval = vhi := by
    cases hi with
    | none => cases vhi with | none => rfl | some _ => simp at hhi
    | some y => cases vhi with | none => simp at hhi | some u => simp at hhi; simp [S.frm.eval hhi]
  obtain ⟨vs, ha, hlen, hown⟩ := S.mem.at hL
  have hc : xs.length ≤ c := by
    rcases hown.2 with ⟨h, h0⟩ | ⟨g, cap, cur, h, _, _, hnc, _⟩
    · simp only [Value.slice.injEq] at h; omega
    · simp only [Value.slice.injEq] at h; omega
  have hrun := run_sliceAt (P := P) ht hs ad xs.length c 0 q vlo vhi (by rcases hl with h | h; exact .inl h; exact .inr ⟨h, rfl⟩) (by rcases hh with h | ⟨h, h'⟩; exact .inl h; exact .inr ⟨h, by omega⟩) h1 h2 hc w
  have had : (if c = 0 then ad else ad.map (·.add (0 * r.sz))) = ad := by
    split
    · rfl
    · rcases hown.2 with ⟨h, h0⟩ | ⟨g, cap, cur, h, _⟩
      · simp only [Value.slice.injEq] at h; rw [h.1]; rfl
      · simp only [Value.slice.injEq] at h; rw [h.1]; simp [add_addr]
  have hl2 : ((xs.take q).drop 0).length = q := by simp; omega
  rw [had, Nat.sub_zero, Nat.sub_zero] at hrun
  have hkeys : ∀ b, b ∈ (eRow r T (.slice ad ((xs.take q).drop 0).length c) ((xs.take q).drop 0)).keys → b ∈ (eRow r T (.slice ad xs.length c) xs).keys ∨ w.heap.size ≤ b := by
    intro b hb
    left
    cases ad with
    | none => simp [eRow, vkeys] at hb
    | some a1 => simpa [eRow, vkeys] using hb
  have hext : Ext (tot E L) (tot E (eRow r T (.slice ad ((xs.take q).drop 0).length c) ((xs.take q).drop 0) :: L.eraseIdx i)) w w := by
    refine ⟨Nat.le_refl _, fun _ _ _ _ => rfl, fun b hb h => ?_⟩
    rcases h with h | h
    · exact .inl h
    · obtain ⟨e, h5, h6⟩ := keysL_mem.1 h
      rcases List.mem_cons.1 h5 with rfl | h5
      · rcases hkeys b h6 with h7 | h7
        · exact .inr (keysL_mem.2 ⟨_, List.mem_of_getElem? hL, h7⟩)
        · omega
      · exact .inr (keysL_mem.2 ⟨e, List.mem_of_mem_eraseIdx h5, h6⟩)
  refine sVal S hw hd hn (w' := w) (v := .slice ad ((xs.take q).drop 0).length c) ?_ (S.mem.put hL (eRow r T (.slice ad ((xs.take q).drop 0).length c) ((xs.take q).drop 0)) (Chg.refl _ _) hkeys (by cases ad <;> simp [eRow, vkeys]) ?_) (fun a => k a)
  · rw [hl2]
    unfold execOp
    simp only [ho, hex, elo, ehi, Option.map_none, Sem.run_bind, hrun, Result.andThen_ok, Sem.run_pure]
  · have hA : All r (tot E (eRow r T (.slice ad ((xs.take q).drop 0).length c) ((xs.take q).drop 0) :: L.eraseIdx i)) w ((vs.take q).drop 0) ((xs.take q).drop 0) := ((ha.mono hext).take q).drop 0
    refine ⟨(vs.take q).drop 0, hA, by rw [hl2]; omega, ?_⟩
    rw [hl2]
    have hfs := flat_split (fun v hv => (ha.cells v hv).1) q (by rw [ha.1]; omega)
    refine ⟨?_, ?_⟩
    · rw [List.drop_zero, hfs.2]
    · rcases hown.2 with ⟨h, h0⟩ | ⟨g, cap, cur, h, hgb, hg, hnc, hcm, hcs, htake⟩
      · simp only [Value.slice.injEq] at h
        exact .inl ⟨by rw [h.1, h.2.2, show q = 0 by omega], by omega⟩
      · simp only [Value.slice.injEq] at h
        obtain ⟨rfl, _, rfl⟩ := h
        refine .inr ⟨g, c, cur, rfl, hgb, hg, by omega, hcm, hcs, ?_⟩
        have hle : q * r.sz ≤ xs.length * r.sz := Nat.mul_le_mul_right _ h2
        rw [List.drop_zero, show cur.toList.take (q * r.sz) = (cur.toList.take (xs.length * r.sz)).take (q * r.sz) by rw [List.take_take, Nat.min_eq_left hle], htake, hfs.1, ← hfs.2, List.take_left]
end
section
variable {P : Program} {dq : List Deferred} {E : Nat → Prop} {M : List Nat} {w0 : World} {n : Nat} {a : Act} {w : World} {F : List (Nat × Value)} {L : List Ent} {D : List Fact} {Q : Exit → Act → World → Prop}
variable {ops : Array Oper} {rest : List Oper} {o : Oper} {d : Nat}
end
section
variable {P : Program} {dq : List Deferred} {E : Nat → Prop} {M : List Nat} {w0 : World} {n : Nat} {a : Act} {w : World} {F : List (Nat × Value)} {L : List Ent} {D : List Fact} {Q : Exit → Act → World → Prop}
variable {ops : Array Oper} {rest : List Oper} {o : Oper} {d : Nat}
end

end Go.Proofs.Yticjoiolfibmlaa
namespace Go.Proofs.Yticjoiolfibmlaa
open Go.RowKit
set_option linter.unusedVariables false

end Go.Proofs.Yticjoiolfibmlaa
namespace Go.Proofs.Yticjoiolfibmlaa
open Go.RowKit
set_option linter.unusedVariables false

section
variable {P : Program} {dq : List Deferred} {E : Nat → Prop} {M : List Nat} {w0 : World} {n : Nat} {a : Act} {w : World} {F : List (Nat × Value)} {L : List Ent} {D : List Fact} {Q : Exit → Act → World → Prop}
variable {ops : Array Oper} {rest : List Oper} {o : Oper} {d : Nat}
theorem run_equalIn_nil (d : Nat) {u e : TypeId} (hu : P.underlying u = some (.slice e)) (ad : Option Addr) (m c : Nat) (w : World) : (Op.equalIn (d + 1) u (.slice ad m c) (.slice none 0 0)).run P w = .ok ad.isNone w := by
  cases ad <;> simp [Op.equalIn, run_underlying hu]
theorem bEqNil (t u : TypeId) (p q : Operand) {e : TypeId} (hu : P.underlying u = some (.slice e)) (ad : Option Addr) (m c : Nat) : ∀ w, (eqGuard .eql t p q (.slice ad m c) (.slice none 0 0)).run P w = .ok () w ∧ (binOp .eql u (.slice ad m c) (.slice none 0 0)).run P w = .ok (.bool ad.isNone) w := fun w => ⟨rfl, by
  simp only [binOp]
  simp [Op.equal, Op.maxDepth, run_equalIn_nil 9999 hu]⟩
theorem nil_cases (ad : Option Addr) : ad.isNone = true ∨ ad.isNone = false := by cases ad <;> simp
/-- what is nil and reads as a list reads as the empty one -/
theorem rL_isNil {α : Type} {r : R α} {E : Nat → Prop} {w : World} {ad : Option Addr} {c : Nat} {xs : List α} (h : (rL r).rep E w (.slice ad xs.length c) xs) (hn : ad.isNone = true) : xs = [] := by
  obtain ⟨ad0, c0, vs, hv, hc, hm, ha, hcell⟩ := h
  obtain ⟨rfl, rfl⟩ : ad = ad0 ∧ c = c0 := by simpa using hv
  cases ad with
  | some _ => simp at hn
  | none =>
    cases xs with
    | nil => rfl
    | cons x xs =>
      have hfl := flat_length (fun v hv => (ha.cells v hv).1)
      have hpos : 0 < (flat vs).length := by rw [hfl, ha.1]; exact Nat.mul_pos (by simp) r.pos
      obtain ⟨_, _, h, _⟩ := hcell 0 _ (List.getElem?_eq_getElem hpos)
      cases h
/-- an array in a variable, as a slice -/
theorem sSliceA {t e : TypeId} {m sz b : Nat} {x : Operand} (S : St dq E M w0 n a w F L D)
    (hw : ∀ a, Frm dq n a F → Region.wanted o (yielded ops a.tmps) = true) (ho : o.op = .slice t x none none none) (ht : P.underlying t = some (.array m e)) (hs : cellsB P e = some sz) (hx : lookO F x = some (.pointer (some ⟨b, 0, none⟩))) (hm : m ≠ 0) (hd : o.dst = some d) (hn : d < n)
    (k : ∀ a, St dq E M w0 n a w ((d, .slice (some ⟨b, 0, none⟩) m m) :: F) L D → wpList P ops Q rest a w) : wpList P ops Q (o :: rest) a w := by
  have hex := S.frm.eval hx
  refine sVal S hw hd hn (w' := w) ?_ S.mem k
  simp [execOp, ho, hex, Instr.sliceAt, run_underlying ht, Instr.sureAddr, Instr.sliceBounds, Instr.sliceBound, run_sizeOf' hs, hm, add_addr]
theorem idxV_bsl {t e : TypeId} {m c sz : Nat} {b : Nat} {j : Int} (ht : P.underlying t = some (.slice e)) (hs : cellsB P e = some sz) (h0 : 0 ≤ j) (h1 : j < (m : Int)) (off : Nat) : IdxV P t (.slice (some ⟨b, off, none⟩) m c) j (.pointer (some ⟨b, off + j.toNat * sz, none⟩)) := fun k w => by
  exact run_indexAt (P := P) ht hs (b := b) (off := off) (c := c) (k := k) h0 (by omega) w
theorem sCapNil {t e : TypeId} {x : Operand} (S : St dq E M w0 n a w F L D)
    (hw : ∀ a, Frm dq n a F → Region.wanted o (yielded ops a.tmps) = true) (ho : o.op = .call { callee := .builtin .cap, args := #[x], argTypes := #[t] }) (ht : P.underlying t = some (.slice e)) (hx : lookO F x = some (.slice none 0 0)) (hd : o.dst = some d) (hn : d < n)
    (k : ∀ a, St dq E M w0 n a w ((d, .int .i64 0) :: F) L D → wpList P ops Q rest a w) : wpList P ops Q (o :: rest) a w := by
  have he := S.frm.eval hx
  exact sVal S hw hd hn (by simp [execOp, ho, he, resolve, invoke, builtin, Builtin.cap_, run_underlying ht, goInt]) S.mem k
theorem sSliceNil {t e : TypeId} {sz : Nat} {x hi : Operand} (S : St dq E M w0 n a w F L D)
    (hw : ∀ a, Frm dq n a F → Region.wanted o (yielded ops a.tmps) = true) (ho : o.op = .slice t x none (some hi) none) (ht : P.underlying t = some (.slice e)) (hs : cellsB P e = some sz) (hx : lookO F x = some (.slice none 0 0)) (hhi : lookO F hi = some (.int .i64 0)) (hd : o.dst = some d) (hn : d < n)
    (k : ∀ a, St dq E M w0 n a w ((d, .slice none 0 0) :: F) L D → wpList P ops Q rest a w) : wpList P ops Q (o :: rest) a w := by
  have hex := S.frm.eval hx
  have ehi := S.frm.eval hhi
  refine sVal S hw hd hn (w' := w) ?_ S.mem k
  have hrun := run_sliceAt (P := P) ht hs none 0 0 0 0 none (some (.int .i64 0)) (.inr ⟨rfl, rfl⟩) (.inl rfl) (Nat.le_refl _) (Nat.le_refl _) (Nat.le_refl _) w
  simp only [Nat.sub_zero, if_true] at hrun
  unfold execOp
  simp only [ho, hex, ehi, Option.map_none, Option.map_some, Sem.run_bind, hrun, Result.andThen_ok, Sem.run_pure]
def appZ {α : Type} (m : Int) (z : α) : Option (List α) := if 1 ≤ m ∧ m.toNat ≤ lim then some (List.replicate m.toNat z) else none
theorem appZ_some {α : Type} {m : Int} {z : α} {xs : List α} (h : appZ m z = some xs) : ∃ k : Nat, m = k ∧ 1 ≤ k ∧ k ≤ 68719476736 ∧ xs = List.replicate k z := by
  unfold appZ lim at h
  split at h
  · rename_i hc
    exact ⟨m.toNat, by omega, by omega, hc.2, (Option.some.inj h).symm⟩
  · cases h
/-- append of so many zeros to nil -/
theorem sAppZ {α : Type} {r : R α} {T t tn : TypeId} {kn : IntKind} {s x : Operand} {xs : List α} {m : Int} (z : Value) (zx : α) (bytes : Nat) (S : St dq E M w0 n a w F L D)
    (hw : ∀ a, Frm dq n a F → Region.wanted o (yielded ops a.tmps) = true) (ho : o.op = .call { callee := .builtin .append, args := #[s, x], argTypes := #[t, tn] }) (ht : P.underlying t = some (.slice T)) (htn : P.underlying tn = some (.int kn)) (hinfo : (P.info? T).map (fun i => (i.zero, i.size, i.bytes)) = some (some z, r.sz, bytes)) (hby : bytes ≤ 2048) (hzx : ∀ E w, r.rep E w z zx)
    (hs : lookO F s = some (.slice none 0 0)) (hx : lookO F x = some (.int .i64 m)) (hm : appZ m zx = some xs) (hd : o.dst = some d) (hn : d < n)
    (hkn : kn = .i64)
    (k : ∀ a w ad c, St dq E M w0 n a w ((d, .slice ad xs.length c) :: F) (eRow r T (.slice ad xs.length c) xs :: L) D → wpList P ops Q rest a w) : wpList P ops Q (o :: rest) a w := by
  subst hkn
  obtain ⟨q, rfl, hq0, hq, rfl⟩ := appZ_some hm
  have hes := S.frm.eval hs
  have hex := S.frm.eval hx
  obtain ⟨ie, hi, hzi, hsize, hbytes⟩ := info_parts hinfo
  have hzs : z.cells.size = r.sz := r.size (hzx (fun _ => False) w)
  have hr := Lib.run_append_nil_zeros (P := P) w t tn o.type T ie z .i64 .i64 ht htn hi hzi q (by omega) (by rw [hsize]; exact r.pos) (by omega) (by rw [hbytes]; exact Nat.le_trans (Nat.mul_le_mul hq hby) (by decide))
  generalize hc : grownCap w q 0 T = c at hr
  have hge : q ≤ c := by rw [← hc]; exact grownCap_ge w q 0 T
  have hmx : c ≤ maxLen := by rw [← hc]; exact grownCap_le_maxLen w q 0 T (by unfold maxLen; omega)
  have hfl : flat (List.replicate q z) = (Builtin.zeroCells z.cells q).toList := by rw [flat_made rfl q]; rfl
  have hAll : ∀ E w, All r E w (List.replicate q z) (List.replicate q zx) := fun E w => ⟨by simp, fun k v x hv hx => by
    rw [List.getElem?_replicate] at hv hx
    split at hv
    · rename_i hk
      rw [if_pos hk] at hx
      cases hv; cases hx; exact hzx E w
    · cases hv⟩
  have hgr : Chg [] w (w.drew.alloc (.cells (Builtin.zeroCells z.cells q ++ Builtin.zeroCells z.cells (c - q)) T)) := (Chg.refl [] w).drew.trans (Chg.alloc [] w.drew _) (by simp)
  have S' : St0 E M w0 (w.drew.alloc (.cells (Builtin.zeroCells z.cells q ++ Builtin.zeroCells z.cells (c - q)) T)) (eRow r T (.slice (some ⟨w.heap.size, 0, none⟩) q c) (List.replicate q zx) :: L) D := by
    have := St0.upd (B := []) (Rs := L) S.mem (by simpa [keysL] using hgr) [eRow r T (.slice (some ⟨w.heap.size, 0, none⟩) q c) (List.replicate q zx)] [] ⟨by simpa [keysL] using hgr, by
      intro e he
      simp at he; subst he
      refine ⟨List.replicate q z, hAll _ _, by simpa using hq, ?_⟩
      rw [List.length_replicate, hfl]
      refine ⟨by simp [size_zeroCells, hzs], .inr ⟨w.heap.size, c, _, rfl, Nat.zero_le _, heap_alloc_new w.drew _, hge, hmx, by simp [size_zeroCells, hzs]; rw [← Nat.add_mul]; congr 1; omega, ?_⟩⟩
      rw [Array.toList_append, List.take_append_of_le_length (by simp [size_zeroCells, hzs]), List.take_of_length_le (by simp [size_zeroCells, hzs])], by simp, by simp [keysL, eRow, vkeys], by
        intro b hb
        simp [keysL, eRow, vkeys] at hb
        subst hb
        refine ⟨.inl (Nat.le_refl _), fun h => ?_⟩
        rcases h with h | h
        · exact absurd (S.mem.bnd _ h) (by have := S.mem.chg.size; omega)
        · exact absurd (S.mem.lt _ h) (by omega), by
        intro b hb
        rcases hb with h | h
        · exact Nat.lt_of_lt_of_le (S.mem.bnd b h) S.mem.chg.size
        · exact S.mem.lt b h⟩
    simpa using this
  refine sVal S hw hd hn (v := .slice (some ⟨w.heap.size, 0, none⟩) q c) ?_ S' (fun a Sa => k a _ (some ⟨w.heap.size, 0, none⟩) c (by simpa using Sa))
  unfold execOp
  simp only [ho, resolve, invoke, builtin, Sem.run_bind, Sem.run_pure, Result.andThen_ok, List.map_toArray, List.map_cons, List.map_nil, hes, hex, hr]
end

end Go.Proofs.Yticjoiolfibmlaa
namespace Go.Proofs.Yticjoiolfibmlaa
open Go.RowKit
set_option linter.unusedVariables false

structure api_Stitch where
  Kind : Int
  Purl : Bool
  A : Int
  B : Int
def r_api_Stitch : R api_Stitch where
  sz := 4
  rep := fun E w v x => v = .agg #[.int .u8 x.Kind, .bool x.Purl, .int .i64 x.A, .int .i64 x.B]
  pos := by decide
  size := by rintro _ _ _ _ rfl; rfl
  one := by
    rintro _ _ _ _ rfl u hu
    simp [Value.cells] at hu
    rcases hu with rfl | rfl | rfl | rfl
    · rfl
    · rfl
    · rfl
    · rfl
  mono := fun _ h => h
structure api_Row where
  Back : Bool
  Cells : (List api_Stitch)
def r_api_Row : R api_Row where
  sz := 2
  rep := fun E w v x => ∃ v0, v = .agg #[.bool x.Back, v0] ∧ (rL r_api_Stitch).rep E w v0 x.Cells
  pos := by decide
  size := by rintro _ _ _ _ ⟨v0, rfl, h0⟩; rfl
  one := by
    rintro _ _ _ _ ⟨v0, rfl, h0⟩ u hu
    simp [Value.cells] at hu
    rcases hu with rfl | rfl
    · rfl
    · exact (rL r_api_Stitch).one h0 _ (by rw [scal_L _ _ _ _ _ h0]; simp)
  mono := by
    rintro _ _ _ _ _ _ h ⟨v0, e, h0⟩
    exact ⟨v0, e, (rL r_api_Stitch).mono h h0⟩
theorem comp_api_Row_Back : Comp r_api_Row rB 0 (·.Back) := by
  rintro _ _ _ x ⟨v0, rfl, h0⟩
  refine ⟨.bool x.Back, rfl, fun j c hj => ?_⟩
  match j, hj with
  | 0, hj => exact hj
  | j + 1, hj => exact absurd (List.getElem?_eq_some_iff.1 hj).1 (by simp [Value.cells])
theorem comp_api_Row_Cells : Comp r_api_Row (rL r_api_Stitch) 1 (·.Cells) := by
  rintro _ _ _ x ⟨v0, rfl, h0⟩
  refine ⟨v0, h0, fun j c hj => ?_⟩
  rw [scal_L _ _ _ _ _ h0] at hj
  match j, hj with
  | 0, hj => exact hj
  | j + 1, hj => exact absurd (List.getElem?_eq_some_iff.1 hj).1 (by simp)
structure api_Chart where
  Start : Int
  Rows : (List api_Row)
def r_api_Chart : R api_Chart where
  sz := 2
  rep := fun E w v x => ∃ v0, v = .agg #[.int .i64 x.Start, v0] ∧ (rL r_api_Row).rep E w v0 x.Rows
  pos := by decide
  size := by rintro _ _ _ _ ⟨v0, rfl, h0⟩; rfl
  one := by
    rintro _ _ _ _ ⟨v0, rfl, h0⟩ u hu
    simp [Value.cells] at hu
    rcases hu with rfl | rfl
    · rfl
    · exact (rL r_api_Row).one h0 _ (by rw [scal_L _ _ _ _ _ h0]; simp)
  mono := by
    rintro _ _ _ _ _ _ h ⟨v0, e, h0⟩
    exact ⟨v0, e, (rL r_api_Row).mono h h0⟩
theorem aggr_api_Chart : Aggr r_api_Chart := by rintro _ _ _ _ ⟨v0, rfl, h0⟩; exact ⟨_, rfl⟩
theorem comp_api_Chart_Start : Comp r_api_Chart (rI .i64) 0 (·.Start) := by
  rintro _ _ _ x ⟨v0, rfl, h0⟩
  refine ⟨.int .i64 x.Start, rfl, fun j c hj => ?_⟩
  match j, hj with
  | 0, hj => exact hj
  | j + 1, hj => exact absurd (List.getElem?_eq_some_iff.1 hj).1 (by simp [Value.cells])
theorem comp_api_Chart_Rows : Comp r_api_Chart (rL r_api_Row) 1 (·.Rows) := by
  rintro _ _ _ x ⟨v0, rfl, h0⟩
  refine ⟨v0, h0, fun j c hj => ?_⟩
  rw [scal_L _ _ _ _ _ h0] at hj
  match j, hj with
  | 0, hj => exact hj
  | j + 1, hj => exact absurd (List.getElem?_eq_some_iff.1 hj).1 (by simp)
structure chart_count where
  before : Int
  after : Int
  e : Int
def r_chart_count : R chart_count where
  sz := 3
  rep := fun E w v x => v = .agg #[.int .i64 x.before, .int .i64 x.after, .int .i64 x.e]
  pos := by decide
  size := by rintro _ _ _ _ rfl; rfl
  one := by
    rintro _ _ _ _ rfl u hu
    simp [Value.cells] at hu
    rcases hu with rfl | rfl | rfl
    · rfl
    · rfl
    · rfl
  mono := fun _ h => h
theorem comp_chart_count_after : Comp r_chart_count (rI .i64) 1 (·.after) := by
  rintro _ _ _ x rfl
  refine ⟨.int .i64 x.after, rfl, fun j c hj => ?_⟩
  match j, hj with
  | 0, hj => exact hj
  | j + 1, hj => exact absurd (List.getElem?_eq_some_iff.1 hj).1 (by simp [Value.cells])
theorem comp_chart_count_e : Comp r_chart_count (rI .i64) 2 (·.e) := by
  rintro _ _ _ x rfl
  refine ⟨.int .i64 x.e, rfl, fun j c hj => ?_⟩
  match j, hj with
  | 0, hj => exact hj
  | j + 1, hj => exact absurd (List.getElem?_eq_some_iff.1 hj).1 (by simp [Value.cells])
def r_A2_Int : R (Int × Int) where
  sz := 2
  rep := fun E w v x => v = .agg #[.int .i64 x.1, .int .i64 x.2]
  pos := by decide
  size := by rintro _ _ _ _ rfl; rfl
  one := by
    rintro _ _ _ _ rfl u hu
    simp [Value.cells] at hu
    rcases hu with rfl | rfl
    · rfl
    · rfl
  mono := fun _ h => h
structure stitch_form where
  letter : ByteArray
  a : (Int × Int)
  b : (Int × Int)
  sided : Bool
  uses : Int
  made : Int
def r_stitch_form : R stitch_form where
  sz := 8
  rep := fun E w v x => v = .agg #[.string x.letter, .int .i64 x.a.1, .int .i64 x.a.2, .int .i64 x.b.1, .int .i64 x.b.2, .bool x.sided, .int .i64 x.uses, .int .i64 x.made]
  pos := by decide
  size := by rintro _ _ _ _ rfl; rfl
  one := by
    rintro _ _ _ _ rfl u hu
    simp [Value.cells] at hu
    rcases hu with rfl | rfl | rfl | rfl | rfl | rfl | rfl | rfl
    · rfl
    · rfl
    · rfl
    · rfl
    · rfl
    · rfl
    · rfl
    · rfl
  mono := fun _ h => h
structure api_Loop where
  Row : Int
  Cell : Int
  Parents : (List Int)
  Purl : Bool
def r_api_Loop : R api_Loop where
  sz := 4
  rep := fun E w v x => ∃ v0, v = .agg #[.int .i64 x.Row, .int .i64 x.Cell, v0, .bool x.Purl] ∧ (rL (rI .i64)).rep E w v0 x.Parents
  pos := by decide
  size := by rintro _ _ _ _ ⟨v0, rfl, h0⟩; rfl
  one := by
    rintro _ _ _ _ ⟨v0, rfl, h0⟩ u hu
    simp [Value.cells] at hu
    rcases hu with rfl | rfl | rfl | rfl
    · rfl
    · rfl
    · exact (rL (rI .i64)).one h0 _ (by rw [scal_L _ _ _ _ _ h0]; simp)
    · rfl
  mono := by
    rintro _ _ _ _ _ _ h ⟨v0, e, h0⟩
    exact ⟨v0, e, (rL (rI .i64)).mono h h0⟩
theorem comp_api_Loop_Parents : Comp r_api_Loop (rL (rI .i64)) 2 (·.Parents) := by
  rintro _ _ _ x ⟨v0, rfl, h0⟩
  refine ⟨v0, h0, fun j c hj => ?_⟩
  rw [scal_L _ _ _ _ _ h0] at hj
  match j, hj with
  | 0, hj => exact hj
  | j + 1, hj => exact absurd (List.getElem?_eq_some_iff.1 hj).1 (by simp)
theorem comp_api_Loop_Purl : Comp r_api_Loop rB 3 (·.Purl) := by
  rintro _ _ _ x ⟨v0, rfl, h0⟩
  refine ⟨.bool x.Purl, rfl, fun j c hj => ?_⟩
  match j, hj with
  | 0, hj => exact hj
  | j + 1, hj => exact absurd (List.getElem?_eq_some_iff.1 hj).1 (by simp [Value.cells])
structure loops_piece where
  loops : (List api_Loop)
  rows : (List Int)
  bound : (List Int)
  cross : (List (Int × Int))
  next : Int
def r_loops_piece : R loops_piece where
  sz := 5
  rep := fun E w v x => ∃ v0 v1 v2 v3, v = .agg #[v0, v1, v2, v3, .int .i64 x.next] ∧ (rL r_api_Loop).rep E w v0 x.loops ∧ (rL (rI .i64)).rep E w v1 x.rows ∧ (rL (rI .i64)).rep E w v2 x.bound ∧ (rL r_A2_Int).rep E w v3 x.cross
  pos := by decide
  size := by rintro _ _ _ _ ⟨v0, v1, v2, v3, rfl, h0, h1, h2, h3⟩; rfl
  one := by
    rintro _ _ _ _ ⟨v0, v1, v2, v3, rfl, h0, h1, h2, h3⟩ u hu
    simp [Value.cells] at hu
    rcases hu with rfl | rfl | rfl | rfl | rfl
    · exact (rL r_api_Loop).one h0 _ (by rw [scal_L _ _ _ _ _ h0]; simp)
    · exact (rL (rI .i64)).one h1 _ (by rw [scal_L _ _ _ _ _ h1]; simp)
    · exact (rL (rI .i64)).one h2 _ (by rw [scal_L _ _ _ _ _ h2]; simp)
    · exact (rL r_A2_Int).one h3 _ (by rw [scal_L _ _ _ _ _ h3]; simp)
    · rfl
  mono := by
    rintro _ _ _ _ _ _ h ⟨v0, v1, v2, v3, e, h0, h1, h2, h3⟩
    exact ⟨v0, v1, v2, v3, e, (rL r_api_Loop).mono h h0, (rL (rI .i64)).mono h h1, (rL (rI .i64)).mono h h2, (rL r_A2_Int).mono h h3⟩
structure raddleref27_Piece where
  Loops : (List api_Loop)
  Bound : (List Int)
  Cross : (List (Int × Int))
  Rows : (List Int)
def r_raddleref27_Piece : R raddleref27_Piece where
  sz := 4
  rep := fun E w v x => ∃ v0 v1 v2 v3, v = .agg #[v0, v1, v2, v3] ∧ (rL r_api_Loop).rep E w v0 x.Loops ∧ (rL (rI .i64)).rep E w v1 x.Bound ∧ (rL r_A2_Int).rep E w v2 x.Cross ∧ (rL (rI .i64)).rep E w v3 x.Rows
  pos := by decide
  size := by rintro _ _ _ _ ⟨v0, v1, v2, v3, rfl, h0, h1, h2, h3⟩; rfl
  one := by
    rintro _ _ _ _ ⟨v0, v1, v2, v3, rfl, h0, h1, h2, h3⟩ u hu
    simp [Value.cells] at hu
    rcases hu with rfl | rfl | rfl | rfl
    · exact (rL r_api_Loop).one h0 _ (by rw [scal_L _ _ _ _ _ h0]; simp)
    · exact (rL (rI .i64)).one h1 _ (by rw [scal_L _ _ _ _ _ h1]; simp)
    · exact (rL r_A2_Int).one h2 _ (by rw [scal_L _ _ _ _ _ h2]; simp)
    · exact (rL (rI .i64)).one h3 _ (by rw [scal_L _ _ _ _ _ h3]; simp)
  mono := by
    rintro _ _ _ _ _ _ h ⟨v0, v1, v2, v3, e, h0, h1, h2, h3⟩
    exact ⟨v0, v1, v2, v3, e, (rL r_api_Loop).mono h h0, (rL (rI .i64)).mono h h1, (rL r_A2_Int).mono h h2, (rL (rI .i64)).mono h h3⟩
def gl_stitch_form (x : stitch_form) : List Value := [.string x.letter, .int .i64 x.a.1, .int .i64 x.a.2, .int .i64 x.b.1, .int .i64 x.b.2, .bool x.sided, .int .i64 x.uses, .int .i64 x.made]
def gv_stitch_form (x : stitch_form) : Value := .agg (gl_stitch_form x).toArray
theorem callee10 : ∀ vs w, (callFunc 10 vs).run Try.prog w = .ok (.enter 10 vs) w := callee Try.func10 rfl rfl
theorem callee18 : ∀ vs w, (callFunc 18 vs).run Try.prog w = .ok (.enter 18 vs) w := callee Try.func18 rfl rfl
theorem callee21 : ∀ vs w, (callFunc 21 vs).run Try.prog w = .ok (.enter 21 vs) w := callee Try.func21 rfl rfl
theorem callee22 : ∀ vs w, (callFunc 22 vs).run Try.prog w = .ok (.enter 22 vs) w := callee Try.func22 rfl rfl
theorem callee23 : ∀ vs w, (callFunc 23 vs).run Try.prog w = .ok (.enter 23 vs) w := callee Try.func23 rfl rfl
theorem callee24 : ∀ vs w, (callFunc 24 vs).run Try.prog w = .ok (.enter 24 vs) w := callee Try.func24 rfl rfl
theorem callee25 : ∀ vs w, (callFunc 25 vs).run Try.prog w = .ok (.enter 25 vs) w := callee Try.func25 rfl rfl
theorem callee28 : ∀ vs w, (callFunc 28 vs).run Try.prog w = .ok (.enter 28 vs) w := callee Try.func28 rfl rfl
theorem callee32 : ∀ vs w, (callFunc 32 vs).run Try.prog w = .ok (.enter 32 vs) w := callee Try.func32 rfl rfl
theorem callee33 : ∀ vs w, (callFunc 33 vs).run Try.prog w = .ok (.enter 33 vs) w := callee Try.func33 rfl rfl
theorem callee34 : ∀ vs w, (callFunc 34 vs).run Try.prog w = .ok (.enter 34 vs) w := callee Try.func34 rfl rfl
theorem callee35 : ∀ vs w, (callFunc 35 vs).run Try.prog w = .ok (.enter 35 vs) w := callee Try.func35 rfl rfl
theorem callee36 : ∀ vs w, (callFunc 36 vs).run Try.prog w = .ok (.enter 36 vs) w := callee Try.func36 rfl rfl
theorem callee37 : ∀ vs w, (callFunc 37 vs).run Try.prog w = .ok (.enter 37 vs) w := callee Try.func37 rfl rfl
theorem callee38 : ∀ vs w, (callFunc 38 vs).run Try.prog w = .ok (.enter 38 vs) w := callee Try.func38 rfl rfl
theorem callee39 : ∀ vs w, (callFunc 39 vs).run Try.prog w = .ok (.enter 39 vs) w := callee Try.func39 rfl rfl
theorem callee41 : ∀ vs w, (callFunc 41 vs).run Try.prog w = .ok (.enter 41 vs) w := callee Try.func41 rfl rfl
theorem callee42 : ∀ vs w, (callFunc 42 vs).run Try.prog w = .ok (.enter 42 vs) w := callee Try.func42 rfl rfl
theorem callee43 : ∀ vs w, (callFunc 43 vs).run Try.prog w = .ok (.enter 43 vs) w := callee Try.func43 rfl rfl
theorem callee44 : ∀ vs w, (callFunc 44 vs).run Try.prog w = .ok (.enter 44 vs) w := callee Try.func44 rfl rfl
theorem callee45 : ∀ vs w, (callFunc 45 vs).run Try.prog w = .ok (.enter 45 vs) w := callee Try.func45 rfl rfl
theorem callee46 : ∀ vs w, (callFunc 46 vs).run Try.prog w = .ok (.enter 46 vs) w := callee Try.func46 rfl rfl
theorem callee47 : ∀ vs w, (callFunc 47 vs).run Try.prog w = .ok (.enter 47 vs) w := callee Try.func47 rfl rfl
theorem callee48 : ∀ vs w, (callFunc 48 vs).run Try.prog w = .ok (.enter 48 vs) w := callee Try.func48 rfl rfl
theorem callee49 : ∀ vs w, (callFunc 49 vs).run Try.prog w = .ok (.enter 49 vs) w := callee Try.func49 rfl rfl
theorem callee50 : ∀ vs w, (callFunc 50 vs).run Try.prog w = .ok (.enter 50 vs) w := callee Try.func50 rfl rfl
theorem callee51 : ∀ vs w, (callFunc 51 vs).run Try.prog w = .ok (.enter 51 vs) w := callee Try.func51 rfl rfl
theorem callee52 : ∀ vs w, (callFunc 52 vs).run Try.prog w = .ok (.enter 52 vs) w := callee Try.func52 rfl rfl
theorem callee53 : ∀ vs w, (callFunc 53 vs).run Try.prog w = .ok (.enter 53 vs) w := callee Try.func53 rfl rfl
theorem callee54 : ∀ vs w, (callFunc 54 vs).run Try.prog w = .ok (.enter 54 vs) w := callee Try.func54 rfl rfl
theorem callee55 : ∀ vs w, (callFunc 55 vs).run Try.prog w = .ok (.enter 55 vs) w := callee Try.func55 rfl rfl
theorem callee56 : ∀ vs w, (callFunc 56 vs).run Try.prog w = .ok (.enter 56 vs) w := callee Try.func56 rfl rfl
theorem callee57 : ∀ vs w, (callFunc 57 vs).run Try.prog w = .ok (.enter 57 vs) w := callee Try.func57 rfl rfl
theorem callee58 : ∀ vs w, (callFunc 58 vs).run Try.prog w = .ok (.enter 58 vs) w := callee Try.func58 rfl rfl
theorem callee59 : ∀ vs w, (callFunc 59 vs).run Try.prog w = .ok (.enter 59 vs) w := callee Try.func59 rfl rfl
theorem callee60 : ∀ vs w, (callFunc 60 vs).run Try.prog w = .ok (.enter 60 vs) w := callee Try.func60 rfl rfl
theorem callee61 : ∀ vs w, (callFunc 61 vs).run Try.prog w = .ok (.enter 61 vs) w := callee Try.func61 rfl rfl
theorem callee62 : ∀ vs w, (callFunc 62 vs).run Try.prog w = .ok (.enter 62 vs) w := callee Try.func62 rfl rfl
theorem callee63 : ∀ vs w, (callFunc 63 vs).run Try.prog w = .ok (.enter 63 vs) w := callee Try.func63 rfl rfl
theorem callee64 : ∀ vs w, (callFunc 64 vs).run Try.prog w = .ok (.enter 64 vs) w := callee Try.func64 rfl rfl
theorem callee65 : ∀ vs w, (callFunc 65 vs).run Try.prog w = .ok (.enter 65 vs) w := callee Try.func65 rfl rfl
theorem callee66 : ∀ vs w, (callFunc 66 vs).run Try.prog w = .ok (.enter 66 vs) w := callee Try.func66 rfl rfl
theorem callee67 : ∀ vs w, (callFunc 67 vs).run Try.prog w = .ok (.enter 67 vs) w := callee Try.func67 rfl rfl
theorem callee68 : ∀ vs w, (callFunc 68 vs).run Try.prog w = .ok (.enter 68 vs) w := callee Try.func68 rfl rfl
theorem callee69 : ∀ vs w, (callFunc 69 vs).run Try.prog w = .ok (.enter 69 vs) w := callee Try.func69 rfl rfl
theorem callee70 : ∀ vs w, (callFunc 70 vs).run Try.prog w = .ok (.enter 70 vs) w := callee Try.func70 rfl rfl
theorem callee71 : ∀ vs w, (callFunc 71 vs).run Try.prog w = .ok (.enter 71 vs) w := callee Try.func71 rfl rfl
theorem callee72 : ∀ vs w, (callFunc 72 vs).run Try.prog w = .ok (.enter 72 vs) w := callee Try.func72 rfl rfl
theorem callee73 : ∀ vs w, (callFunc 73 vs).run Try.prog w = .ok (.enter 73 vs) w := callee Try.func73 rfl rfl
theorem callee74 : ∀ vs w, (callFunc 74 vs).run Try.prog w = .ok (.enter 74 vs) w := callee Try.func74 rfl rfl
theorem callee75 : ∀ vs w, (callFunc 75 vs).run Try.prog w = .ok (.enter 75 vs) w := callee Try.func75 rfl rfl
theorem callee76 : ∀ vs w, (callFunc 76 vs).run Try.prog w = .ok (.enter 76 vs) w := callee Try.func76 rfl rfl

end Go.Proofs.Yticjoiolfibmlaa
namespace Go.Proofs.Yticjoiolfibmlaa
open Go.RowKit
set_option linter.unusedVariables false

open Go.ChangeShapes Go.WideShapes Go.ChangeAt Go.Joins
def InK (k : IntKind) (x : Int) : Prop := (Lit.int k x).wf = true
theorem inK_u8 {x : Int} (h : InK .u8 x) : 0 ≤ x ∧ x ≤ 255 := by
  simpa [InK, Lit.wf, IntKind.min, IntKind.max, IntKind.signed, IntKind.bits] using h
def Wl {α : Type} (p : α → Prop) (xs : List α) : Prop := xs.length ≤ 9223372036854775807 ∧ ∀ x, x ∈ xs → p x
/-- cells of a type read, well formed -/
def OpC {α : Type} (P : Program) (t : TypeId) (r : R α) (p : α → Prop) : Prop :=
  ∀ (H : Type) (enc : TypeId × Value → H) (w : World) (base : Nat) (spare : Nat → Bool) (held : Bool) (fuel : Nat) (cs : List Value) (x : DataW H × List MemPlace),
    DataW.trod enc P w base spare held fuel t cs = some x → ∃ v y, v.cells.toList = cs ∧ r.rep (fun _ => False) w v y ∧ p y
section
variable {P : Program}
theorem op_int {t : TypeId} (k : IntKind) (ht : P.underlying t = some (.int k)) : OpC P t (rI k) (InK k) := fun H enc w base spare held fuel cs x h => by
  obtain ⟨n, rfl, _, hw⟩ := DataW.trod_int ht h
  exact ⟨_, n, rfl, rfl, hw⟩
theorem op_bool {t : TypeId} (ht : P.underlying t = some .bool) : OpC P t rB (fun _ => True) := fun H enc w base spare held fuel cs x h => by
  obtain ⟨n, rfl, _⟩ := DataW.trod_bool ht h
  exact ⟨_, n, rfl, rfl, trivial⟩
theorem choose_list {α : Type} {n : Nat} {p : Nat → α → Prop} (h : ∀ i, i < n → ∃ x, p i x) : ∃ l : List α, l.length = n ∧ ∀ i x, l[i]? = some x → p i x := by
  induction n with
  | zero => exact ⟨[], rfl, fun i x hi => by simp at hi⟩
  | succ n ih =>
    obtain ⟨l, hl, hp⟩ := ih fun i hi => h i (by omega)
    obtain ⟨x, hx⟩ := h n (by omega)
    refine ⟨l ++ [x], by simp [hl], fun i y hi => ?_⟩
    by_cases e : i < l.length
    · rw [List.getElem?_append_left e] at hi; exact hp i y hi
    · rw [List.getElem?_append_right (by omega)] at hi
      have : i - l.length = 0 := by
        have := (List.getElem?_eq_some_iff.1 hi).1
        simp at this; omega
      rw [this] at hi
      simp at hi; subst hi
      have : i = n := by omega
      subst this; exact hx
theorem op_slice {α : Type} {t e : TypeId} {r : R α} {p : α → Prop} (ht : P.underlying t = some (.slice e)) (hc : P.cellsOf e = r.sz) (he : OpC P e r p) : OpC P t (rL r) (Wl p) := fun H enc w base spare held fuel cs x h => by
  rcases Go.Deep.open_slice ht h with ⟨rfl, _⟩ | ⟨a, len, cap, m, n, D, Pl, rfl, _, hl, hm, hmm, _, hx⟩
  · exact ⟨_, [], rfl, rL_nil _ _ _, by simp, fun x hx => by simp at hx⟩
  · have hlm : len ≤ m := by rw [hmm]; split <;> omega
    obtain ⟨b, off, spot⟩ := a
    have hcell : ∀ i, i < len → ∃ vy : Value × α, (∀ j, j < r.sz → w.cell? ((⟨b, off, spot⟩ : Addr).add (i * r.sz + j)) = vy.1.cells.toList[j]?) ∧ r.rep (fun _ => False) w vy.1 vy.2 ∧ p vy.2 := fun i hi => by
      obtain ⟨cs, h1, h2⟩ := hx i (by omega)
      obtain ⟨_, h3, h4⟩ := World.cells?_some h1
      obtain ⟨v, y, h5, h6, h7⟩ := he _ _ _ _ _ _ _ _ _ h2
      refine ⟨(v, y), fun j hj => ?_, h6, h7⟩
      have := h4 j (by rw [hc]; exact hj)
      rw [Addr.add_add, hc] at this
      rw [this, h5]
    obtain ⟨l, hll, hlp⟩ := choose_list hcell
    subst hll
    have hA : All r (fun _ => False) w (l.map (·.1)) (l.map (·.2)) := ⟨by simp, fun k v x hv hx => by
      rw [List.getElem?_map] at hv hx
      cases hk : l[k]? with
      | none => rw [hk] at hv; cases hv
      | some q => rw [hk] at hv hx; simp at hv hx; subst hv hx; exact (hlp k q hk).2.1⟩
    refine ⟨.slice (some ⟨b, off, spot⟩) l.length cap, l.map (·.2), rfl, ?_, by simp [maxLen] at hm ⊢; omega, fun x hx => ?_⟩
    · refine ⟨some ⟨b, off, spot⟩, cap, l.map (·.1), by simp, by simpa using hl, by simp [maxLen] at hm ⊢; omega, hA, fun k u hu => ?_⟩
      have hsz := fun v hv => (hA.cells v hv).1
      have hk := (List.getElem?_eq_some_iff.1 hu).1
      rw [flat_length hsz] at hk
      simp only [List.length_map] at hk
      have hi : k / r.sz < l.length := Nat.div_lt_of_lt_mul (by rw [Nat.mul_comm]; exact hk)
      have hj := Nat.mod_lt k r.pos
      have hq : l[k / r.sz]? = some l[k / r.sz] := List.getElem?_eq_getElem hi
      have h1 := (hlp _ _ hq).1 (k % r.sz) hj
      have h2 := flat_get hsz (k := k / r.sz) (v := l[k / r.sz].1) (by rw [List.getElem?_map, hq]; rfl) hj
      rw [Nat.mul_comm, Nat.div_add_mod] at h1 h2
      rw [hu] at h2
      rw [← h2] at h1
      have hspot : spot = none := by
        have h0 : 0 < l.length := Nat.lt_of_le_of_lt (Nat.zero_le _) hi
        have hq0 : l[0]? = some l[0] := List.getElem?_eq_getElem h0
        have h3 := (hlp 0 _ hq0).1 0 r.pos
        have hs0 := r.size (hlp 0 _ hq0).2.1
        rw [List.getElem?_eq_getElem (by rw [Array.length_toList, hs0]; exact r.pos)] at h3
        simpa [Addr.add] using World.cell?_spot h3
      subst hspot
      rw [add_addr] at h1
      exact ⟨b, off, rfl, not_false, World.block_lt_of_cell? w _ h1, h1⟩
    · obtain ⟨q, hq, rfl⟩ := List.mem_map.1 hx
      obtain ⟨k, hk, rfl⟩ := List.getElem_of_mem hq
      exact (hlp k _ (List.getElem?_eq_getElem hk)).2.2
theorem top_agg {α : Type} {H : Type} {enc : TypeId × Value → H} {w : World} {base b0 : Nat} {spare : Nat → Bool} {held : Bool} {rr : Reach} {v : Value} {d : DataW H} {p : List MemPlace} {t : TypeId} {fs : Array Field} {r : R α} {q : α → Prop} (ht : P.underlying t = some (.struct fs)) (hr : Aggr r) (ho : OpC P t r q)
    (hv : Value.okWide P w rr b0 t v) (h : DataW.Trod enc P w base spare held t v d p) : ∃ y, r.rep (fun _ => False) w v y ∧ q y := by
  obtain ⟨cs, rfl, hsz⟩ := okWide_struct ht hv
  obtain ⟨fuel, hf⟩ := h
  obtain ⟨v, y, h1, h2, h3⟩ := ho _ _ _ _ _ _ _ _ _ hf
  obtain ⟨ds, rfl⟩ := hr _ _ _ _ h2
  simp [Value.cells] at h1
  subst h1
  exact ⟨y, h2, h3⟩
theorem St0.start {w : World} {D : List Fact} (h : ∀ d, d ∈ D → d.p (fun _ => False) w) : St0 (fun _ => False) [] w w [] D := by
  have hE : tot (fun _ => False) [] = (fun _ => False) := by funext b; simp [tot, keysL]
  exact ⟨Chg.refl _ _, by simp, fun d hd => by rw [hE]; exact h d hd, by simp [keysL], by simp [keysL], fun _ h => h.elim⟩
theorem Chg.below {w w' : World} (h : Chg [] w w') : Below w.heap.size w w' := ⟨h.os, h.tape, h.output, h.size, fun k hk => h.block k hk (by simp)⟩
theorem len2 {α : Type} {l : List α} (h : l.length = 2) : ∃ a b, l = [a, b] := by match l, h with | [a, b], _ => exact ⟨a, b, rfl⟩
theorem len4 {α : Type} {l : List α} (h : l.length = 4) : ∃ a b c d, l = [a, b, c, d] := by match l, h with | [a, b, c, d], _ => exact ⟨a, b, c, d, rfl⟩
end
theorem fld {α : Type} {x : Option α} {ys : List α} {i : Nat} (h : x = ys[i]?) (hi : i < ys.length) : ∃ z, x = some z := ⟨ys[i], by rw [h]; exact List.getElem?_eq_getElem hi⟩

end Go.Proofs.Yticjoiolfibmlaa
namespace Go.Proofs.Yticjoiolfibmlaa
open Go.RowKit
set_option linter.unusedVariables false

open Go.ChangeShapes Go.WideShapes Go.ChangeAt Go.Joins
def wf_api_Stitch (x : api_Stitch) : Prop := (InK .u8) x.Kind ∧ (fun _ => True) x.Purl ∧ (InK .i64) x.A ∧ (InK .i64) x.B
theorem op_api_Stitch : OpC Try.prog 61 r_api_Stitch wf_api_Stitch := fun H enc w base spare held fuel cs x h => by
  obtain ⟨ys, m, _, _, hl, hy, hf⟩ := DataW.trod_struct Try.underlying61 h
  obtain ⟨c0, c1, c2, c3, rfl⟩ := len4 (hl.trans (by kernel_rfl))
  obtain ⟨z0, f0⟩ := fld (hf 0 _ rfl) (by rw [hy]; decide)
  obtain ⟨u0, y0, k0, r0, w0⟩ := (op_int .u8 Try.underlying5) _ _ _ _ _ _ _ _ _ f0
  replace k0 : u0.cells.toList = [c0] := k0.trans (by kernel_rfl)
  obtain rfl : u0 = .int .u8 y0 := r0
  obtain rfl : Value.int .u8 y0 = c0 := by simpa [Value.cells] using k0
  obtain ⟨z1, f1⟩ := fld (hf 1 _ rfl) (by rw [hy]; decide)
  obtain ⟨u1, y1, k1, r1, w1⟩ := (op_bool Try.underlying4) _ _ _ _ _ _ _ _ _ f1
  replace k1 : u1.cells.toList = [c1] := k1.trans (by kernel_rfl)
  obtain rfl : u1 = .bool y1 := r1
  obtain rfl : Value.bool y1 = c1 := by simpa [Value.cells] using k1
  obtain ⟨z2, f2⟩ := fld (hf 2 _ rfl) (by rw [hy]; decide)
  obtain ⟨u2, y2, k2, r2, w2⟩ := (op_int .i64 Try.underlying3) _ _ _ _ _ _ _ _ _ f2
  replace k2 : u2.cells.toList = [c2] := k2.trans (by kernel_rfl)
  obtain rfl : u2 = .int .i64 y2 := r2
  obtain rfl : Value.int .i64 y2 = c2 := by simpa [Value.cells] using k2
  obtain ⟨z3, f3⟩ := fld (hf 3 _ rfl) (by rw [hy]; decide)
  obtain ⟨u3, y3, k3, r3, w3⟩ := (op_int .i64 Try.underlying3) _ _ _ _ _ _ _ _ _ f3
  replace k3 : u3.cells.toList = [c3] := k3.trans (by kernel_rfl)
  obtain rfl : u3 = .int .i64 y3 := r3
  obtain rfl : Value.int .i64 y3 = c3 := by simpa [Value.cells] using k3
  exact ⟨_, ⟨y0, y1, y2, y3⟩, rfl, rfl, ⟨w0, w1, w2, w3⟩⟩
def wf_api_Row (x : api_Row) : Prop := (fun _ => True) x.Back ∧ (Wl wf_api_Stitch) x.Cells
theorem op_api_Row : OpC Try.prog 65 r_api_Row wf_api_Row := fun H enc w base spare held fuel cs x h => by
  obtain ⟨ys, m, _, _, hl, hy, hf⟩ := DataW.trod_struct Try.underlying65 h
  obtain ⟨c0, c1, rfl⟩ := len2 (hl.trans (by kernel_rfl))
  obtain ⟨z0, f0⟩ := fld (hf 0 _ rfl) (by rw [hy]; decide)
  obtain ⟨u0, y0, k0, r0, w0⟩ := (op_bool Try.underlying4) _ _ _ _ _ _ _ _ _ f0
  replace k0 : u0.cells.toList = [c0] := k0.trans (by kernel_rfl)
  obtain rfl : u0 = .bool y0 := r0
  obtain rfl : Value.bool y0 = c0 := by simpa [Value.cells] using k0
  obtain ⟨z1, f1⟩ := fld (hf 1 _ rfl) (by rw [hy]; decide)
  obtain ⟨u1, y1, k1, r1, w1⟩ := (op_slice (r := r_api_Stitch) Try.underlying62 (by kernel_rfl) op_api_Stitch) _ _ _ _ _ _ _ _ _ f1
  replace k1 : u1.cells.toList = [c1] := k1.trans (by kernel_rfl)
  rw [scal_L _ _ _ _ _ r1] at k1
  obtain rfl : u1 = c1 := by simpa using k1
  exact ⟨_, ⟨y0, y1⟩, rfl, ⟨_, rfl, r1⟩, ⟨w0, w1⟩⟩
def wf_api_Chart (x : api_Chart) : Prop := (InK .i64) x.Start ∧ (Wl wf_api_Row) x.Rows
theorem op_api_Chart : OpC Try.prog 24 r_api_Chart wf_api_Chart := fun H enc w base spare held fuel cs x h => by
  obtain ⟨ys, m, _, _, hl, hy, hf⟩ := DataW.trod_struct Try.underlying24 h
  obtain ⟨c0, c1, rfl⟩ := len2 (hl.trans (by kernel_rfl))
  obtain ⟨z0, f0⟩ := fld (hf 0 _ rfl) (by rw [hy]; decide)
  obtain ⟨u0, y0, k0, r0, w0⟩ := (op_int .i64 Try.underlying3) _ _ _ _ _ _ _ _ _ f0
  replace k0 : u0.cells.toList = [c0] := k0.trans (by kernel_rfl)
  obtain rfl : u0 = .int .i64 y0 := r0
  obtain rfl : Value.int .i64 y0 = c0 := by simpa [Value.cells] using k0
  obtain ⟨z1, f1⟩ := fld (hf 1 _ rfl) (by rw [hy]; decide)
  obtain ⟨u1, y1, k1, r1, w1⟩ := (op_slice (r := r_api_Row) Try.underlying22 (by kernel_rfl) op_api_Row) _ _ _ _ _ _ _ _ _ f1
  replace k1 : u1.cells.toList = [c1] := k1.trans (by kernel_rfl)
  rw [scal_L _ _ _ _ _ r1] at k1
  obtain rfl : u1 = c1 := by simpa using k1
  exact ⟨_, ⟨y0, y1⟩, rfl, ⟨_, rfl, r1⟩, ⟨w0, w1⟩⟩
end Go.Proofs.Yticjoiolfibmlaa
namespace Go.Proofs.Yticjoiolfibmlaa
open Go.RowKit
set_option linter.unusedVariables false

theorem w64_of {x : Int} (h0 : -9223372036854775808 ≤ x) (h1 : x ≤ 9223372036854775807) : w64 x = x := w64_id ⟨h0, h1⟩
theorem w64_succ {k : Nat} (h : k < 9223372036854775807) : w64 ((k : Int) + 1) = ((k + 1 : Nat) : Int) := by
  rw [w64_of (by omega) (by omega)]; omega
theorem idxO_nat {α : Type} {xs : List α} {k : Nat} (h : k < xs.length) : idxO xs (k : Int) = some xs[k] := by
  simp [idxO, h]
theorem idxO_of {α : Type} {xs : List α} {i : Int} {k : Nat} (hi : i = (k : Int)) (h : k < xs.length) : idxO xs i = some xs[k] := by subst hi; exact idxO_nat h
theorem setO_nat {α : Type} {xs : List α} {k : Nat} {y : α} (h : k < xs.length) : setO xs (k : Int) y = some (xs.set k y) := by
  simp [setO, h]
theorem appO_of {α : Type} {xs ys : List α} (h : xs.length + ys.length ≤ 68719476736) : appO xs ys = some (xs ++ ys) := by
  simp [appO, lim, h]
theorem capO_of {n : Int} {k : Nat} (h : n = (k : Int)) (hk : k ≤ 68719476736) : capO n = some () := by
  subst h; simp [capO, lim, hk]
theorem makeO_of {α : Type} {n : Int} {z : α} {k : Nat} (h : n = (k : Int)) (hk : k ≤ 68719476736) : makeO n z = some (List.replicate k z) := by
  subst h; simp [makeO, lim, hk]
theorem sliceO_of {α : Type} {xs : List α} {lo hi : Int} {l k : Nat} (h1 : lo = l) (h2 : hi = k) (h3 : l ≤ k) (h4 : k ≤ xs.length) : sliceO xs lo hi = some ((xs.take k).drop l) := by
  subst h1 h2; simp [sliceO, h3, h4]
/-- a loop over an index alone -/
theorem loop_ix {τ : Type} {B : Int → Option (Int ⊕ τ)} (n : Nat) (I : Nat → Prop) (Pt : τ → Prop) (h0 : I 0)
    (step : ∀ k, k < n → I k → (B (k : Int) = some (.inl ((k + 1 : Nat) : Int)) ∧ I (k + 1)) ∨ (∃ t, B (k : Int) = some (.inr t) ∧ Pt t))
    (last : I n → ∃ t, B (n : Int) = some (.inr t) ∧ Pt t) : ∃ t, whileO B 0 = some t ∧ Pt t := by
  refine whileO_inv (fun s => ∃ k : Nat, k ≤ n ∧ s = (k : Int) ∧ I k) (fun s => ((n : Int) - s).toNat) Pt ⟨0, Nat.zero_le _, rfl, h0⟩ ?_
  rintro i ⟨k, hk, rfl, hI⟩
  by_cases hlt : k < n
  · rcases step k hlt hI with ⟨h1, h2⟩ | h
    · exact .inl ⟨_, h1, ⟨k + 1, hlt, rfl, h2⟩, by simp; omega⟩
    · exact .inr h
  · obtain rfl : k = n := by omega
    exact .inr (last hI)

end Go.Proofs.Yticjoiolfibmlaa
namespace Go.Proofs.Yticjoiolfibmlaa
open Go.RowKit
set_option linter.unusedVariables false

/-- a loop that tests all, and says bad at the first that fails -/
theorem loop_all {τ : Type} {B : Int → Option (Int ⊕ τ)} (n : Nat) (p : Nat → Bool) (good bad : τ)
    (h : ∀ k, k < n → B (k : Int) = some (if p k = true then .inl ((k + 1 : Nat) : Int) else .inr bad)) (hn : B (n : Int) = some (.inr good)) :
    whileO B 0 = some (if (List.range n).all p = true then good else bad) := by
  have key : ∃ t, whileO B 0 = some t ∧ t = if (List.range n).all p = true then good else bad := by
    refine loop_ix n (fun k => ∀ j, j < k → p j = true) _ (fun j h => absurd h (Nat.not_lt_zero j)) ?_ ?_
    · intro k hk hI
      cases hf : p k with
      | true =>
        refine .inl ⟨by rw [h k hk, if_pos hf], fun j hj => ?_⟩
        by_cases e : j = k
        · rw [e]; exact hf
        · exact hI j (by omega)
      | false =>
        refine .inr ⟨bad, by rw [h k hk, hf]; simp, ?_⟩
        rw [if_neg]
        intro hc
        rw [List.all_eq_true] at hc
        have := hc k (List.mem_range.2 hk)
        rw [hf] at this; cases this
    · intro hI
      refine ⟨good, hn, ?_⟩
      rw [if_pos]
      rw [List.all_eq_true]
      exact fun j hj => hI j (List.mem_range.1 hj)
  obtain ⟨t, h1, rfl⟩ := key
  exact h1
theorem dT {p : Prop} [Decidable p] (h : p) : decide p = true := decide_eq_true h
theorem dF {p : Prop} [Decidable p] (h : ¬ p) : decide p = false := decide_eq_false h
theorem bT {a b : Int} (h : a = b) : (a == b) = true := by simp [h]
theorem bF {a b : Int} (h : ¬ a = b) : (a == b) = false := by simp [h]
theorem nT {a b : Int} (h : ¬ a = b) : (a != b) = true := by simp [h]
theorem nF {a b : Int} (h : a = b) : (a != b) = false := by simp [h]
/-- a row filled from its start on -/
def Fill {α : Type} (n : Nat) (f : Nat → α) (k : Nat) (s : List α) : Prop := s.length = n ∧ ∀ j, j < k → s[j]? = some (f j)
theorem Fill.zero {α : Type} (n : Nat) (f : Nat → α) (z : α) : Fill n f 0 (List.replicate n z) := ⟨by simp, fun j hj => absurd hj (Nat.not_lt_zero j)⟩
theorem Fill.set {α : Type} {n : Nat} {f : Nat → α} {k : Nat} {s : List α} (h : Fill n f k s) (hk : k < n) : Fill n f (k + 1) (s.set k (f k)) := by
  refine ⟨by simp [h.1], fun j hj => ?_⟩
  by_cases e : j = k
  · subst e; simp [h.1, hk]
  · rw [List.getElem?_set_ne (fun h => e h.symm)]; exact h.2 j (by omega)
theorem Fill.all {α : Type} {n : Nat} {f : Nat → α} {s : List α} (h : Fill n f n s) : s = (List.range n).map f := by
  apply List.ext_getElem?
  intro j
  by_cases hj : j < n
  · rw [h.2 j hj]; simp [hj]
  · rw [List.getElem?_eq_none (by rw [h.1]; omega), List.getElem?_eq_none (by simp; omega)]
end Go.Proofs.Yticjoiolfibmlaa
namespace Go.Proofs.Yticjoiolfibmlaa
open Go.RowKit
set_option linter.unusedVariables false

noncomputable def F_stitch_forms (p0 : Int) : Option (stitch_form × Bool) :=
  Option.bind (α := Bool) (
    if decide (p0 < 1) then
      some true
    else
      some (decide (([(stitch_form.mk (⟨#[]⟩ : ByteArray) (0, 0) (0, 0) true 1 1), (stitch_form.mk (⟨#[]⟩ : ByteArray) (0, 0) (0, 0) false 0 1), (stitch_form.mk (⟨#[102]⟩ : ByteArray) (2, 4) (0, 0) true 2 1), (stitch_form.mk (⟨#[108]⟩ : ByteArray) (2, 4) (0, 0) true 2 1), (stitch_form.mk (⟨#[109]⟩ : ByteArray) (2, 4) (0, 0) true 1 2), (stitch_form.mk (⟨#[120]⟩ : ByteArray) (1, 6) (1, 6) true 3 3), (stitch_form.mk (⟨#[121]⟩ : ByteArray) (1, 6) (1, 6) true 3 3), (stitch_form.mk (⟨#[115]⟩ : ByteArray) (0, 0) (0, 0) true 1 1), (stitch_form.mk (⟨#[]⟩ : ByteArray) (1, 200) (0, 0) false 0 2), (stitch_form.mk (⟨#[111]⟩ : ByteArray) (1, 200) (0, 0) true 2 0)].length : Int) < (IntKind.i64.wrap p0)))) fun o12 =>
  if o12 then
    some ((stitch_form.mk (⟨#[]⟩ : ByteArray) (0, 0) (0, 0) false 0 0), false)
  else
    Option.bind (idxO [(stitch_form.mk (⟨#[]⟩ : ByteArray) (0, 0) (0, 0) true 1 1), (stitch_form.mk (⟨#[]⟩ : ByteArray) (0, 0) (0, 0) false 0 1), (stitch_form.mk (⟨#[102]⟩ : ByteArray) (2, 4) (0, 0) true 2 1), (stitch_form.mk (⟨#[108]⟩ : ByteArray) (2, 4) (0, 0) true 2 1), (stitch_form.mk (⟨#[109]⟩ : ByteArray) (2, 4) (0, 0) true 1 2), (stitch_form.mk (⟨#[120]⟩ : ByteArray) (1, 6) (1, 6) true 3 3), (stitch_form.mk (⟨#[121]⟩ : ByteArray) (1, 6) (1, 6) true 3 3), (stitch_form.mk (⟨#[115]⟩ : ByteArray) (0, 0) (0, 0) true 1 1), (stitch_form.mk (⟨#[]⟩ : ByteArray) (1, 200) (0, 0) false 0 2), (stitch_form.mk (⟨#[111]⟩ : ByteArray) (1, 200) (0, 0) true 2 0)] (IntKind.u8.wrap (p0 - 1))) fun x19 =>
    some (x19, true)
def c_stitch_forms_val (r : (stitch_form × Bool)) (x : Value) : Value := .tuple #[x, .bool r.2]
def c_stitch_forms_D (r : (stitch_form × Bool)) (x : Value) : List Fact := [fRep r_stitch_form x r.1]
set_option maxHeartbeats 4000000 in
set_option maxRecDepth 100000 in
theorem c_stitch_forms (E : Nat → Prop) (w0 : World) (p0 : Int) (r : (stitch_form × Bool)) (h : F_stitch_forms p0 = some r) (S : St0 E [] w0 w0 [] []) :
    Calls Try.prog 67 #[.int .u8 p0] w0 (Ret (X := Value) E [] w0 (c_stitch_forms_val r) (fun _ => []) (c_stitch_forms_D r)) := by
  unfold F_stitch_forms at h
  refine sEnter (args := [.int .u8 p0]) 57 Try.func67 rfl rfl (by simp) S (fun a S => ?_)
  refine sSeq (fun K1 hK1 => ?_)
  refine sRegion ?_
  refine sAlloc (gv_stitch_form (stitch_form.mk (⟨#[]⟩ : ByteArray) (0, 0) (0, 0) false 0 0)) S (wN rfl) rfl rfl (gl_stitch_form (stitch_form.mk (⟨#[]⟩ : ByteArray) (0, 0) (0, 0) false 0 0)) rfl rfl (lb rfl) fun a b2 w S => ?_
  refine sMove (.bool false) S (wN rfl) (.inr rfl) rfl rfl (lb rfl) fun a S => ?_
  refine leafL (leafT (hK1 _ _ ?_))
  refine sSeq (fun K3 hK3 => ?_)
  refine sRegion ?_
  refine sBuild [(0, iv 2), (1, iv 4)] [iv 2, iv 4] S (wN rfl) rfl rfl rfl rfl (lb rfl) fun a S => ?_
  refine sBuild [(0, iv 1), (1, iv 6)] [iv 1, iv 6] S (wN rfl) rfl rfl rfl rfl (lb rfl) fun a S => ?_
  refine sAlloc (.agg #[iv 0, iv 0]) S (wN rfl) rfl rfl [iv 0, iv 0] rfl rfl (lb rfl) fun a b4 w S => ?_
  refine sAlloc (.agg #[iv 0, iv 0]) S (wN rfl) rfl rfl [iv 0, iv 0] rfl rfl (lb rfl) fun a b5 w S => ?_
  refine sStore (p := b4) (off := 0) (T := 49) (vs := [iv 0, iv 0]) (v := .agg #[iv 2, iv 4]) 1 [iv 2, iv 4] S (wN rfl) rfl rfl rfl rfl rfl rfl rfl (by simp) rfl fun a w S => ?_
  refine sStore (p := b5) (off := 0) (T := 49) (vs := [iv 0, iv 0]) (v := .agg #[iv 1, iv 6]) 1 [iv 1, iv 6] S (wN rfl) rfl rfl rfl rfl rfl rfl rfl (by simp) rfl fun a w S => ?_
  refine leafL (leafT (hK3 _ _ ?_))
  refine sSeq (fun K6 hK6 => ?_)
  refine sRegion ?_
  refine sBuild [(0, iv 1), (1, iv 200)] [iv 1, iv 200] S (wN rfl) rfl rfl rfl rfl (lb rfl) fun a S => ?_
  refine sAlloc (.agg #[iv 0, iv 0]) S (wN rfl) rfl rfl [iv 0, iv 0] rfl rfl (lb rfl) fun a b7 w S => ?_
  refine sStore (p := b7) (off := 0) (T := 49) (vs := [iv 0, iv 0]) (v := .agg #[iv 1, iv 200]) 0 [iv 1, iv 200] S (wN rfl) rfl rfl rfl rfl rfl rfl rfl (by simp) rfl fun a w S => ?_
  refine leafL (leafT (hK6 _ _ ?_))
  refine sSeq (fun K8 hK8 => ?_)
  refine sRegion ?_
  refine sBuild [] [iv 0, iv 0] S (wN rfl) rfl rfl rfl rfl (lb rfl) fun a S => ?_
  refine sBuild [] [iv 0, iv 0] S (wN rfl) rfl rfl rfl rfl (lb rfl) fun a S => ?_
  refine sBuild [(0, .string (⟨#[]⟩ : ByteArray)), (1, .agg #[iv 0, iv 0]), (2, .agg #[iv 0, iv 0]), (3, .bool true), (4, iv 1), (5, iv 1)] (gl_stitch_form (stitch_form.mk (⟨#[]⟩ : ByteArray) (0, 0) (0, 0) true 1 1)) S (wN rfl) rfl rfl rfl rfl (lb rfl) fun a S => ?_
  refine sBuild [] [iv 0, iv 0] S (wN rfl) rfl rfl rfl rfl (lb rfl) fun a S => ?_
  refine sBuild [] [iv 0, iv 0] S (wN rfl) rfl rfl rfl rfl (lb rfl) fun a S => ?_
  refine sBuild [(0, .string (⟨#[]⟩ : ByteArray)), (1, .agg #[iv 0, iv 0]), (2, .agg #[iv 0, iv 0]), (3, .bool false), (4, iv 0), (5, iv 1)] (gl_stitch_form (stitch_form.mk (⟨#[]⟩ : ByteArray) (0, 0) (0, 0) false 0 1)) S (wN rfl) rfl rfl rfl rfl (lb rfl) fun a S => ?_
  refine sLoadN (p := b4) (off := 0) (T := 49) (vs := [iv 2, iv 4]) 2 [iv 2, iv 4] S (wN rfl) rfl rfl rfl rfl rfl rfl rfl (lb rfl) fun a S => ?_
  refine sBuild [] [iv 0, iv 0] S (wN rfl) rfl rfl rfl rfl (lb rfl) fun a S => ?_
  refine sBuild [(0, .string (⟨#[102]⟩ : ByteArray)), (1, .agg #[iv 2, iv 4]), (2, .agg #[iv 0, iv 0]), (3, .bool true), (4, iv 2), (5, iv 1)] (gl_stitch_form (stitch_form.mk (⟨#[102]⟩ : ByteArray) (2, 4) (0, 0) true 2 1)) S (wN rfl) rfl rfl rfl rfl (lb rfl) fun a S => ?_
  refine sLoadN (p := b4) (off := 0) (T := 49) (vs := [iv 2, iv 4]) 2 [iv 2, iv 4] S (wN rfl) rfl rfl rfl rfl rfl rfl rfl (lb rfl) fun a S => ?_
  refine sBuild [] [iv 0, iv 0] S (wN rfl) rfl rfl rfl rfl (lb rfl) fun a S => ?_
  refine sBuild [(0, .string (⟨#[108]⟩ : ByteArray)), (1, .agg #[iv 2, iv 4]), (2, .agg #[iv 0, iv 0]), (3, .bool true), (4, iv 2), (5, iv 1)] (gl_stitch_form (stitch_form.mk (⟨#[108]⟩ : ByteArray) (2, 4) (0, 0) true 2 1)) S (wN rfl) rfl rfl rfl rfl (lb rfl) fun a S => ?_
  refine sLoadN (p := b4) (off := 0) (T := 49) (vs := [iv 2, iv 4]) 2 [iv 2, iv 4] S (wN rfl) rfl rfl rfl rfl rfl rfl rfl (lb rfl) fun a S => ?_
  refine sBuild [] [iv 0, iv 0] S (wN rfl) rfl rfl rfl rfl (lb rfl) fun a S => ?_
  refine sBuild [(0, .string (⟨#[109]⟩ : ByteArray)), (1, .agg #[iv 2, iv 4]), (2, .agg #[iv 0, iv 0]), (3, .bool true), (4, iv 1), (5, iv 2)] (gl_stitch_form (stitch_form.mk (⟨#[109]⟩ : ByteArray) (2, 4) (0, 0) true 1 2)) S (wN rfl) rfl rfl rfl rfl (lb rfl) fun a S => ?_
  refine sLoadN (p := b5) (off := 0) (T := 49) (vs := [iv 1, iv 6]) 1 [iv 1, iv 6] S (wN rfl) rfl rfl rfl rfl rfl rfl rfl (lb rfl) fun a S => ?_
  refine sLoadN (p := b5) (off := 0) (T := 49) (vs := [iv 1, iv 6]) 1 [iv 1, iv 6] S (wN rfl) rfl rfl rfl rfl rfl rfl rfl (lb rfl) fun a S => ?_
  refine sBuild [(0, .string (⟨#[120]⟩ : ByteArray)), (1, .agg #[iv 1, iv 6]), (2, .agg #[iv 1, iv 6]), (3, .bool true), (4, iv 3), (5, iv 3)] (gl_stitch_form (stitch_form.mk (⟨#[120]⟩ : ByteArray) (1, 6) (1, 6) true 3 3)) S (wN rfl) rfl rfl rfl rfl (lb rfl) fun a S => ?_
  refine sLoadN (p := b5) (off := 0) (T := 49) (vs := [iv 1, iv 6]) 1 [iv 1, iv 6] S (wN rfl) rfl rfl rfl rfl rfl rfl rfl (lb rfl) fun a S => ?_
  refine sLoadN (p := b5) (off := 0) (T := 49) (vs := [iv 1, iv 6]) 1 [iv 1, iv 6] S (wN rfl) rfl rfl rfl rfl rfl rfl rfl (lb rfl) fun a S => ?_
  refine sBuild [(0, .string (⟨#[121]⟩ : ByteArray)), (1, .agg #[iv 1, iv 6]), (2, .agg #[iv 1, iv 6]), (3, .bool true), (4, iv 3), (5, iv 3)] (gl_stitch_form (stitch_form.mk (⟨#[121]⟩ : ByteArray) (1, 6) (1, 6) true 3 3)) S (wN rfl) rfl rfl rfl rfl (lb rfl) fun a S => ?_
  refine sBuild [] [iv 0, iv 0] S (wN rfl) rfl rfl rfl rfl (lb rfl) fun a S => ?_
  refine sBuild [] [iv 0, iv 0] S (wN rfl) rfl rfl rfl rfl (lb rfl) fun a S => ?_
  refine sBuild [(0, .string (⟨#[115]⟩ : ByteArray)), (1, .agg #[iv 0, iv 0]), (2, .agg #[iv 0, iv 0]), (3, .bool true), (4, iv 1), (5, iv 1)] (gl_stitch_form (stitch_form.mk (⟨#[115]⟩ : ByteArray) (0, 0) (0, 0) true 1 1)) S (wN rfl) rfl rfl rfl rfl (lb rfl) fun a S => ?_
  refine sLoadN (p := b7) (off := 0) (T := 49) (vs := [iv 1, iv 200]) 0 [iv 1, iv 200] S (wN rfl) rfl rfl rfl rfl rfl rfl rfl (lb rfl) fun a S => ?_
  refine sBuild [] [iv 0, iv 0] S (wN rfl) rfl rfl rfl rfl (lb rfl) fun a S => ?_
  refine sBuild [(0, .string (⟨#[]⟩ : ByteArray)), (1, .agg #[iv 1, iv 200]), (2, .agg #[iv 0, iv 0]), (3, .bool false), (4, iv 0), (5, iv 2)] (gl_stitch_form (stitch_form.mk (⟨#[]⟩ : ByteArray) (1, 200) (0, 0) false 0 2)) S (wN rfl) rfl rfl rfl rfl (lb rfl) fun a S => ?_
  refine sLoadN (p := b7) (off := 0) (T := 49) (vs := [iv 1, iv 200]) 0 [iv 1, iv 200] S (wN rfl) rfl rfl rfl rfl rfl rfl rfl (lb rfl) fun a S => ?_
  refine sBuild [] [iv 0, iv 0] S (wN rfl) rfl rfl rfl rfl (lb rfl) fun a S => ?_
  refine sBuild [(0, .string (⟨#[111]⟩ : ByteArray)), (1, .agg #[iv 1, iv 200]), (2, .agg #[iv 0, iv 0]), (3, .bool true), (4, iv 2), (5, iv 0)] (gl_stitch_form (stitch_form.mk (⟨#[111]⟩ : ByteArray) (1, 200) (0, 0) true 2 0)) S (wN rfl) rfl rfl rfl rfl (lb rfl) fun a S => ?_
  have S := S.learn (fRep r_stitch_form (gv_stitch_form (stitch_form.mk (⟨#[]⟩ : ByteArray) (0, 0) (0, 0) true 1 1)) (stitch_form.mk (⟨#[]⟩ : ByteArray) (0, 0) (0, 0) true 1 1)) rfl
  have S := S.learn (fRep r_stitch_form (gv_stitch_form (stitch_form.mk (⟨#[]⟩ : ByteArray) (0, 0) (0, 0) false 0 1)) (stitch_form.mk (⟨#[]⟩ : ByteArray) (0, 0) (0, 0) false 0 1)) rfl
  have S := S.learn (fRep r_stitch_form (gv_stitch_form (stitch_form.mk (⟨#[102]⟩ : ByteArray) (2, 4) (0, 0) true 2 1)) (stitch_form.mk (⟨#[102]⟩ : ByteArray) (2, 4) (0, 0) true 2 1)) rfl
  have S := S.learn (fRep r_stitch_form (gv_stitch_form (stitch_form.mk (⟨#[108]⟩ : ByteArray) (2, 4) (0, 0) true 2 1)) (stitch_form.mk (⟨#[108]⟩ : ByteArray) (2, 4) (0, 0) true 2 1)) rfl
  have S := S.learn (fRep r_stitch_form (gv_stitch_form (stitch_form.mk (⟨#[109]⟩ : ByteArray) (2, 4) (0, 0) true 1 2)) (stitch_form.mk (⟨#[109]⟩ : ByteArray) (2, 4) (0, 0) true 1 2)) rfl
  have S := S.learn (fRep r_stitch_form (gv_stitch_form (stitch_form.mk (⟨#[120]⟩ : ByteArray) (1, 6) (1, 6) true 3 3)) (stitch_form.mk (⟨#[120]⟩ : ByteArray) (1, 6) (1, 6) true 3 3)) rfl
  have S := S.learn (fRep r_stitch_form (gv_stitch_form (stitch_form.mk (⟨#[121]⟩ : ByteArray) (1, 6) (1, 6) true 3 3)) (stitch_form.mk (⟨#[121]⟩ : ByteArray) (1, 6) (1, 6) true 3 3)) rfl
  have S := S.learn (fRep r_stitch_form (gv_stitch_form (stitch_form.mk (⟨#[115]⟩ : ByteArray) (0, 0) (0, 0) true 1 1)) (stitch_form.mk (⟨#[115]⟩ : ByteArray) (0, 0) (0, 0) true 1 1)) rfl
  have S := S.learn (fRep r_stitch_form (gv_stitch_form (stitch_form.mk (⟨#[]⟩ : ByteArray) (1, 200) (0, 0) false 0 2)) (stitch_form.mk (⟨#[]⟩ : ByteArray) (1, 200) (0, 0) false 0 2)) rfl
  have S := S.learn (fRep r_stitch_form (gv_stitch_form (stitch_form.mk (⟨#[111]⟩ : ByteArray) (1, 200) (0, 0) true 2 0)) (stitch_form.mk (⟨#[111]⟩ : ByteArray) (1, 200) (0, 0) true 2 0)) rfl
  refine sLit (r := r_stitch_form) (T := 115) (xs := [(stitch_form.mk (⟨#[]⟩ : ByteArray) (0, 0) (0, 0) true 1 1), (stitch_form.mk (⟨#[]⟩ : ByteArray) (0, 0) (0, 0) false 0 1), (stitch_form.mk (⟨#[102]⟩ : ByteArray) (2, 4) (0, 0) true 2 1), (stitch_form.mk (⟨#[108]⟩ : ByteArray) (2, 4) (0, 0) true 2 1), (stitch_form.mk (⟨#[109]⟩ : ByteArray) (2, 4) (0, 0) true 1 2), (stitch_form.mk (⟨#[120]⟩ : ByteArray) (1, 6) (1, 6) true 3 3), (stitch_form.mk (⟨#[121]⟩ : ByteArray) (1, 6) (1, 6) true 3 3), (stitch_form.mk (⟨#[115]⟩ : ByteArray) (0, 0) (0, 0) true 1 1), (stitch_form.mk (⟨#[]⟩ : ByteArray) (1, 200) (0, 0) false 0 2), (stitch_form.mk (⟨#[111]⟩ : ByteArray) (1, 200) (0, 0) true 2 0)]) [(0, gv_stitch_form (stitch_form.mk (⟨#[]⟩ : ByteArray) (0, 0) (0, 0) true 1 1)), (1, gv_stitch_form (stitch_form.mk (⟨#[]⟩ : ByteArray) (0, 0) (0, 0) false 0 1)), (2, gv_stitch_form (stitch_form.mk (⟨#[102]⟩ : ByteArray) (2, 4) (0, 0) true 2 1)), (3, gv_stitch_form (stitch_form.mk (⟨#[108]⟩ : ByteArray) (2, 4) (0, 0) true 2 1)), (4, gv_stitch_form (stitch_form.mk (⟨#[109]⟩ : ByteArray) (2, 4) (0, 0) true 1 2)), (5, gv_stitch_form (stitch_form.mk (⟨#[120]⟩ : ByteArray) (1, 6) (1, 6) true 3 3)), (6, gv_stitch_form (stitch_form.mk (⟨#[121]⟩ : ByteArray) (1, 6) (1, 6) true 3 3)), (7, gv_stitch_form (stitch_form.mk (⟨#[115]⟩ : ByteArray) (0, 0) (0, 0) true 1 1)), (8, gv_stitch_form (stitch_form.mk (⟨#[]⟩ : ByteArray) (1, 200) (0, 0) false 0 2)), (9, gv_stitch_form (stitch_form.mk (⟨#[111]⟩ : ByteArray) (1, 200) (0, 0) true 2 0))] 10 [gv_stitch_form (stitch_form.mk (⟨#[]⟩ : ByteArray) (0, 0) (0, 0) true 1 1), gv_stitch_form (stitch_form.mk (⟨#[]⟩ : ByteArray) (0, 0) (0, 0) false 0 1), gv_stitch_form (stitch_form.mk (⟨#[102]⟩ : ByteArray) (2, 4) (0, 0) true 2 1), gv_stitch_form (stitch_form.mk (⟨#[108]⟩ : ByteArray) (2, 4) (0, 0) true 2 1), gv_stitch_form (stitch_form.mk (⟨#[109]⟩ : ByteArray) (2, 4) (0, 0) true 1 2), gv_stitch_form (stitch_form.mk (⟨#[120]⟩ : ByteArray) (1, 6) (1, 6) true 3 3), gv_stitch_form (stitch_form.mk (⟨#[121]⟩ : ByteArray) (1, 6) (1, 6) true 3 3), gv_stitch_form (stitch_form.mk (⟨#[115]⟩ : ByteArray) (0, 0) (0, 0) true 1 1), gv_stitch_form (stitch_form.mk (⟨#[]⟩ : ByteArray) (1, 200) (0, 0) false 0 2), gv_stitch_form (stitch_form.mk (⟨#[111]⟩ : ByteArray) (1, 200) (0, 0) true 2 0)] [.string (⟨#[]⟩ : ByteArray), iv 0, iv 0, iv 0, iv 0, .bool true, iv 1, iv 1, .string (⟨#[]⟩ : ByteArray), iv 0, iv 0, iv 0, iv 0, .bool false, iv 0, iv 1, .string (⟨#[102]⟩ : ByteArray), iv 2, iv 4, iv 0, iv 0, .bool true, iv 2, iv 1, .string (⟨#[108]⟩ : ByteArray), iv 2, iv 4, iv 0, iv 0, .bool true, iv 2, iv 1, .string (⟨#[109]⟩ : ByteArray), iv 2, iv 4, iv 0, iv 0, .bool true, iv 1, iv 2, .string (⟨#[120]⟩ : ByteArray), iv 1, iv 6, iv 1, iv 6, .bool true, iv 3, iv 3, .string (⟨#[121]⟩ : ByteArray), iv 1, iv 6, iv 1, iv 6, .bool true, iv 3, iv 3, .string (⟨#[115]⟩ : ByteArray), iv 0, iv 0, iv 0, iv 0, .bool true, iv 1, iv 1, .string (⟨#[]⟩ : ByteArray), iv 1, iv 200, iv 0, iv 0, .bool false, iv 0, iv 2, .string (⟨#[111]⟩ : ByteArray), iv 1, iv 200, iv 0, iv 0, .bool true, iv 2, iv 0] (gv_stitch_form (stitch_form.mk (⟨#[]⟩ : ByteArray) (0, 0) (0, 0) false 0 0)) 72 S (wN rfl) rfl rfl Try.underlying124 rfl (by decide) (by decide) (by kernel_rfl) rfl (fun E1 w1 hE => All.cons (r_stitch_form.mono hE (S.mem.know (i := 9) (e := fRep r_stitch_form (gv_stitch_form (stitch_form.mk (⟨#[]⟩ : ByteArray) (0, 0) (0, 0) true 1 1)) (stitch_form.mk (⟨#[]⟩ : ByteArray) (0, 0) (0, 0) true 1 1)) rfl)) (All.cons (r_stitch_form.mono hE (S.mem.know (i := 8) (e := fRep r_stitch_form (gv_stitch_form (stitch_form.mk (⟨#[]⟩ : ByteArray) (0, 0) (0, 0) false 0 1)) (stitch_form.mk (⟨#[]⟩ : ByteArray) (0, 0) (0, 0) false 0 1)) rfl)) (All.cons (r_stitch_form.mono hE (S.mem.know (i := 7) (e := fRep r_stitch_form (gv_stitch_form (stitch_form.mk (⟨#[102]⟩ : ByteArray) (2, 4) (0, 0) true 2 1)) (stitch_form.mk (⟨#[102]⟩ : ByteArray) (2, 4) (0, 0) true 2 1)) rfl)) (All.cons (r_stitch_form.mono hE (S.mem.know (i := 6) (e := fRep r_stitch_form (gv_stitch_form (stitch_form.mk (⟨#[108]⟩ : ByteArray) (2, 4) (0, 0) true 2 1)) (stitch_form.mk (⟨#[108]⟩ : ByteArray) (2, 4) (0, 0) true 2 1)) rfl)) (All.cons (r_stitch_form.mono hE (S.mem.know (i := 5) (e := fRep r_stitch_form (gv_stitch_form (stitch_form.mk (⟨#[109]⟩ : ByteArray) (2, 4) (0, 0) true 1 2)) (stitch_form.mk (⟨#[109]⟩ : ByteArray) (2, 4) (0, 0) true 1 2)) rfl)) (All.cons (r_stitch_form.mono hE (S.mem.know (i := 4) (e := fRep r_stitch_form (gv_stitch_form (stitch_form.mk (⟨#[120]⟩ : ByteArray) (1, 6) (1, 6) true 3 3)) (stitch_form.mk (⟨#[120]⟩ : ByteArray) (1, 6) (1, 6) true 3 3)) rfl)) (All.cons (r_stitch_form.mono hE (S.mem.know (i := 3) (e := fRep r_stitch_form (gv_stitch_form (stitch_form.mk (⟨#[121]⟩ : ByteArray) (1, 6) (1, 6) true 3 3)) (stitch_form.mk (⟨#[121]⟩ : ByteArray) (1, 6) (1, 6) true 3 3)) rfl)) (All.cons (r_stitch_form.mono hE (S.mem.know (i := 2) (e := fRep r_stitch_form (gv_stitch_form (stitch_form.mk (⟨#[115]⟩ : ByteArray) (0, 0) (0, 0) true 1 1)) (stitch_form.mk (⟨#[115]⟩ : ByteArray) (0, 0) (0, 0) true 1 1)) rfl)) (All.cons (r_stitch_form.mono hE (S.mem.know (i := 1) (e := fRep r_stitch_form (gv_stitch_form (stitch_form.mk (⟨#[]⟩ : ByteArray) (1, 200) (0, 0) false 0 2)) (stitch_form.mk (⟨#[]⟩ : ByteArray) (1, 200) (0, 0) false 0 2)) rfl)) (All.cons (r_stitch_form.mono hE (S.mem.know (i := 0) (e := fRep r_stitch_form (gv_stitch_form (stitch_form.mk (⟨#[111]⟩ : ByteArray) (1, 200) (0, 0) true 2 0)) (stitch_form.mk (⟨#[111]⟩ : ByteArray) (1, 200) (0, 0) true 2 0)) rfl)) (All.nil _ _ _))))))))))) rfl rfl (lb rfl) fun a w ad9 cp10 S => ?_
  refine sMove (.slice ad9 [(stitch_form.mk (⟨#[]⟩ : ByteArray) (0, 0) (0, 0) true 1 1), (stitch_form.mk (⟨#[]⟩ : ByteArray) (0, 0) (0, 0) false 0 1), (stitch_form.mk (⟨#[102]⟩ : ByteArray) (2, 4) (0, 0) true 2 1), (stitch_form.mk (⟨#[108]⟩ : ByteArray) (2, 4) (0, 0) true 2 1), (stitch_form.mk (⟨#[109]⟩ : ByteArray) (2, 4) (0, 0) true 1 2), (stitch_form.mk (⟨#[120]⟩ : ByteArray) (1, 6) (1, 6) true 3 3), (stitch_form.mk (⟨#[121]⟩ : ByteArray) (1, 6) (1, 6) true 3 3), (stitch_form.mk (⟨#[115]⟩ : ByteArray) (0, 0) (0, 0) true 1 1), (stitch_form.mk (⟨#[]⟩ : ByteArray) (1, 200) (0, 0) false 0 2), (stitch_form.mk (⟨#[111]⟩ : ByteArray) (1, 200) (0, 0) true 2 0)].length cp10) S (wN rfl) (.inr rfl) rfl rfl (lb rfl) fun a S => ?_
  refine leafL (leafT (hK8 _ _ ?_))
  refine sSeq (fun K11 hK11 => ?_)
  obtain ⟨t13, h, g14⟩ := bindSome h
  refine sCut (fun a w => ∃ o12, o12 = t13 ∧ St [] E [] w0 57 a w [(0, .int .u8 p0), (2, .pointer (some ⟨b2, 0, none⟩)), (7, .slice ad9 [(stitch_form.mk (⟨#[]⟩ : ByteArray) (0, 0) (0, 0) true 1 1), (stitch_form.mk (⟨#[]⟩ : ByteArray) (0, 0) (0, 0) false 0 1), (stitch_form.mk (⟨#[102]⟩ : ByteArray) (2, 4) (0, 0) true 2 1), (stitch_form.mk (⟨#[108]⟩ : ByteArray) (2, 4) (0, 0) true 2 1), (stitch_form.mk (⟨#[109]⟩ : ByteArray) (2, 4) (0, 0) true 1 2), (stitch_form.mk (⟨#[120]⟩ : ByteArray) (1, 6) (1, 6) true 3 3), (stitch_form.mk (⟨#[121]⟩ : ByteArray) (1, 6) (1, 6) true 3 3), (stitch_form.mk (⟨#[115]⟩ : ByteArray) (0, 0) (0, 0) true 1 1), (stitch_form.mk (⟨#[]⟩ : ByteArray) (1, 200) (0, 0) false 0 2), (stitch_form.mk (⟨#[111]⟩ : ByteArray) (1, 200) (0, 0) true 2 0)].length cp10), (50, .bool o12)] [eBox b2 115 (gl_stitch_form (stitch_form.mk (⟨#[]⟩ : ByteArray) (0, 0) (0, 0) false 0 0)), eRow r_stitch_form 115 (.slice ad9 [(stitch_form.mk (⟨#[]⟩ : ByteArray) (0, 0) (0, 0) true 1 1), (stitch_form.mk (⟨#[]⟩ : ByteArray) (0, 0) (0, 0) false 0 1), (stitch_form.mk (⟨#[102]⟩ : ByteArray) (2, 4) (0, 0) true 2 1), (stitch_form.mk (⟨#[108]⟩ : ByteArray) (2, 4) (0, 0) true 2 1), (stitch_form.mk (⟨#[109]⟩ : ByteArray) (2, 4) (0, 0) true 1 2), (stitch_form.mk (⟨#[120]⟩ : ByteArray) (1, 6) (1, 6) true 3 3), (stitch_form.mk (⟨#[121]⟩ : ByteArray) (1, 6) (1, 6) true 3 3), (stitch_form.mk (⟨#[115]⟩ : ByteArray) (0, 0) (0, 0) true 1 1), (stitch_form.mk (⟨#[]⟩ : ByteArray) (1, 200) (0, 0) false 0 2), (stitch_form.mk (⟨#[111]⟩ : ByteArray) (1, 200) (0, 0) true 2 0)].length cp10) [(stitch_form.mk (⟨#[]⟩ : ByteArray) (0, 0) (0, 0) true 1 1), (stitch_form.mk (⟨#[]⟩ : ByteArray) (0, 0) (0, 0) false 0 1), (stitch_form.mk (⟨#[102]⟩ : ByteArray) (2, 4) (0, 0) true 2 1), (stitch_form.mk (⟨#[108]⟩ : ByteArray) (2, 4) (0, 0) true 2 1), (stitch_form.mk (⟨#[109]⟩ : ByteArray) (2, 4) (0, 0) true 1 2), (stitch_form.mk (⟨#[120]⟩ : ByteArray) (1, 6) (1, 6) true 3 3), (stitch_form.mk (⟨#[121]⟩ : ByteArray) (1, 6) (1, 6) true 3 3), (stitch_form.mk (⟨#[115]⟩ : ByteArray) (0, 0) (0, 0) true 1 1), (stitch_form.mk (⟨#[]⟩ : ByteArray) (1, 200) (0, 0) false 0 2), (stitch_form.mk (⟨#[111]⟩ : ByteArray) (1, 200) (0, 0) true 2 0)]] []) ?_ (fun a w hI => ?_)
  · refine sRegion ?_
    refine sMove (.int .u8 p0) S (wN rfl) (.inl rfl) rfl rfl (lb rfl) fun a S => ?_
    refine sBin (.bool (decide (p0 < 1))) S (wN rfl) rfl rfl rfl (bLt _ _ _ _ .u8 p0 1) rfl (lb rfl) fun a S => ?_
    refine sMove (.bool (decide (p0 < 1))) S (wN rfl) (.inl rfl) rfl rfl (lb rfl) fun a S => ?_
    rcases iteSome h with ⟨hc15, h⟩ | ⟨hc15, h⟩
    · refine sSkip 2 false 44 45 S rfl rfl rfl hc15 rfl (lb rfl) fun a S => ?_
      refine sSkip 2 false 44 46 S rfl rfl rfl hc15 rfl (lb rfl) fun a S => ?_
      refine sSkip 2 false 44 47 S rfl rfl rfl hc15 rfl (lb rfl) fun a S => ?_
      refine sSkip 2 false 44 48 S rfl rfl rfl hc15 rfl (lb rfl) fun a S => ?_
      refine sSkip 2 false 44 49 S rfl rfl rfl hc15 rfl (lb rfl) fun a S => ?_
      refine sPickT (.bool true) S (wN rfl) rfl rfl hc15 rfl rfl (lb rfl) fun a S => ?_
      exact leafL (leafT (⟨true, Option.some.inj h, S.fix [4, 0] [] (by decide) rfl rfl rfl⟩))
    refine sMove (.int .u8 p0) S (wG 2 false 44 rfl rfl rfl hc15) (.inl rfl) rfl rfl (lb rfl) fun a S => ?_
    refine sConv (k := .u8) (k2 := .i64) (b := p0) S (wG 2 false 44 rfl rfl rfl hc15) rfl Try.underlying5 Try.underlying3 rfl rfl (lb rfl) fun a S => ?_
    refine sMove (.slice ad9 [(stitch_form.mk (⟨#[]⟩ : ByteArray) (0, 0) (0, 0) true 1 1), (stitch_form.mk (⟨#[]⟩ : ByteArray) (0, 0) (0, 0) false 0 1), (stitch_form.mk (⟨#[102]⟩ : ByteArray) (2, 4) (0, 0) true 2 1), (stitch_form.mk (⟨#[108]⟩ : ByteArray) (2, 4) (0, 0) true 2 1), (stitch_form.mk (⟨#[109]⟩ : ByteArray) (2, 4) (0, 0) true 1 2), (stitch_form.mk (⟨#[120]⟩ : ByteArray) (1, 6) (1, 6) true 3 3), (stitch_form.mk (⟨#[121]⟩ : ByteArray) (1, 6) (1, 6) true 3 3), (stitch_form.mk (⟨#[115]⟩ : ByteArray) (0, 0) (0, 0) true 1 1), (stitch_form.mk (⟨#[]⟩ : ByteArray) (1, 200) (0, 0) false 0 2), (stitch_form.mk (⟨#[111]⟩ : ByteArray) (1, 200) (0, 0) true 2 0)].length cp10) S (wG 2 false 44 rfl rfl rfl hc15) (.inl rfl) rfl rfl (lb rfl) fun a S => ?_
    refine sLen (ad := ad9) (m := [(stitch_form.mk (⟨#[]⟩ : ByteArray) (0, 0) (0, 0) true 1 1), (stitch_form.mk (⟨#[]⟩ : ByteArray) (0, 0) (0, 0) false 0 1), (stitch_form.mk (⟨#[102]⟩ : ByteArray) (2, 4) (0, 0) true 2 1), (stitch_form.mk (⟨#[108]⟩ : ByteArray) (2, 4) (0, 0) true 2 1), (stitch_form.mk (⟨#[109]⟩ : ByteArray) (2, 4) (0, 0) true 1 2), (stitch_form.mk (⟨#[120]⟩ : ByteArray) (1, 6) (1, 6) true 3 3), (stitch_form.mk (⟨#[121]⟩ : ByteArray) (1, 6) (1, 6) true 3 3), (stitch_form.mk (⟨#[115]⟩ : ByteArray) (0, 0) (0, 0) true 1 1), (stitch_form.mk (⟨#[]⟩ : ByteArray) (1, 200) (0, 0) false 0 2), (stitch_form.mk (⟨#[111]⟩ : ByteArray) (1, 200) (0, 0) true 2 0)].length) (c := cp10) S (wG 2 false 44 rfl rfl rfl hc15) rfl Try.underlying124 rfl rfl (lb rfl) fun a S => ?_
    refine sBin (.bool (decide (([(stitch_form.mk (⟨#[]⟩ : ByteArray) (0, 0) (0, 0) true 1 1), (stitch_form.mk (⟨#[]⟩ : ByteArray) (0, 0) (0, 0) false 0 1), (stitch_form.mk (⟨#[102]⟩ : ByteArray) (2, 4) (0, 0) true 2 1), (stitch_form.mk (⟨#[108]⟩ : ByteArray) (2, 4) (0, 0) true 2 1), (stitch_form.mk (⟨#[109]⟩ : ByteArray) (2, 4) (0, 0) true 1 2), (stitch_form.mk (⟨#[120]⟩ : ByteArray) (1, 6) (1, 6) true 3 3), (stitch_form.mk (⟨#[121]⟩ : ByteArray) (1, 6) (1, 6) true 3 3), (stitch_form.mk (⟨#[115]⟩ : ByteArray) (0, 0) (0, 0) true 1 1), (stitch_form.mk (⟨#[]⟩ : ByteArray) (1, 200) (0, 0) false 0 2), (stitch_form.mk (⟨#[111]⟩ : ByteArray) (1, 200) (0, 0) true 2 0)].length : Int) < (IntKind.i64.wrap p0)))) S (wG 2 false 44 rfl rfl rfl hc15) rfl rfl rfl (bGt _ _ _ _ .i64 (IntKind.i64.wrap p0) ([(stitch_form.mk (⟨#[]⟩ : ByteArray) (0, 0) (0, 0) true 1 1), (stitch_form.mk (⟨#[]⟩ : ByteArray) (0, 0) (0, 0) false 0 1), (stitch_form.mk (⟨#[102]⟩ : ByteArray) (2, 4) (0, 0) true 2 1), (stitch_form.mk (⟨#[108]⟩ : ByteArray) (2, 4) (0, 0) true 2 1), (stitch_form.mk (⟨#[109]⟩ : ByteArray) (2, 4) (0, 0) true 1 2), (stitch_form.mk (⟨#[120]⟩ : ByteArray) (1, 6) (1, 6) true 3 3), (stitch_form.mk (⟨#[121]⟩ : ByteArray) (1, 6) (1, 6) true 3 3), (stitch_form.mk (⟨#[115]⟩ : ByteArray) (0, 0) (0, 0) true 1 1), (stitch_form.mk (⟨#[]⟩ : ByteArray) (1, 200) (0, 0) false 0 2), (stitch_form.mk (⟨#[111]⟩ : ByteArray) (1, 200) (0, 0) true 2 0)].length : Int)) rfl (lb rfl) fun a S => ?_
    refine sPickF (.bool (decide (([(stitch_form.mk (⟨#[]⟩ : ByteArray) (0, 0) (0, 0) true 1 1), (stitch_form.mk (⟨#[]⟩ : ByteArray) (0, 0) (0, 0) false 0 1), (stitch_form.mk (⟨#[102]⟩ : ByteArray) (2, 4) (0, 0) true 2 1), (stitch_form.mk (⟨#[108]⟩ : ByteArray) (2, 4) (0, 0) true 2 1), (stitch_form.mk (⟨#[109]⟩ : ByteArray) (2, 4) (0, 0) true 1 2), (stitch_form.mk (⟨#[120]⟩ : ByteArray) (1, 6) (1, 6) true 3 3), (stitch_form.mk (⟨#[121]⟩ : ByteArray) (1, 6) (1, 6) true 3 3), (stitch_form.mk (⟨#[115]⟩ : ByteArray) (0, 0) (0, 0) true 1 1), (stitch_form.mk (⟨#[]⟩ : ByteArray) (1, 200) (0, 0) false 0 2), (stitch_form.mk (⟨#[111]⟩ : ByteArray) (1, 200) (0, 0) true 2 0)].length : Int) < (IntKind.i64.wrap p0)))) S (wN rfl) rfl rfl hc15 rfl rfl (lb rfl) fun a S => ?_
    exact leafL (leafT (⟨decide (([(stitch_form.mk (⟨#[]⟩ : ByteArray) (0, 0) (0, 0) true 1 1), (stitch_form.mk (⟨#[]⟩ : ByteArray) (0, 0) (0, 0) false 0 1), (stitch_form.mk (⟨#[102]⟩ : ByteArray) (2, 4) (0, 0) true 2 1), (stitch_form.mk (⟨#[108]⟩ : ByteArray) (2, 4) (0, 0) true 2 1), (stitch_form.mk (⟨#[109]⟩ : ByteArray) (2, 4) (0, 0) true 1 2), (stitch_form.mk (⟨#[120]⟩ : ByteArray) (1, 6) (1, 6) true 3 3), (stitch_form.mk (⟨#[121]⟩ : ByteArray) (1, 6) (1, 6) true 3 3), (stitch_form.mk (⟨#[115]⟩ : ByteArray) (0, 0) (0, 0) true 1 1), (stitch_form.mk (⟨#[]⟩ : ByteArray) (1, 200) (0, 0) false 0 2), (stitch_form.mk (⟨#[111]⟩ : ByteArray) (1, 200) (0, 0) true 2 0)].length : Int) < (IntKind.i64.wrap p0)), Option.some.inj h, S.fix [4, 0] [] (by decide) rfl rfl rfl⟩))
  obtain ⟨o12, rfl, S⟩ := hI
  have h := g14
  clear g14
  try dsimp only at h
  rcases iteSome h with ⟨hc16, h⟩ | ⟨hc16, h⟩
  · refine sCondT S rfl hc16 ?_
    refine sSeq (fun K17 hK17 => ?_)
    refine sRegion ?_
    refine sBuild [] (gl_stitch_form (stitch_form.mk (⟨#[]⟩ : ByteArray) (0, 0) (0, 0) false 0 0)) S (wN rfl) rfl rfl rfl rfl (lb rfl) fun a S => ?_
    refine sStore (p := b2) (off := 0) (T := 115) (vs := [.string (⟨#[]⟩ : ByteArray), iv 0, iv 0, iv 0, iv 0, .bool false, iv 0, iv 0]) (v := gv_stitch_form (stitch_form.mk (⟨#[]⟩ : ByteArray) (0, 0) (0, 0) false 0 0)) 0 [.string (⟨#[]⟩ : ByteArray), iv 0, iv 0, iv 0, iv 0, .bool false, iv 0, iv 0] S (wN rfl) rfl rfl rfl rfl rfl rfl rfl (by simp) rfl fun a w S => ?_
    refine sMove (.bool false) S (wN rfl) (.inr rfl) rfl rfl (lb rfl) fun a S => ?_
    refine leafL (leafT (hK17 _ _ ?_))
    obtain rfl := Option.some.inj h
    have S := S.learn (fRep r_stitch_form (gv_stitch_form (stitch_form.mk (⟨#[]⟩ : ByteArray) (0, 0) (0, 0) false 0 0)) (stitch_form.mk (⟨#[]⟩ : ByteArray) (0, 0) (0, 0) false 0 0)) rfl
    exact wp_ret (rThen (sRet (.tuple #[gv_stitch_form (stitch_form.mk (⟨#[]⟩ : ByteArray) (0, 0) (0, 0) false 0 0), .bool false]) S (rsl2 rfl (rvN (c := 2) (t := 115) (T := 115) (p := b2) 0 [.string (⟨#[]⟩ : ByteArray), iv 0, iv 0, iv 0, iv 0, .bool false, iv 0, iv 0] S rfl rfl rfl rfl) (rvT (t := 3) (v := .bool false) S rfl)) ⟨(gv_stitch_form (stitch_form.mk (⟨#[]⟩ : ByteArray) (0, 0) (0, 0) false 0 0)), rfl, S.mem.sel [] [0] (by decide) rfl rfl⟩))
  refine sCondF S rfl hc16 ?_
  refine wp_skip (leafT (hK11 _ _ ?_))
  refine sSeq (fun K18 hK18 => ?_)
  refine sRegion ?_
  refine sMove (.slice ad9 [(stitch_form.mk (⟨#[]⟩ : ByteArray) (0, 0) (0, 0) true 1 1), (stitch_form.mk (⟨#[]⟩ : ByteArray) (0, 0) (0, 0) false 0 1), (stitch_form.mk (⟨#[102]⟩ : ByteArray) (2, 4) (0, 0) true 2 1), (stitch_form.mk (⟨#[108]⟩ : ByteArray) (2, 4) (0, 0) true 2 1), (stitch_form.mk (⟨#[109]⟩ : ByteArray) (2, 4) (0, 0) true 1 2), (stitch_form.mk (⟨#[120]⟩ : ByteArray) (1, 6) (1, 6) true 3 3), (stitch_form.mk (⟨#[121]⟩ : ByteArray) (1, 6) (1, 6) true 3 3), (stitch_form.mk (⟨#[115]⟩ : ByteArray) (0, 0) (0, 0) true 1 1), (stitch_form.mk (⟨#[]⟩ : ByteArray) (1, 200) (0, 0) false 0 2), (stitch_form.mk (⟨#[111]⟩ : ByteArray) (1, 200) (0, 0) true 2 0)].length cp10) S (wN rfl) (.inl rfl) rfl rfl (lb rfl) fun a S => ?_
  refine sMove (.int .u8 p0) S (wN rfl) (.inl rfl) rfl rfl (lb rfl) fun a S => ?_
  refine sBin (.int .u8 (IntKind.u8.wrap (p0 - 1))) S (wN rfl) rfl rfl rfl (bSubK _ _ _ _ .u8 p0 1) rfl (lb rfl) fun a S => ?_
  obtain ⟨x19, hx20, h⟩ := bindSome h
  have S := S.shutR (r := r_stitch_form) (T := 115) (v := .slice ad9 [(stitch_form.mk (⟨#[]⟩ : ByteArray) (0, 0) (0, 0) true 1 1), (stitch_form.mk (⟨#[]⟩ : ByteArray) (0, 0) (0, 0) false 0 1), (stitch_form.mk (⟨#[102]⟩ : ByteArray) (2, 4) (0, 0) true 2 1), (stitch_form.mk (⟨#[108]⟩ : ByteArray) (2, 4) (0, 0) true 2 1), (stitch_form.mk (⟨#[109]⟩ : ByteArray) (2, 4) (0, 0) true 1 2), (stitch_form.mk (⟨#[120]⟩ : ByteArray) (1, 6) (1, 6) true 3 3), (stitch_form.mk (⟨#[121]⟩ : ByteArray) (1, 6) (1, 6) true 3 3), (stitch_form.mk (⟨#[115]⟩ : ByteArray) (0, 0) (0, 0) true 1 1), (stitch_form.mk (⟨#[]⟩ : ByteArray) (1, 200) (0, 0) false 0 2), (stitch_form.mk (⟨#[111]⟩ : ByteArray) (1, 200) (0, 0) true 2 0)].length cp10) (xs := [(stitch_form.mk (⟨#[]⟩ : ByteArray) (0, 0) (0, 0) true 1 1), (stitch_form.mk (⟨#[]⟩ : ByteArray) (0, 0) (0, 0) false 0 1), (stitch_form.mk (⟨#[102]⟩ : ByteArray) (2, 4) (0, 0) true 2 1), (stitch_form.mk (⟨#[108]⟩ : ByteArray) (2, 4) (0, 0) true 2 1), (stitch_form.mk (⟨#[109]⟩ : ByteArray) (2, 4) (0, 0) true 1 2), (stitch_form.mk (⟨#[120]⟩ : ByteArray) (1, 6) (1, 6) true 3 3), (stitch_form.mk (⟨#[121]⟩ : ByteArray) (1, 6) (1, 6) true 3 3), (stitch_form.mk (⟨#[115]⟩ : ByteArray) (0, 0) (0, 0) true 1 1), (stitch_form.mk (⟨#[]⟩ : ByteArray) (1, 200) (0, 0) false 0 2), (stitch_form.mk (⟨#[111]⟩ : ByteArray) (1, 200) (0, 0) true 2 0)]) 1 rfl
  obtain ⟨q21, hq22, S⟩ := pIdx (P := Try.prog) (r := r_stitch_form) (v := .slice ad9 [(stitch_form.mk (⟨#[]⟩ : ByteArray) (0, 0) (0, 0) true 1 1), (stitch_form.mk (⟨#[]⟩ : ByteArray) (0, 0) (0, 0) false 0 1), (stitch_form.mk (⟨#[102]⟩ : ByteArray) (2, 4) (0, 0) true 2 1), (stitch_form.mk (⟨#[108]⟩ : ByteArray) (2, 4) (0, 0) true 2 1), (stitch_form.mk (⟨#[109]⟩ : ByteArray) (2, 4) (0, 0) true 1 2), (stitch_form.mk (⟨#[120]⟩ : ByteArray) (1, 6) (1, 6) true 3 3), (stitch_form.mk (⟨#[121]⟩ : ByteArray) (1, 6) (1, 6) true 3 3), (stitch_form.mk (⟨#[115]⟩ : ByteArray) (0, 0) (0, 0) true 1 1), (stitch_form.mk (⟨#[]⟩ : ByteArray) (1, 200) (0, 0) false 0 2), (stitch_form.mk (⟨#[111]⟩ : ByteArray) (1, 200) (0, 0) true 2 0)].length cp10) (xs := [(stitch_form.mk (⟨#[]⟩ : ByteArray) (0, 0) (0, 0) true 1 1), (stitch_form.mk (⟨#[]⟩ : ByteArray) (0, 0) (0, 0) false 0 1), (stitch_form.mk (⟨#[102]⟩ : ByteArray) (2, 4) (0, 0) true 2 1), (stitch_form.mk (⟨#[108]⟩ : ByteArray) (2, 4) (0, 0) true 2 1), (stitch_form.mk (⟨#[109]⟩ : ByteArray) (2, 4) (0, 0) true 1 2), (stitch_form.mk (⟨#[120]⟩ : ByteArray) (1, 6) (1, 6) true 3 3), (stitch_form.mk (⟨#[121]⟩ : ByteArray) (1, 6) (1, 6) true 3 3), (stitch_form.mk (⟨#[115]⟩ : ByteArray) (0, 0) (0, 0) true 1 1), (stitch_form.mk (⟨#[]⟩ : ByteArray) (1, 200) (0, 0) false 0 2), (stitch_form.mk (⟨#[111]⟩ : ByteArray) (1, 200) (0, 0) true 2 0)]) (j := IntKind.u8.wrap (p0 - 1)) 124 115 0 S Try.underlying124 rfl rfl hx20
  refine sIdxV (v := .slice ad9 [(stitch_form.mk (⟨#[]⟩ : ByteArray) (0, 0) (0, 0) true 1 1), (stitch_form.mk (⟨#[]⟩ : ByteArray) (0, 0) (0, 0) false 0 1), (stitch_form.mk (⟨#[102]⟩ : ByteArray) (2, 4) (0, 0) true 2 1), (stitch_form.mk (⟨#[108]⟩ : ByteArray) (2, 4) (0, 0) true 2 1), (stitch_form.mk (⟨#[109]⟩ : ByteArray) (2, 4) (0, 0) true 1 2), (stitch_form.mk (⟨#[120]⟩ : ByteArray) (1, 6) (1, 6) true 3 3), (stitch_form.mk (⟨#[121]⟩ : ByteArray) (1, 6) (1, 6) true 3 3), (stitch_form.mk (⟨#[115]⟩ : ByteArray) (0, 0) (0, 0) true 1 1), (stitch_form.mk (⟨#[]⟩ : ByteArray) (1, 200) (0, 0) false 0 2), (stitch_form.mk (⟨#[111]⟩ : ByteArray) (1, 200) (0, 0) true 2 0)].length cp10) (k := .u8) (j := IntKind.u8.wrap (p0 - 1)) S (wN rfl) rfl rfl rfl hq22 rfl (lb rfl) fun a S => ?_
  obtain ⟨u23, S⟩ := pLoad (r := r_stitch_form) (q := q21) (x := x19) 0 S rfl
  obtain rfl : u23 = gv_stitch_form x19 := S.mem.know (i := 1) (e := fRep r_stitch_form (u23) x19) rfl
  refine sLoadVN (vq := q21) 0 [.string x19.letter, iv x19.a.1, iv x19.a.2, iv x19.b.1, iv x19.b.2, .bool x19.sided, iv x19.uses, iv x19.made] S (wN rfl) rfl rfl rfl rfl rfl rfl (lb rfl) fun a S => ?_
  refine sStore (p := b2) (off := 0) (T := 115) (vs := [.string (⟨#[]⟩ : ByteArray), iv 0, iv 0, iv 0, iv 0, .bool false, iv 0, iv 0]) (v := gv_stitch_form x19) 0 [.string x19.letter, iv x19.a.1, iv x19.a.2, iv x19.b.1, iv x19.b.2, .bool x19.sided, iv x19.uses, iv x19.made] S (wN rfl) rfl rfl rfl rfl rfl rfl rfl (by simp) rfl fun a w S => ?_
  refine sMove (.bool true) S (wN rfl) (.inr rfl) rfl rfl (lb rfl) fun a S => ?_
  refine leafL (leafT (hK18 _ _ ?_))
  obtain rfl := Option.some.inj h
  exact wp_ret (sRet (.tuple #[gv_stitch_form x19, .bool true]) S (rsl2 rfl (rvN (c := 2) (t := 115) (T := 115) (p := b2) 0 [.string x19.letter, iv x19.a.1, iv x19.a.2, iv x19.b.1, iv x19.b.2, .bool x19.sided, iv x19.uses, iv x19.made] S rfl rfl rfl rfl) (rvT (t := 3) (v := .bool true) S rfl)) ⟨(gv_stitch_form x19), rfl, S.mem.sel [] [1] (by decide) rfl rfl⟩)

end Go.Proofs.Yticjoiolfibmlaa
namespace Go.Proofs.Yticjoiolfibmlaa
open Go.RowKit
set_option linter.unusedVariables false

noncomputable def F_stitch_loops (p0 : api_Stitch) (p1 : Int) : Option Int :=
  Option.bind (idxO ([0, 1, p0.A, w64 (p0.A + p0.B)] : List Int) p1) fun x4 =>
  some x4
set_option maxHeartbeats 4000000 in
set_option maxRecDepth 100000 in
theorem c_stitch_loops (E : Nat → Prop) (w0 : World) (p0 : api_Stitch) (v0 : Value) (p1 : Int) (r : Int) (h : F_stitch_loops p0 p1 = some r) (S : St0 E [] w0 w0 [] [fRep r_api_Stitch (v0) p0]) :
    Calls Try.prog 72 #[v0, iv p1] w0 (Ret (X := Unit) E [] w0 (fun _ => .int .i64 r) (fun _ => []) (fun _ => [])) := by
  unfold F_stitch_loops at h
  obtain rfl : v0 = .agg #[.int .u8 p0.Kind, .bool p0.Purl, iv p0.A, iv p0.B] := S.know (i := 0) (e := fRep r_api_Stitch (v0) p0) rfl
  refine sEnter (args := [.agg #[.int .u8 p0.Kind, .bool p0.Purl, iv p0.A, iv p0.B], iv p1]) 15 Try.func72 rfl rfl (by simp) S (fun a S => ?_)
  refine sSeq (fun K1 hK1 => ?_)
  refine sRegion ?_
  refine sBox (v := .agg #[.int .u8 p0.Kind, .bool p0.Purl, iv p0.A, iv p0.B]) S (wN rfl) rfl rfl [.int .u8 p0.Kind, .bool p0.Purl, iv p0.A, iv p0.B] rfl rfl (lb rfl) fun a b2 w S => ?_
  refine sMove (iv 0) S (wN rfl) (.inr rfl) rfl rfl (lb rfl) fun a S => ?_
  refine leafL (leafT (hK1 _ _ ?_))
  refine sSeq (fun K3 hK3 => ?_)
  refine sRegion ?_
  refine sField (b := b2) (off := 0) 2 2 S (wN rfl) rfl rfl rfl rfl rfl (lb rfl) fun a S => ?_
  refine sLoad1 (p := b2) (off := 2) (T := 61) (vs := [.int .u8 p0.Kind, .bool p0.Purl, iv p0.A, iv p0.B]) 0 (iv p0.A) S (wN rfl) rfl rfl rfl rfl rfl rfl (lb rfl) fun a S => ?_
  refine sField (b := b2) (off := 0) 2 2 S (wN rfl) rfl rfl rfl rfl rfl (lb rfl) fun a S => ?_
  refine sLoad1 (p := b2) (off := 2) (T := 61) (vs := [.int .u8 p0.Kind, .bool p0.Purl, iv p0.A, iv p0.B]) 0 (iv p0.A) S (wN rfl) rfl rfl rfl rfl rfl rfl (lb rfl) fun a S => ?_
  refine sField (b := b2) (off := 0) 3 3 S (wN rfl) rfl rfl rfl rfl rfl (lb rfl) fun a S => ?_
  refine sLoad1 (p := b2) (off := 3) (T := 61) (vs := [.int .u8 p0.Kind, .bool p0.Purl, iv p0.A, iv p0.B]) 0 (iv p0.B) S (wN rfl) rfl rfl rfl rfl rfl rfl (lb rfl) fun a S => ?_
  refine sBin (iv (w64 (p0.A + p0.B))) S (wN rfl) rfl rfl rfl (bAdd _ _ _ _ p0.A p0.B) rfl (lb rfl) fun a S => ?_
  refine sBuild [(0, iv 0), (1, iv 1), (2, iv p0.A), (3, iv (w64 (p0.A + p0.B)))] [iv 0, iv 1, iv p0.A, iv (w64 (p0.A + p0.B))] S (wN rfl) rfl rfl rfl rfl (lb rfl) fun a S => ?_
  refine sMove (iv p1) S (wN rfl) (.inl rfl) rfl rfl (lb rfl) fun a S => ?_
  obtain ⟨x4, hx5, h⟩ := bindSome h
  refine sIndexA (g := fun z => .int .i64 z) (xs := ([0, 1, p0.A, w64 (p0.A + p0.B)] : List Int)) (j := p1) (k := .i64) 4 [iv 0, iv 1, iv p0.A, iv (w64 (p0.A + p0.B))] S (wN rfl) rfl Try.underlying128 rfl rfl rfl rfl rfl rfl hx5 rfl (lb rfl) fun a S => ?_
  refine sMove (iv x4) S (wN rfl) (.inr rfl) rfl rfl (lb rfl) fun a S => ?_
  refine leafL (leafT (hK3 _ _ ?_))
  obtain rfl := Option.some.inj h
  exact wp_ret (sRet (iv x4) S (rsl1 rfl (rvT (t := 4) (v := iv x4) S rfl)) ⟨(), rfl, S.mem.sel [] [] (by decide) rfl rfl⟩)

end Go.Proofs.Yticjoiolfibmlaa
namespace Go.Proofs.Yticjoiolfibmlaa
open Go.RowKit
set_option linter.unusedVariables false

noncomputable def stitch_sum_l1 (p0 : (List api_Stitch)) : (Int × Int × Int) → Option ((Int × Int × Int) ⊕ (Int × Int)) := fun s0 => match s0 with
  | (s9, s10, s11) =>
    if decide (s11 < (p0.length : Int)) then
      Option.bind (idxO p0 s11) fun x22 =>
      Option.bind (F_stitch_forms x22.Kind) fun r29 =>
      Option.bind (F_stitch_loops x22 r29.1.uses) fun r34 =>
      Option.bind (F_stitch_loops x22 r29.1.made) fun r36 =>
      some (.inl (w64 (s9 + r34), w64 (s10 + r36), w64 (s11 + 1)))
    else
      some (.inr (s9, s10))
noncomputable def F_stitch_sum (p0 : (List api_Stitch)) : Option (Int × Int) :=
  Option.bind (α := (Int × Int)) (
    Option.bind (whileO (stitch_sum_l1 p0) (0, 0, 0)) fun (e15, e16) =>
      some (e15, e16)) fun (o4, o5) =>
  some (o4, o5)
set_option maxHeartbeats 4000000 in
set_option maxRecDepth 100000 in
theorem c_stitch_sum (E : Nat → Prop) (w0 : World) (p0 : (List api_Stitch)) (v0 : Value) (r : (Int × Int)) (h : F_stitch_sum p0 = some r) (S : St0 E [] w0 w0 [] [fRep (rL r_api_Stitch) (v0) p0]) :
    Calls Try.prog 65 #[v0] w0 (Ret (X := Unit) E [] w0 (fun _ => .tuple #[.int .i64 r.1, .int .i64 r.2]) (fun _ => []) (fun _ => [])) := by
  unfold F_stitch_sum at h
  obtain ⟨ad1, cp2, _, rfl, _⟩ := S.know (i := 0) (e := fRep (rL r_api_Stitch) (v0) p0) rfl
  refine sEnter (args := [.slice ad1 p0.length cp2]) 35 Try.func65 rfl rfl (by simp) S (fun a S => ?_)
  refine sSeq (fun K3 hK3 => ?_)
  refine sRegion ?_
  refine sMove (iv 0) S (wN rfl) (.inr rfl) rfl rfl (lb rfl) fun a S => ?_
  refine sMove (iv 0) S (wN rfl) (.inr rfl) rfl rfl (lb rfl) fun a S => ?_
  refine leafL (leafT (hK3 _ _ ?_))
  obtain ⟨t6, h, g7⟩ := bindSome h
  refine sCut (fun a w => ∃ o4, ∃ o5, (o4, o5) = t6 ∧ St [] E [] w0 35 a w [(2, iv o4), (3, iv o5)] [] []) ?_ (fun a w hI => ?_)
  rotate_left
  · obtain ⟨o4, o5, rfl, S⟩ := hI
    have h := g7
    clear g7
    try dsimp only at h
    refine sSeq (fun K38 hK38 => ?_)
    refine sRegion ?_
    refine sMove (iv o4) S (wN rfl) (.inl rfl) rfl rfl (lb rfl) fun a S => ?_
    refine sMove (iv o5) S (wN rfl) (.inl rfl) rfl rfl (lb rfl) fun a S => ?_
    refine sMove (iv o4) S (wN rfl) (.inr rfl) rfl rfl (lb rfl) fun a S => ?_
    refine sMove (iv o5) S (wN rfl) (.inr rfl) rfl rfl (lb rfl) fun a S => ?_
    refine leafL (leafT (hK38 _ _ ?_))
    obtain rfl := Option.some.inj h
    exact wp_ret (sRet (.tuple #[iv o4, iv o5]) S (rsl2 rfl (rvT (t := 2) (v := iv o4) S rfl) (rvT (t := 3) (v := iv o5) S rfl)) ⟨(), rfl, S.mem.sel [] [] (by decide) rfl rfl⟩)
  refine sSeq (fun K8 hK8 => ?_)
  refine sRegion ?_
  refine sMove (.slice ad1 p0.length cp2) S (wN rfl) (.inl rfl) rfl rfl (lb rfl) fun a S => ?_
  refine sLen (ad := ad1) (m := p0.length) (c := cp2) S (wN rfl) rfl Try.underlying62 rfl rfl (lb rfl) fun a S => ?_
  refine sMove (iv 0) S (wN rfl) (.inl rfl) rfl rfl (lb rfl) fun a S => ?_
  refine leafL (leafT (hK8 _ _ ?_))
  refine wp_block ?_
  obtain ⟨t14, hl, g13⟩ := bindSome h
  refine sLoop hl (fun s0 a w => match s0 with | (s9, s10, s11) => St [] E [] w0 35 a w [(2, iv s9), (3, iv s10), (8, .slice ad1 p0.length cp2), (9, iv (p0.length : Int)), (10, iv s11)] [] [fRep (rL r_api_Stitch) (.slice ad1 p0.length cp2) p0]) (S.fix [] [0] (by decide) rfl rfl rfl) ?_
  clear hl h
  intro s0 a w c0 hI h hu12
  obtain ⟨s9, s10, s11⟩ := s0
  unfold stitch_sum_l1 at h
  dsimp only at h hI
  have S := hI
  refine sSeq (fun K17 hK17 => ?_)
  refine sRegion ?_
  refine sBin (.bool (decide (s11 < (p0.length : Int)))) S (wN rfl) rfl rfl rfl (bLt _ _ _ _ .i64 s11 (p0.length : Int)) rfl (lb rfl) fun a S => ?_
  refine leafL (leafT (hK17 _ _ ?_))
  refine sSeq (fun K18 hK18 => ?_)
  rcases iteSome h with ⟨hc19, h⟩ | ⟨hc19, h⟩
  rotate_left
  · refine sCondF S rfl hc19 ?_
    obtain rfl := Option.some.inj h
    obtain rfl := hu12 _ rfl
    have h := g13
    clear g13
    try dsimp only at h
    exact wp_exit (xThen (xThen (xHit (leafT (⟨s9, s10, Option.some.inj h, S.fix [] [] (by decide) rfl rfl rfl⟩)))))
  refine sCondT S rfl hc19 ?_
  refine wp_skip (leafT (hK18 _ _ ?_))
  refine sSeq (fun K20 hK20 => ?_)
  refine wp_block ?_
  refine sSeq (fun K21 hK21 => ?_)
  refine sRegion ?_
  obtain ⟨x22, hx23, h⟩ := bindSome h
  obtain ⟨q24, hq25, S⟩ := pIdx (P := Try.prog) (r := r_api_Stitch) (v := .slice ad1 p0.length cp2) (xs := p0) (j := s11) 62 61 0 S Try.underlying62 rfl rfl hx23
  refine sIdxV (v := .slice ad1 p0.length cp2) (k := .i64) (j := s11) S (wN rfl) rfl rfl rfl hq25 rfl (lb rfl) fun a S => ?_
  obtain ⟨u26, S⟩ := pLoad (r := r_api_Stitch) (q := q24) (x := x22) 0 S rfl
  obtain rfl : u26 = .agg #[.int .u8 x22.Kind, .bool x22.Purl, iv x22.A, iv x22.B] := S.mem.know (i := 1) (e := fRep r_api_Stitch (u26) x22) rfl
  refine sLoadVN (vq := q24) 0 [.int .u8 x22.Kind, .bool x22.Purl, iv x22.A, iv x22.B] S (wN rfl) rfl rfl rfl rfl rfl rfl (lb rfl) fun a S => ?_
  refine sAlloc (.agg #[.int .u8 0, .bool false, iv 0, iv 0]) S (wN rfl) rfl rfl [.int .u8 0, .bool false, iv 0, iv 0] rfl rfl (lb rfl) fun a b27 w S => ?_
  refine sStore (p := b27) (off := 0) (T := 61) (vs := [.int .u8 0, .bool false, iv 0, iv 0]) (v := .agg #[.int .u8 x22.Kind, .bool x22.Purl, iv x22.A, iv x22.B]) 0 [.int .u8 x22.Kind, .bool x22.Purl, iv x22.A, iv x22.B] S (wN rfl) rfl rfl rfl rfl rfl rfl rfl (by simp) rfl fun a w S => ?_
  refine leafL (leafT (hK21 _ _ ?_))
  refine sSeq (fun K28 hK28 => ?_)
  refine sRegion ?_
  refine sField (b := b27) (off := 0) 0 0 S (wN rfl) rfl rfl rfl rfl rfl (lb rfl) fun a S => ?_
  refine sLoad1 (p := b27) (off := 0) (T := 61) (vs := [.int .u8 x22.Kind, .bool x22.Purl, iv x22.A, iv x22.B]) 0 (.int .u8 x22.Kind) S (wN rfl) rfl rfl rfl rfl rfl rfl (lb rfl) fun a S => ?_
  obtain ⟨r29, hx30, h⟩ := bindSome h
  refine sCall (X := Value) (f := 67) (vs := [.int .u8 x22.Kind]) (val := c_stitch_forms_val r29) (B' := fun _ => []) (D' := c_stitch_forms_D r29) [] [eBox b27 61 [.int .u8 x22.Kind, .bool x22.Purl, iv x22.A, iv x22.B]] [] [0] [] S (wN rfl) rfl callee67 rfl (by decide) rfl rfl (fun E1 w1 S1 => c_stitch_forms E1 w1 x22.Kind r29 hx30 S1) rfl (lb rfl) fun u31 a w S => ?_
  obtain rfl : u31 = gv_stitch_form r29.1 := S.mem.know (i := 0) (e := fRep r_stitch_form (u31) r29.1) rfl
  refine sMove (.tuple #[gv_stitch_form r29.1, .bool r29.2]) S (wN rfl) (.inl rfl) rfl rfl (lb rfl) fun a S => ?_
  refine sExtract (vs := [gv_stitch_form r29.1, .bool r29.2]) (gv_stitch_form r29.1) S (wN rfl) rfl rfl rfl rfl (lb rfl) fun a S => ?_
  refine sExtract (vs := [gv_stitch_form r29.1, .bool r29.2]) (.bool r29.2) S (wN rfl) rfl rfl rfl rfl (lb rfl) fun a S => ?_
  refine sAlloc (gv_stitch_form (stitch_form.mk (⟨#[]⟩ : ByteArray) (0, 0) (0, 0) false 0 0)) S (wN rfl) rfl rfl (gl_stitch_form (stitch_form.mk (⟨#[]⟩ : ByteArray) (0, 0) (0, 0) false 0 0)) rfl rfl (lb rfl) fun a b32 w S => ?_
  refine sStore (p := b32) (off := 0) (T := 115) (vs := [.string (⟨#[]⟩ : ByteArray), iv 0, iv 0, iv 0, iv 0, .bool false, iv 0, iv 0]) (v := gv_stitch_form r29.1) 0 [.string r29.1.letter, iv r29.1.a.1, iv r29.1.a.2, iv r29.1.b.1, iv r29.1.b.2, .bool r29.1.sided, iv r29.1.uses, iv r29.1.made] S (wN rfl) rfl rfl rfl rfl rfl rfl rfl (by simp) rfl fun a w S => ?_
  refine sMove (.bool r29.2) S (wN rfl) (.inr rfl) rfl rfl (lb rfl) fun a S => ?_
  refine leafL (leafT (hK28 _ _ ?_))
  refine sSeq (fun K33 hK33 => ?_)
  refine sRegion ?_
  refine sMove (iv s9) S (wN rfl) (.inl rfl) rfl rfl (lb rfl) fun a S => ?_
  refine sLoadN (p := b27) (off := 0) (T := 61) (vs := [.int .u8 x22.Kind, .bool x22.Purl, iv x22.A, iv x22.B]) 1 [.int .u8 x22.Kind, .bool x22.Purl, iv x22.A, iv x22.B] S (wN rfl) rfl rfl rfl rfl rfl rfl rfl (lb rfl) fun a S => ?_
  refine sField (b := b32) (off := 0) 6 6 S (wN rfl) rfl rfl rfl rfl rfl (lb rfl) fun a S => ?_
  refine sLoad1 (p := b32) (off := 6) (T := 115) (vs := (gl_stitch_form r29.1)) 0 (iv r29.1.uses) S (wN rfl) rfl rfl rfl rfl rfl rfl (lb rfl) fun a S => ?_
  obtain ⟨r34, hx35, h⟩ := bindSome h
  have S1 := S.mem
  refine sCallQ (X := Unit) (f := 72) (vs := [.agg #[.int .u8 x22.Kind, .bool x22.Purl, iv x22.A, iv x22.B], iv r29.1.uses]) (val := fun _ => iv r34) S (wN rfl) rfl callee72 rfl (S1.quiet [2] rfl) (fun E1 w1 S1 => c_stitch_loops E1 w1 x22 (.agg #[.int .u8 x22.Kind, .bool x22.Purl, iv x22.A, iv x22.B]) r29.1.uses r34 hx35 S1) rfl (lb rfl) fun _ a w S => ?_
  refine sBin (iv (w64 (s9 + r34))) S (wN rfl) rfl rfl rfl (bAdd _ _ _ _ s9 r34) rfl (lb rfl) fun a S => ?_
  refine sMove (iv (w64 (s9 + r34))) S (wN rfl) (.inr rfl) rfl rfl (lb rfl) fun a S => ?_
  refine leafL (leafT (hK33 _ _ ?_))
  refine sRegion ?_
  refine sMove (iv s10) S (wN rfl) (.inl rfl) rfl rfl (lb rfl) fun a S => ?_
  refine sLoadN (p := b27) (off := 0) (T := 61) (vs := [.int .u8 x22.Kind, .bool x22.Purl, iv x22.A, iv x22.B]) 1 [.int .u8 x22.Kind, .bool x22.Purl, iv x22.A, iv x22.B] S (wN rfl) rfl rfl rfl rfl rfl rfl rfl (lb rfl) fun a S => ?_
  refine sField (b := b32) (off := 0) 7 7 S (wN rfl) rfl rfl rfl rfl rfl (lb rfl) fun a S => ?_
  refine sLoad1 (p := b32) (off := 7) (T := 115) (vs := (gl_stitch_form r29.1)) 0 (iv r29.1.made) S (wN rfl) rfl rfl rfl rfl rfl rfl (lb rfl) fun a S => ?_
  obtain ⟨r36, hx37, h⟩ := bindSome h
  have S1 := S.mem
  refine sCallQ (X := Unit) (f := 72) (vs := [.agg #[.int .u8 x22.Kind, .bool x22.Purl, iv x22.A, iv x22.B], iv r29.1.made]) (val := fun _ => iv r36) S (wN rfl) rfl callee72 rfl (S1.quiet [2] rfl) (fun E1 w1 S1 => c_stitch_loops E1 w1 x22 (.agg #[.int .u8 x22.Kind, .bool x22.Purl, iv x22.A, iv x22.B]) r29.1.made r36 hx37 S1) rfl (lb rfl) fun _ a w S => ?_
  refine sBin (iv (w64 (s10 + r36))) S (wN rfl) rfl rfl rfl (bAdd _ _ _ _ s10 r36) rfl (lb rfl) fun a S => ?_
  refine sMove (iv (w64 (s10 + r36))) S (wN rfl) (.inr rfl) rfl rfl (lb rfl) fun a S => ?_
  refine leafL (leafB (leafT (hK20 _ _ ?_)))
  refine sRegion ?_
  refine sBin (iv (w64 (s11 + 1))) S (wN rfl) rfl rfl rfl (bAdd _ _ _ _ s11 1) rfl (lb rfl) fun a S => ?_
  refine sMove (iv (w64 (s11 + 1))) S (wN rfl) (.inl rfl) rfl rfl (lb rfl) fun a S => ?_
  exact leafL (leafT (⟨(w64 (s9 + r34), w64 (s10 + r36), w64 (s11 + 1)), (Option.some.inj h).symm, (S.fix [] [4] (by decide) rfl rfl rfl)⟩))

end Go.Proofs.Yticjoiolfibmlaa
namespace Go.Proofs.Yticjoiolfibmlaa
open Go.RowKit
set_option linter.unusedVariables false

noncomputable def F_stitch_within (p0 : Int) (p1 : (Int × Int)) : Option Bool :=
  Option.bind (α := Bool) (
    if decide (p1.1 ≤ p0) then
      some (decide (p0 ≤ p1.2))
    else
      some false) fun o3 =>
  some o3
set_option maxHeartbeats 4000000 in
set_option maxRecDepth 100000 in
theorem c_stitch_within (E : Nat → Prop) (w0 : World) (p0 : Int) (p1 : (Int × Int)) (v1 : Value) (r : Bool) (h : F_stitch_within p0 p1 = some r) (S : St0 E [] w0 w0 [] [fRep r_A2_Int (v1) p1]) :
    Calls Try.prog 76 #[iv p0, v1] w0 (Ret (X := Unit) E [] w0 (fun _ => .bool r) (fun _ => []) (fun _ => [])) := by
  unfold F_stitch_within at h
  obtain rfl : v1 = .agg #[iv p1.1, iv p1.2] := S.know (i := 0) (e := fRep r_A2_Int (v1) p1) rfl
  refine sEnter (args := [iv p0, .agg #[iv p1.1, iv p1.2]]) 15 Try.func76 rfl rfl (by simp) S (fun a S => ?_)
  refine sSeq (fun K1 hK1 => ?_)
  refine sRegion ?_
  refine sBox (v := .agg #[iv p1.1, iv p1.2]) S (wN rfl) rfl rfl [iv p1.1, iv p1.2] rfl rfl (lb rfl) fun a b2 w S => ?_
  refine sMove (.bool false) S (wN rfl) (.inr rfl) rfl rfl (lb rfl) fun a S => ?_
  refine leafL (leafT (hK1 _ _ ?_))
  obtain ⟨t4, h, g5⟩ := bindSome h
  refine sCut (fun a w => ∃ o3, o3 = t4 ∧ St [] E [] w0 15 a w [(4, .bool o3)] [] []) ?_ (fun a w hI => ?_)
  rotate_left
  · obtain ⟨o3, rfl, S⟩ := hI
    have h := g5
    clear g5
    try dsimp only at h
    obtain rfl := Option.some.inj h
    exact wp_ret (sRet (.bool o3) S (rsl1 rfl (rvT (t := 4) (v := .bool o3) S rfl)) ⟨(), rfl, S.mem.sel [] [] (by decide) rfl rfl⟩)
  refine sRegion ?_
  refine sMove (iv p0) S (wN rfl) (.inl rfl) rfl rfl (lb rfl) fun a S => ?_
  refine sIdxV (v := .pointer (some ⟨b2, 0, none⟩)) (k := .i64) (j := 0) (q := .pointer (some ⟨b2, 0, none⟩)) S (wN rfl) rfl rfl rfl (idxV_arr (m := 2) (sz := 1) Try.underlying49 rfl (by decide) (by decide) 0) rfl (lb rfl) fun a S => ?_
  refine sLoad1 (p := b2) (off := 0) (T := 49) (vs := [iv p1.1, iv p1.2]) 0 (iv p1.1) S (wN rfl) rfl rfl rfl rfl rfl rfl (lb rfl) fun a S => ?_
  refine sBin (.bool (decide (p1.1 ≤ p0))) S (wN rfl) rfl rfl rfl (bGe _ _ _ _ .i64 p0 p1.1) rfl (lb rfl) fun a S => ?_
  refine sMove (.bool (decide (p1.1 ≤ p0))) S (wN rfl) (.inl rfl) rfl rfl (lb rfl) fun a S => ?_
  rcases iteSome h with ⟨hc6, h⟩ | ⟨hc6, h⟩
  rotate_left
  · refine sSkip 4 true 9 10 S rfl rfl rfl hc6 rfl (lb rfl) fun a S => ?_
    refine sSkip 4 true 9 11 S rfl rfl rfl hc6 rfl (lb rfl) fun a S => ?_
    refine sSkip 4 true 9 12 S rfl rfl rfl hc6 rfl (lb rfl) fun a S => ?_
    refine sSkip 4 true 9 13 S rfl rfl rfl hc6 rfl (lb rfl) fun a S => ?_
    refine sPickF (.bool false) S (wN rfl) rfl rfl hc6 rfl rfl (lb rfl) fun a S => ?_
    refine sMove (.bool false) S (wN rfl) (.inr rfl) rfl rfl (lb rfl) fun a S => ?_
    exact leafL (leafT (⟨false, Option.some.inj h, S.fix [] [] (by decide) rfl rfl rfl⟩))
  refine sMove (iv p0) S (wG 4 true 9 rfl rfl rfl hc6) (.inl rfl) rfl rfl (lb rfl) fun a S => ?_
  refine sIdxV (v := .pointer (some ⟨b2, 0, none⟩)) (k := .i64) (j := 1) (q := .pointer (some ⟨b2, 1, none⟩)) S (wG 4 true 9 rfl rfl rfl hc6) rfl rfl rfl (idxV_arr (m := 2) (sz := 1) Try.underlying49 rfl (by decide) (by decide) 0) rfl (lb rfl) fun a S => ?_
  refine sLoad1 (p := b2) (off := 1) (T := 49) (vs := [iv p1.1, iv p1.2]) 0 (iv p1.2) S (wG 4 true 9 rfl rfl rfl hc6) rfl rfl rfl rfl rfl rfl (lb rfl) fun a S => ?_
  refine sBin (.bool (decide (p0 ≤ p1.2))) S (wG 4 true 9 rfl rfl rfl hc6) rfl rfl rfl (bLe _ _ _ _ .i64 p0 p1.2) rfl (lb rfl) fun a S => ?_
  refine sPickT (.bool (decide (p0 ≤ p1.2))) S (wN rfl) rfl rfl hc6 rfl rfl (lb rfl) fun a S => ?_
  refine sMove (.bool (decide (p0 ≤ p1.2))) S (wN rfl) (.inr rfl) rfl rfl (lb rfl) fun a S => ?_
  exact leafL (leafT (⟨decide (p0 ≤ p1.2), Option.some.inj h, S.fix [] [] (by decide) rfl rfl rfl⟩))

end Go.Proofs.Yticjoiolfibmlaa
namespace Go.Proofs.Yticjoiolfibmlaa
open Go.RowKit
set_option linter.unusedVariables false

noncomputable def F_stitch_Check (p0 : api_Stitch) : Option Int :=
  Option.bind (F_stitch_forms p0.Kind) fun r4 =>
  Option.bind (α := Bool) (
    if !r4.2 then
      some true
    else
      Option.bind (F_stitch_within p0.A r4.1.a) fun r13 =>
      if !r13 then
        some true
      else
        Option.bind (F_stitch_within p0.B r4.1.b) fun r16 =>
        if !r16 then
          some true
        else
          if p0.Purl then
            some (!r4.1.sided)
          else
            some false) fun o9 =>
  if o9 then
    some 8
  else
    some 0
set_option maxHeartbeats 4000000 in
set_option maxRecDepth 100000 in
theorem c_stitch_Check (E : Nat → Prop) (w0 : World) (p0 : api_Stitch) (v0 : Value) (r : Int) (h : F_stitch_Check p0 = some r) (S : St0 E [] w0 w0 [] [fRep r_api_Stitch (v0) p0]) :
    Calls Try.prog 71 #[v0] w0 (Ret (X := Unit) E [] w0 (fun _ => .int .i64 r) (fun _ => []) (fun _ => [])) := by
  unfold F_stitch_Check at h
  obtain rfl : v0 = .agg #[.int .u8 p0.Kind, .bool p0.Purl, iv p0.A, iv p0.B] := S.know (i := 0) (e := fRep r_api_Stitch (v0) p0) rfl
  refine sEnter (args := [.agg #[.int .u8 p0.Kind, .bool p0.Purl, iv p0.A, iv p0.B]]) 38 Try.func71 rfl rfl (by simp) S (fun a S => ?_)
  refine sSeq (fun K1 hK1 => ?_)
  refine sRegion ?_
  refine sBox (v := .agg #[.int .u8 p0.Kind, .bool p0.Purl, iv p0.A, iv p0.B]) S (wN rfl) rfl rfl [.int .u8 p0.Kind, .bool p0.Purl, iv p0.A, iv p0.B] rfl rfl (lb rfl) fun a b2 w S => ?_
  refine sMove (iv 0) S (wN rfl) (.inr rfl) rfl rfl (lb rfl) fun a S => ?_
  refine leafL (leafT (hK1 _ _ ?_))
  refine sSeq (fun K3 hK3 => ?_)
  refine sRegion ?_
  refine sField (b := b2) (off := 0) 0 0 S (wN rfl) rfl rfl rfl rfl rfl (lb rfl) fun a S => ?_
  refine sLoad1 (p := b2) (off := 0) (T := 61) (vs := [.int .u8 p0.Kind, .bool p0.Purl, iv p0.A, iv p0.B]) 0 (.int .u8 p0.Kind) S (wN rfl) rfl rfl rfl rfl rfl rfl (lb rfl) fun a S => ?_
  obtain ⟨r4, hx5, h⟩ := bindSome h
  refine sCall (X := Value) (f := 67) (vs := [.int .u8 p0.Kind]) (val := c_stitch_forms_val r4) (B' := fun _ => []) (D' := c_stitch_forms_D r4) [] [eBox b2 61 [.int .u8 p0.Kind, .bool p0.Purl, iv p0.A, iv p0.B]] [] [0] [] S (wN rfl) rfl callee67 rfl (by decide) rfl rfl (fun E1 w1 S1 => c_stitch_forms E1 w1 p0.Kind r4 hx5 S1) rfl (lb rfl) fun u6 a w S => ?_
  obtain rfl : u6 = gv_stitch_form r4.1 := S.mem.know (i := 0) (e := fRep r_stitch_form (u6) r4.1) rfl
  refine sMove (.tuple #[gv_stitch_form r4.1, .bool r4.2]) S (wN rfl) (.inl rfl) rfl rfl (lb rfl) fun a S => ?_
  refine sExtract (vs := [gv_stitch_form r4.1, .bool r4.2]) (gv_stitch_form r4.1) S (wN rfl) rfl rfl rfl rfl (lb rfl) fun a S => ?_
  refine sExtract (vs := [gv_stitch_form r4.1, .bool r4.2]) (.bool r4.2) S (wN rfl) rfl rfl rfl rfl (lb rfl) fun a S => ?_
  refine sAlloc (gv_stitch_form (stitch_form.mk (⟨#[]⟩ : ByteArray) (0, 0) (0, 0) false 0 0)) S (wN rfl) rfl rfl (gl_stitch_form (stitch_form.mk (⟨#[]⟩ : ByteArray) (0, 0) (0, 0) false 0 0)) rfl rfl (lb rfl) fun a b7 w S => ?_
  refine sStore (p := b7) (off := 0) (T := 115) (vs := [.string (⟨#[]⟩ : ByteArray), iv 0, iv 0, iv 0, iv 0, .bool false, iv 0, iv 0]) (v := gv_stitch_form r4.1) 0 [.string r4.1.letter, iv r4.1.a.1, iv r4.1.a.2, iv r4.1.b.1, iv r4.1.b.2, .bool r4.1.sided, iv r4.1.uses, iv r4.1.made] S (wN rfl) rfl rfl rfl rfl rfl rfl rfl (by simp) rfl fun a w S => ?_
  refine sMove (.bool r4.2) S (wN rfl) (.inr rfl) rfl rfl (lb rfl) fun a S => ?_
  refine leafL (leafT (hK3 _ _ ?_))
  refine sSeq (fun K8 hK8 => ?_)
  obtain ⟨t10, h, g11⟩ := bindSome h
  refine sCut (fun a w => ∃ o9, o9 = t10 ∧ St [] E [] w0 38 a w [(37, .bool o9)] [] []) ?_ (fun a w hI => ?_)
  rotate_left
  · obtain ⟨o9, rfl, S⟩ := hI
    have h := g11
    clear g11
    try dsimp only at h
    rcases iteSome h with ⟨hc20, h⟩ | ⟨hc20, h⟩
    · refine sCondT S rfl hc20 ?_
      refine sSeq (fun K21 hK21 => ?_)
      refine sRegion ?_
      refine sMove (iv 8) S (wN rfl) (.inr rfl) rfl rfl (lb rfl) fun a S => ?_
      refine leafL (leafT (hK21 _ _ ?_))
      obtain rfl := Option.some.inj h
      exact wp_ret (rThen (sRet (iv 8) S (rsl1 rfl (rvT (t := 2) (v := iv 8) S rfl)) ⟨(), rfl, S.mem.sel [] [] (by decide) rfl rfl⟩))
    refine sCondF S rfl hc20 ?_
    refine wp_skip (leafT (hK8 _ _ ?_))
    refine sSeq (fun K22 hK22 => ?_)
    refine sRegion ?_
    refine sMove (iv 0) S (wN rfl) (.inr rfl) rfl rfl (lb rfl) fun a S => ?_
    refine leafL (leafT (hK22 _ _ ?_))
    obtain rfl := Option.some.inj h
    exact wp_ret (sRet (iv 0) S (rsl1 rfl (rvT (t := 2) (v := iv 0) S rfl)) ⟨(), rfl, S.mem.sel [] [] (by decide) rfl rfl⟩)
  refine sRegion ?_
  refine sMove (.bool r4.2) S (wN rfl) (.inl rfl) rfl rfl (lb rfl) fun a S => ?_
  refine sNot (b := r4.2) S (wN rfl) rfl rfl rfl (lb rfl) fun a S => ?_
  refine sMove (.bool (!r4.2)) S (wN rfl) (.inl rfl) rfl rfl (lb rfl) fun a S => ?_
  rcases iteSome h with ⟨hc12, h⟩ | ⟨hc12, h⟩
  · refine sSkip 2 false 13 14 S rfl rfl rfl hc12 rfl (lb rfl) fun a S => ?_
    refine sSkip 2 false 13 15 S rfl rfl rfl hc12 rfl (lb rfl) fun a S => ?_
    refine sSkip 2 false 13 16 S rfl rfl rfl hc12 rfl (lb rfl) fun a S => ?_
    refine sSkip 2 false 13 17 S rfl rfl rfl hc12 rfl (lb rfl) fun a S => ?_
    refine sSkip 2 false 13 18 S rfl rfl rfl hc12 rfl (lb rfl) fun a S => ?_
    refine sSkip 2 false 13 19 S rfl rfl rfl hc12 rfl (lb rfl) fun a S => ?_
    refine sPickT (.bool true) S (wN rfl) rfl rfl hc12 rfl rfl (lb rfl) fun a S => ?_
    refine sMove (.bool true) S (wN rfl) (.inl rfl) rfl rfl (lb rfl) fun a S => ?_
    refine sSkip 10 false 21 22 S rfl rfl rfl rfl rfl (lb rfl) fun a S => ?_
    refine sSkip 10 false 21 23 S rfl rfl rfl rfl rfl (lb rfl) fun a S => ?_
    refine sSkip 10 false 21 24 S rfl rfl rfl rfl rfl (lb rfl) fun a S => ?_
    refine sSkip 10 false 21 25 S rfl rfl rfl rfl rfl (lb rfl) fun a S => ?_
    refine sSkip 10 false 21 26 S rfl rfl rfl rfl rfl (lb rfl) fun a S => ?_
    refine sSkip 10 false 21 27 S rfl rfl rfl rfl rfl (lb rfl) fun a S => ?_
    refine sPickT (.bool true) S (wN rfl) rfl rfl rfl rfl rfl (lb rfl) fun a S => ?_
    refine sMove (.bool true) S (wN rfl) (.inl rfl) rfl rfl (lb rfl) fun a S => ?_
    refine sSkip 18 false 29 30 S rfl rfl rfl rfl rfl (lb rfl) fun a S => ?_
    refine sSkip 18 false 29 31 S rfl rfl rfl rfl rfl (lb rfl) fun a S => ?_
    refine sSkip 18 false 29 32 S rfl rfl rfl rfl rfl (lb rfl) fun a S => ?_
    refine sSkipU 21 true 32 33 S rfl rfl rfl rfl (lb rfl) fun a S => ?_
    refine sSkipU 21 true 32 34 S rfl rfl rfl rfl (lb rfl) fun a S => ?_
    refine sSkipU 21 true 32 35 S rfl rfl rfl rfl (lb rfl) fun a S => ?_
    refine sSkip 18 false 29 36 S rfl rfl rfl rfl rfl (lb rfl) fun a S => ?_
    refine sPickT (.bool true) S (wN rfl) rfl rfl rfl rfl rfl (lb rfl) fun a S => ?_
    exact leafL (leafT (⟨true, Option.some.inj h, S.fix [] [] (by decide) rfl rfl rfl⟩))
  refine sField (b := b2) (off := 0) 2 2 S (wG 2 false 13 rfl rfl rfl hc12) rfl rfl rfl rfl rfl (lb rfl) fun a S => ?_
  refine sLoad1 (p := b2) (off := 2) (T := 61) (vs := [.int .u8 p0.Kind, .bool p0.Purl, iv p0.A, iv p0.B]) 1 (iv p0.A) S (wG 2 false 13 rfl rfl rfl hc12) rfl rfl rfl rfl rfl rfl (lb rfl) fun a S => ?_
  refine sField (b := b7) (off := 0) 1 1 S (wG 2 false 13 rfl rfl rfl hc12) rfl rfl rfl rfl rfl (lb rfl) fun a S => ?_
  refine sLoadN (p := b7) (off := 1) (T := 115) (vs := (gl_stitch_form r4.1)) 0 [iv r4.1.a.1, iv r4.1.a.2] S (wG 2 false 13 rfl rfl rfl hc12) rfl rfl rfl rfl rfl rfl rfl (lb rfl) fun a S => ?_
  obtain ⟨r13, hx14, h⟩ := bindSome h
  have S1 := S.mem
  have S1 := S1.learn (fRep r_A2_Int (.agg #[iv r4.1.a.1, iv r4.1.a.2]) r4.1.a) rfl
  refine sCallQ (X := Unit) (f := 76) (vs := [iv p0.A, .agg #[iv r4.1.a.1, iv r4.1.a.2]]) (val := fun _ => .bool r13) S (wG 2 false 13 rfl rfl rfl hc12) rfl callee76 rfl (S1.quiet [0] rfl) (fun E1 w1 S1 => c_stitch_within E1 w1 p0.A r4.1.a (.agg #[iv r4.1.a.1, iv r4.1.a.2]) r13 hx14 S1) rfl (lb rfl) fun _ a w S => ?_
  refine sNot (b := r13) S (wG 2 false 13 rfl rfl rfl hc12) rfl rfl rfl (lb rfl) fun a S => ?_
  refine sPickF (.bool (!r13)) S (wN rfl) rfl rfl hc12 rfl rfl (lb rfl) fun a S => ?_
  refine sMove (.bool (!r13)) S (wN rfl) (.inl rfl) rfl rfl (lb rfl) fun a S => ?_
  rcases iteSome h with ⟨hc15, h⟩ | ⟨hc15, h⟩
  · refine sSkip 10 false 21 22 S rfl rfl rfl hc15 rfl (lb rfl) fun a S => ?_
    refine sSkip 10 false 21 23 S rfl rfl rfl hc15 rfl (lb rfl) fun a S => ?_
    refine sSkip 10 false 21 24 S rfl rfl rfl hc15 rfl (lb rfl) fun a S => ?_
    refine sSkip 10 false 21 25 S rfl rfl rfl hc15 rfl (lb rfl) fun a S => ?_
    refine sSkip 10 false 21 26 S rfl rfl rfl hc15 rfl (lb rfl) fun a S => ?_
    refine sSkip 10 false 21 27 S rfl rfl rfl hc15 rfl (lb rfl) fun a S => ?_
    refine sPickT (.bool true) S (wN rfl) rfl rfl hc15 rfl rfl (lb rfl) fun a S => ?_
    refine sMove (.bool true) S (wN rfl) (.inl rfl) rfl rfl (lb rfl) fun a S => ?_
    refine sSkip 18 false 29 30 S rfl rfl rfl rfl rfl (lb rfl) fun a S => ?_
    refine sSkip 18 false 29 31 S rfl rfl rfl rfl rfl (lb rfl) fun a S => ?_
    refine sSkip 18 false 29 32 S rfl rfl rfl rfl rfl (lb rfl) fun a S => ?_
    refine sSkipU 21 true 32 33 S rfl rfl rfl rfl (lb rfl) fun a S => ?_
    refine sSkipU 21 true 32 34 S rfl rfl rfl rfl (lb rfl) fun a S => ?_
    refine sSkipU 21 true 32 35 S rfl rfl rfl rfl (lb rfl) fun a S => ?_
    refine sSkip 18 false 29 36 S rfl rfl rfl rfl rfl (lb rfl) fun a S => ?_
    refine sPickT (.bool true) S (wN rfl) rfl rfl rfl rfl rfl (lb rfl) fun a S => ?_
    exact leafL (leafT (⟨true, Option.some.inj h, S.fix [] [] (by decide) rfl rfl rfl⟩))
  refine sField (b := b2) (off := 0) 3 3 S (wG 10 false 21 rfl rfl rfl hc15) rfl rfl rfl rfl rfl (lb rfl) fun a S => ?_
  refine sLoad1 (p := b2) (off := 3) (T := 61) (vs := [.int .u8 p0.Kind, .bool p0.Purl, iv p0.A, iv p0.B]) 1 (iv p0.B) S (wG 10 false 21 rfl rfl rfl hc15) rfl rfl rfl rfl rfl rfl (lb rfl) fun a S => ?_
  refine sField (b := b7) (off := 0) 3 3 S (wG 10 false 21 rfl rfl rfl hc15) rfl rfl rfl rfl rfl (lb rfl) fun a S => ?_
  refine sLoadN (p := b7) (off := 3) (T := 115) (vs := (gl_stitch_form r4.1)) 0 [iv r4.1.b.1, iv r4.1.b.2] S (wG 10 false 21 rfl rfl rfl hc15) rfl rfl rfl rfl rfl rfl rfl (lb rfl) fun a S => ?_
  obtain ⟨r16, hx17, h⟩ := bindSome h
  have S1 := S.mem
  have S1 := S1.learn (fRep r_A2_Int (.agg #[iv r4.1.b.1, iv r4.1.b.2]) r4.1.b) rfl
  refine sCallQ (X := Unit) (f := 76) (vs := [iv p0.B, .agg #[iv r4.1.b.1, iv r4.1.b.2]]) (val := fun _ => .bool r16) S (wG 10 false 21 rfl rfl rfl hc15) rfl callee76 rfl (S1.quiet [0] rfl) (fun E1 w1 S1 => c_stitch_within E1 w1 p0.B r4.1.b (.agg #[iv r4.1.b.1, iv r4.1.b.2]) r16 hx17 S1) rfl (lb rfl) fun _ a w S => ?_
  refine sNot (b := r16) S (wG 10 false 21 rfl rfl rfl hc15) rfl rfl rfl (lb rfl) fun a S => ?_
  refine sPickF (.bool (!r16)) S (wN rfl) rfl rfl hc15 rfl rfl (lb rfl) fun a S => ?_
  refine sMove (.bool (!r16)) S (wN rfl) (.inl rfl) rfl rfl (lb rfl) fun a S => ?_
  rcases iteSome h with ⟨hc18, h⟩ | ⟨hc18, h⟩
  · refine sSkip 18 false 29 30 S rfl rfl rfl hc18 rfl (lb rfl) fun a S => ?_
    refine sSkip 18 false 29 31 S rfl rfl rfl hc18 rfl (lb rfl) fun a S => ?_
    refine sSkip 18 false 29 32 S rfl rfl rfl hc18 rfl (lb rfl) fun a S => ?_
    refine sSkipU 21 true 32 33 S rfl rfl rfl rfl (lb rfl) fun a S => ?_
    refine sSkipU 21 true 32 34 S rfl rfl rfl rfl (lb rfl) fun a S => ?_
    refine sSkipU 21 true 32 35 S rfl rfl rfl rfl (lb rfl) fun a S => ?_
    refine sSkip 18 false 29 36 S rfl rfl rfl hc18 rfl (lb rfl) fun a S => ?_
    refine sPickT (.bool true) S (wN rfl) rfl rfl hc18 rfl rfl (lb rfl) fun a S => ?_
    exact leafL (leafT (⟨true, Option.some.inj h, S.fix [] [] (by decide) rfl rfl rfl⟩))
  refine sField (b := b2) (off := 0) 1 1 S (wG 18 false 29 rfl rfl rfl hc18) rfl rfl rfl rfl rfl (lb rfl) fun a S => ?_
  refine sLoad1 (p := b2) (off := 1) (T := 61) (vs := [.int .u8 p0.Kind, .bool p0.Purl, iv p0.A, iv p0.B]) 1 (.bool p0.Purl) S (wG 18 false 29 rfl rfl rfl hc18) rfl rfl rfl rfl rfl rfl (lb rfl) fun a S => ?_
  refine sMove (.bool p0.Purl) S (wG 18 false 29 rfl rfl rfl hc18) (.inl rfl) rfl rfl (lb rfl) fun a S => ?_
  rcases iteSome h with ⟨hc19, h⟩ | ⟨hc19, h⟩
  rotate_left
  · refine sSkip 21 true 32 33 S rfl rfl rfl hc19 rfl (lb rfl) fun a S => ?_
    refine sSkip 21 true 32 34 S rfl rfl rfl hc19 rfl (lb rfl) fun a S => ?_
    refine sSkip 21 true 32 35 S rfl rfl rfl hc19 rfl (lb rfl) fun a S => ?_
    refine sPickF (.bool false) S (wG 18 false 29 rfl rfl rfl hc18) rfl rfl hc19 rfl rfl (lb rfl) fun a S => ?_
    refine sPickF (.bool false) S (wN rfl) rfl rfl hc18 rfl rfl (lb rfl) fun a S => ?_
    exact leafL (leafT (⟨false, Option.some.inj h, S.fix [] [] (by decide) rfl rfl rfl⟩))
  refine sField (b := b7) (off := 0) 5 5 S (wG 21 true 32 rfl rfl rfl hc19) rfl rfl rfl rfl rfl (lb rfl) fun a S => ?_
  refine sLoad1 (p := b7) (off := 5) (T := 115) (vs := (gl_stitch_form r4.1)) 0 (.bool r4.1.sided) S (wG 21 true 32 rfl rfl rfl hc19) rfl rfl rfl rfl rfl rfl (lb rfl) fun a S => ?_
  refine sNot (b := r4.1.sided) S (wG 21 true 32 rfl rfl rfl hc19) rfl rfl rfl (lb rfl) fun a S => ?_
  refine sPickT (.bool (!r4.1.sided)) S (wG 18 false 29 rfl rfl rfl hc18) rfl rfl hc19 rfl rfl (lb rfl) fun a S => ?_
  refine sPickF (.bool (!r4.1.sided)) S (wN rfl) rfl rfl hc18 rfl rfl (lb rfl) fun a S => ?_
  exact leafL (leafT (⟨!r4.1.sided, Option.some.inj h, S.fix [] [] (by decide) rfl rfl rfl⟩))

end Go.Proofs.Yticjoiolfibmlaa
namespace Go.Proofs.Yticjoiolfibmlaa
open Go.RowKit
set_option linter.unusedVariables false

noncomputable def F_stitch_All_1 (p0 : api_Stitch) : Option Bool :=
  Option.bind (F_stitch_Check p0) fun r4 =>
  some (r4 != 0)
set_option maxHeartbeats 4000000 in
set_option maxRecDepth 100000 in
theorem c_stitch_All_1 (E : Nat → Prop) (w0 : World) (p0 : api_Stitch) (v0 : Value) (r : Bool) (h : F_stitch_All_1 p0 = some r) (S : St0 E [] w0 w0 [] [fRep r_api_Stitch (v0) p0]) :
    Calls Try.prog 70 #[v0] w0 (Ret (X := Unit) E [] w0 (fun _ => .bool r) (fun _ => []) (fun _ => [])) := by
  unfold F_stitch_All_1 at h
  obtain rfl : v0 = .agg #[.int .u8 p0.Kind, .bool p0.Purl, iv p0.A, iv p0.B] := S.know (i := 0) (e := fRep r_api_Stitch (v0) p0) rfl
  refine sEnter (args := [.agg #[.int .u8 p0.Kind, .bool p0.Purl, iv p0.A, iv p0.B]]) 6 Try.func70 rfl rfl (by simp) S (fun a S => ?_)
  refine sSeq (fun K1 hK1 => ?_)
  refine sRegion ?_
  refine sBox (v := .agg #[.int .u8 p0.Kind, .bool p0.Purl, iv p0.A, iv p0.B]) S (wN rfl) rfl rfl [.int .u8 p0.Kind, .bool p0.Purl, iv p0.A, iv p0.B] rfl rfl (lb rfl) fun a b2 w S => ?_
  refine sMove (.bool false) S (wN rfl) (.inr rfl) rfl rfl (lb rfl) fun a S => ?_
  refine leafL (leafT (hK1 _ _ ?_))
  refine sSeq (fun K3 hK3 => ?_)
  refine sRegion ?_
  refine sLoadN (p := b2) (off := 0) (T := 61) (vs := [.int .u8 p0.Kind, .bool p0.Purl, iv p0.A, iv p0.B]) 0 [.int .u8 p0.Kind, .bool p0.Purl, iv p0.A, iv p0.B] S (wN rfl) rfl rfl rfl rfl rfl rfl rfl (lb rfl) fun a S => ?_
  obtain ⟨r4, hx5, h⟩ := bindSome h
  have S1 := S.mem
  refine sCallQ (X := Unit) (f := 71) (vs := [.agg #[.int .u8 p0.Kind, .bool p0.Purl, iv p0.A, iv p0.B]]) (val := fun _ => iv r4) S (wN rfl) rfl callee71 rfl (S1.quiet [0] rfl) (fun E1 w1 S1 => c_stitch_Check E1 w1 p0 (.agg #[.int .u8 p0.Kind, .bool p0.Purl, iv p0.A, iv p0.B]) r4 hx5 S1) rfl (lb rfl) fun _ a w S => ?_
  refine sBin (.bool (r4 != 0)) S (wN rfl) rfl rfl rfl (bNe _ _ _ _ .i64 r4 0) rfl (lb rfl) fun a S => ?_
  refine sMove (.bool (r4 != 0)) S (wN rfl) (.inr rfl) rfl rfl (lb rfl) fun a S => ?_
  refine leafL (leafT (hK3 _ _ ?_))
  obtain rfl := Option.some.inj h
  exact wp_ret (sRet (.bool (r4 != 0)) S (rsl1 rfl (rvT (t := 2) (v := .bool (r4 != 0)) S rfl)) ⟨(), rfl, S.mem.sel [] [] (by decide) rfl rfl⟩)

end Go.Proofs.Yticjoiolfibmlaa
namespace Go.Proofs.Yticjoiolfibmlaa
open Go.RowKit
set_option linter.unusedVariables false

noncomputable def slices_IndexFunc___api_Stitch_api_Stitch__s0_l1 (p0 : (List api_Stitch)) : Int → Option (Int ⊕ (Int ⊕ Unit)) := fun s0 => match s0 with
  | s7 =>
    if decide (s7 < (p0.length : Int)) then
      Option.bind (idxO p0 s7) fun x17 =>
      Option.bind (F_stitch_All_1 x17) fun r22 =>
      if r22 then
        some (.inr (.inl s7))
      else
        some (.inl (w64 (s7 + 1)))
    else
      some (.inr (.inr ()))
noncomputable def F_slices_IndexFunc___api_Stitch_api_Stitch__s0 (p0 : (List api_Stitch)) : Option Int :=
  Option.bind (α := Unit ⊕ Int) (
    Option.bind (whileO (slices_IndexFunc___api_Stitch_api_Stitch__s0_l1 p0) 0) fun z0 => match z0 with
      | .inl z =>
        some (.inr z)
      | .inr _ =>
        some (.inl ())) fun z0 => match z0 with
    | .inl _ =>
      some (-1)
    | .inr z =>
      some z
set_option maxHeartbeats 4000000 in
set_option maxRecDepth 100000 in
theorem c_slices_IndexFunc___api_Stitch_api_Stitch__s0 (E : Nat → Prop) (w0 : World) (p0 : (List api_Stitch)) (v0 : Value) (r : Int) (h : F_slices_IndexFunc___api_Stitch_api_Stitch__s0 p0 = some r) (S : St0 E [] w0 w0 [] [fRep (rL r_api_Stitch) (v0) p0]) :
    Calls Try.prog 75 #[v0, .func (.func 70) #[] #[]] w0 (Ret (X := Unit) E [] w0 (fun _ => .int .i64 r) (fun _ => []) (fun _ => [])) := by
  unfold F_slices_IndexFunc___api_Stitch_api_Stitch__s0 at h
  obtain ⟨ad1, cp2, _, rfl, _⟩ := S.know (i := 0) (e := fRep (rL r_api_Stitch) (v0) p0) rfl
  refine sEnter (args := [.slice ad1 p0.length cp2, .func (.func 70) #[] #[]]) 19 Try.func75 rfl rfl (by simp) S (fun a S => ?_)
  refine sSeq (fun K3 hK3 => ?_)
  refine sRegion ?_
  refine sMove (iv 0) S (wN rfl) (.inr rfl) rfl rfl (lb rfl) fun a S => ?_
  refine leafL (leafT (hK3 _ _ ?_))
  obtain ⟨t4, h, g5⟩ := bindSome h
  refine sCut (fun a w => .inl () = t4 ∧ St [] E [] w0 19 a w [] [] []) ?_ (fun a w hI => ?_)
  rotate_left
  · obtain ⟨rfl, S⟩ := hI
    have h := g5
    clear g5
    try dsimp only at h
    refine sSeq (fun K26 hK26 => ?_)
    refine sRegion ?_
    refine sMove (iv (-1)) S (wN rfl) (.inr rfl) rfl rfl (lb rfl) fun a S => ?_
    refine leafL (leafT (hK26 _ _ ?_))
    obtain rfl := Option.some.inj h
    exact wp_ret (sRet (iv (-1)) S (rsl1 rfl (rvT (t := 4) (v := iv (-1)) S rfl)) ⟨(), rfl, S.mem.sel [] [] (by decide) rfl rfl⟩)
  refine sSeq (fun K6 hK6 => ?_)
  refine sRegion ?_
  refine sMove (.slice ad1 p0.length cp2) S (wN rfl) (.inl rfl) rfl rfl (lb rfl) fun a S => ?_
  refine sLen (ad := ad1) (m := p0.length) (c := cp2) S (wN rfl) rfl Try.underlying62 rfl rfl (lb rfl) fun a S => ?_
  refine sMove (iv 0) S (wN rfl) (.inl rfl) rfl rfl (lb rfl) fun a S => ?_
  refine leafL (leafT (hK6 _ _ ?_))
  refine wp_block ?_
  obtain ⟨t10, hl, g9⟩ := bindSome h
  refine sLoop hl (fun s0 a w => match s0 with | s7 => St [] E [] w0 19 a w [(0, .slice ad1 p0.length cp2), (1, .func (.func 70) #[] #[]), (7, iv (p0.length : Int)), (8, iv s7)] [] [fRep (rL r_api_Stitch) (.slice ad1 p0.length cp2) p0]) (S.fix [] [0] (by decide) rfl rfl rfl) ?_
  clear hl h
  intro s7 a w c0 hI h hu8
  unfold slices_IndexFunc___api_Stitch_api_Stitch__s0_l1 at h
  dsimp only at h hI
  have S := hI
  refine sSeq (fun K11 hK11 => ?_)
  refine sRegion ?_
  refine sBin (.bool (decide (s7 < (p0.length : Int)))) S (wN rfl) rfl rfl rfl (bLt _ _ _ _ .i64 s7 (p0.length : Int)) rfl (lb rfl) fun a S => ?_
  refine leafL (leafT (hK11 _ _ ?_))
  refine sSeq (fun K12 hK12 => ?_)
  rcases iteSome h with ⟨hc13, h⟩ | ⟨hc13, h⟩
  rotate_left
  · refine sCondF S rfl hc13 ?_
    obtain rfl := Option.some.inj h
    obtain rfl := hu8 _ rfl
    have h := g9
    clear g9
    try dsimp only at h
    exact wp_exit (xThen (xThen (xHit (leafT (⟨Option.some.inj h, S.fix [] [] (by decide) rfl rfl rfl⟩)))))
  refine sCondT S rfl hc13 ?_
  refine wp_skip (leafT (hK12 _ _ ?_))
  refine sSeq (fun K14 hK14 => ?_)
  refine wp_block ?_
  refine sSeq (fun K15 hK15 => ?_)
  refine sRegion ?_
  refine sMove (iv s7) S (wN rfl) (.inl rfl) rfl rfl (lb rfl) fun a S => ?_
  refine sMove (iv s7) S (wN rfl) (.inr rfl) rfl rfl (lb rfl) fun a S => ?_
  refine leafL (leafT (hK15 _ _ ?_))
  refine sSeq (fun K16 hK16 => ?_)
  refine sRegion ?_
  refine sMove (.func (.func 70) #[] #[]) S (wN rfl) (.inl rfl) rfl rfl (lb rfl) fun a S => ?_
  refine sMove (.slice ad1 p0.length cp2) S (wN rfl) (.inl rfl) rfl rfl (lb rfl) fun a S => ?_
  refine sMove (iv s7) S (wN rfl) (.inl rfl) rfl rfl (lb rfl) fun a S => ?_
  obtain ⟨x17, hx18, h⟩ := bindSome h
  obtain ⟨q19, hq20, S⟩ := pIdx (P := Try.prog) (r := r_api_Stitch) (v := .slice ad1 p0.length cp2) (xs := p0) (j := s7) 62 61 0 S Try.underlying62 rfl rfl hx18
  refine sIdxV (v := .slice ad1 p0.length cp2) (k := .i64) (j := s7) S (wN rfl) rfl rfl rfl hq20 rfl (lb rfl) fun a S => ?_
  obtain ⟨u21, S⟩ := pLoad (r := r_api_Stitch) (q := q19) (x := x17) 0 S rfl
  obtain rfl : u21 = .agg #[.int .u8 x17.Kind, .bool x17.Purl, iv x17.A, iv x17.B] := S.mem.know (i := 1) (e := fRep r_api_Stitch (u21) x17) rfl
  refine sLoadVN (vq := q19) 0 [.int .u8 x17.Kind, .bool x17.Purl, iv x17.A, iv x17.B] S (wN rfl) rfl rfl rfl rfl rfl rfl (lb rfl) fun a S => ?_
  obtain ⟨r22, hx23, h⟩ := bindSome h
  have S1 := S.mem
  refine sCallVQ (X := Unit) (g := 70) (vs := [.agg #[.int .u8 x17.Kind, .bool x17.Purl, iv x17.A, iv x17.B]]) (caps := []) (val := fun _ => .bool r22) S (wN rfl) rfl rfl callee70 rfl (S1.quiet [1] rfl) (fun E1 w1 S1 => c_stitch_All_1 E1 w1 x17 (.agg #[.int .u8 x17.Kind, .bool x17.Purl, iv x17.A, iv x17.B]) r22 hx23 S1) rfl (lb rfl) fun _ a w S => ?_
  refine leafL (leafT (hK16 _ _ ?_))
  rcases iteSome h with ⟨hc24, h⟩ | ⟨hc24, h⟩
  rotate_left
  · refine sCondF S rfl hc24 ?_
    refine wp_skip (leafB (leafT (hK14 _ _ ?_)))
    refine sRegion ?_
    refine sBin (iv (w64 (s7 + 1))) S (wN rfl) rfl rfl rfl (bAdd _ _ _ _ s7 1) rfl (lb rfl) fun a S => ?_
    refine sMove (iv (w64 (s7 + 1))) S (wN rfl) (.inl rfl) rfl rfl (lb rfl) fun a S => ?_
    exact leafL (leafT (⟨w64 (s7 + 1), (Option.some.inj h).symm, (S.fix [] [3] (by decide) rfl rfl rfl)⟩))
  refine sCondT S rfl hc24 ?_
  refine sSeq (fun K25 hK25 => ?_)
  refine sRegion ?_
  refine sMove (iv s7) S (wN rfl) (.inl rfl) rfl rfl (lb rfl) fun a S => ?_
  refine sMove (iv s7) S (wN rfl) (.inr rfl) rfl rfl (lb rfl) fun a S => ?_
  refine leafL (leafT (hK25 _ _ ?_))
  obtain rfl := Option.some.inj h
  obtain rfl := hu8 _ rfl
  have h := g9
  clear g9
  try dsimp only at h
  obtain rfl := Option.some.inj h
  have h := g5
  clear g5
  try dsimp only at h
  obtain rfl := Option.some.inj h
  exact wp_ret (rBlock (rThen (rThen (rBlock (rThen (sRet (iv s7) S (rsl1 rfl (rvT (t := 4) (v := iv s7) S rfl)) ⟨(), rfl, S.mem.sel [] [] (by decide) rfl rfl⟩))))))

end Go.Proofs.Yticjoiolfibmlaa
namespace Go.Proofs.Yticjoiolfibmlaa
open Go.RowKit
set_option linter.unusedVariables false

noncomputable def F_slices_ContainsFunc___api_Stitch_api_Stitch__s0 (p0 : (List api_Stitch)) : Option Bool :=
  Option.bind (F_slices_IndexFunc___api_Stitch_api_Stitch__s0 p0) fun r5 =>
  some (decide (0 ≤ r5))
set_option maxHeartbeats 4000000 in
set_option maxRecDepth 100000 in
theorem c_slices_ContainsFunc___api_Stitch_api_Stitch__s0 (E : Nat → Prop) (w0 : World) (p0 : (List api_Stitch)) (v0 : Value) (r : Bool) (h : F_slices_ContainsFunc___api_Stitch_api_Stitch__s0 p0 = some r) (S : St0 E [] w0 w0 [] [fRep (rL r_api_Stitch) (v0) p0]) :
    Calls Try.prog 69 #[v0, .func (.func 70) #[] #[]] w0 (Ret (X := Unit) E [] w0 (fun _ => .bool r) (fun _ => []) (fun _ => [])) := by
  unfold F_slices_ContainsFunc___api_Stitch_api_Stitch__s0 at h
  obtain ⟨ad1, cp2, _, rfl, _⟩ := S.know (i := 0) (e := fRep (rL r_api_Stitch) (v0) p0) rfl
  refine sEnter (args := [.slice ad1 p0.length cp2, .func (.func 70) #[] #[]]) 9 Try.func69 rfl rfl (by simp) S (fun a S => ?_)
  refine sSeq (fun K3 hK3 => ?_)
  refine sRegion ?_
  refine sMove (.bool false) S (wN rfl) (.inr rfl) rfl rfl (lb rfl) fun a S => ?_
  refine leafL (leafT (hK3 _ _ ?_))
  refine sSeq (fun K4 hK4 => ?_)
  refine sRegion ?_
  refine sMove (.slice ad1 p0.length cp2) S (wN rfl) (.inl rfl) rfl rfl (lb rfl) fun a S => ?_
  refine sMove (.func (.func 70) #[] #[]) S (wN rfl) (.inl rfl) rfl rfl (lb rfl) fun a S => ?_
  obtain ⟨r5, hx6, h⟩ := bindSome h
  have S1 := S.mem
  refine sCallQ (X := Unit) (f := 75) (vs := [.slice ad1 p0.length cp2, .func (.func 70) #[] #[]]) (val := fun _ => iv r5) S (wN rfl) rfl callee75 rfl (S1.quiet [0] rfl) (fun E1 w1 S1 => c_slices_IndexFunc___api_Stitch_api_Stitch__s0 E1 w1 p0 (.slice ad1 p0.length cp2) r5 hx6 S1) rfl (lb rfl) fun _ a w S => ?_
  refine sBin (.bool (decide (0 ≤ r5))) S (wN rfl) rfl rfl rfl (bGe _ _ _ _ .i64 r5 0) rfl (lb rfl) fun a S => ?_
  refine sMove (.bool (decide (0 ≤ r5))) S (wN rfl) (.inr rfl) rfl rfl (lb rfl) fun a S => ?_
  refine leafL (leafT (hK4 _ _ ?_))
  obtain rfl := Option.some.inj h
  exact wp_ret (sRet (.bool (decide (0 ≤ r5))) S (rsl1 rfl (rvT (t := 4) (v := .bool (decide (0 ≤ r5))) S rfl)) ⟨(), rfl, S.mem.sel [] [] (by decide) rfl rfl⟩)

end Go.Proofs.Yticjoiolfibmlaa
namespace Go.Proofs.Yticjoiolfibmlaa
open Go.RowKit
set_option linter.unusedVariables false

noncomputable def F_stitch_All (p0 : (List api_Stitch)) : Option Int :=
  if decide (200 < (p0.length : Int)) then
    some 4
  else
    Option.bind (F_slices_ContainsFunc___api_Stitch_api_Stitch__s0 p0) fun r10 =>
    if r10 then
      some 8
    else
      Option.bind (F_stitch_sum p0) fun r16 =>
      if decide (200 < (if r16.1 < r16.2 then r16.2 else r16.1)) then
        some 4
      else
        some 0
set_option maxHeartbeats 4000000 in
set_option maxRecDepth 100000 in
theorem c_stitch_All (E : Nat → Prop) (w0 : World) (p0 : (List api_Stitch)) (v0 : Value) (r : Int) (h : F_stitch_All p0 = some r) (S : St0 E [] w0 w0 [] [fRep (rL r_api_Stitch) (v0) p0]) :
    Calls Try.prog 64 #[v0] w0 (Ret (X := Unit) E [] w0 (fun _ => .int .i64 r) (fun _ => []) (fun _ => [])) := by
  unfold F_stitch_All at h
  obtain ⟨ad1, cp2, _, rfl, _⟩ := S.know (i := 0) (e := fRep (rL r_api_Stitch) (v0) p0) rfl
  refine sEnter (args := [.slice ad1 p0.length cp2]) 19 Try.func64 rfl rfl (by simp) S (fun a S => ?_)
  refine sSeq (fun K3 hK3 => ?_)
  refine sRegion ?_
  refine sMove (iv 0) S (wN rfl) (.inr rfl) rfl rfl (lb rfl) fun a S => ?_
  refine leafL (leafT (hK3 _ _ ?_))
  refine sSeq (fun K4 hK4 => ?_)
  refine sSeq (fun K5 hK5 => ?_)
  refine sRegion ?_
  refine sMove (.slice ad1 p0.length cp2) S (wN rfl) (.inl rfl) rfl rfl (lb rfl) fun a S => ?_
  refine sLen (ad := ad1) (m := p0.length) (c := cp2) S (wN rfl) rfl Try.underlying62 rfl rfl (lb rfl) fun a S => ?_
  refine sBin (.bool (decide (200 < (p0.length : Int)))) S (wN rfl) rfl rfl rfl (bGt _ _ _ _ .i64 (p0.length : Int) 200) rfl (lb rfl) fun a S => ?_
  refine leafL (leafT (hK5 _ _ ?_))
  rcases iteSome h with ⟨hc6, h⟩ | ⟨hc6, h⟩
  · refine sCondT S rfl hc6 ?_
    refine sSeq (fun K7 hK7 => ?_)
    refine sRegion ?_
    refine sMove (iv 4) S (wN rfl) (.inr rfl) rfl rfl (lb rfl) fun a S => ?_
    refine leafL (leafT (hK7 _ _ ?_))
    obtain rfl := Option.some.inj h
    exact wp_ret (rThen (sRet (iv 4) S (rsl1 rfl (rvT (t := 2) (v := iv 4) S rfl)) ⟨(), rfl, S.mem.sel [] [] (by decide) rfl rfl⟩))
  refine sCondF S rfl hc6 ?_
  refine wp_skip (leafT (hK4 _ _ ?_))
  refine sSeq (fun K8 hK8 => ?_)
  refine sSeq (fun K9 hK9 => ?_)
  refine sRegion ?_
  refine sMove (.slice ad1 p0.length cp2) S (wN rfl) (.inl rfl) rfl rfl (lb rfl) fun a S => ?_
  obtain ⟨r10, hx11, h⟩ := bindSome h
  have S1 := S.mem
  refine sCallQ (X := Unit) (f := 69) (vs := [.slice ad1 p0.length cp2, .func (.func 70) #[] #[]]) (val := fun _ => .bool r10) S (wN rfl) rfl callee69 rfl (S1.quiet [0] rfl) (fun E1 w1 S1 => c_slices_ContainsFunc___api_Stitch_api_Stitch__s0 E1 w1 p0 (.slice ad1 p0.length cp2) r10 hx11 S1) rfl (lb rfl) fun _ a w S => ?_
  refine leafL (leafT (hK9 _ _ ?_))
  rcases iteSome h with ⟨hc12, h⟩ | ⟨hc12, h⟩
  · refine sCondT S rfl hc12 ?_
    refine sSeq (fun K13 hK13 => ?_)
    refine sRegion ?_
    refine sMove (iv 8) S (wN rfl) (.inr rfl) rfl rfl (lb rfl) fun a S => ?_
    refine leafL (leafT (hK13 _ _ ?_))
    obtain rfl := Option.some.inj h
    exact wp_ret (rThen (sRet (iv 8) S (rsl1 rfl (rvT (t := 2) (v := iv 8) S rfl)) ⟨(), rfl, S.mem.sel [] [] (by decide) rfl rfl⟩))
  refine sCondF S rfl hc12 ?_
  refine wp_skip (leafT (hK8 _ _ ?_))
  refine sSeq (fun K14 hK14 => ?_)
  refine sSeq (fun K15 hK15 => ?_)
  refine sRegion ?_
  refine sMove (.slice ad1 p0.length cp2) S (wN rfl) (.inl rfl) rfl rfl (lb rfl) fun a S => ?_
  obtain ⟨r16, hx17, h⟩ := bindSome h
  have S1 := S.mem
  refine sCallQ (X := Unit) (f := 65) (vs := [.slice ad1 p0.length cp2]) (val := fun _ => .tuple #[iv r16.1, iv r16.2]) S (wN rfl) rfl callee65 rfl (S1.quiet [0] rfl) (fun E1 w1 S1 => c_stitch_sum E1 w1 p0 (.slice ad1 p0.length cp2) r16 hx17 S1) rfl (lb rfl) fun _ a w S => ?_
  refine sMove (.tuple #[iv r16.1, iv r16.2]) S (wN rfl) (.inl rfl) rfl rfl (lb rfl) fun a S => ?_
  refine sExtract (vs := [iv r16.1, iv r16.2]) (iv r16.1) S (wN rfl) rfl rfl rfl rfl (lb rfl) fun a S => ?_
  refine sExtract (vs := [iv r16.1, iv r16.2]) (iv r16.2) S (wN rfl) rfl rfl rfl rfl (lb rfl) fun a S => ?_
  refine sMove (iv r16.1) S (wN rfl) (.inr rfl) rfl rfl (lb rfl) fun a S => ?_
  refine sMove (iv r16.2) S (wN rfl) (.inr rfl) rfl rfl (lb rfl) fun a S => ?_
  refine leafL (leafT (hK15 _ _ ?_))
  refine sSeq (fun K18 hK18 => ?_)
  refine sRegion ?_
  refine sMove (iv r16.1) S (wN rfl) (.inl rfl) rfl rfl (lb rfl) fun a S => ?_
  refine sMove (iv r16.2) S (wN rfl) (.inl rfl) rfl rfl (lb rfl) fun a S => ?_
  refine sMax2 (p := r16.1) (q := r16.2) S (wN rfl) rfl rfl rfl rfl (lb rfl) fun a S => ?_
  refine sBin (.bool (decide (200 < (if r16.1 < r16.2 then r16.2 else r16.1)))) S (wN rfl) rfl rfl rfl (bGt _ _ _ _ .i64 (if r16.1 < r16.2 then r16.2 else r16.1) 200) rfl (lb rfl) fun a S => ?_
  refine leafL (leafT (hK18 _ _ ?_))
  rcases iteSome h with ⟨hc19, h⟩ | ⟨hc19, h⟩
  · refine sCondT S rfl hc19 ?_
    refine sSeq (fun K20 hK20 => ?_)
    refine sRegion ?_
    refine sMove (iv 4) S (wN rfl) (.inr rfl) rfl rfl (lb rfl) fun a S => ?_
    refine leafL (leafT (hK20 _ _ ?_))
    obtain rfl := Option.some.inj h
    exact wp_ret (rThen (sRet (iv 4) S (rsl1 rfl (rvT (t := 2) (v := iv 4) S rfl)) ⟨(), rfl, S.mem.sel [] [] (by decide) rfl rfl⟩))
  refine sCondF S rfl hc19 ?_
  refine wp_skip (leafT (hK14 _ _ ?_))
  refine sSeq (fun K21 hK21 => ?_)
  refine sRegion ?_
  refine sMove (iv 0) S (wN rfl) (.inr rfl) rfl rfl (lb rfl) fun a S => ?_
  refine leafL (leafT (hK21 _ _ ?_))
  obtain rfl := Option.some.inj h
  exact wp_ret (sRet (iv 0) S (rsl1 rfl (rvT (t := 2) (v := iv 0) S rfl)) ⟨(), rfl, S.mem.sel [] [] (by decide) rfl rfl⟩)

end Go.Proofs.Yticjoiolfibmlaa
namespace Go.Proofs.Yticjoiolfibmlaa
open Go.RowKit
set_option linter.unusedVariables false

noncomputable def F_raddleref25_Used (p0 : api_Stitch) : Option Int :=
  Option.bind (α := Bool) (
    if p0.Kind == 2 then
      some (p0.Kind == 2)
    else
      some (p0.Kind == 9)) fun o5 =>
  if o5 then
    some 0
  else
    Option.bind (α := Bool) (
      if p0.Kind == 3 then
        some (p0.Kind == 3)
      else
        if p0.Kind == 4 then
          some (p0.Kind == 4)
        else
          some (p0.Kind == 10)) fun o12 =>
    if o12 then
      some p0.A
    else
      Option.bind (α := Bool) (
        if p0.Kind == 6 then
          some (p0.Kind == 6)
        else
          some (p0.Kind == 7)) fun o21 =>
      if o21 then
        some (w64 (p0.A + p0.B))
      else
        some 1
set_option maxHeartbeats 4000000 in
set_option maxRecDepth 100000 in
theorem c_raddleref25_Used (E : Nat → Prop) (w0 : World) (p0 : api_Stitch) (v0 : Value) (r : Int) (h : F_raddleref25_Used p0 = some r) (S : St0 E [] w0 w0 [] [fRep r_api_Stitch (v0) p0]) :
    Calls Try.prog 46 #[v0] w0 (Ret (X := Unit) E [] w0 (fun _ => .int .i64 r) (fun _ => []) (fun _ => [])) := by
  unfold F_raddleref25_Used at h
  obtain rfl : v0 = .agg #[.int .u8 p0.Kind, .bool p0.Purl, iv p0.A, iv p0.B] := S.know (i := 0) (e := fRep r_api_Stitch (v0) p0) rfl
  refine sEnter (args := [.agg #[.int .u8 p0.Kind, .bool p0.Purl, iv p0.A, iv p0.B]]) 22 Try.func46 rfl rfl (by simp) S (fun a S => ?_)
  refine sSeq (fun K1 hK1 => ?_)
  refine sRegion ?_
  refine sBox (v := .agg #[.int .u8 p0.Kind, .bool p0.Purl, iv p0.A, iv p0.B]) S (wN rfl) rfl rfl [.int .u8 p0.Kind, .bool p0.Purl, iv p0.A, iv p0.B] rfl rfl (lb rfl) fun a b2 w S => ?_
  refine sMove (iv 0) S (wN rfl) (.inr rfl) rfl rfl (lb rfl) fun a S => ?_
  refine leafL (leafT (hK1 _ _ ?_))
  refine sSeq (fun K3 hK3 => ?_)
  refine sSeq (fun K4 hK4 => ?_)
  refine sRegion ?_
  refine sField (b := b2) (off := 0) 0 0 S (wN rfl) rfl rfl rfl rfl rfl (lb rfl) fun a S => ?_
  refine sLoad1 (p := b2) (off := 0) (T := 61) (vs := [.int .u8 p0.Kind, .bool p0.Purl, iv p0.A, iv p0.B]) 0 (.int .u8 p0.Kind) S (wN rfl) rfl rfl rfl rfl rfl rfl (lb rfl) fun a S => ?_
  refine leafL (leafT (hK4 _ _ ?_))
  refine wp_block ?_
  obtain ⟨t6, h, g7⟩ := bindSome h
  refine sCut (fun a w => ∃ o5, o5 = t6 ∧ St [] E [] w0 22 a w [(1, .pointer (some ⟨b2, 0, none⟩)), (4, .int .u8 p0.Kind), (5, .bool o5)] [eBox b2 61 [.int .u8 p0.Kind, .bool p0.Purl, iv p0.A, iv p0.B]] []) ?_ (fun a w hI => ?_)
  · refine sSeq (fun K8 hK8 => ?_)
    refine sRegion ?_
    refine sBin (.bool (p0.Kind == 2)) S (wN rfl) rfl rfl rfl (bEq _ _ _ _ .u8 p0.Kind 2) rfl (lb rfl) fun a S => ?_
    refine sMove (.bool (p0.Kind == 2)) S (wN rfl) (.inr rfl) rfl rfl (lb rfl) fun a S => ?_
    refine leafL (leafT (hK8 _ _ ?_))
    rcases iteSome h with ⟨hc9, h⟩ | ⟨hc9, h⟩
    · refine sCondT S rfl hc9 ?_
      exact wp_skip (leafT (⟨p0.Kind == 2, Option.some.inj h, S.fix [0] [] (by decide) rfl rfl rfl⟩))
    refine sCondF S rfl hc9 ?_
    refine sRegion ?_
    refine sBin (.bool (p0.Kind == 9)) S (wN rfl) rfl rfl rfl (bEq _ _ _ _ .u8 p0.Kind 9) rfl (lb rfl) fun a S => ?_
    refine sMove (.bool (p0.Kind == 9)) S (wN rfl) (.inr rfl) rfl rfl (lb rfl) fun a S => ?_
    exact leafL (leafT (⟨p0.Kind == 9, Option.some.inj h, S.fix [0] [] (by decide) rfl rfl rfl⟩))
  obtain ⟨o5, rfl, S⟩ := hI
  have h := g7
  clear g7
  try dsimp only at h
  rcases iteSome h with ⟨hc10, h⟩ | ⟨hc10, h⟩
  · refine sCondT S rfl hc10 ?_
    refine sSeq (fun K11 hK11 => ?_)
    refine sRegion ?_
    refine sMove (iv 0) S (wN rfl) (.inr rfl) rfl rfl (lb rfl) fun a S => ?_
    refine leafL (leafT (hK11 _ _ ?_))
    obtain rfl := Option.some.inj h
    exact wp_ret (rBlock (rThen (sRet (iv 0) S (rsl1 rfl (rvT (t := 2) (v := iv 0) S rfl)) ⟨(), rfl, S.mem.sel [] [] (by decide) rfl rfl⟩)))
  refine sCondF S rfl hc10 ?_
  obtain ⟨t13, h, g14⟩ := bindSome h
  refine sCut (fun a w => ∃ o12, o12 = t13 ∧ St [] E [] w0 22 a w [(1, .pointer (some ⟨b2, 0, none⟩)), (4, .int .u8 p0.Kind), (8, .bool o12)] [eBox b2 61 [.int .u8 p0.Kind, .bool p0.Purl, iv p0.A, iv p0.B]] []) ?_ (fun a w hI => ?_)
  · refine sSeq (fun K15 hK15 => ?_)
    refine sRegion ?_
    refine sBin (.bool (p0.Kind == 3)) S (wN rfl) rfl rfl rfl (bEq _ _ _ _ .u8 p0.Kind 3) rfl (lb rfl) fun a S => ?_
    refine sMove (.bool (p0.Kind == 3)) S (wN rfl) (.inr rfl) rfl rfl (lb rfl) fun a S => ?_
    refine leafL (leafT (hK15 _ _ ?_))
    rcases iteSome h with ⟨hc16, h⟩ | ⟨hc16, h⟩
    · refine sCondT S rfl hc16 ?_
      exact wp_skip (leafT (⟨p0.Kind == 3, Option.some.inj h, S.fix [0] [] (by decide) rfl rfl rfl⟩))
    refine sCondF S rfl hc16 ?_
    refine sSeq (fun K17 hK17 => ?_)
    refine sRegion ?_
    refine sBin (.bool (p0.Kind == 4)) S (wN rfl) rfl rfl rfl (bEq _ _ _ _ .u8 p0.Kind 4) rfl (lb rfl) fun a S => ?_
    refine sMove (.bool (p0.Kind == 4)) S (wN rfl) (.inr rfl) rfl rfl (lb rfl) fun a S => ?_
    refine leafL (leafT (hK17 _ _ ?_))
    rcases iteSome h with ⟨hc18, h⟩ | ⟨hc18, h⟩
    · refine sCondT S rfl hc18 ?_
      exact wp_skip (leafT (⟨p0.Kind == 4, Option.some.inj h, S.fix [0] [] (by decide) rfl rfl rfl⟩))
    refine sCondF S rfl hc18 ?_
    refine sRegion ?_
    refine sBin (.bool (p0.Kind == 10)) S (wN rfl) rfl rfl rfl (bEq _ _ _ _ .u8 p0.Kind 10) rfl (lb rfl) fun a S => ?_
    refine sMove (.bool (p0.Kind == 10)) S (wN rfl) (.inr rfl) rfl rfl (lb rfl) fun a S => ?_
    exact leafL (leafT (⟨p0.Kind == 10, Option.some.inj h, S.fix [0] [] (by decide) rfl rfl rfl⟩))
  obtain ⟨o12, rfl, S⟩ := hI
  have h := g14
  clear g14
  try dsimp only at h
  rcases iteSome h with ⟨hc19, h⟩ | ⟨hc19, h⟩
  · refine sCondT S rfl hc19 ?_
    refine sSeq (fun K20 hK20 => ?_)
    refine sRegion ?_
    refine sField (b := b2) (off := 0) 2 2 S (wN rfl) rfl rfl rfl rfl rfl (lb rfl) fun a S => ?_
    refine sLoad1 (p := b2) (off := 2) (T := 61) (vs := [.int .u8 p0.Kind, .bool p0.Purl, iv p0.A, iv p0.B]) 0 (iv p0.A) S (wN rfl) rfl rfl rfl rfl rfl rfl (lb rfl) fun a S => ?_
    refine sMove (iv p0.A) S (wN rfl) (.inr rfl) rfl rfl (lb rfl) fun a S => ?_
    refine leafL (leafT (hK20 _ _ ?_))
    obtain rfl := Option.some.inj h
    exact wp_ret (rBlock (rThen (sRet (iv p0.A) S (rsl1 rfl (rvT (t := 2) (v := iv p0.A) S rfl)) ⟨(), rfl, S.mem.sel [] [] (by decide) rfl rfl⟩)))
  refine sCondF S rfl hc19 ?_
  obtain ⟨t22, h, g23⟩ := bindSome h
  refine sCut (fun a w => ∃ o21, o21 = t22 ∧ St [] E [] w0 22 a w [(1, .pointer (some ⟨b2, 0, none⟩)), (14, .bool o21)] [eBox b2 61 [.int .u8 p0.Kind, .bool p0.Purl, iv p0.A, iv p0.B]] []) ?_ (fun a w hI => ?_)
  · refine sSeq (fun K24 hK24 => ?_)
    refine sRegion ?_
    refine sBin (.bool (p0.Kind == 6)) S (wN rfl) rfl rfl rfl (bEq _ _ _ _ .u8 p0.Kind 6) rfl (lb rfl) fun a S => ?_
    refine sMove (.bool (p0.Kind == 6)) S (wN rfl) (.inr rfl) rfl rfl (lb rfl) fun a S => ?_
    refine leafL (leafT (hK24 _ _ ?_))
    rcases iteSome h with ⟨hc25, h⟩ | ⟨hc25, h⟩
    · refine sCondT S rfl hc25 ?_
      exact wp_skip (leafT (⟨p0.Kind == 6, Option.some.inj h, S.fix [0] [] (by decide) rfl rfl rfl⟩))
    refine sCondF S rfl hc25 ?_
    refine sRegion ?_
    refine sBin (.bool (p0.Kind == 7)) S (wN rfl) rfl rfl rfl (bEq _ _ _ _ .u8 p0.Kind 7) rfl (lb rfl) fun a S => ?_
    refine sMove (.bool (p0.Kind == 7)) S (wN rfl) (.inr rfl) rfl rfl (lb rfl) fun a S => ?_
    exact leafL (leafT (⟨p0.Kind == 7, Option.some.inj h, S.fix [0] [] (by decide) rfl rfl rfl⟩))
  obtain ⟨o21, rfl, S⟩ := hI
  have h := g23
  clear g23
  try dsimp only at h
  rcases iteSome h with ⟨hc26, h⟩ | ⟨hc26, h⟩
  rotate_left
  · refine sCondF S rfl hc26 ?_
    refine wp_skip (leafB (leafT (hK3 _ _ ?_)))
    refine sSeq (fun K28 hK28 => ?_)
    refine sRegion ?_
    refine sMove (iv 1) S (wN rfl) (.inr rfl) rfl rfl (lb rfl) fun a S => ?_
    refine leafL (leafT (hK28 _ _ ?_))
    obtain rfl := Option.some.inj h
    exact wp_ret (sRet (iv 1) S (rsl1 rfl (rvT (t := 2) (v := iv 1) S rfl)) ⟨(), rfl, S.mem.sel [] [] (by decide) rfl rfl⟩)
  refine sCondT S rfl hc26 ?_
  refine sSeq (fun K27 hK27 => ?_)
  refine sRegion ?_
  refine sField (b := b2) (off := 0) 2 2 S (wN rfl) rfl rfl rfl rfl rfl (lb rfl) fun a S => ?_
  refine sLoad1 (p := b2) (off := 2) (T := 61) (vs := [.int .u8 p0.Kind, .bool p0.Purl, iv p0.A, iv p0.B]) 0 (iv p0.A) S (wN rfl) rfl rfl rfl rfl rfl rfl (lb rfl) fun a S => ?_
  refine sField (b := b2) (off := 0) 3 3 S (wN rfl) rfl rfl rfl rfl rfl (lb rfl) fun a S => ?_
  refine sLoad1 (p := b2) (off := 3) (T := 61) (vs := [.int .u8 p0.Kind, .bool p0.Purl, iv p0.A, iv p0.B]) 0 (iv p0.B) S (wN rfl) rfl rfl rfl rfl rfl rfl (lb rfl) fun a S => ?_
  refine sBin (iv (w64 (p0.A + p0.B))) S (wN rfl) rfl rfl rfl (bAdd _ _ _ _ p0.A p0.B) rfl (lb rfl) fun a S => ?_
  refine sMove (iv (w64 (p0.A + p0.B))) S (wN rfl) (.inr rfl) rfl rfl (lb rfl) fun a S => ?_
  refine leafL (leafT (hK27 _ _ ?_))
  obtain rfl := Option.some.inj h
  exact wp_ret (rBlock (rThen (sRet (iv (w64 (p0.A + p0.B))) S (rsl1 rfl (rvT (t := 2) (v := iv (w64 (p0.A + p0.B))) S rfl)) ⟨(), rfl, S.mem.sel [] [] (by decide) rfl rfl⟩)))

end Go.Proofs.Yticjoiolfibmlaa
namespace Go.Proofs.Yticjoiolfibmlaa
open Go.RowKit
set_option linter.unusedVariables false

noncomputable def F_raddleref25_Gives (p0 : api_Stitch) : Option Int :=
  if p0.Kind == 10 then
    some 0
  else
    Option.bind (α := Bool) (
      if p0.Kind == 5 then
        some (p0.Kind == 5)
      else
        some (p0.Kind == 9)) fun o8 =>
    if o8 then
      some p0.A
    else
      Option.bind (α := Bool) (
        if p0.Kind == 6 then
          some (p0.Kind == 6)
        else
          some (p0.Kind == 7)) fun o15 =>
      if o15 then
        some (w64 (p0.A + p0.B))
      else
        some 1
set_option maxHeartbeats 4000000 in
set_option maxRecDepth 100000 in
theorem c_raddleref25_Gives (E : Nat → Prop) (w0 : World) (p0 : api_Stitch) (v0 : Value) (r : Int) (h : F_raddleref25_Gives p0 = some r) (S : St0 E [] w0 w0 [] [fRep r_api_Stitch (v0) p0]) :
    Calls Try.prog 63 #[v0] w0 (Ret (X := Unit) E [] w0 (fun _ => .int .i64 r) (fun _ => []) (fun _ => [])) := by
  unfold F_raddleref25_Gives at h
  obtain rfl : v0 = .agg #[.int .u8 p0.Kind, .bool p0.Purl, iv p0.A, iv p0.B] := S.know (i := 0) (e := fRep r_api_Stitch (v0) p0) rfl
  refine sEnter (args := [.agg #[.int .u8 p0.Kind, .bool p0.Purl, iv p0.A, iv p0.B]]) 20 Try.func63 rfl rfl (by simp) S (fun a S => ?_)
  refine sSeq (fun K1 hK1 => ?_)
  refine sRegion ?_
  refine sBox (v := .agg #[.int .u8 p0.Kind, .bool p0.Purl, iv p0.A, iv p0.B]) S (wN rfl) rfl rfl [.int .u8 p0.Kind, .bool p0.Purl, iv p0.A, iv p0.B] rfl rfl (lb rfl) fun a b2 w S => ?_
  refine sMove (iv 0) S (wN rfl) (.inr rfl) rfl rfl (lb rfl) fun a S => ?_
  refine leafL (leafT (hK1 _ _ ?_))
  refine sSeq (fun K3 hK3 => ?_)
  refine sSeq (fun K4 hK4 => ?_)
  refine sRegion ?_
  refine sField (b := b2) (off := 0) 0 0 S (wN rfl) rfl rfl rfl rfl rfl (lb rfl) fun a S => ?_
  refine sLoad1 (p := b2) (off := 0) (T := 61) (vs := [.int .u8 p0.Kind, .bool p0.Purl, iv p0.A, iv p0.B]) 0 (.int .u8 p0.Kind) S (wN rfl) rfl rfl rfl rfl rfl rfl (lb rfl) fun a S => ?_
  refine leafL (leafT (hK4 _ _ ?_))
  refine wp_block ?_
  refine sSeq (fun K5 hK5 => ?_)
  refine sRegion ?_
  refine sBin (.bool (p0.Kind == 10)) S (wN rfl) rfl rfl rfl (bEq _ _ _ _ .u8 p0.Kind 10) rfl (lb rfl) fun a S => ?_
  refine sMove (.bool (p0.Kind == 10)) S (wN rfl) (.inr rfl) rfl rfl (lb rfl) fun a S => ?_
  refine leafL (leafT (hK5 _ _ ?_))
  rcases iteSome h with ⟨hc6, h⟩ | ⟨hc6, h⟩
  · refine sCondT S rfl hc6 ?_
    refine sSeq (fun K7 hK7 => ?_)
    refine sRegion ?_
    refine sMove (iv 0) S (wN rfl) (.inr rfl) rfl rfl (lb rfl) fun a S => ?_
    refine leafL (leafT (hK7 _ _ ?_))
    obtain rfl := Option.some.inj h
    exact wp_ret (rBlock (rThen (sRet (iv 0) S (rsl1 rfl (rvT (t := 2) (v := iv 0) S rfl)) ⟨(), rfl, S.mem.sel [] [] (by decide) rfl rfl⟩)))
  refine sCondF S rfl hc6 ?_
  obtain ⟨t9, h, g10⟩ := bindSome h
  refine sCut (fun a w => ∃ o8, o8 = t9 ∧ St [] E [] w0 20 a w [(1, .pointer (some ⟨b2, 0, none⟩)), (4, .int .u8 p0.Kind), (7, .bool o8)] [eBox b2 61 [.int .u8 p0.Kind, .bool p0.Purl, iv p0.A, iv p0.B]] []) ?_ (fun a w hI => ?_)
  · refine sSeq (fun K11 hK11 => ?_)
    refine sRegion ?_
    refine sBin (.bool (p0.Kind == 5)) S (wN rfl) rfl rfl rfl (bEq _ _ _ _ .u8 p0.Kind 5) rfl (lb rfl) fun a S => ?_
    refine sMove (.bool (p0.Kind == 5)) S (wN rfl) (.inr rfl) rfl rfl (lb rfl) fun a S => ?_
    refine leafL (leafT (hK11 _ _ ?_))
    rcases iteSome h with ⟨hc12, h⟩ | ⟨hc12, h⟩
    · refine sCondT S rfl hc12 ?_
      exact wp_skip (leafT (⟨p0.Kind == 5, Option.some.inj h, S.fix [0] [] (by decide) rfl rfl rfl⟩))
    refine sCondF S rfl hc12 ?_
    refine sRegion ?_
    refine sBin (.bool (p0.Kind == 9)) S (wN rfl) rfl rfl rfl (bEq _ _ _ _ .u8 p0.Kind 9) rfl (lb rfl) fun a S => ?_
    refine sMove (.bool (p0.Kind == 9)) S (wN rfl) (.inr rfl) rfl rfl (lb rfl) fun a S => ?_
    exact leafL (leafT (⟨p0.Kind == 9, Option.some.inj h, S.fix [0] [] (by decide) rfl rfl rfl⟩))
  obtain ⟨o8, rfl, S⟩ := hI
  have h := g10
  clear g10
  try dsimp only at h
  rcases iteSome h with ⟨hc13, h⟩ | ⟨hc13, h⟩
  · refine sCondT S rfl hc13 ?_
    refine sSeq (fun K14 hK14 => ?_)
    refine sRegion ?_
    refine sField (b := b2) (off := 0) 2 2 S (wN rfl) rfl rfl rfl rfl rfl (lb rfl) fun a S => ?_
    refine sLoad1 (p := b2) (off := 2) (T := 61) (vs := [.int .u8 p0.Kind, .bool p0.Purl, iv p0.A, iv p0.B]) 0 (iv p0.A) S (wN rfl) rfl rfl rfl rfl rfl rfl (lb rfl) fun a S => ?_
    refine sMove (iv p0.A) S (wN rfl) (.inr rfl) rfl rfl (lb rfl) fun a S => ?_
    refine leafL (leafT (hK14 _ _ ?_))
    obtain rfl := Option.some.inj h
    exact wp_ret (rBlock (rThen (sRet (iv p0.A) S (rsl1 rfl (rvT (t := 2) (v := iv p0.A) S rfl)) ⟨(), rfl, S.mem.sel [] [] (by decide) rfl rfl⟩)))
  refine sCondF S rfl hc13 ?_
  obtain ⟨t16, h, g17⟩ := bindSome h
  refine sCut (fun a w => ∃ o15, o15 = t16 ∧ St [] E [] w0 20 a w [(1, .pointer (some ⟨b2, 0, none⟩)), (12, .bool o15)] [eBox b2 61 [.int .u8 p0.Kind, .bool p0.Purl, iv p0.A, iv p0.B]] []) ?_ (fun a w hI => ?_)
  · refine sSeq (fun K18 hK18 => ?_)
    refine sRegion ?_
    refine sBin (.bool (p0.Kind == 6)) S (wN rfl) rfl rfl rfl (bEq _ _ _ _ .u8 p0.Kind 6) rfl (lb rfl) fun a S => ?_
    refine sMove (.bool (p0.Kind == 6)) S (wN rfl) (.inr rfl) rfl rfl (lb rfl) fun a S => ?_
    refine leafL (leafT (hK18 _ _ ?_))
    rcases iteSome h with ⟨hc19, h⟩ | ⟨hc19, h⟩
    · refine sCondT S rfl hc19 ?_
      exact wp_skip (leafT (⟨p0.Kind == 6, Option.some.inj h, S.fix [0] [] (by decide) rfl rfl rfl⟩))
    refine sCondF S rfl hc19 ?_
    refine sRegion ?_
    refine sBin (.bool (p0.Kind == 7)) S (wN rfl) rfl rfl rfl (bEq _ _ _ _ .u8 p0.Kind 7) rfl (lb rfl) fun a S => ?_
    refine sMove (.bool (p0.Kind == 7)) S (wN rfl) (.inr rfl) rfl rfl (lb rfl) fun a S => ?_
    exact leafL (leafT (⟨p0.Kind == 7, Option.some.inj h, S.fix [0] [] (by decide) rfl rfl rfl⟩))
  obtain ⟨o15, rfl, S⟩ := hI
  have h := g17
  clear g17
  try dsimp only at h
  rcases iteSome h with ⟨hc20, h⟩ | ⟨hc20, h⟩
  rotate_left
  · refine sCondF S rfl hc20 ?_
    refine wp_skip (leafB (leafT (hK3 _ _ ?_)))
    refine sSeq (fun K22 hK22 => ?_)
    refine sRegion ?_
    refine sMove (iv 1) S (wN rfl) (.inr rfl) rfl rfl (lb rfl) fun a S => ?_
    refine leafL (leafT (hK22 _ _ ?_))
    obtain rfl := Option.some.inj h
    exact wp_ret (sRet (iv 1) S (rsl1 rfl (rvT (t := 2) (v := iv 1) S rfl)) ⟨(), rfl, S.mem.sel [] [] (by decide) rfl rfl⟩)
  refine sCondT S rfl hc20 ?_
  refine sSeq (fun K21 hK21 => ?_)
  refine sRegion ?_
  refine sField (b := b2) (off := 0) 2 2 S (wN rfl) rfl rfl rfl rfl rfl (lb rfl) fun a S => ?_
  refine sLoad1 (p := b2) (off := 2) (T := 61) (vs := [.int .u8 p0.Kind, .bool p0.Purl, iv p0.A, iv p0.B]) 0 (iv p0.A) S (wN rfl) rfl rfl rfl rfl rfl rfl (lb rfl) fun a S => ?_
  refine sField (b := b2) (off := 0) 3 3 S (wN rfl) rfl rfl rfl rfl rfl (lb rfl) fun a S => ?_
  refine sLoad1 (p := b2) (off := 3) (T := 61) (vs := [.int .u8 p0.Kind, .bool p0.Purl, iv p0.A, iv p0.B]) 0 (iv p0.B) S (wN rfl) rfl rfl rfl rfl rfl rfl (lb rfl) fun a S => ?_
  refine sBin (iv (w64 (p0.A + p0.B))) S (wN rfl) rfl rfl rfl (bAdd _ _ _ _ p0.A p0.B) rfl (lb rfl) fun a S => ?_
  refine sMove (iv (w64 (p0.A + p0.B))) S (wN rfl) (.inr rfl) rfl rfl (lb rfl) fun a S => ?_
  refine leafL (leafT (hK21 _ _ ?_))
  obtain rfl := Option.some.inj h
  exact wp_ret (rBlock (rThen (sRet (iv (w64 (p0.A + p0.B))) S (rsl1 rfl (rvT (t := 2) (v := iv (w64 (p0.A + p0.B))) S rfl)) ⟨(), rfl, S.mem.sel [] [] (by decide) rfl rfl⟩)))

end Go.Proofs.Yticjoiolfibmlaa
namespace Go.Proofs.Yticjoiolfibmlaa
open Go.RowKit
set_option linter.unusedVariables false

noncomputable def raddleref25_sums_l1 (p0 : (List api_Stitch)) : (Int × Int × Int) → Option ((Int × Int × Int) ⊕ (Int × Int)) := fun s0 => match s0 with
  | (s10, s11, s12) =>
    if decide (s12 < (p0.length : Int)) then
      Option.bind (idxO p0 s12) fun x23 =>
      Option.bind (F_raddleref25_Used x23) fun r28 =>
      Option.bind (F_raddleref25_Gives x23) fun r33 =>
      some (.inl (w64 (s10 + r28), w64 (s11 + r33), w64 (s12 + 1)))
    else
      some (.inr (s10, s11))
noncomputable def F_raddleref25_sums (p0 : (List api_Stitch)) : Option (Int × Int) :=
  Option.bind (α := (Int × Int)) (
    Option.bind (whileO (raddleref25_sums_l1 p0) (0, 0, 0)) fun (e16, e17) =>
      some (e16, e17)) fun (o5, o6) =>
  some (o5, o6)
set_option maxHeartbeats 4000000 in
set_option maxRecDepth 100000 in
theorem c_raddleref25_sums (E : Nat → Prop) (w0 : World) (p0 : (List api_Stitch)) (v0 : Value) (r : (Int × Int)) (h : F_raddleref25_sums p0 = some r) (S : St0 E [] w0 w0 [] [fRep (rL r_api_Stitch) (v0) p0]) :
    Calls Try.prog 49 #[v0] w0 (Ret (X := Unit) E [] w0 (fun _ => .tuple #[.int .i64 r.1, .int .i64 r.2]) (fun _ => []) (fun _ => [])) := by
  unfold F_raddleref25_sums at h
  obtain ⟨ad1, cp2, _, rfl, _⟩ := S.know (i := 0) (e := fRep (rL r_api_Stitch) (v0) p0) rfl
  refine sEnter (args := [.slice ad1 p0.length cp2]) 29 Try.func49 rfl rfl (by simp) S (fun a S => ?_)
  refine sSeq (fun K3 hK3 => ?_)
  refine sRegion ?_
  refine sMove (iv 0) S (wN rfl) (.inr rfl) rfl rfl (lb rfl) fun a S => ?_
  refine sMove (iv 0) S (wN rfl) (.inr rfl) rfl rfl (lb rfl) fun a S => ?_
  refine leafL (leafT (hK3 _ _ ?_))
  refine sSeq (fun K4 hK4 => ?_)
  refine sRegion ?_
  refine sMove (iv 0) S (wN rfl) (.inr rfl) rfl rfl (lb rfl) fun a S => ?_
  refine sMove (iv 0) S (wN rfl) (.inr rfl) rfl rfl (lb rfl) fun a S => ?_
  refine leafL (leafT (hK4 _ _ ?_))
  obtain ⟨t7, h, g8⟩ := bindSome h
  refine sCut (fun a w => ∃ o5, ∃ o6, (o5, o6) = t7 ∧ St [] E [] w0 29 a w [(4, iv o5), (5, iv o6)] [] []) ?_ (fun a w hI => ?_)
  rotate_left
  · obtain ⟨o5, o6, rfl, S⟩ := hI
    have h := g8
    clear g8
    try dsimp only at h
    refine sSeq (fun K35 hK35 => ?_)
    refine sRegion ?_
    refine sMove (iv o5) S (wN rfl) (.inl rfl) rfl rfl (lb rfl) fun a S => ?_
    refine sMove (iv o6) S (wN rfl) (.inl rfl) rfl rfl (lb rfl) fun a S => ?_
    refine sMove (iv o5) S (wN rfl) (.inr rfl) rfl rfl (lb rfl) fun a S => ?_
    refine sMove (iv o6) S (wN rfl) (.inr rfl) rfl rfl (lb rfl) fun a S => ?_
    refine leafL (leafT (hK35 _ _ ?_))
    obtain rfl := Option.some.inj h
    exact wp_ret (sRet (.tuple #[iv o5, iv o6]) S (rsl2 rfl (rvT (t := 2) (v := iv o5) S rfl) (rvT (t := 3) (v := iv o6) S rfl)) ⟨(), rfl, S.mem.sel [] [] (by decide) rfl rfl⟩)
  refine sSeq (fun K9 hK9 => ?_)
  refine sRegion ?_
  refine sMove (iv 0) S (wN rfl) (.inr rfl) rfl rfl (lb rfl) fun a S => ?_
  refine leafL (leafT (hK9 _ _ ?_))
  refine wp_block ?_
  obtain ⟨t15, hl, g14⟩ := bindSome h
  refine sLoop hl (fun s0 a w => match s0 with | (s10, s11, s12) => St [] E [] w0 29 a w [(0, .slice ad1 p0.length cp2), (4, iv s10), (5, iv s11), (6, iv s12)] [] [fRep (rL r_api_Stitch) (.slice ad1 p0.length cp2) p0]) (S.fix [] [0] (by decide) rfl rfl rfl) ?_
  clear hl h
  intro s0 a w c0 hI h hu13
  obtain ⟨s10, s11, s12⟩ := s0
  unfold raddleref25_sums_l1 at h
  dsimp only at h hI
  have S := hI
  refine sSeq (fun K18 hK18 => ?_)
  refine sSeq (fun K19 hK19 => ?_)
  refine sRegion ?_
  refine sMove (iv s12) S (wN rfl) (.inl rfl) rfl rfl (lb rfl) fun a S => ?_
  refine sMove (.slice ad1 p0.length cp2) S (wN rfl) (.inl rfl) rfl rfl (lb rfl) fun a S => ?_
  refine sLen (ad := ad1) (m := p0.length) (c := cp2) S (wN rfl) rfl Try.underlying62 rfl rfl (lb rfl) fun a S => ?_
  refine sBin (.bool (decide (s12 < (p0.length : Int)))) S (wN rfl) rfl rfl rfl (bLt _ _ _ _ .i64 s12 (p0.length : Int)) rfl (lb rfl) fun a S => ?_
  refine leafL (leafT (hK19 _ _ ?_))
  rcases iteSome h with ⟨hc20, h⟩ | ⟨hc20, h⟩
  rotate_left
  · refine sCondF S rfl hc20 ?_
    obtain rfl := Option.some.inj h
    obtain rfl := hu13 _ rfl
    have h := g14
    clear g14
    try dsimp only at h
    exact wp_exit (xThen (xThen (xHit (leafT (⟨s10, s11, Option.some.inj h, S.fix [] [] (by decide) rfl rfl rfl⟩)))))
  refine sCondT S rfl hc20 ?_
  refine wp_skip (leafT (hK18 _ _ ?_))
  refine sSeq (fun K21 hK21 => ?_)
  refine wp_block ?_
  refine sSeq (fun K22 hK22 => ?_)
  refine sRegion ?_
  refine sMove (iv s10) S (wN rfl) (.inl rfl) rfl rfl (lb rfl) fun a S => ?_
  refine sMove (.slice ad1 p0.length cp2) S (wN rfl) (.inl rfl) rfl rfl (lb rfl) fun a S => ?_
  refine sMove (iv s12) S (wN rfl) (.inl rfl) rfl rfl (lb rfl) fun a S => ?_
  obtain ⟨x23, hx24, h⟩ := bindSome h
  obtain ⟨q25, hq26, S⟩ := pIdx (P := Try.prog) (r := r_api_Stitch) (v := .slice ad1 p0.length cp2) (xs := p0) (j := s12) 62 61 0 S Try.underlying62 rfl rfl hx24
  refine sIdxV (v := .slice ad1 p0.length cp2) (k := .i64) (j := s12) S (wN rfl) rfl rfl rfl hq26 rfl (lb rfl) fun a S => ?_
  obtain ⟨u27, S⟩ := pLoad (r := r_api_Stitch) (q := q25) (x := x23) 0 S rfl
  obtain rfl : u27 = .agg #[.int .u8 x23.Kind, .bool x23.Purl, iv x23.A, iv x23.B] := S.mem.know (i := 1) (e := fRep r_api_Stitch (u27) x23) rfl
  refine sLoadVN (vq := q25) 0 [.int .u8 x23.Kind, .bool x23.Purl, iv x23.A, iv x23.B] S (wN rfl) rfl rfl rfl rfl rfl rfl (lb rfl) fun a S => ?_
  obtain ⟨r28, hx29, h⟩ := bindSome h
  have S1 := S.mem
  refine sCallQ (X := Unit) (f := 46) (vs := [.agg #[.int .u8 x23.Kind, .bool x23.Purl, iv x23.A, iv x23.B]]) (val := fun _ => iv r28) S (wN rfl) rfl callee46 rfl (S1.quiet [1] rfl) (fun E1 w1 S1 => c_raddleref25_Used E1 w1 x23 (.agg #[.int .u8 x23.Kind, .bool x23.Purl, iv x23.A, iv x23.B]) r28 hx29 S1) rfl (lb rfl) fun _ a w S => ?_
  refine sBin (iv (w64 (s10 + r28))) S (wN rfl) rfl rfl rfl (bAdd _ _ _ _ s10 r28) rfl (lb rfl) fun a S => ?_
  refine sMove (iv (w64 (s10 + r28))) S (wN rfl) (.inr rfl) rfl rfl (lb rfl) fun a S => ?_
  refine leafL (leafT (hK22 _ _ ?_))
  refine sRegion ?_
  refine sMove (iv s11) S (wN rfl) (.inl rfl) rfl rfl (lb rfl) fun a S => ?_
  refine sMove (.slice ad1 p0.length cp2) S (wN rfl) (.inl rfl) rfl rfl (lb rfl) fun a S => ?_
  refine sMove (iv s12) S (wN rfl) (.inl rfl) rfl rfl (lb rfl) fun a S => ?_
  obtain ⟨q30, hq31, S⟩ := pIdx (P := Try.prog) (r := r_api_Stitch) (v := .slice ad1 p0.length cp2) (xs := p0) (j := s12) 62 61 3 S Try.underlying62 rfl rfl hx24
  refine sIdxV (v := .slice ad1 p0.length cp2) (k := .i64) (j := s12) S (wN rfl) rfl rfl rfl hq31 rfl (lb rfl) fun a S => ?_
  obtain ⟨u32, S⟩ := pLoad (r := r_api_Stitch) (q := q30) (x := x23) 0 S rfl
  obtain rfl : u32 = .agg #[.int .u8 x23.Kind, .bool x23.Purl, iv x23.A, iv x23.B] := S.mem.know (i := 1) (e := fRep r_api_Stitch (u32) x23) rfl
  refine sLoadVN (vq := q30) 0 [.int .u8 x23.Kind, .bool x23.Purl, iv x23.A, iv x23.B] S (wN rfl) rfl rfl rfl rfl rfl rfl (lb rfl) fun a S => ?_
  obtain ⟨r33, hx34, h⟩ := bindSome h
  have S1 := S.mem
  refine sCallQ (X := Unit) (f := 63) (vs := [.agg #[.int .u8 x23.Kind, .bool x23.Purl, iv x23.A, iv x23.B]]) (val := fun _ => iv r33) S (wN rfl) rfl callee63 rfl (S1.quiet [1] rfl) (fun E1 w1 S1 => c_raddleref25_Gives E1 w1 x23 (.agg #[.int .u8 x23.Kind, .bool x23.Purl, iv x23.A, iv x23.B]) r33 hx34 S1) rfl (lb rfl) fun _ a w S => ?_
  refine sBin (iv (w64 (s11 + r33))) S (wN rfl) rfl rfl rfl (bAdd _ _ _ _ s11 r33) rfl (lb rfl) fun a S => ?_
  refine sMove (iv (w64 (s11 + r33))) S (wN rfl) (.inr rfl) rfl rfl (lb rfl) fun a S => ?_
  refine leafL (leafB (leafT (hK21 _ _ ?_)))
  refine sRegion ?_
  refine sMove (iv s12) S (wN rfl) (.inl rfl) rfl rfl (lb rfl) fun a S => ?_
  refine sBin (iv (w64 (s12 + 1))) S (wN rfl) rfl rfl rfl (bAdd _ _ _ _ s12 1) rfl (lb rfl) fun a S => ?_
  refine sMove (iv (w64 (s12 + 1))) S (wN rfl) (.inr rfl) rfl rfl (lb rfl) fun a S => ?_
  exact leafL (leafT (⟨(w64 (s10 + r28), w64 (s11 + r33), w64 (s12 + 1)), (Option.some.inj h).symm, (S.fix [] [6] (by decide) rfl rfl rfl)⟩))

end Go.Proofs.Yticjoiolfibmlaa
namespace Go.Proofs.Yticjoiolfibmlaa
open Go.RowKit
set_option linter.unusedVariables false

noncomputable def F_raddleref25_Check (p0 : api_Stitch) : Option Int :=
  Option.bind (α := Bool) (
    if p0.A == 0 then
      some (p0.B == 0)
    else
      some false) fun o3 =>
  Option.bind (α := Bool) (
    Option.bind (α := Bool) (
      if p0.Kind == 1 then
        some (p0.Kind == 1)
      else
        some (p0.Kind == 8)) fun o12 =>
    if o12 then
      some o3
    else
      if p0.Kind == 2 then
        if o3 then
          some (!p0.Purl)
        else
          some false
      else
        Option.bind (α := Bool) (
          if p0.Kind == 3 then
            some (p0.Kind == 3)
          else
            if p0.Kind == 4 then
              some (p0.Kind == 4)
            else
              some (p0.Kind == 5)) fun o21 =>
        if o21 then
          if p0.B == 0 then
            if decide (2 ≤ p0.A) then
              some (decide (p0.A ≤ 4))
            else
              some false
          else
            some false
        else
          Option.bind (α := Bool) (
            if p0.Kind == 6 then
              some (p0.Kind == 6)
            else
              some (p0.Kind == 7)) fun o31 =>
          if o31 then
            if decide (1 ≤ p0.A) then
              if decide (p0.A ≤ 6) then
                if decide (1 ≤ p0.B) then
                  some (decide (p0.B ≤ 6))
                else
                  some false
              else
                some false
            else
              some false
          else
            if p0.Kind == 9 then
              if p0.B == 0 then
                if !p0.Purl then
                  if decide (1 ≤ p0.A) then
                    some (decide (p0.A ≤ 200))
                  else
                    some false
                else
                  some false
              else
                some false
            else
              if p0.Kind == 10 then
                if p0.B == 0 then
                  if decide (1 ≤ p0.A) then
                    some (decide (p0.A ≤ 200))
                  else
                    some false
                else
                  some false
              else
                some false) fun o8 =>
  if !o8 then
    some 8
  else
    some 0
set_option maxHeartbeats 4000000 in
set_option maxRecDepth 100000 in
theorem c_raddleref25_Check (E : Nat → Prop) (w0 : World) (p0 : api_Stitch) (v0 : Value) (r : Int) (h : F_raddleref25_Check p0 = some r) (S : St0 E [] w0 w0 [] [fRep r_api_Stitch (v0) p0]) :
    Calls Try.prog 62 #[v0] w0 (Ret (X := Unit) E [] w0 (fun _ => .int .i64 r) (fun _ => []) (fun _ => [])) := by
  unfold F_raddleref25_Check at h
  obtain rfl : v0 = .agg #[.int .u8 p0.Kind, .bool p0.Purl, iv p0.A, iv p0.B] := S.know (i := 0) (e := fRep r_api_Stitch (v0) p0) rfl
  refine sEnter (args := [.agg #[.int .u8 p0.Kind, .bool p0.Purl, iv p0.A, iv p0.B]]) 102 Try.func62 rfl rfl (by simp) S (fun a S => ?_)
  refine sSeq (fun K1 hK1 => ?_)
  refine sRegion ?_
  refine sBox (v := .agg #[.int .u8 p0.Kind, .bool p0.Purl, iv p0.A, iv p0.B]) S (wN rfl) rfl rfl [.int .u8 p0.Kind, .bool p0.Purl, iv p0.A, iv p0.B] rfl rfl (lb rfl) fun a b2 w S => ?_
  refine sMove (iv 0) S (wN rfl) (.inr rfl) rfl rfl (lb rfl) fun a S => ?_
  refine leafL (leafT (hK1 _ _ ?_))
  obtain ⟨t4, h, g5⟩ := bindSome h
  refine sCut (fun a w => ∃ o3, o3 = t4 ∧ St [] E [] w0 102 a w [(1, .pointer (some ⟨b2, 0, none⟩)), (3, .bool o3)] [eBox b2 61 [.int .u8 p0.Kind, .bool p0.Purl, iv p0.A, iv p0.B]] []) ?_ (fun a w hI => ?_)
  · refine sRegion ?_
    refine sField (b := b2) (off := 0) 2 2 S (wN rfl) rfl rfl rfl rfl rfl (lb rfl) fun a S => ?_
    refine sLoad1 (p := b2) (off := 2) (T := 61) (vs := [.int .u8 p0.Kind, .bool p0.Purl, iv p0.A, iv p0.B]) 0 (iv p0.A) S (wN rfl) rfl rfl rfl rfl rfl rfl (lb rfl) fun a S => ?_
    refine sBin (.bool (p0.A == 0)) S (wN rfl) rfl rfl rfl (bEq _ _ _ _ .i64 p0.A 0) rfl (lb rfl) fun a S => ?_
    refine sMove (.bool (p0.A == 0)) S (wN rfl) (.inl rfl) rfl rfl (lb rfl) fun a S => ?_
    rcases iteSome h with ⟨hc6, h⟩ | ⟨hc6, h⟩
    rotate_left
    · refine sSkip 3 true 8 9 S rfl rfl rfl hc6 rfl (lb rfl) fun a S => ?_
      refine sSkip 3 true 8 10 S rfl rfl rfl hc6 rfl (lb rfl) fun a S => ?_
      refine sSkip 3 true 8 11 S rfl rfl rfl hc6 rfl (lb rfl) fun a S => ?_
      refine sPickF (.bool false) S (wN rfl) rfl rfl hc6 rfl rfl (lb rfl) fun a S => ?_
      refine sMove (.bool false) S (wN rfl) (.inr rfl) rfl rfl (lb rfl) fun a S => ?_
      exact leafL (leafT (⟨false, Option.some.inj h, S.fix [0] [] (by decide) rfl rfl rfl⟩))
    refine sField (b := b2) (off := 0) 3 3 S (wG 3 true 8 rfl rfl rfl hc6) rfl rfl rfl rfl rfl (lb rfl) fun a S => ?_
    refine sLoad1 (p := b2) (off := 3) (T := 61) (vs := [.int .u8 p0.Kind, .bool p0.Purl, iv p0.A, iv p0.B]) 0 (iv p0.B) S (wG 3 true 8 rfl rfl rfl hc6) rfl rfl rfl rfl rfl rfl (lb rfl) fun a S => ?_
    refine sBin (.bool (p0.B == 0)) S (wG 3 true 8 rfl rfl rfl hc6) rfl rfl rfl (bEq _ _ _ _ .i64 p0.B 0) rfl (lb rfl) fun a S => ?_
    refine sPickT (.bool (p0.B == 0)) S (wN rfl) rfl rfl hc6 rfl rfl (lb rfl) fun a S => ?_
    refine sMove (.bool (p0.B == 0)) S (wN rfl) (.inr rfl) rfl rfl (lb rfl) fun a S => ?_
    exact leafL (leafT (⟨p0.B == 0, Option.some.inj h, S.fix [0] [] (by decide) rfl rfl rfl⟩))
  obtain ⟨o3, rfl, S⟩ := hI
  have h := g5
  clear g5
  try dsimp only at h
  refine sSeq (fun K7 hK7 => ?_)
  refine sRegion ?_
  refine sMove (.bool false) S (wN rfl) (.inr rfl) rfl rfl (lb rfl) fun a S => ?_
  refine leafL (leafT (hK7 _ _ ?_))
  obtain ⟨t9, h, g10⟩ := bindSome h
  refine sCut (fun a w => ∃ o8, o8 = t9 ∧ St [] E [] w0 102 a w [(4, .bool o8)] [] []) ?_ (fun a w hI => ?_)
  rotate_left
  · obtain ⟨o8, rfl, S⟩ := hI
    have h := g10
    clear g10
    try dsimp only at h
    refine sSeq (fun K49 hK49 => ?_)
    refine sSeq (fun K50 hK50 => ?_)
    refine sRegion ?_
    refine sMove (.bool o8) S (wN rfl) (.inl rfl) rfl rfl (lb rfl) fun a S => ?_
    refine sNot (b := o8) S (wN rfl) rfl rfl rfl (lb rfl) fun a S => ?_
    refine leafL (leafT (hK50 _ _ ?_))
    rcases iteSome h with ⟨hc51, h⟩ | ⟨hc51, h⟩
    · refine sCondT S rfl hc51 ?_
      refine sSeq (fun K52 hK52 => ?_)
      refine sRegion ?_
      refine sMove (iv 8) S (wN rfl) (.inr rfl) rfl rfl (lb rfl) fun a S => ?_
      refine leafL (leafT (hK52 _ _ ?_))
      obtain rfl := Option.some.inj h
      exact wp_ret (rThen (sRet (iv 8) S (rsl1 rfl (rvT (t := 2) (v := iv 8) S rfl)) ⟨(), rfl, S.mem.sel [] [] (by decide) rfl rfl⟩))
    refine sCondF S rfl hc51 ?_
    refine wp_skip (leafT (hK49 _ _ ?_))
    refine sSeq (fun K53 hK53 => ?_)
    refine sRegion ?_
    refine sMove (iv 0) S (wN rfl) (.inr rfl) rfl rfl (lb rfl) fun a S => ?_
    refine leafL (leafT (hK53 _ _ ?_))
    obtain rfl := Option.some.inj h
    exact wp_ret (sRet (iv 0) S (rsl1 rfl (rvT (t := 2) (v := iv 0) S rfl)) ⟨(), rfl, S.mem.sel [] [] (by decide) rfl rfl⟩)
  refine sSeq (fun K11 hK11 => ?_)
  refine sRegion ?_
  refine sField (b := b2) (off := 0) 0 0 S (wN rfl) rfl rfl rfl rfl rfl (lb rfl) fun a S => ?_
  refine sLoad1 (p := b2) (off := 0) (T := 61) (vs := [.int .u8 p0.Kind, .bool p0.Purl, iv p0.A, iv p0.B]) 0 (.int .u8 p0.Kind) S (wN rfl) rfl rfl rfl rfl rfl rfl (lb rfl) fun a S => ?_
  refine leafL (leafT (hK11 _ _ ?_))
  refine wp_block ?_
  obtain ⟨t13, h, g14⟩ := bindSome h
  refine sCut (fun a w => ∃ o12, o12 = t13 ∧ St [] E [] w0 102 a w [(1, .pointer (some ⟨b2, 0, none⟩)), (3, .bool o3), (4, .bool false), (14, .int .u8 p0.Kind), (15, .bool o12)] [eBox b2 61 [.int .u8 p0.Kind, .bool p0.Purl, iv p0.A, iv p0.B]] []) ?_ (fun a w hI => ?_)
  · refine sSeq (fun K15 hK15 => ?_)
    refine sRegion ?_
    refine sBin (.bool (p0.Kind == 1)) S (wN rfl) rfl rfl rfl (bEq _ _ _ _ .u8 p0.Kind 1) rfl (lb rfl) fun a S => ?_
    refine sMove (.bool (p0.Kind == 1)) S (wN rfl) (.inr rfl) rfl rfl (lb rfl) fun a S => ?_
    refine leafL (leafT (hK15 _ _ ?_))
    rcases iteSome h with ⟨hc16, h⟩ | ⟨hc16, h⟩
    · refine sCondT S rfl hc16 ?_
      exact wp_skip (leafT (⟨p0.Kind == 1, Option.some.inj h, S.fix [0] [] (by decide) rfl rfl rfl⟩))
    refine sCondF S rfl hc16 ?_
    refine sRegion ?_
    refine sBin (.bool (p0.Kind == 8)) S (wN rfl) rfl rfl rfl (bEq _ _ _ _ .u8 p0.Kind 8) rfl (lb rfl) fun a S => ?_
    refine sMove (.bool (p0.Kind == 8)) S (wN rfl) (.inr rfl) rfl rfl (lb rfl) fun a S => ?_
    exact leafL (leafT (⟨p0.Kind == 8, Option.some.inj h, S.fix [0] [] (by decide) rfl rfl rfl⟩))
  obtain ⟨o12, rfl, S⟩ := hI
  have h := g14
  clear g14
  try dsimp only at h
  rcases iteSome h with ⟨hc17, h⟩ | ⟨hc17, h⟩
  · refine sCondT S rfl hc17 ?_
    refine sRegion ?_
    refine sMove (.bool o3) S (wN rfl) (.inl rfl) rfl rfl (lb rfl) fun a S => ?_
    refine sMove (.bool o3) S (wN rfl) (.inr rfl) rfl rfl (lb rfl) fun a S => ?_
    exact leafL (leafB (leafT (⟨o3, Option.some.inj h, S.fix [] [] (by decide) rfl rfl rfl⟩)))
  refine sCondF S rfl hc17 ?_
  refine sSeq (fun K18 hK18 => ?_)
  refine sRegion ?_
  refine sBin (.bool (p0.Kind == 2)) S (wN rfl) rfl rfl rfl (bEq _ _ _ _ .u8 p0.Kind 2) rfl (lb rfl) fun a S => ?_
  refine sMove (.bool (p0.Kind == 2)) S (wN rfl) (.inr rfl) rfl rfl (lb rfl) fun a S => ?_
  refine leafL (leafT (hK18 _ _ ?_))
  rcases iteSome h with ⟨hc19, h⟩ | ⟨hc19, h⟩
  · refine sCondT S rfl hc19 ?_
    refine sRegion ?_
    refine sMove (.bool o3) S (wN rfl) (.inl rfl) rfl rfl (lb rfl) fun a S => ?_
    refine sMove (.bool o3) S (wN rfl) (.inl rfl) rfl rfl (lb rfl) fun a S => ?_
    rcases iteSome h with ⟨hc20, h⟩ | ⟨hc20, h⟩
    rotate_left
    · refine sSkip 1 true 22 23 S rfl rfl rfl hc20 rfl (lb rfl) fun a S => ?_
      refine sSkip 1 true 22 24 S rfl rfl rfl hc20 rfl (lb rfl) fun a S => ?_
      refine sSkip 1 true 22 25 S rfl rfl rfl hc20 rfl (lb rfl) fun a S => ?_
      refine sPickF (.bool false) S (wN rfl) rfl rfl hc20 rfl rfl (lb rfl) fun a S => ?_
      refine sMove (.bool false) S (wN rfl) (.inr rfl) rfl rfl (lb rfl) fun a S => ?_
      exact leafL (leafB (leafT (⟨false, Option.some.inj h, S.fix [] [] (by decide) rfl rfl rfl⟩)))
    refine sField (b := b2) (off := 0) 1 1 S (wG 1 true 22 rfl rfl rfl hc20) rfl rfl rfl rfl rfl (lb rfl) fun a S => ?_
    refine sLoad1 (p := b2) (off := 1) (T := 61) (vs := [.int .u8 p0.Kind, .bool p0.Purl, iv p0.A, iv p0.B]) 0 (.bool p0.Purl) S (wG 1 true 22 rfl rfl rfl hc20) rfl rfl rfl rfl rfl rfl (lb rfl) fun a S => ?_
    refine sNot (b := p0.Purl) S (wG 1 true 22 rfl rfl rfl hc20) rfl rfl rfl (lb rfl) fun a S => ?_
    refine sPickT (.bool (!p0.Purl)) S (wN rfl) rfl rfl hc20 rfl rfl (lb rfl) fun a S => ?_
    refine sMove (.bool (!p0.Purl)) S (wN rfl) (.inr rfl) rfl rfl (lb rfl) fun a S => ?_
    exact leafL (leafB (leafT (⟨!p0.Purl, Option.some.inj h, S.fix [] [] (by decide) rfl rfl rfl⟩)))
  refine sCondF S rfl hc19 ?_
  obtain ⟨t22, h, g23⟩ := bindSome h
  refine sCut (fun a w => ∃ o21, o21 = t22 ∧ St [] E [] w0 102 a w [(1, .pointer (some ⟨b2, 0, none⟩)), (4, .bool false), (14, .int .u8 p0.Kind), (27, .bool o21)] [eBox b2 61 [.int .u8 p0.Kind, .bool p0.Purl, iv p0.A, iv p0.B]] []) ?_ (fun a w hI => ?_)
  · refine sSeq (fun K24 hK24 => ?_)
    refine sRegion ?_
    refine sBin (.bool (p0.Kind == 3)) S (wN rfl) rfl rfl rfl (bEq _ _ _ _ .u8 p0.Kind 3) rfl (lb rfl) fun a S => ?_
    refine sMove (.bool (p0.Kind == 3)) S (wN rfl) (.inr rfl) rfl rfl (lb rfl) fun a S => ?_
    refine leafL (leafT (hK24 _ _ ?_))
    rcases iteSome h with ⟨hc25, h⟩ | ⟨hc25, h⟩
    · refine sCondT S rfl hc25 ?_
      exact wp_skip (leafT (⟨p0.Kind == 3, Option.some.inj h, S.fix [0] [] (by decide) rfl rfl rfl⟩))
    refine sCondF S rfl hc25 ?_
    refine sSeq (fun K26 hK26 => ?_)
    refine sRegion ?_
    refine sBin (.bool (p0.Kind == 4)) S (wN rfl) rfl rfl rfl (bEq _ _ _ _ .u8 p0.Kind 4) rfl (lb rfl) fun a S => ?_
    refine sMove (.bool (p0.Kind == 4)) S (wN rfl) (.inr rfl) rfl rfl (lb rfl) fun a S => ?_
    refine leafL (leafT (hK26 _ _ ?_))
    rcases iteSome h with ⟨hc27, h⟩ | ⟨hc27, h⟩
    · refine sCondT S rfl hc27 ?_
      exact wp_skip (leafT (⟨p0.Kind == 4, Option.some.inj h, S.fix [0] [] (by decide) rfl rfl rfl⟩))
    refine sCondF S rfl hc27 ?_
    refine sRegion ?_
    refine sBin (.bool (p0.Kind == 5)) S (wN rfl) rfl rfl rfl (bEq _ _ _ _ .u8 p0.Kind 5) rfl (lb rfl) fun a S => ?_
    refine sMove (.bool (p0.Kind == 5)) S (wN rfl) (.inr rfl) rfl rfl (lb rfl) fun a S => ?_
    exact leafL (leafT (⟨p0.Kind == 5, Option.some.inj h, S.fix [0] [] (by decide) rfl rfl rfl⟩))
  obtain ⟨o21, rfl, S⟩ := hI
  have h := g23
  clear g23
  try dsimp only at h
  rcases iteSome h with ⟨hc28, h⟩ | ⟨hc28, h⟩
  · refine sCondT S rfl hc28 ?_
    refine sRegion ?_
    refine sField (b := b2) (off := 0) 3 3 S (wN rfl) rfl rfl rfl rfl rfl (lb rfl) fun a S => ?_
    refine sLoad1 (p := b2) (off := 3) (T := 61) (vs := [.int .u8 p0.Kind, .bool p0.Purl, iv p0.A, iv p0.B]) 0 (iv p0.B) S (wN rfl) rfl rfl rfl rfl rfl rfl (lb rfl) fun a S => ?_
    refine sBin (.bool (p0.B == 0)) S (wN rfl) rfl rfl rfl (bEq _ _ _ _ .i64 p0.B 0) rfl (lb rfl) fun a S => ?_
    refine sMove (.bool (p0.B == 0)) S (wN rfl) (.inl rfl) rfl rfl (lb rfl) fun a S => ?_
    rcases iteSome h with ⟨hc29, h⟩ | ⟨hc29, h⟩
    rotate_left
    · refine sSkip 3 true 34 35 S rfl rfl rfl hc29 rfl (lb rfl) fun a S => ?_
      refine sSkip 3 true 34 36 S rfl rfl rfl hc29 rfl (lb rfl) fun a S => ?_
      refine sSkip 3 true 34 37 S rfl rfl rfl hc29 rfl (lb rfl) fun a S => ?_
      refine sPickF (.bool false) S (wN rfl) rfl rfl hc29 rfl rfl (lb rfl) fun a S => ?_
      refine sMove (.bool false) S (wN rfl) (.inl rfl) rfl rfl (lb rfl) fun a S => ?_
      refine sSkip 8 true 39 40 S rfl rfl rfl rfl rfl (lb rfl) fun a S => ?_
      refine sSkip 8 true 39 41 S rfl rfl rfl rfl rfl (lb rfl) fun a S => ?_
      refine sSkip 8 true 39 42 S rfl rfl rfl rfl rfl (lb rfl) fun a S => ?_
      refine sPickF (.bool false) S (wN rfl) rfl rfl rfl rfl rfl (lb rfl) fun a S => ?_
      refine sMove (.bool false) S (wN rfl) (.inr rfl) rfl rfl (lb rfl) fun a S => ?_
      exact leafL (leafB (leafT (⟨false, Option.some.inj h, S.fix [] [] (by decide) rfl rfl rfl⟩)))
    refine sField (b := b2) (off := 0) 2 2 S (wG 3 true 34 rfl rfl rfl hc29) rfl rfl rfl rfl rfl (lb rfl) fun a S => ?_
    refine sLoad1 (p := b2) (off := 2) (T := 61) (vs := [.int .u8 p0.Kind, .bool p0.Purl, iv p0.A, iv p0.B]) 0 (iv p0.A) S (wG 3 true 34 rfl rfl rfl hc29) rfl rfl rfl rfl rfl rfl (lb rfl) fun a S => ?_
    refine sBin (.bool (decide (2 ≤ p0.A))) S (wG 3 true 34 rfl rfl rfl hc29) rfl rfl rfl (bGe _ _ _ _ .i64 p0.A 2) rfl (lb rfl) fun a S => ?_
    refine sPickT (.bool (decide (2 ≤ p0.A))) S (wN rfl) rfl rfl hc29 rfl rfl (lb rfl) fun a S => ?_
    refine sMove (.bool (decide (2 ≤ p0.A))) S (wN rfl) (.inl rfl) rfl rfl (lb rfl) fun a S => ?_
    rcases iteSome h with ⟨hc30, h⟩ | ⟨hc30, h⟩
    rotate_left
    · refine sSkip 8 true 39 40 S rfl rfl rfl hc30 rfl (lb rfl) fun a S => ?_
      refine sSkip 8 true 39 41 S rfl rfl rfl hc30 rfl (lb rfl) fun a S => ?_
      refine sSkip 8 true 39 42 S rfl rfl rfl hc30 rfl (lb rfl) fun a S => ?_
      refine sPickF (.bool false) S (wN rfl) rfl rfl hc30 rfl rfl (lb rfl) fun a S => ?_
      refine sMove (.bool false) S (wN rfl) (.inr rfl) rfl rfl (lb rfl) fun a S => ?_
      exact leafL (leafB (leafT (⟨false, Option.some.inj h, S.fix [] [] (by decide) rfl rfl rfl⟩)))
    refine sField (b := b2) (off := 0) 2 2 S (wG 8 true 39 rfl rfl rfl hc30) rfl rfl rfl rfl rfl (lb rfl) fun a S => ?_
    refine sLoad1 (p := b2) (off := 2) (T := 61) (vs := [.int .u8 p0.Kind, .bool p0.Purl, iv p0.A, iv p0.B]) 0 (iv p0.A) S (wG 8 true 39 rfl rfl rfl hc30) rfl rfl rfl rfl rfl rfl (lb rfl) fun a S => ?_
    refine sBin (.bool (decide (p0.A ≤ 4))) S (wG 8 true 39 rfl rfl rfl hc30) rfl rfl rfl (bLe _ _ _ _ .i64 p0.A 4) rfl (lb rfl) fun a S => ?_
    refine sPickT (.bool (decide (p0.A ≤ 4))) S (wN rfl) rfl rfl hc30 rfl rfl (lb rfl) fun a S => ?_
    refine sMove (.bool (decide (p0.A ≤ 4))) S (wN rfl) (.inr rfl) rfl rfl (lb rfl) fun a S => ?_
    exact leafL (leafB (leafT (⟨decide (p0.A ≤ 4), Option.some.inj h, S.fix [] [] (by decide) rfl rfl rfl⟩)))
  refine sCondF S rfl hc28 ?_
  obtain ⟨t32, h, g33⟩ := bindSome h
  refine sCut (fun a w => ∃ o31, o31 = t32 ∧ St [] E [] w0 102 a w [(1, .pointer (some ⟨b2, 0, none⟩)), (4, .bool false), (14, .int .u8 p0.Kind), (44, .bool o31)] [eBox b2 61 [.int .u8 p0.Kind, .bool p0.Purl, iv p0.A, iv p0.B]] []) ?_ (fun a w hI => ?_)
  · refine sSeq (fun K34 hK34 => ?_)
    refine sRegion ?_
    refine sBin (.bool (p0.Kind == 6)) S (wN rfl) rfl rfl rfl (bEq _ _ _ _ .u8 p0.Kind 6) rfl (lb rfl) fun a S => ?_
    refine sMove (.bool (p0.Kind == 6)) S (wN rfl) (.inr rfl) rfl rfl (lb rfl) fun a S => ?_
    refine leafL (leafT (hK34 _ _ ?_))
    rcases iteSome h with ⟨hc35, h⟩ | ⟨hc35, h⟩
    · refine sCondT S rfl hc35 ?_
      exact wp_skip (leafT (⟨p0.Kind == 6, Option.some.inj h, S.fix [0] [] (by decide) rfl rfl rfl⟩))
    refine sCondF S rfl hc35 ?_
    refine sRegion ?_
    refine sBin (.bool (p0.Kind == 7)) S (wN rfl) rfl rfl rfl (bEq _ _ _ _ .u8 p0.Kind 7) rfl (lb rfl) fun a S => ?_
    refine sMove (.bool (p0.Kind == 7)) S (wN rfl) (.inr rfl) rfl rfl (lb rfl) fun a S => ?_
    exact leafL (leafT (⟨p0.Kind == 7, Option.some.inj h, S.fix [0] [] (by decide) rfl rfl rfl⟩))
  obtain ⟨o31, rfl, S⟩ := hI
  have h := g33
  clear g33
  try dsimp only at h
  rcases iteSome h with ⟨hc36, h⟩ | ⟨hc36, h⟩
  · refine sCondT S rfl hc36 ?_
    refine sRegion ?_
    refine sField (b := b2) (off := 0) 2 2 S (wN rfl) rfl rfl rfl rfl rfl (lb rfl) fun a S => ?_
    refine sLoad1 (p := b2) (off := 2) (T := 61) (vs := [.int .u8 p0.Kind, .bool p0.Purl, iv p0.A, iv p0.B]) 0 (iv p0.A) S (wN rfl) rfl rfl rfl rfl rfl rfl (lb rfl) fun a S => ?_
    refine sBin (.bool (decide (1 ≤ p0.A))) S (wN rfl) rfl rfl rfl (bGe _ _ _ _ .i64 p0.A 1) rfl (lb rfl) fun a S => ?_
    refine sMove (.bool (decide (1 ≤ p0.A))) S (wN rfl) (.inl rfl) rfl rfl (lb rfl) fun a S => ?_
    rcases iteSome h with ⟨hc37, h⟩ | ⟨hc37, h⟩
    rotate_left
    · refine sSkip 3 true 50 51 S rfl rfl rfl hc37 rfl (lb rfl) fun a S => ?_
      refine sSkip 3 true 50 52 S rfl rfl rfl hc37 rfl (lb rfl) fun a S => ?_
      refine sSkip 3 true 50 53 S rfl rfl rfl hc37 rfl (lb rfl) fun a S => ?_
      refine sPickF (.bool false) S (wN rfl) rfl rfl hc37 rfl rfl (lb rfl) fun a S => ?_
      refine sMove (.bool false) S (wN rfl) (.inl rfl) rfl rfl (lb rfl) fun a S => ?_
      refine sSkip 8 true 55 56 S rfl rfl rfl rfl rfl (lb rfl) fun a S => ?_
      refine sSkip 8 true 55 57 S rfl rfl rfl rfl rfl (lb rfl) fun a S => ?_
      refine sSkip 8 true 55 58 S rfl rfl rfl rfl rfl (lb rfl) fun a S => ?_
      refine sPickF (.bool false) S (wN rfl) rfl rfl rfl rfl rfl (lb rfl) fun a S => ?_
      refine sMove (.bool false) S (wN rfl) (.inl rfl) rfl rfl (lb rfl) fun a S => ?_
      refine sSkip 13 true 60 61 S rfl rfl rfl rfl rfl (lb rfl) fun a S => ?_
      refine sSkip 13 true 60 62 S rfl rfl rfl rfl rfl (lb rfl) fun a S => ?_
      refine sSkip 13 true 60 63 S rfl rfl rfl rfl rfl (lb rfl) fun a S => ?_
      refine sPickF (.bool false) S (wN rfl) rfl rfl rfl rfl rfl (lb rfl) fun a S => ?_
      refine sMove (.bool false) S (wN rfl) (.inr rfl) rfl rfl (lb rfl) fun a S => ?_
      exact leafL (leafB (leafT (⟨false, Option.some.inj h, S.fix [] [] (by decide) rfl rfl rfl⟩)))
    refine sField (b := b2) (off := 0) 2 2 S (wG 3 true 50 rfl rfl rfl hc37) rfl rfl rfl rfl rfl (lb rfl) fun a S => ?_
    refine sLoad1 (p := b2) (off := 2) (T := 61) (vs := [.int .u8 p0.Kind, .bool p0.Purl, iv p0.A, iv p0.B]) 0 (iv p0.A) S (wG 3 true 50 rfl rfl rfl hc37) rfl rfl rfl rfl rfl rfl (lb rfl) fun a S => ?_
    refine sBin (.bool (decide (p0.A ≤ 6))) S (wG 3 true 50 rfl rfl rfl hc37) rfl rfl rfl (bLe _ _ _ _ .i64 p0.A 6) rfl (lb rfl) fun a S => ?_
    refine sPickT (.bool (decide (p0.A ≤ 6))) S (wN rfl) rfl rfl hc37 rfl rfl (lb rfl) fun a S => ?_
    refine sMove (.bool (decide (p0.A ≤ 6))) S (wN rfl) (.inl rfl) rfl rfl (lb rfl) fun a S => ?_
    rcases iteSome h with ⟨hc38, h⟩ | ⟨hc38, h⟩
    rotate_left
    · refine sSkip 8 true 55 56 S rfl rfl rfl hc38 rfl (lb rfl) fun a S => ?_
      refine sSkip 8 true 55 57 S rfl rfl rfl hc38 rfl (lb rfl) fun a S => ?_
      refine sSkip 8 true 55 58 S rfl rfl rfl hc38 rfl (lb rfl) fun a S => ?_
      refine sPickF (.bool false) S (wN rfl) rfl rfl hc38 rfl rfl (lb rfl) fun a S => ?_
      refine sMove (.bool false) S (wN rfl) (.inl rfl) rfl rfl (lb rfl) fun a S => ?_
      refine sSkip 13 true 60 61 S rfl rfl rfl rfl rfl (lb rfl) fun a S => ?_
      refine sSkip 13 true 60 62 S rfl rfl rfl rfl rfl (lb rfl) fun a S => ?_
      refine sSkip 13 true 60 63 S rfl rfl rfl rfl rfl (lb rfl) fun a S => ?_
      refine sPickF (.bool false) S (wN rfl) rfl rfl rfl rfl rfl (lb rfl) fun a S => ?_
      refine sMove (.bool false) S (wN rfl) (.inr rfl) rfl rfl (lb rfl) fun a S => ?_
      exact leafL (leafB (leafT (⟨false, Option.some.inj h, S.fix [] [] (by decide) rfl rfl rfl⟩)))
    refine sField (b := b2) (off := 0) 3 3 S (wG 8 true 55 rfl rfl rfl hc38) rfl rfl rfl rfl rfl (lb rfl) fun a S => ?_
    refine sLoad1 (p := b2) (off := 3) (T := 61) (vs := [.int .u8 p0.Kind, .bool p0.Purl, iv p0.A, iv p0.B]) 0 (iv p0.B) S (wG 8 true 55 rfl rfl rfl hc38) rfl rfl rfl rfl rfl rfl (lb rfl) fun a S => ?_
    refine sBin (.bool (decide (1 ≤ p0.B))) S (wG 8 true 55 rfl rfl rfl hc38) rfl rfl rfl (bGe _ _ _ _ .i64 p0.B 1) rfl (lb rfl) fun a S => ?_
    refine sPickT (.bool (decide (1 ≤ p0.B))) S (wN rfl) rfl rfl hc38 rfl rfl (lb rfl) fun a S => ?_
    refine sMove (.bool (decide (1 ≤ p0.B))) S (wN rfl) (.inl rfl) rfl rfl (lb rfl) fun a S => ?_
    rcases iteSome h with ⟨hc39, h⟩ | ⟨hc39, h⟩
    rotate_left
    · refine sSkip 13 true 60 61 S rfl rfl rfl hc39 rfl (lb rfl) fun a S => ?_
      refine sSkip 13 true 60 62 S rfl rfl rfl hc39 rfl (lb rfl) fun a S => ?_
      refine sSkip 13 true 60 63 S rfl rfl rfl hc39 rfl (lb rfl) fun a S => ?_
      refine sPickF (.bool false) S (wN rfl) rfl rfl hc39 rfl rfl (lb rfl) fun a S => ?_
      refine sMove (.bool false) S (wN rfl) (.inr rfl) rfl rfl (lb rfl) fun a S => ?_
      exact leafL (leafB (leafT (⟨false, Option.some.inj h, S.fix [] [] (by decide) rfl rfl rfl⟩)))
    refine sField (b := b2) (off := 0) 3 3 S (wG 13 true 60 rfl rfl rfl hc39) rfl rfl rfl rfl rfl (lb rfl) fun a S => ?_
    refine sLoad1 (p := b2) (off := 3) (T := 61) (vs := [.int .u8 p0.Kind, .bool p0.Purl, iv p0.A, iv p0.B]) 0 (iv p0.B) S (wG 13 true 60 rfl rfl rfl hc39) rfl rfl rfl rfl rfl rfl (lb rfl) fun a S => ?_
    refine sBin (.bool (decide (p0.B ≤ 6))) S (wG 13 true 60 rfl rfl rfl hc39) rfl rfl rfl (bLe _ _ _ _ .i64 p0.B 6) rfl (lb rfl) fun a S => ?_
    refine sPickT (.bool (decide (p0.B ≤ 6))) S (wN rfl) rfl rfl hc39 rfl rfl (lb rfl) fun a S => ?_
    refine sMove (.bool (decide (p0.B ≤ 6))) S (wN rfl) (.inr rfl) rfl rfl (lb rfl) fun a S => ?_
    exact leafL (leafB (leafT (⟨decide (p0.B ≤ 6), Option.some.inj h, S.fix [] [] (by decide) rfl rfl rfl⟩)))
  refine sCondF S rfl hc36 ?_
  refine sSeq (fun K40 hK40 => ?_)
  refine sRegion ?_
  refine sBin (.bool (p0.Kind == 9)) S (wN rfl) rfl rfl rfl (bEq _ _ _ _ .u8 p0.Kind 9) rfl (lb rfl) fun a S => ?_
  refine sMove (.bool (p0.Kind == 9)) S (wN rfl) (.inr rfl) rfl rfl (lb rfl) fun a S => ?_
  refine leafL (leafT (hK40 _ _ ?_))
  rcases iteSome h with ⟨hc41, h⟩ | ⟨hc41, h⟩
  rotate_left
  · refine sCondF S rfl hc41 ?_
    refine sSeq (fun K45 hK45 => ?_)
    refine sRegion ?_
    refine sBin (.bool (p0.Kind == 10)) S (wN rfl) rfl rfl rfl (bEq _ _ _ _ .u8 p0.Kind 10) rfl (lb rfl) fun a S => ?_
    refine sMove (.bool (p0.Kind == 10)) S (wN rfl) (.inr rfl) rfl rfl (lb rfl) fun a S => ?_
    refine leafL (leafT (hK45 _ _ ?_))
    rcases iteSome h with ⟨hc46, h⟩ | ⟨hc46, h⟩
    rotate_left
    · refine sCondF S rfl hc46 ?_
      exact wp_skip (leafB (leafT (⟨false, Option.some.inj h, S.fix [] [] (by decide) rfl rfl rfl⟩)))
    refine sCondT S rfl hc46 ?_
    refine sRegion ?_
    refine sField (b := b2) (off := 0) 3 3 S (wN rfl) rfl rfl rfl rfl rfl (lb rfl) fun a S => ?_
    refine sLoad1 (p := b2) (off := 3) (T := 61) (vs := [.int .u8 p0.Kind, .bool p0.Purl, iv p0.A, iv p0.B]) 0 (iv p0.B) S (wN rfl) rfl rfl rfl rfl rfl rfl (lb rfl) fun a S => ?_
    refine sBin (.bool (p0.B == 0)) S (wN rfl) rfl rfl rfl (bEq _ _ _ _ .i64 p0.B 0) rfl (lb rfl) fun a S => ?_
    refine sMove (.bool (p0.B == 0)) S (wN rfl) (.inl rfl) rfl rfl (lb rfl) fun a S => ?_
    rcases iteSome h with ⟨hc47, h⟩ | ⟨hc47, h⟩
    rotate_left
    · refine sSkip 3 true 90 91 S rfl rfl rfl hc47 rfl (lb rfl) fun a S => ?_
      refine sSkip 3 true 90 92 S rfl rfl rfl hc47 rfl (lb rfl) fun a S => ?_
      refine sSkip 3 true 90 93 S rfl rfl rfl hc47 rfl (lb rfl) fun a S => ?_
      refine sPickF (.bool false) S (wN rfl) rfl rfl hc47 rfl rfl (lb rfl) fun a S => ?_
      refine sMove (.bool false) S (wN rfl) (.inl rfl) rfl rfl (lb rfl) fun a S => ?_
      refine sSkip 8 true 95 96 S rfl rfl rfl rfl rfl (lb rfl) fun a S => ?_
      refine sSkip 8 true 95 97 S rfl rfl rfl rfl rfl (lb rfl) fun a S => ?_
      refine sSkip 8 true 95 98 S rfl rfl rfl rfl rfl (lb rfl) fun a S => ?_
      refine sPickF (.bool false) S (wN rfl) rfl rfl rfl rfl rfl (lb rfl) fun a S => ?_
      refine sMove (.bool false) S (wN rfl) (.inr rfl) rfl rfl (lb rfl) fun a S => ?_
      exact leafL (leafB (leafT (⟨false, Option.some.inj h, S.fix [] [] (by decide) rfl rfl rfl⟩)))
    refine sField (b := b2) (off := 0) 2 2 S (wG 3 true 90 rfl rfl rfl hc47) rfl rfl rfl rfl rfl (lb rfl) fun a S => ?_
    refine sLoad1 (p := b2) (off := 2) (T := 61) (vs := [.int .u8 p0.Kind, .bool p0.Purl, iv p0.A, iv p0.B]) 0 (iv p0.A) S (wG 3 true 90 rfl rfl rfl hc47) rfl rfl rfl rfl rfl rfl (lb rfl) fun a S => ?_
    refine sBin (.bool (decide (1 ≤ p0.A))) S (wG 3 true 90 rfl rfl rfl hc47) rfl rfl rfl (bGe _ _ _ _ .i64 p0.A 1) rfl (lb rfl) fun a S => ?_
    refine sPickT (.bool (decide (1 ≤ p0.A))) S (wN rfl) rfl rfl hc47 rfl rfl (lb rfl) fun a S => ?_
    refine sMove (.bool (decide (1 ≤ p0.A))) S (wN rfl) (.inl rfl) rfl rfl (lb rfl) fun a S => ?_
    rcases iteSome h with ⟨hc48, h⟩ | ⟨hc48, h⟩
    rotate_left
    · refine sSkip 8 true 95 96 S rfl rfl rfl hc48 rfl (lb rfl) fun a S => ?_
      refine sSkip 8 true 95 97 S rfl rfl rfl hc48 rfl (lb rfl) fun a S => ?_
      refine sSkip 8 true 95 98 S rfl rfl rfl hc48 rfl (lb rfl) fun a S => ?_
      refine sPickF (.bool false) S (wN rfl) rfl rfl hc48 rfl rfl (lb rfl) fun a S => ?_
      refine sMove (.bool false) S (wN rfl) (.inr rfl) rfl rfl (lb rfl) fun a S => ?_
      exact leafL (leafB (leafT (⟨false, Option.some.inj h, S.fix [] [] (by decide) rfl rfl rfl⟩)))
    refine sField (b := b2) (off := 0) 2 2 S (wG 8 true 95 rfl rfl rfl hc48) rfl rfl rfl rfl rfl (lb rfl) fun a S => ?_
    refine sLoad1 (p := b2) (off := 2) (T := 61) (vs := [.int .u8 p0.Kind, .bool p0.Purl, iv p0.A, iv p0.B]) 0 (iv p0.A) S (wG 8 true 95 rfl rfl rfl hc48) rfl rfl rfl rfl rfl rfl (lb rfl) fun a S => ?_
    refine sBin (.bool (decide (p0.A ≤ 200))) S (wG 8 true 95 rfl rfl rfl hc48) rfl rfl rfl (bLe _ _ _ _ .i64 p0.A 200) rfl (lb rfl) fun a S => ?_
    refine sPickT (.bool (decide (p0.A ≤ 200))) S (wN rfl) rfl rfl hc48 rfl rfl (lb rfl) fun a S => ?_
    refine sMove (.bool (decide (p0.A ≤ 200))) S (wN rfl) (.inr rfl) rfl rfl (lb rfl) fun a S => ?_
    exact leafL (leafB (leafT (⟨decide (p0.A ≤ 200), Option.some.inj h, S.fix [] [] (by decide) rfl rfl rfl⟩)))
  refine sCondT S rfl hc41 ?_
  refine sRegion ?_
  refine sField (b := b2) (off := 0) 3 3 S (wN rfl) rfl rfl rfl rfl rfl (lb rfl) fun a S => ?_
  refine sLoad1 (p := b2) (off := 3) (T := 61) (vs := [.int .u8 p0.Kind, .bool p0.Purl, iv p0.A, iv p0.B]) 0 (iv p0.B) S (wN rfl) rfl rfl rfl rfl rfl rfl (lb rfl) fun a S => ?_
  refine sBin (.bool (p0.B == 0)) S (wN rfl) rfl rfl rfl (bEq _ _ _ _ .i64 p0.B 0) rfl (lb rfl) fun a S => ?_
  refine sMove (.bool (p0.B == 0)) S (wN rfl) (.inl rfl) rfl rfl (lb rfl) fun a S => ?_
  rcases iteSome h with ⟨hc42, h⟩ | ⟨hc42, h⟩
  rotate_left
  · refine sSkip 3 true 70 71 S rfl rfl rfl hc42 rfl (lb rfl) fun a S => ?_
    refine sSkip 3 true 70 72 S rfl rfl rfl hc42 rfl (lb rfl) fun a S => ?_
    refine sSkip 3 true 70 73 S rfl rfl rfl hc42 rfl (lb rfl) fun a S => ?_
    refine sPickF (.bool false) S (wN rfl) rfl rfl hc42 rfl rfl (lb rfl) fun a S => ?_
    refine sMove (.bool false) S (wN rfl) (.inl rfl) rfl rfl (lb rfl) fun a S => ?_
    refine sSkip 8 true 75 76 S rfl rfl rfl rfl rfl (lb rfl) fun a S => ?_
    refine sSkip 8 true 75 77 S rfl rfl rfl rfl rfl (lb rfl) fun a S => ?_
    refine sSkip 8 true 75 78 S rfl rfl rfl rfl rfl (lb rfl) fun a S => ?_
    refine sPickF (.bool false) S (wN rfl) rfl rfl rfl rfl rfl (lb rfl) fun a S => ?_
    refine sMove (.bool false) S (wN rfl) (.inl rfl) rfl rfl (lb rfl) fun a S => ?_
    refine sSkip 13 true 80 81 S rfl rfl rfl rfl rfl (lb rfl) fun a S => ?_
    refine sSkip 13 true 80 82 S rfl rfl rfl rfl rfl (lb rfl) fun a S => ?_
    refine sSkip 13 true 80 83 S rfl rfl rfl rfl rfl (lb rfl) fun a S => ?_
    refine sPickF (.bool false) S (wN rfl) rfl rfl rfl rfl rfl (lb rfl) fun a S => ?_
    refine sMove (.bool false) S (wN rfl) (.inr rfl) rfl rfl (lb rfl) fun a S => ?_
    exact leafL (leafB (leafT (⟨false, Option.some.inj h, S.fix [] [] (by decide) rfl rfl rfl⟩)))
  refine sField (b := b2) (off := 0) 1 1 S (wG 3 true 70 rfl rfl rfl hc42) rfl rfl rfl rfl rfl (lb rfl) fun a S => ?_
  refine sLoad1 (p := b2) (off := 1) (T := 61) (vs := [.int .u8 p0.Kind, .bool p0.Purl, iv p0.A, iv p0.B]) 0 (.bool p0.Purl) S (wG 3 true 70 rfl rfl rfl hc42) rfl rfl rfl rfl rfl rfl (lb rfl) fun a S => ?_
  refine sNot (b := p0.Purl) S (wG 3 true 70 rfl rfl rfl hc42) rfl rfl rfl (lb rfl) fun a S => ?_
  refine sPickT (.bool (!p0.Purl)) S (wN rfl) rfl rfl hc42 rfl rfl (lb rfl) fun a S => ?_
  refine sMove (.bool (!p0.Purl)) S (wN rfl) (.inl rfl) rfl rfl (lb rfl) fun a S => ?_
  rcases iteSome h with ⟨hc43, h⟩ | ⟨hc43, h⟩
  rotate_left
  · refine sSkip 8 true 75 76 S rfl rfl rfl hc43 rfl (lb rfl) fun a S => ?_
    refine sSkip 8 true 75 77 S rfl rfl rfl hc43 rfl (lb rfl) fun a S => ?_
    refine sSkip 8 true 75 78 S rfl rfl rfl hc43 rfl (lb rfl) fun a S => ?_
    refine sPickF (.bool false) S (wN rfl) rfl rfl hc43 rfl rfl (lb rfl) fun a S => ?_
    refine sMove (.bool false) S (wN rfl) (.inl rfl) rfl rfl (lb rfl) fun a S => ?_
    refine sSkip 13 true 80 81 S rfl rfl rfl rfl rfl (lb rfl) fun a S => ?_
    refine sSkip 13 true 80 82 S rfl rfl rfl rfl rfl (lb rfl) fun a S => ?_
    refine sSkip 13 true 80 83 S rfl rfl rfl rfl rfl (lb rfl) fun a S => ?_
    refine sPickF (.bool false) S (wN rfl) rfl rfl rfl rfl rfl (lb rfl) fun a S => ?_
    refine sMove (.bool false) S (wN rfl) (.inr rfl) rfl rfl (lb rfl) fun a S => ?_
    exact leafL (leafB (leafT (⟨false, Option.some.inj h, S.fix [] [] (by decide) rfl rfl rfl⟩)))
  refine sField (b := b2) (off := 0) 2 2 S (wG 8 true 75 rfl rfl rfl hc43) rfl rfl rfl rfl rfl (lb rfl) fun a S => ?_
  refine sLoad1 (p := b2) (off := 2) (T := 61) (vs := [.int .u8 p0.Kind, .bool p0.Purl, iv p0.A, iv p0.B]) 0 (iv p0.A) S (wG 8 true 75 rfl rfl rfl hc43) rfl rfl rfl rfl rfl rfl (lb rfl) fun a S => ?_
  refine sBin (.bool (decide (1 ≤ p0.A))) S (wG 8 true 75 rfl rfl rfl hc43) rfl rfl rfl (bGe _ _ _ _ .i64 p0.A 1) rfl (lb rfl) fun a S => ?_
  refine sPickT (.bool (decide (1 ≤ p0.A))) S (wN rfl) rfl rfl hc43 rfl rfl (lb rfl) fun a S => ?_
  refine sMove (.bool (decide (1 ≤ p0.A))) S (wN rfl) (.inl rfl) rfl rfl (lb rfl) fun a S => ?_
  rcases iteSome h with ⟨hc44, h⟩ | ⟨hc44, h⟩
  rotate_left
  · refine sSkip 13 true 80 81 S rfl rfl rfl hc44 rfl (lb rfl) fun a S => ?_
    refine sSkip 13 true 80 82 S rfl rfl rfl hc44 rfl (lb rfl) fun a S => ?_
    refine sSkip 13 true 80 83 S rfl rfl rfl hc44 rfl (lb rfl) fun a S => ?_
    refine sPickF (.bool false) S (wN rfl) rfl rfl hc44 rfl rfl (lb rfl) fun a S => ?_
    refine sMove (.bool false) S (wN rfl) (.inr rfl) rfl rfl (lb rfl) fun a S => ?_
    exact leafL (leafB (leafT (⟨false, Option.some.inj h, S.fix [] [] (by decide) rfl rfl rfl⟩)))
  refine sField (b := b2) (off := 0) 2 2 S (wG 13 true 80 rfl rfl rfl hc44) rfl rfl rfl rfl rfl (lb rfl) fun a S => ?_
  refine sLoad1 (p := b2) (off := 2) (T := 61) (vs := [.int .u8 p0.Kind, .bool p0.Purl, iv p0.A, iv p0.B]) 0 (iv p0.A) S (wG 13 true 80 rfl rfl rfl hc44) rfl rfl rfl rfl rfl rfl (lb rfl) fun a S => ?_
  refine sBin (.bool (decide (p0.A ≤ 200))) S (wG 13 true 80 rfl rfl rfl hc44) rfl rfl rfl (bLe _ _ _ _ .i64 p0.A 200) rfl (lb rfl) fun a S => ?_
  refine sPickT (.bool (decide (p0.A ≤ 200))) S (wN rfl) rfl rfl hc44 rfl rfl (lb rfl) fun a S => ?_
  refine sMove (.bool (decide (p0.A ≤ 200))) S (wN rfl) (.inr rfl) rfl rfl (lb rfl) fun a S => ?_
  exact leafL (leafB (leafT (⟨decide (p0.A ≤ 200), Option.some.inj h, S.fix [] [] (by decide) rfl rfl rfl⟩)))

end Go.Proofs.Yticjoiolfibmlaa
namespace Go.Proofs.Yticjoiolfibmlaa
open Go.RowKit
set_option linter.unusedVariables false

noncomputable def raddleref25_All_l1 (p0 : (List api_Stitch)) : Int → Option (Int ⊕ (Int ⊕ Unit)) := fun s0 => match s0 with
  | s11 =>
    if decide (s11 < (p0.length : Int)) then
      Option.bind (idxO p0 s11) fun x20 =>
      Option.bind (F_raddleref25_Check x20) fun r25 =>
      if r25 != 0 then
        some (.inr (.inl 8))
      else
        some (.inl (w64 (s11 + 1)))
    else
      some (.inr (.inr ()))
noncomputable def F_raddleref25_All (p0 : (List api_Stitch)) : Option Int :=
  if decide (200 < (p0.length : Int)) then
    some 4
  else
    Option.bind (α := Unit ⊕ Int) (
      Option.bind (whileO (raddleref25_All_l1 p0) 0) fun z0 => match z0 with
        | .inl z =>
          some (.inr z)
        | .inr _ =>
          some (.inl ())) fun z0 => match z0 with
      | .inl _ =>
        Option.bind (F_raddleref25_sums p0) fun r30 =>
        Option.bind (α := Bool) (
          if decide (200 < r30.1) then
            some true
          else
            some (decide (200 < r30.2))) fun o33 =>
        if o33 then
          some 4
        else
          some 0
      | .inr z =>
        some z
set_option maxHeartbeats 4000000 in
set_option maxRecDepth 100000 in
theorem c_raddleref25_All (E : Nat → Prop) (w0 : World) (p0 : (List api_Stitch)) (v0 : Value) (r : Int) (h : F_raddleref25_All p0 = some r) (S : St0 E [] w0 w0 [] [fRep (rL r_api_Stitch) (v0) p0]) :
    Calls Try.prog 48 #[v0] w0 (Ret (X := Unit) E [] w0 (fun _ => .int .i64 r) (fun _ => []) (fun _ => [])) := by
  unfold F_raddleref25_All at h
  obtain ⟨ad1, cp2, _, rfl, _⟩ := S.know (i := 0) (e := fRep (rL r_api_Stitch) (v0) p0) rfl
  refine sEnter (args := [.slice ad1 p0.length cp2]) 32 Try.func48 rfl rfl (by simp) S (fun a S => ?_)
  refine sSeq (fun K3 hK3 => ?_)
  refine sRegion ?_
  refine sMove (iv 0) S (wN rfl) (.inr rfl) rfl rfl (lb rfl) fun a S => ?_
  refine leafL (leafT (hK3 _ _ ?_))
  refine sSeq (fun K4 hK4 => ?_)
  refine sSeq (fun K5 hK5 => ?_)
  refine sRegion ?_
  refine sMove (.slice ad1 p0.length cp2) S (wN rfl) (.inl rfl) rfl rfl (lb rfl) fun a S => ?_
  refine sLen (ad := ad1) (m := p0.length) (c := cp2) S (wN rfl) rfl Try.underlying62 rfl rfl (lb rfl) fun a S => ?_
  refine sBin (.bool (decide (200 < (p0.length : Int)))) S (wN rfl) rfl rfl rfl (bGt _ _ _ _ .i64 (p0.length : Int) 200) rfl (lb rfl) fun a S => ?_
  refine leafL (leafT (hK5 _ _ ?_))
  rcases iteSome h with ⟨hc6, h⟩ | ⟨hc6, h⟩
  · refine sCondT S rfl hc6 ?_
    refine sSeq (fun K7 hK7 => ?_)
    refine sRegion ?_
    refine sMove (iv 4) S (wN rfl) (.inr rfl) rfl rfl (lb rfl) fun a S => ?_
    refine leafL (leafT (hK7 _ _ ?_))
    obtain rfl := Option.some.inj h
    exact wp_ret (rThen (sRet (iv 4) S (rsl1 rfl (rvT (t := 2) (v := iv 4) S rfl)) ⟨(), rfl, S.mem.sel [] [] (by decide) rfl rfl⟩))
  refine sCondF S rfl hc6 ?_
  refine wp_skip (leafT (hK4 _ _ ?_))
  obtain ⟨t8, h, g9⟩ := bindSome h
  refine sCut (fun a w => .inl () = t8 ∧ St [] E [] w0 32 a w [(0, .slice ad1 p0.length cp2)] [] [fRep (rL r_api_Stitch) (.slice ad1 p0.length cp2) p0]) ?_ (fun a w hI => ?_)
  rotate_left
  · obtain ⟨rfl, S⟩ := hI
    have h := g9
    clear g9
    try dsimp only at h
    refine sSeq (fun K29 hK29 => ?_)
    refine sRegion ?_
    refine sMove (.slice ad1 p0.length cp2) S (wN rfl) (.inl rfl) rfl rfl (lb rfl) fun a S => ?_
    obtain ⟨r30, hx31, h⟩ := bindSome h
    have S1 := S.mem
    refine sCallQ (X := Unit) (f := 49) (vs := [.slice ad1 p0.length cp2]) (val := fun _ => .tuple #[iv r30.1, iv r30.2]) S (wN rfl) rfl callee49 rfl (S1.quiet [0] rfl) (fun E1 w1 S1 => c_raddleref25_sums E1 w1 p0 (.slice ad1 p0.length cp2) r30 hx31 S1) rfl (lb rfl) fun _ a w S => ?_
    refine sMove (.tuple #[iv r30.1, iv r30.2]) S (wN rfl) (.inl rfl) rfl rfl (lb rfl) fun a S => ?_
    refine sExtract (vs := [iv r30.1, iv r30.2]) (iv r30.1) S (wN rfl) rfl rfl rfl rfl (lb rfl) fun a S => ?_
    refine sExtract (vs := [iv r30.1, iv r30.2]) (iv r30.2) S (wN rfl) rfl rfl rfl rfl (lb rfl) fun a S => ?_
    refine sMove (iv r30.1) S (wN rfl) (.inr rfl) rfl rfl (lb rfl) fun a S => ?_
    refine sMove (iv r30.2) S (wN rfl) (.inr rfl) rfl rfl (lb rfl) fun a S => ?_
    refine leafL (leafT (hK29 _ _ ?_))
    refine sSeq (fun K32 hK32 => ?_)
    obtain ⟨t34, h, g35⟩ := bindSome h
    refine sCut (fun a w => ∃ o33, o33 = t34 ∧ St [] E [] w0 32 a w [(31, .bool o33)] [] []) ?_ (fun a w hI => ?_)
    rotate_left
    · obtain ⟨o33, rfl, S⟩ := hI
      have h := g35
      clear g35
      try dsimp only at h
      rcases iteSome h with ⟨hc37, h⟩ | ⟨hc37, h⟩
      · refine sCondT S rfl hc37 ?_
        refine sSeq (fun K38 hK38 => ?_)
        refine sRegion ?_
        refine sMove (iv 4) S (wN rfl) (.inr rfl) rfl rfl (lb rfl) fun a S => ?_
        refine leafL (leafT (hK38 _ _ ?_))
        obtain rfl := Option.some.inj h
        exact wp_ret (rThen (sRet (iv 4) S (rsl1 rfl (rvT (t := 2) (v := iv 4) S rfl)) ⟨(), rfl, S.mem.sel [] [] (by decide) rfl rfl⟩))
      refine sCondF S rfl hc37 ?_
      refine wp_skip (leafT (hK32 _ _ ?_))
      refine sSeq (fun K39 hK39 => ?_)
      refine sRegion ?_
      refine sMove (iv 0) S (wN rfl) (.inr rfl) rfl rfl (lb rfl) fun a S => ?_
      refine leafL (leafT (hK39 _ _ ?_))
      obtain rfl := Option.some.inj h
      exact wp_ret (sRet (iv 0) S (rsl1 rfl (rvT (t := 2) (v := iv 0) S rfl)) ⟨(), rfl, S.mem.sel [] [] (by decide) rfl rfl⟩)
    refine sRegion ?_
    refine sMove (iv r30.1) S (wN rfl) (.inl rfl) rfl rfl (lb rfl) fun a S => ?_
    refine sBin (.bool (decide (200 < r30.1))) S (wN rfl) rfl rfl rfl (bGt _ _ _ _ .i64 r30.1 200) rfl (lb rfl) fun a S => ?_
    refine sMove (.bool (decide (200 < r30.1))) S (wN rfl) (.inl rfl) rfl rfl (lb rfl) fun a S => ?_
    rcases iteSome h with ⟨hc36, h⟩ | ⟨hc36, h⟩
    · refine sSkip 2 false 28 29 S rfl rfl rfl hc36 rfl (lb rfl) fun a S => ?_
      refine sSkip 2 false 28 30 S rfl rfl rfl hc36 rfl (lb rfl) fun a S => ?_
      refine sPickT (.bool true) S (wN rfl) rfl rfl hc36 rfl rfl (lb rfl) fun a S => ?_
      exact leafL (leafT (⟨true, Option.some.inj h, S.fix [] [] (by decide) rfl rfl rfl⟩))
    refine sMove (iv r30.2) S (wG 2 false 28 rfl rfl rfl hc36) (.inl rfl) rfl rfl (lb rfl) fun a S => ?_
    refine sBin (.bool (decide (200 < r30.2))) S (wG 2 false 28 rfl rfl rfl hc36) rfl rfl rfl (bGt _ _ _ _ .i64 r30.2 200) rfl (lb rfl) fun a S => ?_
    refine sPickF (.bool (decide (200 < r30.2))) S (wN rfl) rfl rfl hc36 rfl rfl (lb rfl) fun a S => ?_
    exact leafL (leafT (⟨decide (200 < r30.2), Option.some.inj h, S.fix [] [] (by decide) rfl rfl rfl⟩))
  refine sSeq (fun K10 hK10 => ?_)
  refine sRegion ?_
  refine sMove (iv 0) S (wN rfl) (.inr rfl) rfl rfl (lb rfl) fun a S => ?_
  refine leafL (leafT (hK10 _ _ ?_))
  refine wp_block ?_
  obtain ⟨t14, hl, g13⟩ := bindSome h
  refine sLoop hl (fun s0 a w => match s0 with | s11 => St [] E [] w0 32 a w [(0, .slice ad1 p0.length cp2), (3, iv s11)] [] [fRep (rL r_api_Stitch) (.slice ad1 p0.length cp2) p0]) (S.fix [] [0] (by decide) rfl rfl rfl) ?_
  clear hl h
  intro s11 a w c0 hI h hu12
  unfold raddleref25_All_l1 at h
  dsimp only at h hI
  have S := hI
  refine sSeq (fun K15 hK15 => ?_)
  refine sSeq (fun K16 hK16 => ?_)
  refine sRegion ?_
  refine sMove (iv s11) S (wN rfl) (.inl rfl) rfl rfl (lb rfl) fun a S => ?_
  refine sMove (.slice ad1 p0.length cp2) S (wN rfl) (.inl rfl) rfl rfl (lb rfl) fun a S => ?_
  refine sLen (ad := ad1) (m := p0.length) (c := cp2) S (wN rfl) rfl Try.underlying62 rfl rfl (lb rfl) fun a S => ?_
  refine sBin (.bool (decide (s11 < (p0.length : Int)))) S (wN rfl) rfl rfl rfl (bLt _ _ _ _ .i64 s11 (p0.length : Int)) rfl (lb rfl) fun a S => ?_
  refine leafL (leafT (hK16 _ _ ?_))
  rcases iteSome h with ⟨hc17, h⟩ | ⟨hc17, h⟩
  rotate_left
  · refine sCondF S rfl hc17 ?_
    obtain rfl := Option.some.inj h
    obtain rfl := hu12 _ rfl
    have h := g13
    clear g13
    try dsimp only at h
    exact wp_exit (xThen (xThen (xHit (leafT (⟨Option.some.inj h, S.fix [] [0] (by decide) rfl rfl rfl⟩)))))
  refine sCondT S rfl hc17 ?_
  refine wp_skip (leafT (hK15 _ _ ?_))
  refine sSeq (fun K18 hK18 => ?_)
  refine wp_block ?_
  refine sSeq (fun K19 hK19 => ?_)
  refine sRegion ?_
  refine sMove (.slice ad1 p0.length cp2) S (wN rfl) (.inl rfl) rfl rfl (lb rfl) fun a S => ?_
  refine sMove (iv s11) S (wN rfl) (.inl rfl) rfl rfl (lb rfl) fun a S => ?_
  obtain ⟨x20, hx21, h⟩ := bindSome h
  obtain ⟨q22, hq23, S⟩ := pIdx (P := Try.prog) (r := r_api_Stitch) (v := .slice ad1 p0.length cp2) (xs := p0) (j := s11) 62 61 0 S Try.underlying62 rfl rfl hx21
  refine sIdxV (v := .slice ad1 p0.length cp2) (k := .i64) (j := s11) S (wN rfl) rfl rfl rfl hq23 rfl (lb rfl) fun a S => ?_
  obtain ⟨u24, S⟩ := pLoad (r := r_api_Stitch) (q := q22) (x := x20) 0 S rfl
  obtain rfl : u24 = .agg #[.int .u8 x20.Kind, .bool x20.Purl, iv x20.A, iv x20.B] := S.mem.know (i := 1) (e := fRep r_api_Stitch (u24) x20) rfl
  refine sLoadVN (vq := q22) 0 [.int .u8 x20.Kind, .bool x20.Purl, iv x20.A, iv x20.B] S (wN rfl) rfl rfl rfl rfl rfl rfl (lb rfl) fun a S => ?_
  obtain ⟨r25, hx26, h⟩ := bindSome h
  have S1 := S.mem
  refine sCallQ (X := Unit) (f := 62) (vs := [.agg #[.int .u8 x20.Kind, .bool x20.Purl, iv x20.A, iv x20.B]]) (val := fun _ => iv r25) S (wN rfl) rfl callee62 rfl (S1.quiet [1] rfl) (fun E1 w1 S1 => c_raddleref25_Check E1 w1 x20 (.agg #[.int .u8 x20.Kind, .bool x20.Purl, iv x20.A, iv x20.B]) r25 hx26 S1) rfl (lb rfl) fun _ a w S => ?_
  refine sBin (.bool (r25 != 0)) S (wN rfl) rfl rfl rfl (bNe _ _ _ _ .i64 r25 0) rfl (lb rfl) fun a S => ?_
  refine leafL (leafT (hK19 _ _ ?_))
  rcases iteSome h with ⟨hc27, h⟩ | ⟨hc27, h⟩
  rotate_left
  · refine sCondF S rfl hc27 ?_
    refine wp_skip (leafB (leafT (hK18 _ _ ?_)))
    refine sRegion ?_
    refine sMove (iv s11) S (wN rfl) (.inl rfl) rfl rfl (lb rfl) fun a S => ?_
    refine sBin (iv (w64 (s11 + 1))) S (wN rfl) rfl rfl rfl (bAdd _ _ _ _ s11 1) rfl (lb rfl) fun a S => ?_
    refine sMove (iv (w64 (s11 + 1))) S (wN rfl) (.inr rfl) rfl rfl (lb rfl) fun a S => ?_
    exact leafL (leafT (⟨w64 (s11 + 1), (Option.some.inj h).symm, (S.fix [] [3] (by decide) rfl rfl rfl)⟩))
  refine sCondT S rfl hc27 ?_
  refine sSeq (fun K28 hK28 => ?_)
  refine sRegion ?_
  refine sMove (iv 8) S (wN rfl) (.inr rfl) rfl rfl (lb rfl) fun a S => ?_
  refine leafL (leafT (hK28 _ _ ?_))
  obtain rfl := Option.some.inj h
  obtain rfl := hu12 _ rfl
  have h := g13
  clear g13
  try dsimp only at h
  obtain rfl := Option.some.inj h
  have h := g9
  clear g9
  try dsimp only at h
  obtain rfl := Option.some.inj h
  exact wp_ret (rBlock (rThen (rThen (rBlock (rThen (sRet (iv 8) S (rsl1 rfl (rvT (t := 2) (v := iv 8) S rfl)) ⟨(), rfl, S.mem.sel [] [] (by decide) rfl rfl⟩))))))

end Go.Proofs.Yticjoiolfibmlaa
namespace Go.Proofs.Yticjoiolfibmlaa
open Go.RowKit
set_option linter.unusedVariables false

/-- a loop by a count, whatever its state looks like -/
theorem loop_at {S σ τ : Type} {B : S → Option (S ⊕ τ)} (n : Nat) (st : Nat → σ → S) (I : Nat → σ → Prop) (Pt : τ → Prop) {s0 : σ} (h0 : I 0 s0)
    (step : ∀ k s, k < n → I k s → (∃ s', B (st k s) = some (.inl (st (k + 1) s')) ∧ I (k + 1) s') ∨ (∃ t, B (st k s) = some (.inr t) ∧ Pt t))
    (last : ∀ s, I n s → ∃ t, B (st n s) = some (.inr t) ∧ Pt t) : ∃ t, whileO B (st 0 s0) = some t ∧ Pt t := by
  have key : ∀ j k s, j + k = n → I k s → ∃ t, whileO B (st k s) = some t ∧ Pt t := by
    intro j
    induction j with
    | zero =>
      intro k s hk hI
      obtain rfl : k = n := by omega
      obtain ⟨t, h1, h2⟩ := last s hI
      exact ⟨t, whileO_done h1, h2⟩
    | succ j ih =>
      intro k s hk hI
      rcases step k s (by omega) hI with ⟨s', h1, h2⟩ | ⟨t, h1, h2⟩
      · rw [whileO_step h1]; exact ih _ _ (by omega) h2
      · exact ⟨t, whileO_done h1, h2⟩
  exact key n 0 s0 (by omega) h0
theorem whileO_none {σ τ : Type} {B : σ → Option (σ ⊕ τ)} {s : σ} (h : B s = none) : whileO B s = none := by
  cases hx : whileO B s with
  | none => rfl
  | some t =>
    obtain ⟨n, hn⟩ := whileO_some hx
    cases n with
    | zero => simp [iterO] at hn
    | succ n => rw [iterO, h] at hn; cases hn
theorem whileO_eq {σ τ : Type} (B : σ → Option (σ ⊕ τ)) (s : σ) : whileO B s = (B s).bind fun r => match r with | .inl s' => whileO B s' | .inr t => some t := by
  cases h : B s with
  | none => rw [whileO_none h]; rfl
  | some r =>
    cases r with
    | inl s' => rw [whileO_step h]; rfl
    | inr t => rw [whileO_done h]; rfl
/-- sums over a list -/
def sm {α : Type} (f : α → Int) : List α → Int
  | [] => 0
  | x :: l => f x + sm f l
theorem sm_append {α : Type} (f : α → Int) (l k : List α) : sm f (l ++ k) = sm f l + sm f k := by
  induction l with
  | nil => simp [sm]
  | cons x l ih => simp only [List.cons_append, sm, ih]; omega
theorem sm_take {α : Type} (f : α → Int) (l : List α) {k : Nat} (h : k < l.length) : sm f (l.take (k + 1)) = sm f (l.take k) + f l[k] := by
  rw [List.take_succ_eq_append_getElem h, sm_append]
  simp [sm]
theorem sm_bd {α : Type} {f : α → Int} {b : Int} {l : List α} (h : ∀ x, x ∈ l → 0 ≤ f x ∧ f x ≤ b) : 0 ≤ sm f l ∧ sm f l ≤ b * l.length := by
  induction l with
  | nil => simp [sm]
  | cons x l ih =>
    have h1 := h x (by simp)
    have h2 := ih fun y hy => h y (by simp [hy])
    simp only [sm, List.length_cons]
    have e : b * ((l.length + 1 : Nat) : Int) = b * l.length + b := by rw [Int.natCast_add, Int.mul_add]; simp
    rw [e]
    omega
def usedS (p : api_Stitch) : Int := if p.Kind = 2 ∨ p.Kind = 9 then 0 else if p.Kind = 3 ∨ p.Kind = 4 ∨ p.Kind = 10 then p.A else if p.Kind = 6 ∨ p.Kind = 7 then p.A + p.B else 1
def madeS (p : api_Stitch) : Int := if p.Kind = 10 then 0 else if p.Kind = 5 ∨ p.Kind = 9 then p.A else if p.Kind = 6 ∨ p.Kind = 7 then p.A + p.B else 1
def okS (p : api_Stitch) : Prop :=
  (p.Kind = 1 ∨ p.Kind = 8) ∧ p.A = 0 ∧ p.B = 0 ∨ p.Kind = 2 ∧ p.A = 0 ∧ p.B = 0 ∧ p.Purl = false ∨ (p.Kind = 3 ∨ p.Kind = 4 ∨ p.Kind = 5) ∧ 2 ≤ p.A ∧ p.A ≤ 4 ∧ p.B = 0 ∨
  (p.Kind = 6 ∨ p.Kind = 7) ∧ 1 ≤ p.A ∧ p.A ≤ 6 ∧ 1 ≤ p.B ∧ p.B ≤ 6 ∨ p.Kind = 9 ∧ 1 ≤ p.A ∧ p.A ≤ 200 ∧ p.B = 0 ∧ p.Purl = false ∨ p.Kind = 10 ∧ 1 ≤ p.A ∧ p.A ≤ 200 ∧ p.B = 0
instance (p : api_Stitch) : Decidable (okS p) := by unfold okS; infer_instance
theorem okS_bd {p : api_Stitch} (h : okS p) : 1 ≤ p.Kind ∧ p.Kind ≤ 10 ∧ 0 ≤ p.A ∧ p.A ≤ 200 ∧ 0 ≤ p.B ∧ p.B ≤ 6 := by
  unfold okS at h
  omega
theorem usedS_bd {p : api_Stitch} (h : okS p) : 0 ≤ usedS p ∧ usedS p ≤ 200 := by
  have hb := okS_bd h
  unfold okS at h
  unfold usedS
  split
  · omega
  · split
    · omega
    · split <;> omega
theorem madeS_bd {p : api_Stitch} (h : okS p) : 0 ≤ madeS p ∧ madeS p ≤ 200 := by
  have hb := okS_bd h
  unfold okS at h
  unfold madeS
  split
  · omega
  · split
    · omega
    · split <;> omega
theorem check_form (p : api_Stitch) (f : stitch_form) (h : F_stitch_forms p.Kind = some (f, true)) :
    F_stitch_Check p = some (if (f.a.1 ≤ p.A ∧ p.A ≤ f.a.2) ∧ (f.b.1 ≤ p.B ∧ p.B ≤ f.b.2) ∧ (p.Purl = true → f.sided = true) then 0 else 8) := by
  unfold F_stitch_Check F_stitch_within
  rw [h]
  by_cases a1 : f.a.1 ≤ p.A <;> by_cases a2 : p.A ≤ f.a.2 <;> by_cases b1 : f.b.1 ≤ p.B <;> by_cases b2 : p.B ≤ f.b.2 <;> cases hp : p.Purl <;> cases hs : f.sided <;> simp [a1, a2, b1, b2, hs]
theorem ifc {α : Type} {c d : Prop} [Decidable c] [Decidable d] {a b : α} (h : c ↔ d) : (if c then a else b) = if d then a else b := by
  by_cases hc : c
  · rw [if_pos hc, if_pos (h.1 hc)]
  · rw [if_neg hc, if_neg (fun hd => hc (h.2 hd))]
theorem kinds {x : Int} (h : 0 ≤ x ∧ x ≤ 255) : x = 0 ∨ x = 1 ∨ x = 2 ∨ x = 3 ∨ x = 4 ∨ x = 5 ∨ x = 6 ∨ x = 7 ∨ x = 8 ∨ x = 9 ∨ x = 10 ∨ 10 < x := by omega
theorem forms_none {x : Int} (h : 10 < x ∧ x ≤ 255) : ∃ f, F_stitch_forms x = some (f, false) := by
  unfold F_stitch_forms
  have hw : IntKind.i64.wrap x = x := w64_of (by omega) (by omega)
  simp only [dF (show ¬ x < 1 by omega), hw, Bool.false_eq_true, if_false, Option.bind_some, List.length_cons, List.length_nil]
  rw [dT (show ((0 + 1 + 1 + 1 + 1 + 1 + 1 + 1 + 1 + 1 + 1 : Nat) : Int) < x by omega)]
  exact ⟨_, rfl⟩
theorem check_none {p : api_Stitch} {f : stitch_form} (h : F_stitch_forms p.Kind = some (f, false)) : F_stitch_Check p = some 8 := by
  unfold F_stitch_Check
  rw [h]
  simp
theorem check_eq (p : api_Stitch) (hk : 0 ≤ p.Kind ∧ p.Kind ≤ 255) : F_stitch_Check p = some (if okS p then 0 else 8) := by
  rcases kinds hk with h | h | h | h | h | h | h | h | h | h | h | h
  · rw [check_none (f := ⟨⟨#[]⟩, (0, 0), (0, 0), false, 0, 0⟩) (by rw [h]; rfl), if_neg (by unfold okS; omega)]
  · rw [check_form p _ (by rw [h]; rfl)]; cases hp : p.Purl <;> exact congrArg some (ifc (by simp [okS, h]; omega))
  · rw [check_form p _ (by rw [h]; rfl)]; cases hp : p.Purl <;> exact congrArg some (ifc (by simp [okS, h, hp] <;> omega))
  · rw [check_form p _ (by rw [h]; rfl)]; cases hp : p.Purl <;> exact congrArg some (ifc (by simp [okS, h]; omega))
  · rw [check_form p _ (by rw [h]; rfl)]; cases hp : p.Purl <;> exact congrArg some (ifc (by simp [okS, h]; omega))
  · rw [check_form p _ (by rw [h]; rfl)]; cases hp : p.Purl <;> exact congrArg some (ifc (by simp [okS, h]; omega))
  · rw [check_form p _ (by rw [h]; rfl)]; cases hp : p.Purl <;> exact congrArg some (ifc (by simp [okS, h]; omega))
  · rw [check_form p _ (by rw [h]; rfl)]; cases hp : p.Purl <;> exact congrArg some (ifc (by simp [okS, h]; omega))
  · rw [check_form p _ (by rw [h]; rfl)]; cases hp : p.Purl <;> exact congrArg some (ifc (by simp [okS, h]; omega))
  · rw [check_form p _ (by rw [h]; rfl)]; cases hp : p.Purl <;> exact congrArg some (ifc (by simp [okS, h, hp] <;> omega))
  · rw [check_form p _ (by rw [h]; rfl)]; cases hp : p.Purl <;> exact congrArg some (ifc (by simp [okS, h]; omega))
  · obtain ⟨f, hf⟩ := forms_none ⟨h, hk.2⟩
    rw [check_none hf, if_neg (by unfold okS; omega)]
theorem rstitch_eq (p : api_Stitch) : F_raddleref25_Check p = some (if okS p then 0 else 8) := by
  have e3 : (if (p.A == 0) = true then some (p.B == 0) else some false) = some (p.A == 0 && p.B == 0) := by cases h : (p.A == 0) <;> simp
  unfold F_raddleref25_Check
  rw [e3, Option.bind_some]
  by_cases k1 : p.Kind = 1
  · by_cases hA : p.A = 0 <;> by_cases hB : p.B = 0 <;> simp [k1, hA, hB, okS]
  by_cases k8 : p.Kind = 8
  · by_cases hA : p.A = 0 <;> by_cases hB : p.B = 0 <;> simp [k8, hA, hB, okS]
  by_cases k2 : p.Kind = 2
  · by_cases hA : p.A = 0 <;> by_cases hB : p.B = 0 <;> cases hp : p.Purl <;> simp [k2, hA, hB, hp, okS]
  by_cases k3 : p.Kind = 3
  · by_cases h1 : 2 ≤ p.A <;> by_cases h2 : p.A ≤ 4 <;> by_cases hB : p.B = 0 <;> simp [k3, h1, h2, hB, okS]
  by_cases k4 : p.Kind = 4
  · by_cases h1 : 2 ≤ p.A <;> by_cases h2 : p.A ≤ 4 <;> by_cases hB : p.B = 0 <;> simp [k4, h1, h2, hB, okS]
  by_cases k5 : p.Kind = 5
  · by_cases h1 : 2 ≤ p.A <;> by_cases h2 : p.A ≤ 4 <;> by_cases hB : p.B = 0 <;> simp [k5, h1, h2, hB, okS]
  by_cases k6 : p.Kind = 6
  · by_cases h1 : 1 ≤ p.A <;> by_cases h2 : p.A ≤ 6 <;> by_cases h3 : 1 ≤ p.B <;> by_cases h4 : p.B ≤ 6 <;> simp [k6, h1, h2, h3, h4, okS]
  by_cases k7 : p.Kind = 7
  · by_cases h1 : 1 ≤ p.A <;> by_cases h2 : p.A ≤ 6 <;> by_cases h3 : 1 ≤ p.B <;> by_cases h4 : p.B ≤ 6 <;> simp [k7, h1, h2, h3, h4, okS]
  by_cases k9 : p.Kind = 9
  · by_cases h1 : 1 ≤ p.A <;> by_cases h2 : p.A ≤ 200 <;> by_cases hB : p.B = 0 <;> cases hp : p.Purl <;> simp [k9, h1, h2, hB, hp, okS]
  by_cases k10 : p.Kind = 10
  · by_cases h1 : 1 ≤ p.A <;> by_cases h2 : p.A ≤ 200 <;> by_cases hB : p.B = 0 <;> simp [k10, h1, h2, hB, okS]
  have hn : ¬ okS p := by unfold okS; omega
  simp [k1, k2, k3, k4, k5, k6, k7, k8, k9, k10, hn]
theorem form_ok {p : api_Stitch} (h : okS p) : ∃ f, F_stitch_forms p.Kind = some (f, true) ∧ F_stitch_loops p f.uses = some (usedS p) ∧ F_stitch_loops p f.made = some (madeS p) := by
  have hb := okS_bd h
  have hw : w64 (p.A + p.B) = p.A + p.B := w64_of (by omega) (by omega)
  have l0 : F_stitch_loops p 0 = some 0 := rfl
  have l1 : F_stitch_loops p 1 = some 1 := rfl
  have l2 : F_stitch_loops p 2 = some p.A := rfl
  have l3 : F_stitch_loops p 3 = some (p.A + p.B) := by rw [← hw]; rfl
  rcases kinds (x := p.Kind) (by omega) with k | k | k | k | k | k | k | k | k | k | k | k
  · omega
  · exact ⟨⟨⟨#[]⟩, (0, 0), (0, 0), true, 1, 1⟩, by rw [k]; rfl, by rw [l1]; simp [usedS, k], by rw [l1]; simp [madeS, k]⟩
  · exact ⟨⟨⟨#[]⟩, (0, 0), (0, 0), false, 0, 1⟩, by rw [k]; rfl, by rw [l0]; simp [usedS, k], by rw [l1]; simp [madeS, k]⟩
  · exact ⟨⟨⟨#[102]⟩, (2, 4), (0, 0), true, 2, 1⟩, by rw [k]; rfl, by rw [l2]; simp [usedS, k], by rw [l1]; simp [madeS, k]⟩
  · exact ⟨⟨⟨#[108]⟩, (2, 4), (0, 0), true, 2, 1⟩, by rw [k]; rfl, by rw [l2]; simp [usedS, k], by rw [l1]; simp [madeS, k]⟩
  · exact ⟨⟨⟨#[109]⟩, (2, 4), (0, 0), true, 1, 2⟩, by rw [k]; rfl, by rw [l1]; simp [usedS, k], by rw [l2]; simp [madeS, k]⟩
  · exact ⟨⟨⟨#[120]⟩, (1, 6), (1, 6), true, 3, 3⟩, by rw [k]; rfl, by rw [l3]; simp [usedS, k], by rw [l3]; simp [madeS, k]⟩
  · exact ⟨⟨⟨#[121]⟩, (1, 6), (1, 6), true, 3, 3⟩, by rw [k]; rfl, by rw [l3]; simp [usedS, k], by rw [l3]; simp [madeS, k]⟩
  · exact ⟨⟨⟨#[115]⟩, (0, 0), (0, 0), true, 1, 1⟩, by rw [k]; rfl, by rw [l1]; simp [usedS, k], by rw [l1]; simp [madeS, k]⟩
  · exact ⟨⟨⟨#[]⟩, (1, 200), (0, 0), false, 0, 2⟩, by rw [k]; rfl, by rw [l0]; simp [usedS, k], by rw [l2]; simp [madeS, k]⟩
  · exact ⟨⟨⟨#[111]⟩, (1, 200), (0, 0), true, 2, 0⟩, by rw [k]; rfl, by rw [l2]; simp [usedS, k], by rw [l0]; simp [madeS, k]⟩
  · omega
theorem rused_eq {p : api_Stitch} (h : okS p) : F_raddleref25_Used p = some (usedS p) := by
  have hb := okS_bd h
  have hw : w64 (p.A + p.B) = p.A + p.B := w64_of (by omega) (by omega)
  unfold F_raddleref25_Used usedS
  rcases kinds (x := p.Kind) (by omega) with k | k | k | k | k | k | k | k | k | k | k | k <;> first | omega | simp [k, hw]
theorem rgives_eq {p : api_Stitch} (h : okS p) : F_raddleref25_Gives p = some (madeS p) := by
  have hb := okS_bd h
  have hw : w64 (p.A + p.B) = p.A + p.B := w64_of (by omega) (by omega)
  unfold F_raddleref25_Gives madeS
  rcases kinds (x := p.Kind) (by omega) with k | k | k | k | k | k | k | k | k | k | k | k <;> first | omega | simp [k, hw]
/-- lists of stitches -/
def allOk (l : List api_Stitch) : Prop := ∀ p, p ∈ l → okS p
instance (l : List api_Stitch) : Decidable (allOk l) := by unfold allOk; infer_instance
def wfS (p : api_Stitch) : Prop := 0 ≤ p.Kind ∧ p.Kind ≤ 255
theorem used_bd {l : List api_Stitch} (h : allOk l) : 0 ≤ sm usedS l ∧ sm usedS l ≤ 200 * l.length := sm_bd fun _ hx => usedS_bd (h _ hx)
theorem made_bd {l : List api_Stitch} (h : allOk l) : 0 ≤ sm madeS l ∧ sm madeS l ≤ 200 * l.length := sm_bd fun _ hx => madeS_bd (h _ hx)
theorem take_ok {l : List api_Stitch} (h : allOk l) (k : Nat) : allOk (l.take k) := fun _ hx => h _ (List.mem_of_mem_take hx)
theorem sum_step {l : List api_Stitch} (h : allOk l) (hl : l.length ≤ 100000) {k : Nat} (hk : k < l.length) :
    w64 (sm usedS (l.take k) + usedS l[k]) = sm usedS (l.take (k + 1)) ∧ w64 (sm madeS (l.take k) + madeS l[k]) = sm madeS (l.take (k + 1)) := by
  have h1 := used_bd (take_ok h k)
  have h2 := made_bd (take_ok h k)
  have h3 := usedS_bd (h _ (List.getElem_mem hk))
  have h4 := madeS_bd (h _ (List.getElem_mem hk))
  have hlen : (l.take k).length ≤ 100000 := by rw [List.length_take]; omega
  rw [sm_take _ _ hk, sm_take _ _ hk]
  exact ⟨w64_of (by omega) (by omega), w64_of (by omega) (by omega)⟩
theorem sum_eq {l : List api_Stitch} (h : allOk l) (hl : l.length ≤ 100000) : F_stitch_sum l = some (sm usedS l, sm madeS l) := by
  have key : ∃ t, whileO (stitch_sum_l1 l) (0, 0, 0) = some t ∧ t = (sm usedS l, sm madeS l) := by
    refine loop_at (σ := Unit) l.length (fun k _ => (sm usedS (l.take k), sm madeS (l.take k), (k : Int))) (fun _ _ => True) _ (s0 := ()) trivial ?_ ?_
    · intro k _ hk _
      refine .inl ⟨(), ?_, trivial⟩
      obtain ⟨f, f1, f2, f3⟩ := form_ok (h _ (List.getElem_mem hk))
      have hs := sum_step h hl hk
      unfold stitch_sum_l1
      simp only [dT (show (k : Int) < (l.length : Int) by omega), if_true, idxO_nat hk, Option.bind_some, f1, f2, f3, hs.1, hs.2, w64_succ (show k < 9223372036854775807 by omega)]
    · intro _ _
      refine ⟨_, ?_, rfl⟩
      unfold stitch_sum_l1
      simp only [dF (show ¬ (l.length : Int) < (l.length : Int) by omega), Bool.false_eq_true, if_false, List.take_length]
  obtain ⟨t, h1, rfl⟩ := key
  unfold F_stitch_sum
  rw [h1]; rfl
theorem rsums_eq {l : List api_Stitch} (h : allOk l) (hl : l.length ≤ 100000) : F_raddleref25_sums l = some (sm usedS l, sm madeS l) := by
  have key : ∃ t, whileO (raddleref25_sums_l1 l) (0, 0, 0) = some t ∧ t = (sm usedS l, sm madeS l) := by
    refine loop_at (σ := Unit) l.length (fun k _ => (sm usedS (l.take k), sm madeS (l.take k), (k : Int))) (fun _ _ => True) _ (s0 := ()) trivial ?_ ?_
    · intro k _ hk _
      refine .inl ⟨(), ?_, trivial⟩
      have hs := sum_step h hl hk
      unfold raddleref25_sums_l1
      simp only [dT (show (k : Int) < (l.length : Int) by omega), if_true, idxO_nat hk, Option.bind_some, rused_eq (h _ (List.getElem_mem hk)), rgives_eq (h _ (List.getElem_mem hk)), hs.1, hs.2, w64_succ (show k < 9223372036854775807 by omega)]
    · intro _ _
      refine ⟨_, ?_, rfl⟩
      unfold raddleref25_sums_l1
      simp only [dF (show ¬ (l.length : Int) < (l.length : Int) by omega), Bool.false_eq_true, if_false, List.take_length]
  obtain ⟨t, h1, rfl⟩ := key
  unfold F_raddleref25_sums
  rw [h1]; rfl
/-- the error of a list -/
def allS (l : List api_Stitch) : Int := if 200 < l.length then 4 else if allOk l then (if 200 < sm usedS l ∨ 200 < sm madeS l then 4 else 0) else 8
theorem allOk_range {l : List api_Stitch} : (List.range l.length).all (fun k => decide (okS (l.getD k ⟨0, false, 0, 0⟩))) = true ↔ allOk l := by
  rw [List.all_eq_true]
  constructor
  · intro h p hp
    obtain ⟨k, hk, rfl⟩ := List.getElem_of_mem hp
    have := h k (List.mem_range.2 hk)
    simpa [hk] using this
  · intro h k hk
    have hk := List.mem_range.1 hk
    have := h _ (List.getElem_mem hk)
    simpa [hk] using this
theorem getD_of {α : Type} {l : List α} {k : Nat} (d : α) (h : k < l.length) : l.getD k d = l[k] := by simp [h]
theorem find_bad {l : List api_Stitch} (hw : ∀ p, p ∈ l → wfS p) (hl : l.length ≤ 100000) : ∃ j, F_slices_IndexFunc___api_Stitch_api_Stitch__s0 l = some j ∧ (0 ≤ j ↔ ¬ allOk l) := by
  have key : ∃ t, whileO (slices_IndexFunc___api_Stitch_api_Stitch__s0_l1 l) 0 = some t ∧ ((t = .inr () ∧ allOk l) ∨ (∃ k : Nat, t = .inl (k : Int) ∧ ¬ allOk l)) := by
    refine loop_ix l.length (fun k => allOk (l.take k)) _ (fun p hp => by simp at hp) ?_ ?_
    · intro k hk hI
      have hc := check_eq l[k] (hw _ (List.getElem_mem hk))
      unfold slices_IndexFunc___api_Stitch_api_Stitch__s0_l1 F_stitch_All_1
      simp only [dT (show (k : Int) < (l.length : Int) by omega), if_true, idxO_nat hk, Option.bind_some, hc, w64_succ (show k < 9223372036854775807 by omega)]
      by_cases ho : okS l[k]
      · refine .inl ⟨by simp [ho], fun p hp => ?_⟩
        rw [List.take_succ_eq_append_getElem hk, List.mem_append] at hp
        rcases hp with hp | hp
        · exact hI p hp
        · simp at hp; subst hp; exact ho
      · exact .inr ⟨.inl (k : Int), by simp [ho], .inr ⟨k, rfl, fun h => ho (h _ (List.getElem_mem hk))⟩⟩
    · intro hI
      refine ⟨.inr (), ?_, .inl ⟨rfl, by simpa using hI⟩⟩
      unfold slices_IndexFunc___api_Stitch_api_Stitch__s0_l1
      simp only [dF (show ¬ (l.length : Int) < (l.length : Int) by omega), Bool.false_eq_true, if_false]
  obtain ⟨t, h1, h2⟩ := key
  unfold F_slices_IndexFunc___api_Stitch_api_Stitch__s0
  rw [h1]
  rcases h2 with ⟨rfl, h⟩ | ⟨k, rfl, h⟩
  · exact ⟨-1, rfl, by simp [h]⟩
  · exact ⟨(k : Int), rfl, by simp [h]⟩
theorem all_eq {l : List api_Stitch} (hw : ∀ p, p ∈ l → wfS p) : F_stitch_All l = some (allS l) := by
  unfold F_stitch_All allS
  by_cases hl : 200 < l.length
  · simp only [dT (show (200 : Int) < (l.length : Int) by omega), if_true, if_pos hl]
  simp only [dF (show ¬ (200 : Int) < (l.length : Int) by omega), Bool.false_eq_true, if_false, if_neg hl]
  obtain ⟨j, h1, h2⟩ := find_bad hw (by omega)
  unfold F_slices_ContainsFunc___api_Stitch_api_Stitch__s0
  rw [h1]
  by_cases ho : allOk l
  · have : ¬ 0 ≤ j := fun h => h2.1 h ho
    simp only [Option.bind_some, dF this, Bool.false_eq_true, if_false, sum_eq ho (show l.length ≤ 100000 by omega), if_pos ho]
    by_cases hm : 200 < sm usedS l ∨ 200 < sm madeS l
    · rw [dT (show (200 : Int) < if sm usedS l < sm madeS l then sm madeS l else sm usedS l by split <;> omega)]
      simp [hm]
    · rw [dF (show ¬ (200 : Int) < if sm usedS l < sm madeS l then sm madeS l else sm usedS l by split <;> omega)]
      simp [hm]
  · have : 0 ≤ j := h2.2 ho
    simp only [Option.bind_some, dT this, if_true, if_neg ho]
theorem rall_eq (l : List api_Stitch) : F_raddleref25_All l = some (allS l) := by
  unfold F_raddleref25_All allS
  by_cases hl : 200 < l.length
  · simp only [dT (show (200 : Int) < (l.length : Int) by omega), if_true, if_pos hl]
  simp only [dF (show ¬ (200 : Int) < (l.length : Int) by omega), Bool.false_eq_true, if_false, if_neg hl]
  have hloop : whileO (raddleref25_All_l1 l) 0 = some (if (List.range l.length).all (fun k => decide (okS (l.getD k ⟨0, false, 0, 0⟩))) = true then .inr () else .inl 8) := by
    refine loop_all l.length _ _ _ ?_ ?_
    · intro k hk
      unfold raddleref25_All_l1
      simp only [dT (show (k : Int) < (l.length : Int) by omega), if_true, idxO_nat hk, Option.bind_some, rstitch_eq, w64_succ (show k < 9223372036854775807 by omega), getD_of _ hk]
      by_cases ho : okS l[k] <;> simp [ho]
    · unfold raddleref25_All_l1
      simp only [dF (show ¬ (l.length : Int) < (l.length : Int) by omega), Bool.false_eq_true, if_false]
  rw [hloop]
  by_cases ho : allOk l
  · rw [if_pos (allOk_range.2 ho), if_pos ho]
    simp only [Option.bind_some, rsums_eq ho (show l.length ≤ 100000 by omega)]
    by_cases hu : 200 < sm usedS l
    · simp [hu]
    · by_cases hm : 200 < sm madeS l <;> simp [hu, hm]
  · rw [if_neg (fun h => ho (allOk_range.1 h)), if_neg ho]
    rfl
theorem allS_ok {l : List api_Stitch} (h : allS l = 0) : l.length ≤ 200 ∧ allOk l ∧ sm usedS l ≤ 200 ∧ sm madeS l ≤ 200 := by
  unfold allS at h
  split at h
  · omega
  · split at h
    · rename_i h1 h2
      split at h
      · omega
      · rename_i h3
        exact ⟨by omega, h2, by omega, by omega⟩
    · omega
def fin3 {σ τ : Type} (z0 : (σ ⊕ τ) ⊕ σ) : Option (σ ⊕ τ) := match z0 with
  | .inl z => some z
  | .inr g => some (.inl g)

end Go.Proofs.Yticjoiolfibmlaa
namespace Go.Proofs.Yticjoiolfibmlaa
open Go.RowKit
set_option linter.unusedVariables false

noncomputable def F_slices_Backward___api_Stitch_api_Stitch_ (p0 : (List api_Stitch)) : Option (List api_Stitch) :=
  some p0
def c_slices_Backward___api_Stitch_api_Stitch__val (r : (List api_Stitch)) (x : Value) : Value := .func (.func 73) #[] #[x]
def c_slices_Backward___api_Stitch_api_Stitch__D (r : (List api_Stitch)) (x : Value) : List Fact := [fPtr (rL r_api_Stitch) x r]
set_option maxHeartbeats 4000000 in
set_option maxRecDepth 100000 in
theorem c_slices_Backward___api_Stitch_api_Stitch_ (E : Nat → Prop) (w0 : World) (p0 : (List api_Stitch)) (v0 : Value) (r : (List api_Stitch)) (h : F_slices_Backward___api_Stitch_api_Stitch_ p0 = some r) (S : St0 E [] w0 w0 [] [fRep (rL r_api_Stitch) (v0) p0]) :
    Calls Try.prog 66 #[v0] w0 (Ret (X := Value) E [] w0 (c_slices_Backward___api_Stitch_api_Stitch__val r) (fun _ => []) (c_slices_Backward___api_Stitch_api_Stitch__D r)) := by
  unfold F_slices_Backward___api_Stitch_api_Stitch_ at h
  obtain ⟨ad1, cp2, _, rfl, _⟩ := S.know (i := 0) (e := fRep (rL r_api_Stitch) (v0) p0) rfl
  refine sEnter (args := [.slice ad1 p0.length cp2]) 4 Try.func66 rfl rfl (by simp) S (fun a S => ?_)
  refine sSeq (fun K3 hK3 => ?_)
  refine sRegion ?_
  refine sBox (v := .slice ad1 p0.length cp2) S (wN rfl) rfl rfl [.slice ad1 p0.length cp2] rfl rfl (lb rfl) fun a b4 w S => ?_
  refine sMove (.nilFunc) S (wN rfl) (.inr rfl) rfl rfl (lb rfl) fun a S => ?_
  refine leafL (leafT (hK3 _ _ ?_))
  refine sSeq (fun K5 hK5 => ?_)
  refine sRegion ?_
  refine sFunc (g := 73) (vs := [.pointer (some ⟨b4, 0, none⟩)]) S (wN rfl) rfl rfl rfl (lb rfl) fun a S => ?_
  refine sMove (.func (.func 73) #[] #[.pointer (some ⟨b4, 0, none⟩)]) S (wN rfl) (.inr rfl) rfl rfl (lb rfl) fun a S => ?_
  refine leafL (leafT (hK5 _ _ ?_))
  have S := S.shutB (r := (rL r_api_Stitch)) (T := 62) (b := b4) (cs := [.slice ad1 p0.length cp2]) 0 (.slice ad1 p0.length cp2) p0 rfl rfl (S.mem.know (i := 0) (e := fRep (rL r_api_Stitch) (.slice ad1 p0.length cp2) p0) rfl)
  obtain rfl := Option.some.inj h
  exact wp_ret (sRet (.func (.func 73) #[] #[.pointer (some ⟨b4, 0, none⟩)]) S (rsl1 rfl (rvT (t := 2) (v := .func (.func 73) #[] #[.pointer (some ⟨b4, 0, none⟩)]) S rfl)) ⟨(.pointer (some ⟨b4, 0, none⟩)), rfl, S.mem.sel [] [0] (by decide) rfl rfl⟩)

end Go.Proofs.Yticjoiolfibmlaa
namespace Go.Proofs.Yticjoiolfibmlaa
open Go.RowKit
set_option linter.unusedVariables false

noncomputable def slices_Backward___api_Stitch_api_Stitch__1_l1 {σ τ : Type} (p0 : (List api_Stitch)) (B : σ → (Int × api_Stitch) → Option (σ ⊕ τ)) : (Int × σ) → Option ((Int × σ) ⊕ ((σ ⊕ τ) ⊕ (σ))) := fun s0 => match s0 with
  | (s5, gz6) =>
    if decide (0 ≤ s5) then
      Option.bind (idxO p0 s5) fun x20 =>
      Option.bind (B gz6 (s5, x20)) fun y25 =>
      match y25 with
      | .inl gz27 =>
        some (.inl (w64 (s5 - 1), gz27))
      | .inr tz28 =>
        some (.inr (.inl (.inr tz28)))
    else
      some (.inr (.inr gz6))
noncomputable def I_slices_Backward___api_Stitch_api_Stitch__1 (p0 : (List api_Stitch)) (σ τ : Type) (B : σ → (Int × api_Stitch) → Option (σ ⊕ τ)) (gz0 : σ) : Option (σ ⊕ τ) :=
  Option.bind (whileO (slices_Backward___api_Stitch_api_Stitch__1_l1 p0 B) (w64 ((p0.length : Int) - 1), gz0)) fun z0 => match z0 with
    | .inl z =>
      some z
    | .inr gz10 =>
      some (.inl gz10)
set_option maxHeartbeats 4000000 in
set_option maxRecDepth 100000 in
theorem it_slices_Backward___api_Stitch_api_Stitch__1 (p0 : (List api_Stitch)) (v0 : Value) : SeqF Try.prog 73 #[v0] (fA2 (rI .i64) r_api_Stitch) (I_slices_Backward___api_Stitch_api_Stitch__1 p0) [fPtr (rL r_api_Stitch) (v0) p0] := by
  refine seqF_of (lb := [v0]) (fun σ τ B gz0 r h l J Jx E w0 hC S hJ => ?_)
  unfold I_slices_Backward___api_Stitch_api_Stitch__1 at h
  refine sEnterI (args := [.func (.yield l) #[] #[], v0]) 19 Try.func73 rfl rfl (by simp) S (fun a S => ?_)
  refine sSeq (fun K1 hK1 => ?_)
  refine sRegion ?_
  obtain ⟨u2, S⟩ := pLoad (r := (rL r_api_Stitch)) (q := v0) (x := p0) 0 S rfl
  obtain ⟨ad3, cp4, _, rfl, _⟩ := S.mem.know (i := 1) (e := fRep (rL r_api_Stitch) (u2) p0) rfl
  refine sLoadV1 (vq := v0) 0 (.slice ad3 p0.length cp4) S (wN rfl) rfl rfl rfl rfl rfl (lb rfl) fun a S => ?_
  refine sLen (ad := ad3) (m := p0.length) (c := cp4) S (wN rfl) rfl Try.underlying62 rfl rfl (lb rfl) fun a S => ?_
  refine sBin (iv (w64 ((p0.length : Int) - 1))) S (wN rfl) rfl rfl rfl (bSub _ _ _ _ (p0.length : Int) 1) rfl (lb rfl) fun a S => ?_
  refine sMove (iv (w64 ((p0.length : Int) - 1))) S (wN rfl) (.inr rfl) rfl rfl (lb rfl) fun a S => ?_
  refine leafL (leafT (hK1 _ _ ?_))
  refine wp_block ?_
  obtain ⟨t9, hl, g8⟩ := bindSome h
  refine sLoop hl (fun s0 a w => match s0 with | (s5, gz6) => ∃ E w0, J gz6 E w0 ∧ St [] E [] w0 19 a w [(0, .func (.yield l) #[] #[]), (1, v0), (3, iv s5)] [] [fPtr (rL r_api_Stitch) (v0) p0]) ⟨_, _, hJ, S.fix [] [2] (by decide) rfl rfl rfl⟩ ?_
  clear hl h
  intro s0 a w c0 hI h hu7
  obtain ⟨s5, gz6⟩ := s0
  unfold slices_Backward___api_Stitch_api_Stitch__1_l1 at h
  dsimp only at h hI
  obtain ⟨E, w0, hJ, S⟩ := hI
  refine sSeq (fun K11 hK11 => ?_)
  refine sSeq (fun K12 hK12 => ?_)
  refine sRegion ?_
  refine sMove (iv s5) S (wN rfl) (.inl rfl) rfl rfl (lb rfl) fun a S => ?_
  refine sBin (.bool (decide (0 ≤ s5))) S (wN rfl) rfl rfl rfl (bGe _ _ _ _ .i64 s5 0) rfl (lb rfl) fun a S => ?_
  refine leafL (leafT (hK12 _ _ ?_))
  rcases iteSome h with ⟨hc13, h⟩ | ⟨hc13, h⟩
  rotate_left
  · refine sCondF S rfl hc13 ?_
    obtain rfl := Option.some.inj h
    obtain rfl := hu7 _ rfl
    have h := g8
    clear g8
    try dsimp only at h
    exact wp_exit (xThen (xThen (xHit (sEnd (.tuple #[]) S (res0 rfl) (sGoI S hC hJ (Option.some.inj h) _)))))
  refine sCondT S rfl hc13 ?_
  refine wp_skip (leafT (hK11 _ _ ?_))
  refine sSeq (fun K14 hK14 => ?_)
  refine wp_block ?_
  refine sSeq (fun K15 hK15 => ?_)
  refine sRegionY ?_
  refine sSplitR (by repeat (first | exact roundU_out | exact it_out | exact lo_false | refine lo_then ?_ | refine lo_block ?_)) 6 rfl (fun K16 hK16 => ?_)
  refine sMove (.func (.yield l) #[] #[]) S (wN rfl) (.inl rfl) rfl rfl (lb rfl) fun a S => ?_
  refine sMove (iv s5) S (wN rfl) (.inl rfl) rfl rfl (lb rfl) fun a S => ?_
  obtain ⟨u17, S⟩ := pLoad (r := (rL r_api_Stitch)) (q := v0) (x := p0) 0 S rfl
  obtain ⟨ad18, cp19, _, rfl, _⟩ := S.mem.know (i := 1) (e := fRep (rL r_api_Stitch) (u17) p0) rfl
  refine sLoadV1 (vq := v0) 0 (.slice ad18 p0.length cp19) S (wN rfl) rfl rfl rfl rfl rfl (lb rfl) fun a S => ?_
  refine sMove (iv s5) S (wN rfl) (.inl rfl) rfl rfl (lb rfl) fun a S => ?_
  obtain ⟨x20, hx21, h⟩ := bindSome h
  obtain ⟨q22, hq23, S⟩ := pIdx (P := Try.prog) (r := r_api_Stitch) (v := .slice ad18 p0.length cp19) (xs := p0) (j := s5) 62 61 1 S Try.underlying62 rfl rfl hx21
  refine sIdxV (v := .slice ad18 p0.length cp19) (k := .i64) (j := s5) S (wN rfl) rfl rfl rfl hq23 rfl (lb rfl) fun a S => ?_
  obtain ⟨u24, S⟩ := pLoad (r := r_api_Stitch) (q := q22) (x := x20) 0 S rfl
  obtain rfl : u24 = .agg #[.int .u8 x20.Kind, .bool x20.Purl, iv x20.A, iv x20.B] := S.mem.know (i := 1) (e := fRep r_api_Stitch (u24) x20) rfl
  refine sLoadVN (vq := q22) 0 [.int .u8 x20.Kind, .bool x20.Purl, iv x20.A, iv x20.B] S (wN rfl) rfl rfl rfl rfl rfl rfl (lb rfl) fun a S => ?_
  refine leafL ⟨rfl, hK16 _ _ ?_⟩
  obtain ⟨y25, hy26, h⟩ := bindSome h
  refine sYieldI (s5, x20) [iv s5, .agg #[.int .u8 x20.Kind, .bool x20.Purl, iv x20.A, iv x20.B]] S hC hJ hy26 (fA2_mk (rfl) (S.mem.know (i := 1) (e := fRep r_api_Stitch (.agg #[.int .u8 x20.Kind, .bool x20.Purl, iv x20.A, iv x20.B]) x20) rfl)) (wN rfl) rfl rfl rfl rfl (by decide) (fun gz27 E a w hb hJ S => ?_) (fun tz28 a w hb hJ S => ?_)
  · obtain rfl := hb
    dsimp only at h
    refine list_inR (by repeat (first | exact roundU_out | exact it_out | exact lo_false | refine lo_then ?_ | refine lo_block ?_)) _ rfl _ _ ?_
    refine sNot (b := true) S (wN rfl) rfl rfl rfl (lb rfl) fun a S => ?_
    refine leafL (leafT (hK15 _ _ ?_))
    refine sCondF S rfl rfl ?_
    refine wp_skip (leafB (leafT (hK14 _ _ ?_)))
    refine sRegion ?_
    refine sMove (iv s5) S (wN rfl) (.inl rfl) rfl rfl (lb rfl) fun a S => ?_
    refine sBin (iv (w64 (s5 - 1))) S (wN rfl) rfl rfl rfl (bSub _ _ _ _ s5 1) rfl (lb rfl) fun a S => ?_
    refine sMove (iv (w64 (s5 - 1))) S (wN rfl) (.inr rfl) rfl rfl (lb rfl) fun a S => ?_
    exact leafL (leafT (⟨(w64 (s5 - 1), gz27), (Option.some.inj h).symm, ⟨_, _, hJ, S.fix [] [5] (by decide) rfl rfl rfl⟩⟩))
  · obtain rfl := hb
    dsimp only at h
    refine list_inR (by repeat (first | exact roundU_out | exact it_out | exact lo_false | refine lo_then ?_ | refine lo_block ?_)) _ rfl _ _ ?_
    refine sNot (b := false) S (wN rfl) rfl rfl rfl (lb rfl) fun a S => ?_
    refine leafL (leafT (hK15 _ _ ?_))
    refine sCondT S rfl rfl ?_
    obtain rfl := Option.some.inj h
    obtain rfl := hu7 _ rfl
    have h := g8
    clear g8
    try dsimp only at h
    exact wp_ret (rBlock (rThen (rThen (rBlock (sRet (.tuple #[]) S (res0 rfl) (sStopI S hC hJ (Option.some.inj h) _))))))

end Go.Proofs.Yticjoiolfibmlaa
