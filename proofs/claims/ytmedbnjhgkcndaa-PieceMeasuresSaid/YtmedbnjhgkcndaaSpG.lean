/- Append, make, literals, slices, calls, returns. -/
import Derived.Great.BuildSlice
import Derived.Test.YtmedbnjhgkcndaaSpF
namespace Go.Proofs.Ytmedbnjhgkcndaa
open Go.RowKit
set_option linter.unusedVariables false
set_option linter.unusedSimpArgs false

section
variable {P : Program} {E : Nat → Prop} {M : List Nat} {w0 : World} {n : Nat} {a : Act} {w : World} {F : List (Nat × Value)} {L : List Ent} {D : List Fact} {Q : Exit → Act → World → Prop}
variable {ops : Array Oper} {rest : List Oper} {o : Oper} {d : Nat}

/-- what can be appended: cells that read as ys -/
def Src {α : Type} (r : R α) (E : Nat → Prop) (w : World) (s : Value) (ys : List α) : Prop :=
  ∃ ad c us, s = .slice ad ys.length c ∧ All r E w us ys ∧ ∀ k u, (flat us)[k]? = some u → ∃ b off, ad = some ⟨b, off, none⟩ ∧ w.cell? ⟨b, off + k, none⟩ = some u
theorem src_D {α : Type} {r : R α} {s : Value} {ys : List α} (i : Nat) (S : St0 E M w0 w L D) (h : D[i]? = some (fRep (rL r) s ys)) : Src r (tot E L) w s ys := by
  obtain ⟨ad, c, us, hs, _, _, ha, hc⟩ := S.know h
  exact ⟨ad, c, us, hs, ha, fun k u hu => by obtain ⟨b, off, h1, _, _, h4⟩ := hc k u hu; exact ⟨b, off, h1, h4⟩⟩
theorem src_R {α : Type} {r : R α} {T : TypeId} {s : Value} {ys : List α} (i : Nat) (S : St0 E M w0 w L D) (h : L[i]? = some (eRow r T s ys)) : Src r (tot E L) w s ys := by
  obtain ⟨us, ha, _, hown⟩ := S.at h
  rcases hown.2 with ⟨h1, h0⟩ | ⟨g, cap, cur, hv, hb, hg, hnc, hcm, hcs, htake⟩
  · refine ⟨none, 0, us, by rw [h1, h0], ha, fun k u hu => ?_⟩
    have : us = [] := by have := ha.1; rw [h0] at this; exact List.eq_nil_of_length_eq_zero this
    subst this
    simp [flat] at hu
  · subst hv
    refine ⟨_, cap, us, rfl, ha, fun k u hu => ⟨g, 0, rfl, ?_⟩⟩
    have hk : k < ys.length * r.sz := by
      have := (List.getElem?_eq_some_iff.1 hu).1
      rw [flat_length (fun v hv => (ha.cells v hv).1), ha.1] at this
      exact this
    rw [Nat.zero_add, hown.cellAt k hk]
    exact hu
theorem sApp {α : Type} {r : R α} {T t : TypeId} {xs ys zs : List α} {s x : Operand} {v u : Value} (i : Nat) (z : Value) (bytes : Nat) (S : St E M w0 n a w F L D)
    (hw : ∀ a, Frm n a F → Region.wanted o (yielded ops a.tmps) = true) (ho : o.op = .call { callee := .builtin .append, args := #[s, x], argTypes := #[t, t] })
    (ht : P.underlying t = some (.slice T)) (hinfo : (P.info? T).map (fun i => (i.zero, i.size, i.bytes)) = some (some z, r.sz, bytes)) (hz : z.cells.size = r.sz) (hby : bytes ≤ 2048)
    (hs : lookO F s = some v) (hx : lookO F x = some u) (hL : L[i]? = some (eRow r T v xs)) (hsrc : Src r (tot E L) w u ys) (hap : appO xs ys = some zs) (hd : o.dst = some d) (hn : d < n)
    (k : ∀ a w ad c, St E M w0 n a w ((d, .slice ad zs.length c) :: F) (eRow r T (.slice ad zs.length c) zs :: L.eraseIdx i) D → wpList P ops Q rest a w) : wpList P ops Q (o :: rest) a w := by
  obtain ⟨hlim, rfl⟩ := appO_some hap
  obtain ⟨vs, ha, _, hown⟩ := S.mem.at hL
  obtain ⟨ad, c, us, rfl, hus, hcell⟩ := hsrc
  have hes := S.frm.eval hs
  have hex := S.frm.eval hx
  obtain ⟨ie, hi, hzi, hsize, hbytes⟩ := info_parts hinfo
  have hsmall : (xs.length + ys.length) * bytes ≤ 140737488355328 := Nat.le_trans (Nat.mul_le_mul hlim hby) (by decide)
  have hfl : (flat us).length = ys.length * r.sz := by rw [flat_length (fun v hv => (hus.cells v hv).1), hus.1]
  have hone : ∀ c, c ∈ flat us → c.oneCell' = true := flat_one (fun v hv => (hus.cells v hv).2)
  have hmain : ∃ v' w', (Builtin.append_ #[t, t] o.type #[v, .slice ad ys.length c]).run P w = .ok v' w' ∧ w'.ownsRow 0 T r.sz v' (xs.length + ys.length) (flat vs ++ flat us) ∧ w.grownBy w' v.ownBlock ∧
      (v'.ownBlock = v.ownBlock ∨ v'.ownBlock = some w.heap.size) := by
    cases ad with
    | some b =>
      obtain ⟨v', w', h1, h2, h3, _, h5⟩ := run_append_own_at (P := P) w 0 t o.type T ie z r.sz bytes ht hi hzi hsize hbytes hz r.pos v xs.length (flat vs) hown b ys.length c (flat us) hfl (fun j u hu => by
        obtain ⟨b', off, e1, h4⟩ := hcell j u hu
        cases e1
        rw [add_addr]; exact h4) hone (by unfold maxLen; omega) hsmall (Nat.zero_le _)
      exact ⟨v', w', h1, h2, h3, h5⟩
    | none =>
      have hm : ys.length = 0 := by
        rcases Nat.eq_zero_or_pos ys.length with h | h
        · exact h
        · have : 0 < (flat us).length := by rw [hfl]; exact Nat.mul_pos h r.pos
          obtain ⟨b, off, e, _⟩ := hcell 0 _ (List.getElem?_eq_getElem this)
          cases e
      have hu0 : flat us = [] := List.eq_nil_of_length_eq_zero (by rw [hfl, hm, Nat.zero_mul])
      rw [hm, hu0]
      refine ⟨v, w, ?_, by simpa using hown, World.grownBy.refl _ _, .inl rfl⟩
      rcases hown.2 with ⟨rfl, h0⟩ | ⟨g, cap, cur, rfl, hbg, hg, hnc, hcm, hcs, htake⟩
      · simp [Builtin.append_, run_underlying ht, sizeOf, typeInfo, hi, Builtin.lenOf, Builtin.firstCells]
      · simp [Builtin.append_, run_underlying ht, sizeOf, typeInfo, hi, Builtin.lenOf, Builtin.firstCells, hnc, storeCells]
  obtain ⟨v', w', hr, h2, h3, h4⟩ := hmain
  obtain ⟨ad', c', rfl⟩ : ∃ ad' c', v' = .slice ad' (xs ++ ys).length c' := by
    rcases h2.2 with ⟨rfl, h0⟩ | ⟨g, cap, cur, rfl, _⟩
    · exact ⟨none, 0, by rw [List.length_append, h0]⟩
    · exact ⟨_, _, by rw [List.length_append]⟩
  have hvk : ∀ k, v.ownBlock = some k → k ∈ (eRow r T v xs).keys := by
    intro k hk
    cases v <;> simp [Value.ownBlock] at hk
    rename_i a1 _ _
    cases a1 with
    | none => simp at hk
    | some a1 => simp at hk; simp [eRow, vkeys, hk]
  have hchg : Chg (eRow r T v xs).keys w w' := Chg.grown h3 hvk
  have hkeys : ∀ b, b ∈ (eRow r T (.slice ad' (xs ++ ys).length c') (xs ++ ys)).keys → b ∈ (eRow r T v xs).keys ∨ w.heap.size ≤ b := by
    intro b hb
    cases ad' with
    | none => simp [eRow, vkeys] at hb
    | some a1 =>
      simp [eRow, vkeys] at hb
      subst hb
      rcases h4 with h4 | h4
      · exact .inl (hvk _ (by rw [← h4]; rfl))
      · simp [Value.ownBlock] at h4; exact .inr (by omega)
  have hext : Ext (tot E L) (tot E (eRow r T (.slice ad' (xs ++ ys).length c') (xs ++ ys) :: L.eraseIdx i)) w w' := by
    refine ⟨hchg.size, fun b hb hn => hchg.block b hb (fun e => hn (.inr (keysL_mem.2 ⟨_, List.mem_of_getElem? hL, e⟩))), fun b hb h => ?_⟩
    rcases h with h | h
    · exact .inl h
    · obtain ⟨e, h5, h6⟩ := keysL_mem.1 h
      rcases List.mem_cons.1 h5 with rfl | h5
      · rcases hkeys b h6 with h7 | h7
        · exact .inr (keysL_mem.2 ⟨_, List.mem_of_getElem? hL, h7⟩)
        · omega
      · exact .inr (keysL_mem.2 ⟨e, List.mem_of_mem_eraseIdx h5, h6⟩)
  refine sVal S hw hd hn (w' := w') (v := .slice ad' (xs ++ ys).length c') ?_ (S.mem.put hL (eRow r T (.slice ad' (xs ++ ys).length c') (xs ++ ys)) hchg hkeys (by cases ad' <;> simp [eRow, vkeys]) ?_) (fun a => k a _ ad' c')
  · unfold execOp
    simp only [ho, resolve, invoke, builtin, Sem.run_bind, Sem.run_pure, Result.andThen_ok, List.map_toArray, List.map_cons, List.map_nil, hes, hex, hr]
  · refine ⟨vs ++ us, (ha.mono hext).append (hus.mono hext), by rw [List.length_append]; exact hlim, ?_⟩
    rw [flat_append, List.length_append]
    rw [List.length_append] at h2
    exact h2

/-- an empty row, from nil -/
theorem St.nilRow {α : Type} (r : R α) (T : TypeId) (S : St E M w0 n a w F L D) : St E M w0 n a w F (eRow r T (.slice none 0 0) ([] : List α) :: L) D := by
  have hk : keysL (eRow r T (.slice none 0 0) ([] : List α) :: L) = keysL L := by simp [keysL, eRow, vkeys]
  have hE : tot E (eRow r T (.slice none 0 0) ([] : List α) :: L) = tot E L := by unfold tot; rw [hk]
  refine ⟨S.frm, S.mem.chg, fun e he => ?_, fun x hx => by rw [hE]; exact S.mem.fact x hx, by rw [hk]; exact S.mem.nodup, by rw [hk]; exact S.mem.key, S.mem.bnd⟩
  rcases List.mem_cons.1 he with rfl | he
  · exact ⟨[], All.nil _ _ _, by simp, World.ownsRow_nil w 0 T r.sz⟩
  · rw [hE]; exact S.mem.ent e he
/-- a row of one's own becomes something that is read -/
theorem St0.shutR {α : Type} {r : R α} {T : TypeId} {v : Value} {xs : List α} (i : Nat) (S : St0 E M w0 w L D) (hi : L[i]? = some (eRow r T v xs)) : St0 E M w0 w (L.eraseIdx i) (fRep (rL r) v xs :: D) := by
  have hperm := erase_perm hi
  have hn := keysL_perm hperm S.nodup
  have S1 := S.sub (L' := L.eraseIdx i) (D' := D) (fun e he => List.mem_of_mem_eraseIdx he) (nodup_sub (List.eraseIdx_sublist _ _) S.nodup) (fun _ h => h)
  obtain ⟨us, ha, hl, hown⟩ := S.at hi
  have hext : Ext (tot E L) (tot E (L.eraseIdx i)) w w := ⟨Nat.le_refl _, fun _ _ _ => rfl, fun b _ h => h.imp id (fun h => by
    obtain ⟨e, h1, h2⟩ := keysL_mem.1 h
    exact keysL_mem.2 ⟨e, List.mem_of_mem_eraseIdx h1, h2⟩)⟩
  refine S1.learn _ ?_
  obtain ⟨ad, c, us', hs, ha', hc⟩ := src_R i S hi
  rcases hown.2 with ⟨h1, h0⟩ | ⟨g, cap, cur, hv, hb, hg, hnc, hcm, hcs, htake⟩
  · refine ⟨ad, c, us', hs, ?_, by omega, ha'.mono hext, fun k u hu => ?_⟩
    · rw [h0]; exact Nat.zero_le _
    · obtain ⟨b, off, e1, _⟩ := hc k u hu
      rw [h1, e1] at hs
      cases hs
  · refine ⟨ad, c, us', hs, ?_, by omega, ha'.mono hext, fun k u hu => ?_⟩
    · rw [hv] at hs; cases hs; exact hnc
    · obtain ⟨b, off, e1, h4⟩ := hc k u hu
      rw [hv, e1] at hs
      cases hs
      refine ⟨g, 0, e1, ?_, (Array.getElem?_eq_some_iff.1 hg).1, h4⟩
      have hmem : g ∈ (eRow r T v xs).keys := by simp [eRow, vkeys, hv]
      intro h
      rcases h with h | h
      · exact (S.key g (keysL_mem.2 ⟨_, List.mem_of_getElem? hi, hmem⟩)).2 h
      · simp only [keysL, List.map_cons, List.flatten_cons, List.nodup_append] at hn
        exact hn.2.2 g hmem g h rfl
theorem St.shutR {α : Type} {r : R α} {T : TypeId} {v : Value} {xs : List α} (i : Nat) (S : St E M w0 n a w F L D) (hi : L[i]? = some (eRow r T v xs)) : St E M w0 n a w F (L.eraseIdx i) (fRep (rL r) v xs :: D) := ⟨S.frm, S.mem.shutR i hi⟩

/-- make -/
theorem sMake {α : Type} {r : R α} {T t : TypeId} {l c : Operand} {xs : List α} {m : Int} (z : Value) (zx : α) (bytes : Nat) (S : St E M w0 n a w F L D)
    (hw : ∀ a, Frm n a F → Region.wanted o (yielded ops a.tmps) = true) (ho : o.op = .makeSlice t l c) (ht : P.underlying t = some (.slice T)) (hinfo : (P.info? T).map (fun i => (i.zero, i.size, i.bytes)) = some (some z, r.sz, bytes)) (hz : z.cells = #[z]) (hby : bytes ≤ 2048) (hzx : ∀ E w, r.rep E w z zx)
    (hl : lookO F l = some (.int .i64 m)) (hc : lookO F c = some (.int .i64 m)) (hm : makeO m zx = some xs) (hd : o.dst = some d) (hn : d < n)
    (k : ∀ a w ad c, St E M w0 n a w ((d, .slice ad xs.length c) :: F) (eRow r T (.slice ad xs.length c) xs :: L) D → wpList P ops Q rest a w) : wpList P ops Q (o :: rest) a w := by
  obtain ⟨q, rfl, hq, rfl⟩ := makeO_some hm
  have hel := S.frm.eval hl
  have hec := S.frm.eval hc
  obtain ⟨ie, hi, hzi, hsize, hbytes⟩ := info_parts hinfo
  have hs1 : r.sz = 1 := by have := r.size (hzx (fun _ => False) w); rw [hz] at this; simpa using this.symm
  obtain ⟨w', hr, h2, h3⟩ := run_make_full (P := P) w 0 t T ie z r.sz ht hi hzi hsize .i64 .i64 q (by rw [hbytes]; exact Nat.le_trans (Nat.mul_le_mul hby hq) (by decide)) (by unfold maxLen; omega) (Nat.zero_le _)
  have hfl : flat (List.replicate q z) = (madeCells z.cells (q * r.sz)).toList := by
    rw [hz, toList_madeCells_one, hs1, Nat.mul_one]
    simp [flat, hz]
  rw [← hfl] at h2
  have hAll : ∀ E w, All r E w (List.replicate q z) (List.replicate q zx) := fun E w => ⟨by simp, fun k v x hv hx => by
    rw [List.getElem?_replicate] at hv hx
    split at hv
    · rename_i hk
      rw [if_pos hk] at hx
      cases hv; cases hx; exact hzx E w
    · cases hv⟩
  have hgr : Chg [] w w' := Chg.grown h3 (by simp)
  have hsz : w'.heap.size > w.heap.size := by
    rcases h2.2 with ⟨h, _⟩ | ⟨g, cap, cur, h, _, hg, _⟩
    · cases h
    · cases h; exact (Array.getElem?_eq_some_iff.1 hg).1
  have hE : tot (tot E L) [eRow r T (.slice (some ⟨w.heap.size, 0, none⟩) q q) (List.replicate q zx)] = tot E (eRow r T (.slice (some ⟨w.heap.size, 0, none⟩) q q) (List.replicate q zx) :: L) := by
    funext b
    simp only [tot, keysL, List.map_cons, List.flatten_cons, List.map_nil, List.flatten_nil, List.append_nil, List.mem_append]
    exact propext ⟨fun h => by rcases h with (h | h) | h; exact .inl h; exact .inr (.inr h); exact .inr (.inl h), fun h => by rcases h with h | h | h; exact .inl (.inl h); exact .inr h; exact .inl (.inr h)⟩
  have S' : St0 E M w0 w' (eRow r T (.slice (some ⟨w.heap.size, 0, none⟩) q q) (List.replicate q zx) :: L) D := by
    have := St0.upd (B := []) (Rs := L) S.mem (by simpa [keysL] using hgr) [eRow r T (.slice (some ⟨w.heap.size, 0, none⟩) q q) (List.replicate q zx)] [] ⟨by simpa [keysL] using hgr, by
      intro e he
      simp at he; subst he
      exact ⟨List.replicate q z, hAll _ _, by simpa using hq, by simpa using h2⟩, by simp, by simp [keysL, eRow, vkeys], by
        intro b hb
        simp [keysL, eRow, vkeys] at hb
        subst hb
        refine ⟨.inl (Nat.le_refl _), fun h => ?_⟩
        rcases h with h | h
        · exact absurd (S.mem.bnd _ h) (by have := S.mem.chg.size; omega)
        · exact absurd (S.mem.lt _ h) (by omega), by
        intro b hb
        rcases hb with h | h
        · exact Nat.lt_of_lt_of_le (S.mem.bnd b h) S.mem.chg.size
        · exact S.mem.lt b h⟩
    simpa using this
  refine sVal S hw hd hn (w' := w') (v := .slice (some ⟨w.heap.size, 0, none⟩) q q) ?_ S' (fun a Sa => k a w' (some ⟨w.heap.size, 0, none⟩) q (by simpa using Sa))
  simp only [execOp, ho, hel, hec, Sem.run_bind, hr, Result.andThen_ok, Sem.run_pure]
/-- a slice literal; make with length 0 -/
theorem sNewRow {α : Type} {r : R α} {T : TypeId} {xs : List α} (m : Nat) (us : List Value) (cs : List Value) (S : St E M w0 n a w F L D)
    (hw : ∀ a, Frm n a F → Region.wanted o (yielded ops a.tmps) = true) (hrun : ∀ (a : Act), Frm n a F → (execOp a.eval o).run P w = .ok (.value (.slice (some ⟨w.heap.size, 0, none⟩) m m)) (w.alloc (.cells cs.toArray T)))
    (hxs : xs.length = m) (hus : ∀ E' w', Ext (tot E L) E' w w' → All r E' w' us xs) (hcs : flat us = cs) (hm : m ≤ 68719476736) (hd : o.dst = some d) (hn : d < n)
    (k : ∀ a w ad c, St E M w0 n a w ((d, .slice ad xs.length c) :: F) (eRow r T (.slice ad xs.length c) xs :: L) D → wpList P ops Q rest a w) : wpList P ops Q (o :: rest) a w := by
  subst hxs
  have hext : Ext (tot E L) (tot E (eRow r T (.slice (some ⟨w.heap.size, 0, none⟩) xs.length xs.length) xs :: L)) w (w.alloc (.cells cs.toArray T)) := by
    refine ⟨by simp, fun b hb _ => heap_alloc_old w _ hb, fun b hb h => ?_⟩
    rcases h with h | h
    · exact .inl h
    · refine .inr ?_
      simp only [keysL, List.map_cons, List.flatten_cons, eRow, vkeys, List.mem_append, List.mem_singleton] at h
      rcases h with h | h
      · omega
      · exact h
  have hA := hus _ _ hext
  refine sVal S hw hd hn (hrun a S.frm) (S.mem.new _ (eRow r T (.slice (some ⟨w.heap.size, 0, none⟩) xs.length xs.length) xs) rfl ?_) (fun a => k a _ _ _)
  refine ⟨us, hA, hm, ?_⟩
  have hfl := flat_length (fun v hv => (hA.cells v hv).1)
  rw [hA.1] at hfl
  rw [hcs] at hfl ⊢
  have := World.ownsRow_lit (base := 0) (e := T) (size := r.sz) w cs.toArray xs.length (Nat.zero_le _) (by unfold maxLen; omega) (by simpa using hfl)
  simpa using this
end

end Go.Proofs.Ytmedbnjhgkcndaa
