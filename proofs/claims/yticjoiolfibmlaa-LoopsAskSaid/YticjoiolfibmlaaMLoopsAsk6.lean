/- Several texts in one: PlLr G32 G10 G18 G17 G19 G3 PlLq G22 G23 G50 G37 G24 G38 G25 G5 PlLa LLA FrLoopsAsk -/
import Derived.WalkKit
import Derived.Maps.AppendAt
import Derived.Deep.AppendLies
import Derived.KernelRfl
import Derived.Laws.OwnMore
import Derived.Great.BuildSlice
import Derived.Orders
import Derived.Laws.StructEq
import Derived.ChangeKeysEq
import Derived.Defers
import Derived.Laws.BytesString
import Derived.RangeFuncNested
import Derived.RangeFuncBound
import Derived.RangeFuncCalls
import Derived.RangeFuncLeaves
import Derived.OrdersIn
import Derived.LoopNIn
import Derived.ArgAppend
import Derived.Lib.AppendZeros
import Derived.Test.YticjoiolfibmlaaProg
import Derived.ProofKit
import Derived.OpenShut
import Derived.ChangeOld
import Derived.Deep.Slices
import Derived.Lib.SmallJoins
import Derived.JoinedOf
import Derived.JoinedAt
import Derived.Below
import Derived.Test.YticjoiolfibmlaaRows
import Derived.Test.YticjoiolfibmlaaMLoopsAsk5
namespace Go.Proofs.Yticjoiolfibmlaa
open Go.RowKit
set_option linter.unusedVariables false

theorem rput_eq (p : raddleref27_Piece) (R K : Int) (q : List Int) (b : Bool) (h : p.Loops.length ≤ 1000000) : F_raddleref27_Piece_put_s1 p R K q b = some ⟨p.Loops ++ [⟨R, K, q, b⟩], p.Bound, p.Cross, p.Rows⟩ := by
  unfold F_raddleref27_Piece_put_s1
  rw [appO_of (by simp; omega)]; rfl
theorem rcell_eq {p : raddleref27_Piece} {s : api_Stitch} (R K u : Nat) (h : okS s) (hl : p.Loops.length ≤ 100000) (hb : p.Bound.length ≤ 100000) (hx : p.Cross.length ≤ 900000) (hul : u + uN s ≤ p.Loops.length) :
    F_raddleref27_Piece_cell_s1 p (R : Int) (K : Int) s (ups u (uN s)) = some ⟨p.Loops ++ mkL R K (side p.Loops s u) (pars s u), p.Bound ++ offB s u, p.Cross ++ crs s p.Loops.length, p.Rows⟩ := by
  unfold F_raddleref27_Piece_cell_s1
  rcases knd h with ⟨b, rfl⟩ | ⟨b, rfl⟩ | rfl | ⟨b, a, h1, h2, rfl⟩ | ⟨b, a, h1, h2, rfl⟩ | ⟨b, a, h1, h2, rfl⟩ | ⟨k, b, a, c, hk, h1, h2, h3, h4, rfl⟩ | ⟨a, h1, h2, rfl⟩ | ⟨b, a, h1, h2, rfl⟩
  · have e : uN ⟨1, b, 0, 0⟩ = 1 := by simp [uN, usedS]
    rw [e]
    simp only [show ((1 : Int) == 1) = true from rfl, if_true]
    rw [show idxO (ups u 1) 0 = some ((u : Nat) : Int) from rfl, Option.bind_some, rput_eq _ _ _ _ _ (by omega), Option.bind_some]
    simp [mkL, pars, offB, crs, side]
  · have e : uN ⟨8, b, 0, 0⟩ = 1 := by simp [uN, usedS]
    rw [e] at hul ⊢
    have hlt : u < p.Loops.length := by omega
    simp only [show ((8 : Int) == 1) = false from rfl, show ((8 : Int) == 2) = false from rfl, show ((8 : Int) == 9) = false from rfl, show ((8 : Int) == 3) = false from rfl, show ((8 : Int) == 4) = false from rfl, show ((8 : Int) == 5) = false from rfl, show ((8 : Int) == 6) = false from rfl, show ((8 : Int) == 7) = false from rfl, show ((8 : Int) == 8) = true from rfl, Bool.false_eq_true, if_false, if_true, Option.bind_some]
    rw [show idxO (ups u 1) 0 = some ((u : Nat) : Int) from rfl, Option.bind_some, idxO_nat hlt, Option.bind_some, rput_eq _ _ _ _ _ (by omega), Option.bind_some]
    simp [mkL, pars, offB, crs, side, List.getElem?_eq_getElem hlt]
  · simp only [show ((2 : Int) == 1) = false from rfl, show ((2 : Int) == 2) = true from rfl, Bool.false_eq_true, if_false, if_true]
    rw [rput_eq _ _ _ _ _ (by omega), Option.bind_some]
    simp [mkL, pars, offB, crs, side]
  · have e : uN ⟨3, b, (a : Int), 0⟩ = a := by simp [uN, usedS]
    rw [e]
    simp only [show ((3 : Int) == 1) = false from rfl, show ((3 : Int) == 2) = false from rfl, show ((3 : Int) == 9) = false from rfl, show ((3 : Int) == 3) = true from rfl, Bool.false_eq_true, if_false, if_true, Option.bind_some]
    have key : whileO (raddleref27_Piece_cell_s1_l2 (ups u a) ⟨3, b, (a : Int), 0⟩) (([] : List Int), 0) = some (ups u a) := by
      refine loop_sq (fun i => ((ups u a).take i, (i : Int))) a (by simp) ?_ ?_
      · intro i hi
        have hiu : i < (ups u a).length := by rw [ups_len]; exact hi
        unfold raddleref27_Piece_cell_s1_l2
        simp only [dT (show (i : Int) < ((ups u a).length : Int) by omega), show ((3 : Int) == 3) = true from rfl, if_true]
        rw [idxO_nat hiu, Option.bind_some, appO_of (by simp; omega), w64_succ (by omega), take_snoc _ hiu]; rfl
      · unfold raddleref27_Piece_cell_s1_l2
        simp only [dF (show ¬ (a : Int) < ((ups u a).length : Int) by rw [ups_len]; omega), Bool.false_eq_true, if_false]
        rw [List.take_of_length_le (by rw [ups_len]; exact Nat.le_refl _)]
    rw [key]
    simp only [Option.bind_some]
    rw [rput_eq _ _ _ _ _ (by omega), Option.bind_some]
    simp [mkL, pars, offB, crs, side]
  · have e : uN ⟨4, b, (a : Int), 0⟩ = a := by simp [uN, usedS]
    rw [e]
    simp only [show ((4 : Int) == 1) = false from rfl, show ((4 : Int) == 2) = false from rfl, show ((4 : Int) == 9) = false from rfl, show ((4 : Int) == 3) = false from rfl, show ((4 : Int) == 4) = true from rfl, Bool.false_eq_true, if_false, if_true, Option.bind_some]
    have key : whileO (raddleref27_Piece_cell_s1_l2 (ups u a) ⟨4, b, (a : Int), 0⟩) (([] : List Int), 0) = some (ups u a).reverse := by
      refine loop_sq (fun i => ((ups u a).reverse.take i, (i : Int))) a (by simp) ?_ ?_
      · intro i hi
        have hiu : i < (ups u a).length := by rw [ups_len]; exact hi
        have hil : a - 1 - i < (ups u a).length := by rw [ups_len]; omega
        unfold raddleref27_Piece_cell_s1_l2
        simp only [dT (show (i : Int) < ((ups u a).length : Int) by omega), show ((4 : Int) == 3) = false from rfl, Bool.false_eq_true, if_false, if_true]
        rw [ups_len, show w64 ((a : Int) - 1) = (a : Int) - 1 from w64_of (by omega) (by omega), w64_of (by omega) (by omega), idxO_of (k := a - 1 - i) (by omega) hil, Option.bind_some, appO_of (by simp; omega), w64_succ (by omega), take_snoc _ (by rw [List.length_reverse]; exact hiu), List.getElem_reverse]
        simp only [ups_len]; rfl
      · unfold raddleref27_Piece_cell_s1_l2
        simp only [dF (show ¬ (a : Int) < ((ups u a).length : Int) by rw [ups_len]; omega), Bool.false_eq_true, if_false]
        rw [List.take_of_length_le (by rw [List.length_reverse, ups_len]; exact Nat.le_refl _)]
    rw [key]
    simp only [Option.bind_some]
    rw [rput_eq _ _ _ _ _ (by omega), Option.bind_some]
    simp [mkL, pars, offB, crs, side]
  · have e : uN ⟨5, b, (a : Int), 0⟩ = 1 := by simp [uN, usedS]
    rw [e]
    simp only [show ((5 : Int) == 1) = false from rfl, show ((5 : Int) == 2) = false from rfl, show ((5 : Int) == 9) = false from rfl, show ((5 : Int) == 3) = false from rfl, show ((5 : Int) == 4) = false from rfl, show ((5 : Int) == 5) = true from rfl, Bool.false_eq_true, if_false, if_true, Option.bind_some]
    have key : whileO (raddleref27_Piece_cell_s1_l3 ⟨5, b, (a : Int), 0⟩ (ups u 1) (R : Int) (K : Int)) (0, p.Loops, p.Bound, p.Cross, p.Rows) = some (p.Loops ++ List.replicate a ⟨(R : Int), (K : Int), [(u : Int)], b⟩, p.Bound, p.Cross, p.Rows) := by
      refine loop_sq (fun i => ((i : Int), p.Loops ++ List.replicate i (⟨(R : Int), (K : Int), [(u : Int)], b⟩ : api_Loop), p.Bound, p.Cross, p.Rows)) a (by simp) ?_ ?_
      · intro i hi
        unfold raddleref27_Piece_cell_s1_l3
        simp only [dT (show (i : Int) < (a : Int) by omega), if_true]
        rw [show idxO (ups u 1) 0 = some ((u : Nat) : Int) from rfl, Option.bind_some, rput_eq _ _ _ _ _ (by simp; omega), Option.bind_some, w64_succ (by omega), List.replicate_succ', List.append_assoc]
      · unfold raddleref27_Piece_cell_s1_l3
        simp only [dF (show ¬ (a : Int) < (a : Int) by omega), Bool.false_eq_true, if_false]
    rw [key]
    simp [mkL, pars, offB, crs, side]
  · have e : uN ⟨k, b, (a : Int), (c : Int)⟩ = a + c := by rcases hk with rfl | rfl <;> simp [uN, usedS] <;> omega
    rw [e]
    have ht : ∀ q : Int, q ≠ 6 → q ≠ 7 → (k == q) = false := by intro q h6 h7; rcases hk with rfl | rfl <;> simp <;> omega
    simp only [ht 1 (by omega) (by omega), ht 2 (by omega) (by omega), ht 9 (by omega) (by omega), ht 3 (by omega) (by omega), ht 4 (by omega) (by omega), ht 5 (by omega) (by omega), Bool.false_eq_true, if_false, Option.bind_some]
    have h67 : (if (k == 6) = true then some (k == 6) else some (k == 7)) = some true := by rcases hk with rfl | rfl <;> rfl
    rw [h67, Option.bind_some, if_pos rfl]
    have ep : pars ⟨k, b, (a : Int), (c : Int)⟩ u = ((ups u (a + c)).drop a ++ (ups u (a + c)).take a).map fun x => [x] := by rcases hk with rfl | rfl <;> simp [pars]
    have hpl : (pars ⟨k, b, (a : Int), (c : Int)⟩ u).length = a + c := by rw [ep]; simp [ups_len]; omega
    have k1 : whileO (raddleref27_Piece_cell_s1_l4 ⟨k, b, (a : Int), (c : Int)⟩ (ups u (a + c)) (R : Int) (K : Int)) (0, p.Loops, p.Bound, p.Cross, p.Rows) = some (p.Loops ++ mkL R K b (pars ⟨k, b, (a : Int), (c : Int)⟩ u), p.Bound, p.Cross, p.Rows) := by
      refine loop_sq (fun i => ((i : Int), p.Loops ++ mkL R K b ((pars ⟨k, b, (a : Int), (c : Int)⟩ u).take i), p.Bound, p.Cross, p.Rows)) (a + c) (by simp [mkL]) ?_ ?_
      · intro i hi
        have hx := pars_x (b := b) (u := u) hk hi
        have hm : (a + i) % (a + c) = if i < c then a + i else i - c := by
          split
          · exact Nat.mod_eq_of_lt (by omega)
          · rw [show a + i = (i - c) + (a + c) by omega, Nat.add_mod_right, Nat.mod_eq_of_lt (by omega)]
        have hmlt : (a + i) % (a + c) < (ups u (a + c)).length := by rw [ups_len]; exact Nat.mod_lt _ (by omega)
        have hip : i < (pars ⟨k, b, (a : Int), (c : Int)⟩ u).length := by omega
        unfold raddleref27_Piece_cell_s1_l4
        simp only [show w64 ((a : Int) + (c : Int)) = ((a + c : Nat) : Int) by rw [w64_of (by omega) (by omega)]; omega, dT (show (i : Int) < ((a + c : Nat) : Int) by omega), if_true]
        rw [show w64 ((a : Int) + (i : Int)) = ((a + i : Nat) : Int) by rw [w64_of (by omega) (by omega)]; omega, rem_nat (by omega), Option.bind_some, idxO_nat hmlt, Option.bind_some, rput_eq _ _ _ _ _ (by simp [mkL]; omega), Option.bind_some, w64_succ (by omega), take_snoc _ hip, ups_get, hm]
        rw [List.getElem?_eq_getElem hip] at hx
        rw [Option.some.inj hx]
        simp [mkL]
      · unfold raddleref27_Piece_cell_s1_l4
        simp only [show w64 ((a : Int) + (c : Int)) = ((a + c : Nat) : Int) by rw [w64_of (by omega) (by omega)]; omega, dF (show ¬ ((a + c : Nat) : Int) < ((a + c : Nat) : Int) by omega), Bool.false_eq_true, if_false]
        rw [List.take_of_length_le (by omega)]
    have hlb : p.Loops.length ≤ 100000 := hl
    generalize hn : p.Loops.length = n at *
    have k2 : ∀ (i : Nat) (X : List (Int × Int)), i < a → X.length ≤ 950000 → whileO (raddleref27_Piece_cell_s1_l5 ⟨k, b, (a : Int), (c : Int)⟩ p (i : Int)) (0, X) = some (X ++ crow k n a c i c) := by
      intro i X hi hX
      refine loop_sq (fun j => ((j : Int), X ++ crow k n a c i j)) c (by simp [crow]) ?_ ?_
      · intro j hj
        unfold raddleref27_Piece_cell_s1_l5
        rw [hn]
        simp only [dT (show (j : Int) < (c : Int) by omega), if_true]
        rw [show w64 ((n : Int) + (c : Int)) = ((n + c : Nat) : Int) by rw [w64_of (by omega) (by omega)]; omega, show w64 (((n + c : Nat) : Int) + (i : Int)) = ((n + c + i : Nat) : Int) by rw [w64_of (by omega) (by omega)]; omega, show w64 ((n : Int) + (j : Int)) = ((n + j : Nat) : Int) by rw [w64_of (by omega) (by omega)]; omega, crow_succ, w64_succ (by omega)]
        rcases hk with rfl | rfl
        · simp only [show ((6 : Int) == 7) = false from rfl, show ((6 : Int) = 7) = False by simp, Bool.false_eq_true, if_false, Option.bind_some]
          rw [appO_of (by simp [crow_len]; omega), Option.bind_some, List.append_assoc]
        · simp only [show ((7 : Int) == 7) = true from rfl, if_true, Option.bind_some]
          rw [appO_of (by simp [crow_len]; omega), Option.bind_some, List.append_assoc]
      · unfold raddleref27_Piece_cell_s1_l5
        simp only [dF (show ¬ (c : Int) < (c : Int) by omega), Bool.false_eq_true, if_false]
    have hlen : ∀ i, i ≤ a → ((List.range i).map fun x => crow k n a c x c).flatten.length = i * c := by
      intro i _
      induction i with
      | zero => simp
      | succ i ih => rw [List.range_succ, List.map_append, List.flatten_append, List.length_append, ih (by omega)]; simp [crow_len, Nat.add_mul]
    have k3 : whileO (raddleref27_Piece_cell_s1_l6 ⟨k, b, (a : Int), (c : Int)⟩ p) (0, p.Cross) = some (p.Cross ++ ((List.range a).map fun x => crow k n a c x c).flatten) := by
      refine loop_sq (fun i => ((i : Int), p.Cross ++ ((List.range i).map fun x => crow k n a c x c).flatten)) a (by simp) ?_ ?_
      · intro i hi
        have hm : i * c ≤ 6 * 6 := Nat.mul_le_mul (by omega) (by omega)
        unfold raddleref27_Piece_cell_s1_l6
        simp only [dT (show (i : Int) < (a : Int) by omega), if_true]
        rw [k2 i _ hi (by rw [List.length_append, hlen i (by omega)]; omega), List.range_succ, w64_succ (by omega)]
        simp
      · unfold raddleref27_Piece_cell_s1_l6
        simp only [dF (show ¬ (a : Int) < (a : Int) by omega), Bool.false_eq_true, if_false]
    have e2 : crs ⟨k, b, (a : Int), (c : Int)⟩ n = ((List.range a).map fun x => crow k n a c x c).flatten := by simp [crs, hk, crow]
    have e1 : offB ⟨k, b, (a : Int), (c : Int)⟩ u = [] := by rcases hk with rfl | rfl <;> simp [offB]
    have e3 : side p.Loops ⟨k, b, (a : Int), (c : Int)⟩ u = b := by rcases hk with rfl | rfl <;> simp [side]
    rw [k1]
    simp only [Option.bind_some]
    rw [k3, e1, e2, e3, List.append_nil]
    rfl
  · simp only [show ((9 : Int) == 1) = false from rfl, show ((9 : Int) == 2) = false from rfl, show ((9 : Int) == 9) = true from rfl, Bool.false_eq_true, if_false, if_true]
    have key : whileO (raddleref27_Piece_cell_s1_l1 ⟨9, false, (a : Int), 0⟩ (R : Int) (K : Int)) (0, p.Loops, p.Bound, p.Cross, p.Rows) = some (p.Loops ++ List.replicate a ⟨(R : Int), (K : Int), [], false⟩, p.Bound, p.Cross, p.Rows) := by
      refine loop_sq (fun i => ((i : Int), p.Loops ++ List.replicate i (⟨(R : Int), (K : Int), [], false⟩ : api_Loop), p.Bound, p.Cross, p.Rows)) a (by simp) ?_ ?_
      · intro i hi
        unfold raddleref27_Piece_cell_s1_l1
        simp only [dT (show (i : Int) < (a : Int) by omega), if_true]
        rw [rput_eq _ _ _ _ _ (by simp; omega), Option.bind_some, w64_succ (by omega), List.replicate_succ', List.append_assoc]
      · unfold raddleref27_Piece_cell_s1_l1
        simp only [dF (show ¬ (a : Int) < (a : Int) by omega), Bool.false_eq_true, if_false]
    rw [key]
    simp [mkL, pars, offB, crs, side]
  · have e : uN ⟨10, b, (a : Int), 0⟩ = a := by simp [uN, usedS]
    rw [e]
    simp only [show ((10 : Int) == 1) = false from rfl, show ((10 : Int) == 2) = false from rfl, show ((10 : Int) == 9) = false from rfl, show ((10 : Int) == 3) = false from rfl, show ((10 : Int) == 4) = false from rfl, show ((10 : Int) == 5) = false from rfl, show ((10 : Int) == 6) = false from rfl, show ((10 : Int) == 7) = false from rfl, show ((10 : Int) == 8) = false from rfl, show ((10 : Int) == 10) = true from rfl, Bool.false_eq_true, if_false, if_true, Option.bind_some]
    rw [appO_of (by simp [ups_len]; omega), Option.bind_some]
    simp [mkL, pars, offB, crs, side]
theorem rrow_loop {S : Nat} {fs : List (List api_Stitch)} (hf : okF S fs) (hfl : fs.length ≤ 100) {k : Nat} (hk : k < fs.length) (rs : List Int) :
    whileO (raddleref27_Work_l3 fs[k] (k : Int)) ((off S fs k : Int), 0, (stC S fs k).1.L, (stC S fs k).1.B, (stC S fs k).1.C, rs) =
      some ((stC S fs (k + 1)).1.L, (stC S fs (k + 1)).1.B, (stC S fs (k + 1)).1.C, rs) := by
  have hall := stC_cells hf hk (fun j z => Bd k j z) (stC_bd hf k (by omega)) fun j hj z _ h => h.step ((hf.2 k hk).1 _ (List.getElem_mem _))
  have hlen := (hf.2 k hk).2.1
  rw [stC_succ hk]
  generalize stC S fs k = z at hall
  have h0 : pu S fs k 0 = off S fs k := by simp [pu, smN]
  refine loop_sq (fun j => ((pu S fs k j : Int), (j : Int), (cellsW (k + 1) 0 (fs[k].take j) z.1).L, (cellsW (k + 1) 0 (fs[k].take j) z.1).B, (cellsW (k + 1) 0 (fs[k].take j) z.1).C, rs)) fs[k].length (by simp [cellsW, h0]) ?_ ?_
  · intro j hj
    obtain ⟨hL, hB⟩ := hall j (by omega)
    have h1 := pu_le hf hk hj
    have h2 := pm_le hf hk (j := j)
    have h3 := off_le hf (r := k + 2) (by omega)
    have h4 := off_mono (S := S) (fs := fs) (a := k + 1) (b := k + 2) (by omega)
    have h5 := hB.B
    have h6 := hB.C
    have h7 := hL.len
    have h8 := hL.u
    have hok := (hf.2 k hk).1 _ (List.getElem_mem hj)
    have hub := usedS_bd hok
    have hus : usedS (fs[k][j]) = ((uN (fs[k][j]) : Nat) : Int) := by unfold uN; omega
    have hg : fs.getD k [] = fs[k] := by simp [List.getD_eq_getElem?_getD, List.getElem?_eq_getElem hk]
    have hpu : pu S fs k (j + 1) = pu S fs k j + uN (fs[k][j]) := by simp only [pu, hg]; rw [smN_take uN _ hj]; omega
    unfold raddleref27_Work_l3
    simp only [dT (show (j : Int) < (fs[k].length : Int) by omega), if_true]
    have key : whileO (raddleref27_Work_l2 fs[k] (j : Int)) ((pu S fs k j : Int), ([] : List Int), 0) = some ((pu S fs k (j + 1) : Int), ups (pu S fs k j) (uN (fs[k][j]))) := by
      rw [hpu]
      refine loop_sq (fun i => (((pu S fs k j + i : Nat) : Int), ups (pu S fs k j) i, (i : Int))) (uN (fs[k][j])) (by simp [ups]) ?_ ?_
      · intro i hi
        unfold raddleref27_Work_l2
        dsimp only
        rw [idxO_nat hj, Option.bind_some, rused_eq hok, Option.bind_some, hus, dT (show (i : Int) < ((uN (fs[k][j]) : Nat) : Int) by omega), if_pos rfl, appO_of (by simp [ups_len]; omega), Option.bind_some, w64_succ (by omega), w64_succ (by omega), ups_succ]
        rfl
      · unfold raddleref27_Work_l2
        dsimp only
        rw [idxO_nat hj, Option.bind_some, rused_eq hok, Option.bind_some, hus, dF (show ¬ ((uN (fs[k][j]) : Nat) : Int) < ((uN (fs[k][j]) : Nat) : Int) by omega), if_neg (by simp)]
    rw [key]
    simp only [Option.bind_some]
    rw [idxO_nat hj, Option.bind_some, w64_succ (by omega), rcell_eq (k + 1) j (pu S fs k j) hok (by simp only; omega) (by simp only; omega) (by simp only; omega) (by simp only; omega)]
    simp only [Option.bind_some]
    rw [w64_succ (by omega), cells_at (k + 1) fs[k] z.1 hj, ← h8]
    rfl
  · unfold raddleref27_Work_l3
    simp only [dF (show ¬ (fs[k].length : Int) < (fs[k].length : Int) by omega), Bool.false_eq_true, if_false, List.take_length]
theorem rseen_eq {r : api_Row} (h : allS r.Cells = 0) : F_raddleref26_Seen r = some (faceR r) := by
  have hl := (allS_ok h).1
  unfold F_raddleref26_Seen faceR
  by_cases hb : r.Back = true
  · rw [if_pos hb, if_pos hb, rturned_eq (by omega)]; rfl
  · rw [if_neg hb, if_neg hb, appO_of (by simp; omega)]; rfl
theorem rwork_eq {c : api_Chart} (hk : chk c = 0) : F_raddleref27_Work c = some ⟨(workC c).1.L, (workC c).1.B, (workC c).1.C, (workC c).2⟩ := by
  obtain ⟨hf, hl, hs⟩ := okF_of hk
  have hrows := chk_ok hk
  rw [workC_eq hk]
  generalize hS : c.Start.toNat = S at *
  generalize hfs0 : c.Rows.map faceR = fs at *
  have hfl : fs.length = c.Rows.length := by rw [← hfs0, List.length_map]
  have hfs : ∀ k (h : k < c.Rows.length), fs[k] = faceR c.Rows[k] := fun k h => by simp [← hfs0]
  have h200 := hf.1
  unfold F_raddleref27_Work
  rw [appO_of (by simp), Option.bind_some]
  have k1 : whileO (raddleref27_Work_l1 c) (0, ([] : List api_Loop), ([] : List Int), ([] : List (Int × Int)), ([] : List Int) ++ [0]) = some (zeroL S, [], [], [0]) := by
    refine loop_sq (fun i => ((i : Int), zeroL i, ([] : List Int), ([] : List (Int × Int)), ([0] : List Int))) S (by simp [zeroL]) ?_ ?_
    · intro i hi
      unfold raddleref27_Work_l1
      simp only [dT (show (i : Int) < c.Start by omega), if_true]
      rw [rput_eq _ _ _ _ _ (by simp [zeroL]; omega), Option.bind_some, zeroL_succ, w64_succ (by omega)]
    · unfold raddleref27_Work_l1
      simp only [dF (show ¬ (S : Int) < c.Start by omega), Bool.false_eq_true, if_false]
  rw [k1]
  simp only [Option.bind_some]
  rw [appO_of (by simp), Option.bind_some]
  have k3 : whileO (raddleref27_Work_l4 c) (0, zeroL S, ([] : List Int), ([] : List (Int × Int)), [0] ++ [((zeroL S).length : Int)]) = some ((stC S fs fs.length).1.L, (stC S fs fs.length).1.B, (stC S fs fs.length).1.C, (stC S fs fs.length).2) := by
    refine loop_sq (fun k => ((k : Int), (stC S fs k).1.L, (stC S fs k).1.B, (stC S fs k).1.C, (stC S fs k).2)) fs.length (by simp [stC, rowsW, zeroL]) ?_ ?_
    · intro k hk'
      have hk2 : k < c.Rows.length := by omega
      have hrs := (stC_all hf (fun _ _ _ => True) trivial (fun _ _ _ _ _ _ _ => trivial) (fun _ _ _ _ _ => trivial) k (by omega)).2.2
      have hidx : idxO (stC S fs k).2 (k : Int) = some ((off S fs k : Nat) : Int) := by
        rw [hrs, idxO_nat (by simp)]; simp
      unfold raddleref27_Work_l4
      simp only [dT (show (k : Int) < (c.Rows.length : Int) by omega), if_true]
      rw [hidx, Option.bind_some, idxO_nat hk2, Option.bind_some, rseen_eq (chkR_mem hrows.2.2.2 _ (List.getElem_mem hk2)), Option.bind_some, ← hfs k hk2, rrow_loop hf (by omega) hk' _]
      simp only [Option.bind_some]
      rw [appO_of (by rw [hrs]; simp; omega), w64_succ (by omega)]
      simp only [Option.bind_some]
      rw [stC_succ hk']
    · unfold raddleref27_Work_l4
      simp only [dF (show ¬ (fs.length : Int) < (c.Rows.length : Int) by omega), Bool.false_eq_true, if_false]
  rw [k3]
  rfl

end Go.Proofs.Yticjoiolfibmlaa
namespace Go.Proofs.Yticjoiolfibmlaa
open Go.RowKit
set_option linter.unusedVariables false

noncomputable def F_raddleref25_Great (p0 : (List api_Stitch)) : Option Bool :=
  Option.bind (α := Bool) (
    if decide (60 < (p0.length : Int)) then
      if decide ((p0.length : Int) ≤ 200) then
        some true
      else
        some (decide (300 < (p0.length : Int)))
    else
      some (decide (300 < (p0.length : Int)))) fun o4 =>
  some o4
set_option maxHeartbeats 4000000 in
set_option maxRecDepth 100000 in
theorem c_raddleref25_Great (E : Nat → Prop) (w0 : World) (p0 : (List api_Stitch)) (v0 : Value) (r : Bool) (h : F_raddleref25_Great p0 = some r) (S : St0 E [] w0 w0 [] [fRep (rL r_api_Stitch) (v0) p0]) :
    Calls Try.prog 32 #[v0] w0 (Ret (X := Unit) E [] w0 (fun _ => .bool r) (fun _ => []) (fun _ => [])) := by
  unfold F_raddleref25_Great at h
  obtain ⟨ad1, cp2, _, rfl, _⟩ := S.know (i := 0) (e := fRep (rL r_api_Stitch) (v0) p0) rfl
  refine sEnter (args := [.slice ad1 p0.length cp2]) 16 Try.func32 rfl rfl (by simp) S (fun a S => ?_)
  refine sSeq (fun K3 hK3 => ?_)
  refine sRegion ?_
  refine sMove (.bool false) S (wN rfl) (.inr rfl) rfl rfl (lb rfl) fun a S => ?_
  refine leafL (leafT (hK3 _ _ ?_))
  obtain ⟨t5, h, g6⟩ := bindSome h
  refine sCut (fun a w => ∃ o4, o4 = t5 ∧ St [] E [] w0 16 a w [(2, .bool o4)] [] []) ?_ (fun a w hI => ?_)
  rotate_left
  · obtain ⟨o4, rfl, S⟩ := hI
    have h := g6
    clear g6
    try dsimp only at h
    obtain rfl := Option.some.inj h
    exact wp_ret (sRet (.bool o4) S (rsl1 rfl (rvT (t := 2) (v := .bool o4) S rfl)) ⟨(), rfl, S.mem.sel [] [] (by decide) rfl rfl⟩)
  refine sRegion ?_
  refine sMove (.slice ad1 p0.length cp2) S (wN rfl) (.inl rfl) rfl rfl (lb rfl) fun a S => ?_
  refine sLen (ad := ad1) (m := p0.length) (c := cp2) S (wN rfl) rfl Try.underlying62 rfl rfl (lb rfl) fun a S => ?_
  refine sBin (.bool (decide (60 < (p0.length : Int)))) S (wN rfl) rfl rfl rfl (bGt _ _ _ _ .i64 (p0.length : Int) 60) rfl (lb rfl) fun a S => ?_
  refine sMove (.bool (decide (60 < (p0.length : Int)))) S (wN rfl) (.inl rfl) rfl rfl (lb rfl) fun a S => ?_
  rcases iteSome h with ⟨hc7, h⟩ | ⟨hc7, h⟩
  rotate_left
  · refine sSkip 3 true 6 7 S rfl rfl rfl hc7 rfl (lb rfl) fun a S => ?_
    refine sSkip 3 true 6 8 S rfl rfl rfl hc7 rfl (lb rfl) fun a S => ?_
    refine sSkip 3 true 6 9 S rfl rfl rfl hc7 rfl (lb rfl) fun a S => ?_
    refine sPickF (.bool false) S (wN rfl) rfl rfl hc7 rfl rfl (lb rfl) fun a S => ?_
    refine sMove (.bool false) S (wN rfl) (.inl rfl) rfl rfl (lb rfl) fun a S => ?_
    refine sMove (.slice ad1 p0.length cp2) S (wG 8 false 11 rfl rfl rfl rfl) (.inl rfl) rfl rfl (lb rfl) fun a S => ?_
    refine sLen (ad := ad1) (m := p0.length) (c := cp2) S (wG 8 false 11 rfl rfl rfl rfl) rfl Try.underlying62 rfl rfl (lb rfl) fun a S => ?_
    refine sBin (.bool (decide (300 < (p0.length : Int)))) S (wG 8 false 11 rfl rfl rfl rfl) rfl rfl rfl (bGt _ _ _ _ .i64 (p0.length : Int) 300) rfl (lb rfl) fun a S => ?_
    refine sPickF (.bool (decide (300 < (p0.length : Int)))) S (wN rfl) rfl rfl rfl rfl rfl (lb rfl) fun a S => ?_
    refine sMove (.bool (decide (300 < (p0.length : Int)))) S (wN rfl) (.inr rfl) rfl rfl (lb rfl) fun a S => ?_
    exact leafL (leafT (⟨decide (300 < (p0.length : Int)), Option.some.inj h, S.fix [] [] (by decide) rfl rfl rfl⟩))
  refine sMove (.slice ad1 p0.length cp2) S (wG 3 true 6 rfl rfl rfl hc7) (.inl rfl) rfl rfl (lb rfl) fun a S => ?_
  refine sLen (ad := ad1) (m := p0.length) (c := cp2) S (wG 3 true 6 rfl rfl rfl hc7) rfl Try.underlying62 rfl rfl (lb rfl) fun a S => ?_
  refine sBin (.bool (decide ((p0.length : Int) ≤ 200))) S (wG 3 true 6 rfl rfl rfl hc7) rfl rfl rfl (bLe _ _ _ _ .i64 (p0.length : Int) 200) rfl (lb rfl) fun a S => ?_
  refine sPickT (.bool (decide ((p0.length : Int) ≤ 200))) S (wN rfl) rfl rfl hc7 rfl rfl (lb rfl) fun a S => ?_
  refine sMove (.bool (decide ((p0.length : Int) ≤ 200))) S (wN rfl) (.inl rfl) rfl rfl (lb rfl) fun a S => ?_
  rcases iteSome h with ⟨hc8, h⟩ | ⟨hc8, h⟩
  · refine sSkip 8 false 11 12 S rfl rfl rfl hc8 rfl (lb rfl) fun a S => ?_
    refine sSkip 8 false 11 13 S rfl rfl rfl hc8 rfl (lb rfl) fun a S => ?_
    refine sSkip 8 false 11 14 S rfl rfl rfl hc8 rfl (lb rfl) fun a S => ?_
    refine sPickT (.bool true) S (wN rfl) rfl rfl hc8 rfl rfl (lb rfl) fun a S => ?_
    refine sMove (.bool true) S (wN rfl) (.inr rfl) rfl rfl (lb rfl) fun a S => ?_
    exact leafL (leafT (⟨true, Option.some.inj h, S.fix [] [] (by decide) rfl rfl rfl⟩))
  refine sMove (.slice ad1 p0.length cp2) S (wG 8 false 11 rfl rfl rfl hc8) (.inl rfl) rfl rfl (lb rfl) fun a S => ?_
  refine sLen (ad := ad1) (m := p0.length) (c := cp2) S (wG 8 false 11 rfl rfl rfl hc8) rfl Try.underlying62 rfl rfl (lb rfl) fun a S => ?_
  refine sBin (.bool (decide (300 < (p0.length : Int)))) S (wG 8 false 11 rfl rfl rfl hc8) rfl rfl rfl (bGt _ _ _ _ .i64 (p0.length : Int) 300) rfl (lb rfl) fun a S => ?_
  refine sPickF (.bool (decide (300 < (p0.length : Int)))) S (wN rfl) rfl rfl hc8 rfl rfl (lb rfl) fun a S => ?_
  refine sMove (.bool (decide (300 < (p0.length : Int)))) S (wN rfl) (.inr rfl) rfl rfl (lb rfl) fun a S => ?_
  exact leafL (leafT (⟨decide (300 < (p0.length : Int)), Option.some.inj h, S.fix [] [] (by decide) rfl rfl rfl⟩))

end Go.Proofs.Yticjoiolfibmlaa
namespace Go.Proofs.Yticjoiolfibmlaa
open Go.RowKit
set_option linter.unusedVariables false

noncomputable def raddleref26_Great_l1 (p0 : api_Chart) : Int → Option (Int ⊕ (Bool ⊕ Unit)) := fun s0 => match s0 with
  | s10 =>
    Option.bind (α := Bool) (
      if decide (s10 < (p0.Rows.length : Int)) then
        some (decide (s10 < 150))
      else
        some false) fun o15 =>
    if o15 then
      Option.bind (idxO p0.Rows s10) fun x22 =>
      Option.bind (F_raddleref25_Great x22.Cells) fun r31 =>
      if r31 then
        some (.inr (.inl true))
      else
        some (.inl (w64 (s10 + 1)))
    else
      some (.inr (.inr ()))
noncomputable def F_raddleref26_Great (p0 : api_Chart) : Option Bool :=
  Option.bind (α := Unit ⊕ Bool) (
    Option.bind (whileO (raddleref26_Great_l1 p0) 0) fun z0 => match z0 with
      | .inl z =>
        some (.inr z)
      | .inr _ =>
        some (.inl ())) fun z0 => match z0 with
    | .inl _ =>
      Option.bind (α := Bool) (
        if decide (12 < (p0.Rows.length : Int)) then
          if decide ((p0.Rows.length : Int) ≤ 100) then
            some true
          else
            some (decide (150 < (p0.Rows.length : Int)))
        else
          some (decide (150 < (p0.Rows.length : Int)))) fun o35 =>
      some o35
    | .inr z =>
      some z
set_option maxHeartbeats 4000000 in
set_option maxRecDepth 100000 in
theorem c_raddleref26_Great (E : Nat → Prop) (w0 : World) (p0 : api_Chart) (v0 : Value) (r : Bool) (h : F_raddleref26_Great p0 = some r) (S : St0 E [] w0 w0 [] [fRep r_api_Chart (v0) p0]) :
    Calls Try.prog 10 #[v0] w0 (Ret (X := Unit) E [] w0 (fun _ => .bool r) (fun _ => []) (fun _ => [])) := by
  unfold F_raddleref26_Great at h
  obtain ⟨u1, rfl, hu2⟩ := S.know (i := 0) (e := fRep r_api_Chart (v0) p0) rfl
  have S := S.learn (fRep (rL r_api_Row) u1 p0.Rows) hu2
  obtain ⟨ad3, cp4, _, rfl, _⟩ := hu2
  refine sEnter (args := [.agg #[iv p0.Start, .slice ad3 p0.Rows.length cp4]]) 38 Try.func10 rfl rfl (by simp) S (fun a S => ?_)
  refine sSeq (fun K5 hK5 => ?_)
  refine sRegion ?_
  refine sBox (v := .agg #[iv p0.Start, .slice ad3 p0.Rows.length cp4]) S (wN rfl) rfl rfl [iv p0.Start, .slice ad3 p0.Rows.length cp4] rfl rfl (lb rfl) fun a b6 w S => ?_
  refine sMove (.bool false) S (wN rfl) (.inr rfl) rfl rfl (lb rfl) fun a S => ?_
  refine leafL (leafT (hK5 _ _ ?_))
  obtain ⟨t7, h, g8⟩ := bindSome h
  refine sCut (fun a w => .inl () = t7 ∧ St [] E [] w0 38 a w [(1, .pointer (some ⟨b6, 0, none⟩))] [eBox b6 24 [iv p0.Start, .slice ad3 p0.Rows.length cp4]] [fRep (rL r_api_Row) (.slice ad3 p0.Rows.length cp4) p0.Rows]) ?_ (fun a w hI => ?_)
  rotate_left
  · obtain ⟨rfl, S⟩ := hI
    have h := g8
    clear g8
    try dsimp only at h
    obtain ⟨t36, h, g37⟩ := bindSome h
    refine sCut (fun a w => ∃ o35, o35 = t36 ∧ St [] E [] w0 38 a w [(2, .bool o35)] [] []) ?_ (fun a w hI => ?_)
    rotate_left
    · obtain ⟨o35, rfl, S⟩ := hI
      have h := g37
      clear g37
      try dsimp only at h
      obtain rfl := Option.some.inj h
      exact wp_ret (sRet (.bool o35) S (rsl1 rfl (rvT (t := 2) (v := .bool o35) S rfl)) ⟨(), rfl, S.mem.sel [] [] (by decide) rfl rfl⟩)
    refine sRegion ?_
    refine sField (b := b6) (off := 0) 1 1 S (wN rfl) rfl rfl rfl rfl rfl (lb rfl) fun a S => ?_
    refine sLoad1 (p := b6) (off := 1) (T := 24) (vs := [iv p0.Start, .slice ad3 p0.Rows.length cp4]) 0 (.slice ad3 p0.Rows.length cp4) S (wN rfl) rfl rfl rfl rfl rfl rfl (lb rfl) fun a S => ?_
    refine sLen (ad := ad3) (m := p0.Rows.length) (c := cp4) S (wN rfl) rfl Try.underlying22 rfl rfl (lb rfl) fun a S => ?_
    refine sBin (.bool (decide (12 < (p0.Rows.length : Int)))) S (wN rfl) rfl rfl rfl (bGt _ _ _ _ .i64 (p0.Rows.length : Int) 12) rfl (lb rfl) fun a S => ?_
    refine sMove (.bool (decide (12 < (p0.Rows.length : Int)))) S (wN rfl) (.inl rfl) rfl rfl (lb rfl) fun a S => ?_
    rcases iteSome h with ⟨hc38, h⟩ | ⟨hc38, h⟩
    rotate_left
    · refine sSkip 4 true 26 27 S rfl rfl rfl hc38 rfl (lb rfl) fun a S => ?_
      refine sSkip 4 true 26 28 S rfl rfl rfl hc38 rfl (lb rfl) fun a S => ?_
      refine sSkip 4 true 26 29 S rfl rfl rfl hc38 rfl (lb rfl) fun a S => ?_
      refine sSkip 4 true 26 30 S rfl rfl rfl hc38 rfl (lb rfl) fun a S => ?_
      refine sPickF (.bool false) S (wN rfl) rfl rfl hc38 rfl rfl (lb rfl) fun a S => ?_
      refine sMove (.bool false) S (wN rfl) (.inl rfl) rfl rfl (lb rfl) fun a S => ?_
      refine sField (b := b6) (off := 0) 1 1 S (wG 10 false 32 rfl rfl rfl rfl) rfl rfl rfl rfl rfl (lb rfl) fun a S => ?_
      refine sLoad1 (p := b6) (off := 1) (T := 24) (vs := [iv p0.Start, .slice ad3 p0.Rows.length cp4]) 0 (.slice ad3 p0.Rows.length cp4) S (wG 10 false 32 rfl rfl rfl rfl) rfl rfl rfl rfl rfl rfl (lb rfl) fun a S => ?_
      refine sLen (ad := ad3) (m := p0.Rows.length) (c := cp4) S (wG 10 false 32 rfl rfl rfl rfl) rfl Try.underlying22 rfl rfl (lb rfl) fun a S => ?_
      refine sBin (.bool (decide (150 < (p0.Rows.length : Int)))) S (wG 10 false 32 rfl rfl rfl rfl) rfl rfl rfl (bGt _ _ _ _ .i64 (p0.Rows.length : Int) 150) rfl (lb rfl) fun a S => ?_
      refine sPickF (.bool (decide (150 < (p0.Rows.length : Int)))) S (wN rfl) rfl rfl rfl rfl rfl (lb rfl) fun a S => ?_
      refine sMove (.bool (decide (150 < (p0.Rows.length : Int)))) S (wN rfl) (.inr rfl) rfl rfl (lb rfl) fun a S => ?_
      exact leafL (leafT (⟨decide (150 < (p0.Rows.length : Int)), Option.some.inj h, S.fix [] [] (by decide) rfl rfl rfl⟩))
    refine sField (b := b6) (off := 0) 1 1 S (wG 4 true 26 rfl rfl rfl hc38) rfl rfl rfl rfl rfl (lb rfl) fun a S => ?_
    refine sLoad1 (p := b6) (off := 1) (T := 24) (vs := [iv p0.Start, .slice ad3 p0.Rows.length cp4]) 0 (.slice ad3 p0.Rows.length cp4) S (wG 4 true 26 rfl rfl rfl hc38) rfl rfl rfl rfl rfl rfl (lb rfl) fun a S => ?_
    refine sLen (ad := ad3) (m := p0.Rows.length) (c := cp4) S (wG 4 true 26 rfl rfl rfl hc38) rfl Try.underlying22 rfl rfl (lb rfl) fun a S => ?_
    refine sBin (.bool (decide ((p0.Rows.length : Int) ≤ 100))) S (wG 4 true 26 rfl rfl rfl hc38) rfl rfl rfl (bLe _ _ _ _ .i64 (p0.Rows.length : Int) 100) rfl (lb rfl) fun a S => ?_
    refine sPickT (.bool (decide ((p0.Rows.length : Int) ≤ 100))) S (wN rfl) rfl rfl hc38 rfl rfl (lb rfl) fun a S => ?_
    refine sMove (.bool (decide ((p0.Rows.length : Int) ≤ 100))) S (wN rfl) (.inl rfl) rfl rfl (lb rfl) fun a S => ?_
    rcases iteSome h with ⟨hc39, h⟩ | ⟨hc39, h⟩
    · refine sSkip 10 false 32 33 S rfl rfl rfl hc39 rfl (lb rfl) fun a S => ?_
      refine sSkip 10 false 32 34 S rfl rfl rfl hc39 rfl (lb rfl) fun a S => ?_
      refine sSkip 10 false 32 35 S rfl rfl rfl hc39 rfl (lb rfl) fun a S => ?_
      refine sSkip 10 false 32 36 S rfl rfl rfl hc39 rfl (lb rfl) fun a S => ?_
      refine sPickT (.bool true) S (wN rfl) rfl rfl hc39 rfl rfl (lb rfl) fun a S => ?_
      refine sMove (.bool true) S (wN rfl) (.inr rfl) rfl rfl (lb rfl) fun a S => ?_
      exact leafL (leafT (⟨true, Option.some.inj h, S.fix [] [] (by decide) rfl rfl rfl⟩))
    refine sField (b := b6) (off := 0) 1 1 S (wG 10 false 32 rfl rfl rfl hc39) rfl rfl rfl rfl rfl (lb rfl) fun a S => ?_
    refine sLoad1 (p := b6) (off := 1) (T := 24) (vs := [iv p0.Start, .slice ad3 p0.Rows.length cp4]) 0 (.slice ad3 p0.Rows.length cp4) S (wG 10 false 32 rfl rfl rfl hc39) rfl rfl rfl rfl rfl rfl (lb rfl) fun a S => ?_
    refine sLen (ad := ad3) (m := p0.Rows.length) (c := cp4) S (wG 10 false 32 rfl rfl rfl hc39) rfl Try.underlying22 rfl rfl (lb rfl) fun a S => ?_
    refine sBin (.bool (decide (150 < (p0.Rows.length : Int)))) S (wG 10 false 32 rfl rfl rfl hc39) rfl rfl rfl (bGt _ _ _ _ .i64 (p0.Rows.length : Int) 150) rfl (lb rfl) fun a S => ?_
    refine sPickF (.bool (decide (150 < (p0.Rows.length : Int)))) S (wN rfl) rfl rfl hc39 rfl rfl (lb rfl) fun a S => ?_
    refine sMove (.bool (decide (150 < (p0.Rows.length : Int)))) S (wN rfl) (.inr rfl) rfl rfl (lb rfl) fun a S => ?_
    exact leafL (leafT (⟨decide (150 < (p0.Rows.length : Int)), Option.some.inj h, S.fix [] [] (by decide) rfl rfl rfl⟩))
  refine sSeq (fun K9 hK9 => ?_)
  refine sRegion ?_
  refine sMove (iv 0) S (wN rfl) (.inr rfl) rfl rfl (lb rfl) fun a S => ?_
  refine leafL (leafT (hK9 _ _ ?_))
  refine wp_block ?_
  obtain ⟨t13, hl, g12⟩ := bindSome h
  refine sLoop hl (fun s0 a w => match s0 with | s10 => St [] E [] w0 38 a w [(1, .pointer (some ⟨b6, 0, none⟩)), (3, iv s10)] [eBox b6 24 [iv p0.Start, .slice ad3 p0.Rows.length cp4]] [fRep (rL r_api_Row) (.slice ad3 p0.Rows.length cp4) p0.Rows]) (S.fix [0] [0] (by decide) rfl rfl rfl) ?_
  clear hl h
  intro s10 a w c0 hI h hu11
  unfold raddleref26_Great_l1 at h
  dsimp only at h hI
  have S := hI
  refine sSeq (fun K14 hK14 => ?_)
  obtain ⟨t16, h, g17⟩ := bindSome h
  refine sCut (fun a w => ∃ o15, o15 = t16 ∧ St [] E [] w0 38 a w [(1, .pointer (some ⟨b6, 0, none⟩)), (3, iv s10), (12, .bool o15)] [eBox b6 24 [iv p0.Start, .slice ad3 p0.Rows.length cp4]] [fRep (rL r_api_Row) (.slice ad3 p0.Rows.length cp4) p0.Rows]) ?_ (fun a w hI => ?_)
  · refine sRegion ?_
    refine sMove (iv s10) S (wN rfl) (.inl rfl) rfl rfl (lb rfl) fun a S => ?_
    refine sField (b := b6) (off := 0) 1 1 S (wN rfl) rfl rfl rfl rfl rfl (lb rfl) fun a S => ?_
    refine sLoad1 (p := b6) (off := 1) (T := 24) (vs := [iv p0.Start, .slice ad3 p0.Rows.length cp4]) 0 (.slice ad3 p0.Rows.length cp4) S (wN rfl) rfl rfl rfl rfl rfl rfl (lb rfl) fun a S => ?_
    refine sLen (ad := ad3) (m := p0.Rows.length) (c := cp4) S (wN rfl) rfl Try.underlying22 rfl rfl (lb rfl) fun a S => ?_
    refine sBin (.bool (decide (s10 < (p0.Rows.length : Int)))) S (wN rfl) rfl rfl rfl (bLt _ _ _ _ .i64 s10 (p0.Rows.length : Int)) rfl (lb rfl) fun a S => ?_
    refine sMove (.bool (decide (s10 < (p0.Rows.length : Int)))) S (wN rfl) (.inl rfl) rfl rfl (lb rfl) fun a S => ?_
    rcases iteSome h with ⟨hc18, h⟩ | ⟨hc18, h⟩
    rotate_left
    · refine sSkip 5 true 9 10 S rfl rfl rfl hc18 rfl (lb rfl) fun a S => ?_
      refine sSkip 5 true 9 11 S rfl rfl rfl hc18 rfl (lb rfl) fun a S => ?_
      refine sPickF (.bool false) S (wN rfl) rfl rfl hc18 rfl rfl (lb rfl) fun a S => ?_
      exact leafL (leafT (⟨false, Option.some.inj h, S.fix [0] [0] (by decide) rfl rfl rfl⟩))
    refine sMove (iv s10) S (wG 5 true 9 rfl rfl rfl hc18) (.inl rfl) rfl rfl (lb rfl) fun a S => ?_
    refine sBin (.bool (decide (s10 < 150))) S (wG 5 true 9 rfl rfl rfl hc18) rfl rfl rfl (bLt _ _ _ _ .i64 s10 150) rfl (lb rfl) fun a S => ?_
    refine sPickT (.bool (decide (s10 < 150))) S (wN rfl) rfl rfl hc18 rfl rfl (lb rfl) fun a S => ?_
    exact leafL (leafT (⟨decide (s10 < 150), Option.some.inj h, S.fix [0] [0] (by decide) rfl rfl rfl⟩))
  obtain ⟨o15, rfl, S⟩ := hI
  have h := g17
  clear g17
  try dsimp only at h
  rcases iteSome h with ⟨hc19, h⟩ | ⟨hc19, h⟩
  rotate_left
  · refine sCondF S rfl hc19 ?_
    obtain rfl := Option.some.inj h
    obtain rfl := hu11 _ rfl
    have h := g12
    clear g12
    try dsimp only at h
    exact wp_exit (xThen (xThen (xHit (leafT (⟨Option.some.inj h, S.fix [0] [0] (by decide) rfl rfl rfl⟩)))))
  refine sCondT S rfl hc19 ?_
  refine wp_skip (leafT (hK14 _ _ ?_))
  refine sSeq (fun K20 hK20 => ?_)
  refine wp_block ?_
  refine sSeq (fun K21 hK21 => ?_)
  refine sRegion ?_
  refine sField (b := b6) (off := 0) 1 1 S (wN rfl) rfl rfl rfl rfl rfl (lb rfl) fun a S => ?_
  refine sLoad1 (p := b6) (off := 1) (T := 24) (vs := [iv p0.Start, .slice ad3 p0.Rows.length cp4]) 0 (.slice ad3 p0.Rows.length cp4) S (wN rfl) rfl rfl rfl rfl rfl rfl (lb rfl) fun a S => ?_
  refine sMove (iv s10) S (wN rfl) (.inl rfl) rfl rfl (lb rfl) fun a S => ?_
  obtain ⟨x22, hx23, h⟩ := bindSome h
  obtain ⟨q24, hq25, S⟩ := pIdx (P := Try.prog) (r := r_api_Row) (v := .slice ad3 p0.Rows.length cp4) (xs := p0.Rows) (j := s10) 22 65 0 S Try.underlying22 rfl rfl hx23
  refine sIdxV (v := .slice ad3 p0.Rows.length cp4) (k := .i64) (j := s10) S (wN rfl) rfl rfl rfl hq25 rfl (lb rfl) fun a S => ?_
  obtain ⟨q26, hq27, S⟩ := pFld (P := Try.prog) (r := r_api_Row) (s2 := (rL r_api_Stitch)) (g := (·.Cells)) (q := q24) (z := x22) 65 1 0 1 S rfl rfl comp_api_Row_Cells
  refine sFldV (q := q24) S (wN rfl) rfl rfl hq27 rfl (lb rfl) fun a S => ?_
  obtain ⟨u28, S⟩ := pLoad (r := (rL r_api_Stitch)) (q := q26) (x := x22.Cells) 0 S rfl
  obtain ⟨ad29, cp30, _, rfl, _⟩ := S.mem.know (i := 1) (e := fRep (rL r_api_Stitch) (u28) x22.Cells) rfl
  refine sLoadV1 (vq := q26) 0 (.slice ad29 x22.Cells.length cp30) S (wN rfl) rfl rfl rfl rfl rfl (lb rfl) fun a S => ?_
  obtain ⟨r31, hx32, h⟩ := bindSome h
  have S1 := S.mem
  refine sCallQ (X := Unit) (f := 32) (vs := [.slice ad29 x22.Cells.length cp30]) (val := fun _ => .bool r31) S (wN rfl) rfl callee32 rfl (S1.quiet [1] rfl) (fun E1 w1 S1 => c_raddleref25_Great E1 w1 x22.Cells (.slice ad29 x22.Cells.length cp30) r31 hx32 S1) rfl (lb rfl) fun _ a w S => ?_
  refine leafL (leafT (hK21 _ _ ?_))
  rcases iteSome h with ⟨hc33, h⟩ | ⟨hc33, h⟩
  rotate_left
  · refine sCondF S rfl hc33 ?_
    refine wp_skip (leafB (leafT (hK20 _ _ ?_)))
    refine sRegion ?_
    refine sMove (iv s10) S (wN rfl) (.inl rfl) rfl rfl (lb rfl) fun a S => ?_
    refine sBin (iv (w64 (s10 + 1))) S (wN rfl) rfl rfl rfl (bAdd _ _ _ _ s10 1) rfl (lb rfl) fun a S => ?_
    refine sMove (iv (w64 (s10 + 1))) S (wN rfl) (.inr rfl) rfl rfl (lb rfl) fun a S => ?_
    exact leafL (leafT (⟨w64 (s10 + 1), (Option.some.inj h).symm, (S.fix [0] [4] (by decide) rfl rfl rfl)⟩))
  refine sCondT S rfl hc33 ?_
  refine sSeq (fun K34 hK34 => ?_)
  refine sRegion ?_
  refine sMove (.bool true) S (wN rfl) (.inr rfl) rfl rfl (lb rfl) fun a S => ?_
  refine leafL (leafT (hK34 _ _ ?_))
  obtain rfl := Option.some.inj h
  obtain rfl := hu11 _ rfl
  have h := g12
  clear g12
  try dsimp only at h
  obtain rfl := Option.some.inj h
  have h := g8
  clear g8
  try dsimp only at h
  obtain rfl := Option.some.inj h
  exact wp_ret (rBlock (rThen (rThen (rBlock (rThen (sRet (.bool true) S (rsl1 rfl (rvT (t := 2) (v := .bool true) S rfl)) ⟨(), rfl, S.mem.sel [] [] (by decide) rfl rfl⟩))))))

end Go.Proofs.Yticjoiolfibmlaa
namespace Go.Proofs.Yticjoiolfibmlaa
open Go.RowKit
set_option linter.unusedVariables false

def anc_raddleref26_SameInts_0 : List (List Nat) := [[], [], [0, 1], [0, 1, 2], [], [], [4, 5], [4, 5, 6], [0, 1, 2, 3, 4, 5, 6, 7]]
noncomputable def raddleref26_SameInts_l1 (p0 : (List Int)) (p1 : (List Int)) : Int → Option (Int ⊕ (Bool ⊕ Unit)) := fun s0 => match s0 with
  | s13 =>
    if decide (s13 < (p0.length : Int)) then
      Option.bind (idxO p0 s13) fun x22 =>
      Option.bind (idxO p1 s13) fun x27 =>
      if x22 != x27 then
        some (.inr (.inl false))
      else
        some (.inl (w64 (s13 + 1)))
    else
      some (.inr (.inr ()))
noncomputable def F_raddleref26_SameInts (p0 : (List Int)) (p1 : (List Int)) : Option Bool :=
  if (p0.length : Int) != (p1.length : Int) then
    some false
  else
    Option.bind (α := Unit ⊕ Bool) (
      Option.bind (whileO (raddleref26_SameInts_l1 p0 p1) 0) fun z0 => match z0 with
        | .inl z =>
          some (.inr z)
        | .inr _ =>
          some (.inl ())) fun z0 => match z0 with
      | .inl _ =>
        some true
      | .inr z =>
        some z
set_option maxHeartbeats 4000000 in
set_option maxRecDepth 100000 in
theorem c_raddleref26_SameInts (E : Nat → Prop) (w0 : World) (p0 : (List Int)) (v0 : Value) (p1 : (List Int)) (v1 : Value) (r : Bool) (h : F_raddleref26_SameInts p0 p1 = some r) (S : St0 E [] w0 w0 [] [fRep (rL (rI .i64)) (v0) p0, fRep (rL (rI .i64)) (v1) p1]) :
    Calls Try.prog 18 #[v0, v1] w0 (Ret (X := Unit) E [] w0 (fun _ => .bool r) (fun _ => []) (fun _ => [])) := by
  unfold F_raddleref26_SameInts at h
  obtain ⟨ad1, cp2, _, rfl, _⟩ := S.know (i := 0) (e := fRep (rL (rI .i64)) (v0) p0) rfl
  obtain ⟨ad3, cp4, _, rfl, _⟩ := S.know (i := 1) (e := fRep (rL (rI .i64)) (v1) p1) rfl
  refine sEnter (args := [.slice ad1 p0.length cp2, .slice ad3 p1.length cp4]) 26 Try.func18 rfl rfl (by simp) S (fun a S => ?_)
  refine sSeq (fun K5 hK5 => ?_)
  refine sRegion ?_
  refine sMove (.bool false) S (wN rfl) (.inr rfl) rfl rfl (lb rfl) fun a S => ?_
  refine leafL (leafT (hK5 _ _ ?_))
  refine sSeq (fun K6 hK6 => ?_)
  refine sSeq (fun K7 hK7 => ?_)
  refine sRegion ?_
  refine sMove (.slice ad1 p0.length cp2) S (wN rfl) (.inl rfl) rfl rfl (lb rfl) fun a S => ?_
  refine sLen (ad := ad1) (m := p0.length) (c := cp2) S (wN rfl) rfl Try.underlying32 rfl rfl (lb rfl) fun a S => ?_
  refine sMove (.slice ad3 p1.length cp4) S (wN rfl) (.inl rfl) rfl rfl (lb rfl) fun a S => ?_
  refine sLen (ad := ad3) (m := p1.length) (c := cp4) S (wN rfl) rfl Try.underlying32 rfl rfl (lb rfl) fun a S => ?_
  refine sBin (.bool ((p0.length : Int) != (p1.length : Int))) S (wN rfl) rfl rfl rfl (bNe _ _ _ _ .i64 (p0.length : Int) (p1.length : Int)) rfl (lb rfl) fun a S => ?_
  refine leafL (leafT (hK7 _ _ ?_))
  rcases iteSome h with ⟨hc8, h⟩ | ⟨hc8, h⟩
  · refine sCondT S rfl hc8 ?_
    refine sSeq (fun K9 hK9 => ?_)
    refine sRegion ?_
    refine sMove (.bool false) S (wN rfl) (.inr rfl) rfl rfl (lb rfl) fun a S => ?_
    refine leafL (leafT (hK9 _ _ ?_))
    obtain rfl := Option.some.inj h
    exact wp_ret (rThen (sRet (.bool false) S (rsl1 rfl (rvT (t := 4) (v := .bool false) S rfl)) ⟨(), rfl, S.mem.sel [] [] (by decide) rfl rfl⟩))
  refine sCondF S rfl hc8 ?_
  refine wp_skip (leafT (hK6 _ _ ?_))
  obtain ⟨t10, h, g11⟩ := bindSome h
  refine sCut (fun a w => .inl () = t10 ∧ St [] E [] w0 26 a w [] [] []) ?_ (fun a w hI => ?_)
  rotate_left
  · obtain ⟨rfl, S⟩ := hI
    have h := g11
    clear g11
    try dsimp only at h
    refine sSeq (fun K40 hK40 => ?_)
    refine sRegion ?_
    refine sMove (.bool true) S (wN rfl) (.inr rfl) rfl rfl (lb rfl) fun a S => ?_
    refine leafL (leafT (hK40 _ _ ?_))
    obtain rfl := Option.some.inj h
    exact wp_ret (sRet (.bool true) S (rsl1 rfl (rvT (t := 4) (v := .bool true) S rfl)) ⟨(), rfl, S.mem.sel [] [] (by decide) rfl rfl⟩)
  refine sSeq (fun K12 hK12 => ?_)
  refine sRegion ?_
  refine sMove (iv 0) S (wN rfl) (.inr rfl) rfl rfl (lb rfl) fun a S => ?_
  refine leafL (leafT (hK12 _ _ ?_))
  refine wp_block ?_
  obtain ⟨t16, hl, g15⟩ := bindSome h
  refine sLoop hl (fun s0 a w => match s0 with | s13 => St [] E [] w0 26 a w [(0, .slice ad1 p0.length cp2), (1, .slice ad3 p1.length cp4), (5, iv s13)] [] [fRep (rL (rI .i64)) (.slice ad1 p0.length cp2) p0, fRep (rL (rI .i64)) (.slice ad3 p1.length cp4) p1]) (S.fix [] [0, 1] (by decide) rfl rfl rfl) ?_
  clear hl h
  intro s13 a w c0 hI h hu14
  unfold raddleref26_SameInts_l1 at h
  dsimp only at h hI
  have S := hI
  refine sSeq (fun K17 hK17 => ?_)
  refine sSeq (fun K18 hK18 => ?_)
  refine sRegion ?_
  refine sMove (iv s13) S (wN rfl) (.inl rfl) rfl rfl (lb rfl) fun a S => ?_
  refine sMove (.slice ad1 p0.length cp2) S (wN rfl) (.inl rfl) rfl rfl (lb rfl) fun a S => ?_
  refine sLen (ad := ad1) (m := p0.length) (c := cp2) S (wN rfl) rfl Try.underlying32 rfl rfl (lb rfl) fun a S => ?_
  refine sBin (.bool (decide (s13 < (p0.length : Int)))) S (wN rfl) rfl rfl rfl (bLt _ _ _ _ .i64 s13 (p0.length : Int)) rfl (lb rfl) fun a S => ?_
  refine leafL (leafT (hK18 _ _ ?_))
  rcases iteSome h with ⟨hc19, h⟩ | ⟨hc19, h⟩
  rotate_left
  · refine sCondF S rfl hc19 ?_
    obtain rfl := Option.some.inj h
    obtain rfl := hu14 _ rfl
    have h := g15
    clear g15
    try dsimp only at h
    exact wp_exit (xThen (xThen (xHit (leafT (⟨Option.some.inj h, S.fix [] [] (by decide) rfl rfl rfl⟩)))))
  refine sCondT S rfl hc19 ?_
  refine wp_skip (leafT (hK17 _ _ ?_))
  refine sSeq (fun K20 hK20 => ?_)
  refine wp_block ?_
  refine sSeq (fun K21 hK21 => ?_)
  obtain ⟨x22, hx23, h⟩ := bindSome h
  obtain ⟨x27, hx28, h⟩ := bindSome h
  obtain ⟨q32, hq33, S⟩ := pIdx (P := Try.prog) (r := (rI .i64)) (v := .slice ad1 p0.length cp2) (xs := p0) (j := s13) 32 3 0 S Try.underlying32 rfl rfl hx23
  obtain ⟨u34, S⟩ := pLoad (r := (rI .i64)) (q := q32) (x := x22) 0 S rfl
  obtain rfl : u34 = iv x22 := S.mem.know (i := 1) (e := fRep (rI .i64) (u34) x22) rfl
  obtain ⟨q35, hq36, S⟩ := pIdx (P := Try.prog) (r := (rI .i64)) (v := .slice ad3 p1.length cp4) (xs := p1) (j := s13) 32 3 4 S Try.underlying32 rfl rfl hx28
  obtain ⟨u37, S⟩ := pLoad (r := (rI .i64)) (q := q35) (x := x27) 0 S rfl
  obtain rfl : u37 = iv x27 := S.mem.know (i := 1) (e := fRep (rI .i64) (u37) x27) rfl
  refine sDraw (nf := []) (W := [(0, 17, .slice ad1 p0.length cp2), (1, 18, iv s13), (2, 19, q32), (3, 20, iv x22), (4, 21, .slice ad3 p1.length cp4), (5, 22, iv s13), (6, 23, q35), (7, 24, iv x27), (8, 25, .bool (x22 != x27))]) rfl S ?_
  refine node_by (A := anc_raddleref26_SameInts_0) (nf := []) (Y := []) (W := [(0, 17, .slice ad1 p0.length cp2), (1, 18, iv s13), (2, 19, q32), (3, 20, iv x22), (4, 21, .slice ad3 p1.length cp4), (5, 22, iv s13), (6, 23, q35), (7, 24, iv x27), (8, 25, .bool (x22 != x27))]) 9 (by kernel_rfl) (by kernel_rfl) (by kernel_rfl) (by kernel_rfl) (by kernel_rfl) [0, 1, 2, 3, 4, 5, 6, 7, 8] (by kernel_rfl) (by decide) (by decide) (aF 0 8 (by decide) ?_ (aF 1 7 (by decide) ?_ (aF 2 6 (by decide) ?_ (aF 3 5 (by decide) ?_ (aF 4 4 (by decide) ?_ (aF 5 3 (by decide) ?_ (aF 6 2 (by decide) ?_ (aF 7 1 (by decide) ?_ (aF 8 0 (by decide) ?_ (trivial)))))))))) [(0, .slice ad1 p0.length cp2), (1, .slice ad3 p1.length cp4), (5, iv s13), (25, .bool (x22 != x27))] (fin_of [none, none, none, some 8] rfl (by kernel_rfl) (by kernel_rfl)) (fun _ a w S => ?_)
  · refine fI 17 (.slice ad1 p0.length cp2) [(0, .slice ad1 p0.length cp2)] 0 [none] rfl rfl rfl rfl rfl rfl fun G a w S => ?_
    refine sMove (.slice ad1 p0.length cp2) S (wN rfl) (.inl rfl) rfl rfl (lb rfl) fun a S => ?_
    exact leafL ⟨rfl, S⟩
  · refine fI 18 (iv s13) [(5, iv s13)] 1 [none] rfl rfl rfl rfl rfl rfl fun G a w S => ?_
    refine sMove (iv s13) S (wN rfl) (.inl rfl) rfl rfl (lb rfl) fun a S => ?_
    exact leafL ⟨rfl, S⟩
  · refine fI 19 q32 [(17, .slice ad1 p0.length cp2), (18, iv s13)] 2 [some 0, some 1] rfl rfl rfl rfl rfl rfl fun G a w S => ?_
    refine sIdxV (v := .slice ad1 p0.length cp2) (k := .i64) (j := s13) S (wN rfl) rfl rfl rfl hq33 rfl (lb rfl) fun a S => ?_
    exact leafL ⟨rfl, S⟩
  · refine fI 20 (iv x22) [(19, q32)] 3 [some 2] rfl rfl rfl rfl rfl rfl fun G a w S => ?_
    refine sLoadV1 (vq := q32) 3 (iv x22) S (wN rfl) rfl rfl rfl rfl rfl (lb rfl) fun a S => ?_
    exact leafL ⟨rfl, S⟩
  · refine fI 21 (.slice ad3 p1.length cp4) [(1, .slice ad3 p1.length cp4)] 4 [none] rfl rfl rfl rfl rfl rfl fun G a w S => ?_
    refine sMove (.slice ad3 p1.length cp4) S (wN rfl) (.inl rfl) rfl rfl (lb rfl) fun a S => ?_
    exact leafL ⟨rfl, S⟩
  · refine fI 22 (iv s13) [(5, iv s13)] 5 [none] rfl rfl rfl rfl rfl rfl fun G a w S => ?_
    refine sMove (iv s13) S (wN rfl) (.inl rfl) rfl rfl (lb rfl) fun a S => ?_
    exact leafL ⟨rfl, S⟩
  · refine fI 23 q35 [(21, .slice ad3 p1.length cp4), (22, iv s13)] 6 [some 4, some 5] rfl rfl rfl rfl rfl rfl fun G a w S => ?_
    refine sIdxV (v := .slice ad3 p1.length cp4) (k := .i64) (j := s13) S (wN rfl) rfl rfl rfl hq36 rfl (lb rfl) fun a S => ?_
    exact leafL ⟨rfl, S⟩
  · refine fI 24 (iv x27) [(23, q35)] 7 [some 6] rfl rfl rfl rfl rfl rfl fun G a w S => ?_
    refine sLoadV1 (vq := q35) 0 (iv x27) S (wN rfl) rfl rfl rfl rfl rfl (lb rfl) fun a S => ?_
    exact leafL ⟨rfl, S⟩
  · refine fI 25 (.bool (x22 != x27)) [(20, iv x22), (24, iv x27)] 8 [some 3, some 7] rfl rfl rfl rfl rfl rfl fun G a w S => ?_
    refine sBin (.bool (x22 != x27)) S (wN rfl) rfl rfl rfl (bNe _ _ _ _ .i64 x22 x27) rfl (lb rfl) fun a S => ?_
    exact leafL ⟨rfl, S⟩
  refine leafT (hK21 _ _ ?_)
  rcases iteSome h with ⟨hc38, h⟩ | ⟨hc38, h⟩
  rotate_left
  · refine sCondF S rfl hc38 ?_
    refine wp_skip (leafB (leafT (hK20 _ _ ?_)))
    refine sRegion ?_
    refine sMove (iv s13) S (wN rfl) (.inl rfl) rfl rfl (lb rfl) fun a S => ?_
    refine sBin (iv (w64 (s13 + 1))) S (wN rfl) rfl rfl rfl (bAdd _ _ _ _ s13 1) rfl (lb rfl) fun a S => ?_
    refine sMove (iv (w64 (s13 + 1))) S (wN rfl) (.inr rfl) rfl rfl (lb rfl) fun a S => ?_
    exact leafL (leafT (⟨w64 (s13 + 1), (Option.some.inj h).symm, (S.fix [] [6, 7] (by decide) rfl rfl rfl)⟩))
  refine sCondT S rfl hc38 ?_
  refine sSeq (fun K39 hK39 => ?_)
  refine sRegion ?_
  refine sMove (.bool false) S (wN rfl) (.inr rfl) rfl rfl (lb rfl) fun a S => ?_
  refine leafL (leafT (hK39 _ _ ?_))
  obtain rfl := Option.some.inj h
  obtain rfl := hu14 _ rfl
  have h := g15
  clear g15
  try dsimp only at h
  obtain rfl := Option.some.inj h
  have h := g11
  clear g11
  try dsimp only at h
  obtain rfl := Option.some.inj h
  exact wp_ret (rBlock (rThen (rThen (rBlock (rThen (sRet (.bool false) S (rsl1 rfl (rvT (t := 4) (v := .bool false) S rfl)) ⟨(), rfl, S.mem.sel [] [] (by decide) rfl rfl⟩))))))

end Go.Proofs.Yticjoiolfibmlaa
namespace Go.Proofs.Yticjoiolfibmlaa
open Go.RowKit
set_option linter.unusedVariables false

end Go.Proofs.Yticjoiolfibmlaa
namespace Go.Proofs.Yticjoiolfibmlaa
open Go.RowKit
set_option linter.unusedVariables false

end Go.Proofs.Yticjoiolfibmlaa
namespace Go.Proofs.Yticjoiolfibmlaa
open Go.RowKit
set_option linter.unusedVariables false

end Go.Proofs.Yticjoiolfibmlaa
namespace Go.Proofs.Yticjoiolfibmlaa
open Go.RowKit
set_option linter.unusedVariables false

theorem pars_short {s : api_Stitch} (h : okS s) (u : Nat) : ∀ ps, ps ∈ pars s u → ps.length ≤ 4 := by
  intro ps hps
  rcases knd h with ⟨b, rfl⟩ | ⟨b, rfl⟩ | rfl | ⟨b, a, h1, h2, rfl⟩ | ⟨b, a, h1, h2, rfl⟩ | ⟨b, a, h1, h2, rfl⟩ | ⟨k, b, a, c, hk, h1, h2, h3, h4, rfl⟩ | ⟨a, h1, h2, rfl⟩ | ⟨b, a, h1, h2, rfl⟩
  · simp [pars] at hps; subst hps; simp
  · simp [pars] at hps; subst hps; simp
  · simp [pars] at hps; subst hps; simp
  · simp [pars] at hps; subst hps; rw [ups_len]; omega
  · simp [pars] at hps; subst hps; rw [List.length_reverse, ups_len]; omega
  · simp [pars] at hps; obtain ⟨_, rfl⟩ := hps; simp
  · have e : pars ⟨k, b, (a : Int), (c : Int)⟩ u = ((ups u (a + c)).drop a ++ (ups u (a + c)).take a).map fun x => [x] := by rcases hk with rfl | rfl <;> simp [pars]
    rw [e] at hps
    obtain ⟨x, hx, rfl⟩ := List.mem_map.1 hps
    simp
  · simp [pars] at hps; obtain ⟨_, rfl⟩ := hps; simp
  · simp [pars] at hps
structure Wfin (c : api_Chart) : Prop where
  inv : LInv c.Start.toNat (c.Rows.map faceR) c.Rows.length 0 (workC c).1
  rs : (workC c).2 = (List.range (c.Rows.length + 2)).map fun r => (off c.Start.toNat (c.Rows.map faceR) r : Int)
  ok : okF c.Start.toNat (c.Rows.map faceR)
  nr : c.Rows.length ≤ 100
  st : ((c.Start.toNat : Nat) : Int) = c.Start
  L : (workC c).1.L.length ≤ 20300
  B : (workC c).1.B.length ≤ 20300
  C : (workC c).1.C.length ≤ 720000
  par : ∀ l, l ∈ (workC c).1.L → l.Parents.length ≤ 4 ∧ l.Parents.Nodup
  once : once (workC c).1.L (workC c).1.B (workC c).1.u
  cinv : cinv (workC c).1.L (workC c).1.C (workC c).1.u
theorem wfin_of {c : api_Chart} (hk : chk c = 0) : Wfin c := by
  obtain ⟨hf, hl, hs⟩ := okF_of hk
  have hfl : (c.Rows.map faceR).length = c.Rows.length := List.length_map _
  obtain ⟨h1, ⟨h2, h3, h4⟩, h5⟩ := stC_all hf (fun k j z => (∀ l, l ∈ z.L → l.Parents.length ≤ 4 ∧ l.Parents.Nodup) ∧ once z.L z.B z.u ∧ cinv z.L z.C z.u) ⟨fun l hl => by
      simp only [zeroL, List.mem_map] at hl
      obtain ⟨_, _, rfl⟩ := hl; simp, once.start _, cinv.start _⟩ (fun k j hk hj z _ h => by
      have hok := (hf.2 k hk).1 _ (List.getElem_mem hj)
      refine ⟨fun l hl => ?_, h.2.1.step hok, h.2.2.step hok⟩
      simp only [stepW] at hl
      rcases List.mem_append.1 hl with hl | hl
      · exact h.1 l hl
      · simp only [mkL, List.mem_map] at hl
        obtain ⟨ps, hps, rfl⟩ := hl
        exact ⟨pars_short hok _ ps hps, (pars_bd hok _ ps hps).1⟩) (fun _ _ _ _ h => h) _ (Nat.le_refl _)
  have hbd := stC_bd hf _ (Nat.le_refl _)
  have hlen := h1.len
  have hu := h1.u
  have ho := off_le hf (r := c.Rows.length + 1) (by omega)
  have ho2 := off_le hf (r := c.Rows.length) (by omega)
  rw [← workC_eq hk] at h1 h2 h3 h4 h5 hbd hlen hu
  rw [hfl] at h1 hbd hlen hu h5
  have e1 : pm c.Start.toNat (c.Rows.map faceR) c.Rows.length 0 = off c.Start.toNat (c.Rows.map faceR) (c.Rows.length + 1) := by simp [pm, smN]
  have e2 : pu c.Start.toNat (c.Rows.map faceR) c.Rows.length 0 = off c.Start.toNat (c.Rows.map faceR) c.Rows.length := by simp [pu, smN]
  have hB := hbd.B
  have hC := hbd.C
  exact ⟨h1, h5, hf, hl, hs, by omega, by omega, by omega, h2, h3, h4⟩
theorem sameints_eq (a : List Int) (ha : a.length ≤ 1000000) : F_raddleref26_SameInts a a = some true := by
  have key : whileO (raddleref26_SameInts_l1 a a) 0 = some (.inr ()) := by
    refine loop_same a.length _ (fun k hk => ?_) ?_
    · unfold raddleref26_SameInts_l1
      simp only [dT (show (k : Int) < (a.length : Int) by omega), if_true, idxO_nat hk, Option.bind_some, bne_self_eq_false, Bool.false_eq_true, if_false, w64_succ (show k < 9223372036854775807 by omega)]
    · unfold raddleref26_SameInts_l1
      simp only [dF (show ¬ (a.length : Int) < (a.length : Int) by omega), Bool.false_eq_true, if_false]
  unfold F_raddleref26_SameInts
  rw [key]; simp
theorem rgreatS_eq (l : List api_Stitch) : ∃ b, F_raddleref25_Great l = some b := by
  unfold F_raddleref25_Great
  by_cases h1 : (60 : Int) < (l.length : Int)
  · simp only [dT h1, if_true]; repeat' split
    all_goals exact ⟨_, rfl⟩
  · simp only [dF h1, Bool.false_eq_true, if_false]; repeat' split
    all_goals exact ⟨_, rfl⟩
theorem rgreat26_eq (c : api_Chart) : ∃ b, F_raddleref26_Great c = some b := by
  have key : ∃ t, whileO (raddleref26_Great_l1 c) 0 = some t ∧ (t = .inr () ∨ t = .inl true) := by
    refine loop_ix (Nat.min c.Rows.length 150) (fun _ => True) _ trivial ?_ ?_
    · intro k hk _
      have h1 : k < c.Rows.length := Nat.lt_of_lt_of_le hk (Nat.min_le_left _ _)
      have h2 : k < 150 := Nat.lt_of_lt_of_le hk (Nat.min_le_right _ _)
      obtain ⟨b, hb⟩ := rgreatS_eq c.Rows[k].Cells
      unfold raddleref26_Great_l1
      simp only [dT (show (k : Int) < (c.Rows.length : Int) by omega), if_true, dT (show (k : Int) < 150 by omega), Option.bind_some, idxO_nat h1, hb, w64_succ (show k < 9223372036854775807 by omega)]
      cases b with
      | true => exact .inr ⟨_, rfl, .inr rfl⟩
      | false => exact .inl ⟨rfl, trivial⟩
    · intro _
      refine ⟨.inr (), ?_, .inl rfl⟩
      unfold raddleref26_Great_l1
      by_cases h : c.Rows.length ≤ 150
      · rw [show Nat.min c.Rows.length 150 = c.Rows.length from Nat.min_eq_left h]
        simp only [dF (show ¬ (c.Rows.length : Int) < (c.Rows.length : Int) by omega), Bool.false_eq_true, if_false, Option.bind_some]
      · rw [show Nat.min c.Rows.length 150 = 150 from Nat.min_eq_right (by omega)]
        simp only [dT (show ((150 : Nat) : Int) < (c.Rows.length : Int) by omega), if_true, dF (show ¬ ((150 : Nat) : Int) < 150 by omega), Bool.false_eq_true, if_false, Option.bind_some]
  obtain ⟨t, h1, h2⟩ := key
  unfold F_raddleref26_Great
  rw [h1]
  rcases h2 with rfl | rfl
  · simp only [Option.bind_some]
    by_cases h1 : (12 : Int) < (c.Rows.length : Int)
    · by_cases h2 : (c.Rows.length : Int) ≤ 100
      · simp only [dT h1, dT h2, if_true, Option.bind_some]; exact ⟨_, rfl⟩
      · simp only [dT h1, dF h2, if_true, Bool.false_eq_true, if_false, Option.bind_some]; exact ⟨_, rfl⟩
    · simp only [dF h1, Bool.false_eq_true, if_false, Option.bind_some]; exact ⟨_, rfl⟩
  · exact ⟨_, rfl⟩

end Go.Proofs.Yticjoiolfibmlaa
namespace Go.Proofs.Yticjoiolfibmlaa
open Go.RowKit
set_option linter.unusedVariables false

def anc_loops_Row_0 : List (List Nat) := [[], [0], [], [0, 1, 2], [0, 1, 2, 3], [], [5], [], [7], [5, 6, 7, 8], [5, 6, 7, 8, 9], [0, 1, 2, 3, 4], [0, 1, 2, 3, 4, 5, 6, 7, 8, 9, 10, 11], [0, 1, 2, 3, 4, 5, 6, 7, 8, 9, 10, 11, 12]]
noncomputable def F_loops_Row (p0 : api_Chart) (p1 : Int) : Option (Int × Int × Int) :=
  Option.bind (F_loops_of p0) fun r8 =>
  if r8.2 != 0 then
    some (0, 0, r8.2)
  else
    Option.bind (α := Bool) (
      if decide (p1 < 0) then
        some true
      else
        some (decide ((p0.Rows.length : Int) < p1))) fun o33 =>
    if o33 then
      some (0, 0, 2)
    else
      Option.bind (idxO r8.1.rows p1) fun x40 =>
      Option.bind (idxO r8.1.rows (w64 (p1 + 1))) fun x45 =>
      some (x40, x45, 0)
set_option maxHeartbeats 4000000 in
set_option maxRecDepth 100000 in
theorem c_loops_Row (E : Nat → Prop) (w0 : World) (p0 : api_Chart) (v0 : Value) (p1 : Int) (r : (Int × Int × Int)) (h : F_loops_Row p0 p1 = some r) (S : St0 E [] w0 w0 [] [fRep r_api_Chart (v0) p0]) :
    Calls Try.prog 22 #[v0, iv p1] w0 (Ret (X := Unit) E [] w0 (fun _ => .tuple #[.int .i64 r.1, .int .i64 r.2.1, .int .i64 r.2.2]) (fun _ => []) (fun _ => [])) := by
  unfold F_loops_Row at h
  obtain ⟨u1, rfl, hu2⟩ := S.know (i := 0) (e := fRep r_api_Chart (v0) p0) rfl
  have S := S.learn (fRep (rL r_api_Row) u1 p0.Rows) hu2
  obtain ⟨ad3, cp4, _, rfl, _⟩ := hu2
  refine sEnter (args := [.agg #[iv p0.Start, .slice ad3 p0.Rows.length cp4], iv p1]) 36 Try.func22 rfl rfl (by simp) S (fun a S => ?_)
  refine sSeq (fun K5 hK5 => ?_)
  refine sRegion ?_
  refine sBox (v := .agg #[iv p0.Start, .slice ad3 p0.Rows.length cp4]) S (wN rfl) rfl rfl [iv p0.Start, .slice ad3 p0.Rows.length cp4] rfl rfl (lb rfl) fun a b6 w S => ?_
  refine sMove (iv 0) S (wN rfl) (.inr rfl) rfl rfl (lb rfl) fun a S => ?_
  refine sMove (iv 0) S (wN rfl) (.inr rfl) rfl rfl (lb rfl) fun a S => ?_
  refine sMove (iv 0) S (wN rfl) (.inr rfl) rfl rfl (lb rfl) fun a S => ?_
  refine leafL (leafT (hK5 _ _ ?_))
  refine sSeq (fun K7 hK7 => ?_)
  refine sRegion ?_
  refine sLoadN (p := b6) (off := 0) (T := 24) (vs := [iv p0.Start, .slice ad3 p0.Rows.length cp4]) 0 [iv p0.Start, .slice ad3 p0.Rows.length cp4] S (wN rfl) rfl rfl rfl rfl rfl rfl rfl (lb rfl) fun a S => ?_
  obtain ⟨r8, hx9, h⟩ := bindSome h
  refine sCall (X := Value) (f := 33) (vs := [.agg #[iv p0.Start, .slice ad3 p0.Rows.length cp4]]) (val := c_loops_of_val r8) (B' := fun _ => []) (D' := c_loops_of_D r8) [] [eBox b6 24 [iv p0.Start, .slice ad3 p0.Rows.length cp4]] [fRep r_api_Chart (.agg #[iv p0.Start, .slice ad3 p0.Rows.length cp4]) p0] [0] [1] S (wN rfl) rfl callee33 rfl (by decide) rfl rfl (fun E1 w1 S1 => c_loops_of E1 w1 p0 (.agg #[iv p0.Start, .slice ad3 p0.Rows.length cp4]) r8 hx9 S1) rfl (lb rfl) fun u10 a w S => ?_
  obtain ⟨u11, u12, u13, u14, rfl, hu15, hu16, hu17, hu18⟩ := S.mem.know (i := 0) (e := fRep r_loops_piece (u10) r8.1) rfl
  have S := S.learn (fRep (rL r_api_Loop) u11 r8.1.loops) hu15
  obtain ⟨ad19, cp20, _, rfl, _⟩ := hu15
  have S := S.learn (fRep (rL (rI .i64)) u12 r8.1.rows) hu16
  obtain ⟨ad21, cp22, _, rfl, _⟩ := hu16
  have S := S.learn (fRep (rL (rI .i64)) u13 r8.1.bound) hu17
  obtain ⟨ad23, cp24, _, rfl, _⟩ := hu17
  have S := S.learn (fRep (rL r_A2_Int) u14 r8.1.cross) hu18
  obtain ⟨ad25, cp26, _, rfl, _⟩ := hu18
  refine sMove (.tuple #[.agg #[.slice ad19 r8.1.loops.length cp20, .slice ad21 r8.1.rows.length cp22, .slice ad23 r8.1.bound.length cp24, .slice ad25 r8.1.cross.length cp26, iv r8.1.next], iv r8.2]) S (wN rfl) (.inl rfl) rfl rfl (lb rfl) fun a S => ?_
  refine sExtract (vs := [.agg #[.slice ad19 r8.1.loops.length cp20, .slice ad21 r8.1.rows.length cp22, .slice ad23 r8.1.bound.length cp24, .slice ad25 r8.1.cross.length cp26, iv r8.1.next], iv r8.2]) (.agg #[.slice ad19 r8.1.loops.length cp20, .slice ad21 r8.1.rows.length cp22, .slice ad23 r8.1.bound.length cp24, .slice ad25 r8.1.cross.length cp26, iv r8.1.next]) S (wN rfl) rfl rfl rfl rfl (lb rfl) fun a S => ?_
  refine sExtract (vs := [.agg #[.slice ad19 r8.1.loops.length cp20, .slice ad21 r8.1.rows.length cp22, .slice ad23 r8.1.bound.length cp24, .slice ad25 r8.1.cross.length cp26, iv r8.1.next], iv r8.2]) (iv r8.2) S (wN rfl) rfl rfl rfl rfl (lb rfl) fun a S => ?_
  refine sAlloc (.agg #[.slice none 0 0, .slice none 0 0, .slice none 0 0, .slice none 0 0, iv 0]) S (wN rfl) rfl rfl [.slice none 0 0, .slice none 0 0, .slice none 0 0, .slice none 0 0, iv 0] rfl rfl (lb rfl) fun a b27 w S => ?_
  refine sStore (p := b27) (off := 0) (T := 73) (vs := [.slice none 0 0, .slice none 0 0, .slice none 0 0, .slice none 0 0, iv 0]) (v := .agg #[.slice ad19 r8.1.loops.length cp20, .slice ad21 r8.1.rows.length cp22, .slice ad23 r8.1.bound.length cp24, .slice ad25 r8.1.cross.length cp26, iv r8.1.next]) 0 [.slice ad19 r8.1.loops.length cp20, .slice ad21 r8.1.rows.length cp22, .slice ad23 r8.1.bound.length cp24, .slice ad25 r8.1.cross.length cp26, iv r8.1.next] S (wN rfl) rfl rfl rfl rfl rfl rfl rfl (by simp) rfl fun a w S => ?_
  refine sMove (iv r8.2) S (wN rfl) (.inr rfl) rfl rfl (lb rfl) fun a S => ?_
  refine leafL (leafT (hK7 _ _ ?_))
  refine sSeq (fun K28 hK28 => ?_)
  refine sSeq (fun K29 hK29 => ?_)
  refine sRegion ?_
  refine sMove (iv r8.2) S (wN rfl) (.inl rfl) rfl rfl (lb rfl) fun a S => ?_
  refine sBin (.bool (r8.2 != 0)) S (wN rfl) rfl rfl rfl (bNe _ _ _ _ .i64 r8.2 0) rfl (lb rfl) fun a S => ?_
  refine leafL (leafT (hK29 _ _ ?_))
  rcases iteSome h with ⟨hc30, h⟩ | ⟨hc30, h⟩
  · refine sCondT S rfl hc30 ?_
    refine sSeq (fun K31 hK31 => ?_)
    refine sRegion ?_
    refine sMove (iv r8.2) S (wN rfl) (.inl rfl) rfl rfl (lb rfl) fun a S => ?_
    refine sMove (iv 0) S (wN rfl) (.inr rfl) rfl rfl (lb rfl) fun a S => ?_
    refine sMove (iv 0) S (wN rfl) (.inr rfl) rfl rfl (lb rfl) fun a S => ?_
    refine sMove (iv r8.2) S (wN rfl) (.inr rfl) rfl rfl (lb rfl) fun a S => ?_
    refine leafL (leafT (hK31 _ _ ?_))
    obtain rfl := Option.some.inj h
    exact wp_ret (rThen (sRet (.tuple #[iv 0, iv 0, iv r8.2]) S (rsl3 rfl (rvT (t := 4) (v := iv 0) S rfl) (rvT (t := 5) (v := iv 0) S rfl) (rvT (t := 6) (v := iv r8.2) S rfl)) ⟨(), rfl, S.mem.sel [] [] (by decide) rfl rfl⟩))
  refine sCondF S rfl hc30 ?_
  refine wp_skip (leafT (hK28 _ _ ?_))
  refine sSeq (fun K32 hK32 => ?_)
  obtain ⟨t34, h, g35⟩ := bindSome h
  refine sCut (fun a w => ∃ o33, o33 = t34 ∧ St [] E [] w0 36 a w [(1, iv p1), (7, .pointer (some ⟨b27, 0, none⟩)), (24, .bool o33)] [eBox b27 73 [.slice ad19 r8.1.loops.length cp20, .slice ad21 r8.1.rows.length cp22, .slice ad23 r8.1.bound.length cp24, .slice ad25 r8.1.cross.length cp26, iv r8.1.next]] [fRep (rL r_api_Loop) (.slice ad19 r8.1.loops.length cp20) r8.1.loops, fRep (rL (rI .i64)) (.slice ad21 r8.1.rows.length cp22) r8.1.rows, fRep (rL (rI .i64)) (.slice ad23 r8.1.bound.length cp24) r8.1.bound, fRep (rL r_A2_Int) (.slice ad25 r8.1.cross.length cp26) r8.1.cross]) ?_ (fun a w hI => ?_)
  · refine sRegion ?_
    refine sMove (iv p1) S (wN rfl) (.inl rfl) rfl rfl (lb rfl) fun a S => ?_
    refine sBin (.bool (decide (p1 < 0))) S (wN rfl) rfl rfl rfl (bLt _ _ _ _ .i64 p1 0) rfl (lb rfl) fun a S => ?_
    refine sMove (.bool (decide (p1 < 0))) S (wN rfl) (.inl rfl) rfl rfl (lb rfl) fun a S => ?_
    rcases iteSome h with ⟨hc36, h⟩ | ⟨hc36, h⟩
    · refine sSkip 2 false 18 19 S rfl rfl rfl hc36 rfl (lb rfl) fun a S => ?_
      refine sSkip 2 false 18 20 S rfl rfl rfl hc36 rfl (lb rfl) fun a S => ?_
      refine sSkip 2 false 18 21 S rfl rfl rfl hc36 rfl (lb rfl) fun a S => ?_
      refine sSkip 2 false 18 22 S rfl rfl rfl hc36 rfl (lb rfl) fun a S => ?_
      refine sSkip 2 false 18 23 S rfl rfl rfl hc36 rfl (lb rfl) fun a S => ?_
      refine sPickT (.bool true) S (wN rfl) rfl rfl hc36 rfl rfl (lb rfl) fun a S => ?_
      exact leafL (leafT (⟨true, Option.some.inj h, S.fix [0] [3, 2, 1, 0] (by decide) rfl rfl rfl⟩))
    refine sMove (iv p1) S (wG 2 false 18 rfl rfl rfl hc36) (.inl rfl) rfl rfl (lb rfl) fun a S => ?_
    refine sField (b := b6) (off := 0) 1 1 S (wG 2 false 18 rfl rfl rfl hc36) rfl rfl rfl rfl rfl (lb rfl) fun a S => ?_
    refine sLoad1 (p := b6) (off := 1) (T := 24) (vs := [iv p0.Start, .slice ad3 p0.Rows.length cp4]) 1 (.slice ad3 p0.Rows.length cp4) S (wG 2 false 18 rfl rfl rfl hc36) rfl rfl rfl rfl rfl rfl (lb rfl) fun a S => ?_
    refine sLen (ad := ad3) (m := p0.Rows.length) (c := cp4) S (wG 2 false 18 rfl rfl rfl hc36) rfl Try.underlying22 rfl rfl (lb rfl) fun a S => ?_
    refine sBin (.bool (decide ((p0.Rows.length : Int) < p1))) S (wG 2 false 18 rfl rfl rfl hc36) rfl rfl rfl (bGt _ _ _ _ .i64 p1 (p0.Rows.length : Int)) rfl (lb rfl) fun a S => ?_
    refine sPickF (.bool (decide ((p0.Rows.length : Int) < p1))) S (wN rfl) rfl rfl hc36 rfl rfl (lb rfl) fun a S => ?_
    exact leafL (leafT (⟨decide ((p0.Rows.length : Int) < p1), Option.some.inj h, S.fix [0] [3, 2, 1, 0] (by decide) rfl rfl rfl⟩))
  obtain ⟨o33, rfl, S⟩ := hI
  have h := g35
  clear g35
  try dsimp only at h
  rcases iteSome h with ⟨hc37, h⟩ | ⟨hc37, h⟩
  · refine sCondT S rfl hc37 ?_
    refine sSeq (fun K38 hK38 => ?_)
    refine sRegion ?_
    refine sMove (iv 0) S (wN rfl) (.inr rfl) rfl rfl (lb rfl) fun a S => ?_
    refine sMove (iv 0) S (wN rfl) (.inr rfl) rfl rfl (lb rfl) fun a S => ?_
    refine sMove (iv 2) S (wN rfl) (.inr rfl) rfl rfl (lb rfl) fun a S => ?_
    refine leafL (leafT (hK38 _ _ ?_))
    obtain rfl := Option.some.inj h
    exact wp_ret (rThen (sRet (.tuple #[iv 0, iv 0, iv 2]) S (rsl3 rfl (rvT (t := 4) (v := iv 0) S rfl) (rvT (t := 5) (v := iv 0) S rfl) (rvT (t := 6) (v := iv 2) S rfl)) ⟨(), rfl, S.mem.sel [] [] (by decide) rfl rfl⟩))
  refine sCondF S rfl hc37 ?_
  refine wp_skip (leafT (hK32 _ _ ?_))
  refine sSeq (fun K39 hK39 => ?_)
  obtain ⟨x40, hx41, h⟩ := bindSome h
  obtain ⟨x45, hx46, h⟩ := bindSome h
  obtain ⟨q50, hq51, S⟩ := pIdx (P := Try.prog) (r := (rI .i64)) (v := .slice ad21 r8.1.rows.length cp22) (xs := r8.1.rows) (j := p1) 32 3 1 S Try.underlying32 rfl rfl hx41
  obtain ⟨u52, S⟩ := pLoad (r := (rI .i64)) (q := q50) (x := x40) 0 S rfl
  obtain rfl : u52 = iv x40 := S.mem.know (i := 1) (e := fRep (rI .i64) (u52) x40) rfl
  obtain ⟨q53, hq54, S⟩ := pIdx (P := Try.prog) (r := (rI .i64)) (v := .slice ad21 r8.1.rows.length cp22) (xs := r8.1.rows) (j := w64 (p1 + 1)) 32 3 4 S Try.underlying32 rfl rfl hx46
  obtain ⟨u55, S⟩ := pLoad (r := (rI .i64)) (q := q53) (x := x45) 0 S rfl
  obtain rfl : u55 = iv x45 := S.mem.know (i := 1) (e := fRep (rI .i64) (u55) x45) rfl
  refine sDraw (nf := []) (W := [(0, 25, .pointer (some ⟨b27, 1, none⟩)), (1, 26, .slice ad21 r8.1.rows.length cp22), (2, 27, iv p1), (3, 28, q50), (4, 29, iv x40), (5, 30, .pointer (some ⟨b27, 1, none⟩)), (6, 31, .slice ad21 r8.1.rows.length cp22), (7, 32, iv p1), (8, 33, iv (w64 (p1 + 1))), (9, 34, q53), (10, 35, iv x45), (11, 4, iv x40), (12, 5, iv x45), (13, 6, iv 0)]) rfl S ?_
  refine node_by (A := anc_loops_Row_0) (nf := []) (Y := []) (W := [(0, 25, .pointer (some ⟨b27, 1, none⟩)), (1, 26, .slice ad21 r8.1.rows.length cp22), (2, 27, iv p1), (3, 28, q50), (4, 29, iv x40), (5, 30, .pointer (some ⟨b27, 1, none⟩)), (6, 31, .slice ad21 r8.1.rows.length cp22), (7, 32, iv p1), (8, 33, iv (w64 (p1 + 1))), (9, 34, q53), (10, 35, iv x45), (11, 4, iv x40), (12, 5, iv x45), (13, 6, iv 0)]) 14 (by kernel_rfl) (by kernel_rfl) (by kernel_rfl) (by kernel_rfl) (by kernel_rfl) [0, 1, 2, 3, 4, 5, 6, 7, 8, 9, 10, 11, 12, 13] (by kernel_rfl) (by decide) (by decide) (aF 0 13 (by decide) ?_ (aF 1 12 (by decide) ?_ (aF 2 11 (by decide) ?_ (aF 3 10 (by decide) ?_ (aF 4 9 (by decide) ?_ (aF 5 8 (by decide) ?_ (aF 6 7 (by decide) ?_ (aF 7 6 (by decide) ?_ (aF 8 5 (by decide) ?_ (aF 9 4 (by decide) ?_ (aF 10 3 (by decide) ?_ (aF 11 2 (by decide) ?_ (aF 12 1 (by decide) ?_ (aF 13 0 (by decide) ?_ (trivial))))))))))))))) [(4, iv x40), (5, iv x45), (6, iv 0)] (fin_of [some 11, some 12, some 13] rfl (by kernel_rfl) (by kernel_rfl)) (fun _ a w S => ?_)
  · refine fI 25 (.pointer (some ⟨b27, 1, none⟩)) [(7, .pointer (some ⟨b27, 0, none⟩))] 0 [none] rfl rfl rfl rfl rfl rfl fun G a w S => ?_
    refine sField (b := b27) (off := 0) 1 1 S (wN rfl) rfl rfl rfl rfl rfl (lb rfl) fun a S => ?_
    exact leafL ⟨rfl, S⟩
  · refine fI 26 (.slice ad21 r8.1.rows.length cp22) [(25, .pointer (some ⟨b27, 1, none⟩))] 1 [some 0] rfl rfl rfl rfl rfl rfl fun G a w S => ?_
    refine sLoad1 (p := b27) (off := 1) (T := 73) (vs := [.slice ad19 r8.1.loops.length cp20, .slice ad21 r8.1.rows.length cp22, .slice ad23 r8.1.bound.length cp24, .slice ad25 r8.1.cross.length cp26, iv r8.1.next]) 0 (.slice ad21 r8.1.rows.length cp22) S (wN rfl) rfl rfl rfl rfl rfl rfl (lb rfl) fun a S => ?_
    exact leafL ⟨rfl, S⟩
  · refine fI 27 (iv p1) [(1, iv p1)] 2 [none] rfl rfl rfl rfl rfl rfl fun G a w S => ?_
    refine sMove (iv p1) S (wN rfl) (.inl rfl) rfl rfl (lb rfl) fun a S => ?_
    exact leafL ⟨rfl, S⟩
  · refine fI 28 q50 [(26, .slice ad21 r8.1.rows.length cp22), (27, iv p1)] 3 [some 1, some 2] rfl rfl rfl rfl rfl rfl fun G a w S => ?_
    refine sIdxV (v := .slice ad21 r8.1.rows.length cp22) (k := .i64) (j := p1) S (wN rfl) rfl rfl rfl hq51 rfl (lb rfl) fun a S => ?_
    exact leafL ⟨rfl, S⟩
  · refine fI 29 (iv x40) [(28, q50)] 4 [some 3] rfl rfl rfl rfl rfl rfl fun G a w S => ?_
    refine sLoadV1 (vq := q50) 3 (iv x40) S (wN rfl) rfl rfl rfl rfl rfl (lb rfl) fun a S => ?_
    exact leafL ⟨rfl, S⟩
  · refine fI 30 (.pointer (some ⟨b27, 1, none⟩)) [(7, .pointer (some ⟨b27, 0, none⟩))] 5 [none] rfl rfl rfl rfl rfl rfl fun G a w S => ?_
    refine sField (b := b27) (off := 0) 1 1 S (wN rfl) rfl rfl rfl rfl rfl (lb rfl) fun a S => ?_
    exact leafL ⟨rfl, S⟩
  · refine fI 31 (.slice ad21 r8.1.rows.length cp22) [(30, .pointer (some ⟨b27, 1, none⟩))] 6 [some 5] rfl rfl rfl rfl rfl rfl fun G a w S => ?_
    refine sLoad1 (p := b27) (off := 1) (T := 73) (vs := [.slice ad19 r8.1.loops.length cp20, .slice ad21 r8.1.rows.length cp22, .slice ad23 r8.1.bound.length cp24, .slice ad25 r8.1.cross.length cp26, iv r8.1.next]) 0 (.slice ad21 r8.1.rows.length cp22) S (wN rfl) rfl rfl rfl rfl rfl rfl (lb rfl) fun a S => ?_
    exact leafL ⟨rfl, S⟩
  · refine fI 32 (iv p1) [(1, iv p1)] 7 [none] rfl rfl rfl rfl rfl rfl fun G a w S => ?_
    refine sMove (iv p1) S (wN rfl) (.inl rfl) rfl rfl (lb rfl) fun a S => ?_
    exact leafL ⟨rfl, S⟩
  · refine fI 33 (iv (w64 (p1 + 1))) [(32, iv p1)] 8 [some 7] rfl rfl rfl rfl rfl rfl fun G a w S => ?_
    refine sBin (iv (w64 (p1 + 1))) S (wN rfl) rfl rfl rfl (bAdd _ _ _ _ p1 1) rfl (lb rfl) fun a S => ?_
    exact leafL ⟨rfl, S⟩
  · refine fI 34 q53 [(31, .slice ad21 r8.1.rows.length cp22), (33, iv (w64 (p1 + 1)))] 9 [some 6, some 8] rfl rfl rfl rfl rfl rfl fun G a w S => ?_
    refine sIdxV (v := .slice ad21 r8.1.rows.length cp22) (k := .i64) (j := w64 (p1 + 1)) S (wN rfl) rfl rfl rfl hq54 rfl (lb rfl) fun a S => ?_
    exact leafL ⟨rfl, S⟩
  · refine fI 35 (iv x45) [(34, q53)] 10 [some 9] rfl rfl rfl rfl rfl rfl fun G a w S => ?_
    refine sLoadV1 (vq := q53) 0 (iv x45) S (wN rfl) rfl rfl rfl rfl rfl (lb rfl) fun a S => ?_
    exact leafL ⟨rfl, S⟩
  · refine fI 4 (iv x40) [(29, iv x40)] 11 [some 4] rfl rfl rfl rfl rfl rfl fun G a w S => ?_
    refine sMove (iv x40) S (wN rfl) (.inr rfl) rfl rfl (lb rfl) fun a S => ?_
    exact leafL ⟨rfl, S⟩
  · refine fI 5 (iv x45) [(35, iv x45)] 12 [some 10] rfl rfl rfl rfl rfl rfl fun G a w S => ?_
    refine sMove (iv x45) S (wN rfl) (.inr rfl) rfl rfl (lb rfl) fun a S => ?_
    exact leafL ⟨rfl, S⟩
  · refine fI 6 (iv 0) [] 13 [] rfl rfl rfl rfl rfl rfl fun G a w S => ?_
    refine sMove (iv 0) S (wN rfl) (.inr rfl) rfl rfl (lb rfl) fun a S => ?_
    exact leafL ⟨rfl, S⟩
  refine leafT (hK39 _ _ ?_)
  obtain rfl := Option.some.inj h
  exact wp_ret (sRet (.tuple #[iv x40, iv x45, iv 0]) S (rsl3 rfl (rvT (t := 4) (v := iv x40) S rfl) (rvT (t := 5) (v := iv x45) S rfl) (rvT (t := 6) (v := iv 0) S rfl)) ⟨(), rfl, S.mem.sel [] [] (by decide) rfl rfl⟩)

end Go.Proofs.Yticjoiolfibmlaa
namespace Go.Proofs.Yticjoiolfibmlaa
open Go.RowKit
set_option linter.unusedVariables false

def anc_raddleref27_Row_0 : List (List Nat) := [[], [0], [], [0, 1, 2], [0, 1, 2, 3], [], [5], [], [7], [5, 6, 7, 8], [5, 6, 7, 8, 9], [0, 1, 2, 3, 4], [0, 1, 2, 3, 4, 5, 6, 7, 8, 9, 10, 11], [0, 1, 2, 3, 4, 5, 6, 7, 8, 9, 10, 11, 12]]
noncomputable def F_raddleref27_Row (p0 : api_Chart) (p1 : Int) : Option (Int × Int × Int) :=
  Option.bind (F_raddleref26_Check p0) fun r9 =>
  if r9 != 0 then
    some (0, 0, r9)
  else
    Option.bind (α := Bool) (
      if decide (p1 < 0) then
        some true
      else
        some (decide ((p0.Rows.length : Int) < p1))) fun o14 =>
    if o14 then
      some (0, 0, 2)
    else
      Option.bind (F_raddleref27_Work p0) fun r21 =>
      Option.bind (idxO r21.Rows p1) fun x42 =>
      Option.bind (idxO r21.Rows (w64 (p1 + 1))) fun x47 =>
      some (x42, x47, 0)
set_option maxHeartbeats 4000000 in
set_option maxRecDepth 100000 in
theorem c_raddleref27_Row (E : Nat → Prop) (w0 : World) (p0 : api_Chart) (v0 : Value) (p1 : Int) (r : (Int × Int × Int)) (h : F_raddleref27_Row p0 p1 = some r) (S : St0 E [] w0 w0 [] [fRep r_api_Chart (v0) p0]) :
    Calls Try.prog 23 #[v0, iv p1] w0 (Ret (X := Unit) E [] w0 (fun _ => .tuple #[.int .i64 r.1, .int .i64 r.2.1, .int .i64 r.2.2]) (fun _ => []) (fun _ => [])) := by
  unfold F_raddleref27_Row at h
  obtain ⟨u1, rfl, hu2⟩ := S.know (i := 0) (e := fRep r_api_Chart (v0) p0) rfl
  have S := S.learn (fRep (rL r_api_Row) u1 p0.Rows) hu2
  obtain ⟨ad3, cp4, _, rfl, _⟩ := hu2
  refine sEnter (args := [.agg #[iv p0.Start, .slice ad3 p0.Rows.length cp4], iv p1]) 35 Try.func23 rfl rfl (by simp) S (fun a S => ?_)
  refine sSeq (fun K5 hK5 => ?_)
  refine sRegion ?_
  refine sBox (v := .agg #[iv p0.Start, .slice ad3 p0.Rows.length cp4]) S (wN rfl) rfl rfl [iv p0.Start, .slice ad3 p0.Rows.length cp4] rfl rfl (lb rfl) fun a b6 w S => ?_
  refine sMove (iv 0) S (wN rfl) (.inr rfl) rfl rfl (lb rfl) fun a S => ?_
  refine sMove (iv 0) S (wN rfl) (.inr rfl) rfl rfl (lb rfl) fun a S => ?_
  refine sMove (iv 0) S (wN rfl) (.inr rfl) rfl rfl (lb rfl) fun a S => ?_
  refine leafL (leafT (hK5 _ _ ?_))
  refine sSeq (fun K7 hK7 => ?_)
  refine sSeq (fun K8 hK8 => ?_)
  refine sRegion ?_
  refine sLoadN (p := b6) (off := 0) (T := 24) (vs := [iv p0.Start, .slice ad3 p0.Rows.length cp4]) 0 [iv p0.Start, .slice ad3 p0.Rows.length cp4] S (wN rfl) rfl rfl rfl rfl rfl rfl rfl (lb rfl) fun a S => ?_
  obtain ⟨r9, hx10, h⟩ := bindSome h
  have S1 := S.mem
  refine sCallQ (X := Unit) (f := 21) (vs := [.agg #[iv p0.Start, .slice ad3 p0.Rows.length cp4]]) (val := fun _ => iv r9) S (wN rfl) rfl callee21 rfl (S1.quiet [1] rfl) (fun E1 w1 S1 => c_raddleref26_Check E1 w1 p0 (.agg #[iv p0.Start, .slice ad3 p0.Rows.length cp4]) r9 hx10 S1) rfl (lb rfl) fun _ a w S => ?_
  refine sBin (.bool (r9 != 0)) S (wN rfl) rfl rfl rfl (bNe _ _ _ _ .i64 r9 0) rfl (lb rfl) fun a S => ?_
  refine leafL (leafT (hK8 _ _ ?_))
  rcases iteSome h with ⟨hc11, h⟩ | ⟨hc11, h⟩
  · refine sCondT S rfl hc11 ?_
    refine sSeq (fun K12 hK12 => ?_)
    refine sRegion ?_
    refine sLoadN (p := b6) (off := 0) (T := 24) (vs := [iv p0.Start, .slice ad3 p0.Rows.length cp4]) 0 [iv p0.Start, .slice ad3 p0.Rows.length cp4] S (wN rfl) rfl rfl rfl rfl rfl rfl rfl (lb rfl) fun a S => ?_
    have S1 := S.mem
    refine sCallQ (X := Unit) (f := 21) (vs := [.agg #[iv p0.Start, .slice ad3 p0.Rows.length cp4]]) (val := fun _ => iv r9) S (wN rfl) rfl callee21 rfl (S1.quiet [1] rfl) (fun E1 w1 S1 => c_raddleref26_Check E1 w1 p0 (.agg #[iv p0.Start, .slice ad3 p0.Rows.length cp4]) r9 hx10 S1) rfl (lb rfl) fun _ a w S => ?_
    refine sMove (iv 0) S (wN rfl) (.inr rfl) rfl rfl (lb rfl) fun a S => ?_
    refine sMove (iv 0) S (wN rfl) (.inr rfl) rfl rfl (lb rfl) fun a S => ?_
    refine sMove (iv r9) S (wN rfl) (.inr rfl) rfl rfl (lb rfl) fun a S => ?_
    refine leafL (leafT (hK12 _ _ ?_))
    obtain rfl := Option.some.inj h
    exact wp_ret (rThen (sRet (.tuple #[iv 0, iv 0, iv r9]) S (rsl3 rfl (rvT (t := 4) (v := iv 0) S rfl) (rvT (t := 5) (v := iv 0) S rfl) (rvT (t := 6) (v := iv r9) S rfl)) ⟨(), rfl, S.mem.sel [] [] (by decide) rfl rfl⟩))
  refine sCondF S rfl hc11 ?_
  refine wp_skip (leafT (hK7 _ _ ?_))
  refine sSeq (fun K13 hK13 => ?_)
  obtain ⟨t15, h, g16⟩ := bindSome h
  refine sCut (fun a w => ∃ o14, o14 = t15 ∧ St [] E [] w0 35 a w [(1, iv p1), (2, .pointer (some ⟨b6, 0, none⟩)), (21, .bool o14)] [eBox b6 24 [iv p0.Start, .slice ad3 p0.Rows.length cp4]] [fRep (rL r_api_Row) (.slice ad3 p0.Rows.length cp4) p0.Rows]) ?_ (fun a w hI => ?_)
  · refine sRegion ?_
    refine sMove (iv p1) S (wN rfl) (.inl rfl) rfl rfl (lb rfl) fun a S => ?_
    refine sBin (.bool (decide (p1 < 0))) S (wN rfl) rfl rfl rfl (bLt _ _ _ _ .i64 p1 0) rfl (lb rfl) fun a S => ?_
    refine sMove (.bool (decide (p1 < 0))) S (wN rfl) (.inl rfl) rfl rfl (lb rfl) fun a S => ?_
    rcases iteSome h with ⟨hc17, h⟩ | ⟨hc17, h⟩
    · refine sSkip 2 false 15 16 S rfl rfl rfl hc17 rfl (lb rfl) fun a S => ?_
      refine sSkip 2 false 15 17 S rfl rfl rfl hc17 rfl (lb rfl) fun a S => ?_
      refine sSkip 2 false 15 18 S rfl rfl rfl hc17 rfl (lb rfl) fun a S => ?_
      refine sSkip 2 false 15 19 S rfl rfl rfl hc17 rfl (lb rfl) fun a S => ?_
      refine sSkip 2 false 15 20 S rfl rfl rfl hc17 rfl (lb rfl) fun a S => ?_
      refine sPickT (.bool true) S (wN rfl) rfl rfl hc17 rfl rfl (lb rfl) fun a S => ?_
      exact leafL (leafT (⟨true, Option.some.inj h, S.fix [0] [0] (by decide) rfl rfl rfl⟩))
    refine sMove (iv p1) S (wG 2 false 15 rfl rfl rfl hc17) (.inl rfl) rfl rfl (lb rfl) fun a S => ?_
    refine sField (b := b6) (off := 0) 1 1 S (wG 2 false 15 rfl rfl rfl hc17) rfl rfl rfl rfl rfl (lb rfl) fun a S => ?_
    refine sLoad1 (p := b6) (off := 1) (T := 24) (vs := [iv p0.Start, .slice ad3 p0.Rows.length cp4]) 0 (.slice ad3 p0.Rows.length cp4) S (wG 2 false 15 rfl rfl rfl hc17) rfl rfl rfl rfl rfl rfl (lb rfl) fun a S => ?_
    refine sLen (ad := ad3) (m := p0.Rows.length) (c := cp4) S (wG 2 false 15 rfl rfl rfl hc17) rfl Try.underlying22 rfl rfl (lb rfl) fun a S => ?_
    refine sBin (.bool (decide ((p0.Rows.length : Int) < p1))) S (wG 2 false 15 rfl rfl rfl hc17) rfl rfl rfl (bGt _ _ _ _ .i64 p1 (p0.Rows.length : Int)) rfl (lb rfl) fun a S => ?_
    refine sPickF (.bool (decide ((p0.Rows.length : Int) < p1))) S (wN rfl) rfl rfl hc17 rfl rfl (lb rfl) fun a S => ?_
    exact leafL (leafT (⟨decide ((p0.Rows.length : Int) < p1), Option.some.inj h, S.fix [0] [0] (by decide) rfl rfl rfl⟩))
  obtain ⟨o14, rfl, S⟩ := hI
  have h := g16
  clear g16
  try dsimp only at h
  rcases iteSome h with ⟨hc18, h⟩ | ⟨hc18, h⟩
  · refine sCondT S rfl hc18 ?_
    refine sSeq (fun K19 hK19 => ?_)
    refine sRegion ?_
    refine sMove (iv 0) S (wN rfl) (.inr rfl) rfl rfl (lb rfl) fun a S => ?_
    refine sMove (iv 0) S (wN rfl) (.inr rfl) rfl rfl (lb rfl) fun a S => ?_
    refine sMove (iv 2) S (wN rfl) (.inr rfl) rfl rfl (lb rfl) fun a S => ?_
    refine leafL (leafT (hK19 _ _ ?_))
    obtain rfl := Option.some.inj h
    exact wp_ret (rThen (sRet (.tuple #[iv 0, iv 0, iv 2]) S (rsl3 rfl (rvT (t := 4) (v := iv 0) S rfl) (rvT (t := 5) (v := iv 0) S rfl) (rvT (t := 6) (v := iv 2) S rfl)) ⟨(), rfl, S.mem.sel [] [] (by decide) rfl rfl⟩))
  refine sCondF S rfl hc18 ?_
  refine wp_skip (leafT (hK13 _ _ ?_))
  refine sSeq (fun K20 hK20 => ?_)
  refine sRegion ?_
  refine sLoadN (p := b6) (off := 0) (T := 24) (vs := [iv p0.Start, .slice ad3 p0.Rows.length cp4]) 0 [iv p0.Start, .slice ad3 p0.Rows.length cp4] S (wN rfl) rfl rfl rfl rfl rfl rfl rfl (lb rfl) fun a S => ?_
  obtain ⟨r21, hx22, h⟩ := bindSome h
  have S := S.learn (fRep r_api_Chart (.agg #[iv p0.Start, .slice ad3 p0.Rows.length cp4]) p0) ⟨_, rfl, S.mem.know (i := 0) (e := fRep (rL r_api_Row) (.slice ad3 p0.Rows.length cp4) p0.Rows) rfl⟩
  refine sCall (X := Value) (f := 34) (vs := [.agg #[iv p0.Start, .slice ad3 p0.Rows.length cp4]]) (val := c_raddleref27_Work_val r21) (B' := fun _ => []) (D' := c_raddleref27_Work_D r21) [] [eBox b6 24 [iv p0.Start, .slice ad3 p0.Rows.length cp4]] [fRep r_api_Chart (.agg #[iv p0.Start, .slice ad3 p0.Rows.length cp4]) p0] [0] [0] S (wN rfl) rfl callee34 rfl (by decide) rfl rfl (fun E1 w1 S1 => c_raddleref27_Work E1 w1 p0 (.agg #[iv p0.Start, .slice ad3 p0.Rows.length cp4]) r21 hx22 S1) rfl (lb rfl) fun u23 a w S => ?_
  obtain ⟨u24, u25, u26, u27, rfl, hu28, hu29, hu30, hu31⟩ := S.mem.know (i := 0) (e := fRep r_raddleref27_Piece (u23) r21) rfl
  have S := S.learn (fRep (rL r_api_Loop) u24 r21.Loops) hu28
  obtain ⟨ad32, cp33, _, rfl, _⟩ := hu28
  have S := S.learn (fRep (rL (rI .i64)) u25 r21.Bound) hu29
  obtain ⟨ad34, cp35, _, rfl, _⟩ := hu29
  have S := S.learn (fRep (rL r_A2_Int) u26 r21.Cross) hu30
  obtain ⟨ad36, cp37, _, rfl, _⟩ := hu30
  have S := S.learn (fRep (rL (rI .i64)) u27 r21.Rows) hu31
  obtain ⟨ad38, cp39, _, rfl, _⟩ := hu31
  refine sAlloc (.agg #[.slice none 0 0, .slice none 0 0, .slice none 0 0, .slice none 0 0]) S (wN rfl) rfl rfl [.slice none 0 0, .slice none 0 0, .slice none 0 0, .slice none 0 0] rfl rfl (lb rfl) fun a b40 w S => ?_
  refine sStore (p := b40) (off := 0) (T := 77) (vs := [.slice none 0 0, .slice none 0 0, .slice none 0 0, .slice none 0 0]) (v := .agg #[.slice ad32 r21.Loops.length cp33, .slice ad34 r21.Bound.length cp35, .slice ad36 r21.Cross.length cp37, .slice ad38 r21.Rows.length cp39]) 0 [.slice ad32 r21.Loops.length cp33, .slice ad34 r21.Bound.length cp35, .slice ad36 r21.Cross.length cp37, .slice ad38 r21.Rows.length cp39] S (wN rfl) rfl rfl rfl rfl rfl rfl rfl (by simp) rfl fun a w S => ?_
  refine leafL (leafT (hK20 _ _ ?_))
  refine sSeq (fun K41 hK41 => ?_)
  obtain ⟨x42, hx43, h⟩ := bindSome h
  obtain ⟨x47, hx48, h⟩ := bindSome h
  obtain ⟨q52, hq53, S⟩ := pIdx (P := Try.prog) (r := (rI .i64)) (v := .slice ad38 r21.Rows.length cp39) (xs := r21.Rows) (j := p1) 32 3 0 S Try.underlying32 rfl rfl hx43
  obtain ⟨u54, S⟩ := pLoad (r := (rI .i64)) (q := q52) (x := x42) 0 S rfl
  obtain rfl : u54 = iv x42 := S.mem.know (i := 1) (e := fRep (rI .i64) (u54) x42) rfl
  obtain ⟨q55, hq56, S⟩ := pIdx (P := Try.prog) (r := (rI .i64)) (v := .slice ad38 r21.Rows.length cp39) (xs := r21.Rows) (j := w64 (p1 + 1)) 32 3 3 S Try.underlying32 rfl rfl hx48
  obtain ⟨u57, S⟩ := pLoad (r := (rI .i64)) (q := q55) (x := x47) 0 S rfl
  obtain rfl : u57 = iv x47 := S.mem.know (i := 1) (e := fRep (rI .i64) (u57) x47) rfl
  refine sDraw (nf := []) (W := [(0, 24, .pointer (some ⟨b40, 3, none⟩)), (1, 25, .slice ad38 r21.Rows.length cp39), (2, 26, iv p1), (3, 27, q52), (4, 28, iv x42), (5, 29, .pointer (some ⟨b40, 3, none⟩)), (6, 30, .slice ad38 r21.Rows.length cp39), (7, 31, iv p1), (8, 32, iv (w64 (p1 + 1))), (9, 33, q55), (10, 34, iv x47), (11, 4, iv x42), (12, 5, iv x47), (13, 6, iv 0)]) rfl S ?_
  refine node_by (A := anc_raddleref27_Row_0) (nf := []) (Y := []) (W := [(0, 24, .pointer (some ⟨b40, 3, none⟩)), (1, 25, .slice ad38 r21.Rows.length cp39), (2, 26, iv p1), (3, 27, q52), (4, 28, iv x42), (5, 29, .pointer (some ⟨b40, 3, none⟩)), (6, 30, .slice ad38 r21.Rows.length cp39), (7, 31, iv p1), (8, 32, iv (w64 (p1 + 1))), (9, 33, q55), (10, 34, iv x47), (11, 4, iv x42), (12, 5, iv x47), (13, 6, iv 0)]) 14 (by kernel_rfl) (by kernel_rfl) (by kernel_rfl) (by kernel_rfl) (by kernel_rfl) [0, 1, 2, 3, 4, 5, 6, 7, 8, 9, 10, 11, 12, 13] (by kernel_rfl) (by decide) (by decide) (aF 0 13 (by decide) ?_ (aF 1 12 (by decide) ?_ (aF 2 11 (by decide) ?_ (aF 3 10 (by decide) ?_ (aF 4 9 (by decide) ?_ (aF 5 8 (by decide) ?_ (aF 6 7 (by decide) ?_ (aF 7 6 (by decide) ?_ (aF 8 5 (by decide) ?_ (aF 9 4 (by decide) ?_ (aF 10 3 (by decide) ?_ (aF 11 2 (by decide) ?_ (aF 12 1 (by decide) ?_ (aF 13 0 (by decide) ?_ (trivial))))))))))))))) [(4, iv x42), (5, iv x47), (6, iv 0)] (fin_of [some 11, some 12, some 13] rfl (by kernel_rfl) (by kernel_rfl)) (fun _ a w S => ?_)
  · refine fI 24 (.pointer (some ⟨b40, 3, none⟩)) [(7, .pointer (some ⟨b40, 0, none⟩))] 0 [none] rfl rfl rfl rfl rfl rfl fun G a w S => ?_
    refine sField (b := b40) (off := 0) 3 3 S (wN rfl) rfl rfl rfl rfl rfl (lb rfl) fun a S => ?_
    exact leafL ⟨rfl, S⟩
  · refine fI 25 (.slice ad38 r21.Rows.length cp39) [(24, .pointer (some ⟨b40, 3, none⟩))] 1 [some 0] rfl rfl rfl rfl rfl rfl fun G a w S => ?_
    refine sLoad1 (p := b40) (off := 3) (T := 77) (vs := [.slice ad32 r21.Loops.length cp33, .slice ad34 r21.Bound.length cp35, .slice ad36 r21.Cross.length cp37, .slice ad38 r21.Rows.length cp39]) 0 (.slice ad38 r21.Rows.length cp39) S (wN rfl) rfl rfl rfl rfl rfl rfl (lb rfl) fun a S => ?_
    exact leafL ⟨rfl, S⟩
  · refine fI 26 (iv p1) [(1, iv p1)] 2 [none] rfl rfl rfl rfl rfl rfl fun G a w S => ?_
    refine sMove (iv p1) S (wN rfl) (.inl rfl) rfl rfl (lb rfl) fun a S => ?_
    exact leafL ⟨rfl, S⟩
  · refine fI 27 q52 [(25, .slice ad38 r21.Rows.length cp39), (26, iv p1)] 3 [some 1, some 2] rfl rfl rfl rfl rfl rfl fun G a w S => ?_
    refine sIdxV (v := .slice ad38 r21.Rows.length cp39) (k := .i64) (j := p1) S (wN rfl) rfl rfl rfl hq53 rfl (lb rfl) fun a S => ?_
    exact leafL ⟨rfl, S⟩
  · refine fI 28 (iv x42) [(27, q52)] 4 [some 3] rfl rfl rfl rfl rfl rfl fun G a w S => ?_
    refine sLoadV1 (vq := q52) 3 (iv x42) S (wN rfl) rfl rfl rfl rfl rfl (lb rfl) fun a S => ?_
    exact leafL ⟨rfl, S⟩
  · refine fI 29 (.pointer (some ⟨b40, 3, none⟩)) [(7, .pointer (some ⟨b40, 0, none⟩))] 5 [none] rfl rfl rfl rfl rfl rfl fun G a w S => ?_
    refine sField (b := b40) (off := 0) 3 3 S (wN rfl) rfl rfl rfl rfl rfl (lb rfl) fun a S => ?_
    exact leafL ⟨rfl, S⟩
  · refine fI 30 (.slice ad38 r21.Rows.length cp39) [(29, .pointer (some ⟨b40, 3, none⟩))] 6 [some 5] rfl rfl rfl rfl rfl rfl fun G a w S => ?_
    refine sLoad1 (p := b40) (off := 3) (T := 77) (vs := [.slice ad32 r21.Loops.length cp33, .slice ad34 r21.Bound.length cp35, .slice ad36 r21.Cross.length cp37, .slice ad38 r21.Rows.length cp39]) 0 (.slice ad38 r21.Rows.length cp39) S (wN rfl) rfl rfl rfl rfl rfl rfl (lb rfl) fun a S => ?_
    exact leafL ⟨rfl, S⟩
  · refine fI 31 (iv p1) [(1, iv p1)] 7 [none] rfl rfl rfl rfl rfl rfl fun G a w S => ?_
    refine sMove (iv p1) S (wN rfl) (.inl rfl) rfl rfl (lb rfl) fun a S => ?_
    exact leafL ⟨rfl, S⟩
  · refine fI 32 (iv (w64 (p1 + 1))) [(31, iv p1)] 8 [some 7] rfl rfl rfl rfl rfl rfl fun G a w S => ?_
    refine sBin (iv (w64 (p1 + 1))) S (wN rfl) rfl rfl rfl (bAdd _ _ _ _ p1 1) rfl (lb rfl) fun a S => ?_
    exact leafL ⟨rfl, S⟩
  · refine fI 33 q55 [(30, .slice ad38 r21.Rows.length cp39), (32, iv (w64 (p1 + 1)))] 9 [some 6, some 8] rfl rfl rfl rfl rfl rfl fun G a w S => ?_
    refine sIdxV (v := .slice ad38 r21.Rows.length cp39) (k := .i64) (j := w64 (p1 + 1)) S (wN rfl) rfl rfl rfl hq56 rfl (lb rfl) fun a S => ?_
    exact leafL ⟨rfl, S⟩
  · refine fI 34 (iv x47) [(33, q55)] 10 [some 9] rfl rfl rfl rfl rfl rfl fun G a w S => ?_
    refine sLoadV1 (vq := q55) 0 (iv x47) S (wN rfl) rfl rfl rfl rfl rfl (lb rfl) fun a S => ?_
    exact leafL ⟨rfl, S⟩
  · refine fI 4 (iv x42) [(28, iv x42)] 11 [some 4] rfl rfl rfl rfl rfl rfl fun G a w S => ?_
    refine sMove (iv x42) S (wN rfl) (.inr rfl) rfl rfl (lb rfl) fun a S => ?_
    exact leafL ⟨rfl, S⟩
  · refine fI 5 (iv x47) [(34, iv x47)] 12 [some 10] rfl rfl rfl rfl rfl rfl fun G a w S => ?_
    refine sMove (iv x47) S (wN rfl) (.inr rfl) rfl rfl (lb rfl) fun a S => ?_
    exact leafL ⟨rfl, S⟩
  · refine fI 6 (iv 0) [] 13 [] rfl rfl rfl rfl rfl rfl fun G a w S => ?_
    refine sMove (iv 0) S (wN rfl) (.inr rfl) rfl rfl (lb rfl) fun a S => ?_
    exact leafL ⟨rfl, S⟩
  refine leafT (hK41 _ _ ?_)
  obtain rfl := Option.some.inj h
  exact wp_ret (sRet (.tuple #[iv x42, iv x47, iv 0]) S (rsl3 rfl (rvT (t := 4) (v := iv x42) S rfl) (rvT (t := 5) (v := iv x47) S rfl) (rvT (t := 6) (v := iv 0) S rfl)) ⟨(), rfl, S.mem.sel [] [] (by decide) rfl rfl⟩)

end Go.Proofs.Yticjoiolfibmlaa
namespace Go.Proofs.Yticjoiolfibmlaa
open Go.RowKit
set_option linter.unusedVariables false

noncomputable def slices_Index___int_int__l1 (p0 : (List Int)) (p1 : Int) : Int → Option (Int ⊕ (Int ⊕ Unit)) := fun s0 => match s0 with
  | s7 =>
    if decide (s7 < (p0.length : Int)) then
      Option.bind (idxO p0 s7) fun x17 =>
      if p1 == x17 then
        some (.inr (.inl s7))
      else
        some (.inl (w64 (s7 + 1)))
    else
      some (.inr (.inr ()))
noncomputable def F_slices_Index___int_int_ (p0 : (List Int)) (p1 : Int) : Option Int :=
  Option.bind (α := Unit ⊕ Int) (
    Option.bind (whileO (slices_Index___int_int__l1 p0 p1) 0) fun z0 => match z0 with
      | .inl z =>
        some (.inr z)
      | .inr _ =>
        some (.inl ())) fun z0 => match z0 with
    | .inl _ =>
      some (-1)
    | .inr z =>
      some z
set_option maxHeartbeats 4000000 in
set_option maxRecDepth 100000 in
theorem c_slices_Index___int_int_ (E : Nat → Prop) (w0 : World) (p0 : (List Int)) (v0 : Value) (p1 : Int) (r : Int) (h : F_slices_Index___int_int_ p0 p1 = some r) (S : St0 E [] w0 w0 [] [fRep (rL (rI .i64)) (v0) p0]) :
    Calls Try.prog 50 #[v0, iv p1] w0 (Ret (X := Unit) E [] w0 (fun _ => .int .i64 r) (fun _ => []) (fun _ => [])) := by
  unfold F_slices_Index___int_int_ at h
  obtain ⟨ad1, cp2, _, rfl, _⟩ := S.know (i := 0) (e := fRep (rL (rI .i64)) (v0) p0) rfl
  refine sEnter (args := [.slice ad1 p0.length cp2, iv p1]) 19 Try.func50 rfl rfl (by simp) S (fun a S => ?_)
  refine sSeq (fun K3 hK3 => ?_)
  refine sRegion ?_
  refine sMove (iv 0) S (wN rfl) (.inr rfl) rfl rfl (lb rfl) fun a S => ?_
  refine leafL (leafT (hK3 _ _ ?_))
  obtain ⟨t4, h, g5⟩ := bindSome h
  refine sCut (fun a w => .inl () = t4 ∧ St [] E [] w0 19 a w [] [] []) ?_ (fun a w hI => ?_)
  rotate_left
  · obtain ⟨rfl, S⟩ := hI
    have h := g5
    clear g5
    try dsimp only at h
    refine sSeq (fun K24 hK24 => ?_)
    refine sRegion ?_
    refine sMove (iv (-1)) S (wN rfl) (.inr rfl) rfl rfl (lb rfl) fun a S => ?_
    refine leafL (leafT (hK24 _ _ ?_))
    obtain rfl := Option.some.inj h
    exact wp_ret (sRet (iv (-1)) S (rsl1 rfl (rvT (t := 4) (v := iv (-1)) S rfl)) ⟨(), rfl, S.mem.sel [] [] (by decide) rfl rfl⟩)
  refine sSeq (fun K6 hK6 => ?_)
  refine sRegion ?_
  refine sMove (.slice ad1 p0.length cp2) S (wN rfl) (.inl rfl) rfl rfl (lb rfl) fun a S => ?_
  refine sLen (ad := ad1) (m := p0.length) (c := cp2) S (wN rfl) rfl Try.underlying32 rfl rfl (lb rfl) fun a S => ?_
  refine sMove (iv 0) S (wN rfl) (.inl rfl) rfl rfl (lb rfl) fun a S => ?_
  refine leafL (leafT (hK6 _ _ ?_))
  refine wp_block ?_
  obtain ⟨t10, hl, g9⟩ := bindSome h
  refine sLoop hl (fun s0 a w => match s0 with | s7 => St [] E [] w0 19 a w [(0, .slice ad1 p0.length cp2), (1, iv p1), (7, iv (p0.length : Int)), (8, iv s7)] [] [fRep (rL (rI .i64)) (.slice ad1 p0.length cp2) p0]) (S.fix [] [0] (by decide) rfl rfl rfl) ?_
  clear hl h
  intro s7 a w c0 hI h hu8
  unfold slices_Index___int_int__l1 at h
  dsimp only at h hI
  have S := hI
  refine sSeq (fun K11 hK11 => ?_)
  refine sRegion ?_
  refine sBin (.bool (decide (s7 < (p0.length : Int)))) S (wN rfl) rfl rfl rfl (bLt _ _ _ _ .i64 s7 (p0.length : Int)) rfl (lb rfl) fun a S => ?_
  refine leafL (leafT (hK11 _ _ ?_))
  refine sSeq (fun K12 hK12 => ?_)
  rcases iteSome h with ⟨hc13, h⟩ | ⟨hc13, h⟩
  rotate_left
  · refine sCondF S rfl hc13 ?_
    obtain rfl := Option.some.inj h
    obtain rfl := hu8 _ rfl
    have h := g9
    clear g9
    try dsimp only at h
    exact wp_exit (xThen (xThen (xHit (leafT (⟨Option.some.inj h, S.fix [] [] (by decide) rfl rfl rfl⟩)))))
  refine sCondT S rfl hc13 ?_
  refine wp_skip (leafT (hK12 _ _ ?_))
  refine sSeq (fun K14 hK14 => ?_)
  refine wp_block ?_
  refine sSeq (fun K15 hK15 => ?_)
  refine sRegion ?_
  refine sMove (iv s7) S (wN rfl) (.inl rfl) rfl rfl (lb rfl) fun a S => ?_
  refine sMove (iv s7) S (wN rfl) (.inr rfl) rfl rfl (lb rfl) fun a S => ?_
  refine leafL (leafT (hK15 _ _ ?_))
  refine sSeq (fun K16 hK16 => ?_)
  refine sRegion ?_
  refine sMove (iv p1) S (wN rfl) (.inl rfl) rfl rfl (lb rfl) fun a S => ?_
  refine sMove (.slice ad1 p0.length cp2) S (wN rfl) (.inl rfl) rfl rfl (lb rfl) fun a S => ?_
  refine sMove (iv s7) S (wN rfl) (.inl rfl) rfl rfl (lb rfl) fun a S => ?_
  obtain ⟨x17, hx18, h⟩ := bindSome h
  obtain ⟨q19, hq20, S⟩ := pIdx (P := Try.prog) (r := (rI .i64)) (v := .slice ad1 p0.length cp2) (xs := p0) (j := s7) 32 3 0 S Try.underlying32 rfl rfl hx18
  refine sIdxV (v := .slice ad1 p0.length cp2) (k := .i64) (j := s7) S (wN rfl) rfl rfl rfl hq20 rfl (lb rfl) fun a S => ?_
  obtain ⟨u21, S⟩ := pLoad (r := (rI .i64)) (q := q19) (x := x17) 0 S rfl
  obtain rfl : u21 = iv x17 := S.mem.know (i := 1) (e := fRep (rI .i64) (u21) x17) rfl
  refine sLoadV1 (vq := q19) 0 (iv x17) S (wN rfl) rfl rfl rfl rfl rfl (lb rfl) fun a S => ?_
  refine sBin (.bool (p1 == x17)) S (wN rfl) rfl rfl rfl (bEq _ _ _ _ .i64 p1 x17) rfl (lb rfl) fun a S => ?_
  refine leafL (leafT (hK16 _ _ ?_))
  rcases iteSome h with ⟨hc22, h⟩ | ⟨hc22, h⟩
  rotate_left
  · refine sCondF S rfl hc22 ?_
    refine wp_skip (leafB (leafT (hK14 _ _ ?_)))
    refine sRegion ?_
    refine sBin (iv (w64 (s7 + 1))) S (wN rfl) rfl rfl rfl (bAdd _ _ _ _ s7 1) rfl (lb rfl) fun a S => ?_
    refine sMove (iv (w64 (s7 + 1))) S (wN rfl) (.inl rfl) rfl rfl (lb rfl) fun a S => ?_
    exact leafL (leafT (⟨w64 (s7 + 1), (Option.some.inj h).symm, (S.fix [] [3] (by decide) rfl rfl rfl)⟩))
  refine sCondT S rfl hc22 ?_
  refine sSeq (fun K23 hK23 => ?_)
  refine sRegion ?_
  refine sMove (iv s7) S (wN rfl) (.inl rfl) rfl rfl (lb rfl) fun a S => ?_
  refine sMove (iv s7) S (wN rfl) (.inr rfl) rfl rfl (lb rfl) fun a S => ?_
  refine leafL (leafT (hK23 _ _ ?_))
  obtain rfl := Option.some.inj h
  obtain rfl := hu8 _ rfl
  have h := g9
  clear g9
  try dsimp only at h
  obtain rfl := Option.some.inj h
  have h := g5
  clear g5
  try dsimp only at h
  obtain rfl := Option.some.inj h
  exact wp_ret (rBlock (rThen (rThen (rBlock (rThen (sRet (iv s7) S (rsl1 rfl (rvT (t := 4) (v := iv s7) S rfl)) ⟨(), rfl, S.mem.sel [] [] (by decide) rfl rfl⟩))))))

end Go.Proofs.Yticjoiolfibmlaa
namespace Go.Proofs.Yticjoiolfibmlaa
open Go.RowKit
set_option linter.unusedVariables false

noncomputable def F_slices_Contains___int_int_ (p0 : (List Int)) (p1 : Int) : Option Bool :=
  Option.bind (F_slices_Index___int_int_ p0 p1) fun r5 =>
  some (decide (0 ≤ r5))
set_option maxHeartbeats 4000000 in
set_option maxRecDepth 100000 in
theorem c_slices_Contains___int_int_ (E : Nat → Prop) (w0 : World) (p0 : (List Int)) (v0 : Value) (p1 : Int) (r : Bool) (h : F_slices_Contains___int_int_ p0 p1 = some r) (S : St0 E [] w0 w0 [] [fRep (rL (rI .i64)) (v0) p0]) :
    Calls Try.prog 37 #[v0, iv p1] w0 (Ret (X := Unit) E [] w0 (fun _ => .bool r) (fun _ => []) (fun _ => [])) := by
  unfold F_slices_Contains___int_int_ at h
  obtain ⟨ad1, cp2, _, rfl, _⟩ := S.know (i := 0) (e := fRep (rL (rI .i64)) (v0) p0) rfl
  refine sEnter (args := [.slice ad1 p0.length cp2, iv p1]) 9 Try.func37 rfl rfl (by simp) S (fun a S => ?_)
  refine sSeq (fun K3 hK3 => ?_)
  refine sRegion ?_
  refine sMove (.bool false) S (wN rfl) (.inr rfl) rfl rfl (lb rfl) fun a S => ?_
  refine leafL (leafT (hK3 _ _ ?_))
  refine sSeq (fun K4 hK4 => ?_)
  refine sRegion ?_
  refine sMove (.slice ad1 p0.length cp2) S (wN rfl) (.inl rfl) rfl rfl (lb rfl) fun a S => ?_
  refine sMove (iv p1) S (wN rfl) (.inl rfl) rfl rfl (lb rfl) fun a S => ?_
  obtain ⟨r5, hx6, h⟩ := bindSome h
  have S1 := S.mem
  refine sCallQ (X := Unit) (f := 50) (vs := [.slice ad1 p0.length cp2, iv p1]) (val := fun _ => iv r5) S (wN rfl) rfl callee50 rfl (S1.quiet [0] rfl) (fun E1 w1 S1 => c_slices_Index___int_int_ E1 w1 p0 (.slice ad1 p0.length cp2) p1 r5 hx6 S1) rfl (lb rfl) fun _ a w S => ?_
  refine sBin (.bool (decide (0 ≤ r5))) S (wN rfl) rfl rfl rfl (bGe _ _ _ _ .i64 r5 0) rfl (lb rfl) fun a S => ?_
  refine sMove (.bool (decide (0 ≤ r5))) S (wN rfl) (.inr rfl) rfl rfl (lb rfl) fun a S => ?_
  refine leafL (leafT (hK4 _ _ ?_))
  obtain rfl := Option.some.inj h
  exact wp_ret (sRet (.bool (decide (0 ≤ r5))) S (rsl1 rfl (rvT (t := 4) (v := .bool (decide (0 ≤ r5))) S rfl)) ⟨(), rfl, S.mem.sel [] [] (by decide) rfl rfl⟩)

end Go.Proofs.Yticjoiolfibmlaa
namespace Go.Proofs.Yticjoiolfibmlaa
open Go.RowKit
set_option linter.unusedVariables false

noncomputable def loops_Kids_l1 (r8 : (loops_piece × Int)) (p1 : Int) : (List Int × Int) → Option ((List Int × Int) ⊕ List Int) := fun s0 => match s0 with
  | (s46, s49) =>
    if decide (s49 < (r8.1.loops.length : Int)) then
      Option.bind (α := List Int) (
        Option.bind (idxO r8.1.loops s49) fun x65 =>
        Option.bind (F_slices_Contains___int_int_ x65.Parents p1) fun r76 =>
        if r76 then
          Option.bind (appO s46 ([s49] : List Int)) fun l81 =>
          some l81
        else
          some s46) fun o59 =>
      some (.inl (o59, w64 (s49 + 1)))
    else
      some (.inr s46)
noncomputable def F_loops_Kids (p0 : api_Chart) (p1 : Int) : Option ((List Int) × Int) :=
  Option.bind (F_loops_of p0) fun r8 =>
  if r8.2 != 0 then
    some (([] : (List Int)), r8.2)
  else
    Option.bind (α := Bool) (
      if decide (p1 < 0) then
        some true
      else
        some (decide ((r8.1.loops.length : Int) ≤ p1))) fun o33 =>
    if o33 then
      some (([] : (List Int)), 2)
    else
      Option.bind (α := List Int) (
        Option.bind (whileO (loops_Kids_l1 r8 p1) (([] : List Int), 0)) fun e53 =>
          some e53) fun o40 =>
      some (o40, 0)
def c_loops_Kids_val (r : ((List Int) × Int)) (x : Value) : Value := .tuple #[x, .int .i64 r.2]
def c_loops_Kids_D (r : ((List Int) × Int)) (x : Value) : List Fact := [fRep (rL (rI .i64)) x r.1]
set_option maxHeartbeats 4000000 in
set_option maxRecDepth 100000 in
theorem c_loops_Kids (E : Nat → Prop) (w0 : World) (p0 : api_Chart) (v0 : Value) (p1 : Int) (r : ((List Int) × Int)) (h : F_loops_Kids p0 p1 = some r) (S : St0 E [] w0 w0 [] [fRep r_api_Chart (v0) p0]) :
    Calls Try.prog 24 #[v0, iv p1] w0 (Ret (X := Value) E [] w0 (c_loops_Kids_val r) (fun _ => []) (c_loops_Kids_D r)) := by
  unfold F_loops_Kids at h
  obtain ⟨u1, rfl, hu2⟩ := S.know (i := 0) (e := fRep r_api_Chart (v0) p0) rfl
  have S := S.learn (fRep (rL r_api_Row) u1 p0.Rows) hu2
  obtain ⟨ad3, cp4, _, rfl, _⟩ := hu2
  refine sEnter (args := [.agg #[iv p0.Start, .slice ad3 p0.Rows.length cp4], iv p1]) 46 Try.func24 rfl rfl (by simp) S (fun a S => ?_)
  refine sSeq (fun K5 hK5 => ?_)
  refine sRegion ?_
  refine sBox (v := .agg #[iv p0.Start, .slice ad3 p0.Rows.length cp4]) S (wN rfl) rfl rfl [iv p0.Start, .slice ad3 p0.Rows.length cp4] rfl rfl (lb rfl) fun a b6 w S => ?_
  refine sMove (.slice none 0 0) S (wN rfl) (.inr rfl) rfl rfl (lb rfl) fun a S => ?_
  refine sMove (iv 0) S (wN rfl) (.inr rfl) rfl rfl (lb rfl) fun a S => ?_
  refine leafL (leafT (hK5 _ _ ?_))
  refine sSeq (fun K7 hK7 => ?_)
  refine sRegion ?_
  refine sLoadN (p := b6) (off := 0) (T := 24) (vs := [iv p0.Start, .slice ad3 p0.Rows.length cp4]) 0 [iv p0.Start, .slice ad3 p0.Rows.length cp4] S (wN rfl) rfl rfl rfl rfl rfl rfl rfl (lb rfl) fun a S => ?_
  obtain ⟨r8, hx9, h⟩ := bindSome h
  refine sCall (X := Value) (f := 33) (vs := [.agg #[iv p0.Start, .slice ad3 p0.Rows.length cp4]]) (val := c_loops_of_val r8) (B' := fun _ => []) (D' := c_loops_of_D r8) [] [eBox b6 24 [iv p0.Start, .slice ad3 p0.Rows.length cp4]] [fRep r_api_Chart (.agg #[iv p0.Start, .slice ad3 p0.Rows.length cp4]) p0] [0] [1] S (wN rfl) rfl callee33 rfl (by decide) rfl rfl (fun E1 w1 S1 => c_loops_of E1 w1 p0 (.agg #[iv p0.Start, .slice ad3 p0.Rows.length cp4]) r8 hx9 S1) rfl (lb rfl) fun u10 a w S => ?_
  obtain ⟨u11, u12, u13, u14, rfl, hu15, hu16, hu17, hu18⟩ := S.mem.know (i := 0) (e := fRep r_loops_piece (u10) r8.1) rfl
  have S := S.learn (fRep (rL r_api_Loop) u11 r8.1.loops) hu15
  obtain ⟨ad19, cp20, _, rfl, _⟩ := hu15
  have S := S.learn (fRep (rL (rI .i64)) u12 r8.1.rows) hu16
  obtain ⟨ad21, cp22, _, rfl, _⟩ := hu16
  have S := S.learn (fRep (rL (rI .i64)) u13 r8.1.bound) hu17
  obtain ⟨ad23, cp24, _, rfl, _⟩ := hu17
  have S := S.learn (fRep (rL r_A2_Int) u14 r8.1.cross) hu18
  obtain ⟨ad25, cp26, _, rfl, _⟩ := hu18
  refine sMove (.tuple #[.agg #[.slice ad19 r8.1.loops.length cp20, .slice ad21 r8.1.rows.length cp22, .slice ad23 r8.1.bound.length cp24, .slice ad25 r8.1.cross.length cp26, iv r8.1.next], iv r8.2]) S (wN rfl) (.inl rfl) rfl rfl (lb rfl) fun a S => ?_
  refine sExtract (vs := [.agg #[.slice ad19 r8.1.loops.length cp20, .slice ad21 r8.1.rows.length cp22, .slice ad23 r8.1.bound.length cp24, .slice ad25 r8.1.cross.length cp26, iv r8.1.next], iv r8.2]) (.agg #[.slice ad19 r8.1.loops.length cp20, .slice ad21 r8.1.rows.length cp22, .slice ad23 r8.1.bound.length cp24, .slice ad25 r8.1.cross.length cp26, iv r8.1.next]) S (wN rfl) rfl rfl rfl rfl (lb rfl) fun a S => ?_
  refine sExtract (vs := [.agg #[.slice ad19 r8.1.loops.length cp20, .slice ad21 r8.1.rows.length cp22, .slice ad23 r8.1.bound.length cp24, .slice ad25 r8.1.cross.length cp26, iv r8.1.next], iv r8.2]) (iv r8.2) S (wN rfl) rfl rfl rfl rfl (lb rfl) fun a S => ?_
  refine sAlloc (.agg #[.slice none 0 0, .slice none 0 0, .slice none 0 0, .slice none 0 0, iv 0]) S (wN rfl) rfl rfl [.slice none 0 0, .slice none 0 0, .slice none 0 0, .slice none 0 0, iv 0] rfl rfl (lb rfl) fun a b27 w S => ?_
  refine sStore (p := b27) (off := 0) (T := 73) (vs := [.slice none 0 0, .slice none 0 0, .slice none 0 0, .slice none 0 0, iv 0]) (v := .agg #[.slice ad19 r8.1.loops.length cp20, .slice ad21 r8.1.rows.length cp22, .slice ad23 r8.1.bound.length cp24, .slice ad25 r8.1.cross.length cp26, iv r8.1.next]) 0 [.slice ad19 r8.1.loops.length cp20, .slice ad21 r8.1.rows.length cp22, .slice ad23 r8.1.bound.length cp24, .slice ad25 r8.1.cross.length cp26, iv r8.1.next] S (wN rfl) rfl rfl rfl rfl rfl rfl rfl (by simp) rfl fun a w S => ?_
  refine sMove (iv r8.2) S (wN rfl) (.inr rfl) rfl rfl (lb rfl) fun a S => ?_
  refine leafL (leafT (hK7 _ _ ?_))
  refine sSeq (fun K28 hK28 => ?_)
  refine sSeq (fun K29 hK29 => ?_)
  refine sRegion ?_
  refine sMove (iv r8.2) S (wN rfl) (.inl rfl) rfl rfl (lb rfl) fun a S => ?_
  refine sBin (.bool (r8.2 != 0)) S (wN rfl) rfl rfl rfl (bNe _ _ _ _ .i64 r8.2 0) rfl (lb rfl) fun a S => ?_
  refine leafL (leafT (hK29 _ _ ?_))
  rcases iteSome h with ⟨hc30, h⟩ | ⟨hc30, h⟩
  · refine sCondT S rfl hc30 ?_
    refine sSeq (fun K31 hK31 => ?_)
    refine sRegion ?_
    refine sMove (iv r8.2) S (wN rfl) (.inl rfl) rfl rfl (lb rfl) fun a S => ?_
    refine sMove (.slice none 0 0) S (wN rfl) (.inr rfl) rfl rfl (lb rfl) fun a S => ?_
    refine sMove (iv r8.2) S (wN rfl) (.inr rfl) rfl rfl (lb rfl) fun a S => ?_
    refine leafL (leafT (hK31 _ _ ?_))
    obtain rfl := Option.some.inj h
    have S := S.learn (fRep (rL (rI .i64)) (.slice none 0 0) ([] : (List Int))) (rL_nil _ _ _)
    exact wp_ret (rThen (sRet (.tuple #[.slice none 0 0, iv r8.2]) S (rsl2 rfl (rvT (t := 4) (v := .slice none 0 0) S rfl) (rvT (t := 5) (v := iv r8.2) S rfl)) ⟨(.slice none 0 0), rfl, S.mem.sel [] [0] (by decide) rfl rfl⟩))
  refine sCondF S rfl hc30 ?_
  refine wp_skip (leafT (hK28 _ _ ?_))
  refine sSeq (fun K32 hK32 => ?_)
  obtain ⟨t34, h, g35⟩ := bindSome h
  refine sCut (fun a w => ∃ o33, o33 = t34 ∧ St [] E [] w0 46 a w [(1, iv p1), (6, .pointer (some ⟨b27, 0, none⟩)), (27, .bool o33)] [eBox b27 73 [.slice ad19 r8.1.loops.length cp20, .slice ad21 r8.1.rows.length cp22, .slice ad23 r8.1.bound.length cp24, .slice ad25 r8.1.cross.length cp26, iv r8.1.next]] [fRep (rL r_api_Loop) (.slice ad19 r8.1.loops.length cp20) r8.1.loops, fRep (rL (rI .i64)) (.slice ad21 r8.1.rows.length cp22) r8.1.rows, fRep (rL (rI .i64)) (.slice ad23 r8.1.bound.length cp24) r8.1.bound, fRep (rL r_A2_Int) (.slice ad25 r8.1.cross.length cp26) r8.1.cross]) ?_ (fun a w hI => ?_)
  · refine sRegion ?_
    refine sMove (iv p1) S (wN rfl) (.inl rfl) rfl rfl (lb rfl) fun a S => ?_
    refine sBin (.bool (decide (p1 < 0))) S (wN rfl) rfl rfl rfl (bLt _ _ _ _ .i64 p1 0) rfl (lb rfl) fun a S => ?_
    refine sMove (.bool (decide (p1 < 0))) S (wN rfl) (.inl rfl) rfl rfl (lb rfl) fun a S => ?_
    rcases iteSome h with ⟨hc36, h⟩ | ⟨hc36, h⟩
    · refine sSkip 2 false 21 22 S rfl rfl rfl hc36 rfl (lb rfl) fun a S => ?_
      refine sSkip 2 false 21 23 S rfl rfl rfl hc36 rfl (lb rfl) fun a S => ?_
      refine sSkip 2 false 21 24 S rfl rfl rfl hc36 rfl (lb rfl) fun a S => ?_
      refine sSkip 2 false 21 25 S rfl rfl rfl hc36 rfl (lb rfl) fun a S => ?_
      refine sSkip 2 false 21 26 S rfl rfl rfl hc36 rfl (lb rfl) fun a S => ?_
      refine sPickT (.bool true) S (wN rfl) rfl rfl hc36 rfl rfl (lb rfl) fun a S => ?_
      exact leafL (leafT (⟨true, Option.some.inj h, S.fix [0] [3, 2, 1, 0] (by decide) rfl rfl rfl⟩))
    refine sMove (iv p1) S (wG 2 false 21 rfl rfl rfl hc36) (.inl rfl) rfl rfl (lb rfl) fun a S => ?_
    refine sField (b := b27) (off := 0) 0 0 S (wG 2 false 21 rfl rfl rfl hc36) rfl rfl rfl rfl rfl (lb rfl) fun a S => ?_
    refine sLoad1 (p := b27) (off := 0) (T := 73) (vs := [.slice ad19 r8.1.loops.length cp20, .slice ad21 r8.1.rows.length cp22, .slice ad23 r8.1.bound.length cp24, .slice ad25 r8.1.cross.length cp26, iv r8.1.next]) 0 (.slice ad19 r8.1.loops.length cp20) S (wG 2 false 21 rfl rfl rfl hc36) rfl rfl rfl rfl rfl rfl (lb rfl) fun a S => ?_
    refine sLen (ad := ad19) (m := r8.1.loops.length) (c := cp20) S (wG 2 false 21 rfl rfl rfl hc36) rfl Try.underlying26 rfl rfl (lb rfl) fun a S => ?_
    refine sBin (.bool (decide ((r8.1.loops.length : Int) ≤ p1))) S (wG 2 false 21 rfl rfl rfl hc36) rfl rfl rfl (bGe _ _ _ _ .i64 p1 (r8.1.loops.length : Int)) rfl (lb rfl) fun a S => ?_
    refine sPickF (.bool (decide ((r8.1.loops.length : Int) ≤ p1))) S (wN rfl) rfl rfl hc36 rfl rfl (lb rfl) fun a S => ?_
    exact leafL (leafT (⟨decide ((r8.1.loops.length : Int) ≤ p1), Option.some.inj h, S.fix [0] [3, 2, 1, 0] (by decide) rfl rfl rfl⟩))
  obtain ⟨o33, rfl, S⟩ := hI
  have h := g35
  clear g35
  try dsimp only at h
  rcases iteSome h with ⟨hc37, h⟩ | ⟨hc37, h⟩
  · refine sCondT S rfl hc37 ?_
    refine sSeq (fun K38 hK38 => ?_)
    refine sRegion ?_
    refine sMove (.slice none 0 0) S (wN rfl) (.inr rfl) rfl rfl (lb rfl) fun a S => ?_
    refine sMove (iv 2) S (wN rfl) (.inr rfl) rfl rfl (lb rfl) fun a S => ?_
    refine leafL (leafT (hK38 _ _ ?_))
    obtain rfl := Option.some.inj h
    have S := S.learn (fRep (rL (rI .i64)) (.slice none 0 0) ([] : (List Int))) (rL_nil _ _ _)
    exact wp_ret (rThen (sRet (.tuple #[.slice none 0 0, iv 2]) S (rsl2 rfl (rvT (t := 4) (v := .slice none 0 0) S rfl) (rvT (t := 5) (v := iv 2) S rfl)) ⟨(.slice none 0 0), rfl, S.mem.sel [] [0] (by decide) rfl rfl⟩))
  refine sCondF S rfl hc37 ?_
  refine wp_skip (leafT (hK32 _ _ ?_))
  refine sSeq (fun K39 hK39 => ?_)
  refine sRegion ?_
  refine sMove (.slice none 0 0) S (wN rfl) (.inr rfl) rfl rfl (lb rfl) fun a S => ?_
  refine leafL (leafT (hK39 _ _ ?_))
  obtain ⟨t43, h, g44⟩ := bindSome h
  refine sCut (fun a w => ∃ o40, o40 = t43 ∧ ∃ ad41, ∃ cp42, St [] E [] w0 46 a w [(8, .slice ad41 o40.length cp42)] [eRow (rI .i64) 3 (.slice ad41 o40.length cp42) o40] []) ?_ (fun a w hI => ?_)
  rotate_left
  · obtain ⟨o40, rfl, ad41, cp42, S⟩ := hI
    have h := g44
    clear g44
    try dsimp only at h
    refine sSeq (fun K85 hK85 => ?_)
    refine sRegion ?_
    refine sMove (.slice ad41 o40.length cp42) S (wN rfl) (.inl rfl) rfl rfl (lb rfl) fun a S => ?_
    refine sMove (.slice ad41 o40.length cp42) S (wN rfl) (.inr rfl) rfl rfl (lb rfl) fun a S => ?_
    refine sMove (iv 0) S (wN rfl) (.inr rfl) rfl rfl (lb rfl) fun a S => ?_
    refine leafL (leafT (hK85 _ _ ?_))
    obtain rfl := Option.some.inj h
    have S := S.shutR (r := (rI .i64)) (T := 3) (v := .slice ad41 o40.length cp42) (xs := o40) 0 rfl
    exact wp_ret (sRet (.tuple #[.slice ad41 o40.length cp42, iv 0]) S (rsl2 rfl (rvT (t := 4) (v := .slice ad41 o40.length cp42) S rfl) (rvT (t := 5) (v := iv 0) S rfl)) ⟨(.slice ad41 o40.length cp42), rfl, S.mem.sel [] [0] (by decide) rfl rfl⟩)
  refine sSeq (fun K45 hK45 => ?_)
  refine sRegion ?_
  refine sField (b := b27) (off := 0) 0 0 S (wN rfl) rfl rfl rfl rfl rfl (lb rfl) fun a S => ?_
  refine sLoad1 (p := b27) (off := 0) (T := 73) (vs := [.slice ad19 r8.1.loops.length cp20, .slice ad21 r8.1.rows.length cp22, .slice ad23 r8.1.bound.length cp24, .slice ad25 r8.1.cross.length cp26, iv r8.1.next]) 0 (.slice ad19 r8.1.loops.length cp20) S (wN rfl) rfl rfl rfl rfl rfl rfl (lb rfl) fun a S => ?_
  refine sLen (ad := ad19) (m := r8.1.loops.length) (c := cp20) S (wN rfl) rfl Try.underlying26 rfl rfl (lb rfl) fun a S => ?_
  refine sMove (iv 0) S (wN rfl) (.inl rfl) rfl rfl (lb rfl) fun a S => ?_
  refine leafL (leafT (hK45 _ _ ?_))
  refine wp_block ?_
  have S := S.nilRow (rI .i64) 3 (α := Int)
  obtain ⟨t52, hl, g51⟩ := bindSome h
  refine sLoop hl (fun s0 a w => match s0 with | (s46, s49) => ∃ ad47, ∃ cp48, St [] E [] w0 46 a w [(1, iv p1), (8, .slice ad47 s46.length cp48), (29, .slice ad19 r8.1.loops.length cp20), (30, iv (r8.1.loops.length : Int)), (31, iv s49)] [eRow (rI .i64) 3 (.slice ad47 s46.length cp48) s46] [fRep (rL r_api_Loop) (.slice ad19 r8.1.loops.length cp20) r8.1.loops]) ⟨none, 0, S.fix [0] [0] (by decide) rfl rfl rfl⟩ ?_
  clear hl h
  intro s0 a w c0 hI h hu50
  obtain ⟨s46, s49⟩ := s0
  unfold loops_Kids_l1 at h
  dsimp only at h hI
  obtain ⟨ad47, cp48, S⟩ := hI
  refine sSeq (fun K56 hK56 => ?_)
  refine sRegion ?_
  refine sBin (.bool (decide (s49 < (r8.1.loops.length : Int)))) S (wN rfl) rfl rfl rfl (bLt _ _ _ _ .i64 s49 (r8.1.loops.length : Int)) rfl (lb rfl) fun a S => ?_
  refine leafL (leafT (hK56 _ _ ?_))
  refine sSeq (fun K57 hK57 => ?_)
  rcases iteSome h with ⟨hc58, h⟩ | ⟨hc58, h⟩
  rotate_left
  · refine sCondF S rfl hc58 ?_
    obtain rfl := Option.some.inj h
    obtain rfl := hu50 _ rfl
    have h := g51
    clear g51
    try dsimp only at h
    exact wp_exit (xThen (xThen (xHit (leafT (⟨s46, Option.some.inj h, ad47, cp48, S.fix [0] [] (by decide) rfl rfl rfl⟩)))))
  refine sCondT S rfl hc58 ?_
  refine wp_skip (leafT (hK57 _ _ ?_))
  obtain ⟨t62, h, g63⟩ := bindSome h
  refine sCut (fun a w => ∃ o59, o59 = t62 ∧ ∃ ad60, ∃ cp61, St [] E [] w0 46 a w [(1, iv p1), (8, .slice ad60 o59.length cp61), (29, .slice ad19 r8.1.loops.length cp20), (30, iv (r8.1.loops.length : Int)), (31, iv s49)] [eRow (rI .i64) 3 (.slice ad60 o59.length cp61) o59] [fRep (rL r_api_Loop) (.slice ad19 r8.1.loops.length cp20) r8.1.loops]) ?_ (fun a w hI => ?_)
  rotate_left
  · obtain ⟨o59, rfl, ad60, cp61, S⟩ := hI
    have h := g63
    clear g63
    try dsimp only at h
    refine sRegion ?_
    refine sBin (iv (w64 (s49 + 1))) S (wN rfl) rfl rfl rfl (bAdd _ _ _ _ s49 1) rfl (lb rfl) fun a S => ?_
    refine sMove (iv (w64 (s49 + 1))) S (wN rfl) (.inl rfl) rfl rfl (lb rfl) fun a S => ?_
    exact leafL (leafT (⟨(o59, w64 (s49 + 1)), (Option.some.inj h).symm, ⟨ad60, cp61, S.fix [0] [0] (by decide) rfl rfl rfl⟩⟩))
  refine wp_block ?_
  refine sSeq (fun K64 hK64 => ?_)
  refine sRegion ?_
  refine sMove (iv s49) S (wN rfl) (.inl rfl) rfl rfl (lb rfl) fun a S => ?_
  obtain ⟨x65, hx66, h⟩ := bindSome h
  obtain ⟨q67, hq68, S⟩ := pIdx (P := Try.prog) (r := r_api_Loop) (v := .slice ad19 r8.1.loops.length cp20) (xs := r8.1.loops) (j := s49) 26 48 0 S Try.underlying26 rfl rfl hx66
  refine sIdxV (v := .slice ad19 r8.1.loops.length cp20) (k := .i64) (j := s49) S (wN rfl) rfl rfl rfl hq68 rfl (lb rfl) fun a S => ?_
  obtain ⟨u69, S⟩ := pLoad (r := r_api_Loop) (q := q67) (x := x65) 0 S rfl
  obtain ⟨u70, rfl, hu71⟩ := S.mem.know (i := 1) (e := fRep r_api_Loop (u69) x65) rfl
  have S := S.learn (fRep (rL (rI .i64)) u70 x65.Parents) hu71
  obtain ⟨ad72, cp73, _, rfl, _⟩ := hu71
  refine sLoadVN (vq := q67) 1 [iv x65.Row, iv x65.Cell, .slice ad72 x65.Parents.length cp73, .bool x65.Purl] S (wN rfl) rfl rfl rfl rfl rfl rfl (lb rfl) fun a S => ?_
  refine sAlloc (.agg #[iv 0, iv 0, .slice none 0 0, .bool false]) S (wN rfl) rfl rfl [iv 0, iv 0, .slice none 0 0, .bool false] rfl rfl (lb rfl) fun a b74 w S => ?_
  refine sMove (iv s49) S (wN rfl) (.inr rfl) rfl rfl (lb rfl) fun a S => ?_
  refine sStore (p := b74) (off := 0) (T := 48) (vs := [iv 0, iv 0, .slice none 0 0, .bool false]) (v := .agg #[iv x65.Row, iv x65.Cell, .slice ad72 x65.Parents.length cp73, .bool x65.Purl]) 0 [iv x65.Row, iv x65.Cell, .slice ad72 x65.Parents.length cp73, .bool x65.Purl] S (wN rfl) rfl rfl rfl rfl rfl rfl rfl (by simp) rfl fun a w S => ?_
  refine leafL (leafT (hK64 _ _ ?_))
  refine sSeq (fun K75 hK75 => ?_)
  refine sRegion ?_
  refine sField (b := b74) (off := 0) 2 2 S (wN rfl) rfl rfl rfl rfl rfl (lb rfl) fun a S => ?_
  refine sLoad1 (p := b74) (off := 2) (T := 48) (vs := [iv x65.Row, iv x65.Cell, .slice ad72 x65.Parents.length cp73, .bool x65.Purl]) 0 (.slice ad72 x65.Parents.length cp73) S (wN rfl) rfl rfl rfl rfl rfl rfl (lb rfl) fun a S => ?_
  refine sMove (iv p1) S (wN rfl) (.inl rfl) rfl rfl (lb rfl) fun a S => ?_
  obtain ⟨r76, hx77, h⟩ := bindSome h
  have S1 := S.mem
  refine sCallQ (X := Unit) (f := 37) (vs := [.slice ad72 x65.Parents.length cp73, iv p1]) (val := fun _ => .bool r76) S (wN rfl) rfl callee37 rfl (S1.quiet [0] rfl) (fun E1 w1 S1 => c_slices_Contains___int_int_ E1 w1 x65.Parents (.slice ad72 x65.Parents.length cp73) p1 r76 hx77 S1) rfl (lb rfl) fun _ a w S => ?_
  refine leafL (leafT (hK75 _ _ ?_))
  rcases iteSome h with ⟨hc78, h⟩ | ⟨hc78, h⟩
  rotate_left
  · refine sCondF S rfl hc78 ?_
    exact wp_skip (leafB (leafT (⟨s46, Option.some.inj h, ad47, cp48, S.fix [1] [4] (by decide) rfl rfl rfl⟩)))
  refine sCondT S rfl hc78 ?_
  refine sRegion ?_
  refine sMove (.slice ad47 s46.length cp48) S (wN rfl) (.inl rfl) rfl rfl (lb rfl) fun a S => ?_
  refine sMove (iv s49) S (wN rfl) (.inl rfl) rfl rfl (lb rfl) fun a S => ?_
  refine sLit (r := (rI .i64)) (T := 3) (xs := ([s49] : List Int)) [(0, iv s49)] 1 [iv s49] [iv s49] (iv 0) 8 S (wN rfl) rfl rfl Try.underlying32 rfl (by decide) (by decide) (by kernel_rfl) rfl (fun E1 w1 hE => All.cons rfl (All.nil _ _ _)) rfl rfl (lb rfl) fun a w ad79 cp80 S => ?_
  obtain ⟨l81, hx82, h⟩ := bindSome h
  refine sApp (r := (rI .i64)) (T := 3) (xs := s46) (ys := ([s49] : List Int)) (v := .slice ad47 s46.length cp48) (u := .slice ad79 ([s49] : List Int).length cp80) 2 (iv 0) 8 S (wN rfl) rfl Try.underlying32 rfl rfl (by decide) rfl rfl rfl (src_R (T := 3) 0 S.mem rfl) hx82 rfl (lb rfl) fun a w ad83 cp84 S => ?_
  refine sMove (.slice ad83 l81.length cp84) S (wN rfl) (.inr rfl) rfl rfl (lb rfl) fun a S => ?_
  exact leafL (leafB (leafT (⟨l81, Option.some.inj h, ad83, cp84, S.fix [0] [4] (by decide) rfl rfl rfl⟩)))

end Go.Proofs.Yticjoiolfibmlaa
namespace Go.Proofs.Yticjoiolfibmlaa
open Go.RowKit
set_option linter.unusedVariables false

noncomputable def raddleref27_KidsOf_l1 (p0 : raddleref27_Piece) (s29 : Int) (p1 : Int) : (List Int × Int) → Option ((List Int × Int) ⊕ List Int) := fun s0 => match s0 with
  | (s45, s48) =>
    Option.bind (idxO p0.Loops s29) fun x57 =>
    if decide (s48 < (x57.Parents.length : Int)) then
      Option.bind (α := List Int) (
        Option.bind (idxO x57.Parents s48) fun x80 =>
        if x80 == p1 then
          Option.bind (appO s45 ([s29] : List Int)) fun l88 =>
          some l88
        else
          some s45) fun o67 =>
      some (.inl (o67, w64 (s48 + 1)))
    else
      some (.inr s45)
noncomputable def raddleref27_KidsOf_l2 (p0 : raddleref27_Piece) (p1 : Int) : (List Int × Int) → Option ((List Int × Int) ⊕ List Int) := fun s0 => match s0 with
  | (s26, s29) =>
    if decide (s29 < (p0.Loops.length : Int)) then
      Option.bind (α := List Int) (
        Option.bind (whileO (raddleref27_KidsOf_l1 p0 s29 p1) (s26, 0)) fun e52 =>
          some e52) fun o39 =>
      some (.inl (o39, w64 (s29 + 1)))
    else
      some (.inr s26)
noncomputable def F_raddleref27_KidsOf (p0 : raddleref27_Piece) (p1 : Int) : Option (List Int) :=
  Option.bind (α := List Int) (
    Option.bind (whileO (raddleref27_KidsOf_l2 p0 p1) (([] : List Int), 0)) fun e33 =>
      some e33) fun o20 =>
  some o20
def c_raddleref27_KidsOf_val (r : (List Int)) (x : Value) : Value := x
def c_raddleref27_KidsOf_D (r : (List Int)) (x : Value) : List Fact := [fRep (rL (rI .i64)) x r]
set_option maxHeartbeats 4000000 in
set_option maxRecDepth 100000 in
theorem c_raddleref27_KidsOf (E : Nat → Prop) (w0 : World) (p0 : raddleref27_Piece) (v0 : Value) (p1 : Int) (r : (List Int)) (h : F_raddleref27_KidsOf p0 p1 = some r) (S : St0 E [] w0 w0 [] [fRep r_raddleref27_Piece (v0) p0]) :
    Calls Try.prog 38 #[v0, iv p1] w0 (Ret (X := Value) E [] w0 (c_raddleref27_KidsOf_val r) (fun _ => []) (c_raddleref27_KidsOf_D r)) := by
  unfold F_raddleref27_KidsOf at h
  obtain ⟨u1, u2, u3, u4, rfl, hu5, hu6, hu7, hu8⟩ := S.know (i := 0) (e := fRep r_raddleref27_Piece (v0) p0) rfl
  have S := S.learn (fRep (rL r_api_Loop) u1 p0.Loops) hu5
  obtain ⟨ad9, cp10, _, rfl, _⟩ := hu5
  have S := S.learn (fRep (rL (rI .i64)) u2 p0.Bound) hu6
  obtain ⟨ad11, cp12, _, rfl, _⟩ := hu6
  have S := S.learn (fRep (rL r_A2_Int) u3 p0.Cross) hu7
  obtain ⟨ad13, cp14, _, rfl, _⟩ := hu7
  have S := S.learn (fRep (rL (rI .i64)) u4 p0.Rows) hu8
  obtain ⟨ad15, cp16, _, rfl, _⟩ := hu8
  refine sEnter (args := [.agg #[.slice ad9 p0.Loops.length cp10, .slice ad11 p0.Bound.length cp12, .slice ad13 p0.Cross.length cp14, .slice ad15 p0.Rows.length cp16], iv p1]) 42 Try.func38 rfl rfl (by simp) S (fun a S => ?_)
  refine sSeq (fun K17 hK17 => ?_)
  refine sRegion ?_
  refine sBox (v := .agg #[.slice ad9 p0.Loops.length cp10, .slice ad11 p0.Bound.length cp12, .slice ad13 p0.Cross.length cp14, .slice ad15 p0.Rows.length cp16]) S (wN rfl) rfl rfl [.slice ad9 p0.Loops.length cp10, .slice ad11 p0.Bound.length cp12, .slice ad13 p0.Cross.length cp14, .slice ad15 p0.Rows.length cp16] rfl rfl (lb rfl) fun a b18 w S => ?_
  refine sMove (.slice none 0 0) S (wN rfl) (.inr rfl) rfl rfl (lb rfl) fun a S => ?_
  refine leafL (leafT (hK17 _ _ ?_))
  refine sSeq (fun K19 hK19 => ?_)
  refine sRegion ?_
  refine sMove (.slice none 0 0) S (wN rfl) (.inr rfl) rfl rfl (lb rfl) fun a S => ?_
  refine leafL (leafT (hK19 _ _ ?_))
  obtain ⟨t23, h, g24⟩ := bindSome h
  refine sCut (fun a w => ∃ o20, o20 = t23 ∧ ∃ ad21, ∃ cp22, St [] E [] w0 42 a w [(5, .slice ad21 o20.length cp22)] [eRow (rI .i64) 3 (.slice ad21 o20.length cp22) o20] []) ?_ (fun a w hI => ?_)
  rotate_left
  · obtain ⟨o20, rfl, ad21, cp22, S⟩ := hI
    have h := g24
    clear g24
    try dsimp only at h
    refine sSeq (fun K92 hK92 => ?_)
    refine sRegion ?_
    refine sMove (.slice ad21 o20.length cp22) S (wN rfl) (.inl rfl) rfl rfl (lb rfl) fun a S => ?_
    refine sMove (.slice ad21 o20.length cp22) S (wN rfl) (.inr rfl) rfl rfl (lb rfl) fun a S => ?_
    refine leafL (leafT (hK92 _ _ ?_))
    obtain rfl := Option.some.inj h
    have S := S.shutR (r := (rI .i64)) (T := 3) (v := .slice ad21 o20.length cp22) (xs := o20) 0 rfl
    exact wp_ret (sRet (.slice ad21 o20.length cp22) S (rsl1 rfl (rvT (t := 4) (v := .slice ad21 o20.length cp22) S rfl)) ⟨(.slice ad21 o20.length cp22), rfl, S.mem.sel [] [0] (by decide) rfl rfl⟩)
  refine sSeq (fun K25 hK25 => ?_)
  refine sRegion ?_
  refine sMove (iv 0) S (wN rfl) (.inr rfl) rfl rfl (lb rfl) fun a S => ?_
  refine leafL (leafT (hK25 _ _ ?_))
  refine wp_block ?_
  have S := S.nilRow (rI .i64) 3 (α := Int)
  obtain ⟨t32, hl, g31⟩ := bindSome h
  refine sLoop hl (fun s0 a w => match s0 with | (s26, s29) => ∃ ad27, ∃ cp28, St [] E [] w0 42 a w [(1, iv p1), (2, .pointer (some ⟨b18, 0, none⟩)), (5, .slice ad27 s26.length cp28), (6, iv s29)] [eBox b18 77 [.slice ad9 p0.Loops.length cp10, .slice ad11 p0.Bound.length cp12, .slice ad13 p0.Cross.length cp14, .slice ad15 p0.Rows.length cp16], eRow (rI .i64) 3 (.slice ad27 s26.length cp28) s26] [fRep (rL r_api_Loop) (.slice ad9 p0.Loops.length cp10) p0.Loops, fRep (rL (rI .i64)) (.slice ad11 p0.Bound.length cp12) p0.Bound, fRep (rL r_A2_Int) (.slice ad13 p0.Cross.length cp14) p0.Cross, fRep (rL (rI .i64)) (.slice ad15 p0.Rows.length cp16) p0.Rows]) ⟨none, 0, S.fix [1, 0] [3, 2, 1, 0] (by decide) rfl rfl rfl⟩ ?_
  clear hl h
  intro s0 a w c0 hI h hu30
  obtain ⟨s26, s29⟩ := s0
  unfold raddleref27_KidsOf_l2 at h
  dsimp only at h hI
  obtain ⟨ad27, cp28, S⟩ := hI
  refine sSeq (fun K36 hK36 => ?_)
  refine sSeq (fun K37 hK37 => ?_)
  refine sRegion ?_
  refine sMove (iv s29) S (wN rfl) (.inl rfl) rfl rfl (lb rfl) fun a S => ?_
  refine sField (b := b18) (off := 0) 0 0 S (wN rfl) rfl rfl rfl rfl rfl (lb rfl) fun a S => ?_
  refine sLoad1 (p := b18) (off := 0) (T := 77) (vs := [.slice ad9 p0.Loops.length cp10, .slice ad11 p0.Bound.length cp12, .slice ad13 p0.Cross.length cp14, .slice ad15 p0.Rows.length cp16]) 0 (.slice ad9 p0.Loops.length cp10) S (wN rfl) rfl rfl rfl rfl rfl rfl (lb rfl) fun a S => ?_
  refine sLen (ad := ad9) (m := p0.Loops.length) (c := cp10) S (wN rfl) rfl Try.underlying26 rfl rfl (lb rfl) fun a S => ?_
  refine sBin (.bool (decide (s29 < (p0.Loops.length : Int)))) S (wN rfl) rfl rfl rfl (bLt _ _ _ _ .i64 s29 (p0.Loops.length : Int)) rfl (lb rfl) fun a S => ?_
  refine leafL (leafT (hK37 _ _ ?_))
  rcases iteSome h with ⟨hc38, h⟩ | ⟨hc38, h⟩
  rotate_left
  · refine sCondF S rfl hc38 ?_
    obtain rfl := Option.some.inj h
    obtain rfl := hu30 _ rfl
    have h := g31
    clear g31
    try dsimp only at h
    exact wp_exit (xThen (xThen (xHit (leafT (⟨s26, Option.some.inj h, ad27, cp28, S.fix [1] [] (by decide) rfl rfl rfl⟩)))))
  refine sCondT S rfl hc38 ?_
  refine wp_skip (leafT (hK36 _ _ ?_))
  obtain ⟨t42, h, g43⟩ := bindSome h
  refine sCut (fun a w => ∃ o39, o39 = t42 ∧ ∃ ad40, ∃ cp41, St [] E [] w0 42 a w [(1, iv p1), (2, .pointer (some ⟨b18, 0, none⟩)), (5, .slice ad40 o39.length cp41), (6, iv s29)] [eBox b18 77 [.slice ad9 p0.Loops.length cp10, .slice ad11 p0.Bound.length cp12, .slice ad13 p0.Cross.length cp14, .slice ad15 p0.Rows.length cp16], eRow (rI .i64) 3 (.slice ad40 o39.length cp41) o39] [fRep (rL r_api_Loop) (.slice ad9 p0.Loops.length cp10) p0.Loops, fRep (rL (rI .i64)) (.slice ad11 p0.Bound.length cp12) p0.Bound, fRep (rL r_A2_Int) (.slice ad13 p0.Cross.length cp14) p0.Cross, fRep (rL (rI .i64)) (.slice ad15 p0.Rows.length cp16) p0.Rows]) ?_ (fun a w hI => ?_)
  rotate_left
  · obtain ⟨o39, rfl, ad40, cp41, S⟩ := hI
    have h := g43
    clear g43
    try dsimp only at h
    refine sRegion ?_
    refine sMove (iv s29) S (wN rfl) (.inl rfl) rfl rfl (lb rfl) fun a S => ?_
    refine sBin (iv (w64 (s29 + 1))) S (wN rfl) rfl rfl rfl (bAdd _ _ _ _ s29 1) rfl (lb rfl) fun a S => ?_
    refine sMove (iv (w64 (s29 + 1))) S (wN rfl) (.inr rfl) rfl rfl (lb rfl) fun a S => ?_
    exact leafL (leafT (⟨(o39, w64 (s29 + 1)), (Option.some.inj h).symm, ⟨ad40, cp41, S.fix [0, 1] [0, 1, 2, 3] (by decide) rfl rfl rfl⟩⟩))
  refine wp_block ?_
  refine sSeq (fun K44 hK44 => ?_)
  refine sRegion ?_
  refine sMove (iv 0) S (wN rfl) (.inr rfl) rfl rfl (lb rfl) fun a S => ?_
  refine leafL (leafT (hK44 _ _ ?_))
  refine wp_block ?_
  obtain ⟨t51, hl, g50⟩ := bindSome h
  refine sLoop hl (fun s0 a w => match s0 with | (s45, s48) => ∃ ad46, ∃ cp47, St [] E [] w0 42 a w [(1, iv p1), (2, .pointer (some ⟨b18, 0, none⟩)), (5, .slice ad46 s45.length cp47), (6, iv s29), (7, iv s48)] [eBox b18 77 [.slice ad9 p0.Loops.length cp10, .slice ad11 p0.Bound.length cp12, .slice ad13 p0.Cross.length cp14, .slice ad15 p0.Rows.length cp16], eRow (rI .i64) 3 (.slice ad46 s45.length cp47) s45] [fRep (rL r_api_Loop) (.slice ad9 p0.Loops.length cp10) p0.Loops, fRep (rL (rI .i64)) (.slice ad11 p0.Bound.length cp12) p0.Bound, fRep (rL r_A2_Int) (.slice ad13 p0.Cross.length cp14) p0.Cross, fRep (rL (rI .i64)) (.slice ad15 p0.Rows.length cp16) p0.Rows]) ⟨ad27, cp28, S.fix [0, 1] [0, 1, 2, 3] (by decide) rfl rfl rfl⟩ ?_
  clear hl h
  intro s0 a w c0 hI h hu49
  obtain ⟨s45, s48⟩ := s0
  unfold raddleref27_KidsOf_l1 at h
  dsimp only at h hI
  obtain ⟨ad46, cp47, S⟩ := hI
  refine sSeq (fun K55 hK55 => ?_)
  refine sSeq (fun K56 hK56 => ?_)
  refine sRegion ?_
  refine sMove (iv s48) S (wN rfl) (.inl rfl) rfl rfl (lb rfl) fun a S => ?_
  refine sField (b := b18) (off := 0) 0 0 S (wN rfl) rfl rfl rfl rfl rfl (lb rfl) fun a S => ?_
  refine sLoad1 (p := b18) (off := 0) (T := 77) (vs := [.slice ad9 p0.Loops.length cp10, .slice ad11 p0.Bound.length cp12, .slice ad13 p0.Cross.length cp14, .slice ad15 p0.Rows.length cp16]) 0 (.slice ad9 p0.Loops.length cp10) S (wN rfl) rfl rfl rfl rfl rfl rfl (lb rfl) fun a S => ?_
  refine sMove (iv s29) S (wN rfl) (.inl rfl) rfl rfl (lb rfl) fun a S => ?_
  obtain ⟨x57, hx58, h⟩ := bindSome h
  obtain ⟨q59, hq60, S⟩ := pIdx (P := Try.prog) (r := r_api_Loop) (v := .slice ad9 p0.Loops.length cp10) (xs := p0.Loops) (j := s29) 26 48 0 S Try.underlying26 rfl rfl hx58
  refine sIdxV (v := .slice ad9 p0.Loops.length cp10) (k := .i64) (j := s29) S (wN rfl) rfl rfl rfl hq60 rfl (lb rfl) fun a S => ?_
  obtain ⟨q61, hq62, S⟩ := pFld (P := Try.prog) (r := r_api_Loop) (s2 := (rL (rI .i64))) (g := (·.Parents)) (q := q59) (z := x57) 48 2 0 2 S rfl rfl comp_api_Loop_Parents
  refine sFldV (q := q59) S (wN rfl) rfl rfl hq62 rfl (lb rfl) fun a S => ?_
  obtain ⟨u63, S⟩ := pLoad (r := (rL (rI .i64))) (q := q61) (x := x57.Parents) 0 S rfl
  obtain ⟨ad64, cp65, _, rfl, _⟩ := S.mem.know (i := 1) (e := fRep (rL (rI .i64)) (u63) x57.Parents) rfl
  refine sLoadV1 (vq := q61) 0 (.slice ad64 x57.Parents.length cp65) S (wN rfl) rfl rfl rfl rfl rfl (lb rfl) fun a S => ?_
  refine sLen (ad := ad64) (m := x57.Parents.length) (c := cp65) S (wN rfl) rfl Try.underlying32 rfl rfl (lb rfl) fun a S => ?_
  refine sBin (.bool (decide (s48 < (x57.Parents.length : Int)))) S (wN rfl) rfl rfl rfl (bLt _ _ _ _ .i64 s48 (x57.Parents.length : Int)) rfl (lb rfl) fun a S => ?_
  refine leafL (leafT (hK56 _ _ ?_))
  rcases iteSome h with ⟨hc66, h⟩ | ⟨hc66, h⟩
  rotate_left
  · refine sCondF S rfl hc66 ?_
    obtain rfl := Option.some.inj h
    obtain rfl := hu49 _ rfl
    have h := g50
    clear g50
    try dsimp only at h
    exact wp_exit (xThen (xThen (xHit (leafB (leafT (⟨s45, Option.some.inj h, ad46, cp47, S.fix [0, 1] [4, 5, 6, 7] (by decide) rfl rfl rfl⟩))))))
  refine sCondT S rfl hc66 ?_
  refine wp_skip (leafT (hK55 _ _ ?_))
  obtain ⟨t70, h, g71⟩ := bindSome h
  refine sCut (fun a w => ∃ o67, o67 = t70 ∧ ∃ ad68, ∃ cp69, St [] E [] w0 42 a w [(1, iv p1), (2, .pointer (some ⟨b18, 0, none⟩)), (5, .slice ad68 o67.length cp69), (6, iv s29), (7, iv s48)] [eBox b18 77 [.slice ad9 p0.Loops.length cp10, .slice ad11 p0.Bound.length cp12, .slice ad13 p0.Cross.length cp14, .slice ad15 p0.Rows.length cp16], eRow (rI .i64) 3 (.slice ad68 o67.length cp69) o67] [fRep (rL r_api_Loop) (.slice ad9 p0.Loops.length cp10) p0.Loops, fRep (rL (rI .i64)) (.slice ad11 p0.Bound.length cp12) p0.Bound, fRep (rL r_A2_Int) (.slice ad13 p0.Cross.length cp14) p0.Cross, fRep (rL (rI .i64)) (.slice ad15 p0.Rows.length cp16) p0.Rows]) ?_ (fun a w hI => ?_)
  rotate_left
  · obtain ⟨o67, rfl, ad68, cp69, S⟩ := hI
    have h := g71
    clear g71
    try dsimp only at h
    refine sRegion ?_
    refine sMove (iv s48) S (wN rfl) (.inl rfl) rfl rfl (lb rfl) fun a S => ?_
    refine sBin (iv (w64 (s48 + 1))) S (wN rfl) rfl rfl rfl (bAdd _ _ _ _ s48 1) rfl (lb rfl) fun a S => ?_
    refine sMove (iv (w64 (s48 + 1))) S (wN rfl) (.inr rfl) rfl rfl (lb rfl) fun a S => ?_
    exact leafL (leafT (⟨(o67, w64 (s48 + 1)), (Option.some.inj h).symm, ⟨ad68, cp69, S.fix [0, 1] [0, 1, 2, 3] (by decide) rfl rfl rfl⟩⟩))
  refine wp_block ?_
  refine sSeq (fun K72 hK72 => ?_)
  refine sRegion ?_
  refine sField (b := b18) (off := 0) 0 0 S (wN rfl) rfl rfl rfl rfl rfl (lb rfl) fun a S => ?_
  refine sLoad1 (p := b18) (off := 0) (T := 77) (vs := [.slice ad9 p0.Loops.length cp10, .slice ad11 p0.Bound.length cp12, .slice ad13 p0.Cross.length cp14, .slice ad15 p0.Rows.length cp16]) 0 (.slice ad9 p0.Loops.length cp10) S (wN rfl) rfl rfl rfl rfl rfl rfl (lb rfl) fun a S => ?_
  refine sMove (iv s29) S (wN rfl) (.inl rfl) rfl rfl (lb rfl) fun a S => ?_
  obtain ⟨q73, hq74, S⟩ := pIdx (P := Try.prog) (r := r_api_Loop) (v := .slice ad9 p0.Loops.length cp10) (xs := p0.Loops) (j := s29) 26 48 4 S Try.underlying26 rfl rfl hx58
  refine sIdxV (v := .slice ad9 p0.Loops.length cp10) (k := .i64) (j := s29) S (wN rfl) rfl rfl rfl hq74 rfl (lb rfl) fun a S => ?_
  obtain ⟨q75, hq76, S⟩ := pFld (P := Try.prog) (r := r_api_Loop) (s2 := (rL (rI .i64))) (g := (·.Parents)) (q := q73) (z := x57) 48 2 0 2 S rfl rfl comp_api_Loop_Parents
  refine sFldV (q := q73) S (wN rfl) rfl rfl hq76 rfl (lb rfl) fun a S => ?_
  obtain ⟨u77, S⟩ := pLoad (r := (rL (rI .i64))) (q := q75) (x := x57.Parents) 0 S rfl
  obtain ⟨ad78, cp79, _, rfl, _⟩ := S.mem.know (i := 1) (e := fRep (rL (rI .i64)) (u77) x57.Parents) rfl
  refine sLoadV1 (vq := q75) 0 (.slice ad78 x57.Parents.length cp79) S (wN rfl) rfl rfl rfl rfl rfl (lb rfl) fun a S => ?_
  refine sMove (iv s48) S (wN rfl) (.inl rfl) rfl rfl (lb rfl) fun a S => ?_
  obtain ⟨x80, hx81, h⟩ := bindSome h
  obtain ⟨q82, hq83, S⟩ := pIdx (P := Try.prog) (r := (rI .i64)) (v := .slice ad78 x57.Parents.length cp79) (xs := x57.Parents) (j := s48) 32 3 1 S Try.underlying32 rfl rfl hx81
  refine sIdxV (v := .slice ad78 x57.Parents.length cp79) (k := .i64) (j := s48) S (wN rfl) rfl rfl rfl hq83 rfl (lb rfl) fun a S => ?_
  obtain ⟨u84, S⟩ := pLoad (r := (rI .i64)) (q := q82) (x := x80) 0 S rfl
  obtain rfl : u84 = iv x80 := S.mem.know (i := 1) (e := fRep (rI .i64) (u84) x80) rfl
  refine sLoadV1 (vq := q82) 0 (iv x80) S (wN rfl) rfl rfl rfl rfl rfl (lb rfl) fun a S => ?_
  refine sMove (iv p1) S (wN rfl) (.inl rfl) rfl rfl (lb rfl) fun a S => ?_
  refine sBin (.bool (x80 == p1)) S (wN rfl) rfl rfl rfl (bEq _ _ _ _ .i64 x80 p1) rfl (lb rfl) fun a S => ?_
  refine leafL (leafT (hK72 _ _ ?_))
  rcases iteSome h with ⟨hc85, h⟩ | ⟨hc85, h⟩
  rotate_left
  · refine sCondF S rfl hc85 ?_
    exact wp_skip (leafB (leafT (⟨s45, Option.some.inj h, ad46, cp47, S.fix [0, 1] [11, 12, 13, 14] (by decide) rfl rfl rfl⟩)))
  refine sCondT S rfl hc85 ?_
  refine sRegion ?_
  refine sMove (.slice ad46 s45.length cp47) S (wN rfl) (.inl rfl) rfl rfl (lb rfl) fun a S => ?_
  refine sMove (iv s29) S (wN rfl) (.inl rfl) rfl rfl (lb rfl) fun a S => ?_
  refine sLit (r := (rI .i64)) (T := 3) (xs := ([s29] : List Int)) [(0, iv s29)] 1 [iv s29] [iv s29] (iv 0) 8 S (wN rfl) rfl rfl Try.underlying32 rfl (by decide) (by decide) (by kernel_rfl) rfl (fun E1 w1 hE => All.cons rfl (All.nil _ _ _)) rfl rfl (lb rfl) fun a w ad86 cp87 S => ?_
  obtain ⟨l88, hx89, h⟩ := bindSome h
  refine sApp (r := (rI .i64)) (T := 3) (xs := s45) (ys := ([s29] : List Int)) (v := .slice ad46 s45.length cp47) (u := .slice ad86 ([s29] : List Int).length cp87) 2 (iv 0) 8 S (wN rfl) rfl Try.underlying32 rfl rfl (by decide) rfl rfl rfl (src_R (T := 3) 0 S.mem rfl) hx89 rfl (lb rfl) fun a w ad90 cp91 S => ?_
  refine sMove (.slice ad90 l88.length cp91) S (wN rfl) (.inr rfl) rfl rfl (lb rfl) fun a S => ?_
  exact leafL (leafB (leafT (⟨l88, Option.some.inj h, ad90, cp91, S.fix [2, 0] [11, 12, 13, 14] (by decide) rfl rfl rfl⟩)))

end Go.Proofs.Yticjoiolfibmlaa
namespace Go.Proofs.Yticjoiolfibmlaa
open Go.RowKit
set_option linter.unusedVariables false

noncomputable def F_raddleref27_Kids (p0 : api_Chart) (p1 : Int) : Option ((List Int) × Int) :=
  Option.bind (F_raddleref26_Check p0) fun r9 =>
  if r9 != 0 then
    some (([] : (List Int)), r9)
  else
    Option.bind (F_raddleref27_Work p0) fun r14 =>
    Option.bind (α := Bool) (
      if decide (p1 < 0) then
        some true
      else
        some (decide ((r14.Loops.length : Int) ≤ p1))) fun o35 =>
    if o35 then
      some (([] : (List Int)), 2)
    else
      Option.bind (F_raddleref27_KidsOf r14 p1) fun r42 =>
      some (r42, 0)
def c_raddleref27_Kids_val (r : ((List Int) × Int)) (x : Value) : Value := .tuple #[x, .int .i64 r.2]
def c_raddleref27_Kids_D (r : ((List Int) × Int)) (x : Value) : List Fact := [fRep (rL (rI .i64)) x r.1]
set_option maxHeartbeats 4000000 in
set_option maxRecDepth 100000 in
theorem c_raddleref27_Kids (E : Nat → Prop) (w0 : World) (p0 : api_Chart) (v0 : Value) (p1 : Int) (r : ((List Int) × Int)) (h : F_raddleref27_Kids p0 p1 = some r) (S : St0 E [] w0 w0 [] [fRep r_api_Chart (v0) p0]) :
    Calls Try.prog 25 #[v0, iv p1] w0 (Ret (X := Value) E [] w0 (c_raddleref27_Kids_val r) (fun _ => []) (c_raddleref27_Kids_D r)) := by
  unfold F_raddleref27_Kids at h
  obtain ⟨u1, rfl, hu2⟩ := S.know (i := 0) (e := fRep r_api_Chart (v0) p0) rfl
  have S := S.learn (fRep (rL r_api_Row) u1 p0.Rows) hu2
  obtain ⟨ad3, cp4, _, rfl, _⟩ := hu2
  refine sEnter (args := [.agg #[iv p0.Start, .slice ad3 p0.Rows.length cp4], iv p1]) 26 Try.func25 rfl rfl (by simp) S (fun a S => ?_)
  refine sSeq (fun K5 hK5 => ?_)
  refine sRegion ?_
  refine sBox (v := .agg #[iv p0.Start, .slice ad3 p0.Rows.length cp4]) S (wN rfl) rfl rfl [iv p0.Start, .slice ad3 p0.Rows.length cp4] rfl rfl (lb rfl) fun a b6 w S => ?_
  refine sMove (.slice none 0 0) S (wN rfl) (.inr rfl) rfl rfl (lb rfl) fun a S => ?_
  refine sMove (iv 0) S (wN rfl) (.inr rfl) rfl rfl (lb rfl) fun a S => ?_
  refine leafL (leafT (hK5 _ _ ?_))
  refine sSeq (fun K7 hK7 => ?_)
  refine sSeq (fun K8 hK8 => ?_)
  refine sRegion ?_
  refine sLoadN (p := b6) (off := 0) (T := 24) (vs := [iv p0.Start, .slice ad3 p0.Rows.length cp4]) 0 [iv p0.Start, .slice ad3 p0.Rows.length cp4] S (wN rfl) rfl rfl rfl rfl rfl rfl rfl (lb rfl) fun a S => ?_
  obtain ⟨r9, hx10, h⟩ := bindSome h
  have S1 := S.mem
  refine sCallQ (X := Unit) (f := 21) (vs := [.agg #[iv p0.Start, .slice ad3 p0.Rows.length cp4]]) (val := fun _ => iv r9) S (wN rfl) rfl callee21 rfl (S1.quiet [1] rfl) (fun E1 w1 S1 => c_raddleref26_Check E1 w1 p0 (.agg #[iv p0.Start, .slice ad3 p0.Rows.length cp4]) r9 hx10 S1) rfl (lb rfl) fun _ a w S => ?_
  refine sBin (.bool (r9 != 0)) S (wN rfl) rfl rfl rfl (bNe _ _ _ _ .i64 r9 0) rfl (lb rfl) fun a S => ?_
  refine leafL (leafT (hK8 _ _ ?_))
  rcases iteSome h with ⟨hc11, h⟩ | ⟨hc11, h⟩
  · refine sCondT S rfl hc11 ?_
    refine sSeq (fun K12 hK12 => ?_)
    refine sRegion ?_
    refine sLoadN (p := b6) (off := 0) (T := 24) (vs := [iv p0.Start, .slice ad3 p0.Rows.length cp4]) 0 [iv p0.Start, .slice ad3 p0.Rows.length cp4] S (wN rfl) rfl rfl rfl rfl rfl rfl rfl (lb rfl) fun a S => ?_
    have S1 := S.mem
    refine sCallQ (X := Unit) (f := 21) (vs := [.agg #[iv p0.Start, .slice ad3 p0.Rows.length cp4]]) (val := fun _ => iv r9) S (wN rfl) rfl callee21 rfl (S1.quiet [1] rfl) (fun E1 w1 S1 => c_raddleref26_Check E1 w1 p0 (.agg #[iv p0.Start, .slice ad3 p0.Rows.length cp4]) r9 hx10 S1) rfl (lb rfl) fun _ a w S => ?_
    refine sMove (.slice none 0 0) S (wN rfl) (.inr rfl) rfl rfl (lb rfl) fun a S => ?_
    refine sMove (iv r9) S (wN rfl) (.inr rfl) rfl rfl (lb rfl) fun a S => ?_
    refine leafL (leafT (hK12 _ _ ?_))
    obtain rfl := Option.some.inj h
    have S := S.learn (fRep (rL (rI .i64)) (.slice none 0 0) ([] : (List Int))) (rL_nil _ _ _)
    exact wp_ret (rThen (sRet (.tuple #[.slice none 0 0, iv r9]) S (rsl2 rfl (rvT (t := 4) (v := .slice none 0 0) S rfl) (rvT (t := 5) (v := iv r9) S rfl)) ⟨(.slice none 0 0), rfl, S.mem.sel [] [0] (by decide) rfl rfl⟩))
  refine sCondF S rfl hc11 ?_
  refine wp_skip (leafT (hK7 _ _ ?_))
  refine sSeq (fun K13 hK13 => ?_)
  refine sRegion ?_
  refine sLoadN (p := b6) (off := 0) (T := 24) (vs := [iv p0.Start, .slice ad3 p0.Rows.length cp4]) 0 [iv p0.Start, .slice ad3 p0.Rows.length cp4] S (wN rfl) rfl rfl rfl rfl rfl rfl rfl (lb rfl) fun a S => ?_
  obtain ⟨r14, hx15, h⟩ := bindSome h
  refine sCall (X := Value) (f := 34) (vs := [.agg #[iv p0.Start, .slice ad3 p0.Rows.length cp4]]) (val := c_raddleref27_Work_val r14) (B' := fun _ => []) (D' := c_raddleref27_Work_D r14) [] [eBox b6 24 [iv p0.Start, .slice ad3 p0.Rows.length cp4]] [fRep r_api_Chart (.agg #[iv p0.Start, .slice ad3 p0.Rows.length cp4]) p0] [0] [1] S (wN rfl) rfl callee34 rfl (by decide) rfl rfl (fun E1 w1 S1 => c_raddleref27_Work E1 w1 p0 (.agg #[iv p0.Start, .slice ad3 p0.Rows.length cp4]) r14 hx15 S1) rfl (lb rfl) fun u16 a w S => ?_
  obtain ⟨u17, u18, u19, u20, rfl, hu21, hu22, hu23, hu24⟩ := S.mem.know (i := 0) (e := fRep r_raddleref27_Piece (u16) r14) rfl
  have S := S.learn (fRep (rL r_api_Loop) u17 r14.Loops) hu21
  obtain ⟨ad25, cp26, _, rfl, _⟩ := hu21
  have S := S.learn (fRep (rL (rI .i64)) u18 r14.Bound) hu22
  obtain ⟨ad27, cp28, _, rfl, _⟩ := hu22
  have S := S.learn (fRep (rL r_A2_Int) u19 r14.Cross) hu23
  obtain ⟨ad29, cp30, _, rfl, _⟩ := hu23
  have S := S.learn (fRep (rL (rI .i64)) u20 r14.Rows) hu24
  obtain ⟨ad31, cp32, _, rfl, _⟩ := hu24
  refine sAlloc (.agg #[.slice none 0 0, .slice none 0 0, .slice none 0 0, .slice none 0 0]) S (wN rfl) rfl rfl [.slice none 0 0, .slice none 0 0, .slice none 0 0, .slice none 0 0] rfl rfl (lb rfl) fun a b33 w S => ?_
  refine sStore (p := b33) (off := 0) (T := 77) (vs := [.slice none 0 0, .slice none 0 0, .slice none 0 0, .slice none 0 0]) (v := .agg #[.slice ad25 r14.Loops.length cp26, .slice ad27 r14.Bound.length cp28, .slice ad29 r14.Cross.length cp30, .slice ad31 r14.Rows.length cp32]) 0 [.slice ad25 r14.Loops.length cp26, .slice ad27 r14.Bound.length cp28, .slice ad29 r14.Cross.length cp30, .slice ad31 r14.Rows.length cp32] S (wN rfl) rfl rfl rfl rfl rfl rfl rfl (by simp) rfl fun a w S => ?_
  refine leafL (leafT (hK13 _ _ ?_))
  refine sSeq (fun K34 hK34 => ?_)
  obtain ⟨t36, h, g37⟩ := bindSome h
  refine sCut (fun a w => ∃ o35, o35 = t36 ∧ St [] E [] w0 26 a w [(1, iv p1), (6, .pointer (some ⟨b33, 0, none⟩)), (22, .bool o35)] [eBox b33 77 [.slice ad25 r14.Loops.length cp26, .slice ad27 r14.Bound.length cp28, .slice ad29 r14.Cross.length cp30, .slice ad31 r14.Rows.length cp32]] [fRep (rL r_api_Loop) (.slice ad25 r14.Loops.length cp26) r14.Loops, fRep (rL (rI .i64)) (.slice ad27 r14.Bound.length cp28) r14.Bound, fRep (rL r_A2_Int) (.slice ad29 r14.Cross.length cp30) r14.Cross, fRep (rL (rI .i64)) (.slice ad31 r14.Rows.length cp32) r14.Rows]) ?_ (fun a w hI => ?_)
  · refine sRegion ?_
    refine sMove (iv p1) S (wN rfl) (.inl rfl) rfl rfl (lb rfl) fun a S => ?_
    refine sBin (.bool (decide (p1 < 0))) S (wN rfl) rfl rfl rfl (bLt _ _ _ _ .i64 p1 0) rfl (lb rfl) fun a S => ?_
    refine sMove (.bool (decide (p1 < 0))) S (wN rfl) (.inl rfl) rfl rfl (lb rfl) fun a S => ?_
    rcases iteSome h with ⟨hc38, h⟩ | ⟨hc38, h⟩
    · refine sSkip 2 false 16 17 S rfl rfl rfl hc38 rfl (lb rfl) fun a S => ?_
      refine sSkip 2 false 16 18 S rfl rfl rfl hc38 rfl (lb rfl) fun a S => ?_
      refine sSkip 2 false 16 19 S rfl rfl rfl hc38 rfl (lb rfl) fun a S => ?_
      refine sSkip 2 false 16 20 S rfl rfl rfl hc38 rfl (lb rfl) fun a S => ?_
      refine sSkip 2 false 16 21 S rfl rfl rfl hc38 rfl (lb rfl) fun a S => ?_
      refine sPickT (.bool true) S (wN rfl) rfl rfl hc38 rfl rfl (lb rfl) fun a S => ?_
      exact leafL (leafT (⟨true, Option.some.inj h, S.fix [0] [3, 2, 1, 0] (by decide) rfl rfl rfl⟩))
    refine sMove (iv p1) S (wG 2 false 16 rfl rfl rfl hc38) (.inl rfl) rfl rfl (lb rfl) fun a S => ?_
    refine sField (b := b33) (off := 0) 0 0 S (wG 2 false 16 rfl rfl rfl hc38) rfl rfl rfl rfl rfl (lb rfl) fun a S => ?_
    refine sLoad1 (p := b33) (off := 0) (T := 77) (vs := [.slice ad25 r14.Loops.length cp26, .slice ad27 r14.Bound.length cp28, .slice ad29 r14.Cross.length cp30, .slice ad31 r14.Rows.length cp32]) 0 (.slice ad25 r14.Loops.length cp26) S (wG 2 false 16 rfl rfl rfl hc38) rfl rfl rfl rfl rfl rfl (lb rfl) fun a S => ?_
    refine sLen (ad := ad25) (m := r14.Loops.length) (c := cp26) S (wG 2 false 16 rfl rfl rfl hc38) rfl Try.underlying26 rfl rfl (lb rfl) fun a S => ?_
    refine sBin (.bool (decide ((r14.Loops.length : Int) ≤ p1))) S (wG 2 false 16 rfl rfl rfl hc38) rfl rfl rfl (bGe _ _ _ _ .i64 p1 (r14.Loops.length : Int)) rfl (lb rfl) fun a S => ?_
    refine sPickF (.bool (decide ((r14.Loops.length : Int) ≤ p1))) S (wN rfl) rfl rfl hc38 rfl rfl (lb rfl) fun a S => ?_
    exact leafL (leafT (⟨decide ((r14.Loops.length : Int) ≤ p1), Option.some.inj h, S.fix [0] [3, 2, 1, 0] (by decide) rfl rfl rfl⟩))
  obtain ⟨o35, rfl, S⟩ := hI
  have h := g37
  clear g37
  try dsimp only at h
  rcases iteSome h with ⟨hc39, h⟩ | ⟨hc39, h⟩
  · refine sCondT S rfl hc39 ?_
    refine sSeq (fun K40 hK40 => ?_)
    refine sRegion ?_
    refine sMove (.slice none 0 0) S (wN rfl) (.inr rfl) rfl rfl (lb rfl) fun a S => ?_
    refine sMove (iv 2) S (wN rfl) (.inr rfl) rfl rfl (lb rfl) fun a S => ?_
    refine leafL (leafT (hK40 _ _ ?_))
    obtain rfl := Option.some.inj h
    have S := S.learn (fRep (rL (rI .i64)) (.slice none 0 0) ([] : (List Int))) (rL_nil _ _ _)
    exact wp_ret (rThen (sRet (.tuple #[.slice none 0 0, iv 2]) S (rsl2 rfl (rvT (t := 4) (v := .slice none 0 0) S rfl) (rvT (t := 5) (v := iv 2) S rfl)) ⟨(.slice none 0 0), rfl, S.mem.sel [] [0] (by decide) rfl rfl⟩))
  refine sCondF S rfl hc39 ?_
  refine wp_skip (leafT (hK34 _ _ ?_))
  refine sSeq (fun K41 hK41 => ?_)
  refine sRegion ?_
  refine sLoadN (p := b33) (off := 0) (T := 77) (vs := [.slice ad25 r14.Loops.length cp26, .slice ad27 r14.Bound.length cp28, .slice ad29 r14.Cross.length cp30, .slice ad31 r14.Rows.length cp32]) 0 [.slice ad25 r14.Loops.length cp26, .slice ad27 r14.Bound.length cp28, .slice ad29 r14.Cross.length cp30, .slice ad31 r14.Rows.length cp32] S (wN rfl) rfl rfl rfl rfl rfl rfl rfl (lb rfl) fun a S => ?_
  refine sMove (iv p1) S (wN rfl) (.inl rfl) rfl rfl (lb rfl) fun a S => ?_
  obtain ⟨r42, hx43, h⟩ := bindSome h
  have S := S.learn (fRep r_raddleref27_Piece (.agg #[.slice ad25 r14.Loops.length cp26, .slice ad27 r14.Bound.length cp28, .slice ad29 r14.Cross.length cp30, .slice ad31 r14.Rows.length cp32]) r14) ⟨_, _, _, _, rfl, S.mem.know (i := 0) (e := fRep (rL r_api_Loop) (.slice ad25 r14.Loops.length cp26) r14.Loops) rfl, S.mem.know (i := 1) (e := fRep (rL (rI .i64)) (.slice ad27 r14.Bound.length cp28) r14.Bound) rfl, S.mem.know (i := 2) (e := fRep (rL r_A2_Int) (.slice ad29 r14.Cross.length cp30) r14.Cross) rfl, S.mem.know (i := 3) (e := fRep (rL (rI .i64)) (.slice ad31 r14.Rows.length cp32) r14.Rows) rfl⟩
  refine sCall (X := Value) (f := 38) (vs := [.agg #[.slice ad25 r14.Loops.length cp26, .slice ad27 r14.Bound.length cp28, .slice ad29 r14.Cross.length cp30, .slice ad31 r14.Rows.length cp32], iv p1]) (val := c_raddleref27_KidsOf_val r42) (B' := fun _ => []) (D' := c_raddleref27_KidsOf_D r42) [] [eBox b33 77 [.slice ad25 r14.Loops.length cp26, .slice ad27 r14.Bound.length cp28, .slice ad29 r14.Cross.length cp30, .slice ad31 r14.Rows.length cp32]] [fRep r_raddleref27_Piece (.agg #[.slice ad25 r14.Loops.length cp26, .slice ad27 r14.Bound.length cp28, .slice ad29 r14.Cross.length cp30, .slice ad31 r14.Rows.length cp32]) r14] [0] [0] S (wN rfl) rfl callee38 rfl (by decide) rfl rfl (fun E1 w1 S1 => c_raddleref27_KidsOf E1 w1 r14 (.agg #[.slice ad25 r14.Loops.length cp26, .slice ad27 r14.Bound.length cp28, .slice ad29 r14.Cross.length cp30, .slice ad31 r14.Rows.length cp32]) p1 r42 hx43 S1) rfl (lb rfl) fun u44 a w S => ?_
  obtain ⟨ad45, cp46, _, rfl, _⟩ := S.mem.know (i := 0) (e := fRep (rL (rI .i64)) (u44) r42) rfl
  refine sMove (.slice ad45 r42.length cp46) S (wN rfl) (.inr rfl) rfl rfl (lb rfl) fun a S => ?_
  refine sMove (iv 0) S (wN rfl) (.inr rfl) rfl rfl (lb rfl) fun a S => ?_
  refine leafL (leafT (hK41 _ _ ?_))
  obtain rfl := Option.some.inj h
  exact wp_ret (sRet (.tuple #[.slice ad45 r42.length cp46, iv 0]) S (rsl2 rfl (rvT (t := 4) (v := .slice ad45 r42.length cp46) S rfl) (rvT (t := 5) (v := iv 0) S rfl)) ⟨(.slice ad45 r42.length cp46), rfl, S.mem.sel [] [0] (by decide) rfl rfl⟩)

end Go.Proofs.Yticjoiolfibmlaa
namespace Go.Proofs.Yticjoiolfibmlaa
open Go.RowKit
set_option linter.unusedVariables false

noncomputable def F_raddlelaw27_LoopsAsk (p0 : api_Chart) (p1 : Int) (p2 : Int) : Option Bool :=
  Option.bind (F_raddleref26_Great p0) fun r9 =>
  if r9 then
    some true
  else
    Option.bind (F_loops_Row p0 p1) fun r14 =>
    Option.bind (F_raddleref27_Row p0 p1) fun r17 =>
    Option.bind (F_loops_Kids p0 p2) fun r20 =>
    Option.bind (F_raddleref27_Kids p0 p2) fun r26 =>
    Option.bind (α := Bool) (
      if r14.1 == r17.1 then
        if r14.2.1 == r17.2.1 then
          if r14.2.2 == r17.2.2 then
            Option.bind (F_raddleref26_SameInts r20.1 r26.1) fun r37 =>
            if r37 then
              some (r20.2 == r26.2)
            else
              some false
          else
            some false
        else
          some false
      else
        some false) fun o31 =>
    some o31
set_option maxHeartbeats 4000000 in
set_option maxRecDepth 100000 in
theorem c_raddlelaw27_LoopsAsk (E : Nat → Prop) (w0 : World) (p0 : api_Chart) (v0 : Value) (p1 : Int) (p2 : Int) (r : Bool) (h : F_raddlelaw27_LoopsAsk p0 p1 p2 = some r) (S : St0 E [] w0 w0 [] [fRep r_api_Chart (v0) p0]) :
    Calls Try.prog 5 #[v0, iv p1, iv p2] w0 (Ret (X := Unit) E [] w0 (fun _ => .bool r) (fun _ => []) (fun _ => [])) := by
  unfold F_raddlelaw27_LoopsAsk at h
  obtain ⟨u1, rfl, hu2⟩ := S.know (i := 0) (e := fRep r_api_Chart (v0) p0) rfl
  have S := S.learn (fRep (rL r_api_Row) u1 p0.Rows) hu2
  obtain ⟨ad3, cp4, _, rfl, _⟩ := hu2
  refine sEnter (args := [.agg #[iv p0.Start, .slice ad3 p0.Rows.length cp4], iv p1, iv p2]) 68 Try.func5 rfl rfl (by simp) S (fun a S => ?_)
  refine sSeq (fun K5 hK5 => ?_)
  refine sRegion ?_
  refine sBox (v := .agg #[iv p0.Start, .slice ad3 p0.Rows.length cp4]) S (wN rfl) rfl rfl [iv p0.Start, .slice ad3 p0.Rows.length cp4] rfl rfl (lb rfl) fun a b6 w S => ?_
  refine sMove (.bool false) S (wN rfl) (.inr rfl) rfl rfl (lb rfl) fun a S => ?_
  refine leafL (leafT (hK5 _ _ ?_))
  refine sSeq (fun K7 hK7 => ?_)
  refine sSeq (fun K8 hK8 => ?_)
  refine sRegion ?_
  refine sLoadN (p := b6) (off := 0) (T := 24) (vs := [iv p0.Start, .slice ad3 p0.Rows.length cp4]) 0 [iv p0.Start, .slice ad3 p0.Rows.length cp4] S (wN rfl) rfl rfl rfl rfl rfl rfl rfl (lb rfl) fun a S => ?_
  obtain ⟨r9, hx10, h⟩ := bindSome h
  have S1 := S.mem
  refine sCallQ (X := Unit) (f := 10) (vs := [.agg #[iv p0.Start, .slice ad3 p0.Rows.length cp4]]) (val := fun _ => .bool r9) S (wN rfl) rfl callee10 rfl (S1.quiet [1] rfl) (fun E1 w1 S1 => c_raddleref26_Great E1 w1 p0 (.agg #[iv p0.Start, .slice ad3 p0.Rows.length cp4]) r9 hx10 S1) rfl (lb rfl) fun _ a w S => ?_
  refine leafL (leafT (hK8 _ _ ?_))
  rcases iteSome h with ⟨hc11, h⟩ | ⟨hc11, h⟩
  · refine sCondT S rfl hc11 ?_
    refine sSeq (fun K12 hK12 => ?_)
    refine sRegion ?_
    refine sMove (.bool true) S (wN rfl) (.inr rfl) rfl rfl (lb rfl) fun a S => ?_
    refine leafL (leafT (hK12 _ _ ?_))
    obtain rfl := Option.some.inj h
    exact wp_ret (rThen (sRet (.bool true) S (rsl1 rfl (rvT (t := 6) (v := .bool true) S rfl)) ⟨(), rfl, S.mem.sel [] [] (by decide) rfl rfl⟩))
  refine sCondF S rfl hc11 ?_
  refine wp_skip (leafT (hK7 _ _ ?_))
  refine sSeq (fun K13 hK13 => ?_)
  refine sRegion ?_
  refine sLoadN (p := b6) (off := 0) (T := 24) (vs := [iv p0.Start, .slice ad3 p0.Rows.length cp4]) 0 [iv p0.Start, .slice ad3 p0.Rows.length cp4] S (wN rfl) rfl rfl rfl rfl rfl rfl rfl (lb rfl) fun a S => ?_
  refine sMove (iv p1) S (wN rfl) (.inl rfl) rfl rfl (lb rfl) fun a S => ?_
  obtain ⟨r14, hx15, h⟩ := bindSome h
  have S1 := S.mem
  refine sCallQ (X := Unit) (f := 22) (vs := [.agg #[iv p0.Start, .slice ad3 p0.Rows.length cp4], iv p1]) (val := fun _ => .tuple #[iv r14.1, iv r14.2.1, iv r14.2.2]) S (wN rfl) rfl callee22 rfl (S1.quiet [1] rfl) (fun E1 w1 S1 => c_loops_Row E1 w1 p0 (.agg #[iv p0.Start, .slice ad3 p0.Rows.length cp4]) p1 r14 hx15 S1) rfl (lb rfl) fun _ a w S => ?_
  refine sMove (.tuple #[iv r14.1, iv r14.2.1, iv r14.2.2]) S (wN rfl) (.inl rfl) rfl rfl (lb rfl) fun a S => ?_
  refine sExtract (vs := [iv r14.1, iv r14.2.1, iv r14.2.2]) (iv r14.1) S (wN rfl) rfl rfl rfl rfl (lb rfl) fun a S => ?_
  refine sExtract (vs := [iv r14.1, iv r14.2.1, iv r14.2.2]) (iv r14.2.1) S (wN rfl) rfl rfl rfl rfl (lb rfl) fun a S => ?_
  refine sExtract (vs := [iv r14.1, iv r14.2.1, iv r14.2.2]) (iv r14.2.2) S (wN rfl) rfl rfl rfl rfl (lb rfl) fun a S => ?_
  refine sMove (iv r14.1) S (wN rfl) (.inr rfl) rfl rfl (lb rfl) fun a S => ?_
  refine sMove (iv r14.2.1) S (wN rfl) (.inr rfl) rfl rfl (lb rfl) fun a S => ?_
  refine sMove (iv r14.2.2) S (wN rfl) (.inr rfl) rfl rfl (lb rfl) fun a S => ?_
  refine leafL (leafT (hK13 _ _ ?_))
  refine sSeq (fun K16 hK16 => ?_)
  refine sRegion ?_
  refine sLoadN (p := b6) (off := 0) (T := 24) (vs := [iv p0.Start, .slice ad3 p0.Rows.length cp4]) 0 [iv p0.Start, .slice ad3 p0.Rows.length cp4] S (wN rfl) rfl rfl rfl rfl rfl rfl rfl (lb rfl) fun a S => ?_
  refine sMove (iv p1) S (wN rfl) (.inl rfl) rfl rfl (lb rfl) fun a S => ?_
  obtain ⟨r17, hx18, h⟩ := bindSome h
  have S1 := S.mem
  refine sCallQ (X := Unit) (f := 23) (vs := [.agg #[iv p0.Start, .slice ad3 p0.Rows.length cp4], iv p1]) (val := fun _ => .tuple #[iv r17.1, iv r17.2.1, iv r17.2.2]) S (wN rfl) rfl callee23 rfl (S1.quiet [1] rfl) (fun E1 w1 S1 => c_raddleref27_Row E1 w1 p0 (.agg #[iv p0.Start, .slice ad3 p0.Rows.length cp4]) p1 r17 hx18 S1) rfl (lb rfl) fun _ a w S => ?_
  refine sMove (.tuple #[iv r17.1, iv r17.2.1, iv r17.2.2]) S (wN rfl) (.inl rfl) rfl rfl (lb rfl) fun a S => ?_
  refine sExtract (vs := [iv r17.1, iv r17.2.1, iv r17.2.2]) (iv r17.1) S (wN rfl) rfl rfl rfl rfl (lb rfl) fun a S => ?_
  refine sExtract (vs := [iv r17.1, iv r17.2.1, iv r17.2.2]) (iv r17.2.1) S (wN rfl) rfl rfl rfl rfl (lb rfl) fun a S => ?_
  refine sExtract (vs := [iv r17.1, iv r17.2.1, iv r17.2.2]) (iv r17.2.2) S (wN rfl) rfl rfl rfl rfl (lb rfl) fun a S => ?_
  refine sMove (iv r17.1) S (wN rfl) (.inr rfl) rfl rfl (lb rfl) fun a S => ?_
  refine sMove (iv r17.2.1) S (wN rfl) (.inr rfl) rfl rfl (lb rfl) fun a S => ?_
  refine sMove (iv r17.2.2) S (wN rfl) (.inr rfl) rfl rfl (lb rfl) fun a S => ?_
  refine leafL (leafT (hK16 _ _ ?_))
  refine sSeq (fun K19 hK19 => ?_)
  refine sRegion ?_
  refine sLoadN (p := b6) (off := 0) (T := 24) (vs := [iv p0.Start, .slice ad3 p0.Rows.length cp4]) 0 [iv p0.Start, .slice ad3 p0.Rows.length cp4] S (wN rfl) rfl rfl rfl rfl rfl rfl rfl (lb rfl) fun a S => ?_
  refine sMove (iv p2) S (wN rfl) (.inl rfl) rfl rfl (lb rfl) fun a S => ?_
  obtain ⟨r20, hx21, h⟩ := bindSome h
  refine sCall (X := Value) (f := 24) (vs := [.agg #[iv p0.Start, .slice ad3 p0.Rows.length cp4], iv p2]) (val := c_loops_Kids_val r20) (B' := fun _ => []) (D' := c_loops_Kids_D r20) [] [eBox b6 24 [iv p0.Start, .slice ad3 p0.Rows.length cp4]] [fRep r_api_Chart (.agg #[iv p0.Start, .slice ad3 p0.Rows.length cp4]) p0] [0] [1] S (wN rfl) rfl callee24 rfl (by decide) rfl rfl (fun E1 w1 S1 => c_loops_Kids E1 w1 p0 (.agg #[iv p0.Start, .slice ad3 p0.Rows.length cp4]) p2 r20 hx21 S1) rfl (lb rfl) fun u22 a w S => ?_
  obtain ⟨ad23, cp24, _, rfl, _⟩ := S.mem.know (i := 0) (e := fRep (rL (rI .i64)) (u22) r20.1) rfl
  refine sMove (.tuple #[.slice ad23 r20.1.length cp24, iv r20.2]) S (wN rfl) (.inl rfl) rfl rfl (lb rfl) fun a S => ?_
  refine sExtract (vs := [.slice ad23 r20.1.length cp24, iv r20.2]) (.slice ad23 r20.1.length cp24) S (wN rfl) rfl rfl rfl rfl (lb rfl) fun a S => ?_
  refine sExtract (vs := [.slice ad23 r20.1.length cp24, iv r20.2]) (iv r20.2) S (wN rfl) rfl rfl rfl rfl (lb rfl) fun a S => ?_
  refine sMove (.slice ad23 r20.1.length cp24) S (wN rfl) (.inr rfl) rfl rfl (lb rfl) fun a S => ?_
  refine sMove (iv r20.2) S (wN rfl) (.inr rfl) rfl rfl (lb rfl) fun a S => ?_
  refine leafL (leafT (hK19 _ _ ?_))
  refine sSeq (fun K25 hK25 => ?_)
  refine sRegion ?_
  refine sLoadN (p := b6) (off := 0) (T := 24) (vs := [iv p0.Start, .slice ad3 p0.Rows.length cp4]) 0 [iv p0.Start, .slice ad3 p0.Rows.length cp4] S (wN rfl) rfl rfl rfl rfl rfl rfl rfl (lb rfl) fun a S => ?_
  refine sMove (iv p2) S (wN rfl) (.inl rfl) rfl rfl (lb rfl) fun a S => ?_
  obtain ⟨r26, hx27, h⟩ := bindSome h
  refine sCall (X := Value) (f := 25) (vs := [.agg #[iv p0.Start, .slice ad3 p0.Rows.length cp4], iv p2]) (val := c_raddleref27_Kids_val r26) (B' := fun _ => []) (D' := c_raddleref27_Kids_D r26) [] [eBox b6 24 [iv p0.Start, .slice ad3 p0.Rows.length cp4]] [fRep r_api_Chart (.agg #[iv p0.Start, .slice ad3 p0.Rows.length cp4]) p0] [0] [2] S (wN rfl) rfl callee25 rfl (by decide) rfl rfl (fun E1 w1 S1 => c_raddleref27_Kids E1 w1 p0 (.agg #[iv p0.Start, .slice ad3 p0.Rows.length cp4]) p2 r26 hx27 S1) rfl (lb rfl) fun u28 a w S => ?_
  obtain ⟨ad29, cp30, _, rfl, _⟩ := S.mem.know (i := 0) (e := fRep (rL (rI .i64)) (u28) r26.1) rfl
  refine sMove (.tuple #[.slice ad29 r26.1.length cp30, iv r26.2]) S (wN rfl) (.inl rfl) rfl rfl (lb rfl) fun a S => ?_
  refine sExtract (vs := [.slice ad29 r26.1.length cp30, iv r26.2]) (.slice ad29 r26.1.length cp30) S (wN rfl) rfl rfl rfl rfl (lb rfl) fun a S => ?_
  refine sExtract (vs := [.slice ad29 r26.1.length cp30, iv r26.2]) (iv r26.2) S (wN rfl) rfl rfl rfl rfl (lb rfl) fun a S => ?_
  refine sMove (.slice ad29 r26.1.length cp30) S (wN rfl) (.inr rfl) rfl rfl (lb rfl) fun a S => ?_
  refine sMove (iv r26.2) S (wN rfl) (.inr rfl) rfl rfl (lb rfl) fun a S => ?_
  refine leafL (leafT (hK25 _ _ ?_))
  obtain ⟨t32, h, g33⟩ := bindSome h
  refine sCut (fun a w => ∃ o31, o31 = t32 ∧ St [] E [] w0 68 a w [(6, .bool o31)] [] []) ?_ (fun a w hI => ?_)
  rotate_left
  · obtain ⟨o31, rfl, S⟩ := hI
    have h := g33
    clear g33
    try dsimp only at h
    obtain rfl := Option.some.inj h
    exact wp_ret (sRet (.bool o31) S (rsl1 rfl (rvT (t := 6) (v := .bool o31) S rfl)) ⟨(), rfl, S.mem.sel [] [] (by decide) rfl rfl⟩)
  refine sRegion ?_
  refine sMove (iv r14.1) S (wN rfl) (.inl rfl) rfl rfl (lb rfl) fun a S => ?_
  refine sMove (iv r17.1) S (wN rfl) (.inl rfl) rfl rfl (lb rfl) fun a S => ?_
  refine sBin (.bool (r14.1 == r17.1)) S (wN rfl) rfl rfl rfl (bEq _ _ _ _ .i64 r14.1 r17.1) rfl (lb rfl) fun a S => ?_
  refine sMove (.bool (r14.1 == r17.1)) S (wN rfl) (.inl rfl) rfl rfl (lb rfl) fun a S => ?_
  rcases iteSome h with ⟨hc34, h⟩ | ⟨hc34, h⟩
  rotate_left
  · refine sSkip 3 true 48 49 S rfl rfl rfl hc34 rfl (lb rfl) fun a S => ?_
    refine sSkip 3 true 48 50 S rfl rfl rfl hc34 rfl (lb rfl) fun a S => ?_
    refine sSkip 3 true 48 51 S rfl rfl rfl hc34 rfl (lb rfl) fun a S => ?_
    refine sPickF (.bool false) S (wN rfl) rfl rfl hc34 rfl rfl (lb rfl) fun a S => ?_
    refine sMove (.bool false) S (wN rfl) (.inl rfl) rfl rfl (lb rfl) fun a S => ?_
    refine sSkip 8 true 53 54 S rfl rfl rfl rfl rfl (lb rfl) fun a S => ?_
    refine sSkip 8 true 53 55 S rfl rfl rfl rfl rfl (lb rfl) fun a S => ?_
    refine sSkip 8 true 53 56 S rfl rfl rfl rfl rfl (lb rfl) fun a S => ?_
    refine sPickF (.bool false) S (wN rfl) rfl rfl rfl rfl rfl (lb rfl) fun a S => ?_
    refine sMove (.bool false) S (wN rfl) (.inl rfl) rfl rfl (lb rfl) fun a S => ?_
    refine sSkip 13 true 58 59 S rfl rfl rfl rfl rfl (lb rfl) fun a S => ?_
    refine sSkip 13 true 58 60 S rfl rfl rfl rfl rfl (lb rfl) fun a S => ?_
    refine sSkip 13 true 58 61 S rfl rfl rfl rfl rfl (lb rfl) fun a S => ?_
    refine sPickF (.bool false) S (wN rfl) rfl rfl rfl rfl rfl (lb rfl) fun a S => ?_
    refine sMove (.bool false) S (wN rfl) (.inl rfl) rfl rfl (lb rfl) fun a S => ?_
    refine sSkip 18 true 63 64 S rfl rfl rfl rfl rfl (lb rfl) fun a S => ?_
    refine sSkip 18 true 63 65 S rfl rfl rfl rfl rfl (lb rfl) fun a S => ?_
    refine sSkip 18 true 63 66 S rfl rfl rfl rfl rfl (lb rfl) fun a S => ?_
    refine sPickF (.bool false) S (wN rfl) rfl rfl rfl rfl rfl (lb rfl) fun a S => ?_
    refine sMove (.bool false) S (wN rfl) (.inr rfl) rfl rfl (lb rfl) fun a S => ?_
    exact leafL (leafT (⟨false, Option.some.inj h, S.fix [] [] (by decide) rfl rfl rfl⟩))
  refine sMove (iv r14.2.1) S (wG 3 true 48 rfl rfl rfl hc34) (.inl rfl) rfl rfl (lb rfl) fun a S => ?_
  refine sMove (iv r17.2.1) S (wG 3 true 48 rfl rfl rfl hc34) (.inl rfl) rfl rfl (lb rfl) fun a S => ?_
  refine sBin (.bool (r14.2.1 == r17.2.1)) S (wG 3 true 48 rfl rfl rfl hc34) rfl rfl rfl (bEq _ _ _ _ .i64 r14.2.1 r17.2.1) rfl (lb rfl) fun a S => ?_
  refine sPickT (.bool (r14.2.1 == r17.2.1)) S (wN rfl) rfl rfl hc34 rfl rfl (lb rfl) fun a S => ?_
  refine sMove (.bool (r14.2.1 == r17.2.1)) S (wN rfl) (.inl rfl) rfl rfl (lb rfl) fun a S => ?_
  rcases iteSome h with ⟨hc35, h⟩ | ⟨hc35, h⟩
  rotate_left
  · refine sSkip 8 true 53 54 S rfl rfl rfl hc35 rfl (lb rfl) fun a S => ?_
    refine sSkip 8 true 53 55 S rfl rfl rfl hc35 rfl (lb rfl) fun a S => ?_
    refine sSkip 8 true 53 56 S rfl rfl rfl hc35 rfl (lb rfl) fun a S => ?_
    refine sPickF (.bool false) S (wN rfl) rfl rfl hc35 rfl rfl (lb rfl) fun a S => ?_
    refine sMove (.bool false) S (wN rfl) (.inl rfl) rfl rfl (lb rfl) fun a S => ?_
    refine sSkip 13 true 58 59 S rfl rfl rfl rfl rfl (lb rfl) fun a S => ?_
    refine sSkip 13 true 58 60 S rfl rfl rfl rfl rfl (lb rfl) fun a S => ?_
    refine sSkip 13 true 58 61 S rfl rfl rfl rfl rfl (lb rfl) fun a S => ?_
    refine sPickF (.bool false) S (wN rfl) rfl rfl rfl rfl rfl (lb rfl) fun a S => ?_
    refine sMove (.bool false) S (wN rfl) (.inl rfl) rfl rfl (lb rfl) fun a S => ?_
    refine sSkip 18 true 63 64 S rfl rfl rfl rfl rfl (lb rfl) fun a S => ?_
    refine sSkip 18 true 63 65 S rfl rfl rfl rfl rfl (lb rfl) fun a S => ?_
    refine sSkip 18 true 63 66 S rfl rfl rfl rfl rfl (lb rfl) fun a S => ?_
    refine sPickF (.bool false) S (wN rfl) rfl rfl rfl rfl rfl (lb rfl) fun a S => ?_
    refine sMove (.bool false) S (wN rfl) (.inr rfl) rfl rfl (lb rfl) fun a S => ?_
    exact leafL (leafT (⟨false, Option.some.inj h, S.fix [] [] (by decide) rfl rfl rfl⟩))
  refine sMove (iv r14.2.2) S (wG 8 true 53 rfl rfl rfl hc35) (.inl rfl) rfl rfl (lb rfl) fun a S => ?_
  refine sMove (iv r17.2.2) S (wG 8 true 53 rfl rfl rfl hc35) (.inl rfl) rfl rfl (lb rfl) fun a S => ?_
  refine sBin (.bool (r14.2.2 == r17.2.2)) S (wG 8 true 53 rfl rfl rfl hc35) rfl rfl rfl (bEq _ _ _ _ .i64 r14.2.2 r17.2.2) rfl (lb rfl) fun a S => ?_
  refine sPickT (.bool (r14.2.2 == r17.2.2)) S (wN rfl) rfl rfl hc35 rfl rfl (lb rfl) fun a S => ?_
  refine sMove (.bool (r14.2.2 == r17.2.2)) S (wN rfl) (.inl rfl) rfl rfl (lb rfl) fun a S => ?_
  rcases iteSome h with ⟨hc36, h⟩ | ⟨hc36, h⟩
  rotate_left
  · refine sSkip 13 true 58 59 S rfl rfl rfl hc36 rfl (lb rfl) fun a S => ?_
    refine sSkip 13 true 58 60 S rfl rfl rfl hc36 rfl (lb rfl) fun a S => ?_
    refine sSkip 13 true 58 61 S rfl rfl rfl hc36 rfl (lb rfl) fun a S => ?_
    refine sPickF (.bool false) S (wN rfl) rfl rfl hc36 rfl rfl (lb rfl) fun a S => ?_
    refine sMove (.bool false) S (wN rfl) (.inl rfl) rfl rfl (lb rfl) fun a S => ?_
    refine sSkip 18 true 63 64 S rfl rfl rfl rfl rfl (lb rfl) fun a S => ?_
    refine sSkip 18 true 63 65 S rfl rfl rfl rfl rfl (lb rfl) fun a S => ?_
    refine sSkip 18 true 63 66 S rfl rfl rfl rfl rfl (lb rfl) fun a S => ?_
    refine sPickF (.bool false) S (wN rfl) rfl rfl rfl rfl rfl (lb rfl) fun a S => ?_
    refine sMove (.bool false) S (wN rfl) (.inr rfl) rfl rfl (lb rfl) fun a S => ?_
    exact leafL (leafT (⟨false, Option.some.inj h, S.fix [] [] (by decide) rfl rfl rfl⟩))
  refine sMove (.slice ad23 r20.1.length cp24) S (wG 13 true 58 rfl rfl rfl hc36) (.inl rfl) rfl rfl (lb rfl) fun a S => ?_
  refine sMove (.slice ad29 r26.1.length cp30) S (wG 13 true 58 rfl rfl rfl hc36) (.inl rfl) rfl rfl (lb rfl) fun a S => ?_
  obtain ⟨r37, hx38, h⟩ := bindSome h
  have S1 := S.mem
  refine sCallQ (X := Unit) (f := 18) (vs := [.slice ad23 r20.1.length cp24, .slice ad29 r26.1.length cp30]) (val := fun _ => .bool r37) S (wG 13 true 58 rfl rfl rfl hc36) rfl callee18 rfl (S1.quiet [1, 0] rfl) (fun E1 w1 S1 => c_raddleref26_SameInts E1 w1 r20.1 (.slice ad23 r20.1.length cp24) r26.1 (.slice ad29 r26.1.length cp30) r37 hx38 S1) rfl (lb rfl) fun _ a w S => ?_
  refine sPickT (.bool r37) S (wN rfl) rfl rfl hc36 rfl rfl (lb rfl) fun a S => ?_
  refine sMove (.bool r37) S (wN rfl) (.inl rfl) rfl rfl (lb rfl) fun a S => ?_
  rcases iteSome h with ⟨hc39, h⟩ | ⟨hc39, h⟩
  rotate_left
  · refine sSkip 18 true 63 64 S rfl rfl rfl hc39 rfl (lb rfl) fun a S => ?_
    refine sSkip 18 true 63 65 S rfl rfl rfl hc39 rfl (lb rfl) fun a S => ?_
    refine sSkip 18 true 63 66 S rfl rfl rfl hc39 rfl (lb rfl) fun a S => ?_
    refine sPickF (.bool false) S (wN rfl) rfl rfl hc39 rfl rfl (lb rfl) fun a S => ?_
    refine sMove (.bool false) S (wN rfl) (.inr rfl) rfl rfl (lb rfl) fun a S => ?_
    exact leafL (leafT (⟨false, Option.some.inj h, S.fix [] [] (by decide) rfl rfl rfl⟩))
  refine sMove (iv r20.2) S (wG 18 true 63 rfl rfl rfl hc39) (.inl rfl) rfl rfl (lb rfl) fun a S => ?_
  refine sMove (iv r26.2) S (wG 18 true 63 rfl rfl rfl hc39) (.inl rfl) rfl rfl (lb rfl) fun a S => ?_
  refine sBin (.bool (r20.2 == r26.2)) S (wG 18 true 63 rfl rfl rfl hc39) rfl rfl rfl (bEq _ _ _ _ .i64 r20.2 r26.2) rfl (lb rfl) fun a S => ?_
  refine sPickT (.bool (r20.2 == r26.2)) S (wN rfl) rfl rfl hc39 rfl rfl (lb rfl) fun a S => ?_
  refine sMove (.bool (r20.2 == r26.2)) S (wN rfl) (.inr rfl) rfl rfl (lb rfl) fun a S => ?_
  exact leafL (leafT (⟨r20.2 == r26.2, Option.some.inj h, S.fix [] [] (by decide) rfl rfl rfl⟩))

end Go.Proofs.Yticjoiolfibmlaa
namespace Go.Proofs.Yticjoiolfibmlaa
open Go.RowKit
set_option linter.unusedVariables false

theorem contains_eq (l : List Int) (x : Int) (hl : l.length ≤ 1000000) : F_slices_Contains___int_int_ l x = some (decide (x ∈ l)) := by
  have hw := loop_idx (B := slices_Index___int_int__l1 l x) l (fun y => x == y) (fun k => Sum.inl (k : Int)) (.inr ()) (fun k hk => by
    unfold slices_Index___int_int__l1
    simp only [dT (show (k : Int) < (l.length : Int) by omega), if_true, idxO_nat hk, Option.bind_some, w64_succ (show k < 9223372036854775807 by omega)]
    split <;> rfl) (by
    unfold slices_Index___int_int__l1
    simp only [dF (show ¬ (l.length : Int) < (l.length : Int) by omega), Bool.false_eq_true, if_false])
  unfold F_slices_Contains___int_int_ F_slices_Index___int_int_
  rw [hw]
  have hm : l.findIdx (fun y => x == y) < l.length ↔ x ∈ l := by
    rw [List.findIdx_lt_length]
    constructor
    · rintro ⟨y, hy, e⟩
      have : x = y := by simpa using e
      rw [this]; exact hy
    · intro h; exact ⟨x, h, by simp⟩
  by_cases h : x ∈ l
  · rw [if_pos (hm.2 h)]
    simp only [Option.bind_some]
    rw [dT (show (0 : Int) ≤ ((l.findIdx fun y => x == y : Nat) : Int) by omega), dT h]
  · rw [if_neg (fun e => h (hm.1 e))]
    simp only [Option.bind_some]
    rw [dF h]; rfl
def kl (L : List api_Loop) (i : Int) : List Int := (kidsL L i).map fun k : Nat => (k : Int)
theorem kids_take {L : List api_Loop} {k : Nat} (hk : k < L.length) (i : Int) : kidsL (L.take (k + 1)) i = kidsL (L.take k) i ++ (if i ∈ L[k].Parents then [k] else []) := by
  rw [take_snoc _ hk]
  simp only [kidsL, parL_app, kidsP_append, Nat.zero_add]
  have : (parL (L.take k)).length = k := by simp [parL]; omega
  rw [this]
  simp [parL, kidsP]
theorem kids_len (L : List api_Loop) (i : Int) : (kidsL L i).length ≤ L.length := by
  have h : ∀ (P : List (List Int)) (o : Nat), (kidsP o P i).length ≤ P.length := by
    intro P
    induction P with
    | nil => intro o; simp [kidsP]
    | cons p P ih =>
      intro o
      have := ih (o + 1)
      simp only [kidsP, List.length_append, List.length_cons]
      split <;> simp <;> omega
  have := h (parL L) 0
  simpa [kidsL, parL] using this
theorem take_kids_len {L : List api_Loop} (k : Nat) (i : Int) (hL : L.length ≤ 100000) : (kidsL (L.take k) i).length ≤ 100000 := by
  have := kids_len (L.take k) i
  have h2 : (L.take k).length ≤ L.length := by simp; omega
  omega
theorem kids_eq {c : api_Chart} (hw : wfR c.Rows) (i : Int) : F_loops_Kids c i = some (if chk c = 0 then (if 0 ≤ i ∧ i < ((workC c).1.L.length : Int) then (kl (workC c).1.L i, 0) else ([], 2)) else ([], chk c)) := by
  unfold F_loops_Kids
  rw [of_eq c hw, Option.bind_some]
  by_cases hk : chk c = 0
  · obtain ⟨_, _, _, _, _, hL, _, _, hp, _, _⟩ := wfin_of hk
    rw [if_pos hk, if_pos hk]
    unfold pieceOf
    dsimp only
    simp only [show ((0 : Int) != 0) = false from rfl, Bool.false_eq_true, if_false]
    by_cases h0 : i < 0
    · rw [dT h0, if_pos rfl, Option.bind_some, if_pos rfl, if_neg (by omega)]
    · rw [dF h0, if_neg (by simp), Option.bind_some]
      by_cases h1 : ((workC c).1.L.length : Int) ≤ i
      · rw [dT h1, if_pos rfl, if_neg (by omega)]
      · rw [dF h1, if_neg (by simp), if_pos (by omega)]
        have key : whileO (loops_Kids_l1 (⟨(workC c).1.L, (workC c).2, (workC c).1.B, (workC c).1.C, ((workC c).1.u : Int)⟩, 0) i) (([] : List Int), 0) = some (kl (workC c).1.L i) := by
          generalize (workC c).1.L = L at *
          refine loop_sq (fun k => (kl (L.take k) i, (k : Int))) L.length (by simp [kl, kidsL, parL, kidsP]) ?_ ?_
          · intro k hk
            have hb := take_kids_len k i (show L.length ≤ 100000 by omega)
            unfold loops_Kids_l1
            simp only [dT (show (k : Int) < (L.length : Int) by omega), if_true]
            rw [idxO_nat hk, Option.bind_some, contains_eq _ _ (by have := (hp _ (List.getElem_mem hk)).1; omega), Option.bind_some, w64_succ (by omega)]
            unfold kl
            rw [kids_take hk]
            by_cases hm : i ∈ L[k].Parents
            · rw [dT hm, if_pos rfl, if_pos hm, appO_of (by simp; omega), Option.bind_some]; simp
            · rw [dF hm, if_neg (by simp), if_neg hm]; simp
          · unfold loops_Kids_l1
            simp only [dF (show ¬ (L.length : Int) < (L.length : Int) by omega), Bool.false_eq_true, if_false, List.take_length]
        rw [key]; rfl
  · rw [if_neg hk, if_neg hk]
    simp only [nT hk, if_true]
theorem rkidsof_eq {p : raddleref27_Piece} (i : Int) (hL : p.Loops.length ≤ 100000) (hp : ∀ l, l ∈ p.Loops → l.Parents.length ≤ 4 ∧ l.Parents.Nodup) : F_raddleref27_KidsOf p i = some (kl p.Loops i) := by
  have key : whileO (raddleref27_KidsOf_l2 p i) (([] : List Int), 0) = some (kl p.Loops i) := by
    generalize hL' : p.Loops = L at *
    refine loop_sq (fun k => (kl (L.take k) i, (k : Int))) L.length (by simp [kl, kidsL, parL, kidsP]) ?_ ?_
    · intro k hk
      have hb := take_kids_len k i (show L.length ≤ 100000 by omega)
      obtain ⟨h4, hn⟩ := hp _ (List.getElem_mem hk)
      unfold raddleref27_KidsOf_l2
      rw [hL']
      simp only [dT (show (k : Int) < (L.length : Int) by omega), if_true]
      have hkl : (kl (L.take k) i).length ≤ 100000 := by simpa [kl] using hb
      have inner : whileO (raddleref27_KidsOf_l1 p (k : Int) i) (kl (L.take k) i, 0) = some (kl (L.take (k + 1)) i) := by
        have e : kl (L.take (k + 1)) i = kl (L.take k) i ++ (if i ∈ L[k].Parents.take L[k].Parents.length then [(k : Int)] else []) := by
          rw [List.take_length]; unfold kl; rw [kids_take hk]
          split <;> simp
        rw [e]
        refine loop_sq (fun n => (kl (L.take k) i ++ (if i ∈ L[k].Parents.take n then [(k : Int)] else []), (n : Int))) L[k].Parents.length (by simp) ?_ ?_
        · intro n hn2
          unfold raddleref27_KidsOf_l1
          dsimp only
          rw [hL', idxO_nat hk, Option.bind_some, dT (show (n : Int) < (L[k].Parents.length : Int) by omega), if_pos rfl, idxO_nat hn2, Option.bind_some, take_snoc _ hn2, w64_succ (by omega)]
          by_cases he : L[k].Parents[n] = i
          · have hnot : i ∉ L[k].Parents.take n := by
              intro hm
              obtain ⟨m, hm1, hm2⟩ := List.getElem_of_mem hm
              rw [List.length_take] at hm1
              rw [List.getElem_take, ← he] at hm2
              have := (List.getElem_inj hn).1 hm2
              omega
            rw [bT he, if_pos rfl, if_neg hnot, List.append_nil, appO_of (by simp; omega), Option.bind_some, if_pos (by simp [he])]
            rfl
          · rw [bF he, if_neg (by simp)]
            have : (i ∈ L[k].Parents.take n ++ [L[k].Parents[n]]) ↔ i ∈ L[k].Parents.take n := by
              simp only [List.mem_append, List.mem_singleton, or_iff_left_iff_imp]
              intro h; exact absurd h.symm he
            simp only [this]; rfl
        · unfold raddleref27_KidsOf_l1
          dsimp only
          rw [hL', idxO_nat hk, Option.bind_some, dF (show ¬ (L[k].Parents.length : Int) < (L[k].Parents.length : Int) by omega), if_neg (by simp)]
      rw [inner, w64_succ (by omega)]; rfl
    · unfold raddleref27_KidsOf_l2
      rw [hL']
      simp only [dF (show ¬ (L.length : Int) < (L.length : Int) by omega), Bool.false_eq_true, if_false, List.take_length]
  unfold F_raddleref27_KidsOf
  rw [key]; rfl
theorem rkids_eq (c : api_Chart) (i : Int) : F_raddleref27_Kids c i = some (if chk c = 0 then (if 0 ≤ i ∧ i < ((workC c).1.L.length : Int) then (kl (workC c).1.L i, 0) else ([], 2)) else ([], chk c)) := by
  unfold F_raddleref27_Kids
  rw [rchart_check_eq, Option.bind_some]
  by_cases hk : chk c = 0
  · obtain ⟨_, _, _, _, _, hL, _, _, hp, _, _⟩ := wfin_of hk
    rw [if_pos hk, hk, rwork_eq hk]
    simp only [show ((0 : Int) != 0) = false from rfl, Bool.false_eq_true, if_false, Option.bind_some]
    by_cases h0 : i < 0
    · rw [dT h0, if_pos rfl, Option.bind_some, if_pos rfl, if_neg (by omega)]
    · rw [dF h0, if_neg (by simp), Option.bind_some]
      by_cases h1 : ((workC c).1.L.length : Int) ≤ i
      · rw [dT h1, if_pos rfl, if_neg (by omega)]
      · rw [dF h1, if_neg (by simp), if_pos (by omega), rkidsof_eq i (by simp only; omega) hp]; rfl
  · rw [if_neg hk, nT hk, if_pos rfl]
def rowOf (c : api_Chart) (i : Int) : Int × Int × Int := if chk c = 0 then (if 0 ≤ i ∧ i ≤ (c.Rows.length : Int) then (((off c.Start.toNat (c.Rows.map faceR) i.toNat : Nat) : Int), ((off c.Start.toNat (c.Rows.map faceR) (i.toNat + 1) : Nat) : Int), 0) else (0, 0, 2)) else (0, 0, chk c)
theorem rs_idx {c : api_Chart} (hk : chk c = 0) {k : Nat} (h : k ≤ c.Rows.length + 1) : idxO (workC c).2 (k : Int) = some ((off c.Start.toNat (c.Rows.map faceR) k : Nat) : Int) := by
  rw [(wfin_of hk).rs, idxO_nat (by simp; omega)]; simp
theorem row_eq {c : api_Chart} (hw : wfR c.Rows) (i : Int) : F_loops_Row c i = some (rowOf c i) := by
  unfold F_loops_Row rowOf
  rw [of_eq c hw, Option.bind_some]
  by_cases hk : chk c = 0
  · rw [if_pos hk, if_pos hk]
    have hnr := (wfin_of hk).nr
    unfold pieceOf
    dsimp only
    simp only [show ((0 : Int) != 0) = false from rfl, Bool.false_eq_true, if_false]
    by_cases h0 : i < 0
    · rw [dT h0, if_pos rfl, Option.bind_some, if_pos rfl, if_neg (by omega)]
    · rw [dF h0, if_neg (by simp), Option.bind_some]
      by_cases h1 : (c.Rows.length : Int) < i
      · rw [dT h1, if_pos rfl, if_neg (by omega)]
      · obtain ⟨k, rfl⟩ := Int.eq_ofNat_of_zero_le (show 0 ≤ i by omega)
        rw [dF h1, if_neg (by simp), if_pos (by omega), rs_idx hk (by omega), Option.bind_some, w64_succ (by omega), rs_idx hk (by omega), Option.bind_some, Int.toNat_natCast]
  · rw [if_neg hk, if_neg hk]
    simp only [nT hk, if_true]
theorem rrow_eq (c : api_Chart) (i : Int) : F_raddleref27_Row c i = some (rowOf c i) := by
  unfold F_raddleref27_Row rowOf
  rw [rchart_check_eq, Option.bind_some]
  by_cases hk : chk c = 0
  · rw [if_pos hk, hk]
    have hnr := (wfin_of hk).nr
    simp only [show ((0 : Int) != 0) = false from rfl, Bool.false_eq_true, if_false]
    by_cases h0 : i < 0
    · rw [dT h0, if_pos rfl, Option.bind_some, if_pos rfl, if_neg (by omega)]
    · rw [dF h0, if_neg (by simp), Option.bind_some]
      by_cases h1 : (c.Rows.length : Int) < i
      · rw [dT h1, if_pos rfl, if_neg (by omega)]
      · obtain ⟨k, rfl⟩ := Int.eq_ofNat_of_zero_le (show 0 ≤ i by omega)
        rw [dF h1, if_neg (by simp), if_pos (by omega), rwork_eq hk, Option.bind_some]
        simp only
        rw [rs_idx hk (by omega), Option.bind_some, w64_succ (by omega), rs_idx hk (by omega), Option.bind_some, Int.toNat_natCast]
  · rw [if_neg hk, nT hk, if_pos rfl]

end Go.Proofs.Yticjoiolfibmlaa
namespace Go.Proofs.Yticjoiolfibmlaa
open Go.RowKit
set_option linter.unusedVariables false

theorem law_LoopsAsk (c : api_Chart) (i k : Int) (wc : wf_api_Chart c) (_ : InK .i64 i) (_ : InK .i64 k) : F_raddlelaw27_LoopsAsk c i k = some true := by
  have hw := wfR_of wc
  obtain ⟨b, hb⟩ := rgreat26_eq c
  unfold F_raddlelaw27_LoopsAsk
  rw [hb, Option.bind_some]
  cases b with
  | true => rfl
  | false =>
    have hl : ∀ q : List Int × Int, q = (if chk c = 0 then (if 0 ≤ k ∧ k < ((workC c).1.L.length : Int) then (kl (workC c).1.L k, 0) else ([], 2)) else ([], chk c)) → q.1.length ≤ 1000000 := by
      intro q hq
      subst hq
      by_cases hk : chk c = 0
      · rw [if_pos hk]
        split
        · have h1 := kids_len (workC c).1.L k
          have h2 := (wfin_of hk).L
          simp only [kl, List.length_map]; omega
        · simp
      · rw [if_neg hk]; simp
    rw [row_eq hw, rrow_eq, kids_eq hw, rkids_eq]
    simp only [Bool.false_eq_true, if_false, Option.bind_some, beq_self_eq_true, if_true]
    rw [sameints_eq _ (hl _ rfl)]
    rfl

end Go.Proofs.Yticjoiolfibmlaa
namespace Go.Proofs.Yticjoiolfibmlaa
open Go.RowKit
set_option linter.unusedVariables false

namespace frameLoopsAsk
open Go.ChangeShapes Go.WideShapes Go.ChangeAt Go.Joins
theorem own : ownKnob Try.prog.godebug = none := by kernel_rfl
theorem laidOut : laidOutB Try.prog = true := by kernel_rfl
set_option maxRecDepth 100000 in
theorem lifted (os : Os) (started : os.Started) (H : Type) (enc : TypeId × Value → H) :
    ReturnsInHanded {} Try.checked os 5 .any (Rows.loopsAskSpec.pre6 enc Try.prog Try.f5 Rows.loopsAskRow.domain false) (Rows.loopsAskSpec.post enc Try.prog Try.f5 false true false false) := by
  refine returnsInHanded_of_change (C := Try.checked) own started (by kernel_rfl) Try.func5
    (ChangeSpec.witness6 (enc := enc) (C := Try.checked) false ⟨#[], #[.agg #[iv 0, .slice none 0 0], .int .i64 0, .int .i64 0], []⟩ 8 (by kernel_rfl) (by kernel_rfl) (by kernel_rfl) (by kernel_rfl)) ?_
  intro W base args ds gs before hval0 hW hcnd _
  have hval : ∀ (j : Nat) t v, Try.f5.params[j]? = some t → args[j]? = some v → Value.okWide Try.prog W .any base t v := hval0
  have hW' := hW
  obtain ⟨p, q, hA0, hV, rfl, hfz, hnd⟩ := hW
  have hA : DataW.TrodAll enc Try.prog W 0 (fun _ => true) true Try.f5.params.toList args.toList ds p := hA0
  rw [Try.params5] at hA hval
  obtain ⟨v0, vs0, d0, ds0, p0, q0, hargs, rfl, rfl, h0, r0⟩ := trodAll_cons hA
  obtain ⟨v1, vs1, d1, ds1, p1, q1, rfl, rfl, rfl, h1, r1⟩ := trodAll_cons r0
  obtain ⟨v2, vs2, d2, ds2, p2, q2, rfl, rfl, rfl, h2, r2⟩ := trodAll_cons r1
  obtain ⟨rfl, rfl, rfl⟩ := trodAll_nil r2
  obtain rfl : args = #[v0, v1, v2] := by cases args; simp_all
  obtain ⟨rfl, rfl⟩ := trodVars_none hV
  have k0 := h0
  have lt0 : ∀ x ∈ p0, x.block < W.heap.size := by obtain ⟨m, hm⟩ := k0; exact DataW.trod_lt m _ _ _ hm
  have k1 := h1
  have lt1 : ∀ x ∈ p1, x.block < W.heap.size := by obtain ⟨m, hm⟩ := k1; exact DataW.trod_lt m _ _ _ hm
  have k2 := h2
  have lt2 : ∀ x ∈ p2, x.block < W.heap.size := by obtain ⟨m, hm⟩ := k2; exact DataW.trod_lt m _ _ _ hm
  obtain ⟨x0, rep0, wf0⟩ := top_agg Try.underlying24 aggr_api_Chart op_api_Chart (hval 0 _ v0 rfl rfl) h0
  obtain ⟨x1, rfl, rfl, rfl, wf1⟩ := open_int Try.underlying3 (hval 1 _ v1 rfl rfl) h1
  obtain ⟨x2, rfl, rfl, rfl, wf2⟩ := open_int Try.underlying3 (hval 2 _ v2 rfl rfl) h2
  clear hA0 hval0
  refine (c_raddlelaw27_LoopsAsk (fun _ => False) W x0 v0 x1 x2 true (law_LoopsAsk x0 x1 x2 wf0 wf1 wf2) (St0.start (by intro d hd; simp only [List.mem_cons, List.not_mem_nil, or_false] at hd; subst hd; exact rep0))).mono fun e W' hr => ?_
  obtain ⟨_, he, hS⟩ := hr
  have bel := hS.chg.below
  subst he
  exact ⟨_, rfl, _, _, _, [], _, [], hW', trodAll_mk1 (shut_bool Try.underlying4 _), (trodAll_cons_mk (Below.trod laidOut (by kernel_rfl) (of_decide_eq_true (by kernel_rfl)) k0 bel lt0) (trodAll_cons_mk (Below.trod laidOut (by kernel_rfl) (of_decide_eq_true (by kernel_rfl)) k1 bel lt1) (trodAll_cons_mk (Below.trod laidOut (by kernel_rfl) (of_decide_eq_true (by kernel_rfl)) k2 bel lt2) trodAll_mk0))), rfl, bel.frame _, fun h => by cases h⟩
theorem over : Rows.loopsAskRow.holds Try.pinned (OpenSpec.ofChange Rows.loopsAskSpec) :=
  OpenClaim.holds_of_wide 5 Try.f5 rfl rfl rfl rfl rfl rfl rfl ⟨rfl, rfl, rfl, rfl, rfl⟩ rfl rfl rfl rfl rfl (by kernel_rfl) Try.func5 (by kernel_rfl)
    (of_decide_eq_true (by kernel_rfl)) (by unfold Func.isWrapper; first | (rw [if_pos (by decide +kernel)]; kernel_rfl) | (rw [if_neg (by decide +kernel)]; exact ⟨rfl, rfl⟩))
    (fun os started H enc _ => lifted os started H enc)
end frameLoopsAsk
theorem loopsAsk_holds : Rows.LoopsAskSaid := frameLoopsAsk.over

end Go.Proofs.Yticjoiolfibmlaa
