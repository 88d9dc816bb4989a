/- LoopsOnce: walks, tables, laws. -/
import Derived.Test.YticjoiolfibmlaaProg
import Derived.Test.YticjoiolfibmlaaRows
import Derived.Test.YticjoiolfibmlaaMLoopsOnce5
set_option linter.unusedVariables false
set_option linter.unusedSimpArgs false
set_option maxHeartbeats 4000000
set_option maxRecDepth 100000
namespace Go.Proofs.Yticjoiolfibmlaa
open Go.RowKit
def anc_raddlelaw27_LoopsOnce_0 : List (List Nat) := [[], [0], [0, 1], [0, 1, 2], [0, 1, 2], [0, 1, 2, 3, 4], [0, 1, 2, 3, 4, 5], [0, 1, 2, 3, 4, 5, 6], [0, 1, 2], [0, 1, 2, 3, 4, 5, 6, 7, 8], [0, 1, 2, 3, 4, 5, 6, 7, 8, 9], [0, 1, 2], [0, 1, 2], [0, 1, 2], [0, 1, 2, 13], [0, 1, 2, 12, 13, 14], [0, 1, 2, 12, 13, 14, 15], [0, 1, 2, 11, 12, 13, 14, 15, 16], [0, 1, 2, 3, 4, 5, 6, 7, 8, 9, 10, 11, 12, 13, 14, 15, 16, 17], [0, 1, 2, 3, 4, 5, 6, 7, 8, 9, 10, 11, 12, 13, 14, 15, 16, 17, 18], [0, 1, 2, 3, 4, 5, 6, 7, 8, 9, 10, 11, 12, 13, 14, 15, 16, 17, 18, 19], [0, 1, 2, 3, 4, 5, 6, 7, 8, 9, 10, 11, 12, 13, 14, 15, 16, 17, 18, 19, 20], [0, 1, 2, 3, 4, 5, 6, 7, 8, 9, 10, 11, 12, 13, 14, 15, 16, 17, 18, 19, 20], [0, 1, 2, 3, 4, 5, 6, 7, 8, 9, 10, 11, 12, 13, 14, 15, 16, 17, 18, 19, 20, 21, 22], [0, 1, 2, 3, 4, 5, 6, 7, 8, 9, 10, 11, 12, 13, 14, 15, 16, 17, 18, 19, 20, 21, 22, 23], [0, 1, 2, 3, 4, 5, 6, 7, 8, 9, 10, 11, 12, 13, 14, 15, 16, 17, 18, 19, 20, 21, 22, 23, 24], [0, 1, 2, 3, 4, 5, 6, 7, 8, 9, 10, 11, 12, 13, 14, 15, 16, 17, 18, 19, 20], [0, 1, 2, 3, 4, 5, 6, 7, 8, 9, 10, 11, 12, 13, 14, 15, 16, 17, 18, 19, 20, 21, 22, 23, 24, 25, 26], [0, 1, 2, 3, 4, 5, 6, 7, 8, 9, 10, 11, 12, 13, 14, 15, 16, 17, 18, 19, 20, 21, 22, 23, 24, 25, 26, 27], [0, 1, 2, 3, 4, 5, 6, 7, 8, 9, 10, 11, 12, 13, 14, 15, 16, 17, 18, 19, 20], [0, 1, 2, 3, 4, 5, 6, 7, 8, 9, 10, 11, 12, 13, 14, 15, 16, 17, 18, 19, 20, 21, 22, 23, 24, 25, 26, 27, 28, 29], [0, 1, 2, 3, 4, 5, 6, 7, 8, 9, 10, 11, 12, 13, 14, 15, 16, 17, 18, 19, 20, 21, 22, 23, 24, 25, 26, 27, 28, 29, 30]]
def anc_raddlelaw27_LoopsOnce_1 : List (List Nat) := [[], [], [0, 1], [0, 1, 2], [0, 1, 2, 3], [], [5], [5, 6], [0, 1, 2, 3, 4, 5, 6, 7]]
def anc_raddlelaw27_LoopsOnce_2 : List (List Nat) := [[], [], [0, 1], [0, 1, 2], [0, 1, 2, 3], [0, 1, 2, 3, 4], [0, 1, 2, 3, 4, 5], [0, 1, 2, 3, 4, 5], [0, 1, 2, 3, 4, 5, 6, 7], [0, 1, 2, 3, 4, 5, 6, 7, 8], [0, 1, 2, 3, 4, 5], [0, 1, 2, 3, 4, 5, 10], [0, 1, 2, 3, 4, 5, 6, 7, 8, 9, 10, 11], [0, 1, 2, 3, 4, 5, 6, 7, 8, 9, 10, 11, 12], [0, 1, 2, 3, 4, 5, 6, 7, 8, 9, 10, 11, 12, 13], [0, 1, 2, 3, 4, 5, 6, 7, 8, 9, 10, 11, 12, 13, 14], [0, 1, 2, 3, 4, 5, 6, 7, 8, 9, 10, 11, 12, 13, 14], [0, 1, 2, 3, 4, 5, 6, 7, 8, 9, 10, 11, 12, 13, 14, 16], [0, 1, 2, 3, 4, 5, 6, 7, 8, 9, 10, 11, 12, 13, 14, 15, 16, 17], [0, 1, 2, 3, 4, 5, 6, 7, 8, 9, 10, 11, 12, 13, 14, 15, 16, 17, 18], [0, 1, 2, 3, 4, 5, 6, 7, 8, 9, 10, 11, 12, 13, 14, 15, 16, 17, 18, 19], [0, 1, 2, 3, 4, 5, 6, 7, 8, 9, 10, 11, 12, 13, 14, 15, 16, 17, 18, 19, 20], [0, 1, 2, 3, 4, 5, 6, 7, 8, 9, 10, 11, 12, 13, 14, 15, 16, 17, 18, 19, 20, 21], [0, 1, 2, 3, 4, 5, 6, 7, 8, 9, 10, 11, 12, 13, 14, 15, 16, 17, 18, 19, 20, 21, 22], [0, 1, 2, 3, 4, 5, 6, 7, 8, 9, 10, 11, 12, 13, 14, 15, 16, 17, 18, 19, 20, 21, 22], [0, 1, 2, 3, 4, 5, 6, 7, 8, 9, 10, 11, 12, 13, 14, 15, 16, 17, 18, 19, 20, 21, 22, 24], [0, 1, 2, 3, 4, 5, 6, 7, 8, 9, 10, 11, 12, 13, 14, 15, 16, 17, 18, 19, 20, 21, 22, 23, 24, 25], [0, 1, 2, 3, 4, 5, 6, 7, 8, 9, 10, 11, 12, 13, 14, 15, 16, 17, 18, 19, 20, 21, 22, 23, 24, 25, 26], [0, 1, 2, 3, 4, 5, 6, 7, 8, 9, 10, 11, 12, 13, 14, 15, 16, 17, 18, 19, 20, 21, 22], [0, 1, 2, 3, 4, 5, 6, 7, 8, 9, 10, 11, 12, 13, 14, 15, 16, 17, 18, 19, 20, 21, 22, 28], [0, 1, 2, 3, 4, 5, 6, 7, 8, 9, 10, 11, 12, 13, 14, 15, 16, 17, 18, 19, 20, 21, 22, 23, 24, 25, 26, 27, 28, 29], [0, 1, 2, 3, 4, 5, 6, 7, 8, 9, 10, 11, 12, 13, 14, 15, 16, 17, 18, 19, 20, 21, 22, 23, 24, 25, 26, 27, 28, 29, 30], [0, 1, 2, 3, 4, 5, 6, 7, 8, 9, 10, 11, 12, 13, 14, 15, 16, 17, 18, 19, 20, 21, 22, 23, 24, 25, 26, 27, 28, 29, 30, 31], [0, 1, 2, 3, 4, 5, 6, 7, 8, 9, 10, 11, 12, 13, 14, 15, 16, 17, 18, 19, 20, 21, 22, 23, 24, 25, 26, 27, 28, 29, 30, 31, 32], [0, 1, 2, 3, 4, 5, 6, 7, 8, 9, 10, 11, 12, 13, 14, 15, 16, 17, 18, 19, 20, 21, 22, 23, 24, 25, 26, 27, 28, 29, 30, 31, 32], [0, 1, 2, 3, 4, 5, 6, 7, 8, 9, 10, 11, 12, 13, 14, 15, 16, 17, 18, 19, 20, 21, 22, 23, 24, 25, 26, 27, 28, 29, 30, 31, 32], [0, 1, 2, 3, 4, 5, 6, 7, 8, 9, 10, 11, 12, 13, 14, 15, 16, 17, 18, 19, 20, 21, 22, 23, 24, 25, 26, 27, 28, 29, 30, 31, 32, 34, 35], [0, 1, 2, 3, 4, 5, 6, 7, 8, 9, 10, 11, 12, 13, 14, 15, 16, 17, 18, 19, 20, 21, 22, 23, 24, 25, 26, 27, 28, 29, 30, 31, 32, 34, 35, 36], [0, 1, 2, 3, 4, 5, 6, 7, 8, 9, 10, 11, 12, 13, 14, 15, 16, 17, 18, 19, 20, 21, 22, 23, 24, 25, 26, 27, 28, 29, 30, 31, 32, 33, 34, 35, 36, 37], [0, 1, 2, 3, 4, 5, 6, 7, 8, 9, 10, 11, 12, 13, 14, 15, 16, 17, 18, 19, 20, 21, 22, 23, 24, 25, 26, 27, 28, 29, 30, 31, 32, 33, 34, 35, 36, 37, 38], [0, 1, 2, 3, 4, 5, 6, 7, 8, 9, 10, 11, 12, 13, 14, 15, 16, 17, 18, 19, 20, 21, 22, 23, 24, 25, 26, 27, 28, 29, 30, 31, 32, 33, 34, 35, 36, 37, 38, 39], [0, 1, 2, 3, 4, 5, 6, 7, 8, 9, 10, 11, 12, 13, 14, 15, 16, 17, 18, 19, 20, 21, 22, 23, 24, 25, 26, 27, 28, 29, 30, 31, 32], [0, 1, 2, 3, 4, 5, 6, 7, 8, 9, 10, 11, 12, 13, 14, 15, 16, 17, 18, 19, 20, 21, 22, 23, 24, 25, 26, 27, 28, 29, 30, 31, 32], [0, 1, 2, 3, 4, 5, 6, 7, 8, 9, 10, 11, 12, 13, 14, 15, 16, 17, 18, 19, 20, 21, 22, 23, 24, 25, 26, 27, 28, 29, 30, 31, 32], [0, 1, 2, 3, 4, 5, 6, 7, 8, 9, 10, 11, 12, 13, 14, 15, 16, 17, 18, 19, 20, 21, 22, 23, 24, 25, 26, 27, 28, 29, 30, 31, 32, 43], [0, 1, 2, 3, 4, 5, 6, 7, 8, 9, 10, 11, 12, 13, 14, 15, 16, 17, 18, 19, 20, 21, 22, 23, 24, 25, 26, 27, 28, 29, 30, 31, 32, 42, 43, 44], [0, 1, 2, 3, 4, 5, 6, 7, 8, 9, 10, 11, 12, 13, 14, 15, 16, 17, 18, 19, 20, 21, 22, 23, 24, 25, 26, 27, 28, 29, 30, 31, 32, 42, 43, 44, 45], [0, 1, 2, 3, 4, 5, 6, 7, 8, 9, 10, 11, 12, 13, 14, 15, 16, 17, 18, 19, 20, 21, 22, 23, 24, 25, 26, 27, 28, 29, 30, 31, 32, 41, 42, 43, 44, 45, 46], [0, 1, 2, 3, 4, 5, 6, 7, 8, 9, 10, 11, 12, 13, 14, 15, 16, 17, 18, 19, 20, 21, 22, 23, 24, 25, 26, 27, 28, 29, 30, 31, 32, 41, 42, 43, 44, 45, 46, 47], [0, 1, 2, 3, 4, 5, 6, 7, 8, 9, 10, 11, 12, 13, 14, 15, 16, 17, 18, 19, 20, 21, 22, 23, 24, 25, 26, 27, 28, 29, 30, 31, 32, 41, 42, 43, 44, 45, 46, 47, 48], [0, 1, 2, 3, 4, 5, 6, 7, 8, 9, 10, 11, 12, 13, 14, 15, 16, 17, 18, 19, 20, 21, 22, 23, 24, 25, 26, 27, 28, 29, 30, 31, 32, 33, 34, 35, 36, 37, 38, 39, 40, 41, 42, 43, 44, 45, 46, 47, 48, 49], [0, 1, 2, 3, 4, 5, 6, 7, 8, 9, 10, 11, 12, 13, 14, 15, 16, 17, 18, 19, 20, 21, 22, 23, 24, 25, 26, 27, 28, 29, 30, 31, 32, 33, 34, 35, 36, 37, 38, 39, 40, 41, 42, 43, 44, 45, 46, 47, 48, 49, 50], [0, 1, 2, 3, 4, 5, 6, 7, 8, 9, 10, 11, 12, 13, 14, 15, 16, 17, 18, 19, 20, 21, 22, 23, 24, 25, 26, 27, 28, 29, 30, 31, 32, 33, 34, 35, 36, 37, 38, 39, 40, 41, 42, 43, 44, 45, 46, 47, 48, 49, 50, 51], [0, 1, 2, 3, 4, 5, 6, 7, 8, 9, 10, 11, 12, 13, 14, 15, 16, 17, 18, 19, 20, 21, 22, 23, 24, 25, 26, 27, 28, 29, 30, 31, 32, 33, 34, 35, 36, 37, 38, 39, 40, 41, 42, 43, 44, 45, 46, 47, 48, 49, 50, 51, 52], [0, 1, 2, 3, 4, 5, 6, 7, 8, 9, 10, 11, 12, 13, 14, 15, 16, 17, 18, 19, 20, 21, 22, 23, 24, 25, 26, 27, 28, 29, 30, 31, 32, 33, 34, 35, 36, 37, 38, 39, 40, 41, 42, 43, 44, 45, 46, 47, 48, 49, 50, 51, 52], [0, 1, 2, 3, 4, 5, 6, 7, 8, 9, 10, 11, 12, 13, 14, 15, 16, 17, 18, 19, 20, 21, 22, 23, 24, 25, 26, 27, 28, 29, 30, 31, 32, 33, 34, 35, 36, 37, 38, 39, 40, 41, 42, 43, 44, 45, 46, 47, 48, 49, 50, 51, 52, 53, 54], [0, 1, 2, 3, 4, 5, 6, 7, 8, 9, 10, 11, 12, 13, 14, 15, 16, 17, 18, 19, 20, 21, 22, 23, 24, 25, 26, 27, 28, 29, 30, 31, 32, 33, 34, 35, 36, 37, 38, 39, 40, 41, 42, 43, 44, 45, 46, 47, 48, 49, 50, 51, 52, 53, 54, 55], [0, 1, 2, 3, 4, 5, 6, 7, 8, 9, 10, 11, 12, 13, 14, 15, 16, 17, 18, 19, 20, 21, 22, 23, 24, 25, 26, 27, 28, 29, 30, 31, 32, 33, 34, 35, 36, 37, 38, 39, 40, 41, 42, 43, 44, 45, 46, 47, 48, 49, 50, 51, 52], [0, 1, 2, 3, 4, 5, 6, 7, 8, 9, 10, 11, 12, 13, 14, 15, 16, 17, 18, 19, 20, 21, 22, 23, 24, 25, 26, 27, 28, 29, 30, 31, 32, 33, 34, 35, 36, 37, 38, 39, 40, 41, 42, 43, 44, 45, 46, 47, 48, 49, 50, 51, 52], [0, 1, 2, 3, 4, 5, 6, 7, 8, 9, 10, 11, 12, 13, 14, 15, 16, 17, 18, 19, 20, 21, 22, 23, 24, 25, 26, 27, 28, 29, 30, 31, 32, 33, 34, 35, 36, 37, 38, 39, 40, 41, 42, 43, 44, 45, 46, 47, 48, 49, 50, 51, 52, 58], [0, 1, 2, 3, 4, 5, 6, 7, 8, 9, 10, 11, 12, 13, 14, 15, 16, 17, 18, 19, 20, 21, 22, 23, 24, 25, 26, 27, 28, 29, 30, 31, 32, 33, 34, 35, 36, 37, 38, 39, 40, 41, 42, 43, 44, 45, 46, 47, 48, 49, 50, 51, 52, 57, 58, 59], [0, 1, 2, 3, 4, 5, 6, 7, 8, 9, 10, 11, 12, 13, 14, 15, 16, 17, 18, 19, 20, 21, 22, 23, 24, 25, 26, 27, 28, 29, 30, 31, 32, 33, 34, 35, 36, 37, 38, 39, 40, 41, 42, 43, 44, 45, 46, 47, 48, 49, 50, 51, 52, 57, 58, 59, 60], [0, 1, 2, 3, 4, 5, 6, 7, 8, 9, 10, 11, 12, 13, 14, 15, 16, 17, 18, 19, 20, 21, 22, 23, 24, 25, 26, 27, 28, 29, 30, 31, 32, 33, 34, 35, 36, 37, 38, 39, 40, 41, 42, 43, 44, 45, 46, 47, 48, 49, 50, 51, 52, 57, 58, 59, 60, 61], [0, 1, 2, 3, 4, 5, 6, 7, 8, 9, 10, 11, 12, 13, 14, 15, 16, 17, 18, 19, 20, 21, 22, 23, 24, 25, 26, 27, 28, 29, 30, 31, 32, 33, 34, 35, 36, 37, 38, 39, 40, 41, 42, 43, 44, 45, 46, 47, 48, 49, 50, 51, 52, 53, 54, 55, 56, 57, 58, 59, 60, 61, 62], [0, 1, 2, 3, 4, 5, 6, 7, 8, 9, 10, 11, 12, 13, 14, 15, 16, 17, 18, 19, 20, 21, 22, 23, 24, 25, 26, 27, 28, 29, 30, 31, 32, 33, 34, 35, 36, 37, 38, 39, 40, 41, 42, 43, 44, 45, 46, 47, 48, 49, 50, 51, 52, 53, 54, 55, 56, 57, 58, 59, 60, 61, 62, 63]]
noncomputable def raddlelaw27_LoopsOnce_l1 (a7 : api_Loop) (a8 : Int) (aa : ((List Int) × Int)) (a9 : (Int × Int × Int)) : Int → Option (Int ⊕ (Bool ⊕ Unit)) := fun s0 => match s0 with
 | a0 =>
  if decide (a0 < (a7.Parents.length : Int)) then
   Option.bind (α := Bool) (
    if a8 == 0 then
     some true
    else
     (idxO a7.Parents a0).bind fun a4 =>
     (idxO aa.1 (w64 (a8 - 1))).bind fun a5 =>
     if decide (a4 < (w64 (a9.1 - a5))) then
      some true
     else
      some (decide (a9.1 ≤ a4))) fun a6 =>
   if a6 then
    some (.inr (.inl false))
   else
    some (.inl (w64 (a0 + 1)))
  else
   some (.inr (.inr ()))
noncomputable def raddlelaw27_LoopsOnce_l2 (a4 : (Int × Int × Int)) (a7 : ((List api_Loop) × Int)) (a5 : Int) (a8 : ((List Int) × Int)) : Int → Option (Int ⊕ (Bool ⊕ Unit)) := fun s0 => match s0 with
 | a0 =>
  if decide (a0 < a4.2.1) then
   Option.bind (α := Unit ⊕ Bool) (
    (idxO a7.1 a0).bind fun a6 =>
    if a6.Row != a5 then
     some (.inr false)
    else
     (whileO (raddlelaw27_LoopsOnce_l1 a6 a5 a8 a4) 0).bind fun z0 => match z0 with
      | .inl z =>
       some (.inr z)
      | .inr _ =>
       some (.inl ())) fun z0 => match z0 with
    | .inl _ =>
     some (.inl (w64 (a0 + 1)))
    | .inr z =>
     some (.inr (.inl z))
  else
   some (.inr (.inr ()))
noncomputable def raddlelaw27_LoopsOnce_l3 (p0 : api_Chart) (a5 : ((List Int) × Int)) (a6 : ((List api_Loop) × Int)) : (Int × Int) → Option ((Int × Int) ⊕ (Bool ⊕ Int)) := fun s0 => match s0 with
 | (a7, a4) =>
  if decide (a4 ≤ (p0.Rows.length : Int)) then
   Option.bind (α := Int ⊕ Bool) (
    (F_loops_Row p0 a4).bind fun a0 =>
    Option.bind (α := Bool) (
     if a0.2.2 != 0 then
      some true
     else
      if a0.1 != a7 then
       some true
      else
       (idxO a5.1 a4).bind fun a8 =>
       if a0.2.1 != (w64 (a0.1 + a8)) then
        some true
       else
        some (decide ((a6.1.length : Int) < a0.2.1))) fun a9 =>
    if a9 then
     some (.inr false)
    else
     Option.bind (α := Unit ⊕ Bool) (
      (whileO (raddlelaw27_LoopsOnce_l2 a0 a6 a4 a5) a0.1).bind fun z0 => match z0 with
       | .inl z =>
        some (.inr z)
       | .inr _ =>
        some (.inl ())) fun z0 => match z0 with
      | .inl _ =>
       some (.inl a0.2.1)
      | .inr z =>
       some (.inr z)) fun z0 => match z0 with
    | .inl aa =>
     some (.inl (aa, w64 (a4 + 1)))
    | .inr z =>
     some (.inr (.inl z))
  else
   some (.inr (.inr a7))
noncomputable def raddlelaw27_LoopsOnce_l4 (a6 : ((List Int) × Int)) (a7 : ((List api_Loop) × Int)) : Int → Option (Int ⊕ (Bool ⊕ Unit)) := fun s0 => match s0 with
 | a0 =>
  if decide (a0 < (a6.1.length : Int)) then
   Option.bind (α := Bool) (
    (idxO a6.1 a0).bind fun a4 =>
    if decide (a4 < 0) then
     some true
    else
     if decide ((a7.1.length : Int) ≤ a4) then
      some true
     else
      (idxO a6.1 (w64 (a0 - 1))).bind fun a5 =>
      if decide (a5 < 0) then
       some true
      else
       if decide ((a7.1.length : Int) ≤ a5) then
        some true
       else
        (idxO a7.1 a4).bind fun a8 =>
        (idxO a7.1 a5).bind fun a9 =>
        if a8.Cell != a9.Cell then
         some true
        else
         some (a4 != (w64 (a5 + 1)))) fun aa =>
   if aa then
    some (.inr (.inl false))
   else
    some (.inl (w64 (a0 + 1)))
  else
   some (.inr (.inr ()))
noncomputable def raddlelaw27_LoopsOnce_l5 (a7 : ((List api_Loop) × Int)) (ab : ((List Int) × Int)) (p0 : api_Chart) : Int → Option (Int ⊕ (Bool ⊕ Unit)) := fun s0 => match s0 with
 | a0 =>
  if decide (a0 < (a7.1.length : Int)) then
   Option.bind (α := Unit ⊕ Bool) (
    Option.bind (α := Int) (
     (F_raddleref27_Has ab.1 a0).bind fun a8 =>
     if a8 then
      some (w64 ((0 : Int) + 1))
     else
      some 0) fun a5 =>
    Option.bind (α := Int) (
     (idxO a7.1 a0).bind fun a9 =>
     if a9.Row == (p0.Rows.length : Int) then
      some (w64 (a5 + 1))
     else
      some a5) fun a6 =>
    (F_loops_Kids p0 a0).bind fun a4 =>
    if a4.2 != 0 then
     some (.inr false)
    else
     Option.bind (α := Int) (
      if decide (0 < (a4.1.length : Int)) then
       some (w64 (a6 + 1))
      else
       some a6) fun aa =>
     Option.bind (α := Unit ⊕ Bool) (
      (whileO (raddlelaw27_LoopsOnce_l4 a4 a7) 1).bind fun z0 => match z0 with
       | .inl z =>
        some (.inr z)
       | .inr _ =>
        some (.inl ())) fun z0 => match z0 with
      | .inl _ =>
       if aa != 1 then
        some (.inr false)
       else
        some (.inl ())
      | .inr z =>
       some (.inr z)) fun z0 => match z0 with
    | .inl _ =>
     some (.inl (w64 (a0 + 1)))
    | .inr z =>
     some (.inr (.inl z))
  else
   some (.inr (.inr ()))
noncomputable def F_raddlelaw27_LoopsOnce (p0 : api_Chart) : Option Bool :=
 (F_raddlelaw27_alive).bind fun r8 =>
 Option.bind (α := Bool) (
  (F_raddleref26_Great p0).bind fun a6 =>
  if a6 then
   some true
  else
   (F_raddleref26_Check p0).bind fun a7 =>
   if a7 != 0 then
    some true
   else
    some (!r8)) fun a8 =>
 if a8 then
  some r8
 else
  (F_loops_Of p0).bind fun a0 =>
  (F_loops_Bound p0).bind fun a5 =>
  (F_chart_Counts p0).bind fun a4 =>
  Option.bind (α := Bool) (
   if a0.2 != 0 then
    some true
   else
    if a5.2 != 0 then
     some true
    else
     if a4.2 != 0 then
      some true
     else
      some ((a4.1.length : Int) != (w64 ((p0.Rows.length : Int) + 1)))) fun a9 =>
  if a9 then
   some false
  else
   Option.bind (α := Int ⊕ Bool) (
    (whileO (raddlelaw27_LoopsOnce_l3 p0 a4 a0) (0, 0)).bind fun z0 => match z0 with
     | .inl z =>
      some (.inr z)
     | .inr aa =>
      some (.inl aa)) fun z0 => match z0 with
    | .inl ab =>
     if ab != (a0.1.length : Int) then
      some false
     else
      Option.bind (α := Unit ⊕ Bool) (
       (whileO (raddlelaw27_LoopsOnce_l5 a0 a5 p0) 0).bind fun z0 => match z0 with
        | .inl z =>
         some (.inr z)
        | .inr _ =>
         some (.inl ())) fun z0 => match z0 with
       | .inl _ =>
        some r8
       | .inr z =>
        some z
    | .inr z =>
     some z
theorem c_raddlelaw27_LoopsOnce (E : Nat → Prop) (w0 : World) (p0 : api_Chart) (v0 : Value) (r : Bool) (h : F_raddlelaw27_LoopsOnce p0 = some r) (S : St0 E [] w0 w0 [] [fRep r_api_Chart (v0) p0]) :
 Calls Try.prog 9 #[v0] w0 (Ret (X := Unit) E [] w0 (fun _ => .bool r) (fun _ => []) (fun _ => [])) := by
 unfold F_raddlelaw27_LoopsOnce at h
 obtain ⟨u1, rfl, gk⟩ := S.know (i := 0) (e := fRep r_api_Chart (v0) p0) rfl
 have S := S.learn (fRep (rL r_api_Row) u1 p0.Rows) gk
 obtain ⟨ak, al, _, rfl, _⟩ := gk
 refine sEnter (args := [.agg #[iv p0.Start, .slice ak p0.Rows.length al]]) 275 Try.func9 rfl rfl (by simp) S (fun a S => ?_)
 refine sSeq (fun K5 gq => sRegion (sBox (v := .agg #[iv p0.Start, .slice ak p0.Rows.length al]) S (wN rfl) rfl rfl [iv p0.Start, .slice ak p0.Rows.length al] rfl rfl (lb rfl) fun a b6 w S => ?_))
 refine sN S fun a S => ?_
 refine lT (gq _ _ (sSeq (fun K7 gr => sRegion ?_)))
 obtain ⟨r8, gt, h⟩ := bS h
 have S1 := S.mem
 refine sCq [] (.bool r8) S callee20 (S1.quiet [] rfl) (fun E1 w1 S1 => c_raddlelaw27_alive E1 w1  r8 gt S1) fun a w S => ?_
 refine sN S fun a S => ?_
 refine lT (gr _ _ (sSeq (fun i7 fb => ?_)))
 obtain ⟨gu, h, gv⟩ := bS h
 refine sCut (fun a w => ∃ fc, fc = gu ∧ St [] E [] w0 275 a w [(1, .pointer (some ⟨b6, 0, none⟩)), (3, .bool r8), (33, .bool fc)] [eBox b6 24 [iv p0.Start, .slice ak p0.Rows.length al]] [fRep (rL r_api_Row) (.slice ak p0.Rows.length al) p0.Rows]) ?_ (fun a w hI => ?_)
 ·refine sRegion (sLoadN (p := b6) (off := 0) (T := 24) (vs := [iv p0.Start, .slice ak p0.Rows.length al]) 0 [iv p0.Start, .slice ak p0.Rows.length al] S (wN rfl) rfl rfl rfl rfl rfl rfl rfl (lb rfl) fun a S => ?_)
  obtain ⟨gl, fd, h⟩ := bS h
  have S1 := S.mem
  refine sCq [.agg #[iv p0.Start, .slice ak p0.Rows.length al]] (.bool gl) S callee10 (S1.quiet [1] rfl) (fun E1 w1 S1 => c_raddleref26_Great E1 w1 p0 (.agg #[iv p0.Start, .slice ak p0.Rows.length al]) gl fd S1) fun a w S => ?_
  refine sM S fun a S => ?_
  rcases iS h with ⟨aR, h⟩ | ⟨aR, h⟩
  ·refine sSkN 3 2 false 25 S rfl rfl aR rfl fun a S => ?_
   refine sPickT (.bool true) S (wN rfl) rfl rfl aR rfl rfl (lb rfl) fun a S => ?_
   refine sM S fun a S => ?_
   refine sSkN 2 7 false 30 S rfl rfl rfl rfl fun a S => ?_
   refine sPickT (.bool true) S (wN rfl) rfl rfl rfl rfl rfl (lb rfl) fun a S => ?_
   exact lT (⟨true, Option.some.inj h, S.fix [0] [0] (by decide) rfl rfl rfl⟩)
  refine sLoadN (p := b6) (off := 0) (T := 24) (vs := [iv p0.Start, .slice ak p0.Rows.length al]) 0 [iv p0.Start, .slice ak p0.Rows.length al] S (wG 2 false 25 rfl rfl rfl aR) rfl rfl rfl rfl rfl rfl rfl (lb rfl) fun a S => ?_
  obtain ⟨f4, fe, h⟩ := bS h
  have S1 := S.mem
  refine sCallQ (X := Unit) (f := 21) (vs := [.agg #[iv p0.Start, .slice ak p0.Rows.length al]]) (val := fun _ => iv f4) S (wG 2 false 25 rfl rfl rfl aR) rfl callee21 rfl (S1.quiet [1] rfl) (fun E1 w1 S1 => c_raddleref26_Check E1 w1 p0 (.agg #[iv p0.Start, .slice ak p0.Rows.length al]) f4 fe S1) rfl (lb rfl) fun _ a w S => ?_
  refine sBin _ S (wG 2 false 25 rfl rfl rfl aR) rfl rfl rfl (bNe _ _ _ _ .i64 f4 0) rfl (lb rfl) fun a S => ?_
  refine sPickF (.bool (f4 != 0)) S (wN rfl) rfl rfl aR rfl rfl (lb rfl) fun a S => ?_
  refine sM S fun a S => ?_
  rcases iS h with ⟨bc, h⟩ | ⟨bc, h⟩
  ·refine sSkN 2 7 false 30 S rfl rfl bc rfl fun a S => ?_
   refine sPickT (.bool true) S (wN rfl) rfl rfl bc rfl rfl (lb rfl) fun a S => ?_
   exact lT (⟨true, Option.some.inj h, S.fix [0] [0] (by decide) rfl rfl rfl⟩)
  refine sMove (.bool r8) S (wG 7 false 30 rfl rfl rfl bc) (.inl rfl) rfl rfl (lb rfl) fun a S => ?_
  refine sNot (b := r8) S (wG 7 false 30 rfl rfl rfl bc) rfl rfl rfl (lb rfl) fun a S => ?_
  refine sPickF (.bool (!r8)) S (wN rfl) rfl rfl bc rfl rfl (lb rfl) fun a S => ?_
  exact lT (⟨!r8, Option.some.inj h, S.fix [0] [0] (by decide) rfl rfl rfl⟩)
 obtain ⟨fc, rfl, S⟩ := hI
 have h := gv
 try dsimp only at h
 rcases iS h with ⟨cr, h⟩ | ⟨cr, h⟩
 ·refine sCondT S rfl cr ?_
  refine sSeq (fun i8 ff => sRegion (sM S fun a S => ?_))
  refine sN S fun a S => ?_
  refine lT (ff _ _ ?_)
  obtain rfl := tS h
  exact wp_ret (rThen (sRet (.bool r8) S (rsl1 rfl (rvT (t := 2) (v := .bool r8) S rfl)) ⟨(), rfl, S.mem.sel [] [] (by decide) rfl rfl⟩))
 refine sCondF S rfl cr ?_
 refine wp_skip (leafT (fb _ _ ?_))
 refine sSeq (fun i9 fg => sRegion (sLoadN (p := b6) (off := 0) (T := 24) (vs := [iv p0.Start, .slice ak p0.Rows.length al]) 0 [iv p0.Start, .slice ak p0.Rows.length al] S (wN rfl) rfl rfl rfl rfl rfl rfl rfl (lb rfl) fun a S => ?_))
 obtain ⟨ab, fh, h⟩ := bS h
 have S := S.learn (fRep r_api_Chart (.agg #[iv p0.Start, .slice ak p0.Rows.length al]) p0) ⟨_, rfl, S.mem.know (i := 0) (e := fRep (rL r_api_Row) (.slice ak p0.Rows.length al) p0.Rows) rfl⟩
 refine sCall (X := Value) (f := 11) (vs := [.agg #[iv p0.Start, .slice ak p0.Rows.length al]]) (val := c_loops_Of_val ab) (B' := fun _ => []) (D' := c_loops_Of_D ab) [] [eBox b6 24 [iv p0.Start, .slice ak p0.Rows.length al]] [fRep r_api_Chart (.agg #[iv p0.Start, .slice ak p0.Rows.length al]) p0] [0] [0] S (wN rfl) rfl callee11 rfl (by decide) rfl rfl (fun E1 w1 S1 => c_loops_Of E1 w1 p0 (.agg #[iv p0.Start, .slice ak p0.Rows.length al]) ab fh S1) rfl (lb rfl) fun gw a w S => ?_
 obtain ⟨a9, aa, _, rfl, _⟩ := S.mem.know (i := 0) (e := fRep (rL r_api_Loop) (gw) ab.1) rfl
 refine sM S fun a S => ?_
 refine sExtract (vs := [.slice a9 ab.1.length aa, iv ab.2]) (.slice a9 ab.1.length aa) S (wN rfl) rfl rfl rfl rfl (lb rfl) fun a S => ?_
 refine sExtract (vs := [.slice a9 ab.1.length aa, iv ab.2]) (iv ab.2) S (wN rfl) rfl rfl rfl rfl (lb rfl) fun a S => ?_
 refine sN S fun a S => ?_
 refine sN S fun a S => ?_
 refine lT (fg _ _ (sSeq (fun ia fi => sRegion (sLoadN (p := b6) (off := 0) (T := 24) (vs := [iv p0.Start, .slice ak p0.Rows.length al]) 0 [iv p0.Start, .slice ak p0.Rows.length al] S (wN rfl) rfl rfl rfl rfl rfl rfl rfl (lb rfl) fun a S => ?_))))
 obtain ⟨ao, fj, h⟩ := bS h
 refine sCall (X := Value) (f := 13) (vs := [.agg #[iv p0.Start, .slice ak p0.Rows.length al]]) (val := c_loops_Bound_val ao) (B' := fun _ => []) (D' := c_loops_Bound_D ao) [] [eBox b6 24 [iv p0.Start, .slice ak p0.Rows.length al]] [fRep r_api_Chart (.agg #[iv p0.Start, .slice ak p0.Rows.length al]) p0] [0] [1] S (wN rfl) rfl callee13 rfl (by decide) rfl rfl (fun E1 w1 S1 => c_loops_Bound E1 w1 p0 (.agg #[iv p0.Start, .slice ak p0.Rows.length al]) ao fj S1) rfl (lb rfl) fun gx a w S => ?_
 obtain ⟨ai, aj, _, rfl, _⟩ := S.mem.know (i := 0) (e := fRep (rL (rI .i64)) (gx) ao.1) rfl
 refine sM S fun a S => ?_
 refine sExtract (vs := [.slice ai ao.1.length aj, iv ao.2]) (.slice ai ao.1.length aj) S (wN rfl) rfl rfl rfl rfl (lb rfl) fun a S => ?_
 refine sExtract (vs := [.slice ai ao.1.length aj, iv ao.2]) (iv ao.2) S (wN rfl) rfl rfl rfl rfl (lb rfl) fun a S => ?_
 refine sN S fun a S => ?_
 refine sN S fun a S => ?_
 refine lT (fi _ _ (sSeq (fun ib fk => sRegion (sLoadN (p := b6) (off := 0) (T := 24) (vs := [iv p0.Start, .slice ak p0.Rows.length al]) 0 [iv p0.Start, .slice ak p0.Rows.length al] S (wN rfl) rfl rfl rfl rfl rfl rfl rfl (lb rfl) fun a S => ?_))))
 obtain ⟨ax, fm, h⟩ := bS h
 refine sCall (X := Value) (f := 31) (vs := [.agg #[iv p0.Start, .slice ak p0.Rows.length al]]) (val := c_chart_Counts_val ax) (B' := fun _ => []) (D' := c_chart_Counts_D ax) [] [eBox b6 24 [iv p0.Start, .slice ak p0.Rows.length al]] [fRep r_api_Chart (.agg #[iv p0.Start, .slice ak p0.Rows.length al]) p0] [0] [2] S (wN rfl) rfl callee31 rfl (by decide) rfl rfl (fun E1 w1 S1 => c_chart_Counts E1 w1 p0 (.agg #[iv p0.Start, .slice ak p0.Rows.length al]) ax fm S1) rfl (lb rfl) fun gy a w S => ?_
 obtain ⟨ar, au, _, rfl, _⟩ := S.mem.know (i := 0) (e := fRep (rL (rI .i64)) (gy) ax.1) rfl
 refine sM S fun a S => ?_
 refine sExtract (vs := [.slice ar ax.1.length au, iv ax.2]) (.slice ar ax.1.length au) S (wN rfl) rfl rfl rfl rfl (lb rfl) fun a S => ?_
 refine sExtract (vs := [.slice ar ax.1.length au, iv ax.2]) (iv ax.2) S (wN rfl) rfl rfl rfl rfl (lb rfl) fun a S => ?_
 refine sN S fun a S => ?_
 refine sN S fun a S => ?_
 refine lT (fk _ _ (sSeq (fun ic fp => ?_)))
 obtain ⟨gz, h, gA⟩ := bS h
 refine sCut (fun a w => ∃ fq, fq = gz ∧ St [] E [] w0 275 a w [(1, .pointer (some ⟨b6, 0, none⟩)), (3, .bool r8), (4, .slice a9 ab.1.length aa), (6, .slice ai ao.1.length aj), (8, .slice ar ax.1.length au), (68, .bool fq)] [eBox b6 24 [iv p0.Start, .slice ak p0.Rows.length al]] [fRep (rL r_api_Loop) (.slice a9 ab.1.length aa) ab.1, fRep (rL (rI .i64)) (.slice ai ao.1.length aj) ao.1, fRep (rL (rI .i64)) (.slice ar ax.1.length au) ax.1, fRep (rL r_api_Row) (.slice ak p0.Rows.length al) p0.Rows]) ?_ (fun a w hI => ?_)
 ·refine sRegion (sM S fun a S => ?_)
  refine sBin _ S (wN rfl) rfl rfl rfl (bNe _ _ _ _ .i64 ab.2 0) rfl (lb rfl) fun a S => ?_
  refine sM S fun a S => ?_
  rcases iS h with ⟨bf, h⟩ | ⟨bf, h⟩
  ·refine sSkN 2 2 false 52 S rfl rfl bf rfl fun a S => ?_
   refine sPickT (.bool true) S (wN rfl) rfl rfl bf rfl rfl (lb rfl) fun a S => ?_
   refine sM S fun a S => ?_
   refine sSkN 2 6 false 56 S rfl rfl rfl rfl fun a S => ?_
   refine sPickT (.bool true) S (wN rfl) rfl rfl rfl rfl rfl (lb rfl) fun a S => ?_
   refine sM S fun a S => ?_
   refine sSkN 7 10 false 60 S rfl rfl rfl rfl fun a S => ?_
   refine sPickT (.bool true) S (wN rfl) rfl rfl rfl rfl rfl (lb rfl) fun a S => ?_
   exact lT (⟨true, Option.some.inj h, S.fix [0] [2, 1, 0, 4] (by decide) rfl rfl rfl⟩)
  refine sMove (iv ao.2) S (wG 2 false 52 rfl rfl rfl bf) (.inl rfl) rfl rfl (lb rfl) fun a S => ?_
  refine sBin _ S (wG 2 false 52 rfl rfl rfl bf) rfl rfl rfl (bNe _ _ _ _ .i64 ao.2 0) rfl (lb rfl) fun a S => ?_
  refine sPickF (.bool (ao.2 != 0)) S (wN rfl) rfl rfl bf rfl rfl (lb rfl) fun a S => ?_
  refine sM S fun a S => ?_
  rcases iS h with ⟨bg, h⟩ | ⟨bg, h⟩
  ·refine sSkN 2 6 false 56 S rfl rfl bg rfl fun a S => ?_
   refine sPickT (.bool true) S (wN rfl) rfl rfl bg rfl rfl (lb rfl) fun a S => ?_
   refine sM S fun a S => ?_
   refine sSkN 7 10 false 60 S rfl rfl rfl rfl fun a S => ?_
   refine sPickT (.bool true) S (wN rfl) rfl rfl rfl rfl rfl (lb rfl) fun a S => ?_
   exact lT (⟨true, Option.some.inj h, S.fix [0] [2, 1, 0, 4] (by decide) rfl rfl rfl⟩)
  refine sMove (iv ax.2) S (wG 6 false 56 rfl rfl rfl bg) (.inl rfl) rfl rfl (lb rfl) fun a S => ?_
  refine sBin _ S (wG 6 false 56 rfl rfl rfl bg) rfl rfl rfl (bNe _ _ _ _ .i64 ax.2 0) rfl (lb rfl) fun a S => ?_
  refine sPickF (.bool (ax.2 != 0)) S (wN rfl) rfl rfl bg rfl rfl (lb rfl) fun a S => ?_
  refine sM S fun a S => ?_
  rcases iS h with ⟨aO, h⟩ | ⟨aO, h⟩
  ·refine sSkN 7 10 false 60 S rfl rfl aO rfl fun a S => ?_
   refine sPickT (.bool true) S (wN rfl) rfl rfl aO rfl rfl (lb rfl) fun a S => ?_
   exact lT (⟨true, Option.some.inj h, S.fix [0] [2, 1, 0, 4] (by decide) rfl rfl rfl⟩)
  refine sMove (.slice ar ax.1.length au) S (wG 10 false 60 rfl rfl rfl aO) (.inl rfl) rfl rfl (lb rfl) fun a S => ?_
  refine sLen S (wG 10 false 60 rfl rfl rfl aO) rfl Try.underlying32 rfl rfl (lb rfl) fun a S => ?_
  refine sField (b := b6) (off := 0) 1 1 S (wG 10 false 60 rfl rfl rfl aO) rfl rfl rfl rfl rfl (lb rfl) fun a S => ?_
  refine sLoad1 0 (.slice ak p0.Rows.length al) S (wG 10 false 60 rfl rfl rfl aO) rfl rfl rfl rfl rfl rfl (lb rfl) fun a S => ?_
  refine sLen S (wG 10 false 60 rfl rfl rfl aO) rfl Try.underlying22 rfl rfl (lb rfl) fun a S => ?_
  refine sBin _ S (wG 10 false 60 rfl rfl rfl aO) rfl rfl rfl (bAdd _ _ _ _ (p0.Rows.length : Int) 1) rfl (lb rfl) fun a S => ?_
  refine sBin _ S (wG 10 false 60 rfl rfl rfl aO) rfl rfl rfl (bNe _ _ _ _ .i64 (ax.1.length : Int) (w64 ((p0.Rows.length : Int) + 1))) rfl (lb rfl) fun a S => ?_
  refine sPickF (.bool ((ax.1.length : Int) != (w64 ((p0.Rows.length : Int) + 1)))) S (wN rfl) rfl rfl aO rfl rfl (lb rfl) fun a S => ?_
  exact lT (⟨(ax.1.length : Int) != (w64 ((p0.Rows.length : Int) + 1)), Option.some.inj h, S.fix [0] [2, 1, 0, 4] (by decide) rfl rfl rfl⟩)
 obtain ⟨fq, rfl, S⟩ := hI
 have h := gA
 try dsimp only at h
 rcases iS h with ⟨ct, h⟩ | ⟨ct, h⟩
 ·refine sCondT S rfl ct ?_
  refine sSeq (fun ig fr => sRegion (sN S fun a S => ?_))
  refine lT (fr _ _ ?_)
  obtain rfl := tS h
  exact wp_ret (rThen (sRet (.bool false) S (rsl1 rfl (rvT (t := 2) (v := .bool false) S rfl)) ⟨(), rfl, S.mem.sel [] [] (by decide) rfl rfl⟩))
 refine sCondF S rfl ct ?_
 refine wp_skip (leafT (fp _ _ ?_))
 refine sSeq (fun ii ft => sRegion (sN S fun a S => ?_))
 refine lT (ft _ _ ?_)
 obtain ⟨gB, h, f5⟩ := bS h
 refine sCut (fun a w => ∃ f6, .inl f6 = gB ∧ St [] E [] w0 275 a w [(1, .pointer (some ⟨b6, 0, none⟩)), (3, .bool r8), (4, .slice a9 ab.1.length aa), (6, .slice ai ao.1.length aj), (10, iv f6)] [eBox b6 24 [iv p0.Start, .slice ak p0.Rows.length al]] [fRep (rL r_api_Loop) (.slice a9 ab.1.length aa) ab.1, fRep (rL (rI .i64)) (.slice ai ao.1.length aj) ao.1, fRep (rL r_api_Row) (.slice ak p0.Rows.length al) p0.Rows]) ?_ (fun a w hI => ?_)
 ·refine sSeq (fun ij fu => sRegion (sN S fun a S => ?_))
  refine lT (fu _ _ (wp_block ?_))
  obtain ⟨ik, hl, f7⟩ := bS h
  refine sLoop hl (fun s0 a w => match s0 with | (cJ, aC) => St [] E [] w0 275 a w [(1, .pointer (some ⟨b6, 0, none⟩)), (3, .bool r8), (4, .slice a9 ab.1.length aa), (6, .slice ai ao.1.length aj), (8, .slice ar ax.1.length au), (10, iv cJ), (11, iv aC)] [eBox b6 24 [iv p0.Start, .slice ak p0.Rows.length al]] [fRep (rL r_api_Loop) (.slice a9 ab.1.length aa) ab.1, fRep (rL (rI .i64)) (.slice ai ao.1.length aj) ao.1, fRep (rL (rI .i64)) (.slice ar ax.1.length au) ax.1, fRep (rL r_api_Row) (.slice ak p0.Rows.length al) p0.Rows]) (S.fix [0] [0, 1, 2, 3] (by decide) rfl rfl rfl) ?_
  clear hl h
  intro s0 a w c0 hI h bx
  obtain ⟨cJ, aC⟩ := s0
  unfold raddlelaw27_LoopsOnce_l3 at h
  dsimp only at h hI
  have S := hI
  refine sSeq (fun il fv => sSeq (fun im fw => sRegion (sM S fun a S => ?_)))
  refine sField (b := b6) (off := 0) 1 1 S (wN rfl) rfl rfl rfl rfl rfl (lb rfl) fun a S => ?_
  refine sLoad1 0 (.slice ak p0.Rows.length al) S (wN rfl) rfl rfl rfl rfl rfl rfl (lb rfl) fun a S => ?_
  refine sLen S (wN rfl) rfl Try.underlying22 rfl rfl (lb rfl) fun a S => ?_
  refine sBin _ S (wN rfl) rfl rfl rfl (bLe _ _ _ _ .i64 aC (p0.Rows.length : Int)) rfl (lb rfl) fun a S => ?_
  refine lT (fw _ _ ?_)
  rcases iS h with ⟨cu, h⟩ | ⟨cu, h⟩
  rotate_left
  ·refine sCondF S rfl cu ?_
   obtain rfl := tS h
   obtain rfl := bx _ rfl
   have h := f7
   try dsimp only at h
   exact wp_exit (xThen (xThen (xHit (leafT (⟨cJ, Option.some.inj h, S.fix [0] [0, 1, 3] (by decide) rfl rfl rfl⟩)))))
  refine sCondT S rfl cu ?_
  refine wp_skip (leafT (fv _ _ ?_))
  obtain ⟨gC, h, f8⟩ := bS h
  refine sCut (fun a w => ∃ fa, .inl fa = gC ∧ St [] E [] w0 275 a w [(1, .pointer (some ⟨b6, 0, none⟩)), (3, .bool r8), (4, .slice a9 ab.1.length aa), (6, .slice ai ao.1.length aj), (8, .slice ar ax.1.length au), (10, iv fa), (11, iv aC)] [eBox b6 24 [iv p0.Start, .slice ak p0.Rows.length al]] [fRep (rL r_api_Loop) (.slice a9 ab.1.length aa) ab.1, fRep (rL (rI .i64)) (.slice ai ao.1.length aj) ao.1, fRep (rL (rI .i64)) (.slice ar ax.1.length au) ax.1, fRep (rL r_api_Row) (.slice ak p0.Rows.length al) p0.Rows]) ?_ (fun a w hI => ?_)
  rotate_left
  ·obtain ⟨fa, rfl, S⟩ := hI
   have h := f8
   try dsimp only at h
   refine sRegion (sM S fun a S => ?_)
   refine sBin _ S (wN rfl) rfl rfl rfl (bAdd _ _ _ _ aC 1) rfl (lb rfl) fun a S => ?_
   refine sN S fun a S => ?_
   exact lT (⟨(fa, w64 (aC + 1)), (Option.some.inj h).symm, (S.fix [0] [0, 1, 2, 3] (by decide) rfl rfl rfl)⟩)
  refine wp_block ?_
  refine sSeq (fun io fx => sRegion (sLoadN (p := b6) (off := 0) (T := 24) (vs := [iv p0.Start, .slice ak p0.Rows.length al]) 0 [iv p0.Start, .slice ak p0.Rows.length al] S (wN rfl) rfl rfl rfl rfl rfl rfl rfl (lb rfl) fun a S => ?_))
  refine sM S fun a S => ?_
  obtain ⟨am, fy, h⟩ := bS h
  have S1 := S.mem
  have S1 := S1.learn (fRep r_api_Chart (.agg #[iv p0.Start, .slice ak p0.Rows.length al]) p0) ⟨_, rfl, S1.know (i := 3) (e := fRep (rL r_api_Row) (.slice ak p0.Rows.length al) p0.Rows) rfl⟩
  refine sCq [.agg #[iv p0.Start, .slice ak p0.Rows.length al], iv aC] (.tuple #[iv am.1, iv am.2.1, iv am.2.2]) S callee22 (S1.quiet [0] rfl) (fun E1 w1 S1 => c_loops_Row E1 w1 p0 (.agg #[iv p0.Start, .slice ak p0.Rows.length al]) aC am fy S1) fun a w S => ?_
  refine sM S fun a S => ?_
  refine sExtract (vs := [iv am.1, iv am.2.1, iv am.2.2]) (iv am.1) S (wN rfl) rfl rfl rfl rfl (lb rfl) fun a S => ?_
  refine sExtract (vs := [iv am.1, iv am.2.1, iv am.2.2]) (iv am.2.1) S (wN rfl) rfl rfl rfl rfl (lb rfl) fun a S => ?_
  refine sExtract (vs := [iv am.1, iv am.2.1, iv am.2.2]) (iv am.2.2) S (wN rfl) rfl rfl rfl rfl (lb rfl) fun a S => ?_
  refine sN S fun a S => ?_
  refine sN S fun a S => ?_
  refine sN S fun a S => ?_
  refine lT (fx _ _ (sSeq (fun ip fz => ?_)))
  obtain ⟨gD, h, gE⟩ := bS h
  refine sCut (fun a w => ∃ fA, fA = gD ∧ St [] E [] w0 275 a w [(1, .pointer (some ⟨b6, 0, none⟩)), (3, .bool r8), (4, .slice a9 ab.1.length aa), (6, .slice ai ao.1.length aj), (8, .slice ar ax.1.length au), (11, iv aC), (12, iv am.1), (13, iv am.2.1), (105, .bool fA)] [eBox b6 24 [iv p0.Start, .slice ak p0.Rows.length al]] [fRep (rL r_api_Loop) (.slice a9 ab.1.length aa) ab.1, fRep (rL (rI .i64)) (.slice ai ao.1.length aj) ao.1, fRep (rL (rI .i64)) (.slice ar ax.1.length au) ax.1, fRep (rL r_api_Row) (.slice ak p0.Rows.length al) p0.Rows]) ?_ (fun a w hI => ?_)
  ·refine sRegion (sM S fun a S => ?_)
   refine sBin _ S (wN rfl) rfl rfl rfl (bNe _ _ _ _ .i64 am.2.2 0) rfl (lb rfl) fun a S => ?_
   refine sM S fun a S => ?_
   rcases iS h with ⟨aS, h⟩ | ⟨aS, h⟩
   ·refine sSkN 3 2 false 85 S rfl rfl aS rfl fun a S => ?_
    refine sPickT (.bool true) S (wN rfl) rfl rfl aS rfl rfl (lb rfl) fun a S => ?_
    refine sM S fun a S => ?_
    refine sSkN 8 7 false 90 S rfl rfl rfl rfl fun a S => ?_
    refine sPickT (.bool true) S (wN rfl) rfl rfl rfl rfl rfl (lb rfl) fun a S => ?_
    refine sM S fun a S => ?_
    refine sSkN 4 17 false 100 S rfl rfl rfl rfl fun a S => ?_
    refine sPickT (.bool true) S (wN rfl) rfl rfl rfl rfl rfl (lb rfl) fun a S => ?_
    exact lT (⟨true, Option.some.inj h, S.fix [0] [0, 1, 2, 3] (by decide) rfl rfl rfl⟩)
   refine sMove (iv am.1) S (wG 2 false 85 rfl rfl rfl aS) (.inl rfl) rfl rfl (lb rfl) fun a S => ?_
   refine sMove (iv cJ) S (wG 2 false 85 rfl rfl rfl aS) (.inl rfl) rfl rfl (lb rfl) fun a S => ?_
   refine sBin _ S (wG 2 false 85 rfl rfl rfl aS) rfl rfl rfl (bNe _ _ _ _ .i64 am.1 cJ) rfl (lb rfl) fun a S => ?_
   refine sPickF (.bool (am.1 != cJ)) S (wN rfl) rfl rfl aS rfl rfl (lb rfl) fun a S => ?_
   refine sM S fun a S => ?_
   rcases iS h with ⟨aL, h⟩ | ⟨aL, h⟩
   ·refine sSkN 8 7 false 90 S rfl rfl aL rfl fun a S => ?_
    refine sPickT (.bool true) S (wN rfl) rfl rfl aL rfl rfl (lb rfl) fun a S => ?_
    refine sM S fun a S => ?_
    refine sSkN 4 17 false 100 S rfl rfl rfl rfl fun a S => ?_
    refine sPickT (.bool true) S (wN rfl) rfl rfl rfl rfl rfl (lb rfl) fun a S => ?_
    exact lT (⟨true, Option.some.inj h, S.fix [0] [0, 1, 2, 3] (by decide) rfl rfl rfl⟩)
   refine sMove (iv am.2.1) S (wG 7 false 90 rfl rfl rfl aL) (.inl rfl) rfl rfl (lb rfl) fun a S => ?_
   refine sMove (iv am.1) S (wG 7 false 90 rfl rfl rfl aL) (.inl rfl) rfl rfl (lb rfl) fun a S => ?_
   refine sMove (.slice ar ax.1.length au) S (wG 7 false 90 rfl rfl rfl aL) (.inl rfl) rfl rfl (lb rfl) fun a S => ?_
   refine sMove (iv aC) S (wG 7 false 90 rfl rfl rfl aL) (.inl rfl) rfl rfl (lb rfl) fun a S => ?_
   obtain ⟨cv, fB, h⟩ := bS h
   obtain ⟨gm, fC, S⟩ := pIdx (P := Try.prog) (r := (rI .i64)) (v := .slice ar ax.1.length au) (xs := ax.1) (j := aC) 32 3 2 S Try.underlying32 rfl rfl fB
   refine sIdxV S (wG 7 false 90 rfl rfl rfl aL) rfl rfl rfl fC rfl (lb rfl) fun a S => ?_
   obtain ⟨gn, S⟩ := pLoad (r := (rI .i64)) (q := gm) (x := cv) 0 S rfl
   obtain rfl : gn = iv cv := S.mem.know (i := 1) (e := fRep (rI .i64) (gn) cv) rfl
   refine sLoadV1 (vq := gm) 0 (iv cv) S (wG 7 false 90 rfl rfl rfl aL) rfl rfl rfl rfl rfl (lb rfl) fun a S => ?_
   refine sBin _ S (wG 7 false 90 rfl rfl rfl aL) rfl rfl rfl (bAdd _ _ _ _ am.1 cv) rfl (lb rfl) fun a S => ?_
   refine sBin _ S (wG 7 false 90 rfl rfl rfl aL) rfl rfl rfl (bNe _ _ _ _ .i64 am.2.1 (w64 (am.1 + cv))) rfl (lb rfl) fun a S => ?_
   refine sPickF (.bool (am.2.1 != (w64 (am.1 + cv)))) S (wN rfl) rfl rfl aL rfl rfl (lb rfl) fun a S => ?_
   refine sM S fun a S => ?_
   rcases iS h with ⟨aQ, h⟩ | ⟨aQ, h⟩
   ·refine sSkN 4 17 false 100 S rfl rfl aQ rfl fun a S => ?_
    refine sPickT (.bool true) S (wN rfl) rfl rfl aQ rfl rfl (lb rfl) fun a S => ?_
    exact lT (⟨true, Option.some.inj h, S.fix [0] [3, 4, 5, 6] (by decide) rfl rfl rfl⟩)
   refine sMove (iv am.2.1) S (wG 17 false 100 rfl rfl rfl aQ) (.inl rfl) rfl rfl (lb rfl) fun a S => ?_
   refine sMove (.slice a9 ab.1.length aa) S (wG 17 false 100 rfl rfl rfl aQ) (.inl rfl) rfl rfl (lb rfl) fun a S => ?_
   refine sLen S (wG 17 false 100 rfl rfl rfl aQ) rfl Try.underlying26 rfl rfl (lb rfl) fun a S => ?_
   refine sBin _ S (wG 17 false 100 rfl rfl rfl aQ) rfl rfl rfl (bGt _ _ _ _ .i64 am.2.1 (ab.1.length : Int)) rfl (lb rfl) fun a S => ?_
   refine sPickF (.bool (decide ((ab.1.length : Int) < am.2.1))) S (wN rfl) rfl rfl aQ rfl rfl (lb rfl) fun a S => ?_
   exact lT (⟨decide ((ab.1.length : Int) < am.2.1), Option.some.inj h, S.fix [0] [3, 4, 5, 6] (by decide) rfl rfl rfl⟩)
  obtain ⟨fA, rfl, S⟩ := hI
  have h := gE
  try dsimp only at h
  rcases iS h with ⟨cw, h⟩ | ⟨cw, h⟩
  ·refine sCondT S rfl cw ?_
   refine sSeq (fun iq fG => sRegion (sN S fun a S => ?_))
   refine lT (fG _ _ ?_)
   obtain rfl := tS h
   have h := f8
   try dsimp only at h
   obtain rfl := tS h
   obtain rfl := bx _ rfl
   have h := f7
   try dsimp only at h
   obtain rfl := tS h
   have h := f5
   try dsimp only at h
   obtain rfl := tS h
   exact wp_ret (rThen (rBlock (rThen (rThen (rBlock (rThen (sRet (.bool false) S (rsl1 rfl (rvT (t := 2) (v := .bool false) S rfl)) ⟨(), rfl, S.mem.sel [] [] (by decide) rfl rfl⟩)))))))
  refine sCondF S rfl cw ?_
  refine wp_skip (leafT (fz _ _ ?_))
  obtain ⟨gF, h, fH⟩ := bS h
  refine sCut (fun a w => .inl () = gF ∧ St [] E [] w0 275 a w [(1, .pointer (some ⟨b6, 0, none⟩)), (3, .bool r8), (4, .slice a9 ab.1.length aa), (6, .slice ai ao.1.length aj), (8, .slice ar ax.1.length au), (11, iv aC), (13, iv am.2.1)] [eBox b6 24 [iv p0.Start, .slice ak p0.Rows.length al]] [fRep (rL r_api_Loop) (.slice a9 ab.1.length aa) ab.1, fRep (rL (rI .i64)) (.slice ai ao.1.length aj) ao.1, fRep (rL (rI .i64)) (.slice ar ax.1.length au) ax.1, fRep (rL r_api_Row) (.slice ak p0.Rows.length al) p0.Rows]) ?_ (fun a w hI => ?_)
  rotate_left
  ·obtain ⟨rfl, S⟩ := hI
   have h := fH
   try dsimp only at h
   refine sRegion (sM S fun a S => ?_)
   refine sN S fun a S => ?_
   exact leafL (leafB (leafT (⟨am.2.1, Option.some.inj h, S.fix [0] [0, 1, 2, 3] (by decide) rfl rfl rfl⟩)))
  refine sSeq (fun ir fK => sRegion (sM S fun a S => ?_))
  refine sN S fun a S => ?_
  refine lT (fK _ _ (wp_block ?_))
  obtain ⟨iu, hl, fL⟩ := bS h
  refine sLoop hl (fun s0 a w => match s0 with | aM => St [] E [] w0 275 a w [(1, .pointer (some ⟨b6, 0, none⟩)), (3, .bool r8), (4, .slice a9 ab.1.length aa), (6, .slice ai ao.1.length aj), (8, .slice ar ax.1.length au), (11, iv aC), (12, iv am.1), (13, iv am.2.1), (15, iv aM)] [eBox b6 24 [iv p0.Start, .slice ak p0.Rows.length al]] [fRep (rL r_api_Loop) (.slice a9 ab.1.length aa) ab.1, fRep (rL (rI .i64)) (.slice ai ao.1.length aj) ao.1, fRep (rL (rI .i64)) (.slice ar ax.1.length au) ax.1, fRep (rL r_api_Row) (.slice ak p0.Rows.length al) p0.Rows]) (S.fix [0] [0, 1, 2, 3] (by decide) rfl rfl rfl) ?_
  clear hl h
  intro aM a w c0 hI h cx
  unfold raddlelaw27_LoopsOnce_l2 at h
  dsimp only at h hI
  have S := hI
  refine sSeq (fun iw fO => sSeq (fun iy fP => sRegion (sM S fun a S => ?_)))
  refine sM S fun a S => ?_
  refine sBin _ S (wN rfl) rfl rfl rfl (bLt _ _ _ _ .i64 aM am.2.1) rfl (lb rfl) fun a S => ?_
  refine lT (fP _ _ ?_)
  rcases iS h with ⟨cy, h⟩ | ⟨cy, h⟩
  rotate_left
  ·refine sCondF S rfl cy ?_
   obtain rfl := tS h
   obtain rfl := cx _ rfl
   have h := fL
   try dsimp only at h
   exact wp_exit (xThen (xThen (xHit (leafT (⟨Option.some.inj h, S.fix [0] [0, 1, 2, 3] (by decide) rfl rfl rfl⟩)))))
  refine sCondT S rfl cy ?_
  refine wp_skip (leafT (fO _ _ ?_))
  obtain ⟨gG, h, fQ⟩ := bS h
  refine sCut (fun a w => .inl () = gG ∧ St [] E [] w0 275 a w [(1, .pointer (some ⟨b6, 0, none⟩)), (3, .bool r8), (4, .slice a9 ab.1.length aa), (6, .slice ai ao.1.length aj), (8, .slice ar ax.1.length au), (11, iv aC), (12, iv am.1), (13, iv am.2.1), (15, iv aM)] [eBox b6 24 [iv p0.Start, .slice ak p0.Rows.length al]] [fRep (rL r_api_Loop) (.slice a9 ab.1.length aa) ab.1, fRep (rL (rI .i64)) (.slice ai ao.1.length aj) ao.1, fRep (rL (rI .i64)) (.slice ar ax.1.length au) ax.1, fRep (rL r_api_Row) (.slice ak p0.Rows.length al) p0.Rows]) ?_ (fun a w hI => ?_)
  rotate_left
  ·obtain ⟨rfl, S⟩ := hI
   have h := fQ
   try dsimp only at h
   refine sRegion (sM S fun a S => ?_)
   refine sBin _ S (wN rfl) rfl rfl rfl (bAdd _ _ _ _ aM 1) rfl (lb rfl) fun a S => ?_
   refine sN S fun a S => ?_
   exact lT (⟨w64 (aM + 1), (Option.some.inj h).symm, (S.fix [0] [0, 1, 2, 3] (by decide) rfl rfl rfl)⟩)
  refine wp_block ?_
  refine sSeq (fun iz fR => sSeq (fun iA fS => sRegion (sM S fun a S => ?_)))
  refine sM S fun a S => ?_
  obtain ⟨aI, bi, h⟩ := bS h
  obtain ⟨gp, cK, S⟩ := pIdx (P := Try.prog) (r := r_api_Loop) (v := .slice a9 ab.1.length aa) (xs := ab.1) (j := aM) 26 48 0 S Try.underlying26 rfl rfl bi
  refine sIdxV S (wN rfl) rfl rfl rfl cK rfl (lb rfl) fun a S => ?_
  obtain ⟨cL, cM, S⟩ := pFld (P := Try.prog) (r := r_api_Loop) (s2 := (rI .i64)) (g := (·.Row)) (q := gp) (z := aI) 48 0 0 0 S rfl rfl comp_api_Loop_Row
  refine sFldV (q := gp) S (wN rfl) rfl rfl cM rfl (lb rfl) fun a S => ?_
  obtain ⟨cN, S⟩ := pLoad (r := (rI .i64)) (q := cL) (x := aI.Row) 0 S rfl
  obtain rfl : cN = iv aI.Row := S.mem.know (i := 1) (e := fRep (rI .i64) (cN) aI.Row) rfl
  refine sLoadV1 (vq := cL) 0 (iv aI.Row) S (wN rfl) rfl rfl rfl rfl rfl (lb rfl) fun a S => ?_
  refine sM S fun a S => ?_
  refine sBin _ S (wN rfl) rfl rfl rfl (bNe _ _ _ _ .i64 aI.Row aC) rfl (lb rfl) fun a S => ?_
  refine lT (fS _ _ ?_)
  rcases iS h with ⟨bj, h⟩ | ⟨bj, h⟩
  ·refine sCondT S rfl bj ?_
   refine sSeq (fun gH cO => sRegion (sN S fun a S => ?_))
   refine lT (cO _ _ ?_)
   obtain rfl := tS h
   have h := fQ
   try dsimp only at h
   obtain rfl := tS h
   obtain rfl := cx _ rfl
   have h := fL
   try dsimp only at h
   obtain rfl := tS h
   have h := fH
   try dsimp only at h
   obtain rfl := tS h
   have h := f8
   try dsimp only at h
   obtain rfl := tS h
   obtain rfl := bx _ rfl
   have h := f7
   try dsimp only at h
   obtain rfl := tS h
   have h := f5
   try dsimp only at h
   obtain rfl := tS h
   exact wp_ret (rThen (rBlock (rThen (rThen (rBlock (rThen (rBlock (rThen (rThen (rBlock (rThen (sRet (.bool false) S (rsl1 rfl (rvT (t := 2) (v := .bool false) S rfl)) ⟨(), rfl, S.mem.sel [] [] (by decide) rfl rfl⟩))))))))))))
  refine sCondF S rfl bj ?_
  refine wp_skip (leafT (fR _ _ ?_))
  refine sSeq (fun gI cP => sRegion (sN S fun a S => ?_))
  refine lT (cP _ _ (wp_block ?_))
  obtain ⟨gJ, hl, cQ⟩ := bS h
  refine sLoop hl (fun s0 a w => match s0 with | aH => St [] E [] w0 275 a w [(1, .pointer (some ⟨b6, 0, none⟩)), (3, .bool r8), (4, .slice a9 ab.1.length aa), (6, .slice ai ao.1.length aj), (8, .slice ar ax.1.length au), (11, iv aC), (12, iv am.1), (13, iv am.2.1), (15, iv aM), (16, iv aH)] [eBox b6 24 [iv p0.Start, .slice ak p0.Rows.length al]] [fRep (rL r_api_Loop) (.slice a9 ab.1.length aa) ab.1, fRep (rL (rI .i64)) (.slice ai ao.1.length aj) ao.1, fRep (rL (rI .i64)) (.slice ar ax.1.length au) ax.1, fRep (rL r_api_Row) (.slice ak p0.Rows.length al) p0.Rows]) (S.fix [0] [4, 5, 6, 7] (by decide) rfl rfl rfl) ?_
  clear hl h
  intro aH a w c0 hI h cm
  unfold raddlelaw27_LoopsOnce_l1 at h
  dsimp only at h hI
  have S := hI
  refine sSeq (fun gK cR => sSeq (fun gL cS => sRegion (sM S fun a S => ?_)))
  refine sM S fun a S => ?_
  refine sM S fun a S => ?_
  obtain ⟨cT, cU, S⟩ := pIdx (P := Try.prog) (r := r_api_Loop) (v := .slice a9 ab.1.length aa) (xs := ab.1) (j := aM) 26 48 0 S Try.underlying26 rfl rfl bi
  refine sIdxV S (wN rfl) rfl rfl rfl cU rfl (lb rfl) fun a S => ?_
  obtain ⟨cV, cW, S⟩ := pFld (P := Try.prog) (r := r_api_Loop) (s2 := (rL (rI .i64))) (g := (·.Parents)) (q := cT) (z := aI) 48 2 0 2 S rfl rfl comp_api_Loop_Parents
  refine sFldV (q := cT) S (wN rfl) rfl rfl cW rfl (lb rfl) fun a S => ?_
  obtain ⟨fT, S⟩ := pLoad (r := (rL (rI .i64))) (q := cV) (x := aI.Parents) 0 S rfl
  obtain ⟨cX, cY, _, rfl, _⟩ := S.mem.know (i := 1) (e := fRep (rL (rI .i64)) (fT) aI.Parents) rfl
  refine sLoadV1 (vq := cV) 0 (.slice cX aI.Parents.length cY) S (wN rfl) rfl rfl rfl rfl rfl (lb rfl) fun a S => ?_
  refine sLen S (wN rfl) rfl Try.underlying32 rfl rfl (lb rfl) fun a S => ?_
  refine sBin _ S (wN rfl) rfl rfl rfl (bLt _ _ _ _ .i64 aH (aI.Parents.length : Int)) rfl (lb rfl) fun a S => ?_
  refine lT (cS _ _ ?_)
  rcases iS h with ⟨bk, h⟩ | ⟨bk, h⟩
  rotate_left
  ·refine sCondF S rfl bk ?_
   obtain rfl := tS h
   obtain rfl := cm _ rfl
   have h := cQ
   try dsimp only at h
   exact wp_exit (xThen (xThen (xHit (leafB (leafT (⟨Option.some.inj h, S.fix [0] [4, 5, 6, 7] (by decide) rfl rfl rfl⟩))))))
  refine sCondT S rfl bk ?_
  refine wp_skip (leafT (cR _ _ ?_))
  refine sSeq (fun gM cZ => wp_block ?_)
  obtain ⟨fU, h, fV⟩ := bS h
  refine sCut (fun a w => ∃ cz, cz = fU ∧ St [] E [] w0 275 a w [(1, .pointer (some ⟨b6, 0, none⟩)), (3, .bool r8), (4, .slice a9 ab.1.length aa), (6, .slice ai ao.1.length aj), (8, .slice ar ax.1.length au), (11, iv aC), (12, iv am.1), (13, iv am.2.1), (15, iv aM), (16, iv aH), (160, .bool cz)] [eBox b6 24 [iv p0.Start, .slice ak p0.Rows.length al]] [fRep (rL r_api_Loop) (.slice a9 ab.1.length aa) ab.1, fRep (rL (rI .i64)) (.slice ai ao.1.length aj) ao.1, fRep (rL (rI .i64)) (.slice ar ax.1.length au) ax.1, fRep (rL r_api_Row) (.slice ak p0.Rows.length al) p0.Rows]) ?_ (fun a w hI => ?_)
  rotate_left
  ·obtain ⟨cz, rfl, S⟩ := hI
   have h := fV
   try dsimp only at h
   rcases iS h with ⟨bl, h⟩ | ⟨bl, h⟩
   rotate_left
   ·refine sCondF S rfl bl ?_
    refine wp_skip (leafB (leafT (cZ _ _ ?_)))
    refine sRegion (sM S fun a S => ?_)
    refine sBin _ S (wN rfl) rfl rfl rfl (bAdd _ _ _ _ aH 1) rfl (lb rfl) fun a S => ?_
    refine sN S fun a S => ?_
    exact lT (⟨w64 (aH + 1), (Option.some.inj h).symm, (S.fix [0] [0, 1, 2, 3] (by decide) rfl rfl rfl)⟩)
   refine sCondT S rfl bl ?_
   refine sSeq (fun gN d1 => sRegion (sN S fun a S => ?_))
   refine lT (d1 _ _ ?_)
   obtain rfl := tS h
   obtain rfl := cm _ rfl
   have h := cQ
   try dsimp only at h
   obtain rfl := tS h
   have h := fQ
   try dsimp only at h
   obtain rfl := tS h
   obtain rfl := cx _ rfl
   have h := fL
   try dsimp only at h
   obtain rfl := tS h
   have h := fH
   try dsimp only at h
   obtain rfl := tS h
   have h := f8
   try dsimp only at h
   obtain rfl := tS h
   obtain rfl := bx _ rfl
   have h := f7
   try dsimp only at h
   obtain rfl := tS h
   have h := f5
   try dsimp only at h
   obtain rfl := tS h
   exact wp_ret (rBlock (rThen (rThen (rBlock (rBlock (rThen (rThen (rBlock (rThen (rBlock (rThen (rThen (rBlock (rThen (sRet (.bool false) S (rsl1 rfl (rvT (t := 2) (v := .bool false) S rfl)) ⟨(), rfl, S.mem.sel [] [] (by decide) rfl rfl⟩)))))))))))))))
  rcases iS h with ⟨ae, h⟩ | ⟨ae, h⟩
  ·refine sDraw (nf := []) (W := [(0, 129, iv aC), (1, 130, .bool (aC == 0)), (2, 131, .bool (aC == 0)), (3, 132, undef), (4, 133, undef), (5, 134, undef), (6, 135, undef), (7, 136, undef), (8, 137, undef), (9, 138, undef), (10, 139, undef), (11, 140, undef), (12, 141, undef), (13, 142, undef), (14, 143, undef), (15, 144, undef), (16, 145, undef), (17, 146, undef), (18, 147, undef), (19, 148, .bool true), (20, 149, .bool true), (21, 150, undef), (22, 151, undef), (23, 152, undef), (24, 153, undef), (25, 154, undef), (26, 155, undef), (27, 156, undef), (28, 157, undef), (29, 158, undef), (30, 159, undef), (31, 160, .bool true)]) rfl S ?_
   refine node_by (A := anc_raddlelaw27_LoopsOnce_0) 32 (by kernel_rfl) (by kernel_rfl) (by kernel_rfl) (by kernel_rfl) (by kernel_rfl) [0, 1, 2, 3, 4, 5, 6, 7, 8, 9, 10, 11, 12, 13, 14, 15, 16, 17, 18, 19, 20, 21, 22, 23, 24, 25, 26, 27, 28, 29, 30, 31] (by kernel_rfl) (by decide) (by decide) (fF ?_ (fF ?_ (fF ?_ (fF ?_ (fF ?_ (fF ?_ (fF ?_ (fF ?_ (fF ?_ (fF ?_ (fF ?_ (fF ?_ (fF ?_ (fF ?_ (fF ?_ (fF ?_ (fF ?_ (fF ?_ (fF ?_ (fF ?_ (fF ?_ (fF ?_ (fF ?_ (fF ?_ (fF ?_ (fF ?_ (fF ?_ (fF ?_ (fF ?_ (fF ?_ (fF ?_ (fF ?_ (trivial))))))))))))))))))))))))))))))))) [(1, .pointer (some ⟨b6, 0, none⟩)), (3, .bool r8), (4, .slice a9 ab.1.length aa), (6, .slice ai ao.1.length aj), (8, .slice ar ax.1.length au), (11, iv aC), (12, iv am.1), (13, iv am.2.1), (15, iv aM), (16, iv aH), (132, undef), (133, undef), (134, undef), (135, undef), (136, undef), (137, undef), (138, undef), (139, undef), (140, undef), (141, undef), (142, undef), (143, undef), (144, undef), (145, undef), (146, undef), (147, undef), (150, undef), (151, undef), (152, undef), (153, undef), (154, undef), (155, undef), (156, undef), (157, undef), (158, undef), (159, undef), (160, .bool true)] (fin_of [none, none, none, none, none, none, none, none, none, none, some 3, some 4, some 5, some 6, some 7, some 8, some 9, some 10, some 11, some 12, some 13, some 14, some 15, some 16, some 17, some 18, some 21, some 22, some 23, some 24, some 25, some 26, some 27, some 28, some 29, some 30, some 31] rfl (by kernel_rfl) (by kernel_rfl)) (fun _ a w S => ?_)
   ·exact fM 0 none rfl rfl rfl rfl (.inl rfl) rfl rfl rfl
   ·refine fJ [(129, _)] 1 [some 0] fun G a w S => ?_
    exact sBin _ S (wN rfl) rfl rfl rfl (bEq _ _ _ _ .i64 aC 0) rfl (lb rfl) fun a S => leafL ⟨rfl, S⟩
   ·exact fM 2 (some 1) rfl rfl rfl rfl (.inl rfl) rfl rfl rfl
   ·refine fJ [(4, _), (131, _)] 3 [none, some 2] fun G a w S => ?_
    exact sSk S rfl rfl rfl ae rfl rfl fun a S => leafL ⟨rfl, S⟩
   ·refine fJ [(15, _), (131, _)] 4 [none, some 2] fun G a w S => ?_
    exact sSk S rfl rfl rfl ae rfl rfl fun a S => leafL ⟨rfl, S⟩
   ·refine fJ [(132, _), (133, _), (131, _)] 5 [some 3, some 4, some 2] fun G a w S => ?_
    exact sSk S rfl rfl rfl ae rfl rfl fun a S => leafL ⟨rfl, S⟩
   ·refine fJ [(134, _), (131, _)] 6 [some 5, some 2] fun G a w S => ?_
    exact sSk S rfl rfl rfl ae rfl rfl fun a S => leafL ⟨rfl, S⟩
   ·refine fJ [(135, _), (131, _)] 7 [some 6, some 2] fun G a w S => ?_
    exact sSk S rfl rfl rfl ae rfl rfl fun a S => leafL ⟨rfl, S⟩
   ·refine fJ [(16, _), (131, _)] 8 [none, some 2] fun G a w S => ?_
    exact sSk S rfl rfl rfl ae rfl rfl fun a S => leafL ⟨rfl, S⟩
   ·refine fJ [(136, _), (137, _), (131, _)] 9 [some 7, some 8, some 2] fun G a w S => ?_
    exact sSk S rfl rfl rfl ae rfl rfl fun a S => leafL ⟨rfl, S⟩
   ·refine fJ [(138, _), (131, _)] 10 [some 9, some 2] fun G a w S => ?_
    exact sSk S rfl rfl rfl ae rfl rfl fun a S => leafL ⟨rfl, S⟩
   ·refine fJ [(12, _), (131, _)] 11 [none, some 2] fun G a w S => ?_
    exact sSk S rfl rfl rfl ae rfl rfl fun a S => leafL ⟨rfl, S⟩
   ·refine fJ [(8, _), (131, _)] 12 [none, some 2] fun G a w S => ?_
    exact sSk S rfl rfl rfl ae rfl rfl fun a S => leafL ⟨rfl, S⟩
   ·refine fJ [(11, _), (131, _)] 13 [none, some 2] fun G a w S => ?_
    exact sSk S rfl rfl rfl ae rfl rfl fun a S => leafL ⟨rfl, S⟩
   ·refine fJ [(142, _), (131, _)] 14 [some 13, some 2] fun G a w S => ?_
    exact sSk S rfl rfl rfl ae rfl rfl fun a S => leafL ⟨rfl, S⟩
   ·refine fJ [(141, _), (143, _), (131, _)] 15 [some 12, some 14, some 2] fun G a w S => ?_
    exact sSk S rfl rfl rfl ae rfl rfl fun a S => leafL ⟨rfl, S⟩
   ·refine fJ [(144, _), (131, _)] 16 [some 15, some 2] fun G a w S => ?_
    exact sSk S rfl rfl rfl ae rfl rfl fun a S => leafL ⟨rfl, S⟩
   ·refine fJ [(140, _), (145, _), (131, _)] 17 [some 11, some 16, some 2] fun G a w S => ?_
    exact sSk S rfl rfl rfl ae rfl rfl fun a S => leafL ⟨rfl, S⟩
   ·refine fJ [(139, _), (146, _), (131, _)] 18 [some 10, some 17, some 2] fun G a w S => ?_
    exact sSk S rfl rfl rfl ae rfl rfl fun a S => leafL ⟨rfl, S⟩
   ·refine fJ [(131, _), (147, _)] 19 [some 2, some 18] fun G a w S => ?_
    exact sPickT (.bool true) S (wN rfl) rfl rfl ae rfl rfl (lb rfl) fun a S => leafL ⟨rfl, S⟩
   ·exact fM 20 (some 19) rfl rfl rfl rfl (.inl rfl) rfl rfl rfl
   ·refine fJ [(4, _), (149, _)] 21 [none, some 20] fun G a w S => ?_
    exact sSk S rfl rfl rfl rfl rfl rfl fun a S => leafL ⟨rfl, S⟩
   ·refine fJ [(15, _), (149, _)] 22 [none, some 20] fun G a w S => ?_
    exact sSk S rfl rfl rfl rfl rfl rfl fun a S => leafL ⟨rfl, S⟩
   ·refine fJ [(150, _), (151, _), (149, _)] 23 [some 21, some 22, some 20] fun G a w S => ?_
    exact sSk S rfl rfl rfl rfl rfl rfl fun a S => leafL ⟨rfl, S⟩
   ·refine fJ [(152, _), (149, _)] 24 [some 23, some 20] fun G a w S => ?_
    exact sSk S rfl rfl rfl rfl rfl rfl fun a S => leafL ⟨rfl, S⟩
   ·refine fJ [(153, _), (149, _)] 25 [some 24, some 20] fun G a w S => ?_
    exact sSk S rfl rfl rfl rfl rfl rfl fun a S => leafL ⟨rfl, S⟩
   ·refine fJ [(16, _), (149, _)] 26 [none, some 20] fun G a w S => ?_
    exact sSk S rfl rfl rfl rfl rfl rfl fun a S => leafL ⟨rfl, S⟩
   ·refine fJ [(154, _), (155, _), (149, _)] 27 [some 25, some 26, some 20] fun G a w S => ?_
    exact sSk S rfl rfl rfl rfl rfl rfl fun a S => leafL ⟨rfl, S⟩
   ·refine fJ [(156, _), (149, _)] 28 [some 27, some 20] fun G a w S => ?_
    exact sSk S rfl rfl rfl rfl rfl rfl fun a S => leafL ⟨rfl, S⟩
   ·refine fJ [(12, _), (149, _)] 29 [none, some 20] fun G a w S => ?_
    exact sSk S rfl rfl rfl rfl rfl rfl fun a S => leafL ⟨rfl, S⟩
   ·refine fJ [(157, _), (158, _), (149, _)] 30 [some 28, some 29, some 20] fun G a w S => ?_
    exact sSk S rfl rfl rfl rfl rfl rfl fun a S => leafL ⟨rfl, S⟩
   ·refine fJ [(149, _), (159, _)] 31 [some 20, some 30] fun G a w S => ?_
    exact sPickT (.bool true) S (wN rfl) rfl rfl rfl rfl rfl (lb rfl) fun a S => leafL ⟨rfl, S⟩
   exact leafT (⟨true, Option.some.inj h, S.fix [0] [4, 5, 6, 7] (by decide) rfl rfl rfl⟩)
  obtain ⟨aq, bm, h⟩ := bS h
  obtain ⟨aw, cn, h⟩ := bS h
  rcases iS h with ⟨av, h⟩ | ⟨av, h⟩
  ·obtain ⟨bz, d3, S⟩ := pIdx (P := Try.prog) (r := r_api_Loop) (v := .slice a9 ab.1.length aa) (xs := ab.1) (j := aM) 26 48 4 S Try.underlying26 rfl rfl bi
   obtain ⟨bA, d4, S⟩ := pFld (P := Try.prog) (r := r_api_Loop) (s2 := (rL (rI .i64))) (g := (·.Parents)) (q := bz) (z := aI) 48 2 0 2 S rfl rfl comp_api_Loop_Parents
   obtain ⟨fW, S⟩ := pLoad (r := (rL (rI .i64))) (q := bA) (x := aI.Parents) 0 S rfl
   obtain ⟨aU, aV, _, rfl, _⟩ := S.mem.know (i := 1) (e := fRep (rL (rI .i64)) (fW) aI.Parents) rfl
   obtain ⟨bB, d5, S⟩ := pIdx (P := Try.prog) (r := (rI .i64)) (v := .slice aU aI.Parents.length aV) (xs := aI.Parents) (j := aH) 32 3 1 S Try.underlying32 rfl rfl bm
   obtain ⟨d6, S⟩ := pLoad (r := (rI .i64)) (q := bB) (x := aq) 0 S rfl
   obtain rfl : d6 = iv aq := S.mem.know (i := 1) (e := fRep (rI .i64) (d6) aq) rfl
   obtain ⟨bC, d7, S⟩ := pIdx (P := Try.prog) (r := (rI .i64)) (v := .slice ar ax.1.length au) (xs := ax.1) (j := w64 (aC - 1)) 32 3 13 S Try.underlying32 rfl rfl cn
   obtain ⟨d8, S⟩ := pLoad (r := (rI .i64)) (q := bC) (x := aw) 0 S rfl
   obtain rfl : d8 = iv aw := S.mem.know (i := 1) (e := fRep (rI .i64) (d8) aw) rfl
   refine sDraw (nf := []) (W := [(0, 129, iv aC), (1, 130, .bool (aC == 0)), (2, 131, .bool (aC == 0)), (3, 132, .slice a9 ab.1.length aa), (4, 133, iv aM), (5, 134, bz), (6, 135, bA), (7, 136, .slice aU aI.Parents.length aV), (8, 137, iv aH), (9, 138, bB), (10, 139, iv aq), (11, 140, iv am.1), (12, 141, .slice ar ax.1.length au), (13, 142, iv aC), (14, 143, iv (w64 (aC - 1))), (15, 144, bC), (16, 145, iv aw), (17, 146, iv (w64 (am.1 - aw))), (18, 147, .bool (decide (aq < (w64 (am.1 - aw))))), (19, 148, .bool (decide (aq < (w64 (am.1 - aw))))), (20, 149, .bool (decide (aq < (w64 (am.1 - aw))))), (21, 150, undef), (22, 151, undef), (23, 152, undef), (24, 153, undef), (25, 154, undef), (26, 155, undef), (27, 156, undef), (28, 157, undef), (29, 158, undef), (30, 159, undef), (31, 160, .bool true)]) rfl S ?_
   refine node_by (A := anc_raddlelaw27_LoopsOnce_0) 32 (by kernel_rfl) (by kernel_rfl) (by kernel_rfl) (by kernel_rfl) (by kernel_rfl) [0, 1, 2, 3, 4, 5, 6, 7, 8, 9, 10, 11, 12, 13, 14, 15, 16, 17, 18, 19, 20, 21, 22, 23, 24, 25, 26, 27, 28, 29, 30, 31] (by kernel_rfl) (by decide) (by decide) (fF ?_ (fF ?_ (fF ?_ (fF ?_ (fF ?_ (fF ?_ (fF ?_ (fF ?_ (fF ?_ (fF ?_ (fF ?_ (fF ?_ (fF ?_ (fF ?_ (fF ?_ (fF ?_ (fF ?_ (fF ?_ (fF ?_ (fF ?_ (fF ?_ (fF ?_ (fF ?_ (fF ?_ (fF ?_ (fF ?_ (fF ?_ (fF ?_ (fF ?_ (fF ?_ (fF ?_ (fF ?_ (trivial))))))))))))))))))))))))))))))))) [(1, .pointer (some ⟨b6, 0, none⟩)), (3, .bool r8), (4, .slice a9 ab.1.length aa), (6, .slice ai ao.1.length aj), (8, .slice ar ax.1.length au), (11, iv aC), (12, iv am.1), (13, iv am.2.1), (15, iv aM), (16, iv aH), (132, .slice a9 ab.1.length aa), (133, iv aM), (134, bz), (135, bA), (136, .slice aU aI.Parents.length aV), (137, iv aH), (138, bB), (139, iv aq), (140, iv am.1), (141, .slice ar ax.1.length au), (142, iv aC), (143, iv (w64 (aC - 1))), (144, bC), (145, iv aw), (146, iv (w64 (am.1 - aw))), (147, .bool (decide (aq < (w64 (am.1 - aw))))), (150, undef), (151, undef), (152, undef), (153, undef), (154, undef), (155, undef), (156, undef), (157, undef), (158, undef), (159, undef), (160, .bool true)] (fin_of [none, none, none, none, none, none, none, none, none, none, some 3, some 4, some 5, some 6, some 7, some 8, some 9, some 10, some 11, some 12, some 13, some 14, some 15, some 16, some 17, some 18, some 21, some 22, some 23, some 24, some 25, some 26, some 27, some 28, some 29, some 30, some 31] rfl (by kernel_rfl) (by kernel_rfl)) (fun _ a w S => ?_)
   ·exact fM 0 none rfl rfl rfl rfl (.inl rfl) rfl rfl rfl
   ·refine fJ [(129, _)] 1 [some 0] fun G a w S => ?_
    exact sBin _ S (wN rfl) rfl rfl rfl (bEq _ _ _ _ .i64 aC 0) rfl (lb rfl) fun a S => leafL ⟨rfl, S⟩
   ·exact fM 2 (some 1) rfl rfl rfl rfl (.inl rfl) rfl rfl rfl
   ·refine fJ [(4, _), (131, _)] 3 [none, some 2] fun G a w S => ?_
    exact sMove (.slice a9 ab.1.length aa) S (wG 2 false 131 rfl rfl rfl ae) (.inl rfl) rfl rfl (lb rfl) fun a S => leafL ⟨rfl, S⟩
   ·refine fJ [(15, _), (131, _)] 4 [none, some 2] fun G a w S => ?_
    exact sMove (iv aM) S (wG 2 false 131 rfl rfl rfl ae) (.inl rfl) rfl rfl (lb rfl) fun a S => leafL ⟨rfl, S⟩
   ·refine fJ [(132, _), (133, _), (131, _)] 5 [some 3, some 4, some 2] fun G a w S => ?_
    exact sIdxV S (wG 2 false 131 rfl rfl rfl ae) rfl rfl rfl d3 rfl (lb rfl) fun a S => leafL ⟨rfl, S⟩
   ·refine fJ [(134, _), (131, _)] 6 [some 5, some 2] fun G a w S => ?_
    exact sFldV (q := bz) S (wG 2 false 131 rfl rfl rfl ae) rfl rfl d4 rfl (lb rfl) fun a S => leafL ⟨rfl, S⟩
   ·refine fJ [(135, _), (131, _)] 7 [some 6, some 2] fun G a w S => ?_
    exact sLoadV1 (vq := bA) 6 (.slice aU aI.Parents.length aV) S (wG 2 false 131 rfl rfl rfl ae) rfl rfl rfl rfl rfl (lb rfl) fun a S => leafL ⟨rfl, S⟩
   ·refine fJ [(16, _), (131, _)] 8 [none, some 2] fun G a w S => ?_
    exact sMove (iv aH) S (wG 2 false 131 rfl rfl rfl ae) (.inl rfl) rfl rfl (lb rfl) fun a S => leafL ⟨rfl, S⟩
   ·refine fJ [(136, _), (137, _), (131, _)] 9 [some 7, some 8, some 2] fun G a w S => ?_
    exact sIdxV S (wG 2 false 131 rfl rfl rfl ae) rfl rfl rfl d5 rfl (lb rfl) fun a S => leafL ⟨rfl, S⟩
   ·refine fJ [(138, _), (131, _)] 10 [some 9, some 2] fun G a w S => ?_
    exact sLoadV1 (vq := bB) 3 (iv aq) S (wG 2 false 131 rfl rfl rfl ae) rfl rfl rfl rfl rfl (lb rfl) fun a S => leafL ⟨rfl, S⟩
   ·refine fJ [(12, _), (131, _)] 11 [none, some 2] fun G a w S => ?_
    exact sMove (iv am.1) S (wG 2 false 131 rfl rfl rfl ae) (.inl rfl) rfl rfl (lb rfl) fun a S => leafL ⟨rfl, S⟩
   ·refine fJ [(8, _), (131, _)] 12 [none, some 2] fun G a w S => ?_
    exact sMove (.slice ar ax.1.length au) S (wG 2 false 131 rfl rfl rfl ae) (.inl rfl) rfl rfl (lb rfl) fun a S => leafL ⟨rfl, S⟩
   ·refine fJ [(11, _), (131, _)] 13 [none, some 2] fun G a w S => ?_
    exact sMove (iv aC) S (wG 2 false 131 rfl rfl rfl ae) (.inl rfl) rfl rfl (lb rfl) fun a S => leafL ⟨rfl, S⟩
   ·refine fJ [(142, _), (131, _)] 14 [some 13, some 2] fun G a w S => ?_
    exact sBin _ S (wG 2 false 131 rfl rfl rfl ae) rfl rfl rfl (bSub _ _ _ _ aC 1) rfl (lb rfl) fun a S => leafL ⟨rfl, S⟩
   ·refine fJ [(141, _), (143, _), (131, _)] 15 [some 12, some 14, some 2] fun G a w S => ?_
    exact sIdxV S (wG 2 false 131 rfl rfl rfl ae) rfl rfl rfl d7 rfl (lb rfl) fun a S => leafL ⟨rfl, S⟩
   ·refine fJ [(144, _), (131, _)] 16 [some 15, some 2] fun G a w S => ?_
    exact sLoadV1 (vq := bC) 0 (iv aw) S (wG 2 false 131 rfl rfl rfl ae) rfl rfl rfl rfl rfl (lb rfl) fun a S => leafL ⟨rfl, S⟩
   ·refine fJ [(140, _), (145, _), (131, _)] 17 [some 11, some 16, some 2] fun G a w S => ?_
    exact sBin _ S (wG 2 false 131 rfl rfl rfl ae) rfl rfl rfl (bSub _ _ _ _ am.1 aw) rfl (lb rfl) fun a S => leafL ⟨rfl, S⟩
   ·refine fJ [(139, _), (146, _), (131, _)] 18 [some 10, some 17, some 2] fun G a w S => ?_
    exact sBin _ S (wG 2 false 131 rfl rfl rfl ae) rfl rfl rfl (bLt _ _ _ _ .i64 aq (w64 (am.1 - aw))) rfl (lb rfl) fun a S => leafL ⟨rfl, S⟩
   ·refine fJ [(131, _), (147, _)] 19 [some 2, some 18] fun G a w S => ?_
    exact sPickF (.bool (decide (aq < (w64 (am.1 - aw))))) S (wN rfl) rfl rfl ae rfl rfl (lb rfl) fun a S => leafL ⟨rfl, S⟩
   ·exact fM 20 (some 19) rfl rfl rfl rfl (.inl rfl) rfl rfl rfl
   ·refine fJ [(4, _), (149, _)] 21 [none, some 20] fun G a w S => ?_
    exact sSk S rfl rfl rfl av rfl rfl fun a S => leafL ⟨rfl, S⟩
   ·refine fJ [(15, _), (149, _)] 22 [none, some 20] fun G a w S => ?_
    exact sSk S rfl rfl rfl av rfl rfl fun a S => leafL ⟨rfl, S⟩
   ·refine fJ [(150, _), (151, _), (149, _)] 23 [some 21, some 22, some 20] fun G a w S => ?_
    exact sSk S rfl rfl rfl av rfl rfl fun a S => leafL ⟨rfl, S⟩
   ·refine fJ [(152, _), (149, _)] 24 [some 23, some 20] fun G a w S => ?_
    exact sSk S rfl rfl rfl av rfl rfl fun a S => leafL ⟨rfl, S⟩
   ·refine fJ [(153, _), (149, _)] 25 [some 24, some 20] fun G a w S => ?_
    exact sSk S rfl rfl rfl av rfl rfl fun a S => leafL ⟨rfl, S⟩
   ·refine fJ [(16, _), (149, _)] 26 [none, some 20] fun G a w S => ?_
    exact sSk S rfl rfl rfl av rfl rfl fun a S => leafL ⟨rfl, S⟩
   ·refine fJ [(154, _), (155, _), (149, _)] 27 [some 25, some 26, some 20] fun G a w S => ?_
    exact sSk S rfl rfl rfl av rfl rfl fun a S => leafL ⟨rfl, S⟩
   ·refine fJ [(156, _), (149, _)] 28 [some 27, some 20] fun G a w S => ?_
    exact sSk S rfl rfl rfl av rfl rfl fun a S => leafL ⟨rfl, S⟩
   ·refine fJ [(12, _), (149, _)] 29 [none, some 20] fun G a w S => ?_
    exact sSk S rfl rfl rfl av rfl rfl fun a S => leafL ⟨rfl, S⟩
   ·refine fJ [(157, _), (158, _), (149, _)] 30 [some 28, some 29, some 20] fun G a w S => ?_
    exact sSk S rfl rfl rfl av rfl rfl fun a S => leafL ⟨rfl, S⟩
   ·refine fJ [(149, _), (159, _)] 31 [some 20, some 30] fun G a w S => ?_
    exact sPickT (.bool true) S (wN rfl) rfl rfl av rfl rfl (lb rfl) fun a S => leafL ⟨rfl, S⟩
   exact leafT (⟨true, Option.some.inj h, S.fix [0] [14, 15, 16, 17] (by decide) rfl rfl rfl⟩)
  obtain ⟨bD, d9, S⟩ := pIdx (P := Try.prog) (r := r_api_Loop) (v := .slice a9 ab.1.length aa) (xs := ab.1) (j := aM) 26 48 4 S Try.underlying26 rfl rfl bi
  obtain ⟨bE, da, S⟩ := pFld (P := Try.prog) (r := r_api_Loop) (s2 := (rL (rI .i64))) (g := (·.Parents)) (q := bD) (z := aI) 48 2 0 2 S rfl rfl comp_api_Loop_Parents
  obtain ⟨fX, S⟩ := pLoad (r := (rL (rI .i64))) (q := bE) (x := aI.Parents) 0 S rfl
  obtain ⟨aW, aX, _, rfl, _⟩ := S.mem.know (i := 1) (e := fRep (rL (rI .i64)) (fX) aI.Parents) rfl
  obtain ⟨bG, db, S⟩ := pIdx (P := Try.prog) (r := (rI .i64)) (v := .slice aW aI.Parents.length aX) (xs := aI.Parents) (j := aH) 32 3 1 S Try.underlying32 rfl rfl bm
  obtain ⟨dc, S⟩ := pLoad (r := (rI .i64)) (q := bG) (x := aq) 0 S rfl
  obtain rfl : dc = iv aq := S.mem.know (i := 1) (e := fRep (rI .i64) (dc) aq) rfl
  obtain ⟨bH, de, S⟩ := pIdx (P := Try.prog) (r := (rI .i64)) (v := .slice ar ax.1.length au) (xs := ax.1) (j := w64 (aC - 1)) 32 3 13 S Try.underlying32 rfl rfl cn
  obtain ⟨df, S⟩ := pLoad (r := (rI .i64)) (q := bH) (x := aw) 0 S rfl
  obtain rfl : df = iv aw := S.mem.know (i := 1) (e := fRep (rI .i64) (df) aw) rfl
  obtain ⟨bI, dg, S⟩ := pIdx (P := Try.prog) (r := r_api_Loop) (v := .slice a9 ab.1.length aa) (xs := ab.1) (j := aM) 26 48 14 S Try.underlying26 rfl rfl bi
  obtain ⟨bJ, dh, S⟩ := pFld (P := Try.prog) (r := r_api_Loop) (s2 := (rL (rI .i64))) (g := (·.Parents)) (q := bI) (z := aI) 48 2 0 2 S rfl rfl comp_api_Loop_Parents
  obtain ⟨fZ, S⟩ := pLoad (r := (rL (rI .i64))) (q := bJ) (x := aI.Parents) 0 S rfl
  obtain ⟨aZ, ba, _, rfl, _⟩ := S.mem.know (i := 1) (e := fRep (rL (rI .i64)) (fZ) aI.Parents) rfl
  obtain ⟨bK, di, S⟩ := pIdx (P := Try.prog) (r := (rI .i64)) (v := .slice aZ aI.Parents.length ba) (xs := aI.Parents) (j := aH) 32 3 1 S Try.underlying32 rfl rfl bm
  obtain ⟨dj, S⟩ := pLoad (r := (rI .i64)) (q := bK) (x := aq) 0 S rfl
  obtain rfl : dj = iv aq := S.mem.know (i := 1) (e := fRep (rI .i64) (dj) aq) rfl
  refine sDraw (nf := []) (W := [(0, 129, iv aC), (1, 130, .bool (aC == 0)), (2, 131, .bool (aC == 0)), (3, 132, .slice a9 ab.1.length aa), (4, 133, iv aM), (5, 134, bD), (6, 135, bE), (7, 136, .slice aW aI.Parents.length aX), (8, 137, iv aH), (9, 138, bG), (10, 139, iv aq), (11, 140, iv am.1), (12, 141, .slice ar ax.1.length au), (13, 142, iv aC), (14, 143, iv (w64 (aC - 1))), (15, 144, bH), (16, 145, iv aw), (17, 146, iv (w64 (am.1 - aw))), (18, 147, .bool (decide (aq < (w64 (am.1 - aw))))), (19, 148, .bool (decide (aq < (w64 (am.1 - aw))))), (20, 149, .bool (decide (aq < (w64 (am.1 - aw))))), (21, 150, .slice a9 ab.1.length aa), (22, 151, iv aM), (23, 152, bI), (24, 153, bJ), (25, 154, .slice aZ aI.Parents.length ba), (26, 155, iv aH), (27, 156, bK), (28, 157, iv aq), (29, 158, iv am.1), (30, 159, .bool (decide (am.1 ≤ aq))), (31, 160, .bool (decide (am.1 ≤ aq)))]) rfl S ?_
  refine node_by (A := anc_raddlelaw27_LoopsOnce_0) 32 (by kernel_rfl) (by kernel_rfl) (by kernel_rfl) (by kernel_rfl) (by kernel_rfl) [0, 1, 2, 3, 4, 5, 6, 7, 8, 9, 10, 11, 12, 13, 14, 15, 16, 17, 18, 19, 20, 21, 22, 23, 24, 25, 26, 27, 28, 29, 30, 31] (by kernel_rfl) (by decide) (by decide) (fF ?_ (fF ?_ (fF ?_ (fF ?_ (fF ?_ (fF ?_ (fF ?_ (fF ?_ (fF ?_ (fF ?_ (fF ?_ (fF ?_ (fF ?_ (fF ?_ (fF ?_ (fF ?_ (fF ?_ (fF ?_ (fF ?_ (fF ?_ (fF ?_ (fF ?_ (fF ?_ (fF ?_ (fF ?_ (fF ?_ (fF ?_ (fF ?_ (fF ?_ (fF ?_ (fF ?_ (fF ?_ (trivial))))))))))))))))))))))))))))))))) [(1, .pointer (some ⟨b6, 0, none⟩)), (3, .bool r8), (4, .slice a9 ab.1.length aa), (6, .slice ai ao.1.length aj), (8, .slice ar ax.1.length au), (11, iv aC), (12, iv am.1), (13, iv am.2.1), (15, iv aM), (16, iv aH), (132, .slice a9 ab.1.length aa), (133, iv aM), (134, bD), (135, bE), (136, .slice aW aI.Parents.length aX), (137, iv aH), (138, bG), (139, iv aq), (140, iv am.1), (141, .slice ar ax.1.length au), (142, iv aC), (143, iv (w64 (aC - 1))), (144, bH), (145, iv aw), (146, iv (w64 (am.1 - aw))), (147, .bool (decide (aq < (w64 (am.1 - aw))))), (150, .slice a9 ab.1.length aa), (151, iv aM), (152, bI), (153, bJ), (154, .slice aZ aI.Parents.length ba), (155, iv aH), (156, bK), (157, iv aq), (158, iv am.1), (159, .bool (decide (am.1 ≤ aq))), (160, .bool (decide (am.1 ≤ aq)))] (fin_of [none, none, none, none, none, none, none, none, none, none, some 3, some 4, some 5, some 6, some 7, some 8, some 9, some 10, some 11, some 12, some 13, some 14, some 15, some 16, some 17, some 18, some 21, some 22, some 23, some 24, some 25, some 26, some 27, some 28, some 29, some 30, some 31] rfl (by kernel_rfl) (by kernel_rfl)) (fun _ a w S => ?_)
  ·exact fM 0 none rfl rfl rfl rfl (.inl rfl) rfl rfl rfl
  ·refine fJ [(129, _)] 1 [some 0] fun G a w S => ?_
   exact sBin _ S (wN rfl) rfl rfl rfl (bEq _ _ _ _ .i64 aC 0) rfl (lb rfl) fun a S => leafL ⟨rfl, S⟩
  ·exact fM 2 (some 1) rfl rfl rfl rfl (.inl rfl) rfl rfl rfl
  ·refine fJ [(4, _), (131, _)] 3 [none, some 2] fun G a w S => ?_
   exact sMove (.slice a9 ab.1.length aa) S (wG 2 false 131 rfl rfl rfl ae) (.inl rfl) rfl rfl (lb rfl) fun a S => leafL ⟨rfl, S⟩
  ·refine fJ [(15, _), (131, _)] 4 [none, some 2] fun G a w S => ?_
   exact sMove (iv aM) S (wG 2 false 131 rfl rfl rfl ae) (.inl rfl) rfl rfl (lb rfl) fun a S => leafL ⟨rfl, S⟩
  ·refine fJ [(132, _), (133, _), (131, _)] 5 [some 3, some 4, some 2] fun G a w S => ?_
   exact sIdxV S (wG 2 false 131 rfl rfl rfl ae) rfl rfl rfl d9 rfl (lb rfl) fun a S => leafL ⟨rfl, S⟩
  ·refine fJ [(134, _), (131, _)] 6 [some 5, some 2] fun G a w S => ?_
   exact sFldV (q := bD) S (wG 2 false 131 rfl rfl rfl ae) rfl rfl da rfl (lb rfl) fun a S => leafL ⟨rfl, S⟩
  ·refine fJ [(135, _), (131, _)] 7 [some 6, some 2] fun G a w S => ?_
   exact sLoadV1 (vq := bE) 13 (.slice aW aI.Parents.length aX) S (wG 2 false 131 rfl rfl rfl ae) rfl rfl rfl rfl rfl (lb rfl) fun a S => leafL ⟨rfl, S⟩
  ·refine fJ [(16, _), (131, _)] 8 [none, some 2] fun G a w S => ?_
   exact sMove (iv aH) S (wG 2 false 131 rfl rfl rfl ae) (.inl rfl) rfl rfl (lb rfl) fun a S => leafL ⟨rfl, S⟩
  ·refine fJ [(136, _), (137, _), (131, _)] 9 [some 7, some 8, some 2] fun G a w S => ?_
   exact sIdxV S (wG 2 false 131 rfl rfl rfl ae) rfl rfl rfl db rfl (lb rfl) fun a S => leafL ⟨rfl, S⟩
  ·refine fJ [(138, _), (131, _)] 10 [some 9, some 2] fun G a w S => ?_
   exact sLoadV1 (vq := bG) 10 (iv aq) S (wG 2 false 131 rfl rfl rfl ae) rfl rfl rfl rfl rfl (lb rfl) fun a S => leafL ⟨rfl, S⟩
  ·refine fJ [(12, _), (131, _)] 11 [none, some 2] fun G a w S => ?_
   exact sMove (iv am.1) S (wG 2 false 131 rfl rfl rfl ae) (.inl rfl) rfl rfl (lb rfl) fun a S => leafL ⟨rfl, S⟩
  ·refine fJ [(8, _), (131, _)] 12 [none, some 2] fun G a w S => ?_
   exact sMove (.slice ar ax.1.length au) S (wG 2 false 131 rfl rfl rfl ae) (.inl rfl) rfl rfl (lb rfl) fun a S => leafL ⟨rfl, S⟩
  ·refine fJ [(11, _), (131, _)] 13 [none, some 2] fun G a w S => ?_
   exact sMove (iv aC) S (wG 2 false 131 rfl rfl rfl ae) (.inl rfl) rfl rfl (lb rfl) fun a S => leafL ⟨rfl, S⟩
  ·refine fJ [(142, _), (131, _)] 14 [some 13, some 2] fun G a w S => ?_
   exact sBin _ S (wG 2 false 131 rfl rfl rfl ae) rfl rfl rfl (bSub _ _ _ _ aC 1) rfl (lb rfl) fun a S => leafL ⟨rfl, S⟩
  ·refine fJ [(141, _), (143, _), (131, _)] 15 [some 12, some 14, some 2] fun G a w S => ?_
   exact sIdxV S (wG 2 false 131 rfl rfl rfl ae) rfl rfl rfl de rfl (lb rfl) fun a S => leafL ⟨rfl, S⟩
  ·refine fJ [(144, _), (131, _)] 16 [some 15, some 2] fun G a w S => ?_
   exact sLoadV1 (vq := bH) 7 (iv aw) S (wG 2 false 131 rfl rfl rfl ae) rfl rfl rfl rfl rfl (lb rfl) fun a S => leafL ⟨rfl, S⟩
  ·refine fJ [(140, _), (145, _), (131, _)] 17 [some 11, some 16, some 2] fun G a w S => ?_
   exact sBin _ S (wG 2 false 131 rfl rfl rfl ae) rfl rfl rfl (bSub _ _ _ _ am.1 aw) rfl (lb rfl) fun a S => leafL ⟨rfl, S⟩
  ·refine fJ [(139, _), (146, _), (131, _)] 18 [some 10, some 17, some 2] fun G a w S => ?_
   exact sBin _ S (wG 2 false 131 rfl rfl rfl ae) rfl rfl rfl (bLt _ _ _ _ .i64 aq (w64 (am.1 - aw))) rfl (lb rfl) fun a S => leafL ⟨rfl, S⟩
  ·refine fJ [(131, _), (147, _)] 19 [some 2, some 18] fun G a w S => ?_
   exact sPickF (.bool (decide (aq < (w64 (am.1 - aw))))) S (wN rfl) rfl rfl ae rfl rfl (lb rfl) fun a S => leafL ⟨rfl, S⟩
  ·exact fM 20 (some 19) rfl rfl rfl rfl (.inl rfl) rfl rfl rfl
  ·refine fJ [(4, _), (149, _)] 21 [none, some 20] fun G a w S => ?_
   exact sMove (.slice a9 ab.1.length aa) S (wG 20 false 149 rfl rfl rfl av) (.inl rfl) rfl rfl (lb rfl) fun a S => leafL ⟨rfl, S⟩
  ·refine fJ [(15, _), (149, _)] 22 [none, some 20] fun G a w S => ?_
   exact sMove (iv aM) S (wG 20 false 149 rfl rfl rfl av) (.inl rfl) rfl rfl (lb rfl) fun a S => leafL ⟨rfl, S⟩
  ·refine fJ [(150, _), (151, _), (149, _)] 23 [some 21, some 22, some 20] fun G a w S => ?_
   exact sIdxV S (wG 20 false 149 rfl rfl rfl av) rfl rfl rfl dg rfl (lb rfl) fun a S => leafL ⟨rfl, S⟩
  ·refine fJ [(152, _), (149, _)] 24 [some 23, some 20] fun G a w S => ?_
   exact sFldV (q := bI) S (wG 20 false 149 rfl rfl rfl av) rfl rfl dh rfl (lb rfl) fun a S => leafL ⟨rfl, S⟩
  ·refine fJ [(153, _), (149, _)] 25 [some 24, some 20] fun G a w S => ?_
   exact sLoadV1 (vq := bJ) 3 (.slice aZ aI.Parents.length ba) S (wG 20 false 149 rfl rfl rfl av) rfl rfl rfl rfl rfl (lb rfl) fun a S => leafL ⟨rfl, S⟩
  ·refine fJ [(16, _), (149, _)] 26 [none, some 20] fun G a w S => ?_
   exact sMove (iv aH) S (wG 20 false 149 rfl rfl rfl av) (.inl rfl) rfl rfl (lb rfl) fun a S => leafL ⟨rfl, S⟩
  ·refine fJ [(154, _), (155, _), (149, _)] 27 [some 25, some 26, some 20] fun G a w S => ?_
   exact sIdxV S (wG 20 false 149 rfl rfl rfl av) rfl rfl rfl di rfl (lb rfl) fun a S => leafL ⟨rfl, S⟩
  ·refine fJ [(156, _), (149, _)] 28 [some 27, some 20] fun G a w S => ?_
   exact sLoadV1 (vq := bK) 0 (iv aq) S (wG 20 false 149 rfl rfl rfl av) rfl rfl rfl rfl rfl (lb rfl) fun a S => leafL ⟨rfl, S⟩
  ·refine fJ [(12, _), (149, _)] 29 [none, some 20] fun G a w S => ?_
   exact sMove (iv am.1) S (wG 20 false 149 rfl rfl rfl av) (.inl rfl) rfl rfl (lb rfl) fun a S => leafL ⟨rfl, S⟩
  ·refine fJ [(157, _), (158, _), (149, _)] 30 [some 28, some 29, some 20] fun G a w S => ?_
   exact sBin _ S (wG 20 false 149 rfl rfl rfl av) rfl rfl rfl (bGe _ _ _ _ .i64 aq am.1) rfl (lb rfl) fun a S => leafL ⟨rfl, S⟩
  ·refine fJ [(149, _), (159, _)] 31 [some 20, some 30] fun G a w S => ?_
   exact sPickF (.bool (decide (am.1 ≤ aq))) S (wN rfl) rfl rfl av rfl rfl (lb rfl) fun a S => leafL ⟨rfl, S⟩
  exact leafT (⟨decide (am.1 ≤ aq), Option.some.inj h, S.fix [0] [21, 22, 23, 24] (by decide) rfl rfl rfl⟩)
 obtain ⟨f6, rfl, S⟩ := hI
 have h := f5
 try dsimp only at h
 refine sSeq (fun gO dk => sSeq (fun gP dl => sRegion (sM S fun a S => ?_)))
 refine sM S fun a S => ?_
 refine sLen S (wN rfl) rfl Try.underlying26 rfl rfl (lb rfl) fun a S => ?_
 refine sBin _ S (wN rfl) rfl rfl rfl (bNe _ _ _ _ .i64 f6 (ab.1.length : Int)) rfl (lb rfl) fun a S => ?_
 refine lT (dl _ _ ?_)
 rcases iS h with ⟨bn, h⟩ | ⟨bn, h⟩
 ·refine sCondT S rfl bn ?_
  refine sSeq (fun gQ dm => sRegion (sN S fun a S => ?_))
  refine lT (dm _ _ ?_)
  obtain rfl := tS h
  exact wp_ret (rThen (sRet (.bool false) S (rsl1 rfl (rvT (t := 2) (v := .bool false) S rfl)) ⟨(), rfl, S.mem.sel [] [] (by decide) rfl rfl⟩))
 refine sCondF S rfl bn ?_
 refine wp_skip (leafT (dk _ _ ?_))
 obtain ⟨g0, h, bL⟩ := bS h
 refine sCut (fun a w => .inl () = g0 ∧ St [] E [] w0 275 a w [(3, .bool r8)] [] []) ?_ (fun a w hI => ?_)
 rotate_left
 ·obtain ⟨rfl, S⟩ := hI
  have h := bL
  try dsimp only at h
  refine sSeq (fun gR dn => sRegion (sM S fun a S => ?_))
  refine sN S fun a S => ?_
  refine lT (dn _ _ ?_)
  obtain rfl := tS h
  exact wp_ret (sRet (.bool r8) S (rsl1 rfl (rvT (t := 2) (v := .bool r8) S rfl)) ⟨(), rfl, S.mem.sel [] [] (by decide) rfl rfl⟩)
 refine sSeq (fun gS dp => sRegion (sN S fun a S => ?_))
 refine lT (dp _ _ (wp_block ?_))
 obtain ⟨gT, hl, bM⟩ := bS h
 refine sLoop hl (fun s0 a w => match s0 with | aA => St [] E [] w0 275 a w [(1, .pointer (some ⟨b6, 0, none⟩)), (3, .bool r8), (4, .slice a9 ab.1.length aa), (6, .slice ai ao.1.length aj), (17, iv aA)] [eBox b6 24 [iv p0.Start, .slice ak p0.Rows.length al]] [fRep (rL r_api_Loop) (.slice a9 ab.1.length aa) ab.1, fRep (rL (rI .i64)) (.slice ai ao.1.length aj) ao.1, fRep (rL r_api_Row) (.slice ak p0.Rows.length al) p0.Rows]) (S.fix [0] [0, 1, 2] (by decide) rfl rfl rfl) ?_
 clear hl h
 intro aA a w c0 hI h bb
 unfold raddlelaw27_LoopsOnce_l5 at h
 dsimp only at h hI
 have S := hI
 refine sSeq (fun gU dr => sSeq (fun gV dt => sRegion (sM S fun a S => ?_)))
 refine sM S fun a S => ?_
 refine sLen S (wN rfl) rfl Try.underlying26 rfl rfl (lb rfl) fun a S => ?_
 refine sBin _ S (wN rfl) rfl rfl rfl (bLt _ _ _ _ .i64 aA (ab.1.length : Int)) rfl (lb rfl) fun a S => ?_
 refine lT (dt _ _ ?_)
 rcases iS h with ⟨bo, h⟩ | ⟨bo, h⟩
 rotate_left
 ·refine sCondF S rfl bo ?_
  obtain rfl := tS h
  obtain rfl := bb _ rfl
  have h := bM
  try dsimp only at h
  exact wp_exit (xThen (xThen (xHit (leafT (⟨Option.some.inj h, S.fix [] [] (by decide) rfl rfl rfl⟩)))))
 refine sCondT S rfl bo ?_
 refine wp_skip (leafT (dr _ _ ?_))
 obtain ⟨g3, h, bN⟩ := bS h
 refine sCut (fun a w => .inl () = g3 ∧ St [] E [] w0 275 a w [(1, .pointer (some ⟨b6, 0, none⟩)), (3, .bool r8), (4, .slice a9 ab.1.length aa), (6, .slice ai ao.1.length aj), (17, iv aA)] [eBox b6 24 [iv p0.Start, .slice ak p0.Rows.length al]] [fRep (rL r_api_Loop) (.slice a9 ab.1.length aa) ab.1, fRep (rL (rI .i64)) (.slice ai ao.1.length aj) ao.1, fRep (rL r_api_Row) (.slice ak p0.Rows.length al) p0.Rows]) ?_ (fun a w hI => ?_)
 rotate_left
 ·obtain ⟨rfl, S⟩ := hI
  have h := bN
  try dsimp only at h
  refine sRegion (sM S fun a S => ?_)
  refine sBin _ S (wN rfl) rfl rfl rfl (bAdd _ _ _ _ aA 1) rfl (lb rfl) fun a S => ?_
  refine sN S fun a S => ?_
  exact lT (⟨w64 (aA + 1), (Option.some.inj h).symm, (S.fix [0] [0, 1, 2] (by decide) rfl rfl rfl)⟩)
 refine wp_block ?_
 refine sSeq (fun gW du => sRegion (sN S fun a S => ?_))
 refine lT (du _ _ ?_)
 obtain ⟨g4, h, ga⟩ := bS h
 refine sCut (fun a w => ∃ aT, aT = g4 ∧ St [] E [] w0 275 a w [(1, .pointer (some ⟨b6, 0, none⟩)), (3, .bool r8), (4, .slice a9 ab.1.length aa), (6, .slice ai ao.1.length aj), (17, iv aA), (18, iv aT)] [eBox b6 24 [iv p0.Start, .slice ak p0.Rows.length al]] [fRep (rL r_api_Loop) (.slice a9 ab.1.length aa) ab.1, fRep (rL (rI .i64)) (.slice ai ao.1.length aj) ao.1, fRep (rL r_api_Row) (.slice ak p0.Rows.length al) p0.Rows]) ?_ (fun a w hI => ?_)
 ·refine sSeq (fun gX dv => sRegion (sM S fun a S => ?_))
  refine sM S fun a S => ?_
  obtain ⟨dw, dx, h⟩ := bS h
  have S1 := S.mem
  refine sCq [.slice ai ao.1.length aj, iv aA] (.bool dw) S callee27 (S1.quiet [1] rfl) (fun E1 w1 S1 => c_raddleref27_Has E1 w1 ao.1 (.slice ai ao.1.length aj) aA dw dx S1) fun a w S => ?_
  refine lT (dv _ _ ?_)
  rcases iS h with ⟨bp, h⟩ | ⟨bp, h⟩
  rotate_left
  ·refine sCondF S rfl bp ?_
   exact wp_skip (leafT (⟨0, Option.some.inj h, S.fix [0] [0, 1, 2] (by decide) rfl rfl rfl⟩))
  refine sCondT S rfl bp ?_
  refine sRegion (sM S fun a S => ?_)
  refine sBin _ S (wN rfl) rfl rfl rfl (bAdd _ _ _ _ 0 1) rfl (lb rfl) fun a S => ?_
  refine sN S fun a S => ?_
  exact lT (⟨w64 ((0 : Int) + 1), Option.some.inj h, S.fix [0] [0, 1, 2] (by decide) rfl rfl rfl⟩)
 obtain ⟨aT, rfl, S⟩ := hI
 have h := ga
 try dsimp only at h
 obtain ⟨gb, h, gc⟩ := bS h
 refine sCut (fun a w => ∃ bh, bh = gb ∧ St [] E [] w0 275 a w [(1, .pointer (some ⟨b6, 0, none⟩)), (3, .bool r8), (4, .slice a9 ab.1.length aa), (6, .slice ai ao.1.length aj), (17, iv aA), (18, iv bh)] [eBox b6 24 [iv p0.Start, .slice ak p0.Rows.length al]] [fRep (rL r_api_Loop) (.slice a9 ab.1.length aa) ab.1, fRep (rL (rI .i64)) (.slice ai ao.1.length aj) ao.1, fRep (rL r_api_Row) (.slice ak p0.Rows.length al) p0.Rows]) ?_ (fun a w hI => ?_)
 ·refine sSeq (fun gY dy => ?_)
  obtain ⟨aP, dz, h⟩ := bS h
  obtain ⟨cA, dA, S⟩ := pIdx (P := Try.prog) (r := r_api_Loop) (v := .slice a9 ab.1.length aa) (xs := ab.1) (j := aA) 26 48 0 S Try.underlying26 rfl rfl dz
  obtain ⟨cB, dB, S⟩ := pFld (P := Try.prog) (r := r_api_Loop) (s2 := (rI .i64)) (g := (·.Row)) (q := cA) (z := aP) 48 0 0 0 S rfl rfl comp_api_Loop_Row
  obtain ⟨dC, S⟩ := pLoad (r := (rI .i64)) (q := cB) (x := aP.Row) 0 S rfl
  obtain rfl : dC = iv aP.Row := S.mem.know (i := 1) (e := fRep (rI .i64) (dC) aP.Row) rfl
  refine sDraw (nf := []) (W := [(0, 177, .slice a9 ab.1.length aa), (1, 178, iv aA), (2, 179, cA), (3, 180, cB), (4, 181, iv aP.Row), (5, 182, .pointer (some ⟨b6, 1, none⟩)), (6, 183, .slice ak p0.Rows.length al), (7, 184, iv (p0.Rows.length : Int)), (8, 185, .bool (aP.Row == (p0.Rows.length : Int)))]) rfl S ?_
  refine node_by (A := anc_raddlelaw27_LoopsOnce_1) 9 (by kernel_rfl) (by kernel_rfl) (by kernel_rfl) (by kernel_rfl) (by kernel_rfl) [0, 1, 2, 3, 4, 5, 6, 7, 8] (by kernel_rfl) (by decide) (by decide) (fF ?_ (fF ?_ (fF ?_ (fF ?_ (fF ?_ (fF ?_ (fF ?_ (fF ?_ (fF ?_ (trivial)))))))))) [(1, .pointer (some ⟨b6, 0, none⟩)), (3, .bool r8), (4, .slice a9 ab.1.length aa), (6, .slice ai ao.1.length aj), (17, iv aA), (18, iv aT), (185, .bool (aP.Row == (p0.Rows.length : Int)))] (fin_of [none, none, none, none, none, none, some 8] rfl (by kernel_rfl) (by kernel_rfl)) (fun _ a w S => ?_)
  ·exact fM 0 none rfl rfl rfl rfl (.inl rfl) rfl rfl rfl
  ·exact fM 1 none rfl rfl rfl rfl (.inl rfl) rfl rfl rfl
  ·refine fJ [(177, _), (178, _)] 2 [some 0, some 1] fun G a w S => ?_
   exact sIdxV S (wN rfl) rfl rfl rfl dA rfl (lb rfl) fun a S => leafL ⟨rfl, S⟩
  ·refine fJ [(179, _)] 3 [some 2] fun G a w S => ?_
   exact sFldV (q := cA) S (wN rfl) rfl rfl dB rfl (lb rfl) fun a S => leafL ⟨rfl, S⟩
  ·refine fJ [(180, _)] 4 [some 3] fun G a w S => ?_
   exact sLoadV1 (vq := cB) 0 (iv aP.Row) S (wN rfl) rfl rfl rfl rfl rfl (lb rfl) fun a S => leafL ⟨rfl, S⟩
  ·refine fJ [(1, _)] 5 [none] fun G a w S => ?_
   exact sField (b := b6) (off := 0) 1 1 S (wN rfl) rfl rfl rfl rfl rfl (lb rfl) fun a S => leafL ⟨rfl, S⟩
  ·refine fJ [(182, _)] 6 [some 5] fun G a w S => ?_
   exact sLoad1 0 (.slice ak p0.Rows.length al) S (wN rfl) rfl rfl rfl rfl rfl rfl (lb rfl) fun a S => leafL ⟨rfl, S⟩
  ·refine fJ [(183, _)] 7 [some 6] fun G a w S => ?_
   exact sLen S (wN rfl) rfl Try.underlying22 rfl rfl (lb rfl) fun a S => leafL ⟨rfl, S⟩
  ·refine fJ [(181, _), (184, _)] 8 [some 4, some 7] fun G a w S => ?_
   exact sBin _ S (wN rfl) rfl rfl rfl (bEq _ _ _ _ .i64 aP.Row (p0.Rows.length : Int)) rfl (lb rfl) fun a S => leafL ⟨rfl, S⟩
  refine leafT (dy _ _ ?_)
  rcases iS h with ⟨bq, h⟩ | ⟨bq, h⟩
  rotate_left
  ·refine sCondF S rfl bq ?_
   exact wp_skip (leafT (⟨aT, Option.some.inj h, S.fix [0] [4, 5, 6] (by decide) rfl rfl rfl⟩))
  refine sCondT S rfl bq ?_
  refine sRegion (sM S fun a S => ?_)
  refine sBin _ S (wN rfl) rfl rfl rfl (bAdd _ _ _ _ aT 1) rfl (lb rfl) fun a S => ?_
  refine sN S fun a S => ?_
  exact lT (⟨w64 (aT + 1), Option.some.inj h, S.fix [0] [4, 5, 6] (by decide) rfl rfl rfl⟩)
 obtain ⟨bh, rfl, S⟩ := hI
 have h := gc
 try dsimp only at h
 refine sSeq (fun gZ dD => sRegion (sLoadN (p := b6) (off := 0) (T := 24) (vs := [iv p0.Start, .slice ak p0.Rows.length al]) 0 [iv p0.Start, .slice ak p0.Rows.length al] S (wN rfl) rfl rfl rfl rfl rfl rfl rfl (lb rfl) fun a S => ?_))
 refine sM S fun a S => ?_
 obtain ⟨a5, dE, h⟩ := bS h
 have S := S.learn (fRep r_api_Chart (.agg #[iv p0.Start, .slice ak p0.Rows.length al]) p0) ⟨_, rfl, S.mem.know (i := 2) (e := fRep (rL r_api_Row) (.slice ak p0.Rows.length al) p0.Rows) rfl⟩
 refine sCall (X := Value) (f := 24) (vs := [.agg #[iv p0.Start, .slice ak p0.Rows.length al], iv aA]) (val := c_loops_Kids_val a5) (B' := fun _ => []) (D' := c_loops_Kids_D a5) [] [eBox b6 24 [iv p0.Start, .slice ak p0.Rows.length al]] [fRep r_api_Chart (.agg #[iv p0.Start, .slice ak p0.Rows.length al]) p0] [0] [0] S (wN rfl) rfl callee24 rfl (by decide) rfl rfl (fun E1 w1 S1 => c_loops_Kids E1 w1 p0 (.agg #[iv p0.Start, .slice ak p0.Rows.length al]) aA a5 dE S1) rfl (lb rfl) fun gd a w S => ?_
 obtain ⟨a0, a4, _, rfl, _⟩ := S.mem.know (i := 0) (e := fRep (rL (rI .i64)) (gd) a5.1) rfl
 refine sM S fun a S => ?_
 refine sExtract (vs := [.slice a0 a5.1.length a4, iv a5.2]) (.slice a0 a5.1.length a4) S (wN rfl) rfl rfl rfl rfl (lb rfl) fun a S => ?_
 refine sExtract (vs := [.slice a0 a5.1.length a4, iv a5.2]) (iv a5.2) S (wN rfl) rfl rfl rfl rfl (lb rfl) fun a S => ?_
 refine sN S fun a S => ?_
 refine sN S fun a S => ?_
 refine lT (dD _ _ (sSeq (fun hG dG => sSeq (fun hH dH => sRegion (sM S fun a S => ?_)))))
 refine sBin _ S (wN rfl) rfl rfl rfl (bNe _ _ _ _ .i64 a5.2 0) rfl (lb rfl) fun a S => ?_
 refine lT (dH _ _ ?_)
 rcases iS h with ⟨br, h⟩ | ⟨br, h⟩
 ·refine sCondT S rfl br ?_
  refine sSeq (fun hM dI => sRegion (sN S fun a S => ?_))
  refine lT (dI _ _ ?_)
  obtain rfl := tS h
  have h := bN
  try dsimp only at h
  obtain rfl := tS h
  obtain rfl := bb _ rfl
  have h := bM
  try dsimp only at h
  obtain rfl := tS h
  have h := bL
  try dsimp only at h
  obtain rfl := tS h
  exact wp_ret (rThen (rBlock (rThen (rThen (rBlock (rThen (sRet (.bool false) S (rsl1 rfl (rvT (t := 2) (v := .bool false) S rfl)) ⟨(), rfl, S.mem.sel [] [] (by decide) rfl rfl⟩)))))))
 refine sCondF S rfl br ?_
 refine wp_skip (leafT (dG _ _ ?_))
 obtain ⟨ge, h, gg⟩ := bS h
 refine sCut (fun a w => ∃ aK, aK = ge ∧ St [] E [] w0 275 a w [(1, .pointer (some ⟨b6, 0, none⟩)), (3, .bool r8), (4, .slice a9 ab.1.length aa), (6, .slice ai ao.1.length aj), (17, iv aA), (18, iv aK), (19, .slice a0 a5.1.length a4)] [eBox b6 24 [iv p0.Start, .slice ak p0.Rows.length al]] [fRep (rL r_api_Loop) (.slice a9 ab.1.length aa) ab.1, fRep (rL (rI .i64)) (.slice ai ao.1.length aj) ao.1, fRep (rL (rI .i64)) (.slice a0 a5.1.length a4) a5.1, fRep (rL r_api_Row) (.slice ak p0.Rows.length al) p0.Rows]) ?_ (fun a w hI => ?_)
 ·refine sSeq (fun hO dJ => sRegion (sM S fun a S => ?_))
  refine sLen S (wN rfl) rfl Try.underlying32 rfl rfl (lb rfl) fun a S => ?_
  refine sBin _ S (wN rfl) rfl rfl rfl (bGt _ _ _ _ .i64 (a5.1.length : Int) 0) rfl (lb rfl) fun a S => ?_
  refine lT (dJ _ _ ?_)
  rcases iS h with ⟨bt, h⟩ | ⟨bt, h⟩
  rotate_left
  ·refine sCondF S rfl bt ?_
   exact wp_skip (leafT (⟨bh, Option.some.inj h, S.fix [0] [2, 3, 0, 4] (by decide) rfl rfl rfl⟩))
  refine sCondT S rfl bt ?_
  refine sRegion (sM S fun a S => ?_)
  refine sBin _ S (wN rfl) rfl rfl rfl (bAdd _ _ _ _ bh 1) rfl (lb rfl) fun a S => ?_
  refine sN S fun a S => ?_
  exact lT (⟨w64 (bh + 1), Option.some.inj h, S.fix [0] [2, 3, 0, 4] (by decide) rfl rfl rfl⟩)
 obtain ⟨aK, rfl, S⟩ := hI
 have h := gg
 try dsimp only at h
 obtain ⟨gh, h, dK⟩ := bS h
 refine sCut (fun a w => .inl () = gh ∧ St [] E [] w0 275 a w [(1, .pointer (some ⟨b6, 0, none⟩)), (3, .bool r8), (4, .slice a9 ab.1.length aa), (6, .slice ai ao.1.length aj), (17, iv aA), (18, iv aK)] [eBox b6 24 [iv p0.Start, .slice ak p0.Rows.length al]] [fRep (rL r_api_Loop) (.slice a9 ab.1.length aa) ab.1, fRep (rL (rI .i64)) (.slice ai ao.1.length aj) ao.1, fRep (rL r_api_Row) (.slice ak p0.Rows.length al) p0.Rows]) ?_ (fun a w hI => ?_)
 rotate_left
 ·obtain ⟨rfl, S⟩ := hI
  have h := dK
  try dsimp only at h
  refine sSeq (fun hP dL => sRegion (sM S fun a S => ?_))
  refine sBin _ S (wN rfl) rfl rfl rfl (bNe _ _ _ _ .i64 aK 1) rfl (lb rfl) fun a S => ?_
  refine lT (dL _ _ ?_)
  rcases iS h with ⟨bu, h⟩ | ⟨bu, h⟩
  rotate_left
  ·refine sCondF S rfl bu ?_
   exact wp_skip (leafB (leafT (⟨Option.some.inj h, S.fix [0] [0, 1, 2] (by decide) rfl rfl rfl⟩)))
  refine sCondT S rfl bu ?_
  refine sSeq (fun hQ dM => sRegion (sN S fun a S => ?_))
  refine lT (dM _ _ ?_)
  obtain rfl := tS h
  have h := bN
  try dsimp only at h
  obtain rfl := tS h
  obtain rfl := bb _ rfl
  have h := bM
  try dsimp only at h
  obtain rfl := tS h
  have h := bL
  try dsimp only at h
  obtain rfl := tS h
  exact wp_ret (rBlock (rThen (rThen (rBlock (rThen (sRet (.bool false) S (rsl1 rfl (rvT (t := 2) (v := .bool false) S rfl)) ⟨(), rfl, S.mem.sel [] [] (by decide) rfl rfl⟩))))))
 refine sSeq (fun hU dN => sRegion (sN S fun a S => ?_))
 refine lT (dN _ _ (wp_block ?_))
 obtain ⟨hZ, hl, dO⟩ := bS h
 refine sLoop hl (fun s0 a w => match s0 with | a7 => St [] E [] w0 275 a w [(1, .pointer (some ⟨b6, 0, none⟩)), (3, .bool r8), (4, .slice a9 ab.1.length aa), (6, .slice ai ao.1.length aj), (17, iv aA), (18, iv aK), (19, .slice a0 a5.1.length a4), (21, iv a7)] [eBox b6 24 [iv p0.Start, .slice ak p0.Rows.length al]] [fRep (rL r_api_Loop) (.slice a9 ab.1.length aa) ab.1, fRep (rL (rI .i64)) (.slice ai ao.1.length aj) ao.1, fRep (rL (rI .i64)) (.slice a0 a5.1.length a4) a5.1, fRep (rL r_api_Row) (.slice ak p0.Rows.length al) p0.Rows]) (S.fix [0] [0, 1, 2, 3] (by decide) rfl rfl rfl) ?_
 clear hl h
 intro a7 a w c0 hI h co
 unfold raddlelaw27_LoopsOnce_l4 at h
 dsimp only at h hI
 have S := hI
 refine sSeq (fun i3 dP => sSeq (fun i4 dQ => sRegion (sM S fun a S => ?_)))
 refine sM S fun a S => ?_
 refine sLen S (wN rfl) rfl Try.underlying32 rfl rfl (lb rfl) fun a S => ?_
 refine sBin _ S (wN rfl) rfl rfl rfl (bLt _ _ _ _ .i64 a7 (a5.1.length : Int)) rfl (lb rfl) fun a S => ?_
 refine lT (dQ _ _ ?_)
 rcases iS h with ⟨bv, h⟩ | ⟨bv, h⟩
 rotate_left
 ·refine sCondF S rfl bv ?_
  obtain rfl := tS h
  obtain rfl := co _ rfl
  have h := dO
  try dsimp only at h
  exact wp_exit (xThen (xThen (xHit (leafT (⟨Option.some.inj h, S.fix [0] [0, 1, 3] (by decide) rfl rfl rfl⟩)))))
 refine sCondT S rfl bv ?_
 refine wp_skip (leafT (dP _ _ ?_))
 refine sSeq (fun i5 dR => wp_block ?_)
 obtain ⟨gi, h, gj⟩ := bS h
 refine sCut (fun a w => ∃ cC, cC = gi ∧ St [] E [] w0 275 a w [(1, .pointer (some ⟨b6, 0, none⟩)), (3, .bool r8), (4, .slice a9 ab.1.length aa), (6, .slice ai ao.1.length aj), (17, iv aA), (18, iv aK), (19, .slice a0 a5.1.length a4), (21, iv a7), (271, .bool cC)] [eBox b6 24 [iv p0.Start, .slice ak p0.Rows.length al]] [fRep (rL r_api_Loop) (.slice a9 ab.1.length aa) ab.1, fRep (rL (rI .i64)) (.slice ai ao.1.length aj) ao.1, fRep (rL (rI .i64)) (.slice a0 a5.1.length a4) a5.1, fRep (rL r_api_Row) (.slice ak p0.Rows.length al) p0.Rows]) ?_ (fun a w hI => ?_)
 rotate_left
 ·obtain ⟨cC, rfl, S⟩ := hI
  have h := gj
  try dsimp only at h
  rcases iS h with ⟨bw, h⟩ | ⟨bw, h⟩
  rotate_left
  ·refine sCondF S rfl bw ?_
   refine wp_skip (leafB (leafT (dR _ _ ?_)))
   refine sRegion (sM S fun a S => ?_)
   refine sBin _ S (wN rfl) rfl rfl rfl (bAdd _ _ _ _ a7 1) rfl (lb rfl) fun a S => ?_
   refine sN S fun a S => ?_
   exact lT (⟨w64 (a7 + 1), (Option.some.inj h).symm, (S.fix [0] [0, 1, 2, 3] (by decide) rfl rfl rfl)⟩)
  refine sCondT S rfl bw ?_
  refine sSeq (fun i6 dS => sRegion (sN S fun a S => ?_))
  refine lT (dS _ _ ?_)
  obtain rfl := tS h
  obtain rfl := co _ rfl
  have h := dO
  try dsimp only at h
  obtain rfl := tS h
  have h := dK
  try dsimp only at h
  obtain rfl := tS h
  have h := bN
  try dsimp only at h
  obtain rfl := tS h
  obtain rfl := bb _ rfl
  have h := bM
  try dsimp only at h
  obtain rfl := tS h
  have h := bL
  try dsimp only at h
  obtain rfl := tS h
  exact wp_ret (rBlock (rThen (rThen (rBlock (rThen (rBlock (rThen (rThen (rBlock (rThen (sRet (.bool false) S (rsl1 rfl (rvT (t := 2) (v := .bool false) S rfl)) ⟨(), rfl, S.mem.sel [] [] (by decide) rfl rfl⟩)))))))))))
 obtain ⟨a6, aG, h⟩ := bS h
 rcases iS h with ⟨af, h⟩ | ⟨af, h⟩
 ·obtain ⟨cD, dU, S⟩ := pIdx (P := Try.prog) (r := (rI .i64)) (v := .slice a0 a5.1.length a4) (xs := a5.1) (j := a7) 32 3 2 S Try.underlying32 rfl rfl aG
  obtain ⟨dV, S⟩ := pLoad (r := (rI .i64)) (q := cD) (x := a6) 0 S rfl
  obtain rfl : dV = iv a6 := S.mem.know (i := 1) (e := fRep (rI .i64) (dV) a6) rfl
  refine sDraw (nf := []) (W := [(0, 207, .slice a0 a5.1.length a4), (1, 208, iv a7), (2, 209, cD), (3, 210, iv a6), (4, 211, .bool (decide (a6 < 0))), (5, 212, .bool (decide (a6 < 0))), (6, 213, undef), (7, 214, undef), (8, 215, undef), (9, 216, undef), (10, 217, undef), (11, 218, undef), (12, 219, undef), (13, 220, .bool true), (14, 221, .bool true), (15, 222, undef), (16, 223, undef), (17, 224, undef), (18, 225, undef), (19, 226, undef), (20, 227, undef), (21, 228, .bool true), (22, 229, .bool true), (23, 230, undef), (24, 231, undef), (25, 232, undef), (26, 233, undef), (27, 234, undef), (28, 235, undef), (29, 236, undef), (30, 237, undef), (31, 238, .bool true), (32, 239, .bool true), (33, 240, undef), (34, 241, undef), (35, 242, undef), (36, 243, undef), (37, 244, undef), (38, 245, undef), (39, 246, undef), (40, 247, undef), (41, 248, undef), (42, 249, undef), (43, 250, undef), (44, 251, undef), (45, 252, undef), (46, 253, undef), (47, 254, undef), (48, 255, undef), (49, 256, undef), (50, 257, undef), (51, 258, .bool true), (52, 259, .bool true), (53, 260, undef), (54, 261, undef), (55, 262, undef), (56, 263, undef), (57, 264, undef), (58, 265, undef), (59, 266, undef), (60, 267, undef), (61, 268, undef), (62, 269, undef), (63, 270, undef), (64, 271, .bool true)]) rfl S ?_
  refine node_by (A := anc_raddlelaw27_LoopsOnce_2) 65 (by kernel_rfl) (by kernel_rfl) (by kernel_rfl) (by kernel_rfl) (by kernel_rfl) [0, 1, 2, 3, 4, 5, 6, 7, 8, 9, 10, 11, 12, 13, 14, 15, 16, 17, 18, 19, 20, 21, 22, 23, 24, 25, 26, 27, 28, 29, 30, 31, 32, 33, 34, 35, 36, 37, 38, 39, 40, 41, 42, 43, 44, 45, 46, 47, 48, 49, 50, 51, 52, 53, 54, 55, 56, 57, 58, 59, 60, 61, 62, 63, 64] (by kernel_rfl) (by decide) (by decide) (fF ?_ (fF ?_ (fF ?_ (fF ?_ (fF ?_ (fF ?_ (fF ?_ (fF ?_ (fF ?_ (fF ?_ (fF ?_ (fF ?_ (fF ?_ (fF ?_ (fF ?_ (fF ?_ (fF ?_ (fF ?_ (fF ?_ (fF ?_ (fF ?_ (fF ?_ (fF ?_ (fF ?_ (fF ?_ (fF ?_ (fF ?_ (fF ?_ (fF ?_ (fF ?_ (fF ?_ (fF ?_ (fF ?_ (fF ?_ (fF ?_ (fF ?_ (fF ?_ (fF ?_ (fF ?_ (fF ?_ (fF ?_ (fF ?_ (fF ?_ (fF ?_ (fF ?_ (fF ?_ (fF ?_ (fF ?_ (fF ?_ (fF ?_ (fF ?_ (fF ?_ (fF ?_ (fF ?_ (fF ?_ (fF ?_ (fF ?_ (fF ?_ (fF ?_ (fF ?_ (fF ?_ (fF ?_ (fF ?_ (fF ?_ (fF ?_ (trivial)))))))))))))))))))))))))))))))))))))))))))))))))))))))))))))))))) [(1, .pointer (some ⟨b6, 0, none⟩)), (3, .bool r8), (4, .slice a9 ab.1.length aa), (6, .slice ai ao.1.length aj), (17, iv aA), (18, iv aK), (19, .slice a0 a5.1.length a4), (21, iv a7), (213, undef), (214, undef), (215, undef), (216, undef), (217, undef), (218, undef), (219, undef), (222, undef), (223, undef), (224, undef), (225, undef), (226, undef), (227, undef), (230, undef), (231, undef), (232, undef), (233, undef), (234, undef), (235, undef), (236, undef), (237, undef), (240, undef), (241, undef), (242, undef), (243, undef), (244, undef), (245, undef), (246, undef), (247, undef), (248, undef), (249, undef), (250, undef), (251, undef), (252, undef), (253, undef), (254, undef), (255, undef), (256, undef), (257, undef), (260, undef), (261, undef), (262, undef), (263, undef), (264, undef), (265, undef), (266, undef), (267, undef), (268, undef), (269, undef), (270, undef), (271, .bool true)] (fin_of [none, none, none, none, none, none, none, none, some 6, some 7, some 8, some 9, some 10, some 11, some 12, some 15, some 16, some 17, some 18, some 19, some 20, some 23, some 24, some 25, some 26, some 27, some 28, some 29, some 30, some 33, some 34, some 35, some 36, some 37, some 38, some 39, some 40, some 41, some 42, some 43, some 44, some 45, some 46, some 47, some 48, some 49, some 50, some 53, some 54, some 55, some 56, some 57, some 58, some 59, some 60, some 61, some 62, some 63, some 64] rfl (by kernel_rfl) (by kernel_rfl)) (fun _ a w S => ?_)
  ·exact fM 0 none rfl rfl rfl rfl (.inl rfl) rfl rfl rfl
  ·exact fM 1 none rfl rfl rfl rfl (.inl rfl) rfl rfl rfl
  ·refine fJ [(207, _), (208, _)] 2 [some 0, some 1] fun G a w S => ?_
   exact sIdxV S (wN rfl) rfl rfl rfl dU rfl (lb rfl) fun a S => leafL ⟨rfl, S⟩
  ·refine fJ [(209, _)] 3 [some 2] fun G a w S => ?_
   exact sLoadV1 (vq := cD) 0 (iv a6) S (wN rfl) rfl rfl rfl rfl rfl (lb rfl) fun a S => leafL ⟨rfl, S⟩
  ·refine fJ [(210, _)] 4 [some 3] fun G a w S => ?_
   exact sBin _ S (wN rfl) rfl rfl rfl (bLt _ _ _ _ .i64 a6 0) rfl (lb rfl) fun a S => leafL ⟨rfl, S⟩
  ·exact fM 5 (some 4) rfl rfl rfl rfl (.inl rfl) rfl rfl rfl
  ·refine fJ [(19, _), (212, _)] 6 [none, some 5] fun G a w S => ?_
   exact sSk S rfl rfl rfl af rfl rfl fun a S => leafL ⟨rfl, S⟩
  ·refine fJ [(21, _), (212, _)] 7 [none, some 5] fun G a w S => ?_
   exact sSk S rfl rfl rfl af rfl rfl fun a S => leafL ⟨rfl, S⟩
  ·refine fJ [(213, _), (214, _), (212, _)] 8 [some 6, some 7, some 5] fun G a w S => ?_
   exact sSk S rfl rfl rfl af rfl rfl fun a S => leafL ⟨rfl, S⟩
  ·refine fJ [(215, _), (212, _)] 9 [some 8, some 5] fun G a w S => ?_
   exact sSk S rfl rfl rfl af rfl rfl fun a S => leafL ⟨rfl, S⟩
  ·refine fJ [(4, _), (212, _)] 10 [none, some 5] fun G a w S => ?_
   exact sSk S rfl rfl rfl af rfl rfl fun a S => leafL ⟨rfl, S⟩
  ·refine fJ [(217, _), (212, _)] 11 [some 10, some 5] fun G a w S => ?_
   exact sSk S rfl rfl rfl af rfl rfl fun a S => leafL ⟨rfl, S⟩
  ·refine fJ [(216, _), (218, _), (212, _)] 12 [some 9, some 11, some 5] fun G a w S => ?_
   exact sSk S rfl rfl rfl af rfl rfl fun a S => leafL ⟨rfl, S⟩
  ·refine fJ [(212, _), (219, _)] 13 [some 5, some 12] fun G a w S => ?_
   exact sPickT (.bool true) S (wN rfl) rfl rfl af rfl rfl (lb rfl) fun a S => leafL ⟨rfl, S⟩
  ·exact fM 14 (some 13) rfl rfl rfl rfl (.inl rfl) rfl rfl rfl
  ·refine fJ [(19, _), (221, _)] 15 [none, some 14] fun G a w S => ?_
   exact sSk S rfl rfl rfl rfl rfl rfl fun a S => leafL ⟨rfl, S⟩
  ·refine fJ [(21, _), (221, _)] 16 [none, some 14] fun G a w S => ?_
   exact sSk S rfl rfl rfl rfl rfl rfl fun a S => leafL ⟨rfl, S⟩
  ·refine fJ [(223, _), (221, _)] 17 [some 16, some 14] fun G a w S => ?_
   exact sSk S rfl rfl rfl rfl rfl rfl fun a S => leafL ⟨rfl, S⟩
  ·refine fJ [(222, _), (224, _), (221, _)] 18 [some 15, some 17, some 14] fun G a w S => ?_
   exact sSk S rfl rfl rfl rfl rfl rfl fun a S => leafL ⟨rfl, S⟩
  ·refine fJ [(225, _), (221, _)] 19 [some 18, some 14] fun G a w S => ?_
   exact sSk S rfl rfl rfl rfl rfl rfl fun a S => leafL ⟨rfl, S⟩
  ·refine fJ [(226, _), (221, _)] 20 [some 19, some 14] fun G a w S => ?_
   exact sSk S rfl rfl rfl rfl rfl rfl fun a S => leafL ⟨rfl, S⟩
  ·refine fJ [(221, _), (227, _)] 21 [some 14, some 20] fun G a w S => ?_
   exact sPickT (.bool true) S (wN rfl) rfl rfl rfl rfl rfl (lb rfl) fun a S => leafL ⟨rfl, S⟩
  ·exact fM 22 (some 21) rfl rfl rfl rfl (.inl rfl) rfl rfl rfl
  ·refine fJ [(19, _), (229, _)] 23 [none, some 22] fun G a w S => ?_
   exact sSk S rfl rfl rfl rfl rfl rfl fun a S => leafL ⟨rfl, S⟩
  ·refine fJ [(21, _), (229, _)] 24 [none, some 22] fun G a w S => ?_
   exact sSk S rfl rfl rfl rfl rfl rfl fun a S => leafL ⟨rfl, S⟩
  ·refine fJ [(231, _), (229, _)] 25 [some 24, some 22] fun G a w S => ?_
   exact sSk S rfl rfl rfl rfl rfl rfl fun a S => leafL ⟨rfl, S⟩
  ·refine fJ [(230, _), (232, _), (229, _)] 26 [some 23, some 25, some 22] fun G a w S => ?_
   exact sSk S rfl rfl rfl rfl rfl rfl fun a S => leafL ⟨rfl, S⟩
  ·refine fJ [(233, _), (229, _)] 27 [some 26, some 22] fun G a w S => ?_
   exact sSk S rfl rfl rfl rfl rfl rfl fun a S => leafL ⟨rfl, S⟩
  ·refine fJ [(4, _), (229, _)] 28 [none, some 22] fun G a w S => ?_
   exact sSk S rfl rfl rfl rfl rfl rfl fun a S => leafL ⟨rfl, S⟩
  ·refine fJ [(235, _), (229, _)] 29 [some 28, some 22] fun G a w S => ?_
   exact sSk S rfl rfl rfl rfl rfl rfl fun a S => leafL ⟨rfl, S⟩
  ·refine fJ [(234, _), (236, _), (229, _)] 30 [some 27, some 29, some 22] fun G a w S => ?_
   exact sSk S rfl rfl rfl rfl rfl rfl fun a S => leafL ⟨rfl, S⟩
  ·refine fJ [(229, _), (237, _)] 31 [some 22, some 30] fun G a w S => ?_
   exact sPickT (.bool true) S (wN rfl) rfl rfl rfl rfl rfl (lb rfl) fun a S => leafL ⟨rfl, S⟩
  ·exact fM 32 (some 31) rfl rfl rfl rfl (.inl rfl) rfl rfl rfl
  ·refine fJ [(4, _), (239, _)] 33 [none, some 32] fun G a w S => ?_
   exact sSk S rfl rfl rfl rfl rfl rfl fun a S => leafL ⟨rfl, S⟩
  ·refine fJ [(19, _), (239, _)] 34 [none, some 32] fun G a w S => ?_
   exact sSk S rfl rfl rfl rfl rfl rfl fun a S => leafL ⟨rfl, S⟩
  ·refine fJ [(21, _), (239, _)] 35 [none, some 32] fun G a w S => ?_
   exact sSk S rfl rfl rfl rfl rfl rfl fun a S => leafL ⟨rfl, S⟩
  ·refine fJ [(241, _), (242, _), (239, _)] 36 [some 34, some 35, some 32] fun G a w S => ?_
   exact sSk S rfl rfl rfl rfl rfl rfl fun a S => leafL ⟨rfl, S⟩
  ·refine fJ [(243, _), (239, _)] 37 [some 36, some 32] fun G a w S => ?_
   exact sSk S rfl rfl rfl rfl rfl rfl fun a S => leafL ⟨rfl, S⟩
  ·refine fJ [(240, _), (244, _), (239, _)] 38 [some 33, some 37, some 32] fun G a w S => ?_
   exact sSk S rfl rfl rfl rfl rfl rfl fun a S => leafL ⟨rfl, S⟩
  ·refine fJ [(245, _), (239, _)] 39 [some 38, some 32] fun G a w S => ?_
   exact sSk S rfl rfl rfl rfl rfl rfl fun a S => leafL ⟨rfl, S⟩
  ·refine fJ [(246, _), (239, _)] 40 [some 39, some 32] fun G a w S => ?_
   exact sSk S rfl rfl rfl rfl rfl rfl fun a S => leafL ⟨rfl, S⟩
  ·refine fJ [(4, _), (239, _)] 41 [none, some 32] fun G a w S => ?_
   exact sSk S rfl rfl rfl rfl rfl rfl fun a S => leafL ⟨rfl, S⟩
  ·refine fJ [(19, _), (239, _)] 42 [none, some 32] fun G a w S => ?_
   exact sSk S rfl rfl rfl rfl rfl rfl fun a S => leafL ⟨rfl, S⟩
  ·refine fJ [(21, _), (239, _)] 43 [none, some 32] fun G a w S => ?_
   exact sSk S rfl rfl rfl rfl rfl rfl fun a S => leafL ⟨rfl, S⟩
  ·refine fJ [(250, _), (239, _)] 44 [some 43, some 32] fun G a w S => ?_
   exact sSk S rfl rfl rfl rfl rfl rfl fun a S => leafL ⟨rfl, S⟩
  ·refine fJ [(249, _), (251, _), (239, _)] 45 [some 42, some 44, some 32] fun G a w S => ?_
   exact sSk S rfl rfl rfl rfl rfl rfl fun a S => leafL ⟨rfl, S⟩
  ·refine fJ [(252, _), (239, _)] 46 [some 45, some 32] fun G a w S => ?_
   exact sSk S rfl rfl rfl rfl rfl rfl fun a S => leafL ⟨rfl, S⟩
  ·refine fJ [(248, _), (253, _), (239, _)] 47 [some 41, some 46, some 32] fun G a w S => ?_
   exact sSk S rfl rfl rfl rfl rfl rfl fun a S => leafL ⟨rfl, S⟩
  ·refine fJ [(254, _), (239, _)] 48 [some 47, some 32] fun G a w S => ?_
   exact sSk S rfl rfl rfl rfl rfl rfl fun a S => leafL ⟨rfl, S⟩
  ·refine fJ [(255, _), (239, _)] 49 [some 48, some 32] fun G a w S => ?_
   exact sSk S rfl rfl rfl rfl rfl rfl fun a S => leafL ⟨rfl, S⟩
  ·refine fJ [(247, _), (256, _), (239, _)] 50 [some 40, some 49, some 32] fun G a w S => ?_
   exact sSk S rfl rfl rfl rfl rfl rfl fun a S => leafL ⟨rfl, S⟩
  ·refine fJ [(239, _), (257, _)] 51 [some 32, some 50] fun G a w S => ?_
   exact sPickT (.bool true) S (wN rfl) rfl rfl rfl rfl rfl (lb rfl) fun a S => leafL ⟨rfl, S⟩
  ·exact fM 52 (some 51) rfl rfl rfl rfl (.inl rfl) rfl rfl rfl
  ·refine fJ [(19, _), (259, _)] 53 [none, some 52] fun G a w S => ?_
   exact sSk S rfl rfl rfl rfl rfl rfl fun a S => leafL ⟨rfl, S⟩
  ·refine fJ [(21, _), (259, _)] 54 [none, some 52] fun G a w S => ?_
   exact sSk S rfl rfl rfl rfl rfl rfl fun a S => leafL ⟨rfl, S⟩
  ·refine fJ [(260, _), (261, _), (259, _)] 55 [some 53, some 54, some 52] fun G a w S => ?_
   exact sSk S rfl rfl rfl rfl rfl rfl fun a S => leafL ⟨rfl, S⟩
  ·refine fJ [(262, _), (259, _)] 56 [some 55, some 52] fun G a w S => ?_
   exact sSk S rfl rfl rfl rfl rfl rfl fun a S => leafL ⟨rfl, S⟩
  ·refine fJ [(19, _), (259, _)] 57 [none, some 52] fun G a w S => ?_
   exact sSk S rfl rfl rfl rfl rfl rfl fun a S => leafL ⟨rfl, S⟩
  ·refine fJ [(21, _), (259, _)] 58 [none, some 52] fun G a w S => ?_
   exact sSk S rfl rfl rfl rfl rfl rfl fun a S => leafL ⟨rfl, S⟩
  ·refine fJ [(265, _), (259, _)] 59 [some 58, some 52] fun G a w S => ?_
   exact sSk S rfl rfl rfl rfl rfl rfl fun a S => leafL ⟨rfl, S⟩
  ·refine fJ [(264, _), (266, _), (259, _)] 60 [some 57, some 59, some 52] fun G a w S => ?_
   exact sSk S rfl rfl rfl rfl rfl rfl fun a S => leafL ⟨rfl, S⟩
  ·refine fJ [(267, _), (259, _)] 61 [some 60, some 52] fun G a w S => ?_
   exact sSk S rfl rfl rfl rfl rfl rfl fun a S => leafL ⟨rfl, S⟩
  ·refine fJ [(268, _), (259, _)] 62 [some 61, some 52] fun G a w S => ?_
   exact sSk S rfl rfl rfl rfl rfl rfl fun a S => leafL ⟨rfl, S⟩
  ·refine fJ [(263, _), (269, _), (259, _)] 63 [some 56, some 62, some 52] fun G a w S => ?_
   exact sSk S rfl rfl rfl rfl rfl rfl fun a S => leafL ⟨rfl, S⟩
  ·refine fJ [(259, _), (270, _)] 64 [some 52, some 63] fun G a w S => ?_
   exact sPickT (.bool true) S (wN rfl) rfl rfl rfl rfl rfl (lb rfl) fun a S => leafL ⟨rfl, S⟩
  exact leafT (⟨true, Option.some.inj h, S.fix [0] [3, 4, 5, 6] (by decide) rfl rfl rfl⟩)
 rcases iS h with ⟨ah, h⟩ | ⟨ah, h⟩
 ·obtain ⟨cE, dW, S⟩ := pIdx (P := Try.prog) (r := (rI .i64)) (v := .slice a0 a5.1.length a4) (xs := a5.1) (j := a7) 32 3 2 S Try.underlying32 rfl rfl aG
  obtain ⟨dX, S⟩ := pLoad (r := (rI .i64)) (q := cE) (x := a6) 0 S rfl
  obtain rfl : dX = iv a6 := S.mem.know (i := 1) (e := fRep (rI .i64) (dX) a6) rfl
  obtain ⟨bO, dY, S⟩ := pIdx (P := Try.prog) (r := (rI .i64)) (v := .slice a0 a5.1.length a4) (xs := a5.1) (j := a7) 32 3 5 S Try.underlying32 rfl rfl aG
  obtain ⟨dZ, S⟩ := pLoad (r := (rI .i64)) (q := bO) (x := a6) 0 S rfl
  obtain rfl : dZ = iv a6 := S.mem.know (i := 1) (e := fRep (rI .i64) (dZ) a6) rfl
  refine sDraw (nf := []) (W := [(0, 207, .slice a0 a5.1.length a4), (1, 208, iv a7), (2, 209, cE), (3, 210, iv a6), (4, 211, .bool (decide (a6 < 0))), (5, 212, .bool (decide (a6 < 0))), (6, 213, .slice a0 a5.1.length a4), (7, 214, iv a7), (8, 215, bO), (9, 216, iv a6), (10, 217, .slice a9 ab.1.length aa), (11, 218, iv (ab.1.length : Int)), (12, 219, .bool (decide ((ab.1.length : Int) ≤ a6))), (13, 220, .bool (decide ((ab.1.length : Int) ≤ a6))), (14, 221, .bool (decide ((ab.1.length : Int) ≤ a6))), (15, 222, undef), (16, 223, undef), (17, 224, undef), (18, 225, undef), (19, 226, undef), (20, 227, undef), (21, 228, .bool true), (22, 229, .bool true), (23, 230, undef), (24, 231, undef), (25, 232, undef), (26, 233, undef), (27, 234, undef), (28, 235, undef), (29, 236, undef), (30, 237, undef), (31, 238, .bool true), (32, 239, .bool true), (33, 240, undef), (34, 241, undef), (35, 242, undef), (36, 243, undef), (37, 244, undef), (38, 245, undef), (39, 246, undef), (40, 247, undef), (41, 248, undef), (42, 249, undef), (43, 250, undef), (44, 251, undef), (45, 252, undef), (46, 253, undef), (47, 254, undef), (48, 255, undef), (49, 256, undef), (50, 257, undef), (51, 258, .bool true), (52, 259, .bool true), (53, 260, undef), (54, 261, undef), (55, 262, undef), (56, 263, undef), (57, 264, undef), (58, 265, undef), (59, 266, undef), (60, 267, undef), (61, 268, undef), (62, 269, undef), (63, 270, undef), (64, 271, .bool true)]) rfl S ?_
  refine node_by (A := anc_raddlelaw27_LoopsOnce_2) 65 (by kernel_rfl) (by kernel_rfl) (by kernel_rfl) (by kernel_rfl) (by kernel_rfl) [0, 1, 2, 3, 4, 5, 6, 7, 8, 9, 10, 11, 12, 13, 14, 15, 16, 17, 18, 19, 20, 21, 22, 23, 24, 25, 26, 27, 28, 29, 30, 31, 32, 33, 34, 35, 36, 37, 38, 39, 40, 41, 42, 43, 44, 45, 46, 47, 48, 49, 50, 51, 52, 53, 54, 55, 56, 57, 58, 59, 60, 61, 62, 63, 64] (by kernel_rfl) (by decide) (by decide) (fF ?_ (fF ?_ (fF ?_ (fF ?_ (fF ?_ (fF ?_ (fF ?_ (fF ?_ (fF ?_ (fF ?_ (fF ?_ (fF ?_ (fF ?_ (fF ?_ (fF ?_ (fF ?_ (fF ?_ (fF ?_ (fF ?_ (fF ?_ (fF ?_ (fF ?_ (fF ?_ (fF ?_ (fF ?_ (fF ?_ (fF ?_ (fF ?_ (fF ?_ (fF ?_ (fF ?_ (fF ?_ (fF ?_ (fF ?_ (fF ?_ (fF ?_ (fF ?_ (fF ?_ (fF ?_ (fF ?_ (fF ?_ (fF ?_ (fF ?_ (fF ?_ (fF ?_ (fF ?_ (fF ?_ (fF ?_ (fF ?_ (fF ?_ (fF ?_ (fF ?_ (fF ?_ (fF ?_ (fF ?_ (fF ?_ (fF ?_ (fF ?_ (fF ?_ (fF ?_ (fF ?_ (fF ?_ (fF ?_ (fF ?_ (fF ?_ (trivial)))))))))))))))))))))))))))))))))))))))))))))))))))))))))))))))))) [(1, .pointer (some ⟨b6, 0, none⟩)), (3, .bool r8), (4, .slice a9 ab.1.length aa), (6, .slice ai ao.1.length aj), (17, iv aA), (18, iv aK), (19, .slice a0 a5.1.length a4), (21, iv a7), (213, .slice a0 a5.1.length a4), (214, iv a7), (215, bO), (216, iv a6), (217, .slice a9 ab.1.length aa), (218, iv (ab.1.length : Int)), (219, .bool (decide ((ab.1.length : Int) ≤ a6))), (222, undef), (223, undef), (224, undef), (225, undef), (226, undef), (227, undef), (230, undef), (231, undef), (232, undef), (233, undef), (234, undef), (235, undef), (236, undef), (237, undef), (240, undef), (241, undef), (242, undef), (243, undef), (244, undef), (245, undef), (246, undef), (247, undef), (248, undef), (249, undef), (250, undef), (251, undef), (252, undef), (253, undef), (254, undef), (255, undef), (256, undef), (257, undef), (260, undef), (261, undef), (262, undef), (263, undef), (264, undef), (265, undef), (266, undef), (267, undef), (268, undef), (269, undef), (270, undef), (271, .bool true)] (fin_of [none, none, none, none, none, none, none, none, some 6, some 7, some 8, some 9, some 10, some 11, some 12, some 15, some 16, some 17, some 18, some 19, some 20, some 23, some 24, some 25, some 26, some 27, some 28, some 29, some 30, some 33, some 34, some 35, some 36, some 37, some 38, some 39, some 40, some 41, some 42, some 43, some 44, some 45, some 46, some 47, some 48, some 49, some 50, some 53, some 54, some 55, some 56, some 57, some 58, some 59, some 60, some 61, some 62, some 63, some 64] rfl (by kernel_rfl) (by kernel_rfl)) (fun _ a w S => ?_)
  ·exact fM 0 none rfl rfl rfl rfl (.inl rfl) rfl rfl rfl
  ·exact fM 1 none rfl rfl rfl rfl (.inl rfl) rfl rfl rfl
  ·refine fJ [(207, _), (208, _)] 2 [some 0, some 1] fun G a w S => ?_
   exact sIdxV S (wN rfl) rfl rfl rfl dW rfl (lb rfl) fun a S => leafL ⟨rfl, S⟩
  ·refine fJ [(209, _)] 3 [some 2] fun G a w S => ?_
   exact sLoadV1 (vq := cE) 3 (iv a6) S (wN rfl) rfl rfl rfl rfl rfl (lb rfl) fun a S => leafL ⟨rfl, S⟩
  ·refine fJ [(210, _)] 4 [some 3] fun G a w S => ?_
   exact sBin _ S (wN rfl) rfl rfl rfl (bLt _ _ _ _ .i64 a6 0) rfl (lb rfl) fun a S => leafL ⟨rfl, S⟩
  ·exact fM 5 (some 4) rfl rfl rfl rfl (.inl rfl) rfl rfl rfl
  ·refine fJ [(19, _), (212, _)] 6 [none, some 5] fun G a w S => ?_
   exact sMove (.slice a0 a5.1.length a4) S (wG 5 false 212 rfl rfl rfl af) (.inl rfl) rfl rfl (lb rfl) fun a S => leafL ⟨rfl, S⟩
  ·refine fJ [(21, _), (212, _)] 7 [none, some 5] fun G a w S => ?_
   exact sMove (iv a7) S (wG 5 false 212 rfl rfl rfl af) (.inl rfl) rfl rfl (lb rfl) fun a S => leafL ⟨rfl, S⟩
  ·refine fJ [(213, _), (214, _), (212, _)] 8 [some 6, some 7, some 5] fun G a w S => ?_
   exact sIdxV S (wG 5 false 212 rfl rfl rfl af) rfl rfl rfl dY rfl (lb rfl) fun a S => leafL ⟨rfl, S⟩
  ·refine fJ [(215, _), (212, _)] 9 [some 8, some 5] fun G a w S => ?_
   exact sLoadV1 (vq := bO) 0 (iv a6) S (wG 5 false 212 rfl rfl rfl af) rfl rfl rfl rfl rfl (lb rfl) fun a S => leafL ⟨rfl, S⟩
  ·refine fJ [(4, _), (212, _)] 10 [none, some 5] fun G a w S => ?_
   exact sMove (.slice a9 ab.1.length aa) S (wG 5 false 212 rfl rfl rfl af) (.inl rfl) rfl rfl (lb rfl) fun a S => leafL ⟨rfl, S⟩
  ·refine fJ [(217, _), (212, _)] 11 [some 10, some 5] fun G a w S => ?_
   exact sLen S (wG 5 false 212 rfl rfl rfl af) rfl Try.underlying26 rfl rfl (lb rfl) fun a S => leafL ⟨rfl, S⟩
  ·refine fJ [(216, _), (218, _), (212, _)] 12 [some 9, some 11, some 5] fun G a w S => ?_
   exact sBin _ S (wG 5 false 212 rfl rfl rfl af) rfl rfl rfl (bGe _ _ _ _ .i64 a6 (ab.1.length : Int)) rfl (lb rfl) fun a S => leafL ⟨rfl, S⟩
  ·refine fJ [(212, _), (219, _)] 13 [some 5, some 12] fun G a w S => ?_
   exact sPickF (.bool (decide ((ab.1.length : Int) ≤ a6))) S (wN rfl) rfl rfl af rfl rfl (lb rfl) fun a S => leafL ⟨rfl, S⟩
  ·exact fM 14 (some 13) rfl rfl rfl rfl (.inl rfl) rfl rfl rfl
  ·refine fJ [(19, _), (221, _)] 15 [none, some 14] fun G a w S => ?_
   exact sSk S rfl rfl rfl ah rfl rfl fun a S => leafL ⟨rfl, S⟩
  ·refine fJ [(21, _), (221, _)] 16 [none, some 14] fun G a w S => ?_
   exact sSk S rfl rfl rfl ah rfl rfl fun a S => leafL ⟨rfl, S⟩
  ·refine fJ [(223, _), (221, _)] 17 [some 16, some 14] fun G a w S => ?_
   exact sSk S rfl rfl rfl ah rfl rfl fun a S => leafL ⟨rfl, S⟩
  ·refine fJ [(222, _), (224, _), (221, _)] 18 [some 15, some 17, some 14] fun G a w S => ?_
   exact sSk S rfl rfl rfl ah rfl rfl fun a S => leafL ⟨rfl, S⟩
  ·refine fJ [(225, _), (221, _)] 19 [some 18, some 14] fun G a w S => ?_
   exact sSk S rfl rfl rfl ah rfl rfl fun a S => leafL ⟨rfl, S⟩
  ·refine fJ [(226, _), (221, _)] 20 [some 19, some 14] fun G a w S => ?_
   exact sSk S rfl rfl rfl ah rfl rfl fun a S => leafL ⟨rfl, S⟩
  ·refine fJ [(221, _), (227, _)] 21 [some 14, some 20] fun G a w S => ?_
   exact sPickT (.bool true) S (wN rfl) rfl rfl ah rfl rfl (lb rfl) fun a S => leafL ⟨rfl, S⟩
  ·exact fM 22 (some 21) rfl rfl rfl rfl (.inl rfl) rfl rfl rfl
  ·refine fJ [(19, _), (229, _)] 23 [none, some 22] fun G a w S => ?_
   exact sSk S rfl rfl rfl rfl rfl rfl fun a S => leafL ⟨rfl, S⟩
  ·refine fJ [(21, _), (229, _)] 24 [none, some 22] fun G a w S => ?_
   exact sSk S rfl rfl rfl rfl rfl rfl fun a S => leafL ⟨rfl, S⟩
  ·refine fJ [(231, _), (229, _)] 25 [some 24, some 22] fun G a w S => ?_
   exact sSk S rfl rfl rfl rfl rfl rfl fun a S => leafL ⟨rfl, S⟩
  ·refine fJ [(230, _), (232, _), (229, _)] 26 [some 23, some 25, some 22] fun G a w S => ?_
   exact sSk S rfl rfl rfl rfl rfl rfl fun a S => leafL ⟨rfl, S⟩
  ·refine fJ [(233, _), (229, _)] 27 [some 26, some 22] fun G a w S => ?_
   exact sSk S rfl rfl rfl rfl rfl rfl fun a S => leafL ⟨rfl, S⟩
  ·refine fJ [(4, _), (229, _)] 28 [none, some 22] fun G a w S => ?_
   exact sSk S rfl rfl rfl rfl rfl rfl fun a S => leafL ⟨rfl, S⟩
  ·refine fJ [(235, _), (229, _)] 29 [some 28, some 22] fun G a w S => ?_
   exact sSk S rfl rfl rfl rfl rfl rfl fun a S => leafL ⟨rfl, S⟩
  ·refine fJ [(234, _), (236, _), (229, _)] 30 [some 27, some 29, some 22] fun G a w S => ?_
   exact sSk S rfl rfl rfl rfl rfl rfl fun a S => leafL ⟨rfl, S⟩
  ·refine fJ [(229, _), (237, _)] 31 [some 22, some 30] fun G a w S => ?_
   exact sPickT (.bool true) S (wN rfl) rfl rfl rfl rfl rfl (lb rfl) fun a S => leafL ⟨rfl, S⟩
  ·exact fM 32 (some 31) rfl rfl rfl rfl (.inl rfl) rfl rfl rfl
  ·refine fJ [(4, _), (239, _)] 33 [none, some 32] fun G a w S => ?_
   exact sSk S rfl rfl rfl rfl rfl rfl fun a S => leafL ⟨rfl, S⟩
  ·refine fJ [(19, _), (239, _)] 34 [none, some 32] fun G a w S => ?_
   exact sSk S rfl rfl rfl rfl rfl rfl fun a S => leafL ⟨rfl, S⟩
  ·refine fJ [(21, _), (239, _)] 35 [none, some 32] fun G a w S => ?_
   exact sSk S rfl rfl rfl rfl rfl rfl fun a S => leafL ⟨rfl, S⟩
  ·refine fJ [(241, _), (242, _), (239, _)] 36 [some 34, some 35, some 32] fun G a w S => ?_
   exact sSk S rfl rfl rfl rfl rfl rfl fun a S => leafL ⟨rfl, S⟩
  ·refine fJ [(243, _), (239, _)] 37 [some 36, some 32] fun G a w S => ?_
   exact sSk S rfl rfl rfl rfl rfl rfl fun a S => leafL ⟨rfl, S⟩
  ·refine fJ [(240, _), (244, _), (239, _)] 38 [some 33, some 37, some 32] fun G a w S => ?_
   exact sSk S rfl rfl rfl rfl rfl rfl fun a S => leafL ⟨rfl, S⟩
  ·refine fJ [(245, _), (239, _)] 39 [some 38, some 32] fun G a w S => ?_
   exact sSk S rfl rfl rfl rfl rfl rfl fun a S => leafL ⟨rfl, S⟩
  ·refine fJ [(246, _), (239, _)] 40 [some 39, some 32] fun G a w S => ?_
   exact sSk S rfl rfl rfl rfl rfl rfl fun a S => leafL ⟨rfl, S⟩
  ·refine fJ [(4, _), (239, _)] 41 [none, some 32] fun G a w S => ?_
   exact sSk S rfl rfl rfl rfl rfl rfl fun a S => leafL ⟨rfl, S⟩
  ·refine fJ [(19, _), (239, _)] 42 [none, some 32] fun G a w S => ?_
   exact sSk S rfl rfl rfl rfl rfl rfl fun a S => leafL ⟨rfl, S⟩
  ·refine fJ [(21, _), (239, _)] 43 [none, some 32] fun G a w S => ?_
   exact sSk S rfl rfl rfl rfl rfl rfl fun a S => leafL ⟨rfl, S⟩
  ·refine fJ [(250, _), (239, _)] 44 [some 43, some 32] fun G a w S => ?_
   exact sSk S rfl rfl rfl rfl rfl rfl fun a S => leafL ⟨rfl, S⟩
  ·refine fJ [(249, _), (251, _), (239, _)] 45 [some 42, some 44, some 32] fun G a w S => ?_
   exact sSk S rfl rfl rfl rfl rfl rfl fun a S => leafL ⟨rfl, S⟩
  ·refine fJ [(252, _), (239, _)] 46 [some 45, some 32] fun G a w S => ?_
   exact sSk S rfl rfl rfl rfl rfl rfl fun a S => leafL ⟨rfl, S⟩
  ·refine fJ [(248, _), (253, _), (239, _)] 47 [some 41, some 46, some 32] fun G a w S => ?_
   exact sSk S rfl rfl rfl rfl rfl rfl fun a S => leafL ⟨rfl, S⟩
  ·refine fJ [(254, _), (239, _)] 48 [some 47, some 32] fun G a w S => ?_
   exact sSk S rfl rfl rfl rfl rfl rfl fun a S => leafL ⟨rfl, S⟩
  ·refine fJ [(255, _), (239, _)] 49 [some 48, some 32] fun G a w S => ?_
   exact sSk S rfl rfl rfl rfl rfl rfl fun a S => leafL ⟨rfl, S⟩
  ·refine fJ [(247, _), (256, _), (239, _)] 50 [some 40, some 49, some 32] fun G a w S => ?_
   exact sSk S rfl rfl rfl rfl rfl rfl fun a S => leafL ⟨rfl, S⟩
  ·refine fJ [(239, _), (257, _)] 51 [some 32, some 50] fun G a w S => ?_
   exact sPickT (.bool true) S (wN rfl) rfl rfl rfl rfl rfl (lb rfl) fun a S => leafL ⟨rfl, S⟩
  ·exact fM 52 (some 51) rfl rfl rfl rfl (.inl rfl) rfl rfl rfl
  ·refine fJ [(19, _), (259, _)] 53 [none, some 52] fun G a w S => ?_
   exact sSk S rfl rfl rfl rfl rfl rfl fun a S => leafL ⟨rfl, S⟩
  ·refine fJ [(21, _), (259, _)] 54 [none, some 52] fun G a w S => ?_
   exact sSk S rfl rfl rfl rfl rfl rfl fun a S => leafL ⟨rfl, S⟩
  ·refine fJ [(260, _), (261, _), (259, _)] 55 [some 53, some 54, some 52] fun G a w S => ?_
   exact sSk S rfl rfl rfl rfl rfl rfl fun a S => leafL ⟨rfl, S⟩
  ·refine fJ [(262, _), (259, _)] 56 [some 55, some 52] fun G a w S => ?_
   exact sSk S rfl rfl rfl rfl rfl rfl fun a S => leafL ⟨rfl, S⟩
  ·refine fJ [(19, _), (259, _)] 57 [none, some 52] fun G a w S => ?_
   exact sSk S rfl rfl rfl rfl rfl rfl fun a S => leafL ⟨rfl, S⟩
  ·refine fJ [(21, _), (259, _)] 58 [none, some 52] fun G a w S => ?_
   exact sSk S rfl rfl rfl rfl rfl rfl fun a S => leafL ⟨rfl, S⟩
  ·refine fJ [(265, _), (259, _)] 59 [some 58, some 52] fun G a w S => ?_
   exact sSk S rfl rfl rfl rfl rfl rfl fun a S => leafL ⟨rfl, S⟩
  ·refine fJ [(264, _), (266, _), (259, _)] 60 [some 57, some 59, some 52] fun G a w S => ?_
   exact sSk S rfl rfl rfl rfl rfl rfl fun a S => leafL ⟨rfl, S⟩
  ·refine fJ [(267, _), (259, _)] 61 [some 60, some 52] fun G a w S => ?_
   exact sSk S rfl rfl rfl rfl rfl rfl fun a S => leafL ⟨rfl, S⟩
  ·refine fJ [(268, _), (259, _)] 62 [some 61, some 52] fun G a w S => ?_
   exact sSk S rfl rfl rfl rfl rfl rfl fun a S => leafL ⟨rfl, S⟩
  ·refine fJ [(263, _), (269, _), (259, _)] 63 [some 56, some 62, some 52] fun G a w S => ?_
   exact sSk S rfl rfl rfl rfl rfl rfl fun a S => leafL ⟨rfl, S⟩
  ·refine fJ [(259, _), (270, _)] 64 [some 52, some 63] fun G a w S => ?_
   exact sPickT (.bool true) S (wN rfl) rfl rfl rfl rfl rfl (lb rfl) fun a S => leafL ⟨rfl, S⟩
  exact leafT (⟨true, Option.some.inj h, S.fix [0] [6, 7, 8, 9] (by decide) rfl rfl rfl⟩)
 obtain ⟨a8, aJ, h⟩ := bS h
 rcases iS h with ⟨ag, h⟩ | ⟨ag, h⟩
 ·obtain ⟨cF, e0, S⟩ := pIdx (P := Try.prog) (r := (rI .i64)) (v := .slice a0 a5.1.length a4) (xs := a5.1) (j := a7) 32 3 2 S Try.underlying32 rfl rfl aG
  obtain ⟨e4, S⟩ := pLoad (r := (rI .i64)) (q := cF) (x := a6) 0 S rfl
  obtain rfl : e4 = iv a6 := S.mem.know (i := 1) (e := fRep (rI .i64) (e4) a6) rfl
  obtain ⟨bP, e5, S⟩ := pIdx (P := Try.prog) (r := (rI .i64)) (v := .slice a0 a5.1.length a4) (xs := a5.1) (j := a7) 32 3 5 S Try.underlying32 rfl rfl aG
  obtain ⟨e6, S⟩ := pLoad (r := (rI .i64)) (q := bP) (x := a6) 0 S rfl
  obtain rfl : e6 = iv a6 := S.mem.know (i := 1) (e := fRep (rI .i64) (e6) a6) rfl
  obtain ⟨bQ, e7, S⟩ := pIdx (P := Try.prog) (r := (rI .i64)) (v := .slice a0 a5.1.length a4) (xs := a5.1) (j := w64 (a7 - 1)) 32 3 8 S Try.underlying32 rfl rfl aJ
  obtain ⟨ea, S⟩ := pLoad (r := (rI .i64)) (q := bQ) (x := a8) 0 S rfl
  obtain rfl : ea = iv a8 := S.mem.know (i := 1) (e := fRep (rI .i64) (ea) a8) rfl
  refine sDraw (nf := []) (W := [(0, 207, .slice a0 a5.1.length a4), (1, 208, iv a7), (2, 209, cF), (3, 210, iv a6), (4, 211, .bool (decide (a6 < 0))), (5, 212, .bool (decide (a6 < 0))), (6, 213, .slice a0 a5.1.length a4), (7, 214, iv a7), (8, 215, bP), (9, 216, iv a6), (10, 217, .slice a9 ab.1.length aa), (11, 218, iv (ab.1.length : Int)), (12, 219, .bool (decide ((ab.1.length : Int) ≤ a6))), (13, 220, .bool (decide ((ab.1.length : Int) ≤ a6))), (14, 221, .bool (decide ((ab.1.length : Int) ≤ a6))), (15, 222, .slice a0 a5.1.length a4), (16, 223, iv a7), (17, 224, iv (w64 (a7 - 1))), (18, 225, bQ), (19, 226, iv a8), (20, 227, .bool (decide (a8 < 0))), (21, 228, .bool (decide (a8 < 0))), (22, 229, .bool (decide (a8 < 0))), (23, 230, undef), (24, 231, undef), (25, 232, undef), (26, 233, undef), (27, 234, undef), (28, 235, undef), (29, 236, undef), (30, 237, undef), (31, 238, .bool true), (32, 239, .bool true), (33, 240, undef), (34, 241, undef), (35, 242, undef), (36, 243, undef), (37, 244, undef), (38, 245, undef), (39, 246, undef), (40, 247, undef), (41, 248, undef), (42, 249, undef), (43, 250, undef), (44, 251, undef), (45, 252, undef), (46, 253, undef), (47, 254, undef), (48, 255, undef), (49, 256, undef), (50, 257, undef), (51, 258, .bool true), (52, 259, .bool true), (53, 260, undef), (54, 261, undef), (55, 262, undef), (56, 263, undef), (57, 264, undef), (58, 265, undef), (59, 266, undef), (60, 267, undef), (61, 268, undef), (62, 269, undef), (63, 270, undef), (64, 271, .bool true)]) rfl S ?_
  refine node_by (A := anc_raddlelaw27_LoopsOnce_2) 65 (by kernel_rfl) (by kernel_rfl) (by kernel_rfl) (by kernel_rfl) (by kernel_rfl) [0, 1, 2, 3, 4, 5, 6, 7, 8, 9, 10, 11, 12, 13, 14, 15, 16, 17, 18, 19, 20, 21, 22, 23, 24, 25, 26, 27, 28, 29, 30, 31, 32, 33, 34, 35, 36, 37, 38, 39, 40, 41, 42, 43, 44, 45, 46, 47, 48, 49, 50, 51, 52, 53, 54, 55, 56, 57, 58, 59, 60, 61, 62, 63, 64] (by kernel_rfl) (by decide) (by decide) (fF ?_ (fF ?_ (fF ?_ (fF ?_ (fF ?_ (fF ?_ (fF ?_ (fF ?_ (fF ?_ (fF ?_ (fF ?_ (fF ?_ (fF ?_ (fF ?_ (fF ?_ (fF ?_ (fF ?_ (fF ?_ (fF ?_ (fF ?_ (fF ?_ (fF ?_ (fF ?_ (fF ?_ (fF ?_ (fF ?_ (fF ?_ (fF ?_ (fF ?_ (fF ?_ (fF ?_ (fF ?_ (fF ?_ (fF ?_ (fF ?_ (fF ?_ (fF ?_ (fF ?_ (fF ?_ (fF ?_ (fF ?_ (fF ?_ (fF ?_ (fF ?_ (fF ?_ (fF ?_ (fF ?_ (fF ?_ (fF ?_ (fF ?_ (fF ?_ (fF ?_ (fF ?_ (fF ?_ (fF ?_ (fF ?_ (fF ?_ (fF ?_ (fF ?_ (fF ?_ (fF ?_ (fF ?_ (fF ?_ (fF ?_ (fF ?_ (trivial)))))))))))))))))))))))))))))))))))))))))))))))))))))))))))))))))) [(1, .pointer (some ⟨b6, 0, none⟩)), (3, .bool r8), (4, .slice a9 ab.1.length aa), (6, .slice ai ao.1.length aj), (17, iv aA), (18, iv aK), (19, .slice a0 a5.1.length a4), (21, iv a7), (213, .slice a0 a5.1.length a4), (214, iv a7), (215, bP), (216, iv a6), (217, .slice a9 ab.1.length aa), (218, iv (ab.1.length : Int)), (219, .bool (decide ((ab.1.length : Int) ≤ a6))), (222, .slice a0 a5.1.length a4), (223, iv a7), (224, iv (w64 (a7 - 1))), (225, bQ), (226, iv a8), (227, .bool (decide (a8 < 0))), (230, undef), (231, undef), (232, undef), (233, undef), (234, undef), (235, undef), (236, undef), (237, undef), (240, undef), (241, undef), (242, undef), (243, undef), (244, undef), (245, undef), (246, undef), (247, undef), (248, undef), (249, undef), (250, undef), (251, undef), (252, undef), (253, undef), (254, undef), (255, undef), (256, undef), (257, undef), (260, undef), (261, undef), (262, undef), (263, undef), (264, undef), (265, undef), (266, undef), (267, undef), (268, undef), (269, undef), (270, undef), (271, .bool true)] (fin_of [none, none, none, none, none, none, none, none, some 6, some 7, some 8, some 9, some 10, some 11, some 12, some 15, some 16, some 17, some 18, some 19, some 20, some 23, some 24, some 25, some 26, some 27, some 28, some 29, some 30, some 33, some 34, some 35, some 36, some 37, some 38, some 39, some 40, some 41, some 42, some 43, some 44, some 45, some 46, some 47, some 48, some 49, some 50, some 53, some 54, some 55, some 56, some 57, some 58, some 59, some 60, some 61, some 62, some 63, some 64] rfl (by kernel_rfl) (by kernel_rfl)) (fun _ a w S => ?_)
  ·exact fM 0 none rfl rfl rfl rfl (.inl rfl) rfl rfl rfl
  ·exact fM 1 none rfl rfl rfl rfl (.inl rfl) rfl rfl rfl
  ·refine fJ [(207, _), (208, _)] 2 [some 0, some 1] fun G a w S => ?_
   exact sIdxV S (wN rfl) rfl rfl rfl e0 rfl (lb rfl) fun a S => leafL ⟨rfl, S⟩
  ·refine fJ [(209, _)] 3 [some 2] fun G a w S => ?_
   exact sLoadV1 (vq := cF) 6 (iv a6) S (wN rfl) rfl rfl rfl rfl rfl (lb rfl) fun a S => leafL ⟨rfl, S⟩
  ·refine fJ [(210, _)] 4 [some 3] fun G a w S => ?_
   exact sBin _ S (wN rfl) rfl rfl rfl (bLt _ _ _ _ .i64 a6 0) rfl (lb rfl) fun a S => leafL ⟨rfl, S⟩
  ·exact fM 5 (some 4) rfl rfl rfl rfl (.inl rfl) rfl rfl rfl
  ·refine fJ [(19, _), (212, _)] 6 [none, some 5] fun G a w S => ?_
   exact sMove (.slice a0 a5.1.length a4) S (wG 5 false 212 rfl rfl rfl af) (.inl rfl) rfl rfl (lb rfl) fun a S => leafL ⟨rfl, S⟩
  ·refine fJ [(21, _), (212, _)] 7 [none, some 5] fun G a w S => ?_
   exact sMove (iv a7) S (wG 5 false 212 rfl rfl rfl af) (.inl rfl) rfl rfl (lb rfl) fun a S => leafL ⟨rfl, S⟩
  ·refine fJ [(213, _), (214, _), (212, _)] 8 [some 6, some 7, some 5] fun G a w S => ?_
   exact sIdxV S (wG 5 false 212 rfl rfl rfl af) rfl rfl rfl e5 rfl (lb rfl) fun a S => leafL ⟨rfl, S⟩
  ·refine fJ [(215, _), (212, _)] 9 [some 8, some 5] fun G a w S => ?_
   exact sLoadV1 (vq := bP) 3 (iv a6) S (wG 5 false 212 rfl rfl rfl af) rfl rfl rfl rfl rfl (lb rfl) fun a S => leafL ⟨rfl, S⟩
  ·refine fJ [(4, _), (212, _)] 10 [none, some 5] fun G a w S => ?_
   exact sMove (.slice a9 ab.1.length aa) S (wG 5 false 212 rfl rfl rfl af) (.inl rfl) rfl rfl (lb rfl) fun a S => leafL ⟨rfl, S⟩
  ·refine fJ [(217, _), (212, _)] 11 [some 10, some 5] fun G a w S => ?_
   exact sLen S (wG 5 false 212 rfl rfl rfl af) rfl Try.underlying26 rfl rfl (lb rfl) fun a S => leafL ⟨rfl, S⟩
  ·refine fJ [(216, _), (218, _), (212, _)] 12 [some 9, some 11, some 5] fun G a w S => ?_
   exact sBin _ S (wG 5 false 212 rfl rfl rfl af) rfl rfl rfl (bGe _ _ _ _ .i64 a6 (ab.1.length : Int)) rfl (lb rfl) fun a S => leafL ⟨rfl, S⟩
  ·refine fJ [(212, _), (219, _)] 13 [some 5, some 12] fun G a w S => ?_
   exact sPickF (.bool (decide ((ab.1.length : Int) ≤ a6))) S (wN rfl) rfl rfl af rfl rfl (lb rfl) fun a S => leafL ⟨rfl, S⟩
  ·exact fM 14 (some 13) rfl rfl rfl rfl (.inl rfl) rfl rfl rfl
  ·refine fJ [(19, _), (221, _)] 15 [none, some 14] fun G a w S => ?_
   exact sMove (.slice a0 a5.1.length a4) S (wG 14 false 221 rfl rfl rfl ah) (.inl rfl) rfl rfl (lb rfl) fun a S => leafL ⟨rfl, S⟩
  ·refine fJ [(21, _), (221, _)] 16 [none, some 14] fun G a w S => ?_
   exact sMove (iv a7) S (wG 14 false 221 rfl rfl rfl ah) (.inl rfl) rfl rfl (lb rfl) fun a S => leafL ⟨rfl, S⟩
  ·refine fJ [(223, _), (221, _)] 17 [some 16, some 14] fun G a w S => ?_
   exact sBin _ S (wG 14 false 221 rfl rfl rfl ah) rfl rfl rfl (bSub _ _ _ _ a7 1) rfl (lb rfl) fun a S => leafL ⟨rfl, S⟩
  ·refine fJ [(222, _), (224, _), (221, _)] 18 [some 15, some 17, some 14] fun G a w S => ?_
   exact sIdxV S (wG 14 false 221 rfl rfl rfl ah) rfl rfl rfl e7 rfl (lb rfl) fun a S => leafL ⟨rfl, S⟩
  ·refine fJ [(225, _), (221, _)] 19 [some 18, some 14] fun G a w S => ?_
   exact sLoadV1 (vq := bQ) 0 (iv a8) S (wG 14 false 221 rfl rfl rfl ah) rfl rfl rfl rfl rfl (lb rfl) fun a S => leafL ⟨rfl, S⟩
  ·refine fJ [(226, _), (221, _)] 20 [some 19, some 14] fun G a w S => ?_
   exact sBin _ S (wG 14 false 221 rfl rfl rfl ah) rfl rfl rfl (bLt _ _ _ _ .i64 a8 0) rfl (lb rfl) fun a S => leafL ⟨rfl, S⟩
  ·refine fJ [(221, _), (227, _)] 21 [some 14, some 20] fun G a w S => ?_
   exact sPickF (.bool (decide (a8 < 0))) S (wN rfl) rfl rfl ah rfl rfl (lb rfl) fun a S => leafL ⟨rfl, S⟩
  ·exact fM 22 (some 21) rfl rfl rfl rfl (.inl rfl) rfl rfl rfl
  ·refine fJ [(19, _), (229, _)] 23 [none, some 22] fun G a w S => ?_
   exact sSk S rfl rfl rfl ag rfl rfl fun a S => leafL ⟨rfl, S⟩
  ·refine fJ [(21, _), (229, _)] 24 [none, some 22] fun G a w S => ?_
   exact sSk S rfl rfl rfl ag rfl rfl fun a S => leafL ⟨rfl, S⟩
  ·refine fJ [(231, _), (229, _)] 25 [some 24, some 22] fun G a w S => ?_
   exact sSk S rfl rfl rfl ag rfl rfl fun a S => leafL ⟨rfl, S⟩
  ·refine fJ [(230, _), (232, _), (229, _)] 26 [some 23, some 25, some 22] fun G a w S => ?_
   exact sSk S rfl rfl rfl ag rfl rfl fun a S => leafL ⟨rfl, S⟩
  ·refine fJ [(233, _), (229, _)] 27 [some 26, some 22] fun G a w S => ?_
   exact sSk S rfl rfl rfl ag rfl rfl fun a S => leafL ⟨rfl, S⟩
  ·refine fJ [(4, _), (229, _)] 28 [none, some 22] fun G a w S => ?_
   exact sSk S rfl rfl rfl ag rfl rfl fun a S => leafL ⟨rfl, S⟩
  ·refine fJ [(235, _), (229, _)] 29 [some 28, some 22] fun G a w S => ?_
   exact sSk S rfl rfl rfl ag rfl rfl fun a S => leafL ⟨rfl, S⟩
  ·refine fJ [(234, _), (236, _), (229, _)] 30 [some 27, some 29, some 22] fun G a w S => ?_
   exact sSk S rfl rfl rfl ag rfl rfl fun a S => leafL ⟨rfl, S⟩
  ·refine fJ [(229, _), (237, _)] 31 [some 22, some 30] fun G a w S => ?_
   exact sPickT (.bool true) S (wN rfl) rfl rfl ag rfl rfl (lb rfl) fun a S => leafL ⟨rfl, S⟩
  ·exact fM 32 (some 31) rfl rfl rfl rfl (.inl rfl) rfl rfl rfl
  ·refine fJ [(4, _), (239, _)] 33 [none, some 32] fun G a w S => ?_
   exact sSk S rfl rfl rfl rfl rfl rfl fun a S => leafL ⟨rfl, S⟩
  ·refine fJ [(19, _), (239, _)] 34 [none, some 32] fun G a w S => ?_
   exact sSk S rfl rfl rfl rfl rfl rfl fun a S => leafL ⟨rfl, S⟩
  ·refine fJ [(21, _), (239, _)] 35 [none, some 32] fun G a w S => ?_
   exact sSk S rfl rfl rfl rfl rfl rfl fun a S => leafL ⟨rfl, S⟩
  ·refine fJ [(241, _), (242, _), (239, _)] 36 [some 34, some 35, some 32] fun G a w S => ?_
   exact sSk S rfl rfl rfl rfl rfl rfl fun a S => leafL ⟨rfl, S⟩
  ·refine fJ [(243, _), (239, _)] 37 [some 36, some 32] fun G a w S => ?_
   exact sSk S rfl rfl rfl rfl rfl rfl fun a S => leafL ⟨rfl, S⟩
  ·refine fJ [(240, _), (244, _), (239, _)] 38 [some 33, some 37, some 32] fun G a w S => ?_
   exact sSk S rfl rfl rfl rfl rfl rfl fun a S => leafL ⟨rfl, S⟩
  ·refine fJ [(245, _), (239, _)] 39 [some 38, some 32] fun G a w S => ?_
   exact sSk S rfl rfl rfl rfl rfl rfl fun a S => leafL ⟨rfl, S⟩
  ·refine fJ [(246, _), (239, _)] 40 [some 39, some 32] fun G a w S => ?_
   exact sSk S rfl rfl rfl rfl rfl rfl fun a S => leafL ⟨rfl, S⟩
  ·refine fJ [(4, _), (239, _)] 41 [none, some 32] fun G a w S => ?_
   exact sSk S rfl rfl rfl rfl rfl rfl fun a S => leafL ⟨rfl, S⟩
  ·refine fJ [(19, _), (239, _)] 42 [none, some 32] fun G a w S => ?_
   exact sSk S rfl rfl rfl rfl rfl rfl fun a S => leafL ⟨rfl, S⟩
  ·refine fJ [(21, _), (239, _)] 43 [none, some 32] fun G a w S => ?_
   exact sSk S rfl rfl rfl rfl rfl rfl fun a S => leafL ⟨rfl, S⟩
  ·refine fJ [(250, _), (239, _)] 44 [some 43, some 32] fun G a w S => ?_
   exact sSk S rfl rfl rfl rfl rfl rfl fun a S => leafL ⟨rfl, S⟩
  ·refine fJ [(249, _), (251, _), (239, _)] 45 [some 42, some 44, some 32] fun G a w S => ?_
   exact sSk S rfl rfl rfl rfl rfl rfl fun a S => leafL ⟨rfl, S⟩
  ·refine fJ [(252, _), (239, _)] 46 [some 45, some 32] fun G a w S => ?_
   exact sSk S rfl rfl rfl rfl rfl rfl fun a S => leafL ⟨rfl, S⟩
  ·refine fJ [(248, _), (253, _), (239, _)] 47 [some 41, some 46, some 32] fun G a w S => ?_
   exact sSk S rfl rfl rfl rfl rfl rfl fun a S => leafL ⟨rfl, S⟩
  ·refine fJ [(254, _), (239, _)] 48 [some 47, some 32] fun G a w S => ?_
   exact sSk S rfl rfl rfl rfl rfl rfl fun a S => leafL ⟨rfl, S⟩
  ·refine fJ [(255, _), (239, _)] 49 [some 48, some 32] fun G a w S => ?_
   exact sSk S rfl rfl rfl rfl rfl rfl fun a S => leafL ⟨rfl, S⟩
  ·refine fJ [(247, _), (256, _), (239, _)] 50 [some 40, some 49, some 32] fun G a w S => ?_
   exact sSk S rfl rfl rfl rfl rfl rfl fun a S => leafL ⟨rfl, S⟩
  ·refine fJ [(239, _), (257, _)] 51 [some 32, some 50] fun G a w S => ?_
   exact sPickT (.bool true) S (wN rfl) rfl rfl rfl rfl rfl (lb rfl) fun a S => leafL ⟨rfl, S⟩
  ·exact fM 52 (some 51) rfl rfl rfl rfl (.inl rfl) rfl rfl rfl
  ·refine fJ [(19, _), (259, _)] 53 [none, some 52] fun G a w S => ?_
   exact sSk S rfl rfl rfl rfl rfl rfl fun a S => leafL ⟨rfl, S⟩
  ·refine fJ [(21, _), (259, _)] 54 [none, some 52] fun G a w S => ?_
   exact sSk S rfl rfl rfl rfl rfl rfl fun a S => leafL ⟨rfl, S⟩
  ·refine fJ [(260, _), (261, _), (259, _)] 55 [some 53, some 54, some 52] fun G a w S => ?_
   exact sSk S rfl rfl rfl rfl rfl rfl fun a S => leafL ⟨rfl, S⟩
  ·refine fJ [(262, _), (259, _)] 56 [some 55, some 52] fun G a w S => ?_
   exact sSk S rfl rfl rfl rfl rfl rfl fun a S => leafL ⟨rfl, S⟩
  ·refine fJ [(19, _), (259, _)] 57 [none, some 52] fun G a w S => ?_
   exact sSk S rfl rfl rfl rfl rfl rfl fun a S => leafL ⟨rfl, S⟩
  ·refine fJ [(21, _), (259, _)] 58 [none, some 52] fun G a w S => ?_
   exact sSk S rfl rfl rfl rfl rfl rfl fun a S => leafL ⟨rfl, S⟩
  ·refine fJ [(265, _), (259, _)] 59 [some 58, some 52] fun G a w S => ?_
   exact sSk S rfl rfl rfl rfl rfl rfl fun a S => leafL ⟨rfl, S⟩
  ·refine fJ [(264, _), (266, _), (259, _)] 60 [some 57, some 59, some 52] fun G a w S => ?_
   exact sSk S rfl rfl rfl rfl rfl rfl fun a S => leafL ⟨rfl, S⟩
  ·refine fJ [(267, _), (259, _)] 61 [some 60, some 52] fun G a w S => ?_
   exact sSk S rfl rfl rfl rfl rfl rfl fun a S => leafL ⟨rfl, S⟩
  ·refine fJ [(268, _), (259, _)] 62 [some 61, some 52] fun G a w S => ?_
   exact sSk S rfl rfl rfl rfl rfl rfl fun a S => leafL ⟨rfl, S⟩
  ·refine fJ [(263, _), (269, _), (259, _)] 63 [some 56, some 62, some 52] fun G a w S => ?_
   exact sSk S rfl rfl rfl rfl rfl rfl fun a S => leafL ⟨rfl, S⟩
  ·refine fJ [(259, _), (270, _)] 64 [some 52, some 63] fun G a w S => ?_
   exact sPickT (.bool true) S (wN rfl) rfl rfl rfl rfl rfl (lb rfl) fun a S => leafL ⟨rfl, S⟩
  exact leafT (⟨true, Option.some.inj h, S.fix [0] [9, 10, 11, 12] (by decide) rfl rfl rfl⟩)
 rcases iS h with ⟨ac, h⟩ | ⟨ac, h⟩
 ·obtain ⟨cG, eb, S⟩ := pIdx (P := Try.prog) (r := (rI .i64)) (v := .slice a0 a5.1.length a4) (xs := a5.1) (j := a7) 32 3 2 S Try.underlying32 rfl rfl aG
  obtain ⟨ec, S⟩ := pLoad (r := (rI .i64)) (q := cG) (x := a6) 0 S rfl
  obtain rfl : ec = iv a6 := S.mem.know (i := 1) (e := fRep (rI .i64) (ec) a6) rfl
  obtain ⟨bR, ed, S⟩ := pIdx (P := Try.prog) (r := (rI .i64)) (v := .slice a0 a5.1.length a4) (xs := a5.1) (j := a7) 32 3 5 S Try.underlying32 rfl rfl aG
  obtain ⟨ee, S⟩ := pLoad (r := (rI .i64)) (q := bR) (x := a6) 0 S rfl
  obtain rfl : ee = iv a6 := S.mem.know (i := 1) (e := fRep (rI .i64) (ee) a6) rfl
  obtain ⟨bU, ef, S⟩ := pIdx (P := Try.prog) (r := (rI .i64)) (v := .slice a0 a5.1.length a4) (xs := a5.1) (j := w64 (a7 - 1)) 32 3 8 S Try.underlying32 rfl rfl aJ
  obtain ⟨eh, S⟩ := pLoad (r := (rI .i64)) (q := bU) (x := a8) 0 S rfl
  obtain rfl : eh = iv a8 := S.mem.know (i := 1) (e := fRep (rI .i64) (eh) a8) rfl
  obtain ⟨bV, ei, S⟩ := pIdx (P := Try.prog) (r := (rI .i64)) (v := .slice a0 a5.1.length a4) (xs := a5.1) (j := w64 (a7 - 1)) 32 3 11 S Try.underlying32 rfl rfl aJ
  obtain ⟨ej, S⟩ := pLoad (r := (rI .i64)) (q := bV) (x := a8) 0 S rfl
  obtain rfl : ej = iv a8 := S.mem.know (i := 1) (e := fRep (rI .i64) (ej) a8) rfl
  refine sDraw (nf := []) (W := [(0, 207, .slice a0 a5.1.length a4), (1, 208, iv a7), (2, 209, cG), (3, 210, iv a6), (4, 211, .bool (decide (a6 < 0))), (5, 212, .bool (decide (a6 < 0))), (6, 213, .slice a0 a5.1.length a4), (7, 214, iv a7), (8, 215, bR), (9, 216, iv a6), (10, 217, .slice a9 ab.1.length aa), (11, 218, iv (ab.1.length : Int)), (12, 219, .bool (decide ((ab.1.length : Int) ≤ a6))), (13, 220, .bool (decide ((ab.1.length : Int) ≤ a6))), (14, 221, .bool (decide ((ab.1.length : Int) ≤ a6))), (15, 222, .slice a0 a5.1.length a4), (16, 223, iv a7), (17, 224, iv (w64 (a7 - 1))), (18, 225, bU), (19, 226, iv a8), (20, 227, .bool (decide (a8 < 0))), (21, 228, .bool (decide (a8 < 0))), (22, 229, .bool (decide (a8 < 0))), (23, 230, .slice a0 a5.1.length a4), (24, 231, iv a7), (25, 232, iv (w64 (a7 - 1))), (26, 233, bV), (27, 234, iv a8), (28, 235, .slice a9 ab.1.length aa), (29, 236, iv (ab.1.length : Int)), (30, 237, .bool (decide ((ab.1.length : Int) ≤ a8))), (31, 238, .bool (decide ((ab.1.length : Int) ≤ a8))), (32, 239, .bool (decide ((ab.1.length : Int) ≤ a8))), (33, 240, undef), (34, 241, undef), (35, 242, undef), (36, 243, undef), (37, 244, undef), (38, 245, undef), (39, 246, undef), (40, 247, undef), (41, 248, undef), (42, 249, undef), (43, 250, undef), (44, 251, undef), (45, 252, undef), (46, 253, undef), (47, 254, undef), (48, 255, undef), (49, 256, undef), (50, 257, undef), (51, 258, .bool true), (52, 259, .bool true), (53, 260, undef), (54, 261, undef), (55, 262, undef), (56, 263, undef), (57, 264, undef), (58, 265, undef), (59, 266, undef), (60, 267, undef), (61, 268, undef), (62, 269, undef), (63, 270, undef), (64, 271, .bool true)]) rfl S ?_
  refine node_by (A := anc_raddlelaw27_LoopsOnce_2) 65 (by kernel_rfl) (by kernel_rfl) (by kernel_rfl) (by kernel_rfl) (by kernel_rfl) [0, 1, 2, 3, 4, 5, 6, 7, 8, 9, 10, 11, 12, 13, 14, 15, 16, 17, 18, 19, 20, 21, 22, 23, 24, 25, 26, 27, 28, 29, 30, 31, 32, 33, 34, 35, 36, 37, 38, 39, 40, 41, 42, 43, 44, 45, 46, 47, 48, 49, 50, 51, 52, 53, 54, 55, 56, 57, 58, 59, 60, 61, 62, 63, 64] (by kernel_rfl) (by decide) (by decide) (fF ?_ (fF ?_ (fF ?_ (fF ?_ (fF ?_ (fF ?_ (fF ?_ (fF ?_ (fF ?_ (fF ?_ (fF ?_ (fF ?_ (fF ?_ (fF ?_ (fF ?_ (fF ?_ (fF ?_ (fF ?_ (fF ?_ (fF ?_ (fF ?_ (fF ?_ (fF ?_ (fF ?_ (fF ?_ (fF ?_ (fF ?_ (fF ?_ (fF ?_ (fF ?_ (fF ?_ (fF ?_ (fF ?_ (fF ?_ (fF ?_ (fF ?_ (fF ?_ (fF ?_ (fF ?_ (fF ?_ (fF ?_ (fF ?_ (fF ?_ (fF ?_ (fF ?_ (fF ?_ (fF ?_ (fF ?_ (fF ?_ (fF ?_ (fF ?_ (fF ?_ (fF ?_ (fF ?_ (fF ?_ (fF ?_ (fF ?_ (fF ?_ (fF ?_ (fF ?_ (fF ?_ (fF ?_ (fF ?_ (fF ?_ (fF ?_ (trivial)))))))))))))))))))))))))))))))))))))))))))))))))))))))))))))))))) [(1, .pointer (some ⟨b6, 0, none⟩)), (3, .bool r8), (4, .slice a9 ab.1.length aa), (6, .slice ai ao.1.length aj), (17, iv aA), (18, iv aK), (19, .slice a0 a5.1.length a4), (21, iv a7), (213, .slice a0 a5.1.length a4), (214, iv a7), (215, bR), (216, iv a6), (217, .slice a9 ab.1.length aa), (218, iv (ab.1.length : Int)), (219, .bool (decide ((ab.1.length : Int) ≤ a6))), (222, .slice a0 a5.1.length a4), (223, iv a7), (224, iv (w64 (a7 - 1))), (225, bU), (226, iv a8), (227, .bool (decide (a8 < 0))), (230, .slice a0 a5.1.length a4), (231, iv a7), (232, iv (w64 (a7 - 1))), (233, bV), (234, iv a8), (235, .slice a9 ab.1.length aa), (236, iv (ab.1.length : Int)), (237, .bool (decide ((ab.1.length : Int) ≤ a8))), (240, undef), (241, undef), (242, undef), (243, undef), (244, undef), (245, undef), (246, undef), (247, undef), (248, undef), (249, undef), (250, undef), (251, undef), (252, undef), (253, undef), (254, undef), (255, undef), (256, undef), (257, undef), (260, undef), (261, undef), (262, undef), (263, undef), (264, undef), (265, undef), (266, undef), (267, undef), (268, undef), (269, undef), (270, undef), (271, .bool true)] (fin_of [none, none, none, none, none, none, none, none, some 6, some 7, some 8, some 9, some 10, some 11, some 12, some 15, some 16, some 17, some 18, some 19, some 20, some 23, some 24, some 25, some 26, some 27, some 28, some 29, some 30, some 33, some 34, some 35, some 36, some 37, some 38, some 39, some 40, some 41, some 42, some 43, some 44, some 45, some 46, some 47, some 48, some 49, some 50, some 53, some 54, some 55, some 56, some 57, some 58, some 59, some 60, some 61, some 62, some 63, some 64] rfl (by kernel_rfl) (by kernel_rfl)) (fun _ a w S => ?_)
  ·exact fM 0 none rfl rfl rfl rfl (.inl rfl) rfl rfl rfl
  ·exact fM 1 none rfl rfl rfl rfl (.inl rfl) rfl rfl rfl
  ·refine fJ [(207, _), (208, _)] 2 [some 0, some 1] fun G a w S => ?_
   exact sIdxV S (wN rfl) rfl rfl rfl eb rfl (lb rfl) fun a S => leafL ⟨rfl, S⟩
  ·refine fJ [(209, _)] 3 [some 2] fun G a w S => ?_
   exact sLoadV1 (vq := cG) 9 (iv a6) S (wN rfl) rfl rfl rfl rfl rfl (lb rfl) fun a S => leafL ⟨rfl, S⟩
  ·refine fJ [(210, _)] 4 [some 3] fun G a w S => ?_
   exact sBin _ S (wN rfl) rfl rfl rfl (bLt _ _ _ _ .i64 a6 0) rfl (lb rfl) fun a S => leafL ⟨rfl, S⟩
  ·exact fM 5 (some 4) rfl rfl rfl rfl (.inl rfl) rfl rfl rfl
  ·refine fJ [(19, _), (212, _)] 6 [none, some 5] fun G a w S => ?_
   exact sMove (.slice a0 a5.1.length a4) S (wG 5 false 212 rfl rfl rfl af) (.inl rfl) rfl rfl (lb rfl) fun a S => leafL ⟨rfl, S⟩
  ·refine fJ [(21, _), (212, _)] 7 [none, some 5] fun G a w S => ?_
   exact sMove (iv a7) S (wG 5 false 212 rfl rfl rfl af) (.inl rfl) rfl rfl (lb rfl) fun a S => leafL ⟨rfl, S⟩
  ·refine fJ [(213, _), (214, _), (212, _)] 8 [some 6, some 7, some 5] fun G a w S => ?_
   exact sIdxV S (wG 5 false 212 rfl rfl rfl af) rfl rfl rfl ed rfl (lb rfl) fun a S => leafL ⟨rfl, S⟩
  ·refine fJ [(215, _), (212, _)] 9 [some 8, some 5] fun G a w S => ?_
   exact sLoadV1 (vq := bR) 6 (iv a6) S (wG 5 false 212 rfl rfl rfl af) rfl rfl rfl rfl rfl (lb rfl) fun a S => leafL ⟨rfl, S⟩
  ·refine fJ [(4, _), (212, _)] 10 [none, some 5] fun G a w S => ?_
   exact sMove (.slice a9 ab.1.length aa) S (wG 5 false 212 rfl rfl rfl af) (.inl rfl) rfl rfl (lb rfl) fun a S => leafL ⟨rfl, S⟩
  ·refine fJ [(217, _), (212, _)] 11 [some 10, some 5] fun G a w S => ?_
   exact sLen S (wG 5 false 212 rfl rfl rfl af) rfl Try.underlying26 rfl rfl (lb rfl) fun a S => leafL ⟨rfl, S⟩
  ·refine fJ [(216, _), (218, _), (212, _)] 12 [some 9, some 11, some 5] fun G a w S => ?_
   exact sBin _ S (wG 5 false 212 rfl rfl rfl af) rfl rfl rfl (bGe _ _ _ _ .i64 a6 (ab.1.length : Int)) rfl (lb rfl) fun a S => leafL ⟨rfl, S⟩
  ·refine fJ [(212, _), (219, _)] 13 [some 5, some 12] fun G a w S => ?_
   exact sPickF (.bool (decide ((ab.1.length : Int) ≤ a6))) S (wN rfl) rfl rfl af rfl rfl (lb rfl) fun a S => leafL ⟨rfl, S⟩
  ·exact fM 14 (some 13) rfl rfl rfl rfl (.inl rfl) rfl rfl rfl
  ·refine fJ [(19, _), (221, _)] 15 [none, some 14] fun G a w S => ?_
   exact sMove (.slice a0 a5.1.length a4) S (wG 14 false 221 rfl rfl rfl ah) (.inl rfl) rfl rfl (lb rfl) fun a S => leafL ⟨rfl, S⟩
  ·refine fJ [(21, _), (221, _)] 16 [none, some 14] fun G a w S => ?_
   exact sMove (iv a7) S (wG 14 false 221 rfl rfl rfl ah) (.inl rfl) rfl rfl (lb rfl) fun a S => leafL ⟨rfl, S⟩
  ·refine fJ [(223, _), (221, _)] 17 [some 16, some 14] fun G a w S => ?_
   exact sBin _ S (wG 14 false 221 rfl rfl rfl ah) rfl rfl rfl (bSub _ _ _ _ a7 1) rfl (lb rfl) fun a S => leafL ⟨rfl, S⟩
  ·refine fJ [(222, _), (224, _), (221, _)] 18 [some 15, some 17, some 14] fun G a w S => ?_
   exact sIdxV S (wG 14 false 221 rfl rfl rfl ah) rfl rfl rfl ef rfl (lb rfl) fun a S => leafL ⟨rfl, S⟩
  ·refine fJ [(225, _), (221, _)] 19 [some 18, some 14] fun G a w S => ?_
   exact sLoadV1 (vq := bU) 3 (iv a8) S (wG 14 false 221 rfl rfl rfl ah) rfl rfl rfl rfl rfl (lb rfl) fun a S => leafL ⟨rfl, S⟩
  ·refine fJ [(226, _), (221, _)] 20 [some 19, some 14] fun G a w S => ?_
   exact sBin _ S (wG 14 false 221 rfl rfl rfl ah) rfl rfl rfl (bLt _ _ _ _ .i64 a8 0) rfl (lb rfl) fun a S => leafL ⟨rfl, S⟩
  ·refine fJ [(221, _), (227, _)] 21 [some 14, some 20] fun G a w S => ?_
   exact sPickF (.bool (decide (a8 < 0))) S (wN rfl) rfl rfl ah rfl rfl (lb rfl) fun a S => leafL ⟨rfl, S⟩
  ·exact fM 22 (some 21) rfl rfl rfl rfl (.inl rfl) rfl rfl rfl
  ·refine fJ [(19, _), (229, _)] 23 [none, some 22] fun G a w S => ?_
   exact sMove (.slice a0 a5.1.length a4) S (wG 22 false 229 rfl rfl rfl ag) (.inl rfl) rfl rfl (lb rfl) fun a S => leafL ⟨rfl, S⟩
  ·refine fJ [(21, _), (229, _)] 24 [none, some 22] fun G a w S => ?_
   exact sMove (iv a7) S (wG 22 false 229 rfl rfl rfl ag) (.inl rfl) rfl rfl (lb rfl) fun a S => leafL ⟨rfl, S⟩
  ·refine fJ [(231, _), (229, _)] 25 [some 24, some 22] fun G a w S => ?_
   exact sBin _ S (wG 22 false 229 rfl rfl rfl ag) rfl rfl rfl (bSub _ _ _ _ a7 1) rfl (lb rfl) fun a S => leafL ⟨rfl, S⟩
  ·refine fJ [(230, _), (232, _), (229, _)] 26 [some 23, some 25, some 22] fun G a w S => ?_
   exact sIdxV S (wG 22 false 229 rfl rfl rfl ag) rfl rfl rfl ei rfl (lb rfl) fun a S => leafL ⟨rfl, S⟩
  ·refine fJ [(233, _), (229, _)] 27 [some 26, some 22] fun G a w S => ?_
   exact sLoadV1 (vq := bV) 0 (iv a8) S (wG 22 false 229 rfl rfl rfl ag) rfl rfl rfl rfl rfl (lb rfl) fun a S => leafL ⟨rfl, S⟩
  ·refine fJ [(4, _), (229, _)] 28 [none, some 22] fun G a w S => ?_
   exact sMove (.slice a9 ab.1.length aa) S (wG 22 false 229 rfl rfl rfl ag) (.inl rfl) rfl rfl (lb rfl) fun a S => leafL ⟨rfl, S⟩
  ·refine fJ [(235, _), (229, _)] 29 [some 28, some 22] fun G a w S => ?_
   exact sLen S (wG 22 false 229 rfl rfl rfl ag) rfl Try.underlying26 rfl rfl (lb rfl) fun a S => leafL ⟨rfl, S⟩
  ·refine fJ [(234, _), (236, _), (229, _)] 30 [some 27, some 29, some 22] fun G a w S => ?_
   exact sBin _ S (wG 22 false 229 rfl rfl rfl ag) rfl rfl rfl (bGe _ _ _ _ .i64 a8 (ab.1.length : Int)) rfl (lb rfl) fun a S => leafL ⟨rfl, S⟩
  ·refine fJ [(229, _), (237, _)] 31 [some 22, some 30] fun G a w S => ?_
   exact sPickF (.bool (decide ((ab.1.length : Int) ≤ a8))) S (wN rfl) rfl rfl ag rfl rfl (lb rfl) fun a S => leafL ⟨rfl, S⟩
  ·exact fM 32 (some 31) rfl rfl rfl rfl (.inl rfl) rfl rfl rfl
  ·refine fJ [(4, _), (239, _)] 33 [none, some 32] fun G a w S => ?_
   exact sSk S rfl rfl rfl ac rfl rfl fun a S => leafL ⟨rfl, S⟩
  ·refine fJ [(19, _), (239, _)] 34 [none, some 32] fun G a w S => ?_
   exact sSk S rfl rfl rfl ac rfl rfl fun a S => leafL ⟨rfl, S⟩
  ·refine fJ [(21, _), (239, _)] 35 [none, some 32] fun G a w S => ?_
   exact sSk S rfl rfl rfl ac rfl rfl fun a S => leafL ⟨rfl, S⟩
  ·refine fJ [(241, _), (242, _), (239, _)] 36 [some 34, some 35, some 32] fun G a w S => ?_
   exact sSk S rfl rfl rfl ac rfl rfl fun a S => leafL ⟨rfl, S⟩
  ·refine fJ [(243, _), (239, _)] 37 [some 36, some 32] fun G a w S => ?_
   exact sSk S rfl rfl rfl ac rfl rfl fun a S => leafL ⟨rfl, S⟩
  ·refine fJ [(240, _), (244, _), (239, _)] 38 [some 33, some 37, some 32] fun G a w S => ?_
   exact sSk S rfl rfl rfl ac rfl rfl fun a S => leafL ⟨rfl, S⟩
  ·refine fJ [(245, _), (239, _)] 39 [some 38, some 32] fun G a w S => ?_
   exact sSk S rfl rfl rfl ac rfl rfl fun a S => leafL ⟨rfl, S⟩
  ·refine fJ [(246, _), (239, _)] 40 [some 39, some 32] fun G a w S => ?_
   exact sSk S rfl rfl rfl ac rfl rfl fun a S => leafL ⟨rfl, S⟩
  ·refine fJ [(4, _), (239, _)] 41 [none, some 32] fun G a w S => ?_
   exact sSk S rfl rfl rfl ac rfl rfl fun a S => leafL ⟨rfl, S⟩
  ·refine fJ [(19, _), (239, _)] 42 [none, some 32] fun G a w S => ?_
   exact sSk S rfl rfl rfl ac rfl rfl fun a S => leafL ⟨rfl, S⟩
  ·refine fJ [(21, _), (239, _)] 43 [none, some 32] fun G a w S => ?_
   exact sSk S rfl rfl rfl ac rfl rfl fun a S => leafL ⟨rfl, S⟩
  ·refine fJ [(250, _), (239, _)] 44 [some 43, some 32] fun G a w S => ?_
   exact sSk S rfl rfl rfl ac rfl rfl fun a S => leafL ⟨rfl, S⟩
  ·refine fJ [(249, _), (251, _), (239, _)] 45 [some 42, some 44, some 32] fun G a w S => ?_
   exact sSk S rfl rfl rfl ac rfl rfl fun a S => leafL ⟨rfl, S⟩
  ·refine fJ [(252, _), (239, _)] 46 [some 45, some 32] fun G a w S => ?_
   exact sSk S rfl rfl rfl ac rfl rfl fun a S => leafL ⟨rfl, S⟩
  ·refine fJ [(248, _), (253, _), (239, _)] 47 [some 41, some 46, some 32] fun G a w S => ?_
   exact sSk S rfl rfl rfl ac rfl rfl fun a S => leafL ⟨rfl, S⟩
  ·refine fJ [(254, _), (239, _)] 48 [some 47, some 32] fun G a w S => ?_
   exact sSk S rfl rfl rfl ac rfl rfl fun a S => leafL ⟨rfl, S⟩
  ·refine fJ [(255, _), (239, _)] 49 [some 48, some 32] fun G a w S => ?_
   exact sSk S rfl rfl rfl ac rfl rfl fun a S => leafL ⟨rfl, S⟩
  ·refine fJ [(247, _), (256, _), (239, _)] 50 [some 40, some 49, some 32] fun G a w S => ?_
   exact sSk S rfl rfl rfl ac rfl rfl fun a S => leafL ⟨rfl, S⟩
  ·refine fJ [(239, _), (257, _)] 51 [some 32, some 50] fun G a w S => ?_
   exact sPickT (.bool true) S (wN rfl) rfl rfl ac rfl rfl (lb rfl) fun a S => leafL ⟨rfl, S⟩
  ·exact fM 52 (some 51) rfl rfl rfl rfl (.inl rfl) rfl rfl rfl
  ·refine fJ [(19, _), (259, _)] 53 [none, some 52] fun G a w S => ?_
   exact sSk S rfl rfl rfl rfl rfl rfl fun a S => leafL ⟨rfl, S⟩
  ·refine fJ [(21, _), (259, _)] 54 [none, some 52] fun G a w S => ?_
   exact sSk S rfl rfl rfl rfl rfl rfl fun a S => leafL ⟨rfl, S⟩
  ·refine fJ [(260, _), (261, _), (259, _)] 55 [some 53, some 54, some 52] fun G a w S => ?_
   exact sSk S rfl rfl rfl rfl rfl rfl fun a S => leafL ⟨rfl, S⟩
  ·refine fJ [(262, _), (259, _)] 56 [some 55, some 52] fun G a w S => ?_
   exact sSk S rfl rfl rfl rfl rfl rfl fun a S => leafL ⟨rfl, S⟩
  ·refine fJ [(19, _), (259, _)] 57 [none, some 52] fun G a w S => ?_
   exact sSk S rfl rfl rfl rfl rfl rfl fun a S => leafL ⟨rfl, S⟩
  ·refine fJ [(21, _), (259, _)] 58 [none, some 52] fun G a w S => ?_
   exact sSk S rfl rfl rfl rfl rfl rfl fun a S => leafL ⟨rfl, S⟩
  ·refine fJ [(265, _), (259, _)] 59 [some 58, some 52] fun G a w S => ?_
   exact sSk S rfl rfl rfl rfl rfl rfl fun a S => leafL ⟨rfl, S⟩
  ·refine fJ [(264, _), (266, _), (259, _)] 60 [some 57, some 59, some 52] fun G a w S => ?_
   exact sSk S rfl rfl rfl rfl rfl rfl fun a S => leafL ⟨rfl, S⟩
  ·refine fJ [(267, _), (259, _)] 61 [some 60, some 52] fun G a w S => ?_
   exact sSk S rfl rfl rfl rfl rfl rfl fun a S => leafL ⟨rfl, S⟩
  ·refine fJ [(268, _), (259, _)] 62 [some 61, some 52] fun G a w S => ?_
   exact sSk S rfl rfl rfl rfl rfl rfl fun a S => leafL ⟨rfl, S⟩
  ·refine fJ [(263, _), (269, _), (259, _)] 63 [some 56, some 62, some 52] fun G a w S => ?_
   exact sSk S rfl rfl rfl rfl rfl rfl fun a S => leafL ⟨rfl, S⟩
  ·refine fJ [(259, _), (270, _)] 64 [some 52, some 63] fun G a w S => ?_
   exact sPickT (.bool true) S (wN rfl) rfl rfl rfl rfl rfl (lb rfl) fun a S => leafL ⟨rfl, S⟩
  exact leafT (⟨true, Option.some.inj h, S.fix [0] [12, 13, 14, 15] (by decide) rfl rfl rfl⟩)
 obtain ⟨ay, cp, h⟩ := bS h
 obtain ⟨az, cq, h⟩ := bS h
 rcases iS h with ⟨ap, h⟩ | ⟨ap, h⟩
 ·obtain ⟨cH, ek, S⟩ := pIdx (P := Try.prog) (r := (rI .i64)) (v := .slice a0 a5.1.length a4) (xs := a5.1) (j := a7) 32 3 2 S Try.underlying32 rfl rfl aG
  obtain ⟨el, S⟩ := pLoad (r := (rI .i64)) (q := cH) (x := a6) 0 S rfl
  obtain rfl : el = iv a6 := S.mem.know (i := 1) (e := fRep (rI .i64) (el) a6) rfl
  obtain ⟨bW, en, S⟩ := pIdx (P := Try.prog) (r := (rI .i64)) (v := .slice a0 a5.1.length a4) (xs := a5.1) (j := a7) 32 3 5 S Try.underlying32 rfl rfl aG
  obtain ⟨eo, S⟩ := pLoad (r := (rI .i64)) (q := bW) (x := a6) 0 S rfl
  obtain rfl : eo = iv a6 := S.mem.know (i := 1) (e := fRep (rI .i64) (eo) a6) rfl
  obtain ⟨bX, ep, S⟩ := pIdx (P := Try.prog) (r := (rI .i64)) (v := .slice a0 a5.1.length a4) (xs := a5.1) (j := w64 (a7 - 1)) 32 3 8 S Try.underlying32 rfl rfl aJ
  obtain ⟨eq, S⟩ := pLoad (r := (rI .i64)) (q := bX) (x := a8) 0 S rfl
  obtain rfl : eq = iv a8 := S.mem.know (i := 1) (e := fRep (rI .i64) (eq) a8) rfl
  obtain ⟨bY, er, S⟩ := pIdx (P := Try.prog) (r := (rI .i64)) (v := .slice a0 a5.1.length a4) (xs := a5.1) (j := w64 (a7 - 1)) 32 3 11 S Try.underlying32 rfl rfl aJ
  obtain ⟨es, S⟩ := pLoad (r := (rI .i64)) (q := bY) (x := a8) 0 S rfl
  obtain rfl : es = iv a8 := S.mem.know (i := 1) (e := fRep (rI .i64) (es) a8) rfl
  obtain ⟨bZ, et, S⟩ := pIdx (P := Try.prog) (r := (rI .i64)) (v := .slice a0 a5.1.length a4) (xs := a5.1) (j := a7) 32 3 14 S Try.underlying32 rfl rfl aG
  obtain ⟨ev, S⟩ := pLoad (r := (rI .i64)) (q := bZ) (x := a6) 0 S rfl
  obtain rfl : ev = iv a6 := S.mem.know (i := 1) (e := fRep (rI .i64) (ev) a6) rfl
  obtain ⟨c5, ew, S⟩ := pIdx (P := Try.prog) (r := r_api_Loop) (v := .slice a9 ab.1.length aa) (xs := ab.1) (j := a6) 26 48 15 S Try.underlying26 rfl rfl cp
  obtain ⟨c6, ex, S⟩ := pFld (P := Try.prog) (r := r_api_Loop) (s2 := (rI .i64)) (g := (·.Cell)) (q := c5) (z := ay) 48 1 0 1 S rfl rfl comp_api_Loop_Cell
  obtain ⟨ey, S⟩ := pLoad (r := (rI .i64)) (q := c6) (x := ay.Cell) 0 S rfl
  obtain rfl : ey = iv ay.Cell := S.mem.know (i := 1) (e := fRep (rI .i64) (ey) ay.Cell) rfl
  obtain ⟨c7, ez, S⟩ := pIdx (P := Try.prog) (r := (rI .i64)) (v := .slice a0 a5.1.length a4) (xs := a5.1) (j := w64 (a7 - 1)) 32 3 21 S Try.underlying32 rfl rfl aJ
  obtain ⟨eA, S⟩ := pLoad (r := (rI .i64)) (q := c7) (x := a8) 0 S rfl
  obtain rfl : eA = iv a8 := S.mem.know (i := 1) (e := fRep (rI .i64) (eA) a8) rfl
  obtain ⟨c8, eB, S⟩ := pIdx (P := Try.prog) (r := r_api_Loop) (v := .slice a9 ab.1.length aa) (xs := ab.1) (j := a8) 26 48 22 S Try.underlying26 rfl rfl cq
  obtain ⟨c9, eC, S⟩ := pFld (P := Try.prog) (r := r_api_Loop) (s2 := (rI .i64)) (g := (·.Cell)) (q := c8) (z := az) 48 1 0 1 S rfl rfl comp_api_Loop_Cell
  obtain ⟨eD, S⟩ := pLoad (r := (rI .i64)) (q := c9) (x := az.Cell) 0 S rfl
  obtain rfl : eD = iv az.Cell := S.mem.know (i := 1) (e := fRep (rI .i64) (eD) az.Cell) rfl
  refine sDraw (nf := []) (W := [(0, 207, .slice a0 a5.1.length a4), (1, 208, iv a7), (2, 209, cH), (3, 210, iv a6), (4, 211, .bool (decide (a6 < 0))), (5, 212, .bool (decide (a6 < 0))), (6, 213, .slice a0 a5.1.length a4), (7, 214, iv a7), (8, 215, bW), (9, 216, iv a6), (10, 217, .slice a9 ab.1.length aa), (11, 218, iv (ab.1.length : Int)), (12, 219, .bool (decide ((ab.1.length : Int) ≤ a6))), (13, 220, .bool (decide ((ab.1.length : Int) ≤ a6))), (14, 221, .bool (decide ((ab.1.length : Int) ≤ a6))), (15, 222, .slice a0 a5.1.length a4), (16, 223, iv a7), (17, 224, iv (w64 (a7 - 1))), (18, 225, bX), (19, 226, iv a8), (20, 227, .bool (decide (a8 < 0))), (21, 228, .bool (decide (a8 < 0))), (22, 229, .bool (decide (a8 < 0))), (23, 230, .slice a0 a5.1.length a4), (24, 231, iv a7), (25, 232, iv (w64 (a7 - 1))), (26, 233, bY), (27, 234, iv a8), (28, 235, .slice a9 ab.1.length aa), (29, 236, iv (ab.1.length : Int)), (30, 237, .bool (decide ((ab.1.length : Int) ≤ a8))), (31, 238, .bool (decide ((ab.1.length : Int) ≤ a8))), (32, 239, .bool (decide ((ab.1.length : Int) ≤ a8))), (33, 240, .slice a9 ab.1.length aa), (34, 241, .slice a0 a5.1.length a4), (35, 242, iv a7), (36, 243, bZ), (37, 244, iv a6), (38, 245, c5), (39, 246, c6), (40, 247, iv ay.Cell), (41, 248, .slice a9 ab.1.length aa), (42, 249, .slice a0 a5.1.length a4), (43, 250, iv a7), (44, 251, iv (w64 (a7 - 1))), (45, 252, c7), (46, 253, iv a8), (47, 254, c8), (48, 255, c9), (49, 256, iv az.Cell), (50, 257, .bool (ay.Cell != az.Cell)), (51, 258, .bool (ay.Cell != az.Cell)), (52, 259, .bool (ay.Cell != az.Cell)), (53, 260, undef), (54, 261, undef), (55, 262, undef), (56, 263, undef), (57, 264, undef), (58, 265, undef), (59, 266, undef), (60, 267, undef), (61, 268, undef), (62, 269, undef), (63, 270, undef), (64, 271, .bool true)]) rfl S ?_
  refine node_by (A := anc_raddlelaw27_LoopsOnce_2) 65 (by kernel_rfl) (by kernel_rfl) (by kernel_rfl) (by kernel_rfl) (by kernel_rfl) [0, 1, 2, 3, 4, 5, 6, 7, 8, 9, 10, 11, 12, 13, 14, 15, 16, 17, 18, 19, 20, 21, 22, 23, 24, 25, 26, 27, 28, 29, 30, 31, 32, 33, 34, 35, 36, 37, 38, 39, 40, 41, 42, 43, 44, 45, 46, 47, 48, 49, 50, 51, 52, 53, 54, 55, 56, 57, 58, 59, 60, 61, 62, 63, 64] (by kernel_rfl) (by decide) (by decide) (fF ?_ (fF ?_ (fF ?_ (fF ?_ (fF ?_ (fF ?_ (fF ?_ (fF ?_ (fF ?_ (fF ?_ (fF ?_ (fF ?_ (fF ?_ (fF ?_ (fF ?_ (fF ?_ (fF ?_ (fF ?_ (fF ?_ (fF ?_ (fF ?_ (fF ?_ (fF ?_ (fF ?_ (fF ?_ (fF ?_ (fF ?_ (fF ?_ (fF ?_ (fF ?_ (fF ?_ (fF ?_ (fF ?_ (fF ?_ (fF ?_ (fF ?_ (fF ?_ (fF ?_ (fF ?_ (fF ?_ (fF ?_ (fF ?_ (fF ?_ (fF ?_ (fF ?_ (fF ?_ (fF ?_ (fF ?_ (fF ?_ (fF ?_ (fF ?_ (fF ?_ (fF ?_ (fF ?_ (fF ?_ (fF ?_ (fF ?_ (fF ?_ (fF ?_ (fF ?_ (fF ?_ (fF ?_ (fF ?_ (fF ?_ (fF ?_ (trivial)))))))))))))))))))))))))))))))))))))))))))))))))))))))))))))))))) [(1, .pointer (some ⟨b6, 0, none⟩)), (3, .bool r8), (4, .slice a9 ab.1.length aa), (6, .slice ai ao.1.length aj), (17, iv aA), (18, iv aK), (19, .slice a0 a5.1.length a4), (21, iv a7), (213, .slice a0 a5.1.length a4), (214, iv a7), (215, bW), (216, iv a6), (217, .slice a9 ab.1.length aa), (218, iv (ab.1.length : Int)), (219, .bool (decide ((ab.1.length : Int) ≤ a6))), (222, .slice a0 a5.1.length a4), (223, iv a7), (224, iv (w64 (a7 - 1))), (225, bX), (226, iv a8), (227, .bool (decide (a8 < 0))), (230, .slice a0 a5.1.length a4), (231, iv a7), (232, iv (w64 (a7 - 1))), (233, bY), (234, iv a8), (235, .slice a9 ab.1.length aa), (236, iv (ab.1.length : Int)), (237, .bool (decide ((ab.1.length : Int) ≤ a8))), (240, .slice a9 ab.1.length aa), (241, .slice a0 a5.1.length a4), (242, iv a7), (243, bZ), (244, iv a6), (245, c5), (246, c6), (247, iv ay.Cell), (248, .slice a9 ab.1.length aa), (249, .slice a0 a5.1.length a4), (250, iv a7), (251, iv (w64 (a7 - 1))), (252, c7), (253, iv a8), (254, c8), (255, c9), (256, iv az.Cell), (257, .bool (ay.Cell != az.Cell)), (260, undef), (261, undef), (262, undef), (263, undef), (264, undef), (265, undef), (266, undef), (267, undef), (268, undef), (269, undef), (270, undef), (271, .bool true)] (fin_of [none, none, none, none, none, none, none, none, some 6, some 7, some 8, some 9, some 10, some 11, some 12, some 15, some 16, some 17, some 18, some 19, some 20, some 23, some 24, some 25, some 26, some 27, some 28, some 29, some 30, some 33, some 34, some 35, some 36, some 37, some 38, some 39, some 40, some 41, some 42, some 43, some 44, some 45, some 46, some 47, some 48, some 49, some 50, some 53, some 54, some 55, some 56, some 57, some 58, some 59, some 60, some 61, some 62, some 63, some 64] rfl (by kernel_rfl) (by kernel_rfl)) (fun _ a w S => ?_)
  ·exact fM 0 none rfl rfl rfl rfl (.inl rfl) rfl rfl rfl
  ·exact fM 1 none rfl rfl rfl rfl (.inl rfl) rfl rfl rfl
  ·refine fJ [(207, _), (208, _)] 2 [some 0, some 1] fun G a w S => ?_
   exact sIdxV S (wN rfl) rfl rfl rfl ek rfl (lb rfl) fun a S => leafL ⟨rfl, S⟩
  ·refine fJ [(209, _)] 3 [some 2] fun G a w S => ?_
   exact sLoadV1 (vq := cH) 23 (iv a6) S (wN rfl) rfl rfl rfl rfl rfl (lb rfl) fun a S => leafL ⟨rfl, S⟩
  ·refine fJ [(210, _)] 4 [some 3] fun G a w S => ?_
   exact sBin _ S (wN rfl) rfl rfl rfl (bLt _ _ _ _ .i64 a6 0) rfl (lb rfl) fun a S => leafL ⟨rfl, S⟩
  ·exact fM 5 (some 4) rfl rfl rfl rfl (.inl rfl) rfl rfl rfl
  ·refine fJ [(19, _), (212, _)] 6 [none, some 5] fun G a w S => ?_
   exact sMove (.slice a0 a5.1.length a4) S (wG 5 false 212 rfl rfl rfl af) (.inl rfl) rfl rfl (lb rfl) fun a S => leafL ⟨rfl, S⟩
  ·refine fJ [(21, _), (212, _)] 7 [none, some 5] fun G a w S => ?_
   exact sMove (iv a7) S (wG 5 false 212 rfl rfl rfl af) (.inl rfl) rfl rfl (lb rfl) fun a S => leafL ⟨rfl, S⟩
  ·refine fJ [(213, _), (214, _), (212, _)] 8 [some 6, some 7, some 5] fun G a w S => ?_
   exact sIdxV S (wG 5 false 212 rfl rfl rfl af) rfl rfl rfl en rfl (lb rfl) fun a S => leafL ⟨rfl, S⟩
  ·refine fJ [(215, _), (212, _)] 9 [some 8, some 5] fun G a w S => ?_
   exact sLoadV1 (vq := bW) 20 (iv a6) S (wG 5 false 212 rfl rfl rfl af) rfl rfl rfl rfl rfl (lb rfl) fun a S => leafL ⟨rfl, S⟩
  ·refine fJ [(4, _), (212, _)] 10 [none, some 5] fun G a w S => ?_
   exact sMove (.slice a9 ab.1.length aa) S (wG 5 false 212 rfl rfl rfl af) (.inl rfl) rfl rfl (lb rfl) fun a S => leafL ⟨rfl, S⟩
  ·refine fJ [(217, _), (212, _)] 11 [some 10, some 5] fun G a w S => ?_
   exact sLen S (wG 5 false 212 rfl rfl rfl af) rfl Try.underlying26 rfl rfl (lb rfl) fun a S => leafL ⟨rfl, S⟩
  ·refine fJ [(216, _), (218, _), (212, _)] 12 [some 9, some 11, some 5] fun G a w S => ?_
   exact sBin _ S (wG 5 false 212 rfl rfl rfl af) rfl rfl rfl (bGe _ _ _ _ .i64 a6 (ab.1.length : Int)) rfl (lb rfl) fun a S => leafL ⟨rfl, S⟩
  ·refine fJ [(212, _), (219, _)] 13 [some 5, some 12] fun G a w S => ?_
   exact sPickF (.bool (decide ((ab.1.length : Int) ≤ a6))) S (wN rfl) rfl rfl af rfl rfl (lb rfl) fun a S => leafL ⟨rfl, S⟩
  ·exact fM 14 (some 13) rfl rfl rfl rfl (.inl rfl) rfl rfl rfl
  ·refine fJ [(19, _), (221, _)] 15 [none, some 14] fun G a w S => ?_
   exact sMove (.slice a0 a5.1.length a4) S (wG 14 false 221 rfl rfl rfl ah) (.inl rfl) rfl rfl (lb rfl) fun a S => leafL ⟨rfl, S⟩
  ·refine fJ [(21, _), (221, _)] 16 [none, some 14] fun G a w S => ?_
   exact sMove (iv a7) S (wG 14 false 221 rfl rfl rfl ah) (.inl rfl) rfl rfl (lb rfl) fun a S => leafL ⟨rfl, S⟩
  ·refine fJ [(223, _), (221, _)] 17 [some 16, some 14] fun G a w S => ?_
   exact sBin _ S (wG 14 false 221 rfl rfl rfl ah) rfl rfl rfl (bSub _ _ _ _ a7 1) rfl (lb rfl) fun a S => leafL ⟨rfl, S⟩
  ·refine fJ [(222, _), (224, _), (221, _)] 18 [some 15, some 17, some 14] fun G a w S => ?_
   exact sIdxV S (wG 14 false 221 rfl rfl rfl ah) rfl rfl rfl ep rfl (lb rfl) fun a S => leafL ⟨rfl, S⟩
  ·refine fJ [(225, _), (221, _)] 19 [some 18, some 14] fun G a w S => ?_
   exact sLoadV1 (vq := bX) 17 (iv a8) S (wG 14 false 221 rfl rfl rfl ah) rfl rfl rfl rfl rfl (lb rfl) fun a S => leafL ⟨rfl, S⟩
  ·refine fJ [(226, _), (221, _)] 20 [some 19, some 14] fun G a w S => ?_
   exact sBin _ S (wG 14 false 221 rfl rfl rfl ah) rfl rfl rfl (bLt _ _ _ _ .i64 a8 0) rfl (lb rfl) fun a S => leafL ⟨rfl, S⟩
  ·refine fJ [(221, _), (227, _)] 21 [some 14, some 20] fun G a w S => ?_
   exact sPickF (.bool (decide (a8 < 0))) S (wN rfl) rfl rfl ah rfl rfl (lb rfl) fun a S => leafL ⟨rfl, S⟩
  ·exact fM 22 (some 21) rfl rfl rfl rfl (.inl rfl) rfl rfl rfl
  ·refine fJ [(19, _), (229, _)] 23 [none, some 22] fun G a w S => ?_
   exact sMove (.slice a0 a5.1.length a4) S (wG 22 false 229 rfl rfl rfl ag) (.inl rfl) rfl rfl (lb rfl) fun a S => leafL ⟨rfl, S⟩
  ·refine fJ [(21, _), (229, _)] 24 [none, some 22] fun G a w S => ?_
   exact sMove (iv a7) S (wG 22 false 229 rfl rfl rfl ag) (.inl rfl) rfl rfl (lb rfl) fun a S => leafL ⟨rfl, S⟩
  ·refine fJ [(231, _), (229, _)] 25 [some 24, some 22] fun G a w S => ?_
   exact sBin _ S (wG 22 false 229 rfl rfl rfl ag) rfl rfl rfl (bSub _ _ _ _ a7 1) rfl (lb rfl) fun a S => leafL ⟨rfl, S⟩
  ·refine fJ [(230, _), (232, _), (229, _)] 26 [some 23, some 25, some 22] fun G a w S => ?_
   exact sIdxV S (wG 22 false 229 rfl rfl rfl ag) rfl rfl rfl er rfl (lb rfl) fun a S => leafL ⟨rfl, S⟩
  ·refine fJ [(233, _), (229, _)] 27 [some 26, some 22] fun G a w S => ?_
   exact sLoadV1 (vq := bY) 14 (iv a8) S (wG 22 false 229 rfl rfl rfl ag) rfl rfl rfl rfl rfl (lb rfl) fun a S => leafL ⟨rfl, S⟩
  ·refine fJ [(4, _), (229, _)] 28 [none, some 22] fun G a w S => ?_
   exact sMove (.slice a9 ab.1.length aa) S (wG 22 false 229 rfl rfl rfl ag) (.inl rfl) rfl rfl (lb rfl) fun a S => leafL ⟨rfl, S⟩
  ·refine fJ [(235, _), (229, _)] 29 [some 28, some 22] fun G a w S => ?_
   exact sLen S (wG 22 false 229 rfl rfl rfl ag) rfl Try.underlying26 rfl rfl (lb rfl) fun a S => leafL ⟨rfl, S⟩
  ·refine fJ [(234, _), (236, _), (229, _)] 30 [some 27, some 29, some 22] fun G a w S => ?_
   exact sBin _ S (wG 22 false 229 rfl rfl rfl ag) rfl rfl rfl (bGe _ _ _ _ .i64 a8 (ab.1.length : Int)) rfl (lb rfl) fun a S => leafL ⟨rfl, S⟩
  ·refine fJ [(229, _), (237, _)] 31 [some 22, some 30] fun G a w S => ?_
   exact sPickF (.bool (decide ((ab.1.length : Int) ≤ a8))) S (wN rfl) rfl rfl ag rfl rfl (lb rfl) fun a S => leafL ⟨rfl, S⟩
  ·exact fM 32 (some 31) rfl rfl rfl rfl (.inl rfl) rfl rfl rfl
  ·refine fJ [(4, _), (239, _)] 33 [none, some 32] fun G a w S => ?_
   exact sMove (.slice a9 ab.1.length aa) S (wG 32 false 239 rfl rfl rfl ac) (.inl rfl) rfl rfl (lb rfl) fun a S => leafL ⟨rfl, S⟩
  ·refine fJ [(19, _), (239, _)] 34 [none, some 32] fun G a w S => ?_
   exact sMove (.slice a0 a5.1.length a4) S (wG 32 false 239 rfl rfl rfl ac) (.inl rfl) rfl rfl (lb rfl) fun a S => leafL ⟨rfl, S⟩
  ·refine fJ [(21, _), (239, _)] 35 [none, some 32] fun G a w S => ?_
   exact sMove (iv a7) S (wG 32 false 239 rfl rfl rfl ac) (.inl rfl) rfl rfl (lb rfl) fun a S => leafL ⟨rfl, S⟩
  ·refine fJ [(241, _), (242, _), (239, _)] 36 [some 34, some 35, some 32] fun G a w S => ?_
   exact sIdxV S (wG 32 false 239 rfl rfl rfl ac) rfl rfl rfl et rfl (lb rfl) fun a S => leafL ⟨rfl, S⟩
  ·refine fJ [(243, _), (239, _)] 37 [some 36, some 32] fun G a w S => ?_
   exact sLoadV1 (vq := bZ) 11 (iv a6) S (wG 32 false 239 rfl rfl rfl ac) rfl rfl rfl rfl rfl (lb rfl) fun a S => leafL ⟨rfl, S⟩
  ·refine fJ [(240, _), (244, _), (239, _)] 38 [some 33, some 37, some 32] fun G a w S => ?_
   exact sIdxV S (wG 32 false 239 rfl rfl rfl ac) rfl rfl rfl ew rfl (lb rfl) fun a S => leafL ⟨rfl, S⟩
  ·refine fJ [(245, _), (239, _)] 39 [some 38, some 32] fun G a w S => ?_
   exact sFldV (q := c5) S (wG 32 false 239 rfl rfl rfl ac) rfl rfl ex rfl (lb rfl) fun a S => leafL ⟨rfl, S⟩
  ·refine fJ [(246, _), (239, _)] 40 [some 39, some 32] fun G a w S => ?_
   exact sLoadV1 (vq := c6) 7 (iv ay.Cell) S (wG 32 false 239 rfl rfl rfl ac) rfl rfl rfl rfl rfl (lb rfl) fun a S => leafL ⟨rfl, S⟩
  ·refine fJ [(4, _), (239, _)] 41 [none, some 32] fun G a w S => ?_
   exact sMove (.slice a9 ab.1.length aa) S (wG 32 false 239 rfl rfl rfl ac) (.inl rfl) rfl rfl (lb rfl) fun a S => leafL ⟨rfl, S⟩
  ·refine fJ [(19, _), (239, _)] 42 [none, some 32] fun G a w S => ?_
   exact sMove (.slice a0 a5.1.length a4) S (wG 32 false 239 rfl rfl rfl ac) (.inl rfl) rfl rfl (lb rfl) fun a S => leafL ⟨rfl, S⟩
  ·refine fJ [(21, _), (239, _)] 43 [none, some 32] fun G a w S => ?_
   exact sMove (iv a7) S (wG 32 false 239 rfl rfl rfl ac) (.inl rfl) rfl rfl (lb rfl) fun a S => leafL ⟨rfl, S⟩
  ·refine fJ [(250, _), (239, _)] 44 [some 43, some 32] fun G a w S => ?_
   exact sBin _ S (wG 32 false 239 rfl rfl rfl ac) rfl rfl rfl (bSub _ _ _ _ a7 1) rfl (lb rfl) fun a S => leafL ⟨rfl, S⟩
  ·refine fJ [(249, _), (251, _), (239, _)] 45 [some 42, some 44, some 32] fun G a w S => ?_
   exact sIdxV S (wG 32 false 239 rfl rfl rfl ac) rfl rfl rfl ez rfl (lb rfl) fun a S => leafL ⟨rfl, S⟩
  ·refine fJ [(252, _), (239, _)] 46 [some 45, some 32] fun G a w S => ?_
   exact sLoadV1 (vq := c7) 4 (iv a8) S (wG 32 false 239 rfl rfl rfl ac) rfl rfl rfl rfl rfl (lb rfl) fun a S => leafL ⟨rfl, S⟩
  ·refine fJ [(248, _), (253, _), (239, _)] 47 [some 41, some 46, some 32] fun G a w S => ?_
   exact sIdxV S (wG 32 false 239 rfl rfl rfl ac) rfl rfl rfl eB rfl (lb rfl) fun a S => leafL ⟨rfl, S⟩
  ·refine fJ [(254, _), (239, _)] 48 [some 47, some 32] fun G a w S => ?_
   exact sFldV (q := c8) S (wG 32 false 239 rfl rfl rfl ac) rfl rfl eC rfl (lb rfl) fun a S => leafL ⟨rfl, S⟩
  ·refine fJ [(255, _), (239, _)] 49 [some 48, some 32] fun G a w S => ?_
   exact sLoadV1 (vq := c9) 0 (iv az.Cell) S (wG 32 false 239 rfl rfl rfl ac) rfl rfl rfl rfl rfl (lb rfl) fun a S => leafL ⟨rfl, S⟩
  ·refine fJ [(247, _), (256, _), (239, _)] 50 [some 40, some 49, some 32] fun G a w S => ?_
   exact sBin _ S (wG 32 false 239 rfl rfl rfl ac) rfl rfl rfl (bNe _ _ _ _ .i64 ay.Cell az.Cell) rfl (lb rfl) fun a S => leafL ⟨rfl, S⟩
  ·refine fJ [(239, _), (257, _)] 51 [some 32, some 50] fun G a w S => ?_
   exact sPickF (.bool (ay.Cell != az.Cell)) S (wN rfl) rfl rfl ac rfl rfl (lb rfl) fun a S => leafL ⟨rfl, S⟩
  ·exact fM 52 (some 51) rfl rfl rfl rfl (.inl rfl) rfl rfl rfl
  ·refine fJ [(19, _), (259, _)] 53 [none, some 52] fun G a w S => ?_
   exact sSk S rfl rfl rfl ap rfl rfl fun a S => leafL ⟨rfl, S⟩
  ·refine fJ [(21, _), (259, _)] 54 [none, some 52] fun G a w S => ?_
   exact sSk S rfl rfl rfl ap rfl rfl fun a S => leafL ⟨rfl, S⟩
  ·refine fJ [(260, _), (261, _), (259, _)] 55 [some 53, some 54, some 52] fun G a w S => ?_
   exact sSk S rfl rfl rfl ap rfl rfl fun a S => leafL ⟨rfl, S⟩
  ·refine fJ [(262, _), (259, _)] 56 [some 55, some 52] fun G a w S => ?_
   exact sSk S rfl rfl rfl ap rfl rfl fun a S => leafL ⟨rfl, S⟩
  ·refine fJ [(19, _), (259, _)] 57 [none, some 52] fun G a w S => ?_
   exact sSk S rfl rfl rfl ap rfl rfl fun a S => leafL ⟨rfl, S⟩
  ·refine fJ [(21, _), (259, _)] 58 [none, some 52] fun G a w S => ?_
   exact sSk S rfl rfl rfl ap rfl rfl fun a S => leafL ⟨rfl, S⟩
  ·refine fJ [(265, _), (259, _)] 59 [some 58, some 52] fun G a w S => ?_
   exact sSk S rfl rfl rfl ap rfl rfl fun a S => leafL ⟨rfl, S⟩
  ·refine fJ [(264, _), (266, _), (259, _)] 60 [some 57, some 59, some 52] fun G a w S => ?_
   exact sSk S rfl rfl rfl ap rfl rfl fun a S => leafL ⟨rfl, S⟩
  ·refine fJ [(267, _), (259, _)] 61 [some 60, some 52] fun G a w S => ?_
   exact sSk S rfl rfl rfl ap rfl rfl fun a S => leafL ⟨rfl, S⟩
  ·refine fJ [(268, _), (259, _)] 62 [some 61, some 52] fun G a w S => ?_
   exact sSk S rfl rfl rfl ap rfl rfl fun a S => leafL ⟨rfl, S⟩
  ·refine fJ [(263, _), (269, _), (259, _)] 63 [some 56, some 62, some 52] fun G a w S => ?_
   exact sSk S rfl rfl rfl ap rfl rfl fun a S => leafL ⟨rfl, S⟩
  ·refine fJ [(259, _), (270, _)] 64 [some 52, some 63] fun G a w S => ?_
   exact sPickT (.bool true) S (wN rfl) rfl rfl ap rfl rfl (lb rfl) fun a S => leafL ⟨rfl, S⟩
  exact leafT (⟨true, Option.some.inj h, S.fix [0] [26, 27, 28, 29] (by decide) rfl rfl rfl⟩)
 obtain ⟨cI, eE, S⟩ := pIdx (P := Try.prog) (r := (rI .i64)) (v := .slice a0 a5.1.length a4) (xs := a5.1) (j := a7) 32 3 2 S Try.underlying32 rfl rfl aG
 obtain ⟨eF, S⟩ := pLoad (r := (rI .i64)) (q := cI) (x := a6) 0 S rfl
 obtain rfl : eF = iv a6 := S.mem.know (i := 1) (e := fRep (rI .i64) (eF) a6) rfl
 obtain ⟨ca, eG, S⟩ := pIdx (P := Try.prog) (r := (rI .i64)) (v := .slice a0 a5.1.length a4) (xs := a5.1) (j := a7) 32 3 5 S Try.underlying32 rfl rfl aG
 obtain ⟨eH, S⟩ := pLoad (r := (rI .i64)) (q := ca) (x := a6) 0 S rfl
 obtain rfl : eH = iv a6 := S.mem.know (i := 1) (e := fRep (rI .i64) (eH) a6) rfl
 obtain ⟨cb, eI, S⟩ := pIdx (P := Try.prog) (r := (rI .i64)) (v := .slice a0 a5.1.length a4) (xs := a5.1) (j := w64 (a7 - 1)) 32 3 8 S Try.underlying32 rfl rfl aJ
 obtain ⟨eJ, S⟩ := pLoad (r := (rI .i64)) (q := cb) (x := a8) 0 S rfl
 obtain rfl : eJ = iv a8 := S.mem.know (i := 1) (e := fRep (rI .i64) (eJ) a8) rfl
 obtain ⟨cc, eK, S⟩ := pIdx (P := Try.prog) (r := (rI .i64)) (v := .slice a0 a5.1.length a4) (xs := a5.1) (j := w64 (a7 - 1)) 32 3 11 S Try.underlying32 rfl rfl aJ
 obtain ⟨eL, S⟩ := pLoad (r := (rI .i64)) (q := cc) (x := a8) 0 S rfl
 obtain rfl : eL = iv a8 := S.mem.know (i := 1) (e := fRep (rI .i64) (eL) a8) rfl
 obtain ⟨cd, eM, S⟩ := pIdx (P := Try.prog) (r := (rI .i64)) (v := .slice a0 a5.1.length a4) (xs := a5.1) (j := a7) 32 3 14 S Try.underlying32 rfl rfl aG
 obtain ⟨eN, S⟩ := pLoad (r := (rI .i64)) (q := cd) (x := a6) 0 S rfl
 obtain rfl : eN = iv a6 := S.mem.know (i := 1) (e := fRep (rI .i64) (eN) a6) rfl
 obtain ⟨ce, eO, S⟩ := pIdx (P := Try.prog) (r := r_api_Loop) (v := .slice a9 ab.1.length aa) (xs := ab.1) (j := a6) 26 48 15 S Try.underlying26 rfl rfl cp
 obtain ⟨cf, eP, S⟩ := pFld (P := Try.prog) (r := r_api_Loop) (s2 := (rI .i64)) (g := (·.Cell)) (q := ce) (z := ay) 48 1 0 1 S rfl rfl comp_api_Loop_Cell
 obtain ⟨eQ, S⟩ := pLoad (r := (rI .i64)) (q := cf) (x := ay.Cell) 0 S rfl
 obtain rfl : eQ = iv ay.Cell := S.mem.know (i := 1) (e := fRep (rI .i64) (eQ) ay.Cell) rfl
 obtain ⟨cg, eR, S⟩ := pIdx (P := Try.prog) (r := (rI .i64)) (v := .slice a0 a5.1.length a4) (xs := a5.1) (j := w64 (a7 - 1)) 32 3 21 S Try.underlying32 rfl rfl aJ
 obtain ⟨eS, S⟩ := pLoad (r := (rI .i64)) (q := cg) (x := a8) 0 S rfl
 obtain rfl : eS = iv a8 := S.mem.know (i := 1) (e := fRep (rI .i64) (eS) a8) rfl
 obtain ⟨ci, eT, S⟩ := pIdx (P := Try.prog) (r := r_api_Loop) (v := .slice a9 ab.1.length aa) (xs := ab.1) (j := a8) 26 48 22 S Try.underlying26 rfl rfl cq
 obtain ⟨cj, eU, S⟩ := pFld (P := Try.prog) (r := r_api_Loop) (s2 := (rI .i64)) (g := (·.Cell)) (q := ci) (z := az) 48 1 0 1 S rfl rfl comp_api_Loop_Cell
 obtain ⟨eV, S⟩ := pLoad (r := (rI .i64)) (q := cj) (x := az.Cell) 0 S rfl
 obtain rfl : eV = iv az.Cell := S.mem.know (i := 1) (e := fRep (rI .i64) (eV) az.Cell) rfl
 obtain ⟨ck, eW, S⟩ := pIdx (P := Try.prog) (r := (rI .i64)) (v := .slice a0 a5.1.length a4) (xs := a5.1) (j := a7) 32 3 28 S Try.underlying32 rfl rfl aG
 obtain ⟨eX, S⟩ := pLoad (r := (rI .i64)) (q := ck) (x := a6) 0 S rfl
 obtain rfl : eX = iv a6 := S.mem.know (i := 1) (e := fRep (rI .i64) (eX) a6) rfl
 obtain ⟨cl, eY, S⟩ := pIdx (P := Try.prog) (r := (rI .i64)) (v := .slice a0 a5.1.length a4) (xs := a5.1) (j := w64 (a7 - 1)) 32 3 31 S Try.underlying32 rfl rfl aJ
 obtain ⟨eZ, S⟩ := pLoad (r := (rI .i64)) (q := cl) (x := a8) 0 S rfl
 obtain rfl : eZ = iv a8 := S.mem.know (i := 1) (e := fRep (rI .i64) (eZ) a8) rfl
 refine sDraw (nf := []) (W := [(0, 207, .slice a0 a5.1.length a4), (1, 208, iv a7), (2, 209, cI), (3, 210, iv a6), (4, 211, .bool (decide (a6 < 0))), (5, 212, .bool (decide (a6 < 0))), (6, 213, .slice a0 a5.1.length a4), (7, 214, iv a7), (8, 215, ca), (9, 216, iv a6), (10, 217, .slice a9 ab.1.length aa), (11, 218, iv (ab.1.length : Int)), (12, 219, .bool (decide ((ab.1.length : Int) ≤ a6))), (13, 220, .bool (decide ((ab.1.length : Int) ≤ a6))), (14, 221, .bool (decide ((ab.1.length : Int) ≤ a6))), (15, 222, .slice a0 a5.1.length a4), (16, 223, iv a7), (17, 224, iv (w64 (a7 - 1))), (18, 225, cb), (19, 226, iv a8), (20, 227, .bool (decide (a8 < 0))), (21, 228, .bool (decide (a8 < 0))), (22, 229, .bool (decide (a8 < 0))), (23, 230, .slice a0 a5.1.length a4), (24, 231, iv a7), (25, 232, iv (w64 (a7 - 1))), (26, 233, cc), (27, 234, iv a8), (28, 235, .slice a9 ab.1.length aa), (29, 236, iv (ab.1.length : Int)), (30, 237, .bool (decide ((ab.1.length : Int) ≤ a8))), (31, 238, .bool (decide ((ab.1.length : Int) ≤ a8))), (32, 239, .bool (decide ((ab.1.length : Int) ≤ a8))), (33, 240, .slice a9 ab.1.length aa), (34, 241, .slice a0 a5.1.length a4), (35, 242, iv a7), (36, 243, cd), (37, 244, iv a6), (38, 245, ce), (39, 246, cf), (40, 247, iv ay.Cell), (41, 248, .slice a9 ab.1.length aa), (42, 249, .slice a0 a5.1.length a4), (43, 250, iv a7), (44, 251, iv (w64 (a7 - 1))), (45, 252, cg), (46, 253, iv a8), (47, 254, ci), (48, 255, cj), (49, 256, iv az.Cell), (50, 257, .bool (ay.Cell != az.Cell)), (51, 258, .bool (ay.Cell != az.Cell)), (52, 259, .bool (ay.Cell != az.Cell)), (53, 260, .slice a0 a5.1.length a4), (54, 261, iv a7), (55, 262, ck), (56, 263, iv a6), (57, 264, .slice a0 a5.1.length a4), (58, 265, iv a7), (59, 266, iv (w64 (a7 - 1))), (60, 267, cl), (61, 268, iv a8), (62, 269, iv (w64 (a8 + 1))), (63, 270, .bool (a6 != (w64 (a8 + 1)))), (64, 271, .bool (a6 != (w64 (a8 + 1))))]) rfl S ?_
 refine node_by (A := anc_raddlelaw27_LoopsOnce_2) 65 (by kernel_rfl) (by kernel_rfl) (by kernel_rfl) (by kernel_rfl) (by kernel_rfl) [0, 1, 2, 3, 4, 5, 6, 7, 8, 9, 10, 11, 12, 13, 14, 15, 16, 17, 18, 19, 20, 21, 22, 23, 24, 25, 26, 27, 28, 29, 30, 31, 32, 33, 34, 35, 36, 37, 38, 39, 40, 41, 42, 43, 44, 45, 46, 47, 48, 49, 50, 51, 52, 53, 54, 55, 56, 57, 58, 59, 60, 61, 62, 63, 64] (by kernel_rfl) (by decide) (by decide) (fF ?_ (fF ?_ (fF ?_ (fF ?_ (fF ?_ (fF ?_ (fF ?_ (fF ?_ (fF ?_ (fF ?_ (fF ?_ (fF ?_ (fF ?_ (fF ?_ (fF ?_ (fF ?_ (fF ?_ (fF ?_ (fF ?_ (fF ?_ (fF ?_ (fF ?_ (fF ?_ (fF ?_ (fF ?_ (fF ?_ (fF ?_ (fF ?_ (fF ?_ (fF ?_ (fF ?_ (fF ?_ (fF ?_ (fF ?_ (fF ?_ (fF ?_ (fF ?_ (fF ?_ (fF ?_ (fF ?_ (fF ?_ (fF ?_ (fF ?_ (fF ?_ (fF ?_ (fF ?_ (fF ?_ (fF ?_ (fF ?_ (fF ?_ (fF ?_ (fF ?_ (fF ?_ (fF ?_ (fF ?_ (fF ?_ (fF ?_ (fF ?_ (fF ?_ (fF ?_ (fF ?_ (fF ?_ (fF ?_ (fF ?_ (fF ?_ (trivial)))))))))))))))))))))))))))))))))))))))))))))))))))))))))))))))))) [(1, .pointer (some ⟨b6, 0, none⟩)), (3, .bool r8), (4, .slice a9 ab.1.length aa), (6, .slice ai ao.1.length aj), (17, iv aA), (18, iv aK), (19, .slice a0 a5.1.length a4), (21, iv a7), (213, .slice a0 a5.1.length a4), (214, iv a7), (215, ca), (216, iv a6), (217, .slice a9 ab.1.length aa), (218, iv (ab.1.length : Int)), (219, .bool (decide ((ab.1.length : Int) ≤ a6))), (222, .slice a0 a5.1.length a4), (223, iv a7), (224, iv (w64 (a7 - 1))), (225, cb), (226, iv a8), (227, .bool (decide (a8 < 0))), (230, .slice a0 a5.1.length a4), (231, iv a7), (232, iv (w64 (a7 - 1))), (233, cc), (234, iv a8), (235, .slice a9 ab.1.length aa), (236, iv (ab.1.length : Int)), (237, .bool (decide ((ab.1.length : Int) ≤ a8))), (240, .slice a9 ab.1.length aa), (241, .slice a0 a5.1.length a4), (242, iv a7), (243, cd), (244, iv a6), (245, ce), (246, cf), (247, iv ay.Cell), (248, .slice a9 ab.1.length aa), (249, .slice a0 a5.1.length a4), (250, iv a7), (251, iv (w64 (a7 - 1))), (252, cg), (253, iv a8), (254, ci), (255, cj), (256, iv az.Cell), (257, .bool (ay.Cell != az.Cell)), (260, .slice a0 a5.1.length a4), (261, iv a7), (262, ck), (263, iv a6), (264, .slice a0 a5.1.length a4), (265, iv a7), (266, iv (w64 (a7 - 1))), (267, cl), (268, iv a8), (269, iv (w64 (a8 + 1))), (270, .bool (a6 != (w64 (a8 + 1)))), (271, .bool (a6 != (w64 (a8 + 1))))] (fin_of [none, none, none, none, none, none, none, none, some 6, some 7, some 8, some 9, some 10, some 11, some 12, some 15, some 16, some 17, some 18, some 19, some 20, some 23, some 24, some 25, some 26, some 27, some 28, some 29, some 30, some 33, some 34, some 35, some 36, some 37, some 38, some 39, some 40, some 41, some 42, some 43, some 44, some 45, some 46, some 47, some 48, some 49, some 50, some 53, some 54, some 55, some 56, some 57, some 58, some 59, some 60, some 61, some 62, some 63, some 64] rfl (by kernel_rfl) (by kernel_rfl)) (fun _ a w S => ?_)
 ·exact fM 0 none rfl rfl rfl rfl (.inl rfl) rfl rfl rfl
 ·exact fM 1 none rfl rfl rfl rfl (.inl rfl) rfl rfl rfl
 ·refine fJ [(207, _), (208, _)] 2 [some 0, some 1] fun G a w S => ?_
  exact sIdxV S (wN rfl) rfl rfl rfl eE rfl (lb rfl) fun a S => leafL ⟨rfl, S⟩
 ·refine fJ [(209, _)] 3 [some 2] fun G a w S => ?_
  exact sLoadV1 (vq := cI) 29 (iv a6) S (wN rfl) rfl rfl rfl rfl rfl (lb rfl) fun a S => leafL ⟨rfl, S⟩
 ·refine fJ [(210, _)] 4 [some 3] fun G a w S => ?_
  exact sBin _ S (wN rfl) rfl rfl rfl (bLt _ _ _ _ .i64 a6 0) rfl (lb rfl) fun a S => leafL ⟨rfl, S⟩
 ·exact fM 5 (some 4) rfl rfl rfl rfl (.inl rfl) rfl rfl rfl
 ·refine fJ [(19, _), (212, _)] 6 [none, some 5] fun G a w S => ?_
  exact sMove (.slice a0 a5.1.length a4) S (wG 5 false 212 rfl rfl rfl af) (.inl rfl) rfl rfl (lb rfl) fun a S => leafL ⟨rfl, S⟩
 ·refine fJ [(21, _), (212, _)] 7 [none, some 5] fun G a w S => ?_
  exact sMove (iv a7) S (wG 5 false 212 rfl rfl rfl af) (.inl rfl) rfl rfl (lb rfl) fun a S => leafL ⟨rfl, S⟩
 ·refine fJ [(213, _), (214, _), (212, _)] 8 [some 6, some 7, some 5] fun G a w S => ?_
  exact sIdxV S (wG 5 false 212 rfl rfl rfl af) rfl rfl rfl eG rfl (lb rfl) fun a S => leafL ⟨rfl, S⟩
 ·refine fJ [(215, _), (212, _)] 9 [some 8, some 5] fun G a w S => ?_
  exact sLoadV1 (vq := ca) 26 (iv a6) S (wG 5 false 212 rfl rfl rfl af) rfl rfl rfl rfl rfl (lb rfl) fun a S => leafL ⟨rfl, S⟩
 ·refine fJ [(4, _), (212, _)] 10 [none, some 5] fun G a w S => ?_
  exact sMove (.slice a9 ab.1.length aa) S (wG 5 false 212 rfl rfl rfl af) (.inl rfl) rfl rfl (lb rfl) fun a S => leafL ⟨rfl, S⟩
 ·refine fJ [(217, _), (212, _)] 11 [some 10, some 5] fun G a w S => ?_
  exact sLen S (wG 5 false 212 rfl rfl rfl af) rfl Try.underlying26 rfl rfl (lb rfl) fun a S => leafL ⟨rfl, S⟩
 ·refine fJ [(216, _), (218, _), (212, _)] 12 [some 9, some 11, some 5] fun G a w S => ?_
  exact sBin _ S (wG 5 false 212 rfl rfl rfl af) rfl rfl rfl (bGe _ _ _ _ .i64 a6 (ab.1.length : Int)) rfl (lb rfl) fun a S => leafL ⟨rfl, S⟩
 ·refine fJ [(212, _), (219, _)] 13 [some 5, some 12] fun G a w S => ?_
  exact sPickF (.bool (decide ((ab.1.length : Int) ≤ a6))) S (wN rfl) rfl rfl af rfl rfl (lb rfl) fun a S => leafL ⟨rfl, S⟩
 ·exact fM 14 (some 13) rfl rfl rfl rfl (.inl rfl) rfl rfl rfl
 ·refine fJ [(19, _), (221, _)] 15 [none, some 14] fun G a w S => ?_
  exact sMove (.slice a0 a5.1.length a4) S (wG 14 false 221 rfl rfl rfl ah) (.inl rfl) rfl rfl (lb rfl) fun a S => leafL ⟨rfl, S⟩
 ·refine fJ [(21, _), (221, _)] 16 [none, some 14] fun G a w S => ?_
  exact sMove (iv a7) S (wG 14 false 221 rfl rfl rfl ah) (.inl rfl) rfl rfl (lb rfl) fun a S => leafL ⟨rfl, S⟩
 ·refine fJ [(223, _), (221, _)] 17 [some 16, some 14] fun G a w S => ?_
  exact sBin _ S (wG 14 false 221 rfl rfl rfl ah) rfl rfl rfl (bSub _ _ _ _ a7 1) rfl (lb rfl) fun a S => leafL ⟨rfl, S⟩
 ·refine fJ [(222, _), (224, _), (221, _)] 18 [some 15, some 17, some 14] fun G a w S => ?_
  exact sIdxV S (wG 14 false 221 rfl rfl rfl ah) rfl rfl rfl eI rfl (lb rfl) fun a S => leafL ⟨rfl, S⟩
 ·refine fJ [(225, _), (221, _)] 19 [some 18, some 14] fun G a w S => ?_
  exact sLoadV1 (vq := cb) 23 (iv a8) S (wG 14 false 221 rfl rfl rfl ah) rfl rfl rfl rfl rfl (lb rfl) fun a S => leafL ⟨rfl, S⟩
 ·refine fJ [(226, _), (221, _)] 20 [some 19, some 14] fun G a w S => ?_
  exact sBin _ S (wG 14 false 221 rfl rfl rfl ah) rfl rfl rfl (bLt _ _ _ _ .i64 a8 0) rfl (lb rfl) fun a S => leafL ⟨rfl, S⟩
 ·refine fJ [(221, _), (227, _)] 21 [some 14, some 20] fun G a w S => ?_
  exact sPickF (.bool (decide (a8 < 0))) S (wN rfl) rfl rfl ah rfl rfl (lb rfl) fun a S => leafL ⟨rfl, S⟩
 ·exact fM 22 (some 21) rfl rfl rfl rfl (.inl rfl) rfl rfl rfl
 ·refine fJ [(19, _), (229, _)] 23 [none, some 22] fun G a w S => ?_
  exact sMove (.slice a0 a5.1.length a4) S (wG 22 false 229 rfl rfl rfl ag) (.inl rfl) rfl rfl (lb rfl) fun a S => leafL ⟨rfl, S⟩
 ·refine fJ [(21, _), (229, _)] 24 [none, some 22] fun G a w S => ?_
  exact sMove (iv a7) S (wG 22 false 229 rfl rfl rfl ag) (.inl rfl) rfl rfl (lb rfl) fun a S => leafL ⟨rfl, S⟩
 ·refine fJ [(231, _), (229, _)] 25 [some 24, some 22] fun G a w S => ?_
  exact sBin _ S (wG 22 false 229 rfl rfl rfl ag) rfl rfl rfl (bSub _ _ _ _ a7 1) rfl (lb rfl) fun a S => leafL ⟨rfl, S⟩
 ·refine fJ [(230, _), (232, _), (229, _)] 26 [some 23, some 25, some 22] fun G a w S => ?_
  exact sIdxV S (wG 22 false 229 rfl rfl rfl ag) rfl rfl rfl eK rfl (lb rfl) fun a S => leafL ⟨rfl, S⟩
 ·refine fJ [(233, _), (229, _)] 27 [some 26, some 22] fun G a w S => ?_
  exact sLoadV1 (vq := cc) 20 (iv a8) S (wG 22 false 229 rfl rfl rfl ag) rfl rfl rfl rfl rfl (lb rfl) fun a S => leafL ⟨rfl, S⟩
 ·refine fJ [(4, _), (229, _)] 28 [none, some 22] fun G a w S => ?_
  exact sMove (.slice a9 ab.1.length aa) S (wG 22 false 229 rfl rfl rfl ag) (.inl rfl) rfl rfl (lb rfl) fun a S => leafL ⟨rfl, S⟩
 ·refine fJ [(235, _), (229, _)] 29 [some 28, some 22] fun G a w S => ?_
  exact sLen S (wG 22 false 229 rfl rfl rfl ag) rfl Try.underlying26 rfl rfl (lb rfl) fun a S => leafL ⟨rfl, S⟩
 ·refine fJ [(234, _), (236, _), (229, _)] 30 [some 27, some 29, some 22] fun G a w S => ?_
  exact sBin _ S (wG 22 false 229 rfl rfl rfl ag) rfl rfl rfl (bGe _ _ _ _ .i64 a8 (ab.1.length : Int)) rfl (lb rfl) fun a S => leafL ⟨rfl, S⟩
 ·refine fJ [(229, _), (237, _)] 31 [some 22, some 30] fun G a w S => ?_
  exact sPickF (.bool (decide ((ab.1.length : Int) ≤ a8))) S (wN rfl) rfl rfl ag rfl rfl (lb rfl) fun a S => leafL ⟨rfl, S⟩
 ·exact fM 32 (some 31) rfl rfl rfl rfl (.inl rfl) rfl rfl rfl
 ·refine fJ [(4, _), (239, _)] 33 [none, some 32] fun G a w S => ?_
  exact sMove (.slice a9 ab.1.length aa) S (wG 32 false 239 rfl rfl rfl ac) (.inl rfl) rfl rfl (lb rfl) fun a S => leafL ⟨rfl, S⟩
 ·refine fJ [(19, _), (239, _)] 34 [none, some 32] fun G a w S => ?_
  exact sMove (.slice a0 a5.1.length a4) S (wG 32 false 239 rfl rfl rfl ac) (.inl rfl) rfl rfl (lb rfl) fun a S => leafL ⟨rfl, S⟩
 ·refine fJ [(21, _), (239, _)] 35 [none, some 32] fun G a w S => ?_
  exact sMove (iv a7) S (wG 32 false 239 rfl rfl rfl ac) (.inl rfl) rfl rfl (lb rfl) fun a S => leafL ⟨rfl, S⟩
 ·refine fJ [(241, _), (242, _), (239, _)] 36 [some 34, some 35, some 32] fun G a w S => ?_
  exact sIdxV S (wG 32 false 239 rfl rfl rfl ac) rfl rfl rfl eM rfl (lb rfl) fun a S => leafL ⟨rfl, S⟩
 ·refine fJ [(243, _), (239, _)] 37 [some 36, some 32] fun G a w S => ?_
  exact sLoadV1 (vq := cd) 17 (iv a6) S (wG 32 false 239 rfl rfl rfl ac) rfl rfl rfl rfl rfl (lb rfl) fun a S => leafL ⟨rfl, S⟩
 ·refine fJ [(240, _), (244, _), (239, _)] 38 [some 33, some 37, some 32] fun G a w S => ?_
  exact sIdxV S (wG 32 false 239 rfl rfl rfl ac) rfl rfl rfl eO rfl (lb rfl) fun a S => leafL ⟨rfl, S⟩
 ·refine fJ [(245, _), (239, _)] 39 [some 38, some 32] fun G a w S => ?_
  exact sFldV (q := ce) S (wG 32 false 239 rfl rfl rfl ac) rfl rfl eP rfl (lb rfl) fun a S => leafL ⟨rfl, S⟩
 ·refine fJ [(246, _), (239, _)] 40 [some 39, some 32] fun G a w S => ?_
  exact sLoadV1 (vq := cf) 13 (iv ay.Cell) S (wG 32 false 239 rfl rfl rfl ac) rfl rfl rfl rfl rfl (lb rfl) fun a S => leafL ⟨rfl, S⟩
 ·refine fJ [(4, _), (239, _)] 41 [none, some 32] fun G a w S => ?_
  exact sMove (.slice a9 ab.1.length aa) S (wG 32 false 239 rfl rfl rfl ac) (.inl rfl) rfl rfl (lb rfl) fun a S => leafL ⟨rfl, S⟩
 ·refine fJ [(19, _), (239, _)] 42 [none, some 32] fun G a w S => ?_
  exact sMove (.slice a0 a5.1.length a4) S (wG 32 false 239 rfl rfl rfl ac) (.inl rfl) rfl rfl (lb rfl) fun a S => leafL ⟨rfl, S⟩
 ·refine fJ [(21, _), (239, _)] 43 [none, some 32] fun G a w S => ?_
  exact sMove (iv a7) S (wG 32 false 239 rfl rfl rfl ac) (.inl rfl) rfl rfl (lb rfl) fun a S => leafL ⟨rfl, S⟩
 ·refine fJ [(250, _), (239, _)] 44 [some 43, some 32] fun G a w S => ?_
  exact sBin _ S (wG 32 false 239 rfl rfl rfl ac) rfl rfl rfl (bSub _ _ _ _ a7 1) rfl (lb rfl) fun a S => leafL ⟨rfl, S⟩
 ·refine fJ [(249, _), (251, _), (239, _)] 45 [some 42, some 44, some 32] fun G a w S => ?_
  exact sIdxV S (wG 32 false 239 rfl rfl rfl ac) rfl rfl rfl eR rfl (lb rfl) fun a S => leafL ⟨rfl, S⟩
 ·refine fJ [(252, _), (239, _)] 46 [some 45, some 32] fun G a w S => ?_
  exact sLoadV1 (vq := cg) 10 (iv a8) S (wG 32 false 239 rfl rfl rfl ac) rfl rfl rfl rfl rfl (lb rfl) fun a S => leafL ⟨rfl, S⟩
 ·refine fJ [(248, _), (253, _), (239, _)] 47 [some 41, some 46, some 32] fun G a w S => ?_
  exact sIdxV S (wG 32 false 239 rfl rfl rfl ac) rfl rfl rfl eT rfl (lb rfl) fun a S => leafL ⟨rfl, S⟩
 ·refine fJ [(254, _), (239, _)] 48 [some 47, some 32] fun G a w S => ?_
  exact sFldV (q := ci) S (wG 32 false 239 rfl rfl rfl ac) rfl rfl eU rfl (lb rfl) fun a S => leafL ⟨rfl, S⟩
 ·refine fJ [(255, _), (239, _)] 49 [some 48, some 32] fun G a w S => ?_
  exact sLoadV1 (vq := cj) 6 (iv az.Cell) S (wG 32 false 239 rfl rfl rfl ac) rfl rfl rfl rfl rfl (lb rfl) fun a S => leafL ⟨rfl, S⟩
 ·refine fJ [(247, _), (256, _), (239, _)] 50 [some 40, some 49, some 32] fun G a w S => ?_
  exact sBin _ S (wG 32 false 239 rfl rfl rfl ac) rfl rfl rfl (bNe _ _ _ _ .i64 ay.Cell az.Cell) rfl (lb rfl) fun a S => leafL ⟨rfl, S⟩
 ·refine fJ [(239, _), (257, _)] 51 [some 32, some 50] fun G a w S => ?_
  exact sPickF (.bool (ay.Cell != az.Cell)) S (wN rfl) rfl rfl ac rfl rfl (lb rfl) fun a S => leafL ⟨rfl, S⟩
 ·exact fM 52 (some 51) rfl rfl rfl rfl (.inl rfl) rfl rfl rfl
 ·refine fJ [(19, _), (259, _)] 53 [none, some 52] fun G a w S => ?_
  exact sMove (.slice a0 a5.1.length a4) S (wG 52 false 259 rfl rfl rfl ap) (.inl rfl) rfl rfl (lb rfl) fun a S => leafL ⟨rfl, S⟩
 ·refine fJ [(21, _), (259, _)] 54 [none, some 52] fun G a w S => ?_
  exact sMove (iv a7) S (wG 52 false 259 rfl rfl rfl ap) (.inl rfl) rfl rfl (lb rfl) fun a S => leafL ⟨rfl, S⟩
 ·refine fJ [(260, _), (261, _), (259, _)] 55 [some 53, some 54, some 52] fun G a w S => ?_
  exact sIdxV S (wG 52 false 259 rfl rfl rfl ap) rfl rfl rfl eW rfl (lb rfl) fun a S => leafL ⟨rfl, S⟩
 ·refine fJ [(262, _), (259, _)] 56 [some 55, some 52] fun G a w S => ?_
  exact sLoadV1 (vq := ck) 3 (iv a6) S (wG 52 false 259 rfl rfl rfl ap) rfl rfl rfl rfl rfl (lb rfl) fun a S => leafL ⟨rfl, S⟩
 ·refine fJ [(19, _), (259, _)] 57 [none, some 52] fun G a w S => ?_
  exact sMove (.slice a0 a5.1.length a4) S (wG 52 false 259 rfl rfl rfl ap) (.inl rfl) rfl rfl (lb rfl) fun a S => leafL ⟨rfl, S⟩
 ·refine fJ [(21, _), (259, _)] 58 [none, some 52] fun G a w S => ?_
  exact sMove (iv a7) S (wG 52 false 259 rfl rfl rfl ap) (.inl rfl) rfl rfl (lb rfl) fun a S => leafL ⟨rfl, S⟩
 ·refine fJ [(265, _), (259, _)] 59 [some 58, some 52] fun G a w S => ?_
  exact sBin _ S (wG 52 false 259 rfl rfl rfl ap) rfl rfl rfl (bSub _ _ _ _ a7 1) rfl (lb rfl) fun a S => leafL ⟨rfl, S⟩
 ·refine fJ [(264, _), (266, _), (259, _)] 60 [some 57, some 59, some 52] fun G a w S => ?_
  exact sIdxV S (wG 52 false 259 rfl rfl rfl ap) rfl rfl rfl eY rfl (lb rfl) fun a S => leafL ⟨rfl, S⟩
 ·refine fJ [(267, _), (259, _)] 61 [some 60, some 52] fun G a w S => ?_
  exact sLoadV1 (vq := cl) 0 (iv a8) S (wG 52 false 259 rfl rfl rfl ap) rfl rfl rfl rfl rfl (lb rfl) fun a S => leafL ⟨rfl, S⟩
 ·refine fJ [(268, _), (259, _)] 62 [some 61, some 52] fun G a w S => ?_
  exact sBin _ S (wG 52 false 259 rfl rfl rfl ap) rfl rfl rfl (bAdd _ _ _ _ a8 1) rfl (lb rfl) fun a S => leafL ⟨rfl, S⟩
 ·refine fJ [(263, _), (269, _), (259, _)] 63 [some 56, some 62, some 52] fun G a w S => ?_
  exact sBin _ S (wG 52 false 259 rfl rfl rfl ap) rfl rfl rfl (bNe _ _ _ _ .i64 a6 (w64 (a8 + 1))) rfl (lb rfl) fun a S => leafL ⟨rfl, S⟩
 ·refine fJ [(259, _), (270, _)] 64 [some 52, some 63] fun G a w S => ?_
  exact sPickF (.bool (a6 != (w64 (a8 + 1)))) S (wN rfl) rfl rfl ap rfl rfl (lb rfl) fun a S => leafL ⟨rfl, S⟩
 exact leafT (⟨a6 != (w64 (a8 + 1)), Option.some.inj h, S.fix [0] [32, 33, 34, 35] (by decide) rfl rfl rfl⟩)
theorem once_row {c : api_Chart} (hk : chk c = 0) {n : List Int} (hn : ∀ r, r ≤ c.Rows.length → idxO n (r : Int) = some ((nR c.Start.toNat (c.Rows.map faceR) r : Nat) : Int)) {r : Nat} (hr : r ≤ c.Rows.length) :
 whileO (raddlelaw27_LoopsOnce_l2 (rowOf c (r : Int)) ((workC c).1.L, 0) (r : Int) (n, 0)) (rowOf c (r : Int)).1 = some (.inr ()) := by
 obtain ⟨hI, _, hf, hnr, _, hL, _, _, hpr, _, _⟩ := wfin_of hk
 have hfl : (c.Rows.map faceR).length = c.Rows.length := List.length_map _
 have hrow : rowOf c (r : Int) = (((off c.Start.toNat (c.Rows.map faceR) r : Nat) : Int), ((off c.Start.toNat (c.Rows.map faceR) (r + 1) : Nat) : Int), 0) := by
  unfold rowOf; rw [if_pos hk, if_pos (by omega), Int.toNat_natCast]
 rw [hrow]
 rw [← hfl] at hI hr
 have hRow := fun i h0 h1 => hI.rowL hf (r := r) (i := i) hr h0 h1
 have ho : off c.Start.toNat (c.Rows.map faceR) (r + 1) = off c.Start.toNat (c.Rows.map faceR) r + nR c.Start.toNat (c.Rows.map faceR) r := rfl
 have hle := off_le hf (r := r + 1) (by omega)
 generalize c.Start.toNat = S at *
 generalize c.Rows.map faceR = fs at *
 generalize (workC c).1.L = L at *
 refine loop_sq (fun j => ((off S fs r + j : Nat) : Int)) (nR S fs r) (by simp) ?_ ?_
 ·intro j hj
  obtain ⟨l, hl, h1, h2⟩ := hRow (off S fs r + j) (by omega) (by omega)
  have hlt := (List.getElem?_eq_some_iff.1 hl).1
  have hp4 := (hpr l (List.mem_of_getElem? hl)).1
  unfold raddlelaw27_LoopsOnce_l2
  simp only [dT (show ((off S fs r + j : Nat) : Int) < ((off S fs (r + 1) : Nat) : Int) by omega), if_true]
  rw [idxO_nat hlt, Option.bind_some, (List.getElem?_eq_some_iff.1 hl).2, nF h1, if_neg (by simp)]
  have inner : whileO (raddlelaw27_LoopsOnce_l1 l (r : Int) (n, 0) (((off S fs r : Nat) : Int), ((off S fs (r + 1) : Nat) : Int), 0)) 0 = some (.inr ()) := by
   refine loop_same l.Parents.length _ (fun m hm => ?_) ?_
   ·obtain ⟨a1, a2, a3⟩ := h2 _ (List.getElem_mem hm)
    unfold raddlelaw27_LoopsOnce_l1
    simp only [dT (show (m : Int) < (l.Parents.length : Int) by omega), if_true]
    have e1 : w64 ((r : Int) - 1) = ((r - 1 : Nat) : Int) := by rw [w64_of (by omega) (by omega)]; omega
    have ho2 : off S fs r = off S fs (r - 1) + nR S fs (r - 1) := by
     obtain ⟨q, rfl⟩ : ∃ q, r = q + 1 := ⟨r - 1, by omega⟩
     rfl
    have hmono := off_mono (S := S) (fs := fs) (a := r) (b := r + 1) (by omega)
    have e2 : w64 (((off S fs r : Nat) : Int) - ((nR S fs (r - 1) : Nat) : Int)) = ((off S fs (r - 1) : Nat) : Int) := by rw [w64_of (by omega) (by omega)]; omega
    rw [bF (show ¬ (r : Int) = 0 by omega), if_neg (by simp), idxO_nat hm, Option.bind_some, e1, hn (r - 1) (by omega), Option.bind_some, e2, dF (show ¬ l.Parents[m] < ((off S fs (r - 1) : Nat) : Int) by omega), dF (show ¬ ((off S fs r : Nat) : Int) ≤ l.Parents[m] by omega), w64_succ (by omega)]
    rfl
   ·unfold raddlelaw27_LoopsOnce_l1
    simp only [dF (show ¬ (l.Parents.length : Int) < (l.Parents.length : Int) by omega), Bool.false_eq_true, if_false]
  rw [inner]
  simp only [Option.bind_some]
  rw [w64_of (by omega) (by omega)]
  congr 2
 ·unfold raddlelaw27_LoopsOnce_l2
  simp only [dF (show ¬ ((off S fs r + nR S fs r : Nat) : Int) < ((off S fs (r + 1) : Nat) : Int) by omega), Bool.false_eq_true, if_false]
theorem once_kids {L : List api_Loop} {k : List Int} {a m : Nat} (hL : L.length ≤ 100000) (ham : a + m ≤ L.length) (hk : k = (List.range' a m).map fun j : Nat => (j : Int)) {K : Int} (hc : ∀ j, a ≤ j → j < a + m → ∃ l, L[j]? = some l ∧ l.Cell = K) :
 whileO (raddlelaw27_LoopsOnce_l4 (k, 0) (L, 0)) 1 = some (.inr ()) := by
 have hkl : k.length = m := by rw [hk]; simp
 have hget : ∀ j (h : j < k.length), k[j] = ((a + j : Nat) : Int) := by
  intro j h
  subst hk; simp
 refine loop_sq (fun j => ((1 + j : Nat) : Int)) (m - 1) (by simp) ?_ ?_
 ·intro j hj
  have e1 : w64 (((1 + j : Nat) : Int) - 1) = ((j : Nat) : Int) := by rw [w64_of (by omega) (by omega)]; omega
  obtain ⟨l1, g1, c1⟩ := hc (a + (1 + j)) (by omega) (by omega)
  obtain ⟨l2, g2, c2⟩ := hc (a + j) (by omega) (by omega)
  have t1 := (List.getElem?_eq_some_iff.1 g1)
  have t2 := (List.getElem?_eq_some_iff.1 g2)
  unfold raddlelaw27_LoopsOnce_l4
  simp only [dT (show ((1 + j : Nat) : Int) < (k.length : Int) by omega), if_true]
  rw [idxO_nat (show 1 + j < k.length by omega), Option.bind_some, hget, dF (show ¬ ((a + (1 + j) : Nat) : Int) < 0 by omega), if_neg (by simp), dF (show ¬ (L.length : Int) ≤ ((a + (1 + j) : Nat) : Int) by omega), if_neg (by simp), e1, idxO_nat (show j < k.length by omega), Option.bind_some, hget, dF (show ¬ ((a + j : Nat) : Int) < 0 by omega), if_neg (by simp), dF (show ¬ (L.length : Int) ≤ ((a + j : Nat) : Int) by omega), if_neg (by simp), idxO_nat (show a + (1 + j) < L.length by omega), Option.bind_some, idxO_nat (show a + j < L.length by omega), Option.bind_some, t1.2, t2.2, nF (by rw [c1, c2]), if_neg (by simp), w64_of (x := ((a + j : Nat) : Int) + 1) (by omega) (by omega), nF (by omega)]
  simp only [Option.bind_some, Bool.false_eq_true, if_false]
  rw [w64_of (by omega) (by omega)]
  congr 2
 ·unfold raddlelaw27_LoopsOnce_l4
  simp only [dF (show ¬ ((1 + (m - 1) : Nat) : Int) < (k.length : Int) by omega), Bool.false_eq_true, if_false]
theorem law_LoopsOnce' (ha : F_raddlelaw27_alive = some true) (c : api_Chart) (wc : wf_api_Chart c) : F_raddlelaw27_LoopsOnce c = some true := by
 have hw := wfR_of wc
 obtain ⟨b, hb⟩ := rgreat26_eq c
 unfold F_raddlelaw27_LoopsOnce
 rw [ha, Option.bind_some, hb, Option.bind_some, rchart_check_eq, Option.bind_some]
 cases b with
 | true => rfl
 | false =>
  by_cases hk : chk c = 0
  ·rw [hk]
   simp only [Bool.false_eq_true, if_false, show ((0 : Int) != 0) = false from rfl, Bool.not_true, Option.bind_some]
   obtain ⟨hI, _, hf, hnr, hs, hL, hB, _, hpr, ho, _⟩ := wfin_of hk
   have hfl : (c.Rows.map faceR).length = c.Rows.length := List.length_map _
   have hcl := cnts_len c.Start c.Rows
   have hn : ∀ r, r ≤ c.Rows.length → idxO (cnts c.Start c.Rows) (r : Int) = some ((nR c.Start.toNat (c.Rows.map faceR) r : Nat) : Int) := by
    intro r hr
    have h4 := (chk_ok hk).2.2.2
    rw [← hs] at h4
    have := cnts_get c.Rows c.Start.toNat r h4 hr
    rw [hs] at this
    rw [idxO_nat (by omega)]
    exact (List.getElem?_eq_getElem (by omega)).symm.trans this
   unfold F_loops_Of F_loops_Bound
   rw [of_eq c hw, if_pos hk, counts_eq c hw hk]
   unfold pieceOf
   simp only [Option.bind_some, show ((0 : Int) != 0) = false from rfl, Bool.false_eq_true, if_false]
   rw [hcl, show w64 ((c.Rows.length : Int) + 1) = ((c.Rows.length + 1 : Nat) : Int) from w64_succ (by omega), nF rfl]
   simp only [Option.bind_some, Bool.false_eq_true, if_false]
   have hend : off c.Start.toNat (c.Rows.map faceR) (c.Rows.length + 1) = (workC c).1.L.length := by rw [hI.len]; simp [pm, smN]
   have hu : off c.Start.toNat (c.Rows.map faceR) c.Rows.length = (workC c).1.u := by rw [hI.u]; simp [pu, smN]
   have k3 : whileO (raddlelaw27_LoopsOnce_l3 c (cnts c.Start c.Rows, 0) ((workC c).1.L, 0)) (0, 0) = some (.inr ((workC c).1.L.length : Int)) := by
    rw [← hend]
    refine loop_sq (fun r => (((off c.Start.toNat (c.Rows.map faceR) r : Nat) : Int), (r : Int))) (c.Rows.length + 1) (by simp [off]) ?_ ?_
    ·intro r hr
     have hrow : rowOf c (r : Int) = (((off c.Start.toNat (c.Rows.map faceR) r : Nat) : Int), ((off c.Start.toNat (c.Rows.map faceR) (r + 1) : Nat) : Int), 0) := by
      unfold rowOf; rw [if_pos hk, if_pos (by omega), Int.toNat_natCast]
     have hmono := off_mono (S := c.Start.toNat) (fs := c.Rows.map faceR) (a := r + 1) (b := c.Rows.length + 1) (by omega)
     have hle := off_le hf (r := r + 1) (by omega)
     have ho' : off c.Start.toNat (c.Rows.map faceR) (r + 1) = off c.Start.toNat (c.Rows.map faceR) r + nR c.Start.toNat (c.Rows.map faceR) r := rfl
     have hin := once_row hk hn (r := r) (by omega)
     rw [hrow] at hin
     unfold raddlelaw27_LoopsOnce_l3
     simp only [dT (show (r : Int) ≤ (c.Rows.length : Int) by omega), if_true]
     rw [row_eq hw, Option.bind_some, hrow]
     dsimp only at hin ⊢
     rw [show ((0 : Int) != 0) = false from rfl, if_neg (by simp), nF rfl, if_neg (by simp), hn r (by omega), Option.bind_some, show w64 (((off c.Start.toNat (c.Rows.map faceR) r : Nat) : Int) + ((nR c.Start.toNat (c.Rows.map faceR) r : Nat) : Int)) = ((off c.Start.toNat (c.Rows.map faceR) (r + 1) : Nat) : Int) by rw [w64_of (by omega) (by omega)]; omega, nF rfl, if_neg (by simp), dF (show ¬ ((workC c).1.L.length : Int) < ((off c.Start.toNat (c.Rows.map faceR) (r + 1) : Nat) : Int) by omega), Option.bind_some, if_neg (by simp), hin]
     simp only [Option.bind_some]
     rw [w64_succ (by omega)]
    ·unfold raddlelaw27_LoopsOnce_l3
     simp only [dF (show ¬ ((c.Rows.length + 1 : Nat) : Int) ≤ (c.Rows.length : Int) by omega), Bool.false_eq_true, if_false]
   rw [k3]
   simp only [Option.bind_some]
   rw [nF rfl, if_neg (by simp)]
   have k5 : whileO (raddlelaw27_LoopsOnce_l5 ((workC c).1.L, 0) ((workC c).1.B, 0) c) 0 = some (.inr ()) := by
    refine loop_same (workC c).1.L.length _ (fun i hi => ?_) ?_
    ·unfold raddlelaw27_LoopsOnce_l5
     simp only [dT (show (i : Int) < ((workC c).1.L.length : Int) by omega), if_true]
     rw [has_eq _ _ (by omega), Option.bind_some, idxO_nat hi, kids_eq hw, if_pos hk, if_pos (show 0 ≤ (i : Int) ∧ (i : Int) < ((workC c).1.L.length : Int) by omega)]
     simp only [Option.bind_some]
     rw [← hfl] at hI hend hu
     obtain ⟨r, hr1, hr2, hr3⟩ := row_of (S := c.Start.toNat) (fs := c.Rows.map faceR) ((c.Rows.map faceR).length + 1) i (by omega)
     obtain ⟨l, hl, hRow, _⟩ := hI.rowL hf (r := r) (i := i) (by omega) hr2 hr3
     rw [(List.getElem?_eq_some_iff.1 hl).2, hRow]
     have h0' : (whileO (raddlelaw27_LoopsOnce_l4 (([] : List Int), 0) ((workC c).1.L, 0)) 1) = some (.inr ()) := once_kids (L := (workC c).1.L) (k := []) (a := 0) (m := 0) (K := 0) (by omega) (by omega) rfl (fun j h1 h2 => by omega)
     by_cases hlast : r = c.Rows.length
     ·have hge : (((workC c).1.u : Nat) : Int) ≤ (i : Int) := by rw [← hu, hfl, ← hlast]; omega
      obtain ⟨a1, a2⟩ := ho.above i hge
      rw [dF a1, bT (by rw [hlast])]
      simp only [kl, a2, List.map_nil, Bool.false_eq_true, if_false, if_true, Option.bind_some, List.length_nil]
      rw [h0']
      simp only [show ((0 : Int) != 0) = false from rfl, Bool.false_eq_true, if_false, show decide ((0 : Int) < ((0 : Nat) : Int)) = false from rfl, Option.bind_some]
      rw [show w64 ((0 : Int) + 1) = 1 from rfl, nF rfl, if_neg (by simp), Option.bind_some, w64_succ (by omega)]
     ·have hmono := off_mono (S := c.Start.toNat) (fs := c.Rows.map faceR) (a := r + 1) (b := (c.Rows.map faceR).length) (by omega)
      have hlt : (i : Int) < (((workC c).1.u : Nat) : Int) := by rw [← hu]; omega
      rw [bF (show ¬ (r : Int) = (c.Rows.length : Int) by omega)]
      rcases ho.below i (by omega) hlt with ⟨a1, a2⟩ | ⟨a1, a, m, h1, h2, h3, K, h4⟩
      ·rw [dT a1]
       simp only [kl, a2, List.map_nil, Bool.false_eq_true, if_false, if_true, Option.bind_some, List.length_nil]
       rw [h0']
       simp only [show ((0 : Int) != 0) = false from rfl, Bool.false_eq_true, if_false, show decide ((0 : Int) < ((0 : Nat) : Int)) = false from rfl, Option.bind_some]
       rw [show w64 ((0 : Int) + 1) = 1 from rfl, nF rfl, if_neg (by simp), Option.bind_some, w64_succ (by omega)]
      ·rw [dF a1]
       have h5 := once_kids (L := (workC c).1.L) (k := kl (workC c).1.L i) (by omega) h2 (by rw [kl, h3]) h4
       have hlen : (kl (workC c).1.L i).length = m := by rw [kl, h3]; simp
       simp only [show ((0 : Int) != 0) = false from rfl, Bool.false_eq_true, if_false, if_true, Option.bind_some]
       rw [hlen, dT (show (0 : Int) < (m : Int) by omega), if_pos rfl, Option.bind_some, h5]
       simp only [Option.bind_some]
       rw [show w64 ((0 : Int) + 1) = 1 from rfl, nF rfl, if_neg (by simp), Option.bind_some, w64_succ (by omega)]
    ·unfold raddlelaw27_LoopsOnce_l5
     simp only [dF (show ¬ ((workC c).1.L.length : Int) < ((workC c).1.L.length : Int) by omega), Bool.false_eq_true, if_false]
   rw [k5]; rfl
  ·simp only [nT hk, if_true, Bool.false_eq_true, if_false, Option.bind_some]
theorem law_LoopsOnce (c : api_Chart) (wc : wf_api_Chart c) : F_raddlelaw27_LoopsOnce c = some true := law_LoopsOnce' k_raddlelaw27_alive c wc
namespace frameLoopsOnce
open Go.ChangeShapes Go.WideShapes Go.ChangeAt Go.Joins
theorem own : ownKnob Try.prog.godebug = none := by kernel_rfl
theorem laidOut : laidOutB Try.prog = true := by kernel_rfl
theorem lifted (os : Os) (started : os.Started) (H : Type) (enc : TypeId × Value → H) :
 ReturnsInHanded {} Try.checked os 9 .any (Rows.loopsOnceSpec.pre6 enc Try.prog Try.f9 Rows.loopsOnceRow.domain false) (Rows.loopsOnceSpec.post enc Try.prog Try.f9 false true false false) := by
 refine returnsInHanded_of_change (C := Try.checked) own started (by kernel_rfl) Try.func9
  (ChangeSpec.witness6 (enc := enc) (C := Try.checked) false ⟨#[], #[.agg #[iv 0, .slice none 0 0]], []⟩ 8 (by kernel_rfl) (by kernel_rfl) (by kernel_rfl) (by kernel_rfl)) ?_
 intro W base args ds gs before hval0 hW hcnd _
 have hval : ∀ (j : Nat) t v, Try.f9.params[j]? = some t → args[j]? = some v → Value.okWide Try.prog W .any base t v := hval0
 have hW' := hW
 obtain ⟨p, q, hA0, hV, rfl, hfz, hnd⟩ := hW
 have hA : DataW.TrodAll enc Try.prog W 0 (fun _ => true) true Try.f9.params.toList args.toList ds p := hA0
 rw [Try.params9] at hA hval
 obtain ⟨v0, vs0, d0, ds0, p0, q0, hargs, rfl, rfl, h0, r0⟩ := trodAll_cons hA
 obtain ⟨rfl, rfl, rfl⟩ := trodAll_nil r0
 obtain rfl : args = #[v0] := by cases args; simp_all
 obtain ⟨rfl, rfl⟩ := trodVars_none hV
 have k0 := h0
 have lt0 : ∀ x ∈ p0, x.block < W.heap.size := by obtain ⟨m, hm⟩ := k0; exact DataW.trod_lt m _ _ _ hm
 obtain ⟨x0, rep0, wf0⟩ := top_agg Try.underlying24 aggr_api_Chart op_api_Chart (hval 0 _ v0 rfl rfl) h0
 clear hA0 hval0
 refine (c_raddlelaw27_LoopsOnce (fun _ => False) W x0 v0 true (law_LoopsOnce x0 wf0) (St0.start (by intro d hd; simp only [List.mem_cons, List.not_mem_nil, or_false] at hd; subst hd; exact rep0))).mono fun e W' hr => ?_
 obtain ⟨_, he, hS⟩ := hr
 have bel := hS.chg.below
 subst he
 exact ⟨_, rfl, _, _, _, [], _, [], hW', trodAll_mk1 (shut_bool Try.underlying4 _), (trodAll_cons_mk (Below.trod laidOut (by kernel_rfl) (of_decide_eq_true (by kernel_rfl)) k0 bel lt0) trodAll_mk0), rfl, bel.frame _, fun h => by cases h⟩
theorem over : Rows.loopsOnceRow.holds Try.pinned (OpenSpec.ofChange Rows.loopsOnceSpec) :=
 OpenClaim.holds_of_wide 9 Try.f9 rfl rfl rfl rfl rfl rfl rfl ⟨rfl, rfl, rfl, rfl, rfl⟩ rfl rfl rfl rfl rfl (by kernel_rfl) Try.func9 (by kernel_rfl)
  (of_decide_eq_true (by kernel_rfl)) (by unfold Func.isWrapper; first | (rw [if_pos (by decide +kernel)]; kernel_rfl) | (rw [if_neg (by decide +kernel)]; exact ⟨rfl, rfl⟩))
  (fun os started H enc _ => lifted os started H enc)
end frameLoopsOnce
theorem loopsOnce_holds : Rows.LoopsOnceSaid := frameLoopsOnce.over
end Go.Proofs.Yticjoiolfibmlaa
