import Derived.Test.YtdfjcpnflmgdoaaGTy
import Derived.Test.YtdfjcpnflmgdoaaSpO
namespace Go.Proofs.Ytdfjcpnflmgdoaa
open Go.RowKit
set_option linter.unusedVariables false

open Go.ChangeShapes Go.WideShapes Go.ChangeAt Go.Joins
def wf_api_Ratio (x : api_Ratio) : Prop := (InK .i64) x.Num ∧ (InK .i64) x.Den
theorem op_api_Ratio : OpC Try.prog 23 r_api_Ratio wf_api_Ratio := fun H enc w base spare held fuel cs x h => by
  obtain ⟨ys, m, _, _, hl, hy, hf⟩ := DataW.trod_struct Try.underlying23 h
  obtain ⟨c0, c1, rfl⟩ := len2 (hl.trans (by kernel_rfl))
  obtain ⟨z0, f0⟩ := fld (hf 0 _ rfl) (by rw [hy]; decide)
  obtain ⟨u0, y0, k0, r0, w0⟩ := (op_int .i64 Try.underlying2) _ _ _ _ _ _ _ _ _ f0
  replace k0 : u0.cells.toList = [c0] := k0.trans (by kernel_rfl)
  obtain rfl : u0 = .int .i64 y0 := r0
  obtain rfl : Value.int .i64 y0 = c0 := by simpa [Value.cells] using k0
  obtain ⟨z1, f1⟩ := fld (hf 1 _ rfl) (by rw [hy]; decide)
  obtain ⟨u1, y1, k1, r1, w1⟩ := (op_int .i64 Try.underlying2) _ _ _ _ _ _ _ _ _ f1
  replace k1 : u1.cells.toList = [c1] := k1.trans (by kernel_rfl)
  obtain rfl : u1 = .int .i64 y1 := r1
  obtain rfl : Value.int .i64 y1 = c1 := by simpa [Value.cells] using k1
  exact ⟨_, ⟨y0, y1⟩, rfl, rfl, ⟨w0, w1⟩⟩
def wf_api_Count (x : api_Count) : Prop := (InK .u8) x.System ∧ wf_api_Ratio x.N
theorem op_api_Count : OpC Try.prog 41 r_api_Count wf_api_Count := fun H enc w base spare held fuel cs x h => by
  obtain ⟨ys, m, _, _, hl, hy, hf⟩ := DataW.trod_struct Try.underlying41 h
  obtain ⟨c0, c1, c2, rfl⟩ := len3 (hl.trans (by kernel_rfl))
  obtain ⟨z0, f0⟩ := fld (hf 0 _ rfl) (by rw [hy]; decide)
  obtain ⟨u0, y0, k0, r0, w0⟩ := (op_int .u8 Try.underlying5) _ _ _ _ _ _ _ _ _ f0
  replace k0 : u0.cells.toList = [c0] := k0.trans (by kernel_rfl)
  obtain rfl : u0 = .int .u8 y0 := r0
  obtain rfl : Value.int .u8 y0 = c0 := by simpa [Value.cells] using k0
  obtain ⟨z1, f1⟩ := fld (hf 1 _ rfl) (by rw [hy]; decide)
  obtain ⟨u1, y1, k1, r1, w1⟩ := op_api_Ratio _ _ _ _ _ _ _ _ _ f1
  replace k1 : u1.cells.toList = [c1, c2] := k1.trans (by kernel_rfl)
  obtain rfl : u1 = .agg #[.int .i64 y1.Num, .int .i64 y1.Den] := r1
  simp only [Value.cells, List.cons.injEq, and_true] at k1
  obtain ⟨rfl, rfl⟩ := k1
  exact ⟨_, ⟨y0, y1⟩, rfl, rfl, ⟨w0, w1⟩⟩

end Go.Proofs.Ytdfjcpnflmgdoaa
