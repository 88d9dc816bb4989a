import Derived.Test.YtmedbnjhgkcndaaGTy
import Derived.Test.YtmedbnjhgkcndaaSpO
namespace Go.Proofs.Ytmedbnjhgkcndaa
open Go.RowKit
set_option linter.unusedVariables false

open Go.ChangeShapes Go.WideShapes Go.ChangeAt Go.Joins
def wf_api_Gauge (x : api_Gauge) : Prop := (InK .i64) x.Stitches ∧ (InK .i64) x.Width ∧ (InK .i64) x.Rows ∧ (InK .i64) x.Height
theorem op_api_Gauge : OpC Try.prog 23 r_api_Gauge wf_api_Gauge := fun H enc w base spare held fuel cs x h => by
  obtain ⟨ys, m, _, _, hl, hy, hf⟩ := DataW.trod_struct Try.underlying23 h
  obtain ⟨c0, c1, c2, c3, rfl⟩ := len4 (hl.trans (by kernel_rfl))
  obtain ⟨z0, f0⟩ := fld (hf 0 _ rfl) (by rw [hy]; decide)
  obtain ⟨u0, y0, k0, r0, w0⟩ := (op_int .i64 Try.underlying3) _ _ _ _ _ _ _ _ _ f0
  replace k0 : u0.cells.toList = [c0] := k0.trans (by kernel_rfl)
  obtain rfl : u0 = .int .i64 y0 := r0
  obtain rfl : Value.int .i64 y0 = c0 := by simpa [Value.cells] using k0
  obtain ⟨z1, f1⟩ := fld (hf 1 _ rfl) (by rw [hy]; decide)
  obtain ⟨u1, y1, k1, r1, w1⟩ := (op_int .i64 Try.underlying3) _ _ _ _ _ _ _ _ _ f1
  replace k1 : u1.cells.toList = [c1] := k1.trans (by kernel_rfl)
  obtain rfl : u1 = .int .i64 y1 := r1
  obtain rfl : Value.int .i64 y1 = c1 := by simpa [Value.cells] using k1
  obtain ⟨z2, f2⟩ := fld (hf 2 _ rfl) (by rw [hy]; decide)
  obtain ⟨u2, y2, k2, r2, w2⟩ := (op_int .i64 Try.underlying3) _ _ _ _ _ _ _ _ _ f2
  replace k2 : u2.cells.toList = [c2] := k2.trans (by kernel_rfl)
  obtain rfl : u2 = .int .i64 y2 := r2
  obtain rfl : Value.int .i64 y2 = c2 := by simpa [Value.cells] using k2
  obtain ⟨z3, f3⟩ := fld (hf 3 _ rfl) (by rw [hy]; decide)
  obtain ⟨u3, y3, k3, r3, w3⟩ := (op_int .i64 Try.underlying3) _ _ _ _ _ _ _ _ _ f3
  replace k3 : u3.cells.toList = [c3] := k3.trans (by kernel_rfl)
  obtain rfl : u3 = .int .i64 y3 := r3
  obtain rfl : Value.int .i64 y3 = c3 := by simpa [Value.cells] using k3
  exact ⟨_, ⟨y0, y1, y2, y3⟩, rfl, rfl, ⟨w0, w1, w2, w3⟩⟩
def wf_api_Point (x : api_Point) : Prop := (InK .i64) x.X ∧ (InK .i64) x.Y
theorem op_api_Point : OpC Try.prog 75 r_api_Point wf_api_Point := fun H enc w base spare held fuel cs x h => by
  obtain ⟨ys, m, _, _, hl, hy, hf⟩ := DataW.trod_struct Try.underlying75 h
  obtain ⟨c0, c1, rfl⟩ := len2 (hl.trans (by kernel_rfl))
  obtain ⟨z0, f0⟩ := fld (hf 0 _ rfl) (by rw [hy]; decide)
  obtain ⟨u0, y0, k0, r0, w0⟩ := (op_int .i64 Try.underlying3) _ _ _ _ _ _ _ _ _ f0
  replace k0 : u0.cells.toList = [c0] := k0.trans (by kernel_rfl)
  obtain rfl : u0 = .int .i64 y0 := r0
  obtain rfl : Value.int .i64 y0 = c0 := by simpa [Value.cells] using k0
  obtain ⟨z1, f1⟩ := fld (hf 1 _ rfl) (by rw [hy]; decide)
  obtain ⟨u1, y1, k1, r1, w1⟩ := (op_int .i64 Try.underlying3) _ _ _ _ _ _ _ _ _ f1
  replace k1 : u1.cells.toList = [c1] := k1.trans (by kernel_rfl)
  obtain rfl : u1 = .int .i64 y1 := r1
  obtain rfl : Value.int .i64 y1 = c1 := by simpa [Value.cells] using k1
  exact ⟨_, ⟨y0, y1⟩, rfl, rfl, ⟨w0, w1⟩⟩
def wf_gauge_ratio (x : gauge_ratio) : Prop := (InK .i64) x.num ∧ (InK .i64) x.den
theorem op_gauge_ratio : OpC Try.prog 121 r_gauge_ratio wf_gauge_ratio := fun H enc w base spare held fuel cs x h => by
  obtain ⟨ys, m, _, _, hl, hy, hf⟩ := DataW.trod_struct Try.underlying121 h
  obtain ⟨c0, c1, rfl⟩ := len2 (hl.trans (by kernel_rfl))
  obtain ⟨z0, f0⟩ := fld (hf 0 _ rfl) (by rw [hy]; decide)
  obtain ⟨u0, y0, k0, r0, w0⟩ := (op_int .i64 Try.underlying3) _ _ _ _ _ _ _ _ _ f0
  replace k0 : u0.cells.toList = [c0] := k0.trans (by kernel_rfl)
  obtain rfl : u0 = .int .i64 y0 := r0
  obtain rfl : Value.int .i64 y0 = c0 := by simpa [Value.cells] using k0
  obtain ⟨z1, f1⟩ := fld (hf 1 _ rfl) (by rw [hy]; decide)
  obtain ⟨u1, y1, k1, r1, w1⟩ := (op_int .i64 Try.underlying3) _ _ _ _ _ _ _ _ _ f1
  replace k1 : u1.cells.toList = [c1] := k1.trans (by kernel_rfl)
  obtain rfl : u1 = .int .i64 y1 := r1
  obtain rfl : Value.int .i64 y1 = c1 := by simpa [Value.cells] using k1
  exact ⟨_, ⟨y0, y1⟩, rfl, rfl, ⟨w0, w1⟩⟩
def wf_api_Shape (x : api_Shape) : Prop := (Wl wf_api_Point) x.Left ∧ (Wl wf_api_Point) x.Right
theorem op_api_Shape : OpC Try.prog 26 r_api_Shape wf_api_Shape := fun H enc w base spare held fuel cs x h => by
  obtain ⟨ys, m, _, _, hl, hy, hf⟩ := DataW.trod_struct Try.underlying26 h
  obtain ⟨c0, c1, rfl⟩ := len2 (hl.trans (by kernel_rfl))
  obtain ⟨z0, f0⟩ := fld (hf 0 _ rfl) (by rw [hy]; decide)
  obtain ⟨u0, y0, k0, r0, w0⟩ := (op_slice (r := r_api_Point) Try.underlying24 (by kernel_rfl) op_api_Point) _ _ _ _ _ _ _ _ _ f0
  replace k0 : u0.cells.toList = [c0] := k0.trans (by kernel_rfl)
  rw [scal_L _ _ _ _ _ r0] at k0
  obtain rfl : u0 = c0 := by simpa using k0
  obtain ⟨z1, f1⟩ := fld (hf 1 _ rfl) (by rw [hy]; decide)
  obtain ⟨u1, y1, k1, r1, w1⟩ := (op_slice (r := r_api_Point) Try.underlying24 (by kernel_rfl) op_api_Point) _ _ _ _ _ _ _ _ _ f1
  replace k1 : u1.cells.toList = [c1] := k1.trans (by kernel_rfl)
  rw [scal_L _ _ _ _ _ r1] at k1
  obtain rfl : u1 = c1 := by simpa using k1
  exact ⟨_, ⟨y0, y1⟩, rfl, ⟨_, _, rfl, r0, r1⟩, ⟨w0, w1⟩⟩
def wf_api_Piece (x : api_Piece) : Prop := (Wl (InK .i64)) x.Left ∧ (Wl (InK .i64)) x.Right
theorem op_api_Piece : OpC Try.prog 36 r_api_Piece wf_api_Piece := fun H enc w base spare held fuel cs x h => by
  obtain ⟨ys, m, _, _, hl, hy, hf⟩ := DataW.trod_struct Try.underlying36 h
  obtain ⟨c0, c1, rfl⟩ := len2 (hl.trans (by kernel_rfl))
  obtain ⟨z0, f0⟩ := fld (hf 0 _ rfl) (by rw [hy]; decide)
  obtain ⟨u0, y0, k0, r0, w0⟩ := (op_slice (r := (rI .i64)) Try.underlying34 (by kernel_rfl) (op_int .i64 Try.underlying3)) _ _ _ _ _ _ _ _ _ f0
  replace k0 : u0.cells.toList = [c0] := k0.trans (by kernel_rfl)
  rw [scal_L _ _ _ _ _ r0] at k0
  obtain rfl : u0 = c0 := by simpa using k0
  obtain ⟨z1, f1⟩ := fld (hf 1 _ rfl) (by rw [hy]; decide)
  obtain ⟨u1, y1, k1, r1, w1⟩ := (op_slice (r := (rI .i64)) Try.underlying34 (by kernel_rfl) (op_int .i64 Try.underlying3)) _ _ _ _ _ _ _ _ _ f1
  replace k1 : u1.cells.toList = [c1] := k1.trans (by kernel_rfl)
  rw [scal_L _ _ _ _ _ r1] at k1
  obtain rfl : u1 = c1 := by simpa using k1
  exact ⟨_, ⟨y0, y1⟩, rfl, ⟨_, _, rfl, r0, r1⟩, ⟨w0, w1⟩⟩
def wf_A2_Int (x : (Int × Int)) : Prop := (InK .i64) x.1 ∧ (InK .i64) x.2
theorem op_A2_Int : OpC Try.prog 53 r_A2_Int wf_A2_Int := fun H enc w base spare held fuel cs x h => by
  obtain ⟨ys, m, _, _, hl, hy, hf⟩ := DataW.trod_array Try.underlying53 h
  obtain ⟨c0, c1, rfl⟩ := len2 (hl.trans (by kernel_rfl))
  obtain ⟨z0, f0⟩ := fld (hf 0 (by decide)) (by rw [hy]; decide)
  obtain ⟨u0, y0, k0, r0, w0⟩ := (op_int .i64 Try.underlying3) _ _ _ _ _ _ _ _ _ f0
  replace k0 : u0.cells.toList = [c0] := k0.trans (by kernel_rfl)
  obtain rfl : u0 = .int .i64 y0 := r0
  obtain rfl : Value.int .i64 y0 = c0 := by simpa [Value.cells] using k0
  obtain ⟨z1, f1⟩ := fld (hf 1 (by decide)) (by rw [hy]; decide)
  obtain ⟨u1, y1, k1, r1, w1⟩ := (op_int .i64 Try.underlying3) _ _ _ _ _ _ _ _ _ f1
  replace k1 : u1.cells.toList = [c1] := k1.trans (by kernel_rfl)
  obtain rfl : u1 = .int .i64 y1 := r1
  obtain rfl : Value.int .i64 y1 = c1 := by simpa [Value.cells] using k1
  exact ⟨_, (y0, y1), rfl, rfl, ⟨w0, w1⟩⟩
def wf_api_Stitch (x : api_Stitch) : Prop := (InK .u8) x.Kind ∧ (fun _ => True) x.Purl ∧ (InK .i64) x.A ∧ (InK .i64) x.B
theorem op_api_Stitch : OpC Try.prog 82 r_api_Stitch wf_api_Stitch := fun H enc w base spare held fuel cs x h => by
  obtain ⟨ys, m, _, _, hl, hy, hf⟩ := DataW.trod_struct Try.underlying82 h
  obtain ⟨c0, c1, c2, c3, rfl⟩ := len4 (hl.trans (by kernel_rfl))
  obtain ⟨z0, f0⟩ := fld (hf 0 _ rfl) (by rw [hy]; decide)
  obtain ⟨u0, y0, k0, r0, w0⟩ := (op_int .u8 Try.underlying5) _ _ _ _ _ _ _ _ _ f0
  replace k0 : u0.cells.toList = [c0] := k0.trans (by kernel_rfl)
  obtain rfl : u0 = .int .u8 y0 := r0
  obtain rfl : Value.int .u8 y0 = c0 := by simpa [Value.cells] using k0
  obtain ⟨z1, f1⟩ := fld (hf 1 _ rfl) (by rw [hy]; decide)
  obtain ⟨u1, y1, k1, r1, w1⟩ := (op_bool Try.underlying4) _ _ _ _ _ _ _ _ _ f1
  replace k1 : u1.cells.toList = [c1] := k1.trans (by kernel_rfl)
  obtain rfl : u1 = .bool y1 := r1
  obtain rfl : Value.bool y1 = c1 := by simpa [Value.cells] using k1
  obtain ⟨z2, f2⟩ := fld (hf 2 _ rfl) (by rw [hy]; decide)
  obtain ⟨u2, y2, k2, r2, w2⟩ := (op_int .i64 Try.underlying3) _ _ _ _ _ _ _ _ _ f2
  replace k2 : u2.cells.toList = [c2] := k2.trans (by kernel_rfl)
  obtain rfl : u2 = .int .i64 y2 := r2
  obtain rfl : Value.int .i64 y2 = c2 := by simpa [Value.cells] using k2
  obtain ⟨z3, f3⟩ := fld (hf 3 _ rfl) (by rw [hy]; decide)
  obtain ⟨u3, y3, k3, r3, w3⟩ := (op_int .i64 Try.underlying3) _ _ _ _ _ _ _ _ _ f3
  replace k3 : u3.cells.toList = [c3] := k3.trans (by kernel_rfl)
  obtain rfl : u3 = .int .i64 y3 := r3
  obtain rfl : Value.int .i64 y3 = c3 := by simpa [Value.cells] using k3
  exact ⟨_, ⟨y0, y1, y2, y3⟩, rfl, rfl, ⟨w0, w1, w2, w3⟩⟩
def wf_api_Row (x : api_Row) : Prop := (fun _ => True) x.Back ∧ (Wl wf_api_Stitch) x.Cells
theorem op_api_Row : OpC Try.prog 80 r_api_Row wf_api_Row := fun H enc w base spare held fuel cs x h => by
  obtain ⟨ys, m, _, _, hl, hy, hf⟩ := DataW.trod_struct Try.underlying80 h
  obtain ⟨c0, c1, rfl⟩ := len2 (hl.trans (by kernel_rfl))
  obtain ⟨z0, f0⟩ := fld (hf 0 _ rfl) (by rw [hy]; decide)
  obtain ⟨u0, y0, k0, r0, w0⟩ := (op_bool Try.underlying4) _ _ _ _ _ _ _ _ _ f0
  replace k0 : u0.cells.toList = [c0] := k0.trans (by kernel_rfl)
  obtain rfl : u0 = .bool y0 := r0
  obtain rfl : Value.bool y0 = c0 := by simpa [Value.cells] using k0
  obtain ⟨z1, f1⟩ := fld (hf 1 _ rfl) (by rw [hy]; decide)
  obtain ⟨u1, y1, k1, r1, w1⟩ := (op_slice (r := r_api_Stitch) Try.underlying78 (by kernel_rfl) op_api_Stitch) _ _ _ _ _ _ _ _ _ f1
  replace k1 : u1.cells.toList = [c1] := k1.trans (by kernel_rfl)
  rw [scal_L _ _ _ _ _ r1] at k1
  obtain rfl : u1 = c1 := by simpa using k1
  exact ⟨_, ⟨y0, y1⟩, rfl, ⟨_, rfl, r1⟩, ⟨w0, w1⟩⟩
def wf_api_Chart (x : api_Chart) : Prop := (InK .i64) x.Start ∧ (Wl wf_api_Row) x.Rows
theorem op_api_Chart : OpC Try.prog 58 r_api_Chart wf_api_Chart := fun H enc w base spare held fuel cs x h => by
  obtain ⟨ys, m, _, _, hl, hy, hf⟩ := DataW.trod_struct Try.underlying58 h
  obtain ⟨c0, c1, rfl⟩ := len2 (hl.trans (by kernel_rfl))
  obtain ⟨z0, f0⟩ := fld (hf 0 _ rfl) (by rw [hy]; decide)
  obtain ⟨u0, y0, k0, r0, w0⟩ := (op_int .i64 Try.underlying3) _ _ _ _ _ _ _ _ _ f0
  replace k0 : u0.cells.toList = [c0] := k0.trans (by kernel_rfl)
  obtain rfl : u0 = .int .i64 y0 := r0
  obtain rfl : Value.int .i64 y0 = c0 := by simpa [Value.cells] using k0
  obtain ⟨z1, f1⟩ := fld (hf 1 _ rfl) (by rw [hy]; decide)
  obtain ⟨u1, y1, k1, r1, w1⟩ := (op_slice (r := r_api_Row) Try.underlying56 (by kernel_rfl) op_api_Row) _ _ _ _ _ _ _ _ _ f1
  replace k1 : u1.cells.toList = [c1] := k1.trans (by kernel_rfl)
  rw [scal_L _ _ _ _ _ r1] at k1
  obtain rfl : u1 = c1 := by simpa using k1
  exact ⟨_, ⟨y0, y1⟩, rfl, ⟨_, rfl, r1⟩, ⟨w0, w1⟩⟩
def wf_piece_edge (x : piece_edge) : Prop := wf_api_Stitch x.s ∧ (InK .i64) x.uses
theorem op_piece_edge : OpC Try.prog 84 r_piece_edge wf_piece_edge := fun H enc w base spare held fuel cs x h => by
  obtain ⟨ys, m, _, _, hl, hy, hf⟩ := DataW.trod_struct Try.underlying84 h
  obtain ⟨c0, c1, c2, c3, c4, rfl⟩ := len5 (hl.trans (by kernel_rfl))
  obtain ⟨z0, f0⟩ := fld (hf 0 _ rfl) (by rw [hy]; decide)
  obtain ⟨u0, y0, k0, r0, w0⟩ := op_api_Stitch _ _ _ _ _ _ _ _ _ f0
  replace k0 : u0.cells.toList = [c0, c1, c2, c3] := k0.trans (by kernel_rfl)
  obtain rfl : u0 = .agg #[.int .u8 y0.Kind, .bool y0.Purl, .int .i64 y0.A, .int .i64 y0.B] := r0
  simp only [Value.cells, List.cons.injEq, and_true] at k0
  obtain ⟨rfl, rfl, rfl, rfl⟩ := k0
  obtain ⟨z1, f1⟩ := fld (hf 1 _ rfl) (by rw [hy]; decide)
  obtain ⟨u1, y1, k1, r1, w1⟩ := (op_int .i64 Try.underlying3) _ _ _ _ _ _ _ _ _ f1
  replace k1 : u1.cells.toList = [c4] := k1.trans (by kernel_rfl)
  obtain rfl : u1 = .int .i64 y1 := r1
  obtain rfl : Value.int .i64 y1 = c4 := by simpa [Value.cells] using k1
  exact ⟨_, ⟨y0, y1⟩, rfl, rfl, ⟨w0, w1⟩⟩

end Go.Proofs.Ytmedbnjhgkcndaa
