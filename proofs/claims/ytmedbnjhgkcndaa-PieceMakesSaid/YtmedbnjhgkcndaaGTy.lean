import Derived.Test.YtmedbnjhgkcndaaProg
import Derived.Test.YtmedbnjhgkcndaaSpL
namespace Go.Proofs.Ytmedbnjhgkcndaa
open Go.RowKit
set_option linter.unusedVariables false

structure api_Gauge where
  Stitches : Int
  Width : Int
  Rows : Int
  Height : Int
def r_api_Gauge : R api_Gauge where
  sz := 4
  rep := fun E w v x => v = .agg #[.int .i64 x.Stitches, .int .i64 x.Width, .int .i64 x.Rows, .int .i64 x.Height]
  pos := by decide
  size := by rintro _ _ _ _ rfl; rfl
  one := by
    rintro _ _ _ _ rfl u hu
    simp [Value.cells] at hu
    rcases hu with rfl | rfl | rfl | rfl
    · rfl
    · rfl
    · rfl
    · rfl
  mono := fun _ h => h
theorem aggr_api_Gauge : Aggr r_api_Gauge := by rintro _ _ _ _ rfl; exact ⟨_, rfl⟩
theorem comp_api_Gauge_Stitches : Comp r_api_Gauge (rI .i64) 0 (·.Stitches) := by
  rintro _ _ _ x rfl
  refine ⟨.int .i64 x.Stitches, rfl, fun j c hj => ?_⟩
  match j, hj with
  | 0, hj => exact hj
  | j + 1, hj => exact absurd (List.getElem?_eq_some_iff.1 hj).1 (by simp [Value.cells])
theorem comp_api_Gauge_Width : Comp r_api_Gauge (rI .i64) 1 (·.Width) := by
  rintro _ _ _ x rfl
  refine ⟨.int .i64 x.Width, rfl, fun j c hj => ?_⟩
  match j, hj with
  | 0, hj => exact hj
  | j + 1, hj => exact absurd (List.getElem?_eq_some_iff.1 hj).1 (by simp [Value.cells])
theorem comp_api_Gauge_Rows : Comp r_api_Gauge (rI .i64) 2 (·.Rows) := by
  rintro _ _ _ x rfl
  refine ⟨.int .i64 x.Rows, rfl, fun j c hj => ?_⟩
  match j, hj with
  | 0, hj => exact hj
  | j + 1, hj => exact absurd (List.getElem?_eq_some_iff.1 hj).1 (by simp [Value.cells])
theorem comp_api_Gauge_Height : Comp r_api_Gauge (rI .i64) 3 (·.Height) := by
  rintro _ _ _ x rfl
  refine ⟨.int .i64 x.Height, rfl, fun j c hj => ?_⟩
  match j, hj with
  | 0, hj => exact hj
  | j + 1, hj => exact absurd (List.getElem?_eq_some_iff.1 hj).1 (by simp [Value.cells])
structure api_Point where
  X : Int
  Y : Int
def r_api_Point : R api_Point where
  sz := 2
  rep := fun E w v x => v = .agg #[.int .i64 x.X, .int .i64 x.Y]
  pos := by decide
  size := by rintro _ _ _ _ rfl; rfl
  one := by
    rintro _ _ _ _ rfl u hu
    simp [Value.cells] at hu
    rcases hu with rfl | rfl
    · rfl
    · rfl
  mono := fun _ h => h
theorem aggr_api_Point : Aggr r_api_Point := by rintro _ _ _ _ rfl; exact ⟨_, rfl⟩
theorem comp_api_Point_X : Comp r_api_Point (rI .i64) 0 (·.X) := by
  rintro _ _ _ x rfl
  refine ⟨.int .i64 x.X, rfl, fun j c hj => ?_⟩
  match j, hj with
  | 0, hj => exact hj
  | j + 1, hj => exact absurd (List.getElem?_eq_some_iff.1 hj).1 (by simp [Value.cells])
theorem comp_api_Point_Y : Comp r_api_Point (rI .i64) 1 (·.Y) := by
  rintro _ _ _ x rfl
  refine ⟨.int .i64 x.Y, rfl, fun j c hj => ?_⟩
  match j, hj with
  | 0, hj => exact hj
  | j + 1, hj => exact absurd (List.getElem?_eq_some_iff.1 hj).1 (by simp [Value.cells])
structure gauge_ratio where
  num : Int
  den : Int
def r_gauge_ratio : R gauge_ratio where
  sz := 2
  rep := fun E w v x => v = .agg #[.int .i64 x.num, .int .i64 x.den]
  pos := by decide
  size := by rintro _ _ _ _ rfl; rfl
  one := by
    rintro _ _ _ _ rfl u hu
    simp [Value.cells] at hu
    rcases hu with rfl | rfl
    · rfl
    · rfl
  mono := fun _ h => h
theorem aggr_gauge_ratio : Aggr r_gauge_ratio := by rintro _ _ _ _ rfl; exact ⟨_, rfl⟩
theorem comp_gauge_ratio_num : Comp r_gauge_ratio (rI .i64) 0 (·.num) := by
  rintro _ _ _ x rfl
  refine ⟨.int .i64 x.num, rfl, fun j c hj => ?_⟩
  match j, hj with
  | 0, hj => exact hj
  | j + 1, hj => exact absurd (List.getElem?_eq_some_iff.1 hj).1 (by simp [Value.cells])
theorem comp_gauge_ratio_den : Comp r_gauge_ratio (rI .i64) 1 (·.den) := by
  rintro _ _ _ x rfl
  refine ⟨.int .i64 x.den, rfl, fun j c hj => ?_⟩
  match j, hj with
  | 0, hj => exact hj
  | j + 1, hj => exact absurd (List.getElem?_eq_some_iff.1 hj).1 (by simp [Value.cells])
structure api_Shape where
  Left : (List api_Point)
  Right : (List api_Point)
def r_api_Shape : R api_Shape where
  sz := 2
  rep := fun E w v x => ∃ v0 v1, v = .agg #[v0, v1] ∧ (rL r_api_Point).rep E w v0 x.Left ∧ (rL r_api_Point).rep E w v1 x.Right
  pos := by decide
  size := by rintro _ _ _ _ ⟨v0, v1, rfl, h0, h1⟩; rfl
  one := by
    rintro _ _ _ _ ⟨v0, v1, rfl, h0, h1⟩ u hu
    simp [Value.cells] at hu
    rcases hu with rfl | rfl
    · exact (rL r_api_Point).one h0 _ (by rw [scal_L _ _ _ _ _ h0]; simp)
    · exact (rL r_api_Point).one h1 _ (by rw [scal_L _ _ _ _ _ h1]; simp)
  mono := by
    rintro _ _ _ _ _ _ h ⟨v0, v1, e, h0, h1⟩
    exact ⟨v0, v1, e, (rL r_api_Point).mono h h0, (rL r_api_Point).mono h h1⟩
theorem aggr_api_Shape : Aggr r_api_Shape := by rintro _ _ _ _ ⟨v0, v1, rfl, h0, h1⟩; exact ⟨_, rfl⟩
theorem comp_api_Shape_Left : Comp r_api_Shape (rL r_api_Point) 0 (·.Left) := by
  rintro _ _ _ x ⟨v0, v1, rfl, h0, h1⟩
  refine ⟨v0, h0, fun j c hj => ?_⟩
  rw [scal_L _ _ _ _ _ h0] at hj
  match j, hj with
  | 0, hj => exact hj
  | j + 1, hj => exact absurd (List.getElem?_eq_some_iff.1 hj).1 (by simp)
theorem comp_api_Shape_Right : Comp r_api_Shape (rL r_api_Point) 1 (·.Right) := by
  rintro _ _ _ x ⟨v0, v1, rfl, h0, h1⟩
  refine ⟨v1, h1, fun j c hj => ?_⟩
  rw [scal_L _ _ _ _ _ h1] at hj
  match j, hj with
  | 0, hj => exact hj
  | j + 1, hj => exact absurd (List.getElem?_eq_some_iff.1 hj).1 (by simp)
structure api_Piece where
  Left : (List Int)
  Right : (List Int)
def r_api_Piece : R api_Piece where
  sz := 2
  rep := fun E w v x => ∃ v0 v1, v = .agg #[v0, v1] ∧ (rL (rI .i64)).rep E w v0 x.Left ∧ (rL (rI .i64)).rep E w v1 x.Right
  pos := by decide
  size := by rintro _ _ _ _ ⟨v0, v1, rfl, h0, h1⟩; rfl
  one := by
    rintro _ _ _ _ ⟨v0, v1, rfl, h0, h1⟩ u hu
    simp [Value.cells] at hu
    rcases hu with rfl | rfl
    · exact (rL (rI .i64)).one h0 _ (by rw [scal_L _ _ _ _ _ h0]; simp)
    · exact (rL (rI .i64)).one h1 _ (by rw [scal_L _ _ _ _ _ h1]; simp)
  mono := by
    rintro _ _ _ _ _ _ h ⟨v0, v1, e, h0, h1⟩
    exact ⟨v0, v1, e, (rL (rI .i64)).mono h h0, (rL (rI .i64)).mono h h1⟩
theorem aggr_api_Piece : Aggr r_api_Piece := by rintro _ _ _ _ ⟨v0, v1, rfl, h0, h1⟩; exact ⟨_, rfl⟩
theorem comp_api_Piece_Left : Comp r_api_Piece (rL (rI .i64)) 0 (·.Left) := by
  rintro _ _ _ x ⟨v0, v1, rfl, h0, h1⟩
  refine ⟨v0, h0, fun j c hj => ?_⟩
  rw [scal_L _ _ _ _ _ h0] at hj
  match j, hj with
  | 0, hj => exact hj
  | j + 1, hj => exact absurd (List.getElem?_eq_some_iff.1 hj).1 (by simp)
theorem comp_api_Piece_Right : Comp r_api_Piece (rL (rI .i64)) 1 (·.Right) := by
  rintro _ _ _ x ⟨v0, v1, rfl, h0, h1⟩
  refine ⟨v1, h1, fun j c hj => ?_⟩
  rw [scal_L _ _ _ _ _ h1] at hj
  match j, hj with
  | 0, hj => exact hj
  | j + 1, hj => exact absurd (List.getElem?_eq_some_iff.1 hj).1 (by simp)
def r_A2_Int : R (Int × Int) where
  sz := 2
  rep := fun E w v x => v = .agg #[.int .i64 x.1, .int .i64 x.2]
  pos := by decide
  size := by rintro _ _ _ _ rfl; rfl
  one := by
    rintro _ _ _ _ rfl u hu
    simp [Value.cells] at hu
    rcases hu with rfl | rfl
    · rfl
    · rfl
  mono := fun _ h => h
theorem aggr_A2_Int : Aggr r_A2_Int := by rintro _ _ _ _ rfl; exact ⟨_, rfl⟩
structure api_Stitch where
  Kind : Int
  Purl : Bool
  A : Int
  B : Int
def r_api_Stitch : R api_Stitch where
  sz := 4
  rep := fun E w v x => v = .agg #[.int .u8 x.Kind, .bool x.Purl, .int .i64 x.A, .int .i64 x.B]
  pos := by decide
  size := by rintro _ _ _ _ rfl; rfl
  one := by
    rintro _ _ _ _ rfl u hu
    simp [Value.cells] at hu
    rcases hu with rfl | rfl | rfl | rfl
    · rfl
    · rfl
    · rfl
    · rfl
  mono := fun _ h => h
theorem aggr_api_Stitch : Aggr r_api_Stitch := by rintro _ _ _ _ rfl; exact ⟨_, rfl⟩
theorem comp_api_Stitch_Kind : Comp r_api_Stitch (rI .u8) 0 (·.Kind) := by
  rintro _ _ _ x rfl
  refine ⟨.int .u8 x.Kind, rfl, fun j c hj => ?_⟩
  match j, hj with
  | 0, hj => exact hj
  | j + 1, hj => exact absurd (List.getElem?_eq_some_iff.1 hj).1 (by simp [Value.cells])
theorem comp_api_Stitch_Purl : Comp r_api_Stitch rB 1 (·.Purl) := by
  rintro _ _ _ x rfl
  refine ⟨.bool x.Purl, rfl, fun j c hj => ?_⟩
  match j, hj with
  | 0, hj => exact hj
  | j + 1, hj => exact absurd (List.getElem?_eq_some_iff.1 hj).1 (by simp [Value.cells])
theorem comp_api_Stitch_A : Comp r_api_Stitch (rI .i64) 2 (·.A) := by
  rintro _ _ _ x rfl
  refine ⟨.int .i64 x.A, rfl, fun j c hj => ?_⟩
  match j, hj with
  | 0, hj => exact hj
  | j + 1, hj => exact absurd (List.getElem?_eq_some_iff.1 hj).1 (by simp [Value.cells])
theorem comp_api_Stitch_B : Comp r_api_Stitch (rI .i64) 3 (·.B) := by
  rintro _ _ _ x rfl
  refine ⟨.int .i64 x.B, rfl, fun j c hj => ?_⟩
  match j, hj with
  | 0, hj => exact hj
  | j + 1, hj => exact absurd (List.getElem?_eq_some_iff.1 hj).1 (by simp [Value.cells])
structure api_Row where
  Back : Bool
  Cells : (List api_Stitch)
def r_api_Row : R api_Row where
  sz := 2
  rep := fun E w v x => ∃ v0, v = .agg #[.bool x.Back, v0] ∧ (rL r_api_Stitch).rep E w v0 x.Cells
  pos := by decide
  size := by rintro _ _ _ _ ⟨v0, rfl, h0⟩; rfl
  one := by
    rintro _ _ _ _ ⟨v0, rfl, h0⟩ u hu
    simp [Value.cells] at hu
    rcases hu with rfl | rfl
    · rfl
    · exact (rL r_api_Stitch).one h0 _ (by rw [scal_L _ _ _ _ _ h0]; simp)
  mono := by
    rintro _ _ _ _ _ _ h ⟨v0, e, h0⟩
    exact ⟨v0, e, (rL r_api_Stitch).mono h h0⟩
theorem aggr_api_Row : Aggr r_api_Row := by rintro _ _ _ _ ⟨v0, rfl, h0⟩; exact ⟨_, rfl⟩
theorem comp_api_Row_Back : Comp r_api_Row rB 0 (·.Back) := by
  rintro _ _ _ x ⟨v0, rfl, h0⟩
  refine ⟨.bool x.Back, rfl, fun j c hj => ?_⟩
  match j, hj with
  | 0, hj => exact hj
  | j + 1, hj => exact absurd (List.getElem?_eq_some_iff.1 hj).1 (by simp [Value.cells])
theorem comp_api_Row_Cells : Comp r_api_Row (rL r_api_Stitch) 1 (·.Cells) := by
  rintro _ _ _ x ⟨v0, rfl, h0⟩
  refine ⟨v0, h0, fun j c hj => ?_⟩
  rw [scal_L _ _ _ _ _ h0] at hj
  match j, hj with
  | 0, hj => exact hj
  | j + 1, hj => exact absurd (List.getElem?_eq_some_iff.1 hj).1 (by simp)
structure api_Chart where
  Start : Int
  Rows : (List api_Row)
def r_api_Chart : R api_Chart where
  sz := 2
  rep := fun E w v x => ∃ v0, v = .agg #[.int .i64 x.Start, v0] ∧ (rL r_api_Row).rep E w v0 x.Rows
  pos := by decide
  size := by rintro _ _ _ _ ⟨v0, rfl, h0⟩; rfl
  one := by
    rintro _ _ _ _ ⟨v0, rfl, h0⟩ u hu
    simp [Value.cells] at hu
    rcases hu with rfl | rfl
    · rfl
    · exact (rL r_api_Row).one h0 _ (by rw [scal_L _ _ _ _ _ h0]; simp)
  mono := by
    rintro _ _ _ _ _ _ h ⟨v0, e, h0⟩
    exact ⟨v0, e, (rL r_api_Row).mono h h0⟩
theorem aggr_api_Chart : Aggr r_api_Chart := by rintro _ _ _ _ ⟨v0, rfl, h0⟩; exact ⟨_, rfl⟩
theorem comp_api_Chart_Start : Comp r_api_Chart (rI .i64) 0 (·.Start) := by
  rintro _ _ _ x ⟨v0, rfl, h0⟩
  refine ⟨.int .i64 x.Start, rfl, fun j c hj => ?_⟩
  match j, hj with
  | 0, hj => exact hj
  | j + 1, hj => exact absurd (List.getElem?_eq_some_iff.1 hj).1 (by simp [Value.cells])
theorem comp_api_Chart_Rows : Comp r_api_Chart (rL r_api_Row) 1 (·.Rows) := by
  rintro _ _ _ x ⟨v0, rfl, h0⟩
  refine ⟨v0, h0, fun j c hj => ?_⟩
  rw [scal_L _ _ _ _ _ h0] at hj
  match j, hj with
  | 0, hj => exact hj
  | j + 1, hj => exact absurd (List.getElem?_eq_some_iff.1 hj).1 (by simp)
structure piece_edge where
  s : api_Stitch
  uses : Int
def r_piece_edge : R piece_edge where
  sz := 5
  rep := fun E w v x => v = .agg #[.int .u8 x.s.Kind, .bool x.s.Purl, .int .i64 x.s.A, .int .i64 x.s.B, .int .i64 x.uses]
  pos := by decide
  size := by rintro _ _ _ _ rfl; rfl
  one := by
    rintro _ _ _ _ rfl u hu
    simp [Value.cells] at hu
    rcases hu with rfl | rfl | rfl | rfl | rfl
    · rfl
    · rfl
    · rfl
    · rfl
    · rfl
  mono := fun _ h => h
theorem aggr_piece_edge : Aggr r_piece_edge := by rintro _ _ _ _ rfl; exact ⟨_, rfl⟩
theorem comp_piece_edge_s : Comp r_piece_edge r_api_Stitch 0 (·.s) := by
  rintro _ _ _ x rfl
  refine ⟨.agg #[.int .u8 x.s.Kind, .bool x.s.Purl, .int .i64 x.s.A, .int .i64 x.s.B], rfl, fun j c hj => ?_⟩
  match j, hj with
  | 0, hj => exact hj
  | 1, hj => exact hj
  | 2, hj => exact hj
  | 3, hj => exact hj
  | j + 4, hj => exact absurd (List.getElem?_eq_some_iff.1 hj).1 (by simp [Value.cells])
theorem comp_piece_edge_uses : Comp r_piece_edge (rI .i64) 4 (·.uses) := by
  rintro _ _ _ x rfl
  refine ⟨.int .i64 x.uses, rfl, fun j c hj => ?_⟩
  match j, hj with
  | 0, hj => exact hj
  | j + 1, hj => exact absurd (List.getElem?_eq_some_iff.1 hj).1 (by simp [Value.cells])
structure stitch_form where
  letter : ByteArray
  a : (Int × Int)
  b : (Int × Int)
  sided : Bool
  uses : Int
  made : Int
def r_stitch_form : R stitch_form where
  sz := 8
  rep := fun E w v x => v = .agg #[.string x.letter, .int .i64 x.a.1, .int .i64 x.a.2, .int .i64 x.b.1, .int .i64 x.b.2, .bool x.sided, .int .i64 x.uses, .int .i64 x.made]
  pos := by decide
  size := by rintro _ _ _ _ rfl; rfl
  one := by
    rintro _ _ _ _ rfl u hu
    simp [Value.cells] at hu
    rcases hu with rfl | rfl | rfl | rfl | rfl | rfl | rfl | rfl
    · rfl
    · rfl
    · rfl
    · rfl
    · rfl
    · rfl
    · rfl
    · rfl
  mono := fun _ h => h
theorem aggr_stitch_form : Aggr r_stitch_form := by rintro _ _ _ _ rfl; exact ⟨_, rfl⟩
theorem comp_stitch_form_letter : Comp r_stitch_form rS 0 (·.letter) := by
  rintro _ _ _ x rfl
  refine ⟨.string x.letter, rfl, fun j c hj => ?_⟩
  match j, hj with
  | 0, hj => exact hj
  | j + 1, hj => exact absurd (List.getElem?_eq_some_iff.1 hj).1 (by simp [Value.cells])
theorem comp_stitch_form_a : Comp r_stitch_form r_A2_Int 1 (·.a) := by
  rintro _ _ _ x rfl
  refine ⟨.agg #[.int .i64 x.a.1, .int .i64 x.a.2], rfl, fun j c hj => ?_⟩
  match j, hj with
  | 0, hj => exact hj
  | 1, hj => exact hj
  | j + 2, hj => exact absurd (List.getElem?_eq_some_iff.1 hj).1 (by simp [Value.cells])
theorem comp_stitch_form_b : Comp r_stitch_form r_A2_Int 3 (·.b) := by
  rintro _ _ _ x rfl
  refine ⟨.agg #[.int .i64 x.b.1, .int .i64 x.b.2], rfl, fun j c hj => ?_⟩
  match j, hj with
  | 0, hj => exact hj
  | 1, hj => exact hj
  | j + 2, hj => exact absurd (List.getElem?_eq_some_iff.1 hj).1 (by simp [Value.cells])
theorem comp_stitch_form_sided : Comp r_stitch_form rB 5 (·.sided) := by
  rintro _ _ _ x rfl
  refine ⟨.bool x.sided, rfl, fun j c hj => ?_⟩
  match j, hj with
  | 0, hj => exact hj
  | j + 1, hj => exact absurd (List.getElem?_eq_some_iff.1 hj).1 (by simp [Value.cells])
theorem comp_stitch_form_uses : Comp r_stitch_form (rI .i64) 6 (·.uses) := by
  rintro _ _ _ x rfl
  refine ⟨.int .i64 x.uses, rfl, fun j c hj => ?_⟩
  match j, hj with
  | 0, hj => exact hj
  | j + 1, hj => exact absurd (List.getElem?_eq_some_iff.1 hj).1 (by simp [Value.cells])
theorem comp_stitch_form_made : Comp r_stitch_form (rI .i64) 7 (·.made) := by
  rintro _ _ _ x rfl
  refine ⟨.int .i64 x.made, rfl, fun j c hj => ?_⟩
  match j, hj with
  | 0, hj => exact hj
  | j + 1, hj => exact absurd (List.getElem?_eq_some_iff.1 hj).1 (by simp [Value.cells])
theorem callee3 : ∀ vs w, (callFunc 3 vs).run Try.prog w = .ok (.enter 3 vs) w := callee Try.func3 rfl rfl
theorem callee4 : ∀ vs w, (callFunc 4 vs).run Try.prog w = .ok (.enter 4 vs) w := callee Try.func4 rfl rfl
theorem callee6 : ∀ vs w, (callFunc 6 vs).run Try.prog w = .ok (.enter 6 vs) w := callee Try.func6 rfl rfl
theorem callee7 : ∀ vs w, (callFunc 7 vs).run Try.prog w = .ok (.enter 7 vs) w := callee Try.func7 rfl rfl
theorem callee8 : ∀ vs w, (callFunc 8 vs).run Try.prog w = .ok (.enter 8 vs) w := callee Try.func8 rfl rfl
theorem callee9 : ∀ vs w, (callFunc 9 vs).run Try.prog w = .ok (.enter 9 vs) w := callee Try.func9 rfl rfl
theorem callee10 : ∀ vs w, (callFunc 10 vs).run Try.prog w = .ok (.enter 10 vs) w := callee Try.func10 rfl rfl
theorem callee11 : ∀ vs w, (callFunc 11 vs).run Try.prog w = .ok (.enter 11 vs) w := callee Try.func11 rfl rfl
theorem callee12 : ∀ vs w, (callFunc 12 vs).run Try.prog w = .ok (.enter 12 vs) w := callee Try.func12 rfl rfl
theorem callee13 : ∀ vs w, (callFunc 13 vs).run Try.prog w = .ok (.enter 13 vs) w := callee Try.func13 rfl rfl
theorem callee14 : ∀ vs w, (callFunc 14 vs).run Try.prog w = .ok (.enter 14 vs) w := callee Try.func14 rfl rfl
theorem callee15 : ∀ vs w, (callFunc 15 vs).run Try.prog w = .ok (.enter 15 vs) w := callee Try.func15 rfl rfl
theorem callee16 : ∀ vs w, (callFunc 16 vs).run Try.prog w = .ok (.enter 16 vs) w := callee Try.func16 rfl rfl
theorem callee17 : ∀ vs w, (callFunc 17 vs).run Try.prog w = .ok (.enter 17 vs) w := callee Try.func17 rfl rfl
theorem callee18 : ∀ vs w, (callFunc 18 vs).run Try.prog w = .ok (.enter 18 vs) w := callee Try.func18 rfl rfl
theorem callee19 : ∀ vs w, (callFunc 19 vs).run Try.prog w = .ok (.enter 19 vs) w := callee Try.func19 rfl rfl
theorem callee20 : ∀ vs w, (callFunc 20 vs).run Try.prog w = .ok (.enter 20 vs) w := callee Try.func20 rfl rfl
theorem callee21 : ∀ vs w, (callFunc 21 vs).run Try.prog w = .ok (.enter 21 vs) w := callee Try.func21 rfl rfl
theorem callee23 : ∀ vs w, (callFunc 23 vs).run Try.prog w = .ok (.enter 23 vs) w := callee Try.func23 rfl rfl
theorem callee25 : ∀ vs w, (callFunc 25 vs).run Try.prog w = .ok (.enter 25 vs) w := callee Try.func25 rfl rfl
theorem callee26 : ∀ vs w, (callFunc 26 vs).run Try.prog w = .ok (.enter 26 vs) w := callee Try.func26 rfl rfl
theorem callee27 : ∀ vs w, (callFunc 27 vs).run Try.prog w = .ok (.enter 27 vs) w := callee Try.func27 rfl rfl
theorem callee28 : ∀ vs w, (callFunc 28 vs).run Try.prog w = .ok (.enter 28 vs) w := callee Try.func28 rfl rfl
theorem callee29 : ∀ vs w, (callFunc 29 vs).run Try.prog w = .ok (.enter 29 vs) w := callee Try.func29 rfl rfl
theorem callee30 : ∀ vs w, (callFunc 30 vs).run Try.prog w = .ok (.enter 30 vs) w := callee Try.func30 rfl rfl
theorem callee31 : ∀ vs w, (callFunc 31 vs).run Try.prog w = .ok (.enter 31 vs) w := callee Try.func31 rfl rfl
theorem callee32 : ∀ vs w, (callFunc 32 vs).run Try.prog w = .ok (.enter 32 vs) w := callee Try.func32 rfl rfl
theorem callee33 : ∀ vs w, (callFunc 33 vs).run Try.prog w = .ok (.enter 33 vs) w := callee Try.func33 rfl rfl
theorem callee34 : ∀ vs w, (callFunc 34 vs).run Try.prog w = .ok (.enter 34 vs) w := callee Try.func34 rfl rfl
theorem callee35 : ∀ vs w, (callFunc 35 vs).run Try.prog w = .ok (.enter 35 vs) w := callee Try.func35 rfl rfl
theorem callee37 : ∀ vs w, (callFunc 37 vs).run Try.prog w = .ok (.enter 37 vs) w := callee Try.func37 rfl rfl
theorem callee38 : ∀ vs w, (callFunc 38 vs).run Try.prog w = .ok (.enter 38 vs) w := callee Try.func38 rfl rfl
theorem callee39 : ∀ vs w, (callFunc 39 vs).run Try.prog w = .ok (.enter 39 vs) w := callee Try.func39 rfl rfl
theorem callee40 : ∀ vs w, (callFunc 40 vs).run Try.prog w = .ok (.enter 40 vs) w := callee Try.func40 rfl rfl
theorem callee41 : ∀ vs w, (callFunc 41 vs).run Try.prog w = .ok (.enter 41 vs) w := callee Try.func41 rfl rfl
theorem callee42 : ∀ vs w, (callFunc 42 vs).run Try.prog w = .ok (.enter 42 vs) w := callee Try.func42 rfl rfl
theorem callee43 : ∀ vs w, (callFunc 43 vs).run Try.prog w = .ok (.enter 43 vs) w := callee Try.func43 rfl rfl
theorem callee44 : ∀ vs w, (callFunc 44 vs).run Try.prog w = .ok (.enter 44 vs) w := callee Try.func44 rfl rfl
theorem callee45 : ∀ vs w, (callFunc 45 vs).run Try.prog w = .ok (.enter 45 vs) w := callee Try.func45 rfl rfl
theorem callee46 : ∀ vs w, (callFunc 46 vs).run Try.prog w = .ok (.enter 46 vs) w := callee Try.func46 rfl rfl
theorem callee47 : ∀ vs w, (callFunc 47 vs).run Try.prog w = .ok (.enter 47 vs) w := callee Try.func47 rfl rfl
theorem callee48 : ∀ vs w, (callFunc 48 vs).run Try.prog w = .ok (.enter 48 vs) w := callee Try.func48 rfl rfl
theorem callee49 : ∀ vs w, (callFunc 49 vs).run Try.prog w = .ok (.enter 49 vs) w := callee Try.func49 rfl rfl
theorem callee50 : ∀ vs w, (callFunc 50 vs).run Try.prog w = .ok (.enter 50 vs) w := callee Try.func50 rfl rfl
theorem callee51 : ∀ vs w, (callFunc 51 vs).run Try.prog w = .ok (.enter 51 vs) w := callee Try.func51 rfl rfl
theorem callee53 : ∀ vs w, (callFunc 53 vs).run Try.prog w = .ok (.enter 53 vs) w := callee Try.func53 rfl rfl
theorem callee54 : ∀ vs w, (callFunc 54 vs).run Try.prog w = .ok (.enter 54 vs) w := callee Try.func54 rfl rfl
theorem callee55 : ∀ vs w, (callFunc 55 vs).run Try.prog w = .ok (.enter 55 vs) w := callee Try.func55 rfl rfl
theorem callee56 : ∀ vs w, (callFunc 56 vs).run Try.prog w = .ok (.enter 56 vs) w := callee Try.func56 rfl rfl
theorem callee57 : ∀ vs w, (callFunc 57 vs).run Try.prog w = .ok (.enter 57 vs) w := callee Try.func57 rfl rfl
theorem callee58 : ∀ vs w, (callFunc 58 vs).run Try.prog w = .ok (.enter 58 vs) w := callee Try.func58 rfl rfl
theorem callee59 : ∀ vs w, (callFunc 59 vs).run Try.prog w = .ok (.enter 59 vs) w := callee Try.func59 rfl rfl
theorem callee60 : ∀ vs w, (callFunc 60 vs).run Try.prog w = .ok (.enter 60 vs) w := callee Try.func60 rfl rfl
theorem callee61 : ∀ vs w, (callFunc 61 vs).run Try.prog w = .ok (.enter 61 vs) w := callee Try.func61 rfl rfl
theorem callee62 : ∀ vs w, (callFunc 62 vs).run Try.prog w = .ok (.enter 62 vs) w := callee Try.func62 rfl rfl
theorem callee63 : ∀ vs w, (callFunc 63 vs).run Try.prog w = .ok (.enter 63 vs) w := callee Try.func63 rfl rfl
theorem callee64 : ∀ vs w, (callFunc 64 vs).run Try.prog w = .ok (.enter 64 vs) w := callee Try.func64 rfl rfl
theorem callee65 : ∀ vs w, (callFunc 65 vs).run Try.prog w = .ok (.enter 65 vs) w := callee Try.func65 rfl rfl
theorem callee66 : ∀ vs w, (callFunc 66 vs).run Try.prog w = .ok (.enter 66 vs) w := callee Try.func66 rfl rfl
theorem callee67 : ∀ vs w, (callFunc 67 vs).run Try.prog w = .ok (.enter 67 vs) w := callee Try.func67 rfl rfl
theorem callee68 : ∀ vs w, (callFunc 68 vs).run Try.prog w = .ok (.enter 68 vs) w := callee Try.func68 rfl rfl
theorem callee69 : ∀ vs w, (callFunc 69 vs).run Try.prog w = .ok (.enter 69 vs) w := callee Try.func69 rfl rfl
theorem callee70 : ∀ vs w, (callFunc 70 vs).run Try.prog w = .ok (.enter 70 vs) w := callee Try.func70 rfl rfl
theorem callee71 : ∀ vs w, (callFunc 71 vs).run Try.prog w = .ok (.enter 71 vs) w := callee Try.func71 rfl rfl
theorem callee73 : ∀ vs w, (callFunc 73 vs).run Try.prog w = .ok (.enter 73 vs) w := callee Try.func73 rfl rfl
theorem callee74 : ∀ vs w, (callFunc 74 vs).run Try.prog w = .ok (.enter 74 vs) w := callee Try.func74 rfl rfl
theorem callee75 : ∀ vs w, (callFunc 75 vs).run Try.prog w = .ok (.enter 75 vs) w := callee Try.func75 rfl rfl
theorem callee76 : ∀ vs w, (callFunc 76 vs).run Try.prog w = .ok (.enter 76 vs) w := callee Try.func76 rfl rfl
theorem callee77 : ∀ vs w, (callFunc 77 vs).run Try.prog w = .ok (.enter 77 vs) w := callee Try.func77 rfl rfl
theorem callee78 : ∀ vs w, (callFunc 78 vs).run Try.prog w = .ok (.enter 78 vs) w := callee Try.func78 rfl rfl
theorem callee79 : ∀ vs w, (callFunc 79 vs).run Try.prog w = .ok (.enter 79 vs) w := callee Try.func79 rfl rfl
theorem callee80 : ∀ vs w, (callFunc 80 vs).run Try.prog w = .ok (.enter 80 vs) w := callee Try.func80 rfl rfl
theorem callee81 : ∀ vs w, (callFunc 81 vs).run Try.prog w = .ok (.enter 81 vs) w := callee Try.func81 rfl rfl
theorem callee82 : ∀ vs w, (callFunc 82 vs).run Try.prog w = .ok (.enter 82 vs) w := callee Try.func82 rfl rfl
theorem callee83 : ∀ vs w, (callFunc 83 vs).run Try.prog w = .ok (.enter 83 vs) w := callee Try.func83 rfl rfl
theorem callee84 : ∀ vs w, (callFunc 84 vs).run Try.prog w = .ok (.enter 84 vs) w := callee Try.func84 rfl rfl
theorem callee85 : ∀ vs w, (callFunc 85 vs).run Try.prog w = .ok (.enter 85 vs) w := callee Try.func85 rfl rfl

end Go.Proofs.Ytmedbnjhgkcndaa
