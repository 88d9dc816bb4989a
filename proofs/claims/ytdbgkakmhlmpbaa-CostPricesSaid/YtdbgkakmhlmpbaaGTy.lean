import Derived.Test.YtdbgkakmhlmpbaaProg
import Derived.Test.YtdbgkakmhlmpbaaSpM
namespace Go.Proofs.Ytdbgkakmhlmpbaa
open Go.RowKit
set_option linter.unusedVariables false

structure api_Bill where
  Length : Int
  Time : Int
def r_api_Bill : R api_Bill where
  sz := 2
  rep := fun E w v x => v = .agg #[.int .i64 x.Length, .int .i64 x.Time]
  pos := by decide
  size := by rintro _ _ _ _ rfl; rfl
  one := by
    rintro _ _ _ _ rfl u hu
    simp [Value.cells] at hu
    rcases hu with rfl | rfl
    · rfl
    · rfl
  mono := fun _ h => h
theorem aggr_api_Bill : Aggr r_api_Bill := by rintro _ _ _ _ rfl; exact ⟨_, rfl⟩
theorem comp_api_Bill_Length : Comp r_api_Bill (rI .i64) 0 (·.Length) := by
  rintro _ _ _ x rfl
  refine ⟨.int .i64 x.Length, rfl, fun j c hj => ?_⟩
  match j, hj with
  | 0, hj => exact hj
  | j + 1, hj => exact absurd (List.getElem?_eq_some_iff.1 hj).1 (by simp [Value.cells])
theorem comp_api_Bill_Time : Comp r_api_Bill (rI .i64) 1 (·.Time) := by
  rintro _ _ _ x rfl
  refine ⟨.int .i64 x.Time, rfl, fun j c hj => ?_⟩
  match j, hj with
  | 0, hj => exact hj
  | j + 1, hj => exact absurd (List.getElem?_eq_some_iff.1 hj).1 (by simp [Value.cells])
structure api_Ratio where
  Num : Int
  Den : Int
def r_api_Ratio : R api_Ratio where
  sz := 2
  rep := fun E w v x => v = .agg #[.int .i64 x.Num, .int .i64 x.Den]
  pos := by decide
  size := by rintro _ _ _ _ rfl; rfl
  one := by
    rintro _ _ _ _ rfl u hu
    simp [Value.cells] at hu
    rcases hu with rfl | rfl
    · rfl
    · rfl
  mono := fun _ h => h
theorem aggr_api_Ratio : Aggr r_api_Ratio := by rintro _ _ _ _ rfl; exact ⟨_, rfl⟩
theorem comp_api_Ratio_Num : Comp r_api_Ratio (rI .i64) 0 (·.Num) := by
  rintro _ _ _ x rfl
  refine ⟨.int .i64 x.Num, rfl, fun j c hj => ?_⟩
  match j, hj with
  | 0, hj => exact hj
  | j + 1, hj => exact absurd (List.getElem?_eq_some_iff.1 hj).1 (by simp [Value.cells])
theorem comp_api_Ratio_Den : Comp r_api_Ratio (rI .i64) 1 (·.Den) := by
  rintro _ _ _ x rfl
  refine ⟨.int .i64 x.Den, rfl, fun j c hj => ?_⟩
  match j, hj with
  | 0, hj => exact hj
  | j + 1, hj => exact absurd (List.getElem?_eq_some_iff.1 hj).1 (by simp [Value.cells])
structure api_Count where
  System : Int
  N : api_Ratio
def r_api_Count : R api_Count where
  sz := 3
  rep := fun E w v x => v = .agg #[.int .u8 x.System, .int .i64 x.N.Num, .int .i64 x.N.Den]
  pos := by decide
  size := by rintro _ _ _ _ rfl; rfl
  one := by
    rintro _ _ _ _ rfl u hu
    simp [Value.cells] at hu
    rcases hu with rfl | rfl | rfl
    · rfl
    · rfl
    · rfl
  mono := fun _ h => h
theorem aggr_api_Count : Aggr r_api_Count := by rintro _ _ _ _ rfl; exact ⟨_, rfl⟩
theorem comp_api_Count_System : Comp r_api_Count (rI .u8) 0 (·.System) := by
  rintro _ _ _ x rfl
  refine ⟨.int .u8 x.System, rfl, fun j c hj => ?_⟩
  match j, hj with
  | 0, hj => exact hj
  | j + 1, hj => exact absurd (List.getElem?_eq_some_iff.1 hj).1 (by simp [Value.cells])
theorem comp_api_Count_N : Comp r_api_Count r_api_Ratio 1 (·.N) := by
  rintro _ _ _ x rfl
  refine ⟨.agg #[.int .i64 x.N.Num, .int .i64 x.N.Den], rfl, fun j c hj => ?_⟩
  match j, hj with
  | 0, hj => exact hj
  | 1, hj => exact hj
  | j + 2, hj => exact absurd (List.getElem?_eq_some_iff.1 hj).1 (by simp [Value.cells])
structure api_Stitch where
  Kind : Int
  Purl : Bool
  A : Int
  B : Int
def r_api_Stitch : R api_Stitch where
  sz := 4
  rep := fun E w v x => v = .agg #[.int .u8 x.Kind, .bool x.Purl, .int .i64 x.A, .int .i64 x.B]
  pos := by decide
  size := by rintro _ _ _ _ rfl; rfl
  one := by
    rintro _ _ _ _ rfl u hu
    simp [Value.cells] at hu
    rcases hu with rfl | rfl | rfl | rfl
    · rfl
    · rfl
    · rfl
    · rfl
  mono := fun _ h => h
theorem aggr_api_Stitch : Aggr r_api_Stitch := by rintro _ _ _ _ rfl; exact ⟨_, rfl⟩
theorem comp_api_Stitch_Kind : Comp r_api_Stitch (rI .u8) 0 (·.Kind) := by
  rintro _ _ _ x rfl
  refine ⟨.int .u8 x.Kind, rfl, fun j c hj => ?_⟩
  match j, hj with
  | 0, hj => exact hj
  | j + 1, hj => exact absurd (List.getElem?_eq_some_iff.1 hj).1 (by simp [Value.cells])
theorem comp_api_Stitch_Purl : Comp r_api_Stitch rB 1 (·.Purl) := by
  rintro _ _ _ x rfl
  refine ⟨.bool x.Purl, rfl, fun j c hj => ?_⟩
  match j, hj with
  | 0, hj => exact hj
  | j + 1, hj => exact absurd (List.getElem?_eq_some_iff.1 hj).1 (by simp [Value.cells])
theorem comp_api_Stitch_A : Comp r_api_Stitch (rI .i64) 2 (·.A) := by
  rintro _ _ _ x rfl
  refine ⟨.int .i64 x.A, rfl, fun j c hj => ?_⟩
  match j, hj with
  | 0, hj => exact hj
  | j + 1, hj => exact absurd (List.getElem?_eq_some_iff.1 hj).1 (by simp [Value.cells])
theorem comp_api_Stitch_B : Comp r_api_Stitch (rI .i64) 3 (·.B) := by
  rintro _ _ _ x rfl
  refine ⟨.int .i64 x.B, rfl, fun j c hj => ?_⟩
  match j, hj with
  | 0, hj => exact hj
  | j + 1, hj => exact absurd (List.getElem?_eq_some_iff.1 hj).1 (by simp [Value.cells])
structure api_Row where
  Back : Bool
  Cells : (List api_Stitch)
def r_api_Row : R api_Row where
  sz := 2
  rep := fun E w v x => ∃ v0, v = .agg #[.bool x.Back, v0] ∧ (rL r_api_Stitch).rep E w v0 x.Cells
  pos := by decide
  size := by rintro _ _ _ _ ⟨v0, rfl, h0⟩; rfl
  one := by
    rintro _ _ _ _ ⟨v0, rfl, h0⟩ u hu
    simp [Value.cells] at hu
    rcases hu with rfl | rfl
    · rfl
    · exact (rL r_api_Stitch).one h0 _ (by rw [scal_L _ _ _ _ _ h0]; simp)
  mono := by
    rintro _ _ _ _ _ _ h ⟨v0, e, h0⟩
    exact ⟨v0, e, (rL r_api_Stitch).mono h h0⟩
theorem aggr_api_Row : Aggr r_api_Row := by rintro _ _ _ _ ⟨v0, rfl, h0⟩; exact ⟨_, rfl⟩
theorem comp_api_Row_Back : Comp r_api_Row rB 0 (·.Back) := by
  rintro _ _ _ x ⟨v0, rfl, h0⟩
  refine ⟨.bool x.Back, rfl, fun j c hj => ?_⟩
  match j, hj with
  | 0, hj => exact hj
  | j + 1, hj => exact absurd (List.getElem?_eq_some_iff.1 hj).1 (by simp [Value.cells])
theorem comp_api_Row_Cells : Comp r_api_Row (rL r_api_Stitch) 1 (·.Cells) := by
  rintro _ _ _ x ⟨v0, rfl, h0⟩
  refine ⟨v0, h0, fun j c hj => ?_⟩
  rw [scal_L _ _ _ _ _ h0] at hj
  match j, hj with
  | 0, hj => exact hj
  | j + 1, hj => exact absurd (List.getElem?_eq_some_iff.1 hj).1 (by simp)
structure api_Chart where
  Start : Int
  Rows : (List api_Row)
def r_api_Chart : R api_Chart where
  sz := 2
  rep := fun E w v x => ∃ v0, v = .agg #[.int .i64 x.Start, v0] ∧ (rL r_api_Row).rep E w v0 x.Rows
  pos := by decide
  size := by rintro _ _ _ _ ⟨v0, rfl, h0⟩; rfl
  one := by
    rintro _ _ _ _ ⟨v0, rfl, h0⟩ u hu
    simp [Value.cells] at hu
    rcases hu with rfl | rfl
    · rfl
    · exact (rL r_api_Row).one h0 _ (by rw [scal_L _ _ _ _ _ h0]; simp)
  mono := by
    rintro _ _ _ _ _ _ h ⟨v0, e, h0⟩
    exact ⟨v0, e, (rL r_api_Row).mono h h0⟩
theorem aggr_api_Chart : Aggr r_api_Chart := by rintro _ _ _ _ ⟨v0, rfl, h0⟩; exact ⟨_, rfl⟩
theorem comp_api_Chart_Start : Comp r_api_Chart (rI .i64) 0 (·.Start) := by
  rintro _ _ _ x ⟨v0, rfl, h0⟩
  refine ⟨.int .i64 x.Start, rfl, fun j c hj => ?_⟩
  match j, hj with
  | 0, hj => exact hj
  | j + 1, hj => exact absurd (List.getElem?_eq_some_iff.1 hj).1 (by simp [Value.cells])
theorem comp_api_Chart_Rows : Comp r_api_Chart (rL r_api_Row) 1 (·.Rows) := by
  rintro _ _ _ x ⟨v0, rfl, h0⟩
  refine ⟨v0, h0, fun j c hj => ?_⟩
  rw [scal_L _ _ _ _ _ h0] at hj
  match j, hj with
  | 0, hj => exact hj
  | j + 1, hj => exact absurd (List.getElem?_eq_some_iff.1 hj).1 (by simp)
def r_A11_Int : R (Int × Int × Int × Int × Int × Int × Int × Int × Int × Int × Int) where
  sz := 11
  rep := fun E w v x => v = .agg #[.int .i64 x.1, .int .i64 x.2.1, .int .i64 x.2.2.1, .int .i64 x.2.2.2.1, .int .i64 x.2.2.2.2.1, .int .i64 x.2.2.2.2.2.1, .int .i64 x.2.2.2.2.2.2.1, .int .i64 x.2.2.2.2.2.2.2.1, .int .i64 x.2.2.2.2.2.2.2.2.1, .int .i64 x.2.2.2.2.2.2.2.2.2.1, .int .i64 x.2.2.2.2.2.2.2.2.2.2]
  pos := by decide
  size := by rintro _ _ _ _ rfl; rfl
  one := by
    rintro _ _ _ _ rfl u hu
    simp [Value.cells] at hu
    rcases hu with rfl | rfl | rfl | rfl | rfl | rfl | rfl | rfl | rfl | rfl | rfl
    · rfl
    · rfl
    · rfl
    · rfl
    · rfl
    · rfl
    · rfl
    · rfl
    · rfl
    · rfl
    · rfl
  mono := fun _ h => h
theorem aggr_A11_Int : Aggr r_A11_Int := by rintro _ _ _ _ rfl; exact ⟨_, rfl⟩
structure api_Rates where
  Length : (Int × Int × Int × Int × Int × Int × Int × Int × Int × Int × Int)
  Time : (Int × Int × Int × Int × Int × Int × Int × Int × Int × Int × Int)
  Turn : Int
def r_api_Rates : R api_Rates where
  sz := 23
  rep := fun E w v x => v = .agg #[.int .i64 x.Length.1, .int .i64 x.Length.2.1, .int .i64 x.Length.2.2.1, .int .i64 x.Length.2.2.2.1, .int .i64 x.Length.2.2.2.2.1, .int .i64 x.Length.2.2.2.2.2.1, .int .i64 x.Length.2.2.2.2.2.2.1, .int .i64 x.Length.2.2.2.2.2.2.2.1, .int .i64 x.Length.2.2.2.2.2.2.2.2.1, .int .i64 x.Length.2.2.2.2.2.2.2.2.2.1, .int .i64 x.Length.2.2.2.2.2.2.2.2.2.2, .int .i64 x.Time.1, .int .i64 x.Time.2.1, .int .i64 x.Time.2.2.1, .int .i64 x.Time.2.2.2.1, .int .i64 x.Time.2.2.2.2.1, .int .i64 x.Time.2.2.2.2.2.1, .int .i64 x.Time.2.2.2.2.2.2.1, .int .i64 x.Time.2.2.2.2.2.2.2.1, .int .i64 x.Time.2.2.2.2.2.2.2.2.1, .int .i64 x.Time.2.2.2.2.2.2.2.2.2.1, .int .i64 x.Time.2.2.2.2.2.2.2.2.2.2, .int .i64 x.Turn]
  pos := by decide
  size := by rintro _ _ _ _ rfl; rfl
  one := by
    rintro _ _ _ _ rfl u hu
    simp [Value.cells] at hu
    rcases hu with rfl | rfl | rfl | rfl | rfl | rfl | rfl | rfl | rfl | rfl | rfl | rfl | rfl | rfl | rfl | rfl | rfl | rfl | rfl | rfl | rfl | rfl | rfl
    · rfl
    · rfl
    · rfl
    · rfl
    · rfl
    · rfl
    · rfl
    · rfl
    · rfl
    · rfl
    · rfl
    · rfl
    · rfl
    · rfl
    · rfl
    · rfl
    · rfl
    · rfl
    · rfl
    · rfl
    · rfl
    · rfl
    · rfl
  mono := fun _ h => h
theorem aggr_api_Rates : Aggr r_api_Rates := by rintro _ _ _ _ rfl; exact ⟨_, rfl⟩
theorem comp_api_Rates_Length : Comp r_api_Rates r_A11_Int 0 (·.Length) := by
  rintro _ _ _ x rfl
  refine ⟨.agg #[.int .i64 x.Length.1, .int .i64 x.Length.2.1, .int .i64 x.Length.2.2.1, .int .i64 x.Length.2.2.2.1, .int .i64 x.Length.2.2.2.2.1, .int .i64 x.Length.2.2.2.2.2.1, .int .i64 x.Length.2.2.2.2.2.2.1, .int .i64 x.Length.2.2.2.2.2.2.2.1, .int .i64 x.Length.2.2.2.2.2.2.2.2.1, .int .i64 x.Length.2.2.2.2.2.2.2.2.2.1, .int .i64 x.Length.2.2.2.2.2.2.2.2.2.2], rfl, fun j c hj => ?_⟩
  match j, hj with
  | 0, hj => exact hj
  | 1, hj => exact hj
  | 2, hj => exact hj
  | 3, hj => exact hj
  | 4, hj => exact hj
  | 5, hj => exact hj
  | 6, hj => exact hj
  | 7, hj => exact hj
  | 8, hj => exact hj
  | 9, hj => exact hj
  | 10, hj => exact hj
  | j + 11, hj => exact absurd (List.getElem?_eq_some_iff.1 hj).1 (by simp [Value.cells])
theorem comp_api_Rates_Time : Comp r_api_Rates r_A11_Int 11 (·.Time) := by
  rintro _ _ _ x rfl
  refine ⟨.agg #[.int .i64 x.Time.1, .int .i64 x.Time.2.1, .int .i64 x.Time.2.2.1, .int .i64 x.Time.2.2.2.1, .int .i64 x.Time.2.2.2.2.1, .int .i64 x.Time.2.2.2.2.2.1, .int .i64 x.Time.2.2.2.2.2.2.1, .int .i64 x.Time.2.2.2.2.2.2.2.1, .int .i64 x.Time.2.2.2.2.2.2.2.2.1, .int .i64 x.Time.2.2.2.2.2.2.2.2.2.1, .int .i64 x.Time.2.2.2.2.2.2.2.2.2.2], rfl, fun j c hj => ?_⟩
  match j, hj with
  | 0, hj => exact hj
  | 1, hj => exact hj
  | 2, hj => exact hj
  | 3, hj => exact hj
  | 4, hj => exact hj
  | 5, hj => exact hj
  | 6, hj => exact hj
  | 7, hj => exact hj
  | 8, hj => exact hj
  | 9, hj => exact hj
  | 10, hj => exact hj
  | j + 11, hj => exact absurd (List.getElem?_eq_some_iff.1 hj).1 (by simp [Value.cells])
theorem comp_api_Rates_Turn : Comp r_api_Rates (rI .i64) 22 (·.Turn) := by
  rintro _ _ _ x rfl
  refine ⟨.int .i64 x.Turn, rfl, fun j c hj => ?_⟩
  match j, hj with
  | 0, hj => exact hj
  | j + 1, hj => exact absurd (List.getElem?_eq_some_iff.1 hj).1 (by simp [Value.cells])
def r_A2_Int : R (Int × Int) where
  sz := 2
  rep := fun E w v x => v = .agg #[.int .i64 x.1, .int .i64 x.2]
  pos := by decide
  size := by rintro _ _ _ _ rfl; rfl
  one := by
    rintro _ _ _ _ rfl u hu
    simp [Value.cells] at hu
    rcases hu with rfl | rfl
    · rfl
    · rfl
  mono := fun _ h => h
theorem aggr_A2_Int : Aggr r_A2_Int := by rintro _ _ _ _ rfl; exact ⟨_, rfl⟩
structure stitch_form where
  letter : ByteArray
  a : (Int × Int)
  b : (Int × Int)
  sided : Bool
  uses : Int
  made : Int
def r_stitch_form : R stitch_form where
  sz := 8
  rep := fun E w v x => v = .agg #[.string x.letter, .int .i64 x.a.1, .int .i64 x.a.2, .int .i64 x.b.1, .int .i64 x.b.2, .bool x.sided, .int .i64 x.uses, .int .i64 x.made]
  pos := by decide
  size := by rintro _ _ _ _ rfl; rfl
  one := by
    rintro _ _ _ _ rfl u hu
    simp [Value.cells] at hu
    rcases hu with rfl | rfl | rfl | rfl | rfl | rfl | rfl | rfl
    · rfl
    · rfl
    · rfl
    · rfl
    · rfl
    · rfl
    · rfl
    · rfl
  mono := fun _ h => h
theorem aggr_stitch_form : Aggr r_stitch_form := by rintro _ _ _ _ rfl; exact ⟨_, rfl⟩
theorem comp_stitch_form_letter : Comp r_stitch_form rS 0 (·.letter) := by
  rintro _ _ _ x rfl
  refine ⟨.string x.letter, rfl, fun j c hj => ?_⟩
  match j, hj with
  | 0, hj => exact hj
  | j + 1, hj => exact absurd (List.getElem?_eq_some_iff.1 hj).1 (by simp [Value.cells])
theorem comp_stitch_form_a : Comp r_stitch_form r_A2_Int 1 (·.a) := by
  rintro _ _ _ x rfl
  refine ⟨.agg #[.int .i64 x.a.1, .int .i64 x.a.2], rfl, fun j c hj => ?_⟩
  match j, hj with
  | 0, hj => exact hj
  | 1, hj => exact hj
  | j + 2, hj => exact absurd (List.getElem?_eq_some_iff.1 hj).1 (by simp [Value.cells])
theorem comp_stitch_form_b : Comp r_stitch_form r_A2_Int 3 (·.b) := by
  rintro _ _ _ x rfl
  refine ⟨.agg #[.int .i64 x.b.1, .int .i64 x.b.2], rfl, fun j c hj => ?_⟩
  match j, hj with
  | 0, hj => exact hj
  | 1, hj => exact hj
  | j + 2, hj => exact absurd (List.getElem?_eq_some_iff.1 hj).1 (by simp [Value.cells])
theorem comp_stitch_form_sided : Comp r_stitch_form rB 5 (·.sided) := by
  rintro _ _ _ x rfl
  refine ⟨.bool x.sided, rfl, fun j c hj => ?_⟩
  match j, hj with
  | 0, hj => exact hj
  | j + 1, hj => exact absurd (List.getElem?_eq_some_iff.1 hj).1 (by simp [Value.cells])
theorem comp_stitch_form_uses : Comp r_stitch_form (rI .i64) 6 (·.uses) := by
  rintro _ _ _ x rfl
  refine ⟨.int .i64 x.uses, rfl, fun j c hj => ?_⟩
  match j, hj with
  | 0, hj => exact hj
  | j + 1, hj => exact absurd (List.getElem?_eq_some_iff.1 hj).1 (by simp [Value.cells])
theorem comp_stitch_form_made : Comp r_stitch_form (rI .i64) 7 (·.made) := by
  rintro _ _ _ x rfl
  refine ⟨.int .i64 x.made, rfl, fun j c hj => ?_⟩
  match j, hj with
  | 0, hj => exact hj
  | j + 1, hj => exact absurd (List.getElem?_eq_some_iff.1 hj).1 (by simp [Value.cells])
structure yarn_calc where
  a : api_Ratio
  b : api_Ratio
  out : api_Ratio
  e : Int
def r_yarn_calc : R yarn_calc where
  sz := 7
  rep := fun E w v x => v = .agg #[.int .i64 x.a.Num, .int .i64 x.a.Den, .int .i64 x.b.Num, .int .i64 x.b.Den, .int .i64 x.out.Num, .int .i64 x.out.Den, .int .i64 x.e]
  pos := by decide
  size := by rintro _ _ _ _ rfl; rfl
  one := by
    rintro _ _ _ _ rfl u hu
    simp [Value.cells] at hu
    rcases hu with rfl | rfl | rfl | rfl | rfl | rfl | rfl
    · rfl
    · rfl
    · rfl
    · rfl
    · rfl
    · rfl
    · rfl
  mono := fun _ h => h
theorem aggr_yarn_calc : Aggr r_yarn_calc := by rintro _ _ _ _ rfl; exact ⟨_, rfl⟩
theorem comp_yarn_calc_a : Comp r_yarn_calc r_api_Ratio 0 (·.a) := by
  rintro _ _ _ x rfl
  refine ⟨.agg #[.int .i64 x.a.Num, .int .i64 x.a.Den], rfl, fun j c hj => ?_⟩
  match j, hj with
  | 0, hj => exact hj
  | 1, hj => exact hj
  | j + 2, hj => exact absurd (List.getElem?_eq_some_iff.1 hj).1 (by simp [Value.cells])
theorem comp_yarn_calc_b : Comp r_yarn_calc r_api_Ratio 2 (·.b) := by
  rintro _ _ _ x rfl
  refine ⟨.agg #[.int .i64 x.b.Num, .int .i64 x.b.Den], rfl, fun j c hj => ?_⟩
  match j, hj with
  | 0, hj => exact hj
  | 1, hj => exact hj
  | j + 2, hj => exact absurd (List.getElem?_eq_some_iff.1 hj).1 (by simp [Value.cells])
theorem comp_yarn_calc_out : Comp r_yarn_calc r_api_Ratio 4 (·.out) := by
  rintro _ _ _ x rfl
  refine ⟨.agg #[.int .i64 x.out.Num, .int .i64 x.out.Den], rfl, fun j c hj => ?_⟩
  match j, hj with
  | 0, hj => exact hj
  | 1, hj => exact hj
  | j + 2, hj => exact absurd (List.getElem?_eq_some_iff.1 hj).1 (by simp [Value.cells])
theorem comp_yarn_calc_e : Comp r_yarn_calc (rI .i64) 6 (·.e) := by
  rintro _ _ _ x rfl
  refine ⟨.int .i64 x.e, rfl, fun j c hj => ?_⟩
  match j, hj with
  | 0, hj => exact hj
  | j + 1, hj => exact absurd (List.getElem?_eq_some_iff.1 hj).1 (by simp [Value.cells])
theorem callee3 : ∀ vs w, (callFunc 3 vs).run Try.prog w = .ok (.enter 3 vs) w := callee Try.func3 rfl rfl
theorem callee10 : ∀ vs w, (callFunc 10 vs).run Try.prog w = .ok (.enter 10 vs) w := callee Try.func10 rfl rfl
theorem callee11 : ∀ vs w, (callFunc 11 vs).run Try.prog w = .ok (.enter 11 vs) w := callee Try.func11 rfl rfl
theorem callee12 : ∀ vs w, (callFunc 12 vs).run Try.prog w = .ok (.enter 12 vs) w := callee Try.func12 rfl rfl
theorem callee13 : ∀ vs w, (callFunc 13 vs).run Try.prog w = .ok (.enter 13 vs) w := callee Try.func13 rfl rfl
theorem callee14 : ∀ vs w, (callFunc 14 vs).run Try.prog w = .ok (.enter 14 vs) w := callee Try.func14 rfl rfl
theorem callee15 : ∀ vs w, (callFunc 15 vs).run Try.prog w = .ok (.enter 15 vs) w := callee Try.func15 rfl rfl
theorem callee17 : ∀ vs w, (callFunc 17 vs).run Try.prog w = .ok (.enter 17 vs) w := callee Try.func17 rfl rfl
theorem callee19 : ∀ vs w, (callFunc 19 vs).run Try.prog w = .ok (.enter 19 vs) w := callee Try.func19 rfl rfl
theorem callee21 : ∀ vs w, (callFunc 21 vs).run Try.prog w = .ok (.enter 21 vs) w := callee Try.func21 rfl rfl
theorem callee22 : ∀ vs w, (callFunc 22 vs).run Try.prog w = .ok (.enter 22 vs) w := callee Try.func22 rfl rfl
theorem callee23 : ∀ vs w, (callFunc 23 vs).run Try.prog w = .ok (.enter 23 vs) w := callee Try.func23 rfl rfl
theorem callee25 : ∀ vs w, (callFunc 25 vs).run Try.prog w = .ok (.enter 25 vs) w := callee Try.func25 rfl rfl
theorem callee26 : ∀ vs w, (callFunc 26 vs).run Try.prog w = .ok (.enter 26 vs) w := callee Try.func26 rfl rfl
theorem callee28 : ∀ vs w, (callFunc 28 vs).run Try.prog w = .ok (.enter 28 vs) w := callee Try.func28 rfl rfl
theorem callee29 : ∀ vs w, (callFunc 29 vs).run Try.prog w = .ok (.enter 29 vs) w := callee Try.func29 rfl rfl
theorem callee30 : ∀ vs w, (callFunc 30 vs).run Try.prog w = .ok (.enter 30 vs) w := callee Try.func30 rfl rfl
theorem callee32 : ∀ vs w, (callFunc 32 vs).run Try.prog w = .ok (.enter 32 vs) w := callee Try.func32 rfl rfl
theorem callee33 : ∀ vs w, (callFunc 33 vs).run Try.prog w = .ok (.enter 33 vs) w := callee Try.func33 rfl rfl
theorem callee34 : ∀ vs w, (callFunc 34 vs).run Try.prog w = .ok (.enter 34 vs) w := callee Try.func34 rfl rfl
theorem callee36 : ∀ vs w, (callFunc 36 vs).run Try.prog w = .ok (.enter 36 vs) w := callee Try.func36 rfl rfl
theorem callee37 : ∀ vs w, (callFunc 37 vs).run Try.prog w = .ok (.enter 37 vs) w := callee Try.func37 rfl rfl
theorem callee38 : ∀ vs w, (callFunc 38 vs).run Try.prog w = .ok (.enter 38 vs) w := callee Try.func38 rfl rfl
theorem callee39 : ∀ vs w, (callFunc 39 vs).run Try.prog w = .ok (.enter 39 vs) w := callee Try.func39 rfl rfl
theorem callee40 : ∀ vs w, (callFunc 40 vs).run Try.prog w = .ok (.enter 40 vs) w := callee Try.func40 rfl rfl
theorem callee42 : ∀ vs w, (callFunc 42 vs).run Try.prog w = .ok (.enter 42 vs) w := callee Try.func42 rfl rfl
theorem callee43 : ∀ vs w, (callFunc 43 vs).run Try.prog w = .ok (.enter 43 vs) w := callee Try.func43 rfl rfl
theorem callee45 : ∀ vs w, (callFunc 45 vs).run Try.prog w = .ok (.enter 45 vs) w := callee Try.func45 rfl rfl
theorem callee46 : ∀ vs w, (callFunc 46 vs).run Try.prog w = .ok (.enter 46 vs) w := callee Try.func46 rfl rfl
theorem callee47 : ∀ vs w, (callFunc 47 vs).run Try.prog w = .ok (.enter 47 vs) w := callee Try.func47 rfl rfl
theorem callee50 : ∀ vs w, (callFunc 50 vs).run Try.prog w = .ok (.enter 50 vs) w := callee Try.func50 rfl rfl
theorem callee51 : ∀ vs w, (callFunc 51 vs).run Try.prog w = .ok (.enter 51 vs) w := callee Try.func51 rfl rfl
theorem callee53 : ∀ vs w, (callFunc 53 vs).run Try.prog w = .ok (.enter 53 vs) w := callee Try.func53 rfl rfl
theorem callee54 : ∀ vs w, (callFunc 54 vs).run Try.prog w = .ok (.enter 54 vs) w := callee Try.func54 rfl rfl
theorem callee55 : ∀ vs w, (callFunc 55 vs).run Try.prog w = .ok (.enter 55 vs) w := callee Try.func55 rfl rfl
theorem callee56 : ∀ vs w, (callFunc 56 vs).run Try.prog w = .ok (.enter 56 vs) w := callee Try.func56 rfl rfl
theorem callee58 : ∀ vs w, (callFunc 58 vs).run Try.prog w = .ok (.enter 58 vs) w := callee Try.func58 rfl rfl
theorem callee59 : ∀ vs w, (callFunc 59 vs).run Try.prog w = .ok (.enter 59 vs) w := callee Try.func59 rfl rfl
theorem callee60 : ∀ vs w, (callFunc 60 vs).run Try.prog w = .ok (.enter 60 vs) w := callee Try.func60 rfl rfl
theorem callee61 : ∀ vs w, (callFunc 61 vs).run Try.prog w = .ok (.enter 61 vs) w := callee Try.func61 rfl rfl
theorem callee62 : ∀ vs w, (callFunc 62 vs).run Try.prog w = .ok (.enter 62 vs) w := callee Try.func62 rfl rfl
theorem callee63 : ∀ vs w, (callFunc 63 vs).run Try.prog w = .ok (.enter 63 vs) w := callee Try.func63 rfl rfl
theorem callee65 : ∀ vs w, (callFunc 65 vs).run Try.prog w = .ok (.enter 65 vs) w := callee Try.func65 rfl rfl
theorem callee66 : ∀ vs w, (callFunc 66 vs).run Try.prog w = .ok (.enter 66 vs) w := callee Try.func66 rfl rfl
theorem callee69 : ∀ vs w, (callFunc 69 vs).run Try.prog w = .ok (.enter 69 vs) w := callee Try.func69 rfl rfl
theorem callee70 : ∀ vs w, (callFunc 70 vs).run Try.prog w = .ok (.enter 70 vs) w := callee Try.func70 rfl rfl
theorem callee71 : ∀ vs w, (callFunc 71 vs).run Try.prog w = .ok (.enter 71 vs) w := callee Try.func71 rfl rfl
theorem callee72 : ∀ vs w, (callFunc 72 vs).run Try.prog w = .ok (.enter 72 vs) w := callee Try.func72 rfl rfl
theorem callee73 : ∀ vs w, (callFunc 73 vs).run Try.prog w = .ok (.enter 73 vs) w := callee Try.func73 rfl rfl
theorem callee74 : ∀ vs w, (callFunc 74 vs).run Try.prog w = .ok (.enter 74 vs) w := callee Try.func74 rfl rfl
theorem callee75 : ∀ vs w, (callFunc 75 vs).run Try.prog w = .ok (.enter 75 vs) w := callee Try.func75 rfl rfl
theorem callee76 : ∀ vs w, (callFunc 76 vs).run Try.prog w = .ok (.enter 76 vs) w := callee Try.func76 rfl rfl
theorem callee77 : ∀ vs w, (callFunc 77 vs).run Try.prog w = .ok (.enter 77 vs) w := callee Try.func77 rfl rfl
theorem callee78 : ∀ vs w, (callFunc 78 vs).run Try.prog w = .ok (.enter 78 vs) w := callee Try.func78 rfl rfl
theorem callee79 : ∀ vs w, (callFunc 79 vs).run Try.prog w = .ok (.enter 79 vs) w := callee Try.func79 rfl rfl
theorem callee80 : ∀ vs w, (callFunc 80 vs).run Try.prog w = .ok (.enter 80 vs) w := callee Try.func80 rfl rfl
theorem callee81 : ∀ vs w, (callFunc 81 vs).run Try.prog w = .ok (.enter 81 vs) w := callee Try.func81 rfl rfl
theorem callee82 : ∀ vs w, (callFunc 82 vs).run Try.prog w = .ok (.enter 82 vs) w := callee Try.func82 rfl rfl
theorem callee83 : ∀ vs w, (callFunc 83 vs).run Try.prog w = .ok (.enter 83 vs) w := callee Try.func83 rfl rfl
theorem callee84 : ∀ vs w, (callFunc 84 vs).run Try.prog w = .ok (.enter 84 vs) w := callee Try.func84 rfl rfl
theorem callee86 : ∀ vs w, (callFunc 86 vs).run Try.prog w = .ok (.enter 86 vs) w := callee Try.func86 rfl rfl
theorem callee87 : ∀ vs w, (callFunc 87 vs).run Try.prog w = .ok (.enter 87 vs) w := callee Try.func87 rfl rfl
theorem callee88 : ∀ vs w, (callFunc 88 vs).run Try.prog w = .ok (.enter 88 vs) w := callee Try.func88 rfl rfl
theorem callee90 : ∀ vs w, (callFunc 90 vs).run Try.prog w = .ok (.enter 90 vs) w := callee Try.func90 rfl rfl
theorem callee91 : ∀ vs w, (callFunc 91 vs).run Try.prog w = .ok (.enter 91 vs) w := callee Try.func91 rfl rfl
theorem callee92 : ∀ vs w, (callFunc 92 vs).run Try.prog w = .ok (.enter 92 vs) w := callee Try.func92 rfl rfl
theorem callee93 : ∀ vs w, (callFunc 93 vs).run Try.prog w = .ok (.enter 93 vs) w := callee Try.func93 rfl rfl
theorem callee94 : ∀ vs w, (callFunc 94 vs).run Try.prog w = .ok (.enter 94 vs) w := callee Try.func94 rfl rfl
theorem callee95 : ∀ vs w, (callFunc 95 vs).run Try.prog w = .ok (.enter 95 vs) w := callee Try.func95 rfl rfl

end Go.Proofs.Ytdbgkakmhlmpbaa
