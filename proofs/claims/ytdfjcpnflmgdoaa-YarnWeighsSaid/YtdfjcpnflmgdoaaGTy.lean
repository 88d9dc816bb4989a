import Derived.Test.YtdfjcpnflmgdoaaProg
import Derived.Test.YtdfjcpnflmgdoaaSpL
namespace Go.Proofs.Ytdfjcpnflmgdoaa
open Go.RowKit
set_option linter.unusedVariables false

structure api_Ratio where
  Num : Int
  Den : Int
def r_api_Ratio : R api_Ratio where
  sz := 2
  rep := fun E w v x => v = .agg #[.int .i64 x.Num, .int .i64 x.Den]
  pos := by decide
  size := by rintro _ _ _ _ rfl; rfl
  one := by
    rintro _ _ _ _ rfl u hu
    simp [Value.cells] at hu
    rcases hu with rfl | rfl
    · rfl
    · rfl
  mono := fun _ h => h
theorem aggr_api_Ratio : Aggr r_api_Ratio := by rintro _ _ _ _ rfl; exact ⟨_, rfl⟩
theorem comp_api_Ratio_Num : Comp r_api_Ratio (rI .i64) 0 (·.Num) := by
  rintro _ _ _ x rfl
  refine ⟨.int .i64 x.Num, rfl, fun j c hj => ?_⟩
  match j, hj with
  | 0, hj => exact hj
  | j + 1, hj => exact absurd (List.getElem?_eq_some_iff.1 hj).1 (by simp [Value.cells])
theorem comp_api_Ratio_Den : Comp r_api_Ratio (rI .i64) 1 (·.Den) := by
  rintro _ _ _ x rfl
  refine ⟨.int .i64 x.Den, rfl, fun j c hj => ?_⟩
  match j, hj with
  | 0, hj => exact hj
  | j + 1, hj => exact absurd (List.getElem?_eq_some_iff.1 hj).1 (by simp [Value.cells])
structure yarn_calc where
  a : api_Ratio
  b : api_Ratio
  out : api_Ratio
  e : Int
def r_yarn_calc : R yarn_calc where
  sz := 7
  rep := fun E w v x => v = .agg #[.int .i64 x.a.Num, .int .i64 x.a.Den, .int .i64 x.b.Num, .int .i64 x.b.Den, .int .i64 x.out.Num, .int .i64 x.out.Den, .int .i64 x.e]
  pos := by decide
  size := by rintro _ _ _ _ rfl; rfl
  one := by
    rintro _ _ _ _ rfl u hu
    simp [Value.cells] at hu
    rcases hu with rfl | rfl | rfl | rfl | rfl | rfl | rfl
    · rfl
    · rfl
    · rfl
    · rfl
    · rfl
    · rfl
    · rfl
  mono := fun _ h => h
theorem aggr_yarn_calc : Aggr r_yarn_calc := by rintro _ _ _ _ rfl; exact ⟨_, rfl⟩
theorem comp_yarn_calc_a : Comp r_yarn_calc r_api_Ratio 0 (·.a) := by
  rintro _ _ _ x rfl
  refine ⟨.agg #[.int .i64 x.a.Num, .int .i64 x.a.Den], rfl, fun j c hj => ?_⟩
  match j, hj with
  | 0, hj => exact hj
  | 1, hj => exact hj
  | j + 2, hj => exact absurd (List.getElem?_eq_some_iff.1 hj).1 (by simp [Value.cells])
theorem comp_yarn_calc_b : Comp r_yarn_calc r_api_Ratio 2 (·.b) := by
  rintro _ _ _ x rfl
  refine ⟨.agg #[.int .i64 x.b.Num, .int .i64 x.b.Den], rfl, fun j c hj => ?_⟩
  match j, hj with
  | 0, hj => exact hj
  | 1, hj => exact hj
  | j + 2, hj => exact absurd (List.getElem?_eq_some_iff.1 hj).1 (by simp [Value.cells])
theorem comp_yarn_calc_out : Comp r_yarn_calc r_api_Ratio 4 (·.out) := by
  rintro _ _ _ x rfl
  refine ⟨.agg #[.int .i64 x.out.Num, .int .i64 x.out.Den], rfl, fun j c hj => ?_⟩
  match j, hj with
  | 0, hj => exact hj
  | 1, hj => exact hj
  | j + 2, hj => exact absurd (List.getElem?_eq_some_iff.1 hj).1 (by simp [Value.cells])
theorem comp_yarn_calc_e : Comp r_yarn_calc (rI .i64) 6 (·.e) := by
  rintro _ _ _ x rfl
  refine ⟨.int .i64 x.e, rfl, fun j c hj => ?_⟩
  match j, hj with
  | 0, hj => exact hj
  | j + 1, hj => exact absurd (List.getElem?_eq_some_iff.1 hj).1 (by simp [Value.cells])
structure api_Count where
  System : Int
  N : api_Ratio
def r_api_Count : R api_Count where
  sz := 3
  rep := fun E w v x => v = .agg #[.int .u8 x.System, .int .i64 x.N.Num, .int .i64 x.N.Den]
  pos := by decide
  size := by rintro _ _ _ _ rfl; rfl
  one := by
    rintro _ _ _ _ rfl u hu
    simp [Value.cells] at hu
    rcases hu with rfl | rfl | rfl
    · rfl
    · rfl
    · rfl
  mono := fun _ h => h
theorem aggr_api_Count : Aggr r_api_Count := by rintro _ _ _ _ rfl; exact ⟨_, rfl⟩
theorem comp_api_Count_System : Comp r_api_Count (rI .u8) 0 (·.System) := by
  rintro _ _ _ x rfl
  refine ⟨.int .u8 x.System, rfl, fun j c hj => ?_⟩
  match j, hj with
  | 0, hj => exact hj
  | j + 1, hj => exact absurd (List.getElem?_eq_some_iff.1 hj).1 (by simp [Value.cells])
theorem comp_api_Count_N : Comp r_api_Count r_api_Ratio 1 (·.N) := by
  rintro _ _ _ x rfl
  refine ⟨.agg #[.int .i64 x.N.Num, .int .i64 x.N.Den], rfl, fun j c hj => ?_⟩
  match j, hj with
  | 0, hj => exact hj
  | 1, hj => exact hj
  | j + 2, hj => exact absurd (List.getElem?_eq_some_iff.1 hj).1 (by simp [Value.cells])
theorem callee5 : ∀ vs w, (callFunc 5 vs).run Try.prog w = .ok (.enter 5 vs) w := callee Try.func5 rfl rfl
theorem callee7 : ∀ vs w, (callFunc 7 vs).run Try.prog w = .ok (.enter 7 vs) w := callee Try.func7 rfl rfl
theorem callee8 : ∀ vs w, (callFunc 8 vs).run Try.prog w = .ok (.enter 8 vs) w := callee Try.func8 rfl rfl
theorem callee9 : ∀ vs w, (callFunc 9 vs).run Try.prog w = .ok (.enter 9 vs) w := callee Try.func9 rfl rfl
theorem callee11 : ∀ vs w, (callFunc 11 vs).run Try.prog w = .ok (.enter 11 vs) w := callee Try.func11 rfl rfl
theorem callee13 : ∀ vs w, (callFunc 13 vs).run Try.prog w = .ok (.enter 13 vs) w := callee Try.func13 rfl rfl
theorem callee15 : ∀ vs w, (callFunc 15 vs).run Try.prog w = .ok (.enter 15 vs) w := callee Try.func15 rfl rfl
theorem callee16 : ∀ vs w, (callFunc 16 vs).run Try.prog w = .ok (.enter 16 vs) w := callee Try.func16 rfl rfl
theorem callee17 : ∀ vs w, (callFunc 17 vs).run Try.prog w = .ok (.enter 17 vs) w := callee Try.func17 rfl rfl
theorem callee18 : ∀ vs w, (callFunc 18 vs).run Try.prog w = .ok (.enter 18 vs) w := callee Try.func18 rfl rfl
theorem callee19 : ∀ vs w, (callFunc 19 vs).run Try.prog w = .ok (.enter 19 vs) w := callee Try.func19 rfl rfl
theorem callee20 : ∀ vs w, (callFunc 20 vs).run Try.prog w = .ok (.enter 20 vs) w := callee Try.func20 rfl rfl
theorem callee21 : ∀ vs w, (callFunc 21 vs).run Try.prog w = .ok (.enter 21 vs) w := callee Try.func21 rfl rfl
theorem callee22 : ∀ vs w, (callFunc 22 vs).run Try.prog w = .ok (.enter 22 vs) w := callee Try.func22 rfl rfl
theorem callee23 : ∀ vs w, (callFunc 23 vs).run Try.prog w = .ok (.enter 23 vs) w := callee Try.func23 rfl rfl
theorem callee24 : ∀ vs w, (callFunc 24 vs).run Try.prog w = .ok (.enter 24 vs) w := callee Try.func24 rfl rfl
theorem callee26 : ∀ vs w, (callFunc 26 vs).run Try.prog w = .ok (.enter 26 vs) w := callee Try.func26 rfl rfl
theorem callee27 : ∀ vs w, (callFunc 27 vs).run Try.prog w = .ok (.enter 27 vs) w := callee Try.func27 rfl rfl
theorem callee28 : ∀ vs w, (callFunc 28 vs).run Try.prog w = .ok (.enter 28 vs) w := callee Try.func28 rfl rfl
theorem callee29 : ∀ vs w, (callFunc 29 vs).run Try.prog w = .ok (.enter 29 vs) w := callee Try.func29 rfl rfl
theorem callee30 : ∀ vs w, (callFunc 30 vs).run Try.prog w = .ok (.enter 30 vs) w := callee Try.func30 rfl rfl
theorem callee31 : ∀ vs w, (callFunc 31 vs).run Try.prog w = .ok (.enter 31 vs) w := callee Try.func31 rfl rfl
theorem callee32 : ∀ vs w, (callFunc 32 vs).run Try.prog w = .ok (.enter 32 vs) w := callee Try.func32 rfl rfl
theorem callee34 : ∀ vs w, (callFunc 34 vs).run Try.prog w = .ok (.enter 34 vs) w := callee Try.func34 rfl rfl
theorem callee35 : ∀ vs w, (callFunc 35 vs).run Try.prog w = .ok (.enter 35 vs) w := callee Try.func35 rfl rfl
theorem callee36 : ∀ vs w, (callFunc 36 vs).run Try.prog w = .ok (.enter 36 vs) w := callee Try.func36 rfl rfl
theorem callee37 : ∀ vs w, (callFunc 37 vs).run Try.prog w = .ok (.enter 37 vs) w := callee Try.func37 rfl rfl
theorem callee38 : ∀ vs w, (callFunc 38 vs).run Try.prog w = .ok (.enter 38 vs) w := callee Try.func38 rfl rfl
theorem callee39 : ∀ vs w, (callFunc 39 vs).run Try.prog w = .ok (.enter 39 vs) w := callee Try.func39 rfl rfl
theorem callee40 : ∀ vs w, (callFunc 40 vs).run Try.prog w = .ok (.enter 40 vs) w := callee Try.func40 rfl rfl
theorem callee41 : ∀ vs w, (callFunc 41 vs).run Try.prog w = .ok (.enter 41 vs) w := callee Try.func41 rfl rfl
theorem callee42 : ∀ vs w, (callFunc 42 vs).run Try.prog w = .ok (.enter 42 vs) w := callee Try.func42 rfl rfl
theorem callee43 : ∀ vs w, (callFunc 43 vs).run Try.prog w = .ok (.enter 43 vs) w := callee Try.func43 rfl rfl
theorem callee44 : ∀ vs w, (callFunc 44 vs).run Try.prog w = .ok (.enter 44 vs) w := callee Try.func44 rfl rfl
theorem callee45 : ∀ vs w, (callFunc 45 vs).run Try.prog w = .ok (.enter 45 vs) w := callee Try.func45 rfl rfl
theorem callee46 : ∀ vs w, (callFunc 46 vs).run Try.prog w = .ok (.enter 46 vs) w := callee Try.func46 rfl rfl
theorem callee47 : ∀ vs w, (callFunc 47 vs).run Try.prog w = .ok (.enter 47 vs) w := callee Try.func47 rfl rfl
theorem callee48 : ∀ vs w, (callFunc 48 vs).run Try.prog w = .ok (.enter 48 vs) w := callee Try.func48 rfl rfl
theorem callee49 : ∀ vs w, (callFunc 49 vs).run Try.prog w = .ok (.enter 49 vs) w := callee Try.func49 rfl rfl
theorem callee50 : ∀ vs w, (callFunc 50 vs).run Try.prog w = .ok (.enter 50 vs) w := callee Try.func50 rfl rfl
theorem callee51 : ∀ vs w, (callFunc 51 vs).run Try.prog w = .ok (.enter 51 vs) w := callee Try.func51 rfl rfl
theorem callee52 : ∀ vs w, (callFunc 52 vs).run Try.prog w = .ok (.enter 52 vs) w := callee Try.func52 rfl rfl
theorem callee55 : ∀ vs w, (callFunc 55 vs).run Try.prog w = .ok (.enter 55 vs) w := callee Try.func55 rfl rfl
theorem callee56 : ∀ vs w, (callFunc 56 vs).run Try.prog w = .ok (.enter 56 vs) w := callee Try.func56 rfl rfl
theorem callee57 : ∀ vs w, (callFunc 57 vs).run Try.prog w = .ok (.enter 57 vs) w := callee Try.func57 rfl rfl

end Go.Proofs.Ytdfjcpnflmgdoaa
