/- Several texts in one: GTy SpO GOp KeA G37 G13 G49 G35 G75 G63 G66 G65s0 G64s0 G50 G36 G12 G38 -/
import Derived.WalkKit
import Derived.Maps.AppendAt
import Derived.Deep.AppendLies
import Derived.KernelRfl
import Derived.Laws.OwnMore
import Derived.Great.BuildSlice
import Derived.Orders
import Derived.Laws.StructEq
import Derived.ChangeKeysEq
import Derived.Defers
import Derived.Laws.BytesString
import Derived.RangeFuncNested
import Derived.RangeFuncBound
import Derived.RangeFuncCalls
import Derived.RangeFuncLeaves
import Derived.OrdersIn
import Derived.LoopNIn
import Derived.Test.YtmedbnjhgkcndaaDoorProg
import Derived.ProofKit
import Derived.OpenShut
import Derived.ChangeOld
import Derived.Deep.Slices
import Derived.Lib.SmallJoins
import Derived.JoinedOf
import Derived.JoinedAt
import Derived.Below
import Derived.Shelf.Strings.Builder1
import Derived.Shelf.Strings.Builder2
import Derived.Shelf.Strings.OnBuilder
import Derived.Test.YtmedbnjhgkcndaaDoorRows
import Derived.LaidMore
import Derived.SevenTiedAt
import Derived.Test.YtmedbnjhgkcndaaDoorCards
import Derived.Test.YtmedbnjhgkcndaaDoorTie
import Derived.Test.YtmedbnjhgkcndaaDoorMPieceNear1
namespace Go.Proofs.YtmedbnjhgkcndaaDoor
open Go.RowKit
set_option linter.unusedVariables false

structure api_Point where
  X : Int
  Y : Int
def r_api_Point : R api_Point where
  sz := 2
  rep := fun E w v x => v = .agg #[.int .i64 x.X, .int .i64 x.Y]
  pos := by decide
  size := by rintro _ _ _ _ rfl; rfl
  one := by
    rintro _ _ _ _ rfl u hu
    simp [Value.cells] at hu
    rcases hu with rfl | rfl
    · rfl
    · rfl
  mono := fun _ h => h
theorem comp_api_Point_X : Comp r_api_Point (rI .i64) 0 (·.X) := by
  rintro _ _ _ x rfl
  refine ⟨.int .i64 x.X, rfl, fun j c hj => ?_⟩
  match j, hj with
  | 0, hj => exact hj
  | j + 1, hj => exact absurd (List.getElem?_eq_some_iff.1 hj).1 (by simp [Value.cells])
theorem comp_api_Point_Y : Comp r_api_Point (rI .i64) 1 (·.Y) := by
  rintro _ _ _ x rfl
  refine ⟨.int .i64 x.Y, rfl, fun j c hj => ?_⟩
  match j, hj with
  | 0, hj => exact hj
  | j + 1, hj => exact absurd (List.getElem?_eq_some_iff.1 hj).1 (by simp [Value.cells])
structure api_Shape where
  Left : (List api_Point)
  Right : (List api_Point)
def r_api_Shape : R api_Shape where
  sz := 2
  rep := fun E w v x => ∃ v0 v1, v = .agg #[v0, v1] ∧ (rL r_api_Point).rep E w v0 x.Left ∧ (rL r_api_Point).rep E w v1 x.Right
  pos := by decide
  size := by rintro _ _ _ _ ⟨v0, v1, rfl, h0, h1⟩; rfl
  one := by
    rintro _ _ _ _ ⟨v0, v1, rfl, h0, h1⟩ u hu
    simp [Value.cells] at hu
    rcases hu with rfl | rfl
    · exact (rL r_api_Point).one h0 _ (by rw [scal_L _ _ _ _ _ h0]; simp)
    · exact (rL r_api_Point).one h1 _ (by rw [scal_L _ _ _ _ _ h1]; simp)
  mono := by
    rintro _ _ _ _ _ _ h ⟨v0, v1, e, h0, h1⟩
    exact ⟨v0, v1, e, (rL r_api_Point).mono h h0, (rL r_api_Point).mono h h1⟩
theorem aggr_api_Shape : Aggr r_api_Shape := by rintro _ _ _ _ ⟨v0, v1, rfl, h0, h1⟩; exact ⟨_, rfl⟩
structure api_Piece where
  Left : (List Int)
  Right : (List Int)
def r_api_Piece : R api_Piece where
  sz := 2
  rep := fun E w v x => ∃ v0 v1, v = .agg #[v0, v1] ∧ (rL (rI .i64)).rep E w v0 x.Left ∧ (rL (rI .i64)).rep E w v1 x.Right
  pos := by decide
  size := by rintro _ _ _ _ ⟨v0, v1, rfl, h0, h1⟩; rfl
  one := by
    rintro _ _ _ _ ⟨v0, v1, rfl, h0, h1⟩ u hu
    simp [Value.cells] at hu
    rcases hu with rfl | rfl
    · exact (rL (rI .i64)).one h0 _ (by rw [scal_L _ _ _ _ _ h0]; simp)
    · exact (rL (rI .i64)).one h1 _ (by rw [scal_L _ _ _ _ _ h1]; simp)
  mono := by
    rintro _ _ _ _ _ _ h ⟨v0, v1, e, h0, h1⟩
    exact ⟨v0, v1, e, (rL (rI .i64)).mono h h0, (rL (rI .i64)).mono h h1⟩
structure api_Stitch where
  Kind : Int
  Purl : Bool
  A : Int
  B : Int
def r_api_Stitch : R api_Stitch where
  sz := 4
  rep := fun E w v x => v = .agg #[.int .u8 x.Kind, .bool x.Purl, .int .i64 x.A, .int .i64 x.B]
  pos := by decide
  size := by rintro _ _ _ _ rfl; rfl
  one := by
    rintro _ _ _ _ rfl u hu
    simp [Value.cells] at hu
    rcases hu with rfl | rfl | rfl | rfl
    · rfl
    · rfl
    · rfl
    · rfl
  mono := fun _ h => h
theorem comp_api_Stitch_Kind : Comp r_api_Stitch (rI .u8) 0 (·.Kind) := by
  rintro _ _ _ x rfl
  refine ⟨.int .u8 x.Kind, rfl, fun j c hj => ?_⟩
  match j, hj with
  | 0, hj => exact hj
  | j + 1, hj => exact absurd (List.getElem?_eq_some_iff.1 hj).1 (by simp [Value.cells])
structure api_Row where
  Back : Bool
  Cells : (List api_Stitch)
def r_api_Row : R api_Row where
  sz := 2
  rep := fun E w v x => ∃ v0, v = .agg #[.bool x.Back, v0] ∧ (rL r_api_Stitch).rep E w v0 x.Cells
  pos := by decide
  size := by rintro _ _ _ _ ⟨v0, rfl, h0⟩; rfl
  one := by
    rintro _ _ _ _ ⟨v0, rfl, h0⟩ u hu
    simp [Value.cells] at hu
    rcases hu with rfl | rfl
    · rfl
    · exact (rL r_api_Stitch).one h0 _ (by rw [scal_L _ _ _ _ _ h0]; simp)
  mono := by
    rintro _ _ _ _ _ _ h ⟨v0, e, h0⟩
    exact ⟨v0, e, (rL r_api_Stitch).mono h h0⟩
theorem comp_api_Row_Back : Comp r_api_Row rB 0 (·.Back) := by
  rintro _ _ _ x ⟨v0, rfl, h0⟩
  refine ⟨.bool x.Back, rfl, fun j c hj => ?_⟩
  match j, hj with
  | 0, hj => exact hj
  | j + 1, hj => exact absurd (List.getElem?_eq_some_iff.1 hj).1 (by simp [Value.cells])
theorem comp_api_Row_Cells : Comp r_api_Row (rL r_api_Stitch) 1 (·.Cells) := by
  rintro _ _ _ x ⟨v0, rfl, h0⟩
  refine ⟨v0, h0, fun j c hj => ?_⟩
  rw [scal_L _ _ _ _ _ h0] at hj
  match j, hj with
  | 0, hj => exact hj
  | j + 1, hj => exact absurd (List.getElem?_eq_some_iff.1 hj).1 (by simp)
structure api_Chart where
  Start : Int
  Rows : (List api_Row)
def r_api_Chart : R api_Chart where
  sz := 2
  rep := fun E w v x => ∃ v0, v = .agg #[.int .i64 x.Start, v0] ∧ (rL r_api_Row).rep E w v0 x.Rows
  pos := by decide
  size := by rintro _ _ _ _ ⟨v0, rfl, h0⟩; rfl
  one := by
    rintro _ _ _ _ ⟨v0, rfl, h0⟩ u hu
    simp [Value.cells] at hu
    rcases hu with rfl | rfl
    · rfl
    · exact (rL r_api_Row).one h0 _ (by rw [scal_L _ _ _ _ _ h0]; simp)
  mono := by
    rintro _ _ _ _ _ _ h ⟨v0, e, h0⟩
    exact ⟨v0, e, (rL r_api_Row).mono h h0⟩
structure piece_edge where
  s : api_Stitch
  uses : Int
def r_piece_edge : R piece_edge where
  sz := 5
  rep := fun E w v x => v = .agg #[.int .u8 x.s.Kind, .bool x.s.Purl, .int .i64 x.s.A, .int .i64 x.s.B, .int .i64 x.uses]
  pos := by decide
  size := by rintro _ _ _ _ rfl; rfl
  one := by
    rintro _ _ _ _ rfl u hu
    simp [Value.cells] at hu
    rcases hu with rfl | rfl | rfl | rfl | rfl
    · rfl
    · rfl
    · rfl
    · rfl
    · rfl
  mono := fun _ h => h
def r_A2_Int : R (Int × Int) where
  sz := 2
  rep := fun E w v x => v = .agg #[.int .i64 x.1, .int .i64 x.2]
  pos := by decide
  size := by rintro _ _ _ _ rfl; rfl
  one := by
    rintro _ _ _ _ rfl u hu
    simp [Value.cells] at hu
    rcases hu with rfl | rfl
    · rfl
    · rfl
  mono := fun _ h => h
structure stitch_form where
  letter : ByteArray
  a : (Int × Int)
  b : (Int × Int)
  sided : Bool
  uses : Int
  made : Int
def r_stitch_form : R stitch_form where
  sz := 8
  rep := fun E w v x => v = .agg #[.string x.letter, .int .i64 x.a.1, .int .i64 x.a.2, .int .i64 x.b.1, .int .i64 x.b.2, .bool x.sided, .int .i64 x.uses, .int .i64 x.made]
  pos := by decide
  size := by rintro _ _ _ _ rfl; rfl
  one := by
    rintro _ _ _ _ rfl u hu
    simp [Value.cells] at hu
    rcases hu with rfl | rfl | rfl | rfl | rfl | rfl | rfl | rfl
    · rfl
    · rfl
    · rfl
    · rfl
    · rfl
    · rfl
    · rfl
    · rfl
  mono := fun _ h => h
structure api_Gauge where
  Stitches : Int
  Width : Int
  Rows : Int
  Height : Int
structure gauge_ratio where
  num : Int
  den : Int
def gl_stitch_form (x : stitch_form) : List Value := [.string x.letter, .int .i64 x.a.1, .int .i64 x.a.2, .int .i64 x.b.1, .int .i64 x.b.2, .bool x.sided, .int .i64 x.uses, .int .i64 x.made]
def gv_stitch_form (x : stitch_form) : Value := .agg (gl_stitch_form x).toArray
def gl_A24_Int (x : (Int × Int × Int × Int × Int × Int × Int × Int × Int × Int × Int × Int × Int × Int × Int × Int × Int × Int × Int × Int × Int × Int × Int × Int)) : List Value := [.int .u8 x.1, .int .u8 x.2.1, .int .u8 x.2.2.1, .int .u8 x.2.2.2.1, .int .u8 x.2.2.2.2.1, .int .u8 x.2.2.2.2.2.1, .int .u8 x.2.2.2.2.2.2.1, .int .u8 x.2.2.2.2.2.2.2.1, .int .u8 x.2.2.2.2.2.2.2.2.1, .int .u8 x.2.2.2.2.2.2.2.2.2.1, .int .u8 x.2.2.2.2.2.2.2.2.2.2.1, .int .u8 x.2.2.2.2.2.2.2.2.2.2.2.1, .int .u8 x.2.2.2.2.2.2.2.2.2.2.2.2.1, .int .u8 x.2.2.2.2.2.2.2.2.2.2.2.2.2.1, .int .u8 x.2.2.2.2.2.2.2.2.2.2.2.2.2.2.1, .int .u8 x.2.2.2.2.2.2.2.2.2.2.2.2.2.2.2.1, .int .u8 x.2.2.2.2.2.2.2.2.2.2.2.2.2.2.2.2.1, .int .u8 x.2.2.2.2.2.2.2.2.2.2.2.2.2.2.2.2.2.1, .int .u8 x.2.2.2.2.2.2.2.2.2.2.2.2.2.2.2.2.2.2.1, .int .u8 x.2.2.2.2.2.2.2.2.2.2.2.2.2.2.2.2.2.2.2.1, .int .u8 x.2.2.2.2.2.2.2.2.2.2.2.2.2.2.2.2.2.2.2.2.1, .int .u8 x.2.2.2.2.2.2.2.2.2.2.2.2.2.2.2.2.2.2.2.2.2.1, .int .u8 x.2.2.2.2.2.2.2.2.2.2.2.2.2.2.2.2.2.2.2.2.2.2.1, .int .u8 x.2.2.2.2.2.2.2.2.2.2.2.2.2.2.2.2.2.2.2.2.2.2.2]
def gv_A24_Int (x : (Int × Int × Int × Int × Int × Int × Int × Int × Int × Int × Int × Int × Int × Int × Int × Int × Int × Int × Int × Int × Int × Int × Int × Int)) : Value := .agg (gl_A24_Int x).toArray
theorem callee9 : ∀ vs w, (callFunc 9 vs).run Tryd.prog w = .ok (.enter 9 vs) w := callee Tryd.func9 rfl rfl
theorem callee10 : ∀ vs w, (callFunc 10 vs).run Tryd.prog w = .ok (.enter 10 vs) w := callee Tryd.func10 rfl rfl
theorem callee11 : ∀ vs w, (callFunc 11 vs).run Tryd.prog w = .ok (.enter 11 vs) w := callee Tryd.func11 rfl rfl
theorem callee12 : ∀ vs w, (callFunc 12 vs).run Tryd.prog w = .ok (.enter 12 vs) w := callee Tryd.func12 rfl rfl
theorem callee13 : ∀ vs w, (callFunc 13 vs).run Tryd.prog w = .ok (.enter 13 vs) w := callee Tryd.func13 rfl rfl
theorem callee14 : ∀ vs w, (callFunc 14 vs).run Tryd.prog w = .ok (.enter 14 vs) w := callee Tryd.func14 rfl rfl
theorem callee17 : ∀ vs w, (callFunc 17 vs).run Tryd.prog w = .ok (.enter 17 vs) w := callee Tryd.func17 rfl rfl
theorem callee18 : ∀ vs w, (callFunc 18 vs).run Tryd.prog w = .ok (.enter 18 vs) w := callee Tryd.func18 rfl rfl
theorem callee19 : ∀ vs w, (callFunc 19 vs).run Tryd.prog w = .ok (.enter 19 vs) w := callee Tryd.func19 rfl rfl
theorem callee29 : ∀ vs w, (callFunc 29 vs).run Tryd.prog w = .ok (.enter 29 vs) w := callee Tryd.func29 rfl rfl
theorem callee32 : ∀ vs w, (callFunc 32 vs).run Tryd.prog w = .ok (.enter 32 vs) w := callee Tryd.func32 rfl rfl
theorem callee33 : ∀ vs w, (callFunc 33 vs).run Tryd.prog w = .ok (.enter 33 vs) w := callee Tryd.func33 rfl rfl
theorem callee34 : ∀ vs w, (callFunc 34 vs).run Tryd.prog w = .ok (.enter 34 vs) w := callee Tryd.func34 rfl rfl
theorem callee35 : ∀ vs w, (callFunc 35 vs).run Tryd.prog w = .ok (.enter 35 vs) w := callee Tryd.func35 rfl rfl
theorem callee36 : ∀ vs w, (callFunc 36 vs).run Tryd.prog w = .ok (.enter 36 vs) w := callee Tryd.func36 rfl rfl
theorem callee37 : ∀ vs w, (callFunc 37 vs).run Tryd.prog w = .ok (.enter 37 vs) w := callee Tryd.func37 rfl rfl
theorem callee38 : ∀ vs w, (callFunc 38 vs).run Tryd.prog w = .ok (.enter 38 vs) w := callee Tryd.func38 rfl rfl
theorem callee39 : ∀ vs w, (callFunc 39 vs).run Tryd.prog w = .ok (.enter 39 vs) w := callee Tryd.func39 rfl rfl
theorem callee40 : ∀ vs w, (callFunc 40 vs).run Tryd.prog w = .ok (.enter 40 vs) w := callee Tryd.func40 rfl rfl
theorem callee41 : ∀ vs w, (callFunc 41 vs).run Tryd.prog w = .ok (.enter 41 vs) w := callee Tryd.func41 rfl rfl
theorem callee42 : ∀ vs w, (callFunc 42 vs).run Tryd.prog w = .ok (.enter 42 vs) w := callee Tryd.func42 rfl rfl
theorem callee43 : ∀ vs w, (callFunc 43 vs).run Tryd.prog w = .ok (.enter 43 vs) w := callee Tryd.func43 rfl rfl
theorem callee45 : ∀ vs w, (callFunc 45 vs).run Tryd.prog w = .ok (.enter 45 vs) w := callee Tryd.func45 rfl rfl
theorem callee46 : ∀ vs w, (callFunc 46 vs).run Tryd.prog w = .ok (.enter 46 vs) w := callee Tryd.func46 rfl rfl
theorem callee48 : ∀ vs w, (callFunc 48 vs).run Tryd.prog w = .ok (.enter 48 vs) w := callee Tryd.func48 rfl rfl
theorem callee49 : ∀ vs w, (callFunc 49 vs).run Tryd.prog w = .ok (.enter 49 vs) w := callee Tryd.func49 rfl rfl
theorem callee50 : ∀ vs w, (callFunc 50 vs).run Tryd.prog w = .ok (.enter 50 vs) w := callee Tryd.func50 rfl rfl
theorem callee51 : ∀ vs w, (callFunc 51 vs).run Tryd.prog w = .ok (.enter 51 vs) w := callee Tryd.func51 rfl rfl
theorem callee52 : ∀ vs w, (callFunc 52 vs).run Tryd.prog w = .ok (.enter 52 vs) w := callee Tryd.func52 rfl rfl
theorem callee53 : ∀ vs w, (callFunc 53 vs).run Tryd.prog w = .ok (.enter 53 vs) w := callee Tryd.func53 rfl rfl
theorem callee54 : ∀ vs w, (callFunc 54 vs).run Tryd.prog w = .ok (.enter 54 vs) w := callee Tryd.func54 rfl rfl
theorem callee55 : ∀ vs w, (callFunc 55 vs).run Tryd.prog w = .ok (.enter 55 vs) w := callee Tryd.func55 rfl rfl
theorem callee56 : ∀ vs w, (callFunc 56 vs).run Tryd.prog w = .ok (.enter 56 vs) w := callee Tryd.func56 rfl rfl
theorem callee57 : ∀ vs w, (callFunc 57 vs).run Tryd.prog w = .ok (.enter 57 vs) w := callee Tryd.func57 rfl rfl
theorem callee60 : ∀ vs w, (callFunc 60 vs).run Tryd.prog w = .ok (.enter 60 vs) w := callee Tryd.func60 rfl rfl
theorem callee61 : ∀ vs w, (callFunc 61 vs).run Tryd.prog w = .ok (.enter 61 vs) w := callee Tryd.func61 rfl rfl
theorem callee62 : ∀ vs w, (callFunc 62 vs).run Tryd.prog w = .ok (.enter 62 vs) w := callee Tryd.func62 rfl rfl
theorem callee63 : ∀ vs w, (callFunc 63 vs).run Tryd.prog w = .ok (.enter 63 vs) w := callee Tryd.func63 rfl rfl
theorem callee64 : ∀ vs w, (callFunc 64 vs).run Tryd.prog w = .ok (.enter 64 vs) w := callee Tryd.func64 rfl rfl
theorem callee65 : ∀ vs w, (callFunc 65 vs).run Tryd.prog w = .ok (.enter 65 vs) w := callee Tryd.func65 rfl rfl
theorem callee66 : ∀ vs w, (callFunc 66 vs).run Tryd.prog w = .ok (.enter 66 vs) w := callee Tryd.func66 rfl rfl
theorem callee67 : ∀ vs w, (callFunc 67 vs).run Tryd.prog w = .ok (.enter 67 vs) w := callee Tryd.func67 rfl rfl
theorem callee68 : ∀ vs w, (callFunc 68 vs).run Tryd.prog w = .ok (.enter 68 vs) w := callee Tryd.func68 rfl rfl
theorem callee69 : ∀ vs w, (callFunc 69 vs).run Tryd.prog w = .ok (.enter 69 vs) w := callee Tryd.func69 rfl rfl
theorem callee71 : ∀ vs w, (callFunc 71 vs).run Tryd.prog w = .ok (.enter 71 vs) w := callee Tryd.func71 rfl rfl
theorem callee75 : ∀ vs w, (callFunc 75 vs).run Tryd.prog w = .ok (.enter 75 vs) w := callee Tryd.func75 rfl rfl
theorem callee79 : ∀ vs w, (callFunc 79 vs).run Tryd.prog w = .ok (.enter 79 vs) w := callee Tryd.func79 rfl rfl
theorem callee82 : ∀ vs w, (callFunc 82 vs).run Tryd.prog w = .ok (.enter 82 vs) w := callee Tryd.func82 rfl rfl
theorem callee83 : ∀ vs w, (callFunc 83 vs).run Tryd.prog w = .ok (.enter 83 vs) w := callee Tryd.func83 rfl rfl
theorem callee88 : ∀ vs w, (callFunc 88 vs).run Tryd.prog w = .ok (.enter 88 vs) w := callee Tryd.func88 rfl rfl
theorem callee89 : ∀ vs w, (callFunc 89 vs).run Tryd.prog w = .ok (.enter 89 vs) w := callee Tryd.func89 rfl rfl

end Go.Proofs.YtmedbnjhgkcndaaDoor
namespace Go.Proofs.YtmedbnjhgkcndaaDoor
open Go.RowKit
set_option linter.unusedVariables false

open Go.ChangeShapes Go.WideShapes Go.ChangeAt Go.Joins
def InK (k : IntKind) (x : Int) : Prop := (Lit.int k x).wf = true
def Wl {α : Type} (p : α → Prop) (xs : List α) : Prop := xs.length ≤ 9223372036854775807 ∧ ∀ x, x ∈ xs → p x
/-- cells of a type read, well formed -/
def OpC {α : Type} (P : Program) (t : TypeId) (r : R α) (p : α → Prop) : Prop :=
  ∀ (H : Type) (enc : TypeId × Value → H) (w : World) (base : Nat) (spare : Nat → Bool) (held : Bool) (fuel : Nat) (cs : List Value) (x : DataW H × List MemPlace),
    DataW.trod enc P w base spare held fuel t cs = some x → ∃ v y, v.cells.toList = cs ∧ r.rep (fun _ => False) w v y ∧ p y
section
variable {P : Program}
theorem op_int {t : TypeId} (k : IntKind) (ht : P.underlying t = some (.int k)) : OpC P t (rI k) (InK k) := fun H enc w base spare held fuel cs x h => by
  obtain ⟨n, rfl, _, hw⟩ := DataW.trod_int ht h
  exact ⟨_, n, rfl, rfl, hw⟩
theorem choose_list {α : Type} {n : Nat} {p : Nat → α → Prop} (h : ∀ i, i < n → ∃ x, p i x) : ∃ l : List α, l.length = n ∧ ∀ i x, l[i]? = some x → p i x := by
  induction n with
  | zero => exact ⟨[], rfl, fun i x hi => by simp at hi⟩
  | succ n ih =>
    obtain ⟨l, hl, hp⟩ := ih fun i hi => h i (by omega)
    obtain ⟨x, hx⟩ := h n (by omega)
    refine ⟨l ++ [x], by simp [hl], fun i y hi => ?_⟩
    by_cases e : i < l.length
    · rw [List.getElem?_append_left e] at hi; exact hp i y hi
    · rw [List.getElem?_append_right (by omega)] at hi
      have : i - l.length = 0 := by
        have := (List.getElem?_eq_some_iff.1 hi).1
        simp at this; omega
      rw [this] at hi
      simp at hi; subst hi
      have : i = n := by omega
      subst this; exact hx
theorem op_slice {α : Type} {t e : TypeId} {r : R α} {p : α → Prop} (ht : P.underlying t = some (.slice e)) (hc : P.cellsOf e = r.sz) (he : OpC P e r p) : OpC P t (rL r) (Wl p) := fun H enc w base spare held fuel cs x h => by
  rcases Go.Deep.open_slice ht h with ⟨rfl, _⟩ | ⟨a, len, cap, m, n, D, Pl, rfl, _, hl, hm, hmm, _, hx⟩
  · exact ⟨_, [], rfl, rL_nil _ _ _, by simp, fun x hx => by simp at hx⟩
  · have hlm : len ≤ m := by rw [hmm]; split <;> omega
    obtain ⟨b, off, spot⟩ := a
    have hcell : ∀ i, i < len → ∃ vy : Value × α, (∀ j, j < r.sz → w.cell? ((⟨b, off, spot⟩ : Addr).add (i * r.sz + j)) = vy.1.cells.toList[j]?) ∧ r.rep (fun _ => False) w vy.1 vy.2 ∧ p vy.2 := fun i hi => by
      obtain ⟨cs, h1, h2⟩ := hx i (by omega)
      obtain ⟨_, h3, h4⟩ := World.cells?_some h1
      obtain ⟨v, y, h5, h6, h7⟩ := he _ _ _ _ _ _ _ _ _ h2
      refine ⟨(v, y), fun j hj => ?_, h6, h7⟩
      have := h4 j (by rw [hc]; exact hj)
      rw [Addr.add_add, hc] at this
      rw [this, h5]
    obtain ⟨l, hll, hlp⟩ := choose_list hcell
    subst hll
    have hA : All r (fun _ => False) w (l.map (·.1)) (l.map (·.2)) := ⟨by simp, fun k v x hv hx => by
      rw [List.getElem?_map] at hv hx
      cases hk : l[k]? with
      | none => rw [hk] at hv; cases hv
      | some q => rw [hk] at hv hx; simp at hv hx; subst hv hx; exact (hlp k q hk).2.1⟩
    refine ⟨.slice (some ⟨b, off, spot⟩) l.length cap, l.map (·.2), rfl, ?_, by simp [maxLen] at hm ⊢; omega, fun x hx => ?_⟩
    · refine ⟨some ⟨b, off, spot⟩, cap, l.map (·.1), by simp, by simpa using hl, by simp [maxLen] at hm ⊢; omega, hA, fun k u hu => ?_⟩
      have hsz := fun v hv => (hA.cells v hv).1
      have hk := (List.getElem?_eq_some_iff.1 hu).1
      rw [flat_length hsz] at hk
      simp only [List.length_map] at hk
      have hi : k / r.sz < l.length := Nat.div_lt_of_lt_mul (by rw [Nat.mul_comm]; exact hk)
      have hj := Nat.mod_lt k r.pos
      have hq : l[k / r.sz]? = some l[k / r.sz] := List.getElem?_eq_getElem hi
      have h1 := (hlp _ _ hq).1 (k % r.sz) hj
      have h2 := flat_get hsz (k := k / r.sz) (v := l[k / r.sz].1) (by rw [List.getElem?_map, hq]; rfl) hj
      rw [Nat.mul_comm, Nat.div_add_mod] at h1 h2
      rw [hu] at h2
      rw [← h2] at h1
      have hspot : spot = none := by
        have h0 : 0 < l.length := Nat.lt_of_le_of_lt (Nat.zero_le _) hi
        have hq0 : l[0]? = some l[0] := List.getElem?_eq_getElem h0
        have h3 := (hlp 0 _ hq0).1 0 r.pos
        have hs0 := r.size (hlp 0 _ hq0).2.1
        rw [List.getElem?_eq_getElem (by rw [Array.length_toList, hs0]; exact r.pos)] at h3
        simpa [Addr.add] using World.cell?_spot h3
      subst hspot
      rw [add_addr] at h1
      exact ⟨b, off, rfl, not_false, World.block_lt_of_cell? w _ h1, h1⟩
    · obtain ⟨q, hq, rfl⟩ := List.mem_map.1 hx
      obtain ⟨k, hk, rfl⟩ := List.getElem_of_mem hq
      exact (hlp k _ (List.getElem?_eq_getElem hk)).2.2
theorem top_agg {α : Type} {H : Type} {enc : TypeId × Value → H} {w : World} {base b0 : Nat} {spare : Nat → Bool} {held : Bool} {rr : Reach} {v : Value} {d : DataW H} {p : List MemPlace} {t : TypeId} {fs : Array Field} {r : R α} {q : α → Prop} (ht : P.underlying t = some (.struct fs)) (hr : Aggr r) (ho : OpC P t r q)
    (hv : Value.okWide P w rr b0 t v) (h : DataW.Trod enc P w base spare held t v d p) : ∃ y, r.rep (fun _ => False) w v y ∧ q y := by
  obtain ⟨cs, rfl, hsz⟩ := okWide_struct ht hv
  obtain ⟨fuel, hf⟩ := h
  obtain ⟨v, y, h1, h2, h3⟩ := ho _ _ _ _ _ _ _ _ _ hf
  obtain ⟨ds, rfl⟩ := hr _ _ _ _ h2
  simp [Value.cells] at h1
  subst h1
  exact ⟨y, h2, h3⟩
theorem St0.start {w : World} {D : List Fact} (h : ∀ d, d ∈ D → d.p (fun _ => False) w) : St0 (fun _ => False) [] w w [] D := by
  have hE : tot (fun _ => False) [] = (fun _ => False) := by funext b; simp [tot, keysL]
  exact ⟨Chg.refl _ _, by simp, fun d hd => by rw [hE]; exact h d hd, by simp [keysL], by simp [keysL], fun _ h => h.elim⟩
theorem Chg.below {w w' : World} (h : Chg [] w w') : Below w.heap.size w w' := ⟨h.os, h.tape, h.output, h.size, fun k hk => h.block k hk (by simp)⟩
theorem len2 {α : Type} {l : List α} (h : l.length = 2) : ∃ a b, l = [a, b] := by match l, h with | [a, b], _ => exact ⟨a, b, rfl⟩
end
theorem fld {α : Type} {x : Option α} {ys : List α} {i : Nat} (h : x = ys[i]?) (hi : i < ys.length) : ∃ z, x = some z := ⟨ys[i], by rw [h]; exact List.getElem?_eq_getElem hi⟩

end Go.Proofs.YtmedbnjhgkcndaaDoor
namespace Go.Proofs.YtmedbnjhgkcndaaDoor
open Go.RowKit
set_option linter.unusedVariables false

open Go.ChangeShapes Go.WideShapes Go.ChangeAt Go.Joins
def wf_api_Point (x : api_Point) : Prop := (InK .i64) x.X ∧ (InK .i64) x.Y
theorem op_api_Point : OpC Tryd.prog 35 r_api_Point wf_api_Point := fun H enc w base spare held fuel cs x h => by
  obtain ⟨ys, m, _, _, hl, hy, hf⟩ := DataW.trod_struct Tryd.underlying35 h
  obtain ⟨c0, c1, rfl⟩ := len2 (hl.trans (by kernel_rfl))
  obtain ⟨z0, f0⟩ := fld (hf 0 _ rfl) (by rw [hy]; decide)
  obtain ⟨u0, y0, k0, r0, w0⟩ := (op_int .i64 Tryd.underlying3) _ _ _ _ _ _ _ _ _ f0
  replace k0 : u0.cells.toList = [c0] := k0.trans (by kernel_rfl)
  obtain rfl : u0 = .int .i64 y0 := r0
  obtain rfl : Value.int .i64 y0 = c0 := by simpa [Value.cells] using k0
  obtain ⟨z1, f1⟩ := fld (hf 1 _ rfl) (by rw [hy]; decide)
  obtain ⟨u1, y1, k1, r1, w1⟩ := (op_int .i64 Tryd.underlying3) _ _ _ _ _ _ _ _ _ f1
  replace k1 : u1.cells.toList = [c1] := k1.trans (by kernel_rfl)
  obtain rfl : u1 = .int .i64 y1 := r1
  obtain rfl : Value.int .i64 y1 = c1 := by simpa [Value.cells] using k1
  exact ⟨_, ⟨y0, y1⟩, rfl, rfl, ⟨w0, w1⟩⟩
def wf_api_Shape (x : api_Shape) : Prop := (Wl wf_api_Point) x.Left ∧ (Wl wf_api_Point) x.Right
theorem op_api_Shape : OpC Tryd.prog 24 r_api_Shape wf_api_Shape := fun H enc w base spare held fuel cs x h => by
  obtain ⟨ys, m, _, _, hl, hy, hf⟩ := DataW.trod_struct Tryd.underlying24 h
  obtain ⟨c0, c1, rfl⟩ := len2 (hl.trans (by kernel_rfl))
  obtain ⟨z0, f0⟩ := fld (hf 0 _ rfl) (by rw [hy]; decide)
  obtain ⟨u0, y0, k0, r0, w0⟩ := (op_slice (r := r_api_Point) Tryd.underlying22 (by kernel_rfl) op_api_Point) _ _ _ _ _ _ _ _ _ f0
  replace k0 : u0.cells.toList = [c0] := k0.trans (by kernel_rfl)
  rw [scal_L _ _ _ _ _ r0] at k0
  obtain rfl : u0 = c0 := by simpa using k0
  obtain ⟨z1, f1⟩ := fld (hf 1 _ rfl) (by rw [hy]; decide)
  obtain ⟨u1, y1, k1, r1, w1⟩ := (op_slice (r := r_api_Point) Tryd.underlying22 (by kernel_rfl) op_api_Point) _ _ _ _ _ _ _ _ _ f1
  replace k1 : u1.cells.toList = [c1] := k1.trans (by kernel_rfl)
  rw [scal_L _ _ _ _ _ r1] at k1
  obtain rfl : u1 = c1 := by simpa using k1
  exact ⟨_, ⟨y0, y1⟩, rfl, ⟨_, _, rfl, r0, r1⟩, ⟨w0, w1⟩⟩
end Go.Proofs.YtmedbnjhgkcndaaDoor
namespace Go.Proofs.YtmedbnjhgkcndaaDoor
open Go.RowKit
set_option linter.unusedVariables false

def Le {α : Type} (a b : Option α) : Prop := ∀ r, a = some r → b = some r
theorem Le.rfl {α : Type} (a : Option α) : Le a a := fun _ h => h
theorem Le.bind {α β : Type} {a b : Option α} {f g : α → Option β} (h : Le a b) (hf : ∀ x, Le (f x) (g x)) : Le (Option.bind a f) (Option.bind b g) := by
  intro r hr
  cases ha : a with
  | none => rw [ha] at hr; cases hr
  | some x =>
    rw [ha] at hr
    rw [h x ha]
    exact hf x r hr
theorem Le.ite {α : Type} {c : Prop} [Decidable c] {a b a' b' : Option α} (h : Le a b) (h' : Le a' b') : Le (if c then a else a') (if c then b else b') := by
  by_cases hc : c
  · rw [if_pos hc, if_pos hc]; exact h
  · rw [if_neg hc, if_neg hc]; exact h'
theorem Le.sum {α β γ : Type} {f g : α ⊕ β → Option γ} (h : ∀ a, Le (f (.inl a)) (g (.inl a))) (h' : ∀ b, Le (f (.inr b)) (g (.inr b))) : ∀ z, Le (f z) (g z)
  | .inl a => h a
  | .inr b => h' b
theorem Le.prod {α β γ : Type} {f g : α × β → Option γ} (h : ∀ a b, Le (f (a, b)) (g (a, b))) : ∀ z, Le (f z) (g z)
  | (a, b) => h a b
theorem iterO_Le {σ τ : Type} {B B' : σ → Option (σ ⊕ τ)} (h : ∀ s, Le (B s) (B' s)) : ∀ (n : Nat) (s : σ), Le (iterO B n s) (iterO B' n s) := by
  intro n
  induction n with
  | zero => intro s r hr; cases hr
  | succ n ih =>
    intro s r hr
    unfold iterO at hr ⊢
    cases hB : B s with
    | none => rw [hB] at hr; cases hr
    | some x =>
      rw [hB] at hr
      rw [h s x hB]
      cases x with
      | inl s' => exact ih s' r hr
      | inr t => exact hr
def whileK {σ τ : Type} (B : σ → Option (σ ⊕ τ)) (s : σ) : Option τ := iterO B 1000000 s
theorem Le.loop {σ τ : Type} {B B' : σ → Option (σ ⊕ τ)} (s : σ) (h : ∀ s, Le (B s) (B' s)) : Le (whileK B s) (whileO B' s) :=
  fun r hr => whileO_of (iterO_Le h 1000000 s r hr)

end Go.Proofs.YtmedbnjhgkcndaaDoor
namespace Go.Proofs.YtmedbnjhgkcndaaDoor
open Go.RowKit
set_option linter.unusedVariables false

noncomputable def F_piece_column (p0 : Int) : Option Bool :=
  Option.bind (α := Bool) (
    if decide ((-500) ≤ p0) then
      some (decide (p0 ≤ 500))
    else
      some false) fun o2 =>
  some o2
set_option maxHeartbeats 4000000 in
set_option maxRecDepth 100000 in
theorem c_piece_column (E : Nat → Prop) (w0 : World) (p0 : Int) (r : Bool) (h : F_piece_column p0 = some r) (S : St0 E [] w0 w0 [] []) :
    Calls Tryd.prog 37 #[iv p0] w0 (Ret (X := Unit) E [] w0 (fun _ => .bool r) (fun _ => []) (fun _ => [])) := by
  unfold F_piece_column at h
  refine sEnter (args := [iv p0]) 9 Tryd.func37 rfl rfl (by simp) S (fun a S => ?_)
  refine sSeq (fun K1 hK1 => ?_)
  refine sRegion ?_
  refine sMove (.bool false) S (wN rfl) (.inr rfl) rfl rfl (lb rfl) fun a S => ?_
  refine leafL (leafT (hK1 _ _ ?_))
  obtain ⟨t3, h, g4⟩ := bindSome h
  refine sCut (fun a w => ∃ o2, o2 = t3 ∧ St [] E [] w0 9 a w [(2, .bool o2)] [] []) ?_ (fun a w hI => ?_)
  rotate_left
  · obtain ⟨o2, rfl, S⟩ := hI
    have h := g4
    clear g4
    try dsimp only at h
    obtain rfl := Option.some.inj h
    exact wp_ret (sRet (.bool o2) S (rsl1 rfl (rvT (t := 2) (v := .bool o2) S rfl)) ⟨(), rfl, S.mem.sel [] [] (by decide) rfl rfl⟩)
  refine sRegion ?_
  refine sMove (iv p0) S (wN rfl) (.inl rfl) rfl rfl (lb rfl) fun a S => ?_
  refine sBin (.bool (decide ((-500) ≤ p0))) S (wN rfl) rfl rfl rfl (bGe _ _ _ _ .i64 p0 (-500)) rfl (lb rfl) fun a S => ?_
  refine sMove (.bool (decide ((-500) ≤ p0))) S (wN rfl) (.inl rfl) rfl rfl (lb rfl) fun a S => ?_
  rcases iteSome h with ⟨hc5, h⟩ | ⟨hc5, h⟩
  rotate_left
  · refine sSkip 2 true 5 6 S rfl rfl rfl hc5 rfl (lb rfl) fun a S => ?_
    refine sSkip 2 true 5 7 S rfl rfl rfl hc5 rfl (lb rfl) fun a S => ?_
    refine sPickF (.bool false) S (wN rfl) rfl rfl hc5 rfl rfl (lb rfl) fun a S => ?_
    refine sMove (.bool false) S (wN rfl) (.inr rfl) rfl rfl (lb rfl) fun a S => ?_
    exact leafL (leafT (⟨false, Option.some.inj h, S.fix [] [] (by decide) rfl rfl rfl⟩))
  refine sMove (iv p0) S (wG 2 true 5 rfl rfl rfl hc5) (.inl rfl) rfl rfl (lb rfl) fun a S => ?_
  refine sBin (.bool (decide (p0 ≤ 500))) S (wG 2 true 5 rfl rfl rfl hc5) rfl rfl rfl (bLe _ _ _ _ .i64 p0 500) rfl (lb rfl) fun a S => ?_
  refine sPickT (.bool (decide (p0 ≤ 500))) S (wN rfl) rfl rfl hc5 rfl rfl (lb rfl) fun a S => ?_
  refine sMove (.bool (decide (p0 ≤ 500))) S (wN rfl) (.inr rfl) rfl rfl (lb rfl) fun a S => ?_
  exact leafL (leafT (⟨decide (p0 ≤ 500), Option.some.inj h, S.fix [] [] (by decide) rfl rfl rfl⟩))

end Go.Proofs.YtmedbnjhgkcndaaDoor
namespace Go.Proofs.YtmedbnjhgkcndaaDoor
open Go.RowKit
set_option linter.unusedVariables false

noncomputable def piece_Check_l1 (p0 : api_Piece) : Int → Option (Int ⊕ (Int ⊕ Unit)) := fun s0 => match s0 with
  | s22 =>
    if decide (s22 < (p0.Left.length : Int)) then
      Option.bind (idxO p0.Left s22) fun x31 =>
      Option.bind (idxO p0.Right s22) fun x37 =>
      Option.bind (α := Bool) (
        Option.bind (F_piece_column x31) fun r45 =>
        if !r45 then
          some true
        else
          Option.bind (F_piece_column x37) fun r48 =>
          if !r48 then
            some true
          else
            if decide (x37 ≤ x31) then
              some true
            else
              some (decide (200 < (w64 (x37 - x31))))) fun o42 =>
      if o42 then
        some (.inr (.inl 8))
      else
        some (.inl (w64 (s22 + 1)))
    else
      some (.inr (.inr ()))
noncomputable def F_piece_Check (p0 : api_Piece) : Option Int :=
  Option.bind (α := Bool) (
    if (p0.Left.length : Int) != (p0.Right.length : Int) then
      some true
    else
      if (p0.Left.length : Int) == 0 then
        some true
      else
        some (decide (100 < (p0.Left.length : Int)))) fun o12 =>
  if o12 then
    some 8
  else
    Option.bind (α := Unit ⊕ Int) (
      Option.bind (whileO (piece_Check_l1 p0) 0) fun z0 => match z0 with
        | .inl z =>
          some (.inr z)
        | .inr _ =>
          some (.inl ())) fun z0 => match z0 with
      | .inl _ =>
        some 0
      | .inr z =>
        some z
set_option maxHeartbeats 4000000 in
set_option maxRecDepth 100000 in
theorem c_piece_Check (E : Nat → Prop) (w0 : World) (p0 : api_Piece) (v0 : Value) (r : Int) (h : F_piece_Check p0 = some r) (S : St0 E [] w0 w0 [] [fRep r_api_Piece (v0) p0]) :
    Calls Tryd.prog 13 #[v0] w0 (Ret (X := Unit) E [] w0 (fun _ => .int .i64 r) (fun _ => []) (fun _ => [])) := by
  unfold F_piece_Check at h
  obtain ⟨u1, u2, rfl, hu3, hu4⟩ := S.know (i := 0) (e := fRep r_api_Piece (v0) p0) rfl
  have S := S.learn (fRep (rL (rI .i64)) u1 p0.Left) hu3
  obtain ⟨ad5, cp6, _, rfl, _⟩ := hu3
  have S := S.learn (fRep (rL (rI .i64)) u2 p0.Right) hu4
  obtain ⟨ad7, cp8, _, rfl, _⟩ := hu4
  refine sEnter (args := [.agg #[.slice ad5 p0.Left.length cp6, .slice ad7 p0.Right.length cp8]]) 58 Tryd.func13 rfl rfl (by simp) S (fun a S => ?_)
  refine sSeq (fun K9 hK9 => ?_)
  refine sRegion ?_
  refine sBox (v := .agg #[.slice ad5 p0.Left.length cp6, .slice ad7 p0.Right.length cp8]) S (wN rfl) rfl rfl [.slice ad5 p0.Left.length cp6, .slice ad7 p0.Right.length cp8] rfl rfl (lb rfl) fun a b10 w S => ?_
  refine sMove (iv 0) S (wN rfl) (.inr rfl) rfl rfl (lb rfl) fun a S => ?_
  refine leafL (leafT (hK9 _ _ ?_))
  refine sSeq (fun K11 hK11 => ?_)
  obtain ⟨t13, h, g14⟩ := bindSome h
  refine sCut (fun a w => ∃ o12, o12 = t13 ∧ St [] E [] w0 58 a w [(1, .pointer (some ⟨b10, 0, none⟩)), (24, .bool o12)] [eBox b10 30 [.slice ad5 p0.Left.length cp6, .slice ad7 p0.Right.length cp8]] [fRep (rL (rI .i64)) (.slice ad5 p0.Left.length cp6) p0.Left, fRep (rL (rI .i64)) (.slice ad7 p0.Right.length cp8) p0.Right]) ?_ (fun a w hI => ?_)
  · refine sRegion ?_
    refine sField (b := b10) (off := 0) 0 0 S (wN rfl) rfl rfl rfl rfl rfl (lb rfl) fun a S => ?_
    refine sLoad1 (p := b10) (off := 0) (T := 30) (vs := [.slice ad5 p0.Left.length cp6, .slice ad7 p0.Right.length cp8]) 0 (.slice ad5 p0.Left.length cp6) S (wN rfl) rfl rfl rfl rfl rfl rfl (lb rfl) fun a S => ?_
    refine sLen (ad := ad5) (m := p0.Left.length) (c := cp6) S (wN rfl) rfl Tryd.underlying28 rfl rfl (lb rfl) fun a S => ?_
    refine sField (b := b10) (off := 0) 1 1 S (wN rfl) rfl rfl rfl rfl rfl (lb rfl) fun a S => ?_
    refine sLoad1 (p := b10) (off := 1) (T := 30) (vs := [.slice ad5 p0.Left.length cp6, .slice ad7 p0.Right.length cp8]) 0 (.slice ad7 p0.Right.length cp8) S (wN rfl) rfl rfl rfl rfl rfl rfl (lb rfl) fun a S => ?_
    refine sLen (ad := ad7) (m := p0.Right.length) (c := cp8) S (wN rfl) rfl Tryd.underlying28 rfl rfl (lb rfl) fun a S => ?_
    refine sBin (.bool ((p0.Left.length : Int) != (p0.Right.length : Int))) S (wN rfl) rfl rfl rfl (bNe _ _ _ _ .i64 (p0.Left.length : Int) (p0.Right.length : Int)) rfl (lb rfl) fun a S => ?_
    refine sMove (.bool ((p0.Left.length : Int) != (p0.Right.length : Int))) S (wN rfl) (.inl rfl) rfl rfl (lb rfl) fun a S => ?_
    rcases iteSome h with ⟨hc15, h⟩ | ⟨hc15, h⟩
    · refine sSkip 7 false 13 14 S rfl rfl rfl hc15 rfl (lb rfl) fun a S => ?_
      refine sSkip 7 false 13 15 S rfl rfl rfl hc15 rfl (lb rfl) fun a S => ?_
      refine sSkip 7 false 13 16 S rfl rfl rfl hc15 rfl (lb rfl) fun a S => ?_
      refine sSkip 7 false 13 17 S rfl rfl rfl hc15 rfl (lb rfl) fun a S => ?_
      refine sPickT (.bool true) S (wN rfl) rfl rfl hc15 rfl rfl (lb rfl) fun a S => ?_
      refine sMove (.bool true) S (wN rfl) (.inl rfl) rfl rfl (lb rfl) fun a S => ?_
      refine sSkip 13 false 19 20 S rfl rfl rfl rfl rfl (lb rfl) fun a S => ?_
      refine sSkip 13 false 19 21 S rfl rfl rfl rfl rfl (lb rfl) fun a S => ?_
      refine sSkip 13 false 19 22 S rfl rfl rfl rfl rfl (lb rfl) fun a S => ?_
      refine sSkip 13 false 19 23 S rfl rfl rfl rfl rfl (lb rfl) fun a S => ?_
      refine sPickT (.bool true) S (wN rfl) rfl rfl rfl rfl rfl (lb rfl) fun a S => ?_
      exact leafL (leafT (⟨true, Option.some.inj h, S.fix [0] [1, 0] (by decide) rfl rfl rfl⟩))
    refine sField (b := b10) (off := 0) 0 0 S (wG 7 false 13 rfl rfl rfl hc15) rfl rfl rfl rfl rfl (lb rfl) fun a S => ?_
    refine sLoad1 (p := b10) (off := 0) (T := 30) (vs := [.slice ad5 p0.Left.length cp6, .slice ad7 p0.Right.length cp8]) 0 (.slice ad5 p0.Left.length cp6) S (wG 7 false 13 rfl rfl rfl hc15) rfl rfl rfl rfl rfl rfl (lb rfl) fun a S => ?_
    refine sLen (ad := ad5) (m := p0.Left.length) (c := cp6) S (wG 7 false 13 rfl rfl rfl hc15) rfl Tryd.underlying28 rfl rfl (lb rfl) fun a S => ?_
    refine sBin (.bool ((p0.Left.length : Int) == 0)) S (wG 7 false 13 rfl rfl rfl hc15) rfl rfl rfl (bEq _ _ _ _ .i64 (p0.Left.length : Int) 0) rfl (lb rfl) fun a S => ?_
    refine sPickF (.bool ((p0.Left.length : Int) == 0)) S (wN rfl) rfl rfl hc15 rfl rfl (lb rfl) fun a S => ?_
    refine sMove (.bool ((p0.Left.length : Int) == 0)) S (wN rfl) (.inl rfl) rfl rfl (lb rfl) fun a S => ?_
    rcases iteSome h with ⟨hc16, h⟩ | ⟨hc16, h⟩
    · refine sSkip 13 false 19 20 S rfl rfl rfl hc16 rfl (lb rfl) fun a S => ?_
      refine sSkip 13 false 19 21 S rfl rfl rfl hc16 rfl (lb rfl) fun a S => ?_
      refine sSkip 13 false 19 22 S rfl rfl rfl hc16 rfl (lb rfl) fun a S => ?_
      refine sSkip 13 false 19 23 S rfl rfl rfl hc16 rfl (lb rfl) fun a S => ?_
      refine sPickT (.bool true) S (wN rfl) rfl rfl hc16 rfl rfl (lb rfl) fun a S => ?_
      exact leafL (leafT (⟨true, Option.some.inj h, S.fix [0] [1, 0] (by decide) rfl rfl rfl⟩))
    refine sField (b := b10) (off := 0) 0 0 S (wG 13 false 19 rfl rfl rfl hc16) rfl rfl rfl rfl rfl (lb rfl) fun a S => ?_
    refine sLoad1 (p := b10) (off := 0) (T := 30) (vs := [.slice ad5 p0.Left.length cp6, .slice ad7 p0.Right.length cp8]) 0 (.slice ad5 p0.Left.length cp6) S (wG 13 false 19 rfl rfl rfl hc16) rfl rfl rfl rfl rfl rfl (lb rfl) fun a S => ?_
    refine sLen (ad := ad5) (m := p0.Left.length) (c := cp6) S (wG 13 false 19 rfl rfl rfl hc16) rfl Tryd.underlying28 rfl rfl (lb rfl) fun a S => ?_
    refine sBin (.bool (decide (100 < (p0.Left.length : Int)))) S (wG 13 false 19 rfl rfl rfl hc16) rfl rfl rfl (bGt _ _ _ _ .i64 (p0.Left.length : Int) 100) rfl (lb rfl) fun a S => ?_
    refine sPickF (.bool (decide (100 < (p0.Left.length : Int)))) S (wN rfl) rfl rfl hc16 rfl rfl (lb rfl) fun a S => ?_
    exact leafL (leafT (⟨decide (100 < (p0.Left.length : Int)), Option.some.inj h, S.fix [0] [1, 0] (by decide) rfl rfl rfl⟩))
  obtain ⟨o12, rfl, S⟩ := hI
  have h := g14
  clear g14
  try dsimp only at h
  rcases iteSome h with ⟨hc17, h⟩ | ⟨hc17, h⟩
  · refine sCondT S rfl hc17 ?_
    refine sSeq (fun K18 hK18 => ?_)
    refine sRegion ?_
    refine sMove (iv 8) S (wN rfl) (.inr rfl) rfl rfl (lb rfl) fun a S => ?_
    refine leafL (leafT (hK18 _ _ ?_))
    obtain rfl := Option.some.inj h
    exact wp_ret (rThen (sRet (iv 8) S (rsl1 rfl (rvT (t := 2) (v := iv 8) S rfl)) ⟨(), rfl, S.mem.sel [] [] (by decide) rfl rfl⟩))
  refine sCondF S rfl hc17 ?_
  refine wp_skip (leafT (hK11 _ _ ?_))
  obtain ⟨t19, h, g20⟩ := bindSome h
  refine sCut (fun a w => .inl () = t19 ∧ St [] E [] w0 58 a w [] [] []) ?_ (fun a w hI => ?_)
  rotate_left
  · obtain ⟨rfl, S⟩ := hI
    have h := g20
    clear g20
    try dsimp only at h
    refine sSeq (fun K54 hK54 => ?_)
    refine sRegion ?_
    refine sMove (iv 0) S (wN rfl) (.inr rfl) rfl rfl (lb rfl) fun a S => ?_
    refine leafL (leafT (hK54 _ _ ?_))
    obtain rfl := Option.some.inj h
    exact wp_ret (sRet (iv 0) S (rsl1 rfl (rvT (t := 2) (v := iv 0) S rfl)) ⟨(), rfl, S.mem.sel [] [] (by decide) rfl rfl⟩)
  refine sSeq (fun K21 hK21 => ?_)
  refine sRegion ?_
  refine sField (b := b10) (off := 0) 0 0 S (wN rfl) rfl rfl rfl rfl rfl (lb rfl) fun a S => ?_
  refine sLoad1 (p := b10) (off := 0) (T := 30) (vs := [.slice ad5 p0.Left.length cp6, .slice ad7 p0.Right.length cp8]) 0 (.slice ad5 p0.Left.length cp6) S (wN rfl) rfl rfl rfl rfl rfl rfl (lb rfl) fun a S => ?_
  refine sLen (ad := ad5) (m := p0.Left.length) (c := cp6) S (wN rfl) rfl Tryd.underlying28 rfl rfl (lb rfl) fun a S => ?_
  refine sMove (iv 0) S (wN rfl) (.inl rfl) rfl rfl (lb rfl) fun a S => ?_
  refine leafL (leafT (hK21 _ _ ?_))
  refine wp_block ?_
  obtain ⟨t25, hl, g24⟩ := bindSome h
  refine sLoop hl (fun s0 a w => match s0 with | s22 => St [] E [] w0 58 a w [(1, .pointer (some ⟨b10, 0, none⟩)), (26, .slice ad5 p0.Left.length cp6), (27, iv (p0.Left.length : Int)), (28, iv s22)] [eBox b10 30 [.slice ad5 p0.Left.length cp6, .slice ad7 p0.Right.length cp8]] [fRep (rL (rI .i64)) (.slice ad5 p0.Left.length cp6) p0.Left, fRep (rL (rI .i64)) (.slice ad7 p0.Right.length cp8) p0.Right]) (S.fix [0] [0, 1] (by decide) rfl rfl rfl) ?_
  clear hl h
  intro s22 a w c0 hI h hu23
  unfold piece_Check_l1 at h
  dsimp only at h hI
  have S := hI
  refine sSeq (fun K26 hK26 => ?_)
  refine sRegion ?_
  refine sBin (.bool (decide (s22 < (p0.Left.length : Int)))) S (wN rfl) rfl rfl rfl (bLt _ _ _ _ .i64 s22 (p0.Left.length : Int)) rfl (lb rfl) fun a S => ?_
  refine leafL (leafT (hK26 _ _ ?_))
  refine sSeq (fun K27 hK27 => ?_)
  rcases iteSome h with ⟨hc28, h⟩ | ⟨hc28, h⟩
  rotate_left
  · refine sCondF S rfl hc28 ?_
    obtain rfl := Option.some.inj h
    obtain rfl := hu23 _ rfl
    have h := g24
    clear g24
    try dsimp only at h
    exact wp_exit (xThen (xThen (xHit (leafT (⟨Option.some.inj h, S.fix [] [] (by decide) rfl rfl rfl⟩)))))
  refine sCondT S rfl hc28 ?_
  refine wp_skip (leafT (hK27 _ _ ?_))
  refine sSeq (fun K29 hK29 => ?_)
  refine wp_block ?_
  refine sSeq (fun K30 hK30 => ?_)
  refine sRegion ?_
  refine sMove (iv s22) S (wN rfl) (.inl rfl) rfl rfl (lb rfl) fun a S => ?_
  obtain ⟨x31, hx32, h⟩ := bindSome h
  obtain ⟨q33, hq34, S⟩ := pIdx (P := Tryd.prog) (r := (rI .i64)) (v := .slice ad5 p0.Left.length cp6) (xs := p0.Left) (j := s22) 28 3 0 S Tryd.underlying28 rfl rfl hx32
  refine sIdxV (v := .slice ad5 p0.Left.length cp6) (k := .i64) (j := s22) S (wN rfl) rfl rfl rfl hq34 rfl (lb rfl) fun a S => ?_
  obtain ⟨u35, S⟩ := pLoad (r := (rI .i64)) (q := q33) (x := x31) 0 S rfl
  obtain rfl : u35 = iv x31 := S.mem.know (i := 1) (e := fRep (rI .i64) (u35) x31) rfl
  refine sLoadV1 (vq := q33) 0 (iv x31) S (wN rfl) rfl rfl rfl rfl rfl (lb rfl) fun a S => ?_
  refine sMove (iv s22) S (wN rfl) (.inr rfl) rfl rfl (lb rfl) fun a S => ?_
  refine sMove (iv x31) S (wN rfl) (.inr rfl) rfl rfl (lb rfl) fun a S => ?_
  refine leafL (leafT (hK30 _ _ ?_))
  refine sSeq (fun K36 hK36 => ?_)
  refine sRegion ?_
  refine sField (b := b10) (off := 0) 1 1 S (wN rfl) rfl rfl rfl rfl rfl (lb rfl) fun a S => ?_
  refine sLoad1 (p := b10) (off := 1) (T := 30) (vs := [.slice ad5 p0.Left.length cp6, .slice ad7 p0.Right.length cp8]) 0 (.slice ad7 p0.Right.length cp8) S (wN rfl) rfl rfl rfl rfl rfl rfl (lb rfl) fun a S => ?_
  refine sMove (iv s22) S (wN rfl) (.inl rfl) rfl rfl (lb rfl) fun a S => ?_
  obtain ⟨x37, hx38, h⟩ := bindSome h
  obtain ⟨q39, hq40, S⟩ := pIdx (P := Tryd.prog) (r := (rI .i64)) (v := .slice ad7 p0.Right.length cp8) (xs := p0.Right) (j := s22) 28 3 4 S Tryd.underlying28 rfl rfl hx38
  refine sIdxV (v := .slice ad7 p0.Right.length cp8) (k := .i64) (j := s22) S (wN rfl) rfl rfl rfl hq40 rfl (lb rfl) fun a S => ?_
  obtain ⟨u41, S⟩ := pLoad (r := (rI .i64)) (q := q39) (x := x37) 0 S rfl
  obtain rfl : u41 = iv x37 := S.mem.know (i := 1) (e := fRep (rI .i64) (u41) x37) rfl
  refine sLoadV1 (vq := q39) 0 (iv x37) S (wN rfl) rfl rfl rfl rfl rfl (lb rfl) fun a S => ?_
  refine sMove (iv x37) S (wN rfl) (.inr rfl) rfl rfl (lb rfl) fun a S => ?_
  refine leafL (leafT (hK36 _ _ ?_))
  obtain ⟨t43, h, g44⟩ := bindSome h
  refine sCut (fun a w => ∃ o42, o42 = t43 ∧ St [] E [] w0 58 a w [(1, .pointer (some ⟨b10, 0, none⟩)), (26, .slice ad5 p0.Left.length cp6), (27, iv (p0.Left.length : Int)), (28, iv s22), (56, .bool o42)] [eBox b10 30 [.slice ad5 p0.Left.length cp6, .slice ad7 p0.Right.length cp8]] [fRep (rL (rI .i64)) (.slice ad5 p0.Left.length cp6) p0.Left, fRep (rL (rI .i64)) (.slice ad7 p0.Right.length cp8) p0.Right]) ?_ (fun a w hI => ?_)
  rotate_left
  · obtain ⟨o42, rfl, S⟩ := hI
    have h := g44
    clear g44
    try dsimp only at h
    rcases iteSome h with ⟨hc52, h⟩ | ⟨hc52, h⟩
    rotate_left
    · refine sCondF S rfl hc52 ?_
      refine wp_skip (leafB (leafT (hK29 _ _ ?_)))
      refine sRegion ?_
      refine sBin (iv (w64 (s22 + 1))) S (wN rfl) rfl rfl rfl (bAdd _ _ _ _ s22 1) rfl (lb rfl) fun a S => ?_
      refine sMove (iv (w64 (s22 + 1))) S (wN rfl) (.inl rfl) rfl rfl (lb rfl) fun a S => ?_
      exact leafL (leafT (⟨w64 (s22 + 1), (Option.some.inj h).symm, (S.fix [0] [0, 1] (by decide) rfl rfl rfl)⟩))
    refine sCondT S rfl hc52 ?_
    refine sSeq (fun K53 hK53 => ?_)
    refine sRegion ?_
    refine sMove (iv 8) S (wN rfl) (.inr rfl) rfl rfl (lb rfl) fun a S => ?_
    refine leafL (leafT (hK53 _ _ ?_))
    obtain rfl := Option.some.inj h
    obtain rfl := hu23 _ rfl
    have h := g24
    clear g24
    try dsimp only at h
    obtain rfl := Option.some.inj h
    have h := g20
    clear g20
    try dsimp only at h
    obtain rfl := Option.some.inj h
    exact wp_ret (rBlock (rThen (rThen (rBlock (rThen (sRet (iv 8) S (rsl1 rfl (rvT (t := 2) (v := iv 8) S rfl)) ⟨(), rfl, S.mem.sel [] [] (by decide) rfl rfl⟩))))))
  refine sRegion ?_
  refine sMove (iv x31) S (wN rfl) (.inl rfl) rfl rfl (lb rfl) fun a S => ?_
  obtain ⟨r45, hx46, h⟩ := bindSome h
  have S1 := S.mem
  refine sCallQ (X := Unit) (f := 37) (vs := [iv x31]) (val := fun _ => .bool r45) S (wN rfl) rfl callee37 rfl (S1.quiet [] rfl) (fun E1 w1 S1 => c_piece_column E1 w1 x31 r45 hx46 S1) rfl (lb rfl) fun _ a w S => ?_
  refine sNot (b := r45) S (wN rfl) rfl rfl rfl (lb rfl) fun a S => ?_
  refine sMove (.bool (!r45)) S (wN rfl) (.inl rfl) rfl rfl (lb rfl) fun a S => ?_
  rcases iteSome h with ⟨hc47, h⟩ | ⟨hc47, h⟩
  · refine sSkip 3 false 41 42 S rfl rfl rfl hc47 rfl (lb rfl) fun a S => ?_
    refine sSkip 3 false 41 43 S rfl rfl rfl hc47 rfl (lb rfl) fun a S => ?_
    refine sSkip 3 false 41 44 S rfl rfl rfl hc47 rfl (lb rfl) fun a S => ?_
    refine sPickT (.bool true) S (wN rfl) rfl rfl hc47 rfl rfl (lb rfl) fun a S => ?_
    refine sMove (.bool true) S (wN rfl) (.inl rfl) rfl rfl (lb rfl) fun a S => ?_
    refine sSkip 8 false 46 47 S rfl rfl rfl rfl rfl (lb rfl) fun a S => ?_
    refine sSkip 8 false 46 48 S rfl rfl rfl rfl rfl (lb rfl) fun a S => ?_
    refine sSkip 8 false 46 49 S rfl rfl rfl rfl rfl (lb rfl) fun a S => ?_
    refine sPickT (.bool true) S (wN rfl) rfl rfl rfl rfl rfl (lb rfl) fun a S => ?_
    refine sMove (.bool true) S (wN rfl) (.inl rfl) rfl rfl (lb rfl) fun a S => ?_
    refine sSkip 13 false 51 52 S rfl rfl rfl rfl rfl (lb rfl) fun a S => ?_
    refine sSkip 13 false 51 53 S rfl rfl rfl rfl rfl (lb rfl) fun a S => ?_
    refine sSkip 13 false 51 54 S rfl rfl rfl rfl rfl (lb rfl) fun a S => ?_
    refine sSkip 13 false 51 55 S rfl rfl rfl rfl rfl (lb rfl) fun a S => ?_
    refine sPickT (.bool true) S (wN rfl) rfl rfl rfl rfl rfl (lb rfl) fun a S => ?_
    exact leafL (leafT (⟨true, Option.some.inj h, S.fix [0] [6, 7] (by decide) rfl rfl rfl⟩))
  refine sMove (iv x37) S (wG 3 false 41 rfl rfl rfl hc47) (.inl rfl) rfl rfl (lb rfl) fun a S => ?_
  obtain ⟨r48, hx49, h⟩ := bindSome h
  have S1 := S.mem
  refine sCallQ (X := Unit) (f := 37) (vs := [iv x37]) (val := fun _ => .bool r48) S (wG 3 false 41 rfl rfl rfl hc47) rfl callee37 rfl (S1.quiet [] rfl) (fun E1 w1 S1 => c_piece_column E1 w1 x37 r48 hx49 S1) rfl (lb rfl) fun _ a w S => ?_
  refine sNot (b := r48) S (wG 3 false 41 rfl rfl rfl hc47) rfl rfl rfl (lb rfl) fun a S => ?_
  refine sPickF (.bool (!r48)) S (wN rfl) rfl rfl hc47 rfl rfl (lb rfl) fun a S => ?_
  refine sMove (.bool (!r48)) S (wN rfl) (.inl rfl) rfl rfl (lb rfl) fun a S => ?_
  rcases iteSome h with ⟨hc50, h⟩ | ⟨hc50, h⟩
  · refine sSkip 8 false 46 47 S rfl rfl rfl hc50 rfl (lb rfl) fun a S => ?_
    refine sSkip 8 false 46 48 S rfl rfl rfl hc50 rfl (lb rfl) fun a S => ?_
    refine sSkip 8 false 46 49 S rfl rfl rfl hc50 rfl (lb rfl) fun a S => ?_
    refine sPickT (.bool true) S (wN rfl) rfl rfl hc50 rfl rfl (lb rfl) fun a S => ?_
    refine sMove (.bool true) S (wN rfl) (.inl rfl) rfl rfl (lb rfl) fun a S => ?_
    refine sSkip 13 false 51 52 S rfl rfl rfl rfl rfl (lb rfl) fun a S => ?_
    refine sSkip 13 false 51 53 S rfl rfl rfl rfl rfl (lb rfl) fun a S => ?_
    refine sSkip 13 false 51 54 S rfl rfl rfl rfl rfl (lb rfl) fun a S => ?_
    refine sSkip 13 false 51 55 S rfl rfl rfl rfl rfl (lb rfl) fun a S => ?_
    refine sPickT (.bool true) S (wN rfl) rfl rfl rfl rfl rfl (lb rfl) fun a S => ?_
    exact leafL (leafT (⟨true, Option.some.inj h, S.fix [0] [6, 7] (by decide) rfl rfl rfl⟩))
  refine sMove (iv x31) S (wG 8 false 46 rfl rfl rfl hc50) (.inl rfl) rfl rfl (lb rfl) fun a S => ?_
  refine sMove (iv x37) S (wG 8 false 46 rfl rfl rfl hc50) (.inl rfl) rfl rfl (lb rfl) fun a S => ?_
  refine sBin (.bool (decide (x37 ≤ x31))) S (wG 8 false 46 rfl rfl rfl hc50) rfl rfl rfl (bGe _ _ _ _ .i64 x31 x37) rfl (lb rfl) fun a S => ?_
  refine sPickF (.bool (decide (x37 ≤ x31))) S (wN rfl) rfl rfl hc50 rfl rfl (lb rfl) fun a S => ?_
  refine sMove (.bool (decide (x37 ≤ x31))) S (wN rfl) (.inl rfl) rfl rfl (lb rfl) fun a S => ?_
  rcases iteSome h with ⟨hc51, h⟩ | ⟨hc51, h⟩
  · refine sSkip 13 false 51 52 S rfl rfl rfl hc51 rfl (lb rfl) fun a S => ?_
    refine sSkip 13 false 51 53 S rfl rfl rfl hc51 rfl (lb rfl) fun a S => ?_
    refine sSkip 13 false 51 54 S rfl rfl rfl hc51 rfl (lb rfl) fun a S => ?_
    refine sSkip 13 false 51 55 S rfl rfl rfl hc51 rfl (lb rfl) fun a S => ?_
    refine sPickT (.bool true) S (wN rfl) rfl rfl hc51 rfl rfl (lb rfl) fun a S => ?_
    exact leafL (leafT (⟨true, Option.some.inj h, S.fix [0] [6, 7] (by decide) rfl rfl rfl⟩))
  refine sMove (iv x37) S (wG 13 false 51 rfl rfl rfl hc51) (.inl rfl) rfl rfl (lb rfl) fun a S => ?_
  refine sMove (iv x31) S (wG 13 false 51 rfl rfl rfl hc51) (.inl rfl) rfl rfl (lb rfl) fun a S => ?_
  refine sBin (iv (w64 (x37 - x31))) S (wG 13 false 51 rfl rfl rfl hc51) rfl rfl rfl (bSub _ _ _ _ x37 x31) rfl (lb rfl) fun a S => ?_
  refine sBin (.bool (decide (200 < (w64 (x37 - x31))))) S (wG 13 false 51 rfl rfl rfl hc51) rfl rfl rfl (bGt _ _ _ _ .i64 (w64 (x37 - x31)) 200) rfl (lb rfl) fun a S => ?_
  refine sPickF (.bool (decide (200 < (w64 (x37 - x31))))) S (wN rfl) rfl rfl hc51 rfl rfl (lb rfl) fun a S => ?_
  exact leafL (leafT (⟨decide (200 < (w64 (x37 - x31))), Option.some.inj h, S.fix [0] [6, 7] (by decide) rfl rfl rfl⟩))

end Go.Proofs.YtmedbnjhgkcndaaDoor
namespace Go.Proofs.YtmedbnjhgkcndaaDoor
open Go.RowKit
set_option linter.unusedVariables false

def anc_piece_side_0 : List (List Nat) := [[], [0], [0, 1], [0, 1, 2], [0, 1, 2, 3], [0, 1, 2, 3, 4], [0, 1, 2, 3, 4, 5], [0, 1, 2, 3, 4, 5, 6], [0, 1, 2, 3, 4, 5, 6, 7], [0, 1, 2, 3, 4, 5, 6, 7, 8], [0, 1, 2, 3, 4, 5, 6, 7], [0, 1, 2, 3, 4, 5, 6, 7], [0, 1, 2, 3, 4, 5, 6, 7, 11], [0, 1, 2, 3, 4, 5, 6, 7, 10, 11, 12], [0, 1, 2, 3, 4, 5, 6, 7, 10, 11, 12, 13], [0, 1, 2, 3, 4, 5, 6, 7, 10, 11, 12, 13, 14], [0, 1, 2, 3, 4, 5, 6, 7, 8, 9, 10, 11, 12, 13, 14, 15], [0, 1, 2, 3, 4, 5, 6, 7, 8, 9, 10, 11, 12, 13, 14, 15, 16], [0, 1, 2, 3, 4, 5, 6, 7, 8, 9, 10, 11, 12, 13, 14, 15, 16, 17]]
noncomputable def piece_side_l1 (p0 : (List api_Point)) : Int → Option (Int ⊕ (Bool ⊕ Unit)) := fun s0 => match s0 with
  | s30 =>
    if decide (s30 < (p0.length : Int)) then
      Option.bind (idxO p0 s30) fun x39 =>
      Option.bind (α := Bool) (
        Option.bind (F_piece_column x39.X) fun r48 =>
        if !r48 then
          some true
        else
          if decide (0 < s30) then
            Option.bind (idxO p0 (w64 (s30 - 1))) fun x52 =>
            some (decide (x39.Y ≤ x52.Y))
          else
            some false) fun o45 =>
      if o45 then
        some (.inr (.inl false))
      else
        some (.inl (w64 (s30 + 1)))
    else
      some (.inr (.inr ()))
noncomputable def F_piece_side (p0 : (List api_Point)) : Option Bool :=
  Option.bind (α := Bool) (
    if (p0.length : Int) == 0 then
      some true
    else
      if decide (50 < (p0.length : Int)) then
        some true
      else
        Option.bind (idxO p0 0) fun x10 =>
        if x10.Y != 0 then
          some true
        else
          Option.bind (idxO p0 (w64 ((p0.length : Int) - 1))) fun x18 =>
          some (decide (100 ≤ x18.Y))) fun o5 =>
  if o5 then
    some false
  else
    Option.bind (α := Unit ⊕ Bool) (
      Option.bind (whileO (piece_side_l1 p0) 0) fun z0 => match z0 with
        | .inl z =>
          some (.inr z)
        | .inr _ =>
          some (.inl ())) fun z0 => match z0 with
      | .inl _ =>
        some true
      | .inr z =>
        some z
set_option maxHeartbeats 4000000 in
set_option maxRecDepth 100000 in
theorem c_piece_side (E : Nat → Prop) (w0 : World) (p0 : (List api_Point)) (v0 : Value) (r : Bool) (h : F_piece_side p0 = some r) (S : St0 E [] w0 w0 [] [fRep (rL r_api_Point) (v0) p0]) :
    Calls Tryd.prog 49 #[v0] w0 (Ret (X := Unit) E [] w0 (fun _ => .bool r) (fun _ => []) (fun _ => [])) := by
  unfold F_piece_side at h
  obtain ⟨ad1, cp2, _, rfl, _⟩ := S.know (i := 0) (e := fRep (rL r_api_Point) (v0) p0) rfl
  refine sEnter (args := [.slice ad1 p0.length cp2]) 57 Tryd.func49 rfl rfl (by simp) S (fun a S => ?_)
  refine sSeq (fun K3 hK3 => ?_)
  refine sRegion ?_
  refine sMove (.bool false) S (wN rfl) (.inr rfl) rfl rfl (lb rfl) fun a S => ?_
  refine leafL (leafT (hK3 _ _ ?_))
  refine sSeq (fun K4 hK4 => ?_)
  obtain ⟨t6, h, g7⟩ := bindSome h
  refine sCut (fun a w => ∃ o5, o5 = t6 ∧ St [] E [] w0 57 a w [(0, .slice ad1 p0.length cp2), (29, .bool o5)] [] [fRep (rL r_api_Point) (.slice ad1 p0.length cp2) p0]) ?_ (fun a w hI => ?_)
  · refine sRegion ?_
    refine sMove (.slice ad1 p0.length cp2) S (wN rfl) (.inl rfl) rfl rfl (lb rfl) fun a S => ?_
    refine sLen (ad := ad1) (m := p0.length) (c := cp2) S (wN rfl) rfl Tryd.underlying22 rfl rfl (lb rfl) fun a S => ?_
    refine sBin (.bool ((p0.length : Int) == 0)) S (wN rfl) rfl rfl rfl (bEq _ _ _ _ .i64 (p0.length : Int) 0) rfl (lb rfl) fun a S => ?_
    refine sMove (.bool ((p0.length : Int) == 0)) S (wN rfl) (.inl rfl) rfl rfl (lb rfl) fun a S => ?_
    rcases iteSome h with ⟨hc8, h⟩ | ⟨hc8, h⟩
    · refine sSkip 3 false 8 9 S rfl rfl rfl hc8 rfl (lb rfl) fun a S => ?_
      refine sSkip 3 false 8 10 S rfl rfl rfl hc8 rfl (lb rfl) fun a S => ?_
      refine sSkip 3 false 8 11 S rfl rfl rfl hc8 rfl (lb rfl) fun a S => ?_
      refine sPickT (.bool true) S (wN rfl) rfl rfl hc8 rfl rfl (lb rfl) fun a S => ?_
      refine sMove (.bool true) S (wN rfl) (.inl rfl) rfl rfl (lb rfl) fun a S => ?_
      refine sSkip 8 false 13 14 S rfl rfl rfl rfl rfl (lb rfl) fun a S => ?_
      refine sSkip 8 false 13 15 S rfl rfl rfl rfl rfl (lb rfl) fun a S => ?_
      refine sSkip 8 false 13 16 S rfl rfl rfl rfl rfl (lb rfl) fun a S => ?_
      refine sSkip 8 false 13 17 S rfl rfl rfl rfl rfl (lb rfl) fun a S => ?_
      refine sSkip 8 false 13 18 S rfl rfl rfl rfl rfl (lb rfl) fun a S => ?_
      refine sPickT (.bool true) S (wN rfl) rfl rfl rfl rfl rfl (lb rfl) fun a S => ?_
      refine sMove (.bool true) S (wN rfl) (.inl rfl) rfl rfl (lb rfl) fun a S => ?_
      refine sSkip 15 false 20 21 S rfl rfl rfl rfl rfl (lb rfl) fun a S => ?_
      refine sSkip 15 false 20 22 S rfl rfl rfl rfl rfl (lb rfl) fun a S => ?_
      refine sSkip 15 false 20 23 S rfl rfl rfl rfl rfl (lb rfl) fun a S => ?_
      refine sSkip 15 false 20 24 S rfl rfl rfl rfl rfl (lb rfl) fun a S => ?_
      refine sSkip 15 false 20 25 S rfl rfl rfl rfl rfl (lb rfl) fun a S => ?_
      refine sSkip 15 false 20 26 S rfl rfl rfl rfl rfl (lb rfl) fun a S => ?_
      refine sSkip 15 false 20 27 S rfl rfl rfl rfl rfl (lb rfl) fun a S => ?_
      refine sSkip 15 false 20 28 S rfl rfl rfl rfl rfl (lb rfl) fun a S => ?_
      refine sPickT (.bool true) S (wN rfl) rfl rfl rfl rfl rfl (lb rfl) fun a S => ?_
      exact leafL (leafT (⟨true, Option.some.inj h, S.fix [] [0] (by decide) rfl rfl rfl⟩))
    refine sMove (.slice ad1 p0.length cp2) S (wG 3 false 8 rfl rfl rfl hc8) (.inl rfl) rfl rfl (lb rfl) fun a S => ?_
    refine sLen (ad := ad1) (m := p0.length) (c := cp2) S (wG 3 false 8 rfl rfl rfl hc8) rfl Tryd.underlying22 rfl rfl (lb rfl) fun a S => ?_
    refine sBin (.bool (decide (50 < (p0.length : Int)))) S (wG 3 false 8 rfl rfl rfl hc8) rfl rfl rfl (bGt _ _ _ _ .i64 (p0.length : Int) 50) rfl (lb rfl) fun a S => ?_
    refine sPickF (.bool (decide (50 < (p0.length : Int)))) S (wN rfl) rfl rfl hc8 rfl rfl (lb rfl) fun a S => ?_
    refine sMove (.bool (decide (50 < (p0.length : Int)))) S (wN rfl) (.inl rfl) rfl rfl (lb rfl) fun a S => ?_
    rcases iteSome h with ⟨hc9, h⟩ | ⟨hc9, h⟩
    · refine sSkip 8 false 13 14 S rfl rfl rfl hc9 rfl (lb rfl) fun a S => ?_
      refine sSkip 8 false 13 15 S rfl rfl rfl hc9 rfl (lb rfl) fun a S => ?_
      refine sSkip 8 false 13 16 S rfl rfl rfl hc9 rfl (lb rfl) fun a S => ?_
      refine sSkip 8 false 13 17 S rfl rfl rfl hc9 rfl (lb rfl) fun a S => ?_
      refine sSkip 8 false 13 18 S rfl rfl rfl hc9 rfl (lb rfl) fun a S => ?_
      refine sPickT (.bool true) S (wN rfl) rfl rfl hc9 rfl rfl (lb rfl) fun a S => ?_
      refine sMove (.bool true) S (wN rfl) (.inl rfl) rfl rfl (lb rfl) fun a S => ?_
      refine sSkip 15 false 20 21 S rfl rfl rfl rfl rfl (lb rfl) fun a S => ?_
      refine sSkip 15 false 20 22 S rfl rfl rfl rfl rfl (lb rfl) fun a S => ?_
      refine sSkip 15 false 20 23 S rfl rfl rfl rfl rfl (lb rfl) fun a S => ?_
      refine sSkip 15 false 20 24 S rfl rfl rfl rfl rfl (lb rfl) fun a S => ?_
      refine sSkip 15 false 20 25 S rfl rfl rfl rfl rfl (lb rfl) fun a S => ?_
      refine sSkip 15 false 20 26 S rfl rfl rfl rfl rfl (lb rfl) fun a S => ?_
      refine sSkip 15 false 20 27 S rfl rfl rfl rfl rfl (lb rfl) fun a S => ?_
      refine sSkip 15 false 20 28 S rfl rfl rfl rfl rfl (lb rfl) fun a S => ?_
      refine sPickT (.bool true) S (wN rfl) rfl rfl rfl rfl rfl (lb rfl) fun a S => ?_
      exact leafL (leafT (⟨true, Option.some.inj h, S.fix [] [0] (by decide) rfl rfl rfl⟩))
    refine sMove (.slice ad1 p0.length cp2) S (wG 8 false 13 rfl rfl rfl hc9) (.inl rfl) rfl rfl (lb rfl) fun a S => ?_
    obtain ⟨x10, hx11, h⟩ := bindSome h
    obtain ⟨q12, hq13, S⟩ := pIdx (P := Tryd.prog) (r := r_api_Point) (v := .slice ad1 p0.length cp2) (xs := p0) (j := 0) 22 35 0 S Tryd.underlying22 rfl rfl hx11
    refine sIdxV (v := .slice ad1 p0.length cp2) (k := .i64) (j := 0) S (wG 8 false 13 rfl rfl rfl hc9) rfl rfl rfl hq13 rfl (lb rfl) fun a S => ?_
    obtain ⟨q14, hq15, S⟩ := pFld (P := Tryd.prog) (r := r_api_Point) (s2 := (rI .i64)) (g := (·.Y)) (q := q12) (z := x10) 35 1 0 1 S rfl rfl comp_api_Point_Y
    refine sFldV (q := q12) S (wG 8 false 13 rfl rfl rfl hc9) rfl rfl hq15 rfl (lb rfl) fun a S => ?_
    obtain ⟨u16, S⟩ := pLoad (r := (rI .i64)) (q := q14) (x := x10.Y) 0 S rfl
    obtain rfl : u16 = iv x10.Y := S.mem.know (i := 1) (e := fRep (rI .i64) (u16) x10.Y) rfl
    refine sLoadV1 (vq := q14) 0 (iv x10.Y) S (wG 8 false 13 rfl rfl rfl hc9) rfl rfl rfl rfl rfl (lb rfl) fun a S => ?_
    refine sBin (.bool (x10.Y != 0)) S (wG 8 false 13 rfl rfl rfl hc9) rfl rfl rfl (bNe _ _ _ _ .i64 x10.Y 0) rfl (lb rfl) fun a S => ?_
    refine sPickF (.bool (x10.Y != 0)) S (wN rfl) rfl rfl hc9 rfl rfl (lb rfl) fun a S => ?_
    refine sMove (.bool (x10.Y != 0)) S (wN rfl) (.inl rfl) rfl rfl (lb rfl) fun a S => ?_
    rcases iteSome h with ⟨hc17, h⟩ | ⟨hc17, h⟩
    · refine sSkip 15 false 20 21 S rfl rfl rfl hc17 rfl (lb rfl) fun a S => ?_
      refine sSkip 15 false 20 22 S rfl rfl rfl hc17 rfl (lb rfl) fun a S => ?_
      refine sSkip 15 false 20 23 S rfl rfl rfl hc17 rfl (lb rfl) fun a S => ?_
      refine sSkip 15 false 20 24 S rfl rfl rfl hc17 rfl (lb rfl) fun a S => ?_
      refine sSkip 15 false 20 25 S rfl rfl rfl hc17 rfl (lb rfl) fun a S => ?_
      refine sSkip 15 false 20 26 S rfl rfl rfl hc17 rfl (lb rfl) fun a S => ?_
      refine sSkip 15 false 20 27 S rfl rfl rfl hc17 rfl (lb rfl) fun a S => ?_
      refine sSkip 15 false 20 28 S rfl rfl rfl hc17 rfl (lb rfl) fun a S => ?_
      refine sPickT (.bool true) S (wN rfl) rfl rfl hc17 rfl rfl (lb rfl) fun a S => ?_
      exact leafL (leafT (⟨true, Option.some.inj h, S.fix [] [4] (by decide) rfl rfl rfl⟩))
    refine sMove (.slice ad1 p0.length cp2) S (wG 15 false 20 rfl rfl rfl hc17) (.inl rfl) rfl rfl (lb rfl) fun a S => ?_
    refine sMove (.slice ad1 p0.length cp2) S (wG 15 false 20 rfl rfl rfl hc17) (.inl rfl) rfl rfl (lb rfl) fun a S => ?_
    refine sLen (ad := ad1) (m := p0.length) (c := cp2) S (wG 15 false 20 rfl rfl rfl hc17) rfl Tryd.underlying22 rfl rfl (lb rfl) fun a S => ?_
    refine sBin (iv (w64 ((p0.length : Int) - 1))) S (wG 15 false 20 rfl rfl rfl hc17) rfl rfl rfl (bSub _ _ _ _ (p0.length : Int) 1) rfl (lb rfl) fun a S => ?_
    obtain ⟨x18, hx19, h⟩ := bindSome h
    obtain ⟨q20, hq21, S⟩ := pIdx (P := Tryd.prog) (r := r_api_Point) (v := .slice ad1 p0.length cp2) (xs := p0) (j := w64 ((p0.length : Int) - 1)) 22 35 4 S Tryd.underlying22 rfl rfl hx19
    refine sIdxV (v := .slice ad1 p0.length cp2) (k := .i64) (j := w64 ((p0.length : Int) - 1)) S (wG 15 false 20 rfl rfl rfl hc17) rfl rfl rfl hq21 rfl (lb rfl) fun a S => ?_
    obtain ⟨q22, hq23, S⟩ := pFld (P := Tryd.prog) (r := r_api_Point) (s2 := (rI .i64)) (g := (·.Y)) (q := q20) (z := x18) 35 1 0 1 S rfl rfl comp_api_Point_Y
    refine sFldV (q := q20) S (wG 15 false 20 rfl rfl rfl hc17) rfl rfl hq23 rfl (lb rfl) fun a S => ?_
    obtain ⟨u24, S⟩ := pLoad (r := (rI .i64)) (q := q22) (x := x18.Y) 0 S rfl
    obtain rfl : u24 = iv x18.Y := S.mem.know (i := 1) (e := fRep (rI .i64) (u24) x18.Y) rfl
    refine sLoadV1 (vq := q22) 0 (iv x18.Y) S (wG 15 false 20 rfl rfl rfl hc17) rfl rfl rfl rfl rfl (lb rfl) fun a S => ?_
    refine sBin (.bool (decide (100 ≤ x18.Y))) S (wG 15 false 20 rfl rfl rfl hc17) rfl rfl rfl (bGe _ _ _ _ .i64 x18.Y 100) rfl (lb rfl) fun a S => ?_
    refine sPickF (.bool (decide (100 ≤ x18.Y))) S (wN rfl) rfl rfl hc17 rfl rfl (lb rfl) fun a S => ?_
    exact leafL (leafT (⟨decide (100 ≤ x18.Y), Option.some.inj h, S.fix [] [8] (by decide) rfl rfl rfl⟩))
  obtain ⟨o5, rfl, S⟩ := hI
  have h := g7
  clear g7
  try dsimp only at h
  rcases iteSome h with ⟨hc25, h⟩ | ⟨hc25, h⟩
  · refine sCondT S rfl hc25 ?_
    refine sSeq (fun K26 hK26 => ?_)
    refine sRegion ?_
    refine sMove (.bool false) S (wN rfl) (.inr rfl) rfl rfl (lb rfl) fun a S => ?_
    refine leafL (leafT (hK26 _ _ ?_))
    obtain rfl := Option.some.inj h
    exact wp_ret (rThen (sRet (.bool false) S (rsl1 rfl (rvT (t := 2) (v := .bool false) S rfl)) ⟨(), rfl, S.mem.sel [] [] (by decide) rfl rfl⟩))
  refine sCondF S rfl hc25 ?_
  refine wp_skip (leafT (hK4 _ _ ?_))
  obtain ⟨t27, h, g28⟩ := bindSome h
  refine sCut (fun a w => .inl () = t27 ∧ St [] E [] w0 57 a w [] [] []) ?_ (fun a w hI => ?_)
  rotate_left
  · obtain ⟨rfl, S⟩ := hI
    have h := g28
    clear g28
    try dsimp only at h
    refine sSeq (fun K66 hK66 => ?_)
    refine sRegion ?_
    refine sMove (.bool true) S (wN rfl) (.inr rfl) rfl rfl (lb rfl) fun a S => ?_
    refine leafL (leafT (hK66 _ _ ?_))
    obtain rfl := Option.some.inj h
    exact wp_ret (sRet (.bool true) S (rsl1 rfl (rvT (t := 2) (v := .bool true) S rfl)) ⟨(), rfl, S.mem.sel [] [] (by decide) rfl rfl⟩)
  refine sSeq (fun K29 hK29 => ?_)
  refine sRegion ?_
  refine sMove (.slice ad1 p0.length cp2) S (wN rfl) (.inl rfl) rfl rfl (lb rfl) fun a S => ?_
  refine sLen (ad := ad1) (m := p0.length) (c := cp2) S (wN rfl) rfl Tryd.underlying22 rfl rfl (lb rfl) fun a S => ?_
  refine sMove (iv 0) S (wN rfl) (.inl rfl) rfl rfl (lb rfl) fun a S => ?_
  refine leafL (leafT (hK29 _ _ ?_))
  refine wp_block ?_
  obtain ⟨t33, hl, g32⟩ := bindSome h
  refine sLoop hl (fun s0 a w => match s0 with | s30 => St [] E [] w0 57 a w [(0, .slice ad1 p0.length cp2), (30, .slice ad1 p0.length cp2), (31, iv (p0.length : Int)), (32, iv s30)] [] [fRep (rL r_api_Point) (.slice ad1 p0.length cp2) p0]) (S.fix [] [0] (by decide) rfl rfl rfl) ?_
  clear hl h
  intro s30 a w c0 hI h hu31
  unfold piece_side_l1 at h
  dsimp only at h hI
  have S := hI
  refine sSeq (fun K34 hK34 => ?_)
  refine sRegion ?_
  refine sBin (.bool (decide (s30 < (p0.length : Int)))) S (wN rfl) rfl rfl rfl (bLt _ _ _ _ .i64 s30 (p0.length : Int)) rfl (lb rfl) fun a S => ?_
  refine leafL (leafT (hK34 _ _ ?_))
  refine sSeq (fun K35 hK35 => ?_)
  rcases iteSome h with ⟨hc36, h⟩ | ⟨hc36, h⟩
  rotate_left
  · refine sCondF S rfl hc36 ?_
    obtain rfl := Option.some.inj h
    obtain rfl := hu31 _ rfl
    have h := g32
    clear g32
    try dsimp only at h
    exact wp_exit (xThen (xThen (xHit (leafT (⟨Option.some.inj h, S.fix [] [] (by decide) rfl rfl rfl⟩)))))
  refine sCondT S rfl hc36 ?_
  refine wp_skip (leafT (hK35 _ _ ?_))
  refine sSeq (fun K37 hK37 => ?_)
  refine wp_block ?_
  refine sSeq (fun K38 hK38 => ?_)
  refine sRegion ?_
  refine sMove (iv s30) S (wN rfl) (.inl rfl) rfl rfl (lb rfl) fun a S => ?_
  obtain ⟨x39, hx40, h⟩ := bindSome h
  obtain ⟨q41, hq42, S⟩ := pIdx (P := Tryd.prog) (r := r_api_Point) (v := .slice ad1 p0.length cp2) (xs := p0) (j := s30) 22 35 0 S Tryd.underlying22 rfl rfl hx40
  refine sIdxV (v := .slice ad1 p0.length cp2) (k := .i64) (j := s30) S (wN rfl) rfl rfl rfl hq42 rfl (lb rfl) fun a S => ?_
  obtain ⟨u43, S⟩ := pLoad (r := r_api_Point) (q := q41) (x := x39) 0 S rfl
  obtain rfl : u43 = .agg #[iv x39.X, iv x39.Y] := S.mem.know (i := 1) (e := fRep r_api_Point (u43) x39) rfl
  refine sLoadVN (vq := q41) 0 [iv x39.X, iv x39.Y] S (wN rfl) rfl rfl rfl rfl rfl rfl (lb rfl) fun a S => ?_
  refine sAlloc (.agg #[iv 0, iv 0]) S (wN rfl) rfl rfl [iv 0, iv 0] rfl rfl (lb rfl) fun a b44 w S => ?_
  refine sMove (iv s30) S (wN rfl) (.inr rfl) rfl rfl (lb rfl) fun a S => ?_
  refine sStore (p := b44) (off := 0) (T := 35) (vs := [iv 0, iv 0]) (v := .agg #[iv x39.X, iv x39.Y]) 0 [iv x39.X, iv x39.Y] S (wN rfl) rfl rfl rfl rfl rfl rfl rfl (by simp) rfl fun a w S => ?_
  refine leafL (leafT (hK38 _ _ ?_))
  obtain ⟨t46, h, g47⟩ := bindSome h
  refine sCut (fun a w => ∃ o45, o45 = t46 ∧ St [] E [] w0 57 a w [(0, .slice ad1 p0.length cp2), (30, .slice ad1 p0.length cp2), (31, iv (p0.length : Int)), (32, iv s30), (55, .bool o45)] [] [fRep (rL r_api_Point) (.slice ad1 p0.length cp2) p0]) ?_ (fun a w hI => ?_)
  rotate_left
  · obtain ⟨o45, rfl, S⟩ := hI
    have h := g47
    clear g47
    try dsimp only at h
    rcases iteSome h with ⟨hc64, h⟩ | ⟨hc64, h⟩
    rotate_left
    · refine sCondF S rfl hc64 ?_
      refine wp_skip (leafB (leafT (hK37 _ _ ?_)))
      refine sRegion ?_
      refine sBin (iv (w64 (s30 + 1))) S (wN rfl) rfl rfl rfl (bAdd _ _ _ _ s30 1) rfl (lb rfl) fun a S => ?_
      refine sMove (iv (w64 (s30 + 1))) S (wN rfl) (.inl rfl) rfl rfl (lb rfl) fun a S => ?_
      exact leafL (leafT (⟨w64 (s30 + 1), (Option.some.inj h).symm, (S.fix [] [0] (by decide) rfl rfl rfl)⟩))
    refine sCondT S rfl hc64 ?_
    refine sSeq (fun K65 hK65 => ?_)
    refine sRegion ?_
    refine sMove (.bool false) S (wN rfl) (.inr rfl) rfl rfl (lb rfl) fun a S => ?_
    refine leafL (leafT (hK65 _ _ ?_))
    obtain rfl := Option.some.inj h
    obtain rfl := hu31 _ rfl
    have h := g32
    clear g32
    try dsimp only at h
    obtain rfl := Option.some.inj h
    have h := g28
    clear g28
    try dsimp only at h
    obtain rfl := Option.some.inj h
    exact wp_ret (rBlock (rThen (rThen (rBlock (rThen (sRet (.bool false) S (rsl1 rfl (rvT (t := 2) (v := .bool false) S rfl)) ⟨(), rfl, S.mem.sel [] [] (by decide) rfl rfl⟩))))))
  obtain ⟨r48, hx49, h⟩ := bindSome h
  rcases iteSome h with ⟨hc50, h⟩ | ⟨hc50, h⟩
  · refine sDraw (nf := []) (W := [(0, 37, .pointer (some ⟨b44, 0, none⟩)), (1, 38, iv x39.X), (2, 39, .bool r48), (3, 40, .bool (!r48)), (4, 41, .bool (!r48)), (5, 42, undef), (6, 43, undef), (7, 44, undef), (8, 45, undef), (9, 46, undef), (10, 47, undef), (11, 48, undef), (12, 49, undef), (13, 50, undef), (14, 51, undef), (15, 52, undef), (16, 53, undef), (17, 54, undef), (18, 55, .bool true)]) rfl S ?_
    refine node_by (A := anc_piece_side_0) (nf := []) (Y := []) (W := [(0, 37, .pointer (some ⟨b44, 0, none⟩)), (1, 38, iv x39.X), (2, 39, .bool r48), (3, 40, .bool (!r48)), (4, 41, .bool (!r48)), (5, 42, undef), (6, 43, undef), (7, 44, undef), (8, 45, undef), (9, 46, undef), (10, 47, undef), (11, 48, undef), (12, 49, undef), (13, 50, undef), (14, 51, undef), (15, 52, undef), (16, 53, undef), (17, 54, undef), (18, 55, .bool true)]) 19 (by kernel_rfl) (by kernel_rfl) (by kernel_rfl) (by kernel_rfl) (by kernel_rfl) [0, 1, 2, 3, 4, 5, 6, 7, 8, 9, 10, 11, 12, 13, 14, 15, 16, 17, 18] (by kernel_rfl) (by decide) (by decide) (aF 0 18 (by decide) ?_ (aF 1 17 (by decide) ?_ (aF 2 16 (by decide) ?_ (aF 3 15 (by decide) ?_ (aF 4 14 (by decide) ?_ (aF 5 13 (by decide) ?_ (aF 6 12 (by decide) ?_ (aF 7 11 (by decide) ?_ (aF 8 10 (by decide) ?_ (aF 9 9 (by decide) ?_ (aF 10 8 (by decide) ?_ (aF 11 7 (by decide) ?_ (aF 12 6 (by decide) ?_ (aF 13 5 (by decide) ?_ (aF 14 4 (by decide) ?_ (aF 15 3 (by decide) ?_ (aF 16 2 (by decide) ?_ (aF 17 1 (by decide) ?_ (aF 18 0 (by decide) ?_ (trivial)))))))))))))))))))) [(0, .slice ad1 p0.length cp2), (30, .slice ad1 p0.length cp2), (31, iv (p0.length : Int)), (32, iv s30), (42, undef), (43, undef), (44, undef), (45, undef), (46, undef), (47, undef), (48, undef), (49, undef), (50, undef), (51, undef), (52, undef), (53, undef), (54, undef), (55, .bool true)] (fin_of [none, none, none, none, some 5, some 6, some 7, some 8, some 9, some 10, some 11, some 12, some 13, some 14, some 15, some 16, some 17, some 18] rfl (by kernel_rfl) (by kernel_rfl)) (fun _ a w S => ?_)
    · refine fI 37 (.pointer (some ⟨b44, 0, none⟩)) [(4, .pointer (some ⟨b44, 0, none⟩))] 0 [none] rfl rfl rfl rfl rfl rfl fun G a w S => ?_
      refine sField (b := b44) (off := 0) 0 0 S (wN rfl) rfl rfl rfl rfl rfl (lb rfl) fun a S => ?_
      exact leafL ⟨rfl, S⟩
    · refine fI 38 (iv x39.X) [(37, .pointer (some ⟨b44, 0, none⟩))] 1 [some 0] rfl rfl rfl rfl rfl rfl fun G a w S => ?_
      refine sLoad1 (p := b44) (off := 0) (T := 35) (vs := [iv x39.X, iv x39.Y]) 0 (iv x39.X) S (wN rfl) rfl rfl rfl rfl rfl rfl (lb rfl) fun a S => ?_
      exact leafL ⟨rfl, S⟩
    · refine fI 39 (.bool r48) [(38, iv x39.X)] 2 [some 1] rfl rfl rfl rfl rfl rfl fun G a w S => ?_
      have S1 := S.mem
      refine sCallQ (X := Unit) (f := 37) (vs := [iv x39.X]) (val := fun _ => .bool r48) S (wN rfl) rfl callee37 rfl (S1.quiet [] rfl) (fun E1 w1 S1 => c_piece_column E1 w1 x39.X r48 hx49 S1) rfl (lb rfl) fun _ a w S => ?_
      exact leafL ⟨rfl, S⟩
    · refine fI 40 (.bool (!r48)) [(39, .bool r48)] 3 [some 2] rfl rfl rfl rfl rfl rfl fun G a w S => ?_
      refine sNot (b := r48) S (wN rfl) rfl rfl rfl (lb rfl) fun a S => ?_
      exact leafL ⟨rfl, S⟩
    · refine fI 41 (.bool (!r48)) [(40, .bool (!r48))] 4 [some 3] rfl rfl rfl rfl rfl rfl fun G a w S => ?_
      refine sMove (.bool (!r48)) S (wN rfl) (.inl rfl) rfl rfl (lb rfl) fun a S => ?_
      exact leafL ⟨rfl, S⟩
    · refine fI 42 undef [(3, iv s30), (41, .bool (!r48))] 5 [none, some 4] rfl rfl rfl rfl rfl rfl fun G a w S => ?_
      refine sSkip 4 false 41 42 S rfl rfl rfl hc50 rfl (lb rfl) fun a S => ?_
      exact leafL ⟨rfl, S⟩
    · refine fI 43 undef [(42, undef), (41, .bool (!r48))] 6 [some 5, some 4] rfl rfl rfl rfl rfl rfl fun G a w S => ?_
      refine sSkip 4 false 41 43 S rfl rfl rfl hc50 rfl (lb rfl) fun a S => ?_
      exact leafL ⟨rfl, S⟩
    · refine fI 44 undef [(43, undef), (41, .bool (!r48))] 7 [some 6, some 4] rfl rfl rfl rfl rfl rfl fun G a w S => ?_
      refine sSkip 4 false 41 44 S rfl rfl rfl hc50 rfl (lb rfl) fun a S => ?_
      exact leafL ⟨rfl, S⟩
    · refine fI 45 undef [(4, .pointer (some ⟨b44, 0, none⟩)), (44, undef)] 8 [none, some 7] rfl rfl rfl rfl rfl rfl fun G a w S => ?_
      refine sSkipU 7 true 44 45 S rfl rfl rfl rfl (lb rfl) fun a S => ?_
      exact leafL ⟨rfl, S⟩
    · refine fI 46 undef [(45, undef), (44, undef)] 9 [some 8, some 7] rfl rfl rfl rfl rfl rfl fun G a w S => ?_
      refine sSkipU 7 true 44 46 S rfl rfl rfl rfl (lb rfl) fun a S => ?_
      exact leafL ⟨rfl, S⟩
    · refine fI 47 undef [(0, .slice ad1 p0.length cp2), (44, undef)] 10 [none, some 7] rfl rfl rfl rfl rfl rfl fun G a w S => ?_
      refine sSkipU 7 true 44 47 S rfl rfl rfl rfl (lb rfl) fun a S => ?_
      exact leafL ⟨rfl, S⟩
    · refine fI 48 undef [(3, iv s30), (44, undef)] 11 [none, some 7] rfl rfl rfl rfl rfl rfl fun G a w S => ?_
      refine sSkipU 7 true 44 48 S rfl rfl rfl rfl (lb rfl) fun a S => ?_
      exact leafL ⟨rfl, S⟩
    · refine fI 49 undef [(48, undef), (44, undef)] 12 [some 11, some 7] rfl rfl rfl rfl rfl rfl fun G a w S => ?_
      refine sSkipU 7 true 44 49 S rfl rfl rfl rfl (lb rfl) fun a S => ?_
      exact leafL ⟨rfl, S⟩
    · refine fI 50 undef [(47, undef), (49, undef), (44, undef)] 13 [some 10, some 12, some 7] rfl rfl rfl rfl rfl rfl fun G a w S => ?_
      refine sSkipU 7 true 44 50 S rfl rfl rfl rfl (lb rfl) fun a S => ?_
      exact leafL ⟨rfl, S⟩
    · refine fI 51 undef [(50, undef), (44, undef)] 14 [some 13, some 7] rfl rfl rfl rfl rfl rfl fun G a w S => ?_
      refine sSkipU 7 true 44 51 S rfl rfl rfl rfl (lb rfl) fun a S => ?_
      exact leafL ⟨rfl, S⟩
    · refine fI 52 undef [(51, undef), (44, undef)] 15 [some 14, some 7] rfl rfl rfl rfl rfl rfl fun G a w S => ?_
      refine sSkipU 7 true 44 52 S rfl rfl rfl rfl (lb rfl) fun a S => ?_
      exact leafL ⟨rfl, S⟩
    · refine fI 53 undef [(46, undef), (52, undef), (44, undef)] 16 [some 9, some 15, some 7] rfl rfl rfl rfl rfl rfl fun G a w S => ?_
      refine sSkipU 7 true 44 53 S rfl rfl rfl rfl (lb rfl) fun a S => ?_
      exact leafL ⟨rfl, S⟩
    · refine fI 54 undef [(44, undef), (53, undef), (41, .bool (!r48))] 17 [some 7, some 16, some 4] rfl rfl rfl rfl rfl rfl fun G a w S => ?_
      refine sSkip 4 false 41 54 S rfl rfl rfl hc50 rfl (lb rfl) fun a S => ?_
      exact leafL ⟨rfl, S⟩
    · refine fI 55 (.bool true) [(41, .bool (!r48)), (54, undef)] 18 [some 4, some 17] rfl rfl rfl rfl rfl rfl fun G a w S => ?_
      refine sPickT (.bool true) S (wN rfl) rfl rfl hc50 rfl rfl (lb rfl) fun a S => ?_
      exact leafL ⟨rfl, S⟩
    exact leafT (⟨true, Option.some.inj h, S.fix [] [3] (by decide) rfl rfl rfl⟩)
  rcases iteSome h with ⟨hc51, h⟩ | ⟨hc51, h⟩
  rotate_left
  · refine sDraw (nf := []) (W := [(0, 37, .pointer (some ⟨b44, 0, none⟩)), (1, 38, iv x39.X), (2, 39, .bool r48), (3, 40, .bool (!r48)), (4, 41, .bool (!r48)), (5, 42, iv s30), (6, 43, .bool (decide (0 < s30))), (7, 44, .bool (decide (0 < s30))), (8, 45, undef), (9, 46, undef), (10, 47, undef), (11, 48, undef), (12, 49, undef), (13, 50, undef), (14, 51, undef), (15, 52, undef), (16, 53, undef), (17, 54, .bool false), (18, 55, .bool false)]) rfl S ?_
    refine node_by (A := anc_piece_side_0) (nf := []) (Y := []) (W := [(0, 37, .pointer (some ⟨b44, 0, none⟩)), (1, 38, iv x39.X), (2, 39, .bool r48), (3, 40, .bool (!r48)), (4, 41, .bool (!r48)), (5, 42, iv s30), (6, 43, .bool (decide (0 < s30))), (7, 44, .bool (decide (0 < s30))), (8, 45, undef), (9, 46, undef), (10, 47, undef), (11, 48, undef), (12, 49, undef), (13, 50, undef), (14, 51, undef), (15, 52, undef), (16, 53, undef), (17, 54, .bool false), (18, 55, .bool false)]) 19 (by kernel_rfl) (by kernel_rfl) (by kernel_rfl) (by kernel_rfl) (by kernel_rfl) [0, 1, 2, 3, 4, 5, 6, 7, 8, 9, 10, 11, 12, 13, 14, 15, 16, 17, 18] (by kernel_rfl) (by decide) (by decide) (aF 0 18 (by decide) ?_ (aF 1 17 (by decide) ?_ (aF 2 16 (by decide) ?_ (aF 3 15 (by decide) ?_ (aF 4 14 (by decide) ?_ (aF 5 13 (by decide) ?_ (aF 6 12 (by decide) ?_ (aF 7 11 (by decide) ?_ (aF 8 10 (by decide) ?_ (aF 9 9 (by decide) ?_ (aF 10 8 (by decide) ?_ (aF 11 7 (by decide) ?_ (aF 12 6 (by decide) ?_ (aF 13 5 (by decide) ?_ (aF 14 4 (by decide) ?_ (aF 15 3 (by decide) ?_ (aF 16 2 (by decide) ?_ (aF 17 1 (by decide) ?_ (aF 18 0 (by decide) ?_ (trivial)))))))))))))))))))) [(0, .slice ad1 p0.length cp2), (30, .slice ad1 p0.length cp2), (31, iv (p0.length : Int)), (32, iv s30), (42, iv s30), (43, .bool (decide (0 < s30))), (44, .bool (decide (0 < s30))), (45, undef), (46, undef), (47, undef), (48, undef), (49, undef), (50, undef), (51, undef), (52, undef), (53, undef), (54, .bool false), (55, .bool false)] (fin_of [none, none, none, none, some 5, some 6, some 7, some 8, some 9, some 10, some 11, some 12, some 13, some 14, some 15, some 16, some 17, some 18] rfl (by kernel_rfl) (by kernel_rfl)) (fun _ a w S => ?_)
    · refine fI 37 (.pointer (some ⟨b44, 0, none⟩)) [(4, .pointer (some ⟨b44, 0, none⟩))] 0 [none] rfl rfl rfl rfl rfl rfl fun G a w S => ?_
      refine sField (b := b44) (off := 0) 0 0 S (wN rfl) rfl rfl rfl rfl rfl (lb rfl) fun a S => ?_
      exact leafL ⟨rfl, S⟩
    · refine fI 38 (iv x39.X) [(37, .pointer (some ⟨b44, 0, none⟩))] 1 [some 0] rfl rfl rfl rfl rfl rfl fun G a w S => ?_
      refine sLoad1 (p := b44) (off := 0) (T := 35) (vs := [iv x39.X, iv x39.Y]) 0 (iv x39.X) S (wN rfl) rfl rfl rfl rfl rfl rfl (lb rfl) fun a S => ?_
      exact leafL ⟨rfl, S⟩
    · refine fI 39 (.bool r48) [(38, iv x39.X)] 2 [some 1] rfl rfl rfl rfl rfl rfl fun G a w S => ?_
      have S1 := S.mem
      refine sCallQ (X := Unit) (f := 37) (vs := [iv x39.X]) (val := fun _ => .bool r48) S (wN rfl) rfl callee37 rfl (S1.quiet [] rfl) (fun E1 w1 S1 => c_piece_column E1 w1 x39.X r48 hx49 S1) rfl (lb rfl) fun _ a w S => ?_
      exact leafL ⟨rfl, S⟩
    · refine fI 40 (.bool (!r48)) [(39, .bool r48)] 3 [some 2] rfl rfl rfl rfl rfl rfl fun G a w S => ?_
      refine sNot (b := r48) S (wN rfl) rfl rfl rfl (lb rfl) fun a S => ?_
      exact leafL ⟨rfl, S⟩
    · refine fI 41 (.bool (!r48)) [(40, .bool (!r48))] 4 [some 3] rfl rfl rfl rfl rfl rfl fun G a w S => ?_
      refine sMove (.bool (!r48)) S (wN rfl) (.inl rfl) rfl rfl (lb rfl) fun a S => ?_
      exact leafL ⟨rfl, S⟩
    · refine fI 42 (iv s30) [(3, iv s30), (41, .bool (!r48))] 5 [none, some 4] rfl rfl rfl rfl rfl rfl fun G a w S => ?_
      refine sMove (iv s30) S (wG 4 false 41 rfl rfl rfl hc50) (.inl rfl) rfl rfl (lb rfl) fun a S => ?_
      exact leafL ⟨rfl, S⟩
    · refine fI 43 (.bool (decide (0 < s30))) [(42, iv s30), (41, .bool (!r48))] 6 [some 5, some 4] rfl rfl rfl rfl rfl rfl fun G a w S => ?_
      refine sBin (.bool (decide (0 < s30))) S (wG 4 false 41 rfl rfl rfl hc50) rfl rfl rfl (bGt _ _ _ _ .i64 s30 0) rfl (lb rfl) fun a S => ?_
      exact leafL ⟨rfl, S⟩
    · refine fI 44 (.bool (decide (0 < s30))) [(43, .bool (decide (0 < s30))), (41, .bool (!r48))] 7 [some 6, some 4] rfl rfl rfl rfl rfl rfl fun G a w S => ?_
      refine sMove (.bool (decide (0 < s30))) S (wG 4 false 41 rfl rfl rfl hc50) (.inl rfl) rfl rfl (lb rfl) fun a S => ?_
      exact leafL ⟨rfl, S⟩
    · refine fI 45 undef [(4, .pointer (some ⟨b44, 0, none⟩)), (44, .bool (decide (0 < s30)))] 8 [none, some 7] rfl rfl rfl rfl rfl rfl fun G a w S => ?_
      refine sSkip 7 true 44 45 S rfl rfl rfl hc51 rfl (lb rfl) fun a S => ?_
      exact leafL ⟨rfl, S⟩
    · refine fI 46 undef [(45, undef), (44, .bool (decide (0 < s30)))] 9 [some 8, some 7] rfl rfl rfl rfl rfl rfl fun G a w S => ?_
      refine sSkip 7 true 44 46 S rfl rfl rfl hc51 rfl (lb rfl) fun a S => ?_
      exact leafL ⟨rfl, S⟩
    · refine fI 47 undef [(0, .slice ad1 p0.length cp2), (44, .bool (decide (0 < s30)))] 10 [none, some 7] rfl rfl rfl rfl rfl rfl fun G a w S => ?_
      refine sSkip 7 true 44 47 S rfl rfl rfl hc51 rfl (lb rfl) fun a S => ?_
      exact leafL ⟨rfl, S⟩
    · refine fI 48 undef [(3, iv s30), (44, .bool (decide (0 < s30)))] 11 [none, some 7] rfl rfl rfl rfl rfl rfl fun G a w S => ?_
      refine sSkip 7 true 44 48 S rfl rfl rfl hc51 rfl (lb rfl) fun a S => ?_
      exact leafL ⟨rfl, S⟩
    · refine fI 49 undef [(48, undef), (44, .bool (decide (0 < s30)))] 12 [some 11, some 7] rfl rfl rfl rfl rfl rfl fun G a w S => ?_
      refine sSkip 7 true 44 49 S rfl rfl rfl hc51 rfl (lb rfl) fun a S => ?_
      exact leafL ⟨rfl, S⟩
    · refine fI 50 undef [(47, undef), (49, undef), (44, .bool (decide (0 < s30)))] 13 [some 10, some 12, some 7] rfl rfl rfl rfl rfl rfl fun G a w S => ?_
      refine sSkip 7 true 44 50 S rfl rfl rfl hc51 rfl (lb rfl) fun a S => ?_
      exact leafL ⟨rfl, S⟩
    · refine fI 51 undef [(50, undef), (44, .bool (decide (0 < s30)))] 14 [some 13, some 7] rfl rfl rfl rfl rfl rfl fun G a w S => ?_
      refine sSkip 7 true 44 51 S rfl rfl rfl hc51 rfl (lb rfl) fun a S => ?_
      exact leafL ⟨rfl, S⟩
    · refine fI 52 undef [(51, undef), (44, .bool (decide (0 < s30)))] 15 [some 14, some 7] rfl rfl rfl rfl rfl rfl fun G a w S => ?_
      refine sSkip 7 true 44 52 S rfl rfl rfl hc51 rfl (lb rfl) fun a S => ?_
      exact leafL ⟨rfl, S⟩
    · refine fI 53 undef [(46, undef), (52, undef), (44, .bool (decide (0 < s30)))] 16 [some 9, some 15, some 7] rfl rfl rfl rfl rfl rfl fun G a w S => ?_
      refine sSkip 7 true 44 53 S rfl rfl rfl hc51 rfl (lb rfl) fun a S => ?_
      exact leafL ⟨rfl, S⟩
    · refine fI 54 (.bool false) [(44, .bool (decide (0 < s30))), (53, undef), (41, .bool (!r48))] 17 [some 7, some 16, some 4] rfl rfl rfl rfl rfl rfl fun G a w S => ?_
      refine sPickF (.bool false) S (wG 4 false 41 rfl rfl rfl hc50) rfl rfl hc51 rfl rfl (lb rfl) fun a S => ?_
      exact leafL ⟨rfl, S⟩
    · refine fI 55 (.bool false) [(41, .bool (!r48)), (54, .bool false)] 18 [some 4, some 17] rfl rfl rfl rfl rfl rfl fun G a w S => ?_
      refine sPickF (.bool false) S (wN rfl) rfl rfl hc50 rfl rfl (lb rfl) fun a S => ?_
      exact leafL ⟨rfl, S⟩
    exact leafT (⟨false, Option.some.inj h, S.fix [] [3] (by decide) rfl rfl rfl⟩)
  obtain ⟨x52, hx53, h⟩ := bindSome h
  obtain ⟨q59, hq60, S⟩ := pIdx (P := Tryd.prog) (r := r_api_Point) (v := .slice ad1 p0.length cp2) (xs := p0) (j := w64 (s30 - 1)) 22 35 3 S Tryd.underlying22 rfl rfl hx53
  obtain ⟨q61, hq62, S⟩ := pFld (P := Tryd.prog) (r := r_api_Point) (s2 := (rI .i64)) (g := (·.Y)) (q := q59) (z := x52) 35 1 0 1 S rfl rfl comp_api_Point_Y
  obtain ⟨u63, S⟩ := pLoad (r := (rI .i64)) (q := q61) (x := x52.Y) 0 S rfl
  obtain rfl : u63 = iv x52.Y := S.mem.know (i := 1) (e := fRep (rI .i64) (u63) x52.Y) rfl
  refine sDraw (nf := []) (W := [(0, 37, .pointer (some ⟨b44, 0, none⟩)), (1, 38, iv x39.X), (2, 39, .bool r48), (3, 40, .bool (!r48)), (4, 41, .bool (!r48)), (5, 42, iv s30), (6, 43, .bool (decide (0 < s30))), (7, 44, .bool (decide (0 < s30))), (8, 45, .pointer (some ⟨b44, 1, none⟩)), (9, 46, iv x39.Y), (10, 47, .slice ad1 p0.length cp2), (11, 48, iv s30), (12, 49, iv (w64 (s30 - 1))), (13, 50, q59), (14, 51, q61), (15, 52, iv x52.Y), (16, 53, .bool (decide (x39.Y ≤ x52.Y))), (17, 54, .bool (decide (x39.Y ≤ x52.Y))), (18, 55, .bool (decide (x39.Y ≤ x52.Y)))]) rfl S ?_
  refine node_by (A := anc_piece_side_0) (nf := []) (Y := []) (W := [(0, 37, .pointer (some ⟨b44, 0, none⟩)), (1, 38, iv x39.X), (2, 39, .bool r48), (3, 40, .bool (!r48)), (4, 41, .bool (!r48)), (5, 42, iv s30), (6, 43, .bool (decide (0 < s30))), (7, 44, .bool (decide (0 < s30))), (8, 45, .pointer (some ⟨b44, 1, none⟩)), (9, 46, iv x39.Y), (10, 47, .slice ad1 p0.length cp2), (11, 48, iv s30), (12, 49, iv (w64 (s30 - 1))), (13, 50, q59), (14, 51, q61), (15, 52, iv x52.Y), (16, 53, .bool (decide (x39.Y ≤ x52.Y))), (17, 54, .bool (decide (x39.Y ≤ x52.Y))), (18, 55, .bool (decide (x39.Y ≤ x52.Y)))]) 19 (by kernel_rfl) (by kernel_rfl) (by kernel_rfl) (by kernel_rfl) (by kernel_rfl) [0, 1, 2, 3, 4, 5, 6, 7, 8, 9, 10, 11, 12, 13, 14, 15, 16, 17, 18] (by kernel_rfl) (by decide) (by decide) (aF 0 18 (by decide) ?_ (aF 1 17 (by decide) ?_ (aF 2 16 (by decide) ?_ (aF 3 15 (by decide) ?_ (aF 4 14 (by decide) ?_ (aF 5 13 (by decide) ?_ (aF 6 12 (by decide) ?_ (aF 7 11 (by decide) ?_ (aF 8 10 (by decide) ?_ (aF 9 9 (by decide) ?_ (aF 10 8 (by decide) ?_ (aF 11 7 (by decide) ?_ (aF 12 6 (by decide) ?_ (aF 13 5 (by decide) ?_ (aF 14 4 (by decide) ?_ (aF 15 3 (by decide) ?_ (aF 16 2 (by decide) ?_ (aF 17 1 (by decide) ?_ (aF 18 0 (by decide) ?_ (trivial)))))))))))))))))))) [(0, .slice ad1 p0.length cp2), (30, .slice ad1 p0.length cp2), (31, iv (p0.length : Int)), (32, iv s30), (42, iv s30), (43, .bool (decide (0 < s30))), (44, .bool (decide (0 < s30))), (45, .pointer (some ⟨b44, 1, none⟩)), (46, iv x39.Y), (47, .slice ad1 p0.length cp2), (48, iv s30), (49, iv (w64 (s30 - 1))), (50, q59), (51, q61), (52, iv x52.Y), (53, .bool (decide (x39.Y ≤ x52.Y))), (54, .bool (decide (x39.Y ≤ x52.Y))), (55, .bool (decide (x39.Y ≤ x52.Y)))] (fin_of [none, none, none, none, some 5, some 6, some 7, some 8, some 9, some 10, some 11, some 12, some 13, some 14, some 15, some 16, some 17, some 18] rfl (by kernel_rfl) (by kernel_rfl)) (fun _ a w S => ?_)
  · refine fI 37 (.pointer (some ⟨b44, 0, none⟩)) [(4, .pointer (some ⟨b44, 0, none⟩))] 0 [none] rfl rfl rfl rfl rfl rfl fun G a w S => ?_
    refine sField (b := b44) (off := 0) 0 0 S (wN rfl) rfl rfl rfl rfl rfl (lb rfl) fun a S => ?_
    exact leafL ⟨rfl, S⟩
  · refine fI 38 (iv x39.X) [(37, .pointer (some ⟨b44, 0, none⟩))] 1 [some 0] rfl rfl rfl rfl rfl rfl fun G a w S => ?_
    refine sLoad1 (p := b44) (off := 0) (T := 35) (vs := [iv x39.X, iv x39.Y]) 0 (iv x39.X) S (wN rfl) rfl rfl rfl rfl rfl rfl (lb rfl) fun a S => ?_
    exact leafL ⟨rfl, S⟩
  · refine fI 39 (.bool r48) [(38, iv x39.X)] 2 [some 1] rfl rfl rfl rfl rfl rfl fun G a w S => ?_
    have S1 := S.mem
    refine sCallQ (X := Unit) (f := 37) (vs := [iv x39.X]) (val := fun _ => .bool r48) S (wN rfl) rfl callee37 rfl (S1.quiet [] rfl) (fun E1 w1 S1 => c_piece_column E1 w1 x39.X r48 hx49 S1) rfl (lb rfl) fun _ a w S => ?_
    exact leafL ⟨rfl, S⟩
  · refine fI 40 (.bool (!r48)) [(39, .bool r48)] 3 [some 2] rfl rfl rfl rfl rfl rfl fun G a w S => ?_
    refine sNot (b := r48) S (wN rfl) rfl rfl rfl (lb rfl) fun a S => ?_
    exact leafL ⟨rfl, S⟩
  · refine fI 41 (.bool (!r48)) [(40, .bool (!r48))] 4 [some 3] rfl rfl rfl rfl rfl rfl fun G a w S => ?_
    refine sMove (.bool (!r48)) S (wN rfl) (.inl rfl) rfl rfl (lb rfl) fun a S => ?_
    exact leafL ⟨rfl, S⟩
  · refine fI 42 (iv s30) [(3, iv s30), (41, .bool (!r48))] 5 [none, some 4] rfl rfl rfl rfl rfl rfl fun G a w S => ?_
    refine sMove (iv s30) S (wG 4 false 41 rfl rfl rfl hc50) (.inl rfl) rfl rfl (lb rfl) fun a S => ?_
    exact leafL ⟨rfl, S⟩
  · refine fI 43 (.bool (decide (0 < s30))) [(42, iv s30), (41, .bool (!r48))] 6 [some 5, some 4] rfl rfl rfl rfl rfl rfl fun G a w S => ?_
    refine sBin (.bool (decide (0 < s30))) S (wG 4 false 41 rfl rfl rfl hc50) rfl rfl rfl (bGt _ _ _ _ .i64 s30 0) rfl (lb rfl) fun a S => ?_
    exact leafL ⟨rfl, S⟩
  · refine fI 44 (.bool (decide (0 < s30))) [(43, .bool (decide (0 < s30))), (41, .bool (!r48))] 7 [some 6, some 4] rfl rfl rfl rfl rfl rfl fun G a w S => ?_
    refine sMove (.bool (decide (0 < s30))) S (wG 4 false 41 rfl rfl rfl hc50) (.inl rfl) rfl rfl (lb rfl) fun a S => ?_
    exact leafL ⟨rfl, S⟩
  · refine fI 45 (.pointer (some ⟨b44, 1, none⟩)) [(4, .pointer (some ⟨b44, 0, none⟩)), (44, .bool (decide (0 < s30)))] 8 [none, some 7] rfl rfl rfl rfl rfl rfl fun G a w S => ?_
    refine sField (b := b44) (off := 0) 1 1 S (wG 7 true 44 rfl rfl rfl hc51) rfl rfl rfl rfl rfl (lb rfl) fun a S => ?_
    exact leafL ⟨rfl, S⟩
  · refine fI 46 (iv x39.Y) [(45, .pointer (some ⟨b44, 1, none⟩)), (44, .bool (decide (0 < s30)))] 9 [some 8, some 7] rfl rfl rfl rfl rfl rfl fun G a w S => ?_
    refine sLoad1 (p := b44) (off := 1) (T := 35) (vs := [iv x39.X, iv x39.Y]) 0 (iv x39.Y) S (wG 7 true 44 rfl rfl rfl hc51) rfl rfl rfl rfl rfl rfl (lb rfl) fun a S => ?_
    exact leafL ⟨rfl, S⟩
  · refine fI 47 (.slice ad1 p0.length cp2) [(0, .slice ad1 p0.length cp2), (44, .bool (decide (0 < s30)))] 10 [none, some 7] rfl rfl rfl rfl rfl rfl fun G a w S => ?_
    refine sMove (.slice ad1 p0.length cp2) S (wG 7 true 44 rfl rfl rfl hc51) (.inl rfl) rfl rfl (lb rfl) fun a S => ?_
    exact leafL ⟨rfl, S⟩
  · refine fI 48 (iv s30) [(3, iv s30), (44, .bool (decide (0 < s30)))] 11 [none, some 7] rfl rfl rfl rfl rfl rfl fun G a w S => ?_
    refine sMove (iv s30) S (wG 7 true 44 rfl rfl rfl hc51) (.inl rfl) rfl rfl (lb rfl) fun a S => ?_
    exact leafL ⟨rfl, S⟩
  · refine fI 49 (iv (w64 (s30 - 1))) [(48, iv s30), (44, .bool (decide (0 < s30)))] 12 [some 11, some 7] rfl rfl rfl rfl rfl rfl fun G a w S => ?_
    refine sBin (iv (w64 (s30 - 1))) S (wG 7 true 44 rfl rfl rfl hc51) rfl rfl rfl (bSub _ _ _ _ s30 1) rfl (lb rfl) fun a S => ?_
    exact leafL ⟨rfl, S⟩
  · refine fI 50 q59 [(47, .slice ad1 p0.length cp2), (49, iv (w64 (s30 - 1))), (44, .bool (decide (0 < s30)))] 13 [some 10, some 12, some 7] rfl rfl rfl rfl rfl rfl fun G a w S => ?_
    refine sIdxV (v := .slice ad1 p0.length cp2) (k := .i64) (j := w64 (s30 - 1)) S (wG 7 true 44 rfl rfl rfl hc51) rfl rfl rfl hq60 rfl (lb rfl) fun a S => ?_
    exact leafL ⟨rfl, S⟩
  · refine fI 51 q61 [(50, q59), (44, .bool (decide (0 < s30)))] 14 [some 13, some 7] rfl rfl rfl rfl rfl rfl fun G a w S => ?_
    refine sFldV (q := q59) S (wG 7 true 44 rfl rfl rfl hc51) rfl rfl hq62 rfl (lb rfl) fun a S => ?_
    exact leafL ⟨rfl, S⟩
  · refine fI 52 (iv x52.Y) [(51, q61), (44, .bool (decide (0 < s30)))] 15 [some 14, some 7] rfl rfl rfl rfl rfl rfl fun G a w S => ?_
    refine sLoadV1 (vq := q61) 0 (iv x52.Y) S (wG 7 true 44 rfl rfl rfl hc51) rfl rfl rfl rfl rfl (lb rfl) fun a S => ?_
    exact leafL ⟨rfl, S⟩
  · refine fI 53 (.bool (decide (x39.Y ≤ x52.Y))) [(46, iv x39.Y), (52, iv x52.Y), (44, .bool (decide (0 < s30)))] 16 [some 9, some 15, some 7] rfl rfl rfl rfl rfl rfl fun G a w S => ?_
    refine sBin (.bool (decide (x39.Y ≤ x52.Y))) S (wG 7 true 44 rfl rfl rfl hc51) rfl rfl rfl (bLe _ _ _ _ .i64 x39.Y x52.Y) rfl (lb rfl) fun a S => ?_
    exact leafL ⟨rfl, S⟩
  · refine fI 54 (.bool (decide (x39.Y ≤ x52.Y))) [(44, .bool (decide (0 < s30))), (53, .bool (decide (x39.Y ≤ x52.Y))), (41, .bool (!r48))] 17 [some 7, some 16, some 4] rfl rfl rfl rfl rfl rfl fun G a w S => ?_
    refine sPickT (.bool (decide (x39.Y ≤ x52.Y))) S (wG 4 false 41 rfl rfl rfl hc50) rfl rfl hc51 rfl rfl (lb rfl) fun a S => ?_
    exact leafL ⟨rfl, S⟩
  · refine fI 55 (.bool (decide (x39.Y ≤ x52.Y))) [(41, .bool (!r48)), (54, .bool (decide (x39.Y ≤ x52.Y)))] 18 [some 4, some 17] rfl rfl rfl rfl rfl rfl fun G a w S => ?_
    refine sPickF (.bool (decide (x39.Y ≤ x52.Y))) S (wN rfl) rfl rfl hc50 rfl rfl (lb rfl) fun a S => ?_
    exact leafL ⟨rfl, S⟩
  exact leafT (⟨decide (x39.Y ≤ x52.Y), Option.some.inj h, S.fix [] [7] (by decide) rfl rfl rfl⟩)

end Go.Proofs.YtmedbnjhgkcndaaDoor
namespace Go.Proofs.YtmedbnjhgkcndaaDoor
open Go.RowKit
set_option linter.unusedVariables false

def anc_piece_shape_0 : List (List Nat) := [[], [0], [0, 1], [0, 1, 2], [0, 1, 2, 3], [0, 1, 2, 3, 4], [0, 1, 2, 3, 4, 5], [0, 1, 2, 3, 4, 5, 6], [0, 1, 2, 3, 4, 5, 6, 7], [0, 1, 2, 3, 4, 5, 6, 7, 8], [0, 1, 2, 3, 4, 5, 6, 7, 8, 9], [0, 1, 2, 3, 4, 5, 6, 7, 8, 9, 10], [0, 1, 2, 3, 4, 5, 6, 7, 8, 9, 10, 11], [0, 1, 2, 3, 4, 5, 6, 7, 8, 9, 10], [0, 1, 2, 3, 4, 5, 6, 7, 8, 9, 10, 13], [0, 1, 2, 3, 4, 5, 6, 7, 8, 9, 10, 13, 14], [0, 1, 2, 3, 4, 5, 6, 7, 8, 9, 10, 13, 14, 15], [0, 1, 2, 3, 4, 5, 6, 7, 8, 9, 10, 11, 12, 13, 14, 15, 16], [0, 1, 2, 3, 4, 5, 6, 7, 8, 9, 10, 11, 12, 13, 14, 15, 16, 17], [0, 1, 2, 3, 4, 5, 6, 7, 8, 9, 10, 11, 12, 13, 14, 15, 16, 17, 18], [0, 1, 2, 3, 4, 5, 6, 7, 8, 9, 10], [0, 1, 2, 3, 4, 5, 6, 7, 8, 9, 10, 20], [0, 1, 2, 3, 4, 5, 6, 7, 8, 9, 10], [0, 1, 2, 3, 4, 5, 6, 7, 8, 9, 10, 22], [0, 1, 2, 3, 4, 5, 6, 7, 8, 9, 10, 22, 23], [0, 1, 2, 3, 4, 5, 6, 7, 8, 9, 10, 22, 23, 24], [0, 1, 2, 3, 4, 5, 6, 7, 8, 9, 10, 20, 21, 22, 23, 24, 25], [0, 1, 2, 3, 4, 5, 6, 7, 8, 9, 10, 20, 21, 22, 23, 24, 25, 26], [0, 1, 2, 3, 4, 5, 6, 7, 8, 9, 10, 20, 21, 22, 23, 24, 25, 26, 27], [0, 1, 2, 3, 4, 5, 6, 7, 8, 9, 10, 11, 12, 13, 14, 15, 16, 17, 18, 19, 20, 21, 22, 23, 24, 25, 26, 27, 28], [0, 1, 2, 3, 4, 5, 6, 7, 8, 9, 10, 11, 12, 13, 14, 15, 16, 17, 18, 19, 20, 21, 22, 23, 24, 25, 26, 27, 28, 29]]
noncomputable def F_piece_shape (p0 : api_Shape) : Option Int :=
  Option.bind (α := Bool) (
    Option.bind (F_piece_side p0.Left) fun r15 =>
    if !r15 then
      some true
    else
      Option.bind (F_piece_side p0.Right) fun r18 =>
      if !r18 then
        some true
      else
        Option.bind (idxO p0.Left (w64 ((p0.Left.length : Int) - 1))) fun x21 =>
        Option.bind (idxO p0.Right (w64 ((p0.Right.length : Int) - 1))) fun x28 =>
        some (x21.Y != x28.Y)) fun o12 =>
  if o12 then
    some 8
  else
    some 0
set_option maxHeartbeats 4000000 in
set_option maxRecDepth 100000 in
theorem c_piece_shape (E : Nat → Prop) (w0 : World) (p0 : api_Shape) (v0 : Value) (r : Int) (h : F_piece_shape p0 = some r) (S : St0 E [] w0 w0 [] [fRep r_api_Shape (v0) p0]) :
    Calls Tryd.prog 35 #[v0] w0 (Ret (X := Unit) E [] w0 (fun _ => .int .i64 r) (fun _ => []) (fun _ => [])) := by
  unfold F_piece_shape at h
  obtain ⟨u1, u2, rfl, hu3, hu4⟩ := S.know (i := 0) (e := fRep r_api_Shape (v0) p0) rfl
  have S := S.learn (fRep (rL r_api_Point) u1 p0.Left) hu3
  obtain ⟨ad5, cp6, _, rfl, _⟩ := hu3
  have S := S.learn (fRep (rL r_api_Point) u2 p0.Right) hu4
  obtain ⟨ad7, cp8, _, rfl, _⟩ := hu4
  refine sEnter (args := [.agg #[.slice ad5 p0.Left.length cp6, .slice ad7 p0.Right.length cp8]]) 34 Tryd.func35 rfl rfl (by simp) S (fun a S => ?_)
  refine sSeq (fun K9 hK9 => ?_)
  refine sRegion ?_
  refine sBox (v := .agg #[.slice ad5 p0.Left.length cp6, .slice ad7 p0.Right.length cp8]) S (wN rfl) rfl rfl [.slice ad5 p0.Left.length cp6, .slice ad7 p0.Right.length cp8] rfl rfl (lb rfl) fun a b10 w S => ?_
  refine sMove (iv 0) S (wN rfl) (.inr rfl) rfl rfl (lb rfl) fun a S => ?_
  refine leafL (leafT (hK9 _ _ ?_))
  refine sSeq (fun K11 hK11 => ?_)
  obtain ⟨t13, h, g14⟩ := bindSome h
  refine sCut (fun a w => ∃ o12, o12 = t13 ∧ St [] E [] w0 34 a w [(33, .bool o12)] [] []) ?_ (fun a w hI => ?_)
  rotate_left
  · obtain ⟨o12, rfl, S⟩ := hI
    have h := g14
    clear g14
    try dsimp only at h
    rcases iteSome h with ⟨hc45, h⟩ | ⟨hc45, h⟩
    · refine sCondT S rfl hc45 ?_
      refine sSeq (fun K46 hK46 => ?_)
      refine sRegion ?_
      refine sMove (iv 8) S (wN rfl) (.inr rfl) rfl rfl (lb rfl) fun a S => ?_
      refine leafL (leafT (hK46 _ _ ?_))
      obtain rfl := Option.some.inj h
      exact wp_ret (rThen (sRet (iv 8) S (rsl1 rfl (rvT (t := 2) (v := iv 8) S rfl)) ⟨(), rfl, S.mem.sel [] [] (by decide) rfl rfl⟩))
    refine sCondF S rfl hc45 ?_
    refine wp_skip (leafT (hK11 _ _ ?_))
    refine sSeq (fun K47 hK47 => ?_)
    refine sRegion ?_
    refine sMove (iv 0) S (wN rfl) (.inr rfl) rfl rfl (lb rfl) fun a S => ?_
    refine leafL (leafT (hK47 _ _ ?_))
    obtain rfl := Option.some.inj h
    exact wp_ret (sRet (iv 0) S (rsl1 rfl (rvT (t := 2) (v := iv 0) S rfl)) ⟨(), rfl, S.mem.sel [] [] (by decide) rfl rfl⟩)
  obtain ⟨r15, hx16, h⟩ := bindSome h
  rcases iteSome h with ⟨hc17, h⟩ | ⟨hc17, h⟩
  · refine sDraw (nf := []) (W := [(0, 3, .pointer (some ⟨b10, 0, none⟩)), (1, 4, .slice ad5 p0.Left.length cp6), (2, 5, .bool r15), (3, 6, .bool (!r15)), (4, 7, .bool (!r15)), (5, 8, undef), (6, 9, undef), (7, 10, undef), (8, 11, undef), (9, 12, .bool true), (10, 13, .bool true), (11, 14, undef), (12, 15, undef), (13, 16, undef), (14, 17, undef), (15, 18, undef), (16, 19, undef), (17, 20, undef), (18, 21, undef), (19, 22, undef), (20, 23, undef), (21, 24, undef), (22, 25, undef), (23, 26, undef), (24, 27, undef), (25, 28, undef), (26, 29, undef), (27, 30, undef), (28, 31, undef), (29, 32, undef), (30, 33, .bool true)]) rfl S ?_
    refine node_by (A := anc_piece_shape_0) (nf := []) (Y := []) (W := [(0, 3, .pointer (some ⟨b10, 0, none⟩)), (1, 4, .slice ad5 p0.Left.length cp6), (2, 5, .bool r15), (3, 6, .bool (!r15)), (4, 7, .bool (!r15)), (5, 8, undef), (6, 9, undef), (7, 10, undef), (8, 11, undef), (9, 12, .bool true), (10, 13, .bool true), (11, 14, undef), (12, 15, undef), (13, 16, undef), (14, 17, undef), (15, 18, undef), (16, 19, undef), (17, 20, undef), (18, 21, undef), (19, 22, undef), (20, 23, undef), (21, 24, undef), (22, 25, undef), (23, 26, undef), (24, 27, undef), (25, 28, undef), (26, 29, undef), (27, 30, undef), (28, 31, undef), (29, 32, undef), (30, 33, .bool true)]) 31 (by kernel_rfl) (by kernel_rfl) (by kernel_rfl) (by kernel_rfl) (by kernel_rfl) [0, 1, 2, 3, 4, 5, 6, 7, 8, 9, 10, 11, 12, 13, 14, 15, 16, 17, 18, 19, 20, 21, 22, 23, 24, 25, 26, 27, 28, 29, 30] (by kernel_rfl) (by decide) (by decide) (aF 0 30 (by decide) ?_ (aF 1 29 (by decide) ?_ (aF 2 28 (by decide) ?_ (aF 3 27 (by decide) ?_ (aF 4 26 (by decide) ?_ (aF 5 25 (by decide) ?_ (aF 6 24 (by decide) ?_ (aF 7 23 (by decide) ?_ (aF 8 22 (by decide) ?_ (aF 9 21 (by decide) ?_ (aF 10 20 (by decide) ?_ (aF 11 19 (by decide) ?_ (aF 12 18 (by decide) ?_ (aF 13 17 (by decide) ?_ (aF 14 16 (by decide) ?_ (aF 15 15 (by decide) ?_ (aF 16 14 (by decide) ?_ (aF 17 13 (by decide) ?_ (aF 18 12 (by decide) ?_ (aF 19 11 (by decide) ?_ (aF 20 10 (by decide) ?_ (aF 21 9 (by decide) ?_ (aF 22 8 (by decide) ?_ (aF 23 7 (by decide) ?_ (aF 24 6 (by decide) ?_ (aF 25 5 (by decide) ?_ (aF 26 4 (by decide) ?_ (aF 27 3 (by decide) ?_ (aF 28 2 (by decide) ?_ (aF 29 1 (by decide) ?_ (aF 30 0 (by decide) ?_ (trivial)))))))))))))))))))))))))))))))) [(33, .bool true)] (fin_of [some 30] rfl (by kernel_rfl) (by kernel_rfl)) (fun _ a w S => ?_)
    · refine fI 3 (.pointer (some ⟨b10, 0, none⟩)) [(1, .pointer (some ⟨b10, 0, none⟩))] 0 [none] rfl rfl rfl rfl rfl rfl fun G a w S => ?_
      refine sField (b := b10) (off := 0) 0 0 S (wN rfl) rfl rfl rfl rfl rfl (lb rfl) fun a S => ?_
      exact leafL ⟨rfl, S⟩
    · refine fI 4 (.slice ad5 p0.Left.length cp6) [(3, .pointer (some ⟨b10, 0, none⟩))] 1 [some 0] rfl rfl rfl rfl rfl rfl fun G a w S => ?_
      refine sLoad1 (p := b10) (off := 0) (T := 24) (vs := [.slice ad5 p0.Left.length cp6, .slice ad7 p0.Right.length cp8]) 0 (.slice ad5 p0.Left.length cp6) S (wN rfl) rfl rfl rfl rfl rfl rfl (lb rfl) fun a S => ?_
      exact leafL ⟨rfl, S⟩
    · refine fI 5 (.bool r15) [(4, .slice ad5 p0.Left.length cp6)] 2 [some 1] rfl rfl rfl rfl rfl rfl fun G a w S => ?_
      have S1 := S.mem
      refine sCallQ (X := Unit) (f := 49) (vs := [.slice ad5 p0.Left.length cp6]) (val := fun _ => .bool r15) S (wN rfl) rfl callee49 rfl (S1.quiet [1] rfl) (fun E1 w1 S1 => c_piece_side E1 w1 p0.Left (.slice ad5 p0.Left.length cp6) r15 hx16 S1) rfl (lb rfl) fun _ a w S => ?_
      exact leafL ⟨rfl, S⟩
    · refine fI 6 (.bool (!r15)) [(5, .bool r15)] 3 [some 2] rfl rfl rfl rfl rfl rfl fun G a w S => ?_
      refine sNot (b := r15) S (wN rfl) rfl rfl rfl (lb rfl) fun a S => ?_
      exact leafL ⟨rfl, S⟩
    · refine fI 7 (.bool (!r15)) [(6, .bool (!r15))] 4 [some 3] rfl rfl rfl rfl rfl rfl fun G a w S => ?_
      refine sMove (.bool (!r15)) S (wN rfl) (.inl rfl) rfl rfl (lb rfl) fun a S => ?_
      exact leafL ⟨rfl, S⟩
    · refine fI 8 undef [(1, .pointer (some ⟨b10, 0, none⟩)), (7, .bool (!r15))] 5 [none, some 4] rfl rfl rfl rfl rfl rfl fun G a w S => ?_
      refine sSkip 4 false 7 8 S rfl rfl rfl hc17 rfl (lb rfl) fun a S => ?_
      exact leafL ⟨rfl, S⟩
    · refine fI 9 undef [(8, undef), (7, .bool (!r15))] 6 [some 5, some 4] rfl rfl rfl rfl rfl rfl fun G a w S => ?_
      refine sSkip 4 false 7 9 S rfl rfl rfl hc17 rfl (lb rfl) fun a S => ?_
      exact leafL ⟨rfl, S⟩
    · refine fI 10 undef [(9, undef), (7, .bool (!r15))] 7 [some 6, some 4] rfl rfl rfl rfl rfl rfl fun G a w S => ?_
      refine sSkip 4 false 7 10 S rfl rfl rfl hc17 rfl (lb rfl) fun a S => ?_
      exact leafL ⟨rfl, S⟩
    · refine fI 11 undef [(10, undef), (7, .bool (!r15))] 8 [some 7, some 4] rfl rfl rfl rfl rfl rfl fun G a w S => ?_
      refine sSkip 4 false 7 11 S rfl rfl rfl hc17 rfl (lb rfl) fun a S => ?_
      exact leafL ⟨rfl, S⟩
    · refine fI 12 (.bool true) [(7, .bool (!r15)), (11, undef)] 9 [some 4, some 8] rfl rfl rfl rfl rfl rfl fun G a w S => ?_
      refine sPickT (.bool true) S (wN rfl) rfl rfl hc17 rfl rfl (lb rfl) fun a S => ?_
      exact leafL ⟨rfl, S⟩
    · refine fI 13 (.bool true) [(12, .bool true)] 10 [some 9] rfl rfl rfl rfl rfl rfl fun G a w S => ?_
      refine sMove (.bool true) S (wN rfl) (.inl rfl) rfl rfl (lb rfl) fun a S => ?_
      exact leafL ⟨rfl, S⟩
    · refine fI 14 undef [(1, .pointer (some ⟨b10, 0, none⟩)), (13, .bool true)] 11 [none, some 10] rfl rfl rfl rfl rfl rfl fun G a w S => ?_
      refine sSkip 10 false 13 14 S rfl rfl rfl rfl rfl (lb rfl) fun a S => ?_
      exact leafL ⟨rfl, S⟩
    · refine fI 15 undef [(14, undef), (13, .bool true)] 12 [some 11, some 10] rfl rfl rfl rfl rfl rfl fun G a w S => ?_
      refine sSkip 10 false 13 15 S rfl rfl rfl rfl rfl (lb rfl) fun a S => ?_
      exact leafL ⟨rfl, S⟩
    · refine fI 16 undef [(1, .pointer (some ⟨b10, 0, none⟩)), (13, .bool true)] 13 [none, some 10] rfl rfl rfl rfl rfl rfl fun G a w S => ?_
      refine sSkip 10 false 13 16 S rfl rfl rfl rfl rfl (lb rfl) fun a S => ?_
      exact leafL ⟨rfl, S⟩
    · refine fI 17 undef [(16, undef), (13, .bool true)] 14 [some 13, some 10] rfl rfl rfl rfl rfl rfl fun G a w S => ?_
      refine sSkip 10 false 13 17 S rfl rfl rfl rfl rfl (lb rfl) fun a S => ?_
      exact leafL ⟨rfl, S⟩
    · refine fI 18 undef [(17, undef), (13, .bool true)] 15 [some 14, some 10] rfl rfl rfl rfl rfl rfl fun G a w S => ?_
      refine sSkip 10 false 13 18 S rfl rfl rfl rfl rfl (lb rfl) fun a S => ?_
      exact leafL ⟨rfl, S⟩
    · refine fI 19 undef [(18, undef), (13, .bool true)] 16 [some 15, some 10] rfl rfl rfl rfl rfl rfl fun G a w S => ?_
      refine sSkip 10 false 13 19 S rfl rfl rfl rfl rfl (lb rfl) fun a S => ?_
      exact leafL ⟨rfl, S⟩
    · refine fI 20 undef [(15, undef), (19, undef), (13, .bool true)] 17 [some 12, some 16, some 10] rfl rfl rfl rfl rfl rfl fun G a w S => ?_
      refine sSkip 10 false 13 20 S rfl rfl rfl rfl rfl (lb rfl) fun a S => ?_
      exact leafL ⟨rfl, S⟩
    · refine fI 21 undef [(20, undef), (13, .bool true)] 18 [some 17, some 10] rfl rfl rfl rfl rfl rfl fun G a w S => ?_
      refine sSkip 10 false 13 21 S rfl rfl rfl rfl rfl (lb rfl) fun a S => ?_
      exact leafL ⟨rfl, S⟩
    · refine fI 22 undef [(21, undef), (13, .bool true)] 19 [some 18, some 10] rfl rfl rfl rfl rfl rfl fun G a w S => ?_
      refine sSkip 10 false 13 22 S rfl rfl rfl rfl rfl (lb rfl) fun a S => ?_
      exact leafL ⟨rfl, S⟩
    · refine fI 23 undef [(1, .pointer (some ⟨b10, 0, none⟩)), (13, .bool true)] 20 [none, some 10] rfl rfl rfl rfl rfl rfl fun G a w S => ?_
      refine sSkip 10 false 13 23 S rfl rfl rfl rfl rfl (lb rfl) fun a S => ?_
      exact leafL ⟨rfl, S⟩
    · refine fI 24 undef [(23, undef), (13, .bool true)] 21 [some 20, some 10] rfl rfl rfl rfl rfl rfl fun G a w S => ?_
      refine sSkip 10 false 13 24 S rfl rfl rfl rfl rfl (lb rfl) fun a S => ?_
      exact leafL ⟨rfl, S⟩
    · refine fI 25 undef [(1, .pointer (some ⟨b10, 0, none⟩)), (13, .bool true)] 22 [none, some 10] rfl rfl rfl rfl rfl rfl fun G a w S => ?_
      refine sSkip 10 false 13 25 S rfl rfl rfl rfl rfl (lb rfl) fun a S => ?_
      exact leafL ⟨rfl, S⟩
    · refine fI 26 undef [(25, undef), (13, .bool true)] 23 [some 22, some 10] rfl rfl rfl rfl rfl rfl fun G a w S => ?_
      refine sSkip 10 false 13 26 S rfl rfl rfl rfl rfl (lb rfl) fun a S => ?_
      exact leafL ⟨rfl, S⟩
    · refine fI 27 undef [(26, undef), (13, .bool true)] 24 [some 23, some 10] rfl rfl rfl rfl rfl rfl fun G a w S => ?_
      refine sSkip 10 false 13 27 S rfl rfl rfl rfl rfl (lb rfl) fun a S => ?_
      exact leafL ⟨rfl, S⟩
    · refine fI 28 undef [(27, undef), (13, .bool true)] 25 [some 24, some 10] rfl rfl rfl rfl rfl rfl fun G a w S => ?_
      refine sSkip 10 false 13 28 S rfl rfl rfl rfl rfl (lb rfl) fun a S => ?_
      exact leafL ⟨rfl, S⟩
    · refine fI 29 undef [(24, undef), (28, undef), (13, .bool true)] 26 [some 21, some 25, some 10] rfl rfl rfl rfl rfl rfl fun G a w S => ?_
      refine sSkip 10 false 13 29 S rfl rfl rfl rfl rfl (lb rfl) fun a S => ?_
      exact leafL ⟨rfl, S⟩
    · refine fI 30 undef [(29, undef), (13, .bool true)] 27 [some 26, some 10] rfl rfl rfl rfl rfl rfl fun G a w S => ?_
      refine sSkip 10 false 13 30 S rfl rfl rfl rfl rfl (lb rfl) fun a S => ?_
      exact leafL ⟨rfl, S⟩
    · refine fI 31 undef [(30, undef), (13, .bool true)] 28 [some 27, some 10] rfl rfl rfl rfl rfl rfl fun G a w S => ?_
      refine sSkip 10 false 13 31 S rfl rfl rfl rfl rfl (lb rfl) fun a S => ?_
      exact leafL ⟨rfl, S⟩
    · refine fI 32 undef [(22, undef), (31, undef), (13, .bool true)] 29 [some 19, some 28, some 10] rfl rfl rfl rfl rfl rfl fun G a w S => ?_
      refine sSkip 10 false 13 32 S rfl rfl rfl rfl rfl (lb rfl) fun a S => ?_
      exact leafL ⟨rfl, S⟩
    · refine fI 33 (.bool true) [(13, .bool true), (32, undef)] 30 [some 10, some 29] rfl rfl rfl rfl rfl rfl fun G a w S => ?_
      refine sPickT (.bool true) S (wN rfl) rfl rfl rfl rfl rfl (lb rfl) fun a S => ?_
      exact leafL ⟨rfl, S⟩
    exact leafT (⟨true, Option.some.inj h, S.fix [] [] (by decide) rfl rfl rfl⟩)
  obtain ⟨r18, hx19, h⟩ := bindSome h
  rcases iteSome h with ⟨hc20, h⟩ | ⟨hc20, h⟩
  · refine sDraw (nf := []) (W := [(0, 3, .pointer (some ⟨b10, 0, none⟩)), (1, 4, .slice ad5 p0.Left.length cp6), (2, 5, .bool r15), (3, 6, .bool (!r15)), (4, 7, .bool (!r15)), (5, 8, .pointer (some ⟨b10, 1, none⟩)), (6, 9, .slice ad7 p0.Right.length cp8), (7, 10, .bool r18), (8, 11, .bool (!r18)), (9, 12, .bool (!r18)), (10, 13, .bool (!r18)), (11, 14, undef), (12, 15, undef), (13, 16, undef), (14, 17, undef), (15, 18, undef), (16, 19, undef), (17, 20, undef), (18, 21, undef), (19, 22, undef), (20, 23, undef), (21, 24, undef), (22, 25, undef), (23, 26, undef), (24, 27, undef), (25, 28, undef), (26, 29, undef), (27, 30, undef), (28, 31, undef), (29, 32, undef), (30, 33, .bool true)]) rfl S ?_
    refine node_by (A := anc_piece_shape_0) (nf := []) (Y := []) (W := [(0, 3, .pointer (some ⟨b10, 0, none⟩)), (1, 4, .slice ad5 p0.Left.length cp6), (2, 5, .bool r15), (3, 6, .bool (!r15)), (4, 7, .bool (!r15)), (5, 8, .pointer (some ⟨b10, 1, none⟩)), (6, 9, .slice ad7 p0.Right.length cp8), (7, 10, .bool r18), (8, 11, .bool (!r18)), (9, 12, .bool (!r18)), (10, 13, .bool (!r18)), (11, 14, undef), (12, 15, undef), (13, 16, undef), (14, 17, undef), (15, 18, undef), (16, 19, undef), (17, 20, undef), (18, 21, undef), (19, 22, undef), (20, 23, undef), (21, 24, undef), (22, 25, undef), (23, 26, undef), (24, 27, undef), (25, 28, undef), (26, 29, undef), (27, 30, undef), (28, 31, undef), (29, 32, undef), (30, 33, .bool true)]) 31 (by kernel_rfl) (by kernel_rfl) (by kernel_rfl) (by kernel_rfl) (by kernel_rfl) [0, 1, 2, 3, 4, 5, 6, 7, 8, 9, 10, 11, 12, 13, 14, 15, 16, 17, 18, 19, 20, 21, 22, 23, 24, 25, 26, 27, 28, 29, 30] (by kernel_rfl) (by decide) (by decide) (aF 0 30 (by decide) ?_ (aF 1 29 (by decide) ?_ (aF 2 28 (by decide) ?_ (aF 3 27 (by decide) ?_ (aF 4 26 (by decide) ?_ (aF 5 25 (by decide) ?_ (aF 6 24 (by decide) ?_ (aF 7 23 (by decide) ?_ (aF 8 22 (by decide) ?_ (aF 9 21 (by decide) ?_ (aF 10 20 (by decide) ?_ (aF 11 19 (by decide) ?_ (aF 12 18 (by decide) ?_ (aF 13 17 (by decide) ?_ (aF 14 16 (by decide) ?_ (aF 15 15 (by decide) ?_ (aF 16 14 (by decide) ?_ (aF 17 13 (by decide) ?_ (aF 18 12 (by decide) ?_ (aF 19 11 (by decide) ?_ (aF 20 10 (by decide) ?_ (aF 21 9 (by decide) ?_ (aF 22 8 (by decide) ?_ (aF 23 7 (by decide) ?_ (aF 24 6 (by decide) ?_ (aF 25 5 (by decide) ?_ (aF 26 4 (by decide) ?_ (aF 27 3 (by decide) ?_ (aF 28 2 (by decide) ?_ (aF 29 1 (by decide) ?_ (aF 30 0 (by decide) ?_ (trivial)))))))))))))))))))))))))))))))) [(33, .bool true)] (fin_of [some 30] rfl (by kernel_rfl) (by kernel_rfl)) (fun _ a w S => ?_)
    · refine fI 3 (.pointer (some ⟨b10, 0, none⟩)) [(1, .pointer (some ⟨b10, 0, none⟩))] 0 [none] rfl rfl rfl rfl rfl rfl fun G a w S => ?_
      refine sField (b := b10) (off := 0) 0 0 S (wN rfl) rfl rfl rfl rfl rfl (lb rfl) fun a S => ?_
      exact leafL ⟨rfl, S⟩
    · refine fI 4 (.slice ad5 p0.Left.length cp6) [(3, .pointer (some ⟨b10, 0, none⟩))] 1 [some 0] rfl rfl rfl rfl rfl rfl fun G a w S => ?_
      refine sLoad1 (p := b10) (off := 0) (T := 24) (vs := [.slice ad5 p0.Left.length cp6, .slice ad7 p0.Right.length cp8]) 0 (.slice ad5 p0.Left.length cp6) S (wN rfl) rfl rfl rfl rfl rfl rfl (lb rfl) fun a S => ?_
      exact leafL ⟨rfl, S⟩
    · refine fI 5 (.bool r15) [(4, .slice ad5 p0.Left.length cp6)] 2 [some 1] rfl rfl rfl rfl rfl rfl fun G a w S => ?_
      have S1 := S.mem
      refine sCallQ (X := Unit) (f := 49) (vs := [.slice ad5 p0.Left.length cp6]) (val := fun _ => .bool r15) S (wN rfl) rfl callee49 rfl (S1.quiet [1] rfl) (fun E1 w1 S1 => c_piece_side E1 w1 p0.Left (.slice ad5 p0.Left.length cp6) r15 hx16 S1) rfl (lb rfl) fun _ a w S => ?_
      exact leafL ⟨rfl, S⟩
    · refine fI 6 (.bool (!r15)) [(5, .bool r15)] 3 [some 2] rfl rfl rfl rfl rfl rfl fun G a w S => ?_
      refine sNot (b := r15) S (wN rfl) rfl rfl rfl (lb rfl) fun a S => ?_
      exact leafL ⟨rfl, S⟩
    · refine fI 7 (.bool (!r15)) [(6, .bool (!r15))] 4 [some 3] rfl rfl rfl rfl rfl rfl fun G a w S => ?_
      refine sMove (.bool (!r15)) S (wN rfl) (.inl rfl) rfl rfl (lb rfl) fun a S => ?_
      exact leafL ⟨rfl, S⟩
    · refine fI 8 (.pointer (some ⟨b10, 1, none⟩)) [(1, .pointer (some ⟨b10, 0, none⟩)), (7, .bool (!r15))] 5 [none, some 4] rfl rfl rfl rfl rfl rfl fun G a w S => ?_
      refine sField (b := b10) (off := 0) 1 1 S (wG 4 false 7 rfl rfl rfl hc17) rfl rfl rfl rfl rfl (lb rfl) fun a S => ?_
      exact leafL ⟨rfl, S⟩
    · refine fI 9 (.slice ad7 p0.Right.length cp8) [(8, .pointer (some ⟨b10, 1, none⟩)), (7, .bool (!r15))] 6 [some 5, some 4] rfl rfl rfl rfl rfl rfl fun G a w S => ?_
      refine sLoad1 (p := b10) (off := 1) (T := 24) (vs := [.slice ad5 p0.Left.length cp6, .slice ad7 p0.Right.length cp8]) 0 (.slice ad7 p0.Right.length cp8) S (wG 4 false 7 rfl rfl rfl hc17) rfl rfl rfl rfl rfl rfl (lb rfl) fun a S => ?_
      exact leafL ⟨rfl, S⟩
    · refine fI 10 (.bool r18) [(9, .slice ad7 p0.Right.length cp8), (7, .bool (!r15))] 7 [some 6, some 4] rfl rfl rfl rfl rfl rfl fun G a w S => ?_
      have S1 := S.mem
      refine sCallQ (X := Unit) (f := 49) (vs := [.slice ad7 p0.Right.length cp8]) (val := fun _ => .bool r18) S (wG 4 false 7 rfl rfl rfl hc17) rfl callee49 rfl (S1.quiet [0] rfl) (fun E1 w1 S1 => c_piece_side E1 w1 p0.Right (.slice ad7 p0.Right.length cp8) r18 hx19 S1) rfl (lb rfl) fun _ a w S => ?_
      exact leafL ⟨rfl, S⟩
    · refine fI 11 (.bool (!r18)) [(10, .bool r18), (7, .bool (!r15))] 8 [some 7, some 4] rfl rfl rfl rfl rfl rfl fun G a w S => ?_
      refine sNot (b := r18) S (wG 4 false 7 rfl rfl rfl hc17) rfl rfl rfl (lb rfl) fun a S => ?_
      exact leafL ⟨rfl, S⟩
    · refine fI 12 (.bool (!r18)) [(7, .bool (!r15)), (11, .bool (!r18))] 9 [some 4, some 8] rfl rfl rfl rfl rfl rfl fun G a w S => ?_
      refine sPickF (.bool (!r18)) S (wN rfl) rfl rfl hc17 rfl rfl (lb rfl) fun a S => ?_
      exact leafL ⟨rfl, S⟩
    · refine fI 13 (.bool (!r18)) [(12, .bool (!r18))] 10 [some 9] rfl rfl rfl rfl rfl rfl fun G a w S => ?_
      refine sMove (.bool (!r18)) S (wN rfl) (.inl rfl) rfl rfl (lb rfl) fun a S => ?_
      exact leafL ⟨rfl, S⟩
    · refine fI 14 undef [(1, .pointer (some ⟨b10, 0, none⟩)), (13, .bool (!r18))] 11 [none, some 10] rfl rfl rfl rfl rfl rfl fun G a w S => ?_
      refine sSkip 10 false 13 14 S rfl rfl rfl hc20 rfl (lb rfl) fun a S => ?_
      exact leafL ⟨rfl, S⟩
    · refine fI 15 undef [(14, undef), (13, .bool (!r18))] 12 [some 11, some 10] rfl rfl rfl rfl rfl rfl fun G a w S => ?_
      refine sSkip 10 false 13 15 S rfl rfl rfl hc20 rfl (lb rfl) fun a S => ?_
      exact leafL ⟨rfl, S⟩
    · refine fI 16 undef [(1, .pointer (some ⟨b10, 0, none⟩)), (13, .bool (!r18))] 13 [none, some 10] rfl rfl rfl rfl rfl rfl fun G a w S => ?_
      refine sSkip 10 false 13 16 S rfl rfl rfl hc20 rfl (lb rfl) fun a S => ?_
      exact leafL ⟨rfl, S⟩
    · refine fI 17 undef [(16, undef), (13, .bool (!r18))] 14 [some 13, some 10] rfl rfl rfl rfl rfl rfl fun G a w S => ?_
      refine sSkip 10 false 13 17 S rfl rfl rfl hc20 rfl (lb rfl) fun a S => ?_
      exact leafL ⟨rfl, S⟩
    · refine fI 18 undef [(17, undef), (13, .bool (!r18))] 15 [some 14, some 10] rfl rfl rfl rfl rfl rfl fun G a w S => ?_
      refine sSkip 10 false 13 18 S rfl rfl rfl hc20 rfl (lb rfl) fun a S => ?_
      exact leafL ⟨rfl, S⟩
    · refine fI 19 undef [(18, undef), (13, .bool (!r18))] 16 [some 15, some 10] rfl rfl rfl rfl rfl rfl fun G a w S => ?_
      refine sSkip 10 false 13 19 S rfl rfl rfl hc20 rfl (lb rfl) fun a S => ?_
      exact leafL ⟨rfl, S⟩
    · refine fI 20 undef [(15, undef), (19, undef), (13, .bool (!r18))] 17 [some 12, some 16, some 10] rfl rfl rfl rfl rfl rfl fun G a w S => ?_
      refine sSkip 10 false 13 20 S rfl rfl rfl hc20 rfl (lb rfl) fun a S => ?_
      exact leafL ⟨rfl, S⟩
    · refine fI 21 undef [(20, undef), (13, .bool (!r18))] 18 [some 17, some 10] rfl rfl rfl rfl rfl rfl fun G a w S => ?_
      refine sSkip 10 false 13 21 S rfl rfl rfl hc20 rfl (lb rfl) fun a S => ?_
      exact leafL ⟨rfl, S⟩
    · refine fI 22 undef [(21, undef), (13, .bool (!r18))] 19 [some 18, some 10] rfl rfl rfl rfl rfl rfl fun G a w S => ?_
      refine sSkip 10 false 13 22 S rfl rfl rfl hc20 rfl (lb rfl) fun a S => ?_
      exact leafL ⟨rfl, S⟩
    · refine fI 23 undef [(1, .pointer (some ⟨b10, 0, none⟩)), (13, .bool (!r18))] 20 [none, some 10] rfl rfl rfl rfl rfl rfl fun G a w S => ?_
      refine sSkip 10 false 13 23 S rfl rfl rfl hc20 rfl (lb rfl) fun a S => ?_
      exact leafL ⟨rfl, S⟩
    · refine fI 24 undef [(23, undef), (13, .bool (!r18))] 21 [some 20, some 10] rfl rfl rfl rfl rfl rfl fun G a w S => ?_
      refine sSkip 10 false 13 24 S rfl rfl rfl hc20 rfl (lb rfl) fun a S => ?_
      exact leafL ⟨rfl, S⟩
    · refine fI 25 undef [(1, .pointer (some ⟨b10, 0, none⟩)), (13, .bool (!r18))] 22 [none, some 10] rfl rfl rfl rfl rfl rfl fun G a w S => ?_
      refine sSkip 10 false 13 25 S rfl rfl rfl hc20 rfl (lb rfl) fun a S => ?_
      exact leafL ⟨rfl, S⟩
    · refine fI 26 undef [(25, undef), (13, .bool (!r18))] 23 [some 22, some 10] rfl rfl rfl rfl rfl rfl fun G a w S => ?_
      refine sSkip 10 false 13 26 S rfl rfl rfl hc20 rfl (lb rfl) fun a S => ?_
      exact leafL ⟨rfl, S⟩
    · refine fI 27 undef [(26, undef), (13, .bool (!r18))] 24 [some 23, some 10] rfl rfl rfl rfl rfl rfl fun G a w S => ?_
      refine sSkip 10 false 13 27 S rfl rfl rfl hc20 rfl (lb rfl) fun a S => ?_
      exact leafL ⟨rfl, S⟩
    · refine fI 28 undef [(27, undef), (13, .bool (!r18))] 25 [some 24, some 10] rfl rfl rfl rfl rfl rfl fun G a w S => ?_
      refine sSkip 10 false 13 28 S rfl rfl rfl hc20 rfl (lb rfl) fun a S => ?_
      exact leafL ⟨rfl, S⟩
    · refine fI 29 undef [(24, undef), (28, undef), (13, .bool (!r18))] 26 [some 21, some 25, some 10] rfl rfl rfl rfl rfl rfl fun G a w S => ?_
      refine sSkip 10 false 13 29 S rfl rfl rfl hc20 rfl (lb rfl) fun a S => ?_
      exact leafL ⟨rfl, S⟩
    · refine fI 30 undef [(29, undef), (13, .bool (!r18))] 27 [some 26, some 10] rfl rfl rfl rfl rfl rfl fun G a w S => ?_
      refine sSkip 10 false 13 30 S rfl rfl rfl hc20 rfl (lb rfl) fun a S => ?_
      exact leafL ⟨rfl, S⟩
    · refine fI 31 undef [(30, undef), (13, .bool (!r18))] 28 [some 27, some 10] rfl rfl rfl rfl rfl rfl fun G a w S => ?_
      refine sSkip 10 false 13 31 S rfl rfl rfl hc20 rfl (lb rfl) fun a S => ?_
      exact leafL ⟨rfl, S⟩
    · refine fI 32 undef [(22, undef), (31, undef), (13, .bool (!r18))] 29 [some 19, some 28, some 10] rfl rfl rfl rfl rfl rfl fun G a w S => ?_
      refine sSkip 10 false 13 32 S rfl rfl rfl hc20 rfl (lb rfl) fun a S => ?_
      exact leafL ⟨rfl, S⟩
    · refine fI 33 (.bool true) [(13, .bool (!r18)), (32, undef)] 30 [some 10, some 29] rfl rfl rfl rfl rfl rfl fun G a w S => ?_
      refine sPickT (.bool true) S (wN rfl) rfl rfl hc20 rfl rfl (lb rfl) fun a S => ?_
      exact leafL ⟨rfl, S⟩
    exact leafT (⟨true, Option.some.inj h, S.fix [] [] (by decide) rfl rfl rfl⟩)
  obtain ⟨x21, hx22, h⟩ := bindSome h
  obtain ⟨x28, hx29, h⟩ := bindSome h
  obtain ⟨q35, hq36, S⟩ := pIdx (P := Tryd.prog) (r := r_api_Point) (v := .slice ad5 p0.Left.length cp6) (xs := p0.Left) (j := w64 ((p0.Left.length : Int) - 1)) 22 35 1 S Tryd.underlying22 rfl rfl hx22
  obtain ⟨q37, hq38, S⟩ := pFld (P := Tryd.prog) (r := r_api_Point) (s2 := (rI .i64)) (g := (·.Y)) (q := q35) (z := x21) 35 1 0 1 S rfl rfl comp_api_Point_Y
  obtain ⟨u39, S⟩ := pLoad (r := (rI .i64)) (q := q37) (x := x21.Y) 0 S rfl
  obtain rfl : u39 = iv x21.Y := S.mem.know (i := 1) (e := fRep (rI .i64) (u39) x21.Y) rfl
  obtain ⟨q40, hq41, S⟩ := pIdx (P := Tryd.prog) (r := r_api_Point) (v := .slice ad7 p0.Right.length cp8) (xs := p0.Right) (j := w64 ((p0.Right.length : Int) - 1)) 22 35 4 S Tryd.underlying22 rfl rfl hx29
  obtain ⟨q42, hq43, S⟩ := pFld (P := Tryd.prog) (r := r_api_Point) (s2 := (rI .i64)) (g := (·.Y)) (q := q40) (z := x28) 35 1 0 1 S rfl rfl comp_api_Point_Y
  obtain ⟨u44, S⟩ := pLoad (r := (rI .i64)) (q := q42) (x := x28.Y) 0 S rfl
  obtain rfl : u44 = iv x28.Y := S.mem.know (i := 1) (e := fRep (rI .i64) (u44) x28.Y) rfl
  refine sDraw (nf := []) (W := [(0, 3, .pointer (some ⟨b10, 0, none⟩)), (1, 4, .slice ad5 p0.Left.length cp6), (2, 5, .bool r15), (3, 6, .bool (!r15)), (4, 7, .bool (!r15)), (5, 8, .pointer (some ⟨b10, 1, none⟩)), (6, 9, .slice ad7 p0.Right.length cp8), (7, 10, .bool r18), (8, 11, .bool (!r18)), (9, 12, .bool (!r18)), (10, 13, .bool (!r18)), (11, 14, .pointer (some ⟨b10, 0, none⟩)), (12, 15, .slice ad5 p0.Left.length cp6), (13, 16, .pointer (some ⟨b10, 0, none⟩)), (14, 17, .slice ad5 p0.Left.length cp6), (15, 18, iv (p0.Left.length : Int)), (16, 19, iv (w64 ((p0.Left.length : Int) - 1))), (17, 20, q35), (18, 21, q37), (19, 22, iv x21.Y), (20, 23, .pointer (some ⟨b10, 1, none⟩)), (21, 24, .slice ad7 p0.Right.length cp8), (22, 25, .pointer (some ⟨b10, 1, none⟩)), (23, 26, .slice ad7 p0.Right.length cp8), (24, 27, iv (p0.Right.length : Int)), (25, 28, iv (w64 ((p0.Right.length : Int) - 1))), (26, 29, q40), (27, 30, q42), (28, 31, iv x28.Y), (29, 32, .bool (x21.Y != x28.Y)), (30, 33, .bool (x21.Y != x28.Y))]) rfl S ?_
  refine node_by (A := anc_piece_shape_0) (nf := []) (Y := []) (W := [(0, 3, .pointer (some ⟨b10, 0, none⟩)), (1, 4, .slice ad5 p0.Left.length cp6), (2, 5, .bool r15), (3, 6, .bool (!r15)), (4, 7, .bool (!r15)), (5, 8, .pointer (some ⟨b10, 1, none⟩)), (6, 9, .slice ad7 p0.Right.length cp8), (7, 10, .bool r18), (8, 11, .bool (!r18)), (9, 12, .bool (!r18)), (10, 13, .bool (!r18)), (11, 14, .pointer (some ⟨b10, 0, none⟩)), (12, 15, .slice ad5 p0.Left.length cp6), (13, 16, .pointer (some ⟨b10, 0, none⟩)), (14, 17, .slice ad5 p0.Left.length cp6), (15, 18, iv (p0.Left.length : Int)), (16, 19, iv (w64 ((p0.Left.length : Int) - 1))), (17, 20, q35), (18, 21, q37), (19, 22, iv x21.Y), (20, 23, .pointer (some ⟨b10, 1, none⟩)), (21, 24, .slice ad7 p0.Right.length cp8), (22, 25, .pointer (some ⟨b10, 1, none⟩)), (23, 26, .slice ad7 p0.Right.length cp8), (24, 27, iv (p0.Right.length : Int)), (25, 28, iv (w64 ((p0.Right.length : Int) - 1))), (26, 29, q40), (27, 30, q42), (28, 31, iv x28.Y), (29, 32, .bool (x21.Y != x28.Y)), (30, 33, .bool (x21.Y != x28.Y))]) 31 (by kernel_rfl) (by kernel_rfl) (by kernel_rfl) (by kernel_rfl) (by kernel_rfl) [0, 1, 2, 3, 4, 5, 6, 7, 8, 9, 10, 11, 12, 13, 14, 15, 16, 17, 18, 19, 20, 21, 22, 23, 24, 25, 26, 27, 28, 29, 30] (by kernel_rfl) (by decide) (by decide) (aF 0 30 (by decide) ?_ (aF 1 29 (by decide) ?_ (aF 2 28 (by decide) ?_ (aF 3 27 (by decide) ?_ (aF 4 26 (by decide) ?_ (aF 5 25 (by decide) ?_ (aF 6 24 (by decide) ?_ (aF 7 23 (by decide) ?_ (aF 8 22 (by decide) ?_ (aF 9 21 (by decide) ?_ (aF 10 20 (by decide) ?_ (aF 11 19 (by decide) ?_ (aF 12 18 (by decide) ?_ (aF 13 17 (by decide) ?_ (aF 14 16 (by decide) ?_ (aF 15 15 (by decide) ?_ (aF 16 14 (by decide) ?_ (aF 17 13 (by decide) ?_ (aF 18 12 (by decide) ?_ (aF 19 11 (by decide) ?_ (aF 20 10 (by decide) ?_ (aF 21 9 (by decide) ?_ (aF 22 8 (by decide) ?_ (aF 23 7 (by decide) ?_ (aF 24 6 (by decide) ?_ (aF 25 5 (by decide) ?_ (aF 26 4 (by decide) ?_ (aF 27 3 (by decide) ?_ (aF 28 2 (by decide) ?_ (aF 29 1 (by decide) ?_ (aF 30 0 (by decide) ?_ (trivial)))))))))))))))))))))))))))))))) [(33, .bool (x21.Y != x28.Y))] (fin_of [some 30] rfl (by kernel_rfl) (by kernel_rfl)) (fun _ a w S => ?_)
  · refine fI 3 (.pointer (some ⟨b10, 0, none⟩)) [(1, .pointer (some ⟨b10, 0, none⟩))] 0 [none] rfl rfl rfl rfl rfl rfl fun G a w S => ?_
    refine sField (b := b10) (off := 0) 0 0 S (wN rfl) rfl rfl rfl rfl rfl (lb rfl) fun a S => ?_
    exact leafL ⟨rfl, S⟩
  · refine fI 4 (.slice ad5 p0.Left.length cp6) [(3, .pointer (some ⟨b10, 0, none⟩))] 1 [some 0] rfl rfl rfl rfl rfl rfl fun G a w S => ?_
    refine sLoad1 (p := b10) (off := 0) (T := 24) (vs := [.slice ad5 p0.Left.length cp6, .slice ad7 p0.Right.length cp8]) 0 (.slice ad5 p0.Left.length cp6) S (wN rfl) rfl rfl rfl rfl rfl rfl (lb rfl) fun a S => ?_
    exact leafL ⟨rfl, S⟩
  · refine fI 5 (.bool r15) [(4, .slice ad5 p0.Left.length cp6)] 2 [some 1] rfl rfl rfl rfl rfl rfl fun G a w S => ?_
    have S1 := S.mem
    refine sCallQ (X := Unit) (f := 49) (vs := [.slice ad5 p0.Left.length cp6]) (val := fun _ => .bool r15) S (wN rfl) rfl callee49 rfl (S1.quiet [9] rfl) (fun E1 w1 S1 => c_piece_side E1 w1 p0.Left (.slice ad5 p0.Left.length cp6) r15 hx16 S1) rfl (lb rfl) fun _ a w S => ?_
    exact leafL ⟨rfl, S⟩
  · refine fI 6 (.bool (!r15)) [(5, .bool r15)] 3 [some 2] rfl rfl rfl rfl rfl rfl fun G a w S => ?_
    refine sNot (b := r15) S (wN rfl) rfl rfl rfl (lb rfl) fun a S => ?_
    exact leafL ⟨rfl, S⟩
  · refine fI 7 (.bool (!r15)) [(6, .bool (!r15))] 4 [some 3] rfl rfl rfl rfl rfl rfl fun G a w S => ?_
    refine sMove (.bool (!r15)) S (wN rfl) (.inl rfl) rfl rfl (lb rfl) fun a S => ?_
    exact leafL ⟨rfl, S⟩
  · refine fI 8 (.pointer (some ⟨b10, 1, none⟩)) [(1, .pointer (some ⟨b10, 0, none⟩)), (7, .bool (!r15))] 5 [none, some 4] rfl rfl rfl rfl rfl rfl fun G a w S => ?_
    refine sField (b := b10) (off := 0) 1 1 S (wG 4 false 7 rfl rfl rfl hc17) rfl rfl rfl rfl rfl (lb rfl) fun a S => ?_
    exact leafL ⟨rfl, S⟩
  · refine fI 9 (.slice ad7 p0.Right.length cp8) [(8, .pointer (some ⟨b10, 1, none⟩)), (7, .bool (!r15))] 6 [some 5, some 4] rfl rfl rfl rfl rfl rfl fun G a w S => ?_
    refine sLoad1 (p := b10) (off := 1) (T := 24) (vs := [.slice ad5 p0.Left.length cp6, .slice ad7 p0.Right.length cp8]) 0 (.slice ad7 p0.Right.length cp8) S (wG 4 false 7 rfl rfl rfl hc17) rfl rfl rfl rfl rfl rfl (lb rfl) fun a S => ?_
    exact leafL ⟨rfl, S⟩
  · refine fI 10 (.bool r18) [(9, .slice ad7 p0.Right.length cp8), (7, .bool (!r15))] 7 [some 6, some 4] rfl rfl rfl rfl rfl rfl fun G a w S => ?_
    have S1 := S.mem
    refine sCallQ (X := Unit) (f := 49) (vs := [.slice ad7 p0.Right.length cp8]) (val := fun _ => .bool r18) S (wG 4 false 7 rfl rfl rfl hc17) rfl callee49 rfl (S1.quiet [8] rfl) (fun E1 w1 S1 => c_piece_side E1 w1 p0.Right (.slice ad7 p0.Right.length cp8) r18 hx19 S1) rfl (lb rfl) fun _ a w S => ?_
    exact leafL ⟨rfl, S⟩
  · refine fI 11 (.bool (!r18)) [(10, .bool r18), (7, .bool (!r15))] 8 [some 7, some 4] rfl rfl rfl rfl rfl rfl fun G a w S => ?_
    refine sNot (b := r18) S (wG 4 false 7 rfl rfl rfl hc17) rfl rfl rfl (lb rfl) fun a S => ?_
    exact leafL ⟨rfl, S⟩
  · refine fI 12 (.bool (!r18)) [(7, .bool (!r15)), (11, .bool (!r18))] 9 [some 4, some 8] rfl rfl rfl rfl rfl rfl fun G a w S => ?_
    refine sPickF (.bool (!r18)) S (wN rfl) rfl rfl hc17 rfl rfl (lb rfl) fun a S => ?_
    exact leafL ⟨rfl, S⟩
  · refine fI 13 (.bool (!r18)) [(12, .bool (!r18))] 10 [some 9] rfl rfl rfl rfl rfl rfl fun G a w S => ?_
    refine sMove (.bool (!r18)) S (wN rfl) (.inl rfl) rfl rfl (lb rfl) fun a S => ?_
    exact leafL ⟨rfl, S⟩
  · refine fI 14 (.pointer (some ⟨b10, 0, none⟩)) [(1, .pointer (some ⟨b10, 0, none⟩)), (13, .bool (!r18))] 11 [none, some 10] rfl rfl rfl rfl rfl rfl fun G a w S => ?_
    refine sField (b := b10) (off := 0) 0 0 S (wG 10 false 13 rfl rfl rfl hc20) rfl rfl rfl rfl rfl (lb rfl) fun a S => ?_
    exact leafL ⟨rfl, S⟩
  · refine fI 15 (.slice ad5 p0.Left.length cp6) [(14, .pointer (some ⟨b10, 0, none⟩)), (13, .bool (!r18))] 12 [some 11, some 10] rfl rfl rfl rfl rfl rfl fun G a w S => ?_
    refine sLoad1 (p := b10) (off := 0) (T := 24) (vs := [.slice ad5 p0.Left.length cp6, .slice ad7 p0.Right.length cp8]) 0 (.slice ad5 p0.Left.length cp6) S (wG 10 false 13 rfl rfl rfl hc20) rfl rfl rfl rfl rfl rfl (lb rfl) fun a S => ?_
    exact leafL ⟨rfl, S⟩
  · refine fI 16 (.pointer (some ⟨b10, 0, none⟩)) [(1, .pointer (some ⟨b10, 0, none⟩)), (13, .bool (!r18))] 13 [none, some 10] rfl rfl rfl rfl rfl rfl fun G a w S => ?_
    refine sField (b := b10) (off := 0) 0 0 S (wG 10 false 13 rfl rfl rfl hc20) rfl rfl rfl rfl rfl (lb rfl) fun a S => ?_
    exact leafL ⟨rfl, S⟩
  · refine fI 17 (.slice ad5 p0.Left.length cp6) [(16, .pointer (some ⟨b10, 0, none⟩)), (13, .bool (!r18))] 14 [some 13, some 10] rfl rfl rfl rfl rfl rfl fun G a w S => ?_
    refine sLoad1 (p := b10) (off := 0) (T := 24) (vs := [.slice ad5 p0.Left.length cp6, .slice ad7 p0.Right.length cp8]) 0 (.slice ad5 p0.Left.length cp6) S (wG 10 false 13 rfl rfl rfl hc20) rfl rfl rfl rfl rfl rfl (lb rfl) fun a S => ?_
    exact leafL ⟨rfl, S⟩
  · refine fI 18 (iv (p0.Left.length : Int)) [(17, .slice ad5 p0.Left.length cp6), (13, .bool (!r18))] 15 [some 14, some 10] rfl rfl rfl rfl rfl rfl fun G a w S => ?_
    refine sLen (ad := ad5) (m := p0.Left.length) (c := cp6) S (wG 10 false 13 rfl rfl rfl hc20) rfl Tryd.underlying22 rfl rfl (lb rfl) fun a S => ?_
    exact leafL ⟨rfl, S⟩
  · refine fI 19 (iv (w64 ((p0.Left.length : Int) - 1))) [(18, iv (p0.Left.length : Int)), (13, .bool (!r18))] 16 [some 15, some 10] rfl rfl rfl rfl rfl rfl fun G a w S => ?_
    refine sBin (iv (w64 ((p0.Left.length : Int) - 1))) S (wG 10 false 13 rfl rfl rfl hc20) rfl rfl rfl (bSub _ _ _ _ (p0.Left.length : Int) 1) rfl (lb rfl) fun a S => ?_
    exact leafL ⟨rfl, S⟩
  · refine fI 20 q35 [(15, .slice ad5 p0.Left.length cp6), (19, iv (w64 ((p0.Left.length : Int) - 1))), (13, .bool (!r18))] 17 [some 12, some 16, some 10] rfl rfl rfl rfl rfl rfl fun G a w S => ?_
    refine sIdxV (v := .slice ad5 p0.Left.length cp6) (k := .i64) (j := w64 ((p0.Left.length : Int) - 1)) S (wG 10 false 13 rfl rfl rfl hc20) rfl rfl rfl hq36 rfl (lb rfl) fun a S => ?_
    exact leafL ⟨rfl, S⟩
  · refine fI 21 q37 [(20, q35), (13, .bool (!r18))] 18 [some 17, some 10] rfl rfl rfl rfl rfl rfl fun G a w S => ?_
    refine sFldV (q := q35) S (wG 10 false 13 rfl rfl rfl hc20) rfl rfl hq38 rfl (lb rfl) fun a S => ?_
    exact leafL ⟨rfl, S⟩
  · refine fI 22 (iv x21.Y) [(21, q37), (13, .bool (!r18))] 19 [some 18, some 10] rfl rfl rfl rfl rfl rfl fun G a w S => ?_
    refine sLoadV1 (vq := q37) 4 (iv x21.Y) S (wG 10 false 13 rfl rfl rfl hc20) rfl rfl rfl rfl rfl (lb rfl) fun a S => ?_
    exact leafL ⟨rfl, S⟩
  · refine fI 23 (.pointer (some ⟨b10, 1, none⟩)) [(1, .pointer (some ⟨b10, 0, none⟩)), (13, .bool (!r18))] 20 [none, some 10] rfl rfl rfl rfl rfl rfl fun G a w S => ?_
    refine sField (b := b10) (off := 0) 1 1 S (wG 10 false 13 rfl rfl rfl hc20) rfl rfl rfl rfl rfl (lb rfl) fun a S => ?_
    exact leafL ⟨rfl, S⟩
  · refine fI 24 (.slice ad7 p0.Right.length cp8) [(23, .pointer (some ⟨b10, 1, none⟩)), (13, .bool (!r18))] 21 [some 20, some 10] rfl rfl rfl rfl rfl rfl fun G a w S => ?_
    refine sLoad1 (p := b10) (off := 1) (T := 24) (vs := [.slice ad5 p0.Left.length cp6, .slice ad7 p0.Right.length cp8]) 0 (.slice ad7 p0.Right.length cp8) S (wG 10 false 13 rfl rfl rfl hc20) rfl rfl rfl rfl rfl rfl (lb rfl) fun a S => ?_
    exact leafL ⟨rfl, S⟩
  · refine fI 25 (.pointer (some ⟨b10, 1, none⟩)) [(1, .pointer (some ⟨b10, 0, none⟩)), (13, .bool (!r18))] 22 [none, some 10] rfl rfl rfl rfl rfl rfl fun G a w S => ?_
    refine sField (b := b10) (off := 0) 1 1 S (wG 10 false 13 rfl rfl rfl hc20) rfl rfl rfl rfl rfl (lb rfl) fun a S => ?_
    exact leafL ⟨rfl, S⟩
  · refine fI 26 (.slice ad7 p0.Right.length cp8) [(25, .pointer (some ⟨b10, 1, none⟩)), (13, .bool (!r18))] 23 [some 22, some 10] rfl rfl rfl rfl rfl rfl fun G a w S => ?_
    refine sLoad1 (p := b10) (off := 1) (T := 24) (vs := [.slice ad5 p0.Left.length cp6, .slice ad7 p0.Right.length cp8]) 0 (.slice ad7 p0.Right.length cp8) S (wG 10 false 13 rfl rfl rfl hc20) rfl rfl rfl rfl rfl rfl (lb rfl) fun a S => ?_
    exact leafL ⟨rfl, S⟩
  · refine fI 27 (iv (p0.Right.length : Int)) [(26, .slice ad7 p0.Right.length cp8), (13, .bool (!r18))] 24 [some 23, some 10] rfl rfl rfl rfl rfl rfl fun G a w S => ?_
    refine sLen (ad := ad7) (m := p0.Right.length) (c := cp8) S (wG 10 false 13 rfl rfl rfl hc20) rfl Tryd.underlying22 rfl rfl (lb rfl) fun a S => ?_
    exact leafL ⟨rfl, S⟩
  · refine fI 28 (iv (w64 ((p0.Right.length : Int) - 1))) [(27, iv (p0.Right.length : Int)), (13, .bool (!r18))] 25 [some 24, some 10] rfl rfl rfl rfl rfl rfl fun G a w S => ?_
    refine sBin (iv (w64 ((p0.Right.length : Int) - 1))) S (wG 10 false 13 rfl rfl rfl hc20) rfl rfl rfl (bSub _ _ _ _ (p0.Right.length : Int) 1) rfl (lb rfl) fun a S => ?_
    exact leafL ⟨rfl, S⟩
  · refine fI 29 q40 [(24, .slice ad7 p0.Right.length cp8), (28, iv (w64 ((p0.Right.length : Int) - 1))), (13, .bool (!r18))] 26 [some 21, some 25, some 10] rfl rfl rfl rfl rfl rfl fun G a w S => ?_
    refine sIdxV (v := .slice ad7 p0.Right.length cp8) (k := .i64) (j := w64 ((p0.Right.length : Int) - 1)) S (wG 10 false 13 rfl rfl rfl hc20) rfl rfl rfl hq41 rfl (lb rfl) fun a S => ?_
    exact leafL ⟨rfl, S⟩
  · refine fI 30 q42 [(29, q40), (13, .bool (!r18))] 27 [some 26, some 10] rfl rfl rfl rfl rfl rfl fun G a w S => ?_
    refine sFldV (q := q40) S (wG 10 false 13 rfl rfl rfl hc20) rfl rfl hq43 rfl (lb rfl) fun a S => ?_
    exact leafL ⟨rfl, S⟩
  · refine fI 31 (iv x28.Y) [(30, q42), (13, .bool (!r18))] 28 [some 27, some 10] rfl rfl rfl rfl rfl rfl fun G a w S => ?_
    refine sLoadV1 (vq := q42) 0 (iv x28.Y) S (wG 10 false 13 rfl rfl rfl hc20) rfl rfl rfl rfl rfl (lb rfl) fun a S => ?_
    exact leafL ⟨rfl, S⟩
  · refine fI 32 (.bool (x21.Y != x28.Y)) [(22, iv x21.Y), (31, iv x28.Y), (13, .bool (!r18))] 29 [some 19, some 28, some 10] rfl rfl rfl rfl rfl rfl fun G a w S => ?_
    refine sBin (.bool (x21.Y != x28.Y)) S (wG 10 false 13 rfl rfl rfl hc20) rfl rfl rfl (bNe _ _ _ _ .i64 x21.Y x28.Y) rfl (lb rfl) fun a S => ?_
    exact leafL ⟨rfl, S⟩
  · refine fI 33 (.bool (x21.Y != x28.Y)) [(13, .bool (!r18)), (32, .bool (x21.Y != x28.Y))] 30 [some 10, some 29] rfl rfl rfl rfl rfl rfl fun G a w S => ?_
    refine sPickF (.bool (x21.Y != x28.Y)) S (wN rfl) rfl rfl hc20 rfl rfl (lb rfl) fun a S => ?_
    exact leafL ⟨rfl, S⟩
  exact leafT (⟨x21.Y != x28.Y, Option.some.inj h, S.fix [] [] (by decide) rfl rfl rfl⟩)

end Go.Proofs.YtmedbnjhgkcndaaDoor
namespace Go.Proofs.YtmedbnjhgkcndaaDoor
open Go.RowKit
set_option linter.unusedVariables false

noncomputable def F_slope_within (p0 : Int) (p1 : Int) (p2 : Int) : Option Bool :=
  Option.bind (α := Bool) (
    if decide (p1 ≤ p0) then
      some (decide (p0 ≤ p2))
    else
      some false) fun o2 =>
  some o2
set_option maxHeartbeats 4000000 in
set_option maxRecDepth 100000 in
theorem c_slope_within (E : Nat → Prop) (w0 : World) (p0 : Int) (p1 : Int) (p2 : Int) (r : Bool) (h : F_slope_within p0 p1 p2 = some r) (S : St0 E [] w0 w0 [] []) :
    Calls Tryd.prog 75 #[iv p0, iv p1, iv p2] w0 (Ret (X := Unit) E [] w0 (fun _ => .bool r) (fun _ => []) (fun _ => [])) := by
  unfold F_slope_within at h
  refine sEnter (args := [iv p0, iv p1, iv p2]) 15 Tryd.func75 rfl rfl (by simp) S (fun a S => ?_)
  refine sSeq (fun K1 hK1 => ?_)
  refine sRegion ?_
  refine sMove (.bool false) S (wN rfl) (.inr rfl) rfl rfl (lb rfl) fun a S => ?_
  refine leafL (leafT (hK1 _ _ ?_))
  obtain ⟨t3, h, g4⟩ := bindSome h
  refine sCut (fun a w => ∃ o2, o2 = t3 ∧ St [] E [] w0 15 a w [(6, .bool o2)] [] []) ?_ (fun a w hI => ?_)
  rotate_left
  · obtain ⟨o2, rfl, S⟩ := hI
    have h := g4
    clear g4
    try dsimp only at h
    obtain rfl := Option.some.inj h
    exact wp_ret (sRet (.bool o2) S (rsl1 rfl (rvT (t := 6) (v := .bool o2) S rfl)) ⟨(), rfl, S.mem.sel [] [] (by decide) rfl rfl⟩)
  refine sRegion ?_
  refine sMove (iv p0) S (wN rfl) (.inl rfl) rfl rfl (lb rfl) fun a S => ?_
  refine sMove (iv p1) S (wN rfl) (.inl rfl) rfl rfl (lb rfl) fun a S => ?_
  refine sBin (.bool (decide (p1 ≤ p0))) S (wN rfl) rfl rfl rfl (bGe _ _ _ _ .i64 p0 p1) rfl (lb rfl) fun a S => ?_
  refine sMove (.bool (decide (p1 ≤ p0))) S (wN rfl) (.inl rfl) rfl rfl (lb rfl) fun a S => ?_
  rcases iteSome h with ⟨hc5, h⟩ | ⟨hc5, h⟩
  rotate_left
  · refine sSkip 3 true 10 11 S rfl rfl rfl hc5 rfl (lb rfl) fun a S => ?_
    refine sSkip 3 true 10 12 S rfl rfl rfl hc5 rfl (lb rfl) fun a S => ?_
    refine sSkip 3 true 10 13 S rfl rfl rfl hc5 rfl (lb rfl) fun a S => ?_
    refine sPickF (.bool false) S (wN rfl) rfl rfl hc5 rfl rfl (lb rfl) fun a S => ?_
    refine sMove (.bool false) S (wN rfl) (.inr rfl) rfl rfl (lb rfl) fun a S => ?_
    exact leafL (leafT (⟨false, Option.some.inj h, S.fix [] [] (by decide) rfl rfl rfl⟩))
  refine sMove (iv p0) S (wG 3 true 10 rfl rfl rfl hc5) (.inl rfl) rfl rfl (lb rfl) fun a S => ?_
  refine sMove (iv p2) S (wG 3 true 10 rfl rfl rfl hc5) (.inl rfl) rfl rfl (lb rfl) fun a S => ?_
  refine sBin (.bool (decide (p0 ≤ p2))) S (wG 3 true 10 rfl rfl rfl hc5) rfl rfl rfl (bLe _ _ _ _ .i64 p0 p2) rfl (lb rfl) fun a S => ?_
  refine sPickT (.bool (decide (p0 ≤ p2))) S (wN rfl) rfl rfl hc5 rfl rfl (lb rfl) fun a S => ?_
  refine sMove (.bool (decide (p0 ≤ p2))) S (wN rfl) (.inr rfl) rfl rfl (lb rfl) fun a S => ?_
  exact leafL (leafT (⟨decide (p0 ≤ p2), Option.some.inj h, S.fix [] [] (by decide) rfl rfl rfl⟩))

end Go.Proofs.YtmedbnjhgkcndaaDoor
namespace Go.Proofs.YtmedbnjhgkcndaaDoor
open Go.RowKit
set_option linter.unusedVariables false

noncomputable def F_slope_check (p0 : Int) (p1 : Int) (p2 : Int) : Option Int :=
  Option.bind (α := Bool) (
    Option.bind (F_slope_within p0 (-1000) 1000) fun r6 =>
    if !r6 then
      some true
    else
      Option.bind (F_slope_within p1 (-1000) 1000) fun r9 =>
      if !r9 then
        some true
      else
        Option.bind (F_slope_within p2 1 1000) fun r12 =>
        some (!r12)) fun o3 =>
  if o3 then
    some 2
  else
    some 0
set_option maxHeartbeats 4000000 in
set_option maxRecDepth 100000 in
theorem c_slope_check (E : Nat → Prop) (w0 : World) (p0 : Int) (p1 : Int) (p2 : Int) (r : Int) (h : F_slope_check p0 p1 p2 = some r) (S : St0 E [] w0 w0 [] []) :
    Calls Tryd.prog 63 #[iv p0, iv p1, iv p2] w0 (Ret (X := Unit) E [] w0 (fun _ => .int .i64 r) (fun _ => []) (fun _ => [])) := by
  unfold F_slope_check at h
  refine sEnter (args := [iv p0, iv p1, iv p2]) 20 Tryd.func63 rfl rfl (by simp) S (fun a S => ?_)
  refine sSeq (fun K1 hK1 => ?_)
  refine sRegion ?_
  refine sMove (iv 0) S (wN rfl) (.inr rfl) rfl rfl (lb rfl) fun a S => ?_
  refine leafL (leafT (hK1 _ _ ?_))
  refine sSeq (fun K2 hK2 => ?_)
  obtain ⟨t4, h, g5⟩ := bindSome h
  refine sCut (fun a w => ∃ o3, o3 = t4 ∧ St [] E [] w0 20 a w [(19, .bool o3)] [] []) ?_ (fun a w hI => ?_)
  rotate_left
  · obtain ⟨o3, rfl, S⟩ := hI
    have h := g5
    clear g5
    try dsimp only at h
    rcases iteSome h with ⟨hc14, h⟩ | ⟨hc14, h⟩
    · refine sCondT S rfl hc14 ?_
      refine sSeq (fun K15 hK15 => ?_)
      refine sRegion ?_
      refine sMove (iv 2) S (wN rfl) (.inr rfl) rfl rfl (lb rfl) fun a S => ?_
      refine leafL (leafT (hK15 _ _ ?_))
      obtain rfl := Option.some.inj h
      exact wp_ret (rThen (sRet (iv 2) S (rsl1 rfl (rvT (t := 6) (v := iv 2) S rfl)) ⟨(), rfl, S.mem.sel [] [] (by decide) rfl rfl⟩))
    refine sCondF S rfl hc14 ?_
    refine wp_skip (leafT (hK2 _ _ ?_))
    refine sSeq (fun K16 hK16 => ?_)
    refine sRegion ?_
    refine sMove (iv 0) S (wN rfl) (.inr rfl) rfl rfl (lb rfl) fun a S => ?_
    refine leafL (leafT (hK16 _ _ ?_))
    obtain rfl := Option.some.inj h
    exact wp_ret (sRet (iv 0) S (rsl1 rfl (rvT (t := 6) (v := iv 0) S rfl)) ⟨(), rfl, S.mem.sel [] [] (by decide) rfl rfl⟩)
  refine sRegion ?_
  refine sMove (iv p0) S (wN rfl) (.inl rfl) rfl rfl (lb rfl) fun a S => ?_
  obtain ⟨r6, hx7, h⟩ := bindSome h
  have S1 := S.mem
  refine sCallQ (X := Unit) (f := 75) (vs := [iv p0, iv (-1000), iv 1000]) (val := fun _ => .bool r6) S (wN rfl) rfl callee75 rfl (S1.quiet [] rfl) (fun E1 w1 S1 => c_slope_within E1 w1 p0 (-1000) 1000 r6 hx7 S1) rfl (lb rfl) fun _ a w S => ?_
  refine sNot (b := r6) S (wN rfl) rfl rfl rfl (lb rfl) fun a S => ?_
  refine sMove (.bool (!r6)) S (wN rfl) (.inl rfl) rfl rfl (lb rfl) fun a S => ?_
  rcases iteSome h with ⟨hc8, h⟩ | ⟨hc8, h⟩
  · refine sSkip 3 false 10 11 S rfl rfl rfl hc8 rfl (lb rfl) fun a S => ?_
    refine sSkip 3 false 10 12 S rfl rfl rfl hc8 rfl (lb rfl) fun a S => ?_
    refine sSkip 3 false 10 13 S rfl rfl rfl hc8 rfl (lb rfl) fun a S => ?_
    refine sPickT (.bool true) S (wN rfl) rfl rfl hc8 rfl rfl (lb rfl) fun a S => ?_
    refine sMove (.bool true) S (wN rfl) (.inl rfl) rfl rfl (lb rfl) fun a S => ?_
    refine sSkip 8 false 15 16 S rfl rfl rfl rfl rfl (lb rfl) fun a S => ?_
    refine sSkip 8 false 15 17 S rfl rfl rfl rfl rfl (lb rfl) fun a S => ?_
    refine sSkip 8 false 15 18 S rfl rfl rfl rfl rfl (lb rfl) fun a S => ?_
    refine sPickT (.bool true) S (wN rfl) rfl rfl rfl rfl rfl (lb rfl) fun a S => ?_
    exact leafL (leafT (⟨true, Option.some.inj h, S.fix [] [] (by decide) rfl rfl rfl⟩))
  refine sMove (iv p1) S (wG 3 false 10 rfl rfl rfl hc8) (.inl rfl) rfl rfl (lb rfl) fun a S => ?_
  obtain ⟨r9, hx10, h⟩ := bindSome h
  have S1 := S.mem
  refine sCallQ (X := Unit) (f := 75) (vs := [iv p1, iv (-1000), iv 1000]) (val := fun _ => .bool r9) S (wG 3 false 10 rfl rfl rfl hc8) rfl callee75 rfl (S1.quiet [] rfl) (fun E1 w1 S1 => c_slope_within E1 w1 p1 (-1000) 1000 r9 hx10 S1) rfl (lb rfl) fun _ a w S => ?_
  refine sNot (b := r9) S (wG 3 false 10 rfl rfl rfl hc8) rfl rfl rfl (lb rfl) fun a S => ?_
  refine sPickF (.bool (!r9)) S (wN rfl) rfl rfl hc8 rfl rfl (lb rfl) fun a S => ?_
  refine sMove (.bool (!r9)) S (wN rfl) (.inl rfl) rfl rfl (lb rfl) fun a S => ?_
  rcases iteSome h with ⟨hc11, h⟩ | ⟨hc11, h⟩
  · refine sSkip 8 false 15 16 S rfl rfl rfl hc11 rfl (lb rfl) fun a S => ?_
    refine sSkip 8 false 15 17 S rfl rfl rfl hc11 rfl (lb rfl) fun a S => ?_
    refine sSkip 8 false 15 18 S rfl rfl rfl hc11 rfl (lb rfl) fun a S => ?_
    refine sPickT (.bool true) S (wN rfl) rfl rfl hc11 rfl rfl (lb rfl) fun a S => ?_
    exact leafL (leafT (⟨true, Option.some.inj h, S.fix [] [] (by decide) rfl rfl rfl⟩))
  refine sMove (iv p2) S (wG 8 false 15 rfl rfl rfl hc11) (.inl rfl) rfl rfl (lb rfl) fun a S => ?_
  obtain ⟨r12, hx13, h⟩ := bindSome h
  have S1 := S.mem
  refine sCallQ (X := Unit) (f := 75) (vs := [iv p2, iv 1, iv 1000]) (val := fun _ => .bool r12) S (wG 8 false 15 rfl rfl rfl hc11) rfl callee75 rfl (S1.quiet [] rfl) (fun E1 w1 S1 => c_slope_within E1 w1 p2 1 1000 r12 hx13 S1) rfl (lb rfl) fun _ a w S => ?_
  refine sNot (b := r12) S (wG 8 false 15 rfl rfl rfl hc11) rfl rfl rfl (lb rfl) fun a S => ?_
  refine sPickF (.bool (!r12)) S (wN rfl) rfl rfl hc11 rfl rfl (lb rfl) fun a S => ?_
  exact leafL (leafT (⟨!r12, Option.some.inj h, S.fix [] [] (by decide) rfl rfl rfl⟩))

end Go.Proofs.YtmedbnjhgkcndaaDoor
namespace Go.Proofs.YtmedbnjhgkcndaaDoor
open Go.RowKit
set_option linter.unusedVariables false

noncomputable def F_slope_at (p0 : Int) (p1 : Int) (p2 : Int) (p3 : Int) : Option Int :=
  Option.bind (quoI (w64 ((w64 (2 * (w64 ((w64 ((w64 (p0 + 1000)) * (w64 (p2 - p3)))) + (w64 ((w64 (p1 + 1000)) * p3)))))) + p2)) (w64 (2 * p2))) fun z4 =>
  some (w64 (z4 - 1000))
set_option maxHeartbeats 4000000 in
set_option maxRecDepth 100000 in
theorem c_slope_at (E : Nat → Prop) (w0 : World) (p0 : Int) (p1 : Int) (p2 : Int) (p3 : Int) (r : Int) (h : F_slope_at p0 p1 p2 p3 = some r) (S : St0 E [] w0 w0 [] []) :
    Calls Tryd.prog 66 #[iv p0, iv p1, iv p2, iv p3] w0 (Ret (X := Unit) E [] w0 (fun _ => .int .i64 r) (fun _ => []) (fun _ => [])) := by
  unfold F_slope_at at h
  refine sEnter (args := [iv p0, iv p1, iv p2, iv p3]) 31 Tryd.func66 rfl rfl (by simp) S (fun a S => ?_)
  refine sSeq (fun K1 hK1 => ?_)
  refine sRegion ?_
  refine sMove (iv 0) S (wN rfl) (.inr rfl) rfl rfl (lb rfl) fun a S => ?_
  refine leafL (leafT (hK1 _ _ ?_))
  refine sSeq (fun K2 hK2 => ?_)
  refine sRegion ?_
  refine sMove (iv p0) S (wN rfl) (.inl rfl) rfl rfl (lb rfl) fun a S => ?_
  refine sBin (iv (w64 (p0 + 1000))) S (wN rfl) rfl rfl rfl (bAdd _ _ _ _ p0 1000) rfl (lb rfl) fun a S => ?_
  refine sMove (iv p1) S (wN rfl) (.inl rfl) rfl rfl (lb rfl) fun a S => ?_
  refine sBin (iv (w64 (p1 + 1000))) S (wN rfl) rfl rfl rfl (bAdd _ _ _ _ p1 1000) rfl (lb rfl) fun a S => ?_
  refine sMove (iv (w64 (p0 + 1000))) S (wN rfl) (.inr rfl) rfl rfl (lb rfl) fun a S => ?_
  refine sMove (iv (w64 (p1 + 1000))) S (wN rfl) (.inr rfl) rfl rfl (lb rfl) fun a S => ?_
  refine leafL (leafT (hK2 _ _ ?_))
  refine sSeq (fun K3 hK3 => ?_)
  refine sRegion ?_
  refine sMove (iv (w64 (p0 + 1000))) S (wN rfl) (.inl rfl) rfl rfl (lb rfl) fun a S => ?_
  refine sMove (iv p2) S (wN rfl) (.inl rfl) rfl rfl (lb rfl) fun a S => ?_
  refine sMove (iv p3) S (wN rfl) (.inl rfl) rfl rfl (lb rfl) fun a S => ?_
  refine sBin (iv (w64 (p2 - p3))) S (wN rfl) rfl rfl rfl (bSub _ _ _ _ p2 p3) rfl (lb rfl) fun a S => ?_
  refine sBin (iv (w64 ((w64 (p0 + 1000)) * (w64 (p2 - p3))))) S (wN rfl) rfl rfl rfl (bMul _ _ _ _ (w64 (p0 + 1000)) (w64 (p2 - p3))) rfl (lb rfl) fun a S => ?_
  refine sMove (iv (w64 (p1 + 1000))) S (wN rfl) (.inl rfl) rfl rfl (lb rfl) fun a S => ?_
  refine sMove (iv p3) S (wN rfl) (.inl rfl) rfl rfl (lb rfl) fun a S => ?_
  refine sBin (iv (w64 ((w64 (p1 + 1000)) * p3))) S (wN rfl) rfl rfl rfl (bMul _ _ _ _ (w64 (p1 + 1000)) p3) rfl (lb rfl) fun a S => ?_
  refine sBin (iv (w64 ((w64 ((w64 (p0 + 1000)) * (w64 (p2 - p3)))) + (w64 ((w64 (p1 + 1000)) * p3))))) S (wN rfl) rfl rfl rfl (bAdd _ _ _ _ (w64 ((w64 (p0 + 1000)) * (w64 (p2 - p3)))) (w64 ((w64 (p1 + 1000)) * p3))) rfl (lb rfl) fun a S => ?_
  refine sBin (iv (w64 (2 * (w64 ((w64 ((w64 (p0 + 1000)) * (w64 (p2 - p3)))) + (w64 ((w64 (p1 + 1000)) * p3))))))) S (wN rfl) rfl rfl rfl (bMul _ _ _ _ 2 (w64 ((w64 ((w64 (p0 + 1000)) * (w64 (p2 - p3)))) + (w64 ((w64 (p1 + 1000)) * p3))))) rfl (lb rfl) fun a S => ?_
  refine sMove (iv p2) S (wN rfl) (.inl rfl) rfl rfl (lb rfl) fun a S => ?_
  refine sBin (iv (w64 ((w64 (2 * (w64 ((w64 ((w64 (p0 + 1000)) * (w64 (p2 - p3)))) + (w64 ((w64 (p1 + 1000)) * p3)))))) + p2))) S (wN rfl) rfl rfl rfl (bAdd _ _ _ _ (w64 (2 * (w64 ((w64 ((w64 (p0 + 1000)) * (w64 (p2 - p3)))) + (w64 ((w64 (p1 + 1000)) * p3)))))) p2) rfl (lb rfl) fun a S => ?_
  refine sMove (iv p2) S (wN rfl) (.inl rfl) rfl rfl (lb rfl) fun a S => ?_
  refine sBin (iv (w64 (2 * p2))) S (wN rfl) rfl rfl rfl (bMul _ _ _ _ 2 p2) rfl (lb rfl) fun a S => ?_
  obtain ⟨z4, hx5, h⟩ := bindSome h
  refine sBin (iv z4) S (wN rfl) rfl rfl rfl (bQuo _ _ _ _ (x := w64 ((w64 (2 * (w64 ((w64 ((w64 (p0 + 1000)) * (w64 (p2 - p3)))) + (w64 ((w64 (p1 + 1000)) * p3)))))) + p2)) (y := w64 (2 * p2)) hx5) rfl (lb rfl) fun a S => ?_
  refine sBin (iv (w64 (z4 - 1000))) S (wN rfl) rfl rfl rfl (bSub _ _ _ _ z4 1000) rfl (lb rfl) fun a S => ?_
  refine sMove (iv (w64 (z4 - 1000))) S (wN rfl) (.inr rfl) rfl rfl (lb rfl) fun a S => ?_
  refine leafL (leafT (hK3 _ _ ?_))
  obtain rfl := Option.some.inj h
  exact wp_ret (sRet (iv (w64 (z4 - 1000))) S (rsl1 rfl (rvT (t := 8) (v := iv (w64 (z4 - 1000))) S rfl)) ⟨(), rfl, S.mem.sel [] [] (by decide) rfl rfl⟩)

end Go.Proofs.YtmedbnjhgkcndaaDoor
namespace Go.Proofs.YtmedbnjhgkcndaaDoor
open Go.RowKit
set_option linter.unusedVariables false

noncomputable def F_slope_Line_1_s0 (p0 : Int) (p1 : Int) (p2 : Int) (p3 : Int) : Option Int :=
  Option.bind (F_slope_at p1 p2 p3 p0) fun r6 =>
  some r6
set_option maxHeartbeats 4000000 in
set_option maxRecDepth 100000 in
theorem c_slope_Line_1_s0 (E : Nat → Prop) (w0 : World) (p0 : Int) (p1 : Int) (v1 : Value) (p2 : Int) (v2 : Value) (p3 : Int) (v3 : Value) (r : Int) (h : F_slope_Line_1_s0 p0 p1 p2 p3 = some r) (S : St0 E [] w0 w0 [] [fPtr (rI .i64) (v1) p1, fPtr (rI .i64) (v2) p2, fPtr (rI .i64) (v3) p3]) :
    Calls Tryd.prog 65 #[iv p0, v1, v2, v3] w0 (Ret (X := Unit) E [] w0 (fun _ => .int .i64 r) (fun _ => []) (fun _ => [])) := by
  unfold F_slope_Line_1_s0 at h
  refine sEnter (args := [iv p0, v1, v2, v3]) 11 Tryd.func65 rfl rfl (by simp) S (fun a S => ?_)
  refine sSeq (fun K1 hK1 => ?_)
  refine sRegion ?_
  refine sMove (iv 0) S (wN rfl) (.inr rfl) rfl rfl (lb rfl) fun a S => ?_
  refine leafL (leafT (hK1 _ _ ?_))
  refine sSeq (fun K2 hK2 => ?_)
  refine sRegion ?_
  obtain ⟨u3, S⟩ := pLoad (r := (rI .i64)) (q := v1) (x := p1) 0 S rfl
  obtain rfl : u3 = iv p1 := S.mem.know (i := 1) (e := fRep (rI .i64) (u3) p1) rfl
  refine sLoadV1 (vq := v1) 0 (iv p1) S (wN rfl) rfl rfl rfl rfl rfl (lb rfl) fun a S => ?_
  obtain ⟨u4, S⟩ := pLoad (r := (rI .i64)) (q := v2) (x := p2) 3 S rfl
  obtain rfl : u4 = iv p2 := S.mem.know (i := 1) (e := fRep (rI .i64) (u4) p2) rfl
  refine sLoadV1 (vq := v2) 0 (iv p2) S (wN rfl) rfl rfl rfl rfl rfl (lb rfl) fun a S => ?_
  obtain ⟨u5, S⟩ := pLoad (r := (rI .i64)) (q := v3) (x := p3) 6 S rfl
  obtain rfl : u5 = iv p3 := S.mem.know (i := 1) (e := fRep (rI .i64) (u5) p3) rfl
  refine sLoadV1 (vq := v3) 0 (iv p3) S (wN rfl) rfl rfl rfl rfl rfl (lb rfl) fun a S => ?_
  refine sMove (iv p0) S (wN rfl) (.inl rfl) rfl rfl (lb rfl) fun a S => ?_
  obtain ⟨r6, hx7, h⟩ := bindSome h
  have S1 := S.mem
  refine sCallQ (X := Unit) (f := 66) (vs := [iv p1, iv p2, iv p3, iv p0]) (val := fun _ => iv r6) S (wN rfl) rfl callee66 rfl (S1.quiet [] rfl) (fun E1 w1 S1 => c_slope_at E1 w1 p1 p2 p3 p0 r6 hx7 S1) rfl (lb rfl) fun _ a w S => ?_
  refine sMove (iv r6) S (wN rfl) (.inr rfl) rfl rfl (lb rfl) fun a S => ?_
  refine leafL (leafT (hK2 _ _ ?_))
  obtain rfl := Option.some.inj h
  exact wp_ret (sRet (iv r6) S (rsl1 rfl (rvT (t := 5) (v := iv r6) S rfl)) ⟨(), rfl, S.mem.sel [] [] (by decide) rfl rfl⟩)

end Go.Proofs.YtmedbnjhgkcndaaDoor
namespace Go.Proofs.YtmedbnjhgkcndaaDoor
open Go.RowKit
set_option linter.unusedVariables false

noncomputable def slope_list_int__s0_l1 (p0 : Int) (p1 : Int) (p2 : Int) (p3 : Int) : (List Int × Int) → Option ((List Int × Int) ⊕ List Int) := fun s0 => match s0 with
  | (s13, s16) =>
    if decide (s16 < p0) then
      Option.bind (F_slope_Line_1_s0 s16 p1 p2 p3) fun r28 =>
      Option.bind (idxO s13 s16) fun x30 =>
      Option.bind (setO s13 s16 r28) fun l35 =>
      some (.inl (l35, w64 (s16 + 1)))
    else
      some (.inr s13)
noncomputable def F_slope_list_int__s0 (p0 : Int) (p1 : Int) (p2 : Int) (p3 : Int) : Option (List Int) :=
  Option.bind (makeO p0 (0 : Int)) fun m5 =>
  Option.bind (α := List Int) (
    Option.bind (whileO (slope_list_int__s0_l1 p0 p1 p2 p3) (m5, 0)) fun e20 =>
      some e20) fun o7 =>
  some o7
def c_slope_list_int__s0_val (r : (List Int)) (x : Value) : Value := x
def c_slope_list_int__s0_D (r : (List Int)) (x : Value) : List Fact := [fRep (rL (rI .i64)) x r]
set_option maxHeartbeats 4000000 in
set_option maxRecDepth 100000 in
theorem c_slope_list_int__s0 (E : Nat → Prop) (w0 : World) (p0 : Int) (p1 : Int) (v1 : Value) (p2 : Int) (v2 : Value) (p3 : Int) (v3 : Value) (r : (List Int)) (h : F_slope_list_int__s0 p0 p1 p2 p3 = some r) (S : St0 E [] w0 w0 [] [fPtr (rI .i64) (v1) p1, fPtr (rI .i64) (v2) p2, fPtr (rI .i64) (v3) p3]) :
    Calls Tryd.prog 64 #[iv p0, .func (.func 65) #[] #[v1, v2, v3]] w0 (Ret (X := Value) E [] w0 (c_slope_list_int__s0_val r) (fun _ => []) (c_slope_list_int__s0_D r)) := by
  unfold F_slope_list_int__s0 at h
  refine sEnter (args := [iv p0, .func (.func 65) #[] #[v1, v2, v3]]) 21 Tryd.func64 rfl rfl (by simp) S (fun a S => ?_)
  refine sSeq (fun K1 hK1 => ?_)
  refine sRegion ?_
  refine sMove (.slice none 0 0) S (wN rfl) (.inr rfl) rfl rfl (lb rfl) fun a S => ?_
  refine leafL (leafT (hK1 _ _ ?_))
  refine sSeq (fun K2 hK2 => ?_)
  refine sRegion ?_
  refine sMove (iv p0) S (wN rfl) (.inl rfl) rfl rfl (lb rfl) fun a S => ?_
  obtain ⟨m5, hx6, h⟩ := bindSome h
  refine sMake (r := (rI .i64)) (m := p0) (xs := m5) (iv 0) (0 : Int) 8 S (wN rfl) rfl Tryd.underlying28 rfl rfl (by decide) (fun _ _ => rfl) rfl rfl hx6 rfl (lb rfl) fun a w ad3 cp4 S => ?_
  refine sMove (.slice ad3 m5.length cp4) S (wN rfl) (.inr rfl) rfl rfl (lb rfl) fun a S => ?_
  refine leafL (leafT (hK2 _ _ ?_))
  obtain ⟨t10, h, g11⟩ := bindSome h
  refine sCut (fun a w => ∃ o7, o7 = t10 ∧ ∃ ad8, ∃ cp9, St [] E [] w0 21 a w [(5, .slice ad8 o7.length cp9)] [eRow (rI .i64) 3 (.slice ad8 o7.length cp9) o7] []) ?_ (fun a w hI => ?_)
  rotate_left
  · obtain ⟨o7, rfl, ad8, cp9, S⟩ := hI
    have h := g11
    clear g11
    try dsimp only at h
    refine sSeq (fun K37 hK37 => ?_)
    refine sRegion ?_
    refine sMove (.slice ad8 o7.length cp9) S (wN rfl) (.inl rfl) rfl rfl (lb rfl) fun a S => ?_
    refine sMove (.slice ad8 o7.length cp9) S (wN rfl) (.inr rfl) rfl rfl (lb rfl) fun a S => ?_
    refine leafL (leafT (hK37 _ _ ?_))
    obtain rfl := Option.some.inj h
    have S := S.shutR (r := (rI .i64)) (T := 3) (v := .slice ad8 o7.length cp9) (xs := o7) 0 rfl
    exact wp_ret (sRet (.slice ad8 o7.length cp9) S (rsl1 rfl (rvT (t := 4) (v := .slice ad8 o7.length cp9) S rfl)) ⟨(.slice ad8 o7.length cp9), rfl, S.mem.sel [] [0] (by decide) rfl rfl⟩)
  refine sSeq (fun K12 hK12 => ?_)
  refine sRegion ?_
  refine sMove (iv p0) S (wN rfl) (.inl rfl) rfl rfl (lb rfl) fun a S => ?_
  refine sMove (iv 0) S (wN rfl) (.inl rfl) rfl rfl (lb rfl) fun a S => ?_
  refine leafL (leafT (hK12 _ _ ?_))
  refine wp_block ?_
  obtain ⟨t19, hl, g18⟩ := bindSome h
  refine sLoop hl (fun s0 a w => match s0 with | (s13, s16) => ∃ ad14, ∃ cp15, St [] E [] w0 21 a w [(1, .func (.func 65) #[] #[v1, v2, v3]), (5, .slice ad14 s13.length cp15), (9, iv p0), (10, iv s16)] [eRow (rI .i64) 3 (.slice ad14 s13.length cp15) s13] [fPtr (rI .i64) (v1) p1, fPtr (rI .i64) (v2) p2, fPtr (rI .i64) (v3) p3]) ⟨ad3, cp4, S.fix [0] [0, 1, 2] (by decide) rfl rfl rfl⟩ ?_
  clear hl h
  intro s0 a w c0 hI h hu17
  obtain ⟨s13, s16⟩ := s0
  unfold slope_list_int__s0_l1 at h
  dsimp only at h hI
  obtain ⟨ad14, cp15, S⟩ := hI
  refine sSeq (fun K23 hK23 => ?_)
  refine sRegion ?_
  refine sBin (.bool (decide (s16 < p0))) S (wN rfl) rfl rfl rfl (bLt _ _ _ _ .i64 s16 p0) rfl (lb rfl) fun a S => ?_
  refine leafL (leafT (hK23 _ _ ?_))
  refine sSeq (fun K24 hK24 => ?_)
  rcases iteSome h with ⟨hc25, h⟩ | ⟨hc25, h⟩
  rotate_left
  · refine sCondF S rfl hc25 ?_
    obtain rfl := Option.some.inj h
    obtain rfl := hu17 _ rfl
    have h := g18
    clear g18
    try dsimp only at h
    exact wp_exit (xThen (xThen (xHit (leafT (⟨s13, Option.some.inj h, ad14, cp15, S.fix [0] [] (by decide) rfl rfl rfl⟩)))))
  refine sCondT S rfl hc25 ?_
  refine wp_skip (leafT (hK24 _ _ ?_))
  refine sSeq (fun K26 hK26 => ?_)
  refine wp_block ?_
  refine sSeq (fun K27 hK27 => ?_)
  refine sRegion ?_
  refine sMove (iv s16) S (wN rfl) (.inl rfl) rfl rfl (lb rfl) fun a S => ?_
  refine sMove (iv s16) S (wN rfl) (.inr rfl) rfl rfl (lb rfl) fun a S => ?_
  refine leafL (leafT (hK27 _ _ ?_))
  refine sRegion ?_
  refine sMove (.slice ad14 s13.length cp15) S (wN rfl) (.inl rfl) rfl rfl (lb rfl) fun a S => ?_
  refine sMove (iv s16) S (wN rfl) (.inl rfl) rfl rfl (lb rfl) fun a S => ?_
  refine sMove (.func (.func 65) #[] #[v1, v2, v3]) S (wN rfl) (.inl rfl) rfl rfl (lb rfl) fun a S => ?_
  refine sMove (iv s16) S (wN rfl) (.inl rfl) rfl rfl (lb rfl) fun a S => ?_
  obtain ⟨r28, hx29, h⟩ := bindSome h
  have S1 := S.mem
  refine sCallVQ (X := Unit) (g := 65) (vs := [iv s16]) (caps := [v1, v2, v3]) (val := fun _ => iv r28) S (wN rfl) rfl rfl callee65 rfl (S1.quiet [0, 1, 2] rfl) (fun E1 w1 S1 => c_slope_Line_1_s0 E1 w1 s16 p1 v1 p2 v2 p3 v3 r28 hx29 S1) rfl (lb rfl) fun _ a w S => ?_
  obtain ⟨x30, hx31, h⟩ := bindSome h
  obtain ⟨q32, hq33, hp34⟩ := pIdxR (P := Tryd.prog) (r := (rI .i64)) (T := 3) (v := .slice ad14 s13.length cp15) (xs := s13) (j := s16) 28 3 0 S Tryd.underlying28 rfl rfl hx31
  refine sIdxV (v := .slice ad14 s13.length cp15) (k := .i64) (j := s16) S (wN rfl) rfl rfl rfl hq33 rfl (lb rfl) fun a S => ?_
  obtain ⟨l35, hx36, h⟩ := bindSome h
  refine sStoreR (r := (rI .i64)) (T := 3) (xs := s13) (ys := l35) (y := r28) (v := .slice ad14 s13.length cp15) (vq := q32) (u := iv r28) (j := s16) 0 S hp34 (wN rfl) rfl rfl rfl rfl rfl hx36 rfl rfl fun a w S => ?_
  rw [setO_v hx36 ad14 cp15] at S
  refine leafL (leafB (leafT (hK26 _ _ ?_)))
  refine sRegion ?_
  refine sBin (iv (w64 (s16 + 1))) S (wN rfl) rfl rfl rfl (bAdd _ _ _ _ s16 1) rfl (lb rfl) fun a S => ?_
  refine sMove (iv (w64 (s16 + 1))) S (wN rfl) (.inl rfl) rfl rfl (lb rfl) fun a S => ?_
  exact leafL (leafT (⟨(l35, w64 (s16 + 1)), (Option.some.inj h).symm, ⟨ad14, cp15, S.fix [0] [0, 1, 2] (by decide) rfl rfl rfl⟩⟩))

end Go.Proofs.YtmedbnjhgkcndaaDoor
namespace Go.Proofs.YtmedbnjhgkcndaaDoor
open Go.RowKit
set_option linter.unusedVariables false

noncomputable def F_slope_Line (p0 : Int) (p1 : Int) (p2 : Int) : Option ((List Int) × Int) :=
  Option.bind (F_slope_check p0 p1 p2) fun r7 =>
  if r7 != 0 then
    some (([] : (List Int)), r7)
  else
    Option.bind (F_slope_list_int__s0 (w64 (p2 + 1)) p0 p1 p2) fun r13 =>
    some (r13, 0)
def c_slope_Line_val (r : ((List Int) × Int)) (x : Value) : Value := .tuple #[x, .int .i64 r.2]
def c_slope_Line_D (r : ((List Int) × Int)) (x : Value) : List Fact := [fRep (rL (rI .i64)) x r.1]
set_option maxHeartbeats 4000000 in
set_option maxRecDepth 100000 in
theorem c_slope_Line (E : Nat → Prop) (w0 : World) (p0 : Int) (p1 : Int) (p2 : Int) (r : ((List Int) × Int)) (h : F_slope_Line p0 p1 p2 = some r) (S : St0 E [] w0 w0 [] []) :
    Calls Tryd.prog 50 #[iv p0, iv p1, iv p2] w0 (Ret (X := Value) E [] w0 (c_slope_Line_val r) (fun _ => []) (c_slope_Line_D r)) := by
  unfold F_slope_Line at h
  refine sEnter (args := [iv p0, iv p1, iv p2]) 20 Tryd.func50 rfl rfl (by simp) S (fun a S => ?_)
  refine sSeq (fun K1 hK1 => ?_)
  refine sRegion ?_
  refine sBox (v := iv p0) S (wN rfl) rfl rfl [iv p0] rfl rfl (lb rfl) fun a b2 w S => ?_
  refine sBox (v := iv p1) S (wN rfl) rfl rfl [iv p1] rfl rfl (lb rfl) fun a b3 w S => ?_
  refine sBox (v := iv p2) S (wN rfl) rfl rfl [iv p2] rfl rfl (lb rfl) fun a b4 w S => ?_
  refine sMove (.slice none 0 0) S (wN rfl) (.inr rfl) rfl rfl (lb rfl) fun a S => ?_
  refine sMove (iv 0) S (wN rfl) (.inr rfl) rfl rfl (lb rfl) fun a S => ?_
  refine leafL (leafT (hK1 _ _ ?_))
  refine sSeq (fun K5 hK5 => ?_)
  refine sSeq (fun K6 hK6 => ?_)
  refine sRegion ?_
  refine sLoad1 (p := b2) (off := 0) (T := 3) (vs := [iv p0]) 2 (iv p0) S (wN rfl) rfl rfl rfl rfl rfl rfl (lb rfl) fun a S => ?_
  refine sLoad1 (p := b3) (off := 0) (T := 3) (vs := [iv p1]) 1 (iv p1) S (wN rfl) rfl rfl rfl rfl rfl rfl (lb rfl) fun a S => ?_
  refine sLoad1 (p := b4) (off := 0) (T := 3) (vs := [iv p2]) 0 (iv p2) S (wN rfl) rfl rfl rfl rfl rfl rfl (lb rfl) fun a S => ?_
  obtain ⟨r7, hx8, h⟩ := bindSome h
  have S1 := S.mem
  refine sCallQ (X := Unit) (f := 63) (vs := [iv p0, iv p1, iv p2]) (val := fun _ => iv r7) S (wN rfl) rfl callee63 rfl (S1.quiet [] rfl) (fun E1 w1 S1 => c_slope_check E1 w1 p0 p1 p2 r7 hx8 S1) rfl (lb rfl) fun _ a w S => ?_
  refine sMove (iv r7) S (wN rfl) (.inr rfl) rfl rfl (lb rfl) fun a S => ?_
  refine leafL (leafT (hK6 _ _ ?_))
  refine sSeq (fun K9 hK9 => ?_)
  refine sRegion ?_
  refine sMove (iv r7) S (wN rfl) (.inl rfl) rfl rfl (lb rfl) fun a S => ?_
  refine sBin (.bool (r7 != 0)) S (wN rfl) rfl rfl rfl (bNe _ _ _ _ .i64 r7 0) rfl (lb rfl) fun a S => ?_
  refine leafL (leafT (hK9 _ _ ?_))
  rcases iteSome h with ⟨hc10, h⟩ | ⟨hc10, h⟩
  · refine sCondT S rfl hc10 ?_
    refine sSeq (fun K11 hK11 => ?_)
    refine sRegion ?_
    refine sMove (iv r7) S (wN rfl) (.inl rfl) rfl rfl (lb rfl) fun a S => ?_
    refine sMove (.slice none 0 0) S (wN rfl) (.inr rfl) rfl rfl (lb rfl) fun a S => ?_
    refine sMove (iv r7) S (wN rfl) (.inr rfl) rfl rfl (lb rfl) fun a S => ?_
    refine leafL (leafT (hK11 _ _ ?_))
    obtain rfl := Option.some.inj h
    have S := S.learn (fRep (rL (rI .i64)) (.slice none 0 0) ([] : (List Int))) (rL_nil _ _ _)
    exact wp_ret (rThen (sRet (.tuple #[.slice none 0 0, iv r7]) S (rsl2 rfl (rvT (t := 6) (v := .slice none 0 0) S rfl) (rvT (t := 7) (v := iv r7) S rfl)) ⟨(.slice none 0 0), rfl, S.mem.sel [] [0] (by decide) rfl rfl⟩))
  refine sCondF S rfl hc10 ?_
  refine wp_skip (leafT (hK5 _ _ ?_))
  refine sSeq (fun K12 hK12 => ?_)
  refine sRegion ?_
  refine sLoad1 (p := b4) (off := 0) (T := 3) (vs := [iv p2]) 0 (iv p2) S (wN rfl) rfl rfl rfl rfl rfl rfl (lb rfl) fun a S => ?_
  refine sBin (iv (w64 (p2 + 1))) S (wN rfl) rfl rfl rfl (bAdd _ _ _ _ p2 1) rfl (lb rfl) fun a S => ?_
  refine sFunc (g := 65) (vs := [.pointer (some ⟨b2, 0, none⟩), .pointer (some ⟨b3, 0, none⟩), .pointer (some ⟨b4, 0, none⟩)]) S (wN rfl) rfl rfl rfl (lb rfl) fun a S => ?_
  obtain ⟨r13, hx14, h⟩ := bindSome h
  have S := S.shutB (r := (rI .i64)) (T := 3) (b := b2) (cs := [iv p0]) 2 (iv p0) p0 rfl rfl (rfl)
  have S := S.shutB (r := (rI .i64)) (T := 3) (b := b3) (cs := [iv p1]) 1 (iv p1) p1 rfl rfl (rfl)
  have S := S.shutB (r := (rI .i64)) (T := 3) (b := b4) (cs := [iv p2]) 0 (iv p2) p2 rfl rfl (rfl)
  refine sCall (X := Value) (f := 64) (vs := [iv (w64 (p2 + 1)), .func (.func 65) #[] #[.pointer (some ⟨b2, 0, none⟩), .pointer (some ⟨b3, 0, none⟩), .pointer (some ⟨b4, 0, none⟩)]]) (val := c_slope_list_int__s0_val r13) (B' := fun _ => []) (D' := c_slope_list_int__s0_D r13) [] [] [fPtr (rI .i64) (.pointer (some ⟨b2, 0, none⟩)) p0, fPtr (rI .i64) (.pointer (some ⟨b3, 0, none⟩)) p1, fPtr (rI .i64) (.pointer (some ⟨b4, 0, none⟩)) p2] [] [2, 1, 0] S (wN rfl) rfl callee64 rfl (by decide) rfl rfl (fun E1 w1 S1 => c_slope_list_int__s0 E1 w1 (w64 (p2 + 1)) p0 (.pointer (some ⟨b2, 0, none⟩)) p1 (.pointer (some ⟨b3, 0, none⟩)) p2 (.pointer (some ⟨b4, 0, none⟩)) r13 hx14 S1) rfl (lb rfl) fun u15 a w S => ?_
  obtain ⟨ad16, cp17, _, rfl, _⟩ := S.mem.know (i := 0) (e := fRep (rL (rI .i64)) (u15) r13) rfl
  refine sMove (.slice ad16 r13.length cp17) S (wN rfl) (.inr rfl) rfl rfl (lb rfl) fun a S => ?_
  refine sMove (iv 0) S (wN rfl) (.inr rfl) rfl rfl (lb rfl) fun a S => ?_
  refine leafL (leafT (hK12 _ _ ?_))
  obtain rfl := Option.some.inj h
  exact wp_ret (sRet (.tuple #[.slice ad16 r13.length cp17, iv 0]) S (rsl2 rfl (rvT (t := 6) (v := .slice ad16 r13.length cp17) S rfl) (rvT (t := 7) (v := iv 0) S rfl)) ⟨(.slice ad16 r13.length cp17), rfl, S.mem.sel [] [0] (by decide) rfl rfl⟩)

end Go.Proofs.YtmedbnjhgkcndaaDoor
namespace Go.Proofs.YtmedbnjhgkcndaaDoor
open Go.RowKit
set_option linter.unusedVariables false

def anc_piece_columns_0 : List (List Nat) := [[], [], [0, 1], [0, 1, 2], [0, 1, 2, 3], [], [5], [], [7], [], [], [9, 10], [9, 10, 11], [9, 10, 11, 12], [7, 8, 9, 10, 11, 12, 13], [0, 1, 2, 3, 4, 5, 6, 7, 8, 9, 10, 11, 12, 13, 14], [0, 1, 2, 3, 4, 5, 6, 7, 8, 9, 10, 11, 12, 13, 14, 15], [0, 1, 2, 3, 4, 5, 6, 7, 8, 9, 10, 11, 12, 13, 14, 15, 16], [0, 1, 2, 3, 4, 5, 6, 7, 8, 9, 10, 11, 12, 13, 14, 15, 16], [0, 1, 2, 3, 4, 5, 6, 7, 8, 9, 10, 11, 12, 13, 14, 15, 16, 17], [0, 1, 2, 3, 4, 5, 6, 7, 8, 9, 10, 11, 12, 13, 14, 15, 16, 17, 18, 19]]
noncomputable def piece_columns_l1 (y20 : List api_Point) (p0 : (List api_Point)) : (List Int × Int) → Option ((List Int × Int) ⊕ List Int) := fun s0 => match s0 with
  | (s24, s27) =>
    if decide (s27 < (y20.length : Int)) then
      Option.bind (idxO y20 s27) fun x39 =>
      Option.bind (idxO p0 s27) fun x46 =>
      Option.bind (F_slope_Line x46.X x39.X (w64 (x39.Y - x46.Y))) fun r58 =>
      Option.bind (sliceO r58.1 1 (r58.1.length : Int)) fun y76 =>
      Option.bind (appO s24 y76) fun l80 =>
      some (.inl (l80, w64 (s27 + 1)))
    else
      some (.inr s24)
noncomputable def F_piece_columns (p0 : (List api_Point)) : Option (List Int) :=
  Option.bind (idxO p0 0) fun x5 =>
  Option.bind (α := List Int) (
    Option.bind (sliceO p0 1 (p0.length : Int)) fun y20 =>
    Option.bind (whileO (piece_columns_l1 y20 p0) (([x5.X] : List Int), 0)) fun e31 =>
      some e31) fun o14 =>
  some o14
def c_piece_columns_val (r : (List Int)) (x : Value) : Value := x
def c_piece_columns_D (r : (List Int)) (x : Value) : List Fact := [fRep (rL (rI .i64)) x r]
set_option maxHeartbeats 4000000 in
set_option maxRecDepth 100000 in
theorem c_piece_columns (E : Nat → Prop) (w0 : World) (p0 : (List api_Point)) (v0 : Value) (r : (List Int)) (h : F_piece_columns p0 = some r) (S : St0 E [] w0 w0 [] [fRep (rL r_api_Point) (v0) p0]) :
    Calls Tryd.prog 36 #[v0] w0 (Ret (X := Value) E [] w0 (c_piece_columns_val r) (fun _ => []) (c_piece_columns_D r)) := by
  unfold F_piece_columns at h
  obtain ⟨ad1, cp2, _, rfl, _⟩ := S.know (i := 0) (e := fRep (rL r_api_Point) (v0) p0) rfl
  refine sEnter (args := [.slice ad1 p0.length cp2]) 46 Tryd.func36 rfl rfl (by simp) S (fun a S => ?_)
  refine sSeq (fun K3 hK3 => ?_)
  refine sRegion ?_
  refine sMove (.slice none 0 0) S (wN rfl) (.inr rfl) rfl rfl (lb rfl) fun a S => ?_
  refine leafL (leafT (hK3 _ _ ?_))
  refine sSeq (fun K4 hK4 => ?_)
  refine sRegion ?_
  refine sMove (.slice ad1 p0.length cp2) S (wN rfl) (.inl rfl) rfl rfl (lb rfl) fun a S => ?_
  obtain ⟨x5, hx6, h⟩ := bindSome h
  obtain ⟨q7, hq8, S⟩ := pIdx (P := Tryd.prog) (r := r_api_Point) (v := .slice ad1 p0.length cp2) (xs := p0) (j := 0) 22 35 0 S Tryd.underlying22 rfl rfl hx6
  refine sIdxV (v := .slice ad1 p0.length cp2) (k := .i64) (j := 0) S (wN rfl) rfl rfl rfl hq8 rfl (lb rfl) fun a S => ?_
  obtain ⟨q9, hq10, S⟩ := pFld (P := Tryd.prog) (r := r_api_Point) (s2 := (rI .i64)) (g := (·.X)) (q := q7) (z := x5) 35 0 0 0 S rfl rfl comp_api_Point_X
  refine sFldV (q := q7) S (wN rfl) rfl rfl hq10 rfl (lb rfl) fun a S => ?_
  obtain ⟨u11, S⟩ := pLoad (r := (rI .i64)) (q := q9) (x := x5.X) 0 S rfl
  obtain rfl : u11 = iv x5.X := S.mem.know (i := 1) (e := fRep (rI .i64) (u11) x5.X) rfl
  refine sLoadV1 (vq := q9) 0 (iv x5.X) S (wN rfl) rfl rfl rfl rfl rfl (lb rfl) fun a S => ?_
  refine sLit (r := (rI .i64)) (T := 3) (xs := ([x5.X] : List Int)) [(0, iv x5.X)] 1 [iv x5.X] [iv x5.X] (iv 0) 8 S (wN rfl) rfl rfl Tryd.underlying28 rfl (by decide) (by decide) (by kernel_rfl) rfl (fun E1 w1 hE => All.cons rfl (All.nil _ _ _)) rfl rfl (lb rfl) fun a w ad12 cp13 S => ?_
  refine sMove (.slice ad12 ([x5.X] : List Int).length cp13) S (wN rfl) (.inr rfl) rfl rfl (lb rfl) fun a S => ?_
  refine leafL (leafT (hK4 _ _ ?_))
  obtain ⟨t17, h, g18⟩ := bindSome h
  refine sCut (fun a w => ∃ o14, o14 = t17 ∧ ∃ ad15, ∃ cp16, St [] E [] w0 46 a w [(3, .slice ad15 o14.length cp16)] [eRow (rI .i64) 3 (.slice ad15 o14.length cp16) o14] []) ?_ (fun a w hI => ?_)
  rotate_left
  · obtain ⟨o14, rfl, ad15, cp16, S⟩ := hI
    have h := g18
    clear g18
    try dsimp only at h
    refine sSeq (fun K84 hK84 => ?_)
    refine sRegion ?_
    refine sMove (.slice ad15 o14.length cp16) S (wN rfl) (.inl rfl) rfl rfl (lb rfl) fun a S => ?_
    refine sMove (.slice ad15 o14.length cp16) S (wN rfl) (.inr rfl) rfl rfl (lb rfl) fun a S => ?_
    refine leafL (leafT (hK84 _ _ ?_))
    obtain rfl := Option.some.inj h
    have S := S.shutR (r := (rI .i64)) (T := 3) (v := .slice ad15 o14.length cp16) (xs := o14) 0 rfl
    exact wp_ret (sRet (.slice ad15 o14.length cp16) S (rsl1 rfl (rvT (t := 2) (v := .slice ad15 o14.length cp16) S rfl)) ⟨(.slice ad15 o14.length cp16), rfl, S.mem.sel [] [0] (by decide) rfl rfl⟩)
  refine sSeq (fun K19 hK19 => ?_)
  refine sRegion ?_
  refine sMove (.slice ad1 p0.length cp2) S (wN rfl) (.inl rfl) rfl rfl (lb rfl) fun a S => ?_
  obtain ⟨y20, hx21, h⟩ := bindSome h
  refine sSlice (r := r_api_Point) (v := .slice ad1 p0.length cp2) (xs := p0) (vlo := (some (.int .i64 1))) (vhi := none) (lo' := 1) (hi' := (p0.length : Int)) 4 S (wN rfl) rfl Tryd.underlying22 rfl rfl rfl rfl rfl (.inl rfl) (.inr ⟨rfl, rfl⟩) hx21 rfl (lb rfl) fun a ad22 cp23 S => ?_
  refine sLen (ad := ad22) (m := y20.length) (c := cp23) S (wN rfl) rfl Tryd.underlying22 rfl rfl (lb rfl) fun a S => ?_
  refine sMove (iv 0) S (wN rfl) (.inl rfl) rfl rfl (lb rfl) fun a S => ?_
  refine leafL (leafT (hK19 _ _ ?_))
  refine wp_block ?_
  obtain ⟨t30, hl, g29⟩ := bindSome h
  refine sLoop hl (fun s0 a w => match s0 with | (s24, s27) => ∃ ad25, ∃ cp26, St [] E [] w0 46 a w [(0, .slice ad1 p0.length cp2), (3, .slice ad25 s24.length cp26), (14, .slice ad22 y20.length cp23), (15, iv (y20.length : Int)), (16, iv s27)] [eRow (rI .i64) 3 (.slice ad25 s24.length cp26) s24] [fRep (rL r_api_Point) (.slice ad1 p0.length cp2) p0, fRep (rL r_api_Point) (.slice ad22 y20.length cp23) y20]) ⟨ad12, cp13, S.fix [0] [5, 0] (by decide) rfl rfl rfl⟩ ?_
  clear hl h
  intro s0 a w c0 hI h hu28
  obtain ⟨s24, s27⟩ := s0
  unfold piece_columns_l1 at h
  dsimp only at h hI
  obtain ⟨ad25, cp26, S⟩ := hI
  refine sSeq (fun K34 hK34 => ?_)
  refine sRegion ?_
  refine sBin (.bool (decide (s27 < (y20.length : Int)))) S (wN rfl) rfl rfl rfl (bLt _ _ _ _ .i64 s27 (y20.length : Int)) rfl (lb rfl) fun a S => ?_
  refine leafL (leafT (hK34 _ _ ?_))
  refine sSeq (fun K35 hK35 => ?_)
  rcases iteSome h with ⟨hc36, h⟩ | ⟨hc36, h⟩
  rotate_left
  · refine sCondF S rfl hc36 ?_
    obtain rfl := Option.some.inj h
    obtain rfl := hu28 _ rfl
    have h := g29
    clear g29
    try dsimp only at h
    exact wp_exit (xThen (xThen (xHit (leafT (⟨s24, Option.some.inj h, ad25, cp26, S.fix [0] [] (by decide) rfl rfl rfl⟩)))))
  refine sCondT S rfl hc36 ?_
  refine wp_skip (leafT (hK35 _ _ ?_))
  refine sSeq (fun K37 hK37 => ?_)
  refine wp_block ?_
  refine sSeq (fun K38 hK38 => ?_)
  refine sRegion ?_
  refine sMove (iv s27) S (wN rfl) (.inl rfl) rfl rfl (lb rfl) fun a S => ?_
  obtain ⟨x39, hx40, h⟩ := bindSome h
  obtain ⟨q41, hq42, S⟩ := pIdx (P := Tryd.prog) (r := r_api_Point) (v := .slice ad22 y20.length cp23) (xs := y20) (j := s27) 22 35 1 S Tryd.underlying22 rfl rfl hx40
  refine sIdxV (v := .slice ad22 y20.length cp23) (k := .i64) (j := s27) S (wN rfl) rfl rfl rfl hq42 rfl (lb rfl) fun a S => ?_
  obtain ⟨u43, S⟩ := pLoad (r := r_api_Point) (q := q41) (x := x39) 0 S rfl
  obtain rfl : u43 = .agg #[iv x39.X, iv x39.Y] := S.mem.know (i := 1) (e := fRep r_api_Point (u43) x39) rfl
  refine sLoadVN (vq := q41) 0 [iv x39.X, iv x39.Y] S (wN rfl) rfl rfl rfl rfl rfl rfl (lb rfl) fun a S => ?_
  refine sAlloc (.agg #[iv 0, iv 0]) S (wN rfl) rfl rfl [iv 0, iv 0] rfl rfl (lb rfl) fun a b44 w S => ?_
  refine sMove (iv s27) S (wN rfl) (.inr rfl) rfl rfl (lb rfl) fun a S => ?_
  refine sStore (p := b44) (off := 0) (T := 35) (vs := [iv 0, iv 0]) (v := .agg #[iv x39.X, iv x39.Y]) 0 [iv x39.X, iv x39.Y] S (wN rfl) rfl rfl rfl rfl rfl rfl rfl (by simp) rfl fun a w S => ?_
  refine leafL (leafT (hK38 _ _ ?_))
  refine sSeq (fun K45 hK45 => ?_)
  obtain ⟨x46, hx47, h⟩ := bindSome h
  obtain ⟨r58, hx59, h⟩ := bindSome h
  obtain ⟨q63, hq64, S⟩ := pIdx (P := Tryd.prog) (r := r_api_Point) (v := .slice ad1 p0.length cp2) (xs := p0) (j := s27) 22 35 3 S Tryd.underlying22 rfl rfl hx47
  obtain ⟨q65, hq66, S⟩ := pFld (P := Tryd.prog) (r := r_api_Point) (s2 := (rI .i64)) (g := (·.X)) (q := q63) (z := x46) 35 0 0 0 S rfl rfl comp_api_Point_X
  obtain ⟨u67, S⟩ := pLoad (r := (rI .i64)) (q := q65) (x := x46.X) 0 S rfl
  obtain rfl : u67 = iv x46.X := S.mem.know (i := 1) (e := fRep (rI .i64) (u67) x46.X) rfl
  obtain ⟨q68, hq69, S⟩ := pIdx (P := Tryd.prog) (r := r_api_Point) (v := .slice ad1 p0.length cp2) (xs := p0) (j := s27) 22 35 7 S Tryd.underlying22 rfl rfl hx47
  obtain ⟨q70, hq71, S⟩ := pFld (P := Tryd.prog) (r := r_api_Point) (s2 := (rI .i64)) (g := (·.Y)) (q := q68) (z := x46) 35 1 0 1 S rfl rfl comp_api_Point_Y
  obtain ⟨u72, S⟩ := pLoad (r := (rI .i64)) (q := q70) (x := x46.Y) 0 S rfl
  obtain rfl : u72 = iv x46.Y := S.mem.know (i := 1) (e := fRep (rI .i64) (u72) x46.Y) rfl
  refine sDraw (nf := [15]) (W := [(0, 22, .slice ad1 p0.length cp2), (1, 23, iv s27), (2, 24, q63), (3, 25, q65), (4, 26, iv x46.X), (5, 27, .pointer (some ⟨b44, 0, none⟩)), (6, 28, iv x39.X), (7, 29, .pointer (some ⟨b44, 1, none⟩)), (8, 30, iv x39.Y), (9, 31, .slice ad1 p0.length cp2), (10, 32, iv s27), (11, 33, q68), (12, 34, q70), (13, 35, iv x46.Y), (14, 36, iv (w64 (x39.Y - x46.Y)))]) rfl S ?_
  refine node_by (A := anc_piece_columns_0) (nf := [15]) (Y := []) (W := [(0, 22, .slice ad1 p0.length cp2), (1, 23, iv s27), (2, 24, q63), (3, 25, q65), (4, 26, iv x46.X), (5, 27, .pointer (some ⟨b44, 0, none⟩)), (6, 28, iv x39.X), (7, 29, .pointer (some ⟨b44, 1, none⟩)), (8, 30, iv x39.Y), (9, 31, .slice ad1 p0.length cp2), (10, 32, iv s27), (11, 33, q68), (12, 34, q70), (13, 35, iv x46.Y), (14, 36, iv (w64 (x39.Y - x46.Y)))]) 21 (by kernel_rfl) (by kernel_rfl) (by kernel_rfl) (by kernel_rfl) (by kernel_rfl) [0, 1, 2, 3, 4, 5, 6, 7, 8, 9, 10, 11, 12, 13, 14] (by kernel_rfl) (by decide) (by decide) (aF 0 20 (by decide) ?_ (aF 1 19 (by decide) ?_ (aF 2 18 (by decide) ?_ (aF 3 17 (by decide) ?_ (aF 4 16 (by decide) ?_ (aF 5 15 (by decide) ?_ (aF 6 14 (by decide) ?_ (aF 7 13 (by decide) ?_ (aF 8 12 (by decide) ?_ (aF 9 11 (by decide) ?_ (aF 10 10 (by decide) ?_ (aF 11 9 (by decide) ?_ (aF 12 8 (by decide) ?_ (aF 13 7 (by decide) ?_ (aF 14 6 (by decide) ?_ (aN 15 5 (by decide) ?_ (aE 16 4 15 (by decide) (aE 17 3 15 (by decide) (aE 18 2 15 (by decide) (aE 19 1 15 (by decide) (aE 20 0 15 (by decide) (trivial)))))))))))))))))))))) [] (fun q hq => by cases hq) (fun hY => absurd (hY 15 (by decide)) (by decide))
  · refine fI 22 (.slice ad1 p0.length cp2) [(0, .slice ad1 p0.length cp2)] 0 [none] rfl rfl rfl rfl rfl rfl fun G a w S => ?_
    refine sMove (.slice ad1 p0.length cp2) S (wN rfl) (.inl rfl) rfl rfl (lb rfl) fun a S => ?_
    exact leafL ⟨rfl, S⟩
  · refine fI 23 (iv s27) [(4, iv s27)] 1 [none] rfl rfl rfl rfl rfl rfl fun G a w S => ?_
    refine sMove (iv s27) S (wN rfl) (.inl rfl) rfl rfl (lb rfl) fun a S => ?_
    exact leafL ⟨rfl, S⟩
  · refine fI 24 q63 [(22, .slice ad1 p0.length cp2), (23, iv s27)] 2 [some 0, some 1] rfl rfl rfl rfl rfl rfl fun G a w S => ?_
    refine sIdxV (v := .slice ad1 p0.length cp2) (k := .i64) (j := s27) S (wN rfl) rfl rfl rfl hq64 rfl (lb rfl) fun a S => ?_
    exact leafL ⟨rfl, S⟩
  · refine fI 25 q65 [(24, q63)] 3 [some 2] rfl rfl rfl rfl rfl rfl fun G a w S => ?_
    refine sFldV (q := q63) S (wN rfl) rfl rfl hq66 rfl (lb rfl) fun a S => ?_
    exact leafL ⟨rfl, S⟩
  · refine fI 26 (iv x46.X) [(25, q65)] 4 [some 3] rfl rfl rfl rfl rfl rfl fun G a w S => ?_
    refine sLoadV1 (vq := q65) 4 (iv x46.X) S (wN rfl) rfl rfl rfl rfl rfl (lb rfl) fun a S => ?_
    exact leafL ⟨rfl, S⟩
  · refine fI 27 (.pointer (some ⟨b44, 0, none⟩)) [(5, .pointer (some ⟨b44, 0, none⟩))] 5 [none] rfl rfl rfl rfl rfl rfl fun G a w S => ?_
    refine sField (b := b44) (off := 0) 0 0 S (wN rfl) rfl rfl rfl rfl rfl (lb rfl) fun a S => ?_
    exact leafL ⟨rfl, S⟩
  · refine fI 28 (iv x39.X) [(27, .pointer (some ⟨b44, 0, none⟩))] 6 [some 5] rfl rfl rfl rfl rfl rfl fun G a w S => ?_
    refine sLoad1 (p := b44) (off := 0) (T := 35) (vs := [iv x39.X, iv x39.Y]) 0 (iv x39.X) S (wN rfl) rfl rfl rfl rfl rfl rfl (lb rfl) fun a S => ?_
    exact leafL ⟨rfl, S⟩
  · refine fI 29 (.pointer (some ⟨b44, 1, none⟩)) [(5, .pointer (some ⟨b44, 0, none⟩))] 7 [none] rfl rfl rfl rfl rfl rfl fun G a w S => ?_
    refine sField (b := b44) (off := 0) 1 1 S (wN rfl) rfl rfl rfl rfl rfl (lb rfl) fun a S => ?_
    exact leafL ⟨rfl, S⟩
  · refine fI 30 (iv x39.Y) [(29, .pointer (some ⟨b44, 1, none⟩))] 8 [some 7] rfl rfl rfl rfl rfl rfl fun G a w S => ?_
    refine sLoad1 (p := b44) (off := 1) (T := 35) (vs := [iv x39.X, iv x39.Y]) 0 (iv x39.Y) S (wN rfl) rfl rfl rfl rfl rfl rfl (lb rfl) fun a S => ?_
    exact leafL ⟨rfl, S⟩
  · refine fI 31 (.slice ad1 p0.length cp2) [(0, .slice ad1 p0.length cp2)] 9 [none] rfl rfl rfl rfl rfl rfl fun G a w S => ?_
    refine sMove (.slice ad1 p0.length cp2) S (wN rfl) (.inl rfl) rfl rfl (lb rfl) fun a S => ?_
    exact leafL ⟨rfl, S⟩
  · refine fI 32 (iv s27) [(4, iv s27)] 10 [none] rfl rfl rfl rfl rfl rfl fun G a w S => ?_
    refine sMove (iv s27) S (wN rfl) (.inl rfl) rfl rfl (lb rfl) fun a S => ?_
    exact leafL ⟨rfl, S⟩
  · refine fI 33 q68 [(31, .slice ad1 p0.length cp2), (32, iv s27)] 11 [some 9, some 10] rfl rfl rfl rfl rfl rfl fun G a w S => ?_
    refine sIdxV (v := .slice ad1 p0.length cp2) (k := .i64) (j := s27) S (wN rfl) rfl rfl rfl hq69 rfl (lb rfl) fun a S => ?_
    exact leafL ⟨rfl, S⟩
  · refine fI 34 q70 [(33, q68)] 12 [some 11] rfl rfl rfl rfl rfl rfl fun G a w S => ?_
    refine sFldV (q := q68) S (wN rfl) rfl rfl hq71 rfl (lb rfl) fun a S => ?_
    exact leafL ⟨rfl, S⟩
  · refine fI 35 (iv x46.Y) [(34, q70)] 13 [some 12] rfl rfl rfl rfl rfl rfl fun G a w S => ?_
    refine sLoadV1 (vq := q70) 0 (iv x46.Y) S (wN rfl) rfl rfl rfl rfl rfl (lb rfl) fun a S => ?_
    exact leafL ⟨rfl, S⟩
  · refine fI 36 (iv (w64 (x39.Y - x46.Y))) [(30, iv x39.Y), (35, iv x46.Y)] 14 [some 8, some 13] rfl rfl rfl rfl rfl rfl fun G a w S => ?_
    refine sBin (iv (w64 (x39.Y - x46.Y))) S (wN rfl) rfl rfl rfl (bSub _ _ _ _ x39.Y x46.Y) rfl (lb rfl) fun a S => ?_
    exact leafL ⟨rfl, S⟩
  refine ⟨_, [(26, iv x46.X), (28, iv x39.X), (36, iv (w64 (x39.Y - x46.Y)))], rfl, (srcs_of [some 4, some 6, some 14] rfl rfl rfl), fun G a w S => ?_⟩
  refine sCall (X := Value) (f := 50) (vs := [iv x46.X, iv x39.X, iv (w64 (x39.Y - x46.Y))]) (val := c_slope_Line_val r58) (B' := fun _ => []) (D' := c_slope_Line_D r58) [] [eBox b44 35 [iv x39.X, iv x39.Y], eRow (rI .i64) 3 (.slice ad25 s24.length cp26) s24] [] [0, 1] [] S (wN rfl) rfl callee50 rfl (by decide) rfl rfl (fun E1 w1 S1 => c_slope_Line E1 w1 x46.X x39.X (w64 (x39.Y - x46.Y)) r58 hx59 S1) rfl (lb rfl) fun u73 a w S => ?_
  obtain ⟨ad74, cp75, _, rfl, _⟩ := S.mem.know (i := 0) (e := fRep (rL (rI .i64)) (u73) r58.1) rfl
  refine leafL ⟨rfl, _, _, .inl ⟨37, (.tuple #[.slice ad74 r58.1.length cp75, iv r58.2]), [(16, 21, .tuple #[.slice ad74 r58.1.length cp75, iv r58.2]), (17, 38, .slice ad74 r58.1.length cp75), (18, 39, iv r58.2), (19, 6, .slice ad74 r58.1.length cp75), (20, 7, iv r58.2)], rfl, S, hz_of rfl, ?_⟩⟩
  refine node_by (A := anc_piece_columns_0) (nf := [15]) (Y := [15]) 21 (by kernel_rfl) (by kernel_rfl) (by kernel_rfl) (by kernel_rfl) (by kernel_rfl) [16, 17, 18, 19, 20, 15, 0, 1, 2, 3, 4, 5, 6, 7, 8, 9, 10, 11, 12, 13, 14] (by kernel_rfl) (by decide) (by decide) (aD 0 20 15 (by decide) (aD 1 19 15 (by decide) (aD 2 18 15 (by decide) (aD 3 17 15 (by decide) (aD 4 16 15 (by decide) (aD 5 15 15 (by decide) (aD 6 14 15 (by decide) (aD 7 13 15 (by decide) (aD 8 12 15 (by decide) (aD 9 11 15 (by decide) (aD 10 10 15 (by decide) (aD 11 9 15 (by decide) (aD 12 8 15 (by decide) (aD 13 7 15 (by decide) (aD 14 6 15 (by decide) (aY 15 5 (by decide) (aF 16 4 (by decide) ?_ (aF 17 3 (by decide) ?_ (aF 18 2 (by decide) ?_ (aF 19 1 (by decide) ?_ (aF 20 0 (by decide) ?_ (trivial)))))))))))))))))))))) [(0, .slice ad1 p0.length cp2), (3, .slice ad25 s24.length cp26), (6, .slice ad74 r58.1.length cp75), (14, .slice ad22 y20.length cp23), (15, iv (y20.length : Int)), (16, iv s27)] (fin_of [none, none, some 3, none, none, none] rfl (by kernel_rfl) (by kernel_rfl)) (fun _ a w S => ?_)
  · refine fI 21 (.tuple #[.slice ad74 r58.1.length cp75, iv r58.2]) [(37, .tuple #[.slice ad74 r58.1.length cp75, iv r58.2])] 0 [some 5] rfl rfl rfl rfl rfl rfl fun G a w S => ?_
    refine sMove (.tuple #[.slice ad74 r58.1.length cp75, iv r58.2]) S (wN rfl) (.inl rfl) rfl rfl (lb rfl) fun a S => ?_
    exact leafL ⟨rfl, S⟩
  · refine fI 38 (.slice ad74 r58.1.length cp75) [(21, .tuple #[.slice ad74 r58.1.length cp75, iv r58.2])] 1 [some 0] rfl rfl rfl rfl rfl rfl fun G a w S => ?_
    refine sExtract (vs := [.slice ad74 r58.1.length cp75, iv r58.2]) (.slice ad74 r58.1.length cp75) S (wN rfl) rfl rfl rfl rfl (lb rfl) fun a S => ?_
    exact leafL ⟨rfl, S⟩
  · refine fI 39 (iv r58.2) [(21, .tuple #[.slice ad74 r58.1.length cp75, iv r58.2])] 2 [some 0] rfl rfl rfl rfl rfl rfl fun G a w S => ?_
    refine sExtract (vs := [.slice ad74 r58.1.length cp75, iv r58.2]) (iv r58.2) S (wN rfl) rfl rfl rfl rfl (lb rfl) fun a S => ?_
    exact leafL ⟨rfl, S⟩
  · refine fI 6 (.slice ad74 r58.1.length cp75) [(38, .slice ad74 r58.1.length cp75)] 3 [some 1] rfl rfl rfl rfl rfl rfl fun G a w S => ?_
    refine sMove (.slice ad74 r58.1.length cp75) S (wN rfl) (.inr rfl) rfl rfl (lb rfl) fun a S => ?_
    exact leafL ⟨rfl, S⟩
  · refine fI 7 (iv r58.2) [(39, iv r58.2)] 4 [some 2] rfl rfl rfl rfl rfl rfl fun G a w S => ?_
    refine sMove (iv r58.2) S (wN rfl) (.inr rfl) rfl rfl (lb rfl) fun a S => ?_
    exact leafL ⟨rfl, S⟩
  refine leafT (hK45 _ _ ?_)
  refine sRegion ?_
  refine sMove (.slice ad25 s24.length cp26) S (wN rfl) (.inl rfl) rfl rfl (lb rfl) fun a S => ?_
  refine sMove (.slice ad74 r58.1.length cp75) S (wN rfl) (.inl rfl) rfl rfl (lb rfl) fun a S => ?_
  obtain ⟨y76, hx77, h⟩ := bindSome h
  refine sSlice (r := (rI .i64)) (v := .slice ad74 r58.1.length cp75) (xs := r58.1) (vlo := (some (.int .i64 1))) (vhi := none) (lo' := 1) (hi' := (r58.1.length : Int)) 0 S (wN rfl) rfl Tryd.underlying28 rfl rfl rfl rfl rfl (.inl rfl) (.inr ⟨rfl, rfl⟩) hx77 rfl (lb rfl) fun a ad78 cp79 S => ?_
  obtain ⟨l80, hx81, h⟩ := bindSome h
  refine sApp (r := (rI .i64)) (T := 3) (xs := s24) (ys := y76) (v := .slice ad25 s24.length cp26) (u := .slice ad78 y76.length cp79) 1 (iv 0) 8 S (wN rfl) rfl Tryd.underlying28 rfl rfl (by decide) rfl rfl rfl (src_D 0 S.mem rfl) hx81 rfl (lb rfl) fun a w ad82 cp83 S => ?_
  refine sMove (.slice ad82 l80.length cp83) S (wN rfl) (.inr rfl) rfl rfl (lb rfl) fun a S => ?_
  refine leafL (leafB (leafT (hK37 _ _ ?_)))
  refine sRegion ?_
  refine sBin (iv (w64 (s27 + 1))) S (wN rfl) rfl rfl rfl (bAdd _ _ _ _ s27 1) rfl (lb rfl) fun a S => ?_
  refine sMove (iv (w64 (s27 + 1))) S (wN rfl) (.inl rfl) rfl rfl (lb rfl) fun a S => ?_
  exact leafL (leafT (⟨(l80, w64 (s27 + 1)), (Option.some.inj h).symm, ⟨ad82, cp83, S.fix [0] [13, 14] (by decide) rfl rfl rfl⟩⟩))

end Go.Proofs.YtmedbnjhgkcndaaDoor
namespace Go.Proofs.YtmedbnjhgkcndaaDoor
open Go.RowKit
set_option linter.unusedVariables false

def anc_piece_Make_0 : List (List Nat) := [[], [0], [0, 1], [], [3], [0, 1, 2, 3, 4], [0, 1, 2, 3, 4, 5], [], [0, 1, 2, 3, 4, 5, 6, 7]]
noncomputable def F_piece_Make (p0 : api_Shape) : Option (api_Piece × Int) :=
  Option.bind (F_piece_shape p0) fun r14 =>
  if r14 != 0 then
    some ((api_Piece.mk ([] : (List Int)) ([] : (List Int))), r14)
  else
    Option.bind (α := (List Int × List Int)) (
      Option.bind (F_piece_columns p0.Left) fun r28 =>
      Option.bind (F_piece_columns p0.Right) fun r33 =>
      some (r28, r33)) fun (o20, o23) =>
    Option.bind (F_piece_Check (api_Piece.mk o20 o23)) fun r59 =>
    if r59 != 0 then
      some ((api_Piece.mk ([] : (List Int)) ([] : (List Int))), 16)
    else
      some ((api_Piece.mk o20 o23), 0)
def c_piece_Make_val (r : (api_Piece × Int)) (x : Value) : Value := .tuple #[x, .int .i64 r.2]
def c_piece_Make_D (r : (api_Piece × Int)) (x : Value) : List Fact := [fRep r_api_Piece x r.1]
set_option maxHeartbeats 4000000 in
set_option maxRecDepth 100000 in
theorem c_piece_Make (E : Nat → Prop) (w0 : World) (p0 : api_Shape) (v0 : Value) (r : (api_Piece × Int)) (h : F_piece_Make p0 = some r) (S : St0 E [] w0 w0 [] [fRep r_api_Shape (v0) p0]) :
    Calls Tryd.prog 12 #[v0] w0 (Ret (X := Value) E [] w0 (c_piece_Make_val r) (fun _ => []) (c_piece_Make_D r)) := by
  unfold F_piece_Make at h
  obtain ⟨u1, u2, rfl, hu3, hu4⟩ := S.know (i := 0) (e := fRep r_api_Shape (v0) p0) rfl
  have S := S.learn (fRep (rL r_api_Point) u1 p0.Left) hu3
  obtain ⟨ad5, cp6, _, rfl, _⟩ := hu3
  have S := S.learn (fRep (rL r_api_Point) u2 p0.Right) hu4
  obtain ⟨ad7, cp8, _, rfl, _⟩ := hu4
  refine sEnter (args := [.agg #[.slice ad5 p0.Left.length cp6, .slice ad7 p0.Right.length cp8]]) 24 Tryd.func12 rfl rfl (by simp) S (fun a S => ?_)
  refine sSeq (fun K9 hK9 => ?_)
  refine sRegion ?_
  refine sBox (v := .agg #[.slice ad5 p0.Left.length cp6, .slice ad7 p0.Right.length cp8]) S (wN rfl) rfl rfl [.slice ad5 p0.Left.length cp6, .slice ad7 p0.Right.length cp8] rfl rfl (lb rfl) fun a b10 w S => ?_
  refine sAlloc (.agg #[.slice none 0 0, .slice none 0 0]) S (wN rfl) rfl rfl [.slice none 0 0, .slice none 0 0] rfl rfl (lb rfl) fun a b11 w S => ?_
  refine sMove (iv 0) S (wN rfl) (.inr rfl) rfl rfl (lb rfl) fun a S => ?_
  refine leafL (leafT (hK9 _ _ ?_))
  refine sSeq (fun K12 hK12 => ?_)
  refine sSeq (fun K13 hK13 => ?_)
  refine sRegion ?_
  refine sLoadN (p := b10) (off := 0) (T := 24) (vs := [.slice ad5 p0.Left.length cp6, .slice ad7 p0.Right.length cp8]) 1 [.slice ad5 p0.Left.length cp6, .slice ad7 p0.Right.length cp8] S (wN rfl) rfl rfl rfl rfl rfl rfl rfl (lb rfl) fun a S => ?_
  obtain ⟨r14, hx15, h⟩ := bindSome h
  have S1 := S.mem
  refine sCallQ (X := Unit) (f := 35) (vs := [.agg #[.slice ad5 p0.Left.length cp6, .slice ad7 p0.Right.length cp8]]) (val := fun _ => iv r14) S (wN rfl) rfl callee35 rfl (S1.quiet [2] rfl) (fun E1 w1 S1 => c_piece_shape E1 w1 p0 (.agg #[.slice ad5 p0.Left.length cp6, .slice ad7 p0.Right.length cp8]) r14 hx15 S1) rfl (lb rfl) fun _ a w S => ?_
  refine sMove (iv r14) S (wN rfl) (.inr rfl) rfl rfl (lb rfl) fun a S => ?_
  refine leafL (leafT (hK13 _ _ ?_))
  refine sSeq (fun K16 hK16 => ?_)
  refine sRegion ?_
  refine sMove (iv r14) S (wN rfl) (.inl rfl) rfl rfl (lb rfl) fun a S => ?_
  refine sBin (.bool (r14 != 0)) S (wN rfl) rfl rfl rfl (bNe _ _ _ _ .i64 r14 0) rfl (lb rfl) fun a S => ?_
  refine leafL (leafT (hK16 _ _ ?_))
  rcases iteSome h with ⟨hc17, h⟩ | ⟨hc17, h⟩
  · refine sCondT S rfl hc17 ?_
    refine sSeq (fun K18 hK18 => ?_)
    refine sRegion ?_
    refine sBuild [] [.slice none 0 0, .slice none 0 0] S (wN rfl) rfl rfl rfl rfl (lb rfl) fun a S => ?_
    refine sMove (iv r14) S (wN rfl) (.inl rfl) rfl rfl (lb rfl) fun a S => ?_
    refine sStore (p := b11) (off := 0) (T := 30) (vs := [.slice none 0 0, .slice none 0 0]) (v := .agg #[.slice none 0 0, .slice none 0 0]) 0 [.slice none 0 0, .slice none 0 0] S (wN rfl) rfl rfl rfl rfl rfl rfl rfl (by simp) rfl fun a w S => ?_
    refine sMove (iv r14) S (wN rfl) (.inr rfl) rfl rfl (lb rfl) fun a S => ?_
    refine leafL (leafT (hK18 _ _ ?_))
    obtain rfl := Option.some.inj h
    have S := S.learn (fRep (rL (rI .i64)) (.slice none 0 0) ([] : (List Int))) (rL_nil _ _ _)
    have S := S.learn (fRep r_api_Piece (.agg #[.slice none 0 0, .slice none 0 0]) (api_Piece.mk ([] : (List Int)) ([] : (List Int)))) ⟨_, _, rfl, S.mem.know (i := 0) (e := fRep (rL (rI .i64)) (.slice none 0 0) ([] : (List Int))) rfl, S.mem.know (i := 0) (e := fRep (rL (rI .i64)) (.slice none 0 0) ([] : (List Int))) rfl⟩
    exact wp_ret (rThen (sRet (.tuple #[.agg #[.slice none 0 0, .slice none 0 0], iv r14]) S (rsl2 rfl (rvN (c := 2) (t := 30) (T := 30) (p := b11) 0 [.slice none 0 0, .slice none 0 0] S rfl rfl rfl rfl) (rvT (t := 3) (v := iv r14) S rfl)) ⟨(.agg #[.slice none 0 0, .slice none 0 0]), rfl, S.mem.sel [] [0] (by decide) rfl rfl⟩))
  refine sCondF S rfl hc17 ?_
  refine wp_skip (leafT (hK12 _ _ ?_))
  obtain ⟨t26, h, g27⟩ := bindSome h
  refine sCut (fun a w => ∃ o20, ∃ o23, (o20, o23) = t26 ∧ ∃ b19, ∃ ad21, ∃ cp22, ∃ ad24, ∃ cp25, St [] E [] w0 24 a w [(2, .pointer (some ⟨b11, 0, none⟩)), (5, .pointer (some ⟨b19, 0, none⟩))] [eBox b11 30 [.slice none 0 0, .slice none 0 0], eBox b19 30 [.slice ad21 o20.length cp22, .slice ad24 o23.length cp25]] [fRep (rL (rI .i64)) (.slice ad21 o20.length cp22) o20, fRep (rL (rI .i64)) (.slice ad24 o23.length cp25) o23]) ?_ (fun a w hI => ?_)
  rotate_left
  · obtain ⟨o20, o23, rfl, b19, ad21, cp22, ad24, cp25, S⟩ := hI
    have h := g27
    clear g27
    try dsimp only at h
    refine sSeq (fun K57 hK57 => ?_)
    refine sSeq (fun K58 hK58 => ?_)
    refine sRegion ?_
    refine sLoadN (p := b19) (off := 0) (T := 30) (vs := [.slice ad21 o20.length cp22, .slice ad24 o23.length cp25]) 1 [.slice ad21 o20.length cp22, .slice ad24 o23.length cp25] S (wN rfl) rfl rfl rfl rfl rfl rfl rfl (lb rfl) fun a S => ?_
    obtain ⟨r59, hx60, h⟩ := bindSome h
    have S1 := S.mem
    have S1 := S1.learn (fRep r_api_Piece (.agg #[.slice ad21 o20.length cp22, .slice ad24 o23.length cp25]) (api_Piece.mk o20 o23)) ⟨_, _, rfl, S1.know (i := 0) (e := fRep (rL (rI .i64)) (.slice ad21 o20.length cp22) o20) rfl, S1.know (i := 1) (e := fRep (rL (rI .i64)) (.slice ad24 o23.length cp25) o23) rfl⟩
    refine sCallQ (X := Unit) (f := 13) (vs := [.agg #[.slice ad21 o20.length cp22, .slice ad24 o23.length cp25]]) (val := fun _ => iv r59) S (wN rfl) rfl callee13 rfl (S1.quiet [0] rfl) (fun E1 w1 S1 => c_piece_Check E1 w1 (api_Piece.mk o20 o23) (.agg #[.slice ad21 o20.length cp22, .slice ad24 o23.length cp25]) r59 hx60 S1) rfl (lb rfl) fun _ a w S => ?_
    refine sBin (.bool (r59 != 0)) S (wN rfl) rfl rfl rfl (bNe _ _ _ _ .i64 r59 0) rfl (lb rfl) fun a S => ?_
    refine leafL (leafT (hK58 _ _ ?_))
    rcases iteSome h with ⟨hc61, h⟩ | ⟨hc61, h⟩
    · refine sCondT S rfl hc61 ?_
      refine sSeq (fun K62 hK62 => ?_)
      refine sRegion ?_
      refine sBuild [] [.slice none 0 0, .slice none 0 0] S (wN rfl) rfl rfl rfl rfl (lb rfl) fun a S => ?_
      refine sStore (p := b11) (off := 0) (T := 30) (vs := [.slice none 0 0, .slice none 0 0]) (v := .agg #[.slice none 0 0, .slice none 0 0]) 0 [.slice none 0 0, .slice none 0 0] S (wN rfl) rfl rfl rfl rfl rfl rfl rfl (by simp) rfl fun a w S => ?_
      refine sMove (iv 16) S (wN rfl) (.inr rfl) rfl rfl (lb rfl) fun a S => ?_
      refine leafL (leafT (hK62 _ _ ?_))
      obtain rfl := Option.some.inj h
      have S := S.learn (fRep (rL (rI .i64)) (.slice none 0 0) ([] : (List Int))) (rL_nil _ _ _)
      have S := S.learn (fRep r_api_Piece (.agg #[.slice none 0 0, .slice none 0 0]) (api_Piece.mk ([] : (List Int)) ([] : (List Int)))) ⟨_, _, rfl, S.mem.know (i := 0) (e := fRep (rL (rI .i64)) (.slice none 0 0) ([] : (List Int))) rfl, S.mem.know (i := 0) (e := fRep (rL (rI .i64)) (.slice none 0 0) ([] : (List Int))) rfl⟩
      exact wp_ret (rThen (sRet (.tuple #[.agg #[.slice none 0 0, .slice none 0 0], iv 16]) S (rsl2 rfl (rvN (c := 2) (t := 30) (T := 30) (p := b11) 0 [.slice none 0 0, .slice none 0 0] S rfl rfl rfl rfl) (rvT (t := 3) (v := iv 16) S rfl)) ⟨(.agg #[.slice none 0 0, .slice none 0 0]), rfl, S.mem.sel [] [0] (by decide) rfl rfl⟩))
    refine sCondF S rfl hc61 ?_
    refine wp_skip (leafT (hK57 _ _ ?_))
    refine sSeq (fun K63 hK63 => ?_)
    refine sRegion ?_
    refine sLoadN (p := b19) (off := 0) (T := 30) (vs := [.slice ad21 o20.length cp22, .slice ad24 o23.length cp25]) 1 [.slice ad21 o20.length cp22, .slice ad24 o23.length cp25] S (wN rfl) rfl rfl rfl rfl rfl rfl rfl (lb rfl) fun a S => ?_
    refine sStore (p := b11) (off := 0) (T := 30) (vs := [.slice none 0 0, .slice none 0 0]) (v := .agg #[.slice ad21 o20.length cp22, .slice ad24 o23.length cp25]) 0 [.slice ad21 o20.length cp22, .slice ad24 o23.length cp25] S (wN rfl) rfl rfl rfl rfl rfl rfl rfl (by simp) rfl fun a w S => ?_
    refine sMove (iv 0) S (wN rfl) (.inr rfl) rfl rfl (lb rfl) fun a S => ?_
    refine leafL (leafT (hK63 _ _ ?_))
    obtain rfl := Option.some.inj h
    have S := S.learn (fRep r_api_Piece (.agg #[.slice ad21 o20.length cp22, .slice ad24 o23.length cp25]) (api_Piece.mk o20 o23)) ⟨_, _, rfl, S.mem.know (i := 0) (e := fRep (rL (rI .i64)) (.slice ad21 o20.length cp22) o20) rfl, S.mem.know (i := 1) (e := fRep (rL (rI .i64)) (.slice ad24 o23.length cp25) o23) rfl⟩
    exact wp_ret (sRet (.tuple #[.agg #[.slice ad21 o20.length cp22, .slice ad24 o23.length cp25], iv 0]) S (rsl2 rfl (rvN (c := 2) (t := 30) (T := 30) (p := b11) 0 [.slice ad21 o20.length cp22, .slice ad24 o23.length cp25] S rfl rfl rfl rfl) (rvT (t := 3) (v := iv 0) S rfl)) ⟨(.agg #[.slice ad21 o20.length cp22, .slice ad24 o23.length cp25]), rfl, S.mem.sel [] [0] (by decide) rfl rfl⟩)
  obtain ⟨r28, hx29, h⟩ := bindSome h
  obtain ⟨r33, hx34, h⟩ := bindSome h
  refine sDraw (nf := [2, 5, 7, 8]) (W := [(0, 12, .pointer (some ⟨b10, 0, none⟩)), (1, 13, .slice ad5 p0.Left.length cp6), (3, 15, .pointer (some ⟨b10, 1, none⟩)), (4, 16, .slice ad7 p0.Right.length cp8)]) rfl S ?_
  refine node_by (A := anc_piece_Make_0) (nf := [2, 5, 7, 8]) (Y := []) (W := [(0, 12, .pointer (some ⟨b10, 0, none⟩)), (1, 13, .slice ad5 p0.Left.length cp6), (3, 15, .pointer (some ⟨b10, 1, none⟩)), (4, 16, .slice ad7 p0.Right.length cp8)]) 9 (by kernel_rfl) (by kernel_rfl) (by kernel_rfl) (by kernel_rfl) (by kernel_rfl) [0, 1, 3, 4] (by kernel_rfl) (by decide) (by decide) (aF 0 8 (by decide) ?_ (aF 1 7 (by decide) ?_ (aN 2 6 (by decide) ?_ (aF 3 5 (by decide) ?_ (aF 4 4 (by decide) ?_ (aB 5 3 2 (by decide) (aE 6 2 2 (by decide) (aN 7 1 (by decide) ?_ (aB 8 0 2 (by decide) (trivial)))))))))) [] (fun q hq => by cases hq) (fun hY => absurd (hY 2 (by decide)) (by decide))
  · refine fI 12 (.pointer (some ⟨b10, 0, none⟩)) [(1, .pointer (some ⟨b10, 0, none⟩))] 0 [none] rfl rfl rfl rfl rfl rfl fun G a w S => ?_
    refine sField (b := b10) (off := 0) 0 0 S (wN rfl) rfl rfl rfl rfl rfl (lb rfl) fun a S => ?_
    exact leafL ⟨rfl, S⟩
  · refine fI 13 (.slice ad5 p0.Left.length cp6) [(12, .pointer (some ⟨b10, 0, none⟩))] 1 [some 0] rfl rfl rfl rfl rfl rfl fun G a w S => ?_
    refine sLoad1 (p := b10) (off := 0) (T := 24) (vs := [.slice ad5 p0.Left.length cp6, .slice ad7 p0.Right.length cp8]) 1 (.slice ad5 p0.Left.length cp6) S (wN rfl) rfl rfl rfl rfl rfl rfl (lb rfl) fun a S => ?_
    exact leafL ⟨rfl, S⟩
  · refine ⟨_, [(13, .slice ad5 p0.Left.length cp6)], rfl, (srcs_of [some 1] rfl rfl rfl), fun G a w S => ?_⟩
    refine sCall (X := Value) (f := 36) (vs := [.slice ad5 p0.Left.length cp6]) (val := c_piece_columns_val r28) (B' := fun _ => []) (D' := c_piece_columns_D r28) [] [eBox b11 30 [.slice none 0 0, .slice none 0 0], eBox b10 24 [.slice ad5 p0.Left.length cp6, .slice ad7 p0.Right.length cp8]] [fRep (rL r_api_Point) (.slice ad5 p0.Left.length cp6) p0.Left] [0, 1] [1] S (wN rfl) rfl callee36 rfl (by decide) rfl rfl (fun E1 w1 S1 => c_piece_columns E1 w1 p0.Left (.slice ad5 p0.Left.length cp6) r28 hx29 S1) rfl (lb rfl) fun u39 a w S => ?_
    obtain ⟨ad40, cp41, _, rfl, _⟩ := S.mem.know (i := 0) (e := fRep (rL (rI .i64)) (u39) r28) rfl
    refine leafL ⟨rfl, _, _, .inl ⟨14, (.slice ad40 r28.length cp41), [], rfl, S, hz_of rfl, ?_⟩⟩
    refine node_by (A := anc_piece_Make_0) (nf := [2, 5, 7, 8]) (Y := [2]) 9 (by kernel_rfl) (by kernel_rfl) (by kernel_rfl) (by kernel_rfl) (by kernel_rfl) [2, 0, 1, 3, 4] (by kernel_rfl) (by decide) (by decide) (aD 0 8 2 (by decide) (aD 1 7 2 (by decide) (aY 2 6 (by decide) (aF 3 5 (by decide) ?_ (aF 4 4 (by decide) ?_ (aN 5 3 (by decide) ?_ (aE 6 2 5 (by decide) (aN 7 1 (by decide) ?_ (aB 8 0 5 (by decide) (trivial)))))))))) [] (fun q hq => by cases hq) (fun hY => absurd (hY 5 (by decide)) (by decide))
    · refine fI 15 (.pointer (some ⟨b10, 1, none⟩)) [(1, .pointer (some ⟨b10, 0, none⟩))] 3 [none] rfl rfl rfl rfl rfl rfl fun G a w S => ?_
      refine sField (b := b10) (off := 0) 1 1 S (wN rfl) rfl rfl rfl rfl rfl (lb rfl) fun a S => ?_
      exact leafL ⟨rfl, S⟩
    · refine fI 16 (.slice ad7 p0.Right.length cp8) [(15, .pointer (some ⟨b10, 1, none⟩))] 4 [some 3] rfl rfl rfl rfl rfl rfl fun G a w S => ?_
      refine sLoad1 (p := b10) (off := 1) (T := 24) (vs := [.slice ad5 p0.Left.length cp6, .slice ad7 p0.Right.length cp8]) 1 (.slice ad7 p0.Right.length cp8) S (wN rfl) rfl rfl rfl rfl rfl rfl (lb rfl) fun a S => ?_
      exact leafL ⟨rfl, S⟩
    · refine ⟨_, [(16, .slice ad7 p0.Right.length cp8)], rfl, (srcs_of [some 4] rfl rfl rfl), fun G a w S => ?_⟩
      refine sCall (X := Value) (f := 36) (vs := [.slice ad7 p0.Right.length cp8]) (val := c_piece_columns_val r33) (B' := fun _ => []) (D' := c_piece_columns_D r33) [] [eBox b11 30 [.slice none 0 0, .slice none 0 0], eBox b10 24 [.slice ad5 p0.Left.length cp6, .slice ad7 p0.Right.length cp8]] [fRep (rL r_api_Point) (.slice ad7 p0.Right.length cp8) p0.Right] [0, 1] [1] S (wN rfl) rfl callee36 rfl (by decide) rfl rfl (fun E1 w1 S1 => c_piece_columns E1 w1 p0.Right (.slice ad7 p0.Right.length cp8) r33 hx34 S1) rfl (lb rfl) fun u42 a w S => ?_
      obtain ⟨ad43, cp44, _, rfl, _⟩ := S.mem.know (i := 0) (e := fRep (rL (rI .i64)) (u42) r33) rfl
      refine leafL ⟨rfl, _, _, .inl ⟨17, (.slice ad43 r33.length cp44), [(6, 18, .agg #[.slice ad40 r28.length cp41, .slice ad43 r33.length cp44])], rfl, S, hz_of rfl, ?_⟩⟩
      refine node_by (A := anc_piece_Make_0) (nf := [2, 5, 7, 8]) (Y := [5, 2]) 9 (by kernel_rfl) (by kernel_rfl) (by kernel_rfl) (by kernel_rfl) (by kernel_rfl) [6, 5, 2, 0, 1, 3, 4] (by kernel_rfl) (by decide) (by decide) (aD 0 8 5 (by decide) (aD 1 7 5 (by decide) (aY 2 6 (by decide) (aD 3 5 5 (by decide) (aD 4 4 5 (by decide) (aY 5 3 (by decide) (aF 6 2 (by decide) ?_ (aN 7 1 (by decide) ?_ (aB 8 0 7 (by decide) (trivial)))))))))) [] (fun q hq => by cases hq) (fun hY => absurd (hY 7 (by decide)) (by decide))
      · refine fI 18 (.agg #[.slice ad40 r28.length cp41, .slice ad43 r33.length cp44]) [(14, .slice ad40 r28.length cp41), (17, .slice ad43 r33.length cp44)] 0 [some 2, some 1] rfl rfl rfl rfl rfl rfl fun G a w S => ?_
        refine sBuild [(0, .slice ad40 r28.length cp41), (1, .slice ad43 r33.length cp44)] [.slice ad40 r28.length cp41, .slice ad43 r33.length cp44] S (wN rfl) rfl rfl rfl rfl (lb rfl) fun a S => ?_
        exact leafL ⟨rfl, S⟩
      refine ⟨_, [], rfl, (srcs_of [] rfl rfl rfl), fun G a w S => ?_⟩
      refine sAlloc (.agg #[.slice none 0 0, .slice none 0 0]) S (wN rfl) rfl rfl [.slice none 0 0, .slice none 0 0] rfl rfl (lb rfl) fun a b45 w S => ?_
      refine leafL ⟨rfl, _, _, .inl ⟨5, (.pointer (some ⟨b45, 0, none⟩)), [], rfl, S, hz_of rfl, ?_⟩⟩
      refine node_by (A := anc_piece_Make_0) (nf := [2, 5, 7, 8]) (Y := [7, 5, 2]) 9 (by kernel_rfl) (by kernel_rfl) (by kernel_rfl) (by kernel_rfl) (by kernel_rfl) [7, 6, 5, 2, 0, 1, 3, 4] (by kernel_rfl) (by decide) (by decide) (aD 0 8 5 (by decide) (aD 1 7 5 (by decide) (aY 2 6 (by decide) (aD 3 5 5 (by decide) (aD 4 4 5 (by decide) (aY 5 3 (by decide) (aF 6 2 (by decide) ?_ (aY 7 1 (by decide) (aN 8 0 (by decide) ?_ (trivial)))))))))) [] (fun q hq => by cases hq) (fun hY => absurd (hY 8 (by decide)) (by decide))
      · refine fI 18 (.agg #[.slice ad40 r28.length cp41, .slice ad43 r33.length cp44]) [(14, .slice ad40 r28.length cp41), (17, .slice ad43 r33.length cp44)] 1 [some 3, some 2] rfl rfl rfl rfl rfl rfl fun G a w S => ?_
        refine sBuild [(0, .slice ad40 r28.length cp41), (1, .slice ad43 r33.length cp44)] [.slice ad40 r28.length cp41, .slice ad43 r33.length cp44] S (wN rfl) rfl rfl rfl rfl (lb rfl) fun a S => ?_
        exact leafL ⟨rfl, S⟩
      refine ⟨_, [(5, .pointer (some ⟨b45, 0, none⟩)), (18, .agg #[.slice ad40 r28.length cp41, .slice ad43 r33.length cp44])], rfl, (srcs_of [some 0, some 1] rfl rfl rfl), fun G a w S => ?_⟩
      refine sStore (p := b45) (off := 0) (T := 30) (vs := [.slice none 0 0, .slice none 0 0]) (v := .agg #[.slice ad40 r28.length cp41, .slice ad43 r33.length cp44]) 0 [.slice ad40 r28.length cp41, .slice ad43 r33.length cp44] S (wN rfl) rfl rfl rfl rfl rfl rfl rfl (by simp) rfl fun a w S => ?_
      refine leafL ⟨rfl, _, _, .inr ⟨[], rfl, S, hz_of rfl, ?_⟩⟩
      refine node_by (A := anc_piece_Make_0) (nf := [2, 5, 7, 8]) (Y := [8, 7, 5, 2]) 9 (by kernel_rfl) (by kernel_rfl) (by kernel_rfl) (by kernel_rfl) (by kernel_rfl) [7, 6, 5, 2, 0, 1, 3, 4] (by kernel_rfl) (by decide) (by decide) (aD 0 8 8 (by decide) (aD 1 7 8 (by decide) (aY 2 6 (by decide) (aD 3 5 8 (by decide) (aD 4 4 8 (by decide) (aY 5 3 (by decide) (aD 6 2 8 (by decide) (aY 7 1 (by decide) (aY 8 0 (by decide) (trivial)))))))))) [(2, .pointer (some ⟨b11, 0, none⟩)), (5, .pointer (some ⟨b45, 0, none⟩))] (fin_of [none, some 0] rfl (by kernel_rfl) (by kernel_rfl)) (fun _ a w S => ?_)
      exact leafT (⟨r28, r33, Option.some.inj h, b45, ad40, cp41, ad43, cp44, S.fix [1, 0] [1, 0] (by decide) rfl rfl rfl⟩)
    refine ⟨_, [], rfl, (srcs_of [] rfl rfl rfl), fun G a w S => ?_⟩
    refine sAlloc (.agg #[.slice none 0 0, .slice none 0 0]) S (wN rfl) rfl rfl [.slice none 0 0, .slice none 0 0] rfl rfl (lb rfl) fun a b46 w S => ?_
    refine leafL ⟨rfl, _, _, .inl ⟨5, (.pointer (some ⟨b46, 0, none⟩)), [], rfl, S, hz_of rfl, ?_⟩⟩
    refine node_by (A := anc_piece_Make_0) (nf := [2, 5, 7, 8]) (Y := [7, 2]) 9 (by kernel_rfl) (by kernel_rfl) (by kernel_rfl) (by kernel_rfl) (by kernel_rfl) [7, 2, 0, 1, 3, 4] (by kernel_rfl) (by decide) (by decide) (aD 0 8 2 (by decide) (aD 1 7 2 (by decide) (aY 2 6 (by decide) (aF 3 5 (by decide) ?_ (aF 4 4 (by decide) ?_ (aN 5 3 (by decide) ?_ (aE 6 2 5 (by decide) (aY 7 1 (by decide) (aB 8 0 5 (by decide) (trivial)))))))))) [] (fun q hq => by cases hq) (fun hY => absurd (hY 5 (by decide)) (by decide))
    · refine fI 15 (.pointer (some ⟨b10, 1, none⟩)) [(1, .pointer (some ⟨b10, 0, none⟩))] 4 [none] rfl rfl rfl rfl rfl rfl fun G a w S => ?_
      refine sField (b := b10) (off := 0) 1 1 S (wN rfl) rfl rfl rfl rfl rfl (lb rfl) fun a S => ?_
      exact leafL ⟨rfl, S⟩
    · refine fI 16 (.slice ad7 p0.Right.length cp8) [(15, .pointer (some ⟨b10, 1, none⟩))] 5 [some 4] rfl rfl rfl rfl rfl rfl fun G a w S => ?_
      refine sLoad1 (p := b10) (off := 1) (T := 24) (vs := [.slice ad5 p0.Left.length cp6, .slice ad7 p0.Right.length cp8]) 2 (.slice ad7 p0.Right.length cp8) S (wN rfl) rfl rfl rfl rfl rfl rfl (lb rfl) fun a S => ?_
      exact leafL ⟨rfl, S⟩
    refine ⟨_, [(16, .slice ad7 p0.Right.length cp8)], rfl, (srcs_of [some 5] rfl rfl rfl), fun G a w S => ?_⟩
    refine sCall (X := Value) (f := 36) (vs := [.slice ad7 p0.Right.length cp8]) (val := c_piece_columns_val r33) (B' := fun _ => []) (D' := c_piece_columns_D r33) [] [eBox b46 30 [.slice none 0 0, .slice none 0 0], eBox b11 30 [.slice none 0 0, .slice none 0 0], eBox b10 24 [.slice ad5 p0.Left.length cp6, .slice ad7 p0.Right.length cp8]] [fRep (rL r_api_Point) (.slice ad7 p0.Right.length cp8) p0.Right] [0, 1, 2] [1] S (wN rfl) rfl callee36 rfl (by decide) rfl rfl (fun E1 w1 S1 => c_piece_columns E1 w1 p0.Right (.slice ad7 p0.Right.length cp8) r33 hx34 S1) rfl (lb rfl) fun u47 a w S => ?_
    obtain ⟨ad48, cp49, _, rfl, _⟩ := S.mem.know (i := 0) (e := fRep (rL (rI .i64)) (u47) r33) rfl
    refine leafL ⟨rfl, _, _, .inl ⟨17, (.slice ad48 r33.length cp49), [(6, 18, .agg #[.slice ad40 r28.length cp41, .slice ad48 r33.length cp49])], rfl, S, hz_of rfl, ?_⟩⟩
    refine node_by (A := anc_piece_Make_0) (nf := [2, 5, 7, 8]) (Y := [5, 7, 2]) 9 (by kernel_rfl) (by kernel_rfl) (by kernel_rfl) (by kernel_rfl) (by kernel_rfl) [6, 5, 7, 2, 0, 1, 3, 4] (by kernel_rfl) (by decide) (by decide) (aD 0 8 5 (by decide) (aD 1 7 5 (by decide) (aY 2 6 (by decide) (aD 3 5 5 (by decide) (aD 4 4 5 (by decide) (aY 5 3 (by decide) (aF 6 2 (by decide) ?_ (aY 7 1 (by decide) (aN 8 0 (by decide) ?_ (trivial)))))))))) [] (fun q hq => by cases hq) (fun hY => absurd (hY 8 (by decide)) (by decide))
    · refine fI 18 (.agg #[.slice ad40 r28.length cp41, .slice ad48 r33.length cp49]) [(14, .slice ad40 r28.length cp41), (17, .slice ad48 r33.length cp49)] 0 [some 3, some 1] rfl rfl rfl rfl rfl rfl fun G a w S => ?_
      refine sBuild [(0, .slice ad40 r28.length cp41), (1, .slice ad48 r33.length cp49)] [.slice ad40 r28.length cp41, .slice ad48 r33.length cp49] S (wN rfl) rfl rfl rfl rfl (lb rfl) fun a S => ?_
      exact leafL ⟨rfl, S⟩
    refine ⟨_, [(5, .pointer (some ⟨b46, 0, none⟩)), (18, .agg #[.slice ad40 r28.length cp41, .slice ad48 r33.length cp49])], rfl, (srcs_of [some 2, some 0] rfl rfl rfl), fun G a w S => ?_⟩
    refine sStore (p := b46) (off := 0) (T := 30) (vs := [.slice none 0 0, .slice none 0 0]) (v := .agg #[.slice ad40 r28.length cp41, .slice ad48 r33.length cp49]) 0 [.slice ad40 r28.length cp41, .slice ad48 r33.length cp49] S (wN rfl) rfl rfl rfl rfl rfl rfl rfl (by simp) rfl fun a w S => ?_
    refine leafL ⟨rfl, _, _, .inr ⟨[], rfl, S, hz_of rfl, ?_⟩⟩
    refine node_by (A := anc_piece_Make_0) (nf := [2, 5, 7, 8]) (Y := [8, 5, 7, 2]) 9 (by kernel_rfl) (by kernel_rfl) (by kernel_rfl) (by kernel_rfl) (by kernel_rfl) [6, 5, 7, 2, 0, 1, 3, 4] (by kernel_rfl) (by decide) (by decide) (aD 0 8 8 (by decide) (aD 1 7 8 (by decide) (aY 2 6 (by decide) (aD 3 5 8 (by decide) (aD 4 4 8 (by decide) (aY 5 3 (by decide) (aD 6 2 8 (by decide) (aY 7 1 (by decide) (aY 8 0 (by decide) (trivial)))))))))) [(2, .pointer (some ⟨b11, 0, none⟩)), (5, .pointer (some ⟨b46, 0, none⟩))] (fin_of [none, some 2] rfl (by kernel_rfl) (by kernel_rfl)) (fun _ a w S => ?_)
    exact leafT (⟨r28, r33, Option.some.inj h, b46, ad40, cp41, ad48, cp49, S.fix [1, 0] [1, 0] (by decide) rfl rfl rfl⟩)
  · refine fI 15 (.pointer (some ⟨b10, 1, none⟩)) [(1, .pointer (some ⟨b10, 0, none⟩))] 2 [none] rfl rfl rfl rfl rfl rfl fun G a w S => ?_
    refine sField (b := b10) (off := 0) 1 1 S (wN rfl) rfl rfl rfl rfl rfl (lb rfl) fun a S => ?_
    exact leafL ⟨rfl, S⟩
  · refine fI 16 (.slice ad7 p0.Right.length cp8) [(15, .pointer (some ⟨b10, 1, none⟩))] 3 [some 2] rfl rfl rfl rfl rfl rfl fun G a w S => ?_
    refine sLoad1 (p := b10) (off := 1) (T := 24) (vs := [.slice ad5 p0.Left.length cp6, .slice ad7 p0.Right.length cp8]) 1 (.slice ad7 p0.Right.length cp8) S (wN rfl) rfl rfl rfl rfl rfl rfl (lb rfl) fun a S => ?_
    exact leafL ⟨rfl, S⟩
  refine ⟨_, [], rfl, (srcs_of [] rfl rfl rfl), fun G a w S => ?_⟩
  refine sAlloc (.agg #[.slice none 0 0, .slice none 0 0]) S (wN rfl) rfl rfl [.slice none 0 0, .slice none 0 0] rfl rfl (lb rfl) fun a b50 w S => ?_
  refine leafL ⟨rfl, _, _, .inl ⟨5, (.pointer (some ⟨b50, 0, none⟩)), [], rfl, S, hz_of rfl, ?_⟩⟩
  refine node_by (A := anc_piece_Make_0) (nf := [2, 5, 7, 8]) (Y := [7]) 9 (by kernel_rfl) (by kernel_rfl) (by kernel_rfl) (by kernel_rfl) (by kernel_rfl) [7, 0, 1, 3, 4] (by kernel_rfl) (by decide) (by decide) (aF 0 8 (by decide) ?_ (aF 1 7 (by decide) ?_ (aN 2 6 (by decide) ?_ (aF 3 5 (by decide) ?_ (aF 4 4 (by decide) ?_ (aB 5 3 2 (by decide) (aE 6 2 2 (by decide) (aY 7 1 (by decide) (aB 8 0 2 (by decide) (trivial)))))))))) [] (fun q hq => by cases hq) (fun hY => absurd (hY 2 (by decide)) (by decide))
  · refine fI 12 (.pointer (some ⟨b10, 0, none⟩)) [(1, .pointer (some ⟨b10, 0, none⟩))] 1 [none] rfl rfl rfl rfl rfl rfl fun G a w S => ?_
    refine sField (b := b10) (off := 0) 0 0 S (wN rfl) rfl rfl rfl rfl rfl (lb rfl) fun a S => ?_
    exact leafL ⟨rfl, S⟩
  · refine fI 13 (.slice ad5 p0.Left.length cp6) [(12, .pointer (some ⟨b10, 0, none⟩))] 2 [some 1] rfl rfl rfl rfl rfl rfl fun G a w S => ?_
    refine sLoad1 (p := b10) (off := 0) (T := 24) (vs := [.slice ad5 p0.Left.length cp6, .slice ad7 p0.Right.length cp8]) 2 (.slice ad5 p0.Left.length cp6) S (wN rfl) rfl rfl rfl rfl rfl rfl (lb rfl) fun a S => ?_
    exact leafL ⟨rfl, S⟩
  · refine ⟨_, [(13, .slice ad5 p0.Left.length cp6)], rfl, (srcs_of [some 2] rfl rfl rfl), fun G a w S => ?_⟩
    refine sCall (X := Value) (f := 36) (vs := [.slice ad5 p0.Left.length cp6]) (val := c_piece_columns_val r28) (B' := fun _ => []) (D' := c_piece_columns_D r28) [] [eBox b50 30 [.slice none 0 0, .slice none 0 0], eBox b11 30 [.slice none 0 0, .slice none 0 0], eBox b10 24 [.slice ad5 p0.Left.length cp6, .slice ad7 p0.Right.length cp8]] [fRep (rL r_api_Point) (.slice ad5 p0.Left.length cp6) p0.Left] [0, 1, 2] [1] S (wN rfl) rfl callee36 rfl (by decide) rfl rfl (fun E1 w1 S1 => c_piece_columns E1 w1 p0.Left (.slice ad5 p0.Left.length cp6) r28 hx29 S1) rfl (lb rfl) fun u51 a w S => ?_
    obtain ⟨ad52, cp53, _, rfl, _⟩ := S.mem.know (i := 0) (e := fRep (rL (rI .i64)) (u51) r28) rfl
    refine leafL ⟨rfl, _, _, .inl ⟨14, (.slice ad52 r28.length cp53), [], rfl, S, hz_of rfl, ?_⟩⟩
    refine node_by (A := anc_piece_Make_0) (nf := [2, 5, 7, 8]) (Y := [2, 7]) 9 (by kernel_rfl) (by kernel_rfl) (by kernel_rfl) (by kernel_rfl) (by kernel_rfl) [2, 7, 0, 1, 3, 4] (by kernel_rfl) (by decide) (by decide) (aD 0 8 2 (by decide) (aD 1 7 2 (by decide) (aY 2 6 (by decide) (aF 3 5 (by decide) ?_ (aF 4 4 (by decide) ?_ (aN 5 3 (by decide) ?_ (aE 6 2 5 (by decide) (aY 7 1 (by decide) (aB 8 0 5 (by decide) (trivial)))))))))) [] (fun q hq => by cases hq) (fun hY => absurd (hY 5 (by decide)) (by decide))
    · refine fI 15 (.pointer (some ⟨b10, 1, none⟩)) [(1, .pointer (some ⟨b10, 0, none⟩))] 4 [none] rfl rfl rfl rfl rfl rfl fun G a w S => ?_
      refine sField (b := b10) (off := 0) 1 1 S (wN rfl) rfl rfl rfl rfl rfl (lb rfl) fun a S => ?_
      exact leafL ⟨rfl, S⟩
    · refine fI 16 (.slice ad7 p0.Right.length cp8) [(15, .pointer (some ⟨b10, 1, none⟩))] 5 [some 4] rfl rfl rfl rfl rfl rfl fun G a w S => ?_
      refine sLoad1 (p := b10) (off := 1) (T := 24) (vs := [.slice ad5 p0.Left.length cp6, .slice ad7 p0.Right.length cp8]) 2 (.slice ad7 p0.Right.length cp8) S (wN rfl) rfl rfl rfl rfl rfl rfl (lb rfl) fun a S => ?_
      exact leafL ⟨rfl, S⟩
    refine ⟨_, [(16, .slice ad7 p0.Right.length cp8)], rfl, (srcs_of [some 5] rfl rfl rfl), fun G a w S => ?_⟩
    refine sCall (X := Value) (f := 36) (vs := [.slice ad7 p0.Right.length cp8]) (val := c_piece_columns_val r33) (B' := fun _ => []) (D' := c_piece_columns_D r33) [] [eBox b50 30 [.slice none 0 0, .slice none 0 0], eBox b11 30 [.slice none 0 0, .slice none 0 0], eBox b10 24 [.slice ad5 p0.Left.length cp6, .slice ad7 p0.Right.length cp8]] [fRep (rL r_api_Point) (.slice ad7 p0.Right.length cp8) p0.Right] [0, 1, 2] [1] S (wN rfl) rfl callee36 rfl (by decide) rfl rfl (fun E1 w1 S1 => c_piece_columns E1 w1 p0.Right (.slice ad7 p0.Right.length cp8) r33 hx34 S1) rfl (lb rfl) fun u54 a w S => ?_
    obtain ⟨ad55, cp56, _, rfl, _⟩ := S.mem.know (i := 0) (e := fRep (rL (rI .i64)) (u54) r33) rfl
    refine leafL ⟨rfl, _, _, .inl ⟨17, (.slice ad55 r33.length cp56), [(6, 18, .agg #[.slice ad52 r28.length cp53, .slice ad55 r33.length cp56])], rfl, S, hz_of rfl, ?_⟩⟩
    refine node_by (A := anc_piece_Make_0) (nf := [2, 5, 7, 8]) (Y := [5, 2, 7]) 9 (by kernel_rfl) (by kernel_rfl) (by kernel_rfl) (by kernel_rfl) (by kernel_rfl) [6, 5, 2, 7, 0, 1, 3, 4] (by kernel_rfl) (by decide) (by decide) (aD 0 8 5 (by decide) (aD 1 7 5 (by decide) (aY 2 6 (by decide) (aD 3 5 5 (by decide) (aD 4 4 5 (by decide) (aY 5 3 (by decide) (aF 6 2 (by decide) ?_ (aY 7 1 (by decide) (aN 8 0 (by decide) ?_ (trivial)))))))))) [] (fun q hq => by cases hq) (fun hY => absurd (hY 8 (by decide)) (by decide))
    · refine fI 18 (.agg #[.slice ad52 r28.length cp53, .slice ad55 r33.length cp56]) [(14, .slice ad52 r28.length cp53), (17, .slice ad55 r33.length cp56)] 0 [some 2, some 1] rfl rfl rfl rfl rfl rfl fun G a w S => ?_
      refine sBuild [(0, .slice ad52 r28.length cp53), (1, .slice ad55 r33.length cp56)] [.slice ad52 r28.length cp53, .slice ad55 r33.length cp56] S (wN rfl) rfl rfl rfl rfl (lb rfl) fun a S => ?_
      exact leafL ⟨rfl, S⟩
    refine ⟨_, [(5, .pointer (some ⟨b50, 0, none⟩)), (18, .agg #[.slice ad52 r28.length cp53, .slice ad55 r33.length cp56])], rfl, (srcs_of [some 3, some 0] rfl rfl rfl), fun G a w S => ?_⟩
    refine sStore (p := b50) (off := 0) (T := 30) (vs := [.slice none 0 0, .slice none 0 0]) (v := .agg #[.slice ad52 r28.length cp53, .slice ad55 r33.length cp56]) 0 [.slice ad52 r28.length cp53, .slice ad55 r33.length cp56] S (wN rfl) rfl rfl rfl rfl rfl rfl rfl (by simp) rfl fun a w S => ?_
    refine leafL ⟨rfl, _, _, .inr ⟨[], rfl, S, hz_of rfl, ?_⟩⟩
    refine node_by (A := anc_piece_Make_0) (nf := [2, 5, 7, 8]) (Y := [8, 5, 2, 7]) 9 (by kernel_rfl) (by kernel_rfl) (by kernel_rfl) (by kernel_rfl) (by kernel_rfl) [6, 5, 2, 7, 0, 1, 3, 4] (by kernel_rfl) (by decide) (by decide) (aD 0 8 8 (by decide) (aD 1 7 8 (by decide) (aY 2 6 (by decide) (aD 3 5 8 (by decide) (aD 4 4 8 (by decide) (aY 5 3 (by decide) (aD 6 2 8 (by decide) (aY 7 1 (by decide) (aY 8 0 (by decide) (trivial)))))))))) [(2, .pointer (some ⟨b11, 0, none⟩)), (5, .pointer (some ⟨b50, 0, none⟩))] (fin_of [none, some 3] rfl (by kernel_rfl) (by kernel_rfl)) (fun _ a w S => ?_)
    exact leafT (⟨r28, r33, Option.some.inj h, b50, ad52, cp53, ad55, cp56, S.fix [1, 0] [1, 0] (by decide) rfl rfl rfl⟩)
  · refine fI 15 (.pointer (some ⟨b10, 1, none⟩)) [(1, .pointer (some ⟨b10, 0, none⟩))] 3 [none] rfl rfl rfl rfl rfl rfl fun G a w S => ?_
    refine sField (b := b10) (off := 0) 1 1 S (wN rfl) rfl rfl rfl rfl rfl (lb rfl) fun a S => ?_
    exact leafL ⟨rfl, S⟩
  refine fI 16 (.slice ad7 p0.Right.length cp8) [(15, .pointer (some ⟨b10, 1, none⟩))] 4 [some 3] rfl rfl rfl rfl rfl rfl fun G a w S => ?_
  refine sLoad1 (p := b10) (off := 1) (T := 24) (vs := [.slice ad5 p0.Left.length cp6, .slice ad7 p0.Right.length cp8]) 2 (.slice ad7 p0.Right.length cp8) S (wN rfl) rfl rfl rfl rfl rfl rfl (lb rfl) fun a S => ?_
  exact leafL ⟨rfl, S⟩

end Go.Proofs.YtmedbnjhgkcndaaDoor
namespace Go.Proofs.YtmedbnjhgkcndaaDoor
open Go.RowKit
set_option linter.unusedVariables false

noncomputable def F_piece_bend (p0 : Int) (p1 : Int) : Option piece_edge :=
  if p0 == 0 then
    some (piece_edge.mk (api_Stitch.mk 0 false 0 0) 0)
  else
    if decide (4 ≤ p0) then
      some (piece_edge.mk (api_Stitch.mk 9 false p0 0) 0)
    else
      if decide (0 < p0) then
        some (piece_edge.mk (api_Stitch.mk 5 false (w64 (p0 + 1)) 0) 1)
      else
        if decide ((-4) < p0) then
          some (piece_edge.mk (api_Stitch.mk p1 false (w64 (1 - p0)) 0) (w64 (1 - p0)))
        else
          some (piece_edge.mk (api_Stitch.mk 10 false (w64 (0 - p0)) 0) (w64 (0 - p0)))
def c_piece_bend_val (r : piece_edge) (x : Value) : Value := x
def c_piece_bend_D (r : piece_edge) (x : Value) : List Fact := [fRep r_piece_edge x r]
set_option maxHeartbeats 4000000 in
set_option maxRecDepth 100000 in
theorem c_piece_bend (E : Nat → Prop) (w0 : World) (p0 : Int) (p1 : Int) (r : piece_edge) (h : F_piece_bend p0 p1 = some r) (S : St0 E [] w0 w0 [] []) :
    Calls Tryd.prog 38 #[iv p0, .int .u8 p1] w0 (Ret (X := Value) E [] w0 (c_piece_bend_val r) (fun _ => []) (c_piece_bend_D r)) := by
  unfold F_piece_bend at h
  refine sEnter (args := [iv p0, .int .u8 p1]) 38 Tryd.func38 rfl rfl (by simp) S (fun a S => ?_)
  refine sSeq (fun K1 hK1 => ?_)
  refine sRegion ?_
  refine sAlloc (.agg #[.int .u8 0, .bool false, iv 0, iv 0, iv 0]) S (wN rfl) rfl rfl [.int .u8 0, .bool false, iv 0, iv 0, iv 0] rfl rfl (lb rfl) fun a b2 w S => ?_
  refine leafL (leafT (hK1 _ _ ?_))
  refine sSeq (fun K3 hK3 => ?_)
  refine wp_block ?_
  refine sSeq (fun K4 hK4 => ?_)
  refine sRegion ?_
  refine sMove (iv p0) S (wN rfl) (.inl rfl) rfl rfl (lb rfl) fun a S => ?_
  refine sBin (.bool (p0 == 0)) S (wN rfl) rfl rfl rfl (bEq _ _ _ _ .i64 p0 0) rfl (lb rfl) fun a S => ?_
  refine sMove (.bool (p0 == 0)) S (wN rfl) (.inr rfl) rfl rfl (lb rfl) fun a S => ?_
  refine leafL (leafT (hK4 _ _ ?_))
  rcases iteSome h with ⟨hc5, h⟩ | ⟨hc5, h⟩
  · refine sCondT S rfl hc5 ?_
    refine sSeq (fun K6 hK6 => ?_)
    refine sRegion ?_
    refine sBuild [] [.int .u8 0, .bool false, iv 0, iv 0, iv 0] S (wN rfl) rfl rfl rfl rfl (lb rfl) fun a S => ?_
    refine sStore (p := b2) (off := 0) (T := 81) (vs := [.int .u8 0, .bool false, iv 0, iv 0, iv 0]) (v := .agg #[.int .u8 0, .bool false, iv 0, iv 0, iv 0]) 0 [.int .u8 0, .bool false, iv 0, iv 0, iv 0] S (wN rfl) rfl rfl rfl rfl rfl rfl rfl (by simp) rfl fun a w S => ?_
    refine leafL (leafT (hK6 _ _ ?_))
    obtain rfl := Option.some.inj h
    have S := S.learn (fRep r_piece_edge (.agg #[.int .u8 0, .bool false, iv 0, iv 0, iv 0]) (piece_edge.mk (api_Stitch.mk 0 false 0 0) 0)) rfl
    exact wp_ret (rBlock (rThen (sRet (.agg #[.int .u8 0, .bool false, iv 0, iv 0, iv 0]) S (rsl1 rfl (rvN (c := 4) (t := 81) (T := 81) (p := b2) 0 [.int .u8 0, .bool false, iv 0, iv 0, iv 0] S rfl rfl rfl rfl)) ⟨(.agg #[.int .u8 0, .bool false, iv 0, iv 0, iv 0]), rfl, S.mem.sel [] [0] (by decide) rfl rfl⟩)))
  refine sCondF S rfl hc5 ?_
  refine sSeq (fun K7 hK7 => ?_)
  refine sRegion ?_
  refine sMove (iv p0) S (wN rfl) (.inl rfl) rfl rfl (lb rfl) fun a S => ?_
  refine sBin (.bool (decide (4 ≤ p0))) S (wN rfl) rfl rfl rfl (bGe _ _ _ _ .i64 p0 4) rfl (lb rfl) fun a S => ?_
  refine sMove (.bool (decide (4 ≤ p0))) S (wN rfl) (.inr rfl) rfl rfl (lb rfl) fun a S => ?_
  refine leafL (leafT (hK7 _ _ ?_))
  rcases iteSome h with ⟨hc8, h⟩ | ⟨hc8, h⟩
  · refine sCondT S rfl hc8 ?_
    refine sSeq (fun K9 hK9 => ?_)
    refine sRegion ?_
    refine sMove (iv p0) S (wN rfl) (.inl rfl) rfl rfl (lb rfl) fun a S => ?_
    refine sBuild [(0, .int .u8 9), (2, iv p0)] [.int .u8 9, .bool false, iv p0, iv 0] S (wN rfl) rfl rfl rfl rfl (lb rfl) fun a S => ?_
    refine sBuild [(0, .agg #[.int .u8 9, .bool false, iv p0, iv 0])] [.int .u8 9, .bool false, iv p0, iv 0, iv 0] S (wN rfl) rfl rfl rfl rfl (lb rfl) fun a S => ?_
    refine sStore (p := b2) (off := 0) (T := 81) (vs := [.int .u8 0, .bool false, iv 0, iv 0, iv 0]) (v := .agg #[.int .u8 9, .bool false, iv p0, iv 0, iv 0]) 0 [.int .u8 9, .bool false, iv p0, iv 0, iv 0] S (wN rfl) rfl rfl rfl rfl rfl rfl rfl (by simp) rfl fun a w S => ?_
    refine leafL (leafT (hK9 _ _ ?_))
    obtain rfl := Option.some.inj h
    have S := S.learn (fRep r_piece_edge (.agg #[.int .u8 9, .bool false, iv p0, iv 0, iv 0]) (piece_edge.mk (api_Stitch.mk 9 false p0 0) 0)) rfl
    exact wp_ret (rBlock (rThen (sRet (.agg #[.int .u8 9, .bool false, iv p0, iv 0, iv 0]) S (rsl1 rfl (rvN (c := 4) (t := 81) (T := 81) (p := b2) 0 [.int .u8 9, .bool false, iv p0, iv 0, iv 0] S rfl rfl rfl rfl)) ⟨(.agg #[.int .u8 9, .bool false, iv p0, iv 0, iv 0]), rfl, S.mem.sel [] [0] (by decide) rfl rfl⟩)))
  refine sCondF S rfl hc8 ?_
  refine sSeq (fun K10 hK10 => ?_)
  refine sRegion ?_
  refine sMove (iv p0) S (wN rfl) (.inl rfl) rfl rfl (lb rfl) fun a S => ?_
  refine sBin (.bool (decide (0 < p0))) S (wN rfl) rfl rfl rfl (bGt _ _ _ _ .i64 p0 0) rfl (lb rfl) fun a S => ?_
  refine sMove (.bool (decide (0 < p0))) S (wN rfl) (.inr rfl) rfl rfl (lb rfl) fun a S => ?_
  refine leafL (leafT (hK10 _ _ ?_))
  rcases iteSome h with ⟨hc11, h⟩ | ⟨hc11, h⟩
  · refine sCondT S rfl hc11 ?_
    refine sSeq (fun K12 hK12 => ?_)
    refine sRegion ?_
    refine sMove (iv p0) S (wN rfl) (.inl rfl) rfl rfl (lb rfl) fun a S => ?_
    refine sBin (iv (w64 (p0 + 1))) S (wN rfl) rfl rfl rfl (bAdd _ _ _ _ p0 1) rfl (lb rfl) fun a S => ?_
    refine sBuild [(0, .int .u8 5), (2, iv (w64 (p0 + 1)))] [.int .u8 5, .bool false, iv (w64 (p0 + 1)), iv 0] S (wN rfl) rfl rfl rfl rfl (lb rfl) fun a S => ?_
    refine sBuild [(0, .agg #[.int .u8 5, .bool false, iv (w64 (p0 + 1)), iv 0]), (1, iv 1)] [.int .u8 5, .bool false, iv (w64 (p0 + 1)), iv 0, iv 1] S (wN rfl) rfl rfl rfl rfl (lb rfl) fun a S => ?_
    refine sStore (p := b2) (off := 0) (T := 81) (vs := [.int .u8 0, .bool false, iv 0, iv 0, iv 0]) (v := .agg #[.int .u8 5, .bool false, iv (w64 (p0 + 1)), iv 0, iv 1]) 0 [.int .u8 5, .bool false, iv (w64 (p0 + 1)), iv 0, iv 1] S (wN rfl) rfl rfl rfl rfl rfl rfl rfl (by simp) rfl fun a w S => ?_
    refine leafL (leafT (hK12 _ _ ?_))
    obtain rfl := Option.some.inj h
    have S := S.learn (fRep r_piece_edge (.agg #[.int .u8 5, .bool false, iv (w64 (p0 + 1)), iv 0, iv 1]) (piece_edge.mk (api_Stitch.mk 5 false (w64 (p0 + 1)) 0) 1)) rfl
    exact wp_ret (rBlock (rThen (sRet (.agg #[.int .u8 5, .bool false, iv (w64 (p0 + 1)), iv 0, iv 1]) S (rsl1 rfl (rvN (c := 4) (t := 81) (T := 81) (p := b2) 0 [.int .u8 5, .bool false, iv (w64 (p0 + 1)), iv 0, iv 1] S rfl rfl rfl rfl)) ⟨(.agg #[.int .u8 5, .bool false, iv (w64 (p0 + 1)), iv 0, iv 1]), rfl, S.mem.sel [] [0] (by decide) rfl rfl⟩)))
  refine sCondF S rfl hc11 ?_
  refine sSeq (fun K13 hK13 => ?_)
  refine sRegion ?_
  refine sMove (iv p0) S (wN rfl) (.inl rfl) rfl rfl (lb rfl) fun a S => ?_
  refine sBin (.bool (decide ((-4) < p0))) S (wN rfl) rfl rfl rfl (bGt _ _ _ _ .i64 p0 (-4)) rfl (lb rfl) fun a S => ?_
  refine sMove (.bool (decide ((-4) < p0))) S (wN rfl) (.inr rfl) rfl rfl (lb rfl) fun a S => ?_
  refine leafL (leafT (hK13 _ _ ?_))
  rcases iteSome h with ⟨hc14, h⟩ | ⟨hc14, h⟩
  rotate_left
  · refine sCondF S rfl hc14 ?_
    refine wp_skip (leafB (leafT (hK3 _ _ ?_)))
    refine sSeq (fun K16 hK16 => ?_)
    refine sRegion ?_
    refine sMove (iv p0) S (wN rfl) (.inl rfl) rfl rfl (lb rfl) fun a S => ?_
    refine sNeg (b := p0) S (wN rfl) rfl rfl rfl (lb rfl) fun a S => ?_
    refine sBuild [(0, .int .u8 10), (2, iv (w64 (0 - p0)))] [.int .u8 10, .bool false, iv (w64 (0 - p0)), iv 0] S (wN rfl) rfl rfl rfl rfl (lb rfl) fun a S => ?_
    refine sMove (iv p0) S (wN rfl) (.inl rfl) rfl rfl (lb rfl) fun a S => ?_
    refine sNeg (b := p0) S (wN rfl) rfl rfl rfl (lb rfl) fun a S => ?_
    refine sBuild [(0, .agg #[.int .u8 10, .bool false, iv (w64 (0 - p0)), iv 0]), (1, iv (w64 (0 - p0)))] [.int .u8 10, .bool false, iv (w64 (0 - p0)), iv 0, iv (w64 (0 - p0))] S (wN rfl) rfl rfl rfl rfl (lb rfl) fun a S => ?_
    refine sStore (p := b2) (off := 0) (T := 81) (vs := [.int .u8 0, .bool false, iv 0, iv 0, iv 0]) (v := .agg #[.int .u8 10, .bool false, iv (w64 (0 - p0)), iv 0, iv (w64 (0 - p0))]) 0 [.int .u8 10, .bool false, iv (w64 (0 - p0)), iv 0, iv (w64 (0 - p0))] S (wN rfl) rfl rfl rfl rfl rfl rfl rfl (by simp) rfl fun a w S => ?_
    refine leafL (leafT (hK16 _ _ ?_))
    obtain rfl := Option.some.inj h
    have S := S.learn (fRep r_piece_edge (.agg #[.int .u8 10, .bool false, iv (w64 (0 - p0)), iv 0, iv (w64 (0 - p0))]) (piece_edge.mk (api_Stitch.mk 10 false (w64 (0 - p0)) 0) (w64 (0 - p0)))) rfl
    exact wp_ret (sRet (.agg #[.int .u8 10, .bool false, iv (w64 (0 - p0)), iv 0, iv (w64 (0 - p0))]) S (rsl1 rfl (rvN (c := 4) (t := 81) (T := 81) (p := b2) 0 [.int .u8 10, .bool false, iv (w64 (0 - p0)), iv 0, iv (w64 (0 - p0))] S rfl rfl rfl rfl)) ⟨(.agg #[.int .u8 10, .bool false, iv (w64 (0 - p0)), iv 0, iv (w64 (0 - p0))]), rfl, S.mem.sel [] [0] (by decide) rfl rfl⟩)
  refine sCondT S rfl hc14 ?_
  refine sSeq (fun K15 hK15 => ?_)
  refine sRegion ?_
  refine sMove (.int .u8 p1) S (wN rfl) (.inl rfl) rfl rfl (lb rfl) fun a S => ?_
  refine sMove (iv p0) S (wN rfl) (.inl rfl) rfl rfl (lb rfl) fun a S => ?_
  refine sBin (iv (w64 (1 - p0))) S (wN rfl) rfl rfl rfl (bSub _ _ _ _ 1 p0) rfl (lb rfl) fun a S => ?_
  refine sBuild [(0, .int .u8 p1), (2, iv (w64 (1 - p0)))] [.int .u8 p1, .bool false, iv (w64 (1 - p0)), iv 0] S (wN rfl) rfl rfl rfl rfl (lb rfl) fun a S => ?_
  refine sMove (iv p0) S (wN rfl) (.inl rfl) rfl rfl (lb rfl) fun a S => ?_
  refine sBin (iv (w64 (1 - p0))) S (wN rfl) rfl rfl rfl (bSub _ _ _ _ 1 p0) rfl (lb rfl) fun a S => ?_
  refine sBuild [(0, .agg #[.int .u8 p1, .bool false, iv (w64 (1 - p0)), iv 0]), (1, iv (w64 (1 - p0)))] [.int .u8 p1, .bool false, iv (w64 (1 - p0)), iv 0, iv (w64 (1 - p0))] S (wN rfl) rfl rfl rfl rfl (lb rfl) fun a S => ?_
  refine sStore (p := b2) (off := 0) (T := 81) (vs := [.int .u8 0, .bool false, iv 0, iv 0, iv 0]) (v := .agg #[.int .u8 p1, .bool false, iv (w64 (1 - p0)), iv 0, iv (w64 (1 - p0))]) 0 [.int .u8 p1, .bool false, iv (w64 (1 - p0)), iv 0, iv (w64 (1 - p0))] S (wN rfl) rfl rfl rfl rfl rfl rfl rfl (by simp) rfl fun a w S => ?_
  refine leafL (leafT (hK15 _ _ ?_))
  obtain rfl := Option.some.inj h
  have S := S.learn (fRep r_piece_edge (.agg #[.int .u8 p1, .bool false, iv (w64 (1 - p0)), iv 0, iv (w64 (1 - p0))]) (piece_edge.mk (api_Stitch.mk p1 false (w64 (1 - p0)) 0) (w64 (1 - p0)))) rfl
  exact wp_ret (rBlock (rThen (sRet (.agg #[.int .u8 p1, .bool false, iv (w64 (1 - p0)), iv 0, iv (w64 (1 - p0))]) S (rsl1 rfl (rvN (c := 4) (t := 81) (T := 81) (p := b2) 0 [.int .u8 p1, .bool false, iv (w64 (1 - p0)), iv 0, iv (w64 (1 - p0))] S rfl rfl rfl rfl)) ⟨(.agg #[.int .u8 p1, .bool false, iv (w64 (1 - p0)), iv 0, iv (w64 (1 - p0))]), rfl, S.mem.sel [] [0] (by decide) rfl rfl⟩)))

end Go.Proofs.YtmedbnjhgkcndaaDoor
