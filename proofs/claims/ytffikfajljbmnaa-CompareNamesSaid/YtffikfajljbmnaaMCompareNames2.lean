/- CompareNames: walks, tables, laws. -/
import Derived.Test.YtffikfajljbmnaaProg
import Derived.Test.YtffikfajljbmnaaRows
import Derived.Test.YtffikfajljbmnaaMCompareNames1
set_option linter.unusedVariables false
set_option linter.unusedSimpArgs false
set_option maxHeartbeats 4000000
set_option maxRecDepth 100000
namespace Go.Proofs.Ytffikfajljbmnaa
open Go.RowKit
structure api_Grid where
 W:Int
 H:Int
 Bits:(List Bool)
def r_api_Grid:R api_Grid where
 sz:=3
 rep:=fun E w v x=>∃ v0,v=.agg #[.int .i64 x.W,.int .i64 x.H,v0]∧(rL rB).rep E w v0 x.Bits
 pos:=by decide
 size:=by rintro _ _ _ _ ⟨v0,rfl,h0⟩; rfl
 one:=by
  rintro _ _ _ _ ⟨v0,rfl,h0⟩ u hu
  simp [Value.cells] at hu
  rcases hu with rfl | rfl | rfl
  ·rfl
  ·rfl
  ·exact (rL rB).one h0 _ (by rw [scal_L _ _ _ _ _ h0]; simp)
 mono:=by
  rintro _ _ _ _ _ _ h ⟨v0,e,h0⟩
  exact ⟨v0,e,(rL rB).mono h h0⟩
theorem comp_api_Grid_W:Comp r_api_Grid (rI .i64) 0 (·.W):=by
 rintro _ _ _ x ⟨v0,rfl,h0⟩
 refine ⟨.int .i64 x.W,rfl,fun j c hj=>?_⟩
 match j,hj with
 | 0,hj=>exact hj
 | j + 1,hj=>exact absurd (List.getElem?_eq_some_iff.1 hj).1 (by simp [Value.cells])
theorem comp_api_Grid_H:Comp r_api_Grid (rI .i64) 1 (·.H):=by
 rintro _ _ _ x ⟨v0,rfl,h0⟩
 refine ⟨.int .i64 x.H,rfl,fun j c hj=>?_⟩
 match j,hj with
 | 0,hj=>exact hj
 | j + 1,hj=>exact absurd (List.getElem?_eq_some_iff.1 hj).1 (by simp [Value.cells])
theorem comp_api_Grid_Bits:Comp r_api_Grid (rL rB) 2 (·.Bits):=by
 rintro _ _ _ x ⟨v0,rfl,h0⟩
 refine ⟨v0,h0,fun j c hj=>?_⟩
 rw [scal_L _ _ _ _ _ h0] at hj
 match j,hj with
 | 0,hj=>exact hj
 | j + 1,hj=>exact absurd (List.getElem?_eq_some_iff.1 hj).1 (by simp)
structure api_Point where
 X:Int
 Y:Int
def r_api_Point:R api_Point where
 sz:=2
 rep:=fun E w v x=>v=.agg #[.int .i64 x.X,.int .i64 x.Y]
 pos:=by decide
 size:=by rintro _ _ _ _ rfl; rfl
 one:=by
  rintro _ _ _ _ rfl u hu
  simp [Value.cells] at hu
  rcases hu with rfl | rfl
  ·rfl
  ·rfl
 mono:=fun _ h=>h
structure compare_way where
 op:Int
 at_:api_Point
def r_compare_way:R compare_way where
 sz:=3
 rep:=fun E w v x=>v=.agg #[.int .i64 x.op,.int .i64 x.at_.X,.int .i64 x.at_.Y]
 pos:=by decide
 size:=by rintro _ _ _ _ rfl; rfl
 one:=by
  rintro _ _ _ _ rfl u hu
  simp [Value.cells] at hu
  rcases hu with rfl | rfl | rfl
  ·rfl
  ·rfl
  ·rfl
 mono:=fun _ h=>h
structure api_Stitch where
 Kind:Int
 Purl:Bool
 A:Int
 B:Int
def r_api_Stitch:R api_Stitch where
 sz:=4
 rep:=fun E w v x=>v=.agg #[.int .u8 x.Kind,.bool x.Purl,.int .i64 x.A,.int .i64 x.B]
 pos:=by decide
 size:=by rintro _ _ _ _ rfl; rfl
 one:=by
  rintro _ _ _ _ rfl u hu
  simp [Value.cells] at hu
  rcases hu with rfl | rfl | rfl | rfl
  ·rfl
  ·rfl
  ·rfl
  ·rfl
 mono:=fun _ h=>h
theorem comp_api_Stitch_Kind:Comp r_api_Stitch (rI .u8) 0 (·.Kind):=by
 rintro _ _ _ x rfl
 refine ⟨.int .u8 x.Kind,rfl,fun j c hj=>?_⟩
 match j,hj with
 | 0,hj=>exact hj
 | j + 1,hj=>exact absurd (List.getElem?_eq_some_iff.1 hj).1 (by simp [Value.cells])
structure api_Row where
 Back:Bool
 Cells:(List api_Stitch)
def r_api_Row:R api_Row where
 sz:=2
 rep:=fun E w v x=>∃ v0,v=.agg #[.bool x.Back,v0]∧(rL r_api_Stitch).rep E w v0 x.Cells
 pos:=by decide
 size:=by rintro _ _ _ _ ⟨v0,rfl,h0⟩; rfl
 one:=by
  rintro _ _ _ _ ⟨v0,rfl,h0⟩ u hu
  simp [Value.cells] at hu
  rcases hu with rfl | rfl
  ·rfl
  ·exact (rL r_api_Stitch).one h0 _ (by rw [scal_L _ _ _ _ _ h0]; simp)
 mono:=by
  rintro _ _ _ _ _ _ h ⟨v0,e,h0⟩
  exact ⟨v0,e,(rL r_api_Stitch).mono h h0⟩
theorem comp_api_Row_Back:Comp r_api_Row rB 0 (·.Back):=by
 rintro _ _ _ x ⟨v0,rfl,h0⟩
 refine ⟨.bool x.Back,rfl,fun j c hj=>?_⟩
 match j,hj with
 | 0,hj=>exact hj
 | j + 1,hj=>exact absurd (List.getElem?_eq_some_iff.1 hj).1 (by simp [Value.cells])
theorem comp_api_Row_Cells:Comp r_api_Row (rL r_api_Stitch) 1 (·.Cells):=by
 rintro _ _ _ x ⟨v0,rfl,h0⟩
 refine ⟨v0,h0,fun j c hj=>?_⟩
 rw [scal_L _ _ _ _ _ h0] at hj
 match j,hj with
 | 0,hj=>exact hj
 | j + 1,hj=>exact absurd (List.getElem?_eq_some_iff.1 hj).1 (by simp)
structure api_Chart where
 Start:Int
 Rows:(List api_Row)
def r_api_Chart:R api_Chart where
 sz:=2
 rep:=fun E w v x=>∃ v0,v=.agg #[.int .i64 x.Start,v0]∧(rL r_api_Row).rep E w v0 x.Rows
 pos:=by decide
 size:=by rintro _ _ _ _ ⟨v0,rfl,h0⟩; rfl
 one:=by
  rintro _ _ _ _ ⟨v0,rfl,h0⟩ u hu
  simp [Value.cells] at hu
  rcases hu with rfl | rfl
  ·rfl
  ·exact (rL r_api_Row).one h0 _ (by rw [scal_L _ _ _ _ _ h0]; simp)
 mono:=by
  rintro _ _ _ _ _ _ h ⟨v0,e,h0⟩
  exact ⟨v0,e,(rL r_api_Row).mono h h0⟩
theorem comp_api_Chart_Start:Comp r_api_Chart (rI .i64) 0 (·.Start):=by
 rintro _ _ _ x ⟨v0,rfl,h0⟩
 refine ⟨.int .i64 x.Start,rfl,fun j c hj=>?_⟩
 match j,hj with
 | 0,hj=>exact hj
 | j + 1,hj=>exact absurd (List.getElem?_eq_some_iff.1 hj).1 (by simp [Value.cells])
theorem comp_api_Chart_Rows:Comp r_api_Chart (rL r_api_Row) 1 (·.Rows):=by
 rintro _ _ _ x ⟨v0,rfl,h0⟩
 refine ⟨v0,h0,fun j c hj=>?_⟩
 rw [scal_L _ _ _ _ _ h0] at hj
 match j,hj with
 | 0,hj=>exact hj
 | j + 1,hj=>exact absurd (List.getElem?_eq_some_iff.1 hj).1 (by simp)
structure chart_count where
 before:Int
 after:Int
 e:Int
def r_chart_count:R chart_count where
 sz:=3
 rep:=fun E w v x=>v=.agg #[.int .i64 x.before,.int .i64 x.after,.int .i64 x.e]
 pos:=by decide
 size:=by rintro _ _ _ _ rfl; rfl
 one:=by
  rintro _ _ _ _ rfl u hu
  simp [Value.cells] at hu
  rcases hu with rfl | rfl | rfl
  ·rfl
  ·rfl
  ·rfl
 mono:=fun _ h=>h
theorem comp_chart_count_after:Comp r_chart_count (rI .i64) 1 (·.after):=by
 rintro _ _ _ x rfl
 refine ⟨.int .i64 x.after,rfl,fun j c hj=>?_⟩
 match j,hj with
 | 0,hj=>exact hj
 | j + 1,hj=>exact absurd (List.getElem?_eq_some_iff.1 hj).1 (by simp [Value.cells])
theorem comp_chart_count_e:Comp r_chart_count (rI .i64) 2 (·.e):=by
 rintro _ _ _ x rfl
 refine ⟨.int .i64 x.e,rfl,fun j c hj=>?_⟩
 match j,hj with
 | 0,hj=>exact hj
 | j + 1,hj=>exact absurd (List.getElem?_eq_some_iff.1 hj).1 (by simp [Value.cells])
def r_A2_Int:R (Int × Int) where
 sz:=2
 rep:=fun E w v x=>v=.agg #[.int .i64 x.1,.int .i64 x.2]
 pos:=by decide
 size:=by rintro _ _ _ _ rfl; rfl
 one:=by
  rintro _ _ _ _ rfl u hu
  simp [Value.cells] at hu
  rcases hu with rfl | rfl
  ·rfl
  ·rfl
 mono:=fun _ h=>h
structure stitch_form where
 letter:ByteArray
 a:(Int × Int)
 b:(Int × Int)
 sided:Bool
 uses:Int
 made:Int
def r_stitch_form:R stitch_form where
 sz:=8
 rep:=fun E w v x=>v=.agg #[.string x.letter,.int .i64 x.a.1,.int .i64 x.a.2,.int .i64 x.b.1,.int .i64 x.b.2,.bool x.sided,.int .i64 x.uses,.int .i64 x.made]
 pos:=by decide
 size:=by rintro _ _ _ _ rfl; rfl
 one:=by
  rintro _ _ _ _ rfl u hu
  simp [Value.cells] at hu
  rcases hu with rfl | rfl | rfl | rfl | rfl | rfl | rfl | rfl
  ·rfl
  ·rfl
  ·rfl
  ·rfl
  ·rfl
  ·rfl
  ·rfl
  ·rfl
 mono:=fun _ h=>h
structure api_CellStep where
 Kind:Int
 S:api_Stitch
def r_api_CellStep:R api_CellStep where
 sz:=5
 rep:=fun E w v x=>v=.agg #[.int .u8 x.Kind,.int .u8 x.S.Kind,.bool x.S.Purl,.int .i64 x.S.A,.int .i64 x.S.B]
 pos:=by decide
 size:=by rintro _ _ _ _ rfl; rfl
 one:=by
  rintro _ _ _ _ rfl u hu
  simp [Value.cells] at hu
  rcases hu with rfl | rfl | rfl | rfl | rfl
  ·rfl
  ·rfl
  ·rfl
  ·rfl
  ·rfl
 mono:=fun _ h=>h
def gl_stitch_form (x:stitch_form):List Value:=[.string x.letter,.int .i64 x.a.1,.int .i64 x.a.2,.int .i64 x.b.1,.int .i64 x.b.2,.bool x.sided,.int .i64 x.uses,.int .i64 x.made]
def gv_stitch_form (x:stitch_form):Value:=.agg (gl_stitch_form x).toArray
theorem callee14:∀ vs w,(callFunc 14 vs).run Try.prog w=.ok (.enter 14 vs) w:=callee Try.func14 rfl rfl
theorem callee16:∀ vs w,(callFunc 16 vs).run Try.prog w=.ok (.enter 16 vs) w:=callee Try.func16 rfl rfl
theorem callee20:∀ vs w,(callFunc 20 vs).run Try.prog w=.ok (.enter 20 vs) w:=callee Try.func20 rfl rfl
theorem callee23:∀ vs w,(callFunc 23 vs).run Try.prog w=.ok (.enter 23 vs) w:=callee Try.func23 rfl rfl
theorem callee25:∀ vs w,(callFunc 25 vs).run Try.prog w=.ok (.enter 25 vs) w:=callee Try.func25 rfl rfl
theorem callee27:∀ vs w,(callFunc 27 vs).run Try.prog w=.ok (.enter 27 vs) w:=callee Try.func27 rfl rfl
theorem callee29:∀ vs w,(callFunc 29 vs).run Try.prog w=.ok (.enter 29 vs) w:=callee Try.func29 rfl rfl
theorem callee31:∀ vs w,(callFunc 31 vs).run Try.prog w=.ok (.enter 31 vs) w:=callee Try.func31 rfl rfl
theorem callee33:∀ vs w,(callFunc 33 vs).run Try.prog w=.ok (.enter 33 vs) w:=callee Try.func33 rfl rfl
theorem callee34:∀ vs w,(callFunc 34 vs).run Try.prog w=.ok (.enter 34 vs) w:=callee Try.func34 rfl rfl
theorem callee38:∀ vs w,(callFunc 38 vs).run Try.prog w=.ok (.enter 38 vs) w:=callee Try.func38 rfl rfl
theorem callee39:∀ vs w,(callFunc 39 vs).run Try.prog w=.ok (.enter 39 vs) w:=callee Try.func39 rfl rfl
theorem callee41:∀ vs w,(callFunc 41 vs).run Try.prog w=.ok (.enter 41 vs) w:=callee Try.func41 rfl rfl
theorem callee42:∀ vs w,(callFunc 42 vs).run Try.prog w=.ok (.enter 42 vs) w:=callee Try.func42 rfl rfl
theorem callee43:∀ vs w,(callFunc 43 vs).run Try.prog w=.ok (.enter 43 vs) w:=callee Try.func43 rfl rfl
theorem callee45:∀ vs w,(callFunc 45 vs).run Try.prog w=.ok (.enter 45 vs) w:=callee Try.func45 rfl rfl
theorem callee46:∀ vs w,(callFunc 46 vs).run Try.prog w=.ok (.enter 46 vs) w:=callee Try.func46 rfl rfl
theorem callee49:∀ vs w,(callFunc 49 vs).run Try.prog w=.ok (.enter 49 vs) w:=callee Try.func49 rfl rfl
theorem callee50:∀ vs w,(callFunc 50 vs).run Try.prog w=.ok (.enter 50 vs) w:=callee Try.func50 rfl rfl
theorem callee51:∀ vs w,(callFunc 51 vs).run Try.prog w=.ok (.enter 51 vs) w:=callee Try.func51 rfl rfl
theorem callee52:∀ vs w,(callFunc 52 vs).run Try.prog w=.ok (.enter 52 vs) w:=callee Try.func52 rfl rfl
theorem callee53:∀ vs w,(callFunc 53 vs).run Try.prog w=.ok (.enter 53 vs) w:=callee Try.func53 rfl rfl
theorem callee54:∀ vs w,(callFunc 54 vs).run Try.prog w=.ok (.enter 54 vs) w:=callee Try.func54 rfl rfl
theorem callee56:∀ vs w,(callFunc 56 vs).run Try.prog w=.ok (.enter 56 vs) w:=callee Try.func56 rfl rfl
theorem callee58:∀ vs w,(callFunc 58 vs).run Try.prog w=.ok (.enter 58 vs) w:=callee Try.func58 rfl rfl
theorem callee60:∀ vs w,(callFunc 60 vs).run Try.prog w=.ok (.enter 60 vs) w:=callee Try.func60 rfl rfl
theorem callee61:∀ vs w,(callFunc 61 vs).run Try.prog w=.ok (.enter 61 vs) w:=callee Try.func61 rfl rfl
theorem callee62:∀ vs w,(callFunc 62 vs).run Try.prog w=.ok (.enter 62 vs) w:=callee Try.func62 rfl rfl
theorem callee63:∀ vs w,(callFunc 63 vs).run Try.prog w=.ok (.enter 63 vs) w:=callee Try.func63 rfl rfl
theorem callee64:∀ vs w,(callFunc 64 vs).run Try.prog w=.ok (.enter 64 vs) w:=callee Try.func64 rfl rfl
theorem callee65:∀ vs w,(callFunc 65 vs).run Try.prog w=.ok (.enter 65 vs) w:=callee Try.func65 rfl rfl
theorem callee66:∀ vs w,(callFunc 66 vs).run Try.prog w=.ok (.enter 66 vs) w:=callee Try.func66 rfl rfl
theorem callee67:∀ vs w,(callFunc 67 vs).run Try.prog w=.ok (.enter 67 vs) w:=callee Try.func67 rfl rfl
theorem callee73:∀ vs w,(callFunc 73 vs).run Try.prog w=.ok (.enter 73 vs) w:=callee Try.func73 rfl rfl
theorem callee74:∀ vs w,(callFunc 74 vs).run Try.prog w=.ok (.enter 74 vs) w:=callee Try.func74 rfl rfl
theorem callee75:∀ vs w,(callFunc 75 vs).run Try.prog w=.ok (.enter 75 vs) w:=callee Try.func75 rfl rfl
theorem callee76:∀ vs w,(callFunc 76 vs).run Try.prog w=.ok (.enter 76 vs) w:=callee Try.func76 rfl rfl
theorem callee77:∀ vs w,(callFunc 77 vs).run Try.prog w=.ok (.enter 77 vs) w:=callee Try.func77 rfl rfl
theorem callee78:∀ vs w,(callFunc 78 vs).run Try.prog w=.ok (.enter 78 vs) w:=callee Try.func78 rfl rfl
theorem callee79:∀ vs w,(callFunc 79 vs).run Try.prog w=.ok (.enter 79 vs) w:=callee Try.func79 rfl rfl
theorem callee81:∀ vs w,(callFunc 81 vs).run Try.prog w=.ok (.enter 81 vs) w:=callee Try.func81 rfl rfl
theorem callee82:∀ vs w,(callFunc 82 vs).run Try.prog w=.ok (.enter 82 vs) w:=callee Try.func82 rfl rfl
theorem callee83:∀ vs w,(callFunc 83 vs).run Try.prog w=.ok (.enter 83 vs) w:=callee Try.func83 rfl rfl
theorem callee84:∀ vs w,(callFunc 84 vs).run Try.prog w=.ok (.enter 84 vs) w:=callee Try.func84 rfl rfl
theorem callee85:∀ vs w,(callFunc 85 vs).run Try.prog w=.ok (.enter 85 vs) w:=callee Try.func85 rfl rfl
theorem callee86:∀ vs w,(callFunc 86 vs).run Try.prog w=.ok (.enter 86 vs) w:=callee Try.func86 rfl rfl
theorem callee87:∀ vs w,(callFunc 87 vs).run Try.prog w=.ok (.enter 87 vs) w:=callee Try.func87 rfl rfl
theorem callee88:∀ vs w,(callFunc 88 vs).run Try.prog w=.ok (.enter 88 vs) w:=callee Try.func88 rfl rfl
theorem callee89:∀ vs w,(callFunc 89 vs).run Try.prog w=.ok (.enter 89 vs) w:=callee Try.func89 rfl rfl
theorem callee90:∀ vs w,(callFunc 90 vs).run Try.prog w=.ok (.enter 90 vs) w:=callee Try.func90 rfl rfl
theorem callee92:∀ vs w,(callFunc 92 vs).run Try.prog w=.ok (.enter 92 vs) w:=callee Try.func92 rfl rfl
theorem callee93:∀ vs w,(callFunc 93 vs).run Try.prog w=.ok (.enter 93 vs) w:=callee Try.func93 rfl rfl
theorem callee94:∀ vs w,(callFunc 94 vs).run Try.prog w=.ok (.enter 94 vs) w:=callee Try.func94 rfl rfl
theorem callee95:∀ vs w,(callFunc 95 vs).run Try.prog w=.ok (.enter 95 vs) w:=callee Try.func95 rfl rfl
theorem callee96:∀ vs w,(callFunc 96 vs).run Try.prog w=.ok (.enter 96 vs) w:=callee Try.func96 rfl rfl
theorem callee97:∀ vs w,(callFunc 97 vs).run Try.prog w=.ok (.enter 97 vs) w:=callee Try.func97 rfl rfl
theorem callee98:∀ vs w,(callFunc 98 vs).run Try.prog w=.ok (.enter 98 vs) w:=callee Try.func98 rfl rfl
theorem callee99:∀ vs w,(callFunc 99 vs).run Try.prog w=.ok (.enter 99 vs) w:=callee Try.func99 rfl rfl
theorem callee100:∀ vs w,(callFunc 100 vs).run Try.prog w=.ok (.enter 100 vs) w:=callee Try.func100 rfl rfl
theorem callee101:∀ vs w,(callFunc 101 vs).run Try.prog w=.ok (.enter 101 vs) w:=callee Try.func101 rfl rfl
theorem callee102:∀ vs w,(callFunc 102 vs).run Try.prog w=.ok (.enter 102 vs) w:=callee Try.func102 rfl rfl
theorem callee103:∀ vs w,(callFunc 103 vs).run Try.prog w=.ok (.enter 103 vs) w:=callee Try.func103 rfl rfl
theorem callee104:∀ vs w,(callFunc 104 vs).run Try.prog w=.ok (.enter 104 vs) w:=callee Try.func104 rfl rfl
theorem callee105:∀ vs w,(callFunc 105 vs).run Try.prog w=.ok (.enter 105 vs) w:=callee Try.func105 rfl rfl
theorem callee106:∀ vs w,(callFunc 106 vs).run Try.prog w=.ok (.enter 106 vs) w:=callee Try.func106 rfl rfl
theorem callee107:∀ vs w,(callFunc 107 vs).run Try.prog w=.ok (.enter 107 vs) w:=callee Try.func107 rfl rfl
theorem callee108:∀ vs w,(callFunc 108 vs).run Try.prog w=.ok (.enter 108 vs) w:=callee Try.func108 rfl rfl
theorem callee109:∀ vs w,(callFunc 109 vs).run Try.prog w=.ok (.enter 109 vs) w:=callee Try.func109 rfl rfl
open Go.ChangeShapes Go.WideShapes Go.ChangeAt Go.Joins
section
variable {P : Program}
theorem St0.start {w:World} {D:List Fact} (h:∀ d,d ∈ D→d.p (fun _=>False) w):St0 (fun _=>False) [] w w [] D:=by
 have hE:tot (fun _=>False) []=(fun _=>False):=by funext b; simp [tot,keysL]
 exact ⟨Chg.refl _ _,by simp,fun d hd=>by rw [hE]; exact h d hd,by simp [keysL],by simp [keysL],fun _ h=>h.elim⟩
theorem Chg.below {w w':World} (h:Chg [] w w'):Below w.heap.size w w':=⟨h.os,h.tape,h.output,h.size,fun k hk=>h.block k hk (by simp)⟩
end
end Go.Proofs.Ytffikfajljbmnaa
namespace Go.Proofs.Ytffikfajljbmnaa
open Go.RowKit
open Go.ChangeShapes Go.WideShapes Go.ChangeAt Go.Joins
end Go.Proofs.Ytffikfajljbmnaa
namespace Go.Proofs.Ytffikfajljbmnaa
open Go.RowKit
def Le {α:Type} (a b:Option α):Prop:=∀ r,a=some r→b=some r
theorem Le.rfl {α:Type} (a:Option α):Le a a:=fun _ h=>h
theorem Le.bind {α β:Type} {a b:Option α} {f g:α→Option β} (h:Le a b) (hf:∀ x,Le (f x) (g x)):Le (Option.bind a f) (Option.bind b g):=by
 intro r hr
 cases ha:a with
 | none=>rw [ha] at hr; cases hr
 | some x=>
  rw [ha] at hr
  rw [h x ha]
  exact hf x r hr
theorem Le.ite {α:Type} {c:Prop} [Decidable c] {a b a' b':Option α} (h:Le a b) (h':Le a' b'):Le (if c then a else a') (if c then b else b'):=by
 by_cases hc:c
 ·rw [if_pos hc,if_pos hc]; exact h
 ·rw [if_neg hc,if_neg hc]; exact h'
theorem Le.sum {α β γ:Type} {f g:α ⊕ β→Option γ} (h:∀ a,Le (f (.inl a)) (g (.inl a))) (h':∀ b,Le (f (.inr b)) (g (.inr b))):∀ z,Le (f z) (g z)
 | .inl a=>h a
 | .inr b=>h' b
theorem Le.prod {α β γ:Type} {f g:α × β→Option γ} (h:∀ a b,Le (f (a,b)) (g (a,b))):∀ z,Le (f z) (g z)
 | (a,b)=>h a b
theorem iterO_Le {σ τ:Type} {B B':σ→Option (σ ⊕ τ)} (h:∀ s,Le (B s) (B' s)):∀ (n:Nat) (s:σ),Le (iterO B n s) (iterO B' n s):=by
 intro n
 induction n with
 | zero=>intro s r hr; cases hr
 | succ n ih=>
  intro s r hr
  unfold iterO at hr ⊢
  cases hB:B s with
  | none=>rw [hB] at hr; cases hr
  | some x=>
   rw [hB] at hr
   rw [h s x hB]
   cases x with
   | inl s'=>exact ih s' r hr
   | inr t=>exact hr
def whileK {σ τ:Type} (B:σ→Option (σ ⊕ τ)) (s:σ):Option τ:=iterO B 1000000 s
theorem Le.loop {σ τ:Type} {B B':σ→Option (σ ⊕ τ)} (s:σ) (h:∀ s,Le (B s) (B' s)):Le (whileK B s) (whileO B' s):=
 fun r hr=>whileO_of (iterO_Le h 1000000 s r hr)
noncomputable def F_stitch_forms (p0:Int):Option (stitch_form × Bool):=
 Option.bind (α:=Bool) (
  if decide (p0 < 1) then
   some true
  else
   some (decide (([(stitch_form.mk (⟨#[]⟩:ByteArray) (0,0) (0,0) true 1 1),(stitch_form.mk (⟨#[]⟩:ByteArray) (0,0) (0,0) false 0 1),(stitch_form.mk (⟨#[102]⟩:ByteArray) (2,4) (0,0) true 2 1),(stitch_form.mk (⟨#[108]⟩:ByteArray) (2,4) (0,0) true 2 1),(stitch_form.mk (⟨#[109]⟩:ByteArray) (2,4) (0,0) true 1 2),(stitch_form.mk (⟨#[120]⟩:ByteArray) (1,6) (1,6) true 3 3),(stitch_form.mk (⟨#[121]⟩:ByteArray) (1,6) (1,6) true 3 3),(stitch_form.mk (⟨#[115]⟩:ByteArray) (0,0) (0,0) true 1 1),(stitch_form.mk (⟨#[]⟩:ByteArray) (1,200) (0,0) false 0 2),(stitch_form.mk (⟨#[111]⟩:ByteArray) (1,200) (0,0) true 2 0)].length:Int) < (IntKind.i64.wrap p0)))) fun a0=>
 if a0 then
  some ((stitch_form.mk (⟨#[]⟩:ByteArray) (0,0) (0,0) false 0 0),false)
 else
  (idxO [(stitch_form.mk (⟨#[]⟩:ByteArray) (0,0) (0,0) true 1 1),(stitch_form.mk (⟨#[]⟩:ByteArray) (0,0) (0,0) false 0 1),(stitch_form.mk (⟨#[102]⟩:ByteArray) (2,4) (0,0) true 2 1),(stitch_form.mk (⟨#[108]⟩:ByteArray) (2,4) (0,0) true 2 1),(stitch_form.mk (⟨#[109]⟩:ByteArray) (2,4) (0,0) true 1 2),(stitch_form.mk (⟨#[120]⟩:ByteArray) (1,6) (1,6) true 3 3),(stitch_form.mk (⟨#[121]⟩:ByteArray) (1,6) (1,6) true 3 3),(stitch_form.mk (⟨#[115]⟩:ByteArray) (0,0) (0,0) true 1 1),(stitch_form.mk (⟨#[]⟩:ByteArray) (1,200) (0,0) false 0 2),(stitch_form.mk (⟨#[111]⟩:ByteArray) (1,200) (0,0) true 2 0)] (IntKind.u8.wrap (p0 - 1))).bind fun a2=>
  some (a2,true)
def c_stitch_forms_val (r:(stitch_form × Bool)) (x:Value):Value:=.tuple #[x,.bool r.2]
def c_stitch_forms_D (r:(stitch_form × Bool)) (x:Value):List Fact:=[fRep r_stitch_form x r.1]
theorem c_stitch_forms (E:Nat→Prop) (w0:World) (p0:Int) (r:(stitch_form × Bool)) (h:F_stitch_forms p0=some r) (S:St0 E [] w0 w0 [] []) :
 Calls Try.prog 103 #[.int .u8 p0] w0 (Ret (X:=Value) E [] w0 (c_stitch_forms_val r) (fun _=>[]) (c_stitch_forms_D r)):=by
 unfold F_stitch_forms at h
 refine sEnter (args:=[.int .u8 p0]) 57 Try.func103 d d (by simp) S (fun a S=>?_)
 refine sSeq (fun K1 ag=>sRegion (sAlloc (gv_stitch_form (stitch_form.mk (⟨#[]⟩:ByteArray) (0,0) (0,0) false 0 0)) S (wN d) d d (gl_stitch_form (stitch_form.mk (⟨#[]⟩:ByteArray) (0,0) (0,0) false 0 0)) d d (lb d) fun a b2 w S=>sN S fun a S=>?_))
 refine lT (ag _ _ (sSeq (fun K3 ah=>sRegion (sBuild [(0,iv 2),(1,iv 4)] [iv 2,iv 4] S (wN d) d d d d (lb d) fun a S=>sBuild [(0,iv 1),(1,iv 6)] [iv 1,iv 6] S (wN d) d d d d (lb d) fun a S=>sAlloc (.agg #[iv 0,iv 0]) S (wN d) d d [iv 0,iv 0] d d (lb d) fun a b4 w S=>sAlloc (.agg #[iv 0,iv 0]) S (wN d) d d [iv 0,iv 0] d d (lb d) fun a b5 w S=>sStore (p:=b4) (off:=0) (T:=154) (vs:=[iv 0,iv 0]) (v:=.agg #[iv 2,iv 4]) 1 [iv 2,iv 4] S (wN d) d d d d d d d (by simp) d fun a w S=>sStore (p:=b5) (off:=0) (T:=154) (vs:=[iv 0,iv 0]) (v:=.agg #[iv 1,iv 6]) 1 [iv 1,iv 6] S (wN d) d d d d d d d (by simp) d fun a w S=>lT (ah _ _ (sSeq (fun K6 ai=>sRegion (sBuild [(0,iv 1),(1,iv 200)] [iv 1,iv 200] S (wN d) d d d d (lb d) fun a S=>sAlloc (.agg #[iv 0,iv 0]) S (wN d) d d [iv 0,iv 0] d d (lb d) fun a b7 w S=>sStore (p:=b7) (off:=0) (T:=154) (vs:=[iv 0,iv 0]) (v:=.agg #[iv 1,iv 200]) 0 [iv 1,iv 200] S (wN d) d d d d d d d (by simp) d fun a w S=>lT (ai _ _ ?_)))))))))
 refine sSeq (fun K8 aj=>sRegion (sBuild [] [iv 0,iv 0] S (wN d) d d d d (lb d) fun a S=>sBuild [] [iv 0,iv 0] S (wN d) d d d d (lb d) fun a S=>sBuild [(0,.string (⟨#[]⟩:ByteArray)),(1,.agg #[iv 0,iv 0]),(2,.agg #[iv 0,iv 0]),(3,.bool true),(4,iv 1),(5,iv 1)] (gl_stitch_form (stitch_form.mk (⟨#[]⟩:ByteArray) (0,0) (0,0) true 1 1)) S (wN d) d d d d (lb d) fun a S=>sBuild [] [iv 0,iv 0] S (wN d) d d d d (lb d) fun a S=>sBuild [] [iv 0,iv 0] S (wN d) d d d d (lb d) fun a S=>sBuild [(0,.string (⟨#[]⟩:ByteArray)),(1,.agg #[iv 0,iv 0]),(2,.agg #[iv 0,iv 0]),(3,.bool false),(4,iv 0),(5,iv 1)] (gl_stitch_form (stitch_form.mk (⟨#[]⟩:ByteArray) (0,0) (0,0) false 0 1)) S (wN d) d d d d (lb d) fun a S=>sLoadN (p:=b4) (off:=0) (T:=154) (vs:=[iv 2,iv 4]) 2 [iv 2,iv 4] S (wN d) d d d d d d d (lb d) fun a S=>sBuild [] [iv 0,iv 0] S (wN d) d d d d (lb d) fun a S=>sBuild [(0,.string (⟨#[102]⟩:ByteArray)),(1,.agg #[iv 2,iv 4]),(2,.agg #[iv 0,iv 0]),(3,.bool true),(4,iv 2),(5,iv 1)] (gl_stitch_form (stitch_form.mk (⟨#[102]⟩:ByteArray) (2,4) (0,0) true 2 1)) S (wN d) d d d d (lb d) fun a S=>sLoadN (p:=b4) (off:=0) (T:=154) (vs:=[iv 2,iv 4]) 2 [iv 2,iv 4] S (wN d) d d d d d d d (lb d) fun a S=>sBuild [] [iv 0,iv 0] S (wN d) d d d d (lb d) fun a S=>sBuild [(0,.string (⟨#[108]⟩:ByteArray)),(1,.agg #[iv 2,iv 4]),(2,.agg #[iv 0,iv 0]),(3,.bool true),(4,iv 2),(5,iv 1)] (gl_stitch_form (stitch_form.mk (⟨#[108]⟩:ByteArray) (2,4) (0,0) true 2 1)) S (wN d) d d d d (lb d) fun a S=>sLoadN (p:=b4) (off:=0) (T:=154) (vs:=[iv 2,iv 4]) 2 [iv 2,iv 4] S (wN d) d d d d d d d (lb d) fun a S=>sBuild [] [iv 0,iv 0] S (wN d) d d d d (lb d) fun a S=>?_))
 refine sBuild [(0,.string (⟨#[109]⟩:ByteArray)),(1,.agg #[iv 2,iv 4]),(2,.agg #[iv 0,iv 0]),(3,.bool true),(4,iv 1),(5,iv 2)] (gl_stitch_form (stitch_form.mk (⟨#[109]⟩:ByteArray) (2,4) (0,0) true 1 2)) S (wN d) d d d d (lb d) fun a S=>sLoadN (p:=b5) (off:=0) (T:=154) (vs:=[iv 1,iv 6]) 1 [iv 1,iv 6] S (wN d) d d d d d d d (lb d) fun a S=>sLoadN (p:=b5) (off:=0) (T:=154) (vs:=[iv 1,iv 6]) 1 [iv 1,iv 6] S (wN d) d d d d d d d (lb d) fun a S=>sBuild [(0,.string (⟨#[120]⟩:ByteArray)),(1,.agg #[iv 1,iv 6]),(2,.agg #[iv 1,iv 6]),(3,.bool true),(4,iv 3),(5,iv 3)] (gl_stitch_form (stitch_form.mk (⟨#[120]⟩:ByteArray) (1,6) (1,6) true 3 3)) S (wN d) d d d d (lb d) fun a S=>sLoadN (p:=b5) (off:=0) (T:=154) (vs:=[iv 1,iv 6]) 1 [iv 1,iv 6] S (wN d) d d d d d d d (lb d) fun a S=>sLoadN (p:=b5) (off:=0) (T:=154) (vs:=[iv 1,iv 6]) 1 [iv 1,iv 6] S (wN d) d d d d d d d (lb d) fun a S=>sBuild [(0,.string (⟨#[121]⟩:ByteArray)),(1,.agg #[iv 1,iv 6]),(2,.agg #[iv 1,iv 6]),(3,.bool true),(4,iv 3),(5,iv 3)] (gl_stitch_form (stitch_form.mk (⟨#[121]⟩:ByteArray) (1,6) (1,6) true 3 3)) S (wN d) d d d d (lb d) fun a S=>sBuild [] [iv 0,iv 0] S (wN d) d d d d (lb d) fun a S=>sBuild [] [iv 0,iv 0] S (wN d) d d d d (lb d) fun a S=>sBuild [(0,.string (⟨#[115]⟩:ByteArray)),(1,.agg #[iv 0,iv 0]),(2,.agg #[iv 0,iv 0]),(3,.bool true),(4,iv 1),(5,iv 1)] (gl_stitch_form (stitch_form.mk (⟨#[115]⟩:ByteArray) (0,0) (0,0) true 1 1)) S (wN d) d d d d (lb d) fun a S=>sLoadN (p:=b7) (off:=0) (T:=154) (vs:=[iv 1,iv 200]) 0 [iv 1,iv 200] S (wN d) d d d d d d d (lb d) fun a S=>sBuild [] [iv 0,iv 0] S (wN d) d d d d (lb d) fun a S=>sBuild [(0,.string (⟨#[]⟩:ByteArray)),(1,.agg #[iv 1,iv 200]),(2,.agg #[iv 0,iv 0]),(3,.bool false),(4,iv 0),(5,iv 2)] (gl_stitch_form (stitch_form.mk (⟨#[]⟩:ByteArray) (1,200) (0,0) false 0 2)) S (wN d) d d d d (lb d) fun a S=>sLoadN (p:=b7) (off:=0) (T:=154) (vs:=[iv 1,iv 200]) 0 [iv 1,iv 200] S (wN d) d d d d d d d (lb d) fun a S=>sBuild [] [iv 0,iv 0] S (wN d) d d d d (lb d) fun a S=>sBuild [(0,.string (⟨#[111]⟩:ByteArray)),(1,.agg #[iv 1,iv 200]),(2,.agg #[iv 0,iv 0]),(3,.bool true),(4,iv 2),(5,iv 0)] (gl_stitch_form (stitch_form.mk (⟨#[111]⟩:ByteArray) (1,200) (0,0) true 2 0)) S (wN d) d d d d (lb d) fun a S=>?_
 have S:=S.learn (fRep r_stitch_form (gv_stitch_form (stitch_form.mk (⟨#[]⟩:ByteArray) (0,0) (0,0) true 1 1)) (stitch_form.mk (⟨#[]⟩:ByteArray) (0,0) (0,0) true 1 1)) d
 have S:=S.learn (fRep r_stitch_form (gv_stitch_form (stitch_form.mk (⟨#[]⟩:ByteArray) (0,0) (0,0) false 0 1)) (stitch_form.mk (⟨#[]⟩:ByteArray) (0,0) (0,0) false 0 1)) d
 have S:=S.learn (fRep r_stitch_form (gv_stitch_form (stitch_form.mk (⟨#[102]⟩:ByteArray) (2,4) (0,0) true 2 1)) (stitch_form.mk (⟨#[102]⟩:ByteArray) (2,4) (0,0) true 2 1)) d
 have S:=S.learn (fRep r_stitch_form (gv_stitch_form (stitch_form.mk (⟨#[108]⟩:ByteArray) (2,4) (0,0) true 2 1)) (stitch_form.mk (⟨#[108]⟩:ByteArray) (2,4) (0,0) true 2 1)) d
 have S:=S.learn (fRep r_stitch_form (gv_stitch_form (stitch_form.mk (⟨#[109]⟩:ByteArray) (2,4) (0,0) true 1 2)) (stitch_form.mk (⟨#[109]⟩:ByteArray) (2,4) (0,0) true 1 2)) d
 have S:=S.learn (fRep r_stitch_form (gv_stitch_form (stitch_form.mk (⟨#[120]⟩:ByteArray) (1,6) (1,6) true 3 3)) (stitch_form.mk (⟨#[120]⟩:ByteArray) (1,6) (1,6) true 3 3)) d
 have S:=S.learn (fRep r_stitch_form (gv_stitch_form (stitch_form.mk (⟨#[121]⟩:ByteArray) (1,6) (1,6) true 3 3)) (stitch_form.mk (⟨#[121]⟩:ByteArray) (1,6) (1,6) true 3 3)) d
 have S:=S.learn (fRep r_stitch_form (gv_stitch_form (stitch_form.mk (⟨#[115]⟩:ByteArray) (0,0) (0,0) true 1 1)) (stitch_form.mk (⟨#[115]⟩:ByteArray) (0,0) (0,0) true 1 1)) d
 have S:=S.learn (fRep r_stitch_form (gv_stitch_form (stitch_form.mk (⟨#[]⟩:ByteArray) (1,200) (0,0) false 0 2)) (stitch_form.mk (⟨#[]⟩:ByteArray) (1,200) (0,0) false 0 2)) d
 have S:=S.learn (fRep r_stitch_form (gv_stitch_form (stitch_form.mk (⟨#[111]⟩:ByteArray) (1,200) (0,0) true 2 0)) (stitch_form.mk (⟨#[111]⟩:ByteArray) (1,200) (0,0) true 2 0)) d
 refine sLit (r:=r_stitch_form) (T:=156) (xs:=[(stitch_form.mk (⟨#[]⟩:ByteArray) (0,0) (0,0) true 1 1),(stitch_form.mk (⟨#[]⟩:ByteArray) (0,0) (0,0) false 0 1),(stitch_form.mk (⟨#[102]⟩:ByteArray) (2,4) (0,0) true 2 1),(stitch_form.mk (⟨#[108]⟩:ByteArray) (2,4) (0,0) true 2 1),(stitch_form.mk (⟨#[109]⟩:ByteArray) (2,4) (0,0) true 1 2),(stitch_form.mk (⟨#[120]⟩:ByteArray) (1,6) (1,6) true 3 3),(stitch_form.mk (⟨#[121]⟩:ByteArray) (1,6) (1,6) true 3 3),(stitch_form.mk (⟨#[115]⟩:ByteArray) (0,0) (0,0) true 1 1),(stitch_form.mk (⟨#[]⟩:ByteArray) (1,200) (0,0) false 0 2),(stitch_form.mk (⟨#[111]⟩:ByteArray) (1,200) (0,0) true 2 0)]) [(0,gv_stitch_form (stitch_form.mk (⟨#[]⟩:ByteArray) (0,0) (0,0) true 1 1)),(1,gv_stitch_form (stitch_form.mk (⟨#[]⟩:ByteArray) (0,0) (0,0) false 0 1)),(2,gv_stitch_form (stitch_form.mk (⟨#[102]⟩:ByteArray) (2,4) (0,0) true 2 1)),(3,gv_stitch_form (stitch_form.mk (⟨#[108]⟩:ByteArray) (2,4) (0,0) true 2 1)),(4,gv_stitch_form (stitch_form.mk (⟨#[109]⟩:ByteArray) (2,4) (0,0) true 1 2)),(5,gv_stitch_form (stitch_form.mk (⟨#[120]⟩:ByteArray) (1,6) (1,6) true 3 3)),(6,gv_stitch_form (stitch_form.mk (⟨#[121]⟩:ByteArray) (1,6) (1,6) true 3 3)),(7,gv_stitch_form (stitch_form.mk (⟨#[115]⟩:ByteArray) (0,0) (0,0) true 1 1)),(8,gv_stitch_form (stitch_form.mk (⟨#[]⟩:ByteArray) (1,200) (0,0) false 0 2)),(9,gv_stitch_form (stitch_form.mk (⟨#[111]⟩:ByteArray) (1,200) (0,0) true 2 0))] 10 [gv_stitch_form (stitch_form.mk (⟨#[]⟩:ByteArray) (0,0) (0,0) true 1 1),gv_stitch_form (stitch_form.mk (⟨#[]⟩:ByteArray) (0,0) (0,0) false 0 1),gv_stitch_form (stitch_form.mk (⟨#[102]⟩:ByteArray) (2,4) (0,0) true 2 1),gv_stitch_form (stitch_form.mk (⟨#[108]⟩:ByteArray) (2,4) (0,0) true 2 1),gv_stitch_form (stitch_form.mk (⟨#[109]⟩:ByteArray) (2,4) (0,0) true 1 2),gv_stitch_form (stitch_form.mk (⟨#[120]⟩:ByteArray) (1,6) (1,6) true 3 3),gv_stitch_form (stitch_form.mk (⟨#[121]⟩:ByteArray) (1,6) (1,6) true 3 3),gv_stitch_form (stitch_form.mk (⟨#[115]⟩:ByteArray) (0,0) (0,0) true 1 1),gv_stitch_form (stitch_form.mk (⟨#[]⟩:ByteArray) (1,200) (0,0) false 0 2),gv_stitch_form (stitch_form.mk (⟨#[111]⟩:ByteArray) (1,200) (0,0) true 2 0)] [.string (⟨#[]⟩:ByteArray),iv 0,iv 0,iv 0,iv 0,.bool true,iv 1,iv 1,.string (⟨#[]⟩:ByteArray),iv 0,iv 0,iv 0,iv 0,.bool false,iv 0,iv 1,.string (⟨#[102]⟩:ByteArray),iv 2,iv 4,iv 0,iv 0,.bool true,iv 2,iv 1,.string (⟨#[108]⟩:ByteArray),iv 2,iv 4,iv 0,iv 0,.bool true,iv 2,iv 1,.string (⟨#[109]⟩:ByteArray),iv 2,iv 4,iv 0,iv 0,.bool true,iv 1,iv 2,.string (⟨#[120]⟩:ByteArray),iv 1,iv 6,iv 1,iv 6,.bool true,iv 3,iv 3,.string (⟨#[121]⟩:ByteArray),iv 1,iv 6,iv 1,iv 6,.bool true,iv 3,iv 3,.string (⟨#[115]⟩:ByteArray),iv 0,iv 0,iv 0,iv 0,.bool true,iv 1,iv 1,.string (⟨#[]⟩:ByteArray),iv 1,iv 200,iv 0,iv 0,.bool false,iv 0,iv 2,.string (⟨#[111]⟩:ByteArray),iv 1,iv 200,iv 0,iv 0,.bool true,iv 2,iv 0] (gv_stitch_form (stitch_form.mk (⟨#[]⟩:ByteArray) (0,0) (0,0) false 0 0)) 72 S (wN d) d d Try.underlying165 d (by decide) (by decide) (by kernel_rfl) d (fun E1 w1 hE=>All.cons (r_stitch_form.mono hE (S.mem.know (i:=9) (e:=fRep r_stitch_form (gv_stitch_form (stitch_form.mk (⟨#[]⟩:ByteArray) (0,0) (0,0) true 1 1)) (stitch_form.mk (⟨#[]⟩:ByteArray) (0,0) (0,0) true 1 1)) d)) (All.cons (r_stitch_form.mono hE (S.mem.know (i:=8) (e:=fRep r_stitch_form (gv_stitch_form (stitch_form.mk (⟨#[]⟩:ByteArray) (0,0) (0,0) false 0 1)) (stitch_form.mk (⟨#[]⟩:ByteArray) (0,0) (0,0) false 0 1)) d)) (All.cons (r_stitch_form.mono hE (S.mem.know (i:=7) (e:=fRep r_stitch_form (gv_stitch_form (stitch_form.mk (⟨#[102]⟩:ByteArray) (2,4) (0,0) true 2 1)) (stitch_form.mk (⟨#[102]⟩:ByteArray) (2,4) (0,0) true 2 1)) d)) (All.cons (r_stitch_form.mono hE (S.mem.know (i:=6) (e:=fRep r_stitch_form (gv_stitch_form (stitch_form.mk (⟨#[108]⟩:ByteArray) (2,4) (0,0) true 2 1)) (stitch_form.mk (⟨#[108]⟩:ByteArray) (2,4) (0,0) true 2 1)) d)) (All.cons (r_stitch_form.mono hE (S.mem.know (i:=5) (e:=fRep r_stitch_form (gv_stitch_form (stitch_form.mk (⟨#[109]⟩:ByteArray) (2,4) (0,0) true 1 2)) (stitch_form.mk (⟨#[109]⟩:ByteArray) (2,4) (0,0) true 1 2)) d)) (All.cons (r_stitch_form.mono hE (S.mem.know (i:=4) (e:=fRep r_stitch_form (gv_stitch_form (stitch_form.mk (⟨#[120]⟩:ByteArray) (1,6) (1,6) true 3 3)) (stitch_form.mk (⟨#[120]⟩:ByteArray) (1,6) (1,6) true 3 3)) d)) (All.cons (r_stitch_form.mono hE (S.mem.know (i:=3) (e:=fRep r_stitch_form (gv_stitch_form (stitch_form.mk (⟨#[121]⟩:ByteArray) (1,6) (1,6) true 3 3)) (stitch_form.mk (⟨#[121]⟩:ByteArray) (1,6) (1,6) true 3 3)) d)) (All.cons (r_stitch_form.mono hE (S.mem.know (i:=2) (e:=fRep r_stitch_form (gv_stitch_form (stitch_form.mk (⟨#[115]⟩:ByteArray) (0,0) (0,0) true 1 1)) (stitch_form.mk (⟨#[115]⟩:ByteArray) (0,0) (0,0) true 1 1)) d)) (All.cons (r_stitch_form.mono hE (S.mem.know (i:=1) (e:=fRep r_stitch_form (gv_stitch_form (stitch_form.mk (⟨#[]⟩:ByteArray) (1,200) (0,0) false 0 2)) (stitch_form.mk (⟨#[]⟩:ByteArray) (1,200) (0,0) false 0 2)) d)) (All.cons (r_stitch_form.mono hE (S.mem.know (i:=0) (e:=fRep r_stitch_form (gv_stitch_form (stitch_form.mk (⟨#[111]⟩:ByteArray) (1,200) (0,0) true 2 0)) (stitch_form.mk (⟨#[111]⟩:ByteArray) (1,200) (0,0) true 2 0)) d)) (All.nil _ _ _))))))))))) d d (lb d) fun a w a6 a4 S=>?_
 refine sN S fun a S=>?_
 refine lT (aj _ _ (sSeq (fun am a7=>?_)))
 obtain ⟨ak,h,al⟩:=bS h
 refine sCut (fun a w=>∃ a8,a8=ak∧St [] E [] w0 57 a w [(0,.int .u8 p0),(2,.pointer (some ⟨b2,0,none⟩)),(7,.slice a6 [(stitch_form.mk (⟨#[]⟩:ByteArray) (0,0) (0,0) true 1 1),(stitch_form.mk (⟨#[]⟩:ByteArray) (0,0) (0,0) false 0 1),(stitch_form.mk (⟨#[102]⟩:ByteArray) (2,4) (0,0) true 2 1),(stitch_form.mk (⟨#[108]⟩:ByteArray) (2,4) (0,0) true 2 1),(stitch_form.mk (⟨#[109]⟩:ByteArray) (2,4) (0,0) true 1 2),(stitch_form.mk (⟨#[120]⟩:ByteArray) (1,6) (1,6) true 3 3),(stitch_form.mk (⟨#[121]⟩:ByteArray) (1,6) (1,6) true 3 3),(stitch_form.mk (⟨#[115]⟩:ByteArray) (0,0) (0,0) true 1 1),(stitch_form.mk (⟨#[]⟩:ByteArray) (1,200) (0,0) false 0 2),(stitch_form.mk (⟨#[111]⟩:ByteArray) (1,200) (0,0) true 2 0)].length a4),(50,.bool a8)] [eBox b2 156 (gl_stitch_form (stitch_form.mk (⟨#[]⟩:ByteArray) (0,0) (0,0) false 0 0)),eRow r_stitch_form 156 (.slice a6 [(stitch_form.mk (⟨#[]⟩:ByteArray) (0,0) (0,0) true 1 1),(stitch_form.mk (⟨#[]⟩:ByteArray) (0,0) (0,0) false 0 1),(stitch_form.mk (⟨#[102]⟩:ByteArray) (2,4) (0,0) true 2 1),(stitch_form.mk (⟨#[108]⟩:ByteArray) (2,4) (0,0) true 2 1),(stitch_form.mk (⟨#[109]⟩:ByteArray) (2,4) (0,0) true 1 2),(stitch_form.mk (⟨#[120]⟩:ByteArray) (1,6) (1,6) true 3 3),(stitch_form.mk (⟨#[121]⟩:ByteArray) (1,6) (1,6) true 3 3),(stitch_form.mk (⟨#[115]⟩:ByteArray) (0,0) (0,0) true 1 1),(stitch_form.mk (⟨#[]⟩:ByteArray) (1,200) (0,0) false 0 2),(stitch_form.mk (⟨#[111]⟩:ByteArray) (1,200) (0,0) true 2 0)].length a4) [(stitch_form.mk (⟨#[]⟩:ByteArray) (0,0) (0,0) true 1 1),(stitch_form.mk (⟨#[]⟩:ByteArray) (0,0) (0,0) false 0 1),(stitch_form.mk (⟨#[102]⟩:ByteArray) (2,4) (0,0) true 2 1),(stitch_form.mk (⟨#[108]⟩:ByteArray) (2,4) (0,0) true 2 1),(stitch_form.mk (⟨#[109]⟩:ByteArray) (2,4) (0,0) true 1 2),(stitch_form.mk (⟨#[120]⟩:ByteArray) (1,6) (1,6) true 3 3),(stitch_form.mk (⟨#[121]⟩:ByteArray) (1,6) (1,6) true 3 3),(stitch_form.mk (⟨#[115]⟩:ByteArray) (0,0) (0,0) true 1 1),(stitch_form.mk (⟨#[]⟩:ByteArray) (1,200) (0,0) false 0 2),(stitch_form.mk (⟨#[111]⟩:ByteArray) (1,200) (0,0) true 2 0)]] []) ?_ (fun a w hI=>?_)
 ·refine sRegion (sM S fun a S=>?_)
  refine sBin _ S (wN d) d d d (bLt _ _ _ _ .u8 p0 1) d (lb d) fun a S=>sM S fun a S=>?_
  rcases iS h with ⟨a2,h⟩ | ⟨a2,h⟩
  ·refine sSkN 5 2 false 44 S d d a2 d fun a S=>sPickT (.bool true) S (wN d) d d a2 d d (lb d) fun a S=>?_
   exact lT (⟨true,Option.some.inj h,S.fix [4,0] [] (by decide) d d d⟩)
  refine sMove (.int .u8 p0) S (wG 2 false 44 d d d a2) (.inl d) d d (lb d) fun a S=>sConv (k:=.u8) (k2:=.i64) (b:=p0) S (wG 2 false 44 d d d a2) d Try.underlying5 Try.underlying3 d d (lb d) fun a S=>sMove (.slice a6 [(stitch_form.mk (⟨#[]⟩:ByteArray) (0,0) (0,0) true 1 1),(stitch_form.mk (⟨#[]⟩:ByteArray) (0,0) (0,0) false 0 1),(stitch_form.mk (⟨#[102]⟩:ByteArray) (2,4) (0,0) true 2 1),(stitch_form.mk (⟨#[108]⟩:ByteArray) (2,4) (0,0) true 2 1),(stitch_form.mk (⟨#[109]⟩:ByteArray) (2,4) (0,0) true 1 2),(stitch_form.mk (⟨#[120]⟩:ByteArray) (1,6) (1,6) true 3 3),(stitch_form.mk (⟨#[121]⟩:ByteArray) (1,6) (1,6) true 3 3),(stitch_form.mk (⟨#[115]⟩:ByteArray) (0,0) (0,0) true 1 1),(stitch_form.mk (⟨#[]⟩:ByteArray) (1,200) (0,0) false 0 2),(stitch_form.mk (⟨#[111]⟩:ByteArray) (1,200) (0,0) true 2 0)].length a4) S (wG 2 false 44 d d d a2) (.inl d) d d (lb d) fun a S=>sLen S (wG 2 false 44 d d d a2) d Try.underlying165 d d (lb d) fun a S=>sBin _ S (wG 2 false 44 d d d a2) d d d (bGt _ _ _ _ .i64 (IntKind.i64.wrap p0) ([(stitch_form.mk (⟨#[]⟩:ByteArray) (0,0) (0,0) true 1 1),(stitch_form.mk (⟨#[]⟩:ByteArray) (0,0) (0,0) false 0 1),(stitch_form.mk (⟨#[102]⟩:ByteArray) (2,4) (0,0) true 2 1),(stitch_form.mk (⟨#[108]⟩:ByteArray) (2,4) (0,0) true 2 1),(stitch_form.mk (⟨#[109]⟩:ByteArray) (2,4) (0,0) true 1 2),(stitch_form.mk (⟨#[120]⟩:ByteArray) (1,6) (1,6) true 3 3),(stitch_form.mk (⟨#[121]⟩:ByteArray) (1,6) (1,6) true 3 3),(stitch_form.mk (⟨#[115]⟩:ByteArray) (0,0) (0,0) true 1 1),(stitch_form.mk (⟨#[]⟩:ByteArray) (1,200) (0,0) false 0 2),(stitch_form.mk (⟨#[111]⟩:ByteArray) (1,200) (0,0) true 2 0)].length:Int)) d (lb d) fun a S=>sPickF (.bool (decide (([(stitch_form.mk (⟨#[]⟩:ByteArray) (0,0) (0,0) true 1 1),(stitch_form.mk (⟨#[]⟩:ByteArray) (0,0) (0,0) false 0 1),(stitch_form.mk (⟨#[102]⟩:ByteArray) (2,4) (0,0) true 2 1),(stitch_form.mk (⟨#[108]⟩:ByteArray) (2,4) (0,0) true 2 1),(stitch_form.mk (⟨#[109]⟩:ByteArray) (2,4) (0,0) true 1 2),(stitch_form.mk (⟨#[120]⟩:ByteArray) (1,6) (1,6) true 3 3),(stitch_form.mk (⟨#[121]⟩:ByteArray) (1,6) (1,6) true 3 3),(stitch_form.mk (⟨#[115]⟩:ByteArray) (0,0) (0,0) true 1 1),(stitch_form.mk (⟨#[]⟩:ByteArray) (1,200) (0,0) false 0 2),(stitch_form.mk (⟨#[111]⟩:ByteArray) (1,200) (0,0) true 2 0)].length:Int) < (IntKind.i64.wrap p0)))) S (wN d) d d a2 d d (lb d) fun a S=>?_
  exact lT (⟨decide (([(stitch_form.mk (⟨#[]⟩:ByteArray) (0,0) (0,0) true 1 1),(stitch_form.mk (⟨#[]⟩:ByteArray) (0,0) (0,0) false 0 1),(stitch_form.mk (⟨#[102]⟩:ByteArray) (2,4) (0,0) true 2 1),(stitch_form.mk (⟨#[108]⟩:ByteArray) (2,4) (0,0) true 2 1),(stitch_form.mk (⟨#[109]⟩:ByteArray) (2,4) (0,0) true 1 2),(stitch_form.mk (⟨#[120]⟩:ByteArray) (1,6) (1,6) true 3 3),(stitch_form.mk (⟨#[121]⟩:ByteArray) (1,6) (1,6) true 3 3),(stitch_form.mk (⟨#[115]⟩:ByteArray) (0,0) (0,0) true 1 1),(stitch_form.mk (⟨#[]⟩:ByteArray) (1,200) (0,0) false 0 2),(stitch_form.mk (⟨#[111]⟩:ByteArray) (1,200) (0,0) true 2 0)].length:Int) < (IntKind.i64.wrap p0)),Option.some.inj h,S.fix [4,0] [] (by decide) d d d⟩)
 obtain ⟨a8,rfl,S⟩:=hI
 have h:=al
 try dsimp only at h
 rcases iS h with ⟨a5,h⟩ | ⟨a5,h⟩
 ·refine sCondT S d a5 (sSeq (fun ao a9=>sRegion (sBuild [] (gl_stitch_form (stitch_form.mk (⟨#[]⟩:ByteArray) (0,0) (0,0) false 0 0)) S (wN d) d d d d (lb d) fun a S=>sStore (p:=b2) (off:=0) (T:=156) (vs:=[.string (⟨#[]⟩:ByteArray),iv 0,iv 0,iv 0,iv 0,.bool false,iv 0,iv 0]) (v:=gv_stitch_form (stitch_form.mk (⟨#[]⟩:ByteArray) (0,0) (0,0) false 0 0)) 0 [.string (⟨#[]⟩:ByteArray),iv 0,iv 0,iv 0,iv 0,.bool false,iv 0,iv 0] S (wN d) d d d d d d d (by simp) d fun a w S=>sN S fun a S=>?_)))
  refine lT (a9 _ _ ?_)
  obtain rfl:=tS h
  have S:=S.learn (fRep r_stitch_form (gv_stitch_form (stitch_form.mk (⟨#[]⟩:ByteArray) (0,0) (0,0) false 0 0)) (stitch_form.mk (⟨#[]⟩:ByteArray) (0,0) (0,0) false 0 0)) d
  exact wp_ret (rThen (sRet (.tuple #[gv_stitch_form (stitch_form.mk (⟨#[]⟩:ByteArray) (0,0) (0,0) false 0 0),.bool false]) S (rsl2 d (rvN (c:=2) (t:=156) (T:=156) (p:=b2) 0 [.string (⟨#[]⟩:ByteArray),iv 0,iv 0,iv 0,iv 0,.bool false,iv 0,iv 0] S d d d d) (rvT (t:=3) (v:=.bool false) S d)) ⟨(gv_stitch_form (stitch_form.mk (⟨#[]⟩:ByteArray) (0,0) (0,0) false 0 0)),d,S.mem.sel [] [0] (by decide) d d⟩))
 refine sCondF S d a5 (wp_skip (leafT (a7 _ _ ?_)))
 refine sSeq (fun ap aa=>sRegion (sM S fun a S=>?_))
 refine sM S fun a S=>?_
 refine sBin _ S (wN d) d d d (bSubK _ _ _ _ .u8 p0 1) d (lb d) fun a S=>?_
 obtain ⟨a0,ab,h⟩:=bS h
 have S:=S.shutR (r:=r_stitch_form) (T:=156) (v:=.slice a6 [(stitch_form.mk (⟨#[]⟩:ByteArray) (0,0) (0,0) true 1 1),(stitch_form.mk (⟨#[]⟩:ByteArray) (0,0) (0,0) false 0 1),(stitch_form.mk (⟨#[102]⟩:ByteArray) (2,4) (0,0) true 2 1),(stitch_form.mk (⟨#[108]⟩:ByteArray) (2,4) (0,0) true 2 1),(stitch_form.mk (⟨#[109]⟩:ByteArray) (2,4) (0,0) true 1 2),(stitch_form.mk (⟨#[120]⟩:ByteArray) (1,6) (1,6) true 3 3),(stitch_form.mk (⟨#[121]⟩:ByteArray) (1,6) (1,6) true 3 3),(stitch_form.mk (⟨#[115]⟩:ByteArray) (0,0) (0,0) true 1 1),(stitch_form.mk (⟨#[]⟩:ByteArray) (1,200) (0,0) false 0 2),(stitch_form.mk (⟨#[111]⟩:ByteArray) (1,200) (0,0) true 2 0)].length a4) (xs:=[(stitch_form.mk (⟨#[]⟩:ByteArray) (0,0) (0,0) true 1 1),(stitch_form.mk (⟨#[]⟩:ByteArray) (0,0) (0,0) false 0 1),(stitch_form.mk (⟨#[102]⟩:ByteArray) (2,4) (0,0) true 2 1),(stitch_form.mk (⟨#[108]⟩:ByteArray) (2,4) (0,0) true 2 1),(stitch_form.mk (⟨#[109]⟩:ByteArray) (2,4) (0,0) true 1 2),(stitch_form.mk (⟨#[120]⟩:ByteArray) (1,6) (1,6) true 3 3),(stitch_form.mk (⟨#[121]⟩:ByteArray) (1,6) (1,6) true 3 3),(stitch_form.mk (⟨#[115]⟩:ByteArray) (0,0) (0,0) true 1 1),(stitch_form.mk (⟨#[]⟩:ByteArray) (1,200) (0,0) false 0 2),(stitch_form.mk (⟨#[111]⟩:ByteArray) (1,200) (0,0) true 2 0)]) 1 d
 obtain ⟨ae,ac,S⟩:=pIdx (P:=Try.prog) (r:=r_stitch_form) (v:=.slice a6 [(stitch_form.mk (⟨#[]⟩:ByteArray) (0,0) (0,0) true 1 1),(stitch_form.mk (⟨#[]⟩:ByteArray) (0,0) (0,0) false 0 1),(stitch_form.mk (⟨#[102]⟩:ByteArray) (2,4) (0,0) true 2 1),(stitch_form.mk (⟨#[108]⟩:ByteArray) (2,4) (0,0) true 2 1),(stitch_form.mk (⟨#[109]⟩:ByteArray) (2,4) (0,0) true 1 2),(stitch_form.mk (⟨#[120]⟩:ByteArray) (1,6) (1,6) true 3 3),(stitch_form.mk (⟨#[121]⟩:ByteArray) (1,6) (1,6) true 3 3),(stitch_form.mk (⟨#[115]⟩:ByteArray) (0,0) (0,0) true 1 1),(stitch_form.mk (⟨#[]⟩:ByteArray) (1,200) (0,0) false 0 2),(stitch_form.mk (⟨#[111]⟩:ByteArray) (1,200) (0,0) true 2 0)].length a4) (xs:=[(stitch_form.mk (⟨#[]⟩:ByteArray) (0,0) (0,0) true 1 1),(stitch_form.mk (⟨#[]⟩:ByteArray) (0,0) (0,0) false 0 1),(stitch_form.mk (⟨#[102]⟩:ByteArray) (2,4) (0,0) true 2 1),(stitch_form.mk (⟨#[108]⟩:ByteArray) (2,4) (0,0) true 2 1),(stitch_form.mk (⟨#[109]⟩:ByteArray) (2,4) (0,0) true 1 2),(stitch_form.mk (⟨#[120]⟩:ByteArray) (1,6) (1,6) true 3 3),(stitch_form.mk (⟨#[121]⟩:ByteArray) (1,6) (1,6) true 3 3),(stitch_form.mk (⟨#[115]⟩:ByteArray) (0,0) (0,0) true 1 1),(stitch_form.mk (⟨#[]⟩:ByteArray) (1,200) (0,0) false 0 2),(stitch_form.mk (⟨#[111]⟩:ByteArray) (1,200) (0,0) true 2 0)]) (j:=IntKind.u8.wrap (p0 - 1)) 165 156 0 S Try.underlying165 d d ab
 refine sIdxV S (wN d) d d d ac d (lb d) fun a S=>?_
 obtain ⟨af,S⟩:=pLoad (r:=r_stitch_form) (q:=ae) (x:=a0) 0 S d
 obtain rfl:af=gv_stitch_form a0:=S.mem.know (i:=1) (e:=fRep r_stitch_form (af) a0) d
 refine sLoadVN (vq:=ae) 0 [.string a0.letter,iv a0.a.1,iv a0.a.2,iv a0.b.1,iv a0.b.2,.bool a0.sided,iv a0.uses,iv a0.made] S (wN d) d d d d d d (lb d) fun a S=>sStore (p:=b2) (off:=0) (T:=156) (vs:=[.string (⟨#[]⟩:ByteArray),iv 0,iv 0,iv 0,iv 0,.bool false,iv 0,iv 0]) (v:=gv_stitch_form a0) 0 [.string a0.letter,iv a0.a.1,iv a0.a.2,iv a0.b.1,iv a0.b.2,.bool a0.sided,iv a0.uses,iv a0.made] S (wN d) d d d d d d d (by simp) d fun a w S=>sN S fun a S=>?_
 refine lT (aa _ _ ?_)
 obtain rfl:=tS h
 exact wp_ret (sRet (.tuple #[gv_stitch_form a0,.bool true]) S (rsl2 d (rvN (c:=2) (t:=156) (T:=156) (p:=b2) 0 [.string a0.letter,iv a0.a.1,iv a0.a.2,iv a0.b.1,iv a0.b.2,.bool a0.sided,iv a0.uses,iv a0.made] S d d d d) (rvT (t:=3) (v:=.bool true) S d)) ⟨(gv_stitch_form a0),d,S.mem.sel [] [1] (by decide) d d⟩)
noncomputable def F_stitch_within (p0:Int) (p1:(Int × Int)):Option Bool:=
 Option.bind (α:=Bool) (
  if decide (p1.1 ≤ p0) then
   some (decide (p0 ≤ p1.2))
  else
   some false) fun o3=>
 some o3
theorem c_stitch_within (E:Nat→Prop) (w0:World) (p0:Int) (p1:(Int × Int)) (v1:Value) (r:Bool) (h:F_stitch_within p0 p1=some r) (S:St0 E [] w0 w0 [] [fRep r_A2_Int (v1) p1]) :
 Calls Try.prog 104 #[iv p0,v1] w0 (Ret (X:=Unit) E [] w0 (fun _=>.bool r) (fun _=>[]) (fun _=>[])):=by
 unfold F_stitch_within at h
 obtain rfl:v1=.agg #[iv p1.1,iv p1.2]:=S.know (i:=0) (e:=fRep r_A2_Int (v1) p1) d
 refine sEnter (args:=[iv p0,.agg #[iv p1.1,iv p1.2]]) 15 Try.func104 d d (by simp) S (fun a S=>?_)
 refine sSeq (fun K1 a2=>sRegion (sBox (v:=.agg #[iv p1.1,iv p1.2]) S (wN d) d d [iv p1.1,iv p1.2] d d (lb d) fun a b2 w S=>sN S fun a S=>?_))
 refine lT (a2 _ _ ?_)
 obtain ⟨t4,h,g5⟩:=bS h
 refine sCut (fun a w=>∃ o3,o3=t4∧St [] E [] w0 15 a w [(4,.bool o3)] [] []) ?_ (fun a w hI=>?_)
 rotate_left
 ·obtain ⟨o3,rfl,S⟩:=hI
  have h:=g5
  try dsimp only at h
  obtain rfl:=tS h
  exact wp_ret (sRet (.bool o3) S (rsl1 d (rvT (t:=4) (v:=.bool o3) S d)) ⟨(),d,S.mem.sel [] [] (by decide) d d⟩)
 refine sRegion (sM S fun a S=>?_)
 refine sIdxV S (wN d) d d d (idxV_arr (m:=2) (sz:=1) Try.underlying154 d (by decide) (by decide) 0) d (lb d) fun a S=>sLoad1 0 (iv p1.1) S (wN d) d d d d d d (lb d) fun a S=>sBin _ S (wN d) d d d (bGe _ _ _ _ .i64 p0 p1.1) d (lb d) fun a S=>sM S fun a S=>?_
 rcases iS h with ⟨a0,h⟩ | ⟨a0,h⟩
 rotate_left
 ·refine sSkN 4 4 true 9 S d d a0 d fun a S=>sPickF (.bool false) S (wN d) d d a0 d d (lb d) fun a S=>sN S fun a S=>?_
  exact lT (⟨false,Option.some.inj h,S.fix [] [] (by decide) d d d⟩)
 refine sMove (iv p0) S (wG 4 true 9 d d d a0) (.inl d) d d (lb d) fun a S=>sIdxV S (wG 4 true 9 d d d a0) d d d (idxV_arr (m:=2) (sz:=1) Try.underlying154 d (by decide) (by decide) 0) d (lb d) fun a S=>sLoad1 0 (iv p1.2) S (wG 4 true 9 d d d a0) d d d d d d (lb d) fun a S=>sBin _ S (wG 4 true 9 d d d a0) d d d (bLe _ _ _ _ .i64 p0 p1.2) d (lb d) fun a S=>sPickT (.bool (decide (p0 ≤ p1.2))) S (wN d) d d a0 d d (lb d) fun a S=>sN S fun a S=>?_
 exact lT (⟨decide (p0 ≤ p1.2),Option.some.inj h,S.fix [] [] (by decide) d d d⟩)
noncomputable def F_stitch_Check (p0:api_Stitch):Option Int:=
 (F_stitch_forms p0.Kind).bind fun r4=>
 Option.bind (α:=Bool) (
  if !r4.2 then
   some true
  else
   (F_stitch_within p0.A r4.1.a).bind fun a0=>
   if !a0 then
    some true
   else
    (F_stitch_within p0.B r4.1.b).bind fun a2=>
    if !a2 then
     some true
    else
     if p0.Purl then
      some (!r4.1.sided)
     else
      some false) fun o9=>
 if o9 then
  some 8
 else
  some 0
theorem c_stitch_Check (E:Nat→Prop) (w0:World) (p0:api_Stitch) (v0:Value) (r:Int) (h:F_stitch_Check p0=some r) (S:St0 E [] w0 w0 [] [fRep r_api_Stitch (v0) p0]) :
 Calls Try.prog 88 #[v0] w0 (Ret (X:=Unit) E [] w0 (fun _=>.int .i64 r) (fun _=>[]) (fun _=>[])):=by
 unfold F_stitch_Check at h
 obtain rfl:v0=.agg #[.int .u8 p0.Kind,.bool p0.Purl,iv p0.A,iv p0.B]:=S.know (i:=0) (e:=fRep r_api_Stitch (v0) p0) d
 refine sEnter (args:=[.agg #[.int .u8 p0.Kind,.bool p0.Purl,iv p0.A,iv p0.B]]) 38 Try.func88 d d (by simp) S (fun a S=>?_)
 refine sSeq (fun K1 ae=>sRegion (sBox (v:=.agg #[.int .u8 p0.Kind,.bool p0.Purl,iv p0.A,iv p0.B]) S (wN d) d d [.int .u8 p0.Kind,.bool p0.Purl,iv p0.A,iv p0.B] d d (lb d) fun a b2 w S=>sN S fun a S=>?_))
 refine lT (ae _ _ (sSeq (fun K3 af=>sRegion (sField (b:=b2) (off:=0) 0 0 S (wN d) d d d d d (lb d) fun a S=>sLoad1 0 (.int .u8 p0.Kind) S (wN d) d d d d d d (lb d) fun a S=>?_))))
 obtain ⟨r4,ag,h⟩:=bS h
 refine sCall (X:=Value) (f:=103) (vs:=[.int .u8 p0.Kind]) (val:=c_stitch_forms_val r4) (B':=fun _=>[]) (D':=c_stitch_forms_D r4) [] [eBox b2 81 [.int .u8 p0.Kind,.bool p0.Purl,iv p0.A,iv p0.B]] [] [0] [] S (wN d) d callee103 d (by decide) d d (fun E1 w1 S1=>c_stitch_forms E1 w1 p0.Kind r4 ag S1) d (lb d) fun u6 a w S=>?_
 obtain rfl:u6=gv_stitch_form r4.1:=S.mem.know (i:=0) (e:=fRep r_stitch_form (u6) r4.1) d
 refine sM S fun a S=>?_
 refine sExtract (vs:=[gv_stitch_form r4.1,.bool r4.2]) (gv_stitch_form r4.1) S (wN d) d d d d (lb d) fun a S=>sExtract (vs:=[gv_stitch_form r4.1,.bool r4.2]) (.bool r4.2) S (wN d) d d d d (lb d) fun a S=>sAlloc (gv_stitch_form (stitch_form.mk (⟨#[]⟩:ByteArray) (0,0) (0,0) false 0 0)) S (wN d) d d (gl_stitch_form (stitch_form.mk (⟨#[]⟩:ByteArray) (0,0) (0,0) false 0 0)) d d (lb d) fun a b7 w S=>sStore (p:=b7) (off:=0) (T:=156) (vs:=[.string (⟨#[]⟩:ByteArray),iv 0,iv 0,iv 0,iv 0,.bool false,iv 0,iv 0]) (v:=gv_stitch_form r4.1) 0 [.string r4.1.letter,iv r4.1.a.1,iv r4.1.a.2,iv r4.1.b.1,iv r4.1.b.2,.bool r4.1.sided,iv r4.1.uses,iv r4.1.made] S (wN d) d d d d d d d (by simp) d fun a w S=>sN S fun a S=>?_
 refine lT (af _ _ (sSeq (fun K8 ah=>?_)))
 obtain ⟨ai,h,aj⟩:=bS h
 refine sCut (fun a w=>∃ o9,o9=ai∧St [] E [] w0 38 a w [(37,.bool o9)] [] []) ?_ (fun a w hI=>?_)
 rotate_left
 ·obtain ⟨o9,rfl,S⟩:=hI
  have h:=aj
  try dsimp only at h
  rcases iS h with ⟨a6,h⟩ | ⟨a6,h⟩
  ·refine sCondT S d a6 (sSeq (fun ak a9=>sRegion (sN S fun a S=>?_)))
   refine lT (a9 _ _ ?_)
   obtain rfl:=tS h
   exact wp_ret (rThen (sRet (iv 8) S (rsl1 d (rvT (t:=2) (v:=iv 8) S d)) ⟨(),d,S.mem.sel [] [] (by decide) d d⟩))
  refine sCondF S d a6 (wp_skip (leafT (ah _ _ ?_)))
  refine sSeq (fun al aa=>sRegion (sN S fun a S=>?_))
  refine lT (aa _ _ ?_)
  obtain rfl:=tS h
  exact wp_ret (sRet (iv 0) S (rsl1 d (rvT (t:=2) (v:=iv 0) S d)) ⟨(),d,S.mem.sel [] [] (by decide) d d⟩)
 refine sRegion (sM S fun a S=>?_)
 refine sNot (b:=r4.2) S (wN d) d d d (lb d) fun a S=>sM S fun a S=>?_
 rcases iS h with ⟨a2,h⟩ | ⟨a2,h⟩
 ·refine sSkN 6 2 false 13 S d d a2 d fun a S=>sPickT (.bool true) S (wN d) d d a2 d d (lb d) fun a S=>sM S fun a S=>?_
  refine sSkN 6 10 false 21 S d d d d fun a S=>sPickT (.bool true) S (wN d) d d d d d (lb d) fun a S=>sM S fun a S=>?_
  refine sSkN 3 18 false 29 S d d d d fun a S=>sSkipU 21 true 32 33 S d d d d (lb d) fun a S=>?_
  refine sSkipU 21 true 32 34 S d d d d (lb d) fun a S=>?_
  refine sSkipU 21 true 32 35 S d d d d (lb d) fun a S=>?_
  refine sSk S d d d d d d fun a S=>sPickT (.bool true) S (wN d) d d d d d (lb d) fun a S=>?_
  exact lT (⟨true,Option.some.inj h,S.fix [] [] (by decide) d d d⟩)
 refine sField (b:=b2) (off:=0) 2 2 S (wG 2 false 13 d d d a2) d d d d d (lb d) fun a S=>sLoad1 1 (iv p0.A) S (wG 2 false 13 d d d a2) d d d d d d (lb d) fun a S=>sField (b:=b7) (off:=0) 1 1 S (wG 2 false 13 d d d a2) d d d d d (lb d) fun a S=>sLoadN (p:=b7) (off:=1) (T:=156) (vs:=(gl_stitch_form r4.1)) 0 [iv r4.1.a.1,iv r4.1.a.2] S (wG 2 false 13 d d d a2) d d d d d d d (lb d) fun a S=>?_
 obtain ⟨a7,ab,h⟩:=bS h
 have S1:=S.mem
 have S1:=S1.learn (fRep r_A2_Int (.agg #[iv r4.1.a.1,iv r4.1.a.2]) r4.1.a) d
 refine sCallQ (X:=Unit) (f:=104) (vs:=[iv p0.A,.agg #[iv r4.1.a.1,iv r4.1.a.2]]) (val:=fun _=>.bool a7) S (wG 2 false 13 d d d a2) d callee104 d (S1.quiet [0] d) (fun E1 w1 S1=>c_stitch_within E1 w1 p0.A r4.1.a (.agg #[iv r4.1.a.1,iv r4.1.a.2]) a7 ab S1) d (lb d) fun _ a w S=>?_
 refine sNot (b:=a7) S (wG 2 false 13 d d d a2) d d d (lb d) fun a S=>sPickF (.bool (!a7)) S (wN d) d d a2 d d (lb d) fun a S=>sM S fun a S=>?_
 rcases iS h with ⟨a4,h⟩ | ⟨a4,h⟩
 ·refine sSkN 6 10 false 21 S d d a4 d fun a S=>sPickT (.bool true) S (wN d) d d a4 d d (lb d) fun a S=>sM S fun a S=>?_
  refine sSkN 3 18 false 29 S d d d d fun a S=>sSkipU 21 true 32 33 S d d d d (lb d) fun a S=>?_
  refine sSkipU 21 true 32 34 S d d d d (lb d) fun a S=>?_
  refine sSkipU 21 true 32 35 S d d d d (lb d) fun a S=>?_
  refine sSk S d d d d d d fun a S=>sPickT (.bool true) S (wN d) d d d d d (lb d) fun a S=>?_
  exact lT (⟨true,Option.some.inj h,S.fix [] [] (by decide) d d d⟩)
 refine sField (b:=b2) (off:=0) 3 3 S (wG 10 false 21 d d d a4) d d d d d (lb d) fun a S=>sLoad1 1 (iv p0.B) S (wG 10 false 21 d d d a4) d d d d d d (lb d) fun a S=>sField (b:=b7) (off:=0) 3 3 S (wG 10 false 21 d d d a4) d d d d d (lb d) fun a S=>sLoadN (p:=b7) (off:=3) (T:=156) (vs:=(gl_stitch_form r4.1)) 0 [iv r4.1.b.1,iv r4.1.b.2] S (wG 10 false 21 d d d a4) d d d d d d d (lb d) fun a S=>?_
 obtain ⟨a8,ac,h⟩:=bS h
 have S1:=S.mem
 have S1:=S1.learn (fRep r_A2_Int (.agg #[iv r4.1.b.1,iv r4.1.b.2]) r4.1.b) d
 refine sCallQ (X:=Unit) (f:=104) (vs:=[iv p0.B,.agg #[iv r4.1.b.1,iv r4.1.b.2]]) (val:=fun _=>.bool a8) S (wG 10 false 21 d d d a4) d callee104 d (S1.quiet [0] d) (fun E1 w1 S1=>c_stitch_within E1 w1 p0.B r4.1.b (.agg #[iv r4.1.b.1,iv r4.1.b.2]) a8 ac S1) d (lb d) fun _ a w S=>?_
 refine sNot (b:=a8) S (wG 10 false 21 d d d a4) d d d (lb d) fun a S=>sPickF (.bool (!a8)) S (wN d) d d a4 d d (lb d) fun a S=>sM S fun a S=>?_
 rcases iS h with ⟨a0,h⟩ | ⟨a0,h⟩
 ·refine sSkN 3 18 false 29 S d d a0 d fun a S=>sSkipU 21 true 32 33 S d d d d (lb d) fun a S=>?_
  refine sSkipU 21 true 32 34 S d d d d (lb d) fun a S=>?_
  refine sSkipU 21 true 32 35 S d d d d (lb d) fun a S=>?_
  refine sSk S d d d a0 d d fun a S=>sPickT (.bool true) S (wN d) d d a0 d d (lb d) fun a S=>?_
  exact lT (⟨true,Option.some.inj h,S.fix [] [] (by decide) d d d⟩)
 refine sField (b:=b2) (off:=0) 1 1 S (wG 18 false 29 d d d a0) d d d d d (lb d) fun a S=>sLoad1 1 (.bool p0.Purl) S (wG 18 false 29 d d d a0) d d d d d d (lb d) fun a S=>sMove (.bool p0.Purl) S (wG 18 false 29 d d d a0) (.inl d) d d (lb d) fun a S=>?_
 rcases iS h with ⟨a5,h⟩ | ⟨a5,h⟩
 rotate_left
 ·refine sSkN 3 21 true 32 S d d a5 d fun a S=>sPickF (.bool false) S (wG 18 false 29 d d d a0) d d a5 d d (lb d) fun a S=>sPickF (.bool false) S (wN d) d d a0 d d (lb d) fun a S=>?_
  exact lT (⟨false,Option.some.inj h,S.fix [] [] (by decide) d d d⟩)
 refine sField (b:=b7) (off:=0) 5 5 S (wG 21 true 32 d d d a5) d d d d d (lb d) fun a S=>sLoad1 0 (.bool r4.1.sided) S (wG 21 true 32 d d d a5) d d d d d d (lb d) fun a S=>sNot (b:=r4.1.sided) S (wG 21 true 32 d d d a5) d d d (lb d) fun a S=>sPickT (.bool (!r4.1.sided)) S (wG 18 false 29 d d d a0) d d a5 d d (lb d) fun a S=>sPickF (.bool (!r4.1.sided)) S (wN d) d d a0 d d (lb d) fun a S=>?_
 exact lT (⟨!r4.1.sided,Option.some.inj h,S.fix [] [] (by decide) d d d⟩)
noncomputable def F_stitch_All_1 (p0:api_Stitch):Option Bool:=
 (F_stitch_Check p0).bind fun r4=>
 some (r4 != 0)
theorem c_stitch_All_1 (E:Nat→Prop) (w0:World) (p0:api_Stitch) (v0:Value) (r:Bool) (h:F_stitch_All_1 p0=some r) (S:St0 E [] w0 w0 [] [fRep r_api_Stitch (v0) p0]) :
 Calls Try.prog 87 #[v0] w0 (Ret (X:=Unit) E [] w0 (fun _=>.bool r) (fun _=>[]) (fun _=>[])):=by
 unfold F_stitch_All_1 at h
 obtain rfl:v0=.agg #[.int .u8 p0.Kind,.bool p0.Purl,iv p0.A,iv p0.B]:=S.know (i:=0) (e:=fRep r_api_Stitch (v0) p0) d
 refine sEnter (args:=[.agg #[.int .u8 p0.Kind,.bool p0.Purl,iv p0.A,iv p0.B]]) 6 Try.func87 d d (by simp) S (fun a S=>?_)
 refine sSeq (fun K1 a0=>sRegion (sBox (v:=.agg #[.int .u8 p0.Kind,.bool p0.Purl,iv p0.A,iv p0.B]) S (wN d) d d [.int .u8 p0.Kind,.bool p0.Purl,iv p0.A,iv p0.B] d d (lb d) fun a b2 w S=>sN S fun a S=>?_))
 refine lT (a0 _ _ (sSeq (fun K3 a2=>sRegion (sLoadN (p:=b2) (off:=0) (T:=81) (vs:=[.int .u8 p0.Kind,.bool p0.Purl,iv p0.A,iv p0.B]) 0 [.int .u8 p0.Kind,.bool p0.Purl,iv p0.A,iv p0.B] S (wN d) d d d d d d d (lb d) fun a S=>?_))))
 obtain ⟨r4,a4,h⟩:=bS h
 have S1:=S.mem
 refine sCq [.agg #[.int .u8 p0.Kind,.bool p0.Purl,iv p0.A,iv p0.B]] (iv r4) S callee88 (S1.quiet [0] d) (fun E1 w1 S1=>c_stitch_Check E1 w1 p0 (.agg #[.int .u8 p0.Kind,.bool p0.Purl,iv p0.A,iv p0.B]) r4 a4 S1) fun a w S=>?_
 refine sBin _ S (wN d) d d d (bNe _ _ _ _ .i64 r4 0) d (lb d) fun a S=>sN S fun a S=>?_
 refine lT (a2 _ _ ?_)
 obtain rfl:=tS h
 exact wp_ret (sRet (.bool (r4 != 0)) S (rsl1 d (rvT (t:=2) (v:=.bool (r4 != 0)) S d)) ⟨(),d,S.mem.sel [] [] (by decide) d d⟩)
noncomputable def slices_IndexFunc___api_Stitch_api_Stitch__s0_l1 (p0:(List api_Stitch)):Int→Option (Int ⊕ (Int ⊕ Unit)):=fun s0=>match s0 with
 | s7=>
  if decide (s7 < (p0.length:Int)) then
   (idxO p0 s7).bind fun a0=>
   (F_stitch_All_1 a0).bind fun a2=>
   if a2 then
    some (.inr (.inl s7))
   else
    some (.inl (w64 (s7 + 1)))
  else
   some (.inr (.inr ()))
noncomputable def F_slices_IndexFunc___api_Stitch_api_Stitch__s0 (p0:(List api_Stitch)):Option Int:=
 Option.bind (α:=Unit ⊕ Int) (
  (whileO (slices_IndexFunc___api_Stitch_api_Stitch__s0_l1 p0) 0).bind fun z0=>match z0 with
   | .inl z=>
    some (.inr z)
   | .inr _=>
    some (.inl ())) fun z0=>match z0 with
  | .inl _=>
   some (-1)
  | .inr z=>
   some z
theorem c_slices_IndexFunc___api_Stitch_api_Stitch__s0 (E:Nat→Prop) (w0:World) (p0:(List api_Stitch)) (v0:Value) (r:Int) (h:F_slices_IndexFunc___api_Stitch_api_Stitch__s0 p0=some r) (S:St0 E [] w0 w0 [] [fRep (rL r_api_Stitch) (v0) p0]) :
 Calls Try.prog 102 #[v0,.func (.func 87) #[] #[]] w0 (Ret (X:=Unit) E [] w0 (fun _=>.int .i64 r) (fun _=>[]) (fun _=>[])):=by
 unfold F_slices_IndexFunc___api_Stitch_api_Stitch__s0 at h
 obtain ⟨a5,a6,_,rfl,_⟩:=S.know (i:=0) (e:=fRep (rL r_api_Stitch) (v0) p0) d
 refine sEnter (args:=[.slice a5 p0.length a6,.func (.func 87) #[] #[]]) 19 Try.func102 d d (by simp) S (fun a S=>?_)
 refine sSeq (fun K3 am=>sRegion (sN S fun a S=>?_))
 refine lT (am _ _ ?_)
 obtain ⟨t4,h,g5⟩:=bS h
 refine sCut (fun a w=>.inl ()=t4∧St [] E [] w0 19 a w [] [] []) ?_ (fun a w hI=>?_)
 rotate_left
 ·obtain ⟨rfl,S⟩:=hI
  have h:=g5
  try dsimp only at h
  refine sSeq (fun ap a7=>sRegion (sN S fun a S=>?_))
  refine lT (a7 _ _ ?_)
  obtain rfl:=tS h
  exact wp_ret (sRet (iv (-1)) S (rsl1 d (rvT (t:=4) (v:=iv (-1)) S d)) ⟨(),d,S.mem.sel [] [] (by decide) d d⟩)
 refine sSeq (fun K6 ao=>sRegion (sM S fun a S=>?_))
 refine sLen S (wN d) d Try.underlying47 d d (lb d) fun a S=>sM S fun a S=>?_
 refine lT (ao _ _ (wp_block ?_))
 obtain ⟨aq,hl,g9⟩:=bS h
 refine sLoop hl (fun s0 a w=>match s0 with | s7=>St [] E [] w0 19 a w [(0,.slice a5 p0.length a6),(1,.func (.func 87) #[] #[]),(7,iv (p0.length:Int)),(8,iv s7)] [] [fRep (rL r_api_Stitch) (.slice a5 p0.length a6) p0]) (S.fix [] [0] (by decide) d d d) ?_
 clear hl h
 intro s7 a w c0 hI h ai
 unfold slices_IndexFunc___api_Stitch_api_Stitch__s0_l1 at h
 dsimp only at h hI
 have S:=hI
 refine sSeq (fun ar a8=>sRegion (sBin _ S (wN d) d d d (bLt _ _ _ _ .i64 s7 (p0.length:Int)) d (lb d) fun a S=>lT (a8 _ _ (sSeq (fun au a9=>?_)))))
 rcases iS h with ⟨a2,h⟩ | ⟨a2,h⟩
 rotate_left
 ·refine sCondF S d a2 ?_
  obtain rfl:=tS h
  obtain rfl:=ai _ d
  have h:=g9
  try dsimp only at h
  exact wp_exit (xThen (xThen (xHit (leafT (⟨Option.some.inj h,S.fix [] [] (by decide) d d d⟩)))))
 refine sCondT S d a2 (wp_skip (leafT (a9 _ _ ?_)))
 refine sSeq (fun av aa=>wp_block ?_)
 refine sSeq (fun aw ab=>sRegion (sM S fun a S=>?_))
 refine sN S fun a S=>?_
 refine lT (ab _ _ (sSeq (fun ax ac=>sRegion (sM S fun a S=>?_))))
 refine sM S fun a S=>?_
 refine sM S fun a S=>?_
 obtain ⟨a0,ae,h⟩:=bS h
 obtain ⟨aj,af,S⟩:=pIdx (P:=Try.prog) (r:=r_api_Stitch) (v:=.slice a5 p0.length a6) (xs:=p0) (j:=s7) 47 81 0 S Try.underlying47 d d ae
 refine sIdxV S (wN d) d d d af d (lb d) fun a S=>?_
 obtain ⟨ak,S⟩:=pLoad (r:=r_api_Stitch) (q:=aj) (x:=a0) 0 S d
 obtain rfl:ak=.agg #[.int .u8 a0.Kind,.bool a0.Purl,iv a0.A,iv a0.B]:=S.mem.know (i:=1) (e:=fRep r_api_Stitch (ak) a0) d
 refine sLoadVN (vq:=aj) 0 [.int .u8 a0.Kind,.bool a0.Purl,iv a0.A,iv a0.B] S (wN d) d d d d d d (lb d) fun a S=>?_
 obtain ⟨al,ag,h⟩:=bS h
 have S1:=S.mem
 refine sCallVQ (X:=Unit) (g:=87) (vs:=[.agg #[.int .u8 a0.Kind,.bool a0.Purl,iv a0.A,iv a0.B]]) (caps:=[]) (val:=fun _=>.bool al) S (wN d) d d callee87 d (S1.quiet [1] d) (fun E1 w1 S1=>c_stitch_All_1 E1 w1 a0 (.agg #[.int .u8 a0.Kind,.bool a0.Purl,iv a0.A,iv a0.B]) al ag S1) d (lb d) fun _ a w S=>?_
 refine lT (ac _ _ ?_)
 rcases iS h with ⟨a4,h⟩ | ⟨a4,h⟩
 rotate_left
 ·refine sCondF S d a4 (wp_skip (leafB (leafT (aa _ _ ?_))))
  refine sRegion (sBin _ S (wN d) d d d (bAdd _ _ _ _ s7 1) d (lb d) fun a S=>sM S fun a S=>?_)
  exact lT (⟨w64 (s7 + 1),(Option.some.inj h).symm,(S.fix [] [3] (by decide) d d d)⟩)
 refine sCondT S d a4 (sSeq (fun ay ah=>sRegion (sM S fun a S=>?_)))
 refine sN S fun a S=>?_
 refine lT (ah _ _ ?_)
 obtain rfl:=tS h
 obtain rfl:=ai _ d
 have h:=g9
 try dsimp only at h
 obtain rfl:=tS h
 have h:=g5
 try dsimp only at h
 obtain rfl:=tS h
 exact wp_ret (rBlock (rThen (rThen (rBlock (rThen (sRet (iv s7) S (rsl1 d (rvT (t:=4) (v:=iv s7) S d)) ⟨(),d,S.mem.sel [] [] (by decide) d d⟩))))))
noncomputable def F_slices_ContainsFunc___api_Stitch_api_Stitch__s0 (p0:(List api_Stitch)):Option Bool:=
 (F_slices_IndexFunc___api_Stitch_api_Stitch__s0 p0).bind fun r5=>
 some (decide (0 ≤ r5))
theorem c_slices_ContainsFunc___api_Stitch_api_Stitch__s0 (E:Nat→Prop) (w0:World) (p0:(List api_Stitch)) (v0:Value) (r:Bool) (h:F_slices_ContainsFunc___api_Stitch_api_Stitch__s0 p0=some r) (S:St0 E [] w0 w0 [] [fRep (rL r_api_Stitch) (v0) p0]) :
 Calls Try.prog 86 #[v0,.func (.func 87) #[] #[]] w0 (Ret (X:=Unit) E [] w0 (fun _=>.bool r) (fun _=>[]) (fun _=>[])):=by
 unfold F_slices_ContainsFunc___api_Stitch_api_Stitch__s0 at h
 obtain ⟨a0,a2,_,rfl,_⟩:=S.know (i:=0) (e:=fRep (rL r_api_Stitch) (v0) p0) d
 refine sEnter (args:=[.slice a0 p0.length a2,.func (.func 87) #[] #[]]) 9 Try.func86 d d (by simp) S (fun a S=>?_)
 refine sSeq (fun K3 a4=>sRegion (sN S fun a S=>?_))
 refine lT (a4 _ _ (sSeq (fun K4 a5=>sRegion (sM S fun a S=>?_))))
 refine sM S fun a S=>?_
 obtain ⟨r5,a6,h⟩:=bS h
 have S1:=S.mem
 refine sCq [.slice a0 p0.length a2,.func (.func 87) #[] #[]] (iv r5) S callee102 (S1.quiet [0] d) (fun E1 w1 S1=>c_slices_IndexFunc___api_Stitch_api_Stitch__s0 E1 w1 p0 (.slice a0 p0.length a2) r5 a6 S1) fun a w S=>?_
 refine sBin _ S (wN d) d d d (bGe _ _ _ _ .i64 r5 0) d (lb d) fun a S=>sN S fun a S=>?_
 refine lT (a5 _ _ ?_)
 obtain rfl:=tS h
 exact wp_ret (sRet (.bool (decide (0 ≤ r5))) S (rsl1 d (rvT (t:=4) (v:=.bool (decide (0 ≤ r5))) S d)) ⟨(),d,S.mem.sel [] [] (by decide) d d⟩)
noncomputable def F_stitch_loops (p0:api_Stitch) (p1:Int):Option Int:=
 (idxO ([0,1,p0.A,w64 (p0.A + p0.B)]:List Int) p1).bind fun x4=>
 some x4
theorem c_stitch_loops (E:Nat→Prop) (w0:World) (p0:api_Stitch) (v0:Value) (p1:Int) (r:Int) (h:F_stitch_loops p0 p1=some r) (S:St0 E [] w0 w0 [] [fRep r_api_Stitch (v0) p0]) :
 Calls Try.prog 105 #[v0,iv p1] w0 (Ret (X:=Unit) E [] w0 (fun _=>.int .i64 r) (fun _=>[]) (fun _=>[])):=by
 unfold F_stitch_loops at h
 obtain rfl:v0=.agg #[.int .u8 p0.Kind,.bool p0.Purl,iv p0.A,iv p0.B]:=S.know (i:=0) (e:=fRep r_api_Stitch (v0) p0) d
 refine sEnter (args:=[.agg #[.int .u8 p0.Kind,.bool p0.Purl,iv p0.A,iv p0.B],iv p1]) 15 Try.func105 d d (by simp) S (fun a S=>?_)
 refine sSeq (fun K1 a0=>sRegion (sBox (v:=.agg #[.int .u8 p0.Kind,.bool p0.Purl,iv p0.A,iv p0.B]) S (wN d) d d [.int .u8 p0.Kind,.bool p0.Purl,iv p0.A,iv p0.B] d d (lb d) fun a b2 w S=>sN S fun a S=>?_))
 refine lT (a0 _ _ (sSeq (fun K3 a2=>sRegion (sField (b:=b2) (off:=0) 2 2 S (wN d) d d d d d (lb d) fun a S=>sLoad1 0 (iv p0.A) S (wN d) d d d d d d (lb d) fun a S=>sField (b:=b2) (off:=0) 2 2 S (wN d) d d d d d (lb d) fun a S=>sLoad1 0 (iv p0.A) S (wN d) d d d d d d (lb d) fun a S=>sField (b:=b2) (off:=0) 3 3 S (wN d) d d d d d (lb d) fun a S=>sLoad1 0 (iv p0.B) S (wN d) d d d d d d (lb d) fun a S=>sBin _ S (wN d) d d d (bAdd _ _ _ _ p0.A p0.B) d (lb d) fun a S=>sBuild [(0,iv 0),(1,iv 1),(2,iv p0.A),(3,iv (w64 (p0.A + p0.B)))] [iv 0,iv 1,iv p0.A,iv (w64 (p0.A + p0.B))] S (wN d) d d d d (lb d) fun a S=>sM S fun a S=>?_))))
 obtain ⟨x4,a4,h⟩:=bS h
 refine sIndexA (g:=fun z=>.int .i64 z) (xs:=([0,1,p0.A,w64 (p0.A + p0.B)]:List Int)) (j:=p1) (k:=.i64) 4 [iv 0,iv 1,iv p0.A,iv (w64 (p0.A + p0.B))] S (wN d) d Try.underlying129 d d d d d d a4 d (lb d) fun a S=>sN S fun a S=>?_
 refine lT (a2 _ _ ?_)
 obtain rfl:=tS h
 exact wp_ret (sRet (iv x4) S (rsl1 d (rvT (t:=4) (v:=iv x4) S d)) ⟨(),d,S.mem.sel [] [] (by decide) d d⟩)
noncomputable def stitch_sum_l1 (p0:(List api_Stitch)):(Int × Int × Int)→Option ((Int × Int × Int) ⊕ (Int × Int)):=fun s0=>match s0 with
 | (s9,a4,a0)=>
  if decide (a0 < (p0.length:Int)) then
   (idxO p0 a0).bind fun a2=>
   (F_stitch_forms a2.Kind).bind fun a5=>
   (F_stitch_loops a2 a5.1.uses).bind fun a6=>
   (F_stitch_loops a2 a5.1.made).bind fun a7=>
   some (.inl (w64 (s9 + a6),w64 (a4 + a7),w64 (a0 + 1)))
  else
   some (.inr (s9,a4))
noncomputable def F_stitch_sum (p0:(List api_Stitch)):Option (Int × Int):=
 Option.bind (α:=(Int × Int)) (
  (whileO (stitch_sum_l1 p0) (0,0,0)).bind fun (a0,a2)=>
   some (a0,a2)) fun (o4,o5)=>
 some (o4,o5)
theorem c_stitch_sum (E:Nat→Prop) (w0:World) (p0:(List api_Stitch)) (v0:Value) (r:(Int × Int)) (h:F_stitch_sum p0=some r) (S:St0 E [] w0 w0 [] [fRep (rL r_api_Stitch) (v0) p0]) :
 Calls Try.prog 89 #[v0] w0 (Ret (X:=Unit) E [] w0 (fun _=>.tuple #[.int .i64 r.1,.int .i64 r.2]) (fun _=>[]) (fun _=>[])):=by
 unfold F_stitch_sum at h
 obtain ⟨a8,a9,_,rfl,_⟩:=S.know (i:=0) (e:=fRep (rL r_api_Stitch) (v0) p0) d
 refine sEnter (args:=[.slice a8 p0.length a9]) 35 Try.func89 d d (by simp) S (fun a S=>?_)
 refine sSeq (fun K3 ax=>sRegion (sN S fun a S=>?_))
 refine sN S fun a S=>?_
 refine lT (ax _ _ ?_)
 obtain ⟨t6,h,g7⟩:=bS h
 refine sCut (fun a w=>∃ o4,∃ o5,(o4,o5)=t6∧St [] E [] w0 35 a w [(2,iv o4),(3,iv o5)] [] []) ?_ (fun a w hI=>?_)
 rotate_left
 ·obtain ⟨o4,o5,rfl,S⟩:=hI
  have h:=g7
  try dsimp only at h
  refine sSeq (fun aA ac=>sRegion (sM S fun a S=>?_))
  refine sM S fun a S=>?_
  refine sN S fun a S=>?_
  refine sN S fun a S=>?_
  refine lT (ac _ _ ?_)
  obtain rfl:=tS h
  exact wp_ret (sRet (.tuple #[iv o4,iv o5]) S (rsl2 d (rvT (t:=2) (v:=iv o4) S d) (rvT (t:=3) (v:=iv o5) S d)) ⟨(),d,S.mem.sel [] [] (by decide) d d⟩)
 refine sSeq (fun K8 ay=>sRegion (sM S fun a S=>?_))
 refine sLen S (wN d) d Try.underlying47 d d (lb d) fun a S=>sM S fun a S=>?_
 refine lT (ay _ _ (wp_block ?_))
 obtain ⟨aC,hl,az⟩:=bS h
 refine sLoop hl (fun s0 a w=>match s0 with | (s9,a6,a5)=>St [] E [] w0 35 a w [(2,iv s9),(3,iv a6),(8,.slice a8 p0.length a9),(9,iv (p0.length:Int)),(10,iv a5)] [] [fRep (rL r_api_Stitch) (.slice a8 p0.length a9) p0]) (S.fix [] [0] (by decide) d d d) ?_
 clear hl h
 intro s0 a w c0 hI h ae
 obtain ⟨s9,a6,a5⟩:=s0
 unfold stitch_sum_l1 at h
 dsimp only at h hI
 have S:=hI
 refine sSeq (fun aG af=>sRegion (sBin _ S (wN d) d d d (bLt _ _ _ _ .i64 a5 (p0.length:Int)) d (lb d) fun a S=>lT (af _ _ (sSeq (fun aH ag=>?_)))))
 rcases iS h with ⟨a4,h⟩ | ⟨a4,h⟩
 rotate_left
 ·refine sCondF S d a4 ?_
  obtain rfl:=tS h
  obtain rfl:=ae _ d
  have h:=az
  try dsimp only at h
  exact wp_exit (xThen (xThen (xHit (leafT (⟨s9,a6,Option.some.inj h,S.fix [] [] (by decide) d d d⟩)))))
 refine sCondT S d a4 (wp_skip (leafT (ag _ _ ?_)))
 refine sSeq (fun aI ah=>wp_block ?_)
 refine sSeq (fun aJ ai=>sRegion ?_)
 obtain ⟨a0,aj,h⟩:=bS h
 obtain ⟨au,ak,S⟩:=pIdx (P:=Try.prog) (r:=r_api_Stitch) (v:=.slice a8 p0.length a9) (xs:=p0) (j:=a5) 47 81 0 S Try.underlying47 d d aj
 refine sIdxV S (wN d) d d d ak d (lb d) fun a S=>?_
 obtain ⟨av,S⟩:=pLoad (r:=r_api_Stitch) (q:=au) (x:=a0) 0 S d
 obtain rfl:av=.agg #[.int .u8 a0.Kind,.bool a0.Purl,iv a0.A,iv a0.B]:=S.mem.know (i:=1) (e:=fRep r_api_Stitch (av) a0) d
 refine sLoadVN (vq:=au) 0 [.int .u8 a0.Kind,.bool a0.Purl,iv a0.A,iv a0.B] S (wN d) d d d d d d (lb d) fun a S=>sAlloc (.agg #[.int .u8 0,.bool false,iv 0,iv 0]) S (wN d) d d [.int .u8 0,.bool false,iv 0,iv 0] d d (lb d) fun a a7 w S=>sStore (p:=a7) (off:=0) (T:=81) (vs:=[.int .u8 0,.bool false,iv 0,iv 0]) (v:=.agg #[.int .u8 a0.Kind,.bool a0.Purl,iv a0.A,iv a0.B]) 0 [.int .u8 a0.Kind,.bool a0.Purl,iv a0.A,iv a0.B] S (wN d) d d d d d d d (by simp) d fun a w S=>lT (ai _ _ (sSeq (fun aK al=>sRegion (sField (b:=a7) (off:=0) 0 0 S (wN d) d d d d d (lb d) fun a S=>sLoad1 0 (.int .u8 a0.Kind) S (wN d) d d d d d d (lb d) fun a S=>?_))))
 obtain ⟨a2,am,h⟩:=bS h
 refine sCall (X:=Value) (f:=103) (vs:=[.int .u8 a0.Kind]) (val:=c_stitch_forms_val a2) (B':=fun _=>[]) (D':=c_stitch_forms_D a2) [] [eBox a7 81 [.int .u8 a0.Kind,.bool a0.Purl,iv a0.A,iv a0.B]] [] [0] [] S (wN d) d callee103 d (by decide) d d (fun E1 w1 S1=>c_stitch_forms E1 w1 a0.Kind a2 am S1) d (lb d) fun aw a w S=>?_
 obtain rfl:aw=gv_stitch_form a2.1:=S.mem.know (i:=0) (e:=fRep r_stitch_form (aw) a2.1) d
 refine sM S fun a S=>?_
 refine sExtract (vs:=[gv_stitch_form a2.1,.bool a2.2]) (gv_stitch_form a2.1) S (wN d) d d d d (lb d) fun a S=>sExtract (vs:=[gv_stitch_form a2.1,.bool a2.2]) (.bool a2.2) S (wN d) d d d d (lb d) fun a S=>sAlloc (gv_stitch_form (stitch_form.mk (⟨#[]⟩:ByteArray) (0,0) (0,0) false 0 0)) S (wN d) d d (gl_stitch_form (stitch_form.mk (⟨#[]⟩:ByteArray) (0,0) (0,0) false 0 0)) d d (lb d) fun a ao w S=>sStore (p:=ao) (off:=0) (T:=156) (vs:=[.string (⟨#[]⟩:ByteArray),iv 0,iv 0,iv 0,iv 0,.bool false,iv 0,iv 0]) (v:=gv_stitch_form a2.1) 0 [.string a2.1.letter,iv a2.1.a.1,iv a2.1.a.2,iv a2.1.b.1,iv a2.1.b.2,.bool a2.1.sided,iv a2.1.uses,iv a2.1.made] S (wN d) d d d d d d d (by simp) d fun a w S=>sN S fun a S=>?_
 refine lT (al _ _ (sSeq (fun aL ap=>sRegion (sM S fun a S=>?_))))
 refine sLoadN (p:=a7) (off:=0) (T:=81) (vs:=[.int .u8 a0.Kind,.bool a0.Purl,iv a0.A,iv a0.B]) 1 [.int .u8 a0.Kind,.bool a0.Purl,iv a0.A,iv a0.B] S (wN d) d d d d d d d (lb d) fun a S=>sField (b:=ao) (off:=0) 6 6 S (wN d) d d d d d (lb d) fun a S=>sLoad1 0 (iv a2.1.uses) S (wN d) d d d d d d (lb d) fun a S=>?_
 obtain ⟨aa,aq,h⟩:=bS h
 have S1:=S.mem
 refine sCq [.agg #[.int .u8 a0.Kind,.bool a0.Purl,iv a0.A,iv a0.B],iv a2.1.uses] (iv aa) S callee105 (S1.quiet [2] d) (fun E1 w1 S1=>c_stitch_loops E1 w1 a0 (.agg #[.int .u8 a0.Kind,.bool a0.Purl,iv a0.A,iv a0.B]) a2.1.uses aa aq S1) fun a w S=>?_
 refine sBin _ S (wN d) d d d (bAdd _ _ _ _ s9 aa) d (lb d) fun a S=>sN S fun a S=>?_
 refine lT (ap _ _ (sRegion (sM S fun a S=>?_)))
 refine sLoadN (p:=a7) (off:=0) (T:=81) (vs:=[.int .u8 a0.Kind,.bool a0.Purl,iv a0.A,iv a0.B]) 1 [.int .u8 a0.Kind,.bool a0.Purl,iv a0.A,iv a0.B] S (wN d) d d d d d d d (lb d) fun a S=>sField (b:=ao) (off:=0) 7 7 S (wN d) d d d d d (lb d) fun a S=>sLoad1 0 (iv a2.1.made) S (wN d) d d d d d d (lb d) fun a S=>?_
 obtain ⟨ab,ar,h⟩:=bS h
 have S1:=S.mem
 refine sCq [.agg #[.int .u8 a0.Kind,.bool a0.Purl,iv a0.A,iv a0.B],iv a2.1.made] (iv ab) S callee105 (S1.quiet [2] d) (fun E1 w1 S1=>c_stitch_loops E1 w1 a0 (.agg #[.int .u8 a0.Kind,.bool a0.Purl,iv a0.A,iv a0.B]) a2.1.made ab ar S1) fun a w S=>?_
 refine sBin _ S (wN d) d d d (bAdd _ _ _ _ a6 ab) d (lb d) fun a S=>sN S fun a S=>?_
 refine leafL (leafB (leafT (ah _ _ ?_)))
 refine sRegion (sBin _ S (wN d) d d d (bAdd _ _ _ _ a5 1) d (lb d) fun a S=>sM S fun a S=>?_)
 exact lT (⟨(w64 (s9 + aa),w64 (a6 + ab),w64 (a5 + 1)),(Option.some.inj h).symm,(S.fix [] [4] (by decide) d d d)⟩)
noncomputable def F_stitch_All (p0:(List api_Stitch)):Option Int:=
 if decide (200 < (p0.length:Int)) then
  some 4
 else
  (F_slices_ContainsFunc___api_Stitch_api_Stitch__s0 p0).bind fun a2=>
  if a2 then
   some 8
  else
   (F_stitch_sum p0).bind fun a0=>
   if decide (200 < (if a0.1 < a0.2 then a0.2 else a0.1)) then
    some 4
   else
    some 0
theorem c_stitch_All (E:Nat→Prop) (w0:World) (p0:(List api_Stitch)) (v0:Value) (r:Int) (h:F_stitch_All p0=some r) (S:St0 E [] w0 w0 [] [fRep (rL r_api_Stitch) (v0) p0]) :
 Calls Try.prog 56 #[v0] w0 (Ret (X:=Unit) E [] w0 (fun _=>.int .i64 r) (fun _=>[]) (fun _=>[])):=by
 unfold F_stitch_All at h
 obtain ⟨a5,a6,_,rfl,_⟩:=S.know (i:=0) (e:=fRep (rL r_api_Stitch) (v0) p0) d
 refine sEnter (args:=[.slice a5 p0.length a6]) 19 Try.func56 d d (by simp) S (fun a S=>?_)
 refine sSeq (fun K3 ai=>sRegion (sN S fun a S=>?_))
 refine lT (ai _ _ (sSeq (fun K4 aj=>sSeq (fun K5 ak=>sRegion (sM S fun a S=>?_)))))
 refine sLen S (wN d) d Try.underlying47 d d (lb d) fun a S=>sBin _ S (wN d) d d d (bGt _ _ _ _ .i64 (p0.length:Int) 200) d (lb d) fun a S=>lT (ak _ _ ?_)
 rcases iS h with ⟨a7,h⟩ | ⟨a7,h⟩
 ·refine sCondT S d a7 (sSeq (fun K7 al=>sRegion (sN S fun a S=>?_)))
  refine lT (al _ _ ?_)
  obtain rfl:=tS h
  exact wp_ret (rThen (sRet (iv 4) S (rsl1 d (rvT (t:=2) (v:=iv 4) S d)) ⟨(),d,S.mem.sel [] [] (by decide) d d⟩))
 refine sCondF S d a7 (wp_skip (leafT (aj _ _ ?_)))
 refine sSeq (fun K8 am=>sSeq (fun K9 ao=>sRegion (sM S fun a S=>?_)))
 obtain ⟨ah,a8,h⟩:=bS h
 have S1:=S.mem
 refine sCq [.slice a5 p0.length a6,.func (.func 87) #[] #[]] (.bool ah) S callee86 (S1.quiet [0] d) (fun E1 w1 S1=>c_slices_ContainsFunc___api_Stitch_api_Stitch__s0 E1 w1 p0 (.slice a5 p0.length a6) ah a8 S1) fun a w S=>?_
 refine lT (ao _ _ ?_)
 rcases iS h with ⟨a2,h⟩ | ⟨a2,h⟩
 ·refine sCondT S d a2 (sSeq (fun ap a9=>sRegion (sN S fun a S=>?_)))
  refine lT (a9 _ _ ?_)
  obtain rfl:=tS h
  exact wp_ret (rThen (sRet (iv 8) S (rsl1 d (rvT (t:=2) (v:=iv 8) S d)) ⟨(),d,S.mem.sel [] [] (by decide) d d⟩))
 refine sCondF S d a2 (wp_skip (leafT (am _ _ ?_)))
 refine sSeq (fun aq aa=>sSeq (fun ar ab=>sRegion (sM S fun a S=>?_)))
 obtain ⟨a0,ac,h⟩:=bS h
 have S1:=S.mem
 refine sCq [.slice a5 p0.length a6] (.tuple #[iv a0.1,iv a0.2]) S callee89 (S1.quiet [0] d) (fun E1 w1 S1=>c_stitch_sum E1 w1 p0 (.slice a5 p0.length a6) a0 ac S1) fun a w S=>?_
 refine sM S fun a S=>?_
 refine sExtract (vs:=[iv a0.1,iv a0.2]) (iv a0.1) S (wN d) d d d d (lb d) fun a S=>sExtract (vs:=[iv a0.1,iv a0.2]) (iv a0.2) S (wN d) d d d d (lb d) fun a S=>sN S fun a S=>?_
 refine sN S fun a S=>?_
 refine lT (ab _ _ (sSeq (fun au ae=>sRegion (sM S fun a S=>?_))))
 refine sM S fun a S=>?_
 refine sMax2 (p:=a0.1) (q:=a0.2) S (wN d) d d d d (lb d) fun a S=>sBin _ S (wN d) d d d (bGt _ _ _ _ .i64 (if a0.1 < a0.2 then a0.2 else a0.1) 200) d (lb d) fun a S=>lT (ae _ _ ?_)
 rcases iS h with ⟨a4,h⟩ | ⟨a4,h⟩
 ·refine sCondT S d a4 (sSeq (fun av af=>sRegion (sN S fun a S=>?_)))
  refine lT (af _ _ ?_)
  obtain rfl:=tS h
  exact wp_ret (rThen (sRet (iv 4) S (rsl1 d (rvT (t:=2) (v:=iv 4) S d)) ⟨(),d,S.mem.sel [] [] (by decide) d d⟩))
 refine sCondF S d a4 (wp_skip (leafT (aa _ _ ?_)))
 refine sSeq (fun aw ag=>sRegion (sN S fun a S=>?_))
 refine lT (ag _ _ ?_)
 obtain rfl:=tS h
 exact wp_ret (sRet (iv 0) S (rsl1 d (rvT (t:=2) (v:=iv 0) S d)) ⟨(),d,S.mem.sel [] [] (by decide) d d⟩)
noncomputable def F_stitch_Uses (p0:(List api_Stitch)):Option (Int × Int):=
 (F_stitch_All p0).bind fun r6=>
 if r6 != 0 then
  some (0,r6)
 else
  (F_stitch_sum p0).bind fun a0=>
  some (a0.1,0)
theorem c_stitch_Uses (E:Nat→Prop) (w0:World) (p0:(List api_Stitch)) (v0:Value) (r:(Int × Int)) (h:F_stitch_Uses p0=some r) (S:St0 E [] w0 w0 [] [fRep (rL r_api_Stitch) (v0) p0]) :
 Calls Try.prog 100 #[v0] w0 (Ret (X:=Unit) E [] w0 (fun _=>.tuple #[.int .i64 r.1,.int .i64 r.2]) (fun _=>[]) (fun _=>[])):=by
 unfold F_stitch_Uses at h
 obtain ⟨a2,a4,_,rfl,_⟩:=S.know (i:=0) (e:=fRep (rL r_api_Stitch) (v0) p0) d
 refine sEnter (args:=[.slice a2 p0.length a4]) 18 Try.func100 d d (by simp) S (fun a S=>?_)
 refine sSeq (fun K3 aa=>sRegion (sN S fun a S=>?_))
 refine sN S fun a S=>?_
 refine lT (aa _ _ (sSeq (fun K4 ab=>sSeq (fun K5 ac=>sRegion (sM S fun a S=>?_)))))
 obtain ⟨r6,ae,h⟩:=bS h
 have S1:=S.mem
 refine sCq [.slice a2 p0.length a4] (iv r6) S callee56 (S1.quiet [0] d) (fun E1 w1 S1=>c_stitch_All E1 w1 p0 (.slice a2 p0.length a4) r6 ae S1) fun a w S=>?_
 refine sN S fun a S=>?_
 refine lT (ac _ _ (sSeq (fun K8 af=>sRegion (sM S fun a S=>?_))))
 refine sBin _ S (wN d) d d d (bNe _ _ _ _ .i64 r6 0) d (lb d) fun a S=>lT (af _ _ ?_)
 rcases iS h with ⟨a5,h⟩ | ⟨a5,h⟩
 ·refine sCondT S d a5 (sSeq (fun ag a6=>sRegion (sM S fun a S=>?_)))
  refine sN S fun a S=>?_
  refine sN S fun a S=>?_
  refine lT (a6 _ _ ?_)
  obtain rfl:=tS h
  exact wp_ret (rThen (sRet (.tuple #[iv 0,iv r6]) S (rsl2 d (rvT (t:=2) (v:=iv 0) S d) (rvT (t:=3) (v:=iv r6) S d)) ⟨(),d,S.mem.sel [] [] (by decide) d d⟩))
 refine sCondF S d a5 (wp_skip (leafT (ab _ _ ?_)))
 refine sSeq (fun ah a7=>sRegion (sM S fun a S=>?_))
 obtain ⟨a0,a8,h⟩:=bS h
 have S1:=S.mem
 refine sCq [.slice a2 p0.length a4] (.tuple #[iv a0.1,iv a0.2]) S callee89 (S1.quiet [0] d) (fun E1 w1 S1=>c_stitch_sum E1 w1 p0 (.slice a2 p0.length a4) a0 a8 S1) fun a w S=>?_
 refine sM S fun a S=>?_
 refine sExtract (vs:=[iv a0.1,iv a0.2]) (iv a0.1) S (wN d) d d d d (lb d) fun a S=>sExtract (vs:=[iv a0.1,iv a0.2]) (iv a0.2) S (wN d) d d d d (lb d) fun a S=>sN S fun a S=>?_
 refine sN S fun a S=>?_
 refine lT (a7 _ _ (sSeq (fun ai a9=>sRegion (sM S fun a S=>?_))))
 refine sN S fun a S=>?_
 refine sN S fun a S=>?_
 refine lT (a9 _ _ ?_)
 obtain rfl:=tS h
 exact wp_ret (sRet (.tuple #[iv a0.1,iv 0]) S (rsl2 d (rvT (t:=2) (v:=iv a0.1) S d) (rvT (t:=3) (v:=iv 0) S d)) ⟨(),d,S.mem.sel [] [] (by decide) d d⟩)
noncomputable def F_stitch_Makes (p0:(List api_Stitch)):Option (Int × Int):=
 (F_stitch_All p0).bind fun r6=>
 if r6 != 0 then
  some (0,r6)
 else
  (F_stitch_sum p0).bind fun a0=>
  some (a0.2,0)
theorem c_stitch_Makes (E:Nat→Prop) (w0:World) (p0:(List api_Stitch)) (v0:Value) (r:(Int × Int)) (h:F_stitch_Makes p0=some r) (S:St0 E [] w0 w0 [] [fRep (rL r_api_Stitch) (v0) p0]) :
 Calls Try.prog 101 #[v0] w0 (Ret (X:=Unit) E [] w0 (fun _=>.tuple #[.int .i64 r.1,.int .i64 r.2]) (fun _=>[]) (fun _=>[])):=by
 unfold F_stitch_Makes at h
 obtain ⟨a2,a4,_,rfl,_⟩:=S.know (i:=0) (e:=fRep (rL r_api_Stitch) (v0) p0) d
 refine sEnter (args:=[.slice a2 p0.length a4]) 18 Try.func101 d d (by simp) S (fun a S=>?_)
 refine sSeq (fun K3 aa=>sRegion (sN S fun a S=>?_))
 refine sN S fun a S=>?_
 refine lT (aa _ _ (sSeq (fun K4 ab=>sSeq (fun K5 ac=>sRegion (sM S fun a S=>?_)))))
 obtain ⟨r6,ae,h⟩:=bS h
 have S1:=S.mem
 refine sCq [.slice a2 p0.length a4] (iv r6) S callee56 (S1.quiet [0] d) (fun E1 w1 S1=>c_stitch_All E1 w1 p0 (.slice a2 p0.length a4) r6 ae S1) fun a w S=>?_
 refine sN S fun a S=>?_
 refine lT (ac _ _ (sSeq (fun K8 af=>sRegion (sM S fun a S=>?_))))
 refine sBin _ S (wN d) d d d (bNe _ _ _ _ .i64 r6 0) d (lb d) fun a S=>lT (af _ _ ?_)
 rcases iS h with ⟨a5,h⟩ | ⟨a5,h⟩
 ·refine sCondT S d a5 (sSeq (fun ag a6=>sRegion (sM S fun a S=>?_)))
  refine sN S fun a S=>?_
  refine sN S fun a S=>?_
  refine lT (a6 _ _ ?_)
  obtain rfl:=tS h
  exact wp_ret (rThen (sRet (.tuple #[iv 0,iv r6]) S (rsl2 d (rvT (t:=2) (v:=iv 0) S d) (rvT (t:=3) (v:=iv r6) S d)) ⟨(),d,S.mem.sel [] [] (by decide) d d⟩))
 refine sCondF S d a5 (wp_skip (leafT (ab _ _ ?_)))
 refine sSeq (fun ah a7=>sRegion (sM S fun a S=>?_))
 obtain ⟨a0,a8,h⟩:=bS h
 have S1:=S.mem
 refine sCq [.slice a2 p0.length a4] (.tuple #[iv a0.1,iv a0.2]) S callee89 (S1.quiet [0] d) (fun E1 w1 S1=>c_stitch_sum E1 w1 p0 (.slice a2 p0.length a4) a0 a8 S1) fun a w S=>?_
 refine sM S fun a S=>?_
 refine sExtract (vs:=[iv a0.1,iv a0.2]) (iv a0.1) S (wN d) d d d d (lb d) fun a S=>sExtract (vs:=[iv a0.1,iv a0.2]) (iv a0.2) S (wN d) d d d d (lb d) fun a S=>sN S fun a S=>?_
 refine sN S fun a S=>?_
 refine lT (a7 _ _ (sSeq (fun ai a9=>sRegion (sM S fun a S=>?_))))
 refine sN S fun a S=>?_
 refine sN S fun a S=>?_
 refine lT (a9 _ _ ?_)
 obtain rfl:=tS h
 exact wp_ret (sRet (.tuple #[iv a0.2,iv 0]) S (rsl2 d (rvT (t:=2) (v:=iv a0.2) S d) (rvT (t:=3) (v:=iv 0) S d)) ⟨(),d,S.mem.sel [] [] (by decide) d d⟩)
noncomputable def raddleref25_kind_l1 (p0:Int):Int→Option (Int ⊕ (Int ⊕ Unit)):=fun s0=>match s0 with
 | s9=>
  if decide (s9 < ((⟨#[102,108,109,120,121,115,111]⟩:ByteArray).size:Int)) then
   (idxS (⟨#[102,108,109,120,121,115,111]⟩:ByteArray) s9).bind fun a0=>
   if a0 == p0 then
    (idxO ([3,4,5,6,7,8,10]:List Int) s9).bind fun a2=>
    some (.inr (.inl a2))
   else
    some (.inl (w64 (s9 + 1)))
  else
   some (.inr (.inr ()))
noncomputable def F_raddleref25_kind (p0:Int):Option Int:=
 Option.bind (α:=Unit ⊕ Int) (
  (whileO (raddleref25_kind_l1 p0) 0).bind fun z0=>match z0 with
   | .inl z=>
    some (.inr z)
   | .inr _=>
    some (.inl ())) fun z0=>match z0 with
  | .inl _=>
   some 0
  | .inr z=>
   some z
theorem c_raddleref25_kind (E:Nat→Prop) (w0:World) (p0:Int) (r:Int) (h:F_raddleref25_kind p0=some r) (S:St0 E [] w0 w0 [] []) :
 Calls Try.prog 106 #[.int .u8 p0] w0 (Ret (X:=Unit) E [] w0 (fun _=>.int .u8 r) (fun _=>[]) (fun _=>[])):=by
 unfold F_raddleref25_kind at h
 refine sEnter (args:=[.int .u8 p0]) 22 Try.func106 d d (by simp) S (fun a S=>?_)
 refine sSeq (fun K1 ak=>sRegion (sN S fun a S=>?_))
 refine lT (ak _ _ (sSeq (fun K2 al=>sRegion (sN S fun a S=>?_))))
 refine lT (al _ _ (sSeq (fun K3 am=>sRegion (sLit (r:=(rI .u8)) (T:=5) (xs:=([3,4,5,6,7,8,10]:List Int)) [(0,.int .u8 3),(1,.int .u8 4),(2,.int .u8 5),(3,.int .u8 6),(4,.int .u8 7),(5,.int .u8 8),(6,.int .u8 10)] 7 [.int .u8 3,.int .u8 4,.int .u8 5,.int .u8 6,.int .u8 7,.int .u8 8,.int .u8 10] [.int .u8 3,.int .u8 4,.int .u8 5,.int .u8 6,.int .u8 7,.int .u8 8,.int .u8 10] (.int .u8 0) 1 S (wN d) d d Try.underlying166 d (by decide) (by decide) (by kernel_rfl) d (fun E1 w1 hE=>All.cons d (All.cons d (All.cons d (All.cons d (All.cons d (All.cons d (All.cons d (All.nil _ _ _)))))))) d d (lb d) fun a w a6 a7 S=>?_))))
 refine sN S fun a S=>?_
 refine lT (am _ _ ?_)
 obtain ⟨t6,h,g7⟩:=bS h
 refine sCut (fun a w=>.inl ()=t6∧St [] E [] w0 22 a w [] [] []) ?_ (fun a w hI=>?_)
 rotate_left
 ·obtain ⟨rfl,S⟩:=hI
  have h:=g7
  try dsimp only at h
  refine sSeq (fun ar a9=>sRegion (sN S fun a S=>?_))
  refine lT (a9 _ _ ?_)
  obtain rfl:=tS h
  exact wp_ret (sRet (.int .u8 0) S (rsl1 d (rvT (t:=2) (v:=.int .u8 0) S d)) ⟨(),d,S.mem.sel [] [] (by decide) d d⟩)
 refine sSeq (fun K8 ao=>sRegion (sN S fun a S=>?_))
 refine lT (ao _ _ (wp_block ?_))
 obtain ⟨au,hl,aj⟩:=bS h
 refine sLoop hl (fun s0 a w=>match s0 with | s9=>St [] E [] w0 22 a w [(0,.int .u8 p0),(3,.string (⟨#[102,108,109,120,121,115,111]⟩:ByteArray)),(4,.slice a6 ([3,4,5,6,7,8,10]:List Int).length a7),(5,iv s9)] [eRow (rI .u8) 5 (.slice a6 ([3,4,5,6,7,8,10]:List Int).length a7) ([3,4,5,6,7,8,10]:List Int)] []) (S.fix [0] [] (by decide) d d d) ?_
 clear hl h
 intro s9 a w c0 hI h a4
 unfold raddleref25_kind_l1 at h
 dsimp only at h hI
 have S:=hI
 refine sSeq (fun av aa=>sSeq (fun aw ab=>sRegion (sM S fun a S=>?_)))
 refine sM S fun a S=>?_
 refine sLenS (v:=(⟨#[102,108,109,120,121,115,111]⟩:ByteArray)) S (wN d) d Try.underlying9 d d (lb d) fun a S=>sBin _ S (wN d) d d d (bLt _ _ _ _ .i64 s9 ((⟨#[102,108,109,120,121,115,111]⟩:ByteArray).size:Int)) d (lb d) fun a S=>lT (ab _ _ ?_)
 rcases iS h with ⟨a0,h⟩ | ⟨a0,h⟩
 rotate_left
 ·refine sCondF S d a0 ?_
  obtain rfl:=tS h
  obtain rfl:=a4 _ d
  have h:=aj
  try dsimp only at h
  exact wp_exit (xThen (xThen (xHit (leafT (⟨Option.some.inj h,S.fix [] [] (by decide) d d d⟩)))))
 refine sCondT S d a0 (wp_skip (leafT (aa _ _ ?_)))
 refine sSeq (fun ax ac=>wp_block ?_)
 refine sSeq (fun ay ae=>sRegion (sM S fun a S=>?_))
 refine sM S fun a S=>?_
 obtain ⟨ap,af,h⟩:=bS h
 refine sIndexS (v:=(⟨#[102,108,109,120,121,115,111]⟩:ByteArray)) (j:=s9) (k:=.i64) S (wN d) d Try.underlying9 d d af d (lb d) fun a S=>sM S fun a S=>?_
 refine sBin _ S (wN d) d d d (bEq _ _ _ _ .u8 ap p0) d (lb d) fun a S=>lT (ae _ _ ?_)
 rcases iS h with ⟨a2,h⟩ | ⟨a2,h⟩
 rotate_left
 ·refine sCondF S d a2 (wp_skip (leafB (leafT (ac _ _ ?_))))
  refine sRegion (sM S fun a S=>?_)
  refine sBin _ S (wN d) d d d (bAdd _ _ _ _ s9 1) d (lb d) fun a S=>sN S fun a S=>?_
  exact lT (⟨w64 (s9 + 1),(Option.some.inj h).symm,(S.fix [0] [] (by decide) d d d)⟩)
 refine sCondT S d a2 (sSeq (fun az ag=>sRegion (sM S fun a S=>?_)))
 refine sM S fun a S=>?_
 obtain ⟨a8,a5,h⟩:=bS h
 obtain ⟨aq,ah,ai⟩:=pIdxR (P:=Try.prog) (r:=(rI .u8)) (T:=5) (v:=.slice a6 ([3,4,5,6,7,8,10]:List Int).length a7) (xs:=([3,4,5,6,7,8,10]:List Int)) (j:=s9) 166 5 0 S Try.underlying166 d d a5
 refine sIdxV S (wN d) d d d ah d (lb d) fun a S=>sLoadR (r:=(rI .u8)) (T:=5) (xs:=([3,4,5,6,7,8,10]:List Int)) (x:=a8) (v:=.slice a6 ([3,4,5,6,7,8,10]:List Int).length a7) (vq:=aq) (j:=s9) 0 (.int .u8 a8) S ai (wN d) d d d a5 (fun _ _ _ h=>h) (scal_I _) d d (lb d) fun a S=>sN S fun a S=>?_
 refine lT (ag _ _ ?_)
 obtain rfl:=tS h
 obtain rfl:=a4 _ d
 have h:=aj
 try dsimp only at h
 obtain rfl:=tS h
 have h:=g7
 try dsimp only at h
 obtain rfl:=tS h
 exact wp_ret (rBlock (rThen (rThen (rBlock (rThen (sRet (.int .u8 a8) S (rsl1 d (rvT (t:=2) (v:=.int .u8 a8) S d)) ⟨(),d,S.mem.sel [] [] (by decide) d d⟩))))))
noncomputable def raddleref25_Decimal_l1 :(Int × ByteArray)→Option ((Int × ByteArray) ⊕ ByteArray):=fun s0=>match s0 with
 | (a0,a2)=>
  if decide (0 < a0) then
   (remI a0 10).bind fun a4=>
   (addS (strO ([IntKind.u8.wrap (w64 (48 + a4))]:List Int)) a2).bind fun a5=>
   (quoI a0 10).bind fun a6=>
   some (.inl (a6,a5))
  else
   some (.inr a2)
noncomputable def F_raddleref25_Decimal (p0:Int):Option ByteArray:=
 (remI p0 10).bind fun z3=>
 Option.bind (α:=ByteArray) (
  (quoI p0 10).bind fun a0=>
  (whileO (raddleref25_Decimal_l1) (a0,strO ([IntKind.u8.wrap (w64 (48 + z3))]:List Int))).bind fun a2=>
   some a2) fun o7=>
 some o7
theorem c_raddleref25_Decimal (E:Nat→Prop) (w0:World) (p0:Int) (r:ByteArray) (h:F_raddleref25_Decimal p0=some r) (S:St0 E [] w0 w0 [] []) :
 Calls Try.prog 108 #[iv p0] w0 (Ret (X:=Unit) E [] w0 (fun _=>.string r) (fun _=>[]) (fun _=>[])):=by
 unfold F_raddleref25_Decimal at h
 refine sEnter (args:=[iv p0]) 25 Try.func108 d d (by simp) S (fun a S=>?_)
 refine sSeq (fun K1 aj=>sRegion (sN S fun a S=>?_))
 refine lT (aj _ _ (sSeq (fun K2 ak=>sRegion (sM S fun a S=>?_))))
 obtain ⟨z3,al,h⟩:=bS h
 refine sBin _ S (wN d) d d d (bRem _ _ _ _ (x:=p0) (y:=10) al) d (lb d) fun a S=>sBin _ S (wN d) d d d (bAdd _ _ _ _ 48 z3) d (lb d) fun a S=>sConv (k:=.i64) (k2:=.u8) (b:=w64 (48 + z3)) S (wN d) d Try.underlying3 Try.underlying5 d d (lb d) fun a S=>sLit (r:=(rI .u8)) (T:=5) (xs:=([IntKind.u8.wrap (w64 (48 + z3))]:List Int)) [(0,.int .u8 (IntKind.u8.wrap (w64 (48 + z3))))] 1 [.int .u8 (IntKind.u8.wrap (w64 (48 + z3)))] [.int .u8 (IntKind.u8.wrap (w64 (48 + z3)))] (.int .u8 0) 1 S (wN d) d d Try.underlying166 d (by decide) (by decide) (by kernel_rfl) d (fun E1 w1 hE=>All.cons d (All.nil _ _ _)) d d (lb d) fun a w am ao S=>?_
 refine sBytesStr (e:=5) (v:=.slice am ([IntKind.u8.wrap (w64 (48 + z3))]:List Int).length ao) (ys:=([IntKind.u8.wrap (w64 (48 + z3))]:List Int)) S (wN d) d d Try.underlying166 Try.underlying5 Try.underlying9 (src_R (T:=5) 0 S.mem d) d (lb d) fun a S=>?_
 refine sN S fun a S=>?_
 refine lT (ak _ _ ?_)
 obtain ⟨t8,h,g9⟩:=bS h
 refine sCut (fun a w=>∃ o7,o7=t8∧St [] E [] w0 25 a w [(3,.string o7)] [] []) ?_ (fun a w hI=>?_)
 rotate_left
 ·obtain ⟨o7,rfl,S⟩:=hI
  have h:=g9
  try dsimp only at h
  refine sSeq (fun au a6=>sRegion (sM S fun a S=>?_))
  refine sN S fun a S=>?_
  refine lT (a6 _ _ ?_)
  obtain rfl:=tS h
  exact wp_ret (sRet (.string o7) S (rsl1 d (rvT (t:=2) (v:=.string o7) S d)) ⟨(),d,S.mem.sel [] [] (by decide) d d⟩)
 refine sSeq (fun av a7=>sRegion (sM S fun a S=>?_))
 obtain ⟨aw,a8,h⟩:=bS h
 refine sBin _ S (wN d) d d d (bQuo _ _ _ _ (x:=p0) (y:=10) a8) d (lb d) fun a S=>sN S fun a S=>?_
 refine lT (a7 _ _ (wp_block ?_))
 obtain ⟨ax,hl,ap⟩:=bS h
 refine sLoop hl (fun s0 a w=>match s0 with | (a4,a5)=>St [] E [] w0 25 a w [(0,iv a4),(3,.string a5)] [] []) (S.fix [] [] (by decide) d d d) ?_
 clear hl h
 intro s0 a w c0 hI h a9
 obtain ⟨a4,a5⟩:=s0
 unfold raddleref25_Decimal_l1 at h
 dsimp only at h hI
 have S:=hI
 refine sSeq (fun ay aa=>sSeq (fun az ab=>sRegion (sM S fun a S=>?_)))
 refine sBin _ S (wN d) d d d (bGt _ _ _ _ .i64 a4 0) d (lb d) fun a S=>lT (ab _ _ ?_)
 rcases iS h with ⟨a2,h⟩ | ⟨a2,h⟩
 rotate_left
 ·refine sCondF S d a2 ?_
  obtain rfl:=tS h
  obtain rfl:=a9 _ d
  have h:=ap
  try dsimp only at h
  exact wp_exit (xThen (xThen (xHit (leafT (⟨a5,Option.some.inj h,S.fix [] [] (by decide) d d d⟩)))))
 refine sCondT S d a2 (wp_skip (leafT (aa _ _ ?_)))
 refine sSeq (fun aA ac=>wp_block ?_)
 refine sRegion (sM S fun a S=>?_)
 obtain ⟨a0,ae,h⟩:=bS h
 refine sBin _ S (wN d) d d d (bRem _ _ _ _ (x:=a4) (y:=10) ae) d (lb d) fun a S=>sBin _ S (wN d) d d d (bAdd _ _ _ _ 48 a0) d (lb d) fun a S=>sConv (k:=.i64) (k2:=.u8) (b:=w64 (48 + a0)) S (wN d) d Try.underlying3 Try.underlying5 d d (lb d) fun a S=>sLit (r:=(rI .u8)) (T:=5) (xs:=([IntKind.u8.wrap (w64 (48 + a0))]:List Int)) [(0,.int .u8 (IntKind.u8.wrap (w64 (48 + a0))))] 1 [.int .u8 (IntKind.u8.wrap (w64 (48 + a0)))] [.int .u8 (IntKind.u8.wrap (w64 (48 + a0)))] (.int .u8 0) 1 S (wN d) d d Try.underlying166 d (by decide) (by decide) (by kernel_rfl) d (fun E1 w1 hE=>All.cons d (All.nil _ _ _)) d d (lb d) fun a w af ag S=>?_
 refine sBytesStr (e:=5) (v:=.slice af ([IntKind.u8.wrap (w64 (48 + a0))]:List Int).length ag) (ys:=([IntKind.u8.wrap (w64 (48 + a0))]:List Int)) S (wN d) d d Try.underlying166 Try.underlying5 Try.underlying9 (src_R (T:=5) 0 S.mem d) d (lb d) fun a S=>?_
 refine sM S fun a S=>?_
 obtain ⟨aq,ah,h⟩:=bS h
 refine sBin _ S (wN d) d d d (bAddS _ _ _ _ (x:=strO ([IntKind.u8.wrap (w64 (48 + a0))]:List Int)) (y:=a5) ah) d (lb d) fun a S=>sN S fun a S=>?_
 refine leafL (leafB (leafT (ac _ _ ?_)))
 refine sRegion (sM S fun a S=>?_)
 obtain ⟨ar,ai,h⟩:=bS h
 refine sBin _ S (wN d) d d d (bQuo _ _ _ _ (x:=a4) (y:=10) ai) d (lb d) fun a S=>sN S fun a S=>?_
 exact lT (⟨(ar,aq),(Option.some.inj h).symm,(S.fix [] [] (by decide) d d d)⟩)
def anc_raddleref25_one_0:List (List Nat):=[[],[0],[],[2],[2,3],[0,1,2,3,4],[0,1,2,3,4,5],[],[7],[2,3,4,7,8],[0,1,2,3,4,5,6,7,8,9],[0,1,2,3,4,5,6,7,8,9,10]]
noncomputable def F_raddleref25_one (p0:api_Stitch):Option ByteArray:=
 Option.bind (α:=ByteArray) (
  if p0.Purl then
   some (⟨#[112]⟩:ByteArray)
  else
   some (⟨#[107]⟩:ByteArray)) fun o4=>
 if p0.Kind == 1 then
  some o4
 else
  if p0.Kind == 2 then
   some (⟨#[121,111]⟩:ByteArray)
  else
   if p0.Kind == 3 then
    (addS o4 (⟨#[102]⟩:ByteArray)).bind fun a0=>
    (F_raddleref25_Decimal p0.A).bind fun a2=>
    (addS a0 a2).bind fun a4=>
    some a4
   else
    if p0.Kind == 4 then
     (addS o4 (⟨#[108]⟩:ByteArray)).bind fun a5=>
     (F_raddleref25_Decimal p0.A).bind fun a6=>
     (addS a5 a6).bind fun a7=>
     some a7
    else
     if p0.Kind == 5 then
      (addS o4 (⟨#[109]⟩:ByteArray)).bind fun a8=>
      (F_raddleref25_Decimal p0.A).bind fun a9=>
      (addS a8 a9).bind fun aa=>
      some aa
     else
      if p0.Kind == 6 then
       (addS o4 (⟨#[120]⟩:ByteArray)).bind fun ab=>
       (F_raddleref25_Decimal p0.A).bind fun ac=>
       (addS ab ac).bind fun ae=>
       (addS ae (⟨#[47]⟩:ByteArray)).bind fun af=>
       (F_raddleref25_Decimal p0.B).bind fun ag=>
       (addS af ag).bind fun ah=>
       some ah
      else
       if p0.Kind == 7 then
        (addS o4 (⟨#[121]⟩:ByteArray)).bind fun ai=>
        (F_raddleref25_Decimal p0.A).bind fun aj=>
        (addS ai aj).bind fun ak=>
        (addS ak (⟨#[47]⟩:ByteArray)).bind fun al=>
        (F_raddleref25_Decimal p0.B).bind fun am=>
        (addS al am).bind fun ao=>
        some ao
       else
        if p0.Kind == 8 then
         (addS o4 (⟨#[115]⟩:ByteArray)).bind fun ap=>
         some ap
        else
         if p0.Kind == 9 then
          (F_raddleref25_Decimal p0.A).bind fun aq=>
          (addS (⟨#[111,110]⟩:ByteArray) aq).bind fun ar=>
          some ar
         else
          (addS o4 (⟨#[111]⟩:ByteArray)).bind fun au=>
          (F_raddleref25_Decimal p0.A).bind fun av=>
          (addS au av).bind fun aw=>
          some aw
theorem c_raddleref25_one (E:Nat→Prop) (w0:World) (p0:api_Stitch) (v0:Value) (r:ByteArray) (h:F_raddleref25_one p0=some r) (S:St0 E [] w0 w0 [] [fRep r_api_Stitch (v0) p0]) :
 Calls Try.prog 107 #[v0] w0 (Ret (X:=Unit) E [] w0 (fun _=>.string r) (fun _=>[]) (fun _=>[])):=by
 unfold F_raddleref25_one at h
 obtain rfl:v0=.agg #[.int .u8 p0.Kind,.bool p0.Purl,iv p0.A,iv p0.B]:=S.know (i:=0) (e:=fRep r_api_Stitch (v0) p0) d
 refine sEnter (args:=[.agg #[.int .u8 p0.Kind,.bool p0.Purl,iv p0.A,iv p0.B]]) 79 Try.func107 d d (by simp) S (fun a S=>?_)
 refine sSeq (fun K1 bG=>sRegion (sBox (v:=.agg #[.int .u8 p0.Kind,.bool p0.Purl,iv p0.A,iv p0.B]) S (wN d) d d [.int .u8 p0.Kind,.bool p0.Purl,iv p0.A,iv p0.B] d d (lb d) fun a b2 w S=>sN S fun a S=>?_))
 refine lT (bG _ _ (sSeq (fun K3 bH=>sRegion (sN S fun a S=>?_))))
 refine lT (bH _ _ ?_)
 obtain ⟨t5,h,g6⟩:=bS h
 refine sCut (fun a w=>∃ o4,o4=t5∧St [] E [] w0 79 a w [(1,.pointer (some ⟨b2,0,none⟩)),(3,.string o4)] [eBox b2 81 [.int .u8 p0.Kind,.bool p0.Purl,iv p0.A,iv p0.B]] []) ?_ (fun a w hI=>?_)
 ·refine sSeq (fun K7 bI=>sRegion (sField (b:=b2) (off:=0) 1 1 S (wN d) d d d d d (lb d) fun a S=>sLoad1 0 (.bool p0.Purl) S (wN d) d d d d d d (lb d) fun a S=>lT (bI _ _ ?_)))
  rcases iS h with ⟨ai,h⟩ | ⟨ai,h⟩
  rotate_left
  ·refine sCondF S d ai ?_
   exact wp_skip (leafT (⟨(⟨#[107]⟩:ByteArray),Option.some.inj h,S.fix [0] [] (by decide) d d d⟩))
  refine sCondT S d ai (sRegion (sN S fun a S=>?_))
  exact lT (⟨(⟨#[112]⟩:ByteArray),Option.some.inj h,S.fix [0] [] (by decide) d d d⟩)
 obtain ⟨o4,rfl,S⟩:=hI
 have h:=g6
 try dsimp only at h
 refine sSeq (fun K9 bJ=>sSeq (fun bO aj=>sRegion (sField (b:=b2) (off:=0) 0 0 S (wN d) d d d d d (lb d) fun a S=>sLoad1 0 (.int .u8 p0.Kind) S (wN d) d d d d d d (lb d) fun a S=>lT (aj _ _ (wp_block ?_)))))
 refine sSeq (fun bP ak=>sRegion (sBin _ S (wN d) d d d (bEq _ _ _ _ .u8 p0.Kind 1) d (lb d) fun a S=>sN S fun a S=>?_))
 refine lT (ak _ _ ?_)
 rcases iS h with ⟨a0,h⟩ | ⟨a0,h⟩
 ·refine sCondT S d a0 (sSeq (fun bQ al=>sRegion (sM S fun a S=>?_)))
  refine sN S fun a S=>?_
  refine lT (al _ _ ?_)
  obtain rfl:=tS h
  exact wp_ret (rBlock (rThen (sRet (.string o4) S (rsl1 d (rvT (t:=2) (v:=.string o4) S d)) ⟨(),d,S.mem.sel [] [] (by decide) d d⟩)))
 refine sCondF S d a0 (sSeq (fun bR am=>sRegion (sBin _ S (wN d) d d d (bEq _ _ _ _ .u8 p0.Kind 2) d (lb d) fun a S=>sN S fun a S=>?_)))
 refine lT (am _ _ ?_)
 rcases iS h with ⟨a2,h⟩ | ⟨a2,h⟩
 ·refine sCondT S d a2 (sSeq (fun bT ao=>sRegion (sN S fun a S=>?_)))
  refine lT (ao _ _ ?_)
  obtain rfl:=tS h
  exact wp_ret (rBlock (rThen (sRet (.string (⟨#[121,111]⟩:ByteArray)) S (rsl1 d (rvT (t:=2) (v:=.string (⟨#[121,111]⟩:ByteArray)) S d)) ⟨(),d,S.mem.sel [] [] (by decide) d d⟩)))
 refine sCondF S d a2 (sSeq (fun bU ap=>sRegion (sBin _ S (wN d) d d d (bEq _ _ _ _ .u8 p0.Kind 3) d (lb d) fun a S=>sN S fun a S=>?_)))
 refine lT (ap _ _ ?_)
 rcases iS h with ⟨a4,h⟩ | ⟨a4,h⟩
 ·refine sCondT S d a4 (sSeq (fun bV aq=>sRegion (sM S fun a S=>?_)))
  obtain ⟨bK,ar,h⟩:=bS h
  refine sBin _ S (wN d) d d d (bAddS _ _ _ _ (x:=o4) (y:=(⟨#[102]⟩:ByteArray)) ar) d (lb d) fun a S=>sField (b:=b2) (off:=0) 2 2 S (wN d) d d d d d (lb d) fun a S=>sLoad1 0 (iv p0.A) S (wN d) d d d d d d (lb d) fun a S=>?_
  obtain ⟨au,av,h⟩:=bS h
  have S1:=S.mem
  refine sCq [iv p0.A] (.string au) S callee108 (S1.quiet [] d) (fun E1 w1 S1=>c_raddleref25_Decimal E1 w1 p0.A au av S1) fun a w S=>?_
  obtain ⟨bt,aw,h⟩:=bS h
  refine sBin _ S (wN d) d d d (bAddS _ _ _ _ (x:=bK) (y:=au) aw) d (lb d) fun a S=>sN S fun a S=>?_
  refine lT (aq _ _ ?_)
  obtain rfl:=tS h
  exact wp_ret (rBlock (rThen (sRet (.string bt) S (rsl1 d (rvT (t:=2) (v:=.string bt) S d)) ⟨(),d,S.mem.sel [] [] (by decide) d d⟩)))
 refine sCondF S d a4 (sSeq (fun bW ax=>sRegion (sBin _ S (wN d) d d d (bEq _ _ _ _ .u8 p0.Kind 4) d (lb d) fun a S=>sN S fun a S=>?_)))
 refine lT (ax _ _ ?_)
 rcases iS h with ⟨a5,h⟩ | ⟨a5,h⟩
 ·refine sCondT S d a5 (sSeq (fun bX ay=>sRegion (sM S fun a S=>?_)))
  obtain ⟨bL,az,h⟩:=bS h
  refine sBin _ S (wN d) d d d (bAddS _ _ _ _ (x:=o4) (y:=(⟨#[108]⟩:ByteArray)) az) d (lb d) fun a S=>sField (b:=b2) (off:=0) 2 2 S (wN d) d d d d d (lb d) fun a S=>sLoad1 0 (iv p0.A) S (wN d) d d d d d d (lb d) fun a S=>?_
  obtain ⟨aA,aC,h⟩:=bS h
  have S1:=S.mem
  refine sCq [iv p0.A] (.string aA) S callee108 (S1.quiet [] d) (fun E1 w1 S1=>c_raddleref25_Decimal E1 w1 p0.A aA aC S1) fun a w S=>?_
  obtain ⟨bu,aG,h⟩:=bS h
  refine sBin _ S (wN d) d d d (bAddS _ _ _ _ (x:=bL) (y:=aA) aG) d (lb d) fun a S=>sN S fun a S=>?_
  refine lT (ay _ _ ?_)
  obtain rfl:=tS h
  exact wp_ret (rBlock (rThen (sRet (.string bu) S (rsl1 d (rvT (t:=2) (v:=.string bu) S d)) ⟨(),d,S.mem.sel [] [] (by decide) d d⟩)))
 refine sCondF S d a5 (sSeq (fun bY aH=>sRegion (sBin _ S (wN d) d d d (bEq _ _ _ _ .u8 p0.Kind 5) d (lb d) fun a S=>sN S fun a S=>?_)))
 refine lT (aH _ _ ?_)
 rcases iS h with ⟨a6,h⟩ | ⟨a6,h⟩
 ·refine sCondT S d a6 (sSeq (fun bZ aI=>sRegion (sM S fun a S=>?_)))
  obtain ⟨bM,aJ,h⟩:=bS h
  refine sBin _ S (wN d) d d d (bAddS _ _ _ _ (x:=o4) (y:=(⟨#[109]⟩:ByteArray)) aJ) d (lb d) fun a S=>sField (b:=b2) (off:=0) 2 2 S (wN d) d d d d d (lb d) fun a S=>sLoad1 0 (iv p0.A) S (wN d) d d d d d d (lb d) fun a S=>?_
  obtain ⟨aK,aL,h⟩:=bS h
  have S1:=S.mem
  refine sCq [iv p0.A] (.string aK) S callee108 (S1.quiet [] d) (fun E1 w1 S1=>c_raddleref25_Decimal E1 w1 p0.A aK aL S1) fun a w S=>?_
  obtain ⟨bv,aM,h⟩:=bS h
  refine sBin _ S (wN d) d d d (bAddS _ _ _ _ (x:=bM) (y:=aK) aM) d (lb d) fun a S=>sN S fun a S=>?_
  refine lT (aI _ _ ?_)
  obtain rfl:=tS h
  exact wp_ret (rBlock (rThen (sRet (.string bv) S (rsl1 d (rvT (t:=2) (v:=.string bv) S d)) ⟨(),d,S.mem.sel [] [] (by decide) d d⟩)))
 refine sCondF S d a6 (sSeq (fun c1 aO=>sRegion (sBin _ S (wN d) d d d (bEq _ _ _ _ .u8 p0.Kind 6) d (lb d) fun a S=>sN S fun a S=>?_)))
 refine lT (aO _ _ ?_)
 rcases iS h with ⟨a7,h⟩ | ⟨a7,h⟩
 ·refine sCondT S d a7 (sSeq (fun c2 aP=>?_))
  obtain ⟨bw,aQ,h⟩:=bS h
  obtain ⟨ae,aR,h⟩:=bS h
  obtain ⟨bx,aS,h⟩:=bS h
  obtain ⟨bz,aT,h⟩:=bS h
  obtain ⟨af,aU,h⟩:=bS h
  obtain ⟨ab,aV,h⟩:=bS h
  refine sDraw (nf:=[]) (W:=[(0,39,.string o4),(1,40,.string bw),(2,41,.pointer (some ⟨b2,2,none⟩)),(3,42,iv p0.A),(4,43,.string ae),(5,44,.string bx),(6,45,.string bz),(7,46,.pointer (some ⟨b2,3,none⟩)),(8,47,iv p0.B),(9,48,.string af),(10,49,.string ab),(11,2,.string ab)]) d S ?_
  refine node_by (A:=anc_raddleref25_one_0) 12 (by kernel_rfl) (by kernel_rfl) (by kernel_rfl) (by kernel_rfl) (by kernel_rfl) [0,1,2,3,4,5,6,7,8,9,10,11] (by kernel_rfl) (by decide) (by decide) (fF ?_ (fF ?_ (fF ?_ (fF ?_ (fF ?_ (fF ?_ (fF ?_ (fF ?_ (fF ?_ (fF ?_ (fF ?_ (fF ?_ (trivial))))))))))))) [(2,.string ab)] (fin_of [some 11] d (by kernel_rfl) (by kernel_rfl)) (fun _ a w S=>?_)
  ·exact fM 0 none d d d d (.inl d) d d d
  ·refine fJ [(39,_)] 1 [some 0] fun G a w S=>?_
   exact sBin _ S (wN d) d d d (bAddS _ _ _ _ (x:=o4) (y:=(⟨#[120]⟩:ByteArray)) aQ) d (lb d) fun a S=>leafL ⟨d,S⟩
  ·refine fJ [(1,_)] 2 [none] fun G a w S=>?_
   exact sField (b:=b2) (off:=0) 2 2 S (wN d) d d d d d (lb d) fun a S=>leafL ⟨d,S⟩
  ·refine fJ [(41,_)] 3 [some 2] fun G a w S=>?_
   exact sLoad1 0 (iv p0.A) S (wN d) d d d d d d (lb d) fun a S=>leafL ⟨d,S⟩
  ·refine fJ [(42,_)] 4 [some 3] fun G a w S=>?_
   have S1:=S.mem
   refine sCq [iv p0.A] (.string ae) S callee108 (S1.quiet [] d) (fun E1 w1 S1=>c_raddleref25_Decimal E1 w1 p0.A ae aR S1) fun a w S=>?_
   exact leafL ⟨d,S⟩
  ·refine fJ [(40,_),(43,_)] 5 [some 1,some 4] fun G a w S=>?_
   exact sBin _ S (wN d) d d d (bAddS _ _ _ _ (x:=bw) (y:=ae) aS) d (lb d) fun a S=>leafL ⟨d,S⟩
  ·refine fJ [(44,_)] 6 [some 5] fun G a w S=>?_
   exact sBin _ S (wN d) d d d (bAddS _ _ _ _ (x:=bx) (y:=(⟨#[47]⟩:ByteArray)) aT) d (lb d) fun a S=>leafL ⟨d,S⟩
  ·refine fJ [(1,_)] 7 [none] fun G a w S=>?_
   exact sField (b:=b2) (off:=0) 3 3 S (wN d) d d d d d (lb d) fun a S=>leafL ⟨d,S⟩
  ·refine fJ [(46,_)] 8 [some 7] fun G a w S=>?_
   exact sLoad1 0 (iv p0.B) S (wN d) d d d d d d (lb d) fun a S=>leafL ⟨d,S⟩
  ·refine fJ [(47,_)] 9 [some 8] fun G a w S=>?_
   have S1:=S.mem
   refine sCq [iv p0.B] (.string af) S callee108 (S1.quiet [] d) (fun E1 w1 S1=>c_raddleref25_Decimal E1 w1 p0.B af aU S1) fun a w S=>?_
   exact leafL ⟨d,S⟩
  ·refine fJ [(45,_),(48,_)] 10 [some 6,some 9] fun G a w S=>?_
   exact sBin _ S (wN d) d d d (bAddS _ _ _ _ (x:=bz) (y:=af) aV) d (lb d) fun a S=>leafL ⟨d,S⟩
  ·exact fM 11 (some 10) d d d d (.inr d) d d d
  refine leafT (aP _ _ ?_)
  obtain rfl:=tS h
  exact wp_ret (rBlock (rThen (sRet (.string ab) S (rsl1 d (rvT (t:=2) (v:=.string ab) S d)) ⟨(),d,S.mem.sel [] [] (by decide) d d⟩)))
 refine sCondF S d a7 (sSeq (fun c3 aW=>sRegion (sBin _ S (wN d) d d d (bEq _ _ _ _ .u8 p0.Kind 7) d (lb d) fun a S=>sN S fun a S=>?_)))
 refine lT (aW _ _ ?_)
 rcases iS h with ⟨a8,h⟩ | ⟨a8,h⟩
 rotate_left
 ·refine sCondF S d a8 (sSeq (fun c4 aX=>sRegion (sBin _ S (wN d) d d d (bEq _ _ _ _ .u8 p0.Kind 8) d (lb d) fun a S=>sN S fun a S=>?_)))
  refine lT (aX _ _ ?_)
  rcases iS h with ⟨a9,h⟩ | ⟨a9,h⟩
  ·refine sCondT S d a9 (sSeq (fun c5 aZ=>sRegion (sM S fun a S=>?_)))
   obtain ⟨bA,b0,h⟩:=bS h
   refine sBin _ S (wN d) d d d (bAddS _ _ _ _ (x:=o4) (y:=(⟨#[115]⟩:ByteArray)) b0) d (lb d) fun a S=>sN S fun a S=>?_
   refine lT (aZ _ _ ?_)
   obtain rfl:=tS h
   exact wp_ret (rBlock (rThen (sRet (.string bA) S (rsl1 d (rvT (t:=2) (v:=.string bA) S d)) ⟨(),d,S.mem.sel [] [] (by decide) d d⟩)))
  refine sCondF S d a9 (sSeq (fun c6 b1=>sRegion (sBin _ S (wN d) d d d (bEq _ _ _ _ .u8 p0.Kind 9) d (lb d) fun a S=>sN S fun a S=>?_)))
  refine lT (b1 _ _ ?_)
  rcases iS h with ⟨aa,h⟩ | ⟨aa,h⟩
  ·refine sCondT S d aa (sSeq (fun c7 ba=>sRegion (sField (b:=b2) (off:=0) 2 2 S (wN d) d d d d d (lb d) fun a S=>sLoad1 0 (iv p0.A) S (wN d) d d d d d d (lb d) fun a S=>?_)))
   obtain ⟨bb,bc,h⟩:=bS h
   have S1:=S.mem
   refine sCq [iv p0.A] (.string bb) S callee108 (S1.quiet [] d) (fun E1 w1 S1=>c_raddleref25_Decimal E1 w1 p0.A bb bc S1) fun a w S=>?_
   obtain ⟨bB,bf,h⟩:=bS h
   refine sBin _ S (wN d) d d d (bAddS _ _ _ _ (x:=(⟨#[111,110]⟩:ByteArray)) (y:=bb) bf) d (lb d) fun a S=>sN S fun a S=>?_
   refine lT (ba _ _ ?_)
   obtain rfl:=tS h
   exact wp_ret (rBlock (rThen (sRet (.string bB) S (rsl1 d (rvT (t:=2) (v:=.string bB) S d)) ⟨(),d,S.mem.sel [] [] (by decide) d d⟩)))
  refine sCondF S d aa (wp_skip (leafB (leafT (bJ _ _ ?_))))
  refine sSeq (fun c8 bg=>sRegion (sM S fun a S=>?_))
  obtain ⟨bN,bh,h⟩:=bS h
  refine sBin _ S (wN d) d d d (bAddS _ _ _ _ (x:=o4) (y:=(⟨#[111]⟩:ByteArray)) bh) d (lb d) fun a S=>sField (b:=b2) (off:=0) 2 2 S (wN d) d d d d d (lb d) fun a S=>sLoad1 0 (iv p0.A) S (wN d) d d d d d d (lb d) fun a S=>?_
  obtain ⟨bi,bj,h⟩:=bS h
  have S1:=S.mem
  refine sCq [iv p0.A] (.string bi) S callee108 (S1.quiet [] d) (fun E1 w1 S1=>c_raddleref25_Decimal E1 w1 p0.A bi bj S1) fun a w S=>?_
  obtain ⟨bC,bk,h⟩:=bS h
  refine sBin _ S (wN d) d d d (bAddS _ _ _ _ (x:=bN) (y:=bi) bk) d (lb d) fun a S=>sN S fun a S=>?_
  refine lT (bg _ _ ?_)
  obtain rfl:=tS h
  exact wp_ret (sRet (.string bC) S (rsl1 d (rvT (t:=2) (v:=.string bC) S d)) ⟨(),d,S.mem.sel [] [] (by decide) d d⟩)
 refine sCondT S d a8 (sSeq (fun c9 bl=>?_))
 obtain ⟨bD,bm,h⟩:=bS h
 obtain ⟨ag,bn,h⟩:=bS h
 obtain ⟨bE,bo,h⟩:=bS h
 obtain ⟨bF,bp,h⟩:=bS h
 obtain ⟨ah,bq,h⟩:=bS h
 obtain ⟨ac,br,h⟩:=bS h
 refine sDraw (nf:=[]) (W:=[(0,52,.string o4),(1,53,.string bD),(2,54,.pointer (some ⟨b2,2,none⟩)),(3,55,iv p0.A),(4,56,.string ag),(5,57,.string bE),(6,58,.string bF),(7,59,.pointer (some ⟨b2,3,none⟩)),(8,60,iv p0.B),(9,61,.string ah),(10,62,.string ac),(11,2,.string ac)]) d S ?_
 refine node_by (A:=anc_raddleref25_one_0) 12 (by kernel_rfl) (by kernel_rfl) (by kernel_rfl) (by kernel_rfl) (by kernel_rfl) [0,1,2,3,4,5,6,7,8,9,10,11] (by kernel_rfl) (by decide) (by decide) (fF ?_ (fF ?_ (fF ?_ (fF ?_ (fF ?_ (fF ?_ (fF ?_ (fF ?_ (fF ?_ (fF ?_ (fF ?_ (fF ?_ (trivial))))))))))))) [(2,.string ac)] (fin_of [some 11] d (by kernel_rfl) (by kernel_rfl)) (fun _ a w S=>?_)
 ·exact fM 0 none d d d d (.inl d) d d d
 ·refine fJ [(52,_)] 1 [some 0] fun G a w S=>?_
  exact sBin _ S (wN d) d d d (bAddS _ _ _ _ (x:=o4) (y:=(⟨#[121]⟩:ByteArray)) bm) d (lb d) fun a S=>leafL ⟨d,S⟩
 ·refine fJ [(1,_)] 2 [none] fun G a w S=>?_
  exact sField (b:=b2) (off:=0) 2 2 S (wN d) d d d d d (lb d) fun a S=>leafL ⟨d,S⟩
 ·refine fJ [(54,_)] 3 [some 2] fun G a w S=>?_
  exact sLoad1 0 (iv p0.A) S (wN d) d d d d d d (lb d) fun a S=>leafL ⟨d,S⟩
 ·refine fJ [(55,_)] 4 [some 3] fun G a w S=>?_
  have S1:=S.mem
  refine sCq [iv p0.A] (.string ag) S callee108 (S1.quiet [] d) (fun E1 w1 S1=>c_raddleref25_Decimal E1 w1 p0.A ag bn S1) fun a w S=>?_
  exact leafL ⟨d,S⟩
 ·refine fJ [(53,_),(56,_)] 5 [some 1,some 4] fun G a w S=>?_
  exact sBin _ S (wN d) d d d (bAddS _ _ _ _ (x:=bD) (y:=ag) bo) d (lb d) fun a S=>leafL ⟨d,S⟩
 ·refine fJ [(57,_)] 6 [some 5] fun G a w S=>?_
  exact sBin _ S (wN d) d d d (bAddS _ _ _ _ (x:=bE) (y:=(⟨#[47]⟩:ByteArray)) bp) d (lb d) fun a S=>leafL ⟨d,S⟩
 ·refine fJ [(1,_)] 7 [none] fun G a w S=>?_
  exact sField (b:=b2) (off:=0) 3 3 S (wN d) d d d d d (lb d) fun a S=>leafL ⟨d,S⟩
 ·refine fJ [(59,_)] 8 [some 7] fun G a w S=>?_
  exact sLoad1 0 (iv p0.B) S (wN d) d d d d d d (lb d) fun a S=>leafL ⟨d,S⟩
 ·refine fJ [(60,_)] 9 [some 8] fun G a w S=>?_
  have S1:=S.mem
  refine sCq [iv p0.B] (.string ah) S callee108 (S1.quiet [] d) (fun E1 w1 S1=>c_raddleref25_Decimal E1 w1 p0.B ah bq S1) fun a w S=>?_
  exact leafL ⟨d,S⟩
 ·refine fJ [(58,_),(61,_)] 10 [some 6,some 9] fun G a w S=>?_
  exact sBin _ S (wN d) d d d (bAddS _ _ _ _ (x:=bF) (y:=ah) br) d (lb d) fun a S=>leafL ⟨d,S⟩
 ·exact fM 11 (some 10) d d d d (.inr d) d d d
 refine leafT (bl _ _ ?_)
 obtain rfl:=tS h
 exact wp_ret (rBlock (rThen (sRet (.string ac) S (rsl1 d (rvT (t:=2) (v:=.string ac) S d)) ⟨(),d,S.mem.sel [] [] (by decide) d d⟩)))
noncomputable def F_raddleref26_side (p0:Bool):Option ByteArray:=
 if p0 then
  some (⟨#[98,97,99,107]⟩:ByteArray)
 else
  some (⟨#[102,114,111,110,116]⟩:ByteArray)
theorem c_raddleref26_side (E:Nat→Prop) (w0:World) (p0:Bool) (r:ByteArray) (h:F_raddleref26_side p0=some r) (S:St0 E [] w0 w0 [] []) :
 Calls Try.prog 109 #[.bool p0] w0 (Ret (X:=Unit) E [] w0 (fun _=>.string r) (fun _=>[]) (fun _=>[])):=by
 unfold F_raddleref26_side at h
 refine sEnter (args:=[.bool p0]) 4 Try.func109 d d (by simp) S (fun a S=>?_)
 refine sSeq (fun K1 a2=>sRegion (sN S fun a S=>?_))
 refine lT (a2 _ _ (sSeq (fun K2 a4=>sSeq (fun K3 a5=>sRegion (sM S fun a S=>?_)))))
 refine lT (a5 _ _ ?_)
 rcases iS h with ⟨a0,h⟩ | ⟨a0,h⟩
 ·refine sCondT S d a0 (sSeq (fun K5 a6=>sRegion (sN S fun a S=>?_)))
  refine lT (a6 _ _ ?_)
  obtain rfl:=tS h
  exact wp_ret (rThen (sRet (.string (⟨#[98,97,99,107]⟩:ByteArray)) S (rsl1 d (rvT (t:=2) (v:=.string (⟨#[98,97,99,107]⟩:ByteArray)) S d)) ⟨(),d,S.mem.sel [] [] (by decide) d d⟩))
 refine sCondF S d a0 (wp_skip (leafT (a4 _ _ ?_)))
 refine sSeq (fun K6 a7=>sRegion (sN S fun a S=>?_))
 refine lT (a7 _ _ ?_)
 obtain rfl:=tS h
 exact wp_ret (sRet (.string (⟨#[102,114,111,110,116]⟩:ByteArray)) S (rsl1 d (rvT (t:=2) (v:=.string (⟨#[102,114,111,110,116]⟩:ByteArray)) S d)) ⟨(),d,S.mem.sel [] [] (by decide) d d⟩)
noncomputable def F_grid_Check (p0:api_Grid):Option Int:=
 if decide (64 < (if p0.W < p0.H then p0.H else p0.W)) then
  some 4
 else
  Option.bind (α:=Bool) (
   if decide ((if p0.H < p0.W then p0.H else p0.W) < 1) then
    some true
   else
    some ((p0.Bits.length:Int) != (w64 (p0.W * p0.H)))) fun a0=>
  if a0 then
   some 8
  else
   some 0
theorem c_grid_Check (E:Nat→Prop) (w0:World) (p0:api_Grid) (v0:Value) (r:Int) (h:F_grid_Check p0=some r) (S:St0 E [] w0 w0 [] [fRep r_api_Grid (v0) p0]) :
 Calls Try.prog 45 #[v0] w0 (Ret (X:=Unit) E [] w0 (fun _=>.int .i64 r) (fun _=>[]) (fun _=>[])):=by
 unfold F_grid_Check at h
 obtain ⟨u1,rfl,ab⟩:=S.know (i:=0) (e:=fRep r_api_Grid (v0) p0) d
 have S:=S.learn (fRep (rL rB) u1 p0.Bits) ab
 obtain ⟨a4,a5,_,rfl,_⟩:=ab
 refine sEnter (args:=[.agg #[iv p0.W,iv p0.H,.slice a4 p0.Bits.length a5]]) 28 Try.func45 d d (by simp) S (fun a S=>?_)
 refine sSeq (fun K5 ac=>sRegion (sBox (v:=.agg #[iv p0.W,iv p0.H,.slice a4 p0.Bits.length a5]) S (wN d) d d [iv p0.W,iv p0.H,.slice a4 p0.Bits.length a5] d d (lb d) fun a b6 w S=>sN S fun a S=>?_))
 refine lT (ac _ _ (sSeq (fun K7 ae=>wp_block ?_)))
 refine sSeq (fun K8 af=>sRegion (sField (b:=b6) (off:=0) 0 0 S (wN d) d d d d d (lb d) fun a S=>sLoad1 0 (iv p0.W) S (wN d) d d d d d d (lb d) fun a S=>sField (b:=b6) (off:=0) 1 1 S (wN d) d d d d d (lb d) fun a S=>sLoad1 0 (iv p0.H) S (wN d) d d d d d d (lb d) fun a S=>sMax2 (p:=p0.W) (q:=p0.H) S (wN d) d d d d (lb d) fun a S=>sBin _ S (wN d) d d d (bGt _ _ _ _ .i64 (if p0.W < p0.H then p0.H else p0.W) 64) d (lb d) fun a S=>sN S fun a S=>?_))
 refine lT (af _ _ ?_)
 rcases iS h with ⟨a6,h⟩ | ⟨a6,h⟩
 ·refine sCondT S d a6 (sSeq (fun ai a7=>sRegion (sN S fun a S=>?_)))
  refine lT (a7 _ _ ?_)
  obtain rfl:=tS h
  exact wp_ret (rBlock (rThen (sRet (iv 4) S (rsl1 d (rvT (t:=2) (v:=iv 4) S d)) ⟨(),d,S.mem.sel [] [] (by decide) d d⟩)))
 refine sCondF S d a6 ?_
 obtain ⟨ag,h,ah⟩:=bS h
 refine sCut (fun a w=>∃ a8,a8=ag∧St [] E [] w0 28 a w [(10,.bool a8)] [] []) ?_ (fun a w hI=>?_)
 rotate_left
 ·obtain ⟨a8,rfl,S⟩:=hI
  have h:=ah
  try dsimp only at h
  rcases iS h with ⟨a2,h⟩ | ⟨a2,h⟩
  ·refine sCondT S d a2 (sSeq (fun aj a9=>sRegion (sN S fun a S=>?_)))
   refine lT (a9 _ _ ?_)
   obtain rfl:=tS h
   exact wp_ret (rBlock (rThen (sRet (iv 8) S (rsl1 d (rvT (t:=2) (v:=iv 8) S d)) ⟨(),d,S.mem.sel [] [] (by decide) d d⟩)))
  refine sCondF S d a2 (wp_skip (leafB (leafT (ae _ _ ?_))))
  refine sSeq (fun ak aa=>sRegion (sN S fun a S=>?_))
  refine lT (aa _ _ ?_)
  obtain rfl:=tS h
  exact wp_ret (sRet (iv 0) S (rsl1 d (rvT (t:=2) (v:=iv 0) S d)) ⟨(),d,S.mem.sel [] [] (by decide) d d⟩)
 refine sRegion (sField (b:=b6) (off:=0) 0 0 S (wN d) d d d d d (lb d) fun a S=>sLoad1 0 (iv p0.W) S (wN d) d d d d d d (lb d) fun a S=>sField (b:=b6) (off:=0) 1 1 S (wN d) d d d d d (lb d) fun a S=>sLoad1 0 (iv p0.H) S (wN d) d d d d d d (lb d) fun a S=>sMin2 (p:=p0.W) (q:=p0.H) S (wN d) d d d d (lb d) fun a S=>sBin _ S (wN d) d d d (bLt _ _ _ _ .i64 (if p0.H < p0.W then p0.H else p0.W) 1) d (lb d) fun a S=>sM S fun a S=>?_)
 rcases iS h with ⟨a0,h⟩ | ⟨a0,h⟩
 ·refine sSkN 9 6 false 17 S d d a0 d fun a S=>sPickT (.bool true) S (wN d) d d a0 d d (lb d) fun a S=>sN S fun a S=>?_
  exact lT (⟨true,Option.some.inj h,S.fix [] [] (by decide) d d d⟩)
 refine sField (b:=b6) (off:=0) 2 2 S (wG 6 false 17 d d d a0) d d d d d (lb d) fun a S=>sLoad1 0 (.slice a4 p0.Bits.length a5) S (wG 6 false 17 d d d a0) d d d d d d (lb d) fun a S=>sLen S (wG 6 false 17 d d d a0) d Try.underlying22 d d (lb d) fun a S=>sField (b:=b6) (off:=0) 0 0 S (wG 6 false 17 d d d a0) d d d d d (lb d) fun a S=>sLoad1 0 (iv p0.W) S (wG 6 false 17 d d d a0) d d d d d d (lb d) fun a S=>sField (b:=b6) (off:=0) 1 1 S (wG 6 false 17 d d d a0) d d d d d (lb d) fun a S=>sLoad1 0 (iv p0.H) S (wG 6 false 17 d d d a0) d d d d d d (lb d) fun a S=>sBin _ S (wG 6 false 17 d d d a0) d d d (bMul _ _ _ _ p0.W p0.H) d (lb d) fun a S=>sBin _ S (wG 6 false 17 d d d a0) d d d (bNe _ _ _ _ .i64 (p0.Bits.length:Int) (w64 (p0.W * p0.H))) d (lb d) fun a S=>sPickF (.bool ((p0.Bits.length:Int) != (w64 (p0.W * p0.H)))) S (wN d) d d a0 d d (lb d) fun a S=>sN S fun a S=>?_
 exact lT (⟨(p0.Bits.length:Int) != (w64 (p0.W * p0.H)),Option.some.inj h,S.fix [] [] (by decide) d d d⟩)
noncomputable def compare_differ_l1 (p0:(List Bool)) (p1:(List Bool)):(Int × Int)→Option ((Int × Int) ⊕ Int):=fun s0=>match s0 with
 | (a2,a0)=>
  if decide (a0 < (p0.length:Int)) then
   Option.bind (α:=Int) (
    (idxO p0 a0).bind fun a4=>
    (idxO p1 a0).bind fun a5=>
    if a4 != a5 then
     some (w64 (a2 + 1))
    else
     some a2) fun a6=>
   some (.inl (a6,w64 (a0 + 1)))
  else
   some (.inr a2)
noncomputable def F_compare_differ (p0:(List Bool)) (p1:(List Bool)):Option Int:=
 Option.bind (α:=Int) (
  (whileO (compare_differ_l1 p0 p1) (0,0)).bind fun a0=>
   some a0) fun o7=>
 some o7
theorem c_compare_differ (E:Nat→Prop) (w0:World) (p0:(List Bool)) (v0:Value) (p1:(List Bool)) (v1:Value) (r:Int) (h:F_compare_differ p0 p1=some r) (S:St0 E [] w0 w0 [] [fRep (rL rB) (v0) p0,fRep (rL rB) (v1) p1]) :
 Calls Try.prog 46 #[v0,v1] w0 (Ret (X:=Unit) E [] w0 (fun _=>.int .i64 r) (fun _=>[]) (fun _=>[])):=by
 unfold F_compare_differ at h
 obtain ⟨a5,a6,_,rfl,_⟩:=S.know (i:=0) (e:=fRep (rL rB) (v0) p0) d
 obtain ⟨a7,a8,_,rfl,_⟩:=S.know (i:=1) (e:=fRep (rL rB) (v1) p1) d
 refine sEnter (args:=[.slice a5 p0.length a6,.slice a7 p1.length a8]) 25 Try.func46 d d (by simp) S (fun a S=>?_)
 refine sSeq (fun K5 aw=>sRegion (sN S fun a S=>?_))
 refine lT (aw _ _ (sSeq (fun K6 ax=>sRegion (sN S fun a S=>?_))))
 refine lT (ax _ _ ?_)
 obtain ⟨t8,h,g9⟩:=bS h
 refine sCut (fun a w=>∃ o7,o7=t8∧St [] E [] w0 25 a w [(5,iv o7)] [] []) ?_ (fun a w hI=>?_)
 rotate_left
 ·obtain ⟨o7,rfl,S⟩:=hI
  have h:=g9
  try dsimp only at h
  refine sSeq (fun aC ae=>sRegion (sM S fun a S=>?_))
  refine sN S fun a S=>?_
  refine lT (ae _ _ ?_)
  obtain rfl:=tS h
  exact wp_ret (sRet (iv o7) S (rsl1 d (rvT (t:=4) (v:=iv o7) S d)) ⟨(),d,S.mem.sel [] [] (by decide) d d⟩)
 refine sSeq (fun aG af=>sRegion (sM S fun a S=>?_))
 refine sLen S (wN d) d Try.underlying22 d d (lb d) fun a S=>sM S fun a S=>?_
 refine lT (af _ _ (wp_block ?_))
 obtain ⟨aH,hl,ay⟩:=bS h
 refine sLoop hl (fun s0 a w=>match s0 with | (a9,a0)=>St [] E [] w0 25 a w [(1,.slice a7 p1.length a8),(5,iv a9),(8,.slice a5 p0.length a6),(9,iv (p0.length:Int)),(10,iv a0)] [] [fRep (rL rB) (.slice a7 p1.length a8) p1,fRep (rL rB) (.slice a5 p0.length a6) p0]) (S.fix [] [1,0] (by decide) d d d) ?_
 clear hl h
 intro s0 a w c0 hI h ag
 obtain ⟨a9,a0⟩:=s0
 unfold compare_differ_l1 at h
 dsimp only at h hI
 have S:=hI
 refine sSeq (fun aI ah=>sRegion (sBin _ S (wN d) d d d (bLt _ _ _ _ .i64 a0 (p0.length:Int)) d (lb d) fun a S=>lT (ah _ _ (sSeq (fun aJ ai=>?_)))))
 rcases iS h with ⟨a2,h⟩ | ⟨a2,h⟩
 rotate_left
 ·refine sCondF S d a2 ?_
  obtain rfl:=tS h
  obtain rfl:=ag _ d
  have h:=ay
  try dsimp only at h
  exact wp_exit (xThen (xThen (xHit (leafT (⟨a9,Option.some.inj h,S.fix [] [] (by decide) d d d⟩)))))
 refine sCondT S d a2 (wp_skip (leafT (ai _ _ ?_)))
 obtain ⟨az,h,aA⟩:=bS h
 refine sCut (fun a w=>∃ ac,ac=az∧St [] E [] w0 25 a w [(1,.slice a7 p1.length a8),(5,iv ac),(8,.slice a5 p0.length a6),(9,iv (p0.length:Int)),(10,iv a0)] [] [fRep (rL rB) (.slice a7 p1.length a8) p1,fRep (rL rB) (.slice a5 p0.length a6) p0]) ?_ (fun a w hI=>?_)
 rotate_left
 ·obtain ⟨ac,rfl,S⟩:=hI
  have h:=aA
  try dsimp only at h
  refine sRegion (sBin _ S (wN d) d d d (bAdd _ _ _ _ a0 1) d (lb d) fun a S=>sM S fun a S=>?_)
  exact lT (⟨(ac,w64 (a0 + 1)),(Option.some.inj h).symm,(S.fix [] [0,1] (by decide) d d d)⟩)
 refine wp_block ?_
 refine sSeq (fun aK aj=>sRegion (sM S fun a S=>?_))
 obtain ⟨aa,ak,h⟩:=bS h
 obtain ⟨aq,al,S⟩:=pIdx (P:=Try.prog) (r:=rB) (v:=.slice a5 p0.length a6) (xs:=p0) (j:=a0) 22 4 1 S Try.underlying22 d d ak
 refine sIdxV S (wN d) d d d al d (lb d) fun a S=>?_
 obtain ⟨ar,S⟩:=pLoad (r:=rB) (q:=aq) (x:=aa) 0 S d
 obtain rfl:ar=.bool aa:=S.mem.know (i:=1) (e:=fRep rB (ar) aa) d
 refine sLoadV1 (vq:=aq) 0 (.bool aa) S (wN d) d d d d d (lb d) fun a S=>sN S fun a S=>?_
 refine sN S fun a S=>?_
 refine lT (aj _ _ (sSeq (fun aL am=>sRegion (sM S fun a S=>?_))))
 refine sM S fun a S=>?_
 refine sM S fun a S=>?_
 obtain ⟨ab,ao,h⟩:=bS h
 obtain ⟨au,ap,S⟩:=pIdx (P:=Try.prog) (r:=rB) (v:=.slice a7 p1.length a8) (xs:=p1) (j:=a0) 22 4 3 S Try.underlying22 d d ao
 refine sIdxV S (wN d) d d d ap d (lb d) fun a S=>?_
 obtain ⟨av,S⟩:=pLoad (r:=rB) (q:=au) (x:=ab) 0 S d
 obtain rfl:av=.bool ab:=S.mem.know (i:=1) (e:=fRep rB (av) ab) d
 refine sLoadV1 (vq:=au) 0 (.bool ab) S (wN d) d d d d d (lb d) fun a S=>sBin _ S (wN d) d d d (bNeB _ _ _ _ Try.underlying4 aa ab) d (lb d) fun a S=>lT (am _ _ ?_)
 rcases iS h with ⟨a4,h⟩ | ⟨a4,h⟩
 rotate_left
 ·refine sCondF S d a4 ?_
  exact wp_skip (leafB (leafT (⟨a9,Option.some.inj h,S.fix [] [6,7] (by decide) d d d⟩)))
 refine sCondT S d a4 (sRegion (sM S fun a S=>?_))
 refine sBin _ S (wN d) d d d (bAdd _ _ _ _ a9 1) d (lb d) fun a S=>sN S fun a S=>?_
 exact leafL (leafB (leafT (⟨w64 (a9 + 1),Option.some.inj h,S.fix [] [6,7] (by decide) d d d⟩)))
noncomputable def F_compare_Cells (p0:api_Grid) (p1:api_Grid):Option (Int × Int):=
 (F_grid_Check p0).bind fun a0=>
 if a0 != 0 then
  some (0,a0)
 else
  (F_grid_Check p1).bind fun a2=>
  if a2 != 0 then
   some (0,a2)
  else
   Option.bind (α:=Bool) (
    if p0.W != p1.W then
     some true
    else
     some (p0.H != p1.H)) fun a4=>
   if a4 then
    some (0,2)
   else
    (F_compare_differ p0.Bits p1.Bits).bind fun a5=>
    some (a5,0)
theorem c_compare_Cells (E:Nat→Prop) (w0:World) (p0:api_Grid) (v0:Value) (p1:api_Grid) (v1:Value) (r:(Int × Int)) (h:F_compare_Cells p0 p1=some r) (S:St0 E [] w0 w0 [] [fRep r_api_Grid (v0) p0,fRep r_api_Grid (v1) p1]) :
 Calls Try.prog 14 #[v0,v1] w0 (Ret (X:=Unit) E [] w0 (fun _=>.tuple #[.int .i64 r.1,.int .i64 r.2]) (fun _=>[]) (fun _=>[])):=by
 unfold F_compare_Cells at h
 obtain ⟨u1,rfl,ay⟩:=S.know (i:=0) (e:=fRep r_api_Grid (v0) p0) d
 have S:=S.learn (fRep (rL rB) u1 p0.Bits) ay
 obtain ⟨a2,a4,_,rfl,_⟩:=ay
 obtain ⟨u5,rfl,az⟩:=S.know (i:=2) (e:=fRep r_api_Grid (v1) p1) d
 have S:=S.learn (fRep (rL rB) u5 p1.Bits) az
 obtain ⟨a5,a6,_,rfl,_⟩:=az
 refine sEnter (args:=[.agg #[iv p0.W,iv p0.H,.slice a2 p0.Bits.length a4],.agg #[iv p1.W,iv p1.H,.slice a5 p1.Bits.length a6]]) 35 Try.func14 d d (by simp) S (fun a S=>?_)
 refine sSeq (fun K9 aA=>sRegion (sBox (v:=.agg #[iv p0.W,iv p0.H,.slice a2 p0.Bits.length a4]) S (wN d) d d [iv p0.W,iv p0.H,.slice a2 p0.Bits.length a4] d d (lb d) fun a aa w S=>sBox (v:=.agg #[iv p1.W,iv p1.H,.slice a5 p1.Bits.length a6]) S (wN d) d d [iv p1.W,iv p1.H,.slice a5 p1.Bits.length a6] d d (lb d) fun a ab w S=>sN S fun a S=>?_))
 refine sN S fun a S=>?_
 refine lT (aA _ _ (sSeq (fun aH ag=>sSeq (fun aI ah=>sRegion (sLoadN (p:=aa) (off:=0) (T:=24) (vs:=[iv p0.W,iv p0.H,.slice a2 p0.Bits.length a4]) 1 [iv p0.W,iv p0.H,.slice a2 p0.Bits.length a4] S (wN d) d d d d d d d (lb d) fun a S=>?_)))))
 obtain ⟨ac,ai,h⟩:=bS h
 have S1:=S.mem
 refine sCq [.agg #[iv p0.W,iv p0.H,.slice a2 p0.Bits.length a4]] (iv ac) S callee45 (S1.quiet [2] d) (fun E1 w1 S1=>c_grid_Check E1 w1 p0 (.agg #[iv p0.W,iv p0.H,.slice a2 p0.Bits.length a4]) ac ai S1) fun a w S=>?_
 refine sN S fun a S=>?_
 refine lT (ah _ _ (sSeq (fun aJ aj=>sRegion (sM S fun a S=>?_))))
 refine sBin _ S (wN d) d d d (bNe _ _ _ _ .i64 ac 0) d (lb d) fun a S=>lT (aj _ _ ?_)
 rcases iS h with ⟨a7,h⟩ | ⟨a7,h⟩
 ·refine sCondT S d a7 (sSeq (fun aK ak=>sRegion (sM S fun a S=>?_)))
  refine sN S fun a S=>?_
  refine sN S fun a S=>?_
  refine lT (ak _ _ ?_)
  obtain rfl:=tS h
  exact wp_ret (rThen (sRet (.tuple #[iv 0,iv ac]) S (rsl2 d (rvT (t:=4) (v:=iv 0) S d) (rvT (t:=5) (v:=iv ac) S d)) ⟨(),d,S.mem.sel [] [] (by decide) d d⟩))
 refine sCondF S d a7 (wp_skip (leafT (ag _ _ ?_)))
 refine sSeq (fun aL al=>sSeq (fun aM am=>sRegion (sLoadN (p:=ab) (off:=0) (T:=24) (vs:=[iv p1.W,iv p1.H,.slice a5 p1.Bits.length a6]) 0 [iv p1.W,iv p1.H,.slice a5 p1.Bits.length a6] S (wN d) d d d d d d d (lb d) fun a S=>?_)))
 obtain ⟨ae,ao,h⟩:=bS h
 have S1:=S.mem
 refine sCq [.agg #[iv p1.W,iv p1.H,.slice a5 p1.Bits.length a6]] (iv ae) S callee45 (S1.quiet [3] d) (fun E1 w1 S1=>c_grid_Check E1 w1 p1 (.agg #[iv p1.W,iv p1.H,.slice a5 p1.Bits.length a6]) ae ao S1) fun a w S=>?_
 refine sN S fun a S=>?_
 refine lT (am _ _ (sSeq (fun aO ap=>sRegion (sM S fun a S=>?_))))
 refine sBin _ S (wN d) d d d (bNe _ _ _ _ .i64 ae 0) d (lb d) fun a S=>lT (ap _ _ ?_)
 rcases iS h with ⟨a8,h⟩ | ⟨a8,h⟩
 ·refine sCondT S d a8 (sSeq (fun aP aq=>sRegion (sM S fun a S=>?_)))
  refine sN S fun a S=>?_
  refine sN S fun a S=>?_
  refine lT (aq _ _ ?_)
  obtain rfl:=tS h
  exact wp_ret (rThen (sRet (.tuple #[iv 0,iv ae]) S (rsl2 d (rvT (t:=4) (v:=iv 0) S d) (rvT (t:=5) (v:=iv ae) S d)) ⟨(),d,S.mem.sel [] [] (by decide) d d⟩))
 refine sCondF S d a8 (wp_skip (leafT (al _ _ ?_)))
 refine sSeq (fun aQ ar=>?_)
 obtain ⟨aC,h,aG⟩:=bS h
 refine sCut (fun a w=>∃ au,au=aC∧St [] E [] w0 35 a w [(2,.pointer (some ⟨aa,0,none⟩)),(3,.pointer (some ⟨ab,0,none⟩)),(29,.bool au)] [eBox aa 24 [iv p0.W,iv p0.H,.slice a2 p0.Bits.length a4],eBox ab 24 [iv p1.W,iv p1.H,.slice a5 p1.Bits.length a6]] [fRep (rL rB) (.slice a2 p0.Bits.length a4) p0.Bits,fRep (rL rB) (.slice a5 p1.Bits.length a6) p1.Bits]) ?_ (fun a w hI=>?_)
 rotate_left
 ·obtain ⟨au,rfl,S⟩:=hI
  have h:=aG
  try dsimp only at h
  rcases iS h with ⟨a9,h⟩ | ⟨a9,h⟩
  ·refine sCondT S d a9 (sSeq (fun aR av=>sRegion (sN S fun a S=>?_)))
   refine sN S fun a S=>?_
   refine lT (av _ _ ?_)
   obtain rfl:=tS h
   exact wp_ret (rThen (sRet (.tuple #[iv 0,iv 2]) S (rsl2 d (rvT (t:=4) (v:=iv 0) S d) (rvT (t:=5) (v:=iv 2) S d)) ⟨(),d,S.mem.sel [] [] (by decide) d d⟩))
  refine sCondF S d a9 (wp_skip (leafT (ar _ _ ?_)))
  refine sSeq (fun aS aw=>sRegion (sField (b:=aa) (off:=0) 2 2 S (wN d) d d d d d (lb d) fun a S=>sLoad1 0 (.slice a2 p0.Bits.length a4) S (wN d) d d d d d d (lb d) fun a S=>sField (b:=ab) (off:=0) 2 2 S (wN d) d d d d d (lb d) fun a S=>sLoad1 1 (.slice a5 p1.Bits.length a6) S (wN d) d d d d d d (lb d) fun a S=>?_))
  obtain ⟨af,ax,h⟩:=bS h
  have S1:=S.mem
  refine sCq [.slice a2 p0.Bits.length a4,.slice a5 p1.Bits.length a6] (iv af) S callee46 (S1.quiet [0,1] d) (fun E1 w1 S1=>c_compare_differ E1 w1 p0.Bits (.slice a2 p0.Bits.length a4) p1.Bits (.slice a5 p1.Bits.length a6) af ax S1) fun a w S=>?_
  refine sN S fun a S=>?_
  refine sN S fun a S=>?_
  refine lT (aw _ _ ?_)
  obtain rfl:=tS h
  exact wp_ret (sRet (.tuple #[iv af,iv 0]) S (rsl2 d (rvT (t:=4) (v:=iv af) S d) (rvT (t:=5) (v:=iv 0) S d)) ⟨(),d,S.mem.sel [] [] (by decide) d d⟩)
 refine sRegion (sField (b:=aa) (off:=0) 0 0 S (wN d) d d d d d (lb d) fun a S=>sLoad1 1 (iv p0.W) S (wN d) d d d d d d (lb d) fun a S=>sField (b:=ab) (off:=0) 0 0 S (wN d) d d d d d (lb d) fun a S=>sLoad1 0 (iv p1.W) S (wN d) d d d d d d (lb d) fun a S=>sBin _ S (wN d) d d d (bNe _ _ _ _ .i64 p0.W p1.W) d (lb d) fun a S=>sM S fun a S=>?_)
 rcases iS h with ⟨a0,h⟩ | ⟨a0,h⟩
 ·refine sSkN 5 5 false 23 S d d a0 d fun a S=>sPickT (.bool true) S (wN d) d d a0 d d (lb d) fun a S=>?_
  exact lT (⟨true,Option.some.inj h,S.fix [1,0] [1,0] (by decide) d d d⟩)
 refine sField (b:=aa) (off:=0) 1 1 S (wG 5 false 23 d d d a0) d d d d d (lb d) fun a S=>sLoad1 1 (iv p0.H) S (wG 5 false 23 d d d a0) d d d d d d (lb d) fun a S=>sField (b:=ab) (off:=0) 1 1 S (wG 5 false 23 d d d a0) d d d d d (lb d) fun a S=>sLoad1 0 (iv p1.H) S (wG 5 false 23 d d d a0) d d d d d d (lb d) fun a S=>sBin _ S (wG 5 false 23 d d d a0) d d d (bNe _ _ _ _ .i64 p0.H p1.H) d (lb d) fun a S=>sPickF (.bool (p0.H != p1.H)) S (wN d) d d a0 d d (lb d) fun a S=>?_
 exact lT (⟨p0.H != p1.H,Option.some.inj h,S.fix [1,0] [1,0] (by decide) d d d⟩)
noncomputable def F_compare_ways (p0:api_Grid) (p1:Int):Option (Int × api_Grid):=
 some (p1,p0)
def c_compare_ways_val (r:(Int × api_Grid)) (x:Value × Value):Value:=.func (.func 81) #[] #[x.1,x.2]
def c_compare_ways_D (r:(Int × api_Grid)) (x:Value × Value):List Fact:=[fPtr (rI .i64) x.1 r.1,fPtr r_api_Grid x.2 r.2]
theorem c_compare_ways (E:Nat→Prop) (w0:World) (p0:api_Grid) (v0:Value) (p1:Int) (r:(Int × api_Grid)) (h:F_compare_ways p0 p1=some r) (S:St0 E [] w0 w0 [] [fRep r_api_Grid (v0) p0]) :
 Calls Try.prog 49 #[v0,iv p1] w0 (Ret (X:=Value × Value) E [] w0 (c_compare_ways_val r) (fun _=>[]) (c_compare_ways_D r)):=by
 unfold F_compare_ways at h
 obtain ⟨u1,rfl,a4⟩:=S.know (i:=0) (e:=fRep r_api_Grid (v0) p0) d
 have S:=S.learn (fRep (rL rB) u1 p0.Bits) a4
 obtain ⟨a0,a2,_,rfl,_⟩:=a4
 refine sEnter (args:=[.agg #[iv p0.W,iv p0.H,.slice a0 p0.Bits.length a2],iv p1]) 6 Try.func49 d d (by simp) S (fun a S=>?_)
 refine sSeq (fun K5 a5=>sRegion (sBox (v:=.agg #[iv p0.W,iv p0.H,.slice a0 p0.Bits.length a2]) S (wN d) d d [iv p0.W,iv p0.H,.slice a0 p0.Bits.length a2] d d (lb d) fun a b6 w S=>sBox (v:=iv p1) S (wN d) d d [iv p1] d d (lb d) fun a b7 w S=>sN S fun a S=>?_))
 refine lT (a5 _ _ (sSeq (fun K8 a6=>sRegion (sFunc (g:=81) (vs:=[.pointer (some ⟨b7,0,none⟩),.pointer (some ⟨b6,0,none⟩)]) S (wN d) d d d (lb d) fun a S=>?_))))
 refine sN S fun a S=>?_
 refine lT (a6 _ _ ?_)
 have S:=S.shutB (r:=(rI .i64)) (T:=3) (b:=b7) (cs:=[iv p1]) 0 (iv p1) p1 d d (d)
 have S:=S.shutB (r:=r_api_Grid) (T:=24) (b:=b6) (cs:=[iv p0.W,iv p0.H,.slice a0 p0.Bits.length a2]) 0 (.agg #[iv p0.W,iv p0.H,.slice a0 p0.Bits.length a2]) p0 d d (S.mem.know (i:=2) (e:=fRep r_api_Grid (.agg #[iv p0.W,iv p0.H,.slice a0 p0.Bits.length a2]) p0) d)
 obtain rfl:=tS h
 exact wp_ret (sRet (.func (.func 81) #[] #[.pointer (some ⟨b7,0,none⟩),.pointer (some ⟨b6,0,none⟩)]) S (rsl1 d (rvT (t:=4) (v:=.func (.func 81) #[] #[.pointer (some ⟨b7,0,none⟩),.pointer (some ⟨b6,0,none⟩)]) S d)) ⟨((.pointer (some ⟨b7,0,none⟩)),(.pointer (some ⟨b6,0,none⟩))),d,S.mem.sel [] [1,0] (by decide) d d⟩)
noncomputable def symmetry_check_l1 (p0:(List api_Grid)):Int→Option (Int ⊕ (Int ⊕ Unit)):=fun s0=>match s0 with
 | s7=>
  if decide (s7 < (p0.length:Int)) then
   (idxO p0 s7).bind fun a2=>
   (F_grid_Check a2).bind fun a0=>
   if a0 != 0 then
    some (.inr (.inl a0))
   else
    some (.inl (w64 (s7 + 1)))
  else
   some (.inr (.inr ()))
noncomputable def symmetry_check_l2 (p0:(List api_Grid)):Int→Option (Int ⊕ (Int ⊕ Unit)):=fun s0=>match s0 with
 | a2=>
  if decide (a2 < (p0.length:Int)) then
   (idxO p0 a2).bind fun a0=>
   if decide (16 < (if a0.W < a0.H then a0.H else a0.W)) then
    some (.inr (.inl 4))
   else
    some (.inl (w64 (a2 + 1)))
  else
   some (.inr (.inr ()))
noncomputable def F_symmetry_check (p0:(List api_Grid)):Option Int:=
 Option.bind (α:=Unit ⊕ Int) (
  (whileO (symmetry_check_l1 p0) 0).bind fun z0=>match z0 with
   | .inl z=>
    some (.inr z)
   | .inr _=>
    some (.inl ())) fun z0=>match z0 with
  | .inl _=>
   Option.bind (α:=Unit ⊕ Int) (
    (whileO (symmetry_check_l2 p0) 0).bind fun z0=>match z0 with
     | .inl z=>
      some (.inr z)
     | .inr _=>
      some (.inl ())) fun z0=>match z0 with
    | .inl _=>
     some 0
    | .inr z=>
     some z
  | .inr z=>
   some z
theorem c_symmetry_check (E:Nat→Prop) (w0:World) (p0:(List api_Grid)) (v0:Value) (r:Int) (h:F_symmetry_check p0=some r) (S:St0 E [] w0 w0 [] [fRep (rL r_api_Grid) (v0) p0]) :
 Calls Try.prog 60 #[v0] w0 (Ret (X:=Unit) E [] w0 (fun _=>.int .i64 r) (fun _=>[]) (fun _=>[])):=by
 unfold F_symmetry_check at h
 obtain ⟨a6,a7,_,rfl,_⟩:=S.know (i:=0) (e:=fRep (rL r_api_Grid) (v0) p0) d
 refine sEnter (args:=[.slice a6 p0.length a7]) 33 Try.func60 d d (by simp) S (fun a S=>?_)
 refine sSeq (fun K3 aT=>sRegion (sN S fun a S=>?_))
 refine lT (aT _ _ ?_)
 obtain ⟨t4,h,g5⟩:=bS h
 refine sCut (fun a w=>.inl ()=t4∧St [] E [] w0 33 a w [(0,.slice a6 p0.length a7)] [] [fRep (rL r_api_Grid) (.slice a6 p0.length a7) p0]) ?_ (fun a w hI=>?_)
 ·refine sSeq (fun K6 aU=>sRegion (sM S fun a S=>?_))
  refine sLen S (wN d) d Try.underlying141 d d (lb d) fun a S=>sM S fun a S=>?_
  refine lT (aU _ _ (wp_block ?_))
  obtain ⟨b1,hl,g9⟩:=bS h
  refine sLoop hl (fun s0 a w=>match s0 with | s7=>St [] E [] w0 33 a w [(0,.slice a6 p0.length a7),(8,.slice a6 p0.length a7),(9,iv (p0.length:Int)),(10,iv s7)] [] [fRep (rL r_api_Grid) (.slice a6 p0.length a7) p0]) (S.fix [] [0] (by decide) d d d) ?_
  clear hl h
  intro s7 a w c0 hI h aM
  unfold symmetry_check_l1 at h
  dsimp only at h hI
  have S:=hI
  refine sSeq (fun ba ak=>sRegion (sBin _ S (wN d) d d d (bLt _ _ _ _ .i64 s7 (p0.length:Int)) d (lb d) fun a S=>lT (ak _ _ (sSeq (fun bb al=>?_)))))
  rcases iS h with ⟨a8,h⟩ | ⟨a8,h⟩
  rotate_left
  ·refine sCondF S d a8 ?_
   obtain rfl:=tS h
   obtain rfl:=aM _ d
   have h:=g9
   try dsimp only at h
   exact wp_exit (xThen (xThen (xHit (leafT (⟨Option.some.inj h,S.fix [] [0] (by decide) d d d⟩)))))
  refine sCondT S d a8 (wp_skip (leafT (al _ _ ?_)))
  refine sSeq (fun bc am=>wp_block ?_)
  refine sSeq (fun bf ao=>sRegion ?_)
  obtain ⟨a0,ap,h⟩:=bS h
  obtain ⟨aO,aq,S⟩:=pIdx (P:=Try.prog) (r:=r_api_Grid) (v:=.slice a6 p0.length a7) (xs:=p0) (j:=s7) 141 24 0 S Try.underlying141 d d ap
  refine sIdxV S (wN d) d d d aq d (lb d) fun a S=>?_
  obtain ⟨aV,S⟩:=pLoad (r:=r_api_Grid) (q:=aO) (x:=a0) 0 S d
  obtain ⟨aW,rfl,ag⟩:=S.mem.know (i:=1) (e:=fRep r_api_Grid (aV) a0) d
  have S:=S.learn (fRep (rL rB) aW a0.Bits) ag
  obtain ⟨a4,a5,_,rfl,_⟩:=ag
  refine sLoadVN (vq:=aO) 1 [iv a0.W,iv a0.H,.slice a4 a0.Bits.length a5] S (wN d) d d d d d d (lb d) fun a S=>sAlloc (.agg #[iv 0,iv 0,.slice none 0 0]) S (wN d) d d [iv 0,iv 0,.slice none 0 0] d d (lb d) fun a aP w S=>sStore (p:=aP) (off:=0) (T:=24) (vs:=[iv 0,iv 0,.slice none 0 0]) (v:=.agg #[iv a0.W,iv a0.H,.slice a4 a0.Bits.length a5]) 0 [iv a0.W,iv a0.H,.slice a4 a0.Bits.length a5] S (wN d) d d d d d d d (by simp) d fun a w S=>lT (ao _ _ (sSeq (fun bg ar=>sRegion (sLoadN (p:=aP) (off:=0) (T:=24) (vs:=[iv a0.W,iv a0.H,.slice a4 a0.Bits.length a5]) 0 [iv a0.W,iv a0.H,.slice a4 a0.Bits.length a5] S (wN d) d d d d d d d (lb d) fun a S=>?_))))
  obtain ⟨ah,au,h⟩:=bS h
  have S1:=S.mem
  refine sCq [.agg #[iv a0.W,iv a0.H,.slice a4 a0.Bits.length a5]] (iv ah) S callee45 (S1.quiet [2] d) (fun E1 w1 S1=>c_grid_Check E1 w1 a0 (.agg #[iv a0.W,iv a0.H,.slice a4 a0.Bits.length a5]) ah au S1) fun a w S=>?_
  refine sN S fun a S=>?_
  refine lT (ar _ _ (sSeq (fun bh av=>sRegion (sM S fun a S=>?_))))
  refine sBin _ S (wN d) d d d (bNe _ _ _ _ .i64 ah 0) d (lb d) fun a S=>lT (av _ _ ?_)
  rcases iS h with ⟨a9,h⟩ | ⟨a9,h⟩
  rotate_left
  ·refine sCondF S d a9 (wp_skip (leafB (leafT (am _ _ ?_))))
   refine sRegion (sBin _ S (wN d) d d d (bAdd _ _ _ _ s7 1) d (lb d) fun a S=>sM S fun a S=>?_)
   exact lT (⟨w64 (s7 + 1),(Option.some.inj h).symm,(S.fix [] [4] (by decide) d d d)⟩)
  refine sCondT S d a9 (sSeq (fun bi aw=>sRegion (sM S fun a S=>?_)))
  refine sN S fun a S=>?_
  refine lT (aw _ _ ?_)
  obtain rfl:=tS h
  obtain rfl:=aM _ d
  have h:=g9
  try dsimp only at h
  obtain rfl:=tS h
  have h:=g5
  try dsimp only at h
  obtain rfl:=tS h
  exact wp_ret (rBlock (rThen (rThen (rBlock (rThen (sRet (iv ah) S (rsl1 d (rvT (t:=2) (v:=iv ah) S d)) ⟨(),d,S.mem.sel [] [] (by decide) d d⟩))))))
 obtain ⟨rfl,S⟩:=hI
 have h:=g5
 try dsimp only at h
 obtain ⟨aX,h,aQ⟩:=bS h
 refine sCut (fun a w=>.inl ()=aX∧St [] E [] w0 33 a w [] [] []) ?_ (fun a w hI=>?_)
 rotate_left
 ·obtain ⟨rfl,S⟩:=hI
  have h:=aQ
  try dsimp only at h
  refine sSeq (fun bj ax=>sRegion (sN S fun a S=>?_))
  refine lT (ax _ _ ?_)
  obtain rfl:=tS h
  exact wp_ret (sRet (iv 0) S (rsl1 d (rvT (t:=2) (v:=iv 0) S d)) ⟨(),d,S.mem.sel [] [] (by decide) d d⟩)
 refine sSeq (fun bk ay=>sRegion (sM S fun a S=>?_))
 refine sLen S (wN d) d Try.underlying141 d d (lb d) fun a S=>sM S fun a S=>?_
 refine lT (ay _ _ (wp_block ?_))
 obtain ⟨bl,hl,aR⟩:=bS h
 refine sLoop hl (fun s0 a w=>match s0 with | af=>St [] E [] w0 33 a w [(20,.slice a6 p0.length a7),(21,iv (p0.length:Int)),(22,iv af)] [] [fRep (rL r_api_Grid) (.slice a6 p0.length a7) p0]) (S.fix [] [0] (by decide) d d d) ?_
 clear hl h
 intro af a w c0 hI h ai
 unfold symmetry_check_l2 at h
 dsimp only at h hI
 have S:=hI
 refine sSeq (fun bm az=>sRegion (sBin _ S (wN d) d d d (bLt _ _ _ _ .i64 af (p0.length:Int)) d (lb d) fun a S=>lT (az _ _ (sSeq (fun bn aA=>?_)))))
 rcases iS h with ⟨aa,h⟩ | ⟨aa,h⟩
 rotate_left
 ·refine sCondF S d aa ?_
  obtain rfl:=tS h
  obtain rfl:=ai _ d
  have h:=aR
  try dsimp only at h
  exact wp_exit (xThen (xThen (xHit (leafT (⟨Option.some.inj h,S.fix [] [] (by decide) d d d⟩)))))
 refine sCondT S d aa (wp_skip (leafT (aA _ _ ?_)))
 refine sSeq (fun bo aC=>wp_block ?_)
 refine sSeq (fun bp aG=>sRegion ?_)
 obtain ⟨a2,aH,h⟩:=bS h
 obtain ⟨aS,aI,S⟩:=pIdx (P:=Try.prog) (r:=r_api_Grid) (v:=.slice a6 p0.length a7) (xs:=p0) (j:=af) 141 24 0 S Try.underlying141 d d aH
 refine sIdxV S (wN d) d d d aI d (lb d) fun a S=>?_
 obtain ⟨aZ,S⟩:=pLoad (r:=r_api_Grid) (q:=aS) (x:=a2) 0 S d
 obtain ⟨b0,rfl,aj⟩:=S.mem.know (i:=1) (e:=fRep r_api_Grid (aZ) a2) d
 have S:=S.learn (fRep (rL rB) b0 a2.Bits) aj
 obtain ⟨ab,ac,_,rfl,_⟩:=aj
 refine sLoadVN (vq:=aS) 1 [iv a2.W,iv a2.H,.slice ab a2.Bits.length ac] S (wN d) d d d d d d (lb d) fun a S=>sAlloc (.agg #[iv 0,iv 0,.slice none 0 0]) S (wN d) d d [iv 0,iv 0,.slice none 0 0] d d (lb d) fun a aJ w S=>sStore (p:=aJ) (off:=0) (T:=24) (vs:=[iv 0,iv 0,.slice none 0 0]) (v:=.agg #[iv a2.W,iv a2.H,.slice ab a2.Bits.length ac]) 0 [iv a2.W,iv a2.H,.slice ab a2.Bits.length ac] S (wN d) d d d d d d d (by simp) d fun a w S=>lT (aG _ _ (sSeq (fun bq aK=>sRegion (sField (b:=aJ) (off:=0) 0 0 S (wN d) d d d d d (lb d) fun a S=>sLoad1 0 (iv a2.W) S (wN d) d d d d d d (lb d) fun a S=>sField (b:=aJ) (off:=0) 1 1 S (wN d) d d d d d (lb d) fun a S=>sLoad1 0 (iv a2.H) S (wN d) d d d d d d (lb d) fun a S=>sMax2 (p:=a2.W) (q:=a2.H) S (wN d) d d d d (lb d) fun a S=>sBin _ S (wN d) d d d (bGt _ _ _ _ .i64 (if a2.W < a2.H then a2.H else a2.W) 16) d (lb d) fun a S=>lT (aK _ _ ?_)))))
 rcases iS h with ⟨ae,h⟩ | ⟨ae,h⟩
 rotate_left
 ·refine sCondF S d ae (wp_skip (leafB (leafT (aC _ _ ?_))))
  refine sRegion (sBin _ S (wN d) d d d (bAdd _ _ _ _ af 1) d (lb d) fun a S=>sM S fun a S=>?_)
  exact lT (⟨w64 (af + 1),(Option.some.inj h).symm,(S.fix [] [4] (by decide) d d d)⟩)
 refine sCondT S d ae (sSeq (fun br aL=>sRegion (sN S fun a S=>?_)))
 refine lT (aL _ _ ?_)
 obtain rfl:=tS h
 obtain rfl:=ai _ d
 have h:=aR
 try dsimp only at h
 obtain rfl:=tS h
 have h:=aQ
 try dsimp only at h
 obtain rfl:=tS h
 exact wp_ret (rBlock (rThen (rThen (rBlock (rThen (sRet (iv 4) S (rsl1 d (rvT (t:=2) (v:=iv 4) S d)) ⟨(),d,S.mem.sel [] [] (by decide) d d⟩))))))
noncomputable def F_symmetry_is (p0:Int):Option Bool:=
 Option.bind (α:=Bool) (
  if decide (0 ≤ p0) then
   some (decide (p0 < 16))
  else
   some false) fun o2=>
 some o2
theorem c_symmetry_is (E:Nat→Prop) (w0:World) (p0:Int) (r:Bool) (h:F_symmetry_is p0=some r) (S:St0 E [] w0 w0 [] []) :
 Calls Try.prog 61 #[iv p0] w0 (Ret (X:=Unit) E [] w0 (fun _=>.bool r) (fun _=>[]) (fun _=>[])):=by
 unfold F_symmetry_is at h
 refine sEnter (args:=[iv p0]) 9 Try.func61 d d (by simp) S (fun a S=>?_)
 refine sSeq (fun K1 a2=>sRegion (sN S fun a S=>?_))
 refine lT (a2 _ _ ?_)
 obtain ⟨t3,h,g4⟩:=bS h
 refine sCut (fun a w=>∃ o2,o2=t3∧St [] E [] w0 9 a w [(2,.bool o2)] [] []) ?_ (fun a w hI=>?_)
 rotate_left
 ·obtain ⟨o2,rfl,S⟩:=hI
  have h:=g4
  try dsimp only at h
  obtain rfl:=tS h
  exact wp_ret (sRet (.bool o2) S (rsl1 d (rvT (t:=2) (v:=.bool o2) S d)) ⟨(),d,S.mem.sel [] [] (by decide) d d⟩)
 refine sRegion (sM S fun a S=>?_)
 refine sBin _ S (wN d) d d d (bGe _ _ _ _ .i64 p0 0) d (lb d) fun a S=>sM S fun a S=>?_
 rcases iS h with ⟨a0,h⟩ | ⟨a0,h⟩
 rotate_left
 ·refine sSkN 2 2 true 5 S d d a0 d fun a S=>sPickF (.bool false) S (wN d) d d a0 d d (lb d) fun a S=>sN S fun a S=>?_
  exact lT (⟨false,Option.some.inj h,S.fix [] [] (by decide) d d d⟩)
 refine sMove (iv p0) S (wG 2 true 5 d d d a0) (.inl d) d d (lb d) fun a S=>sBin _ S (wG 2 true 5 d d d a0) d d d (bLt _ _ _ _ .i64 p0 16) d (lb d) fun a S=>sPickT (.bool (decide (p0 < 16))) S (wN d) d d a0 d d (lb d) fun a S=>sN S fun a S=>?_
 exact lT (⟨decide (p0 < 16),Option.some.inj h,S.fix [] [] (by decide) d d d⟩)
def anc_symmetry_applied_0:List (List Nat):=[[],[0],[],[2],[],[],[5],[4,5,6],[],[4,5,6,7,8],[2,3,4,5,6,7,8,9],[2,3,4,5,6,7,8,9,10],[],[12],[12,13],[2,3,4,5,6,7,8,9,10,11,12,13,14],[2,3,4,5,6,7,8,9,10,11,12,13,14,15],[0,1,2,3,4,5,6,7,8,9,10,11,12,13,14,15,16],[0,1,2,3,4,5,6,7,8,9,10,11,12,13,14,15,16,17],[0,1,2,3,4,5,6,7,8,9,10,11,12,13,14,15,16,17,18]]
noncomputable def symmetry_applied_l1 (o9:Int) (p1:Int) (a2:Int) (p0:api_Grid):(Int × List Bool)→Option ((Int × List Bool) ⊕ List Bool):=fun s0=>match s0 with
 | (a0,a4)=>
  if decide (a0 < o9) then
   Option.bind (α:=(Int × Int)) (
    if (andI .i64 p1 4) != 0 then
     some (a2,a0)
    else
     some (a0,a2)) fun (a5,a6)=>
   Option.bind (α:=Int) (
    if (andI .i64 p1 1) != 0 then
     some (w64 ((w64 (p0.W - 1)) - a5))
    else
     some a5) fun a7=>
   Option.bind (α:=Int) (
    if (andI .i64 p1 2) != 0 then
     some (w64 ((w64 (p0.H - 1)) - a6))
    else
     some a6) fun a8=>
   (idxO p0.Bits (w64 ((w64 (a8 * p0.W)) + a7))).bind fun a9=>
   (appO a4 [a9 != ((andI .i64 p1 8) != 0)]).bind fun aa=>
   some (.inl (w64 (a0 + 1),aa))
  else
   some (.inr a4)
noncomputable def symmetry_applied_l2 (a4:Int) (o9:Int) (p1:Int) (p0:api_Grid):(Int × List Bool)→Option ((Int × List Bool) ⊕ List Bool):=fun s0=>match s0 with
 | (a0,a2)=>
  if decide (a0 < a4) then
   Option.bind (α:=List Bool) (
    (whileO (symmetry_applied_l1 o9 p1 a0 p0) (0,a2)).bind fun a5=>
     some a5) fun a6=>
   some (.inl (w64 (a0 + 1),a6))
  else
   some (.inr a2)
noncomputable def F_symmetry_applied (p0:api_Grid) (p1:Int):Option api_Grid:=
 Option.bind (α:=(Int × Int)) (
  if (andI .i64 p1 4) != 0 then
   some (p0.H,p0.W)
  else
   some (p0.W,p0.H)) fun (o9,a0)=>
 Option.bind (α:=List Bool) (
  (whileO (symmetry_applied_l2 a0 o9 p1 p0) (0,([]:List Bool))).bind fun a2=>
   some a2) fun a4=>
 some (api_Grid.mk o9 a0 a4)
def c_symmetry_applied_val (r:api_Grid) (x:Value):Value:=x
def c_symmetry_applied_D (r:api_Grid) (x:Value):List Fact:=[fRep r_api_Grid x r]
theorem c_symmetry_applied (E:Nat→Prop) (w0:World) (p0:api_Grid) (v0:Value) (p1:Int) (r:api_Grid) (h:F_symmetry_applied p0 p1=some r) (S:St0 E [] w0 w0 [] [fRep r_api_Grid (v0) p0]) :
 Calls Try.prog 62 #[v0,iv p1] w0 (Ret (X:=Value) E [] w0 (c_symmetry_applied_val r) (fun _=>[]) (c_symmetry_applied_D r)):=by
 unfold F_symmetry_applied at h
 obtain ⟨u1,rfl,bg⟩:=S.know (i:=0) (e:=fRep r_api_Grid (v0) p0) d
 have S:=S.learn (fRep (rL rB) u1 p0.Bits) bg
 obtain ⟨a9,aa,_,rfl,_⟩:=bg
 refine sEnter (args:=[.agg #[iv p0.W,iv p0.H,.slice a9 p0.Bits.length aa],iv p1]) 77 Try.func62 d d (by simp) S (fun a S=>?_)
 refine sSeq (fun K5 bi=>sRegion (sBox (v:=.agg #[iv p0.W,iv p0.H,.slice a9 p0.Bits.length aa]) S (wN d) d d [iv p0.W,iv p0.H,.slice a9 p0.Bits.length aa] d d (lb d) fun a b6 w S=>sAlloc (.agg #[iv 0,iv 0,.slice none 0 0]) S (wN d) d d [iv 0,iv 0,.slice none 0 0] d d (lb d) fun a b7 w S=>lT (bi _ _ (sSeq (fun K8 bj=>sDraw (nf:=[]) (W:=[(0,12,.pointer (some ⟨b6,0,none⟩)),(1,13,iv p0.W),(2,14,.pointer (some ⟨b6,1,none⟩)),(3,15,iv p0.H),(4,5,iv p0.W),(5,6,iv p0.H)]) d S ?_)))))
 refine node_by (A:=[[],[0],[],[2],[0,1],[0,1,2,3,4]]) (nf:=[]) (Y:=[]) (W:=[(0,12,.pointer (some ⟨b6,0,none⟩)),(1,13,iv p0.W),(2,14,.pointer (some ⟨b6,1,none⟩)),(3,15,iv p0.H),(4,5,iv p0.W),(5,6,iv p0.H)]) 6 (by kernel_rfl) (by kernel_rfl) (by kernel_rfl) (by kernel_rfl) (by kernel_rfl) [0,1,2,3,4,5] (by kernel_rfl) (by decide) (by decide) (fF ?_ (fF ?_ (fF ?_ (fF ?_ (fF ?_ (fF ?_ (trivial))))))) [(1,iv p1),(2,.pointer (some ⟨b6,0,none⟩)),(4,.pointer (some ⟨b7,0,none⟩)),(5,iv p0.W),(6,iv p0.H)] (fin_of [none,none,none,some 4,some 5] d (by kernel_rfl) (by kernel_rfl)) (fun _ a w S=>?_)
 ·refine fJ [(2,_)] 0 [none] fun G a w S=>?_
  exact sField (b:=b6) (off:=0) 0 0 S (wN d) d d d d d (lb d) fun a S=>leafL ⟨d,S⟩
 ·refine fJ [(12,_)] 1 [some 0] fun G a w S=>?_
  exact sLoad1 1 (iv p0.W) S (wN d) d d d d d d (lb d) fun a S=>leafL ⟨d,S⟩
 ·refine fJ [(2,_)] 2 [none] fun G a w S=>?_
  exact sField (b:=b6) (off:=0) 1 1 S (wN d) d d d d d (lb d) fun a S=>leafL ⟨d,S⟩
 ·refine fJ [(14,_)] 3 [some 2] fun G a w S=>?_
  exact sLoad1 1 (iv p0.H) S (wN d) d d d d d d (lb d) fun a S=>leafL ⟨d,S⟩
 ·exact fM 4 (some 1) d d d d (.inr d) d d d
 ·exact fM 5 (some 3) d d d d (.inr d) d d d
 refine leafT (bj _ _ ?_)
 obtain ⟨bk,h,bl⟩:=bS h
 refine sCut (fun a w=>∃ o9,∃ a4,(o9,a4)=bk∧St [] E [] w0 77 a w [(1,iv p1),(2,.pointer (some ⟨b6,0,none⟩)),(4,.pointer (some ⟨b7,0,none⟩)),(5,iv o9),(6,iv a4)] [eBox b6 24 [iv p0.W,iv p0.H,.slice a9 p0.Bits.length aa],eBox b7 24 [iv 0,iv 0,.slice none 0 0]] [fRep (rL rB) (.slice a9 p0.Bits.length aa) p0.Bits]) ?_ (fun a w hI=>?_)
 ·refine sSeq (fun bA aI=>sRegion (sM S fun a S=>?_))
  refine sBin _ S (wN d) d d d (bAndK _ _ _ _ .i64 p1 4) d (lb d) fun a S=>sBin _ S (wN d) d d d (bNe _ _ _ _ .i64 (andI .i64 p1 4) 0) d (lb d) fun a S=>lT (aI _ _ ?_)
  rcases iS h with ⟨ap,h⟩ | ⟨ap,h⟩
  rotate_left
  ·refine sCondF S d ap ?_
   exact wp_skip (leafT (⟨p0.W,p0.H,Option.some.inj h,S.fix [1,0] [0] (by decide) d d d⟩))
  refine sCondT S d ap (sRegion (sM S fun a S=>?_))
  refine sM S fun a S=>?_
  refine sN S fun a S=>?_
  refine sN S fun a S=>?_
  exact lT (⟨p0.H,p0.W,Option.some.inj h,S.fix [1,0] [0] (by decide) d d d⟩)
 obtain ⟨o9,a4,rfl,S⟩:=hI
 have h:=bl
 try dsimp only at h
 refine sSeq (fun bB aJ=>sRegion (sM S fun a S=>?_))
 refine sM S fun a S=>?_
 refine sBuild [(0,iv o9),(1,iv a4)] [iv o9,iv a4,.slice none 0 0] S (wN d) d d d d (lb d) fun a S=>sAlloc (.agg #[iv 0,iv 0,.slice none 0 0]) S (wN d) d d [iv 0,iv 0,.slice none 0 0] d d (lb d) fun a a7 w S=>sStore (p:=a7) (off:=0) (T:=24) (vs:=[iv 0,iv 0,.slice none 0 0]) (v:=.agg #[iv o9,iv a4,.slice none 0 0]) 0 [iv o9,iv a4,.slice none 0 0] S (wN d) d d d d d d d (by simp) d fun a w S=>lT (aJ _ _ ?_)
 obtain ⟨bm,h,bn⟩:=bS h
 refine sCut (fun a w=>∃ ab,ab=bm∧∃ a5,∃ a6,St [] E [] w0 77 a w [(4,.pointer (some ⟨b7,0,none⟩)),(7,.pointer (some ⟨a7,0,none⟩))] [eBox b7 24 [iv 0,iv 0,.slice none 0 0],eBox a7 24 [iv o9,iv a4,.slice a5 ab.length a6],eRow rB 4 (.slice a5 ab.length a6) ab] []) ?_ (fun a w hI=>?_)
 rotate_left
 ·obtain ⟨ab,rfl,a5,a6,S⟩:=hI
  have h:=bn
  try dsimp only at h
  refine sSeq (fun bC aK=>sRegion (sLoadN (p:=a7) (off:=0) (T:=24) (vs:=[iv o9,iv a4,.slice a5 ab.length a6]) 1 [iv o9,iv a4,.slice a5 ab.length a6] S (wN d) d d d d d d d (lb d) fun a S=>sStore (p:=b7) (off:=0) (T:=24) (vs:=[iv 0,iv 0,.slice none 0 0]) (v:=.agg #[iv o9,iv a4,.slice a5 ab.length a6]) 0 [iv o9,iv a4,.slice a5 ab.length a6] S (wN d) d d d d d d d (by simp) d fun a w S=>lT (aK _ _ ?_)))
  obtain rfl:=tS h
  have S:=S.shutR (r:=rB) (T:=4) (v:=.slice a5 ab.length a6) (xs:=ab) 2 d
  have S:=S.learn (fRep r_api_Grid (.agg #[iv o9,iv a4,.slice a5 ab.length a6]) (api_Grid.mk o9 a4 ab)) ⟨_,d,S.mem.know (i:=0) (e:=fRep (rL rB) (.slice a5 ab.length a6) ab) d⟩
  exact wp_ret (sRet (.agg #[iv o9,iv a4,.slice a5 ab.length a6]) S (rsl1 d (rvN (c:=4) (t:=24) (T:=24) (p:=b7) 0 [iv o9,iv a4,.slice a5 ab.length a6] S d d d d)) ⟨(.agg #[iv o9,iv a4,.slice a5 ab.length a6]),d,S.mem.sel [] [0] (by decide) d d⟩)
 refine sSeq (fun bD aL=>sRegion (sM S fun a S=>?_))
 refine sM S fun a S=>?_
 refine lT (aL _ _ (wp_block ?_))
 have S:=S.nilRow rB 4 (α:=Bool)
 obtain ⟨bE,hl,bo⟩:=bS h
 refine sLoop hl (fun s0 a w=>match s0 with | (ac,aG)=>∃ af,∃ ag,St [] E [] w0 77 a w [(1,iv p1),(2,.pointer (some ⟨b6,0,none⟩)),(4,.pointer (some ⟨b7,0,none⟩)),(5,iv o9),(7,.pointer (some ⟨a7,0,none⟩)),(24,iv a4),(25,iv ac)] [eBox b6 24 [iv p0.W,iv p0.H,.slice a9 p0.Bits.length aa],eBox b7 24 [iv 0,iv 0,.slice none 0 0],eBox a7 24 [iv o9,iv a4,.slice af aG.length ag],eRow rB 4 (.slice af aG.length ag) aG] [fRep (rL rB) (.slice a9 p0.Bits.length aa) p0.Bits]) ⟨none,0,S.fix [2,3,1,0] [0] (by decide) d d d⟩ ?_
 clear hl h
 intro s0 a w c0 hI h aM
 obtain ⟨ac,aG⟩:=s0
 unfold symmetry_applied_l2 at h
 dsimp only at h hI
 obtain ⟨af,ag,S⟩:=hI
 refine sSeq (fun bF aO=>sRegion (sBin _ S (wN d) d d d (bLt _ _ _ _ .i64 ac a4) d (lb d) fun a S=>lT (aO _ _ (sSeq (fun bG aP=>?_)))))
 rcases iS h with ⟨aq,h⟩ | ⟨aq,h⟩
 rotate_left
 ·refine sCondF S d aq ?_
  obtain rfl:=tS h
  obtain rfl:=aM _ d
  have h:=bo
  try dsimp only at h
  exact wp_exit (xThen (xThen (xHit (leafT (⟨aG,Option.some.inj h,af,ag,S.fix [1,2,3] [] (by decide) d d d⟩)))))
 refine sCondT S d aq (wp_skip (leafT (aP _ _ ?_)))
 obtain ⟨bp,h,bq⟩:=bS h
 refine sCut (fun a w=>∃ aA,aA=bp∧∃ ak,∃ al,St [] E [] w0 77 a w [(1,iv p1),(2,.pointer (some ⟨b6,0,none⟩)),(4,.pointer (some ⟨b7,0,none⟩)),(5,iv o9),(7,.pointer (some ⟨a7,0,none⟩)),(24,iv a4),(25,iv ac)] [eBox b6 24 [iv p0.W,iv p0.H,.slice a9 p0.Bits.length aa],eBox b7 24 [iv 0,iv 0,.slice none 0 0],eBox a7 24 [iv o9,iv a4,.slice ak aA.length al],eRow rB 4 (.slice ak aA.length al) aA] [fRep (rL rB) (.slice a9 p0.Bits.length aa) p0.Bits]) ?_ (fun a w hI=>?_)
 rotate_left
 ·obtain ⟨aA,rfl,ak,al,S⟩:=hI
  have h:=bq
  try dsimp only at h
  refine sRegion (sBin _ S (wN d) d d d (bAdd _ _ _ _ ac 1) d (lb d) fun a S=>sM S fun a S=>?_)
  exact lT (⟨(w64 (ac + 1),aA),(Option.some.inj h).symm,⟨ak,al,S.fix [0,1,2,3] [0] (by decide) d d d⟩⟩)
 refine wp_block ?_
 refine sSeq (fun bH aQ=>sRegion (sM S fun a S=>?_))
 refine sN S fun a S=>?_
 refine lT (aQ _ _ (sSeq (fun bI aR=>sRegion (sM S fun a S=>?_))))
 refine sM S fun a S=>?_
 refine lT (aR _ _ (wp_block ?_))
 obtain ⟨bJ,hl,br⟩:=bS h
 refine sLoop hl (fun s0 a w=>match s0 with | (ah,a8)=>∃ a0,∃ a2,St [] E [] w0 77 a w [(1,iv p1),(2,.pointer (some ⟨b6,0,none⟩)),(4,.pointer (some ⟨b7,0,none⟩)),(5,iv o9),(7,.pointer (some ⟨a7,0,none⟩)),(8,iv ac),(24,iv a4),(25,iv ac),(28,iv o9),(29,iv ah)] [eBox b6 24 [iv p0.W,iv p0.H,.slice a9 p0.Bits.length aa],eBox b7 24 [iv 0,iv 0,.slice none 0 0],eBox a7 24 [iv o9,iv a4,.slice a0 a8.length a2],eRow rB 4 (.slice a0 a8.length a2) a8] [fRep (rL rB) (.slice a9 p0.Bits.length aa) p0.Bits]) ⟨af,ag,S.fix [0,1,2,3] [0] (by decide) d d d⟩ ?_
 clear hl h
 intro s0 a w c0 hI h aS
 obtain ⟨ah,a8⟩:=s0
 unfold symmetry_applied_l1 at h
 dsimp only at h hI
 obtain ⟨a0,a2,S⟩:=hI
 refine sSeq (fun bK aT=>sRegion (sBin _ S (wN d) d d d (bLt _ _ _ _ .i64 ah o9) d (lb d) fun a S=>lT (aT _ _ (sSeq (fun bL aU=>?_)))))
 rcases iS h with ⟨ar,h⟩ | ⟨ar,h⟩
 rotate_left
 ·refine sCondF S d ar ?_
  obtain rfl:=tS h
  obtain rfl:=aS _ d
  have h:=br
  try dsimp only at h
  exact wp_exit (xThen (xThen (xHit (leafB (leafT (⟨a8,Option.some.inj h,a0,a2,S.fix [0,1,2,3] [0] (by decide) d d d⟩))))))
 refine sCondT S d ar (wp_skip (leafT (aU _ _ ?_)))
 refine sSeq (fun bM aV=>wp_block ?_)
 refine sSeq (fun bN aW=>sRegion (sM S fun a S=>?_))
 refine sN S fun a S=>?_
 refine lT (aW _ _ (sSeq (fun bO aX=>sRegion (sM S fun a S=>?_))))
 refine sM S fun a S=>?_
 refine sN S fun a S=>?_
 refine sN S fun a S=>?_
 refine lT (aX _ _ ?_)
 obtain ⟨bt,h,bu⟩:=bS h
 refine sCut (fun a w=>∃ aC,∃ au,(aC,au)=bt∧St [] E [] w0 77 a w [(1,iv p1),(2,.pointer (some ⟨b6,0,none⟩)),(4,.pointer (some ⟨b7,0,none⟩)),(5,iv o9),(7,.pointer (some ⟨a7,0,none⟩)),(8,iv ac),(10,iv aC),(11,iv au),(24,iv a4),(25,iv ac),(28,iv o9),(29,iv ah)] [eBox b6 24 [iv p0.W,iv p0.H,.slice a9 p0.Bits.length aa],eBox b7 24 [iv 0,iv 0,.slice none 0 0],eBox a7 24 [iv o9,iv a4,.slice a0 a8.length a2],eRow rB 4 (.slice a0 a8.length a2) a8] [fRep (rL rB) (.slice a9 p0.Bits.length aa) p0.Bits]) ?_ (fun a w hI=>?_)
 ·refine sSeq (fun bP aZ=>sRegion (sM S fun a S=>?_))
  refine sBin _ S (wN d) d d d (bAndK _ _ _ _ .i64 p1 4) d (lb d) fun a S=>sBin _ S (wN d) d d d (bNe _ _ _ _ .i64 (andI .i64 p1 4) 0) d (lb d) fun a S=>lT (aZ _ _ ?_)
  rcases iS h with ⟨av,h⟩ | ⟨av,h⟩
  rotate_left
  ·refine sCondF S d av ?_
   exact wp_skip (leafT (⟨ah,ac,Option.some.inj h,S.fix [0,1,2,3] [0] (by decide) d d d⟩))
  refine sCondT S d av (sRegion (sM S fun a S=>?_))
  refine sM S fun a S=>?_
  refine sN S fun a S=>?_
  refine sN S fun a S=>?_
  exact lT (⟨ac,ah,Option.some.inj h,S.fix [0,1,2,3] [0] (by decide) d d d⟩)
 obtain ⟨aC,au,rfl,S⟩:=hI
 have h:=bu
 try dsimp only at h
 obtain ⟨bv,h,bw⟩:=bS h
 refine sCut (fun a w=>∃ ao,ao=bv∧St [] E [] w0 77 a w [(1,iv p1),(2,.pointer (some ⟨b6,0,none⟩)),(4,.pointer (some ⟨b7,0,none⟩)),(5,iv o9),(7,.pointer (some ⟨a7,0,none⟩)),(8,iv ac),(10,iv ao),(11,iv au),(24,iv a4),(25,iv ac),(28,iv o9),(29,iv ah)] [eBox b6 24 [iv p0.W,iv p0.H,.slice a9 p0.Bits.length aa],eBox b7 24 [iv 0,iv 0,.slice none 0 0],eBox a7 24 [iv o9,iv a4,.slice a0 a8.length a2],eRow rB 4 (.slice a0 a8.length a2) a8] [fRep (rL rB) (.slice a9 p0.Bits.length aa) p0.Bits]) ?_ (fun a w hI=>?_)
 ·refine sSeq (fun bQ b0=>sRegion (sM S fun a S=>?_))
  refine sBin _ S (wN d) d d d (bAndK _ _ _ _ .i64 p1 1) d (lb d) fun a S=>sBin _ S (wN d) d d d (bNe _ _ _ _ .i64 (andI .i64 p1 1) 0) d (lb d) fun a S=>lT (b0 _ _ ?_)
  rcases iS h with ⟨aw,h⟩ | ⟨aw,h⟩
  rotate_left
  ·refine sCondF S d aw ?_
   exact wp_skip (leafT (⟨aC,Option.some.inj h,S.fix [0,1,2,3] [0] (by decide) d d d⟩))
  refine sCondT S d aw (sRegion (sField (b:=b6) (off:=0) 0 0 S (wN d) d d d d d (lb d) fun a S=>sLoad1 0 (iv p0.W) S (wN d) d d d d d d (lb d) fun a S=>sBin _ S (wN d) d d d (bSub _ _ _ _ p0.W 1) d (lb d) fun a S=>sM S fun a S=>?_))
  refine sBin _ S (wN d) d d d (bSub _ _ _ _ (w64 (p0.W - 1)) aC) d (lb d) fun a S=>sN S fun a S=>?_
  exact lT (⟨w64 ((w64 (p0.W - 1)) - aC),Option.some.inj h,S.fix [0,1,2,3] [0] (by decide) d d d⟩)
 obtain ⟨ao,rfl,S⟩:=hI
 have h:=bw
 try dsimp only at h
 obtain ⟨bx,h,bz⟩:=bS h
 refine sCut (fun a w=>∃ am,am=bx∧St [] E [] w0 77 a w [(1,iv p1),(2,.pointer (some ⟨b6,0,none⟩)),(4,.pointer (some ⟨b7,0,none⟩)),(5,iv o9),(7,.pointer (some ⟨a7,0,none⟩)),(8,iv ac),(10,iv ao),(11,iv am),(24,iv a4),(25,iv ac),(28,iv o9),(29,iv ah)] [eBox b6 24 [iv p0.W,iv p0.H,.slice a9 p0.Bits.length aa],eBox b7 24 [iv 0,iv 0,.slice none 0 0],eBox a7 24 [iv o9,iv a4,.slice a0 a8.length a2],eRow rB 4 (.slice a0 a8.length a2) a8] [fRep (rL rB) (.slice a9 p0.Bits.length aa) p0.Bits]) ?_ (fun a w hI=>?_)
 ·refine sSeq (fun bR b1=>sRegion (sM S fun a S=>?_))
  refine sBin _ S (wN d) d d d (bAndK _ _ _ _ .i64 p1 2) d (lb d) fun a S=>sBin _ S (wN d) d d d (bNe _ _ _ _ .i64 (andI .i64 p1 2) 0) d (lb d) fun a S=>lT (b1 _ _ ?_)
  rcases iS h with ⟨ax,h⟩ | ⟨ax,h⟩
  rotate_left
  ·refine sCondF S d ax ?_
   exact wp_skip (leafT (⟨au,Option.some.inj h,S.fix [0,1,2,3] [0] (by decide) d d d⟩))
  refine sCondT S d ax (sRegion (sField (b:=b6) (off:=0) 1 1 S (wN d) d d d d d (lb d) fun a S=>sLoad1 0 (iv p0.H) S (wN d) d d d d d d (lb d) fun a S=>sBin _ S (wN d) d d d (bSub _ _ _ _ p0.H 1) d (lb d) fun a S=>sM S fun a S=>?_))
  refine sBin _ S (wN d) d d d (bSub _ _ _ _ (w64 (p0.H - 1)) au) d (lb d) fun a S=>sN S fun a S=>?_
  exact lT (⟨w64 ((w64 (p0.H - 1)) - au),Option.some.inj h,S.fix [0,1,2,3] [0] (by decide) d d d⟩)
 obtain ⟨am,rfl,S⟩:=hI
 have h:=bz
 try dsimp only at h
 obtain ⟨ae,ba,h⟩:=bS h
 obtain ⟨aH,bb,h⟩:=bS h
 obtain ⟨bc,bf,S⟩:=pIdx (P:=Try.prog) (r:=rB) (v:=.slice a9 p0.Bits.length aa) (xs:=p0.Bits) (j:=w64 ((w64 (am * p0.W)) + ao)) 22 4 0 S Try.underlying22 d d ba
 obtain ⟨bh,S⟩:=pLoad (r:=rB) (q:=bc) (x:=ae) 0 S d
 obtain rfl:bh=.bool ae:=S.mem.know (i:=1) (e:=fRep rB (bh) ae) d
 refine sDraw (nf:=[16,17,19]) (W:=[(0,55,.pointer (some ⟨a7,2,none⟩)),(1,56,.slice a0 a8.length a2),(2,57,.pointer (some ⟨b6,2,none⟩)),(3,58,.slice a9 p0.Bits.length aa),(4,59,iv am),(5,60,.pointer (some ⟨b6,0,none⟩)),(6,61,iv p0.W),(7,62,iv (w64 (am * p0.W))),(8,63,iv ao),(9,64,iv (w64 ((w64 (am * p0.W)) + ao))),(10,65,bc),(11,66,.bool ae),(12,67,iv p1),(13,68,iv (andI .i64 p1 8)),(14,69,.bool ((andI .i64 p1 8) != 0)),(15,70,.bool (ae != ((andI .i64 p1 8) != 0)))]) d S ?_
 refine node_by (A:=anc_symmetry_applied_0) 20 (by kernel_rfl) (by kernel_rfl) (by kernel_rfl) (by kernel_rfl) (by kernel_rfl) [0,1,2,3,4,5,6,7,8,9,10,11,12,13,14,15] (by kernel_rfl) (by decide) (by decide) (fF ?_ (fF ?_ (fF ?_ (fF ?_ (fF ?_ (fF ?_ (fF ?_ (fF ?_ (fF ?_ (fF ?_ (fF ?_ (fF ?_ (fF ?_ (fF ?_ (fF ?_ (fF ?_ (fN ?_ (aB 17 2 16 (by decide) (fE 16 (aB 19 0 16 (by decide) (trivial))))))))))))))))))))) [] (fun q hq=>by cases hq) (fun hY=>absurd (hY 16 (by decide)) (by decide))
 ·refine fJ [(7,_)] 0 [none] fun G a w S=>?_
  exact sField (b:=a7) (off:=0) 2 2 S (wN d) d d d d d (lb d) fun a S=>leafL ⟨d,S⟩
 ·refine fJ [(55,_)] 1 [some 0] fun G a w S=>?_
  exact sLoad1 2 (.slice a0 a8.length a2) S (wN d) d d d d d d (lb d) fun a S=>leafL ⟨d,S⟩
 ·refine fJ [(2,_)] 2 [none] fun G a w S=>?_
  exact sField (b:=b6) (off:=0) 2 2 S (wN d) d d d d d (lb d) fun a S=>leafL ⟨d,S⟩
 ·refine fJ [(57,_)] 3 [some 2] fun G a w S=>?_
  exact sLoad1 0 (.slice a9 p0.Bits.length aa) S (wN d) d d d d d d (lb d) fun a S=>leafL ⟨d,S⟩
 ·exact fM 4 none d d d d (.inl d) d d d
 ·refine fJ [(2,_)] 5 [none] fun G a w S=>?_
  exact sField (b:=b6) (off:=0) 0 0 S (wN d) d d d d d (lb d) fun a S=>leafL ⟨d,S⟩
 ·refine fJ [(60,_)] 6 [some 5] fun G a w S=>?_
  exact sLoad1 0 (iv p0.W) S (wN d) d d d d d d (lb d) fun a S=>leafL ⟨d,S⟩
 ·refine fJ [(59,_),(61,_)] 7 [some 4,some 6] fun G a w S=>?_
  exact sBin _ S (wN d) d d d (bMul _ _ _ _ am p0.W) d (lb d) fun a S=>leafL ⟨d,S⟩
 ·exact fM 8 none d d d d (.inl d) d d d
 ·refine fJ [(62,_),(63,_)] 9 [some 7,some 8] fun G a w S=>?_
  exact sBin _ S (wN d) d d d (bAdd _ _ _ _ (w64 (am * p0.W)) ao) d (lb d) fun a S=>leafL ⟨d,S⟩
 ·refine fJ [(58,_),(64,_)] 10 [some 3,some 9] fun G a w S=>?_
  exact sIdxV S (wN d) d d d bf d (lb d) fun a S=>leafL ⟨d,S⟩
 ·refine fJ [(65,_)] 11 [some 10] fun G a w S=>?_
  exact sLoadV1 (vq:=bc) 0 (.bool ae) S (wN d) d d d d d (lb d) fun a S=>leafL ⟨d,S⟩
 ·exact fM 12 none d d d d (.inl d) d d d
 ·refine fJ [(67,_)] 13 [some 12] fun G a w S=>?_
  exact sBin _ S (wN d) d d d (bAndK _ _ _ _ .i64 p1 8) d (lb d) fun a S=>leafL ⟨d,S⟩
 ·refine fJ [(68,_)] 14 [some 13] fun G a w S=>?_
  exact sBin _ S (wN d) d d d (bNe _ _ _ _ .i64 (andI .i64 p1 8) 0) d (lb d) fun a S=>leafL ⟨d,S⟩
 ·refine fJ [(66,_),(69,_)] 15 [some 11,some 14] fun G a w S=>?_
  exact sBin _ S (wN d) d d d (bNeB _ _ _ _ Try.underlying4 ae ((andI .i64 p1 8) != 0)) d (lb d) fun a S=>leafL ⟨d,S⟩
 refine ⟨_,[(70,.bool (ae != ((andI .i64 p1 8) != 0)))],d,(srcs_of [some 15] d d d),fun G a w S=>?_⟩
 refine sLit (r:=rB) (T:=4) (xs:=[ae != ((andI .i64 p1 8) != 0)]) [(0,.bool (ae != ((andI .i64 p1 8) != 0)))] 1 [.bool (ae != ((andI .i64 p1 8) != 0))] [.bool (ae != ((andI .i64 p1 8) != 0))] (.bool false) 1 S (wN d) d d Try.underlying22 d (by decide) (by decide) (by kernel_rfl) d (fun E1 w1 hE=>All.cons d (All.nil _ _ _)) d d (lb d) fun a w ay az S=>?_
 refine leafL ⟨d,_,_,.inl ⟨71,(.slice ay [ae != ((andI .i64 p1 8) != 0)].length az),[],d,S,hz_of d,?_⟩⟩
 refine node_by (A:=anc_symmetry_applied_0) 20 (by kernel_rfl) (by kernel_rfl) (by kernel_rfl) (by kernel_rfl) (by kernel_rfl) [16,0,1,2,3,4,5,6,7,8,9,10,11,12,13,14,15] (by kernel_rfl) (by decide) (by decide) (fF ?_ (fF ?_ (fD 16 (fD 16 (fD 16 (fD 16 (fD 16 (fD 16 (fD 16 (fD 16 (fD 16 (fD 16 (fD 16 (fD 16 (fD 16 (fD 16 (fY (fN ?_ (fE 17 (aB 19 0 17 (by decide) (trivial))))))))))))))))))))) [] (fun q hq=>by cases hq) (fun hY=>absurd (hY 17 (by decide)) (by decide))
 ·refine fJ [(7,_)] 1 [none] fun G a w S=>?_
  exact sField (b:=a7) (off:=0) 2 2 S (wN d) d d d d d (lb d) fun a S=>leafL ⟨d,S⟩
 ·refine fJ [(55,_)] 2 [some 1] fun G a w S=>?_
  exact sLoad1 3 (.slice a0 a8.length a2) S (wN d) d d d d d d (lb d) fun a S=>leafL ⟨d,S⟩
 refine ⟨_,[(56,.slice a0 a8.length a2),(71,.slice ay [ae != ((andI .i64 p1 8) != 0)].length az)],d,(srcs_of [some 2,some 0] d d d),fun G a w S=>?_⟩
 refine sApp (r:=rB) (T:=4) (xs:=a8) (ys:=[ae != ((andI .i64 p1 8) != 0)]) (v:=.slice a0 a8.length a2) (u:=.slice ay [ae != ((andI .i64 p1 8) != 0)].length az) 4 (.bool false) 1 S (wN d) d Try.underlying22 d d (by decide) d d d (src_R (T:=4) 0 S.mem d) bb d (lb d) fun a w ai aj S=>leafL ⟨d,_,_,.inl ⟨72,(.slice ai aH.length aj),[(18,73,.pointer (some ⟨a7,2,none⟩))],d,S,hz_of d,?_⟩⟩
 refine node_by (A:=anc_symmetry_applied_0) 20 (by kernel_rfl) (by kernel_rfl) (by kernel_rfl) (by kernel_rfl) (by kernel_rfl) [18,17,16,0,1,2,3,4,5,6,7,8,9,10,11,12,13,14,15] (by kernel_rfl) (by decide) (by decide) (fD 17 (fD 17 (fD 17 (fD 17 (fD 17 (fD 17 (fD 17 (fD 17 (fD 17 (fD 17 (fD 17 (fD 17 (fD 17 (fD 17 (fD 17 (fD 17 (fY (fY (fF ?_ (fN ?_ (trivial))))))))))))))))))))) [] (fun q hq=>by cases hq) (fun hY=>absurd (hY 19 (by decide)) (by decide))
 ·refine fJ [(7,_)] 0 [none] fun G a w S=>?_
  exact sField (b:=a7) (off:=0) 2 2 S (wN d) d d d d d (lb d) fun a S=>leafL ⟨d,S⟩
 refine ⟨_,[(72,.slice ai aH.length aj),(73,.pointer (some ⟨a7,2,none⟩))],d,(srcs_of [some 1,some 0] d d d),fun G a w S=>?_⟩
 refine sStore (p:=a7) (off:=2) (T:=24) (vs:=[iv o9,iv a4,.slice a0 a8.length a2]) (v:=.slice ai aH.length aj) 4 [.slice ai aH.length aj] S (wN d) d d d d d d d (by simp) d fun a w S=>leafL ⟨d,_,_,.inr ⟨[],d,S,hz_of d,?_⟩⟩
 refine node_by (A:=anc_symmetry_applied_0) 20 (by kernel_rfl) (by kernel_rfl) (by kernel_rfl) (by kernel_rfl) (by kernel_rfl) [18,17,16,0,1,2,3,4,5,6,7,8,9,10,11,12,13,14,15] (by kernel_rfl) (by decide) (by decide) (fD 19 (fD 19 (fD 19 (fD 19 (fD 19 (fD 19 (fD 19 (fD 19 (fD 19 (fD 19 (fD 19 (fD 19 (fD 19 (fD 19 (fD 19 (fD 19 (fY (fY (fD 19 (fY (trivial))))))))))))))))))))) [(1,iv p1),(2,.pointer (some ⟨b6,0,none⟩)),(4,.pointer (some ⟨b7,0,none⟩)),(5,iv o9),(7,.pointer (some ⟨a7,0,none⟩)),(8,iv ac),(24,iv a4),(25,iv ac),(28,iv o9),(29,iv ah)] (fin_of [none,none,none,none,none,none,none,none,none,none] d (by kernel_rfl) (by kernel_rfl)) (fun _ a w S=>?_)
 refine leafB (leafT (aV _ _ ?_))
 refine sRegion (sBin _ S (wN d) d d d (bAdd _ _ _ _ ah 1) d (lb d) fun a S=>sM S fun a S=>?_)
 exact lT (⟨(w64 (ah + 1),aH),(Option.some.inj h).symm,⟨ai,aj,S.fix [3,4,0,1] [3] (by decide) d d d⟩⟩)
noncomputable def F_symmetry_Apply (p0:api_Grid) (p1:Int):Option (api_Grid × Int):=
 (F_symmetry_check [p0]).bind fun a0=>
 if a0 != 0 then
  some ((api_Grid.mk 0 0 ([]:(List Bool))),a0)
 else
  (F_symmetry_is p1).bind fun a2=>
  if !a2 then
   some ((api_Grid.mk 0 0 ([]:(List Bool))),2)
  else
   (F_symmetry_applied p0 p1).bind fun a4=>
   some (a4,0)
def c_symmetry_Apply_val (r:(api_Grid × Int)) (x:Value):Value:=.tuple #[x,.int .i64 r.2]
def c_symmetry_Apply_D (r:(api_Grid × Int)) (x:Value):List Fact:=[fRep r_api_Grid x r.1]
theorem c_symmetry_Apply (E:Nat→Prop) (w0:World) (p0:api_Grid) (v0:Value) (p1:Int) (r:(api_Grid × Int)) (h:F_symmetry_Apply p0 p1=some r) (S:St0 E [] w0 w0 [] [fRep r_api_Grid (v0) p0]) :
 Calls Try.prog 33 #[v0,iv p1] w0 (Ret (X:=Value) E [] w0 (c_symmetry_Apply_val r) (fun _=>[]) (c_symmetry_Apply_D r)):=by
 unfold F_symmetry_Apply at h
 obtain ⟨u1,rfl,ap⟩:=S.know (i:=0) (e:=fRep r_api_Grid (v0) p0) d
 have S:=S.learn (fRep (rL rB) u1 p0.Bits) ap
 obtain ⟨a2,a4,_,rfl,_⟩:=ap
 refine sEnter (args:=[.agg #[iv p0.W,iv p0.H,.slice a2 p0.Bits.length a4],iv p1]) 21 Try.func33 d d (by simp) S (fun a S=>?_)
 refine sSeq (fun K5 aq=>sRegion (sBox (v:=.agg #[iv p0.W,iv p0.H,.slice a2 p0.Bits.length a4]) S (wN d) d d [iv p0.W,iv p0.H,.slice a2 p0.Bits.length a4] d d (lb d) fun a b6 w S=>sAlloc (.agg #[iv 0,iv 0,.slice none 0 0]) S (wN d) d d [iv 0,iv 0,.slice none 0 0] d d (lb d) fun a b7 w S=>sN S fun a S=>?_))
 refine lT (aq _ _ (sSeq (fun K8 ar=>sSeq (fun K9 au=>sRegion (sLoadN (p:=b6) (off:=0) (T:=24) (vs:=[iv p0.W,iv p0.H,.slice a2 p0.Bits.length a4]) 1 [iv p0.W,iv p0.H,.slice a2 p0.Bits.length a4] S (wN d) d d d d d d d (lb d) fun a S=>sLit (r:=r_api_Grid) (T:=24) (xs:=[p0]) [(0,.agg #[iv p0.W,iv p0.H,.slice a2 p0.Bits.length a4])] 1 [.agg #[iv p0.W,iv p0.H,.slice a2 p0.Bits.length a4]] [iv p0.W,iv p0.H,.slice a2 p0.Bits.length a4] (.agg #[iv 0,iv 0,.slice none 0 0]) 40 S (wN d) d d Try.underlying141 d (by decide) (by decide) (by kernel_rfl) d (fun E1 w1 hE=>All.cons (r_api_Grid.mono hE (S.mem.know (i:=1) (e:=fRep r_api_Grid (.agg #[iv p0.W,iv p0.H,.slice a2 p0.Bits.length a4]) p0) d)) (All.nil _ _ _)) d d (lb d) fun a w a7 a8 S=>?_)))))
 obtain ⟨ab,ae,h⟩:=bS h
 have S1:=S.mem
 have S1:=S1.shutR (r:=r_api_Grid) (T:=24) (v:=.slice a7 [p0].length a8) (xs:=[p0]) 0 d
 refine sCq [.slice a7 [p0].length a8] (iv ab) S callee60 (S1.quiet [0] d) (fun E1 w1 S1=>c_symmetry_check E1 w1 [p0] (.slice a7 [p0].length a8) ab ae S1) fun a w S=>?_
 refine sN S fun a S=>?_
 refine lT (au _ _ (sSeq (fun ax af=>sRegion (sM S fun a S=>?_))))
 refine sBin _ S (wN d) d d d (bNe _ _ _ _ .i64 ab 0) d (lb d) fun a S=>lT (af _ _ ?_)
 rcases iS h with ⟨a9,h⟩ | ⟨a9,h⟩
 ·refine sCondT S d a9 (sSeq (fun ay ag=>sRegion (sBuild [] [iv 0,iv 0,.slice none 0 0] S (wN d) d d d d (lb d) fun a S=>sM S fun a S=>?_)))
  refine sStore (p:=b7) (off:=0) (T:=24) (vs:=[iv 0,iv 0,.slice none 0 0]) (v:=.agg #[iv 0,iv 0,.slice none 0 0]) 1 [iv 0,iv 0,.slice none 0 0] S (wN d) d d d d d d d (by simp) d fun a w S=>sN S fun a S=>?_
  refine lT (ag _ _ ?_)
  obtain rfl:=tS h
  have S:=S.learn (fRep (rL rB) (.slice none 0 0) ([]:(List Bool))) (rL_nil _ _ _)
  have S:=S.learn (fRep r_api_Grid (.agg #[iv 0,iv 0,.slice none 0 0]) (api_Grid.mk 0 0 ([]:(List Bool)))) ⟨_,d,S.mem.know (i:=0) (e:=fRep (rL rB) (.slice none 0 0) ([]:(List Bool))) d⟩
  exact wp_ret (rThen (sRet (.tuple #[.agg #[iv 0,iv 0,.slice none 0 0],iv ab]) S (rsl2 d (rvN (c:=4) (t:=24) (T:=24) (p:=b7) 0 [iv 0,iv 0,.slice none 0 0] S d d d d) (rvT (t:=5) (v:=iv ab) S d)) ⟨(.agg #[iv 0,iv 0,.slice none 0 0]),d,S.mem.sel [] [0] (by decide) d d⟩))
 refine sCondF S d a9 (wp_skip (leafT (ar _ _ ?_)))
 refine sSeq (fun az ah=>sSeq (fun aA ai=>sRegion (sM S fun a S=>?_)))
 obtain ⟨aj,ak,h⟩:=bS h
 have S1:=S.mem
 refine sCq [iv p1] (.bool aj) S callee61 (S1.quiet [] d) (fun E1 w1 S1=>c_symmetry_is E1 w1 p1 aj ak S1) fun a w S=>?_
 refine sNot (b:=aj) S (wN d) d d d (lb d) fun a S=>lT (ai _ _ ?_)
 rcases iS h with ⟨aa,h⟩ | ⟨aa,h⟩
 ·refine sCondT S d aa (sSeq (fun aC al=>sRegion (sBuild [] [iv 0,iv 0,.slice none 0 0] S (wN d) d d d d (lb d) fun a S=>sStore (p:=b7) (off:=0) (T:=24) (vs:=[iv 0,iv 0,.slice none 0 0]) (v:=.agg #[iv 0,iv 0,.slice none 0 0]) 1 [iv 0,iv 0,.slice none 0 0] S (wN d) d d d d d d d (by simp) d fun a w S=>sN S fun a S=>?_)))
  refine lT (al _ _ ?_)
  obtain rfl:=tS h
  have S:=S.learn (fRep (rL rB) (.slice none 0 0) ([]:(List Bool))) (rL_nil _ _ _)
  have S:=S.learn (fRep r_api_Grid (.agg #[iv 0,iv 0,.slice none 0 0]) (api_Grid.mk 0 0 ([]:(List Bool)))) ⟨_,d,S.mem.know (i:=0) (e:=fRep (rL rB) (.slice none 0 0) ([]:(List Bool))) d⟩
  exact wp_ret (rThen (sRet (.tuple #[.agg #[iv 0,iv 0,.slice none 0 0],iv 2]) S (rsl2 d (rvN (c:=4) (t:=24) (T:=24) (p:=b7) 0 [iv 0,iv 0,.slice none 0 0] S d d d d) (rvT (t:=5) (v:=iv 2) S d)) ⟨(.agg #[iv 0,iv 0,.slice none 0 0]),d,S.mem.sel [] [0] (by decide) d d⟩))
 refine sCondF S d aa (wp_skip (leafT (ah _ _ ?_)))
 refine sSeq (fun aG am=>sRegion (sLoadN (p:=b6) (off:=0) (T:=24) (vs:=[iv p0.W,iv p0.H,.slice a2 p0.Bits.length a4]) 2 [iv p0.W,iv p0.H,.slice a2 p0.Bits.length a4] S (wN d) d d d d d d d (lb d) fun a S=>sM S fun a S=>?_))
 obtain ⟨a0,ao,h⟩:=bS h
 refine sCall (X:=Value) (f:=62) (vs:=[.agg #[iv p0.W,iv p0.H,.slice a2 p0.Bits.length a4],iv p1]) (val:=c_symmetry_applied_val a0) (B':=fun _=>[]) (D':=c_symmetry_applied_D a0) [] [eRow r_api_Grid 24 (.slice a7 [p0].length a8) [p0],eBox b7 24 [iv 0,iv 0,.slice none 0 0],eBox b6 24 [iv p0.W,iv p0.H,.slice a2 p0.Bits.length a4]] [fRep r_api_Grid (.agg #[iv p0.W,iv p0.H,.slice a2 p0.Bits.length a4]) p0] [0,1,2] [1] S (wN d) d callee62 d (by decide) d d (fun E1 w1 S1=>c_symmetry_applied E1 w1 p0 (.agg #[iv p0.W,iv p0.H,.slice a2 p0.Bits.length a4]) p1 a0 ao S1) d (lb d) fun av a w S=>?_
 obtain ⟨aw,rfl,ac⟩:=S.mem.know (i:=0) (e:=fRep r_api_Grid (av) a0) d
 have S:=S.learn (fRep (rL rB) aw a0.Bits) ac
 obtain ⟨a5,a6,_,rfl,_⟩:=ac
 refine sStore (p:=b7) (off:=0) (T:=24) (vs:=[iv 0,iv 0,.slice none 0 0]) (v:=.agg #[iv a0.W,iv a0.H,.slice a5 a0.Bits.length a6]) 1 [iv a0.W,iv a0.H,.slice a5 a0.Bits.length a6] S (wN d) d d d d d d d (by simp) d fun a w S=>sN S fun a S=>?_
 refine lT (am _ _ ?_)
 obtain rfl:=tS h
 exact wp_ret (sRet (.tuple #[.agg #[iv a0.W,iv a0.H,.slice a5 a0.Bits.length a6],iv 0]) S (rsl2 d (rvN (c:=4) (t:=24) (T:=24) (p:=b7) 0 [iv a0.W,iv a0.H,.slice a5 a0.Bits.length a6] S d d d d) (rvT (t:=5) (v:=iv 0) S d)) ⟨(.agg #[iv a0.W,iv a0.H,.slice a5 a0.Bits.length a6]),d,S.mem.sel [] [1] (by decide) d d⟩)
noncomputable def F_grid_around (p0:Int) (p1:Int):Option Int:=
 Option.bind (α:=Int) (
  (remI p0 p1).bind fun z6=>
  if decide (z6 < 0) then
   some (w64 (z6 + p1))
  else
   some z6) fun o2=>
 some o2
theorem c_grid_around (E:Nat→Prop) (w0:World) (p0:Int) (p1:Int) (r:Int) (h:F_grid_around p0 p1=some r) (S:St0 E [] w0 w0 [] []) :
 Calls Try.prog 63 #[iv p0,iv p1] w0 (Ret (X:=Unit) E [] w0 (fun _=>.int .i64 r) (fun _=>[]) (fun _=>[])):=by
 unfold F_grid_around at h
 refine sEnter (args:=[iv p0,iv p1]) 14 Try.func63 d d (by simp) S (fun a S=>?_)
 refine sSeq (fun K1 a4=>sRegion (sN S fun a S=>?_))
 refine lT (a4 _ _ ?_)
 obtain ⟨t3,h,g4⟩:=bS h
 refine sCut (fun a w=>∃ o2,o2=t3∧St [] E [] w0 14 a w [(0,iv o2)] [] []) ?_ (fun a w hI=>?_)
 rotate_left
 ·obtain ⟨o2,rfl,S⟩:=hI
  have h:=g4
  try dsimp only at h
  refine sSeq (fun a8 a0=>sRegion (sM S fun a S=>?_))
  refine sN S fun a S=>?_
  refine lT (a0 _ _ ?_)
  obtain rfl:=tS h
  exact wp_ret (sRet (iv o2) S (rsl1 d (rvT (t:=4) (v:=iv o2) S d)) ⟨(),d,S.mem.sel [] [] (by decide) d d⟩)
 refine sSeq (fun K5 a5=>sRegion (sM S fun a S=>?_))
 refine sM S fun a S=>?_
 obtain ⟨z6,a6,h⟩:=bS h
 refine sBin _ S (wN d) d d d (bRem _ _ _ _ (x:=p0) (y:=p1) a6) d (lb d) fun a S=>sN S fun a S=>?_
 refine lT (a5 _ _ (sSeq (fun K8 a7=>sRegion (sM S fun a S=>?_))))
 refine sBin _ S (wN d) d d d (bLt _ _ _ _ .i64 z6 0) d (lb d) fun a S=>lT (a7 _ _ ?_)
 rcases iS h with ⟨a2,h⟩ | ⟨a2,h⟩
 rotate_left
 ·refine sCondF S d a2 ?_
  exact wp_skip (leafT (⟨z6,Option.some.inj h,S.fix [] [] (by decide) d d d⟩))
 refine sCondT S d a2 (sRegion (sM S fun a S=>?_))
 refine sM S fun a S=>?_
 refine sBin _ S (wN d) d d d (bAdd _ _ _ _ z6 p1) d (lb d) fun a S=>sN S fun a S=>?_
 exact lT (⟨w64 (z6 + p1),Option.some.inj h,S.fix [] [] (by decide) d d d⟩)
def anc_grid_Shift_1_s0_0:List (List Nat):=[[],[0],[],[],[2,3],[],[5],[2,3,4,5,6],[],[8],[2,3,4,5,6,7,8,9],[],[],[11,12],[],[14],[2,3,4,5,6,7,11,12,13,14,15],[2,3,4,5,6,7,8,9,10,11,12,13,14,15,16],[0,1,2,3,4,5,6,7,8,9,10,11,12,13,14,15,16,17],[0,1,2,3,4,5,6,7,8,9,10,11,12,13,14,15,16,17,18],[0,1,2,3,4,5,6,7,8,9,10,11,12,13,14,15,16,17,18,19]]
noncomputable def F_grid_Shift_1_s0 (p0:Int) (p1:Int) (p2:api_Grid) (p3:Int) (p4:Int):Option Bool:=
 (F_grid_around (w64 (p1 - p3)) p2.H).bind fun a0=>
 (F_grid_around (w64 (p0 - p4)) p2.W).bind fun a2=>
 (idxO p2.Bits (w64 ((w64 (a0 * p2.W)) + a2))).bind fun a4=>
 some a4
theorem c_grid_Shift_1_s0 (E:Nat→Prop) (w0:World) (p0:Int) (p1:Int) (p2:api_Grid) (v2:Value) (p3:Int) (v3:Value) (p4:Int) (v4:Value) (r:Bool) (h:F_grid_Shift_1_s0 p0 p1 p2 p3 p4=some r) (S:St0 E [] w0 w0 [] [fPtr r_api_Grid (v2) p2,fPtr (rI .i64) (v3) p3,fPtr (rI .i64) (v4) p4]) :
 Calls Try.prog 65 #[iv p0,iv p1,v2,v3,v4] w0 (Ret (X:=Unit) E [] w0 (fun _=>.bool r) (fun _=>[]) (fun _=>[])):=by
 unfold F_grid_Shift_1_s0 at h
 refine sEnter (args:=[iv p0,iv p1,v2,v3,v4]) 28 Try.func65 d d (by simp) S (fun a S=>?_)
 refine sSeq (fun K1 au=>sRegion (sN S fun a S=>?_))
 refine lT (au _ _ (sSeq (fun K2 av=>?_)))
 obtain ⟨a2,a7,h⟩:=bS h
 obtain ⟨a6,a8,h⟩:=bS h
 obtain ⟨a0,a9,h⟩:=bS h
 obtain ⟨aa,ab,S⟩:=pFld (P:=Try.prog) (r:=r_api_Grid) (s2:=(rL rB)) (g:=(·.Bits)) (q:=v2) (z:=p2) 24 2 0 2 S d d comp_api_Grid_Bits
 obtain ⟨aw,S⟩:=pLoad (r:=(rL rB)) (q:=aa) (x:=p2.Bits) 0 S d
 obtain ⟨a4,a5,_,rfl,_⟩:=S.mem.know (i:=1) (e:=fRep (rL rB) (aw) p2.Bits) d
 obtain ⟨al,S⟩:=pLoad (r:=(rI .i64)) (q:=v3) (x:=p3) 4 S d
 obtain rfl:al=iv p3:=S.mem.know (i:=1) (e:=fRep (rI .i64) (al) p3) d
 obtain ⟨ac,ae,S⟩:=pFld (P:=Try.prog) (r:=r_api_Grid) (s2:=(rI .i64)) (g:=(·.H)) (q:=v2) (z:=p2) 24 1 5 1 S d d comp_api_Grid_H
 obtain ⟨am,S⟩:=pLoad (r:=(rI .i64)) (q:=ac) (x:=p2.H) 0 S d
 obtain rfl:am=iv p2.H:=S.mem.know (i:=1) (e:=fRep (rI .i64) (am) p2.H) d
 obtain ⟨af,ag,S⟩:=pFld (P:=Try.prog) (r:=r_api_Grid) (s2:=(rI .i64)) (g:=(·.W)) (q:=v2) (z:=p2) 24 0 8 0 S d d comp_api_Grid_W
 obtain ⟨ao,S⟩:=pLoad (r:=(rI .i64)) (q:=af) (x:=p2.W) 0 S d
 obtain rfl:ao=iv p2.W:=S.mem.know (i:=1) (e:=fRep (rI .i64) (ao) p2.W) d
 obtain ⟨ap,S⟩:=pLoad (r:=(rI .i64)) (q:=v4) (x:=p4) 13 S d
 obtain rfl:ap=iv p4:=S.mem.know (i:=1) (e:=fRep (rI .i64) (ap) p4) d
 obtain ⟨ah,ai,S⟩:=pFld (P:=Try.prog) (r:=r_api_Grid) (s2:=(rI .i64)) (g:=(·.W)) (q:=v2) (z:=p2) 24 0 13 0 S d d comp_api_Grid_W
 obtain ⟨aq,S⟩:=pLoad (r:=(rI .i64)) (q:=ah) (x:=p2.W) 0 S d
 obtain rfl:aq=iv p2.W:=S.mem.know (i:=1) (e:=fRep (rI .i64) (aq) p2.W) d
 obtain ⟨aj,ak,S⟩:=pIdx (P:=Try.prog) (r:=rB) (v:=.slice a4 p2.Bits.length a5) (xs:=p2.Bits) (j:=w64 ((w64 (a2 * p2.W)) + a6)) 22 4 14 S Try.underlying22 d d a9
 obtain ⟨ar,S⟩:=pLoad (r:=rB) (q:=aj) (x:=a0) 0 S d
 obtain rfl:ar=.bool a0:=S.mem.know (i:=1) (e:=fRep rB (ar) a0) d
 refine sDraw (nf:=[]) (W:=[(0,8,aa),(1,9,.slice a4 p2.Bits.length a5),(2,10,iv p1),(3,11,iv p3),(4,12,iv (w64 (p1 - p3))),(5,13,ac),(6,14,iv p2.H),(7,15,iv a2),(8,16,af),(9,17,iv p2.W),(10,18,iv (w64 (a2 * p2.W))),(11,19,iv p0),(12,20,iv p4),(13,21,iv (w64 (p0 - p4))),(14,22,ah),(15,23,iv p2.W),(16,24,iv a6),(17,25,iv (w64 ((w64 (a2 * p2.W)) + a6))),(18,26,aj),(19,27,.bool a0),(20,7,.bool a0)]) d S ?_
 refine node_by (A:=anc_grid_Shift_1_s0_0) 21 (by kernel_rfl) (by kernel_rfl) (by kernel_rfl) (by kernel_rfl) (by kernel_rfl) [0,1,2,3,4,5,6,7,8,9,10,11,12,13,14,15,16,17,18,19,20] (by kernel_rfl) (by decide) (by decide) (fF ?_ (fF ?_ (fF ?_ (fF ?_ (fF ?_ (fF ?_ (fF ?_ (fF ?_ (fF ?_ (fF ?_ (fF ?_ (fF ?_ (fF ?_ (fF ?_ (fF ?_ (fF ?_ (fF ?_ (fF ?_ (fF ?_ (fF ?_ (fF ?_ (trivial)))))))))))))))))))))) [(7,.bool a0)] (fin_of [some 20] d (by kernel_rfl) (by kernel_rfl)) (fun _ a w S=>?_)
 ·refine fJ [(2,_)] 0 [none] fun G a w S=>?_
  exact sFldV (q:=v2) S (wN d) d d ab d (lb d) fun a S=>leafL ⟨d,S⟩
 ·refine fJ [(8,_)] 1 [some 0] fun G a w S=>?_
  exact sLoadV1 (vq:=aa) 16 (.slice a4 p2.Bits.length a5) S (wN d) d d d d d (lb d) fun a S=>leafL ⟨d,S⟩
 ·exact fM 2 none d d d d (.inl d) d d d
 ·refine fJ [(3,_)] 3 [none] fun G a w S=>?_
  exact sLoadV1 (vq:=v3) 14 (iv p3) S (wN d) d d d d d (lb d) fun a S=>leafL ⟨d,S⟩
 ·refine fJ [(10,_),(11,_)] 4 [some 2,some 3] fun G a w S=>?_
  exact sBin _ S (wN d) d d d (bSub _ _ _ _ p1 p3) d (lb d) fun a S=>leafL ⟨d,S⟩
 ·refine fJ [(2,_)] 5 [none] fun G a w S=>?_
  exact sFldV (q:=v2) S (wN d) d d ae d (lb d) fun a S=>leafL ⟨d,S⟩
 ·refine fJ [(13,_)] 6 [some 5] fun G a w S=>?_
  exact sLoadV1 (vq:=ac) 11 (iv p2.H) S (wN d) d d d d d (lb d) fun a S=>leafL ⟨d,S⟩
 ·refine fJ [(12,_),(14,_)] 7 [some 4,some 6] fun G a w S=>?_
  have S1:=S.mem
  refine sCq [iv (w64 (p1 - p3)),iv p2.H] (iv a2) S callee63 (S1.quiet [] d) (fun E1 w1 S1=>c_grid_around E1 w1 (w64 (p1 - p3)) p2.H a2 a7 S1) fun a w S=>?_
  exact leafL ⟨d,S⟩
 ·refine fJ [(2,_)] 8 [none] fun G a w S=>?_
  exact sFldV (q:=v2) S (wN d) d d ag d (lb d) fun a S=>leafL ⟨d,S⟩
 ·refine fJ [(16,_)] 9 [some 8] fun G a w S=>?_
  exact sLoadV1 (vq:=af) 8 (iv p2.W) S (wN d) d d d d d (lb d) fun a S=>leafL ⟨d,S⟩
 ·refine fJ [(15,_),(17,_)] 10 [some 7,some 9] fun G a w S=>?_
  exact sBin _ S (wN d) d d d (bMul _ _ _ _ a2 p2.W) d (lb d) fun a S=>leafL ⟨d,S⟩
 ·exact fM 11 none d d d d (.inl d) d d d
 ·refine fJ [(4,_)] 12 [none] fun G a w S=>?_
  exact sLoadV1 (vq:=v4) 6 (iv p4) S (wN d) d d d d d (lb d) fun a S=>leafL ⟨d,S⟩
 ·refine fJ [(19,_),(20,_)] 13 [some 11,some 12] fun G a w S=>?_
  exact sBin _ S (wN d) d d d (bSub _ _ _ _ p0 p4) d (lb d) fun a S=>leafL ⟨d,S⟩
 ·refine fJ [(2,_)] 14 [none] fun G a w S=>?_
  exact sFldV (q:=v2) S (wN d) d d ai d (lb d) fun a S=>leafL ⟨d,S⟩
 ·refine fJ [(22,_)] 15 [some 14] fun G a w S=>?_
  exact sLoadV1 (vq:=ah) 3 (iv p2.W) S (wN d) d d d d d (lb d) fun a S=>leafL ⟨d,S⟩
 ·refine fJ [(21,_),(23,_)] 16 [some 13,some 15] fun G a w S=>?_
  have S1:=S.mem
  refine sCq [iv (w64 (p0 - p4)),iv p2.W] (iv a6) S callee63 (S1.quiet [] d) (fun E1 w1 S1=>c_grid_around E1 w1 (w64 (p0 - p4)) p2.W a6 a8 S1) fun a w S=>?_
  exact leafL ⟨d,S⟩
 ·refine fJ [(18,_),(24,_)] 17 [some 10,some 16] fun G a w S=>?_
  exact sBin _ S (wN d) d d d (bAdd _ _ _ _ (w64 (a2 * p2.W)) a6) d (lb d) fun a S=>leafL ⟨d,S⟩
 ·refine fJ [(9,_),(25,_)] 18 [some 1,some 17] fun G a w S=>?_
  exact sIdxV S (wN d) d d d ak d (lb d) fun a S=>leafL ⟨d,S⟩
 ·refine fJ [(26,_)] 19 [some 18] fun G a w S=>?_
  exact sLoadV1 (vq:=aj) 0 (.bool a0) S (wN d) d d d d d (lb d) fun a S=>leafL ⟨d,S⟩
 ·exact fM 20 (some 19) d d d d (.inr d) d d d
 refine leafT (av _ _ ?_)
 obtain rfl:=tS h
 exact wp_ret (sRet (.bool a0) S (rsl1 d (rvT (t:=7) (v:=.bool a0) S d)) ⟨(),d,S.mem.sel [] [] (by decide) d d⟩)
def anc_grid_build_s0_0:List (List Nat):=[[],[0],[],[],[],[2,3,4],[2,3,4,5],[0,1,2,3,4,5,6],[0,1,2,3,4,5,6,7],[0,1,2,3,4,5,6,7,8]]
noncomputable def grid_build_s0_l1 (p0:Int) (a4:Int) (p2:api_Grid) (p3:Int) (p4:Int):(Int × List Bool)→Option ((Int × List Bool) ⊕ List Bool):=fun s0=>match s0 with
 | (a0,a2)=>
  if decide (a0 < p0) then
   (F_grid_Shift_1_s0 a0 a4 p2 p3 p4).bind fun a5=>
   (appO a2 [a5]).bind fun a6=>
   some (.inl (w64 (a0 + 1),a6))
  else
   some (.inr a2)
noncomputable def grid_build_s0_l2 (p1:Int) (p0:Int) (p2:api_Grid) (p3:Int) (p4:Int):(Int × List Bool)→Option ((Int × List Bool) ⊕ List Bool):=fun s0=>match s0 with
 | (a0,a2)=>
  if decide (a0 < p1) then
   Option.bind (α:=List Bool) (
    (whileO (grid_build_s0_l1 p0 a0 p2 p3 p4) (0,a2)).bind fun a4=>
     some a4) fun a5=>
   some (.inl (w64 (a0 + 1),a5))
  else
   some (.inr a2)
noncomputable def F_grid_build_s0 (p0:Int) (p1:Int) (p2:api_Grid) (p3:Int) (p4:Int):Option api_Grid:=
 (capO (w64 (p0 * p1))).bind fun z6=>
 Option.bind (α:=List Bool) (
  (whileO (grid_build_s0_l2 p1 p0 p2 p3 p4) (0,([]:List Bool))).bind fun a0=>
   some a0) fun o9=>
 some (api_Grid.mk p0 p1 o9)
def c_grid_build_s0_val (r:api_Grid) (x:Value):Value:=x
def c_grid_build_s0_D (r:api_Grid) (x:Value):List Fact:=[fRep r_api_Grid x r]
theorem c_grid_build_s0 (E:Nat→Prop) (w0:World) (p0:Int) (p1:Int) (p2:api_Grid) (v2:Value) (p3:Int) (v3:Value) (p4:Int) (v4:Value) (r:api_Grid) (h:F_grid_build_s0 p0 p1 p2 p3 p4=some r) (S:St0 E [] w0 w0 [] [fPtr r_api_Grid (v2) p2,fPtr (rI .i64) (v3) p3,fPtr (rI .i64) (v4) p4]) :
 Calls Try.prog 64 #[iv p0,iv p1,.func (.func 65) #[] #[v2,v3,v4]] w0 (Ret (X:=Value) E [] w0 (c_grid_build_s0_val r) (fun _=>[]) (c_grid_build_s0_D r)):=by
 unfold F_grid_build_s0 at h
 refine sEnter (args:=[iv p0,iv p1,.func (.func 65) #[] #[v2,v3,v4]]) 37 Try.func64 d d (by simp) S (fun a S=>?_)
 refine sSeq (fun K1 aL=>sRegion (sAlloc (.agg #[iv 0,iv 0,.slice none 0 0]) S (wN d) d d [iv 0,iv 0,.slice none 0 0] d d (lb d) fun a b2 w S=>lT (aL _ _ (sSeq (fun K3 aM=>sRegion (sM S fun a S=>?_))))))
 refine sM S fun a S=>?_
 refine sM S fun a S=>?_
 refine sM S fun a S=>?_
 refine sBin _ S (wN d) d d d (bMul _ _ _ _ p0 p1) d (lb d) fun a S=>?_
 obtain ⟨z6,aO,h⟩:=bS h
 refine sMake0 rB (m:=w64 (p0 * p1)) (u:=z6) (.bool false) 1 S (wN d) d Try.underlying22 d (by decide) d d aO d (lb d) fun a w am ao S=>?_
 refine sBuild [(0,iv p0),(1,iv p1),(2,.slice am ([]:List Bool).length ao)] [iv p0,iv p1,.slice am ([]:List Bool).length ao] S (wN d) d d d d (lb d) fun a S=>sAlloc (.agg #[iv 0,iv 0,.slice none 0 0]) S (wN d) d d [iv 0,iv 0,.slice none 0 0] d d (lb d) fun a b8 w S=>sStore (p:=b8) (off:=0) (T:=24) (vs:=[iv 0,iv 0,.slice none 0 0]) (v:=.agg #[iv p0,iv p1,.slice am ([]:List Bool).length ao]) 0 [iv p0,iv p1,.slice am ([]:List Bool).length ao] S (wN d) d d d d d d d (by simp) d fun a w S=>lT (aM _ _ ?_)
 obtain ⟨aP,h,aQ⟩:=bS h
 refine sCut (fun a w=>∃ o9,o9=aP∧∃ a0,∃ a2,St [] E [] w0 37 a w [(6,.pointer (some ⟨b2,0,none⟩)),(7,.pointer (some ⟨b8,0,none⟩))] [eBox b2 24 [iv 0,iv 0,.slice none 0 0],eBox b8 24 [iv p0,iv p1,.slice a0 o9.length a2],eRow rB 4 (.slice a0 o9.length a2) o9] []) ?_ (fun a w hI=>?_)
 rotate_left
 ·obtain ⟨o9,rfl,a0,a2,S⟩:=hI
  have h:=aQ
  try dsimp only at h
  refine sSeq (fun aV ar=>sRegion (sLoadN (p:=b8) (off:=0) (T:=24) (vs:=[iv p0,iv p1,.slice a0 o9.length a2]) 1 [iv p0,iv p1,.slice a0 o9.length a2] S (wN d) d d d d d d d (lb d) fun a S=>sStore (p:=b2) (off:=0) (T:=24) (vs:=[iv 0,iv 0,.slice none 0 0]) (v:=.agg #[iv p0,iv p1,.slice a0 o9.length a2]) 0 [iv p0,iv p1,.slice a0 o9.length a2] S (wN d) d d d d d d d (by simp) d fun a w S=>lT (ar _ _ ?_)))
  obtain rfl:=tS h
  have S:=S.shutR (r:=rB) (T:=4) (v:=.slice a0 o9.length a2) (xs:=o9) 2 d
  have S:=S.learn (fRep r_api_Grid (.agg #[iv p0,iv p1,.slice a0 o9.length a2]) (api_Grid.mk p0 p1 o9)) ⟨_,d,S.mem.know (i:=0) (e:=fRep (rL rB) (.slice a0 o9.length a2) o9) d⟩
  exact wp_ret (sRet (.agg #[iv p0,iv p1,.slice a0 o9.length a2]) S (rsl1 d (rvN (c:=6) (t:=24) (T:=24) (p:=b2) 0 [iv p0,iv p1,.slice a0 o9.length a2] S d d d d)) ⟨(.agg #[iv p0,iv p1,.slice a0 o9.length a2]),d,S.mem.sel [] [0] (by decide) d d⟩)
 refine sSeq (fun aW au=>sRegion (sM S fun a S=>?_))
 refine sM S fun a S=>?_
 refine lT (au _ _ (wp_block ?_))
 obtain ⟨aX,hl,aR⟩:=bS h
 refine sLoop hl (fun s0 a w=>match s0 with | (a6,ap)=>∃ a9,∃ aa,St [] E [] w0 37 a w [(0,iv p0),(2,.func (.func 65) #[] #[v2,v3,v4]),(6,.pointer (some ⟨b2,0,none⟩)),(7,.pointer (some ⟨b8,0,none⟩)),(17,iv p1),(18,iv a6)] [eBox b2 24 [iv 0,iv 0,.slice none 0 0],eBox b8 24 [iv p0,iv p1,.slice a9 ap.length aa],eRow rB 4 (.slice a9 ap.length aa) ap] [fPtr r_api_Grid (v2) p2,fPtr (rI .i64) (v3) p3,fPtr (rI .i64) (v4) p4]) ⟨am,ao,S.fix [2,0,1] [0,1,2] (by decide) d d d⟩ ?_
 clear hl h
 intro s0 a w c0 hI h av
 obtain ⟨a6,ap⟩:=s0
 unfold grid_build_s0_l2 at h
 dsimp only at h hI
 obtain ⟨a9,aa,S⟩:=hI
 refine sSeq (fun aZ aw=>sRegion (sBin _ S (wN d) d d d (bLt _ _ _ _ .i64 a6 p1) d (lb d) fun a S=>lT (aw _ _ (sSeq (fun b0 ax=>?_)))))
 rcases iS h with ⟨ah,h⟩ | ⟨ah,h⟩
 rotate_left
 ·refine sCondF S d ah ?_
  obtain rfl:=tS h
  obtain rfl:=av _ d
  have h:=aR
  try dsimp only at h
  exact wp_exit (xThen (xThen (xHit (leafT (⟨ap,Option.some.inj h,a9,aa,S.fix [0,1,2] [] (by decide) d d d⟩)))))
 refine sCondT S d ah (wp_skip (leafT (ax _ _ ?_)))
 obtain ⟨aS,h,aT⟩:=bS h
 refine sCut (fun a w=>∃ al,al=aS∧∃ ae,∃ af,St [] E [] w0 37 a w [(0,iv p0),(2,.func (.func 65) #[] #[v2,v3,v4]),(6,.pointer (some ⟨b2,0,none⟩)),(7,.pointer (some ⟨b8,0,none⟩)),(17,iv p1),(18,iv a6)] [eBox b2 24 [iv 0,iv 0,.slice none 0 0],eBox b8 24 [iv p0,iv p1,.slice ae al.length af],eRow rB 4 (.slice ae al.length af) al] [fPtr r_api_Grid (v2) p2,fPtr (rI .i64) (v3) p3,fPtr (rI .i64) (v4) p4]) ?_ (fun a w hI=>?_)
 rotate_left
 ·obtain ⟨al,rfl,ae,af,S⟩:=hI
  have h:=aT
  try dsimp only at h
  refine sRegion (sBin _ S (wN d) d d d (bAdd _ _ _ _ a6 1) d (lb d) fun a S=>sM S fun a S=>?_)
  exact lT (⟨(w64 (a6 + 1),al),(Option.some.inj h).symm,⟨ae,af,S.fix [0,1,2] [0,1,2] (by decide) d d d⟩⟩)
 refine wp_block ?_
 refine sSeq (fun b1 ay=>sRegion (sM S fun a S=>?_))
 refine sN S fun a S=>?_
 refine lT (ay _ _ (sSeq (fun ba az=>sRegion (sM S fun a S=>?_))))
 refine sM S fun a S=>?_
 refine lT (az _ _ (wp_block ?_))
 obtain ⟨bb,hl,aU⟩:=bS h
 refine sLoop hl (fun s0 a w=>match s0 with | (ag,a7)=>∃ a4,∃ a5,St [] E [] w0 37 a w [(0,iv p0),(2,.func (.func 65) #[] #[v2,v3,v4]),(6,.pointer (some ⟨b2,0,none⟩)),(7,.pointer (some ⟨b8,0,none⟩)),(8,iv a6),(17,iv p1),(18,iv a6),(21,iv p0),(22,iv ag)] [eBox b2 24 [iv 0,iv 0,.slice none 0 0],eBox b8 24 [iv p0,iv p1,.slice a4 a7.length a5],eRow rB 4 (.slice a4 a7.length a5) a7] [fPtr r_api_Grid (v2) p2,fPtr (rI .i64) (v3) p3,fPtr (rI .i64) (v4) p4]) ⟨a9,aa,S.fix [0,1,2] [0,1,2] (by decide) d d d⟩ ?_
 clear hl h
 intro s0 a w c0 hI h aA
 obtain ⟨ag,a7⟩:=s0
 unfold grid_build_s0_l1 at h
 dsimp only at h hI
 obtain ⟨a4,a5,S⟩:=hI
 refine sSeq (fun bc aC=>sRegion (sBin _ S (wN d) d d d (bLt _ _ _ _ .i64 ag p0) d (lb d) fun a S=>lT (aC _ _ (sSeq (fun bf aG=>?_)))))
 rcases iS h with ⟨ai,h⟩ | ⟨ai,h⟩
 rotate_left
 ·refine sCondF S d ai ?_
  obtain rfl:=tS h
  obtain rfl:=aA _ d
  have h:=aU
  try dsimp only at h
  exact wp_exit (xThen (xThen (xHit (leafB (leafT (⟨a7,Option.some.inj h,a4,a5,S.fix [0,1,2] [0,1,2] (by decide) d d d⟩))))))
 refine sCondT S d ai (wp_skip (leafT (aG _ _ ?_)))
 refine sSeq (fun bg aH=>wp_block ?_)
 refine sSeq (fun bh aI=>sRegion (sM S fun a S=>?_))
 refine sN S fun a S=>?_
 refine lT (aI _ _ ?_)
 obtain ⟨a8,aJ,h⟩:=bS h
 obtain ⟨aq,aK,h⟩:=bS h
 refine sDraw (nf:=[6,7,9]) (W:=[(0,25,.pointer (some ⟨b8,2,none⟩)),(1,26,.slice a4 a7.length a5),(2,27,.func (.func 65) #[] #[v2,v3,v4]),(3,28,iv ag),(4,29,iv a6),(5,30,.bool a8)]) d S ?_
 refine node_by (A:=anc_grid_build_s0_0) 10 (by kernel_rfl) (by kernel_rfl) (by kernel_rfl) (by kernel_rfl) (by kernel_rfl) [0,1,2,3,4,5] (by kernel_rfl) (by decide) (by decide) (fF ?_ (fF ?_ (fF ?_ (fF ?_ (fF ?_ (fF ?_ (fN ?_ (aB 7 2 6 (by decide) (fE 6 (aB 9 0 6 (by decide) (trivial))))))))))) [] (fun q hq=>by cases hq) (fun hY=>absurd (hY 6 (by decide)) (by decide))
 ·refine fJ [(7,_)] 0 [none] fun G a w S=>?_
  exact sField (b:=b8) (off:=0) 2 2 S (wN d) d d d d d (lb d) fun a S=>leafL ⟨d,S⟩
 ·refine fJ [(25,_)] 1 [some 0] fun G a w S=>?_
  exact sLoad1 1 (.slice a4 a7.length a5) S (wN d) d d d d d d (lb d) fun a S=>leafL ⟨d,S⟩
 ·exact fM 2 none d d d d (.inl d) d d d
 ·exact fM 3 none d d d d (.inl d) d d d
 ·exact fM 4 none d d d d (.inl d) d d d
 ·refine fJ [(27,_),(28,_),(29,_)] 5 [some 2,some 3,some 4] fun G a w S=>?_
  have S1:=S.mem
  refine sCallVQ (X:=Unit) (g:=65) (vs:=[iv ag,iv a6]) (caps:=[v2,v3,v4]) (val:=fun _=>.bool a8) S (wN d) d d callee65 d (S1.quiet [0,1,2] d) (fun E1 w1 S1=>c_grid_Shift_1_s0 E1 w1 ag a6 p2 v2 p3 v3 p4 v4 a8 aJ S1) d (lb d) fun _ a w S=>?_
  exact leafL ⟨d,S⟩
 refine ⟨_,[(30,.bool a8)],d,(srcs_of [some 5] d d d),fun G a w S=>?_⟩
 refine sLit (r:=rB) (T:=4) (xs:=[a8]) [(0,.bool a8)] 1 [.bool a8] [.bool a8] (.bool false) 1 S (wN d) d d Try.underlying22 d (by decide) (by decide) (by kernel_rfl) d (fun E1 w1 hE=>All.cons d (All.nil _ _ _)) d d (lb d) fun a w aj ak S=>?_
 refine leafL ⟨d,_,_,.inl ⟨31,(.slice aj [a8].length ak),[],d,S,hz_of d,?_⟩⟩
 refine node_by (A:=anc_grid_build_s0_0) 10 (by kernel_rfl) (by kernel_rfl) (by kernel_rfl) (by kernel_rfl) (by kernel_rfl) [6,0,1,2,3,4,5] (by kernel_rfl) (by decide) (by decide) (fF ?_ (fF ?_ (fD 6 (fD 6 (fD 6 (fD 6 (fY (fN ?_ (fE 7 (aB 9 0 7 (by decide) (trivial))))))))))) [] (fun q hq=>by cases hq) (fun hY=>absurd (hY 7 (by decide)) (by decide))
 ·refine fJ [(7,_)] 1 [none] fun G a w S=>?_
  exact sField (b:=b8) (off:=0) 2 2 S (wN d) d d d d d (lb d) fun a S=>leafL ⟨d,S⟩
 ·refine fJ [(25,_)] 2 [some 1] fun G a w S=>?_
  exact sLoad1 2 (.slice a4 a7.length a5) S (wN d) d d d d d d (lb d) fun a S=>leafL ⟨d,S⟩
 refine ⟨_,[(26,.slice a4 a7.length a5),(31,.slice aj [a8].length ak)],d,(srcs_of [some 2,some 0] d d d),fun G a w S=>?_⟩
 refine sApp (r:=rB) (T:=4) (xs:=a7) (ys:=[a8]) (v:=.slice a4 a7.length a5) (u:=.slice aj [a8].length ak) 3 (.bool false) 1 S (wN d) d Try.underlying22 d d (by decide) d d d (src_R (T:=4) 0 S.mem d) aK d (lb d) fun a w ab ac S=>leafL ⟨d,_,_,.inl ⟨32,(.slice ab aq.length ac),[(8,33,.pointer (some ⟨b8,2,none⟩))],d,S,hz_of d,?_⟩⟩
 refine node_by (A:=anc_grid_build_s0_0) 10 (by kernel_rfl) (by kernel_rfl) (by kernel_rfl) (by kernel_rfl) (by kernel_rfl) [8,7,6,0,1,2,3,4,5] (by kernel_rfl) (by decide) (by decide) (fD 7 (fD 7 (fD 7 (fD 7 (fD 7 (fD 7 (fY (fY (fF ?_ (fN ?_ (trivial))))))))))) [] (fun q hq=>by cases hq) (fun hY=>absurd (hY 9 (by decide)) (by decide))
 ·refine fJ [(7,_)] 0 [none] fun G a w S=>?_
  exact sField (b:=b8) (off:=0) 2 2 S (wN d) d d d d d (lb d) fun a S=>leafL ⟨d,S⟩
 refine ⟨_,[(32,.slice ab aq.length ac),(33,.pointer (some ⟨b8,2,none⟩))],d,(srcs_of [some 1,some 0] d d d),fun G a w S=>?_⟩
 refine sStore (p:=b8) (off:=2) (T:=24) (vs:=[iv p0,iv p1,.slice a4 a7.length a5]) (v:=.slice ab aq.length ac) 3 [.slice ab aq.length ac] S (wN d) d d d d d d d (by simp) d fun a w S=>leafL ⟨d,_,_,.inr ⟨[],d,S,hz_of d,?_⟩⟩
 refine node_by (A:=anc_grid_build_s0_0) 10 (by kernel_rfl) (by kernel_rfl) (by kernel_rfl) (by kernel_rfl) (by kernel_rfl) [8,7,6,0,1,2,3,4,5] (by kernel_rfl) (by decide) (by decide) (fD 9 (fD 9 (fD 9 (fD 9 (fD 9 (fD 9 (fY (fY (fD 9 (fY (trivial))))))))))) [(0,iv p0),(2,.func (.func 65) #[] #[v2,v3,v4]),(6,.pointer (some ⟨b2,0,none⟩)),(7,.pointer (some ⟨b8,0,none⟩)),(8,iv a6),(17,iv p1),(18,iv a6),(21,iv p0),(22,iv ag)] (fin_of [none,none,none,none,none,none,none,none,none] d (by kernel_rfl) (by kernel_rfl)) (fun _ a w S=>?_)
 refine leafB (leafT (aH _ _ ?_))
 refine sRegion (sBin _ S (wN d) d d d (bAdd _ _ _ _ ag 1) d (lb d) fun a S=>sM S fun a S=>?_)
 exact lT (⟨(w64 (ag + 1),aq),(Option.some.inj h).symm,⟨ab,ac,S.fix [3,0,1] [0,1,2] (by decide) d d d⟩⟩)
def anc_grid_Shift_0:List (List Nat):=[[],[],[1],[0,1,2],[],[],[5],[0,1,2,3,4,5,6],[0,1,2,3,4,5,6,7],[0,1,2,3,4,5,6,7,8]]
noncomputable def F_grid_Shift (p0:api_Grid) (p1:Int) (p2:Int):Option (api_Grid × Int):=
 (F_grid_Check p0).bind fun a0=>
 if a0 != 0 then
  some ((api_Grid.mk 0 0 ([]:(List Bool))),a0)
 else
  (F_grid_around p1 p0.W).bind fun a2=>
  (F_grid_around p2 p0.H).bind fun a4=>
  (F_grid_build_s0 p0.W p0.H p0 a4 a2).bind fun a5=>
  some (a5,0)
def c_grid_Shift_val (r:(api_Grid × Int)) (x:Value):Value:=.tuple #[x,.int .i64 r.2]
def c_grid_Shift_D (r:(api_Grid × Int)) (x:Value):List Fact:=[fRep r_api_Grid x r.1]
theorem c_grid_Shift (E:Nat→Prop) (w0:World) (p0:api_Grid) (v0:Value) (p1:Int) (p2:Int) (r:(api_Grid × Int)) (h:F_grid_Shift p0 p1 p2=some r) (S:St0 E [] w0 w0 [] [fRep r_api_Grid (v0) p0]) :
 Calls Try.prog 34 #[v0,iv p1,iv p2] w0 (Ret (X:=Value) E [] w0 (c_grid_Shift_val r) (fun _=>[]) (c_grid_Shift_D r)):=by
 unfold F_grid_Shift at h
 obtain ⟨u1,rfl,ao⟩:=S.know (i:=0) (e:=fRep r_api_Grid (v0) p0) d
 have S:=S.learn (fRep (rL rB) u1 p0.Bits) ao
 obtain ⟨a7,a8,_,rfl,_⟩:=ao
 refine sEnter (args:=[.agg #[iv p0.W,iv p0.H,.slice a7 p0.Bits.length a8],iv p1,iv p2]) 29 Try.func34 d d (by simp) S (fun a S=>?_)
 refine sSeq (fun K5 ap=>sRegion (sBox (v:=.agg #[iv p0.W,iv p0.H,.slice a7 p0.Bits.length a8]) S (wN d) d d [iv p0.W,iv p0.H,.slice a7 p0.Bits.length a8] d d (lb d) fun a b6 w S=>sBox (v:=iv p1) S (wN d) d d [iv p1] d d (lb d) fun a b7 w S=>sBox (v:=iv p2) S (wN d) d d [iv p2] d d (lb d) fun a b8 w S=>sAlloc (.agg #[iv 0,iv 0,.slice none 0 0]) S (wN d) d d [iv 0,iv 0,.slice none 0 0] d d (lb d) fun a b9 w S=>sN S fun a S=>?_))
 refine lT (ap _ _ (sSeq (fun au ac=>sSeq (fun av ae=>sRegion (sLoadN (p:=b6) (off:=0) (T:=24) (vs:=[iv p0.W,iv p0.H,.slice a7 p0.Bits.length a8]) 3 [iv p0.W,iv p0.H,.slice a7 p0.Bits.length a8] S (wN d) d d d d d d d (lb d) fun a S=>?_)))))
 obtain ⟨aa,af,h⟩:=bS h
 have S1:=S.mem
 refine sCq [.agg #[iv p0.W,iv p0.H,.slice a7 p0.Bits.length a8]] (iv aa) S callee45 (S1.quiet [1] d) (fun E1 w1 S1=>c_grid_Check E1 w1 p0 (.agg #[iv p0.W,iv p0.H,.slice a7 p0.Bits.length a8]) aa af S1) fun a w S=>?_
 refine sN S fun a S=>?_
 refine lT (ae _ _ (sSeq (fun aw ag=>sRegion (sM S fun a S=>?_))))
 refine sBin _ S (wN d) d d d (bNe _ _ _ _ .i64 aa 0) d (lb d) fun a S=>lT (ag _ _ ?_)
 rcases iS h with ⟨a9,h⟩ | ⟨a9,h⟩
 ·refine sCondT S d a9 (sSeq (fun ax ah=>sRegion (sBuild [] [iv 0,iv 0,.slice none 0 0] S (wN d) d d d d (lb d) fun a S=>sM S fun a S=>?_)))
  refine sStore (p:=b9) (off:=0) (T:=24) (vs:=[iv 0,iv 0,.slice none 0 0]) (v:=.agg #[iv 0,iv 0,.slice none 0 0]) 0 [iv 0,iv 0,.slice none 0 0] S (wN d) d d d d d d d (by simp) d fun a w S=>sN S fun a S=>?_
  refine lT (ah _ _ ?_)
  obtain rfl:=tS h
  have S:=S.learn (fRep (rL rB) (.slice none 0 0) ([]:(List Bool))) (rL_nil _ _ _)
  have S:=S.learn (fRep r_api_Grid (.agg #[iv 0,iv 0,.slice none 0 0]) (api_Grid.mk 0 0 ([]:(List Bool)))) ⟨_,d,S.mem.know (i:=0) (e:=fRep (rL rB) (.slice none 0 0) ([]:(List Bool))) d⟩
  exact wp_ret (rThen (sRet (.tuple #[.agg #[iv 0,iv 0,.slice none 0 0],iv aa]) S (rsl2 d (rvN (c:=6) (t:=24) (T:=24) (p:=b9) 0 [iv 0,iv 0,.slice none 0 0] S d d d d) (rvT (t:=7) (v:=iv aa) S d)) ⟨(.agg #[iv 0,iv 0,.slice none 0 0]),d,S.mem.sel [] [0] (by decide) d d⟩))
 refine sCondF S d a9 (wp_skip (leafT (ac _ _ ?_)))
 refine sSeq (fun ay ai=>?_)
 obtain ⟨a2,aj,h⟩:=bS h
 obtain ⟨a4,ak,h⟩:=bS h
 refine sDraw (nf:=[8,9]) (W:=[(0,15,iv p1),(1,16,.pointer (some ⟨b6,0,none⟩)),(2,17,iv p0.W),(3,18,iv a2),(4,19,iv p2),(5,20,.pointer (some ⟨b6,1,none⟩)),(6,21,iv p0.H),(7,22,iv a4)]) d S ?_
 refine node_by (A:=anc_grid_Shift_0) 10 (by kernel_rfl) (by kernel_rfl) (by kernel_rfl) (by kernel_rfl) (by kernel_rfl) [0,1,2,3,4,5,6,7] (by kernel_rfl) (by decide) (by decide) (fF ?_ (fF ?_ (fF ?_ (fF ?_ (fF ?_ (fF ?_ (fF ?_ (fF ?_ (fN ?_ (aB 9 0 8 (by decide) (trivial))))))))))) [] (fun q hq=>by cases hq) (fun hY=>absurd (hY 8 (by decide)) (by decide))
 ·refine fJ [(4,_)] 0 [none] fun G a w S=>?_
  exact sLoad1 2 (iv p1) S (wN d) d d d d d d (lb d) fun a S=>leafL ⟨d,S⟩
 ·refine fJ [(3,_)] 1 [none] fun G a w S=>?_
  exact sField (b:=b6) (off:=0) 0 0 S (wN d) d d d d d (lb d) fun a S=>leafL ⟨d,S⟩
 ·refine fJ [(16,_)] 2 [some 1] fun G a w S=>?_
  exact sLoad1 3 (iv p0.W) S (wN d) d d d d d d (lb d) fun a S=>leafL ⟨d,S⟩
 ·refine fJ [(15,_),(17,_)] 3 [some 0,some 2] fun G a w S=>?_
  have S1:=S.mem
  refine sCq [iv p1,iv p0.W] (iv a2) S callee63 (S1.quiet [] d) (fun E1 w1 S1=>c_grid_around E1 w1 p1 p0.W a2 aj S1) fun a w S=>?_
  exact leafL ⟨d,S⟩
 ·refine fJ [(5,_)] 4 [none] fun G a w S=>?_
  exact sLoad1 1 (iv p2) S (wN d) d d d d d d (lb d) fun a S=>leafL ⟨d,S⟩
 ·refine fJ [(3,_)] 5 [none] fun G a w S=>?_
  exact sField (b:=b6) (off:=0) 1 1 S (wN d) d d d d d (lb d) fun a S=>leafL ⟨d,S⟩
 ·refine fJ [(20,_)] 6 [some 5] fun G a w S=>?_
  exact sLoad1 3 (iv p0.H) S (wN d) d d d d d d (lb d) fun a S=>leafL ⟨d,S⟩
 ·refine fJ [(19,_),(21,_)] 7 [some 4,some 6] fun G a w S=>?_
  have S1:=S.mem
  refine sCq [iv p2,iv p0.H] (iv a4) S callee63 (S1.quiet [] d) (fun E1 w1 S1=>c_grid_around E1 w1 p2 p0.H a4 ak S1) fun a w S=>?_
  exact leafL ⟨d,S⟩
 refine ⟨_,[(4,.pointer (some ⟨b7,0,none⟩)),(18,iv a2)],d,(srcs_of [none,some 3] d d d),fun G a w S=>?_⟩
 refine sStore (p:=b7) (off:=0) (T:=3) (vs:=[iv p1]) (v:=iv a2) 2 [iv a2] S (wN d) d d d d d d d (by simp) d fun a w S=>leafL ⟨d,_,_,.inr ⟨[],d,S,hz_of d,?_⟩⟩
 refine node_by (A:=anc_grid_Shift_0) 10 (by kernel_rfl) (by kernel_rfl) (by kernel_rfl) (by kernel_rfl) (by kernel_rfl) [0,1,2,3,4,5,6,7] (by kernel_rfl) (by decide) (by decide) (fD 8 (fD 8 (fD 8 (fD 8 (fD 8 (fD 8 (fD 8 (fD 8 (fY (fN ?_ (trivial))))))))))) [] (fun q hq=>by cases hq) (fun hY=>absurd (hY 9 (by decide)) (by decide))
 refine ⟨_,[(5,.pointer (some ⟨b8,0,none⟩)),(22,iv a4)],d,(srcs_of [none,some 7] d d d),fun G a w S=>?_⟩
 refine sStore (p:=b8) (off:=0) (T:=3) (vs:=[iv p2]) (v:=iv a4) 2 [iv a4] S (wN d) d d d d d d d (by simp) d fun a w S=>leafL ⟨d,_,_,.inr ⟨[],d,S,hz_of d,?_⟩⟩
 refine node_by (A:=anc_grid_Shift_0) 10 (by kernel_rfl) (by kernel_rfl) (by kernel_rfl) (by kernel_rfl) (by kernel_rfl) [0,1,2,3,4,5,6,7] (by kernel_rfl) (by decide) (by decide) (fD 9 (fD 9 (fD 9 (fD 9 (fD 9 (fD 9 (fD 9 (fD 9 (fY (fY (trivial))))))))))) [(3,.pointer (some ⟨b6,0,none⟩)),(4,.pointer (some ⟨b7,0,none⟩)),(5,.pointer (some ⟨b8,0,none⟩)),(6,.pointer (some ⟨b9,0,none⟩))] (fin_of [none,none,none,none] d (by kernel_rfl) (by kernel_rfl)) (fun _ a w S=>?_)
 refine leafT (ai _ _ ?_)
 refine sSeq (fun az al=>sRegion (sField (b:=b6) (off:=0) 0 0 S (wN d) d d d d d (lb d) fun a S=>sLoad1 3 (iv p0.W) S (wN d) d d d d d d (lb d) fun a S=>sField (b:=b6) (off:=0) 1 1 S (wN d) d d d d d (lb d) fun a S=>sLoad1 3 (iv p0.H) S (wN d) d d d d d d (lb d) fun a S=>sFunc (g:=65) (vs:=[.pointer (some ⟨b6,0,none⟩),.pointer (some ⟨b8,0,none⟩),.pointer (some ⟨b7,0,none⟩)]) S (wN d) d d d (lb d) fun a S=>?_))
 obtain ⟨a0,am,h⟩:=bS h
 have S:=S.shutB (r:=r_api_Grid) (T:=24) (b:=b6) (cs:=[iv p0.W,iv p0.H,.slice a7 p0.Bits.length a8]) 3 (.agg #[iv p0.W,iv p0.H,.slice a7 p0.Bits.length a8]) p0 d d (S.mem.know (i:=1) (e:=fRep r_api_Grid (.agg #[iv p0.W,iv p0.H,.slice a7 p0.Bits.length a8]) p0) d)
 have S:=S.shutB (r:=(rI .i64)) (T:=3) (b:=b8) (cs:=[iv a4]) 0 (iv a4) a4 d d (d)
 have S:=S.shutB (r:=(rI .i64)) (T:=3) (b:=b7) (cs:=[iv a2]) 0 (iv a2) a2 d d (d)
 refine sCall (X:=Value) (f:=64) (vs:=[iv p0.W,iv p0.H,.func (.func 65) #[] #[.pointer (some ⟨b6,0,none⟩),.pointer (some ⟨b8,0,none⟩),.pointer (some ⟨b7,0,none⟩)]]) (val:=c_grid_build_s0_val a0) (B':=fun _=>[]) (D':=c_grid_build_s0_D a0) [] [eBox b9 24 [iv 0,iv 0,.slice none 0 0]] [fPtr r_api_Grid (.pointer (some ⟨b6,0,none⟩)) p0,fPtr (rI .i64) (.pointer (some ⟨b8,0,none⟩)) a4,fPtr (rI .i64) (.pointer (some ⟨b7,0,none⟩)) a2] [0] [2,1,0] S (wN d) d callee64 d (by decide) d d (fun E1 w1 S1=>c_grid_build_s0 E1 w1 p0.W p0.H p0 (.pointer (some ⟨b6,0,none⟩)) a4 (.pointer (some ⟨b8,0,none⟩)) a2 (.pointer (some ⟨b7,0,none⟩)) a0 am S1) d (lb d) fun aq a w S=>?_
 obtain ⟨ar,rfl,ab⟩:=S.mem.know (i:=0) (e:=fRep r_api_Grid (aq) a0) d
 have S:=S.learn (fRep (rL rB) ar a0.Bits) ab
 obtain ⟨a5,a6,_,rfl,_⟩:=ab
 refine sStore (p:=b9) (off:=0) (T:=24) (vs:=[iv 0,iv 0,.slice none 0 0]) (v:=.agg #[iv a0.W,iv a0.H,.slice a5 a0.Bits.length a6]) 0 [iv a0.W,iv a0.H,.slice a5 a0.Bits.length a6] S (wN d) d d d d d d d (by simp) d fun a w S=>sN S fun a S=>?_
 refine lT (al _ _ ?_)
 obtain rfl:=tS h
 exact wp_ret (sRet (.tuple #[.agg #[iv a0.W,iv a0.H,.slice a5 a0.Bits.length a6],iv 0]) S (rsl2 d (rvN (c:=6) (t:=24) (T:=24) (p:=b9) 0 [iv a0.W,iv a0.H,.slice a5 a0.Bits.length a6] S d d d d) (rvT (t:=7) (v:=iv 0) S d)) ⟨(.agg #[iv a0.W,iv a0.H,.slice a5 a0.Bits.length a6]),d,S.mem.sel [] [1] (by decide) d d⟩)
noncomputable def compare_ways_1_l1 {σ τ:Type} (p1:api_Grid) (a4:(api_Grid × Int)) (a2:Int) (B:σ→(compare_way × api_Grid)→Option (σ ⊕ τ)) (s6:Int):(Int × σ)→Option ((Int × σ) ⊕ ((σ ⊕ τ) ⊕ (σ))):=fun s0=>match s0 with
 | (a0,gz54)=>
  if decide (a0 < p1.W) then
   (F_grid_Shift a4.1 a0 a2).bind fun a5=>
   (B gz54 ((compare_way.mk s6 (api_Point.mk a0 a2)),a5.1)).bind fun a6=>
   match a6 with
   | .inl gz82=>
    some (.inl (w64 (a0 + 1),gz82))
   | .inr tz83=>
    some (.inr (.inl (.inr tz83)))
  else
   some (.inr (.inr gz54))
noncomputable def compare_ways_1_l2 {σ τ:Type} (p1:api_Grid) (a2:(api_Grid × Int)) (B:σ→(compare_way × api_Grid)→Option (σ ⊕ τ)) (s6:Int):(Int × σ)→Option ((Int × σ) ⊕ ((σ ⊕ τ) ⊕ (σ))):=fun s0=>match s0 with
 | (a0,gz37)=>
  if decide (a0 < p1.H) then
   Option.bind (α:=σ ⊕ (σ ⊕ τ)) (
    (whileO (compare_ways_1_l1 p1 a2 a0 B s6) (0,gz37)).bind fun z0=>match z0 with
     | .inl z=>
      some (.inr z)
     | .inr gz58=>
      some (.inl gz58)) fun z0=>match z0 with
    | .inl gz45=>
     some (.inl (w64 (a0 + 1),gz45))
    | .inr z=>
     some (.inr (.inl z))
  else
   some (.inr (.inr gz37))
noncomputable def compare_ways_1_l3 {σ τ:Type} (x3:Int) (p1:api_Grid) (B:σ→(compare_way × api_Grid)→Option (σ ⊕ τ)):(Int × σ)→Option ((Int × σ) ⊕ ((σ ⊕ τ) ⊕ (σ))):=fun s0=>match s0 with
 | (s6,gz7)=>
  if decide (s6 ≤ x3) then
   Option.bind (α:=σ ⊕ (σ ⊕ τ)) (
    (F_symmetry_Apply p1 s6).bind fun a0=>
    (whileO (compare_ways_1_l2 p1 a0 B s6) (0,gz7)).bind fun z0=>match z0 with
     | .inl z=>
      some (.inr z)
     | .inr gz41=>
      some (.inl gz41)) fun z0=>match z0 with
    | .inl gz15=>
     some (.inl (w64 (s6 + 1),gz15))
    | .inr z=>
     some (.inr (.inl z))
  else
   some (.inr (.inr gz7))
noncomputable def I_compare_ways_1 (p0:Int) (p1:api_Grid) (σ τ:Type) (B:σ→(compare_way × api_Grid)→Option (σ ⊕ τ)) (gz0:σ):Option (σ ⊕ τ):=
 (idxO ([0,3,7,15]:List Int) p0).bind fun x3=>
 (whileO (compare_ways_1_l3 x3 p1 B) (0,gz0)).bind fun z0=>match z0 with
  | .inl z=>
   some z
  | .inr gz11=>
   some (.inl gz11)
theorem it_compare_ways_1 (p0:Int) (v0:Value) (p1:api_Grid) (v1:Value):SeqF Try.prog 81 #[v0,v1] (fA2 r_compare_way r_api_Grid) (I_compare_ways_1 p0 p1) [fPtr (rI .i64) (v0) p0,fPtr r_api_Grid (v1) p1]:=by
 refine seqF_of (lb:=[v0,v1]) (fun σ τ B gz0 r h l J Jx E w0 hC S hJ=>?_)
 unfold I_compare_ways_1 at h
 refine sEnterI (args:=[.func (.yield l) #[] #[],v0,v1]) 54 Try.func81 d d (by simp) S (fun a S=>?_)
 refine sSeq (fun K1 b1=>sRegion (sBuild [(0,iv 0),(1,iv 3),(2,iv 7),(3,iv 15)] [iv 0,iv 3,iv 7,iv 15] S (wN d) d d d d (lb d) fun a S=>?_))
 obtain ⟨u2,S⟩:=pLoad (r:=(rI .i64)) (q:=v0) (x:=p0) 0 S d
 obtain rfl:u2=iv p0:=S.mem.know (i:=1) (e:=fRep (rI .i64) (u2) p0) d
 refine sLoadV1 (vq:=v0) 0 (iv p0) S (wN d) d d d d d (lb d) fun a S=>?_
 obtain ⟨x3,ba,h⟩:=bS h
 refine sIndexA (g:=fun z=>.int .i64 z) (xs:=([0,3,7,15]:List Int)) (j:=p0) (k:=.i64) 4 [iv 0,iv 3,iv 7,iv 15] S (wN d) d Try.underlying129 d d d d d d ba d (lb d) fun a S=>sN S fun a S=>?_
 refine lT (b1 _ _ (sSeq (fun K5 bb=>sRegion (sN S fun a S=>?_))))
 refine lT (bb _ _ (wp_block ?_))
 obtain ⟨bo,hl,g9⟩:=bS h
 refine sLoop hl (fun s0 a w=>match s0 with | (s6,gz7)=>∃ E w0,J gz7 E w0∧St [] E [] w0 54 a w [(0,.func (.yield l) #[] #[]),(2,v1),(4,iv x3),(5,iv s6)] [] [fPtr r_api_Grid (v1) p1]) ⟨_,_,hJ,S.fix [] [3] (by decide) d d d⟩ ?_
 clear hl h
 intro s0 a w c0 hI h aR
 obtain ⟨s6,gz7⟩:=s0
 unfold compare_ways_1_l3 at h
 dsimp only at h hI
 obtain ⟨E,w0,hJ,S⟩:=hI
 refine sSeq (fun bp ar=>sSeq (fun bq au=>sRegion (sM S fun a S=>?_)))
 refine sM S fun a S=>?_
 refine sBin _ S (wN d) d d d (bLe _ _ _ _ .i64 s6 x3) d (lb d) fun a S=>lT (au _ _ ?_)
 rcases iS h with ⟨ag,h⟩ | ⟨ag,h⟩
 rotate_left
 ·refine sCondF S d ag ?_
  obtain rfl:=tS h
  obtain rfl:=aR _ d
  have h:=g9
  try dsimp only at h
  exact wp_exit (xThen (xThen (xHit (sEnd (.tuple #[]) S (res0 d) (sGoI S hC hJ (Option.some.inj h) _)))))
 refine sCondT S d ag (wp_skip (leafT (ar _ _ ?_)))
 obtain ⟨bc,h,aS⟩:=bS h
 refine sCut (fun a w=>∃ gz15,.inl gz15=bc∧∃ E w0,J gz15 E w0∧St [] E [] w0 54 a w [(0,.func (.yield l) #[] #[]),(2,v1),(4,iv x3),(5,iv s6)] [] [fPtr r_api_Grid (v1) p1]) ?_ (fun a w hI=>?_)
 rotate_left
 ·obtain ⟨gz15,rfl,E,w0,hJ,S⟩:=hI
  have h:=aS
  try dsimp only at h
  refine sRegion (sM S fun a S=>?_)
  refine sBin _ S (wN d) d d d (bAdd _ _ _ _ s6 1) d (lb d) fun a S=>sN S fun a S=>?_
  exact lT (⟨(w64 (s6 + 1),gz15),(Option.some.inj h).symm,⟨_,_,hJ,S.fix [] [0] (by decide) d d d⟩⟩)
 refine wp_block ?_
 refine sSeq (fun br av=>sRegion ?_)
 obtain ⟨bf,S⟩:=pLoad (r:=r_api_Grid) (q:=v1) (x:=p1) 0 S d
 obtain ⟨bg,rfl,aj⟩:=S.mem.know (i:=1) (e:=fRep r_api_Grid (bf) p1) d
 have S:=S.learn (fRep (rL rB) bg p1.Bits) aj
 obtain ⟨ab,ac,_,rfl,_⟩:=aj
 refine sLoadVN (vq:=v1) 1 [iv p1.W,iv p1.H,.slice ab p1.Bits.length ac] S (wN d) d d d d d d (lb d) fun a S=>sM S fun a S=>?_
 obtain ⟨a0,aw,h⟩:=bS h
 refine sCall (X:=Value) (f:=33) (vs:=[.agg #[iv p1.W,iv p1.H,.slice ab p1.Bits.length ac],iv s6]) (val:=c_symmetry_Apply_val a0) (B':=fun _=>[]) (D':=c_symmetry_Apply_D a0) [] [] [fRep r_api_Grid (.agg #[iv p1.W,iv p1.H,.slice ab p1.Bits.length ac]) p1] [] [2] S (wN d) d callee33 d (by decide) d d (fun E1 w1 S1=>c_symmetry_Apply E1 w1 p1 (.agg #[iv p1.W,iv p1.H,.slice ab p1.Bits.length ac]) s6 a0 aw S1) d (lb d) fun bh a w S=>?_
 obtain ⟨bi,rfl,ak⟩:=S.mem.know (i:=0) (e:=fRep r_api_Grid (bh) a0.1) d
 have S:=S.learn (fRep (rL rB) bi a0.1.Bits) ak
 obtain ⟨a7,a8,_,rfl,_⟩:=ak
 refine sM S fun a S=>?_
 refine sExtract (vs:=[.agg #[iv a0.1.W,iv a0.1.H,.slice a7 a0.1.Bits.length a8],iv a0.2]) (.agg #[iv a0.1.W,iv a0.1.H,.slice a7 a0.1.Bits.length a8]) S (wN d) d d d d (lb d) fun a S=>sExtract (vs:=[.agg #[iv a0.1.W,iv a0.1.H,.slice a7 a0.1.Bits.length a8],iv a0.2]) (iv a0.2) S (wN d) d d d d (lb d) fun a S=>sAlloc (.agg #[iv 0,iv 0,.slice none 0 0]) S (wN d) d d [iv 0,iv 0,.slice none 0 0] d d (lb d) fun a aa w S=>sStore (p:=aa) (off:=0) (T:=24) (vs:=[iv 0,iv 0,.slice none 0 0]) (v:=.agg #[iv a0.1.W,iv a0.1.H,.slice a7 a0.1.Bits.length a8]) 0 [iv a0.1.W,iv a0.1.H,.slice a7 a0.1.Bits.length a8] S (wN d) d d d d d d d (by simp) d fun a w S=>sN S fun a S=>?_
 refine lT (av _ _ (sSeq (fun bt ax=>sRegion ?_)))
 obtain ⟨aT,ay,S⟩:=pFld (P:=Try.prog) (r:=r_api_Grid) (s2:=(rI .i64)) (g:=(·.H)) (q:=v1) (z:=p1) 24 1 5 1 S d d comp_api_Grid_H
 refine sFldV (q:=v1) S (wN d) d d ay d (lb d) fun a S=>?_
 obtain ⟨aU,S⟩:=pLoad (r:=(rI .i64)) (q:=aT) (x:=p1.H) 0 S d
 obtain rfl:aU=iv p1.H:=S.mem.know (i:=1) (e:=fRep (rI .i64) (aU) p1.H) d
 refine sLoadV1 (vq:=aT) 0 (iv p1.H) S (wN d) d d d d d (lb d) fun a S=>sM S fun a S=>?_
 refine lT (ax _ _ (wp_block ?_))
 have S:=S.shutB (r:=r_api_Grid) (T:=24) (b:=aa) (cs:=[iv a0.1.W,iv a0.1.H,.slice a7 a0.1.Bits.length a8]) 0 (.agg #[iv a0.1.W,iv a0.1.H,.slice a7 a0.1.Bits.length a8]) a0.1 d d (S.mem.know (i:=4) (e:=fRep r_api_Grid (.agg #[iv a0.1.W,iv a0.1.H,.slice a7 a0.1.Bits.length a8]) a0.1) d)
 obtain ⟨bu,hl,aV⟩:=bS h
 refine sLoop hl (fun s0 a w=>match s0 with | (a6,gz37)=>∃ E w0,J gz37 E w0∧St [] E [] w0 54 a w [(0,.func (.yield l) #[] #[]),(2,v1),(4,iv x3),(5,iv s6),(6,.pointer (some ⟨aa,0,none⟩)),(27,iv p1.H),(28,iv a6)] [] [fPtr r_api_Grid (v1) p1,fPtr r_api_Grid (.pointer (some ⟨aa,0,none⟩)) a0.1]) ⟨_,_,hJ,S.fix [] [9,0] (by decide) d d d⟩ ?_
 clear hl h
 intro s0 a w c0 hI h al
 obtain ⟨a6,gz37⟩:=s0
 unfold compare_ways_1_l2 at h
 dsimp only at h hI
 obtain ⟨E,w0,hJ,S⟩:=hI
 refine sSeq (fun bv az=>sRegion (sBin _ S (wN d) d d d (bLt _ _ _ _ .i64 a6 p1.H) d (lb d) fun a S=>lT (az _ _ (sSeq (fun bw aA=>?_)))))
 rcases iS h with ⟨ah,h⟩ | ⟨ah,h⟩
 rotate_left
 ·refine sCondF S d ah ?_
  obtain rfl:=tS h
  obtain rfl:=al _ d
  have h:=aV
  try dsimp only at h
  exact wp_exit (xThen (xThen (xHit (leafB (leafT (⟨gz37,Option.some.inj h,_,_,hJ,S.fix [] [0] (by decide) d d d⟩))))))
 refine sCondT S d ah (wp_skip (leafT (aA _ _ ?_)))
 obtain ⟨bj,h,aW⟩:=bS h
 refine sCut (fun a w=>∃ gz45,.inl gz45=bj∧∃ E w0,J gz45 E w0∧St [] E [] w0 54 a w [(0,.func (.yield l) #[] #[]),(2,v1),(4,iv x3),(5,iv s6),(6,.pointer (some ⟨aa,0,none⟩)),(27,iv p1.H),(28,iv a6)] [] [fPtr r_api_Grid (v1) p1,fPtr r_api_Grid (.pointer (some ⟨aa,0,none⟩)) a0.1]) ?_ (fun a w hI=>?_)
 rotate_left
 ·obtain ⟨gz45,rfl,E,w0,hJ,S⟩:=hI
  have h:=aW
  try dsimp only at h
  refine sRegion (sBin _ S (wN d) d d d (bAdd _ _ _ _ a6 1) d (lb d) fun a S=>sM S fun a S=>?_)
  exact lT (⟨(w64 (a6 + 1),gz45),(Option.some.inj h).symm,⟨_,_,hJ,S.fix [] [0,1] (by decide) d d d⟩⟩)
 refine wp_block ?_
 refine sSeq (fun bx aC=>sRegion (sM S fun a S=>?_))
 refine sN S fun a S=>?_
 refine lT (aC _ _ (sSeq (fun bz aG=>sRegion ?_)))
 obtain ⟨aX,aH,S⟩:=pFld (P:=Try.prog) (r:=r_api_Grid) (s2:=(rI .i64)) (g:=(·.W)) (q:=v1) (z:=p1) 24 0 0 0 S d d comp_api_Grid_W
 refine sFldV (q:=v1) S (wN d) d d aH d (lb d) fun a S=>?_
 obtain ⟨aZ,S⟩:=pLoad (r:=(rI .i64)) (q:=aX) (x:=p1.W) 0 S d
 obtain rfl:aZ=iv p1.W:=S.mem.know (i:=1) (e:=fRep (rI .i64) (aZ) p1.W) d
 refine sLoadV1 (vq:=aX) 0 (iv p1.W) S (wN d) d d d d d (lb d) fun a S=>sM S fun a S=>?_
 refine lT (aG _ _ (wp_block ?_))
 obtain ⟨bA,hl,b0⟩:=bS h
 refine sLoop hl (fun s0 a w=>match s0 with | (a9,gz54)=>∃ E w0,J gz54 E w0∧St [] E [] w0 54 a w [(0,.func (.yield l) #[] #[]),(2,v1),(4,iv x3),(5,iv s6),(6,.pointer (some ⟨aa,0,none⟩)),(8,iv a6),(27,iv p1.H),(28,iv a6),(32,iv p1.W),(33,iv a9)] [] [fPtr r_api_Grid (v1) p1,fPtr r_api_Grid (.pointer (some ⟨aa,0,none⟩)) a0.1]) ⟨_,_,hJ,S.fix [] [3,4] (by decide) d d d⟩ ?_
 clear hl h
 intro s0 a w c0 hI h am
 obtain ⟨a9,gz54⟩:=s0
 unfold compare_ways_1_l1 at h
 dsimp only at h hI
 obtain ⟨E,w0,hJ,S⟩:=hI
 refine sSeq (fun bB aI=>sRegion (sBin _ S (wN d) d d d (bLt _ _ _ _ .i64 a9 p1.W) d (lb d) fun a S=>lT (aI _ _ (sSeq (fun bC aJ=>?_)))))
 rcases iS h with ⟨ai,h⟩ | ⟨ai,h⟩
 rotate_left
 ·refine sCondF S d ai ?_
  obtain rfl:=tS h
  obtain rfl:=am _ d
  have h:=b0
  try dsimp only at h
  exact wp_exit (xThen (xThen (xHit (leafB (leafT (⟨gz54,Option.some.inj h,_,_,hJ,S.fix [] [0,1] (by decide) d d d⟩))))))
 refine sCondT S d ai (wp_skip (leafT (aJ _ _ ?_)))
 refine sSeq (fun bD aK=>wp_block ?_)
 refine sSeq (fun bE aL=>sRegion (sM S fun a S=>?_))
 refine sN S fun a S=>?_
 refine lT (aL _ _ (sSeq (fun bF aM=>sRegion ?_)))
 obtain ⟨bk,S⟩:=pLoad (r:=r_api_Grid) (q:=.pointer (some ⟨aa,0,none⟩)) (x:=a0.1) 1 S d
 obtain ⟨bl,rfl,ao⟩:=S.mem.know (i:=1) (e:=fRep r_api_Grid (bk) a0.1) d
 have S:=S.learn (fRep (rL rB) bl a0.1.Bits) ao
 obtain ⟨ae,af,_,rfl,_⟩:=ao
 refine sLoadVN (vq:=.pointer (some ⟨aa,0,none⟩)) 1 [iv a0.1.W,iv a0.1.H,.slice ae a0.1.Bits.length af] S (wN d) d d d d d d (lb d) fun a S=>sM S fun a S=>?_
 refine sM S fun a S=>?_
 obtain ⟨a2,aO,h⟩:=bS h
 refine sCall (X:=Value) (f:=34) (vs:=[.agg #[iv a0.1.W,iv a0.1.H,.slice ae a0.1.Bits.length af],iv a9,iv a6]) (val:=c_grid_Shift_val a2) (B':=fun _=>[]) (D':=c_grid_Shift_D a2) [] [] [fRep r_api_Grid (.agg #[iv a0.1.W,iv a0.1.H,.slice ae a0.1.Bits.length af]) a0.1] [] [2] S (wN d) d callee34 d (by decide) d d (fun E1 w1 S1=>c_grid_Shift E1 w1 a0.1 (.agg #[iv a0.1.W,iv a0.1.H,.slice ae a0.1.Bits.length af]) a9 a6 a2 aO S1) d (lb d) fun bm a w S=>?_
 obtain ⟨bn,rfl,ap⟩:=S.mem.know (i:=0) (e:=fRep r_api_Grid (bm) a2.1) d
 have S:=S.learn (fRep (rL rB) bn a2.1.Bits) ap
 obtain ⟨a4,a5,_,rfl,_⟩:=ap
 refine sM S fun a S=>?_
 refine sExtract (vs:=[.agg #[iv a2.1.W,iv a2.1.H,.slice a4 a2.1.Bits.length a5],iv a2.2]) (.agg #[iv a2.1.W,iv a2.1.H,.slice a4 a2.1.Bits.length a5]) S (wN d) d d d d (lb d) fun a S=>sExtract (vs:=[.agg #[iv a2.1.W,iv a2.1.H,.slice a4 a2.1.Bits.length a5],iv a2.2]) (iv a2.2) S (wN d) d d d d (lb d) fun a S=>sAlloc (.agg #[iv 0,iv 0,.slice none 0 0]) S (wN d) d d [iv 0,iv 0,.slice none 0 0] d d (lb d) fun a aP w S=>sStore (p:=aP) (off:=0) (T:=24) (vs:=[iv 0,iv 0,.slice none 0 0]) (v:=.agg #[iv a2.1.W,iv a2.1.H,.slice a4 a2.1.Bits.length a5]) 0 [iv a2.1.W,iv a2.1.H,.slice a4 a2.1.Bits.length a5] S (wN d) d d d d d d d (by simp) d fun a w S=>sN S fun a S=>?_
 refine lT (aM _ _ (sSeq (fun bG aq=>sRegionY ?_)))
 refine sSplitR (by repeat (first | exact roundU_out | exact it_out | exact lo_false | refine lo_then ?_ | refine lo_block ?_)) 7 d (fun bH aQ=>?_)
 refine sM S fun a S=>?_
 refine sM S fun a S=>?_
 refine sM S fun a S=>?_
 refine sM S fun a S=>?_
 refine sBuild [(0,iv a9),(1,iv a6)] [iv a9,iv a6] S (wN d) d d d d (lb d) fun a S=>sBuild [(0,iv s6),(1,.agg #[iv a9,iv a6])] [iv s6,iv a9,iv a6] S (wN d) d d d d (lb d) fun a S=>sLoadN (p:=aP) (off:=0) (T:=24) (vs:=[iv a2.1.W,iv a2.1.H,.slice a4 a2.1.Bits.length a5]) 0 [iv a2.1.W,iv a2.1.H,.slice a4 a2.1.Bits.length a5] S (wN d) d d d d d d d (lb d) fun a S=>leafL ⟨d,aQ _ _ ?_⟩
 have S:=S.shutB (r:=r_api_Grid) (T:=24) (b:=aP) (cs:=[iv a2.1.W,iv a2.1.H,.slice a4 a2.1.Bits.length a5]) 0 (.agg #[iv a2.1.W,iv a2.1.H,.slice a4 a2.1.Bits.length a5]) a2.1 d d (S.mem.know (i:=1) (e:=fRep r_api_Grid (.agg #[iv a2.1.W,iv a2.1.H,.slice a4 a2.1.Bits.length a5]) a2.1) d)
 have S:=S.learn (fRep r_compare_way (.agg #[iv s6,iv a9,iv a6]) (compare_way.mk s6 (api_Point.mk a9 a6))) d
 obtain ⟨bI,hy81,h⟩:=bS h
 refine sYieldI ((compare_way.mk s6 (api_Point.mk a9 a6)),a2.1) [.agg #[iv s6,iv a9,iv a6],.agg #[iv a2.1.W,iv a2.1.H,.slice a4 a2.1.Bits.length a5]] S hC hJ hy81 (fA2_mk (S.mem.know (i:=0) (e:=fRep r_compare_way (.agg #[iv s6,iv a9,iv a6]) (compare_way.mk s6 (api_Point.mk a9 a6))) d) (S.mem.know (i:=3) (e:=fRep r_api_Grid (.agg #[iv a2.1.W,iv a2.1.H,.slice a4 a2.1.Bits.length a5]) a2.1) d)) (wN d) d d d d (by decide) (fun gz82 E a w hb hJ S=>?_) (fun tz83 a w hb hJ S=>?_)
 ·obtain rfl:=hb
  dsimp only at h
  refine list_inR (by repeat (first | exact roundU_out | exact it_out | exact lo_false | refine lo_then ?_ | refine lo_block ?_)) _ d _ _ ?_
  refine sNot (b:=true) S (wN d) d d d (lb d) fun a S=>lT (aq _ _ (sCondF S d d (wp_skip (leafB (leafT (aK _ _ ?_))))))
  refine sRegion (sBin _ S (wN d) d d d (bAdd _ _ _ _ a9 1) d (lb d) fun a S=>sM S fun a S=>?_)
  exact lT (⟨(w64 (a9 + 1),gz82),(Option.some.inj h).symm,⟨_,_,hJ,S.fix [] [7,8] (by decide) d d d⟩⟩)
 ·obtain rfl:=hb
  dsimp only at h
  refine list_inR (by repeat (first | exact roundU_out | exact it_out | exact lo_false | refine lo_then ?_ | refine lo_block ?_)) _ d _ _ ?_
  refine sNot (b:=false) S (wN d) d d d (lb d) fun a S=>lT (aq _ _ (sCondT S d d ?_))
  obtain rfl:=tS h
  obtain rfl:=am _ d
  have h:=b0
  try dsimp only at h
  obtain rfl:=tS h
  have h:=aW
  try dsimp only at h
  obtain rfl:=tS h
  obtain rfl:=al _ d
  have h:=aV
  try dsimp only at h
  obtain rfl:=tS h
  have h:=aS
  try dsimp only at h
  obtain rfl:=tS h
  obtain rfl:=aR _ d
  have h:=g9
  try dsimp only at h
  exact wp_ret (rBlock (rThen (rThen (rBlock (rBlock (rThen (rThen (rBlock (rBlock (rThen (rThen (rBlock (sRet (.tuple #[]) S (res0 d) (sStopI S hC hJ (Option.some.inj h) _))))))))))))))
end Go.Proofs.Ytffikfajljbmnaa
