/- CompareGroup: walks, tables, laws. -/
import Derived.Test.YtffikfajljbmnaaProg
import Derived.Test.YtffikfajljbmnaaRows
import Derived.Test.YtffikfajljbmnaaMCompareGroup1
set_option linter.unusedVariables false
set_option linter.unusedSimpArgs false
set_option maxHeartbeats 4000000
set_option maxRecDepth 100000
namespace Go.Proofs.Ytffikfajljbmnaa
open Go.RowKit
structure api_Grid where
 W:Int
 H:Int
 Bits:(List Bool)
def r_api_Grid:R api_Grid where
 sz:=3
 rep:=fun E w v x=>∃ v0,v=.agg #[.int .i64 x.W,.int .i64 x.H,v0]∧(rL rB).rep E w v0 x.Bits
 pos:=by decide
 size:=by rintro _ _ _ _ ⟨v0,rfl,h0⟩; rfl
 one:=by
  rintro _ _ _ _ ⟨v0,rfl,h0⟩ u hu
  simp [Value.cells] at hu
  rcases hu with rfl | rfl | rfl
  ·rfl
  ·rfl
  ·exact (rL rB).one h0 _ (by rw [scal_L _ _ _ _ _ h0]; simp)
 mono:=by
  rintro _ _ _ _ _ _ h ⟨v0,e,h0⟩
  exact ⟨v0,e,(rL rB).mono h h0⟩
theorem aggr_api_Grid:Aggr r_api_Grid:=by rintro _ _ _ _ ⟨v0,rfl,h0⟩; exact ⟨_,rfl⟩
theorem comp_api_Grid_W:Comp r_api_Grid (rI .i64) 0 (·.W):=by
 rintro _ _ _ x ⟨v0,rfl,h0⟩
 refine ⟨.int .i64 x.W,rfl,fun j c hj=>?_⟩
 match j,hj with
 | 0,hj=>exact hj
 | j + 1,hj=>exact absurd (List.getElem?_eq_some_iff.1 hj).1 (by simp [Value.cells])
theorem comp_api_Grid_H:Comp r_api_Grid (rI .i64) 1 (·.H):=by
 rintro _ _ _ x ⟨v0,rfl,h0⟩
 refine ⟨.int .i64 x.H,rfl,fun j c hj=>?_⟩
 match j,hj with
 | 0,hj=>exact hj
 | j + 1,hj=>exact absurd (List.getElem?_eq_some_iff.1 hj).1 (by simp [Value.cells])
theorem comp_api_Grid_Bits:Comp r_api_Grid (rL rB) 2 (·.Bits):=by
 rintro _ _ _ x ⟨v0,rfl,h0⟩
 refine ⟨v0,h0,fun j c hj=>?_⟩
 rw [scal_L _ _ _ _ _ h0] at hj
 match j,hj with
 | 0,hj=>exact hj
 | j + 1,hj=>exact absurd (List.getElem?_eq_some_iff.1 hj).1 (by simp)
structure api_Point where
 X:Int
 Y:Int
def r_api_Point:R api_Point where
 sz:=2
 rep:=fun E w v x=>v=.agg #[.int .i64 x.X,.int .i64 x.Y]
 pos:=by decide
 size:=by rintro _ _ _ _ rfl; rfl
 one:=by
  rintro _ _ _ _ rfl u hu
  simp [Value.cells] at hu
  rcases hu with rfl | rfl
  ·rfl
  ·rfl
 mono:=fun _ h=>h
structure compare_way where
 op:Int
 at_:api_Point
def r_compare_way:R compare_way where
 sz:=3
 rep:=fun E w v x=>v=.agg #[.int .i64 x.op,.int .i64 x.at_.X,.int .i64 x.at_.Y]
 pos:=by decide
 size:=by rintro _ _ _ _ rfl; rfl
 one:=by
  rintro _ _ _ _ rfl u hu
  simp [Value.cells] at hu
  rcases hu with rfl | rfl | rfl
  ·rfl
  ·rfl
  ·rfl
 mono:=fun _ h=>h
structure api_Stitch where
 Kind:Int
 Purl:Bool
 A:Int
 B:Int
def r_api_Stitch:R api_Stitch where
 sz:=4
 rep:=fun E w v x=>v=.agg #[.int .u8 x.Kind,.bool x.Purl,.int .i64 x.A,.int .i64 x.B]
 pos:=by decide
 size:=by rintro _ _ _ _ rfl; rfl
 one:=by
  rintro _ _ _ _ rfl u hu
  simp [Value.cells] at hu
  rcases hu with rfl | rfl | rfl | rfl
  ·rfl
  ·rfl
  ·rfl
  ·rfl
 mono:=fun _ h=>h
theorem comp_api_Stitch_Kind:Comp r_api_Stitch (rI .u8) 0 (·.Kind):=by
 rintro _ _ _ x rfl
 refine ⟨.int .u8 x.Kind,rfl,fun j c hj=>?_⟩
 match j,hj with
 | 0,hj=>exact hj
 | j + 1,hj=>exact absurd (List.getElem?_eq_some_iff.1 hj).1 (by simp [Value.cells])
structure api_Row where
 Back:Bool
 Cells:(List api_Stitch)
def r_api_Row:R api_Row where
 sz:=2
 rep:=fun E w v x=>∃ v0,v=.agg #[.bool x.Back,v0]∧(rL r_api_Stitch).rep E w v0 x.Cells
 pos:=by decide
 size:=by rintro _ _ _ _ ⟨v0,rfl,h0⟩; rfl
 one:=by
  rintro _ _ _ _ ⟨v0,rfl,h0⟩ u hu
  simp [Value.cells] at hu
  rcases hu with rfl | rfl
  ·rfl
  ·exact (rL r_api_Stitch).one h0 _ (by rw [scal_L _ _ _ _ _ h0]; simp)
 mono:=by
  rintro _ _ _ _ _ _ h ⟨v0,e,h0⟩
  exact ⟨v0,e,(rL r_api_Stitch).mono h h0⟩
theorem comp_api_Row_Back:Comp r_api_Row rB 0 (·.Back):=by
 rintro _ _ _ x ⟨v0,rfl,h0⟩
 refine ⟨.bool x.Back,rfl,fun j c hj=>?_⟩
 match j,hj with
 | 0,hj=>exact hj
 | j + 1,hj=>exact absurd (List.getElem?_eq_some_iff.1 hj).1 (by simp [Value.cells])
theorem comp_api_Row_Cells:Comp r_api_Row (rL r_api_Stitch) 1 (·.Cells):=by
 rintro _ _ _ x ⟨v0,rfl,h0⟩
 refine ⟨v0,h0,fun j c hj=>?_⟩
 rw [scal_L _ _ _ _ _ h0] at hj
 match j,hj with
 | 0,hj=>exact hj
 | j + 1,hj=>exact absurd (List.getElem?_eq_some_iff.1 hj).1 (by simp)
structure api_Chart where
 Start:Int
 Rows:(List api_Row)
def r_api_Chart:R api_Chart where
 sz:=2
 rep:=fun E w v x=>∃ v0,v=.agg #[.int .i64 x.Start,v0]∧(rL r_api_Row).rep E w v0 x.Rows
 pos:=by decide
 size:=by rintro _ _ _ _ ⟨v0,rfl,h0⟩; rfl
 one:=by
  rintro _ _ _ _ ⟨v0,rfl,h0⟩ u hu
  simp [Value.cells] at hu
  rcases hu with rfl | rfl
  ·rfl
  ·exact (rL r_api_Row).one h0 _ (by rw [scal_L _ _ _ _ _ h0]; simp)
 mono:=by
  rintro _ _ _ _ _ _ h ⟨v0,e,h0⟩
  exact ⟨v0,e,(rL r_api_Row).mono h h0⟩
theorem comp_api_Chart_Start:Comp r_api_Chart (rI .i64) 0 (·.Start):=by
 rintro _ _ _ x ⟨v0,rfl,h0⟩
 refine ⟨.int .i64 x.Start,rfl,fun j c hj=>?_⟩
 match j,hj with
 | 0,hj=>exact hj
 | j + 1,hj=>exact absurd (List.getElem?_eq_some_iff.1 hj).1 (by simp [Value.cells])
theorem comp_api_Chart_Rows:Comp r_api_Chart (rL r_api_Row) 1 (·.Rows):=by
 rintro _ _ _ x ⟨v0,rfl,h0⟩
 refine ⟨v0,h0,fun j c hj=>?_⟩
 rw [scal_L _ _ _ _ _ h0] at hj
 match j,hj with
 | 0,hj=>exact hj
 | j + 1,hj=>exact absurd (List.getElem?_eq_some_iff.1 hj).1 (by simp)
structure chart_count where
 before:Int
 after:Int
 e:Int
def r_chart_count:R chart_count where
 sz:=3
 rep:=fun E w v x=>v=.agg #[.int .i64 x.before,.int .i64 x.after,.int .i64 x.e]
 pos:=by decide
 size:=by rintro _ _ _ _ rfl; rfl
 one:=by
  rintro _ _ _ _ rfl u hu
  simp [Value.cells] at hu
  rcases hu with rfl | rfl | rfl
  ·rfl
  ·rfl
  ·rfl
 mono:=fun _ h=>h
theorem comp_chart_count_after:Comp r_chart_count (rI .i64) 1 (·.after):=by
 rintro _ _ _ x rfl
 refine ⟨.int .i64 x.after,rfl,fun j c hj=>?_⟩
 match j,hj with
 | 0,hj=>exact hj
 | j + 1,hj=>exact absurd (List.getElem?_eq_some_iff.1 hj).1 (by simp [Value.cells])
theorem comp_chart_count_e:Comp r_chart_count (rI .i64) 2 (·.e):=by
 rintro _ _ _ x rfl
 refine ⟨.int .i64 x.e,rfl,fun j c hj=>?_⟩
 match j,hj with
 | 0,hj=>exact hj
 | j + 1,hj=>exact absurd (List.getElem?_eq_some_iff.1 hj).1 (by simp [Value.cells])
def r_A2_Int:R (Int × Int) where
 sz:=2
 rep:=fun E w v x=>v=.agg #[.int .i64 x.1,.int .i64 x.2]
 pos:=by decide
 size:=by rintro _ _ _ _ rfl; rfl
 one:=by
  rintro _ _ _ _ rfl u hu
  simp [Value.cells] at hu
  rcases hu with rfl | rfl
  ·rfl
  ·rfl
 mono:=fun _ h=>h
structure stitch_form where
 letter:ByteArray
 a:(Int × Int)
 b:(Int × Int)
 sided:Bool
 uses:Int
 made:Int
def r_stitch_form:R stitch_form where
 sz:=8
 rep:=fun E w v x=>v=.agg #[.string x.letter,.int .i64 x.a.1,.int .i64 x.a.2,.int .i64 x.b.1,.int .i64 x.b.2,.bool x.sided,.int .i64 x.uses,.int .i64 x.made]
 pos:=by decide
 size:=by rintro _ _ _ _ rfl; rfl
 one:=by
  rintro _ _ _ _ rfl u hu
  simp [Value.cells] at hu
  rcases hu with rfl | rfl | rfl | rfl | rfl | rfl | rfl | rfl
  ·rfl
  ·rfl
  ·rfl
  ·rfl
  ·rfl
  ·rfl
  ·rfl
  ·rfl
 mono:=fun _ h=>h
structure api_CellStep where
 Kind:Int
 S:api_Stitch
def r_api_CellStep:R api_CellStep where
 sz:=5
 rep:=fun E w v x=>v=.agg #[.int .u8 x.Kind,.int .u8 x.S.Kind,.bool x.S.Purl,.int .i64 x.S.A,.int .i64 x.S.B]
 pos:=by decide
 size:=by rintro _ _ _ _ rfl; rfl
 one:=by
  rintro _ _ _ _ rfl u hu
  simp [Value.cells] at hu
  rcases hu with rfl | rfl | rfl | rfl | rfl
  ·rfl
  ·rfl
  ·rfl
  ·rfl
  ·rfl
 mono:=fun _ h=>h
def gl_stitch_form (x:stitch_form):List Value:=[.string x.letter,.int .i64 x.a.1,.int .i64 x.a.2,.int .i64 x.b.1,.int .i64 x.b.2,.bool x.sided,.int .i64 x.uses,.int .i64 x.made]
def gv_stitch_form (x:stitch_form):Value:=.agg (gl_stitch_form x).toArray
theorem callee12:∀ vs w,(callFunc 12 vs).run Try.prog w=.ok (.enter 12 vs) w:=callee Try.func12 rfl rfl
theorem callee13:∀ vs w,(callFunc 13 vs).run Try.prog w=.ok (.enter 13 vs) w:=callee Try.func13 rfl rfl
theorem callee14:∀ vs w,(callFunc 14 vs).run Try.prog w=.ok (.enter 14 vs) w:=callee Try.func14 rfl rfl
theorem callee16:∀ vs w,(callFunc 16 vs).run Try.prog w=.ok (.enter 16 vs) w:=callee Try.func16 rfl rfl
theorem callee20:∀ vs w,(callFunc 20 vs).run Try.prog w=.ok (.enter 20 vs) w:=callee Try.func20 rfl rfl
theorem callee23:∀ vs w,(callFunc 23 vs).run Try.prog w=.ok (.enter 23 vs) w:=callee Try.func23 rfl rfl
theorem callee29:∀ vs w,(callFunc 29 vs).run Try.prog w=.ok (.enter 29 vs) w:=callee Try.func29 rfl rfl
theorem callee31:∀ vs w,(callFunc 31 vs).run Try.prog w=.ok (.enter 31 vs) w:=callee Try.func31 rfl rfl
theorem callee32:∀ vs w,(callFunc 32 vs).run Try.prog w=.ok (.enter 32 vs) w:=callee Try.func32 rfl rfl
theorem callee33:∀ vs w,(callFunc 33 vs).run Try.prog w=.ok (.enter 33 vs) w:=callee Try.func33 rfl rfl
theorem callee34:∀ vs w,(callFunc 34 vs).run Try.prog w=.ok (.enter 34 vs) w:=callee Try.func34 rfl rfl
theorem callee35:∀ vs w,(callFunc 35 vs).run Try.prog w=.ok (.enter 35 vs) w:=callee Try.func35 rfl rfl
theorem callee36:∀ vs w,(callFunc 36 vs).run Try.prog w=.ok (.enter 36 vs) w:=callee Try.func36 rfl rfl
theorem callee37:∀ vs w,(callFunc 37 vs).run Try.prog w=.ok (.enter 37 vs) w:=callee Try.func37 rfl rfl
theorem callee38:∀ vs w,(callFunc 38 vs).run Try.prog w=.ok (.enter 38 vs) w:=callee Try.func38 rfl rfl
theorem callee39:∀ vs w,(callFunc 39 vs).run Try.prog w=.ok (.enter 39 vs) w:=callee Try.func39 rfl rfl
theorem callee41:∀ vs w,(callFunc 41 vs).run Try.prog w=.ok (.enter 41 vs) w:=callee Try.func41 rfl rfl
theorem callee42:∀ vs w,(callFunc 42 vs).run Try.prog w=.ok (.enter 42 vs) w:=callee Try.func42 rfl rfl
theorem callee43:∀ vs w,(callFunc 43 vs).run Try.prog w=.ok (.enter 43 vs) w:=callee Try.func43 rfl rfl
theorem callee45:∀ vs w,(callFunc 45 vs).run Try.prog w=.ok (.enter 45 vs) w:=callee Try.func45 rfl rfl
theorem callee46:∀ vs w,(callFunc 46 vs).run Try.prog w=.ok (.enter 46 vs) w:=callee Try.func46 rfl rfl
theorem callee47:∀ vs w,(callFunc 47 vs).run Try.prog w=.ok (.enter 47 vs) w:=callee Try.func47 rfl rfl
theorem callee49:∀ vs w,(callFunc 49 vs).run Try.prog w=.ok (.enter 49 vs) w:=callee Try.func49 rfl rfl
theorem callee50:∀ vs w,(callFunc 50 vs).run Try.prog w=.ok (.enter 50 vs) w:=callee Try.func50 rfl rfl
theorem callee51:∀ vs w,(callFunc 51 vs).run Try.prog w=.ok (.enter 51 vs) w:=callee Try.func51 rfl rfl
theorem callee52:∀ vs w,(callFunc 52 vs).run Try.prog w=.ok (.enter 52 vs) w:=callee Try.func52 rfl rfl
theorem callee53:∀ vs w,(callFunc 53 vs).run Try.prog w=.ok (.enter 53 vs) w:=callee Try.func53 rfl rfl
theorem callee54:∀ vs w,(callFunc 54 vs).run Try.prog w=.ok (.enter 54 vs) w:=callee Try.func54 rfl rfl
theorem callee56:∀ vs w,(callFunc 56 vs).run Try.prog w=.ok (.enter 56 vs) w:=callee Try.func56 rfl rfl
theorem callee60:∀ vs w,(callFunc 60 vs).run Try.prog w=.ok (.enter 60 vs) w:=callee Try.func60 rfl rfl
theorem callee61:∀ vs w,(callFunc 61 vs).run Try.prog w=.ok (.enter 61 vs) w:=callee Try.func61 rfl rfl
theorem callee62:∀ vs w,(callFunc 62 vs).run Try.prog w=.ok (.enter 62 vs) w:=callee Try.func62 rfl rfl
theorem callee63:∀ vs w,(callFunc 63 vs).run Try.prog w=.ok (.enter 63 vs) w:=callee Try.func63 rfl rfl
theorem callee64:∀ vs w,(callFunc 64 vs).run Try.prog w=.ok (.enter 64 vs) w:=callee Try.func64 rfl rfl
theorem callee65:∀ vs w,(callFunc 65 vs).run Try.prog w=.ok (.enter 65 vs) w:=callee Try.func65 rfl rfl
theorem callee66:∀ vs w,(callFunc 66 vs).run Try.prog w=.ok (.enter 66 vs) w:=callee Try.func66 rfl rfl
theorem callee67:∀ vs w,(callFunc 67 vs).run Try.prog w=.ok (.enter 67 vs) w:=callee Try.func67 rfl rfl
theorem callee68:∀ vs w,(callFunc 68 vs).run Try.prog w=.ok (.enter 68 vs) w:=callee Try.func68 rfl rfl
theorem callee69:∀ vs w,(callFunc 69 vs).run Try.prog w=.ok (.enter 69 vs) w:=callee Try.func69 rfl rfl
theorem callee70:∀ vs w,(callFunc 70 vs).run Try.prog w=.ok (.enter 70 vs) w:=callee Try.func70 rfl rfl
theorem callee71:∀ vs w,(callFunc 71 vs).run Try.prog w=.ok (.enter 71 vs) w:=callee Try.func71 rfl rfl
theorem callee72:∀ vs w,(callFunc 72 vs).run Try.prog w=.ok (.enter 72 vs) w:=callee Try.func72 rfl rfl
theorem callee73:∀ vs w,(callFunc 73 vs).run Try.prog w=.ok (.enter 73 vs) w:=callee Try.func73 rfl rfl
theorem callee74:∀ vs w,(callFunc 74 vs).run Try.prog w=.ok (.enter 74 vs) w:=callee Try.func74 rfl rfl
theorem callee75:∀ vs w,(callFunc 75 vs).run Try.prog w=.ok (.enter 75 vs) w:=callee Try.func75 rfl rfl
theorem callee76:∀ vs w,(callFunc 76 vs).run Try.prog w=.ok (.enter 76 vs) w:=callee Try.func76 rfl rfl
theorem callee77:∀ vs w,(callFunc 77 vs).run Try.prog w=.ok (.enter 77 vs) w:=callee Try.func77 rfl rfl
theorem callee78:∀ vs w,(callFunc 78 vs).run Try.prog w=.ok (.enter 78 vs) w:=callee Try.func78 rfl rfl
theorem callee79:∀ vs w,(callFunc 79 vs).run Try.prog w=.ok (.enter 79 vs) w:=callee Try.func79 rfl rfl
theorem callee80:∀ vs w,(callFunc 80 vs).run Try.prog w=.ok (.enter 80 vs) w:=callee Try.func80 rfl rfl
theorem callee81:∀ vs w,(callFunc 81 vs).run Try.prog w=.ok (.enter 81 vs) w:=callee Try.func81 rfl rfl
theorem callee82:∀ vs w,(callFunc 82 vs).run Try.prog w=.ok (.enter 82 vs) w:=callee Try.func82 rfl rfl
theorem callee83:∀ vs w,(callFunc 83 vs).run Try.prog w=.ok (.enter 83 vs) w:=callee Try.func83 rfl rfl
theorem callee84:∀ vs w,(callFunc 84 vs).run Try.prog w=.ok (.enter 84 vs) w:=callee Try.func84 rfl rfl
theorem callee85:∀ vs w,(callFunc 85 vs).run Try.prog w=.ok (.enter 85 vs) w:=callee Try.func85 rfl rfl
theorem callee86:∀ vs w,(callFunc 86 vs).run Try.prog w=.ok (.enter 86 vs) w:=callee Try.func86 rfl rfl
theorem callee87:∀ vs w,(callFunc 87 vs).run Try.prog w=.ok (.enter 87 vs) w:=callee Try.func87 rfl rfl
theorem callee88:∀ vs w,(callFunc 88 vs).run Try.prog w=.ok (.enter 88 vs) w:=callee Try.func88 rfl rfl
theorem callee89:∀ vs w,(callFunc 89 vs).run Try.prog w=.ok (.enter 89 vs) w:=callee Try.func89 rfl rfl
theorem callee92:∀ vs w,(callFunc 92 vs).run Try.prog w=.ok (.enter 92 vs) w:=callee Try.func92 rfl rfl
theorem callee93:∀ vs w,(callFunc 93 vs).run Try.prog w=.ok (.enter 93 vs) w:=callee Try.func93 rfl rfl
theorem callee94:∀ vs w,(callFunc 94 vs).run Try.prog w=.ok (.enter 94 vs) w:=callee Try.func94 rfl rfl
theorem callee95:∀ vs w,(callFunc 95 vs).run Try.prog w=.ok (.enter 95 vs) w:=callee Try.func95 rfl rfl
theorem callee96:∀ vs w,(callFunc 96 vs).run Try.prog w=.ok (.enter 96 vs) w:=callee Try.func96 rfl rfl
theorem callee97:∀ vs w,(callFunc 97 vs).run Try.prog w=.ok (.enter 97 vs) w:=callee Try.func97 rfl rfl
theorem callee98:∀ vs w,(callFunc 98 vs).run Try.prog w=.ok (.enter 98 vs) w:=callee Try.func98 rfl rfl
theorem callee99:∀ vs w,(callFunc 99 vs).run Try.prog w=.ok (.enter 99 vs) w:=callee Try.func99 rfl rfl
theorem callee100:∀ vs w,(callFunc 100 vs).run Try.prog w=.ok (.enter 100 vs) w:=callee Try.func100 rfl rfl
theorem callee101:∀ vs w,(callFunc 101 vs).run Try.prog w=.ok (.enter 101 vs) w:=callee Try.func101 rfl rfl
theorem callee102:∀ vs w,(callFunc 102 vs).run Try.prog w=.ok (.enter 102 vs) w:=callee Try.func102 rfl rfl
theorem callee103:∀ vs w,(callFunc 103 vs).run Try.prog w=.ok (.enter 103 vs) w:=callee Try.func103 rfl rfl
theorem callee104:∀ vs w,(callFunc 104 vs).run Try.prog w=.ok (.enter 104 vs) w:=callee Try.func104 rfl rfl
theorem callee105:∀ vs w,(callFunc 105 vs).run Try.prog w=.ok (.enter 105 vs) w:=callee Try.func105 rfl rfl
theorem callee106:∀ vs w,(callFunc 106 vs).run Try.prog w=.ok (.enter 106 vs) w:=callee Try.func106 rfl rfl
theorem callee107:∀ vs w,(callFunc 107 vs).run Try.prog w=.ok (.enter 107 vs) w:=callee Try.func107 rfl rfl
theorem callee108:∀ vs w,(callFunc 108 vs).run Try.prog w=.ok (.enter 108 vs) w:=callee Try.func108 rfl rfl
theorem callee109:∀ vs w,(callFunc 109 vs).run Try.prog w=.ok (.enter 109 vs) w:=callee Try.func109 rfl rfl
open Go.ChangeShapes Go.WideShapes Go.ChangeAt Go.Joins
def InK (k:IntKind) (x:Int):Prop:=(Lit.int k x).wf=true
def Wl {α:Type} (p:α→Prop) (xs:List α):Prop:=xs.length ≤ 9223372036854775807∧∀ x,x ∈ xs→p x
def OpC {α:Type} (P:Program) (t:TypeId) (r:R α) (p:α→Prop):Prop:=
 ∀ (H:Type) (enc:TypeId × Value→H) (w:World) (base:Nat) (spare:Nat→Bool) (held:Bool) (fuel:Nat) (cs:List Value) (x:DataW H × List MemPlace),
  DataW.trod enc P w base spare held fuel t cs=some x→∃ v y,v.cells.toList=cs∧r.rep (fun _=>False) w v y∧p y
section
variable {P : Program}
theorem op_int {t:TypeId} (k:IntKind) (ht:P.underlying t=some (.int k)):OpC P t (rI k) (InK k):=fun H enc w base spare held fuel cs x h=>by
 obtain ⟨n,rfl,_,hw⟩:=DataW.trod_int ht h
 exact ⟨_,n,rfl,rfl,hw⟩
theorem op_bool {t:TypeId} (ht:P.underlying t=some .bool):OpC P t rB (fun _=>True):=fun H enc w base spare held fuel cs x h=>by
 obtain ⟨n,rfl,_⟩:=DataW.trod_bool ht h
 exact ⟨_,n,rfl,rfl,trivial⟩
theorem choose_list {α:Type} {n:Nat} {p:Nat→α→Prop} (h:∀ i,i < n→∃ x,p i x):∃ l:List α,l.length=n∧∀ i x,l[i]?=some x→p i x:=by
 induction n with
 | zero=>exact ⟨[],rfl,fun i x hi=>by simp at hi⟩
 | succ n ih=>
  obtain ⟨l,hl,hp⟩:=ih fun i hi=>h i (by omega)
  obtain ⟨x,hx⟩:=h n (by omega)
  refine ⟨l ++ [x],by simp [hl],fun i y hi=>?_⟩
  by_cases e:i < l.length
  ·rw [List.getElem?_append_left e] at hi; exact hp i y hi
  ·rw [List.getElem?_append_right (by omega)] at hi
   have:i - l.length=0:=by
    have:=(List.getElem?_eq_some_iff.1 hi).1
    simp at this; omega
   rw [this] at hi
   simp at hi; subst hi
   have:i=n:=by omega
   subst this; exact hx
theorem op_slice {α:Type} {t e:TypeId} {r:R α} {p:α→Prop} (ht:P.underlying t=some (.slice e)) (hc:P.cellsOf e=r.sz) (he:OpC P e r p):OpC P t (rL r) (Wl p):=fun H enc w base spare held fuel cs x h=>by
 rcases Go.Deep.open_slice ht h with ⟨rfl,_⟩ | ⟨a,len,cap,m,n,D,Pl,rfl,_,hl,hm,hmm,_,hx⟩
 ·exact ⟨_,[],rfl,rL_nil _ _ _,by simp,fun x hx=>by simp at hx⟩
 ·have hlm:len ≤ m:=by rw [hmm]; split <;> omega
  obtain ⟨b,off,spot⟩:=a
  have hcell:∀ i,i < len→∃ vy:Value × α,(∀ j,j < r.sz→w.cell? ((⟨b,off,spot⟩:Addr).add (i * r.sz + j))=vy.1.cells.toList[j]?)∧r.rep (fun _=>False) w vy.1 vy.2∧p vy.2:=fun i hi=>by
   obtain ⟨cs,h1,h2⟩:=hx i (by omega)
   obtain ⟨_,h3,h4⟩:=World.cells?_some h1
   obtain ⟨v,y,h5,h6,h7⟩:=he _ _ _ _ _ _ _ _ _ h2
   refine ⟨(v,y),fun j hj=>?_,h6,h7⟩
   have:=h4 j (by rw [hc]; exact hj)
   rw [Addr.add_add,hc] at this
   rw [this,h5]
  obtain ⟨l,hll,hlp⟩:=choose_list hcell
  subst hll
  have hA:All r (fun _=>False) w (l.map (·.1)) (l.map (·.2)):=⟨by simp,fun k v x hv hx=>by
   rw [List.getElem?_map] at hv hx
   cases hk:l[k]? with
   | none=>rw [hk] at hv; cases hv
   | some q=>rw [hk] at hv hx; simp at hv hx; subst hv hx; exact (hlp k q hk).2.1⟩
  refine ⟨.slice (some ⟨b,off,spot⟩) l.length cap,l.map (·.2),rfl,?_,by simp [maxLen] at hm ⊢; omega,fun x hx=>?_⟩
  ·refine ⟨some ⟨b,off,spot⟩,cap,l.map (·.1),by simp,by simpa using hl,by simp [maxLen] at hm ⊢; omega,hA,fun k u hu=>?_⟩
   have hsz:=fun v hv=>(hA.cells v hv).1
   have hk:=(List.getElem?_eq_some_iff.1 hu).1
   rw [flat_length hsz] at hk
   simp only [List.length_map] at hk
   have hi:k / r.sz < l.length:=Nat.div_lt_of_lt_mul (by rw [Nat.mul_comm]; exact hk)
   have hj:=Nat.mod_lt k r.pos
   have hq:l[k / r.sz]?=some l[k / r.sz]:=List.getElem?_eq_getElem hi
   have h1:=(hlp _ _ hq).1 (k % r.sz) hj
   have h2:=flat_get hsz (k:=k / r.sz) (v:=l[k / r.sz].1) (by rw [List.getElem?_map,hq]; rfl) hj
   rw [Nat.mul_comm,Nat.div_add_mod] at h1 h2
   rw [hu] at h2
   rw [← h2] at h1
   have hspot:spot=none:=by
    have h0:0 < l.length:=Nat.lt_of_le_of_lt (Nat.zero_le _) hi
    have hq0:l[0]?=some l[0]:=List.getElem?_eq_getElem h0
    have h3:=(hlp 0 _ hq0).1 0 r.pos
    have hs0:=r.size (hlp 0 _ hq0).2.1
    rw [List.getElem?_eq_getElem (by rw [Array.length_toList,hs0]; exact r.pos)] at h3
    simpa [Addr.add] using World.cell?_spot h3
   subst hspot
   rw [add_addr] at h1
   exact ⟨b,off,rfl,not_false,World.block_lt_of_cell? w _ h1,h1⟩
  ·obtain ⟨q,hq,rfl⟩:=List.mem_map.1 hx
   obtain ⟨k,hk,rfl⟩:=List.getElem_of_mem hq
   exact (hlp k _ (List.getElem?_eq_getElem hk)).2.2
theorem top_agg {α:Type} {H:Type} {enc:TypeId × Value→H} {w:World} {base b0:Nat} {spare:Nat→Bool} {held:Bool} {rr:Reach} {v:Value} {d:DataW H} {p:List MemPlace} {t:TypeId} {fs:Array Field} {r:R α} {q:α→Prop} (ht:P.underlying t=some (.struct fs)) (hr:Aggr r) (ho:OpC P t r q)
 (hv:Value.okWide P w rr b0 t v) (h:DataW.Trod enc P w base spare held t v d p):∃ y,r.rep (fun _=>False) w v y∧q y:=by
 obtain ⟨cs,rfl,hsz⟩:=okWide_struct ht hv
 obtain ⟨fuel,hf⟩:=h
 obtain ⟨v,y,h1,h2,h3⟩:=ho _ _ _ _ _ _ _ _ _ hf
 obtain ⟨ds,rfl⟩:=hr _ _ _ _ h2
 simp [Value.cells] at h1
 subst h1
 exact ⟨y,h2,h3⟩
theorem St0.start {w:World} {D:List Fact} (h:∀ d,d ∈ D→d.p (fun _=>False) w):St0 (fun _=>False) [] w w [] D:=by
 have hE:tot (fun _=>False) []=(fun _=>False):=by funext b; simp [tot,keysL]
 exact ⟨Chg.refl _ _,by simp,fun d hd=>by rw [hE]; exact h d hd,by simp [keysL],by simp [keysL],fun _ h=>h.elim⟩
theorem Chg.below {w w':World} (h:Chg [] w w'):Below w.heap.size w w':=⟨h.os,h.tape,h.output,h.size,fun k hk=>h.block k hk (by simp)⟩
theorem len3 {α:Type} {l:List α} (h:l.length=3):∃ a b c,l=[a,b,c]:=by match l,h with | [a,b,c],_=>exact ⟨a,b,c,rfl⟩
end
theorem fld {α:Type} {x:Option α} {ys:List α} {i:Nat} (h:x=ys[i]?) (hi:i < ys.length):∃ z,x=some z:=⟨ys[i],by rw [h]; exact List.getElem?_eq_getElem hi⟩
end Go.Proofs.Ytffikfajljbmnaa
namespace Go.Proofs.Ytffikfajljbmnaa
open Go.RowKit
open Go.ChangeShapes Go.WideShapes Go.ChangeAt Go.Joins
def wf_api_Grid (x:api_Grid):Prop:=(InK .i64) x.W∧(InK .i64) x.H∧(Wl (fun _=>True)) x.Bits
theorem op_api_Grid:OpC Try.prog 24 r_api_Grid wf_api_Grid:=fun H enc w base spare held fuel cs x h=>by
 obtain ⟨ys,m,_,_,hl,hy,hf⟩:=DataW.trod_struct Try.underlying24 h
 obtain ⟨c0,c1,c2,rfl⟩:=len3 (hl.trans (by kernel_rfl))
 obtain ⟨z0,f0⟩:=fld (hf 0 _ rfl) (by rw [hy]; decide)
 obtain ⟨u0,y0,k0,r0,w0⟩:=(op_int .i64 Try.underlying3) _ _ _ _ _ _ _ _ _ f0
 replace k0:u0.cells.toList=[c0]:=k0.trans (by kernel_rfl)
 obtain rfl:u0=.int .i64 y0:=r0
 obtain rfl:Value.int .i64 y0=c0:=by simpa [Value.cells] using k0
 obtain ⟨z1,f1⟩:=fld (hf 1 _ rfl) (by rw [hy]; decide)
 obtain ⟨u1,y1,k1,r1,w1⟩:=(op_int .i64 Try.underlying3) _ _ _ _ _ _ _ _ _ f1
 replace k1:u1.cells.toList=[c1]:=k1.trans (by kernel_rfl)
 obtain rfl:u1=.int .i64 y1:=r1
 obtain rfl:Value.int .i64 y1=c1:=by simpa [Value.cells] using k1
 obtain ⟨z2,f2⟩:=fld (hf 2 _ rfl) (by rw [hy]; decide)
 obtain ⟨u2,y2,k2,r2,w2⟩:=(op_slice (r:=rB) Try.underlying22 (by kernel_rfl) (op_bool Try.underlying4)) _ _ _ _ _ _ _ _ _ f2
 replace k2:u2.cells.toList=[c2]:=k2.trans (by kernel_rfl)
 rw [scal_L _ _ _ _ _ r2] at k2
 obtain rfl:u2=c2:=by simpa using k2
 exact ⟨_,⟨y0,y1,y2⟩,rfl,⟨_,rfl,r2⟩,⟨w0,w1,w2⟩⟩
end Go.Proofs.Ytffikfajljbmnaa
namespace Go.Proofs.Ytffikfajljbmnaa
open Go.RowKit
def Le {α:Type} (a b:Option α):Prop:=∀ r,a=some r→b=some r
theorem Le.rfl {α:Type} (a:Option α):Le a a:=fun _ h=>h
theorem Le.bind {α β:Type} {a b:Option α} {f g:α→Option β} (h:Le a b) (hf:∀ x,Le (f x) (g x)):Le (Option.bind a f) (Option.bind b g):=by
 intro r hr
 cases ha:a with
 | none=>rw [ha] at hr; cases hr
 | some x=>
  rw [ha] at hr
  rw [h x ha]
  exact hf x r hr
theorem Le.ite {α:Type} {c:Prop} [Decidable c] {a b a' b':Option α} (h:Le a b) (h':Le a' b'):Le (if c then a else a') (if c then b else b'):=by
 by_cases hc:c
 ·rw [if_pos hc,if_pos hc]; exact h
 ·rw [if_neg hc,if_neg hc]; exact h'
theorem Le.sum {α β γ:Type} {f g:α ⊕ β→Option γ} (h:∀ a,Le (f (.inl a)) (g (.inl a))) (h':∀ b,Le (f (.inr b)) (g (.inr b))):∀ z,Le (f z) (g z)
 | .inl a=>h a
 | .inr b=>h' b
theorem Le.prod {α β γ:Type} {f g:α × β→Option γ} (h:∀ a b,Le (f (a,b)) (g (a,b))):∀ z,Le (f z) (g z)
 | (a,b)=>h a b
theorem iterO_Le {σ τ:Type} {B B':σ→Option (σ ⊕ τ)} (h:∀ s,Le (B s) (B' s)):∀ (n:Nat) (s:σ),Le (iterO B n s) (iterO B' n s):=by
 intro n
 induction n with
 | zero=>intro s r hr; cases hr
 | succ n ih=>
  intro s r hr
  unfold iterO at hr ⊢
  cases hB:B s with
  | none=>rw [hB] at hr; cases hr
  | some x=>
   rw [hB] at hr
   rw [h s x hB]
   cases x with
   | inl s'=>exact ih s' r hr
   | inr t=>exact hr
def whileK {σ τ:Type} (B:σ→Option (σ ⊕ τ)) (s:σ):Option τ:=iterO B 1000000 s
theorem Le.loop {σ τ:Type} {B B':σ→Option (σ ⊕ τ)} (s:σ) (h:∀ s,Le (B s) (B' s)):Le (whileK B s) (whileO B' s):=
 fun r hr=>whileO_of (iterO_Le h 1000000 s r hr)
noncomputable def F_stitch_forms (p0:Int):Option (stitch_form × Bool):=
 Option.bind (α:=Bool) (
  if decide (p0 < 1) then
   some true
  else
   some (decide (([(stitch_form.mk (⟨#[]⟩:ByteArray) (0,0) (0,0) true 1 1),(stitch_form.mk (⟨#[]⟩:ByteArray) (0,0) (0,0) false 0 1),(stitch_form.mk (⟨#[102]⟩:ByteArray) (2,4) (0,0) true 2 1),(stitch_form.mk (⟨#[108]⟩:ByteArray) (2,4) (0,0) true 2 1),(stitch_form.mk (⟨#[109]⟩:ByteArray) (2,4) (0,0) true 1 2),(stitch_form.mk (⟨#[120]⟩:ByteArray) (1,6) (1,6) true 3 3),(stitch_form.mk (⟨#[121]⟩:ByteArray) (1,6) (1,6) true 3 3),(stitch_form.mk (⟨#[115]⟩:ByteArray) (0,0) (0,0) true 1 1),(stitch_form.mk (⟨#[]⟩:ByteArray) (1,200) (0,0) false 0 2),(stitch_form.mk (⟨#[111]⟩:ByteArray) (1,200) (0,0) true 2 0)].length:Int) < (IntKind.i64.wrap p0)))) fun a0=>
 if a0 then
  some ((stitch_form.mk (⟨#[]⟩:ByteArray) (0,0) (0,0) false 0 0),false)
 else
  (idxO [(stitch_form.mk (⟨#[]⟩:ByteArray) (0,0) (0,0) true 1 1),(stitch_form.mk (⟨#[]⟩:ByteArray) (0,0) (0,0) false 0 1),(stitch_form.mk (⟨#[102]⟩:ByteArray) (2,4) (0,0) true 2 1),(stitch_form.mk (⟨#[108]⟩:ByteArray) (2,4) (0,0) true 2 1),(stitch_form.mk (⟨#[109]⟩:ByteArray) (2,4) (0,0) true 1 2),(stitch_form.mk (⟨#[120]⟩:ByteArray) (1,6) (1,6) true 3 3),(stitch_form.mk (⟨#[121]⟩:ByteArray) (1,6) (1,6) true 3 3),(stitch_form.mk (⟨#[115]⟩:ByteArray) (0,0) (0,0) true 1 1),(stitch_form.mk (⟨#[]⟩:ByteArray) (1,200) (0,0) false 0 2),(stitch_form.mk (⟨#[111]⟩:ByteArray) (1,200) (0,0) true 2 0)] (IntKind.u8.wrap (p0 - 1))).bind fun a5=>
  some (a5,true)
def c_stitch_forms_val (r:(stitch_form × Bool)) (x:Value):Value:=.tuple #[x,.bool r.2]
def c_stitch_forms_D (r:(stitch_form × Bool)) (x:Value):List Fact:=[fRep r_stitch_form x r.1]
theorem c_stitch_forms (E:Nat→Prop) (w0:World) (p0:Int) (r:(stitch_form × Bool)) (h:F_stitch_forms p0=some r) (S:St0 E [] w0 w0 [] []) :
 Calls Try.prog 103 #[.int .u8 p0] w0 (Ret (X:=Value) E [] w0 (c_stitch_forms_val r) (fun _=>[]) (c_stitch_forms_D r)):=by
 unfold F_stitch_forms at h
 refine sEnter (args:=[.int .u8 p0]) 57 Try.func103 d d (by simp) S (fun a S=>?_)
 refine sSeq (fun K1 ai=>sRegion (sAlloc (gv_stitch_form (stitch_form.mk (⟨#[]⟩:ByteArray) (0,0) (0,0) false 0 0)) S (wN d) d d (gl_stitch_form (stitch_form.mk (⟨#[]⟩:ByteArray) (0,0) (0,0) false 0 0)) d d (lb d) fun a b2 w S=>sN S fun a S=>?_))
 refine lT (ai _ _ (sSeq (fun K3 aj=>sRegion (sBuild [(0,iv 2),(1,iv 4)] [iv 2,iv 4] S (wN d) d d d d (lb d) fun a S=>sBuild [(0,iv 1),(1,iv 6)] [iv 1,iv 6] S (wN d) d d d d (lb d) fun a S=>sAlloc (.agg #[iv 0,iv 0]) S (wN d) d d [iv 0,iv 0] d d (lb d) fun a b4 w S=>sAlloc (.agg #[iv 0,iv 0]) S (wN d) d d [iv 0,iv 0] d d (lb d) fun a b5 w S=>sStore (p:=b4) (off:=0) (T:=154) (vs:=[iv 0,iv 0]) (v:=.agg #[iv 2,iv 4]) 1 [iv 2,iv 4] S (wN d) d d d d d d d (by simp) d fun a w S=>sStore (p:=b5) (off:=0) (T:=154) (vs:=[iv 0,iv 0]) (v:=.agg #[iv 1,iv 6]) 1 [iv 1,iv 6] S (wN d) d d d d d d d (by simp) d fun a w S=>lT (aj _ _ (sSeq (fun K6 ak=>sRegion (sBuild [(0,iv 1),(1,iv 200)] [iv 1,iv 200] S (wN d) d d d d (lb d) fun a S=>sAlloc (.agg #[iv 0,iv 0]) S (wN d) d d [iv 0,iv 0] d d (lb d) fun a b7 w S=>sStore (p:=b7) (off:=0) (T:=154) (vs:=[iv 0,iv 0]) (v:=.agg #[iv 1,iv 200]) 0 [iv 1,iv 200] S (wN d) d d d d d d d (by simp) d fun a w S=>lT (ak _ _ ?_)))))))))
 refine sSeq (fun K8 al=>sRegion (sBuild [] [iv 0,iv 0] S (wN d) d d d d (lb d) fun a S=>sBuild [] [iv 0,iv 0] S (wN d) d d d d (lb d) fun a S=>sBuild [(0,.string (⟨#[]⟩:ByteArray)),(1,.agg #[iv 0,iv 0]),(2,.agg #[iv 0,iv 0]),(3,.bool true),(4,iv 1),(5,iv 1)] (gl_stitch_form (stitch_form.mk (⟨#[]⟩:ByteArray) (0,0) (0,0) true 1 1)) S (wN d) d d d d (lb d) fun a S=>sBuild [] [iv 0,iv 0] S (wN d) d d d d (lb d) fun a S=>sBuild [] [iv 0,iv 0] S (wN d) d d d d (lb d) fun a S=>sBuild [(0,.string (⟨#[]⟩:ByteArray)),(1,.agg #[iv 0,iv 0]),(2,.agg #[iv 0,iv 0]),(3,.bool false),(4,iv 0),(5,iv 1)] (gl_stitch_form (stitch_form.mk (⟨#[]⟩:ByteArray) (0,0) (0,0) false 0 1)) S (wN d) d d d d (lb d) fun a S=>sLoadN (p:=b4) (off:=0) (T:=154) (vs:=[iv 2,iv 4]) 2 [iv 2,iv 4] S (wN d) d d d d d d d (lb d) fun a S=>sBuild [] [iv 0,iv 0] S (wN d) d d d d (lb d) fun a S=>sBuild [(0,.string (⟨#[102]⟩:ByteArray)),(1,.agg #[iv 2,iv 4]),(2,.agg #[iv 0,iv 0]),(3,.bool true),(4,iv 2),(5,iv 1)] (gl_stitch_form (stitch_form.mk (⟨#[102]⟩:ByteArray) (2,4) (0,0) true 2 1)) S (wN d) d d d d (lb d) fun a S=>sLoadN (p:=b4) (off:=0) (T:=154) (vs:=[iv 2,iv 4]) 2 [iv 2,iv 4] S (wN d) d d d d d d d (lb d) fun a S=>sBuild [] [iv 0,iv 0] S (wN d) d d d d (lb d) fun a S=>sBuild [(0,.string (⟨#[108]⟩:ByteArray)),(1,.agg #[iv 2,iv 4]),(2,.agg #[iv 0,iv 0]),(3,.bool true),(4,iv 2),(5,iv 1)] (gl_stitch_form (stitch_form.mk (⟨#[108]⟩:ByteArray) (2,4) (0,0) true 2 1)) S (wN d) d d d d (lb d) fun a S=>sLoadN (p:=b4) (off:=0) (T:=154) (vs:=[iv 2,iv 4]) 2 [iv 2,iv 4] S (wN d) d d d d d d d (lb d) fun a S=>sBuild [] [iv 0,iv 0] S (wN d) d d d d (lb d) fun a S=>?_))
 refine sBuild [(0,.string (⟨#[109]⟩:ByteArray)),(1,.agg #[iv 2,iv 4]),(2,.agg #[iv 0,iv 0]),(3,.bool true),(4,iv 1),(5,iv 2)] (gl_stitch_form (stitch_form.mk (⟨#[109]⟩:ByteArray) (2,4) (0,0) true 1 2)) S (wN d) d d d d (lb d) fun a S=>sLoadN (p:=b5) (off:=0) (T:=154) (vs:=[iv 1,iv 6]) 1 [iv 1,iv 6] S (wN d) d d d d d d d (lb d) fun a S=>sLoadN (p:=b5) (off:=0) (T:=154) (vs:=[iv 1,iv 6]) 1 [iv 1,iv 6] S (wN d) d d d d d d d (lb d) fun a S=>sBuild [(0,.string (⟨#[120]⟩:ByteArray)),(1,.agg #[iv 1,iv 6]),(2,.agg #[iv 1,iv 6]),(3,.bool true),(4,iv 3),(5,iv 3)] (gl_stitch_form (stitch_form.mk (⟨#[120]⟩:ByteArray) (1,6) (1,6) true 3 3)) S (wN d) d d d d (lb d) fun a S=>sLoadN (p:=b5) (off:=0) (T:=154) (vs:=[iv 1,iv 6]) 1 [iv 1,iv 6] S (wN d) d d d d d d d (lb d) fun a S=>sLoadN (p:=b5) (off:=0) (T:=154) (vs:=[iv 1,iv 6]) 1 [iv 1,iv 6] S (wN d) d d d d d d d (lb d) fun a S=>sBuild [(0,.string (⟨#[121]⟩:ByteArray)),(1,.agg #[iv 1,iv 6]),(2,.agg #[iv 1,iv 6]),(3,.bool true),(4,iv 3),(5,iv 3)] (gl_stitch_form (stitch_form.mk (⟨#[121]⟩:ByteArray) (1,6) (1,6) true 3 3)) S (wN d) d d d d (lb d) fun a S=>sBuild [] [iv 0,iv 0] S (wN d) d d d d (lb d) fun a S=>sBuild [] [iv 0,iv 0] S (wN d) d d d d (lb d) fun a S=>sBuild [(0,.string (⟨#[115]⟩:ByteArray)),(1,.agg #[iv 0,iv 0]),(2,.agg #[iv 0,iv 0]),(3,.bool true),(4,iv 1),(5,iv 1)] (gl_stitch_form (stitch_form.mk (⟨#[115]⟩:ByteArray) (0,0) (0,0) true 1 1)) S (wN d) d d d d (lb d) fun a S=>sLoadN (p:=b7) (off:=0) (T:=154) (vs:=[iv 1,iv 200]) 0 [iv 1,iv 200] S (wN d) d d d d d d d (lb d) fun a S=>sBuild [] [iv 0,iv 0] S (wN d) d d d d (lb d) fun a S=>sBuild [(0,.string (⟨#[]⟩:ByteArray)),(1,.agg #[iv 1,iv 200]),(2,.agg #[iv 0,iv 0]),(3,.bool false),(4,iv 0),(5,iv 2)] (gl_stitch_form (stitch_form.mk (⟨#[]⟩:ByteArray) (1,200) (0,0) false 0 2)) S (wN d) d d d d (lb d) fun a S=>sLoadN (p:=b7) (off:=0) (T:=154) (vs:=[iv 1,iv 200]) 0 [iv 1,iv 200] S (wN d) d d d d d d d (lb d) fun a S=>sBuild [] [iv 0,iv 0] S (wN d) d d d d (lb d) fun a S=>sBuild [(0,.string (⟨#[111]⟩:ByteArray)),(1,.agg #[iv 1,iv 200]),(2,.agg #[iv 0,iv 0]),(3,.bool true),(4,iv 2),(5,iv 0)] (gl_stitch_form (stitch_form.mk (⟨#[111]⟩:ByteArray) (1,200) (0,0) true 2 0)) S (wN d) d d d d (lb d) fun a S=>?_
 have S:=S.learn (fRep r_stitch_form (gv_stitch_form (stitch_form.mk (⟨#[]⟩:ByteArray) (0,0) (0,0) true 1 1)) (stitch_form.mk (⟨#[]⟩:ByteArray) (0,0) (0,0) true 1 1)) d
 have S:=S.learn (fRep r_stitch_form (gv_stitch_form (stitch_form.mk (⟨#[]⟩:ByteArray) (0,0) (0,0) false 0 1)) (stitch_form.mk (⟨#[]⟩:ByteArray) (0,0) (0,0) false 0 1)) d
 have S:=S.learn (fRep r_stitch_form (gv_stitch_form (stitch_form.mk (⟨#[102]⟩:ByteArray) (2,4) (0,0) true 2 1)) (stitch_form.mk (⟨#[102]⟩:ByteArray) (2,4) (0,0) true 2 1)) d
 have S:=S.learn (fRep r_stitch_form (gv_stitch_form (stitch_form.mk (⟨#[108]⟩:ByteArray) (2,4) (0,0) true 2 1)) (stitch_form.mk (⟨#[108]⟩:ByteArray) (2,4) (0,0) true 2 1)) d
 have S:=S.learn (fRep r_stitch_form (gv_stitch_form (stitch_form.mk (⟨#[109]⟩:ByteArray) (2,4) (0,0) true 1 2)) (stitch_form.mk (⟨#[109]⟩:ByteArray) (2,4) (0,0) true 1 2)) d
 have S:=S.learn (fRep r_stitch_form (gv_stitch_form (stitch_form.mk (⟨#[120]⟩:ByteArray) (1,6) (1,6) true 3 3)) (stitch_form.mk (⟨#[120]⟩:ByteArray) (1,6) (1,6) true 3 3)) d
 have S:=S.learn (fRep r_stitch_form (gv_stitch_form (stitch_form.mk (⟨#[121]⟩:ByteArray) (1,6) (1,6) true 3 3)) (stitch_form.mk (⟨#[121]⟩:ByteArray) (1,6) (1,6) true 3 3)) d
 have S:=S.learn (fRep r_stitch_form (gv_stitch_form (stitch_form.mk (⟨#[115]⟩:ByteArray) (0,0) (0,0) true 1 1)) (stitch_form.mk (⟨#[115]⟩:ByteArray) (0,0) (0,0) true 1 1)) d
 have S:=S.learn (fRep r_stitch_form (gv_stitch_form (stitch_form.mk (⟨#[]⟩:ByteArray) (1,200) (0,0) false 0 2)) (stitch_form.mk (⟨#[]⟩:ByteArray) (1,200) (0,0) false 0 2)) d
 have S:=S.learn (fRep r_stitch_form (gv_stitch_form (stitch_form.mk (⟨#[111]⟩:ByteArray) (1,200) (0,0) true 2 0)) (stitch_form.mk (⟨#[111]⟩:ByteArray) (1,200) (0,0) true 2 0)) d
 refine sLit (r:=r_stitch_form) (T:=156) (xs:=[(stitch_form.mk (⟨#[]⟩:ByteArray) (0,0) (0,0) true 1 1),(stitch_form.mk (⟨#[]⟩:ByteArray) (0,0) (0,0) false 0 1),(stitch_form.mk (⟨#[102]⟩:ByteArray) (2,4) (0,0) true 2 1),(stitch_form.mk (⟨#[108]⟩:ByteArray) (2,4) (0,0) true 2 1),(stitch_form.mk (⟨#[109]⟩:ByteArray) (2,4) (0,0) true 1 2),(stitch_form.mk (⟨#[120]⟩:ByteArray) (1,6) (1,6) true 3 3),(stitch_form.mk (⟨#[121]⟩:ByteArray) (1,6) (1,6) true 3 3),(stitch_form.mk (⟨#[115]⟩:ByteArray) (0,0) (0,0) true 1 1),(stitch_form.mk (⟨#[]⟩:ByteArray) (1,200) (0,0) false 0 2),(stitch_form.mk (⟨#[111]⟩:ByteArray) (1,200) (0,0) true 2 0)]) [(0,gv_stitch_form (stitch_form.mk (⟨#[]⟩:ByteArray) (0,0) (0,0) true 1 1)),(1,gv_stitch_form (stitch_form.mk (⟨#[]⟩:ByteArray) (0,0) (0,0) false 0 1)),(2,gv_stitch_form (stitch_form.mk (⟨#[102]⟩:ByteArray) (2,4) (0,0) true 2 1)),(3,gv_stitch_form (stitch_form.mk (⟨#[108]⟩:ByteArray) (2,4) (0,0) true 2 1)),(4,gv_stitch_form (stitch_form.mk (⟨#[109]⟩:ByteArray) (2,4) (0,0) true 1 2)),(5,gv_stitch_form (stitch_form.mk (⟨#[120]⟩:ByteArray) (1,6) (1,6) true 3 3)),(6,gv_stitch_form (stitch_form.mk (⟨#[121]⟩:ByteArray) (1,6) (1,6) true 3 3)),(7,gv_stitch_form (stitch_form.mk (⟨#[115]⟩:ByteArray) (0,0) (0,0) true 1 1)),(8,gv_stitch_form (stitch_form.mk (⟨#[]⟩:ByteArray) (1,200) (0,0) false 0 2)),(9,gv_stitch_form (stitch_form.mk (⟨#[111]⟩:ByteArray) (1,200) (0,0) true 2 0))] 10 [gv_stitch_form (stitch_form.mk (⟨#[]⟩:ByteArray) (0,0) (0,0) true 1 1),gv_stitch_form (stitch_form.mk (⟨#[]⟩:ByteArray) (0,0) (0,0) false 0 1),gv_stitch_form (stitch_form.mk (⟨#[102]⟩:ByteArray) (2,4) (0,0) true 2 1),gv_stitch_form (stitch_form.mk (⟨#[108]⟩:ByteArray) (2,4) (0,0) true 2 1),gv_stitch_form (stitch_form.mk (⟨#[109]⟩:ByteArray) (2,4) (0,0) true 1 2),gv_stitch_form (stitch_form.mk (⟨#[120]⟩:ByteArray) (1,6) (1,6) true 3 3),gv_stitch_form (stitch_form.mk (⟨#[121]⟩:ByteArray) (1,6) (1,6) true 3 3),gv_stitch_form (stitch_form.mk (⟨#[115]⟩:ByteArray) (0,0) (0,0) true 1 1),gv_stitch_form (stitch_form.mk (⟨#[]⟩:ByteArray) (1,200) (0,0) false 0 2),gv_stitch_form (stitch_form.mk (⟨#[111]⟩:ByteArray) (1,200) (0,0) true 2 0)] [.string (⟨#[]⟩:ByteArray),iv 0,iv 0,iv 0,iv 0,.bool true,iv 1,iv 1,.string (⟨#[]⟩:ByteArray),iv 0,iv 0,iv 0,iv 0,.bool false,iv 0,iv 1,.string (⟨#[102]⟩:ByteArray),iv 2,iv 4,iv 0,iv 0,.bool true,iv 2,iv 1,.string (⟨#[108]⟩:ByteArray),iv 2,iv 4,iv 0,iv 0,.bool true,iv 2,iv 1,.string (⟨#[109]⟩:ByteArray),iv 2,iv 4,iv 0,iv 0,.bool true,iv 1,iv 2,.string (⟨#[120]⟩:ByteArray),iv 1,iv 6,iv 1,iv 6,.bool true,iv 3,iv 3,.string (⟨#[121]⟩:ByteArray),iv 1,iv 6,iv 1,iv 6,.bool true,iv 3,iv 3,.string (⟨#[115]⟩:ByteArray),iv 0,iv 0,iv 0,iv 0,.bool true,iv 1,iv 1,.string (⟨#[]⟩:ByteArray),iv 1,iv 200,iv 0,iv 0,.bool false,iv 0,iv 2,.string (⟨#[111]⟩:ByteArray),iv 1,iv 200,iv 0,iv 0,.bool true,iv 2,iv 0] (gv_stitch_form (stitch_form.mk (⟨#[]⟩:ByteArray) (0,0) (0,0) false 0 0)) 72 S (wN d) d d Try.underlying165 d (by decide) (by decide) (by kernel_rfl) d (fun E1 w1 hE=>All.cons (r_stitch_form.mono hE (S.mem.know (i:=9) (e:=fRep r_stitch_form (gv_stitch_form (stitch_form.mk (⟨#[]⟩:ByteArray) (0,0) (0,0) true 1 1)) (stitch_form.mk (⟨#[]⟩:ByteArray) (0,0) (0,0) true 1 1)) d)) (All.cons (r_stitch_form.mono hE (S.mem.know (i:=8) (e:=fRep r_stitch_form (gv_stitch_form (stitch_form.mk (⟨#[]⟩:ByteArray) (0,0) (0,0) false 0 1)) (stitch_form.mk (⟨#[]⟩:ByteArray) (0,0) (0,0) false 0 1)) d)) (All.cons (r_stitch_form.mono hE (S.mem.know (i:=7) (e:=fRep r_stitch_form (gv_stitch_form (stitch_form.mk (⟨#[102]⟩:ByteArray) (2,4) (0,0) true 2 1)) (stitch_form.mk (⟨#[102]⟩:ByteArray) (2,4) (0,0) true 2 1)) d)) (All.cons (r_stitch_form.mono hE (S.mem.know (i:=6) (e:=fRep r_stitch_form (gv_stitch_form (stitch_form.mk (⟨#[108]⟩:ByteArray) (2,4) (0,0) true 2 1)) (stitch_form.mk (⟨#[108]⟩:ByteArray) (2,4) (0,0) true 2 1)) d)) (All.cons (r_stitch_form.mono hE (S.mem.know (i:=5) (e:=fRep r_stitch_form (gv_stitch_form (stitch_form.mk (⟨#[109]⟩:ByteArray) (2,4) (0,0) true 1 2)) (stitch_form.mk (⟨#[109]⟩:ByteArray) (2,4) (0,0) true 1 2)) d)) (All.cons (r_stitch_form.mono hE (S.mem.know (i:=4) (e:=fRep r_stitch_form (gv_stitch_form (stitch_form.mk (⟨#[120]⟩:ByteArray) (1,6) (1,6) true 3 3)) (stitch_form.mk (⟨#[120]⟩:ByteArray) (1,6) (1,6) true 3 3)) d)) (All.cons (r_stitch_form.mono hE (S.mem.know (i:=3) (e:=fRep r_stitch_form (gv_stitch_form (stitch_form.mk (⟨#[121]⟩:ByteArray) (1,6) (1,6) true 3 3)) (stitch_form.mk (⟨#[121]⟩:ByteArray) (1,6) (1,6) true 3 3)) d)) (All.cons (r_stitch_form.mono hE (S.mem.know (i:=2) (e:=fRep r_stitch_form (gv_stitch_form (stitch_form.mk (⟨#[115]⟩:ByteArray) (0,0) (0,0) true 1 1)) (stitch_form.mk (⟨#[115]⟩:ByteArray) (0,0) (0,0) true 1 1)) d)) (All.cons (r_stitch_form.mono hE (S.mem.know (i:=1) (e:=fRep r_stitch_form (gv_stitch_form (stitch_form.mk (⟨#[]⟩:ByteArray) (1,200) (0,0) false 0 2)) (stitch_form.mk (⟨#[]⟩:ByteArray) (1,200) (0,0) false 0 2)) d)) (All.cons (r_stitch_form.mono hE (S.mem.know (i:=0) (e:=fRep r_stitch_form (gv_stitch_form (stitch_form.mk (⟨#[111]⟩:ByteArray) (1,200) (0,0) true 2 0)) (stitch_form.mk (⟨#[111]⟩:ByteArray) (1,200) (0,0) true 2 0)) d)) (All.nil _ _ _))))))))))) d d (lb d) fun a w a8 a6 S=>?_
 refine sN S fun a S=>?_
 refine lT (al _ _ (sSeq (fun ap a9=>?_)))
 obtain ⟨am,h,ao⟩:=bS h
 refine sCut (fun a w=>∃ aa,aa=am∧St [] E [] w0 57 a w [(0,.int .u8 p0),(2,.pointer (some ⟨b2,0,none⟩)),(7,.slice a8 [(stitch_form.mk (⟨#[]⟩:ByteArray) (0,0) (0,0) true 1 1),(stitch_form.mk (⟨#[]⟩:ByteArray) (0,0) (0,0) false 0 1),(stitch_form.mk (⟨#[102]⟩:ByteArray) (2,4) (0,0) true 2 1),(stitch_form.mk (⟨#[108]⟩:ByteArray) (2,4) (0,0) true 2 1),(stitch_form.mk (⟨#[109]⟩:ByteArray) (2,4) (0,0) true 1 2),(stitch_form.mk (⟨#[120]⟩:ByteArray) (1,6) (1,6) true 3 3),(stitch_form.mk (⟨#[121]⟩:ByteArray) (1,6) (1,6) true 3 3),(stitch_form.mk (⟨#[115]⟩:ByteArray) (0,0) (0,0) true 1 1),(stitch_form.mk (⟨#[]⟩:ByteArray) (1,200) (0,0) false 0 2),(stitch_form.mk (⟨#[111]⟩:ByteArray) (1,200) (0,0) true 2 0)].length a6),(50,.bool aa)] [eBox b2 156 (gl_stitch_form (stitch_form.mk (⟨#[]⟩:ByteArray) (0,0) (0,0) false 0 0)),eRow r_stitch_form 156 (.slice a8 [(stitch_form.mk (⟨#[]⟩:ByteArray) (0,0) (0,0) true 1 1),(stitch_form.mk (⟨#[]⟩:ByteArray) (0,0) (0,0) false 0 1),(stitch_form.mk (⟨#[102]⟩:ByteArray) (2,4) (0,0) true 2 1),(stitch_form.mk (⟨#[108]⟩:ByteArray) (2,4) (0,0) true 2 1),(stitch_form.mk (⟨#[109]⟩:ByteArray) (2,4) (0,0) true 1 2),(stitch_form.mk (⟨#[120]⟩:ByteArray) (1,6) (1,6) true 3 3),(stitch_form.mk (⟨#[121]⟩:ByteArray) (1,6) (1,6) true 3 3),(stitch_form.mk (⟨#[115]⟩:ByteArray) (0,0) (0,0) true 1 1),(stitch_form.mk (⟨#[]⟩:ByteArray) (1,200) (0,0) false 0 2),(stitch_form.mk (⟨#[111]⟩:ByteArray) (1,200) (0,0) true 2 0)].length a6) [(stitch_form.mk (⟨#[]⟩:ByteArray) (0,0) (0,0) true 1 1),(stitch_form.mk (⟨#[]⟩:ByteArray) (0,0) (0,0) false 0 1),(stitch_form.mk (⟨#[102]⟩:ByteArray) (2,4) (0,0) true 2 1),(stitch_form.mk (⟨#[108]⟩:ByteArray) (2,4) (0,0) true 2 1),(stitch_form.mk (⟨#[109]⟩:ByteArray) (2,4) (0,0) true 1 2),(stitch_form.mk (⟨#[120]⟩:ByteArray) (1,6) (1,6) true 3 3),(stitch_form.mk (⟨#[121]⟩:ByteArray) (1,6) (1,6) true 3 3),(stitch_form.mk (⟨#[115]⟩:ByteArray) (0,0) (0,0) true 1 1),(stitch_form.mk (⟨#[]⟩:ByteArray) (1,200) (0,0) false 0 2),(stitch_form.mk (⟨#[111]⟩:ByteArray) (1,200) (0,0) true 2 0)]] []) ?_ (fun a w hI=>?_)
 ·refine sRegion (sM S fun a S=>?_)
  refine sBin _ S (wN d) d d d (bLt _ _ _ _ .u8 p0 1) d (lb d) fun a S=>sM S fun a S=>?_
  rcases iS h with ⟨a5,h⟩ | ⟨a5,h⟩
  ·refine sSkN 5 2 false 44 S d d a5 d fun a S=>sPickT (.bool true) S (wN d) d d a5 d d (lb d) fun a S=>?_
   exact lT (⟨true,Option.some.inj h,S.fix [4,0] [] (by decide) d d d⟩)
  refine sMove (.int .u8 p0) S (wG 2 false 44 d d d a5) (.inl d) d d (lb d) fun a S=>sConv (k:=.u8) (k2:=.i64) (b:=p0) S (wG 2 false 44 d d d a5) d Try.underlying5 Try.underlying3 d d (lb d) fun a S=>sMove (.slice a8 [(stitch_form.mk (⟨#[]⟩:ByteArray) (0,0) (0,0) true 1 1),(stitch_form.mk (⟨#[]⟩:ByteArray) (0,0) (0,0) false 0 1),(stitch_form.mk (⟨#[102]⟩:ByteArray) (2,4) (0,0) true 2 1),(stitch_form.mk (⟨#[108]⟩:ByteArray) (2,4) (0,0) true 2 1),(stitch_form.mk (⟨#[109]⟩:ByteArray) (2,4) (0,0) true 1 2),(stitch_form.mk (⟨#[120]⟩:ByteArray) (1,6) (1,6) true 3 3),(stitch_form.mk (⟨#[121]⟩:ByteArray) (1,6) (1,6) true 3 3),(stitch_form.mk (⟨#[115]⟩:ByteArray) (0,0) (0,0) true 1 1),(stitch_form.mk (⟨#[]⟩:ByteArray) (1,200) (0,0) false 0 2),(stitch_form.mk (⟨#[111]⟩:ByteArray) (1,200) (0,0) true 2 0)].length a6) S (wG 2 false 44 d d d a5) (.inl d) d d (lb d) fun a S=>sLen S (wG 2 false 44 d d d a5) d Try.underlying165 d d (lb d) fun a S=>sBin _ S (wG 2 false 44 d d d a5) d d d (bGt _ _ _ _ .i64 (IntKind.i64.wrap p0) ([(stitch_form.mk (⟨#[]⟩:ByteArray) (0,0) (0,0) true 1 1),(stitch_form.mk (⟨#[]⟩:ByteArray) (0,0) (0,0) false 0 1),(stitch_form.mk (⟨#[102]⟩:ByteArray) (2,4) (0,0) true 2 1),(stitch_form.mk (⟨#[108]⟩:ByteArray) (2,4) (0,0) true 2 1),(stitch_form.mk (⟨#[109]⟩:ByteArray) (2,4) (0,0) true 1 2),(stitch_form.mk (⟨#[120]⟩:ByteArray) (1,6) (1,6) true 3 3),(stitch_form.mk (⟨#[121]⟩:ByteArray) (1,6) (1,6) true 3 3),(stitch_form.mk (⟨#[115]⟩:ByteArray) (0,0) (0,0) true 1 1),(stitch_form.mk (⟨#[]⟩:ByteArray) (1,200) (0,0) false 0 2),(stitch_form.mk (⟨#[111]⟩:ByteArray) (1,200) (0,0) true 2 0)].length:Int)) d (lb d) fun a S=>sPickF (.bool (decide (([(stitch_form.mk (⟨#[]⟩:ByteArray) (0,0) (0,0) true 1 1),(stitch_form.mk (⟨#[]⟩:ByteArray) (0,0) (0,0) false 0 1),(stitch_form.mk (⟨#[102]⟩:ByteArray) (2,4) (0,0) true 2 1),(stitch_form.mk (⟨#[108]⟩:ByteArray) (2,4) (0,0) true 2 1),(stitch_form.mk (⟨#[109]⟩:ByteArray) (2,4) (0,0) true 1 2),(stitch_form.mk (⟨#[120]⟩:ByteArray) (1,6) (1,6) true 3 3),(stitch_form.mk (⟨#[121]⟩:ByteArray) (1,6) (1,6) true 3 3),(stitch_form.mk (⟨#[115]⟩:ByteArray) (0,0) (0,0) true 1 1),(stitch_form.mk (⟨#[]⟩:ByteArray) (1,200) (0,0) false 0 2),(stitch_form.mk (⟨#[111]⟩:ByteArray) (1,200) (0,0) true 2 0)].length:Int) < (IntKind.i64.wrap p0)))) S (wN d) d d a5 d d (lb d) fun a S=>?_
  exact lT (⟨decide (([(stitch_form.mk (⟨#[]⟩:ByteArray) (0,0) (0,0) true 1 1),(stitch_form.mk (⟨#[]⟩:ByteArray) (0,0) (0,0) false 0 1),(stitch_form.mk (⟨#[102]⟩:ByteArray) (2,4) (0,0) true 2 1),(stitch_form.mk (⟨#[108]⟩:ByteArray) (2,4) (0,0) true 2 1),(stitch_form.mk (⟨#[109]⟩:ByteArray) (2,4) (0,0) true 1 2),(stitch_form.mk (⟨#[120]⟩:ByteArray) (1,6) (1,6) true 3 3),(stitch_form.mk (⟨#[121]⟩:ByteArray) (1,6) (1,6) true 3 3),(stitch_form.mk (⟨#[115]⟩:ByteArray) (0,0) (0,0) true 1 1),(stitch_form.mk (⟨#[]⟩:ByteArray) (1,200) (0,0) false 0 2),(stitch_form.mk (⟨#[111]⟩:ByteArray) (1,200) (0,0) true 2 0)].length:Int) < (IntKind.i64.wrap p0)),Option.some.inj h,S.fix [4,0] [] (by decide) d d d⟩)
 obtain ⟨aa,rfl,S⟩:=hI
 have h:=ao
 try dsimp only at h
 rcases iS h with ⟨a7,h⟩ | ⟨a7,h⟩
 ·refine sCondT S d a7 (sSeq (fun aq ab=>sRegion (sBuild [] (gl_stitch_form (stitch_form.mk (⟨#[]⟩:ByteArray) (0,0) (0,0) false 0 0)) S (wN d) d d d d (lb d) fun a S=>sStore (p:=b2) (off:=0) (T:=156) (vs:=[.string (⟨#[]⟩:ByteArray),iv 0,iv 0,iv 0,iv 0,.bool false,iv 0,iv 0]) (v:=gv_stitch_form (stitch_form.mk (⟨#[]⟩:ByteArray) (0,0) (0,0) false 0 0)) 0 [.string (⟨#[]⟩:ByteArray),iv 0,iv 0,iv 0,iv 0,.bool false,iv 0,iv 0] S (wN d) d d d d d d d (by simp) d fun a w S=>sN S fun a S=>?_)))
  refine lT (ab _ _ ?_)
  obtain rfl:=tS h
  have S:=S.learn (fRep r_stitch_form (gv_stitch_form (stitch_form.mk (⟨#[]⟩:ByteArray) (0,0) (0,0) false 0 0)) (stitch_form.mk (⟨#[]⟩:ByteArray) (0,0) (0,0) false 0 0)) d
  exact wp_ret (rThen (sRet (.tuple #[gv_stitch_form (stitch_form.mk (⟨#[]⟩:ByteArray) (0,0) (0,0) false 0 0),.bool false]) S (rsl2 d (rvN (c:=2) (t:=156) (T:=156) (p:=b2) 0 [.string (⟨#[]⟩:ByteArray),iv 0,iv 0,iv 0,iv 0,.bool false,iv 0,iv 0] S d d d d) (rvT (t:=3) (v:=.bool false) S d)) ⟨(gv_stitch_form (stitch_form.mk (⟨#[]⟩:ByteArray) (0,0) (0,0) false 0 0)),d,S.mem.sel [] [0] (by decide) d d⟩))
 refine sCondF S d a7 (wp_skip (leafT (a9 _ _ ?_)))
 refine sSeq (fun ar ac=>sRegion (sM S fun a S=>?_))
 refine sM S fun a S=>?_
 refine sBin _ S (wN d) d d d (bSubK _ _ _ _ .u8 p0 1) d (lb d) fun a S=>?_
 obtain ⟨a0,ae,h⟩:=bS h
 have S:=S.shutR (r:=r_stitch_form) (T:=156) (v:=.slice a8 [(stitch_form.mk (⟨#[]⟩:ByteArray) (0,0) (0,0) true 1 1),(stitch_form.mk (⟨#[]⟩:ByteArray) (0,0) (0,0) false 0 1),(stitch_form.mk (⟨#[102]⟩:ByteArray) (2,4) (0,0) true 2 1),(stitch_form.mk (⟨#[108]⟩:ByteArray) (2,4) (0,0) true 2 1),(stitch_form.mk (⟨#[109]⟩:ByteArray) (2,4) (0,0) true 1 2),(stitch_form.mk (⟨#[120]⟩:ByteArray) (1,6) (1,6) true 3 3),(stitch_form.mk (⟨#[121]⟩:ByteArray) (1,6) (1,6) true 3 3),(stitch_form.mk (⟨#[115]⟩:ByteArray) (0,0) (0,0) true 1 1),(stitch_form.mk (⟨#[]⟩:ByteArray) (1,200) (0,0) false 0 2),(stitch_form.mk (⟨#[111]⟩:ByteArray) (1,200) (0,0) true 2 0)].length a6) (xs:=[(stitch_form.mk (⟨#[]⟩:ByteArray) (0,0) (0,0) true 1 1),(stitch_form.mk (⟨#[]⟩:ByteArray) (0,0) (0,0) false 0 1),(stitch_form.mk (⟨#[102]⟩:ByteArray) (2,4) (0,0) true 2 1),(stitch_form.mk (⟨#[108]⟩:ByteArray) (2,4) (0,0) true 2 1),(stitch_form.mk (⟨#[109]⟩:ByteArray) (2,4) (0,0) true 1 2),(stitch_form.mk (⟨#[120]⟩:ByteArray) (1,6) (1,6) true 3 3),(stitch_form.mk (⟨#[121]⟩:ByteArray) (1,6) (1,6) true 3 3),(stitch_form.mk (⟨#[115]⟩:ByteArray) (0,0) (0,0) true 1 1),(stitch_form.mk (⟨#[]⟩:ByteArray) (1,200) (0,0) false 0 2),(stitch_form.mk (⟨#[111]⟩:ByteArray) (1,200) (0,0) true 2 0)]) 1 d
 obtain ⟨ag,af,S⟩:=pIdx (P:=Try.prog) (r:=r_stitch_form) (v:=.slice a8 [(stitch_form.mk (⟨#[]⟩:ByteArray) (0,0) (0,0) true 1 1),(stitch_form.mk (⟨#[]⟩:ByteArray) (0,0) (0,0) false 0 1),(stitch_form.mk (⟨#[102]⟩:ByteArray) (2,4) (0,0) true 2 1),(stitch_form.mk (⟨#[108]⟩:ByteArray) (2,4) (0,0) true 2 1),(stitch_form.mk (⟨#[109]⟩:ByteArray) (2,4) (0,0) true 1 2),(stitch_form.mk (⟨#[120]⟩:ByteArray) (1,6) (1,6) true 3 3),(stitch_form.mk (⟨#[121]⟩:ByteArray) (1,6) (1,6) true 3 3),(stitch_form.mk (⟨#[115]⟩:ByteArray) (0,0) (0,0) true 1 1),(stitch_form.mk (⟨#[]⟩:ByteArray) (1,200) (0,0) false 0 2),(stitch_form.mk (⟨#[111]⟩:ByteArray) (1,200) (0,0) true 2 0)].length a6) (xs:=[(stitch_form.mk (⟨#[]⟩:ByteArray) (0,0) (0,0) true 1 1),(stitch_form.mk (⟨#[]⟩:ByteArray) (0,0) (0,0) false 0 1),(stitch_form.mk (⟨#[102]⟩:ByteArray) (2,4) (0,0) true 2 1),(stitch_form.mk (⟨#[108]⟩:ByteArray) (2,4) (0,0) true 2 1),(stitch_form.mk (⟨#[109]⟩:ByteArray) (2,4) (0,0) true 1 2),(stitch_form.mk (⟨#[120]⟩:ByteArray) (1,6) (1,6) true 3 3),(stitch_form.mk (⟨#[121]⟩:ByteArray) (1,6) (1,6) true 3 3),(stitch_form.mk (⟨#[115]⟩:ByteArray) (0,0) (0,0) true 1 1),(stitch_form.mk (⟨#[]⟩:ByteArray) (1,200) (0,0) false 0 2),(stitch_form.mk (⟨#[111]⟩:ByteArray) (1,200) (0,0) true 2 0)]) (j:=IntKind.u8.wrap (p0 - 1)) 165 156 0 S Try.underlying165 d d ae
 refine sIdxV S (wN d) d d d af d (lb d) fun a S=>?_
 obtain ⟨ah,S⟩:=pLoad (r:=r_stitch_form) (q:=ag) (x:=a0) 0 S d
 obtain rfl:ah=gv_stitch_form a0:=S.mem.know (i:=1) (e:=fRep r_stitch_form (ah) a0) d
 refine sLoadVN (vq:=ag) 0 [.string a0.letter,iv a0.a.1,iv a0.a.2,iv a0.b.1,iv a0.b.2,.bool a0.sided,iv a0.uses,iv a0.made] S (wN d) d d d d d d (lb d) fun a S=>sStore (p:=b2) (off:=0) (T:=156) (vs:=[.string (⟨#[]⟩:ByteArray),iv 0,iv 0,iv 0,iv 0,.bool false,iv 0,iv 0]) (v:=gv_stitch_form a0) 0 [.string a0.letter,iv a0.a.1,iv a0.a.2,iv a0.b.1,iv a0.b.2,.bool a0.sided,iv a0.uses,iv a0.made] S (wN d) d d d d d d d (by simp) d fun a w S=>sN S fun a S=>?_
 refine lT (ac _ _ ?_)
 obtain rfl:=tS h
 exact wp_ret (sRet (.tuple #[gv_stitch_form a0,.bool true]) S (rsl2 d (rvN (c:=2) (t:=156) (T:=156) (p:=b2) 0 [.string a0.letter,iv a0.a.1,iv a0.a.2,iv a0.b.1,iv a0.b.2,.bool a0.sided,iv a0.uses,iv a0.made] S d d d d) (rvT (t:=3) (v:=.bool true) S d)) ⟨(gv_stitch_form a0),d,S.mem.sel [] [1] (by decide) d d⟩)
noncomputable def F_stitch_within (p0:Int) (p1:(Int × Int)):Option Bool:=
 Option.bind (α:=Bool) (
  if decide (p1.1 ≤ p0) then
   some (decide (p0 ≤ p1.2))
  else
   some false) fun o3=>
 some o3
theorem c_stitch_within (E:Nat→Prop) (w0:World) (p0:Int) (p1:(Int × Int)) (v1:Value) (r:Bool) (h:F_stitch_within p0 p1=some r) (S:St0 E [] w0 w0 [] [fRep r_A2_Int (v1) p1]) :
 Calls Try.prog 104 #[iv p0,v1] w0 (Ret (X:=Unit) E [] w0 (fun _=>.bool r) (fun _=>[]) (fun _=>[])):=by
 unfold F_stitch_within at h
 obtain rfl:v1=.agg #[iv p1.1,iv p1.2]:=S.know (i:=0) (e:=fRep r_A2_Int (v1) p1) d
 refine sEnter (args:=[iv p0,.agg #[iv p1.1,iv p1.2]]) 15 Try.func104 d d (by simp) S (fun a S=>?_)
 refine sSeq (fun K1 a5=>sRegion (sBox (v:=.agg #[iv p1.1,iv p1.2]) S (wN d) d d [iv p1.1,iv p1.2] d d (lb d) fun a b2 w S=>sN S fun a S=>?_))
 refine lT (a5 _ _ ?_)
 obtain ⟨t4,h,g5⟩:=bS h
 refine sCut (fun a w=>∃ o3,o3=t4∧St [] E [] w0 15 a w [(4,.bool o3)] [] []) ?_ (fun a w hI=>?_)
 rotate_left
 ·obtain ⟨o3,rfl,S⟩:=hI
  have h:=g5
  try dsimp only at h
  obtain rfl:=tS h
  exact wp_ret (sRet (.bool o3) S (rsl1 d (rvT (t:=4) (v:=.bool o3) S d)) ⟨(),d,S.mem.sel [] [] (by decide) d d⟩)
 refine sRegion (sM S fun a S=>?_)
 refine sIdxV S (wN d) d d d (idxV_arr (m:=2) (sz:=1) Try.underlying154 d (by decide) (by decide) 0) d (lb d) fun a S=>sLoad1 0 (iv p1.1) S (wN d) d d d d d d (lb d) fun a S=>sBin _ S (wN d) d d d (bGe _ _ _ _ .i64 p0 p1.1) d (lb d) fun a S=>sM S fun a S=>?_
 rcases iS h with ⟨a0,h⟩ | ⟨a0,h⟩
 rotate_left
 ·refine sSkN 4 4 true 9 S d d a0 d fun a S=>sPickF (.bool false) S (wN d) d d a0 d d (lb d) fun a S=>sN S fun a S=>?_
  exact lT (⟨false,Option.some.inj h,S.fix [] [] (by decide) d d d⟩)
 refine sMove (iv p0) S (wG 4 true 9 d d d a0) (.inl d) d d (lb d) fun a S=>sIdxV S (wG 4 true 9 d d d a0) d d d (idxV_arr (m:=2) (sz:=1) Try.underlying154 d (by decide) (by decide) 0) d (lb d) fun a S=>sLoad1 0 (iv p1.2) S (wG 4 true 9 d d d a0) d d d d d d (lb d) fun a S=>sBin _ S (wG 4 true 9 d d d a0) d d d (bLe _ _ _ _ .i64 p0 p1.2) d (lb d) fun a S=>sPickT (.bool (decide (p0 ≤ p1.2))) S (wN d) d d a0 d d (lb d) fun a S=>sN S fun a S=>?_
 exact lT (⟨decide (p0 ≤ p1.2),Option.some.inj h,S.fix [] [] (by decide) d d d⟩)
noncomputable def F_stitch_Check (p0:api_Stitch):Option Int:=
 (F_stitch_forms p0.Kind).bind fun r4=>
 Option.bind (α:=Bool) (
  if !r4.2 then
   some true
  else
   (F_stitch_within p0.A r4.1.a).bind fun a0=>
   if !a0 then
    some true
   else
    (F_stitch_within p0.B r4.1.b).bind fun a5=>
    if !a5 then
     some true
    else
     if p0.Purl then
      some (!r4.1.sided)
     else
      some false) fun o9=>
 if o9 then
  some 8
 else
  some 0
theorem c_stitch_Check (E:Nat→Prop) (w0:World) (p0:api_Stitch) (v0:Value) (r:Int) (h:F_stitch_Check p0=some r) (S:St0 E [] w0 w0 [] [fRep r_api_Stitch (v0) p0]) :
 Calls Try.prog 88 #[v0] w0 (Ret (X:=Unit) E [] w0 (fun _=>.int .i64 r) (fun _=>[]) (fun _=>[])):=by
 unfold F_stitch_Check at h
 obtain rfl:v0=.agg #[.int .u8 p0.Kind,.bool p0.Purl,iv p0.A,iv p0.B]:=S.know (i:=0) (e:=fRep r_api_Stitch (v0) p0) d
 refine sEnter (args:=[.agg #[.int .u8 p0.Kind,.bool p0.Purl,iv p0.A,iv p0.B]]) 38 Try.func88 d d (by simp) S (fun a S=>?_)
 refine sSeq (fun K1 ag=>sRegion (sBox (v:=.agg #[.int .u8 p0.Kind,.bool p0.Purl,iv p0.A,iv p0.B]) S (wN d) d d [.int .u8 p0.Kind,.bool p0.Purl,iv p0.A,iv p0.B] d d (lb d) fun a b2 w S=>sN S fun a S=>?_))
 refine lT (ag _ _ (sSeq (fun K3 ah=>sRegion (sField (b:=b2) (off:=0) 0 0 S (wN d) d d d d d (lb d) fun a S=>sLoad1 0 (.int .u8 p0.Kind) S (wN d) d d d d d d (lb d) fun a S=>?_))))
 obtain ⟨r4,ai,h⟩:=bS h
 refine sCall (X:=Value) (f:=103) (vs:=[.int .u8 p0.Kind]) (val:=c_stitch_forms_val r4) (B':=fun _=>[]) (D':=c_stitch_forms_D r4) [] [eBox b2 81 [.int .u8 p0.Kind,.bool p0.Purl,iv p0.A,iv p0.B]] [] [0] [] S (wN d) d callee103 d (by decide) d d (fun E1 w1 S1=>c_stitch_forms E1 w1 p0.Kind r4 ai S1) d (lb d) fun u6 a w S=>?_
 obtain rfl:u6=gv_stitch_form r4.1:=S.mem.know (i:=0) (e:=fRep r_stitch_form (u6) r4.1) d
 refine sM S fun a S=>?_
 refine sExtract (vs:=[gv_stitch_form r4.1,.bool r4.2]) (gv_stitch_form r4.1) S (wN d) d d d d (lb d) fun a S=>sExtract (vs:=[gv_stitch_form r4.1,.bool r4.2]) (.bool r4.2) S (wN d) d d d d (lb d) fun a S=>sAlloc (gv_stitch_form (stitch_form.mk (⟨#[]⟩:ByteArray) (0,0) (0,0) false 0 0)) S (wN d) d d (gl_stitch_form (stitch_form.mk (⟨#[]⟩:ByteArray) (0,0) (0,0) false 0 0)) d d (lb d) fun a b7 w S=>sStore (p:=b7) (off:=0) (T:=156) (vs:=[.string (⟨#[]⟩:ByteArray),iv 0,iv 0,iv 0,iv 0,.bool false,iv 0,iv 0]) (v:=gv_stitch_form r4.1) 0 [.string r4.1.letter,iv r4.1.a.1,iv r4.1.a.2,iv r4.1.b.1,iv r4.1.b.2,.bool r4.1.sided,iv r4.1.uses,iv r4.1.made] S (wN d) d d d d d d d (by simp) d fun a w S=>sN S fun a S=>?_
 refine lT (ah _ _ (sSeq (fun K8 aj=>?_)))
 obtain ⟨ak,h,al⟩:=bS h
 refine sCut (fun a w=>∃ o9,o9=ak∧St [] E [] w0 38 a w [(37,.bool o9)] [] []) ?_ (fun a w hI=>?_)
 rotate_left
 ·obtain ⟨o9,rfl,S⟩:=hI
  have h:=al
  try dsimp only at h
  rcases iS h with ⟨a8,h⟩ | ⟨a8,h⟩
  ·refine sCondT S d a8 (sSeq (fun am ab=>sRegion (sN S fun a S=>?_)))
   refine lT (ab _ _ ?_)
   obtain rfl:=tS h
   exact wp_ret (rThen (sRet (iv 8) S (rsl1 d (rvT (t:=2) (v:=iv 8) S d)) ⟨(),d,S.mem.sel [] [] (by decide) d d⟩))
  refine sCondF S d a8 (wp_skip (leafT (aj _ _ ?_)))
  refine sSeq (fun ao ac=>sRegion (sN S fun a S=>?_))
  refine lT (ac _ _ ?_)
  obtain rfl:=tS h
  exact wp_ret (sRet (iv 0) S (rsl1 d (rvT (t:=2) (v:=iv 0) S d)) ⟨(),d,S.mem.sel [] [] (by decide) d d⟩)
 refine sRegion (sM S fun a S=>?_)
 refine sNot (b:=r4.2) S (wN d) d d d (lb d) fun a S=>sM S fun a S=>?_
 rcases iS h with ⟨a5,h⟩ | ⟨a5,h⟩
 ·refine sSkN 6 2 false 13 S d d a5 d fun a S=>sPickT (.bool true) S (wN d) d d a5 d d (lb d) fun a S=>sM S fun a S=>?_
  refine sSkN 6 10 false 21 S d d d d fun a S=>sPickT (.bool true) S (wN d) d d d d d (lb d) fun a S=>sM S fun a S=>?_
  refine sSkN 3 18 false 29 S d d d d fun a S=>sSkipU 21 true 32 33 S d d d d (lb d) fun a S=>?_
  refine sSkipU 21 true 32 34 S d d d d (lb d) fun a S=>?_
  refine sSkipU 21 true 32 35 S d d d d (lb d) fun a S=>?_
  refine sSk S d d d d d d fun a S=>sPickT (.bool true) S (wN d) d d d d d (lb d) fun a S=>?_
  exact lT (⟨true,Option.some.inj h,S.fix [] [] (by decide) d d d⟩)
 refine sField (b:=b2) (off:=0) 2 2 S (wG 2 false 13 d d d a5) d d d d d (lb d) fun a S=>sLoad1 1 (iv p0.A) S (wG 2 false 13 d d d a5) d d d d d d (lb d) fun a S=>sField (b:=b7) (off:=0) 1 1 S (wG 2 false 13 d d d a5) d d d d d (lb d) fun a S=>sLoadN (p:=b7) (off:=1) (T:=156) (vs:=(gl_stitch_form r4.1)) 0 [iv r4.1.a.1,iv r4.1.a.2] S (wG 2 false 13 d d d a5) d d d d d d d (lb d) fun a S=>?_
 obtain ⟨a9,ae,h⟩:=bS h
 have S1:=S.mem
 have S1:=S1.learn (fRep r_A2_Int (.agg #[iv r4.1.a.1,iv r4.1.a.2]) r4.1.a) d
 refine sCallQ (X:=Unit) (f:=104) (vs:=[iv p0.A,.agg #[iv r4.1.a.1,iv r4.1.a.2]]) (val:=fun _=>.bool a9) S (wG 2 false 13 d d d a5) d callee104 d (S1.quiet [0] d) (fun E1 w1 S1=>c_stitch_within E1 w1 p0.A r4.1.a (.agg #[iv r4.1.a.1,iv r4.1.a.2]) a9 ae S1) d (lb d) fun _ a w S=>?_
 refine sNot (b:=a9) S (wG 2 false 13 d d d a5) d d d (lb d) fun a S=>sPickF (.bool (!a9)) S (wN d) d d a5 d d (lb d) fun a S=>sM S fun a S=>?_
 rcases iS h with ⟨a6,h⟩ | ⟨a6,h⟩
 ·refine sSkN 6 10 false 21 S d d a6 d fun a S=>sPickT (.bool true) S (wN d) d d a6 d d (lb d) fun a S=>sM S fun a S=>?_
  refine sSkN 3 18 false 29 S d d d d fun a S=>sSkipU 21 true 32 33 S d d d d (lb d) fun a S=>?_
  refine sSkipU 21 true 32 34 S d d d d (lb d) fun a S=>?_
  refine sSkipU 21 true 32 35 S d d d d (lb d) fun a S=>?_
  refine sSk S d d d d d d fun a S=>sPickT (.bool true) S (wN d) d d d d d (lb d) fun a S=>?_
  exact lT (⟨true,Option.some.inj h,S.fix [] [] (by decide) d d d⟩)
 refine sField (b:=b2) (off:=0) 3 3 S (wG 10 false 21 d d d a6) d d d d d (lb d) fun a S=>sLoad1 1 (iv p0.B) S (wG 10 false 21 d d d a6) d d d d d d (lb d) fun a S=>sField (b:=b7) (off:=0) 3 3 S (wG 10 false 21 d d d a6) d d d d d (lb d) fun a S=>sLoadN (p:=b7) (off:=3) (T:=156) (vs:=(gl_stitch_form r4.1)) 0 [iv r4.1.b.1,iv r4.1.b.2] S (wG 10 false 21 d d d a6) d d d d d d d (lb d) fun a S=>?_
 obtain ⟨aa,af,h⟩:=bS h
 have S1:=S.mem
 have S1:=S1.learn (fRep r_A2_Int (.agg #[iv r4.1.b.1,iv r4.1.b.2]) r4.1.b) d
 refine sCallQ (X:=Unit) (f:=104) (vs:=[iv p0.B,.agg #[iv r4.1.b.1,iv r4.1.b.2]]) (val:=fun _=>.bool aa) S (wG 10 false 21 d d d a6) d callee104 d (S1.quiet [0] d) (fun E1 w1 S1=>c_stitch_within E1 w1 p0.B r4.1.b (.agg #[iv r4.1.b.1,iv r4.1.b.2]) aa af S1) d (lb d) fun _ a w S=>?_
 refine sNot (b:=aa) S (wG 10 false 21 d d d a6) d d d (lb d) fun a S=>sPickF (.bool (!aa)) S (wN d) d d a6 d d (lb d) fun a S=>sM S fun a S=>?_
 rcases iS h with ⟨a0,h⟩ | ⟨a0,h⟩
 ·refine sSkN 3 18 false 29 S d d a0 d fun a S=>sSkipU 21 true 32 33 S d d d d (lb d) fun a S=>?_
  refine sSkipU 21 true 32 34 S d d d d (lb d) fun a S=>?_
  refine sSkipU 21 true 32 35 S d d d d (lb d) fun a S=>?_
  refine sSk S d d d a0 d d fun a S=>sPickT (.bool true) S (wN d) d d a0 d d (lb d) fun a S=>?_
  exact lT (⟨true,Option.some.inj h,S.fix [] [] (by decide) d d d⟩)
 refine sField (b:=b2) (off:=0) 1 1 S (wG 18 false 29 d d d a0) d d d d d (lb d) fun a S=>sLoad1 1 (.bool p0.Purl) S (wG 18 false 29 d d d a0) d d d d d d (lb d) fun a S=>sMove (.bool p0.Purl) S (wG 18 false 29 d d d a0) (.inl d) d d (lb d) fun a S=>?_
 rcases iS h with ⟨a7,h⟩ | ⟨a7,h⟩
 rotate_left
 ·refine sSkN 3 21 true 32 S d d a7 d fun a S=>sPickF (.bool false) S (wG 18 false 29 d d d a0) d d a7 d d (lb d) fun a S=>sPickF (.bool false) S (wN d) d d a0 d d (lb d) fun a S=>?_
  exact lT (⟨false,Option.some.inj h,S.fix [] [] (by decide) d d d⟩)
 refine sField (b:=b7) (off:=0) 5 5 S (wG 21 true 32 d d d a7) d d d d d (lb d) fun a S=>sLoad1 0 (.bool r4.1.sided) S (wG 21 true 32 d d d a7) d d d d d d (lb d) fun a S=>sNot (b:=r4.1.sided) S (wG 21 true 32 d d d a7) d d d (lb d) fun a S=>sPickT (.bool (!r4.1.sided)) S (wG 18 false 29 d d d a0) d d a7 d d (lb d) fun a S=>sPickF (.bool (!r4.1.sided)) S (wN d) d d a0 d d (lb d) fun a S=>?_
 exact lT (⟨!r4.1.sided,Option.some.inj h,S.fix [] [] (by decide) d d d⟩)
noncomputable def F_stitch_All_1 (p0:api_Stitch):Option Bool:=
 (F_stitch_Check p0).bind fun r4=>
 some (r4 != 0)
theorem c_stitch_All_1 (E:Nat→Prop) (w0:World) (p0:api_Stitch) (v0:Value) (r:Bool) (h:F_stitch_All_1 p0=some r) (S:St0 E [] w0 w0 [] [fRep r_api_Stitch (v0) p0]) :
 Calls Try.prog 87 #[v0] w0 (Ret (X:=Unit) E [] w0 (fun _=>.bool r) (fun _=>[]) (fun _=>[])):=by
 unfold F_stitch_All_1 at h
 obtain rfl:v0=.agg #[.int .u8 p0.Kind,.bool p0.Purl,iv p0.A,iv p0.B]:=S.know (i:=0) (e:=fRep r_api_Stitch (v0) p0) d
 refine sEnter (args:=[.agg #[.int .u8 p0.Kind,.bool p0.Purl,iv p0.A,iv p0.B]]) 6 Try.func87 d d (by simp) S (fun a S=>?_)
 refine sSeq (fun K1 a0=>sRegion (sBox (v:=.agg #[.int .u8 p0.Kind,.bool p0.Purl,iv p0.A,iv p0.B]) S (wN d) d d [.int .u8 p0.Kind,.bool p0.Purl,iv p0.A,iv p0.B] d d (lb d) fun a b2 w S=>sN S fun a S=>?_))
 refine lT (a0 _ _ (sSeq (fun K3 a5=>sRegion (sLoadN (p:=b2) (off:=0) (T:=81) (vs:=[.int .u8 p0.Kind,.bool p0.Purl,iv p0.A,iv p0.B]) 0 [.int .u8 p0.Kind,.bool p0.Purl,iv p0.A,iv p0.B] S (wN d) d d d d d d d (lb d) fun a S=>?_))))
 obtain ⟨r4,a6,h⟩:=bS h
 have S1:=S.mem
 refine sCq [.agg #[.int .u8 p0.Kind,.bool p0.Purl,iv p0.A,iv p0.B]] (iv r4) S callee88 (S1.quiet [0] d) (fun E1 w1 S1=>c_stitch_Check E1 w1 p0 (.agg #[.int .u8 p0.Kind,.bool p0.Purl,iv p0.A,iv p0.B]) r4 a6 S1) fun a w S=>?_
 refine sBin _ S (wN d) d d d (bNe _ _ _ _ .i64 r4 0) d (lb d) fun a S=>sN S fun a S=>?_
 refine lT (a5 _ _ ?_)
 obtain rfl:=tS h
 exact wp_ret (sRet (.bool (r4 != 0)) S (rsl1 d (rvT (t:=2) (v:=.bool (r4 != 0)) S d)) ⟨(),d,S.mem.sel [] [] (by decide) d d⟩)
noncomputable def slices_IndexFunc___api_Stitch_api_Stitch__s0_l1 (p0:(List api_Stitch)):Int→Option (Int ⊕ (Int ⊕ Unit)):=fun s0=>match s0 with
 | s7=>
  if decide (s7 < (p0.length:Int)) then
   (idxO p0 s7).bind fun a0=>
   (F_stitch_All_1 a0).bind fun a5=>
   if a5 then
    some (.inr (.inl s7))
   else
    some (.inl (w64 (s7 + 1)))
  else
   some (.inr (.inr ()))
noncomputable def F_slices_IndexFunc___api_Stitch_api_Stitch__s0 (p0:(List api_Stitch)):Option Int:=
 Option.bind (α:=Unit ⊕ Int) (
  (whileO (slices_IndexFunc___api_Stitch_api_Stitch__s0_l1 p0) 0).bind fun z0=>match z0 with
   | .inl z=>
    some (.inr z)
   | .inr _=>
    some (.inl ())) fun z0=>match z0 with
  | .inl _=>
   some (-1)
  | .inr z=>
   some z
theorem c_slices_IndexFunc___api_Stitch_api_Stitch__s0 (E:Nat→Prop) (w0:World) (p0:(List api_Stitch)) (v0:Value) (r:Int) (h:F_slices_IndexFunc___api_Stitch_api_Stitch__s0 p0=some r) (S:St0 E [] w0 w0 [] [fRep (rL r_api_Stitch) (v0) p0]) :
 Calls Try.prog 102 #[v0,.func (.func 87) #[] #[]] w0 (Ret (X:=Unit) E [] w0 (fun _=>.int .i64 r) (fun _=>[]) (fun _=>[])):=by
 unfold F_slices_IndexFunc___api_Stitch_api_Stitch__s0 at h
 obtain ⟨a7,a8,_,rfl,_⟩:=S.know (i:=0) (e:=fRep (rL r_api_Stitch) (v0) p0) d
 refine sEnter (args:=[.slice a7 p0.length a8,.func (.func 87) #[] #[]]) 19 Try.func102 d d (by simp) S (fun a S=>?_)
 refine sSeq (fun K3 ap=>sRegion (sN S fun a S=>?_))
 refine lT (ap _ _ ?_)
 obtain ⟨t4,h,g5⟩:=bS h
 refine sCut (fun a w=>.inl ()=t4∧St [] E [] w0 19 a w [] [] []) ?_ (fun a w hI=>?_)
 rotate_left
 ·obtain ⟨rfl,S⟩:=hI
  have h:=g5
  try dsimp only at h
  refine sSeq (fun ar a9=>sRegion (sN S fun a S=>?_))
  refine lT (a9 _ _ ?_)
  obtain rfl:=tS h
  exact wp_ret (sRet (iv (-1)) S (rsl1 d (rvT (t:=4) (v:=iv (-1)) S d)) ⟨(),d,S.mem.sel [] [] (by decide) d d⟩)
 refine sSeq (fun K6 aq=>sRegion (sM S fun a S=>?_))
 refine sLen S (wN d) d Try.underlying47 d d (lb d) fun a S=>sM S fun a S=>?_
 refine lT (aq _ _ (wp_block ?_))
 obtain ⟨au,hl,g9⟩:=bS h
 refine sLoop hl (fun s0 a w=>match s0 with | s7=>St [] E [] w0 19 a w [(0,.slice a7 p0.length a8),(1,.func (.func 87) #[] #[]),(7,iv (p0.length:Int)),(8,iv s7)] [] [fRep (rL r_api_Stitch) (.slice a7 p0.length a8) p0]) (S.fix [] [0] (by decide) d d d) ?_
 clear hl h
 intro s7 a w c0 hI h ak
 unfold slices_IndexFunc___api_Stitch_api_Stitch__s0_l1 at h
 dsimp only at h hI
 have S:=hI
 refine sSeq (fun av aa=>sRegion (sBin _ S (wN d) d d d (bLt _ _ _ _ .i64 s7 (p0.length:Int)) d (lb d) fun a S=>lT (aa _ _ (sSeq (fun aw ab=>?_)))))
 rcases iS h with ⟨a5,h⟩ | ⟨a5,h⟩
 rotate_left
 ·refine sCondF S d a5 ?_
  obtain rfl:=tS h
  obtain rfl:=ak _ d
  have h:=g9
  try dsimp only at h
  exact wp_exit (xThen (xThen (xHit (leafT (⟨Option.some.inj h,S.fix [] [] (by decide) d d d⟩)))))
 refine sCondT S d a5 (wp_skip (leafT (ab _ _ ?_)))
 refine sSeq (fun ax ac=>wp_block ?_)
 refine sSeq (fun ay ae=>sRegion (sM S fun a S=>?_))
 refine sN S fun a S=>?_
 refine lT (ae _ _ (sSeq (fun az af=>sRegion (sM S fun a S=>?_))))
 refine sM S fun a S=>?_
 refine sM S fun a S=>?_
 obtain ⟨a0,ag,h⟩:=bS h
 obtain ⟨al,ah,S⟩:=pIdx (P:=Try.prog) (r:=r_api_Stitch) (v:=.slice a7 p0.length a8) (xs:=p0) (j:=s7) 47 81 0 S Try.underlying47 d d ag
 refine sIdxV S (wN d) d d d ah d (lb d) fun a S=>?_
 obtain ⟨am,S⟩:=pLoad (r:=r_api_Stitch) (q:=al) (x:=a0) 0 S d
 obtain rfl:am=.agg #[.int .u8 a0.Kind,.bool a0.Purl,iv a0.A,iv a0.B]:=S.mem.know (i:=1) (e:=fRep r_api_Stitch (am) a0) d
 refine sLoadVN (vq:=al) 0 [.int .u8 a0.Kind,.bool a0.Purl,iv a0.A,iv a0.B] S (wN d) d d d d d d (lb d) fun a S=>?_
 obtain ⟨ao,ai,h⟩:=bS h
 have S1:=S.mem
 refine sCallVQ (X:=Unit) (g:=87) (vs:=[.agg #[.int .u8 a0.Kind,.bool a0.Purl,iv a0.A,iv a0.B]]) (caps:=[]) (val:=fun _=>.bool ao) S (wN d) d d callee87 d (S1.quiet [1] d) (fun E1 w1 S1=>c_stitch_All_1 E1 w1 a0 (.agg #[.int .u8 a0.Kind,.bool a0.Purl,iv a0.A,iv a0.B]) ao ai S1) d (lb d) fun _ a w S=>?_
 refine lT (af _ _ ?_)
 rcases iS h with ⟨a6,h⟩ | ⟨a6,h⟩
 rotate_left
 ·refine sCondF S d a6 (wp_skip (leafB (leafT (ac _ _ ?_))))
  refine sRegion (sBin _ S (wN d) d d d (bAdd _ _ _ _ s7 1) d (lb d) fun a S=>sM S fun a S=>?_)
  exact lT (⟨w64 (s7 + 1),(Option.some.inj h).symm,(S.fix [] [3] (by decide) d d d)⟩)
 refine sCondT S d a6 (sSeq (fun aA aj=>sRegion (sM S fun a S=>?_)))
 refine sN S fun a S=>?_
 refine lT (aj _ _ ?_)
 obtain rfl:=tS h
 obtain rfl:=ak _ d
 have h:=g9
 try dsimp only at h
 obtain rfl:=tS h
 have h:=g5
 try dsimp only at h
 obtain rfl:=tS h
 exact wp_ret (rBlock (rThen (rThen (rBlock (rThen (sRet (iv s7) S (rsl1 d (rvT (t:=4) (v:=iv s7) S d)) ⟨(),d,S.mem.sel [] [] (by decide) d d⟩))))))
noncomputable def F_slices_ContainsFunc___api_Stitch_api_Stitch__s0 (p0:(List api_Stitch)):Option Bool:=
 (F_slices_IndexFunc___api_Stitch_api_Stitch__s0 p0).bind fun r5=>
 some (decide (0 ≤ r5))
theorem c_slices_ContainsFunc___api_Stitch_api_Stitch__s0 (E:Nat→Prop) (w0:World) (p0:(List api_Stitch)) (v0:Value) (r:Bool) (h:F_slices_ContainsFunc___api_Stitch_api_Stitch__s0 p0=some r) (S:St0 E [] w0 w0 [] [fRep (rL r_api_Stitch) (v0) p0]) :
 Calls Try.prog 86 #[v0,.func (.func 87) #[] #[]] w0 (Ret (X:=Unit) E [] w0 (fun _=>.bool r) (fun _=>[]) (fun _=>[])):=by
 unfold F_slices_ContainsFunc___api_Stitch_api_Stitch__s0 at h
 obtain ⟨a0,a5,_,rfl,_⟩:=S.know (i:=0) (e:=fRep (rL r_api_Stitch) (v0) p0) d
 refine sEnter (args:=[.slice a0 p0.length a5,.func (.func 87) #[] #[]]) 9 Try.func86 d d (by simp) S (fun a S=>?_)
 refine sSeq (fun K3 a6=>sRegion (sN S fun a S=>?_))
 refine lT (a6 _ _ (sSeq (fun K4 a7=>sRegion (sM S fun a S=>?_))))
 refine sM S fun a S=>?_
 obtain ⟨r5,a8,h⟩:=bS h
 have S1:=S.mem
 refine sCq [.slice a0 p0.length a5,.func (.func 87) #[] #[]] (iv r5) S callee102 (S1.quiet [0] d) (fun E1 w1 S1=>c_slices_IndexFunc___api_Stitch_api_Stitch__s0 E1 w1 p0 (.slice a0 p0.length a5) r5 a8 S1) fun a w S=>?_
 refine sBin _ S (wN d) d d d (bGe _ _ _ _ .i64 r5 0) d (lb d) fun a S=>sN S fun a S=>?_
 refine lT (a7 _ _ ?_)
 obtain rfl:=tS h
 exact wp_ret (sRet (.bool (decide (0 ≤ r5))) S (rsl1 d (rvT (t:=4) (v:=.bool (decide (0 ≤ r5))) S d)) ⟨(),d,S.mem.sel [] [] (by decide) d d⟩)
noncomputable def F_stitch_loops (p0:api_Stitch) (p1:Int):Option Int:=
 (idxO ([0,1,p0.A,w64 (p0.A + p0.B)]:List Int) p1).bind fun x4=>
 some x4
theorem c_stitch_loops (E:Nat→Prop) (w0:World) (p0:api_Stitch) (v0:Value) (p1:Int) (r:Int) (h:F_stitch_loops p0 p1=some r) (S:St0 E [] w0 w0 [] [fRep r_api_Stitch (v0) p0]) :
 Calls Try.prog 105 #[v0,iv p1] w0 (Ret (X:=Unit) E [] w0 (fun _=>.int .i64 r) (fun _=>[]) (fun _=>[])):=by
 unfold F_stitch_loops at h
 obtain rfl:v0=.agg #[.int .u8 p0.Kind,.bool p0.Purl,iv p0.A,iv p0.B]:=S.know (i:=0) (e:=fRep r_api_Stitch (v0) p0) d
 refine sEnter (args:=[.agg #[.int .u8 p0.Kind,.bool p0.Purl,iv p0.A,iv p0.B],iv p1]) 15 Try.func105 d d (by simp) S (fun a S=>?_)
 refine sSeq (fun K1 a0=>sRegion (sBox (v:=.agg #[.int .u8 p0.Kind,.bool p0.Purl,iv p0.A,iv p0.B]) S (wN d) d d [.int .u8 p0.Kind,.bool p0.Purl,iv p0.A,iv p0.B] d d (lb d) fun a b2 w S=>sN S fun a S=>?_))
 refine lT (a0 _ _ (sSeq (fun K3 a5=>sRegion (sField (b:=b2) (off:=0) 2 2 S (wN d) d d d d d (lb d) fun a S=>sLoad1 0 (iv p0.A) S (wN d) d d d d d d (lb d) fun a S=>sField (b:=b2) (off:=0) 2 2 S (wN d) d d d d d (lb d) fun a S=>sLoad1 0 (iv p0.A) S (wN d) d d d d d d (lb d) fun a S=>sField (b:=b2) (off:=0) 3 3 S (wN d) d d d d d (lb d) fun a S=>sLoad1 0 (iv p0.B) S (wN d) d d d d d d (lb d) fun a S=>sBin _ S (wN d) d d d (bAdd _ _ _ _ p0.A p0.B) d (lb d) fun a S=>sBuild [(0,iv 0),(1,iv 1),(2,iv p0.A),(3,iv (w64 (p0.A + p0.B)))] [iv 0,iv 1,iv p0.A,iv (w64 (p0.A + p0.B))] S (wN d) d d d d (lb d) fun a S=>sM S fun a S=>?_))))
 obtain ⟨x4,a6,h⟩:=bS h
 refine sIndexA (g:=fun z=>.int .i64 z) (xs:=([0,1,p0.A,w64 (p0.A + p0.B)]:List Int)) (j:=p1) (k:=.i64) 4 [iv 0,iv 1,iv p0.A,iv (w64 (p0.A + p0.B))] S (wN d) d Try.underlying129 d d d d d d a6 d (lb d) fun a S=>sN S fun a S=>?_
 refine lT (a5 _ _ ?_)
 obtain rfl:=tS h
 exact wp_ret (sRet (iv x4) S (rsl1 d (rvT (t:=4) (v:=iv x4) S d)) ⟨(),d,S.mem.sel [] [] (by decide) d d⟩)
noncomputable def stitch_sum_l1 (p0:(List api_Stitch)):(Int × Int × Int)→Option ((Int × Int × Int) ⊕ (Int × Int)):=fun s0=>match s0 with
 | (s9,a6,a0)=>
  if decide (a0 < (p0.length:Int)) then
   (idxO p0 a0).bind fun a5=>
   (F_stitch_forms a5.Kind).bind fun a7=>
   (F_stitch_loops a5 a7.1.uses).bind fun a8=>
   (F_stitch_loops a5 a7.1.made).bind fun a9=>
   some (.inl (w64 (s9 + a8),w64 (a6 + a9),w64 (a0 + 1)))
  else
   some (.inr (s9,a6))
noncomputable def F_stitch_sum (p0:(List api_Stitch)):Option (Int × Int):=
 Option.bind (α:=(Int × Int)) (
  (whileO (stitch_sum_l1 p0) (0,0,0)).bind fun (a0,a5)=>
   some (a0,a5)) fun (o4,o5)=>
 some (o4,o5)
theorem c_stitch_sum (E:Nat→Prop) (w0:World) (p0:(List api_Stitch)) (v0:Value) (r:(Int × Int)) (h:F_stitch_sum p0=some r) (S:St0 E [] w0 w0 [] [fRep (rL r_api_Stitch) (v0) p0]) :
 Calls Try.prog 89 #[v0] w0 (Ret (X:=Unit) E [] w0 (fun _=>.tuple #[.int .i64 r.1,.int .i64 r.2]) (fun _=>[]) (fun _=>[])):=by
 unfold F_stitch_sum at h
 obtain ⟨aa,ab,_,rfl,_⟩:=S.know (i:=0) (e:=fRep (rL r_api_Stitch) (v0) p0) d
 refine sEnter (args:=[.slice aa p0.length ab]) 35 Try.func89 d d (by simp) S (fun a S=>?_)
 refine sSeq (fun K3 az=>sRegion (sN S fun a S=>?_))
 refine sN S fun a S=>?_
 refine lT (az _ _ ?_)
 obtain ⟨t6,h,g7⟩:=bS h
 refine sCut (fun a w=>∃ o4,∃ o5,(o4,o5)=t6∧St [] E [] w0 35 a w [(2,iv o4),(3,iv o5)] [] []) ?_ (fun a w hI=>?_)
 rotate_left
 ·obtain ⟨o4,o5,rfl,S⟩:=hI
  have h:=g7
  try dsimp only at h
  refine sSeq (fun aG af=>sRegion (sM S fun a S=>?_))
  refine sM S fun a S=>?_
  refine sN S fun a S=>?_
  refine sN S fun a S=>?_
  refine lT (af _ _ ?_)
  obtain rfl:=tS h
  exact wp_ret (sRet (.tuple #[iv o4,iv o5]) S (rsl2 d (rvT (t:=2) (v:=iv o4) S d) (rvT (t:=3) (v:=iv o5) S d)) ⟨(),d,S.mem.sel [] [] (by decide) d d⟩)
 refine sSeq (fun K8 aA=>sRegion (sM S fun a S=>?_))
 refine sLen S (wN d) d Try.underlying47 d d (lb d) fun a S=>sM S fun a S=>?_
 refine lT (aA _ _ (wp_block ?_))
 obtain ⟨aH,hl,aC⟩:=bS h
 refine sLoop hl (fun s0 a w=>match s0 with | (s9,a8,a7)=>St [] E [] w0 35 a w [(2,iv s9),(3,iv a8),(8,.slice aa p0.length ab),(9,iv (p0.length:Int)),(10,iv a7)] [] [fRep (rL r_api_Stitch) (.slice aa p0.length ab) p0]) (S.fix [] [0] (by decide) d d d) ?_
 clear hl h
 intro s0 a w c0 hI h ag
 obtain ⟨s9,a8,a7⟩:=s0
 unfold stitch_sum_l1 at h
 dsimp only at h hI
 have S:=hI
 refine sSeq (fun aI ah=>sRegion (sBin _ S (wN d) d d d (bLt _ _ _ _ .i64 a7 (p0.length:Int)) d (lb d) fun a S=>lT (ah _ _ (sSeq (fun aJ ai=>?_)))))
 rcases iS h with ⟨a6,h⟩ | ⟨a6,h⟩
 rotate_left
 ·refine sCondF S d a6 ?_
  obtain rfl:=tS h
  obtain rfl:=ag _ d
  have h:=aC
  try dsimp only at h
  exact wp_exit (xThen (xThen (xHit (leafT (⟨s9,a8,Option.some.inj h,S.fix [] [] (by decide) d d d⟩)))))
 refine sCondT S d a6 (wp_skip (leafT (ai _ _ ?_)))
 refine sSeq (fun aK aj=>wp_block ?_)
 refine sSeq (fun aL ak=>sRegion ?_)
 obtain ⟨a0,al,h⟩:=bS h
 obtain ⟨aw,am,S⟩:=pIdx (P:=Try.prog) (r:=r_api_Stitch) (v:=.slice aa p0.length ab) (xs:=p0) (j:=a7) 47 81 0 S Try.underlying47 d d al
 refine sIdxV S (wN d) d d d am d (lb d) fun a S=>?_
 obtain ⟨ax,S⟩:=pLoad (r:=r_api_Stitch) (q:=aw) (x:=a0) 0 S d
 obtain rfl:ax=.agg #[.int .u8 a0.Kind,.bool a0.Purl,iv a0.A,iv a0.B]:=S.mem.know (i:=1) (e:=fRep r_api_Stitch (ax) a0) d
 refine sLoadVN (vq:=aw) 0 [.int .u8 a0.Kind,.bool a0.Purl,iv a0.A,iv a0.B] S (wN d) d d d d d d (lb d) fun a S=>sAlloc (.agg #[.int .u8 0,.bool false,iv 0,iv 0]) S (wN d) d d [.int .u8 0,.bool false,iv 0,iv 0] d d (lb d) fun a a9 w S=>sStore (p:=a9) (off:=0) (T:=81) (vs:=[.int .u8 0,.bool false,iv 0,iv 0]) (v:=.agg #[.int .u8 a0.Kind,.bool a0.Purl,iv a0.A,iv a0.B]) 0 [.int .u8 a0.Kind,.bool a0.Purl,iv a0.A,iv a0.B] S (wN d) d d d d d d d (by simp) d fun a w S=>lT (ak _ _ (sSeq (fun aM ao=>sRegion (sField (b:=a9) (off:=0) 0 0 S (wN d) d d d d d (lb d) fun a S=>sLoad1 0 (.int .u8 a0.Kind) S (wN d) d d d d d d (lb d) fun a S=>?_))))
 obtain ⟨a5,ap,h⟩:=bS h
 refine sCall (X:=Value) (f:=103) (vs:=[.int .u8 a0.Kind]) (val:=c_stitch_forms_val a5) (B':=fun _=>[]) (D':=c_stitch_forms_D a5) [] [eBox a9 81 [.int .u8 a0.Kind,.bool a0.Purl,iv a0.A,iv a0.B]] [] [0] [] S (wN d) d callee103 d (by decide) d d (fun E1 w1 S1=>c_stitch_forms E1 w1 a0.Kind a5 ap S1) d (lb d) fun ay a w S=>?_
 obtain rfl:ay=gv_stitch_form a5.1:=S.mem.know (i:=0) (e:=fRep r_stitch_form (ay) a5.1) d
 refine sM S fun a S=>?_
 refine sExtract (vs:=[gv_stitch_form a5.1,.bool a5.2]) (gv_stitch_form a5.1) S (wN d) d d d d (lb d) fun a S=>sExtract (vs:=[gv_stitch_form a5.1,.bool a5.2]) (.bool a5.2) S (wN d) d d d d (lb d) fun a S=>sAlloc (gv_stitch_form (stitch_form.mk (⟨#[]⟩:ByteArray) (0,0) (0,0) false 0 0)) S (wN d) d d (gl_stitch_form (stitch_form.mk (⟨#[]⟩:ByteArray) (0,0) (0,0) false 0 0)) d d (lb d) fun a aq w S=>sStore (p:=aq) (off:=0) (T:=156) (vs:=[.string (⟨#[]⟩:ByteArray),iv 0,iv 0,iv 0,iv 0,.bool false,iv 0,iv 0]) (v:=gv_stitch_form a5.1) 0 [.string a5.1.letter,iv a5.1.a.1,iv a5.1.a.2,iv a5.1.b.1,iv a5.1.b.2,.bool a5.1.sided,iv a5.1.uses,iv a5.1.made] S (wN d) d d d d d d d (by simp) d fun a w S=>sN S fun a S=>?_
 refine lT (ao _ _ (sSeq (fun aO ar=>sRegion (sM S fun a S=>?_))))
 refine sLoadN (p:=a9) (off:=0) (T:=81) (vs:=[.int .u8 a0.Kind,.bool a0.Purl,iv a0.A,iv a0.B]) 1 [.int .u8 a0.Kind,.bool a0.Purl,iv a0.A,iv a0.B] S (wN d) d d d d d d d (lb d) fun a S=>sField (b:=aq) (off:=0) 6 6 S (wN d) d d d d d (lb d) fun a S=>sLoad1 0 (iv a5.1.uses) S (wN d) d d d d d d (lb d) fun a S=>?_
 obtain ⟨ac,au,h⟩:=bS h
 have S1:=S.mem
 refine sCq [.agg #[.int .u8 a0.Kind,.bool a0.Purl,iv a0.A,iv a0.B],iv a5.1.uses] (iv ac) S callee105 (S1.quiet [2] d) (fun E1 w1 S1=>c_stitch_loops E1 w1 a0 (.agg #[.int .u8 a0.Kind,.bool a0.Purl,iv a0.A,iv a0.B]) a5.1.uses ac au S1) fun a w S=>?_
 refine sBin _ S (wN d) d d d (bAdd _ _ _ _ s9 ac) d (lb d) fun a S=>sN S fun a S=>?_
 refine lT (ar _ _ (sRegion (sM S fun a S=>?_)))
 refine sLoadN (p:=a9) (off:=0) (T:=81) (vs:=[.int .u8 a0.Kind,.bool a0.Purl,iv a0.A,iv a0.B]) 1 [.int .u8 a0.Kind,.bool a0.Purl,iv a0.A,iv a0.B] S (wN d) d d d d d d d (lb d) fun a S=>sField (b:=aq) (off:=0) 7 7 S (wN d) d d d d d (lb d) fun a S=>sLoad1 0 (iv a5.1.made) S (wN d) d d d d d d (lb d) fun a S=>?_
 obtain ⟨ae,av,h⟩:=bS h
 have S1:=S.mem
 refine sCq [.agg #[.int .u8 a0.Kind,.bool a0.Purl,iv a0.A,iv a0.B],iv a5.1.made] (iv ae) S callee105 (S1.quiet [2] d) (fun E1 w1 S1=>c_stitch_loops E1 w1 a0 (.agg #[.int .u8 a0.Kind,.bool a0.Purl,iv a0.A,iv a0.B]) a5.1.made ae av S1) fun a w S=>?_
 refine sBin _ S (wN d) d d d (bAdd _ _ _ _ a8 ae) d (lb d) fun a S=>sN S fun a S=>?_
 refine leafL (leafB (leafT (aj _ _ ?_)))
 refine sRegion (sBin _ S (wN d) d d d (bAdd _ _ _ _ a7 1) d (lb d) fun a S=>sM S fun a S=>?_)
 exact lT (⟨(w64 (s9 + ac),w64 (a8 + ae),w64 (a7 + 1)),(Option.some.inj h).symm,(S.fix [] [4] (by decide) d d d)⟩)
noncomputable def F_stitch_All (p0:(List api_Stitch)):Option Int:=
 if decide (200 < (p0.length:Int)) then
  some 4
 else
  (F_slices_ContainsFunc___api_Stitch_api_Stitch__s0 p0).bind fun a5=>
  if a5 then
   some 8
  else
   (F_stitch_sum p0).bind fun a0=>
   if decide (200 < (if a0.1 < a0.2 then a0.2 else a0.1)) then
    some 4
   else
    some 0
theorem c_stitch_All (E:Nat→Prop) (w0:World) (p0:(List api_Stitch)) (v0:Value) (r:Int) (h:F_stitch_All p0=some r) (S:St0 E [] w0 w0 [] [fRep (rL r_api_Stitch) (v0) p0]) :
 Calls Try.prog 56 #[v0] w0 (Ret (X:=Unit) E [] w0 (fun _=>.int .i64 r) (fun _=>[]) (fun _=>[])):=by
 unfold F_stitch_All at h
 obtain ⟨a7,a8,_,rfl,_⟩:=S.know (i:=0) (e:=fRep (rL r_api_Stitch) (v0) p0) d
 refine sEnter (args:=[.slice a7 p0.length a8]) 19 Try.func56 d d (by simp) S (fun a S=>?_)
 refine sSeq (fun K3 ak=>sRegion (sN S fun a S=>?_))
 refine lT (ak _ _ (sSeq (fun K4 al=>sSeq (fun K5 am=>sRegion (sM S fun a S=>?_)))))
 refine sLen S (wN d) d Try.underlying47 d d (lb d) fun a S=>sBin _ S (wN d) d d d (bGt _ _ _ _ .i64 (p0.length:Int) 200) d (lb d) fun a S=>lT (am _ _ ?_)
 rcases iS h with ⟨a9,h⟩ | ⟨a9,h⟩
 ·refine sCondT S d a9 (sSeq (fun K7 ao=>sRegion (sN S fun a S=>?_)))
  refine lT (ao _ _ ?_)
  obtain rfl:=tS h
  exact wp_ret (rThen (sRet (iv 4) S (rsl1 d (rvT (t:=2) (v:=iv 4) S d)) ⟨(),d,S.mem.sel [] [] (by decide) d d⟩))
 refine sCondF S d a9 (wp_skip (leafT (al _ _ ?_)))
 refine sSeq (fun K8 ap=>sSeq (fun K9 aq=>sRegion (sM S fun a S=>?_)))
 obtain ⟨aj,aa,h⟩:=bS h
 have S1:=S.mem
 refine sCq [.slice a7 p0.length a8,.func (.func 87) #[] #[]] (.bool aj) S callee86 (S1.quiet [0] d) (fun E1 w1 S1=>c_slices_ContainsFunc___api_Stitch_api_Stitch__s0 E1 w1 p0 (.slice a7 p0.length a8) aj aa S1) fun a w S=>?_
 refine lT (aq _ _ ?_)
 rcases iS h with ⟨a5,h⟩ | ⟨a5,h⟩
 ·refine sCondT S d a5 (sSeq (fun ar ab=>sRegion (sN S fun a S=>?_)))
  refine lT (ab _ _ ?_)
  obtain rfl:=tS h
  exact wp_ret (rThen (sRet (iv 8) S (rsl1 d (rvT (t:=2) (v:=iv 8) S d)) ⟨(),d,S.mem.sel [] [] (by decide) d d⟩))
 refine sCondF S d a5 (wp_skip (leafT (ap _ _ ?_)))
 refine sSeq (fun au ac=>sSeq (fun av ae=>sRegion (sM S fun a S=>?_)))
 obtain ⟨a0,af,h⟩:=bS h
 have S1:=S.mem
 refine sCq [.slice a7 p0.length a8] (.tuple #[iv a0.1,iv a0.2]) S callee89 (S1.quiet [0] d) (fun E1 w1 S1=>c_stitch_sum E1 w1 p0 (.slice a7 p0.length a8) a0 af S1) fun a w S=>?_
 refine sM S fun a S=>?_
 refine sExtract (vs:=[iv a0.1,iv a0.2]) (iv a0.1) S (wN d) d d d d (lb d) fun a S=>sExtract (vs:=[iv a0.1,iv a0.2]) (iv a0.2) S (wN d) d d d d (lb d) fun a S=>sN S fun a S=>?_
 refine sN S fun a S=>?_
 refine lT (ae _ _ (sSeq (fun aw ag=>sRegion (sM S fun a S=>?_))))
 refine sM S fun a S=>?_
 refine sMax2 (p:=a0.1) (q:=a0.2) S (wN d) d d d d (lb d) fun a S=>sBin _ S (wN d) d d d (bGt _ _ _ _ .i64 (if a0.1 < a0.2 then a0.2 else a0.1) 200) d (lb d) fun a S=>lT (ag _ _ ?_)
 rcases iS h with ⟨a6,h⟩ | ⟨a6,h⟩
 ·refine sCondT S d a6 (sSeq (fun ax ah=>sRegion (sN S fun a S=>?_)))
  refine lT (ah _ _ ?_)
  obtain rfl:=tS h
  exact wp_ret (rThen (sRet (iv 4) S (rsl1 d (rvT (t:=2) (v:=iv 4) S d)) ⟨(),d,S.mem.sel [] [] (by decide) d d⟩))
 refine sCondF S d a6 (wp_skip (leafT (ac _ _ ?_)))
 refine sSeq (fun ay ai=>sRegion (sN S fun a S=>?_))
 refine lT (ai _ _ ?_)
 obtain rfl:=tS h
 exact wp_ret (sRet (iv 0) S (rsl1 d (rvT (t:=2) (v:=iv 0) S d)) ⟨(),d,S.mem.sel [] [] (by decide) d d⟩)
noncomputable def F_stitch_Uses (p0:(List api_Stitch)):Option (Int × Int):=
 (F_stitch_All p0).bind fun r6=>
 if r6 != 0 then
  some (0,r6)
 else
  (F_stitch_sum p0).bind fun a0=>
  some (a0.1,0)
theorem c_stitch_Uses (E:Nat→Prop) (w0:World) (p0:(List api_Stitch)) (v0:Value) (r:(Int × Int)) (h:F_stitch_Uses p0=some r) (S:St0 E [] w0 w0 [] [fRep (rL r_api_Stitch) (v0) p0]) :
 Calls Try.prog 100 #[v0] w0 (Ret (X:=Unit) E [] w0 (fun _=>.tuple #[.int .i64 r.1,.int .i64 r.2]) (fun _=>[]) (fun _=>[])):=by
 unfold F_stitch_Uses at h
 obtain ⟨a5,a6,_,rfl,_⟩:=S.know (i:=0) (e:=fRep (rL r_api_Stitch) (v0) p0) d
 refine sEnter (args:=[.slice a5 p0.length a6]) 18 Try.func100 d d (by simp) S (fun a S=>?_)
 refine sSeq (fun K3 ac=>sRegion (sN S fun a S=>?_))
 refine sN S fun a S=>?_
 refine lT (ac _ _ (sSeq (fun K4 ae=>sSeq (fun K5 af=>sRegion (sM S fun a S=>?_)))))
 obtain ⟨r6,ag,h⟩:=bS h
 have S1:=S.mem
 refine sCq [.slice a5 p0.length a6] (iv r6) S callee56 (S1.quiet [0] d) (fun E1 w1 S1=>c_stitch_All E1 w1 p0 (.slice a5 p0.length a6) r6 ag S1) fun a w S=>?_
 refine sN S fun a S=>?_
 refine lT (af _ _ (sSeq (fun K8 ah=>sRegion (sM S fun a S=>?_))))
 refine sBin _ S (wN d) d d d (bNe _ _ _ _ .i64 r6 0) d (lb d) fun a S=>lT (ah _ _ ?_)
 rcases iS h with ⟨a7,h⟩ | ⟨a7,h⟩
 ·refine sCondT S d a7 (sSeq (fun ai a8=>sRegion (sM S fun a S=>?_)))
  refine sN S fun a S=>?_
  refine sN S fun a S=>?_
  refine lT (a8 _ _ ?_)
  obtain rfl:=tS h
  exact wp_ret (rThen (sRet (.tuple #[iv 0,iv r6]) S (rsl2 d (rvT (t:=2) (v:=iv 0) S d) (rvT (t:=3) (v:=iv r6) S d)) ⟨(),d,S.mem.sel [] [] (by decide) d d⟩))
 refine sCondF S d a7 (wp_skip (leafT (ae _ _ ?_)))
 refine sSeq (fun aj a9=>sRegion (sM S fun a S=>?_))
 obtain ⟨a0,aa,h⟩:=bS h
 have S1:=S.mem
 refine sCq [.slice a5 p0.length a6] (.tuple #[iv a0.1,iv a0.2]) S callee89 (S1.quiet [0] d) (fun E1 w1 S1=>c_stitch_sum E1 w1 p0 (.slice a5 p0.length a6) a0 aa S1) fun a w S=>?_
 refine sM S fun a S=>?_
 refine sExtract (vs:=[iv a0.1,iv a0.2]) (iv a0.1) S (wN d) d d d d (lb d) fun a S=>sExtract (vs:=[iv a0.1,iv a0.2]) (iv a0.2) S (wN d) d d d d (lb d) fun a S=>sN S fun a S=>?_
 refine sN S fun a S=>?_
 refine lT (a9 _ _ (sSeq (fun ak ab=>sRegion (sM S fun a S=>?_))))
 refine sN S fun a S=>?_
 refine sN S fun a S=>?_
 refine lT (ab _ _ ?_)
 obtain rfl:=tS h
 exact wp_ret (sRet (.tuple #[iv a0.1,iv 0]) S (rsl2 d (rvT (t:=2) (v:=iv a0.1) S d) (rvT (t:=3) (v:=iv 0) S d)) ⟨(),d,S.mem.sel [] [] (by decide) d d⟩)
noncomputable def F_stitch_Makes (p0:(List api_Stitch)):Option (Int × Int):=
 (F_stitch_All p0).bind fun r6=>
 if r6 != 0 then
  some (0,r6)
 else
  (F_stitch_sum p0).bind fun a0=>
  some (a0.2,0)
theorem c_stitch_Makes (E:Nat→Prop) (w0:World) (p0:(List api_Stitch)) (v0:Value) (r:(Int × Int)) (h:F_stitch_Makes p0=some r) (S:St0 E [] w0 w0 [] [fRep (rL r_api_Stitch) (v0) p0]) :
 Calls Try.prog 101 #[v0] w0 (Ret (X:=Unit) E [] w0 (fun _=>.tuple #[.int .i64 r.1,.int .i64 r.2]) (fun _=>[]) (fun _=>[])):=by
 unfold F_stitch_Makes at h
 obtain ⟨a5,a6,_,rfl,_⟩:=S.know (i:=0) (e:=fRep (rL r_api_Stitch) (v0) p0) d
 refine sEnter (args:=[.slice a5 p0.length a6]) 18 Try.func101 d d (by simp) S (fun a S=>?_)
 refine sSeq (fun K3 ac=>sRegion (sN S fun a S=>?_))
 refine sN S fun a S=>?_
 refine lT (ac _ _ (sSeq (fun K4 ae=>sSeq (fun K5 af=>sRegion (sM S fun a S=>?_)))))
 obtain ⟨r6,ag,h⟩:=bS h
 have S1:=S.mem
 refine sCq [.slice a5 p0.length a6] (iv r6) S callee56 (S1.quiet [0] d) (fun E1 w1 S1=>c_stitch_All E1 w1 p0 (.slice a5 p0.length a6) r6 ag S1) fun a w S=>?_
 refine sN S fun a S=>?_
 refine lT (af _ _ (sSeq (fun K8 ah=>sRegion (sM S fun a S=>?_))))
 refine sBin _ S (wN d) d d d (bNe _ _ _ _ .i64 r6 0) d (lb d) fun a S=>lT (ah _ _ ?_)
 rcases iS h with ⟨a7,h⟩ | ⟨a7,h⟩
 ·refine sCondT S d a7 (sSeq (fun ai a8=>sRegion (sM S fun a S=>?_)))
  refine sN S fun a S=>?_
  refine sN S fun a S=>?_
  refine lT (a8 _ _ ?_)
  obtain rfl:=tS h
  exact wp_ret (rThen (sRet (.tuple #[iv 0,iv r6]) S (rsl2 d (rvT (t:=2) (v:=iv 0) S d) (rvT (t:=3) (v:=iv r6) S d)) ⟨(),d,S.mem.sel [] [] (by decide) d d⟩))
 refine sCondF S d a7 (wp_skip (leafT (ae _ _ ?_)))
 refine sSeq (fun aj a9=>sRegion (sM S fun a S=>?_))
 obtain ⟨a0,aa,h⟩:=bS h
 have S1:=S.mem
 refine sCq [.slice a5 p0.length a6] (.tuple #[iv a0.1,iv a0.2]) S callee89 (S1.quiet [0] d) (fun E1 w1 S1=>c_stitch_sum E1 w1 p0 (.slice a5 p0.length a6) a0 aa S1) fun a w S=>?_
 refine sM S fun a S=>?_
 refine sExtract (vs:=[iv a0.1,iv a0.2]) (iv a0.1) S (wN d) d d d d (lb d) fun a S=>sExtract (vs:=[iv a0.1,iv a0.2]) (iv a0.2) S (wN d) d d d d (lb d) fun a S=>sN S fun a S=>?_
 refine sN S fun a S=>?_
 refine lT (a9 _ _ (sSeq (fun ak ab=>sRegion (sM S fun a S=>?_))))
 refine sN S fun a S=>?_
 refine sN S fun a S=>?_
 refine lT (ab _ _ ?_)
 obtain rfl:=tS h
 exact wp_ret (sRet (.tuple #[iv a0.2,iv 0]) S (rsl2 d (rvT (t:=2) (v:=iv a0.2) S d) (rvT (t:=3) (v:=iv 0) S d)) ⟨(),d,S.mem.sel [] [] (by decide) d d⟩)
noncomputable def raddleref25_kind_l1 (p0:Int):Int→Option (Int ⊕ (Int ⊕ Unit)):=fun s0=>match s0 with
 | s9=>
  if decide (s9 < ((⟨#[102,108,109,120,121,115,111]⟩:ByteArray).size:Int)) then
   (idxS (⟨#[102,108,109,120,121,115,111]⟩:ByteArray) s9).bind fun a0=>
   if a0 == p0 then
    (idxO ([3,4,5,6,7,8,10]:List Int) s9).bind fun a5=>
    some (.inr (.inl a5))
   else
    some (.inl (w64 (s9 + 1)))
  else
   some (.inr (.inr ()))
noncomputable def F_raddleref25_kind (p0:Int):Option Int:=
 Option.bind (α:=Unit ⊕ Int) (
  (whileO (raddleref25_kind_l1 p0) 0).bind fun z0=>match z0 with
   | .inl z=>
    some (.inr z)
   | .inr _=>
    some (.inl ())) fun z0=>match z0 with
  | .inl _=>
   some 0
  | .inr z=>
   some z
theorem c_raddleref25_kind (E:Nat→Prop) (w0:World) (p0:Int) (r:Int) (h:F_raddleref25_kind p0=some r) (S:St0 E [] w0 w0 [] []) :
 Calls Try.prog 106 #[.int .u8 p0] w0 (Ret (X:=Unit) E [] w0 (fun _=>.int .u8 r) (fun _=>[]) (fun _=>[])):=by
 unfold F_raddleref25_kind at h
 refine sEnter (args:=[.int .u8 p0]) 22 Try.func106 d d (by simp) S (fun a S=>?_)
 refine sSeq (fun K1 am=>sRegion (sN S fun a S=>?_))
 refine lT (am _ _ (sSeq (fun K2 ao=>sRegion (sN S fun a S=>?_))))
 refine lT (ao _ _ (sSeq (fun K3 ap=>sRegion (sLit (r:=(rI .u8)) (T:=5) (xs:=([3,4,5,6,7,8,10]:List Int)) [(0,.int .u8 3),(1,.int .u8 4),(2,.int .u8 5),(3,.int .u8 6),(4,.int .u8 7),(5,.int .u8 8),(6,.int .u8 10)] 7 [.int .u8 3,.int .u8 4,.int .u8 5,.int .u8 6,.int .u8 7,.int .u8 8,.int .u8 10] [.int .u8 3,.int .u8 4,.int .u8 5,.int .u8 6,.int .u8 7,.int .u8 8,.int .u8 10] (.int .u8 0) 1 S (wN d) d d Try.underlying166 d (by decide) (by decide) (by kernel_rfl) d (fun E1 w1 hE=>All.cons d (All.cons d (All.cons d (All.cons d (All.cons d (All.cons d (All.cons d (All.nil _ _ _)))))))) d d (lb d) fun a w a8 a9 S=>?_))))
 refine sN S fun a S=>?_
 refine lT (ap _ _ ?_)
 obtain ⟨t6,h,g7⟩:=bS h
 refine sCut (fun a w=>.inl ()=t6∧St [] E [] w0 22 a w [] [] []) ?_ (fun a w hI=>?_)
 rotate_left
 ·obtain ⟨rfl,S⟩:=hI
  have h:=g7
  try dsimp only at h
  refine sSeq (fun av ab=>sRegion (sN S fun a S=>?_))
  refine lT (ab _ _ ?_)
  obtain rfl:=tS h
  exact wp_ret (sRet (.int .u8 0) S (rsl1 d (rvT (t:=2) (v:=.int .u8 0) S d)) ⟨(),d,S.mem.sel [] [] (by decide) d d⟩)
 refine sSeq (fun K8 aq=>sRegion (sN S fun a S=>?_))
 refine lT (aq _ _ (wp_block ?_))
 obtain ⟨aw,hl,al⟩:=bS h
 refine sLoop hl (fun s0 a w=>match s0 with | s9=>St [] E [] w0 22 a w [(0,.int .u8 p0),(3,.string (⟨#[102,108,109,120,121,115,111]⟩:ByteArray)),(4,.slice a8 ([3,4,5,6,7,8,10]:List Int).length a9),(5,iv s9)] [eRow (rI .u8) 5 (.slice a8 ([3,4,5,6,7,8,10]:List Int).length a9) ([3,4,5,6,7,8,10]:List Int)] []) (S.fix [0] [] (by decide) d d d) ?_
 clear hl h
 intro s9 a w c0 hI h a6
 unfold raddleref25_kind_l1 at h
 dsimp only at h hI
 have S:=hI
 refine sSeq (fun ax ac=>sSeq (fun ay ae=>sRegion (sM S fun a S=>?_)))
 refine sM S fun a S=>?_
 refine sLenS (v:=(⟨#[102,108,109,120,121,115,111]⟩:ByteArray)) S (wN d) d Try.underlying9 d d (lb d) fun a S=>sBin _ S (wN d) d d d (bLt _ _ _ _ .i64 s9 ((⟨#[102,108,109,120,121,115,111]⟩:ByteArray).size:Int)) d (lb d) fun a S=>lT (ae _ _ ?_)
 rcases iS h with ⟨a0,h⟩ | ⟨a0,h⟩
 rotate_left
 ·refine sCondF S d a0 ?_
  obtain rfl:=tS h
  obtain rfl:=a6 _ d
  have h:=al
  try dsimp only at h
  exact wp_exit (xThen (xThen (xHit (leafT (⟨Option.some.inj h,S.fix [] [] (by decide) d d d⟩)))))
 refine sCondT S d a0 (wp_skip (leafT (ac _ _ ?_)))
 refine sSeq (fun az af=>wp_block ?_)
 refine sSeq (fun aA ag=>sRegion (sM S fun a S=>?_))
 refine sM S fun a S=>?_
 obtain ⟨ar,ah,h⟩:=bS h
 refine sIndexS (v:=(⟨#[102,108,109,120,121,115,111]⟩:ByteArray)) (j:=s9) (k:=.i64) S (wN d) d Try.underlying9 d d ah d (lb d) fun a S=>sM S fun a S=>?_
 refine sBin _ S (wN d) d d d (bEq _ _ _ _ .u8 ar p0) d (lb d) fun a S=>lT (ag _ _ ?_)
 rcases iS h with ⟨a5,h⟩ | ⟨a5,h⟩
 rotate_left
 ·refine sCondF S d a5 (wp_skip (leafB (leafT (af _ _ ?_))))
  refine sRegion (sM S fun a S=>?_)
  refine sBin _ S (wN d) d d d (bAdd _ _ _ _ s9 1) d (lb d) fun a S=>sN S fun a S=>?_
  exact lT (⟨w64 (s9 + 1),(Option.some.inj h).symm,(S.fix [0] [] (by decide) d d d)⟩)
 refine sCondT S d a5 (sSeq (fun aC ai=>sRegion (sM S fun a S=>?_)))
 refine sM S fun a S=>?_
 obtain ⟨aa,a7,h⟩:=bS h
 obtain ⟨au,aj,ak⟩:=pIdxR (P:=Try.prog) (r:=(rI .u8)) (T:=5) (v:=.slice a8 ([3,4,5,6,7,8,10]:List Int).length a9) (xs:=([3,4,5,6,7,8,10]:List Int)) (j:=s9) 166 5 0 S Try.underlying166 d d a7
 refine sIdxV S (wN d) d d d aj d (lb d) fun a S=>sLoadR (r:=(rI .u8)) (T:=5) (xs:=([3,4,5,6,7,8,10]:List Int)) (x:=aa) (v:=.slice a8 ([3,4,5,6,7,8,10]:List Int).length a9) (vq:=au) (j:=s9) 0 (.int .u8 aa) S ak (wN d) d d d a7 (fun _ _ _ h=>h) (scal_I _) d d (lb d) fun a S=>sN S fun a S=>?_
 refine lT (ai _ _ ?_)
 obtain rfl:=tS h
 obtain rfl:=a6 _ d
 have h:=al
 try dsimp only at h
 obtain rfl:=tS h
 have h:=g7
 try dsimp only at h
 obtain rfl:=tS h
 exact wp_ret (rBlock (rThen (rThen (rBlock (rThen (sRet (.int .u8 aa) S (rsl1 d (rvT (t:=2) (v:=.int .u8 aa) S d)) ⟨(),d,S.mem.sel [] [] (by decide) d d⟩))))))
noncomputable def raddleref25_Decimal_l1 :(Int × ByteArray)→Option ((Int × ByteArray) ⊕ ByteArray):=fun s0=>match s0 with
 | (a0,a5)=>
  if decide (0 < a0) then
   (remI a0 10).bind fun a6=>
   (addS (strO ([IntKind.u8.wrap (w64 (48 + a6))]:List Int)) a5).bind fun a7=>
   (quoI a0 10).bind fun a8=>
   some (.inl (a8,a7))
  else
   some (.inr a5)
noncomputable def F_raddleref25_Decimal (p0:Int):Option ByteArray:=
 (remI p0 10).bind fun z3=>
 Option.bind (α:=ByteArray) (
  (quoI p0 10).bind fun a0=>
  (whileO (raddleref25_Decimal_l1) (a0,strO ([IntKind.u8.wrap (w64 (48 + z3))]:List Int))).bind fun a5=>
   some a5) fun o7=>
 some o7
theorem c_raddleref25_Decimal (E:Nat→Prop) (w0:World) (p0:Int) (r:ByteArray) (h:F_raddleref25_Decimal p0=some r) (S:St0 E [] w0 w0 [] []) :
 Calls Try.prog 108 #[iv p0] w0 (Ret (X:=Unit) E [] w0 (fun _=>.string r) (fun _=>[]) (fun _=>[])):=by
 unfold F_raddleref25_Decimal at h
 refine sEnter (args:=[iv p0]) 25 Try.func108 d d (by simp) S (fun a S=>?_)
 refine sSeq (fun K1 al=>sRegion (sN S fun a S=>?_))
 refine lT (al _ _ (sSeq (fun K2 am=>sRegion (sM S fun a S=>?_))))
 obtain ⟨z3,ao,h⟩:=bS h
 refine sBin _ S (wN d) d d d (bRem _ _ _ _ (x:=p0) (y:=10) ao) d (lb d) fun a S=>sBin _ S (wN d) d d d (bAdd _ _ _ _ 48 z3) d (lb d) fun a S=>sConv (k:=.i64) (k2:=.u8) (b:=w64 (48 + z3)) S (wN d) d Try.underlying3 Try.underlying5 d d (lb d) fun a S=>sLit (r:=(rI .u8)) (T:=5) (xs:=([IntKind.u8.wrap (w64 (48 + z3))]:List Int)) [(0,.int .u8 (IntKind.u8.wrap (w64 (48 + z3))))] 1 [.int .u8 (IntKind.u8.wrap (w64 (48 + z3)))] [.int .u8 (IntKind.u8.wrap (w64 (48 + z3)))] (.int .u8 0) 1 S (wN d) d d Try.underlying166 d (by decide) (by decide) (by kernel_rfl) d (fun E1 w1 hE=>All.cons d (All.nil _ _ _)) d d (lb d) fun a w ap aq S=>?_
 refine sBytesStr (e:=5) (v:=.slice ap ([IntKind.u8.wrap (w64 (48 + z3))]:List Int).length aq) (ys:=([IntKind.u8.wrap (w64 (48 + z3))]:List Int)) S (wN d) d d Try.underlying166 Try.underlying5 Try.underlying9 (src_R (T:=5) 0 S.mem d) d (lb d) fun a S=>?_
 refine sN S fun a S=>?_
 refine lT (am _ _ ?_)
 obtain ⟨t8,h,g9⟩:=bS h
 refine sCut (fun a w=>∃ o7,o7=t8∧St [] E [] w0 25 a w [(3,.string o7)] [] []) ?_ (fun a w hI=>?_)
 rotate_left
 ·obtain ⟨o7,rfl,S⟩:=hI
  have h:=g9
  try dsimp only at h
  refine sSeq (fun aw a8=>sRegion (sM S fun a S=>?_))
  refine sN S fun a S=>?_
  refine lT (a8 _ _ ?_)
  obtain rfl:=tS h
  exact wp_ret (sRet (.string o7) S (rsl1 d (rvT (t:=2) (v:=.string o7) S d)) ⟨(),d,S.mem.sel [] [] (by decide) d d⟩)
 refine sSeq (fun ax a9=>sRegion (sM S fun a S=>?_))
 obtain ⟨ay,aa,h⟩:=bS h
 refine sBin _ S (wN d) d d d (bQuo _ _ _ _ (x:=p0) (y:=10) aa) d (lb d) fun a S=>sN S fun a S=>?_
 refine lT (a9 _ _ (wp_block ?_))
 obtain ⟨az,hl,ar⟩:=bS h
 refine sLoop hl (fun s0 a w=>match s0 with | (a6,a7)=>St [] E [] w0 25 a w [(0,iv a6),(3,.string a7)] [] []) (S.fix [] [] (by decide) d d d) ?_
 clear hl h
 intro s0 a w c0 hI h ab
 obtain ⟨a6,a7⟩:=s0
 unfold raddleref25_Decimal_l1 at h
 dsimp only at h hI
 have S:=hI
 refine sSeq (fun aA ac=>sSeq (fun aC ae=>sRegion (sM S fun a S=>?_)))
 refine sBin _ S (wN d) d d d (bGt _ _ _ _ .i64 a6 0) d (lb d) fun a S=>lT (ae _ _ ?_)
 rcases iS h with ⟨a5,h⟩ | ⟨a5,h⟩
 rotate_left
 ·refine sCondF S d a5 ?_
  obtain rfl:=tS h
  obtain rfl:=ab _ d
  have h:=ar
  try dsimp only at h
  exact wp_exit (xThen (xThen (xHit (leafT (⟨a7,Option.some.inj h,S.fix [] [] (by decide) d d d⟩)))))
 refine sCondT S d a5 (wp_skip (leafT (ac _ _ ?_)))
 refine sSeq (fun aG af=>wp_block ?_)
 refine sRegion (sM S fun a S=>?_)
 obtain ⟨a0,ag,h⟩:=bS h
 refine sBin _ S (wN d) d d d (bRem _ _ _ _ (x:=a6) (y:=10) ag) d (lb d) fun a S=>sBin _ S (wN d) d d d (bAdd _ _ _ _ 48 a0) d (lb d) fun a S=>sConv (k:=.i64) (k2:=.u8) (b:=w64 (48 + a0)) S (wN d) d Try.underlying3 Try.underlying5 d d (lb d) fun a S=>sLit (r:=(rI .u8)) (T:=5) (xs:=([IntKind.u8.wrap (w64 (48 + a0))]:List Int)) [(0,.int .u8 (IntKind.u8.wrap (w64 (48 + a0))))] 1 [.int .u8 (IntKind.u8.wrap (w64 (48 + a0)))] [.int .u8 (IntKind.u8.wrap (w64 (48 + a0)))] (.int .u8 0) 1 S (wN d) d d Try.underlying166 d (by decide) (by decide) (by kernel_rfl) d (fun E1 w1 hE=>All.cons d (All.nil _ _ _)) d d (lb d) fun a w ah ai S=>?_
 refine sBytesStr (e:=5) (v:=.slice ah ([IntKind.u8.wrap (w64 (48 + a0))]:List Int).length ai) (ys:=([IntKind.u8.wrap (w64 (48 + a0))]:List Int)) S (wN d) d d Try.underlying166 Try.underlying5 Try.underlying9 (src_R (T:=5) 0 S.mem d) d (lb d) fun a S=>?_
 refine sM S fun a S=>?_
 obtain ⟨au,aj,h⟩:=bS h
 refine sBin _ S (wN d) d d d (bAddS _ _ _ _ (x:=strO ([IntKind.u8.wrap (w64 (48 + a0))]:List Int)) (y:=a7) aj) d (lb d) fun a S=>sN S fun a S=>?_
 refine leafL (leafB (leafT (af _ _ ?_)))
 refine sRegion (sM S fun a S=>?_)
 obtain ⟨av,ak,h⟩:=bS h
 refine sBin _ S (wN d) d d d (bQuo _ _ _ _ (x:=a6) (y:=10) ak) d (lb d) fun a S=>sN S fun a S=>?_
 exact lT (⟨(av,au),(Option.some.inj h).symm,(S.fix [] [] (by decide) d d d)⟩)
def anc_raddleref25_one_0:List (List Nat):=[[],[0],[],[2],[2,3],[0,1,2,3,4],[0,1,2,3,4,5],[],[7],[2,3,4,7,8],[0,1,2,3,4,5,6,7,8,9],[0,1,2,3,4,5,6,7,8,9,10]]
noncomputable def F_raddleref25_one (p0:api_Stitch):Option ByteArray:=
 Option.bind (α:=ByteArray) (
  if p0.Purl then
   some (⟨#[112]⟩:ByteArray)
  else
   some (⟨#[107]⟩:ByteArray)) fun o4=>
 if p0.Kind == 1 then
  some o4
 else
  if p0.Kind == 2 then
   some (⟨#[121,111]⟩:ByteArray)
  else
   if p0.Kind == 3 then
    (addS o4 (⟨#[102]⟩:ByteArray)).bind fun a0=>
    (F_raddleref25_Decimal p0.A).bind fun a5=>
    (addS a0 a5).bind fun a6=>
    some a6
   else
    if p0.Kind == 4 then
     (addS o4 (⟨#[108]⟩:ByteArray)).bind fun a7=>
     (F_raddleref25_Decimal p0.A).bind fun a8=>
     (addS a7 a8).bind fun a9=>
     some a9
    else
     if p0.Kind == 5 then
      (addS o4 (⟨#[109]⟩:ByteArray)).bind fun aa=>
      (F_raddleref25_Decimal p0.A).bind fun ab=>
      (addS aa ab).bind fun ac=>
      some ac
     else
      if p0.Kind == 6 then
       (addS o4 (⟨#[120]⟩:ByteArray)).bind fun ae=>
       (F_raddleref25_Decimal p0.A).bind fun af=>
       (addS ae af).bind fun ag=>
       (addS ag (⟨#[47]⟩:ByteArray)).bind fun ah=>
       (F_raddleref25_Decimal p0.B).bind fun ai=>
       (addS ah ai).bind fun aj=>
       some aj
      else
       if p0.Kind == 7 then
        (addS o4 (⟨#[121]⟩:ByteArray)).bind fun ak=>
        (F_raddleref25_Decimal p0.A).bind fun al=>
        (addS ak al).bind fun am=>
        (addS am (⟨#[47]⟩:ByteArray)).bind fun ao=>
        (F_raddleref25_Decimal p0.B).bind fun ap=>
        (addS ao ap).bind fun aq=>
        some aq
       else
        if p0.Kind == 8 then
         (addS o4 (⟨#[115]⟩:ByteArray)).bind fun ar=>
         some ar
        else
         if p0.Kind == 9 then
          (F_raddleref25_Decimal p0.A).bind fun au=>
          (addS (⟨#[111,110]⟩:ByteArray) au).bind fun av=>
          some av
         else
          (addS o4 (⟨#[111]⟩:ByteArray)).bind fun aw=>
          (F_raddleref25_Decimal p0.A).bind fun ax=>
          (addS aw ax).bind fun ay=>
          some ay
theorem c_raddleref25_one (E:Nat→Prop) (w0:World) (p0:api_Stitch) (v0:Value) (r:ByteArray) (h:F_raddleref25_one p0=some r) (S:St0 E [] w0 w0 [] [fRep r_api_Stitch (v0) p0]) :
 Calls Try.prog 107 #[v0] w0 (Ret (X:=Unit) E [] w0 (fun _=>.string r) (fun _=>[]) (fun _=>[])):=by
 unfold F_raddleref25_one at h
 obtain rfl:v0=.agg #[.int .u8 p0.Kind,.bool p0.Purl,iv p0.A,iv p0.B]:=S.know (i:=0) (e:=fRep r_api_Stitch (v0) p0) d
 refine sEnter (args:=[.agg #[.int .u8 p0.Kind,.bool p0.Purl,iv p0.A,iv p0.B]]) 79 Try.func107 d d (by simp) S (fun a S=>?_)
 refine sSeq (fun K1 bN=>sRegion (sBox (v:=.agg #[.int .u8 p0.Kind,.bool p0.Purl,iv p0.A,iv p0.B]) S (wN d) d d [.int .u8 p0.Kind,.bool p0.Purl,iv p0.A,iv p0.B] d d (lb d) fun a b2 w S=>sN S fun a S=>?_))
 refine lT (bN _ _ (sSeq (fun K3 bO=>sRegion (sN S fun a S=>?_))))
 refine lT (bO _ _ ?_)
 obtain ⟨t5,h,g6⟩:=bS h
 refine sCut (fun a w=>∃ o4,o4=t5∧St [] E [] w0 79 a w [(1,.pointer (some ⟨b2,0,none⟩)),(3,.string o4)] [eBox b2 81 [.int .u8 p0.Kind,.bool p0.Purl,iv p0.A,iv p0.B]] []) ?_ (fun a w hI=>?_)
 ·refine sSeq (fun K7 bP=>sRegion (sField (b:=b2) (off:=0) 1 1 S (wN d) d d d d d (lb d) fun a S=>sLoad1 0 (.bool p0.Purl) S (wN d) d d d d d d (lb d) fun a S=>lT (bP _ _ ?_)))
  rcases iS h with ⟨ak,h⟩ | ⟨ak,h⟩
  rotate_left
  ·refine sCondF S d ak ?_
   exact wp_skip (leafT (⟨(⟨#[107]⟩:ByteArray),Option.some.inj h,S.fix [0] [] (by decide) d d d⟩))
  refine sCondT S d ak (sRegion (sN S fun a S=>?_))
  exact lT (⟨(⟨#[112]⟩:ByteArray),Option.some.inj h,S.fix [0] [] (by decide) d d d⟩)
 obtain ⟨o4,rfl,S⟩:=hI
 have h:=g6
 try dsimp only at h
 refine sSeq (fun K9 bQ=>sSeq (fun bX al=>sRegion (sField (b:=b2) (off:=0) 0 0 S (wN d) d d d d d (lb d) fun a S=>sLoad1 0 (.int .u8 p0.Kind) S (wN d) d d d d d d (lb d) fun a S=>lT (al _ _ (wp_block ?_)))))
 refine sSeq (fun bY am=>sRegion (sBin _ S (wN d) d d d (bEq _ _ _ _ .u8 p0.Kind 1) d (lb d) fun a S=>sN S fun a S=>?_))
 refine lT (am _ _ ?_)
 rcases iS h with ⟨a0,h⟩ | ⟨a0,h⟩
 ·refine sCondT S d a0 (sSeq (fun bZ ao=>sRegion (sM S fun a S=>?_)))
  refine sN S fun a S=>?_
  refine lT (ao _ _ ?_)
  obtain rfl:=tS h
  exact wp_ret (rBlock (rThen (sRet (.string o4) S (rsl1 d (rvT (t:=2) (v:=.string o4) S d)) ⟨(),d,S.mem.sel [] [] (by decide) d d⟩)))
 refine sCondF S d a0 (sSeq (fun c7 ap=>sRegion (sBin _ S (wN d) d d d (bEq _ _ _ _ .u8 p0.Kind 2) d (lb d) fun a S=>sN S fun a S=>?_)))
 refine lT (ap _ _ ?_)
 rcases iS h with ⟨a5,h⟩ | ⟨a5,h⟩
 ·refine sCondT S d a5 (sSeq (fun c8 aq=>sRegion (sN S fun a S=>?_)))
  refine lT (aq _ _ ?_)
  obtain rfl:=tS h
  exact wp_ret (rBlock (rThen (sRet (.string (⟨#[121,111]⟩:ByteArray)) S (rsl1 d (rvT (t:=2) (v:=.string (⟨#[121,111]⟩:ByteArray)) S d)) ⟨(),d,S.mem.sel [] [] (by decide) d d⟩)))
 refine sCondF S d a5 (sSeq (fun c9 ar=>sRegion (sBin _ S (wN d) d d d (bEq _ _ _ _ .u8 p0.Kind 3) d (lb d) fun a S=>sN S fun a S=>?_)))
 refine lT (ar _ _ ?_)
 rcases iS h with ⟨a6,h⟩ | ⟨a6,h⟩
 ·refine sCondT S d a6 (sSeq (fun ca au=>sRegion (sM S fun a S=>?_)))
  obtain ⟨bR,av,h⟩:=bS h
  refine sBin _ S (wN d) d d d (bAddS _ _ _ _ (x:=o4) (y:=(⟨#[102]⟩:ByteArray)) av) d (lb d) fun a S=>sField (b:=b2) (off:=0) 2 2 S (wN d) d d d d d (lb d) fun a S=>sLoad1 0 (iv p0.A) S (wN d) d d d d d d (lb d) fun a S=>?_
  obtain ⟨aw,ax,h⟩:=bS h
  have S1:=S.mem
  refine sCq [iv p0.A] (.string aw) S callee108 (S1.quiet [] d) (fun E1 w1 S1=>c_raddleref25_Decimal E1 w1 p0.A aw ax S1) fun a w S=>?_
  obtain ⟨bA,ay,h⟩:=bS h
  refine sBin _ S (wN d) d d d (bAddS _ _ _ _ (x:=bR) (y:=aw) ay) d (lb d) fun a S=>sN S fun a S=>?_
  refine lT (au _ _ ?_)
  obtain rfl:=tS h
  exact wp_ret (rBlock (rThen (sRet (.string bA) S (rsl1 d (rvT (t:=2) (v:=.string bA) S d)) ⟨(),d,S.mem.sel [] [] (by decide) d d⟩)))
 refine sCondF S d a6 (sSeq (fun cb az=>sRegion (sBin _ S (wN d) d d d (bEq _ _ _ _ .u8 p0.Kind 4) d (lb d) fun a S=>sN S fun a S=>?_)))
 refine lT (az _ _ ?_)
 rcases iS h with ⟨a7,h⟩ | ⟨a7,h⟩
 ·refine sCondT S d a7 (sSeq (fun cc aA=>sRegion (sM S fun a S=>?_)))
  obtain ⟨bU,aC,h⟩:=bS h
  refine sBin _ S (wN d) d d d (bAddS _ _ _ _ (x:=o4) (y:=(⟨#[108]⟩:ByteArray)) aC) d (lb d) fun a S=>sField (b:=b2) (off:=0) 2 2 S (wN d) d d d d d (lb d) fun a S=>sLoad1 0 (iv p0.A) S (wN d) d d d d d d (lb d) fun a S=>?_
  obtain ⟨aG,aH,h⟩:=bS h
  have S1:=S.mem
  refine sCq [iv p0.A] (.string aG) S callee108 (S1.quiet [] d) (fun E1 w1 S1=>c_raddleref25_Decimal E1 w1 p0.A aG aH S1) fun a w S=>?_
  obtain ⟨bB,aI,h⟩:=bS h
  refine sBin _ S (wN d) d d d (bAddS _ _ _ _ (x:=bU) (y:=aG) aI) d (lb d) fun a S=>sN S fun a S=>?_
  refine lT (aA _ _ ?_)
  obtain rfl:=tS h
  exact wp_ret (rBlock (rThen (sRet (.string bB) S (rsl1 d (rvT (t:=2) (v:=.string bB) S d)) ⟨(),d,S.mem.sel [] [] (by decide) d d⟩)))
 refine sCondF S d a7 (sSeq (fun cd aJ=>sRegion (sBin _ S (wN d) d d d (bEq _ _ _ _ .u8 p0.Kind 5) d (lb d) fun a S=>sN S fun a S=>?_)))
 refine lT (aJ _ _ ?_)
 rcases iS h with ⟨a8,h⟩ | ⟨a8,h⟩
 ·refine sCondT S d a8 (sSeq (fun ce aK=>sRegion (sM S fun a S=>?_)))
  obtain ⟨bV,aL,h⟩:=bS h
  refine sBin _ S (wN d) d d d (bAddS _ _ _ _ (x:=o4) (y:=(⟨#[109]⟩:ByteArray)) aL) d (lb d) fun a S=>sField (b:=b2) (off:=0) 2 2 S (wN d) d d d d d (lb d) fun a S=>sLoad1 0 (iv p0.A) S (wN d) d d d d d d (lb d) fun a S=>?_
  obtain ⟨aM,aO,h⟩:=bS h
  have S1:=S.mem
  refine sCq [iv p0.A] (.string aM) S callee108 (S1.quiet [] d) (fun E1 w1 S1=>c_raddleref25_Decimal E1 w1 p0.A aM aO S1) fun a w S=>?_
  obtain ⟨bC,aP,h⟩:=bS h
  refine sBin _ S (wN d) d d d (bAddS _ _ _ _ (x:=bV) (y:=aM) aP) d (lb d) fun a S=>sN S fun a S=>?_
  refine lT (aK _ _ ?_)
  obtain rfl:=tS h
  exact wp_ret (rBlock (rThen (sRet (.string bC) S (rsl1 d (rvT (t:=2) (v:=.string bC) S d)) ⟨(),d,S.mem.sel [] [] (by decide) d d⟩)))
 refine sCondF S d a8 (sSeq (fun cf aQ=>sRegion (sBin _ S (wN d) d d d (bEq _ _ _ _ .u8 p0.Kind 6) d (lb d) fun a S=>sN S fun a S=>?_)))
 refine lT (aQ _ _ ?_)
 rcases iS h with ⟨a9,h⟩ | ⟨a9,h⟩
 ·refine sCondT S d a9 (sSeq (fun cg aR=>?_))
  obtain ⟨bD,aS,h⟩:=bS h
  obtain ⟨ag,aT,h⟩:=bS h
  obtain ⟨bE,aU,h⟩:=bS h
  obtain ⟨bG,aV,h⟩:=bS h
  obtain ⟨ah,aW,h⟩:=bS h
  obtain ⟨ae,aX,h⟩:=bS h
  refine sDraw (nf:=[]) (W:=[(0,39,.string o4),(1,40,.string bD),(2,41,.pointer (some ⟨b2,2,none⟩)),(3,42,iv p0.A),(4,43,.string ag),(5,44,.string bE),(6,45,.string bG),(7,46,.pointer (some ⟨b2,3,none⟩)),(8,47,iv p0.B),(9,48,.string ah),(10,49,.string ae),(11,2,.string ae)]) d S ?_
  refine node_by (A:=anc_raddleref25_one_0) 12 (by kernel_rfl) (by kernel_rfl) (by kernel_rfl) (by kernel_rfl) (by kernel_rfl) [0,1,2,3,4,5,6,7,8,9,10,11] (by kernel_rfl) (by decide) (by decide) (fF ?_ (fF ?_ (fF ?_ (fF ?_ (fF ?_ (fF ?_ (fF ?_ (fF ?_ (fF ?_ (fF ?_ (fF ?_ (fF ?_ (trivial))))))))))))) [(2,.string ae)] (fin_of [some 11] d (by kernel_rfl) (by kernel_rfl)) (fun _ a w S=>?_)
  ·exact fM 0 none d d d d (.inl d) d d d
  ·refine fJ [(39,_)] 1 [some 0] fun G a w S=>?_
   exact sBin _ S (wN d) d d d (bAddS _ _ _ _ (x:=o4) (y:=(⟨#[120]⟩:ByteArray)) aS) d (lb d) fun a S=>leafL ⟨d,S⟩
  ·refine fJ [(1,_)] 2 [none] fun G a w S=>?_
   exact sField (b:=b2) (off:=0) 2 2 S (wN d) d d d d d (lb d) fun a S=>leafL ⟨d,S⟩
  ·refine fJ [(41,_)] 3 [some 2] fun G a w S=>?_
   exact sLoad1 0 (iv p0.A) S (wN d) d d d d d d (lb d) fun a S=>leafL ⟨d,S⟩
  ·refine fJ [(42,_)] 4 [some 3] fun G a w S=>?_
   have S1:=S.mem
   refine sCq [iv p0.A] (.string ag) S callee108 (S1.quiet [] d) (fun E1 w1 S1=>c_raddleref25_Decimal E1 w1 p0.A ag aT S1) fun a w S=>?_
   exact leafL ⟨d,S⟩
  ·refine fJ [(40,_),(43,_)] 5 [some 1,some 4] fun G a w S=>?_
   exact sBin _ S (wN d) d d d (bAddS _ _ _ _ (x:=bD) (y:=ag) aU) d (lb d) fun a S=>leafL ⟨d,S⟩
  ·refine fJ [(44,_)] 6 [some 5] fun G a w S=>?_
   exact sBin _ S (wN d) d d d (bAddS _ _ _ _ (x:=bE) (y:=(⟨#[47]⟩:ByteArray)) aV) d (lb d) fun a S=>leafL ⟨d,S⟩
  ·refine fJ [(1,_)] 7 [none] fun G a w S=>?_
   exact sField (b:=b2) (off:=0) 3 3 S (wN d) d d d d d (lb d) fun a S=>leafL ⟨d,S⟩
  ·refine fJ [(46,_)] 8 [some 7] fun G a w S=>?_
   exact sLoad1 0 (iv p0.B) S (wN d) d d d d d d (lb d) fun a S=>leafL ⟨d,S⟩
  ·refine fJ [(47,_)] 9 [some 8] fun G a w S=>?_
   have S1:=S.mem
   refine sCq [iv p0.B] (.string ah) S callee108 (S1.quiet [] d) (fun E1 w1 S1=>c_raddleref25_Decimal E1 w1 p0.B ah aW S1) fun a w S=>?_
   exact leafL ⟨d,S⟩
  ·refine fJ [(45,_),(48,_)] 10 [some 6,some 9] fun G a w S=>?_
   exact sBin _ S (wN d) d d d (bAddS _ _ _ _ (x:=bG) (y:=ah) aX) d (lb d) fun a S=>leafL ⟨d,S⟩
  ·exact fM 11 (some 10) d d d d (.inr d) d d d
  refine leafT (aR _ _ ?_)
  obtain rfl:=tS h
  exact wp_ret (rBlock (rThen (sRet (.string ae) S (rsl1 d (rvT (t:=2) (v:=.string ae) S d)) ⟨(),d,S.mem.sel [] [] (by decide) d d⟩)))
 refine sCondF S d a9 (sSeq (fun ci aZ=>sRegion (sBin _ S (wN d) d d d (bEq _ _ _ _ .u8 p0.Kind 7) d (lb d) fun a S=>sN S fun a S=>?_)))
 refine lT (aZ _ _ ?_)
 rcases iS h with ⟨aa,h⟩ | ⟨aa,h⟩
 rotate_left
 ·refine sCondF S d aa (sSeq (fun cj ba=>sRegion (sBin _ S (wN d) d d d (bEq _ _ _ _ .u8 p0.Kind 8) d (lb d) fun a S=>sN S fun a S=>?_)))
  refine lT (ba _ _ ?_)
  rcases iS h with ⟨ab,h⟩ | ⟨ab,h⟩
  ·refine sCondT S d ab (sSeq (fun ck bb=>sRegion (sM S fun a S=>?_)))
   obtain ⟨bH,bc,h⟩:=bS h
   refine sBin _ S (wN d) d d d (bAddS _ _ _ _ (x:=o4) (y:=(⟨#[115]⟩:ByteArray)) bc) d (lb d) fun a S=>sN S fun a S=>?_
   refine lT (bb _ _ ?_)
   obtain rfl:=tS h
   exact wp_ret (rBlock (rThen (sRet (.string bH) S (rsl1 d (rvT (t:=2) (v:=.string bH) S d)) ⟨(),d,S.mem.sel [] [] (by decide) d d⟩)))
  refine sCondF S d ab (sSeq (fun cl bf=>sRegion (sBin _ S (wN d) d d d (bEq _ _ _ _ .u8 p0.Kind 9) d (lb d) fun a S=>sN S fun a S=>?_)))
  refine lT (bf _ _ ?_)
  rcases iS h with ⟨ac,h⟩ | ⟨ac,h⟩
  ·refine sCondT S d ac (sSeq (fun cm bg=>sRegion (sField (b:=b2) (off:=0) 2 2 S (wN d) d d d d d (lb d) fun a S=>sLoad1 0 (iv p0.A) S (wN d) d d d d d d (lb d) fun a S=>?_)))
   obtain ⟨bh,bi,h⟩:=bS h
   have S1:=S.mem
   refine sCq [iv p0.A] (.string bh) S callee108 (S1.quiet [] d) (fun E1 w1 S1=>c_raddleref25_Decimal E1 w1 p0.A bh bi S1) fun a w S=>?_
   obtain ⟨bI,bj,h⟩:=bS h
   refine sBin _ S (wN d) d d d (bAddS _ _ _ _ (x:=(⟨#[111,110]⟩:ByteArray)) (y:=bh) bj) d (lb d) fun a S=>sN S fun a S=>?_
   refine lT (bg _ _ ?_)
   obtain rfl:=tS h
   exact wp_ret (rBlock (rThen (sRet (.string bI) S (rsl1 d (rvT (t:=2) (v:=.string bI) S d)) ⟨(),d,S.mem.sel [] [] (by decide) d d⟩)))
  refine sCondF S d ac (wp_skip (leafB (leafT (bQ _ _ ?_))))
  refine sSeq (fun cn bk=>sRegion (sM S fun a S=>?_))
  obtain ⟨bW,bl,h⟩:=bS h
  refine sBin _ S (wN d) d d d (bAddS _ _ _ _ (x:=o4) (y:=(⟨#[111]⟩:ByteArray)) bl) d (lb d) fun a S=>sField (b:=b2) (off:=0) 2 2 S (wN d) d d d d d (lb d) fun a S=>sLoad1 0 (iv p0.A) S (wN d) d d d d d d (lb d) fun a S=>?_
  obtain ⟨bm,bo,h⟩:=bS h
  have S1:=S.mem
  refine sCq [iv p0.A] (.string bm) S callee108 (S1.quiet [] d) (fun E1 w1 S1=>c_raddleref25_Decimal E1 w1 p0.A bm bo S1) fun a w S=>?_
  obtain ⟨bJ,bp,h⟩:=bS h
  refine sBin _ S (wN d) d d d (bAddS _ _ _ _ (x:=bW) (y:=bm) bp) d (lb d) fun a S=>sN S fun a S=>?_
  refine lT (bk _ _ ?_)
  obtain rfl:=tS h
  exact wp_ret (sRet (.string bJ) S (rsl1 d (rvT (t:=2) (v:=.string bJ) S d)) ⟨(),d,S.mem.sel [] [] (by decide) d d⟩)
 refine sCondT S d aa (sSeq (fun co bq=>?_))
 obtain ⟨bK,br,h⟩:=bS h
 obtain ⟨ai,bu,h⟩:=bS h
 obtain ⟨bL,bv,h⟩:=bS h
 obtain ⟨bM,bw,h⟩:=bS h
 obtain ⟨aj,bx,h⟩:=bS h
 obtain ⟨af,bz,h⟩:=bS h
 refine sDraw (nf:=[]) (W:=[(0,52,.string o4),(1,53,.string bK),(2,54,.pointer (some ⟨b2,2,none⟩)),(3,55,iv p0.A),(4,56,.string ai),(5,57,.string bL),(6,58,.string bM),(7,59,.pointer (some ⟨b2,3,none⟩)),(8,60,iv p0.B),(9,61,.string aj),(10,62,.string af),(11,2,.string af)]) d S ?_
 refine node_by (A:=anc_raddleref25_one_0) 12 (by kernel_rfl) (by kernel_rfl) (by kernel_rfl) (by kernel_rfl) (by kernel_rfl) [0,1,2,3,4,5,6,7,8,9,10,11] (by kernel_rfl) (by decide) (by decide) (fF ?_ (fF ?_ (fF ?_ (fF ?_ (fF ?_ (fF ?_ (fF ?_ (fF ?_ (fF ?_ (fF ?_ (fF ?_ (fF ?_ (trivial))))))))))))) [(2,.string af)] (fin_of [some 11] d (by kernel_rfl) (by kernel_rfl)) (fun _ a w S=>?_)
 ·exact fM 0 none d d d d (.inl d) d d d
 ·refine fJ [(52,_)] 1 [some 0] fun G a w S=>?_
  exact sBin _ S (wN d) d d d (bAddS _ _ _ _ (x:=o4) (y:=(⟨#[121]⟩:ByteArray)) br) d (lb d) fun a S=>leafL ⟨d,S⟩
 ·refine fJ [(1,_)] 2 [none] fun G a w S=>?_
  exact sField (b:=b2) (off:=0) 2 2 S (wN d) d d d d d (lb d) fun a S=>leafL ⟨d,S⟩
 ·refine fJ [(54,_)] 3 [some 2] fun G a w S=>?_
  exact sLoad1 0 (iv p0.A) S (wN d) d d d d d d (lb d) fun a S=>leafL ⟨d,S⟩
 ·refine fJ [(55,_)] 4 [some 3] fun G a w S=>?_
  have S1:=S.mem
  refine sCq [iv p0.A] (.string ai) S callee108 (S1.quiet [] d) (fun E1 w1 S1=>c_raddleref25_Decimal E1 w1 p0.A ai bu S1) fun a w S=>?_
  exact leafL ⟨d,S⟩
 ·refine fJ [(53,_),(56,_)] 5 [some 1,some 4] fun G a w S=>?_
  exact sBin _ S (wN d) d d d (bAddS _ _ _ _ (x:=bK) (y:=ai) bv) d (lb d) fun a S=>leafL ⟨d,S⟩
 ·refine fJ [(57,_)] 6 [some 5] fun G a w S=>?_
  exact sBin _ S (wN d) d d d (bAddS _ _ _ _ (x:=bL) (y:=(⟨#[47]⟩:ByteArray)) bw) d (lb d) fun a S=>leafL ⟨d,S⟩
 ·refine fJ [(1,_)] 7 [none] fun G a w S=>?_
  exact sField (b:=b2) (off:=0) 3 3 S (wN d) d d d d d (lb d) fun a S=>leafL ⟨d,S⟩
 ·refine fJ [(59,_)] 8 [some 7] fun G a w S=>?_
  exact sLoad1 0 (iv p0.B) S (wN d) d d d d d d (lb d) fun a S=>leafL ⟨d,S⟩
 ·refine fJ [(60,_)] 9 [some 8] fun G a w S=>?_
  have S1:=S.mem
  refine sCq [iv p0.B] (.string aj) S callee108 (S1.quiet [] d) (fun E1 w1 S1=>c_raddleref25_Decimal E1 w1 p0.B aj bx S1) fun a w S=>?_
  exact leafL ⟨d,S⟩
 ·refine fJ [(58,_),(61,_)] 10 [some 6,some 9] fun G a w S=>?_
  exact sBin _ S (wN d) d d d (bAddS _ _ _ _ (x:=bM) (y:=aj) bz) d (lb d) fun a S=>leafL ⟨d,S⟩
 ·exact fM 11 (some 10) d d d d (.inr d) d d d
 refine leafT (bq _ _ ?_)
 obtain rfl:=tS h
 exact wp_ret (rBlock (rThen (sRet (.string af) S (rsl1 d (rvT (t:=2) (v:=.string af) S d)) ⟨(),d,S.mem.sel [] [] (by decide) d d⟩)))
noncomputable def F_raddleref26_side (p0:Bool):Option ByteArray:=
 if p0 then
  some (⟨#[98,97,99,107]⟩:ByteArray)
 else
  some (⟨#[102,114,111,110,116]⟩:ByteArray)
theorem c_raddleref26_side (E:Nat→Prop) (w0:World) (p0:Bool) (r:ByteArray) (h:F_raddleref26_side p0=some r) (S:St0 E [] w0 w0 [] []) :
 Calls Try.prog 109 #[.bool p0] w0 (Ret (X:=Unit) E [] w0 (fun _=>.string r) (fun _=>[]) (fun _=>[])):=by
 unfold F_raddleref26_side at h
 refine sEnter (args:=[.bool p0]) 4 Try.func109 d d (by simp) S (fun a S=>?_)
 refine sSeq (fun K1 a5=>sRegion (sN S fun a S=>?_))
 refine lT (a5 _ _ (sSeq (fun K2 a6=>sSeq (fun K3 a7=>sRegion (sM S fun a S=>?_)))))
 refine lT (a7 _ _ ?_)
 rcases iS h with ⟨a0,h⟩ | ⟨a0,h⟩
 ·refine sCondT S d a0 (sSeq (fun K5 a8=>sRegion (sN S fun a S=>?_)))
  refine lT (a8 _ _ ?_)
  obtain rfl:=tS h
  exact wp_ret (rThen (sRet (.string (⟨#[98,97,99,107]⟩:ByteArray)) S (rsl1 d (rvT (t:=2) (v:=.string (⟨#[98,97,99,107]⟩:ByteArray)) S d)) ⟨(),d,S.mem.sel [] [] (by decide) d d⟩))
 refine sCondF S d a0 (wp_skip (leafT (a6 _ _ ?_)))
 refine sSeq (fun K6 a9=>sRegion (sN S fun a S=>?_))
 refine lT (a9 _ _ ?_)
 obtain rfl:=tS h
 exact wp_ret (sRet (.string (⟨#[102,114,111,110,116]⟩:ByteArray)) S (rsl1 d (rvT (t:=2) (v:=.string (⟨#[102,114,111,110,116]⟩:ByteArray)) S d)) ⟨(),d,S.mem.sel [] [] (by decide) d d⟩)
noncomputable def F_grid_Check (p0:api_Grid):Option Int:=
 if decide (64 < (if p0.W < p0.H then p0.H else p0.W)) then
  some 4
 else
  Option.bind (α:=Bool) (
   if decide ((if p0.H < p0.W then p0.H else p0.W) < 1) then
    some true
   else
    some ((p0.Bits.length:Int) != (w64 (p0.W * p0.H)))) fun a0=>
  if a0 then
   some 8
  else
   some 0
theorem c_grid_Check (E:Nat→Prop) (w0:World) (p0:api_Grid) (v0:Value) (r:Int) (h:F_grid_Check p0=some r) (S:St0 E [] w0 w0 [] [fRep r_api_Grid (v0) p0]) :
 Calls Try.prog 45 #[v0] w0 (Ret (X:=Unit) E [] w0 (fun _=>.int .i64 r) (fun _=>[]) (fun _=>[])):=by
 unfold F_grid_Check at h
 obtain ⟨u1,rfl,ae⟩:=S.know (i:=0) (e:=fRep r_api_Grid (v0) p0) d
 have S:=S.learn (fRep (rL rB) u1 p0.Bits) ae
 obtain ⟨a6,a7,_,rfl,_⟩:=ae
 refine sEnter (args:=[.agg #[iv p0.W,iv p0.H,.slice a6 p0.Bits.length a7]]) 28 Try.func45 d d (by simp) S (fun a S=>?_)
 refine sSeq (fun K5 af=>sRegion (sBox (v:=.agg #[iv p0.W,iv p0.H,.slice a6 p0.Bits.length a7]) S (wN d) d d [iv p0.W,iv p0.H,.slice a6 p0.Bits.length a7] d d (lb d) fun a b6 w S=>sN S fun a S=>?_))
 refine lT (af _ _ (sSeq (fun K7 ag=>wp_block ?_)))
 refine sSeq (fun K8 ah=>sRegion (sField (b:=b6) (off:=0) 0 0 S (wN d) d d d d d (lb d) fun a S=>sLoad1 0 (iv p0.W) S (wN d) d d d d d d (lb d) fun a S=>sField (b:=b6) (off:=0) 1 1 S (wN d) d d d d d (lb d) fun a S=>sLoad1 0 (iv p0.H) S (wN d) d d d d d d (lb d) fun a S=>sMax2 (p:=p0.W) (q:=p0.H) S (wN d) d d d d (lb d) fun a S=>sBin _ S (wN d) d d d (bGt _ _ _ _ .i64 (if p0.W < p0.H then p0.H else p0.W) 64) d (lb d) fun a S=>sN S fun a S=>?_))
 refine lT (ah _ _ ?_)
 rcases iS h with ⟨a8,h⟩ | ⟨a8,h⟩
 ·refine sCondT S d a8 (sSeq (fun ak a9=>sRegion (sN S fun a S=>?_)))
  refine lT (a9 _ _ ?_)
  obtain rfl:=tS h
  exact wp_ret (rBlock (rThen (sRet (iv 4) S (rsl1 d (rvT (t:=2) (v:=iv 4) S d)) ⟨(),d,S.mem.sel [] [] (by decide) d d⟩)))
 refine sCondF S d a8 ?_
 obtain ⟨ai,h,aj⟩:=bS h
 refine sCut (fun a w=>∃ aa,aa=ai∧St [] E [] w0 28 a w [(10,.bool aa)] [] []) ?_ (fun a w hI=>?_)
 rotate_left
 ·obtain ⟨aa,rfl,S⟩:=hI
  have h:=aj
  try dsimp only at h
  rcases iS h with ⟨a5,h⟩ | ⟨a5,h⟩
  ·refine sCondT S d a5 (sSeq (fun al ab=>sRegion (sN S fun a S=>?_)))
   refine lT (ab _ _ ?_)
   obtain rfl:=tS h
   exact wp_ret (rBlock (rThen (sRet (iv 8) S (rsl1 d (rvT (t:=2) (v:=iv 8) S d)) ⟨(),d,S.mem.sel [] [] (by decide) d d⟩)))
  refine sCondF S d a5 (wp_skip (leafB (leafT (ag _ _ ?_))))
  refine sSeq (fun am ac=>sRegion (sN S fun a S=>?_))
  refine lT (ac _ _ ?_)
  obtain rfl:=tS h
  exact wp_ret (sRet (iv 0) S (rsl1 d (rvT (t:=2) (v:=iv 0) S d)) ⟨(),d,S.mem.sel [] [] (by decide) d d⟩)
 refine sRegion (sField (b:=b6) (off:=0) 0 0 S (wN d) d d d d d (lb d) fun a S=>sLoad1 0 (iv p0.W) S (wN d) d d d d d d (lb d) fun a S=>sField (b:=b6) (off:=0) 1 1 S (wN d) d d d d d (lb d) fun a S=>sLoad1 0 (iv p0.H) S (wN d) d d d d d d (lb d) fun a S=>sMin2 (p:=p0.W) (q:=p0.H) S (wN d) d d d d (lb d) fun a S=>sBin _ S (wN d) d d d (bLt _ _ _ _ .i64 (if p0.H < p0.W then p0.H else p0.W) 1) d (lb d) fun a S=>sM S fun a S=>?_)
 rcases iS h with ⟨a0,h⟩ | ⟨a0,h⟩
 ·refine sSkN 9 6 false 17 S d d a0 d fun a S=>sPickT (.bool true) S (wN d) d d a0 d d (lb d) fun a S=>sN S fun a S=>?_
  exact lT (⟨true,Option.some.inj h,S.fix [] [] (by decide) d d d⟩)
 refine sField (b:=b6) (off:=0) 2 2 S (wG 6 false 17 d d d a0) d d d d d (lb d) fun a S=>sLoad1 0 (.slice a6 p0.Bits.length a7) S (wG 6 false 17 d d d a0) d d d d d d (lb d) fun a S=>sLen S (wG 6 false 17 d d d a0) d Try.underlying22 d d (lb d) fun a S=>sField (b:=b6) (off:=0) 0 0 S (wG 6 false 17 d d d a0) d d d d d (lb d) fun a S=>sLoad1 0 (iv p0.W) S (wG 6 false 17 d d d a0) d d d d d d (lb d) fun a S=>sField (b:=b6) (off:=0) 1 1 S (wG 6 false 17 d d d a0) d d d d d (lb d) fun a S=>sLoad1 0 (iv p0.H) S (wG 6 false 17 d d d a0) d d d d d d (lb d) fun a S=>sBin _ S (wG 6 false 17 d d d a0) d d d (bMul _ _ _ _ p0.W p0.H) d (lb d) fun a S=>sBin _ S (wG 6 false 17 d d d a0) d d d (bNe _ _ _ _ .i64 (p0.Bits.length:Int) (w64 (p0.W * p0.H))) d (lb d) fun a S=>sPickF (.bool ((p0.Bits.length:Int) != (w64 (p0.W * p0.H)))) S (wN d) d d a0 d d (lb d) fun a S=>sN S fun a S=>?_
 exact lT (⟨(p0.Bits.length:Int) != (w64 (p0.W * p0.H)),Option.some.inj h,S.fix [] [] (by decide) d d d⟩)
noncomputable def compare_differ_l1 (p0:(List Bool)) (p1:(List Bool)):(Int × Int)→Option ((Int × Int) ⊕ Int):=fun s0=>match s0 with
 | (a5,a0)=>
  if decide (a0 < (p0.length:Int)) then
   Option.bind (α:=Int) (
    (idxO p0 a0).bind fun a6=>
    (idxO p1 a0).bind fun a7=>
    if a6 != a7 then
     some (w64 (a5 + 1))
    else
     some a5) fun a8=>
   some (.inl (a8,w64 (a0 + 1)))
  else
   some (.inr a5)
noncomputable def F_compare_differ (p0:(List Bool)) (p1:(List Bool)):Option Int:=
 Option.bind (α:=Int) (
  (whileO (compare_differ_l1 p0 p1) (0,0)).bind fun a0=>
   some a0) fun o7=>
 some o7
theorem c_compare_differ (E:Nat→Prop) (w0:World) (p0:(List Bool)) (v0:Value) (p1:(List Bool)) (v1:Value) (r:Int) (h:F_compare_differ p0 p1=some r) (S:St0 E [] w0 w0 [] [fRep (rL rB) (v0) p0,fRep (rL rB) (v1) p1]) :
 Calls Try.prog 46 #[v0,v1] w0 (Ret (X:=Unit) E [] w0 (fun _=>.int .i64 r) (fun _=>[]) (fun _=>[])):=by
 unfold F_compare_differ at h
 obtain ⟨a7,a8,_,rfl,_⟩:=S.know (i:=0) (e:=fRep (rL rB) (v0) p0) d
 obtain ⟨a9,aa,_,rfl,_⟩:=S.know (i:=1) (e:=fRep (rL rB) (v1) p1) d
 refine sEnter (args:=[.slice a7 p0.length a8,.slice a9 p1.length aa]) 25 Try.func46 d d (by simp) S (fun a S=>?_)
 refine sSeq (fun K5 ay=>sRegion (sN S fun a S=>?_))
 refine lT (ay _ _ (sSeq (fun K6 az=>sRegion (sN S fun a S=>?_))))
 refine lT (az _ _ ?_)
 obtain ⟨t8,h,g9⟩:=bS h
 refine sCut (fun a w=>∃ o7,o7=t8∧St [] E [] w0 25 a w [(5,iv o7)] [] []) ?_ (fun a w hI=>?_)
 rotate_left
 ·obtain ⟨o7,rfl,S⟩:=hI
  have h:=g9
  try dsimp only at h
  refine sSeq (fun aH ag=>sRegion (sM S fun a S=>?_))
  refine sN S fun a S=>?_
  refine lT (ag _ _ ?_)
  obtain rfl:=tS h
  exact wp_ret (sRet (iv o7) S (rsl1 d (rvT (t:=4) (v:=iv o7) S d)) ⟨(),d,S.mem.sel [] [] (by decide) d d⟩)
 refine sSeq (fun aI ah=>sRegion (sM S fun a S=>?_))
 refine sLen S (wN d) d Try.underlying22 d d (lb d) fun a S=>sM S fun a S=>?_
 refine lT (ah _ _ (wp_block ?_))
 obtain ⟨aJ,hl,aA⟩:=bS h
 refine sLoop hl (fun s0 a w=>match s0 with | (ab,a0)=>St [] E [] w0 25 a w [(1,.slice a9 p1.length aa),(5,iv ab),(8,.slice a7 p0.length a8),(9,iv (p0.length:Int)),(10,iv a0)] [] [fRep (rL rB) (.slice a9 p1.length aa) p1,fRep (rL rB) (.slice a7 p0.length a8) p0]) (S.fix [] [1,0] (by decide) d d d) ?_
 clear hl h
 intro s0 a w c0 hI h ai
 obtain ⟨ab,a0⟩:=s0
 unfold compare_differ_l1 at h
 dsimp only at h hI
 have S:=hI
 refine sSeq (fun aK aj=>sRegion (sBin _ S (wN d) d d d (bLt _ _ _ _ .i64 a0 (p0.length:Int)) d (lb d) fun a S=>lT (aj _ _ (sSeq (fun aL ak=>?_)))))
 rcases iS h with ⟨a5,h⟩ | ⟨a5,h⟩
 rotate_left
 ·refine sCondF S d a5 ?_
  obtain rfl:=tS h
  obtain rfl:=ai _ d
  have h:=aA
  try dsimp only at h
  exact wp_exit (xThen (xThen (xHit (leafT (⟨ab,Option.some.inj h,S.fix [] [] (by decide) d d d⟩)))))
 refine sCondT S d a5 (wp_skip (leafT (ak _ _ ?_)))
 obtain ⟨aC,h,aG⟩:=bS h
 refine sCut (fun a w=>∃ af,af=aC∧St [] E [] w0 25 a w [(1,.slice a9 p1.length aa),(5,iv af),(8,.slice a7 p0.length a8),(9,iv (p0.length:Int)),(10,iv a0)] [] [fRep (rL rB) (.slice a9 p1.length aa) p1,fRep (rL rB) (.slice a7 p0.length a8) p0]) ?_ (fun a w hI=>?_)
 rotate_left
 ·obtain ⟨af,rfl,S⟩:=hI
  have h:=aG
  try dsimp only at h
  refine sRegion (sBin _ S (wN d) d d d (bAdd _ _ _ _ a0 1) d (lb d) fun a S=>sM S fun a S=>?_)
  exact lT (⟨(af,w64 (a0 + 1)),(Option.some.inj h).symm,(S.fix [] [0,1] (by decide) d d d)⟩)
 refine wp_block ?_
 refine sSeq (fun aM al=>sRegion (sM S fun a S=>?_))
 obtain ⟨ac,am,h⟩:=bS h
 obtain ⟨au,ao,S⟩:=pIdx (P:=Try.prog) (r:=rB) (v:=.slice a7 p0.length a8) (xs:=p0) (j:=a0) 22 4 1 S Try.underlying22 d d am
 refine sIdxV S (wN d) d d d ao d (lb d) fun a S=>?_
 obtain ⟨av,S⟩:=pLoad (r:=rB) (q:=au) (x:=ac) 0 S d
 obtain rfl:av=.bool ac:=S.mem.know (i:=1) (e:=fRep rB (av) ac) d
 refine sLoadV1 (vq:=au) 0 (.bool ac) S (wN d) d d d d d (lb d) fun a S=>sN S fun a S=>?_
 refine sN S fun a S=>?_
 refine lT (al _ _ (sSeq (fun aO ap=>sRegion (sM S fun a S=>?_))))
 refine sM S fun a S=>?_
 refine sM S fun a S=>?_
 obtain ⟨ae,aq,h⟩:=bS h
 obtain ⟨aw,ar,S⟩:=pIdx (P:=Try.prog) (r:=rB) (v:=.slice a9 p1.length aa) (xs:=p1) (j:=a0) 22 4 3 S Try.underlying22 d d aq
 refine sIdxV S (wN d) d d d ar d (lb d) fun a S=>?_
 obtain ⟨ax,S⟩:=pLoad (r:=rB) (q:=aw) (x:=ae) 0 S d
 obtain rfl:ax=.bool ae:=S.mem.know (i:=1) (e:=fRep rB (ax) ae) d
 refine sLoadV1 (vq:=aw) 0 (.bool ae) S (wN d) d d d d d (lb d) fun a S=>sBin _ S (wN d) d d d (bNeB _ _ _ _ Try.underlying4 ac ae) d (lb d) fun a S=>lT (ap _ _ ?_)
 rcases iS h with ⟨a6,h⟩ | ⟨a6,h⟩
 rotate_left
 ·refine sCondF S d a6 ?_
  exact wp_skip (leafB (leafT (⟨ab,Option.some.inj h,S.fix [] [6,7] (by decide) d d d⟩)))
 refine sCondT S d a6 (sRegion (sM S fun a S=>?_))
 refine sBin _ S (wN d) d d d (bAdd _ _ _ _ ab 1) d (lb d) fun a S=>sN S fun a S=>?_
 exact leafL (leafB (leafT (⟨w64 (ab + 1),Option.some.inj h,S.fix [] [6,7] (by decide) d d d⟩)))
noncomputable def F_compare_Cells (p0:api_Grid) (p1:api_Grid):Option (Int × Int):=
 (F_grid_Check p0).bind fun a0=>
 if a0 != 0 then
  some (0,a0)
 else
  (F_grid_Check p1).bind fun a5=>
  if a5 != 0 then
   some (0,a5)
  else
   Option.bind (α:=Bool) (
    if p0.W != p1.W then
     some true
    else
     some (p0.H != p1.H)) fun a6=>
   if a6 then
    some (0,2)
   else
    (F_compare_differ p0.Bits p1.Bits).bind fun a7=>
    some (a7,0)
theorem c_compare_Cells (E:Nat→Prop) (w0:World) (p0:api_Grid) (v0:Value) (p1:api_Grid) (v1:Value) (r:(Int × Int)) (h:F_compare_Cells p0 p1=some r) (S:St0 E [] w0 w0 [] [fRep r_api_Grid (v0) p0,fRep r_api_Grid (v1) p1]) :
 Calls Try.prog 14 #[v0,v1] w0 (Ret (X:=Unit) E [] w0 (fun _=>.tuple #[.int .i64 r.1,.int .i64 r.2]) (fun _=>[]) (fun _=>[])):=by
 unfold F_compare_Cells at h
 obtain ⟨u1,rfl,aA⟩:=S.know (i:=0) (e:=fRep r_api_Grid (v0) p0) d
 have S:=S.learn (fRep (rL rB) u1 p0.Bits) aA
 obtain ⟨a5,a6,_,rfl,_⟩:=aA
 obtain ⟨u5,rfl,aC⟩:=S.know (i:=2) (e:=fRep r_api_Grid (v1) p1) d
 have S:=S.learn (fRep (rL rB) u5 p1.Bits) aC
 obtain ⟨a7,a8,_,rfl,_⟩:=aC
 refine sEnter (args:=[.agg #[iv p0.W,iv p0.H,.slice a5 p0.Bits.length a6],.agg #[iv p1.W,iv p1.H,.slice a7 p1.Bits.length a8]]) 35 Try.func14 d d (by simp) S (fun a S=>?_)
 refine sSeq (fun K9 aG=>sRegion (sBox (v:=.agg #[iv p0.W,iv p0.H,.slice a5 p0.Bits.length a6]) S (wN d) d d [iv p0.W,iv p0.H,.slice a5 p0.Bits.length a6] d d (lb d) fun a ac w S=>sBox (v:=.agg #[iv p1.W,iv p1.H,.slice a7 p1.Bits.length a8]) S (wN d) d d [iv p1.W,iv p1.H,.slice a7 p1.Bits.length a8] d d (lb d) fun a ae w S=>sN S fun a S=>?_))
 refine sN S fun a S=>?_
 refine lT (aG _ _ (sSeq (fun aJ ai=>sSeq (fun aK aj=>sRegion (sLoadN (p:=ac) (off:=0) (T:=24) (vs:=[iv p0.W,iv p0.H,.slice a5 p0.Bits.length a6]) 1 [iv p0.W,iv p0.H,.slice a5 p0.Bits.length a6] S (wN d) d d d d d d d (lb d) fun a S=>?_)))))
 obtain ⟨af,ak,h⟩:=bS h
 have S1:=S.mem
 refine sCq [.agg #[iv p0.W,iv p0.H,.slice a5 p0.Bits.length a6]] (iv af) S callee45 (S1.quiet [2] d) (fun E1 w1 S1=>c_grid_Check E1 w1 p0 (.agg #[iv p0.W,iv p0.H,.slice a5 p0.Bits.length a6]) af ak S1) fun a w S=>?_
 refine sN S fun a S=>?_
 refine lT (aj _ _ (sSeq (fun aL al=>sRegion (sM S fun a S=>?_))))
 refine sBin _ S (wN d) d d d (bNe _ _ _ _ .i64 af 0) d (lb d) fun a S=>lT (al _ _ ?_)
 rcases iS h with ⟨a9,h⟩ | ⟨a9,h⟩
 ·refine sCondT S d a9 (sSeq (fun aM am=>sRegion (sM S fun a S=>?_)))
  refine sN S fun a S=>?_
  refine sN S fun a S=>?_
  refine lT (am _ _ ?_)
  obtain rfl:=tS h
  exact wp_ret (rThen (sRet (.tuple #[iv 0,iv af]) S (rsl2 d (rvT (t:=4) (v:=iv 0) S d) (rvT (t:=5) (v:=iv af) S d)) ⟨(),d,S.mem.sel [] [] (by decide) d d⟩))
 refine sCondF S d a9 (wp_skip (leafT (ai _ _ ?_)))
 refine sSeq (fun aO ao=>sSeq (fun aP ap=>sRegion (sLoadN (p:=ae) (off:=0) (T:=24) (vs:=[iv p1.W,iv p1.H,.slice a7 p1.Bits.length a8]) 0 [iv p1.W,iv p1.H,.slice a7 p1.Bits.length a8] S (wN d) d d d d d d d (lb d) fun a S=>?_)))
 obtain ⟨ag,aq,h⟩:=bS h
 have S1:=S.mem
 refine sCq [.agg #[iv p1.W,iv p1.H,.slice a7 p1.Bits.length a8]] (iv ag) S callee45 (S1.quiet [3] d) (fun E1 w1 S1=>c_grid_Check E1 w1 p1 (.agg #[iv p1.W,iv p1.H,.slice a7 p1.Bits.length a8]) ag aq S1) fun a w S=>?_
 refine sN S fun a S=>?_
 refine lT (ap _ _ (sSeq (fun aQ ar=>sRegion (sM S fun a S=>?_))))
 refine sBin _ S (wN d) d d d (bNe _ _ _ _ .i64 ag 0) d (lb d) fun a S=>lT (ar _ _ ?_)
 rcases iS h with ⟨aa,h⟩ | ⟨aa,h⟩
 ·refine sCondT S d aa (sSeq (fun aR au=>sRegion (sM S fun a S=>?_)))
  refine sN S fun a S=>?_
  refine sN S fun a S=>?_
  refine lT (au _ _ ?_)
  obtain rfl:=tS h
  exact wp_ret (rThen (sRet (.tuple #[iv 0,iv ag]) S (rsl2 d (rvT (t:=4) (v:=iv 0) S d) (rvT (t:=5) (v:=iv ag) S d)) ⟨(),d,S.mem.sel [] [] (by decide) d d⟩))
 refine sCondF S d aa (wp_skip (leafT (ao _ _ ?_)))
 refine sSeq (fun aS av=>?_)
 obtain ⟨aH,h,aI⟩:=bS h
 refine sCut (fun a w=>∃ aw,aw=aH∧St [] E [] w0 35 a w [(2,.pointer (some ⟨ac,0,none⟩)),(3,.pointer (some ⟨ae,0,none⟩)),(29,.bool aw)] [eBox ac 24 [iv p0.W,iv p0.H,.slice a5 p0.Bits.length a6],eBox ae 24 [iv p1.W,iv p1.H,.slice a7 p1.Bits.length a8]] [fRep (rL rB) (.slice a5 p0.Bits.length a6) p0.Bits,fRep (rL rB) (.slice a7 p1.Bits.length a8) p1.Bits]) ?_ (fun a w hI=>?_)
 rotate_left
 ·obtain ⟨aw,rfl,S⟩:=hI
  have h:=aI
  try dsimp only at h
  rcases iS h with ⟨ab,h⟩ | ⟨ab,h⟩
  ·refine sCondT S d ab (sSeq (fun aT ax=>sRegion (sN S fun a S=>?_)))
   refine sN S fun a S=>?_
   refine lT (ax _ _ ?_)
   obtain rfl:=tS h
   exact wp_ret (rThen (sRet (.tuple #[iv 0,iv 2]) S (rsl2 d (rvT (t:=4) (v:=iv 0) S d) (rvT (t:=5) (v:=iv 2) S d)) ⟨(),d,S.mem.sel [] [] (by decide) d d⟩))
  refine sCondF S d ab (wp_skip (leafT (av _ _ ?_)))
  refine sSeq (fun aU ay=>sRegion (sField (b:=ac) (off:=0) 2 2 S (wN d) d d d d d (lb d) fun a S=>sLoad1 0 (.slice a5 p0.Bits.length a6) S (wN d) d d d d d d (lb d) fun a S=>sField (b:=ae) (off:=0) 2 2 S (wN d) d d d d d (lb d) fun a S=>sLoad1 1 (.slice a7 p1.Bits.length a8) S (wN d) d d d d d d (lb d) fun a S=>?_))
  obtain ⟨ah,az,h⟩:=bS h
  have S1:=S.mem
  refine sCq [.slice a5 p0.Bits.length a6,.slice a7 p1.Bits.length a8] (iv ah) S callee46 (S1.quiet [0,1] d) (fun E1 w1 S1=>c_compare_differ E1 w1 p0.Bits (.slice a5 p0.Bits.length a6) p1.Bits (.slice a7 p1.Bits.length a8) ah az S1) fun a w S=>?_
  refine sN S fun a S=>?_
  refine sN S fun a S=>?_
  refine lT (ay _ _ ?_)
  obtain rfl:=tS h
  exact wp_ret (sRet (.tuple #[iv ah,iv 0]) S (rsl2 d (rvT (t:=4) (v:=iv ah) S d) (rvT (t:=5) (v:=iv 0) S d)) ⟨(),d,S.mem.sel [] [] (by decide) d d⟩)
 refine sRegion (sField (b:=ac) (off:=0) 0 0 S (wN d) d d d d d (lb d) fun a S=>sLoad1 1 (iv p0.W) S (wN d) d d d d d d (lb d) fun a S=>sField (b:=ae) (off:=0) 0 0 S (wN d) d d d d d (lb d) fun a S=>sLoad1 0 (iv p1.W) S (wN d) d d d d d d (lb d) fun a S=>sBin _ S (wN d) d d d (bNe _ _ _ _ .i64 p0.W p1.W) d (lb d) fun a S=>sM S fun a S=>?_)
 rcases iS h with ⟨a0,h⟩ | ⟨a0,h⟩
 ·refine sSkN 5 5 false 23 S d d a0 d fun a S=>sPickT (.bool true) S (wN d) d d a0 d d (lb d) fun a S=>?_
  exact lT (⟨true,Option.some.inj h,S.fix [1,0] [1,0] (by decide) d d d⟩)
 refine sField (b:=ac) (off:=0) 1 1 S (wG 5 false 23 d d d a0) d d d d d (lb d) fun a S=>sLoad1 1 (iv p0.H) S (wG 5 false 23 d d d a0) d d d d d d (lb d) fun a S=>sField (b:=ae) (off:=0) 1 1 S (wG 5 false 23 d d d a0) d d d d d (lb d) fun a S=>sLoad1 0 (iv p1.H) S (wG 5 false 23 d d d a0) d d d d d d (lb d) fun a S=>sBin _ S (wG 5 false 23 d d d a0) d d d (bNe _ _ _ _ .i64 p0.H p1.H) d (lb d) fun a S=>sPickF (.bool (p0.H != p1.H)) S (wN d) d d a0 d d (lb d) fun a S=>?_
 exact lT (⟨p0.H != p1.H,Option.some.inj h,S.fix [1,0] [1,0] (by decide) d d d⟩)
noncomputable def F_compare_ways (p0:api_Grid) (p1:Int):Option (Int × api_Grid):=
 some (p1,p0)
def c_compare_ways_val (r:(Int × api_Grid)) (x:Value × Value):Value:=.func (.func 81) #[] #[x.1,x.2]
def c_compare_ways_D (r:(Int × api_Grid)) (x:Value × Value):List Fact:=[fPtr (rI .i64) x.1 r.1,fPtr r_api_Grid x.2 r.2]
theorem c_compare_ways (E:Nat→Prop) (w0:World) (p0:api_Grid) (v0:Value) (p1:Int) (r:(Int × api_Grid)) (h:F_compare_ways p0 p1=some r) (S:St0 E [] w0 w0 [] [fRep r_api_Grid (v0) p0]) :
 Calls Try.prog 49 #[v0,iv p1] w0 (Ret (X:=Value × Value) E [] w0 (c_compare_ways_val r) (fun _=>[]) (c_compare_ways_D r)):=by
 unfold F_compare_ways at h
 obtain ⟨u1,rfl,a6⟩:=S.know (i:=0) (e:=fRep r_api_Grid (v0) p0) d
 have S:=S.learn (fRep (rL rB) u1 p0.Bits) a6
 obtain ⟨a0,a5,_,rfl,_⟩:=a6
 refine sEnter (args:=[.agg #[iv p0.W,iv p0.H,.slice a0 p0.Bits.length a5],iv p1]) 6 Try.func49 d d (by simp) S (fun a S=>?_)
 refine sSeq (fun K5 a7=>sRegion (sBox (v:=.agg #[iv p0.W,iv p0.H,.slice a0 p0.Bits.length a5]) S (wN d) d d [iv p0.W,iv p0.H,.slice a0 p0.Bits.length a5] d d (lb d) fun a b6 w S=>sBox (v:=iv p1) S (wN d) d d [iv p1] d d (lb d) fun a b7 w S=>sN S fun a S=>?_))
 refine lT (a7 _ _ (sSeq (fun K8 a8=>sRegion (sFunc (g:=81) (vs:=[.pointer (some ⟨b7,0,none⟩),.pointer (some ⟨b6,0,none⟩)]) S (wN d) d d d (lb d) fun a S=>?_))))
 refine sN S fun a S=>?_
 refine lT (a8 _ _ ?_)
 have S:=S.shutB (r:=(rI .i64)) (T:=3) (b:=b7) (cs:=[iv p1]) 0 (iv p1) p1 d d (d)
 have S:=S.shutB (r:=r_api_Grid) (T:=24) (b:=b6) (cs:=[iv p0.W,iv p0.H,.slice a0 p0.Bits.length a5]) 0 (.agg #[iv p0.W,iv p0.H,.slice a0 p0.Bits.length a5]) p0 d d (S.mem.know (i:=2) (e:=fRep r_api_Grid (.agg #[iv p0.W,iv p0.H,.slice a0 p0.Bits.length a5]) p0) d)
 obtain rfl:=tS h
 exact wp_ret (sRet (.func (.func 81) #[] #[.pointer (some ⟨b7,0,none⟩),.pointer (some ⟨b6,0,none⟩)]) S (rsl1 d (rvT (t:=4) (v:=.func (.func 81) #[] #[.pointer (some ⟨b7,0,none⟩),.pointer (some ⟨b6,0,none⟩)]) S d)) ⟨((.pointer (some ⟨b7,0,none⟩)),(.pointer (some ⟨b6,0,none⟩))),d,S.mem.sel [] [1,0] (by decide) d d⟩)
noncomputable def symmetry_check_l1 (p0:(List api_Grid)):Int→Option (Int ⊕ (Int ⊕ Unit)):=fun s0=>match s0 with
 | s7=>
  if decide (s7 < (p0.length:Int)) then
   (idxO p0 s7).bind fun a5=>
   (F_grid_Check a5).bind fun a0=>
   if a0 != 0 then
    some (.inr (.inl a0))
   else
    some (.inl (w64 (s7 + 1)))
  else
   some (.inr (.inr ()))
noncomputable def symmetry_check_l2 (p0:(List api_Grid)):Int→Option (Int ⊕ (Int ⊕ Unit)):=fun s0=>match s0 with
 | a5=>
  if decide (a5 < (p0.length:Int)) then
   (idxO p0 a5).bind fun a0=>
   if decide (16 < (if a0.W < a0.H then a0.H else a0.W)) then
    some (.inr (.inl 4))
   else
    some (.inl (w64 (a5 + 1)))
  else
   some (.inr (.inr ()))
noncomputable def F_symmetry_check (p0:(List api_Grid)):Option Int:=
 Option.bind (α:=Unit ⊕ Int) (
  (whileO (symmetry_check_l1 p0) 0).bind fun z0=>match z0 with
   | .inl z=>
    some (.inr z)
   | .inr _=>
    some (.inl ())) fun z0=>match z0 with
  | .inl _=>
   Option.bind (α:=Unit ⊕ Int) (
    (whileO (symmetry_check_l2 p0) 0).bind fun z0=>match z0 with
     | .inl z=>
      some (.inr z)
     | .inr _=>
      some (.inl ())) fun z0=>match z0 with
    | .inl _=>
     some 0
    | .inr z=>
     some z
  | .inr z=>
   some z
theorem c_symmetry_check (E:Nat→Prop) (w0:World) (p0:(List api_Grid)) (v0:Value) (r:Int) (h:F_symmetry_check p0=some r) (S:St0 E [] w0 w0 [] [fRep (rL r_api_Grid) (v0) p0]) :
 Calls Try.prog 60 #[v0] w0 (Ret (X:=Unit) E [] w0 (fun _=>.int .i64 r) (fun _=>[]) (fun _=>[])):=by
 unfold F_symmetry_check at h
 obtain ⟨a8,a9,_,rfl,_⟩:=S.know (i:=0) (e:=fRep (rL r_api_Grid) (v0) p0) d
 refine sEnter (args:=[.slice a8 p0.length a9]) 33 Try.func60 d d (by simp) S (fun a S=>?_)
 refine sSeq (fun K3 aV=>sRegion (sN S fun a S=>?_))
 refine lT (aV _ _ ?_)
 obtain ⟨t4,h,g5⟩:=bS h
 refine sCut (fun a w=>.inl ()=t4∧St [] E [] w0 33 a w [(0,.slice a8 p0.length a9)] [] [fRep (rL r_api_Grid) (.slice a8 p0.length a9) p0]) ?_ (fun a w hI=>?_)
 ·refine sSeq (fun K6 aW=>sRegion (sM S fun a S=>?_))
  refine sLen S (wN d) d Try.underlying141 d d (lb d) fun a S=>sM S fun a S=>?_
  refine lT (aW _ _ (wp_block ?_))
  obtain ⟨bf,hl,g9⟩:=bS h
  refine sLoop hl (fun s0 a w=>match s0 with | s7=>St [] E [] w0 33 a w [(0,.slice a8 p0.length a9),(8,.slice a8 p0.length a9),(9,iv (p0.length:Int)),(10,iv s7)] [] [fRep (rL r_api_Grid) (.slice a8 p0.length a9) p0]) (S.fix [] [0] (by decide) d d d) ?_
  clear hl h
  intro s7 a w c0 hI h aP
  unfold symmetry_check_l1 at h
  dsimp only at h hI
  have S:=hI
  refine sSeq (fun bg am=>sRegion (sBin _ S (wN d) d d d (bLt _ _ _ _ .i64 s7 (p0.length:Int)) d (lb d) fun a S=>lT (am _ _ (sSeq (fun bh ao=>?_)))))
  rcases iS h with ⟨aa,h⟩ | ⟨aa,h⟩
  rotate_left
  ·refine sCondF S d aa ?_
   obtain rfl:=tS h
   obtain rfl:=aP _ d
   have h:=g9
   try dsimp only at h
   exact wp_exit (xThen (xThen (xHit (leafT (⟨Option.some.inj h,S.fix [] [0] (by decide) d d d⟩)))))
  refine sCondT S d aa (wp_skip (leafT (ao _ _ ?_)))
  refine sSeq (fun bi ap=>wp_block ?_)
  refine sSeq (fun bj aq=>sRegion ?_)
  obtain ⟨a0,ar,h⟩:=bS h
  obtain ⟨aQ,au,S⟩:=pIdx (P:=Try.prog) (r:=r_api_Grid) (v:=.slice a8 p0.length a9) (xs:=p0) (j:=s7) 141 24 0 S Try.underlying141 d d ar
  refine sIdxV S (wN d) d d d au d (lb d) fun a S=>?_
  obtain ⟨aX,S⟩:=pLoad (r:=r_api_Grid) (q:=aQ) (x:=a0) 0 S d
  obtain ⟨aZ,rfl,ai⟩:=S.mem.know (i:=1) (e:=fRep r_api_Grid (aX) a0) d
  have S:=S.learn (fRep (rL rB) aZ a0.Bits) ai
  obtain ⟨a6,a7,_,rfl,_⟩:=ai
  refine sLoadVN (vq:=aQ) 1 [iv a0.W,iv a0.H,.slice a6 a0.Bits.length a7] S (wN d) d d d d d d (lb d) fun a S=>sAlloc (.agg #[iv 0,iv 0,.slice none 0 0]) S (wN d) d d [iv 0,iv 0,.slice none 0 0] d d (lb d) fun a aR w S=>sStore (p:=aR) (off:=0) (T:=24) (vs:=[iv 0,iv 0,.slice none 0 0]) (v:=.agg #[iv a0.W,iv a0.H,.slice a6 a0.Bits.length a7]) 0 [iv a0.W,iv a0.H,.slice a6 a0.Bits.length a7] S (wN d) d d d d d d d (by simp) d fun a w S=>lT (aq _ _ (sSeq (fun bk av=>sRegion (sLoadN (p:=aR) (off:=0) (T:=24) (vs:=[iv a0.W,iv a0.H,.slice a6 a0.Bits.length a7]) 0 [iv a0.W,iv a0.H,.slice a6 a0.Bits.length a7] S (wN d) d d d d d d d (lb d) fun a S=>?_))))
  obtain ⟨aj,aw,h⟩:=bS h
  have S1:=S.mem
  refine sCq [.agg #[iv a0.W,iv a0.H,.slice a6 a0.Bits.length a7]] (iv aj) S callee45 (S1.quiet [2] d) (fun E1 w1 S1=>c_grid_Check E1 w1 a0 (.agg #[iv a0.W,iv a0.H,.slice a6 a0.Bits.length a7]) aj aw S1) fun a w S=>?_
  refine sN S fun a S=>?_
  refine lT (av _ _ (sSeq (fun bl ax=>sRegion (sM S fun a S=>?_))))
  refine sBin _ S (wN d) d d d (bNe _ _ _ _ .i64 aj 0) d (lb d) fun a S=>lT (ax _ _ ?_)
  rcases iS h with ⟨ab,h⟩ | ⟨ab,h⟩
  rotate_left
  ·refine sCondF S d ab (wp_skip (leafB (leafT (ap _ _ ?_))))
   refine sRegion (sBin _ S (wN d) d d d (bAdd _ _ _ _ s7 1) d (lb d) fun a S=>sM S fun a S=>?_)
   exact lT (⟨w64 (s7 + 1),(Option.some.inj h).symm,(S.fix [] [4] (by decide) d d d)⟩)
  refine sCondT S d ab (sSeq (fun bm ay=>sRegion (sM S fun a S=>?_)))
  refine sN S fun a S=>?_
  refine lT (ay _ _ ?_)
  obtain rfl:=tS h
  obtain rfl:=aP _ d
  have h:=g9
  try dsimp only at h
  obtain rfl:=tS h
  have h:=g5
  try dsimp only at h
  obtain rfl:=tS h
  exact wp_ret (rBlock (rThen (rThen (rBlock (rThen (sRet (iv aj) S (rsl1 d (rvT (t:=2) (v:=iv aj) S d)) ⟨(),d,S.mem.sel [] [] (by decide) d d⟩))))))
 obtain ⟨rfl,S⟩:=hI
 have h:=g5
 try dsimp only at h
 obtain ⟨ba,h,aS⟩:=bS h
 refine sCut (fun a w=>.inl ()=ba∧St [] E [] w0 33 a w [] [] []) ?_ (fun a w hI=>?_)
 rotate_left
 ·obtain ⟨rfl,S⟩:=hI
  have h:=aS
  try dsimp only at h
  refine sSeq (fun bo az=>sRegion (sN S fun a S=>?_))
  refine lT (az _ _ ?_)
  obtain rfl:=tS h
  exact wp_ret (sRet (iv 0) S (rsl1 d (rvT (t:=2) (v:=iv 0) S d)) ⟨(),d,S.mem.sel [] [] (by decide) d d⟩)
 refine sSeq (fun bp aA=>sRegion (sM S fun a S=>?_))
 refine sLen S (wN d) d Try.underlying141 d d (lb d) fun a S=>sM S fun a S=>?_
 refine lT (aA _ _ (wp_block ?_))
 obtain ⟨bq,hl,aT⟩:=bS h
 refine sLoop hl (fun s0 a w=>match s0 with | ah=>St [] E [] w0 33 a w [(20,.slice a8 p0.length a9),(21,iv (p0.length:Int)),(22,iv ah)] [] [fRep (rL r_api_Grid) (.slice a8 p0.length a9) p0]) (S.fix [] [0] (by decide) d d d) ?_
 clear hl h
 intro ah a w c0 hI h ak
 unfold symmetry_check_l2 at h
 dsimp only at h hI
 have S:=hI
 refine sSeq (fun br aC=>sRegion (sBin _ S (wN d) d d d (bLt _ _ _ _ .i64 ah (p0.length:Int)) d (lb d) fun a S=>lT (aC _ _ (sSeq (fun bu aG=>?_)))))
 rcases iS h with ⟨ac,h⟩ | ⟨ac,h⟩
 rotate_left
 ·refine sCondF S d ac ?_
  obtain rfl:=tS h
  obtain rfl:=ak _ d
  have h:=aT
  try dsimp only at h
  exact wp_exit (xThen (xThen (xHit (leafT (⟨Option.some.inj h,S.fix [] [] (by decide) d d d⟩)))))
 refine sCondT S d ac (wp_skip (leafT (aG _ _ ?_)))
 refine sSeq (fun bv aH=>wp_block ?_)
 refine sSeq (fun bw aI=>sRegion ?_)
 obtain ⟨a5,aJ,h⟩:=bS h
 obtain ⟨aU,aK,S⟩:=pIdx (P:=Try.prog) (r:=r_api_Grid) (v:=.slice a8 p0.length a9) (xs:=p0) (j:=ah) 141 24 0 S Try.underlying141 d d aJ
 refine sIdxV S (wN d) d d d aK d (lb d) fun a S=>?_
 obtain ⟨bb,S⟩:=pLoad (r:=r_api_Grid) (q:=aU) (x:=a5) 0 S d
 obtain ⟨bc,rfl,al⟩:=S.mem.know (i:=1) (e:=fRep r_api_Grid (bb) a5) d
 have S:=S.learn (fRep (rL rB) bc a5.Bits) al
 obtain ⟨ae,af,_,rfl,_⟩:=al
 refine sLoadVN (vq:=aU) 1 [iv a5.W,iv a5.H,.slice ae a5.Bits.length af] S (wN d) d d d d d d (lb d) fun a S=>sAlloc (.agg #[iv 0,iv 0,.slice none 0 0]) S (wN d) d d [iv 0,iv 0,.slice none 0 0] d d (lb d) fun a aL w S=>sStore (p:=aL) (off:=0) (T:=24) (vs:=[iv 0,iv 0,.slice none 0 0]) (v:=.agg #[iv a5.W,iv a5.H,.slice ae a5.Bits.length af]) 0 [iv a5.W,iv a5.H,.slice ae a5.Bits.length af] S (wN d) d d d d d d d (by simp) d fun a w S=>lT (aI _ _ (sSeq (fun bx aM=>sRegion (sField (b:=aL) (off:=0) 0 0 S (wN d) d d d d d (lb d) fun a S=>sLoad1 0 (iv a5.W) S (wN d) d d d d d d (lb d) fun a S=>sField (b:=aL) (off:=0) 1 1 S (wN d) d d d d d (lb d) fun a S=>sLoad1 0 (iv a5.H) S (wN d) d d d d d d (lb d) fun a S=>sMax2 (p:=a5.W) (q:=a5.H) S (wN d) d d d d (lb d) fun a S=>sBin _ S (wN d) d d d (bGt _ _ _ _ .i64 (if a5.W < a5.H then a5.H else a5.W) 16) d (lb d) fun a S=>lT (aM _ _ ?_)))))
 rcases iS h with ⟨ag,h⟩ | ⟨ag,h⟩
 rotate_left
 ·refine sCondF S d ag (wp_skip (leafB (leafT (aH _ _ ?_))))
  refine sRegion (sBin _ S (wN d) d d d (bAdd _ _ _ _ ah 1) d (lb d) fun a S=>sM S fun a S=>?_)
  exact lT (⟨w64 (ah + 1),(Option.some.inj h).symm,(S.fix [] [4] (by decide) d d d)⟩)
 refine sCondT S d ag (sSeq (fun bz aO=>sRegion (sN S fun a S=>?_)))
 refine lT (aO _ _ ?_)
 obtain rfl:=tS h
 obtain rfl:=ak _ d
 have h:=aT
 try dsimp only at h
 obtain rfl:=tS h
 have h:=aS
 try dsimp only at h
 obtain rfl:=tS h
 exact wp_ret (rBlock (rThen (rThen (rBlock (rThen (sRet (iv 4) S (rsl1 d (rvT (t:=2) (v:=iv 4) S d)) ⟨(),d,S.mem.sel [] [] (by decide) d d⟩))))))
noncomputable def F_symmetry_is (p0:Int):Option Bool:=
 Option.bind (α:=Bool) (
  if decide (0 ≤ p0) then
   some (decide (p0 < 16))
  else
   some false) fun o2=>
 some o2
theorem c_symmetry_is (E:Nat→Prop) (w0:World) (p0:Int) (r:Bool) (h:F_symmetry_is p0=some r) (S:St0 E [] w0 w0 [] []) :
 Calls Try.prog 61 #[iv p0] w0 (Ret (X:=Unit) E [] w0 (fun _=>.bool r) (fun _=>[]) (fun _=>[])):=by
 unfold F_symmetry_is at h
 refine sEnter (args:=[iv p0]) 9 Try.func61 d d (by simp) S (fun a S=>?_)
 refine sSeq (fun K1 a5=>sRegion (sN S fun a S=>?_))
 refine lT (a5 _ _ ?_)
 obtain ⟨t3,h,g4⟩:=bS h
 refine sCut (fun a w=>∃ o2,o2=t3∧St [] E [] w0 9 a w [(2,.bool o2)] [] []) ?_ (fun a w hI=>?_)
 rotate_left
 ·obtain ⟨o2,rfl,S⟩:=hI
  have h:=g4
  try dsimp only at h
  obtain rfl:=tS h
  exact wp_ret (sRet (.bool o2) S (rsl1 d (rvT (t:=2) (v:=.bool o2) S d)) ⟨(),d,S.mem.sel [] [] (by decide) d d⟩)
 refine sRegion (sM S fun a S=>?_)
 refine sBin _ S (wN d) d d d (bGe _ _ _ _ .i64 p0 0) d (lb d) fun a S=>sM S fun a S=>?_
 rcases iS h with ⟨a0,h⟩ | ⟨a0,h⟩
 rotate_left
 ·refine sSkN 2 2 true 5 S d d a0 d fun a S=>sPickF (.bool false) S (wN d) d d a0 d d (lb d) fun a S=>sN S fun a S=>?_
  exact lT (⟨false,Option.some.inj h,S.fix [] [] (by decide) d d d⟩)
 refine sMove (iv p0) S (wG 2 true 5 d d d a0) (.inl d) d d (lb d) fun a S=>sBin _ S (wG 2 true 5 d d d a0) d d d (bLt _ _ _ _ .i64 p0 16) d (lb d) fun a S=>sPickT (.bool (decide (p0 < 16))) S (wN d) d d a0 d d (lb d) fun a S=>sN S fun a S=>?_
 exact lT (⟨decide (p0 < 16),Option.some.inj h,S.fix [] [] (by decide) d d d⟩)
def anc_symmetry_applied_0:List (List Nat):=[[],[0],[],[2],[],[],[5],[4,5,6],[],[4,5,6,7,8],[2,3,4,5,6,7,8,9],[2,3,4,5,6,7,8,9,10],[],[12],[12,13],[2,3,4,5,6,7,8,9,10,11,12,13,14],[2,3,4,5,6,7,8,9,10,11,12,13,14,15],[0,1,2,3,4,5,6,7,8,9,10,11,12,13,14,15,16],[0,1,2,3,4,5,6,7,8,9,10,11,12,13,14,15,16,17],[0,1,2,3,4,5,6,7,8,9,10,11,12,13,14,15,16,17,18]]
noncomputable def symmetry_applied_l1 (o9:Int) (p1:Int) (a5:Int) (p0:api_Grid):(Int × List Bool)→Option ((Int × List Bool) ⊕ List Bool):=fun s0=>match s0 with
 | (a0,a6)=>
  if decide (a0 < o9) then
   Option.bind (α:=(Int × Int)) (
    if (andI .i64 p1 4) != 0 then
     some (a5,a0)
    else
     some (a0,a5)) fun (a7,a8)=>
   Option.bind (α:=Int) (
    if (andI .i64 p1 1) != 0 then
     some (w64 ((w64 (p0.W - 1)) - a7))
    else
     some a7) fun a9=>
   Option.bind (α:=Int) (
    if (andI .i64 p1 2) != 0 then
     some (w64 ((w64 (p0.H - 1)) - a8))
    else
     some a8) fun aa=>
   (idxO p0.Bits (w64 ((w64 (aa * p0.W)) + a9))).bind fun ab=>
   (appO a6 [ab != ((andI .i64 p1 8) != 0)]).bind fun ac=>
   some (.inl (w64 (a0 + 1),ac))
  else
   some (.inr a6)
noncomputable def symmetry_applied_l2 (a6:Int) (o9:Int) (p1:Int) (p0:api_Grid):(Int × List Bool)→Option ((Int × List Bool) ⊕ List Bool):=fun s0=>match s0 with
 | (a0,a5)=>
  if decide (a0 < a6) then
   Option.bind (α:=List Bool) (
    (whileO (symmetry_applied_l1 o9 p1 a0 p0) (0,a5)).bind fun a7=>
     some a7) fun a8=>
   some (.inl (w64 (a0 + 1),a8))
  else
   some (.inr a5)
noncomputable def F_symmetry_applied (p0:api_Grid) (p1:Int):Option api_Grid:=
 Option.bind (α:=(Int × Int)) (
  if (andI .i64 p1 4) != 0 then
   some (p0.H,p0.W)
  else
   some (p0.W,p0.H)) fun (o9,a0)=>
 Option.bind (α:=List Bool) (
  (whileO (symmetry_applied_l2 a0 o9 p1 p0) (0,([]:List Bool))).bind fun a5=>
   some a5) fun a6=>
 some (api_Grid.mk o9 a0 a6)
def c_symmetry_applied_val (r:api_Grid) (x:Value):Value:=x
def c_symmetry_applied_D (r:api_Grid) (x:Value):List Fact:=[fRep r_api_Grid x r]
theorem c_symmetry_applied (E:Nat→Prop) (w0:World) (p0:api_Grid) (v0:Value) (p1:Int) (r:api_Grid) (h:F_symmetry_applied p0 p1=some r) (S:St0 E [] w0 w0 [] [fRep r_api_Grid (v0) p0]) :
 Calls Try.prog 62 #[v0,iv p1] w0 (Ret (X:=Value) E [] w0 (c_symmetry_applied_val r) (fun _=>[]) (c_symmetry_applied_D r)):=by
 unfold F_symmetry_applied at h
 obtain ⟨u1,rfl,bk⟩:=S.know (i:=0) (e:=fRep r_api_Grid (v0) p0) d
 have S:=S.learn (fRep (rL rB) u1 p0.Bits) bk
 obtain ⟨ab,ac,_,rfl,_⟩:=bk
 refine sEnter (args:=[.agg #[iv p0.W,iv p0.H,.slice ab p0.Bits.length ac],iv p1]) 77 Try.func62 d d (by simp) S (fun a S=>?_)
 refine sSeq (fun K5 bm=>sRegion (sBox (v:=.agg #[iv p0.W,iv p0.H,.slice ab p0.Bits.length ac]) S (wN d) d d [iv p0.W,iv p0.H,.slice ab p0.Bits.length ac] d d (lb d) fun a b6 w S=>sAlloc (.agg #[iv 0,iv 0,.slice none 0 0]) S (wN d) d d [iv 0,iv 0,.slice none 0 0] d d (lb d) fun a b7 w S=>lT (bm _ _ (sSeq (fun K8 bo=>sDraw (nf:=[]) (W:=[(0,12,.pointer (some ⟨b6,0,none⟩)),(1,13,iv p0.W),(2,14,.pointer (some ⟨b6,1,none⟩)),(3,15,iv p0.H),(4,5,iv p0.W),(5,6,iv p0.H)]) d S ?_)))))
 refine node_by (A:=[[],[0],[],[2],[0,1],[0,1,2,3,4]]) (nf:=[]) (Y:=[]) (W:=[(0,12,.pointer (some ⟨b6,0,none⟩)),(1,13,iv p0.W),(2,14,.pointer (some ⟨b6,1,none⟩)),(3,15,iv p0.H),(4,5,iv p0.W),(5,6,iv p0.H)]) 6 (by kernel_rfl) (by kernel_rfl) (by kernel_rfl) (by kernel_rfl) (by kernel_rfl) [0,1,2,3,4,5] (by kernel_rfl) (by decide) (by decide) (fF ?_ (fF ?_ (fF ?_ (fF ?_ (fF ?_ (fF ?_ (trivial))))))) [(1,iv p1),(2,.pointer (some ⟨b6,0,none⟩)),(4,.pointer (some ⟨b7,0,none⟩)),(5,iv p0.W),(6,iv p0.H)] (fin_of [none,none,none,some 4,some 5] d (by kernel_rfl) (by kernel_rfl)) (fun _ a w S=>?_)
 ·refine fJ [(2,_)] 0 [none] fun G a w S=>?_
  exact sField (b:=b6) (off:=0) 0 0 S (wN d) d d d d d (lb d) fun a S=>leafL ⟨d,S⟩
 ·refine fJ [(12,_)] 1 [some 0] fun G a w S=>?_
  exact sLoad1 1 (iv p0.W) S (wN d) d d d d d d (lb d) fun a S=>leafL ⟨d,S⟩
 ·refine fJ [(2,_)] 2 [none] fun G a w S=>?_
  exact sField (b:=b6) (off:=0) 1 1 S (wN d) d d d d d (lb d) fun a S=>leafL ⟨d,S⟩
 ·refine fJ [(14,_)] 3 [some 2] fun G a w S=>?_
  exact sLoad1 1 (iv p0.H) S (wN d) d d d d d d (lb d) fun a S=>leafL ⟨d,S⟩
 ·exact fM 4 (some 1) d d d d (.inr d) d d d
 ·exact fM 5 (some 3) d d d d (.inr d) d d d
 refine leafT (bo _ _ ?_)
 obtain ⟨bp,h,bq⟩:=bS h
 refine sCut (fun a w=>∃ o9,∃ a6,(o9,a6)=bp∧St [] E [] w0 77 a w [(1,iv p1),(2,.pointer (some ⟨b6,0,none⟩)),(4,.pointer (some ⟨b7,0,none⟩)),(5,iv o9),(6,iv a6)] [eBox b6 24 [iv p0.W,iv p0.H,.slice ab p0.Bits.length ac],eBox b7 24 [iv 0,iv 0,.slice none 0 0]] [fRep (rL rB) (.slice ab p0.Bits.length ac) p0.Bits]) ?_ (fun a w hI=>?_)
 ·refine sSeq (fun bH aK=>sRegion (sM S fun a S=>?_))
  refine sBin _ S (wN d) d d d (bAndK _ _ _ _ .i64 p1 4) d (lb d) fun a S=>sBin _ S (wN d) d d d (bNe _ _ _ _ .i64 (andI .i64 p1 4) 0) d (lb d) fun a S=>lT (aK _ _ ?_)
  rcases iS h with ⟨ar,h⟩ | ⟨ar,h⟩
  rotate_left
  ·refine sCondF S d ar ?_
   exact wp_skip (leafT (⟨p0.W,p0.H,Option.some.inj h,S.fix [1,0] [0] (by decide) d d d⟩))
  refine sCondT S d ar (sRegion (sM S fun a S=>?_))
  refine sM S fun a S=>?_
  refine sN S fun a S=>?_
  refine sN S fun a S=>?_
  exact lT (⟨p0.H,p0.W,Option.some.inj h,S.fix [1,0] [0] (by decide) d d d⟩)
 obtain ⟨o9,a6,rfl,S⟩:=hI
 have h:=bq
 try dsimp only at h
 refine sSeq (fun bI aL=>sRegion (sM S fun a S=>?_))
 refine sM S fun a S=>?_
 refine sBuild [(0,iv o9),(1,iv a6)] [iv o9,iv a6,.slice none 0 0] S (wN d) d d d d (lb d) fun a S=>sAlloc (.agg #[iv 0,iv 0,.slice none 0 0]) S (wN d) d d [iv 0,iv 0,.slice none 0 0] d d (lb d) fun a a9 w S=>sStore (p:=a9) (off:=0) (T:=24) (vs:=[iv 0,iv 0,.slice none 0 0]) (v:=.agg #[iv o9,iv a6,.slice none 0 0]) 0 [iv o9,iv a6,.slice none 0 0] S (wN d) d d d d d d d (by simp) d fun a w S=>lT (aL _ _ ?_)
 obtain ⟨br,h,bu⟩:=bS h
 refine sCut (fun a w=>∃ ae,ae=br∧∃ a7,∃ a8,St [] E [] w0 77 a w [(4,.pointer (some ⟨b7,0,none⟩)),(7,.pointer (some ⟨a9,0,none⟩))] [eBox b7 24 [iv 0,iv 0,.slice none 0 0],eBox a9 24 [iv o9,iv a6,.slice a7 ae.length a8],eRow rB 4 (.slice a7 ae.length a8) ae] []) ?_ (fun a w hI=>?_)
 rotate_left
 ·obtain ⟨ae,rfl,a7,a8,S⟩:=hI
  have h:=bu
  try dsimp only at h
  refine sSeq (fun bJ aM=>sRegion (sLoadN (p:=a9) (off:=0) (T:=24) (vs:=[iv o9,iv a6,.slice a7 ae.length a8]) 1 [iv o9,iv a6,.slice a7 ae.length a8] S (wN d) d d d d d d d (lb d) fun a S=>sStore (p:=b7) (off:=0) (T:=24) (vs:=[iv 0,iv 0,.slice none 0 0]) (v:=.agg #[iv o9,iv a6,.slice a7 ae.length a8]) 0 [iv o9,iv a6,.slice a7 ae.length a8] S (wN d) d d d d d d d (by simp) d fun a w S=>lT (aM _ _ ?_)))
  obtain rfl:=tS h
  have S:=S.shutR (r:=rB) (T:=4) (v:=.slice a7 ae.length a8) (xs:=ae) 2 d
  have S:=S.learn (fRep r_api_Grid (.agg #[iv o9,iv a6,.slice a7 ae.length a8]) (api_Grid.mk o9 a6 ae)) ⟨_,d,S.mem.know (i:=0) (e:=fRep (rL rB) (.slice a7 ae.length a8) ae) d⟩
  exact wp_ret (sRet (.agg #[iv o9,iv a6,.slice a7 ae.length a8]) S (rsl1 d (rvN (c:=4) (t:=24) (T:=24) (p:=b7) 0 [iv o9,iv a6,.slice a7 ae.length a8] S d d d d)) ⟨(.agg #[iv o9,iv a6,.slice a7 ae.length a8]),d,S.mem.sel [] [0] (by decide) d d⟩)
 refine sSeq (fun bK aO=>sRegion (sM S fun a S=>?_))
 refine sM S fun a S=>?_
 refine lT (aO _ _ (wp_block ?_))
 have S:=S.nilRow rB 4 (α:=Bool)
 obtain ⟨bL,hl,bv⟩:=bS h
 refine sLoop hl (fun s0 a w=>match s0 with | (af,aI)=>∃ ah,∃ ai,St [] E [] w0 77 a w [(1,iv p1),(2,.pointer (some ⟨b6,0,none⟩)),(4,.pointer (some ⟨b7,0,none⟩)),(5,iv o9),(7,.pointer (some ⟨a9,0,none⟩)),(24,iv a6),(25,iv af)] [eBox b6 24 [iv p0.W,iv p0.H,.slice ab p0.Bits.length ac],eBox b7 24 [iv 0,iv 0,.slice none 0 0],eBox a9 24 [iv o9,iv a6,.slice ah aI.length ai],eRow rB 4 (.slice ah aI.length ai) aI] [fRep (rL rB) (.slice ab p0.Bits.length ac) p0.Bits]) ⟨none,0,S.fix [2,3,1,0] [0] (by decide) d d d⟩ ?_
 clear hl h
 intro s0 a w c0 hI h aP
 obtain ⟨af,aI⟩:=s0
 unfold symmetry_applied_l2 at h
 dsimp only at h hI
 obtain ⟨ah,ai,S⟩:=hI
 refine sSeq (fun bM aQ=>sRegion (sBin _ S (wN d) d d d (bLt _ _ _ _ .i64 af a6) d (lb d) fun a S=>lT (aQ _ _ (sSeq (fun bN aR=>?_)))))
 rcases iS h with ⟨au,h⟩ | ⟨au,h⟩
 rotate_left
 ·refine sCondF S d au ?_
  obtain rfl:=tS h
  obtain rfl:=aP _ d
  have h:=bv
  try dsimp only at h
  exact wp_exit (xThen (xThen (xHit (leafT (⟨aI,Option.some.inj h,ah,ai,S.fix [1,2,3] [] (by decide) d d d⟩)))))
 refine sCondT S d au (wp_skip (leafT (aR _ _ ?_)))
 obtain ⟨bw,h,bx⟩:=bS h
 refine sCut (fun a w=>∃ aG,aG=bw∧∃ am,∃ ao,St [] E [] w0 77 a w [(1,iv p1),(2,.pointer (some ⟨b6,0,none⟩)),(4,.pointer (some ⟨b7,0,none⟩)),(5,iv o9),(7,.pointer (some ⟨a9,0,none⟩)),(24,iv a6),(25,iv af)] [eBox b6 24 [iv p0.W,iv p0.H,.slice ab p0.Bits.length ac],eBox b7 24 [iv 0,iv 0,.slice none 0 0],eBox a9 24 [iv o9,iv a6,.slice am aG.length ao],eRow rB 4 (.slice am aG.length ao) aG] [fRep (rL rB) (.slice ab p0.Bits.length ac) p0.Bits]) ?_ (fun a w hI=>?_)
 rotate_left
 ·obtain ⟨aG,rfl,am,ao,S⟩:=hI
  have h:=bx
  try dsimp only at h
  refine sRegion (sBin _ S (wN d) d d d (bAdd _ _ _ _ af 1) d (lb d) fun a S=>sM S fun a S=>?_)
  exact lT (⟨(w64 (af + 1),aG),(Option.some.inj h).symm,⟨am,ao,S.fix [0,1,2,3] [0] (by decide) d d d⟩⟩)
 refine wp_block ?_
 refine sSeq (fun bO aS=>sRegion (sM S fun a S=>?_))
 refine sN S fun a S=>?_
 refine lT (aS _ _ (sSeq (fun bP aT=>sRegion (sM S fun a S=>?_))))
 refine sM S fun a S=>?_
 refine lT (aT _ _ (wp_block ?_))
 obtain ⟨bQ,hl,bz⟩:=bS h
 refine sLoop hl (fun s0 a w=>match s0 with | (aj,aa)=>∃ a0,∃ a5,St [] E [] w0 77 a w [(1,iv p1),(2,.pointer (some ⟨b6,0,none⟩)),(4,.pointer (some ⟨b7,0,none⟩)),(5,iv o9),(7,.pointer (some ⟨a9,0,none⟩)),(8,iv af),(24,iv a6),(25,iv af),(28,iv o9),(29,iv aj)] [eBox b6 24 [iv p0.W,iv p0.H,.slice ab p0.Bits.length ac],eBox b7 24 [iv 0,iv 0,.slice none 0 0],eBox a9 24 [iv o9,iv a6,.slice a0 aa.length a5],eRow rB 4 (.slice a0 aa.length a5) aa] [fRep (rL rB) (.slice ab p0.Bits.length ac) p0.Bits]) ⟨ah,ai,S.fix [0,1,2,3] [0] (by decide) d d d⟩ ?_
 clear hl h
 intro s0 a w c0 hI h aU
 obtain ⟨aj,aa⟩:=s0
 unfold symmetry_applied_l1 at h
 dsimp only at h hI
 obtain ⟨a0,a5,S⟩:=hI
 refine sSeq (fun bR aV=>sRegion (sBin _ S (wN d) d d d (bLt _ _ _ _ .i64 aj o9) d (lb d) fun a S=>lT (aV _ _ (sSeq (fun bU aW=>?_)))))
 rcases iS h with ⟨av,h⟩ | ⟨av,h⟩
 rotate_left
 ·refine sCondF S d av ?_
  obtain rfl:=tS h
  obtain rfl:=aU _ d
  have h:=bz
  try dsimp only at h
  exact wp_exit (xThen (xThen (xHit (leafB (leafT (⟨aa,Option.some.inj h,a0,a5,S.fix [0,1,2,3] [0] (by decide) d d d⟩))))))
 refine sCondT S d av (wp_skip (leafT (aW _ _ ?_)))
 refine sSeq (fun bV aX=>wp_block ?_)
 refine sSeq (fun bW aZ=>sRegion (sM S fun a S=>?_))
 refine sN S fun a S=>?_
 refine lT (aZ _ _ (sSeq (fun bX ba=>sRegion (sM S fun a S=>?_))))
 refine sM S fun a S=>?_
 refine sN S fun a S=>?_
 refine sN S fun a S=>?_
 refine lT (ba _ _ ?_)
 obtain ⟨bA,h,bB⟩:=bS h
 refine sCut (fun a w=>∃ aH,∃ aw,(aH,aw)=bA∧St [] E [] w0 77 a w [(1,iv p1),(2,.pointer (some ⟨b6,0,none⟩)),(4,.pointer (some ⟨b7,0,none⟩)),(5,iv o9),(7,.pointer (some ⟨a9,0,none⟩)),(8,iv af),(10,iv aH),(11,iv aw),(24,iv a6),(25,iv af),(28,iv o9),(29,iv aj)] [eBox b6 24 [iv p0.W,iv p0.H,.slice ab p0.Bits.length ac],eBox b7 24 [iv 0,iv 0,.slice none 0 0],eBox a9 24 [iv o9,iv a6,.slice a0 aa.length a5],eRow rB 4 (.slice a0 aa.length a5) aa] [fRep (rL rB) (.slice ab p0.Bits.length ac) p0.Bits]) ?_ (fun a w hI=>?_)
 ·refine sSeq (fun bY bb=>sRegion (sM S fun a S=>?_))
  refine sBin _ S (wN d) d d d (bAndK _ _ _ _ .i64 p1 4) d (lb d) fun a S=>sBin _ S (wN d) d d d (bNe _ _ _ _ .i64 (andI .i64 p1 4) 0) d (lb d) fun a S=>lT (bb _ _ ?_)
  rcases iS h with ⟨ax,h⟩ | ⟨ax,h⟩
  rotate_left
  ·refine sCondF S d ax ?_
   exact wp_skip (leafT (⟨aj,af,Option.some.inj h,S.fix [0,1,2,3] [0] (by decide) d d d⟩))
  refine sCondT S d ax (sRegion (sM S fun a S=>?_))
  refine sM S fun a S=>?_
  refine sN S fun a S=>?_
  refine sN S fun a S=>?_
  exact lT (⟨af,aj,Option.some.inj h,S.fix [0,1,2,3] [0] (by decide) d d d⟩)
 obtain ⟨aH,aw,rfl,S⟩:=hI
 have h:=bB
 try dsimp only at h
 obtain ⟨bC,h,bD⟩:=bS h
 refine sCut (fun a w=>∃ aq,aq=bC∧St [] E [] w0 77 a w [(1,iv p1),(2,.pointer (some ⟨b6,0,none⟩)),(4,.pointer (some ⟨b7,0,none⟩)),(5,iv o9),(7,.pointer (some ⟨a9,0,none⟩)),(8,iv af),(10,iv aq),(11,iv aw),(24,iv a6),(25,iv af),(28,iv o9),(29,iv aj)] [eBox b6 24 [iv p0.W,iv p0.H,.slice ab p0.Bits.length ac],eBox b7 24 [iv 0,iv 0,.slice none 0 0],eBox a9 24 [iv o9,iv a6,.slice a0 aa.length a5],eRow rB 4 (.slice a0 aa.length a5) aa] [fRep (rL rB) (.slice ab p0.Bits.length ac) p0.Bits]) ?_ (fun a w hI=>?_)
 ·refine sSeq (fun bZ bc=>sRegion (sM S fun a S=>?_))
  refine sBin _ S (wN d) d d d (bAndK _ _ _ _ .i64 p1 1) d (lb d) fun a S=>sBin _ S (wN d) d d d (bNe _ _ _ _ .i64 (andI .i64 p1 1) 0) d (lb d) fun a S=>lT (bc _ _ ?_)
  rcases iS h with ⟨ay,h⟩ | ⟨ay,h⟩
  rotate_left
  ·refine sCondF S d ay ?_
   exact wp_skip (leafT (⟨aH,Option.some.inj h,S.fix [0,1,2,3] [0] (by decide) d d d⟩))
  refine sCondT S d ay (sRegion (sField (b:=b6) (off:=0) 0 0 S (wN d) d d d d d (lb d) fun a S=>sLoad1 0 (iv p0.W) S (wN d) d d d d d d (lb d) fun a S=>sBin _ S (wN d) d d d (bSub _ _ _ _ p0.W 1) d (lb d) fun a S=>sM S fun a S=>?_))
  refine sBin _ S (wN d) d d d (bSub _ _ _ _ (w64 (p0.W - 1)) aH) d (lb d) fun a S=>sN S fun a S=>?_
  exact lT (⟨w64 ((w64 (p0.W - 1)) - aH),Option.some.inj h,S.fix [0,1,2,3] [0] (by decide) d d d⟩)
 obtain ⟨aq,rfl,S⟩:=hI
 have h:=bD
 try dsimp only at h
 obtain ⟨bE,h,bG⟩:=bS h
 refine sCut (fun a w=>∃ ap,ap=bE∧St [] E [] w0 77 a w [(1,iv p1),(2,.pointer (some ⟨b6,0,none⟩)),(4,.pointer (some ⟨b7,0,none⟩)),(5,iv o9),(7,.pointer (some ⟨a9,0,none⟩)),(8,iv af),(10,iv aq),(11,iv ap),(24,iv a6),(25,iv af),(28,iv o9),(29,iv aj)] [eBox b6 24 [iv p0.W,iv p0.H,.slice ab p0.Bits.length ac],eBox b7 24 [iv 0,iv 0,.slice none 0 0],eBox a9 24 [iv o9,iv a6,.slice a0 aa.length a5],eRow rB 4 (.slice a0 aa.length a5) aa] [fRep (rL rB) (.slice ab p0.Bits.length ac) p0.Bits]) ?_ (fun a w hI=>?_)
 ·refine sSeq (fun c7 bf=>sRegion (sM S fun a S=>?_))
  refine sBin _ S (wN d) d d d (bAndK _ _ _ _ .i64 p1 2) d (lb d) fun a S=>sBin _ S (wN d) d d d (bNe _ _ _ _ .i64 (andI .i64 p1 2) 0) d (lb d) fun a S=>lT (bf _ _ ?_)
  rcases iS h with ⟨az,h⟩ | ⟨az,h⟩
  rotate_left
  ·refine sCondF S d az ?_
   exact wp_skip (leafT (⟨aw,Option.some.inj h,S.fix [0,1,2,3] [0] (by decide) d d d⟩))
  refine sCondT S d az (sRegion (sField (b:=b6) (off:=0) 1 1 S (wN d) d d d d d (lb d) fun a S=>sLoad1 0 (iv p0.H) S (wN d) d d d d d d (lb d) fun a S=>sBin _ S (wN d) d d d (bSub _ _ _ _ p0.H 1) d (lb d) fun a S=>sM S fun a S=>?_))
  refine sBin _ S (wN d) d d d (bSub _ _ _ _ (w64 (p0.H - 1)) aw) d (lb d) fun a S=>sN S fun a S=>?_
  exact lT (⟨w64 ((w64 (p0.H - 1)) - aw),Option.some.inj h,S.fix [0,1,2,3] [0] (by decide) d d d⟩)
 obtain ⟨ap,rfl,S⟩:=hI
 have h:=bG
 try dsimp only at h
 obtain ⟨ag,bg,h⟩:=bS h
 obtain ⟨aJ,bh,h⟩:=bS h
 obtain ⟨bi,bj,S⟩:=pIdx (P:=Try.prog) (r:=rB) (v:=.slice ab p0.Bits.length ac) (xs:=p0.Bits) (j:=w64 ((w64 (ap * p0.W)) + aq)) 22 4 0 S Try.underlying22 d d bg
 obtain ⟨bl,S⟩:=pLoad (r:=rB) (q:=bi) (x:=ag) 0 S d
 obtain rfl:bl=.bool ag:=S.mem.know (i:=1) (e:=fRep rB (bl) ag) d
 refine sDraw (nf:=[16,17,19]) (W:=[(0,55,.pointer (some ⟨a9,2,none⟩)),(1,56,.slice a0 aa.length a5),(2,57,.pointer (some ⟨b6,2,none⟩)),(3,58,.slice ab p0.Bits.length ac),(4,59,iv ap),(5,60,.pointer (some ⟨b6,0,none⟩)),(6,61,iv p0.W),(7,62,iv (w64 (ap * p0.W))),(8,63,iv aq),(9,64,iv (w64 ((w64 (ap * p0.W)) + aq))),(10,65,bi),(11,66,.bool ag),(12,67,iv p1),(13,68,iv (andI .i64 p1 8)),(14,69,.bool ((andI .i64 p1 8) != 0)),(15,70,.bool (ag != ((andI .i64 p1 8) != 0)))]) d S ?_
 refine node_by (A:=anc_symmetry_applied_0) 20 (by kernel_rfl) (by kernel_rfl) (by kernel_rfl) (by kernel_rfl) (by kernel_rfl) [0,1,2,3,4,5,6,7,8,9,10,11,12,13,14,15] (by kernel_rfl) (by decide) (by decide) (fF ?_ (fF ?_ (fF ?_ (fF ?_ (fF ?_ (fF ?_ (fF ?_ (fF ?_ (fF ?_ (fF ?_ (fF ?_ (fF ?_ (fF ?_ (fF ?_ (fF ?_ (fF ?_ (fN ?_ (aB 17 2 16 (by decide) (fE 16 (aB 19 0 16 (by decide) (trivial))))))))))))))))))))) [] (fun q hq=>by cases hq) (fun hY=>absurd (hY 16 (by decide)) (by decide))
 ·refine fJ [(7,_)] 0 [none] fun G a w S=>?_
  exact sField (b:=a9) (off:=0) 2 2 S (wN d) d d d d d (lb d) fun a S=>leafL ⟨d,S⟩
 ·refine fJ [(55,_)] 1 [some 0] fun G a w S=>?_
  exact sLoad1 2 (.slice a0 aa.length a5) S (wN d) d d d d d d (lb d) fun a S=>leafL ⟨d,S⟩
 ·refine fJ [(2,_)] 2 [none] fun G a w S=>?_
  exact sField (b:=b6) (off:=0) 2 2 S (wN d) d d d d d (lb d) fun a S=>leafL ⟨d,S⟩
 ·refine fJ [(57,_)] 3 [some 2] fun G a w S=>?_
  exact sLoad1 0 (.slice ab p0.Bits.length ac) S (wN d) d d d d d d (lb d) fun a S=>leafL ⟨d,S⟩
 ·exact fM 4 none d d d d (.inl d) d d d
 ·refine fJ [(2,_)] 5 [none] fun G a w S=>?_
  exact sField (b:=b6) (off:=0) 0 0 S (wN d) d d d d d (lb d) fun a S=>leafL ⟨d,S⟩
 ·refine fJ [(60,_)] 6 [some 5] fun G a w S=>?_
  exact sLoad1 0 (iv p0.W) S (wN d) d d d d d d (lb d) fun a S=>leafL ⟨d,S⟩
 ·refine fJ [(59,_),(61,_)] 7 [some 4,some 6] fun G a w S=>?_
  exact sBin _ S (wN d) d d d (bMul _ _ _ _ ap p0.W) d (lb d) fun a S=>leafL ⟨d,S⟩
 ·exact fM 8 none d d d d (.inl d) d d d
 ·refine fJ [(62,_),(63,_)] 9 [some 7,some 8] fun G a w S=>?_
  exact sBin _ S (wN d) d d d (bAdd _ _ _ _ (w64 (ap * p0.W)) aq) d (lb d) fun a S=>leafL ⟨d,S⟩
 ·refine fJ [(58,_),(64,_)] 10 [some 3,some 9] fun G a w S=>?_
  exact sIdxV S (wN d) d d d bj d (lb d) fun a S=>leafL ⟨d,S⟩
 ·refine fJ [(65,_)] 11 [some 10] fun G a w S=>?_
  exact sLoadV1 (vq:=bi) 0 (.bool ag) S (wN d) d d d d d (lb d) fun a S=>leafL ⟨d,S⟩
 ·exact fM 12 none d d d d (.inl d) d d d
 ·refine fJ [(67,_)] 13 [some 12] fun G a w S=>?_
  exact sBin _ S (wN d) d d d (bAndK _ _ _ _ .i64 p1 8) d (lb d) fun a S=>leafL ⟨d,S⟩
 ·refine fJ [(68,_)] 14 [some 13] fun G a w S=>?_
  exact sBin _ S (wN d) d d d (bNe _ _ _ _ .i64 (andI .i64 p1 8) 0) d (lb d) fun a S=>leafL ⟨d,S⟩
 ·refine fJ [(66,_),(69,_)] 15 [some 11,some 14] fun G a w S=>?_
  exact sBin _ S (wN d) d d d (bNeB _ _ _ _ Try.underlying4 ag ((andI .i64 p1 8) != 0)) d (lb d) fun a S=>leafL ⟨d,S⟩
 refine ⟨_,[(70,.bool (ag != ((andI .i64 p1 8) != 0)))],d,(srcs_of [some 15] d d d),fun G a w S=>?_⟩
 refine sLit (r:=rB) (T:=4) (xs:=[ag != ((andI .i64 p1 8) != 0)]) [(0,.bool (ag != ((andI .i64 p1 8) != 0)))] 1 [.bool (ag != ((andI .i64 p1 8) != 0))] [.bool (ag != ((andI .i64 p1 8) != 0))] (.bool false) 1 S (wN d) d d Try.underlying22 d (by decide) (by decide) (by kernel_rfl) d (fun E1 w1 hE=>All.cons d (All.nil _ _ _)) d d (lb d) fun a w aA aC S=>?_
 refine leafL ⟨d,_,_,.inl ⟨71,(.slice aA [ag != ((andI .i64 p1 8) != 0)].length aC),[],d,S,hz_of d,?_⟩⟩
 refine node_by (A:=anc_symmetry_applied_0) 20 (by kernel_rfl) (by kernel_rfl) (by kernel_rfl) (by kernel_rfl) (by kernel_rfl) [16,0,1,2,3,4,5,6,7,8,9,10,11,12,13,14,15] (by kernel_rfl) (by decide) (by decide) (fF ?_ (fF ?_ (fD 16 (fD 16 (fD 16 (fD 16 (fD 16 (fD 16 (fD 16 (fD 16 (fD 16 (fD 16 (fD 16 (fD 16 (fD 16 (fD 16 (fY (fN ?_ (fE 17 (aB 19 0 17 (by decide) (trivial))))))))))))))))))))) [] (fun q hq=>by cases hq) (fun hY=>absurd (hY 17 (by decide)) (by decide))
 ·refine fJ [(7,_)] 1 [none] fun G a w S=>?_
  exact sField (b:=a9) (off:=0) 2 2 S (wN d) d d d d d (lb d) fun a S=>leafL ⟨d,S⟩
 ·refine fJ [(55,_)] 2 [some 1] fun G a w S=>?_
  exact sLoad1 3 (.slice a0 aa.length a5) S (wN d) d d d d d d (lb d) fun a S=>leafL ⟨d,S⟩
 refine ⟨_,[(56,.slice a0 aa.length a5),(71,.slice aA [ag != ((andI .i64 p1 8) != 0)].length aC)],d,(srcs_of [some 2,some 0] d d d),fun G a w S=>?_⟩
 refine sApp (r:=rB) (T:=4) (xs:=aa) (ys:=[ag != ((andI .i64 p1 8) != 0)]) (v:=.slice a0 aa.length a5) (u:=.slice aA [ag != ((andI .i64 p1 8) != 0)].length aC) 4 (.bool false) 1 S (wN d) d Try.underlying22 d d (by decide) d d d (src_R (T:=4) 0 S.mem d) bh d (lb d) fun a w ak al S=>leafL ⟨d,_,_,.inl ⟨72,(.slice ak aJ.length al),[(18,73,.pointer (some ⟨a9,2,none⟩))],d,S,hz_of d,?_⟩⟩
 refine node_by (A:=anc_symmetry_applied_0) 20 (by kernel_rfl) (by kernel_rfl) (by kernel_rfl) (by kernel_rfl) (by kernel_rfl) [18,17,16,0,1,2,3,4,5,6,7,8,9,10,11,12,13,14,15] (by kernel_rfl) (by decide) (by decide) (fD 17 (fD 17 (fD 17 (fD 17 (fD 17 (fD 17 (fD 17 (fD 17 (fD 17 (fD 17 (fD 17 (fD 17 (fD 17 (fD 17 (fD 17 (fD 17 (fY (fY (fF ?_ (fN ?_ (trivial))))))))))))))))))))) [] (fun q hq=>by cases hq) (fun hY=>absurd (hY 19 (by decide)) (by decide))
 ·refine fJ [(7,_)] 0 [none] fun G a w S=>?_
  exact sField (b:=a9) (off:=0) 2 2 S (wN d) d d d d d (lb d) fun a S=>leafL ⟨d,S⟩
 refine ⟨_,[(72,.slice ak aJ.length al),(73,.pointer (some ⟨a9,2,none⟩))],d,(srcs_of [some 1,some 0] d d d),fun G a w S=>?_⟩
 refine sStore (p:=a9) (off:=2) (T:=24) (vs:=[iv o9,iv a6,.slice a0 aa.length a5]) (v:=.slice ak aJ.length al) 4 [.slice ak aJ.length al] S (wN d) d d d d d d d (by simp) d fun a w S=>leafL ⟨d,_,_,.inr ⟨[],d,S,hz_of d,?_⟩⟩
 refine node_by (A:=anc_symmetry_applied_0) 20 (by kernel_rfl) (by kernel_rfl) (by kernel_rfl) (by kernel_rfl) (by kernel_rfl) [18,17,16,0,1,2,3,4,5,6,7,8,9,10,11,12,13,14,15] (by kernel_rfl) (by decide) (by decide) (fD 19 (fD 19 (fD 19 (fD 19 (fD 19 (fD 19 (fD 19 (fD 19 (fD 19 (fD 19 (fD 19 (fD 19 (fD 19 (fD 19 (fD 19 (fD 19 (fY (fY (fD 19 (fY (trivial))))))))))))))))))))) [(1,iv p1),(2,.pointer (some ⟨b6,0,none⟩)),(4,.pointer (some ⟨b7,0,none⟩)),(5,iv o9),(7,.pointer (some ⟨a9,0,none⟩)),(8,iv af),(24,iv a6),(25,iv af),(28,iv o9),(29,iv aj)] (fin_of [none,none,none,none,none,none,none,none,none,none] d (by kernel_rfl) (by kernel_rfl)) (fun _ a w S=>?_)
 refine leafB (leafT (aX _ _ ?_))
 refine sRegion (sBin _ S (wN d) d d d (bAdd _ _ _ _ aj 1) d (lb d) fun a S=>sM S fun a S=>?_)
 exact lT (⟨(w64 (aj + 1),aJ),(Option.some.inj h).symm,⟨ak,al,S.fix [3,4,0,1] [3] (by decide) d d d⟩⟩)
noncomputable def F_symmetry_Apply (p0:api_Grid) (p1:Int):Option (api_Grid × Int):=
 (F_symmetry_check [p0]).bind fun a0=>
 if a0 != 0 then
  some ((api_Grid.mk 0 0 ([]:(List Bool))),a0)
 else
  (F_symmetry_is p1).bind fun a5=>
  if !a5 then
   some ((api_Grid.mk 0 0 ([]:(List Bool))),2)
  else
   (F_symmetry_applied p0 p1).bind fun a6=>
   some (a6,0)
def c_symmetry_Apply_val (r:(api_Grid × Int)) (x:Value):Value:=.tuple #[x,.int .i64 r.2]
def c_symmetry_Apply_D (r:(api_Grid × Int)) (x:Value):List Fact:=[fRep r_api_Grid x r.1]
theorem c_symmetry_Apply (E:Nat→Prop) (w0:World) (p0:api_Grid) (v0:Value) (p1:Int) (r:(api_Grid × Int)) (h:F_symmetry_Apply p0 p1=some r) (S:St0 E [] w0 w0 [] [fRep r_api_Grid (v0) p0]) :
 Calls Try.prog 33 #[v0,iv p1] w0 (Ret (X:=Value) E [] w0 (c_symmetry_Apply_val r) (fun _=>[]) (c_symmetry_Apply_D r)):=by
 unfold F_symmetry_Apply at h
 obtain ⟨u1,rfl,ar⟩:=S.know (i:=0) (e:=fRep r_api_Grid (v0) p0) d
 have S:=S.learn (fRep (rL rB) u1 p0.Bits) ar
 obtain ⟨a5,a6,_,rfl,_⟩:=ar
 refine sEnter (args:=[.agg #[iv p0.W,iv p0.H,.slice a5 p0.Bits.length a6],iv p1]) 21 Try.func33 d d (by simp) S (fun a S=>?_)
 refine sSeq (fun K5 au=>sRegion (sBox (v:=.agg #[iv p0.W,iv p0.H,.slice a5 p0.Bits.length a6]) S (wN d) d d [iv p0.W,iv p0.H,.slice a5 p0.Bits.length a6] d d (lb d) fun a b6 w S=>sAlloc (.agg #[iv 0,iv 0,.slice none 0 0]) S (wN d) d d [iv 0,iv 0,.slice none 0 0] d d (lb d) fun a b7 w S=>sN S fun a S=>?_))
 refine lT (au _ _ (sSeq (fun K8 av=>sSeq (fun K9 aw=>sRegion (sLoadN (p:=b6) (off:=0) (T:=24) (vs:=[iv p0.W,iv p0.H,.slice a5 p0.Bits.length a6]) 1 [iv p0.W,iv p0.H,.slice a5 p0.Bits.length a6] S (wN d) d d d d d d d (lb d) fun a S=>sLit (r:=r_api_Grid) (T:=24) (xs:=[p0]) [(0,.agg #[iv p0.W,iv p0.H,.slice a5 p0.Bits.length a6])] 1 [.agg #[iv p0.W,iv p0.H,.slice a5 p0.Bits.length a6]] [iv p0.W,iv p0.H,.slice a5 p0.Bits.length a6] (.agg #[iv 0,iv 0,.slice none 0 0]) 40 S (wN d) d d Try.underlying141 d (by decide) (by decide) (by kernel_rfl) d (fun E1 w1 hE=>All.cons (r_api_Grid.mono hE (S.mem.know (i:=1) (e:=fRep r_api_Grid (.agg #[iv p0.W,iv p0.H,.slice a5 p0.Bits.length a6]) p0) d)) (All.nil _ _ _)) d d (lb d) fun a w a9 aa S=>?_)))))
 obtain ⟨ae,ag,h⟩:=bS h
 have S1:=S.mem
 have S1:=S1.shutR (r:=r_api_Grid) (T:=24) (v:=.slice a9 [p0].length aa) (xs:=[p0]) 0 d
 refine sCq [.slice a9 [p0].length aa] (iv ae) S callee60 (S1.quiet [0] d) (fun E1 w1 S1=>c_symmetry_check E1 w1 [p0] (.slice a9 [p0].length aa) ae ag S1) fun a w S=>?_
 refine sN S fun a S=>?_
 refine lT (aw _ _ (sSeq (fun az ah=>sRegion (sM S fun a S=>?_))))
 refine sBin _ S (wN d) d d d (bNe _ _ _ _ .i64 ae 0) d (lb d) fun a S=>lT (ah _ _ ?_)
 rcases iS h with ⟨ab,h⟩ | ⟨ab,h⟩
 ·refine sCondT S d ab (sSeq (fun aA ai=>sRegion (sBuild [] [iv 0,iv 0,.slice none 0 0] S (wN d) d d d d (lb d) fun a S=>sM S fun a S=>?_)))
  refine sStore (p:=b7) (off:=0) (T:=24) (vs:=[iv 0,iv 0,.slice none 0 0]) (v:=.agg #[iv 0,iv 0,.slice none 0 0]) 1 [iv 0,iv 0,.slice none 0 0] S (wN d) d d d d d d d (by simp) d fun a w S=>sN S fun a S=>?_
  refine lT (ai _ _ ?_)
  obtain rfl:=tS h
  have S:=S.learn (fRep (rL rB) (.slice none 0 0) ([]:(List Bool))) (rL_nil _ _ _)
  have S:=S.learn (fRep r_api_Grid (.agg #[iv 0,iv 0,.slice none 0 0]) (api_Grid.mk 0 0 ([]:(List Bool)))) ⟨_,d,S.mem.know (i:=0) (e:=fRep (rL rB) (.slice none 0 0) ([]:(List Bool))) d⟩
  exact wp_ret (rThen (sRet (.tuple #[.agg #[iv 0,iv 0,.slice none 0 0],iv ae]) S (rsl2 d (rvN (c:=4) (t:=24) (T:=24) (p:=b7) 0 [iv 0,iv 0,.slice none 0 0] S d d d d) (rvT (t:=5) (v:=iv ae) S d)) ⟨(.agg #[iv 0,iv 0,.slice none 0 0]),d,S.mem.sel [] [0] (by decide) d d⟩))
 refine sCondF S d ab (wp_skip (leafT (av _ _ ?_)))
 refine sSeq (fun aC aj=>sSeq (fun aG ak=>sRegion (sM S fun a S=>?_)))
 obtain ⟨al,am,h⟩:=bS h
 have S1:=S.mem
 refine sCq [iv p1] (.bool al) S callee61 (S1.quiet [] d) (fun E1 w1 S1=>c_symmetry_is E1 w1 p1 al am S1) fun a w S=>?_
 refine sNot (b:=al) S (wN d) d d d (lb d) fun a S=>lT (ak _ _ ?_)
 rcases iS h with ⟨ac,h⟩ | ⟨ac,h⟩
 ·refine sCondT S d ac (sSeq (fun aH ao=>sRegion (sBuild [] [iv 0,iv 0,.slice none 0 0] S (wN d) d d d d (lb d) fun a S=>sStore (p:=b7) (off:=0) (T:=24) (vs:=[iv 0,iv 0,.slice none 0 0]) (v:=.agg #[iv 0,iv 0,.slice none 0 0]) 1 [iv 0,iv 0,.slice none 0 0] S (wN d) d d d d d d d (by simp) d fun a w S=>sN S fun a S=>?_)))
  refine lT (ao _ _ ?_)
  obtain rfl:=tS h
  have S:=S.learn (fRep (rL rB) (.slice none 0 0) ([]:(List Bool))) (rL_nil _ _ _)
  have S:=S.learn (fRep r_api_Grid (.agg #[iv 0,iv 0,.slice none 0 0]) (api_Grid.mk 0 0 ([]:(List Bool)))) ⟨_,d,S.mem.know (i:=0) (e:=fRep (rL rB) (.slice none 0 0) ([]:(List Bool))) d⟩
  exact wp_ret (rThen (sRet (.tuple #[.agg #[iv 0,iv 0,.slice none 0 0],iv 2]) S (rsl2 d (rvN (c:=4) (t:=24) (T:=24) (p:=b7) 0 [iv 0,iv 0,.slice none 0 0] S d d d d) (rvT (t:=5) (v:=iv 2) S d)) ⟨(.agg #[iv 0,iv 0,.slice none 0 0]),d,S.mem.sel [] [0] (by decide) d d⟩))
 refine sCondF S d ac (wp_skip (leafT (aj _ _ ?_)))
 refine sSeq (fun aI ap=>sRegion (sLoadN (p:=b6) (off:=0) (T:=24) (vs:=[iv p0.W,iv p0.H,.slice a5 p0.Bits.length a6]) 2 [iv p0.W,iv p0.H,.slice a5 p0.Bits.length a6] S (wN d) d d d d d d d (lb d) fun a S=>sM S fun a S=>?_))
 obtain ⟨a0,aq,h⟩:=bS h
 refine sCall (X:=Value) (f:=62) (vs:=[.agg #[iv p0.W,iv p0.H,.slice a5 p0.Bits.length a6],iv p1]) (val:=c_symmetry_applied_val a0) (B':=fun _=>[]) (D':=c_symmetry_applied_D a0) [] [eRow r_api_Grid 24 (.slice a9 [p0].length aa) [p0],eBox b7 24 [iv 0,iv 0,.slice none 0 0],eBox b6 24 [iv p0.W,iv p0.H,.slice a5 p0.Bits.length a6]] [fRep r_api_Grid (.agg #[iv p0.W,iv p0.H,.slice a5 p0.Bits.length a6]) p0] [0,1,2] [1] S (wN d) d callee62 d (by decide) d d (fun E1 w1 S1=>c_symmetry_applied E1 w1 p0 (.agg #[iv p0.W,iv p0.H,.slice a5 p0.Bits.length a6]) p1 a0 aq S1) d (lb d) fun ax a w S=>?_
 obtain ⟨ay,rfl,af⟩:=S.mem.know (i:=0) (e:=fRep r_api_Grid (ax) a0) d
 have S:=S.learn (fRep (rL rB) ay a0.Bits) af
 obtain ⟨a7,a8,_,rfl,_⟩:=af
 refine sStore (p:=b7) (off:=0) (T:=24) (vs:=[iv 0,iv 0,.slice none 0 0]) (v:=.agg #[iv a0.W,iv a0.H,.slice a7 a0.Bits.length a8]) 1 [iv a0.W,iv a0.H,.slice a7 a0.Bits.length a8] S (wN d) d d d d d d d (by simp) d fun a w S=>sN S fun a S=>?_
 refine lT (ap _ _ ?_)
 obtain rfl:=tS h
 exact wp_ret (sRet (.tuple #[.agg #[iv a0.W,iv a0.H,.slice a7 a0.Bits.length a8],iv 0]) S (rsl2 d (rvN (c:=4) (t:=24) (T:=24) (p:=b7) 0 [iv a0.W,iv a0.H,.slice a7 a0.Bits.length a8] S d d d d) (rvT (t:=5) (v:=iv 0) S d)) ⟨(.agg #[iv a0.W,iv a0.H,.slice a7 a0.Bits.length a8]),d,S.mem.sel [] [1] (by decide) d d⟩)
noncomputable def F_grid_around (p0:Int) (p1:Int):Option Int:=
 Option.bind (α:=Int) (
  (remI p0 p1).bind fun z6=>
  if decide (z6 < 0) then
   some (w64 (z6 + p1))
  else
   some z6) fun o2=>
 some o2
theorem c_grid_around (E:Nat→Prop) (w0:World) (p0:Int) (p1:Int) (r:Int) (h:F_grid_around p0 p1=some r) (S:St0 E [] w0 w0 [] []) :
 Calls Try.prog 63 #[iv p0,iv p1] w0 (Ret (X:=Unit) E [] w0 (fun _=>.int .i64 r) (fun _=>[]) (fun _=>[])):=by
 unfold F_grid_around at h
 refine sEnter (args:=[iv p0,iv p1]) 14 Try.func63 d d (by simp) S (fun a S=>?_)
 refine sSeq (fun K1 a6=>sRegion (sN S fun a S=>?_))
 refine lT (a6 _ _ ?_)
 obtain ⟨t3,h,g4⟩:=bS h
 refine sCut (fun a w=>∃ o2,o2=t3∧St [] E [] w0 14 a w [(0,iv o2)] [] []) ?_ (fun a w hI=>?_)
 rotate_left
 ·obtain ⟨o2,rfl,S⟩:=hI
  have h:=g4
  try dsimp only at h
  refine sSeq (fun aa a0=>sRegion (sM S fun a S=>?_))
  refine sN S fun a S=>?_
  refine lT (a0 _ _ ?_)
  obtain rfl:=tS h
  exact wp_ret (sRet (iv o2) S (rsl1 d (rvT (t:=4) (v:=iv o2) S d)) ⟨(),d,S.mem.sel [] [] (by decide) d d⟩)
 refine sSeq (fun K5 a7=>sRegion (sM S fun a S=>?_))
 refine sM S fun a S=>?_
 obtain ⟨z6,a8,h⟩:=bS h
 refine sBin _ S (wN d) d d d (bRem _ _ _ _ (x:=p0) (y:=p1) a8) d (lb d) fun a S=>sN S fun a S=>?_
 refine lT (a7 _ _ (sSeq (fun K8 a9=>sRegion (sM S fun a S=>?_))))
 refine sBin _ S (wN d) d d d (bLt _ _ _ _ .i64 z6 0) d (lb d) fun a S=>lT (a9 _ _ ?_)
 rcases iS h with ⟨a5,h⟩ | ⟨a5,h⟩
 rotate_left
 ·refine sCondF S d a5 ?_
  exact wp_skip (leafT (⟨z6,Option.some.inj h,S.fix [] [] (by decide) d d d⟩))
 refine sCondT S d a5 (sRegion (sM S fun a S=>?_))
 refine sM S fun a S=>?_
 refine sBin _ S (wN d) d d d (bAdd _ _ _ _ z6 p1) d (lb d) fun a S=>sN S fun a S=>?_
 exact lT (⟨w64 (z6 + p1),Option.some.inj h,S.fix [] [] (by decide) d d d⟩)
def anc_grid_Shift_1_s0_0:List (List Nat):=[[],[0],[],[],[2,3],[],[5],[2,3,4,5,6],[],[8],[2,3,4,5,6,7,8,9],[],[],[11,12],[],[14],[2,3,4,5,6,7,11,12,13,14,15],[2,3,4,5,6,7,8,9,10,11,12,13,14,15,16],[0,1,2,3,4,5,6,7,8,9,10,11,12,13,14,15,16,17],[0,1,2,3,4,5,6,7,8,9,10,11,12,13,14,15,16,17,18],[0,1,2,3,4,5,6,7,8,9,10,11,12,13,14,15,16,17,18,19]]
noncomputable def F_grid_Shift_1_s0 (p0:Int) (p1:Int) (p2:api_Grid) (p3:Int) (p4:Int):Option Bool:=
 (F_grid_around (w64 (p1 - p3)) p2.H).bind fun a0=>
 (F_grid_around (w64 (p0 - p4)) p2.W).bind fun a5=>
 (idxO p2.Bits (w64 ((w64 (a0 * p2.W)) + a5))).bind fun a6=>
 some a6
theorem c_grid_Shift_1_s0 (E:Nat→Prop) (w0:World) (p0:Int) (p1:Int) (p2:api_Grid) (v2:Value) (p3:Int) (v3:Value) (p4:Int) (v4:Value) (r:Bool) (h:F_grid_Shift_1_s0 p0 p1 p2 p3 p4=some r) (S:St0 E [] w0 w0 [] [fPtr r_api_Grid (v2) p2,fPtr (rI .i64) (v3) p3,fPtr (rI .i64) (v4) p4]) :
 Calls Try.prog 65 #[iv p0,iv p1,v2,v3,v4] w0 (Ret (X:=Unit) E [] w0 (fun _=>.bool r) (fun _=>[]) (fun _=>[])):=by
 unfold F_grid_Shift_1_s0 at h
 refine sEnter (args:=[iv p0,iv p1,v2,v3,v4]) 28 Try.func65 d d (by simp) S (fun a S=>?_)
 refine sSeq (fun K1 aw=>sRegion (sN S fun a S=>?_))
 refine lT (aw _ _ (sSeq (fun K2 ax=>?_)))
 obtain ⟨a5,a9,h⟩:=bS h
 obtain ⟨a8,aa,h⟩:=bS h
 obtain ⟨a0,ab,h⟩:=bS h
 obtain ⟨ac,ae,S⟩:=pFld (P:=Try.prog) (r:=r_api_Grid) (s2:=(rL rB)) (g:=(·.Bits)) (q:=v2) (z:=p2) 24 2 0 2 S d d comp_api_Grid_Bits
 obtain ⟨ay,S⟩:=pLoad (r:=(rL rB)) (q:=ac) (x:=p2.Bits) 0 S d
 obtain ⟨a6,a7,_,rfl,_⟩:=S.mem.know (i:=1) (e:=fRep (rL rB) (ay) p2.Bits) d
 obtain ⟨ao,S⟩:=pLoad (r:=(rI .i64)) (q:=v3) (x:=p3) 4 S d
 obtain rfl:ao=iv p3:=S.mem.know (i:=1) (e:=fRep (rI .i64) (ao) p3) d
 obtain ⟨af,ag,S⟩:=pFld (P:=Try.prog) (r:=r_api_Grid) (s2:=(rI .i64)) (g:=(·.H)) (q:=v2) (z:=p2) 24 1 5 1 S d d comp_api_Grid_H
 obtain ⟨ap,S⟩:=pLoad (r:=(rI .i64)) (q:=af) (x:=p2.H) 0 S d
 obtain rfl:ap=iv p2.H:=S.mem.know (i:=1) (e:=fRep (rI .i64) (ap) p2.H) d
 obtain ⟨ah,ai,S⟩:=pFld (P:=Try.prog) (r:=r_api_Grid) (s2:=(rI .i64)) (g:=(·.W)) (q:=v2) (z:=p2) 24 0 8 0 S d d comp_api_Grid_W
 obtain ⟨aq,S⟩:=pLoad (r:=(rI .i64)) (q:=ah) (x:=p2.W) 0 S d
 obtain rfl:aq=iv p2.W:=S.mem.know (i:=1) (e:=fRep (rI .i64) (aq) p2.W) d
 obtain ⟨ar,S⟩:=pLoad (r:=(rI .i64)) (q:=v4) (x:=p4) 13 S d
 obtain rfl:ar=iv p4:=S.mem.know (i:=1) (e:=fRep (rI .i64) (ar) p4) d
 obtain ⟨aj,ak,S⟩:=pFld (P:=Try.prog) (r:=r_api_Grid) (s2:=(rI .i64)) (g:=(·.W)) (q:=v2) (z:=p2) 24 0 13 0 S d d comp_api_Grid_W
 obtain ⟨au,S⟩:=pLoad (r:=(rI .i64)) (q:=aj) (x:=p2.W) 0 S d
 obtain rfl:au=iv p2.W:=S.mem.know (i:=1) (e:=fRep (rI .i64) (au) p2.W) d
 obtain ⟨al,am,S⟩:=pIdx (P:=Try.prog) (r:=rB) (v:=.slice a6 p2.Bits.length a7) (xs:=p2.Bits) (j:=w64 ((w64 (a5 * p2.W)) + a8)) 22 4 14 S Try.underlying22 d d ab
 obtain ⟨av,S⟩:=pLoad (r:=rB) (q:=al) (x:=a0) 0 S d
 obtain rfl:av=.bool a0:=S.mem.know (i:=1) (e:=fRep rB (av) a0) d
 refine sDraw (nf:=[]) (W:=[(0,8,ac),(1,9,.slice a6 p2.Bits.length a7),(2,10,iv p1),(3,11,iv p3),(4,12,iv (w64 (p1 - p3))),(5,13,af),(6,14,iv p2.H),(7,15,iv a5),(8,16,ah),(9,17,iv p2.W),(10,18,iv (w64 (a5 * p2.W))),(11,19,iv p0),(12,20,iv p4),(13,21,iv (w64 (p0 - p4))),(14,22,aj),(15,23,iv p2.W),(16,24,iv a8),(17,25,iv (w64 ((w64 (a5 * p2.W)) + a8))),(18,26,al),(19,27,.bool a0),(20,7,.bool a0)]) d S ?_
 refine node_by (A:=anc_grid_Shift_1_s0_0) 21 (by kernel_rfl) (by kernel_rfl) (by kernel_rfl) (by kernel_rfl) (by kernel_rfl) [0,1,2,3,4,5,6,7,8,9,10,11,12,13,14,15,16,17,18,19,20] (by kernel_rfl) (by decide) (by decide) (fF ?_ (fF ?_ (fF ?_ (fF ?_ (fF ?_ (fF ?_ (fF ?_ (fF ?_ (fF ?_ (fF ?_ (fF ?_ (fF ?_ (fF ?_ (fF ?_ (fF ?_ (fF ?_ (fF ?_ (fF ?_ (fF ?_ (fF ?_ (fF ?_ (trivial)))))))))))))))))))))) [(7,.bool a0)] (fin_of [some 20] d (by kernel_rfl) (by kernel_rfl)) (fun _ a w S=>?_)
 ·refine fJ [(2,_)] 0 [none] fun G a w S=>?_
  exact sFldV (q:=v2) S (wN d) d d ae d (lb d) fun a S=>leafL ⟨d,S⟩
 ·refine fJ [(8,_)] 1 [some 0] fun G a w S=>?_
  exact sLoadV1 (vq:=ac) 16 (.slice a6 p2.Bits.length a7) S (wN d) d d d d d (lb d) fun a S=>leafL ⟨d,S⟩
 ·exact fM 2 none d d d d (.inl d) d d d
 ·refine fJ [(3,_)] 3 [none] fun G a w S=>?_
  exact sLoadV1 (vq:=v3) 14 (iv p3) S (wN d) d d d d d (lb d) fun a S=>leafL ⟨d,S⟩
 ·refine fJ [(10,_),(11,_)] 4 [some 2,some 3] fun G a w S=>?_
  exact sBin _ S (wN d) d d d (bSub _ _ _ _ p1 p3) d (lb d) fun a S=>leafL ⟨d,S⟩
 ·refine fJ [(2,_)] 5 [none] fun G a w S=>?_
  exact sFldV (q:=v2) S (wN d) d d ag d (lb d) fun a S=>leafL ⟨d,S⟩
 ·refine fJ [(13,_)] 6 [some 5] fun G a w S=>?_
  exact sLoadV1 (vq:=af) 11 (iv p2.H) S (wN d) d d d d d (lb d) fun a S=>leafL ⟨d,S⟩
 ·refine fJ [(12,_),(14,_)] 7 [some 4,some 6] fun G a w S=>?_
  have S1:=S.mem
  refine sCq [iv (w64 (p1 - p3)),iv p2.H] (iv a5) S callee63 (S1.quiet [] d) (fun E1 w1 S1=>c_grid_around E1 w1 (w64 (p1 - p3)) p2.H a5 a9 S1) fun a w S=>?_
  exact leafL ⟨d,S⟩
 ·refine fJ [(2,_)] 8 [none] fun G a w S=>?_
  exact sFldV (q:=v2) S (wN d) d d ai d (lb d) fun a S=>leafL ⟨d,S⟩
 ·refine fJ [(16,_)] 9 [some 8] fun G a w S=>?_
  exact sLoadV1 (vq:=ah) 8 (iv p2.W) S (wN d) d d d d d (lb d) fun a S=>leafL ⟨d,S⟩
 ·refine fJ [(15,_),(17,_)] 10 [some 7,some 9] fun G a w S=>?_
  exact sBin _ S (wN d) d d d (bMul _ _ _ _ a5 p2.W) d (lb d) fun a S=>leafL ⟨d,S⟩
 ·exact fM 11 none d d d d (.inl d) d d d
 ·refine fJ [(4,_)] 12 [none] fun G a w S=>?_
  exact sLoadV1 (vq:=v4) 6 (iv p4) S (wN d) d d d d d (lb d) fun a S=>leafL ⟨d,S⟩
 ·refine fJ [(19,_),(20,_)] 13 [some 11,some 12] fun G a w S=>?_
  exact sBin _ S (wN d) d d d (bSub _ _ _ _ p0 p4) d (lb d) fun a S=>leafL ⟨d,S⟩
 ·refine fJ [(2,_)] 14 [none] fun G a w S=>?_
  exact sFldV (q:=v2) S (wN d) d d ak d (lb d) fun a S=>leafL ⟨d,S⟩
 ·refine fJ [(22,_)] 15 [some 14] fun G a w S=>?_
  exact sLoadV1 (vq:=aj) 3 (iv p2.W) S (wN d) d d d d d (lb d) fun a S=>leafL ⟨d,S⟩
 ·refine fJ [(21,_),(23,_)] 16 [some 13,some 15] fun G a w S=>?_
  have S1:=S.mem
  refine sCq [iv (w64 (p0 - p4)),iv p2.W] (iv a8) S callee63 (S1.quiet [] d) (fun E1 w1 S1=>c_grid_around E1 w1 (w64 (p0 - p4)) p2.W a8 aa S1) fun a w S=>?_
  exact leafL ⟨d,S⟩
 ·refine fJ [(18,_),(24,_)] 17 [some 10,some 16] fun G a w S=>?_
  exact sBin _ S (wN d) d d d (bAdd _ _ _ _ (w64 (a5 * p2.W)) a8) d (lb d) fun a S=>leafL ⟨d,S⟩
 ·refine fJ [(9,_),(25,_)] 18 [some 1,some 17] fun G a w S=>?_
  exact sIdxV S (wN d) d d d am d (lb d) fun a S=>leafL ⟨d,S⟩
 ·refine fJ [(26,_)] 19 [some 18] fun G a w S=>?_
  exact sLoadV1 (vq:=al) 0 (.bool a0) S (wN d) d d d d d (lb d) fun a S=>leafL ⟨d,S⟩
 ·exact fM 20 (some 19) d d d d (.inr d) d d d
 refine leafT (ax _ _ ?_)
 obtain rfl:=tS h
 exact wp_ret (sRet (.bool a0) S (rsl1 d (rvT (t:=7) (v:=.bool a0) S d)) ⟨(),d,S.mem.sel [] [] (by decide) d d⟩)
def anc_grid_build_s0_0:List (List Nat):=[[],[0],[],[],[],[2,3,4],[2,3,4,5],[0,1,2,3,4,5,6],[0,1,2,3,4,5,6,7],[0,1,2,3,4,5,6,7,8]]
noncomputable def grid_build_s0_l1 (p0:Int) (a6:Int) (p2:api_Grid) (p3:Int) (p4:Int):(Int × List Bool)→Option ((Int × List Bool) ⊕ List Bool):=fun s0=>match s0 with
 | (a0,a5)=>
  if decide (a0 < p0) then
   (F_grid_Shift_1_s0 a0 a6 p2 p3 p4).bind fun a7=>
   (appO a5 [a7]).bind fun a8=>
   some (.inl (w64 (a0 + 1),a8))
  else
   some (.inr a5)
noncomputable def grid_build_s0_l2 (p1:Int) (p0:Int) (p2:api_Grid) (p3:Int) (p4:Int):(Int × List Bool)→Option ((Int × List Bool) ⊕ List Bool):=fun s0=>match s0 with
 | (a0,a5)=>
  if decide (a0 < p1) then
   Option.bind (α:=List Bool) (
    (whileO (grid_build_s0_l1 p0 a0 p2 p3 p4) (0,a5)).bind fun a6=>
     some a6) fun a7=>
   some (.inl (w64 (a0 + 1),a7))
  else
   some (.inr a5)
noncomputable def F_grid_build_s0 (p0:Int) (p1:Int) (p2:api_Grid) (p3:Int) (p4:Int):Option api_Grid:=
 (capO (w64 (p0 * p1))).bind fun z6=>
 Option.bind (α:=List Bool) (
  (whileO (grid_build_s0_l2 p1 p0 p2 p3 p4) (0,([]:List Bool))).bind fun a0=>
   some a0) fun o9=>
 some (api_Grid.mk p0 p1 o9)
def c_grid_build_s0_val (r:api_Grid) (x:Value):Value:=x
def c_grid_build_s0_D (r:api_Grid) (x:Value):List Fact:=[fRep r_api_Grid x r]
theorem c_grid_build_s0 (E:Nat→Prop) (w0:World) (p0:Int) (p1:Int) (p2:api_Grid) (v2:Value) (p3:Int) (v3:Value) (p4:Int) (v4:Value) (r:api_Grid) (h:F_grid_build_s0 p0 p1 p2 p3 p4=some r) (S:St0 E [] w0 w0 [] [fPtr r_api_Grid (v2) p2,fPtr (rI .i64) (v3) p3,fPtr (rI .i64) (v4) p4]) :
 Calls Try.prog 64 #[iv p0,iv p1,.func (.func 65) #[] #[v2,v3,v4]] w0 (Ret (X:=Value) E [] w0 (c_grid_build_s0_val r) (fun _=>[]) (c_grid_build_s0_D r)):=by
 unfold F_grid_build_s0 at h
 refine sEnter (args:=[iv p0,iv p1,.func (.func 65) #[] #[v2,v3,v4]]) 37 Try.func64 d d (by simp) S (fun a S=>?_)
 refine sSeq (fun K1 aO=>sRegion (sAlloc (.agg #[iv 0,iv 0,.slice none 0 0]) S (wN d) d d [iv 0,iv 0,.slice none 0 0] d d (lb d) fun a b2 w S=>lT (aO _ _ (sSeq (fun K3 aP=>sRegion (sM S fun a S=>?_))))))
 refine sM S fun a S=>?_
 refine sM S fun a S=>?_
 refine sM S fun a S=>?_
 refine sBin _ S (wN d) d d d (bMul _ _ _ _ p0 p1) d (lb d) fun a S=>?_
 obtain ⟨z6,aQ,h⟩:=bS h
 refine sMake0 rB (m:=w64 (p0 * p1)) (u:=z6) (.bool false) 1 S (wN d) d Try.underlying22 d (by decide) d d aQ d (lb d) fun a w ap aq S=>?_
 refine sBuild [(0,iv p0),(1,iv p1),(2,.slice ap ([]:List Bool).length aq)] [iv p0,iv p1,.slice ap ([]:List Bool).length aq] S (wN d) d d d d (lb d) fun a S=>sAlloc (.agg #[iv 0,iv 0,.slice none 0 0]) S (wN d) d d [iv 0,iv 0,.slice none 0 0] d d (lb d) fun a b8 w S=>sStore (p:=b8) (off:=0) (T:=24) (vs:=[iv 0,iv 0,.slice none 0 0]) (v:=.agg #[iv p0,iv p1,.slice ap ([]:List Bool).length aq]) 0 [iv p0,iv p1,.slice ap ([]:List Bool).length aq] S (wN d) d d d d d d d (by simp) d fun a w S=>lT (aP _ _ ?_)
 obtain ⟨aR,h,aS⟩:=bS h
 refine sCut (fun a w=>∃ o9,o9=aR∧∃ a0,∃ a5,St [] E [] w0 37 a w [(6,.pointer (some ⟨b2,0,none⟩)),(7,.pointer (some ⟨b8,0,none⟩))] [eBox b2 24 [iv 0,iv 0,.slice none 0 0],eBox b8 24 [iv p0,iv p1,.slice a0 o9.length a5],eRow rB 4 (.slice a0 o9.length a5) o9] []) ?_ (fun a w hI=>?_)
 rotate_left
 ·obtain ⟨o9,rfl,a0,a5,S⟩:=hI
  have h:=aS
  try dsimp only at h
  refine sSeq (fun aX av=>sRegion (sLoadN (p:=b8) (off:=0) (T:=24) (vs:=[iv p0,iv p1,.slice a0 o9.length a5]) 1 [iv p0,iv p1,.slice a0 o9.length a5] S (wN d) d d d d d d d (lb d) fun a S=>sStore (p:=b2) (off:=0) (T:=24) (vs:=[iv 0,iv 0,.slice none 0 0]) (v:=.agg #[iv p0,iv p1,.slice a0 o9.length a5]) 0 [iv p0,iv p1,.slice a0 o9.length a5] S (wN d) d d d d d d d (by simp) d fun a w S=>lT (av _ _ ?_)))
  obtain rfl:=tS h
  have S:=S.shutR (r:=rB) (T:=4) (v:=.slice a0 o9.length a5) (xs:=o9) 2 d
  have S:=S.learn (fRep r_api_Grid (.agg #[iv p0,iv p1,.slice a0 o9.length a5]) (api_Grid.mk p0 p1 o9)) ⟨_,d,S.mem.know (i:=0) (e:=fRep (rL rB) (.slice a0 o9.length a5) o9) d⟩
  exact wp_ret (sRet (.agg #[iv p0,iv p1,.slice a0 o9.length a5]) S (rsl1 d (rvN (c:=6) (t:=24) (T:=24) (p:=b2) 0 [iv p0,iv p1,.slice a0 o9.length a5] S d d d d)) ⟨(.agg #[iv p0,iv p1,.slice a0 o9.length a5]),d,S.mem.sel [] [0] (by decide) d d⟩)
 refine sSeq (fun aZ aw=>sRegion (sM S fun a S=>?_))
 refine sM S fun a S=>?_
 refine lT (aw _ _ (wp_block ?_))
 obtain ⟨ba,hl,aT⟩:=bS h
 refine sLoop hl (fun s0 a w=>match s0 with | (a8,ar)=>∃ ab,∃ ac,St [] E [] w0 37 a w [(0,iv p0),(2,.func (.func 65) #[] #[v2,v3,v4]),(6,.pointer (some ⟨b2,0,none⟩)),(7,.pointer (some ⟨b8,0,none⟩)),(17,iv p1),(18,iv a8)] [eBox b2 24 [iv 0,iv 0,.slice none 0 0],eBox b8 24 [iv p0,iv p1,.slice ab ar.length ac],eRow rB 4 (.slice ab ar.length ac) ar] [fPtr r_api_Grid (v2) p2,fPtr (rI .i64) (v3) p3,fPtr (rI .i64) (v4) p4]) ⟨ap,aq,S.fix [2,0,1] [0,1,2] (by decide) d d d⟩ ?_
 clear hl h
 intro s0 a w c0 hI h ax
 obtain ⟨a8,ar⟩:=s0
 unfold grid_build_s0_l2 at h
 dsimp only at h hI
 obtain ⟨ab,ac,S⟩:=hI
 refine sSeq (fun bb ay=>sRegion (sBin _ S (wN d) d d d (bLt _ _ _ _ .i64 a8 p1) d (lb d) fun a S=>lT (ay _ _ (sSeq (fun bc az=>?_)))))
 rcases iS h with ⟨aj,h⟩ | ⟨aj,h⟩
 rotate_left
 ·refine sCondF S d aj ?_
  obtain rfl:=tS h
  obtain rfl:=ax _ d
  have h:=aT
  try dsimp only at h
  exact wp_exit (xThen (xThen (xHit (leafT (⟨ar,Option.some.inj h,ab,ac,S.fix [0,1,2] [] (by decide) d d d⟩)))))
 refine sCondT S d aj (wp_skip (leafT (az _ _ ?_)))
 obtain ⟨aU,h,aV⟩:=bS h
 refine sCut (fun a w=>∃ ao,ao=aU∧∃ ag,∃ ah,St [] E [] w0 37 a w [(0,iv p0),(2,.func (.func 65) #[] #[v2,v3,v4]),(6,.pointer (some ⟨b2,0,none⟩)),(7,.pointer (some ⟨b8,0,none⟩)),(17,iv p1),(18,iv a8)] [eBox b2 24 [iv 0,iv 0,.slice none 0 0],eBox b8 24 [iv p0,iv p1,.slice ag ao.length ah],eRow rB 4 (.slice ag ao.length ah) ao] [fPtr r_api_Grid (v2) p2,fPtr (rI .i64) (v3) p3,fPtr (rI .i64) (v4) p4]) ?_ (fun a w hI=>?_)
 rotate_left
 ·obtain ⟨ao,rfl,ag,ah,S⟩:=hI
  have h:=aV
  try dsimp only at h
  refine sRegion (sBin _ S (wN d) d d d (bAdd _ _ _ _ a8 1) d (lb d) fun a S=>sM S fun a S=>?_)
  exact lT (⟨(w64 (a8 + 1),ao),(Option.some.inj h).symm,⟨ag,ah,S.fix [0,1,2] [0,1,2] (by decide) d d d⟩⟩)
 refine wp_block ?_
 refine sSeq (fun bf aA=>sRegion (sM S fun a S=>?_))
 refine sN S fun a S=>?_
 refine lT (aA _ _ (sSeq (fun bg aC=>sRegion (sM S fun a S=>?_))))
 refine sM S fun a S=>?_
 refine lT (aC _ _ (wp_block ?_))
 obtain ⟨bh,hl,aW⟩:=bS h
 refine sLoop hl (fun s0 a w=>match s0 with | (ai,a9)=>∃ a6,∃ a7,St [] E [] w0 37 a w [(0,iv p0),(2,.func (.func 65) #[] #[v2,v3,v4]),(6,.pointer (some ⟨b2,0,none⟩)),(7,.pointer (some ⟨b8,0,none⟩)),(8,iv a8),(17,iv p1),(18,iv a8),(21,iv p0),(22,iv ai)] [eBox b2 24 [iv 0,iv 0,.slice none 0 0],eBox b8 24 [iv p0,iv p1,.slice a6 a9.length a7],eRow rB 4 (.slice a6 a9.length a7) a9] [fPtr r_api_Grid (v2) p2,fPtr (rI .i64) (v3) p3,fPtr (rI .i64) (v4) p4]) ⟨ab,ac,S.fix [0,1,2] [0,1,2] (by decide) d d d⟩ ?_
 clear hl h
 intro s0 a w c0 hI h aG
 obtain ⟨ai,a9⟩:=s0
 unfold grid_build_s0_l1 at h
 dsimp only at h hI
 obtain ⟨a6,a7,S⟩:=hI
 refine sSeq (fun bi aH=>sRegion (sBin _ S (wN d) d d d (bLt _ _ _ _ .i64 ai p0) d (lb d) fun a S=>lT (aH _ _ (sSeq (fun bj aI=>?_)))))
 rcases iS h with ⟨ak,h⟩ | ⟨ak,h⟩
 rotate_left
 ·refine sCondF S d ak ?_
  obtain rfl:=tS h
  obtain rfl:=aG _ d
  have h:=aW
  try dsimp only at h
  exact wp_exit (xThen (xThen (xHit (leafB (leafT (⟨a9,Option.some.inj h,a6,a7,S.fix [0,1,2] [0,1,2] (by decide) d d d⟩))))))
 refine sCondT S d ak (wp_skip (leafT (aI _ _ ?_)))
 refine sSeq (fun bk aJ=>wp_block ?_)
 refine sSeq (fun bl aK=>sRegion (sM S fun a S=>?_))
 refine sN S fun a S=>?_
 refine lT (aK _ _ ?_)
 obtain ⟨aa,aL,h⟩:=bS h
 obtain ⟨au,aM,h⟩:=bS h
 refine sDraw (nf:=[6,7,9]) (W:=[(0,25,.pointer (some ⟨b8,2,none⟩)),(1,26,.slice a6 a9.length a7),(2,27,.func (.func 65) #[] #[v2,v3,v4]),(3,28,iv ai),(4,29,iv a8),(5,30,.bool aa)]) d S ?_
 refine node_by (A:=anc_grid_build_s0_0) 10 (by kernel_rfl) (by kernel_rfl) (by kernel_rfl) (by kernel_rfl) (by kernel_rfl) [0,1,2,3,4,5] (by kernel_rfl) (by decide) (by decide) (fF ?_ (fF ?_ (fF ?_ (fF ?_ (fF ?_ (fF ?_ (fN ?_ (aB 7 2 6 (by decide) (fE 6 (aB 9 0 6 (by decide) (trivial))))))))))) [] (fun q hq=>by cases hq) (fun hY=>absurd (hY 6 (by decide)) (by decide))
 ·refine fJ [(7,_)] 0 [none] fun G a w S=>?_
  exact sField (b:=b8) (off:=0) 2 2 S (wN d) d d d d d (lb d) fun a S=>leafL ⟨d,S⟩
 ·refine fJ [(25,_)] 1 [some 0] fun G a w S=>?_
  exact sLoad1 1 (.slice a6 a9.length a7) S (wN d) d d d d d d (lb d) fun a S=>leafL ⟨d,S⟩
 ·exact fM 2 none d d d d (.inl d) d d d
 ·exact fM 3 none d d d d (.inl d) d d d
 ·exact fM 4 none d d d d (.inl d) d d d
 ·refine fJ [(27,_),(28,_),(29,_)] 5 [some 2,some 3,some 4] fun G a w S=>?_
  have S1:=S.mem
  refine sCallVQ (X:=Unit) (g:=65) (vs:=[iv ai,iv a8]) (caps:=[v2,v3,v4]) (val:=fun _=>.bool aa) S (wN d) d d callee65 d (S1.quiet [0,1,2] d) (fun E1 w1 S1=>c_grid_Shift_1_s0 E1 w1 ai a8 p2 v2 p3 v3 p4 v4 aa aL S1) d (lb d) fun _ a w S=>?_
  exact leafL ⟨d,S⟩
 refine ⟨_,[(30,.bool aa)],d,(srcs_of [some 5] d d d),fun G a w S=>?_⟩
 refine sLit (r:=rB) (T:=4) (xs:=[aa]) [(0,.bool aa)] 1 [.bool aa] [.bool aa] (.bool false) 1 S (wN d) d d Try.underlying22 d (by decide) (by decide) (by kernel_rfl) d (fun E1 w1 hE=>All.cons d (All.nil _ _ _)) d d (lb d) fun a w al am S=>?_
 refine leafL ⟨d,_,_,.inl ⟨31,(.slice al [aa].length am),[],d,S,hz_of d,?_⟩⟩
 refine node_by (A:=anc_grid_build_s0_0) 10 (by kernel_rfl) (by kernel_rfl) (by kernel_rfl) (by kernel_rfl) (by kernel_rfl) [6,0,1,2,3,4,5] (by kernel_rfl) (by decide) (by decide) (fF ?_ (fF ?_ (fD 6 (fD 6 (fD 6 (fD 6 (fY (fN ?_ (fE 7 (aB 9 0 7 (by decide) (trivial))))))))))) [] (fun q hq=>by cases hq) (fun hY=>absurd (hY 7 (by decide)) (by decide))
 ·refine fJ [(7,_)] 1 [none] fun G a w S=>?_
  exact sField (b:=b8) (off:=0) 2 2 S (wN d) d d d d d (lb d) fun a S=>leafL ⟨d,S⟩
 ·refine fJ [(25,_)] 2 [some 1] fun G a w S=>?_
  exact sLoad1 2 (.slice a6 a9.length a7) S (wN d) d d d d d d (lb d) fun a S=>leafL ⟨d,S⟩
 refine ⟨_,[(26,.slice a6 a9.length a7),(31,.slice al [aa].length am)],d,(srcs_of [some 2,some 0] d d d),fun G a w S=>?_⟩
 refine sApp (r:=rB) (T:=4) (xs:=a9) (ys:=[aa]) (v:=.slice a6 a9.length a7) (u:=.slice al [aa].length am) 3 (.bool false) 1 S (wN d) d Try.underlying22 d d (by decide) d d d (src_R (T:=4) 0 S.mem d) aM d (lb d) fun a w ae af S=>leafL ⟨d,_,_,.inl ⟨32,(.slice ae au.length af),[(8,33,.pointer (some ⟨b8,2,none⟩))],d,S,hz_of d,?_⟩⟩
 refine node_by (A:=anc_grid_build_s0_0) 10 (by kernel_rfl) (by kernel_rfl) (by kernel_rfl) (by kernel_rfl) (by kernel_rfl) [8,7,6,0,1,2,3,4,5] (by kernel_rfl) (by decide) (by decide) (fD 7 (fD 7 (fD 7 (fD 7 (fD 7 (fD 7 (fY (fY (fF ?_ (fN ?_ (trivial))))))))))) [] (fun q hq=>by cases hq) (fun hY=>absurd (hY 9 (by decide)) (by decide))
 ·refine fJ [(7,_)] 0 [none] fun G a w S=>?_
  exact sField (b:=b8) (off:=0) 2 2 S (wN d) d d d d d (lb d) fun a S=>leafL ⟨d,S⟩
 refine ⟨_,[(32,.slice ae au.length af),(33,.pointer (some ⟨b8,2,none⟩))],d,(srcs_of [some 1,some 0] d d d),fun G a w S=>?_⟩
 refine sStore (p:=b8) (off:=2) (T:=24) (vs:=[iv p0,iv p1,.slice a6 a9.length a7]) (v:=.slice ae au.length af) 3 [.slice ae au.length af] S (wN d) d d d d d d d (by simp) d fun a w S=>leafL ⟨d,_,_,.inr ⟨[],d,S,hz_of d,?_⟩⟩
 refine node_by (A:=anc_grid_build_s0_0) 10 (by kernel_rfl) (by kernel_rfl) (by kernel_rfl) (by kernel_rfl) (by kernel_rfl) [8,7,6,0,1,2,3,4,5] (by kernel_rfl) (by decide) (by decide) (fD 9 (fD 9 (fD 9 (fD 9 (fD 9 (fD 9 (fY (fY (fD 9 (fY (trivial))))))))))) [(0,iv p0),(2,.func (.func 65) #[] #[v2,v3,v4]),(6,.pointer (some ⟨b2,0,none⟩)),(7,.pointer (some ⟨b8,0,none⟩)),(8,iv a8),(17,iv p1),(18,iv a8),(21,iv p0),(22,iv ai)] (fin_of [none,none,none,none,none,none,none,none,none] d (by kernel_rfl) (by kernel_rfl)) (fun _ a w S=>?_)
 refine leafB (leafT (aJ _ _ ?_))
 refine sRegion (sBin _ S (wN d) d d d (bAdd _ _ _ _ ai 1) d (lb d) fun a S=>sM S fun a S=>?_)
 exact lT (⟨(w64 (ai + 1),au),(Option.some.inj h).symm,⟨ae,af,S.fix [3,0,1] [0,1,2] (by decide) d d d⟩⟩)
def anc_grid_Shift_0:List (List Nat):=[[],[],[1],[0,1,2],[],[],[5],[0,1,2,3,4,5,6],[0,1,2,3,4,5,6,7],[0,1,2,3,4,5,6,7,8]]
noncomputable def F_grid_Shift (p0:api_Grid) (p1:Int) (p2:Int):Option (api_Grid × Int):=
 (F_grid_Check p0).bind fun a0=>
 if a0 != 0 then
  some ((api_Grid.mk 0 0 ([]:(List Bool))),a0)
 else
  (F_grid_around p1 p0.W).bind fun a5=>
  (F_grid_around p2 p0.H).bind fun a6=>
  (F_grid_build_s0 p0.W p0.H p0 a6 a5).bind fun a7=>
  some (a7,0)
def c_grid_Shift_val (r:(api_Grid × Int)) (x:Value):Value:=.tuple #[x,.int .i64 r.2]
def c_grid_Shift_D (r:(api_Grid × Int)) (x:Value):List Fact:=[fRep r_api_Grid x r.1]
theorem c_grid_Shift (E:Nat→Prop) (w0:World) (p0:api_Grid) (v0:Value) (p1:Int) (p2:Int) (r:(api_Grid × Int)) (h:F_grid_Shift p0 p1 p2=some r) (S:St0 E [] w0 w0 [] [fRep r_api_Grid (v0) p0]) :
 Calls Try.prog 34 #[v0,iv p1,iv p2] w0 (Ret (X:=Value) E [] w0 (c_grid_Shift_val r) (fun _=>[]) (c_grid_Shift_D r)):=by
 unfold F_grid_Shift at h
 obtain ⟨u1,rfl,aq⟩:=S.know (i:=0) (e:=fRep r_api_Grid (v0) p0) d
 have S:=S.learn (fRep (rL rB) u1 p0.Bits) aq
 obtain ⟨a9,aa,_,rfl,_⟩:=aq
 refine sEnter (args:=[.agg #[iv p0.W,iv p0.H,.slice a9 p0.Bits.length aa],iv p1,iv p2]) 29 Try.func34 d d (by simp) S (fun a S=>?_)
 refine sSeq (fun K5 ar=>sRegion (sBox (v:=.agg #[iv p0.W,iv p0.H,.slice a9 p0.Bits.length aa]) S (wN d) d d [iv p0.W,iv p0.H,.slice a9 p0.Bits.length aa] d d (lb d) fun a b6 w S=>sBox (v:=iv p1) S (wN d) d d [iv p1] d d (lb d) fun a b7 w S=>sBox (v:=iv p2) S (wN d) d d [iv p2] d d (lb d) fun a b8 w S=>sAlloc (.agg #[iv 0,iv 0,.slice none 0 0]) S (wN d) d d [iv 0,iv 0,.slice none 0 0] d d (lb d) fun a b9 w S=>sN S fun a S=>?_))
 refine lT (ar _ _ (sSeq (fun aw af=>sSeq (fun ax ag=>sRegion (sLoadN (p:=b6) (off:=0) (T:=24) (vs:=[iv p0.W,iv p0.H,.slice a9 p0.Bits.length aa]) 3 [iv p0.W,iv p0.H,.slice a9 p0.Bits.length aa] S (wN d) d d d d d d d (lb d) fun a S=>?_)))))
 obtain ⟨ac,ah,h⟩:=bS h
 have S1:=S.mem
 refine sCq [.agg #[iv p0.W,iv p0.H,.slice a9 p0.Bits.length aa]] (iv ac) S callee45 (S1.quiet [1] d) (fun E1 w1 S1=>c_grid_Check E1 w1 p0 (.agg #[iv p0.W,iv p0.H,.slice a9 p0.Bits.length aa]) ac ah S1) fun a w S=>?_
 refine sN S fun a S=>?_
 refine lT (ag _ _ (sSeq (fun ay ai=>sRegion (sM S fun a S=>?_))))
 refine sBin _ S (wN d) d d d (bNe _ _ _ _ .i64 ac 0) d (lb d) fun a S=>lT (ai _ _ ?_)
 rcases iS h with ⟨ab,h⟩ | ⟨ab,h⟩
 ·refine sCondT S d ab (sSeq (fun az aj=>sRegion (sBuild [] [iv 0,iv 0,.slice none 0 0] S (wN d) d d d d (lb d) fun a S=>sM S fun a S=>?_)))
  refine sStore (p:=b9) (off:=0) (T:=24) (vs:=[iv 0,iv 0,.slice none 0 0]) (v:=.agg #[iv 0,iv 0,.slice none 0 0]) 0 [iv 0,iv 0,.slice none 0 0] S (wN d) d d d d d d d (by simp) d fun a w S=>sN S fun a S=>?_
  refine lT (aj _ _ ?_)
  obtain rfl:=tS h
  have S:=S.learn (fRep (rL rB) (.slice none 0 0) ([]:(List Bool))) (rL_nil _ _ _)
  have S:=S.learn (fRep r_api_Grid (.agg #[iv 0,iv 0,.slice none 0 0]) (api_Grid.mk 0 0 ([]:(List Bool)))) ⟨_,d,S.mem.know (i:=0) (e:=fRep (rL rB) (.slice none 0 0) ([]:(List Bool))) d⟩
  exact wp_ret (rThen (sRet (.tuple #[.agg #[iv 0,iv 0,.slice none 0 0],iv ac]) S (rsl2 d (rvN (c:=6) (t:=24) (T:=24) (p:=b9) 0 [iv 0,iv 0,.slice none 0 0] S d d d d) (rvT (t:=7) (v:=iv ac) S d)) ⟨(.agg #[iv 0,iv 0,.slice none 0 0]),d,S.mem.sel [] [0] (by decide) d d⟩))
 refine sCondF S d ab (wp_skip (leafT (af _ _ ?_)))
 refine sSeq (fun aA ak=>?_)
 obtain ⟨a5,al,h⟩:=bS h
 obtain ⟨a6,am,h⟩:=bS h
 refine sDraw (nf:=[8,9]) (W:=[(0,15,iv p1),(1,16,.pointer (some ⟨b6,0,none⟩)),(2,17,iv p0.W),(3,18,iv a5),(4,19,iv p2),(5,20,.pointer (some ⟨b6,1,none⟩)),(6,21,iv p0.H),(7,22,iv a6)]) d S ?_
 refine node_by (A:=anc_grid_Shift_0) 10 (by kernel_rfl) (by kernel_rfl) (by kernel_rfl) (by kernel_rfl) (by kernel_rfl) [0,1,2,3,4,5,6,7] (by kernel_rfl) (by decide) (by decide) (fF ?_ (fF ?_ (fF ?_ (fF ?_ (fF ?_ (fF ?_ (fF ?_ (fF ?_ (fN ?_ (aB 9 0 8 (by decide) (trivial))))))))))) [] (fun q hq=>by cases hq) (fun hY=>absurd (hY 8 (by decide)) (by decide))
 ·refine fJ [(4,_)] 0 [none] fun G a w S=>?_
  exact sLoad1 2 (iv p1) S (wN d) d d d d d d (lb d) fun a S=>leafL ⟨d,S⟩
 ·refine fJ [(3,_)] 1 [none] fun G a w S=>?_
  exact sField (b:=b6) (off:=0) 0 0 S (wN d) d d d d d (lb d) fun a S=>leafL ⟨d,S⟩
 ·refine fJ [(16,_)] 2 [some 1] fun G a w S=>?_
  exact sLoad1 3 (iv p0.W) S (wN d) d d d d d d (lb d) fun a S=>leafL ⟨d,S⟩
 ·refine fJ [(15,_),(17,_)] 3 [some 0,some 2] fun G a w S=>?_
  have S1:=S.mem
  refine sCq [iv p1,iv p0.W] (iv a5) S callee63 (S1.quiet [] d) (fun E1 w1 S1=>c_grid_around E1 w1 p1 p0.W a5 al S1) fun a w S=>?_
  exact leafL ⟨d,S⟩
 ·refine fJ [(5,_)] 4 [none] fun G a w S=>?_
  exact sLoad1 1 (iv p2) S (wN d) d d d d d d (lb d) fun a S=>leafL ⟨d,S⟩
 ·refine fJ [(3,_)] 5 [none] fun G a w S=>?_
  exact sField (b:=b6) (off:=0) 1 1 S (wN d) d d d d d (lb d) fun a S=>leafL ⟨d,S⟩
 ·refine fJ [(20,_)] 6 [some 5] fun G a w S=>?_
  exact sLoad1 3 (iv p0.H) S (wN d) d d d d d d (lb d) fun a S=>leafL ⟨d,S⟩
 ·refine fJ [(19,_),(21,_)] 7 [some 4,some 6] fun G a w S=>?_
  have S1:=S.mem
  refine sCq [iv p2,iv p0.H] (iv a6) S callee63 (S1.quiet [] d) (fun E1 w1 S1=>c_grid_around E1 w1 p2 p0.H a6 am S1) fun a w S=>?_
  exact leafL ⟨d,S⟩
 refine ⟨_,[(4,.pointer (some ⟨b7,0,none⟩)),(18,iv a5)],d,(srcs_of [none,some 3] d d d),fun G a w S=>?_⟩
 refine sStore (p:=b7) (off:=0) (T:=3) (vs:=[iv p1]) (v:=iv a5) 2 [iv a5] S (wN d) d d d d d d d (by simp) d fun a w S=>leafL ⟨d,_,_,.inr ⟨[],d,S,hz_of d,?_⟩⟩
 refine node_by (A:=anc_grid_Shift_0) 10 (by kernel_rfl) (by kernel_rfl) (by kernel_rfl) (by kernel_rfl) (by kernel_rfl) [0,1,2,3,4,5,6,7] (by kernel_rfl) (by decide) (by decide) (fD 8 (fD 8 (fD 8 (fD 8 (fD 8 (fD 8 (fD 8 (fD 8 (fY (fN ?_ (trivial))))))))))) [] (fun q hq=>by cases hq) (fun hY=>absurd (hY 9 (by decide)) (by decide))
 refine ⟨_,[(5,.pointer (some ⟨b8,0,none⟩)),(22,iv a6)],d,(srcs_of [none,some 7] d d d),fun G a w S=>?_⟩
 refine sStore (p:=b8) (off:=0) (T:=3) (vs:=[iv p2]) (v:=iv a6) 2 [iv a6] S (wN d) d d d d d d d (by simp) d fun a w S=>leafL ⟨d,_,_,.inr ⟨[],d,S,hz_of d,?_⟩⟩
 refine node_by (A:=anc_grid_Shift_0) 10 (by kernel_rfl) (by kernel_rfl) (by kernel_rfl) (by kernel_rfl) (by kernel_rfl) [0,1,2,3,4,5,6,7] (by kernel_rfl) (by decide) (by decide) (fD 9 (fD 9 (fD 9 (fD 9 (fD 9 (fD 9 (fD 9 (fD 9 (fY (fY (trivial))))))))))) [(3,.pointer (some ⟨b6,0,none⟩)),(4,.pointer (some ⟨b7,0,none⟩)),(5,.pointer (some ⟨b8,0,none⟩)),(6,.pointer (some ⟨b9,0,none⟩))] (fin_of [none,none,none,none] d (by kernel_rfl) (by kernel_rfl)) (fun _ a w S=>?_)
 refine leafT (ak _ _ ?_)
 refine sSeq (fun aC ao=>sRegion (sField (b:=b6) (off:=0) 0 0 S (wN d) d d d d d (lb d) fun a S=>sLoad1 3 (iv p0.W) S (wN d) d d d d d d (lb d) fun a S=>sField (b:=b6) (off:=0) 1 1 S (wN d) d d d d d (lb d) fun a S=>sLoad1 3 (iv p0.H) S (wN d) d d d d d d (lb d) fun a S=>sFunc (g:=65) (vs:=[.pointer (some ⟨b6,0,none⟩),.pointer (some ⟨b8,0,none⟩),.pointer (some ⟨b7,0,none⟩)]) S (wN d) d d d (lb d) fun a S=>?_))
 obtain ⟨a0,ap,h⟩:=bS h
 have S:=S.shutB (r:=r_api_Grid) (T:=24) (b:=b6) (cs:=[iv p0.W,iv p0.H,.slice a9 p0.Bits.length aa]) 3 (.agg #[iv p0.W,iv p0.H,.slice a9 p0.Bits.length aa]) p0 d d (S.mem.know (i:=1) (e:=fRep r_api_Grid (.agg #[iv p0.W,iv p0.H,.slice a9 p0.Bits.length aa]) p0) d)
 have S:=S.shutB (r:=(rI .i64)) (T:=3) (b:=b8) (cs:=[iv a6]) 0 (iv a6) a6 d d (d)
 have S:=S.shutB (r:=(rI .i64)) (T:=3) (b:=b7) (cs:=[iv a5]) 0 (iv a5) a5 d d (d)
 refine sCall (X:=Value) (f:=64) (vs:=[iv p0.W,iv p0.H,.func (.func 65) #[] #[.pointer (some ⟨b6,0,none⟩),.pointer (some ⟨b8,0,none⟩),.pointer (some ⟨b7,0,none⟩)]]) (val:=c_grid_build_s0_val a0) (B':=fun _=>[]) (D':=c_grid_build_s0_D a0) [] [eBox b9 24 [iv 0,iv 0,.slice none 0 0]] [fPtr r_api_Grid (.pointer (some ⟨b6,0,none⟩)) p0,fPtr (rI .i64) (.pointer (some ⟨b8,0,none⟩)) a6,fPtr (rI .i64) (.pointer (some ⟨b7,0,none⟩)) a5] [0] [2,1,0] S (wN d) d callee64 d (by decide) d d (fun E1 w1 S1=>c_grid_build_s0 E1 w1 p0.W p0.H p0 (.pointer (some ⟨b6,0,none⟩)) a6 (.pointer (some ⟨b8,0,none⟩)) a5 (.pointer (some ⟨b7,0,none⟩)) a0 ap S1) d (lb d) fun au a w S=>?_
 obtain ⟨av,rfl,ae⟩:=S.mem.know (i:=0) (e:=fRep r_api_Grid (au) a0) d
 have S:=S.learn (fRep (rL rB) av a0.Bits) ae
 obtain ⟨a7,a8,_,rfl,_⟩:=ae
 refine sStore (p:=b9) (off:=0) (T:=24) (vs:=[iv 0,iv 0,.slice none 0 0]) (v:=.agg #[iv a0.W,iv a0.H,.slice a7 a0.Bits.length a8]) 0 [iv a0.W,iv a0.H,.slice a7 a0.Bits.length a8] S (wN d) d d d d d d d (by simp) d fun a w S=>sN S fun a S=>?_
 refine lT (ao _ _ ?_)
 obtain rfl:=tS h
 exact wp_ret (sRet (.tuple #[.agg #[iv a0.W,iv a0.H,.slice a7 a0.Bits.length a8],iv 0]) S (rsl2 d (rvN (c:=6) (t:=24) (T:=24) (p:=b9) 0 [iv a0.W,iv a0.H,.slice a7 a0.Bits.length a8] S d d d d) (rvT (t:=7) (v:=iv 0) S d)) ⟨(.agg #[iv a0.W,iv a0.H,.slice a7 a0.Bits.length a8]),d,S.mem.sel [] [1] (by decide) d d⟩)
noncomputable def compare_ways_1_l1 {σ τ:Type} (p1:api_Grid) (a6:(api_Grid × Int)) (a5:Int) (B:σ→(compare_way × api_Grid)→Option (σ ⊕ τ)) (s6:Int):(Int × σ)→Option ((Int × σ) ⊕ ((σ ⊕ τ) ⊕ (σ))):=fun s0=>match s0 with
 | (a0,gz54)=>
  if decide (a0 < p1.W) then
   (F_grid_Shift a6.1 a0 a5).bind fun a7=>
   (B gz54 ((compare_way.mk s6 (api_Point.mk a0 a5)),a7.1)).bind fun a8=>
   match a8 with
   | .inl gz82=>
    some (.inl (w64 (a0 + 1),gz82))
   | .inr tz83=>
    some (.inr (.inl (.inr tz83)))
  else
   some (.inr (.inr gz54))
noncomputable def compare_ways_1_l2 {σ τ:Type} (p1:api_Grid) (a5:(api_Grid × Int)) (B:σ→(compare_way × api_Grid)→Option (σ ⊕ τ)) (s6:Int):(Int × σ)→Option ((Int × σ) ⊕ ((σ ⊕ τ) ⊕ (σ))):=fun s0=>match s0 with
 | (a0,gz37)=>
  if decide (a0 < p1.H) then
   Option.bind (α:=σ ⊕ (σ ⊕ τ)) (
    (whileO (compare_ways_1_l1 p1 a5 a0 B s6) (0,gz37)).bind fun z0=>match z0 with
     | .inl z=>
      some (.inr z)
     | .inr gz58=>
      some (.inl gz58)) fun z0=>match z0 with
    | .inl gz45=>
     some (.inl (w64 (a0 + 1),gz45))
    | .inr z=>
     some (.inr (.inl z))
  else
   some (.inr (.inr gz37))
noncomputable def compare_ways_1_l3 {σ τ:Type} (x3:Int) (p1:api_Grid) (B:σ→(compare_way × api_Grid)→Option (σ ⊕ τ)):(Int × σ)→Option ((Int × σ) ⊕ ((σ ⊕ τ) ⊕ (σ))):=fun s0=>match s0 with
 | (s6,gz7)=>
  if decide (s6 ≤ x3) then
   Option.bind (α:=σ ⊕ (σ ⊕ τ)) (
    (F_symmetry_Apply p1 s6).bind fun a0=>
    (whileO (compare_ways_1_l2 p1 a0 B s6) (0,gz7)).bind fun z0=>match z0 with
     | .inl z=>
      some (.inr z)
     | .inr gz41=>
      some (.inl gz41)) fun z0=>match z0 with
    | .inl gz15=>
     some (.inl (w64 (s6 + 1),gz15))
    | .inr z=>
     some (.inr (.inl z))
  else
   some (.inr (.inr gz7))
noncomputable def I_compare_ways_1 (p0:Int) (p1:api_Grid) (σ τ:Type) (B:σ→(compare_way × api_Grid)→Option (σ ⊕ τ)) (gz0:σ):Option (σ ⊕ τ):=
 (idxO ([0,3,7,15]:List Int) p0).bind fun x3=>
 (whileO (compare_ways_1_l3 x3 p1 B) (0,gz0)).bind fun z0=>match z0 with
  | .inl z=>
   some z
  | .inr gz11=>
   some (.inl gz11)
theorem it_compare_ways_1 (p0:Int) (v0:Value) (p1:api_Grid) (v1:Value):SeqF Try.prog 81 #[v0,v1] (fA2 r_compare_way r_api_Grid) (I_compare_ways_1 p0 p1) [fPtr (rI .i64) (v0) p0,fPtr r_api_Grid (v1) p1]:=by
 refine seqF_of (lb:=[v0,v1]) (fun σ τ B gz0 r h l J Jx E w0 hC S hJ=>?_)
 unfold I_compare_ways_1 at h
 refine sEnterI (args:=[.func (.yield l) #[] #[],v0,v1]) 54 Try.func81 d d (by simp) S (fun a S=>?_)
 refine sSeq (fun K1 bf=>sRegion (sBuild [(0,iv 0),(1,iv 3),(2,iv 7),(3,iv 15)] [iv 0,iv 3,iv 7,iv 15] S (wN d) d d d d (lb d) fun a S=>?_))
 obtain ⟨u2,S⟩:=pLoad (r:=(rI .i64)) (q:=v0) (x:=p0) 0 S d
 obtain rfl:u2=iv p0:=S.mem.know (i:=1) (e:=fRep (rI .i64) (u2) p0) d
 refine sLoadV1 (vq:=v0) 0 (iv p0) S (wN d) d d d d d (lb d) fun a S=>?_
 obtain ⟨x3,bg,h⟩:=bS h
 refine sIndexA (g:=fun z=>.int .i64 z) (xs:=([0,3,7,15]:List Int)) (j:=p0) (k:=.i64) 4 [iv 0,iv 3,iv 7,iv 15] S (wN d) d Try.underlying129 d d d d d d bg d (lb d) fun a S=>sN S fun a S=>?_
 refine lT (bf _ _ (sSeq (fun K5 bh=>sRegion (sN S fun a S=>?_))))
 refine lT (bh _ _ (wp_block ?_))
 obtain ⟨bv,hl,g9⟩:=bS h
 refine sLoop hl (fun s0 a w=>match s0 with | (s6,gz7)=>∃ E w0,J gz7 E w0∧St [] E [] w0 54 a w [(0,.func (.yield l) #[] #[]),(2,v1),(4,iv x3),(5,iv s6)] [] [fPtr r_api_Grid (v1) p1]) ⟨_,_,hJ,S.fix [] [3] (by decide) d d d⟩ ?_
 clear hl h
 intro s0 a w c0 hI h aT
 obtain ⟨s6,gz7⟩:=s0
 unfold compare_ways_1_l3 at h
 dsimp only at h hI
 obtain ⟨E,w0,hJ,S⟩:=hI
 refine sSeq (fun bw av=>sSeq (fun bx aw=>sRegion (sM S fun a S=>?_)))
 refine sM S fun a S=>?_
 refine sBin _ S (wN d) d d d (bLe _ _ _ _ .i64 s6 x3) d (lb d) fun a S=>lT (aw _ _ ?_)
 rcases iS h with ⟨ai,h⟩ | ⟨ai,h⟩
 rotate_left
 ·refine sCondF S d ai ?_
  obtain rfl:=tS h
  obtain rfl:=aT _ d
  have h:=g9
  try dsimp only at h
  exact wp_exit (xThen (xThen (xHit (sEnd (.tuple #[]) S (res0 d) (sGoI S hC hJ (Option.some.inj h) _)))))
 refine sCondT S d ai (wp_skip (leafT (av _ _ ?_)))
 obtain ⟨bi,h,aU⟩:=bS h
 refine sCut (fun a w=>∃ gz15,.inl gz15=bi∧∃ E w0,J gz15 E w0∧St [] E [] w0 54 a w [(0,.func (.yield l) #[] #[]),(2,v1),(4,iv x3),(5,iv s6)] [] [fPtr r_api_Grid (v1) p1]) ?_ (fun a w hI=>?_)
 rotate_left
 ·obtain ⟨gz15,rfl,E,w0,hJ,S⟩:=hI
  have h:=aU
  try dsimp only at h
  refine sRegion (sM S fun a S=>?_)
  refine sBin _ S (wN d) d d d (bAdd _ _ _ _ s6 1) d (lb d) fun a S=>sN S fun a S=>?_
  exact lT (⟨(w64 (s6 + 1),gz15),(Option.some.inj h).symm,⟨_,_,hJ,S.fix [] [0] (by decide) d d d⟩⟩)
 refine wp_block ?_
 refine sSeq (fun bz ax=>sRegion ?_)
 obtain ⟨bj,S⟩:=pLoad (r:=r_api_Grid) (q:=v1) (x:=p1) 0 S d
 obtain ⟨bk,rfl,al⟩:=S.mem.know (i:=1) (e:=fRep r_api_Grid (bj) p1) d
 have S:=S.learn (fRep (rL rB) bk p1.Bits) al
 obtain ⟨ae,af,_,rfl,_⟩:=al
 refine sLoadVN (vq:=v1) 1 [iv p1.W,iv p1.H,.slice ae p1.Bits.length af] S (wN d) d d d d d d (lb d) fun a S=>sM S fun a S=>?_
 obtain ⟨a0,ay,h⟩:=bS h
 refine sCall (X:=Value) (f:=33) (vs:=[.agg #[iv p1.W,iv p1.H,.slice ae p1.Bits.length af],iv s6]) (val:=c_symmetry_Apply_val a0) (B':=fun _=>[]) (D':=c_symmetry_Apply_D a0) [] [] [fRep r_api_Grid (.agg #[iv p1.W,iv p1.H,.slice ae p1.Bits.length af]) p1] [] [2] S (wN d) d callee33 d (by decide) d d (fun E1 w1 S1=>c_symmetry_Apply E1 w1 p1 (.agg #[iv p1.W,iv p1.H,.slice ae p1.Bits.length af]) s6 a0 ay S1) d (lb d) fun bl a w S=>?_
 obtain ⟨bm,rfl,am⟩:=S.mem.know (i:=0) (e:=fRep r_api_Grid (bl) a0.1) d
 have S:=S.learn (fRep (rL rB) bm a0.1.Bits) am
 obtain ⟨a9,aa,_,rfl,_⟩:=am
 refine sM S fun a S=>?_
 refine sExtract (vs:=[.agg #[iv a0.1.W,iv a0.1.H,.slice a9 a0.1.Bits.length aa],iv a0.2]) (.agg #[iv a0.1.W,iv a0.1.H,.slice a9 a0.1.Bits.length aa]) S (wN d) d d d d (lb d) fun a S=>sExtract (vs:=[.agg #[iv a0.1.W,iv a0.1.H,.slice a9 a0.1.Bits.length aa],iv a0.2]) (iv a0.2) S (wN d) d d d d (lb d) fun a S=>sAlloc (.agg #[iv 0,iv 0,.slice none 0 0]) S (wN d) d d [iv 0,iv 0,.slice none 0 0] d d (lb d) fun a ac w S=>sStore (p:=ac) (off:=0) (T:=24) (vs:=[iv 0,iv 0,.slice none 0 0]) (v:=.agg #[iv a0.1.W,iv a0.1.H,.slice a9 a0.1.Bits.length aa]) 0 [iv a0.1.W,iv a0.1.H,.slice a9 a0.1.Bits.length aa] S (wN d) d d d d d d d (by simp) d fun a w S=>sN S fun a S=>?_
 refine lT (ax _ _ (sSeq (fun bA az=>sRegion ?_)))
 obtain ⟨aV,aA,S⟩:=pFld (P:=Try.prog) (r:=r_api_Grid) (s2:=(rI .i64)) (g:=(·.H)) (q:=v1) (z:=p1) 24 1 5 1 S d d comp_api_Grid_H
 refine sFldV (q:=v1) S (wN d) d d aA d (lb d) fun a S=>?_
 obtain ⟨aW,S⟩:=pLoad (r:=(rI .i64)) (q:=aV) (x:=p1.H) 0 S d
 obtain rfl:aW=iv p1.H:=S.mem.know (i:=1) (e:=fRep (rI .i64) (aW) p1.H) d
 refine sLoadV1 (vq:=aV) 0 (iv p1.H) S (wN d) d d d d d (lb d) fun a S=>sM S fun a S=>?_
 refine lT (az _ _ (wp_block ?_))
 have S:=S.shutB (r:=r_api_Grid) (T:=24) (b:=ac) (cs:=[iv a0.1.W,iv a0.1.H,.slice a9 a0.1.Bits.length aa]) 0 (.agg #[iv a0.1.W,iv a0.1.H,.slice a9 a0.1.Bits.length aa]) a0.1 d d (S.mem.know (i:=4) (e:=fRep r_api_Grid (.agg #[iv a0.1.W,iv a0.1.H,.slice a9 a0.1.Bits.length aa]) a0.1) d)
 obtain ⟨bB,hl,aX⟩:=bS h
 refine sLoop hl (fun s0 a w=>match s0 with | (a8,gz37)=>∃ E w0,J gz37 E w0∧St [] E [] w0 54 a w [(0,.func (.yield l) #[] #[]),(2,v1),(4,iv x3),(5,iv s6),(6,.pointer (some ⟨ac,0,none⟩)),(27,iv p1.H),(28,iv a8)] [] [fPtr r_api_Grid (v1) p1,fPtr r_api_Grid (.pointer (some ⟨ac,0,none⟩)) a0.1]) ⟨_,_,hJ,S.fix [] [9,0] (by decide) d d d⟩ ?_
 clear hl h
 intro s0 a w c0 hI h ao
 obtain ⟨a8,gz37⟩:=s0
 unfold compare_ways_1_l2 at h
 dsimp only at h hI
 obtain ⟨E,w0,hJ,S⟩:=hI
 refine sSeq (fun bC aC=>sRegion (sBin _ S (wN d) d d d (bLt _ _ _ _ .i64 a8 p1.H) d (lb d) fun a S=>lT (aC _ _ (sSeq (fun bD aG=>?_)))))
 rcases iS h with ⟨aj,h⟩ | ⟨aj,h⟩
 rotate_left
 ·refine sCondF S d aj ?_
  obtain rfl:=tS h
  obtain rfl:=ao _ d
  have h:=aX
  try dsimp only at h
  exact wp_exit (xThen (xThen (xHit (leafB (leafT (⟨gz37,Option.some.inj h,_,_,hJ,S.fix [] [0] (by decide) d d d⟩))))))
 refine sCondT S d aj (wp_skip (leafT (aG _ _ ?_)))
 obtain ⟨bo,h,aZ⟩:=bS h
 refine sCut (fun a w=>∃ gz45,.inl gz45=bo∧∃ E w0,J gz45 E w0∧St [] E [] w0 54 a w [(0,.func (.yield l) #[] #[]),(2,v1),(4,iv x3),(5,iv s6),(6,.pointer (some ⟨ac,0,none⟩)),(27,iv p1.H),(28,iv a8)] [] [fPtr r_api_Grid (v1) p1,fPtr r_api_Grid (.pointer (some ⟨ac,0,none⟩)) a0.1]) ?_ (fun a w hI=>?_)
 rotate_left
 ·obtain ⟨gz45,rfl,E,w0,hJ,S⟩:=hI
  have h:=aZ
  try dsimp only at h
  refine sRegion (sBin _ S (wN d) d d d (bAdd _ _ _ _ a8 1) d (lb d) fun a S=>sM S fun a S=>?_)
  exact lT (⟨(w64 (a8 + 1),gz45),(Option.some.inj h).symm,⟨_,_,hJ,S.fix [] [0,1] (by decide) d d d⟩⟩)
 refine wp_block ?_
 refine sSeq (fun bE aH=>sRegion (sM S fun a S=>?_))
 refine sN S fun a S=>?_
 refine lT (aH _ _ (sSeq (fun bG aI=>sRegion ?_)))
 obtain ⟨ba,aJ,S⟩:=pFld (P:=Try.prog) (r:=r_api_Grid) (s2:=(rI .i64)) (g:=(·.W)) (q:=v1) (z:=p1) 24 0 0 0 S d d comp_api_Grid_W
 refine sFldV (q:=v1) S (wN d) d d aJ d (lb d) fun a S=>?_
 obtain ⟨bb,S⟩:=pLoad (r:=(rI .i64)) (q:=ba) (x:=p1.W) 0 S d
 obtain rfl:bb=iv p1.W:=S.mem.know (i:=1) (e:=fRep (rI .i64) (bb) p1.W) d
 refine sLoadV1 (vq:=ba) 0 (iv p1.W) S (wN d) d d d d d (lb d) fun a S=>sM S fun a S=>?_
 refine lT (aI _ _ (wp_block ?_))
 obtain ⟨bH,hl,bc⟩:=bS h
 refine sLoop hl (fun s0 a w=>match s0 with | (ab,gz54)=>∃ E w0,J gz54 E w0∧St [] E [] w0 54 a w [(0,.func (.yield l) #[] #[]),(2,v1),(4,iv x3),(5,iv s6),(6,.pointer (some ⟨ac,0,none⟩)),(8,iv a8),(27,iv p1.H),(28,iv a8),(32,iv p1.W),(33,iv ab)] [] [fPtr r_api_Grid (v1) p1,fPtr r_api_Grid (.pointer (some ⟨ac,0,none⟩)) a0.1]) ⟨_,_,hJ,S.fix [] [3,4] (by decide) d d d⟩ ?_
 clear hl h
 intro s0 a w c0 hI h ap
 obtain ⟨ab,gz54⟩:=s0
 unfold compare_ways_1_l1 at h
 dsimp only at h hI
 obtain ⟨E,w0,hJ,S⟩:=hI
 refine sSeq (fun bI aK=>sRegion (sBin _ S (wN d) d d d (bLt _ _ _ _ .i64 ab p1.W) d (lb d) fun a S=>lT (aK _ _ (sSeq (fun bJ aL=>?_)))))
 rcases iS h with ⟨ak,h⟩ | ⟨ak,h⟩
 rotate_left
 ·refine sCondF S d ak ?_
  obtain rfl:=tS h
  obtain rfl:=ap _ d
  have h:=bc
  try dsimp only at h
  exact wp_exit (xThen (xThen (xHit (leafB (leafT (⟨gz54,Option.some.inj h,_,_,hJ,S.fix [] [0,1] (by decide) d d d⟩))))))
 refine sCondT S d ak (wp_skip (leafT (aL _ _ ?_)))
 refine sSeq (fun bK aM=>wp_block ?_)
 refine sSeq (fun bL aO=>sRegion (sM S fun a S=>?_))
 refine sN S fun a S=>?_
 refine lT (aO _ _ (sSeq (fun bM aP=>sRegion ?_)))
 obtain ⟨bp,S⟩:=pLoad (r:=r_api_Grid) (q:=.pointer (some ⟨ac,0,none⟩)) (x:=a0.1) 1 S d
 obtain ⟨bq,rfl,aq⟩:=S.mem.know (i:=1) (e:=fRep r_api_Grid (bp) a0.1) d
 have S:=S.learn (fRep (rL rB) bq a0.1.Bits) aq
 obtain ⟨ag,ah,_,rfl,_⟩:=aq
 refine sLoadVN (vq:=.pointer (some ⟨ac,0,none⟩)) 1 [iv a0.1.W,iv a0.1.H,.slice ag a0.1.Bits.length ah] S (wN d) d d d d d d (lb d) fun a S=>sM S fun a S=>?_
 refine sM S fun a S=>?_
 obtain ⟨a5,aQ,h⟩:=bS h
 refine sCall (X:=Value) (f:=34) (vs:=[.agg #[iv a0.1.W,iv a0.1.H,.slice ag a0.1.Bits.length ah],iv ab,iv a8]) (val:=c_grid_Shift_val a5) (B':=fun _=>[]) (D':=c_grid_Shift_D a5) [] [] [fRep r_api_Grid (.agg #[iv a0.1.W,iv a0.1.H,.slice ag a0.1.Bits.length ah]) a0.1] [] [2] S (wN d) d callee34 d (by decide) d d (fun E1 w1 S1=>c_grid_Shift E1 w1 a0.1 (.agg #[iv a0.1.W,iv a0.1.H,.slice ag a0.1.Bits.length ah]) ab a8 a5 aQ S1) d (lb d) fun br a w S=>?_
 obtain ⟨bu,rfl,ar⟩:=S.mem.know (i:=0) (e:=fRep r_api_Grid (br) a5.1) d
 have S:=S.learn (fRep (rL rB) bu a5.1.Bits) ar
 obtain ⟨a6,a7,_,rfl,_⟩:=ar
 refine sM S fun a S=>?_
 refine sExtract (vs:=[.agg #[iv a5.1.W,iv a5.1.H,.slice a6 a5.1.Bits.length a7],iv a5.2]) (.agg #[iv a5.1.W,iv a5.1.H,.slice a6 a5.1.Bits.length a7]) S (wN d) d d d d (lb d) fun a S=>sExtract (vs:=[.agg #[iv a5.1.W,iv a5.1.H,.slice a6 a5.1.Bits.length a7],iv a5.2]) (iv a5.2) S (wN d) d d d d (lb d) fun a S=>sAlloc (.agg #[iv 0,iv 0,.slice none 0 0]) S (wN d) d d [iv 0,iv 0,.slice none 0 0] d d (lb d) fun a aR w S=>sStore (p:=aR) (off:=0) (T:=24) (vs:=[iv 0,iv 0,.slice none 0 0]) (v:=.agg #[iv a5.1.W,iv a5.1.H,.slice a6 a5.1.Bits.length a7]) 0 [iv a5.1.W,iv a5.1.H,.slice a6 a5.1.Bits.length a7] S (wN d) d d d d d d d (by simp) d fun a w S=>sN S fun a S=>?_
 refine lT (aP _ _ (sSeq (fun bN au=>sRegionY ?_)))
 refine sSplitR (by repeat (first | exact roundU_out | exact it_out | exact lo_false | refine lo_then ?_ | refine lo_block ?_)) 7 d (fun bO aS=>?_)
 refine sM S fun a S=>?_
 refine sM S fun a S=>?_
 refine sM S fun a S=>?_
 refine sM S fun a S=>?_
 refine sBuild [(0,iv ab),(1,iv a8)] [iv ab,iv a8] S (wN d) d d d d (lb d) fun a S=>sBuild [(0,iv s6),(1,.agg #[iv ab,iv a8])] [iv s6,iv ab,iv a8] S (wN d) d d d d (lb d) fun a S=>sLoadN (p:=aR) (off:=0) (T:=24) (vs:=[iv a5.1.W,iv a5.1.H,.slice a6 a5.1.Bits.length a7]) 0 [iv a5.1.W,iv a5.1.H,.slice a6 a5.1.Bits.length a7] S (wN d) d d d d d d d (lb d) fun a S=>leafL ⟨d,aS _ _ ?_⟩
 have S:=S.shutB (r:=r_api_Grid) (T:=24) (b:=aR) (cs:=[iv a5.1.W,iv a5.1.H,.slice a6 a5.1.Bits.length a7]) 0 (.agg #[iv a5.1.W,iv a5.1.H,.slice a6 a5.1.Bits.length a7]) a5.1 d d (S.mem.know (i:=1) (e:=fRep r_api_Grid (.agg #[iv a5.1.W,iv a5.1.H,.slice a6 a5.1.Bits.length a7]) a5.1) d)
 have S:=S.learn (fRep r_compare_way (.agg #[iv s6,iv ab,iv a8]) (compare_way.mk s6 (api_Point.mk ab a8))) d
 obtain ⟨bP,hy81,h⟩:=bS h
 refine sYieldI ((compare_way.mk s6 (api_Point.mk ab a8)),a5.1) [.agg #[iv s6,iv ab,iv a8],.agg #[iv a5.1.W,iv a5.1.H,.slice a6 a5.1.Bits.length a7]] S hC hJ hy81 (fA2_mk (S.mem.know (i:=0) (e:=fRep r_compare_way (.agg #[iv s6,iv ab,iv a8]) (compare_way.mk s6 (api_Point.mk ab a8))) d) (S.mem.know (i:=3) (e:=fRep r_api_Grid (.agg #[iv a5.1.W,iv a5.1.H,.slice a6 a5.1.Bits.length a7]) a5.1) d)) (wN d) d d d d (by decide) (fun gz82 E a w hb hJ S=>?_) (fun tz83 a w hb hJ S=>?_)
 ·obtain rfl:=hb
  dsimp only at h
  refine list_inR (by repeat (first | exact roundU_out | exact it_out | exact lo_false | refine lo_then ?_ | refine lo_block ?_)) _ d _ _ ?_
  refine sNot (b:=true) S (wN d) d d d (lb d) fun a S=>lT (au _ _ (sCondF S d d (wp_skip (leafB (leafT (aM _ _ ?_))))))
  refine sRegion (sBin _ S (wN d) d d d (bAdd _ _ _ _ ab 1) d (lb d) fun a S=>sM S fun a S=>?_)
  exact lT (⟨(w64 (ab + 1),gz82),(Option.some.inj h).symm,⟨_,_,hJ,S.fix [] [7,8] (by decide) d d d⟩⟩)
 ·obtain rfl:=hb
  dsimp only at h
  refine list_inR (by repeat (first | exact roundU_out | exact it_out | exact lo_false | refine lo_then ?_ | refine lo_block ?_)) _ d _ _ ?_
  refine sNot (b:=false) S (wN d) d d d (lb d) fun a S=>lT (au _ _ (sCondT S d d ?_))
  obtain rfl:=tS h
  obtain rfl:=ap _ d
  have h:=bc
  try dsimp only at h
  obtain rfl:=tS h
  have h:=aZ
  try dsimp only at h
  obtain rfl:=tS h
  obtain rfl:=ao _ d
  have h:=aX
  try dsimp only at h
  obtain rfl:=tS h
  have h:=aU
  try dsimp only at h
  obtain rfl:=tS h
  obtain rfl:=aT _ d
  have h:=g9
  try dsimp only at h
  exact wp_ret (rBlock (rThen (rThen (rBlock (rBlock (rThen (rThen (rBlock (rBlock (rThen (rThen (rBlock (sRet (.tuple #[]) S (res0 d) (sStopI S hC hJ (Option.some.inj h) _))))))))))))))
end Go.Proofs.Ytffikfajljbmnaa
