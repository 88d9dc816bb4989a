/- TopShape: walks, tables, laws. -/
import Derived.Test.YtnfjcalmangncaaProg
import Derived.Test.YtnfjcalmangncaaRows
import Derived.Test.YtnfjcalmangncaaMTopShape1
set_option linter.unusedVariables false
set_option linter.unusedSimpArgs false
set_option maxHeartbeats 4000000
set_option maxRecDepth 100000
namespace Go.Proofs.Ytnfjcalmangncaa
open Go.RowKit
structure api_Gauge where
 Stitches:Int
 Width:Int
 Rows:Int
 Height:Int
def r_api_Gauge:R api_Gauge where
 sz:=4
 rep:=fun E w v x=>v=.agg #[.int .i64 x.Stitches,.int .i64 x.Width,.int .i64 x.Rows,.int .i64 x.Height]
 pos:=by decide
 size:=by rintro _ _ _ _ rfl; rfl
 one:=by
  rintro _ _ _ _ rfl u hu
  simp [Value.cells] at hu
  rcases hu with rfl | rfl | rfl | rfl
  ·rfl
  ·rfl
  ·rfl
  ·rfl
 mono:=fun _ h=>h
theorem aggr_api_Gauge:Aggr r_api_Gauge:=by rintro _ _ _ _ rfl; exact ⟨_,rfl⟩
structure api_Point where
 X:Int
 Y:Int
def r_api_Point:R api_Point where
 sz:=2
 rep:=fun E w v x=>v=.agg #[.int .i64 x.X,.int .i64 x.Y]
 pos:=by decide
 size:=by rintro _ _ _ _ rfl; rfl
 one:=by
  rintro _ _ _ _ rfl u hu
  simp [Value.cells] at hu
  rcases hu with rfl | rfl
  ·rfl
  ·rfl
 mono:=fun _ h=>h
theorem comp_api_Point_X:Comp r_api_Point (rI .i64) 0 (·.X):=by
 rintro _ _ _ x rfl
 refine ⟨.int .i64 x.X,rfl,fun j c hj=>?_⟩
 match j,hj with
 | 0,hj=>exact hj
 | j + 1,hj=>exact absurd (List.getElem?_eq_some_iff.1 hj).1 (by simp [Value.cells])
theorem comp_api_Point_Y:Comp r_api_Point (rI .i64) 1 (·.Y):=by
 rintro _ _ _ x rfl
 refine ⟨.int .i64 x.Y,rfl,fun j c hj=>?_⟩
 match j,hj with
 | 0,hj=>exact hj
 | j + 1,hj=>exact absurd (List.getElem?_eq_some_iff.1 hj).1 (by simp [Value.cells])
structure gauge_ratio where
 num:Int
 den:Int
def r_gauge_ratio:R gauge_ratio where
 sz:=2
 rep:=fun E w v x=>v=.agg #[.int .i64 x.num,.int .i64 x.den]
 pos:=by decide
 size:=by rintro _ _ _ _ rfl; rfl
 one:=by
  rintro _ _ _ _ rfl u hu
  simp [Value.cells] at hu
  rcases hu with rfl | rfl
  ·rfl
  ·rfl
 mono:=fun _ h=>h
structure api_Shape where
 Left:(List api_Point)
 Right:(List api_Point)
def r_api_Shape:R api_Shape where
 sz:=2
 rep:=fun E w v x=>∃ v0 v1,v=.agg #[v0,v1]∧(rL r_api_Point).rep E w v0 x.Left∧(rL r_api_Point).rep E w v1 x.Right
 pos:=by decide
 size:=by rintro _ _ _ _ ⟨v0,v1,rfl,h0,h1⟩; rfl
 one:=by
  rintro _ _ _ _ ⟨v0,v1,rfl,h0,h1⟩ u hu
  simp [Value.cells] at hu
  rcases hu with rfl | rfl
  ·exact (rL r_api_Point).one h0 _ (by rw [scal_L _ _ _ _ _ h0]; simp)
  ·exact (rL r_api_Point).one h1 _ (by rw [scal_L _ _ _ _ _ h1]; simp)
 mono:=by
  rintro _ _ _ _ _ _ h ⟨v0,v1,e,h0,h1⟩
  exact ⟨v0,v1,e,(rL r_api_Point).mono h h0,(rL r_api_Point).mono h h1⟩
structure api_Piece where
 Left:(List Int)
 Right:(List Int)
def r_api_Piece:R api_Piece where
 sz:=2
 rep:=fun E w v x=>∃ v0 v1,v=.agg #[v0,v1]∧(rL (rI .i64)).rep E w v0 x.Left∧(rL (rI .i64)).rep E w v1 x.Right
 pos:=by decide
 size:=by rintro _ _ _ _ ⟨v0,v1,rfl,h0,h1⟩; rfl
 one:=by
  rintro _ _ _ _ ⟨v0,v1,rfl,h0,h1⟩ u hu
  simp [Value.cells] at hu
  rcases hu with rfl | rfl
  ·exact (rL (rI .i64)).one h0 _ (by rw [scal_L _ _ _ _ _ h0]; simp)
  ·exact (rL (rI .i64)).one h1 _ (by rw [scal_L _ _ _ _ _ h1]; simp)
 mono:=by
  rintro _ _ _ _ _ _ h ⟨v0,v1,e,h0,h1⟩
  exact ⟨v0,v1,e,(rL (rI .i64)).mono h h0,(rL (rI .i64)).mono h h1⟩
structure api_Stitch where
 Kind:Int
 Purl:Bool
 A:Int
 B:Int
def r_api_Stitch:R api_Stitch where
 sz:=4
 rep:=fun E w v x=>v=.agg #[.int .u8 x.Kind,.bool x.Purl,.int .i64 x.A,.int .i64 x.B]
 pos:=by decide
 size:=by rintro _ _ _ _ rfl; rfl
 one:=by
  rintro _ _ _ _ rfl u hu
  simp [Value.cells] at hu
  rcases hu with rfl | rfl | rfl | rfl
  ·rfl
  ·rfl
  ·rfl
  ·rfl
 mono:=fun _ h=>h
theorem comp_api_Stitch_Kind:Comp r_api_Stitch (rI .u8) 0 (·.Kind):=by
 rintro _ _ _ x rfl
 refine ⟨.int .u8 x.Kind,rfl,fun j c hj=>?_⟩
 match j,hj with
 | 0,hj=>exact hj
 | j + 1,hj=>exact absurd (List.getElem?_eq_some_iff.1 hj).1 (by simp [Value.cells])
structure api_Row where
 Back:Bool
 Cells:(List api_Stitch)
def r_api_Row:R api_Row where
 sz:=2
 rep:=fun E w v x=>∃ v0,v=.agg #[.bool x.Back,v0]∧(rL r_api_Stitch).rep E w v0 x.Cells
 pos:=by decide
 size:=by rintro _ _ _ _ ⟨v0,rfl,h0⟩; rfl
 one:=by
  rintro _ _ _ _ ⟨v0,rfl,h0⟩ u hu
  simp [Value.cells] at hu
  rcases hu with rfl | rfl
  ·rfl
  ·exact (rL r_api_Stitch).one h0 _ (by rw [scal_L _ _ _ _ _ h0]; simp)
 mono:=by
  rintro _ _ _ _ _ _ h ⟨v0,e,h0⟩
  exact ⟨v0,e,(rL r_api_Stitch).mono h h0⟩
theorem comp_api_Row_Back:Comp r_api_Row rB 0 (·.Back):=by
 rintro _ _ _ x ⟨v0,rfl,h0⟩
 refine ⟨.bool x.Back,rfl,fun j c hj=>?_⟩
 match j,hj with
 | 0,hj=>exact hj
 | j + 1,hj=>exact absurd (List.getElem?_eq_some_iff.1 hj).1 (by simp [Value.cells])
theorem comp_api_Row_Cells:Comp r_api_Row (rL r_api_Stitch) 1 (·.Cells):=by
 rintro _ _ _ x ⟨v0,rfl,h0⟩
 refine ⟨v0,h0,fun j c hj=>?_⟩
 rw [scal_L _ _ _ _ _ h0] at hj
 match j,hj with
 | 0,hj=>exact hj
 | j + 1,hj=>exact absurd (List.getElem?_eq_some_iff.1 hj).1 (by simp)
structure api_Chart where
 Start:Int
 Rows:(List api_Row)
def r_api_Chart:R api_Chart where
 sz:=2
 rep:=fun E w v x=>∃ v0,v=.agg #[.int .i64 x.Start,v0]∧(rL r_api_Row).rep E w v0 x.Rows
 pos:=by decide
 size:=by rintro _ _ _ _ ⟨v0,rfl,h0⟩; rfl
 one:=by
  rintro _ _ _ _ ⟨v0,rfl,h0⟩ u hu
  simp [Value.cells] at hu
  rcases hu with rfl | rfl
  ·rfl
  ·exact (rL r_api_Row).one h0 _ (by rw [scal_L _ _ _ _ _ h0]; simp)
 mono:=by
  rintro _ _ _ _ _ _ h ⟨v0,e,h0⟩
  exact ⟨v0,e,(rL r_api_Row).mono h h0⟩
theorem comp_api_Chart_Start:Comp r_api_Chart (rI .i64) 0 (·.Start):=by
 rintro _ _ _ x ⟨v0,rfl,h0⟩
 refine ⟨.int .i64 x.Start,rfl,fun j c hj=>?_⟩
 match j,hj with
 | 0,hj=>exact hj
 | j + 1,hj=>exact absurd (List.getElem?_eq_some_iff.1 hj).1 (by simp [Value.cells])
theorem comp_api_Chart_Rows:Comp r_api_Chart (rL r_api_Row) 1 (·.Rows):=by
 rintro _ _ _ x ⟨v0,rfl,h0⟩
 refine ⟨v0,h0,fun j c hj=>?_⟩
 rw [scal_L _ _ _ _ _ h0] at hj
 match j,hj with
 | 0,hj=>exact hj
 | j + 1,hj=>exact absurd (List.getElem?_eq_some_iff.1 hj).1 (by simp)
structure piece_edge where
 s:api_Stitch
 uses:Int
def r_piece_edge:R piece_edge where
 sz:=5
 rep:=fun E w v x=>v=.agg #[.int .u8 x.s.Kind,.bool x.s.Purl,.int .i64 x.s.A,.int .i64 x.s.B,.int .i64 x.uses]
 pos:=by decide
 size:=by rintro _ _ _ _ rfl; rfl
 one:=by
  rintro _ _ _ _ rfl u hu
  simp [Value.cells] at hu
  rcases hu with rfl | rfl | rfl | rfl | rfl
  ·rfl
  ·rfl
  ·rfl
  ·rfl
  ·rfl
 mono:=fun _ h=>h
def r_A2_Int:R (Int × Int) where
 sz:=2
 rep:=fun E w v x=>v=.agg #[.int .i64 x.1,.int .i64 x.2]
 pos:=by decide
 size:=by rintro _ _ _ _ rfl; rfl
 one:=by
  rintro _ _ _ _ rfl u hu
  simp [Value.cells] at hu
  rcases hu with rfl | rfl
  ·rfl
  ·rfl
 mono:=fun _ h=>h
structure stitch_form where
 letter:ByteArray
 a:(Int × Int)
 b:(Int × Int)
 sided:Bool
 uses:Int
 made:Int
def r_stitch_form:R stitch_form where
 sz:=8
 rep:=fun E w v x=>v=.agg #[.string x.letter,.int .i64 x.a.1,.int .i64 x.a.2,.int .i64 x.b.1,.int .i64 x.b.2,.bool x.sided,.int .i64 x.uses,.int .i64 x.made]
 pos:=by decide
 size:=by rintro _ _ _ _ rfl; rfl
 one:=by
  rintro _ _ _ _ rfl u hu
  simp [Value.cells] at hu
  rcases hu with rfl | rfl | rfl | rfl | rfl | rfl | rfl | rfl
  ·rfl
  ·rfl
  ·rfl
  ·rfl
  ·rfl
  ·rfl
  ·rfl
  ·rfl
 mono:=fun _ h=>h
structure chart_count where
 before:Int
 after:Int
 e:Int
def r_chart_count:R chart_count where
 sz:=3
 rep:=fun E w v x=>v=.agg #[.int .i64 x.before,.int .i64 x.after,.int .i64 x.e]
 pos:=by decide
 size:=by rintro _ _ _ _ rfl; rfl
 one:=by
  rintro _ _ _ _ rfl u hu
  simp [Value.cells] at hu
  rcases hu with rfl | rfl | rfl
  ·rfl
  ·rfl
  ·rfl
 mono:=fun _ h=>h
theorem comp_chart_count_after:Comp r_chart_count (rI .i64) 1 (·.after):=by
 rintro _ _ _ x rfl
 refine ⟨.int .i64 x.after,rfl,fun j c hj=>?_⟩
 match j,hj with
 | 0,hj=>exact hj
 | j + 1,hj=>exact absurd (List.getElem?_eq_some_iff.1 hj).1 (by simp [Value.cells])
theorem comp_chart_count_e:Comp r_chart_count (rI .i64) 2 (·.e):=by
 rintro _ _ _ x rfl
 refine ⟨.int .i64 x.e,rfl,fun j c hj=>?_⟩
 match j,hj with
 | 0,hj=>exact hj
 | j + 1,hj=>exact absurd (List.getElem?_eq_some_iff.1 hj).1 (by simp [Value.cells])
def gl_stitch_form (x:stitch_form):List Value:=[.string x.letter,.int .i64 x.a.1,.int .i64 x.a.2,.int .i64 x.b.1,.int .i64 x.b.2,.bool x.sided,.int .i64 x.uses,.int .i64 x.made]
def gv_stitch_form (x:stitch_form):Value:=.agg (gl_stitch_form x).toArray
theorem upd_api_Row_Cells (x:api_Row) (z:(List api_Stitch)):Upd r_api_Row (rL r_api_Stitch) 1 x z (api_Row.mk x.Back z):=by
 rintro E w _ u ⟨v0,rfl,h0⟩ hz
 refine ⟨.agg #[.bool x.Back,u],⟨u,rfl,hz⟩,?_,by decide⟩
 rw [scal_L _ _ _ _ _ hz]
 rfl
theorem callee4:∀ vs w,(callFunc 4 vs).run Try.prog w=.ok (.enter 4 vs) w:=callee Try.func4 rfl rfl
theorem callee5:∀ vs w,(callFunc 5 vs).run Try.prog w=.ok (.enter 5 vs) w:=callee Try.func5 rfl rfl
theorem callee6:∀ vs w,(callFunc 6 vs).run Try.prog w=.ok (.enter 6 vs) w:=callee Try.func6 rfl rfl
theorem callee7:∀ vs w,(callFunc 7 vs).run Try.prog w=.ok (.enter 7 vs) w:=callee Try.func7 rfl rfl
theorem callee8:∀ vs w,(callFunc 8 vs).run Try.prog w=.ok (.enter 8 vs) w:=callee Try.func8 rfl rfl
theorem callee9:∀ vs w,(callFunc 9 vs).run Try.prog w=.ok (.enter 9 vs) w:=callee Try.func9 rfl rfl
theorem callee10:∀ vs w,(callFunc 10 vs).run Try.prog w=.ok (.enter 10 vs) w:=callee Try.func10 rfl rfl
theorem callee11:∀ vs w,(callFunc 11 vs).run Try.prog w=.ok (.enter 11 vs) w:=callee Try.func11 rfl rfl
theorem callee12:∀ vs w,(callFunc 12 vs).run Try.prog w=.ok (.enter 12 vs) w:=callee Try.func12 rfl rfl
theorem callee13:∀ vs w,(callFunc 13 vs).run Try.prog w=.ok (.enter 13 vs) w:=callee Try.func13 rfl rfl
theorem callee14:∀ vs w,(callFunc 14 vs).run Try.prog w=.ok (.enter 14 vs) w:=callee Try.func14 rfl rfl
theorem callee15:∀ vs w,(callFunc 15 vs).run Try.prog w=.ok (.enter 15 vs) w:=callee Try.func15 rfl rfl
theorem callee16:∀ vs w,(callFunc 16 vs).run Try.prog w=.ok (.enter 16 vs) w:=callee Try.func16 rfl rfl
theorem callee17:∀ vs w,(callFunc 17 vs).run Try.prog w=.ok (.enter 17 vs) w:=callee Try.func17 rfl rfl
theorem callee18:∀ vs w,(callFunc 18 vs).run Try.prog w=.ok (.enter 18 vs) w:=callee Try.func18 rfl rfl
theorem callee19:∀ vs w,(callFunc 19 vs).run Try.prog w=.ok (.enter 19 vs) w:=callee Try.func19 rfl rfl
theorem callee20:∀ vs w,(callFunc 20 vs).run Try.prog w=.ok (.enter 20 vs) w:=callee Try.func20 rfl rfl
theorem callee21:∀ vs w,(callFunc 21 vs).run Try.prog w=.ok (.enter 21 vs) w:=callee Try.func21 rfl rfl
theorem callee22:∀ vs w,(callFunc 22 vs).run Try.prog w=.ok (.enter 22 vs) w:=callee Try.func22 rfl rfl
theorem callee23:∀ vs w,(callFunc 23 vs).run Try.prog w=.ok (.enter 23 vs) w:=callee Try.func23 rfl rfl
theorem callee24:∀ vs w,(callFunc 24 vs).run Try.prog w=.ok (.enter 24 vs) w:=callee Try.func24 rfl rfl
theorem callee25:∀ vs w,(callFunc 25 vs).run Try.prog w=.ok (.enter 25 vs) w:=callee Try.func25 rfl rfl
theorem callee26:∀ vs w,(callFunc 26 vs).run Try.prog w=.ok (.enter 26 vs) w:=callee Try.func26 rfl rfl
theorem callee27:∀ vs w,(callFunc 27 vs).run Try.prog w=.ok (.enter 27 vs) w:=callee Try.func27 rfl rfl
theorem callee28:∀ vs w,(callFunc 28 vs).run Try.prog w=.ok (.enter 28 vs) w:=callee Try.func28 rfl rfl
theorem callee29:∀ vs w,(callFunc 29 vs).run Try.prog w=.ok (.enter 29 vs) w:=callee Try.func29 rfl rfl
theorem callee30:∀ vs w,(callFunc 30 vs).run Try.prog w=.ok (.enter 30 vs) w:=callee Try.func30 rfl rfl
theorem callee31:∀ vs w,(callFunc 31 vs).run Try.prog w=.ok (.enter 31 vs) w:=callee Try.func31 rfl rfl
theorem callee32:∀ vs w,(callFunc 32 vs).run Try.prog w=.ok (.enter 32 vs) w:=callee Try.func32 rfl rfl
theorem callee33:∀ vs w,(callFunc 33 vs).run Try.prog w=.ok (.enter 33 vs) w:=callee Try.func33 rfl rfl
theorem callee34:∀ vs w,(callFunc 34 vs).run Try.prog w=.ok (.enter 34 vs) w:=callee Try.func34 rfl rfl
theorem callee35:∀ vs w,(callFunc 35 vs).run Try.prog w=.ok (.enter 35 vs) w:=callee Try.func35 rfl rfl
theorem callee36:∀ vs w,(callFunc 36 vs).run Try.prog w=.ok (.enter 36 vs) w:=callee Try.func36 rfl rfl
theorem callee37:∀ vs w,(callFunc 37 vs).run Try.prog w=.ok (.enter 37 vs) w:=callee Try.func37 rfl rfl
theorem callee38:∀ vs w,(callFunc 38 vs).run Try.prog w=.ok (.enter 38 vs) w:=callee Try.func38 rfl rfl
theorem callee39:∀ vs w,(callFunc 39 vs).run Try.prog w=.ok (.enter 39 vs) w:=callee Try.func39 rfl rfl
theorem callee40:∀ vs w,(callFunc 40 vs).run Try.prog w=.ok (.enter 40 vs) w:=callee Try.func40 rfl rfl
theorem callee41:∀ vs w,(callFunc 41 vs).run Try.prog w=.ok (.enter 41 vs) w:=callee Try.func41 rfl rfl
theorem callee42:∀ vs w,(callFunc 42 vs).run Try.prog w=.ok (.enter 42 vs) w:=callee Try.func42 rfl rfl
theorem callee43:∀ vs w,(callFunc 43 vs).run Try.prog w=.ok (.enter 43 vs) w:=callee Try.func43 rfl rfl
theorem callee44:∀ vs w,(callFunc 44 vs).run Try.prog w=.ok (.enter 44 vs) w:=callee Try.func44 rfl rfl
theorem callee45:∀ vs w,(callFunc 45 vs).run Try.prog w=.ok (.enter 45 vs) w:=callee Try.func45 rfl rfl
theorem callee46:∀ vs w,(callFunc 46 vs).run Try.prog w=.ok (.enter 46 vs) w:=callee Try.func46 rfl rfl
theorem callee47:∀ vs w,(callFunc 47 vs).run Try.prog w=.ok (.enter 47 vs) w:=callee Try.func47 rfl rfl
theorem callee48:∀ vs w,(callFunc 48 vs).run Try.prog w=.ok (.enter 48 vs) w:=callee Try.func48 rfl rfl
theorem callee49:∀ vs w,(callFunc 49 vs).run Try.prog w=.ok (.enter 49 vs) w:=callee Try.func49 rfl rfl
theorem callee50:∀ vs w,(callFunc 50 vs).run Try.prog w=.ok (.enter 50 vs) w:=callee Try.func50 rfl rfl
theorem callee51:∀ vs w,(callFunc 51 vs).run Try.prog w=.ok (.enter 51 vs) w:=callee Try.func51 rfl rfl
theorem callee52:∀ vs w,(callFunc 52 vs).run Try.prog w=.ok (.enter 52 vs) w:=callee Try.func52 rfl rfl
theorem callee53:∀ vs w,(callFunc 53 vs).run Try.prog w=.ok (.enter 53 vs) w:=callee Try.func53 rfl rfl
theorem callee54:∀ vs w,(callFunc 54 vs).run Try.prog w=.ok (.enter 54 vs) w:=callee Try.func54 rfl rfl
theorem callee55:∀ vs w,(callFunc 55 vs).run Try.prog w=.ok (.enter 55 vs) w:=callee Try.func55 rfl rfl
theorem callee56:∀ vs w,(callFunc 56 vs).run Try.prog w=.ok (.enter 56 vs) w:=callee Try.func56 rfl rfl
theorem callee57:∀ vs w,(callFunc 57 vs).run Try.prog w=.ok (.enter 57 vs) w:=callee Try.func57 rfl rfl
theorem callee58:∀ vs w,(callFunc 58 vs).run Try.prog w=.ok (.enter 58 vs) w:=callee Try.func58 rfl rfl
theorem callee59:∀ vs w,(callFunc 59 vs).run Try.prog w=.ok (.enter 59 vs) w:=callee Try.func59 rfl rfl
theorem callee60:∀ vs w,(callFunc 60 vs).run Try.prog w=.ok (.enter 60 vs) w:=callee Try.func60 rfl rfl
theorem callee61:∀ vs w,(callFunc 61 vs).run Try.prog w=.ok (.enter 61 vs) w:=callee Try.func61 rfl rfl
theorem callee62:∀ vs w,(callFunc 62 vs).run Try.prog w=.ok (.enter 62 vs) w:=callee Try.func62 rfl rfl
theorem callee63:∀ vs w,(callFunc 63 vs).run Try.prog w=.ok (.enter 63 vs) w:=callee Try.func63 rfl rfl
theorem callee64:∀ vs w,(callFunc 64 vs).run Try.prog w=.ok (.enter 64 vs) w:=callee Try.func64 rfl rfl
theorem callee65:∀ vs w,(callFunc 65 vs).run Try.prog w=.ok (.enter 65 vs) w:=callee Try.func65 rfl rfl
theorem callee66:∀ vs w,(callFunc 66 vs).run Try.prog w=.ok (.enter 66 vs) w:=callee Try.func66 rfl rfl
theorem callee67:∀ vs w,(callFunc 67 vs).run Try.prog w=.ok (.enter 67 vs) w:=callee Try.func67 rfl rfl
theorem callee68:∀ vs w,(callFunc 68 vs).run Try.prog w=.ok (.enter 68 vs) w:=callee Try.func68 rfl rfl
theorem callee69:∀ vs w,(callFunc 69 vs).run Try.prog w=.ok (.enter 69 vs) w:=callee Try.func69 rfl rfl
theorem callee70:∀ vs w,(callFunc 70 vs).run Try.prog w=.ok (.enter 70 vs) w:=callee Try.func70 rfl rfl
theorem callee71:∀ vs w,(callFunc 71 vs).run Try.prog w=.ok (.enter 71 vs) w:=callee Try.func71 rfl rfl
theorem callee72:∀ vs w,(callFunc 72 vs).run Try.prog w=.ok (.enter 72 vs) w:=callee Try.func72 rfl rfl
theorem callee73:∀ vs w,(callFunc 73 vs).run Try.prog w=.ok (.enter 73 vs) w:=callee Try.func73 rfl rfl
theorem callee74:∀ vs w,(callFunc 74 vs).run Try.prog w=.ok (.enter 74 vs) w:=callee Try.func74 rfl rfl
theorem callee75:∀ vs w,(callFunc 75 vs).run Try.prog w=.ok (.enter 75 vs) w:=callee Try.func75 rfl rfl
theorem callee76:∀ vs w,(callFunc 76 vs).run Try.prog w=.ok (.enter 76 vs) w:=callee Try.func76 rfl rfl
theorem callee77:∀ vs w,(callFunc 77 vs).run Try.prog w=.ok (.enter 77 vs) w:=callee Try.func77 rfl rfl
theorem callee78:∀ vs w,(callFunc 78 vs).run Try.prog w=.ok (.enter 78 vs) w:=callee Try.func78 rfl rfl
theorem callee79:∀ vs w,(callFunc 79 vs).run Try.prog w=.ok (.enter 79 vs) w:=callee Try.func79 rfl rfl
theorem callee80:∀ vs w,(callFunc 80 vs).run Try.prog w=.ok (.enter 80 vs) w:=callee Try.func80 rfl rfl
theorem callee81:∀ vs w,(callFunc 81 vs).run Try.prog w=.ok (.enter 81 vs) w:=callee Try.func81 rfl rfl
open Go.ChangeShapes Go.WideShapes Go.ChangeAt Go.Joins
def InK (k:IntKind) (x:Int):Prop:=(Lit.int k x).wf=true
def OpC {α:Type} (P:Program) (t:TypeId) (r:R α) (p:α→Prop):Prop:=
 ∀ (H:Type) (enc:TypeId × Value→H) (w:World) (base:Nat) (spare:Nat→Bool) (held:Bool) (fuel:Nat) (cs:List Value) (x:DataW H × List MemPlace),
  DataW.trod enc P w base spare held fuel t cs=some x→∃ v y,v.cells.toList=cs∧r.rep (fun _=>False) w v y∧p y
section
variable {P : Program}
theorem op_int {t:TypeId} (k:IntKind) (ht:P.underlying t=some (.int k)):OpC P t (rI k) (InK k):=fun H enc w base spare held fuel cs x h=>by
 obtain ⟨n,rfl,_,hw⟩:=DataW.trod_int ht h
 exact ⟨_,n,rfl,rfl,hw⟩
theorem top_agg {α:Type} {H:Type} {enc:TypeId × Value→H} {w:World} {base b0:Nat} {spare:Nat→Bool} {held:Bool} {rr:Reach} {v:Value} {d:DataW H} {p:List MemPlace} {t:TypeId} {fs:Array Field} {r:R α} {q:α→Prop} (ht:P.underlying t=some (.struct fs)) (hr:Aggr r) (ho:OpC P t r q)
 (hv:Value.okWide P w rr b0 t v) (h:DataW.Trod enc P w base spare held t v d p):∃ y,r.rep (fun _=>False) w v y∧q y:=by
 obtain ⟨cs,rfl,hsz⟩:=okWide_struct ht hv
 obtain ⟨fuel,hf⟩:=h
 obtain ⟨v,y,h1,h2,h3⟩:=ho _ _ _ _ _ _ _ _ _ hf
 obtain ⟨ds,rfl⟩:=hr _ _ _ _ h2
 simp [Value.cells] at h1
 subst h1
 exact ⟨y,h2,h3⟩
theorem St0.start {w:World} {D:List Fact} (h:∀ d,d ∈ D→d.p (fun _=>False) w):St0 (fun _=>False) [] w w [] D:=by
 have hE:tot (fun _=>False) []=(fun _=>False):=by funext b; simp [tot,keysL]
 exact ⟨Chg.refl _ _,by simp,fun d hd=>by rw [hE]; exact h d hd,by simp [keysL],by simp [keysL],fun _ h=>h.elim⟩
theorem Chg.below {w w':World} (h:Chg [] w w'):Below w.heap.size w w':=⟨h.os,h.tape,h.output,h.size,fun k hk=>h.block k hk (by simp)⟩
theorem len4 {α:Type} {l:List α} (h:l.length=4):∃ a b c d,l=[a,b,c,d]:=by match l,h with | [a,b,c,d],_=>exact ⟨a,b,c,d,rfl⟩
end
theorem fld {α:Type} {x:Option α} {ys:List α} {i:Nat} (h:x=ys[i]?) (hi:i < ys.length):∃ z,x=some z:=⟨ys[i],by rw [h]; exact List.getElem?_eq_getElem hi⟩
end Go.Proofs.Ytnfjcalmangncaa
namespace Go.Proofs.Ytnfjcalmangncaa
open Go.RowKit
open Go.ChangeShapes Go.WideShapes Go.ChangeAt Go.Joins
def wf_api_Gauge (x:api_Gauge):Prop:=(InK .i64) x.Stitches∧(InK .i64) x.Width∧(InK .i64) x.Rows∧(InK .i64) x.Height
theorem op_api_Gauge:OpC Try.prog 23 r_api_Gauge wf_api_Gauge:=fun H enc w base spare held fuel cs x h=>by
 obtain ⟨ys,m,_,_,hl,hy,hf⟩:=DataW.trod_struct Try.underlying23 h
 obtain ⟨c0,c1,c2,c3,rfl⟩:=len4 (hl.trans (by kernel_rfl))
 obtain ⟨z0,f0⟩:=fld (hf 0 _ rfl) (by rw [hy]; decide)
 obtain ⟨u0,y0,k0,r0,w0⟩:=(op_int .i64 Try.underlying3) _ _ _ _ _ _ _ _ _ f0
 replace k0:u0.cells.toList=[c0]:=k0.trans (by kernel_rfl)
 obtain rfl:u0=.int .i64 y0:=r0
 obtain rfl:Value.int .i64 y0=c0:=by simpa [Value.cells] using k0
 obtain ⟨z1,f1⟩:=fld (hf 1 _ rfl) (by rw [hy]; decide)
 obtain ⟨u1,y1,k1,r1,w1⟩:=(op_int .i64 Try.underlying3) _ _ _ _ _ _ _ _ _ f1
 replace k1:u1.cells.toList=[c1]:=k1.trans (by kernel_rfl)
 obtain rfl:u1=.int .i64 y1:=r1
 obtain rfl:Value.int .i64 y1=c1:=by simpa [Value.cells] using k1
 obtain ⟨z2,f2⟩:=fld (hf 2 _ rfl) (by rw [hy]; decide)
 obtain ⟨u2,y2,k2,r2,w2⟩:=(op_int .i64 Try.underlying3) _ _ _ _ _ _ _ _ _ f2
 replace k2:u2.cells.toList=[c2]:=k2.trans (by kernel_rfl)
 obtain rfl:u2=.int .i64 y2:=r2
 obtain rfl:Value.int .i64 y2=c2:=by simpa [Value.cells] using k2
 obtain ⟨z3,f3⟩:=fld (hf 3 _ rfl) (by rw [hy]; decide)
 obtain ⟨u3,y3,k3,r3,w3⟩:=(op_int .i64 Try.underlying3) _ _ _ _ _ _ _ _ _ f3
 replace k3:u3.cells.toList=[c3]:=k3.trans (by kernel_rfl)
 obtain rfl:u3=.int .i64 y3:=r3
 obtain rfl:Value.int .i64 y3=c3:=by simpa [Value.cells] using k3
 exact ⟨_,⟨y0,y1,y2,y3⟩,rfl,rfl,⟨w0,w1,w2,w3⟩⟩
end Go.Proofs.Ytnfjcalmangncaa
namespace Go.Proofs.Ytnfjcalmangncaa
open Go.RowKit
theorem w64_of {x:Int} (h0:-9223372036854775808 ≤ x) (h1:x ≤ 9223372036854775807):w64 x=x:=w64_id ⟨h0,h1⟩
theorem w64_succ {k:Nat} (h:k < 9223372036854775807):w64 ((k:Int) + 1)=((k + 1:Nat):Int):=by
 rw [w64_of (by omega) (by omega)]; omega
theorem idxO_nat {α:Type} {xs:List α} {k:Nat} (h:k < xs.length):idxO xs (k:Int)=some xs[k]:=by
 simp [idxO,h]
theorem setO_nat {α:Type} {xs:List α} {k:Nat} {y:α} (h:k < xs.length):setO xs (k:Int) y=some (xs.set k y):=by
 simp [setO,h]
theorem appO_of {α:Type} {xs ys:List α} (h:xs.length + ys.length ≤ 68719476736):appO xs ys=some (xs ++ ys):=by
 simp [appO,lim,h]
theorem capO_of {n:Int} {k:Nat} (h:n=(k:Int)) (hk:k ≤ 68719476736):capO n=some ():=by
 subst h; simp [capO,lim,hk]
theorem makeO_of {α:Type} {n:Int} {z:α} {k:Nat} (h:n=(k:Int)) (hk:k ≤ 68719476736):makeO n z=some (List.replicate k z):=by
 subst h; simp [makeO,lim,hk]
theorem sliceO_of {α:Type} {xs:List α} {lo hi:Int} {l k:Nat} (h1:lo=l) (h2:hi=k) (h3:l ≤ k) (h4:k ≤ xs.length):sliceO xs lo hi=some ((xs.take k).drop l):=by
 subst h1 h2; simp [sliceO,h3,h4]
theorem loop_st {σ τ:Type} {B:σ × Int→Option ((σ × Int) ⊕ τ)} (n:Nat) (I:Nat→σ→Prop) (Pt:τ→Prop) {s0:σ} (h0:I 0 s0)
 (step:∀ k s,k < n→I k s→(∃ s',B (s,(k:Int))=some (.inl (s',((k + 1:Nat):Int)))∧I (k + 1) s') ∨ (∃ t,B (s,(k:Int))=some (.inr t)∧Pt t))
 (last:∀ s,I n s→∃ t,B (s,(n:Int))=some (.inr t)∧Pt t):∃ t,whileO B (s0,0)=some t∧Pt t:=by
 refine whileO_inv (fun s=>∃ k:Nat,k ≤ n∧s.2=(k:Int)∧I k s.1) (fun s=>((n:Int) - s.2).toNat) Pt ⟨0,Nat.zero_le _,rfl,h0⟩ ?_
 rintro ⟨s,i⟩ ⟨k,hk,rfl,hI⟩
 by_cases hlt:k < n
 ·rcases step k s hlt hI with ⟨s',h1,h2⟩ | h
  ·exact .inl ⟨_,h1,⟨k + 1,hlt,rfl,h2⟩,by simp; omega⟩
  ·exact .inr h
 ·obtain rfl:k=n:=by omega
  exact .inr (last s hI)
theorem loop_ix {τ:Type} {B:Int→Option (Int ⊕ τ)} (n:Nat) (I:Nat→Prop) (Pt:τ→Prop) (h0:I 0)
 (step:∀ k,k < n→I k→(B (k:Int)=some (.inl ((k + 1:Nat):Int))∧I (k + 1)) ∨ (∃ t,B (k:Int)=some (.inr t)∧Pt t))
 (last:I n→∃ t,B (n:Int)=some (.inr t)∧Pt t):∃ t,whileO B 0=some t∧Pt t:=by
 refine whileO_inv (fun s=>∃ k:Nat,k ≤ n∧s=(k:Int)∧I k) (fun s=>((n:Int) - s).toNat) Pt ⟨0,Nat.zero_le _,rfl,h0⟩ ?_
 rintro i ⟨k,hk,rfl,hI⟩
 by_cases hlt:k < n
 ·rcases step k hlt hI with ⟨h1,h2⟩ | h
  ·exact .inl ⟨_,h1,⟨k + 1,hlt,rfl,h2⟩,by simp; omega⟩
  ·exact .inr h
 ·obtain rfl:k=n:=by omega
  exact .inr (last hI)
theorem loop_all {τ:Type} {B:Int→Option (Int ⊕ τ)} (n:Nat) (p:Nat→Bool) (good bad:τ)
 (h:∀ k,k < n→B (k:Int)=some (if p k=true then .inl ((k + 1:Nat):Int) else .inr bad)) (hn:B (n:Int)=some (.inr good)) :
 whileO B 0=some (if (List.range n).all p=true then good else bad):=by
 have key:∃ t,whileO B 0=some t∧t=if (List.range n).all p=true then good else bad:=by
  refine loop_ix n (fun k=>∀ j,j < k→p j=true) _ (fun j h=>absurd h (Nat.not_lt_zero j)) ?_ ?_
  ·intro k hk hI
   cases hf:p k with
   | true=>
    refine .inl ⟨by rw [h k hk,if_pos hf],fun j hj=>?_⟩
    by_cases e:j=k
    ·rw [e]; exact hf
    ·exact hI j (by omega)
   | false=>
    refine .inr ⟨bad,by rw [h k hk,hf]; simp,?_⟩
    rw [if_neg]
    intro hc
    rw [List.all_eq_true] at hc
    have:=hc k (List.mem_range.2 hk)
    rw [hf] at this; cases this
  ·intro hI
   refine ⟨good,hn,?_⟩
   rw [if_pos]
   rw [List.all_eq_true]
   exact fun j hj=>hI j (List.mem_range.1 hj)
 obtain ⟨t,h1,rfl⟩:=key
 exact h1
theorem loop_map {α τ:Type} {B:List α × Int→Option ((List α × Int) ⊕ τ)} (n:Nat) (f:Nat→α) {t:τ}
 (h:∀ k s,k < n→s=(List.range k).map f→B (s,(k:Int))=some (.inl (s ++ [f k],((k + 1:Nat):Int))))
 (hn:B ((List.range n).map f,(n:Int))=some (.inr t)):whileO B ([],0)=some t:=by
 have key:∃ u,whileO B ([],0)=some u∧u=t:=by
  refine loop_st n (fun k s=>s=(List.range k).map f) _ rfl ?_ ?_
  ·rintro k s hk hI
   refine .inl ⟨_,h k s hk hI,?_⟩
   rw [List.range_succ,List.map_append,← hI]; rfl
  ·rintro s rfl
   exact ⟨t,hn,rfl⟩
 obtain ⟨u,h1,rfl⟩:=key
 exact h1
theorem map_cong {α:Type} {n:Nat} {f g:Nat→α} (h:∀ k,k < n→f k=g k):(List.range n).map f=(List.range n).map g:=
 List.map_congr_left fun k hk=>h k (List.mem_range.1 hk)
theorem dT {p:Prop} [Decidable p] (h:p):decide p=true:=decide_eq_true h
theorem dF {p:Prop} [Decidable p] (h:¬ p):decide p=false:=decide_eq_false h
theorem bT {a b:Int} (h:a=b):(a == b)=true:=by simp [h]
theorem bF {a b:Int} (h:¬ a=b):(a == b)=false:=by simp [h]
theorem nT {a b:Int} (h:¬ a=b):(a != b)=true:=by simp [h]
theorem nF {a b:Int} (h:a=b):(a != b)=false:=by simp [h]
theorem loop_ts {σ τ:Type} {B:Int × σ→Option ((Int × σ) ⊕ τ)} (n:Nat) (I:Nat→σ→Prop) (Pt:τ→Prop) {s0:σ} (h0:I 0 s0)
 (step:∀ k s,k < n→I k s→(∃ s',B ((k:Int),s)=some (.inl (((k + 1:Nat):Int),s'))∧I (k + 1) s') ∨ (∃ t,B ((k:Int),s)=some (.inr t)∧Pt t))
 (last:∀ s,I n s→∃ t,B ((n:Int),s)=some (.inr t)∧Pt t):∃ t,whileO B (0,s0)=some t∧Pt t:=by
 refine whileO_inv (fun s=>∃ k:Nat,k ≤ n∧s.1=(k:Int)∧I k s.2) (fun s=>((n:Int) - s.1).toNat) Pt ⟨0,Nat.zero_le _,rfl,h0⟩ ?_
 rintro ⟨i,s⟩ ⟨k,hk,rfl,hI⟩
 by_cases hlt:k < n
 ·rcases step k s hlt hI with ⟨s',h1,h2⟩ | h
  ·exact .inl ⟨_,h1,⟨k + 1,hlt,rfl,h2⟩,by simp; omega⟩
  ·exact .inr h
 ·obtain rfl:k=n:=by omega
  exact .inr (last s hI)
def Fill {α:Type} (n:Nat) (f:Nat→α) (k:Nat) (s:List α):Prop:=s.length=n∧∀ j,j < k→s[j]?=some (f j)
theorem Fill.zero {α:Type} (n:Nat) (f:Nat→α) (z:α):Fill n f 0 (List.replicate n z):=⟨by simp,fun j hj=>absurd hj (Nat.not_lt_zero j)⟩
theorem Fill.set {α:Type} {n:Nat} {f:Nat→α} {k:Nat} {s:List α} (h:Fill n f k s) (hk:k < n):Fill n f (k + 1) (s.set k (f k)):=by
 refine ⟨by simp [h.1],fun j hj=>?_⟩
 by_cases e:j=k
 ·subst e; simp [h.1,hk]
 ·rw [List.getElem?_set_ne (fun h=>e h.symm)]; exact h.2 j (by omega)
theorem Fill.all {α:Type} {n:Nat} {f:Nat→α} {s:List α} (h:Fill n f n s):s=(List.range n).map f:=by
 apply List.ext_getElem?
 intro j
 by_cases hj:j < n
 ·rw [h.2 j hj]; simp [hj]
 ·rw [List.getElem?_eq_none (by rw [h.1]; omega),List.getElem?_eq_none (by simp; omega)]
theorem loop_set {α τ:Type} {B:List α × Int→Option ((List α × Int) ⊕ τ)} (n:Nat) (f:Nat→α) (z:α) {t:τ}
 (h:∀ k s,k < n→s.length=n→B (s,(k:Int))=some (.inl (s.set k (f k),((k + 1:Nat):Int))))
 (hn:B ((List.range n).map f,(n:Int))=some (.inr t)):whileO B (List.replicate n z,0)=some t:=by
 have key:∃ u,whileO B (List.replicate n z,0)=some u∧u=t:=by
  refine loop_st n (fun k s=>Fill n f k s) _ (Fill.zero n f z) ?_ ?_
  ·intro k s hk hI
   exact .inl ⟨_,h k s hk hI.1,hI.set hk⟩
  ·intro s hs
   rw [hs.all]
   exact ⟨t,hn,rfl⟩
 obtain ⟨u,h1,rfl⟩:=key
 exact h1
theorem idxO_D {α:Type} {xs:List α} {k:Nat} (d:α) (h:k < xs.length):idxO xs (k:Int)=some (xs.getD k d):=by
 rw [idxO_nat h]; simp [h]
theorem mul_bd {u v a b:Int} (u0:0 ≤ u) (u1:u ≤ a) (v0:0 ≤ v) (v1:v ≤ b):0 ≤ u * v∧u * v ≤ a * b:=
 ⟨Int.mul_nonneg u0 v0,Int.mul_le_mul u1 v1 v0 (by omega)⟩
theorem sliceO_all {α:Type} {xs:List α} {k:Nat} (h:k ≤ xs.length):sliceO xs (k:Int) (xs.length:Int)=some (xs.drop k):=by
 rw [sliceO_of (l:=k) (k:=xs.length) rfl rfl h (Nat.le_refl _),List.take_length]
noncomputable def F_gauge_within (p0:Int) (p1:Int) (p2:Int):Option Bool:=
 Option.bind (α:=Bool) (
  if decide (p1 ≤ p0) then
   some (decide (p0 ≤ p2))
  else
   some false) fun o2=>
 some o2
theorem c_gauge_within (E:Nat→Prop) (w0:World) (p0:Int) (p1:Int) (p2:Int) (r:Bool) (h:F_gauge_within p0 p1 p2=some r) (S:St0 E [] w0 w0 [] []) :
 Calls Try.prog 47 #[iv p0,iv p1,iv p2] w0 (Ret (X:=Unit) E [] w0 (fun _=>.bool r) (fun _=>[]) (fun _=>[])):=by
 unfold F_gauge_within at h
 refine sEnter (args:=[iv p0,iv p1,iv p2]) 15 Try.func47 d d (by simp) S (fun a S=>?_)
 refine sSeq (fun K1 aa=>sRegion (sN S fun a S=>?_))
 refine lT (aa _ _ ?_)
 obtain ⟨t3,h,g4⟩:=bS h
 refine sCut (fun a w=>∃ o2,o2=t3∧St [] E [] w0 15 a w [(6,.bool o2)] [] []) ?_ (fun a w hI=>?_)
 rotate_left
 ·obtain ⟨o2,rfl,S⟩:=hI
  have h:=g4
  try dsimp only at h
  obtain rfl:=tS h
  exact wp_ret (sRet (.bool o2) S (rsl1 d (rvT (t:=6) (v:=.bool o2) S d)) ⟨(),d,S.mem.sel [] [] (by decide) d d⟩)
 refine sRegion (sM S fun a S=>?_)
 refine sM S fun a S=>?_
 refine sBin _ S (wN d) d d d (bGe _ _ _ _ .i64 p0 p1) d (lb d) fun a S=>sM S fun a S=>?_
 rcases iS h with ⟨a9,h⟩ | ⟨a9,h⟩
 rotate_left
 ·refine sSkN 3 3 true 10 S d d a9 d fun a S=>sPickF (.bool false) S (wN d) d d a9 d d (lb d) fun a S=>sN S fun a S=>?_
  exact lT (⟨false,Option.some.inj h,S.fix [] [] (by decide) d d d⟩)
 refine sMove (iv p0) S (wG 3 true 10 d d d a9) (.inl d) d d (lb d) fun a S=>sMove (iv p2) S (wG 3 true 10 d d d a9) (.inl d) d d (lb d) fun a S=>sBin _ S (wG 3 true 10 d d d a9) d d d (bLe _ _ _ _ .i64 p0 p2) d (lb d) fun a S=>sPickT (.bool (decide (p0 ≤ p2))) S (wN d) d d a9 d d (lb d) fun a S=>sN S fun a S=>?_
 exact lT (⟨decide (p0 ≤ p2),Option.some.inj h,S.fix [] [] (by decide) d d d⟩)
noncomputable def gauge_Check_l1 (p0:api_Gauge):Int→Option (Int ⊕ (Int ⊕ Unit)):=fun s0=>match s0 with
 | s6=>
  if decide (s6 < 4) then
   (idxO ([p0.Stitches,p0.Width,p0.Rows,p0.Height]:List Int) s6).bind fun a9=>
   (F_gauge_within a9 1 10000).bind fun aa=>
   if !aa then
    some (.inr (.inl 8))
   else
    some (.inl (w64 (s6 + 1)))
  else
   some (.inr (.inr ()))
noncomputable def F_gauge_Check (p0:api_Gauge):Option Int:=
 Option.bind (α:=Unit ⊕ Int) (
  (whileO (gauge_Check_l1 p0) 0).bind fun z0=>match z0 with
   | .inl z=>
    some (.inr z)
   | .inr _=>
    some (.inl ())) fun z0=>match z0 with
  | .inl _=>
   some 0
  | .inr z=>
   some z
theorem c_gauge_Check (E:Nat→Prop) (w0:World) (p0:api_Gauge) (v0:Value) (r:Int) (h:F_gauge_Check p0=some r) (S:St0 E [] w0 w0 [] [fRep r_api_Gauge (v0) p0]) :
 Calls Try.prog 46 #[v0] w0 (Ret (X:=Unit) E [] w0 (fun _=>.int .i64 r) (fun _=>[]) (fun _=>[])):=by
 unfold F_gauge_Check at h
 obtain rfl:v0=.agg #[iv p0.Stitches,iv p0.Width,iv p0.Rows,iv p0.Height]:=S.know (i:=0) (e:=fRep r_api_Gauge (v0) p0) d
 refine sEnter (args:=[.agg #[iv p0.Stitches,iv p0.Width,iv p0.Rows,iv p0.Height]]) 21 Try.func46 d d (by simp) S (fun a S=>?_)
 refine sSeq (fun K1 ap=>sRegion (sBox (v:=.agg #[iv p0.Stitches,iv p0.Width,iv p0.Rows,iv p0.Height]) S (wN d) d d [iv p0.Stitches,iv p0.Width,iv p0.Rows,iv p0.Height] d d (lb d) fun a b2 w S=>sN S fun a S=>?_))
 refine lT (ap _ _ ?_)
 obtain ⟨t3,h,g4⟩:=bS h
 refine sCut (fun a w=>.inl ()=t3∧St [] E [] w0 21 a w [] [] []) ?_ (fun a w hI=>?_)
 rotate_left
 ·obtain ⟨rfl,S⟩:=hI
  have h:=g4
  try dsimp only at h
  refine sSeq (fun ar ab=>sRegion (sN S fun a S=>?_))
  refine lT (ab _ _ ?_)
  obtain rfl:=tS h
  exact wp_ret (sRet (iv 0) S (rsl1 d (rvT (t:=2) (v:=iv 0) S d)) ⟨(),d,S.mem.sel [] [] (by decide) d d⟩)
 refine sSeq (fun K5 aq=>sRegion (sField (b:=b2) (off:=0) 0 0 S (wN d) d d d d d (lb d) fun a S=>sLoad1 0 (iv p0.Stitches) S (wN d) d d d d d d (lb d) fun a S=>sField (b:=b2) (off:=0) 1 1 S (wN d) d d d d d (lb d) fun a S=>sLoad1 0 (iv p0.Width) S (wN d) d d d d d d (lb d) fun a S=>sField (b:=b2) (off:=0) 2 2 S (wN d) d d d d d (lb d) fun a S=>sLoad1 0 (iv p0.Rows) S (wN d) d d d d d d (lb d) fun a S=>sField (b:=b2) (off:=0) 3 3 S (wN d) d d d d d (lb d) fun a S=>sLoad1 0 (iv p0.Height) S (wN d) d d d d d d (lb d) fun a S=>sBuild [(0,iv p0.Stitches),(1,iv p0.Width),(2,iv p0.Rows),(3,iv p0.Height)] [iv p0.Stitches,iv p0.Width,iv p0.Rows,iv p0.Height] S (wN d) d d d d (lb d) fun a S=>sM S fun a S=>?_))
 refine lT (aq _ _ (wp_block ?_))
 obtain ⟨t9,hl,g8⟩:=bS h
 refine sLoop hl (fun s0 a w=>match s0 with | s6=>St [] E [] w0 21 a w [(13,.agg #[iv p0.Stitches,iv p0.Width,iv p0.Rows,iv p0.Height]),(14,iv s6)] [] []) (S.fix [] [] (by decide) d d d) ?_
 clear hl h
 intro s6 a w c0 hI h am
 unfold gauge_Check_l1 at h
 dsimp only at h hI
 have S:=hI
 refine sSeq (fun au ac=>sRegion (sBin _ S (wN d) d d d (bLt _ _ _ _ .i64 s6 4) d (lb d) fun a S=>lT (ac _ _ (sSeq (fun av ae=>?_)))))
 rcases iS h with ⟨a9,h⟩ | ⟨a9,h⟩
 rotate_left
 ·refine sCondF S d a9 ?_
  obtain rfl:=tS h
  obtain rfl:=am _ d
  have h:=g8
  try dsimp only at h
  exact wp_exit (xThen (xThen (xHit (leafT (⟨Option.some.inj h,S.fix [] [] (by decide) d d d⟩)))))
 refine sCondT S d a9 (wp_skip (leafT (ae _ _ ?_)))
 refine sSeq (fun aw af=>wp_block ?_)
 refine sSeq (fun ax ag=>sRegion ?_)
 obtain ⟨ao,ah,h⟩:=bS h
 refine sIndexA (g:=fun z=>.int .i64 z) (xs:=([p0.Stitches,p0.Width,p0.Rows,p0.Height]:List Int)) (j:=s6) (k:=.i64) 4 [iv p0.Stitches,iv p0.Width,iv p0.Rows,iv p0.Height] S (wN d) d Try.underlying121 d d d d d d ah d (lb d) fun a S=>sN S fun a S=>?_
 refine lT (ag _ _ (sSeq (fun ay ai=>sRegion (sM S fun a S=>?_))))
 obtain ⟨aj,ak,h⟩:=bS h
 have S1:=S.mem
 refine sCq [iv ao,iv 1,iv 10000] (.bool aj) S callee47 (S1.quiet [] d) (fun E1 w1 S1=>c_gauge_within E1 w1 ao 1 10000 aj ak S1) fun a w S=>?_
 refine sNot (b:=aj) S (wN d) d d d (lb d) fun a S=>lT (ai _ _ ?_)
 rcases iS h with ⟨aa,h⟩ | ⟨aa,h⟩
 rotate_left
 ·refine sCondF S d aa (wp_skip (leafB (leafT (af _ _ ?_))))
  refine sRegion (sBin _ S (wN d) d d d (bAdd _ _ _ _ s6 1) d (lb d) fun a S=>sM S fun a S=>?_)
  exact lT (⟨w64 (s6 + 1),(Option.some.inj h).symm,(S.fix [] [] (by decide) d d d)⟩)
 refine sCondT S d aa (sSeq (fun az al=>sRegion (sN S fun a S=>?_)))
 refine lT (al _ _ ?_)
 obtain rfl:=tS h
 obtain rfl:=am _ d
 have h:=g8
 try dsimp only at h
 obtain rfl:=tS h
 have h:=g4
 try dsimp only at h
 obtain rfl:=tS h
 exact wp_ret (rBlock (rThen (rThen (rBlock (rThen (sRet (iv 8) S (rsl1 d (rvT (t:=2) (v:=iv 8) S d)) ⟨(),d,S.mem.sel [] [] (by decide) d d⟩))))))
noncomputable def F_gauge_ratio_of (p0:gauge_ratio) (p1:Int):Option Int:=
 (quoI (w64 ((w64 ((w64 (2 * p1)) * p0.num)) + p0.den)) (w64 (2 * p0.den))).bind fun z4=>
 some z4
theorem c_gauge_ratio_of (E:Nat→Prop) (w0:World) (p0:gauge_ratio) (v0:Value) (p1:Int) (r:Int) (h:F_gauge_ratio_of p0 p1=some r) (S:St0 E [] w0 w0 [] [fRep r_gauge_ratio (v0) p0]) :
 Calls Try.prog 48 #[v0,iv p1] w0 (Ret (X:=Unit) E [] w0 (fun _=>.int .i64 r) (fun _=>[]) (fun _=>[])):=by
 unfold F_gauge_ratio_of at h
 obtain rfl:v0=.agg #[iv p0.num,iv p0.den]:=S.know (i:=0) (e:=fRep r_gauge_ratio (v0) p0) d
 refine sEnter (args:=[.agg #[iv p0.num,iv p0.den],iv p1]) 17 Try.func48 d d (by simp) S (fun a S=>?_)
 refine sSeq (fun K1 a9=>sRegion (sBox (v:=.agg #[iv p0.num,iv p0.den]) S (wN d) d d [iv p0.num,iv p0.den] d d (lb d) fun a b2 w S=>sN S fun a S=>?_))
 refine lT (a9 _ _ (sSeq (fun K3 aa=>sRegion (sM S fun a S=>?_))))
 refine sBin _ S (wN d) d d d (bMul _ _ _ _ 2 p1) d (lb d) fun a S=>sField (b:=b2) (off:=0) 0 0 S (wN d) d d d d d (lb d) fun a S=>sLoad1 0 (iv p0.num) S (wN d) d d d d d d (lb d) fun a S=>sBin _ S (wN d) d d d (bMul _ _ _ _ (w64 (2 * p1)) p0.num) d (lb d) fun a S=>sField (b:=b2) (off:=0) 1 1 S (wN d) d d d d d (lb d) fun a S=>sLoad1 0 (iv p0.den) S (wN d) d d d d d d (lb d) fun a S=>sBin _ S (wN d) d d d (bAdd _ _ _ _ (w64 ((w64 (2 * p1)) * p0.num)) p0.den) d (lb d) fun a S=>sField (b:=b2) (off:=0) 1 1 S (wN d) d d d d d (lb d) fun a S=>sLoad1 0 (iv p0.den) S (wN d) d d d d d d (lb d) fun a S=>sBin _ S (wN d) d d d (bMul _ _ _ _ 2 p0.den) d (lb d) fun a S=>?_
 obtain ⟨z4,ab,h⟩:=bS h
 refine sBin _ S (wN d) d d d (bQuo _ _ _ _ (x:=w64 ((w64 ((w64 (2 * p1)) * p0.num)) + p0.den)) (y:=w64 (2 * p0.den)) ab) d (lb d) fun a S=>sN S fun a S=>?_
 refine lT (aa _ _ ?_)
 obtain rfl:=tS h
 exact wp_ret (sRet (iv z4) S (rsl1 d (rvT (t:=4) (v:=iv z4) S d)) ⟨(),d,S.mem.sel [] [] (by decide) d d⟩)
noncomputable def F_gauge_scale (p0:api_Gauge) (p1:gauge_ratio) (p2:Int) (p3:Int) (p4:Int):Option (Int × Int):=
 (F_gauge_Check p0).bind fun r6=>
 if r6 != 0 then
  some (0,r6)
 else
  (F_gauge_within p2 0 p3).bind fun aa=>
  if !aa then
   some (0,2)
  else
   (F_gauge_ratio_of p1 p2).bind fun a9=>
   if decide (p4 < a9) then
    some (0,16)
   else
    some (a9,0)
theorem c_gauge_scale (E:Nat→Prop) (w0:World) (p0:api_Gauge) (v0:Value) (p1:gauge_ratio) (v1:Value) (p2:Int) (p3:Int) (p4:Int) (r:(Int × Int)) (h:F_gauge_scale p0 p1 p2 p3 p4=some r) (S:St0 E [] w0 w0 [] [fRep r_api_Gauge (v0) p0,fRep r_gauge_ratio (v1) p1]) :
 Calls Try.prog 21 #[v0,v1,iv p2,iv p3,iv p4] w0 (Ret (X:=Unit) E [] w0 (fun _=>.tuple #[.int .i64 r.1,.int .i64 r.2]) (fun _=>[]) (fun _=>[])):=by
 unfold F_gauge_scale at h
 obtain rfl:v0=.agg #[iv p0.Stitches,iv p0.Width,iv p0.Rows,iv p0.Height]:=S.know (i:=0) (e:=fRep r_api_Gauge (v0) p0) d
 obtain rfl:v1=.agg #[iv p1.num,iv p1.den]:=S.know (i:=1) (e:=fRep r_gauge_ratio (v1) p1) d
 refine sEnter (args:=[.agg #[iv p0.Stitches,iv p0.Width,iv p0.Rows,iv p0.Height],.agg #[iv p1.num,iv p1.den],iv p2,iv p3,iv p4]) 30 Try.func21 d d (by simp) S (fun a S=>?_)
 refine sSeq (fun K1 ar=>sRegion (sBox (v:=.agg #[iv p0.Stitches,iv p0.Width,iv p0.Rows,iv p0.Height]) S (wN d) d d [iv p0.Stitches,iv p0.Width,iv p0.Rows,iv p0.Height] d d (lb d) fun a b2 w S=>sBox (v:=.agg #[iv p1.num,iv p1.den]) S (wN d) d d [iv p1.num,iv p1.den] d d (lb d) fun a b3 w S=>sN S fun a S=>?_))
 refine sN S fun a S=>?_
 refine lT (ar _ _ (sSeq (fun K4 au=>sSeq (fun K5 av=>sRegion (sLoadN (p:=b2) (off:=0) (T:=23) (vs:=[iv p0.Stitches,iv p0.Width,iv p0.Rows,iv p0.Height]) 1 [iv p0.Stitches,iv p0.Width,iv p0.Rows,iv p0.Height] S (wN d) d d d d d d d (lb d) fun a S=>?_)))))
 obtain ⟨r6,aw,h⟩:=bS h
 have S1:=S.mem
 refine sCq [.agg #[iv p0.Stitches,iv p0.Width,iv p0.Rows,iv p0.Height]] (iv r6) S callee46 (S1.quiet [0] d) (fun E1 w1 S1=>c_gauge_Check E1 w1 p0 (.agg #[iv p0.Stitches,iv p0.Width,iv p0.Rows,iv p0.Height]) r6 aw S1) fun a w S=>?_
 refine sN S fun a S=>?_
 refine lT (av _ _ (sSeq (fun K8 ax=>sRegion (sM S fun a S=>?_))))
 refine sBin _ S (wN d) d d d (bNe _ _ _ _ .i64 r6 0) d (lb d) fun a S=>lT (ax _ _ ?_)
 rcases iS h with ⟨ac,h⟩ | ⟨ac,h⟩
 ·refine sCondT S d ac (sSeq (fun ay ae=>sRegion (sM S fun a S=>?_)))
  refine sN S fun a S=>?_
  refine sN S fun a S=>?_
  refine lT (ae _ _ ?_)
  obtain rfl:=tS h
  exact wp_ret (rThen (sRet (.tuple #[iv 0,iv r6]) S (rsl2 d (rvT (t:=10) (v:=iv 0) S d) (rvT (t:=11) (v:=iv r6) S d)) ⟨(),d,S.mem.sel [] [] (by decide) d d⟩))
 refine sCondF S d ac (wp_skip (leafT (au _ _ ?_)))
 refine sSeq (fun az af=>sSeq (fun aA ag=>sRegion (sM S fun a S=>?_)))
 refine sM S fun a S=>?_
 obtain ⟨ah,ai,h⟩:=bS h
 have S1:=S.mem
 refine sCq [iv p2,iv 0,iv p3] (.bool ah) S callee47 (S1.quiet [] d) (fun E1 w1 S1=>c_gauge_within E1 w1 p2 0 p3 ah ai S1) fun a w S=>?_
 refine sNot (b:=ah) S (wN d) d d d (lb d) fun a S=>lT (ag _ _ ?_)
 rcases iS h with ⟨a9,h⟩ | ⟨a9,h⟩
 ·refine sCondT S d a9 (sSeq (fun aC aj=>sRegion (sN S fun a S=>?_)))
  refine sN S fun a S=>?_
  refine lT (aj _ _ ?_)
  obtain rfl:=tS h
  exact wp_ret (rThen (sRet (.tuple #[iv 0,iv 2]) S (rsl2 d (rvT (t:=10) (v:=iv 0) S d) (rvT (t:=11) (v:=iv 2) S d)) ⟨(),d,S.mem.sel [] [] (by decide) d d⟩))
 refine sCondF S d a9 (wp_skip (leafT (af _ _ ?_)))
 refine sSeq (fun aG ak=>sRegion (sLoadN (p:=b3) (off:=0) (T:=61) (vs:=[iv p1.num,iv p1.den]) 0 [iv p1.num,iv p1.den] S (wN d) d d d d d d d (lb d) fun a S=>sM S fun a S=>?_))
 obtain ⟨ab,al,h⟩:=bS h
 have S1:=S.mem
 refine sCq [.agg #[iv p1.num,iv p1.den],iv p2] (iv ab) S callee48 (S1.quiet [1] d) (fun E1 w1 S1=>c_gauge_ratio_of E1 w1 p1 (.agg #[iv p1.num,iv p1.den]) p2 ab al S1) fun a w S=>?_
 refine sN S fun a S=>?_
 refine lT (ak _ _ (sSeq (fun aH am=>sSeq (fun aI ao=>sRegion (sM S fun a S=>?_)))))
 refine sM S fun a S=>?_
 refine sBin _ S (wN d) d d d (bGt _ _ _ _ .i64 ab p4) d (lb d) fun a S=>lT (ao _ _ ?_)
 rcases iS h with ⟨aa,h⟩ | ⟨aa,h⟩
 ·refine sCondT S d aa (sSeq (fun aJ ap=>sRegion (sN S fun a S=>?_)))
  refine sN S fun a S=>?_
  refine lT (ap _ _ ?_)
  obtain rfl:=tS h
  exact wp_ret (rThen (sRet (.tuple #[iv 0,iv 16]) S (rsl2 d (rvT (t:=10) (v:=iv 0) S d) (rvT (t:=11) (v:=iv 16) S d)) ⟨(),d,S.mem.sel [] [] (by decide) d d⟩))
 refine sCondF S d aa (wp_skip (leafT (am _ _ ?_)))
 refine sSeq (fun aK aq=>sRegion (sM S fun a S=>?_))
 refine sN S fun a S=>?_
 refine sN S fun a S=>?_
 refine lT (aq _ _ ?_)
 obtain rfl:=tS h
 exact wp_ret (sRet (.tuple #[iv ab,iv 0]) S (rsl2 d (rvT (t:=10) (v:=iv ab) S d) (rvT (t:=11) (v:=iv 0) S d)) ⟨(),d,S.mem.sel [] [] (by decide) d d⟩)
noncomputable def F_gauge_Stitches (p0:api_Gauge) (p1:Int):Option (Int × Int):=
 (F_gauge_scale p0 (gauge_ratio.mk p0.Stitches p0.Width) p1 1000000 1000000).bind fun r4=>
 some (r4.1,r4.2)
theorem c_gauge_Stitches (E:Nat→Prop) (w0:World) (p0:api_Gauge) (v0:Value) (p1:Int) (r:(Int × Int)) (h:F_gauge_Stitches p0 p1=some r) (S:St0 E [] w0 w0 [] [fRep r_api_Gauge (v0) p0]) :
 Calls Try.prog 8 #[v0,iv p1] w0 (Ret (X:=Unit) E [] w0 (fun _=>.tuple #[.int .i64 r.1,.int .i64 r.2]) (fun _=>[]) (fun _=>[])):=by
 unfold F_gauge_Stitches at h
 obtain rfl:v0=.agg #[iv p0.Stitches,iv p0.Width,iv p0.Rows,iv p0.Height]:=S.know (i:=0) (e:=fRep r_api_Gauge (v0) p0) d
 refine sEnter (args:=[.agg #[iv p0.Stitches,iv p0.Width,iv p0.Rows,iv p0.Height],iv p1]) 16 Try.func8 d d (by simp) S (fun a S=>?_)
 refine sSeq (fun K1 a9=>sRegion (sBox (v:=.agg #[iv p0.Stitches,iv p0.Width,iv p0.Rows,iv p0.Height]) S (wN d) d d [iv p0.Stitches,iv p0.Width,iv p0.Rows,iv p0.Height] d d (lb d) fun a b2 w S=>sN S fun a S=>?_))
 refine sN S fun a S=>?_
 refine lT (a9 _ _ (sSeq (fun K3 aa=>sRegion (sLoadN (p:=b2) (off:=0) (T:=23) (vs:=[iv p0.Stitches,iv p0.Width,iv p0.Rows,iv p0.Height]) 0 [iv p0.Stitches,iv p0.Width,iv p0.Rows,iv p0.Height] S (wN d) d d d d d d d (lb d) fun a S=>sField (b:=b2) (off:=0) 0 0 S (wN d) d d d d d (lb d) fun a S=>sLoad1 0 (iv p0.Stitches) S (wN d) d d d d d d (lb d) fun a S=>sField (b:=b2) (off:=0) 1 1 S (wN d) d d d d d (lb d) fun a S=>sLoad1 0 (iv p0.Width) S (wN d) d d d d d d (lb d) fun a S=>sBuild [(0,iv p0.Stitches),(1,iv p0.Width)] [iv p0.Stitches,iv p0.Width] S (wN d) d d d d (lb d) fun a S=>sM S fun a S=>?_))))
 obtain ⟨r4,ab,h⟩:=bS h
 have S1:=S.mem
 have S1:=S1.learn (fRep r_gauge_ratio (.agg #[iv p0.Stitches,iv p0.Width]) (gauge_ratio.mk p0.Stitches p0.Width)) d
 refine sCq [.agg #[iv p0.Stitches,iv p0.Width,iv p0.Rows,iv p0.Height],.agg #[iv p0.Stitches,iv p0.Width],iv p1,iv 1000000,iv 1000000] (.tuple #[iv r4.1,iv r4.2]) S callee21 (S1.quiet [1,0] d) (fun E1 w1 S1=>c_gauge_scale E1 w1 p0 (.agg #[iv p0.Stitches,iv p0.Width,iv p0.Rows,iv p0.Height]) (gauge_ratio.mk p0.Stitches p0.Width) (.agg #[iv p0.Stitches,iv p0.Width]) p1 1000000 1000000 r4 ab S1) fun a w S=>?_
 refine sExtract (vs:=[iv r4.1,iv r4.2]) (iv r4.1) S (wN d) d d d d (lb d) fun a S=>sExtract (vs:=[iv r4.1,iv r4.2]) (iv r4.2) S (wN d) d d d d (lb d) fun a S=>sN S fun a S=>?_
 refine sN S fun a S=>?_
 refine lT (aa _ _ ?_)
 obtain rfl:=tS h
 exact wp_ret (sRet (.tuple #[iv r4.1,iv r4.2]) S (rsl2 d (rvT (t:=4) (v:=iv r4.1) S d) (rvT (t:=5) (v:=iv r4.2) S d)) ⟨(),d,S.mem.sel [] [] (by decide) d d⟩)
noncomputable def F_gauge_Rows (p0:api_Gauge) (p1:Int):Option (Int × Int):=
 (F_gauge_scale p0 (gauge_ratio.mk p0.Rows p0.Height) p1 1000000 1000000).bind fun r4=>
 some (r4.1,r4.2)
theorem c_gauge_Rows (E:Nat→Prop) (w0:World) (p0:api_Gauge) (v0:Value) (p1:Int) (r:(Int × Int)) (h:F_gauge_Rows p0 p1=some r) (S:St0 E [] w0 w0 [] [fRep r_api_Gauge (v0) p0]) :
 Calls Try.prog 9 #[v0,iv p1] w0 (Ret (X:=Unit) E [] w0 (fun _=>.tuple #[.int .i64 r.1,.int .i64 r.2]) (fun _=>[]) (fun _=>[])):=by
 unfold F_gauge_Rows at h
 obtain rfl:v0=.agg #[iv p0.Stitches,iv p0.Width,iv p0.Rows,iv p0.Height]:=S.know (i:=0) (e:=fRep r_api_Gauge (v0) p0) d
 refine sEnter (args:=[.agg #[iv p0.Stitches,iv p0.Width,iv p0.Rows,iv p0.Height],iv p1]) 16 Try.func9 d d (by simp) S (fun a S=>?_)
 refine sSeq (fun K1 a9=>sRegion (sBox (v:=.agg #[iv p0.Stitches,iv p0.Width,iv p0.Rows,iv p0.Height]) S (wN d) d d [iv p0.Stitches,iv p0.Width,iv p0.Rows,iv p0.Height] d d (lb d) fun a b2 w S=>sN S fun a S=>?_))
 refine sN S fun a S=>?_
 refine lT (a9 _ _ (sSeq (fun K3 aa=>sRegion (sLoadN (p:=b2) (off:=0) (T:=23) (vs:=[iv p0.Stitches,iv p0.Width,iv p0.Rows,iv p0.Height]) 0 [iv p0.Stitches,iv p0.Width,iv p0.Rows,iv p0.Height] S (wN d) d d d d d d d (lb d) fun a S=>sField (b:=b2) (off:=0) 2 2 S (wN d) d d d d d (lb d) fun a S=>sLoad1 0 (iv p0.Rows) S (wN d) d d d d d d (lb d) fun a S=>sField (b:=b2) (off:=0) 3 3 S (wN d) d d d d d (lb d) fun a S=>sLoad1 0 (iv p0.Height) S (wN d) d d d d d d (lb d) fun a S=>sBuild [(0,iv p0.Rows),(1,iv p0.Height)] [iv p0.Rows,iv p0.Height] S (wN d) d d d d (lb d) fun a S=>sM S fun a S=>?_))))
 obtain ⟨r4,ab,h⟩:=bS h
 have S1:=S.mem
 have S1:=S1.learn (fRep r_gauge_ratio (.agg #[iv p0.Rows,iv p0.Height]) (gauge_ratio.mk p0.Rows p0.Height)) d
 refine sCq [.agg #[iv p0.Stitches,iv p0.Width,iv p0.Rows,iv p0.Height],.agg #[iv p0.Rows,iv p0.Height],iv p1,iv 1000000,iv 1000000] (.tuple #[iv r4.1,iv r4.2]) S callee21 (S1.quiet [1,0] d) (fun E1 w1 S1=>c_gauge_scale E1 w1 p0 (.agg #[iv p0.Stitches,iv p0.Width,iv p0.Rows,iv p0.Height]) (gauge_ratio.mk p0.Rows p0.Height) (.agg #[iv p0.Rows,iv p0.Height]) p1 1000000 1000000 r4 ab S1) fun a w S=>?_
 refine sExtract (vs:=[iv r4.1,iv r4.2]) (iv r4.1) S (wN d) d d d d (lb d) fun a S=>sExtract (vs:=[iv r4.1,iv r4.2]) (iv r4.2) S (wN d) d d d d (lb d) fun a S=>sN S fun a S=>?_
 refine sN S fun a S=>?_
 refine lT (aa _ _ ?_)
 obtain rfl:=tS h
 exact wp_ret (sRet (.tuple #[iv r4.1,iv r4.2]) S (rsl2 d (rvT (t:=4) (v:=iv r4.1) S d) (rvT (t:=5) (v:=iv r4.2) S d)) ⟨(),d,S.mem.sel [] [] (by decide) d d⟩)
noncomputable def F_gauge_Height (p0:api_Gauge) (p1:Int):Option (Int × Int):=
 (F_gauge_scale p0 (gauge_ratio.mk p0.Height p0.Rows) p1 1000000 1000000).bind fun r4=>
 some (r4.1,r4.2)
theorem c_gauge_Height (E:Nat→Prop) (w0:World) (p0:api_Gauge) (v0:Value) (p1:Int) (r:(Int × Int)) (h:F_gauge_Height p0 p1=some r) (S:St0 E [] w0 w0 [] [fRep r_api_Gauge (v0) p0]) :
 Calls Try.prog 38 #[v0,iv p1] w0 (Ret (X:=Unit) E [] w0 (fun _=>.tuple #[.int .i64 r.1,.int .i64 r.2]) (fun _=>[]) (fun _=>[])):=by
 unfold F_gauge_Height at h
 obtain rfl:v0=.agg #[iv p0.Stitches,iv p0.Width,iv p0.Rows,iv p0.Height]:=S.know (i:=0) (e:=fRep r_api_Gauge (v0) p0) d
 refine sEnter (args:=[.agg #[iv p0.Stitches,iv p0.Width,iv p0.Rows,iv p0.Height],iv p1]) 16 Try.func38 d d (by simp) S (fun a S=>?_)
 refine sSeq (fun K1 a9=>sRegion (sBox (v:=.agg #[iv p0.Stitches,iv p0.Width,iv p0.Rows,iv p0.Height]) S (wN d) d d [iv p0.Stitches,iv p0.Width,iv p0.Rows,iv p0.Height] d d (lb d) fun a b2 w S=>sN S fun a S=>?_))
 refine sN S fun a S=>?_
 refine lT (a9 _ _ (sSeq (fun K3 aa=>sRegion (sLoadN (p:=b2) (off:=0) (T:=23) (vs:=[iv p0.Stitches,iv p0.Width,iv p0.Rows,iv p0.Height]) 0 [iv p0.Stitches,iv p0.Width,iv p0.Rows,iv p0.Height] S (wN d) d d d d d d d (lb d) fun a S=>sField (b:=b2) (off:=0) 3 3 S (wN d) d d d d d (lb d) fun a S=>sLoad1 0 (iv p0.Height) S (wN d) d d d d d d (lb d) fun a S=>sField (b:=b2) (off:=0) 2 2 S (wN d) d d d d d (lb d) fun a S=>sLoad1 0 (iv p0.Rows) S (wN d) d d d d d d (lb d) fun a S=>sBuild [(0,iv p0.Height),(1,iv p0.Rows)] [iv p0.Height,iv p0.Rows] S (wN d) d d d d (lb d) fun a S=>sM S fun a S=>?_))))
 obtain ⟨r4,ab,h⟩:=bS h
 have S1:=S.mem
 have S1:=S1.learn (fRep r_gauge_ratio (.agg #[iv p0.Height,iv p0.Rows]) (gauge_ratio.mk p0.Height p0.Rows)) d
 refine sCq [.agg #[iv p0.Stitches,iv p0.Width,iv p0.Rows,iv p0.Height],.agg #[iv p0.Height,iv p0.Rows],iv p1,iv 1000000,iv 1000000] (.tuple #[iv r4.1,iv r4.2]) S callee21 (S1.quiet [1,0] d) (fun E1 w1 S1=>c_gauge_scale E1 w1 p0 (.agg #[iv p0.Stitches,iv p0.Width,iv p0.Rows,iv p0.Height]) (gauge_ratio.mk p0.Height p0.Rows) (.agg #[iv p0.Height,iv p0.Rows]) p1 1000000 1000000 r4 ab S1) fun a w S=>?_
 refine sExtract (vs:=[iv r4.1,iv r4.2]) (iv r4.1) S (wN d) d d d d (lb d) fun a S=>sExtract (vs:=[iv r4.1,iv r4.2]) (iv r4.2) S (wN d) d d d d (lb d) fun a S=>sN S fun a S=>?_
 refine sN S fun a S=>?_
 refine lT (aa _ _ ?_)
 obtain rfl:=tS h
 exact wp_ret (sRet (.tuple #[iv r4.1,iv r4.2]) S (rsl2 d (rvT (t:=4) (v:=iv r4.1) S d) (rvT (t:=5) (v:=iv r4.2) S d)) ⟨(),d,S.mem.sel [] [] (by decide) d d⟩)
noncomputable def F_raddleref35_Check (p0:api_Gauge):Option Int:=
 Option.bind (α:=Bool) (
  if decide (p0.Stitches < 1) then
   some true
  else
   if decide (10000 < p0.Stitches) then
    some true
   else
    if decide (p0.Width < 1) then
     some true
    else
     if decide (10000 < p0.Width) then
      some true
     else
      if decide (p0.Rows < 1) then
       some true
      else
       if decide (10000 < p0.Rows) then
        some true
       else
        if decide (p0.Height < 1) then
         some true
        else
         some (decide (10000 < p0.Height))) fun o4=>
 if o4 then
  some 8
 else
  some 0
theorem c_raddleref35_Check (E:Nat→Prop) (w0:World) (p0:api_Gauge) (v0:Value) (r:Int) (h:F_raddleref35_Check p0=some r) (S:St0 E [] w0 w0 [] [fRep r_api_Gauge (v0) p0]) :
 Calls Try.prog 5 #[v0] w0 (Ret (X:=Unit) E [] w0 (fun _=>.int .i64 r) (fun _=>[]) (fun _=>[])):=by
 unfold F_raddleref35_Check at h
 obtain rfl:v0=.agg #[iv p0.Stitches,iv p0.Width,iv p0.Rows,iv p0.Height]:=S.know (i:=0) (e:=fRep r_api_Gauge (v0) p0) d
 refine sEnter (args:=[.agg #[iv p0.Stitches,iv p0.Width,iv p0.Rows,iv p0.Height]]) 41 Try.func5 d d (by simp) S (fun a S=>?_)
 refine sSeq (fun K1 ak=>sRegion (sBox (v:=.agg #[iv p0.Stitches,iv p0.Width,iv p0.Rows,iv p0.Height]) S (wN d) d d [iv p0.Stitches,iv p0.Width,iv p0.Rows,iv p0.Height] d d (lb d) fun a b2 w S=>sN S fun a S=>?_))
 refine lT (ak _ _ (sSeq (fun K3 al=>?_)))
 obtain ⟨t5,h,g6⟩:=bS h
 refine sCut (fun a w=>∃ o4,o4=t5∧St [] E [] w0 41 a w [(40,.bool o4)] [] []) ?_ (fun a w hI=>?_)
 rotate_left
 ·obtain ⟨o4,rfl,S⟩:=hI
  have h:=g6
  try dsimp only at h
  rcases iS h with ⟨ae,h⟩ | ⟨ae,h⟩
  ·refine sCondT S d ae (sSeq (fun am ai=>sRegion (sN S fun a S=>?_)))
   refine lT (ai _ _ ?_)
   obtain rfl:=tS h
   exact wp_ret (rThen (sRet (iv 8) S (rsl1 d (rvT (t:=2) (v:=iv 8) S d)) ⟨(),d,S.mem.sel [] [] (by decide) d d⟩))
  refine sCondF S d ae (wp_skip (leafT (al _ _ ?_)))
  refine sSeq (fun ao aj=>sRegion (sN S fun a S=>?_))
  refine lT (aj _ _ ?_)
  obtain rfl:=tS h
  exact wp_ret (sRet (iv 0) S (rsl1 d (rvT (t:=2) (v:=iv 0) S d)) ⟨(),d,S.mem.sel [] [] (by decide) d d⟩)
 refine sRegion (sField (b:=b2) (off:=0) 0 0 S (wN d) d d d d d (lb d) fun a S=>sLoad1 0 (iv p0.Stitches) S (wN d) d d d d d d (lb d) fun a S=>sBin _ S (wN d) d d d (bLt _ _ _ _ .i64 p0.Stitches 1) d (lb d) fun a S=>sM S fun a S=>?_)
 rcases iS h with ⟨af,h⟩ | ⟨af,h⟩
 ·refine sSkN 3 3 false 6 S d d af d fun a S=>sPickT (.bool true) S (wN d) d d af d d (lb d) fun a S=>sM S fun a S=>?_
  refine sSkN 3 8 false 11 S d d d d fun a S=>sPickT (.bool true) S (wN d) d d d d d (lb d) fun a S=>sM S fun a S=>?_
  refine sSkN 3 13 false 16 S d d d d fun a S=>sPickT (.bool true) S (wN d) d d d d d (lb d) fun a S=>sM S fun a S=>?_
  refine sSkN 3 18 false 21 S d d d d fun a S=>sPickT (.bool true) S (wN d) d d d d d (lb d) fun a S=>sM S fun a S=>?_
  refine sSkN 3 23 false 26 S d d d d fun a S=>sPickT (.bool true) S (wN d) d d d d d (lb d) fun a S=>sM S fun a S=>?_
  refine sSkN 3 28 false 31 S d d d d fun a S=>sPickT (.bool true) S (wN d) d d d d d (lb d) fun a S=>sM S fun a S=>?_
  refine sSkN 3 33 false 36 S d d d d fun a S=>sPickT (.bool true) S (wN d) d d d d d (lb d) fun a S=>?_
  exact lT (⟨true,Option.some.inj h,S.fix [] [] (by decide) d d d⟩)
 refine sField (b:=b2) (off:=0) 0 0 S (wG 3 false 6 d d d af) d d d d d (lb d) fun a S=>sLoad1 0 (iv p0.Stitches) S (wG 3 false 6 d d d af) d d d d d d (lb d) fun a S=>sBin _ S (wG 3 false 6 d d d af) d d d (bGt _ _ _ _ .i64 p0.Stitches 10000) d (lb d) fun a S=>sPickF (.bool (decide (10000 < p0.Stitches))) S (wN d) d d af d d (lb d) fun a S=>sM S fun a S=>?_
 rcases iS h with ⟨ag,h⟩ | ⟨ag,h⟩
 ·refine sSkN 3 8 false 11 S d d ag d fun a S=>sPickT (.bool true) S (wN d) d d ag d d (lb d) fun a S=>sM S fun a S=>?_
  refine sSkN 3 13 false 16 S d d d d fun a S=>sPickT (.bool true) S (wN d) d d d d d (lb d) fun a S=>sM S fun a S=>?_
  refine sSkN 3 18 false 21 S d d d d fun a S=>sPickT (.bool true) S (wN d) d d d d d (lb d) fun a S=>sM S fun a S=>?_
  refine sSkN 3 23 false 26 S d d d d fun a S=>sPickT (.bool true) S (wN d) d d d d d (lb d) fun a S=>sM S fun a S=>?_
  refine sSkN 3 28 false 31 S d d d d fun a S=>sPickT (.bool true) S (wN d) d d d d d (lb d) fun a S=>sM S fun a S=>?_
  refine sSkN 3 33 false 36 S d d d d fun a S=>sPickT (.bool true) S (wN d) d d d d d (lb d) fun a S=>?_
  exact lT (⟨true,Option.some.inj h,S.fix [] [] (by decide) d d d⟩)
 refine sField (b:=b2) (off:=0) 1 1 S (wG 8 false 11 d d d ag) d d d d d (lb d) fun a S=>sLoad1 0 (iv p0.Width) S (wG 8 false 11 d d d ag) d d d d d d (lb d) fun a S=>sBin _ S (wG 8 false 11 d d d ag) d d d (bLt _ _ _ _ .i64 p0.Width 1) d (lb d) fun a S=>sPickF (.bool (decide (p0.Width < 1))) S (wN d) d d ag d d (lb d) fun a S=>sM S fun a S=>?_
 rcases iS h with ⟨ah,h⟩ | ⟨ah,h⟩
 ·refine sSkN 3 13 false 16 S d d ah d fun a S=>sPickT (.bool true) S (wN d) d d ah d d (lb d) fun a S=>sM S fun a S=>?_
  refine sSkN 3 18 false 21 S d d d d fun a S=>sPickT (.bool true) S (wN d) d d d d d (lb d) fun a S=>sM S fun a S=>?_
  refine sSkN 3 23 false 26 S d d d d fun a S=>sPickT (.bool true) S (wN d) d d d d d (lb d) fun a S=>sM S fun a S=>?_
  refine sSkN 3 28 false 31 S d d d d fun a S=>sPickT (.bool true) S (wN d) d d d d d (lb d) fun a S=>sM S fun a S=>?_
  refine sSkN 3 33 false 36 S d d d d fun a S=>sPickT (.bool true) S (wN d) d d d d d (lb d) fun a S=>?_
  exact lT (⟨true,Option.some.inj h,S.fix [] [] (by decide) d d d⟩)
 refine sField (b:=b2) (off:=0) 1 1 S (wG 13 false 16 d d d ah) d d d d d (lb d) fun a S=>sLoad1 0 (iv p0.Width) S (wG 13 false 16 d d d ah) d d d d d d (lb d) fun a S=>sBin _ S (wG 13 false 16 d d d ah) d d d (bGt _ _ _ _ .i64 p0.Width 10000) d (lb d) fun a S=>sPickF (.bool (decide (10000 < p0.Width))) S (wN d) d d ah d d (lb d) fun a S=>sM S fun a S=>?_
 rcases iS h with ⟨a9,h⟩ | ⟨a9,h⟩
 ·refine sSkN 3 18 false 21 S d d a9 d fun a S=>sPickT (.bool true) S (wN d) d d a9 d d (lb d) fun a S=>sM S fun a S=>?_
  refine sSkN 3 23 false 26 S d d d d fun a S=>sPickT (.bool true) S (wN d) d d d d d (lb d) fun a S=>sM S fun a S=>?_
  refine sSkN 3 28 false 31 S d d d d fun a S=>sPickT (.bool true) S (wN d) d d d d d (lb d) fun a S=>sM S fun a S=>?_
  refine sSkN 3 33 false 36 S d d d d fun a S=>sPickT (.bool true) S (wN d) d d d d d (lb d) fun a S=>?_
  exact lT (⟨true,Option.some.inj h,S.fix [] [] (by decide) d d d⟩)
 refine sField (b:=b2) (off:=0) 2 2 S (wG 18 false 21 d d d a9) d d d d d (lb d) fun a S=>sLoad1 0 (iv p0.Rows) S (wG 18 false 21 d d d a9) d d d d d d (lb d) fun a S=>sBin _ S (wG 18 false 21 d d d a9) d d d (bLt _ _ _ _ .i64 p0.Rows 1) d (lb d) fun a S=>sPickF (.bool (decide (p0.Rows < 1))) S (wN d) d d a9 d d (lb d) fun a S=>sM S fun a S=>?_
 rcases iS h with ⟨aa,h⟩ | ⟨aa,h⟩
 ·refine sSkN 3 23 false 26 S d d aa d fun a S=>sPickT (.bool true) S (wN d) d d aa d d (lb d) fun a S=>sM S fun a S=>?_
  refine sSkN 3 28 false 31 S d d d d fun a S=>sPickT (.bool true) S (wN d) d d d d d (lb d) fun a S=>sM S fun a S=>?_
  refine sSkN 3 33 false 36 S d d d d fun a S=>sPickT (.bool true) S (wN d) d d d d d (lb d) fun a S=>?_
  exact lT (⟨true,Option.some.inj h,S.fix [] [] (by decide) d d d⟩)
 refine sField (b:=b2) (off:=0) 2 2 S (wG 23 false 26 d d d aa) d d d d d (lb d) fun a S=>sLoad1 0 (iv p0.Rows) S (wG 23 false 26 d d d aa) d d d d d d (lb d) fun a S=>sBin _ S (wG 23 false 26 d d d aa) d d d (bGt _ _ _ _ .i64 p0.Rows 10000) d (lb d) fun a S=>sPickF (.bool (decide (10000 < p0.Rows))) S (wN d) d d aa d d (lb d) fun a S=>sM S fun a S=>?_
 rcases iS h with ⟨ab,h⟩ | ⟨ab,h⟩
 ·refine sSkN 3 28 false 31 S d d ab d fun a S=>sPickT (.bool true) S (wN d) d d ab d d (lb d) fun a S=>sM S fun a S=>?_
  refine sSkN 3 33 false 36 S d d d d fun a S=>sPickT (.bool true) S (wN d) d d d d d (lb d) fun a S=>?_
  exact lT (⟨true,Option.some.inj h,S.fix [] [] (by decide) d d d⟩)
 refine sField (b:=b2) (off:=0) 3 3 S (wG 28 false 31 d d d ab) d d d d d (lb d) fun a S=>sLoad1 0 (iv p0.Height) S (wG 28 false 31 d d d ab) d d d d d d (lb d) fun a S=>sBin _ S (wG 28 false 31 d d d ab) d d d (bLt _ _ _ _ .i64 p0.Height 1) d (lb d) fun a S=>sPickF (.bool (decide (p0.Height < 1))) S (wN d) d d ab d d (lb d) fun a S=>sM S fun a S=>?_
 rcases iS h with ⟨ac,h⟩ | ⟨ac,h⟩
 ·refine sSkN 3 33 false 36 S d d ac d fun a S=>sPickT (.bool true) S (wN d) d d ac d d (lb d) fun a S=>?_
  exact lT (⟨true,Option.some.inj h,S.fix [] [] (by decide) d d d⟩)
 refine sField (b:=b2) (off:=0) 3 3 S (wG 33 false 36 d d d ac) d d d d d (lb d) fun a S=>sLoad1 0 (iv p0.Height) S (wG 33 false 36 d d d ac) d d d d d d (lb d) fun a S=>sBin _ S (wG 33 false 36 d d d ac) d d d (bGt _ _ _ _ .i64 p0.Height 10000) d (lb d) fun a S=>sPickF (.bool (decide (10000 < p0.Height))) S (wN d) d d ac d d (lb d) fun a S=>?_
 exact lT (⟨decide (10000 < p0.Height),Option.some.inj h,S.fix [] [] (by decide) d d d⟩)
def gok (g:api_Gauge):Bool:=decide (1 ≤ g.Stitches) && decide (g.Stitches ≤ 10000) && decide (1 ≤ g.Width) && decide (g.Width ≤ 10000) && decide (1 ≤ g.Rows) && decide (g.Rows ≤ 10000) && decide (1 ≤ g.Height) && decide (g.Height ≤ 10000)
theorem gok_spec {g:api_Gauge} (h:gok g=true):1 ≤ g.Stitches∧g.Stitches ≤ 10000∧1 ≤ g.Width∧g.Width ≤ 10000∧1 ≤ g.Rows∧g.Rows ≤ 10000∧1 ≤ g.Height∧g.Height ≤ 10000:=by
 simp only [gok,Bool.and_eq_true,decide_eq_true_eq] at h
 omega
theorem gwithin_eq (a b c:Int):F_gauge_within a b c=some (decide (b ≤ a) && decide (a ≤ c)):=by
 unfold F_gauge_within
 by_cases h:b ≤ a <;> simp [h]
theorem gcheck_eq (g:api_Gauge):F_gauge_Check g=some (if gok g then 0 else 8):=by
 have key:∃ t,whileO (gauge_Check_l1 g) 0=some t∧t=(if gok g then .inr () else .inl 8):=by
  refine loop_ix 4 (fun k=>∀ j,j < k→∀ x,([g.Stitches,g.Width,g.Rows,g.Height]:List Int)[j]?=some x→1 ≤ x∧x ≤ 10000) _ (fun j h=>absurd h (Nat.not_lt_zero j)) ?_ ?_
  ·intro k hk hI
   have hx:idxO ([g.Stitches,g.Width,g.Rows,g.Height]:List Int) (k:Int)=some ([g.Stitches,g.Width,g.Rows,g.Height][k]'hk):=idxO_nat hk
   have hk':decide ((k:Int) < 4)=true:=by simp; omega
   by_cases h:1 ≤ [g.Stitches,g.Width,g.Rows,g.Height][k]'hk∧[g.Stitches,g.Width,g.Rows,g.Height][k]'hk ≤ 10000
   ·refine .inl ⟨?_,fun j hj x hxx=>?_⟩
    ·unfold gauge_Check_l1
     simp only [hk',if_true,hx,Option.bind_some,gwithin_eq,h.1,h.2,decide_true,Bool.and_self,Bool.not_true,Bool.false_eq_true,if_false,w64_succ (show k < 9223372036854775807 by omega)]
    ·by_cases e:j=k
     ·subst e
      rw [List.getElem?_eq_getElem hk] at hxx
      cases hxx; exact h
     ·exact hI j (by omega) x hxx
   ·refine .inr ⟨.inl 8,?_,?_⟩
    ·unfold gauge_Check_l1
     have hb:(decide (1 ≤ [g.Stitches,g.Width,g.Rows,g.Height][k]'hk) && decide ([g.Stitches,g.Width,g.Rows,g.Height][k]'hk ≤ 10000))=false:=by
      simpa using h
     simp only [hk',if_true,hx,Option.bind_some,gwithin_eq,hb,Bool.not_false]
    ·have:gok g=false:=by
      cases hg:gok g with
      | false=>rfl
      | true=>
       have:=gok_spec hg
       exfalso; apply h
       match k,hk with
       | 0,_=>exact ⟨this.1,this.2.1⟩
       | 1,_=>exact ⟨this.2.2.1,this.2.2.2.1⟩
       | 2,_=>exact ⟨this.2.2.2.2.1,this.2.2.2.2.2.1⟩
       | 3,_=>exact this.2.2.2.2.2.2
     rw [this]; rfl
  ·intro hI
   refine ⟨.inr (),by unfold gauge_Check_l1; rfl,?_⟩
   have h0:=hI 0 (by omega) _ rfl
   have h1:=hI 1 (by omega) _ rfl
   have h2:=hI 2 (by omega) _ rfl
   have h3:=hI 3 (by omega) _ rfl
   have:gok g=true:=by simp only [gok,Bool.and_eq_true,decide_eq_true_eq]; omega
   rw [this]; rfl
 obtain ⟨t,h1,h2⟩:=key
 unfold F_gauge_Check
 rw [h1,h2]
 cases gok g <;> rfl
theorem r35_eq (g:api_Gauge):F_raddleref35_Check g=some (if gok g then 0 else 8):=by
 unfold F_raddleref35_Check
 cases hg:gok g with
 | true=>
  have:=gok_spec hg
  have e1:¬ g.Stitches < 1:=by omega
  have e2:¬ 10000 < g.Stitches:=by omega
  have e3:¬ g.Width < 1:=by omega
  have e4:¬ 10000 < g.Width:=by omega
  have e5:¬ g.Rows < 1:=by omega
  have e6:¬ 10000 < g.Rows:=by omega
  have e7:¬ g.Height < 1:=by omega
  have e8:¬ 10000 < g.Height:=by omega
  simp [e1,e2,e3,e4,e5,e6,e7,e8]
 | false=>
  have hn:g.Stitches < 1 ∨ 10000 < g.Stitches ∨ g.Width < 1 ∨ 10000 < g.Width ∨ g.Rows < 1 ∨ 10000 < g.Rows ∨ g.Height < 1 ∨ 10000 < g.Height:=by
   simp only [gok,Bool.and_eq_false_iff,decide_eq_false_iff_not] at hg
   omega
  by_cases e1:g.Stitches < 1
  ·simp [e1]
  by_cases e2:10000 < g.Stitches
  ·simp [e1,e2]
  by_cases e3:g.Width < 1
  ·simp [e1,e2,e3]
  by_cases e4:10000 < g.Width
  ·simp [e1,e2,e3,e4]
  by_cases e5:g.Rows < 1
  ·simp [e1,e2,e3,e4,e5]
  by_cases e6:10000 < g.Rows
  ·simp [e1,e2,e3,e4,e5,e6]
  by_cases e7:g.Height < 1
  ·simp [e1,e2,e3,e4,e5,e6,e7]
  ·have e8:10000 < g.Height:=by omega
   simp [e1,e2,e3,e4,e5,e6,e7,e8]
def near (v num den:Int):Int:=(2 * v * num + den) / (2 * den)
theorem near_of {v num den:Int} (h0:0 ≤ v) (h1:v ≤ 1000000) (n1:1 ≤ num) (n2:num ≤ 10000) (d1:1 ≤ den) (d2:den ≤ 10000):F_gauge_ratio_of (gauge_ratio.mk num den) v=some (near v num den):=by
 have hp0:0 ≤ v * num:=Int.mul_nonneg h0 (by omega)
 have hp1:v * num ≤ 10000000000:=by
  have:=Int.mul_le_mul h1 n2 (by omega) (by omega:(0:Int) ≤ 1000000)
  omega
 have e1:2 * v * num=2 * (v * num):=Int.mul_assoc _ _ _
 unfold near
 rw [e1]
 generalize v * num=p at *
 unfold F_gauge_ratio_of
 have a1:w64 (2 * v)=2 * v:=w64_of (by omega) (by omega)
 have a4:w64 (2 * den)=2 * den:=w64_of (by omega) (by omega)
 simp only [a1,e1,a4,quoI]
 have a2:w64 (2 * p)=2 * p:=w64_of (by omega) (by omega)
 have a3:w64 (2 * p + den)=2 * p + den:=w64_of (by omega) (by omega)
 have a5:¬ 2 * den=0:=by omega
 simp only [a2,a3,a5,if_false,Option.bind_some]
 rw [Int.tdiv_eq_ediv_of_nonneg (by omega)]
 have b0:0 ≤ (2 * p + den) / (2 * den):=Int.ediv_nonneg (by omega) (by omega)
 have b1:(2 * p + den) / (2 * den) ≤ 2 * p + den:=Int.ediv_le_self _ (by omega)
 rw [w64_of (by omega) (by omega)]
def sc (ok:Bool) (num den v:Int):Int × Int:=if ok then (if 0 ≤ v∧v ≤ 1000000 then (if 1000000 < near v num den then (0,16) else (near v num den,0)) else (0,2)) else (0,8)
theorem scale_eq (g:api_Gauge) {num den:Int} (v:Int) (h:gok g=true→1 ≤ num∧num ≤ 10000∧1 ≤ den∧den ≤ 10000):F_gauge_scale g (gauge_ratio.mk num den) v 1000000 1000000=some (sc (gok g) num den v):=by
 unfold F_gauge_scale sc
 rw [gcheck_eq]
 cases hg:gok g with
 | false=>simp
 | true=>
  obtain ⟨a,b,c,d⟩:=h hg
  simp only [if_true,Option.bind_some,gwithin_eq]
  by_cases hv:0 ≤ v∧v ≤ 1000000
  ·have e1:=near_of hv.1 hv.2 a b c d
   by_cases hn:1000000 < near v num den <;> simp [hv,e1,hn]
  ·have c:(decide (0 ≤ v) && decide (v ≤ 1000000))=false:=by simpa using hv
   simp [hv,c]
theorem stitches_eq (g:api_Gauge) (v:Int):F_gauge_Stitches g v=some (sc (gok g) g.Stitches g.Width v):=by
 unfold F_gauge_Stitches
 rw [scale_eq g v (fun h=>by have:=gok_spec h; omega)]
 rfl
theorem rows_eq (g:api_Gauge) (v:Int):F_gauge_Rows g v=some (sc (gok g) g.Rows g.Height v):=by
 unfold F_gauge_Rows
 rw [scale_eq g v (fun h=>by have:=gok_spec h; omega)]
 rfl
theorem height_eq (g:api_Gauge) (v:Int):F_gauge_Height g v=some (sc (gok g) g.Height g.Rows v):=by
 unfold F_gauge_Height
 rw [scale_eq g v (fun h=>by have:=gok_spec h; omega)]
 rfl
theorem near_bd {v num den:Int} (h0:0 ≤ v) (n1:1 ≤ num) (d1:1 ≤ den):0 ≤ near v num den:=
 Int.ediv_nonneg (by have:=Int.mul_nonneg (Int.mul_nonneg (show (0:Int) ≤ 2 by omega) h0) (show 0 ≤ num by omega); omega) (by omega)
theorem near_zero {num den:Int} (d1:1 ≤ den):near 0 num den=0:=by
 unfold near
 rw [Int.mul_zero,Int.zero_mul,Int.zero_add]
 exact Int.ediv_eq_zero_of_lt (by omega) (by omega)
theorem sc_cases {num den v:Int} (h0:0 ≤ v) (h1:v ≤ 1000000):(near v num den ≤ 1000000∧sc true num den v=(near v num den,0)) ∨ sc true num den v=(0,16):=by
 unfold sc
 simp only [if_true]
 rw [if_pos ⟨h0,h1⟩]
 by_cases h:1000000 < near v num den
 ·rw [if_pos h]; exact .inr rfl
 ·rw [if_neg h]; exact .inl ⟨by omega,rfl⟩
noncomputable def F_piece_column (p0:Int):Option Bool:=
 Option.bind (α:=Bool) (
  if decide ((-500) ≤ p0) then
   some (decide (p0 ≤ 500))
  else
   some false) fun o2=>
 some o2
theorem c_piece_column (E:Nat→Prop) (w0:World) (p0:Int) (r:Bool) (h:F_piece_column p0=some r) (S:St0 E [] w0 w0 [] []) :
 Calls Try.prog 45 #[iv p0] w0 (Ret (X:=Unit) E [] w0 (fun _=>.bool r) (fun _=>[]) (fun _=>[])):=by
 unfold F_piece_column at h
 refine sEnter (args:=[iv p0]) 9 Try.func45 d d (by simp) S (fun a S=>?_)
 refine sSeq (fun K1 aa=>sRegion (sN S fun a S=>?_))
 refine lT (aa _ _ ?_)
 obtain ⟨t3,h,g4⟩:=bS h
 refine sCut (fun a w=>∃ o2,o2=t3∧St [] E [] w0 9 a w [(2,.bool o2)] [] []) ?_ (fun a w hI=>?_)
 rotate_left
 ·obtain ⟨o2,rfl,S⟩:=hI
  have h:=g4
  try dsimp only at h
  obtain rfl:=tS h
  exact wp_ret (sRet (.bool o2) S (rsl1 d (rvT (t:=2) (v:=.bool o2) S d)) ⟨(),d,S.mem.sel [] [] (by decide) d d⟩)
 refine sRegion (sM S fun a S=>?_)
 refine sBin _ S (wN d) d d d (bGe _ _ _ _ .i64 p0 (-500)) d (lb d) fun a S=>sM S fun a S=>?_
 rcases iS h with ⟨a9,h⟩ | ⟨a9,h⟩
 rotate_left
 ·refine sSkN 2 2 true 5 S d d a9 d fun a S=>sPickF (.bool false) S (wN d) d d a9 d d (lb d) fun a S=>sN S fun a S=>?_
  exact lT (⟨false,Option.some.inj h,S.fix [] [] (by decide) d d d⟩)
 refine sMove (iv p0) S (wG 2 true 5 d d d a9) (.inl d) d d (lb d) fun a S=>sBin _ S (wG 2 true 5 d d d a9) d d d (bLe _ _ _ _ .i64 p0 500) d (lb d) fun a S=>sPickT (.bool (decide (p0 ≤ 500))) S (wN d) d d a9 d d (lb d) fun a S=>sN S fun a S=>?_
 exact lT (⟨decide (p0 ≤ 500),Option.some.inj h,S.fix [] [] (by decide) d d d⟩)
noncomputable def piece_Check_l1 (p0:api_Piece):Int→Option (Int ⊕ (Int ⊕ Unit)):=fun s0=>match s0 with
 | a9=>
  if decide (a9 < (p0.Left.length:Int)) then
   (idxO p0.Left a9).bind fun aa=>
   (idxO p0.Right a9).bind fun ab=>
   Option.bind (α:=Bool) (
    (F_piece_column aa).bind fun ac=>
    if !ac then
     some true
    else
     (F_piece_column ab).bind fun ae=>
     if !ae then
      some true
     else
      if decide (ab ≤ aa) then
       some true
      else
       some (decide (200 < (w64 (ab - aa))))) fun af=>
   if af then
    some (.inr (.inl 8))
   else
    some (.inl (w64 (a9 + 1)))
  else
   some (.inr (.inr ()))
noncomputable def F_piece_Check (p0:api_Piece):Option Int:=
 Option.bind (α:=Bool) (
  if (p0.Left.length:Int) != (p0.Right.length:Int) then
   some true
  else
   if (p0.Left.length:Int) == 0 then
    some true
   else
    some (decide (100 < (p0.Left.length:Int)))) fun a9=>
 if a9 then
  some 8
 else
  Option.bind (α:=Unit ⊕ Int) (
   (whileO (piece_Check_l1 p0) 0).bind fun z0=>match z0 with
    | .inl z=>
     some (.inr z)
    | .inr _=>
     some (.inl ())) fun z0=>match z0 with
   | .inl _=>
    some 0
   | .inr z=>
    some z
theorem c_piece_Check (E:Nat→Prop) (w0:World) (p0:api_Piece) (v0:Value) (r:Int) (h:F_piece_Check p0=some r) (S:St0 E [] w0 w0 [] [fRep r_api_Piece (v0) p0]) :
 Calls Try.prog 20 #[v0] w0 (Ret (X:=Unit) E [] w0 (fun _=>.int .i64 r) (fun _=>[]) (fun _=>[])):=by
 unfold F_piece_Check at h
 obtain ⟨u1,u2,rfl,aT,aU⟩:=S.know (i:=0) (e:=fRep r_api_Piece (v0) p0) d
 have S:=S.learn (fRep (rL (rI .i64)) u1 p0.Left) aT
 obtain ⟨ac,ae,_,rfl,_⟩:=aT
 have S:=S.learn (fRep (rL (rI .i64)) u2 p0.Right) aU
 obtain ⟨aj,ak,_,rfl,_⟩:=aU
 refine sEnter (args:=[.agg #[.slice ac p0.Left.length ae,.slice aj p0.Right.length ak]]) 58 Try.func20 d d (by simp) S (fun a S=>?_)
 refine sSeq (fun K9 bb=>sRegion (sBox (v:=.agg #[.slice ac p0.Left.length ae,.slice aj p0.Right.length ak]) S (wN d) d d [.slice ac p0.Left.length ae,.slice aj p0.Right.length ak] d d (lb d) fun a al w S=>sN S fun a S=>?_))
 refine lT (bb _ _ (sSeq (fun bj av=>?_)))
 obtain ⟨bc,h,bf⟩:=bS h
 refine sCut (fun a w=>∃ aw,aw=bc∧St [] E [] w0 58 a w [(1,.pointer (some ⟨al,0,none⟩)),(24,.bool aw)] [eBox al 36 [.slice ac p0.Left.length ae,.slice aj p0.Right.length ak]] [fRep (rL (rI .i64)) (.slice ac p0.Left.length ae) p0.Left,fRep (rL (rI .i64)) (.slice aj p0.Right.length ak) p0.Right]) ?_ (fun a w hI=>?_)
 ·refine sRegion (sField (b:=al) (off:=0) 0 0 S (wN d) d d d d d (lb d) fun a S=>sLoad1 0 (.slice ac p0.Left.length ae) S (wN d) d d d d d d (lb d) fun a S=>sLen S (wN d) d Try.underlying34 d d (lb d) fun a S=>sField (b:=al) (off:=0) 1 1 S (wN d) d d d d d (lb d) fun a S=>sLoad1 0 (.slice aj p0.Right.length ak) S (wN d) d d d d d d (lb d) fun a S=>sLen S (wN d) d Try.underlying34 d d (lb d) fun a S=>sBin _ S (wN d) d d d (bNe _ _ _ _ .i64 (p0.Left.length:Int) (p0.Right.length:Int)) d (lb d) fun a S=>sM S fun a S=>?_)
  rcases iS h with ⟨a9,h⟩ | ⟨a9,h⟩
  ·refine sSkN 4 7 false 13 S d d a9 d fun a S=>sPickT (.bool true) S (wN d) d d a9 d d (lb d) fun a S=>sM S fun a S=>?_
   refine sSkN 4 13 false 19 S d d d d fun a S=>sPickT (.bool true) S (wN d) d d d d d (lb d) fun a S=>?_
   exact lT (⟨true,Option.some.inj h,S.fix [0] [1,0] (by decide) d d d⟩)
  refine sField (b:=al) (off:=0) 0 0 S (wG 7 false 13 d d d a9) d d d d d (lb d) fun a S=>sLoad1 0 (.slice ac p0.Left.length ae) S (wG 7 false 13 d d d a9) d d d d d d (lb d) fun a S=>sLen S (wG 7 false 13 d d d a9) d Try.underlying34 d d (lb d) fun a S=>sBin _ S (wG 7 false 13 d d d a9) d d d (bEq _ _ _ _ .i64 (p0.Left.length:Int) 0) d (lb d) fun a S=>sPickF (.bool ((p0.Left.length:Int) == 0)) S (wN d) d d a9 d d (lb d) fun a S=>sM S fun a S=>?_
  rcases iS h with ⟨aa,h⟩ | ⟨aa,h⟩
  ·refine sSkN 4 13 false 19 S d d aa d fun a S=>sPickT (.bool true) S (wN d) d d aa d d (lb d) fun a S=>?_
   exact lT (⟨true,Option.some.inj h,S.fix [0] [1,0] (by decide) d d d⟩)
  refine sField (b:=al) (off:=0) 0 0 S (wG 13 false 19 d d d aa) d d d d d (lb d) fun a S=>sLoad1 0 (.slice ac p0.Left.length ae) S (wG 13 false 19 d d d aa) d d d d d d (lb d) fun a S=>sLen S (wG 13 false 19 d d d aa) d Try.underlying34 d d (lb d) fun a S=>sBin _ S (wG 13 false 19 d d d aa) d d d (bGt _ _ _ _ .i64 (p0.Left.length:Int) 100) d (lb d) fun a S=>sPickF (.bool (decide (100 < (p0.Left.length:Int)))) S (wN d) d d aa d d (lb d) fun a S=>?_
  exact lT (⟨decide (100 < (p0.Left.length:Int)),Option.some.inj h,S.fix [0] [1,0] (by decide) d d d⟩)
 obtain ⟨aw,rfl,S⟩:=hI
 have h:=bf
 try dsimp only at h
 rcases iS h with ⟨ao,h⟩ | ⟨ao,h⟩
 ·refine sCondT S d ao (sSeq (fun bl ax=>sRegion (sN S fun a S=>?_)))
  refine lT (ax _ _ ?_)
  obtain rfl:=tS h
  exact wp_ret (rThen (sRet (iv 8) S (rsl1 d (rvT (t:=2) (v:=iv 8) S d)) ⟨(),d,S.mem.sel [] [] (by decide) d d⟩))
 refine sCondF S d ao (wp_skip (leafT (av _ _ ?_)))
 obtain ⟨bg,h,aV⟩:=bS h
 refine sCut (fun a w=>.inl ()=bg∧St [] E [] w0 58 a w [] [] []) ?_ (fun a w hI=>?_)
 rotate_left
 ·obtain ⟨rfl,S⟩:=hI
  have h:=aV
  try dsimp only at h
  refine sSeq (fun bm ay=>sRegion (sN S fun a S=>?_))
  refine lT (ay _ _ ?_)
  obtain rfl:=tS h
  exact wp_ret (sRet (iv 0) S (rsl1 d (rvT (t:=2) (v:=iv 0) S d)) ⟨(),d,S.mem.sel [] [] (by decide) d d⟩)
 refine sSeq (fun bn az=>sRegion (sField (b:=al) (off:=0) 0 0 S (wN d) d d d d d (lb d) fun a S=>sLoad1 0 (.slice ac p0.Left.length ae) S (wN d) d d d d d d (lb d) fun a S=>sLen S (wN d) d Try.underlying34 d d (lb d) fun a S=>sM S fun a S=>?_))
 refine lT (az _ _ (wp_block ?_))
 obtain ⟨bo,hl,aW⟩:=bS h
 refine sLoop hl (fun s0 a w=>match s0 with | am=>St [] E [] w0 58 a w [(1,.pointer (some ⟨al,0,none⟩)),(26,.slice ac p0.Left.length ae),(27,iv (p0.Left.length:Int)),(28,iv am)] [eBox al 36 [.slice ac p0.Left.length ae,.slice aj p0.Right.length ak]] [fRep (rL (rI .i64)) (.slice ac p0.Left.length ae) p0.Left,fRep (rL (rI .i64)) (.slice aj p0.Right.length ak) p0.Right]) (S.fix [0] [0,1] (by decide) d d d) ?_
 clear hl h
 intro am a w c0 hI h ar
 unfold piece_Check_l1 at h
 dsimp only at h hI
 have S:=hI
 refine sSeq (fun bp aA=>sRegion (sBin _ S (wN d) d d d (bLt _ _ _ _ .i64 am (p0.Left.length:Int)) d (lb d) fun a S=>lT (aA _ _ (sSeq (fun bq aC=>?_)))))
 rcases iS h with ⟨ap,h⟩ | ⟨ap,h⟩
 rotate_left
 ·refine sCondF S d ap ?_
  obtain rfl:=tS h
  obtain rfl:=ar _ d
  have h:=aW
  try dsimp only at h
  exact wp_exit (xThen (xThen (xHit (leafT (⟨Option.some.inj h,S.fix [] [] (by decide) d d d⟩)))))
 refine sCondT S d ap (wp_skip (leafT (aC _ _ ?_)))
 refine sSeq (fun br aG=>wp_block ?_)
 refine sSeq (fun bt aH=>sRegion (sM S fun a S=>?_))
 obtain ⟨ai,aI,h⟩:=bS h
 obtain ⟨aX,aJ,S⟩:=pIdx (P:=Try.prog) (r:=(rI .i64)) (v:=.slice ac p0.Left.length ae) (xs:=p0.Left) (j:=am) 34 3 0 S Try.underlying34 d d aI
 refine sIdxV S (wN d) d d d aJ d (lb d) fun a S=>?_
 obtain ⟨aZ,S⟩:=pLoad (r:=(rI .i64)) (q:=aX) (x:=ai) 0 S d
 obtain rfl:aZ=iv ai:=S.mem.know (i:=1) (e:=fRep (rI .i64) (aZ) ai) d
 refine sLoadV1 (vq:=aX) 0 (iv ai) S (wN d) d d d d d (lb d) fun a S=>sN S fun a S=>?_
 refine sN S fun a S=>?_
 refine lT (aH _ _ (sSeq (fun bu aK=>sRegion (sField (b:=al) (off:=0) 1 1 S (wN d) d d d d d (lb d) fun a S=>sLoad1 0 (.slice aj p0.Right.length ak) S (wN d) d d d d d d (lb d) fun a S=>sM S fun a S=>?_))))
 obtain ⟨af,aL,h⟩:=bS h
 obtain ⟨b8,aM,S⟩:=pIdx (P:=Try.prog) (r:=(rI .i64)) (v:=.slice aj p0.Right.length ak) (xs:=p0.Right) (j:=am) 34 3 4 S Try.underlying34 d d aL
 refine sIdxV S (wN d) d d d aM d (lb d) fun a S=>?_
 obtain ⟨ba,S⟩:=pLoad (r:=(rI .i64)) (q:=b8) (x:=af) 0 S d
 obtain rfl:ba=iv af:=S.mem.know (i:=1) (e:=fRep (rI .i64) (ba) af) d
 refine sLoadV1 (vq:=b8) 0 (iv af) S (wN d) d d d d d (lb d) fun a S=>sN S fun a S=>?_
 refine lT (aK _ _ ?_)
 obtain ⟨bh,h,bi⟩:=bS h
 refine sCut (fun a w=>∃ aO,aO=bh∧St [] E [] w0 58 a w [(1,.pointer (some ⟨al,0,none⟩)),(26,.slice ac p0.Left.length ae),(27,iv (p0.Left.length:Int)),(28,iv am),(56,.bool aO)] [eBox al 36 [.slice ac p0.Left.length ae,.slice aj p0.Right.length ak]] [fRep (rL (rI .i64)) (.slice ac p0.Left.length ae) p0.Left,fRep (rL (rI .i64)) (.slice aj p0.Right.length ak) p0.Right]) ?_ (fun a w hI=>?_)
 rotate_left
 ·obtain ⟨aO,rfl,S⟩:=hI
  have h:=bi
  try dsimp only at h
  rcases iS h with ⟨aq,h⟩ | ⟨aq,h⟩
  rotate_left
  ·refine sCondF S d aq (wp_skip (leafB (leafT (aG _ _ ?_))))
   refine sRegion (sBin _ S (wN d) d d d (bAdd _ _ _ _ am 1) d (lb d) fun a S=>sM S fun a S=>?_)
   exact lT (⟨w64 (am + 1),(Option.some.inj h).symm,(S.fix [0] [0,1] (by decide) d d d)⟩)
  refine sCondT S d aq (sSeq (fun bv aP=>sRegion (sN S fun a S=>?_)))
  refine lT (aP _ _ ?_)
  obtain rfl:=tS h
  obtain rfl:=ar _ d
  have h:=aW
  try dsimp only at h
  obtain rfl:=tS h
  have h:=aV
  try dsimp only at h
  obtain rfl:=tS h
  exact wp_ret (rBlock (rThen (rThen (rBlock (rThen (sRet (iv 8) S (rsl1 d (rvT (t:=2) (v:=iv 8) S d)) ⟨(),d,S.mem.sel [] [] (by decide) d d⟩))))))
 refine sRegion (sM S fun a S=>?_)
 obtain ⟨aQ,aR,h⟩:=bS h
 have S1:=S.mem
 refine sCq [iv ai] (.bool aQ) S callee45 (S1.quiet [] d) (fun E1 w1 S1=>c_piece_column E1 w1 ai aQ aR S1) fun a w S=>?_
 refine sNot (b:=aQ) S (wN d) d d d (lb d) fun a S=>sM S fun a S=>?_
 rcases iS h with ⟨ag,h⟩ | ⟨ag,h⟩
 ·refine sSkN 3 3 false 41 S d d ag d fun a S=>sPickT (.bool true) S (wN d) d d ag d d (lb d) fun a S=>sM S fun a S=>?_
  refine sSkN 3 8 false 46 S d d d d fun a S=>sPickT (.bool true) S (wN d) d d d d d (lb d) fun a S=>sM S fun a S=>?_
  refine sSkN 4 13 false 51 S d d d d fun a S=>sPickT (.bool true) S (wN d) d d d d d (lb d) fun a S=>?_
  exact lT (⟨true,Option.some.inj h,S.fix [0] [6,7] (by decide) d d d⟩)
 refine sMove (iv af) S (wG 3 false 41 d d d ag) (.inl d) d d (lb d) fun a S=>?_
 obtain ⟨au,aS,h⟩:=bS h
 have S1:=S.mem
 refine sCallQ (X:=Unit) (f:=45) (vs:=[iv af]) (val:=fun _=>.bool au) S (wG 3 false 41 d d d ag) d callee45 d (S1.quiet [] d) (fun E1 w1 S1=>c_piece_column E1 w1 af au aS S1) d (lb d) fun _ a w S=>?_
 refine sNot (b:=au) S (wG 3 false 41 d d d ag) d d d (lb d) fun a S=>sPickF (.bool (!au)) S (wN d) d d ag d d (lb d) fun a S=>sM S fun a S=>?_
 rcases iS h with ⟨ah,h⟩ | ⟨ah,h⟩
 ·refine sSkN 3 8 false 46 S d d ah d fun a S=>sPickT (.bool true) S (wN d) d d ah d d (lb d) fun a S=>sM S fun a S=>?_
  refine sSkN 4 13 false 51 S d d d d fun a S=>sPickT (.bool true) S (wN d) d d d d d (lb d) fun a S=>?_
  exact lT (⟨true,Option.some.inj h,S.fix [0] [6,7] (by decide) d d d⟩)
 refine sMove (iv ai) S (wG 8 false 46 d d d ah) (.inl d) d d (lb d) fun a S=>sMove (iv af) S (wG 8 false 46 d d d ah) (.inl d) d d (lb d) fun a S=>sBin _ S (wG 8 false 46 d d d ah) d d d (bGe _ _ _ _ .i64 ai af) d (lb d) fun a S=>sPickF (.bool (decide (af ≤ ai))) S (wN d) d d ah d d (lb d) fun a S=>sM S fun a S=>?_
 rcases iS h with ⟨ab,h⟩ | ⟨ab,h⟩
 ·refine sSkN 4 13 false 51 S d d ab d fun a S=>sPickT (.bool true) S (wN d) d d ab d d (lb d) fun a S=>?_
  exact lT (⟨true,Option.some.inj h,S.fix [0] [6,7] (by decide) d d d⟩)
 refine sMove (iv af) S (wG 13 false 51 d d d ab) (.inl d) d d (lb d) fun a S=>sMove (iv ai) S (wG 13 false 51 d d d ab) (.inl d) d d (lb d) fun a S=>sBin _ S (wG 13 false 51 d d d ab) d d d (bSub _ _ _ _ af ai) d (lb d) fun a S=>sBin _ S (wG 13 false 51 d d d ab) d d d (bGt _ _ _ _ .i64 (w64 (af - ai)) 200) d (lb d) fun a S=>sPickF (.bool (decide (200 < (w64 (af - ai))))) S (wN d) d d ab d d (lb d) fun a S=>?_
 exact lT (⟨decide (200 < (w64 (af - ai))),Option.some.inj h,S.fix [0] [6,7] (by decide) d d d⟩)
noncomputable def F_raddleref37_in (p0:Int):Option Bool:=
 Option.bind (α:=Bool) (
  if decide ((-500) ≤ p0) then
   some (decide (p0 ≤ 500))
  else
   some false) fun o2=>
 some o2
theorem c_raddleref37_in (E:Nat→Prop) (w0:World) (p0:Int) (r:Bool) (h:F_raddleref37_in p0=some r) (S:St0 E [] w0 w0 [] []) :
 Calls Try.prog 23 #[iv p0] w0 (Ret (X:=Unit) E [] w0 (fun _=>.bool r) (fun _=>[]) (fun _=>[])):=by
 unfold F_raddleref37_in at h
 refine sEnter (args:=[iv p0]) 9 Try.func23 d d (by simp) S (fun a S=>?_)
 refine sSeq (fun K1 aa=>sRegion (sN S fun a S=>?_))
 refine lT (aa _ _ ?_)
 obtain ⟨t3,h,g4⟩:=bS h
 refine sCut (fun a w=>∃ o2,o2=t3∧St [] E [] w0 9 a w [(2,.bool o2)] [] []) ?_ (fun a w hI=>?_)
 rotate_left
 ·obtain ⟨o2,rfl,S⟩:=hI
  have h:=g4
  try dsimp only at h
  obtain rfl:=tS h
  exact wp_ret (sRet (.bool o2) S (rsl1 d (rvT (t:=2) (v:=.bool o2) S d)) ⟨(),d,S.mem.sel [] [] (by decide) d d⟩)
 refine sRegion (sM S fun a S=>?_)
 refine sBin _ S (wN d) d d d (bGe _ _ _ _ .i64 p0 (-500)) d (lb d) fun a S=>sM S fun a S=>?_
 rcases iS h with ⟨a9,h⟩ | ⟨a9,h⟩
 rotate_left
 ·refine sSkN 2 2 true 5 S d d a9 d fun a S=>sPickF (.bool false) S (wN d) d d a9 d d (lb d) fun a S=>sN S fun a S=>?_
  exact lT (⟨false,Option.some.inj h,S.fix [] [] (by decide) d d d⟩)
 refine sMove (iv p0) S (wG 2 true 5 d d d a9) (.inl d) d d (lb d) fun a S=>sBin _ S (wG 2 true 5 d d d a9) d d d (bLe _ _ _ _ .i64 p0 500) d (lb d) fun a S=>sPickT (.bool (decide (p0 ≤ 500))) S (wN d) d d a9 d d (lb d) fun a S=>sN S fun a S=>?_
 exact lT (⟨decide (p0 ≤ 500),Option.some.inj h,S.fix [] [] (by decide) d d d⟩)
def anc_raddleref37_Check_0:List (List Nat):=[[],[0],[],[0,1,2],[0,1,2,3],[0,1,2,3,4],[0,1,2,3,4,5],[0,1,2,3,4,5,6],[0,1,2,3,4,5,6,7],[0,1,2,3,4,5,6,7,8],[0,1,2,3,4,5,6,7],[0,1,2,3,4,5,6,7,8,9,10],[0,1,2,3,4,5,6,7,8,9,10,11],[0,1,2,3,4,5,6,7,8,9,10,11,12],[0,1,2,3,4,5,6,7,8,9,10,11,12,13],[0,1,2,3,4,5,6,7,8,9,10,11,12,13,14],[0,1,2,3,4,5,6,7,8,9,10,11,12,13,14,15],[0,1,2,3,4,5,6,7,8,9,10,11,12,13,14,15,16],[0,1,2,3,4,5,6,7,8,9,10,11,12,13,14,15,16,17],[0,1,2,3,4,5,6,7,8,9,10,11,12,13,14,15,16],[0,1,2,3,4,5,6,7,8,9,10,11,12,13,14,15,16,17,18,19],[0,1,2,3,4,5,6,7,8,9,10,11,12,13,14,15,16,17,18,19,20],[0,1,2,3,4,5,6,7,8,9,10,11,12,13,14,15,16],[0,1,2,3,4,5,6,7,8,9,10,11,12,13,14,15,16,22],[0,1,2,3,4,5,6,7,8,9,10,11,12,13,14,15,16],[0,1,2,3,4,5,6,7,8,9,10,11,12,13,14,15,16,22,23,24],[0,1,2,3,4,5,6,7,8,9,10,11,12,13,14,15,16,22,23,24,25],[0,1,2,3,4,5,6,7,8,9,10,11,12,13,14,15,16,17,18,19,20,21,22,23,24,25,26],[0,1,2,3,4,5,6,7,8,9,10,11,12,13,14,15,16,17,18,19,20,21,22,23,24,25,26,27],[0,1,2,3,4,5,6,7,8,9,10,11,12,13,14,15,16,17,18,19,20,21,22,23,24,25,26,27,28],[0,1,2,3,4,5,6,7,8,9,10,11,12,13,14,15,16,17,18,19,20,21,22,23,24,25,26,27,28,29],[0,1,2,3,4,5,6,7,8,9,10,11,12,13,14,15,16,17,18,19,20,21,22,23,24,25,26,27,28,29,30],[0,1,2,3,4,5,6,7,8,9,10,11,12,13,14,15,16,17,18,19,20,21,22,23,24,25,26,27,28,29],[0,1,2,3,4,5,6,7,8,9,10,11,12,13,14,15,16,17,18,19,20,21,22,23,24,25,26,27,28,29,30,31,32],[0,1,2,3,4,5,6,7,8,9,10,11,12,13,14,15,16,17,18,19,20,21,22,23,24,25,26,27,28,29,30,31,32,33],[0,1,2,3,4,5,6,7,8,9,10,11,12,13,14,15,16,17,18,19,20,21,22,23,24,25,26,27,28,29],[0,1,2,3,4,5,6,7,8,9,10,11,12,13,14,15,16,17,18,19,20,21,22,23,24,25,26,27,28,29,35],[0,1,2,3,4,5,6,7,8,9,10,11,12,13,14,15,16,17,18,19,20,21,22,23,24,25,26,27,28,29],[0,1,2,3,4,5,6,7,8,9,10,11,12,13,14,15,16,17,18,19,20,21,22,23,24,25,26,27,28,29,35,36,37],[0,1,2,3,4,5,6,7,8,9,10,11,12,13,14,15,16,17,18,19,20,21,22,23,24,25,26,27,28,29,35,36,37,38],[0,1,2,3,4,5,6,7,8,9,10,11,12,13,14,15,16,17,18,19,20,21,22,23,24,25,26,27,28,29,30,31,32,33,34,35,36,37,38,39],[0,1,2,3,4,5,6,7,8,9,10,11,12,13,14,15,16,17,18,19,20,21,22,23,24,25,26,27,28,29,30,31,32,33,34,35,36,37,38,39,40],[0,1,2,3,4,5,6,7,8,9,10,11,12,13,14,15,16,17,18,19,20,21,22,23,24,25,26,27,28,29,30,31,32,33,34,35,36,37,38,39,40,41]]
noncomputable def raddleref37_Check_l1 (p0:api_Piece):Int→Option (Int ⊕ (Int ⊕ Unit)):=fun s0=>match s0 with
 | a9=>
  if decide (a9 < (p0.Left.length:Int)) then
   Option.bind (α:=Bool) (
    (idxO p0.Left a9).bind fun aa=>
    (F_raddleref37_in aa).bind fun ac=>
    if !ac then
     some true
    else
     (idxO p0.Right a9).bind fun ab=>
     (F_raddleref37_in ab).bind fun ae=>
     if !ae then
      some true
     else
      if decide (ab ≤ aa) then
       some true
      else
       some (decide (200 < (w64 (ab - aa))))) fun af=>
   if af then
    some (.inr (.inl 8))
   else
    some (.inl (w64 (a9 + 1)))
  else
   some (.inr (.inr ()))
noncomputable def F_raddleref37_Check (p0:api_Piece):Option Int:=
 Option.bind (α:=Bool) (
  if (p0.Left.length:Int) != (p0.Right.length:Int) then
   some true
  else
   if decide ((p0.Left.length:Int) < 1) then
    some true
   else
    some (decide (100 < (p0.Left.length:Int)))) fun a9=>
 if a9 then
  some 8
 else
  Option.bind (α:=Unit ⊕ Int) (
   (whileO (raddleref37_Check_l1 p0) 0).bind fun z0=>match z0 with
    | .inl z=>
     some (.inr z)
    | .inr _=>
     some (.inl ())) fun z0=>match z0 with
   | .inl _=>
    some 0
   | .inr z=>
    some z
theorem c_raddleref37_Check (E:Nat→Prop) (w0:World) (p0:api_Piece) (v0:Value) (r:Int) (h:F_raddleref37_Check p0=some r) (S:St0 E [] w0 w0 [] [fRep r_api_Piece (v0) p0]) :
 Calls Try.prog 11 #[v0] w0 (Ret (X:=Unit) E [] w0 (fun _=>.int .i64 r) (fun _=>[]) (fun _=>[])):=by
 unfold F_raddleref37_Check at h
 obtain ⟨u1,u2,rfl,bu,bv⟩:=S.know (i:=0) (e:=fRep r_api_Piece (v0) p0) d
 have S:=S.learn (fRep (rL (rI .i64)) u1 p0.Left) bu
 obtain ⟨ah,ai,_,rfl,_⟩:=bu
 have S:=S.learn (fRep (rL (rI .i64)) u2 p0.Right) bv
 obtain ⟨aj,ak,_,rfl,_⟩:=bv
 refine sEnter (args:=[.agg #[.slice ah p0.Left.length ai,.slice aj p0.Right.length ak]]) 73 Try.func11 d d (by simp) S (fun a S=>?_)
 refine sSeq (fun K9 bM=>sRegion (sBox (v:=.agg #[.slice ah p0.Left.length ai,.slice aj p0.Right.length ak]) S (wN d) d d [.slice ah p0.Left.length ai,.slice aj p0.Right.length ak] d d (lb d) fun a ag w S=>sN S fun a S=>?_))
 refine lT (bM _ _ (sSeq (fun bX aR=>?_)))
 obtain ⟨bN,h,bO⟩:=bS h
 refine sCut (fun a w=>∃ aS,aS=bN∧St [] E [] w0 73 a w [(1,.pointer (some ⟨ag,0,none⟩)),(22,.bool aS)] [eBox ag 36 [.slice ah p0.Left.length ai,.slice aj p0.Right.length ak]] [fRep (rL (rI .i64)) (.slice ah p0.Left.length ai) p0.Left,fRep (rL (rI .i64)) (.slice aj p0.Right.length ak) p0.Right]) ?_ (fun a w hI=>?_)
 ·refine sRegion (sField (b:=ag) (off:=0) 0 0 S (wN d) d d d d d (lb d) fun a S=>sLoad1 0 (.slice ah p0.Left.length ai) S (wN d) d d d d d d (lb d) fun a S=>sLen S (wN d) d Try.underlying34 d d (lb d) fun a S=>sField (b:=ag) (off:=0) 1 1 S (wN d) d d d d d (lb d) fun a S=>sLoad1 0 (.slice aj p0.Right.length ak) S (wN d) d d d d d d (lb d) fun a S=>sLen S (wN d) d Try.underlying34 d d (lb d) fun a S=>sBin _ S (wN d) d d d (bNe _ _ _ _ .i64 (p0.Left.length:Int) (p0.Right.length:Int)) d (lb d) fun a S=>sM S fun a S=>?_)
  rcases iS h with ⟨ao,h⟩ | ⟨ao,h⟩
  ·refine sSkN 4 7 false 11 S d d ao d fun a S=>sPickT (.bool true) S (wN d) d d ao d d (lb d) fun a S=>sM S fun a S=>?_
   refine sSkN 4 13 false 17 S d d d d fun a S=>sPickT (.bool true) S (wN d) d d d d d (lb d) fun a S=>?_
   exact lT (⟨true,Option.some.inj h,S.fix [0] [1,0] (by decide) d d d⟩)
  refine sField (b:=ag) (off:=0) 0 0 S (wG 7 false 11 d d d ao) d d d d d (lb d) fun a S=>sLoad1 0 (.slice ah p0.Left.length ai) S (wG 7 false 11 d d d ao) d d d d d d (lb d) fun a S=>sLen S (wG 7 false 11 d d d ao) d Try.underlying34 d d (lb d) fun a S=>sBin _ S (wG 7 false 11 d d d ao) d d d (bLt _ _ _ _ .i64 (p0.Left.length:Int) 1) d (lb d) fun a S=>sPickF (.bool (decide ((p0.Left.length:Int) < 1))) S (wN d) d d ao d d (lb d) fun a S=>sM S fun a S=>?_
  rcases iS h with ⟨ap,h⟩ | ⟨ap,h⟩
  ·refine sSkN 4 13 false 17 S d d ap d fun a S=>sPickT (.bool true) S (wN d) d d ap d d (lb d) fun a S=>?_
   exact lT (⟨true,Option.some.inj h,S.fix [0] [1,0] (by decide) d d d⟩)
  refine sField (b:=ag) (off:=0) 0 0 S (wG 13 false 17 d d d ap) d d d d d (lb d) fun a S=>sLoad1 0 (.slice ah p0.Left.length ai) S (wG 13 false 17 d d d ap) d d d d d d (lb d) fun a S=>sLen S (wG 13 false 17 d d d ap) d Try.underlying34 d d (lb d) fun a S=>sBin _ S (wG 13 false 17 d d d ap) d d d (bGt _ _ _ _ .i64 (p0.Left.length:Int) 100) d (lb d) fun a S=>sPickF (.bool (decide (100 < (p0.Left.length:Int)))) S (wN d) d d ap d d (lb d) fun a S=>?_
  exact lT (⟨decide (100 < (p0.Left.length:Int)),Option.some.inj h,S.fix [0] [1,0] (by decide) d d d⟩)
 obtain ⟨aS,rfl,S⟩:=hI
 have h:=bO
 try dsimp only at h
 rcases iS h with ⟨aw,h⟩ | ⟨aw,h⟩
 ·refine sCondT S d aw (sSeq (fun bY aT=>sRegion (sN S fun a S=>?_)))
  refine lT (aT _ _ ?_)
  obtain rfl:=tS h
  exact wp_ret (rThen (sRet (iv 8) S (rsl1 d (rvT (t:=2) (v:=iv 8) S d)) ⟨(),d,S.mem.sel [] [] (by decide) d d⟩))
 refine sCondF S d aw (wp_skip (leafT (aR _ _ ?_)))
 obtain ⟨bP,h,bw⟩:=bS h
 refine sCut (fun a w=>.inl ()=bP∧St [] E [] w0 73 a w [] [] []) ?_ (fun a w hI=>?_)
 rotate_left
 ·obtain ⟨rfl,S⟩:=hI
  have h:=bw
  try dsimp only at h
  refine sSeq (fun bQ az=>sRegion (sN S fun a S=>?_))
  refine lT (az _ _ ?_)
  obtain rfl:=tS h
  exact wp_ret (sRet (iv 0) S (rsl1 d (rvT (t:=2) (v:=iv 0) S d)) ⟨(),d,S.mem.sel [] [] (by decide) d d⟩)
 refine sSeq (fun bZ aU=>sRegion (sN S fun a S=>?_))
 refine lT (aU _ _ (wp_block ?_))
 obtain ⟨c6,hl,bx⟩:=bS h
 refine sLoop hl (fun s0 a w=>match s0 with | af=>St [] E [] w0 73 a w [(1,.pointer (some ⟨ag,0,none⟩)),(3,iv af)] [eBox ag 36 [.slice ah p0.Left.length ai,.slice aj p0.Right.length ak]] [fRep (rL (rI .i64)) (.slice ah p0.Left.length ai) p0.Left,fRep (rL (rI .i64)) (.slice aj p0.Right.length ak) p0.Right]) (S.fix [0] [0,1] (by decide) d d d) ?_
 clear hl h
 intro af a w c0 hI h aA
 unfold raddleref37_Check_l1 at h
 dsimp only at h hI
 have S:=hI
 refine sSeq (fun c7 aV=>sSeq (fun c8 aW=>sRegion (sM S fun a S=>?_)))
 refine sField (b:=ag) (off:=0) 0 0 S (wN d) d d d d d (lb d) fun a S=>sLoad1 0 (.slice ah p0.Left.length ai) S (wN d) d d d d d d (lb d) fun a S=>sLen S (wN d) d Try.underlying34 d d (lb d) fun a S=>sBin _ S (wN d) d d d (bLt _ _ _ _ .i64 af (p0.Left.length:Int)) d (lb d) fun a S=>lT (aW _ _ ?_)
 rcases iS h with ⟨ax,h⟩ | ⟨ax,h⟩
 rotate_left
 ·refine sCondF S d ax ?_
  obtain rfl:=tS h
  obtain rfl:=aA _ d
  have h:=bx
  try dsimp only at h
  exact wp_exit (xThen (xThen (xHit (leafT (⟨Option.some.inj h,S.fix [] [] (by decide) d d d⟩)))))
 refine sCondT S d ax (wp_skip (leafT (aV _ _ ?_)))
 refine sSeq (fun c9 aX=>wp_block ?_)
 obtain ⟨bR,h,bV⟩:=bS h
 refine sCut (fun a w=>∃ aZ,aZ=bR∧St [] E [] w0 73 a w [(1,.pointer (some ⟨ag,0,none⟩)),(3,iv af),(72,.bool aZ)] [eBox ag 36 [.slice ah p0.Left.length ai,.slice aj p0.Right.length ak]] [fRep (rL (rI .i64)) (.slice ah p0.Left.length ai) p0.Left,fRep (rL (rI .i64)) (.slice aj p0.Right.length ak) p0.Right]) ?_ (fun a w hI=>?_)
 rotate_left
 ·obtain ⟨aZ,rfl,S⟩:=hI
  have h:=bV
  try dsimp only at h
  rcases iS h with ⟨au,h⟩ | ⟨au,h⟩
  rotate_left
  ·refine sCondF S d au (wp_skip (leafB (leafT (aX _ _ ?_))))
   refine sRegion (sM S fun a S=>?_)
   refine sBin _ S (wN d) d d d (bAdd _ _ _ _ af 1) d (lb d) fun a S=>sN S fun a S=>?_
   exact lT (⟨w64 (af + 1),(Option.some.inj h).symm,(S.fix [0] [0,1] (by decide) d d d)⟩)
  refine sCondT S d au (sSeq (fun bW aC=>sRegion (sN S fun a S=>?_)))
  refine lT (aC _ _ ?_)
  obtain rfl:=tS h
  obtain rfl:=aA _ d
  have h:=bx
  try dsimp only at h
  obtain rfl:=tS h
  have h:=bw
  try dsimp only at h
  obtain rfl:=tS h
  exact wp_ret (rBlock (rThen (rThen (rBlock (rThen (sRet (iv 8) S (rsl1 d (rvT (t:=2) (v:=iv 8) S d)) ⟨(),d,S.mem.sel [] [] (by decide) d d⟩))))))
 obtain ⟨aa,aq,h⟩:=bS h
 obtain ⟨am,av,h⟩:=bS h
 rcases iS h with ⟨ab,h⟩ | ⟨ab,h⟩
 ·obtain ⟨b8,ba,S⟩:=pIdx (P:=Try.prog) (r:=(rI .i64)) (v:=.slice ah p0.Left.length ai) (xs:=p0.Left) (j:=af) 34 3 0 S Try.underlying34 d d aq
  obtain ⟨bz,S⟩:=pLoad (r:=(rI .i64)) (q:=b8) (x:=aa) 0 S d
  obtain rfl:bz=iv aa:=S.mem.know (i:=1) (e:=fRep (rI .i64) (bz) aa) d
  refine sDraw (nf:=[]) (W:=[(0,30,.pointer (some ⟨ag,0,none⟩)),(1,31,.slice ah p0.Left.length ai),(2,32,iv af),(3,33,b8),(4,34,iv aa),(5,35,.bool am),(6,36,.bool (!am)),(7,37,.bool (!am)),(8,38,undef),(9,39,undef),(10,40,undef),(11,41,undef),(12,42,undef),(13,43,undef),(14,44,undef),(15,45,.bool true),(16,46,.bool true),(17,47,undef),(18,48,undef),(19,49,undef),(20,50,undef),(21,51,undef),(22,52,undef),(23,53,undef),(24,54,undef),(25,55,undef),(26,56,undef),(27,57,undef),(28,58,.bool true),(29,59,.bool true),(30,60,undef),(31,61,undef),(32,62,undef),(33,63,undef),(34,64,undef),(35,65,undef),(36,66,undef),(37,67,undef),(38,68,undef),(39,69,undef),(40,70,undef),(41,71,undef),(42,72,.bool true)]) d S ?_
  refine node_by (A:=anc_raddleref37_Check_0) 43 (by kernel_rfl) (by kernel_rfl) (by kernel_rfl) (by kernel_rfl) (by kernel_rfl) [0,1,2,3,4,5,6,7,8,9,10,11,12,13,14,15,16,17,18,19,20,21,22,23,24,25,26,27,28,29,30,31,32,33,34,35,36,37,38,39,40,41,42] (by kernel_rfl) (by decide) (by decide) (fF ?_ (fF ?_ (fF ?_ (fF ?_ (fF ?_ (fF ?_ (fF ?_ (fF ?_ (fF ?_ (fF ?_ (fF ?_ (fF ?_ (fF ?_ (fF ?_ (fF ?_ (fF ?_ (fF ?_ (fF ?_ (fF ?_ (fF ?_ (fF ?_ (fF ?_ (fF ?_ (fF ?_ (fF ?_ (fF ?_ (fF ?_ (fF ?_ (fF ?_ (fF ?_ (fF ?_ (fF ?_ (fF ?_ (fF ?_ (fF ?_ (fF ?_ (fF ?_ (fF ?_ (fF ?_ (fF ?_ (fF ?_ (fF ?_ (fF ?_ (trivial)))))))))))))))))))))))))))))))))))))))))))) [(1,.pointer (some ⟨ag,0,none⟩)),(3,iv af),(38,undef),(39,undef),(40,undef),(41,undef),(42,undef),(43,undef),(44,undef),(47,undef),(48,undef),(49,undef),(50,undef),(51,undef),(52,undef),(53,undef),(54,undef),(55,undef),(56,undef),(57,undef),(60,undef),(61,undef),(62,undef),(63,undef),(64,undef),(65,undef),(66,undef),(67,undef),(68,undef),(69,undef),(70,undef),(71,undef),(72,.bool true)] (fin_of [none,none,some 8,some 9,some 10,some 11,some 12,some 13,some 14,some 17,some 18,some 19,some 20,some 21,some 22,some 23,some 24,some 25,some 26,some 27,some 30,some 31,some 32,some 33,some 34,some 35,some 36,some 37,some 38,some 39,some 40,some 41,some 42] d (by kernel_rfl) (by kernel_rfl)) (fun _ a w S=>?_)
  ·refine fJ [(1,_)] 0 [none] fun G a w S=>?_
   exact sField (b:=ag) (off:=0) 0 0 S (wN d) d d d d d (lb d) fun a S=>leafL ⟨d,S⟩
  ·refine fJ [(30,_)] 1 [some 0] fun G a w S=>?_
   exact sLoad1 0 (.slice ah p0.Left.length ai) S (wN d) d d d d d d (lb d) fun a S=>leafL ⟨d,S⟩
  ·exact fM 2 none d d d d (.inl d) d d d
  ·refine fJ [(31,_),(32,_)] 3 [some 1,some 2] fun G a w S=>?_
   exact sIdxV S (wN d) d d d ba d (lb d) fun a S=>leafL ⟨d,S⟩
  ·refine fJ [(33,_)] 4 [some 3] fun G a w S=>?_
   exact sLoadV1 (vq:=b8) 0 (iv aa) S (wN d) d d d d d (lb d) fun a S=>leafL ⟨d,S⟩
  ·refine fJ [(34,_)] 5 [some 4] fun G a w S=>?_
   have S1:=S.mem
   refine sCq [iv aa] (.bool am) S callee23 (S1.quiet [] d) (fun E1 w1 S1=>c_raddleref37_in E1 w1 aa am av S1) fun a w S=>?_
   exact leafL ⟨d,S⟩
  ·refine fJ [(35,_)] 6 [some 5] fun G a w S=>?_
   exact sNot (b:=am) S (wN d) d d d (lb d) fun a S=>leafL ⟨d,S⟩
  ·exact fM 7 (some 6) d d d d (.inl d) d d d
  ·refine fJ [(1,_),(37,_)] 8 [none,some 7] fun G a w S=>?_
   exact sSk S d d d ab d d fun a S=>leafL ⟨d,S⟩
  ·refine fJ [(38,_),(37,_)] 9 [some 8,some 7] fun G a w S=>?_
   exact sSk S d d d ab d d fun a S=>leafL ⟨d,S⟩
  ·refine fJ [(3,_),(37,_)] 10 [none,some 7] fun G a w S=>?_
   exact sSk S d d d ab d d fun a S=>leafL ⟨d,S⟩
  ·refine fJ [(39,_),(40,_),(37,_)] 11 [some 9,some 10,some 7] fun G a w S=>?_
   exact sSk S d d d ab d d fun a S=>leafL ⟨d,S⟩
  ·refine fJ [(41,_),(37,_)] 12 [some 11,some 7] fun G a w S=>?_
   exact sSk S d d d ab d d fun a S=>leafL ⟨d,S⟩
  ·refine fJ [(42,_),(37,_)] 13 [some 12,some 7] fun G a w S=>?_
   exact sSk S d d d ab d d fun a S=>leafL ⟨d,S⟩
  ·refine fJ [(43,_),(37,_)] 14 [some 13,some 7] fun G a w S=>?_
   exact sSk S d d d ab d d fun a S=>leafL ⟨d,S⟩
  ·refine fJ [(37,_),(44,_)] 15 [some 7,some 14] fun G a w S=>?_
   exact sPickT (.bool true) S (wN d) d d ab d d (lb d) fun a S=>leafL ⟨d,S⟩
  ·exact fM 16 (some 15) d d d d (.inl d) d d d
  ·refine fJ [(1,_),(46,_)] 17 [none,some 16] fun G a w S=>?_
   exact sSk S d d d d d d fun a S=>leafL ⟨d,S⟩
  ·refine fJ [(47,_),(46,_)] 18 [some 17,some 16] fun G a w S=>?_
   exact sSk S d d d d d d fun a S=>leafL ⟨d,S⟩
  ·refine fJ [(3,_),(46,_)] 19 [none,some 16] fun G a w S=>?_
   exact sSk S d d d d d d fun a S=>leafL ⟨d,S⟩
  ·refine fJ [(48,_),(49,_),(46,_)] 20 [some 18,some 19,some 16] fun G a w S=>?_
   exact sSk S d d d d d d fun a S=>leafL ⟨d,S⟩
  ·refine fJ [(50,_),(46,_)] 21 [some 20,some 16] fun G a w S=>?_
   exact sSk S d d d d d d fun a S=>leafL ⟨d,S⟩
  ·refine fJ [(1,_),(46,_)] 22 [none,some 16] fun G a w S=>?_
   exact sSk S d d d d d d fun a S=>leafL ⟨d,S⟩
  ·refine fJ [(52,_),(46,_)] 23 [some 22,some 16] fun G a w S=>?_
   exact sSk S d d d d d d fun a S=>leafL ⟨d,S⟩
  ·refine fJ [(3,_),(46,_)] 24 [none,some 16] fun G a w S=>?_
   exact sSk S d d d d d d fun a S=>leafL ⟨d,S⟩
  ·refine fJ [(53,_),(54,_),(46,_)] 25 [some 23,some 24,some 16] fun G a w S=>?_
   exact sSk S d d d d d d fun a S=>leafL ⟨d,S⟩
  ·refine fJ [(55,_),(46,_)] 26 [some 25,some 16] fun G a w S=>?_
   exact sSk S d d d d d d fun a S=>leafL ⟨d,S⟩
  ·refine fJ [(51,_),(56,_),(46,_)] 27 [some 21,some 26,some 16] fun G a w S=>?_
   exact sSk S d d d d d d fun a S=>leafL ⟨d,S⟩
  ·refine fJ [(46,_),(57,_)] 28 [some 16,some 27] fun G a w S=>?_
   exact sPickT (.bool true) S (wN d) d d d d d (lb d) fun a S=>leafL ⟨d,S⟩
  ·exact fM 29 (some 28) d d d d (.inl d) d d d
  ·refine fJ [(1,_),(59,_)] 30 [none,some 29] fun G a w S=>?_
   exact sSk S d d d d d d fun a S=>leafL ⟨d,S⟩
  ·refine fJ [(60,_),(59,_)] 31 [some 30,some 29] fun G a w S=>?_
   exact sSk S d d d d d d fun a S=>leafL ⟨d,S⟩
  ·refine fJ [(3,_),(59,_)] 32 [none,some 29] fun G a w S=>?_
   exact sSk S d d d d d d fun a S=>leafL ⟨d,S⟩
  ·refine fJ [(61,_),(62,_),(59,_)] 33 [some 31,some 32,some 29] fun G a w S=>?_
   exact sSk S d d d d d d fun a S=>leafL ⟨d,S⟩
  ·refine fJ [(63,_),(59,_)] 34 [some 33,some 29] fun G a w S=>?_
   exact sSk S d d d d d d fun a S=>leafL ⟨d,S⟩
  ·refine fJ [(1,_),(59,_)] 35 [none,some 29] fun G a w S=>?_
   exact sSk S d d d d d d fun a S=>leafL ⟨d,S⟩
  ·refine fJ [(65,_),(59,_)] 36 [some 35,some 29] fun G a w S=>?_
   exact sSk S d d d d d d fun a S=>leafL ⟨d,S⟩
  ·refine fJ [(3,_),(59,_)] 37 [none,some 29] fun G a w S=>?_
   exact sSk S d d d d d d fun a S=>leafL ⟨d,S⟩
  ·refine fJ [(66,_),(67,_),(59,_)] 38 [some 36,some 37,some 29] fun G a w S=>?_
   exact sSk S d d d d d d fun a S=>leafL ⟨d,S⟩
  ·refine fJ [(68,_),(59,_)] 39 [some 38,some 29] fun G a w S=>?_
   exact sSk S d d d d d d fun a S=>leafL ⟨d,S⟩
  ·refine fJ [(64,_),(69,_),(59,_)] 40 [some 34,some 39,some 29] fun G a w S=>?_
   exact sSk S d d d d d d fun a S=>leafL ⟨d,S⟩
  ·refine fJ [(70,_),(59,_)] 41 [some 40,some 29] fun G a w S=>?_
   exact sSk S d d d d d d fun a S=>leafL ⟨d,S⟩
  ·refine fJ [(59,_),(71,_)] 42 [some 29,some 41] fun G a w S=>?_
   exact sPickT (.bool true) S (wN d) d d d d d (lb d) fun a S=>leafL ⟨d,S⟩
  exact leafT (⟨true,Option.some.inj h,S.fix [0] [3,4] (by decide) d d d⟩)
 obtain ⟨ac,ar,h⟩:=bS h
 obtain ⟨al,ay,h⟩:=bS h
 rcases iS h with ⟨a9,h⟩ | ⟨a9,h⟩
 ·obtain ⟨bb,bc,S⟩:=pIdx (P:=Try.prog) (r:=(rI .i64)) (v:=.slice ah p0.Left.length ai) (xs:=p0.Left) (j:=af) 34 3 0 S Try.underlying34 d d aq
  obtain ⟨bA,S⟩:=pLoad (r:=(rI .i64)) (q:=bb) (x:=aa) 0 S d
  obtain rfl:bA=iv aa:=S.mem.know (i:=1) (e:=fRep (rI .i64) (bA) aa) d
  obtain ⟨aH,bf,S⟩:=pIdx (P:=Try.prog) (r:=(rI .i64)) (v:=.slice aj p0.Right.length ak) (xs:=p0.Right) (j:=af) 34 3 4 S Try.underlying34 d d ar
  obtain ⟨bB,S⟩:=pLoad (r:=(rI .i64)) (q:=aH) (x:=ac) 0 S d
  obtain rfl:bB=iv ac:=S.mem.know (i:=1) (e:=fRep (rI .i64) (bB) ac) d
  refine sDraw (nf:=[]) (W:=[(0,30,.pointer (some ⟨ag,0,none⟩)),(1,31,.slice ah p0.Left.length ai),(2,32,iv af),(3,33,bb),(4,34,iv aa),(5,35,.bool am),(6,36,.bool (!am)),(7,37,.bool (!am)),(8,38,.pointer (some ⟨ag,1,none⟩)),(9,39,.slice aj p0.Right.length ak),(10,40,iv af),(11,41,aH),(12,42,iv ac),(13,43,.bool al),(14,44,.bool (!al)),(15,45,.bool (!al)),(16,46,.bool (!al)),(17,47,undef),(18,48,undef),(19,49,undef),(20,50,undef),(21,51,undef),(22,52,undef),(23,53,undef),(24,54,undef),(25,55,undef),(26,56,undef),(27,57,undef),(28,58,.bool true),(29,59,.bool true),(30,60,undef),(31,61,undef),(32,62,undef),(33,63,undef),(34,64,undef),(35,65,undef),(36,66,undef),(37,67,undef),(38,68,undef),(39,69,undef),(40,70,undef),(41,71,undef),(42,72,.bool true)]) d S ?_
  refine node_by (A:=anc_raddleref37_Check_0) 43 (by kernel_rfl) (by kernel_rfl) (by kernel_rfl) (by kernel_rfl) (by kernel_rfl) [0,1,2,3,4,5,6,7,8,9,10,11,12,13,14,15,16,17,18,19,20,21,22,23,24,25,26,27,28,29,30,31,32,33,34,35,36,37,38,39,40,41,42] (by kernel_rfl) (by decide) (by decide) (fF ?_ (fF ?_ (fF ?_ (fF ?_ (fF ?_ (fF ?_ (fF ?_ (fF ?_ (fF ?_ (fF ?_ (fF ?_ (fF ?_ (fF ?_ (fF ?_ (fF ?_ (fF ?_ (fF ?_ (fF ?_ (fF ?_ (fF ?_ (fF ?_ (fF ?_ (fF ?_ (fF ?_ (fF ?_ (fF ?_ (fF ?_ (fF ?_ (fF ?_ (fF ?_ (fF ?_ (fF ?_ (fF ?_ (fF ?_ (fF ?_ (fF ?_ (fF ?_ (fF ?_ (fF ?_ (fF ?_ (fF ?_ (fF ?_ (fF ?_ (trivial)))))))))))))))))))))))))))))))))))))))))))) [(1,.pointer (some ⟨ag,0,none⟩)),(3,iv af),(38,.pointer (some ⟨ag,1,none⟩)),(39,.slice aj p0.Right.length ak),(40,iv af),(41,aH),(42,iv ac),(43,.bool al),(44,.bool (!al)),(47,undef),(48,undef),(49,undef),(50,undef),(51,undef),(52,undef),(53,undef),(54,undef),(55,undef),(56,undef),(57,undef),(60,undef),(61,undef),(62,undef),(63,undef),(64,undef),(65,undef),(66,undef),(67,undef),(68,undef),(69,undef),(70,undef),(71,undef),(72,.bool true)] (fin_of [none,none,some 8,some 9,some 10,some 11,some 12,some 13,some 14,some 17,some 18,some 19,some 20,some 21,some 22,some 23,some 24,some 25,some 26,some 27,some 30,some 31,some 32,some 33,some 34,some 35,some 36,some 37,some 38,some 39,some 40,some 41,some 42] d (by kernel_rfl) (by kernel_rfl)) (fun _ a w S=>?_)
  ·refine fJ [(1,_)] 0 [none] fun G a w S=>?_
   exact sField (b:=ag) (off:=0) 0 0 S (wN d) d d d d d (lb d) fun a S=>leafL ⟨d,S⟩
  ·refine fJ [(30,_)] 1 [some 0] fun G a w S=>?_
   exact sLoad1 0 (.slice ah p0.Left.length ai) S (wN d) d d d d d d (lb d) fun a S=>leafL ⟨d,S⟩
  ·exact fM 2 none d d d d (.inl d) d d d
  ·refine fJ [(31,_),(32,_)] 3 [some 1,some 2] fun G a w S=>?_
   exact sIdxV S (wN d) d d d bc d (lb d) fun a S=>leafL ⟨d,S⟩
  ·refine fJ [(33,_)] 4 [some 3] fun G a w S=>?_
   exact sLoadV1 (vq:=bb) 3 (iv aa) S (wN d) d d d d d (lb d) fun a S=>leafL ⟨d,S⟩
  ·refine fJ [(34,_)] 5 [some 4] fun G a w S=>?_
   have S1:=S.mem
   refine sCq [iv aa] (.bool am) S callee23 (S1.quiet [] d) (fun E1 w1 S1=>c_raddleref37_in E1 w1 aa am av S1) fun a w S=>?_
   exact leafL ⟨d,S⟩
  ·refine fJ [(35,_)] 6 [some 5] fun G a w S=>?_
   exact sNot (b:=am) S (wN d) d d d (lb d) fun a S=>leafL ⟨d,S⟩
  ·exact fM 7 (some 6) d d d d (.inl d) d d d
  ·refine fJ [(1,_),(37,_)] 8 [none,some 7] fun G a w S=>?_
   exact sField (b:=ag) (off:=0) 1 1 S (wG 7 false 37 d d d ab) d d d d d (lb d) fun a S=>leafL ⟨d,S⟩
  ·refine fJ [(38,_),(37,_)] 9 [some 8,some 7] fun G a w S=>?_
   exact sLoad1 0 (.slice aj p0.Right.length ak) S (wG 7 false 37 d d d ab) d d d d d d (lb d) fun a S=>leafL ⟨d,S⟩
  ·refine fJ [(3,_),(37,_)] 10 [none,some 7] fun G a w S=>?_
   exact sMove (iv af) S (wG 7 false 37 d d d ab) (.inl d) d d (lb d) fun a S=>leafL ⟨d,S⟩
  ·refine fJ [(39,_),(40,_),(37,_)] 11 [some 9,some 10,some 7] fun G a w S=>?_
   exact sIdxV S (wG 7 false 37 d d d ab) d d d bf d (lb d) fun a S=>leafL ⟨d,S⟩
  ·refine fJ [(41,_),(37,_)] 12 [some 11,some 7] fun G a w S=>?_
   exact sLoadV1 (vq:=aH) 0 (iv ac) S (wG 7 false 37 d d d ab) d d d d d (lb d) fun a S=>leafL ⟨d,S⟩
  ·refine fJ [(42,_),(37,_)] 13 [some 12,some 7] fun G a w S=>?_
   have S1:=S.mem
   refine sCallQ (X:=Unit) (f:=23) (vs:=[iv ac]) (val:=fun _=>.bool al) S (wG 7 false 37 d d d ab) d callee23 d (S1.quiet [] d) (fun E1 w1 S1=>c_raddleref37_in E1 w1 ac al ay S1) d (lb d) fun _ a w S=>?_
   exact leafL ⟨d,S⟩
  ·refine fJ [(43,_),(37,_)] 14 [some 13,some 7] fun G a w S=>?_
   exact sNot (b:=al) S (wG 7 false 37 d d d ab) d d d (lb d) fun a S=>leafL ⟨d,S⟩
  ·refine fJ [(37,_),(44,_)] 15 [some 7,some 14] fun G a w S=>?_
   exact sPickF (.bool (!al)) S (wN d) d d ab d d (lb d) fun a S=>leafL ⟨d,S⟩
  ·exact fM 16 (some 15) d d d d (.inl d) d d d
  ·refine fJ [(1,_),(46,_)] 17 [none,some 16] fun G a w S=>?_
   exact sSk S d d d a9 d d fun a S=>leafL ⟨d,S⟩
  ·refine fJ [(47,_),(46,_)] 18 [some 17,some 16] fun G a w S=>?_
   exact sSk S d d d a9 d d fun a S=>leafL ⟨d,S⟩
  ·refine fJ [(3,_),(46,_)] 19 [none,some 16] fun G a w S=>?_
   exact sSk S d d d a9 d d fun a S=>leafL ⟨d,S⟩
  ·refine fJ [(48,_),(49,_),(46,_)] 20 [some 18,some 19,some 16] fun G a w S=>?_
   exact sSk S d d d a9 d d fun a S=>leafL ⟨d,S⟩
  ·refine fJ [(50,_),(46,_)] 21 [some 20,some 16] fun G a w S=>?_
   exact sSk S d d d a9 d d fun a S=>leafL ⟨d,S⟩
  ·refine fJ [(1,_),(46,_)] 22 [none,some 16] fun G a w S=>?_
   exact sSk S d d d a9 d d fun a S=>leafL ⟨d,S⟩
  ·refine fJ [(52,_),(46,_)] 23 [some 22,some 16] fun G a w S=>?_
   exact sSk S d d d a9 d d fun a S=>leafL ⟨d,S⟩
  ·refine fJ [(3,_),(46,_)] 24 [none,some 16] fun G a w S=>?_
   exact sSk S d d d a9 d d fun a S=>leafL ⟨d,S⟩
  ·refine fJ [(53,_),(54,_),(46,_)] 25 [some 23,some 24,some 16] fun G a w S=>?_
   exact sSk S d d d a9 d d fun a S=>leafL ⟨d,S⟩
  ·refine fJ [(55,_),(46,_)] 26 [some 25,some 16] fun G a w S=>?_
   exact sSk S d d d a9 d d fun a S=>leafL ⟨d,S⟩
  ·refine fJ [(51,_),(56,_),(46,_)] 27 [some 21,some 26,some 16] fun G a w S=>?_
   exact sSk S d d d a9 d d fun a S=>leafL ⟨d,S⟩
  ·refine fJ [(46,_),(57,_)] 28 [some 16,some 27] fun G a w S=>?_
   exact sPickT (.bool true) S (wN d) d d a9 d d (lb d) fun a S=>leafL ⟨d,S⟩
  ·exact fM 29 (some 28) d d d d (.inl d) d d d
  ·refine fJ [(1,_),(59,_)] 30 [none,some 29] fun G a w S=>?_
   exact sSk S d d d d d d fun a S=>leafL ⟨d,S⟩
  ·refine fJ [(60,_),(59,_)] 31 [some 30,some 29] fun G a w S=>?_
   exact sSk S d d d d d d fun a S=>leafL ⟨d,S⟩
  ·refine fJ [(3,_),(59,_)] 32 [none,some 29] fun G a w S=>?_
   exact sSk S d d d d d d fun a S=>leafL ⟨d,S⟩
  ·refine fJ [(61,_),(62,_),(59,_)] 33 [some 31,some 32,some 29] fun G a w S=>?_
   exact sSk S d d d d d d fun a S=>leafL ⟨d,S⟩
  ·refine fJ [(63,_),(59,_)] 34 [some 33,some 29] fun G a w S=>?_
   exact sSk S d d d d d d fun a S=>leafL ⟨d,S⟩
  ·refine fJ [(1,_),(59,_)] 35 [none,some 29] fun G a w S=>?_
   exact sSk S d d d d d d fun a S=>leafL ⟨d,S⟩
  ·refine fJ [(65,_),(59,_)] 36 [some 35,some 29] fun G a w S=>?_
   exact sSk S d d d d d d fun a S=>leafL ⟨d,S⟩
  ·refine fJ [(3,_),(59,_)] 37 [none,some 29] fun G a w S=>?_
   exact sSk S d d d d d d fun a S=>leafL ⟨d,S⟩
  ·refine fJ [(66,_),(67,_),(59,_)] 38 [some 36,some 37,some 29] fun G a w S=>?_
   exact sSk S d d d d d d fun a S=>leafL ⟨d,S⟩
  ·refine fJ [(68,_),(59,_)] 39 [some 38,some 29] fun G a w S=>?_
   exact sSk S d d d d d d fun a S=>leafL ⟨d,S⟩
  ·refine fJ [(64,_),(69,_),(59,_)] 40 [some 34,some 39,some 29] fun G a w S=>?_
   exact sSk S d d d d d d fun a S=>leafL ⟨d,S⟩
  ·refine fJ [(70,_),(59,_)] 41 [some 40,some 29] fun G a w S=>?_
   exact sSk S d d d d d d fun a S=>leafL ⟨d,S⟩
  ·refine fJ [(59,_),(71,_)] 42 [some 29,some 41] fun G a w S=>?_
   exact sPickT (.bool true) S (wN d) d d d d d (lb d) fun a S=>leafL ⟨d,S⟩
  exact leafT (⟨true,Option.some.inj h,S.fix [0] [6,7] (by decide) d d d⟩)
 rcases iS h with ⟨ae,h⟩ | ⟨ae,h⟩
 ·obtain ⟨bg,bh,S⟩:=pIdx (P:=Try.prog) (r:=(rI .i64)) (v:=.slice ah p0.Left.length ai) (xs:=p0.Left) (j:=af) 34 3 0 S Try.underlying34 d d aq
  obtain ⟨bC,S⟩:=pLoad (r:=(rI .i64)) (q:=bg) (x:=aa) 0 S d
  obtain rfl:bC=iv aa:=S.mem.know (i:=1) (e:=fRep (rI .i64) (bC) aa) d
  obtain ⟨aI,bi,S⟩:=pIdx (P:=Try.prog) (r:=(rI .i64)) (v:=.slice aj p0.Right.length ak) (xs:=p0.Right) (j:=af) 34 3 4 S Try.underlying34 d d ar
  obtain ⟨bD,S⟩:=pLoad (r:=(rI .i64)) (q:=aI) (x:=ac) 0 S d
  obtain rfl:bD=iv ac:=S.mem.know (i:=1) (e:=fRep (rI .i64) (bD) ac) d
  obtain ⟨aJ,bj,S⟩:=pIdx (P:=Try.prog) (r:=(rI .i64)) (v:=.slice ah p0.Left.length ai) (xs:=p0.Left) (j:=af) 34 3 6 S Try.underlying34 d d aq
  obtain ⟨bE,S⟩:=pLoad (r:=(rI .i64)) (q:=aJ) (x:=aa) 0 S d
  obtain rfl:bE=iv aa:=S.mem.know (i:=1) (e:=fRep (rI .i64) (bE) aa) d
  obtain ⟨aK,bl,S⟩:=pIdx (P:=Try.prog) (r:=(rI .i64)) (v:=.slice aj p0.Right.length ak) (xs:=p0.Right) (j:=af) 34 3 10 S Try.underlying34 d d ar
  obtain ⟨bG,S⟩:=pLoad (r:=(rI .i64)) (q:=aK) (x:=ac) 0 S d
  obtain rfl:bG=iv ac:=S.mem.know (i:=1) (e:=fRep (rI .i64) (bG) ac) d
  refine sDraw (nf:=[]) (W:=[(0,30,.pointer (some ⟨ag,0,none⟩)),(1,31,.slice ah p0.Left.length ai),(2,32,iv af),(3,33,bg),(4,34,iv aa),(5,35,.bool am),(6,36,.bool (!am)),(7,37,.bool (!am)),(8,38,.pointer (some ⟨ag,1,none⟩)),(9,39,.slice aj p0.Right.length ak),(10,40,iv af),(11,41,aI),(12,42,iv ac),(13,43,.bool al),(14,44,.bool (!al)),(15,45,.bool (!al)),(16,46,.bool (!al)),(17,47,.pointer (some ⟨ag,0,none⟩)),(18,48,.slice ah p0.Left.length ai),(19,49,iv af),(20,50,aJ),(21,51,iv aa),(22,52,.pointer (some ⟨ag,1,none⟩)),(23,53,.slice aj p0.Right.length ak),(24,54,iv af),(25,55,aK),(26,56,iv ac),(27,57,.bool (decide (ac ≤ aa))),(28,58,.bool (decide (ac ≤ aa))),(29,59,.bool (decide (ac ≤ aa))),(30,60,undef),(31,61,undef),(32,62,undef),(33,63,undef),(34,64,undef),(35,65,undef),(36,66,undef),(37,67,undef),(38,68,undef),(39,69,undef),(40,70,undef),(41,71,undef),(42,72,.bool true)]) d S ?_
  refine node_by (A:=anc_raddleref37_Check_0) 43 (by kernel_rfl) (by kernel_rfl) (by kernel_rfl) (by kernel_rfl) (by kernel_rfl) [0,1,2,3,4,5,6,7,8,9,10,11,12,13,14,15,16,17,18,19,20,21,22,23,24,25,26,27,28,29,30,31,32,33,34,35,36,37,38,39,40,41,42] (by kernel_rfl) (by decide) (by decide) (fF ?_ (fF ?_ (fF ?_ (fF ?_ (fF ?_ (fF ?_ (fF ?_ (fF ?_ (fF ?_ (fF ?_ (fF ?_ (fF ?_ (fF ?_ (fF ?_ (fF ?_ (fF ?_ (fF ?_ (fF ?_ (fF ?_ (fF ?_ (fF ?_ (fF ?_ (fF ?_ (fF ?_ (fF ?_ (fF ?_ (fF ?_ (fF ?_ (fF ?_ (fF ?_ (fF ?_ (fF ?_ (fF ?_ (fF ?_ (fF ?_ (fF ?_ (fF ?_ (fF ?_ (fF ?_ (fF ?_ (fF ?_ (fF ?_ (fF ?_ (trivial)))))))))))))))))))))))))))))))))))))))))))) [(1,.pointer (some ⟨ag,0,none⟩)),(3,iv af),(38,.pointer (some ⟨ag,1,none⟩)),(39,.slice aj p0.Right.length ak),(40,iv af),(41,aI),(42,iv ac),(43,.bool al),(44,.bool (!al)),(47,.pointer (some ⟨ag,0,none⟩)),(48,.slice ah p0.Left.length ai),(49,iv af),(50,aJ),(51,iv aa),(52,.pointer (some ⟨ag,1,none⟩)),(53,.slice aj p0.Right.length ak),(54,iv af),(55,aK),(56,iv ac),(57,.bool (decide (ac ≤ aa))),(60,undef),(61,undef),(62,undef),(63,undef),(64,undef),(65,undef),(66,undef),(67,undef),(68,undef),(69,undef),(70,undef),(71,undef),(72,.bool true)] (fin_of [none,none,some 8,some 9,some 10,some 11,some 12,some 13,some 14,some 17,some 18,some 19,some 20,some 21,some 22,some 23,some 24,some 25,some 26,some 27,some 30,some 31,some 32,some 33,some 34,some 35,some 36,some 37,some 38,some 39,some 40,some 41,some 42] d (by kernel_rfl) (by kernel_rfl)) (fun _ a w S=>?_)
  ·refine fJ [(1,_)] 0 [none] fun G a w S=>?_
   exact sField (b:=ag) (off:=0) 0 0 S (wN d) d d d d d (lb d) fun a S=>leafL ⟨d,S⟩
  ·refine fJ [(30,_)] 1 [some 0] fun G a w S=>?_
   exact sLoad1 0 (.slice ah p0.Left.length ai) S (wN d) d d d d d d (lb d) fun a S=>leafL ⟨d,S⟩
  ·exact fM 2 none d d d d (.inl d) d d d
  ·refine fJ [(31,_),(32,_)] 3 [some 1,some 2] fun G a w S=>?_
   exact sIdxV S (wN d) d d d bh d (lb d) fun a S=>leafL ⟨d,S⟩
  ·refine fJ [(33,_)] 4 [some 3] fun G a w S=>?_
   exact sLoadV1 (vq:=bg) 9 (iv aa) S (wN d) d d d d d (lb d) fun a S=>leafL ⟨d,S⟩
  ·refine fJ [(34,_)] 5 [some 4] fun G a w S=>?_
   have S1:=S.mem
   refine sCq [iv aa] (.bool am) S callee23 (S1.quiet [] d) (fun E1 w1 S1=>c_raddleref37_in E1 w1 aa am av S1) fun a w S=>?_
   exact leafL ⟨d,S⟩
  ·refine fJ [(35,_)] 6 [some 5] fun G a w S=>?_
   exact sNot (b:=am) S (wN d) d d d (lb d) fun a S=>leafL ⟨d,S⟩
  ·exact fM 7 (some 6) d d d d (.inl d) d d d
  ·refine fJ [(1,_),(37,_)] 8 [none,some 7] fun G a w S=>?_
   exact sField (b:=ag) (off:=0) 1 1 S (wG 7 false 37 d d d ab) d d d d d (lb d) fun a S=>leafL ⟨d,S⟩
  ·refine fJ [(38,_),(37,_)] 9 [some 8,some 7] fun G a w S=>?_
   exact sLoad1 0 (.slice aj p0.Right.length ak) S (wG 7 false 37 d d d ab) d d d d d d (lb d) fun a S=>leafL ⟨d,S⟩
  ·refine fJ [(3,_),(37,_)] 10 [none,some 7] fun G a w S=>?_
   exact sMove (iv af) S (wG 7 false 37 d d d ab) (.inl d) d d (lb d) fun a S=>leafL ⟨d,S⟩
  ·refine fJ [(39,_),(40,_),(37,_)] 11 [some 9,some 10,some 7] fun G a w S=>?_
   exact sIdxV S (wG 7 false 37 d d d ab) d d d bi d (lb d) fun a S=>leafL ⟨d,S⟩
  ·refine fJ [(41,_),(37,_)] 12 [some 11,some 7] fun G a w S=>?_
   exact sLoadV1 (vq:=aI) 6 (iv ac) S (wG 7 false 37 d d d ab) d d d d d (lb d) fun a S=>leafL ⟨d,S⟩
  ·refine fJ [(42,_),(37,_)] 13 [some 12,some 7] fun G a w S=>?_
   have S1:=S.mem
   refine sCallQ (X:=Unit) (f:=23) (vs:=[iv ac]) (val:=fun _=>.bool al) S (wG 7 false 37 d d d ab) d callee23 d (S1.quiet [] d) (fun E1 w1 S1=>c_raddleref37_in E1 w1 ac al ay S1) d (lb d) fun _ a w S=>?_
   exact leafL ⟨d,S⟩
  ·refine fJ [(43,_),(37,_)] 14 [some 13,some 7] fun G a w S=>?_
   exact sNot (b:=al) S (wG 7 false 37 d d d ab) d d d (lb d) fun a S=>leafL ⟨d,S⟩
  ·refine fJ [(37,_),(44,_)] 15 [some 7,some 14] fun G a w S=>?_
   exact sPickF (.bool (!al)) S (wN d) d d ab d d (lb d) fun a S=>leafL ⟨d,S⟩
  ·exact fM 16 (some 15) d d d d (.inl d) d d d
  ·refine fJ [(1,_),(46,_)] 17 [none,some 16] fun G a w S=>?_
   exact sField (b:=ag) (off:=0) 0 0 S (wG 16 false 46 d d d a9) d d d d d (lb d) fun a S=>leafL ⟨d,S⟩
  ·refine fJ [(47,_),(46,_)] 18 [some 17,some 16] fun G a w S=>?_
   exact sLoad1 0 (.slice ah p0.Left.length ai) S (wG 16 false 46 d d d a9) d d d d d d (lb d) fun a S=>leafL ⟨d,S⟩
  ·refine fJ [(3,_),(46,_)] 19 [none,some 16] fun G a w S=>?_
   exact sMove (iv af) S (wG 16 false 46 d d d a9) (.inl d) d d (lb d) fun a S=>leafL ⟨d,S⟩
  ·refine fJ [(48,_),(49,_),(46,_)] 20 [some 18,some 19,some 16] fun G a w S=>?_
   exact sIdxV S (wG 16 false 46 d d d a9) d d d bj d (lb d) fun a S=>leafL ⟨d,S⟩
  ·refine fJ [(50,_),(46,_)] 21 [some 20,some 16] fun G a w S=>?_
   exact sLoadV1 (vq:=aJ) 3 (iv aa) S (wG 16 false 46 d d d a9) d d d d d (lb d) fun a S=>leafL ⟨d,S⟩
  ·refine fJ [(1,_),(46,_)] 22 [none,some 16] fun G a w S=>?_
   exact sField (b:=ag) (off:=0) 1 1 S (wG 16 false 46 d d d a9) d d d d d (lb d) fun a S=>leafL ⟨d,S⟩
  ·refine fJ [(52,_),(46,_)] 23 [some 22,some 16] fun G a w S=>?_
   exact sLoad1 0 (.slice aj p0.Right.length ak) S (wG 16 false 46 d d d a9) d d d d d d (lb d) fun a S=>leafL ⟨d,S⟩
  ·refine fJ [(3,_),(46,_)] 24 [none,some 16] fun G a w S=>?_
   exact sMove (iv af) S (wG 16 false 46 d d d a9) (.inl d) d d (lb d) fun a S=>leafL ⟨d,S⟩
  ·refine fJ [(53,_),(54,_),(46,_)] 25 [some 23,some 24,some 16] fun G a w S=>?_
   exact sIdxV S (wG 16 false 46 d d d a9) d d d bl d (lb d) fun a S=>leafL ⟨d,S⟩
  ·refine fJ [(55,_),(46,_)] 26 [some 25,some 16] fun G a w S=>?_
   exact sLoadV1 (vq:=aK) 0 (iv ac) S (wG 16 false 46 d d d a9) d d d d d (lb d) fun a S=>leafL ⟨d,S⟩
  ·refine fJ [(51,_),(56,_),(46,_)] 27 [some 21,some 26,some 16] fun G a w S=>?_
   exact sBin _ S (wG 16 false 46 d d d a9) d d d (bGe _ _ _ _ .i64 aa ac) d (lb d) fun a S=>leafL ⟨d,S⟩
  ·refine fJ [(46,_),(57,_)] 28 [some 16,some 27] fun G a w S=>?_
   exact sPickF (.bool (decide (ac ≤ aa))) S (wN d) d d a9 d d (lb d) fun a S=>leafL ⟨d,S⟩
  ·exact fM 29 (some 28) d d d d (.inl d) d d d
  ·refine fJ [(1,_),(59,_)] 30 [none,some 29] fun G a w S=>?_
   exact sSk S d d d ae d d fun a S=>leafL ⟨d,S⟩
  ·refine fJ [(60,_),(59,_)] 31 [some 30,some 29] fun G a w S=>?_
   exact sSk S d d d ae d d fun a S=>leafL ⟨d,S⟩
  ·refine fJ [(3,_),(59,_)] 32 [none,some 29] fun G a w S=>?_
   exact sSk S d d d ae d d fun a S=>leafL ⟨d,S⟩
  ·refine fJ [(61,_),(62,_),(59,_)] 33 [some 31,some 32,some 29] fun G a w S=>?_
   exact sSk S d d d ae d d fun a S=>leafL ⟨d,S⟩
  ·refine fJ [(63,_),(59,_)] 34 [some 33,some 29] fun G a w S=>?_
   exact sSk S d d d ae d d fun a S=>leafL ⟨d,S⟩
  ·refine fJ [(1,_),(59,_)] 35 [none,some 29] fun G a w S=>?_
   exact sSk S d d d ae d d fun a S=>leafL ⟨d,S⟩
  ·refine fJ [(65,_),(59,_)] 36 [some 35,some 29] fun G a w S=>?_
   exact sSk S d d d ae d d fun a S=>leafL ⟨d,S⟩
  ·refine fJ [(3,_),(59,_)] 37 [none,some 29] fun G a w S=>?_
   exact sSk S d d d ae d d fun a S=>leafL ⟨d,S⟩
  ·refine fJ [(66,_),(67,_),(59,_)] 38 [some 36,some 37,some 29] fun G a w S=>?_
   exact sSk S d d d ae d d fun a S=>leafL ⟨d,S⟩
  ·refine fJ [(68,_),(59,_)] 39 [some 38,some 29] fun G a w S=>?_
   exact sSk S d d d ae d d fun a S=>leafL ⟨d,S⟩
  ·refine fJ [(64,_),(69,_),(59,_)] 40 [some 34,some 39,some 29] fun G a w S=>?_
   exact sSk S d d d ae d d fun a S=>leafL ⟨d,S⟩
  ·refine fJ [(70,_),(59,_)] 41 [some 40,some 29] fun G a w S=>?_
   exact sSk S d d d ae d d fun a S=>leafL ⟨d,S⟩
  ·refine fJ [(59,_),(71,_)] 42 [some 29,some 41] fun G a w S=>?_
   exact sPickT (.bool true) S (wN d) d d ae d d (lb d) fun a S=>leafL ⟨d,S⟩
  exact leafT (⟨true,Option.some.inj h,S.fix [0] [12,13] (by decide) d d d⟩)
 obtain ⟨bm,bn,S⟩:=pIdx (P:=Try.prog) (r:=(rI .i64)) (v:=.slice ah p0.Left.length ai) (xs:=p0.Left) (j:=af) 34 3 0 S Try.underlying34 d d aq
 obtain ⟨bH,S⟩:=pLoad (r:=(rI .i64)) (q:=bm) (x:=aa) 0 S d
 obtain rfl:bH=iv aa:=S.mem.know (i:=1) (e:=fRep (rI .i64) (bH) aa) d
 obtain ⟨aL,bo,S⟩:=pIdx (P:=Try.prog) (r:=(rI .i64)) (v:=.slice aj p0.Right.length ak) (xs:=p0.Right) (j:=af) 34 3 4 S Try.underlying34 d d ar
 obtain ⟨bI,S⟩:=pLoad (r:=(rI .i64)) (q:=aL) (x:=ac) 0 S d
 obtain rfl:bI=iv ac:=S.mem.know (i:=1) (e:=fRep (rI .i64) (bI) ac) d
 obtain ⟨aM,bp,S⟩:=pIdx (P:=Try.prog) (r:=(rI .i64)) (v:=.slice ah p0.Left.length ai) (xs:=p0.Left) (j:=af) 34 3 6 S Try.underlying34 d d aq
 obtain ⟨bJ,S⟩:=pLoad (r:=(rI .i64)) (q:=aM) (x:=aa) 0 S d
 obtain rfl:bJ=iv aa:=S.mem.know (i:=1) (e:=fRep (rI .i64) (bJ) aa) d
 obtain ⟨aO,bq,S⟩:=pIdx (P:=Try.prog) (r:=(rI .i64)) (v:=.slice aj p0.Right.length ak) (xs:=p0.Right) (j:=af) 34 3 10 S Try.underlying34 d d ar
 obtain ⟨bK,S⟩:=pLoad (r:=(rI .i64)) (q:=aO) (x:=ac) 0 S d
 obtain rfl:bK=iv ac:=S.mem.know (i:=1) (e:=fRep (rI .i64) (bK) ac) d
 obtain ⟨aP,br,S⟩:=pIdx (P:=Try.prog) (r:=(rI .i64)) (v:=.slice aj p0.Right.length ak) (xs:=p0.Right) (j:=af) 34 3 13 S Try.underlying34 d d ar
 obtain ⟨bL,S⟩:=pLoad (r:=(rI .i64)) (q:=aP) (x:=ac) 0 S d
 obtain rfl:bL=iv ac:=S.mem.know (i:=1) (e:=fRep (rI .i64) (bL) ac) d
 obtain ⟨aQ,bt,S⟩:=pIdx (P:=Try.prog) (r:=(rI .i64)) (v:=.slice ah p0.Left.length ai) (xs:=p0.Left) (j:=af) 34 3 15 S Try.underlying34 d d aq
 obtain ⟨aG,S⟩:=pLoad (r:=(rI .i64)) (q:=aQ) (x:=aa) 0 S d
 obtain rfl:aG=iv aa:=S.mem.know (i:=1) (e:=fRep (rI .i64) (aG) aa) d
 refine sDraw (nf:=[]) (W:=[(0,30,.pointer (some ⟨ag,0,none⟩)),(1,31,.slice ah p0.Left.length ai),(2,32,iv af),(3,33,bm),(4,34,iv aa),(5,35,.bool am),(6,36,.bool (!am)),(7,37,.bool (!am)),(8,38,.pointer (some ⟨ag,1,none⟩)),(9,39,.slice aj p0.Right.length ak),(10,40,iv af),(11,41,aL),(12,42,iv ac),(13,43,.bool al),(14,44,.bool (!al)),(15,45,.bool (!al)),(16,46,.bool (!al)),(17,47,.pointer (some ⟨ag,0,none⟩)),(18,48,.slice ah p0.Left.length ai),(19,49,iv af),(20,50,aM),(21,51,iv aa),(22,52,.pointer (some ⟨ag,1,none⟩)),(23,53,.slice aj p0.Right.length ak),(24,54,iv af),(25,55,aO),(26,56,iv ac),(27,57,.bool (decide (ac ≤ aa))),(28,58,.bool (decide (ac ≤ aa))),(29,59,.bool (decide (ac ≤ aa))),(30,60,.pointer (some ⟨ag,1,none⟩)),(31,61,.slice aj p0.Right.length ak),(32,62,iv af),(33,63,aP),(34,64,iv ac),(35,65,.pointer (some ⟨ag,0,none⟩)),(36,66,.slice ah p0.Left.length ai),(37,67,iv af),(38,68,aQ),(39,69,iv aa),(40,70,iv (w64 (ac - aa))),(41,71,.bool (decide (200 < (w64 (ac - aa))))),(42,72,.bool (decide (200 < (w64 (ac - aa)))))]) d S ?_
 refine node_by (A:=anc_raddleref37_Check_0) 43 (by kernel_rfl) (by kernel_rfl) (by kernel_rfl) (by kernel_rfl) (by kernel_rfl) [0,1,2,3,4,5,6,7,8,9,10,11,12,13,14,15,16,17,18,19,20,21,22,23,24,25,26,27,28,29,30,31,32,33,34,35,36,37,38,39,40,41,42] (by kernel_rfl) (by decide) (by decide) (fF ?_ (fF ?_ (fF ?_ (fF ?_ (fF ?_ (fF ?_ (fF ?_ (fF ?_ (fF ?_ (fF ?_ (fF ?_ (fF ?_ (fF ?_ (fF ?_ (fF ?_ (fF ?_ (fF ?_ (fF ?_ (fF ?_ (fF ?_ (fF ?_ (fF ?_ (fF ?_ (fF ?_ (fF ?_ (fF ?_ (fF ?_ (fF ?_ (fF ?_ (fF ?_ (fF ?_ (fF ?_ (fF ?_ (fF ?_ (fF ?_ (fF ?_ (fF ?_ (fF ?_ (fF ?_ (fF ?_ (fF ?_ (fF ?_ (fF ?_ (trivial)))))))))))))))))))))))))))))))))))))))))))) [(1,.pointer (some ⟨ag,0,none⟩)),(3,iv af),(38,.pointer (some ⟨ag,1,none⟩)),(39,.slice aj p0.Right.length ak),(40,iv af),(41,aL),(42,iv ac),(43,.bool al),(44,.bool (!al)),(47,.pointer (some ⟨ag,0,none⟩)),(48,.slice ah p0.Left.length ai),(49,iv af),(50,aM),(51,iv aa),(52,.pointer (some ⟨ag,1,none⟩)),(53,.slice aj p0.Right.length ak),(54,iv af),(55,aO),(56,iv ac),(57,.bool (decide (ac ≤ aa))),(60,.pointer (some ⟨ag,1,none⟩)),(61,.slice aj p0.Right.length ak),(62,iv af),(63,aP),(64,iv ac),(65,.pointer (some ⟨ag,0,none⟩)),(66,.slice ah p0.Left.length ai),(67,iv af),(68,aQ),(69,iv aa),(70,iv (w64 (ac - aa))),(71,.bool (decide (200 < (w64 (ac - aa))))),(72,.bool (decide (200 < (w64 (ac - aa)))))] (fin_of [none,none,some 8,some 9,some 10,some 11,some 12,some 13,some 14,some 17,some 18,some 19,some 20,some 21,some 22,some 23,some 24,some 25,some 26,some 27,some 30,some 31,some 32,some 33,some 34,some 35,some 36,some 37,some 38,some 39,some 40,some 41,some 42] d (by kernel_rfl) (by kernel_rfl)) (fun _ a w S=>?_)
 ·refine fJ [(1,_)] 0 [none] fun G a w S=>?_
  exact sField (b:=ag) (off:=0) 0 0 S (wN d) d d d d d (lb d) fun a S=>leafL ⟨d,S⟩
 ·refine fJ [(30,_)] 1 [some 0] fun G a w S=>?_
  exact sLoad1 0 (.slice ah p0.Left.length ai) S (wN d) d d d d d d (lb d) fun a S=>leafL ⟨d,S⟩
 ·exact fM 2 none d d d d (.inl d) d d d
 ·refine fJ [(31,_),(32,_)] 3 [some 1,some 2] fun G a w S=>?_
  exact sIdxV S (wN d) d d d bn d (lb d) fun a S=>leafL ⟨d,S⟩
 ·refine fJ [(33,_)] 4 [some 3] fun G a w S=>?_
  exact sLoadV1 (vq:=bm) 15 (iv aa) S (wN d) d d d d d (lb d) fun a S=>leafL ⟨d,S⟩
 ·refine fJ [(34,_)] 5 [some 4] fun G a w S=>?_
  have S1:=S.mem
  refine sCq [iv aa] (.bool am) S callee23 (S1.quiet [] d) (fun E1 w1 S1=>c_raddleref37_in E1 w1 aa am av S1) fun a w S=>?_
  exact leafL ⟨d,S⟩
 ·refine fJ [(35,_)] 6 [some 5] fun G a w S=>?_
  exact sNot (b:=am) S (wN d) d d d (lb d) fun a S=>leafL ⟨d,S⟩
 ·exact fM 7 (some 6) d d d d (.inl d) d d d
 ·refine fJ [(1,_),(37,_)] 8 [none,some 7] fun G a w S=>?_
  exact sField (b:=ag) (off:=0) 1 1 S (wG 7 false 37 d d d ab) d d d d d (lb d) fun a S=>leafL ⟨d,S⟩
 ·refine fJ [(38,_),(37,_)] 9 [some 8,some 7] fun G a w S=>?_
  exact sLoad1 0 (.slice aj p0.Right.length ak) S (wG 7 false 37 d d d ab) d d d d d d (lb d) fun a S=>leafL ⟨d,S⟩
 ·refine fJ [(3,_),(37,_)] 10 [none,some 7] fun G a w S=>?_
  exact sMove (iv af) S (wG 7 false 37 d d d ab) (.inl d) d d (lb d) fun a S=>leafL ⟨d,S⟩
 ·refine fJ [(39,_),(40,_),(37,_)] 11 [some 9,some 10,some 7] fun G a w S=>?_
  exact sIdxV S (wG 7 false 37 d d d ab) d d d bo d (lb d) fun a S=>leafL ⟨d,S⟩
 ·refine fJ [(41,_),(37,_)] 12 [some 11,some 7] fun G a w S=>?_
  exact sLoadV1 (vq:=aL) 12 (iv ac) S (wG 7 false 37 d d d ab) d d d d d (lb d) fun a S=>leafL ⟨d,S⟩
 ·refine fJ [(42,_),(37,_)] 13 [some 12,some 7] fun G a w S=>?_
  have S1:=S.mem
  refine sCallQ (X:=Unit) (f:=23) (vs:=[iv ac]) (val:=fun _=>.bool al) S (wG 7 false 37 d d d ab) d callee23 d (S1.quiet [] d) (fun E1 w1 S1=>c_raddleref37_in E1 w1 ac al ay S1) d (lb d) fun _ a w S=>?_
  exact leafL ⟨d,S⟩
 ·refine fJ [(43,_),(37,_)] 14 [some 13,some 7] fun G a w S=>?_
  exact sNot (b:=al) S (wG 7 false 37 d d d ab) d d d (lb d) fun a S=>leafL ⟨d,S⟩
 ·refine fJ [(37,_),(44,_)] 15 [some 7,some 14] fun G a w S=>?_
  exact sPickF (.bool (!al)) S (wN d) d d ab d d (lb d) fun a S=>leafL ⟨d,S⟩
 ·exact fM 16 (some 15) d d d d (.inl d) d d d
 ·refine fJ [(1,_),(46,_)] 17 [none,some 16] fun G a w S=>?_
  exact sField (b:=ag) (off:=0) 0 0 S (wG 16 false 46 d d d a9) d d d d d (lb d) fun a S=>leafL ⟨d,S⟩
 ·refine fJ [(47,_),(46,_)] 18 [some 17,some 16] fun G a w S=>?_
  exact sLoad1 0 (.slice ah p0.Left.length ai) S (wG 16 false 46 d d d a9) d d d d d d (lb d) fun a S=>leafL ⟨d,S⟩
 ·refine fJ [(3,_),(46,_)] 19 [none,some 16] fun G a w S=>?_
  exact sMove (iv af) S (wG 16 false 46 d d d a9) (.inl d) d d (lb d) fun a S=>leafL ⟨d,S⟩
 ·refine fJ [(48,_),(49,_),(46,_)] 20 [some 18,some 19,some 16] fun G a w S=>?_
  exact sIdxV S (wG 16 false 46 d d d a9) d d d bp d (lb d) fun a S=>leafL ⟨d,S⟩
 ·refine fJ [(50,_),(46,_)] 21 [some 20,some 16] fun G a w S=>?_
  exact sLoadV1 (vq:=aM) 9 (iv aa) S (wG 16 false 46 d d d a9) d d d d d (lb d) fun a S=>leafL ⟨d,S⟩
 ·refine fJ [(1,_),(46,_)] 22 [none,some 16] fun G a w S=>?_
  exact sField (b:=ag) (off:=0) 1 1 S (wG 16 false 46 d d d a9) d d d d d (lb d) fun a S=>leafL ⟨d,S⟩
 ·refine fJ [(52,_),(46,_)] 23 [some 22,some 16] fun G a w S=>?_
  exact sLoad1 0 (.slice aj p0.Right.length ak) S (wG 16 false 46 d d d a9) d d d d d d (lb d) fun a S=>leafL ⟨d,S⟩
 ·refine fJ [(3,_),(46,_)] 24 [none,some 16] fun G a w S=>?_
  exact sMove (iv af) S (wG 16 false 46 d d d a9) (.inl d) d d (lb d) fun a S=>leafL ⟨d,S⟩
 ·refine fJ [(53,_),(54,_),(46,_)] 25 [some 23,some 24,some 16] fun G a w S=>?_
  exact sIdxV S (wG 16 false 46 d d d a9) d d d bq d (lb d) fun a S=>leafL ⟨d,S⟩
 ·refine fJ [(55,_),(46,_)] 26 [some 25,some 16] fun G a w S=>?_
  exact sLoadV1 (vq:=aO) 6 (iv ac) S (wG 16 false 46 d d d a9) d d d d d (lb d) fun a S=>leafL ⟨d,S⟩
 ·refine fJ [(51,_),(56,_),(46,_)] 27 [some 21,some 26,some 16] fun G a w S=>?_
  exact sBin _ S (wG 16 false 46 d d d a9) d d d (bGe _ _ _ _ .i64 aa ac) d (lb d) fun a S=>leafL ⟨d,S⟩
 ·refine fJ [(46,_),(57,_)] 28 [some 16,some 27] fun G a w S=>?_
  exact sPickF (.bool (decide (ac ≤ aa))) S (wN d) d d a9 d d (lb d) fun a S=>leafL ⟨d,S⟩
 ·exact fM 29 (some 28) d d d d (.inl d) d d d
 ·refine fJ [(1,_),(59,_)] 30 [none,some 29] fun G a w S=>?_
  exact sField (b:=ag) (off:=0) 1 1 S (wG 29 false 59 d d d ae) d d d d d (lb d) fun a S=>leafL ⟨d,S⟩
 ·refine fJ [(60,_),(59,_)] 31 [some 30,some 29] fun G a w S=>?_
  exact sLoad1 0 (.slice aj p0.Right.length ak) S (wG 29 false 59 d d d ae) d d d d d d (lb d) fun a S=>leafL ⟨d,S⟩
 ·refine fJ [(3,_),(59,_)] 32 [none,some 29] fun G a w S=>?_
  exact sMove (iv af) S (wG 29 false 59 d d d ae) (.inl d) d d (lb d) fun a S=>leafL ⟨d,S⟩
 ·refine fJ [(61,_),(62,_),(59,_)] 33 [some 31,some 32,some 29] fun G a w S=>?_
  exact sIdxV S (wG 29 false 59 d d d ae) d d d br d (lb d) fun a S=>leafL ⟨d,S⟩
 ·refine fJ [(63,_),(59,_)] 34 [some 33,some 29] fun G a w S=>?_
  exact sLoadV1 (vq:=aP) 3 (iv ac) S (wG 29 false 59 d d d ae) d d d d d (lb d) fun a S=>leafL ⟨d,S⟩
 ·refine fJ [(1,_),(59,_)] 35 [none,some 29] fun G a w S=>?_
  exact sField (b:=ag) (off:=0) 0 0 S (wG 29 false 59 d d d ae) d d d d d (lb d) fun a S=>leafL ⟨d,S⟩
 ·refine fJ [(65,_),(59,_)] 36 [some 35,some 29] fun G a w S=>?_
  exact sLoad1 0 (.slice ah p0.Left.length ai) S (wG 29 false 59 d d d ae) d d d d d d (lb d) fun a S=>leafL ⟨d,S⟩
 ·refine fJ [(3,_),(59,_)] 37 [none,some 29] fun G a w S=>?_
  exact sMove (iv af) S (wG 29 false 59 d d d ae) (.inl d) d d (lb d) fun a S=>leafL ⟨d,S⟩
 ·refine fJ [(66,_),(67,_),(59,_)] 38 [some 36,some 37,some 29] fun G a w S=>?_
  exact sIdxV S (wG 29 false 59 d d d ae) d d d bt d (lb d) fun a S=>leafL ⟨d,S⟩
 ·refine fJ [(68,_),(59,_)] 39 [some 38,some 29] fun G a w S=>?_
  exact sLoadV1 (vq:=aQ) 0 (iv aa) S (wG 29 false 59 d d d ae) d d d d d (lb d) fun a S=>leafL ⟨d,S⟩
 ·refine fJ [(64,_),(69,_),(59,_)] 40 [some 34,some 39,some 29] fun G a w S=>?_
  exact sBin _ S (wG 29 false 59 d d d ae) d d d (bSub _ _ _ _ ac aa) d (lb d) fun a S=>leafL ⟨d,S⟩
 ·refine fJ [(70,_),(59,_)] 41 [some 40,some 29] fun G a w S=>?_
  exact sBin _ S (wG 29 false 59 d d d ae) d d d (bGt _ _ _ _ .i64 (w64 (ac - aa)) 200) d (lb d) fun a S=>leafL ⟨d,S⟩
 ·refine fJ [(59,_),(71,_)] 42 [some 29,some 41] fun G a w S=>?_
  exact sPickF (.bool (decide (200 < (w64 (ac - aa))))) S (wN d) d d ae d d (lb d) fun a S=>leafL ⟨d,S⟩
 exact leafT (⟨decide (200 < (w64 (ac - aa))),Option.some.inj h,S.fix [0] [18,19] (by decide) d d d⟩)
def anc_raddleref36_Same_0:List (List Nat):=[[],[],[0,1],[0,1,2],[],[],[4,5],[4,5,6],[0,1,2,3,4,5,6,7]]
noncomputable def raddleref36_Same_l1 (p0:(List Int)) (p1:(List Int)):Int→Option (Int ⊕ (Bool ⊕ Unit)):=fun s0=>match s0 with
 | a9=>
  if decide (a9 < (p0.length:Int)) then
   (idxO p0 a9).bind fun aa=>
   (idxO p1 a9).bind fun ab=>
   if aa != ab then
    some (.inr (.inl false))
   else
    some (.inl (w64 (a9 + 1)))
  else
   some (.inr (.inr ()))
noncomputable def F_raddleref36_Same (p0:(List Int)) (p1:(List Int)):Option Bool:=
 if (p0.length:Int) != (p1.length:Int) then
  some false
 else
  Option.bind (α:=Unit ⊕ Bool) (
   (whileO (raddleref36_Same_l1 p0 p1) 0).bind fun z0=>match z0 with
    | .inl z=>
     some (.inr z)
    | .inr _=>
     some (.inl ())) fun z0=>match z0 with
   | .inl _=>
    some true
   | .inr z=>
    some z
theorem c_raddleref36_Same (E:Nat→Prop) (w0:World) (p0:(List Int)) (v0:Value) (p1:(List Int)) (v1:Value) (r:Bool) (h:F_raddleref36_Same p0 p1=some r) (S:St0 E [] w0 w0 [] [fRep (rL (rI .i64)) (v0) p0,fRep (rL (rI .i64)) (v1) p1]) :
 Calls Try.prog 26 #[v0,v1] w0 (Ret (X:=Unit) E [] w0 (fun _=>.bool r) (fun _=>[]) (fun _=>[])):=by
 unfold F_raddleref36_Same at h
 obtain ⟨af,ag,_,rfl,_⟩:=S.know (i:=0) (e:=fRep (rL (rI .i64)) (v0) p0) d
 obtain ⟨ah,ai,_,rfl,_⟩:=S.know (i:=1) (e:=fRep (rL (rI .i64)) (v1) p1) d
 refine sEnter (args:=[.slice af p0.length ag,.slice ah p1.length ai]) 26 Try.func26 d d (by simp) S (fun a S=>?_)
 refine sSeq (fun K5 aJ=>sRegion (sN S fun a S=>?_))
 refine lT (aJ _ _ (sSeq (fun K6 aK=>sSeq (fun K7 aL=>sRegion (sM S fun a S=>?_)))))
 refine sLen S (wN d) d Try.underlying34 d d (lb d) fun a S=>sM S fun a S=>?_
 refine sLen S (wN d) d Try.underlying34 d d (lb d) fun a S=>sBin _ S (wN d) d d d (bNe _ _ _ _ .i64 (p0.length:Int) (p1.length:Int)) d (lb d) fun a S=>lT (aL _ _ ?_)
 rcases iS h with ⟨ak,h⟩ | ⟨ak,h⟩
 ·refine sCondT S d ak (sSeq (fun K9 aM=>sRegion (sN S fun a S=>?_)))
  refine lT (aM _ _ ?_)
  obtain rfl:=tS h
  exact wp_ret (rThen (sRet (.bool false) S (rsl1 d (rvT (t:=4) (v:=.bool false) S d)) ⟨(),d,S.mem.sel [] [] (by decide) d d⟩))
 refine sCondF S d ak (wp_skip (leafT (aK _ _ ?_)))
 obtain ⟨aO,h,aC⟩:=bS h
 refine sCut (fun a w=>.inl ()=aO∧St [] E [] w0 26 a w [] [] []) ?_ (fun a w hI=>?_)
 rotate_left
 ·obtain ⟨rfl,S⟩:=hI
  have h:=aC
  try dsimp only at h
  refine sSeq (fun aP al=>sRegion (sN S fun a S=>?_))
  refine lT (al _ _ ?_)
  obtain rfl:=tS h
  exact wp_ret (sRet (.bool true) S (rsl1 d (rvT (t:=4) (v:=.bool true) S d)) ⟨(),d,S.mem.sel [] [] (by decide) d d⟩)
 refine sSeq (fun aQ am=>sRegion (sN S fun a S=>?_))
 refine lT (am _ _ (wp_block ?_))
 obtain ⟨aR,hl,aG⟩:=bS h
 refine sLoop hl (fun s0 a w=>match s0 with | a9=>St [] E [] w0 26 a w [(0,.slice af p0.length ag),(1,.slice ah p1.length ai),(5,iv a9)] [] [fRep (rL (rI .i64)) (.slice af p0.length ag) p0,fRep (rL (rI .i64)) (.slice ah p1.length ai) p1]) (S.fix [] [0,1] (by decide) d d d) ?_
 clear hl h
 intro a9 a w c0 hI h aj
 unfold raddleref36_Same_l1 at h
 dsimp only at h hI
 have S:=hI
 refine sSeq (fun aS ao=>sSeq (fun aT ap=>sRegion (sM S fun a S=>?_)))
 refine sM S fun a S=>?_
 refine sLen S (wN d) d Try.underlying34 d d (lb d) fun a S=>sBin _ S (wN d) d d d (bLt _ _ _ _ .i64 a9 (p0.length:Int)) d (lb d) fun a S=>lT (ap _ _ ?_)
 rcases iS h with ⟨ac,h⟩ | ⟨ac,h⟩
 rotate_left
 ·refine sCondF S d ac ?_
  obtain rfl:=tS h
  obtain rfl:=aj _ d
  have h:=aG
  try dsimp only at h
  exact wp_exit (xThen (xThen (xHit (leafT (⟨Option.some.inj h,S.fix [] [] (by decide) d d d⟩)))))
 refine sCondT S d ac (wp_skip (leafT (ao _ _ ?_)))
 refine sSeq (fun aU aq=>wp_block ?_)
 refine sSeq (fun aV ar=>?_)
 obtain ⟨aa,au,h⟩:=bS h
 obtain ⟨ab,av,h⟩:=bS h
 obtain ⟨aw,ax,S⟩:=pIdx (P:=Try.prog) (r:=(rI .i64)) (v:=.slice af p0.length ag) (xs:=p0) (j:=a9) 34 3 0 S Try.underlying34 d d au
 obtain ⟨aH,S⟩:=pLoad (r:=(rI .i64)) (q:=aw) (x:=aa) 0 S d
 obtain rfl:aH=iv aa:=S.mem.know (i:=1) (e:=fRep (rI .i64) (aH) aa) d
 obtain ⟨ay,az,S⟩:=pIdx (P:=Try.prog) (r:=(rI .i64)) (v:=.slice ah p1.length ai) (xs:=p1) (j:=a9) 34 3 4 S Try.underlying34 d d av
 obtain ⟨aI,S⟩:=pLoad (r:=(rI .i64)) (q:=ay) (x:=ab) 0 S d
 obtain rfl:aI=iv ab:=S.mem.know (i:=1) (e:=fRep (rI .i64) (aI) ab) d
 refine sDraw (nf:=[]) (W:=[(0,17,.slice af p0.length ag),(1,18,iv a9),(2,19,aw),(3,20,iv aa),(4,21,.slice ah p1.length ai),(5,22,iv a9),(6,23,ay),(7,24,iv ab),(8,25,.bool (aa != ab))]) d S ?_
 refine node_by (A:=anc_raddleref36_Same_0) 9 (by kernel_rfl) (by kernel_rfl) (by kernel_rfl) (by kernel_rfl) (by kernel_rfl) [0,1,2,3,4,5,6,7,8] (by kernel_rfl) (by decide) (by decide) (fF ?_ (fF ?_ (fF ?_ (fF ?_ (fF ?_ (fF ?_ (fF ?_ (fF ?_ (fF ?_ (trivial)))))))))) [(0,.slice af p0.length ag),(1,.slice ah p1.length ai),(5,iv a9),(25,.bool (aa != ab))] (fin_of [none,none,none,some 8] d (by kernel_rfl) (by kernel_rfl)) (fun _ a w S=>?_)
 ·exact fM 0 none d d d d (.inl d) d d d
 ·exact fM 1 none d d d d (.inl d) d d d
 ·refine fJ [(17,_),(18,_)] 2 [some 0,some 1] fun G a w S=>?_
  exact sIdxV S (wN d) d d d ax d (lb d) fun a S=>leafL ⟨d,S⟩
 ·refine fJ [(19,_)] 3 [some 2] fun G a w S=>?_
  exact sLoadV1 (vq:=aw) 3 (iv aa) S (wN d) d d d d d (lb d) fun a S=>leafL ⟨d,S⟩
 ·exact fM 4 none d d d d (.inl d) d d d
 ·exact fM 5 none d d d d (.inl d) d d d
 ·refine fJ [(21,_),(22,_)] 6 [some 4,some 5] fun G a w S=>?_
  exact sIdxV S (wN d) d d d az d (lb d) fun a S=>leafL ⟨d,S⟩
 ·refine fJ [(23,_)] 7 [some 6] fun G a w S=>?_
  exact sLoadV1 (vq:=ay) 0 (iv ab) S (wN d) d d d d d (lb d) fun a S=>leafL ⟨d,S⟩
 ·refine fJ [(20,_),(24,_)] 8 [some 3,some 7] fun G a w S=>?_
  exact sBin _ S (wN d) d d d (bNe _ _ _ _ .i64 aa ab) d (lb d) fun a S=>leafL ⟨d,S⟩
 refine leafT (ar _ _ ?_)
 rcases iS h with ⟨ae,h⟩ | ⟨ae,h⟩
 rotate_left
 ·refine sCondF S d ae (wp_skip (leafB (leafT (aq _ _ ?_))))
  refine sRegion (sM S fun a S=>?_)
  refine sBin _ S (wN d) d d d (bAdd _ _ _ _ a9 1) d (lb d) fun a S=>sN S fun a S=>?_
  exact lT (⟨w64 (a9 + 1),(Option.some.inj h).symm,(S.fix [] [6,7] (by decide) d d d)⟩)
 refine sCondT S d ae (sSeq (fun aW aA=>sRegion (sN S fun a S=>?_)))
 refine lT (aA _ _ ?_)
 obtain rfl:=tS h
 obtain rfl:=aj _ d
 have h:=aG
 try dsimp only at h
 obtain rfl:=tS h
 have h:=aC
 try dsimp only at h
 obtain rfl:=tS h
 exact wp_ret (rBlock (rThen (rThen (rBlock (rThen (sRet (.bool false) S (rsl1 d (rvT (t:=4) (v:=.bool false) S d)) ⟨(),d,S.mem.sel [] [] (by decide) d d⟩))))))
noncomputable def F_raddleref37_Same (p0:api_Piece) (p1:api_Piece):Option Bool:=
 Option.bind (α:=Bool) (
  (F_raddleref36_Same p0.Left p1.Left).bind fun a9=>
  if a9 then
   (F_raddleref36_Same p0.Right p1.Right).bind fun aa=>
   some aa
  else
   some false) fun ab=>
 some ab
theorem c_raddleref37_Same (E:Nat→Prop) (w0:World) (p0:api_Piece) (v0:Value) (p1:api_Piece) (v1:Value) (r:Bool) (h:F_raddleref37_Same p0 p1=some r) (S:St0 E [] w0 w0 [] [fRep r_api_Piece (v0) p0,fRep r_api_Piece (v1) p1]) :
 Calls Try.prog 28 #[v0,v1] w0 (Ret (X:=Unit) E [] w0 (fun _=>.bool r) (fun _=>[]) (fun _=>[])):=by
 unfold F_raddleref37_Same at h
 obtain ⟨u1,u2,rfl,ar,au⟩:=S.know (i:=0) (e:=fRep r_api_Piece (v0) p0) d
 have S:=S.learn (fRep (rL (rI .i64)) u1 p0.Left) ar
 obtain ⟨af,ag,_,rfl,_⟩:=ar
 have S:=S.learn (fRep (rL (rI .i64)) u2 p0.Right) au
 obtain ⟨ah,ai,_,rfl,_⟩:=au
 obtain ⟨u9,ay,rfl,aj,ak⟩:=S.know (i:=3) (e:=fRep r_api_Piece (v1) p1) d
 have S:=S.learn (fRep (rL (rI .i64)) u9 p1.Left) aj
 obtain ⟨aa,ab,_,rfl,_⟩:=aj
 have S:=S.learn (fRep (rL (rI .i64)) ay p1.Right) ak
 obtain ⟨ac,ae,_,rfl,_⟩:=ak
 refine sEnter (args:=[.agg #[.slice af p0.Left.length ag,.slice ah p0.Right.length ai],.agg #[.slice aa p1.Left.length ab,.slice ac p1.Right.length ae]]) 17 Try.func28 d d (by simp) S (fun a S=>?_)
 refine sSeq (fun aC ao=>sRegion (sBox (v:=.agg #[.slice af p0.Left.length ag,.slice ah p0.Right.length ai]) S (wN d) d d [.slice af p0.Left.length ag,.slice ah p0.Right.length ai] d d (lb d) fun a av w S=>sBox (v:=.agg #[.slice aa p1.Left.length ab,.slice ac p1.Right.length ae]) S (wN d) d d [.slice aa p1.Left.length ab,.slice ac p1.Right.length ae] d d (lb d) fun a aw w S=>sN S fun a S=>?_))
 refine lT (ao _ _ ?_)
 obtain ⟨az,h,aA⟩:=bS h
 refine sCut (fun a w=>∃ al,al=az∧St [] E [] w0 17 a w [(4,.bool al)] [] []) ?_ (fun a w hI=>?_)
 rotate_left
 ·obtain ⟨al,rfl,S⟩:=hI
  have h:=aA
  try dsimp only at h
  obtain rfl:=tS h
  exact wp_ret (sRet (.bool al) S (rsl1 d (rvT (t:=4) (v:=.bool al) S d)) ⟨(),d,S.mem.sel [] [] (by decide) d d⟩)
 refine sRegion (sField (b:=av) (off:=0) 0 0 S (wN d) d d d d d (lb d) fun a S=>sLoad1 1 (.slice af p0.Left.length ag) S (wN d) d d d d d d (lb d) fun a S=>sField (b:=aw) (off:=0) 0 0 S (wN d) d d d d d (lb d) fun a S=>sLoad1 0 (.slice aa p1.Left.length ab) S (wN d) d d d d d d (lb d) fun a S=>?_)
 obtain ⟨ax,ap,h⟩:=bS h
 have S1:=S.mem
 refine sCq [.slice af p0.Left.length ag,.slice aa p1.Left.length ab] (.bool ax) S callee26 (S1.quiet [3,1] d) (fun E1 w1 S1=>c_raddleref36_Same E1 w1 p0.Left (.slice af p0.Left.length ag) p1.Left (.slice aa p1.Left.length ab) ax ap S1) fun a w S=>?_
 refine sM S fun a S=>?_
 rcases iS h with ⟨a9,h⟩ | ⟨a9,h⟩
 rotate_left
 ·refine sSkN 5 5 true 10 S d d a9 d fun a S=>sPickF (.bool false) S (wN d) d d a9 d d (lb d) fun a S=>sN S fun a S=>?_
  exact lT (⟨false,Option.some.inj h,S.fix [] [] (by decide) d d d⟩)
 refine sField (b:=av) (off:=0) 1 1 S (wG 5 true 10 d d d a9) d d d d d (lb d) fun a S=>sLoad1 1 (.slice ah p0.Right.length ai) S (wG 5 true 10 d d d a9) d d d d d d (lb d) fun a S=>sField (b:=aw) (off:=0) 1 1 S (wG 5 true 10 d d d a9) d d d d d (lb d) fun a S=>sLoad1 0 (.slice ac p1.Right.length ae) S (wG 5 true 10 d d d a9) d d d d d d (lb d) fun a S=>?_
 obtain ⟨am,aq,h⟩:=bS h
 have S1:=S.mem
 refine sCallQ (X:=Unit) (f:=26) (vs:=[.slice ah p0.Right.length ai,.slice ac p1.Right.length ae]) (val:=fun _=>.bool am) S (wG 5 true 10 d d d a9) d callee26 d (S1.quiet [2,0] d) (fun E1 w1 S1=>c_raddleref36_Same E1 w1 p0.Right (.slice ah p0.Right.length ai) p1.Right (.slice ac p1.Right.length ae) am aq S1) d (lb d) fun _ a w S=>?_
 refine sPickT (.bool am) S (wN d) d d a9 d d (lb d) fun a S=>sN S fun a S=>?_
 exact lT (⟨am,Option.some.inj h,S.fix [] [] (by decide) d d d⟩)
theorem col_eq (x:Int):F_piece_column x=some (decide (-500 ≤ x) && decide (x ≤ 500))∧F_raddleref37_in x=some (decide (-500 ≤ x) && decide (x ≤ 500)):=by
 unfold F_piece_column F_raddleref37_in
 by_cases h:-500 ≤ x <;> simp [h]
def col (x:Int):Bool:=decide (-500 ≤ x) && decide (x ≤ 500)
def pokAt (p:api_Piece) (k:Nat):Bool:=col (p.Left.getD k 0) && (col (p.Right.getD k 0) && (decide (p.Left.getD k 0 < p.Right.getD k 0) && decide (p.Right.getD k 0 - p.Left.getD k 0 ≤ 200)))
def pok (p:api_Piece):Bool:=decide (p.Left.length=p.Right.length) && (decide (1 ≤ p.Left.length) && (decide (p.Left.length ≤ 100) && (List.range p.Left.length).all (pokAt p)))
theorem col_spec {x:Int}:col x=true ↔ -500 ≤ x∧x ≤ 500:=by simp [col]
theorem pcheck_eq (p:api_Piece) (h1:p.Left.length ≤ 1000000) (h2:p.Right.length ≤ 1000000):F_piece_Check p=some (if pok p=true then 0 else 8)∧F_raddleref37_Check p=some (if pok p=true then 0 else 8):=by
 unfold F_piece_Check F_raddleref37_Check
 by_cases e1:p.Left.length=p.Right.length
 case neg=>
  have hb:((p.Left.length:Int) != (p.Right.length:Int))=true:=nT (by omega)
  have hp:pok p=false:=by simp [pok,e1]
  simp [hb,hp]
 have hb:((p.Left.length:Int) != (p.Right.length:Int))=false:=nF (by omega)
 by_cases e2:1 ≤ p.Left.length
 case neg=>
  have hc:((p.Left.length:Int) == 0)=true:=bT (by omega)
  have hd:decide ((p.Left.length:Int) < 1)=true:=dT (by omega)
  have hp:pok p=false:=by simp [pok,e2]
  simp [hb,hc,hd,hp]
 have hc:((p.Left.length:Int) == 0)=false:=bF (by omega)
 have hd:decide ((p.Left.length:Int) < 1)=false:=dF (by omega)
 by_cases e3:p.Left.length ≤ 100
 case neg=>
  have he:decide (100 < (p.Left.length:Int))=true:=dT (by omega)
  have hp:pok p=false:=by simp [pok,e3]
  simp [hb,hc,hd,he,hp]
 have he:decide (100 < (p.Left.length:Int))=false:=dF (by omega)
 have hp:pok p=(List.range p.Left.length).all (pokAt p):=by simp only [pok,e1,e2,e3,decide_true,Bool.true_and]; rw [← e1]; simp [e2,e3]
 have hl1:whileO (piece_Check_l1 p) 0=some (if (List.range p.Left.length).all (pokAt p)=true then .inr () else .inl 8):=by
  refine loop_all _ _ _ _ (fun k hk=>?_) ?_
  ·have hx:=idxO_D (0:Int) hk
   have hy:=idxO_D (0:Int) (show k < p.Right.length by omega)
   have hs:w64 ((k:Int) + 1)=((k + 1:Nat):Int):=w64_succ (by omega)
   have hk':decide ((k:Int) < (p.Left.length:Int))=true:=dT (by omega)
   unfold piece_Check_l1 pokAt
   simp only [hk',if_true,hx,hy,hs,Option.bind_some,(col_eq _).1,← col.eq_1]
   generalize p.Left.getD k 0=x
   generalize p.Right.getD k 0=y
   cases hcx:col x with
   | false=>simp
   | true=>
    cases hcy:col y with
    | false=>simp
    | true=>
     rw [col_spec] at hcx hcy
     have hw:w64 (y - x)=y - x:=w64_of (by omega) (by omega)
     by_cases g1:x < y
     ·by_cases g2:y - x ≤ 200
      ·simp [g1,g2,hw,show ¬ y ≤ x by omega,show ¬ 200 < y - x by omega]
      ·simp [g1,g2,hw,show ¬ y ≤ x by omega,show 200 < y - x by omega]
     ·simp [g1,hw,show y ≤ x by omega]
  ·unfold piece_Check_l1; simp
 have hl2:whileO (raddleref37_Check_l1 p) 0=some (if (List.range p.Left.length).all (pokAt p)=true then .inr () else .inl 8):=by
  refine loop_all _ _ _ _ (fun k hk=>?_) ?_
  ·have hx:=idxO_D (0:Int) hk
   have hy:=idxO_D (0:Int) (show k < p.Right.length by omega)
   have hs:w64 ((k:Int) + 1)=((k + 1:Nat):Int):=w64_succ (by omega)
   have hk':decide ((k:Int) < (p.Left.length:Int))=true:=dT (by omega)
   unfold raddleref37_Check_l1 pokAt
   simp only [hk',if_true,hx,hy,hs,Option.bind_some,(col_eq _).2,← col.eq_1]
   generalize p.Left.getD k 0=x
   generalize p.Right.getD k 0=y
   cases hcx:col x with
   | false=>simp
   | true=>
    cases hcy:col y with
    | false=>simp
    | true=>
     rw [col_spec] at hcx hcy
     have hw:w64 (y - x)=y - x:=w64_of (by omega) (by omega)
     by_cases g1:x < y
     ·by_cases g2:y - x ≤ 200
      ·simp [g1,g2,hw,show ¬ y ≤ x by omega,show ¬ 200 < y - x by omega]
      ·simp [g1,g2,hw,show ¬ y ≤ x by omega,show 200 < y - x by omega]
     ·simp [g1,hw,show y ≤ x by omega]
  ·unfold raddleref37_Check_l1; simp
 rw [hl1,hl2,← hp]
 cases pok p <;> simp [hb,hc,hd,he]
theorem same_self (l:List Int) (hl:l.length ≤ 1000000):F_raddleref36_Same l l=some true:=by
 have hw:whileO (raddleref36_Same_l1 l l) 0=some (if (List.range l.length).all (fun _=>true)=true then .inr () else .inl false):=by
  refine loop_all _ _ _ _ (fun k hk=>?_) ?_
  ·unfold raddleref36_Same_l1
   simp only [dT (show (k:Int) < (l.length:Int) by omega),if_true,idxO_nat hk,Option.bind_some,bne_self_eq_false,Bool.false_eq_true,if_false,w64_succ (show k < 9223372036854775807 by omega)]
  ·unfold raddleref36_Same_l1; simp
 have:(List.range l.length).all (fun _=>true)=true:=by simp
 rw [this] at hw
 unfold F_raddleref36_Same
 simp [hw]
theorem samep_self (p:api_Piece) (h1:p.Left.length ≤ 1000000) (h2:p.Right.length ≤ 1000000):F_raddleref37_Same p p=some true:=by
 unfold F_raddleref37_Same
 simp [same_self _ h1,same_self _ h2]
noncomputable def F_stitch_forms (p0:Int):Option (stitch_form × Bool):=
 Option.bind (α:=Bool) (
  if decide (p0 < 1) then
   some true
  else
   some (decide (([(stitch_form.mk (⟨#[]⟩:ByteArray) (0,0) (0,0) true 1 1),(stitch_form.mk (⟨#[]⟩:ByteArray) (0,0) (0,0) false 0 1),(stitch_form.mk (⟨#[102]⟩:ByteArray) (2,4) (0,0) true 2 1),(stitch_form.mk (⟨#[108]⟩:ByteArray) (2,4) (0,0) true 2 1),(stitch_form.mk (⟨#[109]⟩:ByteArray) (2,4) (0,0) true 1 2),(stitch_form.mk (⟨#[120]⟩:ByteArray) (1,6) (1,6) true 3 3),(stitch_form.mk (⟨#[121]⟩:ByteArray) (1,6) (1,6) true 3 3),(stitch_form.mk (⟨#[115]⟩:ByteArray) (0,0) (0,0) true 1 1),(stitch_form.mk (⟨#[]⟩:ByteArray) (1,200) (0,0) false 0 2),(stitch_form.mk (⟨#[111]⟩:ByteArray) (1,200) (0,0) true 2 0)].length:Int) < (IntKind.i64.wrap p0)))) fun a9=>
 if a9 then
  some ((stitch_form.mk (⟨#[]⟩:ByteArray) (0,0) (0,0) false 0 0),false)
 else
  (idxO [(stitch_form.mk (⟨#[]⟩:ByteArray) (0,0) (0,0) true 1 1),(stitch_form.mk (⟨#[]⟩:ByteArray) (0,0) (0,0) false 0 1),(stitch_form.mk (⟨#[102]⟩:ByteArray) (2,4) (0,0) true 2 1),(stitch_form.mk (⟨#[108]⟩:ByteArray) (2,4) (0,0) true 2 1),(stitch_form.mk (⟨#[109]⟩:ByteArray) (2,4) (0,0) true 1 2),(stitch_form.mk (⟨#[120]⟩:ByteArray) (1,6) (1,6) true 3 3),(stitch_form.mk (⟨#[121]⟩:ByteArray) (1,6) (1,6) true 3 3),(stitch_form.mk (⟨#[115]⟩:ByteArray) (0,0) (0,0) true 1 1),(stitch_form.mk (⟨#[]⟩:ByteArray) (1,200) (0,0) false 0 2),(stitch_form.mk (⟨#[111]⟩:ByteArray) (1,200) (0,0) true 2 0)] (IntKind.u8.wrap (p0 - 1))).bind fun aa=>
  some (aa,true)
def c_stitch_forms_val (r:(stitch_form × Bool)) (x:Value):Value:=.tuple #[x,.bool r.2]
def c_stitch_forms_D (r:(stitch_form × Bool)) (x:Value):List Fact:=[fRep r_stitch_form x r.1]
theorem c_stitch_forms (E:Nat→Prop) (w0:World) (p0:Int) (r:(stitch_form × Bool)) (h:F_stitch_forms p0=some r) (S:St0 E [] w0 w0 [] []) :
 Calls Try.prog 67 #[.int .u8 p0] w0 (Ret (X:=Value) E [] w0 (c_stitch_forms_val r) (fun _=>[]) (c_stitch_forms_D r)):=by
 unfold F_stitch_forms at h
 refine sEnter (args:=[.int .u8 p0]) 57 Try.func67 d d (by simp) S (fun a S=>?_)
 refine sSeq (fun K1 ao=>sRegion (sAlloc (gv_stitch_form (stitch_form.mk (⟨#[]⟩:ByteArray) (0,0) (0,0) false 0 0)) S (wN d) d d (gl_stitch_form (stitch_form.mk (⟨#[]⟩:ByteArray) (0,0) (0,0) false 0 0)) d d (lb d) fun a b2 w S=>sN S fun a S=>?_))
 refine lT (ao _ _ (sSeq (fun K3 ap=>sRegion (sBuild [(0,iv 2),(1,iv 4)] [iv 2,iv 4] S (wN d) d d d d (lb d) fun a S=>sBuild [(0,iv 1),(1,iv 6)] [iv 1,iv 6] S (wN d) d d d d (lb d) fun a S=>sAlloc (.agg #[iv 0,iv 0]) S (wN d) d d [iv 0,iv 0] d d (lb d) fun a b4 w S=>sAlloc (.agg #[iv 0,iv 0]) S (wN d) d d [iv 0,iv 0] d d (lb d) fun a b5 w S=>sStore (p:=b4) (off:=0) (T:=80) (vs:=[iv 0,iv 0]) (v:=.agg #[iv 2,iv 4]) 1 [iv 2,iv 4] S (wN d) d d d d d d d (by simp) d fun a w S=>sStore (p:=b5) (off:=0) (T:=80) (vs:=[iv 0,iv 0]) (v:=.agg #[iv 1,iv 6]) 1 [iv 1,iv 6] S (wN d) d d d d d d d (by simp) d fun a w S=>lT (ap _ _ (sSeq (fun K6 aq=>sRegion (sBuild [(0,iv 1),(1,iv 200)] [iv 1,iv 200] S (wN d) d d d d (lb d) fun a S=>sAlloc (.agg #[iv 0,iv 0]) S (wN d) d d [iv 0,iv 0] d d (lb d) fun a b7 w S=>sStore (p:=b7) (off:=0) (T:=80) (vs:=[iv 0,iv 0]) (v:=.agg #[iv 1,iv 200]) 0 [iv 1,iv 200] S (wN d) d d d d d d d (by simp) d fun a w S=>lT (aq _ _ ?_)))))))))
 refine sSeq (fun K8 ar=>sRegion (sBuild [] [iv 0,iv 0] S (wN d) d d d d (lb d) fun a S=>sBuild [] [iv 0,iv 0] S (wN d) d d d d (lb d) fun a S=>sBuild [(0,.string (⟨#[]⟩:ByteArray)),(1,.agg #[iv 0,iv 0]),(2,.agg #[iv 0,iv 0]),(3,.bool true),(4,iv 1),(5,iv 1)] (gl_stitch_form (stitch_form.mk (⟨#[]⟩:ByteArray) (0,0) (0,0) true 1 1)) S (wN d) d d d d (lb d) fun a S=>sBuild [] [iv 0,iv 0] S (wN d) d d d d (lb d) fun a S=>sBuild [] [iv 0,iv 0] S (wN d) d d d d (lb d) fun a S=>sBuild [(0,.string (⟨#[]⟩:ByteArray)),(1,.agg #[iv 0,iv 0]),(2,.agg #[iv 0,iv 0]),(3,.bool false),(4,iv 0),(5,iv 1)] (gl_stitch_form (stitch_form.mk (⟨#[]⟩:ByteArray) (0,0) (0,0) false 0 1)) S (wN d) d d d d (lb d) fun a S=>sLoadN (p:=b4) (off:=0) (T:=80) (vs:=[iv 2,iv 4]) 2 [iv 2,iv 4] S (wN d) d d d d d d d (lb d) fun a S=>sBuild [] [iv 0,iv 0] S (wN d) d d d d (lb d) fun a S=>sBuild [(0,.string (⟨#[102]⟩:ByteArray)),(1,.agg #[iv 2,iv 4]),(2,.agg #[iv 0,iv 0]),(3,.bool true),(4,iv 2),(5,iv 1)] (gl_stitch_form (stitch_form.mk (⟨#[102]⟩:ByteArray) (2,4) (0,0) true 2 1)) S (wN d) d d d d (lb d) fun a S=>sLoadN (p:=b4) (off:=0) (T:=80) (vs:=[iv 2,iv 4]) 2 [iv 2,iv 4] S (wN d) d d d d d d d (lb d) fun a S=>sBuild [] [iv 0,iv 0] S (wN d) d d d d (lb d) fun a S=>sBuild [(0,.string (⟨#[108]⟩:ByteArray)),(1,.agg #[iv 2,iv 4]),(2,.agg #[iv 0,iv 0]),(3,.bool true),(4,iv 2),(5,iv 1)] (gl_stitch_form (stitch_form.mk (⟨#[108]⟩:ByteArray) (2,4) (0,0) true 2 1)) S (wN d) d d d d (lb d) fun a S=>sLoadN (p:=b4) (off:=0) (T:=80) (vs:=[iv 2,iv 4]) 2 [iv 2,iv 4] S (wN d) d d d d d d d (lb d) fun a S=>sBuild [] [iv 0,iv 0] S (wN d) d d d d (lb d) fun a S=>?_))
 refine sBuild [(0,.string (⟨#[109]⟩:ByteArray)),(1,.agg #[iv 2,iv 4]),(2,.agg #[iv 0,iv 0]),(3,.bool true),(4,iv 1),(5,iv 2)] (gl_stitch_form (stitch_form.mk (⟨#[109]⟩:ByteArray) (2,4) (0,0) true 1 2)) S (wN d) d d d d (lb d) fun a S=>sLoadN (p:=b5) (off:=0) (T:=80) (vs:=[iv 1,iv 6]) 1 [iv 1,iv 6] S (wN d) d d d d d d d (lb d) fun a S=>sLoadN (p:=b5) (off:=0) (T:=80) (vs:=[iv 1,iv 6]) 1 [iv 1,iv 6] S (wN d) d d d d d d d (lb d) fun a S=>sBuild [(0,.string (⟨#[120]⟩:ByteArray)),(1,.agg #[iv 1,iv 6]),(2,.agg #[iv 1,iv 6]),(3,.bool true),(4,iv 3),(5,iv 3)] (gl_stitch_form (stitch_form.mk (⟨#[120]⟩:ByteArray) (1,6) (1,6) true 3 3)) S (wN d) d d d d (lb d) fun a S=>sLoadN (p:=b5) (off:=0) (T:=80) (vs:=[iv 1,iv 6]) 1 [iv 1,iv 6] S (wN d) d d d d d d d (lb d) fun a S=>sLoadN (p:=b5) (off:=0) (T:=80) (vs:=[iv 1,iv 6]) 1 [iv 1,iv 6] S (wN d) d d d d d d d (lb d) fun a S=>sBuild [(0,.string (⟨#[121]⟩:ByteArray)),(1,.agg #[iv 1,iv 6]),(2,.agg #[iv 1,iv 6]),(3,.bool true),(4,iv 3),(5,iv 3)] (gl_stitch_form (stitch_form.mk (⟨#[121]⟩:ByteArray) (1,6) (1,6) true 3 3)) S (wN d) d d d d (lb d) fun a S=>sBuild [] [iv 0,iv 0] S (wN d) d d d d (lb d) fun a S=>sBuild [] [iv 0,iv 0] S (wN d) d d d d (lb d) fun a S=>sBuild [(0,.string (⟨#[115]⟩:ByteArray)),(1,.agg #[iv 0,iv 0]),(2,.agg #[iv 0,iv 0]),(3,.bool true),(4,iv 1),(5,iv 1)] (gl_stitch_form (stitch_form.mk (⟨#[115]⟩:ByteArray) (0,0) (0,0) true 1 1)) S (wN d) d d d d (lb d) fun a S=>sLoadN (p:=b7) (off:=0) (T:=80) (vs:=[iv 1,iv 200]) 0 [iv 1,iv 200] S (wN d) d d d d d d d (lb d) fun a S=>sBuild [] [iv 0,iv 0] S (wN d) d d d d (lb d) fun a S=>sBuild [(0,.string (⟨#[]⟩:ByteArray)),(1,.agg #[iv 1,iv 200]),(2,.agg #[iv 0,iv 0]),(3,.bool false),(4,iv 0),(5,iv 2)] (gl_stitch_form (stitch_form.mk (⟨#[]⟩:ByteArray) (1,200) (0,0) false 0 2)) S (wN d) d d d d (lb d) fun a S=>sLoadN (p:=b7) (off:=0) (T:=80) (vs:=[iv 1,iv 200]) 0 [iv 1,iv 200] S (wN d) d d d d d d d (lb d) fun a S=>sBuild [] [iv 0,iv 0] S (wN d) d d d d (lb d) fun a S=>sBuild [(0,.string (⟨#[111]⟩:ByteArray)),(1,.agg #[iv 1,iv 200]),(2,.agg #[iv 0,iv 0]),(3,.bool true),(4,iv 2),(5,iv 0)] (gl_stitch_form (stitch_form.mk (⟨#[111]⟩:ByteArray) (1,200) (0,0) true 2 0)) S (wN d) d d d d (lb d) fun a S=>?_
 have S:=S.learn (fRep r_stitch_form (gv_stitch_form (stitch_form.mk (⟨#[]⟩:ByteArray) (0,0) (0,0) true 1 1)) (stitch_form.mk (⟨#[]⟩:ByteArray) (0,0) (0,0) true 1 1)) d
 have S:=S.learn (fRep r_stitch_form (gv_stitch_form (stitch_form.mk (⟨#[]⟩:ByteArray) (0,0) (0,0) false 0 1)) (stitch_form.mk (⟨#[]⟩:ByteArray) (0,0) (0,0) false 0 1)) d
 have S:=S.learn (fRep r_stitch_form (gv_stitch_form (stitch_form.mk (⟨#[102]⟩:ByteArray) (2,4) (0,0) true 2 1)) (stitch_form.mk (⟨#[102]⟩:ByteArray) (2,4) (0,0) true 2 1)) d
 have S:=S.learn (fRep r_stitch_form (gv_stitch_form (stitch_form.mk (⟨#[108]⟩:ByteArray) (2,4) (0,0) true 2 1)) (stitch_form.mk (⟨#[108]⟩:ByteArray) (2,4) (0,0) true 2 1)) d
 have S:=S.learn (fRep r_stitch_form (gv_stitch_form (stitch_form.mk (⟨#[109]⟩:ByteArray) (2,4) (0,0) true 1 2)) (stitch_form.mk (⟨#[109]⟩:ByteArray) (2,4) (0,0) true 1 2)) d
 have S:=S.learn (fRep r_stitch_form (gv_stitch_form (stitch_form.mk (⟨#[120]⟩:ByteArray) (1,6) (1,6) true 3 3)) (stitch_form.mk (⟨#[120]⟩:ByteArray) (1,6) (1,6) true 3 3)) d
 have S:=S.learn (fRep r_stitch_form (gv_stitch_form (stitch_form.mk (⟨#[121]⟩:ByteArray) (1,6) (1,6) true 3 3)) (stitch_form.mk (⟨#[121]⟩:ByteArray) (1,6) (1,6) true 3 3)) d
 have S:=S.learn (fRep r_stitch_form (gv_stitch_form (stitch_form.mk (⟨#[115]⟩:ByteArray) (0,0) (0,0) true 1 1)) (stitch_form.mk (⟨#[115]⟩:ByteArray) (0,0) (0,0) true 1 1)) d
 have S:=S.learn (fRep r_stitch_form (gv_stitch_form (stitch_form.mk (⟨#[]⟩:ByteArray) (1,200) (0,0) false 0 2)) (stitch_form.mk (⟨#[]⟩:ByteArray) (1,200) (0,0) false 0 2)) d
 have S:=S.learn (fRep r_stitch_form (gv_stitch_form (stitch_form.mk (⟨#[111]⟩:ByteArray) (1,200) (0,0) true 2 0)) (stitch_form.mk (⟨#[111]⟩:ByteArray) (1,200) (0,0) true 2 0)) d
 refine sLit (r:=r_stitch_form) (T:=116) (xs:=[(stitch_form.mk (⟨#[]⟩:ByteArray) (0,0) (0,0) true 1 1),(stitch_form.mk (⟨#[]⟩:ByteArray) (0,0) (0,0) false 0 1),(stitch_form.mk (⟨#[102]⟩:ByteArray) (2,4) (0,0) true 2 1),(stitch_form.mk (⟨#[108]⟩:ByteArray) (2,4) (0,0) true 2 1),(stitch_form.mk (⟨#[109]⟩:ByteArray) (2,4) (0,0) true 1 2),(stitch_form.mk (⟨#[120]⟩:ByteArray) (1,6) (1,6) true 3 3),(stitch_form.mk (⟨#[121]⟩:ByteArray) (1,6) (1,6) true 3 3),(stitch_form.mk (⟨#[115]⟩:ByteArray) (0,0) (0,0) true 1 1),(stitch_form.mk (⟨#[]⟩:ByteArray) (1,200) (0,0) false 0 2),(stitch_form.mk (⟨#[111]⟩:ByteArray) (1,200) (0,0) true 2 0)]) [(0,gv_stitch_form (stitch_form.mk (⟨#[]⟩:ByteArray) (0,0) (0,0) true 1 1)),(1,gv_stitch_form (stitch_form.mk (⟨#[]⟩:ByteArray) (0,0) (0,0) false 0 1)),(2,gv_stitch_form (stitch_form.mk (⟨#[102]⟩:ByteArray) (2,4) (0,0) true 2 1)),(3,gv_stitch_form (stitch_form.mk (⟨#[108]⟩:ByteArray) (2,4) (0,0) true 2 1)),(4,gv_stitch_form (stitch_form.mk (⟨#[109]⟩:ByteArray) (2,4) (0,0) true 1 2)),(5,gv_stitch_form (stitch_form.mk (⟨#[120]⟩:ByteArray) (1,6) (1,6) true 3 3)),(6,gv_stitch_form (stitch_form.mk (⟨#[121]⟩:ByteArray) (1,6) (1,6) true 3 3)),(7,gv_stitch_form (stitch_form.mk (⟨#[115]⟩:ByteArray) (0,0) (0,0) true 1 1)),(8,gv_stitch_form (stitch_form.mk (⟨#[]⟩:ByteArray) (1,200) (0,0) false 0 2)),(9,gv_stitch_form (stitch_form.mk (⟨#[111]⟩:ByteArray) (1,200) (0,0) true 2 0))] 10 [gv_stitch_form (stitch_form.mk (⟨#[]⟩:ByteArray) (0,0) (0,0) true 1 1),gv_stitch_form (stitch_form.mk (⟨#[]⟩:ByteArray) (0,0) (0,0) false 0 1),gv_stitch_form (stitch_form.mk (⟨#[102]⟩:ByteArray) (2,4) (0,0) true 2 1),gv_stitch_form (stitch_form.mk (⟨#[108]⟩:ByteArray) (2,4) (0,0) true 2 1),gv_stitch_form (stitch_form.mk (⟨#[109]⟩:ByteArray) (2,4) (0,0) true 1 2),gv_stitch_form (stitch_form.mk (⟨#[120]⟩:ByteArray) (1,6) (1,6) true 3 3),gv_stitch_form (stitch_form.mk (⟨#[121]⟩:ByteArray) (1,6) (1,6) true 3 3),gv_stitch_form (stitch_form.mk (⟨#[115]⟩:ByteArray) (0,0) (0,0) true 1 1),gv_stitch_form (stitch_form.mk (⟨#[]⟩:ByteArray) (1,200) (0,0) false 0 2),gv_stitch_form (stitch_form.mk (⟨#[111]⟩:ByteArray) (1,200) (0,0) true 2 0)] [.string (⟨#[]⟩:ByteArray),iv 0,iv 0,iv 0,iv 0,.bool true,iv 1,iv 1,.string (⟨#[]⟩:ByteArray),iv 0,iv 0,iv 0,iv 0,.bool false,iv 0,iv 1,.string (⟨#[102]⟩:ByteArray),iv 2,iv 4,iv 0,iv 0,.bool true,iv 2,iv 1,.string (⟨#[108]⟩:ByteArray),iv 2,iv 4,iv 0,iv 0,.bool true,iv 2,iv 1,.string (⟨#[109]⟩:ByteArray),iv 2,iv 4,iv 0,iv 0,.bool true,iv 1,iv 2,.string (⟨#[120]⟩:ByteArray),iv 1,iv 6,iv 1,iv 6,.bool true,iv 3,iv 3,.string (⟨#[121]⟩:ByteArray),iv 1,iv 6,iv 1,iv 6,.bool true,iv 3,iv 3,.string (⟨#[115]⟩:ByteArray),iv 0,iv 0,iv 0,iv 0,.bool true,iv 1,iv 1,.string (⟨#[]⟩:ByteArray),iv 1,iv 200,iv 0,iv 0,.bool false,iv 0,iv 2,.string (⟨#[111]⟩:ByteArray),iv 1,iv 200,iv 0,iv 0,.bool true,iv 2,iv 0] (gv_stitch_form (stitch_form.mk (⟨#[]⟩:ByteArray) (0,0) (0,0) false 0 0)) 72 S (wN d) d d Try.underlying131 d (by decide) (by decide) (by kernel_rfl) d (fun E1 w1 hE=>All.cons (r_stitch_form.mono hE (S.mem.know (i:=9) (e:=fRep r_stitch_form (gv_stitch_form (stitch_form.mk (⟨#[]⟩:ByteArray) (0,0) (0,0) true 1 1)) (stitch_form.mk (⟨#[]⟩:ByteArray) (0,0) (0,0) true 1 1)) d)) (All.cons (r_stitch_form.mono hE (S.mem.know (i:=8) (e:=fRep r_stitch_form (gv_stitch_form (stitch_form.mk (⟨#[]⟩:ByteArray) (0,0) (0,0) false 0 1)) (stitch_form.mk (⟨#[]⟩:ByteArray) (0,0) (0,0) false 0 1)) d)) (All.cons (r_stitch_form.mono hE (S.mem.know (i:=7) (e:=fRep r_stitch_form (gv_stitch_form (stitch_form.mk (⟨#[102]⟩:ByteArray) (2,4) (0,0) true 2 1)) (stitch_form.mk (⟨#[102]⟩:ByteArray) (2,4) (0,0) true 2 1)) d)) (All.cons (r_stitch_form.mono hE (S.mem.know (i:=6) (e:=fRep r_stitch_form (gv_stitch_form (stitch_form.mk (⟨#[108]⟩:ByteArray) (2,4) (0,0) true 2 1)) (stitch_form.mk (⟨#[108]⟩:ByteArray) (2,4) (0,0) true 2 1)) d)) (All.cons (r_stitch_form.mono hE (S.mem.know (i:=5) (e:=fRep r_stitch_form (gv_stitch_form (stitch_form.mk (⟨#[109]⟩:ByteArray) (2,4) (0,0) true 1 2)) (stitch_form.mk (⟨#[109]⟩:ByteArray) (2,4) (0,0) true 1 2)) d)) (All.cons (r_stitch_form.mono hE (S.mem.know (i:=4) (e:=fRep r_stitch_form (gv_stitch_form (stitch_form.mk (⟨#[120]⟩:ByteArray) (1,6) (1,6) true 3 3)) (stitch_form.mk (⟨#[120]⟩:ByteArray) (1,6) (1,6) true 3 3)) d)) (All.cons (r_stitch_form.mono hE (S.mem.know (i:=3) (e:=fRep r_stitch_form (gv_stitch_form (stitch_form.mk (⟨#[121]⟩:ByteArray) (1,6) (1,6) true 3 3)) (stitch_form.mk (⟨#[121]⟩:ByteArray) (1,6) (1,6) true 3 3)) d)) (All.cons (r_stitch_form.mono hE (S.mem.know (i:=2) (e:=fRep r_stitch_form (gv_stitch_form (stitch_form.mk (⟨#[115]⟩:ByteArray) (0,0) (0,0) true 1 1)) (stitch_form.mk (⟨#[115]⟩:ByteArray) (0,0) (0,0) true 1 1)) d)) (All.cons (r_stitch_form.mono hE (S.mem.know (i:=1) (e:=fRep r_stitch_form (gv_stitch_form (stitch_form.mk (⟨#[]⟩:ByteArray) (1,200) (0,0) false 0 2)) (stitch_form.mk (⟨#[]⟩:ByteArray) (1,200) (0,0) false 0 2)) d)) (All.cons (r_stitch_form.mono hE (S.mem.know (i:=0) (e:=fRep r_stitch_form (gv_stitch_form (stitch_form.mk (⟨#[111]⟩:ByteArray) (1,200) (0,0) true 2 0)) (stitch_form.mk (⟨#[111]⟩:ByteArray) (1,200) (0,0) true 2 0)) d)) (All.nil _ _ _))))))))))) d d (lb d) fun a w ae ab S=>?_
 refine sN S fun a S=>?_
 refine lT (ar _ _ (sSeq (fun aw af=>?_)))
 obtain ⟨au,h,av⟩:=bS h
 refine sCut (fun a w=>∃ ag,ag=au∧St [] E [] w0 57 a w [(0,.int .u8 p0),(2,.pointer (some ⟨b2,0,none⟩)),(7,.slice ae [(stitch_form.mk (⟨#[]⟩:ByteArray) (0,0) (0,0) true 1 1),(stitch_form.mk (⟨#[]⟩:ByteArray) (0,0) (0,0) false 0 1),(stitch_form.mk (⟨#[102]⟩:ByteArray) (2,4) (0,0) true 2 1),(stitch_form.mk (⟨#[108]⟩:ByteArray) (2,4) (0,0) true 2 1),(stitch_form.mk (⟨#[109]⟩:ByteArray) (2,4) (0,0) true 1 2),(stitch_form.mk (⟨#[120]⟩:ByteArray) (1,6) (1,6) true 3 3),(stitch_form.mk (⟨#[121]⟩:ByteArray) (1,6) (1,6) true 3 3),(stitch_form.mk (⟨#[115]⟩:ByteArray) (0,0) (0,0) true 1 1),(stitch_form.mk (⟨#[]⟩:ByteArray) (1,200) (0,0) false 0 2),(stitch_form.mk (⟨#[111]⟩:ByteArray) (1,200) (0,0) true 2 0)].length ab),(50,.bool ag)] [eBox b2 116 (gl_stitch_form (stitch_form.mk (⟨#[]⟩:ByteArray) (0,0) (0,0) false 0 0)),eRow r_stitch_form 116 (.slice ae [(stitch_form.mk (⟨#[]⟩:ByteArray) (0,0) (0,0) true 1 1),(stitch_form.mk (⟨#[]⟩:ByteArray) (0,0) (0,0) false 0 1),(stitch_form.mk (⟨#[102]⟩:ByteArray) (2,4) (0,0) true 2 1),(stitch_form.mk (⟨#[108]⟩:ByteArray) (2,4) (0,0) true 2 1),(stitch_form.mk (⟨#[109]⟩:ByteArray) (2,4) (0,0) true 1 2),(stitch_form.mk (⟨#[120]⟩:ByteArray) (1,6) (1,6) true 3 3),(stitch_form.mk (⟨#[121]⟩:ByteArray) (1,6) (1,6) true 3 3),(stitch_form.mk (⟨#[115]⟩:ByteArray) (0,0) (0,0) true 1 1),(stitch_form.mk (⟨#[]⟩:ByteArray) (1,200) (0,0) false 0 2),(stitch_form.mk (⟨#[111]⟩:ByteArray) (1,200) (0,0) true 2 0)].length ab) [(stitch_form.mk (⟨#[]⟩:ByteArray) (0,0) (0,0) true 1 1),(stitch_form.mk (⟨#[]⟩:ByteArray) (0,0) (0,0) false 0 1),(stitch_form.mk (⟨#[102]⟩:ByteArray) (2,4) (0,0) true 2 1),(stitch_form.mk (⟨#[108]⟩:ByteArray) (2,4) (0,0) true 2 1),(stitch_form.mk (⟨#[109]⟩:ByteArray) (2,4) (0,0) true 1 2),(stitch_form.mk (⟨#[120]⟩:ByteArray) (1,6) (1,6) true 3 3),(stitch_form.mk (⟨#[121]⟩:ByteArray) (1,6) (1,6) true 3 3),(stitch_form.mk (⟨#[115]⟩:ByteArray) (0,0) (0,0) true 1 1),(stitch_form.mk (⟨#[]⟩:ByteArray) (1,200) (0,0) false 0 2),(stitch_form.mk (⟨#[111]⟩:ByteArray) (1,200) (0,0) true 2 0)]] []) ?_ (fun a w hI=>?_)
 ·refine sRegion (sM S fun a S=>?_)
  refine sBin _ S (wN d) d d d (bLt _ _ _ _ .u8 p0 1) d (lb d) fun a S=>sM S fun a S=>?_
  rcases iS h with ⟨aa,h⟩ | ⟨aa,h⟩
  ·refine sSkN 5 2 false 44 S d d aa d fun a S=>sPickT (.bool true) S (wN d) d d aa d d (lb d) fun a S=>?_
   exact lT (⟨true,Option.some.inj h,S.fix [4,0] [] (by decide) d d d⟩)
  refine sMove (.int .u8 p0) S (wG 2 false 44 d d d aa) (.inl d) d d (lb d) fun a S=>sConv (k:=.u8) (k2:=.i64) (b:=p0) S (wG 2 false 44 d d d aa) d Try.underlying5 Try.underlying3 d d (lb d) fun a S=>sMove (.slice ae [(stitch_form.mk (⟨#[]⟩:ByteArray) (0,0) (0,0) true 1 1),(stitch_form.mk (⟨#[]⟩:ByteArray) (0,0) (0,0) false 0 1),(stitch_form.mk (⟨#[102]⟩:ByteArray) (2,4) (0,0) true 2 1),(stitch_form.mk (⟨#[108]⟩:ByteArray) (2,4) (0,0) true 2 1),(stitch_form.mk (⟨#[109]⟩:ByteArray) (2,4) (0,0) true 1 2),(stitch_form.mk (⟨#[120]⟩:ByteArray) (1,6) (1,6) true 3 3),(stitch_form.mk (⟨#[121]⟩:ByteArray) (1,6) (1,6) true 3 3),(stitch_form.mk (⟨#[115]⟩:ByteArray) (0,0) (0,0) true 1 1),(stitch_form.mk (⟨#[]⟩:ByteArray) (1,200) (0,0) false 0 2),(stitch_form.mk (⟨#[111]⟩:ByteArray) (1,200) (0,0) true 2 0)].length ab) S (wG 2 false 44 d d d aa) (.inl d) d d (lb d) fun a S=>sLen S (wG 2 false 44 d d d aa) d Try.underlying131 d d (lb d) fun a S=>sBin _ S (wG 2 false 44 d d d aa) d d d (bGt _ _ _ _ .i64 (IntKind.i64.wrap p0) ([(stitch_form.mk (⟨#[]⟩:ByteArray) (0,0) (0,0) true 1 1),(stitch_form.mk (⟨#[]⟩:ByteArray) (0,0) (0,0) false 0 1),(stitch_form.mk (⟨#[102]⟩:ByteArray) (2,4) (0,0) true 2 1),(stitch_form.mk (⟨#[108]⟩:ByteArray) (2,4) (0,0) true 2 1),(stitch_form.mk (⟨#[109]⟩:ByteArray) (2,4) (0,0) true 1 2),(stitch_form.mk (⟨#[120]⟩:ByteArray) (1,6) (1,6) true 3 3),(stitch_form.mk (⟨#[121]⟩:ByteArray) (1,6) (1,6) true 3 3),(stitch_form.mk (⟨#[115]⟩:ByteArray) (0,0) (0,0) true 1 1),(stitch_form.mk (⟨#[]⟩:ByteArray) (1,200) (0,0) false 0 2),(stitch_form.mk (⟨#[111]⟩:ByteArray) (1,200) (0,0) true 2 0)].length:Int)) d (lb d) fun a S=>sPickF (.bool (decide (([(stitch_form.mk (⟨#[]⟩:ByteArray) (0,0) (0,0) true 1 1),(stitch_form.mk (⟨#[]⟩:ByteArray) (0,0) (0,0) false 0 1),(stitch_form.mk (⟨#[102]⟩:ByteArray) (2,4) (0,0) true 2 1),(stitch_form.mk (⟨#[108]⟩:ByteArray) (2,4) (0,0) true 2 1),(stitch_form.mk (⟨#[109]⟩:ByteArray) (2,4) (0,0) true 1 2),(stitch_form.mk (⟨#[120]⟩:ByteArray) (1,6) (1,6) true 3 3),(stitch_form.mk (⟨#[121]⟩:ByteArray) (1,6) (1,6) true 3 3),(stitch_form.mk (⟨#[115]⟩:ByteArray) (0,0) (0,0) true 1 1),(stitch_form.mk (⟨#[]⟩:ByteArray) (1,200) (0,0) false 0 2),(stitch_form.mk (⟨#[111]⟩:ByteArray) (1,200) (0,0) true 2 0)].length:Int) < (IntKind.i64.wrap p0)))) S (wN d) d d aa d d (lb d) fun a S=>?_
  exact lT (⟨decide (([(stitch_form.mk (⟨#[]⟩:ByteArray) (0,0) (0,0) true 1 1),(stitch_form.mk (⟨#[]⟩:ByteArray) (0,0) (0,0) false 0 1),(stitch_form.mk (⟨#[102]⟩:ByteArray) (2,4) (0,0) true 2 1),(stitch_form.mk (⟨#[108]⟩:ByteArray) (2,4) (0,0) true 2 1),(stitch_form.mk (⟨#[109]⟩:ByteArray) (2,4) (0,0) true 1 2),(stitch_form.mk (⟨#[120]⟩:ByteArray) (1,6) (1,6) true 3 3),(stitch_form.mk (⟨#[121]⟩:ByteArray) (1,6) (1,6) true 3 3),(stitch_form.mk (⟨#[115]⟩:ByteArray) (0,0) (0,0) true 1 1),(stitch_form.mk (⟨#[]⟩:ByteArray) (1,200) (0,0) false 0 2),(stitch_form.mk (⟨#[111]⟩:ByteArray) (1,200) (0,0) true 2 0)].length:Int) < (IntKind.i64.wrap p0)),Option.some.inj h,S.fix [4,0] [] (by decide) d d d⟩)
 obtain ⟨ag,rfl,S⟩:=hI
 have h:=av
 try dsimp only at h
 rcases iS h with ⟨ac,h⟩ | ⟨ac,h⟩
 ·refine sCondT S d ac (sSeq (fun ax ah=>sRegion (sBuild [] (gl_stitch_form (stitch_form.mk (⟨#[]⟩:ByteArray) (0,0) (0,0) false 0 0)) S (wN d) d d d d (lb d) fun a S=>sStore (p:=b2) (off:=0) (T:=116) (vs:=[.string (⟨#[]⟩:ByteArray),iv 0,iv 0,iv 0,iv 0,.bool false,iv 0,iv 0]) (v:=gv_stitch_form (stitch_form.mk (⟨#[]⟩:ByteArray) (0,0) (0,0) false 0 0)) 0 [.string (⟨#[]⟩:ByteArray),iv 0,iv 0,iv 0,iv 0,.bool false,iv 0,iv 0] S (wN d) d d d d d d d (by simp) d fun a w S=>sN S fun a S=>?_)))
  refine lT (ah _ _ ?_)
  obtain rfl:=tS h
  have S:=S.learn (fRep r_stitch_form (gv_stitch_form (stitch_form.mk (⟨#[]⟩:ByteArray) (0,0) (0,0) false 0 0)) (stitch_form.mk (⟨#[]⟩:ByteArray) (0,0) (0,0) false 0 0)) d
  exact wp_ret (rThen (sRet (.tuple #[gv_stitch_form (stitch_form.mk (⟨#[]⟩:ByteArray) (0,0) (0,0) false 0 0),.bool false]) S (rsl2 d (rvN (c:=2) (t:=116) (T:=116) (p:=b2) 0 [.string (⟨#[]⟩:ByteArray),iv 0,iv 0,iv 0,iv 0,.bool false,iv 0,iv 0] S d d d d) (rvT (t:=3) (v:=.bool false) S d)) ⟨(gv_stitch_form (stitch_form.mk (⟨#[]⟩:ByteArray) (0,0) (0,0) false 0 0)),d,S.mem.sel [] [0] (by decide) d d⟩))
 refine sCondF S d ac (wp_skip (leafT (af _ _ ?_)))
 refine sSeq (fun ay ai=>sRegion (sM S fun a S=>?_))
 refine sM S fun a S=>?_
 refine sBin _ S (wN d) d d d (bSubK _ _ _ _ .u8 p0 1) d (lb d) fun a S=>?_
 obtain ⟨a9,aj,h⟩:=bS h
 have S:=S.shutR (r:=r_stitch_form) (T:=116) (v:=.slice ae [(stitch_form.mk (⟨#[]⟩:ByteArray) (0,0) (0,0) true 1 1),(stitch_form.mk (⟨#[]⟩:ByteArray) (0,0) (0,0) false 0 1),(stitch_form.mk (⟨#[102]⟩:ByteArray) (2,4) (0,0) true 2 1),(stitch_form.mk (⟨#[108]⟩:ByteArray) (2,4) (0,0) true 2 1),(stitch_form.mk (⟨#[109]⟩:ByteArray) (2,4) (0,0) true 1 2),(stitch_form.mk (⟨#[120]⟩:ByteArray) (1,6) (1,6) true 3 3),(stitch_form.mk (⟨#[121]⟩:ByteArray) (1,6) (1,6) true 3 3),(stitch_form.mk (⟨#[115]⟩:ByteArray) (0,0) (0,0) true 1 1),(stitch_form.mk (⟨#[]⟩:ByteArray) (1,200) (0,0) false 0 2),(stitch_form.mk (⟨#[111]⟩:ByteArray) (1,200) (0,0) true 2 0)].length ab) (xs:=[(stitch_form.mk (⟨#[]⟩:ByteArray) (0,0) (0,0) true 1 1),(stitch_form.mk (⟨#[]⟩:ByteArray) (0,0) (0,0) false 0 1),(stitch_form.mk (⟨#[102]⟩:ByteArray) (2,4) (0,0) true 2 1),(stitch_form.mk (⟨#[108]⟩:ByteArray) (2,4) (0,0) true 2 1),(stitch_form.mk (⟨#[109]⟩:ByteArray) (2,4) (0,0) true 1 2),(stitch_form.mk (⟨#[120]⟩:ByteArray) (1,6) (1,6) true 3 3),(stitch_form.mk (⟨#[121]⟩:ByteArray) (1,6) (1,6) true 3 3),(stitch_form.mk (⟨#[115]⟩:ByteArray) (0,0) (0,0) true 1 1),(stitch_form.mk (⟨#[]⟩:ByteArray) (1,200) (0,0) false 0 2),(stitch_form.mk (⟨#[111]⟩:ByteArray) (1,200) (0,0) true 2 0)]) 1 d
 obtain ⟨al,ak,S⟩:=pIdx (P:=Try.prog) (r:=r_stitch_form) (v:=.slice ae [(stitch_form.mk (⟨#[]⟩:ByteArray) (0,0) (0,0) true 1 1),(stitch_form.mk (⟨#[]⟩:ByteArray) (0,0) (0,0) false 0 1),(stitch_form.mk (⟨#[102]⟩:ByteArray) (2,4) (0,0) true 2 1),(stitch_form.mk (⟨#[108]⟩:ByteArray) (2,4) (0,0) true 2 1),(stitch_form.mk (⟨#[109]⟩:ByteArray) (2,4) (0,0) true 1 2),(stitch_form.mk (⟨#[120]⟩:ByteArray) (1,6) (1,6) true 3 3),(stitch_form.mk (⟨#[121]⟩:ByteArray) (1,6) (1,6) true 3 3),(stitch_form.mk (⟨#[115]⟩:ByteArray) (0,0) (0,0) true 1 1),(stitch_form.mk (⟨#[]⟩:ByteArray) (1,200) (0,0) false 0 2),(stitch_form.mk (⟨#[111]⟩:ByteArray) (1,200) (0,0) true 2 0)].length ab) (xs:=[(stitch_form.mk (⟨#[]⟩:ByteArray) (0,0) (0,0) true 1 1),(stitch_form.mk (⟨#[]⟩:ByteArray) (0,0) (0,0) false 0 1),(stitch_form.mk (⟨#[102]⟩:ByteArray) (2,4) (0,0) true 2 1),(stitch_form.mk (⟨#[108]⟩:ByteArray) (2,4) (0,0) true 2 1),(stitch_form.mk (⟨#[109]⟩:ByteArray) (2,4) (0,0) true 1 2),(stitch_form.mk (⟨#[120]⟩:ByteArray) (1,6) (1,6) true 3 3),(stitch_form.mk (⟨#[121]⟩:ByteArray) (1,6) (1,6) true 3 3),(stitch_form.mk (⟨#[115]⟩:ByteArray) (0,0) (0,0) true 1 1),(stitch_form.mk (⟨#[]⟩:ByteArray) (1,200) (0,0) false 0 2),(stitch_form.mk (⟨#[111]⟩:ByteArray) (1,200) (0,0) true 2 0)]) (j:=IntKind.u8.wrap (p0 - 1)) 131 116 0 S Try.underlying131 d d aj
 refine sIdxV S (wN d) d d d ak d (lb d) fun a S=>?_
 obtain ⟨am,S⟩:=pLoad (r:=r_stitch_form) (q:=al) (x:=a9) 0 S d
 obtain rfl:am=gv_stitch_form a9:=S.mem.know (i:=1) (e:=fRep r_stitch_form (am) a9) d
 refine sLoadVN (vq:=al) 0 [.string a9.letter,iv a9.a.1,iv a9.a.2,iv a9.b.1,iv a9.b.2,.bool a9.sided,iv a9.uses,iv a9.made] S (wN d) d d d d d d (lb d) fun a S=>sStore (p:=b2) (off:=0) (T:=116) (vs:=[.string (⟨#[]⟩:ByteArray),iv 0,iv 0,iv 0,iv 0,.bool false,iv 0,iv 0]) (v:=gv_stitch_form a9) 0 [.string a9.letter,iv a9.a.1,iv a9.a.2,iv a9.b.1,iv a9.b.2,.bool a9.sided,iv a9.uses,iv a9.made] S (wN d) d d d d d d d (by simp) d fun a w S=>sN S fun a S=>?_
 refine lT (ai _ _ ?_)
 obtain rfl:=tS h
 exact wp_ret (sRet (.tuple #[gv_stitch_form a9,.bool true]) S (rsl2 d (rvN (c:=2) (t:=116) (T:=116) (p:=b2) 0 [.string a9.letter,iv a9.a.1,iv a9.a.2,iv a9.b.1,iv a9.b.2,.bool a9.sided,iv a9.uses,iv a9.made] S d d d d) (rvT (t:=3) (v:=.bool true) S d)) ⟨(gv_stitch_form a9),d,S.mem.sel [] [1] (by decide) d d⟩)
noncomputable def F_stitch_within (p0:Int) (p1:(Int × Int)):Option Bool:=
 Option.bind (α:=Bool) (
  if decide (p1.1 ≤ p0) then
   some (decide (p0 ≤ p1.2))
  else
   some false) fun o3=>
 some o3
theorem c_stitch_within (E:Nat→Prop) (w0:World) (p0:Int) (p1:(Int × Int)) (v1:Value) (r:Bool) (h:F_stitch_within p0 p1=some r) (S:St0 E [] w0 w0 [] [fRep r_A2_Int (v1) p1]) :
 Calls Try.prog 80 #[iv p0,v1] w0 (Ret (X:=Unit) E [] w0 (fun _=>.bool r) (fun _=>[]) (fun _=>[])):=by
 unfold F_stitch_within at h
 obtain rfl:v1=.agg #[iv p1.1,iv p1.2]:=S.know (i:=0) (e:=fRep r_A2_Int (v1) p1) d
 refine sEnter (args:=[iv p0,.agg #[iv p1.1,iv p1.2]]) 15 Try.func80 d d (by simp) S (fun a S=>?_)
 refine sSeq (fun K1 aa=>sRegion (sBox (v:=.agg #[iv p1.1,iv p1.2]) S (wN d) d d [iv p1.1,iv p1.2] d d (lb d) fun a b2 w S=>sN S fun a S=>?_))
 refine lT (aa _ _ ?_)
 obtain ⟨t4,h,g5⟩:=bS h
 refine sCut (fun a w=>∃ o3,o3=t4∧St [] E [] w0 15 a w [(4,.bool o3)] [] []) ?_ (fun a w hI=>?_)
 rotate_left
 ·obtain ⟨o3,rfl,S⟩:=hI
  have h:=g5
  try dsimp only at h
  obtain rfl:=tS h
  exact wp_ret (sRet (.bool o3) S (rsl1 d (rvT (t:=4) (v:=.bool o3) S d)) ⟨(),d,S.mem.sel [] [] (by decide) d d⟩)
 refine sRegion (sM S fun a S=>?_)
 refine sIdxV S (wN d) d d d (idxV_arr (m:=2) (sz:=1) Try.underlying80 d (by decide) (by decide) 0) d (lb d) fun a S=>sLoad1 0 (iv p1.1) S (wN d) d d d d d d (lb d) fun a S=>sBin _ S (wN d) d d d (bGe _ _ _ _ .i64 p0 p1.1) d (lb d) fun a S=>sM S fun a S=>?_
 rcases iS h with ⟨a9,h⟩ | ⟨a9,h⟩
 rotate_left
 ·refine sSkN 4 4 true 9 S d d a9 d fun a S=>sPickF (.bool false) S (wN d) d d a9 d d (lb d) fun a S=>sN S fun a S=>?_
  exact lT (⟨false,Option.some.inj h,S.fix [] [] (by decide) d d d⟩)
 refine sMove (iv p0) S (wG 4 true 9 d d d a9) (.inl d) d d (lb d) fun a S=>sIdxV S (wG 4 true 9 d d d a9) d d d (idxV_arr (m:=2) (sz:=1) Try.underlying80 d (by decide) (by decide) 0) d (lb d) fun a S=>sLoad1 0 (iv p1.2) S (wG 4 true 9 d d d a9) d d d d d d (lb d) fun a S=>sBin _ S (wG 4 true 9 d d d a9) d d d (bLe _ _ _ _ .i64 p0 p1.2) d (lb d) fun a S=>sPickT (.bool (decide (p0 ≤ p1.2))) S (wN d) d d a9 d d (lb d) fun a S=>sN S fun a S=>?_
 exact lT (⟨decide (p0 ≤ p1.2),Option.some.inj h,S.fix [] [] (by decide) d d d⟩)
noncomputable def F_stitch_Check (p0:api_Stitch):Option Int:=
 (F_stitch_forms p0.Kind).bind fun r4=>
 Option.bind (α:=Bool) (
  if !r4.2 then
   some true
  else
   (F_stitch_within p0.A r4.1.a).bind fun a9=>
   if !a9 then
    some true
   else
    (F_stitch_within p0.B r4.1.b).bind fun aa=>
    if !aa then
     some true
    else
     if p0.Purl then
      some (!r4.1.sided)
     else
      some false) fun o9=>
 if o9 then
  some 8
 else
  some 0
theorem c_stitch_Check (E:Nat→Prop) (w0:World) (p0:api_Stitch) (v0:Value) (r:Int) (h:F_stitch_Check p0=some r) (S:St0 E [] w0 w0 [] [fRep r_api_Stitch (v0) p0]) :
 Calls Try.prog 73 #[v0] w0 (Ret (X:=Unit) E [] w0 (fun _=>.int .i64 r) (fun _=>[]) (fun _=>[])):=by
 unfold F_stitch_Check at h
 obtain rfl:v0=.agg #[.int .u8 p0.Kind,.bool p0.Purl,iv p0.A,iv p0.B]:=S.know (i:=0) (e:=fRep r_api_Stitch (v0) p0) d
 refine sEnter (args:=[.agg #[.int .u8 p0.Kind,.bool p0.Purl,iv p0.A,iv p0.B]]) 38 Try.func73 d d (by simp) S (fun a S=>?_)
 refine sSeq (fun K1 al=>sRegion (sBox (v:=.agg #[.int .u8 p0.Kind,.bool p0.Purl,iv p0.A,iv p0.B]) S (wN d) d d [.int .u8 p0.Kind,.bool p0.Purl,iv p0.A,iv p0.B] d d (lb d) fun a b2 w S=>sN S fun a S=>?_))
 refine lT (al _ _ (sSeq (fun K3 am=>sRegion (sField (b:=b2) (off:=0) 0 0 S (wN d) d d d d d (lb d) fun a S=>sLoad1 0 (.int .u8 p0.Kind) S (wN d) d d d d d d (lb d) fun a S=>?_))))
 obtain ⟨r4,ao,h⟩:=bS h
 refine sCall (X:=Value) (f:=67) (vs:=[.int .u8 p0.Kind]) (val:=c_stitch_forms_val r4) (B':=fun _=>[]) (D':=c_stitch_forms_D r4) [] [eBox b2 82 [.int .u8 p0.Kind,.bool p0.Purl,iv p0.A,iv p0.B]] [] [0] [] S (wN d) d callee67 d (by decide) d d (fun E1 w1 S1=>c_stitch_forms E1 w1 p0.Kind r4 ao S1) d (lb d) fun u6 a w S=>?_
 obtain rfl:u6=gv_stitch_form r4.1:=S.mem.know (i:=0) (e:=fRep r_stitch_form (u6) r4.1) d
 refine sM S fun a S=>?_
 refine sExtract (vs:=[gv_stitch_form r4.1,.bool r4.2]) (gv_stitch_form r4.1) S (wN d) d d d d (lb d) fun a S=>sExtract (vs:=[gv_stitch_form r4.1,.bool r4.2]) (.bool r4.2) S (wN d) d d d d (lb d) fun a S=>sAlloc (gv_stitch_form (stitch_form.mk (⟨#[]⟩:ByteArray) (0,0) (0,0) false 0 0)) S (wN d) d d (gl_stitch_form (stitch_form.mk (⟨#[]⟩:ByteArray) (0,0) (0,0) false 0 0)) d d (lb d) fun a b7 w S=>sStore (p:=b7) (off:=0) (T:=116) (vs:=[.string (⟨#[]⟩:ByteArray),iv 0,iv 0,iv 0,iv 0,.bool false,iv 0,iv 0]) (v:=gv_stitch_form r4.1) 0 [.string r4.1.letter,iv r4.1.a.1,iv r4.1.a.2,iv r4.1.b.1,iv r4.1.b.2,.bool r4.1.sided,iv r4.1.uses,iv r4.1.made] S (wN d) d d d d d d d (by simp) d fun a w S=>sN S fun a S=>?_
 refine lT (am _ _ (sSeq (fun K8 ap=>?_)))
 obtain ⟨aq,h,ar⟩:=bS h
 refine sCut (fun a w=>∃ o9,o9=aq∧St [] E [] w0 38 a w [(37,.bool o9)] [] []) ?_ (fun a w hI=>?_)
 rotate_left
 ·obtain ⟨o9,rfl,S⟩:=hI
  have h:=ar
  try dsimp only at h
  rcases iS h with ⟨ae,h⟩ | ⟨ae,h⟩
  ·refine sCondT S d ae (sSeq (fun au ah=>sRegion (sN S fun a S=>?_)))
   refine lT (ah _ _ ?_)
   obtain rfl:=tS h
   exact wp_ret (rThen (sRet (iv 8) S (rsl1 d (rvT (t:=2) (v:=iv 8) S d)) ⟨(),d,S.mem.sel [] [] (by decide) d d⟩))
  refine sCondF S d ae (wp_skip (leafT (ap _ _ ?_)))
  refine sSeq (fun av ai=>sRegion (sN S fun a S=>?_))
  refine lT (ai _ _ ?_)
  obtain rfl:=tS h
  exact wp_ret (sRet (iv 0) S (rsl1 d (rvT (t:=2) (v:=iv 0) S d)) ⟨(),d,S.mem.sel [] [] (by decide) d d⟩)
 refine sRegion (sM S fun a S=>?_)
 refine sNot (b:=r4.2) S (wN d) d d d (lb d) fun a S=>sM S fun a S=>?_
 rcases iS h with ⟨aa,h⟩ | ⟨aa,h⟩
 ·refine sSkN 6 2 false 13 S d d aa d fun a S=>sPickT (.bool true) S (wN d) d d aa d d (lb d) fun a S=>sM S fun a S=>?_
  refine sSkN 6 10 false 21 S d d d d fun a S=>sPickT (.bool true) S (wN d) d d d d d (lb d) fun a S=>sM S fun a S=>?_
  refine sSkN 3 18 false 29 S d d d d fun a S=>sSkipU 21 true 32 33 S d d d d (lb d) fun a S=>?_
  refine sSkipU 21 true 32 34 S d d d d (lb d) fun a S=>?_
  refine sSkipU 21 true 32 35 S d d d d (lb d) fun a S=>?_
  refine sSk S d d d d d d fun a S=>sPickT (.bool true) S (wN d) d d d d d (lb d) fun a S=>?_
  exact lT (⟨true,Option.some.inj h,S.fix [] [] (by decide) d d d⟩)
 refine sField (b:=b2) (off:=0) 2 2 S (wG 2 false 13 d d d aa) d d d d d (lb d) fun a S=>sLoad1 1 (iv p0.A) S (wG 2 false 13 d d d aa) d d d d d d (lb d) fun a S=>sField (b:=b7) (off:=0) 1 1 S (wG 2 false 13 d d d aa) d d d d d (lb d) fun a S=>sLoadN (p:=b7) (off:=1) (T:=116) (vs:=(gl_stitch_form r4.1)) 0 [iv r4.1.a.1,iv r4.1.a.2] S (wG 2 false 13 d d d aa) d d d d d d d (lb d) fun a S=>?_
 obtain ⟨af,aj,h⟩:=bS h
 have S1:=S.mem
 have S1:=S1.learn (fRep r_A2_Int (.agg #[iv r4.1.a.1,iv r4.1.a.2]) r4.1.a) d
 refine sCallQ (X:=Unit) (f:=80) (vs:=[iv p0.A,.agg #[iv r4.1.a.1,iv r4.1.a.2]]) (val:=fun _=>.bool af) S (wG 2 false 13 d d d aa) d callee80 d (S1.quiet [0] d) (fun E1 w1 S1=>c_stitch_within E1 w1 p0.A r4.1.a (.agg #[iv r4.1.a.1,iv r4.1.a.2]) af aj S1) d (lb d) fun _ a w S=>?_
 refine sNot (b:=af) S (wG 2 false 13 d d d aa) d d d (lb d) fun a S=>sPickF (.bool (!af)) S (wN d) d d aa d d (lb d) fun a S=>sM S fun a S=>?_
 rcases iS h with ⟨ab,h⟩ | ⟨ab,h⟩
 ·refine sSkN 6 10 false 21 S d d ab d fun a S=>sPickT (.bool true) S (wN d) d d ab d d (lb d) fun a S=>sM S fun a S=>?_
  refine sSkN 3 18 false 29 S d d d d fun a S=>sSkipU 21 true 32 33 S d d d d (lb d) fun a S=>?_
  refine sSkipU 21 true 32 34 S d d d d (lb d) fun a S=>?_
  refine sSkipU 21 true 32 35 S d d d d (lb d) fun a S=>?_
  refine sSk S d d d d d d fun a S=>sPickT (.bool true) S (wN d) d d d d d (lb d) fun a S=>?_
  exact lT (⟨true,Option.some.inj h,S.fix [] [] (by decide) d d d⟩)
 refine sField (b:=b2) (off:=0) 3 3 S (wG 10 false 21 d d d ab) d d d d d (lb d) fun a S=>sLoad1 1 (iv p0.B) S (wG 10 false 21 d d d ab) d d d d d d (lb d) fun a S=>sField (b:=b7) (off:=0) 3 3 S (wG 10 false 21 d d d ab) d d d d d (lb d) fun a S=>sLoadN (p:=b7) (off:=3) (T:=116) (vs:=(gl_stitch_form r4.1)) 0 [iv r4.1.b.1,iv r4.1.b.2] S (wG 10 false 21 d d d ab) d d d d d d d (lb d) fun a S=>?_
 obtain ⟨ag,ak,h⟩:=bS h
 have S1:=S.mem
 have S1:=S1.learn (fRep r_A2_Int (.agg #[iv r4.1.b.1,iv r4.1.b.2]) r4.1.b) d
 refine sCallQ (X:=Unit) (f:=80) (vs:=[iv p0.B,.agg #[iv r4.1.b.1,iv r4.1.b.2]]) (val:=fun _=>.bool ag) S (wG 10 false 21 d d d ab) d callee80 d (S1.quiet [0] d) (fun E1 w1 S1=>c_stitch_within E1 w1 p0.B r4.1.b (.agg #[iv r4.1.b.1,iv r4.1.b.2]) ag ak S1) d (lb d) fun _ a w S=>?_
 refine sNot (b:=ag) S (wG 10 false 21 d d d ab) d d d (lb d) fun a S=>sPickF (.bool (!ag)) S (wN d) d d ab d d (lb d) fun a S=>sM S fun a S=>?_
 rcases iS h with ⟨a9,h⟩ | ⟨a9,h⟩
 ·refine sSkN 3 18 false 29 S d d a9 d fun a S=>sSkipU 21 true 32 33 S d d d d (lb d) fun a S=>?_
  refine sSkipU 21 true 32 34 S d d d d (lb d) fun a S=>?_
  refine sSkipU 21 true 32 35 S d d d d (lb d) fun a S=>?_
  refine sSk S d d d a9 d d fun a S=>sPickT (.bool true) S (wN d) d d a9 d d (lb d) fun a S=>?_
  exact lT (⟨true,Option.some.inj h,S.fix [] [] (by decide) d d d⟩)
 refine sField (b:=b2) (off:=0) 1 1 S (wG 18 false 29 d d d a9) d d d d d (lb d) fun a S=>sLoad1 1 (.bool p0.Purl) S (wG 18 false 29 d d d a9) d d d d d d (lb d) fun a S=>sMove (.bool p0.Purl) S (wG 18 false 29 d d d a9) (.inl d) d d (lb d) fun a S=>?_
 rcases iS h with ⟨ac,h⟩ | ⟨ac,h⟩
 rotate_left
 ·refine sSkN 3 21 true 32 S d d ac d fun a S=>sPickF (.bool false) S (wG 18 false 29 d d d a9) d d ac d d (lb d) fun a S=>sPickF (.bool false) S (wN d) d d a9 d d (lb d) fun a S=>?_
  exact lT (⟨false,Option.some.inj h,S.fix [] [] (by decide) d d d⟩)
 refine sField (b:=b7) (off:=0) 5 5 S (wG 21 true 32 d d d ac) d d d d d (lb d) fun a S=>sLoad1 0 (.bool r4.1.sided) S (wG 21 true 32 d d d ac) d d d d d d (lb d) fun a S=>sNot (b:=r4.1.sided) S (wG 21 true 32 d d d ac) d d d (lb d) fun a S=>sPickT (.bool (!r4.1.sided)) S (wG 18 false 29 d d d a9) d d ac d d (lb d) fun a S=>sPickF (.bool (!r4.1.sided)) S (wN d) d d a9 d d (lb d) fun a S=>?_
 exact lT (⟨!r4.1.sided,Option.some.inj h,S.fix [] [] (by decide) d d d⟩)
noncomputable def F_stitch_All_1 (p0:api_Stitch):Option Bool:=
 (F_stitch_Check p0).bind fun r4=>
 some (r4 != 0)
theorem c_stitch_All_1 (E:Nat→Prop) (w0:World) (p0:api_Stitch) (v0:Value) (r:Bool) (h:F_stitch_All_1 p0=some r) (S:St0 E [] w0 w0 [] [fRep r_api_Stitch (v0) p0]) :
 Calls Try.prog 72 #[v0] w0 (Ret (X:=Unit) E [] w0 (fun _=>.bool r) (fun _=>[]) (fun _=>[])):=by
 unfold F_stitch_All_1 at h
 obtain rfl:v0=.agg #[.int .u8 p0.Kind,.bool p0.Purl,iv p0.A,iv p0.B]:=S.know (i:=0) (e:=fRep r_api_Stitch (v0) p0) d
 refine sEnter (args:=[.agg #[.int .u8 p0.Kind,.bool p0.Purl,iv p0.A,iv p0.B]]) 6 Try.func72 d d (by simp) S (fun a S=>?_)
 refine sSeq (fun K1 a9=>sRegion (sBox (v:=.agg #[.int .u8 p0.Kind,.bool p0.Purl,iv p0.A,iv p0.B]) S (wN d) d d [.int .u8 p0.Kind,.bool p0.Purl,iv p0.A,iv p0.B] d d (lb d) fun a b2 w S=>sN S fun a S=>?_))
 refine lT (a9 _ _ (sSeq (fun K3 aa=>sRegion (sLoadN (p:=b2) (off:=0) (T:=82) (vs:=[.int .u8 p0.Kind,.bool p0.Purl,iv p0.A,iv p0.B]) 0 [.int .u8 p0.Kind,.bool p0.Purl,iv p0.A,iv p0.B] S (wN d) d d d d d d d (lb d) fun a S=>?_))))
 obtain ⟨r4,ab,h⟩:=bS h
 have S1:=S.mem
 refine sCq [.agg #[.int .u8 p0.Kind,.bool p0.Purl,iv p0.A,iv p0.B]] (iv r4) S callee73 (S1.quiet [0] d) (fun E1 w1 S1=>c_stitch_Check E1 w1 p0 (.agg #[.int .u8 p0.Kind,.bool p0.Purl,iv p0.A,iv p0.B]) r4 ab S1) fun a w S=>?_
 refine sBin _ S (wN d) d d d (bNe _ _ _ _ .i64 r4 0) d (lb d) fun a S=>sN S fun a S=>?_
 refine lT (aa _ _ ?_)
 obtain rfl:=tS h
 exact wp_ret (sRet (.bool (r4 != 0)) S (rsl1 d (rvT (t:=2) (v:=.bool (r4 != 0)) S d)) ⟨(),d,S.mem.sel [] [] (by decide) d d⟩)
noncomputable def slices_IndexFunc___api_Stitch_api_Stitch__s0_l1 (p0:(List api_Stitch)):Int→Option (Int ⊕ (Int ⊕ Unit)):=fun s0=>match s0 with
 | s7=>
  if decide (s7 < (p0.length:Int)) then
   (idxO p0 s7).bind fun a9=>
   (F_stitch_All_1 a9).bind fun aa=>
   if aa then
    some (.inr (.inl s7))
   else
    some (.inl (w64 (s7 + 1)))
  else
   some (.inr (.inr ()))
noncomputable def F_slices_IndexFunc___api_Stitch_api_Stitch__s0 (p0:(List api_Stitch)):Option Int:=
 Option.bind (α:=Unit ⊕ Int) (
  (whileO (slices_IndexFunc___api_Stitch_api_Stitch__s0_l1 p0) 0).bind fun z0=>match z0 with
   | .inl z=>
    some (.inr z)
   | .inr _=>
    some (.inl ())) fun z0=>match z0 with
  | .inl _=>
   some (-1)
  | .inr z=>
   some z
theorem c_slices_IndexFunc___api_Stitch_api_Stitch__s0 (E:Nat→Prop) (w0:World) (p0:(List api_Stitch)) (v0:Value) (r:Int) (h:F_slices_IndexFunc___api_Stitch_api_Stitch__s0 p0=some r) (S:St0 E [] w0 w0 [] [fRep (rL r_api_Stitch) (v0) p0]) :
 Calls Try.prog 79 #[v0,.func (.func 72) #[] #[]] w0 (Ret (X:=Unit) E [] w0 (fun _=>.int .i64 r) (fun _=>[]) (fun _=>[])):=by
 unfold F_slices_IndexFunc___api_Stitch_api_Stitch__s0 at h
 obtain ⟨ac,ae,_,rfl,_⟩:=S.know (i:=0) (e:=fRep (rL r_api_Stitch) (v0) p0) d
 refine sEnter (args:=[.slice ac p0.length ae,.func (.func 72) #[] #[]]) 19 Try.func79 d d (by simp) S (fun a S=>?_)
 refine sSeq (fun K3 aw=>sRegion (sN S fun a S=>?_))
 refine lT (aw _ _ ?_)
 obtain ⟨t4,h,g5⟩:=bS h
 refine sCut (fun a w=>.inl ()=t4∧St [] E [] w0 19 a w [] [] []) ?_ (fun a w hI=>?_)
 rotate_left
 ·obtain ⟨rfl,S⟩:=hI
  have h:=g5
  try dsimp only at h
  refine sSeq (fun ay af=>sRegion (sN S fun a S=>?_))
  refine lT (af _ _ ?_)
  obtain rfl:=tS h
  exact wp_ret (sRet (iv (-1)) S (rsl1 d (rvT (t:=4) (v:=iv (-1)) S d)) ⟨(),d,S.mem.sel [] [] (by decide) d d⟩)
 refine sSeq (fun K6 ax=>sRegion (sM S fun a S=>?_))
 refine sLen S (wN d) d Try.underlying86 d d (lb d) fun a S=>sM S fun a S=>?_
 refine lT (ax _ _ (wp_block ?_))
 obtain ⟨az,hl,g9⟩:=bS h
 refine sLoop hl (fun s0 a w=>match s0 with | s7=>St [] E [] w0 19 a w [(0,.slice ac p0.length ae),(1,.func (.func 72) #[] #[]),(7,iv (p0.length:Int)),(8,iv s7)] [] [fRep (rL r_api_Stitch) (.slice ac p0.length ae) p0]) (S.fix [] [0] (by decide) d d d) ?_
 clear hl h
 intro s7 a w c0 hI h aq
 unfold slices_IndexFunc___api_Stitch_api_Stitch__s0_l1 at h
 dsimp only at h hI
 have S:=hI
 refine sSeq (fun aA ag=>sRegion (sBin _ S (wN d) d d d (bLt _ _ _ _ .i64 s7 (p0.length:Int)) d (lb d) fun a S=>lT (ag _ _ (sSeq (fun aC ah=>?_)))))
 rcases iS h with ⟨aa,h⟩ | ⟨aa,h⟩
 rotate_left
 ·refine sCondF S d aa ?_
  obtain rfl:=tS h
  obtain rfl:=aq _ d
  have h:=g9
  try dsimp only at h
  exact wp_exit (xThen (xThen (xHit (leafT (⟨Option.some.inj h,S.fix [] [] (by decide) d d d⟩)))))
 refine sCondT S d aa (wp_skip (leafT (ah _ _ ?_)))
 refine sSeq (fun aG ai=>wp_block ?_)
 refine sSeq (fun aH aj=>sRegion (sM S fun a S=>?_))
 refine sN S fun a S=>?_
 refine lT (aj _ _ (sSeq (fun aI ak=>sRegion (sM S fun a S=>?_))))
 refine sM S fun a S=>?_
 refine sM S fun a S=>?_
 obtain ⟨a9,al,h⟩:=bS h
 obtain ⟨ar,am,S⟩:=pIdx (P:=Try.prog) (r:=r_api_Stitch) (v:=.slice ac p0.length ae) (xs:=p0) (j:=s7) 86 82 0 S Try.underlying86 d d al
 refine sIdxV S (wN d) d d d am d (lb d) fun a S=>?_
 obtain ⟨au,S⟩:=pLoad (r:=r_api_Stitch) (q:=ar) (x:=a9) 0 S d
 obtain rfl:au=.agg #[.int .u8 a9.Kind,.bool a9.Purl,iv a9.A,iv a9.B]:=S.mem.know (i:=1) (e:=fRep r_api_Stitch (au) a9) d
 refine sLoadVN (vq:=ar) 0 [.int .u8 a9.Kind,.bool a9.Purl,iv a9.A,iv a9.B] S (wN d) d d d d d d (lb d) fun a S=>?_
 obtain ⟨av,ao,h⟩:=bS h
 have S1:=S.mem
 refine sCallVQ (X:=Unit) (g:=72) (vs:=[.agg #[.int .u8 a9.Kind,.bool a9.Purl,iv a9.A,iv a9.B]]) (caps:=[]) (val:=fun _=>.bool av) S (wN d) d d callee72 d (S1.quiet [1] d) (fun E1 w1 S1=>c_stitch_All_1 E1 w1 a9 (.agg #[.int .u8 a9.Kind,.bool a9.Purl,iv a9.A,iv a9.B]) av ao S1) d (lb d) fun _ a w S=>?_
 refine lT (ak _ _ ?_)
 rcases iS h with ⟨ab,h⟩ | ⟨ab,h⟩
 rotate_left
 ·refine sCondF S d ab (wp_skip (leafB (leafT (ai _ _ ?_))))
  refine sRegion (sBin _ S (wN d) d d d (bAdd _ _ _ _ s7 1) d (lb d) fun a S=>sM S fun a S=>?_)
  exact lT (⟨w64 (s7 + 1),(Option.some.inj h).symm,(S.fix [] [3] (by decide) d d d)⟩)
 refine sCondT S d ab (sSeq (fun aJ ap=>sRegion (sM S fun a S=>?_)))
 refine sN S fun a S=>?_
 refine lT (ap _ _ ?_)
 obtain rfl:=tS h
 obtain rfl:=aq _ d
 have h:=g9
 try dsimp only at h
 obtain rfl:=tS h
 have h:=g5
 try dsimp only at h
 obtain rfl:=tS h
 exact wp_ret (rBlock (rThen (rThen (rBlock (rThen (sRet (iv s7) S (rsl1 d (rvT (t:=4) (v:=iv s7) S d)) ⟨(),d,S.mem.sel [] [] (by decide) d d⟩))))))
noncomputable def F_slices_ContainsFunc___api_Stitch_api_Stitch__s0 (p0:(List api_Stitch)):Option Bool:=
 (F_slices_IndexFunc___api_Stitch_api_Stitch__s0 p0).bind fun r5=>
 some (decide (0 ≤ r5))
theorem c_slices_ContainsFunc___api_Stitch_api_Stitch__s0 (E:Nat→Prop) (w0:World) (p0:(List api_Stitch)) (v0:Value) (r:Bool) (h:F_slices_ContainsFunc___api_Stitch_api_Stitch__s0 p0=some r) (S:St0 E [] w0 w0 [] [fRep (rL r_api_Stitch) (v0) p0]) :
 Calls Try.prog 71 #[v0,.func (.func 72) #[] #[]] w0 (Ret (X:=Unit) E [] w0 (fun _=>.bool r) (fun _=>[]) (fun _=>[])):=by
 unfold F_slices_ContainsFunc___api_Stitch_api_Stitch__s0 at h
 obtain ⟨a9,aa,_,rfl,_⟩:=S.know (i:=0) (e:=fRep (rL r_api_Stitch) (v0) p0) d
 refine sEnter (args:=[.slice a9 p0.length aa,.func (.func 72) #[] #[]]) 9 Try.func71 d d (by simp) S (fun a S=>?_)
 refine sSeq (fun K3 ab=>sRegion (sN S fun a S=>?_))
 refine lT (ab _ _ (sSeq (fun K4 ac=>sRegion (sM S fun a S=>?_))))
 refine sM S fun a S=>?_
 obtain ⟨r5,ae,h⟩:=bS h
 have S1:=S.mem
 refine sCq [.slice a9 p0.length aa,.func (.func 72) #[] #[]] (iv r5) S callee79 (S1.quiet [0] d) (fun E1 w1 S1=>c_slices_IndexFunc___api_Stitch_api_Stitch__s0 E1 w1 p0 (.slice a9 p0.length aa) r5 ae S1) fun a w S=>?_
 refine sBin _ S (wN d) d d d (bGe _ _ _ _ .i64 r5 0) d (lb d) fun a S=>sN S fun a S=>?_
 refine lT (ac _ _ ?_)
 obtain rfl:=tS h
 exact wp_ret (sRet (.bool (decide (0 ≤ r5))) S (rsl1 d (rvT (t:=4) (v:=.bool (decide (0 ≤ r5))) S d)) ⟨(),d,S.mem.sel [] [] (by decide) d d⟩)
noncomputable def F_stitch_loops (p0:api_Stitch) (p1:Int):Option Int:=
 (idxO ([0,1,p0.A,w64 (p0.A + p0.B)]:List Int) p1).bind fun x4=>
 some x4
theorem c_stitch_loops (E:Nat→Prop) (w0:World) (p0:api_Stitch) (v0:Value) (p1:Int) (r:Int) (h:F_stitch_loops p0 p1=some r) (S:St0 E [] w0 w0 [] [fRep r_api_Stitch (v0) p0]) :
 Calls Try.prog 81 #[v0,iv p1] w0 (Ret (X:=Unit) E [] w0 (fun _=>.int .i64 r) (fun _=>[]) (fun _=>[])):=by
 unfold F_stitch_loops at h
 obtain rfl:v0=.agg #[.int .u8 p0.Kind,.bool p0.Purl,iv p0.A,iv p0.B]:=S.know (i:=0) (e:=fRep r_api_Stitch (v0) p0) d
 refine sEnter (args:=[.agg #[.int .u8 p0.Kind,.bool p0.Purl,iv p0.A,iv p0.B],iv p1]) 15 Try.func81 d d (by simp) S (fun a S=>?_)
 refine sSeq (fun K1 a9=>sRegion (sBox (v:=.agg #[.int .u8 p0.Kind,.bool p0.Purl,iv p0.A,iv p0.B]) S (wN d) d d [.int .u8 p0.Kind,.bool p0.Purl,iv p0.A,iv p0.B] d d (lb d) fun a b2 w S=>sN S fun a S=>?_))
 refine lT (a9 _ _ (sSeq (fun K3 aa=>sRegion (sField (b:=b2) (off:=0) 2 2 S (wN d) d d d d d (lb d) fun a S=>sLoad1 0 (iv p0.A) S (wN d) d d d d d d (lb d) fun a S=>sField (b:=b2) (off:=0) 2 2 S (wN d) d d d d d (lb d) fun a S=>sLoad1 0 (iv p0.A) S (wN d) d d d d d d (lb d) fun a S=>sField (b:=b2) (off:=0) 3 3 S (wN d) d d d d d (lb d) fun a S=>sLoad1 0 (iv p0.B) S (wN d) d d d d d d (lb d) fun a S=>sBin _ S (wN d) d d d (bAdd _ _ _ _ p0.A p0.B) d (lb d) fun a S=>sBuild [(0,iv 0),(1,iv 1),(2,iv p0.A),(3,iv (w64 (p0.A + p0.B)))] [iv 0,iv 1,iv p0.A,iv (w64 (p0.A + p0.B))] S (wN d) d d d d (lb d) fun a S=>sM S fun a S=>?_))))
 obtain ⟨x4,ab,h⟩:=bS h
 refine sIndexA (g:=fun z=>.int .i64 z) (xs:=([0,1,p0.A,w64 (p0.A + p0.B)]:List Int)) (j:=p1) (k:=.i64) 4 [iv 0,iv 1,iv p0.A,iv (w64 (p0.A + p0.B))] S (wN d) d Try.underlying121 d d d d d d ab d (lb d) fun a S=>sN S fun a S=>?_
 refine lT (aa _ _ ?_)
 obtain rfl:=tS h
 exact wp_ret (sRet (iv x4) S (rsl1 d (rvT (t:=4) (v:=iv x4) S d)) ⟨(),d,S.mem.sel [] [] (by decide) d d⟩)
noncomputable def stitch_sum_l1 (p0:(List api_Stitch)):(Int × Int × Int)→Option ((Int × Int × Int) ⊕ (Int × Int)):=fun s0=>match s0 with
 | (s9,ab,a9)=>
  if decide (a9 < (p0.length:Int)) then
   (idxO p0 a9).bind fun aa=>
   (F_stitch_forms aa.Kind).bind fun ac=>
   (F_stitch_loops aa ac.1.uses).bind fun ae=>
   (F_stitch_loops aa ac.1.made).bind fun af=>
   some (.inl (w64 (s9 + ae),w64 (ab + af),w64 (a9 + 1)))
  else
   some (.inr (s9,ab))
noncomputable def F_stitch_sum (p0:(List api_Stitch)):Option (Int × Int):=
 Option.bind (α:=(Int × Int)) (
  (whileO (stitch_sum_l1 p0) (0,0,0)).bind fun (a9,aa)=>
   some (a9,aa)) fun (o4,o5)=>
 some (o4,o5)
theorem c_stitch_sum (E:Nat→Prop) (w0:World) (p0:(List api_Stitch)) (v0:Value) (r:(Int × Int)) (h:F_stitch_sum p0=some r) (S:St0 E [] w0 w0 [] [fRep (rL r_api_Stitch) (v0) p0]) :
 Calls Try.prog 74 #[v0] w0 (Ret (X:=Unit) E [] w0 (fun _=>.tuple #[.int .i64 r.1,.int .i64 r.2]) (fun _=>[]) (fun _=>[])):=by
 unfold F_stitch_sum at h
 obtain ⟨ag,ah,_,rfl,_⟩:=S.know (i:=0) (e:=fRep (rL r_api_Stitch) (v0) p0) d
 refine sEnter (args:=[.slice ag p0.length ah]) 35 Try.func74 d d (by simp) S (fun a S=>?_)
 refine sSeq (fun K3 aI=>sRegion (sN S fun a S=>?_))
 refine sN S fun a S=>?_
 refine lT (aI _ _ ?_)
 obtain ⟨t6,h,g7⟩:=bS h
 refine sCut (fun a w=>∃ o4,∃ o5,(o4,o5)=t6∧St [] E [] w0 35 a w [(2,iv o4),(3,iv o5)] [] []) ?_ (fun a w hI=>?_)
 rotate_left
 ·obtain ⟨o4,o5,rfl,S⟩:=hI
  have h:=g7
  try dsimp only at h
  refine sSeq (fun aL ak=>sRegion (sM S fun a S=>?_))
  refine sM S fun a S=>?_
  refine sN S fun a S=>?_
  refine sN S fun a S=>?_
  refine lT (ak _ _ ?_)
  obtain rfl:=tS h
  exact wp_ret (sRet (.tuple #[iv o4,iv o5]) S (rsl2 d (rvT (t:=2) (v:=iv o4) S d) (rvT (t:=3) (v:=iv o5) S d)) ⟨(),d,S.mem.sel [] [] (by decide) d d⟩)
 refine sSeq (fun K8 aJ=>sRegion (sM S fun a S=>?_))
 refine sLen S (wN d) d Try.underlying86 d d (lb d) fun a S=>sM S fun a S=>?_
 refine lT (aJ _ _ (wp_block ?_))
 obtain ⟨aM,hl,aK⟩:=bS h
 refine sLoop hl (fun s0 a w=>match s0 with | (s9,ae,ac)=>St [] E [] w0 35 a w [(2,iv s9),(3,iv ae),(8,.slice ag p0.length ah),(9,iv (p0.length:Int)),(10,iv ac)] [] [fRep (rL r_api_Stitch) (.slice ag p0.length ah) p0]) (S.fix [] [0] (by decide) d d d) ?_
 clear hl h
 intro s0 a w c0 hI h al
 obtain ⟨s9,ae,ac⟩:=s0
 unfold stitch_sum_l1 at h
 dsimp only at h hI
 have S:=hI
 refine sSeq (fun aO am=>sRegion (sBin _ S (wN d) d d d (bLt _ _ _ _ .i64 ac (p0.length:Int)) d (lb d) fun a S=>lT (am _ _ (sSeq (fun aP ao=>?_)))))
 rcases iS h with ⟨ab,h⟩ | ⟨ab,h⟩
 rotate_left
 ·refine sCondF S d ab ?_
  obtain rfl:=tS h
  obtain rfl:=al _ d
  have h:=aK
  try dsimp only at h
  exact wp_exit (xThen (xThen (xHit (leafT (⟨s9,ae,Option.some.inj h,S.fix [] [] (by decide) d d d⟩)))))
 refine sCondT S d ab (wp_skip (leafT (ao _ _ ?_)))
 refine sSeq (fun aQ ap=>wp_block ?_)
 refine sSeq (fun aR aq=>sRegion ?_)
 obtain ⟨a9,ar,h⟩:=bS h
 obtain ⟨aC,au,S⟩:=pIdx (P:=Try.prog) (r:=r_api_Stitch) (v:=.slice ag p0.length ah) (xs:=p0) (j:=ac) 86 82 0 S Try.underlying86 d d ar
 refine sIdxV S (wN d) d d d au d (lb d) fun a S=>?_
 obtain ⟨aG,S⟩:=pLoad (r:=r_api_Stitch) (q:=aC) (x:=a9) 0 S d
 obtain rfl:aG=.agg #[.int .u8 a9.Kind,.bool a9.Purl,iv a9.A,iv a9.B]:=S.mem.know (i:=1) (e:=fRep r_api_Stitch (aG) a9) d
 refine sLoadVN (vq:=aC) 0 [.int .u8 a9.Kind,.bool a9.Purl,iv a9.A,iv a9.B] S (wN d) d d d d d d (lb d) fun a S=>sAlloc (.agg #[.int .u8 0,.bool false,iv 0,iv 0]) S (wN d) d d [.int .u8 0,.bool false,iv 0,iv 0] d d (lb d) fun a af w S=>sStore (p:=af) (off:=0) (T:=82) (vs:=[.int .u8 0,.bool false,iv 0,iv 0]) (v:=.agg #[.int .u8 a9.Kind,.bool a9.Purl,iv a9.A,iv a9.B]) 0 [.int .u8 a9.Kind,.bool a9.Purl,iv a9.A,iv a9.B] S (wN d) d d d d d d d (by simp) d fun a w S=>lT (aq _ _ (sSeq (fun aS av=>sRegion (sField (b:=af) (off:=0) 0 0 S (wN d) d d d d d (lb d) fun a S=>sLoad1 0 (.int .u8 a9.Kind) S (wN d) d d d d d d (lb d) fun a S=>?_))))
 obtain ⟨aa,aw,h⟩:=bS h
 refine sCall (X:=Value) (f:=67) (vs:=[.int .u8 a9.Kind]) (val:=c_stitch_forms_val aa) (B':=fun _=>[]) (D':=c_stitch_forms_D aa) [] [eBox af 82 [.int .u8 a9.Kind,.bool a9.Purl,iv a9.A,iv a9.B]] [] [0] [] S (wN d) d callee67 d (by decide) d d (fun E1 w1 S1=>c_stitch_forms E1 w1 a9.Kind aa aw S1) d (lb d) fun aH a w S=>?_
 obtain rfl:aH=gv_stitch_form aa.1:=S.mem.know (i:=0) (e:=fRep r_stitch_form (aH) aa.1) d
 refine sM S fun a S=>?_
 refine sExtract (vs:=[gv_stitch_form aa.1,.bool aa.2]) (gv_stitch_form aa.1) S (wN d) d d d d (lb d) fun a S=>sExtract (vs:=[gv_stitch_form aa.1,.bool aa.2]) (.bool aa.2) S (wN d) d d d d (lb d) fun a S=>sAlloc (gv_stitch_form (stitch_form.mk (⟨#[]⟩:ByteArray) (0,0) (0,0) false 0 0)) S (wN d) d d (gl_stitch_form (stitch_form.mk (⟨#[]⟩:ByteArray) (0,0) (0,0) false 0 0)) d d (lb d) fun a ax w S=>sStore (p:=ax) (off:=0) (T:=116) (vs:=[.string (⟨#[]⟩:ByteArray),iv 0,iv 0,iv 0,iv 0,.bool false,iv 0,iv 0]) (v:=gv_stitch_form aa.1) 0 [.string aa.1.letter,iv aa.1.a.1,iv aa.1.a.2,iv aa.1.b.1,iv aa.1.b.2,.bool aa.1.sided,iv aa.1.uses,iv aa.1.made] S (wN d) d d d d d d d (by simp) d fun a w S=>sN S fun a S=>?_
 refine lT (av _ _ (sSeq (fun aT ay=>sRegion (sM S fun a S=>?_))))
 refine sLoadN (p:=af) (off:=0) (T:=82) (vs:=[.int .u8 a9.Kind,.bool a9.Purl,iv a9.A,iv a9.B]) 1 [.int .u8 a9.Kind,.bool a9.Purl,iv a9.A,iv a9.B] S (wN d) d d d d d d d (lb d) fun a S=>sField (b:=ax) (off:=0) 6 6 S (wN d) d d d d d (lb d) fun a S=>sLoad1 0 (iv aa.1.uses) S (wN d) d d d d d d (lb d) fun a S=>?_
 obtain ⟨ai,az,h⟩:=bS h
 have S1:=S.mem
 refine sCq [.agg #[.int .u8 a9.Kind,.bool a9.Purl,iv a9.A,iv a9.B],iv aa.1.uses] (iv ai) S callee81 (S1.quiet [2] d) (fun E1 w1 S1=>c_stitch_loops E1 w1 a9 (.agg #[.int .u8 a9.Kind,.bool a9.Purl,iv a9.A,iv a9.B]) aa.1.uses ai az S1) fun a w S=>?_
 refine sBin _ S (wN d) d d d (bAdd _ _ _ _ s9 ai) d (lb d) fun a S=>sN S fun a S=>?_
 refine lT (ay _ _ (sRegion (sM S fun a S=>?_)))
 refine sLoadN (p:=af) (off:=0) (T:=82) (vs:=[.int .u8 a9.Kind,.bool a9.Purl,iv a9.A,iv a9.B]) 1 [.int .u8 a9.Kind,.bool a9.Purl,iv a9.A,iv a9.B] S (wN d) d d d d d d d (lb d) fun a S=>sField (b:=ax) (off:=0) 7 7 S (wN d) d d d d d (lb d) fun a S=>sLoad1 0 (iv aa.1.made) S (wN d) d d d d d d (lb d) fun a S=>?_
 obtain ⟨aj,aA,h⟩:=bS h
 have S1:=S.mem
 refine sCq [.agg #[.int .u8 a9.Kind,.bool a9.Purl,iv a9.A,iv a9.B],iv aa.1.made] (iv aj) S callee81 (S1.quiet [2] d) (fun E1 w1 S1=>c_stitch_loops E1 w1 a9 (.agg #[.int .u8 a9.Kind,.bool a9.Purl,iv a9.A,iv a9.B]) aa.1.made aj aA S1) fun a w S=>?_
 refine sBin _ S (wN d) d d d (bAdd _ _ _ _ ae aj) d (lb d) fun a S=>sN S fun a S=>?_
 refine leafL (leafB (leafT (ap _ _ ?_)))
 refine sRegion (sBin _ S (wN d) d d d (bAdd _ _ _ _ ac 1) d (lb d) fun a S=>sM S fun a S=>?_)
 exact lT (⟨(w64 (s9 + ai),w64 (ae + aj),w64 (ac + 1)),(Option.some.inj h).symm,(S.fix [] [4] (by decide) d d d)⟩)
noncomputable def F_stitch_All (p0:(List api_Stitch)):Option Int:=
 if decide (200 < (p0.length:Int)) then
  some 4
 else
  (F_slices_ContainsFunc___api_Stitch_api_Stitch__s0 p0).bind fun aa=>
  if aa then
   some 8
  else
   (F_stitch_sum p0).bind fun a9=>
   if decide (200 < (if a9.1 < a9.2 then a9.2 else a9.1)) then
    some 4
   else
    some 0
theorem c_stitch_All (E:Nat→Prop) (w0:World) (p0:(List api_Stitch)) (v0:Value) (r:Int) (h:F_stitch_All p0=some r) (S:St0 E [] w0 w0 [] [fRep (rL r_api_Stitch) (v0) p0]) :
 Calls Try.prog 55 #[v0] w0 (Ret (X:=Unit) E [] w0 (fun _=>.int .i64 r) (fun _=>[]) (fun _=>[])):=by
 unfold F_stitch_All at h
 obtain ⟨ac,ae,_,rfl,_⟩:=S.know (i:=0) (e:=fRep (rL r_api_Stitch) (v0) p0) d
 refine sEnter (args:=[.slice ac p0.length ae]) 19 Try.func55 d d (by simp) S (fun a S=>?_)
 refine sSeq (fun K3 aq=>sRegion (sN S fun a S=>?_))
 refine lT (aq _ _ (sSeq (fun K4 ar=>sSeq (fun K5 au=>sRegion (sM S fun a S=>?_)))))
 refine sLen S (wN d) d Try.underlying86 d d (lb d) fun a S=>sBin _ S (wN d) d d d (bGt _ _ _ _ .i64 (p0.length:Int) 200) d (lb d) fun a S=>lT (au _ _ ?_)
 rcases iS h with ⟨af,h⟩ | ⟨af,h⟩
 ·refine sCondT S d af (sSeq (fun K7 av=>sRegion (sN S fun a S=>?_)))
  refine lT (av _ _ ?_)
  obtain rfl:=tS h
  exact wp_ret (rThen (sRet (iv 4) S (rsl1 d (rvT (t:=2) (v:=iv 4) S d)) ⟨(),d,S.mem.sel [] [] (by decide) d d⟩))
 refine sCondF S d af (wp_skip (leafT (ar _ _ ?_)))
 refine sSeq (fun K8 aw=>sSeq (fun K9 ax=>sRegion (sM S fun a S=>?_)))
 obtain ⟨ap,ag,h⟩:=bS h
 have S1:=S.mem
 refine sCq [.slice ac p0.length ae,.func (.func 72) #[] #[]] (.bool ap) S callee71 (S1.quiet [0] d) (fun E1 w1 S1=>c_slices_ContainsFunc___api_Stitch_api_Stitch__s0 E1 w1 p0 (.slice ac p0.length ae) ap ag S1) fun a w S=>?_
 refine lT (ax _ _ ?_)
 rcases iS h with ⟨aa,h⟩ | ⟨aa,h⟩
 ·refine sCondT S d aa (sSeq (fun ay ah=>sRegion (sN S fun a S=>?_)))
  refine lT (ah _ _ ?_)
  obtain rfl:=tS h
  exact wp_ret (rThen (sRet (iv 8) S (rsl1 d (rvT (t:=2) (v:=iv 8) S d)) ⟨(),d,S.mem.sel [] [] (by decide) d d⟩))
 refine sCondF S d aa (wp_skip (leafT (aw _ _ ?_)))
 refine sSeq (fun az ai=>sSeq (fun aA aj=>sRegion (sM S fun a S=>?_)))
 obtain ⟨a9,ak,h⟩:=bS h
 have S1:=S.mem
 refine sCq [.slice ac p0.length ae] (.tuple #[iv a9.1,iv a9.2]) S callee74 (S1.quiet [0] d) (fun E1 w1 S1=>c_stitch_sum E1 w1 p0 (.slice ac p0.length ae) a9 ak S1) fun a w S=>?_
 refine sM S fun a S=>?_
 refine sExtract (vs:=[iv a9.1,iv a9.2]) (iv a9.1) S (wN d) d d d d (lb d) fun a S=>sExtract (vs:=[iv a9.1,iv a9.2]) (iv a9.2) S (wN d) d d d d (lb d) fun a S=>sN S fun a S=>?_
 refine sN S fun a S=>?_
 refine lT (aj _ _ (sSeq (fun aC al=>sRegion (sM S fun a S=>?_))))
 refine sM S fun a S=>?_
 refine sMax2 (p:=a9.1) (q:=a9.2) S (wN d) d d d d (lb d) fun a S=>sBin _ S (wN d) d d d (bGt _ _ _ _ .i64 (if a9.1 < a9.2 then a9.2 else a9.1) 200) d (lb d) fun a S=>lT (al _ _ ?_)
 rcases iS h with ⟨ab,h⟩ | ⟨ab,h⟩
 ·refine sCondT S d ab (sSeq (fun aG am=>sRegion (sN S fun a S=>?_)))
  refine lT (am _ _ ?_)
  obtain rfl:=tS h
  exact wp_ret (rThen (sRet (iv 4) S (rsl1 d (rvT (t:=2) (v:=iv 4) S d)) ⟨(),d,S.mem.sel [] [] (by decide) d d⟩))
 refine sCondF S d ab (wp_skip (leafT (ai _ _ ?_)))
 refine sSeq (fun aH ao=>sRegion (sN S fun a S=>?_))
 refine lT (ao _ _ ?_)
 obtain rfl:=tS h
 exact wp_ret (sRet (iv 0) S (rsl1 d (rvT (t:=2) (v:=iv 0) S d)) ⟨(),d,S.mem.sel [] [] (by decide) d d⟩)
theorem loop_at {S σ τ:Type} {B:S→Option (S ⊕ τ)} (n:Nat) (st:Nat→σ→S) (I:Nat→σ→Prop) (Pt:τ→Prop) {s0:σ} (h0:I 0 s0)
 (step:∀ k s,k < n→I k s→(∃ s',B (st k s)=some (.inl (st (k + 1) s'))∧I (k + 1) s') ∨ (∃ t,B (st k s)=some (.inr t)∧Pt t))
 (last:∀ s,I n s→∃ t,B (st n s)=some (.inr t)∧Pt t):∃ t,whileO B (st 0 s0)=some t∧Pt t:=by
 have key:∀ j k s,j + k=n→I k s→∃ t,whileO B (st k s)=some t∧Pt t:=by
  intro j
  induction j with
  | zero=>
   intro k s hk hI
   obtain rfl:k=n:=by omega
   obtain ⟨t,h1,h2⟩:=last s hI
   exact ⟨t,whileO_done h1,h2⟩
  | succ j ih=>
   intro k s hk hI
   rcases step k s (by omega) hI with ⟨s',h1,h2⟩ | ⟨t,h1,h2⟩
   ·rw [whileO_step h1]; exact ih _ _ (by omega) h2
   ·exact ⟨t,whileO_done h1,h2⟩
 exact key n 0 s0 (by omega) h0
theorem whileO_none {σ τ:Type} {B:σ→Option (σ ⊕ τ)} {s:σ} (h:B s=none):whileO B s=none:=by
 cases hx:whileO B s with
 | none=>rfl
 | some t=>
  obtain ⟨n,hn⟩:=whileO_some hx
  cases n with
  | zero=>simp [iterO] at hn
  | succ n=>rw [iterO,h] at hn; cases hn
theorem whileO_eq {σ τ:Type} (B:σ→Option (σ ⊕ τ)) (s:σ):whileO B s=(B s).bind fun r=>match r with | .inl s'=>whileO B s' | .inr t=>some t:=by
 cases h:B s with
 | none=>rw [whileO_none h]; rfl
 | some r=>
  cases r with
  | inl s'=>rw [whileO_step h]; rfl
  | inr t=>rw [whileO_done h]; rfl
def sm {α:Type} (f:α→Int):List α→Int
 | []=>0
 | x :: l=>f x + sm f l
theorem sm_append {α:Type} (f:α→Int) (l k:List α):sm f (l ++ k)=sm f l + sm f k:=by
 induction l with
 | nil=>simp [sm]
 | cons x l ih=>simp only [List.cons_append,sm,ih]; omega
theorem sm_take {α:Type} (f:α→Int) (l:List α) {k:Nat} (h:k < l.length):sm f (l.take (k + 1))=sm f (l.take k) + f l[k]:=by
 rw [List.take_succ_eq_append_getElem h,sm_append]
 simp [sm]
theorem sm_bd {α:Type} {f:α→Int} {b:Int} {l:List α} (h:∀ x,x ∈ l→0 ≤ f x∧f x ≤ b):0 ≤ sm f l∧sm f l ≤ b * l.length:=by
 induction l with
 | nil=>simp [sm]
 | cons x l ih=>
  have h1:=h x (by simp)
  have h2:=ih fun y hy=>h y (by simp [hy])
  simp only [sm,List.length_cons]
  have e:b * ((l.length + 1:Nat):Int)=b * l.length + b:=by rw [Int.natCast_add,Int.mul_add]; simp
  rw [e]
  omega
def usedS (p:api_Stitch):Int:=if p.Kind=2 ∨ p.Kind=9 then 0 else if p.Kind=3 ∨ p.Kind=4 ∨ p.Kind=10 then p.A else if p.Kind=6 ∨ p.Kind=7 then p.A + p.B else 1
def madeS (p:api_Stitch):Int:=if p.Kind=10 then 0 else if p.Kind=5 ∨ p.Kind=9 then p.A else if p.Kind=6 ∨ p.Kind=7 then p.A + p.B else 1
def okS (p:api_Stitch):Prop:=
 (p.Kind=1 ∨ p.Kind=8)∧p.A=0∧p.B=0 ∨ p.Kind=2∧p.A=0∧p.B=0∧p.Purl=false ∨ (p.Kind=3 ∨ p.Kind=4 ∨ p.Kind=5)∧2 ≤ p.A∧p.A ≤ 4∧p.B=0 ∨
 (p.Kind=6 ∨ p.Kind=7)∧1 ≤ p.A∧p.A ≤ 6∧1 ≤ p.B∧p.B ≤ 6 ∨ p.Kind=9∧1 ≤ p.A∧p.A ≤ 200∧p.B=0∧p.Purl=false ∨ p.Kind=10∧1 ≤ p.A∧p.A ≤ 200∧p.B=0
instance (p:api_Stitch):Decidable (okS p):=by unfold okS; infer_instance
theorem okS_bd {p:api_Stitch} (h:okS p):1 ≤ p.Kind∧p.Kind ≤ 10∧0 ≤ p.A∧p.A ≤ 200∧0 ≤ p.B∧p.B ≤ 6:=by
 unfold okS at h
 omega
theorem usedS_bd {p:api_Stitch} (h:okS p):0 ≤ usedS p∧usedS p ≤ 200:=by
 have hb:=okS_bd h
 unfold okS at h
 unfold usedS
 split
 ·omega
 ·split
  ·omega
  ·split <;> omega
theorem madeS_bd {p:api_Stitch} (h:okS p):0 ≤ madeS p∧madeS p ≤ 200:=by
 have hb:=okS_bd h
 unfold okS at h
 unfold madeS
 split
 ·omega
 ·split
  ·omega
  ·split <;> omega
theorem check_form (p:api_Stitch) (f:stitch_form) (h:F_stitch_forms p.Kind=some (f,true)) :
 F_stitch_Check p=some (if (f.a.1 ≤ p.A∧p.A ≤ f.a.2)∧(f.b.1 ≤ p.B∧p.B ≤ f.b.2)∧(p.Purl=true→f.sided=true) then 0 else 8):=by
 unfold F_stitch_Check F_stitch_within
 rw [h]
 by_cases a1:f.a.1 ≤ p.A <;> by_cases a2:p.A ≤ f.a.2 <;> by_cases b1:f.b.1 ≤ p.B <;> by_cases b2:p.B ≤ f.b.2 <;> cases hp:p.Purl <;> cases hs:f.sided <;> simp [a1,a2,b1,b2,hs]
theorem ifc {α:Type} {c d:Prop} [Decidable c] [Decidable d] {a b:α} (h:c ↔ d):(if c then a else b)=if d then a else b:=by
 by_cases hc:c
 ·rw [if_pos hc,if_pos (h.1 hc)]
 ·rw [if_neg hc,if_neg (fun hd=>hc (h.2 hd))]
theorem kinds {x:Int} (h:0 ≤ x∧x ≤ 255):x=0 ∨ x=1 ∨ x=2 ∨ x=3 ∨ x=4 ∨ x=5 ∨ x=6 ∨ x=7 ∨ x=8 ∨ x=9 ∨ x=10 ∨ 10 < x:=by omega
theorem forms_none {x:Int} (h:10 < x∧x ≤ 255):∃ f,F_stitch_forms x=some (f,false):=by
 unfold F_stitch_forms
 have hw:IntKind.i64.wrap x=x:=w64_of (by omega) (by omega)
 simp only [dF (show ¬ x < 1 by omega),hw,Bool.false_eq_true,if_false,Option.bind_some,List.length_cons,List.length_nil]
 rw [dT (show ((0 + 1 + 1 + 1 + 1 + 1 + 1 + 1 + 1 + 1 + 1:Nat):Int) < x by omega)]
 exact ⟨_,rfl⟩
theorem check_none {p:api_Stitch} {f:stitch_form} (h:F_stitch_forms p.Kind=some (f,false)):F_stitch_Check p=some 8:=by
 unfold F_stitch_Check
 rw [h]
 simp
theorem check_eq (p:api_Stitch) (hk:0 ≤ p.Kind∧p.Kind ≤ 255):F_stitch_Check p=some (if okS p then 0 else 8):=by
 rcases kinds hk with h | h | h | h | h | h | h | h | h | h | h | h
 ·rw [check_none (f:=⟨⟨#[]⟩,(0,0),(0,0),false,0,0⟩) (by rw [h]; rfl),if_neg (by unfold okS; omega)]
 ·rw [check_form p _ (by rw [h]; rfl)]; cases hp:p.Purl <;> exact congrArg some (ifc (by simp [okS,h]; omega))
 ·rw [check_form p _ (by rw [h]; rfl)]; cases hp:p.Purl <;> exact congrArg some (ifc (by simp [okS,h,hp] <;> omega))
 ·rw [check_form p _ (by rw [h]; rfl)]; cases hp:p.Purl <;> exact congrArg some (ifc (by simp [okS,h]; omega))
 ·rw [check_form p _ (by rw [h]; rfl)]; cases hp:p.Purl <;> exact congrArg some (ifc (by simp [okS,h]; omega))
 ·rw [check_form p _ (by rw [h]; rfl)]; cases hp:p.Purl <;> exact congrArg some (ifc (by simp [okS,h]; omega))
 ·rw [check_form p _ (by rw [h]; rfl)]; cases hp:p.Purl <;> exact congrArg some (ifc (by simp [okS,h]; omega))
 ·rw [check_form p _ (by rw [h]; rfl)]; cases hp:p.Purl <;> exact congrArg some (ifc (by simp [okS,h]; omega))
 ·rw [check_form p _ (by rw [h]; rfl)]; cases hp:p.Purl <;> exact congrArg some (ifc (by simp [okS,h]; omega))
 ·rw [check_form p _ (by rw [h]; rfl)]; cases hp:p.Purl <;> exact congrArg some (ifc (by simp [okS,h,hp] <;> omega))
 ·rw [check_form p _ (by rw [h]; rfl)]; cases hp:p.Purl <;> exact congrArg some (ifc (by simp [okS,h]; omega))
 ·obtain ⟨f,hf⟩:=forms_none ⟨h,hk.2⟩
  rw [check_none hf,if_neg (by unfold okS; omega)]
theorem form_ok {p:api_Stitch} (h:okS p):∃ f,F_stitch_forms p.Kind=some (f,true)∧F_stitch_loops p f.uses=some (usedS p)∧F_stitch_loops p f.made=some (madeS p):=by
 have hb:=okS_bd h
 have hw:w64 (p.A + p.B)=p.A + p.B:=w64_of (by omega) (by omega)
 have l0:F_stitch_loops p 0=some 0:=rfl
 have l1:F_stitch_loops p 1=some 1:=rfl
 have l2:F_stitch_loops p 2=some p.A:=rfl
 have l3:F_stitch_loops p 3=some (p.A + p.B):=by rw [← hw]; rfl
 rcases kinds (x:=p.Kind) (by omega) with k | k | k | k | k | k | k | k | k | k | k | k
 ·omega
 ·exact ⟨⟨⟨#[]⟩,(0,0),(0,0),true,1,1⟩,by rw [k]; rfl,by rw [l1]; simp [usedS,k],by rw [l1]; simp [madeS,k]⟩
 ·exact ⟨⟨⟨#[]⟩,(0,0),(0,0),false,0,1⟩,by rw [k]; rfl,by rw [l0]; simp [usedS,k],by rw [l1]; simp [madeS,k]⟩
 ·exact ⟨⟨⟨#[102]⟩,(2,4),(0,0),true,2,1⟩,by rw [k]; rfl,by rw [l2]; simp [usedS,k],by rw [l1]; simp [madeS,k]⟩
 ·exact ⟨⟨⟨#[108]⟩,(2,4),(0,0),true,2,1⟩,by rw [k]; rfl,by rw [l2]; simp [usedS,k],by rw [l1]; simp [madeS,k]⟩
 ·exact ⟨⟨⟨#[109]⟩,(2,4),(0,0),true,1,2⟩,by rw [k]; rfl,by rw [l1]; simp [usedS,k],by rw [l2]; simp [madeS,k]⟩
 ·exact ⟨⟨⟨#[120]⟩,(1,6),(1,6),true,3,3⟩,by rw [k]; rfl,by rw [l3]; simp [usedS,k],by rw [l3]; simp [madeS,k]⟩
 ·exact ⟨⟨⟨#[121]⟩,(1,6),(1,6),true,3,3⟩,by rw [k]; rfl,by rw [l3]; simp [usedS,k],by rw [l3]; simp [madeS,k]⟩
 ·exact ⟨⟨⟨#[115]⟩,(0,0),(0,0),true,1,1⟩,by rw [k]; rfl,by rw [l1]; simp [usedS,k],by rw [l1]; simp [madeS,k]⟩
 ·exact ⟨⟨⟨#[]⟩,(1,200),(0,0),false,0,2⟩,by rw [k]; rfl,by rw [l0]; simp [usedS,k],by rw [l2]; simp [madeS,k]⟩
 ·exact ⟨⟨⟨#[111]⟩,(1,200),(0,0),true,2,0⟩,by rw [k]; rfl,by rw [l2]; simp [usedS,k],by rw [l0]; simp [madeS,k]⟩
 ·omega
def allOk (l:List api_Stitch):Prop:=∀ p,p ∈ l→okS p
instance (l:List api_Stitch):Decidable (allOk l):=by unfold allOk; infer_instance
def wfS (p:api_Stitch):Prop:=0 ≤ p.Kind∧p.Kind ≤ 255
theorem used_bd {l:List api_Stitch} (h:allOk l):0 ≤ sm usedS l∧sm usedS l ≤ 200 * l.length:=sm_bd fun _ hx=>usedS_bd (h _ hx)
theorem made_bd {l:List api_Stitch} (h:allOk l):0 ≤ sm madeS l∧sm madeS l ≤ 200 * l.length:=sm_bd fun _ hx=>madeS_bd (h _ hx)
theorem take_ok {l:List api_Stitch} (h:allOk l) (k:Nat):allOk (l.take k):=fun _ hx=>h _ (List.mem_of_mem_take hx)
theorem sum_step {l:List api_Stitch} (h:allOk l) (hl:l.length ≤ 100000) {k:Nat} (hk:k < l.length) :
 w64 (sm usedS (l.take k) + usedS l[k])=sm usedS (l.take (k + 1))∧w64 (sm madeS (l.take k) + madeS l[k])=sm madeS (l.take (k + 1)):=by
 have h1:=used_bd (take_ok h k)
 have h2:=made_bd (take_ok h k)
 have h3:=usedS_bd (h _ (List.getElem_mem hk))
 have h4:=madeS_bd (h _ (List.getElem_mem hk))
 have hlen:(l.take k).length ≤ 100000:=by rw [List.length_take]; omega
 rw [sm_take _ _ hk,sm_take _ _ hk]
 exact ⟨w64_of (by omega) (by omega),w64_of (by omega) (by omega)⟩
theorem sum_eq {l:List api_Stitch} (h:allOk l) (hl:l.length ≤ 100000):F_stitch_sum l=some (sm usedS l,sm madeS l):=by
 have key:∃ t,whileO (stitch_sum_l1 l) (0,0,0)=some t∧t=(sm usedS l,sm madeS l):=by
  refine loop_at (σ:=Unit) l.length (fun k _=>(sm usedS (l.take k),sm madeS (l.take k),(k:Int))) (fun _ _=>True) _ (s0:=()) trivial ?_ ?_
  ·intro k _ hk _
   refine .inl ⟨(),?_,trivial⟩
   obtain ⟨f,f1,f2,f3⟩:=form_ok (h _ (List.getElem_mem hk))
   have hs:=sum_step h hl hk
   unfold stitch_sum_l1
   simp only [dT (show (k:Int) < (l.length:Int) by omega),if_true,idxO_nat hk,Option.bind_some,f1,f2,f3,hs.1,hs.2,w64_succ (show k < 9223372036854775807 by omega)]
  ·intro _ _
   refine ⟨_,?_,rfl⟩
   unfold stitch_sum_l1
   simp only [dF (show ¬ (l.length:Int) < (l.length:Int) by omega),Bool.false_eq_true,if_false,List.take_length]
 obtain ⟨t,h1,rfl⟩:=key
 unfold F_stitch_sum
 rw [h1]; rfl
def allS (l:List api_Stitch):Int:=if 200 < l.length then 4 else if allOk l then (if 200 < sm usedS l ∨ 200 < sm madeS l then 4 else 0) else 8
theorem getD_of {α:Type} {l:List α} {k:Nat} (d:α) (h:k < l.length):l.getD k d=l[k]:=by simp [h]
theorem find_bad {l:List api_Stitch} (hw:∀ p,p ∈ l→wfS p) (hl:l.length ≤ 100000):∃ j,F_slices_IndexFunc___api_Stitch_api_Stitch__s0 l=some j∧(0 ≤ j ↔ ¬ allOk l):=by
 have key:∃ t,whileO (slices_IndexFunc___api_Stitch_api_Stitch__s0_l1 l) 0=some t∧((t=.inr ()∧allOk l) ∨ (∃ k:Nat,t=.inl (k:Int)∧¬ allOk l)):=by
  refine loop_ix l.length (fun k=>allOk (l.take k)) _ (fun p hp=>by simp at hp) ?_ ?_
  ·intro k hk hI
   have hc:=check_eq l[k] (hw _ (List.getElem_mem hk))
   unfold slices_IndexFunc___api_Stitch_api_Stitch__s0_l1 F_stitch_All_1
   simp only [dT (show (k:Int) < (l.length:Int) by omega),if_true,idxO_nat hk,Option.bind_some,hc,w64_succ (show k < 9223372036854775807 by omega)]
   by_cases ho:okS l[k]
   ·refine .inl ⟨by simp [ho],fun p hp=>?_⟩
    rw [List.take_succ_eq_append_getElem hk,List.mem_append] at hp
    rcases hp with hp | hp
    ·exact hI p hp
    ·simp at hp; subst hp; exact ho
   ·exact .inr ⟨.inl (k:Int),by simp [ho],.inr ⟨k,rfl,fun h=>ho (h _ (List.getElem_mem hk))⟩⟩
  ·intro hI
   refine ⟨.inr (),?_,.inl ⟨rfl,by simpa using hI⟩⟩
   unfold slices_IndexFunc___api_Stitch_api_Stitch__s0_l1
   simp only [dF (show ¬ (l.length:Int) < (l.length:Int) by omega),Bool.false_eq_true,if_false]
 obtain ⟨t,h1,h2⟩:=key
 unfold F_slices_IndexFunc___api_Stitch_api_Stitch__s0
 rw [h1]
 rcases h2 with ⟨rfl,h⟩ | ⟨k,rfl,h⟩
 ·exact ⟨-1,rfl,by simp [h]⟩
 ·exact ⟨(k:Int),rfl,by simp [h]⟩
theorem all_eq {l:List api_Stitch} (hw:∀ p,p ∈ l→wfS p):F_stitch_All l=some (allS l):=by
 unfold F_stitch_All allS
 by_cases hl:200 < l.length
 ·simp only [dT (show (200:Int) < (l.length:Int) by omega),if_true,if_pos hl]
 simp only [dF (show ¬ (200:Int) < (l.length:Int) by omega),Bool.false_eq_true,if_false,if_neg hl]
 obtain ⟨j,h1,h2⟩:=find_bad hw (by omega)
 unfold F_slices_ContainsFunc___api_Stitch_api_Stitch__s0
 rw [h1]
 by_cases ho:allOk l
 ·have:¬ 0 ≤ j:=fun h=>h2.1 h ho
  simp only [Option.bind_some,dF this,Bool.false_eq_true,if_false,sum_eq ho (show l.length ≤ 100000 by omega),if_pos ho]
  by_cases hm:200 < sm usedS l ∨ 200 < sm madeS l
  ·rw [dT (show (200:Int) < if sm usedS l < sm madeS l then sm madeS l else sm usedS l by split <;> omega)]
   simp [hm]
  ·rw [dF (show ¬ (200:Int) < if sm usedS l < sm madeS l then sm madeS l else sm usedS l by split <;> omega)]
   simp [hm]
 ·have:0 ≤ j:=h2.2 ho
  simp only [Option.bind_some,dT this,if_true,if_neg ho]
theorem allS_ok {l:List api_Stitch} (h:allS l=0):l.length ≤ 200∧allOk l∧sm usedS l ≤ 200∧sm madeS l ≤ 200:=by
 unfold allS at h
 split at h
 ·omega
 ·split at h
  ·rename_i h1 h2
   split at h
   ·omega
   ·rename_i h3
    exact ⟨by omega,h2,by omega,by omega⟩
  ·omega
def fin3 {σ τ:Type} (z0:(σ ⊕ τ) ⊕ σ):Option (σ ⊕ τ):=match z0 with
 | .inl z=>some z
 | .inr g=>some (.inl g)
noncomputable def F_slope_within (p0:Int) (p1:Int) (p2:Int):Option Bool:=
 Option.bind (α:=Bool) (
  if decide (p1 ≤ p0) then
   some (decide (p0 ≤ p2))
  else
   some false) fun o2=>
 some o2
theorem c_slope_within (E:Nat→Prop) (w0:World) (p0:Int) (p1:Int) (p2:Int) (r:Bool) (h:F_slope_within p0 p1 p2=some r) (S:St0 E [] w0 w0 [] []) :
 Calls Try.prog 53 #[iv p0,iv p1,iv p2] w0 (Ret (X:=Unit) E [] w0 (fun _=>.bool r) (fun _=>[]) (fun _=>[])):=by
 unfold F_slope_within at h
 refine sEnter (args:=[iv p0,iv p1,iv p2]) 15 Try.func53 d d (by simp) S (fun a S=>?_)
 refine sSeq (fun K1 aa=>sRegion (sN S fun a S=>?_))
 refine lT (aa _ _ ?_)
 obtain ⟨t3,h,g4⟩:=bS h
 refine sCut (fun a w=>∃ o2,o2=t3∧St [] E [] w0 15 a w [(6,.bool o2)] [] []) ?_ (fun a w hI=>?_)
 rotate_left
 ·obtain ⟨o2,rfl,S⟩:=hI
  have h:=g4
  try dsimp only at h
  obtain rfl:=tS h
  exact wp_ret (sRet (.bool o2) S (rsl1 d (rvT (t:=6) (v:=.bool o2) S d)) ⟨(),d,S.mem.sel [] [] (by decide) d d⟩)
 refine sRegion (sM S fun a S=>?_)
 refine sM S fun a S=>?_
 refine sBin _ S (wN d) d d d (bGe _ _ _ _ .i64 p0 p1) d (lb d) fun a S=>sM S fun a S=>?_
 rcases iS h with ⟨a9,h⟩ | ⟨a9,h⟩
 rotate_left
 ·refine sSkN 3 3 true 10 S d d a9 d fun a S=>sPickF (.bool false) S (wN d) d d a9 d d (lb d) fun a S=>sN S fun a S=>?_
  exact lT (⟨false,Option.some.inj h,S.fix [] [] (by decide) d d d⟩)
 refine sMove (iv p0) S (wG 3 true 10 d d d a9) (.inl d) d d (lb d) fun a S=>sMove (iv p2) S (wG 3 true 10 d d d a9) (.inl d) d d (lb d) fun a S=>sBin _ S (wG 3 true 10 d d d a9) d d d (bLe _ _ _ _ .i64 p0 p2) d (lb d) fun a S=>sPickT (.bool (decide (p0 ≤ p2))) S (wN d) d d a9 d d (lb d) fun a S=>sN S fun a S=>?_
 exact lT (⟨decide (p0 ≤ p2),Option.some.inj h,S.fix [] [] (by decide) d d d⟩)
noncomputable def F_slope_check (p0:Int) (p1:Int) (p2:Int):Option Int:=
 Option.bind (α:=Bool) (
  (F_slope_within p0 (-1000) 1000).bind fun r6=>
  if !r6 then
   some true
  else
   (F_slope_within p1 (-1000) 1000).bind fun r9=>
   if !r9 then
    some true
   else
    (F_slope_within p2 1 1000).bind fun a9=>
    some (!a9)) fun o3=>
 if o3 then
  some 2
 else
  some 0
theorem c_slope_check (E:Nat→Prop) (w0:World) (p0:Int) (p1:Int) (p2:Int) (r:Int) (h:F_slope_check p0 p1 p2=some r) (S:St0 E [] w0 w0 [] []) :
 Calls Try.prog 49 #[iv p0,iv p1,iv p2] w0 (Ret (X:=Unit) E [] w0 (fun _=>.int .i64 r) (fun _=>[]) (fun _=>[])):=by
 unfold F_slope_check at h
 refine sEnter (args:=[iv p0,iv p1,iv p2]) 20 Try.func49 d d (by simp) S (fun a S=>?_)
 refine sSeq (fun K1 ai=>sRegion (sN S fun a S=>?_))
 refine lT (ai _ _ (sSeq (fun K2 aj=>?_)))
 obtain ⟨t4,h,g5⟩:=bS h
 refine sCut (fun a w=>∃ o3,o3=t4∧St [] E [] w0 20 a w [(19,.bool o3)] [] []) ?_ (fun a w hI=>?_)
 rotate_left
 ·obtain ⟨o3,rfl,S⟩:=hI
  have h:=g5
  try dsimp only at h
  rcases iS h with ⟨aa,h⟩ | ⟨aa,h⟩
  ·refine sCondT S d aa (sSeq (fun al ae=>sRegion (sN S fun a S=>?_)))
   refine lT (ae _ _ ?_)
   obtain rfl:=tS h
   exact wp_ret (rThen (sRet (iv 2) S (rsl1 d (rvT (t:=6) (v:=iv 2) S d)) ⟨(),d,S.mem.sel [] [] (by decide) d d⟩))
  refine sCondF S d aa (wp_skip (leafT (aj _ _ ?_)))
  refine sSeq (fun am af=>sRegion (sN S fun a S=>?_))
  refine lT (af _ _ ?_)
  obtain rfl:=tS h
  exact wp_ret (sRet (iv 0) S (rsl1 d (rvT (t:=6) (v:=iv 0) S d)) ⟨(),d,S.mem.sel [] [] (by decide) d d⟩)
 refine sRegion (sM S fun a S=>?_)
 obtain ⟨r6,ak,h⟩:=bS h
 have S1:=S.mem
 refine sCq [iv p0,iv (-1000),iv 1000] (.bool r6) S callee53 (S1.quiet [] d) (fun E1 w1 S1=>c_slope_within E1 w1 p0 (-1000) 1000 r6 ak S1) fun a w S=>?_
 refine sNot (b:=r6) S (wN d) d d d (lb d) fun a S=>sM S fun a S=>?_
 rcases iS h with ⟨ab,h⟩ | ⟨ab,h⟩
 ·refine sSkN 3 3 false 10 S d d ab d fun a S=>sPickT (.bool true) S (wN d) d d ab d d (lb d) fun a S=>sM S fun a S=>?_
  refine sSkN 3 8 false 15 S d d d d fun a S=>sPickT (.bool true) S (wN d) d d d d d (lb d) fun a S=>?_
  exact lT (⟨true,Option.some.inj h,S.fix [] [] (by decide) d d d⟩)
 refine sMove (iv p1) S (wG 3 false 10 d d d ab) (.inl d) d d (lb d) fun a S=>?_
 obtain ⟨r9,ag,h⟩:=bS h
 have S1:=S.mem
 refine sCallQ (X:=Unit) (f:=53) (vs:=[iv p1,iv (-1000),iv 1000]) (val:=fun _=>.bool r9) S (wG 3 false 10 d d d ab) d callee53 d (S1.quiet [] d) (fun E1 w1 S1=>c_slope_within E1 w1 p1 (-1000) 1000 r9 ag S1) d (lb d) fun _ a w S=>?_
 refine sNot (b:=r9) S (wG 3 false 10 d d d ab) d d d (lb d) fun a S=>sPickF (.bool (!r9)) S (wN d) d d ab d d (lb d) fun a S=>sM S fun a S=>?_
 rcases iS h with ⟨a9,h⟩ | ⟨a9,h⟩
 ·refine sSkN 3 8 false 15 S d d a9 d fun a S=>sPickT (.bool true) S (wN d) d d a9 d d (lb d) fun a S=>?_
  exact lT (⟨true,Option.some.inj h,S.fix [] [] (by decide) d d d⟩)
 refine sMove (iv p2) S (wG 8 false 15 d d d a9) (.inl d) d d (lb d) fun a S=>?_
 obtain ⟨ac,ah,h⟩:=bS h
 have S1:=S.mem
 refine sCallQ (X:=Unit) (f:=53) (vs:=[iv p2,iv 1,iv 1000]) (val:=fun _=>.bool ac) S (wG 8 false 15 d d d a9) d callee53 d (S1.quiet [] d) (fun E1 w1 S1=>c_slope_within E1 w1 p2 1 1000 ac ah S1) d (lb d) fun _ a w S=>?_
 refine sNot (b:=ac) S (wG 8 false 15 d d d a9) d d d (lb d) fun a S=>sPickF (.bool (!ac)) S (wN d) d d a9 d d (lb d) fun a S=>?_
 exact lT (⟨!ac,Option.some.inj h,S.fix [] [] (by decide) d d d⟩)
noncomputable def F_slope_at (p0:Int) (p1:Int) (p2:Int) (p3:Int):Option Int:=
 (quoI (w64 ((w64 (2 * (w64 ((w64 ((w64 (p0 + 1000)) * (w64 (p2 - p3)))) + (w64 ((w64 (p1 + 1000)) * p3)))))) + p2)) (w64 (2 * p2))).bind fun z4=>
 some (w64 (z4 - 1000))
theorem c_slope_at (E:Nat→Prop) (w0:World) (p0:Int) (p1:Int) (p2:Int) (p3:Int) (r:Int) (h:F_slope_at p0 p1 p2 p3=some r) (S:St0 E [] w0 w0 [] []) :
 Calls Try.prog 52 #[iv p0,iv p1,iv p2,iv p3] w0 (Ret (X:=Unit) E [] w0 (fun _=>.int .i64 r) (fun _=>[]) (fun _=>[])):=by
 unfold F_slope_at at h
 refine sEnter (args:=[iv p0,iv p1,iv p2,iv p3]) 31 Try.func52 d d (by simp) S (fun a S=>?_)
 refine sSeq (fun K1 a9=>sRegion (sN S fun a S=>?_))
 refine lT (a9 _ _ (sSeq (fun K2 aa=>sRegion (sM S fun a S=>?_))))
 refine sBin _ S (wN d) d d d (bAdd _ _ _ _ p0 1000) d (lb d) fun a S=>sM S fun a S=>?_
 refine sBin _ S (wN d) d d d (bAdd _ _ _ _ p1 1000) d (lb d) fun a S=>sN S fun a S=>?_
 refine sN S fun a S=>?_
 refine lT (aa _ _ (sSeq (fun K3 ab=>sRegion (sM S fun a S=>?_))))
 refine sM S fun a S=>?_
 refine sM S fun a S=>?_
 refine sBin _ S (wN d) d d d (bSub _ _ _ _ p2 p3) d (lb d) fun a S=>sBin _ S (wN d) d d d (bMul _ _ _ _ (w64 (p0 + 1000)) (w64 (p2 - p3))) d (lb d) fun a S=>sM S fun a S=>?_
 refine sM S fun a S=>?_
 refine sBin _ S (wN d) d d d (bMul _ _ _ _ (w64 (p1 + 1000)) p3) d (lb d) fun a S=>sBin _ S (wN d) d d d (bAdd _ _ _ _ (w64 ((w64 (p0 + 1000)) * (w64 (p2 - p3)))) (w64 ((w64 (p1 + 1000)) * p3))) d (lb d) fun a S=>sBin _ S (wN d) d d d (bMul _ _ _ _ 2 (w64 ((w64 ((w64 (p0 + 1000)) * (w64 (p2 - p3)))) + (w64 ((w64 (p1 + 1000)) * p3))))) d (lb d) fun a S=>sM S fun a S=>?_
 refine sBin _ S (wN d) d d d (bAdd _ _ _ _ (w64 (2 * (w64 ((w64 ((w64 (p0 + 1000)) * (w64 (p2 - p3)))) + (w64 ((w64 (p1 + 1000)) * p3)))))) p2) d (lb d) fun a S=>sM S fun a S=>?_
 refine sBin _ S (wN d) d d d (bMul _ _ _ _ 2 p2) d (lb d) fun a S=>?_
 obtain ⟨z4,ac,h⟩:=bS h
 refine sBin _ S (wN d) d d d (bQuo _ _ _ _ (x:=w64 ((w64 (2 * (w64 ((w64 ((w64 (p0 + 1000)) * (w64 (p2 - p3)))) + (w64 ((w64 (p1 + 1000)) * p3)))))) + p2)) (y:=w64 (2 * p2)) ac) d (lb d) fun a S=>sBin _ S (wN d) d d d (bSub _ _ _ _ z4 1000) d (lb d) fun a S=>sN S fun a S=>?_
 refine lT (ab _ _ ?_)
 obtain rfl:=tS h
 exact wp_ret (sRet (iv (w64 (z4 - 1000))) S (rsl1 d (rvT (t:=8) (v:=iv (w64 (z4 - 1000))) S d)) ⟨(),d,S.mem.sel [] [] (by decide) d d⟩)
noncomputable def F_slope_Line_1_s0 (p0:Int) (p1:Int) (p2:Int) (p3:Int):Option Int:=
 (F_slope_at p1 p2 p3 p0).bind fun r6=>
 some r6
theorem c_slope_Line_1_s0 (E:Nat→Prop) (w0:World) (p0:Int) (p1:Int) (v1:Value) (p2:Int) (v2:Value) (p3:Int) (v3:Value) (r:Int) (h:F_slope_Line_1_s0 p0 p1 p2 p3=some r) (S:St0 E [] w0 w0 [] [fPtr (rI .i64) (v1) p1,fPtr (rI .i64) (v2) p2,fPtr (rI .i64) (v3) p3]) :
 Calls Try.prog 51 #[iv p0,v1,v2,v3] w0 (Ret (X:=Unit) E [] w0 (fun _=>.int .i64 r) (fun _=>[]) (fun _=>[])):=by
 unfold F_slope_Line_1_s0 at h
 refine sEnter (args:=[iv p0,v1,v2,v3]) 11 Try.func51 d d (by simp) S (fun a S=>?_)
 refine sSeq (fun K1 a9=>sRegion (sN S fun a S=>?_))
 refine lT (a9 _ _ (sSeq (fun K2 aa=>sRegion ?_)))
 obtain ⟨u3,S⟩:=pLoad (r:=(rI .i64)) (q:=v1) (x:=p1) 0 S d
 obtain rfl:u3=iv p1:=S.mem.know (i:=1) (e:=fRep (rI .i64) (u3) p1) d
 refine sLoadV1 (vq:=v1) 0 (iv p1) S (wN d) d d d d d (lb d) fun a S=>?_
 obtain ⟨u4,S⟩:=pLoad (r:=(rI .i64)) (q:=v2) (x:=p2) 3 S d
 obtain rfl:u4=iv p2:=S.mem.know (i:=1) (e:=fRep (rI .i64) (u4) p2) d
 refine sLoadV1 (vq:=v2) 0 (iv p2) S (wN d) d d d d d (lb d) fun a S=>?_
 obtain ⟨u5,S⟩:=pLoad (r:=(rI .i64)) (q:=v3) (x:=p3) 6 S d
 obtain rfl:u5=iv p3:=S.mem.know (i:=1) (e:=fRep (rI .i64) (u5) p3) d
 refine sLoadV1 (vq:=v3) 0 (iv p3) S (wN d) d d d d d (lb d) fun a S=>sM S fun a S=>?_
 obtain ⟨r6,ab,h⟩:=bS h
 have S1:=S.mem
 refine sCq [iv p1,iv p2,iv p3,iv p0] (iv r6) S callee52 (S1.quiet [] d) (fun E1 w1 S1=>c_slope_at E1 w1 p1 p2 p3 p0 r6 ab S1) fun a w S=>?_
 refine sN S fun a S=>?_
 refine lT (aa _ _ ?_)
 obtain rfl:=tS h
 exact wp_ret (sRet (iv r6) S (rsl1 d (rvT (t:=5) (v:=iv r6) S d)) ⟨(),d,S.mem.sel [] [] (by decide) d d⟩)
noncomputable def slope_list_int__s0_l1 (p0:Int) (p1:Int) (p2:Int) (p3:Int):(List Int × Int)→Option ((List Int × Int) ⊕ List Int):=fun s0=>match s0 with
 | (aa,a9)=>
  if decide (a9 < p0) then
   (F_slope_Line_1_s0 a9 p1 p2 p3).bind fun ab=>
   (idxO aa a9).bind fun ae=>
   (setO aa a9 ab).bind fun ac=>
   some (.inl (ac,w64 (a9 + 1)))
  else
   some (.inr aa)
noncomputable def F_slope_list_int__s0 (p0:Int) (p1:Int) (p2:Int) (p3:Int):Option (List Int):=
 (makeO p0 (0:Int)).bind fun m5=>
 Option.bind (α:=List Int) (
  (whileO (slope_list_int__s0_l1 p0 p1 p2 p3) (m5,0)).bind fun a9=>
   some a9) fun o7=>
 some o7
def c_slope_list_int__s0_val (r:(List Int)) (x:Value):Value:=x
def c_slope_list_int__s0_D (r:(List Int)) (x:Value):List Fact:=[fRep (rL (rI .i64)) x r]
theorem c_slope_list_int__s0 (E:Nat→Prop) (w0:World) (p0:Int) (p1:Int) (v1:Value) (p2:Int) (v2:Value) (p3:Int) (v3:Value) (r:(List Int)) (h:F_slope_list_int__s0 p0 p1 p2 p3=some r) (S:St0 E [] w0 w0 [] [fPtr (rI .i64) (v1) p1,fPtr (rI .i64) (v2) p2,fPtr (rI .i64) (v3) p3]) :
 Calls Try.prog 50 #[iv p0,.func (.func 51) #[] #[v1,v2,v3]] w0 (Ret (X:=Value) E [] w0 (c_slope_list_int__s0_val r) (fun _=>[]) (c_slope_list_int__s0_D r)):=by
 unfold F_slope_list_int__s0 at h
 refine sEnter (args:=[iv p0,.func (.func 51) #[] #[v1,v2,v3]]) 21 Try.func50 d d (by simp) S (fun a S=>?_)
 refine sSeq (fun K1 aw=>sRegion (sN S fun a S=>?_))
 refine lT (aw _ _ (sSeq (fun K2 ax=>sRegion (sM S fun a S=>?_))))
 obtain ⟨m5,ay,h⟩:=bS h
 refine sMake (r:=(rI .i64)) (m:=p0) (xs:=m5) (iv 0) (0:Int) 8 S (wN d) d Try.underlying34 d d (by decide) (fun _ _=>d) d d ay d (lb d) fun a w a9 aa S=>sN S fun a S=>?_
 refine lT (ax _ _ ?_)
 obtain ⟨t8,h,g9⟩:=bS h
 refine sCut (fun a w=>∃ o7,o7=t8∧St [] E [] w0 21 a w [(5,.slice a9 o7.length aa)] [eRow (rI .i64) 3 (.slice a9 o7.length aa) o7] []) ?_ (fun a w hI=>?_)
 rotate_left
 ·obtain ⟨o7,rfl,S⟩:=hI
  have h:=g9
  try dsimp only at h
  refine sSeq (fun aC ah=>sRegion (sM S fun a S=>?_))
  refine sN S fun a S=>?_
  refine lT (ah _ _ ?_)
  obtain rfl:=tS h
  have S:=S.shutR (r:=(rI .i64)) (T:=3) (v:=.slice a9 o7.length aa) (xs:=o7) 0 d
  exact wp_ret (sRet (.slice a9 o7.length aa) S (rsl1 d (rvT (t:=4) (v:=.slice a9 o7.length aa) S d)) ⟨(.slice a9 o7.length aa),d,S.mem.sel [] [0] (by decide) d d⟩)
 refine sSeq (fun aG ai=>sRegion (sM S fun a S=>?_))
 refine sM S fun a S=>?_
 refine lT (ai _ _ (wp_block ?_))
 obtain ⟨aH,hl,az⟩:=bS h
 refine sLoop hl (fun s0 a w=>match s0 with | (ab,ac)=>St [] E [] w0 21 a w [(1,.func (.func 51) #[] #[v1,v2,v3]),(5,.slice a9 ab.length aa),(9,iv p0),(10,iv ac)] [eRow (rI .i64) 3 (.slice a9 ab.length aa) ab] [fPtr (rI .i64) (v1) p1,fPtr (rI .i64) (v2) p2,fPtr (rI .i64) (v3) p3]) (S.fix [0] [0,1,2] (by decide) d d d) ?_
 clear hl h
 intro s0 a w c0 hI h aj
 obtain ⟨ab,ac⟩:=s0
 unfold slope_list_int__s0_l1 at h
 dsimp only at h hI
 have S:=hI
 refine sSeq (fun aI ak=>sRegion (sBin _ S (wN d) d d d (bLt _ _ _ _ .i64 ac p0) d (lb d) fun a S=>lT (ak _ _ (sSeq (fun aJ al=>?_)))))
 rcases iS h with ⟨ae,h⟩ | ⟨ae,h⟩
 rotate_left
 ·refine sCondF S d ae ?_
  obtain rfl:=tS h
  obtain rfl:=aj _ d
  have h:=az
  try dsimp only at h
  exact wp_exit (xThen (xThen (xHit (leafT (⟨ab,Option.some.inj h,S.fix [0] [] (by decide) d d d⟩)))))
 refine sCondT S d ae (wp_skip (leafT (al _ _ ?_)))
 refine sSeq (fun aK am=>wp_block ?_)
 refine sSeq (fun aL ao=>sRegion (sM S fun a S=>?_))
 refine sN S fun a S=>?_
 refine lT (ao _ _ (sRegion (sM S fun a S=>?_)))
 refine sM S fun a S=>?_
 refine sM S fun a S=>?_
 refine sM S fun a S=>?_
 obtain ⟨ag,ap,h⟩:=bS h
 have S1:=S.mem
 refine sCallVQ (X:=Unit) (g:=51) (vs:=[iv ac]) (caps:=[v1,v2,v3]) (val:=fun _=>iv ag) S (wN d) d d callee51 d (S1.quiet [0,1,2] d) (fun E1 w1 S1=>c_slope_Line_1_s0 E1 w1 ac p1 v1 p2 v2 p3 v3 ag ap S1) d (lb d) fun _ a w S=>?_
 obtain ⟨aM,aq,h⟩:=bS h
 obtain ⟨aA,ar,au⟩:=pIdxR (P:=Try.prog) (r:=(rI .i64)) (T:=3) (v:=.slice a9 ab.length aa) (xs:=ab) (j:=ac) 34 3 0 S Try.underlying34 d d aq
 refine sIdxV S (wN d) d d d ar d (lb d) fun a S=>?_
 obtain ⟨av,af,h⟩:=bS h
 refine sStoreR (r:=(rI .i64)) (T:=3) (xs:=ab) (ys:=av) (y:=ag) (v:=.slice a9 ab.length aa) (vq:=aA) (u:=iv ag) (j:=ac) 0 S au (wN d) d d d d d af d d fun a w S=>?_
 rw [setO_v af a9 aa] at S
 refine leafL (leafB (leafT (am _ _ ?_)))
 refine sRegion (sBin _ S (wN d) d d d (bAdd _ _ _ _ ac 1) d (lb d) fun a S=>sM S fun a S=>?_)
 exact lT (⟨(av,w64 (ac + 1)),(Option.some.inj h).symm,(S.fix [0] [0,1,2] (by decide) d d d)⟩)
end Go.Proofs.Ytnfjcalmangncaa
