/- CompareNames: walks, tables, laws. -/
import Derived.Test.YtffikfajljbmnaaProg
import Derived.Test.YtffikfajljbmnaaRows
import Derived.Test.YtffikfajljbmnaaMCompareNames5
set_option linter.unusedVariables false
set_option linter.unusedSimpArgs false
set_option maxHeartbeats 4000000
set_option maxRecDepth 100000
namespace Go.Proofs.Ytffikfajljbmnaa
open Go.RowKit
def K_raddleref01_Parse_l1 (p0:ByteArray):Int→Option (Int ⊕ Int):=fun s0=>match s0 with
 | s7=>
  Option.bind (α:=Bool) (
   if decide (s7 < (p0.size:Int)) then
    Option.bind (idxS p0 s7) fun x17=>
    some (x17 != 10)
   else
    some false) fun o13=>
  if o13 then
   some (.inl (w64 (s7 + 1)))
  else
   some (.inr s7)
def K_raddleref01_Zero_s0 (p0:Int) (p1:Int):Option api_Grid:=
 Option.bind (makeO (w64 (p0 * p1)) false) fun m6=>
 some (api_Grid.mk p0 p1 m6)
def K_raddleref01_Set_s0 (p0:Int) (p1:Int) (p2:(List Bool)) (p3:Int) (p4:Int) (p5:Bool):Option (List Bool):=
 Option.bind (idxO p2 (w64 ((w64 (p4 * p0)) + p3))) fun x3=>
 Option.bind (setO p2 (w64 ((w64 (p4 * p0)) + p3)) p5) fun l8=>
 (keepO p2 l8).bind fun _=>
 some l8
def K_raddleref01_Parse_l2 (p0:ByteArray) (o4:Int) (r36:api_Grid):(Int × List Bool)→Option ((Int × List Bool) ⊕ ((api_Grid × Int) ⊕ (List Bool))):=fun s0=>match s0 with
 | (s45,s46)=>
  if decide (s45 < (p0.size:Int)) then
   Option.bind (α:=List Bool ⊕ (api_Grid × Int)) (
    Option.bind (remI s45 (w64 (o4 + 1))) fun z58=>
    Option.bind (quoI s45 (w64 (o4 + 1))) fun z60=>
    Option.bind (α:=Bool) (
     Option.bind (idxS p0 s45) fun x66=>
     if (x66 == 10) != (z58 == o4) then
      some true
     else
      if x66 != 10 then
       if x66 != 120 then
        some (x66 != 46)
       else
        some false
      else
       some false) fun o63=>
    if o63 then
     some (.inr ((api_Grid.mk 0 0 ([]:(List Bool))),12))
    else
     Option.bind (idxS p0 s45) fun x74=>
     if x74 == 120 then
      Option.bind (K_raddleref01_Set_s0 r36.W r36.H s46 z58 (w64 ((w64 (r36.H - 1)) - z60)) true) fun r77=>
      some (.inl r77)
     else
      some (.inl s46)) fun z0=>match z0 with
    | .inl o54=>
     some (.inl (w64 (s45 + 1),o54))
    | .inr z=>
     some (.inr (.inl z))
  else
   some (.inr (.inr s46))
def K_raddleref01_Parse (p0:ByteArray):Option (api_Grid × Int):=
 Option.bind (α:=Int) (
  Option.bind (whileK (K_raddleref01_Parse_l1 p0) 0) fun e11=>
   some e11) fun o4=>
 Option.bind (α:=Bool) (
  if decide (o4 < 1) then
   some true
  else
   if decide (64 < o4) then
    some true
   else
    Option.bind (remI (p0.size:Int) (w64 (o4 + 1))) fun z26=>
    if z26 != 0 then
     some true
    else
     Option.bind (quoI (p0.size:Int) (w64 (o4 + 1))) fun z29=>
     some (decide (64 < z29))) fun o21=>
 if o21 then
  some ((api_Grid.mk 0 0 ([]:(List Bool))),12)
 else
  Option.bind (quoI (p0.size:Int) (w64 (o4 + 1))) fun z34=>
  Option.bind (K_raddleref01_Zero_s0 o4 z34) fun r36=>
  Option.bind (α:=List Bool ⊕ (api_Grid × Int)) (
   Option.bind (whileK (K_raddleref01_Parse_l2 p0 o4 r36) (0,r36.Bits)) fun z0=>match z0 with
    | .inl z=>
     some (.inr z)
    | .inr e50=>
     some (.inl e50)) fun z0=>match z0 with
   | .inl o41=>
    some ((api_Grid.mk r36.W r36.H o41),0)
   | .inr z=>
    some z
def K_raddlelaw46_cloth (p0:ByteArray):Option api_Grid:=
 Option.bind (K_raddleref01_Parse p0) fun r4=>
 some r4.1
def K_grid_Check (p0:api_Grid):Option Int:=
 if decide (64 < (if p0.W < p0.H then p0.H else p0.W)) then
  some 4
 else
  Option.bind (α:=Bool) (
   if decide ((if p0.H < p0.W then p0.H else p0.W) < 1) then
    some true
   else
    some ((p0.Bits.length:Int) != (w64 (p0.W * p0.H)))) fun o11=>
  if o11 then
   some 8
  else
   some 0
def K_compare_differ_l1 (p0:(List Bool)) (p1:(List Bool)):(Int × Int)→Option ((Int × Int) ⊕ Int):=fun s0=>match s0 with
 | (s11,s12)=>
  if decide (s12 < (p0.length:Int)) then
   Option.bind (α:=Int) (
    Option.bind (idxO p0 s12) fun x24=>
    Option.bind (idxO p1 s12) fun x30=>
    if x24 != x30 then
     some (w64 (s11 + 1))
    else
     some s11) fun o20=>
   some (.inl (o20,w64 (s12 + 1)))
  else
   some (.inr s11)
def K_compare_differ (p0:(List Bool)) (p1:(List Bool)):Option Int:=
 Option.bind (α:=Int) (
  Option.bind (whileK (K_compare_differ_l1 p0 p1) (0,0)) fun e16=>
   some e16) fun o7=>
 some o7
def K_compare_Cells (p0:api_Grid) (p1:api_Grid):Option (Int × Int):=
 Option.bind (K_grid_Check p0) fun r14=>
 if r14 != 0 then
  some (0,r14)
 else
  Option.bind (K_grid_Check p1) fun r21=>
  if r21 != 0 then
   some (0,r21)
  else
   Option.bind (α:=Bool) (
    if p0.W != p1.W then
     some true
    else
     some (p0.H != p1.H)) fun o27=>
   if o27 then
    some (0,2)
   else
    Option.bind (K_compare_differ p0.Bits p1.Bits) fun r34=>
    some (r34,0)
def K_compare_ways (p0:api_Grid) (p1:Int):Option (Int × api_Grid):=
 some (p1,p0)
def K_symmetry_check_l1 (p0:(List api_Grid)):Int→Option (Int ⊕ (Int ⊕ Unit)):=fun s0=>match s0 with
 | s7=>
  if decide (s7 < (p0.length:Int)) then
   Option.bind (idxO p0 s7) fun x16=>
   Option.bind (K_grid_Check x16) fun r27=>
   if r27 != 0 then
    some (.inr (.inl r27))
   else
    some (.inl (w64 (s7 + 1)))
  else
   some (.inr (.inr ()))
def K_symmetry_check_l2 (p0:(List api_Grid)):Int→Option (Int ⊕ (Int ⊕ Unit)):=fun s0=>match s0 with
 | s35=>
  if decide (s35 < (p0.length:Int)) then
   Option.bind (idxO p0 s35) fun x44=>
   if decide (16 < (if x44.W < x44.H then x44.H else x44.W)) then
    some (.inr (.inl 4))
   else
    some (.inl (w64 (s35 + 1)))
  else
   some (.inr (.inr ()))
def K_symmetry_check (p0:(List api_Grid)):Option Int:=
 Option.bind (α:=Unit ⊕ Int) (
  Option.bind (whileK (K_symmetry_check_l1 p0) 0) fun z0=>match z0 with
   | .inl z=>
    some (.inr z)
   | .inr _=>
    some (.inl ())) fun z0=>match z0 with
  | .inl _=>
   Option.bind (α:=Unit ⊕ Int) (
    Option.bind (whileK (K_symmetry_check_l2 p0) 0) fun z0=>match z0 with
     | .inl z=>
      some (.inr z)
     | .inr _=>
      some (.inl ())) fun z0=>match z0 with
    | .inl _=>
     some 0
    | .inr z=>
     some z
  | .inr z=>
   some z
def K_symmetry_is (p0:Int):Option Bool:=
 Option.bind (α:=Bool) (
  if decide (0 ≤ p0) then
   some (decide (p0 < 16))
  else
   some false) fun o2=>
 some o2
def K_symmetry_applied_l1 (o9:Int) (p1:Int) (s23:Int) (p0:api_Grid):(Int × List Bool)→Option ((Int × List Bool) ⊕ List Bool):=fun s0=>match s0 with
 | (s43,s44)=>
  if decide (s43 < o9) then
   Option.bind (α:=(Int × Int)) (
    if (andI .i64 p1 4) != 0 then
     some (s23,s43)
    else
     some (s43,s23)) fun (o59,o60)=>
   Option.bind (α:=Int) (
    if (andI .i64 p1 1) != 0 then
     some (w64 ((w64 (p0.W - 1)) - o59))
    else
     some o59) fun o65=>
   Option.bind (α:=Int) (
    if (andI .i64 p1 2) != 0 then
     some (w64 ((w64 (p0.H - 1)) - o60))
    else
     some o60) fun o70=>
   Option.bind (idxO p0.Bits (w64 ((w64 (o70 * p0.W)) + o65))) fun x75=>
   Option.bind (appO s44 [x75 != ((andI .i64 p1 8) != 0)]) fun l82=>
   some (.inl (w64 (s43 + 1),l82))
  else
   some (.inr s44)
def K_symmetry_applied_l2 (o10:Int) (o9:Int) (p1:Int) (p0:api_Grid):(Int × List Bool)→Option ((Int × List Bool) ⊕ List Bool):=fun s0=>match s0 with
 | (s23,s24)=>
  if decide (s23 < o10) then
   Option.bind (α:=List Bool) (
    Option.bind (whileK (K_symmetry_applied_l1 o9 p1 s23 p0) (0,s24)) fun e50=>
     some e50) fun o36=>
   some (.inl (w64 (s23 + 1),o36))
  else
   some (.inr s24)
def K_symmetry_applied (p0:api_Grid) (p1:Int):Option api_Grid:=
 Option.bind (α:=(Int × Int)) (
  if (andI .i64 p1 4) != 0 then
   some (p0.H,p0.W)
  else
   some (p0.W,p0.H)) fun (o9,o10)=>
 Option.bind (α:=List Bool) (
  Option.bind (whileK (K_symmetry_applied_l2 o10 o9 p1 p0) (0,([]:List Bool))) fun e30=>
   some e30) fun o17=>
 some (api_Grid.mk o9 o10 o17)
def K_symmetry_Apply (p0:api_Grid) (p1:Int):Option (api_Grid × Int):=
 Option.bind (K_symmetry_check [p0]) fun r12=>
 if r12 != 0 then
  some ((api_Grid.mk 0 0 ([]:(List Bool))),r12)
 else
  Option.bind (K_symmetry_is p1) fun r19=>
  if !r19 then
   some ((api_Grid.mk 0 0 ([]:(List Bool))),2)
  else
   Option.bind (K_symmetry_applied p0 p1) fun r24=>
   some (r24,0)
def K_grid_around (p0:Int) (p1:Int):Option Int:=
 Option.bind (α:=Int) (
  Option.bind (remI p0 p1) fun z6=>
  if decide (z6 < 0) then
   some (w64 (z6 + p1))
  else
   some z6) fun o2=>
 some o2
def K_grid_Shift_1_s0 (p0:Int) (p1:Int) (p2:api_Grid) (p3:Int) (p4:Int):Option Bool:=
 Option.bind (K_grid_around (w64 (p1 - p3)) p2.H) fun r12=>
 Option.bind (K_grid_around (w64 (p0 - p4)) p2.W) fun r21=>
 Option.bind (idxO p2.Bits (w64 ((w64 (r12 * p2.W)) + r21))) fun x23=>
 some x23
def K_grid_build_s0_l1 (p0:Int) (s15:Int) (p2:api_Grid) (p3:Int) (p4:Int):(Int × List Bool)→Option ((Int × List Bool) ⊕ List Bool):=fun s0=>match s0 with
 | (s35,s36)=>
  if decide (s35 < p0) then
   Option.bind (K_grid_Shift_1_s0 s35 s15 p2 p3 p4) fun r50=>
   Option.bind (appO s36 [r50]) fun l54=>
   some (.inl (w64 (s35 + 1),l54))
  else
   some (.inr s36)
def K_grid_build_s0_l2 (p1:Int) (p0:Int) (p2:api_Grid) (p3:Int) (p4:Int):(Int × List Bool)→Option ((Int × List Bool) ⊕ List Bool):=fun s0=>match s0 with
 | (s15,s16)=>
  if decide (s15 < p1) then
   Option.bind (α:=List Bool) (
    Option.bind (whileK (K_grid_build_s0_l1 p0 s15 p2 p3 p4) (0,s16)) fun e42=>
     some e42) fun o28=>
   some (.inl (w64 (s15 + 1),o28))
  else
   some (.inr s16)
def K_grid_build_s0 (p0:Int) (p1:Int) (p2:api_Grid) (p3:Int) (p4:Int):Option api_Grid:=
 Option.bind (capO (w64 (p0 * p1))) fun z6=>
 Option.bind (α:=List Bool) (
  Option.bind (whileK (K_grid_build_s0_l2 p1 p0 p2 p3 p4) (0,([]:List Bool))) fun e22=>
   some e22) fun o9=>
 some (api_Grid.mk p0 p1 o9)
def K_grid_Shift (p0:api_Grid) (p1:Int) (p2:Int):Option (api_Grid × Int):=
 Option.bind (K_grid_Check p0) fun r12=>
 if r12 != 0 then
  some ((api_Grid.mk 0 0 ([]:(List Bool))),r12)
 else
  Option.bind (K_grid_around p1 p0.W) fun r18=>
  Option.bind (K_grid_around p2 p0.H) fun r20=>
  Option.bind (K_grid_build_s0 p0.W p0.H p0 r20 r18) fun r23=>
  some (r23,0)
def K_compare_ways_1_l1 {σ τ:Type} (p1:api_Grid) (r24:(api_Grid × Int)) (s36:Int) (B:σ→(compare_way × api_Grid)→Option (σ ⊕ τ)) (s6:Int):(Int × σ)→Option ((Int × σ) ⊕ ((σ ⊕ τ) ⊕ (σ))):=fun s0=>match s0 with
 | (s53,gz54)=>
  if decide (s53 < p1.W) then
   Option.bind (K_grid_Shift r24.1 s53 s36) fun r70=>
   Option.bind (B gz54 ((compare_way.mk s6 (api_Point.mk s53 s36)),r70.1)) fun y80=>
   match y80 with
   | .inl gz82=>
    some (.inl (w64 (s53 + 1),gz82))
   | .inr tz83=>
    some (.inr (.inl (.inr tz83)))
  else
   some (.inr (.inr gz54))
def K_compare_ways_1_l2 {σ τ:Type} (p1:api_Grid) (r24:(api_Grid × Int)) (B:σ→(compare_way × api_Grid)→Option (σ ⊕ τ)) (s6:Int):(Int × σ)→Option ((Int × σ) ⊕ ((σ ⊕ τ) ⊕ (σ))):=fun s0=>match s0 with
 | (s36,gz37)=>
  if decide (s36 < p1.H) then
   Option.bind (α:=σ ⊕ (σ ⊕ τ)) (
    Option.bind (whileK (K_compare_ways_1_l1 p1 r24 s36 B s6) (0,gz37)) fun z0=>match z0 with
     | .inl z=>
      some (.inr z)
     | .inr gz58=>
      some (.inl gz58)) fun z0=>match z0 with
    | .inl gz45=>
     some (.inl (w64 (s36 + 1),gz45))
    | .inr z=>
     some (.inr (.inl z))
  else
   some (.inr (.inr gz37))
def K_compare_ways_1_l3 {σ τ:Type} (x3:Int) (p1:api_Grid) (B:σ→(compare_way × api_Grid)→Option (σ ⊕ τ)):(Int × σ)→Option ((Int × σ) ⊕ ((σ ⊕ τ) ⊕ (σ))):=fun s0=>match s0 with
 | (s6,gz7)=>
  if decide (s6 ≤ x3) then
   Option.bind (α:=σ ⊕ (σ ⊕ τ)) (
    Option.bind (K_symmetry_Apply p1 s6) fun r24=>
    Option.bind (whileK (K_compare_ways_1_l2 p1 r24 B s6) (0,gz7)) fun z0=>match z0 with
     | .inl z=>
      some (.inr z)
     | .inr gz41=>
      some (.inl gz41)) fun z0=>match z0 with
    | .inl gz15=>
     some (.inl (w64 (s6 + 1),gz15))
    | .inr z=>
     some (.inr (.inl z))
  else
   some (.inr (.inr gz7))
def K_I_compare_ways_1 (p0:Int) (p1:api_Grid) (σ τ:Type) (B:σ→(compare_way × api_Grid)→Option (σ ⊕ τ)) (gz0:σ):Option (σ ⊕ τ):=
 Option.bind (idxO ([0,3,7,15]:List Int) p0) fun x3=>
 Option.bind (whileK (K_compare_ways_1_l3 x3 p1 B) (0,gz0)) fun z0=>match z0 with
  | .inl z=>
   some z
  | .inr gz11=>
   some (.inl gz11)
def K_compare_Nearest_l2 (p1:api_Grid):(Int × Int × Int × Int)→(compare_way × api_Grid)→Option ((Int × Int × Int × Int) ⊕ (Int × Int × Int × Int)):=fun s0 x0=>match s0,x0 with
 | (s57,s58,s59,s60),(x65,x67)=>
  Option.bind (α:=(Int × Int × Int × Int)) (
   Option.bind (K_compare_differ x67.Bits p1.Bits) fun r83=>
   if decide (r83 < s57) then
    some (r83,x65.op,x65.at_.X,x65.at_.Y)
   else
    some (s57,s58,s59,s60)) fun (o76,o77,o78,o79)=>
  if o76 == 0 then
   some (.inr (o76,o77,o78,o79))
  else
   some (.inl (o76,o77,o78,o79))
def K_compare_Nearest (p0:api_Grid) (p1:api_Grid) (p2:Int):Option (Int × Int × api_Point × Int):=
 Option.bind (K_grid_Check p0) fun r15=>
 if r15 != 0 then
  some (0,0,(api_Point.mk 0 0),r15)
 else
  Option.bind (K_grid_Check p1) fun r22=>
  if r22 != 0 then
   some (0,0,(api_Point.mk 0 0),r22)
  else
   if decide (16 < (max4 p0.W p0.H p1.W p1.H)) then
    some (0,0,(api_Point.mk 0 0),4)
   else
    Option.bind (α:=Bool) (
     if decide (p2 < 0) then
      some true
     else
      if decide (3 < p2) then
       some true
      else
       if p0.W != p1.W then
        some true
       else
        if p0.H != p1.H then
         some true
        else
         if decide (1 < p2) then
          some (p0.W != p0.H)
         else
          some false) fun o32=>
    if o32 then
     some (0,0,(api_Point.mk 0 0),2)
    else
     Option.bind (α:=(Int × Int × Int × Int)) (
      Option.bind (K_compare_ways p0 p2) fun r53=>
      Option.bind (K_I_compare_ways_1 r53.1 r53.2 _ _ (K_compare_Nearest_l2 p1) (w64 ((p0.Bits.length:Int) + 1),0,0,0)) fun z0=>match z0 with
       | .inl (s57,s58,s59,s60)=>
        some (s57,s58,s59,s60)
       | .inr (e61,e62,e63,e64)=>
        some (e61,e62,e63,e64)) fun (o45,o46,o47,o48)=>
     some (o45,o46,(api_Point.mk o47 o48),0)
def K_raddleref25_Cut_l1 (p0:ByteArray) (p1:Int):(List ByteArray × Int × Int)→Option ((List ByteArray × Int × Int) ⊕ List ByteArray):=fun s0=>match s0 with
 | (s10,s13,s14)=>
  if decide (s14 ≤ (p0.size:Int)) then
   Option.bind (α:=(List ByteArray × Int)) (
    Option.bind (α:=Bool) (
     if s14 == (p0.size:Int) then
      some true
     else
      Option.bind (idxS p0 s14) fun x34=>
      some (x34 == p1)) fun o30=>
    if o30 then
     Option.bind (sliceS p0 s13 s14) fun y38=>
     Option.bind (appO s10 [y38]) fun l42=>
     some (l42,w64 (s14 + 1))
    else
     some (s10,s13)) fun (o24,o27)=>
   some (.inl (o24,o27,w64 (s14 + 1)))
  else
   some (.inr s10)
def K_raddleref25_Cut (p0:ByteArray) (p1:Int):Option (List ByteArray):=
 Option.bind (α:=List ByteArray) (
  Option.bind (whileK (K_raddleref25_Cut_l1 p0 p1) (([]:List ByteArray),0,0)) fun e18=>
   some e18) fun o4=>
 some o4
def K_raddleref25_Number_l1 (p0:ByteArray):(Int × Int)→Option ((Int × Int) ⊕ ((Int × Bool) ⊕ Int)):=fun s0=>match s0 with
 | (s18,s19)=>
  if decide (s19 < (p0.size:Int)) then
   Option.bind (α:=Bool) (
    Option.bind (idxS p0 s19) fun x32=>
    if decide (x32 < 48) then
     some true
    else
     some (decide (57 < x32))) fun o29=>
   if o29 then
    some (.inr (.inl (0,false)))
   else
    Option.bind (idxS p0 s19) fun x37=>
    some (.inl (w64 ((w64 (10 * s18)) + (IntKind.i64.wrap (IntKind.u8.wrap (x37 - 48)))),w64 (s19 + 1)))
  else
   some (.inr (.inr s18))
def K_raddleref25_Number (p0:ByteArray):Option (Int × Bool):=
 Option.bind (α:=Bool) (
  if (p0.size:Int) == 0 then
   some true
  else
   if decide (4 < (p0.size:Int)) then
    some true
   else
    if decide (1 < (p0.size:Int)) then
     Option.bind (idxS p0 0) fun x9=>
     some (x9 == 48)
    else
     some false) fun o3=>
 if o3 then
  some (0,false)
 else
  Option.bind (α:=Int ⊕ (Int × Bool)) (
   Option.bind (whileK (K_raddleref25_Number_l1 p0) (0,0)) fun z0=>match z0 with
    | .inl z=>
     some (.inr z)
    | .inr e23=>
     some (.inl e23)) fun z0=>match z0 with
   | .inl o14=>
    some (o14,true)
   | .inr z=>
    some z
def K_raddleref25_word_l1 (r49:(Int × Bool)) (x35:Int):(List api_Stitch × Int)→Option ((List api_Stitch × Int) ⊕ List api_Stitch):=fun s0=>match s0 with
 | (s60,s63)=>
  Option.bind (α:=Bool) (
   if decide (s63 < r49.1) then
    some (decide (s63 < 300))
   else
    some false) fun o71=>
  if o71 then
   Option.bind (appO s60 [(api_Stitch.mk 1 (x35 == 112) 0 0)]) fun l79=>
   some (.inl (l79,w64 (s63 + 1)))
  else
   some (.inr s60)
def K_raddleref25_kind_l1 (p0:Int):Int→Option (Int ⊕ (Int ⊕ Unit)):=fun s0=>match s0 with
 | s9=>
  if decide (s9 < ((⟨#[102,108,109,120,121,115,111]⟩:ByteArray).size:Int)) then
   Option.bind (idxS (⟨#[102,108,109,120,121,115,111]⟩:ByteArray) s9) fun x18=>
   if x18 == p0 then
    Option.bind (idxO ([3,4,5,6,7,8,10]:List Int) s9) fun x22=>
    some (.inr (.inl x22))
   else
    some (.inl (w64 (s9 + 1)))
  else
   some (.inr (.inr ()))
def K_raddleref25_kind (p0:Int):Option Int:=
 Option.bind (α:=Unit ⊕ Int) (
  Option.bind (whileK (K_raddleref25_kind_l1 p0) 0) fun z0=>match z0 with
   | .inl z=>
    some (.inr z)
   | .inr _=>
    some (.inl ())) fun z0=>match z0 with
  | .inl _=>
   some 0
  | .inr z=>
   some z
def K_raddleref25_word (p0:ByteArray):Option ((List api_Stitch) × Bool):=
 if p0 == (⟨#[121,111]⟩:ByteArray) then
  some ([(api_Stitch.mk 2 false 0 0)],true)
 else
  Option.bind (α:=Bool) (
   if decide (2 < (p0.size:Int)) then
    Option.bind (sliceS p0 0 2) fun y13=>
    some (y13 == (⟨#[111,110]⟩:ByteArray))
   else
    some false) fun o9=>
  if o9 then
   Option.bind (sliceS p0 2 (p0.size:Int)) fun y17=>
   Option.bind (K_raddleref25_Number y17) fun r19=>
   some ([(api_Stitch.mk 9 false r19.1 0)],r19.2)
  else
   Option.bind (α:=Bool) (
    if (p0.size:Int) == 0 then
     some true
    else
     Option.bind (idxS p0 0) fun x29=>
     if x29 != 107 then
      some (x29 != 112)
     else
      some false) fun o25=>
   if o25 then
    some (([]:(List api_Stitch)),false)
   else
    Option.bind (idxS p0 0) fun x35=>
    if (p0.size:Int) == 1 then
     some ([(api_Stitch.mk 1 (x35 == 112) 0 0)],true)
    else
     Option.bind (α:=Unit ⊕ ((List api_Stitch) × Bool)) (
      Option.bind (sliceS p0 1 (p0.size:Int)) fun y47=>
      Option.bind (K_raddleref25_Number y47) fun r49=>
      if r49.2 then
       Option.bind (α:=List api_Stitch) (
        Option.bind (whileK (K_raddleref25_word_l1 r49 x35) (([]:List api_Stitch),0)) fun e67=>
         some e67) fun o54=>
       some (.inr (o54,decide (1 < r49.1)))
      else
       some (.inl ())) fun z0=>match z0 with
      | .inl _=>
       Option.bind (idxS p0 1) fun x85=>
       Option.bind (K_raddleref25_kind x85) fun r87=>
       if r87 == 8 then
        some ([(api_Stitch.mk r87 (x35 == 112) 0 0)],(p0.size:Int) == 2)
       else
        Option.bind (sliceS p0 2 (p0.size:Int)) fun y96=>
        Option.bind (K_raddleref25_Cut y96 47) fun r98=>
        Option.bind (α:=Bool) (
         if r87 != 0 then
          some ((r98.length:Int) == 1)
         else
          some false) fun o103=>
        Option.bind (α:=(Bool × Int)) (
         Option.bind (α:=Bool) (
          if r87 == 6 then
           some true
          else
           some (r87 == 7)) fun o111=>
         if o111 then
          if (r98.length:Int) == 2 then
           Option.bind (idxO r98 1) fun x119=>
           Option.bind (K_raddleref25_Number x119) fun r124=>
           some (r124.2,r124.1)
          else
           some ((r98.length:Int) == 2,0)
         else
          some (o103,0)) fun (o107,o108)=>
        Option.bind (idxO r98 0) fun x127=>
        Option.bind (K_raddleref25_Number x127) fun r132=>
        Option.bind (α:=Bool) (
         if o107 then
          some r132.2
         else
          some false) fun o137=>
        some ([(api_Stitch.mk r87 (x35 == 112) r132.1 o108)],o137)
      | .inr z=>
       some z
def K_raddleref25_Parse_l1 (r11:(List ByteArray)):(List api_Stitch × Int)→Option ((List api_Stitch × Int) ⊕ (((List api_Stitch) × Int) ⊕ (List api_Stitch))):=fun s0=>match s0 with
 | (s23,s26)=>
  if decide (s26 < (r11.length:Int)) then
   Option.bind (idxO r11 s26) fun x38=>
   Option.bind (K_raddleref25_word x38) fun r43=>
   if !r43.2 then
    some (.inr (.inl (([]:(List api_Stitch)),12)))
   else
    Option.bind (appO s23 r43.1) fun l53=>
    if decide (200 < (l53.length:Int)) then
     some (.inr (.inl (([]:(List api_Stitch)),12)))
    else
     some (.inl (l53,w64 (s26 + 1)))
  else
   some (.inr (.inr s23))
def K_raddleref25_Check (p0:api_Stitch):Option Int:=
 Option.bind (α:=Bool) (
  if p0.A == 0 then
   some (p0.B == 0)
  else
   some false) fun o3=>
 Option.bind (α:=Bool) (
  Option.bind (α:=Bool) (
   if p0.Kind == 1 then
    some (p0.Kind == 1)
   else
    some (p0.Kind == 8)) fun o12=>
  if o12 then
   some o3
  else
   if p0.Kind == 2 then
    if o3 then
     some (!p0.Purl)
    else
     some false
   else
    Option.bind (α:=Bool) (
     if p0.Kind == 3 then
      some (p0.Kind == 3)
     else
      if p0.Kind == 4 then
       some (p0.Kind == 4)
      else
       some (p0.Kind == 5)) fun o21=>
    if o21 then
     if p0.B == 0 then
      if decide (2 ≤ p0.A) then
       some (decide (p0.A ≤ 4))
      else
       some false
     else
      some false
    else
     Option.bind (α:=Bool) (
      if p0.Kind == 6 then
       some (p0.Kind == 6)
      else
       some (p0.Kind == 7)) fun o31=>
     if o31 then
      if decide (1 ≤ p0.A) then
       if decide (p0.A ≤ 6) then
        if decide (1 ≤ p0.B) then
         some (decide (p0.B ≤ 6))
        else
         some false
       else
        some false
      else
       some false
     else
      if p0.Kind == 9 then
       if p0.B == 0 then
        if !p0.Purl then
         if decide (1 ≤ p0.A) then
          some (decide (p0.A ≤ 200))
         else
          some false
        else
         some false
       else
        some false
      else
       if p0.Kind == 10 then
        if p0.B == 0 then
         if decide (1 ≤ p0.A) then
          some (decide (p0.A ≤ 200))
         else
          some false
        else
         some false
       else
        some false) fun o8=>
 if !o8 then
  some 8
 else
  some 0
def K_raddleref25_All_l1 (p0:(List api_Stitch)):Int→Option (Int ⊕ (Int ⊕ Unit)):=fun s0=>match s0 with
 | s11=>
  if decide (s11 < (p0.length:Int)) then
   Option.bind (idxO p0 s11) fun x20=>
   Option.bind (K_raddleref25_Check x20) fun r25=>
   if r25 != 0 then
    some (.inr (.inl 8))
   else
    some (.inl (w64 (s11 + 1)))
  else
   some (.inr (.inr ()))
def K_raddleref25_Used (p0:api_Stitch):Option Int:=
 Option.bind (α:=Bool) (
  if p0.Kind == 2 then
   some (p0.Kind == 2)
  else
   some (p0.Kind == 9)) fun o5=>
 if o5 then
  some 0
 else
  Option.bind (α:=Bool) (
   if p0.Kind == 3 then
    some (p0.Kind == 3)
   else
    if p0.Kind == 4 then
     some (p0.Kind == 4)
    else
     some (p0.Kind == 10)) fun o12=>
  if o12 then
   some p0.A
  else
   Option.bind (α:=Bool) (
    if p0.Kind == 6 then
     some (p0.Kind == 6)
    else
     some (p0.Kind == 7)) fun o21=>
   if o21 then
    some (w64 (p0.A + p0.B))
   else
    some 1
def K_raddleref25_Gives (p0:api_Stitch):Option Int:=
 if p0.Kind == 10 then
  some 0
 else
  Option.bind (α:=Bool) (
   if p0.Kind == 5 then
    some (p0.Kind == 5)
   else
    some (p0.Kind == 9)) fun o8=>
  if o8 then
   some p0.A
  else
   Option.bind (α:=Bool) (
    if p0.Kind == 6 then
     some (p0.Kind == 6)
    else
     some (p0.Kind == 7)) fun o15=>
   if o15 then
    some (w64 (p0.A + p0.B))
   else
    some 1
def K_raddleref25_sums_l1 (p0:(List api_Stitch)):(Int × Int × Int)→Option ((Int × Int × Int) ⊕ (Int × Int)):=fun s0=>match s0 with
 | (s10,s11,s12)=>
  if decide (s12 < (p0.length:Int)) then
   Option.bind (idxO p0 s12) fun x23=>
   Option.bind (K_raddleref25_Used x23) fun r28=>
   Option.bind (K_raddleref25_Gives x23) fun r33=>
   some (.inl (w64 (s10 + r28),w64 (s11 + r33),w64 (s12 + 1)))
  else
   some (.inr (s10,s11))
def K_raddleref25_sums (p0:(List api_Stitch)):Option (Int × Int):=
 Option.bind (α:=(Int × Int)) (
  Option.bind (whileK (K_raddleref25_sums_l1 p0) (0,0,0)) fun (e16,e17)=>
   some (e16,e17)) fun (o5,o6)=>
 some (o5,o6)
def K_raddleref25_All (p0:(List api_Stitch)):Option Int:=
 if decide (200 < (p0.length:Int)) then
  some 4
 else
  Option.bind (α:=Unit ⊕ Int) (
   Option.bind (whileK (K_raddleref25_All_l1 p0) 0) fun z0=>match z0 with
    | .inl z=>
     some (.inr z)
    | .inr _=>
     some (.inl ())) fun z0=>match z0 with
   | .inl _=>
    Option.bind (K_raddleref25_sums p0) fun r30=>
    Option.bind (α:=Bool) (
     if decide (200 < r30.1) then
      some true
     else
      some (decide (200 < r30.2))) fun o33=>
    if o33 then
     some 4
    else
     some 0
   | .inr z=>
    some z
def K_raddleref25_Decimal_l1 :(Int × ByteArray)→Option ((Int × ByteArray) ⊕ ByteArray):=fun s0=>match s0 with
 | (s13,s14)=>
  if decide (0 < s13) then
   Option.bind (remI s13 10) fun z23=>
   Option.bind (addS (strO ([IntKind.u8.wrap (w64 (48 + z23))]:List Int)) s14) fun z27=>
   Option.bind (quoI s13 10) fun z29=>
   some (.inl (z29,z27))
  else
   some (.inr s14)
def K_raddleref25_Decimal (p0:Int):Option ByteArray:=
 Option.bind (remI p0 10) fun z3=>
 Option.bind (α:=ByteArray) (
  Option.bind (quoI p0 10) fun z11=>
  Option.bind (whileK (K_raddleref25_Decimal_l1) (z11,strO ([IntKind.u8.wrap (w64 (48 + z3))]:List Int))) fun e18=>
   some e18) fun o7=>
 some o7
def K_raddleref25_one (p0:api_Stitch):Option ByteArray:=
 Option.bind (α:=ByteArray) (
  if p0.Purl then
   some (⟨#[112]⟩:ByteArray)
  else
   some (⟨#[107]⟩:ByteArray)) fun o4=>
 if p0.Kind == 1 then
  some o4
 else
  if p0.Kind == 2 then
   some (⟨#[121,111]⟩:ByteArray)
  else
   if p0.Kind == 3 then
    Option.bind (addS o4 (⟨#[102]⟩:ByteArray)) fun z20=>
    Option.bind (K_raddleref25_Decimal p0.A) fun r22=>
    Option.bind (addS z20 r22) fun z24=>
    some z24
   else
    if p0.Kind == 4 then
     Option.bind (addS o4 (⟨#[108]⟩:ByteArray)) fun z29=>
     Option.bind (K_raddleref25_Decimal p0.A) fun r31=>
     Option.bind (addS z29 r31) fun z33=>
     some z33
    else
     if p0.Kind == 5 then
      Option.bind (addS o4 (⟨#[109]⟩:ByteArray)) fun z38=>
      Option.bind (K_raddleref25_Decimal p0.A) fun r40=>
      Option.bind (addS z38 r40) fun z42=>
      some z42
     else
      if p0.Kind == 6 then
       Option.bind (addS o4 (⟨#[120]⟩:ByteArray)) fun z47=>
       Option.bind (K_raddleref25_Decimal p0.A) fun r49=>
       Option.bind (addS z47 r49) fun z51=>
       Option.bind (addS z51 (⟨#[47]⟩:ByteArray)) fun z53=>
       Option.bind (K_raddleref25_Decimal p0.B) fun r55=>
       Option.bind (addS z53 r55) fun z57=>
       some z57
      else
       if p0.Kind == 7 then
        Option.bind (addS o4 (⟨#[121]⟩:ByteArray)) fun z62=>
        Option.bind (K_raddleref25_Decimal p0.A) fun r64=>
        Option.bind (addS z62 r64) fun z66=>
        Option.bind (addS z66 (⟨#[47]⟩:ByteArray)) fun z68=>
        Option.bind (K_raddleref25_Decimal p0.B) fun r70=>
        Option.bind (addS z68 r70) fun z72=>
        some z72
       else
        if p0.Kind == 8 then
         Option.bind (addS o4 (⟨#[115]⟩:ByteArray)) fun z77=>
         some z77
        else
         if p0.Kind == 9 then
          Option.bind (K_raddleref25_Decimal p0.A) fun r82=>
          Option.bind (addS (⟨#[111,110]⟩:ByteArray) r82) fun z84=>
          some z84
         else
          Option.bind (addS o4 (⟨#[111]⟩:ByteArray)) fun z87=>
          Option.bind (K_raddleref25_Decimal p0.A) fun r89=>
          Option.bind (addS z87 r89) fun z91=>
          some z91
def K_raddleref25_Written_l1 (p0:(List api_Stitch)):(Int × Int)→Option ((Int × Int) ⊕ (Int × Int)):=fun s0=>match s0 with
 | (s44,s45)=>
  Option.bind (α:=Bool) (
   Option.bind (idxO p0 s44) fun x55=>
   if x55.Kind == 1 then
    if decide ((w64 (s44 + 1)) < (p0.length:Int)) then
     Option.bind (idxO p0 (w64 (s44 + 1))) fun x64=>
     some ((x64.Kind == x55.Kind) && ((x64.Purl == x55.Purl) && ((x64.A == x55.A) && ((x64.B == x55.B) && true))))
    else
     some false
   else
    some false) fun o52=>
  if o52 then
   some (.inl (w64 (s44 + 1),w64 (s45 + 1)))
  else
   some (.inr (s44,s45))
def K_raddleref25_Written_l2 (p0:(List api_Stitch)):(ByteArray × Int)→Option ((ByteArray × Int) ⊕ ByteArray):=fun s0=>match s0 with
 | (s9,s10)=>
  if decide (s10 < (p0.length:Int)) then
   Option.bind (α:=(ByteArray × Int)) (
    Option.bind (α:=ByteArray) (
     if decide (0 < s10) then
      Option.bind (addS s9 (⟨#[32]⟩:ByteArray)) fun z27=>
      some z27
     else
      some s9) fun o22=>
    Option.bind (idxO p0 s10) fun x30=>
    Option.bind (K_raddleref25_one x30) fun r35=>
    Option.bind (addS o22 r35) fun z37=>
    Option.bind (α:=(Int × Int)) (
     Option.bind (whileK (K_raddleref25_Written_l1 p0) (s10,1)) fun (e49,e50)=>
      some (e49,e50)) fun (o40,o41)=>
    if decide (1 < o41) then
     Option.bind (K_raddleref25_Decimal o41) fun r97=>
     Option.bind (addS z37 r97) fun z99=>
     some (z99,o40)
    else
     some (z37,o40)) fun (o18,o19)=>
   some (.inl (o18,w64 (o19 + 1)))
  else
   some (.inr s9)
def K_raddleref25_Written (p0:(List api_Stitch)):Option ByteArray:=
 Option.bind (α:=ByteArray) (
  Option.bind (whileK (K_raddleref25_Written_l2 p0) ((⟨#[]⟩:ByteArray),0)) fun e14=>
   some e14) fun o5=>
 some o5
def K_raddleref25_Parse (p0:ByteArray):Option ((List api_Stitch) × Int):=
 if decide (3000 < (p0.size:Int)) then
  some (([]:(List api_Stitch)),12)
 else
  if p0 == (⟨#[]⟩:ByteArray) then
   some (([]:(List api_Stitch)),0)
  else
   Option.bind (K_raddleref25_Cut p0 32) fun r11=>
   Option.bind (α:=List api_Stitch ⊕ ((List api_Stitch) × Int)) (
    Option.bind (whileK (K_raddleref25_Parse_l1 r11) (([]:List api_Stitch),0)) fun z0=>match z0 with
     | .inl z=>
      some (.inr z)
     | .inr e30=>
      some (.inl e30)) fun z0=>match z0 with
    | .inl o17=>
     Option.bind (α:=Bool) (
      Option.bind (K_raddleref25_All o17) fun r64=>
      if r64 != 0 then
       some true
      else
       Option.bind (K_raddleref25_Written o17) fun r67=>
       some (r67 != p0)) fun o61=>
     if o61 then
      some (([]:(List api_Stitch)),12)
     else
      some (o17,0)
    | .inr z=>
     some z
def K_raddlelaw46_cells (p0:ByteArray):Option (List api_Stitch):=
 Option.bind (K_raddleref25_Parse p0) fun r3=>
 some r3.1
def K_stitch_forms (p0:Int):Option (stitch_form × Bool):=
 Option.bind (α:=Bool) (
  if decide (p0 < 1) then
   some true
  else
   some (decide (([(stitch_form.mk (⟨#[]⟩:ByteArray) (0,0) (0,0) true 1 1),(stitch_form.mk (⟨#[]⟩:ByteArray) (0,0) (0,0) false 0 1),(stitch_form.mk (⟨#[102]⟩:ByteArray) (2,4) (0,0) true 2 1),(stitch_form.mk (⟨#[108]⟩:ByteArray) (2,4) (0,0) true 2 1),(stitch_form.mk (⟨#[109]⟩:ByteArray) (2,4) (0,0) true 1 2),(stitch_form.mk (⟨#[120]⟩:ByteArray) (1,6) (1,6) true 3 3),(stitch_form.mk (⟨#[121]⟩:ByteArray) (1,6) (1,6) true 3 3),(stitch_form.mk (⟨#[115]⟩:ByteArray) (0,0) (0,0) true 1 1),(stitch_form.mk (⟨#[]⟩:ByteArray) (1,200) (0,0) false 0 2),(stitch_form.mk (⟨#[111]⟩:ByteArray) (1,200) (0,0) true 2 0)].length:Int) < (IntKind.i64.wrap p0)))) fun o12=>
 if o12 then
  some ((stitch_form.mk (⟨#[]⟩:ByteArray) (0,0) (0,0) false 0 0),false)
 else
  Option.bind (idxO [(stitch_form.mk (⟨#[]⟩:ByteArray) (0,0) (0,0) true 1 1),(stitch_form.mk (⟨#[]⟩:ByteArray) (0,0) (0,0) false 0 1),(stitch_form.mk (⟨#[102]⟩:ByteArray) (2,4) (0,0) true 2 1),(stitch_form.mk (⟨#[108]⟩:ByteArray) (2,4) (0,0) true 2 1),(stitch_form.mk (⟨#[109]⟩:ByteArray) (2,4) (0,0) true 1 2),(stitch_form.mk (⟨#[120]⟩:ByteArray) (1,6) (1,6) true 3 3),(stitch_form.mk (⟨#[121]⟩:ByteArray) (1,6) (1,6) true 3 3),(stitch_form.mk (⟨#[115]⟩:ByteArray) (0,0) (0,0) true 1 1),(stitch_form.mk (⟨#[]⟩:ByteArray) (1,200) (0,0) false 0 2),(stitch_form.mk (⟨#[111]⟩:ByteArray) (1,200) (0,0) true 2 0)] (IntKind.u8.wrap (p0 - 1))) fun x19=>
  some (x19,true)
def K_stitch_within (p0:Int) (p1:(Int × Int)):Option Bool:=
 Option.bind (α:=Bool) (
  if decide (p1.1 ≤ p0) then
   some (decide (p0 ≤ p1.2))
  else
   some false) fun o3=>
 some o3
def K_stitch_Check (p0:api_Stitch):Option Int:=
 Option.bind (K_stitch_forms p0.Kind) fun r4=>
 Option.bind (α:=Bool) (
  if !r4.2 then
   some true
  else
   Option.bind (K_stitch_within p0.A r4.1.a) fun r13=>
   if !r13 then
    some true
   else
    Option.bind (K_stitch_within p0.B r4.1.b) fun r16=>
    if !r16 then
     some true
    else
     if p0.Purl then
      some (!r4.1.sided)
     else
      some false) fun o9=>
 if o9 then
  some 8
 else
  some 0
def K_stitch_All_1 (p0:api_Stitch):Option Bool:=
 Option.bind (K_stitch_Check p0) fun r4=>
 some (r4 != 0)
def K_slices_IndexFunc___api_Stitch_api_Stitch__s0_l1 (p0:(List api_Stitch)):Int→Option (Int ⊕ (Int ⊕ Unit)):=fun s0=>match s0 with
 | s7=>
  if decide (s7 < (p0.length:Int)) then
   Option.bind (idxO p0 s7) fun x17=>
   Option.bind (K_stitch_All_1 x17) fun r22=>
   if r22 then
    some (.inr (.inl s7))
   else
    some (.inl (w64 (s7 + 1)))
  else
   some (.inr (.inr ()))
def K_slices_IndexFunc___api_Stitch_api_Stitch__s0 (p0:(List api_Stitch)):Option Int:=
 Option.bind (α:=Unit ⊕ Int) (
  Option.bind (whileK (K_slices_IndexFunc___api_Stitch_api_Stitch__s0_l1 p0) 0) fun z0=>match z0 with
   | .inl z=>
    some (.inr z)
   | .inr _=>
    some (.inl ())) fun z0=>match z0 with
  | .inl _=>
   some (-1)
  | .inr z=>
   some z
def K_slices_ContainsFunc___api_Stitch_api_Stitch__s0 (p0:(List api_Stitch)):Option Bool:=
 Option.bind (K_slices_IndexFunc___api_Stitch_api_Stitch__s0 p0) fun r5=>
 some (decide (0 ≤ r5))
def K_stitch_loops (p0:api_Stitch) (p1:Int):Option Int:=
 Option.bind (idxO ([0,1,p0.A,w64 (p0.A + p0.B)]:List Int) p1) fun x4=>
 some x4
def K_stitch_sum_l1 (p0:(List api_Stitch)):(Int × Int × Int)→Option ((Int × Int × Int) ⊕ (Int × Int)):=fun s0=>match s0 with
 | (s9,s10,s11)=>
  if decide (s11 < (p0.length:Int)) then
   Option.bind (idxO p0 s11) fun x22=>
   Option.bind (K_stitch_forms x22.Kind) fun r29=>
   Option.bind (K_stitch_loops x22 r29.1.uses) fun r34=>
   Option.bind (K_stitch_loops x22 r29.1.made) fun r36=>
   some (.inl (w64 (s9 + r34),w64 (s10 + r36),w64 (s11 + 1)))
  else
   some (.inr (s9,s10))
def K_stitch_sum (p0:(List api_Stitch)):Option (Int × Int):=
 Option.bind (α:=(Int × Int)) (
  Option.bind (whileK (K_stitch_sum_l1 p0) (0,0,0)) fun (e15,e16)=>
   some (e15,e16)) fun (o4,o5)=>
 some (o4,o5)
def K_stitch_All (p0:(List api_Stitch)):Option Int:=
 if decide (200 < (p0.length:Int)) then
  some 4
 else
  Option.bind (K_slices_ContainsFunc___api_Stitch_api_Stitch__s0 p0) fun r10=>
  if r10 then
   some 8
  else
   Option.bind (K_stitch_sum p0) fun r16=>
   if decide (200 < (if r16.1 < r16.2 then r16.2 else r16.1)) then
    some 4
   else
    some 0
def K_compare_Edits_l1 (p0:(List api_Stitch)) (p1:(List api_Stitch)):Int→Option (Int ⊕ (((List api_CellStep) × Int × Int) ⊕ Unit)):=fun s0=>match s0 with
 | s9=>
  if decide (s9 < 2) then
   Option.bind (idxO ([p0,p1]:List (List api_Stitch)) s9) fun x19=>
   Option.bind (K_stitch_All x19) fun r24=>
   if r24 != 0 then
    some (.inr (.inl (([]:(List api_CellStep)),0,r24)))
   else
    some (.inl (w64 (s9 + 1)))
  else
   some (.inr (.inr ()))
def K_compare_cellTable_1 (p0:api_Stitch):Option Int:=
 some 1
def K_compare_cellTable_2 (p0:api_Stitch) (p1:api_Stitch):Option Int:=
 if ((p0.Kind == p1.Kind) && ((p0.Purl == p1.Purl) && ((p0.A == p1.A) && ((p0.B == p1.B) && true)))) then
  some 0
 else
  some 1
def K_compare_table_api_Stitch__s0_l1 (s16:Int) (p0:(List api_Stitch)) (p1:(List api_Stitch)) (s15:List (List Int)):(Int × List Int)→Option ((Int × List Int) ⊕ List Int):=fun s0=>match s0 with
 | (s40,s41)=>
  if decide (0 ≤ s40) then
   Option.bind (α:=List Int) (
    Option.bind (α:=Bool) (
     if s16 == (p0.length:Int) then
      some (s40 == (p1.length:Int))
     else
      some false) fun o52=>
    if o52 then
     some s41
    else
     if s16 == (p0.length:Int) then
      Option.bind (idxO s41 (w64 (s40 + 1))) fun x65=>
      Option.bind (idxO p1 s40) fun x70=>
      Option.bind (K_compare_cellTable_1 x70) fun r75=>
      Option.bind (idxO s41 s40) fun x77=>
      Option.bind (setO s41 s40 (w64 (x65 + r75))) fun l82=>
      some l82
     else
      if s40 == (p1.length:Int) then
       Option.bind (idxO s15 (w64 (s16 + 1))) fun x104=>
       Option.bind (idxO x104 s40) fun x112=>
       Option.bind (idxO p0 s16) fun x117=>
       Option.bind (K_compare_cellTable_1 x117) fun r122=>
       Option.bind (idxO s41 s40) fun x124=>
       Option.bind (setO s41 s40 (w64 (x112 + r122))) fun l129=>
       some l129
      else
       Option.bind (idxO s15 (w64 (s16 + 1))) fun x152=>
       Option.bind (idxO x152 s40) fun x160=>
       Option.bind (idxO p0 s16) fun x165=>
       Option.bind (K_compare_cellTable_1 x165) fun r170=>
       Option.bind (idxO s41 (w64 (s40 + 1))) fun x175=>
       Option.bind (idxO p1 s40) fun x180=>
       Option.bind (K_compare_cellTable_1 x180) fun r185=>
       Option.bind (idxO x152 (w64 (s40 + 1))) fun x193=>
       Option.bind (K_compare_cellTable_2 x165 x180) fun r204=>
       Option.bind (idxO s41 s40) fun x206=>
       Option.bind (setO s41 s40 (min3 (w64 (x160 + r170)) (w64 (x175 + r185)) (w64 (x193 + r204)))) fun l211=>
       some l211) fun o49=>
   some (.inl (w64 (s40 - 1),o49))
  else
   some (.inr s41)
def K_compare_table_api_Stitch__s0_l2 (p1:(List api_Stitch)) (p0:(List api_Stitch)):(List (List Int) × Int)→Option ((List (List Int) × Int) ⊕ List (List Int)):=fun s0=>match s0 with
 | (s15,s16)=>
  if decide (0 ≤ s16) then
   Option.bind (α:=List Int) (
    Option.bind (makeO (w64 ((p1.length:Int) + 1)) (0:Int)) fun m32=>
    Option.bind (idxO s15 s16) fun x34=>
    Option.bind (whileK (K_compare_table_api_Stitch__s0_l1 s16 p0 p1 s15) ((p1.length:Int),m32)) fun e45=>
     some e45) fun o24=>
   some (.inl ((s15.set (s16).toNat o24),w64 (s16 - 1)))
  else
   some (.inr s15)
def K_compare_table_api_Stitch__s0 (p0:(List api_Stitch)) (p1:(List api_Stitch)):Option (List (List Int)):=
 Option.bind (makeO (w64 ((p0.length:Int) + 1)) ([]:(List Int))) fun m9=>
 Option.bind (α:=List (List Int)) (
  Option.bind (whileK (K_compare_table_api_Stitch__s0_l2 p1 p0) (m9,(p0.length:Int))) fun e20=>
   some e20) fun o11=>
 some o11
def K_compare_cellTable (p0:(List api_Stitch)) (p1:(List api_Stitch)):Option (List (List Int)):=
 Option.bind (K_compare_table_api_Stitch__s0 p0 p1) fun r7=>
 some r7
def K_compare_Edits_l2 (p0:(List api_Stitch)) (p1:(List api_Stitch)) (r30:(List (List Int))):(List api_CellStep × Int × Int)→Option ((List api_CellStep × Int × Int) ⊕ List api_CellStep):=fun s0=>match s0 with
 | (s42,s45,s46)=>
  Option.bind (α:=Bool) (
   if decide (s45 < (p0.length:Int)) then
    some true
   else
    some (decide (s46 < (p1.length:Int)))) fun o54=>
  if o54 then
   Option.bind (idxO r30 s45) fun x60=>
   Option.bind (idxO x60 s46) fun x67=>
   Option.bind (α:=Bool) (
    if decide (s45 < (p0.length:Int)) then
     if decide (s46 < (p1.length:Int)) then
      Option.bind (idxO p0 s45) fun x77=>
      Option.bind (idxO p1 s46) fun x82=>
      if ((x77.Kind == x82.Kind) && ((x77.Purl == x82.Purl) && ((x77.A == x82.A) && ((x77.B == x82.B) && true)))) then
       Option.bind (idxO r30 (w64 (s45 + 1))) fun x88=>
       Option.bind (idxO x88 (w64 (s46 + 1))) fun x95=>
       some (x67 == x95)
      else
       some false
     else
      some false
    else
     some false) fun o72=>
   if o72 then
    Option.bind (appO s42 [(api_CellStep.mk 1 (api_Stitch.mk 0 false 0 0))]) fun l124=>
    some (.inl (l124,w64 (s45 + 1),w64 (s46 + 1)))
   else
    Option.bind (α:=Bool) (
     if decide (s45 < (p0.length:Int)) then
      if decide (s46 < (p1.length:Int)) then
       Option.bind (idxO p0 s45) fun x134=>
       Option.bind (idxO p1 s46) fun x139=>
       if !((x134.Kind == x139.Kind) && ((x134.Purl == x139.Purl) && ((x134.A == x139.A) && ((x134.B == x139.B) && true)))) then
        Option.bind (idxO r30 (w64 (s45 + 1))) fun x145=>
        Option.bind (idxO x145 (w64 (s46 + 1))) fun x152=>
        some (x67 == (w64 (1 + x152)))
       else
        some false
      else
       some false
     else
      some false) fun o129=>
    if o129 then
     Option.bind (idxO p1 s46) fun x179=>
     Option.bind (appO s42 [(api_CellStep.mk 2 x179)]) fun l186=>
     some (.inl (l186,w64 (s45 + 1),w64 (s46 + 1)))
    else
     Option.bind (α:=Bool) (
      if decide (s45 < (p0.length:Int)) then
       Option.bind (idxO r30 (w64 (s45 + 1))) fun x195=>
       Option.bind (idxO x195 s46) fun x202=>
       some (x67 == (w64 (1 + x202)))
      else
       some false) fun o191=>
     if o191 then
      Option.bind (appO s42 [(api_CellStep.mk 4 (api_Stitch.mk 0 false 0 0))]) fun l211=>
      some (.inl (l211,w64 (s45 + 1),s46))
     else
      Option.bind (idxO p1 s46) fun x216=>
      Option.bind (appO s42 [(api_CellStep.mk 3 x216)]) fun l223=>
      some (.inl (l223,s45,w64 (s46 + 1)))
  else
   some (.inr s42)
def K_compare_Edits (p0:(List api_Stitch)) (p1:(List api_Stitch)):Option ((List api_CellStep) × Int × Int):=
 Option.bind (α:=Unit ⊕ ((List api_CellStep) × Int × Int)) (
  Option.bind (whileK (K_compare_Edits_l1 p0 p1) 0) fun z0=>match z0 with
   | .inl z=>
    some (.inr z)
   | .inr _=>
    some (.inl ())) fun z0=>match z0 with
  | .inl _=>
   Option.bind (K_compare_cellTable p0 p1) fun r30=>
   Option.bind (α:=List api_CellStep) (
    Option.bind (whileK (K_compare_Edits_l2 p0 p1 r30) (([]:List api_CellStep),0,0)) fun e50=>
     some e50) fun o37=>
   Option.bind (idxO r30 0) fun x228=>
   Option.bind (idxO x228 0) fun x235=>
   some (o37,x235,0)
  | .inr z=>
   some z
def K_raddleref26_Parse_l1 (r8:(List ByteArray)) (s54:Int):Int→Option (Int ⊕ Int):=fun s0=>match s0 with
 | s76=>
  Option.bind (α:=Bool) (
   Option.bind (idxO r8 s54) fun x85=>
   if decide (s76 < (x85.size:Int)) then
    Option.bind (idxS x85 s76) fun x94=>
    some (x94 != 32)
   else
    some false) fun o82=>
  if o82 then
   some (.inl (w64 (s76 + 1)))
  else
   some (.inr s76)
def K_raddleref26_Parse_l2 (r8:(List ByteArray)):(Int × List api_Row)→Option ((Int × List api_Row) ⊕ ((api_Chart × Int) ⊕ (List api_Row))):=fun s0=>match s0 with
 | (s54,s55)=>
  if decide ((w64 (s54 + 1)) < (r8.length:Int)) then
   Option.bind (α:=List api_Row ⊕ (api_Chart × Int)) (
    Option.bind (α:=Int) (
     Option.bind (whileK (K_raddleref26_Parse_l1 r8 s54) 0) fun e80=>
      some e80) fun o73=>
    Option.bind (α:=Bool) (
     Option.bind (idxO r8 s54) fun x101=>
     Option.bind (sliceS x101 0 o73) fun y106=>
     if y106 != (⟨#[102,114,111,110,116]⟩:ByteArray) then
      some (y106 != (⟨#[98,97,99,107]⟩:ByteArray))
     else
      some false) fun o98=>
    if o98 then
     some (.inr ((api_Chart.mk 0 ([]:(List api_Row))),12))
    else
     Option.bind (idxO r8 s54) fun x115=>
     Option.bind (sliceS x115 0 o73) fun y120=>
     Option.bind (α:=List api_Stitch ⊕ (api_Chart × Int)) (
      if decide (o73 < (x115.size:Int)) then
       Option.bind (sliceS x115 (w64 (o73 + 1)) (x115.size:Int)) fun y137=>
       Option.bind (K_raddleref25_Parse y137) fun r139=>
       if r139.2 != 0 then
        some (.inr ((api_Chart.mk 0 ([]:(List api_Row))),12))
       else
        some (.inl r139.1)
      else
       some (.inl ([]:List api_Stitch))) fun z0=>match z0 with
      | .inl o123=>
       Option.bind (appO s55 [(api_Row.mk (y120 == (⟨#[98,97,99,107]⟩:ByteArray)) o123)]) fun l150=>
       some (.inl l150)
      | .inr z=>
       some (.inr z)) fun z0=>match z0 with
    | .inl o67=>
     some (.inl (w64 (s54 + 1),o67))
    | .inr z=>
     some (.inr (.inl z))
  else
   some (.inr (.inr s55))
def K_raddleref25_Uses (p0:(List api_Stitch)):Option (Int × Int):=
 Option.bind (K_raddleref25_All p0) fun r6=>
 if r6 != 0 then
  some (0,r6)
 else
  Option.bind (K_raddleref25_sums p0) fun r11=>
  some (r11.1,0)
def K_raddleref25_Makes (p0:(List api_Stitch)):Option (Int × Int):=
 Option.bind (K_raddleref25_All p0) fun r6=>
 if r6 != 0 then
  some (0,r6)
 else
  Option.bind (K_raddleref25_sums p0) fun r11=>
  some (r11.2,0)
def K_raddleref26_Check_l1 (p0:api_Chart):(Int × Int)→Option ((Int × Int) ⊕ (Int ⊕ Unit)):=fun s0=>match s0 with
 | (s22,s23)=>
  if decide (s23 < (p0.Rows.length:Int)) then
   Option.bind (idxO p0.Rows s23) fun x32=>
   Option.bind (K_raddleref25_Uses x32.Cells) fun r41=>
   if r41.2 != 0 then
    some (.inr (.inl r41.2))
   else
    if r41.1 != s22 then
     some (.inr (.inl 26))
    else
     Option.bind (K_raddleref25_Makes x32.Cells) fun r58=>
     some (.inl (r58.1,w64 (s23 + 1)))
  else
   some (.inr (.inr ()))
def K_raddleref26_Check (p0:api_Chart):Option Int:=
 if decide (100 < (p0.Rows.length:Int)) then
  some 4
 else
  Option.bind (α:=Bool) (
   if decide (p0.Start < 0) then
    some true
   else
    some (decide (200 < p0.Start))) fun o12=>
  if o12 then
   some 8
  else
   Option.bind (α:=Unit ⊕ Int) (
    Option.bind (whileK (K_raddleref26_Check_l1 p0) (p0.Start,0)) fun z0=>match z0 with
     | .inl z=>
      some (.inr z)
     | .inr _=>
      some (.inl ())) fun z0=>match z0 with
    | .inl _=>
     some 0
    | .inr z=>
     some z
def K_raddleref26_side (p0:Bool):Option ByteArray:=
 if p0 then
  some (⟨#[98,97,99,107]⟩:ByteArray)
 else
  some (⟨#[102,114,111,110,116]⟩:ByteArray)
def K_raddleref26_Written_l1 (p0:api_Chart):(ByteArray × Int)→Option ((ByteArray × Int) ⊕ ((ByteArray × Bool) ⊕ ByteArray)):=fun s0=>match s0 with
 | (s18,s19)=>
  if decide (s19 < (p0.Rows.length:Int)) then
   Option.bind (idxO p0.Rows s19) fun x29=>
   Option.bind (K_raddleref25_Written x29.Cells) fun r38=>
   if decide (3000 < (r38.size:Int)) then
    some (.inr (.inl ((⟨#[]⟩:ByteArray),false)))
   else
    Option.bind (K_raddleref26_side x29.Back) fun r50=>
    Option.bind (addS s18 r50) fun z52=>
    Option.bind (α:=ByteArray) (
     if r38 != (⟨#[]⟩:ByteArray) then
      Option.bind (addS z52 (⟨#[32]⟩:ByteArray)) fun z59=>
      Option.bind (addS z59 r38) fun z61=>
      some z61
     else
      some z52) fun o54=>
    Option.bind (addS o54 (⟨#[10]⟩:ByteArray)) fun z63=>
    some (.inl (z63,w64 (s19 + 1)))
  else
   some (.inr (.inr s18))
def K_raddleref26_Written (p0:api_Chart):Option (ByteArray × Bool):=
 Option.bind (K_raddleref25_Decimal p0.Start) fun r8=>
 Option.bind (addS (⟨#[115,116,97,114,116,32]⟩:ByteArray) r8) fun z10=>
 Option.bind (addS z10 (⟨#[10]⟩:ByteArray)) fun z12=>
 Option.bind (α:=ByteArray ⊕ (ByteArray × Bool)) (
  Option.bind (whileK (K_raddleref26_Written_l1 p0) (z12,0)) fun z0=>match z0 with
   | .inl z=>
    some (.inr z)
   | .inr e23=>
    some (.inl e23)) fun z0=>match z0 with
  | .inl o14=>
   some (o14,true)
  | .inr z=>
   some z
def K_raddleref26_Parse (p0:ByteArray):Option (api_Chart × Int):=
 if decide (20000 < (p0.size:Int)) then
  some ((api_Chart.mk 0 ([]:(List api_Row))),12)
 else
  Option.bind (K_raddleref25_Cut p0 10) fun r8=>
  Option.bind (α:=Bool) (
   if decide ((r8.length:Int) < 2) then
    some true
   else
    if decide (100 < (w64 ((r8.length:Int) - 2))) then
     some true
    else
     Option.bind (idxO r8 0) fun x19=>
     if decide ((x19.size:Int) < 7) then
      some true
     else
      Option.bind (sliceS x19 0 6) fun y28=>
      some (y28 != (⟨#[115,116,97,114,116,32]⟩:ByteArray))) fun o14=>
  if o14 then
   some ((api_Chart.mk 0 ([]:(List api_Row))),12)
  else
   Option.bind (idxO r8 0) fun x33=>
   Option.bind (sliceS x33 6 (x33.size:Int)) fun y38=>
   Option.bind (K_raddleref25_Number y38) fun r40=>
   if !r40.2 then
    some ((api_Chart.mk 0 ([]:(List api_Row))),12)
   else
    Option.bind (α:=List api_Row ⊕ (api_Chart × Int)) (
     Option.bind (whileK (K_raddleref26_Parse_l2 r8) (1,([]:List api_Row))) fun z0=>match z0 with
      | .inl z=>
       some (.inr z)
      | .inr e61=>
       some (.inl e61)) fun z0=>match z0 with
     | .inl o48=>
      Option.bind (K_raddleref26_Check (api_Chart.mk r40.1 o48)) fun r156=>
      if r156 != 0 then
       some ((api_Chart.mk 0 ([]:(List api_Row))),12)
      else
       Option.bind (K_raddleref26_Written (api_Chart.mk r40.1 o48)) fun r161=>
       Option.bind (α:=Bool) (
        if !r161.2 then
         some true
        else
         some (r161.1 != p0)) fun o164=>
       if o164 then
        some ((api_Chart.mk 0 ([]:(List api_Row))),12)
       else
        some ((api_Chart.mk r40.1 o48),0)
     | .inr z=>
      some z
def K_raddlelaw46_knit (p0:ByteArray):Option api_Chart:=
 Option.bind (K_raddleref26_Parse p0) fun r4=>
 some r4.1
def K_chart_counted (p0:api_Chart):Option api_Chart:=
 some p0
def K_stitch_Uses (p0:(List api_Stitch)):Option (Int × Int):=
 Option.bind (K_stitch_All p0) fun r6=>
 if r6 != 0 then
  some (0,r6)
 else
  Option.bind (K_stitch_sum p0) fun r12=>
  some (r12.1,0)
def K_stitch_Makes (p0:(List api_Stitch)):Option (Int × Int):=
 Option.bind (K_stitch_All p0) fun r6=>
 if r6 != 0 then
  some (0,r6)
 else
  Option.bind (K_stitch_sum p0) fun r12=>
  some (r12.2,0)
def K_chart_counted_1_l1 {σ τ:Type} (p0:api_Chart) (B:σ→(Int × chart_count)→Option (σ ⊕ τ)):(Int × Int × σ)→Option ((Int × Int × σ) ⊕ ((σ ⊕ τ) ⊕ (σ))):=fun s0=>match s0 with
 | (s11,s12,gz13)=>
  if decide (s12 < (p0.Rows.length:Int)) then
   Option.bind (idxO p0.Rows s12) fun x23=>
   Option.bind (K_stitch_Uses x23.Cells) fun r36=>
   Option.bind (α:=(Int × Int)) (
    if r36.2 != 0 then
     some (0,r36.2)
    else
     if r36.1 != s11 then
      some (0,26)
     else
      Option.bind (K_stitch_Makes x23.Cells) fun r46=>
      some (r46.1,0)) fun (o38,o39)=>
   Option.bind (B gz13 (s12,(chart_count.mk s11 o38 o39))) fun y51=>
   match y51 with
   | .inl gz53=>
    if ((chart_count.mk s11 o38 o39).e) != 0 then
     some (.inr (.inl (.inl gz53)))
    else
     some (.inl ((chart_count.mk s11 o38 o39).after,w64 (s12 + 1),gz53))
   | .inr tz54=>
    some (.inr (.inl (.inr tz54)))
  else
   some (.inr (.inr gz13))
def K_I_chart_counted_1 (p0:api_Chart) (σ τ:Type) (B:σ→(Int × chart_count)→Option (σ ⊕ τ)) (gz0:σ):Option (σ ⊕ τ):=
 Option.bind (whileK (K_chart_counted_1_l1 p0 B) (p0.Start,0,gz0)) fun z0=>match z0 with
  | .inl z=>
   some z
  | .inr gz17=>
   some (.inl gz17)
def K_chart_Check_l2 :Unit→(Int × chart_count)→Option (Unit ⊕ Int):=fun s0 x0=>match s0,x0 with
 | _,(x25,x27)=>
  if x27.e != 0 then
   some (.inr x27.e)
  else
   some (.inl ())
def K_chart_Check (p0:api_Chart):Option Int:=
 if decide (100 < (p0.Rows.length:Int)) then
  some 4
 else
  Option.bind (α:=Bool) (
   if decide (p0.Start < 0) then
    some true
   else
    some (decide (200 < p0.Start))) fun o13=>
  if o13 then
   some 8
  else
   Option.bind (K_chart_counted p0) fun r21=>
   Option.bind (K_I_chart_counted_1 r21 _ _ (K_chart_Check_l2) ()) fun z0=>match z0 with
    | .inl _=>
     some 0
    | .inr e24=>
     some e24
def K_compare_Charts_1 (p0:api_Row):Option Int:=
 some (w64 (1 + (p0.Cells.length:Int)))
def K_compare_Charts_2 (p0:api_Row) (p1:api_Row):Option Int:=
 Option.bind (K_compare_cellTable p0.Cells p1.Cells) fun r13=>
 Option.bind (idxO r13 0) fun x18=>
 Option.bind (idxO x18 0) fun x25=>
 Option.bind (α:=Int) (
  if p0.Back != p1.Back then
   some (w64 (x25 + 1))
  else
   some x25) fun o30=>
 some o30
def K_compare_table_api_Row__s0_l1 (s16:Int) (p0:(List api_Row)) (p1:(List api_Row)) (s15:List (List Int)):(Int × List Int)→Option ((Int × List Int) ⊕ List Int):=fun s0=>match s0 with
 | (s40,s41)=>
  if decide (0 ≤ s40) then
   Option.bind (α:=List Int) (
    Option.bind (α:=Bool) (
     if s16 == (p0.length:Int) then
      some (s40 == (p1.length:Int))
     else
      some false) fun o52=>
    if o52 then
     some s41
    else
     if s16 == (p0.length:Int) then
      Option.bind (idxO s41 (w64 (s40 + 1))) fun x65=>
      Option.bind (idxO p1 s40) fun x70=>
      Option.bind (K_compare_Charts_1 x70) fun r79=>
      Option.bind (idxO s41 s40) fun x81=>
      Option.bind (setO s41 s40 (w64 (x65 + r79))) fun l86=>
      some l86
     else
      if s40 == (p1.length:Int) then
       Option.bind (idxO s15 (w64 (s16 + 1))) fun x112=>
       Option.bind (idxO x112 s40) fun x120=>
       Option.bind (idxO p0 s16) fun x125=>
       Option.bind (K_compare_Charts_1 x125) fun r134=>
       Option.bind (idxO s41 s40) fun x136=>
       Option.bind (setO s41 s40 (w64 (x120 + r134))) fun l141=>
       some l141
      else
       Option.bind (idxO s15 (w64 (s16 + 1))) fun x168=>
       Option.bind (idxO x168 s40) fun x176=>
       Option.bind (idxO p0 s16) fun x181=>
       Option.bind (K_compare_Charts_1 x181) fun r190=>
       Option.bind (idxO s41 (w64 (s40 + 1))) fun x195=>
       Option.bind (idxO p1 s40) fun x200=>
       Option.bind (K_compare_Charts_1 x200) fun r209=>
       Option.bind (idxO x168 (w64 (s40 + 1))) fun x217=>
       Option.bind (K_compare_Charts_2 x181 x200) fun r236=>
       Option.bind (idxO s41 s40) fun x238=>
       Option.bind (setO s41 s40 (min3 (w64 (x176 + r190)) (w64 (x195 + r209)) (w64 (x217 + r236)))) fun l243=>
       some l243) fun o49=>
   some (.inl (w64 (s40 - 1),o49))
  else
   some (.inr s41)
def K_compare_table_api_Row__s0_l2 (p1:(List api_Row)) (p0:(List api_Row)):(List (List Int) × Int)→Option ((List (List Int) × Int) ⊕ List (List Int)):=fun s0=>match s0 with
 | (s15,s16)=>
  if decide (0 ≤ s16) then
   Option.bind (α:=List Int) (
    Option.bind (makeO (w64 ((p1.length:Int) + 1)) (0:Int)) fun m32=>
    Option.bind (idxO s15 s16) fun x34=>
    Option.bind (whileK (K_compare_table_api_Row__s0_l1 s16 p0 p1 s15) ((p1.length:Int),m32)) fun e45=>
     some e45) fun o24=>
   some (.inl ((s15.set (s16).toNat o24),w64 (s16 - 1)))
  else
   some (.inr s15)
def K_compare_table_api_Row__s0 (p0:(List api_Row)) (p1:(List api_Row)):Option (List (List Int)):=
 Option.bind (makeO (w64 ((p0.length:Int) + 1)) ([]:(List Int))) fun m9=>
 Option.bind (α:=List (List Int)) (
  Option.bind (whileK (K_compare_table_api_Row__s0_l2 p1 p0) (m9,(p0.length:Int))) fun e20=>
   some e20) fun o11=>
 some o11
def K_compare_Charts (p0:api_Chart) (p1:api_Chart):Option (Int × Int):=
 Option.bind (K_chart_Check p0) fun r14=>
 if r14 != 0 then
  some (0,r14)
 else
  Option.bind (K_chart_Check p1) fun r21=>
  if r21 != 0 then
   some (0,r21)
  else
   Option.bind (K_compare_table_api_Row__s0 p0.Rows p1.Rows) fun r27=>
   Option.bind (idxO r27 0) fun x33=>
   Option.bind (idxO x33 0) fun x40=>
   Option.bind (α:=Int) (
    if p0.Start != p1.Start then
     some (w64 (x40 + 1))
    else
     some x40) fun o45=>
   some (o45,0)
def K_raddleref46_Same_l1 (p0:(List api_CellStep)) (p1:(List api_CellStep)):Int→Option (Int ⊕ (Bool ⊕ Unit)):=fun s0=>match s0 with
 | s13=>
  if decide (s13 < (p0.length:Int)) then
   Option.bind (idxO p0 s13) fun x22=>
   Option.bind (idxO p1 s13) fun x27=>
   if !((x22.Kind == x27.Kind) && (((x22.S.Kind == x27.S.Kind) && ((x22.S.Purl == x27.S.Purl) && ((x22.S.A == x27.S.A) && ((x22.S.B == x27.S.B) && true)))) && true)) then
    some (.inr (.inl false))
   else
    some (.inl (w64 (s13 + 1)))
  else
   some (.inr (.inr ()))
def K_raddleref46_Same (p0:(List api_CellStep)) (p1:(List api_CellStep)):Option Bool:=
 if (p0.length:Int) != (p1.length:Int) then
  some false
 else
  Option.bind (α:=Unit ⊕ Bool) (
   Option.bind (whileK (K_raddleref46_Same_l1 p0 p1) 0) fun z0=>match z0 with
    | .inl z=>
     some (.inr z)
    | .inr _=>
     some (.inl ())) fun z0=>match z0 with
   | .inl _=>
    some true
   | .inr z=>
    some z
theorem m_raddleref01_Parse_l1 (p0:ByteArray):∀ s,Le (K_raddleref01_Parse_l1 p0 s) (raddleref01_Parse_l1 p0 s):=by
 unfold K_raddleref01_Parse_l1 raddleref01_Parse_l1
 with_reducible repeat' (first | exact Le.rfl _ | refine Le.loop _ ?_ | refine Le.bind ?_ ?_ | refine Le.ite ?_ ?_ | refine Le.sum ?_ ?_ | refine Le.prod ?_ | intro _ | exact Empty.elim (by assumption) | dsimp only)
theorem m_F_raddleref01_Zero_s0 (p0:Int) (p1:Int):Le (K_raddleref01_Zero_s0 p0 p1) (F_raddleref01_Zero_s0 p0 p1):=by
 unfold K_raddleref01_Zero_s0 F_raddleref01_Zero_s0
 with_reducible repeat' (first | exact Le.rfl _ | refine Le.loop _ ?_ | refine Le.bind ?_ ?_ | refine Le.ite ?_ ?_ | refine Le.sum ?_ ?_ | refine Le.prod ?_ | intro _ | exact Empty.elim (by assumption) | dsimp only)
theorem m_F_raddleref01_Set_s0 (p0:Int) (p1:Int) (p2:(List Bool)) (p3:Int) (p4:Int) (p5:Bool):Le (K_raddleref01_Set_s0 p0 p1 p2 p3 p4 p5) (F_raddleref01_Set_s0 p0 p1 p2 p3 p4 p5):=by
 unfold K_raddleref01_Set_s0 F_raddleref01_Set_s0
 with_reducible repeat' (first | exact Le.rfl _ | refine Le.loop _ ?_ | refine Le.bind ?_ ?_ | refine Le.ite ?_ ?_ | refine Le.sum ?_ ?_ | refine Le.prod ?_ | intro _ | exact Empty.elim (by assumption) | dsimp only)
theorem m_raddleref01_Parse_l2 (p0:ByteArray) (o4:Int) (r36:api_Grid):∀ s,Le (K_raddleref01_Parse_l2 p0 o4 r36 s) (raddleref01_Parse_l2 p0 o4 r36 s):=by
 unfold K_raddleref01_Parse_l2 raddleref01_Parse_l2
 with_reducible repeat' (first | exact m_F_raddleref01_Set_s0 _ _ _ _ _ _ | exact Le.rfl _ | refine Le.loop _ ?_ | refine Le.bind ?_ ?_ | refine Le.ite ?_ ?_ | refine Le.sum ?_ ?_ | refine Le.prod ?_ | intro _ | exact Empty.elim (by assumption) | dsimp only)
theorem m_F_raddleref01_Parse (p0:ByteArray):Le (K_raddleref01_Parse p0) (F_raddleref01_Parse p0):=by
 unfold K_raddleref01_Parse F_raddleref01_Parse
 with_reducible repeat' (first | exact m_raddleref01_Parse_l1 _ | exact m_F_raddleref01_Zero_s0 _ _ | exact m_raddleref01_Parse_l2 _ _ _ | exact Le.rfl _ | refine Le.loop _ ?_ | refine Le.bind ?_ ?_ | refine Le.ite ?_ ?_ | refine Le.sum ?_ ?_ | refine Le.prod ?_ | intro _ | exact Empty.elim (by assumption) | dsimp only)
theorem m_F_raddlelaw46_cloth (p0:ByteArray):Le (K_raddlelaw46_cloth p0) (F_raddlelaw46_cloth p0):=by
 unfold K_raddlelaw46_cloth F_raddlelaw46_cloth
 with_reducible repeat' (first | exact m_F_raddleref01_Parse _ | exact Le.rfl _ | refine Le.loop _ ?_ | refine Le.bind ?_ ?_ | refine Le.ite ?_ ?_ | refine Le.sum ?_ ?_ | refine Le.prod ?_ | intro _ | exact Empty.elim (by assumption) | dsimp only)
theorem m_F_grid_Check (p0:api_Grid):Le (K_grid_Check p0) (F_grid_Check p0):=by
 unfold K_grid_Check F_grid_Check
 with_reducible repeat' (first | exact Le.rfl _ | refine Le.loop _ ?_ | refine Le.bind ?_ ?_ | refine Le.ite ?_ ?_ | refine Le.sum ?_ ?_ | refine Le.prod ?_ | intro _ | exact Empty.elim (by assumption) | dsimp only)
theorem m_compare_differ_l1 (p0:(List Bool)) (p1:(List Bool)):∀ s,Le (K_compare_differ_l1 p0 p1 s) (compare_differ_l1 p0 p1 s):=by
 unfold K_compare_differ_l1 compare_differ_l1
 with_reducible repeat' (first | exact Le.rfl _ | refine Le.loop _ ?_ | refine Le.bind ?_ ?_ | refine Le.ite ?_ ?_ | refine Le.sum ?_ ?_ | refine Le.prod ?_ | intro _ | exact Empty.elim (by assumption) | dsimp only)
theorem m_F_compare_differ (p0:(List Bool)) (p1:(List Bool)):Le (K_compare_differ p0 p1) (F_compare_differ p0 p1):=by
 unfold K_compare_differ F_compare_differ
 with_reducible repeat' (first | exact m_compare_differ_l1 _ _ | exact Le.rfl _ | refine Le.loop _ ?_ | refine Le.bind ?_ ?_ | refine Le.ite ?_ ?_ | refine Le.sum ?_ ?_ | refine Le.prod ?_ | intro _ | exact Empty.elim (by assumption) | dsimp only)
theorem m_F_compare_Cells (p0:api_Grid) (p1:api_Grid):Le (K_compare_Cells p0 p1) (F_compare_Cells p0 p1):=by
 unfold K_compare_Cells F_compare_Cells
 with_reducible repeat' (first | exact m_F_grid_Check _ | exact m_F_compare_differ _ _ | exact Le.rfl _ | refine Le.loop _ ?_ | refine Le.bind ?_ ?_ | refine Le.ite ?_ ?_ | refine Le.sum ?_ ?_ | refine Le.prod ?_ | intro _ | exact Empty.elim (by assumption) | dsimp only)
theorem m_F_compare_ways (p0:api_Grid) (p1:Int):Le (K_compare_ways p0 p1) (F_compare_ways p0 p1):=by
 unfold K_compare_ways F_compare_ways
 with_reducible repeat' (first | exact Le.rfl _ | refine Le.loop _ ?_ | refine Le.bind ?_ ?_ | refine Le.ite ?_ ?_ | refine Le.sum ?_ ?_ | refine Le.prod ?_ | intro _ | exact Empty.elim (by assumption) | dsimp only)
theorem m_symmetry_check_l1 (p0:(List api_Grid)):∀ s,Le (K_symmetry_check_l1 p0 s) (symmetry_check_l1 p0 s):=by
 unfold K_symmetry_check_l1 symmetry_check_l1
 with_reducible repeat' (first | exact m_F_grid_Check _ | exact Le.rfl _ | refine Le.loop _ ?_ | refine Le.bind ?_ ?_ | refine Le.ite ?_ ?_ | refine Le.sum ?_ ?_ | refine Le.prod ?_ | intro _ | exact Empty.elim (by assumption) | dsimp only)
theorem m_symmetry_check_l2 (p0:(List api_Grid)):∀ s,Le (K_symmetry_check_l2 p0 s) (symmetry_check_l2 p0 s):=by
 unfold K_symmetry_check_l2 symmetry_check_l2
 with_reducible repeat' (first | exact Le.rfl _ | refine Le.loop _ ?_ | refine Le.bind ?_ ?_ | refine Le.ite ?_ ?_ | refine Le.sum ?_ ?_ | refine Le.prod ?_ | intro _ | exact Empty.elim (by assumption) | dsimp only)
theorem m_F_symmetry_check (p0:(List api_Grid)):Le (K_symmetry_check p0) (F_symmetry_check p0):=by
 unfold K_symmetry_check F_symmetry_check
 with_reducible repeat' (first | exact m_symmetry_check_l1 _ | exact m_symmetry_check_l2 _ | exact Le.rfl _ | refine Le.loop _ ?_ | refine Le.bind ?_ ?_ | refine Le.ite ?_ ?_ | refine Le.sum ?_ ?_ | refine Le.prod ?_ | intro _ | exact Empty.elim (by assumption) | dsimp only)
theorem m_F_symmetry_is (p0:Int):Le (K_symmetry_is p0) (F_symmetry_is p0):=by
 unfold K_symmetry_is F_symmetry_is
 with_reducible repeat' (first | exact Le.rfl _ | refine Le.loop _ ?_ | refine Le.bind ?_ ?_ | refine Le.ite ?_ ?_ | refine Le.sum ?_ ?_ | refine Le.prod ?_ | intro _ | exact Empty.elim (by assumption) | dsimp only)
theorem m_symmetry_applied_l1 (o9:Int) (p1:Int) (s23:Int) (p0:api_Grid):∀ s,Le (K_symmetry_applied_l1 o9 p1 s23 p0 s) (symmetry_applied_l1 o9 p1 s23 p0 s):=by
 unfold K_symmetry_applied_l1 symmetry_applied_l1
 with_reducible repeat' (first | exact Le.rfl _ | refine Le.loop _ ?_ | refine Le.bind ?_ ?_ | refine Le.ite ?_ ?_ | refine Le.sum ?_ ?_ | refine Le.prod ?_ | intro _ | exact Empty.elim (by assumption) | dsimp only)
theorem m_symmetry_applied_l2 (o10:Int) (o9:Int) (p1:Int) (p0:api_Grid):∀ s,Le (K_symmetry_applied_l2 o10 o9 p1 p0 s) (symmetry_applied_l2 o10 o9 p1 p0 s):=by
 unfold K_symmetry_applied_l2 symmetry_applied_l2
 with_reducible repeat' (first | exact m_symmetry_applied_l1 _ _ _ _ | exact Le.rfl _ | refine Le.loop _ ?_ | refine Le.bind ?_ ?_ | refine Le.ite ?_ ?_ | refine Le.sum ?_ ?_ | refine Le.prod ?_ | intro _ | exact Empty.elim (by assumption) | dsimp only)
theorem m_F_symmetry_applied (p0:api_Grid) (p1:Int):Le (K_symmetry_applied p0 p1) (F_symmetry_applied p0 p1):=by
 unfold K_symmetry_applied F_symmetry_applied
 with_reducible repeat' (first | exact m_symmetry_applied_l2 _ _ _ _ | exact Le.rfl _ | refine Le.loop _ ?_ | refine Le.bind ?_ ?_ | refine Le.ite ?_ ?_ | refine Le.sum ?_ ?_ | refine Le.prod ?_ | intro _ | exact Empty.elim (by assumption) | dsimp only)
theorem m_F_symmetry_Apply (p0:api_Grid) (p1:Int):Le (K_symmetry_Apply p0 p1) (F_symmetry_Apply p0 p1):=by
 unfold K_symmetry_Apply F_symmetry_Apply
 with_reducible repeat' (first | exact m_F_symmetry_check _ | exact m_F_symmetry_is _ | exact m_F_symmetry_applied _ _ | exact Le.rfl _ | refine Le.loop _ ?_ | refine Le.bind ?_ ?_ | refine Le.ite ?_ ?_ | refine Le.sum ?_ ?_ | refine Le.prod ?_ | intro _ | exact Empty.elim (by assumption) | dsimp only)
theorem m_F_grid_around (p0:Int) (p1:Int):Le (K_grid_around p0 p1) (F_grid_around p0 p1):=by
 unfold K_grid_around F_grid_around
 with_reducible repeat' (first | exact Le.rfl _ | refine Le.loop _ ?_ | refine Le.bind ?_ ?_ | refine Le.ite ?_ ?_ | refine Le.sum ?_ ?_ | refine Le.prod ?_ | intro _ | exact Empty.elim (by assumption) | dsimp only)
theorem m_F_grid_Shift_1_s0 (p0:Int) (p1:Int) (p2:api_Grid) (p3:Int) (p4:Int):Le (K_grid_Shift_1_s0 p0 p1 p2 p3 p4) (F_grid_Shift_1_s0 p0 p1 p2 p3 p4):=by
 unfold K_grid_Shift_1_s0 F_grid_Shift_1_s0
 with_reducible repeat' (first | exact m_F_grid_around _ _ | exact Le.rfl _ | refine Le.loop _ ?_ | refine Le.bind ?_ ?_ | refine Le.ite ?_ ?_ | refine Le.sum ?_ ?_ | refine Le.prod ?_ | intro _ | exact Empty.elim (by assumption) | dsimp only)
theorem m_grid_build_s0_l1 (p0:Int) (s15:Int) (p2:api_Grid) (p3:Int) (p4:Int):∀ s,Le (K_grid_build_s0_l1 p0 s15 p2 p3 p4 s) (grid_build_s0_l1 p0 s15 p2 p3 p4 s):=by
 unfold K_grid_build_s0_l1 grid_build_s0_l1
 with_reducible repeat' (first | exact m_F_grid_Shift_1_s0 _ _ _ _ _ | exact Le.rfl _ | refine Le.loop _ ?_ | refine Le.bind ?_ ?_ | refine Le.ite ?_ ?_ | refine Le.sum ?_ ?_ | refine Le.prod ?_ | intro _ | exact Empty.elim (by assumption) | dsimp only)
theorem m_grid_build_s0_l2 (p1:Int) (p0:Int) (p2:api_Grid) (p3:Int) (p4:Int):∀ s,Le (K_grid_build_s0_l2 p1 p0 p2 p3 p4 s) (grid_build_s0_l2 p1 p0 p2 p3 p4 s):=by
 unfold K_grid_build_s0_l2 grid_build_s0_l2
 with_reducible repeat' (first | exact m_grid_build_s0_l1 _ _ _ _ _ | exact Le.rfl _ | refine Le.loop _ ?_ | refine Le.bind ?_ ?_ | refine Le.ite ?_ ?_ | refine Le.sum ?_ ?_ | refine Le.prod ?_ | intro _ | exact Empty.elim (by assumption) | dsimp only)
theorem m_F_grid_build_s0 (p0:Int) (p1:Int) (p2:api_Grid) (p3:Int) (p4:Int):Le (K_grid_build_s0 p0 p1 p2 p3 p4) (F_grid_build_s0 p0 p1 p2 p3 p4):=by
 unfold K_grid_build_s0 F_grid_build_s0
 with_reducible repeat' (first | exact m_grid_build_s0_l2 _ _ _ _ _ | exact Le.rfl _ | refine Le.loop _ ?_ | refine Le.bind ?_ ?_ | refine Le.ite ?_ ?_ | refine Le.sum ?_ ?_ | refine Le.prod ?_ | intro _ | exact Empty.elim (by assumption) | dsimp only)
theorem m_F_grid_Shift (p0:api_Grid) (p1:Int) (p2:Int):Le (K_grid_Shift p0 p1 p2) (F_grid_Shift p0 p1 p2):=by
 unfold K_grid_Shift F_grid_Shift
 with_reducible repeat' (first | exact m_F_grid_Check _ | exact m_F_grid_around _ _ | exact m_F_grid_build_s0 _ _ _ _ _ | exact Le.rfl _ | refine Le.loop _ ?_ | refine Le.bind ?_ ?_ | refine Le.ite ?_ ?_ | refine Le.sum ?_ ?_ | refine Le.prod ?_ | intro _ | exact Empty.elim (by assumption) | dsimp only)
theorem m_compare_ways_1_l1 {σ τ:Type} (p1:api_Grid) (r24:(api_Grid × Int)) (s36:Int) (B B':σ→(compare_way × api_Grid)→Option (σ ⊕ τ)) (hB:∀ s x,Le (B s x) (B' s x)) (s6:Int):∀ s,Le (K_compare_ways_1_l1 p1 r24 s36 B s6 s) (compare_ways_1_l1 p1 r24 s36 B' s6 s):=by
 unfold K_compare_ways_1_l1 compare_ways_1_l1
 with_reducible repeat' (first | exact hB _ _ | exact m_F_grid_Shift _ _ _ | exact Le.rfl _ | refine Le.loop _ ?_ | refine Le.bind ?_ ?_ | refine Le.ite ?_ ?_ | refine Le.sum ?_ ?_ | refine Le.prod ?_ | intro _ | exact Empty.elim (by assumption) | dsimp only)
theorem m_compare_ways_1_l2 {σ τ:Type} (p1:api_Grid) (r24:(api_Grid × Int)) (B B':σ→(compare_way × api_Grid)→Option (σ ⊕ τ)) (hB:∀ s x,Le (B s x) (B' s x)) (s6:Int):∀ s,Le (K_compare_ways_1_l2 p1 r24 B s6 s) (compare_ways_1_l2 p1 r24 B' s6 s):=by
 unfold K_compare_ways_1_l2 compare_ways_1_l2
 with_reducible repeat' (first | exact hB _ _ | exact m_compare_ways_1_l1 _ _ _ _ _ hB _ | exact Le.rfl _ | refine Le.loop _ ?_ | refine Le.bind ?_ ?_ | refine Le.ite ?_ ?_ | refine Le.sum ?_ ?_ | refine Le.prod ?_ | intro _ | exact Empty.elim (by assumption) | dsimp only)
theorem m_compare_ways_1_l3 {σ τ:Type} (x3:Int) (p1:api_Grid) (B B':σ→(compare_way × api_Grid)→Option (σ ⊕ τ)) (hB:∀ s x,Le (B s x) (B' s x)):∀ s,Le (K_compare_ways_1_l3 x3 p1 B s) (compare_ways_1_l3 x3 p1 B' s):=by
 unfold K_compare_ways_1_l3 compare_ways_1_l3
 with_reducible repeat' (first | exact hB _ _ | exact m_F_symmetry_Apply _ _ | exact m_compare_ways_1_l2 _ _ _ _ hB _ | exact Le.rfl _ | refine Le.loop _ ?_ | refine Le.bind ?_ ?_ | refine Le.ite ?_ ?_ | refine Le.sum ?_ ?_ | refine Le.prod ?_ | intro _ | exact Empty.elim (by assumption) | dsimp only)
theorem m_I_compare_ways_1 (p0:Int) (p1:api_Grid) (σ τ:Type) (B B':σ→(compare_way × api_Grid)→Option (σ ⊕ τ)) (hB:∀ s x,Le (B s x) (B' s x)) (gz0:σ):Le (K_I_compare_ways_1 p0 p1 σ τ B gz0) (I_compare_ways_1 p0 p1 σ τ B' gz0):=by
 unfold K_I_compare_ways_1 I_compare_ways_1
 with_reducible repeat' (first | exact hB _ _ | exact m_compare_ways_1_l3 _ _ _ _ hB | exact Le.rfl _ | refine Le.loop _ ?_ | refine Le.bind ?_ ?_ | refine Le.ite ?_ ?_ | refine Le.sum ?_ ?_ | refine Le.prod ?_ | intro _ | exact Empty.elim (by assumption) | dsimp only)
theorem m_compare_Nearest_l2 (p1:api_Grid):∀ s x,Le (K_compare_Nearest_l2 p1 s x) (compare_Nearest_l2 p1 s x):=by
 unfold K_compare_Nearest_l2 compare_Nearest_l2
 with_reducible repeat' (first | exact m_F_compare_differ _ _ | exact Le.rfl _ | refine Le.loop _ ?_ | refine Le.bind ?_ ?_ | refine Le.ite ?_ ?_ | refine Le.sum ?_ ?_ | refine Le.prod ?_ | intro _ | exact Empty.elim (by assumption) | dsimp only)
theorem m_F_compare_Nearest (p0:api_Grid) (p1:api_Grid) (p2:Int):Le (K_compare_Nearest p0 p1 p2) (F_compare_Nearest p0 p1 p2):=by
 unfold K_compare_Nearest F_compare_Nearest
 with_reducible repeat' (first | exact m_F_grid_Check _ | exact m_F_compare_ways _ _ | refine m_I_compare_ways_1 _ _ _ _ _ _ ?_ _ | exact m_compare_Nearest_l2 _ | exact Le.rfl _ | refine Le.loop _ ?_ | refine Le.bind ?_ ?_ | refine Le.ite ?_ ?_ | refine Le.sum ?_ ?_ | refine Le.prod ?_ | intro _ | exact Empty.elim (by assumption) | dsimp only)
theorem m_raddleref25_Cut_l1 (p0:ByteArray) (p1:Int):∀ s,Le (K_raddleref25_Cut_l1 p0 p1 s) (raddleref25_Cut_l1 p0 p1 s):=by
 unfold K_raddleref25_Cut_l1 raddleref25_Cut_l1
 with_reducible repeat' (first | exact Le.rfl _ | refine Le.loop _ ?_ | refine Le.bind ?_ ?_ | refine Le.ite ?_ ?_ | refine Le.sum ?_ ?_ | refine Le.prod ?_ | intro _ | exact Empty.elim (by assumption) | dsimp only)
theorem m_F_raddleref25_Cut (p0:ByteArray) (p1:Int):Le (K_raddleref25_Cut p0 p1) (F_raddleref25_Cut p0 p1):=by
 unfold K_raddleref25_Cut F_raddleref25_Cut
 with_reducible repeat' (first | exact m_raddleref25_Cut_l1 _ _ | exact Le.rfl _ | refine Le.loop _ ?_ | refine Le.bind ?_ ?_ | refine Le.ite ?_ ?_ | refine Le.sum ?_ ?_ | refine Le.prod ?_ | intro _ | exact Empty.elim (by assumption) | dsimp only)
theorem m_raddleref25_Number_l1 (p0:ByteArray):∀ s,Le (K_raddleref25_Number_l1 p0 s) (raddleref25_Number_l1 p0 s):=by
 unfold K_raddleref25_Number_l1 raddleref25_Number_l1
 with_reducible repeat' (first | exact Le.rfl _ | refine Le.loop _ ?_ | refine Le.bind ?_ ?_ | refine Le.ite ?_ ?_ | refine Le.sum ?_ ?_ | refine Le.prod ?_ | intro _ | exact Empty.elim (by assumption) | dsimp only)
theorem m_F_raddleref25_Number (p0:ByteArray):Le (K_raddleref25_Number p0) (F_raddleref25_Number p0):=by
 unfold K_raddleref25_Number F_raddleref25_Number
 with_reducible repeat' (first | exact m_raddleref25_Number_l1 _ | exact Le.rfl _ | refine Le.loop _ ?_ | refine Le.bind ?_ ?_ | refine Le.ite ?_ ?_ | refine Le.sum ?_ ?_ | refine Le.prod ?_ | intro _ | exact Empty.elim (by assumption) | dsimp only)
theorem m_raddleref25_word_l1 (r49:(Int × Bool)) (x35:Int):∀ s,Le (K_raddleref25_word_l1 r49 x35 s) (raddleref25_word_l1 r49 x35 s):=by
 unfold K_raddleref25_word_l1 raddleref25_word_l1
 with_reducible repeat' (first | exact Le.rfl _ | refine Le.loop _ ?_ | refine Le.bind ?_ ?_ | refine Le.ite ?_ ?_ | refine Le.sum ?_ ?_ | refine Le.prod ?_ | intro _ | exact Empty.elim (by assumption) | dsimp only)
theorem m_raddleref25_kind_l1 (p0:Int):∀ s,Le (K_raddleref25_kind_l1 p0 s) (raddleref25_kind_l1 p0 s):=by
 unfold K_raddleref25_kind_l1 raddleref25_kind_l1
 with_reducible repeat' (first | exact Le.rfl _ | refine Le.loop _ ?_ | refine Le.bind ?_ ?_ | refine Le.ite ?_ ?_ | refine Le.sum ?_ ?_ | refine Le.prod ?_ | intro _ | exact Empty.elim (by assumption) | dsimp only)
theorem m_F_raddleref25_kind (p0:Int):Le (K_raddleref25_kind p0) (F_raddleref25_kind p0):=by
 unfold K_raddleref25_kind F_raddleref25_kind
 with_reducible repeat' (first | exact m_raddleref25_kind_l1 _ | exact Le.rfl _ | refine Le.loop _ ?_ | refine Le.bind ?_ ?_ | refine Le.ite ?_ ?_ | refine Le.sum ?_ ?_ | refine Le.prod ?_ | intro _ | exact Empty.elim (by assumption) | dsimp only)
theorem m_F_raddleref25_word (p0:ByteArray):Le (K_raddleref25_word p0) (F_raddleref25_word p0):=by
 unfold K_raddleref25_word F_raddleref25_word
 with_reducible repeat' (first | exact m_F_raddleref25_Number _ | exact m_raddleref25_word_l1 _ _ | exact m_F_raddleref25_kind _ | exact m_F_raddleref25_Cut _ _ | exact Le.rfl _ | refine Le.loop _ ?_ | refine Le.bind ?_ ?_ | refine Le.ite ?_ ?_ | refine Le.sum ?_ ?_ | refine Le.prod ?_ | intro _ | exact Empty.elim (by assumption) | dsimp only)
theorem m_raddleref25_Parse_l1 (r11:(List ByteArray)):∀ s,Le (K_raddleref25_Parse_l1 r11 s) (raddleref25_Parse_l1 r11 s):=by
 unfold K_raddleref25_Parse_l1 raddleref25_Parse_l1
 with_reducible repeat' (first | exact m_F_raddleref25_word _ | exact Le.rfl _ | refine Le.loop _ ?_ | refine Le.bind ?_ ?_ | refine Le.ite ?_ ?_ | refine Le.sum ?_ ?_ | refine Le.prod ?_ | intro _ | exact Empty.elim (by assumption) | dsimp only)
theorem m_F_raddleref25_Check (p0:api_Stitch):Le (K_raddleref25_Check p0) (F_raddleref25_Check p0):=by
 unfold K_raddleref25_Check F_raddleref25_Check
 with_reducible repeat' (first | exact Le.rfl _ | refine Le.loop _ ?_ | refine Le.bind ?_ ?_ | refine Le.ite ?_ ?_ | refine Le.sum ?_ ?_ | refine Le.prod ?_ | intro _ | exact Empty.elim (by assumption) | dsimp only)
theorem m_raddleref25_All_l1 (p0:(List api_Stitch)):∀ s,Le (K_raddleref25_All_l1 p0 s) (raddleref25_All_l1 p0 s):=by
 unfold K_raddleref25_All_l1 raddleref25_All_l1
 with_reducible repeat' (first | exact m_F_raddleref25_Check _ | exact Le.rfl _ | refine Le.loop _ ?_ | refine Le.bind ?_ ?_ | refine Le.ite ?_ ?_ | refine Le.sum ?_ ?_ | refine Le.prod ?_ | intro _ | exact Empty.elim (by assumption) | dsimp only)
theorem m_F_raddleref25_Used (p0:api_Stitch):Le (K_raddleref25_Used p0) (F_raddleref25_Used p0):=by
 unfold K_raddleref25_Used F_raddleref25_Used
 with_reducible repeat' (first | exact Le.rfl _ | refine Le.loop _ ?_ | refine Le.bind ?_ ?_ | refine Le.ite ?_ ?_ | refine Le.sum ?_ ?_ | refine Le.prod ?_ | intro _ | exact Empty.elim (by assumption) | dsimp only)
theorem m_F_raddleref25_Gives (p0:api_Stitch):Le (K_raddleref25_Gives p0) (F_raddleref25_Gives p0):=by
 unfold K_raddleref25_Gives F_raddleref25_Gives
 with_reducible repeat' (first | exact Le.rfl _ | refine Le.loop _ ?_ | refine Le.bind ?_ ?_ | refine Le.ite ?_ ?_ | refine Le.sum ?_ ?_ | refine Le.prod ?_ | intro _ | exact Empty.elim (by assumption) | dsimp only)
theorem m_raddleref25_sums_l1 (p0:(List api_Stitch)):∀ s,Le (K_raddleref25_sums_l1 p0 s) (raddleref25_sums_l1 p0 s):=by
 unfold K_raddleref25_sums_l1 raddleref25_sums_l1
 with_reducible repeat' (first | exact m_F_raddleref25_Used _ | exact m_F_raddleref25_Gives _ | exact Le.rfl _ | refine Le.loop _ ?_ | refine Le.bind ?_ ?_ | refine Le.ite ?_ ?_ | refine Le.sum ?_ ?_ | refine Le.prod ?_ | intro _ | exact Empty.elim (by assumption) | dsimp only)
theorem m_F_raddleref25_sums (p0:(List api_Stitch)):Le (K_raddleref25_sums p0) (F_raddleref25_sums p0):=by
 unfold K_raddleref25_sums F_raddleref25_sums
 with_reducible repeat' (first | exact m_raddleref25_sums_l1 _ | exact Le.rfl _ | refine Le.loop _ ?_ | refine Le.bind ?_ ?_ | refine Le.ite ?_ ?_ | refine Le.sum ?_ ?_ | refine Le.prod ?_ | intro _ | exact Empty.elim (by assumption) | dsimp only)
theorem m_F_raddleref25_All (p0:(List api_Stitch)):Le (K_raddleref25_All p0) (F_raddleref25_All p0):=by
 unfold K_raddleref25_All F_raddleref25_All
 with_reducible repeat' (first | exact m_raddleref25_All_l1 _ | exact m_F_raddleref25_sums _ | exact Le.rfl _ | refine Le.loop _ ?_ | refine Le.bind ?_ ?_ | refine Le.ite ?_ ?_ | refine Le.sum ?_ ?_ | refine Le.prod ?_ | intro _ | exact Empty.elim (by assumption) | dsimp only)
theorem m_raddleref25_Decimal_l1 :∀ s,Le (K_raddleref25_Decimal_l1 s) (raddleref25_Decimal_l1 s):=by
 unfold K_raddleref25_Decimal_l1 raddleref25_Decimal_l1
 with_reducible repeat' (first | exact Le.rfl _ | refine Le.loop _ ?_ | refine Le.bind ?_ ?_ | refine Le.ite ?_ ?_ | refine Le.sum ?_ ?_ | refine Le.prod ?_ | intro _ | exact Empty.elim (by assumption) | dsimp only)
theorem m_F_raddleref25_Decimal (p0:Int):Le (K_raddleref25_Decimal p0) (F_raddleref25_Decimal p0):=by
 unfold K_raddleref25_Decimal F_raddleref25_Decimal
 with_reducible repeat' (first | exact m_raddleref25_Decimal_l1 | exact Le.rfl _ | refine Le.loop _ ?_ | refine Le.bind ?_ ?_ | refine Le.ite ?_ ?_ | refine Le.sum ?_ ?_ | refine Le.prod ?_ | intro _ | exact Empty.elim (by assumption) | dsimp only)
theorem m_F_raddleref25_one (p0:api_Stitch):Le (K_raddleref25_one p0) (F_raddleref25_one p0):=by
 unfold K_raddleref25_one F_raddleref25_one
 with_reducible repeat' (first | exact m_F_raddleref25_Decimal _ | exact Le.rfl _ | refine Le.loop _ ?_ | refine Le.bind ?_ ?_ | refine Le.ite ?_ ?_ | refine Le.sum ?_ ?_ | refine Le.prod ?_ | intro _ | exact Empty.elim (by assumption) | dsimp only)
theorem m_raddleref25_Written_l1 (p0:(List api_Stitch)):∀ s,Le (K_raddleref25_Written_l1 p0 s) (raddleref25_Written_l1 p0 s):=by
 unfold K_raddleref25_Written_l1 raddleref25_Written_l1
 with_reducible repeat' (first | exact Le.rfl _ | refine Le.loop _ ?_ | refine Le.bind ?_ ?_ | refine Le.ite ?_ ?_ | refine Le.sum ?_ ?_ | refine Le.prod ?_ | intro _ | exact Empty.elim (by assumption) | dsimp only)
theorem m_raddleref25_Written_l2 (p0:(List api_Stitch)):∀ s,Le (K_raddleref25_Written_l2 p0 s) (raddleref25_Written_l2 p0 s):=by
 unfold K_raddleref25_Written_l2 raddleref25_Written_l2
 with_reducible repeat' (first | exact m_F_raddleref25_one _ | exact m_raddleref25_Written_l1 _ | exact m_F_raddleref25_Decimal _ | exact Le.rfl _ | refine Le.loop _ ?_ | refine Le.bind ?_ ?_ | refine Le.ite ?_ ?_ | refine Le.sum ?_ ?_ | refine Le.prod ?_ | intro _ | exact Empty.elim (by assumption) | dsimp only)
theorem m_F_raddleref25_Written (p0:(List api_Stitch)):Le (K_raddleref25_Written p0) (F_raddleref25_Written p0):=by
 unfold K_raddleref25_Written F_raddleref25_Written
 with_reducible repeat' (first | exact m_raddleref25_Written_l2 _ | exact Le.rfl _ | refine Le.loop _ ?_ | refine Le.bind ?_ ?_ | refine Le.ite ?_ ?_ | refine Le.sum ?_ ?_ | refine Le.prod ?_ | intro _ | exact Empty.elim (by assumption) | dsimp only)
theorem m_F_raddleref25_Parse (p0:ByteArray):Le (K_raddleref25_Parse p0) (F_raddleref25_Parse p0):=by
 unfold K_raddleref25_Parse F_raddleref25_Parse
 with_reducible repeat' (first | exact m_F_raddleref25_Cut _ _ | exact m_raddleref25_Parse_l1 _ | exact m_F_raddleref25_All _ | exact m_F_raddleref25_Written _ | exact Le.rfl _ | refine Le.loop _ ?_ | refine Le.bind ?_ ?_ | refine Le.ite ?_ ?_ | refine Le.sum ?_ ?_ | refine Le.prod ?_ | intro _ | exact Empty.elim (by assumption) | dsimp only)
theorem m_F_raddlelaw46_cells (p0:ByteArray):Le (K_raddlelaw46_cells p0) (F_raddlelaw46_cells p0):=by
 unfold K_raddlelaw46_cells F_raddlelaw46_cells
 with_reducible repeat' (first | exact m_F_raddleref25_Parse _ | exact Le.rfl _ | refine Le.loop _ ?_ | refine Le.bind ?_ ?_ | refine Le.ite ?_ ?_ | refine Le.sum ?_ ?_ | refine Le.prod ?_ | intro _ | exact Empty.elim (by assumption) | dsimp only)
theorem m_F_stitch_forms (p0:Int):Le (K_stitch_forms p0) (F_stitch_forms p0):=by
 unfold K_stitch_forms F_stitch_forms
 with_reducible repeat' (first | exact Le.rfl _ | refine Le.loop _ ?_ | refine Le.bind ?_ ?_ | refine Le.ite ?_ ?_ | refine Le.sum ?_ ?_ | refine Le.prod ?_ | intro _ | exact Empty.elim (by assumption) | dsimp only)
theorem m_F_stitch_within (p0:Int) (p1:(Int × Int)):Le (K_stitch_within p0 p1) (F_stitch_within p0 p1):=by
 unfold K_stitch_within F_stitch_within
 with_reducible repeat' (first | exact Le.rfl _ | refine Le.loop _ ?_ | refine Le.bind ?_ ?_ | refine Le.ite ?_ ?_ | refine Le.sum ?_ ?_ | refine Le.prod ?_ | intro _ | exact Empty.elim (by assumption) | dsimp only)
theorem m_F_stitch_Check (p0:api_Stitch):Le (K_stitch_Check p0) (F_stitch_Check p0):=by
 unfold K_stitch_Check F_stitch_Check
 with_reducible repeat' (first | exact m_F_stitch_forms _ | exact m_F_stitch_within _ _ | exact Le.rfl _ | refine Le.loop _ ?_ | refine Le.bind ?_ ?_ | refine Le.ite ?_ ?_ | refine Le.sum ?_ ?_ | refine Le.prod ?_ | intro _ | exact Empty.elim (by assumption) | dsimp only)
theorem m_F_stitch_All_1 (p0:api_Stitch):Le (K_stitch_All_1 p0) (F_stitch_All_1 p0):=by
 unfold K_stitch_All_1 F_stitch_All_1
 with_reducible repeat' (first | exact m_F_stitch_Check _ | exact Le.rfl _ | refine Le.loop _ ?_ | refine Le.bind ?_ ?_ | refine Le.ite ?_ ?_ | refine Le.sum ?_ ?_ | refine Le.prod ?_ | intro _ | exact Empty.elim (by assumption) | dsimp only)
theorem m_slices_IndexFunc___api_Stitch_api_Stitch__s0_l1 (p0:(List api_Stitch)):∀ s,Le (K_slices_IndexFunc___api_Stitch_api_Stitch__s0_l1 p0 s) (slices_IndexFunc___api_Stitch_api_Stitch__s0_l1 p0 s):=by
 unfold K_slices_IndexFunc___api_Stitch_api_Stitch__s0_l1 slices_IndexFunc___api_Stitch_api_Stitch__s0_l1
 with_reducible repeat' (first | exact m_F_stitch_All_1 _ | exact Le.rfl _ | refine Le.loop _ ?_ | refine Le.bind ?_ ?_ | refine Le.ite ?_ ?_ | refine Le.sum ?_ ?_ | refine Le.prod ?_ | intro _ | exact Empty.elim (by assumption) | dsimp only)
theorem m_F_slices_IndexFunc___api_Stitch_api_Stitch__s0 (p0:(List api_Stitch)):Le (K_slices_IndexFunc___api_Stitch_api_Stitch__s0 p0) (F_slices_IndexFunc___api_Stitch_api_Stitch__s0 p0):=by
 unfold K_slices_IndexFunc___api_Stitch_api_Stitch__s0 F_slices_IndexFunc___api_Stitch_api_Stitch__s0
 with_reducible repeat' (first | exact m_slices_IndexFunc___api_Stitch_api_Stitch__s0_l1 _ | exact Le.rfl _ | refine Le.loop _ ?_ | refine Le.bind ?_ ?_ | refine Le.ite ?_ ?_ | refine Le.sum ?_ ?_ | refine Le.prod ?_ | intro _ | exact Empty.elim (by assumption) | dsimp only)
theorem m_F_slices_ContainsFunc___api_Stitch_api_Stitch__s0 (p0:(List api_Stitch)):Le (K_slices_ContainsFunc___api_Stitch_api_Stitch__s0 p0) (F_slices_ContainsFunc___api_Stitch_api_Stitch__s0 p0):=by
 unfold K_slices_ContainsFunc___api_Stitch_api_Stitch__s0 F_slices_ContainsFunc___api_Stitch_api_Stitch__s0
 with_reducible repeat' (first | exact m_F_slices_IndexFunc___api_Stitch_api_Stitch__s0 _ | exact Le.rfl _ | refine Le.loop _ ?_ | refine Le.bind ?_ ?_ | refine Le.ite ?_ ?_ | refine Le.sum ?_ ?_ | refine Le.prod ?_ | intro _ | exact Empty.elim (by assumption) | dsimp only)
theorem m_F_stitch_loops (p0:api_Stitch) (p1:Int):Le (K_stitch_loops p0 p1) (F_stitch_loops p0 p1):=by
 unfold K_stitch_loops F_stitch_loops
 with_reducible repeat' (first | exact Le.rfl _ | refine Le.loop _ ?_ | refine Le.bind ?_ ?_ | refine Le.ite ?_ ?_ | refine Le.sum ?_ ?_ | refine Le.prod ?_ | intro _ | exact Empty.elim (by assumption) | dsimp only)
theorem m_stitch_sum_l1 (p0:(List api_Stitch)):∀ s,Le (K_stitch_sum_l1 p0 s) (stitch_sum_l1 p0 s):=by
 unfold K_stitch_sum_l1 stitch_sum_l1
 with_reducible repeat' (first | exact m_F_stitch_forms _ | exact m_F_stitch_loops _ _ | exact Le.rfl _ | refine Le.loop _ ?_ | refine Le.bind ?_ ?_ | refine Le.ite ?_ ?_ | refine Le.sum ?_ ?_ | refine Le.prod ?_ | intro _ | exact Empty.elim (by assumption) | dsimp only)
theorem m_F_stitch_sum (p0:(List api_Stitch)):Le (K_stitch_sum p0) (F_stitch_sum p0):=by
 unfold K_stitch_sum F_stitch_sum
 with_reducible repeat' (first | exact m_stitch_sum_l1 _ | exact Le.rfl _ | refine Le.loop _ ?_ | refine Le.bind ?_ ?_ | refine Le.ite ?_ ?_ | refine Le.sum ?_ ?_ | refine Le.prod ?_ | intro _ | exact Empty.elim (by assumption) | dsimp only)
theorem m_F_stitch_All (p0:(List api_Stitch)):Le (K_stitch_All p0) (F_stitch_All p0):=by
 unfold K_stitch_All F_stitch_All
 with_reducible repeat' (first | exact m_F_slices_ContainsFunc___api_Stitch_api_Stitch__s0 _ | exact m_F_stitch_sum _ | exact Le.rfl _ | refine Le.loop _ ?_ | refine Le.bind ?_ ?_ | refine Le.ite ?_ ?_ | refine Le.sum ?_ ?_ | refine Le.prod ?_ | intro _ | exact Empty.elim (by assumption) | dsimp only)
theorem m_compare_Edits_l1 (p0:(List api_Stitch)) (p1:(List api_Stitch)):∀ s,Le (K_compare_Edits_l1 p0 p1 s) (compare_Edits_l1 p0 p1 s):=by
 unfold K_compare_Edits_l1 compare_Edits_l1
 with_reducible repeat' (first | exact m_F_stitch_All _ | exact Le.rfl _ | refine Le.loop _ ?_ | refine Le.bind ?_ ?_ | refine Le.ite ?_ ?_ | refine Le.sum ?_ ?_ | refine Le.prod ?_ | intro _ | exact Empty.elim (by assumption) | dsimp only)
theorem m_F_compare_cellTable_1 (p0:api_Stitch):Le (K_compare_cellTable_1 p0) (F_compare_cellTable_1 p0):=by
 unfold K_compare_cellTable_1 F_compare_cellTable_1
 with_reducible repeat' (first | exact Le.rfl _ | refine Le.loop _ ?_ | refine Le.bind ?_ ?_ | refine Le.ite ?_ ?_ | refine Le.sum ?_ ?_ | refine Le.prod ?_ | intro _ | exact Empty.elim (by assumption) | dsimp only)
theorem m_F_compare_cellTable_2 (p0:api_Stitch) (p1:api_Stitch):Le (K_compare_cellTable_2 p0 p1) (F_compare_cellTable_2 p0 p1):=by
 unfold K_compare_cellTable_2 F_compare_cellTable_2
 with_reducible repeat' (first | exact Le.rfl _ | refine Le.loop _ ?_ | refine Le.bind ?_ ?_ | refine Le.ite ?_ ?_ | refine Le.sum ?_ ?_ | refine Le.prod ?_ | intro _ | exact Empty.elim (by assumption) | dsimp only)
theorem m_compare_table_api_Stitch__s0_l1 (s16:Int) (p0:(List api_Stitch)) (p1:(List api_Stitch)) (s15:List (List Int)):∀ s,Le (K_compare_table_api_Stitch__s0_l1 s16 p0 p1 s15 s) (compare_table_api_Stitch__s0_l1 s16 p0 p1 s15 s):=by
 unfold K_compare_table_api_Stitch__s0_l1 compare_table_api_Stitch__s0_l1
 with_reducible repeat' (first | exact m_F_compare_cellTable_1 _ | exact m_F_compare_cellTable_2 _ _ | exact Le.rfl _ | refine Le.loop _ ?_ | refine Le.bind ?_ ?_ | refine Le.ite ?_ ?_ | refine Le.sum ?_ ?_ | refine Le.prod ?_ | intro _ | exact Empty.elim (by assumption) | dsimp only)
theorem m_compare_table_api_Stitch__s0_l2 (p1:(List api_Stitch)) (p0:(List api_Stitch)):∀ s,Le (K_compare_table_api_Stitch__s0_l2 p1 p0 s) (compare_table_api_Stitch__s0_l2 p1 p0 s):=by
 unfold K_compare_table_api_Stitch__s0_l2 compare_table_api_Stitch__s0_l2
 with_reducible repeat' (first | exact m_compare_table_api_Stitch__s0_l1 _ _ _ _ | exact Le.rfl _ | refine Le.loop _ ?_ | refine Le.bind ?_ ?_ | refine Le.ite ?_ ?_ | refine Le.sum ?_ ?_ | refine Le.prod ?_ | intro _ | exact Empty.elim (by assumption) | dsimp only)
theorem m_F_compare_table_api_Stitch__s0 (p0:(List api_Stitch)) (p1:(List api_Stitch)):Le (K_compare_table_api_Stitch__s0 p0 p1) (F_compare_table_api_Stitch__s0 p0 p1):=by
 unfold K_compare_table_api_Stitch__s0 F_compare_table_api_Stitch__s0
 with_reducible repeat' (first | exact m_compare_table_api_Stitch__s0_l2 _ _ | exact Le.rfl _ | refine Le.loop _ ?_ | refine Le.bind ?_ ?_ | refine Le.ite ?_ ?_ | refine Le.sum ?_ ?_ | refine Le.prod ?_ | intro _ | exact Empty.elim (by assumption) | dsimp only)
theorem m_F_compare_cellTable (p0:(List api_Stitch)) (p1:(List api_Stitch)):Le (K_compare_cellTable p0 p1) (F_compare_cellTable p0 p1):=by
 unfold K_compare_cellTable F_compare_cellTable
 with_reducible repeat' (first | exact m_F_compare_table_api_Stitch__s0 _ _ | exact Le.rfl _ | refine Le.loop _ ?_ | refine Le.bind ?_ ?_ | refine Le.ite ?_ ?_ | refine Le.sum ?_ ?_ | refine Le.prod ?_ | intro _ | exact Empty.elim (by assumption) | dsimp only)
theorem m_compare_Edits_l2 (p0:(List api_Stitch)) (p1:(List api_Stitch)) (r30:(List (List Int))):∀ s,Le (K_compare_Edits_l2 p0 p1 r30 s) (compare_Edits_l2 p0 p1 r30 s):=by
 unfold K_compare_Edits_l2 compare_Edits_l2
 with_reducible repeat' (first | exact Le.rfl _ | refine Le.loop _ ?_ | refine Le.bind ?_ ?_ | refine Le.ite ?_ ?_ | refine Le.sum ?_ ?_ | refine Le.prod ?_ | intro _ | exact Empty.elim (by assumption) | dsimp only)
theorem m_F_compare_Edits (p0:(List api_Stitch)) (p1:(List api_Stitch)):Le (K_compare_Edits p0 p1) (F_compare_Edits p0 p1):=by
 unfold K_compare_Edits F_compare_Edits
 with_reducible repeat' (first | exact m_compare_Edits_l1 _ _ | exact m_F_compare_cellTable _ _ | exact m_compare_Edits_l2 _ _ _ | exact Le.rfl _ | refine Le.loop _ ?_ | refine Le.bind ?_ ?_ | refine Le.ite ?_ ?_ | refine Le.sum ?_ ?_ | refine Le.prod ?_ | intro _ | exact Empty.elim (by assumption) | dsimp only)
theorem m_raddleref26_Parse_l1 (r8:(List ByteArray)) (s54:Int):∀ s,Le (K_raddleref26_Parse_l1 r8 s54 s) (raddleref26_Parse_l1 r8 s54 s):=by
 unfold K_raddleref26_Parse_l1 raddleref26_Parse_l1
 with_reducible repeat' (first | exact Le.rfl _ | refine Le.loop _ ?_ | refine Le.bind ?_ ?_ | refine Le.ite ?_ ?_ | refine Le.sum ?_ ?_ | refine Le.prod ?_ | intro _ | exact Empty.elim (by assumption) | dsimp only)
theorem m_raddleref26_Parse_l2 (r8:(List ByteArray)):∀ s,Le (K_raddleref26_Parse_l2 r8 s) (raddleref26_Parse_l2 r8 s):=by
 unfold K_raddleref26_Parse_l2 raddleref26_Parse_l2
 with_reducible repeat' (first | exact m_raddleref26_Parse_l1 _ _ | exact m_F_raddleref25_Parse _ | exact Le.rfl _ | refine Le.loop _ ?_ | refine Le.bind ?_ ?_ | refine Le.ite ?_ ?_ | refine Le.sum ?_ ?_ | refine Le.prod ?_ | intro _ | exact Empty.elim (by assumption) | dsimp only)
theorem m_F_raddleref25_Uses (p0:(List api_Stitch)):Le (K_raddleref25_Uses p0) (F_raddleref25_Uses p0):=by
 unfold K_raddleref25_Uses F_raddleref25_Uses
 with_reducible repeat' (first | exact m_F_raddleref25_All _ | exact m_F_raddleref25_sums _ | exact Le.rfl _ | refine Le.loop _ ?_ | refine Le.bind ?_ ?_ | refine Le.ite ?_ ?_ | refine Le.sum ?_ ?_ | refine Le.prod ?_ | intro _ | exact Empty.elim (by assumption) | dsimp only)
theorem m_F_raddleref25_Makes (p0:(List api_Stitch)):Le (K_raddleref25_Makes p0) (F_raddleref25_Makes p0):=by
 unfold K_raddleref25_Makes F_raddleref25_Makes
 with_reducible repeat' (first | exact m_F_raddleref25_All _ | exact m_F_raddleref25_sums _ | exact Le.rfl _ | refine Le.loop _ ?_ | refine Le.bind ?_ ?_ | refine Le.ite ?_ ?_ | refine Le.sum ?_ ?_ | refine Le.prod ?_ | intro _ | exact Empty.elim (by assumption) | dsimp only)
theorem m_raddleref26_Check_l1 (p0:api_Chart):∀ s,Le (K_raddleref26_Check_l1 p0 s) (raddleref26_Check_l1 p0 s):=by
 unfold K_raddleref26_Check_l1 raddleref26_Check_l1
 with_reducible repeat' (first | exact m_F_raddleref25_Uses _ | exact m_F_raddleref25_Makes _ | exact Le.rfl _ | refine Le.loop _ ?_ | refine Le.bind ?_ ?_ | refine Le.ite ?_ ?_ | refine Le.sum ?_ ?_ | refine Le.prod ?_ | intro _ | exact Empty.elim (by assumption) | dsimp only)
theorem m_F_raddleref26_Check (p0:api_Chart):Le (K_raddleref26_Check p0) (F_raddleref26_Check p0):=by
 unfold K_raddleref26_Check F_raddleref26_Check
 with_reducible repeat' (first | exact m_raddleref26_Check_l1 _ | exact Le.rfl _ | refine Le.loop _ ?_ | refine Le.bind ?_ ?_ | refine Le.ite ?_ ?_ | refine Le.sum ?_ ?_ | refine Le.prod ?_ | intro _ | exact Empty.elim (by assumption) | dsimp only)
theorem m_F_raddleref26_side (p0:Bool):Le (K_raddleref26_side p0) (F_raddleref26_side p0):=by
 unfold K_raddleref26_side F_raddleref26_side
 with_reducible repeat' (first | exact Le.rfl _ | refine Le.loop _ ?_ | refine Le.bind ?_ ?_ | refine Le.ite ?_ ?_ | refine Le.sum ?_ ?_ | refine Le.prod ?_ | intro _ | exact Empty.elim (by assumption) | dsimp only)
theorem m_raddleref26_Written_l1 (p0:api_Chart):∀ s,Le (K_raddleref26_Written_l1 p0 s) (raddleref26_Written_l1 p0 s):=by
 unfold K_raddleref26_Written_l1 raddleref26_Written_l1
 with_reducible repeat' (first | exact m_F_raddleref25_Written _ | exact m_F_raddleref26_side _ | exact Le.rfl _ | refine Le.loop _ ?_ | refine Le.bind ?_ ?_ | refine Le.ite ?_ ?_ | refine Le.sum ?_ ?_ | refine Le.prod ?_ | intro _ | exact Empty.elim (by assumption) | dsimp only)
theorem m_F_raddleref26_Written (p0:api_Chart):Le (K_raddleref26_Written p0) (F_raddleref26_Written p0):=by
 unfold K_raddleref26_Written F_raddleref26_Written
 with_reducible repeat' (first | exact m_F_raddleref25_Decimal _ | exact m_raddleref26_Written_l1 _ | exact Le.rfl _ | refine Le.loop _ ?_ | refine Le.bind ?_ ?_ | refine Le.ite ?_ ?_ | refine Le.sum ?_ ?_ | refine Le.prod ?_ | intro _ | exact Empty.elim (by assumption) | dsimp only)
theorem m_F_raddleref26_Parse (p0:ByteArray):Le (K_raddleref26_Parse p0) (F_raddleref26_Parse p0):=by
 unfold K_raddleref26_Parse F_raddleref26_Parse
 with_reducible repeat' (first | exact m_F_raddleref25_Cut _ _ | exact m_F_raddleref25_Number _ | exact m_raddleref26_Parse_l2 _ | exact m_F_raddleref26_Check _ | exact m_F_raddleref26_Written _ | exact Le.rfl _ | refine Le.loop _ ?_ | refine Le.bind ?_ ?_ | refine Le.ite ?_ ?_ | refine Le.sum ?_ ?_ | refine Le.prod ?_ | intro _ | exact Empty.elim (by assumption) | dsimp only)
theorem m_F_raddlelaw46_knit (p0:ByteArray):Le (K_raddlelaw46_knit p0) (F_raddlelaw46_knit p0):=by
 unfold K_raddlelaw46_knit F_raddlelaw46_knit
 with_reducible repeat' (first | exact m_F_raddleref26_Parse _ | exact Le.rfl _ | refine Le.loop _ ?_ | refine Le.bind ?_ ?_ | refine Le.ite ?_ ?_ | refine Le.sum ?_ ?_ | refine Le.prod ?_ | intro _ | exact Empty.elim (by assumption) | dsimp only)
theorem m_F_chart_counted (p0:api_Chart):Le (K_chart_counted p0) (F_chart_counted p0):=by
 unfold K_chart_counted F_chart_counted
 with_reducible repeat' (first | exact Le.rfl _ | refine Le.loop _ ?_ | refine Le.bind ?_ ?_ | refine Le.ite ?_ ?_ | refine Le.sum ?_ ?_ | refine Le.prod ?_ | intro _ | exact Empty.elim (by assumption) | dsimp only)
theorem m_F_stitch_Uses (p0:(List api_Stitch)):Le (K_stitch_Uses p0) (F_stitch_Uses p0):=by
 unfold K_stitch_Uses F_stitch_Uses
 with_reducible repeat' (first | exact m_F_stitch_All _ | exact m_F_stitch_sum _ | exact Le.rfl _ | refine Le.loop _ ?_ | refine Le.bind ?_ ?_ | refine Le.ite ?_ ?_ | refine Le.sum ?_ ?_ | refine Le.prod ?_ | intro _ | exact Empty.elim (by assumption) | dsimp only)
theorem m_F_stitch_Makes (p0:(List api_Stitch)):Le (K_stitch_Makes p0) (F_stitch_Makes p0):=by
 unfold K_stitch_Makes F_stitch_Makes
 with_reducible repeat' (first | exact m_F_stitch_All _ | exact m_F_stitch_sum _ | exact Le.rfl _ | refine Le.loop _ ?_ | refine Le.bind ?_ ?_ | refine Le.ite ?_ ?_ | refine Le.sum ?_ ?_ | refine Le.prod ?_ | intro _ | exact Empty.elim (by assumption) | dsimp only)
theorem m_chart_counted_1_l1 {σ τ:Type} (p0:api_Chart) (B B':σ→(Int × chart_count)→Option (σ ⊕ τ)) (hB:∀ s x,Le (B s x) (B' s x)):∀ s,Le (K_chart_counted_1_l1 p0 B s) (chart_counted_1_l1 p0 B' s):=by
 unfold K_chart_counted_1_l1 chart_counted_1_l1
 with_reducible repeat' (first | exact hB _ _ | exact m_F_stitch_Uses _ | exact m_F_stitch_Makes _ | exact Le.rfl _ | refine Le.loop _ ?_ | refine Le.bind ?_ ?_ | refine Le.ite ?_ ?_ | refine Le.sum ?_ ?_ | refine Le.prod ?_ | intro _ | exact Empty.elim (by assumption) | dsimp only)
theorem m_I_chart_counted_1 (p0:api_Chart) (σ τ:Type) (B B':σ→(Int × chart_count)→Option (σ ⊕ τ)) (hB:∀ s x,Le (B s x) (B' s x)) (gz0:σ):Le (K_I_chart_counted_1 p0 σ τ B gz0) (I_chart_counted_1 p0 σ τ B' gz0):=by
 unfold K_I_chart_counted_1 I_chart_counted_1
 with_reducible repeat' (first | exact hB _ _ | exact m_chart_counted_1_l1 _ _ _ hB | exact Le.rfl _ | refine Le.loop _ ?_ | refine Le.bind ?_ ?_ | refine Le.ite ?_ ?_ | refine Le.sum ?_ ?_ | refine Le.prod ?_ | intro _ | exact Empty.elim (by assumption) | dsimp only)
theorem m_chart_Check_l2 :∀ s x,Le (K_chart_Check_l2 s x) (chart_Check_l2 s x):=by
 unfold K_chart_Check_l2 chart_Check_l2
 with_reducible repeat' (first | exact Le.rfl _ | refine Le.loop _ ?_ | refine Le.bind ?_ ?_ | refine Le.ite ?_ ?_ | refine Le.sum ?_ ?_ | refine Le.prod ?_ | intro _ | exact Empty.elim (by assumption) | dsimp only)
theorem m_F_chart_Check (p0:api_Chart):Le (K_chart_Check p0) (F_chart_Check p0):=by
 unfold K_chart_Check F_chart_Check
 with_reducible repeat' (first | exact m_F_chart_counted _ | refine m_I_chart_counted_1 _ _ _ _ _ ?_ _ | exact m_chart_Check_l2 | exact Le.rfl _ | refine Le.loop _ ?_ | refine Le.bind ?_ ?_ | refine Le.ite ?_ ?_ | refine Le.sum ?_ ?_ | refine Le.prod ?_ | intro _ | exact Empty.elim (by assumption) | dsimp only)
theorem m_F_compare_Charts_1 (p0:api_Row):Le (K_compare_Charts_1 p0) (F_compare_Charts_1 p0):=by
 unfold K_compare_Charts_1 F_compare_Charts_1
 with_reducible repeat' (first | exact Le.rfl _ | refine Le.loop _ ?_ | refine Le.bind ?_ ?_ | refine Le.ite ?_ ?_ | refine Le.sum ?_ ?_ | refine Le.prod ?_ | intro _ | exact Empty.elim (by assumption) | dsimp only)
theorem m_F_compare_Charts_2 (p0:api_Row) (p1:api_Row):Le (K_compare_Charts_2 p0 p1) (F_compare_Charts_2 p0 p1):=by
 unfold K_compare_Charts_2 F_compare_Charts_2
 with_reducible repeat' (first | exact m_F_compare_cellTable _ _ | exact Le.rfl _ | refine Le.loop _ ?_ | refine Le.bind ?_ ?_ | refine Le.ite ?_ ?_ | refine Le.sum ?_ ?_ | refine Le.prod ?_ | intro _ | exact Empty.elim (by assumption) | dsimp only)
theorem m_compare_table_api_Row__s0_l1 (s16:Int) (p0:(List api_Row)) (p1:(List api_Row)) (s15:List (List Int)):∀ s,Le (K_compare_table_api_Row__s0_l1 s16 p0 p1 s15 s) (compare_table_api_Row__s0_l1 s16 p0 p1 s15 s):=by
 unfold K_compare_table_api_Row__s0_l1 compare_table_api_Row__s0_l1
 with_reducible repeat' (first | exact m_F_compare_Charts_1 _ | exact m_F_compare_Charts_2 _ _ | exact Le.rfl _ | refine Le.loop _ ?_ | refine Le.bind ?_ ?_ | refine Le.ite ?_ ?_ | refine Le.sum ?_ ?_ | refine Le.prod ?_ | intro _ | exact Empty.elim (by assumption) | dsimp only)
theorem m_compare_table_api_Row__s0_l2 (p1:(List api_Row)) (p0:(List api_Row)):∀ s,Le (K_compare_table_api_Row__s0_l2 p1 p0 s) (compare_table_api_Row__s0_l2 p1 p0 s):=by
 unfold K_compare_table_api_Row__s0_l2 compare_table_api_Row__s0_l2
 with_reducible repeat' (first | exact m_compare_table_api_Row__s0_l1 _ _ _ _ | exact Le.rfl _ | refine Le.loop _ ?_ | refine Le.bind ?_ ?_ | refine Le.ite ?_ ?_ | refine Le.sum ?_ ?_ | refine Le.prod ?_ | intro _ | exact Empty.elim (by assumption) | dsimp only)
theorem m_F_compare_table_api_Row__s0 (p0:(List api_Row)) (p1:(List api_Row)):Le (K_compare_table_api_Row__s0 p0 p1) (F_compare_table_api_Row__s0 p0 p1):=by
 unfold K_compare_table_api_Row__s0 F_compare_table_api_Row__s0
 with_reducible repeat' (first | exact m_compare_table_api_Row__s0_l2 _ _ | exact Le.rfl _ | refine Le.loop _ ?_ | refine Le.bind ?_ ?_ | refine Le.ite ?_ ?_ | refine Le.sum ?_ ?_ | refine Le.prod ?_ | intro _ | exact Empty.elim (by assumption) | dsimp only)
theorem m_F_compare_Charts (p0:api_Chart) (p1:api_Chart):Le (K_compare_Charts p0 p1) (F_compare_Charts p0 p1):=by
 unfold K_compare_Charts F_compare_Charts
 with_reducible repeat' (first | exact m_F_chart_Check _ | exact m_F_compare_table_api_Row__s0 _ _ | exact Le.rfl _ | refine Le.loop _ ?_ | refine Le.bind ?_ ?_ | refine Le.ite ?_ ?_ | refine Le.sum ?_ ?_ | refine Le.prod ?_ | intro _ | exact Empty.elim (by assumption) | dsimp only)
theorem m_raddleref46_Same_l1 (p0:(List api_CellStep)) (p1:(List api_CellStep)):∀ s,Le (K_raddleref46_Same_l1 p0 p1 s) (raddleref46_Same_l1 p0 p1 s):=by
 unfold K_raddleref46_Same_l1 raddleref46_Same_l1
 with_reducible repeat' (first | exact Le.rfl _ | refine Le.loop _ ?_ | refine Le.bind ?_ ?_ | refine Le.ite ?_ ?_ | refine Le.sum ?_ ?_ | refine Le.prod ?_ | intro _ | exact Empty.elim (by assumption) | dsimp only)
theorem m_F_raddleref46_Same (p0:(List api_CellStep)) (p1:(List api_CellStep)):Le (K_raddleref46_Same p0 p1) (F_raddleref46_Same p0 p1):=by
 unfold K_raddleref46_Same F_raddleref46_Same
 with_reducible repeat' (first | exact m_raddleref46_Same_l1 _ _ | exact Le.rfl _ | refine Le.loop _ ?_ | refine Le.bind ?_ ?_ | refine Le.ite ?_ ?_ | refine Le.sum ?_ ?_ | refine Le.prod ?_ | intro _ | exact Empty.elim (by assumption) | dsimp only)
set_option maxRecDepth 1000000 in
theorem kc_raddlelaw46_alive_0:F_raddlelaw46_cloth (⟨#[46,120,10]⟩:ByteArray)=some (api_Grid.mk 2 1 [false,true]):=m_F_raddlelaw46_cloth _ _ (by kernel_rfl)
set_option maxRecDepth 1000000 in
theorem kc_raddlelaw46_alive_1:F_raddlelaw46_cloth (⟨#[120,46,10]⟩:ByteArray)=some (api_Grid.mk 2 1 [true,false]):=m_F_raddlelaw46_cloth _ _ (by kernel_rfl)
set_option maxRecDepth 1000000 in
theorem kc_raddlelaw46_alive_2:F_compare_Cells ((api_Grid.mk 2 1 [false,true])) ((api_Grid.mk 2 1 [true,false]))=some (2,0):=m_F_compare_Cells _ _ _ (by kernel_rfl)
set_option maxRecDepth 1000000 in
theorem kc_raddlelaw46_alive_3:F_compare_Nearest ((api_Grid.mk 2 1 [false,true])) ((api_Grid.mk 2 1 [true,false])) 0=some (0,(0,((api_Point.mk 1 0),0))):=m_F_compare_Nearest _ _ _ _ (by kernel_rfl)
set_option maxRecDepth 1000000 in
theorem kc_raddlelaw46_alive_4:F_raddlelaw46_cells (⟨#[107,32,112,32,107]⟩:ByteArray)=some [(api_Stitch.mk 1 false 0 0),(api_Stitch.mk 1 true 0 0),(api_Stitch.mk 1 false 0 0)]:=m_F_raddlelaw46_cells _ _ (by kernel_rfl)
set_option maxRecDepth 1000000 in
theorem kc_raddlelaw46_alive_5:F_raddlelaw46_cells (⟨#[107,32,121,111,32,107]⟩:ByteArray)=some [(api_Stitch.mk 1 false 0 0),(api_Stitch.mk 2 false 0 0),(api_Stitch.mk 1 false 0 0)]:=m_F_raddlelaw46_cells _ _ (by kernel_rfl)
set_option maxRecDepth 1000000 in
theorem kc_raddlelaw46_alive_6:F_compare_Edits ([(api_Stitch.mk 1 false 0 0),(api_Stitch.mk 1 true 0 0),(api_Stitch.mk 1 false 0 0)]) ([(api_Stitch.mk 1 false 0 0),(api_Stitch.mk 2 false 0 0),(api_Stitch.mk 1 false 0 0)])=some ([(api_CellStep.mk 1 (api_Stitch.mk 0 false 0 0)),(api_CellStep.mk 2 (api_Stitch.mk 2 false 0 0)),(api_CellStep.mk 1 (api_Stitch.mk 0 false 0 0))],(1,0)):=m_F_compare_Edits _ _ _ (by kernel_rfl)
set_option maxRecDepth 1000000 in
theorem kc_raddlelaw46_alive_7:F_raddlelaw46_cells (⟨#[107,32,112]⟩:ByteArray)=some [(api_Stitch.mk 1 false 0 0),(api_Stitch.mk 1 true 0 0)]:=m_F_raddlelaw46_cells _ _ (by kernel_rfl)
set_option maxRecDepth 1000000 in
theorem kc_raddlelaw46_alive_8:F_raddlelaw46_cells (⟨#[112]⟩:ByteArray)=some [(api_Stitch.mk 1 true 0 0)]:=m_F_raddlelaw46_cells _ _ (by kernel_rfl)
set_option maxRecDepth 1000000 in
theorem kc_raddlelaw46_alive_9:F_compare_Edits ([(api_Stitch.mk 1 false 0 0),(api_Stitch.mk 1 true 0 0)]) ([(api_Stitch.mk 1 true 0 0)])=some ([(api_CellStep.mk 4 (api_Stitch.mk 0 false 0 0)),(api_CellStep.mk 1 (api_Stitch.mk 0 false 0 0))],(1,0)):=m_F_compare_Edits _ _ _ (by kernel_rfl)
set_option maxRecDepth 1000000 in
theorem kc_raddlelaw46_alive_10:F_raddlelaw46_knit (⟨#[115,116,97,114,116,32,49,10,102,114,111,110,116,32,107,10]⟩:ByteArray)=some (api_Chart.mk 1 [(api_Row.mk false [(api_Stitch.mk 1 false 0 0)])]):=m_F_raddlelaw46_knit _ _ (by kernel_rfl)
set_option maxRecDepth 1000000 in
theorem kc_raddlelaw46_alive_11:F_raddlelaw46_knit (⟨#[115,116,97,114,116,32,49,10,102,114,111,110,116,32,112,10,98,97,99,107,32,107,10]⟩:ByteArray)=some (api_Chart.mk 1 [(api_Row.mk false [(api_Stitch.mk 1 true 0 0)]),(api_Row.mk true [(api_Stitch.mk 1 false 0 0)])]):=m_F_raddlelaw46_knit _ _ (by kernel_rfl)
set_option maxRecDepth 1000000 in
theorem kc_raddlelaw46_alive_12:F_compare_Charts ((api_Chart.mk 1 [(api_Row.mk false [(api_Stitch.mk 1 false 0 0)])])) ((api_Chart.mk 1 [(api_Row.mk false [(api_Stitch.mk 1 true 0 0)]),(api_Row.mk true [(api_Stitch.mk 1 false 0 0)])]))=some (3,0):=m_F_compare_Charts _ _ _ (by kernel_rfl)
set_option maxRecDepth 1000000 in
theorem kc_raddlelaw46_alive_13:F_raddleref46_Same (([(api_CellStep.mk 1 (api_Stitch.mk 0 false 0 0)),(api_CellStep.mk 2 (api_Stitch.mk 2 false 0 0)),(api_CellStep.mk 1 (api_Stitch.mk 0 false 0 0))],(1,0))).1 [(api_CellStep.mk 1 (api_Stitch.mk 0 false 0 0)),(api_CellStep.mk 2 (api_Stitch.mk 2 false 0 0)),(api_CellStep.mk 1 (api_Stitch.mk 0 false 0 0))]=some true:=m_F_raddleref46_Same _ _ _ (by kernel_rfl)
set_option maxRecDepth 1000000 in
theorem kc_raddlelaw46_alive_14:F_raddleref46_Same (([(api_CellStep.mk 4 (api_Stitch.mk 0 false 0 0)),(api_CellStep.mk 1 (api_Stitch.mk 0 false 0 0))],(1,0))).1 [(api_CellStep.mk 4 (api_Stitch.mk 0 false 0 0)),(api_CellStep.mk 1 (api_Stitch.mk 0 false 0 0))]=some true:=m_F_raddleref46_Same _ _ _ (by kernel_rfl)
noncomputable def F_raddlelaw46_alive :Option Bool:=
 (F_raddlelaw46_cloth (⟨#[46,120,10]⟩:ByteArray)).bind fun r3=>
 (F_raddlelaw46_cloth (⟨#[120,46,10]⟩:ByteArray)).bind fun a7=>
 (F_compare_Cells r3 a7).bind fun a8=>
 (F_compare_Nearest r3 a7 0).bind fun a0=>
 (F_raddlelaw46_cells (⟨#[107,32,112,32,107]⟩:ByteArray)).bind fun aa=>
 (F_raddlelaw46_cells (⟨#[107,32,121,111,32,107]⟩:ByteArray)).bind fun ab=>
 (F_compare_Edits aa ab).bind fun a2=>
 (F_raddlelaw46_cells (⟨#[107,32,112]⟩:ByteArray)).bind fun ac=>
 (F_raddlelaw46_cells (⟨#[112]⟩:ByteArray)).bind fun ae=>
 (F_compare_Edits ac ae).bind fun a4=>
 (F_raddlelaw46_knit (⟨#[115,116,97,114,116,32,49,10,102,114,111,110,116,32,107,10]⟩:ByteArray)).bind fun af=>
 (F_raddlelaw46_knit (⟨#[115,116,97,114,116,32,49,10,102,114,111,110,116,32,112,10,98,97,99,107,32,107,10]⟩:ByteArray)).bind fun ag=>
 (F_compare_Charts af ag).bind fun a9=>
 if a8.2 == 0 then
  if a0.2.2.2 == 0 then
   if a2.2.2 == 0 then
    if a4.2.2 == 0 then
     Option.bind (α:=Bool) (
      if a9.2 == 0 then
       if a8.1 == 2 then
        if a0.1 == 0 then
         if a0.2.1 == 0 then
          if ((a0.2.2.1.X == 1) && ((a0.2.2.1.Y == 0) && true)) then
           (F_raddleref46_Same a2.1 [(api_CellStep.mk 1 (api_Stitch.mk 0 false 0 0)),(api_CellStep.mk 2 (api_Stitch.mk 2 false 0 0)),(api_CellStep.mk 1 (api_Stitch.mk 0 false 0 0))]).bind fun a5=>
           if a5 then
            if a2.2.1 == 1 then
             (F_raddleref46_Same a4.1 [(api_CellStep.mk 4 (api_Stitch.mk 0 false 0 0)),(api_CellStep.mk 1 (api_Stitch.mk 0 false 0 0))]).bind fun a6=>
             if a6 then
              if a4.2.1 == 1 then
               some (a9.1 == 3)
              else
               none
             else
              none
            else
             none
           else
            none
          else
           none
         else
          none
        else
         none
       else
        none
      else
       some false) fun ah=>
     some ah
    else
     none
   else
    none
  else
   none
 else
  none
theorem c_raddlelaw46_alive (E:Nat→Prop) (w0:World)  (r:Bool) (h:F_raddlelaw46_alive =some r) (S:St0 E [] w0 w0 [] []) :
 Calls Try.prog 31 #[] w0 (Ret (X:=Unit) E [] w0 (fun _=>.bool r) (fun _=>[]) (fun _=>[])):=by
 unfold F_raddlelaw46_alive at h
 refine sEnter (args:=[]) 120 Try.func31 d d (by simp) S (fun a S=>?_)
 refine sSeq (fun K1 bO=>sRegion (sN S fun a S=>?_))
 refine lT (bO _ _ (sSeq (fun K2 bP=>sRegion ?_)))
 obtain ⟨r3,bB,h⟩:=bS h
 have hv_r3:r3=(api_Grid.mk 2 1 [false,true]):=Option.some.inj (bB.symm.trans (by exact kc_raddlelaw46_alive_0))
 refine sCall (X:=Value) (f:=41) (vs:=[.string (⟨#[46,120,10]⟩:ByteArray)]) (val:=c_raddlelaw46_cloth_val r3) (B':=fun _=>[]) (D':=c_raddlelaw46_cloth_D r3) [] [] [] [] [] S (wN d) d callee41 d (by decide) d d (fun E1 w1 S1=>c_raddlelaw46_cloth E1 w1 (⟨#[46,120,10]⟩:ByteArray) r3 bB S1) d (lb d) fun u5 a w S=>?_
 obtain ⟨u6,rfl,bI⟩:=S.mem.know (i:=0) (e:=fRep r_api_Grid (u5) r3) d
 have S:=S.learn (fRep (rL rB) u6 r3.Bits) bI
 obtain ⟨bJ,bK,_,rfl,_⟩:=bI
 obtain ⟨a2,aM,h⟩:=bS h
 have hv_r10:a2=(api_Grid.mk 2 1 [true,false]):=Option.some.inj (aM.symm.trans (by exact kc_raddlelaw46_alive_1))
 refine sCall (X:=Value) (f:=41) (vs:=[.string (⟨#[120,46,10]⟩:ByteArray)]) (val:=c_raddlelaw46_cloth_val a2) (B':=fun _=>[]) (D':=c_raddlelaw46_cloth_D a2) [] [] [] [] [] S (wN d) d callee41 d (by decide) d d (fun E1 w1 S1=>c_raddlelaw46_cloth E1 w1 (⟨#[120,46,10]⟩:ByteArray) a2 aM S1) d (lb d) fun bQ a w S=>?_
 obtain ⟨bR,rfl,b1⟩:=S.mem.know (i:=0) (e:=fRep r_api_Grid (bQ) a2) d
 have S:=S.learn (fRep (rL rB) bR a2.Bits) b1
 obtain ⟨ba,bb,_,rfl,_⟩:=b1
 obtain ⟨ah,bc,h⟩:=bS h
 have hv_r17:ah=(2,0):=Option.some.inj (bc.symm.trans (by rw [hv_r3,hv_r10]; exact kc_raddlelaw46_alive_2))
 have S1:=S.mem
 refine sCq [.agg #[iv r3.W,iv r3.H,.slice bJ r3.Bits.length bK],.agg #[iv a2.W,iv a2.H,.slice ba a2.Bits.length bb]] (.tuple #[iv ah.1,iv ah.2]) S callee14 (S1.quiet [3,1] d) (fun E1 w1 S1=>c_compare_Cells E1 w1 r3 (.agg #[iv r3.W,iv r3.H,.slice bJ r3.Bits.length bK]) a2 (.agg #[iv a2.W,iv a2.H,.slice ba a2.Bits.length bb]) ah bc S1) fun a w S=>?_
 refine sM S fun a S=>?_
 refine sExtract (vs:=[iv ah.1,iv ah.2]) (iv ah.1) S (wN d) d d d d (lb d) fun a S=>sExtract (vs:=[iv ah.1,iv ah.2]) (iv ah.2) S (wN d) d d d d (lb d) fun a S=>sN S fun a S=>?_
 refine sN S fun a S=>?_
 refine lT (bP _ _ (sSeq (fun ca bC=>sRegion (sCall (X:=Value) (f:=41) (vs:=[.string (⟨#[46,120,10]⟩:ByteArray)]) (val:=c_raddlelaw46_cloth_val r3) (B':=fun _=>[]) (D':=c_raddlelaw46_cloth_D r3) [] [] [] [] [] S (wN d) d callee41 d (by decide) d d (fun E1 w1 S1=>c_raddlelaw46_cloth E1 w1 (⟨#[46,120,10]⟩:ByteArray) r3 bB S1) d (lb d) fun bT a w S=>?_))))
 obtain ⟨bU,rfl,bf⟩:=S.mem.know (i:=0) (e:=fRep r_api_Grid (bT) r3) d
 have S:=S.learn (fRep (rL rB) bU r3.Bits) bf
 obtain ⟨aO,aP,_,rfl,_⟩:=bf
 refine sCall (X:=Value) (f:=41) (vs:=[.string (⟨#[120,46,10]⟩:ByteArray)]) (val:=c_raddlelaw46_cloth_val a2) (B':=fun _=>[]) (D':=c_raddlelaw46_cloth_D a2) [] [] [] [] [] S (wN d) d callee41 d (by decide) d d (fun E1 w1 S1=>c_raddlelaw46_cloth E1 w1 (⟨#[120,46,10]⟩:ByteArray) a2 aM S1) d (lb d) fun bV a w S=>?_
 obtain ⟨bW,rfl,bg⟩:=S.mem.know (i:=0) (e:=fRep r_api_Grid (bV) a2) d
 have S:=S.learn (fRep (rL rB) bW a2.Bits) bg
 obtain ⟨aQ,aR,_,rfl,_⟩:=bg
 obtain ⟨a0,bh,h⟩:=bS h
 have hv_r30:a0=(0,(0,((api_Point.mk 1 0),0))):=Option.some.inj (bh.symm.trans (by rw [hv_r3,hv_r10]; exact kc_raddlelaw46_alive_3))
 refine sCall (X:=Value) (f:=16) (vs:=[.agg #[iv r3.W,iv r3.H,.slice aO r3.Bits.length aP],.agg #[iv a2.W,iv a2.H,.slice aQ a2.Bits.length aR],iv 0]) (val:=c_compare_Nearest_val a0) (B':=fun _=>[]) (D':=c_compare_Nearest_D a0) [] [] [fRep r_api_Grid (.agg #[iv r3.W,iv r3.H,.slice aO r3.Bits.length aP]) r3,fRep r_api_Grid (.agg #[iv a2.W,iv a2.H,.slice aQ a2.Bits.length aR]) a2] [] [3,1] S (wN d) d callee16 d (by decide) d d (fun E1 w1 S1=>c_compare_Nearest E1 w1 r3 (.agg #[iv r3.W,iv r3.H,.slice aO r3.Bits.length aP]) a2 (.agg #[iv a2.W,iv a2.H,.slice aQ a2.Bits.length aR]) 0 a0 bh S1) d (lb d) fun bL a w S=>?_
 obtain rfl:bL=.agg #[iv a0.2.2.1.X,iv a0.2.2.1.Y]:=S.mem.know (i:=0) (e:=fRep r_api_Point (bL) a0.2.2.1) d
 refine sM S fun a S=>?_
 refine sExtract (vs:=[iv a0.1,iv a0.2.1,.agg #[iv a0.2.2.1.X,iv a0.2.2.1.Y],iv a0.2.2.2]) (iv a0.1) S (wN d) d d d d (lb d) fun a S=>sExtract (vs:=[iv a0.1,iv a0.2.1,.agg #[iv a0.2.2.1.X,iv a0.2.2.1.Y],iv a0.2.2.2]) (iv a0.2.1) S (wN d) d d d d (lb d) fun a S=>sExtract (vs:=[iv a0.1,iv a0.2.1,.agg #[iv a0.2.2.1.X,iv a0.2.2.1.Y],iv a0.2.2.2]) (.agg #[iv a0.2.2.1.X,iv a0.2.2.1.Y]) S (wN d) d d d d (lb d) fun a S=>sExtract (vs:=[iv a0.1,iv a0.2.1,.agg #[iv a0.2.2.1.X,iv a0.2.2.1.Y],iv a0.2.2.2]) (iv a0.2.2.2) S (wN d) d d d d (lb d) fun a S=>sAlloc (.agg #[iv 0,iv 0]) S (wN d) d d [iv 0,iv 0] d d (lb d) fun a az w S=>sN S fun a S=>?_
 refine sN S fun a S=>?_
 refine sStore (p:=az) (off:=0) (T:=33) (vs:=[iv 0,iv 0]) (v:=.agg #[iv a0.2.2.1.X,iv a0.2.2.1.Y]) 0 [iv a0.2.2.1.X,iv a0.2.2.1.Y] S (wN d) d d d d d d d (by simp) d fun a w S=>sN S fun a S=>?_
 refine lT (bC _ _ (sSeq (fun cb bD=>sRegion ?_)))
 obtain ⟨aA,bi,h⟩:=bS h
 have hv_r35:aA=[(api_Stitch.mk 1 false 0 0),(api_Stitch.mk 1 true 0 0),(api_Stitch.mk 1 false 0 0)]:=Option.some.inj (bi.symm.trans (by exact kc_raddlelaw46_alive_4))
 refine sCall (X:=Value) (f:=42) (vs:=[.string (⟨#[107,32,112,32,107]⟩:ByteArray)]) (val:=c_raddlelaw46_cells_val aA) (B':=fun _=>[]) (D':=c_raddlelaw46_cells_D aA) [] [eBox az 33 [iv a0.2.2.1.X,iv a0.2.2.1.Y]] [] [0] [] S (wN d) d callee42 d (by decide) d d (fun E1 w1 S1=>c_raddlelaw46_cells E1 w1 (⟨#[107,32,112,32,107]⟩:ByteArray) aA bi S1) d (lb d) fun bX a w S=>?_
 obtain ⟨aS,aT,_,rfl,_⟩:=S.mem.know (i:=0) (e:=fRep (rL r_api_Stitch) (bX) aA) d
 obtain ⟨aC,bj,h⟩:=bS h
 have hv_r40:aC=[(api_Stitch.mk 1 false 0 0),(api_Stitch.mk 2 false 0 0),(api_Stitch.mk 1 false 0 0)]:=Option.some.inj (bj.symm.trans (by exact kc_raddlelaw46_alive_5))
 refine sCall (X:=Value) (f:=42) (vs:=[.string (⟨#[107,32,121,111,32,107]⟩:ByteArray)]) (val:=c_raddlelaw46_cells_val aC) (B':=fun _=>[]) (D':=c_raddlelaw46_cells_D aC) [] [eBox az 33 [iv a0.2.2.1.X,iv a0.2.2.1.Y]] [] [0] [] S (wN d) d callee42 d (by decide) d d (fun E1 w1 S1=>c_raddlelaw46_cells E1 w1 (⟨#[107,32,121,111,32,107]⟩:ByteArray) aC bj S1) d (lb d) fun bY a w S=>?_
 obtain ⟨aU,aV,_,rfl,_⟩:=S.mem.know (i:=0) (e:=fRep (rL r_api_Stitch) (bY) aC) d
 obtain ⟨a4,bk,h⟩:=bS h
 have hv_r45:a4=([(api_CellStep.mk 1 (api_Stitch.mk 0 false 0 0)),(api_CellStep.mk 2 (api_Stitch.mk 2 false 0 0)),(api_CellStep.mk 1 (api_Stitch.mk 0 false 0 0))],(1,0)):=Option.some.inj (bk.symm.trans (by rw [hv_r35,hv_r40]; exact kc_raddlelaw46_alive_6))
 refine sCall (X:=Value) (f:=23) (vs:=[.slice aS aA.length aT,.slice aU aC.length aV]) (val:=c_compare_Edits_val a4) (B':=fun _=>[]) (D':=c_compare_Edits_D a4) [] [eBox az 33 [iv a0.2.2.1.X,iv a0.2.2.1.Y]] [fRep (rL r_api_Stitch) (.slice aS aA.length aT) aA,fRep (rL r_api_Stitch) (.slice aU aC.length aV) aC] [0] [1,0] S (wN d) d callee23 d (by decide) d d (fun E1 w1 S1=>c_compare_Edits E1 w1 aA (.slice aS aA.length aT) aC (.slice aU aC.length aV) a4 bk S1) d (lb d) fun bZ a w S=>?_
 obtain ⟨ac,ae,_,rfl,_⟩:=S.mem.know (i:=0) (e:=fRep (rL r_api_CellStep) (bZ) a4.1) d
 refine sM S fun a S=>?_
 refine sExtract (vs:=[.slice ac a4.1.length ae,iv a4.2.1,iv a4.2.2]) (.slice ac a4.1.length ae) S (wN d) d d d d (lb d) fun a S=>sExtract (vs:=[.slice ac a4.1.length ae,iv a4.2.1,iv a4.2.2]) (iv a4.2.1) S (wN d) d d d d (lb d) fun a S=>sExtract (vs:=[.slice ac a4.1.length ae,iv a4.2.1,iv a4.2.2]) (iv a4.2.2) S (wN d) d d d d (lb d) fun a S=>sN S fun a S=>?_
 refine sN S fun a S=>?_
 refine sN S fun a S=>?_
 refine lT (bD _ _ (sSeq (fun cc bE=>sRegion ?_)))
 obtain ⟨aG,bl,h⟩:=bS h
 have hv_r51:aG=[(api_Stitch.mk 1 false 0 0),(api_Stitch.mk 1 true 0 0)]:=Option.some.inj (bl.symm.trans (by exact kc_raddlelaw46_alive_7))
 refine sCall (X:=Value) (f:=42) (vs:=[.string (⟨#[107,32,112]⟩:ByteArray)]) (val:=c_raddlelaw46_cells_val aG) (B':=fun _=>[]) (D':=c_raddlelaw46_cells_D aG) [] [eBox az 33 [iv a0.2.2.1.X,iv a0.2.2.1.Y]] [] [0] [] S (wN d) d callee42 d (by decide) d d (fun E1 w1 S1=>c_raddlelaw46_cells E1 w1 (⟨#[107,32,112]⟩:ByteArray) aG bl S1) d (lb d) fun c1 a w S=>?_
 obtain ⟨aW,aX,_,rfl,_⟩:=S.mem.know (i:=0) (e:=fRep (rL r_api_Stitch) (c1) aG) d
 obtain ⟨aH,bm,h⟩:=bS h
 have hv_r56:aH=[(api_Stitch.mk 1 true 0 0)]:=Option.some.inj (bm.symm.trans (by exact kc_raddlelaw46_alive_8))
 refine sCall (X:=Value) (f:=42) (vs:=[.string (⟨#[112]⟩:ByteArray)]) (val:=c_raddlelaw46_cells_val aH) (B':=fun _=>[]) (D':=c_raddlelaw46_cells_D aH) [] [eBox az 33 [iv a0.2.2.1.X,iv a0.2.2.1.Y]] [] [0] [] S (wN d) d callee42 d (by decide) d d (fun E1 w1 S1=>c_raddlelaw46_cells E1 w1 (⟨#[112]⟩:ByteArray) aH bm S1) d (lb d) fun c2 a w S=>?_
 obtain ⟨aZ,b0,_,rfl,_⟩:=S.mem.know (i:=0) (e:=fRep (rL r_api_Stitch) (c2) aH) d
 obtain ⟨a5,bn,h⟩:=bS h
 have hv_r61:a5=([(api_CellStep.mk 4 (api_Stitch.mk 0 false 0 0)),(api_CellStep.mk 1 (api_Stitch.mk 0 false 0 0))],(1,0)):=Option.some.inj (bn.symm.trans (by rw [hv_r51,hv_r56]; exact kc_raddlelaw46_alive_9))
 refine sCall (X:=Value) (f:=23) (vs:=[.slice aW aG.length aX,.slice aZ aH.length b0]) (val:=c_compare_Edits_val a5) (B':=fun _=>[]) (D':=c_compare_Edits_D a5) [] [eBox az 33 [iv a0.2.2.1.X,iv a0.2.2.1.Y]] [fRep (rL r_api_Stitch) (.slice aW aG.length aX) aG,fRep (rL r_api_Stitch) (.slice aZ aH.length b0) aH] [0] [1,0] S (wN d) d callee23 d (by decide) d d (fun E1 w1 S1=>c_compare_Edits E1 w1 aG (.slice aW aG.length aX) aH (.slice aZ aH.length b0) a5 bn S1) d (lb d) fun c3 a w S=>?_
 obtain ⟨af,ag,_,rfl,_⟩:=S.mem.know (i:=0) (e:=fRep (rL r_api_CellStep) (c3) a5.1) d
 refine sM S fun a S=>?_
 refine sExtract (vs:=[.slice af a5.1.length ag,iv a5.2.1,iv a5.2.2]) (.slice af a5.1.length ag) S (wN d) d d d d (lb d) fun a S=>sExtract (vs:=[.slice af a5.1.length ag,iv a5.2.1,iv a5.2.2]) (iv a5.2.1) S (wN d) d d d d (lb d) fun a S=>sExtract (vs:=[.slice af a5.1.length ag,iv a5.2.1,iv a5.2.2]) (iv a5.2.2) S (wN d) d d d d (lb d) fun a S=>sN S fun a S=>?_
 refine sN S fun a S=>?_
 refine sN S fun a S=>?_
 refine lT (bE _ _ (sSeq (fun cd bF=>sRegion ?_)))
 obtain ⟨ak,bo,h⟩:=bS h
 have hv_r67:ak=(api_Chart.mk 1 [(api_Row.mk false [(api_Stitch.mk 1 false 0 0)])]):=Option.some.inj (bo.symm.trans (by exact kc_raddlelaw46_alive_10))
 refine sCall (X:=Value) (f:=43) (vs:=[.string (⟨#[115,116,97,114,116,32,49,10,102,114,111,110,116,32,107,10]⟩:ByteArray)]) (val:=c_raddlelaw46_knit_val ak) (B':=fun _=>[]) (D':=c_raddlelaw46_knit_D ak) [] [eBox az 33 [iv a0.2.2.1.X,iv a0.2.2.1.Y]] [] [0] [] S (wN d) d callee43 d (by decide) d d (fun E1 w1 S1=>c_raddlelaw46_knit E1 w1 (⟨#[115,116,97,114,116,32,49,10,102,114,111,110,116,32,107,10]⟩:ByteArray) ak bo S1) d (lb d) fun c4 a w S=>?_
 obtain ⟨c5,rfl,bp⟩:=S.mem.know (i:=0) (e:=fRep r_api_Chart (c4) ak) d
 have S:=S.learn (fRep (rL r_api_Row) c5 ak.Rows) bp
 obtain ⟨bq,br,_,rfl,_⟩:=bp
 obtain ⟨al,bt,h⟩:=bS h
 have hv_r74:al=(api_Chart.mk 1 [(api_Row.mk false [(api_Stitch.mk 1 true 0 0)]),(api_Row.mk true [(api_Stitch.mk 1 false 0 0)])]):=Option.some.inj (bt.symm.trans (by exact kc_raddlelaw46_alive_11))
 refine sCall (X:=Value) (f:=43) (vs:=[.string (⟨#[115,116,97,114,116,32,49,10,102,114,111,110,116,32,112,10,98,97,99,107,32,107,10]⟩:ByteArray)]) (val:=c_raddlelaw46_knit_val al) (B':=fun _=>[]) (D':=c_raddlelaw46_knit_D al) [] [eBox az 33 [iv a0.2.2.1.X,iv a0.2.2.1.Y]] [] [0] [] S (wN d) d callee43 d (by decide) d d (fun E1 w1 S1=>c_raddlelaw46_knit E1 w1 (⟨#[115,116,97,114,116,32,49,10,102,114,111,110,116,32,112,10,98,97,99,107,32,107,10]⟩:ByteArray) al bt S1) d (lb d) fun c6 a w S=>?_
 obtain ⟨c7,rfl,bu⟩:=S.mem.know (i:=0) (e:=fRep r_api_Chart (c6) al) d
 have S:=S.learn (fRep (rL r_api_Row) c7 al.Rows) bu
 obtain ⟨bv,bw,_,rfl,_⟩:=bu
 obtain ⟨a8,bx,h⟩:=bS h
 have hv_r81:a8=(3,0):=Option.some.inj (bx.symm.trans (by rw [hv_r67,hv_r74]; exact kc_raddlelaw46_alive_12))
 have S1:=S.mem
 refine sCq [.agg #[iv ak.Start,.slice bq ak.Rows.length br],.agg #[iv al.Start,.slice bv al.Rows.length bw]] (.tuple #[iv a8.1,iv a8.2]) S callee20 (S1.quiet [3,1] d) (fun E1 w1 S1=>c_compare_Charts E1 w1 ak (.agg #[iv ak.Start,.slice bq ak.Rows.length br]) al (.agg #[iv al.Start,.slice bv al.Rows.length bw]) a8 bx S1) fun a w S=>?_
 refine sM S fun a S=>?_
 refine sExtract (vs:=[iv a8.1,iv a8.2]) (iv a8.1) S (wN d) d d d d (lb d) fun a S=>sExtract (vs:=[iv a8.1,iv a8.2]) (iv a8.2) S (wN d) d d d d (lb d) fun a S=>sN S fun a S=>?_
 refine sN S fun a S=>?_
 refine lT (bF _ _ (sSeq (fun ce bG=>sRegion (sBuild [(0,.int .u8 1)] [.int .u8 1,.int .u8 0,.bool false,iv 0,iv 0] S (wN d) d d d d (lb d) fun a S=>sBuild [(0,.int .u8 2)] [.int .u8 2,.bool false,iv 0,iv 0] S (wN d) d d d d (lb d) fun a S=>sBuild [(0,.int .u8 2),(1,.agg #[.int .u8 2,.bool false,iv 0,iv 0])] [.int .u8 2,.int .u8 2,.bool false,iv 0,iv 0] S (wN d) d d d d (lb d) fun a S=>sBuild [(0,.int .u8 4)] [.int .u8 4,.int .u8 0,.bool false,iv 0,iv 0] S (wN d) d d d d (lb d) fun a S=>sAlloc (.agg #[.int .u8 0,.int .u8 0,.bool false,iv 0,iv 0]) S (wN d) d d [.int .u8 0,.int .u8 0,.bool false,iv 0,iv 0] d d (lb d) fun a bA w S=>sAlloc (.agg #[.int .u8 0,.int .u8 0,.bool false,iv 0,iv 0]) S (wN d) d d [.int .u8 0,.int .u8 0,.bool false,iv 0,iv 0] d d (lb d) fun a bM w S=>sAlloc (.agg #[.int .u8 0,.int .u8 0,.bool false,iv 0,iv 0]) S (wN d) d d [.int .u8 0,.int .u8 0,.bool false,iv 0,iv 0] d d (lb d) fun a bN w S=>sStore (p:=bA) (off:=0) (T:=83) (vs:=[.int .u8 0,.int .u8 0,.bool false,iv 0,iv 0]) (v:=.agg #[.int .u8 1,.int .u8 0,.bool false,iv 0,iv 0]) 2 [.int .u8 1,.int .u8 0,.bool false,iv 0,iv 0] S (wN d) d d d d d d d (by simp) d fun a w S=>sStore (p:=bM) (off:=0) (T:=83) (vs:=[.int .u8 0,.int .u8 0,.bool false,iv 0,iv 0]) (v:=.agg #[.int .u8 2,.int .u8 2,.bool false,iv 0,iv 0]) 2 [.int .u8 2,.int .u8 2,.bool false,iv 0,iv 0] S (wN d) d d d d d d d (by simp) d fun a w S=>sStore (p:=bN) (off:=0) (T:=83) (vs:=[.int .u8 0,.int .u8 0,.bool false,iv 0,iv 0]) (v:=.agg #[.int .u8 4,.int .u8 0,.bool false,iv 0,iv 0]) 2 [.int .u8 4,.int .u8 0,.bool false,iv 0,iv 0] S (wN d) d d d d d d d (by simp) d fun a w S=>lT (bG _ _ (sSeq (fun cf bH=>sRegion ?_)))))))
 refine sM S fun a S=>?_
 refine sBin _ S (wN d) d d d (bEq _ _ _ _ .i64 ah.2 0) d (lb d) fun a S=>sM S fun a S=>?_
 rcases iS h with ⟨am,h⟩ | ⟨am,h⟩
 rotate_left
 ·exact absurd am (by rw [hv_r17]; decide)
 refine sMove (iv a0.2.2.2) S (wG 2 true 59 d d d am) (.inl d) d d (lb d) fun a S=>sBin _ S (wG 2 true 59 d d d am) d d d (bEq _ _ _ _ .i64 a0.2.2.2 0) d (lb d) fun a S=>sPickT (.bool (a0.2.2.2 == 0)) S (wN d) d d am d d (lb d) fun a S=>sM S fun a S=>?_
 rcases iS h with ⟨ao,h⟩ | ⟨ao,h⟩
 rotate_left
 ·exact absurd ao (by rw [hv_r30]; decide)
 refine sMove (iv a4.2.2) S (wG 6 true 63 d d d ao) (.inl d) d d (lb d) fun a S=>sBin _ S (wG 6 true 63 d d d ao) d d d (bEq _ _ _ _ .i64 a4.2.2 0) d (lb d) fun a S=>sPickT (.bool (a4.2.2 == 0)) S (wN d) d d ao d d (lb d) fun a S=>sM S fun a S=>?_
 rcases iS h with ⟨ap,h⟩ | ⟨ap,h⟩
 rotate_left
 ·exact absurd ap (by rw [hv_r45]; decide)
 refine sMove (iv a5.2.2) S (wG 10 true 67 d d d ap) (.inl d) d d (lb d) fun a S=>sBin _ S (wG 10 true 67 d d d ap) d d d (bEq _ _ _ _ .i64 a5.2.2 0) d (lb d) fun a S=>sPickT (.bool (a5.2.2 == 0)) S (wN d) d d ap d d (lb d) fun a S=>sM S fun a S=>?_
 rcases iS h with ⟨aq,h⟩ | ⟨aq,h⟩
 rotate_left
 ·exact absurd aq (by rw [hv_r61]; decide)
 refine sMove (iv a8.2) S (wG 14 true 71 d d d aq) (.inl d) d d (lb d) fun a S=>sBin _ S (wG 14 true 71 d d d aq) d d d (bEq _ _ _ _ .i64 a8.2 0) d (lb d) fun a S=>sPickT (.bool (a8.2 == 0)) S (wN d) d d aq d d (lb d) fun a S=>sN S fun a S=>?_
 refine lT (bH _ _ ?_)
 obtain ⟨c8,h,c9⟩:=bS h
 refine sCut (fun a w=>∃ bz,bz=c8∧St [] E [] w0 120 a w [(0,.bool bz)] [] []) ?_ (fun a w hI=>?_)
 rotate_left
 ·obtain ⟨bz,rfl,S⟩:=hI
  have h:=c9
  try dsimp only at h
  obtain rfl:=tS h
  exact wp_ret (sRet (.bool bz) S (rsl1 d (rvT (t:=0) (v:=.bool bz) S d)) ⟨(),d,S.mem.sel [] [] (by decide) d d⟩)
 refine sRegion (sM S fun a S=>?_)
 refine sM S fun a S=>?_
 rcases iS h with ⟨ai,h⟩ | ⟨ai,h⟩
 rotate_left
 ·refine sSkN 2 1 true 76 S d d ai d fun a S=>sPickF (.bool false) S (wN d) d d ai d d (lb d) fun a S=>sM S fun a S=>?_
  refine sSkN 2 5 true 80 S d d d d fun a S=>sPickF (.bool false) S (wN d) d d d d d (lb d) fun a S=>sM S fun a S=>?_
  refine sSkN 2 9 true 84 S d d d d fun a S=>sPickF (.bool false) S (wN d) d d d d d (lb d) fun a S=>sM S fun a S=>?_
  refine sSkN 3 13 true 88 S d d d d fun a S=>sPickF (.bool false) S (wN d) d d d d d (lb d) fun a S=>sM S fun a S=>?_
  refine sSkN 6 18 true 93 S d d d d fun a S=>sPickF (.bool false) S (wN d) d d d d d (lb d) fun a S=>sM S fun a S=>?_
  refine sSkN 2 26 true 101 S d d d d fun a S=>sPickF (.bool false) S (wN d) d d d d d (lb d) fun a S=>sM S fun a S=>?_
  refine sSkN 5 30 true 105 S d d d d fun a S=>sPickF (.bool false) S (wN d) d d d d d (lb d) fun a S=>sM S fun a S=>?_
  refine sSkN 2 37 true 112 S d d d d fun a S=>sPickF (.bool false) S (wN d) d d d d d (lb d) fun a S=>sM S fun a S=>?_
  refine sSkN 2 41 true 116 S d d d d fun a S=>sPickF (.bool false) S (wN d) d d d d d (lb d) fun a S=>sN S fun a S=>?_
  exact lT (⟨false,Option.some.inj h,S.fix [] [] (by decide) d d d⟩)
 refine sMove (iv ah.1) S (wG 1 true 76 d d d ai) (.inl d) d d (lb d) fun a S=>sBin _ S (wG 1 true 76 d d d ai) d d d (bEq _ _ _ _ .i64 ah.1 2) d (lb d) fun a S=>sPickT (.bool (ah.1 == 2)) S (wN d) d d ai d d (lb d) fun a S=>sM S fun a S=>?_
 rcases iS h with ⟨ar,h⟩ | ⟨ar,h⟩
 rotate_left
 ·exact absurd ar (by rw [hv_r17]; decide)
 refine sMove (iv a0.1) S (wG 5 true 80 d d d ar) (.inl d) d d (lb d) fun a S=>sBin _ S (wG 5 true 80 d d d ar) d d d (bEq _ _ _ _ .i64 a0.1 0) d (lb d) fun a S=>sPickT (.bool (a0.1 == 0)) S (wN d) d d ar d d (lb d) fun a S=>sM S fun a S=>?_
 rcases iS h with ⟨au,h⟩ | ⟨au,h⟩
 rotate_left
 ·exact absurd au (by rw [hv_r30]; decide)
 refine sMove (iv a0.2.1) S (wG 9 true 84 d d d au) (.inl d) d d (lb d) fun a S=>sBin _ S (wG 9 true 84 d d d au) d d d (bEq _ _ _ _ .i64 a0.2.1 0) d (lb d) fun a S=>sPickT (.bool (a0.2.1 == 0)) S (wN d) d d au d d (lb d) fun a S=>sM S fun a S=>?_
 rcases iS h with ⟨aj,h⟩ | ⟨aj,h⟩
 rotate_left
 ·exact absurd aj (by rw [hv_r30]; decide)
 refine sLoadN (p:=az) (off:=0) (T:=33) (vs:=[iv a0.2.2.1.X,iv a0.2.2.1.Y]) 3 [iv a0.2.2.1.X,iv a0.2.2.1.Y] S (wG 13 true 88 d d d aj) d d d d d d d (lb d) fun a S=>sBuild [(0,iv 1)] [iv 1,iv 0] S (wG 13 true 88 d d d aj) d d d d (lb d) fun a S=>sBin _ S (wG 13 true 88 d d d aj) d d d (bEqV _ _ _ _ #[iv a0.2.2.1.X,iv a0.2.2.1.Y] #[iv 1,iv 0] ((a0.2.2.1.X == 1) && ((a0.2.2.1.Y == 0) && true)) (by kernel_rfl) (eqlV_of (by kernel_rfl))) d (lb d) fun a S=>sPickT (.bool ((a0.2.2.1.X == 1) && ((a0.2.2.1.Y == 0) && true))) S (wN d) d d aj d d (lb d) fun a S=>sM S fun a S=>?_
 rcases iS h with ⟨a7,h⟩ | ⟨a7,h⟩
 rotate_left
 ·exact absurd a7 (by rw [hv_r30]; decide)
 refine sMove (.slice ac a4.1.length ae) S (wG 18 true 93 d d d a7) (.inl d) d d (lb d) fun a S=>sLoadN (p:=bA) (off:=0) (T:=83) (vs:=[.int .u8 1,.int .u8 0,.bool false,iv 0,iv 0]) 2 [.int .u8 1,.int .u8 0,.bool false,iv 0,iv 0] S (wG 18 true 93 d d d a7) d d d d d d d (lb d) fun a S=>sLoadN (p:=bM) (off:=0) (T:=83) (vs:=[.int .u8 2,.int .u8 2,.bool false,iv 0,iv 0]) 1 [.int .u8 2,.int .u8 2,.bool false,iv 0,iv 0] S (wG 18 true 93 d d d a7) d d d d d d d (lb d) fun a S=>sLoadN (p:=bA) (off:=0) (T:=83) (vs:=[.int .u8 1,.int .u8 0,.bool false,iv 0,iv 0]) 2 [.int .u8 1,.int .u8 0,.bool false,iv 0,iv 0] S (wG 18 true 93 d d d a7) d d d d d d d (lb d) fun a S=>?_
 have S:=S.learn (fRep r_api_CellStep (.agg #[.int .u8 1,.int .u8 0,.bool false,iv 0,iv 0]) (api_CellStep.mk 1 (api_Stitch.mk 0 false 0 0))) d
 have S:=S.learn (fRep r_api_CellStep (.agg #[.int .u8 2,.int .u8 2,.bool false,iv 0,iv 0]) (api_CellStep.mk 2 (api_Stitch.mk 2 false 0 0))) d
 refine sLit (r:=r_api_CellStep) (T:=83) (xs:=[(api_CellStep.mk 1 (api_Stitch.mk 0 false 0 0)),(api_CellStep.mk 2 (api_Stitch.mk 2 false 0 0)),(api_CellStep.mk 1 (api_Stitch.mk 0 false 0 0))]) [(0,.agg #[.int .u8 1,.int .u8 0,.bool false,iv 0,iv 0]),(1,.agg #[.int .u8 2,.int .u8 2,.bool false,iv 0,iv 0]),(2,.agg #[.int .u8 1,.int .u8 0,.bool false,iv 0,iv 0])] 3 [.agg #[.int .u8 1,.int .u8 0,.bool false,iv 0,iv 0],.agg #[.int .u8 2,.int .u8 2,.bool false,iv 0,iv 0],.agg #[.int .u8 1,.int .u8 0,.bool false,iv 0,iv 0]] [.int .u8 1,.int .u8 0,.bool false,iv 0,iv 0,.int .u8 2,.int .u8 2,.bool false,iv 0,iv 0,.int .u8 1,.int .u8 0,.bool false,iv 0,iv 0] (.agg #[.int .u8 0,.int .u8 0,.bool false,iv 0,iv 0]) 32 S (wG 18 true 93 d d d a7) d d Try.underlying48 d (by decide) (by decide) (by kernel_rfl) d (fun E1 w1 hE=>All.cons (r_api_CellStep.mono hE (S.mem.know (i:=1) (e:=fRep r_api_CellStep (.agg #[.int .u8 1,.int .u8 0,.bool false,iv 0,iv 0]) (api_CellStep.mk 1 (api_Stitch.mk 0 false 0 0))) d)) (All.cons (r_api_CellStep.mono hE (S.mem.know (i:=0) (e:=fRep r_api_CellStep (.agg #[.int .u8 2,.int .u8 2,.bool false,iv 0,iv 0]) (api_CellStep.mk 2 (api_Stitch.mk 2 false 0 0))) d)) (All.cons (r_api_CellStep.mono hE (S.mem.know (i:=1) (e:=fRep r_api_CellStep (.agg #[.int .u8 1,.int .u8 0,.bool false,iv 0,iv 0]) (api_CellStep.mk 1 (api_Stitch.mk 0 false 0 0))) d)) (All.nil _ _ _)))) d d (lb d) fun a w av aw S=>?_
 obtain ⟨aI,aK,h⟩:=bS h
 have hv_r102:aI=true:=Option.some.inj (aK.symm.trans (by rw [hv_r45]; exact kc_raddlelaw46_alive_13))
 have S1:=S.mem
 have S1:=S1.shutR (r:=r_api_CellStep) (T:=83) (v:=.slice av [(api_CellStep.mk 1 (api_Stitch.mk 0 false 0 0)),(api_CellStep.mk 2 (api_Stitch.mk 2 false 0 0)),(api_CellStep.mk 1 (api_Stitch.mk 0 false 0 0))].length aw) (xs:=[(api_CellStep.mk 1 (api_Stitch.mk 0 false 0 0)),(api_CellStep.mk 2 (api_Stitch.mk 2 false 0 0)),(api_CellStep.mk 1 (api_Stitch.mk 0 false 0 0))]) 0 d
 refine sCallQ (X:=Unit) (f:=29) (vs:=[.slice ac a4.1.length ae,.slice av [(api_CellStep.mk 1 (api_Stitch.mk 0 false 0 0)),(api_CellStep.mk 2 (api_Stitch.mk 2 false 0 0)),(api_CellStep.mk 1 (api_Stitch.mk 0 false 0 0))].length aw]) (val:=fun _=>.bool aI) S (wG 18 true 93 d d d a7) d callee29 d (S1.quiet [10,0] d) (fun E1 w1 S1=>c_raddleref46_Same E1 w1 a4.1 (.slice ac a4.1.length ae) [(api_CellStep.mk 1 (api_Stitch.mk 0 false 0 0)),(api_CellStep.mk 2 (api_Stitch.mk 2 false 0 0)),(api_CellStep.mk 1 (api_Stitch.mk 0 false 0 0))] (.slice av [(api_CellStep.mk 1 (api_Stitch.mk 0 false 0 0)),(api_CellStep.mk 2 (api_Stitch.mk 2 false 0 0)),(api_CellStep.mk 1 (api_Stitch.mk 0 false 0 0))].length aw) aI aK S1) d (lb d) fun _ a w S=>?_
 refine sPickT (.bool aI) S (wN d) d d a7 d d (lb d) fun a S=>sM S fun a S=>?_
 rcases iS h with ⟨a9,h⟩ | ⟨a9,h⟩
 rotate_left
 ·exact absurd a9 (by rw [hv_r102]; decide)
 refine sMove (iv a4.2.1) S (wG 26 true 101 d d d a9) (.inl d) d d (lb d) fun a S=>sBin _ S (wG 26 true 101 d d d a9) d d d (bEq _ _ _ _ .i64 a4.2.1 1) d (lb d) fun a S=>sPickT (.bool (a4.2.1 == 1)) S (wN d) d d a9 d d (lb d) fun a S=>sM S fun a S=>?_
 rcases iS h with ⟨a6,h⟩ | ⟨a6,h⟩
 rotate_left
 ·exact absurd a6 (by rw [hv_r45]; decide)
 refine sMove (.slice af a5.1.length ag) S (wG 30 true 105 d d d a6) (.inl d) d d (lb d) fun a S=>sLoadN (p:=bN) (off:=0) (T:=83) (vs:=[.int .u8 4,.int .u8 0,.bool false,iv 0,iv 0]) 1 [.int .u8 4,.int .u8 0,.bool false,iv 0,iv 0] S (wG 30 true 105 d d d a6) d d d d d d d (lb d) fun a S=>sLoadN (p:=bA) (off:=0) (T:=83) (vs:=[.int .u8 1,.int .u8 0,.bool false,iv 0,iv 0]) 3 [.int .u8 1,.int .u8 0,.bool false,iv 0,iv 0] S (wG 30 true 105 d d d a6) d d d d d d d (lb d) fun a S=>?_
 have S:=S.learn (fRep r_api_CellStep (.agg #[.int .u8 4,.int .u8 0,.bool false,iv 0,iv 0]) (api_CellStep.mk 4 (api_Stitch.mk 0 false 0 0))) d
 refine sLit (r:=r_api_CellStep) (T:=83) (xs:=[(api_CellStep.mk 4 (api_Stitch.mk 0 false 0 0)),(api_CellStep.mk 1 (api_Stitch.mk 0 false 0 0))]) [(0,.agg #[.int .u8 4,.int .u8 0,.bool false,iv 0,iv 0]),(1,.agg #[.int .u8 1,.int .u8 0,.bool false,iv 0,iv 0])] 2 [.agg #[.int .u8 4,.int .u8 0,.bool false,iv 0,iv 0],.agg #[.int .u8 1,.int .u8 0,.bool false,iv 0,iv 0]] [.int .u8 4,.int .u8 0,.bool false,iv 0,iv 0,.int .u8 1,.int .u8 0,.bool false,iv 0,iv 0] (.agg #[.int .u8 0,.int .u8 0,.bool false,iv 0,iv 0]) 32 S (wG 30 true 105 d d d a6) d d Try.underlying48 d (by decide) (by decide) (by kernel_rfl) d (fun E1 w1 hE=>All.cons (r_api_CellStep.mono hE (S.mem.know (i:=0) (e:=fRep r_api_CellStep (.agg #[.int .u8 4,.int .u8 0,.bool false,iv 0,iv 0]) (api_CellStep.mk 4 (api_Stitch.mk 0 false 0 0))) d)) (All.cons (r_api_CellStep.mono hE (S.mem.know (i:=2) (e:=fRep r_api_CellStep (.agg #[.int .u8 1,.int .u8 0,.bool false,iv 0,iv 0]) (api_CellStep.mk 1 (api_Stitch.mk 0 false 0 0))) d)) (All.nil _ _ _))) d d (lb d) fun a w ax ay S=>?_
 obtain ⟨aJ,aL,h⟩:=bS h
 have hv_r108:aJ=true:=Option.some.inj (aL.symm.trans (by rw [hv_r61]; exact kc_raddlelaw46_alive_14))
 have S1:=S.mem
 have S1:=S1.shutR (r:=r_api_CellStep) (T:=83) (v:=.slice ax [(api_CellStep.mk 4 (api_Stitch.mk 0 false 0 0)),(api_CellStep.mk 1 (api_Stitch.mk 0 false 0 0))].length ay) (xs:=[(api_CellStep.mk 4 (api_Stitch.mk 0 false 0 0)),(api_CellStep.mk 1 (api_Stitch.mk 0 false 0 0))]) 0 d
 refine sCallQ (X:=Unit) (f:=29) (vs:=[.slice af a5.1.length ag,.slice ax [(api_CellStep.mk 4 (api_Stitch.mk 0 false 0 0)),(api_CellStep.mk 1 (api_Stitch.mk 0 false 0 0))].length ay]) (val:=fun _=>.bool aJ) S (wG 30 true 105 d d d a6) d callee29 d (S1.quiet [8,0] d) (fun E1 w1 S1=>c_raddleref46_Same E1 w1 a5.1 (.slice af a5.1.length ag) [(api_CellStep.mk 4 (api_Stitch.mk 0 false 0 0)),(api_CellStep.mk 1 (api_Stitch.mk 0 false 0 0))] (.slice ax [(api_CellStep.mk 4 (api_Stitch.mk 0 false 0 0)),(api_CellStep.mk 1 (api_Stitch.mk 0 false 0 0))].length ay) aJ aL S1) d (lb d) fun _ a w S=>?_
 refine sPickT (.bool aJ) S (wN d) d d a6 d d (lb d) fun a S=>sM S fun a S=>?_
 rcases iS h with ⟨aa,h⟩ | ⟨aa,h⟩
 rotate_left
 ·exact absurd aa (by rw [hv_r108]; decide)
 refine sMove (iv a5.2.1) S (wG 37 true 112 d d d aa) (.inl d) d d (lb d) fun a S=>sBin _ S (wG 37 true 112 d d d aa) d d d (bEq _ _ _ _ .i64 a5.2.1 1) d (lb d) fun a S=>sPickT (.bool (a5.2.1 == 1)) S (wN d) d d aa d d (lb d) fun a S=>sM S fun a S=>?_
 rcases iS h with ⟨ab,h⟩ | ⟨ab,h⟩
 rotate_left
 ·exact absurd ab (by rw [hv_r61]; decide)
 refine sMove (iv a8.1) S (wG 41 true 116 d d d ab) (.inl d) d d (lb d) fun a S=>sBin _ S (wG 41 true 116 d d d ab) d d d (bEq _ _ _ _ .i64 a8.1 3) d (lb d) fun a S=>sPickT (.bool (a8.1 == 3)) S (wN d) d d ab d d (lb d) fun a S=>sN S fun a S=>?_
 exact lT (⟨a8.1 == 3,Option.some.inj h,S.fix [] [] (by decide) d d d⟩)
def K_raddlelaw46_alive :Option Bool:=
 Option.bind (K_raddlelaw46_cloth (⟨#[46,120,10]⟩:ByteArray)) fun r3=>
 Option.bind (K_raddlelaw46_cloth (⟨#[120,46,10]⟩:ByteArray)) fun r10=>
 Option.bind (K_compare_Cells r3 r10) fun r17=>
 Option.bind (K_compare_Nearest r3 r10 0) fun r30=>
 Option.bind (K_raddlelaw46_cells (⟨#[107,32,112,32,107]⟩:ByteArray)) fun r35=>
 Option.bind (K_raddlelaw46_cells (⟨#[107,32,121,111,32,107]⟩:ByteArray)) fun r40=>
 Option.bind (K_compare_Edits r35 r40) fun r45=>
 Option.bind (K_raddlelaw46_cells (⟨#[107,32,112]⟩:ByteArray)) fun r51=>
 Option.bind (K_raddlelaw46_cells (⟨#[112]⟩:ByteArray)) fun r56=>
 Option.bind (K_compare_Edits r51 r56) fun r61=>
 Option.bind (K_raddlelaw46_knit (⟨#[115,116,97,114,116,32,49,10,102,114,111,110,116,32,107,10]⟩:ByteArray)) fun r67=>
 Option.bind (K_raddlelaw46_knit (⟨#[115,116,97,114,116,32,49,10,102,114,111,110,116,32,112,10,98,97,99,107,32,107,10]⟩:ByteArray)) fun r74=>
 Option.bind (K_compare_Charts r67 r74) fun r81=>
 if r17.2 == 0 then
  if r30.2.2.2 == 0 then
   if r45.2.2 == 0 then
    if r61.2.2 == 0 then
     Option.bind (α:=Bool) (
      if r81.2 == 0 then
       if r17.1 == 2 then
        if r30.1 == 0 then
         if r30.2.1 == 0 then
          if ((r30.2.2.1.X == 1) && ((r30.2.2.1.Y == 0) && true)) then
           Option.bind (K_raddleref46_Same r45.1 [(api_CellStep.mk 1 (api_Stitch.mk 0 false 0 0)),(api_CellStep.mk 2 (api_Stitch.mk 2 false 0 0)),(api_CellStep.mk 1 (api_Stitch.mk 0 false 0 0))]) fun r102=>
           if r102 then
            if r45.2.1 == 1 then
             Option.bind (K_raddleref46_Same r61.1 [(api_CellStep.mk 4 (api_Stitch.mk 0 false 0 0)),(api_CellStep.mk 1 (api_Stitch.mk 0 false 0 0))]) fun r108=>
             if r108 then
              if r61.2.1 == 1 then
               some (r81.1 == 3)
              else
               none
             else
              none
            else
             none
           else
            none
          else
           none
         else
          none
        else
         none
       else
        none
      else
       some false) fun o92=>
     some o92
    else
     none
   else
    none
  else
   none
 else
  none
theorem m_F_raddlelaw46_alive :Le (K_raddlelaw46_alive) (F_raddlelaw46_alive):=by
 unfold K_raddlelaw46_alive F_raddlelaw46_alive
 with_reducible repeat' (first | exact m_F_raddlelaw46_cloth _ | exact m_F_compare_Cells _ _ | exact m_F_compare_Nearest _ _ _ | exact m_F_raddlelaw46_cells _ | exact m_F_compare_Edits _ _ | exact m_F_raddlelaw46_knit _ | exact m_F_compare_Charts _ _ | exact m_F_raddleref46_Same _ _ | exact Le.rfl _ | refine Le.loop _ ?_ | refine Le.bind ?_ ?_ | refine Le.ite ?_ ?_ | refine Le.sum ?_ ?_ | refine Le.prod ?_ | intro _ | exact Empty.elim (by assumption) | dsimp only)
def K_compare_fine (p0:api_CellStep):Option Bool:=
 Option.bind (α:=Bool) (
  if p0.Kind == 1 then
   some (p0.Kind == 1)
  else
   some (p0.Kind == 4)) fun o5=>
 if o5 then
  some ((p0.S.Kind == 0) && ((p0.S.Purl == false) && ((p0.S.A == 0) && ((p0.S.B == 0) && true))))
 else
  Option.bind (α:=Bool) (
   if p0.Kind == 2 then
    some (p0.Kind == 2)
   else
    some (p0.Kind == 3)) fun o12=>
  if o12 then
   Option.bind (K_stitch_Check p0.S) fun r19=>
   some (r19 == 0)
  else
   some false
def K_compare_walk_l1 (p1:(List api_CellStep)):Int→Option (Int ⊕ (((List api_Stitch) × (List api_CellStep) × Int) ⊕ Unit)):=fun s0=>match s0 with
 | s20=>
  if decide (s20 < (p1.length:Int)) then
   Option.bind (idxO p1 s20) fun x29=>
   Option.bind (K_compare_fine x29) fun r36=>
   if !r36 then
    some (.inr (.inl (([]:(List api_Stitch)),([]:(List api_CellStep)),8)))
   else
    some (.inl (w64 (s20 + 1)))
  else
   some (.inr (.inr ()))
def K_compare_walk_l2 (p1:(List api_CellStep)):(List api_Stitch × List api_CellStep × List api_Stitch × Int)→Option ((List api_Stitch × List api_CellStep × List api_Stitch × Int) ⊕ (((List api_Stitch) × (List api_CellStep) × Int) ⊕ (List api_Stitch × List api_CellStep × List api_Stitch))):=fun s0=>match s0 with
 | (s53,s56,s59,s62)=>
  if decide (s62 < (p1.length:Int)) then
   Option.bind (α:=(List api_Stitch × List api_CellStep × List api_Stitch) ⊕ ((List api_Stitch) × (List api_CellStep) × Int)) (
    Option.bind (idxO p1 s62) fun x90=>
    if x90.Kind == 3 then
     Option.bind (appO s53 [x90.S]) fun l102=>
     Option.bind (appO s56 [(api_CellStep.mk 4 (api_Stitch.mk 0 false 0 0))]) fun l109=>
     some (.inl (l102,l109,s59))
    else
     if (s59.length:Int) == 0 then
      some (.inr (([]:(List api_Stitch)),([]:(List api_CellStep)),30))
     else
      Option.bind (idxO s59 0) fun x118=>
      Option.bind (sliceO s59 1 (s59.length:Int)) fun y125=>
      if x90.Kind == 1 then
       Option.bind (appO s53 [x118]) fun l135=>
       Option.bind (appO s56 [x90]) fun l141=>
       some (.inl (l135,l141,y125))
      else
       if x90.Kind == 2 then
        if ((x90.S.Kind == x118.Kind) && ((x90.S.Purl == x118.Purl) && ((x90.S.A == x118.A) && ((x90.S.B == x118.B) && true)))) then
         some (.inr (([]:(List api_Stitch)),([]:(List api_CellStep)),30))
        else
         Option.bind (appO s53 [x90.S]) fun l154=>
         Option.bind (appO s56 [(api_CellStep.mk 2 x118)]) fun l160=>
         some (.inl (l154,l160,y125))
       else
        if x90.Kind == 4 then
         Option.bind (appO s56 [(api_CellStep.mk 3 x118)]) fun l168=>
         some (.inl (s53,l168,y125))
        else
         some (.inl (s53,s56,y125))) fun z0=>match z0 with
    | .inl (o78,o81,o84)=>
     some (.inl (o78,o81,o84,w64 (s62 + 1)))
    | .inr z=>
     some (.inr (.inl z))
  else
   some (.inr (.inr (s53,s56,s59)))
def K_compare_walk (p0:(List api_Stitch)) (p1:(List api_CellStep)):Option ((List api_Stitch) × (List api_CellStep) × Int):=
 Option.bind (K_stitch_All p0) fun r8=>
 if r8 != 0 then
  some (([]:(List api_Stitch)),([]:(List api_CellStep)),r8)
 else
  if decide (400 < (p1.length:Int)) then
   some (([]:(List api_Stitch)),([]:(List api_CellStep)),4)
  else
   Option.bind (α:=Unit ⊕ ((List api_Stitch) × (List api_CellStep) × Int)) (
    Option.bind (whileK (K_compare_walk_l1 p1) 0) fun z0=>match z0 with
     | .inl z=>
      some (.inr z)
     | .inr _=>
      some (.inl ())) fun z0=>match z0 with
    | .inl _=>
     Option.bind (α:=(List api_Stitch × List api_CellStep × List api_Stitch) ⊕ ((List api_Stitch) × (List api_CellStep) × Int)) (
      Option.bind (whileK (K_compare_walk_l2 p1) (([]:List api_Stitch),([]:List api_CellStep),p0,0)) fun z0=>match z0 with
       | .inl z=>
        some (.inr z)
       | .inr (e66,e69,e72)=>
        some (.inl (e66,e69,e72))) fun z0=>match z0 with
      | .inl (o41,o44,o47)=>
       if decide (0 < (o47.length:Int)) then
        some (([]:(List api_Stitch)),([]:(List api_CellStep)),30)
       else
        Option.bind (K_stitch_All o41) fun r178=>
        if r178 != 0 then
         some (([]:(List api_Stitch)),([]:(List api_CellStep)),r178)
        else
         some (o41,o44,0)
      | .inr z=>
       some z
    | .inr z=>
     some z
def K_compare_Patch (p0:(List api_Stitch)) (p1:(List api_CellStep)):Option ((List api_Stitch) × Int):=
 Option.bind (K_compare_walk p0 p1) fun r7=>
 some (r7.1,r7.2.2)
def K_compare_Back (p0:(List api_Stitch)) (p1:(List api_CellStep)):Option ((List api_CellStep) × Int):=
 Option.bind (K_compare_walk p0 p1) fun r7=>
 some (r7.2.1,r7.2.2)
theorem m_F_compare_fine (p0:api_CellStep):Le (K_compare_fine p0) (F_compare_fine p0):=by
 unfold K_compare_fine F_compare_fine
 with_reducible repeat' (first | exact m_F_stitch_Check _ | exact Le.rfl _ | refine Le.loop _ ?_ | refine Le.bind ?_ ?_ | refine Le.ite ?_ ?_ | refine Le.sum ?_ ?_ | refine Le.prod ?_ | intro _ | exact Empty.elim (by assumption) | dsimp only)
theorem m_compare_walk_l1 (p1:(List api_CellStep)):∀ s,Le (K_compare_walk_l1 p1 s) (compare_walk_l1 p1 s):=by
 unfold K_compare_walk_l1 compare_walk_l1
 with_reducible repeat' (first | exact m_F_compare_fine _ | exact Le.rfl _ | refine Le.loop _ ?_ | refine Le.bind ?_ ?_ | refine Le.ite ?_ ?_ | refine Le.sum ?_ ?_ | refine Le.prod ?_ | intro _ | exact Empty.elim (by assumption) | dsimp only)
theorem m_compare_walk_l2 (p1:(List api_CellStep)):∀ s,Le (K_compare_walk_l2 p1 s) (compare_walk_l2 p1 s):=by
 unfold K_compare_walk_l2 compare_walk_l2
 with_reducible repeat' (first | exact Le.rfl _ | refine Le.loop _ ?_ | refine Le.bind ?_ ?_ | refine Le.ite ?_ ?_ | refine Le.sum ?_ ?_ | refine Le.prod ?_ | intro _ | exact Empty.elim (by assumption) | dsimp only)
theorem m_F_compare_walk (p0:(List api_Stitch)) (p1:(List api_CellStep)):Le (K_compare_walk p0 p1) (F_compare_walk p0 p1):=by
 unfold K_compare_walk F_compare_walk
 with_reducible repeat' (first | exact m_F_stitch_All _ | exact m_compare_walk_l1 _ | exact m_compare_walk_l2 _ | exact Le.rfl _ | refine Le.loop _ ?_ | refine Le.bind ?_ ?_ | refine Le.ite ?_ ?_ | refine Le.sum ?_ ?_ | refine Le.prod ?_ | intro _ | exact Empty.elim (by assumption) | dsimp only)
theorem m_F_compare_Patch (p0:(List api_Stitch)) (p1:(List api_CellStep)):Le (K_compare_Patch p0 p1) (F_compare_Patch p0 p1):=by
 unfold K_compare_Patch F_compare_Patch
 with_reducible repeat' (first | exact m_F_compare_walk _ _ | exact Le.rfl _ | refine Le.loop _ ?_ | refine Le.bind ?_ ?_ | refine Le.ite ?_ ?_ | refine Le.sum ?_ ?_ | refine Le.prod ?_ | intro _ | exact Empty.elim (by assumption) | dsimp only)
theorem m_F_compare_Back (p0:(List api_Stitch)) (p1:(List api_CellStep)):Le (K_compare_Back p0 p1) (F_compare_Back p0 p1):=by
 unfold K_compare_Back F_compare_Back
 with_reducible repeat' (first | exact m_F_compare_walk _ _ | exact Le.rfl _ | refine Le.loop _ ?_ | refine Le.bind ?_ ?_ | refine Le.ite ?_ ?_ | refine Le.sum ?_ ?_ | refine Le.prod ?_ | intro _ | exact Empty.elim (by assumption) | dsimp only)
set_option maxRecDepth 1000000 in
theorem kc_raddlelaw46_CompareNames_0:F_raddlelaw46_cloth (⟨#[120,46,46,46,10,46,46,46,46,10,46,46,46,46,10,46,46,46,46,10]⟩:ByteArray)=some (api_Grid.mk 4 4 [false,false,false,false,false,false,false,false,false,false,false,false,true,false,false,false]):=m_F_raddlelaw46_cloth _ _ (by kernel_rfl)
set_option maxRecDepth 1000000 in
theorem kc_raddlelaw46_CompareNames_1:F_raddlelaw46_cloth (⟨#[120,120,10,46,46,10]⟩:ByteArray)=some (api_Grid.mk 2 2 [false,false,true,true]):=m_F_raddlelaw46_cloth _ _ (by kernel_rfl)
set_option maxRecDepth 1000000 in
theorem kc_raddlelaw46_CompareNames_2:F_raddlelaw46_cloth (⟨#[120,46,10,120,46,10]⟩:ByteArray)=some (api_Grid.mk 2 2 [true,false,true,false]):=m_F_raddlelaw46_cloth _ _ (by kernel_rfl)
set_option maxRecDepth 1000000 in
theorem kc_raddlelaw46_CompareNames_3:F_compare_Nearest ((api_Grid.mk 2 2 [false,false,true,true])) ((api_Grid.mk 2 2 [true,false,true,false])) 1=some (2,(0,((api_Point.mk 0 0),0))):=m_F_compare_Nearest _ _ _ _ (by kernel_rfl)
set_option maxRecDepth 1000000 in
theorem kc_raddlelaw46_CompareNames_4:F_compare_Nearest ((api_Grid.mk 2 2 [false,false,true,true])) ((api_Grid.mk 2 2 [true,false,true,false])) 2=some (0,(4,((api_Point.mk 1 0),0))):=m_F_compare_Nearest _ _ _ _ (by kernel_rfl)
set_option maxRecDepth 1000000 in
theorem kc_raddlelaw46_CompareNames_5:F_raddlelaw46_cloth (⟨#[120,46,120,120,10,120,120,120,120,10,120,120,120,120,10,120,120,120,120,10]⟩:ByteArray)=some (api_Grid.mk 4 4 [true,true,true,true,true,true,true,true,true,true,true,true,true,false,true,true]):=m_F_raddlelaw46_cloth _ _ (by kernel_rfl)
set_option maxRecDepth 1000000 in
theorem kc_raddlelaw46_CompareNames_6:F_compare_Nearest ((api_Grid.mk 4 4 [false,false,false,false,false,false,false,false,false,false,false,false,true,false,false,false])) ((api_Grid.mk 4 4 [true,true,true,true,true,true,true,true,true,true,true,true,true,false,true,true])) 3=some (0,(8,((api_Point.mk 1 0),0))):=m_F_compare_Nearest _ _ _ _ (by kernel_rfl)
set_option maxRecDepth 1000000 in
theorem kc_raddlelaw46_CompareNames_7:F_compare_Nearest (api_Grid.mk 17 1 ([false,false,false,false,false,false,false,false,false,false,false,false,false,false,false,false,false])) (api_Grid.mk 17 1 ([false,false,false,false,false,false,false,false,false,false,false,false,false,false,false,false,false])) 0=some (0,(0,((api_Point.mk 0 0),4))):=m_F_compare_Nearest _ _ _ _ (by kernel_rfl)
set_option maxRecDepth 1000000 in
theorem kc_raddlelaw46_CompareNames_8:F_compare_Nearest ((api_Grid.mk 2 2 [false,false,true,true])) ((api_Grid.mk 2 2 [true,false,true,false])) 4=some (0,(0,((api_Point.mk 0 0),2))):=m_F_compare_Nearest _ _ _ _ (by kernel_rfl)
set_option maxRecDepth 1000000 in
theorem kc_raddlelaw46_CompareNames_9:F_raddlelaw46_cloth (⟨#[120,46,10]⟩:ByteArray)=some (api_Grid.mk 2 1 [true,false]):=m_F_raddlelaw46_cloth _ _ (by kernel_rfl)
set_option maxRecDepth 1000000 in
theorem kc_raddlelaw46_CompareNames_10:F_compare_Nearest ((api_Grid.mk 2 1 [true,false])) ((api_Grid.mk 2 1 [true,false])) 2=some (0,(0,((api_Point.mk 0 0),2))):=m_F_compare_Nearest _ _ _ _ (by kernel_rfl)
set_option maxRecDepth 1000000 in
theorem kc_raddlelaw46_CompareNames_11:F_compare_Nearest ((api_Grid.mk 2 2 [false,false,true,true])) ((api_Grid.mk 2 1 [true,false])) 0=some (0,(0,((api_Point.mk 0 0),2))):=m_F_compare_Nearest _ _ _ _ (by kernel_rfl)
set_option maxRecDepth 1000000 in
theorem kc_raddlelaw46_CompareNames_12:F_compare_Cells ((api_Grid.mk 2 2 [false,false,true,true])) ((api_Grid.mk 2 1 [true,false]))=some (0,2):=m_F_compare_Cells _ _ _ (by kernel_rfl)
set_option maxRecDepth 1000000 in
theorem kc_raddlelaw46_CompareNames_13:F_compare_Cells (api_Grid.mk 65 0 ([]:(List Bool))) (api_Grid.mk 0 0 ([]:(List Bool)))=some (0,4):=m_F_compare_Cells _ _ _ (by kernel_rfl)
set_option maxRecDepth 1000000 in
theorem kc_raddlelaw46_CompareNames_14:F_raddlelaw46_cells (⟨#[107,32,112]⟩:ByteArray)=some [(api_Stitch.mk 1 false 0 0),(api_Stitch.mk 1 true 0 0)]:=m_F_raddlelaw46_cells _ _ (by kernel_rfl)
set_option maxRecDepth 1000000 in
theorem kc_raddlelaw46_CompareNames_15:F_raddlelaw46_cells (⟨#[112,32,121,111]⟩:ByteArray)=some [(api_Stitch.mk 1 true 0 0),(api_Stitch.mk 2 false 0 0)]:=m_F_raddlelaw46_cells _ _ (by kernel_rfl)
set_option maxRecDepth 1000000 in
theorem kc_raddlelaw46_CompareNames_16:F_compare_Edits ([(api_Stitch.mk 1 false 0 0),(api_Stitch.mk 1 true 0 0)]) ([(api_Stitch.mk 1 true 0 0),(api_Stitch.mk 2 false 0 0)])=some ([(api_CellStep.mk 2 (api_Stitch.mk 1 true 0 0)),(api_CellStep.mk 2 (api_Stitch.mk 2 false 0 0))],(2,0)):=m_F_compare_Edits _ _ _ (by kernel_rfl)
set_option maxRecDepth 1000000 in
theorem kc_raddlelaw46_CompareNames_17:F_compare_Edits ([]:(List api_Stitch)) ([]:(List api_Stitch))=some ([],(0,0)):=m_F_compare_Edits _ _ _ (by kernel_rfl)
set_option maxRecDepth 1000000 in
theorem kc_raddlelaw46_CompareNames_18:F_raddlelaw46_cells (⟨#[107,50]⟩:ByteArray)=some [(api_Stitch.mk 1 false 0 0),(api_Stitch.mk 1 false 0 0)]:=m_F_raddlelaw46_cells _ _ (by kernel_rfl)
set_option maxRecDepth 1000000 in
theorem kc_raddlelaw46_CompareNames_19:F_raddlelaw46_cells (⟨#[121,111,32,121,111,32,121,111]⟩:ByteArray)=some [(api_Stitch.mk 2 false 0 0),(api_Stitch.mk 2 false 0 0),(api_Stitch.mk 2 false 0 0)]:=m_F_raddlelaw46_cells _ _ (by kernel_rfl)
set_option maxRecDepth 1000000 in
theorem kc_raddlelaw46_CompareNames_20:F_compare_Edits ([(api_Stitch.mk 1 false 0 0),(api_Stitch.mk 1 false 0 0)]) ([(api_Stitch.mk 2 false 0 0),(api_Stitch.mk 2 false 0 0),(api_Stitch.mk 2 false 0 0)])=some ([(api_CellStep.mk 2 (api_Stitch.mk 2 false 0 0)),(api_CellStep.mk 2 (api_Stitch.mk 2 false 0 0)),(api_CellStep.mk 3 (api_Stitch.mk 2 false 0 0))],(3,0)):=m_F_compare_Edits _ _ _ (by kernel_rfl)
set_option maxRecDepth 1000000 in
theorem kc_raddlelaw46_CompareNames_21:F_compare_Patch [(api_Stitch.mk 1 false 0 0)] ([(api_CellStep.mk 0 (api_Stitch.mk 0 false 0 0)),(api_CellStep.mk 0 (api_Stitch.mk 0 false 0 0)),(api_CellStep.mk 0 (api_Stitch.mk 0 false 0 0)),(api_CellStep.mk 0 (api_Stitch.mk 0 false 0 0)),(api_CellStep.mk 0 (api_Stitch.mk 0 false 0 0)),(api_CellStep.mk 0 (api_Stitch.mk 0 false 0 0)),(api_CellStep.mk 0 (api_Stitch.mk 0 false 0 0)),(api_CellStep.mk 0 (api_Stitch.mk 0 false 0 0)),(api_CellStep.mk 0 (api_Stitch.mk 0 false 0 0)),(api_CellStep.mk 0 (api_Stitch.mk 0 false 0 0)),(api_CellStep.mk 0 (api_Stitch.mk 0 false 0 0)),(api_CellStep.mk 0 (api_Stitch.mk 0 false 0 0)),(api_CellStep.mk 0 (api_Stitch.mk 0 false 0 0)),(api_CellStep.mk 0 (api_Stitch.mk 0 false 0 0)),(api_CellStep.mk 0 (api_Stitch.mk 0 false 0 0)),(api_CellStep.mk 0 (api_Stitch.mk 0 false 0 0)),(api_CellStep.mk 0 (api_Stitch.mk 0 false 0 0)),(api_CellStep.mk 0 (api_Stitch.mk 0 false 0 0)),(api_CellStep.mk 0 (api_Stitch.mk 0 false 0 0)),(api_CellStep.mk 0 (api_Stitch.mk 0 false 0 0)),(api_CellStep.mk 0 (api_Stitch.mk 0 false 0 0)),(api_CellStep.mk 0 (api_Stitch.mk 0 false 0 0)),(api_CellStep.mk 0 (api_Stitch.mk 0 false 0 0)),(api_CellStep.mk 0 (api_Stitch.mk 0 false 0 0)),(api_CellStep.mk 0 (api_Stitch.mk 0 false 0 0)),(api_CellStep.mk 0 (api_Stitch.mk 0 false 0 0)),(api_CellStep.mk 0 (api_Stitch.mk 0 false 0 0)),(api_CellStep.mk 0 (api_Stitch.mk 0 false 0 0)),(api_CellStep.mk 0 (api_Stitch.mk 0 false 0 0)),(api_CellStep.mk 0 (api_Stitch.mk 0 false 0 0)),(api_CellStep.mk 0 (api_Stitch.mk 0 false 0 0)),(api_CellStep.mk 0 (api_Stitch.mk 0 false 0 0)),(api_CellStep.mk 0 (api_Stitch.mk 0 false 0 0)),(api_CellStep.mk 0 (api_Stitch.mk 0 false 0 0)),(api_CellStep.mk 0 (api_Stitch.mk 0 false 0 0)),(api_CellStep.mk 0 (api_Stitch.mk 0 false 0 0)),(api_CellStep.mk 0 (api_Stitch.mk 0 false 0 0)),(api_CellStep.mk 0 (api_Stitch.mk 0 false 0 0)),(api_CellStep.mk 0 (api_Stitch.mk 0 false 0 0)),(api_CellStep.mk 0 (api_Stitch.mk 0 false 0 0)),(api_CellStep.mk 0 (api_Stitch.mk 0 false 0 0)),(api_CellStep.mk 0 (api_Stitch.mk 0 false 0 0)),(api_CellStep.mk 0 (api_Stitch.mk 0 false 0 0)),(api_CellStep.mk 0 (api_Stitch.mk 0 false 0 0)),(api_CellStep.mk 0 (api_Stitch.mk 0 false 0 0)),(api_CellStep.mk 0 (api_Stitch.mk 0 false 0 0)),(api_CellStep.mk 0 (api_Stitch.mk 0 false 0 0)),(api_CellStep.mk 0 (api_Stitch.mk 0 false 0 0)),(api_CellStep.mk 0 (api_Stitch.mk 0 false 0 0)),(api_CellStep.mk 0 (api_Stitch.mk 0 false 0 0)),(api_CellStep.mk 0 (api_Stitch.mk 0 false 0 0)),(api_CellStep.mk 0 (api_Stitch.mk 0 false 0 0)),(api_CellStep.mk 0 (api_Stitch.mk 0 false 0 0)),(api_CellStep.mk 0 (api_Stitch.mk 0 false 0 0)),(api_CellStep.mk 0 (api_Stitch.mk 0 false 0 0)),(api_CellStep.mk 0 (api_Stitch.mk 0 false 0 0)),(api_CellStep.mk 0 (api_Stitch.mk 0 false 0 0)),(api_CellStep.mk 0 (api_Stitch.mk 0 false 0 0)),(api_CellStep.mk 0 (api_Stitch.mk 0 false 0 0)),(api_CellStep.mk 0 (api_Stitch.mk 0 false 0 0)),(api_CellStep.mk 0 (api_Stitch.mk 0 false 0 0)),(api_CellStep.mk 0 (api_Stitch.mk 0 false 0 0)),(api_CellStep.mk 0 (api_Stitch.mk 0 false 0 0)),(api_CellStep.mk 0 (api_Stitch.mk 0 false 0 0)),(api_CellStep.mk 0 (api_Stitch.mk 0 false 0 0)),(api_CellStep.mk 0 (api_Stitch.mk 0 false 0 0)),(api_CellStep.mk 0 (api_Stitch.mk 0 false 0 0)),(api_CellStep.mk 0 (api_Stitch.mk 0 false 0 0)),(api_CellStep.mk 0 (api_Stitch.mk 0 false 0 0)),(api_CellStep.mk 0 (api_Stitch.mk 0 false 0 0)),(api_CellStep.mk 0 (api_Stitch.mk 0 false 0 0)),(api_CellStep.mk 0 (api_Stitch.mk 0 false 0 0)),(api_CellStep.mk 0 (api_Stitch.mk 0 false 0 0)),(api_CellStep.mk 0 (api_Stitch.mk 0 false 0 0)),(api_CellStep.mk 0 (api_Stitch.mk 0 false 0 0)),(api_CellStep.mk 0 (api_Stitch.mk 0 false 0 0)),(api_CellStep.mk 0 (api_Stitch.mk 0 false 0 0)),(api_CellStep.mk 0 (api_Stitch.mk 0 false 0 0)),(api_CellStep.mk 0 (api_Stitch.mk 0 false 0 0)),(api_CellStep.mk 0 (api_Stitch.mk 0 false 0 0)),(api_CellStep.mk 0 (api_Stitch.mk 0 false 0 0)),(api_CellStep.mk 0 (api_Stitch.mk 0 false 0 0)),(api_CellStep.mk 0 (api_Stitch.mk 0 false 0 0)),(api_CellStep.mk 0 (api_Stitch.mk 0 false 0 0)),(api_CellStep.mk 0 (api_Stitch.mk 0 false 0 0)),(api_CellStep.mk 0 (api_Stitch.mk 0 false 0 0)),(api_CellStep.mk 0 (api_Stitch.mk 0 false 0 0)),(api_CellStep.mk 0 (api_Stitch.mk 0 false 0 0)),(api_CellStep.mk 0 (api_Stitch.mk 0 false 0 0)),(api_CellStep.mk 0 (api_Stitch.mk 0 false 0 0)),(api_CellStep.mk 0 (api_Stitch.mk 0 false 0 0)),(api_CellStep.mk 0 (api_Stitch.mk 0 false 0 0)),(api_CellStep.mk 0 (api_Stitch.mk 0 false 0 0)),(api_CellStep.mk 0 (api_Stitch.mk 0 false 0 0)),(api_CellStep.mk 0 (api_Stitch.mk 0 false 0 0)),(api_CellStep.mk 0 (api_Stitch.mk 0 false 0 0)),(api_CellStep.mk 0 (api_Stitch.mk 0 false 0 0)),(api_CellStep.mk 0 (api_Stitch.mk 0 false 0 0)),(api_CellStep.mk 0 (api_Stitch.mk 0 false 0 0)),(api_CellStep.mk 0 (api_Stitch.mk 0 false 0 0)),(api_CellStep.mk 0 (api_Stitch.mk 0 false 0 0)),(api_CellStep.mk 0 (api_Stitch.mk 0 false 0 0)),(api_CellStep.mk 0 (api_Stitch.mk 0 false 0 0)),(api_CellStep.mk 0 (api_Stitch.mk 0 false 0 0)),(api_CellStep.mk 0 (api_Stitch.mk 0 false 0 0)),(api_CellStep.mk 0 (api_Stitch.mk 0 false 0 0)),(api_CellStep.mk 0 (api_Stitch.mk 0 false 0 0)),(api_CellStep.mk 0 (api_Stitch.mk 0 false 0 0)),(api_CellStep.mk 0 (api_Stitch.mk 0 false 0 0)),(api_CellStep.mk 0 (api_Stitch.mk 0 false 0 0)),(api_CellStep.mk 0 (api_Stitch.mk 0 false 0 0)),(api_CellStep.mk 0 (api_Stitch.mk 0 false 0 0)),(api_CellStep.mk 0 (api_Stitch.mk 0 false 0 0)),(api_CellStep.mk 0 (api_Stitch.mk 0 false 0 0)),(api_CellStep.mk 0 (api_Stitch.mk 0 false 0 0)),(api_CellStep.mk 0 (api_Stitch.mk 0 false 0 0)),(api_CellStep.mk 0 (api_Stitch.mk 0 false 0 0)),(api_CellStep.mk 0 (api_Stitch.mk 0 false 0 0)),(api_CellStep.mk 0 (api_Stitch.mk 0 false 0 0)),(api_CellStep.mk 0 (api_Stitch.mk 0 false 0 0)),(api_CellStep.mk 0 (api_Stitch.mk 0 false 0 0)),(api_CellStep.mk 0 (api_Stitch.mk 0 false 0 0)),(api_CellStep.mk 0 (api_Stitch.mk 0 false 0 0)),(api_CellStep.mk 0 (api_Stitch.mk 0 false 0 0)),(api_CellStep.mk 0 (api_Stitch.mk 0 false 0 0)),(api_CellStep.mk 0 (api_Stitch.mk 0 false 0 0)),(api_CellStep.mk 0 (api_Stitch.mk 0 false 0 0)),(api_CellStep.mk 0 (api_Stitch.mk 0 false 0 0)),(api_CellStep.mk 0 (api_Stitch.mk 0 false 0 0)),(api_CellStep.mk 0 (api_Stitch.mk 0 false 0 0)),(api_CellStep.mk 0 (api_Stitch.mk 0 false 0 0)),(api_CellStep.mk 0 (api_Stitch.mk 0 false 0 0)),(api_CellStep.mk 0 (api_Stitch.mk 0 false 0 0)),(api_CellStep.mk 0 (api_Stitch.mk 0 false 0 0)),(api_CellStep.mk 0 (api_Stitch.mk 0 false 0 0)),(api_CellStep.mk 0 (api_Stitch.mk 0 false 0 0)),(api_CellStep.mk 0 (api_Stitch.mk 0 false 0 0)),(api_CellStep.mk 0 (api_Stitch.mk 0 false 0 0)),(api_CellStep.mk 0 (api_Stitch.mk 0 false 0 0)),(api_CellStep.mk 0 (api_Stitch.mk 0 false 0 0)),(api_CellStep.mk 0 (api_Stitch.mk 0 false 0 0)),(api_CellStep.mk 0 (api_Stitch.mk 0 false 0 0)),(api_CellStep.mk 0 (api_Stitch.mk 0 false 0 0)),(api_CellStep.mk 0 (api_Stitch.mk 0 false 0 0)),(api_CellStep.mk 0 (api_Stitch.mk 0 false 0 0)),(api_CellStep.mk 0 (api_Stitch.mk 0 false 0 0)),(api_CellStep.mk 0 (api_Stitch.mk 0 false 0 0)),(api_CellStep.mk 0 (api_Stitch.mk 0 false 0 0)),(api_CellStep.mk 0 (api_Stitch.mk 0 false 0 0)),(api_CellStep.mk 0 (api_Stitch.mk 0 false 0 0)),(api_CellStep.mk 0 (api_Stitch.mk 0 false 0 0)),(api_CellStep.mk 0 (api_Stitch.mk 0 false 0 0)),(api_CellStep.mk 0 (api_Stitch.mk 0 false 0 0)),(api_CellStep.mk 0 (api_Stitch.mk 0 false 0 0)),(api_CellStep.mk 0 (api_Stitch.mk 0 false 0 0)),(api_CellStep.mk 0 (api_Stitch.mk 0 false 0 0)),(api_CellStep.mk 0 (api_Stitch.mk 0 false 0 0)),(api_CellStep.mk 0 (api_Stitch.mk 0 false 0 0)),(api_CellStep.mk 0 (api_Stitch.mk 0 false 0 0)),(api_CellStep.mk 0 (api_Stitch.mk 0 false 0 0)),(api_CellStep.mk 0 (api_Stitch.mk 0 false 0 0)),(api_CellStep.mk 0 (api_Stitch.mk 0 false 0 0)),(api_CellStep.mk 0 (api_Stitch.mk 0 false 0 0)),(api_CellStep.mk 0 (api_Stitch.mk 0 false 0 0)),(api_CellStep.mk 0 (api_Stitch.mk 0 false 0 0)),(api_CellStep.mk 0 (api_Stitch.mk 0 false 0 0)),(api_CellStep.mk 0 (api_Stitch.mk 0 false 0 0)),(api_CellStep.mk 0 (api_Stitch.mk 0 false 0 0)),(api_CellStep.mk 0 (api_Stitch.mk 0 false 0 0)),(api_CellStep.mk 0 (api_Stitch.mk 0 false 0 0)),(api_CellStep.mk 0 (api_Stitch.mk 0 false 0 0)),(api_CellStep.mk 0 (api_Stitch.mk 0 false 0 0)),(api_CellStep.mk 0 (api_Stitch.mk 0 false 0 0)),(api_CellStep.mk 0 (api_Stitch.mk 0 false 0 0)),(api_CellStep.mk 0 (api_Stitch.mk 0 false 0 0)),(api_CellStep.mk 0 (api_Stitch.mk 0 false 0 0)),(api_CellStep.mk 0 (api_Stitch.mk 0 false 0 0)),(api_CellStep.mk 0 (api_Stitch.mk 0 false 0 0)),(api_CellStep.mk 0 (api_Stitch.mk 0 false 0 0)),(api_CellStep.mk 0 (api_Stitch.mk 0 false 0 0)),(api_CellStep.mk 0 (api_Stitch.mk 0 false 0 0)),(api_CellStep.mk 0 (api_Stitch.mk 0 false 0 0)),(api_CellStep.mk 0 (api_Stitch.mk 0 false 0 0)),(api_CellStep.mk 0 (api_Stitch.mk 0 false 0 0)),(api_CellStep.mk 0 (api_Stitch.mk 0 false 0 0)),(api_CellStep.mk 0 (api_Stitch.mk 0 false 0 0)),(api_CellStep.mk 0 (api_Stitch.mk 0 false 0 0)),(api_CellStep.mk 0 (api_Stitch.mk 0 false 0 0)),(api_CellStep.mk 0 (api_Stitch.mk 0 false 0 0)),(api_CellStep.mk 0 (api_Stitch.mk 0 false 0 0)),(api_CellStep.mk 0 (api_Stitch.mk 0 false 0 0)),(api_CellStep.mk 0 (api_Stitch.mk 0 false 0 0)),(api_CellStep.mk 0 (api_Stitch.mk 0 false 0 0)),(api_CellStep.mk 0 (api_Stitch.mk 0 false 0 0)),(api_CellStep.mk 0 (api_Stitch.mk 0 false 0 0)),(api_CellStep.mk 0 (api_Stitch.mk 0 false 0 0)),(api_CellStep.mk 0 (api_Stitch.mk 0 false 0 0)),(api_CellStep.mk 0 (api_Stitch.mk 0 false 0 0)),(api_CellStep.mk 0 (api_Stitch.mk 0 false 0 0)),(api_CellStep.mk 0 (api_Stitch.mk 0 false 0 0)),(api_CellStep.mk 0 (api_Stitch.mk 0 false 0 0)),(api_CellStep.mk 0 (api_Stitch.mk 0 false 0 0)),(api_CellStep.mk 0 (api_Stitch.mk 0 false 0 0)),(api_CellStep.mk 0 (api_Stitch.mk 0 false 0 0)),(api_CellStep.mk 0 (api_Stitch.mk 0 false 0 0)),(api_CellStep.mk 0 (api_Stitch.mk 0 false 0 0)),(api_CellStep.mk 0 (api_Stitch.mk 0 false 0 0)),(api_CellStep.mk 0 (api_Stitch.mk 0 false 0 0)),(api_CellStep.mk 0 (api_Stitch.mk 0 false 0 0)),(api_CellStep.mk 0 (api_Stitch.mk 0 false 0 0)),(api_CellStep.mk 0 (api_Stitch.mk 0 false 0 0)),(api_CellStep.mk 0 (api_Stitch.mk 0 false 0 0)),(api_CellStep.mk 0 (api_Stitch.mk 0 false 0 0)),(api_CellStep.mk 0 (api_Stitch.mk 0 false 0 0)),(api_CellStep.mk 0 (api_Stitch.mk 0 false 0 0)),(api_CellStep.mk 0 (api_Stitch.mk 0 false 0 0)),(api_CellStep.mk 0 (api_Stitch.mk 0 false 0 0)),(api_CellStep.mk 0 (api_Stitch.mk 0 false 0 0)),(api_CellStep.mk 0 (api_Stitch.mk 0 false 0 0)),(api_CellStep.mk 0 (api_Stitch.mk 0 false 0 0)),(api_CellStep.mk 0 (api_Stitch.mk 0 false 0 0)),(api_CellStep.mk 0 (api_Stitch.mk 0 false 0 0)),(api_CellStep.mk 0 (api_Stitch.mk 0 false 0 0)),(api_CellStep.mk 0 (api_Stitch.mk 0 false 0 0)),(api_CellStep.mk 0 (api_Stitch.mk 0 false 0 0)),(api_CellStep.mk 0 (api_Stitch.mk 0 false 0 0)),(api_CellStep.mk 0 (api_Stitch.mk 0 false 0 0)),(api_CellStep.mk 0 (api_Stitch.mk 0 false 0 0)),(api_CellStep.mk 0 (api_Stitch.mk 0 false 0 0)),(api_CellStep.mk 0 (api_Stitch.mk 0 false 0 0)),(api_CellStep.mk 0 (api_Stitch.mk 0 false 0 0)),(api_CellStep.mk 0 (api_Stitch.mk 0 false 0 0)),(api_CellStep.mk 0 (api_Stitch.mk 0 false 0 0)),(api_CellStep.mk 0 (api_Stitch.mk 0 false 0 0)),(api_CellStep.mk 0 (api_Stitch.mk 0 false 0 0)),(api_CellStep.mk 0 (api_Stitch.mk 0 false 0 0)),(api_CellStep.mk 0 (api_Stitch.mk 0 false 0 0)),(api_CellStep.mk 0 (api_Stitch.mk 0 false 0 0)),(api_CellStep.mk 0 (api_Stitch.mk 0 false 0 0)),(api_CellStep.mk 0 (api_Stitch.mk 0 false 0 0)),(api_CellStep.mk 0 (api_Stitch.mk 0 false 0 0)),(api_CellStep.mk 0 (api_Stitch.mk 0 false 0 0)),(api_CellStep.mk 0 (api_Stitch.mk 0 false 0 0)),(api_CellStep.mk 0 (api_Stitch.mk 0 false 0 0)),(api_CellStep.mk 0 (api_Stitch.mk 0 false 0 0)),(api_CellStep.mk 0 (api_Stitch.mk 0 false 0 0)),(api_CellStep.mk 0 (api_Stitch.mk 0 false 0 0)),(api_CellStep.mk 0 (api_Stitch.mk 0 false 0 0)),(api_CellStep.mk 0 (api_Stitch.mk 0 false 0 0)),(api_CellStep.mk 0 (api_Stitch.mk 0 false 0 0)),(api_CellStep.mk 0 (api_Stitch.mk 0 false 0 0)),(api_CellStep.mk 0 (api_Stitch.mk 0 false 0 0)),(api_CellStep.mk 0 (api_Stitch.mk 0 false 0 0)),(api_CellStep.mk 0 (api_Stitch.mk 0 false 0 0)),(api_CellStep.mk 0 (api_Stitch.mk 0 false 0 0)),(api_CellStep.mk 0 (api_Stitch.mk 0 false 0 0)),(api_CellStep.mk 0 (api_Stitch.mk 0 false 0 0)),(api_CellStep.mk 0 (api_Stitch.mk 0 false 0 0)),(api_CellStep.mk 0 (api_Stitch.mk 0 false 0 0)),(api_CellStep.mk 0 (api_Stitch.mk 0 false 0 0)),(api_CellStep.mk 0 (api_Stitch.mk 0 false 0 0)),(api_CellStep.mk 0 (api_Stitch.mk 0 false 0 0)),(api_CellStep.mk 0 (api_Stitch.mk 0 false 0 0)),(api_CellStep.mk 0 (api_Stitch.mk 0 false 0 0)),(api_CellStep.mk 0 (api_Stitch.mk 0 false 0 0)),(api_CellStep.mk 0 (api_Stitch.mk 0 false 0 0)),(api_CellStep.mk 0 (api_Stitch.mk 0 false 0 0)),(api_CellStep.mk 0 (api_Stitch.mk 0 false 0 0)),(api_CellStep.mk 0 (api_Stitch.mk 0 false 0 0)),(api_CellStep.mk 0 (api_Stitch.mk 0 false 0 0)),(api_CellStep.mk 0 (api_Stitch.mk 0 false 0 0)),(api_CellStep.mk 0 (api_Stitch.mk 0 false 0 0)),(api_CellStep.mk 0 (api_Stitch.mk 0 false 0 0)),(api_CellStep.mk 0 (api_Stitch.mk 0 false 0 0)),(api_CellStep.mk 0 (api_Stitch.mk 0 false 0 0)),(api_CellStep.mk 0 (api_Stitch.mk 0 false 0 0)),(api_CellStep.mk 0 (api_Stitch.mk 0 false 0 0)),(api_CellStep.mk 0 (api_Stitch.mk 0 false 0 0)),(api_CellStep.mk 0 (api_Stitch.mk 0 false 0 0)),(api_CellStep.mk 0 (api_Stitch.mk 0 false 0 0)),(api_CellStep.mk 0 (api_Stitch.mk 0 false 0 0)),(api_CellStep.mk 0 (api_Stitch.mk 0 false 0 0)),(api_CellStep.mk 0 (api_Stitch.mk 0 false 0 0)),(api_CellStep.mk 0 (api_Stitch.mk 0 false 0 0)),(api_CellStep.mk 0 (api_Stitch.mk 0 false 0 0)),(api_CellStep.mk 0 (api_Stitch.mk 0 false 0 0)),(api_CellStep.mk 0 (api_Stitch.mk 0 false 0 0)),(api_CellStep.mk 0 (api_Stitch.mk 0 false 0 0)),(api_CellStep.mk 0 (api_Stitch.mk 0 false 0 0)),(api_CellStep.mk 0 (api_Stitch.mk 0 false 0 0)),(api_CellStep.mk 0 (api_Stitch.mk 0 false 0 0)),(api_CellStep.mk 0 (api_Stitch.mk 0 false 0 0)),(api_CellStep.mk 0 (api_Stitch.mk 0 false 0 0)),(api_CellStep.mk 0 (api_Stitch.mk 0 false 0 0)),(api_CellStep.mk 0 (api_Stitch.mk 0 false 0 0)),(api_CellStep.mk 0 (api_Stitch.mk 0 false 0 0)),(api_CellStep.mk 0 (api_Stitch.mk 0 false 0 0)),(api_CellStep.mk 0 (api_Stitch.mk 0 false 0 0)),(api_CellStep.mk 0 (api_Stitch.mk 0 false 0 0)),(api_CellStep.mk 0 (api_Stitch.mk 0 false 0 0)),(api_CellStep.mk 0 (api_Stitch.mk 0 false 0 0)),(api_CellStep.mk 0 (api_Stitch.mk 0 false 0 0)),(api_CellStep.mk 0 (api_Stitch.mk 0 false 0 0)),(api_CellStep.mk 0 (api_Stitch.mk 0 false 0 0)),(api_CellStep.mk 0 (api_Stitch.mk 0 false 0 0)),(api_CellStep.mk 0 (api_Stitch.mk 0 false 0 0)),(api_CellStep.mk 0 (api_Stitch.mk 0 false 0 0)),(api_CellStep.mk 0 (api_Stitch.mk 0 false 0 0)),(api_CellStep.mk 0 (api_Stitch.mk 0 false 0 0)),(api_CellStep.mk 0 (api_Stitch.mk 0 false 0 0)),(api_CellStep.mk 0 (api_Stitch.mk 0 false 0 0)),(api_CellStep.mk 0 (api_Stitch.mk 0 false 0 0)),(api_CellStep.mk 0 (api_Stitch.mk 0 false 0 0)),(api_CellStep.mk 0 (api_Stitch.mk 0 false 0 0)),(api_CellStep.mk 0 (api_Stitch.mk 0 false 0 0)),(api_CellStep.mk 0 (api_Stitch.mk 0 false 0 0)),(api_CellStep.mk 0 (api_Stitch.mk 0 false 0 0)),(api_CellStep.mk 0 (api_Stitch.mk 0 false 0 0)),(api_CellStep.mk 0 (api_Stitch.mk 0 false 0 0)),(api_CellStep.mk 0 (api_Stitch.mk 0 false 0 0)),(api_CellStep.mk 0 (api_Stitch.mk 0 false 0 0)),(api_CellStep.mk 0 (api_Stitch.mk 0 false 0 0)),(api_CellStep.mk 0 (api_Stitch.mk 0 false 0 0)),(api_CellStep.mk 0 (api_Stitch.mk 0 false 0 0)),(api_CellStep.mk 0 (api_Stitch.mk 0 false 0 0)),(api_CellStep.mk 0 (api_Stitch.mk 0 false 0 0)),(api_CellStep.mk 0 (api_Stitch.mk 0 false 0 0)),(api_CellStep.mk 0 (api_Stitch.mk 0 false 0 0)),(api_CellStep.mk 0 (api_Stitch.mk 0 false 0 0)),(api_CellStep.mk 0 (api_Stitch.mk 0 false 0 0)),(api_CellStep.mk 0 (api_Stitch.mk 0 false 0 0)),(api_CellStep.mk 0 (api_Stitch.mk 0 false 0 0)),(api_CellStep.mk 0 (api_Stitch.mk 0 false 0 0)),(api_CellStep.mk 0 (api_Stitch.mk 0 false 0 0)),(api_CellStep.mk 0 (api_Stitch.mk 0 false 0 0)),(api_CellStep.mk 0 (api_Stitch.mk 0 false 0 0)),(api_CellStep.mk 0 (api_Stitch.mk 0 false 0 0)),(api_CellStep.mk 0 (api_Stitch.mk 0 false 0 0)),(api_CellStep.mk 0 (api_Stitch.mk 0 false 0 0)),(api_CellStep.mk 0 (api_Stitch.mk 0 false 0 0)),(api_CellStep.mk 0 (api_Stitch.mk 0 false 0 0)),(api_CellStep.mk 0 (api_Stitch.mk 0 false 0 0)),(api_CellStep.mk 0 (api_Stitch.mk 0 false 0 0)),(api_CellStep.mk 0 (api_Stitch.mk 0 false 0 0)),(api_CellStep.mk 0 (api_Stitch.mk 0 false 0 0)),(api_CellStep.mk 0 (api_Stitch.mk 0 false 0 0)),(api_CellStep.mk 0 (api_Stitch.mk 0 false 0 0)),(api_CellStep.mk 0 (api_Stitch.mk 0 false 0 0)),(api_CellStep.mk 0 (api_Stitch.mk 0 false 0 0)),(api_CellStep.mk 0 (api_Stitch.mk 0 false 0 0)),(api_CellStep.mk 0 (api_Stitch.mk 0 false 0 0)),(api_CellStep.mk 0 (api_Stitch.mk 0 false 0 0)),(api_CellStep.mk 0 (api_Stitch.mk 0 false 0 0)),(api_CellStep.mk 0 (api_Stitch.mk 0 false 0 0)),(api_CellStep.mk 0 (api_Stitch.mk 0 false 0 0)),(api_CellStep.mk 0 (api_Stitch.mk 0 false 0 0)),(api_CellStep.mk 0 (api_Stitch.mk 0 false 0 0)),(api_CellStep.mk 0 (api_Stitch.mk 0 false 0 0)),(api_CellStep.mk 0 (api_Stitch.mk 0 false 0 0)),(api_CellStep.mk 0 (api_Stitch.mk 0 false 0 0)),(api_CellStep.mk 0 (api_Stitch.mk 0 false 0 0)),(api_CellStep.mk 0 (api_Stitch.mk 0 false 0 0)),(api_CellStep.mk 0 (api_Stitch.mk 0 false 0 0)),(api_CellStep.mk 0 (api_Stitch.mk 0 false 0 0)),(api_CellStep.mk 0 (api_Stitch.mk 0 false 0 0)),(api_CellStep.mk 0 (api_Stitch.mk 0 false 0 0)),(api_CellStep.mk 0 (api_Stitch.mk 0 false 0 0)),(api_CellStep.mk 0 (api_Stitch.mk 0 false 0 0)),(api_CellStep.mk 0 (api_Stitch.mk 0 false 0 0)),(api_CellStep.mk 0 (api_Stitch.mk 0 false 0 0)),(api_CellStep.mk 0 (api_Stitch.mk 0 false 0 0)),(api_CellStep.mk 0 (api_Stitch.mk 0 false 0 0)),(api_CellStep.mk 0 (api_Stitch.mk 0 false 0 0)),(api_CellStep.mk 0 (api_Stitch.mk 0 false 0 0)),(api_CellStep.mk 0 (api_Stitch.mk 0 false 0 0)),(api_CellStep.mk 0 (api_Stitch.mk 0 false 0 0)),(api_CellStep.mk 0 (api_Stitch.mk 0 false 0 0)),(api_CellStep.mk 0 (api_Stitch.mk 0 false 0 0)),(api_CellStep.mk 0 (api_Stitch.mk 0 false 0 0)),(api_CellStep.mk 0 (api_Stitch.mk 0 false 0 0)),(api_CellStep.mk 0 (api_Stitch.mk 0 false 0 0)),(api_CellStep.mk 0 (api_Stitch.mk 0 false 0 0)),(api_CellStep.mk 0 (api_Stitch.mk 0 false 0 0)),(api_CellStep.mk 0 (api_Stitch.mk 0 false 0 0)),(api_CellStep.mk 0 (api_Stitch.mk 0 false 0 0)),(api_CellStep.mk 0 (api_Stitch.mk 0 false 0 0)),(api_CellStep.mk 0 (api_Stitch.mk 0 false 0 0)),(api_CellStep.mk 0 (api_Stitch.mk 0 false 0 0)),(api_CellStep.mk 0 (api_Stitch.mk 0 false 0 0)),(api_CellStep.mk 0 (api_Stitch.mk 0 false 0 0)),(api_CellStep.mk 0 (api_Stitch.mk 0 false 0 0)),(api_CellStep.mk 0 (api_Stitch.mk 0 false 0 0)),(api_CellStep.mk 0 (api_Stitch.mk 0 false 0 0)),(api_CellStep.mk 0 (api_Stitch.mk 0 false 0 0)),(api_CellStep.mk 0 (api_Stitch.mk 0 false 0 0)),(api_CellStep.mk 0 (api_Stitch.mk 0 false 0 0)),(api_CellStep.mk 0 (api_Stitch.mk 0 false 0 0)),(api_CellStep.mk 0 (api_Stitch.mk 0 false 0 0)),(api_CellStep.mk 0 (api_Stitch.mk 0 false 0 0)),(api_CellStep.mk 0 (api_Stitch.mk 0 false 0 0)),(api_CellStep.mk 0 (api_Stitch.mk 0 false 0 0))])=some ([],4):=m_F_compare_Patch _ _ _ (by kernel_rfl)
set_option maxRecDepth 1000000 in
theorem kc_raddlelaw46_CompareNames_22:F_compare_Patch [(api_Stitch.mk 1 false 0 0)] [(api_CellStep.mk 0 (api_Stitch.mk 0 false 0 0))]=some ([],8):=m_F_compare_Patch _ _ _ (by kernel_rfl)
set_option maxRecDepth 1000000 in
theorem kc_raddlelaw46_CompareNames_23:F_compare_Patch [(api_Stitch.mk 1 false 0 0)] [(api_CellStep.mk 1 (api_Stitch.mk 2 false 0 0))]=some ([],8):=m_F_compare_Patch _ _ _ (by kernel_rfl)
set_option maxRecDepth 1000000 in
theorem kc_raddlelaw46_CompareNames_24:F_compare_Patch [(api_Stitch.mk 1 false 0 0)] [(api_CellStep.mk 3 (api_Stitch.mk 0 false 0 0))]=some ([],8):=m_F_compare_Patch _ _ _ (by kernel_rfl)
set_option maxRecDepth 1000000 in
theorem kc_raddlelaw46_CompareNames_25:F_compare_Patch [(api_Stitch.mk 1 false 0 0)] [(api_CellStep.mk 1 (api_Stitch.mk 0 false 0 0)),(api_CellStep.mk 4 (api_Stitch.mk 0 false 0 0))]=some ([],30):=m_F_compare_Patch _ _ _ (by kernel_rfl)
set_option maxRecDepth 1000000 in
theorem kc_raddlelaw46_CompareNames_26:F_compare_Patch [(api_Stitch.mk 1 false 0 0)] ([]:(List api_CellStep))=some ([],30):=m_F_compare_Patch _ _ _ (by kernel_rfl)
set_option maxRecDepth 1000000 in
theorem kc_raddlelaw46_CompareNames_27:F_compare_Patch [(api_Stitch.mk 1 false 0 0)] [(api_CellStep.mk 2 (api_Stitch.mk 1 false 0 0))]=some ([],30):=m_F_compare_Patch _ _ _ (by kernel_rfl)
set_option maxRecDepth 1000000 in
theorem kc_raddlelaw46_CompareNames_28:F_compare_Patch [(api_Stitch.mk 0 false 0 0)] ([]:(List api_CellStep))=some ([],8):=m_F_compare_Patch _ _ _ (by kernel_rfl)
set_option maxRecDepth 1000000 in
theorem kc_raddlelaw46_CompareNames_29:F_compare_Back ([(api_Stitch.mk 1 false 0 0),(api_Stitch.mk 1 false 0 0)]) [(api_CellStep.mk 3 (api_Stitch.mk 2 false 0 0)),(api_CellStep.mk 4 (api_Stitch.mk 0 false 0 0)),(api_CellStep.mk 2 (api_Stitch.mk 2 false 0 0))]=some ([(api_CellStep.mk 4 (api_Stitch.mk 0 false 0 0)),(api_CellStep.mk 3 (api_Stitch.mk 1 false 0 0)),(api_CellStep.mk 2 (api_Stitch.mk 1 false 0 0))],0):=m_F_compare_Back _ _ _ (by kernel_rfl)
set_option maxRecDepth 1000000 in
theorem kc_raddlelaw46_CompareNames_30:F_compare_Patch ([]:(List api_Stitch)) [(api_CellStep.mk 3 (api_Stitch.mk 9 false 200 0)),(api_CellStep.mk 3 (api_Stitch.mk 2 false 0 0))]=some ([],4):=m_F_compare_Patch _ _ _ (by kernel_rfl)
set_option maxRecDepth 1000000 in
theorem kc_raddlelaw46_CompareNames_31:F_compare_Edits [(api_Stitch.mk 0 false 0 0)] ([]:(List api_Stitch))=some ([],(0,8)):=m_F_compare_Edits _ _ _ (by kernel_rfl)
set_option maxRecDepth 1000000 in
theorem kc_raddlelaw46_CompareNames_32:F_compare_Edits ([]:(List api_Stitch)) ([(api_Stitch.mk 0 false 0 0),(api_Stitch.mk 0 false 0 0),(api_Stitch.mk 0 false 0 0),(api_Stitch.mk 0 false 0 0),(api_Stitch.mk 0 false 0 0),(api_Stitch.mk 0 false 0 0),(api_Stitch.mk 0 false 0 0),(api_Stitch.mk 0 false 0 0),(api_Stitch.mk 0 false 0 0),(api_Stitch.mk 0 false 0 0),(api_Stitch.mk 0 false 0 0),(api_Stitch.mk 0 false 0 0),(api_Stitch.mk 0 false 0 0),(api_Stitch.mk 0 false 0 0),(api_Stitch.mk 0 false 0 0),(api_Stitch.mk 0 false 0 0),(api_Stitch.mk 0 false 0 0),(api_Stitch.mk 0 false 0 0),(api_Stitch.mk 0 false 0 0),(api_Stitch.mk 0 false 0 0),(api_Stitch.mk 0 false 0 0),(api_Stitch.mk 0 false 0 0),(api_Stitch.mk 0 false 0 0),(api_Stitch.mk 0 false 0 0),(api_Stitch.mk 0 false 0 0),(api_Stitch.mk 0 false 0 0),(api_Stitch.mk 0 false 0 0),(api_Stitch.mk 0 false 0 0),(api_Stitch.mk 0 false 0 0),(api_Stitch.mk 0 false 0 0),(api_Stitch.mk 0 false 0 0),(api_Stitch.mk 0 false 0 0),(api_Stitch.mk 0 false 0 0),(api_Stitch.mk 0 false 0 0),(api_Stitch.mk 0 false 0 0),(api_Stitch.mk 0 false 0 0),(api_Stitch.mk 0 false 0 0),(api_Stitch.mk 0 false 0 0),(api_Stitch.mk 0 false 0 0),(api_Stitch.mk 0 false 0 0),(api_Stitch.mk 0 false 0 0),(api_Stitch.mk 0 false 0 0),(api_Stitch.mk 0 false 0 0),(api_Stitch.mk 0 false 0 0),(api_Stitch.mk 0 false 0 0),(api_Stitch.mk 0 false 0 0),(api_Stitch.mk 0 false 0 0),(api_Stitch.mk 0 false 0 0),(api_Stitch.mk 0 false 0 0),(api_Stitch.mk 0 false 0 0),(api_Stitch.mk 0 false 0 0),(api_Stitch.mk 0 false 0 0),(api_Stitch.mk 0 false 0 0),(api_Stitch.mk 0 false 0 0),(api_Stitch.mk 0 false 0 0),(api_Stitch.mk 0 false 0 0),(api_Stitch.mk 0 false 0 0),(api_Stitch.mk 0 false 0 0),(api_Stitch.mk 0 false 0 0),(api_Stitch.mk 0 false 0 0),(api_Stitch.mk 0 false 0 0),(api_Stitch.mk 0 false 0 0),(api_Stitch.mk 0 false 0 0),(api_Stitch.mk 0 false 0 0),(api_Stitch.mk 0 false 0 0),(api_Stitch.mk 0 false 0 0),(api_Stitch.mk 0 false 0 0),(api_Stitch.mk 0 false 0 0),(api_Stitch.mk 0 false 0 0),(api_Stitch.mk 0 false 0 0),(api_Stitch.mk 0 false 0 0),(api_Stitch.mk 0 false 0 0),(api_Stitch.mk 0 false 0 0),(api_Stitch.mk 0 false 0 0),(api_Stitch.mk 0 false 0 0),(api_Stitch.mk 0 false 0 0),(api_Stitch.mk 0 false 0 0),(api_Stitch.mk 0 false 0 0),(api_Stitch.mk 0 false 0 0),(api_Stitch.mk 0 false 0 0),(api_Stitch.mk 0 false 0 0),(api_Stitch.mk 0 false 0 0),(api_Stitch.mk 0 false 0 0),(api_Stitch.mk 0 false 0 0),(api_Stitch.mk 0 false 0 0),(api_Stitch.mk 0 false 0 0),(api_Stitch.mk 0 false 0 0),(api_Stitch.mk 0 false 0 0),(api_Stitch.mk 0 false 0 0),(api_Stitch.mk 0 false 0 0),(api_Stitch.mk 0 false 0 0),(api_Stitch.mk 0 false 0 0),(api_Stitch.mk 0 false 0 0),(api_Stitch.mk 0 false 0 0),(api_Stitch.mk 0 false 0 0),(api_Stitch.mk 0 false 0 0),(api_Stitch.mk 0 false 0 0),(api_Stitch.mk 0 false 0 0),(api_Stitch.mk 0 false 0 0),(api_Stitch.mk 0 false 0 0),(api_Stitch.mk 0 false 0 0),(api_Stitch.mk 0 false 0 0),(api_Stitch.mk 0 false 0 0),(api_Stitch.mk 0 false 0 0),(api_Stitch.mk 0 false 0 0),(api_Stitch.mk 0 false 0 0),(api_Stitch.mk 0 false 0 0),(api_Stitch.mk 0 false 0 0),(api_Stitch.mk 0 false 0 0),(api_Stitch.mk 0 false 0 0),(api_Stitch.mk 0 false 0 0),(api_Stitch.mk 0 false 0 0),(api_Stitch.mk 0 false 0 0),(api_Stitch.mk 0 false 0 0),(api_Stitch.mk 0 false 0 0),(api_Stitch.mk 0 false 0 0),(api_Stitch.mk 0 false 0 0),(api_Stitch.mk 0 false 0 0),(api_Stitch.mk 0 false 0 0),(api_Stitch.mk 0 false 0 0),(api_Stitch.mk 0 false 0 0),(api_Stitch.mk 0 false 0 0),(api_Stitch.mk 0 false 0 0),(api_Stitch.mk 0 false 0 0),(api_Stitch.mk 0 false 0 0),(api_Stitch.mk 0 false 0 0),(api_Stitch.mk 0 false 0 0),(api_Stitch.mk 0 false 0 0),(api_Stitch.mk 0 false 0 0),(api_Stitch.mk 0 false 0 0),(api_Stitch.mk 0 false 0 0),(api_Stitch.mk 0 false 0 0),(api_Stitch.mk 0 false 0 0),(api_Stitch.mk 0 false 0 0),(api_Stitch.mk 0 false 0 0),(api_Stitch.mk 0 false 0 0),(api_Stitch.mk 0 false 0 0),(api_Stitch.mk 0 false 0 0),(api_Stitch.mk 0 false 0 0),(api_Stitch.mk 0 false 0 0),(api_Stitch.mk 0 false 0 0),(api_Stitch.mk 0 false 0 0),(api_Stitch.mk 0 false 0 0),(api_Stitch.mk 0 false 0 0),(api_Stitch.mk 0 false 0 0),(api_Stitch.mk 0 false 0 0),(api_Stitch.mk 0 false 0 0),(api_Stitch.mk 0 false 0 0),(api_Stitch.mk 0 false 0 0),(api_Stitch.mk 0 false 0 0),(api_Stitch.mk 0 false 0 0),(api_Stitch.mk 0 false 0 0),(api_Stitch.mk 0 false 0 0),(api_Stitch.mk 0 false 0 0),(api_Stitch.mk 0 false 0 0),(api_Stitch.mk 0 false 0 0),(api_Stitch.mk 0 false 0 0),(api_Stitch.mk 0 false 0 0),(api_Stitch.mk 0 false 0 0),(api_Stitch.mk 0 false 0 0),(api_Stitch.mk 0 false 0 0),(api_Stitch.mk 0 false 0 0),(api_Stitch.mk 0 false 0 0),(api_Stitch.mk 0 false 0 0),(api_Stitch.mk 0 false 0 0),(api_Stitch.mk 0 false 0 0),(api_Stitch.mk 0 false 0 0),(api_Stitch.mk 0 false 0 0),(api_Stitch.mk 0 false 0 0),(api_Stitch.mk 0 false 0 0),(api_Stitch.mk 0 false 0 0),(api_Stitch.mk 0 false 0 0),(api_Stitch.mk 0 false 0 0),(api_Stitch.mk 0 false 0 0),(api_Stitch.mk 0 false 0 0),(api_Stitch.mk 0 false 0 0),(api_Stitch.mk 0 false 0 0),(api_Stitch.mk 0 false 0 0),(api_Stitch.mk 0 false 0 0),(api_Stitch.mk 0 false 0 0),(api_Stitch.mk 0 false 0 0),(api_Stitch.mk 0 false 0 0),(api_Stitch.mk 0 false 0 0),(api_Stitch.mk 0 false 0 0),(api_Stitch.mk 0 false 0 0),(api_Stitch.mk 0 false 0 0),(api_Stitch.mk 0 false 0 0),(api_Stitch.mk 0 false 0 0),(api_Stitch.mk 0 false 0 0),(api_Stitch.mk 0 false 0 0),(api_Stitch.mk 0 false 0 0),(api_Stitch.mk 0 false 0 0),(api_Stitch.mk 0 false 0 0),(api_Stitch.mk 0 false 0 0),(api_Stitch.mk 0 false 0 0),(api_Stitch.mk 0 false 0 0),(api_Stitch.mk 0 false 0 0),(api_Stitch.mk 0 false 0 0),(api_Stitch.mk 0 false 0 0),(api_Stitch.mk 0 false 0 0),(api_Stitch.mk 0 false 0 0)])=some ([],(0,4)):=m_F_compare_Edits _ _ _ (by kernel_rfl)
set_option maxRecDepth 1000000 in
theorem kc_raddlelaw46_CompareNames_33:F_raddleref46_Same (([(api_CellStep.mk 2 (api_Stitch.mk 1 true 0 0)),(api_CellStep.mk 2 (api_Stitch.mk 2 false 0 0))],(2,0))).1 [(api_CellStep.mk 2 (api_Stitch.mk 1 true 0 0)),(api_CellStep.mk 2 (api_Stitch.mk 2 false 0 0))]=some true:=m_F_raddleref46_Same _ _ _ (by kernel_rfl)
set_option maxRecDepth 1000000 in
theorem kc_raddlelaw46_CompareNames_34:F_raddleref46_Same (([(api_CellStep.mk 2 (api_Stitch.mk 2 false 0 0)),(api_CellStep.mk 2 (api_Stitch.mk 2 false 0 0)),(api_CellStep.mk 3 (api_Stitch.mk 2 false 0 0))],(3,0))).1 [(api_CellStep.mk 2 (api_Stitch.mk 2 false 0 0)),(api_CellStep.mk 2 (api_Stitch.mk 2 false 0 0)),(api_CellStep.mk 3 (api_Stitch.mk 2 false 0 0))]=some true:=m_F_raddleref46_Same _ _ _ (by kernel_rfl)
set_option maxRecDepth 1000000 in
theorem kc_raddlelaw46_CompareNames_35:F_raddleref46_Same (([(api_CellStep.mk 4 (api_Stitch.mk 0 false 0 0)),(api_CellStep.mk 3 (api_Stitch.mk 1 false 0 0)),(api_CellStep.mk 2 (api_Stitch.mk 1 false 0 0))],0)).1 [(api_CellStep.mk 4 (api_Stitch.mk 0 false 0 0)),(api_CellStep.mk 3 (api_Stitch.mk 1 false 0 0)),(api_CellStep.mk 2 (api_Stitch.mk 1 false 0 0))]=some true:=m_F_raddleref46_Same _ _ _ (by kernel_rfl)
set_option maxRecDepth 1000000 in
theorem kc_raddlelaw46_CompareNames_36:F_compare_Charts (api_Chart.mk 1 ([]:(List api_Row))) (api_Chart.mk 2 ([]:(List api_Row)))=some (1,0):=m_F_compare_Charts _ _ _ (by kernel_rfl)
set_option maxRecDepth 1000000 in
theorem kc_raddlelaw46_CompareNames_37:F_raddlelaw46_knit (⟨#[115,116,97,114,116,32,50,10,102,114,111,110,116,32,107,50,10,98,97,99,107,32,112,50,10]⟩:ByteArray)=some (api_Chart.mk 2 [(api_Row.mk false [(api_Stitch.mk 1 false 0 0),(api_Stitch.mk 1 false 0 0)]),(api_Row.mk true [(api_Stitch.mk 1 true 0 0),(api_Stitch.mk 1 true 0 0)])]):=m_F_raddlelaw46_knit _ _ (by kernel_rfl)
set_option maxRecDepth 1000000 in
theorem kc_raddlelaw46_CompareNames_38:F_raddlelaw46_knit (⟨#[115,116,97,114,116,32,50,10,98,97,99,107,32,112,50,10]⟩:ByteArray)=some (api_Chart.mk 2 [(api_Row.mk true [(api_Stitch.mk 1 true 0 0),(api_Stitch.mk 1 true 0 0)])]):=m_F_raddlelaw46_knit _ _ (by kernel_rfl)
set_option maxRecDepth 1000000 in
theorem kc_raddlelaw46_CompareNames_39:F_compare_Charts ((api_Chart.mk 2 [(api_Row.mk false [(api_Stitch.mk 1 false 0 0),(api_Stitch.mk 1 false 0 0)]),(api_Row.mk true [(api_Stitch.mk 1 true 0 0),(api_Stitch.mk 1 true 0 0)])])) ((api_Chart.mk 2 [(api_Row.mk true [(api_Stitch.mk 1 true 0 0),(api_Stitch.mk 1 true 0 0)])]))=some (3,0):=m_F_compare_Charts _ _ _ (by kernel_rfl)
set_option maxRecDepth 1000000 in
theorem kc_raddlelaw46_CompareNames_40:F_compare_Charts (api_Chart.mk 1 [(api_Row.mk false ([]:(List api_Stitch)))]) (api_Chart.mk (-1) ([]:(List api_Row)))=some (0,26):=m_F_compare_Charts _ _ _ (by kernel_rfl)
set_option maxRecDepth 1000000 in
theorem kc_raddlelaw46_CompareNames_41:F_compare_Charts (api_Chart.mk 0 ([]:(List api_Row))) (api_Chart.mk (-1) ([]:(List api_Row)))=some (0,8):=m_F_compare_Charts _ _ _ (by kernel_rfl)
set_option maxRecDepth 1000000 in
theorem kc_raddlelaw46_CompareNames_42:F_raddlelaw46_alive=some true:=m_F_raddlelaw46_alive _ (by kernel_rfl)
end Go.Proofs.Ytffikfajljbmnaa
