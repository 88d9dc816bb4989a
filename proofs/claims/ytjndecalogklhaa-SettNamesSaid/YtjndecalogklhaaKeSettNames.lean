/- Closed functions, run by the kernel (printed by tools/kern.py). -/
import Derived.Test.YtjndecalogklhaaKeA
import Derived.Test.YtjndecalogklhaaG11
import Derived.Test.YtjndecalogklhaaG13
import Derived.Test.YtjndecalogklhaaG15
import Derived.Test.YtjndecalogklhaaG17
import Derived.Test.YtjndecalogklhaaG19
import Derived.Test.YtjndecalogklhaaG21
import Derived.Test.YtjndecalogklhaaG22
import Derived.Test.YtjndecalogklhaaG23
import Derived.Test.YtjndecalogklhaaG24
import Derived.Test.YtjndecalogklhaaG25
import Derived.Test.YtjndecalogklhaaG26
import Derived.Test.YtjndecalogklhaaG32
import Derived.Test.YtjndecalogklhaaG33s0
import Derived.Test.YtjndecalogklhaaG34s0
import Derived.Test.YtjndecalogklhaaG34s1
import Derived.Test.YtjndecalogklhaaG35s0
import Derived.Test.YtjndecalogklhaaG38
import Derived.Test.YtjndecalogklhaaG39
import Derived.Test.YtjndecalogklhaaG40
import Derived.Test.YtjndecalogklhaaG43
import Derived.Test.YtjndecalogklhaaG44
import Derived.Test.YtjndecalogklhaaG46
import Derived.Test.YtjndecalogklhaaG47
import Derived.Test.YtjndecalogklhaaG48
import Derived.Test.YtjndecalogklhaaG49
import Derived.Test.YtjndecalogklhaaG50s0
import Derived.Test.YtjndecalogklhaaG51s0
import Derived.Test.YtjndecalogklhaaG52
import Derived.Test.YtjndecalogklhaaG61
import Derived.Test.YtjndecalogklhaaG62
import Derived.Test.YtjndecalogklhaaKvAlive
namespace Go.Proofs.Ytjndecalogklhaa
open Go.RowKit
set_option linter.unusedVariables false

def K_sett_Cloth (p0 : Int) (p1 : api_Ratio) : Option (Int × Int) :=
  Option.bind (K_sett_upTo p1 p0) fun r5 =>
  if r5 != 0 then
    some (0, r5)
  else
    Option.bind (K_sett_over_int64_ (w64 (p0 * p1.Den)) (w64 (p1.Den + p1.Num)) false) fun r11 =>
    some (r11, 0)
theorem m_F_sett_Cloth (p0 : Int) (p1 : api_Ratio) : Le (K_sett_Cloth p0 p1) (F_sett_Cloth p0 p1) := by
  unfold K_sett_Cloth F_sett_Cloth
  with_reducible repeat' (first | exact m_F_sett_upTo _ _ | exact m_F_sett_over_int64_ _ _ _ | exact Le.rfl _ | refine Le.loop _ ?_ | refine Le.bind ?_ ?_ | refine Le.ite ?_ ?_ | refine Le.sum ?_ ?_ | refine Le.prod ?_ | intro _ | dsimp only)
set_option maxRecDepth 1000000 in
theorem kc_raddlelaw24_SettNames_0 : F_sett_Turns (api_Grid.mk 0 0 ([] : (List Bool))) = some ([], ([], 8)) := m_F_sett_Turns _ _ (by kernel_rfl)
set_option maxRecDepth 1000000 in
theorem kc_raddlelaw24_SettNames_1 : F_raddlelaw24_cloth 2 2 1 = some (api_Grid.mk 2 2 [true, false, false, true]) := m_F_raddlelaw24_cloth _ _ _ _ (by kernel_rfl)
set_option maxRecDepth 1000000 in
theorem kc_raddlelaw24_SettNames_2 : F_sett_Setts ((api_Grid.mk 2 2 [true, false, false, true])) 0 = some ((api_Ratio.mk 0 0), ((api_Ratio.mk 0 0), 2)) := m_F_sett_Setts _ _ _ (by kernel_rfl)
set_option maxRecDepth 1000000 in
theorem kc_raddlelaw24_SettNames_3 : F_sett_Setts ((api_Grid.mk 2 2 [true, false, false, true])) 1001 = some ((api_Ratio.mk 0 0), ((api_Ratio.mk 0 0), 2)) := m_F_sett_Setts _ _ _ (by kernel_rfl)
set_option maxRecDepth 1000000 in
theorem kc_raddlelaw24_SettNames_4 : F_sett_Setts (api_Grid.mk 0 0 ([] : (List Bool))) 0 = some ((api_Ratio.mk 0 0), ((api_Ratio.mk 0 0), 8)) := m_F_sett_Setts _ _ _ (by kernel_rfl)
set_option maxRecDepth 1000000 in
theorem kc_raddlelaw24_SettNames_5 : F_raddlelaw24_part 0 1 = some (api_Ratio.mk 0 1) := m_F_raddlelaw24_part _ _ _ (by kernel_rfl)
set_option maxRecDepth 1000000 in
theorem kc_raddlelaw24_SettNames_6 : F_sett_Ends 1 ((api_Ratio.mk 0 1)) = some (0, 8) := m_F_sett_Ends _ _ _ (by kernel_rfl)
set_option maxRecDepth 1000000 in
theorem kc_raddlelaw24_SettNames_7 : F_raddlelaw24_part 1 1 = some (api_Ratio.mk 1 1) := m_F_raddlelaw24_part _ _ _ (by kernel_rfl)
set_option maxRecDepth 1000000 in
theorem kc_raddlelaw24_SettNames_8 : F_sett_Ends (-1) ((api_Ratio.mk 1 1)) = some (0, 2) := m_F_sett_Ends _ _ _ (by kernel_rfl)
set_option maxRecDepth 1000000 in
theorem kc_raddlelaw24_SettNames_9 : F_sett_Ends 1000000001 ((api_Ratio.mk 1 1)) = some (0, 2) := m_F_sett_Ends _ _ _ (by kernel_rfl)
set_option maxRecDepth 1000000 in
theorem kc_raddlelaw24_SettNames_10 : F_raddlelaw24_part 1000000000 1 = some (api_Ratio.mk 1000000000 1) := m_F_raddlelaw24_part _ _ _ (by kernel_rfl)
set_option maxRecDepth 1000000 in
theorem kc_raddlelaw24_SettNames_11 : F_sett_Ends 1000000000 ((api_Ratio.mk 1000000000 1)) = some (1000000000000000, 0) := m_F_sett_Ends _ _ _ (by kernel_rfl)
set_option maxRecDepth 1000000 in
theorem kc_raddlelaw24_SettNames_12 : F_raddlelaw24_part 1 1000000000 = some (api_Ratio.mk 1 1000000000) := m_F_raddlelaw24_part _ _ _ (by kernel_rfl)
set_option maxRecDepth 1000000 in
theorem kc_raddlelaw24_SettNames_13 : F_sett_Width 1000000000 ((api_Ratio.mk 1 1000000000)) = some (0, 16) := m_F_sett_Width _ _ _ (by kernel_rfl)
set_option maxRecDepth 1000000 in
theorem kc_raddlelaw24_SettNames_14 : F_sett_Width 1000001 ((api_Ratio.mk 1 1)) = some (0, 16) := m_F_sett_Width _ _ _ (by kernel_rfl)
set_option maxRecDepth 1000000 in
theorem kc_raddlelaw24_SettNames_15 : F_sett_Width 1000000 ((api_Ratio.mk 1 1)) = some (1000000000, 0) := m_F_sett_Width _ _ _ (by kernel_rfl)
set_option maxRecDepth 1000000 in
theorem kc_raddlelaw24_SettNames_16 : F_sett_Width 0 ((api_Ratio.mk 1 1000000000)) = some (0, 0) := m_F_sett_Width _ _ _ (by kernel_rfl)
set_option maxRecDepth 1000000 in
theorem kc_raddlelaw24_SettNames_17 : F_raddlelaw24_part 11 1 = some (api_Ratio.mk 11 1) := m_F_raddlelaw24_part _ _ _ (by kernel_rfl)
set_option maxRecDepth 1000000 in
theorem kc_raddlelaw24_SettNames_18 : F_sett_Need 1 ((api_Ratio.mk 11 1)) = some (0, 8) := m_F_sett_Need _ _ _ (by kernel_rfl)
set_option maxRecDepth 1000000 in
theorem kc_raddlelaw24_SettNames_19 : F_raddlelaw24_part 10 1 = some (api_Ratio.mk 10 1) := m_F_raddlelaw24_part _ _ _ (by kernel_rfl)
set_option maxRecDepth 1000000 in
theorem kc_raddlelaw24_SettNames_20 : F_sett_Need 1000000000 ((api_Ratio.mk 10 1)) = some (11000000000, 0) := m_F_sett_Need _ _ _ (by kernel_rfl)
set_option maxRecDepth 1000000 in
theorem kc_raddlelaw24_SettNames_21 : F_sett_Need (-1) ((api_Ratio.mk 11 1)) = some (0, 8) := m_F_sett_Need _ _ _ (by kernel_rfl)
set_option maxRecDepth 1000000 in
theorem kc_raddlelaw24_SettNames_22 : F_sett_Cloth 1000000000 ((api_Ratio.mk 10 1)) = some (90909090, 0) := m_F_sett_Cloth _ _ _ (by kernel_rfl)
set_option maxRecDepth 1000000 in
theorem kc_raddlelaw24_SettNames_23 : F_raddlelaw24_part (-1) 2 = some (api_Ratio.mk (-1) 2) := m_F_raddlelaw24_part _ _ _ (by kernel_rfl)
set_option maxRecDepth 1000000 in
theorem kc_raddlelaw24_SettNames_24 : F_sett_Cloth 1 ((api_Ratio.mk (-1) 2)) = some (0, 8) := m_F_sett_Cloth _ _ _ (by kernel_rfl)
set_option maxRecDepth 1000000 in
theorem kc_raddlelaw24_SettNames_25 : F_raddlelaw24_cloth 1 1 1 = some (api_Grid.mk 1 1 [true]) := m_F_raddlelaw24_cloth _ _ _ _ (by kernel_rfl)
set_option maxRecDepth 1000000 in
theorem kc_raddlelaw24_SettNames_26 : F_sett_Turns ((api_Grid.mk 1 1 [true])) = some ([0], ([0], 0)) := m_F_sett_Turns _ _ (by kernel_rfl)
set_option maxRecDepth 1000000 in
theorem kc_raddlelaw24_SettNames_27 : F_raddlelaw24_alive = some true := m_F_raddlelaw24_alive _ (by kernel_rfl)
set_option maxRecDepth 1000000 in
theorem kc_raddlelaw24_SettNames_28 : F_raddleref24_Same (([0], ([0], 0))).1 ([0] : List Int) = some true := m_F_raddleref24_Same _ _ _ (by kernel_rfl)
set_option maxRecDepth 1000000 in
theorem kc_raddlelaw24_SettNames_29 : F_raddleref24_Same (([0], ([0], 0))).2.1 ([0] : List Int) = some true := m_F_raddleref24_Same _ _ _ (by kernel_rfl)
end Go.Proofs.Ytjndecalogklhaa
