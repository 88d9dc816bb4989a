/- The value of a closed function, by the kernel (printed by tools/kern.py). -/
import Derived.Test.YtjndecalogklhaaKeSettNames
import Derived.Test.YtjndecalogklhaaG6
namespace Go.Proofs.Ytjndecalogklhaa
open Go.RowKit
set_option linter.unusedVariables false

def K_raddlelaw24_SettNames  : Option Bool :=
  Option.bind (K_sett_Turns (api_Grid.mk 0 0 ([] : (List Bool)))) fun r3 =>
  Option.bind (K_raddlelaw24_cloth 2 2 1) fun r12 =>
  Option.bind (K_sett_Setts r12 0) fun r19 =>
  Option.bind (K_sett_Setts r12 1001) fun r31 =>
  Option.bind (K_sett_Setts (api_Grid.mk 0 0 ([] : (List Bool))) 0) fun r38 =>
  Option.bind (K_raddlelaw24_part 0 1) fun r45 =>
  Option.bind (K_sett_Ends 1 r45) fun r48 =>
  Option.bind (K_raddlelaw24_part 1 1) fun r51 =>
  Option.bind (K_sett_Ends (-1) r51) fun r54 =>
  Option.bind (K_sett_Ends 1000000001 r51) fun r58 =>
  Option.bind (K_raddlelaw24_part 1000000000 1) fun r61 =>
  Option.bind (K_sett_Ends 1000000000 r61) fun r64 =>
  Option.bind (K_raddlelaw24_part 1 1000000000) fun r67 =>
  Option.bind (K_sett_Width 1000000000 r67) fun r70 =>
  Option.bind (K_sett_Width 1000001 r51) fun r74 =>
  Option.bind (K_sett_Width 1000000 r51) fun r78 =>
  Option.bind (K_sett_Width 0 r67) fun r82 =>
  Option.bind (K_raddlelaw24_part 11 1) fun r85 =>
  Option.bind (K_sett_Need 1 r85) fun r88 =>
  Option.bind (K_raddlelaw24_part 10 1) fun r91 =>
  Option.bind (K_sett_Need 1000000000 r91) fun r94 =>
  Option.bind (K_sett_Need (-1) r85) fun r98 =>
  Option.bind (K_sett_Cloth 1000000000 r91) fun r102 =>
  Option.bind (K_raddlelaw24_part (-1) 2) fun r105 =>
  Option.bind (K_sett_Cloth 1 r105) fun r108 =>
  Option.bind (K_raddlelaw24_cloth 1 1 1) fun r111 =>
  Option.bind (K_sett_Turns r111) fun r118 =>
  Option.bind (K_raddlelaw24_alive) fun r127 =>
  if r127 then
    if r3.2.2 == 8 then
      if r19.2.2 == 2 then
        if r31.2.2 == 2 then
          if r38.2.2 == 8 then
            if r48.2 == 8 then
              if r54.2 == 2 then
                if r58.2 == 2 then
                  if r64.2 == 0 then
                    if r64.1 == 1000000000000000 then
                      if r70.2 == 16 then
                        if r74.2 == 16 then
                          if r78.2 == 0 then
                            if r78.1 == 1000000000 then
                              if r82.2 == 0 then
                                if r82.1 == 0 then
                                  if r88.2 == 8 then
                                    if r94.2 == 0 then
                                      if r94.1 == 11000000000 then
                                        if r98.2 == 8 then
                                          if r102.2 == 0 then
                                            if r102.1 == 90909090 then
                                              if r108.2 == 8 then
                                                if r118.2.2 == 0 then
                                                  Option.bind (K_raddleref24_Same r118.1 ([0] : List Int)) fun r155 =>
                                                  if r155 then
                                                    Option.bind (K_raddleref24_Same r118.2.1 ([0] : List Int)) fun r160 =>
                                                    some r160
                                                  else
                                                    none
                                                else
                                                  none
                                              else
                                                none
                                            else
                                              none
                                          else
                                            none
                                        else
                                          none
                                      else
                                        none
                                    else
                                      none
                                  else
                                    none
                                else
                                  none
                              else
                                none
                            else
                              none
                          else
                            none
                        else
                          none
                      else
                        none
                    else
                      none
                  else
                    none
                else
                  none
              else
                none
            else
              none
          else
            none
        else
          none
      else
        none
    else
      none
  else
    none
theorem m_F_raddlelaw24_SettNames  : Le (K_raddlelaw24_SettNames ) (F_raddlelaw24_SettNames ) := by
  unfold K_raddlelaw24_SettNames F_raddlelaw24_SettNames
  with_reducible repeat' (first | exact m_F_sett_Turns _ | exact m_F_raddlelaw24_cloth _ _ _ | exact m_F_sett_Setts _ _ | exact m_F_raddlelaw24_part _ _ | exact m_F_sett_Ends _ _ | exact m_F_sett_Width _ _ | exact m_F_sett_Need _ _ | exact m_F_sett_Cloth _ _ | exact m_F_raddlelaw24_alive | exact m_F_raddleref24_Same _ _ | exact Le.rfl _ | refine Le.loop _ ?_ | refine Le.bind ?_ ?_ | refine Le.ite ?_ ?_ | refine Le.sum ?_ ?_ | refine Le.prod ?_ | intro _ | dsimp only)
set_option maxRecDepth 1000000 in
theorem k_raddlelaw24_SettNames : F_raddlelaw24_SettNames = some true := m_F_raddlelaw24_SettNames _ (by kernel_rfl)
theorem law_SettNames : F_raddlelaw24_SettNames = some true := k_raddlelaw24_SettNames
end Go.Proofs.Ytjndecalogklhaa
