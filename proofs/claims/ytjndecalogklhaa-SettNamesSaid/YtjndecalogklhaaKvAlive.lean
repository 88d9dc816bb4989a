/- The value of a closed function, by the kernel (printed by tools/kern.py). -/
import Derived.Test.YtjndecalogklhaaKeAlive
import Derived.Test.YtjndecalogklhaaG17
namespace Go.Proofs.Ytjndecalogklhaa
open Go.RowKit
set_option linter.unusedVariables false

def K_raddlelaw24_alive  : Option Bool :=
  Option.bind (K_raddlelaw24_cloth 2 2 1) fun r3 =>
  Option.bind (K_sett_Turns r3) fun r10 =>
  Option.bind (K_sett_Setts r3 200) fun r24 =>
  Option.bind (K_raddlelaw24_cloth 4 4 2) fun r31 =>
  Option.bind (K_sett_Setts r31 200) fun r38 =>
  Option.bind (K_raddlelaw24_cloth 3 2 3) fun r45 =>
  Option.bind (K_sett_Setts r45 200) fun r52 =>
  Option.bind (K_raddlelaw24_part 100 1) fun r59 =>
  Option.bind (K_sett_Ends 1005 r59) fun r62 =>
  Option.bind (K_sett_Width 100 r59) fun r66 =>
  Option.bind (K_raddlelaw24_part 1 10) fun r69 =>
  Option.bind (K_sett_Need 1000 r69) fun r72 =>
  if r10.2.2 == 0 then
    if r24.2.2 == 0 then
      if r38.2.2 == 0 then
        if r52.2.2 == 0 then
          if r62.2 == 0 then
            if r66.2 == 0 then
              Option.bind (α := Bool) (
                if r72.2 == 0 then
                  Option.bind (K_raddleref24_Same r10.1 ([2, 2] : List Int)) fun r87 =>
                  if r87 then
                    Option.bind (K_raddleref24_Same r10.2.1 ([2, 2] : List Int)) fun r92 =>
                    if r92 then
                      if ((r24.1.Num == r59.Num) && ((r24.1.Den == r59.Den) && true)) then
                        if ((r24.2.1.Num == r59.Num) && ((r24.2.1.Den == r59.Den) && true)) then
                          Option.bind (K_raddlelaw24_part 400 3) fun r99 =>
                          if ((r38.1.Num == r99.Num) && ((r38.1.Den == r99.Den) && true)) then
                            if ((r38.2.1.Num == r99.Num) && ((r38.2.1.Den == r99.Den) && true)) then
                              Option.bind (K_raddlelaw24_part 200 1) fun r105 =>
                              if ((r52.1.Num == r105.Num) && ((r52.1.Den == r105.Den) && true)) then
                                if ((r52.2.1.Num == r105.Num) && ((r52.2.1.Den == r105.Den) && true)) then
                                  if r62.1 == 100 then
                                    if r66.1 == 1000 then
                                      some (r72.1 == 1100)
                                    else
                                      none
                                  else
                                    none
                                else
                                  none
                              else
                                none
                            else
                              none
                          else
                            none
                        else
                          none
                      else
                        none
                    else
                      none
                  else
                    none
                else
                  some false) fun o81 =>
              some o81
            else
              none
          else
            none
        else
          none
      else
        none
    else
      none
  else
    none
theorem m_F_raddlelaw24_alive  : Le (K_raddlelaw24_alive ) (F_raddlelaw24_alive ) := by
  unfold K_raddlelaw24_alive F_raddlelaw24_alive
  with_reducible repeat' (first | exact m_F_raddlelaw24_cloth _ _ _ | exact m_F_sett_Turns _ | exact m_F_sett_Setts _ _ | exact m_F_raddlelaw24_part _ _ | exact m_F_sett_Ends _ _ | exact m_F_sett_Width _ _ | exact m_F_sett_Need _ _ | exact m_F_raddleref24_Same _ _ | exact Le.rfl _ | refine Le.loop _ ?_ | refine Le.bind ?_ ?_ | refine Le.ite ?_ ?_ | refine Le.sum ?_ ?_ | refine Le.prod ?_ | intro _ | dsimp only)
set_option maxRecDepth 1000000 in
theorem k_raddlelaw24_alive : F_raddlelaw24_alive = some true := m_F_raddlelaw24_alive _ (by kernel_rfl)
end Go.Proofs.Ytjndecalogklhaa
