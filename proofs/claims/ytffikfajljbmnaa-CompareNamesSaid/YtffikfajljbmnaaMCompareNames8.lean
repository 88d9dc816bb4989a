/- CompareNames: walks, tables, laws. -/
import Derived.Test.YtffikfajljbmnaaProg
import Derived.Test.YtffikfajljbmnaaRows
import Derived.Test.YtffikfajljbmnaaMCompareNames7
set_option linter.unusedVariables false
set_option linter.unusedSimpArgs false
set_option maxHeartbeats 4000000
set_option maxRecDepth 100000
namespace Go.Proofs.Ytffikfajljbmnaa
open Go.RowKit
def K_raddlelaw46_CompareNames :Option Bool:=
 Option.bind (K_raddlelaw46_cloth (⟨#[120,46,46,46,10,46,46,46,46,10,46,46,46,46,10,46,46,46,46,10]⟩:ByteArray)) fun r3=>
 Option.bind (makeO 17 false) fun m12=>
 Option.bind (K_raddlelaw46_cloth (⟨#[120,120,10,46,46,10]⟩:ByteArray)) fun r26=>
 Option.bind (K_raddlelaw46_cloth (⟨#[120,46,10,120,46,10]⟩:ByteArray)) fun r33=>
 Option.bind (K_compare_Nearest r26 r33 1) fun r43=>
 Option.bind (K_compare_Nearest r26 r33 2) fun r48=>
 Option.bind (K_raddlelaw46_cloth (⟨#[120,46,120,120,10,120,120,120,120,10,120,120,120,120,10,120,120,120,120,10]⟩:ByteArray)) fun r53=>
 Option.bind (K_compare_Nearest r3 r53 3) fun r60=>
 Option.bind (K_compare_Nearest (api_Grid.mk 17 1 m12) (api_Grid.mk 17 1 m12) 0) fun r72=>
 Option.bind (K_compare_Nearest r26 r33 4) fun r77=>
 Option.bind (K_raddlelaw46_cloth (⟨#[120,46,10]⟩:ByteArray)) fun r82=>
 Option.bind (K_compare_Nearest r82 r82 2) fun r94=>
 Option.bind (K_compare_Nearest r26 r82 0) fun r104=>
 Option.bind (K_compare_Cells r26 r82) fun r121=>
 Option.bind (K_compare_Cells (api_Grid.mk 65 0 ([]:(List Bool))) (api_Grid.mk 0 0 ([]:(List Bool)))) fun r129=>
 if r43.2.2.2 == 0 then
  if r43.1 == 2 then
   if r43.2.1 == 0 then
    if ((r43.2.2.1.X == 0) && ((r43.2.2.1.Y == 0) && true)) then
     if r48.2.2.2 == 0 then
      if r48.1 == 0 then
       if r48.2.1 == 4 then
        if ((r48.2.2.1.X == 1) && ((r48.2.2.1.Y == 0) && true)) then
         if r60.2.2.2 == 0 then
          if r60.1 == 0 then
           if r60.2.1 == 8 then
            if ((r60.2.2.1.X == 1) && ((r60.2.2.1.Y == 0) && true)) then
             if r72.2.2.2 == 4 then
              if r77.2.2.2 == 2 then
               if r94.2.2.2 == 2 then
                if r104.2.2.2 == 2 then
                 if r121.2 == 2 then
                  Option.bind (K_raddlelaw46_cells (⟨#[107,32,112]⟩:ByteArray)) fun r161=>
                  Option.bind (K_raddlelaw46_cells (⟨#[112,32,121,111]⟩:ByteArray)) fun r166=>
                  Option.bind (K_compare_Edits r161 r166) fun r171=>
                  Option.bind (K_compare_Edits ([]:(List api_Stitch)) ([]:(List api_Stitch))) fun r177=>
                  Option.bind (K_raddlelaw46_cells (⟨#[107,50]⟩:ByteArray)) fun r183=>
                  Option.bind (K_raddlelaw46_cells (⟨#[121,111,32,121,111,32,121,111]⟩:ByteArray)) fun r188=>
                  Option.bind (K_compare_Edits r183 r188) fun r193=>
                  Option.bind (makeO 401 (api_CellStep.mk 0 (api_Stitch.mk 0 false 0 0))) fun m204=>
                  Option.bind (K_compare_Patch [(api_Stitch.mk 1 false 0 0)] m204) fun r206=>
                  Option.bind (K_compare_Patch [(api_Stitch.mk 1 false 0 0)] [(api_CellStep.mk 0 (api_Stitch.mk 0 false 0 0))]) fun r214=>
                  Option.bind (K_compare_Patch [(api_Stitch.mk 1 false 0 0)] [(api_CellStep.mk 1 (api_Stitch.mk 2 false 0 0))]) fun r222=>
                  Option.bind (K_compare_Patch [(api_Stitch.mk 1 false 0 0)] [(api_CellStep.mk 3 (api_Stitch.mk 0 false 0 0))]) fun r230=>
                  Option.bind (K_compare_Patch [(api_Stitch.mk 1 false 0 0)] [(api_CellStep.mk 1 (api_Stitch.mk 0 false 0 0)),(api_CellStep.mk 4 (api_Stitch.mk 0 false 0 0))]) fun r238=>
                  Option.bind (K_compare_Patch [(api_Stitch.mk 1 false 0 0)] ([]:(List api_CellStep))) fun r244=>
                  Option.bind (K_compare_Patch [(api_Stitch.mk 1 false 0 0)] [(api_CellStep.mk 2 (api_Stitch.mk 1 false 0 0))]) fun r252=>
                  Option.bind (K_compare_Patch [(api_Stitch.mk 0 false 0 0)] ([]:(List api_CellStep))) fun r260=>
                  Option.bind (K_compare_Back r183 [(api_CellStep.mk 3 (api_Stitch.mk 2 false 0 0)),(api_CellStep.mk 4 (api_Stitch.mk 0 false 0 0)),(api_CellStep.mk 2 (api_Stitch.mk 2 false 0 0))]) fun r271=>
                  Option.bind (K_compare_Patch ([]:(List api_Stitch)) [(api_CellStep.mk 3 (api_Stitch.mk 9 false 200 0)),(api_CellStep.mk 3 (api_Stitch.mk 2 false 0 0))]) fun r287=>
                  Option.bind (K_compare_Edits [(api_Stitch.mk 0 false 0 0)] ([]:(List api_Stitch))) fun r295=>
                  Option.bind (makeO 201 (api_Stitch.mk 0 false 0 0)) fun m303=>
                  Option.bind (K_compare_Edits ([]:(List api_Stitch)) m303) fun r305=>
                  if r171.2.2 == 0 then
                   if r171.2.1 == 2 then
                    Option.bind (K_raddleref46_Same r171.1 [(api_CellStep.mk 2 (api_Stitch.mk 1 true 0 0)),(api_CellStep.mk 2 (api_Stitch.mk 2 false 0 0))]) fun r315=>
                    if r315 then
                     if r177.2.2 == 0 then
                      if (r177.1.length:Int) == 0 then
                       if r177.2.1 == 0 then
                        if r193.2.2 == 0 then
                         if r193.2.1 == 3 then
                          Option.bind (K_raddleref46_Same r193.1 [(api_CellStep.mk 2 (api_Stitch.mk 2 false 0 0)),(api_CellStep.mk 2 (api_Stitch.mk 2 false 0 0)),(api_CellStep.mk 3 (api_Stitch.mk 2 false 0 0))]) fun r325=>
                          if r325 then
                           if r271.2 == 0 then
                            Option.bind (K_raddleref46_Same r271.1 [(api_CellStep.mk 4 (api_Stitch.mk 0 false 0 0)),(api_CellStep.mk 3 (api_Stitch.mk 1 false 0 0)),(api_CellStep.mk 2 (api_Stitch.mk 1 false 0 0))]) fun r331=>
                            if r206.2 == 4 then
                             if r214.2 == 8 then
                              if r222.2 == 8 then
                               if r230.2 == 8 then
                                if r238.2 == 30 then
                                 if r244.2 == 30 then
                                  if r252.2 == 30 then
                                   if r260.2 == 8 then
                                    if r287.2 == 4 then
                                     if r295.2.2 == 8 then
                                      Option.bind (K_compare_Charts (api_Chart.mk 1 ([]:(List api_Row))) (api_Chart.mk 2 ([]:(List api_Row)))) fun r345=>
                                      Option.bind (K_raddlelaw46_knit (⟨#[115,116,97,114,116,32,50,10,102,114,111,110,116,32,107,50,10,98,97,99,107,32,112,50,10]⟩:ByteArray)) fun r348=>
                                      Option.bind (K_raddlelaw46_knit (⟨#[115,116,97,114,116,32,50,10,98,97,99,107,32,112,50,10]⟩:ByteArray)) fun r355=>
                                      Option.bind (K_compare_Charts r348 r355) fun r362=>
                                      Option.bind (K_compare_Charts (api_Chart.mk 1 [(api_Row.mk false ([]:(List api_Stitch)))]) (api_Chart.mk (-1) ([]:(List api_Row)))) fun r367=>
                                      Option.bind (K_compare_Charts (api_Chart.mk 0 ([]:(List api_Row))) (api_Chart.mk (-1) ([]:(List api_Row)))) fun r370=>
                                      Option.bind (α:=Bool) (
                                       if r129.2 == 4 then
                                        if r331 then
                                         if r305.2.2 == 4 then
                                          if r345.2 == 0 then
                                           if r345.1 == 1 then
                                            if r362.2 == 0 then
                                             if r362.1 == 3 then
                                              if r367.2 == 26 then
                                               if r370.2 == 8 then
                                                Option.bind (K_raddlelaw46_alive) fun r384=>
                                                some r384
                                               else
                                                none
                                              else
                                               none
                                             else
                                              none
                                            else
                                             none
                                           else
                                            none
                                          else
                                           none
                                         else
                                          some false
                                        else
                                         none
                                       else
                                        some false) fun o372=>
                                      some o372
                                     else
                                      none
                                    else
                                     none
                                   else
                                    none
                                  else
                                   none
                                 else
                                  none
                                else
                                 none
                               else
                                none
                              else
                               none
                             else
                              none
                            else
                             none
                           else
                            none
                          else
                           none
                         else
                          none
                        else
                         none
                       else
                        none
                      else
                       none
                     else
                      none
                    else
                     none
                   else
                    none
                  else
                   none
                 else
                  none
                else
                 none
               else
                none
              else
               none
             else
              none
            else
             none
           else
            none
          else
           none
         else
          none
        else
         none
       else
        none
      else
       none
     else
      none
    else
     none
   else
    none
  else
   none
 else
  none
theorem m_F_raddlelaw46_CompareNames :Le (K_raddlelaw46_CompareNames) (F_raddlelaw46_CompareNames):=by
 unfold K_raddlelaw46_CompareNames F_raddlelaw46_CompareNames
 with_reducible repeat' (first | exact m_F_raddlelaw46_cloth _ | exact m_F_compare_Nearest _ _ _ | exact m_F_compare_Cells _ _ | exact m_F_raddlelaw46_cells _ | exact m_F_compare_Edits _ _ | exact m_F_compare_Patch _ _ | exact m_F_compare_Back _ _ | exact m_F_raddleref46_Same _ _ | exact m_F_compare_Charts _ _ | exact m_F_raddlelaw46_knit _ | exact m_F_raddlelaw46_alive | exact Le.rfl _ | refine Le.loop _ ?_ | refine Le.bind ?_ ?_ | refine Le.ite ?_ ?_ | refine Le.sum ?_ ?_ | refine Le.prod ?_ | intro _ | exact Empty.elim (by assumption) | dsimp only)
set_option maxRecDepth 1000000 in
theorem k_raddlelaw46_CompareNames:F_raddlelaw46_CompareNames=some true:=m_F_raddlelaw46_CompareNames _ (by kernel_rfl)
theorem law_CompareNames:F_raddlelaw46_CompareNames=some true:=k_raddlelaw46_CompareNames
namespace frameCompareNames
open Go.ChangeShapes Go.WideShapes Go.ChangeAt Go.Joins
theorem own:ownKnob Try.prog.godebug=none:=by kernel_rfl
theorem laidOut:laidOutB Try.prog=true:=by kernel_rfl
theorem lifted (os:Os) (started:os.Started) (H:Type) (enc:TypeId × Value→H) :
 ReturnsInHanded {} Try.checked os 10 .any (Rows.compareNamesSpec.pre6 enc Try.prog Try.f10 Rows.compareNamesRow.domain false) (Rows.compareNamesSpec.post enc Try.prog Try.f10 false true false false):=by
 refine returnsInHanded_of_change (C:=Try.checked) own started (by kernel_rfl) Try.func10
  (ChangeSpec.witness6 (enc:=enc) (C:=Try.checked) false ⟨#[],#[],[]⟩ 8 (by kernel_rfl) (by kernel_rfl) (by kernel_rfl) (by kernel_rfl)) ?_
 intro W base args ds gs before hval0 hW hcnd _
 have hval:∀ (j:Nat) t v,Try.f10.params[j]?=some t→args[j]?=some v→Value.okWide Try.prog W .any base t v:=hval0
 have hW':=hW
 obtain ⟨p,q,hA0,hV,rfl,hfz,hnd⟩:=hW
 have hA:DataW.TrodAll enc Try.prog W 0 (fun _=>true) true Try.f10.params.toList args.toList ds p:=hA0
 rw [Try.params10] at hA hval
 obtain ⟨rfl,rfl,rfl⟩:=trodAll_none hA
 obtain ⟨rfl,rfl⟩:=trodVars_none hV
 clear hA0 hval0
 refine (c_raddlelaw46_CompareNames (fun _=>False) W  true (law_CompareNames  ) (St0.start (by intro d hd; cases hd))).mono fun e W' hr=>?_
 obtain ⟨_,he,hS⟩:=hr
 have bel:=hS.chg.below
 subst he
 exact ⟨_,rfl,_,_,_,[],_,[],hW',trodAll_mk1 (shut_bool Try.underlying4 _),trodAll_mk0,rfl,bel.frame _,fun h=>by cases h⟩
theorem over:Rows.compareNamesRow.holds Try.pinned (OpenSpec.ofChange Rows.compareNamesSpec):=
 OpenClaim.holds_of_wide 10 Try.f10 rfl rfl rfl rfl rfl rfl rfl ⟨rfl,rfl,rfl,rfl,rfl⟩ rfl rfl rfl rfl rfl (by kernel_rfl) Try.func10 (by kernel_rfl)
  (of_decide_eq_true (by kernel_rfl)) (by unfold Func.isWrapper; first | (rw [if_pos (by decide +kernel)]; kernel_rfl) | (rw [if_neg (by decide +kernel)]; exact ⟨rfl,rfl⟩))
  (fun os started H enc _=>lifted os started H enc)
end frameCompareNames
theorem compareNames_holds:Rows.CompareNamesSaid:=frameCompareNames.over
end Go.Proofs.Ytffikfajljbmnaa
