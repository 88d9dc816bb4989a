/- ReduceNames: walks, tables, laws. -/
import Derived.Test.YtapohhkdpkapoaaProg
import Derived.Test.YtapohhkdpkapoaaRows
import Derived.Test.YtapohhkdpkapoaaMReduceNames4
set_option linter.unusedVariables false
set_option linter.unusedSimpArgs false
set_option maxHeartbeats 4000000
set_option maxRecDepth 100000
namespace Go.Proofs.Ytapohhkdpkapoaa
open Go.RowKit
def anc_raddlelaw17_ReduceNames_0:List (List Nat):=[[],[0],[0,1],[0,1,2],[0,1,2,3],[0,1,2,3,4],[0,1,2,3,4,5],[0,1,2,3,4,5,6],[0,1,2,3,4,5,6,7],[0,1,2,3,4,5,6,7,8],[0,1,2,3,4,5,6,7,8,9],[0,1,2,3,4,5,6,7,8,9,10],[0,1,2,3,4,5,6,7,8,9,10,11],[0,1,2,3,4,5,6,7,8,9,10,11,12],[0,1,2,3,4,5,6,7,8,9,10,11,12,13],[0,1,2,3,4,5,6,7,8,9,10,11,12,13,14],[0,1,2,3,4,5,6,7,8,9,10,11,12,13,14,15],[0,1,2,3,4,5,6,7,8,9,10,11,12,13,14,15,16],[0,1,2,3,4,5,6,7,8,9,10,11,12,13,14,15,16,17],[0,1,2,3,4,5,6,7,8,9,10,11,12,13,14,15,16,17,18],[0,1,2,3,4,5,6,7,8,9,10,11,12,13,14,15,16,17,18,19],[0,1,2,3,4,5,6,7,8,9,10,11,12,13,14,15,16,17,18,19,20],[0,1,2,3,4,5,6,7,8,9,10,11,12,13,14,15,16,17,18,19,20,21],[0,1,2,3,4,5,6,7,8,9,10,11,12,13,14,15,16,17,18,19,20,21,22],[0,1,2,3,4,5,6,7,8,9,10,11,12,13,14,15,16,17,18,19,20,21,22,23],[0,1,2,3,4,5,6,7,8,9,10,11,12,13,14,15,16,17,18,19,20,21,22,23,24],[0,1,2,3,4,5,6,7,8,9,10,11,12,13,14,15,16,17,18,19,20,21,22,23,24,25],[0,1,2,3,4,5,6,7,8,9,10,11,12,13,14,15,16,17,18,19,20,21,22,23,24,25,26],[0,1,2,3,4,5,6,7,8,9,10,11,12,13,14,15,16,17,18,19,20,21,22,23,24,25,26,27],[0,1,2,3,4,5,6,7,8,9,10,11,12,13,14,15,16,17,18,19,20,21,22,23,24,25,26,27],[0,1,2,3,4,5,6,7,8,9,10,11,12,13,14,15,16,17,18,19,20,21,22,23,24,25,26,27,28,29],[0,1,2,3,4,5,6,7,8,9,10,11,12,13,14,15,16,17,18,19,20,21,22,23,24,25,26,27,28,29,30],[0,1,2,3,4,5,6,7,8,9,10,11,12,13,14,15,16,17,18,19,20,21,22,23,24,25,26,27,28,29,30,31],[0,1,2,3,4,5,6,7,8,9,10,11,12,13,14,15,16,17,18,19,20,21,22,23,24,25,26,27,28,29,30,31,32],[0,1,2,3,4,5,6,7,8,9,10,11,12,13,14,15,16,17,18,19,20,21,22,23,24,25,26,27,28,29,30,31,32,33],[0,1,2,3,4,5,6,7,8,9,10,11,12,13,14,15,16,17,18,19,20,21,22,23,24,25,26,27,28,29,30,31,32,33,34],[0,1,2,3,4,5,6,7,8,9,10,11,12,13,14,15,16,17,18,19,20,21,22,23,24,25,26,27,28,29,30,31,32,33,34,35],[0,1,2,3,4,5,6,7,8,9,10,11,12,13,14,15,16,17,18,19,20,21,22,23,24,25,26,27,28,29,30,31,32,33,34,35,36],[0,1,2,3,4,5,6,7,8,9,10,11,12,13,14,15,16,17,18,19,20,21,22,23,24,25,26,27,28,29,30,31,32,33,34,35,36,37],[0,1,2,3,4,5,6,7,8,9,10,11,12,13,14,15,16,17,18,19,20,21,22,23,24,25,26,27,28,29,30,31,32,33,34,35,36,37,38],[0,1,2,3,4,5,6,7,8,9,10,11,12,13,14,15,16,17,18,19,20,21,22,23,24,25,26,27,28,29,30,31,32,33,34,35,36,37,38,39],[0,1,2,3,4,5,6,7,8,9,10,11,12,13,14,15,16,17,18,19,20,21,22,23,24,25,26,27,28,29,30,31,32,33,34,35,36,37,38,39,40],[0,1,2,3,4,5,6,7,8,9,10,11,12,13,14,15,16,17,18,19,20,21,22,23,24,25,26,27,28,29,30,31,32,33,34,35,36,37,38,39,40],[0,1,2,3,4,5,6,7,8,9,10,11,12,13,14,15,16,17,18,19,20,21,22,23,24,25,26,27,28,29,30,31,32,33,34,35,36,37,38,39,40,41,42],[0,1,2,3,4,5,6,7,8,9,10,11,12,13,14,15,16,17,18,19,20,21,22,23,24,25,26,27,28,29,30,31,32,33,34,35,36,37,38,39,40,41,42,43],[0,1,2,3,4,5,6,7,8,9,10,11,12,13,14,15,16,17,18,19,20,21,22,23,24,25,26,27,28,29,30,31,32,33,34,35,36,37,38,39,40,41,42,43,44],[0,1,2,3,4,5,6,7,8,9,10,11,12,13,14,15,16,17,18,19,20,21,22,23,24,25,26,27,28,29,30,31,32,33,34,35,36,37,38,39,40,41,42,43,44,45],[0,1,2,3,4,5,6,7,8,9,10,11,12,13,14,15,16,17,18,19,20,21,22,23,24,25,26,27,28,29,30,31,32,33,34,35,36,37,38,39,40,41,42,43,44,45,46],[0,1,2,3,4,5,6,7,8,9,10,11,12,13,14,15,16,17,18,19,20,21,22,23,24,25,26,27,28,29,30,31,32,33,34,35,36,37,38,39,40,41,42,43,44,45,46,47],[0,1,2,3,4,5,6,7,8,9,10,11,12,13,14,15,16,17,18,19,20,21,22,23,24,25,26,27,28,29,30,31,32,33,34,35,36,37,38,39,40,41,42,43,44,45,46,47,48],[0,1,2,3,4,5,6,7,8,9,10,11,12,13,14,15,16,17,18,19,20,21,22,23,24,25,26,27,28,29,30,31,32,33,34,35,36,37,38,39,40,41,42,43,44,45,46,47,48,49],[0,1,2,3,4,5,6,7,8,9,10,11,12,13,14,15,16,17,18,19,20,21,22,23,24,25,26,27,28,29,30,31,32,33,34,35,36,37,38,39,40,41,42,43,44,45,46,47,48,49,50],[0,1,2,3,4,5,6,7,8,9,10,11,12,13,14,15,16,17,18,19,20,21,22,23,24,25,26,27,28,29,30,31,32,33,34,35,36,37,38,39,40,41,42,43,44,45,46,47,48,49,50,51],[0,1,2,3,4,5,6,7,8,9,10,11,12,13,14,15,16,17,18,19,20,21,22,23,24,25,26,27,28,29,30,31,32,33,34,35,36,37,38,39,40,41,42,43,44,45,46,47,48,49,50,51,52],[0,1,2,3,4,5,6,7,8,9,10,11,12,13,14,15,16,17,18,19,20,21,22,23,24,25,26,27,28,29,30,31,32,33,34,35,36,37,38,39,40,41,42,43,44,45,46,47,48,49,50,51,52,53],[0,1,2,3,4,5,6,7,8,9,10,11,12,13,14,15,16,17,18,19,20,21,22,23,24,25,26,27,28,29,30,31,32,33,34,35,36,37,38,39,40,41,42,43,44,45,46,47,48,49,50,51,52,53,54],[0,1,2,3,4,5,6,7,8,9,10,11,12,13,14,15,16,17,18,19,20,21,22,23,24,25,26,27,28,29,30,31,32,33,34,35,36,37,38,39,40,41,42,43,44,45,46,47,48,49,50,51,52,53,54,55],[0,1,2,3,4,5,6,7,8,9,10,11,12,13,14,15,16,17,18,19,20,21,22,23,24,25,26,27,28,29,30,31,32,33,34,35,36,37,38,39,40,41,42,43,44,45,46,47,48,49,50,51,52,53,54,55,56],[0,1,2,3,4,5,6,7,8,9,10,11,12,13,14,15,16,17,18,19,20,21,22,23,24,25,26,27,28,29,30,31,32,33,34,35,36,37,38,39,40,41,42,43,44,45,46,47,48,49,50,51,52,53,54,55,56,57],[0,1,2,3,4,5,6,7,8,9,10,11,12,13,14,15,16,17,18,19,20,21,22,23,24,25,26,27,28,29,30,31,32,33,34,35,36,37,38,39,40,41,42,43,44,45,46,47,48,49,50,51,52,53,54,55,56,57,58],[0,1,2,3,4,5,6,7,8,9,10,11,12,13,14,15,16,17,18,19,20,21,22,23,24,25,26,27,28,29,30,31,32,33,34,35,36,37,38,39,40,41,42,43,44,45,46,47,48,49,50,51,52,53,54,55,56,57,58,59],[0,1,2,3,4,5,6,7,8,9,10,11,12,13,14,15,16,17,18,19,20,21,22,23,24,25,26,27,28,29,30,31,32,33,34,35,36,37,38,39,40,41,42,43,44,45,46,47,48,49,50,51,52,53,54,55,56,57,58,59,60],[0,1,2,3,4,5,6,7,8,9,10,11,12,13,14,15,16,17,18,19,20,21,22,23,24,25,26,27,28,29,30,31,32,33,34,35,36,37,38,39,40,41,42,43,44,45,46,47,48,49,50,51,52,53,54,55,56,57,58,59,60,61],[0,1,2,3,4,5,6,7,8,9,10,11,12,13,14,15,16,17,18,19,20,21,22,23,24,25,26,27,28,29,30,31,32,33,34,35,36,37,38,39,40,41,42,43,44,45,46,47,48,49,50,51,52,53,54,55,56,57,58,59,60,61,62],[0,1,2,3,4,5,6,7,8,9,10,11,12,13,14,15,16,17,18,19,20,21,22,23,24,25,26,27,28,29,30,31,32,33,34,35,36,37,38,39,40,41,42,43,44,45,46,47,48,49,50,51,52,53,54,55,56,57,58,59,60,61,62,63],[0,1,2,3,4,5,6,7,8,9,10,11,12,13,14,15,16,17,18,19,20,21,22,23,24,25,26,27,28,29,30,31,32,33,34,35,36,37,38,39,40,41,42,43,44,45,46,47,48,49,50,51,52,53,54,55,56,57,58,59,60,61,62,63,64],[0,1,2,3,4,5,6,7,8,9,10,11,12,13,14,15,16,17,18,19,20,21,22,23,24,25,26,27,28,29,30,31,32,33,34,35,36,37,38,39,40,41,42,43,44,45,46,47,48,49,50,51,52,53,54,55,56,57,58,59,60,61,62,63,64,65],[0,1,2,3,4,5,6,7,8,9,10,11,12,13,14,15,16,17,18,19,20,21,22,23,24,25,26,27,28,29,30,31,32,33,34,35,36,37,38,39,40,41,42,43,44,45,46,47,48,49,50,51,52,53,54,55,56,57,58,59,60,61,62,63,64,65,66],[0,1,2,3,4,5,6,7,8,9,10,11,12,13,14,15,16,17,18,19,20,21,22,23,24,25,26,27,28,29,30,31,32,33,34,35,36,37,38,39,40,41,42,43,44,45,46,47,48,49,50,51,52,53,54,55,56,57,58,59,60,61,62,63,64,65,66,67],[0,1,2,3,4,5,6,7,8,9,10,11,12,13,14,15,16,17,18,19,20,21,22,23,24,25,26,27,28,29,30,31,32,33,34,35,36,37,38,39,40,41,42,43,44,45,46,47,48,49,50,51,52,53,54,55,56,57,58,59,60,61,62,63,64,65,66,67,68],[0,1,2,3,4,5,6,7,8,9,10,11,12,13,14,15,16,17,18,19,20,21,22,23,24,25,26,27,28,29,30,31,32,33,34,35,36,37,38,39,40,41,42,43,44,45,46,47,48,49,50,51,52,53,54,55,56,57,58,59,60,61,62,63,64,65,66,67,68,69],[0,1,2,3,4,5,6,7,8,9,10,11,12,13,14,15,16,17,18,19,20,21,22,23,24,25,26,27,28,29,30,31,32,33,34,35,36,37,38,39,40,41,42,43,44,45,46,47,48,49,50,51,52,53,54,55,56,57,58,59,60,61,62,63,64,65,66,67,68,69,70],[0,1,2,3,4,5,6,7,8,9,10,11,12,13,14,15,16,17,18,19,20,21,22,23,24,25,26,27,28,29,30,31,32,33,34,35,36,37,38,39,40,41,42,43,44,45,46,47,48,49,50,51,52,53,54,55,56,57,58,59,60,61,62,63,64,65,66,67,68,69,70,71],[0,1,2,3,4,5,6,7,8,9,10,11,12,13,14,15,16,17,18,19,20,21,22,23,24,25,26,27,28,29,30,31,32,33,34,35,36,37,38,39,40,41,42,43,44,45,46,47,48,49,50,51,52,53,54,55,56,57,58,59,60,61,62,63,64,65,66,67,68,69,70,71,72],[0,1,2,3,4,5,6,7,8,9,10,11,12,13,14,15,16,17,18,19,20,21,22,23,24,25,26,27,28,29,30,31,32,33,34,35,36,37,38,39,40,41,42,43,44,45,46,47,48,49,50,51,52,53,54,55,56,57,58,59,60,61,62,63,64,65,66,67,68,69,70,71,72,73],[0,1,2,3,4,5,6,7,8,9,10,11,12,13,14,15,16,17,18,19,20,21,22,23,24,25,26,27,28,29,30,31,32,33,34,35,36,37,38,39,40,41,42,43,44,45,46,47,48,49,50,51,52,53,54,55,56,57,58,59,60,61,62,63,64,65,66,67,68,69,70,71,72,73,74],[0,1,2,3,4,5,6,7,8,9,10,11,12,13,14,15,16,17,18,19,20,21,22,23,24,25,26,27,28,29,30,31,32,33,34,35,36,37,38,39,40,41,42,43,44,45,46,47,48,49,50,51,52,53,54,55,56,57,58,59,60,61,62,63,64,65,66,67,68,69,70,71,72,73,74,75],[0,1,2,3,4,5,6,7,8,9,10,11,12,13,14,15,16,17,18,19,20,21,22,23,24,25,26,27,28,29,30,31,32,33,34,35,36,37,38,39,40,41,42,43,44,45,46,47,48,49,50,51,52,53,54,55,56,57,58,59,60,61,62,63,64,65,66,67,68,69,70,71,72,73,74,75,76],[0,1,2,3,4,5,6,7,8,9,10,11,12,13,14,15,16,17,18,19,20,21,22,23,24,25,26,27,28,29,30,31,32,33,34,35,36,37,38,39,40,41,42,43,44,45,46,47,48,49,50,51,52,53,54,55,56,57,58,59,60,61,62,63,64,65,66,67,68,69,70,71,72,73,74,75,76,77],[0,1,2,3,4,5,6,7,8,9,10,11,12,13,14,15,16,17,18,19,20,21,22,23,24,25,26,27,28,29,30,31,32,33,34,35,36,37,38,39,40,41,42,43,44,45,46,47,48,49,50,51,52,53,54,55,56,57,58,59,60,61,62,63,64,65,66,67,68,69,70,71,72,73,74,75,76,77],[0,1,2,3,4,5,6,7,8,9,10,11,12,13,14,15,16,17,18,19,20,21,22,23,24,25,26,27,28,29,30,31,32,33,34,35,36,37,38,39,40,41,42,43,44,45,46,47,48,49,50,51,52,53,54,55,56,57,58,59,60,61,62,63,64,65,66,67,68,69,70,71,72,73,74,75,76,77,78,79],[0,1,2,3,4,5,6,7,8,9,10,11,12,13,14,15,16,17,18,19,20,21,22,23,24,25,26,27,28,29,30,31,32,33,34,35,36,37,38,39,40,41,42,43,44,45,46,47,48,49,50,51,52,53,54,55,56,57,58,59,60,61,62,63,64,65,66,67,68,69,70,71,72,73,74,75,76,77,78,79,80],[0,1,2,3,4,5,6,7,8,9,10,11,12,13,14,15,16,17,18,19,20,21,22,23,24,25,26,27,28,29,30,31,32,33,34,35,36,37,38,39,40,41,42,43,44,45,46,47,48,49,50,51,52,53,54,55,56,57,58,59,60,61,62,63,64,65,66,67,68,69,70,71,72,73,74,75,76,77,78,79,80,81]]
noncomputable def F_raddlelaw17_ReduceNames :Option Bool:=
 (F_reduce_Best (api_Grid.mk 0 0 ([]:(List Bool))) 1).bind fun r3=>
 (F_raddleref01_Zero 9 1).bind fun r9=>
 (F_reduce_Best r9 0).bind fun ah=>
 (F_raddlelaw17_two).bind fun a0=>
 (F_reduce_Best a0 0).bind fun ai=>
 (F_reduce_Best a0 41).bind fun aj=>
 (F_raddleref01_Zero 8 2).bind fun ak=>
 (F_reduce_Best ak 40).bind fun a4=>
 (F_reduce_Costs r9).bind fun al=>
 (F_reduce_Costs a0).bind fun ag=>
 (F_reduce_Change a0 ([0]:List Int)).bind fun am=>
 (F_reduce_Change a0 ([0,400]:List Int)).bind fun a5=>
 (F_raddlelaw17_three).bind fun a6=>
 (F_reduce_Distance a0 a6).bind fun a7=>
 (F_reduce_Distance a0 (api_Grid.mk 0 0 ([]:(List Bool)))).bind fun a8=>
 (F_raddleref01_Zero 2 1).bind fun a9=>
 (F_reduce_Distance a0 a9).bind fun a3=>
 (F_reduce_Change a0 ([7,3]:List Int)).bind fun a2=>
 (F_raddlelaw17_alive).bind fun aa=>
 if aa then
  if r3.2.2 == 8 then
   if ah.2.2 == 4 then
    if ai.2.2 == 2 then
     if aj.2.2 == 2 then
      if a4.2.2 == 0 then
       if a4.2.1 == 0 then
        (makeO 8 (0:Int)).bind fun ab=>
        (F_raddleref02_Same a4.1 ab).bind fun ac=>
        if ac then
         if al.2 == 4 then
          if ag.2 == 0 then
           (F_raddleref02_Same ag.1 ([1,0]:List Int)).bind fun ae=>
           if ae then
            if am.2.2 == 26 then
             if a5.2.2 == 8 then
              if a7.2 == 26 then
               if a8.2 == 8 then
                if a3.2 == 0 then
                 if a3.1 == 1 then
                  if a2.2.2 == 0 then
                   if a2.2.1 == 0 then
                    (F_raddleref01_Same a2.1 a0).bind fun af=>
                    some af
                   else
                    none
                  else
                   none
                 else
                  none
                else
                 none
               else
                none
              else
               none
             else
              none
            else
             none
           else
            none
          else
           none
         else
          none
        else
         none
       else
        none
      else
       none
     else
      none
    else
     none
   else
    none
  else
   none
 else
  none
theorem c_raddlelaw17_ReduceNames (E:Nat→Prop) (w0:World)  (r:Bool) (h:F_raddlelaw17_ReduceNames =some r) (S:St0 E [] w0 w0 [] []) :
 Calls Try.prog 8 #[] w0 (Ret (X:=Unit) E [] w0 (fun _=>.bool r) (fun _=>[]) (fun _=>[])):=by
 unfold F_raddlelaw17_ReduceNames at h
 refine sEnter (args:=[]) 196 Try.func8 y y (by simp) S (fun a S=>?_)
 refine sSeq (fun K1 dn=>sRegion (sN S fun a S=>?_))
 refine lT (dn _ _ (sSeq (fun K2 dp=>sRegion (sBuild [] [iv 0,iv 0,.slice none 0 0] S (wN y) y y y y (lb y) fun a S=>?_))))
 obtain ⟨r3,dm,h⟩:=bS h
 have hv_r3:r3=([],0,8):=Option.some.inj (dm.symm.trans (by exact kcN_r3))
 have S:=S.learn (fRep (rL rB) (.slice none 0 0) ([]:(List Bool))) (rL_nil _ _ _)
 have S:=S.learn (fRep r_api_Grid (.agg #[iv 0,iv 0,.slice none 0 0]) (api_Grid.mk 0 0 ([]:(List Bool)))) ⟨_,y,S.mem.know (i:=0) (e:=fRep (rL rB) (.slice none 0 0) ([]:(List Bool))) y⟩
 refine sCall (X:=Value) (f:=21) (vs:=[.agg #[iv 0,iv 0,.slice none 0 0],iv 1]) (val:=c_reduce_Best_val r3) (B':=fun _=>[]) (D':=c_reduce_Best_D r3) [] [] [fRep r_api_Grid (.agg #[iv 0,iv 0,.slice none 0 0]) (api_Grid.mk 0 0 ([]:(List Bool)))] [] [0] S (wN y) y callee21 y (by decide) y y (fun E1 w1 S1=>c_reduce_Best E1 w1 (api_Grid.mk 0 0 ([]:(List Bool))) (.agg #[iv 0,iv 0,.slice none 0 0]) 1 r3 dm S1) y (lb y) fun u5 a w S=>?_
 obtain ⟨cT,cU,_,rfl,_⟩:=S.mem.know (i:=0) (e:=fRep (rL (rI .i64)) (u5) r3.1) y
 refine sM S fun a S=>?_
 refine sExtract (vs:=[.slice cT r3.1.length cU,iv r3.2.1,iv r3.2.2]) (.slice cT r3.1.length cU) S (wN y) y y y y (lb y) fun a S=>sExtract (vs:=[.slice cT r3.1.length cU,iv r3.2.1,iv r3.2.2]) (iv r3.2.1) S (wN y) y y y y (lb y) fun a S=>sExtract (vs:=[.slice cT r3.1.length cU,iv r3.2.1,iv r3.2.2]) (iv r3.2.2) S (wN y) y y y y (lb y) fun a S=>sN S fun a S=>?_
 refine sN S fun a S=>?_
 refine sN S fun a S=>?_
 refine lT (dp _ _ (sSeq (fun K8 dr=>sRegion ?_)))
 obtain ⟨r9,ce,h⟩:=bS h
 have hv_r9:r9=(api_Grid.mk 9 1 [false,false,false,false,false,false,false,false,false]):=Option.some.inj (ce.symm.trans (by exact kcN_r9))
 refine sCall (X:=Value) (f:=32) (vs:=[iv 9,iv 1]) (val:=c_raddleref01_Zero_val r9) (B':=fun _=>[]) (D':=c_raddleref01_Zero_D r9) [] [] [] [] [] S (wN y) y callee32 y (by decide) y y (fun E1 w1 S1=>c_raddleref01_Zero E1 w1 9 1 r9 ce S1) y (lb y) fun dt a w S=>?_
 obtain ⟨du,rfl,cx⟩:=S.mem.know (i:=0) (e:=fRep r_api_Grid (dt) r9) y
 have S:=S.learn (fRep (rL rB) du r9.Bits) cx
 obtain ⟨cf,cg,_,rfl,_⟩:=cx
 obtain ⟨aj,cy,h⟩:=bS h
 have hv_r16:aj=([],0,4):=Option.some.inj (cy.symm.trans (by rw [hv_r9]; exact kcN_r16))
 refine sCall (X:=Value) (f:=21) (vs:=[.agg #[iv r9.W,iv r9.H,.slice cf r9.Bits.length cg],iv 0]) (val:=c_reduce_Best_val aj) (B':=fun _=>[]) (D':=c_reduce_Best_D aj) [] [] [fRep r_api_Grid (.agg #[iv r9.W,iv r9.H,.slice cf r9.Bits.length cg]) r9] [] [1] S (wN y) y callee21 y (by decide) y y (fun E1 w1 S1=>c_reduce_Best E1 w1 r9 (.agg #[iv r9.W,iv r9.H,.slice cf r9.Bits.length cg]) 0 aj cy S1) y (lb y) fun dv a w S=>?_
 obtain ⟨bn,bo,_,rfl,_⟩:=S.mem.know (i:=0) (e:=fRep (rL (rI .i64)) (dv) aj.1) y
 refine sM S fun a S=>?_
 refine sExtract (vs:=[.slice bn aj.1.length bo,iv aj.2.1,iv aj.2.2]) (.slice bn aj.1.length bo) S (wN y) y y y y (lb y) fun a S=>sExtract (vs:=[.slice bn aj.1.length bo,iv aj.2.1,iv aj.2.2]) (iv aj.2.1) S (wN y) y y y y (lb y) fun a S=>sExtract (vs:=[.slice bn aj.1.length bo,iv aj.2.1,iv aj.2.2]) (iv aj.2.2) S (wN y) y y y y (lb y) fun a S=>sN S fun a S=>?_
 refine sN S fun a S=>?_
 refine sN S fun a S=>?_
 refine lT (dr _ _ (sSeq (fun dY cV=>sRegion ?_)))
 obtain ⟨a0,am,h⟩:=bS h
 have hv_r22:a0=(api_Grid.mk 2 1 [true,false]):=Option.some.inj (am.symm.trans (by exact kcN_r22))
 refine sCall (X:=Value) (f:=33) (vs:=[]) (val:=c_raddlelaw17_two_val a0) (B':=fun _=>[]) (D':=c_raddlelaw17_two_D a0) [] [] [] [] [] S (wN y) y callee33 y (by decide) y y (fun E1 w1 S1=>c_raddlelaw17_two E1 w1  a0 am S1) y (lb y) fun dw a w S=>?_
 obtain ⟨dx,rfl,cz⟩:=S.mem.know (i:=0) (e:=fRep r_api_Grid (dw) a0) y
 have S:=S.learn (fRep (rL rB) dx a0.Bits) cz
 obtain ⟨ci,cj,_,rfl,_⟩:=cz
 obtain ⟨ak,cA,h⟩:=bS h
 have hv_r29:ak=([],0,2):=Option.some.inj (cA.symm.trans (by rw [hv_r22]; exact kcN_r29))
 refine sCall (X:=Value) (f:=21) (vs:=[.agg #[iv a0.W,iv a0.H,.slice ci a0.Bits.length cj],iv 0]) (val:=c_reduce_Best_val ak) (B':=fun _=>[]) (D':=c_reduce_Best_D ak) [] [] [fRep r_api_Grid (.agg #[iv a0.W,iv a0.H,.slice ci a0.Bits.length cj]) a0] [] [1] S (wN y) y callee21 y (by decide) y y (fun E1 w1 S1=>c_reduce_Best E1 w1 a0 (.agg #[iv a0.W,iv a0.H,.slice ci a0.Bits.length cj]) 0 ak cA S1) y (lb y) fun dy a w S=>?_
 obtain ⟨bp,bq,_,rfl,_⟩:=S.mem.know (i:=0) (e:=fRep (rL (rI .i64)) (dy) ak.1) y
 refine sM S fun a S=>?_
 refine sExtract (vs:=[.slice bp ak.1.length bq,iv ak.2.1,iv ak.2.2]) (.slice bp ak.1.length bq) S (wN y) y y y y (lb y) fun a S=>sExtract (vs:=[.slice bp ak.1.length bq,iv ak.2.1,iv ak.2.2]) (iv ak.2.1) S (wN y) y y y y (lb y) fun a S=>sExtract (vs:=[.slice bp ak.1.length bq,iv ak.2.1,iv ak.2.2]) (iv ak.2.2) S (wN y) y y y y (lb y) fun a S=>sN S fun a S=>?_
 refine sN S fun a S=>?_
 refine sN S fun a S=>?_
 refine lT (cV _ _ (sSeq (fun dZ cW=>sRegion (sCall (X:=Value) (f:=33) (vs:=[]) (val:=c_raddlelaw17_two_val a0) (B':=fun _=>[]) (D':=c_raddlelaw17_two_D a0) [] [] [] [] [] S (wN y) y callee33 y (by decide) y y (fun E1 w1 S1=>c_raddlelaw17_two E1 w1  a0 am S1) y (lb y) fun dz a w S=>?_))))
 obtain ⟨dA,rfl,cB⟩:=S.mem.know (i:=0) (e:=fRep r_api_Grid (dz) a0) y
 have S:=S.learn (fRep (rL rB) dA a0.Bits) cB
 obtain ⟨ck,cl,_,rfl,_⟩:=cB
 obtain ⟨al,cC,h⟩:=bS h
 have hv_r40:al=([],0,2):=Option.some.inj (cC.symm.trans (by rw [hv_r22]; exact kcN_r40))
 refine sCall (X:=Value) (f:=21) (vs:=[.agg #[iv a0.W,iv a0.H,.slice ck a0.Bits.length cl],iv 41]) (val:=c_reduce_Best_val al) (B':=fun _=>[]) (D':=c_reduce_Best_D al) [] [] [fRep r_api_Grid (.agg #[iv a0.W,iv a0.H,.slice ck a0.Bits.length cl]) a0] [] [1] S (wN y) y callee21 y (by decide) y y (fun E1 w1 S1=>c_reduce_Best E1 w1 a0 (.agg #[iv a0.W,iv a0.H,.slice ck a0.Bits.length cl]) 41 al cC S1) y (lb y) fun dB a w S=>?_
 obtain ⟨br,bt,_,rfl,_⟩:=S.mem.know (i:=0) (e:=fRep (rL (rI .i64)) (dB) al.1) y
 refine sM S fun a S=>?_
 refine sExtract (vs:=[.slice br al.1.length bt,iv al.2.1,iv al.2.2]) (.slice br al.1.length bt) S (wN y) y y y y (lb y) fun a S=>sExtract (vs:=[.slice br al.1.length bt,iv al.2.1,iv al.2.2]) (iv al.2.1) S (wN y) y y y y (lb y) fun a S=>sExtract (vs:=[.slice br al.1.length bt,iv al.2.1,iv al.2.2]) (iv al.2.2) S (wN y) y y y y (lb y) fun a S=>sN S fun a S=>?_
 refine sN S fun a S=>?_
 refine sN S fun a S=>?_
 refine lT (cW _ _ (sSeq (fun e7 cX=>sRegion ?_)))
 obtain ⟨az,cD,h⟩:=bS h
 have hv_r46:az=(api_Grid.mk 8 2 [false,false,false,false,false,false,false,false,false,false,false,false,false,false,false,false]):=Option.some.inj (cD.symm.trans (by exact kcN_r46))
 refine sCall (X:=Value) (f:=32) (vs:=[iv 8,iv 2]) (val:=c_raddleref01_Zero_val az) (B':=fun _=>[]) (D':=c_raddleref01_Zero_D az) [] [] [] [] [] S (wN y) y callee32 y (by decide) y y (fun E1 w1 S1=>c_raddleref01_Zero E1 w1 8 2 az cD S1) y (lb y) fun dC a w S=>?_
 obtain ⟨dD,rfl,cE⟩:=S.mem.know (i:=0) (e:=fRep r_api_Grid (dC) az) y
 have S:=S.learn (fRep (rL rB) dD az.Bits) cE
 obtain ⟨cm,cn,_,rfl,_⟩:=cE
 obtain ⟨aa,cF,h⟩:=bS h
 have hv_r53:aa=([0,0,0,0,0,0,0,0],0,0):=Option.some.inj (cF.symm.trans (by rw [hv_r46]; exact kcN_r53))
 refine sCall (X:=Value) (f:=21) (vs:=[.agg #[iv az.W,iv az.H,.slice cm az.Bits.length cn],iv 40]) (val:=c_reduce_Best_val aa) (B':=fun _=>[]) (D':=c_reduce_Best_D aa) [] [] [fRep r_api_Grid (.agg #[iv az.W,iv az.H,.slice cm az.Bits.length cn]) az] [] [1] S (wN y) y callee21 y (by decide) y y (fun E1 w1 S1=>c_reduce_Best E1 w1 az (.agg #[iv az.W,iv az.H,.slice cm az.Bits.length cn]) 40 aa cF S1) y (lb y) fun dE a w S=>?_
 obtain ⟨av,aw,_,rfl,_⟩:=S.mem.know (i:=0) (e:=fRep (rL (rI .i64)) (dE) aa.1) y
 refine sM S fun a S=>?_
 refine sExtract (vs:=[.slice av aa.1.length aw,iv aa.2.1,iv aa.2.2]) (.slice av aa.1.length aw) S (wN y) y y y y (lb y) fun a S=>sExtract (vs:=[.slice av aa.1.length aw,iv aa.2.1,iv aa.2.2]) (iv aa.2.1) S (wN y) y y y y (lb y) fun a S=>sExtract (vs:=[.slice av aa.1.length aw,iv aa.2.1,iv aa.2.2]) (iv aa.2.2) S (wN y) y y y y (lb y) fun a S=>sN S fun a S=>?_
 refine sN S fun a S=>?_
 refine sN S fun a S=>?_
 refine lT (cX _ _ (sSeq (fun e8 cY=>sRegion (sCall (X:=Value) (f:=32) (vs:=[iv 9,iv 1]) (val:=c_raddleref01_Zero_val r9) (B':=fun _=>[]) (D':=c_raddleref01_Zero_D r9) [] [] [] [] [] S (wN y) y callee32 y (by decide) y y (fun E1 w1 S1=>c_raddleref01_Zero E1 w1 9 1 r9 ce S1) y (lb y) fun dG a w S=>?_))))
 obtain ⟨dH,rfl,cG⟩:=S.mem.know (i:=0) (e:=fRep r_api_Grid (dG) r9) y
 have S:=S.learn (fRep (rL rB) dH r9.Bits) cG
 obtain ⟨co,cp,_,rfl,_⟩:=cG
 obtain ⟨ay,cH,h⟩:=bS h
 have hv_r64:ay=([],4):=Option.some.inj (cH.symm.trans (by rw [hv_r9]; exact kcN_r64))
 refine sCall (X:=Value) (f:=28) (vs:=[.agg #[iv r9.W,iv r9.H,.slice co r9.Bits.length cp]]) (val:=c_reduce_Costs_val ay) (B':=fun _=>[]) (D':=c_reduce_Costs_D ay) [] [] [fRep r_api_Grid (.agg #[iv r9.W,iv r9.H,.slice co r9.Bits.length cp]) r9] [] [1] S (wN y) y callee28 y (by decide) y y (fun E1 w1 S1=>c_reduce_Costs E1 w1 r9 (.agg #[iv r9.W,iv r9.H,.slice co r9.Bits.length cp]) ay cH S1) y (lb y) fun dI a w S=>?_
 obtain ⟨cq,cr,_,rfl,_⟩:=S.mem.know (i:=0) (e:=fRep (rL (rI .i64)) (dI) ay.1) y
 refine sM S fun a S=>?_
 refine sExtract (vs:=[.slice cq ay.1.length cr,iv ay.2]) (.slice cq ay.1.length cr) S (wN y) y y y y (lb y) fun a S=>sExtract (vs:=[.slice cq ay.1.length cr,iv ay.2]) (iv ay.2) S (wN y) y y y y (lb y) fun a S=>sN S fun a S=>?_
 refine sN S fun a S=>?_
 refine lT (cY _ _ (sSeq (fun e9 cZ=>sRegion (sCall (X:=Value) (f:=33) (vs:=[]) (val:=c_raddlelaw17_two_val a0) (B':=fun _=>[]) (D':=c_raddlelaw17_two_D a0) [] [] [] [] [] S (wN y) y callee33 y (by decide) y y (fun E1 w1 S1=>c_raddlelaw17_two E1 w1  a0 am S1) y (lb y) fun dJ a w S=>?_))))
 obtain ⟨dK,rfl,cI⟩:=S.mem.know (i:=0) (e:=fRep r_api_Grid (dJ) a0) y
 have S:=S.learn (fRep (rL rB) dK a0.Bits) cI
 obtain ⟨ct,cu,_,rfl,_⟩:=cI
 obtain ⟨ai,cJ,h⟩:=bS h
 have hv_r75:ai=([1,0],0):=Option.some.inj (cJ.symm.trans (by rw [hv_r22]; exact kcN_r75))
 refine sCall (X:=Value) (f:=28) (vs:=[.agg #[iv a0.W,iv a0.H,.slice ct a0.Bits.length cu]]) (val:=c_reduce_Costs_val ai) (B':=fun _=>[]) (D':=c_reduce_Costs_D ai) [] [] [fRep r_api_Grid (.agg #[iv a0.W,iv a0.H,.slice ct a0.Bits.length cu]) a0] [] [1] S (wN y) y callee28 y (by decide) y y (fun E1 w1 S1=>c_reduce_Costs E1 w1 a0 (.agg #[iv a0.W,iv a0.H,.slice ct a0.Bits.length cu]) ai cJ S1) y (lb y) fun dL a w S=>?_
 obtain ⟨aA,aC,_,rfl,_⟩:=S.mem.know (i:=0) (e:=fRep (rL (rI .i64)) (dL) ai.1) y
 refine sM S fun a S=>?_
 refine sExtract (vs:=[.slice aA ai.1.length aC,iv ai.2]) (.slice aA ai.1.length aC) S (wN y) y y y y (lb y) fun a S=>sExtract (vs:=[.slice aA ai.1.length aC,iv ai.2]) (iv ai.2) S (wN y) y y y y (lb y) fun a S=>sN S fun a S=>?_
 refine sN S fun a S=>?_
 refine lT (cZ _ _ (sSeq (fun ea d0=>sRegion (sCall (X:=Value) (f:=33) (vs:=[]) (val:=c_raddlelaw17_two_val a0) (B':=fun _=>[]) (D':=c_raddlelaw17_two_D a0) [] [] [] [] [] S (wN y) y callee33 y (by decide) y y (fun E1 w1 S1=>c_raddlelaw17_two E1 w1  a0 am S1) y (lb y) fun dM a w S=>?_))))
 obtain ⟨dN,rfl,cK⟩:=S.mem.know (i:=0) (e:=fRep r_api_Grid (dM) a0) y
 have S:=S.learn (fRep (rL rB) dN a0.Bits) cK
 obtain ⟨cv,cw,_,rfl,_⟩:=cK
 refine sLit (r:=(rI .i64)) (T:=3) (xs:=([0]:List Int)) [(0,iv 0)] 1 [iv 0] [iv 0] (iv 0) 8 S (wN y) y y Try.underlying25 y (by decide) (by decide) (by kernel_rfl) y (fun E1 w1 hE=>All.cons y (All.nil _ _ _)) y y (lb y) fun a w bu bv S=>?_
 obtain ⟨a4,cL,h⟩:=bS h
 have hv_r88:a4=((api_Grid.mk 0 0 []),0,26):=Option.some.inj (cL.symm.trans (by rw [hv_r22]; exact kcN_r88))
 have S:=S.shutR (r:=(rI .i64)) (T:=3) (v:=.slice bu ([0]:List Int).length bv) (xs:=([0]:List Int)) 0 y
 refine sCall (X:=Value) (f:=12) (vs:=[.agg #[iv a0.W,iv a0.H,.slice cv a0.Bits.length cw],.slice bu ([0]:List Int).length bv]) (val:=c_reduce_Change_val a4) (B':=fun _=>[]) (D':=c_reduce_Change_D a4) [] [] [fRep r_api_Grid (.agg #[iv a0.W,iv a0.H,.slice cv a0.Bits.length cw]) a0,fRep (rL (rI .i64)) (.slice bu ([0]:List Int).length bv) ([0]:List Int)] [] [2,0] S (wN y) y callee12 y (by decide) y y (fun E1 w1 S1=>c_reduce_Change E1 w1 a0 (.agg #[iv a0.W,iv a0.H,.slice cv a0.Bits.length cw]) ([0]:List Int) (.slice bu ([0]:List Int).length bv) a4 cL S1) y (lb y) fun dO a w S=>?_
 obtain ⟨dP,rfl,cM⟩:=S.mem.know (i:=0) (e:=fRep r_api_Grid (dO) a4.1) y
 have S:=S.learn (fRep (rL rB) dP a4.1.Bits) cM
 obtain ⟨ae,af,_,rfl,_⟩:=cM
 refine sM S fun a S=>?_
 refine sExtract (vs:=[.agg #[iv a4.1.W,iv a4.1.H,.slice ae a4.1.Bits.length af],iv a4.2.1,iv a4.2.2]) (.agg #[iv a4.1.W,iv a4.1.H,.slice ae a4.1.Bits.length af]) S (wN y) y y y y (lb y) fun a S=>sExtract (vs:=[.agg #[iv a4.1.W,iv a4.1.H,.slice ae a4.1.Bits.length af],iv a4.2.1,iv a4.2.2]) (iv a4.2.1) S (wN y) y y y y (lb y) fun a S=>sExtract (vs:=[.agg #[iv a4.1.W,iv a4.1.H,.slice ae a4.1.Bits.length af],iv a4.2.1,iv a4.2.2]) (iv a4.2.2) S (wN y) y y y y (lb y) fun a S=>sAlloc (.agg #[iv 0,iv 0,.slice none 0 0]) S (wN y) y y [iv 0,iv 0,.slice none 0 0] y y (lb y) fun a bg w S=>sStore (p:=bg) (off:=0) (T:=24) (vs:=[iv 0,iv 0,.slice none 0 0]) (v:=.agg #[iv a4.1.W,iv a4.1.H,.slice ae a4.1.Bits.length af]) 0 [iv a4.1.W,iv a4.1.H,.slice ae a4.1.Bits.length af] S (wN y) y y y y y y y (by simp) y fun a w S=>sN S fun a S=>?_
 refine sN S fun a S=>?_
 refine lT (d0 _ _ (sSeq (fun eb d1=>sRegion (sCall (X:=Value) (f:=33) (vs:=[]) (val:=c_raddlelaw17_two_val a0) (B':=fun _=>[]) (D':=c_raddlelaw17_two_D a0) [] [eBox bg 24 [iv a4.1.W,iv a4.1.H,.slice ae a4.1.Bits.length af]] [] [0] [] S (wN y) y callee33 y (by decide) y y (fun E1 w1 S1=>c_raddlelaw17_two E1 w1  a0 am S1) y (lb y) fun dQ a w S=>?_))))
 obtain ⟨dR,rfl,cN⟩:=S.mem.know (i:=0) (e:=fRep r_api_Grid (dQ) a0) y
 have S:=S.learn (fRep (rL rB) dR a0.Bits) cN
 obtain ⟨bh,bi,_,rfl,_⟩:=cN
 refine sLit (r:=(rI .i64)) (T:=3) (xs:=([0,400]:List Int)) [(0,iv 0),(1,iv 400)] 2 [iv 0,iv 400] [iv 0,iv 400] (iv 0) 8 S (wN y) y y Try.underlying25 y (by decide) (by decide) (by kernel_rfl) y (fun E1 w1 hE=>All.cons y (All.cons y (All.nil _ _ _))) y y (lb y) fun a w ba bb S=>?_
 obtain ⟨a3,bx,h⟩:=bS h
 have hv_r104:a3=((api_Grid.mk 0 0 []),0,8):=Option.some.inj (bx.symm.trans (by rw [hv_r22]; exact kcN_r104))
 have S:=S.shutR (r:=(rI .i64)) (T:=3) (v:=.slice ba ([0,400]:List Int).length bb) (xs:=([0,400]:List Int)) 0 y
 refine sCall (X:=Value) (f:=12) (vs:=[.agg #[iv a0.W,iv a0.H,.slice bh a0.Bits.length bi],.slice ba ([0,400]:List Int).length bb]) (val:=c_reduce_Change_val a3) (B':=fun _=>[]) (D':=c_reduce_Change_D a3) [] [eBox bg 24 [iv a4.1.W,iv a4.1.H,.slice ae a4.1.Bits.length af]] [fRep r_api_Grid (.agg #[iv a0.W,iv a0.H,.slice bh a0.Bits.length bi]) a0,fRep (rL (rI .i64)) (.slice ba ([0,400]:List Int).length bb) ([0,400]:List Int)] [0] [2,0] S (wN y) y callee12 y (by decide) y y (fun E1 w1 S1=>c_reduce_Change E1 w1 a0 (.agg #[iv a0.W,iv a0.H,.slice bh a0.Bits.length bi]) ([0,400]:List Int) (.slice ba ([0,400]:List Int).length bb) a3 bx S1) y (lb y) fun d3 a w S=>?_
 obtain ⟨d4,rfl,bz⟩:=S.mem.know (i:=0) (e:=fRep r_api_Grid (d3) a3.1) y
 have S:=S.learn (fRep (rL rB) d4 a3.1.Bits) bz
 obtain ⟨a6,a7,_,rfl,_⟩:=bz
 refine sM S fun a S=>?_
 refine sExtract (vs:=[.agg #[iv a3.1.W,iv a3.1.H,.slice a6 a3.1.Bits.length a7],iv a3.2.1,iv a3.2.2]) (.agg #[iv a3.1.W,iv a3.1.H,.slice a6 a3.1.Bits.length a7]) S (wN y) y y y y (lb y) fun a S=>sExtract (vs:=[.agg #[iv a3.1.W,iv a3.1.H,.slice a6 a3.1.Bits.length a7],iv a3.2.1,iv a3.2.2]) (iv a3.2.1) S (wN y) y y y y (lb y) fun a S=>sExtract (vs:=[.agg #[iv a3.1.W,iv a3.1.H,.slice a6 a3.1.Bits.length a7],iv a3.2.1,iv a3.2.2]) (iv a3.2.2) S (wN y) y y y y (lb y) fun a S=>sAlloc (.agg #[iv 0,iv 0,.slice none 0 0]) S (wN y) y y [iv 0,iv 0,.slice none 0 0] y y (lb y) fun a ax w S=>sStore (p:=ax) (off:=0) (T:=24) (vs:=[iv 0,iv 0,.slice none 0 0]) (v:=.agg #[iv a3.1.W,iv a3.1.H,.slice a6 a3.1.Bits.length a7]) 0 [iv a3.1.W,iv a3.1.H,.slice a6 a3.1.Bits.length a7] S (wN y) y y y y y y y (by simp) y fun a w S=>sN S fun a S=>?_
 refine sN S fun a S=>?_
 refine lT (d1 _ _ (sSeq (fun dS cO=>sRegion (sCall (X:=Value) (f:=33) (vs:=[]) (val:=c_raddlelaw17_two_val a0) (B':=fun _=>[]) (D':=c_raddlelaw17_two_D a0) [] [eBox ax 24 [iv a3.1.W,iv a3.1.H,.slice a6 a3.1.Bits.length a7],eBox bg 24 [iv a4.1.W,iv a4.1.H,.slice ae a4.1.Bits.length af]] [] [0,1] [] S (wN y) y callee33 y (by decide) y y (fun E1 w1 S1=>c_raddlelaw17_two E1 w1  a0 am S1) y (lb y) fun d5 a w S=>?_))))
 obtain ⟨d6,rfl,bA⟩:=S.mem.know (i:=0) (e:=fRep r_api_Grid (d5) a0) y
 have S:=S.learn (fRep (rL rB) d6 a0.Bits) bA
 obtain ⟨bB,bC,_,rfl,_⟩:=bA
 obtain ⟨ag,bD,h⟩:=bS h
 have hv_r118:ag=(api_Grid.mk 3 2 [true,true,true,true,true,false]):=Option.some.inj (bD.symm.trans (by exact kcN_r118))
 refine sCall (X:=Value) (f:=34) (vs:=[]) (val:=c_raddlelaw17_three_val ag) (B':=fun _=>[]) (D':=c_raddlelaw17_three_D ag) [] [eBox ax 24 [iv a3.1.W,iv a3.1.H,.slice a6 a3.1.Bits.length a7],eBox bg 24 [iv a4.1.W,iv a4.1.H,.slice ae a4.1.Bits.length af]] [] [0,1] [] S (wN y) y callee34 y (by decide) y y (fun E1 w1 S1=>c_raddlelaw17_three E1 w1  ag bD S1) y (lb y) fun d7 a w S=>?_
 obtain ⟨d8,rfl,bE⟩:=S.mem.know (i:=0) (e:=fRep r_api_Grid (d7) ag) y
 have S:=S.learn (fRep (rL rB) d8 ag.Bits) bE
 obtain ⟨bG,bH,_,rfl,_⟩:=bE
 obtain ⟨ab,bI,h⟩:=bS h
 have hv_r125:ab=(0,26):=Option.some.inj (bI.symm.trans (by rw [hv_r22,hv_r118]; exact kcN_r125))
 have S1:=S.mem
 refine sCq [.agg #[iv a0.W,iv a0.H,.slice bB a0.Bits.length bC],.agg #[iv ag.W,iv ag.H,.slice bG ag.Bits.length bH]] (.tuple #[iv ab.1,iv ab.2]) S callee14 (S1.quiet [3,1] y) (fun E1 w1 S1=>c_reduce_Distance E1 w1 a0 (.agg #[iv a0.W,iv a0.H,.slice bB a0.Bits.length bC]) ag (.agg #[iv ag.W,iv ag.H,.slice bG ag.Bits.length bH]) ab bI S1) fun a w S=>?_
 refine sM S fun a S=>?_
 refine sExtract (vs:=[iv ab.1,iv ab.2]) (iv ab.1) S (wN y) y y y y (lb y) fun a S=>sExtract (vs:=[iv ab.1,iv ab.2]) (iv ab.2) S (wN y) y y y y (lb y) fun a S=>sN S fun a S=>?_
 refine sN S fun a S=>?_
 refine lT (cO _ _ (sSeq (fun dU cP=>sRegion (sCall (X:=Value) (f:=33) (vs:=[]) (val:=c_raddlelaw17_two_val a0) (B':=fun _=>[]) (D':=c_raddlelaw17_two_D a0) [] [eBox ax 24 [iv a3.1.W,iv a3.1.H,.slice a6 a3.1.Bits.length a7],eBox bg 24 [iv a4.1.W,iv a4.1.H,.slice ae a4.1.Bits.length af]] [] [0,1] [] S (wN y) y callee33 y (by decide) y y (fun E1 w1 S1=>c_raddlelaw17_two E1 w1  a0 am S1) y (lb y) fun d9 a w S=>?_))))
 obtain ⟨da,rfl,bJ⟩:=S.mem.know (i:=0) (e:=fRep r_api_Grid (d9) a0) y
 have S:=S.learn (fRep (rL rB) da a0.Bits) bJ
 obtain ⟨bK,bL,_,rfl,_⟩:=bJ
 refine sBuild [] [iv 0,iv 0,.slice none 0 0] S (wN y) y y y y (lb y) fun a S=>?_
 obtain ⟨ac,bM,h⟩:=bS h
 have hv_r133:ac=(0,8):=Option.some.inj (bM.symm.trans (by rw [hv_r22]; exact kcN_r133))
 have S1:=S.mem
 refine sCq [.agg #[iv a0.W,iv a0.H,.slice bK a0.Bits.length bL],.agg #[iv 0,iv 0,.slice none 0 0]] (.tuple #[iv ac.1,iv ac.2]) S callee14 (S1.quiet [1,35] y) (fun E1 w1 S1=>c_reduce_Distance E1 w1 a0 (.agg #[iv a0.W,iv a0.H,.slice bK a0.Bits.length bL]) (api_Grid.mk 0 0 ([]:(List Bool))) (.agg #[iv 0,iv 0,.slice none 0 0]) ac bM S1) fun a w S=>?_
 refine sM S fun a S=>?_
 refine sExtract (vs:=[iv ac.1,iv ac.2]) (iv ac.1) S (wN y) y y y y (lb y) fun a S=>sExtract (vs:=[iv ac.1,iv ac.2]) (iv ac.2) S (wN y) y y y y (lb y) fun a S=>sN S fun a S=>?_
 refine sN S fun a S=>?_
 refine lT (cP _ _ (sSeq (fun dV cQ=>sRegion (sCall (X:=Value) (f:=33) (vs:=[]) (val:=c_raddlelaw17_two_val a0) (B':=fun _=>[]) (D':=c_raddlelaw17_two_D a0) [] [eBox ax 24 [iv a3.1.W,iv a3.1.H,.slice a6 a3.1.Bits.length a7],eBox bg 24 [iv a4.1.W,iv a4.1.H,.slice ae a4.1.Bits.length af]] [] [0,1] [] S (wN y) y callee33 y (by decide) y y (fun E1 w1 S1=>c_raddlelaw17_two E1 w1  a0 am S1) y (lb y) fun db a w S=>?_))))
 obtain ⟨dc,rfl,bN⟩:=S.mem.know (i:=0) (e:=fRep r_api_Grid (db) a0) y
 have S:=S.learn (fRep (rL rB) dc a0.Bits) bN
 obtain ⟨bO,bP,_,rfl,_⟩:=bN
 obtain ⟨ah,bQ,h⟩:=bS h
 have hv_r141:ah=(api_Grid.mk 2 1 [false,false]):=Option.some.inj (bQ.symm.trans (by exact kcN_r141))
 refine sCall (X:=Value) (f:=32) (vs:=[iv 2,iv 1]) (val:=c_raddleref01_Zero_val ah) (B':=fun _=>[]) (D':=c_raddleref01_Zero_D ah) [] [eBox ax 24 [iv a3.1.W,iv a3.1.H,.slice a6 a3.1.Bits.length a7],eBox bg 24 [iv a4.1.W,iv a4.1.H,.slice ae a4.1.Bits.length af]] [] [0,1] [] S (wN y) y callee32 y (by decide) y y (fun E1 w1 S1=>c_raddleref01_Zero E1 w1 2 1 ah bQ S1) y (lb y) fun de a w S=>?_
 obtain ⟨df,rfl,bR⟩:=S.mem.know (i:=0) (e:=fRep r_api_Grid (de) ah) y
 have S:=S.learn (fRep (rL rB) df ah.Bits) bR
 obtain ⟨bU,bV,_,rfl,_⟩:=bR
 obtain ⟨a5,bW,h⟩:=bS h
 have hv_r148:a5=(1,0):=Option.some.inj (bW.symm.trans (by rw [hv_r22,hv_r141]; exact kcN_r148))
 have S1:=S.mem
 refine sCq [.agg #[iv a0.W,iv a0.H,.slice bO a0.Bits.length bP],.agg #[iv ah.W,iv ah.H,.slice bU ah.Bits.length bV]] (.tuple #[iv a5.1,iv a5.2]) S callee14 (S1.quiet [3,1] y) (fun E1 w1 S1=>c_reduce_Distance E1 w1 a0 (.agg #[iv a0.W,iv a0.H,.slice bO a0.Bits.length bP]) ah (.agg #[iv ah.W,iv ah.H,.slice bU ah.Bits.length bV]) a5 bW S1) fun a w S=>?_
 refine sM S fun a S=>?_
 refine sExtract (vs:=[iv a5.1,iv a5.2]) (iv a5.1) S (wN y) y y y y (lb y) fun a S=>sExtract (vs:=[iv a5.1,iv a5.2]) (iv a5.2) S (wN y) y y y y (lb y) fun a S=>sN S fun a S=>?_
 refine sN S fun a S=>?_
 refine lT (cQ _ _ (sSeq (fun dW cR=>sRegion (sCall (X:=Value) (f:=33) (vs:=[]) (val:=c_raddlelaw17_two_val a0) (B':=fun _=>[]) (D':=c_raddlelaw17_two_D a0) [] [eBox ax 24 [iv a3.1.W,iv a3.1.H,.slice a6 a3.1.Bits.length a7],eBox bg 24 [iv a4.1.W,iv a4.1.H,.slice ae a4.1.Bits.length af]] [] [0,1] [] S (wN y) y callee33 y (by decide) y y (fun E1 w1 S1=>c_raddlelaw17_two E1 w1  a0 am S1) y (lb y) fun dg a w S=>?_))))
 obtain ⟨dh,rfl,bX⟩:=S.mem.know (i:=0) (e:=fRep r_api_Grid (dg) a0) y
 have S:=S.learn (fRep (rL rB) dh a0.Bits) bX
 obtain ⟨bj,bk,_,rfl,_⟩:=bX
 refine sLit (r:=(rI .i64)) (T:=3) (xs:=([7,3]:List Int)) [(0,iv 7),(1,iv 3)] 2 [iv 7,iv 3] [iv 7,iv 3] (iv 0) 8 S (wN y) y y Try.underlying25 y (by decide) (by decide) (by kernel_rfl) y (fun E1 w1 hE=>All.cons y (All.cons y (All.nil _ _ _))) y y (lb y) fun a w bc bf S=>?_
 obtain ⟨a2,bY,h⟩:=bS h
 have hv_r158:a2=((api_Grid.mk 2 1 [true,false]),0,0):=Option.some.inj (bY.symm.trans (by rw [hv_r22]; exact kcN_r158))
 have S:=S.shutR (r:=(rI .i64)) (T:=3) (v:=.slice bc ([7,3]:List Int).length bf) (xs:=([7,3]:List Int)) 0 y
 refine sCall (X:=Value) (f:=12) (vs:=[.agg #[iv a0.W,iv a0.H,.slice bj a0.Bits.length bk],.slice bc ([7,3]:List Int).length bf]) (val:=c_reduce_Change_val a2) (B':=fun _=>[]) (D':=c_reduce_Change_D a2) [] [eBox ax 24 [iv a3.1.W,iv a3.1.H,.slice a6 a3.1.Bits.length a7],eBox bg 24 [iv a4.1.W,iv a4.1.H,.slice ae a4.1.Bits.length af]] [fRep r_api_Grid (.agg #[iv a0.W,iv a0.H,.slice bj a0.Bits.length bk]) a0,fRep (rL (rI .i64)) (.slice bc ([7,3]:List Int).length bf) ([7,3]:List Int)] [0,1] [2,0] S (wN y) y callee12 y (by decide) y y (fun E1 w1 S1=>c_reduce_Change E1 w1 a0 (.agg #[iv a0.W,iv a0.H,.slice bj a0.Bits.length bk]) ([7,3]:List Int) (.slice bc ([7,3]:List Int).length bf) a2 bY S1) y (lb y) fun di a w S=>?_
 obtain ⟨dj,rfl,bZ⟩:=S.mem.know (i:=0) (e:=fRep r_api_Grid (di) a2.1) y
 have S:=S.learn (fRep (rL rB) dj a2.1.Bits) bZ
 obtain ⟨a8,a9,_,rfl,_⟩:=bZ
 refine sM S fun a S=>?_
 refine sExtract (vs:=[.agg #[iv a2.1.W,iv a2.1.H,.slice a8 a2.1.Bits.length a9],iv a2.2.1,iv a2.2.2]) (.agg #[iv a2.1.W,iv a2.1.H,.slice a8 a2.1.Bits.length a9]) S (wN y) y y y y (lb y) fun a S=>sExtract (vs:=[.agg #[iv a2.1.W,iv a2.1.H,.slice a8 a2.1.Bits.length a9],iv a2.2.1,iv a2.2.2]) (iv a2.2.1) S (wN y) y y y y (lb y) fun a S=>sExtract (vs:=[.agg #[iv a2.1.W,iv a2.1.H,.slice a8 a2.1.Bits.length a9],iv a2.2.1,iv a2.2.2]) (iv a2.2.2) S (wN y) y y y y (lb y) fun a S=>sAlloc (.agg #[iv 0,iv 0,.slice none 0 0]) S (wN y) y y [iv 0,iv 0,.slice none 0 0] y y (lb y) fun a bw w S=>sStore (p:=bw) (off:=0) (T:=24) (vs:=[iv 0,iv 0,.slice none 0 0]) (v:=.agg #[iv a2.1.W,iv a2.1.H,.slice a8 a2.1.Bits.length a9]) 0 [iv a2.1.W,iv a2.1.H,.slice a8 a2.1.Bits.length a9] S (wN y) y y y y y y y (by simp) y fun a w S=>sN S fun a S=>?_
 refine sN S fun a S=>?_
 refine lT (cR _ _ (sSeq (fun dX cS=>?_)))
 obtain ⟨b3,c7,h⟩:=bS h
 have hv_r167:b3=true:=Option.some.inj (c7.symm.trans (by exact kcN_r169))
 rcases iS h with ⟨aG,h⟩ | ⟨aG,h⟩
 rotate_left
 ·exact absurd aG (by rw [hv_r167]; decide)
 rcases iS h with ⟨aH,h⟩ | ⟨aH,h⟩
 rotate_left
 ·exact absurd aH (by rw [hv_r3]; decide)
 rcases iS h with ⟨aI,h⟩ | ⟨aI,h⟩
 rotate_left
 ·exact absurd aI (by rw [hv_r16]; decide)
 rcases iS h with ⟨aJ,h⟩ | ⟨aJ,h⟩
 rotate_left
 ·exact absurd aJ (by rw [hv_r29]; decide)
 rcases iS h with ⟨aK,h⟩ | ⟨aK,h⟩
 rotate_left
 ·exact absurd aK (by rw [hv_r40]; decide)
 rcases iS h with ⟨aL,h⟩ | ⟨aL,h⟩
 rotate_left
 ·exact absurd aL (by rw [hv_r53]; decide)
 rcases iS h with ⟨ao,h⟩ | ⟨ao,h⟩
 rotate_left
 ·exact absurd ao (by rw [hv_r53]; decide)
 obtain ⟨ar,c8,h⟩:=bS h
 have hv_m178:ar=[0,0,0,0,0,0,0,0]:=Option.some.inj (c8.symm.trans (by kernel_rfl))
 obtain ⟨b4,c9,h⟩:=bS h
 have hv_r180:b4=true:=Option.some.inj (c9.symm.trans (by rw [hv_r53,hv_m178]; exact kcN_r182))
 rcases iS h with ⟨aM,h⟩ | ⟨aM,h⟩
 rotate_left
 ·exact absurd aM (by rw [hv_r180]; decide)
 rcases iS h with ⟨aO,h⟩ | ⟨aO,h⟩
 rotate_left
 ·exact absurd aO (by rw [hv_r64]; decide)
 rcases iS h with ⟨ap,h⟩ | ⟨ap,h⟩
 rotate_left
 ·exact absurd ap (by rw [hv_r75]; decide)
 obtain ⟨b5,ca,h⟩:=bS h
 have hv_r187:b5=true:=Option.some.inj (ca.symm.trans (by rw [hv_r75]; exact kcN_r189))
 rcases iS h with ⟨aP,h⟩ | ⟨aP,h⟩
 rotate_left
 ·exact absurd aP (by rw [hv_r187]; decide)
 rcases iS h with ⟨aQ,h⟩ | ⟨aQ,h⟩
 rotate_left
 ·exact absurd aQ (by rw [hv_r88]; decide)
 rcases iS h with ⟨aR,h⟩ | ⟨aR,h⟩
 rotate_left
 ·exact absurd aR (by rw [hv_r104]; decide)
 rcases iS h with ⟨aS,h⟩ | ⟨aS,h⟩
 rotate_left
 ·exact absurd aS (by rw [hv_r125]; decide)
 rcases iS h with ⟨aT,h⟩ | ⟨aT,h⟩
 rotate_left
 ·exact absurd aT (by rw [hv_r133]; decide)
 rcases iS h with ⟨aU,h⟩ | ⟨aU,h⟩
 rotate_left
 ·exact absurd aU (by rw [hv_r148]; decide)
 rcases iS h with ⟨aV,h⟩ | ⟨aV,h⟩
 rotate_left
 ·exact absurd aV (by rw [hv_r148]; decide)
 rcases iS h with ⟨aW,h⟩ | ⟨aW,h⟩
 rotate_left
 ·exact absurd aW (by rw [hv_r158]; decide)
 rcases iS h with ⟨aq,h⟩ | ⟨aq,h⟩
 rotate_left
 ·exact absurd aq (by rw [hv_r158]; decide)
 obtain ⟨au,cc,h⟩:=bS h
 have hv_r203:au=true:=Option.some.inj (cc.symm.trans (by rw [hv_r158,hv_r22]; exact kcN_r205))
 refine sDraw (nf:=[29,42,79]) (W:=[(0,114,.bool true),(1,115,.bool b3),(2,116,.bool b3),(3,117,.bool b3),(4,118,iv r3.2.2),(5,119,.bool (r3.2.2 == 8)),(6,120,.bool (r3.2.2 == 8)),(7,121,.bool (r3.2.2 == 8)),(8,122,iv aj.2.2),(9,123,.bool (aj.2.2 == 4)),(10,124,.bool (aj.2.2 == 4)),(11,125,.bool (aj.2.2 == 4)),(12,126,iv ak.2.2),(13,127,.bool (ak.2.2 == 2)),(14,128,.bool (ak.2.2 == 2)),(15,129,.bool (ak.2.2 == 2)),(16,130,iv al.2.2),(17,131,.bool (al.2.2 == 2)),(18,132,.bool (al.2.2 == 2)),(19,133,.bool (al.2.2 == 2)),(20,134,iv aa.2.2),(21,135,.bool (aa.2.2 == 0)),(22,136,.bool (aa.2.2 == 0)),(23,137,.bool (aa.2.2 == 0)),(24,138,iv aa.2.1),(25,139,.bool (aa.2.1 == 0)),(26,140,.bool (aa.2.1 == 0)),(27,141,.bool (aa.2.1 == 0)),(28,142,.slice av aa.1.length aw)]) y S ?_
 refine node_by (A:=anc_raddlelaw17_ReduceNames_0) 83 (by kernel_rfl) (by kernel_rfl) (by kernel_rfl) (by kernel_rfl) (by kernel_rfl) [0,1,2,3,4,5,6,7,8,9,10,11,12,13,14,15,16,17,18,19,20,21,22,23,24,25,26,27,28] (by kernel_rfl) (by decide) (by decide) (fF ?_ (fF ?_ (fF ?_ (fF ?_ (fF ?_ (fF ?_ (fF ?_ (fF ?_ (fF ?_ (fF ?_ (fF ?_ (fF ?_ (fF ?_ (fF ?_ (fF ?_ (fF ?_ (fF ?_ (fF ?_ (fF ?_ (fF ?_ (fF ?_ (fF ?_ (fF ?_ (fF ?_ (fF ?_ (fF ?_ (fF ?_ (fF ?_ (fF ?_ (fN ?_ (fE 29 (fE 29 (fE 29 (fE 29 (fE 29 (fE 29 (fE 29 (fE 29 (fE 29 (fE 29 (fE 29 (fE 29 (aB 42 40 29 (by decide) (fE 29 (fE 29 (fE 29 (fE 29 (fE 29 (fE 29 (fE 29 (fE 29 (fE 29 (fE 29 (fE 29 (fE 29 (fE 29 (fE 29 (fE 29 (fE 29 (fE 29 (fE 29 (fE 29 (fE 29 (fE 29 (fE 29 (fE 29 (fE 29 (fE 29 (fE 29 (fE 29 (fE 29 (fE 29 (fE 29 (fE 29 (fE 29 (fE 29 (fE 29 (fE 29 (fE 29 (aB 79 3 29 (by decide) (fE 29 (fE 29 (fE 29 (trivial)))))))))))))))))))))))))))))))))))))))))))))))))))))))))))))))))))))))))))))))))))) [] (fun q hq=>by cases hq) (fun hY=>absurd (hY 29 (by decide)) (by decide))
 ·refine fJ [] 0 [] fun G a w S=>?_
  exact sM S fun a S=>leafL ⟨y,S⟩
 ·refine fJ [(114,_)] 1 [some 0] fun G a w S=>?_
  have S1:=S.mem
  refine sCallQ (X:=Unit) (f:=18) (vs:=[]) (val:=fun _=>.bool b3) S (wG 0 true 114 y y y y) y callee18 y (S1.quiet [] y) (fun E1 w1 S1=>c_raddlelaw17_alive E1 w1  b3 c7 S1) y (lb y) fun _ a w S=>?_
  exact leafL ⟨y,S⟩
 ·refine fJ [(114,_),(115,_)] 2 [some 0,some 1] fun G a w S=>?_
  exact sPickT (.bool b3) S (wN y) y y y y y (lb y) fun a S=>leafL ⟨y,S⟩
 ·exact fM 3 (some 2) y y y y (.inl y) y y y
 ·refine fJ [(3,_),(117,_)] 4 [none,some 3] fun G a w S=>?_
  exact sMove (iv r3.2.2) S (wG 3 true 117 y y y aG) (.inl y) y y (lb y) fun a S=>leafL ⟨y,S⟩
 ·refine fJ [(118,_),(117,_)] 5 [some 4,some 3] fun G a w S=>?_
  exact sBin _ S (wG 3 true 117 y y y aG) y y y (bEq _ _ _ _ .i64 r3.2.2 8) y (lb y) fun a S=>leafL ⟨y,S⟩
 ·refine fJ [(117,_),(119,_)] 6 [some 3,some 5] fun G a w S=>?_
  exact sPickT (.bool (r3.2.2 == 8)) S (wN y) y y aG y y (lb y) fun a S=>leafL ⟨y,S⟩
 ·exact fM 7 (some 6) y y y y (.inl y) y y y
 ·refine fJ [(6,_),(121,_)] 8 [none,some 7] fun G a w S=>?_
  exact sMove (iv aj.2.2) S (wG 7 true 121 y y y aH) (.inl y) y y (lb y) fun a S=>leafL ⟨y,S⟩
 ·refine fJ [(122,_),(121,_)] 9 [some 8,some 7] fun G a w S=>?_
  exact sBin _ S (wG 7 true 121 y y y aH) y y y (bEq _ _ _ _ .i64 aj.2.2 4) y (lb y) fun a S=>leafL ⟨y,S⟩
 ·refine fJ [(121,_),(123,_)] 10 [some 7,some 9] fun G a w S=>?_
  exact sPickT (.bool (aj.2.2 == 4)) S (wN y) y y aH y y (lb y) fun a S=>leafL ⟨y,S⟩
 ·exact fM 11 (some 10) y y y y (.inl y) y y y
 ·refine fJ [(9,_),(125,_)] 12 [none,some 11] fun G a w S=>?_
  exact sMove (iv ak.2.2) S (wG 11 true 125 y y y aI) (.inl y) y y (lb y) fun a S=>leafL ⟨y,S⟩
 ·refine fJ [(126,_),(125,_)] 13 [some 12,some 11] fun G a w S=>?_
  exact sBin _ S (wG 11 true 125 y y y aI) y y y (bEq _ _ _ _ .i64 ak.2.2 2) y (lb y) fun a S=>leafL ⟨y,S⟩
 ·refine fJ [(125,_),(127,_)] 14 [some 11,some 13] fun G a w S=>?_
  exact sPickT (.bool (ak.2.2 == 2)) S (wN y) y y aI y y (lb y) fun a S=>leafL ⟨y,S⟩
 ·exact fM 15 (some 14) y y y y (.inl y) y y y
 ·refine fJ [(12,_),(129,_)] 16 [none,some 15] fun G a w S=>?_
  exact sMove (iv al.2.2) S (wG 15 true 129 y y y aJ) (.inl y) y y (lb y) fun a S=>leafL ⟨y,S⟩
 ·refine fJ [(130,_),(129,_)] 17 [some 16,some 15] fun G a w S=>?_
  exact sBin _ S (wG 15 true 129 y y y aJ) y y y (bEq _ _ _ _ .i64 al.2.2 2) y (lb y) fun a S=>leafL ⟨y,S⟩
 ·refine fJ [(129,_),(131,_)] 18 [some 15,some 17] fun G a w S=>?_
  exact sPickT (.bool (al.2.2 == 2)) S (wN y) y y aJ y y (lb y) fun a S=>leafL ⟨y,S⟩
 ·exact fM 19 (some 18) y y y y (.inl y) y y y
 ·refine fJ [(15,_),(133,_)] 20 [none,some 19] fun G a w S=>?_
  exact sMove (iv aa.2.2) S (wG 19 true 133 y y y aK) (.inl y) y y (lb y) fun a S=>leafL ⟨y,S⟩
 ·refine fJ [(134,_),(133,_)] 21 [some 20,some 19] fun G a w S=>?_
  exact sBin _ S (wG 19 true 133 y y y aK) y y y (bEq _ _ _ _ .i64 aa.2.2 0) y (lb y) fun a S=>leafL ⟨y,S⟩
 ·refine fJ [(133,_),(135,_)] 22 [some 19,some 21] fun G a w S=>?_
  exact sPickT (.bool (aa.2.2 == 0)) S (wN y) y y aK y y (lb y) fun a S=>leafL ⟨y,S⟩
 ·exact fM 23 (some 22) y y y y (.inl y) y y y
 ·refine fJ [(14,_),(137,_)] 24 [none,some 23] fun G a w S=>?_
  exact sMove (iv aa.2.1) S (wG 23 true 137 y y y aL) (.inl y) y y (lb y) fun a S=>leafL ⟨y,S⟩
 ·refine fJ [(138,_),(137,_)] 25 [some 24,some 23] fun G a w S=>?_
  exact sBin _ S (wG 23 true 137 y y y aL) y y y (bEq _ _ _ _ .i64 aa.2.1 0) y (lb y) fun a S=>leafL ⟨y,S⟩
 ·refine fJ [(137,_),(139,_)] 26 [some 23,some 25] fun G a w S=>?_
  exact sPickT (.bool (aa.2.1 == 0)) S (wN y) y y aL y y (lb y) fun a S=>leafL ⟨y,S⟩
 ·exact fM 27 (some 26) y y y y (.inl y) y y y
 ·refine fJ [(13,_),(141,_)] 28 [none,some 27] fun G a w S=>?_
  exact sMove (.slice av aa.1.length aw) S (wG 27 true 141 y y y ao) (.inl y) y y (lb y) fun a S=>leafL ⟨y,S⟩
 refine ⟨_,[(141,.bool (aa.2.1 == 0))],y,(srcs_of [some 27] y y y),fun G a w S=>?_⟩
 refine sMake (r:=(rI .i64)) (m:=8) (xs:=ar) (iv 0) (0:Int) 8 S (wG 27 true 141 y y y ao) y Try.underlying25 y y (by decide) (fun _ _=>y) y y c8 y (lb y) fun a w aX aZ S=>leafL ⟨y,_,_,.inl ⟨143,(.slice aX ar.length aZ),[(30,144,.bool b4),(31,145,.bool b4),(32,146,.bool b4),(33,147,iv ay.2),(34,148,.bool (ay.2 == 4)),(35,149,.bool (ay.2 == 4)),(36,150,.bool (ay.2 == 4)),(37,151,iv ai.2),(38,152,.bool (ai.2 == 0)),(39,153,.bool (ai.2 == 0)),(40,154,.bool (ai.2 == 0)),(41,155,.slice aA ai.1.length aC)],y,S,hz_of y,?_⟩⟩
 refine node_by (A:=anc_raddlelaw17_ReduceNames_0) 83 (by kernel_rfl) (by kernel_rfl) (by kernel_rfl) (by kernel_rfl) (by kernel_rfl) [30,31,32,33,34,35,36,37,38,39,40,41,29,0,1,2,3,4,5,6,7,8,9,10,11,12,13,14,15,16,17,18,19,20,21,22,23,24,25,26,27,28] (by kernel_rfl) (by decide) (by decide) (fD 29 (fD 29 (fD 29 (fD 29 (fD 29 (fD 29 (fD 29 (fD 29 (fD 29 (fD 29 (fD 29 (fD 29 (fD 29 (fD 29 (fD 29 (fD 29 (fD 29 (fD 29 (fD 29 (fD 29 (fD 29 (fD 29 (fD 29 (fD 29 (fD 29 (fD 29 (fD 29 (fD 29 (fF ?_ (fY (fF ?_ (fF ?_ (fF ?_ (fF ?_ (fF ?_ (fF ?_ (fF ?_ (fF ?_ (fF ?_ (fF ?_ (fF ?_ (fF ?_ (fN ?_ (fE 42 (fE 42 (fE 42 (fE 42 (fE 42 (fE 42 (fE 42 (fE 42 (fE 42 (fE 42 (fE 42 (fE 42 (fE 42 (fE 42 (fE 42 (fE 42 (fE 42 (fE 42 (fE 42 (fE 42 (fE 42 (fE 42 (fE 42 (fE 42 (fE 42 (fE 42 (fE 42 (fE 42 (fE 42 (fE 42 (fE 42 (fE 42 (fE 42 (fE 42 (fE 42 (fE 42 (aB 79 3 42 (by decide) (fE 42 (fE 42 (fE 42 (trivial)))))))))))))))))))))))))))))))))))))))))))))))))))))))))))))))))))))))))))))))))))) [] (fun q hq=>by cases hq) (fun hY=>absurd (hY 42 (by decide)) (by decide))
 ·refine fJ [(13,_),(141,_)] 41 [none,some 40] fun G a w S=>?_
  exact sMove (.slice av aa.1.length aw) S (wG 27 true 141 y y y ao) (.inl y) y y (lb y) fun a S=>leafL ⟨y,S⟩
 ·refine fJ [(142,_),(143,_),(141,_)] 0 [some 41,some 12,some 40] fun G a w S=>?_
  have S1:=S.mem
  have S1:=S1.shutR (r:=(rI .i64)) (T:=3) (v:=.slice aX ar.length aZ) (xs:=ar) 0 y
  refine sCallQ (X:=Unit) (f:=17) (vs:=[.slice av aa.1.length aw,.slice aX ar.length aZ]) (val:=fun _=>.bool b4) S (wG 27 true 141 y y y ao) y callee17 y (S1.quiet [32,0] y) (fun E1 w1 S1=>c_raddleref02_Same E1 w1 aa.1 (.slice av aa.1.length aw) ar (.slice aX ar.length aZ) b4 c9 S1) y (lb y) fun _ a w S=>?_
  exact leafL ⟨y,S⟩
 ·refine fJ [(141,_),(144,_)] 1 [some 40,some 0] fun G a w S=>?_
  exact sPickT (.bool b4) S (wN y) y y ao y y (lb y) fun a S=>leafL ⟨y,S⟩
 ·exact fM 2 (some 1) y y y y (.inl y) y y y
 ·refine fJ [(17,_),(146,_)] 3 [none,some 2] fun G a w S=>?_
  exact sMove (iv ay.2) S (wG 32 true 146 y y y aM) (.inl y) y y (lb y) fun a S=>leafL ⟨y,S⟩
 ·refine fJ [(147,_),(146,_)] 4 [some 3,some 2] fun G a w S=>?_
  exact sBin _ S (wG 32 true 146 y y y aM) y y y (bEq _ _ _ _ .i64 ay.2 4) y (lb y) fun a S=>leafL ⟨y,S⟩
 ·refine fJ [(146,_),(148,_)] 5 [some 2,some 4] fun G a w S=>?_
  exact sPickT (.bool (ay.2 == 4)) S (wN y) y y aM y y (lb y) fun a S=>leafL ⟨y,S⟩
 ·exact fM 6 (some 5) y y y y (.inl y) y y y
 ·refine fJ [(19,_),(150,_)] 7 [none,some 6] fun G a w S=>?_
  exact sMove (iv ai.2) S (wG 36 true 150 y y y aO) (.inl y) y y (lb y) fun a S=>leafL ⟨y,S⟩
 ·refine fJ [(151,_),(150,_)] 8 [some 7,some 6] fun G a w S=>?_
  exact sBin _ S (wG 36 true 150 y y y aO) y y y (bEq _ _ _ _ .i64 ai.2 0) y (lb y) fun a S=>leafL ⟨y,S⟩
 ·refine fJ [(150,_),(152,_)] 9 [some 6,some 8] fun G a w S=>?_
  exact sPickT (.bool (ai.2 == 0)) S (wN y) y y aO y y (lb y) fun a S=>leafL ⟨y,S⟩
 ·exact fM 10 (some 9) y y y y (.inl y) y y y
 ·refine fJ [(18,_),(154,_)] 11 [none,some 10] fun G a w S=>?_
  exact sMove (.slice aA ai.1.length aC) S (wG 40 true 154 y y y ap) (.inl y) y y (lb y) fun a S=>leafL ⟨y,S⟩
 refine ⟨_,[(154,.bool (ai.2 == 0))],y,(srcs_of [some 10] y y y),fun G a w S=>?_⟩
 refine sLit (r:=(rI .i64)) (T:=3) (xs:=([1,0]:List Int)) [(0,iv 1),(1,iv 0)] 2 [iv 1,iv 0] [iv 1,iv 0] (iv 0) 8 S (wG 40 true 154 y y y ap) y y Try.underlying25 y (by decide) (by decide) (by kernel_rfl) y (fun E1 w1 hE=>All.cons y (All.cons y (All.nil _ _ _))) y y (lb y) fun a w b0 b1 S=>?_
 refine leafL ⟨y,_,_,.inl ⟨156,(.slice b0 ([1,0]:List Int).length b1),[(43,157,.bool b5),(44,158,.bool b5),(45,159,.bool b5),(46,160,iv a4.2.2),(47,161,.bool (a4.2.2 == 26)),(48,162,.bool (a4.2.2 == 26)),(49,163,.bool (a4.2.2 == 26)),(50,164,iv a3.2.2),(51,165,.bool (a3.2.2 == 8)),(52,166,.bool (a3.2.2 == 8)),(53,167,.bool (a3.2.2 == 8)),(54,168,iv ab.2),(55,169,.bool (ab.2 == 26)),(56,170,.bool (ab.2 == 26)),(57,171,.bool (ab.2 == 26)),(58,172,iv ac.2),(59,173,.bool (ac.2 == 8)),(60,174,.bool (ac.2 == 8)),(61,175,.bool (ac.2 == 8)),(62,176,iv a5.2),(63,177,.bool (a5.2 == 0)),(64,178,.bool (a5.2 == 0)),(65,179,.bool (a5.2 == 0)),(66,180,iv a5.1),(67,181,.bool (a5.1 == 1)),(68,182,.bool (a5.1 == 1)),(69,183,.bool (a5.1 == 1)),(70,184,iv a2.2.2),(71,185,.bool (a2.2.2 == 0)),(72,186,.bool (a2.2.2 == 0)),(73,187,.bool (a2.2.2 == 0)),(74,188,iv a2.2.1),(75,189,.bool (a2.2.1 == 0)),(76,190,.bool (a2.2.1 == 0)),(77,191,.bool (a2.2.1 == 0)),(78,192,.agg #[iv a2.1.W,iv a2.1.H,.slice a8 a2.1.Bits.length a9])],y,S,hz_of y,?_⟩⟩
 refine node_by (A:=anc_raddlelaw17_ReduceNames_0) 83 (by kernel_rfl) (by kernel_rfl) (by kernel_rfl) (by kernel_rfl) (by kernel_rfl) [43,44,45,46,47,48,49,50,51,52,53,54,55,56,57,58,59,60,61,62,63,64,65,66,67,68,69,70,71,72,73,74,75,76,77,78,42,30,31,32,33,34,35,36,37,38,39,40,41,29,0,1,2,3,4,5,6,7,8,9,10,11,12,13,14,15,16,17,18,19,20,21,22,23,24,25,26,27,28] (by kernel_rfl) (by decide) (by decide) (fD 42 (fD 42 (fD 42 (fD 42 (fD 42 (fD 42 (fD 42 (fD 42 (fD 42 (fD 42 (fD 42 (fD 42 (fD 42 (fD 42 (fD 42 (fD 42 (fD 42 (fD 42 (fD 42 (fD 42 (fD 42 (fD 42 (fD 42 (fD 42 (fD 42 (fD 42 (fD 42 (fD 42 (fD 42 (fY (fD 42 (fD 42 (fD 42 (fD 42 (fD 42 (fD 42 (fD 42 (fD 42 (fD 42 (fD 42 (fD 42 (fF ?_ (fY (fF ?_ (fF ?_ (fF ?_ (fF ?_ (fF ?_ (fF ?_ (fF ?_ (fF ?_ (fF ?_ (fF ?_ (fF ?_ (fF ?_ (fF ?_ (fF ?_ (fF ?_ (fF ?_ (fF ?_ (fF ?_ (fF ?_ (fF ?_ (fF ?_ (fF ?_ (fF ?_ (fF ?_ (fF ?_ (fF ?_ (fF ?_ (fF ?_ (fF ?_ (fF ?_ (fF ?_ (fF ?_ (fF ?_ (fF ?_ (fF ?_ (fF ?_ (fN ?_ (fE 79 (fE 79 (fE 79 (trivial)))))))))))))))))))))))))))))))))))))))))))))))))))))))))))))))))))))))))))))))))))) [] (fun q hq=>by cases hq) (fun hY=>absurd (hY 79 (by decide)) (by decide))
 ·refine fJ [(18,_),(154,_)] 48 [none,some 47] fun G a w S=>?_
  exact sMove (.slice aA ai.1.length aC) S (wG 40 true 154 y y y ap) (.inl y) y y (lb y) fun a S=>leafL ⟨y,S⟩
 ·refine fJ [(155,_),(156,_),(154,_)] 0 [some 48,some 36,some 47] fun G a w S=>?_
  have S1:=S.mem
  have S1:=S1.shutR (r:=(rI .i64)) (T:=3) (v:=.slice b0 ([1,0]:List Int).length b1) (xs:=([1,0]:List Int)) 0 y
  refine sCallQ (X:=Unit) (f:=17) (vs:=[.slice aA ai.1.length aC,.slice b0 ([1,0]:List Int).length b1]) (val:=fun _=>.bool b5) S (wG 40 true 154 y y y ap) y callee17 y (S1.quiet [26,0] y) (fun E1 w1 S1=>c_raddleref02_Same E1 w1 ai.1 (.slice aA ai.1.length aC) ([1,0]:List Int) (.slice b0 ([1,0]:List Int).length b1) b5 ca S1) y (lb y) fun _ a w S=>?_
  exact leafL ⟨y,S⟩
 ·refine fJ [(154,_),(157,_)] 1 [some 47,some 0] fun G a w S=>?_
  exact sPickT (.bool b5) S (wN y) y y ap y y (lb y) fun a S=>leafL ⟨y,S⟩
 ·exact fM 2 (some 1) y y y y (.inl y) y y y
 ·refine fJ [(22,_),(159,_)] 3 [none,some 2] fun G a w S=>?_
  exact sMove (iv a4.2.2) S (wG 45 true 159 y y y aP) (.inl y) y y (lb y) fun a S=>leafL ⟨y,S⟩
 ·refine fJ [(160,_),(159,_)] 4 [some 3,some 2] fun G a w S=>?_
  exact sBin _ S (wG 45 true 159 y y y aP) y y y (bEq _ _ _ _ .i64 a4.2.2 26) y (lb y) fun a S=>leafL ⟨y,S⟩
 ·refine fJ [(159,_),(161,_)] 5 [some 2,some 4] fun G a w S=>?_
  exact sPickT (.bool (a4.2.2 == 26)) S (wN y) y y aP y y (lb y) fun a S=>leafL ⟨y,S⟩
 ·exact fM 6 (some 5) y y y y (.inl y) y y y
 ·refine fJ [(25,_),(163,_)] 7 [none,some 6] fun G a w S=>?_
  exact sMove (iv a3.2.2) S (wG 49 true 163 y y y aQ) (.inl y) y y (lb y) fun a S=>leafL ⟨y,S⟩
 ·refine fJ [(164,_),(163,_)] 8 [some 7,some 6] fun G a w S=>?_
  exact sBin _ S (wG 49 true 163 y y y aQ) y y y (bEq _ _ _ _ .i64 a3.2.2 8) y (lb y) fun a S=>leafL ⟨y,S⟩
 ·refine fJ [(163,_),(165,_)] 9 [some 6,some 8] fun G a w S=>?_
  exact sPickT (.bool (a3.2.2 == 8)) S (wN y) y y aQ y y (lb y) fun a S=>leafL ⟨y,S⟩
 ·exact fM 10 (some 9) y y y y (.inl y) y y y
 ·refine fJ [(27,_),(167,_)] 11 [none,some 10] fun G a w S=>?_
  exact sMove (iv ab.2) S (wG 53 true 167 y y y aR) (.inl y) y y (lb y) fun a S=>leafL ⟨y,S⟩
 ·refine fJ [(168,_),(167,_)] 12 [some 11,some 10] fun G a w S=>?_
  exact sBin _ S (wG 53 true 167 y y y aR) y y y (bEq _ _ _ _ .i64 ab.2 26) y (lb y) fun a S=>leafL ⟨y,S⟩
 ·refine fJ [(167,_),(169,_)] 13 [some 10,some 12] fun G a w S=>?_
  exact sPickT (.bool (ab.2 == 26)) S (wN y) y y aR y y (lb y) fun a S=>leafL ⟨y,S⟩
 ·exact fM 14 (some 13) y y y y (.inl y) y y y
 ·refine fJ [(29,_),(171,_)] 15 [none,some 14] fun G a w S=>?_
  exact sMove (iv ac.2) S (wG 57 true 171 y y y aS) (.inl y) y y (lb y) fun a S=>leafL ⟨y,S⟩
 ·refine fJ [(172,_),(171,_)] 16 [some 15,some 14] fun G a w S=>?_
  exact sBin _ S (wG 57 true 171 y y y aS) y y y (bEq _ _ _ _ .i64 ac.2 8) y (lb y) fun a S=>leafL ⟨y,S⟩
 ·refine fJ [(171,_),(173,_)] 17 [some 14,some 16] fun G a w S=>?_
  exact sPickT (.bool (ac.2 == 8)) S (wN y) y y aS y y (lb y) fun a S=>leafL ⟨y,S⟩
 ·exact fM 18 (some 17) y y y y (.inl y) y y y
 ·refine fJ [(31,_),(175,_)] 19 [none,some 18] fun G a w S=>?_
  exact sMove (iv a5.2) S (wG 61 true 175 y y y aT) (.inl y) y y (lb y) fun a S=>leafL ⟨y,S⟩
 ·refine fJ [(176,_),(175,_)] 20 [some 19,some 18] fun G a w S=>?_
  exact sBin _ S (wG 61 true 175 y y y aT) y y y (bEq _ _ _ _ .i64 a5.2 0) y (lb y) fun a S=>leafL ⟨y,S⟩
 ·refine fJ [(175,_),(177,_)] 21 [some 18,some 20] fun G a w S=>?_
  exact sPickT (.bool (a5.2 == 0)) S (wN y) y y aT y y (lb y) fun a S=>leafL ⟨y,S⟩
 ·exact fM 22 (some 21) y y y y (.inl y) y y y
 ·refine fJ [(30,_),(179,_)] 23 [none,some 22] fun G a w S=>?_
  exact sMove (iv a5.1) S (wG 65 true 179 y y y aU) (.inl y) y y (lb y) fun a S=>leafL ⟨y,S⟩
 ·refine fJ [(180,_),(179,_)] 24 [some 23,some 22] fun G a w S=>?_
  exact sBin _ S (wG 65 true 179 y y y aU) y y y (bEq _ _ _ _ .i64 a5.1 1) y (lb y) fun a S=>leafL ⟨y,S⟩
 ·refine fJ [(179,_),(181,_)] 25 [some 22,some 24] fun G a w S=>?_
  exact sPickT (.bool (a5.1 == 1)) S (wN y) y y aU y y (lb y) fun a S=>leafL ⟨y,S⟩
 ·exact fM 26 (some 25) y y y y (.inl y) y y y
 ·refine fJ [(34,_),(183,_)] 27 [none,some 26] fun G a w S=>?_
  exact sMove (iv a2.2.2) S (wG 69 true 183 y y y aV) (.inl y) y y (lb y) fun a S=>leafL ⟨y,S⟩
 ·refine fJ [(184,_),(183,_)] 28 [some 27,some 26] fun G a w S=>?_
  exact sBin _ S (wG 69 true 183 y y y aV) y y y (bEq _ _ _ _ .i64 a2.2.2 0) y (lb y) fun a S=>leafL ⟨y,S⟩
 ·refine fJ [(183,_),(185,_)] 29 [some 26,some 28] fun G a w S=>?_
  exact sPickT (.bool (a2.2.2 == 0)) S (wN y) y y aV y y (lb y) fun a S=>leafL ⟨y,S⟩
 ·exact fM 30 (some 29) y y y y (.inl y) y y y
 ·refine fJ [(33,_),(187,_)] 31 [none,some 30] fun G a w S=>?_
  exact sMove (iv a2.2.1) S (wG 73 true 187 y y y aW) (.inl y) y y (lb y) fun a S=>leafL ⟨y,S⟩
 ·refine fJ [(188,_),(187,_)] 32 [some 31,some 30] fun G a w S=>?_
  exact sBin _ S (wG 73 true 187 y y y aW) y y y (bEq _ _ _ _ .i64 a2.2.1 0) y (lb y) fun a S=>leafL ⟨y,S⟩
 ·refine fJ [(187,_),(189,_)] 33 [some 30,some 32] fun G a w S=>?_
  exact sPickT (.bool (a2.2.1 == 0)) S (wN y) y y aW y y (lb y) fun a S=>leafL ⟨y,S⟩
 ·exact fM 34 (some 33) y y y y (.inl y) y y y
 ·refine fJ [(32,_),(191,_)] 35 [none,some 34] fun G a w S=>?_
  exact sLoadN (p:=bw) (off:=0) (T:=24) (vs:=[iv a2.1.W,iv a2.1.H,.slice a8 a2.1.Bits.length a9]) 2 [iv a2.1.W,iv a2.1.H,.slice a8 a2.1.Bits.length a9] S (wG 77 true 191 y y y aq) y y y y y y y (lb y) fun a S=>leafL ⟨y,S⟩
 refine ⟨_,[(191,.bool (a2.2.1 == 0))],y,(srcs_of [some 34] y y y),fun G a w S=>?_⟩
 refine sCall (X:=Value) (f:=33) (vs:=[]) (val:=c_raddlelaw17_two_val a0) (B':=fun _=>[]) (D':=c_raddlelaw17_two_D a0) [] [eRow (rI .i64) 3 (.slice b0 ([1,0]:List Int).length b1) ([1,0]:List Int),eRow (rI .i64) 3 (.slice aX ar.length aZ) ar,eBox bw 24 [iv a2.1.W,iv a2.1.H,.slice a8 a2.1.Bits.length a9],eBox ax 24 [iv a3.1.W,iv a3.1.H,.slice a6 a3.1.Bits.length a7],eBox bg 24 [iv a4.1.W,iv a4.1.H,.slice ae a4.1.Bits.length af]] [] [0,1,2,3,4] [] S (wG 77 true 191 y y y aq) y callee33 y (by decide) y y (fun E1 w1 S1=>c_raddlelaw17_two E1 w1  a0 am S1) y (lb y) fun dk a w S=>?_
 obtain ⟨dl,rfl,cd⟩:=S.mem.know (i:=0) (e:=fRep r_api_Grid (dk) a0) y
 have S:=S.learn (fRep (rL rB) dl a0.Bits) cd
 obtain ⟨bl,bm,_,rfl,_⟩:=cd
 refine leafL ⟨y,_,_,.inl ⟨193,(.agg #[iv a0.W,iv a0.H,.slice bl a0.Bits.length bm]),[(80,194,.bool au),(81,195,.bool au),(82,0,.bool au)],y,S,hz_of y,?_⟩⟩
 refine node_by (A:=anc_raddlelaw17_ReduceNames_0) 83 (by kernel_rfl) (by kernel_rfl) (by kernel_rfl) (by kernel_rfl) (by kernel_rfl) [80,81,82,79,43,44,45,46,47,48,49,50,51,52,53,54,55,56,57,58,59,60,61,62,63,64,65,66,67,68,69,70,71,72,73,74,75,76,77,78,42,30,31,32,33,34,35,36,37,38,39,40,41,29,0,1,2,3,4,5,6,7,8,9,10,11,12,13,14,15,16,17,18,19,20,21,22,23,24,25,26,27,28] (by kernel_rfl) (by decide) (by decide) (fD 79 (fD 79 (fD 79 (fD 79 (fD 79 (fD 79 (fD 79 (fD 79 (fD 79 (fD 79 (fD 79 (fD 79 (fD 79 (fD 79 (fD 79 (fD 79 (fD 79 (fD 79 (fD 79 (fD 79 (fD 79 (fD 79 (fD 79 (fD 79 (fD 79 (fD 79 (fD 79 (fD 79 (fD 79 (fY (fD 79 (fD 79 (fD 79 (fD 79 (fD 79 (fD 79 (fD 79 (fD 79 (fD 79 (fD 79 (fD 79 (fD 79 (fY (fD 79 (fD 79 (fD 79 (fD 79 (fD 79 (fD 79 (fD 79 (fD 79 (fD 79 (fD 79 (fD 79 (fD 79 (fD 79 (fD 79 (fD 79 (fD 79 (fD 79 (fD 79 (fD 79 (fD 79 (fD 79 (fD 79 (fD 79 (fD 79 (fD 79 (fD 79 (fD 79 (fD 79 (fD 79 (fD 79 (fD 79 (fD 79 (fD 79 (fD 79 (fD 79 (fF ?_ (fY (fF ?_ (fF ?_ (fF ?_ (trivial)))))))))))))))))))))))))))))))))))))))))))))))))))))))))))))))))))))))))))))))))))) [(0,.bool au)] (fin_of [some 2] y (by kernel_rfl) (by kernel_rfl)) (fun _ a w S=>?_)
 ·refine fJ [(32,_),(191,_)] 39 [none,some 38] fun G a w S=>?_
  exact sLoadN (p:=bw) (off:=0) (T:=24) (vs:=[iv a2.1.W,iv a2.1.H,.slice a8 a2.1.Bits.length a9]) 2 [iv a2.1.W,iv a2.1.H,.slice a8 a2.1.Bits.length a9] S (wG 77 true 191 y y y aq) y y y y y y y (lb y) fun a S=>leafL ⟨y,S⟩
 ·refine fJ [(192,_),(193,_),(191,_)] 0 [some 39,some 3,some 38] fun G a w S=>?_
  have S1:=S.mem
  refine sCallQ (X:=Unit) (f:=16) (vs:=[.agg #[iv a2.1.W,iv a2.1.H,.slice a8 a2.1.Bits.length a9],.agg #[iv a0.W,iv a0.H,.slice bl a0.Bits.length bm]]) (val:=fun _=>.bool au) S (wG 77 true 191 y y y aq) y callee16 y (S1.quiet [3,1] y) (fun E1 w1 S1=>c_raddleref01_Same E1 w1 a2.1 (.agg #[iv a2.1.W,iv a2.1.H,.slice a8 a2.1.Bits.length a9]) a0 (.agg #[iv a0.W,iv a0.H,.slice bl a0.Bits.length bm]) au cc S1) y (lb y) fun _ a w S=>?_
  exact leafL ⟨y,S⟩
 ·refine fJ [(191,_),(194,_)] 1 [some 38,some 0] fun G a w S=>?_
  exact sPickT (.bool au) S (wN y) y y aq y y (lb y) fun a S=>leafL ⟨y,S⟩
 ·exact fM 2 (some 1) y y y y (.inr y) y y y
 refine leafT (cS _ _ ?_)
 obtain rfl:=tS h
 exact wp_ret (sRet (.bool au) S (rsl1 y (rvT (t:=0) (v:=.bool au) S y)) ⟨(),y,S.mem.sel [] [] (by decide) y y⟩)
theorem law_ReduceNames:F_raddlelaw17_ReduceNames=some true:=by
 have hm:makeO 8 (0:Int)=some [0,0,0,0,0,0,0,0]:=makeO_of (k:=8) (by decide) (by decide)
 have s3:F_raddleref01_Same (api_Grid.mk 2 1 [true,false]) (api_Grid.mk 2 1 [true,false])=some true:=nmS3
 unfold F_raddlelaw17_ReduceNames
 simp only [kcN_r3,kcN_r9,kcN_r16,kcN_r22,kcN_r29,kcN_r40,kcN_r46,kcN_r53,kcN_r64,kcN_r75,kcN_r88,kcN_r104,kcN_r118,kcN_r125,kcN_r133,kcN_r141,kcN_r148,kcN_r158,kcN_r169,Option.bind_some,hm,nmS1,nmS2,s3]
 rfl
namespace frameReduceNames
open Go.ChangeShapes Go.WideShapes Go.ChangeAt Go.Joins
theorem own:ownKnob Try.prog.godebug=none:=by kernel_rfl
theorem laidOut:laidOutB Try.prog=true:=by kernel_rfl
theorem lifted (os:Os) (started:os.Started) (H:Type) (enc:TypeId × Value→H) :
 ReturnsInHanded {} Try.checked os 8 .any (Rows.reduceNamesSpec.pre6 enc Try.prog Try.f8 Rows.reduceNamesRow.domain false) (Rows.reduceNamesSpec.post enc Try.prog Try.f8 false true false false):=by
 refine returnsInHanded_of_change (C:=Try.checked) own started (by kernel_rfl) Try.func8
  (ChangeSpec.witness6 (enc:=enc) (C:=Try.checked) false ⟨#[],#[],[]⟩ 8 (by kernel_rfl) (by kernel_rfl) (by kernel_rfl) (by kernel_rfl)) ?_
 intro W base args ds gs before hval0 hW hcnd _
 have hval:∀ (j:Nat) t v,Try.f8.params[j]?=some t→args[j]?=some v→Value.okWide Try.prog W .any base t v:=hval0
 have hW':=hW
 obtain ⟨p,q,hA0,hV,rfl,hfz,hnd⟩:=hW
 have hA:DataW.TrodAll enc Try.prog W 0 (fun _=>true) true Try.f8.params.toList args.toList ds p:=hA0
 rw [Try.params8] at hA hval
 obtain ⟨rfl,rfl,rfl⟩:=trodAll_none hA
 obtain ⟨rfl,rfl⟩:=trodVars_none hV
 clear hA0 hval0
 refine (c_raddlelaw17_ReduceNames (fun _=>False) W  true (law_ReduceNames  ) (St0.start (by intro d hd; cases hd))).mono fun e W' hr=>?_
 obtain ⟨_,he,hS⟩:=hr
 have bel:=hS.chg.below
 subst he
 exact ⟨_,rfl,_,_,_,[],_,[],hW',trodAll_mk1 (shut_bool Try.underlying4 _),trodAll_mk0,rfl,bel.frame _,fun h=>by cases h⟩
theorem over:Rows.reduceNamesRow.holds Try.pinned (OpenSpec.ofChange Rows.reduceNamesSpec):=
 OpenClaim.holds_of_wide 8 Try.f8 rfl rfl rfl rfl rfl rfl rfl ⟨rfl,rfl,rfl,rfl,rfl⟩ rfl rfl rfl rfl rfl (by kernel_rfl) Try.func8 (by kernel_rfl)
  (of_decide_eq_true (by kernel_rfl)) (by unfold Func.isWrapper; first | (rw [if_pos (by decide +kernel)]; kernel_rfl) | (rw [if_neg (by decide +kernel)]; exact ⟨rfl,rfl⟩))
  (fun os started H enc _=>lifted os started H enc)
end frameReduceNames
theorem reduceNames_holds:Rows.ReduceNamesSaid:=frameReduceNames.over
end Go.Proofs.Ytapohhkdpkapoaa
