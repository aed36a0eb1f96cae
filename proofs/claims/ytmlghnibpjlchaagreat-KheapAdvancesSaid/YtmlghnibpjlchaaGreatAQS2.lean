/- Plain functions for what the functions of the seat compute. Printed by a program. -/
import Derived.Test.YtmlghnibpjlchaaGreatAVm3
import Derived.Test.YtmlghnibpjlchaaGreatAQXT
import Derived.Test.YtmlghnibpjlchaaGreatAQS1
set_option maxRecDepth 100000
namespace Go.Proofs.YtmlghnibpjlchaaGreat
open Go.Vm
noncomputable section
def cD (s:(Int×Int×Int×(List (Int×Int×Int))×Int×(List (Int×Int×Int))×(List Int)×(List Bool)×(List Int)×(List (Int×Int×Int×Int×Int))×(List Int)×(List (Int×Int×Int))×(List (Int×Int×Int))×Int×Int×Int×Int×Int×(List (Int×Int×Int))×Int×(List (Int×Int×Int))×(List Int)×(List Bool)×(List Int)×(List (Int×Int×Int×Int×Int))×(List Int)×(List (Int×Int×Int)))):Option (bQ (Int×Int×Int×(List (Int×Int×Int))×Int×(List (Int×Int×Int))×(List Int)×(List Bool)×(List Int)×(List (Int×Int×Int×Int×Int))×(List Int)×(List (Int×Int×Int))×(List (Int×Int×Int))×Int×Int×Int×Int×Int×(List (Int×Int×Int))×Int×(List (Int×Int×Int))×(List Int)×(List Bool)×(List Int)×(List (Int×Int×Int×Int×Int))×(List Int)×(List (Int×Int×Int))) (aI×Int)):=
 bif decide (s.1<(Int.ofNat s.2.2.2.2.2.1.length)) then
  (aN s.2.2.2.2.2.1 s.1).bind fun a0=>
  (oG (aI.mk (s.2.1,s.2.2.1) (Field.mk s.2.2.2.1) (aW.mk s.2.2.2.2.1 s.2.2.2.2.2.1) (aG.mk (aS.mk s.2.2.2.2.2.2.1 s.2.2.2.2.2.2.2.1 s.2.2.2.2.2.2.2.2.1) s.2.2.2.2.2.2.2.2.2.1 s.2.2.2.2.2.2.2.2.2.2.1) s.2.2.2.2.2.2.2.2.2.2.2.1) a0.1).bind fun n1=>
  (qL (Field.mk s.2.2.2.2.2.2.2.2.2.2.2.2.1) a0.2 (s.2.1,s.2.2.1)).bind fun a2=>
  bif a2.2 then
   bif decide (0<=n1) then
    (aN s.2.2.2.2.2.2.2.2.2.2.2.1 n1).bind fun a3=>
    (rF (aG.mk (aS.mk s.2.2.2.2.2.2.2.2.2.2.2.2.2.2.2.2.2.2.2.2.2.1 s.2.2.2.2.2.2.2.2.2.2.2.2.2.2.2.2.2.2.2.2.2.2.1 s.2.2.2.2.2.2.2.2.2.2.2.2.2.2.2.2.2.2.2.2.2.2.2.1) s.2.2.2.2.2.2.2.2.2.2.2.2.2.2.2.2.2.2.2.2.2.2.2.2.1 s.2.2.2.2.2.2.2.2.2.2.2.2.2.2.2.2.2.2.2.2.2.2.2.2.2.1) a3.2 a2.1).bind fun r4=>
    (aN s.2.2.2.2.2.2.2.2.2.2.2.1 n1).bind fun a5=>
    (bT s.2.2.2.2.2.2.2.2.2.2.2.2.2.2.2.2.2.2.2.2.2.2.2.2.2.2 [a5]).bind fun l6=>
    bif !a2.2 then
     bif decide (0<=n1) then
      (aN s.2.2.2.2.2.2.2.2.2.2.2.1 n1).bind fun a7=>
      (jF r4 a7.2).bind fun r8=>
      bif !a2.2 then
       some (.next (aA .i64 (s.1+1),s.2.1,s.2.2.1,s.2.2.2.1,s.2.2.2.2.1,s.2.2.2.2.2.1,s.2.2.2.2.2.2.1,s.2.2.2.2.2.2.2.1,s.2.2.2.2.2.2.2.2.1,s.2.2.2.2.2.2.2.2.2.1,s.2.2.2.2.2.2.2.2.2.2.1,s.2.2.2.2.2.2.2.2.2.2.2.1,s.2.2.2.2.2.2.2.2.2.2.2.2.1,s.2.2.2.2.2.2.2.2.2.2.2.2.2.1,s.2.2.2.2.2.2.2.2.2.2.2.2.2.2.1,s.2.2.2.2.2.2.2.2.2.2.2.2.2.2.2.1,s.2.2.2.2.2.2.2.2.2.2.2.2.2.2.2.2.1,s.2.2.2.2.2.2.2.2.2.2.2.2.2.2.2.2.2.1,s.2.2.2.2.2.2.2.2.2.2.2.2.2.2.2.2.2.2.1,s.2.2.2.2.2.2.2.2.2.2.2.2.2.2.2.2.2.2.2.1,s.2.2.2.2.2.2.2.2.2.2.2.2.2.2.2.2.2.2.2.2.1,r8.slots.uses,r8.slots.used,r8.slots.free,r8.heap,r8.where_,l6))
      else
       bif decide (0<=n1) then
        some (.next (aA .i64 (s.1+1),s.2.1,s.2.2.1,s.2.2.2.1,s.2.2.2.2.1,s.2.2.2.2.2.1,s.2.2.2.2.2.2.1,s.2.2.2.2.2.2.2.1,s.2.2.2.2.2.2.2.2.1,s.2.2.2.2.2.2.2.2.2.1,s.2.2.2.2.2.2.2.2.2.2.1,s.2.2.2.2.2.2.2.2.2.2.2.1,s.2.2.2.2.2.2.2.2.2.2.2.2.1,s.2.2.2.2.2.2.2.2.2.2.2.2.2.1,s.2.2.2.2.2.2.2.2.2.2.2.2.2.2.1,s.2.2.2.2.2.2.2.2.2.2.2.2.2.2.2.1,s.2.2.2.2.2.2.2.2.2.2.2.2.2.2.2.2.1,s.2.2.2.2.2.2.2.2.2.2.2.2.2.2.2.2.2.1,s.2.2.2.2.2.2.2.2.2.2.2.2.2.2.2.2.2.2.1,s.2.2.2.2.2.2.2.2.2.2.2.2.2.2.2.2.2.2.2.1,s.2.2.2.2.2.2.2.2.2.2.2.2.2.2.2.2.2.2.2.2.1,r8.slots.uses,r8.slots.used,r8.slots.free,r8.heap,r8.where_,l6))
       else
        (fT r8.slots).bind fun b9=>
        bif !b9 then
         some (.done (aI.mk (0,0) (Field.mk []) (aW.mk 0 []) (aG.mk (aS.mk [] [] []) [] []) [],18))
        else
         (dX r8 a2.1 a0.1).bind fun a10=>
         (bT l6 [(a0.1,a10.2)]).bind fun l11=>
         some (.next (aA .i64 (s.1+1),s.2.1,s.2.2.1,s.2.2.2.1,s.2.2.2.2.1,s.2.2.2.2.2.1,s.2.2.2.2.2.2.1,s.2.2.2.2.2.2.2.1,s.2.2.2.2.2.2.2.2.1,s.2.2.2.2.2.2.2.2.2.1,s.2.2.2.2.2.2.2.2.2.2.1,s.2.2.2.2.2.2.2.2.2.2.2.1,s.2.2.2.2.2.2.2.2.2.2.2.2.1,s.2.2.2.2.2.2.2.2.2.2.2.2.2.1,s.2.2.2.2.2.2.2.2.2.2.2.2.2.2.1,s.2.2.2.2.2.2.2.2.2.2.2.2.2.2.2.1,s.2.2.2.2.2.2.2.2.2.2.2.2.2.2.2.2.1,s.2.2.2.2.2.2.2.2.2.2.2.2.2.2.2.2.2.1,s.2.2.2.2.2.2.2.2.2.2.2.2.2.2.2.2.2.2.1,s.2.2.2.2.2.2.2.2.2.2.2.2.2.2.2.2.2.2.2.1,s.2.2.2.2.2.2.2.2.2.2.2.2.2.2.2.2.2.2.2.2.1,a10.1.slots.uses,a10.1.slots.used,a10.1.slots.free,a10.1.heap,a10.1.where_,l11))
     else
      bif !a2.2 then
       some (.next (aA .i64 (s.1+1),s.2.1,s.2.2.1,s.2.2.2.1,s.2.2.2.2.1,s.2.2.2.2.2.1,s.2.2.2.2.2.2.1,s.2.2.2.2.2.2.2.1,s.2.2.2.2.2.2.2.2.1,s.2.2.2.2.2.2.2.2.2.1,s.2.2.2.2.2.2.2.2.2.2.1,s.2.2.2.2.2.2.2.2.2.2.2.1,s.2.2.2.2.2.2.2.2.2.2.2.2.1,s.2.2.2.2.2.2.2.2.2.2.2.2.2.1,s.2.2.2.2.2.2.2.2.2.2.2.2.2.2.1,s.2.2.2.2.2.2.2.2.2.2.2.2.2.2.2.1,s.2.2.2.2.2.2.2.2.2.2.2.2.2.2.2.2.1,s.2.2.2.2.2.2.2.2.2.2.2.2.2.2.2.2.2.1,s.2.2.2.2.2.2.2.2.2.2.2.2.2.2.2.2.2.2.1,s.2.2.2.2.2.2.2.2.2.2.2.2.2.2.2.2.2.2.2.1,s.2.2.2.2.2.2.2.2.2.2.2.2.2.2.2.2.2.2.2.2.1,r4.slots.uses,r4.slots.used,r4.slots.free,r4.heap,r4.where_,l6))
      else
       bif decide (0<=n1) then
        some (.next (aA .i64 (s.1+1),s.2.1,s.2.2.1,s.2.2.2.1,s.2.2.2.2.1,s.2.2.2.2.2.1,s.2.2.2.2.2.2.1,s.2.2.2.2.2.2.2.1,s.2.2.2.2.2.2.2.2.1,s.2.2.2.2.2.2.2.2.2.1,s.2.2.2.2.2.2.2.2.2.2.1,s.2.2.2.2.2.2.2.2.2.2.2.1,s.2.2.2.2.2.2.2.2.2.2.2.2.1,s.2.2.2.2.2.2.2.2.2.2.2.2.2.1,s.2.2.2.2.2.2.2.2.2.2.2.2.2.2.1,s.2.2.2.2.2.2.2.2.2.2.2.2.2.2.2.1,s.2.2.2.2.2.2.2.2.2.2.2.2.2.2.2.2.1,s.2.2.2.2.2.2.2.2.2.2.2.2.2.2.2.2.2.1,s.2.2.2.2.2.2.2.2.2.2.2.2.2.2.2.2.2.2.1,s.2.2.2.2.2.2.2.2.2.2.2.2.2.2.2.2.2.2.2.1,s.2.2.2.2.2.2.2.2.2.2.2.2.2.2.2.2.2.2.2.2.1,r4.slots.uses,r4.slots.used,r4.slots.free,r4.heap,r4.where_,l6))
       else
        (fT r4.slots).bind fun b12=>
        bif !b12 then
         some (.done (aI.mk (0,0) (Field.mk []) (aW.mk 0 []) (aG.mk (aS.mk [] [] []) [] []) [],18))
        else
         (dX r4 a2.1 a0.1).bind fun a13=>
         (bT l6 [(a0.1,a13.2)]).bind fun l14=>
         some (.next (aA .i64 (s.1+1),s.2.1,s.2.2.1,s.2.2.2.1,s.2.2.2.2.1,s.2.2.2.2.2.1,s.2.2.2.2.2.2.1,s.2.2.2.2.2.2.2.1,s.2.2.2.2.2.2.2.2.1,s.2.2.2.2.2.2.2.2.2.1,s.2.2.2.2.2.2.2.2.2.2.1,s.2.2.2.2.2.2.2.2.2.2.2.1,s.2.2.2.2.2.2.2.2.2.2.2.2.1,s.2.2.2.2.2.2.2.2.2.2.2.2.2.1,s.2.2.2.2.2.2.2.2.2.2.2.2.2.2.1,s.2.2.2.2.2.2.2.2.2.2.2.2.2.2.2.1,s.2.2.2.2.2.2.2.2.2.2.2.2.2.2.2.2.1,s.2.2.2.2.2.2.2.2.2.2.2.2.2.2.2.2.2.1,s.2.2.2.2.2.2.2.2.2.2.2.2.2.2.2.2.2.2.1,s.2.2.2.2.2.2.2.2.2.2.2.2.2.2.2.2.2.2.2.1,s.2.2.2.2.2.2.2.2.2.2.2.2.2.2.2.2.2.2.2.2.1,a13.1.slots.uses,a13.1.slots.used,a13.1.slots.free,a13.1.heap,a13.1.where_,l14))
    else
     bif !a2.2 then
      some (.next (aA .i64 (s.1+1),s.2.1,s.2.2.1,s.2.2.2.1,s.2.2.2.2.1,s.2.2.2.2.2.1,s.2.2.2.2.2.2.1,s.2.2.2.2.2.2.2.1,s.2.2.2.2.2.2.2.2.1,s.2.2.2.2.2.2.2.2.2.1,s.2.2.2.2.2.2.2.2.2.2.1,s.2.2.2.2.2.2.2.2.2.2.2.1,s.2.2.2.2.2.2.2.2.2.2.2.2.1,s.2.2.2.2.2.2.2.2.2.2.2.2.2.1,s.2.2.2.2.2.2.2.2.2.2.2.2.2.2.1,s.2.2.2.2.2.2.2.2.2.2.2.2.2.2.2.1,s.2.2.2.2.2.2.2.2.2.2.2.2.2.2.2.2.1,s.2.2.2.2.2.2.2.2.2.2.2.2.2.2.2.2.2.1,s.2.2.2.2.2.2.2.2.2.2.2.2.2.2.2.2.2.2.1,s.2.2.2.2.2.2.2.2.2.2.2.2.2.2.2.2.2.2.2.1,s.2.2.2.2.2.2.2.2.2.2.2.2.2.2.2.2.2.2.2.2.1,r4.slots.uses,r4.slots.used,r4.slots.free,r4.heap,r4.where_,l6))
     else
      bif decide (0<=n1) then
       some (.next (aA .i64 (s.1+1),s.2.1,s.2.2.1,s.2.2.2.1,s.2.2.2.2.1,s.2.2.2.2.2.1,s.2.2.2.2.2.2.1,s.2.2.2.2.2.2.2.1,s.2.2.2.2.2.2.2.2.1,s.2.2.2.2.2.2.2.2.2.1,s.2.2.2.2.2.2.2.2.2.2.1,s.2.2.2.2.2.2.2.2.2.2.2.1,s.2.2.2.2.2.2.2.2.2.2.2.2.1,s.2.2.2.2.2.2.2.2.2.2.2.2.2.1,s.2.2.2.2.2.2.2.2.2.2.2.2.2.2.1,s.2.2.2.2.2.2.2.2.2.2.2.2.2.2.2.1,s.2.2.2.2.2.2.2.2.2.2.2.2.2.2.2.2.1,s.2.2.2.2.2.2.2.2.2.2.2.2.2.2.2.2.2.1,s.2.2.2.2.2.2.2.2.2.2.2.2.2.2.2.2.2.2.1,s.2.2.2.2.2.2.2.2.2.2.2.2.2.2.2.2.2.2.2.1,s.2.2.2.2.2.2.2.2.2.2.2.2.2.2.2.2.2.2.2.2.1,r4.slots.uses,r4.slots.used,r4.slots.free,r4.heap,r4.where_,l6))
      else
       (fT r4.slots).bind fun b15=>
       bif !b15 then
        some (.done (aI.mk (0,0) (Field.mk []) (aW.mk 0 []) (aG.mk (aS.mk [] [] []) [] []) [],18))
       else
        (dX r4 a2.1 a0.1).bind fun a16=>
        (bT l6 [(a0.1,a16.2)]).bind fun l17=>
        some (.next (aA .i64 (s.1+1),s.2.1,s.2.2.1,s.2.2.2.1,s.2.2.2.2.1,s.2.2.2.2.2.1,s.2.2.2.2.2.2.1,s.2.2.2.2.2.2.2.1,s.2.2.2.2.2.2.2.2.1,s.2.2.2.2.2.2.2.2.2.1,s.2.2.2.2.2.2.2.2.2.2.1,s.2.2.2.2.2.2.2.2.2.2.2.1,s.2.2.2.2.2.2.2.2.2.2.2.2.1,s.2.2.2.2.2.2.2.2.2.2.2.2.2.1,s.2.2.2.2.2.2.2.2.2.2.2.2.2.2.1,s.2.2.2.2.2.2.2.2.2.2.2.2.2.2.2.1,s.2.2.2.2.2.2.2.2.2.2.2.2.2.2.2.2.1,s.2.2.2.2.2.2.2.2.2.2.2.2.2.2.2.2.2.1,s.2.2.2.2.2.2.2.2.2.2.2.2.2.2.2.2.2.2.1,s.2.2.2.2.2.2.2.2.2.2.2.2.2.2.2.2.2.2.2.1,s.2.2.2.2.2.2.2.2.2.2.2.2.2.2.2.2.2.2.2.2.1,a16.1.slots.uses,a16.1.slots.used,a16.1.slots.free,a16.1.heap,a16.1.where_,l17))
   else
    bif !a2.2 then
     bif decide (0<=n1) then
      (aN s.2.2.2.2.2.2.2.2.2.2.2.1 n1).bind fun a18=>
      (jF (aG.mk (aS.mk s.2.2.2.2.2.2.2.2.2.2.2.2.2.2.2.2.2.2.2.2.2.1 s.2.2.2.2.2.2.2.2.2.2.2.2.2.2.2.2.2.2.2.2.2.2.1 s.2.2.2.2.2.2.2.2.2.2.2.2.2.2.2.2.2.2.2.2.2.2.2.1) s.2.2.2.2.2.2.2.2.2.2.2.2.2.2.2.2.2.2.2.2.2.2.2.2.1 s.2.2.2.2.2.2.2.2.2.2.2.2.2.2.2.2.2.2.2.2.2.2.2.2.2.1) a18.2).bind fun r19=>
      bif !a2.2 then
       some (.next (aA .i64 (s.1+1),s.2.1,s.2.2.1,s.2.2.2.1,s.2.2.2.2.1,s.2.2.2.2.2.1,s.2.2.2.2.2.2.1,s.2.2.2.2.2.2.2.1,s.2.2.2.2.2.2.2.2.1,s.2.2.2.2.2.2.2.2.2.1,s.2.2.2.2.2.2.2.2.2.2.1,s.2.2.2.2.2.2.2.2.2.2.2.1,s.2.2.2.2.2.2.2.2.2.2.2.2.1,s.2.2.2.2.2.2.2.2.2.2.2.2.2.1,s.2.2.2.2.2.2.2.2.2.2.2.2.2.2.1,s.2.2.2.2.2.2.2.2.2.2.2.2.2.2.2.1,s.2.2.2.2.2.2.2.2.2.2.2.2.2.2.2.2.1,s.2.2.2.2.2.2.2.2.2.2.2.2.2.2.2.2.2.1,s.2.2.2.2.2.2.2.2.2.2.2.2.2.2.2.2.2.2.1,s.2.2.2.2.2.2.2.2.2.2.2.2.2.2.2.2.2.2.2.1,s.2.2.2.2.2.2.2.2.2.2.2.2.2.2.2.2.2.2.2.2.1,r19.slots.uses,r19.slots.used,r19.slots.free,r19.heap,r19.where_,s.2.2.2.2.2.2.2.2.2.2.2.2.2.2.2.2.2.2.2.2.2.2.2.2.2.2))
      else
       bif decide (0<=n1) then
        some (.next (aA .i64 (s.1+1),s.2.1,s.2.2.1,s.2.2.2.1,s.2.2.2.2.1,s.2.2.2.2.2.1,s.2.2.2.2.2.2.1,s.2.2.2.2.2.2.2.1,s.2.2.2.2.2.2.2.2.1,s.2.2.2.2.2.2.2.2.2.1,s.2.2.2.2.2.2.2.2.2.2.1,s.2.2.2.2.2.2.2.2.2.2.2.1,s.2.2.2.2.2.2.2.2.2.2.2.2.1,s.2.2.2.2.2.2.2.2.2.2.2.2.2.1,s.2.2.2.2.2.2.2.2.2.2.2.2.2.2.1,s.2.2.2.2.2.2.2.2.2.2.2.2.2.2.2.1,s.2.2.2.2.2.2.2.2.2.2.2.2.2.2.2.2.1,s.2.2.2.2.2.2.2.2.2.2.2.2.2.2.2.2.2.1,s.2.2.2.2.2.2.2.2.2.2.2.2.2.2.2.2.2.2.1,s.2.2.2.2.2.2.2.2.2.2.2.2.2.2.2.2.2.2.2.1,s.2.2.2.2.2.2.2.2.2.2.2.2.2.2.2.2.2.2.2.2.1,r19.slots.uses,r19.slots.used,r19.slots.free,r19.heap,r19.where_,s.2.2.2.2.2.2.2.2.2.2.2.2.2.2.2.2.2.2.2.2.2.2.2.2.2.2))
       else
        (fT r19.slots).bind fun b20=>
        bif !b20 then
         some (.done (aI.mk (0,0) (Field.mk []) (aW.mk 0 []) (aG.mk (aS.mk [] [] []) [] []) [],18))
        else
         (dX r19 a2.1 a0.1).bind fun a21=>
         (bT s.2.2.2.2.2.2.2.2.2.2.2.2.2.2.2.2.2.2.2.2.2.2.2.2.2.2 [(a0.1,a21.2)]).bind fun l22=>
         some (.next (aA .i64 (s.1+1),s.2.1,s.2.2.1,s.2.2.2.1,s.2.2.2.2.1,s.2.2.2.2.2.1,s.2.2.2.2.2.2.1,s.2.2.2.2.2.2.2.1,s.2.2.2.2.2.2.2.2.1,s.2.2.2.2.2.2.2.2.2.1,s.2.2.2.2.2.2.2.2.2.2.1,s.2.2.2.2.2.2.2.2.2.2.2.1,s.2.2.2.2.2.2.2.2.2.2.2.2.1,s.2.2.2.2.2.2.2.2.2.2.2.2.2.1,s.2.2.2.2.2.2.2.2.2.2.2.2.2.2.1,s.2.2.2.2.2.2.2.2.2.2.2.2.2.2.2.1,s.2.2.2.2.2.2.2.2.2.2.2.2.2.2.2.2.1,s.2.2.2.2.2.2.2.2.2.2.2.2.2.2.2.2.2.1,s.2.2.2.2.2.2.2.2.2.2.2.2.2.2.2.2.2.2.1,s.2.2.2.2.2.2.2.2.2.2.2.2.2.2.2.2.2.2.2.1,s.2.2.2.2.2.2.2.2.2.2.2.2.2.2.2.2.2.2.2.2.1,a21.1.slots.uses,a21.1.slots.used,a21.1.slots.free,a21.1.heap,a21.1.where_,l22))
     else
      bif !a2.2 then
       some (.next (aA .i64 (s.1+1),s.2))
      else
       bif decide (0<=n1) then
        some (.next (aA .i64 (s.1+1),s.2))
       else
        (fT (aS.mk s.2.2.2.2.2.2.2.2.2.2.2.2.2.2.2.2.2.2.2.2.2.1 s.2.2.2.2.2.2.2.2.2.2.2.2.2.2.2.2.2.2.2.2.2.2.1 s.2.2.2.2.2.2.2.2.2.2.2.2.2.2.2.2.2.2.2.2.2.2.2.1)).bind fun b23=>
        bif !b23 then
         some (.done (aI.mk (0,0) (Field.mk []) (aW.mk 0 []) (aG.mk (aS.mk [] [] []) [] []) [],18))
        else
         (dX (aG.mk (aS.mk s.2.2.2.2.2.2.2.2.2.2.2.2.2.2.2.2.2.2.2.2.2.1 s.2.2.2.2.2.2.2.2.2.2.2.2.2.2.2.2.2.2.2.2.2.2.1 s.2.2.2.2.2.2.2.2.2.2.2.2.2.2.2.2.2.2.2.2.2.2.2.1) s.2.2.2.2.2.2.2.2.2.2.2.2.2.2.2.2.2.2.2.2.2.2.2.2.1 s.2.2.2.2.2.2.2.2.2.2.2.2.2.2.2.2.2.2.2.2.2.2.2.2.2.1) a2.1 a0.1).bind fun a24=>
         (bT s.2.2.2.2.2.2.2.2.2.2.2.2.2.2.2.2.2.2.2.2.2.2.2.2.2.2 [(a0.1,a24.2)]).bind fun l25=>
         some (.next (aA .i64 (s.1+1),s.2.1,s.2.2.1,s.2.2.2.1,s.2.2.2.2.1,s.2.2.2.2.2.1,s.2.2.2.2.2.2.1,s.2.2.2.2.2.2.2.1,s.2.2.2.2.2.2.2.2.1,s.2.2.2.2.2.2.2.2.2.1,s.2.2.2.2.2.2.2.2.2.2.1,s.2.2.2.2.2.2.2.2.2.2.2.1,s.2.2.2.2.2.2.2.2.2.2.2.2.1,s.2.2.2.2.2.2.2.2.2.2.2.2.2.1,s.2.2.2.2.2.2.2.2.2.2.2.2.2.2.1,s.2.2.2.2.2.2.2.2.2.2.2.2.2.2.2.1,s.2.2.2.2.2.2.2.2.2.2.2.2.2.2.2.2.1,s.2.2.2.2.2.2.2.2.2.2.2.2.2.2.2.2.2.1,s.2.2.2.2.2.2.2.2.2.2.2.2.2.2.2.2.2.2.1,s.2.2.2.2.2.2.2.2.2.2.2.2.2.2.2.2.2.2.2.1,s.2.2.2.2.2.2.2.2.2.2.2.2.2.2.2.2.2.2.2.2.1,a24.1.slots.uses,a24.1.slots.used,a24.1.slots.free,a24.1.heap,a24.1.where_,l25))
    else
     bif !a2.2 then
      some (.next (aA .i64 (s.1+1),s.2))
     else
      bif decide (0<=n1) then
       some (.next (aA .i64 (s.1+1),s.2))
      else
       (fT (aS.mk s.2.2.2.2.2.2.2.2.2.2.2.2.2.2.2.2.2.2.2.2.2.1 s.2.2.2.2.2.2.2.2.2.2.2.2.2.2.2.2.2.2.2.2.2.2.1 s.2.2.2.2.2.2.2.2.2.2.2.2.2.2.2.2.2.2.2.2.2.2.2.1)).bind fun b26=>
       bif !b26 then
        some (.done (aI.mk (0,0) (Field.mk []) (aW.mk 0 []) (aG.mk (aS.mk [] [] []) [] []) [],18))
       else
        (dX (aG.mk (aS.mk s.2.2.2.2.2.2.2.2.2.2.2.2.2.2.2.2.2.2.2.2.2.1 s.2.2.2.2.2.2.2.2.2.2.2.2.2.2.2.2.2.2.2.2.2.2.1 s.2.2.2.2.2.2.2.2.2.2.2.2.2.2.2.2.2.2.2.2.2.2.2.1) s.2.2.2.2.2.2.2.2.2.2.2.2.2.2.2.2.2.2.2.2.2.2.2.2.1 s.2.2.2.2.2.2.2.2.2.2.2.2.2.2.2.2.2.2.2.2.2.2.2.2.2.1) a2.1 a0.1).bind fun a27=>
        (bT s.2.2.2.2.2.2.2.2.2.2.2.2.2.2.2.2.2.2.2.2.2.2.2.2.2.2 [(a0.1,a27.2)]).bind fun l28=>
        some (.next (aA .i64 (s.1+1),s.2.1,s.2.2.1,s.2.2.2.1,s.2.2.2.2.1,s.2.2.2.2.2.1,s.2.2.2.2.2.2.1,s.2.2.2.2.2.2.2.1,s.2.2.2.2.2.2.2.2.1,s.2.2.2.2.2.2.2.2.2.1,s.2.2.2.2.2.2.2.2.2.2.1,s.2.2.2.2.2.2.2.2.2.2.2.1,s.2.2.2.2.2.2.2.2.2.2.2.2.1,s.2.2.2.2.2.2.2.2.2.2.2.2.2.1,s.2.2.2.2.2.2.2.2.2.2.2.2.2.2.1,s.2.2.2.2.2.2.2.2.2.2.2.2.2.2.2.1,s.2.2.2.2.2.2.2.2.2.2.2.2.2.2.2.2.1,s.2.2.2.2.2.2.2.2.2.2.2.2.2.2.2.2.2.1,s.2.2.2.2.2.2.2.2.2.2.2.2.2.2.2.2.2.2.1,s.2.2.2.2.2.2.2.2.2.2.2.2.2.2.2.2.2.2.2.1,s.2.2.2.2.2.2.2.2.2.2.2.2.2.2.2.2.2.2.2.2.1,a27.1.slots.uses,a27.1.slots.used,a27.1.slots.free,a27.1.heap,a27.1.where_,l28))
  else
   bif !a2.2 then
    bif decide (0<=n1) then
     (aN s.2.2.2.2.2.2.2.2.2.2.2.1 n1).bind fun a29=>
     (jF (aG.mk (aS.mk s.2.2.2.2.2.2.2.2.2.2.2.2.2.2.2.2.2.2.2.2.2.1 s.2.2.2.2.2.2.2.2.2.2.2.2.2.2.2.2.2.2.2.2.2.2.1 s.2.2.2.2.2.2.2.2.2.2.2.2.2.2.2.2.2.2.2.2.2.2.2.1) s.2.2.2.2.2.2.2.2.2.2.2.2.2.2.2.2.2.2.2.2.2.2.2.2.1 s.2.2.2.2.2.2.2.2.2.2.2.2.2.2.2.2.2.2.2.2.2.2.2.2.2.1) a29.2).bind fun r30=>
     bif !a2.2 then
      some (.next (aA .i64 (s.1+1),s.2.1,s.2.2.1,s.2.2.2.1,s.2.2.2.2.1,s.2.2.2.2.2.1,s.2.2.2.2.2.2.1,s.2.2.2.2.2.2.2.1,s.2.2.2.2.2.2.2.2.1,s.2.2.2.2.2.2.2.2.2.1,s.2.2.2.2.2.2.2.2.2.2.1,s.2.2.2.2.2.2.2.2.2.2.2.1,s.2.2.2.2.2.2.2.2.2.2.2.2.1,s.2.2.2.2.2.2.2.2.2.2.2.2.2.1,s.2.2.2.2.2.2.2.2.2.2.2.2.2.2.1,s.2.2.2.2.2.2.2.2.2.2.2.2.2.2.2.1,s.2.2.2.2.2.2.2.2.2.2.2.2.2.2.2.2.1,s.2.2.2.2.2.2.2.2.2.2.2.2.2.2.2.2.2.1,s.2.2.2.2.2.2.2.2.2.2.2.2.2.2.2.2.2.2.1,s.2.2.2.2.2.2.2.2.2.2.2.2.2.2.2.2.2.2.2.1,s.2.2.2.2.2.2.2.2.2.2.2.2.2.2.2.2.2.2.2.2.1,r30.slots.uses,r30.slots.used,r30.slots.free,r30.heap,r30.where_,s.2.2.2.2.2.2.2.2.2.2.2.2.2.2.2.2.2.2.2.2.2.2.2.2.2.2))
     else
      bif decide (0<=n1) then
       some (.next (aA .i64 (s.1+1),s.2.1,s.2.2.1,s.2.2.2.1,s.2.2.2.2.1,s.2.2.2.2.2.1,s.2.2.2.2.2.2.1,s.2.2.2.2.2.2.2.1,s.2.2.2.2.2.2.2.2.1,s.2.2.2.2.2.2.2.2.2.1,s.2.2.2.2.2.2.2.2.2.2.1,s.2.2.2.2.2.2.2.2.2.2.2.1,s.2.2.2.2.2.2.2.2.2.2.2.2.1,s.2.2.2.2.2.2.2.2.2.2.2.2.2.1,s.2.2.2.2.2.2.2.2.2.2.2.2.2.2.1,s.2.2.2.2.2.2.2.2.2.2.2.2.2.2.2.1,s.2.2.2.2.2.2.2.2.2.2.2.2.2.2.2.2.1,s.2.2.2.2.2.2.2.2.2.2.2.2.2.2.2.2.2.1,s.2.2.2.2.2.2.2.2.2.2.2.2.2.2.2.2.2.2.1,s.2.2.2.2.2.2.2.2.2.2.2.2.2.2.2.2.2.2.2.1,s.2.2.2.2.2.2.2.2.2.2.2.2.2.2.2.2.2.2.2.2.1,r30.slots.uses,r30.slots.used,r30.slots.free,r30.heap,r30.where_,s.2.2.2.2.2.2.2.2.2.2.2.2.2.2.2.2.2.2.2.2.2.2.2.2.2.2))
      else
       (fT r30.slots).bind fun b31=>
       bif !b31 then
        some (.done (aI.mk (0,0) (Field.mk []) (aW.mk 0 []) (aG.mk (aS.mk [] [] []) [] []) [],18))
       else
        (dX r30 a2.1 a0.1).bind fun a32=>
        (bT s.2.2.2.2.2.2.2.2.2.2.2.2.2.2.2.2.2.2.2.2.2.2.2.2.2.2 [(a0.1,a32.2)]).bind fun l33=>
        some (.next (aA .i64 (s.1+1),s.2.1,s.2.2.1,s.2.2.2.1,s.2.2.2.2.1,s.2.2.2.2.2.1,s.2.2.2.2.2.2.1,s.2.2.2.2.2.2.2.1,s.2.2.2.2.2.2.2.2.1,s.2.2.2.2.2.2.2.2.2.1,s.2.2.2.2.2.2.2.2.2.2.1,s.2.2.2.2.2.2.2.2.2.2.2.1,s.2.2.2.2.2.2.2.2.2.2.2.2.1,s.2.2.2.2.2.2.2.2.2.2.2.2.2.1,s.2.2.2.2.2.2.2.2.2.2.2.2.2.2.1,s.2.2.2.2.2.2.2.2.2.2.2.2.2.2.2.1,s.2.2.2.2.2.2.2.2.2.2.2.2.2.2.2.2.1,s.2.2.2.2.2.2.2.2.2.2.2.2.2.2.2.2.2.1,s.2.2.2.2.2.2.2.2.2.2.2.2.2.2.2.2.2.2.1,s.2.2.2.2.2.2.2.2.2.2.2.2.2.2.2.2.2.2.2.1,s.2.2.2.2.2.2.2.2.2.2.2.2.2.2.2.2.2.2.2.2.1,a32.1.slots.uses,a32.1.slots.used,a32.1.slots.free,a32.1.heap,a32.1.where_,l33))
    else
     bif !a2.2 then
      some (.next (aA .i64 (s.1+1),s.2))
     else
      bif decide (0<=n1) then
       some (.next (aA .i64 (s.1+1),s.2))
      else
       (fT (aS.mk s.2.2.2.2.2.2.2.2.2.2.2.2.2.2.2.2.2.2.2.2.2.1 s.2.2.2.2.2.2.2.2.2.2.2.2.2.2.2.2.2.2.2.2.2.2.1 s.2.2.2.2.2.2.2.2.2.2.2.2.2.2.2.2.2.2.2.2.2.2.2.1)).bind fun b34=>
       bif !b34 then
        some (.done (aI.mk (0,0) (Field.mk []) (aW.mk 0 []) (aG.mk (aS.mk [] [] []) [] []) [],18))
       else
        (dX (aG.mk (aS.mk s.2.2.2.2.2.2.2.2.2.2.2.2.2.2.2.2.2.2.2.2.2.1 s.2.2.2.2.2.2.2.2.2.2.2.2.2.2.2.2.2.2.2.2.2.2.1 s.2.2.2.2.2.2.2.2.2.2.2.2.2.2.2.2.2.2.2.2.2.2.2.1) s.2.2.2.2.2.2.2.2.2.2.2.2.2.2.2.2.2.2.2.2.2.2.2.2.1 s.2.2.2.2.2.2.2.2.2.2.2.2.2.2.2.2.2.2.2.2.2.2.2.2.2.1) a2.1 a0.1).bind fun a35=>
        (bT s.2.2.2.2.2.2.2.2.2.2.2.2.2.2.2.2.2.2.2.2.2.2.2.2.2.2 [(a0.1,a35.2)]).bind fun l36=>
        some (.next (aA .i64 (s.1+1),s.2.1,s.2.2.1,s.2.2.2.1,s.2.2.2.2.1,s.2.2.2.2.2.1,s.2.2.2.2.2.2.1,s.2.2.2.2.2.2.2.1,s.2.2.2.2.2.2.2.2.1,s.2.2.2.2.2.2.2.2.2.1,s.2.2.2.2.2.2.2.2.2.2.1,s.2.2.2.2.2.2.2.2.2.2.2.1,s.2.2.2.2.2.2.2.2.2.2.2.2.1,s.2.2.2.2.2.2.2.2.2.2.2.2.2.1,s.2.2.2.2.2.2.2.2.2.2.2.2.2.2.1,s.2.2.2.2.2.2.2.2.2.2.2.2.2.2.2.1,s.2.2.2.2.2.2.2.2.2.2.2.2.2.2.2.2.1,s.2.2.2.2.2.2.2.2.2.2.2.2.2.2.2.2.2.1,s.2.2.2.2.2.2.2.2.2.2.2.2.2.2.2.2.2.2.1,s.2.2.2.2.2.2.2.2.2.2.2.2.2.2.2.2.2.2.2.1,s.2.2.2.2.2.2.2.2.2.2.2.2.2.2.2.2.2.2.2.2.1,a35.1.slots.uses,a35.1.slots.used,a35.1.slots.free,a35.1.heap,a35.1.where_,l36))
   else
    bif !a2.2 then
     some (.next (aA .i64 (s.1+1),s.2))
    else
     bif decide (0<=n1) then
      some (.next (aA .i64 (s.1+1),s.2))
     else
      (fT (aS.mk s.2.2.2.2.2.2.2.2.2.2.2.2.2.2.2.2.2.2.2.2.2.1 s.2.2.2.2.2.2.2.2.2.2.2.2.2.2.2.2.2.2.2.2.2.2.1 s.2.2.2.2.2.2.2.2.2.2.2.2.2.2.2.2.2.2.2.2.2.2.2.1)).bind fun b37=>
      bif !b37 then
       some (.done (aI.mk (0,0) (Field.mk []) (aW.mk 0 []) (aG.mk (aS.mk [] [] []) [] []) [],18))
      else
       (dX (aG.mk (aS.mk s.2.2.2.2.2.2.2.2.2.2.2.2.2.2.2.2.2.2.2.2.2.1 s.2.2.2.2.2.2.2.2.2.2.2.2.2.2.2.2.2.2.2.2.2.2.1 s.2.2.2.2.2.2.2.2.2.2.2.2.2.2.2.2.2.2.2.2.2.2.2.1) s.2.2.2.2.2.2.2.2.2.2.2.2.2.2.2.2.2.2.2.2.2.2.2.2.1 s.2.2.2.2.2.2.2.2.2.2.2.2.2.2.2.2.2.2.2.2.2.2.2.2.2.1) a2.1 a0.1).bind fun a38=>
       (bT s.2.2.2.2.2.2.2.2.2.2.2.2.2.2.2.2.2.2.2.2.2.2.2.2.2.2 [(a0.1,a38.2)]).bind fun l39=>
       some (.next (aA .i64 (s.1+1),s.2.1,s.2.2.1,s.2.2.2.1,s.2.2.2.2.1,s.2.2.2.2.2.1,s.2.2.2.2.2.2.1,s.2.2.2.2.2.2.2.1,s.2.2.2.2.2.2.2.2.1,s.2.2.2.2.2.2.2.2.2.1,s.2.2.2.2.2.2.2.2.2.2.1,s.2.2.2.2.2.2.2.2.2.2.2.1,s.2.2.2.2.2.2.2.2.2.2.2.2.1,s.2.2.2.2.2.2.2.2.2.2.2.2.2.1,s.2.2.2.2.2.2.2.2.2.2.2.2.2.2.1,s.2.2.2.2.2.2.2.2.2.2.2.2.2.2.2.1,s.2.2.2.2.2.2.2.2.2.2.2.2.2.2.2.2.1,s.2.2.2.2.2.2.2.2.2.2.2.2.2.2.2.2.2.1,s.2.2.2.2.2.2.2.2.2.2.2.2.2.2.2.2.2.2.1,s.2.2.2.2.2.2.2.2.2.2.2.2.2.2.2.2.2.2.2.1,s.2.2.2.2.2.2.2.2.2.2.2.2.2.2.2.2.2.2.2.2.1,a38.1.slots.uses,a38.1.slots.used,a38.1.slots.free,a38.1.heap,a38.1.where_,l39))
 else
  some (.done (aI.mk (s.2.2.2.2.2.2.2.2.2.2.2.2.2.2.2.2.1,s.2.2.2.2.2.2.2.2.2.2.2.2.2.2.2.2.2.1) (Field.mk s.2.2.2.2.2.2.2.2.2.2.2.2.2.2.2.2.2.2.1) (aW.mk s.2.2.2.2.2.2.2.2.2.2.2.2.2.2.2.2.2.2.2.1 s.2.2.2.2.2.2.2.2.2.2.2.2.2.2.2.2.2.2.2.2.1) (aG.mk (aS.mk s.2.2.2.2.2.2.2.2.2.2.2.2.2.2.2.2.2.2.2.2.2.1 s.2.2.2.2.2.2.2.2.2.2.2.2.2.2.2.2.2.2.2.2.2.2.1 s.2.2.2.2.2.2.2.2.2.2.2.2.2.2.2.2.2.2.2.2.2.2.2.1) s.2.2.2.2.2.2.2.2.2.2.2.2.2.2.2.2.2.2.2.2.2.2.2.2.1 s.2.2.2.2.2.2.2.2.2.2.2.2.2.2.2.2.2.2.2.2.2.2.2.2.2.1) s.2.2.2.2.2.2.2.2.2.2.2.2.2.2.2.2.2.2.2.2.2.2.2.2.2.2,0))
def lI (p0:aI) (p1:Field):Option (aI×Int):=
 (gP p0).bind fun r0=>
 (nP p1).bind fun r1=>
 aJ cD (0,p0.now.1,p0.now.2,p0.field.points,p0.certs.next_,p0.certs.list,p0.agenda.slots.uses,p0.agenda.slots.used,p0.agenda.slots.free,p0.agenda.heap,p0.agenda.where_,p0.due,p1.points,0,0,0,r0.now.1,r0.now.2,r1.points,r0.certs.next_,r0.certs.list,r0.agenda.slots.uses,r0.agenda.slots.used,r0.agenda.slots.free,r0.agenda.heap,r0.agenda.where_,[])
def aNG:bN:=⟨aC.cons (aK.agg bL) (aC.one (aK.agg eD)),aK.tup (aC.cons (aK.agg bL) (aC.one (aK.int .i64))),fun a=>lI a.1 a.2,.frz,false⟩
theorem aGi:aH aZ 148 aNG:=Oc aDU rfl aF [(32,c32),(32,P1),(72,c72),(72,aFb),(188,aLH),(124,aF8),(190,aNE),(189,aLI),(191,aLM),(192,aLN)] ⟨DO,yZ,SW,NH,VN,NV,aGg,VO,VQ,VS,trivial⟩ fun a=>by kernel_rfl
def B7 (p0:aW) (p1:Int×Int):Option (aW×Int×Int):=
 (sH p0).bind fun n0=>
 bif n0 !=0 then
  some (aW.mk 0 [],0,8)
 else
  (uJ p1).bind fun b1=>
  bif !b1 then
   some (aW.mk 0 [],0,8)
  else
   (tQ p0 p1).bind fun b2=>
   bif b2 then
    some (aW.mk 0 [],0,14)
   else
    bif (Int.ofNat p0.list.length)==200 then
     some (aW.mk 0 [],0,18)
    else
     bif p0.next_==1000000 then
      some (aW.mk 0 [],0,18)
     else
      (nQ p0).bind fun r3=>
      (bT r3.list [(p0.next_,p1)]).bind fun l4=>
      some (aW.mk (aA .i64 (r3.next_+1)) l4,p0.next_,0)
def aNH:bN:=⟨aC.cons (aK.agg fM) (aC.one (aK.agg (cE.row hO))),aK.tup (aC.cons (aK.agg fM) (aC.cons (aK.int .i64) (aC.one (aK.int .i64)))),fun a=>B7 a.1 a.2,.frz,false⟩
theorem aGj:aH aZ 193 aNH:=Oc aEv rfl aF [(121,aLu),(170,aLt),(126,aGa),(73,c73),(73,aFc)] ⟨VF,VE,NW,SX,NI,trivial⟩ fun a=>by kernel_rfl
def kK (p0:aI) (p1:Int×Int):Option (aI×Int×Int):=
 (B7 p0.certs p1).bind fun a0=>
 bif a0.2.2 !=0 then
  some (aI.mk (0,0) (Field.mk []) (aW.mk 0 []) (aG.mk (aS.mk [] [] []) [] []) [],0,a0.2.2)
 else
  (gP p0).bind fun r1=>
  (qL p0.field p1 p0.now).bind fun a2=>
  bif !a2.2 then
   some (aI.mk r1.now r1.field a0.1 r1.agenda r1.due,a0.2.1,0)
  else
   (fT p0.agenda.slots).bind fun b3=>
   bif !b3 then
    some (aI.mk (0,0) (Field.mk []) (aW.mk 0 []) (aG.mk (aS.mk [] [] []) [] []) [],0,18)
   else
    (dX p0.agenda a2.1 a0.2.1).bind fun a4=>
    (bT r1.due [(a0.2.1,a4.2)]).bind fun l5=>
    some (aI.mk r1.now r1.field a0.1 a4.1 l5,a0.2.1,0)
def aNI:bN:=⟨aC.cons (aK.agg bL) (aC.one (aK.agg (cE.row hO))),aK.tup (aC.cons (aK.agg bL) (aC.cons (aK.int .i64) (aC.one (aK.int .i64)))),fun a=>kK a.1 a.2,.frz,false⟩
theorem aGk:aH aZ 149 aNI:=Oc aDV rfl aF [(193,aNH),(32,c32),(32,P1),(124,aF8),(191,aLM),(192,aLN)] ⟨aGj,DO,yZ,NV,VQ,VS,trivial⟩ fun a=>by kernel_rfl
def dI (s:((List (Int×Int))×Int×Int×Int×Int×Int×Int×(List (Int×Int×Int))×Int×(List (Int×Int×Int))×(List Int)×(List Bool)×(List Int)×(List (Int×Int×Int×Int×Int))×(List Int)×(List (Int×Int×Int)))):Option (bQ ((List (Int×Int))×Int×Int×Int×Int×Int×Int×(List (Int×Int×Int))×Int×(List (Int×Int×Int))×(List Int)×(List Bool)×(List Int)×(List (Int×Int×Int×Int×Int))×(List Int)×(List (Int×Int×Int))) (bQ ((List (Int×Int))×Int×Int×Int×(List (Int×Int×Int))×Int×(List (Int×Int×Int))×(List Int)×(List Bool)×(List Int)×(List (Int×Int×Int×Int×Int))×(List Int)×(List (Int×Int×Int))×(List (Int×Int×Int))×Int×Int×Int×Int×Int×(List (Int×Int×Int))×Int×(List (Int×Int×Int))×(List Int)×(List Bool)×(List Int)×(List (Int×Int×Int×Int×Int))×(List Int)×(List (Int×Int×Int))) (aI×Int))):=
 bif decide (s.2.1<(Int.ofNat s.1.length)) then
  (aN s.1 s.2.1).bind fun a0=>
  (tQ (aW.mk s.2.2.2.2.2.2.2.2.1 s.2.2.2.2.2.2.2.2.2.1) a0).bind fun b1=>
  bif b1 then
   some (.next (s.1,aA .i64 (s.2.1+1),s.2.2))
  else
   (aN s.1 s.2.1).bind fun a2=>
   (kK (aI.mk (s.2.2.2.2.2.1,s.2.2.2.2.2.2.1) (Field.mk s.2.2.2.2.2.2.2.1) (aW.mk s.2.2.2.2.2.2.2.2.1 s.2.2.2.2.2.2.2.2.2.1) (aG.mk (aS.mk s.2.2.2.2.2.2.2.2.2.2.1 s.2.2.2.2.2.2.2.2.2.2.2.1 s.2.2.2.2.2.2.2.2.2.2.2.2.1) s.2.2.2.2.2.2.2.2.2.2.2.2.2.1 s.2.2.2.2.2.2.2.2.2.2.2.2.2.2.1) s.2.2.2.2.2.2.2.2.2.2.2.2.2.2.2) a2).bind fun a3=>
   bif a3.2.2 !=0 then
    some (.done (.done (aI.mk (0,0) (Field.mk []) (aW.mk 0 []) (aG.mk (aS.mk [] [] []) [] []) [],a3.2.2)))
   else
    some (.next (s.1,aA .i64 (s.2.1+1),s.2.2.1,s.2.2.2.1,s.2.2.2.2.1,a3.1.now.1,a3.1.now.2,a3.1.field.points,a3.1.certs.next_,a3.1.certs.list,a3.1.agenda.slots.uses,a3.1.agenda.slots.used,a3.1.agenda.slots.free,a3.1.agenda.heap,a3.1.agenda.where_,a3.1.due))
 else
  some (.done (.done (aI.mk (s.2.2.2.2.2.1,s.2.2.2.2.2.2.1) (Field.mk s.2.2.2.2.2.2.2.1) (aW.mk s.2.2.2.2.2.2.2.2.1 s.2.2.2.2.2.2.2.2.2.1) (aG.mk (aS.mk s.2.2.2.2.2.2.2.2.2.2.1 s.2.2.2.2.2.2.2.2.2.2.2.1 s.2.2.2.2.2.2.2.2.2.2.2.2.1) s.2.2.2.2.2.2.2.2.2.2.2.2.2.1 s.2.2.2.2.2.2.2.2.2.2.2.2.2.2.1) s.2.2.2.2.2.2.2.2.2.2.2.2.2.2.2,0)))
def cY (s:((List (Int×Int))×Int×Int×Int×(List (Int×Int×Int))×Int×(List (Int×Int×Int))×(List Int)×(List Bool)×(List Int)×(List (Int×Int×Int×Int×Int))×(List Int)×(List (Int×Int×Int))×(List (Int×Int×Int))×Int×Int×Int×Int×Int×(List (Int×Int×Int))×Int×(List (Int×Int×Int))×(List Int)×(List Bool)×(List Int)×(List (Int×Int×Int×Int×Int))×(List Int)×(List (Int×Int×Int)))):Option (bQ ((List (Int×Int))×Int×Int×Int×(List (Int×Int×Int))×Int×(List (Int×Int×Int))×(List Int)×(List Bool)×(List Int)×(List (Int×Int×Int×Int×Int))×(List Int)×(List (Int×Int×Int))×(List (Int×Int×Int))×Int×Int×Int×Int×Int×(List (Int×Int×Int))×Int×(List (Int×Int×Int))×(List Int)×(List Bool)×(List Int)×(List (Int×Int×Int×Int×Int))×(List Int)×(List (Int×Int×Int))) (aI×Int)):=
 bif decide (s.2.1<(Int.ofNat s.2.2.2.2.2.2.1.length)) then
  (aN s.2.2.2.2.2.2.1 s.2.1).bind fun a0=>
  (E2 s.1 a0.2).bind fun b1=>
  bif !b1 then
   (aN s.2.2.2.2.2.2.1 s.2.1).bind fun a2=>
   (nS (aI.mk (s.2.2.2.2.2.2.2.2.2.2.2.2.2.2.2.2.2.1,s.2.2.2.2.2.2.2.2.2.2.2.2.2.2.2.2.2.2.1) (Field.mk s.2.2.2.2.2.2.2.2.2.2.2.2.2.2.2.2.2.2.2.1) (aW.mk s.2.2.2.2.2.2.2.2.2.2.2.2.2.2.2.2.2.2.2.2.1 s.2.2.2.2.2.2.2.2.2.2.2.2.2.2.2.2.2.2.2.2.2.1) (aG.mk (aS.mk s.2.2.2.2.2.2.2.2.2.2.2.2.2.2.2.2.2.2.2.2.2.2.1 s.2.2.2.2.2.2.2.2.2.2.2.2.2.2.2.2.2.2.2.2.2.2.2.1 s.2.2.2.2.2.2.2.2.2.2.2.2.2.2.2.2.2.2.2.2.2.2.2.2.1) s.2.2.2.2.2.2.2.2.2.2.2.2.2.2.2.2.2.2.2.2.2.2.2.2.2.1 s.2.2.2.2.2.2.2.2.2.2.2.2.2.2.2.2.2.2.2.2.2.2.2.2.2.2.1) s.2.2.2.2.2.2.2.2.2.2.2.2.2.2.2.2.2.2.2.2.2.2.2.2.2.2.2) a2.1).bind fun r3=>
   some (.next (s.1,aA .i64 (s.2.1+1),s.2.2.1,s.2.2.2.1,s.2.2.2.2.1,s.2.2.2.2.2.1,s.2.2.2.2.2.2.1,s.2.2.2.2.2.2.2.1,s.2.2.2.2.2.2.2.2.1,s.2.2.2.2.2.2.2.2.2.1,s.2.2.2.2.2.2.2.2.2.2.1,s.2.2.2.2.2.2.2.2.2.2.2.1,s.2.2.2.2.2.2.2.2.2.2.2.2.1,s.2.2.2.2.2.2.2.2.2.2.2.2.2.1,s.2.2.2.2.2.2.2.2.2.2.2.2.2.2.1,s.2.2.2.2.2.2.2.2.2.2.2.2.2.2.2.1,s.2.2.2.2.2.2.2.2.2.2.2.2.2.2.2.2.1,r3.now.1,r3.now.2,r3.field.points,r3.certs.next_,r3.certs.list,r3.agenda.slots.uses,r3.agenda.slots.used,r3.agenda.slots.free,r3.agenda.heap,r3.agenda.where_,r3.due))
  else
   some (.next (s.1,aA .i64 (s.2.1+1),s.2.2))
 else
  (uM (Field.mk s.2.2.2.2.2.2.2.2.2.2.2.2.2.2.2.2.2.2.2.1) (Field.mk s.2.2.2.2.2.2.2.2.2.2.2.2.2.1)).bind fun b4=>
  bif !b4 then
   (lI (aI.mk (s.2.2.2.2.2.2.2.2.2.2.2.2.2.2.2.2.2.1,s.2.2.2.2.2.2.2.2.2.2.2.2.2.2.2.2.2.2.1) (Field.mk s.2.2.2.2.2.2.2.2.2.2.2.2.2.2.2.2.2.2.2.1) (aW.mk s.2.2.2.2.2.2.2.2.2.2.2.2.2.2.2.2.2.2.2.2.1 s.2.2.2.2.2.2.2.2.2.2.2.2.2.2.2.2.2.2.2.2.2.1) (aG.mk (aS.mk s.2.2.2.2.2.2.2.2.2.2.2.2.2.2.2.2.2.2.2.2.2.2.1 s.2.2.2.2.2.2.2.2.2.2.2.2.2.2.2.2.2.2.2.2.2.2.2.1 s.2.2.2.2.2.2.2.2.2.2.2.2.2.2.2.2.2.2.2.2.2.2.2.2.1) s.2.2.2.2.2.2.2.2.2.2.2.2.2.2.2.2.2.2.2.2.2.2.2.2.2.1 s.2.2.2.2.2.2.2.2.2.2.2.2.2.2.2.2.2.2.2.2.2.2.2.2.2.2.1) s.2.2.2.2.2.2.2.2.2.2.2.2.2.2.2.2.2.2.2.2.2.2.2.2.2.2.2) (Field.mk s.2.2.2.2.2.2.2.2.2.2.2.2.2.1)).bind fun a5=>
   bif a5.2 !=0 then
    some (.done (aI.mk (0,0) (Field.mk []) (aW.mk 0 []) (aG.mk (aS.mk [] [] []) [] []) [],a5.2))
   else
    aJ dI (s.1,0,s.2.2.2.2.2.2.2.2.2.2.2.2.2.2.1,s.2.2.2.2.2.2.2.2.2.2.2.2.2.2.2.1,s.2.2.2.2.2.2.2.2.2.2.2.2.2.2.2.2.1,a5.1.now.1,a5.1.now.2,a5.1.field.points,a5.1.certs.next_,a5.1.certs.list,a5.1.agenda.slots.uses,a5.1.agenda.slots.used,a5.1.agenda.slots.free,a5.1.agenda.heap,a5.1.agenda.where_,a5.1.due)
  else
   aJ dI (s.1,0,s.2.2.2.2.2.2.2.2.2.2.2.2.2.2)
def lJ (p0:aI) (p1:Field) (p2:List (Int×Int)):Option (aI×Int):=
 (gP p0).bind fun r0=>
 aJ cY (p2,0,p0.now.1,p0.now.2,p0.field.points,p0.certs.next_,p0.certs.list,p0.agenda.slots.uses,p0.agenda.slots.used,p0.agenda.slots.free,p0.agenda.heap,p0.agenda.where_,p0.due,p1.points,0,0,0,r0.now.1,r0.now.2,r0.field.points,r0.certs.next_,r0.certs.list,r0.agenda.slots.uses,r0.agenda.slots.used,r0.agenda.slots.free,r0.agenda.heap,r0.agenda.where_,r0.due)
def c87:bN:=⟨aC.cons (aK.agg bL) (aC.cons (aK.agg eD) (aC.one (aK.sl hO))),aK.tup (aC.cons (aK.agg bL) (aC.one (aK.int .i64))),fun a=>lJ a.1 a.2.1 a.2.2,.frz,false⟩
theorem aLO:aH aZ 87 c87:=Oc aKP rfl aF [(32,c32),(32,P1),(147,aND),(146,aLJ),(89,c89),(148,aNG),(126,aGa),(149,aNI)] ⟨DO,yZ,aGf,VP,Z3,aGi,NW,aGk,trivial⟩ fun a=>by kernel_rfl
def wD (p0:aI) (p1:Int×Int):Option aI:=
 (gP p0).bind fun r0=>
 some (aI.mk p1 r0.field r0.certs r0.agenda r0.due)
def c88:bN:=⟨aC.cons (aK.agg bL) (aC.one (aK.agg (cE.row hO))),aK.agg bL,fun a=>wD a.1 a.2,.frz,false⟩
theorem aLP:aH aZ 88 c88:=Oc aKQ rfl aF [(32,c32),(32,P1)] ⟨DO,yZ,trivial⟩ fun a=>by kernel_rfl
def fY (s:(Int×Int×Int×Int×Int×Int×Int×(List (Int×Int×Int))×Int×(List (Int×Int×Int))×(List Int)×(List Bool)×(List Int)×(List (Int×Int×Int×Int×Int))×(List Int)×(List (Int×Int×Int))×(List Int)×(List (Int×Int)))):Option (bQ (Int×Int×Int×Int×Int×Int×Int×(List (Int×Int×Int))×Int×(List (Int×Int×Int))×(List Int)×(List Bool)×(List Int)×(List (Int×Int×Int×Int×Int))×(List Int)×(List (Int×Int×Int))×(List Int)×(List (Int×Int))) (dC×(List (Int×Int))×Int)):=
 (vY (aI.mk (s.2.2.2.2.2.1,s.2.2.2.2.2.2.1) (Field.mk s.2.2.2.2.2.2.2.1) (aW.mk s.2.2.2.2.2.2.2.2.1 s.2.2.2.2.2.2.2.2.2.1) (aG.mk (aS.mk s.2.2.2.2.2.2.2.2.2.2.1 s.2.2.2.2.2.2.2.2.2.2.2.1 s.2.2.2.2.2.2.2.2.2.2.2.2.1) s.2.2.2.2.2.2.2.2.2.2.2.2.2.1 s.2.2.2.2.2.2.2.2.2.2.2.2.2.2.1) s.2.2.2.2.2.2.2.2.2.2.2.2.2.2.2.1) (s.1,s.2.1)).bind fun b0=>
 bif b0 then
  (pI (aI.mk (s.2.2.2.2.2.1,s.2.2.2.2.2.2.1) (Field.mk s.2.2.2.2.2.2.2.1) (aW.mk s.2.2.2.2.2.2.2.2.1 s.2.2.2.2.2.2.2.2.2.1) (aG.mk (aS.mk s.2.2.2.2.2.2.2.2.2.2.1 s.2.2.2.2.2.2.2.2.2.2.2.1 s.2.2.2.2.2.2.2.2.2.2.2.2.1) s.2.2.2.2.2.2.2.2.2.2.2.2.2.1 s.2.2.2.2.2.2.2.2.2.2.2.2.2.2.1) s.2.2.2.2.2.2.2.2.2.2.2.2.2.2.2.1)).bind fun a1=>
  (mD s.2.2.2.2.2.2.2.2.2.2.2.2.2.2.2.2.1 a1.2.2.1).bind fun n2=>
  (mD s.2.2.2.2.2.2.2.2.2.2.2.2.2.2.2.2.1 a1.2.2.2).bind fun n3=>
  (aN s.2.2.2.2.2.2.2.2.2.2.2.2.2.2.2.2.1 n3).bind fun n4=>
  (aN s.2.2.2.2.2.2.2.2.2.2.2.2.2.2.2.2.1 n2).bind fun n5=>
  (aN s.2.2.2.2.2.2.2.2.2.2.2.2.2.2.2.2.1 n2).bind fun _=>
  (aN (bV s.2.2.2.2.2.2.2.2.2.2.2.2.2.2.2.2.1 n2 n4) n3).bind fun _=>
  (BF (bV (bV s.2.2.2.2.2.2.2.2.2.2.2.2.2.2.2.2.1 n2 n4) n3 n5)).bind fun l8=>
  (lJ a1.1 a1.1.field l8).bind fun a9=>
  bif a9.2 !=0 then
   some (.done (dC.mk (aI.mk (0,0) (Field.mk []) (aW.mk 0 []) (aG.mk (aS.mk [] [] []) [] []) []) [],[],a9.2))
  else
   (bT s.2.2.2.2.2.2.2.2.2.2.2.2.2.2.2.2.2 [a1.2.2]).bind fun l10=>
   some (.next (s.1,s.2.1,s.2.2.1,s.2.2.2.1,s.2.2.2.2.1,a9.1.now.1,a9.1.now.2,a9.1.field.points,a9.1.certs.next_,a9.1.certs.list,a9.1.agenda.slots.uses,a9.1.agenda.slots.used,a9.1.agenda.slots.free,a9.1.agenda.heap,a9.1.agenda.where_,a9.1.due,bV (bV s.2.2.2.2.2.2.2.2.2.2.2.2.2.2.2.2.1 n2 n4) n3 n5,l10))
 else
  (wD (aI.mk (s.2.2.2.2.2.1,s.2.2.2.2.2.2.1) (Field.mk s.2.2.2.2.2.2.2.1) (aW.mk s.2.2.2.2.2.2.2.2.1 s.2.2.2.2.2.2.2.2.2.1) (aG.mk (aS.mk s.2.2.2.2.2.2.2.2.2.2.1 s.2.2.2.2.2.2.2.2.2.2.2.1 s.2.2.2.2.2.2.2.2.2.2.2.2.1) s.2.2.2.2.2.2.2.2.2.2.2.2.2.1 s.2.2.2.2.2.2.2.2.2.2.2.2.2.2.1) s.2.2.2.2.2.2.2.2.2.2.2.2.2.2.2.1) (s.1,s.2.1)).bind fun r11=>
  some (.done (dC.mk r11 s.2.2.2.2.2.2.2.2.2.2.2.2.2.2.2.2.1,s.2.2.2.2.2.2.2.2.2.2.2.2.2.2.2.2.2,0))
def DT (p0:dC) (p1:Int×Int):Option (dC×(List (Int×Int))×Int):=
 (cK p0.heap).bind fun l0=>
 aJ fY (p1.1,p1.2,0,0,0,p0.clock.now.1,p0.clock.now.2,p0.clock.field.points,p0.clock.certs.next_,p0.clock.certs.list,p0.clock.agenda.slots.uses,p0.clock.agenda.slots.used,p0.clock.agenda.slots.free,p0.clock.agenda.heap,p0.clock.agenda.where_,p0.clock.due,l0,[])
def c39:bN:=⟨aC.cons (aK.agg fW) (aC.one (aK.agg (cE.row hO))),aK.tup (aC.cons (aK.agg fW) (aC.cons (aK.sl hO) (aC.one (aK.int .i64)))),fun a=>DT a.1 a.2,.frz,false⟩
theorem aLQ:aH aZ 39 c39:=Oc aKn rfl aF [(85,c85),(86,c86),(47,c47),(57,c57),(57,aLC),(87,c87),(88,c88)] ⟨aLG,aLK,aLL,Z2,VM,aLO,aLP,trivial⟩ fun a=>by kernel_rfl
def jG (p0:dC) (p1:Int×Int):Option (dC×(List (Int×Int))×Int):=
 (sM p0).bind fun n0=>
 bif n0 !=0 then
  (sM p0).bind fun n1=>
  some (dC.mk (aI.mk (0,0) (Field.mk []) (aW.mk 0 []) (aG.mk (aS.mk [] [] []) [] []) []) [],[],n1)
 else
  (iY p0.clock p1).bind fun n2=>
  bif n2 !=0 then
   (iY p0.clock p1).bind fun n3=>
   some (dC.mk (aI.mk (0,0) (Field.mk []) (aW.mk 0 []) (aG.mk (aS.mk [] [] []) [] []) []) [],[],n3)
  else
   (DT p0 p1).bind fun a4=>
   some a4
def c11:bN:=⟨aC.cons (aK.agg fW) (aC.one (aK.agg (cE.row hO))),aK.tup (aC.cons (aK.agg fW) (aC.cons (aK.sl hO) (aC.one (aK.int .i64)))),fun a=>jG a.1 a.2,.frz,false⟩
theorem aLR:aH aZ 11 c11:=Oc aKa rfl aF [(26,c26),(38,c38),(39,c39)] ⟨aLE,aLF,aLQ,trivial⟩ fun a=>by kernel_rfl
def rG (s:(Int×Int×(List (Int×Int×Int))×Int×(List (Int×Int×Int)))):Option (bQ (Int×Int×(List (Int×Int×Int))×Int×(List (Int×Int×Int))) Bool):=
 bif decide (s.1<(Int.ofNat s.2.2.1.length)) then
  (aN s.2.2.1 s.1).bind fun a0=>
  (aN s.2.2.2.2 s.1).bind fun a1=>
  bif !((a0.1==a1.1)&&((a0.2.1==a1.2.1)&&(a0.2.2==a1.2.2))) then
   some (.done false)
  else
   some (.next (aA .i64 (s.1+1),s.2))
 else
  some (.done true)
def zJ (p0:aW) (p1:aW):Option Bool:=
 bif p0.next_ !=p1.next_ then
  some false
 else
  bif (Int.ofNat p0.list.length) !=(Int.ofNat p1.list.length) then
   some false
  else
   aJ rG (0,p0.next_,p0.list,p1.next_,p1.list)
def c90:bN:=⟨aC.cons (aK.agg fM) (aC.one (aK.agg fM)),aK.bool,fun a=>zJ a.1 a.2,.pure,false⟩
theorem aLS:aH aZ 90 c90:=Oc aKS rfl aF [] trivial fun a=>by kernel_rfl
def lP (s:((List Int)×(List Int)×Int)):Option (bQ ((List Int)×(List Int)×Int) Bool):=
 bif decide (s.2.2<(Int.ofNat s.1.length)) then
  (aN s.1 s.2.2).bind fun n0=>
  (aN s.2.1 s.2.2).bind fun n1=>
  bif n0 !=n1 then
   some (.done false)
  else
   some (.next (s.1,s.2.1,aA .i64 (s.2.2+1)))
 else
  some (.done true)
def kC (p0:List Int) (p1:List Int):Option Bool:=
 bif (Int.ofNat p0.length) !=(Int.ofNat p1.length) then
  some false
 else
  aJ lP (p0,p1,0)
def aLT:bN:=⟨aC.cons (aK.sl ki) (aC.one (aK.sl ki)),aK.bool,fun a=>kC a.1 a.2,.pure,false⟩
theorem VT:aH aZ 151 aLT:=Oc aDX rfl aF [] trivial fun a=>by kernel_rfl
def kV (s:((List Bool)×(List Bool)×Int)):Option (bQ ((List Bool)×(List Bool)×Int) Bool):=
 bif decide (s.2.2<(Int.ofNat s.1.length)) then
  (aN s.1 s.2.2).bind fun b0=>
  (aN s.2.1 s.2.2).bind fun b1=>
  bif !(b0==b1) then
   some (.done false)
  else
   some (.next (s.1,s.2.1,aA .i64 (s.2.2+1)))
 else
  some (.done true)
def nJ (p0:List Bool) (p1:List Bool):Option Bool:=
 bif (Int.ofNat p0.length) !=(Int.ofNat p1.length) then
  some false
 else
  aJ kV (p0,p1,0)
def aNJ:bN:=⟨aC.cons (aK.sl kb) (aC.one (aK.sl kb)),aK.bool,fun a=>nJ a.1 a.2,.pure,false⟩
theorem aGl:aH aZ 194 aNJ:=Oc aEw rfl aF [] trivial fun a=>by kernel_rfl
def DU (p0:aS) (p1:aS):Option Bool:=
 (kC p0.uses p1.uses).bind fun b0=>
 bif b0 then
  (nJ p0.used p1.used).bind fun b1=>
  bif b1 then
   (kC p0.free p1.free).bind fun b2=>
   some b2
  else
   some false
 else
  some false
def aNK:bN:=⟨aC.cons (aK.agg fL) (aC.one (aK.agg fL)),aK.bool,fun a=>DU a.1 a.2,.pure,false⟩
theorem aGm:aH aZ 150 aNK:=Oc aDW rfl aF [(151,aLT),(194,aNJ)] ⟨VT,aGl,trivial⟩ fun a=>by kernel_rfl
def rH (s:(Int×(List Int)×(List Bool)×(List Int)×(List (Int×Int×Int×Int×Int))×(List Int)×(List Int)×(List Bool)×(List Int)×(List (Int×Int×Int×Int×Int))×(List Int))):Option (bQ (Int×(List Int)×(List Bool)×(List Int)×(List (Int×Int×Int×Int×Int))×(List Int)×(List Int)×(List Bool)×(List Int)×(List (Int×Int×Int×Int×Int))×(List Int)) Bool):=
 bif decide (s.1<(Int.ofNat s.2.2.2.2.1.length)) then
  (aN s.2.2.2.2.1 s.1).bind fun a0=>
  (aN s.2.2.2.2.2.2.2.2.2.1 s.1).bind fun a1=>
  bif !((a0.1==a1.1)&&((a0.2.1==a1.2.1)&&((a0.2.2.1==a1.2.2.1)&&((a0.2.2.2.1==a1.2.2.2.1)&&(a0.2.2.2.2==a1.2.2.2.2))))) then
   some (.done false)
  else
   some (.next (aA .i64 (s.1+1),s.2))
 else
  some (.done true)
def zK (p0:aG) (p1:aG):Option Bool:=
 (DU p0.slots p1.slots).bind fun b0=>
 bif !b0 then
  some false
 else
  (kC p0.where_ p1.where_).bind fun b1=>
  bif !b1 then
   some false
  else
   bif (Int.ofNat p0.heap.length) !=(Int.ofNat p1.heap.length) then
    some false
   else
    aJ rH (0,p0.slots.uses,p0.slots.used,p0.slots.free,p0.heap,p0.where_,p1.slots.uses,p1.slots.used,p1.slots.free,p1.heap,p1.where_)
def c91:bN:=⟨aC.cons (aK.agg cN) (aC.one (aK.agg cN)),aK.bool,fun a=>zK a.1 a.2,.pure,false⟩
theorem aLU:aH aZ 91 c91:=Oc aKT rfl aF [(150,aNK),(151,aLT)] ⟨aGm,VT,trivial⟩ fun a=>by kernel_rfl
def rI (s:(Int×Int×Int×(List (Int×Int×Int))×Int×(List (Int×Int×Int))×(List Int)×(List Bool)×(List Int)×(List (Int×Int×Int×Int×Int))×(List Int)×(List (Int×Int×Int))×Int×Int×(List (Int×Int×Int))×Int×(List (Int×Int×Int))×(List Int)×(List Bool)×(List Int)×(List (Int×Int×Int×Int×Int))×(List Int)×(List (Int×Int×Int)))):Option (bQ (Int×Int×Int×(List (Int×Int×Int))×Int×(List (Int×Int×Int))×(List Int)×(List Bool)×(List Int)×(List (Int×Int×Int×Int×Int))×(List Int)×(List (Int×Int×Int))×Int×Int×(List (Int×Int×Int))×Int×(List (Int×Int×Int))×(List Int)×(List Bool)×(List Int)×(List (Int×Int×Int×Int×Int))×(List Int)×(List (Int×Int×Int))) Bool):=
 bif decide (s.1<(Int.ofNat s.2.2.2.2.2.2.2.2.2.2.2.1.length)) then
  (aN s.2.2.2.2.2.2.2.2.2.2.2.1 s.1).bind fun a0=>
  (aN s.2.2.2.2.2.2.2.2.2.2.2.2.2.2.2.2.2.2.2.2.2.2 s.1).bind fun a1=>
  bif !((a0.1==a1.1)&&((a0.2.1==a1.2.1)&&(a0.2.2==a1.2.2))) then
   some (.done false)
  else
   some (.next (aA .i64 (s.1+1),s.2))
 else
  some (.done true)
def zL (p0:aI) (p1:aI):Option Bool:=
 bif !((p0.now.1==p1.now.1)&&(p0.now.2==p1.now.2)) then
  some false
 else
  (uM p0.field p1.field).bind fun b0=>
  bif !b0 then
   some false
  else
   (zJ p0.certs p1.certs).bind fun b1=>
   bif !b1 then
    some false
   else
    (zK p0.agenda p1.agenda).bind fun b2=>
    bif !b2 then
     some false
    else
     bif (Int.ofNat p0.due.length) !=(Int.ofNat p1.due.length) then
      some false
     else
      aJ rI (0,p0.now.1,p0.now.2,p0.field.points,p0.certs.next_,p0.certs.list,p0.agenda.slots.uses,p0.agenda.slots.used,p0.agenda.slots.free,p0.agenda.heap,p0.agenda.where_,p0.due,p1.now.1,p1.now.2,p1.field.points,p1.certs.next_,p1.certs.list,p1.agenda.slots.uses,p1.agenda.slots.used,p1.agenda.slots.free,p1.agenda.heap,p1.agenda.where_,p1.due)
def c40:bN:=⟨aC.cons (aK.agg bL) (aC.one (aK.agg bL)),aK.bool,fun a=>zL a.1 a.2,.pure,false⟩
theorem aLV:aH aZ 40 c40:=Oc aKo rfl aF [(89,c89),(90,c90),(91,c91)] ⟨Z3,aLS,aLU,trivial⟩ fun a=>by kernel_rfl
def mO (s:((List Int)×(List Int)×Int)):Option (bQ ((List Int)×(List Int)×Int) Bool):=
 bif decide (s.2.2<(Int.ofNat s.1.length)) then
  (aN s.1 s.2.2).bind fun n0=>
  (aN s.2.1 s.2.2).bind fun n1=>
  bif n0 !=n1 then
   some (.done false)
  else
   some (.next (s.1,s.2.1,aA .i64 (s.2.2+1)))
 else
  some (.done true)
def rJ (p0:List Int) (p1:List Int):Option Bool:=
 bif (Int.ofNat p0.length) !=(Int.ofNat p1.length) then
  some false
 else
  aJ mO (p0,p1,0)
def c41:bN:=⟨aC.cons (aK.sl ki) (aC.one (aK.sl ki)),aK.bool,fun a=>rJ a.1 a.2,.pure,false⟩
theorem aLW:aH aZ 41 c41:=Oc aKp rfl aF [] trivial fun a=>by kernel_rfl
def uN (p0:dC) (p1:dC):Option Bool:=
 (zL p0.clock p1.clock).bind fun b0=>
 bif b0 then
  (rJ p0.heap p1.heap).bind fun b1=>
  some b1
 else
  some false
def c12:bN:=⟨aC.cons (aK.agg fW) (aC.one (aK.agg fW)),aK.bool,fun a=>uN a.1 a.2,.pure,false⟩
theorem aLX:aH aZ 12 c12:=Oc aKb rfl aF [(40,c40),(41,c41)] ⟨aLV,aLW,trivial⟩ fun a=>by kernel_rfl
def kW (s:((List (Int×Int))×(List (Int×Int))×Int)):Option (bQ ((List (Int×Int))×(List (Int×Int))×Int) Bool):=
 bif decide (s.2.2<(Int.ofNat s.1.length)) then
  (aN s.1 s.2.2).bind fun a0=>
  (aN s.2.1 s.2.2).bind fun a1=>
  bif !((a0.1==a1.1)&&(a0.2==a1.2)) then
   some (.done false)
  else
   some (.next (s.1,s.2.1,aA .i64 (s.2.2+1)))
 else
  some (.done true)
def nK (p0:List (Int×Int)) (p1:List (Int×Int)):Option Bool:=
 bif (Int.ofNat p0.length) !=(Int.ofNat p1.length) then
  some false
 else
  aJ kW (p0,p1,0)
def c13:bN:=⟨aC.cons (aK.sl hO) (aC.one (aK.sl hO)),aK.bool,fun a=>nK a.1 a.2,.pure,false⟩
theorem aLY:aH aZ 13 c13:=Oc aKc rfl aF [] trivial fun a=>by kernel_rfl
def mT (p0:dC) (p1:Int×Int):Option Bool:=
 (sC p0).bind fun b0=>
 bif b0 then
  some true
 else
  (DN p0.clock.field).bind fun b1=>
  bif b1 then
   some true
  else
   (uF p0).bind fun r2=>
   (jD r2 p1).bind fun a3=>
   (jG p0 p1).bind fun a4=>
   (uN a3.1 a4.1).bind fun b5=>
   bif b5 then
    (nK a3.2.1 a4.2.1).bind fun b6=>
    bif b6 then
     bif a3.2.2==a4.2.2 then
      (uN r2 p0).bind fun b7=>
      some b7
     else
      some false
    else
     some false
   else
    some false
def c3:bN:=⟨aC.cons (aK.agg fW) (aC.one (aK.agg (cE.row hO))),aK.bool,fun a=>mT a.1 a.2,.pure,false⟩
theorem aNL:aH aZ 3 c3:=Oc aGY rfl aF [(7,c7),(8,c8),(9,c9),(9,c9p),(10,c10),(11,c11),(12,c12),(13,c13)] ⟨aMH,aMI,aMJ,aK1,aLq,aLR,aLX,aLY,trivial⟩ fun a=>by kernel_rfl
end
end Go.Proofs.YtmlghnibpjlchaaGreat
