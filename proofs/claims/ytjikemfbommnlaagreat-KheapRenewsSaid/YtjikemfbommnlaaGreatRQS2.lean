/- Plain functions for what the functions of the seat compute. Printed by a program. -/
import Derived.Test.YtjikemfbommnlaaGreatRVm3
import Derived.Test.YtjikemfbommnlaaGreatRQXT
import Derived.Test.YtjikemfbommnlaaGreatRQS1
set_option maxRecDepth 100000
namespace Go.Proofs.YtjikemfbommnlaaGreat
open Go.Vm
noncomputable section
def ref09_Altered_l1 (s:(Int×Int×Int×(List (Int×Int×Int))×Int×(List (Int×Int×Int))×(List Int)×(List Bool)×(List Int)×(List (Int×Int×Int×Int×Int))×(List Int)×(List (Int×Int×Int))×(List (Int×Int×Int))×Int×Int×Int×Int×Int×(List (Int×Int×Int))×Int×(List (Int×Int×Int))×(List Int)×(List Bool)×(List Int)×(List (Int×Int×Int×Int×Int))×(List Int)×(List (Int×Int×Int)))):Option (Step (Int×Int×Int×(List (Int×Int×Int))×Int×(List (Int×Int×Int))×(List Int)×(List Bool)×(List Int)×(List (Int×Int×Int×Int×Int))×(List Int)×(List (Int×Int×Int))×(List (Int×Int×Int))×Int×Int×Int×Int×Int×(List (Int×Int×Int))×Int×(List (Int×Int×Int))×(List Int)×(List Bool)×(List Int)×(List (Int×Int×Int×Int×Int))×(List Int)×(List (Int×Int×Int))) (Clock×Int)):=
 bif decide (s.1<(Int.ofNat s.2.2.2.2.2.1.length)) then
  (geti s.2.2.2.2.2.1 s.1).bind fun a0=>
  (ref09_DueAt (Clock.mk (s.2.1,s.2.2.1) (Field.mk s.2.2.2.1) (Certs.mk s.2.2.2.2.1 s.2.2.2.2.2.1) (Agenda.mk (Slots.mk s.2.2.2.2.2.2.1 s.2.2.2.2.2.2.2.1 s.2.2.2.2.2.2.2.2.1) s.2.2.2.2.2.2.2.2.2.1 s.2.2.2.2.2.2.2.2.2.2.1) s.2.2.2.2.2.2.2.2.2.2.2.1) a0.1).bind fun n1=>
  (ref09_When (Field.mk s.2.2.2.2.2.2.2.2.2.2.2.2.1) a0.2 (s.2.1,s.2.2.1)).bind fun a2=>
  bif a2.2 then
   bif decide (0<=n1) then
    (geti s.2.2.2.2.2.2.2.2.2.2.2.1 n1).bind fun a3=>
    (ref07_Rekeyed (Agenda.mk (Slots.mk s.2.2.2.2.2.2.2.2.2.2.2.2.2.2.2.2.2.2.2.2.2.1 s.2.2.2.2.2.2.2.2.2.2.2.2.2.2.2.2.2.2.2.2.2.2.1 s.2.2.2.2.2.2.2.2.2.2.2.2.2.2.2.2.2.2.2.2.2.2.2.1) s.2.2.2.2.2.2.2.2.2.2.2.2.2.2.2.2.2.2.2.2.2.2.2.2.1 s.2.2.2.2.2.2.2.2.2.2.2.2.2.2.2.2.2.2.2.2.2.2.2.2.2.1) a3.2 a2.1).bind fun r4=>
    (geti s.2.2.2.2.2.2.2.2.2.2.2.1 n1).bind fun a5=>
    (appendO s.2.2.2.2.2.2.2.2.2.2.2.2.2.2.2.2.2.2.2.2.2.2.2.2.2.2 [a5]).bind fun l6=>
    bif !a2.2 then
     bif decide (0<=n1) then
      (geti s.2.2.2.2.2.2.2.2.2.2.2.1 n1).bind fun a7=>
      (ref07_Removed r4 a7.2).bind fun r8=>
      bif !a2.2 then
       some (.next (wrapF .i64 (s.1+1),s.2.1,s.2.2.1,s.2.2.2.1,s.2.2.2.2.1,s.2.2.2.2.2.1,s.2.2.2.2.2.2.1,s.2.2.2.2.2.2.2.1,s.2.2.2.2.2.2.2.2.1,s.2.2.2.2.2.2.2.2.2.1,s.2.2.2.2.2.2.2.2.2.2.1,s.2.2.2.2.2.2.2.2.2.2.2.1,s.2.2.2.2.2.2.2.2.2.2.2.2.1,s.2.2.2.2.2.2.2.2.2.2.2.2.2.1,s.2.2.2.2.2.2.2.2.2.2.2.2.2.2.1,s.2.2.2.2.2.2.2.2.2.2.2.2.2.2.2.1,s.2.2.2.2.2.2.2.2.2.2.2.2.2.2.2.2.1,s.2.2.2.2.2.2.2.2.2.2.2.2.2.2.2.2.2.1,s.2.2.2.2.2.2.2.2.2.2.2.2.2.2.2.2.2.2.1,s.2.2.2.2.2.2.2.2.2.2.2.2.2.2.2.2.2.2.2.1,s.2.2.2.2.2.2.2.2.2.2.2.2.2.2.2.2.2.2.2.2.1,r8.slots.uses,r8.slots.used,r8.slots.free,r8.heap,r8.where_,l6))
      else
       bif decide (0<=n1) then
        some (.next (wrapF .i64 (s.1+1),s.2.1,s.2.2.1,s.2.2.2.1,s.2.2.2.2.1,s.2.2.2.2.2.1,s.2.2.2.2.2.2.1,s.2.2.2.2.2.2.2.1,s.2.2.2.2.2.2.2.2.1,s.2.2.2.2.2.2.2.2.2.1,s.2.2.2.2.2.2.2.2.2.2.1,s.2.2.2.2.2.2.2.2.2.2.2.1,s.2.2.2.2.2.2.2.2.2.2.2.2.1,s.2.2.2.2.2.2.2.2.2.2.2.2.2.1,s.2.2.2.2.2.2.2.2.2.2.2.2.2.2.1,s.2.2.2.2.2.2.2.2.2.2.2.2.2.2.2.1,s.2.2.2.2.2.2.2.2.2.2.2.2.2.2.2.2.1,s.2.2.2.2.2.2.2.2.2.2.2.2.2.2.2.2.2.1,s.2.2.2.2.2.2.2.2.2.2.2.2.2.2.2.2.2.2.1,s.2.2.2.2.2.2.2.2.2.2.2.2.2.2.2.2.2.2.2.1,s.2.2.2.2.2.2.2.2.2.2.2.2.2.2.2.2.2.2.2.2.1,r8.slots.uses,r8.slots.used,r8.slots.free,r8.heap,r8.where_,l6))
       else
        (ref06_Open r8.slots).bind fun b9=>
        bif !b9 then
         some (.done (Clock.mk (0,0) (Field.mk []) (Certs.mk 0 []) (Agenda.mk (Slots.mk [] [] []) [] []) [],18))
        else
         (ref07_Pushed r8 a2.1 a0.1).bind fun a10=>
         (appendO l6 [(a0.1,a10.2)]).bind fun l11=>
         some (.next (wrapF .i64 (s.1+1),s.2.1,s.2.2.1,s.2.2.2.1,s.2.2.2.2.1,s.2.2.2.2.2.1,s.2.2.2.2.2.2.1,s.2.2.2.2.2.2.2.1,s.2.2.2.2.2.2.2.2.1,s.2.2.2.2.2.2.2.2.2.1,s.2.2.2.2.2.2.2.2.2.2.1,s.2.2.2.2.2.2.2.2.2.2.2.1,s.2.2.2.2.2.2.2.2.2.2.2.2.1,s.2.2.2.2.2.2.2.2.2.2.2.2.2.1,s.2.2.2.2.2.2.2.2.2.2.2.2.2.2.1,s.2.2.2.2.2.2.2.2.2.2.2.2.2.2.2.1,s.2.2.2.2.2.2.2.2.2.2.2.2.2.2.2.2.1,s.2.2.2.2.2.2.2.2.2.2.2.2.2.2.2.2.2.1,s.2.2.2.2.2.2.2.2.2.2.2.2.2.2.2.2.2.2.1,s.2.2.2.2.2.2.2.2.2.2.2.2.2.2.2.2.2.2.2.1,s.2.2.2.2.2.2.2.2.2.2.2.2.2.2.2.2.2.2.2.2.1,a10.1.slots.uses,a10.1.slots.used,a10.1.slots.free,a10.1.heap,a10.1.where_,l11))
     else
      bif !a2.2 then
       some (.next (wrapF .i64 (s.1+1),s.2.1,s.2.2.1,s.2.2.2.1,s.2.2.2.2.1,s.2.2.2.2.2.1,s.2.2.2.2.2.2.1,s.2.2.2.2.2.2.2.1,s.2.2.2.2.2.2.2.2.1,s.2.2.2.2.2.2.2.2.2.1,s.2.2.2.2.2.2.2.2.2.2.1,s.2.2.2.2.2.2.2.2.2.2.2.1,s.2.2.2.2.2.2.2.2.2.2.2.2.1,s.2.2.2.2.2.2.2.2.2.2.2.2.2.1,s.2.2.2.2.2.2.2.2.2.2.2.2.2.2.1,s.2.2.2.2.2.2.2.2.2.2.2.2.2.2.2.1,s.2.2.2.2.2.2.2.2.2.2.2.2.2.2.2.2.1,s.2.2.2.2.2.2.2.2.2.2.2.2.2.2.2.2.2.1,s.2.2.2.2.2.2.2.2.2.2.2.2.2.2.2.2.2.2.1,s.2.2.2.2.2.2.2.2.2.2.2.2.2.2.2.2.2.2.2.1,s.2.2.2.2.2.2.2.2.2.2.2.2.2.2.2.2.2.2.2.2.1,r4.slots.uses,r4.slots.used,r4.slots.free,r4.heap,r4.where_,l6))
      else
       bif decide (0<=n1) then
        some (.next (wrapF .i64 (s.1+1),s.2.1,s.2.2.1,s.2.2.2.1,s.2.2.2.2.1,s.2.2.2.2.2.1,s.2.2.2.2.2.2.1,s.2.2.2.2.2.2.2.1,s.2.2.2.2.2.2.2.2.1,s.2.2.2.2.2.2.2.2.2.1,s.2.2.2.2.2.2.2.2.2.2.1,s.2.2.2.2.2.2.2.2.2.2.2.1,s.2.2.2.2.2.2.2.2.2.2.2.2.1,s.2.2.2.2.2.2.2.2.2.2.2.2.2.1,s.2.2.2.2.2.2.2.2.2.2.2.2.2.2.1,s.2.2.2.2.2.2.2.2.2.2.2.2.2.2.2.1,s.2.2.2.2.2.2.2.2.2.2.2.2.2.2.2.2.1,s.2.2.2.2.2.2.2.2.2.2.2.2.2.2.2.2.2.1,s.2.2.2.2.2.2.2.2.2.2.2.2.2.2.2.2.2.2.1,s.2.2.2.2.2.2.2.2.2.2.2.2.2.2.2.2.2.2.2.1,s.2.2.2.2.2.2.2.2.2.2.2.2.2.2.2.2.2.2.2.2.1,r4.slots.uses,r4.slots.used,r4.slots.free,r4.heap,r4.where_,l6))
       else
        (ref06_Open r4.slots).bind fun b12=>
        bif !b12 then
         some (.done (Clock.mk (0,0) (Field.mk []) (Certs.mk 0 []) (Agenda.mk (Slots.mk [] [] []) [] []) [],18))
        else
         (ref07_Pushed r4 a2.1 a0.1).bind fun a13=>
         (appendO l6 [(a0.1,a13.2)]).bind fun l14=>
         some (.next (wrapF .i64 (s.1+1),s.2.1,s.2.2.1,s.2.2.2.1,s.2.2.2.2.1,s.2.2.2.2.2.1,s.2.2.2.2.2.2.1,s.2.2.2.2.2.2.2.1,s.2.2.2.2.2.2.2.2.1,s.2.2.2.2.2.2.2.2.2.1,s.2.2.2.2.2.2.2.2.2.2.1,s.2.2.2.2.2.2.2.2.2.2.2.1,s.2.2.2.2.2.2.2.2.2.2.2.2.1,s.2.2.2.2.2.2.2.2.2.2.2.2.2.1,s.2.2.2.2.2.2.2.2.2.2.2.2.2.2.1,s.2.2.2.2.2.2.2.2.2.2.2.2.2.2.2.1,s.2.2.2.2.2.2.2.2.2.2.2.2.2.2.2.2.1,s.2.2.2.2.2.2.2.2.2.2.2.2.2.2.2.2.2.1,s.2.2.2.2.2.2.2.2.2.2.2.2.2.2.2.2.2.2.1,s.2.2.2.2.2.2.2.2.2.2.2.2.2.2.2.2.2.2.2.1,s.2.2.2.2.2.2.2.2.2.2.2.2.2.2.2.2.2.2.2.2.1,a13.1.slots.uses,a13.1.slots.used,a13.1.slots.free,a13.1.heap,a13.1.where_,l14))
    else
     bif !a2.2 then
      some (.next (wrapF .i64 (s.1+1),s.2.1,s.2.2.1,s.2.2.2.1,s.2.2.2.2.1,s.2.2.2.2.2.1,s.2.2.2.2.2.2.1,s.2.2.2.2.2.2.2.1,s.2.2.2.2.2.2.2.2.1,s.2.2.2.2.2.2.2.2.2.1,s.2.2.2.2.2.2.2.2.2.2.1,s.2.2.2.2.2.2.2.2.2.2.2.1,s.2.2.2.2.2.2.2.2.2.2.2.2.1,s.2.2.2.2.2.2.2.2.2.2.2.2.2.1,s.2.2.2.2.2.2.2.2.2.2.2.2.2.2.1,s.2.2.2.2.2.2.2.2.2.2.2.2.2.2.2.1,s.2.2.2.2.2.2.2.2.2.2.2.2.2.2.2.2.1,s.2.2.2.2.2.2.2.2.2.2.2.2.2.2.2.2.2.1,s.2.2.2.2.2.2.2.2.2.2.2.2.2.2.2.2.2.2.1,s.2.2.2.2.2.2.2.2.2.2.2.2.2.2.2.2.2.2.2.1,s.2.2.2.2.2.2.2.2.2.2.2.2.2.2.2.2.2.2.2.2.1,r4.slots.uses,r4.slots.used,r4.slots.free,r4.heap,r4.where_,l6))
     else
      bif decide (0<=n1) then
       some (.next (wrapF .i64 (s.1+1),s.2.1,s.2.2.1,s.2.2.2.1,s.2.2.2.2.1,s.2.2.2.2.2.1,s.2.2.2.2.2.2.1,s.2.2.2.2.2.2.2.1,s.2.2.2.2.2.2.2.2.1,s.2.2.2.2.2.2.2.2.2.1,s.2.2.2.2.2.2.2.2.2.2.1,s.2.2.2.2.2.2.2.2.2.2.2.1,s.2.2.2.2.2.2.2.2.2.2.2.2.1,s.2.2.2.2.2.2.2.2.2.2.2.2.2.1,s.2.2.2.2.2.2.2.2.2.2.2.2.2.2.1,s.2.2.2.2.2.2.2.2.2.2.2.2.2.2.2.1,s.2.2.2.2.2.2.2.2.2.2.2.2.2.2.2.2.1,s.2.2.2.2.2.2.2.2.2.2.2.2.2.2.2.2.2.1,s.2.2.2.2.2.2.2.2.2.2.2.2.2.2.2.2.2.2.1,s.2.2.2.2.2.2.2.2.2.2.2.2.2.2.2.2.2.2.2.1,s.2.2.2.2.2.2.2.2.2.2.2.2.2.2.2.2.2.2.2.2.1,r4.slots.uses,r4.slots.used,r4.slots.free,r4.heap,r4.where_,l6))
      else
       (ref06_Open r4.slots).bind fun b15=>
       bif !b15 then
        some (.done (Clock.mk (0,0) (Field.mk []) (Certs.mk 0 []) (Agenda.mk (Slots.mk [] [] []) [] []) [],18))
       else
        (ref07_Pushed r4 a2.1 a0.1).bind fun a16=>
        (appendO l6 [(a0.1,a16.2)]).bind fun l17=>
        some (.next (wrapF .i64 (s.1+1),s.2.1,s.2.2.1,s.2.2.2.1,s.2.2.2.2.1,s.2.2.2.2.2.1,s.2.2.2.2.2.2.1,s.2.2.2.2.2.2.2.1,s.2.2.2.2.2.2.2.2.1,s.2.2.2.2.2.2.2.2.2.1,s.2.2.2.2.2.2.2.2.2.2.1,s.2.2.2.2.2.2.2.2.2.2.2.1,s.2.2.2.2.2.2.2.2.2.2.2.2.1,s.2.2.2.2.2.2.2.2.2.2.2.2.2.1,s.2.2.2.2.2.2.2.2.2.2.2.2.2.2.1,s.2.2.2.2.2.2.2.2.2.2.2.2.2.2.2.1,s.2.2.2.2.2.2.2.2.2.2.2.2.2.2.2.2.1,s.2.2.2.2.2.2.2.2.2.2.2.2.2.2.2.2.2.1,s.2.2.2.2.2.2.2.2.2.2.2.2.2.2.2.2.2.2.1,s.2.2.2.2.2.2.2.2.2.2.2.2.2.2.2.2.2.2.2.1,s.2.2.2.2.2.2.2.2.2.2.2.2.2.2.2.2.2.2.2.2.1,a16.1.slots.uses,a16.1.slots.used,a16.1.slots.free,a16.1.heap,a16.1.where_,l17))
   else
    bif !a2.2 then
     bif decide (0<=n1) then
      (geti s.2.2.2.2.2.2.2.2.2.2.2.1 n1).bind fun a18=>
      (ref07_Removed (Agenda.mk (Slots.mk s.2.2.2.2.2.2.2.2.2.2.2.2.2.2.2.2.2.2.2.2.2.1 s.2.2.2.2.2.2.2.2.2.2.2.2.2.2.2.2.2.2.2.2.2.2.1 s.2.2.2.2.2.2.2.2.2.2.2.2.2.2.2.2.2.2.2.2.2.2.2.1) s.2.2.2.2.2.2.2.2.2.2.2.2.2.2.2.2.2.2.2.2.2.2.2.2.1 s.2.2.2.2.2.2.2.2.2.2.2.2.2.2.2.2.2.2.2.2.2.2.2.2.2.1) a18.2).bind fun r19=>
      bif !a2.2 then
       some (.next (wrapF .i64 (s.1+1),s.2.1,s.2.2.1,s.2.2.2.1,s.2.2.2.2.1,s.2.2.2.2.2.1,s.2.2.2.2.2.2.1,s.2.2.2.2.2.2.2.1,s.2.2.2.2.2.2.2.2.1,s.2.2.2.2.2.2.2.2.2.1,s.2.2.2.2.2.2.2.2.2.2.1,s.2.2.2.2.2.2.2.2.2.2.2.1,s.2.2.2.2.2.2.2.2.2.2.2.2.1,s.2.2.2.2.2.2.2.2.2.2.2.2.2.1,s.2.2.2.2.2.2.2.2.2.2.2.2.2.2.1,s.2.2.2.2.2.2.2.2.2.2.2.2.2.2.2.1,s.2.2.2.2.2.2.2.2.2.2.2.2.2.2.2.2.1,s.2.2.2.2.2.2.2.2.2.2.2.2.2.2.2.2.2.1,s.2.2.2.2.2.2.2.2.2.2.2.2.2.2.2.2.2.2.1,s.2.2.2.2.2.2.2.2.2.2.2.2.2.2.2.2.2.2.2.1,s.2.2.2.2.2.2.2.2.2.2.2.2.2.2.2.2.2.2.2.2.1,r19.slots.uses,r19.slots.used,r19.slots.free,r19.heap,r19.where_,s.2.2.2.2.2.2.2.2.2.2.2.2.2.2.2.2.2.2.2.2.2.2.2.2.2.2))
      else
       bif decide (0<=n1) then
        some (.next (wrapF .i64 (s.1+1),s.2.1,s.2.2.1,s.2.2.2.1,s.2.2.2.2.1,s.2.2.2.2.2.1,s.2.2.2.2.2.2.1,s.2.2.2.2.2.2.2.1,s.2.2.2.2.2.2.2.2.1,s.2.2.2.2.2.2.2.2.2.1,s.2.2.2.2.2.2.2.2.2.2.1,s.2.2.2.2.2.2.2.2.2.2.2.1,s.2.2.2.2.2.2.2.2.2.2.2.2.1,s.2.2.2.2.2.2.2.2.2.2.2.2.2.1,s.2.2.2.2.2.2.2.2.2.2.2.2.2.2.1,s.2.2.2.2.2.2.2.2.2.2.2.2.2.2.2.1,s.2.2.2.2.2.2.2.2.2.2.2.2.2.2.2.2.1,s.2.2.2.2.2.2.2.2.2.2.2.2.2.2.2.2.2.1,s.2.2.2.2.2.2.2.2.2.2.2.2.2.2.2.2.2.2.1,s.2.2.2.2.2.2.2.2.2.2.2.2.2.2.2.2.2.2.2.1,s.2.2.2.2.2.2.2.2.2.2.2.2.2.2.2.2.2.2.2.2.1,r19.slots.uses,r19.slots.used,r19.slots.free,r19.heap,r19.where_,s.2.2.2.2.2.2.2.2.2.2.2.2.2.2.2.2.2.2.2.2.2.2.2.2.2.2))
       else
        (ref06_Open r19.slots).bind fun b20=>
        bif !b20 then
         some (.done (Clock.mk (0,0) (Field.mk []) (Certs.mk 0 []) (Agenda.mk (Slots.mk [] [] []) [] []) [],18))
        else
         (ref07_Pushed r19 a2.1 a0.1).bind fun a21=>
         (appendO s.2.2.2.2.2.2.2.2.2.2.2.2.2.2.2.2.2.2.2.2.2.2.2.2.2.2 [(a0.1,a21.2)]).bind fun l22=>
         some (.next (wrapF .i64 (s.1+1),s.2.1,s.2.2.1,s.2.2.2.1,s.2.2.2.2.1,s.2.2.2.2.2.1,s.2.2.2.2.2.2.1,s.2.2.2.2.2.2.2.1,s.2.2.2.2.2.2.2.2.1,s.2.2.2.2.2.2.2.2.2.1,s.2.2.2.2.2.2.2.2.2.2.1,s.2.2.2.2.2.2.2.2.2.2.2.1,s.2.2.2.2.2.2.2.2.2.2.2.2.1,s.2.2.2.2.2.2.2.2.2.2.2.2.2.1,s.2.2.2.2.2.2.2.2.2.2.2.2.2.2.1,s.2.2.2.2.2.2.2.2.2.2.2.2.2.2.2.1,s.2.2.2.2.2.2.2.2.2.2.2.2.2.2.2.2.1,s.2.2.2.2.2.2.2.2.2.2.2.2.2.2.2.2.2.1,s.2.2.2.2.2.2.2.2.2.2.2.2.2.2.2.2.2.2.1,s.2.2.2.2.2.2.2.2.2.2.2.2.2.2.2.2.2.2.2.1,s.2.2.2.2.2.2.2.2.2.2.2.2.2.2.2.2.2.2.2.2.1,a21.1.slots.uses,a21.1.slots.used,a21.1.slots.free,a21.1.heap,a21.1.where_,l22))
     else
      bif !a2.2 then
       some (.next (wrapF .i64 (s.1+1),s.2))
      else
       bif decide (0<=n1) then
        some (.next (wrapF .i64 (s.1+1),s.2))
       else
        (ref06_Open (Slots.mk s.2.2.2.2.2.2.2.2.2.2.2.2.2.2.2.2.2.2.2.2.2.1 s.2.2.2.2.2.2.2.2.2.2.2.2.2.2.2.2.2.2.2.2.2.2.1 s.2.2.2.2.2.2.2.2.2.2.2.2.2.2.2.2.2.2.2.2.2.2.2.1)).bind fun b23=>
        bif !b23 then
         some (.done (Clock.mk (0,0) (Field.mk []) (Certs.mk 0 []) (Agenda.mk (Slots.mk [] [] []) [] []) [],18))
        else
         (ref07_Pushed (Agenda.mk (Slots.mk s.2.2.2.2.2.2.2.2.2.2.2.2.2.2.2.2.2.2.2.2.2.1 s.2.2.2.2.2.2.2.2.2.2.2.2.2.2.2.2.2.2.2.2.2.2.1 s.2.2.2.2.2.2.2.2.2.2.2.2.2.2.2.2.2.2.2.2.2.2.2.1) s.2.2.2.2.2.2.2.2.2.2.2.2.2.2.2.2.2.2.2.2.2.2.2.2.1 s.2.2.2.2.2.2.2.2.2.2.2.2.2.2.2.2.2.2.2.2.2.2.2.2.2.1) a2.1 a0.1).bind fun a24=>
         (appendO s.2.2.2.2.2.2.2.2.2.2.2.2.2.2.2.2.2.2.2.2.2.2.2.2.2.2 [(a0.1,a24.2)]).bind fun l25=>
         some (.next (wrapF .i64 (s.1+1),s.2.1,s.2.2.1,s.2.2.2.1,s.2.2.2.2.1,s.2.2.2.2.2.1,s.2.2.2.2.2.2.1,s.2.2.2.2.2.2.2.1,s.2.2.2.2.2.2.2.2.1,s.2.2.2.2.2.2.2.2.2.1,s.2.2.2.2.2.2.2.2.2.2.1,s.2.2.2.2.2.2.2.2.2.2.2.1,s.2.2.2.2.2.2.2.2.2.2.2.2.1,s.2.2.2.2.2.2.2.2.2.2.2.2.2.1,s.2.2.2.2.2.2.2.2.2.2.2.2.2.2.1,s.2.2.2.2.2.2.2.2.2.2.2.2.2.2.2.1,s.2.2.2.2.2.2.2.2.2.2.2.2.2.2.2.2.1,s.2.2.2.2.2.2.2.2.2.2.2.2.2.2.2.2.2.1,s.2.2.2.2.2.2.2.2.2.2.2.2.2.2.2.2.2.2.1,s.2.2.2.2.2.2.2.2.2.2.2.2.2.2.2.2.2.2.2.1,s.2.2.2.2.2.2.2.2.2.2.2.2.2.2.2.2.2.2.2.2.1,a24.1.slots.uses,a24.1.slots.used,a24.1.slots.free,a24.1.heap,a24.1.where_,l25))
    else
     bif !a2.2 then
      some (.next (wrapF .i64 (s.1+1),s.2))
     else
      bif decide (0<=n1) then
       some (.next (wrapF .i64 (s.1+1),s.2))
      else
       (ref06_Open (Slots.mk s.2.2.2.2.2.2.2.2.2.2.2.2.2.2.2.2.2.2.2.2.2.1 s.2.2.2.2.2.2.2.2.2.2.2.2.2.2.2.2.2.2.2.2.2.2.1 s.2.2.2.2.2.2.2.2.2.2.2.2.2.2.2.2.2.2.2.2.2.2.2.1)).bind fun b26=>
       bif !b26 then
        some (.done (Clock.mk (0,0) (Field.mk []) (Certs.mk 0 []) (Agenda.mk (Slots.mk [] [] []) [] []) [],18))
       else
        (ref07_Pushed (Agenda.mk (Slots.mk s.2.2.2.2.2.2.2.2.2.2.2.2.2.2.2.2.2.2.2.2.2.1 s.2.2.2.2.2.2.2.2.2.2.2.2.2.2.2.2.2.2.2.2.2.2.1 s.2.2.2.2.2.2.2.2.2.2.2.2.2.2.2.2.2.2.2.2.2.2.2.1) s.2.2.2.2.2.2.2.2.2.2.2.2.2.2.2.2.2.2.2.2.2.2.2.2.1 s.2.2.2.2.2.2.2.2.2.2.2.2.2.2.2.2.2.2.2.2.2.2.2.2.2.1) a2.1 a0.1).bind fun a27=>
        (appendO s.2.2.2.2.2.2.2.2.2.2.2.2.2.2.2.2.2.2.2.2.2.2.2.2.2.2 [(a0.1,a27.2)]).bind fun l28=>
        some (.next (wrapF .i64 (s.1+1),s.2.1,s.2.2.1,s.2.2.2.1,s.2.2.2.2.1,s.2.2.2.2.2.1,s.2.2.2.2.2.2.1,s.2.2.2.2.2.2.2.1,s.2.2.2.2.2.2.2.2.1,s.2.2.2.2.2.2.2.2.2.1,s.2.2.2.2.2.2.2.2.2.2.1,s.2.2.2.2.2.2.2.2.2.2.2.1,s.2.2.2.2.2.2.2.2.2.2.2.2.1,s.2.2.2.2.2.2.2.2.2.2.2.2.2.1,s.2.2.2.2.2.2.2.2.2.2.2.2.2.2.1,s.2.2.2.2.2.2.2.2.2.2.2.2.2.2.2.1,s.2.2.2.2.2.2.2.2.2.2.2.2.2.2.2.2.1,s.2.2.2.2.2.2.2.2.2.2.2.2.2.2.2.2.2.1,s.2.2.2.2.2.2.2.2.2.2.2.2.2.2.2.2.2.2.1,s.2.2.2.2.2.2.2.2.2.2.2.2.2.2.2.2.2.2.2.1,s.2.2.2.2.2.2.2.2.2.2.2.2.2.2.2.2.2.2.2.2.1,a27.1.slots.uses,a27.1.slots.used,a27.1.slots.free,a27.1.heap,a27.1.where_,l28))
  else
   bif !a2.2 then
    bif decide (0<=n1) then
     (geti s.2.2.2.2.2.2.2.2.2.2.2.1 n1).bind fun a29=>
     (ref07_Removed (Agenda.mk (Slots.mk s.2.2.2.2.2.2.2.2.2.2.2.2.2.2.2.2.2.2.2.2.2.1 s.2.2.2.2.2.2.2.2.2.2.2.2.2.2.2.2.2.2.2.2.2.2.1 s.2.2.2.2.2.2.2.2.2.2.2.2.2.2.2.2.2.2.2.2.2.2.2.1) s.2.2.2.2.2.2.2.2.2.2.2.2.2.2.2.2.2.2.2.2.2.2.2.2.1 s.2.2.2.2.2.2.2.2.2.2.2.2.2.2.2.2.2.2.2.2.2.2.2.2.2.1) a29.2).bind fun r30=>
     bif !a2.2 then
      some (.next (wrapF .i64 (s.1+1),s.2.1,s.2.2.1,s.2.2.2.1,s.2.2.2.2.1,s.2.2.2.2.2.1,s.2.2.2.2.2.2.1,s.2.2.2.2.2.2.2.1,s.2.2.2.2.2.2.2.2.1,s.2.2.2.2.2.2.2.2.2.1,s.2.2.2.2.2.2.2.2.2.2.1,s.2.2.2.2.2.2.2.2.2.2.2.1,s.2.2.2.2.2.2.2.2.2.2.2.2.1,s.2.2.2.2.2.2.2.2.2.2.2.2.2.1,s.2.2.2.2.2.2.2.2.2.2.2.2.2.2.1,s.2.2.2.2.2.2.2.2.2.2.2.2.2.2.2.1,s.2.2.2.2.2.2.2.2.2.2.2.2.2.2.2.2.1,s.2.2.2.2.2.2.2.2.2.2.2.2.2.2.2.2.2.1,s.2.2.2.2.2.2.2.2.2.2.2.2.2.2.2.2.2.2.1,s.2.2.2.2.2.2.2.2.2.2.2.2.2.2.2.2.2.2.2.1,s.2.2.2.2.2.2.2.2.2.2.2.2.2.2.2.2.2.2.2.2.1,r30.slots.uses,r30.slots.used,r30.slots.free,r30.heap,r30.where_,s.2.2.2.2.2.2.2.2.2.2.2.2.2.2.2.2.2.2.2.2.2.2.2.2.2.2))
     else
      bif decide (0<=n1) then
       some (.next (wrapF .i64 (s.1+1),s.2.1,s.2.2.1,s.2.2.2.1,s.2.2.2.2.1,s.2.2.2.2.2.1,s.2.2.2.2.2.2.1,s.2.2.2.2.2.2.2.1,s.2.2.2.2.2.2.2.2.1,s.2.2.2.2.2.2.2.2.2.1,s.2.2.2.2.2.2.2.2.2.2.1,s.2.2.2.2.2.2.2.2.2.2.2.1,s.2.2.2.2.2.2.2.2.2.2.2.2.1,s.2.2.2.2.2.2.2.2.2.2.2.2.2.1,s.2.2.2.2.2.2.2.2.2.2.2.2.2.2.1,s.2.2.2.2.2.2.2.2.2.2.2.2.2.2.2.1,s.2.2.2.2.2.2.2.2.2.2.2.2.2.2.2.2.1,s.2.2.2.2.2.2.2.2.2.2.2.2.2.2.2.2.2.1,s.2.2.2.2.2.2.2.2.2.2.2.2.2.2.2.2.2.2.1,s.2.2.2.2.2.2.2.2.2.2.2.2.2.2.2.2.2.2.2.1,s.2.2.2.2.2.2.2.2.2.2.2.2.2.2.2.2.2.2.2.2.1,r30.slots.uses,r30.slots.used,r30.slots.free,r30.heap,r30.where_,s.2.2.2.2.2.2.2.2.2.2.2.2.2.2.2.2.2.2.2.2.2.2.2.2.2.2))
      else
       (ref06_Open r30.slots).bind fun b31=>
       bif !b31 then
        some (.done (Clock.mk (0,0) (Field.mk []) (Certs.mk 0 []) (Agenda.mk (Slots.mk [] [] []) [] []) [],18))
       else
        (ref07_Pushed r30 a2.1 a0.1).bind fun a32=>
        (appendO s.2.2.2.2.2.2.2.2.2.2.2.2.2.2.2.2.2.2.2.2.2.2.2.2.2.2 [(a0.1,a32.2)]).bind fun l33=>
        some (.next (wrapF .i64 (s.1+1),s.2.1,s.2.2.1,s.2.2.2.1,s.2.2.2.2.1,s.2.2.2.2.2.1,s.2.2.2.2.2.2.1,s.2.2.2.2.2.2.2.1,s.2.2.2.2.2.2.2.2.1,s.2.2.2.2.2.2.2.2.2.1,s.2.2.2.2.2.2.2.2.2.2.1,s.2.2.2.2.2.2.2.2.2.2.2.1,s.2.2.2.2.2.2.2.2.2.2.2.2.1,s.2.2.2.2.2.2.2.2.2.2.2.2.2.1,s.2.2.2.2.2.2.2.2.2.2.2.2.2.2.1,s.2.2.2.2.2.2.2.2.2.2.2.2.2.2.2.1,s.2.2.2.2.2.2.2.2.2.2.2.2.2.2.2.2.1,s.2.2.2.2.2.2.2.2.2.2.2.2.2.2.2.2.2.1,s.2.2.2.2.2.2.2.2.2.2.2.2.2.2.2.2.2.2.1,s.2.2.2.2.2.2.2.2.2.2.2.2.2.2.2.2.2.2.2.1,s.2.2.2.2.2.2.2.2.2.2.2.2.2.2.2.2.2.2.2.2.1,a32.1.slots.uses,a32.1.slots.used,a32.1.slots.free,a32.1.heap,a32.1.where_,l33))
    else
     bif !a2.2 then
      some (.next (wrapF .i64 (s.1+1),s.2))
     else
      bif decide (0<=n1) then
       some (.next (wrapF .i64 (s.1+1),s.2))
      else
       (ref06_Open (Slots.mk s.2.2.2.2.2.2.2.2.2.2.2.2.2.2.2.2.2.2.2.2.2.1 s.2.2.2.2.2.2.2.2.2.2.2.2.2.2.2.2.2.2.2.2.2.2.1 s.2.2.2.2.2.2.2.2.2.2.2.2.2.2.2.2.2.2.2.2.2.2.2.1)).bind fun b34=>
       bif !b34 then
        some (.done (Clock.mk (0,0) (Field.mk []) (Certs.mk 0 []) (Agenda.mk (Slots.mk [] [] []) [] []) [],18))
       else
        (ref07_Pushed (Agenda.mk (Slots.mk s.2.2.2.2.2.2.2.2.2.2.2.2.2.2.2.2.2.2.2.2.2.1 s.2.2.2.2.2.2.2.2.2.2.2.2.2.2.2.2.2.2.2.2.2.2.1 s.2.2.2.2.2.2.2.2.2.2.2.2.2.2.2.2.2.2.2.2.2.2.2.1) s.2.2.2.2.2.2.2.2.2.2.2.2.2.2.2.2.2.2.2.2.2.2.2.2.1 s.2.2.2.2.2.2.2.2.2.2.2.2.2.2.2.2.2.2.2.2.2.2.2.2.2.1) a2.1 a0.1).bind fun a35=>
        (appendO s.2.2.2.2.2.2.2.2.2.2.2.2.2.2.2.2.2.2.2.2.2.2.2.2.2.2 [(a0.1,a35.2)]).bind fun l36=>
        some (.next (wrapF .i64 (s.1+1),s.2.1,s.2.2.1,s.2.2.2.1,s.2.2.2.2.1,s.2.2.2.2.2.1,s.2.2.2.2.2.2.1,s.2.2.2.2.2.2.2.1,s.2.2.2.2.2.2.2.2.1,s.2.2.2.2.2.2.2.2.2.1,s.2.2.2.2.2.2.2.2.2.2.1,s.2.2.2.2.2.2.2.2.2.2.2.1,s.2.2.2.2.2.2.2.2.2.2.2.2.1,s.2.2.2.2.2.2.2.2.2.2.2.2.2.1,s.2.2.2.2.2.2.2.2.2.2.2.2.2.2.1,s.2.2.2.2.2.2.2.2.2.2.2.2.2.2.2.1,s.2.2.2.2.2.2.2.2.2.2.2.2.2.2.2.2.1,s.2.2.2.2.2.2.2.2.2.2.2.2.2.2.2.2.2.1,s.2.2.2.2.2.2.2.2.2.2.2.2.2.2.2.2.2.2.1,s.2.2.2.2.2.2.2.2.2.2.2.2.2.2.2.2.2.2.2.1,s.2.2.2.2.2.2.2.2.2.2.2.2.2.2.2.2.2.2.2.2.1,a35.1.slots.uses,a35.1.slots.used,a35.1.slots.free,a35.1.heap,a35.1.where_,l36))
   else
    bif !a2.2 then
     some (.next (wrapF .i64 (s.1+1),s.2))
    else
     bif decide (0<=n1) then
      some (.next (wrapF .i64 (s.1+1),s.2))
     else
      (ref06_Open (Slots.mk s.2.2.2.2.2.2.2.2.2.2.2.2.2.2.2.2.2.2.2.2.2.1 s.2.2.2.2.2.2.2.2.2.2.2.2.2.2.2.2.2.2.2.2.2.2.1 s.2.2.2.2.2.2.2.2.2.2.2.2.2.2.2.2.2.2.2.2.2.2.2.1)).bind fun b37=>
      bif !b37 then
       some (.done (Clock.mk (0,0) (Field.mk []) (Certs.mk 0 []) (Agenda.mk (Slots.mk [] [] []) [] []) [],18))
      else
       (ref07_Pushed (Agenda.mk (Slots.mk s.2.2.2.2.2.2.2.2.2.2.2.2.2.2.2.2.2.2.2.2.2.1 s.2.2.2.2.2.2.2.2.2.2.2.2.2.2.2.2.2.2.2.2.2.2.1 s.2.2.2.2.2.2.2.2.2.2.2.2.2.2.2.2.2.2.2.2.2.2.2.1) s.2.2.2.2.2.2.2.2.2.2.2.2.2.2.2.2.2.2.2.2.2.2.2.2.1 s.2.2.2.2.2.2.2.2.2.2.2.2.2.2.2.2.2.2.2.2.2.2.2.2.2.1) a2.1 a0.1).bind fun a38=>
       (appendO s.2.2.2.2.2.2.2.2.2.2.2.2.2.2.2.2.2.2.2.2.2.2.2.2.2.2 [(a0.1,a38.2)]).bind fun l39=>
       some (.next (wrapF .i64 (s.1+1),s.2.1,s.2.2.1,s.2.2.2.1,s.2.2.2.2.1,s.2.2.2.2.2.1,s.2.2.2.2.2.2.1,s.2.2.2.2.2.2.2.1,s.2.2.2.2.2.2.2.2.1,s.2.2.2.2.2.2.2.2.2.1,s.2.2.2.2.2.2.2.2.2.2.1,s.2.2.2.2.2.2.2.2.2.2.2.1,s.2.2.2.2.2.2.2.2.2.2.2.2.1,s.2.2.2.2.2.2.2.2.2.2.2.2.2.1,s.2.2.2.2.2.2.2.2.2.2.2.2.2.2.1,s.2.2.2.2.2.2.2.2.2.2.2.2.2.2.2.1,s.2.2.2.2.2.2.2.2.2.2.2.2.2.2.2.2.1,s.2.2.2.2.2.2.2.2.2.2.2.2.2.2.2.2.2.1,s.2.2.2.2.2.2.2.2.2.2.2.2.2.2.2.2.2.2.1,s.2.2.2.2.2.2.2.2.2.2.2.2.2.2.2.2.2.2.2.1,s.2.2.2.2.2.2.2.2.2.2.2.2.2.2.2.2.2.2.2.2.1,a38.1.slots.uses,a38.1.slots.used,a38.1.slots.free,a38.1.heap,a38.1.where_,l39))
 else
  some (.done (Clock.mk (s.2.2.2.2.2.2.2.2.2.2.2.2.2.2.2.2.1,s.2.2.2.2.2.2.2.2.2.2.2.2.2.2.2.2.2.1) (Field.mk s.2.2.2.2.2.2.2.2.2.2.2.2.2.2.2.2.2.2.1) (Certs.mk s.2.2.2.2.2.2.2.2.2.2.2.2.2.2.2.2.2.2.2.1 s.2.2.2.2.2.2.2.2.2.2.2.2.2.2.2.2.2.2.2.2.1) (Agenda.mk (Slots.mk s.2.2.2.2.2.2.2.2.2.2.2.2.2.2.2.2.2.2.2.2.2.1 s.2.2.2.2.2.2.2.2.2.2.2.2.2.2.2.2.2.2.2.2.2.2.1 s.2.2.2.2.2.2.2.2.2.2.2.2.2.2.2.2.2.2.2.2.2.2.2.1) s.2.2.2.2.2.2.2.2.2.2.2.2.2.2.2.2.2.2.2.2.2.2.2.2.1 s.2.2.2.2.2.2.2.2.2.2.2.2.2.2.2.2.2.2.2.2.2.2.2.2.2.1) s.2.2.2.2.2.2.2.2.2.2.2.2.2.2.2.2.2.2.2.2.2.2.2.2.2.2,0))
def ref09_Altered (p0:Clock) (p1:Field):Option (Clock×Int):=
 (ref09_Twin p0).bind fun r0=>
 (ref03_Twin p1).bind fun r1=>
 whileO ref09_Altered_l1 (0,p0.now.1,p0.now.2,p0.field.points,p0.certs.next_,p0.certs.list,p0.agenda.slots.uses,p0.agenda.slots.used,p0.agenda.slots.free,p0.agenda.heap,p0.agenda.where_,p0.due,p1.points,0,0,0,r0.now.1,r0.now.2,r1.points,r0.certs.next_,r0.certs.list,r0.agenda.slots.uses,r0.agenda.slots.used,r0.agenda.slots.free,r0.agenda.heap,r0.agenda.where_,[])
def c59:Con:=⟨Args.cons (Arg.agg Clock_c) (Args.one (Arg.agg Field_c)),Arg.tup (Args.cons (Arg.agg Clock_c) (Args.one (Arg.int .i64))),fun a=>ref09_Altered a.1 a.2,.frz,false⟩
theorem c59_ok:ConOK tab 59 c59:=Oc tab_59 rfl whileL [(6,c6),(6,c6p),(11,c11),(11,c11p),(90,c90),(52,c52),(92,c92),(91,c91),(93,c93),(94,c94)] ⟨c6_ok,c6p_ok,c11_ok,c11p_ok,c90_ok,c52_ok,c92_ok,c91_ok,c93_ok,c94_ok,trivial⟩ fun a=>by kernel_rfl
def ref08_Has_l1 (s:(Int×Int×(List (Int×Int×Int))×Int×Int)):Option (Step (Int×Int×(List (Int×Int×Int))×Int×Int) Bool):=
 bif decide (s.1<(Int.ofNat s.2.2.1.length)) then
  (geti s.2.2.1 s.1).bind fun a0=>
  bif (a0.2.1==s.2.2.2.1)&&(a0.2.2==s.2.2.2.2) then
   some (.done true)
  else
   some (.next (wrapF .i64 (s.1+1),s.2))
 else
  some (.done false)
def ref08_Has (p0:Certs) (p1:Int×Int):Option Bool:=
 whileO ref08_Has_l1 (0,p0.next_,p0.list,p1)
def c60:Con:=⟨Args.cons (Arg.agg Certs_c) (Args.one (Arg.agg (Cod.row kii))),Arg.bool,fun a=>ref08_Has a.1 a.2,.pure,false⟩
theorem c60_ok:ConOK tab 60 c60:=Oc tab_60 rfl whileL [] trivial fun a=>by kernel_rfl
def ref08_Add (p0:Certs) (p1:Int×Int):Option (Certs×Int×Int):=
 (ref08_Check p0).bind fun n0=>
 bif n0 !=0 then
  some (Certs.mk 0 [],0,8)
 else
  (ref08_Cert p1).bind fun b1=>
  bif !b1 then
   some (Certs.mk 0 [],0,8)
  else
   (ref08_Has p0 p1).bind fun b2=>
   bif b2 then
    some (Certs.mk 0 [],0,14)
   else
    bif (Int.ofNat p0.list.length)==200 then
     some (Certs.mk 0 [],0,18)
    else
     bif p0.next_==1000000 then
      some (Certs.mk 0 [],0,18)
     else
      (ref08_Twin p0).bind fun r3=>
      (appendO r3.list [(p0.next_,p1)]).bind fun l4=>
      some (Certs.mk (wrapF .i64 (r3.next_+1)) l4,p0.next_,0)
def c95:Con:=⟨Args.cons (Arg.agg Certs_c) (Args.one (Arg.agg (Cod.row kii))),Arg.tup (Args.cons (Arg.agg Certs_c) (Args.cons (Arg.int .i64) (Args.one (Arg.int .i64)))),fun a=>ref08_Add a.1 a.2,.frz,false⟩
theorem c95_ok:ConOK tab 95 c95:=Oc tab_95 rfl whileL [(49,c49),(55,c55),(60,c60),(12,c12),(12,c12p)] ⟨c49_ok,c55_ok,c60_ok,c12_ok,c12p_ok,trivial⟩ fun a=>by kernel_rfl
def ref09_Added (p0:Clock) (p1:Int×Int):Option (Clock×Int×Int):=
 (ref08_Add p0.certs p1).bind fun a0=>
 bif a0.2.2 !=0 then
  some (Clock.mk (0,0) (Field.mk []) (Certs.mk 0 []) (Agenda.mk (Slots.mk [] [] []) [] []) [],0,a0.2.2)
 else
  (ref09_Twin p0).bind fun r1=>
  (ref09_When p0.field p1 p0.now).bind fun a2=>
  bif !a2.2 then
   some (Clock.mk r1.now r1.field a0.1 r1.agenda r1.due,a0.2.1,0)
  else
   (ref06_Open p0.agenda.slots).bind fun b3=>
   bif !b3 then
    some (Clock.mk (0,0) (Field.mk []) (Certs.mk 0 []) (Agenda.mk (Slots.mk [] [] []) [] []) [],0,18)
   else
    (ref07_Pushed p0.agenda a2.1 a0.2.1).bind fun a4=>
    (appendO r1.due [(a0.2.1,a4.2)]).bind fun l5=>
    some (Clock.mk r1.now r1.field a0.1 a4.1 l5,a0.2.1,0)
def c61:Con:=⟨Args.cons (Arg.agg Clock_c) (Args.one (Arg.agg (Cod.row kii))),Arg.tup (Args.cons (Arg.agg Clock_c) (Args.cons (Arg.int .i64) (Args.one (Arg.int .i64)))),fun a=>ref09_Added a.1 a.2,.frz,false⟩
theorem c61_ok:ConOK tab 61 c61:=Oc tab_61 rfl whileL [(95,c95),(6,c6),(6,c6p),(52,c52),(93,c93),(94,c94)] ⟨c95_ok,c6_ok,c6p_ok,c52_ok,c93_ok,c94_ok,trivial⟩ fun a=>by kernel_rfl
def ref13_Renewed_l1 (s:((List (Int×Int))×Int×Int×Int×Int×Int×Int×(List (Int×Int×Int))×Int×(List (Int×Int×Int))×(List Int)×(List Bool)×(List Int)×(List (Int×Int×Int×Int×Int))×(List Int)×(List (Int×Int×Int)))):Option (Step ((List (Int×Int))×Int×Int×Int×Int×Int×Int×(List (Int×Int×Int))×Int×(List (Int×Int×Int))×(List Int)×(List Bool)×(List Int)×(List (Int×Int×Int×Int×Int))×(List Int)×(List (Int×Int×Int))) (Step ((List (Int×Int))×Int×Int×Int×(List (Int×Int×Int))×Int×(List (Int×Int×Int))×(List Int)×(List Bool)×(List Int)×(List (Int×Int×Int×Int×Int))×(List Int)×(List (Int×Int×Int))×(List (Int×Int×Int))×Int×Int×Int×Int×Int×(List (Int×Int×Int))×Int×(List (Int×Int×Int))×(List Int)×(List Bool)×(List Int)×(List (Int×Int×Int×Int×Int))×(List Int)×(List (Int×Int×Int))) (Clock×Int))):=
 bif decide (s.2.1<(Int.ofNat s.1.length)) then
  (geti s.1 s.2.1).bind fun a0=>
  (ref08_Has (Certs.mk s.2.2.2.2.2.2.2.2.1 s.2.2.2.2.2.2.2.2.2.1) a0).bind fun b1=>
  bif b1 then
   some (.next (s.1,wrapF .i64 (s.2.1+1),s.2.2))
  else
   (geti s.1 s.2.1).bind fun a2=>
   (ref09_Added (Clock.mk (s.2.2.2.2.2.1,s.2.2.2.2.2.2.1) (Field.mk s.2.2.2.2.2.2.2.1) (Certs.mk s.2.2.2.2.2.2.2.2.1 s.2.2.2.2.2.2.2.2.2.1) (Agenda.mk (Slots.mk s.2.2.2.2.2.2.2.2.2.2.1 s.2.2.2.2.2.2.2.2.2.2.2.1 s.2.2.2.2.2.2.2.2.2.2.2.2.1) s.2.2.2.2.2.2.2.2.2.2.2.2.2.1 s.2.2.2.2.2.2.2.2.2.2.2.2.2.2.1) s.2.2.2.2.2.2.2.2.2.2.2.2.2.2.2) a2).bind fun a3=>
   bif a3.2.2 !=0 then
    some (.done (.done (Clock.mk (0,0) (Field.mk []) (Certs.mk 0 []) (Agenda.mk (Slots.mk [] [] []) [] []) [],a3.2.2)))
   else
    some (.next (s.1,wrapF .i64 (s.2.1+1),s.2.2.1,s.2.2.2.1,s.2.2.2.2.1,a3.1.now.1,a3.1.now.2,a3.1.field.points,a3.1.certs.next_,a3.1.certs.list,a3.1.agenda.slots.uses,a3.1.agenda.slots.used,a3.1.agenda.slots.free,a3.1.agenda.heap,a3.1.agenda.where_,a3.1.due))
 else
  some (.done (.done (Clock.mk (s.2.2.2.2.2.1,s.2.2.2.2.2.2.1) (Field.mk s.2.2.2.2.2.2.2.1) (Certs.mk s.2.2.2.2.2.2.2.2.1 s.2.2.2.2.2.2.2.2.2.1) (Agenda.mk (Slots.mk s.2.2.2.2.2.2.2.2.2.2.1 s.2.2.2.2.2.2.2.2.2.2.2.1 s.2.2.2.2.2.2.2.2.2.2.2.2.1) s.2.2.2.2.2.2.2.2.2.2.2.2.2.1 s.2.2.2.2.2.2.2.2.2.2.2.2.2.2.1) s.2.2.2.2.2.2.2.2.2.2.2.2.2.2.2,0)))
def ref13_Renewed_l2 (s:((List (Int×Int))×Int×Int×Int×(List (Int×Int×Int))×Int×(List (Int×Int×Int))×(List Int)×(List Bool)×(List Int)×(List (Int×Int×Int×Int×Int))×(List Int)×(List (Int×Int×Int))×(List (Int×Int×Int))×Int×Int×Int×Int×Int×(List (Int×Int×Int))×Int×(List (Int×Int×Int))×(List Int)×(List Bool)×(List Int)×(List (Int×Int×Int×Int×Int))×(List Int)×(List (Int×Int×Int)))):Option (Step ((List (Int×Int))×Int×Int×Int×(List (Int×Int×Int))×Int×(List (Int×Int×Int))×(List Int)×(List Bool)×(List Int)×(List (Int×Int×Int×Int×Int))×(List Int)×(List (Int×Int×Int))×(List (Int×Int×Int))×Int×Int×Int×Int×Int×(List (Int×Int×Int))×Int×(List (Int×Int×Int))×(List Int)×(List Bool)×(List Int)×(List (Int×Int×Int×Int×Int))×(List Int)×(List (Int×Int×Int))) (Clock×Int)):=
 bif decide (s.2.1<(Int.ofNat s.2.2.2.2.2.2.1.length)) then
  (geti s.2.2.2.2.2.2.1 s.2.1).bind fun a0=>
  (ref13_In s.1 a0.2).bind fun b1=>
  bif !b1 then
   (geti s.2.2.2.2.2.2.1 s.2.1).bind fun a2=>
   (ref09_Gone (Clock.mk (s.2.2.2.2.2.2.2.2.2.2.2.2.2.2.2.2.2.1,s.2.2.2.2.2.2.2.2.2.2.2.2.2.2.2.2.2.2.1) (Field.mk s.2.2.2.2.2.2.2.2.2.2.2.2.2.2.2.2.2.2.2.1) (Certs.mk s.2.2.2.2.2.2.2.2.2.2.2.2.2.2.2.2.2.2.2.2.1 s.2.2.2.2.2.2.2.2.2.2.2.2.2.2.2.2.2.2.2.2.2.1) (Agenda.mk (Slots.mk s.2.2.2.2.2.2.2.2.2.2.2.2.2.2.2.2.2.2.2.2.2.2.1 s.2.2.2.2.2.2.2.2.2.2.2.2.2.2.2.2.2.2.2.2.2.2.2.1 s.2.2.2.2.2.2.2.2.2.2.2.2.2.2.2.2.2.2.2.2.2.2.2.2.1) s.2.2.2.2.2.2.2.2.2.2.2.2.2.2.2.2.2.2.2.2.2.2.2.2.2.1 s.2.2.2.2.2.2.2.2.2.2.2.2.2.2.2.2.2.2.2.2.2.2.2.2.2.2.1) s.2.2.2.2.2.2.2.2.2.2.2.2.2.2.2.2.2.2.2.2.2.2.2.2.2.2.2) a2.1).bind fun r3=>
   some (.next (s.1,wrapF .i64 (s.2.1+1),s.2.2.1,s.2.2.2.1,s.2.2.2.2.1,s.2.2.2.2.2.1,s.2.2.2.2.2.2.1,s.2.2.2.2.2.2.2.1,s.2.2.2.2.2.2.2.2.1,s.2.2.2.2.2.2.2.2.2.1,s.2.2.2.2.2.2.2.2.2.2.1,s.2.2.2.2.2.2.2.2.2.2.2.1,s.2.2.2.2.2.2.2.2.2.2.2.2.1,s.2.2.2.2.2.2.2.2.2.2.2.2.2.1,s.2.2.2.2.2.2.2.2.2.2.2.2.2.2.1,s.2.2.2.2.2.2.2.2.2.2.2.2.2.2.2.1,s.2.2.2.2.2.2.2.2.2.2.2.2.2.2.2.2.1,r3.now.1,r3.now.2,r3.field.points,r3.certs.next_,r3.certs.list,r3.agenda.slots.uses,r3.agenda.slots.used,r3.agenda.slots.free,r3.agenda.heap,r3.agenda.where_,r3.due))
  else
   some (.next (s.1,wrapF .i64 (s.2.1+1),s.2.2))
 else
  (ref03_Same (Field.mk s.2.2.2.2.2.2.2.2.2.2.2.2.2.2.2.2.2.2.2.1) (Field.mk s.2.2.2.2.2.2.2.2.2.2.2.2.2.1)).bind fun b4=>
  bif !b4 then
   (ref09_Altered (Clock.mk (s.2.2.2.2.2.2.2.2.2.2.2.2.2.2.2.2.2.1,s.2.2.2.2.2.2.2.2.2.2.2.2.2.2.2.2.2.2.1) (Field.mk s.2.2.2.2.2.2.2.2.2.2.2.2.2.2.2.2.2.2.2.1) (Certs.mk s.2.2.2.2.2.2.2.2.2.2.2.2.2.2.2.2.2.2.2.2.1 s.2.2.2.2.2.2.2.2.2.2.2.2.2.2.2.2.2.2.2.2.2.1) (Agenda.mk (Slots.mk s.2.2.2.2.2.2.2.2.2.2.2.2.2.2.2.2.2.2.2.2.2.2.1 s.2.2.2.2.2.2.2.2.2.2.2.2.2.2.2.2.2.2.2.2.2.2.2.1 s.2.2.2.2.2.2.2.2.2.2.2.2.2.2.2.2.2.2.2.2.2.2.2.2.1) s.2.2.2.2.2.2.2.2.2.2.2.2.2.2.2.2.2.2.2.2.2.2.2.2.2.1 s.2.2.2.2.2.2.2.2.2.2.2.2.2.2.2.2.2.2.2.2.2.2.2.2.2.2.1) s.2.2.2.2.2.2.2.2.2.2.2.2.2.2.2.2.2.2.2.2.2.2.2.2.2.2.2) (Field.mk s.2.2.2.2.2.2.2.2.2.2.2.2.2.1)).bind fun a5=>
   bif a5.2 !=0 then
    some (.done (Clock.mk (0,0) (Field.mk []) (Certs.mk 0 []) (Agenda.mk (Slots.mk [] [] []) [] []) [],a5.2))
   else
    whileO ref13_Renewed_l1 (s.1,0,s.2.2.2.2.2.2.2.2.2.2.2.2.2.2.1,s.2.2.2.2.2.2.2.2.2.2.2.2.2.2.2.1,s.2.2.2.2.2.2.2.2.2.2.2.2.2.2.2.2.1,a5.1.now.1,a5.1.now.2,a5.1.field.points,a5.1.certs.next_,a5.1.certs.list,a5.1.agenda.slots.uses,a5.1.agenda.slots.used,a5.1.agenda.slots.free,a5.1.agenda.heap,a5.1.agenda.where_,a5.1.due)
  else
   whileO ref13_Renewed_l1 (s.1,0,s.2.2.2.2.2.2.2.2.2.2.2.2.2.2)
def ref13_Renewed (p0:Clock) (p1:Field) (p2:List (Int×Int)):Option (Clock×Int):=
 (ref09_Twin p0).bind fun r0=>
 whileO ref13_Renewed_l2 (p2,0,p0.now.1,p0.now.2,p0.field.points,p0.certs.next_,p0.certs.list,p0.agenda.slots.uses,p0.agenda.slots.used,p0.agenda.slots.free,p0.agenda.heap,p0.agenda.where_,p0.due,p1.points,0,0,0,r0.now.1,r0.now.2,r0.field.points,r0.certs.next_,r0.certs.list,r0.agenda.slots.uses,r0.agenda.slots.used,r0.agenda.slots.free,r0.agenda.heap,r0.agenda.where_,r0.due)
def c23:Con:=⟨Args.cons (Arg.agg Clock_c) (Args.cons (Arg.agg Field_c) (Args.one (Arg.sl kii))),Arg.tup (Args.cons (Arg.agg Clock_c) (Args.one (Arg.int .i64))),fun a=>ref13_Renewed a.1 a.2.1 a.2.2,.frz,false⟩
theorem c23_ok:ConOK tab 23 c23:=Oc tab_23 rfl whileL [(6,c6),(6,c6p),(56,c56),(58,c58),(24,c24),(59,c59),(60,c60),(61,c61)] ⟨c6_ok,c6p_ok,c56_ok,c58_ok,c24_ok,c59_ok,c60_ok,c61_ok,trivial⟩ fun a=>by kernel_rfl
def ref13_Renew (p0:Clock) (p1:Field) (p2:List (Int×Int)):Option (Clock×Int):=
 (ref09_Check p0).bind fun n0=>
 bif n0 !=0 then
  (ref09_Check p0).bind fun n1=>
  some (Clock.mk (0,0) (Field.mk []) (Certs.mk 0 []) (Agenda.mk (Slots.mk [] [] []) [] []) [],n1)
 else
  (ref03_Check p1).bind fun n2=>
  bif n2 !=0 then
   (ref03_Check p1).bind fun n3=>
   some (Clock.mk (0,0) (Field.mk []) (Certs.mk 0 []) (Agenda.mk (Slots.mk [] [] []) [] []) [],n3)
  else
   (ref13_Edged p1 p2).bind fun n4=>
   bif n4 !=0 then
    (ref13_Edged p1 p2).bind fun n5=>
    some (Clock.mk (0,0) (Field.mk []) (Certs.mk 0 []) (Agenda.mk (Slots.mk [] [] []) [] []) [],n5)
   else
    (ref13_Renewed p0 p1 p2).bind fun a6=>
    some a6
def c8:Con:=⟨Args.cons (Arg.agg Clock_c) (Args.cons (Arg.agg Field_c) (Args.one (Arg.sl kii))),Arg.tup (Args.cons (Arg.agg Clock_c) (Args.one (Arg.int .i64))),fun a=>ref13_Renew a.1 a.2.1 a.2.2,.frz,false⟩
theorem c8_ok:ConOK tab 8 c8:=Oc tab_8 rfl whileL [(20,c20),(21,c21),(22,c22),(23,c23)] ⟨c20_ok,c21_ok,c22_ok,c23_ok,trivial⟩ fun a=>by kernel_rfl
def ref08_Same_l1 (s:(Int×Int×(List (Int×Int×Int))×Int×(List (Int×Int×Int)))):Option (Step (Int×Int×(List (Int×Int×Int))×Int×(List (Int×Int×Int))) Bool):=
 bif decide (s.1<(Int.ofNat s.2.2.1.length)) then
  (geti s.2.2.1 s.1).bind fun a0=>
  (geti s.2.2.2.2 s.1).bind fun a1=>
  bif !((a0.1==a1.1)&&((a0.2.1==a1.2.1)&&(a0.2.2==a1.2.2))) then
   some (.done false)
  else
   some (.next (wrapF .i64 (s.1+1),s.2))
 else
  some (.done true)
def ref08_Same (p0:Certs) (p1:Certs):Option Bool:=
 bif p0.next_ !=p1.next_ then
  some false
 else
  bif (Int.ofNat p0.list.length) !=(Int.ofNat p1.list.length) then
   some false
  else
   whileO ref08_Same_l1 (0,p0.next_,p0.list,p1.next_,p1.list)
def c25:Con:=⟨Args.cons (Arg.agg Certs_c) (Args.one (Arg.agg Certs_c)),Arg.bool,fun a=>ref08_Same a.1 a.2,.pure,false⟩
theorem c25_ok:ConOK tab 25 c25:=Oc tab_25 rfl whileL [] trivial fun a=>by kernel_rfl
def ref06_SameInts_l1 (s:((List Int)×(List Int)×Int)):Option (Step ((List Int)×(List Int)×Int) Bool):=
 bif decide (s.2.2<(Int.ofNat s.1.length)) then
  (geti s.1 s.2.2).bind fun n0=>
  (geti s.2.1 s.2.2).bind fun n1=>
  bif n0 !=n1 then
   some (.done false)
  else
   some (.next (s.1,s.2.1,wrapF .i64 (s.2.2+1)))
 else
  some (.done true)
def ref06_SameInts (p0:List Int) (p1:List Int):Option Bool:=
 bif (Int.ofNat p0.length) !=(Int.ofNat p1.length) then
  some false
 else
  whileO ref06_SameInts_l1 (p0,p1,0)
def c63:Con:=⟨Args.cons (Arg.sl ki) (Args.one (Arg.sl ki)),Arg.bool,fun a=>ref06_SameInts a.1 a.2,.pure,false⟩
theorem c63_ok:ConOK tab 63 c63:=Oc tab_63 rfl whileL [] trivial fun a=>by kernel_rfl
def ref06_SameBools_l1 (s:((List Bool)×(List Bool)×Int)):Option (Step ((List Bool)×(List Bool)×Int) Bool):=
 bif decide (s.2.2<(Int.ofNat s.1.length)) then
  (geti s.1 s.2.2).bind fun b0=>
  (geti s.2.1 s.2.2).bind fun b1=>
  bif !(b0==b1) then
   some (.done false)
  else
   some (.next (s.1,s.2.1,wrapF .i64 (s.2.2+1)))
 else
  some (.done true)
def ref06_SameBools (p0:List Bool) (p1:List Bool):Option Bool:=
 bif (Int.ofNat p0.length) !=(Int.ofNat p1.length) then
  some false
 else
  whileO ref06_SameBools_l1 (p0,p1,0)
def c96:Con:=⟨Args.cons (Arg.sl kb) (Args.one (Arg.sl kb)),Arg.bool,fun a=>ref06_SameBools a.1 a.2,.pure,false⟩
theorem c96_ok:ConOK tab 96 c96:=Oc tab_96 rfl whileL [] trivial fun a=>by kernel_rfl
def ref06_Same (p0:Slots) (p1:Slots):Option Bool:=
 (ref06_SameInts p0.uses p1.uses).bind fun b0=>
 bif b0 then
  (ref06_SameBools p0.used p1.used).bind fun b1=>
  bif b1 then
   (ref06_SameInts p0.free p1.free).bind fun b2=>
   some b2
  else
   some false
 else
  some false
def c62:Con:=⟨Args.cons (Arg.agg Slots_c) (Args.one (Arg.agg Slots_c)),Arg.bool,fun a=>ref06_Same a.1 a.2,.pure,false⟩
theorem c62_ok:ConOK tab 62 c62:=Oc tab_62 rfl whileL [(63,c63),(96,c96)] ⟨c63_ok,c96_ok,trivial⟩ fun a=>by kernel_rfl
def ref07_Same_l1 (s:(Int×(List Int)×(List Bool)×(List Int)×(List (Int×Int×Int×Int×Int))×(List Int)×(List Int)×(List Bool)×(List Int)×(List (Int×Int×Int×Int×Int))×(List Int))):Option (Step (Int×(List Int)×(List Bool)×(List Int)×(List (Int×Int×Int×Int×Int))×(List Int)×(List Int)×(List Bool)×(List Int)×(List (Int×Int×Int×Int×Int))×(List Int)) Bool):=
 bif decide (s.1<(Int.ofNat s.2.2.2.2.1.length)) then
  (geti s.2.2.2.2.1 s.1).bind fun a0=>
  (geti s.2.2.2.2.2.2.2.2.2.1 s.1).bind fun a1=>
  bif !((a0.1==a1.1)&&((a0.2.1==a1.2.1)&&((a0.2.2.1==a1.2.2.1)&&((a0.2.2.2.1==a1.2.2.2.1)&&(a0.2.2.2.2==a1.2.2.2.2))))) then
   some (.done false)
  else
   some (.next (wrapF .i64 (s.1+1),s.2))
 else
  some (.done true)
def ref07_Same (p0:Agenda) (p1:Agenda):Option Bool:=
 (ref06_Same p0.slots p1.slots).bind fun b0=>
 bif !b0 then
  some false
 else
  (ref06_SameInts p0.where_ p1.where_).bind fun b1=>
  bif !b1 then
   some false
  else
   bif (Int.ofNat p0.heap.length) !=(Int.ofNat p1.heap.length) then
    some false
   else
    whileO ref07_Same_l1 (0,p0.slots.uses,p0.slots.used,p0.slots.free,p0.heap,p0.where_,p1.slots.uses,p1.slots.used,p1.slots.free,p1.heap,p1.where_)
def c26:Con:=⟨Args.cons (Arg.agg Agenda_c) (Args.one (Arg.agg Agenda_c)),Arg.bool,fun a=>ref07_Same a.1 a.2,.pure,false⟩
theorem c26_ok:ConOK tab 26 c26:=Oc tab_26 rfl whileL [(62,c62),(63,c63)] ⟨c62_ok,c63_ok,trivial⟩ fun a=>by kernel_rfl
def ref09_Same_l1 (s:(Int×Int×Int×(List (Int×Int×Int))×Int×(List (Int×Int×Int))×(List Int)×(List Bool)×(List Int)×(List (Int×Int×Int×Int×Int))×(List Int)×(List (Int×Int×Int))×Int×Int×(List (Int×Int×Int))×Int×(List (Int×Int×Int))×(List Int)×(List Bool)×(List Int)×(List (Int×Int×Int×Int×Int))×(List Int)×(List (Int×Int×Int)))):Option (Step (Int×Int×Int×(List (Int×Int×Int))×Int×(List (Int×Int×Int))×(List Int)×(List Bool)×(List Int)×(List (Int×Int×Int×Int×Int))×(List Int)×(List (Int×Int×Int))×Int×Int×(List (Int×Int×Int))×Int×(List (Int×Int×Int))×(List Int)×(List Bool)×(List Int)×(List (Int×Int×Int×Int×Int))×(List Int)×(List (Int×Int×Int))) Bool):=
 bif decide (s.1<(Int.ofNat s.2.2.2.2.2.2.2.2.2.2.2.1.length)) then
  (geti s.2.2.2.2.2.2.2.2.2.2.2.1 s.1).bind fun a0=>
  (geti s.2.2.2.2.2.2.2.2.2.2.2.2.2.2.2.2.2.2.2.2.2.2 s.1).bind fun a1=>
  bif !((a0.1==a1.1)&&((a0.2.1==a1.2.1)&&(a0.2.2==a1.2.2))) then
   some (.done false)
  else
   some (.next (wrapF .i64 (s.1+1),s.2))
 else
  some (.done true)
def ref09_Same (p0:Clock) (p1:Clock):Option Bool:=
 bif !((p0.now.1==p1.now.1)&&(p0.now.2==p1.now.2)) then
  some false
 else
  (ref03_Same p0.field p1.field).bind fun b0=>
  bif !b0 then
   some false
  else
   (ref08_Same p0.certs p1.certs).bind fun b1=>
   bif !b1 then
    some false
   else
    (ref07_Same p0.agenda p1.agenda).bind fun b2=>
    bif !b2 then
     some false
    else
     bif (Int.ofNat p0.due.length) !=(Int.ofNat p1.due.length) then
      some false
     else
      whileO ref09_Same_l1 (0,p0.now.1,p0.now.2,p0.field.points,p0.certs.next_,p0.certs.list,p0.agenda.slots.uses,p0.agenda.slots.used,p0.agenda.slots.free,p0.agenda.heap,p0.agenda.where_,p0.due,p1.now.1,p1.now.2,p1.field.points,p1.certs.next_,p1.certs.list,p1.agenda.slots.uses,p1.agenda.slots.used,p1.agenda.slots.free,p1.agenda.heap,p1.agenda.where_,p1.due)
def c9:Con:=⟨Args.cons (Arg.agg Clock_c) (Args.one (Arg.agg Clock_c)),Arg.bool,fun a=>ref09_Same a.1 a.2,.pure,false⟩
theorem c9_ok:ConOK tab 9 c9:=Oc tab_9 rfl whileL [(24,c24),(25,c25),(26,c26)] ⟨c24_ok,c25_ok,c26_ok,trivial⟩ fun a=>by kernel_rfl
def law13_KheapRenews (p0:Clock) (p1:Field) (p2:List (Int×Int)):Option Bool:=
 (ref09_Great p0).bind fun b0=>
 bif b0 then
  some true
 else
  (ref03_Great p1).bind fun b1=>
  bif b1 then
   some true
  else
   bif decide (40<(Int.ofNat p2.length)) then
    some true
   else
    (ref09_Twin p0).bind fun r2=>
    (kheap_Renew r2 p1 p2).bind fun a3=>
    (ref13_Renew p0 p1 p2).bind fun a4=>
    (ref09_Same a3.1 a4.1).bind fun b5=>
    bif b5 then
     bif a3.2==a4.2 then
      (ref09_Same r2 p0).bind fun b6=>
      some b6
     else
      some false
    else
     some false
def c3:Con:=⟨Args.cons (Arg.agg Clock_c) (Args.cons (Arg.agg Field_c) (Args.one (Arg.sl kii))),Arg.bool,fun a=>law13_KheapRenews a.1 a.2.1 a.2.2,.pure,false⟩
theorem c3_ok:ConOK tab 3 c3:=Oc tab_3 rfl whileL [(4,c4),(5,c5),(6,c6),(6,c6p),(7,c7),(8,c8),(9,c9)] ⟨c4_ok,c5_ok,c6_ok,c6p_ok,c7_ok,c8_ok,c9_ok,trivial⟩ fun a=>by kernel_rfl
end
end Go.Proofs.YtjikemfbommnlaaGreat
