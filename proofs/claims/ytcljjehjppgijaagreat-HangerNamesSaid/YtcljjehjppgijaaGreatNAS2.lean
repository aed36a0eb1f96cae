/- Plain functions for what the functions of the seat compute. Printed by a program. -/
import Derived.Test.YtcljjehjppgijaaGreatNVm3
import Derived.Test.YtcljjehjppgijaaGreatNAXT
import Derived.Test.YtcljjehjppgijaaGreatNAS1
open Int renaming ofNat->aa
open List renaming replicate->ac
open Nat renaming ble->ae
set_option maxRecDepth 100000
namespace Go.Proofs.YtcljjehjppgijaaGreat
open Go.Vm
noncomputable section
def C9 (N:Nat) (s:((List (Int×Int×Int))×Int×Int×Int×Int×(List (Int×Int×Int))×Int×(List (Int×Int×Int))×(List Int)×(List Bool)×(List Int)×(List (Int×Int×Int×Int×Int))×(List Int)×(List (Int×Int×Int))×(List (Int×Int×Int))×Int×Int×Int×Int×Int×Int×(List (Int×Int×Int))×(List Int)×(List Bool)×(List Int)×(List (Int×Int×Int×Int×Int))×(List Int)×(List (Int×Int×Int))×(List (Int×Int×Int)))):Option (bB ((List (Int×Int×Int))×Int×Int×Int×Int×(List (Int×Int×Int))×Int×(List (Int×Int×Int))×(List Int)×(List Bool)×(List Int)×(List (Int×Int×Int×Int×Int))×(List Int)×(List (Int×Int×Int))×(List (Int×Int×Int))×Int×Int×Int×Int×Int×Int×(List (Int×Int×Int))×(List Int)×(List Bool)×(List Int)×(List (Int×Int×Int×Int×Int))×(List Int)×(List (Int×Int×Int))×(List (Int×Int×Int))) (bB ((List (Int×Int×Int))×Int×Int×Int×Int×(List (Int×Int×Int))×Int×(List (Int×Int×Int))×(List Int)×(List Bool)×(List Int)×(List (Int×Int×Int×Int×Int))×(List Int)×(List (Int×Int×Int))×(List (Int×Int×Int))×Int×Int×Int) (aI×Int))):=
 bif decide (s.2.2.1<s.2.1) then
  (aK s.1 s.2.2.1).bind fun a0=>
  ((pF N) (Field.mk s.2.2.2.2.2.2.2.2.2.2.2.2.2.2.1) a0.2 (s.2.2.2.1,s.2.2.2.2.1)).bind fun a1=>
  ((rW N) s.2.2.2.2.2.2.2.2.2.2.2.2.2.1 a0.1).bind fun a2=>
  bif a1.2.1 then
   bif a2.2 then
    (aK s.2.2.2.2.2.2.2.2.2.2.2.2.2.1 a2.1).bind fun a3=>
    ((xC N) (aF.mk (aL.mk s.2.2.2.2.2.2.2.2.2.2.2.2.2.2.2.2.2.2.2.2.2.2.1 s.2.2.2.2.2.2.2.2.2.2.2.2.2.2.2.2.2.2.2.2.2.2.2.1 s.2.2.2.2.2.2.2.2.2.2.2.2.2.2.2.2.2.2.2.2.2.2.2.2.1) s.2.2.2.2.2.2.2.2.2.2.2.2.2.2.2.2.2.2.2.2.2.2.2.2.2.1 s.2.2.2.2.2.2.2.2.2.2.2.2.2.2.2.2.2.2.2.2.2.2.2.2.2.2.1) a3.2 a1.1).bind fun a4=>
    (aK s.2.2.2.2.2.2.2.2.2.2.2.2.2.1 a2.1).bind fun a5=>
    (bE s.2.2.2.2.2.2.2.2.2.2.2.2.2.2.2.2.2.2.2.2.2.2.2.2.2.2.2.2 [a5]).bind fun l6=>
    bif a4.2 !=0 then
     some (.done (.done (aI.mk (0,0) (Field.mk []) (aO.mk 0 []) (aF.mk (aL.mk [] [] []) [] []) [],a4.2)))
    else
     some (.next (s.1,s.2.1,aA .i64 (s.2.2.1+1),s.2.2.2.1,s.2.2.2.2.1,s.2.2.2.2.2.1,s.2.2.2.2.2.2.1,s.2.2.2.2.2.2.2.1,s.2.2.2.2.2.2.2.2.1,s.2.2.2.2.2.2.2.2.2.1,s.2.2.2.2.2.2.2.2.2.2.1,s.2.2.2.2.2.2.2.2.2.2.2.1,s.2.2.2.2.2.2.2.2.2.2.2.2.1,s.2.2.2.2.2.2.2.2.2.2.2.2.2.1,s.2.2.2.2.2.2.2.2.2.2.2.2.2.2.1,s.2.2.2.2.2.2.2.2.2.2.2.2.2.2.2.1,s.2.2.2.2.2.2.2.2.2.2.2.2.2.2.2.2.1,s.2.2.2.2.2.2.2.2.2.2.2.2.2.2.2.2.2.1,s.2.2.2.2.2.2.2.2.2.2.2.2.2.2.2.2.2.2.1,s.2.2.2.2.2.2.2.2.2.2.2.2.2.2.2.2.2.2.2.1,s.2.2.2.2.2.2.2.2.2.2.2.2.2.2.2.2.2.2.2.2.1,s.2.2.2.2.2.2.2.2.2.2.2.2.2.2.2.2.2.2.2.2.2.1,a4.1.slots.uses,a4.1.slots.used,a4.1.slots.free,a4.1.heap,a4.1.where_,s.2.2.2.2.2.2.2.2.2.2.2.2.2.2.2.2.2.2.2.2.2.2.2.2.2.2.2.1,l6))
   else
    bif a1.2.1 then
     ((mS N) (aF.mk (aL.mk s.2.2.2.2.2.2.2.2.2.2.2.2.2.2.2.2.2.2.2.2.2.2.1 s.2.2.2.2.2.2.2.2.2.2.2.2.2.2.2.2.2.2.2.2.2.2.2.1 s.2.2.2.2.2.2.2.2.2.2.2.2.2.2.2.2.2.2.2.2.2.2.2.2.1) s.2.2.2.2.2.2.2.2.2.2.2.2.2.2.2.2.2.2.2.2.2.2.2.2.2.1 s.2.2.2.2.2.2.2.2.2.2.2.2.2.2.2.2.2.2.2.2.2.2.2.2.2.2.1) a1.1 a0.1).bind fun a7=>
     (bE s.2.2.2.2.2.2.2.2.2.2.2.2.2.2.2.2.2.2.2.2.2.2.2.2.2.2.2.2 [(a0.1,a7.2.1)]).bind fun l8=>
     bif a7.2.2 !=0 then
      some (.done (.done (aI.mk (0,0) (Field.mk []) (aO.mk 0 []) (aF.mk (aL.mk [] [] []) [] []) [],a7.2.2)))
     else
      some (.next (s.1,s.2.1,aA .i64 (s.2.2.1+1),s.2.2.2.1,s.2.2.2.2.1,s.2.2.2.2.2.1,s.2.2.2.2.2.2.1,s.2.2.2.2.2.2.2.1,s.2.2.2.2.2.2.2.2.1,s.2.2.2.2.2.2.2.2.2.1,s.2.2.2.2.2.2.2.2.2.2.1,s.2.2.2.2.2.2.2.2.2.2.2.1,s.2.2.2.2.2.2.2.2.2.2.2.2.1,s.2.2.2.2.2.2.2.2.2.2.2.2.2.1,s.2.2.2.2.2.2.2.2.2.2.2.2.2.2.1,s.2.2.2.2.2.2.2.2.2.2.2.2.2.2.2.1,s.2.2.2.2.2.2.2.2.2.2.2.2.2.2.2.2.1,s.2.2.2.2.2.2.2.2.2.2.2.2.2.2.2.2.2.1,s.2.2.2.2.2.2.2.2.2.2.2.2.2.2.2.2.2.2.1,s.2.2.2.2.2.2.2.2.2.2.2.2.2.2.2.2.2.2.2.1,s.2.2.2.2.2.2.2.2.2.2.2.2.2.2.2.2.2.2.2.2.1,s.2.2.2.2.2.2.2.2.2.2.2.2.2.2.2.2.2.2.2.2.2.1,a7.1.slots.uses,a7.1.slots.used,a7.1.slots.free,a7.1.heap,a7.1.where_,s.2.2.2.2.2.2.2.2.2.2.2.2.2.2.2.2.2.2.2.2.2.2.2.2.2.2.2.1,l8))
    else
     bif a2.2 then
      (aK s.2.2.2.2.2.2.2.2.2.2.2.2.2.1 a2.1).bind fun a9=>
      ((jX N) (aF.mk (aL.mk s.2.2.2.2.2.2.2.2.2.2.2.2.2.2.2.2.2.2.2.2.2.2.1 s.2.2.2.2.2.2.2.2.2.2.2.2.2.2.2.2.2.2.2.2.2.2.2.1 s.2.2.2.2.2.2.2.2.2.2.2.2.2.2.2.2.2.2.2.2.2.2.2.2.1) s.2.2.2.2.2.2.2.2.2.2.2.2.2.2.2.2.2.2.2.2.2.2.2.2.2.1 s.2.2.2.2.2.2.2.2.2.2.2.2.2.2.2.2.2.2.2.2.2.2.2.2.2.2.1) a9.2).bind fun a10=>
      bif a10.2.2 !=0 then
       some (.done (.done (aI.mk (0,0) (Field.mk []) (aO.mk 0 []) (aF.mk (aL.mk [] [] []) [] []) [],a10.2.2)))
      else
       some (.next (s.1,s.2.1,aA .i64 (s.2.2.1+1),s.2.2.2.1,s.2.2.2.2.1,s.2.2.2.2.2.1,s.2.2.2.2.2.2.1,s.2.2.2.2.2.2.2.1,s.2.2.2.2.2.2.2.2.1,s.2.2.2.2.2.2.2.2.2.1,s.2.2.2.2.2.2.2.2.2.2.1,s.2.2.2.2.2.2.2.2.2.2.2.1,s.2.2.2.2.2.2.2.2.2.2.2.2.1,s.2.2.2.2.2.2.2.2.2.2.2.2.2.1,s.2.2.2.2.2.2.2.2.2.2.2.2.2.2.1,s.2.2.2.2.2.2.2.2.2.2.2.2.2.2.2.1,s.2.2.2.2.2.2.2.2.2.2.2.2.2.2.2.2.1,s.2.2.2.2.2.2.2.2.2.2.2.2.2.2.2.2.2.1,s.2.2.2.2.2.2.2.2.2.2.2.2.2.2.2.2.2.2.1,s.2.2.2.2.2.2.2.2.2.2.2.2.2.2.2.2.2.2.2.1,s.2.2.2.2.2.2.2.2.2.2.2.2.2.2.2.2.2.2.2.2.1,s.2.2.2.2.2.2.2.2.2.2.2.2.2.2.2.2.2.2.2.2.2.1,a10.1.slots.uses,a10.1.slots.used,a10.1.slots.free,a10.1.heap,a10.1.where_,s.2.2.2.2.2.2.2.2.2.2.2.2.2.2.2.2.2.2.2.2.2.2.2.2.2.2.2))
     else
      bif a1.2.2 !=0 then
       some (.done (.done (aI.mk (0,0) (Field.mk []) (aO.mk 0 []) (aF.mk (aL.mk [] [] []) [] []) [],a1.2.2)))
      else
       some (.next (s.1,s.2.1,aA .i64 (s.2.2.1+1),s.2.2.2))
  else
   bif a1.2.1 then
    ((mS N) (aF.mk (aL.mk s.2.2.2.2.2.2.2.2.2.2.2.2.2.2.2.2.2.2.2.2.2.2.1 s.2.2.2.2.2.2.2.2.2.2.2.2.2.2.2.2.2.2.2.2.2.2.2.1 s.2.2.2.2.2.2.2.2.2.2.2.2.2.2.2.2.2.2.2.2.2.2.2.2.1) s.2.2.2.2.2.2.2.2.2.2.2.2.2.2.2.2.2.2.2.2.2.2.2.2.2.1 s.2.2.2.2.2.2.2.2.2.2.2.2.2.2.2.2.2.2.2.2.2.2.2.2.2.2.1) a1.1 a0.1).bind fun a11=>
    (bE s.2.2.2.2.2.2.2.2.2.2.2.2.2.2.2.2.2.2.2.2.2.2.2.2.2.2.2.2 [(a0.1,a11.2.1)]).bind fun l12=>
    bif a11.2.2 !=0 then
     some (.done (.done (aI.mk (0,0) (Field.mk []) (aO.mk 0 []) (aF.mk (aL.mk [] [] []) [] []) [],a11.2.2)))
    else
     some (.next (s.1,s.2.1,aA .i64 (s.2.2.1+1),s.2.2.2.1,s.2.2.2.2.1,s.2.2.2.2.2.1,s.2.2.2.2.2.2.1,s.2.2.2.2.2.2.2.1,s.2.2.2.2.2.2.2.2.1,s.2.2.2.2.2.2.2.2.2.1,s.2.2.2.2.2.2.2.2.2.2.1,s.2.2.2.2.2.2.2.2.2.2.2.1,s.2.2.2.2.2.2.2.2.2.2.2.2.1,s.2.2.2.2.2.2.2.2.2.2.2.2.2.1,s.2.2.2.2.2.2.2.2.2.2.2.2.2.2.1,s.2.2.2.2.2.2.2.2.2.2.2.2.2.2.2.1,s.2.2.2.2.2.2.2.2.2.2.2.2.2.2.2.2.1,s.2.2.2.2.2.2.2.2.2.2.2.2.2.2.2.2.2.1,s.2.2.2.2.2.2.2.2.2.2.2.2.2.2.2.2.2.2.1,s.2.2.2.2.2.2.2.2.2.2.2.2.2.2.2.2.2.2.2.1,s.2.2.2.2.2.2.2.2.2.2.2.2.2.2.2.2.2.2.2.2.1,s.2.2.2.2.2.2.2.2.2.2.2.2.2.2.2.2.2.2.2.2.2.1,a11.1.slots.uses,a11.1.slots.used,a11.1.slots.free,a11.1.heap,a11.1.where_,s.2.2.2.2.2.2.2.2.2.2.2.2.2.2.2.2.2.2.2.2.2.2.2.2.2.2.2.1,l12))
   else
    bif a2.2 then
     (aK s.2.2.2.2.2.2.2.2.2.2.2.2.2.1 a2.1).bind fun a13=>
     ((jX N) (aF.mk (aL.mk s.2.2.2.2.2.2.2.2.2.2.2.2.2.2.2.2.2.2.2.2.2.2.1 s.2.2.2.2.2.2.2.2.2.2.2.2.2.2.2.2.2.2.2.2.2.2.2.1 s.2.2.2.2.2.2.2.2.2.2.2.2.2.2.2.2.2.2.2.2.2.2.2.2.1) s.2.2.2.2.2.2.2.2.2.2.2.2.2.2.2.2.2.2.2.2.2.2.2.2.2.1 s.2.2.2.2.2.2.2.2.2.2.2.2.2.2.2.2.2.2.2.2.2.2.2.2.2.2.1) a13.2).bind fun a14=>
     bif a14.2.2 !=0 then
      some (.done (.done (aI.mk (0,0) (Field.mk []) (aO.mk 0 []) (aF.mk (aL.mk [] [] []) [] []) [],a14.2.2)))
     else
      some (.next (s.1,s.2.1,aA .i64 (s.2.2.1+1),s.2.2.2.1,s.2.2.2.2.1,s.2.2.2.2.2.1,s.2.2.2.2.2.2.1,s.2.2.2.2.2.2.2.1,s.2.2.2.2.2.2.2.2.1,s.2.2.2.2.2.2.2.2.2.1,s.2.2.2.2.2.2.2.2.2.2.1,s.2.2.2.2.2.2.2.2.2.2.2.1,s.2.2.2.2.2.2.2.2.2.2.2.2.1,s.2.2.2.2.2.2.2.2.2.2.2.2.2.1,s.2.2.2.2.2.2.2.2.2.2.2.2.2.2.1,s.2.2.2.2.2.2.2.2.2.2.2.2.2.2.2.1,s.2.2.2.2.2.2.2.2.2.2.2.2.2.2.2.2.1,s.2.2.2.2.2.2.2.2.2.2.2.2.2.2.2.2.2.1,s.2.2.2.2.2.2.2.2.2.2.2.2.2.2.2.2.2.2.1,s.2.2.2.2.2.2.2.2.2.2.2.2.2.2.2.2.2.2.2.1,s.2.2.2.2.2.2.2.2.2.2.2.2.2.2.2.2.2.2.2.2.1,s.2.2.2.2.2.2.2.2.2.2.2.2.2.2.2.2.2.2.2.2.2.1,a14.1.slots.uses,a14.1.slots.used,a14.1.slots.free,a14.1.heap,a14.1.where_,s.2.2.2.2.2.2.2.2.2.2.2.2.2.2.2.2.2.2.2.2.2.2.2.2.2.2.2))
    else
     bif a1.2.2 !=0 then
      some (.done (.done (aI.mk (0,0) (Field.mk []) (aO.mk 0 []) (aF.mk (aL.mk [] [] []) [] []) [],a1.2.2)))
     else
      some (.next (s.1,s.2.1,aA .i64 (s.2.2.1+1),s.2.2.2))
 else
  some (.done (.done (aI.mk (s.2.2.2.2.2.2.2.2.2.2.2.2.2.2.2.2.2.2.1,s.2.2.2.2.2.2.2.2.2.2.2.2.2.2.2.2.2.2.2.1) (Field.mk s.2.2.2.2.2.2.2.2.2.2.2.2.2.2.2.2.2.2.2.2.2.2.2.2.2.2.2.1) (aO.mk s.2.2.2.2.2.2.2.2.2.2.2.2.2.2.2.2.2.2.2.2.1 s.2.2.2.2.2.2.2.2.2.2.2.2.2.2.2.2.2.2.2.2.2.1) (aF.mk (aL.mk s.2.2.2.2.2.2.2.2.2.2.2.2.2.2.2.2.2.2.2.2.2.2.1 s.2.2.2.2.2.2.2.2.2.2.2.2.2.2.2.2.2.2.2.2.2.2.2.1 s.2.2.2.2.2.2.2.2.2.2.2.2.2.2.2.2.2.2.2.2.2.2.2.2.1) s.2.2.2.2.2.2.2.2.2.2.2.2.2.2.2.2.2.2.2.2.2.2.2.2.2.1 s.2.2.2.2.2.2.2.2.2.2.2.2.2.2.2.2.2.2.2.2.2.2.2.2.2.2.1) s.2.2.2.2.2.2.2.2.2.2.2.2.2.2.2.2.2.2.2.2.2.2.2.2.2.2.2.2,0)))
def DA (N:Nat) (s:((List (Int×Int×Int))×Int×Int×Int×Int×(List (Int×Int×Int))×Int×(List (Int×Int×Int))×(List Int)×(List Bool)×(List Int)×(List (Int×Int×Int×Int×Int))×(List Int)×(List (Int×Int×Int))×(List (Int×Int×Int))×Int×Int×Int)):Option (bB ((List (Int×Int×Int))×Int×Int×Int×Int×(List (Int×Int×Int))×Int×(List (Int×Int×Int))×(List Int)×(List Bool)×(List Int)×(List (Int×Int×Int×Int×Int))×(List Int)×(List (Int×Int×Int))×(List (Int×Int×Int))×Int×Int×Int) (aI×Int)):=
 bif decide (s.2.2.1<s.2.1) then
  (aK s.1 s.2.2.1).bind fun a0=>
  ((gK N) (Field.mk s.2.2.2.2.2.2.2.2.2.2.2.2.2.2.1) a0.2.1).bind fun a1=>
  bif decide (a1.1<0) then
   some (.done (aI.mk (0,0) (Field.mk []) (aO.mk 0 []) (aF.mk (aL.mk [] [] []) [] []) [],6))
  else
   ((gK N) (Field.mk s.2.2.2.2.2.2.2.2.2.2.2.2.2.2.1) a0.2.2).bind fun a2=>
   bif decide (a2.1<0) then
    some (.done (aI.mk (0,0) (Field.mk []) (aO.mk 0 []) (aF.mk (aL.mk [] [] []) [] []) [],6))
   else
    some (.next (s.1,s.2.1,aA .i64 (s.2.2.1+1),s.2.2.2))
 else
  ((iG N) (aI.mk (s.2.2.2.1,s.2.2.2.2.1) (Field.mk s.2.2.2.2.2.1) (aO.mk s.2.2.2.2.2.2.1 s.2.2.2.2.2.2.2.1) (aF.mk (aL.mk s.2.2.2.2.2.2.2.2.1 s.2.2.2.2.2.2.2.2.2.1 s.2.2.2.2.2.2.2.2.2.2.1) s.2.2.2.2.2.2.2.2.2.2.2.1 s.2.2.2.2.2.2.2.2.2.2.2.2.1) s.2.2.2.2.2.2.2.2.2.2.2.2.2.1)).bind fun r3=>
  (bC s.2.2.2.2.2.2.2.2.2.2.2.2.2.2.1).bind fun l4=>
  (aT N) (C9 N) (s.2.2.2.2.2.2.2.1,aa s.2.2.2.2.2.2.2.1.length,0,s.2.2.2.1,s.2.2.2.2.1,s.2.2.2.2.2.1,s.2.2.2.2.2.2.1,s.2.2.2.2.2.2.2.1,s.2.2.2.2.2.2.2.2.1,s.2.2.2.2.2.2.2.2.2.1,s.2.2.2.2.2.2.2.2.2.2.1,s.2.2.2.2.2.2.2.2.2.2.2.1,s.2.2.2.2.2.2.2.2.2.2.2.2.1,s.2.2.2.2.2.2.2.2.2.2.2.2.2.1,s.2.2.2.2.2.2.2.2.2.2.2.2.2.2.1,s.2.2.2.2.2.2.2.2.2.2.2.2.2.2.2.1,s.2.2.2.2.2.2.2.2.2.2.2.2.2.2.2.2.1,s.2.2.2.2.2.2.2.2.2.2.2.2.2.2.2.2.2,r3.now.1,r3.now.2,r3.certs.next_,r3.certs.list,r3.agenda.slots.uses,r3.agenda.slots.used,r3.agenda.slots.free,r3.agenda.heap,r3.agenda.where_,l4,[])
def zS (N:Nat) (p0:aI) (p1:Field):Option (aI×Int):=
 ((gL N) p0).bind fun n0=>
 bif n0 !=0 then
  some (aI.mk (0,0) (Field.mk []) (aO.mk 0 []) (aF.mk (aL.mk [] [] []) [] []) [],n0)
 else
  ((fK N) p1).bind fun n1=>
  bif n1 !=0 then
   some (aI.mk (0,0) (Field.mk []) (aO.mk 0 []) (aF.mk (aL.mk [] [] []) [] []) [],n1)
  else
   (aT N) (DA N) (p0.certs.list,aa p0.certs.list.length,0,p0.now.1,p0.now.2,p0.field.points,p0.certs.next_,p0.certs.list,p0.agenda.slots.uses,p0.agenda.slots.used,p0.agenda.slots.free,p0.agenda.heap,p0.agenda.where_,p0.due,p1.points,0,0,0)
def aH8 (N:Nat):aU:=⟨aC.cons (aE.agg aX) (aC.one (aE.agg aW)),aE.tup (aC.cons (aE.agg aX) (aC.one (aE.int .i64))),fun a=>(zS N) a.1 a.2,.frz,false⟩
theorem aBq (N:Nat):aB tab 231 (aH8 N):=aB.of ZL (cx:=(aN (aH N) [(64,(c64 N)),(122,(IV N)),(193,(aAZ N)),(121,(RC N)),(121,(I0 N)),(126,aU.clone bY),(131,(aA6 N)),(172,(aGm N)),(269,(aH4 N)),(270,(aGt N)),(173,(aGp N))] [] [] [])) rfl (aM.make ⟨(yS N),(pB N),(GF N),(AR N),(xA N),iX,(GH N),(MT N),(aBm N),(MZ N),(MW N),trivial⟩ trivial trivial) (fun a=>by kernel_rfl)
def tY (_:Nat) (p0:Int×Int×Int) (p1:Int×Int):Option Bool:=
 some ((p0.2.1==p1.1)&&(p0.2.2==p1.2))
def aH9 (N:Nat):aU:=⟨aC.cons (aE.agg (bG.row bY)) (aC.one (aE.ref (bG.row eF))),aE.bool,fun a=>(tY N) a.1 a.2,.pure,false⟩
theorem aBr (N:Nat):aB tab 232 (aH9 N):=aB.of MA (cx:=(aN (aH N) [] [] [] [])) rfl (aM.make trivial trivial trivial) (fun a=>by kernel_rfl)
def gD (N:Nat) (s:((List (Int×Int×Int))×Int×Int×Int×Int)):Option (bB ((List (Int×Int×Int))×Int×Int×Int×Int) Int):=
 bif decide (s.2.2.2.2<s.2.2.2.1) then
  (aK s.1 s.2.2.2.2).bind fun a0=>
  ((tY N) a0 (s.2.1,s.2.2.1)).bind fun b1=>
  bif b1 then
   some (.done s.2.2.2.2)
  else
   some (.next (s.1,s.2.1,s.2.2.1,s.2.2.2.1,aA .i64 (s.2.2.2.2+1)))
 else
  some (.done (-1))
def dR (N:Nat) (p0:List (Int×Int×Int)) (p1:(Int×Int)):Option Int:=
 (aT N) (gD N) (p0,p1.1,p1.2,aa p0.length,0)
def I9 (N:Nat):aU:=⟨aC.cons (aE.sl bY) (aC.one (aE.clo 232 (aC.one (aE.ref (bG.row eF))))),aE.int .i64,fun a=>(dR N) a.1 a.2,.pure,false⟩
theorem JA (N:Nat):aB tab 258 (I9 N):=aB.of MB (cx:=(aN (aH N) [(232,(aH9 N))] [] [(232,VL)] [])) rfl (aM.make ⟨(aBr N),trivial⟩ trivial ⟨MA,trivial⟩) (fun a=>by kernel_rfl)
def dB (N:Nat) (p0:List (Int×Int×Int)) (p1:(Int×Int)):Option Bool:=
 ((dR N) p0 p1).bind fun n0=>
 some (decide (0<=n0))
def JB (N:Nat):aU:=⟨aC.cons (aE.sl bY) (aC.one (aE.clo 232 (aC.one (aE.ref (bG.row eF))))),aE.bool,fun a=>(dB N) a.1 a.2,.pure,false⟩
theorem JC (N:Nat):aB tab 212 (JB N):=aB.of L9 (cx:=(aN (aH N) [(258,(I9 N))] [] [] [])) rfl (aM.make ⟨(JA N),trivial⟩ trivial trivial) (fun a=>by kernel_rfl)
def cW (_:Nat) (p0:Int):Option (aI×Int×Int):=
 some (aI.mk (0,0) (Field.mk []) (aO.mk 0 []) (aF.mk (aL.mk [] [] []) [] []) [],0,p0)
def aIa (N:Nat):aU:=⟨aC.one (aE.int .i64),aE.tup (aC.cons (aE.agg aX) (aC.cons (aE.int .i64) (aC.one (aE.int .i64)))),fun a=>(cW N) a,.frz,false⟩
theorem aBs (N:Nat):aB tab 271 (aIa N):=aB.of Z4 (cx:=(aN (aH N) [] [] [] [])) rfl (aM.make trivial trivial trivial) (fun a=>by kernel_rfl)
def DB (_:Nat) (p0:Int×Int×Int) (p1:Int×Int):Option Bool:=
 some ((p0.2.1==p1.1)&&(p0.2.2==p1.2))
def aIb (N:Nat):aU:=⟨aC.cons (aE.agg (bG.row bY)) (aC.one (aE.ref (bG.row eF))),aE.bool,fun a=>(DB N) a.1 a.2,.pure,false⟩
theorem aBt (N:Nat):aB tab 291 (aIb N):=aB.of MG (cx:=(aN (aH N) [] [] [] [])) rfl (aM.make trivial trivial trivial) (fun a=>by kernel_rfl)
def gZ (N:Nat) (s:((List (Int×Int×Int))×Int×Int×Int×Int)):Option (bB ((List (Int×Int×Int))×Int×Int×Int×Int) Int):=
 bif decide (s.2.2.2.2<s.2.2.2.1) then
  (aK s.1 s.2.2.2.2).bind fun a0=>
  ((DB N) a0 (s.2.1,s.2.2.1)).bind fun b1=>
  bif b1 then
   some (.done s.2.2.2.2)
  else
   some (.next (s.1,s.2.1,s.2.2.1,s.2.2.2.1,aA .i64 (s.2.2.2.2+1)))
 else
  some (.done (-1))
def eH (N:Nat) (p0:List (Int×Int×Int)) (p1:(Int×Int)):Option Int:=
 (aT N) (gZ N) (p0,p1.1,p1.2,aa p0.length,0)
def JD (N:Nat):aU:=⟨aC.cons (aE.sl bY) (aC.one (aE.clo 291 (aC.one (aE.ref (bG.row eF))))),aE.int .i64,fun a=>(eH N) a.1 a.2,.pure,false⟩
theorem JE (N:Nat):aB tab 258 (JD N):=aB.of MB (cx:=(aN (aH N) [(291,(aIb N))] [] [(291,WR)] [])) rfl (aM.make ⟨(aBt N),trivial⟩ trivial ⟨MG,trivial⟩) (fun a=>by kernel_rfl)
def dS (N:Nat) (p0:List (Int×Int×Int)) (p1:(Int×Int)):Option Bool:=
 ((eH N) p0 p1).bind fun n0=>
 some (decide (0<=n0))
def JF (N:Nat):aU:=⟨aC.cons (aE.sl bY) (aC.one (aE.clo 291 (aC.one (aE.ref (bG.row eF))))),aE.bool,fun a=>(dS N) a.1 a.2,.pure,false⟩
theorem JG (N:Nat):aB tab 212 (JF N):=aB.of L9 (cx:=(aN (aH N) [(258,(JD N))] [] [] [])) rfl (aM.make ⟨(JE N),trivial⟩ trivial trivial) (fun a=>by kernel_rfl)
def JH (N:Nat) (p0:aO) (p1:Int×Int):Option (aO×Int×Int):=
 ((pC N) p0).bind fun n0=>
 bif n0 !=0 then
  some (aO.mk 0 [],0,n0)
 else
  ((vC N) p1).bind fun b1=>
  bif !b1 then
   some (aO.mk 0 [],0,8)
  else
   ((dS N) p0.list p1).bind fun b2=>
   bif b2 then
    some (aO.mk 0 [],0,14)
   else
    bif (aa p0.list.length)==200 then
     some (aO.mk 0 [],0,18)
    else
     bif p0.next_==1000000 then
      some (aO.mk 0 [],0,18)
     else
      (bC p0.list).bind fun l3=>
      (bE l3 [(p0.next_,p1)]).bind fun l4=>
      some (aO.mk (aA .i64 (p0.next_+1)) l4,p0.next_,0)
def aIc (N:Nat):aU:=⟨aC.cons (aE.agg eP) (aC.one (aE.agg (bG.row eF))),aE.tup (aC.cons (aE.agg eP) (aC.cons (aE.int .i64) (aC.one (aE.int .i64)))),fun a=>(JH N) a.1 a.2,.frz,false⟩
theorem aBu (N:Nat):aB tab 272 (aIc N):=aB.of Z5 (cx:=(aN (aH N) [(129,(aAL N)),(189,(aGc N)),(212,(JF N)),(178,aU.clone bY)] [] [] [])) rfl (aM.make ⟨(GB N),(MN N),(JG N),nS,trivial⟩ trivial trivial) (fun a=>by kernel_rfl)
def tZ (N:Nat) (p0:aI) (p1:Int×Int):Option (aI×Int×Int):=
 ((gL N) p0).bind fun n0=>
 bif n0 !=0 then
  ((cW N) n0).bind fun a1=>
  some a1
 else
  ((JH N) p0.certs p1).bind fun a2=>
  bif a2.2.2==8 then
   ((cW N) a2.2.2).bind fun a3=>
   some a3
  else
   ((gK N) p0.field p1.1).bind fun a4=>
   bif decide (a4.1<0) then
    ((cW N) 6).bind fun a5=>
    some a5
   else
    ((gK N) p0.field p1.2).bind fun a6=>
    bif decide (a6.1<0) then
     ((cW N) 6).bind fun a7=>
     some a7
    else
     bif a2.2.2 !=0 then
      ((cW N) a2.2.2).bind fun a8=>
      some a8
     else
      ((iG N) p0).bind fun r9=>
      ((pF N) p0.field p1 p0.now).bind fun a10=>
      bif a10.2.2 !=0 then
       ((cW N) a10.2.2).bind fun a11=>
       some a11
      else
       bif a10.2.1 then
        ((mS N) p0.agenda a10.1 a2.2.1).bind fun a12=>
        bif a12.2.2 !=0 then
         ((cW N) a12.2.2).bind fun a13=>
         some a13
        else
         (bE r9.due [(a2.2.1,a12.2.1)]).bind fun l14=>
         some (aI.mk r9.now r9.field a2.1 a12.1 l14,a2.2.1,0)
       else
        some (aI.mk r9.now r9.field a2.1 r9.agenda r9.due,a2.2.1,0)
def aId (N:Nat):aU:=⟨aC.cons (aE.agg aX) (aC.one (aE.agg (bG.row eF))),aE.tup (aC.cons (aE.agg aX) (aC.cons (aE.int .i64) (aC.one (aE.int .i64)))),fun a=>(tZ N) a.1 a.2,.frz,false⟩
theorem aBv (N:Nat):aB tab 233 (aId N):=aB.of ZM (cx:=(aN (aH N) [(64,(c64 N)),(271,(aIa N)),(272,(aIc N)),(193,(aAZ N)),(121,(RC N)),(121,(I0 N)),(131,(aA6 N)),(270,(aGt N))] [] [] [])) rfl (aM.make ⟨(yS N),(aBs N),(aBu N),(GF N),(AR N),(xA N),(GH N),(MZ N),trivial⟩ trivial trivial) (fun a=>by kernel_rfl)
def rY (N:Nat) (s:((List (Int×Int))×Int×Int×Int×Int×(List (Int×Int×Int))×Int×(List (Int×Int×Int))×(List Int)×(List Bool)×(List Int)×(List (Int×Int×Int×Int×Int))×(List Int)×(List (Int×Int×Int))×Int×Int×Int)):Option (bB ((List (Int×Int))×Int×Int×Int×Int×(List (Int×Int×Int))×Int×(List (Int×Int×Int))×(List Int)×(List Bool)×(List Int)×(List (Int×Int×Int×Int×Int))×(List Int)×(List (Int×Int×Int))×Int×Int×Int) (bB ((List (Int×Int))×(List (Int×Int×Int))×Int×Int×Int×Int×(List (Int×Int×Int))×Int×(List (Int×Int×Int))×(List Int)×(List Bool)×(List Int)×(List (Int×Int×Int×Int×Int))×(List Int)×(List (Int×Int×Int))×(List (Int×Int×Int))×Int×Int×Int) (aI×Int))):=
 bif decide (s.2.2.1<s.2.1) then
  (aK s.1 s.2.2.1).bind fun a0=>
  ((dB N) s.2.2.2.2.2.2.2.1 a0).bind fun b1=>
  bif b1 then
   some (.next (s.1,s.2.1,aA .i64 (s.2.2.1+1),s.2.2.2))
  else
   ((tZ N) (aI.mk (s.2.2.2.1,s.2.2.2.2.1) (Field.mk s.2.2.2.2.2.1) (aO.mk s.2.2.2.2.2.2.1 s.2.2.2.2.2.2.2.1) (aF.mk (aL.mk s.2.2.2.2.2.2.2.2.1 s.2.2.2.2.2.2.2.2.2.1 s.2.2.2.2.2.2.2.2.2.2.1) s.2.2.2.2.2.2.2.2.2.2.2.1 s.2.2.2.2.2.2.2.2.2.2.2.2.1) s.2.2.2.2.2.2.2.2.2.2.2.2.2.1) a0).bind fun a2=>
   bif a2.2.2 !=0 then
    some (.done (.done (aI.mk (0,0) (Field.mk []) (aO.mk 0 []) (aF.mk (aL.mk [] [] []) [] []) [],a2.2.2)))
   else
    some (.next (s.1,s.2.1,aA .i64 (s.2.2.1+1),a2.1.now.1,a2.1.now.2,a2.1.field.points,a2.1.certs.next_,a2.1.certs.list,a2.1.agenda.slots.uses,a2.1.agenda.slots.used,a2.1.agenda.slots.free,a2.1.agenda.heap,a2.1.agenda.where_,a2.1.due,s.2.2.2.2.2.2.2.2.2.2.2.2.2.2))
 else
  some (.done (.done (aI.mk (s.2.2.2.1,s.2.2.2.2.1) (Field.mk s.2.2.2.2.2.1) (aO.mk s.2.2.2.2.2.2.1 s.2.2.2.2.2.2.2.1) (aF.mk (aL.mk s.2.2.2.2.2.2.2.2.1 s.2.2.2.2.2.2.2.2.2.1 s.2.2.2.2.2.2.2.2.2.2.1) s.2.2.2.2.2.2.2.2.2.2.2.1 s.2.2.2.2.2.2.2.2.2.2.2.2.1) s.2.2.2.2.2.2.2.2.2.2.2.2.2.1,0)))
def DC (N:Nat) (s:((List (Int×Int))×(List (Int×Int×Int))×Int×Int×Int×Int×(List (Int×Int×Int))×Int×(List (Int×Int×Int))×(List Int)×(List Bool)×(List Int)×(List (Int×Int×Int×Int×Int))×(List Int)×(List (Int×Int×Int))×(List (Int×Int×Int))×Int×Int×Int)):Option (bB ((List (Int×Int))×(List (Int×Int×Int))×Int×Int×Int×Int×(List (Int×Int×Int))×Int×(List (Int×Int×Int))×(List Int)×(List Bool)×(List Int)×(List (Int×Int×Int×Int×Int))×(List Int)×(List (Int×Int×Int))×(List (Int×Int×Int))×Int×Int×Int) (aI×Int)):=
 bif decide (s.2.2.2.1<s.2.2.1) then
  (aK s.2.1 s.2.2.2.1).bind fun a0=>
  ((eQ N) s.1 a0.2).bind fun b1=>
  bif !b1 then
   ((xB N) (aI.mk (s.2.2.2.2.1,s.2.2.2.2.2.1) (Field.mk s.2.2.2.2.2.2.1) (aO.mk s.2.2.2.2.2.2.2.1 s.2.2.2.2.2.2.2.2.1) (aF.mk (aL.mk s.2.2.2.2.2.2.2.2.2.1 s.2.2.2.2.2.2.2.2.2.2.1 s.2.2.2.2.2.2.2.2.2.2.2.1) s.2.2.2.2.2.2.2.2.2.2.2.2.1 s.2.2.2.2.2.2.2.2.2.2.2.2.2.1) s.2.2.2.2.2.2.2.2.2.2.2.2.2.2.1) a0.1).bind fun a2=>
   some (.next (s.1,s.2.1,s.2.2.1,aA .i64 (s.2.2.2.1+1),a2.1.now.1,a2.1.now.2,a2.1.field.points,a2.1.certs.next_,a2.1.certs.list,a2.1.agenda.slots.uses,a2.1.agenda.slots.used,a2.1.agenda.slots.free,a2.1.agenda.heap,a2.1.agenda.where_,a2.1.due,s.2.2.2.2.2.2.2.2.2.2.2.2.2.2.2))
  else
   some (.next (s.1,s.2.1,s.2.2.1,aA .i64 (s.2.2.2.1+1),s.2.2.2.2))
 else
  ((lY N) s.2.2.2.2.2.2.1 s.2.2.2.2.2.2.2.2.2.2.2.2.2.2.2.1).bind fun b3=>
  bif !b3 then
   ((zS N) (aI.mk (s.2.2.2.2.1,s.2.2.2.2.2.1) (Field.mk s.2.2.2.2.2.2.1) (aO.mk s.2.2.2.2.2.2.2.1 s.2.2.2.2.2.2.2.2.1) (aF.mk (aL.mk s.2.2.2.2.2.2.2.2.2.1 s.2.2.2.2.2.2.2.2.2.2.1 s.2.2.2.2.2.2.2.2.2.2.2.1) s.2.2.2.2.2.2.2.2.2.2.2.2.1 s.2.2.2.2.2.2.2.2.2.2.2.2.2.1) s.2.2.2.2.2.2.2.2.2.2.2.2.2.2.1) (Field.mk s.2.2.2.2.2.2.2.2.2.2.2.2.2.2.2.1)).bind fun a4=>
   bif a4.2 !=0 then
    some (.done (aI.mk (0,0) (Field.mk []) (aO.mk 0 []) (aF.mk (aL.mk [] [] []) [] []) [],a4.2))
   else
    (aT N) (rY N) (s.1,aa s.1.length,0,a4.1.now.1,a4.1.now.2,a4.1.field.points,a4.1.certs.next_,a4.1.certs.list,a4.1.agenda.slots.uses,a4.1.agenda.slots.used,a4.1.agenda.slots.free,a4.1.agenda.heap,a4.1.agenda.where_,a4.1.due,s.2.2.2.2.2.2.2.2.2.2.2.2.2.2.2.2)
  else
   (aT N) (rY N) (s.1,aa s.1.length,0,s.2.2.2.2.1,s.2.2.2.2.2.1,s.2.2.2.2.2.2.1,s.2.2.2.2.2.2.2.1,s.2.2.2.2.2.2.2.2.1,s.2.2.2.2.2.2.2.2.2.1,s.2.2.2.2.2.2.2.2.2.2.1,s.2.2.2.2.2.2.2.2.2.2.2.1,s.2.2.2.2.2.2.2.2.2.2.2.2.1,s.2.2.2.2.2.2.2.2.2.2.2.2.2.1,s.2.2.2.2.2.2.2.2.2.2.2.2.2.2.1,s.2.2.2.2.2.2.2.2.2.2.2.2.2.2.2.2)
def zT (N:Nat) (p0:aI) (p1:Field) (p2:List (Int×Int)):Option (aI×Int):=
 (aT N) (DC N) (p2,p0.certs.list,aa p0.certs.list.length,0,p0.now.1,p0.now.2,p0.field.points,p0.certs.next_,p0.certs.list,p0.agenda.slots.uses,p0.agenda.slots.used,p0.agenda.slots.free,p0.agenda.heap,p0.agenda.where_,p0.due,p1.points,0,0,0)
def aIe (N:Nat):aU:=⟨aC.cons (aE.agg aX) (aC.cons (aE.agg aW) (aC.one (aE.sl eF))),aE.tup (aC.cons (aE.agg aX) (aC.one (aE.int .i64))),fun a=>(zT N) a.1 a.2.1 a.2.2,.frz,false⟩
theorem aBw (N:Nat):aB tab 176 (aIe N):=aB.of YL (cx:=(aN (aH N) [(66,(c66 N)),(229,(aH2 N)),(230,(aH3 N)),(231,(aH8 N)),(212,(JB N)),(233,(aId N))] [] [] [])) rfl (aM.make ⟨(KX N),(aBk N),(aBl N),(aBq N),(JC N),(aBv N),trivial⟩ trivial trivial) (fun a=>by kernel_rfl)
def DD (N:Nat) (s:((List (Int×Int))×(List (Int×Int))×Int×Int×Int×Int×(List (Int×Int×Int))×Int×(List (Int×Int×Int))×(List Int)×(List Bool)×(List Int)×(List (Int×Int×Int×Int×Int))×(List Int)×(List (Int×Int×Int))×(List (Int×Int×Int))×Int×Int×Int)):Option (bB ((List (Int×Int))×(List (Int×Int))×Int×Int×Int×Int×(List (Int×Int×Int))×Int×(List (Int×Int×Int))×(List Int)×(List Bool)×(List Int)×(List (Int×Int×Int×Int×Int))×(List Int)×(List (Int×Int×Int))×(List (Int×Int×Int))×Int×Int×Int) (bB ((List (Int×Int))×(List (Int×Int))×Int×Int×Int×Int×(List (Int×Int×Int))×Int×(List (Int×Int×Int))×(List Int)×(List Bool)×(List Int)×(List (Int×Int×Int×Int×Int))×(List Int)×(List (Int×Int×Int))×(List (Int×Int×Int))×Int×Int×Int) (bB ((List (Int×Int))×(List (Int×Int))×Int×Int×Int×Int×(List (Int×Int×Int))×Int×(List (Int×Int×Int))×(List Int)×(List Bool)×(List Int)×(List (Int×Int×Int×Int×Int))×(List Int)×(List (Int×Int×Int))×(List (Int×Int×Int))×Int×Int×Int) (aI×Int)))):=
 bif decide (s.2.2.2.1<s.2.2.1) then
  (aK s.2.1 s.2.2.2.1).bind fun a0=>
  ((vG N) (Field.mk s.2.2.2.2.2.2.2.2.2.2.2.2.2.2.2.1) a0.1).bind fun a1=>
  ((vG N) (Field.mk s.2.2.2.2.2.2.2.2.2.2.2.2.2.2.2.1) a0.2).bind fun a2=>
  bif a1.2 !=0 then
   some (.done (.done (.done (aI.mk (0,0) (Field.mk []) (aO.mk 0 []) (aF.mk (aL.mk [] [] []) [] []) [],6))))
  else
   bif a2.2 !=0 then
    some (.done (.done (.done (aI.mk (0,0) (Field.mk []) (aO.mk 0 []) (aF.mk (aL.mk [] [] []) [] []) [],6))))
   else
    some (.next (s.1,s.2.1,s.2.2.1,aA .i64 (s.2.2.2.1+1),s.2.2.2.2))
 else
  ((vH N) (aI.mk (s.2.2.2.2.1,s.2.2.2.2.2.1) (Field.mk s.2.2.2.2.2.2.1) (aO.mk s.2.2.2.2.2.2.2.1 s.2.2.2.2.2.2.2.2.1) (aF.mk (aL.mk s.2.2.2.2.2.2.2.2.2.1 s.2.2.2.2.2.2.2.2.2.2.1 s.2.2.2.2.2.2.2.2.2.2.2.1) s.2.2.2.2.2.2.2.2.2.2.2.2.1 s.2.2.2.2.2.2.2.2.2.2.2.2.2.1) s.2.2.2.2.2.2.2.2.2.2.2.2.2.2.1)).bind fun r3=>
  ((zT N) r3 (Field.mk s.2.2.2.2.2.2.2.2.2.2.2.2.2.2.2.1) s.1).bind fun a4=>
  some (.done (.done (.done a4)))
def DE (N:Nat) (s:((List (Int×Int))×(List (Int×Int))×Int×Int×Int×Int×(List (Int×Int×Int))×Int×(List (Int×Int×Int))×(List Int)×(List Bool)×(List Int)×(List (Int×Int×Int×Int×Int))×(List Int)×(List (Int×Int×Int))×(List (Int×Int×Int))×Int×Int×Int)):Option (bB ((List (Int×Int))×(List (Int×Int))×Int×Int×Int×Int×(List (Int×Int×Int))×Int×(List (Int×Int×Int))×(List Int)×(List Bool)×(List Int)×(List (Int×Int×Int×Int×Int))×(List Int)×(List (Int×Int×Int))×(List (Int×Int×Int))×Int×Int×Int) (bB ((List (Int×Int))×(List (Int×Int))×Int×Int×Int×Int×(List (Int×Int×Int))×Int×(List (Int×Int×Int))×(List Int)×(List Bool)×(List Int)×(List (Int×Int×Int×Int×Int))×(List Int)×(List (Int×Int×Int))×(List (Int×Int×Int))×Int×Int×Int) (aI×Int))):=
 bif decide (s.2.2.2.1<s.2.2.1) then
  (aK s.2.1 s.2.2.2.1).bind fun a0=>
  (fO s.1 0 s.2.2.2.1).bind fun l1=>
  ((eQ N) l1 a0).bind fun b2=>
  bif b2 then
   some (.done (.done (aI.mk (0,0) (Field.mk []) (aO.mk 0 []) (aF.mk (aL.mk [] [] []) [] []) [],14)))
  else
   some (.next (s.1,s.2.1,s.2.2.1,aA .i64 (s.2.2.2.1+1),s.2.2.2.2))
 else
  (aT N) (DD N) (s.1,s.1,aa s.1.length,0,s.2.2.2.2)
def DF (N:Nat) (s:((List (Int×Int))×(List (Int×Int))×Int×Int×Int×Int×(List (Int×Int×Int))×Int×(List (Int×Int×Int))×(List Int)×(List Bool)×(List Int)×(List (Int×Int×Int×Int×Int))×(List Int)×(List (Int×Int×Int))×(List (Int×Int×Int))×Int×Int×Int)):Option (bB ((List (Int×Int))×(List (Int×Int))×Int×Int×Int×Int×(List (Int×Int×Int))×Int×(List (Int×Int×Int))×(List Int)×(List Bool)×(List Int)×(List (Int×Int×Int×Int×Int))×(List Int)×(List (Int×Int×Int))×(List (Int×Int×Int))×Int×Int×Int) (aI×Int)):=
 bif decide (s.2.2.2.1<s.2.2.1) then
  (aK s.2.1 s.2.2.2.1).bind fun a0=>
  bif decide (a0.1<0) then
   some (.done (aI.mk (0,0) (Field.mk []) (aO.mk 0 []) (aF.mk (aL.mk [] [] []) [] []) [],8))
  else
   bif decide (a0.2<0) then
    some (.done (aI.mk (0,0) (Field.mk []) (aO.mk 0 []) (aF.mk (aL.mk [] [] []) [] []) [],8))
   else
    bif decide (65535<a0.1) then
     some (.done (aI.mk (0,0) (Field.mk []) (aO.mk 0 []) (aF.mk (aL.mk [] [] []) [] []) [],8))
    else
     bif decide (65535<a0.2) then
      some (.done (aI.mk (0,0) (Field.mk []) (aO.mk 0 []) (aF.mk (aL.mk [] [] []) [] []) [],8))
     else
      bif a0.1==a0.2 then
       some (.done (aI.mk (0,0) (Field.mk []) (aO.mk 0 []) (aF.mk (aL.mk [] [] []) [] []) [],8))
      else
       some (.next (s.1,s.2.1,s.2.2.1,aA .i64 (s.2.2.2.1+1),s.2.2.2.2))
 else
  (aT N) (DE N) (s.1,s.1,aa s.1.length,0,s.2.2.2.2)
def zU (N:Nat) (p0:aI) (p1:Field) (p2:List (Int×Int)):Option (aI×Int):=
 ((gL N) p0).bind fun n0=>
 bif n0 !=0 then
  some (aI.mk (0,0) (Field.mk []) (aO.mk 0 []) (aF.mk (aL.mk [] [] []) [] []) [],n0)
 else
  ((fK N) p1).bind fun n1=>
  bif n1 !=0 then
   some (aI.mk (0,0) (Field.mk []) (aO.mk 0 []) (aF.mk (aL.mk [] [] []) [] []) [],n1)
  else
   (aT N) (DF N) (p2,p2,aa p2.length,0,p0.now.1,p0.now.2,p0.field.points,p0.certs.next_,p0.certs.list,p0.agenda.slots.uses,p0.agenda.slots.used,p0.agenda.slots.free,p0.agenda.heap,p0.agenda.where_,p0.due,p1.points,0,0,0)
def aIf (N:Nat):aU:=⟨aC.cons (aE.agg aX) (aC.cons (aE.agg aW) (aC.one (aE.sl eF))),aE.tup (aC.cons (aE.agg aX) (aC.one (aE.int .i64))),fun a=>(zU N) a.1 a.2.1 a.2.2,.frz,false⟩
theorem aBx (N:Nat):aB tab 120 (aIf N):=aB.of XM (cx:=(aN (aH N) [(64,(c64 N)),(122,(IV N)),(66,(c66 N)),(175,(aH0 N)),(177,(aH1 N)),(177,(aB5 N)),(176,(aIe N))] [] [] [])) rfl (aM.make ⟨(yS N),(pB N),(KX N),(aBi N),(aBj N),(RE N),(aBw N),trivial⟩ trivial trivial) (fun a=>by kernel_rfl)
def fE (N:Nat) (p0:aI) (p1:Field):Option (aP×Int):=
 ((kJ N) p1 p0.now).bind fun a0=>
 ((zU N) p0 p1 a0.2).bind fun a1=>
 bif a1.2 !=0 then
  some (aP.mk (aI.mk (0,0) (Field.mk []) (aO.mk 0 []) (aF.mk (aL.mk [] [] []) [] []) []) [],a1.2)
 else
  some (aP.mk a1.1 a0.1,0)
def c55 (N:Nat):aU:=⟨aC.cons (aE.agg aX) (aC.one (aE.agg aW)),aE.tup (aC.cons (aE.agg bS) (aC.one (aE.int .i64))),fun a=>(fE N) a.1 a.2,.frz,false⟩
theorem DG (N:Nat):aB tab 55 (c55 N):=aB.of aFG (cx:=(aN (aH N) [(50,(c50 N)),(120,(aIf N))] [] [] [])) rfl (aM.make ⟨(GI N),(aBx N),trivial⟩ trivial trivial) (fun a=>by kernel_rfl)
def DH (N:Nat) (p0:aI) (p1:Int×Int):Option (aI×Int):=
 ((rU N) p0 p1).bind fun a0=>
 bif a0.2==0 then
  bif a0.1 then
   some (aI.mk (0,0) (Field.mk []) (aO.mk 0 []) (aF.mk (aL.mk [] [] []) [] []) [],36)
  else
   bif a0.2 !=0 then
    some (aI.mk (0,0) (Field.mk []) (aO.mk 0 []) (aF.mk (aL.mk [] [] []) [] []) [],a0.2)
   else
    ((iG N) p0).bind fun r1=>
    some (aI.mk p1 r1.field r1.certs r1.agenda r1.due,0)
 else
  bif a0.2 !=0 then
   some (aI.mk (0,0) (Field.mk []) (aO.mk 0 []) (aF.mk (aL.mk [] [] []) [] []) [],a0.2)
  else
   ((iG N) p0).bind fun r2=>
   some (aI.mk p1 r2.field r2.certs r2.agenda r2.due,0)
def c56 (N:Nat):aU:=⟨aC.cons (aE.agg aX) (aC.one (aE.agg (bG.row eF))),aE.tup (aC.cons (aE.agg aX) (aC.one (aE.int .i64))),fun a=>(DH N) a.1 a.2,.frz,false⟩
theorem aGu (N:Nat):aB tab 56 (c56 N):=aB.of aFH (cx:=(aN (aH N) [(118,(aGl N)),(121,(RC N)),(121,(I0 N))] [] [] [])) rfl (aM.make ⟨(MS N),(AR N),(xA N),trivial⟩ trivial trivial) (fun a=>by kernel_rfl)
def xD (N:Nat) (s:(Int×Int×(List (Int×Int×Int))×Int×(List (Int×Int×Int))×(List Int)×(List Bool)×(List Int)×(List (Int×Int×Int×Int×Int))×(List Int)×(List (Int×Int×Int))×(List Int)×Int×Int×Int×Int×Int×(List (Int×Int)))):Option (bB (Int×Int×(List (Int×Int×Int))×Int×(List (Int×Int×Int))×(List Int)×(List Bool)×(List Int)×(List (Int×Int×Int×Int×Int))×(List Int)×(List (Int×Int×Int))×(List Int)×Int×Int×Int×Int×Int×(List (Int×Int))) (aP×(List (Int×Int))×Int)):=
 ((C8 N) (aI.mk (s.1,s.2.1) (Field.mk s.2.2.1) (aO.mk s.2.2.2.1 s.2.2.2.2.1) (aF.mk (aL.mk s.2.2.2.2.2.1 s.2.2.2.2.2.2.1 s.2.2.2.2.2.2.2.1) s.2.2.2.2.2.2.2.2.1 s.2.2.2.2.2.2.2.2.2.1) s.2.2.2.2.2.2.2.2.2.2.1) (s.2.2.2.2.2.2.2.2.2.2.2.2.1,s.2.2.2.2.2.2.2.2.2.2.2.2.2.1)).bind fun a0=>
 bif a0.2.2.2 !=0 then
  ((DH N) (aI.mk (s.1,s.2.1) (Field.mk s.2.2.1) (aO.mk s.2.2.2.1 s.2.2.2.2.1) (aF.mk (aL.mk s.2.2.2.2.2.1 s.2.2.2.2.2.2.1 s.2.2.2.2.2.2.2.1) s.2.2.2.2.2.2.2.2.1 s.2.2.2.2.2.2.2.2.2.1) s.2.2.2.2.2.2.2.2.2.2.1) (s.2.2.2.2.2.2.2.2.2.2.2.2.1,s.2.2.2.2.2.2.2.2.2.2.2.2.2.1)).bind fun a1=>
  ((kJ N) a1.1.field (s.2.2.2.2.2.2.2.2.2.2.2.2.1,s.2.2.2.2.2.2.2.2.2.2.2.2.2.1)).bind fun a2=>
  some (.done (aP.mk a1.1 a2.1,s.2.2.2.2.2.2.2.2.2.2.2.2.2.2.2.2.2,0))
 else
  ((fE N) a0.1 a0.1.field).bind fun a3=>
  bif a3.2 !=0 then
   some (.done (aP.mk (aI.mk (0,0) (Field.mk []) (aO.mk 0 []) (aF.mk (aL.mk [] [] []) [] []) []) [],[],a3.2))
  else
   (bE s.2.2.2.2.2.2.2.2.2.2.2.2.2.2.2.2.2 [a0.2.2.1]).bind fun l4=>
   some (.next (a3.1.clock.now.1,a3.1.clock.now.2,a3.1.clock.field.points,a3.1.clock.certs.next_,a3.1.clock.certs.list,a3.1.clock.agenda.slots.uses,a3.1.clock.agenda.slots.used,a3.1.clock.agenda.slots.free,a3.1.clock.agenda.heap,a3.1.clock.agenda.where_,a3.1.clock.due,a3.1.up,s.2.2.2.2.2.2.2.2.2.2.2.2.1,s.2.2.2.2.2.2.2.2.2.2.2.2.2.1,s.2.2.2.2.2.2.2.2.2.2.2.2.2.2.1,s.2.2.2.2.2.2.2.2.2.2.2.2.2.2.2.1,s.2.2.2.2.2.2.2.2.2.2.2.2.2.2.2.2.1,l4))
def cJ (N:Nat) (p0:aP) (p1:Int×Int):Option (aP×(List (Int×Int))×Int):=
 ((cL N) p0).bind fun n0=>
 bif n0 !=0 then
  some (aP.mk (aI.mk (0,0) (Field.mk []) (aO.mk 0 []) (aF.mk (aL.mk [] [] []) [] []) []) [],[],n0)
 else
  ((dD N) p1).bind fun n1=>
  bif n1 !=0 then
   some (aP.mk (aI.mk (0,0) (Field.mk []) (aO.mk 0 []) (aF.mk (aL.mk [] [] []) [] []) []) [],[],8)
  else
   ((nW N) p1 p0.clock.now).bind fun a2=>
   bif decide (a2.1<0) then
    some (aP.mk (aI.mk (0,0) (Field.mk []) (aO.mk 0 []) (aF.mk (aL.mk [] [] []) [] []) []) [],[],44)
   else
    (aT N) (xD N) (p0.clock.now.1,p0.clock.now.2,p0.clock.field.points,p0.clock.certs.next_,p0.clock.certs.list,p0.clock.agenda.slots.uses,p0.clock.agenda.slots.used,p0.clock.agenda.slots.free,p0.clock.agenda.heap,p0.clock.agenda.where_,p0.clock.due,p0.up,p1.1,p1.2,0,0,0,[])
def c14 (N:Nat):aU:=⟨aC.cons (aE.agg bS) (aC.one (aE.agg (bG.row eF))),aE.tup (aC.cons (aE.agg bS) (aC.cons (aE.sl eF) (aC.one (aE.int .i64)))),fun a=>(cJ N) a.1 a.2,.frz,false⟩
theorem RG (N:Nat):aB tab 14 (c14 N):=aB.of aFi (cx:=(aN (aH N) [(18,(c18 N)),(52,(RX N)),(53,(c53 N)),(54,(c54 N)),(55,(c55 N)),(56,(c56 N)),(50,(c50 N))] [] [] [])) rfl (aM.make ⟨(vE N),(pA N),(KU N),(aGr N),(DG N),(aGu N),(GI N),trivial⟩ trivial trivial) (fun a=>by kernel_rfl)
def E3 (N:Nat) (p0:Field) (p1:Int×Int×Int):Option (Field×Int):=
 ((fK N) p0).bind fun n0=>
 bif n0 !=0 then
  some (Field.mk [],n0)
 else
  ((gR N) p1).bind fun n1=>
  bif n1 !=0 then
   some (Field.mk [],n1)
  else
   ((vF N) p0 p1.1).bind fun a2=>
   bif a2.2 then
    some (Field.mk [],14)
   else
    bif (aa p0.points.length)==64 then
     some (Field.mk [],18)
    else
     (bC p0.points).bind fun l3=>
     (AL l3 a2.1 [p1]).bind fun l4=>
     some (Field.mk l4,0)
def c59 (N:Nat):aU:=⟨aC.cons (aE.agg aW) (aC.one (aE.agg (bG.row bY))),aE.tup (aC.cons (aE.agg aW) (aC.one (aE.int .i64))),fun a=>(E3 N) a.1 a.2,.frz,false⟩
theorem RH (N:Nat):aB tab 59 (c59 N):=aB.of aFI (cx:=(aN (aH N) [(122,(IV N)),(123,(Q7 N)),(124,(aGs N)),(126,aU.clone bY)] [] [(125,.ins 3)] [])) rfl (aM.make ⟨(pB N),(AQ N),(MY N),iX,trivial⟩ trivial ⟨XQ,trivial⟩) (fun a=>by kernel_rfl)
def xE (N:Nat) (p0:Field) (p1:Int×Int×Int):Option (Field×Int):=
 ((E3 N) p0 p1).bind fun a0=>
 some a0
def c58 (N:Nat):aU:=⟨aC.cons (aE.agg aW) (aC.one (aE.ref (bG.row bY))),aE.tup (aC.cons (aE.agg aW) (aC.one (aE.int .i64))),fun a=>(xE N) a.1 a.2,.frz,false⟩
theorem aGv (N:Nat):aB tab 58 (c58 N):=aB.of QO (cx:=(aN (aH N) [(59,(c59 N))] [] [] [])) rfl (aM.make ⟨(RH N),trivial⟩ trivial trivial) (fun a=>by kernel_rfl)
def fU (N:Nat) (p0:aP) (p1:(Int×Int×Int)):Option (aP×Int):=
 ((cL N) p0).bind fun n0=>
 bif n0 !=0 then
  some (aP.mk (aI.mk (0,0) (Field.mk []) (aO.mk 0 []) (aF.mk (aL.mk [] [] []) [] []) []) [],n0)
 else
  ((xE N) p0.clock.field p1).bind fun a1=>
  bif a1.2 !=0 then
   some (aP.mk (aI.mk (0,0) (Field.mk []) (aO.mk 0 []) (aF.mk (aL.mk [] [] []) [] []) []) [],a1.2)
  else
   ((fE N) p0.clock a1.1).bind fun a2=>
   some a2
def RI (N:Nat):aU:=⟨aC.cons (aE.agg bS) (aC.one (aE.clo 58 (aC.one (aE.ref (bG.row bY))))),aE.tup (aC.cons (aE.agg bS) (aC.one (aE.int .i64))),fun a=>(fU N) a.1 a.2,.frz,false⟩
theorem OF (N:Nat):aB tab 57 (RI N):=aB.of KP (cx:=(aN (aH N) [(18,(c18 N)),(58,(c58 N)),(59,(c59 N)),(55,(c55 N))] [] [(58,x58)] [])) rfl (aM.make ⟨(vE N),(aGv N),(RH N),(DG N),trivial⟩ trivial ⟨QO,trivial⟩) (fun a=>by kernel_rfl)
def gM (N:Nat) (p0:aP) (p1:Int×Int×Int):Option (aP×Int):=
 ((fU N) p0 p1).bind fun a0=>
 some a0
def c15 (N:Nat):aU:=⟨aC.cons (aE.agg bS) (aC.one (aE.agg (bG.row bY))),aE.tup (aC.cons (aE.agg bS) (aC.one (aE.int .i64))),fun a=>(gM N) a.1 a.2,.frz,false⟩
theorem aGw (N:Nat):aB tab 15 (c15 N):=aB.of aFj (cx:=(aN (aH N) [(57,(RI N))] [] [] [])) rfl (aM.make ⟨(OF N),trivial⟩ trivial trivial) (fun a=>by kernel_rfl)
def hY (_:Nat) (a:(Int×Int×(List (Int×Int×Int)))):Option (Nat×Nat×(List (Int×Int×Int))):=
 bif (((decide (0<=a.1))&&(decide (a.1<=a.2.1)))&&(decide (a.2.1<=(aa a.2.2.length))))&&(decide ((aa a.2.2.length)<=(aa a.2.2.length))) then
  bif a.1==a.2.1 then
   bif a.2.2.length==a.2.2.length then
    some (a.2.2.length,a.2.2.length,a.2.2)
   else
    none
  else
   (fO a.2.2 0 a.1).bind fun _=>
   bif ((decide (0<=a.2.1))&&(decide (a.2.1<=(aa a.2.2.length))))&&(decide ((aa a.2.2.length)<=(aa a.2.2.length))) then
    bif ((a.2.2.drop (0+a.2.1.toNat)).take (((aa a.2.2.length).toNat) -a.2.1.toNat)).isEmpty then
     bif ((decide (0<=(aa a.1.toNat)))&&(decide ((aa a.1.toNat)<=(aa a.2.2.length))))&&(decide ((aa a.2.2.length)<=(aa a.2.2.length))) then
      bif Nat.beq (((aa a.2.2.length).toNat) - ((aa a.1.toNat).toNat)) 0 then
       bif a.2.2.length==a.2.2.length then
        some (a.1.toNat,a.2.2.length,a.2.2)
       else
        none
      else
       bif (ae ((0+((aa a.1.toNat).toNat))+(((aa a.2.2.length).toNat) - ((aa a.1.toNat).toNat))) a.2.2.length)&&(!false) then
        bif ((dP a.2.2 (0+((aa a.1.toNat).toNat)) (ac (((aa a.2.2.length).toNat) - ((aa a.1.toNat).toNat)) (0,0,0))).length)==a.2.2.length then
         some (a.1.toNat,a.2.2.length,dP a.2.2 (0+((aa a.1.toNat).toNat)) (ac (((aa a.2.2.length).toNat) - ((aa a.1.toNat).toNat)) (0,0,0)))
        else
         none
       else
        none
     else
      none
    else
     bif ae (a.1.toNat+(((a.2.2.drop (0+a.2.1.toNat)).take (((aa a.2.2.length).toNat) -a.2.1.toNat)).length)) a.2.2.length then
      bif (ae (a.1.toNat+(((a.2.2.drop (0+a.2.1.toNat)).take (((aa a.2.2.length).toNat) -a.2.1.toNat)).length)) a.2.2.length)&&(!false) then
       bif ((decide (0<=(aa (a.1.toNat+(((a.2.2.drop (0+a.2.1.toNat)).take (((aa a.2.2.length).toNat) -a.2.1.toNat)).length)))))&&(decide ((aa (a.1.toNat+(((a.2.2.drop (0+a.2.1.toNat)).take (((aa a.2.2.length).toNat) -a.2.1.toNat)).length)))<=(aa a.2.2.length))))&&(decide ((aa a.2.2.length)<=(aa a.2.2.length))) then
        bif Nat.beq (((aa a.2.2.length).toNat) - ((aa (a.1.toNat+(((a.2.2.drop (0+a.2.1.toNat)).take (((aa a.2.2.length).toNat) -a.2.1.toNat)).length))).toNat)) 0 then
         bif ((dP a.2.2 a.1.toNat ((a.2.2.drop (0+a.2.1.toNat)).take (((aa a.2.2.length).toNat) -a.2.1.toNat))).length)==a.2.2.length then
          some (a.1.toNat+(((a.2.2.drop (0+a.2.1.toNat)).take (((aa a.2.2.length).toNat) -a.2.1.toNat)).length),a.2.2.length,dP a.2.2 a.1.toNat ((a.2.2.drop (0+a.2.1.toNat)).take (((aa a.2.2.length).toNat) -a.2.1.toNat)))
         else
          none
        else
         bif (ae ((0+((aa (a.1.toNat+(((a.2.2.drop (0+a.2.1.toNat)).take (((aa a.2.2.length).toNat) -a.2.1.toNat)).length))).toNat))+(((aa a.2.2.length).toNat) - ((aa (a.1.toNat+(((a.2.2.drop (0+a.2.1.toNat)).take (((aa a.2.2.length).toNat) -a.2.1.toNat)).length))).toNat))) ((dP a.2.2 a.1.toNat ((a.2.2.drop (0+a.2.1.toNat)).take (((aa a.2.2.length).toNat) -a.2.1.toNat))).length))&&(!false) then
          bif ((dP (dP a.2.2 a.1.toNat ((a.2.2.drop (0+a.2.1.toNat)).take (((aa a.2.2.length).toNat) -a.2.1.toNat))) (0+((aa (a.1.toNat+(((a.2.2.drop (0+a.2.1.toNat)).take (((aa a.2.2.length).toNat) -a.2.1.toNat)).length))).toNat)) (ac (((aa a.2.2.length).toNat) - ((aa (a.1.toNat+(((a.2.2.drop (0+a.2.1.toNat)).take (((aa a.2.2.length).toNat) -a.2.1.toNat)).length))).toNat)) (0,0,0))).length)==a.2.2.length then
           some (a.1.toNat+(((a.2.2.drop (0+a.2.1.toNat)).take (((aa a.2.2.length).toNat) -a.2.1.toNat)).length),a.2.2.length,dP (dP a.2.2 a.1.toNat ((a.2.2.drop (0+a.2.1.toNat)).take (((aa a.2.2.length).toNat) -a.2.1.toNat))) (0+((aa (a.1.toNat+(((a.2.2.drop (0+a.2.1.toNat)).take (((aa a.2.2.length).toNat) -a.2.1.toNat)).length))).toNat)) (ac (((aa a.2.2.length).toNat) - ((aa (a.1.toNat+(((a.2.2.drop (0+a.2.1.toNat)).take (((aa a.2.2.length).toNat) -a.2.1.toNat)).length))).toNat)) (0,0,0)))
          else
           none
         else
          none
       else
        none
      else
       none
     else
      none
   else
    none
 else
  none
def RJ (N:Nat):bV:=⟨[.i,.i,.l [.i .i64,.i .i64,.i .i64]],[.own 0 false,.int .i64 0,.int .i64 0],[.arr [.i .i64,.i .i64,.i .i64] []],[.n,.n,.l [.i .i64,.i .i64,.i .i64]],.pre 0 0 0 false,[.arr [.i .i64,.i .i64,.i .i64] []],fun a=>(hY N) a⟩
theorem OG (N:Nat):eE tab 128 (RJ N):=eE.of XU (wd:=true) (cx:=(aN (aH N) [] [] [] [])) (aM.make trivial trivial trivial) (fun a=>by kernel_rfl)
def DI (N:Nat) (p0:Field) (p1:Int):Option (Field×Int):=
 ((mR N) p0 p1).bind fun a0=>
 bif a0.2 !=0 then
  some (Field.mk [],a0.2)
 else
  (bC p0.points).bind fun l1=>
  ((hY N) (a0.1,aA .i64 (a0.1+1),l1)).bind fun a2=>
  some (Field.mk (a2.2.2.take a2.1),0)
def c61 (N:Nat):aU:=⟨aC.cons (aE.agg aW) (aC.one (aE.int .i64)),aE.tup (aC.cons (aE.agg aW) (aC.one (aE.int .i64))),fun a=>(DI N) a.1 a.2,.frz,false⟩
theorem RK (N:Nat):aB tab 61 (c61 N):=aB.of aFJ (cx:=(aN (aH N) [(127,(aBh N)),(126,aU.clone bY)] [(128,(RJ N))] [] [])) rfl (aM.make ⟨(GK N),iX,trivial⟩ ⟨(OG N),trivial⟩ trivial) (fun a=>by kernel_rfl)
def uA (N:Nat) (p0:Field) (p1:Int):Option (Field×Int):=
 ((DI N) p0 p1).bind fun a0=>
 some a0
def c60 (N:Nat):aU:=⟨aC.cons (aE.agg aW) (aC.one (aE.ref (bG.int .i64))),aE.tup (aC.cons (aE.agg aW) (aC.one (aE.int .i64))),fun a=>(uA N) a.1 a.2,.frz,false⟩
theorem aGx (N:Nat):aB tab 60 (c60 N):=aB.of QP (cx:=(aN (aH N) [(61,(c61 N))] [] [] [])) rfl (aM.make ⟨(RK N),trivial⟩ trivial trivial) (fun a=>by kernel_rfl)
def fL (N:Nat) (p0:aP) (p1:Int):Option (aP×Int):=
 ((cL N) p0).bind fun n0=>
 bif n0 !=0 then
  some (aP.mk (aI.mk (0,0) (Field.mk []) (aO.mk 0 []) (aF.mk (aL.mk [] [] []) [] []) []) [],n0)
 else
  ((uA N) p0.clock.field p1).bind fun a1=>
  bif a1.2 !=0 then
   some (aP.mk (aI.mk (0,0) (Field.mk []) (aO.mk 0 []) (aF.mk (aL.mk [] [] []) [] []) []) [],a1.2)
  else
   ((fE N) p0.clock a1.1).bind fun a2=>
   some a2
def RM (N:Nat):aU:=⟨aC.cons (aE.agg bS) (aC.one (aE.clo 60 (aC.one (aE.ref (bG.int .i64))))),aE.tup (aC.cons (aE.agg bS) (aC.one (aE.int .i64))),fun a=>(fL N) a.1 a.2,.frz,false⟩
theorem OH (N:Nat):aB tab 57 (RM N):=aB.of KP (cx:=(aN (aH N) [(18,(c18 N)),(60,(c60 N)),(61,(c61 N)),(55,(c55 N))] [] [(60,x60)] [])) rfl (aM.make ⟨(vE N),(aGx N),(RK N),(DG N),trivial⟩ trivial ⟨QP,trivial⟩) (fun a=>by kernel_rfl)
def gN (N:Nat) (p0:aP) (p1:Int):Option (aP×Int):=
 ((fL N) p0 p1).bind fun a0=>
 some a0
def c16 (N:Nat):aU:=⟨aC.cons (aE.agg bS) (aC.one (aE.int .i64)),aE.tup (aC.cons (aE.agg bS) (aC.one (aE.int .i64))),fun a=>(gN N) a.1 a.2,.frz,false⟩
theorem aGy (N:Nat):aB tab 16 (c16 N):=aB.of aFk (cx:=(aN (aH N) [(57,(RM N))] [] [] [])) rfl (aM.make ⟨(OH N),trivial⟩ trivial trivial) (fun a=>by kernel_rfl)
def xF (N:Nat) (p0:Field) (p1:Int×Int×Int):Option (Field×Int):=
 ((fK N) p0).bind fun n0=>
 bif n0 !=0 then
  some (Field.mk [],n0)
 else
  ((gR N) p1).bind fun n1=>
  bif n1 !=0 then
   some (Field.mk [],n1)
  else
   ((mR N) p0 p1.1).bind fun a2=>
   bif a2.2 !=0 then
    some (Field.mk [],a2.2)
   else
    (bC p0.points).bind fun l3=>
    (aK l3 a2.1).bind fun _=>
    some (Field.mk (bM l3 a2.1 p1),0)
def c63 (N:Nat):aU:=⟨aC.cons (aE.agg aW) (aC.one (aE.agg (bG.row bY))),aE.tup (aC.cons (aE.agg aW) (aC.one (aE.int .i64))),fun a=>(xF N) a.1 a.2,.frz,false⟩
theorem RN (N:Nat):aB tab 63 (c63 N):=aB.of aFK (cx:=(aN (aH N) [(122,(IV N)),(123,(Q7 N)),(127,(aBh N)),(126,aU.clone bY)] [] [] [])) rfl (aM.make ⟨(pB N),(AQ N),(GK N),iX,trivial⟩ trivial trivial) (fun a=>by kernel_rfl)
def pZ (N:Nat) (p0:Field) (p1:Int×Int×Int):Option (Field×Int):=
 ((xF N) p0 p1).bind fun a0=>
 some a0
def c62 (N:Nat):aU:=⟨aC.cons (aE.agg aW) (aC.one (aE.ref (bG.row bY))),aE.tup (aC.cons (aE.agg aW) (aC.one (aE.int .i64))),fun a=>(pZ N) a.1 a.2,.frz,false⟩
theorem aGz (N:Nat):aB tab 62 (c62 N):=aB.of QQ (cx:=(aN (aH N) [(63,(c63 N))] [] [] [])) rfl (aM.make ⟨(RN N),trivial⟩ trivial trivial) (fun a=>by kernel_rfl)
def eV (N:Nat) (p0:aP) (p1:(Int×Int×Int)):Option (aP×Int):=
 ((cL N) p0).bind fun n0=>
 bif n0 !=0 then
  some (aP.mk (aI.mk (0,0) (Field.mk []) (aO.mk 0 []) (aF.mk (aL.mk [] [] []) [] []) []) [],n0)
 else
  ((pZ N) p0.clock.field p1).bind fun a1=>
  bif a1.2 !=0 then
   some (aP.mk (aI.mk (0,0) (Field.mk []) (aO.mk 0 []) (aF.mk (aL.mk [] [] []) [] []) []) [],a1.2)
  else
   ((fE N) p0.clock a1.1).bind fun a2=>
   some a2
def RO (N:Nat):aU:=⟨aC.cons (aE.agg bS) (aC.one (aE.clo 62 (aC.one (aE.ref (bG.row bY))))),aE.tup (aC.cons (aE.agg bS) (aC.one (aE.int .i64))),fun a=>(eV N) a.1 a.2,.frz,false⟩
theorem OI (N:Nat):aB tab 57 (RO N):=aB.of KP (cx:=(aN (aH N) [(18,(c18 N)),(62,(c62 N)),(63,(c63 N)),(55,(c55 N))] [] [(62,x62)] [])) rfl (aM.make ⟨(vE N),(aGz N),(RN N),(DG N),trivial⟩ trivial ⟨QQ,trivial⟩) (fun a=>by kernel_rfl)
def eT (N:Nat) (p0:aP) (p1:Int×Int×Int):Option (aP×Int):=
 ((eV N) p0 p1).bind fun a0=>
 some a0
def c17 (N:Nat):aU:=⟨aC.cons (aE.agg bS) (aC.one (aE.agg (bG.row bY))),aE.tup (aC.cons (aE.agg bS) (aC.one (aE.int .i64))),fun a=>(eT N) a.1 a.2,.frz,false⟩
theorem aGA (N:Nat):aB tab 17 (c17 N):=aB.of aFl (cx:=(aN (aH N) [(57,(RO N))] [] [] [])) rfl (aM.make ⟨(OI N),trivial⟩ trivial trivial) (fun a=>by kernel_rfl)
def JI (_:Nat) (s:(Int×Int×Int×(List Int)×(List Bool)×(List Int))):Option (bB (Int×Int×Int×(List Int)×(List Bool)×(List Int)) (aL×Int)):=
 bif decide (s.2.2.1<s.2.1) then
  (aK s.2.2.2.2.2 s.2.2.1).bind fun _=>
  some (.next (s.1,s.2.1,aA .i64 (s.2.2.1+1),s.2.2.2.1,s.2.2.2.2.1,bM s.2.2.2.2.2 s.2.2.1 (aA .i64 ((aA .i64 (s.1-1)) -s.2.2.1))))
 else
  some (.done (aL.mk s.2.2.2.1 s.2.2.2.2.1 s.2.2.2.2.2,0))
def JJ (N:Nat) (p0:Int):Option (aL×Int):=
 bif decide (p0<1) then
  some (aL.mk [] [] [],2)
 else
  bif decide (200<p0) then
   some (aL.mk [] [] [],2)
  else
   bif p0==p0 then
    (qR p0 (0:Int)).bind fun l0=>
    bif p0==p0 then
     (qR p0 (false:Bool)).bind fun l1=>
     bif p0==p0 then
      (qR p0 (0:Int)).bind fun l2=>
      (aT N) (JI N) (p0,p0,0,l0,l1,l2)
     else
      none
    else
     none
   else
    none
def aIg (N:Nat):aU:=⟨aC.one (aE.int .i64),aE.tup (aC.cons (aE.agg eD) (aC.one (aE.int .i64))),fun a=>(JJ N) a,.frz,false⟩
theorem aBy (N:Nat):aB tab 194 (aIg N):=aB.of YZ (cx:=(aN (aH N) [] [] [] [])) rfl (aM.make trivial trivial trivial) (fun a=>by kernel_rfl)
def AF (_:Nat) (p0:Int) (p1:Int):Option (Int×Int):=
 some (aA .u32 (gC .u64 (aA .u64 ((aA .u64 p0)*(aA .u64 p1))) 32),aA .u32 (aA .u64 ((aA .u64 p0)*(aA .u64 p1))))
def aIh (N:Nat):aU:=⟨aC.cons (aE.int .u32) (aC.one (aE.int .u32)),aE.tup (aC.cons (aE.int .u32) (aC.one (aE.int .u32))),fun a=>(AF N) a.1 a.2,.pure,false⟩
theorem aBz (N:Nat):aB tab 276 (aIh N):=aB.of Z8 (cx:=(aN (aH N) [] [] [] [])) rfl (aM.make trivial trivial trivial) (fun a=>by kernel_rfl)
def uB (N:Nat) (p0:Int) (p1:Int):Option (Int×Int):=
 ((fT N) p0 p1).bind fun a0=>
 some a0
def aGB (N:Nat):aU:=⟨aC.cons (aE.int .u64) (aC.one (aE.int .u64)),aE.tup (aC.cons (aE.int .u64) (aC.one (aE.int .u64))),fun a=>(uB N) a.1 a.2,.pure,false⟩
theorem M0 (N:Nat):aB tab 240 (aGB N):=aB.of ZS (cx:=(aN (aH N) [(276,(aIh N)),(169,(aAR N))] [] [] [])) rfl (aM.make ⟨(aBz N),(GD N),trivial⟩ trivial trivial) (fun a=>by kernel_rfl)
def kK (_:Nat) (s:(Int×(List Int))):Option (bB (Int×(List Int)) (List Int)):=
 bif decide (s.1<(aa s.2.length)) then
  bif ((decide (0<=s.1))&&(decide (s.1<=(aa s.2.length))))&&(decide ((aa s.2.length)<=(aa s.2.length))) then
   (fO s.2 0 s.1).bind fun _=>
   bif ((s.2.take s.1.toNat).take (((aa s.2.length).toNat) -s.1.toNat)).isEmpty then
    some (.next (aA .i64 (s.1+0),s.2))
   else
    bif (ae ((0+s.1.toNat)+(((s.2.take s.1.toNat).take (((aa s.2.length).toNat) -s.1.toNat)).length)) s.2.length)&&(!false) then
     some (.next (aA .i64 (s.1+(aa (((s.2.take s.1.toNat).take (((aa s.2.length).toNat) -s.1.toNat)).length))),dP s.2 (0+s.1.toNat) ((s.2.take s.1.toNat).take (((aa s.2.length).toNat) -s.1.toNat))))
    else
     none
  else
   none
 else
  some (.done s.2)
def jE (N:Nat) (p0:List Int) (p1:Int):Option (List Int):=
 bif decide (p1<0) then
  none
 else
  ((uB N) (aA .u64 (aa p0.length)) (aA .u64 p1)).bind fun a0=>
  bif decide (0<a0.1) then
   none
  else
   bif decide (9223372036854775807<a0.2) then
    none
   else
    bif (aA .i64 a0.2)==(aA .i64 a0.2) then
     (qR (aA .i64 a0.2) (0:Int)).bind fun l1=>
     bif (p0.take l1.length).isEmpty then
      (aT N) (kK N) (0,l1)
     else
      bif (ae (0+((p0.take l1.length).length)) l1.length)&&(!false) then
       (aT N) (kK N) (aa ((p0.take l1.length).length),dP l1 0 (p0.take l1.length))
      else
       none
    else
     none
def aIi (N:Nat):aU:=⟨aC.cons (aE.sl ki) (aC.one (aE.int .i64)),aE.sl ki,fun a=>(jE N) a.1 a.2,.own,true⟩
def aB6 (N:Nat):aU:=⟨aC.cons (aE.sl ki) (aC.one (aE.int .i64)),aE.sl ki,fun a=>(jE N) a.1 a.2,.frz,false⟩
theorem aBA (N:Nat):aB tab 195 (aIi N):=aB.of L8 (cx:=(aN (aH N) [(240,(aGB N))] [] [] [])) rfl (aM.make ⟨(M0 N),trivial⟩ trivial trivial) (fun a=>by kernel_rfl)
theorem RP (N:Nat):aB tab 195 (aB6 N):=aB.of L8 (cx:=(aN (aH N) [(240,(aGB N))] [] [] [])) rfl (aM.make ⟨(M0 N),trivial⟩ trivial trivial) (fun a=>by kernel_rfl)
def DJ (N:Nat) (p0:Int):Option (aF×Int):=
 ((JJ N) p0).bind fun a0=>
 bif a0.2 !=0 then
  some (aF.mk (aL.mk [] [] []) [] [],a0.2)
 else
  ((jE N) [-1] p0).bind fun l1=>
  some (aF.mk a0.1 [] l1,0)
def aIj (N:Nat):aU:=⟨aC.one (aE.int .i64),aE.tup (aC.cons (aE.agg bW) (aC.one (aE.int .i64))),fun a=>(DJ N) a,.frz,false⟩
theorem aBB (N:Nat):aB tab 133 (aIj N):=aB.of XZ (cx:=(aN (aH N) [(194,(aIg N)),(195,(aIi N)),(195,(aB6 N))] [] [] [])) rfl (aM.make ⟨(aBy N),(aBA N),(RP N),trivial⟩ trivial trivial) (fun a=>by kernel_rfl)
def E4 (N:Nat) (p0:Field) (p1:Int×Int):Option (aI×Int):=
 ((fK N) p0).bind fun n0=>
 bif n0 !=0 then
  some (aI.mk (0,0) (Field.mk []) (aO.mk 0 []) (aF.mk (aL.mk [] [] []) [] []) [],n0)
 else
  ((dD N) p1).bind fun n1=>
  bif n1 !=0 then
   some (aI.mk (0,0) (Field.mk []) (aO.mk 0 []) (aF.mk (aL.mk [] [] []) [] []) [],n1)
  else
   ((DJ N) 200).bind fun a2=>
   (bC p0.points).bind fun l3=>
   some (aI.mk p1 (Field.mk l3) (aO.mk 0 []) a2.1 [],a2.2)
def c67 (N:Nat):aU:=⟨aC.cons (aE.agg aW) (aC.one (aE.agg (bG.row eF))),aE.tup (aC.cons (aE.agg aX) (aC.one (aE.int .i64))),fun a=>(E4 N) a.1 a.2,.frz,false⟩
theorem aGC (N:Nat):aB tab 67 (c67 N):=aB.of aFO (cx:=(aN (aH N) [(122,(IV N)),(52,(RX N)),(133,(aIj N)),(126,aU.clone bY)] [] [] [])) rfl (aM.make ⟨(pB N),(pA N),(aBB N),iX,trivial⟩ trivial trivial) (fun a=>by kernel_rfl)
def gU (N:Nat) (p0:Field) (p1:Int×Int):Option (aP×Int):=
 ((E4 N) p0 p1).bind fun a0=>
 bif a0.2 !=0 then
  some (aP.mk (aI.mk (0,0) (Field.mk []) (aO.mk 0 []) (aF.mk (aL.mk [] [] []) [] []) []) [],a0.2)
 else
  ((fE N) a0.1 p0).bind fun a1=>
  some a1
def c19 (N:Nat):aU:=⟨aC.cons (aE.agg aW) (aC.one (aE.agg (bG.row eF))),aE.tup (aC.cons (aE.agg bS) (aC.one (aE.int .i64))),fun a=>(gU N) a.1 a.2,.frz,false⟩
theorem RQ (N:Nat):aB tab 19 (c19 N):=aB.of aFn (cx:=(aN (aH N) [(67,(c67 N)),(55,(c55 N))] [] [] [])) rfl (aM.make ⟨(aGC N),(DG N),trivial⟩ trivial trivial) (fun a=>by kernel_rfl)
def yU (_:Nat) (s:((List Int)×(List Int)×Int)):Option (bB ((List Int)×(List Int)×Int) Bool):=
 bif decide (s.2.2<(aa s.1.length)) then
  (aK s.1 s.2.2).bind fun n0=>
  (aK s.2.1 s.2.2).bind fun n1=>
  bif n0 !=n1 then
   some (.done false)
  else
   some (.next (s.1,s.2.1,aA .i64 (s.2.2+1)))
 else
  some (.done true)
def jY (N:Nat) (p0:List Int) (p1:List Int):Option Bool:=
 bif (aa p0.length) !=(aa p1.length) then
  some false
 else
  (aT N) (yU N) (p0,p1,0)
def c21 (N:Nat):aU:=⟨aC.cons (aE.sl ki) (aC.one (aE.sl ki)),aE.bool,fun a=>(jY N) a.1 a.2,.pure,false⟩
theorem RR (N:Nat):aB tab 21 (c21 N):=aB.of aFp (cx:=(aN (aH N) [] [] [] [])) rfl (aM.make trivial trivial trivial) (fun a=>by kernel_rfl)
def vI (_:Nat) (s:((List (Int×Int))×(List (Int×Int))×Int)):Option (bB ((List (Int×Int))×(List (Int×Int))×Int) Bool):=
 bif decide (s.2.2<(aa s.1.length)) then
  (aK s.1 s.2.2).bind fun a0=>
  (aK s.2.1 s.2.2).bind fun a1=>
  bif !((a0.1==a1.1)&&(a0.2==a1.2)) then
   some (.done false)
  else
   some (.next (s.1,s.2.1,aA .i64 (s.2.2+1)))
 else
  some (.done true)
def qA (N:Nat) (p0:List (Int×Int)) (p1:List (Int×Int)):Option Bool:=
 bif (aa p0.length) !=(aa p1.length) then
  some false
 else
  (aT N) (vI N) (p0,p1,0)
def c27 (N:Nat):aU:=⟨aC.cons (aE.sl eF) (aC.one (aE.sl eF)),aE.bool,fun a=>(qA N) a.1 a.2,.pure,false⟩
theorem aGD (N:Nat):aB tab 27 (c27 N):=aB.of aFr (cx:=(aN (aH N) [] [] [] [])) rfl (aM.make trivial trivial trivial) (fun a=>by kernel_rfl)
def zV (N:Nat):Option Bool:=
 (kI N).bind fun r0=>
 ((hO N) 0).bind fun a1=>
 ((gU N) r0 a1).bind fun a2=>
 ((hO N) 2).bind fun a3=>
 ((cJ N) a2.1 a3).bind fun a4=>
 ((dW N) a4.1).bind fun a5=>
 bif a2.2==0 then
  bif a4.2.2==0 then
   bif a5.2==0 then
    bif a5.1==1 then
     ((jY N) a2.1.up [2,-1,1]).bind fun b6=>
     bif b6 then
      ((jY N) a4.1.up [-1,1,1]).bind fun b7=>
      bif b7 then
       ((qA N) a4.2.1 [(1,2)]).bind fun b8=>
       some b8
      else
       some false
     else
      some false
    else
     some false
   else
    some false
  else
   some false
 else
  some false
def c20 (N:Nat):aU:=⟨aC.nil,aE.bool,fun _=>(zV N),.pure,false⟩
theorem aGE (N:Nat):aB tab 20 (c20 N):=aB.of aFo (cx:=(aN (aH N) [(8,(c8 N)),(9,(c9 N)),(19,(c19 N)),(14,(c14 N)),(13,(c13 N)),(21,(c21 N)),(27,(c27 N))] [] [] [])) rfl (aM.make ⟨(aB2 N),(aB3 N),(RQ N),(RG N),(Q9 N),(RR N),(aGD N),trivial⟩ trivial trivial) (fun a=>by kernel_rfl)
def gO (N:Nat) (s:(Int×Int×Int×(List (Int×Int×Int))×Int×(List (Int×Int×Int))×(List Int)×(List Bool)×(List Int)×(List (Int×Int×Int×Int×Int))×(List Int)×(List (Int×Int×Int))×(List Int))):Option (bB (Int×Int×Int×(List (Int×Int×Int))×Int×(List (Int×Int×Int))×(List Int)×(List Bool)×(List Int)×(List (Int×Int×Int×Int×Int))×(List Int)×(List (Int×Int×Int))×(List Int)) Bool):=
 bif decide (s.1<4) then
  ((oZ N) (aP.mk (aI.mk (s.2.1,s.2.2.1) (Field.mk s.2.2.2.1) (aO.mk s.2.2.2.2.1 s.2.2.2.2.2.1) (aF.mk (aL.mk s.2.2.2.2.2.2.1 s.2.2.2.2.2.2.2.1 s.2.2.2.2.2.2.2.2.1) s.2.2.2.2.2.2.2.2.2.1 s.2.2.2.2.2.2.2.2.2.2.1) s.2.2.2.2.2.2.2.2.2.2.2.1) s.2.2.2.2.2.2.2.2.2.2.2.2)).bind fun r0=>
  bif s.1==0 then
   (aK r0.up 0).bind fun _=>
   ((gT N) (aP.mk r0.clock (bM r0.up 0 5))).bind fun a2=>
   ((dW N) (aP.mk r0.clock (bM r0.up 0 5))).bind fun a3=>
   ((cJ N) (aP.mk r0.clock (bM r0.up 0 5)) (0,0)).bind fun a4=>
   ((gM N) (aP.mk r0.clock (bM r0.up 0 5)) (-1,0,0)).bind fun a5=>
   ((gN N) (aP.mk r0.clock (bM r0.up 0 5)) (-1)).bind fun a6=>
   ((eT N) (aP.mk r0.clock (bM r0.up 0 5)) (-1,0,0)).bind fun a7=>
   ((cL N) (aP.mk r0.clock (bM r0.up 0 5))).bind fun n8=>
   bif n8 !=8 then
    some (.done false)
   else
    bif a2.2 !=8 then
     some (.done false)
    else
     bif a3.2 !=8 then
      some (.done false)
     else
      bif a4.2.2 !=8 then
       some (.done false)
      else
       bif a5.2 !=8 then
        some (.done false)
       else
        bif a6.2 !=8 then
         some (.done false)
        else
         bif a7.2 !=8 then
          some (.done false)
         else
          some (.next (aA .i64 (s.1+1),s.2))
  else
   bif s.1==1 then
    (fO r0.up 0 2).bind fun _=>
    ((gT N) (aP.mk r0.clock (r0.up.take 2))).bind fun a10=>
    ((dW N) (aP.mk r0.clock (r0.up.take 2))).bind fun a11=>
    ((cJ N) (aP.mk r0.clock (r0.up.take 2)) (0,0)).bind fun a12=>
    ((gM N) (aP.mk r0.clock (r0.up.take 2)) (-1,0,0)).bind fun a13=>
    ((gN N) (aP.mk r0.clock (r0.up.take 2)) (-1)).bind fun a14=>
    ((eT N) (aP.mk r0.clock (r0.up.take 2)) (-1,0,0)).bind fun a15=>
    ((cL N) (aP.mk r0.clock (r0.up.take 2))).bind fun n16=>
    bif n16 !=8 then
     some (.done false)
    else
     bif a10.2 !=8 then
      some (.done false)
     else
      bif a11.2 !=8 then
       some (.done false)
      else
       bif a12.2.2 !=8 then
        some (.done false)
       else
        bif a13.2 !=8 then
         some (.done false)
        else
         bif a14.2 !=8 then
          some (.done false)
         else
          bif a15.2 !=8 then
           some (.done false)
          else
           some (.next (aA .i64 (s.1+1),s.2))
   else
    bif s.1==2 then
     ((uY N) r0.clock 0).bind fun r17=>
     ((gT N) (aP.mk r17 r0.up)).bind fun a18=>
     ((dW N) (aP.mk r17 r0.up)).bind fun a19=>
     ((cJ N) (aP.mk r17 r0.up) (0,0)).bind fun a20=>
     ((gM N) (aP.mk r17 r0.up) (-1,0,0)).bind fun a21=>
     ((gN N) (aP.mk r17 r0.up) (-1)).bind fun a22=>
     ((eT N) (aP.mk r17 r0.up) (-1,0,0)).bind fun a23=>
     ((cL N) (aP.mk r17 r0.up)).bind fun n24=>
     bif n24 !=8 then
      some (.done false)
     else
      bif a18.2 !=8 then
       some (.done false)
      else
       bif a19.2 !=8 then
        some (.done false)
       else
        bif a20.2.2 !=8 then
         some (.done false)
        else
         bif a21.2 !=8 then
          some (.done false)
         else
          bif a22.2 !=8 then
           some (.done false)
          else
           bif a23.2 !=8 then
            some (.done false)
           else
            some (.next (aA .i64 (s.1+1),s.2))
    else
     bif s.1==3 then
      ((gT N) (aP.mk (aI.mk (r0.clock.now.1,0) r0.clock.field r0.clock.certs r0.clock.agenda r0.clock.due) r0.up)).bind fun a25=>
      ((dW N) (aP.mk (aI.mk (r0.clock.now.1,0) r0.clock.field r0.clock.certs r0.clock.agenda r0.clock.due) r0.up)).bind fun a26=>
      ((cJ N) (aP.mk (aI.mk (r0.clock.now.1,0) r0.clock.field r0.clock.certs r0.clock.agenda r0.clock.due) r0.up) (0,0)).bind fun a27=>
      ((gM N) (aP.mk (aI.mk (r0.clock.now.1,0) r0.clock.field r0.clock.certs r0.clock.agenda r0.clock.due) r0.up) (-1,0,0)).bind fun a28=>
      ((gN N) (aP.mk (aI.mk (r0.clock.now.1,0) r0.clock.field r0.clock.certs r0.clock.agenda r0.clock.due) r0.up) (-1)).bind fun a29=>
      ((eT N) (aP.mk (aI.mk (r0.clock.now.1,0) r0.clock.field r0.clock.certs r0.clock.agenda r0.clock.due) r0.up) (-1,0,0)).bind fun a30=>
      ((cL N) (aP.mk (aI.mk (r0.clock.now.1,0) r0.clock.field r0.clock.certs r0.clock.agenda r0.clock.due) r0.up)).bind fun n31=>
      bif n31 !=8 then
       some (.done false)
      else
       bif a25.2 !=8 then
        some (.done false)
       else
        bif a26.2 !=8 then
         some (.done false)
        else
         bif a27.2.2 !=8 then
          some (.done false)
         else
          bif a28.2 !=8 then
           some (.done false)
          else
           bif a29.2 !=8 then
            some (.done false)
           else
            bif a30.2 !=8 then
             some (.done false)
            else
             some (.next (aA .i64 (s.1+1),s.2))
     else
      ((gT N) r0).bind fun a32=>
      ((dW N) r0).bind fun a33=>
      ((cJ N) r0 (0,0)).bind fun a34=>
      ((gM N) r0 (-1,0,0)).bind fun a35=>
      ((gN N) r0 (-1)).bind fun a36=>
      ((eT N) r0 (-1,0,0)).bind fun a37=>
      ((cL N) r0).bind fun n38=>
      bif n38 !=8 then
       some (.done false)
      else
       bif a32.2 !=8 then
        some (.done false)
       else
        bif a33.2 !=8 then
         some (.done false)
        else
         bif a34.2.2 !=8 then
          some (.done false)
         else
          bif a35.2 !=8 then
           some (.done false)
          else
           bif a36.2 !=8 then
            some (.done false)
           else
            bif a37.2 !=8 then
             some (.done false)
            else
             some (.next (aA .i64 (s.1+1),s.2))
 else
  (qR 65 ((0,0,0):(Int×Int×Int))).bind fun l39=>
  ((hO N) 0).bind fun a40=>
  ((gU N) (Field.mk l39) a40).bind fun a41=>
  (kI N).bind fun r42=>
  ((gU N) r42 (1,0)).bind fun a43=>
  ((hO N) 0).bind fun a44=>
  ((gU N) (Field.mk []) a44).bind fun a45=>
  ((dW N) a45.1).bind fun a46=>
  ((hO N) (-1)).bind fun a47=>
  ((cJ N) (aP.mk (aI.mk (s.2.1,s.2.2.1) (Field.mk s.2.2.2.1) (aO.mk s.2.2.2.2.1 s.2.2.2.2.2.1) (aF.mk (aL.mk s.2.2.2.2.2.2.1 s.2.2.2.2.2.2.2.1 s.2.2.2.2.2.2.2.2.1) s.2.2.2.2.2.2.2.2.2.1 s.2.2.2.2.2.2.2.2.2.2.1) s.2.2.2.2.2.2.2.2.2.2.2.1) s.2.2.2.2.2.2.2.2.2.2.2.2) a47).bind fun a48=>
  ((cJ N) (aP.mk (aI.mk (s.2.1,s.2.2.1) (Field.mk s.2.2.2.1) (aO.mk s.2.2.2.2.1 s.2.2.2.2.2.1) (aF.mk (aL.mk s.2.2.2.2.2.2.1 s.2.2.2.2.2.2.2.1 s.2.2.2.2.2.2.2.2.1) s.2.2.2.2.2.2.2.2.2.1 s.2.2.2.2.2.2.2.2.2.2.1) s.2.2.2.2.2.2.2.2.2.2.2.1) s.2.2.2.2.2.2.2.2.2.2.2.2) (4,2)).bind fun a49=>
  ((gM N) (aP.mk (aI.mk (s.2.1,s.2.2.1) (Field.mk s.2.2.2.1) (aO.mk s.2.2.2.2.1 s.2.2.2.2.2.1) (aF.mk (aL.mk s.2.2.2.2.2.2.1 s.2.2.2.2.2.2.2.1 s.2.2.2.2.2.2.2.2.1) s.2.2.2.2.2.2.2.2.2.1 s.2.2.2.2.2.2.2.2.2.2.1) s.2.2.2.2.2.2.2.2.2.2.2.1) s.2.2.2.2.2.2.2.2.2.2.2.2) (5,0,0)).bind fun a50=>
  ((gN N) (aP.mk (aI.mk (s.2.1,s.2.2.1) (Field.mk s.2.2.2.1) (aO.mk s.2.2.2.2.1 s.2.2.2.2.2.1) (aF.mk (aL.mk s.2.2.2.2.2.2.1 s.2.2.2.2.2.2.2.1 s.2.2.2.2.2.2.2.2.1) s.2.2.2.2.2.2.2.2.2.1 s.2.2.2.2.2.2.2.2.2.2.1) s.2.2.2.2.2.2.2.2.2.2.2.1) s.2.2.2.2.2.2.2.2.2.2.2.2) 7).bind fun a51=>
  ((eT N) (aP.mk (aI.mk (s.2.1,s.2.2.1) (Field.mk s.2.2.2.1) (aO.mk s.2.2.2.2.1 s.2.2.2.2.2.1) (aF.mk (aL.mk s.2.2.2.2.2.2.1 s.2.2.2.2.2.2.2.1 s.2.2.2.2.2.2.2.2.1) s.2.2.2.2.2.2.2.2.2.1 s.2.2.2.2.2.2.2.2.2.2.1) s.2.2.2.2.2.2.2.2.2.2.2.1) s.2.2.2.2.2.2.2.2.2.2.2.2) (7,0,0)).bind fun a52=>
  ((oZ N) (aP.mk (aI.mk (s.2.1,s.2.2.1) (Field.mk s.2.2.2.1) (aO.mk s.2.2.2.2.1 s.2.2.2.2.2.1) (aF.mk (aL.mk s.2.2.2.2.2.2.1 s.2.2.2.2.2.2.2.1 s.2.2.2.2.2.2.2.2.1) s.2.2.2.2.2.2.2.2.2.1 s.2.2.2.2.2.2.2.2.2.2.1) s.2.2.2.2.2.2.2.2.2.2.2.1) s.2.2.2.2.2.2.2.2.2.2.2.2)).bind fun r53=>
  ((hO N) 2).bind fun a54=>
  ((cJ N) (aP.mk (aI.mk r53.clock.now r53.clock.field (aO.mk 1000000 r53.clock.certs.list) r53.clock.agenda r53.clock.due) r53.up) a54).bind fun a55=>
  ((gM N) (aP.mk (aI.mk r53.clock.now r53.clock.field (aO.mk 1000000 r53.clock.certs.list) r53.clock.agenda r53.clock.due) r53.up) (4,0,0)).bind fun a56=>
  ((hO N) 0).bind fun a57=>
  ((gU N) (Field.mk [(0,1,0),(32768,2,0),(65535,3,0)]) a57).bind fun a58=>
  (zV N).bind fun b59=>
  bif b59 then
   bif a41.2==4 then
    bif a43.2==8 then
     bif a45.2==0 then
      bif (aa a45.1.up.length)==0 then
       bif a46.2==42 then
        bif a48.2.2==44 then
         bif a49.2.2==8 then
          bif a50.2==14 then
           bif a51.2==6 then
            bif a52.2==6 then
             bif a55.2.2==18 then
              bif a56.2==18 then
               bif a58.2==0 then
                ((jY N) a58.1.up [32768,65535,-1]).bind fun b60=>
                some (.done b60)
               else
                some (.done false)
              else
               some (.done false)
             else
              some (.done false)
            else
             some (.done false)
           else
            some (.done false)
          else
           some (.done false)
         else
          some (.done false)
        else
         some (.done false)
       else
        some (.done false)
      else
       some (.done false)
     else
      some (.done false)
    else
     some (.done false)
   else
    some (.done false)
  else
   some (.done false)
def gB (N:Nat):Option Bool:=
 (kI N).bind fun r0=>
 ((hO N) 0).bind fun a1=>
 ((rM N) r0 a1).bind fun a2=>
 bif a2.2 !=0 then
  some false
 else
  bif (aa a2.1.up.length) !=3 then
   some false
  else
   (aT N) (gO N) (0,a2.1.clock.now.1,a2.1.clock.now.2,a2.1.clock.field.points,a2.1.clock.certs.next_,a2.1.clock.certs.list,a2.1.clock.agenda.slots.uses,a2.1.clock.agenda.slots.used,a2.1.clock.agenda.slots.free,a2.1.clock.agenda.heap,a2.1.clock.agenda.where_,a2.1.clock.due,a2.1.up)
def c3 (N:Nat):aU:=⟨aC.nil,aE.bool,fun _=>(gB N),.pure,false⟩
theorem aIk (N:Nat):aB tab 3 (c3 N):=aB.of aB1 (cx:=(aN (aH N) [(8,(c8 N)),(9,(c9 N)),(7,(c7 N)),(10,(c10 N)),(10,(aHy N)),(11,(c11 N)),(12,(c12 N)),(13,(c13 N)),(14,(c14 N)),(15,(c15 N)),(16,(c16 N)),(17,(c17 N)),(18,(c18 N)),(19,(c19 N)),(20,(c20 N)),(21,(c21 N))] [] [] [])) rfl (aM.make ⟨(aB2 N),(aB3 N),(aHx N),(aGa N),(aAI N),(Q2 N),(aGj N),(Q9 N),(RG N),(aGw N),(aGy N),(aGA N),(vE N),(RQ N),(aGE N),(RR N),trivial⟩ trivial trivial) (fun a=>by kernel_rfl)
end
end Go.Proofs.YtcljjehjppgijaaGreat
