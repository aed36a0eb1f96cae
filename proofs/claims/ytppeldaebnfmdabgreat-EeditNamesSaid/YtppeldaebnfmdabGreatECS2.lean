/- Plain functions for what the functions of the seat compute. Printed by a program. -/
import Derived.Test.YtppeldaebnfmdabGreatEVm4
import Derived.Test.YtppeldaebnfmdabGreatECXT
import Derived.Test.YtppeldaebnfmdabGreatECS1
set_option maxRecDepth 100000
namespace Go.Proofs.YtppeldaebnfmdabGreat
open Go.Vm
noncomputable def clock_Alter_l1 (N : Nat) (s : ((List (Int × Int × Int)) × Int × Int × Int × Int × (List (Int × Int × Int)) × Int × (List (Int × Int × Int)) × (List Int) × (List Bool) × (List Int) × (List (Int × Int × Int × Int × Int)) × (List Int) × (List (Int × Int × Int)) × (List (Int × Int × Int)) × Int × Int × Int × Int × Int × Int × (List (Int × Int × Int)) × (List Int) × (List Bool) × (List Int) × (List (Int × Int × Int × Int × Int)) × (List Int) × (List (Int × Int × Int)) × (List (Int × Int × Int)))) : Option (Step ((List (Int × Int × Int)) × Int × Int × Int × Int × (List (Int × Int × Int)) × Int × (List (Int × Int × Int)) × (List Int) × (List Bool) × (List Int) × (List (Int × Int × Int × Int × Int)) × (List Int) × (List (Int × Int × Int)) × (List (Int × Int × Int)) × Int × Int × Int × Int × Int × Int × (List (Int × Int × Int)) × (List Int) × (List Bool) × (List Int) × (List (Int × Int × Int × Int × Int)) × (List Int) × (List (Int × Int × Int)) × (List (Int × Int × Int))) (Step ((List (Int × Int × Int)) × Int × Int × Int × Int × (List (Int × Int × Int)) × Int × (List (Int × Int × Int)) × (List Int) × (List Bool) × (List Int) × (List (Int × Int × Int × Int × Int)) × (List Int) × (List (Int × Int × Int)) × (List (Int × Int × Int)) × Int × Int × Int) (Clock × Int))) :=
 bif decide (s.2.2.1 < s.2.1) then
  (geti s.1 s.2.2.1).bind fun a0 =>
  ((clock_when N) (Field.mk s.2.2.2.2.2.2.2.2.2.2.2.2.2.2.1) a0.2 (s.2.2.2.1, s.2.2.2.2.1)).bind fun a1 =>
  ((clock_place N) s.2.2.2.2.2.2.2.2.2.2.2.2.2.1 a0.1).bind fun a2 =>
  bif a1.2.1 then
   bif a2.2 then
    (geti s.2.2.2.2.2.2.2.2.2.2.2.2.2.1 a2.1).bind fun a3 =>
    ((agenda_Rekey N) (Agenda.mk (Slots.mk s.2.2.2.2.2.2.2.2.2.2.2.2.2.2.2.2.2.2.2.2.2.2.1 s.2.2.2.2.2.2.2.2.2.2.2.2.2.2.2.2.2.2.2.2.2.2.2.1 s.2.2.2.2.2.2.2.2.2.2.2.2.2.2.2.2.2.2.2.2.2.2.2.2.1) s.2.2.2.2.2.2.2.2.2.2.2.2.2.2.2.2.2.2.2.2.2.2.2.2.2.1 s.2.2.2.2.2.2.2.2.2.2.2.2.2.2.2.2.2.2.2.2.2.2.2.2.2.2.1) a3.2 a1.1).bind fun a4 =>
    (geti s.2.2.2.2.2.2.2.2.2.2.2.2.2.1 a2.1).bind fun a5 =>
    (appendO s.2.2.2.2.2.2.2.2.2.2.2.2.2.2.2.2.2.2.2.2.2.2.2.2.2.2.2.2 [a5]).bind fun l6 =>
    bif a4.2 != 0 then
     some (.done (.done (Clock.mk (0, 0) (Field.mk []) (Certs.mk 0 []) (Agenda.mk (Slots.mk [] [] []) [] []) [], a4.2)))
    else
     some (.next (s.1, s.2.1, wrapF .i64 (s.2.2.1 + 1), s.2.2.2.1, s.2.2.2.2.1, s.2.2.2.2.2.1, s.2.2.2.2.2.2.1, s.2.2.2.2.2.2.2.1, s.2.2.2.2.2.2.2.2.1, s.2.2.2.2.2.2.2.2.2.1, s.2.2.2.2.2.2.2.2.2.2.1, s.2.2.2.2.2.2.2.2.2.2.2.1, s.2.2.2.2.2.2.2.2.2.2.2.2.1, s.2.2.2.2.2.2.2.2.2.2.2.2.2.1, s.2.2.2.2.2.2.2.2.2.2.2.2.2.2.1, s.2.2.2.2.2.2.2.2.2.2.2.2.2.2.2.1, s.2.2.2.2.2.2.2.2.2.2.2.2.2.2.2.2.1, s.2.2.2.2.2.2.2.2.2.2.2.2.2.2.2.2.2.1, s.2.2.2.2.2.2.2.2.2.2.2.2.2.2.2.2.2.2.1, s.2.2.2.2.2.2.2.2.2.2.2.2.2.2.2.2.2.2.2.1, s.2.2.2.2.2.2.2.2.2.2.2.2.2.2.2.2.2.2.2.2.1, s.2.2.2.2.2.2.2.2.2.2.2.2.2.2.2.2.2.2.2.2.2.1, a4.1.slots.uses, a4.1.slots.used, a4.1.slots.free, a4.1.heap, a4.1.where_, s.2.2.2.2.2.2.2.2.2.2.2.2.2.2.2.2.2.2.2.2.2.2.2.2.2.2.2.1, l6))
   else
    bif a1.2.1 then
     ((agenda_Push N) (Agenda.mk (Slots.mk s.2.2.2.2.2.2.2.2.2.2.2.2.2.2.2.2.2.2.2.2.2.2.1 s.2.2.2.2.2.2.2.2.2.2.2.2.2.2.2.2.2.2.2.2.2.2.2.1 s.2.2.2.2.2.2.2.2.2.2.2.2.2.2.2.2.2.2.2.2.2.2.2.2.1) s.2.2.2.2.2.2.2.2.2.2.2.2.2.2.2.2.2.2.2.2.2.2.2.2.2.1 s.2.2.2.2.2.2.2.2.2.2.2.2.2.2.2.2.2.2.2.2.2.2.2.2.2.2.1) a1.1 a0.1).bind fun a7 =>
     (appendO s.2.2.2.2.2.2.2.2.2.2.2.2.2.2.2.2.2.2.2.2.2.2.2.2.2.2.2.2 [(a0.1, a7.2.1)]).bind fun l8 =>
     bif a7.2.2 != 0 then
      some (.done (.done (Clock.mk (0, 0) (Field.mk []) (Certs.mk 0 []) (Agenda.mk (Slots.mk [] [] []) [] []) [], a7.2.2)))
     else
      some (.next (s.1, s.2.1, wrapF .i64 (s.2.2.1 + 1), s.2.2.2.1, s.2.2.2.2.1, s.2.2.2.2.2.1, s.2.2.2.2.2.2.1, s.2.2.2.2.2.2.2.1, s.2.2.2.2.2.2.2.2.1, s.2.2.2.2.2.2.2.2.2.1, s.2.2.2.2.2.2.2.2.2.2.1, s.2.2.2.2.2.2.2.2.2.2.2.1, s.2.2.2.2.2.2.2.2.2.2.2.2.1, s.2.2.2.2.2.2.2.2.2.2.2.2.2.1, s.2.2.2.2.2.2.2.2.2.2.2.2.2.2.1, s.2.2.2.2.2.2.2.2.2.2.2.2.2.2.2.1, s.2.2.2.2.2.2.2.2.2.2.2.2.2.2.2.2.1, s.2.2.2.2.2.2.2.2.2.2.2.2.2.2.2.2.2.1, s.2.2.2.2.2.2.2.2.2.2.2.2.2.2.2.2.2.2.1, s.2.2.2.2.2.2.2.2.2.2.2.2.2.2.2.2.2.2.2.1, s.2.2.2.2.2.2.2.2.2.2.2.2.2.2.2.2.2.2.2.2.1, s.2.2.2.2.2.2.2.2.2.2.2.2.2.2.2.2.2.2.2.2.2.1, a7.1.slots.uses, a7.1.slots.used, a7.1.slots.free, a7.1.heap, a7.1.where_, s.2.2.2.2.2.2.2.2.2.2.2.2.2.2.2.2.2.2.2.2.2.2.2.2.2.2.2.1, l8))
    else
     bif a2.2 then
      (geti s.2.2.2.2.2.2.2.2.2.2.2.2.2.1 a2.1).bind fun a9 =>
      ((agenda_Remove N) (Agenda.mk (Slots.mk s.2.2.2.2.2.2.2.2.2.2.2.2.2.2.2.2.2.2.2.2.2.2.1 s.2.2.2.2.2.2.2.2.2.2.2.2.2.2.2.2.2.2.2.2.2.2.2.1 s.2.2.2.2.2.2.2.2.2.2.2.2.2.2.2.2.2.2.2.2.2.2.2.2.1) s.2.2.2.2.2.2.2.2.2.2.2.2.2.2.2.2.2.2.2.2.2.2.2.2.2.1 s.2.2.2.2.2.2.2.2.2.2.2.2.2.2.2.2.2.2.2.2.2.2.2.2.2.2.1) a9.2).bind fun a10 =>
      bif a10.2.2 != 0 then
       some (.done (.done (Clock.mk (0, 0) (Field.mk []) (Certs.mk 0 []) (Agenda.mk (Slots.mk [] [] []) [] []) [], a10.2.2)))
      else
       some (.next (s.1, s.2.1, wrapF .i64 (s.2.2.1 + 1), s.2.2.2.1, s.2.2.2.2.1, s.2.2.2.2.2.1, s.2.2.2.2.2.2.1, s.2.2.2.2.2.2.2.1, s.2.2.2.2.2.2.2.2.1, s.2.2.2.2.2.2.2.2.2.1, s.2.2.2.2.2.2.2.2.2.2.1, s.2.2.2.2.2.2.2.2.2.2.2.1, s.2.2.2.2.2.2.2.2.2.2.2.2.1, s.2.2.2.2.2.2.2.2.2.2.2.2.2.1, s.2.2.2.2.2.2.2.2.2.2.2.2.2.2.1, s.2.2.2.2.2.2.2.2.2.2.2.2.2.2.2.1, s.2.2.2.2.2.2.2.2.2.2.2.2.2.2.2.2.1, s.2.2.2.2.2.2.2.2.2.2.2.2.2.2.2.2.2.1, s.2.2.2.2.2.2.2.2.2.2.2.2.2.2.2.2.2.2.1, s.2.2.2.2.2.2.2.2.2.2.2.2.2.2.2.2.2.2.2.1, s.2.2.2.2.2.2.2.2.2.2.2.2.2.2.2.2.2.2.2.2.1, s.2.2.2.2.2.2.2.2.2.2.2.2.2.2.2.2.2.2.2.2.2.1, a10.1.slots.uses, a10.1.slots.used, a10.1.slots.free, a10.1.heap, a10.1.where_, s.2.2.2.2.2.2.2.2.2.2.2.2.2.2.2.2.2.2.2.2.2.2.2.2.2.2.2))
     else
      bif a1.2.2 != 0 then
       some (.done (.done (Clock.mk (0, 0) (Field.mk []) (Certs.mk 0 []) (Agenda.mk (Slots.mk [] [] []) [] []) [], a1.2.2)))
      else
       some (.next (s.1, s.2.1, wrapF .i64 (s.2.2.1 + 1), s.2.2.2))
  else
   bif a1.2.1 then
    ((agenda_Push N) (Agenda.mk (Slots.mk s.2.2.2.2.2.2.2.2.2.2.2.2.2.2.2.2.2.2.2.2.2.2.1 s.2.2.2.2.2.2.2.2.2.2.2.2.2.2.2.2.2.2.2.2.2.2.2.1 s.2.2.2.2.2.2.2.2.2.2.2.2.2.2.2.2.2.2.2.2.2.2.2.2.1) s.2.2.2.2.2.2.2.2.2.2.2.2.2.2.2.2.2.2.2.2.2.2.2.2.2.1 s.2.2.2.2.2.2.2.2.2.2.2.2.2.2.2.2.2.2.2.2.2.2.2.2.2.2.1) a1.1 a0.1).bind fun a11 =>
    (appendO s.2.2.2.2.2.2.2.2.2.2.2.2.2.2.2.2.2.2.2.2.2.2.2.2.2.2.2.2 [(a0.1, a11.2.1)]).bind fun l12 =>
    bif a11.2.2 != 0 then
     some (.done (.done (Clock.mk (0, 0) (Field.mk []) (Certs.mk 0 []) (Agenda.mk (Slots.mk [] [] []) [] []) [], a11.2.2)))
    else
     some (.next (s.1, s.2.1, wrapF .i64 (s.2.2.1 + 1), s.2.2.2.1, s.2.2.2.2.1, s.2.2.2.2.2.1, s.2.2.2.2.2.2.1, s.2.2.2.2.2.2.2.1, s.2.2.2.2.2.2.2.2.1, s.2.2.2.2.2.2.2.2.2.1, s.2.2.2.2.2.2.2.2.2.2.1, s.2.2.2.2.2.2.2.2.2.2.2.1, s.2.2.2.2.2.2.2.2.2.2.2.2.1, s.2.2.2.2.2.2.2.2.2.2.2.2.2.1, s.2.2.2.2.2.2.2.2.2.2.2.2.2.2.1, s.2.2.2.2.2.2.2.2.2.2.2.2.2.2.2.1, s.2.2.2.2.2.2.2.2.2.2.2.2.2.2.2.2.1, s.2.2.2.2.2.2.2.2.2.2.2.2.2.2.2.2.2.1, s.2.2.2.2.2.2.2.2.2.2.2.2.2.2.2.2.2.2.1, s.2.2.2.2.2.2.2.2.2.2.2.2.2.2.2.2.2.2.2.1, s.2.2.2.2.2.2.2.2.2.2.2.2.2.2.2.2.2.2.2.2.1, s.2.2.2.2.2.2.2.2.2.2.2.2.2.2.2.2.2.2.2.2.2.1, a11.1.slots.uses, a11.1.slots.used, a11.1.slots.free, a11.1.heap, a11.1.where_, s.2.2.2.2.2.2.2.2.2.2.2.2.2.2.2.2.2.2.2.2.2.2.2.2.2.2.2.1, l12))
   else
    bif a2.2 then
     (geti s.2.2.2.2.2.2.2.2.2.2.2.2.2.1 a2.1).bind fun a13 =>
     ((agenda_Remove N) (Agenda.mk (Slots.mk s.2.2.2.2.2.2.2.2.2.2.2.2.2.2.2.2.2.2.2.2.2.2.1 s.2.2.2.2.2.2.2.2.2.2.2.2.2.2.2.2.2.2.2.2.2.2.2.1 s.2.2.2.2.2.2.2.2.2.2.2.2.2.2.2.2.2.2.2.2.2.2.2.2.1) s.2.2.2.2.2.2.2.2.2.2.2.2.2.2.2.2.2.2.2.2.2.2.2.2.2.1 s.2.2.2.2.2.2.2.2.2.2.2.2.2.2.2.2.2.2.2.2.2.2.2.2.2.2.1) a13.2).bind fun a14 =>
     bif a14.2.2 != 0 then
      some (.done (.done (Clock.mk (0, 0) (Field.mk []) (Certs.mk 0 []) (Agenda.mk (Slots.mk [] [] []) [] []) [], a14.2.2)))
     else
      some (.next (s.1, s.2.1, wrapF .i64 (s.2.2.1 + 1), s.2.2.2.1, s.2.2.2.2.1, s.2.2.2.2.2.1, s.2.2.2.2.2.2.1, s.2.2.2.2.2.2.2.1, s.2.2.2.2.2.2.2.2.1, s.2.2.2.2.2.2.2.2.2.1, s.2.2.2.2.2.2.2.2.2.2.1, s.2.2.2.2.2.2.2.2.2.2.2.1, s.2.2.2.2.2.2.2.2.2.2.2.2.1, s.2.2.2.2.2.2.2.2.2.2.2.2.2.1, s.2.2.2.2.2.2.2.2.2.2.2.2.2.2.1, s.2.2.2.2.2.2.2.2.2.2.2.2.2.2.2.1, s.2.2.2.2.2.2.2.2.2.2.2.2.2.2.2.2.1, s.2.2.2.2.2.2.2.2.2.2.2.2.2.2.2.2.2.1, s.2.2.2.2.2.2.2.2.2.2.2.2.2.2.2.2.2.2.1, s.2.2.2.2.2.2.2.2.2.2.2.2.2.2.2.2.2.2.2.1, s.2.2.2.2.2.2.2.2.2.2.2.2.2.2.2.2.2.2.2.2.1, s.2.2.2.2.2.2.2.2.2.2.2.2.2.2.2.2.2.2.2.2.2.1, a14.1.slots.uses, a14.1.slots.used, a14.1.slots.free, a14.1.heap, a14.1.where_, s.2.2.2.2.2.2.2.2.2.2.2.2.2.2.2.2.2.2.2.2.2.2.2.2.2.2.2))
    else
     bif a1.2.2 != 0 then
      some (.done (.done (Clock.mk (0, 0) (Field.mk []) (Certs.mk 0 []) (Agenda.mk (Slots.mk [] [] []) [] []) [], a1.2.2)))
     else
      some (.next (s.1, s.2.1, wrapF .i64 (s.2.2.1 + 1), s.2.2.2))
 else
  some (.done (.done (Clock.mk (s.2.2.2.2.2.2.2.2.2.2.2.2.2.2.2.2.2.2.1, s.2.2.2.2.2.2.2.2.2.2.2.2.2.2.2.2.2.2.2.1) (Field.mk s.2.2.2.2.2.2.2.2.2.2.2.2.2.2.2.2.2.2.2.2.2.2.2.2.2.2.2.1) (Certs.mk s.2.2.2.2.2.2.2.2.2.2.2.2.2.2.2.2.2.2.2.2.1 s.2.2.2.2.2.2.2.2.2.2.2.2.2.2.2.2.2.2.2.2.2.1) (Agenda.mk (Slots.mk s.2.2.2.2.2.2.2.2.2.2.2.2.2.2.2.2.2.2.2.2.2.2.1 s.2.2.2.2.2.2.2.2.2.2.2.2.2.2.2.2.2.2.2.2.2.2.2.1 s.2.2.2.2.2.2.2.2.2.2.2.2.2.2.2.2.2.2.2.2.2.2.2.2.1) s.2.2.2.2.2.2.2.2.2.2.2.2.2.2.2.2.2.2.2.2.2.2.2.2.2.1 s.2.2.2.2.2.2.2.2.2.2.2.2.2.2.2.2.2.2.2.2.2.2.2.2.2.2.1) s.2.2.2.2.2.2.2.2.2.2.2.2.2.2.2.2.2.2.2.2.2.2.2.2.2.2.2.2, 0)))
noncomputable def clock_Alter_l2 (N : Nat) (s : ((List (Int × Int × Int)) × Int × Int × Int × Int × (List (Int × Int × Int)) × Int × (List (Int × Int × Int)) × (List Int) × (List Bool) × (List Int) × (List (Int × Int × Int × Int × Int)) × (List Int) × (List (Int × Int × Int)) × (List (Int × Int × Int)) × Int × Int × Int)) : Option (Step ((List (Int × Int × Int)) × Int × Int × Int × Int × (List (Int × Int × Int)) × Int × (List (Int × Int × Int)) × (List Int) × (List Bool) × (List Int) × (List (Int × Int × Int × Int × Int)) × (List Int) × (List (Int × Int × Int)) × (List (Int × Int × Int)) × Int × Int × Int) (Clock × Int)) :=
 bif decide (s.2.2.1 < s.2.1) then
  (geti s.1 s.2.2.1).bind fun a0 =>
  ((clock_point N) (Field.mk s.2.2.2.2.2.2.2.2.2.2.2.2.2.2.1) a0.2.1).bind fun a1 =>
  bif decide (a1.1 < 0) then
   some (.done (Clock.mk (0, 0) (Field.mk []) (Certs.mk 0 []) (Agenda.mk (Slots.mk [] [] []) [] []) [], 6))
  else
   ((clock_point N) (Field.mk s.2.2.2.2.2.2.2.2.2.2.2.2.2.2.1) a0.2.2).bind fun a2 =>
   bif decide (a2.1 < 0) then
    some (.done (Clock.mk (0, 0) (Field.mk []) (Certs.mk 0 []) (Agenda.mk (Slots.mk [] [] []) [] []) [], 6))
   else
    some (.next (s.1, s.2.1, wrapF .i64 (s.2.2.1 + 1), s.2.2.2))
 else
  ((clock_twin N) (Clock.mk (s.2.2.2.1, s.2.2.2.2.1) (Field.mk s.2.2.2.2.2.1) (Certs.mk s.2.2.2.2.2.2.1 s.2.2.2.2.2.2.2.1) (Agenda.mk (Slots.mk s.2.2.2.2.2.2.2.2.1 s.2.2.2.2.2.2.2.2.2.1 s.2.2.2.2.2.2.2.2.2.2.1) s.2.2.2.2.2.2.2.2.2.2.2.1 s.2.2.2.2.2.2.2.2.2.2.2.2.1) s.2.2.2.2.2.2.2.2.2.2.2.2.2.1)).bind fun r3 =>
  (cloneO s.2.2.2.2.2.2.2.2.2.2.2.2.2.2.1).bind fun l4 =>
  (loopN N) (clock_Alter_l1 N) (s.2.2.2.2.2.2.2.1, Int.ofNat s.2.2.2.2.2.2.2.1.length, 0, s.2.2.2.1, s.2.2.2.2.1, s.2.2.2.2.2.1, s.2.2.2.2.2.2.1, s.2.2.2.2.2.2.2.1, s.2.2.2.2.2.2.2.2.1, s.2.2.2.2.2.2.2.2.2.1, s.2.2.2.2.2.2.2.2.2.2.1, s.2.2.2.2.2.2.2.2.2.2.2.1, s.2.2.2.2.2.2.2.2.2.2.2.2.1, s.2.2.2.2.2.2.2.2.2.2.2.2.2.1, s.2.2.2.2.2.2.2.2.2.2.2.2.2.2.1, s.2.2.2.2.2.2.2.2.2.2.2.2.2.2.2.1, s.2.2.2.2.2.2.2.2.2.2.2.2.2.2.2.2.1, s.2.2.2.2.2.2.2.2.2.2.2.2.2.2.2.2.2, r3.now.1, r3.now.2, r3.certs.next_, r3.certs.list, r3.agenda.slots.uses, r3.agenda.slots.used, r3.agenda.slots.free, r3.agenda.heap, r3.agenda.where_, l4, [])
noncomputable def clock_Alter (N : Nat) (p0 : Clock) (p1 : Field) : Option (Clock × Int) :=
 ((clock_Check N) p0).bind fun n0 =>
 bif n0 != 0 then
  some (Clock.mk (0, 0) (Field.mk []) (Certs.mk 0 []) (Agenda.mk (Slots.mk [] [] []) [] []) [], n0)
 else
  ((field_Check N) p1).bind fun n1 =>
  bif n1 != 0 then
   some (Clock.mk (0, 0) (Field.mk []) (Certs.mk 0 []) (Agenda.mk (Slots.mk [] [] []) [] []) [], n1)
  else
   (loopN N) (clock_Alter_l2 N) (p0.certs.list, Int.ofNat p0.certs.list.length, 0, p0.now.1, p0.now.2, p0.field.points, p0.certs.next_, p0.certs.list, p0.agenda.slots.uses, p0.agenda.slots.used, p0.agenda.slots.free, p0.agenda.heap, p0.agenda.where_, p0.due, p1.points, 0, 0, 0)
noncomputable def c90 (N : Nat) : Con := ⟨Args.cons (Arg.agg Clock_c) (Args.one (Arg.agg Field_c)), Arg.tup (Args.cons (Arg.agg Clock_c) (Args.one (Arg.int .i64))), fun a => (clock_Alter N) a.1 a.2, .frz, false⟩
theorem c90_ok (N : Nat) : ConOK tab 90 (c90 N) := ConOK.of tab_90 (cx := (mkCx (loopL N) [(50, (c50 N)), (33, (c33 N)), (115, (c115 N)), (122, (c122 N)), (122, (c122p N)), (37, Con.clone kiii), (80, (c80 N)), (123, (c123 N)), (124, (c124 N)), (125, (c125 N)), (126, (c126 N))] [] [] [])) rfl (CxOK.make ⟨(c50_ok N), (c33_ok N), (c115_ok N), (c122_ok N), (c122p_ok N), prim_37, (c80_ok N), (c123_ok N), (c124_ok N), (c125_ok N), (c126_ok N), trivial⟩ trivial trivial) (fun a => by kernel_rfl)
noncomputable def kheap_renew_1 (_ : Nat) (p0 : Int × Int × Int) (p1 : Int × Int) : Option Bool :=
 some ((p0.2.1 == p1.1) && (p0.2.2 == p1.2))
noncomputable def c91 (N : Nat) : Con := ⟨Args.cons (Arg.agg (Cod.row kiii)) (Args.one (Arg.ref (Cod.row kii))), Arg.bool, fun a => (kheap_renew_1 N) a.1 a.2, .pure, false⟩
theorem c91_ok (N : Nat) : ConOK tab 91 (c91 N) := ConOK.of tab_91 (cx := (mkCx (loopL N) [] [] [] [])) rfl (CxOK.make trivial trivial trivial) (fun a => by kernel_rfl)
noncomputable def slices_IndexFunc_116__kheap_renew_1_l1 (N : Nat) (s : ((List (Int × Int × Int)) × Int × Int × Int × Int)) : Option (Step ((List (Int × Int × Int)) × Int × Int × Int × Int) Int) :=
 bif decide (s.2.2.2.2 < s.2.2.2.1) then
  (geti s.1 s.2.2.2.2).bind fun a0 =>
  ((kheap_renew_1 N) a0 (s.2.1, s.2.2.1)).bind fun b1 =>
  bif b1 then
   some (.done s.2.2.2.2)
  else
   some (.next (s.1, s.2.1, s.2.2.1, s.2.2.2.1, wrapF .i64 (s.2.2.2.2 + 1)))
 else
  some (.done (-1))
noncomputable def slices_IndexFunc_116__kheap_renew_1 (N : Nat) (p0 : List (Int × Int × Int)) (p1 : (Int × Int)) : Option Int :=
 (loopN N) (slices_IndexFunc_116__kheap_renew_1_l1 N) (p0, p1.1, p1.2, Int.ofNat p0.length, 0)
noncomputable def c116_91 (N : Nat) : Con := ⟨Args.cons (Arg.sl kiii) (Args.one (Arg.clo 91 (Args.one (Arg.ref (Cod.row kii))))), Arg.int .i64, fun a => (slices_IndexFunc_116__kheap_renew_1 N) a.1 a.2, .pure, false⟩
theorem c116_91_ok (N : Nat) : ConOK tab 116 (c116_91 N) := ConOK.of tab_116 (cx := (mkCx (loopL N) [(91, (c91 N))] [] [] [])) rfl (CxOK.make ⟨(c91_ok N), trivial⟩ trivial trivial) (fun a => by kernel_rfl)
noncomputable def slices_ContainsFunc_82__kheap_renew_1 (N : Nat) (p0 : List (Int × Int × Int)) (p1 : (Int × Int)) : Option Bool :=
 ((slices_IndexFunc_116__kheap_renew_1 N) p0 p1).bind fun n0 =>
 some (decide (0 ≤ n0))
noncomputable def c82_91 (N : Nat) : Con := ⟨Args.cons (Arg.sl kiii) (Args.one (Arg.clo 91 (Args.one (Arg.ref (Cod.row kii))))), Arg.bool, fun a => (slices_ContainsFunc_82__kheap_renew_1 N) a.1 a.2, .pure, false⟩
theorem c82_91_ok (N : Nat) : ConOK tab 82 (c82_91 N) := ConOK.of tab_82 (cx := (mkCx (loopL N) [(116, (c116_91 N))] [] [] [])) rfl (CxOK.make ⟨(c116_91_ok N), trivial⟩ trivial trivial) (fun a => by kernel_rfl)
noncomputable def clock_Certify_1 (_ : Nat) (p0 : Int) : Option (Clock × Int × Int) :=
 some (Clock.mk (0, 0) (Field.mk []) (Certs.mk 0 []) (Agenda.mk (Slots.mk [] [] []) [] []) [], 0, p0)
noncomputable def c127 (N : Nat) : Con := ⟨Args.one (Arg.int .i64), Arg.tup (Args.cons (Arg.agg Clock_c) (Args.cons (Arg.int .i64) (Args.one (Arg.int .i64)))), fun a => (clock_Certify_1 N) a, .frz, false⟩
theorem c127_ok (N : Nat) : ConOK tab 127 (c127 N) := ConOK.of tab_127 (cx := (mkCx (loopL N) [] [] [] [])) rfl (CxOK.make trivial trivial trivial) (fun a => by kernel_rfl)
noncomputable def cert_Add_1 (_ : Nat) (p0 : Int × Int × Int) (p1 : Int × Int) : Option Bool :=
 some ((p0.2.1 == p1.1) && (p0.2.2 == p1.2))
noncomputable def c160 (N : Nat) : Con := ⟨Args.cons (Arg.agg (Cod.row kiii)) (Args.one (Arg.ref (Cod.row kii))), Arg.bool, fun a => (cert_Add_1 N) a.1 a.2, .pure, false⟩
theorem c160_ok (N : Nat) : ConOK tab 160 (c160 N) := ConOK.of tab_160 (cx := (mkCx (loopL N) [] [] [] [])) rfl (CxOK.make trivial trivial trivial) (fun a => by kernel_rfl)
noncomputable def slices_IndexFunc_116__cert_Add_1_l1 (N : Nat) (s : ((List (Int × Int × Int)) × Int × Int × Int × Int)) : Option (Step ((List (Int × Int × Int)) × Int × Int × Int × Int) Int) :=
 bif decide (s.2.2.2.2 < s.2.2.2.1) then
  (geti s.1 s.2.2.2.2).bind fun a0 =>
  ((cert_Add_1 N) a0 (s.2.1, s.2.2.1)).bind fun b1 =>
  bif b1 then
   some (.done s.2.2.2.2)
  else
   some (.next (s.1, s.2.1, s.2.2.1, s.2.2.2.1, wrapF .i64 (s.2.2.2.2 + 1)))
 else
  some (.done (-1))
noncomputable def slices_IndexFunc_116__cert_Add_1 (N : Nat) (p0 : List (Int × Int × Int)) (p1 : (Int × Int)) : Option Int :=
 (loopN N) (slices_IndexFunc_116__cert_Add_1_l1 N) (p0, p1.1, p1.2, Int.ofNat p0.length, 0)
noncomputable def c116_160 (N : Nat) : Con := ⟨Args.cons (Arg.sl kiii) (Args.one (Arg.clo 160 (Args.one (Arg.ref (Cod.row kii))))), Arg.int .i64, fun a => (slices_IndexFunc_116__cert_Add_1 N) a.1 a.2, .pure, false⟩
theorem c116_160_ok (N : Nat) : ConOK tab 116 (c116_160 N) := ConOK.of tab_116 (cx := (mkCx (loopL N) [(160, (c160 N))] [] [] [])) rfl (CxOK.make ⟨(c160_ok N), trivial⟩ trivial trivial) (fun a => by kernel_rfl)
noncomputable def slices_ContainsFunc_82__cert_Add_1 (N : Nat) (p0 : List (Int × Int × Int)) (p1 : (Int × Int)) : Option Bool :=
 ((slices_IndexFunc_116__cert_Add_1 N) p0 p1).bind fun n0 =>
 some (decide (0 ≤ n0))
noncomputable def c82_160 (N : Nat) : Con := ⟨Args.cons (Arg.sl kiii) (Args.one (Arg.clo 160 (Args.one (Arg.ref (Cod.row kii))))), Arg.bool, fun a => (slices_ContainsFunc_82__cert_Add_1 N) a.1 a.2, .pure, false⟩
theorem c82_160_ok (N : Nat) : ConOK tab 82 (c82_160 N) := ConOK.of tab_82 (cx := (mkCx (loopL N) [(116, (c116_160 N))] [] [] [])) rfl (CxOK.make ⟨(c116_160_ok N), trivial⟩ trivial trivial) (fun a => by kernel_rfl)
noncomputable def cert_Add (N : Nat) (p0 : Certs) (p1 : Int × Int) : Option (Certs × Int × Int) :=
 ((cert_Check N) p0).bind fun n0 =>
 bif n0 != 0 then
  some (Certs.mk 0 [], 0, n0)
 else
  ((cert_valid N) p1).bind fun b1 =>
  bif !b1 then
   some (Certs.mk 0 [], 0, 8)
  else
   ((slices_ContainsFunc_82__cert_Add_1 N) p0.list p1).bind fun b2 =>
   bif b2 then
    some (Certs.mk 0 [], 0, 14)
   else
    bif (Int.ofNat p0.list.length) == 200 then
     some (Certs.mk 0 [], 0, 18)
    else
     bif p0.next_ == 1000000 then
      some (Certs.mk 0 [], 0, 18)
     else
      (cloneO p0.list).bind fun l3 =>
      (appendO l3 [(p0.next_, p1)]).bind fun l4 =>
      some (Certs.mk (wrapF .i64 (p0.next_ + 1)) l4, p0.next_, 0)
noncomputable def c128 (N : Nat) : Con := ⟨Args.cons (Arg.agg Certs_c) (Args.one (Arg.agg (Cod.row kii))), Arg.tup (Args.cons (Arg.agg Certs_c) (Args.cons (Arg.int .i64) (Args.one (Arg.int .i64)))), fun a => (cert_Add N) a.1 a.2, .frz, false⟩
theorem c128_ok (N : Nat) : ConOK tab 128 (c128 N) := ConOK.of tab_128 (cx := (mkCx (loopL N) [(78, (c78 N)), (111, (c111 N)), (82, (c82_160 N)), (93, Con.clone kiii)] [] [] [])) rfl (CxOK.make ⟨(c78_ok N), (c111_ok N), (c82_160_ok N), prim_93, trivial⟩ trivial trivial) (fun a => by kernel_rfl)
noncomputable def clock_Certify (N : Nat) (p0 : Clock) (p1 : Int × Int) : Option (Clock × Int × Int) :=
 ((clock_Check N) p0).bind fun n0 =>
 bif n0 != 0 then
  ((clock_Certify_1 N) n0).bind fun a1 =>
  some a1
 else
  ((cert_Add N) p0.certs p1).bind fun a2 =>
  bif a2.2.2 == 8 then
   ((clock_Certify_1 N) a2.2.2).bind fun a3 =>
   some a3
  else
   ((clock_point N) p0.field p1.1).bind fun a4 =>
   bif decide (a4.1 < 0) then
    ((clock_Certify_1 N) 6).bind fun a5 =>
    some a5
   else
    ((clock_point N) p0.field p1.2).bind fun a6 =>
    bif decide (a6.1 < 0) then
     ((clock_Certify_1 N) 6).bind fun a7 =>
     some a7
    else
     bif a2.2.2 != 0 then
      ((clock_Certify_1 N) a2.2.2).bind fun a8 =>
      some a8
     else
      ((clock_twin N) p0).bind fun r9 =>
      ((clock_when N) p0.field p1 p0.now).bind fun a10 =>
      bif a10.2.2 != 0 then
       ((clock_Certify_1 N) a10.2.2).bind fun a11 =>
       some a11
      else
       bif a10.2.1 then
        ((agenda_Push N) p0.agenda a10.1 a2.2.1).bind fun a12 =>
        bif a12.2.2 != 0 then
         ((clock_Certify_1 N) a12.2.2).bind fun a13 =>
         some a13
        else
         (appendO r9.due [(a2.2.1, a12.2.1)]).bind fun l14 =>
         some (Clock.mk r9.now r9.field a2.1 a12.1 l14, a2.2.1, 0)
       else
        some (Clock.mk r9.now r9.field a2.1 r9.agenda r9.due, a2.2.1, 0)
noncomputable def c92 (N : Nat) : Con := ⟨Args.cons (Arg.agg Clock_c) (Args.one (Arg.agg (Cod.row kii))), Arg.tup (Args.cons (Arg.agg Clock_c) (Args.cons (Arg.int .i64) (Args.one (Arg.int .i64)))), fun a => (clock_Certify N) a.1 a.2, .frz, false⟩
theorem c92_ok (N : Nat) : ConOK tab 92 (c92 N) := ConOK.of tab_92 (cx := (mkCx (loopL N) [(50, (c50 N)), (127, (c127 N)), (128, (c128 N)), (115, (c115 N)), (122, (c122 N)), (122, (c122p N)), (80, (c80 N)), (125, (c125 N))] [] [] [])) rfl (CxOK.make ⟨(c50_ok N), (c127_ok N), (c128_ok N), (c115_ok N), (c122_ok N), (c122p_ok N), (c80_ok N), (c125_ok N), trivial⟩ trivial trivial) (fun a => by kernel_rfl)
noncomputable def kheap_renew_l1 (N : Nat) (s : ((List (Int × Int)) × Int × Int × Int × Int × (List (Int × Int × Int)) × Int × (List (Int × Int × Int)) × (List Int) × (List Bool) × (List Int) × (List (Int × Int × Int × Int × Int)) × (List Int) × (List (Int × Int × Int)) × Int × Int × Int)) : Option (Step ((List (Int × Int)) × Int × Int × Int × Int × (List (Int × Int × Int)) × Int × (List (Int × Int × Int)) × (List Int) × (List Bool) × (List Int) × (List (Int × Int × Int × Int × Int)) × (List Int) × (List (Int × Int × Int)) × Int × Int × Int) (Step ((List (Int × Int)) × (List (Int × Int × Int)) × Int × Int × Int × Int × (List (Int × Int × Int)) × Int × (List (Int × Int × Int)) × (List Int) × (List Bool) × (List Int) × (List (Int × Int × Int × Int × Int)) × (List Int) × (List (Int × Int × Int)) × (List (Int × Int × Int)) × Int × Int × Int) (Clock × Int))) :=
 bif decide (s.2.2.1 < s.2.1) then
  (geti s.1 s.2.2.1).bind fun a0 =>
  ((slices_ContainsFunc_82__kheap_renew_1 N) s.2.2.2.2.2.2.2.1 a0).bind fun b1 =>
  bif b1 then
   some (.next (s.1, s.2.1, wrapF .i64 (s.2.2.1 + 1), s.2.2.2))
  else
   ((clock_Certify N) (Clock.mk (s.2.2.2.1, s.2.2.2.2.1) (Field.mk s.2.2.2.2.2.1) (Certs.mk s.2.2.2.2.2.2.1 s.2.2.2.2.2.2.2.1) (Agenda.mk (Slots.mk s.2.2.2.2.2.2.2.2.1 s.2.2.2.2.2.2.2.2.2.1 s.2.2.2.2.2.2.2.2.2.2.1) s.2.2.2.2.2.2.2.2.2.2.2.1 s.2.2.2.2.2.2.2.2.2.2.2.2.1) s.2.2.2.2.2.2.2.2.2.2.2.2.2.1) a0).bind fun a2 =>
   bif a2.2.2 != 0 then
    some (.done (.done (Clock.mk (0, 0) (Field.mk []) (Certs.mk 0 []) (Agenda.mk (Slots.mk [] [] []) [] []) [], a2.2.2)))
   else
    some (.next (s.1, s.2.1, wrapF .i64 (s.2.2.1 + 1), a2.1.now.1, a2.1.now.2, a2.1.field.points, a2.1.certs.next_, a2.1.certs.list, a2.1.agenda.slots.uses, a2.1.agenda.slots.used, a2.1.agenda.slots.free, a2.1.agenda.heap, a2.1.agenda.where_, a2.1.due, s.2.2.2.2.2.2.2.2.2.2.2.2.2.2))
 else
  some (.done (.done (Clock.mk (s.2.2.2.1, s.2.2.2.2.1) (Field.mk s.2.2.2.2.2.1) (Certs.mk s.2.2.2.2.2.2.1 s.2.2.2.2.2.2.2.1) (Agenda.mk (Slots.mk s.2.2.2.2.2.2.2.2.1 s.2.2.2.2.2.2.2.2.2.1 s.2.2.2.2.2.2.2.2.2.2.1) s.2.2.2.2.2.2.2.2.2.2.2.1 s.2.2.2.2.2.2.2.2.2.2.2.2.1) s.2.2.2.2.2.2.2.2.2.2.2.2.2.1, 0)))
noncomputable def kheap_renew_l2 (N : Nat) (s : ((List (Int × Int)) × (List (Int × Int × Int)) × Int × Int × Int × Int × (List (Int × Int × Int)) × Int × (List (Int × Int × Int)) × (List Int) × (List Bool) × (List Int) × (List (Int × Int × Int × Int × Int)) × (List Int) × (List (Int × Int × Int)) × (List (Int × Int × Int)) × Int × Int × Int)) : Option (Step ((List (Int × Int)) × (List (Int × Int × Int)) × Int × Int × Int × Int × (List (Int × Int × Int)) × Int × (List (Int × Int × Int)) × (List Int) × (List Bool) × (List Int) × (List (Int × Int × Int × Int × Int)) × (List Int) × (List (Int × Int × Int)) × (List (Int × Int × Int)) × Int × Int × Int) (Clock × Int)) :=
 bif decide (s.2.2.2.1 < s.2.2.1) then
  (geti s.2.1 s.2.2.2.1).bind fun a0 =>
  ((slices_Contains_59 N) s.1 a0.2).bind fun b1 =>
  bif !b1 then
   ((clock_Retire N) (Clock.mk (s.2.2.2.2.1, s.2.2.2.2.2.1) (Field.mk s.2.2.2.2.2.2.1) (Certs.mk s.2.2.2.2.2.2.2.1 s.2.2.2.2.2.2.2.2.1) (Agenda.mk (Slots.mk s.2.2.2.2.2.2.2.2.2.1 s.2.2.2.2.2.2.2.2.2.2.1 s.2.2.2.2.2.2.2.2.2.2.2.1) s.2.2.2.2.2.2.2.2.2.2.2.2.1 s.2.2.2.2.2.2.2.2.2.2.2.2.2.1) s.2.2.2.2.2.2.2.2.2.2.2.2.2.2.1) a0.1).bind fun a2 =>
   some (.next (s.1, s.2.1, s.2.2.1, wrapF .i64 (s.2.2.2.1 + 1), a2.1.now.1, a2.1.now.2, a2.1.field.points, a2.1.certs.next_, a2.1.certs.list, a2.1.agenda.slots.uses, a2.1.agenda.slots.used, a2.1.agenda.slots.free, a2.1.agenda.heap, a2.1.agenda.where_, a2.1.due, s.2.2.2.2.2.2.2.2.2.2.2.2.2.2.2))
  else
   some (.next (s.1, s.2.1, s.2.2.1, wrapF .i64 (s.2.2.2.1 + 1), s.2.2.2.2))
 else
  ((slices_Equal_89 N) s.2.2.2.2.2.2.1 s.2.2.2.2.2.2.2.2.2.2.2.2.2.2.2.1).bind fun b3 =>
  bif !b3 then
   ((clock_Alter N) (Clock.mk (s.2.2.2.2.1, s.2.2.2.2.2.1) (Field.mk s.2.2.2.2.2.2.1) (Certs.mk s.2.2.2.2.2.2.2.1 s.2.2.2.2.2.2.2.2.1) (Agenda.mk (Slots.mk s.2.2.2.2.2.2.2.2.2.1 s.2.2.2.2.2.2.2.2.2.2.1 s.2.2.2.2.2.2.2.2.2.2.2.1) s.2.2.2.2.2.2.2.2.2.2.2.2.1 s.2.2.2.2.2.2.2.2.2.2.2.2.2.1) s.2.2.2.2.2.2.2.2.2.2.2.2.2.2.1) (Field.mk s.2.2.2.2.2.2.2.2.2.2.2.2.2.2.2.1)).bind fun a4 =>
   bif a4.2 != 0 then
    some (.done (Clock.mk (0, 0) (Field.mk []) (Certs.mk 0 []) (Agenda.mk (Slots.mk [] [] []) [] []) [], a4.2))
   else
    (loopN N) (kheap_renew_l1 N) (s.1, Int.ofNat s.1.length, 0, a4.1.now.1, a4.1.now.2, a4.1.field.points, a4.1.certs.next_, a4.1.certs.list, a4.1.agenda.slots.uses, a4.1.agenda.slots.used, a4.1.agenda.slots.free, a4.1.agenda.heap, a4.1.agenda.where_, a4.1.due, s.2.2.2.2.2.2.2.2.2.2.2.2.2.2.2.2)
  else
   (loopN N) (kheap_renew_l1 N) (s.1, Int.ofNat s.1.length, 0, s.2.2.2.2.1, s.2.2.2.2.2.1, s.2.2.2.2.2.2.1, s.2.2.2.2.2.2.2.1, s.2.2.2.2.2.2.2.2.1, s.2.2.2.2.2.2.2.2.2.1, s.2.2.2.2.2.2.2.2.2.2.1, s.2.2.2.2.2.2.2.2.2.2.2.1, s.2.2.2.2.2.2.2.2.2.2.2.2.1, s.2.2.2.2.2.2.2.2.2.2.2.2.2.1, s.2.2.2.2.2.2.2.2.2.2.2.2.2.2.1, s.2.2.2.2.2.2.2.2.2.2.2.2.2.2.2.2)
noncomputable def kheap_renew (N : Nat) (p0 : Clock) (p1 : Field) (p2 : List (Int × Int)) : Option (Clock × Int) :=
 (loopN N) (kheap_renew_l2 N) (p2, p0.certs.list, Int.ofNat p0.certs.list.length, 0, p0.now.1, p0.now.2, p0.field.points, p0.certs.next_, p0.certs.list, p0.agenda.slots.uses, p0.agenda.slots.used, p0.agenda.slots.free, p0.agenda.heap, p0.agenda.where_, p0.due, p1.points, 0, 0, 0)
noncomputable def c61 (N : Nat) : Con := ⟨Args.cons (Arg.agg Clock_c) (Args.cons (Arg.agg Field_c) (Args.one (Arg.sl kii))), Arg.tup (Args.cons (Arg.agg Clock_c) (Args.one (Arg.int .i64))), fun a => (kheap_renew N) a.1 a.2.1 a.2.2, .frz, false⟩
theorem c61_ok (N : Nat) : ConOK tab 61 (c61 N) := ConOK.of tab_61 (cx := (mkCx (loopL N) [(59, (c59 N)), (88, (c88 N)), (89, (c89 N)), (90, (c90 N)), (82, (c82_91 N)), (92, (c92 N))] [] [] [])) rfl (CxOK.make ⟨(c59_ok N), (c88_ok N), (c89_ok N), (c90_ok N), (c82_91_ok N), (c92_ok N), trivial⟩ trivial trivial) (fun a => by kernel_rfl)
noncomputable def kheap_Renew_l1 (N : Nat) (s : ((List (Int × Int)) × (List (Int × Int)) × Int × Int × Int × Int × (List (Int × Int × Int)) × Int × (List (Int × Int × Int)) × (List Int) × (List Bool) × (List Int) × (List (Int × Int × Int × Int × Int)) × (List Int) × (List (Int × Int × Int)) × (List (Int × Int × Int)) × Int × Int × Int)) : Option (Step ((List (Int × Int)) × (List (Int × Int)) × Int × Int × Int × Int × (List (Int × Int × Int)) × Int × (List (Int × Int × Int)) × (List Int) × (List Bool) × (List Int) × (List (Int × Int × Int × Int × Int)) × (List Int) × (List (Int × Int × Int)) × (List (Int × Int × Int)) × Int × Int × Int) (Step ((List (Int × Int)) × (List (Int × Int)) × Int × Int × Int × Int × (List (Int × Int × Int)) × Int × (List (Int × Int × Int)) × (List Int) × (List Bool) × (List Int) × (List (Int × Int × Int × Int × Int)) × (List Int) × (List (Int × Int × Int)) × (List (Int × Int × Int)) × Int × Int × Int) (Step ((List (Int × Int)) × (List (Int × Int)) × Int × Int × Int × Int × (List (Int × Int × Int)) × Int × (List (Int × Int × Int)) × (List Int) × (List Bool) × (List Int) × (List (Int × Int × Int × Int × Int)) × (List Int) × (List (Int × Int × Int)) × (List (Int × Int × Int)) × Int × Int × Int) (Clock × Int)))) :=
 bif decide (s.2.2.2.1 < s.2.2.1) then
  (geti s.2.1 s.2.2.2.1).bind fun a0 =>
  ((field_Find N) (Field.mk s.2.2.2.2.2.2.2.2.2.2.2.2.2.2.2.1) a0.1).bind fun a1 =>
  ((field_Find N) (Field.mk s.2.2.2.2.2.2.2.2.2.2.2.2.2.2.2.1) a0.2).bind fun a2 =>
  bif a1.2 != 0 then
   some (.done (.done (.done (Clock.mk (0, 0) (Field.mk []) (Certs.mk 0 []) (Agenda.mk (Slots.mk [] [] []) [] []) [], 6))))
  else
   bif a2.2 != 0 then
    some (.done (.done (.done (Clock.mk (0, 0) (Field.mk []) (Certs.mk 0 []) (Agenda.mk (Slots.mk [] [] []) [] []) [], 6))))
   else
    some (.next (s.1, s.2.1, s.2.2.1, wrapF .i64 (s.2.2.2.1 + 1), s.2.2.2.2))
 else
  ((kheap_twin N) (Clock.mk (s.2.2.2.2.1, s.2.2.2.2.2.1) (Field.mk s.2.2.2.2.2.2.1) (Certs.mk s.2.2.2.2.2.2.2.1 s.2.2.2.2.2.2.2.2.1) (Agenda.mk (Slots.mk s.2.2.2.2.2.2.2.2.2.1 s.2.2.2.2.2.2.2.2.2.2.1 s.2.2.2.2.2.2.2.2.2.2.2.1) s.2.2.2.2.2.2.2.2.2.2.2.2.1 s.2.2.2.2.2.2.2.2.2.2.2.2.2.1) s.2.2.2.2.2.2.2.2.2.2.2.2.2.2.1)).bind fun r3 =>
  ((kheap_renew N) r3 (Field.mk s.2.2.2.2.2.2.2.2.2.2.2.2.2.2.2.1) s.1).bind fun a4 =>
  some (.done (.done (.done a4)))
noncomputable def kheap_Renew_l2 (N : Nat) (s : ((List (Int × Int)) × (List (Int × Int)) × Int × Int × Int × Int × (List (Int × Int × Int)) × Int × (List (Int × Int × Int)) × (List Int) × (List Bool) × (List Int) × (List (Int × Int × Int × Int × Int)) × (List Int) × (List (Int × Int × Int)) × (List (Int × Int × Int)) × Int × Int × Int)) : Option (Step ((List (Int × Int)) × (List (Int × Int)) × Int × Int × Int × Int × (List (Int × Int × Int)) × Int × (List (Int × Int × Int)) × (List Int) × (List Bool) × (List Int) × (List (Int × Int × Int × Int × Int)) × (List Int) × (List (Int × Int × Int)) × (List (Int × Int × Int)) × Int × Int × Int) (Step ((List (Int × Int)) × (List (Int × Int)) × Int × Int × Int × Int × (List (Int × Int × Int)) × Int × (List (Int × Int × Int)) × (List Int) × (List Bool) × (List Int) × (List (Int × Int × Int × Int × Int)) × (List Int) × (List (Int × Int × Int)) × (List (Int × Int × Int)) × Int × Int × Int) (Clock × Int))) :=
 bif decide (s.2.2.2.1 < s.2.2.1) then
  (geti s.2.1 s.2.2.2.1).bind fun a0 =>
  (sliceO s.1 0 s.2.2.2.1).bind fun l1 =>
  ((slices_Contains_59 N) l1 a0).bind fun b2 =>
  bif b2 then
   some (.done (.done (Clock.mk (0, 0) (Field.mk []) (Certs.mk 0 []) (Agenda.mk (Slots.mk [] [] []) [] []) [], 14)))
  else
   some (.next (s.1, s.2.1, s.2.2.1, wrapF .i64 (s.2.2.2.1 + 1), s.2.2.2.2))
 else
  (loopN N) (kheap_Renew_l1 N) (s.1, s.1, Int.ofNat s.1.length, 0, s.2.2.2.2)
noncomputable def kheap_Renew_l3 (N : Nat) (s : ((List (Int × Int)) × (List (Int × Int)) × Int × Int × Int × Int × (List (Int × Int × Int)) × Int × (List (Int × Int × Int)) × (List Int) × (List Bool) × (List Int) × (List (Int × Int × Int × Int × Int)) × (List Int) × (List (Int × Int × Int)) × (List (Int × Int × Int)) × Int × Int × Int)) : Option (Step ((List (Int × Int)) × (List (Int × Int)) × Int × Int × Int × Int × (List (Int × Int × Int)) × Int × (List (Int × Int × Int)) × (List Int) × (List Bool) × (List Int) × (List (Int × Int × Int × Int × Int)) × (List Int) × (List (Int × Int × Int)) × (List (Int × Int × Int)) × Int × Int × Int) (Clock × Int)) :=
 bif decide (s.2.2.2.1 < s.2.2.1) then
  (geti s.2.1 s.2.2.2.1).bind fun a0 =>
  bif decide (a0.1 < 0) then
   some (.done (Clock.mk (0, 0) (Field.mk []) (Certs.mk 0 []) (Agenda.mk (Slots.mk [] [] []) [] []) [], 8))
  else
   bif decide (a0.2 < 0) then
    some (.done (Clock.mk (0, 0) (Field.mk []) (Certs.mk 0 []) (Agenda.mk (Slots.mk [] [] []) [] []) [], 8))
   else
    bif decide (65535 < a0.1) then
     some (.done (Clock.mk (0, 0) (Field.mk []) (Certs.mk 0 []) (Agenda.mk (Slots.mk [] [] []) [] []) [], 8))
    else
     bif decide (65535 < a0.2) then
      some (.done (Clock.mk (0, 0) (Field.mk []) (Certs.mk 0 []) (Agenda.mk (Slots.mk [] [] []) [] []) [], 8))
     else
      bif a0.1 == a0.2 then
       some (.done (Clock.mk (0, 0) (Field.mk []) (Certs.mk 0 []) (Agenda.mk (Slots.mk [] [] []) [] []) [], 8))
      else
       some (.next (s.1, s.2.1, s.2.2.1, wrapF .i64 (s.2.2.2.1 + 1), s.2.2.2.2))
 else
  (loopN N) (kheap_Renew_l2 N) (s.1, s.1, Int.ofNat s.1.length, 0, s.2.2.2.2)
noncomputable def kheap_Renew (N : Nat) (p0 : Clock) (p1 : Field) (p2 : List (Int × Int)) : Option (Clock × Int) :=
 ((clock_Check N) p0).bind fun n0 =>
 bif n0 != 0 then
  some (Clock.mk (0, 0) (Field.mk []) (Certs.mk 0 []) (Agenda.mk (Slots.mk [] [] []) [] []) [], n0)
 else
  ((field_Check N) p1).bind fun n1 =>
  bif n1 != 0 then
   some (Clock.mk (0, 0) (Field.mk []) (Certs.mk 0 []) (Agenda.mk (Slots.mk [] [] []) [] []) [], n1)
  else
   (loopN N) (kheap_Renew_l3 N) (p2, p2, Int.ofNat p2.length, 0, p0.now.1, p0.now.2, p0.field.points, p0.certs.next_, p0.certs.list, p0.agenda.slots.uses, p0.agenda.slots.used, p0.agenda.slots.free, p0.agenda.heap, p0.agenda.where_, p0.due, p1.points, 0, 0, 0)
noncomputable def c31 (N : Nat) : Con := ⟨Args.cons (Arg.agg Clock_c) (Args.cons (Arg.agg Field_c) (Args.one (Arg.sl kii))), Arg.tup (Args.cons (Arg.agg Clock_c) (Args.one (Arg.int .i64))), fun a => (kheap_Renew N) a.1 a.2.1 a.2.2, .frz, false⟩
theorem c31_ok (N : Nat) : ConOK tab 31 (c31 N) := ConOK.of tab_31 (cx := (mkCx (loopL N) [(50, (c50 N)), (33, (c33 N)), (59, (c59 N)), (60, (c60 N)), (62, (c62 N)), (62, (c62p N)), (61, (c61 N))] [] [] [])) rfl (CxOK.make ⟨(c50_ok N), (c33_ok N), (c59_ok N), (c60_ok N), (c62_ok N), (c62p_ok N), (c61_ok N), trivial⟩ trivial trivial) (fun a => by kernel_rfl)
noncomputable def eedit_changed__eedit_Put_1 (N : Nat) (p0 : Heater) (p1 : (Int × Int × Int)) : Option (Heater × Int) :=
 ((heater_Check N) p0).bind fun n0 =>
 bif n0 != 0 then
  some (Heater.mk (Clock.mk (0, 0) (Field.mk []) (Certs.mk 0 []) (Agenda.mk (Slots.mk [] [] []) [] []) []) (Tree.mk 0 []), n0)
 else
  ((eedit_Put_1 N) p0.clock.field p1).bind fun a1 =>
  bif a1.2 != 0 then
   some (Heater.mk (Clock.mk (0, 0) (Field.mk []) (Certs.mk 0 []) (Agenda.mk (Slots.mk [] [] []) [] []) []) (Tree.mk 0 []), a1.2)
  else
   ((cartes_Of N) a1.1 p0.clock.now).bind fun a2 =>
   ((eedit_edges N) a2.1).bind fun l3 =>
   ((kheap_Renew N) p0.clock a1.1 l3).bind fun a4 =>
   bif a4.2 != 0 then
    some (Heater.mk (Clock.mk (0, 0) (Field.mk []) (Certs.mk 0 []) (Agenda.mk (Slots.mk [] [] []) [] []) []) (Tree.mk 0 []), a4.2)
   else
    some (Heater.mk a4.1 a2.1, 0)
noncomputable def c14_15 (N : Nat) : Con := ⟨Args.cons (Arg.agg Heater_c) (Args.one (Arg.clo 15 (Args.one (Arg.ref (Cod.row kiii))))), Arg.tup (Args.cons (Arg.agg Heater_c) (Args.one (Arg.int .i64))), fun a => (eedit_changed__eedit_Put_1 N) a.1 a.2, .frz, false⟩
theorem c14_15_ok (N : Nat) : ConOK tab 14 (c14_15 N) := ConOK.of tab_14 (cx := (mkCx (loopL N) [(27, (c27 N)), (15, (c15 N)), (30, (c30 N)), (32, (c32 N)), (31, (c31 N))] [] [] [])) rfl (CxOK.make ⟨(c27_ok N), (c15_ok N), (c30_ok N), (c32_ok N), (c31_ok N), trivial⟩ trivial trivial) (fun a => by kernel_rfl)
noncomputable def eedit_Put (N : Nat) (p0 : Heater) (p1 : Int × Int × Int) : Option (Heater × Int) :=
 ((eedit_changed__eedit_Put_1 N) p0 p1).bind fun a0 =>
 some a0
noncomputable def c5 (N : Nat) : Con := ⟨Args.cons (Arg.agg Heater_c) (Args.one (Arg.agg (Cod.row kiii))), Arg.tup (Args.cons (Arg.agg Heater_c) (Args.one (Arg.int .i64))), fun a => (eedit_Put N) a.1 a.2, .frz, false⟩
theorem c5_ok (N : Nat) : ConOK tab 5 (c5 N) := ConOK.of tab_5 (cx := (mkCx (loopL N) [(14, (c14_15 N))] [] [] [])) rfl (CxOK.make ⟨(c14_15_ok N), trivial⟩ trivial trivial) (fun a => by kernel_rfl)
noncomputable def slices_Delete_39 (_ : Nat) (a : (Int × Int × (List (Int × Int × Int)))) : Option (Nat × Nat × (List (Int × Int × Int))) :=
 bif (((decide (0 ≤ a.1)) && (decide (a.1 ≤ a.2.1))) && (decide (a.2.1 ≤ (Int.ofNat a.2.2.length)))) && (decide ((Int.ofNat a.2.2.length) ≤ (Int.ofNat a.2.2.length))) then
  bif a.1 == a.2.1 then
   bif a.2.2.length == a.2.2.length then
    some (a.2.2.length, a.2.2.length, a.2.2)
   else
    none
  else
   (sliceO a.2.2 0 a.1).bind fun _ =>
   bif ((decide (0 ≤ a.2.1)) && (decide (a.2.1 ≤ (Int.ofNat a.2.2.length)))) && (decide ((Int.ofNat a.2.2.length) ≤ (Int.ofNat a.2.2.length))) then
    bif ((a.2.2.drop (0 + a.2.1.toNat)).take (((Int.ofNat a.2.2.length).toNat) - a.2.1.toNat)).isEmpty then
     bif ((decide (0 ≤ (Int.ofNat a.1.toNat))) && (decide ((Int.ofNat a.1.toNat) ≤ (Int.ofNat a.2.2.length)))) && (decide ((Int.ofNat a.2.2.length) ≤ (Int.ofNat a.2.2.length))) then
      bif Nat.beq (((Int.ofNat a.2.2.length).toNat) - ((Int.ofNat a.1.toNat).toNat)) 0 then
       bif a.2.2.length == a.2.2.length then
        some (a.1.toNat, a.2.2.length, a.2.2)
       else
        none
      else
       bif (Nat.ble ((0 + ((Int.ofNat a.1.toNat).toNat)) + (((Int.ofNat a.2.2.length).toNat) - ((Int.ofNat a.1.toNat).toNat))) a.2.2.length) && (!false) then
        bif ((layL a.2.2 (0 + ((Int.ofNat a.1.toNat).toNat)) (List.replicate (((Int.ofNat a.2.2.length).toNat) - ((Int.ofNat a.1.toNat).toNat)) (0, 0, 0))).length) == a.2.2.length then
         some (a.1.toNat, a.2.2.length, layL a.2.2 (0 + ((Int.ofNat a.1.toNat).toNat)) (List.replicate (((Int.ofNat a.2.2.length).toNat) - ((Int.ofNat a.1.toNat).toNat)) (0, 0, 0)))
        else
         none
       else
        none
     else
      none
    else
     bif Nat.ble (a.1.toNat + (((a.2.2.drop (0 + a.2.1.toNat)).take (((Int.ofNat a.2.2.length).toNat) - a.2.1.toNat)).length)) a.2.2.length then
      bif (Nat.ble (a.1.toNat + (((a.2.2.drop (0 + a.2.1.toNat)).take (((Int.ofNat a.2.2.length).toNat) - a.2.1.toNat)).length)) a.2.2.length) && (!false) then
       bif ((decide (0 ≤ (Int.ofNat (a.1.toNat + (((a.2.2.drop (0 + a.2.1.toNat)).take (((Int.ofNat a.2.2.length).toNat) - a.2.1.toNat)).length))))) && (decide ((Int.ofNat (a.1.toNat + (((a.2.2.drop (0 + a.2.1.toNat)).take (((Int.ofNat a.2.2.length).toNat) - a.2.1.toNat)).length))) ≤ (Int.ofNat a.2.2.length)))) && (decide ((Int.ofNat a.2.2.length) ≤ (Int.ofNat a.2.2.length))) then
        bif Nat.beq (((Int.ofNat a.2.2.length).toNat) - ((Int.ofNat (a.1.toNat + (((a.2.2.drop (0 + a.2.1.toNat)).take (((Int.ofNat a.2.2.length).toNat) - a.2.1.toNat)).length))).toNat)) 0 then
         bif ((layL a.2.2 a.1.toNat ((a.2.2.drop (0 + a.2.1.toNat)).take (((Int.ofNat a.2.2.length).toNat) - a.2.1.toNat))).length) == a.2.2.length then
          some (a.1.toNat + (((a.2.2.drop (0 + a.2.1.toNat)).take (((Int.ofNat a.2.2.length).toNat) - a.2.1.toNat)).length), a.2.2.length, layL a.2.2 a.1.toNat ((a.2.2.drop (0 + a.2.1.toNat)).take (((Int.ofNat a.2.2.length).toNat) - a.2.1.toNat)))
         else
          none
        else
         bif (Nat.ble ((0 + ((Int.ofNat (a.1.toNat + (((a.2.2.drop (0 + a.2.1.toNat)).take (((Int.ofNat a.2.2.length).toNat) - a.2.1.toNat)).length))).toNat)) + (((Int.ofNat a.2.2.length).toNat) - ((Int.ofNat (a.1.toNat + (((a.2.2.drop (0 + a.2.1.toNat)).take (((Int.ofNat a.2.2.length).toNat) - a.2.1.toNat)).length))).toNat))) ((layL a.2.2 a.1.toNat ((a.2.2.drop (0 + a.2.1.toNat)).take (((Int.ofNat a.2.2.length).toNat) - a.2.1.toNat))).length)) && (!false) then
          bif ((layL (layL a.2.2 a.1.toNat ((a.2.2.drop (0 + a.2.1.toNat)).take (((Int.ofNat a.2.2.length).toNat) - a.2.1.toNat))) (0 + ((Int.ofNat (a.1.toNat + (((a.2.2.drop (0 + a.2.1.toNat)).take (((Int.ofNat a.2.2.length).toNat) - a.2.1.toNat)).length))).toNat)) (List.replicate (((Int.ofNat a.2.2.length).toNat) - ((Int.ofNat (a.1.toNat + (((a.2.2.drop (0 + a.2.1.toNat)).take (((Int.ofNat a.2.2.length).toNat) - a.2.1.toNat)).length))).toNat)) (0, 0, 0))).length) == a.2.2.length then
           some (a.1.toNat + (((a.2.2.drop (0 + a.2.1.toNat)).take (((Int.ofNat a.2.2.length).toNat) - a.2.1.toNat)).length), a.2.2.length, layL (layL a.2.2 a.1.toNat ((a.2.2.drop (0 + a.2.1.toNat)).take (((Int.ofNat a.2.2.length).toNat) - a.2.1.toNat))) (0 + ((Int.ofNat (a.1.toNat + (((a.2.2.drop (0 + a.2.1.toNat)).take (((Int.ofNat a.2.2.length).toNat) - a.2.1.toNat)).length))).toNat)) (List.replicate (((Int.ofNat a.2.2.length).toNat) - ((Int.ofNat (a.1.toNat + (((a.2.2.drop (0 + a.2.1.toNat)).take (((Int.ofNat a.2.2.length).toNat) - a.2.1.toNat)).length))).toNat)) (0, 0, 0)))
          else
           none
         else
          none
       else
        none
      else
       none
     else
      none
   else
    none
 else
  none
noncomputable def f39_0 (N : Nat) : FpCon := ⟨[.i, .i, .l [.i .i64, .i .i64, .i .i64]], [.own 0 false, .int .i64 0, .int .i64 0], [.arr [.i .i64, .i .i64, .i .i64] []], [.n, .n, .l [.i .i64, .i .i64, .i .i64]], .pre 0 0 0 false, [.arr [.i .i64, .i .i64, .i .i64] []], fun a => (slices_Delete_39 N) a⟩
theorem f39_0_ok (N : Nat) : FpOK tab 39 (f39_0 N) := FpOK.of tab_39 (wd := true) (cx := (mkCx (loopL N) [] [] [] [])) (CxOK.make trivial trivial trivial) (fun a => by kernel_rfl)
noncomputable def field_Take (N : Nat) (p0 : Field) (p1 : Int) : Option (Field × Int) :=
 ((field_place N) p0 p1).bind fun a0 =>
 bif a0.2 != 0 then
  some (Field.mk [], a0.2)
 else
  (cloneO p0.points).bind fun l1 =>
  ((slices_Delete_39 N) (a0.1, wrapF .i64 (a0.1 + 1), l1)).bind fun a2 =>
  some (Field.mk (a2.2.2.take a2.1), 0)
noncomputable def c18 (N : Nat) : Con := ⟨Args.cons (Arg.agg Field_c) (Args.one (Arg.int .i64)), Arg.tup (Args.cons (Arg.agg Field_c) (Args.one (Arg.int .i64))), fun a => (field_Take N) a.1 a.2, .frz, false⟩
theorem c18_ok (N : Nat) : ConOK tab 18 (c18 N) := ConOK.of tab_18 (cx := (mkCx (loopL N) [(38, (c38 N)), (37, Con.clone kiii)] [(39, (f39_0 N))] [] [])) rfl (CxOK.make ⟨(c38_ok N), prim_37, trivial⟩ ⟨(f39_0_ok N), trivial⟩ trivial) (fun a => by kernel_rfl)
noncomputable def eedit_Take_1 (N : Nat) (p0 : Field) (p1 : Int) : Option (Field × Int) :=
 ((field_Take N) p0 p1).bind fun a0 =>
 some a0
noncomputable def c17 (N : Nat) : Con := ⟨Args.cons (Arg.agg Field_c) (Args.one (Arg.ref (Cod.int .i64))), Arg.tup (Args.cons (Arg.agg Field_c) (Args.one (Arg.int .i64))), fun a => (eedit_Take_1 N) a.1 a.2, .frz, false⟩
theorem c17_ok (N : Nat) : ConOK tab 17 (c17 N) := ConOK.of tab_17 (cx := (mkCx (loopL N) [(18, (c18 N))] [] [] [])) rfl (CxOK.make ⟨(c18_ok N), trivial⟩ trivial trivial) (fun a => by kernel_rfl)
noncomputable def eedit_changed__eedit_Take_1 (N : Nat) (p0 : Heater) (p1 : Int) : Option (Heater × Int) :=
 ((heater_Check N) p0).bind fun n0 =>
 bif n0 != 0 then
  some (Heater.mk (Clock.mk (0, 0) (Field.mk []) (Certs.mk 0 []) (Agenda.mk (Slots.mk [] [] []) [] []) []) (Tree.mk 0 []), n0)
 else
  ((eedit_Take_1 N) p0.clock.field p1).bind fun a1 =>
  bif a1.2 != 0 then
   some (Heater.mk (Clock.mk (0, 0) (Field.mk []) (Certs.mk 0 []) (Agenda.mk (Slots.mk [] [] []) [] []) []) (Tree.mk 0 []), a1.2)
  else
   ((cartes_Of N) a1.1 p0.clock.now).bind fun a2 =>
   ((eedit_edges N) a2.1).bind fun l3 =>
   ((kheap_Renew N) p0.clock a1.1 l3).bind fun a4 =>
   bif a4.2 != 0 then
    some (Heater.mk (Clock.mk (0, 0) (Field.mk []) (Certs.mk 0 []) (Agenda.mk (Slots.mk [] [] []) [] []) []) (Tree.mk 0 []), a4.2)
   else
    some (Heater.mk a4.1 a2.1, 0)
noncomputable def c14_17 (N : Nat) : Con := ⟨Args.cons (Arg.agg Heater_c) (Args.one (Arg.clo 17 (Args.one (Arg.ref (Cod.int .i64))))), Arg.tup (Args.cons (Arg.agg Heater_c) (Args.one (Arg.int .i64))), fun a => (eedit_changed__eedit_Take_1 N) a.1 a.2, .frz, false⟩
theorem c14_17_ok (N : Nat) : ConOK tab 14 (c14_17 N) := ConOK.of tab_14 (cx := (mkCx (loopL N) [(27, (c27 N)), (17, (c17 N)), (30, (c30 N)), (32, (c32 N)), (31, (c31 N))] [] [] [])) rfl (CxOK.make ⟨(c27_ok N), (c17_ok N), (c30_ok N), (c32_ok N), (c31_ok N), trivial⟩ trivial trivial) (fun a => by kernel_rfl)
noncomputable def eedit_Take (N : Nat) (p0 : Heater) (p1 : Int) : Option (Heater × Int) :=
 ((eedit_changed__eedit_Take_1 N) p0 p1).bind fun a0 =>
 some a0
noncomputable def c6 (N : Nat) : Con := ⟨Args.cons (Arg.agg Heater_c) (Args.one (Arg.int .i64)), Arg.tup (Args.cons (Arg.agg Heater_c) (Args.one (Arg.int .i64))), fun a => (eedit_Take N) a.1 a.2, .frz, false⟩
theorem c6_ok (N : Nat) : ConOK tab 6 (c6 N) := ConOK.of tab_6 (cx := (mkCx (loopL N) [(14, (c14_17 N))] [] [] [])) rfl (CxOK.make ⟨(c14_17_ok N), trivial⟩ trivial trivial) (fun a => by kernel_rfl)
noncomputable def field_Change (N : Nat) (p0 : Field) (p1 : Int × Int × Int) : Option (Field × Int) :=
 ((field_Check N) p0).bind fun n0 =>
 bif n0 != 0 then
  some (Field.mk [], n0)
 else
  ((course_Check N) p1).bind fun n1 =>
  bif n1 != 0 then
   some (Field.mk [], n1)
  else
   ((field_place N) p0 p1.1).bind fun a2 =>
   bif a2.2 != 0 then
    some (Field.mk [], a2.2)
   else
    (cloneO p0.points).bind fun l3 =>
    (geti l3 a2.1).bind fun _ =>
    some (Field.mk (seti l3 a2.1 p1), 0)
noncomputable def c20 (N : Nat) : Con := ⟨Args.cons (Arg.agg Field_c) (Args.one (Arg.agg (Cod.row kiii))), Arg.tup (Args.cons (Arg.agg Field_c) (Args.one (Arg.int .i64))), fun a => (field_Change N) a.1 a.2, .frz, false⟩
theorem c20_ok (N : Nat) : ConOK tab 20 (c20 N) := ConOK.of tab_20 (cx := (mkCx (loopL N) [(33, (c33 N)), (34, (c34 N)), (38, (c38 N)), (37, Con.clone kiii)] [] [] [])) rfl (CxOK.make ⟨(c33_ok N), (c34_ok N), (c38_ok N), prim_37, trivial⟩ trivial trivial) (fun a => by kernel_rfl)
noncomputable def eedit_Change_1 (N : Nat) (p0 : Field) (p1 : Int × Int × Int) : Option (Field × Int) :=
 ((field_Change N) p0 p1).bind fun a0 =>
 some a0
noncomputable def c19 (N : Nat) : Con := ⟨Args.cons (Arg.agg Field_c) (Args.one (Arg.ref (Cod.row kiii))), Arg.tup (Args.cons (Arg.agg Field_c) (Args.one (Arg.int .i64))), fun a => (eedit_Change_1 N) a.1 a.2, .frz, false⟩
theorem c19_ok (N : Nat) : ConOK tab 19 (c19 N) := ConOK.of tab_19 (cx := (mkCx (loopL N) [(20, (c20 N))] [] [] [])) rfl (CxOK.make ⟨(c20_ok N), trivial⟩ trivial trivial) (fun a => by kernel_rfl)
noncomputable def eedit_changed__eedit_Change_1 (N : Nat) (p0 : Heater) (p1 : (Int × Int × Int)) : Option (Heater × Int) :=
 ((heater_Check N) p0).bind fun n0 =>
 bif n0 != 0 then
  some (Heater.mk (Clock.mk (0, 0) (Field.mk []) (Certs.mk 0 []) (Agenda.mk (Slots.mk [] [] []) [] []) []) (Tree.mk 0 []), n0)
 else
  ((eedit_Change_1 N) p0.clock.field p1).bind fun a1 =>
  bif a1.2 != 0 then
   some (Heater.mk (Clock.mk (0, 0) (Field.mk []) (Certs.mk 0 []) (Agenda.mk (Slots.mk [] [] []) [] []) []) (Tree.mk 0 []), a1.2)
  else
   ((cartes_Of N) a1.1 p0.clock.now).bind fun a2 =>
   ((eedit_edges N) a2.1).bind fun l3 =>
   ((kheap_Renew N) p0.clock a1.1 l3).bind fun a4 =>
   bif a4.2 != 0 then
    some (Heater.mk (Clock.mk (0, 0) (Field.mk []) (Certs.mk 0 []) (Agenda.mk (Slots.mk [] [] []) [] []) []) (Tree.mk 0 []), a4.2)
   else
    some (Heater.mk a4.1 a2.1, 0)
noncomputable def c14_19 (N : Nat) : Con := ⟨Args.cons (Arg.agg Heater_c) (Args.one (Arg.clo 19 (Args.one (Arg.ref (Cod.row kiii))))), Arg.tup (Args.cons (Arg.agg Heater_c) (Args.one (Arg.int .i64))), fun a => (eedit_changed__eedit_Change_1 N) a.1 a.2, .frz, false⟩
theorem c14_19_ok (N : Nat) : ConOK tab 14 (c14_19 N) := ConOK.of tab_14 (cx := (mkCx (loopL N) [(27, (c27 N)), (19, (c19 N)), (30, (c30 N)), (32, (c32 N)), (31, (c31 N))] [] [] [])) rfl (CxOK.make ⟨(c27_ok N), (c19_ok N), (c30_ok N), (c32_ok N), (c31_ok N), trivial⟩ trivial trivial) (fun a => by kernel_rfl)
noncomputable def eedit_Change (N : Nat) (p0 : Heater) (p1 : Int × Int × Int) : Option (Heater × Int) :=
 ((eedit_changed__eedit_Change_1 N) p0 p1).bind fun a0 =>
 some a0
noncomputable def c7 (N : Nat) : Con := ⟨Args.cons (Arg.agg Heater_c) (Args.one (Arg.agg (Cod.row kiii))), Arg.tup (Args.cons (Arg.agg Heater_c) (Args.one (Arg.int .i64))), fun a => (eedit_Change N) a.1 a.2, .frz, false⟩
theorem c7_ok (N : Nat) : ConOK tab 7 (c7 N) := ConOK.of tab_7 (cx := (mkCx (loopL N) [(14, (c14_19 N))] [] [] [])) rfl (CxOK.make ⟨(c14_19_ok N), trivial⟩ trivial trivial) (fun a => by kernel_rfl)
noncomputable def ref11_Twin (_ : Nat) (p0 : Tree) : Option Tree :=
 (cloneO p0.nodes).bind fun l0 =>
 some (Tree.mk p0.root l0)
noncomputable def c26 (N : Nat) : Con := ⟨Args.one (Arg.agg Tree_c), Arg.agg Tree_c, fun a => (ref11_Twin N) a, .own, true⟩
noncomputable def c26p (N : Nat) : Con := ⟨Args.one (Arg.agg Tree_c), Arg.agg Tree_c, fun a => (ref11_Twin N) a, .frz, false⟩
theorem c26_ok (N : Nat) : ConOK tab 26 (c26 N) := ConOK.of tab_26 (cx := (mkCx (loopL N) [] [] [] [])) rfl (CxOK.make trivial trivial trivial) (fun a => by kernel_rfl)
theorem c26p_ok (N : Nat) : ConOK tab 26 (c26p N) := ConOK.of tab_26 (cx := (mkCx (loopL N) [] [] [] [])) rfl (CxOK.make trivial trivial trivial) (fun a => by kernel_rfl)
noncomputable def ref17_Twin (N : Nat) (p0 : Heater) : Option Heater :=
 ((ref09_Twin N) p0.clock).bind fun r0 =>
 ((ref11_Twin N) p0.tree).bind fun r1 =>
 some (Heater.mk r0 r1)
noncomputable def c10 (N : Nat) : Con := ⟨Args.one (Arg.agg Heater_c), Arg.agg Heater_c, fun a => (ref17_Twin N) a, .own, true⟩
noncomputable def c10p (N : Nat) : Con := ⟨Args.one (Arg.agg Heater_c), Arg.agg Heater_c, fun a => (ref17_Twin N) a, .frz, false⟩
theorem c10_ok (N : Nat) : ConOK tab 10 (c10 N) := ConOK.of tab_10 (cx := (mkCx (loopL N) [(25, (c25 N)), (25, (c25p N)), (26, (c26 N)), (26, (c26p N))] [] [] [])) rfl (CxOK.make ⟨(c25_ok N), (c25p_ok N), (c26_ok N), (c26p_ok N), trivial⟩ trivial trivial) (fun a => by kernel_rfl)
theorem c10p_ok (N : Nat) : ConOK tab 10 (c10p N) := ConOK.of tab_10 (cx := (mkCx (loopL N) [(25, (c25 N)), (25, (c25p N)), (26, (c26 N)), (26, (c26p N))] [] [] [])) rfl (CxOK.make ⟨(c25_ok N), (c25p_ok N), (c26_ok N), (c26p_ok N), trivial⟩ trivial trivial) (fun a => by kernel_rfl)
noncomputable def heater_Leader (N : Nat) (p0 : Heater) : Option (Int × Int) :=
 ((heater_Check N) p0).bind fun n0 =>
 bif n0 != 0 then
  some (0, n0)
 else
  bif decide (p0.tree.root < 0) then
   some (0, 42)
  else
   (geti p0.tree.nodes p0.tree.root).bind fun a1 =>
   some (a1.1, 0)
noncomputable def c11 (N : Nat) : Con := ⟨Args.one (Arg.agg Heater_c), Arg.tup (Args.cons (Arg.int .i64) (Args.one (Arg.int .i64))), fun a => (heater_Leader N) a, .pure, false⟩
theorem c11_ok (N : Nat) : ConOK tab 11 (c11 N) := ConOK.of tab_11 (cx := (mkCx (loopL N) [(27, (c27 N))] [] [] [])) rfl (CxOK.make ⟨(c27_ok N), trivial⟩ trivial trivial) (fun a => by kernel_rfl)
noncomputable def ref11_Equal_l1 (_ : Nat) (s : (Int × Int × (List (Int × Int × Int)) × Int × (List (Int × Int × Int)))) : Option (Step (Int × Int × (List (Int × Int × Int)) × Int × (List (Int × Int × Int))) Bool) :=
 bif decide (s.1 < (Int.ofNat s.2.2.1.length)) then
  (geti s.2.2.1 s.1).bind fun a0 =>
  (geti s.2.2.2.2 s.1).bind fun a1 =>
  bif !((a0.1 == a1.1) && ((a0.2.1 == a1.2.1) && (a0.2.2 == a1.2.2))) then
   some (.done false)
  else
   some (.next (wrapF .i64 (s.1 + 1), s.2))
 else
  some (.done true)
noncomputable def ref11_Equal (N : Nat) (p0 : Tree) (p1 : Tree) : Option Bool :=
 bif p0.root != p1.root then
  some false
 else
  bif (Int.ofNat p0.nodes.length) != (Int.ofNat p1.nodes.length) then
   some false
  else
   (loopN N) (ref11_Equal_l1 N) (0, p0.root, p0.nodes, p1.root, p1.nodes)
noncomputable def c28 (N : Nat) : Con := ⟨Args.cons (Arg.agg Tree_c) (Args.one (Arg.agg Tree_c)), Arg.bool, fun a => (ref11_Equal N) a.1 a.2, .pure, false⟩
theorem c28_ok (N : Nat) : ConOK tab 28 (c28 N) := ConOK.of tab_28 (cx := (mkCx (loopL N) [] [] [] [])) rfl (CxOK.make trivial trivial trivial) (fun a => by kernel_rfl)
noncomputable def law18_alive (N : Nat)  : Option Bool :=
 (law18_given N).bind fun r0 =>
 ((eedit_Put N) r0 (7, 9, -1)).bind fun a1 =>
 ((eedit_Take N) a1.1 7).bind fun a2 =>
 bif a1.2 == 0 then
  bif a2.2 == 0 then
   bif (Int.ofNat a1.1.tree.nodes.length) == 4 then
    bif a1.1.tree.root == 3 then
     (geti a1.1.tree.nodes 3).bind fun a3 =>
     bif a3.2.1 == 0 then
      bif (Int.ofNat a2.1.tree.nodes.length) == 3 then
       bif a2.1.tree.root == 0 then
        (law18_given N).bind fun r4 =>
        ((ref11_Equal N) a2.1.tree r4.tree).bind fun b5 =>
        some b5
       else
        some false
      else
       some false
     else
      some false
    else
     some false
   else
    some false
  else
   some false
 else
  some false
noncomputable def c12 (N : Nat) : Con := ⟨Args.nil, Arg.bool, fun _ => (law18_alive N), .pure, false⟩
theorem c12_ok (N : Nat) : ConOK tab 12 (c12 N) := ConOK.of tab_12 (cx := (mkCx (loopL N) [(4, (c4 N)), (5, (c5 N)), (6, (c6 N)), (28, (c28 N))] [] [] [])) rfl (CxOK.make ⟨(c4_ok N), (c5_ok N), (c6_ok N), (c28_ok N), trivial⟩ trivial trivial) (fun a => by kernel_rfl)
noncomputable def ref08_Same_l1 (_ : Nat) (s : (Int × Int × (List (Int × Int × Int)) × Int × (List (Int × Int × Int)))) : Option (Step (Int × Int × (List (Int × Int × Int)) × Int × (List (Int × Int × Int))) Bool) :=
 bif decide (s.1 < (Int.ofNat s.2.2.1.length)) then
  (geti s.2.2.1 s.1).bind fun a0 =>
  (geti s.2.2.2.2 s.1).bind fun a1 =>
  bif !((a0.1 == a1.1) && ((a0.2.1 == a1.2.1) && (a0.2.2 == a1.2.2))) then
   some (.done false)
  else
   some (.next (wrapF .i64 (s.1 + 1), s.2))
 else
  some (.done true)
noncomputable def ref08_Same (N : Nat) (p0 : Certs) (p1 : Certs) : Option Bool :=
 bif p0.next_ != p1.next_ then
  some false
 else
  bif (Int.ofNat p0.list.length) != (Int.ofNat p1.list.length) then
   some false
  else
   (loopN N) (ref08_Same_l1 N) (0, p0.next_, p0.list, p1.next_, p1.list)
noncomputable def c55 (N : Nat) : Con := ⟨Args.cons (Arg.agg Certs_c) (Args.one (Arg.agg Certs_c)), Arg.bool, fun a => (ref08_Same N) a.1 a.2, .pure, false⟩
theorem c55_ok (N : Nat) : ConOK tab 55 (c55 N) := ConOK.of tab_55 (cx := (mkCx (loopL N) [] [] [] [])) rfl (CxOK.make trivial trivial trivial) (fun a => by kernel_rfl)
noncomputable def ref06_SameInts_l1 (_ : Nat) (s : ((List Int) × (List Int) × Int)) : Option (Step ((List Int) × (List Int) × Int) Bool) :=
 bif decide (s.2.2 < (Int.ofNat s.1.length)) then
  (geti s.1 s.2.2).bind fun n0 =>
  (geti s.2.1 s.2.2).bind fun n1 =>
  bif n0 != n1 then
   some (.done false)
  else
   some (.next (s.1, s.2.1, wrapF .i64 (s.2.2 + 1)))
 else
  some (.done true)
noncomputable def ref06_SameInts (N : Nat) (p0 : List Int) (p1 : List Int) : Option Bool :=
 bif (Int.ofNat p0.length) != (Int.ofNat p1.length) then
  some false
 else
  (loopN N) (ref06_SameInts_l1 N) (p0, p1, 0)
noncomputable def c84 (N : Nat) : Con := ⟨Args.cons (Arg.sl ki) (Args.one (Arg.sl ki)), Arg.bool, fun a => (ref06_SameInts N) a.1 a.2, .pure, false⟩
theorem c84_ok (N : Nat) : ConOK tab 84 (c84 N) := ConOK.of tab_84 (cx := (mkCx (loopL N) [] [] [] [])) rfl (CxOK.make trivial trivial trivial) (fun a => by kernel_rfl)
noncomputable def ref06_SameBools_l1 (_ : Nat) (s : ((List Bool) × (List Bool) × Int)) : Option (Step ((List Bool) × (List Bool) × Int) Bool) :=
 bif decide (s.2.2 < (Int.ofNat s.1.length)) then
  (geti s.1 s.2.2).bind fun b0 =>
  (geti s.2.1 s.2.2).bind fun b1 =>
  bif !(b0 == b1) then
   some (.done false)
  else
   some (.next (s.1, s.2.1, wrapF .i64 (s.2.2 + 1)))
 else
  some (.done true)
noncomputable def ref06_SameBools (N : Nat) (p0 : List Bool) (p1 : List Bool) : Option Bool :=
 bif (Int.ofNat p0.length) != (Int.ofNat p1.length) then
  some false
 else
  (loopN N) (ref06_SameBools_l1 N) (p0, p1, 0)
noncomputable def c117 (N : Nat) : Con := ⟨Args.cons (Arg.sl kb) (Args.one (Arg.sl kb)), Arg.bool, fun a => (ref06_SameBools N) a.1 a.2, .pure, false⟩
theorem c117_ok (N : Nat) : ConOK tab 117 (c117 N) := ConOK.of tab_117 (cx := (mkCx (loopL N) [] [] [] [])) rfl (CxOK.make trivial trivial trivial) (fun a => by kernel_rfl)
noncomputable def ref06_Same (N : Nat) (p0 : Slots) (p1 : Slots) : Option Bool :=
 ((ref06_SameInts N) p0.uses p1.uses).bind fun b0 =>
 bif b0 then
  ((ref06_SameBools N) p0.used p1.used).bind fun b1 =>
  bif b1 then
   ((ref06_SameInts N) p0.free p1.free).bind fun b2 =>
   some b2
  else
   some false
 else
  some false
noncomputable def c83 (N : Nat) : Con := ⟨Args.cons (Arg.agg Slots_c) (Args.one (Arg.agg Slots_c)), Arg.bool, fun a => (ref06_Same N) a.1 a.2, .pure, false⟩
theorem c83_ok (N : Nat) : ConOK tab 83 (c83 N) := ConOK.of tab_83 (cx := (mkCx (loopL N) [(84, (c84 N)), (117, (c117 N))] [] [] [])) rfl (CxOK.make ⟨(c84_ok N), (c117_ok N), trivial⟩ trivial trivial) (fun a => by kernel_rfl)
noncomputable def ref07_Same_l1 (_ : Nat) (s : (Int × (List Int) × (List Bool) × (List Int) × (List (Int × Int × Int × Int × Int)) × (List Int) × (List Int) × (List Bool) × (List Int) × (List (Int × Int × Int × Int × Int)) × (List Int))) : Option (Step (Int × (List Int) × (List Bool) × (List Int) × (List (Int × Int × Int × Int × Int)) × (List Int) × (List Int) × (List Bool) × (List Int) × (List (Int × Int × Int × Int × Int)) × (List Int)) Bool) :=
 bif decide (s.1 < (Int.ofNat s.2.2.2.2.1.length)) then
  (geti s.2.2.2.2.1 s.1).bind fun a0 =>
  (geti s.2.2.2.2.2.2.2.2.2.1 s.1).bind fun a1 =>
  bif !((a0.1 == a1.1) && ((a0.2.1 == a1.2.1) && ((a0.2.2.1 == a1.2.2.1) && ((a0.2.2.2.1 == a1.2.2.2.1) && (a0.2.2.2.2 == a1.2.2.2.2))))) then
   some (.done false)
  else
   some (.next (wrapF .i64 (s.1 + 1), s.2))
 else
  some (.done true)
noncomputable def ref07_Same (N : Nat) (p0 : Agenda) (p1 : Agenda) : Option Bool :=
 ((ref06_Same N) p0.slots p1.slots).bind fun b0 =>
 bif !b0 then
  some false
 else
  ((ref06_SameInts N) p0.where_ p1.where_).bind fun b1 =>
  bif !b1 then
   some false
  else
   bif (Int.ofNat p0.heap.length) != (Int.ofNat p1.heap.length) then
    some false
   else
    (loopN N) (ref07_Same_l1 N) (0, p0.slots.uses, p0.slots.used, p0.slots.free, p0.heap, p0.where_, p1.slots.uses, p1.slots.used, p1.slots.free, p1.heap, p1.where_)
noncomputable def c56 (N : Nat) : Con := ⟨Args.cons (Arg.agg Agenda_c) (Args.one (Arg.agg Agenda_c)), Arg.bool, fun a => (ref07_Same N) a.1 a.2, .pure, false⟩
theorem c56_ok (N : Nat) : ConOK tab 56 (c56 N) := ConOK.of tab_56 (cx := (mkCx (loopL N) [(83, (c83 N)), (84, (c84 N))] [] [] [])) rfl (CxOK.make ⟨(c83_ok N), (c84_ok N), trivial⟩ trivial trivial) (fun a => by kernel_rfl)
noncomputable def ref09_Same_l1 (_ : Nat) (s : (Int × Int × Int × (List (Int × Int × Int)) × Int × (List (Int × Int × Int)) × (List Int) × (List Bool) × (List Int) × (List (Int × Int × Int × Int × Int)) × (List Int) × (List (Int × Int × Int)) × Int × Int × (List (Int × Int × Int)) × Int × (List (Int × Int × Int)) × (List Int) × (List Bool) × (List Int) × (List (Int × Int × Int × Int × Int)) × (List Int) × (List (Int × Int × Int)))) : Option (Step (Int × Int × Int × (List (Int × Int × Int)) × Int × (List (Int × Int × Int)) × (List Int) × (List Bool) × (List Int) × (List (Int × Int × Int × Int × Int)) × (List Int) × (List (Int × Int × Int)) × Int × Int × (List (Int × Int × Int)) × Int × (List (Int × Int × Int)) × (List Int) × (List Bool) × (List Int) × (List (Int × Int × Int × Int × Int)) × (List Int) × (List (Int × Int × Int))) Bool) :=
 bif decide (s.1 < (Int.ofNat s.2.2.2.2.2.2.2.2.2.2.2.1.length)) then
  (geti s.2.2.2.2.2.2.2.2.2.2.2.1 s.1).bind fun a0 =>
  (geti s.2.2.2.2.2.2.2.2.2.2.2.2.2.2.2.2.2.2.2.2.2.2 s.1).bind fun a1 =>
  bif !((a0.1 == a1.1) && ((a0.2.1 == a1.2.1) && (a0.2.2 == a1.2.2))) then
   some (.done false)
  else
   some (.next (wrapF .i64 (s.1 + 1), s.2))
 else
  some (.done true)
noncomputable def ref09_Same (N : Nat) (p0 : Clock) (p1 : Clock) : Option Bool :=
 bif !((p0.now.1 == p1.now.1) && (p0.now.2 == p1.now.2)) then
  some false
 else
  ((ref03_Same N) p0.field p1.field).bind fun b0 =>
  bif !b0 then
   some false
  else
   ((ref08_Same N) p0.certs p1.certs).bind fun b1 =>
   bif !b1 then
    some false
   else
    ((ref07_Same N) p0.agenda p1.agenda).bind fun b2 =>
    bif !b2 then
     some false
    else
     bif (Int.ofNat p0.due.length) != (Int.ofNat p1.due.length) then
      some false
     else
      (loopN N) (ref09_Same_l1 N) (0, p0.now.1, p0.now.2, p0.field.points, p0.certs.next_, p0.certs.list, p0.agenda.slots.uses, p0.agenda.slots.used, p0.agenda.slots.free, p0.agenda.heap, p0.agenda.where_, p0.due, p1.now.1, p1.now.2, p1.field.points, p1.certs.next_, p1.certs.list, p1.agenda.slots.uses, p1.agenda.slots.used, p1.agenda.slots.free, p1.agenda.heap, p1.agenda.where_, p1.due)
noncomputable def c29 (N : Nat) : Con := ⟨Args.cons (Arg.agg Clock_c) (Args.one (Arg.agg Clock_c)), Arg.bool, fun a => (ref09_Same N) a.1 a.2, .pure, false⟩
theorem c29_ok (N : Nat) : ConOK tab 29 (c29 N) := ConOK.of tab_29 (cx := (mkCx (loopL N) [(54, (c54 N)), (55, (c55 N)), (56, (c56 N))] [] [] [])) rfl (CxOK.make ⟨(c54_ok N), (c55_ok N), (c56_ok N), trivial⟩ trivial trivial) (fun a => by kernel_rfl)
noncomputable def ref17_Same (N : Nat) (p0 : Heater) (p1 : Heater) : Option Bool :=
 ((ref09_Same N) p0.clock p1.clock).bind fun b0 =>
 bif b0 then
  ((ref11_Equal N) p0.tree p1.tree).bind fun b1 =>
  some b1
 else
  some false
noncomputable def c13 (N : Nat) : Con := ⟨Args.cons (Arg.agg Heater_c) (Args.one (Arg.agg Heater_c)), Arg.bool, fun a => (ref17_Same N) a.1 a.2, .pure, false⟩
theorem c13_ok (N : Nat) : ConOK tab 13 (c13 N) := ConOK.of tab_13 (cx := (mkCx (loopL N) [(29, (c29 N)), (28, (c28 N))] [] [] [])) rfl (CxOK.make ⟨(c29_ok N), (c28_ok N), trivial⟩ trivial trivial) (fun a => by kernel_rfl)
noncomputable def law18_EeditNames_l1 (N : Nat) (s : (Int × Int × Int × Int × Int × Int × Int × Int × Int × Int × Int × Int × Int × Int × Int × (List (Int × Int × Int)) × Int × (List (Int × Int × Int)) × (List Int) × (List Bool) × (List Int) × (List (Int × Int × Int × Int × Int)) × (List Int) × (List (Int × Int × Int)) × Int × (List (Int × Int × Int)) × (List (Int × Int × Int)))) : Option (Step (Int × Int × Int × Int × Int × Int × Int × Int × Int × Int × Int × Int × Int × Int × Int × (List (Int × Int × Int)) × Int × (List (Int × Int × Int)) × (List Int) × (List Bool) × (List Int) × (List (Int × Int × Int × Int × Int)) × (List Int) × (List (Int × Int × Int)) × Int × (List (Int × Int × Int)) × (List (Int × Int × Int))) Bool) :=
 bif decide (s.2.2.2.2.2.2.2.2.2.2.2.2.1 < 64) then
  (appendO s.2.2.2.2.2.2.2.2.2.2.2.2.2.2.2.2.2.2.2.2.2.2.2.2.2.2 [(s.2.2.2.2.2.2.2.2.2.2.2.2.1, s.2.2.2.2.2.2.2.2.2.2.2.2.1, 0)]).bind fun l0 =>
  some (.next (s.1, s.2.1, s.2.2.1, s.2.2.2.1, s.2.2.2.2.1, s.2.2.2.2.2.1, s.2.2.2.2.2.2.1, s.2.2.2.2.2.2.2.1, s.2.2.2.2.2.2.2.2.1, s.2.2.2.2.2.2.2.2.2.1, s.2.2.2.2.2.2.2.2.2.2.1, s.2.2.2.2.2.2.2.2.2.2.2.1, wrapF .i64 (s.2.2.2.2.2.2.2.2.2.2.2.2.1 + 1), s.2.2.2.2.2.2.2.2.2.2.2.2.2.1, s.2.2.2.2.2.2.2.2.2.2.2.2.2.2.1, s.2.2.2.2.2.2.2.2.2.2.2.2.2.2.2.1, s.2.2.2.2.2.2.2.2.2.2.2.2.2.2.2.2.1, s.2.2.2.2.2.2.2.2.2.2.2.2.2.2.2.2.2.1, s.2.2.2.2.2.2.2.2.2.2.2.2.2.2.2.2.2.2.1, s.2.2.2.2.2.2.2.2.2.2.2.2.2.2.2.2.2.2.2.1, s.2.2.2.2.2.2.2.2.2.2.2.2.2.2.2.2.2.2.2.2.1, s.2.2.2.2.2.2.2.2.2.2.2.2.2.2.2.2.2.2.2.2.2.1, s.2.2.2.2.2.2.2.2.2.2.2.2.2.2.2.2.2.2.2.2.2.2.1, s.2.2.2.2.2.2.2.2.2.2.2.2.2.2.2.2.2.2.2.2.2.2.2.1, s.2.2.2.2.2.2.2.2.2.2.2.2.2.2.2.2.2.2.2.2.2.2.2.2.1, s.2.2.2.2.2.2.2.2.2.2.2.2.2.2.2.2.2.2.2.2.2.2.2.2.2.1, l0))
 else
  ((law18_at N) 0).bind fun a1 =>
  ((ref17_Build N) (Field.mk s.2.2.2.2.2.2.2.2.2.2.2.2.2.2.2.2.2.2.2.2.2.2.2.2.2.2) a1).bind fun a2 =>
  ((eedit_Put N) a2.1 (64, 0, 0)).bind fun a3 =>
  ((eedit_Take N) a2.1 63).bind fun a4 =>
  ((eedit_Put N) a4.1 (100, 0, 0)).bind fun a5 =>
  ((heater_Leader N) a5.1).bind fun a6 =>
  (law18_alive N).bind fun b7 =>
  bif b7 then
   bif s.2.2.2.2.2.2.2.1 == 0 then
    bif a2.2 == 0 then
     bif s.1 == 8 then
      bif s.2.1 == 8 then
       bif s.2.2.1 == 14 then
        bif s.2.2.2.1 == 6 then
         bif s.2.2.2.2.1 == 6 then
          bif s.2.2.2.2.2.1 == 6 then
           bif s.2.2.2.2.2.2.1 == 8 then
            bif s.2.2.2.2.2.2.2.2.1 == 0 then
             bif s.2.2.2.2.2.2.2.2.2.1 == 0 then
              bif s.2.2.2.2.2.2.2.2.2.2.1 == 6 then
               bif s.2.2.2.2.2.2.2.2.2.2.2.1 == 18 then
                bif a3.2 == 18 then
                 bif a4.2 == 0 then
                  bif a5.2 == 0 then
                   bif a6.2 == 0 then
                    bif a6.1 == 62 then
                     ((ref17_Same N) (Heater.mk (Clock.mk (s.2.2.2.2.2.2.2.2.2.2.2.2.2.1, s.2.2.2.2.2.2.2.2.2.2.2.2.2.2.1) (Field.mk s.2.2.2.2.2.2.2.2.2.2.2.2.2.2.2.1) (Certs.mk s.2.2.2.2.2.2.2.2.2.2.2.2.2.2.2.2.1 s.2.2.2.2.2.2.2.2.2.2.2.2.2.2.2.2.2.1) (Agenda.mk (Slots.mk s.2.2.2.2.2.2.2.2.2.2.2.2.2.2.2.2.2.2.1 s.2.2.2.2.2.2.2.2.2.2.2.2.2.2.2.2.2.2.2.1 s.2.2.2.2.2.2.2.2.2.2.2.2.2.2.2.2.2.2.2.2.1) s.2.2.2.2.2.2.2.2.2.2.2.2.2.2.2.2.2.2.2.2.2.1 s.2.2.2.2.2.2.2.2.2.2.2.2.2.2.2.2.2.2.2.2.2.2.1) s.2.2.2.2.2.2.2.2.2.2.2.2.2.2.2.2.2.2.2.2.2.2.2.1) (Tree.mk s.2.2.2.2.2.2.2.2.2.2.2.2.2.2.2.2.2.2.2.2.2.2.2.2.1 s.2.2.2.2.2.2.2.2.2.2.2.2.2.2.2.2.2.2.2.2.2.2.2.2.2.1)) (Heater.mk (Clock.mk (s.2.2.2.2.2.2.2.2.2.2.2.2.2.1, s.2.2.2.2.2.2.2.2.2.2.2.2.2.2.1) (Field.mk s.2.2.2.2.2.2.2.2.2.2.2.2.2.2.2.1) (Certs.mk s.2.2.2.2.2.2.2.2.2.2.2.2.2.2.2.2.1 s.2.2.2.2.2.2.2.2.2.2.2.2.2.2.2.2.2.1) (Agenda.mk (Slots.mk s.2.2.2.2.2.2.2.2.2.2.2.2.2.2.2.2.2.2.1 s.2.2.2.2.2.2.2.2.2.2.2.2.2.2.2.2.2.2.2.1 s.2.2.2.2.2.2.2.2.2.2.2.2.2.2.2.2.2.2.2.2.1) s.2.2.2.2.2.2.2.2.2.2.2.2.2.2.2.2.2.2.2.2.2.1 s.2.2.2.2.2.2.2.2.2.2.2.2.2.2.2.2.2.2.2.2.2.2.1) s.2.2.2.2.2.2.2.2.2.2.2.2.2.2.2.2.2.2.2.2.2.2.2.1) (Tree.mk s.2.2.2.2.2.2.2.2.2.2.2.2.2.2.2.2.2.2.2.2.2.2.2.2.1 s.2.2.2.2.2.2.2.2.2.2.2.2.2.2.2.2.2.2.2.2.2.2.2.2.2.1))).bind fun b8 =>
                     bif b8 then
                      bif (Int.ofNat s.2.2.2.2.2.2.2.2.2.2.2.2.2.2.2.2.2.1.length) == 0 then
                       some (.done (s.2.2.2.2.2.2.2.2.2.2.2.2.2.2.2.2.2.2.2.2.2.2.2.2.1 == (-1)))
                      else
                       some (.done false)
                     else
                      some (.done false)
                    else
                     some (.done false)
                   else
                    some (.done false)
                  else
                   some (.done false)
                 else
                  some (.done false)
                else
                 some (.done false)
               else
                some (.done false)
              else
               some (.done false)
             else
              some (.done false)
            else
             some (.done false)
           else
            some (.done false)
          else
           some (.done false)
         else
          some (.done false)
        else
         some (.done false)
       else
        some (.done false)
      else
       some (.done false)
     else
      some (.done false)
    else
     some (.done false)
   else
    some (.done false)
  else
   some (.done false)
noncomputable def law18_EeditNames (N : Nat)  : Option Bool :=
 (law18_given N).bind fun r0 =>
 ((eedit_Put N) (Heater.mk (Clock.mk (0, 0) (Field.mk []) (Certs.mk 0 []) (Agenda.mk (Slots.mk [] [] []) [] []) []) (Tree.mk 0 [])) (-1, 0, 0)).bind fun a1 =>
 ((eedit_Put N) r0 (-1, 0, 0)).bind fun a2 =>
 ((eedit_Put N) r0 (5, 0, 0)).bind fun a3 =>
 ((eedit_Take N) r0 6).bind fun a4 =>
 ((eedit_Take N) r0 (-1)).bind fun a5 =>
 ((eedit_Change N) r0 (6, 0, 0)).bind fun a6 =>
 ((eedit_Change N) r0 (5, 0, 1048577)).bind fun a7 =>
 ((law18_at N) 3).bind fun a8 =>
 ((ref17_Build N) (Field.mk []) a8).bind fun a9 =>
 ((eedit_Put N) a9.1 (9, 0, 0)).bind fun a10 =>
 ((eedit_Take N) a10.1 9).bind fun a11 =>
 ((eedit_Take N) a11.1 9).bind fun a12 =>
 ((ref17_Twin N) r0).bind fun r13 =>
 ((eedit_Put N) (Heater.mk (Clock.mk r13.clock.now r13.clock.field (Certs.mk 1000000 r13.clock.certs.list) r13.clock.agenda r13.clock.due) r13.tree) (7, 0, 0)).bind fun a14 =>
 (loopN N) (law18_EeditNames_l1 N) (a1.2, a2.2, a3.2, a4.2, a5.2, a6.2, a7.2, a9.2, a10.2, a11.2, a12.2, a14.2, 0, a11.1.clock.now.1, a11.1.clock.now.2, a11.1.clock.field.points, a11.1.clock.certs.next_, a11.1.clock.certs.list, a11.1.clock.agenda.slots.uses, a11.1.clock.agenda.slots.used, a11.1.clock.agenda.slots.free, a11.1.clock.agenda.heap, a11.1.clock.agenda.where_, a11.1.clock.due, a11.1.tree.root, a11.1.tree.nodes, [])
noncomputable def c3 (N : Nat) : Con := ⟨Args.nil, Arg.bool, fun _ => (law18_EeditNames N), .pure, false⟩
theorem c3_ok (N : Nat) : ConOK tab 3 (c3 N) := ConOK.of tab_3 (cx := (mkCx (loopL N) [(4, (c4 N)), (5, (c5 N)), (6, (c6 N)), (7, (c7 N)), (9, (c9 N)), (8, (c8 N)), (10, (c10 N)), (10, (c10p N)), (11, (c11 N)), (12, (c12 N)), (13, (c13 N))] [] [] [])) rfl (CxOK.make ⟨(c4_ok N), (c5_ok N), (c6_ok N), (c7_ok N), (c9_ok N), (c8_ok N), (c10_ok N), (c10p_ok N), (c11_ok N), (c12_ok N), (c13_ok N), trivial⟩ trivial trivial) (fun a => by kernel_rfl)
end Go.Proofs.YtppeldaebnfmdabGreat
