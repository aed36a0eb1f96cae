/- Plain functions for what the functions of the seat compute. Printed by a program. -/
import Derived.Test.YtppeldaebnfmdaaGreatHVm4
import Derived.Test.YtppeldaebnfmdaaGreatHAXT
import Derived.Test.YtppeldaebnfmdaaGreatHAS1
set_option maxRecDepth 100000
namespace Go.Proofs.YtppeldaebnfmdaaGreat
open Go.Vm
noncomputable def clock_Alter_l1 (N : Nat) (s : ((List (Int × Int × Int)) × Int × Int × Int × Int × (List (Int × Int × Int)) × Int × (List (Int × Int × Int)) × (List Int) × (List Bool) × (List Int) × (List (Int × Int × Int × Int × Int)) × (List Int) × (List (Int × Int × Int)) × (List (Int × Int × Int)) × Int × Int × Int × Int × Int × Int × (List (Int × Int × Int)) × (List Int) × (List Bool) × (List Int) × (List (Int × Int × Int × Int × Int)) × (List Int) × (List (Int × Int × Int)) × (List (Int × Int × Int)))) : Option (Step ((List (Int × Int × Int)) × Int × Int × Int × Int × (List (Int × Int × Int)) × Int × (List (Int × Int × Int)) × (List Int) × (List Bool) × (List Int) × (List (Int × Int × Int × Int × Int)) × (List Int) × (List (Int × Int × Int)) × (List (Int × Int × Int)) × Int × Int × Int × Int × Int × Int × (List (Int × Int × Int)) × (List Int) × (List Bool) × (List Int) × (List (Int × Int × Int × Int × Int)) × (List Int) × (List (Int × Int × Int)) × (List (Int × Int × Int))) (Step ((List (Int × Int × Int)) × Int × Int × Int × Int × (List (Int × Int × Int)) × Int × (List (Int × Int × Int)) × (List Int) × (List Bool) × (List Int) × (List (Int × Int × Int × Int × Int)) × (List Int) × (List (Int × Int × Int)) × (List (Int × Int × Int)) × Int × Int × Int) (Clock × Int))) :=
 bif decide (s.2.2.1 < s.2.1) then
  (geti s.1 s.2.2.1).bind fun a0 =>
  ((clock_when N) (Field.mk s.2.2.2.2.2.2.2.2.2.2.2.2.2.2.1) a0.2 (s.2.2.2.1, s.2.2.2.2.1)).bind fun a1 =>
  ((clock_place N) s.2.2.2.2.2.2.2.2.2.2.2.2.2.1 a0.1).bind fun a2 =>
  bif a1.2.1 then
   bif a2.2 then
    (geti s.2.2.2.2.2.2.2.2.2.2.2.2.2.1 a2.1).bind fun a3 =>
    ((agenda_Rekey N) (Agenda.mk (Slots.mk s.2.2.2.2.2.2.2.2.2.2.2.2.2.2.2.2.2.2.2.2.2.2.1 s.2.2.2.2.2.2.2.2.2.2.2.2.2.2.2.2.2.2.2.2.2.2.2.1 s.2.2.2.2.2.2.2.2.2.2.2.2.2.2.2.2.2.2.2.2.2.2.2.2.1) s.2.2.2.2.2.2.2.2.2.2.2.2.2.2.2.2.2.2.2.2.2.2.2.2.2.1 s.2.2.2.2.2.2.2.2.2.2.2.2.2.2.2.2.2.2.2.2.2.2.2.2.2.2.1) a3.2 a1.1).bind fun a4 =>
    (geti s.2.2.2.2.2.2.2.2.2.2.2.2.2.1 a2.1).bind fun a5 =>
    (appendO s.2.2.2.2.2.2.2.2.2.2.2.2.2.2.2.2.2.2.2.2.2.2.2.2.2.2.2.2 [a5]).bind fun l6 =>
    bif a4.2 != 0 then
     some (.done (.done (Clock.mk (0, 0) (Field.mk []) (Certs.mk 0 []) (Agenda.mk (Slots.mk [] [] []) [] []) [], a4.2)))
    else
     some (.next (s.1, s.2.1, wrapF .i64 (s.2.2.1 + 1), s.2.2.2.1, s.2.2.2.2.1, s.2.2.2.2.2.1, s.2.2.2.2.2.2.1, s.2.2.2.2.2.2.2.1, s.2.2.2.2.2.2.2.2.1, s.2.2.2.2.2.2.2.2.2.1, s.2.2.2.2.2.2.2.2.2.2.1, s.2.2.2.2.2.2.2.2.2.2.2.1, s.2.2.2.2.2.2.2.2.2.2.2.2.1, s.2.2.2.2.2.2.2.2.2.2.2.2.2.1, s.2.2.2.2.2.2.2.2.2.2.2.2.2.2.1, s.2.2.2.2.2.2.2.2.2.2.2.2.2.2.2.1, s.2.2.2.2.2.2.2.2.2.2.2.2.2.2.2.2.1, s.2.2.2.2.2.2.2.2.2.2.2.2.2.2.2.2.2.1, s.2.2.2.2.2.2.2.2.2.2.2.2.2.2.2.2.2.2.1, s.2.2.2.2.2.2.2.2.2.2.2.2.2.2.2.2.2.2.2.1, s.2.2.2.2.2.2.2.2.2.2.2.2.2.2.2.2.2.2.2.2.1, s.2.2.2.2.2.2.2.2.2.2.2.2.2.2.2.2.2.2.2.2.2.1, a4.1.slots.uses, a4.1.slots.used, a4.1.slots.free, a4.1.heap, a4.1.where_, s.2.2.2.2.2.2.2.2.2.2.2.2.2.2.2.2.2.2.2.2.2.2.2.2.2.2.2.1, l6))
   else
    bif a1.2.1 then
     ((agenda_Push N) (Agenda.mk (Slots.mk s.2.2.2.2.2.2.2.2.2.2.2.2.2.2.2.2.2.2.2.2.2.2.1 s.2.2.2.2.2.2.2.2.2.2.2.2.2.2.2.2.2.2.2.2.2.2.2.1 s.2.2.2.2.2.2.2.2.2.2.2.2.2.2.2.2.2.2.2.2.2.2.2.2.1) s.2.2.2.2.2.2.2.2.2.2.2.2.2.2.2.2.2.2.2.2.2.2.2.2.2.1 s.2.2.2.2.2.2.2.2.2.2.2.2.2.2.2.2.2.2.2.2.2.2.2.2.2.2.1) a1.1 a0.1).bind fun a7 =>
     (appendO s.2.2.2.2.2.2.2.2.2.2.2.2.2.2.2.2.2.2.2.2.2.2.2.2.2.2.2.2 [(a0.1, a7.2.1)]).bind fun l8 =>
     bif a7.2.2 != 0 then
      some (.done (.done (Clock.mk (0, 0) (Field.mk []) (Certs.mk 0 []) (Agenda.mk (Slots.mk [] [] []) [] []) [], a7.2.2)))
     else
      some (.next (s.1, s.2.1, wrapF .i64 (s.2.2.1 + 1), s.2.2.2.1, s.2.2.2.2.1, s.2.2.2.2.2.1, s.2.2.2.2.2.2.1, s.2.2.2.2.2.2.2.1, s.2.2.2.2.2.2.2.2.1, s.2.2.2.2.2.2.2.2.2.1, s.2.2.2.2.2.2.2.2.2.2.1, s.2.2.2.2.2.2.2.2.2.2.2.1, s.2.2.2.2.2.2.2.2.2.2.2.2.1, s.2.2.2.2.2.2.2.2.2.2.2.2.2.1, s.2.2.2.2.2.2.2.2.2.2.2.2.2.2.1, s.2.2.2.2.2.2.2.2.2.2.2.2.2.2.2.1, s.2.2.2.2.2.2.2.2.2.2.2.2.2.2.2.2.1, s.2.2.2.2.2.2.2.2.2.2.2.2.2.2.2.2.2.1, s.2.2.2.2.2.2.2.2.2.2.2.2.2.2.2.2.2.2.1, s.2.2.2.2.2.2.2.2.2.2.2.2.2.2.2.2.2.2.2.1, s.2.2.2.2.2.2.2.2.2.2.2.2.2.2.2.2.2.2.2.2.1, s.2.2.2.2.2.2.2.2.2.2.2.2.2.2.2.2.2.2.2.2.2.1, a7.1.slots.uses, a7.1.slots.used, a7.1.slots.free, a7.1.heap, a7.1.where_, s.2.2.2.2.2.2.2.2.2.2.2.2.2.2.2.2.2.2.2.2.2.2.2.2.2.2.2.1, l8))
    else
     bif a2.2 then
      (geti s.2.2.2.2.2.2.2.2.2.2.2.2.2.1 a2.1).bind fun a9 =>
      ((agenda_Remove N) (Agenda.mk (Slots.mk s.2.2.2.2.2.2.2.2.2.2.2.2.2.2.2.2.2.2.2.2.2.2.1 s.2.2.2.2.2.2.2.2.2.2.2.2.2.2.2.2.2.2.2.2.2.2.2.1 s.2.2.2.2.2.2.2.2.2.2.2.2.2.2.2.2.2.2.2.2.2.2.2.2.1) s.2.2.2.2.2.2.2.2.2.2.2.2.2.2.2.2.2.2.2.2.2.2.2.2.2.1 s.2.2.2.2.2.2.2.2.2.2.2.2.2.2.2.2.2.2.2.2.2.2.2.2.2.2.1) a9.2).bind fun a10 =>
      bif a10.2.2 != 0 then
       some (.done (.done (Clock.mk (0, 0) (Field.mk []) (Certs.mk 0 []) (Agenda.mk (Slots.mk [] [] []) [] []) [], a10.2.2)))
      else
       some (.next (s.1, s.2.1, wrapF .i64 (s.2.2.1 + 1), s.2.2.2.1, s.2.2.2.2.1, s.2.2.2.2.2.1, s.2.2.2.2.2.2.1, s.2.2.2.2.2.2.2.1, s.2.2.2.2.2.2.2.2.1, s.2.2.2.2.2.2.2.2.2.1, s.2.2.2.2.2.2.2.2.2.2.1, s.2.2.2.2.2.2.2.2.2.2.2.1, s.2.2.2.2.2.2.2.2.2.2.2.2.1, s.2.2.2.2.2.2.2.2.2.2.2.2.2.1, s.2.2.2.2.2.2.2.2.2.2.2.2.2.2.1, s.2.2.2.2.2.2.2.2.2.2.2.2.2.2.2.1, s.2.2.2.2.2.2.2.2.2.2.2.2.2.2.2.2.1, s.2.2.2.2.2.2.2.2.2.2.2.2.2.2.2.2.2.1, s.2.2.2.2.2.2.2.2.2.2.2.2.2.2.2.2.2.2.1, s.2.2.2.2.2.2.2.2.2.2.2.2.2.2.2.2.2.2.2.1, s.2.2.2.2.2.2.2.2.2.2.2.2.2.2.2.2.2.2.2.2.1, s.2.2.2.2.2.2.2.2.2.2.2.2.2.2.2.2.2.2.2.2.2.1, a10.1.slots.uses, a10.1.slots.used, a10.1.slots.free, a10.1.heap, a10.1.where_, s.2.2.2.2.2.2.2.2.2.2.2.2.2.2.2.2.2.2.2.2.2.2.2.2.2.2.2))
     else
      bif a1.2.2 != 0 then
       some (.done (.done (Clock.mk (0, 0) (Field.mk []) (Certs.mk 0 []) (Agenda.mk (Slots.mk [] [] []) [] []) [], a1.2.2)))
      else
       some (.next (s.1, s.2.1, wrapF .i64 (s.2.2.1 + 1), s.2.2.2))
  else
   bif a1.2.1 then
    ((agenda_Push N) (Agenda.mk (Slots.mk s.2.2.2.2.2.2.2.2.2.2.2.2.2.2.2.2.2.2.2.2.2.2.1 s.2.2.2.2.2.2.2.2.2.2.2.2.2.2.2.2.2.2.2.2.2.2.2.1 s.2.2.2.2.2.2.2.2.2.2.2.2.2.2.2.2.2.2.2.2.2.2.2.2.1) s.2.2.2.2.2.2.2.2.2.2.2.2.2.2.2.2.2.2.2.2.2.2.2.2.2.1 s.2.2.2.2.2.2.2.2.2.2.2.2.2.2.2.2.2.2.2.2.2.2.2.2.2.2.1) a1.1 a0.1).bind fun a11 =>
    (appendO s.2.2.2.2.2.2.2.2.2.2.2.2.2.2.2.2.2.2.2.2.2.2.2.2.2.2.2.2 [(a0.1, a11.2.1)]).bind fun l12 =>
    bif a11.2.2 != 0 then
     some (.done (.done (Clock.mk (0, 0) (Field.mk []) (Certs.mk 0 []) (Agenda.mk (Slots.mk [] [] []) [] []) [], a11.2.2)))
    else
     some (.next (s.1, s.2.1, wrapF .i64 (s.2.2.1 + 1), s.2.2.2.1, s.2.2.2.2.1, s.2.2.2.2.2.1, s.2.2.2.2.2.2.1, s.2.2.2.2.2.2.2.1, s.2.2.2.2.2.2.2.2.1, s.2.2.2.2.2.2.2.2.2.1, s.2.2.2.2.2.2.2.2.2.2.1, s.2.2.2.2.2.2.2.2.2.2.2.1, s.2.2.2.2.2.2.2.2.2.2.2.2.1, s.2.2.2.2.2.2.2.2.2.2.2.2.2.1, s.2.2.2.2.2.2.2.2.2.2.2.2.2.2.1, s.2.2.2.2.2.2.2.2.2.2.2.2.2.2.2.1, s.2.2.2.2.2.2.2.2.2.2.2.2.2.2.2.2.1, s.2.2.2.2.2.2.2.2.2.2.2.2.2.2.2.2.2.1, s.2.2.2.2.2.2.2.2.2.2.2.2.2.2.2.2.2.2.1, s.2.2.2.2.2.2.2.2.2.2.2.2.2.2.2.2.2.2.2.1, s.2.2.2.2.2.2.2.2.2.2.2.2.2.2.2.2.2.2.2.2.1, s.2.2.2.2.2.2.2.2.2.2.2.2.2.2.2.2.2.2.2.2.2.1, a11.1.slots.uses, a11.1.slots.used, a11.1.slots.free, a11.1.heap, a11.1.where_, s.2.2.2.2.2.2.2.2.2.2.2.2.2.2.2.2.2.2.2.2.2.2.2.2.2.2.2.1, l12))
   else
    bif a2.2 then
     (geti s.2.2.2.2.2.2.2.2.2.2.2.2.2.1 a2.1).bind fun a13 =>
     ((agenda_Remove N) (Agenda.mk (Slots.mk s.2.2.2.2.2.2.2.2.2.2.2.2.2.2.2.2.2.2.2.2.2.2.1 s.2.2.2.2.2.2.2.2.2.2.2.2.2.2.2.2.2.2.2.2.2.2.2.1 s.2.2.2.2.2.2.2.2.2.2.2.2.2.2.2.2.2.2.2.2.2.2.2.2.1) s.2.2.2.2.2.2.2.2.2.2.2.2.2.2.2.2.2.2.2.2.2.2.2.2.2.1 s.2.2.2.2.2.2.2.2.2.2.2.2.2.2.2.2.2.2.2.2.2.2.2.2.2.2.1) a13.2).bind fun a14 =>
     bif a14.2.2 != 0 then
      some (.done (.done (Clock.mk (0, 0) (Field.mk []) (Certs.mk 0 []) (Agenda.mk (Slots.mk [] [] []) [] []) [], a14.2.2)))
     else
      some (.next (s.1, s.2.1, wrapF .i64 (s.2.2.1 + 1), s.2.2.2.1, s.2.2.2.2.1, s.2.2.2.2.2.1, s.2.2.2.2.2.2.1, s.2.2.2.2.2.2.2.1, s.2.2.2.2.2.2.2.2.1, s.2.2.2.2.2.2.2.2.2.1, s.2.2.2.2.2.2.2.2.2.2.1, s.2.2.2.2.2.2.2.2.2.2.2.1, s.2.2.2.2.2.2.2.2.2.2.2.2.1, s.2.2.2.2.2.2.2.2.2.2.2.2.2.1, s.2.2.2.2.2.2.2.2.2.2.2.2.2.2.1, s.2.2.2.2.2.2.2.2.2.2.2.2.2.2.2.1, s.2.2.2.2.2.2.2.2.2.2.2.2.2.2.2.2.1, s.2.2.2.2.2.2.2.2.2.2.2.2.2.2.2.2.2.1, s.2.2.2.2.2.2.2.2.2.2.2.2.2.2.2.2.2.2.1, s.2.2.2.2.2.2.2.2.2.2.2.2.2.2.2.2.2.2.2.1, s.2.2.2.2.2.2.2.2.2.2.2.2.2.2.2.2.2.2.2.2.1, s.2.2.2.2.2.2.2.2.2.2.2.2.2.2.2.2.2.2.2.2.2.1, a14.1.slots.uses, a14.1.slots.used, a14.1.slots.free, a14.1.heap, a14.1.where_, s.2.2.2.2.2.2.2.2.2.2.2.2.2.2.2.2.2.2.2.2.2.2.2.2.2.2.2))
    else
     bif a1.2.2 != 0 then
      some (.done (.done (Clock.mk (0, 0) (Field.mk []) (Certs.mk 0 []) (Agenda.mk (Slots.mk [] [] []) [] []) [], a1.2.2)))
     else
      some (.next (s.1, s.2.1, wrapF .i64 (s.2.2.1 + 1), s.2.2.2))
 else
  some (.done (.done (Clock.mk (s.2.2.2.2.2.2.2.2.2.2.2.2.2.2.2.2.2.2.1, s.2.2.2.2.2.2.2.2.2.2.2.2.2.2.2.2.2.2.2.1) (Field.mk s.2.2.2.2.2.2.2.2.2.2.2.2.2.2.2.2.2.2.2.2.2.2.2.2.2.2.2.1) (Certs.mk s.2.2.2.2.2.2.2.2.2.2.2.2.2.2.2.2.2.2.2.2.1 s.2.2.2.2.2.2.2.2.2.2.2.2.2.2.2.2.2.2.2.2.2.1) (Agenda.mk (Slots.mk s.2.2.2.2.2.2.2.2.2.2.2.2.2.2.2.2.2.2.2.2.2.2.1 s.2.2.2.2.2.2.2.2.2.2.2.2.2.2.2.2.2.2.2.2.2.2.2.1 s.2.2.2.2.2.2.2.2.2.2.2.2.2.2.2.2.2.2.2.2.2.2.2.2.1) s.2.2.2.2.2.2.2.2.2.2.2.2.2.2.2.2.2.2.2.2.2.2.2.2.2.1 s.2.2.2.2.2.2.2.2.2.2.2.2.2.2.2.2.2.2.2.2.2.2.2.2.2.2.1) s.2.2.2.2.2.2.2.2.2.2.2.2.2.2.2.2.2.2.2.2.2.2.2.2.2.2.2.2, 0)))
noncomputable def clock_Alter_l2 (N : Nat) (s : ((List (Int × Int × Int)) × Int × Int × Int × Int × (List (Int × Int × Int)) × Int × (List (Int × Int × Int)) × (List Int) × (List Bool) × (List Int) × (List (Int × Int × Int × Int × Int)) × (List Int) × (List (Int × Int × Int)) × (List (Int × Int × Int)) × Int × Int × Int)) : Option (Step ((List (Int × Int × Int)) × Int × Int × Int × Int × (List (Int × Int × Int)) × Int × (List (Int × Int × Int)) × (List Int) × (List Bool) × (List Int) × (List (Int × Int × Int × Int × Int)) × (List Int) × (List (Int × Int × Int)) × (List (Int × Int × Int)) × Int × Int × Int) (Clock × Int)) :=
 bif decide (s.2.2.1 < s.2.1) then
  (geti s.1 s.2.2.1).bind fun a0 =>
  ((clock_point N) (Field.mk s.2.2.2.2.2.2.2.2.2.2.2.2.2.2.1) a0.2.1).bind fun a1 =>
  bif decide (a1.1 < 0) then
   some (.done (Clock.mk (0, 0) (Field.mk []) (Certs.mk 0 []) (Agenda.mk (Slots.mk [] [] []) [] []) [], 6))
  else
   ((clock_point N) (Field.mk s.2.2.2.2.2.2.2.2.2.2.2.2.2.2.1) a0.2.2).bind fun a2 =>
   bif decide (a2.1 < 0) then
    some (.done (Clock.mk (0, 0) (Field.mk []) (Certs.mk 0 []) (Agenda.mk (Slots.mk [] [] []) [] []) [], 6))
   else
    some (.next (s.1, s.2.1, wrapF .i64 (s.2.2.1 + 1), s.2.2.2))
 else
  ((clock_twin N) (Clock.mk (s.2.2.2.1, s.2.2.2.2.1) (Field.mk s.2.2.2.2.2.1) (Certs.mk s.2.2.2.2.2.2.1 s.2.2.2.2.2.2.2.1) (Agenda.mk (Slots.mk s.2.2.2.2.2.2.2.2.1 s.2.2.2.2.2.2.2.2.2.1 s.2.2.2.2.2.2.2.2.2.2.1) s.2.2.2.2.2.2.2.2.2.2.2.1 s.2.2.2.2.2.2.2.2.2.2.2.2.1) s.2.2.2.2.2.2.2.2.2.2.2.2.2.1)).bind fun r3 =>
  (cloneO s.2.2.2.2.2.2.2.2.2.2.2.2.2.2.1).bind fun l4 =>
  (loopN N) (clock_Alter_l1 N) (s.2.2.2.2.2.2.2.1, Int.ofNat s.2.2.2.2.2.2.2.1.length, 0, s.2.2.2.1, s.2.2.2.2.1, s.2.2.2.2.2.1, s.2.2.2.2.2.2.1, s.2.2.2.2.2.2.2.1, s.2.2.2.2.2.2.2.2.1, s.2.2.2.2.2.2.2.2.2.1, s.2.2.2.2.2.2.2.2.2.2.1, s.2.2.2.2.2.2.2.2.2.2.2.1, s.2.2.2.2.2.2.2.2.2.2.2.2.1, s.2.2.2.2.2.2.2.2.2.2.2.2.2.1, s.2.2.2.2.2.2.2.2.2.2.2.2.2.2.1, s.2.2.2.2.2.2.2.2.2.2.2.2.2.2.2.1, s.2.2.2.2.2.2.2.2.2.2.2.2.2.2.2.2.1, s.2.2.2.2.2.2.2.2.2.2.2.2.2.2.2.2.2, r3.now.1, r3.now.2, r3.certs.next_, r3.certs.list, r3.agenda.slots.uses, r3.agenda.slots.used, r3.agenda.slots.free, r3.agenda.heap, r3.agenda.where_, l4, [])
noncomputable def clock_Alter (N : Nat) (p0 : Clock) (p1 : Field) : Option (Clock × Int) :=
 ((clock_Check N) p0).bind fun n0 =>
 bif n0 != 0 then
  some (Clock.mk (0, 0) (Field.mk []) (Certs.mk 0 []) (Agenda.mk (Slots.mk [] [] []) [] []) [], n0)
 else
  ((field_Check N) p1).bind fun n1 =>
  bif n1 != 0 then
   some (Clock.mk (0, 0) (Field.mk []) (Certs.mk 0 []) (Agenda.mk (Slots.mk [] [] []) [] []) [], n1)
  else
   (loopN N) (clock_Alter_l2 N) (p0.certs.list, Int.ofNat p0.certs.list.length, 0, p0.now.1, p0.now.2, p0.field.points, p0.certs.next_, p0.certs.list, p0.agenda.slots.uses, p0.agenda.slots.used, p0.agenda.slots.free, p0.agenda.heap, p0.agenda.where_, p0.due, p1.points, 0, 0, 0)
noncomputable def c127 (N : Nat) : Con := ⟨Args.cons (Arg.agg Clock_c) (Args.one (Arg.agg Field_c)), Arg.tup (Args.cons (Arg.agg Clock_c) (Args.one (Arg.int .i64))), fun a => (clock_Alter N) a.1 a.2, .frz, false⟩
theorem c127_ok (N : Nat) : ConOK tab 127 (c127 N) := ConOK.of tab_127 (cx := (mkCx (loopL N) [(30, (c30 N)), (61, (c61 N)), (102, (c102 N)), (60, (c60 N)), (60, (c60p N)), (69, Con.clone kiii), (64, (c64 N)), (86, (c86 N)), (157, (c157 N)), (158, (c158 N)), (87, (c87 N))] [] [] [])) rfl (CxOK.make ⟨(c30_ok N), (c61_ok N), (c102_ok N), (c60_ok N), (c60p_ok N), prim_69, (c64_ok N), (c86_ok N), (c157_ok N), (c158_ok N), (c87_ok N), trivial⟩ trivial trivial) (fun a => by kernel_rfl)
noncomputable def kheap_renew_1 (N : Nat) (p0 : Int × Int × Int) (p1 : Int × Int) : Option Bool :=
 some ((p0.2.1 == p1.1) && (p0.2.2 == p1.2))
noncomputable def c128 (N : Nat) : Con := ⟨Args.cons (Arg.agg (Cod.row kiii)) (Args.one (Arg.ref (Cod.row kii))), Arg.bool, fun a => (kheap_renew_1 N) a.1 a.2, .pure, false⟩
theorem c128_ok (N : Nat) : ConOK tab 128 (c128 N) := ConOK.of tab_128 (cx := (mkCx (loopL N) [] [] [] [])) rfl (CxOK.make trivial trivial trivial) (fun a => by kernel_rfl)
noncomputable def slices_IndexFunc_104__kheap_renew_1_l1 (N : Nat) (s : ((List (Int × Int × Int)) × Int × Int × Int × Int)) : Option (Step ((List (Int × Int × Int)) × Int × Int × Int × Int) Int) :=
 bif decide (s.2.2.2.2 < s.2.2.2.1) then
  (geti s.1 s.2.2.2.2).bind fun a0 =>
  ((kheap_renew_1 N) a0 (s.2.1, s.2.2.1)).bind fun b1 =>
  bif b1 then
   some (.done s.2.2.2.2)
  else
   some (.next (s.1, s.2.1, s.2.2.1, s.2.2.2.1, wrapF .i64 (s.2.2.2.2 + 1)))
 else
  some (.done (-1))
noncomputable def slices_IndexFunc_104__kheap_renew_1 (N : Nat) (p0 : List (Int × Int × Int)) (p1 : (Int × Int)) : Option Int :=
 (loopN N) (slices_IndexFunc_104__kheap_renew_1_l1 N) (p0, p1.1, p1.2, Int.ofNat p0.length, 0)
noncomputable def c104_128 (N : Nat) : Con := ⟨Args.cons (Arg.sl kiii) (Args.one (Arg.clo 128 (Args.one (Arg.ref (Cod.row kii))))), Arg.int .i64, fun a => (slices_IndexFunc_104__kheap_renew_1 N) a.1 a.2, .pure, false⟩
theorem c104_128_ok (N : Nat) : ConOK tab 104 (c104_128 N) := ConOK.of tab_104 (cx := (mkCx (loopL N) [(128, (c128 N))] [] [] [])) rfl (CxOK.make ⟨(c128_ok N), trivial⟩ trivial trivial) (fun a => by kernel_rfl)
noncomputable def slices_ContainsFunc_67__kheap_renew_1 (N : Nat) (p0 : List (Int × Int × Int)) (p1 : (Int × Int)) : Option Bool :=
 ((slices_IndexFunc_104__kheap_renew_1 N) p0 p1).bind fun n0 =>
 some (decide (0 ≤ n0))
noncomputable def c67_128 (N : Nat) : Con := ⟨Args.cons (Arg.sl kiii) (Args.one (Arg.clo 128 (Args.one (Arg.ref (Cod.row kii))))), Arg.bool, fun a => (slices_ContainsFunc_67__kheap_renew_1 N) a.1 a.2, .pure, false⟩
theorem c67_128_ok (N : Nat) : ConOK tab 67 (c67_128 N) := ConOK.of tab_67 (cx := (mkCx (loopL N) [(104, (c104_128 N))] [] [] [])) rfl (CxOK.make ⟨(c104_128_ok N), trivial⟩ trivial trivial) (fun a => by kernel_rfl)
noncomputable def clock_Certify_1 (N : Nat) (p0 : Int) : Option (Clock × Int × Int) :=
 some (Clock.mk (0, 0) (Field.mk []) (Certs.mk 0 []) (Agenda.mk (Slots.mk [] [] []) [] []) [], 0, p0)
noncomputable def c159 (N : Nat) : Con := ⟨Args.one (Arg.int .i64), Arg.tup (Args.cons (Arg.agg Clock_c) (Args.cons (Arg.int .i64) (Args.one (Arg.int .i64)))), fun a => (clock_Certify_1 N) a, .frz, false⟩
theorem c159_ok (N : Nat) : ConOK tab 159 (c159 N) := ConOK.of tab_159 (cx := (mkCx (loopL N) [] [] [] [])) rfl (CxOK.make trivial trivial trivial) (fun a => by kernel_rfl)
noncomputable def cert_Add_1 (N : Nat) (p0 : Int × Int × Int) (p1 : Int × Int) : Option Bool :=
 some ((p0.2.1 == p1.1) && (p0.2.2 == p1.2))
noncomputable def c176 (N : Nat) : Con := ⟨Args.cons (Arg.agg (Cod.row kiii)) (Args.one (Arg.ref (Cod.row kii))), Arg.bool, fun a => (cert_Add_1 N) a.1 a.2, .pure, false⟩
theorem c176_ok (N : Nat) : ConOK tab 176 (c176 N) := ConOK.of tab_176 (cx := (mkCx (loopL N) [] [] [] [])) rfl (CxOK.make trivial trivial trivial) (fun a => by kernel_rfl)
noncomputable def slices_IndexFunc_104__cert_Add_1_l1 (N : Nat) (s : ((List (Int × Int × Int)) × Int × Int × Int × Int)) : Option (Step ((List (Int × Int × Int)) × Int × Int × Int × Int) Int) :=
 bif decide (s.2.2.2.2 < s.2.2.2.1) then
  (geti s.1 s.2.2.2.2).bind fun a0 =>
  ((cert_Add_1 N) a0 (s.2.1, s.2.2.1)).bind fun b1 =>
  bif b1 then
   some (.done s.2.2.2.2)
  else
   some (.next (s.1, s.2.1, s.2.2.1, s.2.2.2.1, wrapF .i64 (s.2.2.2.2 + 1)))
 else
  some (.done (-1))
noncomputable def slices_IndexFunc_104__cert_Add_1 (N : Nat) (p0 : List (Int × Int × Int)) (p1 : (Int × Int)) : Option Int :=
 (loopN N) (slices_IndexFunc_104__cert_Add_1_l1 N) (p0, p1.1, p1.2, Int.ofNat p0.length, 0)
noncomputable def c104_176 (N : Nat) : Con := ⟨Args.cons (Arg.sl kiii) (Args.one (Arg.clo 176 (Args.one (Arg.ref (Cod.row kii))))), Arg.int .i64, fun a => (slices_IndexFunc_104__cert_Add_1 N) a.1 a.2, .pure, false⟩
theorem c104_176_ok (N : Nat) : ConOK tab 104 (c104_176 N) := ConOK.of tab_104 (cx := (mkCx (loopL N) [(176, (c176 N))] [] [] [])) rfl (CxOK.make ⟨(c176_ok N), trivial⟩ trivial trivial) (fun a => by kernel_rfl)
noncomputable def slices_ContainsFunc_67__cert_Add_1 (N : Nat) (p0 : List (Int × Int × Int)) (p1 : (Int × Int)) : Option Bool :=
 ((slices_IndexFunc_104__cert_Add_1 N) p0 p1).bind fun n0 =>
 some (decide (0 ≤ n0))
noncomputable def c67_176 (N : Nat) : Con := ⟨Args.cons (Arg.sl kiii) (Args.one (Arg.clo 176 (Args.one (Arg.ref (Cod.row kii))))), Arg.bool, fun a => (slices_ContainsFunc_67__cert_Add_1 N) a.1 a.2, .pure, false⟩
theorem c67_176_ok (N : Nat) : ConOK tab 67 (c67_176 N) := ConOK.of tab_67 (cx := (mkCx (loopL N) [(104, (c104_176 N))] [] [] [])) rfl (CxOK.make ⟨(c104_176_ok N), trivial⟩ trivial trivial) (fun a => by kernel_rfl)
noncomputable def cert_Add (N : Nat) (p0 : Certs) (p1 : Int × Int) : Option (Certs × Int × Int) :=
 ((cert_Check N) p0).bind fun n0 =>
 bif n0 != 0 then
  some (Certs.mk 0 [], 0, n0)
 else
  ((cert_valid N) p1).bind fun b1 =>
  bif !b1 then
   some (Certs.mk 0 [], 0, 8)
  else
   ((slices_ContainsFunc_67__cert_Add_1 N) p0.list p1).bind fun b2 =>
   bif b2 then
    some (Certs.mk 0 [], 0, 14)
   else
    bif (Int.ofNat p0.list.length) == 200 then
     some (Certs.mk 0 [], 0, 18)
    else
     bif p0.next_ == 1000000 then
      some (Certs.mk 0 [], 0, 18)
     else
      (cloneO p0.list).bind fun l3 =>
      (appendO l3 [(p0.next_, p1)]).bind fun l4 =>
      some (Certs.mk (wrapF .i64 (p0.next_ + 1)) l4, p0.next_, 0)
noncomputable def c160 (N : Nat) : Con := ⟨Args.cons (Arg.agg Certs_c) (Args.one (Arg.agg (Cod.row kii))), Arg.tup (Args.cons (Arg.agg Certs_c) (Args.cons (Arg.int .i64) (Args.one (Arg.int .i64)))), fun a => (cert_Add N) a.1 a.2, .frz, false⟩
theorem c160_ok (N : Nat) : ConOK tab 160 (c160 N) := ConOK.of tab_160 (cx := (mkCx (loopL N) [(62, (c62 N)), (98, (c98 N)), (67, (c67_176 N)), (92, Con.clone kiii)] [] [] [])) rfl (CxOK.make ⟨(c62_ok N), (c98_ok N), (c67_176_ok N), prim_92, trivial⟩ trivial trivial) (fun a => by kernel_rfl)
noncomputable def clock_Certify (N : Nat) (p0 : Clock) (p1 : Int × Int) : Option (Clock × Int × Int) :=
 ((clock_Check N) p0).bind fun n0 =>
 bif n0 != 0 then
  ((clock_Certify_1 N) n0).bind fun a1 =>
  some a1
 else
  ((cert_Add N) p0.certs p1).bind fun a2 =>
  bif a2.2.2 == 8 then
   ((clock_Certify_1 N) a2.2.2).bind fun a3 =>
   some a3
  else
   ((clock_point N) p0.field p1.1).bind fun a4 =>
   bif decide (a4.1 < 0) then
    ((clock_Certify_1 N) 6).bind fun a5 =>
    some a5
   else
    ((clock_point N) p0.field p1.2).bind fun a6 =>
    bif decide (a6.1 < 0) then
     ((clock_Certify_1 N) 6).bind fun a7 =>
     some a7
    else
     bif a2.2.2 != 0 then
      ((clock_Certify_1 N) a2.2.2).bind fun a8 =>
      some a8
     else
      ((clock_twin N) p0).bind fun r9 =>
      ((clock_when N) p0.field p1 p0.now).bind fun a10 =>
      bif a10.2.2 != 0 then
       ((clock_Certify_1 N) a10.2.2).bind fun a11 =>
       some a11
      else
       bif a10.2.1 then
        ((agenda_Push N) p0.agenda a10.1 a2.2.1).bind fun a12 =>
        bif a12.2.2 != 0 then
         ((clock_Certify_1 N) a12.2.2).bind fun a13 =>
         some a13
        else
         (appendO r9.due [(a2.2.1, a12.2.1)]).bind fun l14 =>
         some (Clock.mk r9.now r9.field a2.1 a12.1 l14, a2.2.1, 0)
       else
        some (Clock.mk r9.now r9.field a2.1 r9.agenda r9.due, a2.2.1, 0)
noncomputable def c129 (N : Nat) : Con := ⟨Args.cons (Arg.agg Clock_c) (Args.one (Arg.agg (Cod.row kii))), Arg.tup (Args.cons (Arg.agg Clock_c) (Args.cons (Arg.int .i64) (Args.one (Arg.int .i64)))), fun a => (clock_Certify N) a.1 a.2, .frz, false⟩
theorem c129_ok (N : Nat) : ConOK tab 129 (c129 N) := ConOK.of tab_129 (cx := (mkCx (loopL N) [(30, (c30 N)), (159, (c159 N)), (160, (c160 N)), (102, (c102 N)), (60, (c60 N)), (60, (c60p N)), (64, (c64 N)), (158, (c158 N))] [] [] [])) rfl (CxOK.make ⟨(c30_ok N), (c159_ok N), (c160_ok N), (c102_ok N), (c60_ok N), (c60p_ok N), (c64_ok N), (c158_ok N), trivial⟩ trivial trivial) (fun a => by kernel_rfl)
noncomputable def kheap_renew_l1 (N : Nat) (s : ((List (Int × Int)) × Int × Int × Int × Int × (List (Int × Int × Int)) × Int × (List (Int × Int × Int)) × (List Int) × (List Bool) × (List Int) × (List (Int × Int × Int × Int × Int)) × (List Int) × (List (Int × Int × Int)) × Int × Int × Int)) : Option (Step ((List (Int × Int)) × Int × Int × Int × Int × (List (Int × Int × Int)) × Int × (List (Int × Int × Int)) × (List Int) × (List Bool) × (List Int) × (List (Int × Int × Int × Int × Int)) × (List Int) × (List (Int × Int × Int)) × Int × Int × Int) (Step ((List (Int × Int)) × (List (Int × Int × Int)) × Int × Int × Int × Int × (List (Int × Int × Int)) × Int × (List (Int × Int × Int)) × (List Int) × (List Bool) × (List Int) × (List (Int × Int × Int × Int × Int)) × (List Int) × (List (Int × Int × Int)) × (List (Int × Int × Int)) × Int × Int × Int) (Clock × Int))) :=
 bif decide (s.2.2.1 < s.2.1) then
  (geti s.1 s.2.2.1).bind fun a0 =>
  ((slices_ContainsFunc_67__kheap_renew_1 N) s.2.2.2.2.2.2.2.1 a0).bind fun b1 =>
  bif b1 then
   some (.next (s.1, s.2.1, wrapF .i64 (s.2.2.1 + 1), s.2.2.2))
  else
   ((clock_Certify N) (Clock.mk (s.2.2.2.1, s.2.2.2.2.1) (Field.mk s.2.2.2.2.2.1) (Certs.mk s.2.2.2.2.2.2.1 s.2.2.2.2.2.2.2.1) (Agenda.mk (Slots.mk s.2.2.2.2.2.2.2.2.1 s.2.2.2.2.2.2.2.2.2.1 s.2.2.2.2.2.2.2.2.2.2.1) s.2.2.2.2.2.2.2.2.2.2.2.1 s.2.2.2.2.2.2.2.2.2.2.2.2.1) s.2.2.2.2.2.2.2.2.2.2.2.2.2.1) a0).bind fun a2 =>
   bif a2.2.2 != 0 then
    some (.done (.done (Clock.mk (0, 0) (Field.mk []) (Certs.mk 0 []) (Agenda.mk (Slots.mk [] [] []) [] []) [], a2.2.2)))
   else
    some (.next (s.1, s.2.1, wrapF .i64 (s.2.2.1 + 1), a2.1.now.1, a2.1.now.2, a2.1.field.points, a2.1.certs.next_, a2.1.certs.list, a2.1.agenda.slots.uses, a2.1.agenda.slots.used, a2.1.agenda.slots.free, a2.1.agenda.heap, a2.1.agenda.where_, a2.1.due, s.2.2.2.2.2.2.2.2.2.2.2.2.2.2))
 else
  some (.done (.done (Clock.mk (s.2.2.2.1, s.2.2.2.2.1) (Field.mk s.2.2.2.2.2.1) (Certs.mk s.2.2.2.2.2.2.1 s.2.2.2.2.2.2.2.1) (Agenda.mk (Slots.mk s.2.2.2.2.2.2.2.2.1 s.2.2.2.2.2.2.2.2.2.1 s.2.2.2.2.2.2.2.2.2.2.1) s.2.2.2.2.2.2.2.2.2.2.2.1 s.2.2.2.2.2.2.2.2.2.2.2.2.1) s.2.2.2.2.2.2.2.2.2.2.2.2.2.1, 0)))
noncomputable def kheap_renew_l2 (N : Nat) (s : ((List (Int × Int)) × (List (Int × Int × Int)) × Int × Int × Int × Int × (List (Int × Int × Int)) × Int × (List (Int × Int × Int)) × (List Int) × (List Bool) × (List Int) × (List (Int × Int × Int × Int × Int)) × (List Int) × (List (Int × Int × Int)) × (List (Int × Int × Int)) × Int × Int × Int)) : Option (Step ((List (Int × Int)) × (List (Int × Int × Int)) × Int × Int × Int × Int × (List (Int × Int × Int)) × Int × (List (Int × Int × Int)) × (List Int) × (List Bool) × (List Int) × (List (Int × Int × Int × Int × Int)) × (List Int) × (List (Int × Int × Int)) × (List (Int × Int × Int)) × Int × Int × Int) (Clock × Int)) :=
 bif decide (s.2.2.2.1 < s.2.2.1) then
  (geti s.2.1 s.2.2.2.1).bind fun a0 =>
  ((slices_Contains_66 N) s.1 a0.2).bind fun b1 =>
  bif !b1 then
   ((clock_Retire N) (Clock.mk (s.2.2.2.2.1, s.2.2.2.2.2.1) (Field.mk s.2.2.2.2.2.2.1) (Certs.mk s.2.2.2.2.2.2.2.1 s.2.2.2.2.2.2.2.2.1) (Agenda.mk (Slots.mk s.2.2.2.2.2.2.2.2.2.1 s.2.2.2.2.2.2.2.2.2.2.1 s.2.2.2.2.2.2.2.2.2.2.2.1) s.2.2.2.2.2.2.2.2.2.2.2.2.1 s.2.2.2.2.2.2.2.2.2.2.2.2.2.1) s.2.2.2.2.2.2.2.2.2.2.2.2.2.2.1) a0.1).bind fun a2 =>
   some (.next (s.1, s.2.1, s.2.2.1, wrapF .i64 (s.2.2.2.1 + 1), a2.1.now.1, a2.1.now.2, a2.1.field.points, a2.1.certs.next_, a2.1.certs.list, a2.1.agenda.slots.uses, a2.1.agenda.slots.used, a2.1.agenda.slots.free, a2.1.agenda.heap, a2.1.agenda.where_, a2.1.due, s.2.2.2.2.2.2.2.2.2.2.2.2.2.2.2))
  else
   some (.next (s.1, s.2.1, s.2.2.1, wrapF .i64 (s.2.2.2.1 + 1), s.2.2.2.2))
 else
  ((slices_Equal_126 N) s.2.2.2.2.2.2.1 s.2.2.2.2.2.2.2.2.2.2.2.2.2.2.2.1).bind fun b3 =>
  bif !b3 then
   ((clock_Alter N) (Clock.mk (s.2.2.2.2.1, s.2.2.2.2.2.1) (Field.mk s.2.2.2.2.2.2.1) (Certs.mk s.2.2.2.2.2.2.2.1 s.2.2.2.2.2.2.2.2.1) (Agenda.mk (Slots.mk s.2.2.2.2.2.2.2.2.2.1 s.2.2.2.2.2.2.2.2.2.2.1 s.2.2.2.2.2.2.2.2.2.2.2.1) s.2.2.2.2.2.2.2.2.2.2.2.2.1 s.2.2.2.2.2.2.2.2.2.2.2.2.2.1) s.2.2.2.2.2.2.2.2.2.2.2.2.2.2.1) (Field.mk s.2.2.2.2.2.2.2.2.2.2.2.2.2.2.2.1)).bind fun a4 =>
   bif a4.2 != 0 then
    some (.done (Clock.mk (0, 0) (Field.mk []) (Certs.mk 0 []) (Agenda.mk (Slots.mk [] [] []) [] []) [], a4.2))
   else
    (loopN N) (kheap_renew_l1 N) (s.1, Int.ofNat s.1.length, 0, a4.1.now.1, a4.1.now.2, a4.1.field.points, a4.1.certs.next_, a4.1.certs.list, a4.1.agenda.slots.uses, a4.1.agenda.slots.used, a4.1.agenda.slots.free, a4.1.agenda.heap, a4.1.agenda.where_, a4.1.due, s.2.2.2.2.2.2.2.2.2.2.2.2.2.2.2.2)
  else
   (loopN N) (kheap_renew_l1 N) (s.1, Int.ofNat s.1.length, 0, s.2.2.2.2.1, s.2.2.2.2.2.1, s.2.2.2.2.2.2.1, s.2.2.2.2.2.2.2.1, s.2.2.2.2.2.2.2.2.1, s.2.2.2.2.2.2.2.2.2.1, s.2.2.2.2.2.2.2.2.2.2.1, s.2.2.2.2.2.2.2.2.2.2.2.1, s.2.2.2.2.2.2.2.2.2.2.2.2.1, s.2.2.2.2.2.2.2.2.2.2.2.2.2.1, s.2.2.2.2.2.2.2.2.2.2.2.2.2.2.1, s.2.2.2.2.2.2.2.2.2.2.2.2.2.2.2.2)
noncomputable def kheap_renew (N : Nat) (p0 : Clock) (p1 : Field) (p2 : List (Int × Int)) : Option (Clock × Int) :=
 (loopN N) (kheap_renew_l2 N) (p2, p0.certs.list, Int.ofNat p0.certs.list.length, 0, p0.now.1, p0.now.2, p0.field.points, p0.certs.next_, p0.certs.list, p0.agenda.slots.uses, p0.agenda.slots.used, p0.agenda.slots.free, p0.agenda.heap, p0.agenda.where_, p0.due, p1.points, 0, 0, 0)
noncomputable def c90 (N : Nat) : Con := ⟨Args.cons (Arg.agg Clock_c) (Args.cons (Arg.agg Field_c) (Args.one (Arg.sl kii))), Arg.tup (Args.cons (Arg.agg Clock_c) (Args.one (Arg.int .i64))), fun a => (kheap_renew N) a.1 a.2.1 a.2.2, .frz, false⟩
theorem c90_ok (N : Nat) : ConOK tab 90 (c90 N) := ConOK.of tab_90 (cx := (mkCx (loopL N) [(66, (c66 N)), (125, (c125 N)), (126, (c126 N)), (127, (c127 N)), (67, (c67_128 N)), (129, (c129 N))] [] [] [])) rfl (CxOK.make ⟨(c66_ok N), (c125_ok N), (c126_ok N), (c127_ok N), (c67_128_ok N), (c129_ok N), trivial⟩ trivial trivial) (fun a => by kernel_rfl)
noncomputable def kheap_Renew_l1 (N : Nat) (s : ((List (Int × Int)) × (List (Int × Int)) × Int × Int × Int × Int × (List (Int × Int × Int)) × Int × (List (Int × Int × Int)) × (List Int) × (List Bool) × (List Int) × (List (Int × Int × Int × Int × Int)) × (List Int) × (List (Int × Int × Int)) × (List (Int × Int × Int)) × Int × Int × Int)) : Option (Step ((List (Int × Int)) × (List (Int × Int)) × Int × Int × Int × Int × (List (Int × Int × Int)) × Int × (List (Int × Int × Int)) × (List Int) × (List Bool) × (List Int) × (List (Int × Int × Int × Int × Int)) × (List Int) × (List (Int × Int × Int)) × (List (Int × Int × Int)) × Int × Int × Int) (Step ((List (Int × Int)) × (List (Int × Int)) × Int × Int × Int × Int × (List (Int × Int × Int)) × Int × (List (Int × Int × Int)) × (List Int) × (List Bool) × (List Int) × (List (Int × Int × Int × Int × Int)) × (List Int) × (List (Int × Int × Int)) × (List (Int × Int × Int)) × Int × Int × Int) (Step ((List (Int × Int)) × (List (Int × Int)) × Int × Int × Int × Int × (List (Int × Int × Int)) × Int × (List (Int × Int × Int)) × (List Int) × (List Bool) × (List Int) × (List (Int × Int × Int × Int × Int)) × (List Int) × (List (Int × Int × Int)) × (List (Int × Int × Int)) × Int × Int × Int) (Clock × Int)))) :=
 bif decide (s.2.2.2.1 < s.2.2.1) then
  (geti s.2.1 s.2.2.2.1).bind fun a0 =>
  ((field_Find N) (Field.mk s.2.2.2.2.2.2.2.2.2.2.2.2.2.2.2.1) a0.1).bind fun a1 =>
  ((field_Find N) (Field.mk s.2.2.2.2.2.2.2.2.2.2.2.2.2.2.2.1) a0.2).bind fun a2 =>
  bif a1.2 != 0 then
   some (.done (.done (.done (Clock.mk (0, 0) (Field.mk []) (Certs.mk 0 []) (Agenda.mk (Slots.mk [] [] []) [] []) [], 6))))
  else
   bif a2.2 != 0 then
    some (.done (.done (.done (Clock.mk (0, 0) (Field.mk []) (Certs.mk 0 []) (Agenda.mk (Slots.mk [] [] []) [] []) [], 6))))
   else
    some (.next (s.1, s.2.1, s.2.2.1, wrapF .i64 (s.2.2.2.1 + 1), s.2.2.2.2))
 else
  ((kheap_twin N) (Clock.mk (s.2.2.2.2.1, s.2.2.2.2.2.1) (Field.mk s.2.2.2.2.2.2.1) (Certs.mk s.2.2.2.2.2.2.2.1 s.2.2.2.2.2.2.2.2.1) (Agenda.mk (Slots.mk s.2.2.2.2.2.2.2.2.2.1 s.2.2.2.2.2.2.2.2.2.2.1 s.2.2.2.2.2.2.2.2.2.2.2.1) s.2.2.2.2.2.2.2.2.2.2.2.2.1 s.2.2.2.2.2.2.2.2.2.2.2.2.2.1) s.2.2.2.2.2.2.2.2.2.2.2.2.2.2.1)).bind fun r3 =>
  ((kheap_renew N) r3 (Field.mk s.2.2.2.2.2.2.2.2.2.2.2.2.2.2.2.1) s.1).bind fun a4 =>
  some (.done (.done (.done a4)))
noncomputable def kheap_Renew_l2 (N : Nat) (s : ((List (Int × Int)) × (List (Int × Int)) × Int × Int × Int × Int × (List (Int × Int × Int)) × Int × (List (Int × Int × Int)) × (List Int) × (List Bool) × (List Int) × (List (Int × Int × Int × Int × Int)) × (List Int) × (List (Int × Int × Int)) × (List (Int × Int × Int)) × Int × Int × Int)) : Option (Step ((List (Int × Int)) × (List (Int × Int)) × Int × Int × Int × Int × (List (Int × Int × Int)) × Int × (List (Int × Int × Int)) × (List Int) × (List Bool) × (List Int) × (List (Int × Int × Int × Int × Int)) × (List Int) × (List (Int × Int × Int)) × (List (Int × Int × Int)) × Int × Int × Int) (Step ((List (Int × Int)) × (List (Int × Int)) × Int × Int × Int × Int × (List (Int × Int × Int)) × Int × (List (Int × Int × Int)) × (List Int) × (List Bool) × (List Int) × (List (Int × Int × Int × Int × Int)) × (List Int) × (List (Int × Int × Int)) × (List (Int × Int × Int)) × Int × Int × Int) (Clock × Int))) :=
 bif decide (s.2.2.2.1 < s.2.2.1) then
  (geti s.2.1 s.2.2.2.1).bind fun a0 =>
  (sliceO s.1 0 s.2.2.2.1).bind fun l1 =>
  ((slices_Contains_66 N) l1 a0).bind fun b2 =>
  bif b2 then
   some (.done (.done (Clock.mk (0, 0) (Field.mk []) (Certs.mk 0 []) (Agenda.mk (Slots.mk [] [] []) [] []) [], 14)))
  else
   some (.next (s.1, s.2.1, s.2.2.1, wrapF .i64 (s.2.2.2.1 + 1), s.2.2.2.2))
 else
  (loopN N) (kheap_Renew_l1 N) (s.1, s.1, Int.ofNat s.1.length, 0, s.2.2.2.2)
noncomputable def kheap_Renew_l3 (N : Nat) (s : ((List (Int × Int)) × (List (Int × Int)) × Int × Int × Int × Int × (List (Int × Int × Int)) × Int × (List (Int × Int × Int)) × (List Int) × (List Bool) × (List Int) × (List (Int × Int × Int × Int × Int)) × (List Int) × (List (Int × Int × Int)) × (List (Int × Int × Int)) × Int × Int × Int)) : Option (Step ((List (Int × Int)) × (List (Int × Int)) × Int × Int × Int × Int × (List (Int × Int × Int)) × Int × (List (Int × Int × Int)) × (List Int) × (List Bool) × (List Int) × (List (Int × Int × Int × Int × Int)) × (List Int) × (List (Int × Int × Int)) × (List (Int × Int × Int)) × Int × Int × Int) (Clock × Int)) :=
 bif decide (s.2.2.2.1 < s.2.2.1) then
  (geti s.2.1 s.2.2.2.1).bind fun a0 =>
  bif decide (a0.1 < 0) then
   some (.done (Clock.mk (0, 0) (Field.mk []) (Certs.mk 0 []) (Agenda.mk (Slots.mk [] [] []) [] []) [], 8))
  else
   bif decide (a0.2 < 0) then
    some (.done (Clock.mk (0, 0) (Field.mk []) (Certs.mk 0 []) (Agenda.mk (Slots.mk [] [] []) [] []) [], 8))
   else
    bif decide (65535 < a0.1) then
     some (.done (Clock.mk (0, 0) (Field.mk []) (Certs.mk 0 []) (Agenda.mk (Slots.mk [] [] []) [] []) [], 8))
    else
     bif decide (65535 < a0.2) then
      some (.done (Clock.mk (0, 0) (Field.mk []) (Certs.mk 0 []) (Agenda.mk (Slots.mk [] [] []) [] []) [], 8))
     else
      bif a0.1 == a0.2 then
       some (.done (Clock.mk (0, 0) (Field.mk []) (Certs.mk 0 []) (Agenda.mk (Slots.mk [] [] []) [] []) [], 8))
      else
       some (.next (s.1, s.2.1, s.2.2.1, wrapF .i64 (s.2.2.2.1 + 1), s.2.2.2.2))
 else
  (loopN N) (kheap_Renew_l2 N) (s.1, s.1, Int.ofNat s.1.length, 0, s.2.2.2.2)
noncomputable def kheap_Renew (N : Nat) (p0 : Clock) (p1 : Field) (p2 : List (Int × Int)) : Option (Clock × Int) :=
 ((clock_Check N) p0).bind fun n0 =>
 bif n0 != 0 then
  some (Clock.mk (0, 0) (Field.mk []) (Certs.mk 0 []) (Agenda.mk (Slots.mk [] [] []) [] []) [], n0)
 else
  ((field_Check N) p1).bind fun n1 =>
  bif n1 != 0 then
   some (Clock.mk (0, 0) (Field.mk []) (Certs.mk 0 []) (Agenda.mk (Slots.mk [] [] []) [] []) [], n1)
  else
   (loopN N) (kheap_Renew_l3 N) (p2, p2, Int.ofNat p2.length, 0, p0.now.1, p0.now.2, p0.field.points, p0.certs.next_, p0.certs.list, p0.agenda.slots.uses, p0.agenda.slots.used, p0.agenda.slots.free, p0.agenda.heap, p0.agenda.where_, p0.due, p1.points, 0, 0, 0)
noncomputable def c59 (N : Nat) : Con := ⟨Args.cons (Arg.agg Clock_c) (Args.cons (Arg.agg Field_c) (Args.one (Arg.sl kii))), Arg.tup (Args.cons (Arg.agg Clock_c) (Args.one (Arg.int .i64))), fun a => (kheap_Renew N) a.1 a.2.1 a.2.2, .frz, false⟩
theorem c59_ok (N : Nat) : ConOK tab 59 (c59 N) := ConOK.of tab_59 (cx := (mkCx (loopL N) [(30, (c30 N)), (61, (c61 N)), (66, (c66 N)), (89, (c89 N)), (91, (c91 N)), (91, (c91p N)), (90, (c90 N))] [] [] [])) rfl (CxOK.make ⟨(c30_ok N), (c61_ok N), (c66_ok N), (c89_ok N), (c91_ok N), (c91p_ok N), (c90_ok N), trivial⟩ trivial trivial) (fun a => by kernel_rfl)
noncomputable def heater_settled (N : Nat) (p0 : Clock) (p1 : Field) : Option (Heater × Int) :=
 ((heater_made N) p1 p0.now).bind fun a0 =>
 ((kheap_Renew N) p0 p1 a0.2).bind fun a1 =>
 bif a1.2 != 0 then
  some (Heater.mk (Clock.mk (0, 0) (Field.mk []) (Certs.mk 0 []) (Agenda.mk (Slots.mk [] [] []) [] []) []) (Tree.mk 0 []), a1.2)
 else
  some (Heater.mk a1.1 a0.1, 0)
noncomputable def c28 (N : Nat) : Con := ⟨Args.cons (Arg.agg Clock_c) (Args.one (Arg.agg Field_c)), Arg.tup (Args.cons (Arg.agg Heater_c) (Args.one (Arg.int .i64))), fun a => (heater_settled N) a.1 a.2, .frz, false⟩
theorem c28_ok (N : Nat) : ConOK tab 28 (c28 N) := ConOK.of tab_28 (cx := (mkCx (loopL N) [(24, (c24 N)), (59, (c59 N))] [] [] [])) rfl (CxOK.make ⟨(c24_ok N), (c59_ok N), trivial⟩ trivial trivial) (fun a => by kernel_rfl)
noncomputable def clock_Move (N : Nat) (p0 : Clock) (p1 : Int × Int) : Option (Clock × Int) :=
 ((clock_until N) p0 p1).bind fun a0 =>
 bif a0.2 == 0 then
  bif a0.1 then
   some (Clock.mk (0, 0) (Field.mk []) (Certs.mk 0 []) (Agenda.mk (Slots.mk [] [] []) [] []) [], 36)
  else
   bif a0.2 != 0 then
    some (Clock.mk (0, 0) (Field.mk []) (Certs.mk 0 []) (Agenda.mk (Slots.mk [] [] []) [] []) [], a0.2)
   else
    ((clock_twin N) p0).bind fun r1 =>
    some (Clock.mk p1 r1.field r1.certs r1.agenda r1.due, 0)
 else
  bif a0.2 != 0 then
   some (Clock.mk (0, 0) (Field.mk []) (Certs.mk 0 []) (Agenda.mk (Slots.mk [] [] []) [] []) [], a0.2)
  else
   ((clock_twin N) p0).bind fun r2 =>
   some (Clock.mk p1 r2.field r2.certs r2.agenda r2.due, 0)
noncomputable def c29 (N : Nat) : Con := ⟨Args.cons (Arg.agg Clock_c) (Args.one (Arg.agg (Cod.row kii))), Arg.tup (Args.cons (Arg.agg Clock_c) (Args.one (Arg.int .i64))), fun a => (clock_Move N) a.1 a.2, .frz, false⟩
theorem c29_ok (N : Nat) : ConOK tab 29 (c29 N) := ConOK.of tab_29 (cx := (mkCx (loopL N) [(57, (c57 N)), (60, (c60 N)), (60, (c60p N))] [] [] [])) rfl (CxOK.make ⟨(c57_ok N), (c60_ok N), (c60p_ok N), trivial⟩ trivial trivial) (fun a => by kernel_rfl)
noncomputable def heater_Advance_l1 (N : Nat) (s : (Int × Int × (List (Int × Int × Int)) × Int × (List (Int × Int × Int)) × (List Int) × (List Bool) × (List Int) × (List (Int × Int × Int × Int × Int)) × (List Int) × (List (Int × Int × Int)) × Int × (List (Int × Int × Int)) × Int × Int × Int × Int × Int × Int × (List (Int × Int)))) : Option (Step (Int × Int × (List (Int × Int × Int)) × Int × (List (Int × Int × Int)) × (List Int) × (List Bool) × (List Int) × (List (Int × Int × Int × Int × Int)) × (List Int) × (List (Int × Int × Int)) × Int × (List (Int × Int × Int)) × Int × Int × Int × Int × Int × Int × (List (Int × Int))) (Heater × (List (Int × Int)) × Int)) :=
 ((clock_Fail N) (Clock.mk (s.1, s.2.1) (Field.mk s.2.2.1) (Certs.mk s.2.2.2.1 s.2.2.2.2.1) (Agenda.mk (Slots.mk s.2.2.2.2.2.1 s.2.2.2.2.2.2.1 s.2.2.2.2.2.2.2.1) s.2.2.2.2.2.2.2.2.1 s.2.2.2.2.2.2.2.2.2.1) s.2.2.2.2.2.2.2.2.2.2.1) (s.2.2.2.2.2.2.2.2.2.2.2.2.2.1, s.2.2.2.2.2.2.2.2.2.2.2.2.2.2.1)).bind fun a0 =>
 bif a0.2.2.2 != 0 then
  ((clock_Move N) (Clock.mk (s.1, s.2.1) (Field.mk s.2.2.1) (Certs.mk s.2.2.2.1 s.2.2.2.2.1) (Agenda.mk (Slots.mk s.2.2.2.2.2.1 s.2.2.2.2.2.2.1 s.2.2.2.2.2.2.2.1) s.2.2.2.2.2.2.2.2.1 s.2.2.2.2.2.2.2.2.2.1) s.2.2.2.2.2.2.2.2.2.2.1) (s.2.2.2.2.2.2.2.2.2.2.2.2.2.1, s.2.2.2.2.2.2.2.2.2.2.2.2.2.2.1)).bind fun a1 =>
  ((heater_made N) a1.1.field (s.2.2.2.2.2.2.2.2.2.2.2.2.2.1, s.2.2.2.2.2.2.2.2.2.2.2.2.2.2.1)).bind fun a2 =>
  some (.done (Heater.mk a1.1 a2.1, s.2.2.2.2.2.2.2.2.2.2.2.2.2.2.2.2.2.2.2, 0))
 else
  ((heater_settled N) a0.1 a0.1.field).bind fun a3 =>
  bif a3.2 != 0 then
   some (.done (Heater.mk (Clock.mk (0, 0) (Field.mk []) (Certs.mk 0 []) (Agenda.mk (Slots.mk [] [] []) [] []) []) (Tree.mk 0 []), [], a3.2))
  else
   (appendO s.2.2.2.2.2.2.2.2.2.2.2.2.2.2.2.2.2.2.2 [a0.2.2.1]).bind fun l4 =>
   some (.next (a3.1.clock.now.1, a3.1.clock.now.2, a3.1.clock.field.points, a3.1.clock.certs.next_, a3.1.clock.certs.list, a3.1.clock.agenda.slots.uses, a3.1.clock.agenda.slots.used, a3.1.clock.agenda.slots.free, a3.1.clock.agenda.heap, a3.1.clock.agenda.where_, a3.1.clock.due, a3.1.tree.root, a3.1.tree.nodes, s.2.2.2.2.2.2.2.2.2.2.2.2.2.1, s.2.2.2.2.2.2.2.2.2.2.2.2.2.2.1, s.2.2.2.2.2.2.2.2.2.2.2.2.2.2.2.1, s.2.2.2.2.2.2.2.2.2.2.2.2.2.2.2.2.1, s.2.2.2.2.2.2.2.2.2.2.2.2.2.2.2.2.2.1, s.2.2.2.2.2.2.2.2.2.2.2.2.2.2.2.2.2.2.1, l4))
noncomputable def heater_Advance (N : Nat) (p0 : Heater) (p1 : Int × Int) : Option (Heater × (List (Int × Int)) × Int) :=
 ((heater_Check N) p0).bind fun n0 =>
 bif n0 != 0 then
  some (Heater.mk (Clock.mk (0, 0) (Field.mk []) (Certs.mk 0 []) (Agenda.mk (Slots.mk [] [] []) [] []) []) (Tree.mk 0 []), [], n0)
 else
  ((ratio_Check N) p1).bind fun n1 =>
  bif n1 != 0 then
   some (Heater.mk (Clock.mk (0, 0) (Field.mk []) (Certs.mk 0 []) (Agenda.mk (Slots.mk [] [] []) [] []) []) (Tree.mk 0 []), [], 8)
  else
   ((ratio_Cmp N) p1 p0.clock.now).bind fun a2 =>
   bif decide (a2.1 < 0) then
    some (Heater.mk (Clock.mk (0, 0) (Field.mk []) (Certs.mk 0 []) (Agenda.mk (Slots.mk [] [] []) [] []) []) (Tree.mk 0 []), [], 44)
   else
    (loopN N) (heater_Advance_l1 N) (p0.clock.now.1, p0.clock.now.2, p0.clock.field.points, p0.clock.certs.next_, p0.clock.certs.list, p0.clock.agenda.slots.uses, p0.clock.agenda.slots.used, p0.clock.agenda.slots.free, p0.clock.agenda.heap, p0.clock.agenda.where_, p0.clock.due, p0.tree.root, p0.tree.nodes, p1.1, p1.2, 0, 0, 0, 0, [])
noncomputable def c11 (N : Nat) : Con := ⟨Args.cons (Arg.agg Heater_c) (Args.one (Arg.agg (Cod.row kii))), Arg.tup (Args.cons (Arg.agg Heater_c) (Args.cons (Arg.sl kii) (Args.one (Arg.int .i64)))), fun a => (heater_Advance N) a.1 a.2, .frz, false⟩
theorem c11_ok (N : Nat) : ConOK tab 11 (c11 N) := ConOK.of tab_11 (cx := (mkCx (loopL N) [(12, (c12 N)), (25, (c25 N)), (26, (c26 N)), (27, (c27 N)), (28, (c28 N)), (29, (c29 N)), (24, (c24 N))] [] [] [])) rfl (CxOK.make ⟨(c12_ok N), (c25_ok N), (c26_ok N), (c27_ok N), (c28_ok N), (c29_ok N), (c24_ok N), trivial⟩ trivial trivial) (fun a => by kernel_rfl)
noncomputable def slot_New_l1 (N : Nat) (s : (Int × Int × Int × (List Int) × (List Bool) × (List Int))) : Option (Step (Int × Int × Int × (List Int) × (List Bool) × (List Int)) (Slots × Int)) :=
 bif decide (s.2.2.1 < s.2.1) then
  (geti s.2.2.2.2.2 s.2.2.1).bind fun n0 =>
  some (.next (s.1, s.2.1, wrapF .i64 (s.2.2.1 + 1), s.2.2.2.1, s.2.2.2.2.1, seti s.2.2.2.2.2 s.2.2.1 (wrapF .i64 ((wrapF .i64 (s.1 - 1)) - s.2.2.1))))
 else
  some (.done (Slots.mk s.2.2.2.1 s.2.2.2.2.1 s.2.2.2.2.2, 0))
noncomputable def slot_New (N : Nat) (p0 : Int) : Option (Slots × Int) :=
 bif decide (p0 < 1) then
  some (Slots.mk [] [] [], 2)
 else
  bif decide (200 < p0) then
   some (Slots.mk [] [] [], 2)
  else
   bif p0 == p0 then
    (makeO p0 (0 : Int)).bind fun l0 =>
    bif p0 == p0 then
     (makeO p0 (false : Bool)).bind fun l1 =>
     bif p0 == p0 then
      (makeO p0 (0 : Int)).bind fun l2 =>
      (loopN N) (slot_New_l1 N) (p0, p0, 0, l0, l1, l2)
     else
      none
    else
     none
   else
    none
noncomputable def c105 (N : Nat) : Con := ⟨Args.one (Arg.int .i64), Arg.tup (Args.cons (Arg.agg Slots_c) (Args.one (Arg.int .i64))), fun a => (slot_New N) a, .frz, false⟩
theorem c105_ok (N : Nat) : ConOK tab 105 (c105 N) := ConOK.of tab_105 (cx := (mkCx (loopL N) [] [] [] [])) rfl (CxOK.make trivial trivial trivial) (fun a => by kernel_rfl)
noncomputable def math_bits_Mul32 (N : Nat) (p0 : Int) (p1 : Int) : Option (Int × Int) :=
 some (wrapF .u32 (bShr .u64 (wrapF .u64 ((wrapF .u64 p0) * (wrapF .u64 p1))) 32), wrapF .u32 (wrapF .u64 ((wrapF .u64 p0) * (wrapF .u64 p1))))
noncomputable def c164 (N : Nat) : Con := ⟨Args.cons (Arg.int .u32) (Args.one (Arg.int .u32)), Arg.tup (Args.cons (Arg.int .u32) (Args.one (Arg.int .u32))), fun a => (math_bits_Mul32 N) a.1 a.2, .pure, false⟩
theorem c164_ok (N : Nat) : ConOK tab 164 (c164 N) := ConOK.of tab_164 (cx := (mkCx (loopL N) [] [] [] [])) rfl (CxOK.make trivial trivial trivial) (fun a => by kernel_rfl)
noncomputable def math_bits_Mul (N : Nat) (p0 : Int) (p1 : Int) : Option (Int × Int) :=
 ((math_bits_Mul64 N) p0 p1).bind fun a0 =>
 some a0
noncomputable def c138 (N : Nat) : Con := ⟨Args.cons (Arg.int .u64) (Args.one (Arg.int .u64)), Arg.tup (Args.cons (Arg.int .u64) (Args.one (Arg.int .u64))), fun a => (math_bits_Mul N) a.1 a.2, .pure, false⟩
theorem c138_ok (N : Nat) : ConOK tab 138 (c138 N) := ConOK.of tab_138 (cx := (mkCx (loopL N) [(164, (c164 N)), (83, (c83 N))] [] [] [])) rfl (CxOK.make ⟨(c164_ok N), (c83_ok N), trivial⟩ trivial trivial) (fun a => by kernel_rfl)
noncomputable def slices_Repeat_106_l1 (N : Nat) (s : (Int × (List Int))) : Option (Step (Int × (List Int)) (List Int)) :=
 bif decide (s.1 < (Int.ofNat s.2.length)) then
  bif ((decide (0 ≤ s.1)) && (decide (s.1 ≤ (Int.ofNat s.2.length)))) && (decide ((Int.ofNat s.2.length) ≤ (Int.ofNat s.2.length))) then
   (sliceO s.2 0 s.1).bind fun l0 =>
   bif ((s.2.take s.1.toNat).take (((Int.ofNat s.2.length).toNat) - s.1.toNat)).isEmpty then
    some (.next (wrapF .i64 (s.1 + 0), s.2))
   else
    bif (Nat.ble ((0 + s.1.toNat) + (((s.2.take s.1.toNat).take (((Int.ofNat s.2.length).toNat) - s.1.toNat)).length)) s.2.length) && (!false) then
     some (.next (wrapF .i64 (s.1 + (Int.ofNat (((s.2.take s.1.toNat).take (((Int.ofNat s.2.length).toNat) - s.1.toNat)).length))), layL s.2 (0 + s.1.toNat) ((s.2.take s.1.toNat).take (((Int.ofNat s.2.length).toNat) - s.1.toNat))))
    else
     none
  else
   none
 else
  some (.done s.2)
noncomputable def slices_Repeat_106 (N : Nat) (p0 : List Int) (p1 : Int) : Option (List Int) :=
 bif decide (p1 < 0) then
  none
 else
  ((math_bits_Mul N) (wrapF .u64 (Int.ofNat p0.length)) (wrapF .u64 p1)).bind fun a0 =>
  bif decide (0 < a0.1) then
   none
  else
   bif decide (9223372036854775807 < a0.2) then
    none
   else
    bif (wrapF .i64 a0.2) == (wrapF .i64 a0.2) then
     (makeO (wrapF .i64 a0.2) (0 : Int)).bind fun l1 =>
     bif (p0.take l1.length).isEmpty then
      (loopN N) (slices_Repeat_106_l1 N) (0, l1)
     else
      bif (Nat.ble (0 + ((p0.take l1.length).length)) l1.length) && (!false) then
       (loopN N) (slices_Repeat_106_l1 N) (Int.ofNat ((p0.take l1.length).length), layL l1 0 (p0.take l1.length))
      else
       none
    else
     none
noncomputable def c106 (N : Nat) : Con := ⟨Args.cons (Arg.sl ki) (Args.one (Arg.int .i64)), Arg.sl ki, fun a => (slices_Repeat_106 N) a.1 a.2, .own, true⟩
noncomputable def c106p (N : Nat) : Con := ⟨Args.cons (Arg.sl ki) (Args.one (Arg.int .i64)), Arg.sl ki, fun a => (slices_Repeat_106 N) a.1 a.2, .frz, false⟩
theorem c106_ok (N : Nat) : ConOK tab 106 (c106 N) := ConOK.of tab_106 (cx := (mkCx (loopL N) [(138, (c138 N))] [] [] [])) rfl (CxOK.make ⟨(c138_ok N), trivial⟩ trivial trivial) (fun a => by kernel_rfl)
theorem c106p_ok (N : Nat) : ConOK tab 106 (c106p N) := ConOK.of tab_106 (cx := (mkCx (loopL N) [(138, (c138 N))] [] [] [])) rfl (CxOK.make ⟨(c138_ok N), trivial⟩ trivial trivial) (fun a => by kernel_rfl)
noncomputable def agenda_New (N : Nat) (p0 : Int) : Option (Agenda × Int) :=
 ((slot_New N) p0).bind fun a0 =>
 bif a0.2 != 0 then
  some (Agenda.mk (Slots.mk [] [] []) [] [], a0.2)
 else
  ((slices_Repeat_106 N) [-1] p0).bind fun l1 =>
  some (Agenda.mk a0.1 [] l1, 0)
noncomputable def c68 (N : Nat) : Con := ⟨Args.one (Arg.int .i64), Arg.tup (Args.cons (Arg.agg Agenda_c) (Args.one (Arg.int .i64))), fun a => (agenda_New N) a, .frz, false⟩
theorem c68_ok (N : Nat) : ConOK tab 68 (c68 N) := ConOK.of tab_68 (cx := (mkCx (loopL N) [(105, (c105 N)), (106, (c106 N)), (106, (c106p N))] [] [] [])) rfl (CxOK.make ⟨(c105_ok N), (c106_ok N), (c106p_ok N), trivial⟩ trivial trivial) (fun a => by kernel_rfl)
noncomputable def clock_New (N : Nat) (p0 : Field) (p1 : Int × Int) : Option (Clock × Int) :=
 ((field_Check N) p0).bind fun n0 =>
 bif n0 != 0 then
  some (Clock.mk (0, 0) (Field.mk []) (Certs.mk 0 []) (Agenda.mk (Slots.mk [] [] []) [] []) [], n0)
 else
  ((ratio_Check N) p1).bind fun n1 =>
  bif n1 != 0 then
   some (Clock.mk (0, 0) (Field.mk []) (Certs.mk 0 []) (Agenda.mk (Slots.mk [] [] []) [] []) [], n1)
  else
   ((agenda_New N) 200).bind fun a2 =>
   (cloneO p0.points).bind fun l3 =>
   some (Clock.mk p1 (Field.mk l3) (Certs.mk 0 []) a2.1 [], a2.2)
noncomputable def c33 (N : Nat) : Con := ⟨Args.cons (Arg.agg Field_c) (Args.one (Arg.agg (Cod.row kii))), Arg.tup (Args.cons (Arg.agg Clock_c) (Args.one (Arg.int .i64))), fun a => (clock_New N) a.1 a.2, .frz, false⟩
theorem c33_ok (N : Nat) : ConOK tab 33 (c33 N) := ConOK.of tab_33 (cx := (mkCx (loopL N) [(61, (c61 N)), (25, (c25 N)), (68, (c68 N)), (69, Con.clone kiii)] [] [] [])) rfl (CxOK.make ⟨(c61_ok N), (c25_ok N), (c68_ok N), prim_69, trivial⟩ trivial trivial) (fun a => by kernel_rfl)
noncomputable def heater_Build (N : Nat) (p0 : Field) (p1 : Int × Int) : Option (Heater × Int) :=
 ((clock_New N) p0 p1).bind fun a0 =>
 bif a0.2 != 0 then
  some (Heater.mk (Clock.mk (0, 0) (Field.mk []) (Certs.mk 0 []) (Agenda.mk (Slots.mk [] [] []) [] []) []) (Tree.mk 0 []), a0.2)
 else
  ((heater_settled N) a0.1 p0).bind fun a1 =>
  some a1
noncomputable def c13 (N : Nat) : Con := ⟨Args.cons (Arg.agg Field_c) (Args.one (Arg.agg (Cod.row kii))), Arg.tup (Args.cons (Arg.agg Heater_c) (Args.one (Arg.int .i64))), fun a => (heater_Build N) a.1 a.2, .frz, false⟩
theorem c13_ok (N : Nat) : ConOK tab 13 (c13 N) := ConOK.of tab_13 (cx := (mkCx (loopL N) [(33, (c33 N)), (28, (c28 N))] [] [] [])) rfl (CxOK.make ⟨(c33_ok N), (c28_ok N), trivial⟩ trivial trivial) (fun a => by kernel_rfl)
noncomputable def ref11_Equal_l1 (N : Nat) (s : (Int × Int × (List (Int × Int × Int)) × Int × (List (Int × Int × Int)))) : Option (Step (Int × Int × (List (Int × Int × Int)) × Int × (List (Int × Int × Int))) Bool) :=
 bif decide (s.1 < (Int.ofNat s.2.2.1.length)) then
  (geti s.2.2.1 s.1).bind fun a0 =>
  (geti s.2.2.2.2 s.1).bind fun a1 =>
  bif !((a0.1 == a1.1) && ((a0.2.1 == a1.2.1) && (a0.2.2 == a1.2.2))) then
   some (.done false)
  else
   some (.next (wrapF .i64 (s.1 + 1), s.2))
 else
  some (.done true)
noncomputable def ref11_Equal (N : Nat) (p0 : Tree) (p1 : Tree) : Option Bool :=
 bif p0.root != p1.root then
  some false
 else
  bif (Int.ofNat p0.nodes.length) != (Int.ofNat p1.nodes.length) then
   some false
  else
   (loopN N) (ref11_Equal_l1 N) (0, p0.root, p0.nodes, p1.root, p1.nodes)
noncomputable def c34 (N : Nat) : Con := ⟨Args.cons (Arg.agg Tree_c) (Args.one (Arg.agg Tree_c)), Arg.bool, fun a => (ref11_Equal N) a.1 a.2, .pure, false⟩
theorem c34_ok (N : Nat) : ConOK tab 34 (c34 N) := ConOK.of tab_34 (cx := (mkCx (loopL N) [] [] [] [])) rfl (CxOK.make trivial trivial trivial) (fun a => by kernel_rfl)
noncomputable def ref13_SameCerts_l1 (N : Nat) (s : ((List (Int × Int)) × (List (Int × Int)) × Int)) : Option (Step ((List (Int × Int)) × (List (Int × Int)) × Int) Bool) :=
 bif decide (s.2.2 < (Int.ofNat s.1.length)) then
  (geti s.1 s.2.2).bind fun a0 =>
  (geti s.2.1 s.2.2).bind fun a1 =>
  bif !((a0.1 == a1.1) && (a0.2 == a1.2)) then
   some (.done false)
  else
   some (.next (s.1, s.2.1, wrapF .i64 (s.2.2 + 1)))
 else
  some (.done true)
noncomputable def ref13_SameCerts (N : Nat) (p0 : List (Int × Int)) (p1 : List (Int × Int)) : Option Bool :=
 bif (Int.ofNat p0.length) != (Int.ofNat p1.length) then
  some false
 else
  (loopN N) (ref13_SameCerts_l1 N) (p0, p1, 0)
noncomputable def c35 (N : Nat) : Con := ⟨Args.cons (Arg.sl kii) (Args.one (Arg.sl kii)), Arg.bool, fun a => (ref13_SameCerts N) a.1 a.2, .pure, false⟩
theorem c35_ok (N : Nat) : ConOK tab 35 (c35 N) := ConOK.of tab_35 (cx := (mkCx (loopL N) [] [] [] [])) rfl (CxOK.make trivial trivial trivial) (fun a => by kernel_rfl)
noncomputable def law17_alive (N : Nat)  : Option Bool :=
 (law17_three N).bind fun r0 =>
 ((law17_at N) 0).bind fun a1 =>
 ((heater_Build N) r0 a1).bind fun a2 =>
 ((law17_at N) 2).bind fun a3 =>
 ((heater_Advance N) a2.1 a3).bind fun a4 =>
 ((heater_Leader N) a4.1).bind fun a5 =>
 bif a2.2 == 0 then
  bif a4.2.2 == 0 then
   bif a5.2 == 0 then
    bif a5.1 == 1 then
     ((ref11_Equal N) a2.1.tree (Tree.mk 1 [(1, -1, -1), (2, 0, 2), (5, -1, -1)])).bind fun b6 =>
     bif b6 then
      ((ref11_Equal N) a4.1.tree (Tree.mk 0 [(1, -1, 1), (2, -1, 2), (5, -1, -1)])).bind fun b7 =>
      bif b7 then
       ((ref13_SameCerts N) a4.2.1 [(1, 2)]).bind fun b8 =>
       some b8
      else
       some false
     else
      some false
    else
     some false
   else
    some false
  else
   some false
 else
  some false
noncomputable def c14 (N : Nat) : Con := ⟨Args.nil, Arg.bool, fun a => (law17_alive N), .pure, false⟩
theorem c14_ok (N : Nat) : ConOK tab 14 (c14 N) := ConOK.of tab_14 (cx := (mkCx (loopL N) [(5, (c5 N)), (6, (c6 N)), (13, (c13 N)), (11, (c11 N)), (10, (c10 N)), (34, (c34 N)), (35, (c35 N))] [] [] [])) rfl (CxOK.make ⟨(c5_ok N), (c6_ok N), (c13_ok N), (c11_ok N), (c10_ok N), (c34_ok N), (c35_ok N), trivial⟩ trivial trivial) (fun a => by kernel_rfl)
noncomputable def law17_HeaterNames_l1 (N : Nat) (s : (Int × Int × Int × (List (Int × Int × Int)) × Int × (List (Int × Int × Int)) × (List Int) × (List Bool) × (List Int) × (List (Int × Int × Int × Int × Int)) × (List Int) × (List (Int × Int × Int)) × Int × (List (Int × Int × Int)))) : Option (Step (Int × Int × Int × (List (Int × Int × Int)) × Int × (List (Int × Int × Int)) × (List Int) × (List Bool) × (List Int) × (List (Int × Int × Int × Int × Int)) × (List Int) × (List (Int × Int × Int)) × Int × (List (Int × Int × Int))) Bool) :=
 bif decide (s.1 < 5) then
  ((ref17_Twin N) (Heater.mk (Clock.mk (s.2.1, s.2.2.1) (Field.mk s.2.2.2.1) (Certs.mk s.2.2.2.2.1 s.2.2.2.2.2.1) (Agenda.mk (Slots.mk s.2.2.2.2.2.2.1 s.2.2.2.2.2.2.2.1 s.2.2.2.2.2.2.2.2.1) s.2.2.2.2.2.2.2.2.2.1 s.2.2.2.2.2.2.2.2.2.2.1) s.2.2.2.2.2.2.2.2.2.2.2.1) (Tree.mk s.2.2.2.2.2.2.2.2.2.2.2.2.1 s.2.2.2.2.2.2.2.2.2.2.2.2.2))).bind fun r0 =>
  bif s.1 == 0 then
   ((ref09_Gone N) r0.clock 0).bind fun r1 =>
   ((heater_Edges N) (Heater.mk r1 r0.tree)).bind fun a2 =>
   ((heater_Leader N) (Heater.mk r1 r0.tree)).bind fun a3 =>
   ((heater_Advance N) (Heater.mk r1 r0.tree) (0, 0)).bind fun a4 =>
   ((heater_Check N) (Heater.mk r1 r0.tree)).bind fun n5 =>
   bif n5 != 8 then
    some (.done false)
   else
    bif a2.2 != 8 then
     some (.done false)
    else
     bif a3.2 != 8 then
      some (.done false)
     else
      bif a4.2.2 != 8 then
       some (.done false)
      else
       some (.next (wrapF .i64 (s.1 + 1), s.2))
  else
   bif s.1 == 1 then
    ((heater_Edges N) (Heater.mk (Clock.mk (r0.clock.now.1, 0) r0.clock.field r0.clock.certs r0.clock.agenda r0.clock.due) r0.tree)).bind fun a6 =>
    ((heater_Leader N) (Heater.mk (Clock.mk (r0.clock.now.1, 0) r0.clock.field r0.clock.certs r0.clock.agenda r0.clock.due) r0.tree)).bind fun a7 =>
    ((heater_Advance N) (Heater.mk (Clock.mk (r0.clock.now.1, 0) r0.clock.field r0.clock.certs r0.clock.agenda r0.clock.due) r0.tree) (0, 0)).bind fun a8 =>
    ((heater_Check N) (Heater.mk (Clock.mk (r0.clock.now.1, 0) r0.clock.field r0.clock.certs r0.clock.agenda r0.clock.due) r0.tree)).bind fun n9 =>
    bif n9 != 8 then
     some (.done false)
    else
     bif a6.2 != 8 then
      some (.done false)
     else
      bif a7.2 != 8 then
       some (.done false)
      else
       bif a8.2.2 != 8 then
        some (.done false)
       else
        some (.next (wrapF .i64 (s.1 + 1), s.2))
   else
    bif s.1 == 2 then
     ((heater_Edges N) (Heater.mk r0.clock (Tree.mk 0 r0.tree.nodes))).bind fun a10 =>
     ((heater_Leader N) (Heater.mk r0.clock (Tree.mk 0 r0.tree.nodes))).bind fun a11 =>
     ((heater_Advance N) (Heater.mk r0.clock (Tree.mk 0 r0.tree.nodes)) (0, 0)).bind fun a12 =>
     ((heater_Check N) (Heater.mk r0.clock (Tree.mk 0 r0.tree.nodes))).bind fun n13 =>
     bif n13 != 8 then
      some (.done false)
     else
      bif a10.2 != 8 then
       some (.done false)
      else
       bif a11.2 != 8 then
        some (.done false)
       else
        bif a12.2.2 != 8 then
         some (.done false)
        else
         some (.next (wrapF .i64 (s.1 + 1), s.2))
    else
     bif s.1 == 3 then
      (geti r0.tree.nodes 1).bind fun a14 =>
      (geti (seti r0.tree.nodes 1 (a14.1, 2, a14.2.2)) 1).bind fun a15 =>
      ((heater_Edges N) (Heater.mk r0.clock (Tree.mk r0.tree.root (seti (seti r0.tree.nodes 1 (a14.1, 2, a14.2.2)) 1 (a15.1, a15.2.1, 0))))).bind fun a16 =>
      ((heater_Leader N) (Heater.mk r0.clock (Tree.mk r0.tree.root (seti (seti r0.tree.nodes 1 (a14.1, 2, a14.2.2)) 1 (a15.1, a15.2.1, 0))))).bind fun a17 =>
      ((heater_Advance N) (Heater.mk r0.clock (Tree.mk r0.tree.root (seti (seti r0.tree.nodes 1 (a14.1, 2, a14.2.2)) 1 (a15.1, a15.2.1, 0)))) (0, 0)).bind fun a18 =>
      ((heater_Check N) (Heater.mk r0.clock (Tree.mk r0.tree.root (seti (seti r0.tree.nodes 1 (a14.1, 2, a14.2.2)) 1 (a15.1, a15.2.1, 0))))).bind fun n19 =>
      bif n19 != 8 then
       some (.done false)
      else
       bif a16.2 != 8 then
        some (.done false)
       else
        bif a17.2 != 8 then
         some (.done false)
        else
         bif a18.2.2 != 8 then
          some (.done false)
         else
          some (.next (wrapF .i64 (s.1 + 1), s.2))
     else
      bif s.1 == 4 then
       (sliceO r0.tree.nodes 0 2).bind fun l20 =>
       ((heater_Edges N) (Heater.mk r0.clock (Tree.mk r0.tree.root (r0.tree.nodes.take 2)))).bind fun a21 =>
       ((heater_Leader N) (Heater.mk r0.clock (Tree.mk r0.tree.root (r0.tree.nodes.take 2)))).bind fun a22 =>
       ((heater_Advance N) (Heater.mk r0.clock (Tree.mk r0.tree.root (r0.tree.nodes.take 2))) (0, 0)).bind fun a23 =>
       ((heater_Check N) (Heater.mk r0.clock (Tree.mk r0.tree.root (r0.tree.nodes.take 2)))).bind fun n24 =>
       bif n24 != 8 then
        some (.done false)
       else
        bif a21.2 != 8 then
         some (.done false)
        else
         bif a22.2 != 8 then
          some (.done false)
         else
          bif a23.2.2 != 8 then
           some (.done false)
          else
           some (.next (wrapF .i64 (s.1 + 1), s.2))
      else
       ((heater_Edges N) r0).bind fun a25 =>
       ((heater_Leader N) r0).bind fun a26 =>
       ((heater_Advance N) r0 (0, 0)).bind fun a27 =>
       ((heater_Check N) r0).bind fun n28 =>
       bif n28 != 8 then
        some (.done false)
       else
        bif a25.2 != 8 then
         some (.done false)
        else
         bif a26.2 != 8 then
          some (.done false)
         else
          bif a27.2.2 != 8 then
           some (.done false)
          else
           some (.next (wrapF .i64 (s.1 + 1), s.2))
 else
  (makeO 65 ((0, 0, 0) : (Int × Int × Int))).bind fun l29 =>
  ((law17_at N) 0).bind fun a30 =>
  ((heater_Build N) (Field.mk l29) a30).bind fun a31 =>
  (law17_three N).bind fun r32 =>
  ((heater_Build N) r32 (1, 0)).bind fun a33 =>
  ((law17_at N) 0).bind fun a34 =>
  ((heater_Build N) (Field.mk []) a34).bind fun a35 =>
  ((heater_Leader N) a35.1).bind fun a36 =>
  ((law17_at N) (-1)).bind fun a37 =>
  ((heater_Advance N) (Heater.mk (Clock.mk (s.2.1, s.2.2.1) (Field.mk s.2.2.2.1) (Certs.mk s.2.2.2.2.1 s.2.2.2.2.2.1) (Agenda.mk (Slots.mk s.2.2.2.2.2.2.1 s.2.2.2.2.2.2.2.1 s.2.2.2.2.2.2.2.2.1) s.2.2.2.2.2.2.2.2.2.1 s.2.2.2.2.2.2.2.2.2.2.1) s.2.2.2.2.2.2.2.2.2.2.2.1) (Tree.mk s.2.2.2.2.2.2.2.2.2.2.2.2.1 s.2.2.2.2.2.2.2.2.2.2.2.2.2)) a37).bind fun a38 =>
  ((heater_Advance N) (Heater.mk (Clock.mk (s.2.1, s.2.2.1) (Field.mk s.2.2.2.1) (Certs.mk s.2.2.2.2.1 s.2.2.2.2.2.1) (Agenda.mk (Slots.mk s.2.2.2.2.2.2.1 s.2.2.2.2.2.2.2.1 s.2.2.2.2.2.2.2.2.1) s.2.2.2.2.2.2.2.2.2.1 s.2.2.2.2.2.2.2.2.2.2.1) s.2.2.2.2.2.2.2.2.2.2.2.1) (Tree.mk s.2.2.2.2.2.2.2.2.2.2.2.2.1 s.2.2.2.2.2.2.2.2.2.2.2.2.2)) (4, 2)).bind fun a39 =>
  ((ref17_Twin N) (Heater.mk (Clock.mk (s.2.1, s.2.2.1) (Field.mk s.2.2.2.1) (Certs.mk s.2.2.2.2.1 s.2.2.2.2.2.1) (Agenda.mk (Slots.mk s.2.2.2.2.2.2.1 s.2.2.2.2.2.2.2.1 s.2.2.2.2.2.2.2.2.1) s.2.2.2.2.2.2.2.2.2.1 s.2.2.2.2.2.2.2.2.2.2.1) s.2.2.2.2.2.2.2.2.2.2.2.1) (Tree.mk s.2.2.2.2.2.2.2.2.2.2.2.2.1 s.2.2.2.2.2.2.2.2.2.2.2.2.2))).bind fun r40 =>
  ((law17_at N) 2).bind fun a41 =>
  ((heater_Advance N) (Heater.mk (Clock.mk r40.clock.now r40.clock.field (Certs.mk 1000000 r40.clock.certs.list) r40.clock.agenda r40.clock.due) r40.tree) a41).bind fun a42 =>
  ((law17_at N) 1).bind fun a43 =>
  ((heater_Advance N) (Heater.mk (Clock.mk r40.clock.now r40.clock.field (Certs.mk 1000000 r40.clock.certs.list) r40.clock.agenda r40.clock.due) r40.tree) a43).bind fun a44 =>
  (law17_alive N).bind fun b45 =>
  bif b45 then
   bif a31.2 == 4 then
    bif a33.2 == 8 then
     bif a35.2 == 0 then
      bif a36.2 == 42 then
       bif a38.2.2 == 44 then
        bif a39.2.2 == 8 then
         bif a42.2.2 == 18 then
          bif a44.2.2 == 0 then
           ((law17_at N) 1).bind fun a46 =>
           bif (a44.1.clock.now.1 == a46.1) && (a44.1.clock.now.2 == a46.2) then
            some (.done ((Int.ofNat a35.1.clock.certs.list.length) == 0))
           else
            some (.done false)
          else
           some (.done false)
         else
          some (.done false)
        else
         some (.done false)
       else
        some (.done false)
      else
       some (.done false)
     else
      some (.done false)
    else
     some (.done false)
   else
    some (.done false)
  else
   some (.done false)
noncomputable def law17_HeaterNames (N : Nat)  : Option Bool :=
 (law17_three N).bind fun r0 =>
 ((law17_at N) 0).bind fun a1 =>
 ((ref17_Build N) r0 a1).bind fun a2 =>
 bif a2.2 != 0 then
  some false
 else
  bif (Int.ofNat a2.1.tree.nodes.length) != 3 then
   some false
  else
   (loopN N) (law17_HeaterNames_l1 N) (0, a2.1.clock.now.1, a2.1.clock.now.2, a2.1.clock.field.points, a2.1.clock.certs.next_, a2.1.clock.certs.list, a2.1.clock.agenda.slots.uses, a2.1.clock.agenda.slots.used, a2.1.clock.agenda.slots.free, a2.1.clock.agenda.heap, a2.1.clock.agenda.where_, a2.1.clock.due, a2.1.tree.root, a2.1.tree.nodes)
noncomputable def c3 (N : Nat) : Con := ⟨Args.nil, Arg.bool, fun a => (law17_HeaterNames N), .pure, false⟩
theorem c3_ok (N : Nat) : ConOK tab 3 (c3 N) := ConOK.of tab_3 (cx := (mkCx (loopL N) [(5, (c5 N)), (6, (c6 N)), (4, (c4 N)), (7, (c7 N)), (7, (c7p N)), (8, (c8 N)), (9, (c9 N)), (10, (c10 N)), (11, (c11 N)), (12, (c12 N)), (13, (c13 N)), (14, (c14 N))] [] [] [])) rfl (CxOK.make ⟨(c5_ok N), (c6_ok N), (c4_ok N), (c7_ok N), (c7p_ok N), (c8_ok N), (c9_ok N), (c10_ok N), (c11_ok N), (c12_ok N), (c13_ok N), (c14_ok N), trivial⟩ trivial trivial) (fun a => by kernel_rfl)
end Go.Proofs.YtppeldaebnfmdaaGreat
