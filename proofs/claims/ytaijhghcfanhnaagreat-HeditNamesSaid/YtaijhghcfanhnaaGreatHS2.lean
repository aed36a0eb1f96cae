/- Plain functions for what the functions of the seat compute. Printed by a program. -/
import Derived.Test.YtaijhghcfanhnaaGreatVm4
import Derived.Test.YtaijhghcfanhnaaGreatHXT
import Derived.Test.YtaijhghcfanhnaaGreatHS1
set_option maxRecDepth 100000
namespace Go.Proofs.YtaijhghcfanhnaaGreat
open Go.Vm
theorem c107_ok (N : Nat) : ConOK tab 107 (c107 N) := ConOK.of tab_107 (cx := (mkCx (loopL N) [(31, (c31 N)), (36, (c36 N)), (99, (c99 N)), (137, (c137 N)), (137, (c137p N)), (40, Con.clone kiii), (66, (c66 N)), (138, (c138 N)), (139, (c139 N)), (140, (c140 N)), (141, (c141 N))] [] [] [])) rfl (CxOK.make ⟨(c31_ok N), (c36_ok N), (c99_ok N), (c137_ok N), (c137p_ok N), prim_40, (c66_ok N), (c138_ok N), (c139_ok N), (c140_ok N), (c141_ok N), trivial⟩ trivial trivial) (fun a => by kernel_rfl)
noncomputable def kheap_renew_1 (_ : Nat) (p0 : Int × Int × Int) (p1 : Int × Int) : Option Bool :=
 some ((p0.2.1 == p1.1) && (p0.2.2 == p1.2))
noncomputable def c109 (N : Nat) : Con := ⟨Args.cons (Arg.agg (Cod.row kiii)) (Args.one (Arg.ref (Cod.row kii))), Arg.bool, fun a => (kheap_renew_1 N) a.1 a.2, .pure, false⟩
theorem c109_ok (N : Nat) : ConOK tab 109 (c109 N) := ConOK.of tab_109 (cx := (mkCx (loopL N) [] [] [] [])) rfl (CxOK.make trivial trivial trivial) (fun a => by kernel_rfl)
noncomputable def slices_IndexFunc_Held__kheap_renew_1_l1 (N : Nat) (s : ((List (Int × Int × Int)) × Int × Int × Int × Int)) : Option (Step ((List (Int × Int × Int)) × Int × Int × Int × Int) Int) :=
 bif decide (s.2.2.2.2 < s.2.2.2.1) then
  (geti s.1 s.2.2.2.2).bind fun a0 =>
  ((kheap_renew_1 N) a0 (s.2.1, s.2.2.1)).bind fun b1 =>
  bif b1 then
   some (.done s.2.2.2.2)
  else
   some (.next (s.1, s.2.1, s.2.2.1, s.2.2.2.1, wrapF .i64 (s.2.2.2.2 + 1)))
 else
  some (.done (-1))
noncomputable def slices_IndexFunc_Held__kheap_renew_1 (N : Nat) (p0 : List (Int × Int × Int)) (p1 : (Int × Int)) : Option Int :=
 (loopN N) (slices_IndexFunc_Held__kheap_renew_1_l1 N) (p0, p1.1, p1.2, Int.ofNat p0.length, 0)
noncomputable def c142_109 (N : Nat) : Con := ⟨Args.cons (Arg.sl kiii) (Args.one (Arg.clo 109 (Args.one (Arg.ref (Cod.row kii))))), Arg.int .i64, fun a => (slices_IndexFunc_Held__kheap_renew_1 N) a.1 a.2, .pure, false⟩
theorem c142_109_ok (N : Nat) : ConOK tab 142 (c142_109 N) := ConOK.of tab_142 (cx := (mkCx (loopL N) [(109, (c109 N))] [] [] [])) rfl (CxOK.make ⟨(c109_ok N), trivial⟩ trivial trivial) (fun a => by kernel_rfl)
noncomputable def slices_ContainsFunc_Held__kheap_renew_1 (N : Nat) (p0 : List (Int × Int × Int)) (p1 : (Int × Int)) : Option Bool :=
 ((slices_IndexFunc_Held__kheap_renew_1 N) p0 p1).bind fun n0 =>
 some (decide (0 ≤ n0))
noncomputable def c108_109 (N : Nat) : Con := ⟨Args.cons (Arg.sl kiii) (Args.one (Arg.clo 109 (Args.one (Arg.ref (Cod.row kii))))), Arg.bool, fun a => (slices_ContainsFunc_Held__kheap_renew_1 N) a.1 a.2, .pure, false⟩
theorem c108_109_ok (N : Nat) : ConOK tab 108 (c108_109 N) := ConOK.of tab_108 (cx := (mkCx (loopL N) [(142, (c142_109 N))] [] [] [])) rfl (CxOK.make ⟨(c142_109_ok N), trivial⟩ trivial trivial) (fun a => by kernel_rfl)
noncomputable def clock_Certify_1 (_ : Nat) (p0 : Int) : Option (Clock × Int × Int) :=
 some (Clock.mk (0, 0) (Field.mk []) (Certs.mk 0 []) (Agenda.mk (Slots.mk [] [] []) [] []) [], 0, p0)
noncomputable def c143 (N : Nat) : Con := ⟨Args.one (Arg.int .i64), Arg.tup (Args.cons (Arg.agg Clock_c) (Args.cons (Arg.int .i64) (Args.one (Arg.int .i64)))), fun a => (clock_Certify_1 N) a, .frz, false⟩
theorem c143_ok (N : Nat) : ConOK tab 143 (c143 N) := ConOK.of tab_143 (cx := (mkCx (loopL N) [] [] [] [])) rfl (CxOK.make trivial trivial trivial) (fun a => by kernel_rfl)
noncomputable def cert_Add_1 (_ : Nat) (p0 : Int × Int × Int) (p1 : Int × Int) : Option Bool :=
 some ((p0.2.1 == p1.1) && (p0.2.2 == p1.2))
noncomputable def c165 (N : Nat) : Con := ⟨Args.cons (Arg.agg (Cod.row kiii)) (Args.one (Arg.ref (Cod.row kii))), Arg.bool, fun a => (cert_Add_1 N) a.1 a.2, .pure, false⟩
theorem c165_ok (N : Nat) : ConOK tab 165 (c165 N) := ConOK.of tab_165 (cx := (mkCx (loopL N) [] [] [] [])) rfl (CxOK.make trivial trivial trivial) (fun a => by kernel_rfl)
noncomputable def slices_IndexFunc_Held__cert_Add_1_l1 (N : Nat) (s : ((List (Int × Int × Int)) × Int × Int × Int × Int)) : Option (Step ((List (Int × Int × Int)) × Int × Int × Int × Int) Int) :=
 bif decide (s.2.2.2.2 < s.2.2.2.1) then
  (geti s.1 s.2.2.2.2).bind fun a0 =>
  ((cert_Add_1 N) a0 (s.2.1, s.2.2.1)).bind fun b1 =>
  bif b1 then
   some (.done s.2.2.2.2)
  else
   some (.next (s.1, s.2.1, s.2.2.1, s.2.2.2.1, wrapF .i64 (s.2.2.2.2 + 1)))
 else
  some (.done (-1))
noncomputable def slices_IndexFunc_Held__cert_Add_1 (N : Nat) (p0 : List (Int × Int × Int)) (p1 : (Int × Int)) : Option Int :=
 (loopN N) (slices_IndexFunc_Held__cert_Add_1_l1 N) (p0, p1.1, p1.2, Int.ofNat p0.length, 0)
noncomputable def c142_165 (N : Nat) : Con := ⟨Args.cons (Arg.sl kiii) (Args.one (Arg.clo 165 (Args.one (Arg.ref (Cod.row kii))))), Arg.int .i64, fun a => (slices_IndexFunc_Held__cert_Add_1 N) a.1 a.2, .pure, false⟩
theorem c142_165_ok (N : Nat) : ConOK tab 142 (c142_165 N) := ConOK.of tab_142 (cx := (mkCx (loopL N) [(165, (c165 N))] [] [] [])) rfl (CxOK.make ⟨(c165_ok N), trivial⟩ trivial trivial) (fun a => by kernel_rfl)
noncomputable def slices_ContainsFunc_Held__cert_Add_1 (N : Nat) (p0 : List (Int × Int × Int)) (p1 : (Int × Int)) : Option Bool :=
 ((slices_IndexFunc_Held__cert_Add_1 N) p0 p1).bind fun n0 =>
 some (decide (0 ≤ n0))
noncomputable def c108_165 (N : Nat) : Con := ⟨Args.cons (Arg.sl kiii) (Args.one (Arg.clo 165 (Args.one (Arg.ref (Cod.row kii))))), Arg.bool, fun a => (slices_ContainsFunc_Held__cert_Add_1 N) a.1 a.2, .pure, false⟩
theorem c108_165_ok (N : Nat) : ConOK tab 108 (c108_165 N) := ConOK.of tab_108 (cx := (mkCx (loopL N) [(142, (c142_165 N))] [] [] [])) rfl (CxOK.make ⟨(c142_165_ok N), trivial⟩ trivial trivial) (fun a => by kernel_rfl)
noncomputable def cert_Add (N : Nat) (p0 : Certs) (p1 : Int × Int) : Option (Certs × Int × Int) :=
 ((cert_Check N) p0).bind fun n0 =>
 bif n0 != 0 then
  some (Certs.mk 0 [], 0, n0)
 else
  ((cert_valid N) p1).bind fun b1 =>
  bif !b1 then
   some (Certs.mk 0 [], 0, 8)
  else
   ((slices_ContainsFunc_Held__cert_Add_1 N) p0.list p1).bind fun b2 =>
   bif b2 then
    some (Certs.mk 0 [], 0, 14)
   else
    bif (Int.ofNat p0.list.length) == 200 then
     some (Certs.mk 0 [], 0, 18)
    else
     bif p0.next_ == 1000000 then
      some (Certs.mk 0 [], 0, 18)
     else
      (cloneO p0.list).bind fun l3 =>
      (appendO l3 [(p0.next_, p1)]).bind fun l4 =>
      some (Certs.mk (wrapF .i64 (p0.next_ + 1)) l4, p0.next_, 0)
noncomputable def c144 (N : Nat) : Con := ⟨Args.cons (Arg.agg Certs_c) (Args.one (Arg.agg (Cod.row kii))), Arg.tup (Args.cons (Arg.agg Certs_c) (Args.cons (Arg.int .i64) (Args.one (Arg.int .i64)))), fun a => (cert_Add N) a.1 a.2, .frz, false⟩
theorem c144_ok (N : Nat) : ConOK tab 144 (c144 N) := ConOK.of tab_144 (cx := (mkCx (loopL N) [(64, (c64 N)), (95, (c95 N)), (108, (c108_165 N)), (111, Con.clone kiii)] [] [] [])) rfl (CxOK.make ⟨(c64_ok N), (c95_ok N), (c108_165_ok N), prim_111, trivial⟩ trivial trivial) (fun a => by kernel_rfl)
noncomputable def clock_Certify (N : Nat) (p0 : Clock) (p1 : Int × Int) : Option (Clock × Int × Int) :=
 ((clock_Check N) p0).bind fun n0 =>
 bif n0 != 0 then
  ((clock_Certify_1 N) n0).bind fun a1 =>
  some a1
 else
  ((cert_Add N) p0.certs p1).bind fun a2 =>
  bif a2.2.2 == 8 then
   ((clock_Certify_1 N) a2.2.2).bind fun a3 =>
   some a3
  else
   ((clock_point N) p0.field p1.1).bind fun a4 =>
   bif decide (a4.1 < 0) then
    ((clock_Certify_1 N) 6).bind fun a5 =>
    some a5
   else
    ((clock_point N) p0.field p1.2).bind fun a6 =>
    bif decide (a6.1 < 0) then
     ((clock_Certify_1 N) 6).bind fun a7 =>
     some a7
    else
     bif a2.2.2 != 0 then
      ((clock_Certify_1 N) a2.2.2).bind fun a8 =>
      some a8
     else
      ((clock_twin N) p0).bind fun r9 =>
      ((clock_when N) p0.field p1 p0.now).bind fun a10 =>
      bif a10.2.2 != 0 then
       ((clock_Certify_1 N) a10.2.2).bind fun a11 =>
       some a11
      else
       bif a10.2.1 then
        ((agenda_Push N) p0.agenda a10.1 a2.2.1).bind fun a12 =>
        bif a12.2.2 != 0 then
         ((clock_Certify_1 N) a12.2.2).bind fun a13 =>
         some a13
        else
         (appendO r9.due [(a2.2.1, a12.2.1)]).bind fun l14 =>
         some (Clock.mk r9.now r9.field a2.1 a12.1 l14, a2.2.1, 0)
       else
        some (Clock.mk r9.now r9.field a2.1 r9.agenda r9.due, a2.2.1, 0)
noncomputable def c110 (N : Nat) : Con := ⟨Args.cons (Arg.agg Clock_c) (Args.one (Arg.agg (Cod.row kii))), Arg.tup (Args.cons (Arg.agg Clock_c) (Args.cons (Arg.int .i64) (Args.one (Arg.int .i64)))), fun a => (clock_Certify N) a.1 a.2, .frz, false⟩
theorem c110_ok (N : Nat) : ConOK tab 110 (c110 N) := ConOK.of tab_110 (cx := (mkCx (loopL N) [(31, (c31 N)), (143, (c143 N)), (144, (c144 N)), (99, (c99 N)), (137, (c137 N)), (137, (c137p N)), (66, (c66 N)), (140, (c140 N))] [] [] [])) rfl (CxOK.make ⟨(c31_ok N), (c143_ok N), (c144_ok N), (c99_ok N), (c137_ok N), (c137p_ok N), (c66_ok N), (c140_ok N), trivial⟩ trivial trivial) (fun a => by kernel_rfl)
noncomputable def kheap_renew_l1 (N : Nat) (s : ((List (Int × Int)) × Int × Int × Int × Int × (List (Int × Int × Int)) × Int × (List (Int × Int × Int)) × (List Int) × (List Bool) × (List Int) × (List (Int × Int × Int × Int × Int)) × (List Int) × (List (Int × Int × Int)) × Int × Int × Int)) : Option (Step ((List (Int × Int)) × Int × Int × Int × Int × (List (Int × Int × Int)) × Int × (List (Int × Int × Int)) × (List Int) × (List Bool) × (List Int) × (List (Int × Int × Int × Int × Int)) × (List Int) × (List (Int × Int × Int)) × Int × Int × Int) (Step ((List (Int × Int)) × (List (Int × Int × Int)) × Int × Int × Int × Int × (List (Int × Int × Int)) × Int × (List (Int × Int × Int)) × (List Int) × (List Bool) × (List Int) × (List (Int × Int × Int × Int × Int)) × (List Int) × (List (Int × Int × Int)) × (List (Int × Int × Int)) × Int × Int × Int) (Clock × Int))) :=
 bif decide (s.2.2.1 < s.2.1) then
  (geti s.1 s.2.2.1).bind fun a0 =>
  ((slices_ContainsFunc_Held__kheap_renew_1 N) s.2.2.2.2.2.2.2.1 a0).bind fun b1 =>
  bif b1 then
   some (.next (s.1, s.2.1, wrapF .i64 (s.2.2.1 + 1), s.2.2.2))
  else
   ((clock_Certify N) (Clock.mk (s.2.2.2.1, s.2.2.2.2.1) (Field.mk s.2.2.2.2.2.1) (Certs.mk s.2.2.2.2.2.2.1 s.2.2.2.2.2.2.2.1) (Agenda.mk (Slots.mk s.2.2.2.2.2.2.2.2.1 s.2.2.2.2.2.2.2.2.2.1 s.2.2.2.2.2.2.2.2.2.2.1) s.2.2.2.2.2.2.2.2.2.2.2.1 s.2.2.2.2.2.2.2.2.2.2.2.2.1) s.2.2.2.2.2.2.2.2.2.2.2.2.2.1) a0).bind fun a2 =>
   bif a2.2.2 != 0 then
    some (.done (.done (Clock.mk (0, 0) (Field.mk []) (Certs.mk 0 []) (Agenda.mk (Slots.mk [] [] []) [] []) [], a2.2.2)))
   else
    some (.next (s.1, s.2.1, wrapF .i64 (s.2.2.1 + 1), a2.1.now.1, a2.1.now.2, a2.1.field.points, a2.1.certs.next_, a2.1.certs.list, a2.1.agenda.slots.uses, a2.1.agenda.slots.used, a2.1.agenda.slots.free, a2.1.agenda.heap, a2.1.agenda.where_, a2.1.due, s.2.2.2.2.2.2.2.2.2.2.2.2.2.2))
 else
  some (.done (.done (Clock.mk (s.2.2.2.1, s.2.2.2.2.1) (Field.mk s.2.2.2.2.2.1) (Certs.mk s.2.2.2.2.2.2.1 s.2.2.2.2.2.2.2.1) (Agenda.mk (Slots.mk s.2.2.2.2.2.2.2.2.1 s.2.2.2.2.2.2.2.2.2.1 s.2.2.2.2.2.2.2.2.2.2.1) s.2.2.2.2.2.2.2.2.2.2.2.1 s.2.2.2.2.2.2.2.2.2.2.2.2.1) s.2.2.2.2.2.2.2.2.2.2.2.2.2.1, 0)))
noncomputable def kheap_renew_l2 (N : Nat) (s : ((List (Int × Int)) × (List (Int × Int × Int)) × Int × Int × Int × Int × (List (Int × Int × Int)) × Int × (List (Int × Int × Int)) × (List Int) × (List Bool) × (List Int) × (List (Int × Int × Int × Int × Int)) × (List Int) × (List (Int × Int × Int)) × (List (Int × Int × Int)) × Int × Int × Int)) : Option (Step ((List (Int × Int)) × (List (Int × Int × Int)) × Int × Int × Int × Int × (List (Int × Int × Int)) × Int × (List (Int × Int × Int)) × (List Int) × (List Bool) × (List Int) × (List (Int × Int × Int × Int × Int)) × (List Int) × (List (Int × Int × Int)) × (List (Int × Int × Int)) × Int × Int × Int) (Clock × Int)) :=
 bif decide (s.2.2.2.1 < s.2.2.1) then
  (geti s.2.1 s.2.2.2.1).bind fun a0 =>
  ((slices_Contains_Cert N) s.1 a0.2).bind fun b1 =>
  bif !b1 then
   ((clock_Retire N) (Clock.mk (s.2.2.2.2.1, s.2.2.2.2.2.1) (Field.mk s.2.2.2.2.2.2.1) (Certs.mk s.2.2.2.2.2.2.2.1 s.2.2.2.2.2.2.2.2.1) (Agenda.mk (Slots.mk s.2.2.2.2.2.2.2.2.2.1 s.2.2.2.2.2.2.2.2.2.2.1 s.2.2.2.2.2.2.2.2.2.2.2.1) s.2.2.2.2.2.2.2.2.2.2.2.2.1 s.2.2.2.2.2.2.2.2.2.2.2.2.2.1) s.2.2.2.2.2.2.2.2.2.2.2.2.2.2.1) a0.1).bind fun a2 =>
   some (.next (s.1, s.2.1, s.2.2.1, wrapF .i64 (s.2.2.2.1 + 1), a2.1.now.1, a2.1.now.2, a2.1.field.points, a2.1.certs.next_, a2.1.certs.list, a2.1.agenda.slots.uses, a2.1.agenda.slots.used, a2.1.agenda.slots.free, a2.1.agenda.heap, a2.1.agenda.where_, a2.1.due, s.2.2.2.2.2.2.2.2.2.2.2.2.2.2.2))
  else
   some (.next (s.1, s.2.1, s.2.2.1, wrapF .i64 (s.2.2.2.1 + 1), s.2.2.2.2))
 else
  ((slices_Equal_Point N) s.2.2.2.2.2.2.1 s.2.2.2.2.2.2.2.2.2.2.2.2.2.2.2.1).bind fun b3 =>
  bif !b3 then
   ((clock_Alter N) (Clock.mk (s.2.2.2.2.1, s.2.2.2.2.2.1) (Field.mk s.2.2.2.2.2.2.1) (Certs.mk s.2.2.2.2.2.2.2.1 s.2.2.2.2.2.2.2.2.1) (Agenda.mk (Slots.mk s.2.2.2.2.2.2.2.2.2.1 s.2.2.2.2.2.2.2.2.2.2.1 s.2.2.2.2.2.2.2.2.2.2.2.1) s.2.2.2.2.2.2.2.2.2.2.2.2.1 s.2.2.2.2.2.2.2.2.2.2.2.2.2.1) s.2.2.2.2.2.2.2.2.2.2.2.2.2.2.1) (Field.mk s.2.2.2.2.2.2.2.2.2.2.2.2.2.2.2.1)).bind fun a4 =>
   bif a4.2 != 0 then
    some (.done (Clock.mk (0, 0) (Field.mk []) (Certs.mk 0 []) (Agenda.mk (Slots.mk [] [] []) [] []) [], a4.2))
   else
    (loopN N) (kheap_renew_l1 N) (s.1, Int.ofNat s.1.length, 0, a4.1.now.1, a4.1.now.2, a4.1.field.points, a4.1.certs.next_, a4.1.certs.list, a4.1.agenda.slots.uses, a4.1.agenda.slots.used, a4.1.agenda.slots.free, a4.1.agenda.heap, a4.1.agenda.where_, a4.1.due, s.2.2.2.2.2.2.2.2.2.2.2.2.2.2.2.2)
  else
   (loopN N) (kheap_renew_l1 N) (s.1, Int.ofNat s.1.length, 0, s.2.2.2.2.1, s.2.2.2.2.2.1, s.2.2.2.2.2.2.1, s.2.2.2.2.2.2.2.1, s.2.2.2.2.2.2.2.2.1, s.2.2.2.2.2.2.2.2.2.1, s.2.2.2.2.2.2.2.2.2.2.1, s.2.2.2.2.2.2.2.2.2.2.2.1, s.2.2.2.2.2.2.2.2.2.2.2.2.1, s.2.2.2.2.2.2.2.2.2.2.2.2.2.1, s.2.2.2.2.2.2.2.2.2.2.2.2.2.2.1, s.2.2.2.2.2.2.2.2.2.2.2.2.2.2.2.2)
noncomputable def kheap_renew (N : Nat) (p0 : Clock) (p1 : Field) (p2 : List (Int × Int)) : Option (Clock × Int) :=
 (loopN N) (kheap_renew_l2 N) (p2, p0.certs.list, Int.ofNat p0.certs.list.length, 0, p0.now.1, p0.now.2, p0.field.points, p0.certs.next_, p0.certs.list, p0.agenda.slots.uses, p0.agenda.slots.used, p0.agenda.slots.free, p0.agenda.heap, p0.agenda.where_, p0.due, p1.points, 0, 0, 0)
noncomputable def c76 (N : Nat) : Con := ⟨Args.cons (Arg.agg Clock_c) (Args.cons (Arg.agg Field_c) (Args.one (Arg.sl kii))), Arg.tup (Args.cons (Arg.agg Clock_c) (Args.one (Arg.int .i64))), fun a => (kheap_renew N) a.1 a.2.1 a.2.2, .frz, false⟩
theorem c76_ok (N : Nat) : ConOK tab 76 (c76 N) := ConOK.of tab_76 (cx := (mkCx (loopL N) [(34, (c34 N)), (105, (c105 N)), (106, (c106 N)), (107, (c107 N)), (108, (c108_109 N)), (110, (c110 N))] [] [] [])) rfl (CxOK.make ⟨(c34_ok N), (c105_ok N), (c106_ok N), (c107_ok N), (c108_109_ok N), (c110_ok N), trivial⟩ trivial trivial) (fun a => by kernel_rfl)
noncomputable def kheap_Renew_l1 (N : Nat) (s : ((List (Int × Int)) × (List (Int × Int)) × Int × Int × Int × Int × (List (Int × Int × Int)) × Int × (List (Int × Int × Int)) × (List Int) × (List Bool) × (List Int) × (List (Int × Int × Int × Int × Int)) × (List Int) × (List (Int × Int × Int)) × (List (Int × Int × Int)) × Int × Int × Int)) : Option (Step ((List (Int × Int)) × (List (Int × Int)) × Int × Int × Int × Int × (List (Int × Int × Int)) × Int × (List (Int × Int × Int)) × (List Int) × (List Bool) × (List Int) × (List (Int × Int × Int × Int × Int)) × (List Int) × (List (Int × Int × Int)) × (List (Int × Int × Int)) × Int × Int × Int) (Step ((List (Int × Int)) × (List (Int × Int)) × Int × Int × Int × Int × (List (Int × Int × Int)) × Int × (List (Int × Int × Int)) × (List Int) × (List Bool) × (List Int) × (List (Int × Int × Int × Int × Int)) × (List Int) × (List (Int × Int × Int)) × (List (Int × Int × Int)) × Int × Int × Int) (Step ((List (Int × Int)) × (List (Int × Int)) × Int × Int × Int × Int × (List (Int × Int × Int)) × Int × (List (Int × Int × Int)) × (List Int) × (List Bool) × (List Int) × (List (Int × Int × Int × Int × Int)) × (List Int) × (List (Int × Int × Int)) × (List (Int × Int × Int)) × Int × Int × Int) (Clock × Int)))) :=
 bif decide (s.2.2.2.1 < s.2.2.1) then
  (geti s.2.1 s.2.2.2.1).bind fun a0 =>
  ((field_Find N) (Field.mk s.2.2.2.2.2.2.2.2.2.2.2.2.2.2.2.1) a0.1).bind fun a1 =>
  ((field_Find N) (Field.mk s.2.2.2.2.2.2.2.2.2.2.2.2.2.2.2.1) a0.2).bind fun a2 =>
  bif a1.2 != 0 then
   some (.done (.done (.done (Clock.mk (0, 0) (Field.mk []) (Certs.mk 0 []) (Agenda.mk (Slots.mk [] [] []) [] []) [], 6))))
  else
   bif a2.2 != 0 then
    some (.done (.done (.done (Clock.mk (0, 0) (Field.mk []) (Certs.mk 0 []) (Agenda.mk (Slots.mk [] [] []) [] []) [], 6))))
   else
    some (.next (s.1, s.2.1, s.2.2.1, wrapF .i64 (s.2.2.2.1 + 1), s.2.2.2.2))
 else
  ((kheap_twin N) (Clock.mk (s.2.2.2.2.1, s.2.2.2.2.2.1) (Field.mk s.2.2.2.2.2.2.1) (Certs.mk s.2.2.2.2.2.2.2.1 s.2.2.2.2.2.2.2.2.1) (Agenda.mk (Slots.mk s.2.2.2.2.2.2.2.2.2.1 s.2.2.2.2.2.2.2.2.2.2.1 s.2.2.2.2.2.2.2.2.2.2.2.1) s.2.2.2.2.2.2.2.2.2.2.2.2.1 s.2.2.2.2.2.2.2.2.2.2.2.2.2.1) s.2.2.2.2.2.2.2.2.2.2.2.2.2.2.1)).bind fun r3 =>
  ((kheap_renew N) r3 (Field.mk s.2.2.2.2.2.2.2.2.2.2.2.2.2.2.2.1) s.1).bind fun a4 =>
  some (.done (.done (.done a4)))
noncomputable def kheap_Renew_l2 (N : Nat) (s : ((List (Int × Int)) × (List (Int × Int)) × Int × Int × Int × Int × (List (Int × Int × Int)) × Int × (List (Int × Int × Int)) × (List Int) × (List Bool) × (List Int) × (List (Int × Int × Int × Int × Int)) × (List Int) × (List (Int × Int × Int)) × (List (Int × Int × Int)) × Int × Int × Int)) : Option (Step ((List (Int × Int)) × (List (Int × Int)) × Int × Int × Int × Int × (List (Int × Int × Int)) × Int × (List (Int × Int × Int)) × (List Int) × (List Bool) × (List Int) × (List (Int × Int × Int × Int × Int)) × (List Int) × (List (Int × Int × Int)) × (List (Int × Int × Int)) × Int × Int × Int) (Step ((List (Int × Int)) × (List (Int × Int)) × Int × Int × Int × Int × (List (Int × Int × Int)) × Int × (List (Int × Int × Int)) × (List Int) × (List Bool) × (List Int) × (List (Int × Int × Int × Int × Int)) × (List Int) × (List (Int × Int × Int)) × (List (Int × Int × Int)) × Int × Int × Int) (Clock × Int))) :=
 bif decide (s.2.2.2.1 < s.2.2.1) then
  (geti s.2.1 s.2.2.2.1).bind fun a0 =>
  (sliceO s.1 0 s.2.2.2.1).bind fun l1 =>
  ((slices_Contains_Cert N) l1 a0).bind fun b2 =>
  bif b2 then
   some (.done (.done (Clock.mk (0, 0) (Field.mk []) (Certs.mk 0 []) (Agenda.mk (Slots.mk [] [] []) [] []) [], 14)))
  else
   some (.next (s.1, s.2.1, s.2.2.1, wrapF .i64 (s.2.2.2.1 + 1), s.2.2.2.2))
 else
  (loopN N) (kheap_Renew_l1 N) (s.1, s.1, Int.ofNat s.1.length, 0, s.2.2.2.2)
noncomputable def kheap_Renew_l3 (N : Nat) (s : ((List (Int × Int)) × (List (Int × Int)) × Int × Int × Int × Int × (List (Int × Int × Int)) × Int × (List (Int × Int × Int)) × (List Int) × (List Bool) × (List Int) × (List (Int × Int × Int × Int × Int)) × (List Int) × (List (Int × Int × Int)) × (List (Int × Int × Int)) × Int × Int × Int)) : Option (Step ((List (Int × Int)) × (List (Int × Int)) × Int × Int × Int × Int × (List (Int × Int × Int)) × Int × (List (Int × Int × Int)) × (List Int) × (List Bool) × (List Int) × (List (Int × Int × Int × Int × Int)) × (List Int) × (List (Int × Int × Int)) × (List (Int × Int × Int)) × Int × Int × Int) (Clock × Int)) :=
 bif decide (s.2.2.2.1 < s.2.2.1) then
  (geti s.2.1 s.2.2.2.1).bind fun a0 =>
  bif decide (a0.1 < 0) then
   some (.done (Clock.mk (0, 0) (Field.mk []) (Certs.mk 0 []) (Agenda.mk (Slots.mk [] [] []) [] []) [], 8))
  else
   bif decide (a0.2 < 0) then
    some (.done (Clock.mk (0, 0) (Field.mk []) (Certs.mk 0 []) (Agenda.mk (Slots.mk [] [] []) [] []) [], 8))
   else
    bif decide (65535 < a0.1) then
     some (.done (Clock.mk (0, 0) (Field.mk []) (Certs.mk 0 []) (Agenda.mk (Slots.mk [] [] []) [] []) [], 8))
    else
     bif decide (65535 < a0.2) then
      some (.done (Clock.mk (0, 0) (Field.mk []) (Certs.mk 0 []) (Agenda.mk (Slots.mk [] [] []) [] []) [], 8))
     else
      bif a0.1 == a0.2 then
       some (.done (Clock.mk (0, 0) (Field.mk []) (Certs.mk 0 []) (Agenda.mk (Slots.mk [] [] []) [] []) [], 8))
      else
       some (.next (s.1, s.2.1, s.2.2.1, wrapF .i64 (s.2.2.2.1 + 1), s.2.2.2.2))
 else
  (loopN N) (kheap_Renew_l2 N) (s.1, s.1, Int.ofNat s.1.length, 0, s.2.2.2.2)
noncomputable def kheap_Renew (N : Nat) (p0 : Clock) (p1 : Field) (p2 : List (Int × Int)) : Option (Clock × Int) :=
 ((clock_Check N) p0).bind fun n0 =>
 bif n0 != 0 then
  some (Clock.mk (0, 0) (Field.mk []) (Certs.mk 0 []) (Agenda.mk (Slots.mk [] [] []) [] []) [], n0)
 else
  ((field_Check N) p1).bind fun n1 =>
  bif n1 != 0 then
   some (Clock.mk (0, 0) (Field.mk []) (Certs.mk 0 []) (Agenda.mk (Slots.mk [] [] []) [] []) [], n1)
  else
   (loopN N) (kheap_Renew_l3 N) (p2, p2, Int.ofNat p2.length, 0, p0.now.1, p0.now.2, p0.field.points, p0.certs.next_, p0.certs.list, p0.agenda.slots.uses, p0.agenda.slots.used, p0.agenda.slots.free, p0.agenda.heap, p0.agenda.where_, p0.due, p1.points, 0, 0, 0)
noncomputable def c46 (N : Nat) : Con := ⟨Args.cons (Arg.agg Clock_c) (Args.cons (Arg.agg Field_c) (Args.one (Arg.sl kii))), Arg.tup (Args.cons (Arg.agg Clock_c) (Args.one (Arg.int .i64))), fun a => (kheap_Renew N) a.1 a.2.1 a.2.2, .frz, false⟩
theorem c46_ok (N : Nat) : ConOK tab 46 (c46 N) := ConOK.of tab_46 (cx := (mkCx (loopL N) [(31, (c31 N)), (36, (c36 N)), (34, (c34 N)), (42, (c42 N)), (77, (c77 N)), (77, (c77p N)), (76, (c76 N))] [] [] [])) rfl (CxOK.make ⟨(c31_ok N), (c36_ok N), (c34_ok N), (c42_ok N), (c77_ok N), (c77p_ok N), (c76_ok N), trivial⟩ trivial trivial) (fun a => by kernel_rfl)
noncomputable def hedit_settled (N : Nat) (p0 : Clock) (p1 : Field) (p2 : List Int) : Option (KHeap × Int) :=
 ((hedit_edges N) p2).bind fun l0 =>
 ((kheap_Renew N) p0 p1 l0).bind fun a1 =>
 bif a1.2 != 0 then
  some (KHeap.mk (Clock.mk (0, 0) (Field.mk []) (Certs.mk 0 []) (Agenda.mk (Slots.mk [] [] []) [] []) []) [], a1.2)
 else
  some (KHeap.mk a1.1 p2, 0)
noncomputable def c18 (N : Nat) : Con := ⟨Args.cons (Arg.agg Clock_c) (Args.cons (Arg.agg Field_c) (Args.one (Arg.sl ki))), Arg.tup (Args.cons (Arg.agg KHeap_c) (Args.one (Arg.int .i64))), fun a => (hedit_settled N) a.1 a.2.1 a.2.2, .frz, false⟩
theorem c18_ok (N : Nat) : ConOK tab 18 (c18 N) := ConOK.of tab_18 (cx := (mkCx (loopL N) [(47, (c47 N)), (46, (c46 N))] [] [] [])) rfl (CxOK.make ⟨(c47_ok N), (c46_ok N), trivial⟩ trivial trivial) (fun a => by kernel_rfl)
noncomputable def hedit_Put_l1 (N : Nat) (c0 : (Int × Int × Int)) (c1 : (List Int)) (s : (Int × Int × Int × (List (Int × Int × Int)) × Int × (List (Int × Int × Int)) × (List Int) × (List Bool) × (List Int) × (List (Int × Int × Int × Int × Int)) × (List Int) × (List (Int × Int × Int)) × (List Int) × Int × Int × Int × Int × Int × Int × (List (Int × Int × Int)) × (List Int) × (List Int) × (List (Int × Int × Int)) × Int × Int)) : Option (Step (Int × Int × Int × (List (Int × Int × Int)) × Int × (List (Int × Int × Int)) × (List Int) × (List Bool) × (List Int) × (List (Int × Int × Int × Int × Int)) × (List Int) × (List (Int × Int × Int)) × (List Int) × Int × Int × Int × Int × Int × Int × (List (Int × Int × Int)) × (List Int) × (List Int) × (List (Int × Int × Int)) × Int × Int) (KHeap × Int)) :=
 bif decide (0 < s.1) then
  (geti s.2.2.2.2.2.2.2.2.2.2.2.2.2.2.2.2.2.2.2.2.2.1 s.1).bind fun n0 =>
  ((field_Find N) (Field.mk s.2.2.2.2.2.2.2.2.2.2.2.2.2.2.2.2.2.2.2.2.2.2.1) n0).bind fun a1 =>
  (geti s.2.2.2.2.2.2.2.2.2.2.2.2.2.2.2.2.2.2.2.2.2.1 (wrapF .i64 (Int.tdiv (wrapF .i64 (s.1 - 1)) 2))).bind fun n2 =>
  ((field_Find N) (Field.mk s.2.2.2.2.2.2.2.2.2.2.2.2.2.2.2.2.2.2.2.2.2.2.1) n2).bind fun a3 =>
  ((course_Ahead N) a1.1 a3.1 s.2.2.2.2.2.2.2.2.2.2.2.2.2.2.2.2.2.2.2.2.2.2.2).bind fun a4 =>
  bif s.2.2.2.2.2.2.2.2.2.2.2.2.2.2.2.2.2.2.2.2.1.length == s.2.2.2.2.2.2.2.2.2.2.2.2.2.2.2.2.2.2.2.2.1.length then
   bif s.2.2.2.2.2.2.2.2.2.2.2.2.2.2.2.2.2.2.2.2.2.1.length == s.2.2.2.2.2.2.2.2.2.2.2.2.2.2.2.2.2.2.2.2.2.1.length then
    bif a4.1 then
     (geti s.2.2.2.2.2.2.2.2.2.2.2.2.2.2.2.2.2.2.2.2.2.1 (wrapF .i64 (Int.tdiv (wrapF .i64 (s.1 - 1)) 2))).bind fun n5 =>
     (geti s.2.2.2.2.2.2.2.2.2.2.2.2.2.2.2.2.2.2.2.2.2.1 s.1).bind fun n6 =>
     (geti s.2.2.2.2.2.2.2.2.2.2.2.2.2.2.2.2.2.2.2.2.2.1 s.1).bind fun _ =>
     (geti (seti s.2.2.2.2.2.2.2.2.2.2.2.2.2.2.2.2.2.2.2.2.2.1 s.1 n5) (wrapF .i64 (Int.tdiv (wrapF .i64 (s.1 - 1)) 2))).bind fun _ =>
     some (.next (wrapF .i64 (Int.tdiv (wrapF .i64 (s.1 - 1)) 2), s.2.1, s.2.2.1, s.2.2.2.1, s.2.2.2.2.1, s.2.2.2.2.2.1, s.2.2.2.2.2.2.1, s.2.2.2.2.2.2.2.1, s.2.2.2.2.2.2.2.2.1, s.2.2.2.2.2.2.2.2.2.1, s.2.2.2.2.2.2.2.2.2.2.1, s.2.2.2.2.2.2.2.2.2.2.2.1, s.2.2.2.2.2.2.2.2.2.2.2.2.1, s.2.2.2.2.2.2.2.2.2.2.2.2.2.1, s.2.2.2.2.2.2.2.2.2.2.2.2.2.2.1, s.2.2.2.2.2.2.2.2.2.2.2.2.2.2.2.1, s.2.2.2.2.2.2.2.2.2.2.2.2.2.2.2.2.1, s.2.2.2.2.2.2.2.2.2.2.2.2.2.2.2.2.2.1, s.2.2.2.2.2.2.2.2.2.2.2.2.2.2.2.2.2.2.1, s.2.2.2.2.2.2.2.2.2.2.2.2.2.2.2.2.2.2.2.1, s.2.2.2.2.2.2.2.2.2.2.2.2.2.2.2.2.2.2.2.2.1, seti (seti s.2.2.2.2.2.2.2.2.2.2.2.2.2.2.2.2.2.2.2.2.2.1 s.1 n5) (wrapF .i64 (Int.tdiv (wrapF .i64 (s.1 - 1)) 2)) n6, s.2.2.2.2.2.2.2.2.2.2.2.2.2.2.2.2.2.2.2.2.2.2))
    else
     bif s.2.2.2.2.2.2.2.2.2.2.2.2.2.2.2.2.2.2.2.2.1.length == [c0.1].length then
      bif s.2.2.2.2.2.2.2.2.2.2.2.2.2.2.2.2.2.2.2.2.2.1.length == c1.length then
       ((hedit_settled N) (Clock.mk (s.2.1, s.2.2.1) (Field.mk s.2.2.2.1) (Certs.mk s.2.2.2.2.1 s.2.2.2.2.2.1) (Agenda.mk (Slots.mk s.2.2.2.2.2.2.1 s.2.2.2.2.2.2.2.1 s.2.2.2.2.2.2.2.2.1) s.2.2.2.2.2.2.2.2.2.1 s.2.2.2.2.2.2.2.2.2.2.1) s.2.2.2.2.2.2.2.2.2.2.2.1) (Field.mk s.2.2.2.2.2.2.2.2.2.2.2.2.2.2.2.2.2.2.2.1) s.2.2.2.2.2.2.2.2.2.2.2.2.2.2.2.2.2.2.2.2.2.1).bind fun a9 =>
       some (.done a9)
      else
       none
     else
      none
   else
    none
  else
   none
 else
  bif s.2.2.2.2.2.2.2.2.2.2.2.2.2.2.2.2.2.2.2.2.1.length == [c0.1].length then
   bif s.2.2.2.2.2.2.2.2.2.2.2.2.2.2.2.2.2.2.2.2.2.1.length == c1.length then
    ((hedit_settled N) (Clock.mk (s.2.1, s.2.2.1) (Field.mk s.2.2.2.1) (Certs.mk s.2.2.2.2.1 s.2.2.2.2.2.1) (Agenda.mk (Slots.mk s.2.2.2.2.2.2.1 s.2.2.2.2.2.2.2.1 s.2.2.2.2.2.2.2.2.1) s.2.2.2.2.2.2.2.2.2.1 s.2.2.2.2.2.2.2.2.2.2.1) s.2.2.2.2.2.2.2.2.2.2.2.1) (Field.mk s.2.2.2.2.2.2.2.2.2.2.2.2.2.2.2.2.2.2.2.1) s.2.2.2.2.2.2.2.2.2.2.2.2.2.2.2.2.2.2.2.2.2.1).bind fun a10 =>
    some (.done a10)
   else
    none
  else
   none
noncomputable def hedit_Put (N : Nat) (p0 : KHeap) (p1 : Int × Int × Int) : Option (KHeap × Int) :=
 ((kheap_Check N) p0).bind fun n0 =>
 bif n0 != 0 then
  some (KHeap.mk (Clock.mk (0, 0) (Field.mk []) (Certs.mk 0 []) (Agenda.mk (Slots.mk [] [] []) [] []) []) [], n0)
 else
  ((field_Put N) p0.clock.field p1).bind fun a1 =>
  bif a1.2 != 0 then
   some (KHeap.mk (Clock.mk (0, 0) (Field.mk []) (Certs.mk 0 []) (Agenda.mk (Slots.mk [] [] []) [] []) []) [], a1.2)
  else
   (cloneO p0.heap).bind fun l2 =>
   (appendO l2 [p1.1]).bind fun l3 =>
   bif l3.length == l3.length then
    (loopN N) ((hedit_Put_l1 N) p1 l3) (wrapF .i64 ((Int.ofNat l3.length) - 1), p0.clock.now.1, p0.clock.now.2, p0.clock.field.points, p0.clock.certs.next_, p0.clock.certs.list, p0.clock.agenda.slots.uses, p0.clock.agenda.slots.used, p0.clock.agenda.slots.free, p0.clock.agenda.heap, p0.clock.agenda.where_, p0.clock.due, p0.heap, p1.1, p1.2.1, p1.2.2, 0, 0, 0, a1.1.points, [p1.1], l3, a1.1.points, p0.clock.now)
   else
    none
noncomputable def c5 (N : Nat) : Con := ⟨Args.cons (Arg.agg KHeap_c) (Args.one (Arg.agg (Cod.row kiii))), Arg.tup (Args.cons (Arg.agg KHeap_c) (Args.one (Arg.int .i64))), fun a => (hedit_Put N) a.1 a.2, .frz, false⟩
theorem c5_ok (N : Nat) : ConOK tab 5 (c5 N) := ConOK.of tab_5 (cx := (mkCx (loopL N) [(14, (c14 N)), (15, (c15 N)), (16, Con.clone ki), (42, (c42 N)), (43, (c43 N)), (18, (c18 N))] [] [(17, x17), (41, x41), (44, x44), (45, x45)] [])) rfl (CxOK.make ⟨(c14_ok N), (c15_ok N), prim_16, (c42_ok N), (c43_ok N), (c18_ok N), trivial⟩ trivial ⟨tab_17, tab_41, tab_44, tab_45, trivial⟩) (fun a => by kernel_rfl)
noncomputable def slices_Delete_Point_w821 (_ : Nat) (a : (Int × Int × (List (Int × Int × Int)))) : Option (Nat × Nat × (List (Int × Int × Int))) :=
 bif (((decide (0 ≤ a.1)) && (decide (a.1 ≤ a.2.1))) && (decide (a.2.1 ≤ (Int.ofNat a.2.2.length)))) && (decide ((Int.ofNat a.2.2.length) ≤ (Int.ofNat a.2.2.length))) then
  bif a.1 == a.2.1 then
   bif a.2.2.length == a.2.2.length then
    some (a.2.2.length, a.2.2.length, a.2.2)
   else
    none
  else
   (sliceO a.2.2 0 a.1).bind fun _ =>
   bif ((decide (0 ≤ a.2.1)) && (decide (a.2.1 ≤ (Int.ofNat a.2.2.length)))) && (decide ((Int.ofNat a.2.2.length) ≤ (Int.ofNat a.2.2.length))) then
    bif ((a.2.2.drop (0 + a.2.1.toNat)).take (((Int.ofNat a.2.2.length).toNat) - a.2.1.toNat)).isEmpty then
     bif ((decide (0 ≤ (Int.ofNat a.1.toNat))) && (decide ((Int.ofNat a.1.toNat) ≤ (Int.ofNat a.2.2.length)))) && (decide ((Int.ofNat a.2.2.length) ≤ (Int.ofNat a.2.2.length))) then
      bif Nat.beq (((Int.ofNat a.2.2.length).toNat) - ((Int.ofNat a.1.toNat).toNat)) 0 then
       bif a.2.2.length == a.2.2.length then
        some (a.1.toNat, a.2.2.length, a.2.2)
       else
        none
      else
       bif (Nat.ble ((0 + ((Int.ofNat a.1.toNat).toNat)) + (((Int.ofNat a.2.2.length).toNat) - ((Int.ofNat a.1.toNat).toNat))) a.2.2.length) && (!false) then
        bif ((layL a.2.2 (0 + ((Int.ofNat a.1.toNat).toNat)) (List.replicate (((Int.ofNat a.2.2.length).toNat) - ((Int.ofNat a.1.toNat).toNat)) (0, 0, 0))).length) == a.2.2.length then
         some (a.1.toNat, a.2.2.length, layL a.2.2 (0 + ((Int.ofNat a.1.toNat).toNat)) (List.replicate (((Int.ofNat a.2.2.length).toNat) - ((Int.ofNat a.1.toNat).toNat)) (0, 0, 0)))
        else
         none
       else
        none
     else
      none
    else
     bif Nat.ble (a.1.toNat + (((a.2.2.drop (0 + a.2.1.toNat)).take (((Int.ofNat a.2.2.length).toNat) - a.2.1.toNat)).length)) a.2.2.length then
      bif (Nat.ble (a.1.toNat + (((a.2.2.drop (0 + a.2.1.toNat)).take (((Int.ofNat a.2.2.length).toNat) - a.2.1.toNat)).length)) a.2.2.length) && (!false) then
       bif ((decide (0 ≤ (Int.ofNat (a.1.toNat + (((a.2.2.drop (0 + a.2.1.toNat)).take (((Int.ofNat a.2.2.length).toNat) - a.2.1.toNat)).length))))) && (decide ((Int.ofNat (a.1.toNat + (((a.2.2.drop (0 + a.2.1.toNat)).take (((Int.ofNat a.2.2.length).toNat) - a.2.1.toNat)).length))) ≤ (Int.ofNat a.2.2.length)))) && (decide ((Int.ofNat a.2.2.length) ≤ (Int.ofNat a.2.2.length))) then
        bif Nat.beq (((Int.ofNat a.2.2.length).toNat) - ((Int.ofNat (a.1.toNat + (((a.2.2.drop (0 + a.2.1.toNat)).take (((Int.ofNat a.2.2.length).toNat) - a.2.1.toNat)).length))).toNat)) 0 then
         bif ((layL a.2.2 a.1.toNat ((a.2.2.drop (0 + a.2.1.toNat)).take (((Int.ofNat a.2.2.length).toNat) - a.2.1.toNat))).length) == a.2.2.length then
          some (a.1.toNat + (((a.2.2.drop (0 + a.2.1.toNat)).take (((Int.ofNat a.2.2.length).toNat) - a.2.1.toNat)).length), a.2.2.length, layL a.2.2 a.1.toNat ((a.2.2.drop (0 + a.2.1.toNat)).take (((Int.ofNat a.2.2.length).toNat) - a.2.1.toNat)))
         else
          none
        else
         bif (Nat.ble ((0 + ((Int.ofNat (a.1.toNat + (((a.2.2.drop (0 + a.2.1.toNat)).take (((Int.ofNat a.2.2.length).toNat) - a.2.1.toNat)).length))).toNat)) + (((Int.ofNat a.2.2.length).toNat) - ((Int.ofNat (a.1.toNat + (((a.2.2.drop (0 + a.2.1.toNat)).take (((Int.ofNat a.2.2.length).toNat) - a.2.1.toNat)).length))).toNat))) ((layL a.2.2 a.1.toNat ((a.2.2.drop (0 + a.2.1.toNat)).take (((Int.ofNat a.2.2.length).toNat) - a.2.1.toNat))).length)) && (!false) then
          bif ((layL (layL a.2.2 a.1.toNat ((a.2.2.drop (0 + a.2.1.toNat)).take (((Int.ofNat a.2.2.length).toNat) - a.2.1.toNat))) (0 + ((Int.ofNat (a.1.toNat + (((a.2.2.drop (0 + a.2.1.toNat)).take (((Int.ofNat a.2.2.length).toNat) - a.2.1.toNat)).length))).toNat)) (List.replicate (((Int.ofNat a.2.2.length).toNat) - ((Int.ofNat (a.1.toNat + (((a.2.2.drop (0 + a.2.1.toNat)).take (((Int.ofNat a.2.2.length).toNat) - a.2.1.toNat)).length))).toNat)) (0, 0, 0))).length) == a.2.2.length then
           some (a.1.toNat + (((a.2.2.drop (0 + a.2.1.toNat)).take (((Int.ofNat a.2.2.length).toNat) - a.2.1.toNat)).length), a.2.2.length, layL (layL a.2.2 a.1.toNat ((a.2.2.drop (0 + a.2.1.toNat)).take (((Int.ofNat a.2.2.length).toNat) - a.2.1.toNat))) (0 + ((Int.ofNat (a.1.toNat + (((a.2.2.drop (0 + a.2.1.toNat)).take (((Int.ofNat a.2.2.length).toNat) - a.2.1.toNat)).length))).toNat)) (List.replicate (((Int.ofNat a.2.2.length).toNat) - ((Int.ofNat (a.1.toNat + (((a.2.2.drop (0 + a.2.1.toNat)).take (((Int.ofNat a.2.2.length).toNat) - a.2.1.toNat)).length))).toNat)) (0, 0, 0)))
          else
           none
         else
          none
       else
        none
      else
       none
     else
      none
   else
    none
 else
  none
noncomputable def f49_0 (N : Nat) : FpCon := ⟨[.i, .i, .l [.i .i64, .i .i64, .i .i64]], [.own 0 false, .int .i64 0, .int .i64 0], [.arr [.i .i64, .i .i64, .i .i64] []], [.n, .n, .l [.i .i64, .i .i64, .i .i64]], .pre 0 0 0 false, [.arr [.i .i64, .i .i64, .i .i64] []], fun a => (slices_Delete_Point_w821 N) a⟩
theorem f49_0_ok (N : Nat) : FpOK tab 49 (f49_0 N) := FpOK.of tab_49 (wd := true) (cx := (mkCx (loopL N) [] [] [] [])) (CxOK.make trivial trivial trivial) (fun a => by kernel_rfl)
noncomputable def field_Take (N : Nat) (p0 : Field) (p1 : Int) : Option (Field × Int) :=
 ((field_place N) p0 p1).bind fun a0 =>
 bif a0.2 != 0 then
  some (Field.mk [], a0.2)
 else
  (cloneO p0.points).bind fun l1 =>
  ((slices_Delete_Point_w821 N) (a0.1, wrapF .i64 (a0.1 + 1), l1)).bind fun a2 =>
  some (Field.mk (a2.2.2.take a2.1), 0)
noncomputable def c19 (N : Nat) : Con := ⟨Args.cons (Arg.agg Field_c) (Args.one (Arg.int .i64)), Arg.tup (Args.cons (Arg.agg Field_c) (Args.one (Arg.int .i64))), fun a => (field_Take N) a.1 a.2, .frz, false⟩
theorem c19_ok (N : Nat) : ConOK tab 19 (c19 N) := ConOK.of tab_19 (cx := (mkCx (loopL N) [(48, (c48 N)), (40, Con.clone kiii)] [(49, (f49_0 N))] [] [])) rfl (CxOK.make ⟨(c48_ok N), prim_40, trivial⟩ ⟨(f49_0_ok N), trivial⟩ trivial) (fun a => by kernel_rfl)
noncomputable def hedit_Take_l1 (N : Nat) (c0 : (Int × Int × Int × (List (Int × Int × Int)) × Int × (List (Int × Int × Int)) × (List Int) × (List Bool) × (List Int) × (List (Int × Int × Int × Int × Int)) × (List Int) × (List (Int × Int × Int)) × (List Int) × Int × Int × Int × (List (Int × Int × Int)) × (List Int) × (List (Int × Int × Int)) × Int × Int × Nat × Nat)) (c1 : (List Int)) (s : (Int × Int × Int × Int × Int × (List (Int × Int × Int)) × Int × (List (Int × Int × Int)) × (List Int) × (List Bool) × (List Int) × (List (Int × Int × Int × Int × Int)) × (List Int) × (List (Int × Int × Int)) × (List Int) × Int × Int × Int × (List (Int × Int × Int)) × (List Int) × (List (Int × Int × Int)) × Int × Int × Nat × Nat × Int × Int × Int × Int × Int × Int)) : Option (Step (Int × Int × Int × Int × Int × (List (Int × Int × Int)) × Int × (List (Int × Int × Int)) × (List Int) × (List Bool) × (List Int) × (List (Int × Int × Int × Int × Int)) × (List Int) × (List (Int × Int × Int)) × (List Int) × Int × Int × Int × (List (Int × Int × Int)) × (List Int) × (List (Int × Int × Int)) × Int × Int × Nat × Nat × Int × Int × Int × Int × Int × Int) (Step (Int × Int × Int × (List (Int × Int × Int)) × Int × (List (Int × Int × Int)) × (List Int) × (List Bool) × (List Int) × (List (Int × Int × Int × Int × Int)) × (List Int) × (List (Int × Int × Int)) × (List Int) × Int × Int × Int × (List (Int × Int × Int)) × (List Int) × (List (Int × Int × Int)) × Int × Int × Nat × Nat × Int × Int × Int × Int × Int × Int) (Step (Int × Int × Int × (List (Int × Int × Int)) × Int × (List (Int × Int × Int)) × (List Int) × (List Bool) × (List Int) × (List (Int × Int × Int × Int × Int)) × (List Int) × (List (Int × Int × Int)) × (List Int) × Int × Int × Int × (List (Int × Int × Int)) × (List Int) × (List (Int × Int × Int)) × Int × Int × Nat × Nat) (KHeap × Int)))) :=
 bif decide (s.2.2.1 ≤ (wrapF .i64 ((wrapF .i64 (2 * s.1)) + 2))) then
  bif decide (s.2.2.1 < (Int.ofNat s.2.2.2.2.2.2.2.2.2.2.2.2.2.2.2.2.2.2.2.2.2.2.2.1)) then
   (geti (s.2.2.2.2.2.2.2.2.2.2.2.2.2.2.2.2.2.2.2.1.take s.2.2.2.2.2.2.2.2.2.2.2.2.2.2.2.2.2.2.2.2.2.2.2.1) s.2.2.1).bind fun n0 =>
   ((field_Find N) (Field.mk s.2.2.2.2.2.2.2.2.2.2.2.2.2.2.2.2.2.2.2.2.1) n0).bind fun a1 =>
   (geti (s.2.2.2.2.2.2.2.2.2.2.2.2.2.2.2.2.2.2.2.1.take s.2.2.2.2.2.2.2.2.2.2.2.2.2.2.2.2.2.2.2.2.2.2.2.1) s.2.1).bind fun n2 =>
   ((field_Find N) (Field.mk s.2.2.2.2.2.2.2.2.2.2.2.2.2.2.2.2.2.2.2.2.1) n2).bind fun a3 =>
   ((course_Ahead N) a1.1 a3.1 (s.2.2.2.2.2.2.2.2.2.2.2.2.2.2.2.2.2.2.2.2.2.1, s.2.2.2.2.2.2.2.2.2.2.2.2.2.2.2.2.2.2.2.2.2.2.1)).bind fun a4 =>
   bif s.2.2.2.2.2.2.2.2.2.2.2.2.2.2.2.2.2.2.2.1.length == s.2.2.2.2.2.2.2.2.2.2.2.2.2.2.2.2.2.2.2.1.length then
    bif a4.1 then
     some (.next (s.1, s.2.2.1, wrapF .i64 (s.2.2.1 + 1), s.2.2.2))
    else
     some (.next (s.1, s.2.1, wrapF .i64 (s.2.2.1 + 1), s.2.2.2))
   else
    none
  else
   bif s.2.1 == s.1 then
    bif s.2.2.2.2.2.2.2.2.2.2.2.2.2.2.2.2.2.2.2.1.length == c0.2.2.2.2.2.2.2.2.2.2.2.2.2.2.2.2.2.1.length then
     ((hedit_settled N) (Clock.mk (s.2.2.2.1, s.2.2.2.2.1) (Field.mk s.2.2.2.2.2.1) (Certs.mk s.2.2.2.2.2.2.1 s.2.2.2.2.2.2.2.1) (Agenda.mk (Slots.mk s.2.2.2.2.2.2.2.2.1 s.2.2.2.2.2.2.2.2.2.1 s.2.2.2.2.2.2.2.2.2.2.1) s.2.2.2.2.2.2.2.2.2.2.2.1 s.2.2.2.2.2.2.2.2.2.2.2.2.1) s.2.2.2.2.2.2.2.2.2.2.2.2.2.1) (Field.mk s.2.2.2.2.2.2.2.2.2.2.2.2.2.2.2.2.2.2.1) (s.2.2.2.2.2.2.2.2.2.2.2.2.2.2.2.2.2.2.2.1.take ((wrapF .i64 ((Int.ofNat c1.length) - 1)).toNat))).bind fun a5 =>
     some (.done (.done (.done a5)))
    else
     none
   else
    (geti (s.2.2.2.2.2.2.2.2.2.2.2.2.2.2.2.2.2.2.2.1.take s.2.2.2.2.2.2.2.2.2.2.2.2.2.2.2.2.2.2.2.2.2.2.2.1) s.2.1).bind fun n6 =>
    (geti (s.2.2.2.2.2.2.2.2.2.2.2.2.2.2.2.2.2.2.2.1.take s.2.2.2.2.2.2.2.2.2.2.2.2.2.2.2.2.2.2.2.2.2.2.2.1) s.1).bind fun n7 =>
    (geti (s.2.2.2.2.2.2.2.2.2.2.2.2.2.2.2.2.2.2.2.1.take s.2.2.2.2.2.2.2.2.2.2.2.2.2.2.2.2.2.2.2.2.2.2.2.1) s.1).bind fun _ =>
    (geti ((seti s.2.2.2.2.2.2.2.2.2.2.2.2.2.2.2.2.2.2.2.1 s.1 n6).take s.2.2.2.2.2.2.2.2.2.2.2.2.2.2.2.2.2.2.2.2.2.2.2.1) s.2.1).bind fun _ =>
    some (.done (.next (s.2.1, s.2.2.2.1, s.2.2.2.2.1, s.2.2.2.2.2.1, s.2.2.2.2.2.2.1, s.2.2.2.2.2.2.2.1, s.2.2.2.2.2.2.2.2.1, s.2.2.2.2.2.2.2.2.2.1, s.2.2.2.2.2.2.2.2.2.2.1, s.2.2.2.2.2.2.2.2.2.2.2.1, s.2.2.2.2.2.2.2.2.2.2.2.2.1, s.2.2.2.2.2.2.2.2.2.2.2.2.2.1, s.2.2.2.2.2.2.2.2.2.2.2.2.2.2.1, s.2.2.2.2.2.2.2.2.2.2.2.2.2.2.2.1, s.2.2.2.2.2.2.2.2.2.2.2.2.2.2.2.2.1, s.2.2.2.2.2.2.2.2.2.2.2.2.2.2.2.2.2.1, s.2.2.2.2.2.2.2.2.2.2.2.2.2.2.2.2.2.2.1, seti (seti s.2.2.2.2.2.2.2.2.2.2.2.2.2.2.2.2.2.2.2.1 s.1 n6) s.2.1 n7, s.2.2.2.2.2.2.2.2.2.2.2.2.2.2.2.2.2.2.2.2)))
 else
  bif s.2.1 == s.1 then
   bif s.2.2.2.2.2.2.2.2.2.2.2.2.2.2.2.2.2.2.2.1.length == c0.2.2.2.2.2.2.2.2.2.2.2.2.2.2.2.2.2.1.length then
    ((hedit_settled N) (Clock.mk (s.2.2.2.1, s.2.2.2.2.1) (Field.mk s.2.2.2.2.2.1) (Certs.mk s.2.2.2.2.2.2.1 s.2.2.2.2.2.2.2.1) (Agenda.mk (Slots.mk s.2.2.2.2.2.2.2.2.1 s.2.2.2.2.2.2.2.2.2.1 s.2.2.2.2.2.2.2.2.2.2.1) s.2.2.2.2.2.2.2.2.2.2.2.1 s.2.2.2.2.2.2.2.2.2.2.2.2.1) s.2.2.2.2.2.2.2.2.2.2.2.2.2.1) (Field.mk s.2.2.2.2.2.2.2.2.2.2.2.2.2.2.2.2.2.2.1) (s.2.2.2.2.2.2.2.2.2.2.2.2.2.2.2.2.2.2.2.1.take ((wrapF .i64 ((Int.ofNat c1.length) - 1)).toNat))).bind fun a10 =>
    some (.done (.done (.done a10)))
   else
    none
  else
   (geti (s.2.2.2.2.2.2.2.2.2.2.2.2.2.2.2.2.2.2.2.1.take s.2.2.2.2.2.2.2.2.2.2.2.2.2.2.2.2.2.2.2.2.2.2.2.1) s.2.1).bind fun n11 =>
   (geti (s.2.2.2.2.2.2.2.2.2.2.2.2.2.2.2.2.2.2.2.1.take s.2.2.2.2.2.2.2.2.2.2.2.2.2.2.2.2.2.2.2.2.2.2.2.1) s.1).bind fun n12 =>
   (geti (s.2.2.2.2.2.2.2.2.2.2.2.2.2.2.2.2.2.2.2.1.take s.2.2.2.2.2.2.2.2.2.2.2.2.2.2.2.2.2.2.2.2.2.2.2.1) s.1).bind fun _ =>
   (geti ((seti s.2.2.2.2.2.2.2.2.2.2.2.2.2.2.2.2.2.2.2.1 s.1 n11).take s.2.2.2.2.2.2.2.2.2.2.2.2.2.2.2.2.2.2.2.2.2.2.2.1) s.2.1).bind fun _ =>
   some (.done (.next (s.2.1, s.2.2.2.1, s.2.2.2.2.1, s.2.2.2.2.2.1, s.2.2.2.2.2.2.1, s.2.2.2.2.2.2.2.1, s.2.2.2.2.2.2.2.2.1, s.2.2.2.2.2.2.2.2.2.1, s.2.2.2.2.2.2.2.2.2.2.1, s.2.2.2.2.2.2.2.2.2.2.2.1, s.2.2.2.2.2.2.2.2.2.2.2.2.1, s.2.2.2.2.2.2.2.2.2.2.2.2.2.1, s.2.2.2.2.2.2.2.2.2.2.2.2.2.2.1, s.2.2.2.2.2.2.2.2.2.2.2.2.2.2.2.1, s.2.2.2.2.2.2.2.2.2.2.2.2.2.2.2.2.1, s.2.2.2.2.2.2.2.2.2.2.2.2.2.2.2.2.2.1, s.2.2.2.2.2.2.2.2.2.2.2.2.2.2.2.2.2.2.1, seti (seti s.2.2.2.2.2.2.2.2.2.2.2.2.2.2.2.2.2.2.2.1 s.1 n11) s.2.1 n12, s.2.2.2.2.2.2.2.2.2.2.2.2.2.2.2.2.2.2.2.2)))
noncomputable def hedit_Take_l2 (N : Nat) (c0 : (Int × Int × Int × (List (Int × Int × Int)) × Int × (List (Int × Int × Int)) × (List Int) × (List Bool) × (List Int) × (List (Int × Int × Int × Int × Int)) × (List Int) × (List (Int × Int × Int)) × (List Int) × Int × Int × Int × (List (Int × Int × Int)) × (List Int) × (List (Int × Int × Int)) × Int × Int × Nat × Nat)) (c1 : (List Int)) (s : (Int × Int × Int × (List (Int × Int × Int)) × Int × (List (Int × Int × Int)) × (List Int) × (List Bool) × (List Int) × (List (Int × Int × Int × Int × Int)) × (List Int) × (List (Int × Int × Int)) × (List Int) × Int × Int × Int × (List (Int × Int × Int)) × (List Int) × (List (Int × Int × Int)) × Int × Int × Nat × Nat × Int × Int × Int × Int × Int × Int)) : Option (Step (Int × Int × Int × (List (Int × Int × Int)) × Int × (List (Int × Int × Int)) × (List Int) × (List Bool) × (List Int) × (List (Int × Int × Int × Int × Int)) × (List Int) × (List (Int × Int × Int)) × (List Int) × Int × Int × Int × (List (Int × Int × Int)) × (List Int) × (List (Int × Int × Int)) × Int × Int × Nat × Nat × Int × Int × Int × Int × Int × Int) (Step (Int × Int × Int × (List (Int × Int × Int)) × Int × (List (Int × Int × Int)) × (List Int) × (List Bool) × (List Int) × (List (Int × Int × Int × Int × Int)) × (List Int) × (List (Int × Int × Int)) × (List Int) × Int × Int × Int × (List (Int × Int × Int)) × (List Int) × (List (Int × Int × Int)) × Int × Int × Nat × Nat) (KHeap × Int))) :=
 (loopN N) ((hedit_Take_l1 N) c0 c1) (s.1, s.1, wrapF .i64 ((wrapF .i64 (2 * s.1)) + 1), s.2)
noncomputable def hedit_Take_l3 (N : Nat) (c0 : (Int × Int × Int × (List (Int × Int × Int)) × Int × (List (Int × Int × Int)) × (List Int) × (List Bool) × (List Int) × (List (Int × Int × Int × Int × Int)) × (List Int) × (List (Int × Int × Int)) × (List Int) × Int × Int × Int × (List (Int × Int × Int)) × (List Int) × (List (Int × Int × Int)) × Int × Int × Nat × Nat)) (c1 : (List Int)) (s : (Int × Int × Int × Int × Int × (List (Int × Int × Int)) × Int × (List (Int × Int × Int)) × (List Int) × (List Bool) × (List Int) × (List (Int × Int × Int × Int × Int)) × (List Int) × (List (Int × Int × Int)) × (List Int) × Int × Int × Int × (List (Int × Int × Int)) × (List Int) × (List (Int × Int × Int)) × Int × Int × Nat × Nat)) : Option (Step (Int × Int × Int × Int × Int × (List (Int × Int × Int)) × Int × (List (Int × Int × Int)) × (List Int) × (List Bool) × (List Int) × (List (Int × Int × Int × Int × Int)) × (List Int) × (List (Int × Int × Int)) × (List Int) × Int × Int × Int × (List (Int × Int × Int)) × (List Int) × (List (Int × Int × Int)) × Int × Int × Nat × Nat) (Step (Int × Int × Int × (List (Int × Int × Int)) × Int × (List (Int × Int × Int)) × (List Int) × (List Bool) × (List Int) × (List (Int × Int × Int × Int × Int)) × (List Int) × (List (Int × Int × Int)) × (List Int) × Int × Int × Int × (List (Int × Int × Int)) × (List Int) × (List (Int × Int × Int)) × Int × Int × Nat × Nat) (Step (Int × Int × Int × (List (Int × Int × Int)) × Int × (List (Int × Int × Int)) × (List Int) × (List Bool) × (List Int) × (List (Int × Int × Int × Int × Int)) × (List Int) × (List (Int × Int × Int)) × (List Int) × Int × Int × Int × (List (Int × Int × Int)) × (List Int) × (List (Int × Int × Int)) × Int × Int × Nat × Nat) (KHeap × Int)))) :=
 bif decide (s.2.2.1 ≤ (wrapF .i64 ((wrapF .i64 (2 * s.1)) + 2))) then
  bif decide (s.2.2.1 < (Int.ofNat s.2.2.2.2.2.2.2.2.2.2.2.2.2.2.2.2.2.2.2.2.2.2.2.1)) then
   (geti (s.2.2.2.2.2.2.2.2.2.2.2.2.2.2.2.2.2.2.2.1.take s.2.2.2.2.2.2.2.2.2.2.2.2.2.2.2.2.2.2.2.2.2.2.2.1) s.2.2.1).bind fun n0 =>
   ((field_Find N) (Field.mk s.2.2.2.2.2.2.2.2.2.2.2.2.2.2.2.2.2.2.2.2.1) n0).bind fun a1 =>
   (geti (s.2.2.2.2.2.2.2.2.2.2.2.2.2.2.2.2.2.2.2.1.take s.2.2.2.2.2.2.2.2.2.2.2.2.2.2.2.2.2.2.2.2.2.2.2.1) s.2.1).bind fun n2 =>
   ((field_Find N) (Field.mk s.2.2.2.2.2.2.2.2.2.2.2.2.2.2.2.2.2.2.2.2.1) n2).bind fun a3 =>
   ((course_Ahead N) a1.1 a3.1 (s.2.2.2.2.2.2.2.2.2.2.2.2.2.2.2.2.2.2.2.2.2.1, s.2.2.2.2.2.2.2.2.2.2.2.2.2.2.2.2.2.2.2.2.2.2.1)).bind fun a4 =>
   bif s.2.2.2.2.2.2.2.2.2.2.2.2.2.2.2.2.2.2.2.1.length == s.2.2.2.2.2.2.2.2.2.2.2.2.2.2.2.2.2.2.2.1.length then
    bif a4.1 then
     some (.next (s.1, s.2.2.1, wrapF .i64 (s.2.2.1 + 1), s.2.2.2))
    else
     some (.next (s.1, s.2.1, wrapF .i64 (s.2.2.1 + 1), s.2.2.2))
   else
    none
  else
   bif s.2.1 == s.1 then
    bif s.2.2.2.2.2.2.2.2.2.2.2.2.2.2.2.2.2.2.2.1.length == c0.2.2.2.2.2.2.2.2.2.2.2.2.2.2.2.2.2.1.length then
     ((hedit_settled N) (Clock.mk (s.2.2.2.1, s.2.2.2.2.1) (Field.mk s.2.2.2.2.2.1) (Certs.mk s.2.2.2.2.2.2.1 s.2.2.2.2.2.2.2.1) (Agenda.mk (Slots.mk s.2.2.2.2.2.2.2.2.1 s.2.2.2.2.2.2.2.2.2.1 s.2.2.2.2.2.2.2.2.2.2.1) s.2.2.2.2.2.2.2.2.2.2.2.1 s.2.2.2.2.2.2.2.2.2.2.2.2.1) s.2.2.2.2.2.2.2.2.2.2.2.2.2.1) (Field.mk s.2.2.2.2.2.2.2.2.2.2.2.2.2.2.2.2.2.2.1) (s.2.2.2.2.2.2.2.2.2.2.2.2.2.2.2.2.2.2.2.1.take ((wrapF .i64 ((Int.ofNat c1.length) - 1)).toNat))).bind fun a5 =>
     some (.done (.done (.done a5)))
    else
     none
   else
    (geti (s.2.2.2.2.2.2.2.2.2.2.2.2.2.2.2.2.2.2.2.1.take s.2.2.2.2.2.2.2.2.2.2.2.2.2.2.2.2.2.2.2.2.2.2.2.1) s.2.1).bind fun n6 =>
    (geti (s.2.2.2.2.2.2.2.2.2.2.2.2.2.2.2.2.2.2.2.1.take s.2.2.2.2.2.2.2.2.2.2.2.2.2.2.2.2.2.2.2.2.2.2.2.1) s.1).bind fun n7 =>
    (geti (s.2.2.2.2.2.2.2.2.2.2.2.2.2.2.2.2.2.2.2.1.take s.2.2.2.2.2.2.2.2.2.2.2.2.2.2.2.2.2.2.2.2.2.2.2.1) s.1).bind fun _ =>
    (geti ((seti s.2.2.2.2.2.2.2.2.2.2.2.2.2.2.2.2.2.2.2.1 s.1 n6).take s.2.2.2.2.2.2.2.2.2.2.2.2.2.2.2.2.2.2.2.2.2.2.2.1) s.2.1).bind fun _ =>
    some (.done (.next (s.2.1, s.2.2.2.1, s.2.2.2.2.1, s.2.2.2.2.2.1, s.2.2.2.2.2.2.1, s.2.2.2.2.2.2.2.1, s.2.2.2.2.2.2.2.2.1, s.2.2.2.2.2.2.2.2.2.1, s.2.2.2.2.2.2.2.2.2.2.1, s.2.2.2.2.2.2.2.2.2.2.2.1, s.2.2.2.2.2.2.2.2.2.2.2.2.1, s.2.2.2.2.2.2.2.2.2.2.2.2.2.1, s.2.2.2.2.2.2.2.2.2.2.2.2.2.2.1, s.2.2.2.2.2.2.2.2.2.2.2.2.2.2.2.1, s.2.2.2.2.2.2.2.2.2.2.2.2.2.2.2.2.1, s.2.2.2.2.2.2.2.2.2.2.2.2.2.2.2.2.2.1, s.2.2.2.2.2.2.2.2.2.2.2.2.2.2.2.2.2.2.1, seti (seti s.2.2.2.2.2.2.2.2.2.2.2.2.2.2.2.2.2.2.2.1 s.1 n6) s.2.1 n7, s.2.2.2.2.2.2.2.2.2.2.2.2.2.2.2.2.2.2.2.2)))
 else
  bif s.2.1 == s.1 then
   bif s.2.2.2.2.2.2.2.2.2.2.2.2.2.2.2.2.2.2.2.1.length == c0.2.2.2.2.2.2.2.2.2.2.2.2.2.2.2.2.2.1.length then
    ((hedit_settled N) (Clock.mk (s.2.2.2.1, s.2.2.2.2.1) (Field.mk s.2.2.2.2.2.1) (Certs.mk s.2.2.2.2.2.2.1 s.2.2.2.2.2.2.2.1) (Agenda.mk (Slots.mk s.2.2.2.2.2.2.2.2.1 s.2.2.2.2.2.2.2.2.2.1 s.2.2.2.2.2.2.2.2.2.2.1) s.2.2.2.2.2.2.2.2.2.2.2.1 s.2.2.2.2.2.2.2.2.2.2.2.2.1) s.2.2.2.2.2.2.2.2.2.2.2.2.2.1) (Field.mk s.2.2.2.2.2.2.2.2.2.2.2.2.2.2.2.2.2.2.1) (s.2.2.2.2.2.2.2.2.2.2.2.2.2.2.2.2.2.2.2.1.take ((wrapF .i64 ((Int.ofNat c1.length) - 1)).toNat))).bind fun a10 =>
    some (.done (.done (.done a10)))
   else
    none
  else
   (geti (s.2.2.2.2.2.2.2.2.2.2.2.2.2.2.2.2.2.2.2.1.take s.2.2.2.2.2.2.2.2.2.2.2.2.2.2.2.2.2.2.2.2.2.2.2.1) s.2.1).bind fun n11 =>
   (geti (s.2.2.2.2.2.2.2.2.2.2.2.2.2.2.2.2.2.2.2.1.take s.2.2.2.2.2.2.2.2.2.2.2.2.2.2.2.2.2.2.2.2.2.2.2.1) s.1).bind fun n12 =>
   (geti (s.2.2.2.2.2.2.2.2.2.2.2.2.2.2.2.2.2.2.2.1.take s.2.2.2.2.2.2.2.2.2.2.2.2.2.2.2.2.2.2.2.2.2.2.2.1) s.1).bind fun _ =>
   (geti ((seti s.2.2.2.2.2.2.2.2.2.2.2.2.2.2.2.2.2.2.2.1 s.1 n11).take s.2.2.2.2.2.2.2.2.2.2.2.2.2.2.2.2.2.2.2.2.2.2.2.1) s.2.1).bind fun _ =>
   some (.done (.next (s.2.1, s.2.2.2.1, s.2.2.2.2.1, s.2.2.2.2.2.1, s.2.2.2.2.2.2.1, s.2.2.2.2.2.2.2.1, s.2.2.2.2.2.2.2.2.1, s.2.2.2.2.2.2.2.2.2.1, s.2.2.2.2.2.2.2.2.2.2.1, s.2.2.2.2.2.2.2.2.2.2.2.1, s.2.2.2.2.2.2.2.2.2.2.2.2.1, s.2.2.2.2.2.2.2.2.2.2.2.2.2.1, s.2.2.2.2.2.2.2.2.2.2.2.2.2.2.1, s.2.2.2.2.2.2.2.2.2.2.2.2.2.2.2.1, s.2.2.2.2.2.2.2.2.2.2.2.2.2.2.2.2.1, s.2.2.2.2.2.2.2.2.2.2.2.2.2.2.2.2.2.1, s.2.2.2.2.2.2.2.2.2.2.2.2.2.2.2.2.2.2.1, seti (seti s.2.2.2.2.2.2.2.2.2.2.2.2.2.2.2.2.2.2.2.1 s.1 n11) s.2.1 n12, s.2.2.2.2.2.2.2.2.2.2.2.2.2.2.2.2.2.2.2.2)))
noncomputable def hedit_Take_l4 (N : Nat) (c0 : (Int × Int × Int × (List (Int × Int × Int)) × Int × (List (Int × Int × Int)) × (List Int) × (List Bool) × (List Int) × (List (Int × Int × Int × Int × Int)) × (List Int) × (List (Int × Int × Int)) × (List Int) × Int × Int × Int × (List (Int × Int × Int)) × (List Int) × (List (Int × Int × Int)) × Int × Int × Nat × Nat)) (c1 : (List Int)) (s : (Int × Int × Int × (List (Int × Int × Int)) × Int × (List (Int × Int × Int)) × (List Int) × (List Bool) × (List Int) × (List (Int × Int × Int × Int × Int)) × (List Int) × (List (Int × Int × Int)) × (List Int) × Int × Int × Int × (List (Int × Int × Int)) × (List Int) × (List (Int × Int × Int)) × Int × Int × Nat × Nat)) : Option (Step (Int × Int × Int × (List (Int × Int × Int)) × Int × (List (Int × Int × Int)) × (List Int) × (List Bool) × (List Int) × (List (Int × Int × Int × Int × Int)) × (List Int) × (List (Int × Int × Int)) × (List Int) × Int × Int × Int × (List (Int × Int × Int)) × (List Int) × (List (Int × Int × Int)) × Int × Int × Nat × Nat) (Step (Int × Int × Int × (List (Int × Int × Int)) × Int × (List (Int × Int × Int)) × (List Int) × (List Bool) × (List Int) × (List (Int × Int × Int × Int × Int)) × (List Int) × (List (Int × Int × Int)) × (List Int) × Int × Int × Int × (List (Int × Int × Int)) × (List Int) × (List (Int × Int × Int)) × Int × Int × Nat × Nat) (KHeap × Int))) :=
 (loopN N) ((hedit_Take_l3 N) c0 c1) (s.1, s.1, wrapF .i64 ((wrapF .i64 (2 * s.1)) + 1), s.2)
noncomputable def hedit_Take_l5 (N : Nat) (c0 : (List Int)) (c1 : Int) (c2 : Int) (s : (Int × Int × Int × (List (Int × Int × Int)) × Int × (List (Int × Int × Int)) × (List Int) × (List Bool) × (List Int) × (List (Int × Int × Int × Int × Int)) × (List Int) × (List (Int × Int × Int)) × (List Int) × Int × Int × Int × (List (Int × Int × Int)) × (List Int) × (List (Int × Int × Int)) × Int × Int × Nat × Nat)) : Option (Step (Int × Int × Int × (List (Int × Int × Int)) × Int × (List (Int × Int × Int)) × (List Int) × (List Bool) × (List Int) × (List (Int × Int × Int × Int × Int)) × (List Int) × (List (Int × Int × Int)) × (List Int) × Int × Int × Int × (List (Int × Int × Int)) × (List Int) × (List (Int × Int × Int)) × Int × Int × Nat × Nat) (KHeap × Int)) :=
 bif decide (0 < s.1) then
  (geti (s.2.2.2.2.2.2.2.2.2.2.2.2.2.2.2.2.2.1.take s.2.2.2.2.2.2.2.2.2.2.2.2.2.2.2.2.2.2.2.2.2.1) s.1).bind fun n0 =>
  ((field_Find N) (Field.mk s.2.2.2.2.2.2.2.2.2.2.2.2.2.2.2.2.2.2.1) n0).bind fun a1 =>
  (geti (s.2.2.2.2.2.2.2.2.2.2.2.2.2.2.2.2.2.1.take s.2.2.2.2.2.2.2.2.2.2.2.2.2.2.2.2.2.2.2.2.2.1) (wrapF .i64 (Int.tdiv (wrapF .i64 (s.1 - 1)) 2))).bind fun n2 =>
  ((field_Find N) (Field.mk s.2.2.2.2.2.2.2.2.2.2.2.2.2.2.2.2.2.2.1) n2).bind fun a3 =>
  ((course_Ahead N) a1.1 a3.1 (s.2.2.2.2.2.2.2.2.2.2.2.2.2.2.2.2.2.2.2.1, s.2.2.2.2.2.2.2.2.2.2.2.2.2.2.2.2.2.2.2.2.1)).bind fun a4 =>
  bif s.2.2.2.2.2.2.2.2.2.2.2.2.2.2.2.2.2.1.length == s.2.2.2.2.2.2.2.2.2.2.2.2.2.2.2.2.2.1.length then
   bif a4.1 then
    (geti (s.2.2.2.2.2.2.2.2.2.2.2.2.2.2.2.2.2.1.take s.2.2.2.2.2.2.2.2.2.2.2.2.2.2.2.2.2.2.2.2.2.1) (wrapF .i64 (Int.tdiv (wrapF .i64 (s.1 - 1)) 2))).bind fun n5 =>
    (geti (s.2.2.2.2.2.2.2.2.2.2.2.2.2.2.2.2.2.1.take s.2.2.2.2.2.2.2.2.2.2.2.2.2.2.2.2.2.2.2.2.2.1) s.1).bind fun n6 =>
    (geti (s.2.2.2.2.2.2.2.2.2.2.2.2.2.2.2.2.2.1.take s.2.2.2.2.2.2.2.2.2.2.2.2.2.2.2.2.2.2.2.2.2.1) s.1).bind fun _ =>
    (geti ((seti s.2.2.2.2.2.2.2.2.2.2.2.2.2.2.2.2.2.1 s.1 n5).take s.2.2.2.2.2.2.2.2.2.2.2.2.2.2.2.2.2.2.2.2.2.1) (wrapF .i64 (Int.tdiv (wrapF .i64 (s.1 - 1)) 2))).bind fun _ =>
    some (.next (wrapF .i64 (Int.tdiv (wrapF .i64 (s.1 - 1)) 2), s.2.1, s.2.2.1, s.2.2.2.1, s.2.2.2.2.1, s.2.2.2.2.2.1, s.2.2.2.2.2.2.1, s.2.2.2.2.2.2.2.1, s.2.2.2.2.2.2.2.2.1, s.2.2.2.2.2.2.2.2.2.1, s.2.2.2.2.2.2.2.2.2.2.1, s.2.2.2.2.2.2.2.2.2.2.2.1, s.2.2.2.2.2.2.2.2.2.2.2.2.1, s.2.2.2.2.2.2.2.2.2.2.2.2.2.1, s.2.2.2.2.2.2.2.2.2.2.2.2.2.2.1, s.2.2.2.2.2.2.2.2.2.2.2.2.2.2.2.1, s.2.2.2.2.2.2.2.2.2.2.2.2.2.2.2.2.1, seti (seti s.2.2.2.2.2.2.2.2.2.2.2.2.2.2.2.2.2.1 s.1 n5) (wrapF .i64 (Int.tdiv (wrapF .i64 (s.1 - 1)) 2)) n6, s.2.2.2.2.2.2.2.2.2.2.2.2.2.2.2.2.2.2))
   else
    bif s.2.2.2.2.2.2.2.2.2.2.2.2.2.2.2.2.2.1.length == ((seti c0 c1 c2).length) then
     (loopN N) ((hedit_Take_l2 N) s c0) (s.1, s.2.1, s.2.2.1, s.2.2.2.1, s.2.2.2.2.1, s.2.2.2.2.2.1, s.2.2.2.2.2.2.1, s.2.2.2.2.2.2.2.1, s.2.2.2.2.2.2.2.2.1, s.2.2.2.2.2.2.2.2.2.1, s.2.2.2.2.2.2.2.2.2.2.1, s.2.2.2.2.2.2.2.2.2.2.2.1, s.2.2.2.2.2.2.2.2.2.2.2.2.1, s.2.2.2.2.2.2.2.2.2.2.2.2.2.1, s.2.2.2.2.2.2.2.2.2.2.2.2.2.2.1, s.2.2.2.2.2.2.2.2.2.2.2.2.2.2.2.1, s.2.2.2.2.2.2.2.2.2.2.2.2.2.2.2.2.1, s.2.2.2.2.2.2.2.2.2.2.2.2.2.2.2.2.2.1, s.2.2.2.2.2.2.2.2.2.2.2.2.2.2.2.2.2.2.1, s.2.2.2.2.2.2.2.2.2.2.2.2.2.2.2.2.2.2.2.1, s.2.2.2.2.2.2.2.2.2.2.2.2.2.2.2.2.2.2.2.2.1, s.2.2.2.2.2.2.2.2.2.2.2.2.2.2.2.2.2.2.2.2.2.1, s.2.2.2.2.2.2.2.2.2.2.2.2.2.2.2.2.2.2.2.2.2.2, a1.1.1, a1.1.2.1, a1.1.2.2, a3.1)
    else
     none
  else
   none
 else
  bif s.2.2.2.2.2.2.2.2.2.2.2.2.2.2.2.2.2.1.length == ((seti c0 c1 c2).length) then
   (loopN N) ((hedit_Take_l4 N) s c0) s
  else
   none
noncomputable def hedit_Take (N : Nat) (p0 : KHeap) (p1 : Int) : Option (KHeap × Int) :=
 ((kheap_Check N) p0).bind fun n0 =>
 bif n0 != 0 then
  some (KHeap.mk (Clock.mk (0, 0) (Field.mk []) (Certs.mk 0 []) (Agenda.mk (Slots.mk [] [] []) [] []) []) [], n0)
 else
  ((field_Take N) p0.clock.field p1).bind fun a1 =>
  bif a1.2 != 0 then
   some (KHeap.mk (Clock.mk (0, 0) (Field.mk []) (Certs.mk 0 []) (Agenda.mk (Slots.mk [] [] []) [] []) []) [], a1.2)
  else
   (cloneO p0.heap).bind fun l2 =>
   ((slices_Index_int N) l2 p1).bind fun n3 =>
   (geti l2 (wrapF .i64 ((Int.ofNat l2.length) - 1))).bind fun n4 =>
   (geti l2 n3).bind fun _ =>
   (sliceO (seti l2 n3 n4) 0 (wrapF .i64 ((Int.ofNat l2.length) - 1))).bind fun _ =>
   bif decide (n3 < (wrapF .i64 ((Int.ofNat l2.length) - 1))) then
    bif ((seti l2 n3 n4).length) == ((seti l2 n3 n4).length) then
     (loopN N) ((hedit_Take_l5 N) l2 n3 n4) (n3, p0.clock.now.1, p0.clock.now.2, p0.clock.field.points, p0.clock.certs.next_, p0.clock.certs.list, p0.clock.agenda.slots.uses, p0.clock.agenda.slots.used, p0.clock.agenda.slots.free, p0.clock.agenda.heap, p0.clock.agenda.where_, p0.clock.due, p0.heap, 0, 0, 0, a1.1.points, seti l2 n3 n4, a1.1.points, p0.clock.now.1, p0.clock.now.2, (wrapF .i64 ((Int.ofNat l2.length) - 1)).toNat, (seti l2 n3 n4).length)
    else
     none
   else
    ((hedit_settled N) p0.clock a1.1 ((seti l2 n3 n4).take ((wrapF .i64 ((Int.ofNat l2.length) - 1)).toNat))).bind fun a7 =>
    some a7
noncomputable def c6 (N : Nat) : Con := ⟨Args.cons (Arg.agg KHeap_c) (Args.one (Arg.int .i64)), Arg.tup (Args.cons (Arg.agg KHeap_c) (Args.one (Arg.int .i64))), fun a => (hedit_Take N) a.1 a.2, .frz, false⟩
theorem c6_ok (N : Nat) : ConOK tab 6 (c6 N) := ConOK.of tab_6 (cx := (mkCx (loopL N) [(14, (c14 N)), (19, (c19 N)), (16, Con.clone ki), (20, (c20 N)), (42, (c42 N)), (43, (c43 N)), (18, (c18 N))] [] [(17, x17), (41, x41), (44, x44), (45, x45)] [])) rfl (CxOK.make ⟨(c14_ok N), (c19_ok N), prim_16, (c20_ok N), (c42_ok N), (c43_ok N), (c18_ok N), trivial⟩ trivial ⟨tab_17, tab_41, tab_44, tab_45, trivial⟩) (fun a => by kernel_rfl)
noncomputable def field_Change (N : Nat) (p0 : Field) (p1 : Int × Int × Int) : Option (Field × Int) :=
 ((field_Check N) p0).bind fun n0 =>
 bif n0 != 0 then
  some (Field.mk [], n0)
 else
  ((course_Check N) p1).bind fun n1 =>
  bif n1 != 0 then
   some (Field.mk [], n1)
  else
   ((field_place N) p0 p1.1).bind fun a2 =>
   bif a2.2 != 0 then
    some (Field.mk [], a2.2)
   else
    (cloneO p0.points).bind fun l3 =>
    (geti l3 a2.1).bind fun _ =>
    some (Field.mk (seti l3 a2.1 p1), 0)
noncomputable def c21 (N : Nat) : Con := ⟨Args.cons (Arg.agg Field_c) (Args.one (Arg.agg (Cod.row kiii))), Arg.tup (Args.cons (Arg.agg Field_c) (Args.one (Arg.int .i64))), fun a => (field_Change N) a.1 a.2, .frz, false⟩
theorem c21_ok (N : Nat) : ConOK tab 21 (c21 N) := ConOK.of tab_21 (cx := (mkCx (loopL N) [(36, (c36 N)), (37, (c37 N)), (48, (c48 N)), (40, Con.clone kiii)] [] [] [])) rfl (CxOK.make ⟨(c36_ok N), (c37_ok N), (c48_ok N), prim_40, trivial⟩ trivial trivial) (fun a => by kernel_rfl)
noncomputable def hedit_Change_l1 (N : Nat) (c0 : (Int × Int × Int × (List (Int × Int × Int)) × Int × (List (Int × Int × Int)) × (List Int) × (List Bool) × (List Int) × (List (Int × Int × Int × Int × Int)) × (List Int) × (List (Int × Int × Int)) × (List Int) × Int × Int × Int × Int × Int × Int × (List (Int × Int × Int)) × (List Int) × (List (Int × Int × Int)) × Int × Int)) (s : (Int × Int × Int × Int × Int × (List (Int × Int × Int)) × Int × (List (Int × Int × Int)) × (List Int) × (List Bool) × (List Int) × (List (Int × Int × Int × Int × Int)) × (List Int) × (List (Int × Int × Int)) × (List Int) × Int × Int × Int × Int × Int × Int × (List (Int × Int × Int)) × (List Int) × (List (Int × Int × Int)) × Int × Int × Int × Int × Int × Int × Int × Int)) : Option (Step (Int × Int × Int × Int × Int × (List (Int × Int × Int)) × Int × (List (Int × Int × Int)) × (List Int) × (List Bool) × (List Int) × (List (Int × Int × Int × Int × Int)) × (List Int) × (List (Int × Int × Int)) × (List Int) × Int × Int × Int × Int × Int × Int × (List (Int × Int × Int)) × (List Int) × (List (Int × Int × Int)) × Int × Int × Int × Int × Int × Int × Int × Int) (Step (Int × Int × Int × (List (Int × Int × Int)) × Int × (List (Int × Int × Int)) × (List Int) × (List Bool) × (List Int) × (List (Int × Int × Int × Int × Int)) × (List Int) × (List (Int × Int × Int)) × (List Int) × Int × Int × Int × Int × Int × Int × (List (Int × Int × Int)) × (List Int) × (List (Int × Int × Int)) × Int × Int × Int × Int × Int × Int × Int × Int) (Step (Int × Int × Int × (List (Int × Int × Int)) × Int × (List (Int × Int × Int)) × (List Int) × (List Bool) × (List Int) × (List (Int × Int × Int × Int × Int)) × (List Int) × (List (Int × Int × Int)) × (List Int) × Int × Int × Int × Int × Int × Int × (List (Int × Int × Int)) × (List Int) × (List (Int × Int × Int)) × Int × Int) (KHeap × Int)))) :=
 bif decide (s.2.2.1 ≤ (wrapF .i64 ((wrapF .i64 (2 * s.1)) + 2))) then
  bif decide (s.2.2.1 < (Int.ofNat s.2.2.2.2.2.2.2.2.2.2.2.2.2.2.2.2.2.2.2.2.2.2.1.length)) then
   (geti s.2.2.2.2.2.2.2.2.2.2.2.2.2.2.2.2.2.2.2.2.2.2.1 s.2.2.1).bind fun n0 =>
   ((field_Find N) (Field.mk s.2.2.2.2.2.2.2.2.2.2.2.2.2.2.2.2.2.2.2.2.2.2.2.1) n0).bind fun a1 =>
   (geti s.2.2.2.2.2.2.2.2.2.2.2.2.2.2.2.2.2.2.2.2.2.2.1 s.2.1).bind fun n2 =>
   ((field_Find N) (Field.mk s.2.2.2.2.2.2.2.2.2.2.2.2.2.2.2.2.2.2.2.2.2.2.2.1) n2).bind fun a3 =>
   ((course_Ahead N) a1.1 a3.1 (s.2.2.2.2.2.2.2.2.2.2.2.2.2.2.2.2.2.2.2.2.2.2.2.2.1, s.2.2.2.2.2.2.2.2.2.2.2.2.2.2.2.2.2.2.2.2.2.2.2.2.2.1)).bind fun a4 =>
   bif s.2.2.2.2.2.2.2.2.2.2.2.2.2.2.2.2.2.2.2.2.2.2.1.length == s.2.2.2.2.2.2.2.2.2.2.2.2.2.2.2.2.2.2.2.2.2.2.1.length then
    bif a4.1 then
     some (.next (s.1, s.2.2.1, wrapF .i64 (s.2.2.1 + 1), s.2.2.2))
    else
     some (.next (s.1, s.2.1, wrapF .i64 (s.2.2.1 + 1), s.2.2.2))
   else
    none
  else
   bif s.2.1 == s.1 then
    bif s.2.2.2.2.2.2.2.2.2.2.2.2.2.2.2.2.2.2.2.2.2.2.1.length == c0.2.2.2.2.2.2.2.2.2.2.2.2.2.2.2.2.2.2.2.2.1.length then
     ((hedit_settled N) (Clock.mk (s.2.2.2.1, s.2.2.2.2.1) (Field.mk s.2.2.2.2.2.1) (Certs.mk s.2.2.2.2.2.2.1 s.2.2.2.2.2.2.2.1) (Agenda.mk (Slots.mk s.2.2.2.2.2.2.2.2.1 s.2.2.2.2.2.2.2.2.2.1 s.2.2.2.2.2.2.2.2.2.2.1) s.2.2.2.2.2.2.2.2.2.2.2.1 s.2.2.2.2.2.2.2.2.2.2.2.2.1) s.2.2.2.2.2.2.2.2.2.2.2.2.2.1) (Field.mk s.2.2.2.2.2.2.2.2.2.2.2.2.2.2.2.2.2.2.2.2.2.1) s.2.2.2.2.2.2.2.2.2.2.2.2.2.2.2.2.2.2.2.2.2.2.1).bind fun a5 =>
     some (.done (.done (.done a5)))
    else
     none
   else
    (geti s.2.2.2.2.2.2.2.2.2.2.2.2.2.2.2.2.2.2.2.2.2.2.1 s.2.1).bind fun n6 =>
    (geti s.2.2.2.2.2.2.2.2.2.2.2.2.2.2.2.2.2.2.2.2.2.2.1 s.1).bind fun n7 =>
    (geti s.2.2.2.2.2.2.2.2.2.2.2.2.2.2.2.2.2.2.2.2.2.2.1 s.1).bind fun _ =>
    (geti (seti s.2.2.2.2.2.2.2.2.2.2.2.2.2.2.2.2.2.2.2.2.2.2.1 s.1 n6) s.2.1).bind fun _ =>
    some (.done (.next (s.2.1, s.2.2.2.1, s.2.2.2.2.1, s.2.2.2.2.2.1, s.2.2.2.2.2.2.1, s.2.2.2.2.2.2.2.1, s.2.2.2.2.2.2.2.2.1, s.2.2.2.2.2.2.2.2.2.1, s.2.2.2.2.2.2.2.2.2.2.1, s.2.2.2.2.2.2.2.2.2.2.2.1, s.2.2.2.2.2.2.2.2.2.2.2.2.1, s.2.2.2.2.2.2.2.2.2.2.2.2.2.1, s.2.2.2.2.2.2.2.2.2.2.2.2.2.2.1, s.2.2.2.2.2.2.2.2.2.2.2.2.2.2.2.1, s.2.2.2.2.2.2.2.2.2.2.2.2.2.2.2.2.1, s.2.2.2.2.2.2.2.2.2.2.2.2.2.2.2.2.2.1, s.2.2.2.2.2.2.2.2.2.2.2.2.2.2.2.2.2.2.1, s.2.2.2.2.2.2.2.2.2.2.2.2.2.2.2.2.2.2.2.1, s.2.2.2.2.2.2.2.2.2.2.2.2.2.2.2.2.2.2.2.2.1, s.2.2.2.2.2.2.2.2.2.2.2.2.2.2.2.2.2.2.2.2.2.1, seti (seti s.2.2.2.2.2.2.2.2.2.2.2.2.2.2.2.2.2.2.2.2.2.2.1 s.1 n6) s.2.1 n7, s.2.2.2.2.2.2.2.2.2.2.2.2.2.2.2.2.2.2.2.2.2.2.2)))
 else
  bif s.2.1 == s.1 then
   bif s.2.2.2.2.2.2.2.2.2.2.2.2.2.2.2.2.2.2.2.2.2.2.1.length == c0.2.2.2.2.2.2.2.2.2.2.2.2.2.2.2.2.2.2.2.2.1.length then
    ((hedit_settled N) (Clock.mk (s.2.2.2.1, s.2.2.2.2.1) (Field.mk s.2.2.2.2.2.1) (Certs.mk s.2.2.2.2.2.2.1 s.2.2.2.2.2.2.2.1) (Agenda.mk (Slots.mk s.2.2.2.2.2.2.2.2.1 s.2.2.2.2.2.2.2.2.2.1 s.2.2.2.2.2.2.2.2.2.2.1) s.2.2.2.2.2.2.2.2.2.2.2.1 s.2.2.2.2.2.2.2.2.2.2.2.2.1) s.2.2.2.2.2.2.2.2.2.2.2.2.2.1) (Field.mk s.2.2.2.2.2.2.2.2.2.2.2.2.2.2.2.2.2.2.2.2.2.1) s.2.2.2.2.2.2.2.2.2.2.2.2.2.2.2.2.2.2.2.2.2.2.1).bind fun a10 =>
    some (.done (.done (.done a10)))
   else
    none
  else
   (geti s.2.2.2.2.2.2.2.2.2.2.2.2.2.2.2.2.2.2.2.2.2.2.1 s.2.1).bind fun n11 =>
   (geti s.2.2.2.2.2.2.2.2.2.2.2.2.2.2.2.2.2.2.2.2.2.2.1 s.1).bind fun n12 =>
   (geti s.2.2.2.2.2.2.2.2.2.2.2.2.2.2.2.2.2.2.2.2.2.2.1 s.1).bind fun _ =>
   (geti (seti s.2.2.2.2.2.2.2.2.2.2.2.2.2.2.2.2.2.2.2.2.2.2.1 s.1 n11) s.2.1).bind fun _ =>
   some (.done (.next (s.2.1, s.2.2.2.1, s.2.2.2.2.1, s.2.2.2.2.2.1, s.2.2.2.2.2.2.1, s.2.2.2.2.2.2.2.1, s.2.2.2.2.2.2.2.2.1, s.2.2.2.2.2.2.2.2.2.1, s.2.2.2.2.2.2.2.2.2.2.1, s.2.2.2.2.2.2.2.2.2.2.2.1, s.2.2.2.2.2.2.2.2.2.2.2.2.1, s.2.2.2.2.2.2.2.2.2.2.2.2.2.1, s.2.2.2.2.2.2.2.2.2.2.2.2.2.2.1, s.2.2.2.2.2.2.2.2.2.2.2.2.2.2.2.1, s.2.2.2.2.2.2.2.2.2.2.2.2.2.2.2.2.1, s.2.2.2.2.2.2.2.2.2.2.2.2.2.2.2.2.2.1, s.2.2.2.2.2.2.2.2.2.2.2.2.2.2.2.2.2.2.1, s.2.2.2.2.2.2.2.2.2.2.2.2.2.2.2.2.2.2.2.1, s.2.2.2.2.2.2.2.2.2.2.2.2.2.2.2.2.2.2.2.2.1, s.2.2.2.2.2.2.2.2.2.2.2.2.2.2.2.2.2.2.2.2.2.1, seti (seti s.2.2.2.2.2.2.2.2.2.2.2.2.2.2.2.2.2.2.2.2.2.2.1 s.1 n11) s.2.1 n12, s.2.2.2.2.2.2.2.2.2.2.2.2.2.2.2.2.2.2.2.2.2.2.2)))
noncomputable def hedit_Change_l2 (N : Nat) (c0 : (Int × Int × Int × (List (Int × Int × Int)) × Int × (List (Int × Int × Int)) × (List Int) × (List Bool) × (List Int) × (List (Int × Int × Int × Int × Int)) × (List Int) × (List (Int × Int × Int)) × (List Int) × Int × Int × Int × Int × Int × Int × (List (Int × Int × Int)) × (List Int) × (List (Int × Int × Int)) × Int × Int)) (s : (Int × Int × Int × (List (Int × Int × Int)) × Int × (List (Int × Int × Int)) × (List Int) × (List Bool) × (List Int) × (List (Int × Int × Int × Int × Int)) × (List Int) × (List (Int × Int × Int)) × (List Int) × Int × Int × Int × Int × Int × Int × (List (Int × Int × Int)) × (List Int) × (List (Int × Int × Int)) × Int × Int × Int × Int × Int × Int × Int × Int)) : Option (Step (Int × Int × Int × (List (Int × Int × Int)) × Int × (List (Int × Int × Int)) × (List Int) × (List Bool) × (List Int) × (List (Int × Int × Int × Int × Int)) × (List Int) × (List (Int × Int × Int)) × (List Int) × Int × Int × Int × Int × Int × Int × (List (Int × Int × Int)) × (List Int) × (List (Int × Int × Int)) × Int × Int × Int × Int × Int × Int × Int × Int) (Step (Int × Int × Int × (List (Int × Int × Int)) × Int × (List (Int × Int × Int)) × (List Int) × (List Bool) × (List Int) × (List (Int × Int × Int × Int × Int)) × (List Int) × (List (Int × Int × Int)) × (List Int) × Int × Int × Int × Int × Int × Int × (List (Int × Int × Int)) × (List Int) × (List (Int × Int × Int)) × Int × Int) (KHeap × Int))) :=
 (loopN N) ((hedit_Change_l1 N) c0) (s.1, s.1, wrapF .i64 ((wrapF .i64 (2 * s.1)) + 1), s.2)
noncomputable def hedit_Change_l3 (N : Nat) (c0 : (Int × Int × Int × (List (Int × Int × Int)) × Int × (List (Int × Int × Int)) × (List Int) × (List Bool) × (List Int) × (List (Int × Int × Int × Int × Int)) × (List Int) × (List (Int × Int × Int)) × (List Int) × Int × Int × Int × Int × Int × Int × (List (Int × Int × Int)) × (List Int) × (List (Int × Int × Int)) × Int × Int)) (s : (Int × Int × Int × Int × Int × (List (Int × Int × Int)) × Int × (List (Int × Int × Int)) × (List Int) × (List Bool) × (List Int) × (List (Int × Int × Int × Int × Int)) × (List Int) × (List (Int × Int × Int)) × (List Int) × Int × Int × Int × Int × Int × Int × (List (Int × Int × Int)) × (List Int) × (List (Int × Int × Int)) × Int × Int)) : Option (Step (Int × Int × Int × Int × Int × (List (Int × Int × Int)) × Int × (List (Int × Int × Int)) × (List Int) × (List Bool) × (List Int) × (List (Int × Int × Int × Int × Int)) × (List Int) × (List (Int × Int × Int)) × (List Int) × Int × Int × Int × Int × Int × Int × (List (Int × Int × Int)) × (List Int) × (List (Int × Int × Int)) × Int × Int) (Step (Int × Int × Int × (List (Int × Int × Int)) × Int × (List (Int × Int × Int)) × (List Int) × (List Bool) × (List Int) × (List (Int × Int × Int × Int × Int)) × (List Int) × (List (Int × Int × Int)) × (List Int) × Int × Int × Int × Int × Int × Int × (List (Int × Int × Int)) × (List Int) × (List (Int × Int × Int)) × Int × Int) (Step (Int × Int × Int × (List (Int × Int × Int)) × Int × (List (Int × Int × Int)) × (List Int) × (List Bool) × (List Int) × (List (Int × Int × Int × Int × Int)) × (List Int) × (List (Int × Int × Int)) × (List Int) × Int × Int × Int × Int × Int × Int × (List (Int × Int × Int)) × (List Int) × (List (Int × Int × Int)) × Int × Int) (KHeap × Int)))) :=
 bif decide (s.2.2.1 ≤ (wrapF .i64 ((wrapF .i64 (2 * s.1)) + 2))) then
  bif decide (s.2.2.1 < (Int.ofNat s.2.2.2.2.2.2.2.2.2.2.2.2.2.2.2.2.2.2.2.2.2.2.1.length)) then
   (geti s.2.2.2.2.2.2.2.2.2.2.2.2.2.2.2.2.2.2.2.2.2.2.1 s.2.2.1).bind fun n0 =>
   ((field_Find N) (Field.mk s.2.2.2.2.2.2.2.2.2.2.2.2.2.2.2.2.2.2.2.2.2.2.2.1) n0).bind fun a1 =>
   (geti s.2.2.2.2.2.2.2.2.2.2.2.2.2.2.2.2.2.2.2.2.2.2.1 s.2.1).bind fun n2 =>
   ((field_Find N) (Field.mk s.2.2.2.2.2.2.2.2.2.2.2.2.2.2.2.2.2.2.2.2.2.2.2.1) n2).bind fun a3 =>
   ((course_Ahead N) a1.1 a3.1 s.2.2.2.2.2.2.2.2.2.2.2.2.2.2.2.2.2.2.2.2.2.2.2.2).bind fun a4 =>
   bif s.2.2.2.2.2.2.2.2.2.2.2.2.2.2.2.2.2.2.2.2.2.2.1.length == s.2.2.2.2.2.2.2.2.2.2.2.2.2.2.2.2.2.2.2.2.2.2.1.length then
    bif a4.1 then
     some (.next (s.1, s.2.2.1, wrapF .i64 (s.2.2.1 + 1), s.2.2.2))
    else
     some (.next (s.1, s.2.1, wrapF .i64 (s.2.2.1 + 1), s.2.2.2))
   else
    none
  else
   bif s.2.1 == s.1 then
    bif s.2.2.2.2.2.2.2.2.2.2.2.2.2.2.2.2.2.2.2.2.2.2.1.length == c0.2.2.2.2.2.2.2.2.2.2.2.2.2.2.2.2.2.2.2.2.1.length then
     ((hedit_settled N) (Clock.mk (s.2.2.2.1, s.2.2.2.2.1) (Field.mk s.2.2.2.2.2.1) (Certs.mk s.2.2.2.2.2.2.1 s.2.2.2.2.2.2.2.1) (Agenda.mk (Slots.mk s.2.2.2.2.2.2.2.2.1 s.2.2.2.2.2.2.2.2.2.1 s.2.2.2.2.2.2.2.2.2.2.1) s.2.2.2.2.2.2.2.2.2.2.2.1 s.2.2.2.2.2.2.2.2.2.2.2.2.1) s.2.2.2.2.2.2.2.2.2.2.2.2.2.1) (Field.mk s.2.2.2.2.2.2.2.2.2.2.2.2.2.2.2.2.2.2.2.2.2.1) s.2.2.2.2.2.2.2.2.2.2.2.2.2.2.2.2.2.2.2.2.2.2.1).bind fun a5 =>
     some (.done (.done (.done a5)))
    else
     none
   else
    (geti s.2.2.2.2.2.2.2.2.2.2.2.2.2.2.2.2.2.2.2.2.2.2.1 s.2.1).bind fun n6 =>
    (geti s.2.2.2.2.2.2.2.2.2.2.2.2.2.2.2.2.2.2.2.2.2.2.1 s.1).bind fun n7 =>
    (geti s.2.2.2.2.2.2.2.2.2.2.2.2.2.2.2.2.2.2.2.2.2.2.1 s.1).bind fun _ =>
    (geti (seti s.2.2.2.2.2.2.2.2.2.2.2.2.2.2.2.2.2.2.2.2.2.2.1 s.1 n6) s.2.1).bind fun _ =>
    some (.done (.next (s.2.1, s.2.2.2.1, s.2.2.2.2.1, s.2.2.2.2.2.1, s.2.2.2.2.2.2.1, s.2.2.2.2.2.2.2.1, s.2.2.2.2.2.2.2.2.1, s.2.2.2.2.2.2.2.2.2.1, s.2.2.2.2.2.2.2.2.2.2.1, s.2.2.2.2.2.2.2.2.2.2.2.1, s.2.2.2.2.2.2.2.2.2.2.2.2.1, s.2.2.2.2.2.2.2.2.2.2.2.2.2.1, s.2.2.2.2.2.2.2.2.2.2.2.2.2.2.1, s.2.2.2.2.2.2.2.2.2.2.2.2.2.2.2.1, s.2.2.2.2.2.2.2.2.2.2.2.2.2.2.2.2.1, s.2.2.2.2.2.2.2.2.2.2.2.2.2.2.2.2.2.1, s.2.2.2.2.2.2.2.2.2.2.2.2.2.2.2.2.2.2.1, s.2.2.2.2.2.2.2.2.2.2.2.2.2.2.2.2.2.2.2.1, s.2.2.2.2.2.2.2.2.2.2.2.2.2.2.2.2.2.2.2.2.1, s.2.2.2.2.2.2.2.2.2.2.2.2.2.2.2.2.2.2.2.2.2.1, seti (seti s.2.2.2.2.2.2.2.2.2.2.2.2.2.2.2.2.2.2.2.2.2.2.1 s.1 n6) s.2.1 n7, s.2.2.2.2.2.2.2.2.2.2.2.2.2.2.2.2.2.2.2.2.2.2.2)))
 else
  bif s.2.1 == s.1 then
   bif s.2.2.2.2.2.2.2.2.2.2.2.2.2.2.2.2.2.2.2.2.2.2.1.length == c0.2.2.2.2.2.2.2.2.2.2.2.2.2.2.2.2.2.2.2.2.1.length then
    ((hedit_settled N) (Clock.mk (s.2.2.2.1, s.2.2.2.2.1) (Field.mk s.2.2.2.2.2.1) (Certs.mk s.2.2.2.2.2.2.1 s.2.2.2.2.2.2.2.1) (Agenda.mk (Slots.mk s.2.2.2.2.2.2.2.2.1 s.2.2.2.2.2.2.2.2.2.1 s.2.2.2.2.2.2.2.2.2.2.1) s.2.2.2.2.2.2.2.2.2.2.2.1 s.2.2.2.2.2.2.2.2.2.2.2.2.1) s.2.2.2.2.2.2.2.2.2.2.2.2.2.1) (Field.mk s.2.2.2.2.2.2.2.2.2.2.2.2.2.2.2.2.2.2.2.2.2.1) s.2.2.2.2.2.2.2.2.2.2.2.2.2.2.2.2.2.2.2.2.2.2.1).bind fun a10 =>
    some (.done (.done (.done a10)))
   else
    none
  else
   (geti s.2.2.2.2.2.2.2.2.2.2.2.2.2.2.2.2.2.2.2.2.2.2.1 s.2.1).bind fun n11 =>
   (geti s.2.2.2.2.2.2.2.2.2.2.2.2.2.2.2.2.2.2.2.2.2.2.1 s.1).bind fun n12 =>
   (geti s.2.2.2.2.2.2.2.2.2.2.2.2.2.2.2.2.2.2.2.2.2.2.1 s.1).bind fun _ =>
   (geti (seti s.2.2.2.2.2.2.2.2.2.2.2.2.2.2.2.2.2.2.2.2.2.2.1 s.1 n11) s.2.1).bind fun _ =>
   some (.done (.next (s.2.1, s.2.2.2.1, s.2.2.2.2.1, s.2.2.2.2.2.1, s.2.2.2.2.2.2.1, s.2.2.2.2.2.2.2.1, s.2.2.2.2.2.2.2.2.1, s.2.2.2.2.2.2.2.2.2.1, s.2.2.2.2.2.2.2.2.2.2.1, s.2.2.2.2.2.2.2.2.2.2.2.1, s.2.2.2.2.2.2.2.2.2.2.2.2.1, s.2.2.2.2.2.2.2.2.2.2.2.2.2.1, s.2.2.2.2.2.2.2.2.2.2.2.2.2.2.1, s.2.2.2.2.2.2.2.2.2.2.2.2.2.2.2.1, s.2.2.2.2.2.2.2.2.2.2.2.2.2.2.2.2.1, s.2.2.2.2.2.2.2.2.2.2.2.2.2.2.2.2.2.1, s.2.2.2.2.2.2.2.2.2.2.2.2.2.2.2.2.2.2.1, s.2.2.2.2.2.2.2.2.2.2.2.2.2.2.2.2.2.2.2.1, s.2.2.2.2.2.2.2.2.2.2.2.2.2.2.2.2.2.2.2.2.1, s.2.2.2.2.2.2.2.2.2.2.2.2.2.2.2.2.2.2.2.2.2.1, seti (seti s.2.2.2.2.2.2.2.2.2.2.2.2.2.2.2.2.2.2.2.2.2.2.1 s.1 n11) s.2.1 n12, s.2.2.2.2.2.2.2.2.2.2.2.2.2.2.2.2.2.2.2.2.2.2.2)))
noncomputable def hedit_Change_l4 (N : Nat) (c0 : (Int × Int × Int × (List (Int × Int × Int)) × Int × (List (Int × Int × Int)) × (List Int) × (List Bool) × (List Int) × (List (Int × Int × Int × Int × Int)) × (List Int) × (List (Int × Int × Int)) × (List Int) × Int × Int × Int × Int × Int × Int × (List (Int × Int × Int)) × (List Int) × (List (Int × Int × Int)) × Int × Int)) (s : (Int × Int × Int × (List (Int × Int × Int)) × Int × (List (Int × Int × Int)) × (List Int) × (List Bool) × (List Int) × (List (Int × Int × Int × Int × Int)) × (List Int) × (List (Int × Int × Int)) × (List Int) × Int × Int × Int × Int × Int × Int × (List (Int × Int × Int)) × (List Int) × (List (Int × Int × Int)) × Int × Int)) : Option (Step (Int × Int × Int × (List (Int × Int × Int)) × Int × (List (Int × Int × Int)) × (List Int) × (List Bool) × (List Int) × (List (Int × Int × Int × Int × Int)) × (List Int) × (List (Int × Int × Int)) × (List Int) × Int × Int × Int × Int × Int × Int × (List (Int × Int × Int)) × (List Int) × (List (Int × Int × Int)) × Int × Int) (Step (Int × Int × Int × (List (Int × Int × Int)) × Int × (List (Int × Int × Int)) × (List Int) × (List Bool) × (List Int) × (List (Int × Int × Int × Int × Int)) × (List Int) × (List (Int × Int × Int)) × (List Int) × Int × Int × Int × Int × Int × Int × (List (Int × Int × Int)) × (List Int) × (List (Int × Int × Int)) × Int × Int) (KHeap × Int))) :=
 (loopN N) ((hedit_Change_l3 N) c0) (s.1, s.1, wrapF .i64 ((wrapF .i64 (2 * s.1)) + 1), s.2)
noncomputable def hedit_Change_l5 (N : Nat) (c0 : (List Int)) (s : (Int × Int × Int × (List (Int × Int × Int)) × Int × (List (Int × Int × Int)) × (List Int) × (List Bool) × (List Int) × (List (Int × Int × Int × Int × Int)) × (List Int) × (List (Int × Int × Int)) × (List Int) × Int × Int × Int × Int × Int × Int × (List (Int × Int × Int)) × (List Int) × (List (Int × Int × Int)) × Int × Int)) : Option (Step (Int × Int × Int × (List (Int × Int × Int)) × Int × (List (Int × Int × Int)) × (List Int) × (List Bool) × (List Int) × (List (Int × Int × Int × Int × Int)) × (List Int) × (List (Int × Int × Int)) × (List Int) × Int × Int × Int × Int × Int × Int × (List (Int × Int × Int)) × (List Int) × (List (Int × Int × Int)) × Int × Int) (KHeap × Int)) :=
 bif decide (0 < s.1) then
  (geti s.2.2.2.2.2.2.2.2.2.2.2.2.2.2.2.2.2.2.2.2.1 s.1).bind fun n0 =>
  ((field_Find N) (Field.mk s.2.2.2.2.2.2.2.2.2.2.2.2.2.2.2.2.2.2.2.2.2.1) n0).bind fun a1 =>
  (geti s.2.2.2.2.2.2.2.2.2.2.2.2.2.2.2.2.2.2.2.2.1 (wrapF .i64 (Int.tdiv (wrapF .i64 (s.1 - 1)) 2))).bind fun n2 =>
  ((field_Find N) (Field.mk s.2.2.2.2.2.2.2.2.2.2.2.2.2.2.2.2.2.2.2.2.2.1) n2).bind fun a3 =>
  ((course_Ahead N) a1.1 a3.1 s.2.2.2.2.2.2.2.2.2.2.2.2.2.2.2.2.2.2.2.2.2.2).bind fun a4 =>
  bif s.2.2.2.2.2.2.2.2.2.2.2.2.2.2.2.2.2.2.2.2.1.length == s.2.2.2.2.2.2.2.2.2.2.2.2.2.2.2.2.2.2.2.2.1.length then
   bif a4.1 then
    (geti s.2.2.2.2.2.2.2.2.2.2.2.2.2.2.2.2.2.2.2.2.1 (wrapF .i64 (Int.tdiv (wrapF .i64 (s.1 - 1)) 2))).bind fun n5 =>
    (geti s.2.2.2.2.2.2.2.2.2.2.2.2.2.2.2.2.2.2.2.2.1 s.1).bind fun n6 =>
    (geti s.2.2.2.2.2.2.2.2.2.2.2.2.2.2.2.2.2.2.2.2.1 s.1).bind fun _ =>
    (geti (seti s.2.2.2.2.2.2.2.2.2.2.2.2.2.2.2.2.2.2.2.2.1 s.1 n5) (wrapF .i64 (Int.tdiv (wrapF .i64 (s.1 - 1)) 2))).bind fun _ =>
    some (.next (wrapF .i64 (Int.tdiv (wrapF .i64 (s.1 - 1)) 2), s.2.1, s.2.2.1, s.2.2.2.1, s.2.2.2.2.1, s.2.2.2.2.2.1, s.2.2.2.2.2.2.1, s.2.2.2.2.2.2.2.1, s.2.2.2.2.2.2.2.2.1, s.2.2.2.2.2.2.2.2.2.1, s.2.2.2.2.2.2.2.2.2.2.1, s.2.2.2.2.2.2.2.2.2.2.2.1, s.2.2.2.2.2.2.2.2.2.2.2.2.1, s.2.2.2.2.2.2.2.2.2.2.2.2.2.1, s.2.2.2.2.2.2.2.2.2.2.2.2.2.2.1, s.2.2.2.2.2.2.2.2.2.2.2.2.2.2.2.1, s.2.2.2.2.2.2.2.2.2.2.2.2.2.2.2.2.1, s.2.2.2.2.2.2.2.2.2.2.2.2.2.2.2.2.2.1, s.2.2.2.2.2.2.2.2.2.2.2.2.2.2.2.2.2.2.1, s.2.2.2.2.2.2.2.2.2.2.2.2.2.2.2.2.2.2.2.1, seti (seti s.2.2.2.2.2.2.2.2.2.2.2.2.2.2.2.2.2.2.2.2.1 s.1 n5) (wrapF .i64 (Int.tdiv (wrapF .i64 (s.1 - 1)) 2)) n6, s.2.2.2.2.2.2.2.2.2.2.2.2.2.2.2.2.2.2.2.2.2))
   else
    bif s.2.2.2.2.2.2.2.2.2.2.2.2.2.2.2.2.2.2.2.2.1.length == c0.length then
     (loopN N) ((hedit_Change_l2 N) s) (s.1, s.2.1, s.2.2.1, s.2.2.2.1, s.2.2.2.2.1, s.2.2.2.2.2.1, s.2.2.2.2.2.2.1, s.2.2.2.2.2.2.2.1, s.2.2.2.2.2.2.2.2.1, s.2.2.2.2.2.2.2.2.2.1, s.2.2.2.2.2.2.2.2.2.2.1, s.2.2.2.2.2.2.2.2.2.2.2.1, s.2.2.2.2.2.2.2.2.2.2.2.2.1, s.2.2.2.2.2.2.2.2.2.2.2.2.2.1, s.2.2.2.2.2.2.2.2.2.2.2.2.2.2.1, s.2.2.2.2.2.2.2.2.2.2.2.2.2.2.2.1, s.2.2.2.2.2.2.2.2.2.2.2.2.2.2.2.2.1, s.2.2.2.2.2.2.2.2.2.2.2.2.2.2.2.2.2.1, s.2.2.2.2.2.2.2.2.2.2.2.2.2.2.2.2.2.2.1, s.2.2.2.2.2.2.2.2.2.2.2.2.2.2.2.2.2.2.2.1, s.2.2.2.2.2.2.2.2.2.2.2.2.2.2.2.2.2.2.2.2.1, s.2.2.2.2.2.2.2.2.2.2.2.2.2.2.2.2.2.2.2.2.2.1, s.2.2.2.2.2.2.2.2.2.2.2.2.2.2.2.2.2.2.2.2.2.2.1, s.2.2.2.2.2.2.2.2.2.2.2.2.2.2.2.2.2.2.2.2.2.2.2, a1.1.1, a1.1.2.1, a1.1.2.2, a3.1)
    else
     none
  else
   none
 else
  bif s.2.2.2.2.2.2.2.2.2.2.2.2.2.2.2.2.2.2.2.2.1.length == c0.length then
   (loopN N) ((hedit_Change_l4 N) s) s
  else
   none
noncomputable def hedit_Change (N : Nat) (p0 : KHeap) (p1 : Int × Int × Int) : Option (KHeap × Int) :=
 ((kheap_Check N) p0).bind fun n0 =>
 bif n0 != 0 then
  some (KHeap.mk (Clock.mk (0, 0) (Field.mk []) (Certs.mk 0 []) (Agenda.mk (Slots.mk [] [] []) [] []) []) [], n0)
 else
  ((field_Change N) p0.clock.field p1).bind fun a1 =>
  bif a1.2 != 0 then
   some (KHeap.mk (Clock.mk (0, 0) (Field.mk []) (Certs.mk 0 []) (Agenda.mk (Slots.mk [] [] []) [] []) []) [], a1.2)
  else
   (cloneO p0.heap).bind fun l2 =>
   bif l2.length == l2.length then
    ((slices_Index_int N) l2 p1.1).bind fun n3 =>
    (loopN N) ((hedit_Change_l5 N) l2) (n3, p0.clock.now.1, p0.clock.now.2, p0.clock.field.points, p0.clock.certs.next_, p0.clock.certs.list, p0.clock.agenda.slots.uses, p0.clock.agenda.slots.used, p0.clock.agenda.slots.free, p0.clock.agenda.heap, p0.clock.agenda.where_, p0.clock.due, p0.heap, p1.1, p1.2.1, p1.2.2, 0, 0, 0, a1.1.points, l2, a1.1.points, p0.clock.now)
   else
    none
noncomputable def c7 (N : Nat) : Con := ⟨Args.cons (Arg.agg KHeap_c) (Args.one (Arg.agg (Cod.row kiii))), Arg.tup (Args.cons (Arg.agg KHeap_c) (Args.one (Arg.int .i64))), fun a => (hedit_Change N) a.1 a.2, .frz, false⟩
theorem c7_ok (N : Nat) : ConOK tab 7 (c7 N) := ConOK.of tab_7 (cx := (mkCx (loopL N) [(14, (c14 N)), (21, (c21 N)), (16, Con.clone ki), (42, (c42 N)), (43, (c43 N)), (20, (c20 N)), (18, (c18 N))] [] [(17, x17), (41, x41), (44, x44), (45, x45)] [])) rfl (CxOK.make ⟨(c14_ok N), (c21_ok N), prim_16, (c42_ok N), (c43_ok N), (c20_ok N), (c18_ok N), trivial⟩ trivial ⟨tab_17, tab_41, tab_44, tab_45, trivial⟩) (fun a => by kernel_rfl)
noncomputable def ref13_Twin (N : Nat) (p0 : KHeap) : Option KHeap :=
 ((ref09_Twin N) p0.clock).bind fun r0 =>
 (cloneO p0.heap).bind fun l1 =>
 some (KHeap.mk r0 l1)
noncomputable def c10 (N : Nat) : Con := ⟨Args.one (Arg.agg KHeap_c), Arg.agg KHeap_c, fun a => (ref13_Twin N) a, .own, true⟩
noncomputable def c10p (N : Nat) : Con := ⟨Args.one (Arg.agg KHeap_c), Arg.agg KHeap_c, fun a => (ref13_Twin N) a, .frz, false⟩
theorem c10_ok (N : Nat) : ConOK tab 10 (c10 N) := ConOK.of tab_10 (cx := (mkCx (loopL N) [(26, (c26 N)), (26, (c26p N))] [] [] [])) rfl (CxOK.make ⟨(c26_ok N), (c26p_ok N), trivial⟩ trivial trivial) (fun a => by kernel_rfl)
theorem c10p_ok (N : Nat) : ConOK tab 10 (c10p N) := ConOK.of tab_10 (cx := (mkCx (loopL N) [(26, (c26 N)), (26, (c26p N))] [] [] [])) rfl (CxOK.make ⟨(c26_ok N), (c26p_ok N), trivial⟩ trivial trivial) (fun a => by kernel_rfl)
noncomputable def ref03_SameIDs_l1 (_ : Nat) (s : ((List Int) × (List Int) × Int)) : Option (Step ((List Int) × (List Int) × Int) Bool) :=
 bif decide (s.2.2 < (Int.ofNat s.1.length)) then
  (geti s.1 s.2.2).bind fun n0 =>
  (geti s.2.1 s.2.2).bind fun n1 =>
  bif n0 != n1 then
   some (.done false)
  else
   some (.next (s.1, s.2.1, wrapF .i64 (s.2.2 + 1)))
 else
  some (.done true)
noncomputable def ref03_SameIDs (N : Nat) (p0 : List Int) (p1 : List Int) : Option Bool :=
 bif (Int.ofNat p0.length) != (Int.ofNat p1.length) then
  some false
 else
  (loopN N) (ref03_SameIDs_l1 N) (p0, p1, 0)
noncomputable def c12 (N : Nat) : Con := ⟨Args.cons (Arg.sl ki) (Args.one (Arg.sl ki)), Arg.bool, fun a => (ref03_SameIDs N) a.1 a.2, .pure, false⟩
theorem c12_ok (N : Nat) : ConOK tab 12 (c12 N) := ConOK.of tab_12 (cx := (mkCx (loopL N) [] [] [] [])) rfl (CxOK.make trivial trivial trivial) (fun a => by kernel_rfl)
noncomputable def law14_alive (N : Nat)  : Option Bool :=
 (law14_given N).bind fun r0 =>
 ((hedit_Put N) r0 (7, 9, -1)).bind fun a1 =>
 ((hedit_Take N) a1.1 7).bind fun a2 =>
 bif a1.2 == 0 then
  bif a2.2 == 0 then
   ((ref03_SameIDs N) a1.1.heap [7, 1, 5, 2]).bind fun b3 =>
   bif b3 then
    ((ref03_SameIDs N) a2.1.heap [1, 2, 5]).bind fun b4 =>
    some b4
   else
    some false
  else
   some false
 else
  some false
noncomputable def c11 (N : Nat) : Con := ⟨Args.nil, Arg.bool, fun _ => (law14_alive N), .pure, false⟩
theorem c11_ok (N : Nat) : ConOK tab 11 (c11 N) := ConOK.of tab_11 (cx := (mkCx (loopL N) [(4, (c4 N)), (5, (c5 N)), (6, (c6 N)), (12, (c12 N))] [] [] [])) rfl (CxOK.make ⟨(c4_ok N), (c5_ok N), (c6_ok N), (c12_ok N), trivial⟩ trivial trivial) (fun a => by kernel_rfl)
noncomputable def law14_HeditNames_l1 (N : Nat) (s : (Int × Int × Int × Int × Int × Int × Int × Int × Int × Int × Int × Int × Int × Int × Int × (List (Int × Int × Int)) × Int × (List (Int × Int × Int)) × (List Int) × (List Bool) × (List Int) × (List (Int × Int × Int × Int × Int)) × (List Int) × (List (Int × Int × Int)) × (List Int) × Int × Int × (List (Int × Int × Int)) × Int × (List (Int × Int × Int)) × (List Int) × (List Bool) × (List Int) × (List (Int × Int × Int × Int × Int)) × (List Int) × (List (Int × Int × Int)) × (List Int) × Int × Int × (List (Int × Int × Int)) × Int × (List (Int × Int × Int)) × (List Int) × (List Bool) × (List Int) × (List (Int × Int × Int × Int × Int)) × (List Int) × (List (Int × Int × Int)) × (List Int) × (List (Int × Int × Int)))) : Option (Step (Int × Int × Int × Int × Int × Int × Int × Int × Int × Int × Int × Int × Int × Int × Int × (List (Int × Int × Int)) × Int × (List (Int × Int × Int)) × (List Int) × (List Bool) × (List Int) × (List (Int × Int × Int × Int × Int)) × (List Int) × (List (Int × Int × Int)) × (List Int) × Int × Int × (List (Int × Int × Int)) × Int × (List (Int × Int × Int)) × (List Int) × (List Bool) × (List Int) × (List (Int × Int × Int × Int × Int)) × (List Int) × (List (Int × Int × Int)) × (List Int) × Int × Int × (List (Int × Int × Int)) × Int × (List (Int × Int × Int)) × (List Int) × (List Bool) × (List Int) × (List (Int × Int × Int × Int × Int)) × (List Int) × (List (Int × Int × Int)) × (List Int) × (List (Int × Int × Int))) Bool) :=
 bif decide (s.2.2.2.2.2.2.2.2.2.2.2.2.1 < 64) then
  (appendO s.2.2.2.2.2.2.2.2.2.2.2.2.2.2.2.2.2.2.2.2.2.2.2.2.2.2.2.2.2.2.2.2.2.2.2.2.2.2.2.2.2.2.2.2.2.2.2.2.2 [(s.2.2.2.2.2.2.2.2.2.2.2.2.1, s.2.2.2.2.2.2.2.2.2.2.2.2.1, 0)]).bind fun l0 =>
  some (.next (s.1, s.2.1, s.2.2.1, s.2.2.2.1, s.2.2.2.2.1, s.2.2.2.2.2.1, s.2.2.2.2.2.2.1, s.2.2.2.2.2.2.2.1, s.2.2.2.2.2.2.2.2.1, s.2.2.2.2.2.2.2.2.2.1, s.2.2.2.2.2.2.2.2.2.2.1, s.2.2.2.2.2.2.2.2.2.2.2.1, wrapF .i64 (s.2.2.2.2.2.2.2.2.2.2.2.2.1 + 1), s.2.2.2.2.2.2.2.2.2.2.2.2.2.1, s.2.2.2.2.2.2.2.2.2.2.2.2.2.2.1, s.2.2.2.2.2.2.2.2.2.2.2.2.2.2.2.1, s.2.2.2.2.2.2.2.2.2.2.2.2.2.2.2.2.1, s.2.2.2.2.2.2.2.2.2.2.2.2.2.2.2.2.2.1, s.2.2.2.2.2.2.2.2.2.2.2.2.2.2.2.2.2.2.1, s.2.2.2.2.2.2.2.2.2.2.2.2.2.2.2.2.2.2.2.1, s.2.2.2.2.2.2.2.2.2.2.2.2.2.2.2.2.2.2.2.2.1, s.2.2.2.2.2.2.2.2.2.2.2.2.2.2.2.2.2.2.2.2.2.1, s.2.2.2.2.2.2.2.2.2.2.2.2.2.2.2.2.2.2.2.2.2.2.1, s.2.2.2.2.2.2.2.2.2.2.2.2.2.2.2.2.2.2.2.2.2.2.2.1, s.2.2.2.2.2.2.2.2.2.2.2.2.2.2.2.2.2.2.2.2.2.2.2.2.1, s.2.2.2.2.2.2.2.2.2.2.2.2.2.2.2.2.2.2.2.2.2.2.2.2.2.1, s.2.2.2.2.2.2.2.2.2.2.2.2.2.2.2.2.2.2.2.2.2.2.2.2.2.2.1, s.2.2.2.2.2.2.2.2.2.2.2.2.2.2.2.2.2.2.2.2.2.2.2.2.2.2.2.1, s.2.2.2.2.2.2.2.2.2.2.2.2.2.2.2.2.2.2.2.2.2.2.2.2.2.2.2.2.1, s.2.2.2.2.2.2.2.2.2.2.2.2.2.2.2.2.2.2.2.2.2.2.2.2.2.2.2.2.2.1, s.2.2.2.2.2.2.2.2.2.2.2.2.2.2.2.2.2.2.2.2.2.2.2.2.2.2.2.2.2.2.1, s.2.2.2.2.2.2.2.2.2.2.2.2.2.2.2.2.2.2.2.2.2.2.2.2.2.2.2.2.2.2.2.1, s.2.2.2.2.2.2.2.2.2.2.2.2.2.2.2.2.2.2.2.2.2.2.2.2.2.2.2.2.2.2.2.2.1, s.2.2.2.2.2.2.2.2.2.2.2.2.2.2.2.2.2.2.2.2.2.2.2.2.2.2.2.2.2.2.2.2.2.1, s.2.2.2.2.2.2.2.2.2.2.2.2.2.2.2.2.2.2.2.2.2.2.2.2.2.2.2.2.2.2.2.2.2.2.1, s.2.2.2.2.2.2.2.2.2.2.2.2.2.2.2.2.2.2.2.2.2.2.2.2.2.2.2.2.2.2.2.2.2.2.2.1, s.2.2.2.2.2.2.2.2.2.2.2.2.2.2.2.2.2.2.2.2.2.2.2.2.2.2.2.2.2.2.2.2.2.2.2.2.1, s.2.2.2.2.2.2.2.2.2.2.2.2.2.2.2.2.2.2.2.2.2.2.2.2.2.2.2.2.2.2.2.2.2.2.2.2.2.1, s.2.2.2.2.2.2.2.2.2.2.2.2.2.2.2.2.2.2.2.2.2.2.2.2.2.2.2.2.2.2.2.2.2.2.2.2.2.2.1, s.2.2.2.2.2.2.2.2.2.2.2.2.2.2.2.2.2.2.2.2.2.2.2.2.2.2.2.2.2.2.2.2.2.2.2.2.2.2.2.1, s.2.2.2.2.2.2.2.2.2.2.2.2.2.2.2.2.2.2.2.2.2.2.2.2.2.2.2.2.2.2.2.2.2.2.2.2.2.2.2.2.1, s.2.2.2.2.2.2.2.2.2.2.2.2.2.2.2.2.2.2.2.2.2.2.2.2.2.2.2.2.2.2.2.2.2.2.2.2.2.2.2.2.2.1, s.2.2.2.2.2.2.2.2.2.2.2.2.2.2.2.2.2.2.2.2.2.2.2.2.2.2.2.2.2.2.2.2.2.2.2.2.2.2.2.2.2.2.1, s.2.2.2.2.2.2.2.2.2.2.2.2.2.2.2.2.2.2.2.2.2.2.2.2.2.2.2.2.2.2.2.2.2.2.2.2.2.2.2.2.2.2.2.1, s.2.2.2.2.2.2.2.2.2.2.2.2.2.2.2.2.2.2.2.2.2.2.2.2.2.2.2.2.2.2.2.2.2.2.2.2.2.2.2.2.2.2.2.2.1, s.2.2.2.2.2.2.2.2.2.2.2.2.2.2.2.2.2.2.2.2.2.2.2.2.2.2.2.2.2.2.2.2.2.2.2.2.2.2.2.2.2.2.2.2.2.1, s.2.2.2.2.2.2.2.2.2.2.2.2.2.2.2.2.2.2.2.2.2.2.2.2.2.2.2.2.2.2.2.2.2.2.2.2.2.2.2.2.2.2.2.2.2.2.1, s.2.2.2.2.2.2.2.2.2.2.2.2.2.2.2.2.2.2.2.2.2.2.2.2.2.2.2.2.2.2.2.2.2.2.2.2.2.2.2.2.2.2.2.2.2.2.2.1, s.2.2.2.2.2.2.2.2.2.2.2.2.2.2.2.2.2.2.2.2.2.2.2.2.2.2.2.2.2.2.2.2.2.2.2.2.2.2.2.2.2.2.2.2.2.2.2.2.1, l0))
 else
  ((law14_at N) 0).bind fun a1 =>
  ((ref13_Heaped N) (Field.mk s.2.2.2.2.2.2.2.2.2.2.2.2.2.2.2.2.2.2.2.2.2.2.2.2.2.2.2.2.2.2.2.2.2.2.2.2.2.2.2.2.2.2.2.2.2.2.2.2.2) a1).bind fun r2 =>
  ((hedit_Put N) r2 (64, 0, 0)).bind fun a3 =>
  (law14_alive N).bind fun b4 =>
  bif b4 then
   bif s.1 == 8 then
    bif s.2.1 == 8 then
     bif s.2.2.1 == 14 then
      bif s.2.2.2.1 == 6 then
       bif s.2.2.2.2.1 == 6 then
        bif s.2.2.2.2.2.1 == 6 then
         bif s.2.2.2.2.2.2.1 == 8 then
          bif s.2.2.2.2.2.2.2.1 == 0 then
           ((ref03_SameIDs N) s.2.2.2.2.2.2.2.2.2.2.2.2.2.2.2.2.2.2.2.2.2.2.2.2.1 [9]).bind fun b5 =>
           bif b5 then
            bif s.2.2.2.2.2.2.2.2.1 == 0 then
             bif (Int.ofNat s.2.2.2.2.2.2.2.2.2.2.2.2.2.2.2.2.2.2.2.2.2.2.2.2.2.2.2.2.2.2.2.2.2.2.2.2.1.length) == 0 then
              bif (Int.ofNat s.2.2.2.2.2.2.2.2.2.2.2.2.2.2.2.2.2.2.2.2.2.2.2.2.2.2.2.2.2.1.length) == 0 then
               bif s.2.2.2.2.2.2.2.2.2.1 == 6 then
                bif s.2.2.2.2.2.2.2.2.2.2.1 == 18 then
                 bif s.2.2.2.2.2.2.2.2.2.2.2.1 == 0 then
                  bif (Int.ofNat s.2.2.2.2.2.2.2.2.2.2.2.2.2.2.2.2.2.2.2.2.2.2.2.2.2.2.2.2.2.2.2.2.2.2.2.2.2.2.2.2.2.2.2.2.2.2.2.2.1.length) == 2 then
                   some (.done (a3.2 == 18))
                  else
                   some (.done false)
                 else
                  some (.done false)
                else
                 some (.done false)
               else
                some (.done false)
              else
               some (.done false)
             else
              some (.done false)
            else
             some (.done false)
           else
            some (.done false)
          else
           some (.done false)
         else
          some (.done false)
        else
         some (.done false)
       else
        some (.done false)
      else
       some (.done false)
     else
      some (.done false)
    else
     some (.done false)
   else
    some (.done false)
  else
   some (.done false)
noncomputable def law14_HeditNames (N : Nat)  : Option Bool :=
 (law14_given N).bind fun r0 =>
 ((hedit_Put N) (KHeap.mk (Clock.mk (0, 0) (Field.mk []) (Certs.mk 0 []) (Agenda.mk (Slots.mk [] [] []) [] []) []) []) (-1, 0, 0)).bind fun a1 =>
 ((hedit_Put N) r0 (-1, 0, 0)).bind fun a2 =>
 ((hedit_Put N) r0 (5, 0, 0)).bind fun a3 =>
 ((hedit_Take N) r0 6).bind fun a4 =>
 ((hedit_Take N) r0 (-1)).bind fun a5 =>
 ((hedit_Change N) r0 (6, 0, 0)).bind fun a6 =>
 ((hedit_Change N) r0 (5, 0, 1048577)).bind fun a7 =>
 ((law14_at N) 3).bind fun a8 =>
 ((ref13_Heaped N) (Field.mk []) a8).bind fun r9 =>
 ((hedit_Put N) r9 (9, 0, 0)).bind fun a10 =>
 ((hedit_Take N) a10.1 9).bind fun a11 =>
 ((hedit_Take N) a11.1 9).bind fun a12 =>
 ((ref13_Twin N) r0).bind fun r13 =>
 ((hedit_Put N) (KHeap.mk (Clock.mk r13.clock.now r13.clock.field (Certs.mk 1000000 r13.clock.certs.list) r13.clock.agenda r13.clock.due) r13.heap) (7, 0, 0)).bind fun a14 =>
 (geti r0.heap 2).bind fun n15 =>
 ((hedit_Take N) (KHeap.mk (Clock.mk r13.clock.now r13.clock.field (Certs.mk 1000000 r13.clock.certs.list) r13.clock.agenda r13.clock.due) r13.heap) n15).bind fun a16 =>
 (loopN N) (law14_HeditNames_l1 N) (a1.2, a2.2, a3.2, a4.2, a5.2, a6.2, a7.2, a10.2, a11.2, a12.2, a14.2, a16.2, 0, a10.1.clock.now.1, a10.1.clock.now.2, a10.1.clock.field.points, a10.1.clock.certs.next_, a10.1.clock.certs.list, a10.1.clock.agenda.slots.uses, a10.1.clock.agenda.slots.used, a10.1.clock.agenda.slots.free, a10.1.clock.agenda.heap, a10.1.clock.agenda.where_, a10.1.clock.due, a10.1.heap, a11.1.clock.now.1, a11.1.clock.now.2, a11.1.clock.field.points, a11.1.clock.certs.next_, a11.1.clock.certs.list, a11.1.clock.agenda.slots.uses, a11.1.clock.agenda.slots.used, a11.1.clock.agenda.slots.free, a11.1.clock.agenda.heap, a11.1.clock.agenda.where_, a11.1.clock.due, a11.1.heap, a16.1.clock.now.1, a16.1.clock.now.2, a16.1.clock.field.points, a16.1.clock.certs.next_, a16.1.clock.certs.list, a16.1.clock.agenda.slots.uses, a16.1.clock.agenda.slots.used, a16.1.clock.agenda.slots.free, a16.1.clock.agenda.heap, a16.1.clock.agenda.where_, a16.1.clock.due, a16.1.heap, [])
noncomputable def c3 (N : Nat) : Con := ⟨Args.nil, Arg.bool, fun _ => (law14_HeditNames N), .pure, false⟩
theorem c3_ok (N : Nat) : ConOK tab 3 (c3 N) := ConOK.of tab_3 (cx := (mkCx (loopL N) [(4, (c4 N)), (5, (c5 N)), (6, (c6 N)), (7, (c7 N)), (9, (c9 N)), (8, (c8 N)), (10, (c10 N)), (10, (c10p N)), (11, (c11 N)), (12, (c12 N))] [] [] [])) rfl (CxOK.make ⟨(c4_ok N), (c5_ok N), (c6_ok N), (c7_ok N), (c9_ok N), (c8_ok N), (c10_ok N), (c10p_ok N), (c11_ok N), (c12_ok N), trivial⟩ trivial trivial) (fun a => by kernel_rfl)
end Go.Proofs.YtaijhghcfanhnaaGreat
