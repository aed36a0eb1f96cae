/- Plain functions for what the functions of the seat compute. Printed by a program. -/
import Derived.Test.YtppeldaebnfmdabGreatEVm4
import Derived.Test.YtppeldaebnfmdabGreatECXT
set_option maxRecDepth 100000
namespace Go.Proofs.YtppeldaebnfmdabGreat
open Go.Vm
abbrev kii : List PT := [.i .i64, .i .i64]
abbrev kiii : List PT := [.i .i64, .i .i64, .i .i64]
abbrev ki : List PT := [.i .i64]
abbrev kb : List PT := [.b]
abbrev kiiiii : List PT := [.i .i64, .i .i64, .i .i64, .i .i64, .i .i64]
abbrev kbuu : List PT := [.b, .i .u64, .i .u64]
abbrev kiiii : List PT := [.i .i64, .i .i64, .i .i64, .i .i64]
abbrev kiu : List PT := [.i .i64, .i .u64]
structure Field where
 points : List (Int × Int × Int)
def Field_c : Cod Field := Cod.iso (Cod.sl kiii) (fun p => ⟨p⟩) (fun c => c.points) (fun _ => rfl)
structure Slots where
 uses : List Int
 used : List Bool
 free : List Int
def Slots_c : Cod Slots := Cod.iso (Cod.prod (Cod.sl ki) (Cod.prod (Cod.sl kb) (Cod.sl ki))) (fun p => ⟨p.1, p.2.1, p.2.2⟩) (fun c => (c.uses, c.used, c.free)) (fun _ => rfl)
structure Agenda where
 slots : Slots
 heap : List (Int × Int × Int × Int × Int)
 where_ : List Int
def Agenda_c : Cod Agenda := Cod.iso (Cod.prod Slots_c (Cod.prod (Cod.sl kiiiii) (Cod.sl ki))) (fun p => ⟨p.1, p.2.1, p.2.2⟩) (fun c => (c.slots, c.heap, c.where_)) (fun _ => rfl)
structure Certs where
 next_ : Int
 list : List (Int × Int × Int)
def Certs_c : Cod Certs := Cod.iso (Cod.prod (Cod.int .i64) (Cod.sl kiii)) (fun p => ⟨p.1, p.2⟩) (fun c => (c.next_, c.list)) (fun _ => rfl)
structure Clock where
 now : Int × Int
 field : Field
 certs : Certs
 agenda : Agenda
 due : List (Int × Int × Int)
def Clock_c : Cod Clock := Cod.iso (Cod.prod (Cod.row kii) (Cod.prod Field_c (Cod.prod Certs_c (Cod.prod Agenda_c (Cod.sl kiii))))) (fun p => ⟨p.1, p.2.1, p.2.2.1, p.2.2.2.1, p.2.2.2.2⟩) (fun c => (c.now, c.field, c.certs, c.agenda, c.due)) (fun _ => rfl)
structure Tree where
 root : Int
 nodes : List (Int × Int × Int)
def Tree_c : Cod Tree := Cod.iso (Cod.prod (Cod.int .i64) (Cod.sl kiii)) (fun p => ⟨p.1, p.2⟩) (fun c => (c.root, c.nodes)) (fun _ => rfl)
structure Heater where
 clock : Clock
 tree : Tree
def Heater_c : Cod Heater := Cod.iso (Cod.prod Clock_c Tree_c) (fun p => ⟨p.1, p.2⟩) (fun c => (c.clock, c.tree)) (fun _ => rfl)
noncomputable def law18_at (_ : Nat) (p0 : Int) : Option (Int × Int) :=
 some (p0, 1)
noncomputable def c9 (N : Nat) : Con := ⟨Args.one (Arg.int .i64), Arg.agg (Cod.row kii), fun a => (law18_at N) a, .pure, false⟩
theorem c9_ok (N : Nat) : ConOK tab 9 (c9 N) := ConOK.of tab_9 (cx := (mkCx (loopL N) [] [] [] [])) rfl (CxOK.make trivial trivial trivial) (fun a => by kernel_rfl)
noncomputable def ref02_Check (_ : Nat) (p0 : Int × Int × Int) : Option Int :=
 bif decide (p0.1 < 0) then
  some 8
 else
  bif decide (65535 < p0.1) then
   some 8
  else
   bif decide (p0.2.1 < (-1048576)) then
    some 8
   else
    bif decide (1048576 < p0.2.1) then
     some 8
    else
     bif decide (p0.2.2 < (-1048576)) then
      some 8
     else
      bif decide (1048576 < p0.2.2) then
       some 8
      else
       some 0
noncomputable def c40 (N : Nat) : Con := ⟨Args.one (Arg.agg (Cod.row kiii)), Arg.int .i64, fun a => (ref02_Check N) a, .pure, false⟩
theorem c40_ok (N : Nat) : ConOK tab 40 (c40 N) := ConOK.of tab_40 (cx := (mkCx (loopL N) [] [] [] [])) rfl (CxOK.make trivial trivial trivial) (fun a => by kernel_rfl)
noncomputable def ref03_Check_l1 (_ : Nat) (s : (Int × (List (Int × Int × Int)))) : Option (Step (Int × (List (Int × Int × Int))) (Step (Int × (List (Int × Int × Int))) Int)) :=
 bif decide (s.1 < (Int.ofNat s.2.length)) then
  (geti s.2 (wrapF .i64 (s.1 - 1))).bind fun a0 =>
  (geti s.2 s.1).bind fun a1 =>
  bif decide (a1.1 ≤ a0.1) then
   some (.done (.done 32))
  else
   some (.next (wrapF .i64 (s.1 + 1), s.2))
 else
  some (.done (.done 0))
noncomputable def ref03_Check_l2 (N : Nat) (s : (Int × (List (Int × Int × Int)))) : Option (Step (Int × (List (Int × Int × Int))) Int) :=
 bif decide (s.1 < (Int.ofNat s.2.length)) then
  (geti s.2 s.1).bind fun a0 =>
  ((ref02_Check N) a0).bind fun n1 =>
  bif n1 != 0 then
   some (.done 8)
  else
   some (.next (wrapF .i64 (s.1 + 1), s.2))
 else
  (loopN N) (ref03_Check_l1 N) (1, s.2)
noncomputable def ref03_Check (N : Nat) (p0 : Field) : Option Int :=
 bif decide (64 < (Int.ofNat p0.points.length)) then
  some 4
 else
  (loopN N) (ref03_Check_l2 N) (0, p0.points)
noncomputable def c21 (N : Nat) : Con := ⟨Args.one (Arg.agg Field_c), Arg.int .i64, fun a => (ref03_Check N) a, .pure, false⟩
theorem c21_ok (N : Nat) : ConOK tab 21 (c21 N) := ConOK.of tab_21 (cx := (mkCx (loopL N) [(40, (c40 N))] [] [] [])) rfl (CxOK.make ⟨(c40_ok N), trivial⟩ trivial trivial) (fun a => by kernel_rfl)
noncomputable def ref01_size (_ : Nat) (p0 : Int) : Option Int :=
 bif decide (p0 < 0) then
  some (wrapF .u64 ((wrapF .u64 (wrapF .i64 (0 - (wrapF .i64 (p0 + 1))))) + 1))
 else
  some (wrapF .u64 p0)
noncomputable def c42 (N : Nat) : Con := ⟨Args.one (Arg.int .i64), Arg.int .u64, fun a => (ref01_size N) a, .pure, false⟩
theorem c42_ok (N : Nat) : ConOK tab 42 (c42 N) := ConOK.of tab_42 (cx := (mkCx (loopL N) [] [] [] [])) rfl (CxOK.make trivial trivial trivial) (fun a => by kernel_rfl)
noncomputable def ref01_common_l1 (_ : Nat) (s : (Int × Int)) : Option (Step (Int × Int) Int) :=
 bif s.2 != 0 then
  bif s.2 == 0 then
   none
  else
   some (.next (s.2, Int.tmod s.1 s.2))
 else
  some (.done s.1)
noncomputable def ref01_common (N : Nat) (p0 : Int) (p1 : Int) : Option Int :=
 (loopN N) (ref01_common_l1 N) (p0, p1)
noncomputable def c41 (N : Nat) : Con := ⟨Args.cons (Arg.int .u64) (Args.one (Arg.int .u64)), Arg.int .u64, fun a => (ref01_common N) a.1 a.2, .pure, false⟩
theorem c41_ok (N : Nat) : ConOK tab 41 (c41 N) := ConOK.of tab_41 (cx := (mkCx (loopL N) [] [] [] [])) rfl (CxOK.make trivial trivial trivial) (fun a => by kernel_rfl)
noncomputable def ref01_Check (N : Nat) (p0 : Int × Int) : Option Int :=
 bif decide (p0.2 < 1) then
  some 8
 else
  bif p0.1 == (-9223372036854775808) then
   some 8
  else
   ((ref01_size N) p0.1).bind fun n0 =>
   ((ref01_common N) n0 (wrapF .u64 p0.2)).bind fun n1 =>
   bif n1 != 1 then
    some 8
   else
    some 0
noncomputable def c22 (N : Nat) : Con := ⟨Args.one (Arg.agg (Cod.row kii)), Arg.int .i64, fun a => (ref01_Check N) a, .pure, false⟩
theorem c22_ok (N : Nat) : ConOK tab 22 (c22 N) := ConOK.of tab_22 (cx := (mkCx (loopL N) [(42, (c42 N)), (41, (c41 N))] [] [] [])) rfl (CxOK.make ⟨(c42_ok N), (c41_ok N), trivial⟩ trivial trivial) (fun a => by kernel_rfl)
noncomputable def ref03_Twin (_ : Nat) (p0 : Field) : Option Field :=
 (cloneO p0.points).bind fun l0 =>
 some (Field.mk l0)
noncomputable def c46 (N : Nat) : Con := ⟨Args.one (Arg.agg Field_c), Arg.agg Field_c, fun a => (ref03_Twin N) a, .own, true⟩
noncomputable def c46p (N : Nat) : Con := ⟨Args.one (Arg.agg Field_c), Arg.agg Field_c, fun a => (ref03_Twin N) a, .frz, false⟩
theorem c46_ok (N : Nat) : ConOK tab 46 (c46 N) := ConOK.of tab_46 (cx := (mkCx (loopL N) [] [] [] [])) rfl (CxOK.make trivial trivial trivial) (fun a => by kernel_rfl)
theorem c46p_ok (N : Nat) : ConOK tab 46 (c46p N) := ConOK.of tab_46 (cx := (mkCx (loopL N) [] [] [] [])) rfl (CxOK.make trivial trivial trivial) (fun a => by kernel_rfl)
noncomputable def ref06_Begin_l1 (_ : Nat) (s : (Int × (List Int) × (List Bool) × (List Int))) : Option (Step (Int × (List Int) × (List Bool) × (List Int)) Slots) :=
 bif decide (0 ≤ s.1) then
  (appendO s.2.2.2 [s.1]).bind fun l0 =>
  some (.next (wrapF .i64 (s.1 - 1), s.2.1, s.2.2.1, l0))
 else
  some (.done (Slots.mk s.2.1 s.2.2.1 s.2.2.2))
noncomputable def ref06_Begin (N : Nat) (p0 : Int) : Option Slots :=
 bif p0 == p0 then
  (makeO p0 (0 : Int)).bind fun l0 =>
  bif p0 == p0 then
   (makeO p0 (false : Bool)).bind fun l1 =>
   (loopN N) (ref06_Begin_l1 N) (wrapF .i64 (p0 - 1), l0, l1, [])
  else
   none
 else
  none
noncomputable def c75 (N : Nat) : Con := ⟨Args.one (Arg.int .i64), Arg.agg Slots_c, fun a => (ref06_Begin N) a, .frz, false⟩
theorem c75_ok (N : Nat) : ConOK tab 75 (c75 N) := ConOK.of tab_75 (cx := (mkCx (loopL N) [] [] [] [])) rfl (CxOK.make trivial trivial trivial) (fun a => by kernel_rfl)
noncomputable def ref07_Begin_l1 (_ : Nat) (s : (Int × Int × (List Int) × (List Bool) × (List Int) × (List Int))) : Option (Step (Int × Int × (List Int) × (List Bool) × (List Int) × (List Int)) Agenda) :=
 bif decide (s.2.1 < s.1) then
  (appendO s.2.2.2.2.2 [-1]).bind fun l0 =>
  some (.next (s.1, wrapF .i64 (s.2.1 + 1), s.2.2.1, s.2.2.2.1, s.2.2.2.2.1, l0))
 else
  some (.done (Agenda.mk (Slots.mk s.2.2.1 s.2.2.2.1 s.2.2.2.2.1) [] s.2.2.2.2.2))
noncomputable def ref07_Begin (N : Nat) (p0 : Int) : Option Agenda :=
 ((ref06_Begin N) p0).bind fun r0 =>
 (loopN N) (ref07_Begin_l1 N) (p0, 0, r0.uses, r0.used, r0.free, [])
noncomputable def c47 (N : Nat) : Con := ⟨Args.one (Arg.int .i64), Arg.agg Agenda_c, fun a => (ref07_Begin N) a, .frz, false⟩
theorem c47_ok (N : Nat) : ConOK tab 47 (c47 N) := ConOK.of tab_47 (cx := (mkCx (loopL N) [(75, (c75 N))] [] [] [])) rfl (CxOK.make ⟨(c75_ok N), trivial⟩ trivial trivial) (fun a => by kernel_rfl)
noncomputable def ref09_Begin (N : Nat) (p0 : Field) (p1 : Int × Int) : Option Clock :=
 ((ref03_Twin N) p0).bind fun r0 =>
 ((ref07_Begin N) 200).bind fun r1 =>
 some (Clock.mk p1 r0 (Certs.mk 0 []) r1 [])
noncomputable def c24 (N : Nat) : Con := ⟨Args.cons (Arg.agg Field_c) (Args.one (Arg.agg (Cod.row kii))), Arg.agg Clock_c, fun a => (ref09_Begin N) a.1 a.2, .frz, false⟩
theorem c24_ok (N : Nat) : ConOK tab 24 (c24 N) := ConOK.of tab_24 (cx := (mkCx (loopL N) [(46, (c46 N)), (46, (c46p N)), (47, (c47 N))] [] [] [])) rfl (CxOK.make ⟨(c46_ok N), (c46p_ok N), (c47_ok N), trivial⟩ trivial trivial) (fun a => by kernel_rfl)
noncomputable def ref01_product (_ : Nat) (p0 : Int) (p1 : Int) : Option (Bool × Int × Int) :=
 some (false, wrapF .u64 ((wrapF .u64 ((wrapF .u64 ((wrapF .u64 (Int.tdiv p0 4294967296)) * (wrapF .u64 (Int.tdiv p1 4294967296)))) + (wrapF .u64 (Int.tdiv (wrapF .u64 ((wrapF .u64 ((wrapF .u64 (Int.tdiv p0 4294967296)) * (Int.tmod p1 4294967296))) + (wrapF .u64 (Int.tdiv (wrapF .u64 ((Int.tmod p0 4294967296) * (Int.tmod p1 4294967296))) 4294967296)))) 4294967296)))) + (wrapF .u64 (Int.tdiv (wrapF .u64 ((wrapF .u64 ((Int.tmod p0 4294967296) * (wrapF .u64 (Int.tdiv p1 4294967296)))) + (Int.tmod (wrapF .u64 ((wrapF .u64 ((wrapF .u64 (Int.tdiv p0 4294967296)) * (Int.tmod p1 4294967296))) + (wrapF .u64 (Int.tdiv (wrapF .u64 ((Int.tmod p0 4294967296) * (Int.tmod p1 4294967296))) 4294967296)))) 4294967296))) 4294967296))), wrapF .u64 ((wrapF .u64 ((Int.tmod (wrapF .u64 ((wrapF .u64 ((Int.tmod p0 4294967296) * (wrapF .u64 (Int.tdiv p1 4294967296)))) + (Int.tmod (wrapF .u64 ((wrapF .u64 ((wrapF .u64 (Int.tdiv p0 4294967296)) * (Int.tmod p1 4294967296))) + (wrapF .u64 (Int.tdiv (wrapF .u64 ((Int.tmod p0 4294967296) * (Int.tmod p1 4294967296))) 4294967296)))) 4294967296))) 4294967296) * 4294967296)) + (Int.tmod (wrapF .u64 ((Int.tmod p0 4294967296) * (Int.tmod p1 4294967296))) 4294967296)))
noncomputable def c194 (N : Nat) : Con := ⟨Args.cons (Arg.int .u64) (Args.one (Arg.int .u64)), Arg.agg (Cod.row kbuu), fun a => (ref01_product N) a.1 a.2, .pure, false⟩
theorem c194_ok (N : Nat) : ConOK tab 194 (c194 N) := ConOK.of tab_194 (cx := (mkCx (loopL N) [] [] [] [])) rfl (CxOK.make trivial trivial trivial) (fun a => by kernel_rfl)
noncomputable def ref01_Product (N : Nat) (p0 : Int) (p1 : Int) : Option (Bool × Int × Int) :=
 ((ref01_size N) p0).bind fun n0 =>
 ((ref01_size N) p1).bind fun n1 =>
 ((ref01_product N) n0 n1).bind fun a2 =>
 bif !((decide (p0 < 0)) == (decide (p1 < 0))) then
  bif p0 != 0 then
   some (p1 != 0, a2.2)
  else
   some (false, a2.2)
 else
  some (false, a2.2)
noncomputable def c189 (N : Nat) : Con := ⟨Args.cons (Arg.int .i64) (Args.one (Arg.int .i64)), Arg.agg (Cod.row kbuu), fun a => (ref01_Product N) a.1 a.2, .pure, false⟩
theorem c189_ok (N : Nat) : ConOK tab 189 (c189 N) := ConOK.of tab_189 (cx := (mkCx (loopL N) [(42, (c42 N)), (194, (c194 N))] [] [] [])) rfl (CxOK.make ⟨(c42_ok N), (c194_ok N), trivial⟩ trivial trivial) (fun a => by kernel_rfl)
noncomputable def ref01_less (_ : Nat) (p0 : Bool × Int × Int) (p1 : Bool × Int × Int) : Option Int :=
 bif p0.2.1 != p1.2.1 then
  bif decide (p0.2.1 < p1.2.1) then
   some (-1)
  else
   some 1
 else
  bif p0.2.2 != p1.2.2 then
   bif decide (p0.2.2 < p1.2.2) then
    some (-1)
   else
    some 1
  else
   some 0
noncomputable def c190 (N : Nat) : Con := ⟨Args.cons (Arg.agg (Cod.row kbuu)) (Args.one (Arg.agg (Cod.row kbuu))), Arg.int .i64, fun a => (ref01_less N) a.1 a.2, .pure, false⟩
theorem c190_ok (N : Nat) : ConOK tab 190 (c190 N) := ConOK.of tab_190 (cx := (mkCx (loopL N) [] [] [] [])) rfl (CxOK.make trivial trivial trivial) (fun a => by kernel_rfl)
noncomputable def ref01_minus (_ : Nat) (p0 : Bool × Int × Int) (p1 : Bool × Int × Int) : Option (Bool × Int × Int) :=
 bif decide (p0.2.2 < p1.2.2) then
  some (false, wrapF .u64 ((wrapF .u64 (p0.2.1 - p1.2.1)) - 1), wrapF .u64 (p0.2.2 - p1.2.2))
 else
  some (false, wrapF .u64 (p0.2.1 - p1.2.1), wrapF .u64 (p0.2.2 - p1.2.2))
noncomputable def c193 (N : Nat) : Con := ⟨Args.cons (Arg.agg (Cod.row kbuu)) (Args.one (Arg.agg (Cod.row kbuu))), Arg.agg (Cod.row kbuu), fun a => (ref01_minus N) a.1 a.2, .pure, false⟩
theorem c193_ok (N : Nat) : ConOK tab 193 (c193 N) := ConOK.of tab_193 (cx := (mkCx (loopL N) [] [] [] [])) rfl (CxOK.make trivial trivial trivial) (fun a => by kernel_rfl)
noncomputable def ref01_Plus (N : Nat) (p0 : Bool × Int × Int) (p1 : Bool × Int × Int) : Option (Bool × Int × Int) :=
 bif p0.1 == p1.1 then
  bif decide ((wrapF .u64 (p0.2.2 + p1.2.2)) < p0.2.2) then
   some (p0.1, wrapF .u64 ((wrapF .u64 (p0.2.1 + p1.2.1)) + 1), wrapF .u64 (p0.2.2 + p1.2.2))
  else
   some (p0.1, wrapF .u64 (p0.2.1 + p1.2.1), wrapF .u64 (p0.2.2 + p1.2.2))
 else
  ((ref01_less N) p0 p1).bind fun n0 =>
  bif decide (0 ≤ n0) then
   ((ref01_minus N) p0 p1).bind fun a1 =>
   bif p0.1 then
    bif decide (0 < a1.2.1) then
     some (true, a1.2)
    else
     some (decide (0 < a1.2.2), a1.2)
   else
    some (false, a1.2)
  else
   ((ref01_minus N) p1 p0).bind fun a2 =>
   some (p1.1, a2.2)
noncomputable def c188 (N : Nat) : Con := ⟨Args.cons (Arg.agg (Cod.row kbuu)) (Args.one (Arg.agg (Cod.row kbuu))), Arg.agg (Cod.row kbuu), fun a => (ref01_Plus N) a.1 a.2, .pure, false⟩
theorem c188_ok (N : Nat) : ConOK tab 188 (c188 N) := ConOK.of tab_188 (cx := (mkCx (loopL N) [(190, (c190 N)), (193, (c193 N))] [] [] [])) rfl (CxOK.make ⟨(c190_ok N), (c193_ok N), trivial⟩ trivial trivial) (fun a => by kernel_rfl)
noncomputable def ref01_Sign (_ : Nat) (p0 : Bool × Int × Int) : Option Int :=
 bif p0.2.1 == 0 then
  bif p0.2.2 == 0 then
   some 0
  else
   bif p0.1 then
    some (-1)
   else
    some 1
 else
  bif p0.1 then
   some (-1)
  else
   some 1
noncomputable def c187 (N : Nat) : Con := ⟨Args.one (Arg.agg (Cod.row kbuu)), Arg.int .i64, fun a => (ref01_Sign N) a, .pure, false⟩
theorem c187_ok (N : Nat) : ConOK tab 187 (c187 N) := ConOK.of tab_187 (cx := (mkCx (loopL N) [] [] [] [])) rfl (CxOK.make trivial trivial trivial) (fun a => by kernel_rfl)
noncomputable def ref02_Far (N : Nat) (p0 : Int × Int × Int) (p1 : Int × Int × Int) (p2 : Int × Int) : Option Int :=
 ((ref01_Product N) (wrapF .i64 (p0.2.1 - p1.2.1)) p2.2).bind fun a0 =>
 ((ref01_Product N) (wrapF .i64 (p0.2.2 - p1.2.2)) p2.1).bind fun a1 =>
 ((ref01_Plus N) a0 a1).bind fun a2 =>
 ((ref01_Sign N) a2).bind fun n3 =>
 some n3
noncomputable def c178 (N : Nat) : Con := ⟨Args.cons (Arg.agg (Cod.row kiii)) (Args.cons (Arg.agg (Cod.row kiii)) (Args.one (Arg.agg (Cod.row kii)))), Arg.int .i64, fun a => (ref02_Far N) a.1 a.2.1 a.2.2, .pure, false⟩
theorem c178_ok (N : Nat) : ConOK tab 178 (c178 N) := ConOK.of tab_178 (cx := (mkCx (loopL N) [(189, (c189 N)), (188, (c188 N)), (187, (c187 N))] [] [] [])) rfl (CxOK.make ⟨(c189_ok N), (c188_ok N), (c187_ok N), trivial⟩ trivial trivial) (fun a => by kernel_rfl)
noncomputable def ref02_Leads (N : Nat) (p0 : Int × Int × Int) (p1 : Int × Int × Int) (p2 : Int × Int) : Option Bool :=
 ((ref02_Far N) p0 p1 p2).bind fun n0 =>
 bif n0 != 0 then
  some (decide (0 < n0))
 else
  bif p0.2.2 != p1.2.2 then
   some (decide (p1.2.2 < p0.2.2))
  else
   some (decide (p0.1 < p1.1))
noncomputable def c161 (N : Nat) : Con := ⟨Args.cons (Arg.agg (Cod.row kiii)) (Args.cons (Arg.agg (Cod.row kiii)) (Args.one (Arg.agg (Cod.row kii)))), Arg.bool, fun a => (ref02_Leads N) a.1 a.2.1 a.2.2, .pure, false⟩
theorem c161_ok (N : Nat) : ConOK tab 161 (c161 N) := ConOK.of tab_161 (cx := (mkCx (loopL N) [(178, (c178 N))] [] [] [])) rfl (CxOK.make ⟨(c178_ok N), trivial⟩ trivial trivial) (fun a => by kernel_rfl)
noncomputable def ref11_top_l1 (N : Nat) (s : (Int × Int × Int × (List (Int × Int × Int)) × Int × Int)) : Option (Step (Int × Int × Int × (List (Int × Int × Int)) × Int × Int) Int) :=
 bif decide (s.2.2.1 < s.1) then
  bif decide (s.2.1 < 0) then
   some (.next (s.1, s.2.2.1, wrapF .i64 (s.2.2.1 + 1), s.2.2.2))
  else
   (geti s.2.2.2.1 s.2.2.1).bind fun a0 =>
   (geti s.2.2.2.1 s.2.1).bind fun a1 =>
   ((ref02_Leads N) a0 a1 s.2.2.2.2).bind fun b2 =>
   bif b2 then
    some (.next (s.1, s.2.2.1, wrapF .i64 (s.2.2.1 + 1), s.2.2.2))
   else
    some (.next (s.1, s.2.1, wrapF .i64 (s.2.2.1 + 1), s.2.2.2))
 else
  some (.done s.2.1)
noncomputable def ref11_top (N : Nat) (p0 : Field) (p1 : Int × Int) (p2 : Int) (p3 : Int) : Option Int :=
 (loopN N) (ref11_top_l1 N) (p3, -1, p2, p0.points, p1)
noncomputable def c130 (N : Nat) : Con := ⟨Args.cons (Arg.agg Field_c) (Args.cons (Arg.agg (Cod.row kii)) (Args.cons (Arg.int .i64) (Args.one (Arg.int .i64)))), Arg.int .i64, fun a => (ref11_top N) a.1 a.2.1 a.2.2.1 a.2.2.2, .pure, false⟩
theorem c130_ok (N : Nat) : ConOK tab 130 (c130 N) := ConOK.of tab_130 (cx := (mkCx (loopL N) [(161, (c161 N))] [] [] [])) rfl (CxOK.make ⟨(c161_ok N), trivial⟩ trivial trivial) (fun a => by kernel_rfl)
noncomputable def ref11_grow_b (N : Nat) (self : ((List (Int × Int × Int)) × Int × Int × Int × Int × Int × (List (Int × Int × Int))) → Option (Int × (List (Int × Int × Int)))) (a : ((List (Int × Int × Int)) × Int × Int × Int × Int × Int × (List (Int × Int × Int)))) : Option (Int × (List (Int × Int × Int))) :=
 ((ref11_top N) (Field.mk a.1) (a.2.1, a.2.2.1) a.2.2.2.2.1 a.2.2.2.2.2.1).bind fun n0 =>
 bif decide (0 ≤ n0) then
  (self (a.1, a.2.1, a.2.2.1, a.2.2.2.1, a.2.2.2.2.1, n0, a.2.2.2.2.2.2)).bind fun a1 =>
  (geti a1.2 n0).bind fun a2 =>
  (self (a.1, a.2.1, a.2.2.1, a.2.2.2.1, wrapF .i64 (n0 + 1), a.2.2.2.2.2.1, seti a1.2 n0 (a2.1, a1.1, a2.2.2))).bind fun a3 =>
  (geti a3.2 n0).bind fun a4 =>
  bif ((seti a3.2 n0 (a4.1, a4.2.1, a3.1)).length) == a.2.2.2.2.2.2.length then
   some (n0, seti a3.2 n0 (a4.1, a4.2.1, a3.1))
  else
   none
 else
  bif a.2.2.2.2.2.2.length == a.2.2.2.2.2.2.length then
   some (n0, a.2.2.2.2.2.2)
  else
   none
noncomputable def ref11_grow_f (N : Nat) : Nat → ((List (Int × Int × Int)) × Int × Int × Int × Int × Int × (List (Int × Int × Int))) → Option (Int × (List (Int × Int × Int)))
 | 0, _ => none
 | n + 1, a => (ref11_grow_b N) ((ref11_grow_f N) n) a
noncomputable def ref11_grow (N : Nat) (a : ((List (Int × Int × Int)) × Int × Int × Int × Int × Int × (List (Int × Int × Int)))) : Option (Int × (List (Int × Int × Int))) := (ref11_grow_f N) 1000000 a
noncomputable def f100_0 (N : Nat) : FpCon := ⟨[.l [.i .i64, .i .i64, .i .i64], .i, .i, .i, .i, .i, .l [.i .i64, .i .i64, .i .i64]], [.agg [.sl [.i .i64, .i .i64, .i .i64] []], .agg [.int .i64 0, .int .i64 0], .agg [.int .i64 0, .own 0 false], .int .i64 0, .int .i64 0], [.arr [.i .i64, .i .i64, .i .i64] []], [.i, .l [.i .i64, .i .i64, .i .i64]], .int .i64 0, [.arr [.i .i64, .i .i64, .i .i64] []], fun a => (ref11_grow N) a⟩
theorem f100_0_rec (N : Nat) : ∀ n, FpOK tab 100 ⟨[.l [.i .i64, .i .i64, .i .i64], .i, .i, .i, .i, .i, .l [.i .i64, .i .i64, .i .i64]], [.agg [.sl [.i .i64, .i .i64, .i .i64] []], .agg [.int .i64 0, .int .i64 0], .agg [.int .i64 0, .own 0 false], .int .i64 0, .int .i64 0], [.arr [.i .i64, .i .i64, .i .i64] []], [.i, .l [.i .i64, .i .i64, .i .i64]], .int .i64 0, [.arr [.i .i64, .i .i64, .i .i64] []], fun a => (ref11_grow_f N) n a⟩
 | 0 => FpOK.zero (fun _ => rfl)
 | n + 1 => FpOK.of tab_100 (wd := false) (cx := (mkCx (loopL N) [(130, (c130 N))] [(100, ⟨[.l [.i .i64, .i .i64, .i .i64], .i, .i, .i, .i, .i, .l [.i .i64, .i .i64, .i .i64]], [.agg [.sl [.i .i64, .i .i64, .i .i64] []], .agg [.int .i64 0, .int .i64 0], .agg [.int .i64 0, .own 0 false], .int .i64 0, .int .i64 0], [.arr [.i .i64, .i .i64, .i .i64] []], [.i, .l [.i .i64, .i .i64, .i .i64]], .int .i64 0, [.arr [.i .i64, .i .i64, .i .i64] []], fun a => (ref11_grow_f N) n a⟩)] [] [])) (CxOK.make ⟨(c130_ok N), trivial⟩ ⟨((f100_0_rec N) n), trivial⟩ trivial) (fun a => by kernel_rfl)
theorem f100_0_ok (N : Nat) : FpOK tab 100 (f100_0 N) := (f100_0_rec N) 1000000
noncomputable def ref11_Made_l1 (N : Nat) (s : (Int × (List (Int × Int × Int)) × Int × Int × Int × Int × (List (Int × Int × Int)))) : Option (Step (Int × (List (Int × Int × Int)) × Int × Int × Int × Int × (List (Int × Int × Int))) Tree) :=
 bif decide (s.1 < (Int.ofNat s.2.1.length)) then
  (geti s.2.1 s.1).bind fun a0 =>
  (appendO s.2.2.2.2.2.2 [(a0.1, 0, 0)]).bind fun l1 =>
  some (.next (wrapF .i64 (s.1 + 1), s.2.1, s.2.2.1, s.2.2.2.1, s.2.2.2.2.1, s.2.2.2.2.2.1, l1))
 else
  ((ref11_grow N) (s.2.1, s.2.2.1, s.2.2.2.1, s.2.2.2.2.2.1, 0, Int.ofNat s.2.1.length, s.2.2.2.2.2.2)).bind fun a2 =>
  some (.done (Tree.mk a2.1 a2.2))
noncomputable def ref11_Made (N : Nat) (p0 : Field) (p1 : Int × Int) : Option Tree :=
 (loopN N) (ref11_Made_l1 N) (0, p0.points, p1.1, p1.2, 0, 0, [])
noncomputable def c69 (N : Nat) : Con := ⟨Args.cons (Arg.agg Field_c) (Args.one (Arg.agg (Cod.row kii))), Arg.agg Tree_c, fun a => (ref11_Made N) a.1 a.2, .frz, false⟩
theorem c69_ok (N : Nat) : ConOK tab 69 (c69 N) := ConOK.of tab_69 (cx := (mkCx (loopL N) [] [(100, (f100_0 N))] [] [])) rfl (CxOK.make trivial ⟨(f100_0_ok N), trivial⟩ trivial) (fun a => by kernel_rfl)
noncomputable def ref17_Made (N : Nat) (p0 : Field) (p1 : Int × Int) : Option Tree :=
 ((ref11_Made N) p0 p1).bind fun r0 =>
 some r0
noncomputable def c43 (N : Nat) : Con := ⟨Args.cons (Arg.agg Field_c) (Args.one (Arg.agg (Cod.row kii))), Arg.agg Tree_c, fun a => (ref17_Made N) a.1 a.2, .frz, false⟩
theorem c43_ok (N : Nat) : ConOK tab 43 (c43 N) := ConOK.of tab_43 (cx := (mkCx (loopL N) [(69, (c69 N))] [] [] [])) rfl (CxOK.make ⟨(c69_ok N), trivial⟩ trivial trivial) (fun a => by kernel_rfl)
noncomputable def ref17_Of_l1 (_ : Nat) (s : (Int × Int × Int × (List (Int × Int × Int)) × (List (Int × Int)))) : Option (Step (Int × Int × Int × (List (Int × Int × Int)) × (List (Int × Int))) (Step (Int × Int × (List (Int × Int × Int)) × (List (Int × Int))) (List (Int × Int)))) :=
 bif decide (s.2.1 < (Int.ofNat s.2.2.2.1.length)) then
  (geti s.2.2.2.1 s.2.1).bind fun a0 =>
  bif a0.2.1 == s.1 then
   (geti s.2.2.2.1 s.1).bind fun a1 =>
   (geti s.2.2.2.1 s.2.1).bind fun a2 =>
   (appendO s.2.2.2.2 [(a1.1, a2.1)]).bind fun l3 =>
   some (.next (s.1, wrapF .i64 (s.2.1 + 1), s.2.2.1, s.2.2.2.1, l3))
  else
   (geti s.2.2.2.1 s.2.1).bind fun a4 =>
   bif a4.2.2 == s.1 then
    (geti s.2.2.2.1 s.1).bind fun a5 =>
    (geti s.2.2.2.1 s.2.1).bind fun a6 =>
    (appendO s.2.2.2.2 [(a5.1, a6.1)]).bind fun l7 =>
    some (.next (s.1, wrapF .i64 (s.2.1 + 1), s.2.2.1, s.2.2.2.1, l7))
   else
    some (.next (s.1, wrapF .i64 (s.2.1 + 1), s.2.2))
 else
  some (.done (.next (wrapF .i64 (s.1 + 1), s.2.2)))
noncomputable def ref17_Of_l2 (N : Nat) (s : (Int × Int × (List (Int × Int × Int)) × (List (Int × Int)))) : Option (Step (Int × Int × (List (Int × Int × Int)) × (List (Int × Int))) (List (Int × Int))) :=
 bif decide (s.1 < (Int.ofNat s.2.2.1.length)) then
  (loopN N) (ref17_Of_l1 N) (s.1, 0, s.2)
 else
  some (.done s.2.2.2)
noncomputable def ref17_Of (N : Nat) (p0 : Tree) : Option (List (Int × Int)) :=
 (loopN N) (ref17_Of_l2 N) (0, p0.root, p0.nodes, [])
noncomputable def c45 (N : Nat) : Con := ⟨Args.one (Arg.agg Tree_c), Arg.sl kii, fun a => (ref17_Of N) a, .frz, false⟩
theorem c45_ok (N : Nat) : ConOK tab 45 (c45 N) := ConOK.of tab_45 (cx := (mkCx (loopL N) [] [] [] [])) rfl (CxOK.make trivial trivial trivial) (fun a => by kernel_rfl)
noncomputable def ref08_Twin (_ : Nat) (p0 : Certs) : Option Certs :=
 (cloneO p0.list).bind fun l0 =>
 some (Certs.mk p0.next_ l0)
noncomputable def c48 (N : Nat) : Con := ⟨Args.one (Arg.agg Certs_c), Arg.agg Certs_c, fun a => (ref08_Twin N) a, .own, true⟩
noncomputable def c48p (N : Nat) : Con := ⟨Args.one (Arg.agg Certs_c), Arg.agg Certs_c, fun a => (ref08_Twin N) a, .frz, false⟩
theorem c48_ok (N : Nat) : ConOK tab 48 (c48 N) := ConOK.of tab_48 (cx := (mkCx (loopL N) [] [] [] [])) rfl (CxOK.make trivial trivial trivial) (fun a => by kernel_rfl)
theorem c48p_ok (N : Nat) : ConOK tab 48 (c48p N) := ConOK.of tab_48 (cx := (mkCx (loopL N) [] [] [] [])) rfl (CxOK.make trivial trivial trivial) (fun a => by kernel_rfl)
noncomputable def ref06_Twin (_ : Nat) (p0 : Slots) : Option Slots :=
 (cloneO p0.uses).bind fun l0 =>
 (cloneO p0.used).bind fun l1 =>
 (cloneO p0.free).bind fun l2 =>
 some (Slots.mk l0 l1 l2)
noncomputable def c76 (N : Nat) : Con := ⟨Args.one (Arg.agg Slots_c), Arg.agg Slots_c, fun a => (ref06_Twin N) a, .own, true⟩
noncomputable def c76p (N : Nat) : Con := ⟨Args.one (Arg.agg Slots_c), Arg.agg Slots_c, fun a => (ref06_Twin N) a, .frz, false⟩
theorem c76_ok (N : Nat) : ConOK tab 76 (c76 N) := ConOK.of tab_76 (cx := (mkCx (loopL N) [] [] [] [])) rfl (CxOK.make trivial trivial trivial) (fun a => by kernel_rfl)
theorem c76p_ok (N : Nat) : ConOK tab 76 (c76p N) := ConOK.of tab_76 (cx := (mkCx (loopL N) [] [] [] [])) rfl (CxOK.make trivial trivial trivial) (fun a => by kernel_rfl)
noncomputable def ref07_Twin (N : Nat) (p0 : Agenda) : Option Agenda :=
 ((ref06_Twin N) p0.slots).bind fun r0 =>
 (cloneO p0.heap).bind fun l1 =>
 (cloneO p0.where_).bind fun l2 =>
 some (Agenda.mk r0 l1 l2)
noncomputable def c49 (N : Nat) : Con := ⟨Args.one (Arg.agg Agenda_c), Arg.agg Agenda_c, fun a => (ref07_Twin N) a, .own, true⟩
noncomputable def c49p (N : Nat) : Con := ⟨Args.one (Arg.agg Agenda_c), Arg.agg Agenda_c, fun a => (ref07_Twin N) a, .frz, false⟩
theorem c49_ok (N : Nat) : ConOK tab 49 (c49 N) := ConOK.of tab_49 (cx := (mkCx (loopL N) [(76, (c76 N)), (76, (c76p N))] [] [] [])) rfl (CxOK.make ⟨(c76_ok N), (c76p_ok N), trivial⟩ trivial trivial) (fun a => by kernel_rfl)
theorem c49p_ok (N : Nat) : ConOK tab 49 (c49p N) := ConOK.of tab_49 (cx := (mkCx (loopL N) [(76, (c76 N)), (76, (c76p N))] [] [] [])) rfl (CxOK.make ⟨(c76_ok N), (c76p_ok N), trivial⟩ trivial trivial) (fun a => by kernel_rfl)
noncomputable def ref09_Twin (N : Nat) (p0 : Clock) : Option Clock :=
 ((ref03_Twin N) p0.field).bind fun r0 =>
 ((ref08_Twin N) p0.certs).bind fun r1 =>
 ((ref07_Twin N) p0.agenda).bind fun r2 =>
 (cloneO p0.due).bind fun l3 =>
 some (Clock.mk p0.now r0 r1 r2 l3)
noncomputable def c25 (N : Nat) : Con := ⟨Args.one (Arg.agg Clock_c), Arg.agg Clock_c, fun a => (ref09_Twin N) a, .own, true⟩
noncomputable def c25p (N : Nat) : Con := ⟨Args.one (Arg.agg Clock_c), Arg.agg Clock_c, fun a => (ref09_Twin N) a, .frz, false⟩
theorem c25_ok (N : Nat) : ConOK tab 25 (c25 N) := ConOK.of tab_25 (cx := (mkCx (loopL N) [(46, (c46 N)), (46, (c46p N)), (48, (c48 N)), (48, (c48p N)), (49, (c49 N)), (49, (c49p N))] [] [] [])) rfl (CxOK.make ⟨(c46_ok N), (c46p_ok N), (c48_ok N), (c48p_ok N), (c49_ok N), (c49p_ok N), trivial⟩ trivial trivial) (fun a => by kernel_rfl)
theorem c25p_ok (N : Nat) : ConOK tab 25 (c25p N) := ConOK.of tab_25 (cx := (mkCx (loopL N) [(46, (c46 N)), (46, (c46p N)), (48, (c48 N)), (48, (c48p N)), (49, (c49 N)), (49, (c49p N))] [] [] [])) rfl (CxOK.make ⟨(c46_ok N), (c46p_ok N), (c48_ok N), (c48p_ok N), (c49_ok N), (c49p_ok N), trivial⟩ trivial trivial) (fun a => by kernel_rfl)
noncomputable def ref13_In_l1 (_ : Nat) (s : ((List (Int × Int)) × Int × Int × Int)) : Option (Step ((List (Int × Int)) × Int × Int × Int) Bool) :=
 bif decide (s.2.1 < (Int.ofNat s.1.length)) then
  (geti s.1 s.2.1).bind fun a0 =>
  bif (a0.1 == s.2.2.1) && (a0.2 == s.2.2.2) then
   some (.done true)
  else
   some (.next (s.1, wrapF .i64 (s.2.1 + 1), s.2.2))
 else
  some (.done false)
noncomputable def ref13_In (N : Nat) (p0 : List (Int × Int)) (p1 : Int × Int) : Option Bool :=
 (loopN N) (ref13_In_l1 N) (p0, 0, p1)
noncomputable def c70 (N : Nat) : Con := ⟨Args.cons (Arg.sl kii) (Args.one (Arg.agg (Cod.row kii))), Arg.bool, fun a => (ref13_In N) a.1 a.2, .pure, false⟩
theorem c70_ok (N : Nat) : ConOK tab 70 (c70 N) := ConOK.of tab_70 (cx := (mkCx (loopL N) [] [] [] [])) rfl (CxOK.make trivial trivial trivial) (fun a => by kernel_rfl)
noncomputable def ref08_Without_l1 (_ : Nat) (s : (Int × Int × Int × (List (Int × Int × Int)) × Int × Int × (List (Int × Int × Int)))) : Option (Step (Int × Int × Int × (List (Int × Int × Int)) × Int × Int × (List (Int × Int × Int))) Certs) :=
 bif decide (s.2.1 < (Int.ofNat s.2.2.2.1.length)) then
  (geti s.2.2.2.1 s.2.1).bind fun a0 =>
  bif a0.1 != s.1 then
   (geti s.2.2.2.1 s.2.1).bind fun a1 =>
   (appendO s.2.2.2.2.2.2 [a1]).bind fun l2 =>
   some (.next (s.1, wrapF .i64 (s.2.1 + 1), s.2.2.1, s.2.2.2.1, s.2.2.2.2.1, s.2.2.2.2.2.1, l2))
  else
   some (.next (s.1, wrapF .i64 (s.2.1 + 1), s.2.2))
 else
  some (.done (Certs.mk s.2.2.2.2.2.1 s.2.2.2.2.2.2))
noncomputable def ref08_Without (N : Nat) (p0 : Certs) (p1 : Int) : Option Certs :=
 (loopN N) (ref08_Without_l1 N) (p1, 0, p0.next_, p0.list, 0, p0.next_, [])
noncomputable def c101 (N : Nat) : Con := ⟨Args.cons (Arg.agg Certs_c) (Args.one (Arg.int .i64)), Arg.agg Certs_c, fun a => (ref08_Without N) a.1 a.2, .frz, false⟩
theorem c101_ok (N : Nat) : ConOK tab 101 (c101 N) := ConOK.of tab_101 (cx := (mkCx (loopL N) [] [] [] [])) rfl (CxOK.make trivial trivial trivial) (fun a => by kernel_rfl)
noncomputable def ref09_DueAt_l1 (_ : Nat) (s : (Int × Int × Int × Int × (List (Int × Int × Int)) × Int × (List (Int × Int × Int)) × (List Int) × (List Bool) × (List Int) × (List (Int × Int × Int × Int × Int)) × (List Int) × (List (Int × Int × Int)))) : Option (Step (Int × Int × Int × Int × (List (Int × Int × Int)) × Int × (List (Int × Int × Int)) × (List Int) × (List Bool) × (List Int) × (List (Int × Int × Int × Int × Int)) × (List Int) × (List (Int × Int × Int))) Int) :=
 bif decide (s.2.1 < (Int.ofNat s.2.2.2.2.2.2.2.2.2.2.2.2.length)) then
  (geti s.2.2.2.2.2.2.2.2.2.2.2.2 s.2.1).bind fun a0 =>
  bif a0.1 == s.1 then
   some (.done s.2.1)
  else
   some (.next (s.1, wrapF .i64 (s.2.1 + 1), s.2.2))
 else
  some (.done (-1))
noncomputable def ref09_DueAt (N : Nat) (p0 : Clock) (p1 : Int) : Option Int :=
 (loopN N) (ref09_DueAt_l1 N) (p1, 0, p0.now.1, p0.now.2, p0.field.points, p0.certs.next_, p0.certs.list, p0.agenda.slots.uses, p0.agenda.slots.used, p0.agenda.slots.free, p0.agenda.heap, p0.agenda.where_, p0.due)
noncomputable def c102 (N : Nat) : Con := ⟨Args.cons (Arg.agg Clock_c) (Args.one (Arg.int .i64)), Arg.int .i64, fun a => (ref09_DueAt N) a.1 a.2, .pure, false⟩
theorem c102_ok (N : Nat) : ConOK tab 102 (c102 N) := ConOK.of tab_102 (cx := (mkCx (loopL N) [] [] [] [])) rfl (CxOK.make trivial trivial trivial) (fun a => by kernel_rfl)
noncomputable def ref06_Given (N : Nat) (p0 : Slots) (p1 : Int × Int) : Option Slots :=
 ((ref06_Twin N) p0).bind fun r0 =>
 (geti r0.used p1.1).bind fun _ =>
 (appendO r0.free [p1.1]).bind fun l2 =>
 some (Slots.mk r0.uses (seti r0.used p1.1 false) l2)
noncomputable def c132 (N : Nat) : Con := ⟨Args.cons (Arg.agg Slots_c) (Args.one (Arg.agg (Cod.row kii))), Arg.agg Slots_c, fun a => (ref06_Given N) a.1 a.2, .frz, false⟩
theorem c132_ok (N : Nat) : ConOK tab 132 (c132 N) := ConOK.of tab_132 (cx := (mkCx (loopL N) [(76, (c76 N)), (76, (c76p N))] [] [] [])) rfl (CxOK.make ⟨(c76_ok N), (c76p_ok N), trivial⟩ trivial trivial) (fun a => by kernel_rfl)
noncomputable def ref01_Compare (N : Nat) (p0 : Int × Int) (p1 : Int × Int) : Option Int :=
 ((ref01_Product N) p0.1 p1.2).bind fun a0 =>
 ((ref01_Product N) p1.1 p0.2).bind fun a1 =>
 ((ref01_Sign N) a0).bind fun n2 =>
 ((ref01_Sign N) a1).bind fun n3 =>
 bif n2 != n3 then
  ((ref01_Sign N) a0).bind fun n4 =>
  ((ref01_Sign N) a1).bind fun n5 =>
  bif decide (n4 < n5) then
   some (-1)
  else
   some 1
 else
  ((ref01_Sign N) a0).bind fun n6 =>
  bif decide (n6 < 0) then
   ((ref01_less N) a1 a0).bind fun n7 =>
   some n7
  else
   ((ref01_less N) a0 a1).bind fun n8 =>
   some n8
noncomputable def c179 (N : Nat) : Con := ⟨Args.cons (Arg.agg (Cod.row kii)) (Args.one (Arg.agg (Cod.row kii))), Arg.int .i64, fun a => (ref01_Compare N) a.1 a.2, .pure, false⟩
theorem c179_ok (N : Nat) : ConOK tab 179 (c179 N) := ConOK.of tab_179 (cx := (mkCx (loopL N) [(189, (c189 N)), (187, (c187 N)), (190, (c190 N))] [] [] [])) rfl (CxOK.make ⟨(c189_ok N), (c187_ok N), (c190_ok N), trivial⟩ trivial trivial) (fun a => by kernel_rfl)
noncomputable def ref07_Less (N : Nat) (p0 : Int × Int × Int × Int × Int) (p1 : Int × Int × Int × Int × Int) : Option Bool :=
 ((ref01_Compare N) (p0.1, p0.2.1) (p1.1, p1.2.1)).bind fun n0 =>
 bif decide (n0 < 0) then
  some true
 else
  bif n0 == 0 then
   some (decide (p0.2.2.1 < p1.2.2.1))
  else
   some false
noncomputable def c162 (N : Nat) : Con := ⟨Args.cons (Arg.agg (Cod.row kiiiii)) (Args.one (Arg.agg (Cod.row kiiiii))), Arg.bool, fun a => (ref07_Less N) a.1 a.2, .pure, false⟩
theorem c162_ok (N : Nat) : ConOK tab 162 (c162 N) := ConOK.of tab_162 (cx := (mkCx (loopL N) [(179, (c179 N))] [] [] [])) rfl (CxOK.make ⟨(c179_ok N), trivial⟩ trivial trivial) (fun a => by kernel_rfl)
noncomputable def ref07_swap (_ : Nat) (a : (Int × Int × (List Int) × (List Bool) × (List Int) × (List (Int × Int × Int × Int × Int)) × (List Int))) : Option ((List Int) × (List Bool) × (List Int) × (List (Int × Int × Int × Int × Int)) × (List Int)) :=
 (geti a.2.2.2.2.2.1 a.2.1).bind fun a0 =>
 (geti a.2.2.2.2.2.1 a.1).bind fun a1 =>
 (geti a.2.2.2.2.2.1 a.1).bind fun _ =>
 (geti (seti a.2.2.2.2.2.1 a.1 a0) a.2.1).bind fun _ =>
 (geti (seti (seti a.2.2.2.2.2.1 a.1 a0) a.2.1 a1) a.1).bind fun a4 =>
 (geti (seti (seti a.2.2.2.2.2.1 a.1 a0) a.2.1 a1) a.2.1).bind fun a5 =>
 (geti a.2.2.2.2.2.2 a4.2.2.2.1).bind fun _ =>
 (geti (seti a.2.2.2.2.2.2 a4.2.2.2.1 a.1) a5.2.2.2.1).bind fun _ =>
 bif a.2.2.1.length == a.2.2.1.length then
  bif a.2.2.2.1.length == a.2.2.2.1.length then
   bif a.2.2.2.2.1.length == a.2.2.2.2.1.length then
    bif ((seti (seti a.2.2.2.2.2.1 a.1 a0) a.2.1 a1).length) == a.2.2.2.2.2.1.length then
     bif ((seti (seti a.2.2.2.2.2.2 a4.2.2.2.1 a.1) a5.2.2.2.1 a.2.1).length) == a.2.2.2.2.2.2.length then
      some (a.2.2.1, a.2.2.2.1, a.2.2.2.2.1, seti (seti a.2.2.2.2.2.1 a.1 a0) a.2.1 a1, seti (seti a.2.2.2.2.2.2 a4.2.2.2.1 a.1) a5.2.2.2.1 a.2.1)
     else
      none
    else
     none
   else
    none
  else
   none
 else
  none
noncomputable def f131_0 (N : Nat) : FpCon := ⟨[.i, .i, .l [.i .i64], .l [.b], .l [.i .i64], .l [.i .i64, .i .i64, .i .i64, .i .i64, .i .i64], .l [.i .i64]], [.agg [.own 0 false, .own 1 false, .own 2 false, .own 3 false, .own 4 false], .int .i64 0, .int .i64 0], [.arr [.i .i64] [], .arr [.b] [], .arr [.i .i64] [], .arr [.i .i64, .i .i64, .i .i64, .i .i64, .i .i64] [], .arr [.i .i64] []], [.l [.i .i64], .l [.b], .l [.i .i64], .l [.i .i64, .i .i64, .i .i64, .i .i64, .i .i64], .l [.i .i64]], .tup [], [.arr [.i .i64] [], .arr [.b] [], .arr [.i .i64] [], .arr [.i .i64, .i .i64, .i .i64, .i .i64, .i .i64] [], .arr [.i .i64] []], fun a => (ref07_swap N) a⟩
theorem f131_0_ok (N : Nat) : FpOK tab 131 (f131_0 N) := FpOK.of tab_131 (wd := false) (cx := (mkCx (loopL N) [] [] [] [])) (CxOK.make trivial trivial trivial) (fun a => by kernel_rfl)
noncomputable def ref07_swap_v1 (_ : Nat) (a : ((List Int) × (List Bool) × (List Int) × Nat × Nat × Int × Int × (List (Int × Int × Int × Int × Int)) × (List Int))) : Option ((List (Int × Int × Int × Int × Int)) × (List Int)) :=
 (geti (a.2.2.2.2.2.2.2.1.take a.2.2.2.1) a.2.2.2.2.2.2.1).bind fun a0 =>
 (geti (a.2.2.2.2.2.2.2.1.take a.2.2.2.1) a.2.2.2.2.2.1).bind fun a1 =>
 (geti (a.2.2.2.2.2.2.2.1.take a.2.2.2.1) a.2.2.2.2.2.1).bind fun _ =>
 (geti ((seti a.2.2.2.2.2.2.2.1 a.2.2.2.2.2.1 a0).take a.2.2.2.1) a.2.2.2.2.2.2.1).bind fun _ =>
 (geti ((seti (seti a.2.2.2.2.2.2.2.1 a.2.2.2.2.2.1 a0) a.2.2.2.2.2.2.1 a1).take a.2.2.2.1) a.2.2.2.2.2.1).bind fun a4 =>
 (geti ((seti (seti a.2.2.2.2.2.2.2.1 a.2.2.2.2.2.1 a0) a.2.2.2.2.2.2.1 a1).take a.2.2.2.1) a.2.2.2.2.2.2.1).bind fun a5 =>
 (geti a.2.2.2.2.2.2.2.2 a4.2.2.2.1).bind fun _ =>
 (geti (seti a.2.2.2.2.2.2.2.2 a4.2.2.2.1 a.2.2.2.2.2.1) a5.2.2.2.1).bind fun _ =>
 bif ((seti (seti a.2.2.2.2.2.2.2.1 a.2.2.2.2.2.1 a0) a.2.2.2.2.2.2.1 a1).length) == a.2.2.2.2.2.2.2.1.length then
  bif ((seti (seti a.2.2.2.2.2.2.2.2 a4.2.2.2.1 a.2.2.2.2.2.1) a5.2.2.2.1 a.2.2.2.2.2.2.1).length) == a.2.2.2.2.2.2.2.2.length then
   some (seti (seti a.2.2.2.2.2.2.2.1 a.2.2.2.2.2.1 a0) a.2.2.2.2.2.2.1 a1, seti (seti a.2.2.2.2.2.2.2.2 a4.2.2.2.1 a.2.2.2.2.2.1) a5.2.2.2.1 a.2.2.2.2.2.2.1)
  else
   none
 else
  none
noncomputable def f131_1 (N : Nat) : FpCon := ⟨[.l [.i .i64], .l [.b], .l [.i .i64], .n, .n, .i, .i, .l [.i .i64, .i .i64, .i .i64, .i .i64, .i .i64], .l [.i .i64]], [.agg [.sl [.i .i64] [], .sl [.b] [], .sl [.i .i64] [], .pre 0 0 0 false, .own 1 false], .int .i64 0, .int .i64 0], [.arr [.i .i64, .i .i64, .i .i64, .i .i64, .i .i64] [], .arr [.i .i64] []], [.l [.i .i64, .i .i64, .i .i64, .i .i64, .i .i64], .l [.i .i64]], .tup [], [.arr [.i .i64, .i .i64, .i .i64, .i .i64, .i .i64] [], .arr [.i .i64] []], fun a => (ref07_swap_v1 N) a⟩
theorem f131_1_ok (N : Nat) : FpOK tab 131 (f131_1 N) := FpOK.of tab_131 (wd := false) (cx := (mkCx (loopL N) [] [] [] [])) (CxOK.make trivial trivial trivial) (fun a => by kernel_rfl)
noncomputable def ref07_up_l1 (N : Nat) (c0 : ((List Int) × (List Bool) × (List Int) × Nat × Nat × Int × (List (Int × Int × Int × Int × Int)) × (List Int))) (s : (Int × (List (Int × Int × Int × Int × Int)) × (List Int) × (List Int) × (List Bool) × (List Int) × Nat × Nat)) : Option (Step (Int × (List (Int × Int × Int × Int × Int)) × (List Int) × (List Int) × (List Bool) × (List Int) × Nat × Nat) (Int × (List (Int × Int × Int × Int × Int)) × (List Int))) :=
 bif decide (0 < s.1) then
  (geti (s.2.1.take s.2.2.2.2.2.2.1) s.1).bind fun a0 =>
  (geti (s.2.1.take s.2.2.2.2.2.2.1) (wrapF .i64 (Int.tdiv (wrapF .i64 (s.1 - 1)) 2))).bind fun a1 =>
  ((ref07_Less N) a0 a1).bind fun b2 =>
  bif b2 then
   ((ref07_swap_v1 N) (s.2.2.2.1, s.2.2.2.2.1, s.2.2.2.2.2.1, s.2.2.2.2.2.2.1, s.2.2.2.2.2.2.2, s.1, wrapF .i64 (Int.tdiv (wrapF .i64 (s.1 - 1)) 2), s.2.1, s.2.2.1)).bind fun a3 =>
   some (.next (wrapF .i64 (Int.tdiv (wrapF .i64 (s.1 - 1)) 2), a3.1, a3.2, s.2.2.2))
  else
   bif s.2.1.length == c0.2.2.2.2.2.2.1.length then
    bif s.2.2.1.length == c0.2.2.2.2.2.2.2.length then
     some (.done (s.1, s.2.1, s.2.2.1))
    else
     none
   else
    none
 else
  bif s.2.1.length == c0.2.2.2.2.2.2.1.length then
   bif s.2.2.1.length == c0.2.2.2.2.2.2.2.length then
    some (.done (s.1, s.2.1, s.2.2.1))
   else
    none
  else
   none
noncomputable def ref07_up (N : Nat) (a : ((List Int) × (List Bool) × (List Int) × Nat × Nat × Int × (List (Int × Int × Int × Int × Int)) × (List Int))) : Option (Int × (List (Int × Int × Int × Int × Int)) × (List Int)) :=
 (loopN N) ((ref07_up_l1 N) a) (a.2.2.2.2.2.1, a.2.2.2.2.2.2.1, a.2.2.2.2.2.2.2, a.1, a.2.1, a.2.2.1, a.2.2.2.1, a.2.2.2.2.1)
noncomputable def f134_0 (N : Nat) : FpCon := ⟨[.l [.i .i64], .l [.b], .l [.i .i64], .n, .n, .i, .l [.i .i64, .i .i64, .i .i64, .i .i64, .i .i64], .l [.i .i64]], [.agg [.sl [.i .i64] [], .sl [.b] [], .sl [.i .i64] [], .pre 0 0 0 false, .own 1 false], .int .i64 0], [.arr [.i .i64, .i .i64, .i .i64, .i .i64, .i .i64] [], .arr [.i .i64] []], [.i, .l [.i .i64, .i .i64, .i .i64, .i .i64, .i .i64], .l [.i .i64]], .int .i64 0, [.arr [.i .i64, .i .i64, .i .i64, .i .i64, .i .i64] [], .arr [.i .i64] []], fun a => (ref07_up N) a⟩
theorem f134_0_ok (N : Nat) : FpOK tab 134 (f134_0 N) := FpOK.of tab_134 (wd := true) (cx := (mkCx (loopL N) [(162, (c162 N))] [(131, (f131_0 N)), (131, (f131_1 N))] [] [])) (CxOK.make ⟨(c162_ok N), trivial⟩ ⟨(f131_0_ok N), (f131_1_ok N), trivial⟩ trivial) (fun a => by kernel_rfl)
noncomputable def ref07_down_l1 (N : Nat) (c0 : ((List Int) × (List Bool) × (List Int) × Nat × Nat × Int × (List (Int × Int × Int × Int × Int)) × (List Int))) (s : (Int × (List (Int × Int × Int × Int × Int)) × (List Int) × (List Int) × (List Bool) × (List Int) × Nat × Nat)) : Option (Step (Int × (List (Int × Int × Int × Int × Int)) × (List Int) × (List Int) × (List Bool) × (List Int) × Nat × Nat) ((List (Int × Int × Int × Int × Int)) × (List Int))) :=
 bif decide ((Int.ofNat s.2.2.2.2.2.2.1) ≤ (wrapF .i64 ((wrapF .i64 (2 * s.1)) + 1))) then
  bif s.2.1.length == c0.2.2.2.2.2.2.1.length then
   bif s.2.2.1.length == c0.2.2.2.2.2.2.2.length then
    some (.done (s.2.1, s.2.2.1))
   else
    none
  else
   none
 else
  bif decide ((wrapF .i64 ((wrapF .i64 ((wrapF .i64 (2 * s.1)) + 1)) + 1)) < (Int.ofNat s.2.2.2.2.2.2.1)) then
   (geti (s.2.1.take s.2.2.2.2.2.2.1) (wrapF .i64 ((wrapF .i64 ((wrapF .i64 (2 * s.1)) + 1)) + 1))).bind fun a0 =>
   (geti (s.2.1.take s.2.2.2.2.2.2.1) (wrapF .i64 ((wrapF .i64 (2 * s.1)) + 1))).bind fun a1 =>
   ((ref07_Less N) a0 a1).bind fun b2 =>
   bif b2 then
    (geti (s.2.1.take s.2.2.2.2.2.2.1) (wrapF .i64 ((wrapF .i64 ((wrapF .i64 (2 * s.1)) + 1)) + 1))).bind fun a3 =>
    (geti (s.2.1.take s.2.2.2.2.2.2.1) s.1).bind fun a4 =>
    ((ref07_Less N) a3 a4).bind fun b5 =>
    bif !b5 then
     bif s.2.1.length == c0.2.2.2.2.2.2.1.length then
      bif s.2.2.1.length == c0.2.2.2.2.2.2.2.length then
       some (.done (s.2.1, s.2.2.1))
      else
       none
     else
      none
    else
     ((ref07_swap_v1 N) (s.2.2.2.1, s.2.2.2.2.1, s.2.2.2.2.2.1, s.2.2.2.2.2.2.1, s.2.2.2.2.2.2.2, s.1, wrapF .i64 ((wrapF .i64 ((wrapF .i64 (2 * s.1)) + 1)) + 1), s.2.1, s.2.2.1)).bind fun a6 =>
     some (.next (wrapF .i64 ((wrapF .i64 ((wrapF .i64 (2 * s.1)) + 1)) + 1), a6.1, a6.2, s.2.2.2))
   else
    (geti (s.2.1.take s.2.2.2.2.2.2.1) (wrapF .i64 ((wrapF .i64 (2 * s.1)) + 1))).bind fun a7 =>
    (geti (s.2.1.take s.2.2.2.2.2.2.1) s.1).bind fun a8 =>
    ((ref07_Less N) a7 a8).bind fun b9 =>
    bif !b9 then
     bif s.2.1.length == c0.2.2.2.2.2.2.1.length then
      bif s.2.2.1.length == c0.2.2.2.2.2.2.2.length then
       some (.done (s.2.1, s.2.2.1))
      else
       none
     else
      none
    else
     ((ref07_swap_v1 N) (s.2.2.2.1, s.2.2.2.2.1, s.2.2.2.2.2.1, s.2.2.2.2.2.2.1, s.2.2.2.2.2.2.2, s.1, wrapF .i64 ((wrapF .i64 (2 * s.1)) + 1), s.2.1, s.2.2.1)).bind fun a10 =>
     some (.next (wrapF .i64 ((wrapF .i64 (2 * s.1)) + 1), a10.1, a10.2, s.2.2.2))
  else
   (geti (s.2.1.take s.2.2.2.2.2.2.1) (wrapF .i64 ((wrapF .i64 (2 * s.1)) + 1))).bind fun a11 =>
   (geti (s.2.1.take s.2.2.2.2.2.2.1) s.1).bind fun a12 =>
   ((ref07_Less N) a11 a12).bind fun b13 =>
   bif !b13 then
    bif s.2.1.length == c0.2.2.2.2.2.2.1.length then
     bif s.2.2.1.length == c0.2.2.2.2.2.2.2.length then
      some (.done (s.2.1, s.2.2.1))
     else
      none
    else
     none
   else
    ((ref07_swap_v1 N) (s.2.2.2.1, s.2.2.2.2.1, s.2.2.2.2.2.1, s.2.2.2.2.2.2.1, s.2.2.2.2.2.2.2, s.1, wrapF .i64 ((wrapF .i64 (2 * s.1)) + 1), s.2.1, s.2.2.1)).bind fun a14 =>
    some (.next (wrapF .i64 ((wrapF .i64 (2 * s.1)) + 1), a14.1, a14.2, s.2.2.2))
noncomputable def ref07_down (N : Nat) (a : ((List Int) × (List Bool) × (List Int) × Nat × Nat × Int × (List (Int × Int × Int × Int × Int)) × (List Int))) : Option ((List (Int × Int × Int × Int × Int)) × (List Int)) :=
 (loopN N) ((ref07_down_l1 N) a) (a.2.2.2.2.2.1, a.2.2.2.2.2.2.1, a.2.2.2.2.2.2.2, a.1, a.2.1, a.2.2.1, a.2.2.2.1, a.2.2.2.2.1)
noncomputable def f133_0 (N : Nat) : FpCon := ⟨[.l [.i .i64], .l [.b], .l [.i .i64], .n, .n, .i, .l [.i .i64, .i .i64, .i .i64, .i .i64, .i .i64], .l [.i .i64]], [.agg [.sl [.i .i64] [], .sl [.b] [], .sl [.i .i64] [], .pre 0 0 0 false, .own 1 false], .int .i64 0], [.arr [.i .i64, .i .i64, .i .i64, .i .i64, .i .i64] [], .arr [.i .i64] []], [.l [.i .i64, .i .i64, .i .i64, .i .i64, .i .i64], .l [.i .i64]], .tup [], [.arr [.i .i64, .i .i64, .i .i64, .i .i64, .i .i64] [], .arr [.i .i64] []], fun a => (ref07_down N) a⟩
theorem f133_0_ok (N : Nat) : FpOK tab 133 (f133_0 N) := FpOK.of tab_133 (wd := false) (cx := (mkCx (loopL N) [(162, (c162 N))] [(131, (f131_0 N)), (131, (f131_1 N))] [] [])) (CxOK.make ⟨(c162_ok N), trivial⟩ ⟨(f131_0_ok N), (f131_1_ok N), trivial⟩ trivial) (fun a => by kernel_rfl)
noncomputable def ref07_Removed (N : Nat) (p0 : Agenda) (p1 : Int × Int) : Option Agenda :=
 ((ref07_Twin N) p0).bind fun r0 =>
 (geti r0.where_ p1.1).bind fun n1 =>
 bif n1 != (wrapF .i64 ((Int.ofNat r0.heap.length) - 1)) then
  ((ref07_swap N) (n1, wrapF .i64 ((Int.ofNat r0.heap.length) - 1), r0.slots.uses, r0.slots.used, r0.slots.free, r0.heap, r0.where_)).bind fun a2 =>
  (sliceO a2.2.2.2.1 0 (wrapF .i64 ((Int.ofNat r0.heap.length) - 1))).bind fun _ =>
  (geti a2.2.2.2.2 p1.1).bind fun _ =>
  ((ref06_Given N) (Slots.mk a2.1 a2.2.1 a2.2.2.1) p1).bind fun r5 =>
  bif n1 != (wrapF .i64 ((Int.ofNat r0.heap.length) - 1)) then
   ((ref07_up N) (r5.uses, r5.used, r5.free, (wrapF .i64 ((Int.ofNat r0.heap.length) - 1)).toNat, a2.2.2.2.1.length, n1, a2.2.2.2.1, seti a2.2.2.2.2 p1.1 (-1))).bind fun a6 =>
   ((ref07_down N) (r5.uses, r5.used, r5.free, (wrapF .i64 ((Int.ofNat r0.heap.length) - 1)).toNat, a2.2.2.2.1.length, a6)).bind fun a7 =>
   some (Agenda.mk r5 (a7.1.take ((wrapF .i64 ((Int.ofNat r0.heap.length) - 1)).toNat)) a7.2)
  else
   some (Agenda.mk r5 (a2.2.2.2.1.take ((wrapF .i64 ((Int.ofNat r0.heap.length) - 1)).toNat)) (seti a2.2.2.2.2 p1.1 (-1)))
 else
  (sliceO r0.heap 0 (wrapF .i64 ((Int.ofNat r0.heap.length) - 1))).bind fun _ =>
  (geti r0.where_ p1.1).bind fun _ =>
  ((ref06_Given N) r0.slots p1).bind fun r10 =>
  bif n1 != (wrapF .i64 ((Int.ofNat r0.heap.length) - 1)) then
   ((ref07_up N) (r10.uses, r10.used, r10.free, (wrapF .i64 ((Int.ofNat r0.heap.length) - 1)).toNat, r0.heap.length, n1, r0.heap, seti r0.where_ p1.1 (-1))).bind fun a11 =>
   ((ref07_down N) (r10.uses, r10.used, r10.free, (wrapF .i64 ((Int.ofNat r0.heap.length) - 1)).toNat, r0.heap.length, a11)).bind fun a12 =>
   some (Agenda.mk r10 (a12.1.take ((wrapF .i64 ((Int.ofNat r0.heap.length) - 1)).toNat)) a12.2)
  else
   some (Agenda.mk r10 (r0.heap.take ((wrapF .i64 ((Int.ofNat r0.heap.length) - 1)).toNat)) (seti r0.where_ p1.1 (-1)))
noncomputable def c103 (N : Nat) : Con := ⟨Args.cons (Arg.agg Agenda_c) (Args.one (Arg.agg (Cod.row kii))), Arg.agg Agenda_c, fun a => (ref07_Removed N) a.1 a.2, .frz, false⟩
theorem c103_ok (N : Nat) : ConOK tab 103 (c103 N) := ConOK.of tab_103 (cx := (mkCx (loopL N) [(49, (c49 N)), (49, (c49p N)), (132, (c132 N))] [(131, (f131_0 N)), (131, (f131_1 N)), (134, (f134_0 N)), (133, (f133_0 N))] [] [])) rfl (CxOK.make ⟨(c49_ok N), (c49p_ok N), (c132_ok N), trivial⟩ ⟨(f131_0_ok N), (f131_1_ok N), (f134_0_ok N), (f133_0_ok N), trivial⟩ trivial) (fun a => by kernel_rfl)
noncomputable def ref09_Gone (N : Nat) (p0 : Clock) (p1 : Int) : Option Clock :=
 ((ref09_Twin N) p0).bind fun r0 =>
 ((ref08_Without N) p0.certs p1).bind fun r1 =>
 ((ref09_DueAt N) p0 p1).bind fun n2 =>
 bif decide (0 ≤ n2) then
  (geti p0.due n2).bind fun a3 =>
  ((ref07_Removed N) p0.agenda a3.2).bind fun r4 =>
  (sliceO p0.due 0 n2).bind fun l5 =>
  (cloneO l5).bind fun l6 =>
  (sliceO p0.due (wrapF .i64 (n2 + 1)) (Int.ofNat p0.due.length)).bind fun l7 =>
  bif l7.isEmpty then
   some (Clock.mk r0.now r0.field r1 r4 l6)
  else
   (appendO l6 l7).bind fun l8 =>
   some (Clock.mk r0.now r0.field r1 r4 l8)
 else
  some (Clock.mk r0.now r0.field r1 r0.agenda r0.due)
noncomputable def c71 (N : Nat) : Con := ⟨Args.cons (Arg.agg Clock_c) (Args.one (Arg.int .i64)), Arg.agg Clock_c, fun a => (ref09_Gone N) a.1 a.2, .frz, false⟩
theorem c71_ok (N : Nat) : ConOK tab 71 (c71 N) := ConOK.of tab_71 (cx := (mkCx (loopL N) [(25, (c25 N)), (25, (c25p N)), (101, (c101 N)), (102, (c102 N)), (103, (c103 N))] [] [] [])) rfl (CxOK.make ⟨(c25_ok N), (c25p_ok N), (c101_ok N), (c102_ok N), (c103_ok N), trivial⟩ trivial trivial) (fun a => by kernel_rfl)
noncomputable def ref03_Same_l1 (_ : Nat) (s : (Int × (List (Int × Int × Int)) × (List (Int × Int × Int)))) : Option (Step (Int × (List (Int × Int × Int)) × (List (Int × Int × Int))) Bool) :=
 bif decide (s.1 < (Int.ofNat s.2.1.length)) then
  (geti s.2.1 s.1).bind fun a0 =>
  (geti s.2.2 s.1).bind fun a1 =>
  bif !((a0.1 == a1.1) && ((a0.2.1 == a1.2.1) && (a0.2.2 == a1.2.2))) then
   some (.done false)
  else
   some (.next (wrapF .i64 (s.1 + 1), s.2))
 else
  some (.done true)
noncomputable def ref03_Same (N : Nat) (p0 : Field) (p1 : Field) : Option Bool :=
 bif (Int.ofNat p0.points.length) != (Int.ofNat p1.points.length) then
  some false
 else
  (loopN N) (ref03_Same_l1 N) (0, p0.points, p1.points)
noncomputable def c54 (N : Nat) : Con := ⟨Args.cons (Arg.agg Field_c) (Args.one (Arg.agg Field_c)), Arg.bool, fun a => (ref03_Same N) a.1 a.2, .pure, false⟩
theorem c54_ok (N : Nat) : ConOK tab 54 (c54 N) := ConOK.of tab_54 (cx := (mkCx (loopL N) [] [] [] [])) rfl (CxOK.make trivial trivial trivial) (fun a => by kernel_rfl)
noncomputable def ref03_At_l1 (_ : Nat) (s : (Int × Int × (List (Int × Int × Int)))) : Option (Step (Int × Int × (List (Int × Int × Int))) Int) :=
 bif decide (s.2.1 < (Int.ofNat s.2.2.length)) then
  (geti s.2.2 s.2.1).bind fun a0 =>
  bif a0.1 == s.1 then
   some (.done s.2.1)
  else
   some (.next (s.1, wrapF .i64 (s.2.1 + 1), s.2.2))
 else
  some (.done (-1))
noncomputable def ref03_At (N : Nat) (p0 : Field) (p1 : Int) : Option Int :=
 (loopN N) (ref03_At_l1 N) (p1, 0, p0.points)
noncomputable def c136 (N : Nat) : Con := ⟨Args.cons (Arg.agg Field_c) (Args.one (Arg.int .i64)), Arg.int .i64, fun a => (ref03_At N) a.1 a.2, .pure, false⟩
theorem c136_ok (N : Nat) : ConOK tab 136 (c136 N) := ConOK.of tab_136 (cx := (mkCx (loopL N) [] [] [] [])) rfl (CxOK.make trivial trivial trivial) (fun a => by kernel_rfl)
noncomputable def ref01_made (_ : Nat) (p0 : Bool) (p1 : Bool × Int × Int) (p2 : Bool × Int × Int) : Option ((Int × Int) × Int) :=
 bif decide (0 < p1.2.1) then
  some ((0, 0), 16)
 else
  bif decide (9223372036854775807 < p1.2.2) then
   some ((0, 0), 16)
  else
   bif decide (0 < p2.2.1) then
    some ((0, 0), 16)
   else
    bif decide (9223372036854775807 < p2.2.2) then
     some ((0, 0), 16)
    else
     bif p0 then
      some ((wrapF .i64 (0 - (wrapF .i64 p1.2.2)), wrapF .i64 p2.2.2), 0)
     else
      some ((wrapF .i64 p1.2.2, wrapF .i64 p2.2.2), 0)
noncomputable def c191 (N : Nat) : Con := ⟨Args.cons Arg.bool (Args.cons (Arg.agg (Cod.row kbuu)) (Args.one (Arg.agg (Cod.row kbuu)))), Arg.tup (Args.cons (Arg.agg (Cod.row kii)) (Args.one (Arg.int .i64))), fun a => (ref01_made N) a.1 a.2.1 a.2.2, .pure, false⟩
theorem c191_ok (N : Nat) : ConOK tab 191 (c191 N) := ConOK.of tab_191 (cx := (mkCx (loopL N) [] [] [] [])) rfl (CxOK.make trivial trivial trivial) (fun a => by kernel_rfl)
noncomputable def ref01_Make (N : Nat) (p0 : Int) (p1 : Int) : Option ((Int × Int) × Int) :=
 bif p1 == 0 then
  some ((0, 0), 26)
 else
  ((ref01_size N) p0).bind fun n0 =>
  ((ref01_size N) p1).bind fun n1 =>
  ((ref01_common N) n0 n1).bind fun n2 =>
  bif !((decide (p0 < 0)) == (decide (p1 < 0))) then
   ((ref01_size N) p0).bind fun n3 =>
   bif n2 == 0 then
    none
   else
    ((ref01_size N) p1).bind fun n4 =>
    bif n2 == 0 then
     none
    else
     ((ref01_made N) (p0 != 0) (false, 0, wrapF .u64 (Int.tdiv n3 n2)) (false, 0, wrapF .u64 (Int.tdiv n4 n2))).bind fun a5 =>
     some a5
  else
   ((ref01_size N) p0).bind fun n6 =>
   bif n2 == 0 then
    none
   else
    ((ref01_size N) p1).bind fun n7 =>
    bif n2 == 0 then
     none
    else
     ((ref01_made N) false (false, 0, wrapF .u64 (Int.tdiv n6 n2)) (false, 0, wrapF .u64 (Int.tdiv n7 n2))).bind fun a8 =>
     some a8
noncomputable def c180 (N : Nat) : Con := ⟨Args.cons (Arg.int .i64) (Args.one (Arg.int .i64)), Arg.tup (Args.cons (Arg.agg (Cod.row kii)) (Args.one (Arg.int .i64))), fun a => (ref01_Make N) a.1 a.2, .pure, false⟩
theorem c180_ok (N : Nat) : ConOK tab 180 (c180 N) := ConOK.of tab_180 (cx := (mkCx (loopL N) [(42, (c42 N)), (41, (c41 N)), (191, (c191 N))] [] [] [])) rfl (CxOK.make ⟨(c42_ok N), (c41_ok N), (c191_ok N), trivial⟩ trivial trivial) (fun a => by kernel_rfl)
noncomputable def ref02_Met (N : Nat) (p0 : Int × Int × Int) (p1 : Int × Int × Int) : Option (Int × Int) :=
 ((ref01_Make N) (wrapF .i64 (p0.2.1 - p1.2.1)) (wrapF .i64 (p1.2.2 - p0.2.2))).bind fun a0 =>
 some a0.1
noncomputable def c163 (N : Nat) : Con := ⟨Args.cons (Arg.agg (Cod.row kiii)) (Args.one (Arg.agg (Cod.row kiii))), Arg.agg (Cod.row kii), fun a => (ref02_Met N) a.1 a.2, .pure, false⟩
theorem c163_ok (N : Nat) : ConOK tab 163 (c163 N) := ConOK.of tab_163 (cx := (mkCx (loopL N) [(180, (c180 N))] [] [] [])) rfl (CxOK.make ⟨(c180_ok N), trivial⟩ trivial trivial) (fun a => by kernel_rfl)
noncomputable def ref02_Failure (N : Nat) (p0 : Int × Int × Int) (p1 : Int × Int × Int) (p2 : Int × Int) : Option ((Int × Int) × Bool) :=
 ((ref02_Leads N) p1 p0 p2).bind fun b0 =>
 bif b0 then
  some (p2, true)
 else
  bif decide (p0.2.2 < p1.2.2) then
   ((ref02_Met N) p0 p1).bind fun a1 =>
   some (a1, true)
  else
   some ((0, 0), false)
noncomputable def c135 (N : Nat) : Con := ⟨Args.cons (Arg.agg (Cod.row kiii)) (Args.cons (Arg.agg (Cod.row kiii)) (Args.one (Arg.agg (Cod.row kii)))), Arg.tup (Args.cons (Arg.agg (Cod.row kii)) (Args.one Arg.bool)), fun a => (ref02_Failure N) a.1 a.2.1 a.2.2, .pure, false⟩
theorem c135_ok (N : Nat) : ConOK tab 135 (c135 N) := ConOK.of tab_135 (cx := (mkCx (loopL N) [(161, (c161 N)), (163, (c163 N))] [] [] [])) rfl (CxOK.make ⟨(c161_ok N), (c163_ok N), trivial⟩ trivial trivial) (fun a => by kernel_rfl)
noncomputable def ref09_When (N : Nat) (p0 : Field) (p1 : Int × Int) (p2 : Int × Int) : Option ((Int × Int) × Bool) :=
 ((ref03_At N) p0 p1.2).bind fun n0 =>
 (geti p0.points n0).bind fun a1 =>
 ((ref03_At N) p0 p1.1).bind fun n2 =>
 (geti p0.points n2).bind fun a3 =>
 ((ref02_Failure N) a1 a3 p2).bind fun a4 =>
 some a4
noncomputable def c104 (N : Nat) : Con := ⟨Args.cons (Arg.agg Field_c) (Args.cons (Arg.agg (Cod.row kii)) (Args.one (Arg.agg (Cod.row kii)))), Arg.tup (Args.cons (Arg.agg (Cod.row kii)) (Args.one Arg.bool)), fun a => (ref09_When N) a.1 a.2.1 a.2.2, .pure, false⟩
theorem c104_ok (N : Nat) : ConOK tab 104 (c104 N) := ConOK.of tab_104 (cx := (mkCx (loopL N) [(136, (c136 N)), (135, (c135 N))] [] [] [])) rfl (CxOK.make ⟨(c136_ok N), (c135_ok N), trivial⟩ trivial trivial) (fun a => by kernel_rfl)
noncomputable def ref07_up_v1_l1 (N : Nat) (c0 : (Int × (List Int) × (List Bool) × (List Int) × (List (Int × Int × Int × Int × Int)) × (List Int))) (s : (Int × (List Int) × (List Bool) × (List Int) × (List (Int × Int × Int × Int × Int)) × (List Int))) : Option (Step (Int × (List Int) × (List Bool) × (List Int) × (List (Int × Int × Int × Int × Int)) × (List Int)) (Int × (List Int) × (List Bool) × (List Int) × (List (Int × Int × Int × Int × Int)) × (List Int))) :=
 bif decide (0 < s.1) then
  (geti s.2.2.2.2.1 s.1).bind fun a0 =>
  (geti s.2.2.2.2.1 (wrapF .i64 (Int.tdiv (wrapF .i64 (s.1 - 1)) 2))).bind fun a1 =>
  ((ref07_Less N) a0 a1).bind fun b2 =>
  bif b2 then
   ((ref07_swap N) (s.1, wrapF .i64 (Int.tdiv (wrapF .i64 (s.1 - 1)) 2), s.2)).bind fun a3 =>
   some (.next (wrapF .i64 (Int.tdiv (wrapF .i64 (s.1 - 1)) 2), a3))
  else
   bif s.2.1.length == c0.2.1.length then
    bif s.2.2.1.length == c0.2.2.1.length then
     bif s.2.2.2.1.length == c0.2.2.2.1.length then
      bif s.2.2.2.2.1.length == c0.2.2.2.2.1.length then
       bif s.2.2.2.2.2.length == c0.2.2.2.2.2.length then
        some (.done s)
       else
        none
      else
       none
     else
      none
    else
     none
   else
    none
 else
  bif s.2.1.length == c0.2.1.length then
   bif s.2.2.1.length == c0.2.2.1.length then
    bif s.2.2.2.1.length == c0.2.2.2.1.length then
     bif s.2.2.2.2.1.length == c0.2.2.2.2.1.length then
      bif s.2.2.2.2.2.length == c0.2.2.2.2.2.length then
       some (.done s)
      else
       none
     else
      none
    else
     none
   else
    none
  else
   none
noncomputable def ref07_up_v1 (N : Nat) (a : (Int × (List Int) × (List Bool) × (List Int) × (List (Int × Int × Int × Int × Int)) × (List Int))) : Option (Int × (List Int) × (List Bool) × (List Int) × (List (Int × Int × Int × Int × Int)) × (List Int)) :=
 (loopN N) ((ref07_up_v1_l1 N) a) a
noncomputable def f134_1 (N : Nat) : FpCon := ⟨[.i, .l [.i .i64], .l [.b], .l [.i .i64], .l [.i .i64, .i .i64, .i .i64, .i .i64, .i .i64], .l [.i .i64]], [.agg [.own 0 false, .own 1 false, .own 2 false, .own 3 false, .own 4 false], .int .i64 0], [.arr [.i .i64] [], .arr [.b] [], .arr [.i .i64] [], .arr [.i .i64, .i .i64, .i .i64, .i .i64, .i .i64] [], .arr [.i .i64] []], [.i, .l [.i .i64], .l [.b], .l [.i .i64], .l [.i .i64, .i .i64, .i .i64, .i .i64, .i .i64], .l [.i .i64]], .int .i64 0, [.arr [.i .i64] [], .arr [.b] [], .arr [.i .i64] [], .arr [.i .i64, .i .i64, .i .i64, .i .i64, .i .i64] [], .arr [.i .i64] []], fun a => (ref07_up_v1 N) a⟩
theorem f134_1_ok (N : Nat) : FpOK tab 134 (f134_1 N) := FpOK.of tab_134 (wd := false) (cx := (mkCx (loopL N) [(162, (c162 N))] [(131, (f131_0 N)), (131, (f131_1 N))] [] [])) (CxOK.make ⟨(c162_ok N), trivial⟩ ⟨(f131_0_ok N), (f131_1_ok N), trivial⟩ trivial) (fun a => by kernel_rfl)
noncomputable def ref07_down_v1_l1 (N : Nat) (c0 : (Int × (List Int) × (List Bool) × (List Int) × (List (Int × Int × Int × Int × Int)) × (List Int))) (s : (Int × (List Int) × (List Bool) × (List Int) × (List (Int × Int × Int × Int × Int)) × (List Int))) : Option (Step (Int × (List Int) × (List Bool) × (List Int) × (List (Int × Int × Int × Int × Int)) × (List Int)) ((List Int) × (List Bool) × (List Int) × (List (Int × Int × Int × Int × Int)) × (List Int))) :=
 bif decide ((Int.ofNat s.2.2.2.2.1.length) ≤ (wrapF .i64 ((wrapF .i64 (2 * s.1)) + 1))) then
  bif s.2.1.length == c0.2.1.length then
   bif s.2.2.1.length == c0.2.2.1.length then
    bif s.2.2.2.1.length == c0.2.2.2.1.length then
     bif s.2.2.2.2.1.length == c0.2.2.2.2.1.length then
      bif s.2.2.2.2.2.length == c0.2.2.2.2.2.length then
       some (.done s.2)
      else
       none
     else
      none
    else
     none
   else
    none
  else
   none
 else
  bif decide ((wrapF .i64 ((wrapF .i64 ((wrapF .i64 (2 * s.1)) + 1)) + 1)) < (Int.ofNat s.2.2.2.2.1.length)) then
   (geti s.2.2.2.2.1 (wrapF .i64 ((wrapF .i64 ((wrapF .i64 (2 * s.1)) + 1)) + 1))).bind fun a0 =>
   (geti s.2.2.2.2.1 (wrapF .i64 ((wrapF .i64 (2 * s.1)) + 1))).bind fun a1 =>
   ((ref07_Less N) a0 a1).bind fun b2 =>
   bif b2 then
    (geti s.2.2.2.2.1 (wrapF .i64 ((wrapF .i64 ((wrapF .i64 (2 * s.1)) + 1)) + 1))).bind fun a3 =>
    (geti s.2.2.2.2.1 s.1).bind fun a4 =>
    ((ref07_Less N) a3 a4).bind fun b5 =>
    bif !b5 then
     bif s.2.1.length == c0.2.1.length then
      bif s.2.2.1.length == c0.2.2.1.length then
       bif s.2.2.2.1.length == c0.2.2.2.1.length then
        bif s.2.2.2.2.1.length == c0.2.2.2.2.1.length then
         bif s.2.2.2.2.2.length == c0.2.2.2.2.2.length then
          some (.done s.2)
         else
          none
        else
         none
       else
        none
      else
       none
     else
      none
    else
     ((ref07_swap N) (s.1, wrapF .i64 ((wrapF .i64 ((wrapF .i64 (2 * s.1)) + 1)) + 1), s.2)).bind fun a6 =>
     some (.next (wrapF .i64 ((wrapF .i64 ((wrapF .i64 (2 * s.1)) + 1)) + 1), a6))
   else
    (geti s.2.2.2.2.1 (wrapF .i64 ((wrapF .i64 (2 * s.1)) + 1))).bind fun a7 =>
    (geti s.2.2.2.2.1 s.1).bind fun a8 =>
    ((ref07_Less N) a7 a8).bind fun b9 =>
    bif !b9 then
     bif s.2.1.length == c0.2.1.length then
      bif s.2.2.1.length == c0.2.2.1.length then
       bif s.2.2.2.1.length == c0.2.2.2.1.length then
        bif s.2.2.2.2.1.length == c0.2.2.2.2.1.length then
         bif s.2.2.2.2.2.length == c0.2.2.2.2.2.length then
          some (.done s.2)
         else
          none
        else
         none
       else
        none
      else
       none
     else
      none
    else
     ((ref07_swap N) (s.1, wrapF .i64 ((wrapF .i64 (2 * s.1)) + 1), s.2)).bind fun a10 =>
     some (.next (wrapF .i64 ((wrapF .i64 (2 * s.1)) + 1), a10))
  else
   (geti s.2.2.2.2.1 (wrapF .i64 ((wrapF .i64 (2 * s.1)) + 1))).bind fun a11 =>
   (geti s.2.2.2.2.1 s.1).bind fun a12 =>
   ((ref07_Less N) a11 a12).bind fun b13 =>
   bif !b13 then
    bif s.2.1.length == c0.2.1.length then
     bif s.2.2.1.length == c0.2.2.1.length then
      bif s.2.2.2.1.length == c0.2.2.2.1.length then
       bif s.2.2.2.2.1.length == c0.2.2.2.2.1.length then
        bif s.2.2.2.2.2.length == c0.2.2.2.2.2.length then
         some (.done s.2)
        else
         none
       else
        none
      else
       none
     else
      none
    else
     none
   else
    ((ref07_swap N) (s.1, wrapF .i64 ((wrapF .i64 (2 * s.1)) + 1), s.2)).bind fun a14 =>
    some (.next (wrapF .i64 ((wrapF .i64 (2 * s.1)) + 1), a14))
noncomputable def ref07_down_v1 (N : Nat) (a : (Int × (List Int) × (List Bool) × (List Int) × (List (Int × Int × Int × Int × Int)) × (List Int))) : Option ((List Int) × (List Bool) × (List Int) × (List (Int × Int × Int × Int × Int)) × (List Int)) :=
 (loopN N) ((ref07_down_v1_l1 N) a) a
noncomputable def f133_1 (N : Nat) : FpCon := ⟨[.i, .l [.i .i64], .l [.b], .l [.i .i64], .l [.i .i64, .i .i64, .i .i64, .i .i64, .i .i64], .l [.i .i64]], [.agg [.own 0 false, .own 1 false, .own 2 false, .own 3 false, .own 4 false], .int .i64 0], [.arr [.i .i64] [], .arr [.b] [], .arr [.i .i64] [], .arr [.i .i64, .i .i64, .i .i64, .i .i64, .i .i64] [], .arr [.i .i64] []], [.l [.i .i64], .l [.b], .l [.i .i64], .l [.i .i64, .i .i64, .i .i64, .i .i64, .i .i64], .l [.i .i64]], .tup [], [.arr [.i .i64] [], .arr [.b] [], .arr [.i .i64] [], .arr [.i .i64, .i .i64, .i .i64, .i .i64, .i .i64] [], .arr [.i .i64] []], fun a => (ref07_down_v1 N) a⟩
theorem f133_1_ok (N : Nat) : FpOK tab 133 (f133_1 N) := FpOK.of tab_133 (wd := false) (cx := (mkCx (loopL N) [(162, (c162 N))] [(131, (f131_0 N)), (131, (f131_1 N))] [] [])) (CxOK.make ⟨(c162_ok N), trivial⟩ ⟨(f131_0_ok N), (f131_1_ok N), trivial⟩ trivial) (fun a => by kernel_rfl)
noncomputable def ref07_Rekeyed (N : Nat) (p0 : Agenda) (p1 : Int × Int) (p2 : Int × Int) : Option Agenda :=
 ((ref07_Twin N) p0).bind fun r0 =>
 (geti r0.where_ p1.1).bind fun n1 =>
 (geti r0.heap n1).bind fun a2 =>
 ((ref07_up_v1 N) (n1, r0.slots.uses, r0.slots.used, r0.slots.free, seti r0.heap n1 (p2.1, p2.2, a2.2.2), r0.where_)).bind fun a3 =>
 ((ref07_down_v1 N) a3).bind fun a4 =>
 some (Agenda.mk (Slots.mk a4.1 a4.2.1 a4.2.2.1) a4.2.2.2.1 a4.2.2.2.2)
noncomputable def c105 (N : Nat) : Con := ⟨Args.cons (Arg.agg Agenda_c) (Args.cons (Arg.agg (Cod.row kii)) (Args.one (Arg.agg (Cod.row kii)))), Arg.agg Agenda_c, fun a => (ref07_Rekeyed N) a.1 a.2.1 a.2.2, .frz, false⟩
theorem c105_ok (N : Nat) : ConOK tab 105 (c105 N) := ConOK.of tab_105 (cx := (mkCx (loopL N) [(49, (c49 N)), (49, (c49p N))] [(134, (f134_0 N)), (133, (f133_0 N)), (134, (f134_1 N)), (133, (f133_1 N))] [] [])) rfl (CxOK.make ⟨(c49_ok N), (c49p_ok N), trivial⟩ ⟨(f134_0_ok N), (f133_0_ok N), (f134_1_ok N), (f133_1_ok N), trivial⟩ trivial) (fun a => by kernel_rfl)
noncomputable def ref06_Open (_ : Nat) (p0 : Slots) : Option Bool :=
 bif decide (0 < (Int.ofNat p0.free.length)) then
  (geti p0.free (wrapF .i64 ((Int.ofNat p0.free.length) - 1))).bind fun n0 =>
  (geti p0.uses n0).bind fun n1 =>
  some (decide (n1 < 1000000))
 else
  some false
noncomputable def c106 (N : Nat) : Con := ⟨Args.one (Arg.agg Slots_c), Arg.bool, fun a => (ref06_Open N) a, .pure, false⟩
theorem c106_ok (N : Nat) : ConOK tab 106 (c106 N) := ConOK.of tab_106 (cx := (mkCx (loopL N) [] [] [] [])) rfl (CxOK.make trivial trivial trivial) (fun a => by kernel_rfl)
noncomputable def ref06_Taken (N : Nat) (p0 : Slots) : Option (Slots × (Int × Int)) :=
 ((ref06_Twin N) p0).bind fun r0 =>
 (geti r0.free (wrapF .i64 ((Int.ofNat r0.free.length) - 1))).bind fun n1 =>
 (sliceO r0.free 0 (wrapF .i64 ((Int.ofNat r0.free.length) - 1))).bind fun _ =>
 (geti r0.uses n1).bind fun n3 =>
 (geti r0.uses n1).bind fun _ =>
 (geti r0.used n1).bind fun _ =>
 (geti (seti r0.uses n1 (wrapF .i64 (n3 + 1))) n1).bind fun n6 =>
 some (Slots.mk (seti r0.uses n1 (wrapF .i64 (n3 + 1))) (seti r0.used n1 true) (r0.free.take ((wrapF .i64 ((Int.ofNat r0.free.length) - 1)).toNat)), n1, n6)
noncomputable def c137 (N : Nat) : Con := ⟨Args.one (Arg.agg Slots_c), Arg.tup (Args.cons (Arg.agg Slots_c) (Args.one (Arg.agg (Cod.row kii)))), fun a => (ref06_Taken N) a, .frz, false⟩
theorem c137_ok (N : Nat) : ConOK tab 137 (c137 N) := ConOK.of tab_137 (cx := (mkCx (loopL N) [(76, (c76 N)), (76, (c76p N))] [] [] [])) rfl (CxOK.make ⟨(c76_ok N), (c76p_ok N), trivial⟩ trivial trivial) (fun a => by kernel_rfl)
noncomputable def ref07_swap_v2 (_ : Nat) (a : ((List Int) × (List Bool) × (List Int) × Int × Int × (List (Int × Int × Int × Int × Int)) × (List Int))) : Option ((List (Int × Int × Int × Int × Int)) × (List Int)) :=
 (geti a.2.2.2.2.2.1 a.2.2.2.2.1).bind fun a0 =>
 (geti a.2.2.2.2.2.1 a.2.2.2.1).bind fun a1 =>
 (geti a.2.2.2.2.2.1 a.2.2.2.1).bind fun _ =>
 (geti (seti a.2.2.2.2.2.1 a.2.2.2.1 a0) a.2.2.2.2.1).bind fun _ =>
 (geti (seti (seti a.2.2.2.2.2.1 a.2.2.2.1 a0) a.2.2.2.2.1 a1) a.2.2.2.1).bind fun a4 =>
 (geti (seti (seti a.2.2.2.2.2.1 a.2.2.2.1 a0) a.2.2.2.2.1 a1) a.2.2.2.2.1).bind fun a5 =>
 (geti a.2.2.2.2.2.2 a4.2.2.2.1).bind fun _ =>
 (geti (seti a.2.2.2.2.2.2 a4.2.2.2.1 a.2.2.2.1) a5.2.2.2.1).bind fun _ =>
 bif ((seti (seti a.2.2.2.2.2.1 a.2.2.2.1 a0) a.2.2.2.2.1 a1).length) == a.2.2.2.2.2.1.length then
  bif ((seti (seti a.2.2.2.2.2.2 a4.2.2.2.1 a.2.2.2.1) a5.2.2.2.1 a.2.2.2.2.1).length) == a.2.2.2.2.2.2.length then
   some (seti (seti a.2.2.2.2.2.1 a.2.2.2.1 a0) a.2.2.2.2.1 a1, seti (seti a.2.2.2.2.2.2 a4.2.2.2.1 a.2.2.2.1) a5.2.2.2.1 a.2.2.2.2.1)
  else
   none
 else
  none
noncomputable def f131_2 (N : Nat) : FpCon := ⟨[.l [.i .i64], .l [.b], .l [.i .i64], .i, .i, .l [.i .i64, .i .i64, .i .i64, .i .i64, .i .i64], .l [.i .i64]], [.agg [.sl [.i .i64] [], .sl [.b] [], .sl [.i .i64] [], .own 0 false, .own 1 false], .int .i64 0, .int .i64 0], [.arr [.i .i64, .i .i64, .i .i64, .i .i64, .i .i64] [], .arr [.i .i64] []], [.l [.i .i64, .i .i64, .i .i64, .i .i64, .i .i64], .l [.i .i64]], .tup [], [.arr [.i .i64, .i .i64, .i .i64, .i .i64, .i .i64] [], .arr [.i .i64] []], fun a => (ref07_swap_v2 N) a⟩
theorem f131_2_ok (N : Nat) : FpOK tab 131 (f131_2 N) := FpOK.of tab_131 (wd := false) (cx := (mkCx (loopL N) [] [] [] [])) (CxOK.make trivial trivial trivial) (fun a => by kernel_rfl)
noncomputable def ref07_up_v2_l1 (N : Nat) (c0 : ((List Int) × (List Bool) × (List Int) × Int × (List (Int × Int × Int × Int × Int)) × (List Int))) (s : (Int × (List (Int × Int × Int × Int × Int)) × (List Int) × (List Int) × (List Bool) × (List Int))) : Option (Step (Int × (List (Int × Int × Int × Int × Int)) × (List Int) × (List Int) × (List Bool) × (List Int)) (Int × (List (Int × Int × Int × Int × Int)) × (List Int))) :=
 bif decide (0 < s.1) then
  (geti s.2.1 s.1).bind fun a0 =>
  (geti s.2.1 (wrapF .i64 (Int.tdiv (wrapF .i64 (s.1 - 1)) 2))).bind fun a1 =>
  ((ref07_Less N) a0 a1).bind fun b2 =>
  bif b2 then
   ((ref07_swap_v2 N) (s.2.2.2.1, s.2.2.2.2.1, s.2.2.2.2.2, s.1, wrapF .i64 (Int.tdiv (wrapF .i64 (s.1 - 1)) 2), s.2.1, s.2.2.1)).bind fun a3 =>
   some (.next (wrapF .i64 (Int.tdiv (wrapF .i64 (s.1 - 1)) 2), a3.1, a3.2, s.2.2.2))
  else
   bif s.2.1.length == c0.2.2.2.2.1.length then
    bif s.2.2.1.length == c0.2.2.2.2.2.length then
     some (.done (s.1, s.2.1, s.2.2.1))
    else
     none
   else
    none
 else
  bif s.2.1.length == c0.2.2.2.2.1.length then
   bif s.2.2.1.length == c0.2.2.2.2.2.length then
    some (.done (s.1, s.2.1, s.2.2.1))
   else
    none
  else
   none
noncomputable def ref07_up_v2 (N : Nat) (a : ((List Int) × (List Bool) × (List Int) × Int × (List (Int × Int × Int × Int × Int)) × (List Int))) : Option (Int × (List (Int × Int × Int × Int × Int)) × (List Int)) :=
 (loopN N) ((ref07_up_v2_l1 N) a) (a.2.2.2.1, a.2.2.2.2.1, a.2.2.2.2.2, a.1, a.2.1, a.2.2.1)
noncomputable def f134_2 (N : Nat) : FpCon := ⟨[.l [.i .i64], .l [.b], .l [.i .i64], .i, .l [.i .i64, .i .i64, .i .i64, .i .i64, .i .i64], .l [.i .i64]], [.agg [.sl [.i .i64] [], .sl [.b] [], .sl [.i .i64] [], .own 0 false, .own 1 false], .int .i64 0], [.arr [.i .i64, .i .i64, .i .i64, .i .i64, .i .i64] [], .arr [.i .i64] []], [.i, .l [.i .i64, .i .i64, .i .i64, .i .i64, .i .i64], .l [.i .i64]], .int .i64 0, [.arr [.i .i64, .i .i64, .i .i64, .i .i64, .i .i64] [], .arr [.i .i64] []], fun a => (ref07_up_v2 N) a⟩
theorem f134_2_ok (N : Nat) : FpOK tab 134 (f134_2 N) := FpOK.of tab_134 (wd := true) (cx := (mkCx (loopL N) [(162, (c162 N))] [(131, (f131_0 N)), (131, (f131_1 N)), (131, (f131_2 N))] [] [])) (CxOK.make ⟨(c162_ok N), trivial⟩ ⟨(f131_0_ok N), (f131_1_ok N), (f131_2_ok N), trivial⟩ trivial) (fun a => by kernel_rfl)
noncomputable def ref07_Pushed (N : Nat) (p0 : Agenda) (p1 : Int × Int) (p2 : Int) : Option (Agenda × (Int × Int)) :=
 ((ref07_Twin N) p0).bind fun r0 =>
 ((ref06_Taken N) r0.slots).bind fun a1 =>
 (appendO r0.heap [(p1.1, p1.2, p2, a1.2)]).bind fun l2 =>
 (geti r0.where_ a1.2.1).bind fun _ =>
 ((ref07_up_v2 N) (a1.1.uses, a1.1.used, a1.1.free, wrapF .i64 ((Int.ofNat l2.length) - 1), l2, seti r0.where_ a1.2.1 (wrapF .i64 ((Int.ofNat l2.length) - 1)))).bind fun a4 =>
 some (Agenda.mk a1.1 a4.2.1 a4.2.2, a1.2)
noncomputable def c107 (N : Nat) : Con := ⟨Args.cons (Arg.agg Agenda_c) (Args.cons (Arg.agg (Cod.row kii)) (Args.one (Arg.int .i64))), Arg.tup (Args.cons (Arg.agg Agenda_c) (Args.one (Arg.agg (Cod.row kii)))), fun a => (ref07_Pushed N) a.1 a.2.1 a.2.2, .frz, false⟩
theorem c107_ok (N : Nat) : ConOK tab 107 (c107 N) := ConOK.of tab_107 (cx := (mkCx (loopL N) [(49, (c49 N)), (49, (c49p N)), (137, (c137 N))] [(134, (f134_0 N)), (134, (f134_1 N)), (134, (f134_2 N))] [] [])) rfl (CxOK.make ⟨(c49_ok N), (c49p_ok N), (c137_ok N), trivial⟩ ⟨(f134_0_ok N), (f134_1_ok N), (f134_2_ok N), trivial⟩ trivial) (fun a => by kernel_rfl)
noncomputable def ref09_Altered_l1 (N : Nat) (s : (Int × Int × Int × (List (Int × Int × Int)) × Int × (List (Int × Int × Int)) × (List Int) × (List Bool) × (List Int) × (List (Int × Int × Int × Int × Int)) × (List Int) × (List (Int × Int × Int)) × (List (Int × Int × Int)) × Int × Int × Int × Int × Int × (List (Int × Int × Int)) × Int × (List (Int × Int × Int)) × (List Int) × (List Bool) × (List Int) × (List (Int × Int × Int × Int × Int)) × (List Int) × (List (Int × Int × Int)))) : Option (Step (Int × Int × Int × (List (Int × Int × Int)) × Int × (List (Int × Int × Int)) × (List Int) × (List Bool) × (List Int) × (List (Int × Int × Int × Int × Int)) × (List Int) × (List (Int × Int × Int)) × (List (Int × Int × Int)) × Int × Int × Int × Int × Int × (List (Int × Int × Int)) × Int × (List (Int × Int × Int)) × (List Int) × (List Bool) × (List Int) × (List (Int × Int × Int × Int × Int)) × (List Int) × (List (Int × Int × Int))) (Clock × Int)) :=
 bif decide (s.1 < (Int.ofNat s.2.2.2.2.2.1.length)) then
  (geti s.2.2.2.2.2.1 s.1).bind fun a0 =>
  ((ref09_DueAt N) (Clock.mk (s.2.1, s.2.2.1) (Field.mk s.2.2.2.1) (Certs.mk s.2.2.2.2.1 s.2.2.2.2.2.1) (Agenda.mk (Slots.mk s.2.2.2.2.2.2.1 s.2.2.2.2.2.2.2.1 s.2.2.2.2.2.2.2.2.1) s.2.2.2.2.2.2.2.2.2.1 s.2.2.2.2.2.2.2.2.2.2.1) s.2.2.2.2.2.2.2.2.2.2.2.1) a0.1).bind fun n1 =>
  ((ref09_When N) (Field.mk s.2.2.2.2.2.2.2.2.2.2.2.2.1) a0.2 (s.2.1, s.2.2.1)).bind fun a2 =>
  bif a2.2 then
   bif decide (0 ≤ n1) then
    (geti s.2.2.2.2.2.2.2.2.2.2.2.1 n1).bind fun a3 =>
    ((ref07_Rekeyed N) (Agenda.mk (Slots.mk s.2.2.2.2.2.2.2.2.2.2.2.2.2.2.2.2.2.2.2.2.2.1 s.2.2.2.2.2.2.2.2.2.2.2.2.2.2.2.2.2.2.2.2.2.2.1 s.2.2.2.2.2.2.2.2.2.2.2.2.2.2.2.2.2.2.2.2.2.2.2.1) s.2.2.2.2.2.2.2.2.2.2.2.2.2.2.2.2.2.2.2.2.2.2.2.2.1 s.2.2.2.2.2.2.2.2.2.2.2.2.2.2.2.2.2.2.2.2.2.2.2.2.2.1) a3.2 a2.1).bind fun r4 =>
    (geti s.2.2.2.2.2.2.2.2.2.2.2.1 n1).bind fun a5 =>
    (appendO s.2.2.2.2.2.2.2.2.2.2.2.2.2.2.2.2.2.2.2.2.2.2.2.2.2.2 [a5]).bind fun l6 =>
    bif !a2.2 then
     bif decide (0 ≤ n1) then
      (geti s.2.2.2.2.2.2.2.2.2.2.2.1 n1).bind fun a7 =>
      ((ref07_Removed N) r4 a7.2).bind fun r8 =>
      bif !a2.2 then
       some (.next (wrapF .i64 (s.1 + 1), s.2.1, s.2.2.1, s.2.2.2.1, s.2.2.2.2.1, s.2.2.2.2.2.1, s.2.2.2.2.2.2.1, s.2.2.2.2.2.2.2.1, s.2.2.2.2.2.2.2.2.1, s.2.2.2.2.2.2.2.2.2.1, s.2.2.2.2.2.2.2.2.2.2.1, s.2.2.2.2.2.2.2.2.2.2.2.1, s.2.2.2.2.2.2.2.2.2.2.2.2.1, s.2.2.2.2.2.2.2.2.2.2.2.2.2.1, s.2.2.2.2.2.2.2.2.2.2.2.2.2.2.1, s.2.2.2.2.2.2.2.2.2.2.2.2.2.2.2.1, s.2.2.2.2.2.2.2.2.2.2.2.2.2.2.2.2.1, s.2.2.2.2.2.2.2.2.2.2.2.2.2.2.2.2.2.1, s.2.2.2.2.2.2.2.2.2.2.2.2.2.2.2.2.2.2.1, s.2.2.2.2.2.2.2.2.2.2.2.2.2.2.2.2.2.2.2.1, s.2.2.2.2.2.2.2.2.2.2.2.2.2.2.2.2.2.2.2.2.1, r8.slots.uses, r8.slots.used, r8.slots.free, r8.heap, r8.where_, l6))
      else
       bif decide (0 ≤ n1) then
        some (.next (wrapF .i64 (s.1 + 1), s.2.1, s.2.2.1, s.2.2.2.1, s.2.2.2.2.1, s.2.2.2.2.2.1, s.2.2.2.2.2.2.1, s.2.2.2.2.2.2.2.1, s.2.2.2.2.2.2.2.2.1, s.2.2.2.2.2.2.2.2.2.1, s.2.2.2.2.2.2.2.2.2.2.1, s.2.2.2.2.2.2.2.2.2.2.2.1, s.2.2.2.2.2.2.2.2.2.2.2.2.1, s.2.2.2.2.2.2.2.2.2.2.2.2.2.1, s.2.2.2.2.2.2.2.2.2.2.2.2.2.2.1, s.2.2.2.2.2.2.2.2.2.2.2.2.2.2.2.1, s.2.2.2.2.2.2.2.2.2.2.2.2.2.2.2.2.1, s.2.2.2.2.2.2.2.2.2.2.2.2.2.2.2.2.2.1, s.2.2.2.2.2.2.2.2.2.2.2.2.2.2.2.2.2.2.1, s.2.2.2.2.2.2.2.2.2.2.2.2.2.2.2.2.2.2.2.1, s.2.2.2.2.2.2.2.2.2.2.2.2.2.2.2.2.2.2.2.2.1, r8.slots.uses, r8.slots.used, r8.slots.free, r8.heap, r8.where_, l6))
       else
        ((ref06_Open N) r8.slots).bind fun b9 =>
        bif !b9 then
         some (.done (Clock.mk (0, 0) (Field.mk []) (Certs.mk 0 []) (Agenda.mk (Slots.mk [] [] []) [] []) [], 18))
        else
         ((ref07_Pushed N) r8 a2.1 a0.1).bind fun a10 =>
         (appendO l6 [(a0.1, a10.2)]).bind fun l11 =>
         some (.next (wrapF .i64 (s.1 + 1), s.2.1, s.2.2.1, s.2.2.2.1, s.2.2.2.2.1, s.2.2.2.2.2.1, s.2.2.2.2.2.2.1, s.2.2.2.2.2.2.2.1, s.2.2.2.2.2.2.2.2.1, s.2.2.2.2.2.2.2.2.2.1, s.2.2.2.2.2.2.2.2.2.2.1, s.2.2.2.2.2.2.2.2.2.2.2.1, s.2.2.2.2.2.2.2.2.2.2.2.2.1, s.2.2.2.2.2.2.2.2.2.2.2.2.2.1, s.2.2.2.2.2.2.2.2.2.2.2.2.2.2.1, s.2.2.2.2.2.2.2.2.2.2.2.2.2.2.2.1, s.2.2.2.2.2.2.2.2.2.2.2.2.2.2.2.2.1, s.2.2.2.2.2.2.2.2.2.2.2.2.2.2.2.2.2.1, s.2.2.2.2.2.2.2.2.2.2.2.2.2.2.2.2.2.2.1, s.2.2.2.2.2.2.2.2.2.2.2.2.2.2.2.2.2.2.2.1, s.2.2.2.2.2.2.2.2.2.2.2.2.2.2.2.2.2.2.2.2.1, a10.1.slots.uses, a10.1.slots.used, a10.1.slots.free, a10.1.heap, a10.1.where_, l11))
     else
      bif !a2.2 then
       some (.next (wrapF .i64 (s.1 + 1), s.2.1, s.2.2.1, s.2.2.2.1, s.2.2.2.2.1, s.2.2.2.2.2.1, s.2.2.2.2.2.2.1, s.2.2.2.2.2.2.2.1, s.2.2.2.2.2.2.2.2.1, s.2.2.2.2.2.2.2.2.2.1, s.2.2.2.2.2.2.2.2.2.2.1, s.2.2.2.2.2.2.2.2.2.2.2.1, s.2.2.2.2.2.2.2.2.2.2.2.2.1, s.2.2.2.2.2.2.2.2.2.2.2.2.2.1, s.2.2.2.2.2.2.2.2.2.2.2.2.2.2.1, s.2.2.2.2.2.2.2.2.2.2.2.2.2.2.2.1, s.2.2.2.2.2.2.2.2.2.2.2.2.2.2.2.2.1, s.2.2.2.2.2.2.2.2.2.2.2.2.2.2.2.2.2.1, s.2.2.2.2.2.2.2.2.2.2.2.2.2.2.2.2.2.2.1, s.2.2.2.2.2.2.2.2.2.2.2.2.2.2.2.2.2.2.2.1, s.2.2.2.2.2.2.2.2.2.2.2.2.2.2.2.2.2.2.2.2.1, r4.slots.uses, r4.slots.used, r4.slots.free, r4.heap, r4.where_, l6))
      else
       bif decide (0 ≤ n1) then
        some (.next (wrapF .i64 (s.1 + 1), s.2.1, s.2.2.1, s.2.2.2.1, s.2.2.2.2.1, s.2.2.2.2.2.1, s.2.2.2.2.2.2.1, s.2.2.2.2.2.2.2.1, s.2.2.2.2.2.2.2.2.1, s.2.2.2.2.2.2.2.2.2.1, s.2.2.2.2.2.2.2.2.2.2.1, s.2.2.2.2.2.2.2.2.2.2.2.1, s.2.2.2.2.2.2.2.2.2.2.2.2.1, s.2.2.2.2.2.2.2.2.2.2.2.2.2.1, s.2.2.2.2.2.2.2.2.2.2.2.2.2.2.1, s.2.2.2.2.2.2.2.2.2.2.2.2.2.2.2.1, s.2.2.2.2.2.2.2.2.2.2.2.2.2.2.2.2.1, s.2.2.2.2.2.2.2.2.2.2.2.2.2.2.2.2.2.1, s.2.2.2.2.2.2.2.2.2.2.2.2.2.2.2.2.2.2.1, s.2.2.2.2.2.2.2.2.2.2.2.2.2.2.2.2.2.2.2.1, s.2.2.2.2.2.2.2.2.2.2.2.2.2.2.2.2.2.2.2.2.1, r4.slots.uses, r4.slots.used, r4.slots.free, r4.heap, r4.where_, l6))
       else
        ((ref06_Open N) r4.slots).bind fun b12 =>
        bif !b12 then
         some (.done (Clock.mk (0, 0) (Field.mk []) (Certs.mk 0 []) (Agenda.mk (Slots.mk [] [] []) [] []) [], 18))
        else
         ((ref07_Pushed N) r4 a2.1 a0.1).bind fun a13 =>
         (appendO l6 [(a0.1, a13.2)]).bind fun l14 =>
         some (.next (wrapF .i64 (s.1 + 1), s.2.1, s.2.2.1, s.2.2.2.1, s.2.2.2.2.1, s.2.2.2.2.2.1, s.2.2.2.2.2.2.1, s.2.2.2.2.2.2.2.1, s.2.2.2.2.2.2.2.2.1, s.2.2.2.2.2.2.2.2.2.1, s.2.2.2.2.2.2.2.2.2.2.1, s.2.2.2.2.2.2.2.2.2.2.2.1, s.2.2.2.2.2.2.2.2.2.2.2.2.1, s.2.2.2.2.2.2.2.2.2.2.2.2.2.1, s.2.2.2.2.2.2.2.2.2.2.2.2.2.2.1, s.2.2.2.2.2.2.2.2.2.2.2.2.2.2.2.1, s.2.2.2.2.2.2.2.2.2.2.2.2.2.2.2.2.1, s.2.2.2.2.2.2.2.2.2.2.2.2.2.2.2.2.2.1, s.2.2.2.2.2.2.2.2.2.2.2.2.2.2.2.2.2.2.1, s.2.2.2.2.2.2.2.2.2.2.2.2.2.2.2.2.2.2.2.1, s.2.2.2.2.2.2.2.2.2.2.2.2.2.2.2.2.2.2.2.2.1, a13.1.slots.uses, a13.1.slots.used, a13.1.slots.free, a13.1.heap, a13.1.where_, l14))
    else
     bif !a2.2 then
      some (.next (wrapF .i64 (s.1 + 1), s.2.1, s.2.2.1, s.2.2.2.1, s.2.2.2.2.1, s.2.2.2.2.2.1, s.2.2.2.2.2.2.1, s.2.2.2.2.2.2.2.1, s.2.2.2.2.2.2.2.2.1, s.2.2.2.2.2.2.2.2.2.1, s.2.2.2.2.2.2.2.2.2.2.1, s.2.2.2.2.2.2.2.2.2.2.2.1, s.2.2.2.2.2.2.2.2.2.2.2.2.1, s.2.2.2.2.2.2.2.2.2.2.2.2.2.1, s.2.2.2.2.2.2.2.2.2.2.2.2.2.2.1, s.2.2.2.2.2.2.2.2.2.2.2.2.2.2.2.1, s.2.2.2.2.2.2.2.2.2.2.2.2.2.2.2.2.1, s.2.2.2.2.2.2.2.2.2.2.2.2.2.2.2.2.2.1, s.2.2.2.2.2.2.2.2.2.2.2.2.2.2.2.2.2.2.1, s.2.2.2.2.2.2.2.2.2.2.2.2.2.2.2.2.2.2.2.1, s.2.2.2.2.2.2.2.2.2.2.2.2.2.2.2.2.2.2.2.2.1, r4.slots.uses, r4.slots.used, r4.slots.free, r4.heap, r4.where_, l6))
     else
      bif decide (0 ≤ n1) then
       some (.next (wrapF .i64 (s.1 + 1), s.2.1, s.2.2.1, s.2.2.2.1, s.2.2.2.2.1, s.2.2.2.2.2.1, s.2.2.2.2.2.2.1, s.2.2.2.2.2.2.2.1, s.2.2.2.2.2.2.2.2.1, s.2.2.2.2.2.2.2.2.2.1, s.2.2.2.2.2.2.2.2.2.2.1, s.2.2.2.2.2.2.2.2.2.2.2.1, s.2.2.2.2.2.2.2.2.2.2.2.2.1, s.2.2.2.2.2.2.2.2.2.2.2.2.2.1, s.2.2.2.2.2.2.2.2.2.2.2.2.2.2.1, s.2.2.2.2.2.2.2.2.2.2.2.2.2.2.2.1, s.2.2.2.2.2.2.2.2.2.2.2.2.2.2.2.2.1, s.2.2.2.2.2.2.2.2.2.2.2.2.2.2.2.2.2.1, s.2.2.2.2.2.2.2.2.2.2.2.2.2.2.2.2.2.2.1, s.2.2.2.2.2.2.2.2.2.2.2.2.2.2.2.2.2.2.2.1, s.2.2.2.2.2.2.2.2.2.2.2.2.2.2.2.2.2.2.2.2.1, r4.slots.uses, r4.slots.used, r4.slots.free, r4.heap, r4.where_, l6))
      else
       ((ref06_Open N) r4.slots).bind fun b15 =>
       bif !b15 then
        some (.done (Clock.mk (0, 0) (Field.mk []) (Certs.mk 0 []) (Agenda.mk (Slots.mk [] [] []) [] []) [], 18))
       else
        ((ref07_Pushed N) r4 a2.1 a0.1).bind fun a16 =>
        (appendO l6 [(a0.1, a16.2)]).bind fun l17 =>
        some (.next (wrapF .i64 (s.1 + 1), s.2.1, s.2.2.1, s.2.2.2.1, s.2.2.2.2.1, s.2.2.2.2.2.1, s.2.2.2.2.2.2.1, s.2.2.2.2.2.2.2.1, s.2.2.2.2.2.2.2.2.1, s.2.2.2.2.2.2.2.2.2.1, s.2.2.2.2.2.2.2.2.2.2.1, s.2.2.2.2.2.2.2.2.2.2.2.1, s.2.2.2.2.2.2.2.2.2.2.2.2.1, s.2.2.2.2.2.2.2.2.2.2.2.2.2.1, s.2.2.2.2.2.2.2.2.2.2.2.2.2.2.1, s.2.2.2.2.2.2.2.2.2.2.2.2.2.2.2.1, s.2.2.2.2.2.2.2.2.2.2.2.2.2.2.2.2.1, s.2.2.2.2.2.2.2.2.2.2.2.2.2.2.2.2.2.1, s.2.2.2.2.2.2.2.2.2.2.2.2.2.2.2.2.2.2.1, s.2.2.2.2.2.2.2.2.2.2.2.2.2.2.2.2.2.2.2.1, s.2.2.2.2.2.2.2.2.2.2.2.2.2.2.2.2.2.2.2.2.1, a16.1.slots.uses, a16.1.slots.used, a16.1.slots.free, a16.1.heap, a16.1.where_, l17))
   else
    bif !a2.2 then
     bif decide (0 ≤ n1) then
      (geti s.2.2.2.2.2.2.2.2.2.2.2.1 n1).bind fun a18 =>
      ((ref07_Removed N) (Agenda.mk (Slots.mk s.2.2.2.2.2.2.2.2.2.2.2.2.2.2.2.2.2.2.2.2.2.1 s.2.2.2.2.2.2.2.2.2.2.2.2.2.2.2.2.2.2.2.2.2.2.1 s.2.2.2.2.2.2.2.2.2.2.2.2.2.2.2.2.2.2.2.2.2.2.2.1) s.2.2.2.2.2.2.2.2.2.2.2.2.2.2.2.2.2.2.2.2.2.2.2.2.1 s.2.2.2.2.2.2.2.2.2.2.2.2.2.2.2.2.2.2.2.2.2.2.2.2.2.1) a18.2).bind fun r19 =>
      bif !a2.2 then
       some (.next (wrapF .i64 (s.1 + 1), s.2.1, s.2.2.1, s.2.2.2.1, s.2.2.2.2.1, s.2.2.2.2.2.1, s.2.2.2.2.2.2.1, s.2.2.2.2.2.2.2.1, s.2.2.2.2.2.2.2.2.1, s.2.2.2.2.2.2.2.2.2.1, s.2.2.2.2.2.2.2.2.2.2.1, s.2.2.2.2.2.2.2.2.2.2.2.1, s.2.2.2.2.2.2.2.2.2.2.2.2.1, s.2.2.2.2.2.2.2.2.2.2.2.2.2.1, s.2.2.2.2.2.2.2.2.2.2.2.2.2.2.1, s.2.2.2.2.2.2.2.2.2.2.2.2.2.2.2.1, s.2.2.2.2.2.2.2.2.2.2.2.2.2.2.2.2.1, s.2.2.2.2.2.2.2.2.2.2.2.2.2.2.2.2.2.1, s.2.2.2.2.2.2.2.2.2.2.2.2.2.2.2.2.2.2.1, s.2.2.2.2.2.2.2.2.2.2.2.2.2.2.2.2.2.2.2.1, s.2.2.2.2.2.2.2.2.2.2.2.2.2.2.2.2.2.2.2.2.1, r19.slots.uses, r19.slots.used, r19.slots.free, r19.heap, r19.where_, s.2.2.2.2.2.2.2.2.2.2.2.2.2.2.2.2.2.2.2.2.2.2.2.2.2.2))
      else
       bif decide (0 ≤ n1) then
        some (.next (wrapF .i64 (s.1 + 1), s.2.1, s.2.2.1, s.2.2.2.1, s.2.2.2.2.1, s.2.2.2.2.2.1, s.2.2.2.2.2.2.1, s.2.2.2.2.2.2.2.1, s.2.2.2.2.2.2.2.2.1, s.2.2.2.2.2.2.2.2.2.1, s.2.2.2.2.2.2.2.2.2.2.1, s.2.2.2.2.2.2.2.2.2.2.2.1, s.2.2.2.2.2.2.2.2.2.2.2.2.1, s.2.2.2.2.2.2.2.2.2.2.2.2.2.1, s.2.2.2.2.2.2.2.2.2.2.2.2.2.2.1, s.2.2.2.2.2.2.2.2.2.2.2.2.2.2.2.1, s.2.2.2.2.2.2.2.2.2.2.2.2.2.2.2.2.1, s.2.2.2.2.2.2.2.2.2.2.2.2.2.2.2.2.2.1, s.2.2.2.2.2.2.2.2.2.2.2.2.2.2.2.2.2.2.1, s.2.2.2.2.2.2.2.2.2.2.2.2.2.2.2.2.2.2.2.1, s.2.2.2.2.2.2.2.2.2.2.2.2.2.2.2.2.2.2.2.2.1, r19.slots.uses, r19.slots.used, r19.slots.free, r19.heap, r19.where_, s.2.2.2.2.2.2.2.2.2.2.2.2.2.2.2.2.2.2.2.2.2.2.2.2.2.2))
       else
        ((ref06_Open N) r19.slots).bind fun b20 =>
        bif !b20 then
         some (.done (Clock.mk (0, 0) (Field.mk []) (Certs.mk 0 []) (Agenda.mk (Slots.mk [] [] []) [] []) [], 18))
        else
         ((ref07_Pushed N) r19 a2.1 a0.1).bind fun a21 =>
         (appendO s.2.2.2.2.2.2.2.2.2.2.2.2.2.2.2.2.2.2.2.2.2.2.2.2.2.2 [(a0.1, a21.2)]).bind fun l22 =>
         some (.next (wrapF .i64 (s.1 + 1), s.2.1, s.2.2.1, s.2.2.2.1, s.2.2.2.2.1, s.2.2.2.2.2.1, s.2.2.2.2.2.2.1, s.2.2.2.2.2.2.2.1, s.2.2.2.2.2.2.2.2.1, s.2.2.2.2.2.2.2.2.2.1, s.2.2.2.2.2.2.2.2.2.2.1, s.2.2.2.2.2.2.2.2.2.2.2.1, s.2.2.2.2.2.2.2.2.2.2.2.2.1, s.2.2.2.2.2.2.2.2.2.2.2.2.2.1, s.2.2.2.2.2.2.2.2.2.2.2.2.2.2.1, s.2.2.2.2.2.2.2.2.2.2.2.2.2.2.2.1, s.2.2.2.2.2.2.2.2.2.2.2.2.2.2.2.2.1, s.2.2.2.2.2.2.2.2.2.2.2.2.2.2.2.2.2.1, s.2.2.2.2.2.2.2.2.2.2.2.2.2.2.2.2.2.2.1, s.2.2.2.2.2.2.2.2.2.2.2.2.2.2.2.2.2.2.2.1, s.2.2.2.2.2.2.2.2.2.2.2.2.2.2.2.2.2.2.2.2.1, a21.1.slots.uses, a21.1.slots.used, a21.1.slots.free, a21.1.heap, a21.1.where_, l22))
     else
      bif !a2.2 then
       some (.next (wrapF .i64 (s.1 + 1), s.2))
      else
       bif decide (0 ≤ n1) then
        some (.next (wrapF .i64 (s.1 + 1), s.2))
       else
        ((ref06_Open N) (Slots.mk s.2.2.2.2.2.2.2.2.2.2.2.2.2.2.2.2.2.2.2.2.2.1 s.2.2.2.2.2.2.2.2.2.2.2.2.2.2.2.2.2.2.2.2.2.2.1 s.2.2.2.2.2.2.2.2.2.2.2.2.2.2.2.2.2.2.2.2.2.2.2.1)).bind fun b23 =>
        bif !b23 then
         some (.done (Clock.mk (0, 0) (Field.mk []) (Certs.mk 0 []) (Agenda.mk (Slots.mk [] [] []) [] []) [], 18))
        else
         ((ref07_Pushed N) (Agenda.mk (Slots.mk s.2.2.2.2.2.2.2.2.2.2.2.2.2.2.2.2.2.2.2.2.2.1 s.2.2.2.2.2.2.2.2.2.2.2.2.2.2.2.2.2.2.2.2.2.2.1 s.2.2.2.2.2.2.2.2.2.2.2.2.2.2.2.2.2.2.2.2.2.2.2.1) s.2.2.2.2.2.2.2.2.2.2.2.2.2.2.2.2.2.2.2.2.2.2.2.2.1 s.2.2.2.2.2.2.2.2.2.2.2.2.2.2.2.2.2.2.2.2.2.2.2.2.2.1) a2.1 a0.1).bind fun a24 =>
         (appendO s.2.2.2.2.2.2.2.2.2.2.2.2.2.2.2.2.2.2.2.2.2.2.2.2.2.2 [(a0.1, a24.2)]).bind fun l25 =>
         some (.next (wrapF .i64 (s.1 + 1), s.2.1, s.2.2.1, s.2.2.2.1, s.2.2.2.2.1, s.2.2.2.2.2.1, s.2.2.2.2.2.2.1, s.2.2.2.2.2.2.2.1, s.2.2.2.2.2.2.2.2.1, s.2.2.2.2.2.2.2.2.2.1, s.2.2.2.2.2.2.2.2.2.2.1, s.2.2.2.2.2.2.2.2.2.2.2.1, s.2.2.2.2.2.2.2.2.2.2.2.2.1, s.2.2.2.2.2.2.2.2.2.2.2.2.2.1, s.2.2.2.2.2.2.2.2.2.2.2.2.2.2.1, s.2.2.2.2.2.2.2.2.2.2.2.2.2.2.2.1, s.2.2.2.2.2.2.2.2.2.2.2.2.2.2.2.2.1, s.2.2.2.2.2.2.2.2.2.2.2.2.2.2.2.2.2.1, s.2.2.2.2.2.2.2.2.2.2.2.2.2.2.2.2.2.2.1, s.2.2.2.2.2.2.2.2.2.2.2.2.2.2.2.2.2.2.2.1, s.2.2.2.2.2.2.2.2.2.2.2.2.2.2.2.2.2.2.2.2.1, a24.1.slots.uses, a24.1.slots.used, a24.1.slots.free, a24.1.heap, a24.1.where_, l25))
    else
     bif !a2.2 then
      some (.next (wrapF .i64 (s.1 + 1), s.2))
     else
      bif decide (0 ≤ n1) then
       some (.next (wrapF .i64 (s.1 + 1), s.2))
      else
       ((ref06_Open N) (Slots.mk s.2.2.2.2.2.2.2.2.2.2.2.2.2.2.2.2.2.2.2.2.2.1 s.2.2.2.2.2.2.2.2.2.2.2.2.2.2.2.2.2.2.2.2.2.2.1 s.2.2.2.2.2.2.2.2.2.2.2.2.2.2.2.2.2.2.2.2.2.2.2.1)).bind fun b26 =>
       bif !b26 then
        some (.done (Clock.mk (0, 0) (Field.mk []) (Certs.mk 0 []) (Agenda.mk (Slots.mk [] [] []) [] []) [], 18))
       else
        ((ref07_Pushed N) (Agenda.mk (Slots.mk s.2.2.2.2.2.2.2.2.2.2.2.2.2.2.2.2.2.2.2.2.2.1 s.2.2.2.2.2.2.2.2.2.2.2.2.2.2.2.2.2.2.2.2.2.2.1 s.2.2.2.2.2.2.2.2.2.2.2.2.2.2.2.2.2.2.2.2.2.2.2.1) s.2.2.2.2.2.2.2.2.2.2.2.2.2.2.2.2.2.2.2.2.2.2.2.2.1 s.2.2.2.2.2.2.2.2.2.2.2.2.2.2.2.2.2.2.2.2.2.2.2.2.2.1) a2.1 a0.1).bind fun a27 =>
        (appendO s.2.2.2.2.2.2.2.2.2.2.2.2.2.2.2.2.2.2.2.2.2.2.2.2.2.2 [(a0.1, a27.2)]).bind fun l28 =>
        some (.next (wrapF .i64 (s.1 + 1), s.2.1, s.2.2.1, s.2.2.2.1, s.2.2.2.2.1, s.2.2.2.2.2.1, s.2.2.2.2.2.2.1, s.2.2.2.2.2.2.2.1, s.2.2.2.2.2.2.2.2.1, s.2.2.2.2.2.2.2.2.2.1, s.2.2.2.2.2.2.2.2.2.2.1, s.2.2.2.2.2.2.2.2.2.2.2.1, s.2.2.2.2.2.2.2.2.2.2.2.2.1, s.2.2.2.2.2.2.2.2.2.2.2.2.2.1, s.2.2.2.2.2.2.2.2.2.2.2.2.2.2.1, s.2.2.2.2.2.2.2.2.2.2.2.2.2.2.2.1, s.2.2.2.2.2.2.2.2.2.2.2.2.2.2.2.2.1, s.2.2.2.2.2.2.2.2.2.2.2.2.2.2.2.2.2.1, s.2.2.2.2.2.2.2.2.2.2.2.2.2.2.2.2.2.2.1, s.2.2.2.2.2.2.2.2.2.2.2.2.2.2.2.2.2.2.2.1, s.2.2.2.2.2.2.2.2.2.2.2.2.2.2.2.2.2.2.2.2.1, a27.1.slots.uses, a27.1.slots.used, a27.1.slots.free, a27.1.heap, a27.1.where_, l28))
  else
   bif !a2.2 then
    bif decide (0 ≤ n1) then
     (geti s.2.2.2.2.2.2.2.2.2.2.2.1 n1).bind fun a29 =>
     ((ref07_Removed N) (Agenda.mk (Slots.mk s.2.2.2.2.2.2.2.2.2.2.2.2.2.2.2.2.2.2.2.2.2.1 s.2.2.2.2.2.2.2.2.2.2.2.2.2.2.2.2.2.2.2.2.2.2.1 s.2.2.2.2.2.2.2.2.2.2.2.2.2.2.2.2.2.2.2.2.2.2.2.1) s.2.2.2.2.2.2.2.2.2.2.2.2.2.2.2.2.2.2.2.2.2.2.2.2.1 s.2.2.2.2.2.2.2.2.2.2.2.2.2.2.2.2.2.2.2.2.2.2.2.2.2.1) a29.2).bind fun r30 =>
     bif !a2.2 then
      some (.next (wrapF .i64 (s.1 + 1), s.2.1, s.2.2.1, s.2.2.2.1, s.2.2.2.2.1, s.2.2.2.2.2.1, s.2.2.2.2.2.2.1, s.2.2.2.2.2.2.2.1, s.2.2.2.2.2.2.2.2.1, s.2.2.2.2.2.2.2.2.2.1, s.2.2.2.2.2.2.2.2.2.2.1, s.2.2.2.2.2.2.2.2.2.2.2.1, s.2.2.2.2.2.2.2.2.2.2.2.2.1, s.2.2.2.2.2.2.2.2.2.2.2.2.2.1, s.2.2.2.2.2.2.2.2.2.2.2.2.2.2.1, s.2.2.2.2.2.2.2.2.2.2.2.2.2.2.2.1, s.2.2.2.2.2.2.2.2.2.2.2.2.2.2.2.2.1, s.2.2.2.2.2.2.2.2.2.2.2.2.2.2.2.2.2.1, s.2.2.2.2.2.2.2.2.2.2.2.2.2.2.2.2.2.2.1, s.2.2.2.2.2.2.2.2.2.2.2.2.2.2.2.2.2.2.2.1, s.2.2.2.2.2.2.2.2.2.2.2.2.2.2.2.2.2.2.2.2.1, r30.slots.uses, r30.slots.used, r30.slots.free, r30.heap, r30.where_, s.2.2.2.2.2.2.2.2.2.2.2.2.2.2.2.2.2.2.2.2.2.2.2.2.2.2))
     else
      bif decide (0 ≤ n1) then
       some (.next (wrapF .i64 (s.1 + 1), s.2.1, s.2.2.1, s.2.2.2.1, s.2.2.2.2.1, s.2.2.2.2.2.1, s.2.2.2.2.2.2.1, s.2.2.2.2.2.2.2.1, s.2.2.2.2.2.2.2.2.1, s.2.2.2.2.2.2.2.2.2.1, s.2.2.2.2.2.2.2.2.2.2.1, s.2.2.2.2.2.2.2.2.2.2.2.1, s.2.2.2.2.2.2.2.2.2.2.2.2.1, s.2.2.2.2.2.2.2.2.2.2.2.2.2.1, s.2.2.2.2.2.2.2.2.2.2.2.2.2.2.1, s.2.2.2.2.2.2.2.2.2.2.2.2.2.2.2.1, s.2.2.2.2.2.2.2.2.2.2.2.2.2.2.2.2.1, s.2.2.2.2.2.2.2.2.2.2.2.2.2.2.2.2.2.1, s.2.2.2.2.2.2.2.2.2.2.2.2.2.2.2.2.2.2.1, s.2.2.2.2.2.2.2.2.2.2.2.2.2.2.2.2.2.2.2.1, s.2.2.2.2.2.2.2.2.2.2.2.2.2.2.2.2.2.2.2.2.1, r30.slots.uses, r30.slots.used, r30.slots.free, r30.heap, r30.where_, s.2.2.2.2.2.2.2.2.2.2.2.2.2.2.2.2.2.2.2.2.2.2.2.2.2.2))
      else
       ((ref06_Open N) r30.slots).bind fun b31 =>
       bif !b31 then
        some (.done (Clock.mk (0, 0) (Field.mk []) (Certs.mk 0 []) (Agenda.mk (Slots.mk [] [] []) [] []) [], 18))
       else
        ((ref07_Pushed N) r30 a2.1 a0.1).bind fun a32 =>
        (appendO s.2.2.2.2.2.2.2.2.2.2.2.2.2.2.2.2.2.2.2.2.2.2.2.2.2.2 [(a0.1, a32.2)]).bind fun l33 =>
        some (.next (wrapF .i64 (s.1 + 1), s.2.1, s.2.2.1, s.2.2.2.1, s.2.2.2.2.1, s.2.2.2.2.2.1, s.2.2.2.2.2.2.1, s.2.2.2.2.2.2.2.1, s.2.2.2.2.2.2.2.2.1, s.2.2.2.2.2.2.2.2.2.1, s.2.2.2.2.2.2.2.2.2.2.1, s.2.2.2.2.2.2.2.2.2.2.2.1, s.2.2.2.2.2.2.2.2.2.2.2.2.1, s.2.2.2.2.2.2.2.2.2.2.2.2.2.1, s.2.2.2.2.2.2.2.2.2.2.2.2.2.2.1, s.2.2.2.2.2.2.2.2.2.2.2.2.2.2.2.1, s.2.2.2.2.2.2.2.2.2.2.2.2.2.2.2.2.1, s.2.2.2.2.2.2.2.2.2.2.2.2.2.2.2.2.2.1, s.2.2.2.2.2.2.2.2.2.2.2.2.2.2.2.2.2.2.1, s.2.2.2.2.2.2.2.2.2.2.2.2.2.2.2.2.2.2.2.1, s.2.2.2.2.2.2.2.2.2.2.2.2.2.2.2.2.2.2.2.2.1, a32.1.slots.uses, a32.1.slots.used, a32.1.slots.free, a32.1.heap, a32.1.where_, l33))
    else
     bif !a2.2 then
      some (.next (wrapF .i64 (s.1 + 1), s.2))
     else
      bif decide (0 ≤ n1) then
       some (.next (wrapF .i64 (s.1 + 1), s.2))
      else
       ((ref06_Open N) (Slots.mk s.2.2.2.2.2.2.2.2.2.2.2.2.2.2.2.2.2.2.2.2.2.1 s.2.2.2.2.2.2.2.2.2.2.2.2.2.2.2.2.2.2.2.2.2.2.1 s.2.2.2.2.2.2.2.2.2.2.2.2.2.2.2.2.2.2.2.2.2.2.2.1)).bind fun b34 =>
       bif !b34 then
        some (.done (Clock.mk (0, 0) (Field.mk []) (Certs.mk 0 []) (Agenda.mk (Slots.mk [] [] []) [] []) [], 18))
       else
        ((ref07_Pushed N) (Agenda.mk (Slots.mk s.2.2.2.2.2.2.2.2.2.2.2.2.2.2.2.2.2.2.2.2.2.1 s.2.2.2.2.2.2.2.2.2.2.2.2.2.2.2.2.2.2.2.2.2.2.1 s.2.2.2.2.2.2.2.2.2.2.2.2.2.2.2.2.2.2.2.2.2.2.2.1) s.2.2.2.2.2.2.2.2.2.2.2.2.2.2.2.2.2.2.2.2.2.2.2.2.1 s.2.2.2.2.2.2.2.2.2.2.2.2.2.2.2.2.2.2.2.2.2.2.2.2.2.1) a2.1 a0.1).bind fun a35 =>
        (appendO s.2.2.2.2.2.2.2.2.2.2.2.2.2.2.2.2.2.2.2.2.2.2.2.2.2.2 [(a0.1, a35.2)]).bind fun l36 =>
        some (.next (wrapF .i64 (s.1 + 1), s.2.1, s.2.2.1, s.2.2.2.1, s.2.2.2.2.1, s.2.2.2.2.2.1, s.2.2.2.2.2.2.1, s.2.2.2.2.2.2.2.1, s.2.2.2.2.2.2.2.2.1, s.2.2.2.2.2.2.2.2.2.1, s.2.2.2.2.2.2.2.2.2.2.1, s.2.2.2.2.2.2.2.2.2.2.2.1, s.2.2.2.2.2.2.2.2.2.2.2.2.1, s.2.2.2.2.2.2.2.2.2.2.2.2.2.1, s.2.2.2.2.2.2.2.2.2.2.2.2.2.2.1, s.2.2.2.2.2.2.2.2.2.2.2.2.2.2.2.1, s.2.2.2.2.2.2.2.2.2.2.2.2.2.2.2.2.1, s.2.2.2.2.2.2.2.2.2.2.2.2.2.2.2.2.2.1, s.2.2.2.2.2.2.2.2.2.2.2.2.2.2.2.2.2.2.1, s.2.2.2.2.2.2.2.2.2.2.2.2.2.2.2.2.2.2.2.1, s.2.2.2.2.2.2.2.2.2.2.2.2.2.2.2.2.2.2.2.2.1, a35.1.slots.uses, a35.1.slots.used, a35.1.slots.free, a35.1.heap, a35.1.where_, l36))
   else
    bif !a2.2 then
     some (.next (wrapF .i64 (s.1 + 1), s.2))
    else
     bif decide (0 ≤ n1) then
      some (.next (wrapF .i64 (s.1 + 1), s.2))
     else
      ((ref06_Open N) (Slots.mk s.2.2.2.2.2.2.2.2.2.2.2.2.2.2.2.2.2.2.2.2.2.1 s.2.2.2.2.2.2.2.2.2.2.2.2.2.2.2.2.2.2.2.2.2.2.1 s.2.2.2.2.2.2.2.2.2.2.2.2.2.2.2.2.2.2.2.2.2.2.2.1)).bind fun b37 =>
      bif !b37 then
       some (.done (Clock.mk (0, 0) (Field.mk []) (Certs.mk 0 []) (Agenda.mk (Slots.mk [] [] []) [] []) [], 18))
      else
       ((ref07_Pushed N) (Agenda.mk (Slots.mk s.2.2.2.2.2.2.2.2.2.2.2.2.2.2.2.2.2.2.2.2.2.1 s.2.2.2.2.2.2.2.2.2.2.2.2.2.2.2.2.2.2.2.2.2.2.1 s.2.2.2.2.2.2.2.2.2.2.2.2.2.2.2.2.2.2.2.2.2.2.2.1) s.2.2.2.2.2.2.2.2.2.2.2.2.2.2.2.2.2.2.2.2.2.2.2.2.1 s.2.2.2.2.2.2.2.2.2.2.2.2.2.2.2.2.2.2.2.2.2.2.2.2.2.1) a2.1 a0.1).bind fun a38 =>
       (appendO s.2.2.2.2.2.2.2.2.2.2.2.2.2.2.2.2.2.2.2.2.2.2.2.2.2.2 [(a0.1, a38.2)]).bind fun l39 =>
       some (.next (wrapF .i64 (s.1 + 1), s.2.1, s.2.2.1, s.2.2.2.1, s.2.2.2.2.1, s.2.2.2.2.2.1, s.2.2.2.2.2.2.1, s.2.2.2.2.2.2.2.1, s.2.2.2.2.2.2.2.2.1, s.2.2.2.2.2.2.2.2.2.1, s.2.2.2.2.2.2.2.2.2.2.1, s.2.2.2.2.2.2.2.2.2.2.2.1, s.2.2.2.2.2.2.2.2.2.2.2.2.1, s.2.2.2.2.2.2.2.2.2.2.2.2.2.1, s.2.2.2.2.2.2.2.2.2.2.2.2.2.2.1, s.2.2.2.2.2.2.2.2.2.2.2.2.2.2.2.1, s.2.2.2.2.2.2.2.2.2.2.2.2.2.2.2.2.1, s.2.2.2.2.2.2.2.2.2.2.2.2.2.2.2.2.2.1, s.2.2.2.2.2.2.2.2.2.2.2.2.2.2.2.2.2.2.1, s.2.2.2.2.2.2.2.2.2.2.2.2.2.2.2.2.2.2.2.1, s.2.2.2.2.2.2.2.2.2.2.2.2.2.2.2.2.2.2.2.2.1, a38.1.slots.uses, a38.1.slots.used, a38.1.slots.free, a38.1.heap, a38.1.where_, l39))
 else
  some (.done (Clock.mk (s.2.2.2.2.2.2.2.2.2.2.2.2.2.2.2.2.1, s.2.2.2.2.2.2.2.2.2.2.2.2.2.2.2.2.2.1) (Field.mk s.2.2.2.2.2.2.2.2.2.2.2.2.2.2.2.2.2.2.1) (Certs.mk s.2.2.2.2.2.2.2.2.2.2.2.2.2.2.2.2.2.2.2.1 s.2.2.2.2.2.2.2.2.2.2.2.2.2.2.2.2.2.2.2.2.1) (Agenda.mk (Slots.mk s.2.2.2.2.2.2.2.2.2.2.2.2.2.2.2.2.2.2.2.2.2.1 s.2.2.2.2.2.2.2.2.2.2.2.2.2.2.2.2.2.2.2.2.2.2.1 s.2.2.2.2.2.2.2.2.2.2.2.2.2.2.2.2.2.2.2.2.2.2.2.1) s.2.2.2.2.2.2.2.2.2.2.2.2.2.2.2.2.2.2.2.2.2.2.2.2.1 s.2.2.2.2.2.2.2.2.2.2.2.2.2.2.2.2.2.2.2.2.2.2.2.2.2.1) s.2.2.2.2.2.2.2.2.2.2.2.2.2.2.2.2.2.2.2.2.2.2.2.2.2.2, 0))
noncomputable def ref09_Altered (N : Nat) (p0 : Clock) (p1 : Field) : Option (Clock × Int) :=
 ((ref09_Twin N) p0).bind fun r0 =>
 ((ref03_Twin N) p1).bind fun r1 =>
 (loopN N) (ref09_Altered_l1 N) (0, p0.now.1, p0.now.2, p0.field.points, p0.certs.next_, p0.certs.list, p0.agenda.slots.uses, p0.agenda.slots.used, p0.agenda.slots.free, p0.agenda.heap, p0.agenda.where_, p0.due, p1.points, 0, 0, 0, r0.now.1, r0.now.2, r1.points, r0.certs.next_, r0.certs.list, r0.agenda.slots.uses, r0.agenda.slots.used, r0.agenda.slots.free, r0.agenda.heap, r0.agenda.where_, [])
noncomputable def c72 (N : Nat) : Con := ⟨Args.cons (Arg.agg Clock_c) (Args.one (Arg.agg Field_c)), Arg.tup (Args.cons (Arg.agg Clock_c) (Args.one (Arg.int .i64))), fun a => (ref09_Altered N) a.1 a.2, .frz, false⟩
theorem c72_ok (N : Nat) : ConOK tab 72 (c72 N) := ConOK.of tab_72 (cx := (mkCx (loopL N) [(25, (c25 N)), (25, (c25p N)), (46, (c46 N)), (46, (c46p N)), (102, (c102 N)), (104, (c104 N)), (105, (c105 N)), (103, (c103 N)), (106, (c106 N)), (107, (c107 N))] [] [] [])) rfl (CxOK.make ⟨(c25_ok N), (c25p_ok N), (c46_ok N), (c46p_ok N), (c102_ok N), (c104_ok N), (c105_ok N), (c103_ok N), (c106_ok N), (c107_ok N), trivial⟩ trivial trivial) (fun a => by kernel_rfl)
noncomputable def ref08_Has_l1 (_ : Nat) (s : (Int × Int × (List (Int × Int × Int)) × Int × Int)) : Option (Step (Int × Int × (List (Int × Int × Int)) × Int × Int) Bool) :=
 bif decide (s.1 < (Int.ofNat s.2.2.1.length)) then
  (geti s.2.2.1 s.1).bind fun a0 =>
  bif (a0.2.1 == s.2.2.2.1) && (a0.2.2 == s.2.2.2.2) then
   some (.done true)
  else
   some (.next (wrapF .i64 (s.1 + 1), s.2))
 else
  some (.done false)
noncomputable def ref08_Has (N : Nat) (p0 : Certs) (p1 : Int × Int) : Option Bool :=
 (loopN N) (ref08_Has_l1 N) (0, p0.next_, p0.list, p1)
noncomputable def c73 (N : Nat) : Con := ⟨Args.cons (Arg.agg Certs_c) (Args.one (Arg.agg (Cod.row kii))), Arg.bool, fun a => (ref08_Has N) a.1 a.2, .pure, false⟩
theorem c73_ok (N : Nat) : ConOK tab 73 (c73 N) := ConOK.of tab_73 (cx := (mkCx (loopL N) [] [] [] [])) rfl (CxOK.make trivial trivial trivial) (fun a => by kernel_rfl)
noncomputable def ref08_Cert (_ : Nat) (p0 : Int × Int) : Option Bool :=
 bif decide (0 ≤ p0.1) then
  bif decide (p0.1 ≤ 65535) then
   bif decide (0 ≤ p0.2) then
    bif decide (p0.2 ≤ 65535) then
     some (p0.1 != p0.2)
    else
     some false
   else
    some false
  else
   some false
 else
  some false
noncomputable def c139 (N : Nat) : Con := ⟨Args.one (Arg.agg (Cod.row kii)), Arg.bool, fun a => (ref08_Cert N) a, .pure, false⟩
theorem c139_ok (N : Nat) : ConOK tab 139 (c139 N) := ConOK.of tab_139 (cx := (mkCx (loopL N) [] [] [] [])) rfl (CxOK.make trivial trivial trivial) (fun a => by kernel_rfl)
noncomputable def ref08_Check_l1 (_ : Nat) (s : (Int × Int × Int × (List (Int × Int × Int)) × Int × Int × Int)) : Option (Step (Int × Int × Int × (List (Int × Int × Int)) × Int × Int × Int) (Step (Int × Int × (List (Int × Int × Int))) Int)) :=
 bif decide (s.2.1 < s.1) then
  (geti s.2.2.2.1 s.2.1).bind fun a0 =>
  bif (a0.2.1 == s.2.2.2.2.2.1) && (a0.2.2 == s.2.2.2.2.2.2) then
   some (.done (.done 8))
  else
   some (.next (s.1, wrapF .i64 (s.2.1 + 1), s.2.2))
 else
  some (.done (.next (wrapF .i64 (s.1 + 1), s.2.2.1, s.2.2.2.1)))
noncomputable def ref08_Check_l2 (N : Nat) (s : (Int × Int × (List (Int × Int × Int)))) : Option (Step (Int × Int × (List (Int × Int × Int))) Int) :=
 bif decide (s.1 < (Int.ofNat s.2.2.length)) then
  (geti s.2.2 s.1).bind fun a0 =>
  ((ref08_Cert N) a0.2).bind fun b1 =>
  bif !b1 then
   some (.done 8)
  else
   bif decide (a0.1 < 0) then
    some (.done 8)
   else
    bif decide (s.2.1 ≤ a0.1) then
     some (.done 8)
    else
     bif decide (0 < s.1) then
      (geti s.2.2 (wrapF .i64 (s.1 - 1))).bind fun a2 =>
      bif decide (a0.1 ≤ a2.1) then
       some (.done 8)
      else
       (loopN N) (ref08_Check_l1 N) (s.1, 0, s.2.1, s.2.2, a0)
     else
      (loopN N) (ref08_Check_l1 N) (s.1, 0, s.2.1, s.2.2, a0)
 else
  some (.done 0)
noncomputable def ref08_Check (N : Nat) (p0 : Certs) : Option Int :=
 bif decide (200 < (Int.ofNat p0.list.length)) then
  some 8
 else
  bif decide (p0.next_ < 0) then
   some 8
  else
   bif decide (1000000 < p0.next_) then
    some 8
   else
    (loopN N) (ref08_Check_l2 N) (0, p0.next_, p0.list)
noncomputable def c138 (N : Nat) : Con := ⟨Args.one (Arg.agg Certs_c), Arg.int .i64, fun a => (ref08_Check N) a, .pure, false⟩
theorem c138_ok (N : Nat) : ConOK tab 138 (c138 N) := ConOK.of tab_138 (cx := (mkCx (loopL N) [(139, (c139 N))] [] [] [])) rfl (CxOK.make ⟨(c139_ok N), trivial⟩ trivial trivial) (fun a => by kernel_rfl)
noncomputable def ref08_Add (N : Nat) (p0 : Certs) (p1 : Int × Int) : Option (Certs × Int × Int) :=
 ((ref08_Check N) p0).bind fun n0 =>
 bif n0 != 0 then
  some (Certs.mk 0 [], 0, 8)
 else
  ((ref08_Cert N) p1).bind fun b1 =>
  bif !b1 then
   some (Certs.mk 0 [], 0, 8)
  else
   ((ref08_Has N) p0 p1).bind fun b2 =>
   bif b2 then
    some (Certs.mk 0 [], 0, 14)
   else
    bif (Int.ofNat p0.list.length) == 200 then
     some (Certs.mk 0 [], 0, 18)
    else
     bif p0.next_ == 1000000 then
      some (Certs.mk 0 [], 0, 18)
     else
      ((ref08_Twin N) p0).bind fun r3 =>
      (appendO r3.list [(p0.next_, p1)]).bind fun l4 =>
      some (Certs.mk (wrapF .i64 (r3.next_ + 1)) l4, p0.next_, 0)
noncomputable def c108 (N : Nat) : Con := ⟨Args.cons (Arg.agg Certs_c) (Args.one (Arg.agg (Cod.row kii))), Arg.tup (Args.cons (Arg.agg Certs_c) (Args.cons (Arg.int .i64) (Args.one (Arg.int .i64)))), fun a => (ref08_Add N) a.1 a.2, .frz, false⟩
theorem c108_ok (N : Nat) : ConOK tab 108 (c108 N) := ConOK.of tab_108 (cx := (mkCx (loopL N) [(138, (c138 N)), (139, (c139 N)), (73, (c73 N)), (48, (c48 N)), (48, (c48p N))] [] [] [])) rfl (CxOK.make ⟨(c138_ok N), (c139_ok N), (c73_ok N), (c48_ok N), (c48p_ok N), trivial⟩ trivial trivial) (fun a => by kernel_rfl)
noncomputable def ref09_Added (N : Nat) (p0 : Clock) (p1 : Int × Int) : Option (Clock × Int × Int) :=
 ((ref08_Add N) p0.certs p1).bind fun a0 =>
 bif a0.2.2 != 0 then
  some (Clock.mk (0, 0) (Field.mk []) (Certs.mk 0 []) (Agenda.mk (Slots.mk [] [] []) [] []) [], 0, a0.2.2)
 else
  ((ref09_Twin N) p0).bind fun r1 =>
  ((ref09_When N) p0.field p1 p0.now).bind fun a2 =>
  bif !a2.2 then
   some (Clock.mk r1.now r1.field a0.1 r1.agenda r1.due, a0.2.1, 0)
  else
   ((ref06_Open N) p0.agenda.slots).bind fun b3 =>
   bif !b3 then
    some (Clock.mk (0, 0) (Field.mk []) (Certs.mk 0 []) (Agenda.mk (Slots.mk [] [] []) [] []) [], 0, 18)
   else
    ((ref07_Pushed N) p0.agenda a2.1 a0.2.1).bind fun a4 =>
    (appendO r1.due [(a0.2.1, a4.2)]).bind fun l5 =>
    some (Clock.mk r1.now r1.field a0.1 a4.1 l5, a0.2.1, 0)
noncomputable def c74 (N : Nat) : Con := ⟨Args.cons (Arg.agg Clock_c) (Args.one (Arg.agg (Cod.row kii))), Arg.tup (Args.cons (Arg.agg Clock_c) (Args.cons (Arg.int .i64) (Args.one (Arg.int .i64)))), fun a => (ref09_Added N) a.1 a.2, .frz, false⟩
theorem c74_ok (N : Nat) : ConOK tab 74 (c74 N) := ConOK.of tab_74 (cx := (mkCx (loopL N) [(108, (c108 N)), (25, (c25 N)), (25, (c25p N)), (104, (c104 N)), (106, (c106 N)), (107, (c107 N))] [] [] [])) rfl (CxOK.make ⟨(c108_ok N), (c25_ok N), (c25p_ok N), (c104_ok N), (c106_ok N), (c107_ok N), trivial⟩ trivial trivial) (fun a => by kernel_rfl)
noncomputable def ref13_Renewed_l1 (N : Nat) (s : ((List (Int × Int)) × Int × Int × Int × Int × Int × Int × (List (Int × Int × Int)) × Int × (List (Int × Int × Int)) × (List Int) × (List Bool) × (List Int) × (List (Int × Int × Int × Int × Int)) × (List Int) × (List (Int × Int × Int)))) : Option (Step ((List (Int × Int)) × Int × Int × Int × Int × Int × Int × (List (Int × Int × Int)) × Int × (List (Int × Int × Int)) × (List Int) × (List Bool) × (List Int) × (List (Int × Int × Int × Int × Int)) × (List Int) × (List (Int × Int × Int))) (Step ((List (Int × Int)) × Int × Int × Int × (List (Int × Int × Int)) × Int × (List (Int × Int × Int)) × (List Int) × (List Bool) × (List Int) × (List (Int × Int × Int × Int × Int)) × (List Int) × (List (Int × Int × Int)) × (List (Int × Int × Int)) × Int × Int × Int × Int × Int × (List (Int × Int × Int)) × Int × (List (Int × Int × Int)) × (List Int) × (List Bool) × (List Int) × (List (Int × Int × Int × Int × Int)) × (List Int) × (List (Int × Int × Int))) (Clock × Int))) :=
 bif decide (s.2.1 < (Int.ofNat s.1.length)) then
  (geti s.1 s.2.1).bind fun a0 =>
  ((ref08_Has N) (Certs.mk s.2.2.2.2.2.2.2.2.1 s.2.2.2.2.2.2.2.2.2.1) a0).bind fun b1 =>
  bif b1 then
   some (.next (s.1, wrapF .i64 (s.2.1 + 1), s.2.2))
  else
   (geti s.1 s.2.1).bind fun a2 =>
   ((ref09_Added N) (Clock.mk (s.2.2.2.2.2.1, s.2.2.2.2.2.2.1) (Field.mk s.2.2.2.2.2.2.2.1) (Certs.mk s.2.2.2.2.2.2.2.2.1 s.2.2.2.2.2.2.2.2.2.1) (Agenda.mk (Slots.mk s.2.2.2.2.2.2.2.2.2.2.1 s.2.2.2.2.2.2.2.2.2.2.2.1 s.2.2.2.2.2.2.2.2.2.2.2.2.1) s.2.2.2.2.2.2.2.2.2.2.2.2.2.1 s.2.2.2.2.2.2.2.2.2.2.2.2.2.2.1) s.2.2.2.2.2.2.2.2.2.2.2.2.2.2.2) a2).bind fun a3 =>
   bif a3.2.2 != 0 then
    some (.done (.done (Clock.mk (0, 0) (Field.mk []) (Certs.mk 0 []) (Agenda.mk (Slots.mk [] [] []) [] []) [], a3.2.2)))
   else
    some (.next (s.1, wrapF .i64 (s.2.1 + 1), s.2.2.1, s.2.2.2.1, s.2.2.2.2.1, a3.1.now.1, a3.1.now.2, a3.1.field.points, a3.1.certs.next_, a3.1.certs.list, a3.1.agenda.slots.uses, a3.1.agenda.slots.used, a3.1.agenda.slots.free, a3.1.agenda.heap, a3.1.agenda.where_, a3.1.due))
 else
  some (.done (.done (Clock.mk (s.2.2.2.2.2.1, s.2.2.2.2.2.2.1) (Field.mk s.2.2.2.2.2.2.2.1) (Certs.mk s.2.2.2.2.2.2.2.2.1 s.2.2.2.2.2.2.2.2.2.1) (Agenda.mk (Slots.mk s.2.2.2.2.2.2.2.2.2.2.1 s.2.2.2.2.2.2.2.2.2.2.2.1 s.2.2.2.2.2.2.2.2.2.2.2.2.1) s.2.2.2.2.2.2.2.2.2.2.2.2.2.1 s.2.2.2.2.2.2.2.2.2.2.2.2.2.2.1) s.2.2.2.2.2.2.2.2.2.2.2.2.2.2.2, 0)))
noncomputable def ref13_Renewed_l2 (N : Nat) (s : ((List (Int × Int)) × Int × Int × Int × (List (Int × Int × Int)) × Int × (List (Int × Int × Int)) × (List Int) × (List Bool) × (List Int) × (List (Int × Int × Int × Int × Int)) × (List Int) × (List (Int × Int × Int)) × (List (Int × Int × Int)) × Int × Int × Int × Int × Int × (List (Int × Int × Int)) × Int × (List (Int × Int × Int)) × (List Int) × (List Bool) × (List Int) × (List (Int × Int × Int × Int × Int)) × (List Int) × (List (Int × Int × Int)))) : Option (Step ((List (Int × Int)) × Int × Int × Int × (List (Int × Int × Int)) × Int × (List (Int × Int × Int)) × (List Int) × (List Bool) × (List Int) × (List (Int × Int × Int × Int × Int)) × (List Int) × (List (Int × Int × Int)) × (List (Int × Int × Int)) × Int × Int × Int × Int × Int × (List (Int × Int × Int)) × Int × (List (Int × Int × Int)) × (List Int) × (List Bool) × (List Int) × (List (Int × Int × Int × Int × Int)) × (List Int) × (List (Int × Int × Int))) (Clock × Int)) :=
 bif decide (s.2.1 < (Int.ofNat s.2.2.2.2.2.2.1.length)) then
  (geti s.2.2.2.2.2.2.1 s.2.1).bind fun a0 =>
  ((ref13_In N) s.1 a0.2).bind fun b1 =>
  bif !b1 then
   (geti s.2.2.2.2.2.2.1 s.2.1).bind fun a2 =>
   ((ref09_Gone N) (Clock.mk (s.2.2.2.2.2.2.2.2.2.2.2.2.2.2.2.2.2.1, s.2.2.2.2.2.2.2.2.2.2.2.2.2.2.2.2.2.2.1) (Field.mk s.2.2.2.2.2.2.2.2.2.2.2.2.2.2.2.2.2.2.2.1) (Certs.mk s.2.2.2.2.2.2.2.2.2.2.2.2.2.2.2.2.2.2.2.2.1 s.2.2.2.2.2.2.2.2.2.2.2.2.2.2.2.2.2.2.2.2.2.1) (Agenda.mk (Slots.mk s.2.2.2.2.2.2.2.2.2.2.2.2.2.2.2.2.2.2.2.2.2.2.1 s.2.2.2.2.2.2.2.2.2.2.2.2.2.2.2.2.2.2.2.2.2.2.2.1 s.2.2.2.2.2.2.2.2.2.2.2.2.2.2.2.2.2.2.2.2.2.2.2.2.1) s.2.2.2.2.2.2.2.2.2.2.2.2.2.2.2.2.2.2.2.2.2.2.2.2.2.1 s.2.2.2.2.2.2.2.2.2.2.2.2.2.2.2.2.2.2.2.2.2.2.2.2.2.2.1) s.2.2.2.2.2.2.2.2.2.2.2.2.2.2.2.2.2.2.2.2.2.2.2.2.2.2.2) a2.1).bind fun r3 =>
   some (.next (s.1, wrapF .i64 (s.2.1 + 1), s.2.2.1, s.2.2.2.1, s.2.2.2.2.1, s.2.2.2.2.2.1, s.2.2.2.2.2.2.1, s.2.2.2.2.2.2.2.1, s.2.2.2.2.2.2.2.2.1, s.2.2.2.2.2.2.2.2.2.1, s.2.2.2.2.2.2.2.2.2.2.1, s.2.2.2.2.2.2.2.2.2.2.2.1, s.2.2.2.2.2.2.2.2.2.2.2.2.1, s.2.2.2.2.2.2.2.2.2.2.2.2.2.1, s.2.2.2.2.2.2.2.2.2.2.2.2.2.2.1, s.2.2.2.2.2.2.2.2.2.2.2.2.2.2.2.1, s.2.2.2.2.2.2.2.2.2.2.2.2.2.2.2.2.1, r3.now.1, r3.now.2, r3.field.points, r3.certs.next_, r3.certs.list, r3.agenda.slots.uses, r3.agenda.slots.used, r3.agenda.slots.free, r3.agenda.heap, r3.agenda.where_, r3.due))
  else
   some (.next (s.1, wrapF .i64 (s.2.1 + 1), s.2.2))
 else
  ((ref03_Same N) (Field.mk s.2.2.2.2.2.2.2.2.2.2.2.2.2.2.2.2.2.2.2.1) (Field.mk s.2.2.2.2.2.2.2.2.2.2.2.2.2.1)).bind fun b4 =>
  bif !b4 then
   ((ref09_Altered N) (Clock.mk (s.2.2.2.2.2.2.2.2.2.2.2.2.2.2.2.2.2.1, s.2.2.2.2.2.2.2.2.2.2.2.2.2.2.2.2.2.2.1) (Field.mk s.2.2.2.2.2.2.2.2.2.2.2.2.2.2.2.2.2.2.2.1) (Certs.mk s.2.2.2.2.2.2.2.2.2.2.2.2.2.2.2.2.2.2.2.2.1 s.2.2.2.2.2.2.2.2.2.2.2.2.2.2.2.2.2.2.2.2.2.1) (Agenda.mk (Slots.mk s.2.2.2.2.2.2.2.2.2.2.2.2.2.2.2.2.2.2.2.2.2.2.1 s.2.2.2.2.2.2.2.2.2.2.2.2.2.2.2.2.2.2.2.2.2.2.2.1 s.2.2.2.2.2.2.2.2.2.2.2.2.2.2.2.2.2.2.2.2.2.2.2.2.1) s.2.2.2.2.2.2.2.2.2.2.2.2.2.2.2.2.2.2.2.2.2.2.2.2.2.1 s.2.2.2.2.2.2.2.2.2.2.2.2.2.2.2.2.2.2.2.2.2.2.2.2.2.2.1) s.2.2.2.2.2.2.2.2.2.2.2.2.2.2.2.2.2.2.2.2.2.2.2.2.2.2.2) (Field.mk s.2.2.2.2.2.2.2.2.2.2.2.2.2.1)).bind fun a5 =>
   bif a5.2 != 0 then
    some (.done (Clock.mk (0, 0) (Field.mk []) (Certs.mk 0 []) (Agenda.mk (Slots.mk [] [] []) [] []) [], a5.2))
   else
    (loopN N) (ref13_Renewed_l1 N) (s.1, 0, s.2.2.2.2.2.2.2.2.2.2.2.2.2.2.1, s.2.2.2.2.2.2.2.2.2.2.2.2.2.2.2.1, s.2.2.2.2.2.2.2.2.2.2.2.2.2.2.2.2.1, a5.1.now.1, a5.1.now.2, a5.1.field.points, a5.1.certs.next_, a5.1.certs.list, a5.1.agenda.slots.uses, a5.1.agenda.slots.used, a5.1.agenda.slots.free, a5.1.agenda.heap, a5.1.agenda.where_, a5.1.due)
  else
   (loopN N) (ref13_Renewed_l1 N) (s.1, 0, s.2.2.2.2.2.2.2.2.2.2.2.2.2.2)
noncomputable def ref13_Renewed (N : Nat) (p0 : Clock) (p1 : Field) (p2 : List (Int × Int)) : Option (Clock × Int) :=
 ((ref09_Twin N) p0).bind fun r0 =>
 (loopN N) (ref13_Renewed_l2 N) (p2, 0, p0.now.1, p0.now.2, p0.field.points, p0.certs.next_, p0.certs.list, p0.agenda.slots.uses, p0.agenda.slots.used, p0.agenda.slots.free, p0.agenda.heap, p0.agenda.where_, p0.due, p1.points, 0, 0, 0, r0.now.1, r0.now.2, r0.field.points, r0.certs.next_, r0.certs.list, r0.agenda.slots.uses, r0.agenda.slots.used, r0.agenda.slots.free, r0.agenda.heap, r0.agenda.where_, r0.due)
noncomputable def c44 (N : Nat) : Con := ⟨Args.cons (Arg.agg Clock_c) (Args.cons (Arg.agg Field_c) (Args.one (Arg.sl kii))), Arg.tup (Args.cons (Arg.agg Clock_c) (Args.one (Arg.int .i64))), fun a => (ref13_Renewed N) a.1 a.2.1 a.2.2, .frz, false⟩
theorem c44_ok (N : Nat) : ConOK tab 44 (c44 N) := ConOK.of tab_44 (cx := (mkCx (loopL N) [(25, (c25 N)), (25, (c25p N)), (70, (c70 N)), (71, (c71 N)), (54, (c54 N)), (72, (c72 N)), (73, (c73 N)), (74, (c74 N))] [] [] [])) rfl (CxOK.make ⟨(c25_ok N), (c25p_ok N), (c70_ok N), (c71_ok N), (c54_ok N), (c72_ok N), (c73_ok N), (c74_ok N), trivial⟩ trivial trivial) (fun a => by kernel_rfl)
noncomputable def ref17_Settled (N : Nat) (p0 : Clock) (p1 : Field) : Option (Heater × Int) :=
 ((ref17_Made N) p1 p0.now).bind fun r0 =>
 ((ref17_Of N) r0).bind fun l1 =>
 ((ref13_Renewed N) p0 p1 l1).bind fun a2 =>
 bif a2.2 != 0 then
  some (Heater.mk (Clock.mk (0, 0) (Field.mk []) (Certs.mk 0 []) (Agenda.mk (Slots.mk [] [] []) [] []) []) (Tree.mk 0 []), a2.2)
 else
  some (Heater.mk a2.1 r0, 0)
noncomputable def c23 (N : Nat) : Con := ⟨Args.cons (Arg.agg Clock_c) (Args.one (Arg.agg Field_c)), Arg.tup (Args.cons (Arg.agg Heater_c) (Args.one (Arg.int .i64))), fun a => (ref17_Settled N) a.1 a.2, .frz, false⟩
theorem c23_ok (N : Nat) : ConOK tab 23 (c23 N) := ConOK.of tab_23 (cx := (mkCx (loopL N) [(43, (c43 N)), (45, (c45 N)), (44, (c44 N))] [] [] [])) rfl (CxOK.make ⟨(c43_ok N), (c45_ok N), (c44_ok N), trivial⟩ trivial trivial) (fun a => by kernel_rfl)
noncomputable def ref17_Build (N : Nat) (p0 : Field) (p1 : Int × Int) : Option (Heater × Int) :=
 ((ref03_Check N) p0).bind fun n0 =>
 bif n0 != 0 then
  ((ref03_Check N) p0).bind fun n1 =>
  some (Heater.mk (Clock.mk (0, 0) (Field.mk []) (Certs.mk 0 []) (Agenda.mk (Slots.mk [] [] []) [] []) []) (Tree.mk 0 []), n1)
 else
  ((ref01_Check N) p1).bind fun n2 =>
  bif n2 != 0 then
   some (Heater.mk (Clock.mk (0, 0) (Field.mk []) (Certs.mk 0 []) (Agenda.mk (Slots.mk [] [] []) [] []) []) (Tree.mk 0 []), 8)
  else
   ((ref09_Begin N) p0 p1).bind fun r3 =>
   ((ref17_Settled N) r3 p0).bind fun a4 =>
   some a4
noncomputable def c8 (N : Nat) : Con := ⟨Args.cons (Arg.agg Field_c) (Args.one (Arg.agg (Cod.row kii))), Arg.tup (Args.cons (Arg.agg Heater_c) (Args.one (Arg.int .i64))), fun a => (ref17_Build N) a.1 a.2, .frz, false⟩
theorem c8_ok (N : Nat) : ConOK tab 8 (c8 N) := ConOK.of tab_8 (cx := (mkCx (loopL N) [(21, (c21 N)), (22, (c22 N)), (24, (c24 N)), (23, (c23 N))] [] [] [])) rfl (CxOK.make ⟨(c21_ok N), (c22_ok N), (c24_ok N), (c23_ok N), trivial⟩ trivial trivial) (fun a => by kernel_rfl)
noncomputable def law18_given (N : Nat)  : Option Heater :=
 ((law18_at N) 2).bind fun a0 =>
 ((ref17_Build N) (Field.mk [(1, 0, 2), (2, 6, -1), (5, 0, 0)]) a0).bind fun a1 =>
 some a1.1
noncomputable def c4 (N : Nat) : Con := ⟨Args.nil, Arg.agg Heater_c, fun _ => (law18_given N), .frz, false⟩
theorem c4_ok (N : Nat) : ConOK tab 4 (c4 N) := ConOK.of tab_4 (cx := (mkCx (loopL N) [(9, (c9 N)), (8, (c8 N))] [] [] [])) rfl (CxOK.make ⟨(c9_ok N), (c8_ok N), trivial⟩ trivial trivial) (fun a => by kernel_rfl)
noncomputable def ratio_abs (_ : Nat) (p0 : Int) : Option Int :=
 bif decide (p0 < 0) then
  some (wrapF .u64 (0 - (wrapF .u64 p0)))
 else
  some (wrapF .u64 p0)
noncomputable def c110 (N : Nat) : Con := ⟨Args.one (Arg.int .i64), Arg.int .u64, fun a => (ratio_abs N) a, .pure, false⟩
theorem c110_ok (N : Nat) : ConOK tab 110 (c110 N) := ConOK.of tab_110 (cx := (mkCx (loopL N) [] [] [] [])) rfl (CxOK.make trivial trivial trivial) (fun a => by kernel_rfl)
noncomputable def ratio_gcd_l1 (_ : Nat) (s : (Int × Int)) : Option (Step (Int × Int) Int) :=
 bif decide (0 < s.2) then
  bif s.2 == 0 then
   none
  else
   some (.next (s.2, Int.tmod s.1 s.2))
 else
  some (.done s.1)
noncomputable def ratio_gcd (N : Nat) (p0 : Int) (p1 : Int) : Option Int :=
 (loopN N) (ratio_gcd_l1 N) (p0, p1)
noncomputable def c109 (N : Nat) : Con := ⟨Args.cons (Arg.int .u64) (Args.one (Arg.int .u64)), Arg.int .u64, fun a => (ratio_gcd N) a.1 a.2, .pure, false⟩
theorem c109_ok (N : Nat) : ConOK tab 109 (c109 N) := ConOK.of tab_109 (cx := (mkCx (loopL N) [] [] [] [])) rfl (CxOK.make trivial trivial trivial) (fun a => by kernel_rfl)
noncomputable def ratio_Check (N : Nat) (p0 : Int × Int) : Option Int :=
 bif decide (p0.2 < 1) then
  some 8
 else
  bif p0.1 == (-9223372036854775808) then
   some 8
  else
   ((ratio_abs N) p0.1).bind fun n0 =>
   ((ratio_gcd N) (wrapF .u64 p0.2) n0).bind fun n1 =>
   bif decide (1 < n1) then
    some 8
   else
    some 0
noncomputable def c77 (N : Nat) : Con := ⟨Args.one (Arg.agg (Cod.row kii)), Arg.int .i64, fun a => (ratio_Check N) a, .pure, false⟩
theorem c77_ok (N : Nat) : ConOK tab 77 (c77 N) := ConOK.of tab_77 (cx := (mkCx (loopL N) [(110, (c110 N)), (109, (c109 N))] [] [] [])) rfl (CxOK.make ⟨(c110_ok N), (c109_ok N), trivial⟩ trivial trivial) (fun a => by kernel_rfl)
noncomputable def course_Check_1 (_ : Nat) (p0 : Int) : Option Bool :=
 bif decide (p0 < (-1048576)) then
  some true
 else
  some (decide (1048576 < p0))
noncomputable def c63 (N : Nat) : Con := ⟨Args.one (Arg.int .i64), Arg.bool, fun a => (course_Check_1 N) a, .pure, false⟩
theorem c63_ok (N : Nat) : ConOK tab 63 (c63 N) := ConOK.of tab_63 (cx := (mkCx (loopL N) [] [] [] [])) rfl (CxOK.make trivial trivial trivial) (fun a => by kernel_rfl)
noncomputable def course_Check (N : Nat) (p0 : Int × Int × Int) : Option Int :=
 bif decide (p0.1 < 0) then
  some 8
 else
  bif decide (65535 < p0.1) then
   some 8
  else
   ((course_Check_1 N) p0.2.1).bind fun b0 =>
   bif b0 then
    some 8
   else
    ((course_Check_1 N) p0.2.2).bind fun b1 =>
    bif b1 then
     some 8
    else
     some 0
noncomputable def c34 (N : Nat) : Con := ⟨Args.one (Arg.agg (Cod.row kiii)), Arg.int .i64, fun a => (course_Check N) a, .pure, false⟩
theorem c34_ok (N : Nat) : ConOK tab 34 (c34 N) := ConOK.of tab_34 (cx := (mkCx (loopL N) [(63, (c63 N))] [] [] [])) rfl (CxOK.make ⟨(c63_ok N), trivial⟩ trivial trivial) (fun a => by kernel_rfl)
noncomputable def field_Check_l1 (_ : Nat) (s : ((List (Int × Int × Int)) × Int × Int × (List (Int × Int × Int)))) : Option (Step ((List (Int × Int × Int)) × Int × Int × (List (Int × Int × Int))) (Step ((List (Int × Int × Int)) × Int × Int × (List (Int × Int × Int))) Int)) :=
 bif decide (s.2.2.1 < s.2.1) then
  (geti s.1 s.2.2.1).bind fun a0 =>
  bif decide (0 < s.2.2.1) then
   (geti s.2.2.2 (wrapF .i64 (s.2.2.1 - 1))).bind fun a1 =>
   bif decide (a0.1 ≤ a1.1) then
    some (.done (.done 32))
   else
    some (.next (s.1, s.2.1, wrapF .i64 (s.2.2.1 + 1), s.2.2.2))
  else
   some (.next (s.1, s.2.1, wrapF .i64 (s.2.2.1 + 1), s.2.2.2))
 else
  some (.done (.done 0))
noncomputable def field_Check_l2 (N : Nat) (s : ((List (Int × Int × Int)) × Int × Int × (List (Int × Int × Int)))) : Option (Step ((List (Int × Int × Int)) × Int × Int × (List (Int × Int × Int))) Int) :=
 bif decide (s.2.2.1 < s.2.1) then
  (geti s.1 s.2.2.1).bind fun a0 =>
  ((course_Check N) a0).bind fun n1 =>
  bif n1 != 0 then
   some (.done n1)
  else
   some (.next (s.1, s.2.1, wrapF .i64 (s.2.2.1 + 1), s.2.2.2))
 else
  (loopN N) (field_Check_l1 N) (s.2.2.2, Int.ofNat s.2.2.2.length, 0, s.2.2.2)
noncomputable def field_Check (N : Nat) (p0 : Field) : Option Int :=
 bif decide (64 < (Int.ofNat p0.points.length)) then
  some 4
 else
  (loopN N) (field_Check_l2 N) (p0.points, Int.ofNat p0.points.length, 0, p0.points)
noncomputable def c33 (N : Nat) : Con := ⟨Args.one (Arg.agg Field_c), Arg.int .i64, fun a => (field_Check N) a, .pure, false⟩
theorem c33_ok (N : Nat) : ConOK tab 33 (c33 N) := ConOK.of tab_33 (cx := (mkCx (loopL N) [(34, (c34 N))] [] [] [])) rfl (CxOK.make ⟨(c34_ok N), trivial⟩ trivial trivial) (fun a => by kernel_rfl)
noncomputable def cert_valid (_ : Nat) (p0 : Int × Int) : Option Bool :=
 bif decide (0 ≤ (if p0.2 < p0.1 then p0.2 else p0.1)) then
  bif decide ((if p0.2 > p0.1 then p0.2 else p0.1) ≤ 65535) then
   some (p0.1 != p0.2)
  else
   some false
 else
  some false
noncomputable def c111 (N : Nat) : Con := ⟨Args.one (Arg.agg (Cod.row kii)), Arg.bool, fun a => (cert_valid N) a, .pure, false⟩
theorem c111_ok (N : Nat) : ConOK tab 111 (c111 N) := ConOK.of tab_111 (cx := (mkCx (loopL N) [] [] [] [])) rfl (CxOK.make trivial trivial trivial) (fun a => by kernel_rfl)
noncomputable def cert_Check_l1 (N : Nat) (s : (Int × (List (Int × Int × Int)) × Int × Int × Int × (List (Int × Int × Int)) × (List (List Int)))) : Option (Step (Int × (List (Int × Int × Int)) × Int × Int × Int × (List (Int × Int × Int)) × (List (List Int))) Int) :=
 bif decide (s.2.2.2.1 < s.2.2.1) then
  (geti s.2.1 s.2.2.2.1).bind fun a0 =>
  ((cert_valid N) a0.2).bind fun b1 =>
  bif !b1 then
   some (.done 8)
  else
   (hasO s.2.2.2.2.2.2 [a0.2.1, a0.2.2]).bind fun b2 =>
   bif b2 then
    some (.done 8)
   else
    bif decide (a0.1 ≤ s.1) then
     some (.done 8)
    else
     bif decide (s.2.2.2.2.1 ≤ a0.1) then
      some (.done 8)
     else
      (insO s.2.2.2.2.2.2 [a0.2.1, a0.2.2]).bind fun l3 =>
      some (.next (a0.1, s.2.1, s.2.2.1, wrapF .i64 (s.2.2.2.1 + 1), s.2.2.2.2.1, s.2.2.2.2.2.1, l3))
 else
  some (.done 0)
noncomputable def cert_Check (N : Nat) (p0 : Certs) : Option Int :=
 bif decide (200 < (Int.ofNat p0.list.length)) then
  some 8
 else
  bif decide (p0.next_ < 0) then
   some 8
  else
   bif decide (1000000 < p0.next_) then
    some 8
   else
    (loopN N) (cert_Check_l1 N) (-1, p0.list, Int.ofNat p0.list.length, 0, p0.next_, p0.list, [])
noncomputable def c78 (N : Nat) : Con := ⟨Args.one (Arg.agg Certs_c), Arg.int .i64, fun a => (cert_Check N) a, .pure, false⟩
theorem c78_ok (N : Nat) : ConOK tab 78 (c78 N) := ConOK.of tab_78 (cx := (mkCx (loopL N) [(111, (c111 N))] [] [] [])) rfl (CxOK.make ⟨(c111_ok N), trivial⟩ trivial trivial) (fun a => by kernel_rfl)
theorem prim_97 : ConOK tab 97 (Con.clone kb) := ConOK.clone tab_97 rfl
noncomputable def slices_Index_165_l1 (_ : Nat) (s : ((List Bool) × Bool × Int × Int)) : Option (Step ((List Bool) × Bool × Int × Int) Int) :=
 bif decide (s.2.2.2 < s.2.2.1) then
  (geti s.1 s.2.2.2).bind fun b0 =>
  bif s.2.1 == b0 then
   some (.done s.2.2.2)
  else
   some (.next (s.1, s.2.1, s.2.2.1, wrapF .i64 (s.2.2.2 + 1)))
 else
  some (.done (-1))
noncomputable def slices_Index_165 (N : Nat) (p0 : List Bool) (p1 : Bool) : Option Int :=
 (loopN N) (slices_Index_165_l1 N) (p0, p1, Int.ofNat p0.length, 0)
noncomputable def c165 (N : Nat) : Con := ⟨Args.cons (Arg.sl kb) (Args.one Arg.bool), Arg.int .i64, fun a => (slices_Index_165 N) a.1 a.2, .pure, false⟩
theorem c165_ok (N : Nat) : ConOK tab 165 (c165 N) := ConOK.of tab_165 (cx := (mkCx (loopL N) [] [] [] [])) rfl (CxOK.make trivial trivial trivial) (fun a => by kernel_rfl)
noncomputable def slices_Contains_142 (N : Nat) (p0 : List Bool) (p1 : Bool) : Option Bool :=
 ((slices_Index_165 N) p0 p1).bind fun n0 =>
 some (decide (0 ≤ n0))
noncomputable def c142 (N : Nat) : Con := ⟨Args.cons (Arg.sl kb) (Args.one Arg.bool), Arg.bool, fun a => (slices_Contains_142 N) a.1 a.2, .pure, false⟩
theorem c142_ok (N : Nat) : ConOK tab 142 (c142 N) := ConOK.of tab_142 (cx := (mkCx (loopL N) [(165, (c165 N))] [] [] [])) rfl (CxOK.make ⟨(c165_ok N), trivial⟩ trivial trivial) (fun a => by kernel_rfl)
noncomputable def slot_Check_l1 (_ : Nat) (s : ((List Int) × Int × Int × (List Int) × (List Bool) × (List Int))) : Option (Step ((List Int) × Int × Int × (List Int) × (List Bool) × (List Int)) (Step ((List Int) × Int × Int × (List Int) × (List Bool) × (List Int) × Int × (List Bool)) Int)) :=
 bif decide (s.2.2.1 < s.2.1) then
  (geti s.1 s.2.2.1).bind fun n0 =>
  bif decide (n0 < 0) then
   some (.done (.done 8))
  else
   bif decide (1000000 < n0) then
    some (.done (.done 8))
   else
    bif n0 == 0 then
     (geti s.2.2.2.2.1 s.2.2.1).bind fun b1 =>
     bif b1 then
      some (.done (.done 8))
     else
      some (.next (s.1, s.2.1, wrapF .i64 (s.2.2.1 + 1), s.2.2.2))
    else
     some (.next (s.1, s.2.1, wrapF .i64 (s.2.2.1 + 1), s.2.2.2))
 else
  some (.done (.done 0))
noncomputable def slot_Check_l2 (N : Nat) (c0 : (List Bool)) (s : ((List Int) × Int × Int × (List Int) × (List Bool) × (List Int) × Int × (List Bool))) : Option (Step ((List Int) × Int × Int × (List Int) × (List Bool) × (List Int) × Int × (List Bool)) Int) :=
 bif decide (s.2.2.1 < s.2.1) then
  (geti s.1 s.2.2.1).bind fun n0 =>
  bif decide (n0 < 0) then
   bif s.2.2.2.2.2.2.2.length == s.2.2.2.2.2.2.2.length then
    bif s.2.2.2.2.2.2.2.length == c0.length then
     bif s.2.2.2.2.2.2.2.length == c0.length then
      bif decide (0 ≤ s.2.2.1) then
       some (.done 8)
      else
       ((slices_Contains_142 N) s.2.2.2.2.2.2.2 false).bind fun b1 =>
       bif b1 then
        some (.done 8)
       else
        (loopN N) (slot_Check_l1 N) (s.2.2.2.1, Int.ofNat s.2.2.2.1.length, 0, s.2.2.2.1, s.2.2.2.2.1, s.2.2.2.2.2.1)
     else
      none
    else
     none
   else
    none
  else
   bif decide (s.2.2.2.2.2.2.1 ≤ n0) then
    bif s.2.2.2.2.2.2.2.length == s.2.2.2.2.2.2.2.length then
     bif s.2.2.2.2.2.2.2.length == c0.length then
      bif s.2.2.2.2.2.2.2.length == c0.length then
       bif decide (0 ≤ s.2.2.1) then
        some (.done 8)
       else
        ((slices_Contains_142 N) s.2.2.2.2.2.2.2 false).bind fun b2 =>
        bif b2 then
         some (.done 8)
        else
         (loopN N) (slot_Check_l1 N) (s.2.2.2.1, Int.ofNat s.2.2.2.1.length, 0, s.2.2.2.1, s.2.2.2.2.1, s.2.2.2.2.2.1)
      else
       none
     else
      none
    else
     none
   else
    (geti s.2.2.2.2.2.2.2 n0).bind fun b3 =>
    bif b3 then
     bif s.2.2.2.2.2.2.2.length == s.2.2.2.2.2.2.2.length then
      bif s.2.2.2.2.2.2.2.length == c0.length then
       bif s.2.2.2.2.2.2.2.length == c0.length then
        bif decide (0 ≤ s.2.2.1) then
         some (.done 8)
        else
         ((slices_Contains_142 N) s.2.2.2.2.2.2.2 false).bind fun b4 =>
         bif b4 then
          some (.done 8)
         else
          (loopN N) (slot_Check_l1 N) (s.2.2.2.1, Int.ofNat s.2.2.2.1.length, 0, s.2.2.2.1, s.2.2.2.2.1, s.2.2.2.2.2.1)
       else
        none
      else
       none
     else
      none
    else
     (geti s.2.2.2.2.2.2.2 n0).bind fun _ =>
     bif ((seti s.2.2.2.2.2.2.2 n0 true).length) == s.2.2.2.2.2.2.2.length then
      some (.next (s.1, s.2.1, wrapF .i64 (s.2.2.1 + 1), s.2.2.2.1, s.2.2.2.2.1, s.2.2.2.2.2.1, s.2.2.2.2.2.2.1, seti s.2.2.2.2.2.2.2 n0 true))
     else
      none
 else
  bif s.2.2.2.2.2.2.2.length == c0.length then
   bif s.2.2.2.2.2.2.2.length == c0.length then
    ((slices_Contains_142 N) s.2.2.2.2.2.2.2 false).bind fun b6 =>
    bif b6 then
     some (.done 8)
    else
     (loopN N) (slot_Check_l1 N) (s.2.2.2.1, Int.ofNat s.2.2.2.1.length, 0, s.2.2.2.1, s.2.2.2.2.1, s.2.2.2.2.2.1)
   else
    none
  else
   none
noncomputable def slot_Check (N : Nat) (p0 : Slots) : Option Int :=
 bif decide ((Int.ofNat p0.uses.length) < 1) then
  some 8
 else
  bif decide (200 < (Int.ofNat p0.uses.length)) then
   some 8
  else
   bif (Int.ofNat p0.used.length) != (Int.ofNat p0.uses.length) then
    some 8
   else
    (cloneO p0.used).bind fun l0 =>
    (loopN N) ((slot_Check_l2 N) l0) (p0.free, Int.ofNat p0.free.length, 0, p0.uses, p0.used, p0.free, Int.ofNat p0.uses.length, l0)
noncomputable def c112 (N : Nat) : Con := ⟨Args.one (Arg.agg Slots_c), Arg.int .i64, fun a => (slot_Check N) a, .pure, false⟩
theorem c112_ok (N : Nat) : ConOK tab 112 (c112 N) := ConOK.of tab_112 (cx := (mkCx (loopL N) [(97, Con.clone kb), (142, (c142 N))] [] [(140, x140), (164, x164), (141, x141)] [])) rfl (CxOK.make ⟨prim_97, (c142_ok N), trivial⟩ trivial ⟨tab_140, tab_164, tab_141, trivial⟩) (fun a => by kernel_rfl)
noncomputable def ratio_both (N : Nat) (p0 : Int × Int) (p1 : Int × Int) : Option Int :=
 ((ratio_Check N) p0).bind fun n0 =>
 ((ratio_Check N) p1).bind fun n1 =>
 some (if n1 > n0 then n1 else n0)
noncomputable def c166 (N : Nat) : Con := ⟨Args.cons (Arg.agg (Cod.row kii)) (Args.one (Arg.agg (Cod.row kii))), Arg.int .i64, fun a => (ratio_both N) a.1 a.2, .pure, false⟩
theorem c166_ok (N : Nat) : ConOK tab 166 (c166 N) := ConOK.of tab_166 (cx := (mkCx (loopL N) [(77, (c77 N))] [] [] [])) rfl (CxOK.make ⟨(c77_ok N), trivial⟩ trivial trivial) (fun a => by kernel_rfl)
noncomputable def cmp_isNaN_148 (_ : Nat) (p0 : Int) : Option Bool :=
 some (p0 != p0)
noncomputable def c148 (N : Nat) : Con := ⟨Args.one (Arg.int .i64), Arg.bool, fun a => (cmp_isNaN_148 N) a, .pure, false⟩
theorem c148_ok (N : Nat) : ConOK tab 148 (c148 N) := ConOK.of tab_148 (cx := (mkCx (loopL N) [] [] [] [])) rfl (CxOK.make trivial trivial trivial) (fun a => by kernel_rfl)
noncomputable def cmp_Compare_120 (N : Nat) (p0 : Int) (p1 : Int) : Option Int :=
 ((cmp_isNaN_148 N) p0).bind fun b0 =>
 ((cmp_isNaN_148 N) p1).bind fun b1 =>
 bif b0 then
  bif b1 then
   some 0
  else
   some (-1)
 else
  bif b1 then
   some 1
  else
   bif decide (p0 < p1) then
    some (-1)
   else
    bif decide (p1 < p0) then
     some 1
    else
     some 0
noncomputable def c120 (N : Nat) : Con := ⟨Args.cons (Arg.int .i64) (Args.one (Arg.int .i64)), Arg.int .i64, fun a => (cmp_Compare_120 N) a.1 a.2, .pure, false⟩
theorem c120_ok (N : Nat) : ConOK tab 120 (c120 N) := ConOK.of tab_120 (cx := (mkCx (loopL N) [(148, (c148 N))] [] [] [])) rfl (CxOK.make ⟨(c148_ok N), trivial⟩ trivial trivial) (fun a => by kernel_rfl)
noncomputable def math_bits_Mul64 (_ : Nat) (p0 : Int) (p1 : Int) : Option (Int × Int) :=
 some (wrapF .u64 ((wrapF .u64 ((wrapF .u64 ((bShr .u64 p0 32) * (bShr .u64 p1 32))) + (bShr .u64 (wrapF .u64 ((wrapF .u64 ((bShr .u64 p0 32) * (bAnd .u64 p1 4294967295))) + (bShr .u64 (wrapF .u64 ((bAnd .u64 p0 4294967295) * (bAnd .u64 p1 4294967295))) 32))) 32))) + (bShr .u64 (wrapF .u64 ((bAnd .u64 (wrapF .u64 ((wrapF .u64 ((bShr .u64 p0 32) * (bAnd .u64 p1 4294967295))) + (bShr .u64 (wrapF .u64 ((bAnd .u64 p0 4294967295) * (bAnd .u64 p1 4294967295))) 32))) 4294967295) + (wrapF .u64 ((bAnd .u64 p0 4294967295) * (bShr .u64 p1 32))))) 32)), wrapF .u64 (p0 * p1))
noncomputable def c146 (N : Nat) : Con := ⟨Args.cons (Arg.int .u64) (Args.one (Arg.int .u64)), Arg.tup (Args.cons (Arg.int .u64) (Args.one (Arg.int .u64))), fun a => (math_bits_Mul64 N) a.1 a.2, .pure, false⟩
theorem c146_ok (N : Nat) : ConOK tab 146 (c146 N) := ConOK.of tab_146 (cx := (mkCx (loopL N) [] [] [] [])) rfl (CxOK.make trivial trivial trivial) (fun a => by kernel_rfl)
noncomputable def ratio_times (N : Nat) (p0 : Int) (p1 : Int) : Option (Bool × Int × Int) :=
 ((ratio_abs N) p0).bind fun n0 =>
 ((ratio_abs N) p1).bind fun n1 =>
 ((math_bits_Mul64 N) n0 n1).bind fun a2 =>
 some (!((decide (p0 < 0)) == (decide (p1 < 0))), a2)
noncomputable def c168 (N : Nat) : Con := ⟨Args.cons (Arg.int .i64) (Args.one (Arg.int .i64)), Arg.agg (Cod.row kbuu), fun a => (ratio_times N) a.1 a.2, .pure, false⟩
theorem c168_ok (N : Nat) : ConOK tab 168 (c168 N) := ConOK.of tab_168 (cx := (mkCx (loopL N) [(110, (c110 N)), (146, (c146 N))] [] [] [])) rfl (CxOK.make ⟨(c110_ok N), (c146_ok N), trivial⟩ trivial trivial) (fun a => by kernel_rfl)
noncomputable def cmp_isNaN_192 (_ : Nat) (p0 : Int) : Option Bool :=
 some (p0 != p0)
noncomputable def c192 (N : Nat) : Con := ⟨Args.one (Arg.int .u64), Arg.bool, fun a => (cmp_isNaN_192 N) a, .pure, false⟩
theorem c192_ok (N : Nat) : ConOK tab 192 (c192 N) := ConOK.of tab_192 (cx := (mkCx (loopL N) [] [] [] [])) rfl (CxOK.make trivial trivial trivial) (fun a => by kernel_rfl)
noncomputable def cmp_Compare_181 (N : Nat) (p0 : Int) (p1 : Int) : Option Int :=
 ((cmp_isNaN_192 N) p0).bind fun b0 =>
 ((cmp_isNaN_192 N) p1).bind fun b1 =>
 bif b0 then
  bif b1 then
   some 0
  else
   some (-1)
 else
  bif b1 then
   some 1
  else
   bif decide (p0 < p1) then
    some (-1)
   else
    bif decide (p1 < p0) then
     some 1
    else
     some 0
noncomputable def c181 (N : Nat) : Con := ⟨Args.cons (Arg.int .u64) (Args.one (Arg.int .u64)), Arg.int .i64, fun a => (cmp_Compare_181 N) a.1 a.2, .pure, false⟩
theorem c181_ok (N : Nat) : ConOK tab 181 (c181 N) := ConOK.of tab_181 (cx := (mkCx (loopL N) [(192, (c192 N))] [] [] [])) rfl (CxOK.make ⟨(c192_ok N), trivial⟩ trivial trivial) (fun a => by kernel_rfl)
noncomputable def ratio_compare (N : Nat) (p0 : Bool × Int × Int) (p1 : Bool × Int × Int) : Option Int :=
 ((cmp_Compare_181 N) p0.2.1 p1.2.1).bind fun n0 =>
 bif n0 != 0 then
  some n0
 else
  ((cmp_Compare_181 N) p0.2.2 p1.2.2).bind fun n1 =>
  some n1
noncomputable def c167 (N : Nat) : Con := ⟨Args.cons (Arg.agg (Cod.row kbuu)) (Args.one (Arg.agg (Cod.row kbuu))), Arg.int .i64, fun a => (ratio_compare N) a.1 a.2, .pure, false⟩
theorem c167_ok (N : Nat) : ConOK tab 167 (c167 N) := ConOK.of tab_167 (cx := (mkCx (loopL N) [(181, (c181 N))] [] [] [])) rfl (CxOK.make ⟨(c181_ok N), trivial⟩ trivial trivial) (fun a => by kernel_rfl)
noncomputable def ratio_Cmp (N : Nat) (p0 : Int × Int) (p1 : Int × Int) : Option (Int × Int) :=
 ((ratio_both N) p0 p1).bind fun n0 =>
 bif n0 != 0 then
  some (0, n0)
 else
  bif !((decide (p0.1 < 0)) == (decide (p1.1 < 0))) then
   ((cmp_Compare_120 N) p0.1 p1.1).bind fun n1 =>
   some (n1, 0)
  else
   ((ratio_times N) p0.1 p1.2).bind fun a2 =>
   ((ratio_times N) p1.1 p0.2).bind fun a3 =>
   ((ratio_compare N) a2 a3).bind fun n4 =>
   bif decide (p0.1 < 0) then
    some (wrapF .i64 (0 - n4), 0)
   else
    some (n4, 0)
noncomputable def c143 (N : Nat) : Con := ⟨Args.cons (Arg.agg (Cod.row kii)) (Args.one (Arg.agg (Cod.row kii))), Arg.tup (Args.cons (Arg.int .i64) (Args.one (Arg.int .i64))), fun a => (ratio_Cmp N) a.1 a.2, .pure, false⟩
theorem c143_ok (N : Nat) : ConOK tab 143 (c143 N) := ConOK.of tab_143 (cx := (mkCx (loopL N) [(166, (c166 N)), (120, (c120 N)), (168, (c168 N)), (167, (c167 N))] [] [] [])) rfl (CxOK.make ⟨(c166_ok N), (c120_ok N), (c168_ok N), (c167_ok N), trivial⟩ trivial trivial) (fun a => by kernel_rfl)
noncomputable def cmp_isNaN_98 (_ : Nat) (p0 : Int) : Option Bool :=
 some (p0 != p0)
noncomputable def c98 (N : Nat) : Con := ⟨Args.one (Arg.int .i64), Arg.bool, fun a => (cmp_isNaN_98 N) a, .pure, false⟩
theorem c98_ok (N : Nat) : ConOK tab 98 (c98 N) := ConOK.of tab_98 (cx := (mkCx (loopL N) [] [] [] [])) rfl (CxOK.make trivial trivial trivial) (fun a => by kernel_rfl)
noncomputable def cmp_Compare_66 (N : Nat) (p0 : Int) (p1 : Int) : Option Int :=
 ((cmp_isNaN_98 N) p0).bind fun b0 =>
 ((cmp_isNaN_98 N) p1).bind fun b1 =>
 bif b0 then
  bif b1 then
   some 0
  else
   some (-1)
 else
  bif b1 then
   some 1
  else
   bif decide (p0 < p1) then
    some (-1)
   else
    bif decide (p1 < p0) then
     some 1
    else
     some 0
noncomputable def c66 (N : Nat) : Con := ⟨Args.cons (Arg.int .i64) (Args.one (Arg.int .i64)), Arg.int .i64, fun a => (cmp_Compare_66 N) a.1 a.2, .pure, false⟩
theorem c66_ok (N : Nat) : ConOK tab 66 (c66 N) := ConOK.of tab_66 (cx := (mkCx (loopL N) [(98, (c98 N))] [] [] [])) rfl (CxOK.make ⟨(c98_ok N), trivial⟩ trivial trivial) (fun a => by kernel_rfl)
noncomputable def cmp_Or_119_l1 (_ : Nat) (s : (Int × (List Int) × Int × Int)) : Option (Step (Int × (List Int) × Int × Int) Int) :=
 bif decide (s.2.2.2 < s.2.2.1) then
  (geti s.2.1 s.2.2.2).bind fun n0 =>
  bif n0 != s.1 then
   some (.done n0)
  else
   some (.next (s.1, s.2.1, s.2.2.1, wrapF .i64 (s.2.2.2 + 1)))
 else
  some (.done s.1)
noncomputable def cmp_Or_119 (N : Nat) (p0 : List Int) : Option Int :=
 (loopN N) (cmp_Or_119_l1 N) (0, p0, Int.ofNat p0.length, 0)
noncomputable def c119 (N : Nat) : Con := ⟨Args.one (Arg.sl ki), Arg.int .i64, fun a => (cmp_Or_119 N) a, .pure, false⟩
theorem c119_ok (N : Nat) : ConOK tab 119 (c119 N) := ConOK.of tab_119 (cx := (mkCx (loopL N) [] [] [] [])) rfl (CxOK.make trivial trivial trivial) (fun a => by kernel_rfl)
noncomputable def agenda_compare (N : Nat) (p0 : Int × Int × Int × Int × Int) (p1 : Int × Int × Int × Int × Int) : Option Int :=
 ((ratio_Cmp N) (p0.1, p0.2.1) (p1.1, p1.2.1)).bind fun a0 =>
 ((cmp_Compare_66 N) p0.2.2.1 p1.2.2.1).bind fun n1 =>
 ((cmp_Or_119 N) [a0.1, n1]).bind fun n2 =>
 some n2
noncomputable def c113 (N : Nat) : Con := ⟨Args.cons (Arg.agg (Cod.row kiiiii)) (Args.one (Arg.agg (Cod.row kiiiii))), Arg.int .i64, fun a => (agenda_compare N) a.1 a.2, .pure, false⟩
theorem c113_ok (N : Nat) : ConOK tab 113 (c113 N) := ConOK.of tab_113 (cx := (mkCx (loopL N) [(143, (c143 N)), (66, (c66 N)), (119, (c119 N))] [] [] [])) rfl (CxOK.make ⟨(c143_ok N), (c66_ok N), (c119_ok N), trivial⟩ trivial trivial) (fun a => by kernel_rfl)
noncomputable def agenda_Check_l1 (N : Nat) (s : ((List (Int × Int × Int × Int × Int)) × Int × Int × (List Int) × (List Bool) × (List Int) × (List (Int × Int × Int × Int × Int)) × (List Int) × (List (List Int)))) : Option (Step ((List (Int × Int × Int × Int × Int)) × Int × Int × (List Int) × (List Bool) × (List Int) × (List (Int × Int × Int × Int × Int)) × (List Int) × (List (List Int))) (Step ((List Int) × Int × Int × (List Int) × (List Bool) × (List Int) × (List (Int × Int × Int × Int × Int)) × (List Int)) Int)) :=
 bif decide (s.2.2.1 < s.2.1) then
  (geti s.1 s.2.2.1).bind fun a0 =>
  ((ratio_Check N) (a0.1, a0.2.1)).bind fun n1 =>
  bif n1 != 0 then
   some (.done (.done 8))
  else
   bif decide (a0.2.2.1 < 0) then
    some (.done (.done 8))
   else
    bif decide (1000000 < a0.2.2.1) then
     some (.done (.done 8))
    else
     (hasO s.2.2.2.2.2.2.2.2 [a0.2.2.1]).bind fun b2 =>
     bif b2 then
      some (.done (.done 8))
     else
      (insO s.2.2.2.2.2.2.2.2 [a0.2.2.1]).bind fun l3 =>
      bif decide (0 < s.2.2.1) then
       (geti s.2.2.2.2.2.2.1 (wrapF .i64 (Int.tdiv (wrapF .i64 (s.2.2.1 - 1)) 2))).bind fun a4 =>
       ((agenda_compare N) a0 a4).bind fun n5 =>
       bif decide (n5 < 0) then
        some (.done (.done 8))
       else
        some (.next (s.1, s.2.1, wrapF .i64 (s.2.2.1 + 1), s.2.2.2.1, s.2.2.2.2.1, s.2.2.2.2.2.1, s.2.2.2.2.2.2.1, s.2.2.2.2.2.2.2.1, l3))
      else
       some (.next (s.1, s.2.1, wrapF .i64 (s.2.2.1 + 1), s.2.2.2.1, s.2.2.2.2.1, s.2.2.2.2.2.1, s.2.2.2.2.2.2.1, s.2.2.2.2.2.2.2.1, l3))
 else
  some (.done (.done 0))
noncomputable def agenda_Check_l2 (N : Nat) (s : ((List Int) × Int × Int × (List Int) × (List Bool) × (List Int) × (List (Int × Int × Int × Int × Int)) × (List Int))) : Option (Step ((List Int) × Int × Int × (List Int) × (List Bool) × (List Int) × (List (Int × Int × Int × Int × Int)) × (List Int)) Int) :=
 bif decide (s.2.2.1 < s.2.1) then
  (geti s.1 s.2.2.1).bind fun n0 =>
  (geti s.2.2.2.2.1 s.2.2.1).bind fun b1 =>
  bif !b1 then
   bif n0 != (-1) then
    some (.done 8)
   else
    some (.next (s.1, s.2.1, wrapF .i64 (s.2.2.1 + 1), s.2.2.2))
  else
   bif decide (n0 < 0) then
    some (.done 8)
   else
    bif decide ((Int.ofNat s.2.2.2.2.2.2.1.length) ≤ n0) then
     some (.done 8)
    else
     (geti s.2.2.2.2.2.2.1 n0).bind fun a2 =>
     (geti s.2.2.2.1 s.2.2.1).bind fun n3 =>
     bif !((a2.2.2.2.1 == s.2.2.1) && (a2.2.2.2.2 == n3)) then
      some (.done 8)
     else
      some (.next (s.1, s.2.1, wrapF .i64 (s.2.2.1 + 1), s.2.2.2))
 else
  (loopN N) (agenda_Check_l1 N) (s.2.2.2.2.2.2.1, Int.ofNat s.2.2.2.2.2.2.1.length, 0, s.2.2.2.1, s.2.2.2.2.1, s.2.2.2.2.2.1, s.2.2.2.2.2.2.1, s.2.2.2.2.2.2.2, [])
noncomputable def agenda_Check (N : Nat) (p0 : Agenda) : Option Int :=
 ((slot_Check N) p0.slots).bind fun n0 =>
 bif n0 != 0 then
  some 8
 else
  bif (Int.ofNat p0.where_.length) != (Int.ofNat p0.slots.used.length) then
   some 8
  else
   bif (Int.ofNat p0.heap.length) != (wrapF .i64 ((Int.ofNat p0.slots.used.length) - (Int.ofNat p0.slots.free.length))) then
    some 8
   else
    (loopN N) (agenda_Check_l2 N) (p0.where_, Int.ofNat p0.where_.length, 0, p0.slots.uses, p0.slots.used, p0.slots.free, p0.heap, p0.where_)
noncomputable def c79 (N : Nat) : Con := ⟨Args.one (Arg.agg Agenda_c), Arg.int .i64, fun a => (agenda_Check N) a, .pure, false⟩
theorem c79_ok (N : Nat) : ConOK tab 79 (c79 N) := ConOK.of tab_79 (cx := (mkCx (loopL N) [(112, (c112 N)), (77, (c77 N)), (113, (c113 N))] [] [] [])) rfl (CxOK.make ⟨(c112_ok N), (c77_ok N), (c113_ok N), trivial⟩ trivial trivial) (fun a => by kernel_rfl)
noncomputable def clock_point_1 (N : Nat) (p0 : Int × Int × Int) (p1 : Int) : Option Int :=
 ((cmp_Compare_66 N) p0.1 p1).bind fun n0 =>
 some n0
noncomputable def c145 (N : Nat) : Con := ⟨Args.cons (Arg.agg (Cod.row kiii)) (Args.one (Arg.int .i64)), Arg.int .i64, fun a => (clock_point_1 N) a.1 a.2, .pure, false⟩
theorem c145_ok (N : Nat) : ConOK tab 145 (c145 N) := ConOK.of tab_145 (cx := (mkCx (loopL N) [(66, (c66 N))] [] [] [])) rfl (CxOK.make ⟨(c66_ok N), trivial⟩ trivial trivial) (fun a => by kernel_rfl)
noncomputable def slices_BinarySearchFunc_64__clock_point_1_l1 (N : Nat) (s : ((List (Int × Int × Int)) × Int × Int × Int × Int)) : Option (Step ((List (Int × Int × Int)) × Int × Int × Int × Int) (Int × Bool)) :=
 bif decide (s.2.2.2.1 < s.2.2.2.2) then
  (geti s.1 (wrapF .i64 (bShr .u64 (wrapF .u64 (wrapF .i64 (s.2.2.2.1 + s.2.2.2.2))) 1))).bind fun a0 =>
  ((clock_point_1 N) a0 s.2.1).bind fun n1 =>
  bif decide (n1 < 0) then
   some (.next (s.1, s.2.1, s.2.2.1, wrapF .i64 ((wrapF .i64 (bShr .u64 (wrapF .u64 (wrapF .i64 (s.2.2.2.1 + s.2.2.2.2))) 1)) + 1), s.2.2.2.2))
  else
   some (.next (s.1, s.2.1, s.2.2.1, s.2.2.2.1, wrapF .i64 (bShr .u64 (wrapF .u64 (wrapF .i64 (s.2.2.2.1 + s.2.2.2.2))) 1)))
 else
  bif decide (s.2.2.2.1 < s.2.2.1) then
   (geti s.1 s.2.2.2.1).bind fun a2 =>
   ((clock_point_1 N) a2 s.2.1).bind fun n3 =>
   some (.done (s.2.2.2.1, n3 == 0))
  else
   some (.done (s.2.2.2.1, false))
noncomputable def slices_BinarySearchFunc_64__clock_point_1 (N : Nat) (p0 : List (Int × Int × Int)) (p1 : Int) (_ : Unit) : Option (Int × Bool) :=
 (loopN N) (slices_BinarySearchFunc_64__clock_point_1_l1 N) (p0, p1, Int.ofNat p0.length, 0, Int.ofNat p0.length)
noncomputable def c64_145 (N : Nat) : Con := ⟨Args.cons (Arg.sl kiii) (Args.cons (Arg.int .i64) (Args.one (Arg.clo 145 Args.nil))), Arg.tup (Args.cons (Arg.int .i64) (Args.one Arg.bool)), fun a => (slices_BinarySearchFunc_64__clock_point_1 N) a.1 a.2.1 a.2.2, .pure, false⟩
theorem c64_145_ok (N : Nat) : ConOK tab 64 (c64_145 N) := ConOK.of tab_64 (cx := (mkCx (loopL N) [(145, (c145 N))] [] [] [])) rfl (CxOK.make ⟨(c145_ok N), trivial⟩ trivial trivial) (fun a => by kernel_rfl)
noncomputable def clock_point (N : Nat) (p0 : Field) (p1 : Int) : Option (Int × Int × Int) :=
 ((slices_BinarySearchFunc_64__clock_point_1 N) p0.points p1 ()).bind fun a0 =>
 bif !a0.2 then
  some (-1, 0, 0)
 else
  (geti p0.points a0.1).bind fun a1 =>
  some a1
noncomputable def c115 (N : Nat) : Con := ⟨Args.cons (Arg.agg Field_c) (Args.one (Arg.int .i64)), Arg.agg (Cod.row kiii), fun a => (clock_point N) a.1 a.2, .pure, false⟩
theorem c115_ok (N : Nat) : ConOK tab 115 (c115 N) := ConOK.of tab_115 (cx := (mkCx (loopL N) [(64, (c64_145 N))] [] [] [])) rfl (CxOK.make ⟨(c64_145_ok N), trivial⟩ trivial trivial) (fun a => by kernel_rfl)
noncomputable def course_two (N : Nat) (p0 : Int × Int × Int) (p1 : Int × Int × Int) (p2 : Int × Int) : Option Int :=
 ((course_Check N) p0).bind fun n0 =>
 ((course_Check N) p1).bind fun n1 =>
 ((ratio_Check N) p2).bind fun n2 =>
 bif (if n2 > (if n1 > n0 then n1 else n0) then n2 else if n1 > n0 then n1 else n0) != 0 then
  some (if n2 > (if n1 > n0 then n1 else n0) then n2 else if n1 > n0 then n1 else n0)
 else
  bif p0.1 == p1.1 then
   some 2
  else
   some 0
noncomputable def c85 (N : Nat) : Con := ⟨Args.cons (Arg.agg (Cod.row kiii)) (Args.cons (Arg.agg (Cod.row kiii)) (Args.one (Arg.agg (Cod.row kii)))), Arg.int .i64, fun a => (course_two N) a.1 a.2.1 a.2.2, .pure, false⟩
theorem c85_ok (N : Nat) : ConOK tab 85 (c85 N) := ConOK.of tab_85 (cx := (mkCx (loopL N) [(34, (c34 N)), (77, (c77 N))] [] [] [])) rfl (CxOK.make ⟨(c34_ok N), (c77_ok N), trivial⟩ trivial trivial) (fun a => by kernel_rfl)
theorem prim_147 : ConOK tab 147 (Con.add64) := ConOK.add64 tab_147
noncomputable def course_sum_l1 (N : Nat) (s : (Int × Int × Int × Int × Int × Int × Int × Int × Int)) : Option (Step (Int × Int × Int × Int × Int × Int × Int × Int × Int) (Int × Int)) :=
 bif decide (s.2.2.2.2.1 < 2) then
  bif s.2.2.2.2.1 == 0 then
   ((math_bits_Mul64 N) (wrapF .u64 s.1) (wrapF .u64 s.2.1)).bind fun a0 =>
   bif decide (s.1 < 0) then
    bif decide (s.2.1 < 0) then
     (add64O s.2.2.2.2.2.2.2.2 a0.2 0).bind fun a1 =>
     some (.next (s.1, s.2.1, s.2.2.1, s.2.2.2.1, wrapF .i64 (s.2.2.2.2.1 + 1), s.2.2.2.2.2.1, s.2.2.2.2.2.2.1, wrapF .i64 ((wrapF .i64 (s.2.2.2.2.2.2.2.1 + (wrapF .i64 ((wrapF .i64 ((wrapF .i64 a0.1) - s.2.1)) - s.1)))) + (wrapF .i64 a1.2)), a1.1))
    else
     (add64O s.2.2.2.2.2.2.2.2 a0.2 0).bind fun a2 =>
     some (.next (s.1, s.2.1, s.2.2.1, s.2.2.2.1, wrapF .i64 (s.2.2.2.2.1 + 1), s.2.2.2.2.2.1, s.2.2.2.2.2.2.1, wrapF .i64 ((wrapF .i64 (s.2.2.2.2.2.2.2.1 + (wrapF .i64 ((wrapF .i64 a0.1) - s.2.1)))) + (wrapF .i64 a2.2)), a2.1))
   else
    bif decide (s.2.1 < 0) then
     (add64O s.2.2.2.2.2.2.2.2 a0.2 0).bind fun a3 =>
     some (.next (s.1, s.2.1, s.2.2.1, s.2.2.2.1, wrapF .i64 (s.2.2.2.2.1 + 1), s.2.2.2.2.2.1, s.2.2.2.2.2.2.1, wrapF .i64 ((wrapF .i64 (s.2.2.2.2.2.2.2.1 + (wrapF .i64 ((wrapF .i64 a0.1) - s.1)))) + (wrapF .i64 a3.2)), a3.1))
    else
     (add64O s.2.2.2.2.2.2.2.2 a0.2 0).bind fun a4 =>
     some (.next (s.1, s.2.1, s.2.2.1, s.2.2.2.1, wrapF .i64 (s.2.2.2.2.1 + 1), s.2.2.2.2.2.1, s.2.2.2.2.2.2.1, wrapF .i64 ((wrapF .i64 (s.2.2.2.2.2.2.2.1 + (wrapF .i64 a0.1))) + (wrapF .i64 a4.2)), a4.1))
  else
   bif s.2.2.2.2.1 == 1 then
    ((math_bits_Mul64 N) (wrapF .u64 s.2.2.1) (wrapF .u64 s.2.2.2.1)).bind fun a5 =>
    bif decide (s.2.2.1 < 0) then
     bif decide (s.2.2.2.1 < 0) then
      (add64O s.2.2.2.2.2.2.2.2 a5.2 0).bind fun a6 =>
      some (.next (s.1, s.2.1, s.2.2.1, s.2.2.2.1, wrapF .i64 (s.2.2.2.2.1 + 1), s.2.2.2.2.2.1, s.2.2.2.2.2.2.1, wrapF .i64 ((wrapF .i64 (s.2.2.2.2.2.2.2.1 + (wrapF .i64 ((wrapF .i64 ((wrapF .i64 a5.1) - s.2.2.2.1)) - s.2.2.1)))) + (wrapF .i64 a6.2)), a6.1))
     else
      (add64O s.2.2.2.2.2.2.2.2 a5.2 0).bind fun a7 =>
      some (.next (s.1, s.2.1, s.2.2.1, s.2.2.2.1, wrapF .i64 (s.2.2.2.2.1 + 1), s.2.2.2.2.2.1, s.2.2.2.2.2.2.1, wrapF .i64 ((wrapF .i64 (s.2.2.2.2.2.2.2.1 + (wrapF .i64 ((wrapF .i64 a5.1) - s.2.2.2.1)))) + (wrapF .i64 a7.2)), a7.1))
    else
     bif decide (s.2.2.2.1 < 0) then
      (add64O s.2.2.2.2.2.2.2.2 a5.2 0).bind fun a8 =>
      some (.next (s.1, s.2.1, s.2.2.1, s.2.2.2.1, wrapF .i64 (s.2.2.2.2.1 + 1), s.2.2.2.2.2.1, s.2.2.2.2.2.2.1, wrapF .i64 ((wrapF .i64 (s.2.2.2.2.2.2.2.1 + (wrapF .i64 ((wrapF .i64 a5.1) - s.2.2.1)))) + (wrapF .i64 a8.2)), a8.1))
     else
      (add64O s.2.2.2.2.2.2.2.2 a5.2 0).bind fun a9 =>
      some (.next (s.1, s.2.1, s.2.2.1, s.2.2.2.1, wrapF .i64 (s.2.2.2.2.1 + 1), s.2.2.2.2.2.1, s.2.2.2.2.2.2.1, wrapF .i64 ((wrapF .i64 (s.2.2.2.2.2.2.2.1 + (wrapF .i64 a5.1))) + (wrapF .i64 a9.2)), a9.1))
   else
    none
 else
  some (.done s.2.2.2.2.2.2.2)
noncomputable def course_sum (N : Nat) (p0 : Int × Int × Int × Int) : Option (Int × Int) :=
 (loopN N) (course_sum_l1 N) (p0.1, p0.2.1, p0.2.2.1, p0.2.2.2, 0, 0, 0, 0, 0)
noncomputable def c118 (N : Nat) : Con := ⟨Args.one (Arg.agg (Cod.row kiiii)), Arg.agg (Cod.row kiu), fun a => (course_sum N) a, .pure, false⟩
theorem c118_ok (N : Nat) : ConOK tab 118 (c118 N) := ConOK.of tab_118 (cx := (mkCx (loopL N) [(146, (c146 N)), (147, Con.add64)] [] [] [])) rfl (CxOK.make ⟨(c146_ok N), prim_147, trivial⟩ trivial trivial) (fun a => by kernel_rfl)
noncomputable def course_compare (N : Nat) (p0 : Int × Int × Int) (p1 : Int × Int × Int) (p2 : Int × Int) : Option Int :=
 ((course_sum N) (wrapF .i64 (p0.2.1 - p1.2.1), p2.2, wrapF .i64 (p0.2.2 - p1.2.2), p2.1)).bind fun a0 =>
 bif !((a0.1 == 0) && (a0.2 == 0)) then
  bif decide (a0.1 < 0) then
   some (-1)
  else
   some 1
 else
  ((cmp_Compare_120 N) p0.2.2 p1.2.2).bind fun n1 =>
  ((cmp_Compare_66 N) p1.1 p0.1).bind fun n2 =>
  ((cmp_Or_119 N) [n1, n2]).bind fun n3 =>
  some n3
noncomputable def c86 (N : Nat) : Con := ⟨Args.cons (Arg.agg (Cod.row kiii)) (Args.cons (Arg.agg (Cod.row kiii)) (Args.one (Arg.agg (Cod.row kii)))), Arg.int .i64, fun a => (course_compare N) a.1 a.2.1 a.2.2, .pure, false⟩
theorem c86_ok (N : Nat) : ConOK tab 86 (c86 N) := ConOK.of tab_86 (cx := (mkCx (loopL N) [(118, (c118 N)), (120, (c120 N)), (66, (c66 N)), (119, (c119 N))] [] [] [])) rfl (CxOK.make ⟨(c118_ok N), (c120_ok N), (c66_ok N), (c119_ok N), trivial⟩ trivial trivial) (fun a => by kernel_rfl)
noncomputable def ratio_build (_ : Nat) (p0 : Bool × Int × Int) (p1 : Int) (p2 : Int) : Option ((Int × Int) × Int) :=
 bif decide (0 < p0.2.1) then
  some ((0, 0), 16)
 else
  bif decide (9223372036854775807 < p0.2.2) then
   some ((0, 0), 16)
  else
   bif decide (0 < p1) then
    some ((0, 0), 16)
   else
    bif decide (9223372036854775807 < p2) then
     some ((0, 0), 16)
    else
     bif p0.1 then
      some ((wrapF .i64 (0 - (wrapF .i64 p0.2.2)), wrapF .i64 p2), 0)
     else
      some ((wrapF .i64 p0.2.2, wrapF .i64 p2), 0)
noncomputable def c182 (N : Nat) : Con := ⟨Args.cons (Arg.agg (Cod.row kbuu)) (Args.cons (Arg.int .u64) (Args.one (Arg.int .u64))), Arg.tup (Args.cons (Arg.agg (Cod.row kii)) (Args.one (Arg.int .i64))), fun a => (ratio_build N) a.1 a.2.1 a.2.2, .pure, false⟩
theorem c182_ok (N : Nat) : ConOK tab 182 (c182 N) := ConOK.of tab_182 (cx := (mkCx (loopL N) [] [] [] [])) rfl (CxOK.make trivial trivial trivial) (fun a => by kernel_rfl)
noncomputable def ratio_Make (N : Nat) (p0 : Int) (p1 : Int) : Option ((Int × Int) × Int) :=
 bif p1 == 0 then
  some ((0, 0), 26)
 else
  ((ratio_abs N) p0).bind fun n0 =>
  ((ratio_abs N) p1).bind fun n1 =>
  ((ratio_gcd N) n0 n1).bind fun n2 =>
  ((ratio_abs N) p0).bind fun n3 =>
  bif n2 == 0 then
   none
  else
   ((ratio_abs N) p1).bind fun n4 =>
   bif n2 == 0 then
    none
   else
    ((ratio_build N) (!((decide (p0 < 0)) == (decide (p1 < 0))), 0, wrapF .u64 (Int.tdiv n3 n2)) 0 (wrapF .u64 (Int.tdiv n4 n2))).bind fun a5 =>
    some a5
noncomputable def c169 (N : Nat) : Con := ⟨Args.cons (Arg.int .i64) (Args.one (Arg.int .i64)), Arg.tup (Args.cons (Arg.agg (Cod.row kii)) (Args.one (Arg.int .i64))), fun a => (ratio_Make N) a.1 a.2, .pure, false⟩
theorem c169_ok (N : Nat) : ConOK tab 169 (c169 N) := ConOK.of tab_169 (cx := (mkCx (loopL N) [(110, (c110 N)), (109, (c109 N)), (182, (c182 N))] [] [] [])) rfl (CxOK.make ⟨(c110_ok N), (c109_ok N), (c182_ok N), trivial⟩ trivial trivial) (fun a => by kernel_rfl)
noncomputable def course_Meet (N : Nat) (p0 : Int × Int × Int) (p1 : Int × Int × Int) : Option ((Int × Int) × Int) :=
 ((course_two N) p0 p1 (0, 1)).bind fun n0 =>
 bif n0 != 0 then
  some ((0, 0), n0)
 else
  bif p0.2.2 == p1.2.2 then
   some ((0, 0), 6)
  else
   ((ratio_Make N) (wrapF .i64 (p0.2.1 - p1.2.1)) (wrapF .i64 (p1.2.2 - p0.2.2))).bind fun a1 =>
   some a1
noncomputable def c144 (N : Nat) : Con := ⟨Args.cons (Arg.agg (Cod.row kiii)) (Args.one (Arg.agg (Cod.row kiii))), Arg.tup (Args.cons (Arg.agg (Cod.row kii)) (Args.one (Arg.int .i64))), fun a => (course_Meet N) a.1 a.2, .pure, false⟩
theorem c144_ok (N : Nat) : ConOK tab 144 (c144 N) := ConOK.of tab_144 (cx := (mkCx (loopL N) [(85, (c85 N)), (169, (c169 N))] [] [] [])) rfl (CxOK.make ⟨(c85_ok N), (c169_ok N), trivial⟩ trivial trivial) (fun a => by kernel_rfl)
noncomputable def course_Fails (N : Nat) (p0 : Int × Int × Int) (p1 : Int × Int × Int) (p2 : Int × Int) : Option ((Int × Int) × Bool × Int) :=
 ((course_two N) p0 p1 p2).bind fun n0 =>
 bif n0 != 0 then
  some ((0, 0), false, n0)
 else
  ((course_compare N) p1 p0 p2).bind fun n1 =>
  bif decide (0 < n1) then
   some (p2, true, 0)
  else
   bif decide (p1.2.2 ≤ p0.2.2) then
    some ((0, 0), false, 0)
   else
    ((course_Meet N) p0 p1).bind fun a2 =>
    some (a2.1, a2.2 == 0, a2.2)
noncomputable def c114 (N : Nat) : Con := ⟨Args.cons (Arg.agg (Cod.row kiii)) (Args.cons (Arg.agg (Cod.row kiii)) (Args.one (Arg.agg (Cod.row kii)))), Arg.tup (Args.cons (Arg.agg (Cod.row kii)) (Args.cons Arg.bool (Args.one (Arg.int .i64)))), fun a => (course_Fails N) a.1 a.2.1 a.2.2, .pure, false⟩
theorem c114_ok (N : Nat) : ConOK tab 114 (c114 N) := ConOK.of tab_114 (cx := (mkCx (loopL N) [(85, (c85 N)), (86, (c86 N)), (144, (c144 N))] [] [] [])) rfl (CxOK.make ⟨(c85_ok N), (c86_ok N), (c144_ok N), trivial⟩ trivial trivial) (fun a => by kernel_rfl)
noncomputable def clock_when (N : Nat) (p0 : Field) (p1 : Int × Int) (p2 : Int × Int) : Option ((Int × Int) × Bool × Int) :=
 ((clock_point N) p0 p1.2).bind fun a0 =>
 ((clock_point N) p0 p1.1).bind fun a1 =>
 ((course_Fails N) a0 a1 p2).bind fun a2 =>
 some a2
noncomputable def c80 (N : Nat) : Con := ⟨Args.cons (Arg.agg Field_c) (Args.cons (Arg.agg (Cod.row kii)) (Args.one (Arg.agg (Cod.row kii)))), Arg.tup (Args.cons (Arg.agg (Cod.row kii)) (Args.cons Arg.bool (Args.one (Arg.int .i64)))), fun a => (clock_when N) a.1 a.2.1 a.2.2, .pure, false⟩
theorem c80_ok (N : Nat) : ConOK tab 80 (c80 N) := ConOK.of tab_80 (cx := (mkCx (loopL N) [(115, (c115 N)), (114, (c114 N))] [] [] [])) rfl (CxOK.make ⟨(c115_ok N), (c114_ok N), trivial⟩ trivial trivial) (fun a => by kernel_rfl)
noncomputable def clock_Check_l1 (N : Nat) (s : ((List (Int × Int × Int)) × (List (Int × Int × Int)) × Int × Int × Int × Int × (List (Int × Int × Int)) × Int × (List (Int × Int × Int)) × (List Int) × (List Bool) × (List Int) × (List (Int × Int × Int × Int × Int)) × (List Int) × (List (Int × Int × Int)))) : Option (Step ((List (Int × Int × Int)) × (List (Int × Int × Int)) × Int × Int × Int × Int × (List (Int × Int × Int)) × Int × (List (Int × Int × Int)) × (List Int) × (List Bool) × (List Int) × (List (Int × Int × Int × Int × Int)) × (List Int) × (List (Int × Int × Int))) (Step (Int × Int × Int × Int × (List (Int × Int × Int)) × Int × (List (Int × Int × Int)) × (List Int) × (List Bool) × (List Int) × (List (Int × Int × Int × Int × Int)) × (List Int) × (List (Int × Int × Int)) × (List Int)) Int)) :=
 bif decide (s.2.2.2.1 < s.2.2.1) then
  (geti s.2.1 s.2.2.2.1).bind fun a0 =>
  ((clock_when N) (Field.mk s.2.2.2.2.2.2.1) a0.2 (s.2.2.2.2.1, s.2.2.2.2.2.1)).bind fun a1 =>
  bif a1.2.2 != 0 then
   some (.done (.done 8))
  else
   bif !a1.2.1 then
    some (.next (s.1, s.2.1, s.2.2.1, wrapF .i64 (s.2.2.2.1 + 1), s.2.2.2.2))
   else
    bif (Int.ofNat s.1.length) == 0 then
     some (.done (.done 8))
    else
     (geti s.1 0).bind fun a2 =>
     bif a2.1 != a0.1 then
      some (.done (.done 8))
     else
      (geti s.1 0).bind fun a3 =>
      bif decide (a3.2.1 < 0) then
       some (.done (.done 8))
      else
       bif decide (200 ≤ a3.2.1) then
        some (.done (.done 8))
       else
        (geti s.2.2.2.2.2.2.2.2.2.2.2.2.2.1 a3.2.1).bind fun n4 =>
        bif decide (n4 < 0) then
         some (.done (.done 8))
        else
         (geti s.2.2.2.2.2.2.2.2.2.2.2.2.2.1 a3.2.1).bind fun n5 =>
         (geti s.2.2.2.2.2.2.2.2.2.2.2.2.1 n5).bind fun a6 =>
         bif !((a6.1 == a1.1.1) && ((a6.2.1 == a1.1.2) && ((a6.2.2.1 == a0.1) && ((a6.2.2.2.1 == a3.2.1) && (a6.2.2.2.2 == a3.2.2))))) then
          some (.done (.done 8))
         else
          (sliceO s.1 1 (Int.ofNat s.1.length)).bind fun l7 =>
          some (.next (l7, s.2.1, s.2.2.1, wrapF .i64 (s.2.2.2.1 + 1), s.2.2.2.2))
 else
  bif decide (0 < (Int.ofNat s.1.length)) then
   some (.done (.done 8))
  else
   some (.done (.done 0))
noncomputable def clock_Check_l2 (N : Nat) (s : (Int × Int × Int × Int × (List (Int × Int × Int)) × Int × (List (Int × Int × Int)) × (List Int) × (List Bool) × (List Int) × (List (Int × Int × Int × Int × Int)) × (List Int) × (List (Int × Int × Int)) × (List Int))) : Option (Step (Int × Int × Int × Int × (List (Int × Int × Int)) × Int × (List (Int × Int × Int)) × (List Int) × (List Bool) × (List Int) × (List (Int × Int × Int × Int × Int)) × (List Int) × (List (Int × Int × Int)) × (List Int)) Int) :=
 bif decide (s.2.1 < s.1) then
  (geti s.2.2.2.2.2.2.2.2.2.2.2.2.2 s.2.1).bind fun n0 =>
  bif n0 != 0 then
   some (.done 8)
  else
   some (.next (s.1, wrapF .i64 (s.2.1 + 1), s.2.2))
 else
  bif (Int.ofNat s.2.2.2.2.2.2.2.2.2.2.2.1.length) != 200 then
   some (.done 8)
  else
   bif (Int.ofNat s.2.2.2.2.2.2.2.2.2.2.1.length) != (Int.ofNat s.2.2.2.2.2.2.2.2.2.2.2.2.1.length) then
    some (.done 8)
   else
    (loopN N) (clock_Check_l1 N) (s.2.2.2.2.2.2.2.2.2.2.2.2.1, s.2.2.2.2.2.2.1, Int.ofNat s.2.2.2.2.2.2.1.length, 0, s.2.2.1, s.2.2.2.1, s.2.2.2.2.1, s.2.2.2.2.2.1, s.2.2.2.2.2.2.1, s.2.2.2.2.2.2.2.1, s.2.2.2.2.2.2.2.2.1, s.2.2.2.2.2.2.2.2.2.1, s.2.2.2.2.2.2.2.2.2.2.1, s.2.2.2.2.2.2.2.2.2.2.2.1, s.2.2.2.2.2.2.2.2.2.2.2.2.1)
noncomputable def clock_Check (N : Nat) (p0 : Clock) : Option Int :=
 ((ratio_Check N) p0.now).bind fun n0 =>
 ((field_Check N) p0.field).bind fun n1 =>
 ((cert_Check N) p0.certs).bind fun n2 =>
 ((agenda_Check N) p0.agenda).bind fun n3 =>
 (loopN N) (clock_Check_l2 N) (Int.ofNat ([n0, n1, n2, n3].length), 0, p0.now.1, p0.now.2, p0.field.points, p0.certs.next_, p0.certs.list, p0.agenda.slots.uses, p0.agenda.slots.used, p0.agenda.slots.free, p0.agenda.heap, p0.agenda.where_, p0.due, [n0, n1, n2, n3])
noncomputable def c50 (N : Nat) : Con := ⟨Args.one (Arg.agg Clock_c), Arg.int .i64, fun a => (clock_Check N) a, .pure, false⟩
theorem c50_ok (N : Nat) : ConOK tab 50 (c50 N) := ConOK.of tab_50 (cx := (mkCx (loopL N) [(77, (c77 N)), (33, (c33 N)), (78, (c78 N)), (79, (c79 N)), (80, (c80 N))] [] [] [])) rfl (CxOK.make ⟨(c77_ok N), (c33_ok N), (c78_ok N), (c79_ok N), (c80_ok N), trivial⟩ trivial trivial) (fun a => by kernel_rfl)
noncomputable def cartes_timed (N : Nat) (p0 : Field) (p1 : Int × Int) : Option Int :=
 ((field_Check N) p0).bind fun n0 =>
 bif n0 != 0 then
  some n0
 else
  ((ratio_Check N) p1).bind fun n1 =>
  some n1
noncomputable def c57 (N : Nat) : Con := ⟨Args.cons (Arg.agg Field_c) (Args.one (Arg.agg (Cod.row kii))), Arg.int .i64, fun a => (cartes_timed N) a.1 a.2, .pure, false⟩
theorem c57_ok (N : Nat) : ConOK tab 57 (c57 N) := ConOK.of tab_57 (cx := (mkCx (loopL N) [(33, (c33 N)), (77, (c77 N))] [] [] [])) rfl (CxOK.make ⟨(c33_ok N), (c77_ok N), trivial⟩ trivial trivial) (fun a => by kernel_rfl)
noncomputable def course_Ahead (N : Nat) (p0 : Int × Int × Int) (p1 : Int × Int × Int) (p2 : Int × Int) : Option (Bool × Int) :=
 ((course_two N) p0 p1 p2).bind fun n0 =>
 bif n0 != 0 then
  some (false, n0)
 else
  ((course_compare N) p0 p1 p2).bind fun n1 =>
  some (decide (0 < n1), 0)
noncomputable def c58 (N : Nat) : Con := ⟨Args.cons (Arg.agg (Cod.row kiii)) (Args.cons (Arg.agg (Cod.row kiii)) (Args.one (Arg.agg (Cod.row kii)))), Arg.tup (Args.cons Arg.bool (Args.one (Arg.int .i64))), fun a => (course_Ahead N) a.1 a.2.1 a.2.2, .pure, false⟩
theorem c58_ok (N : Nat) : ConOK tab 58 (c58 N) := ConOK.of tab_58 (cx := (mkCx (loopL N) [(85, (c85 N)), (86, (c86 N))] [] [] [])) rfl (CxOK.make ⟨(c85_ok N), (c86_ok N), trivial⟩ trivial trivial) (fun a => by kernel_rfl)
noncomputable def cartes_Of_l1 (N : Nat) (s : (Nat × Nat × Int × (List (Int × Int × Int)) × Int × Int × (List (Int × Int × Int)) × Int × Int × Int × Int × (List (Int × Int × Int)) × (List Int) × Int × Int × Int × Int × Int × Int)) : Option (Step (Nat × Nat × Int × (List (Int × Int × Int)) × Int × Int × (List (Int × Int × Int)) × Int × Int × Int × Int × (List (Int × Int × Int)) × (List Int) × Int × Int × Int × Int × Int × Int) (Step (Nat × Nat × (List (Int × Int × Int)) × Int × Int × (List (Int × Int × Int)) × Int × Int × Int × Int × (List (Int × Int × Int)) × (List Int)) (Tree × Int))) :=
 bif decide (0 < (Int.ofNat s.1)) then
  (geti (s.2.2.2.2.2.2.2.2.2.2.2.2.1.take s.1) (wrapF .i64 ((Int.ofNat s.1) - 1))).bind fun n0 =>
  (geti s.2.2.2.2.2.2.1 n0).bind fun a1 =>
  ((course_Ahead N) a1 (s.2.2.2.2.2.2.2.2.2.2.2.2.2.1, s.2.2.2.2.2.2.2.2.2.2.2.2.2.2.1, s.2.2.2.2.2.2.2.2.2.2.2.2.2.2.2.1) (s.2.2.2.2.2.2.2.1, s.2.2.2.2.2.2.2.2.1)).bind fun a2 =>
  bif a2.1 then
   bif decide (0 < (Int.ofNat s.1)) then
    (geti (s.2.2.2.2.2.2.2.2.2.2.2.2.1.take s.1) (wrapF .i64 ((Int.ofNat s.1) - 1))).bind fun n3 =>
    (geti s.2.2.2.2.2.2.2.2.2.2.2.1 n3).bind fun a4 =>
    (appendO (seti s.2.2.2.2.2.2.2.2.2.2.2.1 n3 (a4.1, a4.2.1, s.2.2.1)) [s.2.2.2.2.2.2.2.2.2.2.2.2.2.2.2.2]).bind fun l5 =>
    bif Nat.ble (s.1 + [s.2.2.1].length) s.2.1 then
     bif (Nat.ble (s.1 + [s.2.2.1].length) s.2.2.2.2.2.2.2.2.2.2.2.2.1.length) && (!false) then
      some (.done (.next (s.1 + [s.2.2.1].length, s.2.1, s.2.2.2.1, s.2.2.2.2.1, wrapF .i64 (s.2.2.2.2.2.1 + 1), s.2.2.2.2.2.2.1, s.2.2.2.2.2.2.2.1, s.2.2.2.2.2.2.2.2.1, s.2.2.2.2.2.2.2.2.2.1, s.2.2.2.2.2.2.2.2.2.2.1, l5, layL s.2.2.2.2.2.2.2.2.2.2.2.2.1 s.1 [s.2.2.1])))
     else
      none
    else
     (appendO (s.2.2.2.2.2.2.2.2.2.2.2.2.1.take s.1) [s.2.2.1]).bind fun l6 =>
     bif Nat.ble s.1 s.2.2.2.2.2.2.2.2.2.2.2.2.1.length then
      some (.done (.next (l6.length, l6.length, s.2.2.2.1, s.2.2.2.2.1, wrapF .i64 (s.2.2.2.2.2.1 + 1), s.2.2.2.2.2.2.1, s.2.2.2.2.2.2.2.1, s.2.2.2.2.2.2.2.2.1, s.2.2.2.2.2.2.2.2.2.1, s.2.2.2.2.2.2.2.2.2.2.1, l5, l6)))
     else
      none
   else
    (appendO s.2.2.2.2.2.2.2.2.2.2.2.1 [s.2.2.2.2.2.2.2.2.2.2.2.2.2.2.2.2]).bind fun l7 =>
    bif Nat.ble (s.1 + [s.2.2.1].length) s.2.1 then
     bif (Nat.ble (s.1 + [s.2.2.1].length) s.2.2.2.2.2.2.2.2.2.2.2.2.1.length) && (!false) then
      some (.done (.next (s.1 + [s.2.2.1].length, s.2.1, s.2.2.2.1, s.2.2.2.2.1, wrapF .i64 (s.2.2.2.2.2.1 + 1), s.2.2.2.2.2.2.1, s.2.2.2.2.2.2.2.1, s.2.2.2.2.2.2.2.2.1, s.2.2.2.2.2.2.2.2.2.1, s.2.2.1, l7, layL s.2.2.2.2.2.2.2.2.2.2.2.2.1 s.1 [s.2.2.1])))
     else
      none
    else
     (appendO (s.2.2.2.2.2.2.2.2.2.2.2.2.1.take s.1) [s.2.2.1]).bind fun l8 =>
     bif Nat.ble s.1 s.2.2.2.2.2.2.2.2.2.2.2.2.1.length then
      some (.done (.next (l8.length, l8.length, s.2.2.2.1, s.2.2.2.2.1, wrapF .i64 (s.2.2.2.2.2.1 + 1), s.2.2.2.2.2.2.1, s.2.2.2.2.2.2.2.1, s.2.2.2.2.2.2.2.2.1, s.2.2.2.2.2.2.2.2.2.1, s.2.2.1, l7, l8)))
     else
      none
  else
   bif (decide (0 ≤ (wrapF .i64 ((Int.ofNat s.1) - 1)))) && (decide ((wrapF .i64 ((Int.ofNat s.1) - 1)) ≤ (Int.ofNat s.2.1))) then
    some (.next ((wrapF .i64 ((Int.ofNat s.1) - 1)).toNat, s.2.1, s.2.2.1, s.2.2.2.1, s.2.2.2.2.1, s.2.2.2.2.2.1, s.2.2.2.2.2.2.1, s.2.2.2.2.2.2.2.1, s.2.2.2.2.2.2.2.2.1, s.2.2.2.2.2.2.2.2.2.1, s.2.2.2.2.2.2.2.2.2.2.1, s.2.2.2.2.2.2.2.2.2.2.2.1, s.2.2.2.2.2.2.2.2.2.2.2.2.1, s.2.2.2.2.2.2.2.2.2.2.2.2.2.1, s.2.2.2.2.2.2.2.2.2.2.2.2.2.2.1, s.2.2.2.2.2.2.2.2.2.2.2.2.2.2.2.1, s.2.2.2.2.2.2.2.2.2.2.2.2.2.2.2.2.1, n0, s.2.2.2.2.2.2.2.2.2.2.2.2.2.2.2.2.2.2))
   else
    none
 else
  bif decide (0 < (Int.ofNat s.1)) then
   (geti (s.2.2.2.2.2.2.2.2.2.2.2.2.1.take s.1) (wrapF .i64 ((Int.ofNat s.1) - 1))).bind fun n9 =>
   (geti s.2.2.2.2.2.2.2.2.2.2.2.1 n9).bind fun a10 =>
   (appendO (seti s.2.2.2.2.2.2.2.2.2.2.2.1 n9 (a10.1, a10.2.1, s.2.2.1)) [s.2.2.2.2.2.2.2.2.2.2.2.2.2.2.2.2]).bind fun l11 =>
   bif Nat.ble (s.1 + [s.2.2.1].length) s.2.1 then
    bif (Nat.ble (s.1 + [s.2.2.1].length) s.2.2.2.2.2.2.2.2.2.2.2.2.1.length) && (!false) then
     some (.done (.next (s.1 + [s.2.2.1].length, s.2.1, s.2.2.2.1, s.2.2.2.2.1, wrapF .i64 (s.2.2.2.2.2.1 + 1), s.2.2.2.2.2.2.1, s.2.2.2.2.2.2.2.1, s.2.2.2.2.2.2.2.2.1, s.2.2.2.2.2.2.2.2.2.1, s.2.2.2.2.2.2.2.2.2.2.1, l11, layL s.2.2.2.2.2.2.2.2.2.2.2.2.1 s.1 [s.2.2.1])))
    else
     none
   else
    (appendO (s.2.2.2.2.2.2.2.2.2.2.2.2.1.take s.1) [s.2.2.1]).bind fun l12 =>
    bif Nat.ble s.1 s.2.2.2.2.2.2.2.2.2.2.2.2.1.length then
     some (.done (.next (l12.length, l12.length, s.2.2.2.1, s.2.2.2.2.1, wrapF .i64 (s.2.2.2.2.2.1 + 1), s.2.2.2.2.2.2.1, s.2.2.2.2.2.2.2.1, s.2.2.2.2.2.2.2.2.1, s.2.2.2.2.2.2.2.2.2.1, s.2.2.2.2.2.2.2.2.2.2.1, l11, l12)))
    else
     none
  else
   (appendO s.2.2.2.2.2.2.2.2.2.2.2.1 [s.2.2.2.2.2.2.2.2.2.2.2.2.2.2.2.2]).bind fun l13 =>
   bif Nat.ble (s.1 + [s.2.2.1].length) s.2.1 then
    bif (Nat.ble (s.1 + [s.2.2.1].length) s.2.2.2.2.2.2.2.2.2.2.2.2.1.length) && (!false) then
     some (.done (.next (s.1 + [s.2.2.1].length, s.2.1, s.2.2.2.1, s.2.2.2.2.1, wrapF .i64 (s.2.2.2.2.2.1 + 1), s.2.2.2.2.2.2.1, s.2.2.2.2.2.2.2.1, s.2.2.2.2.2.2.2.2.1, s.2.2.2.2.2.2.2.2.2.1, s.2.2.1, l13, layL s.2.2.2.2.2.2.2.2.2.2.2.2.1 s.1 [s.2.2.1])))
    else
     none
   else
    (appendO (s.2.2.2.2.2.2.2.2.2.2.2.2.1.take s.1) [s.2.2.1]).bind fun l14 =>
    bif Nat.ble s.1 s.2.2.2.2.2.2.2.2.2.2.2.2.1.length then
     some (.done (.next (l14.length, l14.length, s.2.2.2.1, s.2.2.2.2.1, wrapF .i64 (s.2.2.2.2.2.1 + 1), s.2.2.2.2.2.2.1, s.2.2.2.2.2.2.2.1, s.2.2.2.2.2.2.2.2.1, s.2.2.2.2.2.2.2.2.2.1, s.2.2.1, l13, l14)))
    else
     none
noncomputable def cartes_Of_l2 (N : Nat) (s : (Nat × Nat × (List (Int × Int × Int)) × Int × Int × (List (Int × Int × Int)) × Int × Int × Int × Int × (List (Int × Int × Int)) × (List Int))) : Option (Step (Nat × Nat × (List (Int × Int × Int)) × Int × Int × (List (Int × Int × Int)) × Int × Int × Int × Int × (List (Int × Int × Int)) × (List Int)) (Tree × Int)) :=
 bif decide (s.2.2.2.2.1 < s.2.2.2.1) then
  (geti s.2.2.1 s.2.2.2.2.1).bind fun a0 =>
  (loopN N) (cartes_Of_l1 N) (s.1, s.2.1, s.2.2.2.2.1, s.2.2.1, s.2.2.2.1, s.2.2.2.2.1, s.2.2.2.2.2.1, s.2.2.2.2.2.2.1, s.2.2.2.2.2.2.2.1, s.2.2.2.2.2.2.2.2.1, s.2.2.2.2.2.2.2.2.2.1, s.2.2.2.2.2.2.2.2.2.2.1, s.2.2.2.2.2.2.2.2.2.2.2, a0.1, a0.2.1, a0.2.2, a0.1, -1, -1)
 else
  some (.done (Tree.mk s.2.2.2.2.2.2.2.2.2.1 s.2.2.2.2.2.2.2.2.2.2.1, 0))
noncomputable def cartes_Of (N : Nat) (p0 : Field) (p1 : Int × Int) : Option (Tree × Int) :=
 ((cartes_timed N) p0 p1).bind fun n0 =>
 bif n0 != 0 then
  some (Tree.mk 0 [], n0)
 else
  (loopN N) (cartes_Of_l2 N) (0, 0, p0.points, Int.ofNat p0.points.length, 0, p0.points, p1.1, p1.2, 0, -1, [], [])
noncomputable def c30 (N : Nat) : Con := ⟨Args.cons (Arg.agg Field_c) (Args.one (Arg.agg (Cod.row kii))), Arg.tup (Args.cons (Arg.agg Tree_c) (Args.one (Arg.int .i64))), fun a => (cartes_Of N) a.1 a.2, .frz, false⟩
theorem c30_ok (N : Nat) : ConOK tab 30 (c30 N) := ConOK.of tab_30 (cx := (mkCx (loopL N) [(57, (c57 N)), (58, (c58 N))] [] [] [])) rfl (CxOK.make ⟨(c57_ok N), (c58_ok N), trivial⟩ trivial trivial) (fun a => by kernel_rfl)
noncomputable def heater_made_l1 (_ : Nat) (s : (Int × (List (Int × Int × Int)) × Int × Int × Int × Int × Int × Int × Int × (List (Int × Int × Int)) × (List Int))) : Option (Step (Int × (List (Int × Int × Int)) × Int × Int × Int × Int × Int × Int × Int × (List (Int × Int × Int)) × (List Int)) (Step ((List (Int × Int × Int)) × Int × Int × Int × Int × (List (Int × Int × Int)) × (List Int)) (Step (Int × Int × Int × Int × (List (Int × Int × Int)) × (List Int)) (Tree × (List (Int × Int)))))) :=
 bif decide (s.2.2.2.2.2.2.1 < 2) then
  bif s.2.2.2.2.2.2.1 == 0 then
   bif decide (0 ≤ s.2.2.2.2.1) then
    (geti s.2.2.2.2.2.2.2.2.2.2 s.2.2.2.2.1).bind fun _ =>
    some (.next (s.1, s.2.1, s.2.2.1, s.2.2.2.1, s.2.2.2.2.1, s.2.2.2.2.2.1, wrapF .i64 (s.2.2.2.2.2.2.1 + 1), s.2.2.2.2.2.2.2.1, s.2.2.2.2.2.2.2.2.1, s.2.2.2.2.2.2.2.2.2.1, seti s.2.2.2.2.2.2.2.2.2.2 s.2.2.2.2.1 s.1))
   else
    some (.next (s.1, s.2.1, s.2.2.1, s.2.2.2.1, s.2.2.2.2.1, s.2.2.2.2.2.1, wrapF .i64 (s.2.2.2.2.2.2.1 + 1), s.2.2.2.2.2.2.2))
  else
   bif s.2.2.2.2.2.2.1 == 1 then
    bif decide (0 ≤ s.2.2.2.2.2.1) then
     (geti s.2.2.2.2.2.2.2.2.2.2 s.2.2.2.2.2.1).bind fun _ =>
     some (.next (s.1, s.2.1, s.2.2.1, s.2.2.2.1, s.2.2.2.2.1, s.2.2.2.2.2.1, wrapF .i64 (s.2.2.2.2.2.2.1 + 1), s.2.2.2.2.2.2.2.1, s.2.2.2.2.2.2.2.2.1, s.2.2.2.2.2.2.2.2.2.1, seti s.2.2.2.2.2.2.2.2.2.2 s.2.2.2.2.2.1 s.1))
    else
     some (.next (s.1, s.2.1, s.2.2.1, s.2.2.2.1, s.2.2.2.2.1, s.2.2.2.2.2.1, wrapF .i64 (s.2.2.2.2.2.2.1 + 1), s.2.2.2.2.2.2.2))
   else
    none
 else
  some (.done (.next (s.2.1, s.2.2.1, wrapF .i64 (s.2.2.2.1 + 1), s.2.2.2.2.2.2.2)))
noncomputable def heater_made_l2 (_ : Nat) (s : ((List (Int × Int × Int)) × Int × Int × Int × Int × (List (Int × Int × Int)) × (List Int) × (List (Int × Int)))) : Option (Step ((List (Int × Int × Int)) × Int × Int × Int × Int × (List (Int × Int × Int)) × (List Int) × (List (Int × Int))) (Step ((List (Int × Int × Int)) × Int × Int × Int × Int × (List (Int × Int × Int)) × (List Int)) (Step (Int × Int × Int × Int × (List (Int × Int × Int)) × (List Int)) (Tree × (List (Int × Int)))))) :=
 bif decide (s.2.2.1 < s.2.1) then
  (geti s.1 s.2.2.1).bind fun a0 =>
  (geti s.2.2.2.2.2.2.1 s.2.2.1).bind fun n1 =>
  bif decide (0 ≤ n1) then
   (geti s.2.2.2.2.2.2.1 s.2.2.1).bind fun n2 =>
   (geti s.2.2.2.2.2.1 n2).bind fun a3 =>
   (appendO s.2.2.2.2.2.2.2 [(a0.1, a3.1)]).bind fun l4 =>
   some (.next (s.1, s.2.1, wrapF .i64 (s.2.2.1 + 1), s.2.2.2.1, s.2.2.2.2.1, s.2.2.2.2.2.1, s.2.2.2.2.2.2.1, l4))
  else
   some (.next (s.1, s.2.1, wrapF .i64 (s.2.2.1 + 1), s.2.2.2))
 else
  some (.done (.done (.done (Tree.mk s.2.2.2.2.1 s.2.2.2.2.2.1, s.2.2.2.2.2.2.2))))
noncomputable def heater_made_l3 (N : Nat) (s : ((List (Int × Int × Int)) × Int × Int × Int × Int × (List (Int × Int × Int)) × (List Int))) : Option (Step ((List (Int × Int × Int)) × Int × Int × Int × Int × (List (Int × Int × Int)) × (List Int)) (Step (Int × Int × Int × Int × (List (Int × Int × Int)) × (List Int)) (Tree × (List (Int × Int))))) :=
 bif decide (s.2.2.1 < s.2.1) then
  (geti s.1 s.2.2.1).bind fun a0 =>
  (loopN N) (heater_made_l1 N) (s.2.2.1, s.1, s.2.1, s.2.2.1, a0.2.1, a0.2.2, 0, s.2.2.2)
 else
  (loopN N) (heater_made_l2 N) (s.2.2.2.2.2.1, Int.ofNat s.2.2.2.2.2.1.length, 0, s.2.2.2.1, s.2.2.2.2.1, s.2.2.2.2.2.1, s.2.2.2.2.2.2, [])
noncomputable def heater_made_l4 (N : Nat) (s : (Int × Int × Int × Int × (List (Int × Int × Int)) × (List Int))) : Option (Step (Int × Int × Int × Int × (List (Int × Int × Int)) × (List Int)) (Tree × (List (Int × Int)))) :=
 bif decide (s.2.1 < s.1) then
  (geti s.2.2.2.2.2 s.2.1).bind fun _ =>
  some (.next (s.1, wrapF .i64 (s.2.1 + 1), s.2.2.1, s.2.2.2.1, s.2.2.2.2.1, seti s.2.2.2.2.2 s.2.1 (-1)))
 else
  (loopN N) (heater_made_l3 N) (s.2.2.2.2.1, Int.ofNat s.2.2.2.2.1.length, 0, s.2.2)
noncomputable def heater_made (N : Nat) (p0 : Field) (p1 : Int × Int) : Option (Tree × (List (Int × Int))) :=
 ((cartes_Of N) p0 p1).bind fun a0 =>
 bif (Int.ofNat a0.1.nodes.length) == (Int.ofNat a0.1.nodes.length) then
  (makeO (Int.ofNat a0.1.nodes.length) (0 : Int)).bind fun l1 =>
  (loopN N) (heater_made_l4 N) (Int.ofNat l1.length, 0, 0, a0.1.root, a0.1.nodes, l1)
 else
  none
noncomputable def c51 (N : Nat) : Con := ⟨Args.cons (Arg.agg Field_c) (Args.one (Arg.agg (Cod.row kii))), Arg.tup (Args.cons (Arg.agg Tree_c) (Args.one (Arg.sl kii))), fun a => (heater_made N) a.1 a.2, .frz, false⟩
theorem c51_ok (N : Nat) : ConOK tab 51 (c51 N) := ConOK.of tab_51 (cx := (mkCx (loopL N) [(30, (c30 N))] [] [] [])) rfl (CxOK.make ⟨(c30_ok N), trivial⟩ trivial trivial) (fun a => by kernel_rfl)
noncomputable def slices_Equal_52_l1 (_ : Nat) (s : ((List (Int × Int × Int)) × (List (Int × Int × Int)) × Int × Int)) : Option (Step ((List (Int × Int × Int)) × (List (Int × Int × Int)) × Int × Int) Bool) :=
 bif decide (s.2.2.2 < s.2.2.1) then
  (geti s.1 s.2.2.2).bind fun a0 =>
  (geti s.2.1 s.2.2.2).bind fun a1 =>
  bif !((a0.1 == a1.1) && ((a0.2.1 == a1.2.1) && (a0.2.2 == a1.2.2))) then
   some (.done false)
  else
   some (.next (s.1, s.2.1, s.2.2.1, wrapF .i64 (s.2.2.2 + 1)))
 else
  some (.done true)
noncomputable def slices_Equal_52 (N : Nat) (p0 : List (Int × Int × Int)) (p1 : List (Int × Int × Int)) : Option Bool :=
 bif (Int.ofNat p0.length) != (Int.ofNat p1.length) then
  some false
 else
  (loopN N) (slices_Equal_52_l1 N) (p0, p1, Int.ofNat p0.length, 0)
noncomputable def c52 (N : Nat) : Con := ⟨Args.cons (Arg.sl kiii) (Args.one (Arg.sl kiii)), Arg.bool, fun a => (slices_Equal_52 N) a.1 a.2, .pure, false⟩
theorem c52_ok (N : Nat) : ConOK tab 52 (c52 N) := ConOK.of tab_52 (cx := (mkCx (loopL N) [] [] [] [])) rfl (CxOK.make trivial trivial trivial) (fun a => by kernel_rfl)
noncomputable def slices_Index_87_l1 (_ : Nat) (s : ((List (Int × Int)) × Int × Int × Int × Int)) : Option (Step ((List (Int × Int)) × Int × Int × Int × Int) Int) :=
 bif decide (s.2.2.1 < s.2.1) then
  (geti s.1 s.2.2.1).bind fun a0 =>
  bif (s.2.2.2.1 == a0.1) && (s.2.2.2.2 == a0.2) then
   some (.done s.2.2.1)
  else
   some (.next (s.1, s.2.1, wrapF .i64 (s.2.2.1 + 1), s.2.2.2))
 else
  some (.done (-1))
noncomputable def slices_Index_87 (N : Nat) (p0 : List (Int × Int)) (p1 : Int × Int) : Option Int :=
 (loopN N) (slices_Index_87_l1 N) (p0, Int.ofNat p0.length, 0, p1)
noncomputable def c87 (N : Nat) : Con := ⟨Args.cons (Arg.sl kii) (Args.one (Arg.agg (Cod.row kii))), Arg.int .i64, fun a => (slices_Index_87 N) a.1 a.2, .pure, false⟩
theorem c87_ok (N : Nat) : ConOK tab 87 (c87 N) := ConOK.of tab_87 (cx := (mkCx (loopL N) [] [] [] [])) rfl (CxOK.make trivial trivial trivial) (fun a => by kernel_rfl)
noncomputable def slices_Contains_59 (N : Nat) (p0 : List (Int × Int)) (p1 : Int × Int) : Option Bool :=
 ((slices_Index_87 N) p0 p1).bind fun n0 =>
 some (decide (0 ≤ n0))
noncomputable def c59 (N : Nat) : Con := ⟨Args.cons (Arg.sl kii) (Args.one (Arg.agg (Cod.row kii))), Arg.bool, fun a => (slices_Contains_59 N) a.1 a.2, .pure, false⟩
theorem c59_ok (N : Nat) : ConOK tab 59 (c59 N) := ConOK.of tab_59 (cx := (mkCx (loopL N) [(87, (c87 N))] [] [] [])) rfl (CxOK.make ⟨(c87_ok N), trivial⟩ trivial trivial) (fun a => by kernel_rfl)
noncomputable def heater_just_1 (N : Nat) (p0 : Int × Int × Int) (p1 : List (Int × Int)) : Option Bool :=
 ((slices_Contains_59 N) p1 p0.2).bind fun b0 =>
 some (!b0)
noncomputable def c81 (N : Nat) : Con := ⟨Args.cons (Arg.agg (Cod.row kiii)) (Args.one (Arg.ref (Cod.sl kii))), Arg.bool, fun a => (heater_just_1 N) a.1 a.2, .pure, false⟩
theorem c81_ok (N : Nat) : ConOK tab 81 (c81 N) := ConOK.of tab_81 (cx := (mkCx (loopL N) [(59, (c59 N))] [] [] [])) rfl (CxOK.make ⟨(c59_ok N), trivial⟩ trivial trivial) (fun a => by kernel_rfl)
noncomputable def slices_IndexFunc_116__heater_just_1_l1 (N : Nat) (s : ((List (Int × Int × Int)) × (List (Int × Int)) × Int × Int)) : Option (Step ((List (Int × Int × Int)) × (List (Int × Int)) × Int × Int) Int) :=
 bif decide (s.2.2.2 < s.2.2.1) then
  (geti s.1 s.2.2.2).bind fun a0 =>
  ((heater_just_1 N) a0 s.2.1).bind fun b1 =>
  bif b1 then
   some (.done s.2.2.2)
  else
   some (.next (s.1, s.2.1, s.2.2.1, wrapF .i64 (s.2.2.2 + 1)))
 else
  some (.done (-1))
noncomputable def slices_IndexFunc_116__heater_just_1 (N : Nat) (p0 : List (Int × Int × Int)) (p1 : (List (Int × Int))) : Option Int :=
 (loopN N) (slices_IndexFunc_116__heater_just_1_l1 N) (p0, p1, Int.ofNat p0.length, 0)
noncomputable def c116_81 (N : Nat) : Con := ⟨Args.cons (Arg.sl kiii) (Args.one (Arg.clo 81 (Args.one (Arg.ref (Cod.sl kii))))), Arg.int .i64, fun a => (slices_IndexFunc_116__heater_just_1 N) a.1 a.2, .pure, false⟩
theorem c116_81_ok (N : Nat) : ConOK tab 116 (c116_81 N) := ConOK.of tab_116 (cx := (mkCx (loopL N) [(81, (c81 N))] [] [] [])) rfl (CxOK.make ⟨(c81_ok N), trivial⟩ trivial trivial) (fun a => by kernel_rfl)
noncomputable def slices_ContainsFunc_82__heater_just_1 (N : Nat) (p0 : List (Int × Int × Int)) (p1 : (List (Int × Int))) : Option Bool :=
 ((slices_IndexFunc_116__heater_just_1 N) p0 p1).bind fun n0 =>
 some (decide (0 ≤ n0))
noncomputable def c82_81 (N : Nat) : Con := ⟨Args.cons (Arg.sl kiii) (Args.one (Arg.clo 81 (Args.one (Arg.ref (Cod.sl kii))))), Arg.bool, fun a => (slices_ContainsFunc_82__heater_just_1 N) a.1 a.2, .pure, false⟩
theorem c82_81_ok (N : Nat) : ConOK tab 82 (c82_81 N) := ConOK.of tab_82 (cx := (mkCx (loopL N) [(116, (c116_81 N))] [] [] [])) rfl (CxOK.make ⟨(c116_81_ok N), trivial⟩ trivial trivial) (fun a => by kernel_rfl)
noncomputable def heater_just (N : Nat) (p0 : Clock) (p1 : List (Int × Int)) : Option Bool :=
 bif (Int.ofNat p1.length) == (Int.ofNat p0.certs.list.length) then
  ((slices_ContainsFunc_82__heater_just_1 N) p0.certs.list p1).bind fun b0 =>
  some (!b0)
 else
  some false
noncomputable def c53 (N : Nat) : Con := ⟨Args.cons (Arg.agg Clock_c) (Args.one (Arg.sl kii)), Arg.bool, fun a => (heater_just N) a.1 a.2, .pure, false⟩
theorem c53_ok (N : Nat) : ConOK tab 53 (c53 N) := ConOK.of tab_53 (cx := (mkCx (loopL N) [(82, (c82_81 N))] [] [] [])) rfl (CxOK.make ⟨(c82_81_ok N), trivial⟩ trivial trivial) (fun a => by kernel_rfl)
noncomputable def heater_Check (N : Nat) (p0 : Heater) : Option Int :=
 ((clock_Check N) p0.clock).bind fun n0 =>
 bif n0 != 0 then
  some 8
 else
  ((heater_made N) p0.clock.field p0.clock.now).bind fun a1 =>
  bif a1.1.root != p0.tree.root then
   some 8
  else
   ((slices_Equal_52 N) a1.1.nodes p0.tree.nodes).bind fun b2 =>
   bif !b2 then
    some 8
   else
    ((heater_just N) p0.clock a1.2).bind fun b3 =>
    bif !b3 then
     some 8
    else
     some 0
noncomputable def c27 (N : Nat) : Con := ⟨Args.one (Arg.agg Heater_c), Arg.int .i64, fun a => (heater_Check N) a, .pure, false⟩
theorem c27_ok (N : Nat) : ConOK tab 27 (c27 N) := ConOK.of tab_27 (cx := (mkCx (loopL N) [(50, (c50 N)), (51, (c51 N)), (52, (c52 N)), (53, (c53 N))] [] [] [])) rfl (CxOK.make ⟨(c50_ok N), (c51_ok N), (c52_ok N), (c53_ok N), trivial⟩ trivial trivial) (fun a => by kernel_rfl)
noncomputable def field_find_1 (N : Nat) (p0 : Int × Int × Int) (p1 : Int) : Option Int :=
 ((cmp_Compare_66 N) p0.1 p1).bind fun n0 =>
 some n0
noncomputable def c65 (N : Nat) : Con := ⟨Args.cons (Arg.agg (Cod.row kiii)) (Args.one (Arg.int .i64)), Arg.int .i64, fun a => (field_find_1 N) a.1 a.2, .pure, false⟩
theorem c65_ok (N : Nat) : ConOK tab 65 (c65 N) := ConOK.of tab_65 (cx := (mkCx (loopL N) [(66, (c66 N))] [] [] [])) rfl (CxOK.make ⟨(c66_ok N), trivial⟩ trivial trivial) (fun a => by kernel_rfl)
noncomputable def slices_BinarySearchFunc_64__field_find_1_l1 (N : Nat) (s : ((List (Int × Int × Int)) × Int × Int × Int × Int)) : Option (Step ((List (Int × Int × Int)) × Int × Int × Int × Int) (Int × Bool)) :=
 bif decide (s.2.2.2.1 < s.2.2.2.2) then
  (geti s.1 (wrapF .i64 (bShr .u64 (wrapF .u64 (wrapF .i64 (s.2.2.2.1 + s.2.2.2.2))) 1))).bind fun a0 =>
  ((field_find_1 N) a0 s.2.1).bind fun n1 =>
  bif decide (n1 < 0) then
   some (.next (s.1, s.2.1, s.2.2.1, wrapF .i64 ((wrapF .i64 (bShr .u64 (wrapF .u64 (wrapF .i64 (s.2.2.2.1 + s.2.2.2.2))) 1)) + 1), s.2.2.2.2))
  else
   some (.next (s.1, s.2.1, s.2.2.1, s.2.2.2.1, wrapF .i64 (bShr .u64 (wrapF .u64 (wrapF .i64 (s.2.2.2.1 + s.2.2.2.2))) 1)))
 else
  bif decide (s.2.2.2.1 < s.2.2.1) then
   (geti s.1 s.2.2.2.1).bind fun a2 =>
   ((field_find_1 N) a2 s.2.1).bind fun n3 =>
   some (.done (s.2.2.2.1, n3 == 0))
  else
   some (.done (s.2.2.2.1, false))
noncomputable def slices_BinarySearchFunc_64__field_find_1 (N : Nat) (p0 : List (Int × Int × Int)) (p1 : Int) (_ : Unit) : Option (Int × Bool) :=
 (loopN N) (slices_BinarySearchFunc_64__field_find_1_l1 N) (p0, p1, Int.ofNat p0.length, 0, Int.ofNat p0.length)
noncomputable def c64_65 (N : Nat) : Con := ⟨Args.cons (Arg.sl kiii) (Args.cons (Arg.int .i64) (Args.one (Arg.clo 65 Args.nil))), Arg.tup (Args.cons (Arg.int .i64) (Args.one Arg.bool)), fun a => (slices_BinarySearchFunc_64__field_find_1 N) a.1 a.2.1 a.2.2, .pure, false⟩
theorem c64_65_ok (N : Nat) : ConOK tab 64 (c64_65 N) := ConOK.of tab_64 (cx := (mkCx (loopL N) [(65, (c65 N))] [] [] [])) rfl (CxOK.make ⟨(c65_ok N), trivial⟩ trivial trivial) (fun a => by kernel_rfl)
noncomputable def field_find (N : Nat) (p0 : Field) (p1 : Int) : Option (Int × Bool) :=
 ((slices_BinarySearchFunc_64__field_find_1 N) p0.points p1 ()).bind fun a0 =>
 some a0
noncomputable def c35 (N : Nat) : Con := ⟨Args.cons (Arg.agg Field_c) (Args.one (Arg.int .i64)), Arg.tup (Args.cons (Arg.int .i64) (Args.one Arg.bool)), fun a => (field_find N) a.1 a.2, .pure, false⟩
theorem c35_ok (N : Nat) : ConOK tab 35 (c35 N) := ConOK.of tab_35 (cx := (mkCx (loopL N) [(64, (c64_65 N))] [] [] [])) rfl (CxOK.make ⟨(c64_65_ok N), trivial⟩ trivial trivial) (fun a => by kernel_rfl)
theorem prim_37 : ConOK tab 37 (Con.clone kiii) := ConOK.clone tab_37 rfl
noncomputable def slices_Reverse_129_l1 (_ : Nat) (s : ((List (Int × Int × Int)) × Int × Int)) : Option (Step ((List (Int × Int × Int)) × Int × Int) Unit) :=
 bif decide (s.2.1 < s.2.2) then
  (geti s.1 s.2.2).bind fun _ =>
  (geti s.1 s.2.1).bind fun _ =>
  (geti s.1 s.2.1).bind fun _ =>
  none
 else
  some (.done ())
noncomputable def slices_Reverse_129 (N : Nat) (a : (List (Int × Int × Int))) : Option Unit :=
 (loopN N) (slices_Reverse_129_l1 N) (a, 0, wrapF .i64 ((Int.ofNat a.length) - 1))
noncomputable def f129_0 (N : Nat) : FpCon := ⟨[.l [.i .i64, .i .i64, .i .i64]], [.sl [.i .i64, .i .i64, .i .i64] []], [], [], .tup [], [], fun a => (slices_Reverse_129 N) a⟩
theorem f129_0_ok (N : Nat) : FpOK tab 129 (f129_0 N) := FpOK.of tab_129 (wd := false) (cx := (mkCx (loopL N) [] [] [] [])) (CxOK.make trivial trivial trivial) (fun a => by kernel_rfl)
noncomputable def slices_rotateLeft_99 (N : Nat) (p0 : List (Int × Int × Int)) (p1 : Int) : Option Unit :=
 (sliceO p0 0 p1).bind fun l0 =>
 ((slices_Reverse_129 N) l0).bind fun _ =>
 (sliceO p0 p1 (Int.ofNat p0.length)).bind fun l2 =>
 ((slices_Reverse_129 N) l2).bind fun _ =>
 ((slices_Reverse_129 N) p0).bind fun _ =>
 some ()
noncomputable def c99 (N : Nat) : Con := ⟨Args.cons (Arg.sl kiii) (Args.one (Arg.int .i64)), Arg.tup Args.nil, fun a => (slices_rotateLeft_99 N) a.1 a.2, .pure, false⟩
theorem c99_ok (N : Nat) : ConOK tab 99 (c99 N) := ConOK.of tab_99 (cx := (mkCx (loopL N) [] [(129, (f129_0 N))] [] [])) rfl (CxOK.make trivial ⟨(f129_0_ok N), trivial⟩ trivial) (fun a => by kernel_rfl)
noncomputable def slices_rotateRight_68 (N : Nat) (p0 : List (Int × Int × Int)) (p1 : Int) : Option Unit :=
 ((slices_rotateLeft_99 N) p0 (wrapF .i64 ((Int.ofNat p0.length) - p1))).bind fun _ =>
 some ()
noncomputable def c68 (N : Nat) : Con := ⟨Args.cons (Arg.sl kiii) (Args.one (Arg.int .i64)), Arg.tup Args.nil, fun a => (slices_rotateRight_68 N) a.1 a.2, .pure, false⟩
theorem c68_ok (N : Nat) : ConOK tab 68 (c68 N) := ConOK.of tab_68 (cx := (mkCx (loopL N) [(99, (c99 N))] [] [] [])) rfl (CxOK.make ⟨(c99_ok N), trivial⟩ trivial trivial) (fun a => by kernel_rfl)
noncomputable def field_Put (N : Nat) (p0 : Field) (p1 : Int × Int × Int) : Option (Field × Int) :=
 ((field_Check N) p0).bind fun n0 =>
 bif n0 != 0 then
  some (Field.mk [], n0)
 else
  ((course_Check N) p1).bind fun n1 =>
  bif n1 != 0 then
   some (Field.mk [], n1)
  else
   ((field_find N) p0 p1.1).bind fun a2 =>
   bif a2.2 then
    some (Field.mk [], 14)
   else
    bif (Int.ofNat p0.points.length) == 64 then
     some (Field.mk [], 18)
    else
     (cloneO p0.points).bind fun l3 =>
     bif ((decide (0 ≤ a2.1)) && (decide (a2.1 ≤ (Int.ofNat l3.length)))) && (decide ((Int.ofNat l3.length) ≤ (Int.ofNat l3.length))) then
      bif a2.1 == (Int.ofNat l3.length) then
       (appendO l3 [p1]).bind fun l4 =>
       some (Field.mk l4, 0)
      else
       none
     else
      none
noncomputable def c16 (N : Nat) : Con := ⟨Args.cons (Arg.agg Field_c) (Args.one (Arg.agg (Cod.row kiii))), Arg.tup (Args.cons (Arg.agg Field_c) (Args.one (Arg.int .i64))), fun a => (field_Put N) a.1 a.2, .frz, false⟩
theorem c16_ok (N : Nat) : ConOK tab 16 (c16 N) := ConOK.of tab_16 (cx := (mkCx (loopL N) [(33, (c33 N)), (34, (c34 N)), (35, (c35 N)), (37, Con.clone kiii), (68, (c68 N))] [] [(36, x36)] [])) rfl (CxOK.make ⟨(c33_ok N), (c34_ok N), (c35_ok N), prim_37, (c68_ok N), trivial⟩ trivial ⟨tab_36, trivial⟩) (fun a => by kernel_rfl)
noncomputable def eedit_Put_1 (N : Nat) (p0 : Field) (p1 : Int × Int × Int) : Option (Field × Int) :=
 ((field_Put N) p0 p1).bind fun a0 =>
 some a0
noncomputable def c15 (N : Nat) : Con := ⟨Args.cons (Arg.agg Field_c) (Args.one (Arg.ref (Cod.row kiii))), Arg.tup (Args.cons (Arg.agg Field_c) (Args.one (Arg.int .i64))), fun a => (eedit_Put_1 N) a.1 a.2, .frz, false⟩
theorem c15_ok (N : Nat) : ConOK tab 15 (c15 N) := ConOK.of tab_15 (cx := (mkCx (loopL N) [(16, (c16 N))] [] [] [])) rfl (CxOK.make ⟨(c16_ok N), trivial⟩ trivial trivial) (fun a => by kernel_rfl)
noncomputable def eedit_edges_l1 (_ : Nat) (s : (Int × (List (Int × Int × Int)) × Int × Int × Int × Int × Int × Int × (List (Int × Int × Int)) × (List Int))) : Option (Step (Int × (List (Int × Int × Int)) × Int × Int × Int × Int × Int × Int × (List (Int × Int × Int)) × (List Int)) (Step ((List (Int × Int × Int)) × Int × Int × Int × (List (Int × Int × Int)) × (List Int)) (List (Int × Int)))) :=
 bif decide (s.2.2.2.2.2.2.1 < 2) then
  bif s.2.2.2.2.2.2.1 == 0 then
   bif decide (0 ≤ s.2.2.2.2.1) then
    (geti s.2.2.2.2.2.2.2.2.2 s.2.2.2.2.1).bind fun _ =>
    some (.next (s.1, s.2.1, s.2.2.1, s.2.2.2.1, s.2.2.2.2.1, s.2.2.2.2.2.1, wrapF .i64 (s.2.2.2.2.2.2.1 + 1), s.2.2.2.2.2.2.2.1, s.2.2.2.2.2.2.2.2.1, seti s.2.2.2.2.2.2.2.2.2 s.2.2.2.2.1 s.1))
   else
    some (.next (s.1, s.2.1, s.2.2.1, s.2.2.2.1, s.2.2.2.2.1, s.2.2.2.2.2.1, wrapF .i64 (s.2.2.2.2.2.2.1 + 1), s.2.2.2.2.2.2.2))
  else
   bif s.2.2.2.2.2.2.1 == 1 then
    bif decide (0 ≤ s.2.2.2.2.2.1) then
     (geti s.2.2.2.2.2.2.2.2.2 s.2.2.2.2.2.1).bind fun _ =>
     some (.next (s.1, s.2.1, s.2.2.1, s.2.2.2.1, s.2.2.2.2.1, s.2.2.2.2.2.1, wrapF .i64 (s.2.2.2.2.2.2.1 + 1), s.2.2.2.2.2.2.2.1, s.2.2.2.2.2.2.2.2.1, seti s.2.2.2.2.2.2.2.2.2 s.2.2.2.2.2.1 s.1))
    else
     some (.next (s.1, s.2.1, s.2.2.1, s.2.2.2.1, s.2.2.2.2.1, s.2.2.2.2.2.1, wrapF .i64 (s.2.2.2.2.2.2.1 + 1), s.2.2.2.2.2.2.2))
   else
    none
 else
  some (.done (.next (s.2.1, s.2.2.1, wrapF .i64 (s.2.2.2.1 + 1), s.2.2.2.2.2.2.2)))
noncomputable def eedit_edges_l2 (_ : Nat) (s : ((List (Int × Int × Int)) × Int × Int × Int × (List (Int × Int × Int)) × (List Int) × (List (Int × Int)))) : Option (Step ((List (Int × Int × Int)) × Int × Int × Int × (List (Int × Int × Int)) × (List Int) × (List (Int × Int))) (Step ((List (Int × Int × Int)) × Int × Int × Int × (List (Int × Int × Int)) × (List Int)) (List (Int × Int)))) :=
 bif decide (s.2.2.1 < s.2.1) then
  (geti s.1 s.2.2.1).bind fun a0 =>
  bif s.2.2.1 != s.2.2.2.1 then
   (geti s.2.2.2.2.2.1 s.2.2.1).bind fun n1 =>
   (geti s.2.2.2.2.1 n1).bind fun a2 =>
   (appendO s.2.2.2.2.2.2 [(a0.1, a2.1)]).bind fun l3 =>
   some (.next (s.1, s.2.1, wrapF .i64 (s.2.2.1 + 1), s.2.2.2.1, s.2.2.2.2.1, s.2.2.2.2.2.1, l3))
  else
   some (.next (s.1, s.2.1, wrapF .i64 (s.2.2.1 + 1), s.2.2.2))
 else
  some (.done (.done s.2.2.2.2.2.2))
noncomputable def eedit_edges_l3 (N : Nat) (s : ((List (Int × Int × Int)) × Int × Int × Int × (List (Int × Int × Int)) × (List Int))) : Option (Step ((List (Int × Int × Int)) × Int × Int × Int × (List (Int × Int × Int)) × (List Int)) (List (Int × Int))) :=
 bif decide (s.2.2.1 < s.2.1) then
  (geti s.1 s.2.2.1).bind fun a0 =>
  (loopN N) (eedit_edges_l1 N) (s.2.2.1, s.1, s.2.1, s.2.2.1, a0.2.1, a0.2.2, 0, s.2.2.2)
 else
  (loopN N) (eedit_edges_l2 N) (s.2.2.2.2.1, Int.ofNat s.2.2.2.2.1.length, 0, s.2.2.2.1, s.2.2.2.2.1, s.2.2.2.2.2, [])
noncomputable def eedit_edges (N : Nat) (p0 : Tree) : Option (List (Int × Int)) :=
 bif (Int.ofNat p0.nodes.length) == (Int.ofNat p0.nodes.length) then
  (makeO (Int.ofNat p0.nodes.length) (0 : Int)).bind fun l0 =>
  (loopN N) (eedit_edges_l3 N) (p0.nodes, Int.ofNat p0.nodes.length, 0, p0.root, p0.nodes, l0)
 else
  none
noncomputable def c32 (N : Nat) : Con := ⟨Args.one (Arg.agg Tree_c), Arg.sl kii, fun a => (eedit_edges N) a, .frz, false⟩
theorem c32_ok (N : Nat) : ConOK tab 32 (c32 N) := ConOK.of tab_32 (cx := (mkCx (loopL N) [] [] [] [])) rfl (CxOK.make trivial trivial trivial) (fun a => by kernel_rfl)
noncomputable def field_place (N : Nat) (p0 : Field) (p1 : Int) : Option (Int × Int) :=
 ((field_Check N) p0).bind fun n0 =>
 bif n0 != 0 then
  some (0, n0)
 else
  ((field_find N) p0 p1).bind fun a1 =>
  bif !a1.2 then
   some (0, 6)
  else
   some (a1.1, 0)
noncomputable def c38 (N : Nat) : Con := ⟨Args.cons (Arg.agg Field_c) (Args.one (Arg.int .i64)), Arg.tup (Args.cons (Arg.int .i64) (Args.one (Arg.int .i64))), fun a => (field_place N) a.1 a.2, .pure, false⟩
theorem c38_ok (N : Nat) : ConOK tab 38 (c38 N) := ConOK.of tab_38 (cx := (mkCx (loopL N) [(33, (c33 N)), (35, (c35 N))] [] [] [])) rfl (CxOK.make ⟨(c33_ok N), (c35_ok N), trivial⟩ trivial trivial) (fun a => by kernel_rfl)
noncomputable def field_Find (N : Nat) (p0 : Field) (p1 : Int) : Option ((Int × Int × Int) × Int) :=
 ((field_place N) p0 p1).bind fun a0 =>
 bif a0.2 != 0 then
  some ((0, 0, 0), a0.2)
 else
  (geti p0.points a0.1).bind fun a1 =>
  some (a1, 0)
noncomputable def c60 (N : Nat) : Con := ⟨Args.cons (Arg.agg Field_c) (Args.one (Arg.int .i64)), Arg.tup (Args.cons (Arg.agg (Cod.row kiii)) (Args.one (Arg.int .i64))), fun a => (field_Find N) a.1 a.2, .pure, false⟩
theorem c60_ok (N : Nat) : ConOK tab 60 (c60 N) := ConOK.of tab_60 (cx := (mkCx (loopL N) [(38, (c38 N))] [] [] [])) rfl (CxOK.make ⟨(c38_ok N), trivial⟩ trivial trivial) (fun a => by kernel_rfl)
theorem prim_93 : ConOK tab 93 (Con.clone kiii) := ConOK.clone tab_93 rfl
theorem prim_94 : ConOK tab 94 (Con.clone kiii) := ConOK.clone tab_94 rfl
theorem prim_95 : ConOK tab 95 (Con.clone kiiiii) := ConOK.clone tab_95 rfl
theorem prim_96 : ConOK tab 96 (Con.clone ki) := ConOK.clone tab_96 rfl
noncomputable def kheap_twin (_ : Nat) (p0 : Clock) : Option Clock :=
 (cloneO p0.field.points).bind fun l0 =>
 (cloneO p0.certs.list).bind fun l1 =>
 (cloneO p0.due).bind fun l2 =>
 (cloneO p0.agenda.heap).bind fun l3 =>
 (cloneO p0.agenda.where_).bind fun l4 =>
 (cloneO p0.agenda.slots.uses).bind fun l5 =>
 (cloneO p0.agenda.slots.used).bind fun l6 =>
 (cloneO p0.agenda.slots.free).bind fun l7 =>
 some (Clock.mk p0.now (Field.mk l0) (Certs.mk p0.certs.next_ l1) (Agenda.mk (Slots.mk l5 l6 l7) l3 l4) l2)
noncomputable def c62 (N : Nat) : Con := ⟨Args.one (Arg.agg Clock_c), Arg.agg Clock_c, fun a => (kheap_twin N) a, .own, true⟩
noncomputable def c62p (N : Nat) : Con := ⟨Args.one (Arg.agg Clock_c), Arg.agg Clock_c, fun a => (kheap_twin N) a, .frz, false⟩
theorem c62_ok (N : Nat) : ConOK tab 62 (c62 N) := ConOK.of tab_62 (cx := (mkCx (loopL N) [(37, Con.clone kiii), (93, Con.clone kiii), (94, Con.clone kiii), (95, Con.clone kiiiii), (96, Con.clone ki), (97, Con.clone kb)] [] [] [])) rfl (CxOK.make ⟨prim_37, prim_93, prim_94, prim_95, prim_96, prim_97, trivial⟩ trivial trivial) (fun a => by kernel_rfl)
theorem c62p_ok (N : Nat) : ConOK tab 62 (c62p N) := ConOK.of tab_62 (cx := (mkCx (loopL N) [(37, Con.clone kiii), (93, Con.clone kiii), (94, Con.clone kiii), (95, Con.clone kiiiii), (96, Con.clone ki), (97, Con.clone kb)] [] [] [])) rfl (CxOK.make ⟨prim_37, prim_93, prim_94, prim_95, prim_96, prim_97, trivial⟩ trivial trivial) (fun a => by kernel_rfl)
noncomputable def cert_find_1 (N : Nat) (p0 : Int × Int × Int) (p1 : Int) : Option Int :=
 ((cmp_Compare_66 N) p0.1 p1).bind fun n0 =>
 some n0
noncomputable def c184 (N : Nat) : Con := ⟨Args.cons (Arg.agg (Cod.row kiii)) (Args.one (Arg.int .i64)), Arg.int .i64, fun a => (cert_find_1 N) a.1 a.2, .pure, false⟩
theorem c184_ok (N : Nat) : ConOK tab 184 (c184 N) := ConOK.of tab_184 (cx := (mkCx (loopL N) [(66, (c66 N))] [] [] [])) rfl (CxOK.make ⟨(c66_ok N), trivial⟩ trivial trivial) (fun a => by kernel_rfl)
noncomputable def slices_BinarySearchFunc_183__cert_find_1_l1 (N : Nat) (s : ((List (Int × Int × Int)) × Int × Int × Int × Int)) : Option (Step ((List (Int × Int × Int)) × Int × Int × Int × Int) (Int × Bool)) :=
 bif decide (s.2.2.2.1 < s.2.2.2.2) then
  (geti s.1 (wrapF .i64 (bShr .u64 (wrapF .u64 (wrapF .i64 (s.2.2.2.1 + s.2.2.2.2))) 1))).bind fun a0 =>
  ((cert_find_1 N) a0 s.2.1).bind fun n1 =>
  bif decide (n1 < 0) then
   some (.next (s.1, s.2.1, s.2.2.1, wrapF .i64 ((wrapF .i64 (bShr .u64 (wrapF .u64 (wrapF .i64 (s.2.2.2.1 + s.2.2.2.2))) 1)) + 1), s.2.2.2.2))
  else
   some (.next (s.1, s.2.1, s.2.2.1, s.2.2.2.1, wrapF .i64 (bShr .u64 (wrapF .u64 (wrapF .i64 (s.2.2.2.1 + s.2.2.2.2))) 1)))
 else
  bif decide (s.2.2.2.1 < s.2.2.1) then
   (geti s.1 s.2.2.2.1).bind fun a2 =>
   ((cert_find_1 N) a2 s.2.1).bind fun n3 =>
   some (.done (s.2.2.2.1, n3 == 0))
  else
   some (.done (s.2.2.2.1, false))
noncomputable def slices_BinarySearchFunc_183__cert_find_1 (N : Nat) (p0 : List (Int × Int × Int)) (p1 : Int) (_ : Unit) : Option (Int × Bool) :=
 (loopN N) (slices_BinarySearchFunc_183__cert_find_1_l1 N) (p0, p1, Int.ofNat p0.length, 0, Int.ofNat p0.length)
noncomputable def c183_184 (N : Nat) : Con := ⟨Args.cons (Arg.sl kiii) (Args.cons (Arg.int .i64) (Args.one (Arg.clo 184 Args.nil))), Arg.tup (Args.cons (Arg.int .i64) (Args.one Arg.bool)), fun a => (slices_BinarySearchFunc_183__cert_find_1 N) a.1 a.2.1 a.2.2, .pure, false⟩
theorem c183_184_ok (N : Nat) : ConOK tab 183 (c183_184 N) := ConOK.of tab_183 (cx := (mkCx (loopL N) [(184, (c184 N))] [] [] [])) rfl (CxOK.make ⟨(c184_ok N), trivial⟩ trivial trivial) (fun a => by kernel_rfl)
noncomputable def cert_find (N : Nat) (p0 : Certs) (p1 : Int) : Option (Int × Int) :=
 ((cert_Check N) p0).bind fun n0 =>
 bif n0 != 0 then
  some (0, n0)
 else
  ((slices_BinarySearchFunc_183__cert_find_1 N) p0.list p1 ()).bind fun a1 =>
  bif !a1.2 then
   some (0, 6)
  else
   some (a1.1, 0)
noncomputable def c170 (N : Nat) : Con := ⟨Args.cons (Arg.agg Certs_c) (Args.one (Arg.int .i64)), Arg.tup (Args.cons (Arg.int .i64) (Args.one (Arg.int .i64))), fun a => (cert_find N) a.1 a.2, .pure, false⟩
theorem c170_ok (N : Nat) : ConOK tab 170 (c170 N) := ConOK.of tab_170 (cx := (mkCx (loopL N) [(78, (c78 N)), (183, (c183_184 N))] [] [] [])) rfl (CxOK.make ⟨(c78_ok N), (c183_184_ok N), trivial⟩ trivial trivial) (fun a => by kernel_rfl)
noncomputable def slices_Delete_171 (_ : Nat) (a : (Int × Int × (List (Int × Int × Int)))) : Option (Nat × Nat × (List (Int × Int × Int))) :=
 bif (((decide (0 ≤ a.1)) && (decide (a.1 ≤ a.2.1))) && (decide (a.2.1 ≤ (Int.ofNat a.2.2.length)))) && (decide ((Int.ofNat a.2.2.length) ≤ (Int.ofNat a.2.2.length))) then
  bif a.1 == a.2.1 then
   bif a.2.2.length == a.2.2.length then
    some (a.2.2.length, a.2.2.length, a.2.2)
   else
    none
  else
   (sliceO a.2.2 0 a.1).bind fun _ =>
   bif ((decide (0 ≤ a.2.1)) && (decide (a.2.1 ≤ (Int.ofNat a.2.2.length)))) && (decide ((Int.ofNat a.2.2.length) ≤ (Int.ofNat a.2.2.length))) then
    bif ((a.2.2.drop (0 + a.2.1.toNat)).take (((Int.ofNat a.2.2.length).toNat) - a.2.1.toNat)).isEmpty then
     bif ((decide (0 ≤ (Int.ofNat a.1.toNat))) && (decide ((Int.ofNat a.1.toNat) ≤ (Int.ofNat a.2.2.length)))) && (decide ((Int.ofNat a.2.2.length) ≤ (Int.ofNat a.2.2.length))) then
      bif Nat.beq (((Int.ofNat a.2.2.length).toNat) - ((Int.ofNat a.1.toNat).toNat)) 0 then
       bif a.2.2.length == a.2.2.length then
        some (a.1.toNat, a.2.2.length, a.2.2)
       else
        none
      else
       bif (Nat.ble ((0 + ((Int.ofNat a.1.toNat).toNat)) + (((Int.ofNat a.2.2.length).toNat) - ((Int.ofNat a.1.toNat).toNat))) a.2.2.length) && (!false) then
        bif ((layL a.2.2 (0 + ((Int.ofNat a.1.toNat).toNat)) (List.replicate (((Int.ofNat a.2.2.length).toNat) - ((Int.ofNat a.1.toNat).toNat)) (0, 0, 0))).length) == a.2.2.length then
         some (a.1.toNat, a.2.2.length, layL a.2.2 (0 + ((Int.ofNat a.1.toNat).toNat)) (List.replicate (((Int.ofNat a.2.2.length).toNat) - ((Int.ofNat a.1.toNat).toNat)) (0, 0, 0)))
        else
         none
       else
        none
     else
      none
    else
     bif Nat.ble (a.1.toNat + (((a.2.2.drop (0 + a.2.1.toNat)).take (((Int.ofNat a.2.2.length).toNat) - a.2.1.toNat)).length)) a.2.2.length then
      bif (Nat.ble (a.1.toNat + (((a.2.2.drop (0 + a.2.1.toNat)).take (((Int.ofNat a.2.2.length).toNat) - a.2.1.toNat)).length)) a.2.2.length) && (!false) then
       bif ((decide (0 ≤ (Int.ofNat (a.1.toNat + (((a.2.2.drop (0 + a.2.1.toNat)).take (((Int.ofNat a.2.2.length).toNat) - a.2.1.toNat)).length))))) && (decide ((Int.ofNat (a.1.toNat + (((a.2.2.drop (0 + a.2.1.toNat)).take (((Int.ofNat a.2.2.length).toNat) - a.2.1.toNat)).length))) ≤ (Int.ofNat a.2.2.length)))) && (decide ((Int.ofNat a.2.2.length) ≤ (Int.ofNat a.2.2.length))) then
        bif Nat.beq (((Int.ofNat a.2.2.length).toNat) - ((Int.ofNat (a.1.toNat + (((a.2.2.drop (0 + a.2.1.toNat)).take (((Int.ofNat a.2.2.length).toNat) - a.2.1.toNat)).length))).toNat)) 0 then
         bif ((layL a.2.2 a.1.toNat ((a.2.2.drop (0 + a.2.1.toNat)).take (((Int.ofNat a.2.2.length).toNat) - a.2.1.toNat))).length) == a.2.2.length then
          some (a.1.toNat + (((a.2.2.drop (0 + a.2.1.toNat)).take (((Int.ofNat a.2.2.length).toNat) - a.2.1.toNat)).length), a.2.2.length, layL a.2.2 a.1.toNat ((a.2.2.drop (0 + a.2.1.toNat)).take (((Int.ofNat a.2.2.length).toNat) - a.2.1.toNat)))
         else
          none
        else
         bif (Nat.ble ((0 + ((Int.ofNat (a.1.toNat + (((a.2.2.drop (0 + a.2.1.toNat)).take (((Int.ofNat a.2.2.length).toNat) - a.2.1.toNat)).length))).toNat)) + (((Int.ofNat a.2.2.length).toNat) - ((Int.ofNat (a.1.toNat + (((a.2.2.drop (0 + a.2.1.toNat)).take (((Int.ofNat a.2.2.length).toNat) - a.2.1.toNat)).length))).toNat))) ((layL a.2.2 a.1.toNat ((a.2.2.drop (0 + a.2.1.toNat)).take (((Int.ofNat a.2.2.length).toNat) - a.2.1.toNat))).length)) && (!false) then
          bif ((layL (layL a.2.2 a.1.toNat ((a.2.2.drop (0 + a.2.1.toNat)).take (((Int.ofNat a.2.2.length).toNat) - a.2.1.toNat))) (0 + ((Int.ofNat (a.1.toNat + (((a.2.2.drop (0 + a.2.1.toNat)).take (((Int.ofNat a.2.2.length).toNat) - a.2.1.toNat)).length))).toNat)) (List.replicate (((Int.ofNat a.2.2.length).toNat) - ((Int.ofNat (a.1.toNat + (((a.2.2.drop (0 + a.2.1.toNat)).take (((Int.ofNat a.2.2.length).toNat) - a.2.1.toNat)).length))).toNat)) (0, 0, 0))).length) == a.2.2.length then
           some (a.1.toNat + (((a.2.2.drop (0 + a.2.1.toNat)).take (((Int.ofNat a.2.2.length).toNat) - a.2.1.toNat)).length), a.2.2.length, layL (layL a.2.2 a.1.toNat ((a.2.2.drop (0 + a.2.1.toNat)).take (((Int.ofNat a.2.2.length).toNat) - a.2.1.toNat))) (0 + ((Int.ofNat (a.1.toNat + (((a.2.2.drop (0 + a.2.1.toNat)).take (((Int.ofNat a.2.2.length).toNat) - a.2.1.toNat)).length))).toNat)) (List.replicate (((Int.ofNat a.2.2.length).toNat) - ((Int.ofNat (a.1.toNat + (((a.2.2.drop (0 + a.2.1.toNat)).take (((Int.ofNat a.2.2.length).toNat) - a.2.1.toNat)).length))).toNat)) (0, 0, 0)))
          else
           none
         else
          none
       else
        none
      else
       none
     else
      none
   else
    none
 else
  none
noncomputable def f171_0 (N : Nat) : FpCon := ⟨[.i, .i, .l [.i .i64, .i .i64, .i .i64]], [.own 0 false, .int .i64 0, .int .i64 0], [.arr [.i .i64, .i .i64, .i .i64] []], [.n, .n, .l [.i .i64, .i .i64, .i .i64]], .pre 0 0 0 false, [.arr [.i .i64, .i .i64, .i .i64] []], fun a => (slices_Delete_171 N) a⟩
theorem f171_0_ok (N : Nat) : FpOK tab 171 (f171_0 N) := FpOK.of tab_171 (wd := true) (cx := (mkCx (loopL N) [] [] [] [])) (CxOK.make trivial trivial trivial) (fun a => by kernel_rfl)
noncomputable def cert_Remove (N : Nat) (p0 : Certs) (p1 : Int) : Option (Certs × (Int × Int) × Int) :=
 ((cert_find N) p0 p1).bind fun a0 =>
 bif a0.2 != 0 then
  some (Certs.mk 0 [], (0, 0), a0.2)
 else
  (cloneO p0.list).bind fun l1 =>
  ((slices_Delete_171 N) (a0.1, wrapF .i64 (a0.1 + 1), l1)).bind fun a2 =>
  (geti p0.list a0.1).bind fun a3 =>
  some (Certs.mk p0.next_ (a2.2.2.take a2.1), a3.2, 0)
noncomputable def c149 (N : Nat) : Con := ⟨Args.cons (Arg.agg Certs_c) (Args.one (Arg.int .i64)), Arg.tup (Args.cons (Arg.agg Certs_c) (Args.cons (Arg.agg (Cod.row kii)) (Args.one (Arg.int .i64)))), fun a => (cert_Remove N) a.1 a.2, .frz, false⟩
theorem c149_ok (N : Nat) : ConOK tab 149 (c149 N) := ConOK.of tab_149 (cx := (mkCx (loopL N) [(170, (c170 N)), (93, Con.clone kiii)] [(171, (f171_0 N))] [] [])) rfl (CxOK.make ⟨(c170_ok N), prim_93, trivial⟩ ⟨(f171_0_ok N), trivial⟩ trivial) (fun a => by kernel_rfl)
noncomputable def clock_twin (_ : Nat) (p0 : Clock) : Option Clock :=
 (cloneO p0.field.points).bind fun l0 =>
 (cloneO p0.certs.list).bind fun l1 =>
 (cloneO p0.due).bind fun l2 =>
 (cloneO p0.agenda.heap).bind fun l3 =>
 (cloneO p0.agenda.where_).bind fun l4 =>
 (cloneO p0.agenda.slots.uses).bind fun l5 =>
 (cloneO p0.agenda.slots.used).bind fun l6 =>
 (cloneO p0.agenda.slots.free).bind fun l7 =>
 some (Clock.mk p0.now (Field.mk l0) (Certs.mk p0.certs.next_ l1) (Agenda.mk (Slots.mk l5 l6 l7) l3 l4) l2)
noncomputable def c122 (N : Nat) : Con := ⟨Args.one (Arg.agg Clock_c), Arg.agg Clock_c, fun a => (clock_twin N) a, .own, true⟩
noncomputable def c122p (N : Nat) : Con := ⟨Args.one (Arg.agg Clock_c), Arg.agg Clock_c, fun a => (clock_twin N) a, .frz, false⟩
theorem c122_ok (N : Nat) : ConOK tab 122 (c122 N) := ConOK.of tab_122 (cx := (mkCx (loopL N) [(37, Con.clone kiii), (93, Con.clone kiii), (94, Con.clone kiii), (95, Con.clone kiiiii), (96, Con.clone ki), (97, Con.clone kb)] [] [] [])) rfl (CxOK.make ⟨prim_37, prim_93, prim_94, prim_95, prim_96, prim_97, trivial⟩ trivial trivial) (fun a => by kernel_rfl)
theorem c122p_ok (N : Nat) : ConOK tab 122 (c122p N) := ConOK.of tab_122 (cx := (mkCx (loopL N) [(37, Con.clone kiii), (93, Con.clone kiii), (94, Con.clone kiii), (95, Con.clone kiiiii), (96, Con.clone ki), (97, Con.clone kb)] [] [] [])) rfl (CxOK.make ⟨prim_37, prim_93, prim_94, prim_95, prim_96, prim_97, trivial⟩ trivial trivial) (fun a => by kernel_rfl)
noncomputable def clock_place_1 (N : Nat) (p0 : Int × Int × Int) (p1 : Int) : Option Int :=
 ((cmp_Compare_66 N) p0.1 p1).bind fun n0 =>
 some n0
noncomputable def c152 (N : Nat) : Con := ⟨Args.cons (Arg.agg (Cod.row kiii)) (Args.one (Arg.int .i64)), Arg.int .i64, fun a => (clock_place_1 N) a.1 a.2, .pure, false⟩
theorem c152_ok (N : Nat) : ConOK tab 152 (c152 N) := ConOK.of tab_152 (cx := (mkCx (loopL N) [(66, (c66 N))] [] [] [])) rfl (CxOK.make ⟨(c66_ok N), trivial⟩ trivial trivial) (fun a => by kernel_rfl)
noncomputable def slices_BinarySearchFunc_151__clock_place_1_l1 (N : Nat) (s : ((List (Int × Int × Int)) × Int × Int × Int × Int)) : Option (Step ((List (Int × Int × Int)) × Int × Int × Int × Int) (Int × Bool)) :=
 bif decide (s.2.2.2.1 < s.2.2.2.2) then
  (geti s.1 (wrapF .i64 (bShr .u64 (wrapF .u64 (wrapF .i64 (s.2.2.2.1 + s.2.2.2.2))) 1))).bind fun a0 =>
  ((clock_place_1 N) a0 s.2.1).bind fun n1 =>
  bif decide (n1 < 0) then
   some (.next (s.1, s.2.1, s.2.2.1, wrapF .i64 ((wrapF .i64 (bShr .u64 (wrapF .u64 (wrapF .i64 (s.2.2.2.1 + s.2.2.2.2))) 1)) + 1), s.2.2.2.2))
  else
   some (.next (s.1, s.2.1, s.2.2.1, s.2.2.2.1, wrapF .i64 (bShr .u64 (wrapF .u64 (wrapF .i64 (s.2.2.2.1 + s.2.2.2.2))) 1)))
 else
  bif decide (s.2.2.2.1 < s.2.2.1) then
   (geti s.1 s.2.2.2.1).bind fun a2 =>
   ((clock_place_1 N) a2 s.2.1).bind fun n3 =>
   some (.done (s.2.2.2.1, n3 == 0))
  else
   some (.done (s.2.2.2.1, false))
noncomputable def slices_BinarySearchFunc_151__clock_place_1 (N : Nat) (p0 : List (Int × Int × Int)) (p1 : Int) (_ : Unit) : Option (Int × Bool) :=
 (loopN N) (slices_BinarySearchFunc_151__clock_place_1_l1 N) (p0, p1, Int.ofNat p0.length, 0, Int.ofNat p0.length)
noncomputable def c151_152 (N : Nat) : Con := ⟨Args.cons (Arg.sl kiii) (Args.cons (Arg.int .i64) (Args.one (Arg.clo 152 Args.nil))), Arg.tup (Args.cons (Arg.int .i64) (Args.one Arg.bool)), fun a => (slices_BinarySearchFunc_151__clock_place_1 N) a.1 a.2.1 a.2.2, .pure, false⟩
theorem c151_152_ok (N : Nat) : ConOK tab 151 (c151_152 N) := ConOK.of tab_151 (cx := (mkCx (loopL N) [(152, (c152 N))] [] [] [])) rfl (CxOK.make ⟨(c152_ok N), trivial⟩ trivial trivial) (fun a => by kernel_rfl)
noncomputable def clock_place (N : Nat) (p0 : List (Int × Int × Int)) (p1 : Int) : Option (Int × Bool) :=
 ((slices_BinarySearchFunc_151__clock_place_1 N) p0 p1 ()).bind fun a0 =>
 some a0
noncomputable def c123 (N : Nat) : Con := ⟨Args.cons (Arg.sl kiii) (Args.one (Arg.int .i64)), Arg.tup (Args.cons (Arg.int .i64) (Args.one Arg.bool)), fun a => (clock_place N) a.1 a.2, .pure, false⟩
theorem c123_ok (N : Nat) : ConOK tab 123 (c123 N) := ConOK.of tab_123 (cx := (mkCx (loopL N) [(151, (c151_152 N))] [] [] [])) rfl (CxOK.make ⟨(c151_152_ok N), trivial⟩ trivial trivial) (fun a => by kernel_rfl)
noncomputable def slot_Has (N : Nat) (p0 : Slots) (p1 : Int × Int) : Option (Bool × Int) :=
 ((slot_Check N) p0).bind fun n0 =>
 bif n0 != 0 then
  some (false, n0)
 else
  bif decide (0 ≤ p1.1) then
   bif decide (p1.1 < (Int.ofNat p0.used.length)) then
    (geti p0.used p1.1).bind fun b1 =>
    bif b1 then
     (geti p0.uses p1.1).bind fun n2 =>
     some (n2 == p1.2, 0)
    else
     some (false, 0)
   else
    some (false, 0)
  else
   some (false, 0)
noncomputable def c172 (N : Nat) : Con := ⟨Args.cons (Arg.agg Slots_c) (Args.one (Arg.agg (Cod.row kii))), Arg.tup (Args.cons Arg.bool (Args.one (Arg.int .i64))), fun a => (slot_Has N) a.1 a.2, .pure, false⟩
theorem c172_ok (N : Nat) : ConOK tab 172 (c172 N) := ConOK.of tab_172 (cx := (mkCx (loopL N) [(112, (c112 N))] [] [] [])) rfl (CxOK.make ⟨(c112_ok N), trivial⟩ trivial trivial) (fun a => by kernel_rfl)
noncomputable def agenda_place (N : Nat) (p0 : Agenda) (p1 : Int × Int) : Option (Int × Int) :=
 ((agenda_Check N) p0).bind fun n0 =>
 bif n0 != 0 then
  some (0, n0)
 else
  ((slot_Has N) p0.slots p1).bind fun a1 =>
  bif a1.2 != 0 then
   some (0, 6)
  else
   bif !a1.1 then
    some (0, 6)
   else
    (geti p0.where_ p1.1).bind fun n2 =>
    some (n2, 0)
noncomputable def c153 (N : Nat) : Con := ⟨Args.cons (Arg.agg Agenda_c) (Args.one (Arg.agg (Cod.row kii))), Arg.tup (Args.cons (Arg.int .i64) (Args.one (Arg.int .i64))), fun a => (agenda_place N) a.1 a.2, .pure, false⟩
theorem c153_ok (N : Nat) : ConOK tab 153 (c153 N) := ConOK.of tab_153 (cx := (mkCx (loopL N) [(79, (c79 N)), (172, (c172 N))] [] [] [])) rfl (CxOK.make ⟨(c79_ok N), (c172_ok N), trivial⟩ trivial trivial) (fun a => by kernel_rfl)
theorem prim_185 : ConOK tab 185 (Con.clone ki) := ConOK.clone tab_185 rfl
noncomputable def slot_stack_push (_ : Nat) (p0 : List Int) (p1 : Int) : Option (List Int) :=
 (cloneO p0).bind fun l0 =>
 (appendO l0 [p1]).bind fun l1 =>
 some l1
noncomputable def c186 (N : Nat) : Con := ⟨Args.cons (Arg.sl ki) (Args.one (Arg.int .i64)), Arg.sl ki, fun a => (slot_stack_push N) a.1 a.2, .frz, false⟩
theorem c186_ok (N : Nat) : ConOK tab 186 (c186 N) := ConOK.of tab_186 (cx := (mkCx (loopL N) [(185, Con.clone ki)] [] [] [])) rfl (CxOK.make ⟨prim_185, trivial⟩ trivial trivial) (fun a => by kernel_rfl)
noncomputable def slot_Give (N : Nat) (p0 : Slots) (p1 : Int × Int) : Option (Slots × Int) :=
 ((slot_Has N) p0 p1).bind fun a0 =>
 bif a0.2 != 0 then
  some (Slots.mk [] [] [], a0.2)
 else
  bif !a0.1 then
   some (Slots.mk [] [] [], 6)
  else
   (cloneO p0.uses).bind fun l1 =>
   (cloneO p0.used).bind fun l2 =>
   ((slot_stack_push N) p0.free p1.1).bind fun l3 =>
   (geti l2 p1.1).bind fun _ =>
   some (Slots.mk l1 (seti l2 p1.1 false) l3, 0)
noncomputable def c177 (N : Nat) : Con := ⟨Args.cons (Arg.agg Slots_c) (Args.one (Arg.agg (Cod.row kii))), Arg.tup (Args.cons (Arg.agg Slots_c) (Args.one (Arg.int .i64))), fun a => (slot_Give N) a.1 a.2, .frz, false⟩
theorem c177_ok (N : Nat) : ConOK tab 177 (c177 N) := ConOK.of tab_177 (cx := (mkCx (loopL N) [(172, (c172 N)), (96, Con.clone ki), (97, Con.clone kb), (186, (c186 N))] [] [(176, x176)] [])) rfl (CxOK.make ⟨(c172_ok N), prim_96, prim_97, (c186_ok N), trivial⟩ trivial ⟨tab_176, trivial⟩) (fun a => by kernel_rfl)
noncomputable def agenda_set (_ : Nat) (a : ((List Int) × (List Bool) × (List Int) × Nat × Nat × Int × Int × Int × Int × Int × Int × (List (Int × Int × Int × Int × Int)) × (List Int))) : Option ((List (Int × Int × Int × Int × Int)) × (List Int)) :=
 (geti (a.2.2.2.2.2.2.2.2.2.2.2.1.take a.2.2.2.1) a.2.2.2.2.2.1).bind fun _ =>
 (geti a.2.2.2.2.2.2.2.2.2.2.2.2 a.2.2.2.2.2.2.2.2.2.1).bind fun _ =>
 bif ((seti a.2.2.2.2.2.2.2.2.2.2.2.1 a.2.2.2.2.2.1 (a.2.2.2.2.2.2.1, a.2.2.2.2.2.2.2.1, a.2.2.2.2.2.2.2.2.1, a.2.2.2.2.2.2.2.2.2.1, a.2.2.2.2.2.2.2.2.2.2.1)).length) == a.2.2.2.2.2.2.2.2.2.2.2.1.length then
  bif ((seti a.2.2.2.2.2.2.2.2.2.2.2.2 a.2.2.2.2.2.2.2.2.2.1 a.2.2.2.2.2.1).length) == a.2.2.2.2.2.2.2.2.2.2.2.2.length then
   some (seti a.2.2.2.2.2.2.2.2.2.2.2.1 a.2.2.2.2.2.1 (a.2.2.2.2.2.2.1, a.2.2.2.2.2.2.2.1, a.2.2.2.2.2.2.2.2.1, a.2.2.2.2.2.2.2.2.2.1, a.2.2.2.2.2.2.2.2.2.2.1), seti a.2.2.2.2.2.2.2.2.2.2.2.2 a.2.2.2.2.2.2.2.2.2.1 a.2.2.2.2.2.1)
  else
   none
 else
  none
noncomputable def f173_0 (N : Nat) : FpCon := ⟨[.l [.i .i64], .l [.b], .l [.i .i64], .n, .n, .i, .i, .i, .i, .i, .i, .l [.i .i64, .i .i64, .i .i64, .i .i64, .i .i64], .l [.i .i64]], [.agg [.sl [.i .i64] [], .sl [.b] [], .sl [.i .i64] [], .pre 0 0 0 false, .own 1 false], .int .i64 0, .agg [.int .i64 0, .int .i64 0, .int .i64 0, .int .i64 0, .int .i64 0]], [.arr [.i .i64, .i .i64, .i .i64, .i .i64, .i .i64] [], .arr [.i .i64] []], [.l [.i .i64, .i .i64, .i .i64, .i .i64, .i .i64], .l [.i .i64]], .tup [], [.arr [.i .i64, .i .i64, .i .i64, .i .i64, .i .i64] [], .arr [.i .i64] []], fun a => (agenda_set N) a⟩
theorem f173_0_ok (N : Nat) : FpOK tab 173 (f173_0 N) := FpOK.of tab_173 (wd := false) (cx := (mkCx (loopL N) [] [] [] [])) (CxOK.make trivial trivial trivial) (fun a => by kernel_rfl)
noncomputable def agenda_settle_l1 (N : Nat) (c0 : ((List Int) × (List Bool) × (List Int) × Nat × Nat × Int × Int × Int × Int × Int × Int × (List (Int × Int × Int × Int × Int)) × (List Int))) (s : (Int × Int × (List (Int × Int × Int × Int × Int)) × (List Int) × (List Int) × (List Bool) × (List Int) × Nat × Nat × Int × Int × Int × Int × Int)) : Option (Step (Int × Int × (List (Int × Int × Int × Int × Int)) × (List Int) × (List Int) × (List Bool) × (List Int) × Nat × Nat × Int × Int × Int × Int × Int) (Step (Int × (List (Int × Int × Int × Int × Int)) × (List Int) × (List Int) × (List Bool) × (List Int) × Nat × Nat × Int × Int × Int × Int × Int) ((List (Int × Int × Int × Int × Int)) × (List Int)))) :=
 bif decide (s.2.1 < (Int.ofNat s.2.2.2.2.2.2.2.1)) then
  bif decide ((wrapF .i64 (s.2.1 + 1)) < (Int.ofNat s.2.2.2.2.2.2.2.1)) then
   (geti (s.2.2.1.take s.2.2.2.2.2.2.2.1) (wrapF .i64 (s.2.1 + 1))).bind fun a0 =>
   (geti (s.2.2.1.take s.2.2.2.2.2.2.2.1) s.2.1).bind fun a1 =>
   ((agenda_compare N) a0 a1).bind fun n2 =>
   bif decide (n2 < 0) then
    (geti (s.2.2.1.take s.2.2.2.2.2.2.2.1) (wrapF .i64 (s.2.1 + 1))).bind fun a3 =>
    ((agenda_compare N) a3 s.2.2.2.2.2.2.2.2.2).bind fun n4 =>
    bif decide (0 ≤ n4) then
     ((agenda_set N) (s.2.2.2.2.1, s.2.2.2.2.2.1, s.2.2.2.2.2.2.1, s.2.2.2.2.2.2.2.1, s.2.2.2.2.2.2.2.2.1, s.1, s.2.2.2.2.2.2.2.2.2.1, s.2.2.2.2.2.2.2.2.2.2.1, s.2.2.2.2.2.2.2.2.2.2.2.1, s.2.2.2.2.2.2.2.2.2.2.2.2.1, s.2.2.2.2.2.2.2.2.2.2.2.2.2, s.2.2.1, s.2.2.2.1)).bind fun a5 =>
     bif a5.1.length == c0.2.2.2.2.2.2.2.2.2.2.2.1.length then
      bif a5.2.length == c0.2.2.2.2.2.2.2.2.2.2.2.2.length then
       some (.done (.done a5))
      else
       none
     else
      none
    else
     (geti (s.2.2.1.take s.2.2.2.2.2.2.2.1) (wrapF .i64 (s.2.1 + 1))).bind fun a6 =>
     ((agenda_set N) (s.2.2.2.2.1, s.2.2.2.2.2.1, s.2.2.2.2.2.2.1, s.2.2.2.2.2.2.2.1, s.2.2.2.2.2.2.2.2.1, s.1, a6.1, a6.2.1, a6.2.2.1, a6.2.2.2.1, a6.2.2.2.2, s.2.2.1, s.2.2.2.1)).bind fun a7 =>
     some (.next (wrapF .i64 (s.2.1 + 1), wrapF .i64 ((wrapF .i64 (2 * (wrapF .i64 (s.2.1 + 1)))) + 1), a7.1, a7.2, s.2.2.2.2))
   else
    (geti (s.2.2.1.take s.2.2.2.2.2.2.2.1) s.2.1).bind fun a8 =>
    ((agenda_compare N) a8 s.2.2.2.2.2.2.2.2.2).bind fun n9 =>
    bif decide (0 ≤ n9) then
     ((agenda_set N) (s.2.2.2.2.1, s.2.2.2.2.2.1, s.2.2.2.2.2.2.1, s.2.2.2.2.2.2.2.1, s.2.2.2.2.2.2.2.2.1, s.1, s.2.2.2.2.2.2.2.2.2.1, s.2.2.2.2.2.2.2.2.2.2.1, s.2.2.2.2.2.2.2.2.2.2.2.1, s.2.2.2.2.2.2.2.2.2.2.2.2.1, s.2.2.2.2.2.2.2.2.2.2.2.2.2, s.2.2.1, s.2.2.2.1)).bind fun a10 =>
     bif a10.1.length == c0.2.2.2.2.2.2.2.2.2.2.2.1.length then
      bif a10.2.length == c0.2.2.2.2.2.2.2.2.2.2.2.2.length then
       some (.done (.done a10))
      else
       none
     else
      none
    else
     (geti (s.2.2.1.take s.2.2.2.2.2.2.2.1) s.2.1).bind fun a11 =>
     ((agenda_set N) (s.2.2.2.2.1, s.2.2.2.2.2.1, s.2.2.2.2.2.2.1, s.2.2.2.2.2.2.2.1, s.2.2.2.2.2.2.2.2.1, s.1, a11.1, a11.2.1, a11.2.2.1, a11.2.2.2.1, a11.2.2.2.2, s.2.2.1, s.2.2.2.1)).bind fun a12 =>
     some (.next (s.2.1, wrapF .i64 ((wrapF .i64 (2 * s.2.1)) + 1), a12.1, a12.2, s.2.2.2.2))
  else
   (geti (s.2.2.1.take s.2.2.2.2.2.2.2.1) s.2.1).bind fun a13 =>
   ((agenda_compare N) a13 s.2.2.2.2.2.2.2.2.2).bind fun n14 =>
   bif decide (0 ≤ n14) then
    ((agenda_set N) (s.2.2.2.2.1, s.2.2.2.2.2.1, s.2.2.2.2.2.2.1, s.2.2.2.2.2.2.2.1, s.2.2.2.2.2.2.2.2.1, s.1, s.2.2.2.2.2.2.2.2.2.1, s.2.2.2.2.2.2.2.2.2.2.1, s.2.2.2.2.2.2.2.2.2.2.2.1, s.2.2.2.2.2.2.2.2.2.2.2.2.1, s.2.2.2.2.2.2.2.2.2.2.2.2.2, s.2.2.1, s.2.2.2.1)).bind fun a15 =>
    bif a15.1.length == c0.2.2.2.2.2.2.2.2.2.2.2.1.length then
     bif a15.2.length == c0.2.2.2.2.2.2.2.2.2.2.2.2.length then
      some (.done (.done a15))
     else
      none
    else
     none
   else
    (geti (s.2.2.1.take s.2.2.2.2.2.2.2.1) s.2.1).bind fun a16 =>
    ((agenda_set N) (s.2.2.2.2.1, s.2.2.2.2.2.1, s.2.2.2.2.2.2.1, s.2.2.2.2.2.2.2.1, s.2.2.2.2.2.2.2.2.1, s.1, a16.1, a16.2.1, a16.2.2.1, a16.2.2.2.1, a16.2.2.2.2, s.2.2.1, s.2.2.2.1)).bind fun a17 =>
    some (.next (s.2.1, wrapF .i64 ((wrapF .i64 (2 * s.2.1)) + 1), a17.1, a17.2, s.2.2.2.2))
 else
  ((agenda_set N) (s.2.2.2.2.1, s.2.2.2.2.2.1, s.2.2.2.2.2.2.1, s.2.2.2.2.2.2.2.1, s.2.2.2.2.2.2.2.2.1, s.1, s.2.2.2.2.2.2.2.2.2.1, s.2.2.2.2.2.2.2.2.2.2.1, s.2.2.2.2.2.2.2.2.2.2.2.1, s.2.2.2.2.2.2.2.2.2.2.2.2.1, s.2.2.2.2.2.2.2.2.2.2.2.2.2, s.2.2.1, s.2.2.2.1)).bind fun a18 =>
  bif a18.1.length == c0.2.2.2.2.2.2.2.2.2.2.2.1.length then
   bif a18.2.length == c0.2.2.2.2.2.2.2.2.2.2.2.2.length then
    some (.done (.done a18))
   else
    none
  else
   none
noncomputable def agenda_settle_l2 (N : Nat) (c0 : ((List Int) × (List Bool) × (List Int) × Nat × Nat × Int × Int × Int × Int × Int × Int × (List (Int × Int × Int × Int × Int)) × (List Int))) (s : (Int × (List (Int × Int × Int × Int × Int)) × (List Int) × (List Int) × (List Bool) × (List Int) × Nat × Nat × Int × Int × Int × Int × Int)) : Option (Step (Int × (List (Int × Int × Int × Int × Int)) × (List Int) × (List Int) × (List Bool) × (List Int) × Nat × Nat × Int × Int × Int × Int × Int) ((List (Int × Int × Int × Int × Int)) × (List Int))) :=
 bif decide (0 < s.1) then
  (geti (s.2.1.take s.2.2.2.2.2.2.1) (wrapF .i64 (Int.tdiv (wrapF .i64 (s.1 - 1)) 2))).bind fun a0 =>
  ((agenda_compare N) s.2.2.2.2.2.2.2.2 a0).bind fun n1 =>
  bif decide (n1 < 0) then
   (geti (s.2.1.take s.2.2.2.2.2.2.1) (wrapF .i64 (Int.tdiv (wrapF .i64 (s.1 - 1)) 2))).bind fun a2 =>
   ((agenda_set N) (s.2.2.2.1, s.2.2.2.2.1, s.2.2.2.2.2.1, s.2.2.2.2.2.2.1, s.2.2.2.2.2.2.2.1, s.1, a2.1, a2.2.1, a2.2.2.1, a2.2.2.2.1, a2.2.2.2.2, s.2.1, s.2.2.1)).bind fun a3 =>
   some (.next (wrapF .i64 (Int.tdiv (wrapF .i64 (s.1 - 1)) 2), a3.1, a3.2, s.2.2.2))
  else
   (loopN N) ((agenda_settle_l1 N) c0) (s.1, wrapF .i64 ((wrapF .i64 (2 * s.1)) + 1), s.2)
 else
  (loopN N) ((agenda_settle_l1 N) c0) (s.1, wrapF .i64 ((wrapF .i64 (2 * s.1)) + 1), s.2)
noncomputable def agenda_settle (N : Nat) (a : ((List Int) × (List Bool) × (List Int) × Nat × Nat × Int × Int × Int × Int × Int × Int × (List (Int × Int × Int × Int × Int)) × (List Int))) : Option ((List (Int × Int × Int × Int × Int)) × (List Int)) :=
 (loopN N) ((agenda_settle_l2 N) a) (a.2.2.2.2.2.1, a.2.2.2.2.2.2.2.2.2.2.2.1, a.2.2.2.2.2.2.2.2.2.2.2.2, a.1, a.2.1, a.2.2.1, a.2.2.2.1, a.2.2.2.2.1, a.2.2.2.2.2.2.1, a.2.2.2.2.2.2.2.1, a.2.2.2.2.2.2.2.2.1, a.2.2.2.2.2.2.2.2.2.1, a.2.2.2.2.2.2.2.2.2.2.1)
noncomputable def f155_0 (N : Nat) : FpCon := ⟨[.l [.i .i64], .l [.b], .l [.i .i64], .n, .n, .i, .i, .i, .i, .i, .i, .l [.i .i64, .i .i64, .i .i64, .i .i64, .i .i64], .l [.i .i64]], [.agg [.sl [.i .i64] [], .sl [.b] [], .sl [.i .i64] [], .pre 0 0 0 false, .own 1 false], .int .i64 0, .agg [.int .i64 0, .int .i64 0, .int .i64 0, .int .i64 0, .int .i64 0]], [.arr [.i .i64, .i .i64, .i .i64, .i .i64, .i .i64] [], .arr [.i .i64] []], [.l [.i .i64, .i .i64, .i .i64, .i .i64, .i .i64], .l [.i .i64]], .tup [], [.arr [.i .i64, .i .i64, .i .i64, .i .i64, .i .i64] [], .arr [.i .i64] []], fun a => (agenda_settle N) a⟩
theorem f155_0_ok (N : Nat) : FpOK tab 155 (f155_0 N) := FpOK.of tab_155 (wd := false) (cx := (mkCx (loopL N) [(113, (c113 N))] [(173, (f173_0 N))] [] [])) (CxOK.make ⟨(c113_ok N), trivial⟩ ⟨(f173_0_ok N), trivial⟩ trivial) (fun a => by kernel_rfl)
noncomputable def agenda_remove (N : Nat) (p0 : Agenda) (p1 : Int) : Option (Agenda × (Int × Int × Int × Int × Int) × Int) :=
 (geti p0.heap p1).bind fun a0 =>
 ((slot_Give N) p0.slots a0.2.2.2).bind fun a1 =>
 bif a1.2 != 0 then
  some (Agenda.mk (Slots.mk [] [] []) [] [], (0, 0, 0, 0, 0), a1.2)
 else
  (cloneO p0.heap).bind fun l2 =>
  (cloneO p0.where_).bind fun l3 =>
  (geti l2 (wrapF .i64 ((Int.ofNat l2.length) - 1))).bind fun a4 =>
  (sliceO l2 0 (wrapF .i64 ((Int.ofNat l2.length) - 1))).bind fun _ =>
  (geti l3 a0.2.2.2.1).bind fun _ =>
  bif decide (p1 < (wrapF .i64 ((Int.ofNat l2.length) - 1))) then
   ((agenda_settle N) (a1.1.uses, a1.1.used, a1.1.free, (wrapF .i64 ((Int.ofNat l2.length) - 1)).toNat, l2.length, p1, a4.1, a4.2.1, a4.2.2.1, a4.2.2.2.1, a4.2.2.2.2, l2, seti l3 a0.2.2.2.1 (-1))).bind fun a7 =>
   some (Agenda.mk a1.1 (a7.1.take ((wrapF .i64 ((Int.ofNat l2.length) - 1)).toNat)) a7.2, a0, 0)
  else
   some (Agenda.mk a1.1 (l2.take ((wrapF .i64 ((Int.ofNat l2.length) - 1)).toNat)) (seti l3 a0.2.2.2.1 (-1)), a0, 0)
noncomputable def c159 (N : Nat) : Con := ⟨Args.cons (Arg.agg Agenda_c) (Args.one (Arg.int .i64)), Arg.tup (Args.cons (Arg.agg Agenda_c) (Args.cons (Arg.agg (Cod.row kiiiii)) (Args.one (Arg.int .i64)))), fun a => (agenda_remove N) a.1 a.2, .frz, false⟩
theorem c159_ok (N : Nat) : ConOK tab 159 (c159 N) := ConOK.of tab_159 (cx := (mkCx (loopL N) [(177, (c177 N)), (95, Con.clone kiiiii), (96, Con.clone ki)] [(155, (f155_0 N))] [(154, x154)] [])) rfl (CxOK.make ⟨(c177_ok N), prim_95, prim_96, trivial⟩ ⟨(f155_0_ok N), trivial⟩ ⟨tab_154, trivial⟩) (fun a => by kernel_rfl)
noncomputable def agenda_Remove (N : Nat) (p0 : Agenda) (p1 : Int × Int) : Option (Agenda × (Int × Int × Int × Int × Int) × Int) :=
 ((agenda_place N) p0 p1).bind fun a0 =>
 bif a0.2 != 0 then
  some (Agenda.mk (Slots.mk [] [] []) [] [], (0, 0, 0, 0, 0), a0.2)
 else
  ((agenda_remove N) p0 a0.1).bind fun a1 =>
  some a1
noncomputable def c126 (N : Nat) : Con := ⟨Args.cons (Arg.agg Agenda_c) (Args.one (Arg.agg (Cod.row kii))), Arg.tup (Args.cons (Arg.agg Agenda_c) (Args.cons (Arg.agg (Cod.row kiiiii)) (Args.one (Arg.int .i64)))), fun a => (agenda_Remove N) a.1 a.2, .frz, false⟩
theorem c126_ok (N : Nat) : ConOK tab 126 (c126 N) := ConOK.of tab_126 (cx := (mkCx (loopL N) [(153, (c153 N)), (159, (c159 N))] [] [] [])) rfl (CxOK.make ⟨(c153_ok N), (c159_ok N), trivial⟩ trivial trivial) (fun a => by kernel_rfl)
noncomputable def slices_Delete_150 (_ : Nat) (a : (Int × Int × (List (Int × Int × Int)))) : Option (Nat × Nat × (List (Int × Int × Int))) :=
 bif (((decide (0 ≤ a.1)) && (decide (a.1 ≤ a.2.1))) && (decide (a.2.1 ≤ (Int.ofNat a.2.2.length)))) && (decide ((Int.ofNat a.2.2.length) ≤ (Int.ofNat a.2.2.length))) then
  bif a.1 == a.2.1 then
   bif a.2.2.length == a.2.2.length then
    some (a.2.2.length, a.2.2.length, a.2.2)
   else
    none
  else
   (sliceO a.2.2 0 a.1).bind fun _ =>
   bif ((decide (0 ≤ a.2.1)) && (decide (a.2.1 ≤ (Int.ofNat a.2.2.length)))) && (decide ((Int.ofNat a.2.2.length) ≤ (Int.ofNat a.2.2.length))) then
    bif ((a.2.2.drop (0 + a.2.1.toNat)).take (((Int.ofNat a.2.2.length).toNat) - a.2.1.toNat)).isEmpty then
     bif ((decide (0 ≤ (Int.ofNat a.1.toNat))) && (decide ((Int.ofNat a.1.toNat) ≤ (Int.ofNat a.2.2.length)))) && (decide ((Int.ofNat a.2.2.length) ≤ (Int.ofNat a.2.2.length))) then
      bif Nat.beq (((Int.ofNat a.2.2.length).toNat) - ((Int.ofNat a.1.toNat).toNat)) 0 then
       bif a.2.2.length == a.2.2.length then
        some (a.1.toNat, a.2.2.length, a.2.2)
       else
        none
      else
       bif (Nat.ble ((0 + ((Int.ofNat a.1.toNat).toNat)) + (((Int.ofNat a.2.2.length).toNat) - ((Int.ofNat a.1.toNat).toNat))) a.2.2.length) && (!false) then
        bif ((layL a.2.2 (0 + ((Int.ofNat a.1.toNat).toNat)) (List.replicate (((Int.ofNat a.2.2.length).toNat) - ((Int.ofNat a.1.toNat).toNat)) (0, 0, 0))).length) == a.2.2.length then
         some (a.1.toNat, a.2.2.length, layL a.2.2 (0 + ((Int.ofNat a.1.toNat).toNat)) (List.replicate (((Int.ofNat a.2.2.length).toNat) - ((Int.ofNat a.1.toNat).toNat)) (0, 0, 0)))
        else
         none
       else
        none
     else
      none
    else
     bif Nat.ble (a.1.toNat + (((a.2.2.drop (0 + a.2.1.toNat)).take (((Int.ofNat a.2.2.length).toNat) - a.2.1.toNat)).length)) a.2.2.length then
      bif (Nat.ble (a.1.toNat + (((a.2.2.drop (0 + a.2.1.toNat)).take (((Int.ofNat a.2.2.length).toNat) - a.2.1.toNat)).length)) a.2.2.length) && (!false) then
       bif ((decide (0 ≤ (Int.ofNat (a.1.toNat + (((a.2.2.drop (0 + a.2.1.toNat)).take (((Int.ofNat a.2.2.length).toNat) - a.2.1.toNat)).length))))) && (decide ((Int.ofNat (a.1.toNat + (((a.2.2.drop (0 + a.2.1.toNat)).take (((Int.ofNat a.2.2.length).toNat) - a.2.1.toNat)).length))) ≤ (Int.ofNat a.2.2.length)))) && (decide ((Int.ofNat a.2.2.length) ≤ (Int.ofNat a.2.2.length))) then
        bif Nat.beq (((Int.ofNat a.2.2.length).toNat) - ((Int.ofNat (a.1.toNat + (((a.2.2.drop (0 + a.2.1.toNat)).take (((Int.ofNat a.2.2.length).toNat) - a.2.1.toNat)).length))).toNat)) 0 then
         bif ((layL a.2.2 a.1.toNat ((a.2.2.drop (0 + a.2.1.toNat)).take (((Int.ofNat a.2.2.length).toNat) - a.2.1.toNat))).length) == a.2.2.length then
          some (a.1.toNat + (((a.2.2.drop (0 + a.2.1.toNat)).take (((Int.ofNat a.2.2.length).toNat) - a.2.1.toNat)).length), a.2.2.length, layL a.2.2 a.1.toNat ((a.2.2.drop (0 + a.2.1.toNat)).take (((Int.ofNat a.2.2.length).toNat) - a.2.1.toNat)))
         else
          none
        else
         bif (Nat.ble ((0 + ((Int.ofNat (a.1.toNat + (((a.2.2.drop (0 + a.2.1.toNat)).take (((Int.ofNat a.2.2.length).toNat) - a.2.1.toNat)).length))).toNat)) + (((Int.ofNat a.2.2.length).toNat) - ((Int.ofNat (a.1.toNat + (((a.2.2.drop (0 + a.2.1.toNat)).take (((Int.ofNat a.2.2.length).toNat) - a.2.1.toNat)).length))).toNat))) ((layL a.2.2 a.1.toNat ((a.2.2.drop (0 + a.2.1.toNat)).take (((Int.ofNat a.2.2.length).toNat) - a.2.1.toNat))).length)) && (!false) then
          bif ((layL (layL a.2.2 a.1.toNat ((a.2.2.drop (0 + a.2.1.toNat)).take (((Int.ofNat a.2.2.length).toNat) - a.2.1.toNat))) (0 + ((Int.ofNat (a.1.toNat + (((a.2.2.drop (0 + a.2.1.toNat)).take (((Int.ofNat a.2.2.length).toNat) - a.2.1.toNat)).length))).toNat)) (List.replicate (((Int.ofNat a.2.2.length).toNat) - ((Int.ofNat (a.1.toNat + (((a.2.2.drop (0 + a.2.1.toNat)).take (((Int.ofNat a.2.2.length).toNat) - a.2.1.toNat)).length))).toNat)) (0, 0, 0))).length) == a.2.2.length then
           some (a.1.toNat + (((a.2.2.drop (0 + a.2.1.toNat)).take (((Int.ofNat a.2.2.length).toNat) - a.2.1.toNat)).length), a.2.2.length, layL (layL a.2.2 a.1.toNat ((a.2.2.drop (0 + a.2.1.toNat)).take (((Int.ofNat a.2.2.length).toNat) - a.2.1.toNat))) (0 + ((Int.ofNat (a.1.toNat + (((a.2.2.drop (0 + a.2.1.toNat)).take (((Int.ofNat a.2.2.length).toNat) - a.2.1.toNat)).length))).toNat)) (List.replicate (((Int.ofNat a.2.2.length).toNat) - ((Int.ofNat (a.1.toNat + (((a.2.2.drop (0 + a.2.1.toNat)).take (((Int.ofNat a.2.2.length).toNat) - a.2.1.toNat)).length))).toNat)) (0, 0, 0)))
          else
           none
         else
          none
       else
        none
      else
       none
     else
      none
   else
    none
 else
  none
noncomputable def f150_0 (N : Nat) : FpCon := ⟨[.i, .i, .l [.i .i64, .i .i64, .i .i64]], [.own 0 false, .int .i64 0, .int .i64 0], [.arr [.i .i64, .i .i64, .i .i64] []], [.n, .n, .l [.i .i64, .i .i64, .i .i64]], .pre 0 0 0 false, [.arr [.i .i64, .i .i64, .i .i64] []], fun a => (slices_Delete_150 N) a⟩
theorem f150_0_ok (N : Nat) : FpOK tab 150 (f150_0 N) := FpOK.of tab_150 (wd := true) (cx := (mkCx (loopL N) [] [] [] [])) (CxOK.make trivial trivial trivial) (fun a => by kernel_rfl)
noncomputable def clock_drop (N : Nat) (p0 : Clock) (p1 : Int) : Option (Clock × (Int × Int) × Int) :=
 ((cert_Remove N) p0.certs p1).bind fun a0 =>
 bif a0.2.2 != 0 then
  some (Clock.mk (0, 0) (Field.mk []) (Certs.mk 0 []) (Agenda.mk (Slots.mk [] [] []) [] []) [], a0.2)
 else
  ((clock_twin N) p0).bind fun r1 =>
  ((clock_place N) p0.due p1).bind fun a2 =>
  bif a2.2 then
   (geti p0.due a2.1).bind fun a3 =>
   ((agenda_Remove N) p0.agenda a3.2).bind fun a4 =>
   bif a4.2.2 != 0 then
    some (Clock.mk (0, 0) (Field.mk []) (Certs.mk 0 []) (Agenda.mk (Slots.mk [] [] []) [] []) [], a0.2.1, a4.2.2)
   else
    ((slices_Delete_150 N) (a2.1, wrapF .i64 (a2.1 + 1), r1.due)).bind fun a5 =>
    some (Clock.mk r1.now r1.field a0.1 a4.1 (a5.2.2.take a5.1), a0.2.1, 0)
  else
   some (Clock.mk r1.now r1.field a0.1 r1.agenda r1.due, a0.2.1, 0)
noncomputable def c121 (N : Nat) : Con := ⟨Args.cons (Arg.agg Clock_c) (Args.one (Arg.int .i64)), Arg.tup (Args.cons (Arg.agg Clock_c) (Args.cons (Arg.agg (Cod.row kii)) (Args.one (Arg.int .i64)))), fun a => (clock_drop N) a.1 a.2, .frz, false⟩
theorem c121_ok (N : Nat) : ConOK tab 121 (c121 N) := ConOK.of tab_121 (cx := (mkCx (loopL N) [(149, (c149 N)), (122, (c122 N)), (122, (c122p N)), (123, (c123 N)), (126, (c126 N))] [(150, (f150_0 N))] [] [])) rfl (CxOK.make ⟨(c149_ok N), (c122_ok N), (c122p_ok N), (c123_ok N), (c126_ok N), trivial⟩ ⟨(f150_0_ok N), trivial⟩ trivial) (fun a => by kernel_rfl)
noncomputable def clock_Retire (N : Nat) (p0 : Clock) (p1 : Int) : Option (Clock × Int) :=
 ((clock_Check N) p0).bind fun n0 =>
 bif n0 != 0 then
  some (Clock.mk (0, 0) (Field.mk []) (Certs.mk 0 []) (Agenda.mk (Slots.mk [] [] []) [] []) [], n0)
 else
  ((clock_drop N) p0 p1).bind fun a1 =>
  some (a1.1, a1.2.2)
noncomputable def c88 (N : Nat) : Con := ⟨Args.cons (Arg.agg Clock_c) (Args.one (Arg.int .i64)), Arg.tup (Args.cons (Arg.agg Clock_c) (Args.one (Arg.int .i64))), fun a => (clock_Retire N) a.1 a.2, .frz, false⟩
theorem c88_ok (N : Nat) : ConOK tab 88 (c88 N) := ConOK.of tab_88 (cx := (mkCx (loopL N) [(50, (c50 N)), (121, (c121 N))] [] [] [])) rfl (CxOK.make ⟨(c50_ok N), (c121_ok N), trivial⟩ trivial trivial) (fun a => by kernel_rfl)
noncomputable def slices_Equal_89_l1 (_ : Nat) (s : ((List (Int × Int × Int)) × (List (Int × Int × Int)) × Int × Int)) : Option (Step ((List (Int × Int × Int)) × (List (Int × Int × Int)) × Int × Int) Bool) :=
 bif decide (s.2.2.2 < s.2.2.1) then
  (geti s.1 s.2.2.2).bind fun a0 =>
  (geti s.2.1 s.2.2.2).bind fun a1 =>
  bif !((a0.1 == a1.1) && ((a0.2.1 == a1.2.1) && (a0.2.2 == a1.2.2))) then
   some (.done false)
  else
   some (.next (s.1, s.2.1, s.2.2.1, wrapF .i64 (s.2.2.2 + 1)))
 else
  some (.done true)
noncomputable def slices_Equal_89 (N : Nat) (p0 : List (Int × Int × Int)) (p1 : List (Int × Int × Int)) : Option Bool :=
 bif (Int.ofNat p0.length) != (Int.ofNat p1.length) then
  some false
 else
  (loopN N) (slices_Equal_89_l1 N) (p0, p1, Int.ofNat p0.length, 0)
noncomputable def c89 (N : Nat) : Con := ⟨Args.cons (Arg.sl kiii) (Args.one (Arg.sl kiii)), Arg.bool, fun a => (slices_Equal_89 N) a.1 a.2, .pure, false⟩
theorem c89_ok (N : Nat) : ConOK tab 89 (c89 N) := ConOK.of tab_89 (cx := (mkCx (loopL N) [] [] [] [])) rfl (CxOK.make trivial trivial trivial) (fun a => by kernel_rfl)
noncomputable def agenda_set_v1 (_ : Nat) (a : ((List Int) × (List Bool) × (List Int) × Int × Int × Int × Int × Int × Int × (List (Int × Int × Int × Int × Int)) × (List Int))) : Option ((List (Int × Int × Int × Int × Int)) × (List Int)) :=
 (geti a.2.2.2.2.2.2.2.2.2.1 a.2.2.2.1).bind fun _ =>
 (geti a.2.2.2.2.2.2.2.2.2.2 a.2.2.2.2.2.2.2.1).bind fun _ =>
 bif ((seti a.2.2.2.2.2.2.2.2.2.1 a.2.2.2.1 (a.2.2.2.2.1, a.2.2.2.2.2.1, a.2.2.2.2.2.2.1, a.2.2.2.2.2.2.2.1, a.2.2.2.2.2.2.2.2.1)).length) == a.2.2.2.2.2.2.2.2.2.1.length then
  bif ((seti a.2.2.2.2.2.2.2.2.2.2 a.2.2.2.2.2.2.2.1 a.2.2.2.1).length) == a.2.2.2.2.2.2.2.2.2.2.length then
   some (seti a.2.2.2.2.2.2.2.2.2.1 a.2.2.2.1 (a.2.2.2.2.1, a.2.2.2.2.2.1, a.2.2.2.2.2.2.1, a.2.2.2.2.2.2.2.1, a.2.2.2.2.2.2.2.2.1), seti a.2.2.2.2.2.2.2.2.2.2 a.2.2.2.2.2.2.2.1 a.2.2.2.1)
  else
   none
 else
  none
noncomputable def f173_1 (N : Nat) : FpCon := ⟨[.l [.i .i64], .l [.b], .l [.i .i64], .i, .i, .i, .i, .i, .i, .l [.i .i64, .i .i64, .i .i64, .i .i64, .i .i64], .l [.i .i64]], [.agg [.sl [.i .i64] [], .sl [.b] [], .sl [.i .i64] [], .own 0 false, .own 1 false], .int .i64 0, .agg [.int .i64 0, .int .i64 0, .int .i64 0, .int .i64 0, .int .i64 0]], [.arr [.i .i64, .i .i64, .i .i64, .i .i64, .i .i64] [], .arr [.i .i64] []], [.l [.i .i64, .i .i64, .i .i64, .i .i64, .i .i64], .l [.i .i64]], .tup [], [.arr [.i .i64, .i .i64, .i .i64, .i .i64, .i .i64] [], .arr [.i .i64] []], fun a => (agenda_set_v1 N) a⟩
theorem f173_1_ok (N : Nat) : FpOK tab 173 (f173_1 N) := FpOK.of tab_173 (wd := false) (cx := (mkCx (loopL N) [] [] [] [])) (CxOK.make trivial trivial trivial) (fun a => by kernel_rfl)
noncomputable def agenda_settle_v1_l1 (N : Nat) (c0 : ((List Int) × (List Bool) × (List Int) × Int × Int × Int × Int × Int × Int × (List (Int × Int × Int × Int × Int)) × (List Int))) (s : (Int × Int × (List (Int × Int × Int × Int × Int)) × (List Int) × (List Int) × (List Bool) × (List Int) × Int × Int × Int × Int × Int)) : Option (Step (Int × Int × (List (Int × Int × Int × Int × Int)) × (List Int) × (List Int) × (List Bool) × (List Int) × Int × Int × Int × Int × Int) (Step (Int × (List (Int × Int × Int × Int × Int)) × (List Int) × (List Int) × (List Bool) × (List Int) × Int × Int × Int × Int × Int) ((List (Int × Int × Int × Int × Int)) × (List Int)))) :=
 bif decide (s.2.1 < (Int.ofNat s.2.2.1.length)) then
  bif decide ((wrapF .i64 (s.2.1 + 1)) < (Int.ofNat s.2.2.1.length)) then
   (geti s.2.2.1 (wrapF .i64 (s.2.1 + 1))).bind fun a0 =>
   (geti s.2.2.1 s.2.1).bind fun a1 =>
   ((agenda_compare N) a0 a1).bind fun n2 =>
   bif decide (n2 < 0) then
    (geti s.2.2.1 (wrapF .i64 (s.2.1 + 1))).bind fun a3 =>
    ((agenda_compare N) a3 s.2.2.2.2.2.2.2).bind fun n4 =>
    bif decide (0 ≤ n4) then
     ((agenda_set_v1 N) (s.2.2.2.2.1, s.2.2.2.2.2.1, s.2.2.2.2.2.2.1, s.1, s.2.2.2.2.2.2.2.1, s.2.2.2.2.2.2.2.2.1, s.2.2.2.2.2.2.2.2.2.1, s.2.2.2.2.2.2.2.2.2.2.1, s.2.2.2.2.2.2.2.2.2.2.2, s.2.2.1, s.2.2.2.1)).bind fun a5 =>
     bif a5.1.length == c0.2.2.2.2.2.2.2.2.2.1.length then
      bif a5.2.length == c0.2.2.2.2.2.2.2.2.2.2.length then
       some (.done (.done a5))
      else
       none
     else
      none
    else
     (geti s.2.2.1 (wrapF .i64 (s.2.1 + 1))).bind fun a6 =>
     ((agenda_set_v1 N) (s.2.2.2.2.1, s.2.2.2.2.2.1, s.2.2.2.2.2.2.1, s.1, a6.1, a6.2.1, a6.2.2.1, a6.2.2.2.1, a6.2.2.2.2, s.2.2.1, s.2.2.2.1)).bind fun a7 =>
     some (.next (wrapF .i64 (s.2.1 + 1), wrapF .i64 ((wrapF .i64 (2 * (wrapF .i64 (s.2.1 + 1)))) + 1), a7.1, a7.2, s.2.2.2.2))
   else
    (geti s.2.2.1 s.2.1).bind fun a8 =>
    ((agenda_compare N) a8 s.2.2.2.2.2.2.2).bind fun n9 =>
    bif decide (0 ≤ n9) then
     ((agenda_set_v1 N) (s.2.2.2.2.1, s.2.2.2.2.2.1, s.2.2.2.2.2.2.1, s.1, s.2.2.2.2.2.2.2.1, s.2.2.2.2.2.2.2.2.1, s.2.2.2.2.2.2.2.2.2.1, s.2.2.2.2.2.2.2.2.2.2.1, s.2.2.2.2.2.2.2.2.2.2.2, s.2.2.1, s.2.2.2.1)).bind fun a10 =>
     bif a10.1.length == c0.2.2.2.2.2.2.2.2.2.1.length then
      bif a10.2.length == c0.2.2.2.2.2.2.2.2.2.2.length then
       some (.done (.done a10))
      else
       none
     else
      none
    else
     (geti s.2.2.1 s.2.1).bind fun a11 =>
     ((agenda_set_v1 N) (s.2.2.2.2.1, s.2.2.2.2.2.1, s.2.2.2.2.2.2.1, s.1, a11.1, a11.2.1, a11.2.2.1, a11.2.2.2.1, a11.2.2.2.2, s.2.2.1, s.2.2.2.1)).bind fun a12 =>
     some (.next (s.2.1, wrapF .i64 ((wrapF .i64 (2 * s.2.1)) + 1), a12.1, a12.2, s.2.2.2.2))
  else
   (geti s.2.2.1 s.2.1).bind fun a13 =>
   ((agenda_compare N) a13 s.2.2.2.2.2.2.2).bind fun n14 =>
   bif decide (0 ≤ n14) then
    ((agenda_set_v1 N) (s.2.2.2.2.1, s.2.2.2.2.2.1, s.2.2.2.2.2.2.1, s.1, s.2.2.2.2.2.2.2.1, s.2.2.2.2.2.2.2.2.1, s.2.2.2.2.2.2.2.2.2.1, s.2.2.2.2.2.2.2.2.2.2.1, s.2.2.2.2.2.2.2.2.2.2.2, s.2.2.1, s.2.2.2.1)).bind fun a15 =>
    bif a15.1.length == c0.2.2.2.2.2.2.2.2.2.1.length then
     bif a15.2.length == c0.2.2.2.2.2.2.2.2.2.2.length then
      some (.done (.done a15))
     else
      none
    else
     none
   else
    (geti s.2.2.1 s.2.1).bind fun a16 =>
    ((agenda_set_v1 N) (s.2.2.2.2.1, s.2.2.2.2.2.1, s.2.2.2.2.2.2.1, s.1, a16.1, a16.2.1, a16.2.2.1, a16.2.2.2.1, a16.2.2.2.2, s.2.2.1, s.2.2.2.1)).bind fun a17 =>
    some (.next (s.2.1, wrapF .i64 ((wrapF .i64 (2 * s.2.1)) + 1), a17.1, a17.2, s.2.2.2.2))
 else
  ((agenda_set_v1 N) (s.2.2.2.2.1, s.2.2.2.2.2.1, s.2.2.2.2.2.2.1, s.1, s.2.2.2.2.2.2.2.1, s.2.2.2.2.2.2.2.2.1, s.2.2.2.2.2.2.2.2.2.1, s.2.2.2.2.2.2.2.2.2.2.1, s.2.2.2.2.2.2.2.2.2.2.2, s.2.2.1, s.2.2.2.1)).bind fun a18 =>
  bif a18.1.length == c0.2.2.2.2.2.2.2.2.2.1.length then
   bif a18.2.length == c0.2.2.2.2.2.2.2.2.2.2.length then
    some (.done (.done a18))
   else
    none
  else
   none
noncomputable def agenda_settle_v1_l2 (N : Nat) (c0 : ((List Int) × (List Bool) × (List Int) × Int × Int × Int × Int × Int × Int × (List (Int × Int × Int × Int × Int)) × (List Int))) (s : (Int × (List (Int × Int × Int × Int × Int)) × (List Int) × (List Int) × (List Bool) × (List Int) × Int × Int × Int × Int × Int)) : Option (Step (Int × (List (Int × Int × Int × Int × Int)) × (List Int) × (List Int) × (List Bool) × (List Int) × Int × Int × Int × Int × Int) ((List (Int × Int × Int × Int × Int)) × (List Int))) :=
 bif decide (0 < s.1) then
  (geti s.2.1 (wrapF .i64 (Int.tdiv (wrapF .i64 (s.1 - 1)) 2))).bind fun a0 =>
  ((agenda_compare N) s.2.2.2.2.2.2 a0).bind fun n1 =>
  bif decide (n1 < 0) then
   (geti s.2.1 (wrapF .i64 (Int.tdiv (wrapF .i64 (s.1 - 1)) 2))).bind fun a2 =>
   ((agenda_set_v1 N) (s.2.2.2.1, s.2.2.2.2.1, s.2.2.2.2.2.1, s.1, a2.1, a2.2.1, a2.2.2.1, a2.2.2.2.1, a2.2.2.2.2, s.2.1, s.2.2.1)).bind fun a3 =>
   some (.next (wrapF .i64 (Int.tdiv (wrapF .i64 (s.1 - 1)) 2), a3.1, a3.2, s.2.2.2))
  else
   (loopN N) ((agenda_settle_v1_l1 N) c0) (s.1, wrapF .i64 ((wrapF .i64 (2 * s.1)) + 1), s.2)
 else
  (loopN N) ((agenda_settle_v1_l1 N) c0) (s.1, wrapF .i64 ((wrapF .i64 (2 * s.1)) + 1), s.2)
noncomputable def agenda_settle_v1 (N : Nat) (a : ((List Int) × (List Bool) × (List Int) × Int × Int × Int × Int × Int × Int × (List (Int × Int × Int × Int × Int)) × (List Int))) : Option ((List (Int × Int × Int × Int × Int)) × (List Int)) :=
 (loopN N) ((agenda_settle_v1_l2 N) a) (a.2.2.2.1, a.2.2.2.2.2.2.2.2.2.1, a.2.2.2.2.2.2.2.2.2.2, a.1, a.2.1, a.2.2.1, a.2.2.2.2.1, a.2.2.2.2.2.1, a.2.2.2.2.2.2.1, a.2.2.2.2.2.2.2.1, a.2.2.2.2.2.2.2.2.1)
noncomputable def f155_1 (N : Nat) : FpCon := ⟨[.l [.i .i64], .l [.b], .l [.i .i64], .i, .i, .i, .i, .i, .i, .l [.i .i64, .i .i64, .i .i64, .i .i64, .i .i64], .l [.i .i64]], [.agg [.sl [.i .i64] [], .sl [.b] [], .sl [.i .i64] [], .own 0 false, .own 1 false], .int .i64 0, .agg [.int .i64 0, .int .i64 0, .int .i64 0, .int .i64 0, .int .i64 0]], [.arr [.i .i64, .i .i64, .i .i64, .i .i64, .i .i64] [], .arr [.i .i64] []], [.l [.i .i64, .i .i64, .i .i64, .i .i64, .i .i64], .l [.i .i64]], .tup [], [.arr [.i .i64, .i .i64, .i .i64, .i .i64, .i .i64] [], .arr [.i .i64] []], fun a => (agenda_settle_v1 N) a⟩
theorem f155_1_ok (N : Nat) : FpOK tab 155 (f155_1 N) := FpOK.of tab_155 (wd := false) (cx := (mkCx (loopL N) [(113, (c113 N))] [(173, (f173_0 N)), (173, (f173_1 N))] [] [])) (CxOK.make ⟨(c113_ok N), trivial⟩ ⟨(f173_0_ok N), (f173_1_ok N), trivial⟩ trivial) (fun a => by kernel_rfl)
noncomputable def agenda_Rekey (N : Nat) (p0 : Agenda) (p1 : Int × Int) (p2 : Int × Int) : Option (Agenda × Int) :=
 ((agenda_Check N) p0).bind fun n0 =>
 ((ratio_Check N) p2).bind fun n1 =>
 bif (if n1 > n0 then n1 else n0) != 0 then
  some (Agenda.mk (Slots.mk [] [] []) [] [], if n1 > n0 then n1 else n0)
 else
  ((agenda_place N) p0 p1).bind fun a2 =>
  bif a2.2 != 0 then
   some (Agenda.mk (Slots.mk [] [] []) [] [], a2.2)
  else
   (cloneO p0.heap).bind fun l3 =>
   (cloneO p0.where_).bind fun l4 =>
   (geti l3 a2.1).bind fun a5 =>
   ((agenda_settle_v1 N) (p0.slots.uses, p0.slots.used, p0.slots.free, a2.1, p2.1, p2.2, a5.2.2.1, a5.2.2.2.1, a5.2.2.2.2, l3, l4)).bind fun a6 =>
   some (Agenda.mk p0.slots a6.1 a6.2, 0)
noncomputable def c124 (N : Nat) : Con := ⟨Args.cons (Arg.agg Agenda_c) (Args.cons (Arg.agg (Cod.row kii)) (Args.one (Arg.agg (Cod.row kii)))), Arg.tup (Args.cons (Arg.agg Agenda_c) (Args.one (Arg.int .i64))), fun a => (agenda_Rekey N) a.1 a.2.1 a.2.2, .frz, false⟩
theorem c124_ok (N : Nat) : ConOK tab 124 (c124 N) := ConOK.of tab_124 (cx := (mkCx (loopL N) [(79, (c79 N)), (77, (c77 N)), (153, (c153 N)), (95, Con.clone kiiiii), (96, Con.clone ki)] [(155, (f155_0 N)), (155, (f155_1 N))] [(154, x154)] [])) rfl (CxOK.make ⟨(c79_ok N), (c77_ok N), (c153_ok N), prim_95, prim_96, trivial⟩ ⟨(f155_0_ok N), (f155_1_ok N), trivial⟩ ⟨tab_154, trivial⟩) (fun a => by kernel_rfl)
noncomputable def agenda_Push_1 (_ : Nat) (p0 : Int × Int × Int × Int × Int) (p1 : Int) : Option Bool :=
 some (p0.2.2.1 == p1)
noncomputable def c157 (N : Nat) : Con := ⟨Args.cons (Arg.agg (Cod.row kiiiii)) (Args.one (Arg.ref (Cod.int .i64))), Arg.bool, fun a => (agenda_Push_1 N) a.1 a.2, .pure, false⟩
theorem c157_ok (N : Nat) : ConOK tab 157 (c157 N) := ConOK.of tab_157 (cx := (mkCx (loopL N) [] [] [] [])) rfl (CxOK.make trivial trivial trivial) (fun a => by kernel_rfl)
noncomputable def slices_IndexFunc_174__agenda_Push_1_l1 (N : Nat) (s : ((List (Int × Int × Int × Int × Int)) × Int × Int × Int)) : Option (Step ((List (Int × Int × Int × Int × Int)) × Int × Int × Int) Int) :=
 bif decide (s.2.2.2 < s.2.2.1) then
  (geti s.1 s.2.2.2).bind fun a0 =>
  ((agenda_Push_1 N) a0 s.2.1).bind fun b1 =>
  bif b1 then
   some (.done s.2.2.2)
  else
   some (.next (s.1, s.2.1, s.2.2.1, wrapF .i64 (s.2.2.2 + 1)))
 else
  some (.done (-1))
noncomputable def slices_IndexFunc_174__agenda_Push_1 (N : Nat) (p0 : List (Int × Int × Int × Int × Int)) (p1 : Int) : Option Int :=
 (loopN N) (slices_IndexFunc_174__agenda_Push_1_l1 N) (p0, p1, Int.ofNat p0.length, 0)
noncomputable def c174_157 (N : Nat) : Con := ⟨Args.cons (Arg.sl kiiiii) (Args.one (Arg.clo 157 (Args.one (Arg.ref (Cod.int .i64))))), Arg.int .i64, fun a => (slices_IndexFunc_174__agenda_Push_1 N) a.1 a.2, .pure, false⟩
theorem c174_157_ok (N : Nat) : ConOK tab 174 (c174_157 N) := ConOK.of tab_174 (cx := (mkCx (loopL N) [(157, (c157 N))] [] [] [])) rfl (CxOK.make ⟨(c157_ok N), trivial⟩ trivial trivial) (fun a => by kernel_rfl)
noncomputable def slices_ContainsFunc_156__agenda_Push_1 (N : Nat) (p0 : List (Int × Int × Int × Int × Int)) (p1 : Int) : Option Bool :=
 ((slices_IndexFunc_174__agenda_Push_1 N) p0 p1).bind fun n0 =>
 some (decide (0 ≤ n0))
noncomputable def c156_157 (N : Nat) : Con := ⟨Args.cons (Arg.sl kiiiii) (Args.one (Arg.clo 157 (Args.one (Arg.ref (Cod.int .i64))))), Arg.bool, fun a => (slices_ContainsFunc_156__agenda_Push_1 N) a.1 a.2, .pure, false⟩
theorem c156_157_ok (N : Nat) : ConOK tab 156 (c156_157 N) := ConOK.of tab_156 (cx := (mkCx (loopL N) [(174, (c174_157 N))] [] [] [])) rfl (CxOK.make ⟨(c174_157_ok N), trivial⟩ trivial trivial) (fun a => by kernel_rfl)
noncomputable def slot_stack_pop (_ : Nat) (p0 : List Int) : Option ((List Int) × Int) :=
 (sliceO p0 0 (wrapF .i64 ((Int.ofNat p0.length) - 1))).bind fun l0 =>
 (cloneO l0).bind fun l1 =>
 (geti p0 (wrapF .i64 ((Int.ofNat p0.length) - 1))).bind fun n2 =>
 some (l1, n2)
noncomputable def c175 (N : Nat) : Con := ⟨Args.one (Arg.sl ki), Arg.tup (Args.cons (Arg.sl ki) (Args.one (Arg.int .i64))), fun a => (slot_stack_pop N) a, .frz, false⟩
theorem c175_ok (N : Nat) : ConOK tab 175 (c175 N) := ConOK.of tab_175 (cx := (mkCx (loopL N) [(185, Con.clone ki)] [] [] [])) rfl (CxOK.make ⟨prim_185, trivial⟩ trivial trivial) (fun a => by kernel_rfl)
noncomputable def slot_Take (N : Nat) (p0 : Slots) : Option (Slots × (Int × Int) × Int) :=
 ((slot_Check N) p0).bind fun n0 =>
 bif n0 != 0 then
  some (Slots.mk [] [] [], (0, 0), n0)
 else
  bif (Int.ofNat p0.free.length) == 0 then
   some (Slots.mk [] [] [], (0, 0), 18)
  else
   ((slot_stack_pop N) p0.free).bind fun a1 =>
   (geti p0.uses a1.2).bind fun n2 =>
   bif n2 == 1000000 then
    some (Slots.mk [] [] [], (0, 0), 18)
   else
    (cloneO p0.uses).bind fun l3 =>
    (cloneO p0.used).bind fun l4 =>
    (geti l4 a1.2).bind fun _ =>
    (geti l3 a1.2).bind fun n6 =>
    (geti l3 a1.2).bind fun _ =>
    (geti (seti l3 a1.2 (wrapF .i64 (n6 + 1))) a1.2).bind fun n8 =>
    some (Slots.mk (seti l3 a1.2 (wrapF .i64 (n6 + 1))) (seti l4 a1.2 true) a1.1, (a1.2, n8), 0)
noncomputable def c158 (N : Nat) : Con := ⟨Args.one (Arg.agg Slots_c), Arg.tup (Args.cons (Arg.agg Slots_c) (Args.cons (Arg.agg (Cod.row kii)) (Args.one (Arg.int .i64)))), fun a => (slot_Take N) a, .frz, false⟩
theorem c158_ok (N : Nat) : ConOK tab 158 (c158 N) := ConOK.of tab_158 (cx := (mkCx (loopL N) [(112, (c112 N)), (175, (c175 N)), (96, Con.clone ki), (97, Con.clone kb)] [] [(176, x176)] [])) rfl (CxOK.make ⟨(c112_ok N), (c175_ok N), prim_96, prim_97, trivial⟩ trivial ⟨tab_176, trivial⟩) (fun a => by kernel_rfl)
noncomputable def agenda_Push (N : Nat) (p0 : Agenda) (p1 : Int × Int) (p2 : Int) : Option (Agenda × (Int × Int) × Int) :=
 ((agenda_Check N) p0).bind fun n0 =>
 ((ratio_Check N) p1).bind fun n1 =>
 bif (if n1 > n0 then n1 else n0) != 0 then
  some (Agenda.mk (Slots.mk [] [] []) [] [], (0, 0), if n1 > n0 then n1 else n0)
 else
  bif decide (p2 < 0) then
   some (Agenda.mk (Slots.mk [] [] []) [] [], (0, 0), 2)
  else
   bif decide (1000000 < p2) then
    some (Agenda.mk (Slots.mk [] [] []) [] [], (0, 0), 2)
   else
    ((slices_ContainsFunc_156__agenda_Push_1 N) p0.heap p2).bind fun b2 =>
    bif b2 then
     some (Agenda.mk (Slots.mk [] [] []) [] [], (0, 0), 14)
    else
     ((slot_Take N) p0.slots).bind fun a3 =>
     bif a3.2.2 != 0 then
      some (Agenda.mk (Slots.mk [] [] []) [] [], (0, 0), a3.2.2)
     else
      (cloneO p0.heap).bind fun l4 =>
      (cloneO p0.where_).bind fun l5 =>
      (appendO l4 [(p1.1, p1.2, p2, a3.2.1)]).bind fun l6 =>
      ((agenda_settle_v1 N) (a3.1.uses, a3.1.used, a3.1.free, wrapF .i64 ((Int.ofNat l6.length) - 1), p1.1, p1.2, p2, a3.2.1.1, a3.2.1.2, l6, l5)).bind fun a7 =>
      some (Agenda.mk a3.1 a7.1 a7.2, a3.2.1, 0)
noncomputable def c125 (N : Nat) : Con := ⟨Args.cons (Arg.agg Agenda_c) (Args.cons (Arg.agg (Cod.row kii)) (Args.one (Arg.int .i64))), Arg.tup (Args.cons (Arg.agg Agenda_c) (Args.cons (Arg.agg (Cod.row kii)) (Args.one (Arg.int .i64)))), fun a => (agenda_Push N) a.1 a.2.1 a.2.2, .frz, false⟩
theorem c125_ok (N : Nat) : ConOK tab 125 (c125 N) := ConOK.of tab_125 (cx := (mkCx (loopL N) [(79, (c79 N)), (77, (c77 N)), (156, (c156_157 N)), (158, (c158 N)), (95, Con.clone kiiiii), (96, Con.clone ki)] [(155, (f155_0 N)), (155, (f155_1 N))] [(154, x154)] [])) rfl (CxOK.make ⟨(c79_ok N), (c77_ok N), (c156_157_ok N), (c158_ok N), prim_95, prim_96, trivial⟩ ⟨(f155_0_ok N), (f155_1_ok N), trivial⟩ ⟨tab_154, trivial⟩) (fun a => by kernel_rfl)
end Go.Proofs.YtppeldaebnfmdabGreat
