/- Plain functions for what the functions of the seat compute. Printed by a program. -/
import Derived.Test.YtmlghnibpjlchaaGreatBVm3
import Derived.Test.YtmlghnibpjlchaaGreatBQXT
import Derived.Test.YtmlghnibpjlchaaGreatBQS1
set_option maxRecDepth 100000
namespace Go.Proofs.YtmlghnibpjlchaaGreat
open Go.Vm
noncomputable section
def eG (s:(Int×Int×Int×(List (Int×Int×Int))×Int×Int×Int)):Option (bH (Int×Int×Int×(List (Int×Int×Int))×Int×Int×Int) (bH (Int×Int×(List (Int×Int×Int))) Int)):=
 bif decide (s.2.1<s.1) then
  (aL s.2.2.2.1 s.2.1).bind fun a0=>
  bif (a0.2.1==s.2.2.2.2.2.1)&&(a0.2.2==s.2.2.2.2.2.2) then
   some (.done (.done 8))
  else
   some (.next (s.1,aA .i64 (s.2.1+1),s.2.2))
 else
  some (.done (.next (aA .i64 (s.1+1),s.2.2.1,s.2.2.2.1)))
def nM (s:(Int×Int×(List (Int×Int×Int)))):Option (bH (Int×Int×(List (Int×Int×Int))) Int):=
 bif decide (s.1<(Int.ofNat s.2.2.length)) then
  (aL s.2.2 s.1).bind fun a0=>
  (sK a0.2).bind fun b1=>
  bif !b1 then
   some (.done 8)
  else
   bif decide (a0.1<0) then
    some (.done 8)
   else
    bif decide (s.2.1<=a0.1) then
     some (.done 8)
    else
     bif decide (0<s.1) then
      (aL s.2.2 (aA .i64 (s.1-1))).bind fun a2=>
      bif decide (a0.1<=a2.1) then
       some (.done 8)
      else
       aK eG (s.1,0,s.2.1,s.2.2,a0)
     else
      aK eG (s.1,0,s.2.1,s.2.2,a0)
 else
  some (.done 0)
def qQ (p0:aW):Option Int:=
 bif decide (200<(Int.ofNat p0.list.length)) then
  some 8
 else
  bif decide (p0.next_<0) then
   some 8
  else
   bif decide (1000000<p0.next_) then
    some 8
   else
    aK nM (0,p0.next_,p0.list)
def aK3:bF:=⟨aB.one (aG.agg eV),aG.int .i64,fun a=>qQ a,.pure,false⟩
theorem T5:aF aT 121 aK3:=Oc aCC rfl aC [(170,aK2)] ⟨T4,trivial⟩ fun a=>by kernel_rfl
def AE (p0:aW) (p1:Int×Int):Option (aW×Int×Int):=
 (qQ p0).bind fun n0=>
 bif n0 !=0 then
  some (aW.mk 0 [],0,8)
 else
  (sK p1).bind fun b1=>
  bif !b1 then
   some (aW.mk 0 [],0,8)
  else
   (rS p0 p1).bind fun b2=>
   bif b2 then
    some (aW.mk 0 [],0,14)
   else
    bif (Int.ofNat p0.list.length)==200 then
     some (aW.mk 0 [],0,18)
    else
     bif p0.next_==1000000 then
      some (aW.mk 0 [],0,18)
     else
      (oW p0).bind fun r3=>
      (bM r3.list [(p0.next_,p1)]).bind fun l4=>
      some (aW.mk (aA .i64 (r3.next_+1)) l4,p0.next_,0)
def aM3:bF:=⟨aB.cons (aG.agg eV) (aB.one (aG.agg (bY.row gU))),aG.tup (aB.cons (aG.agg eV) (aB.cons (aG.int .i64) (aB.one (aG.int .i64)))),fun a=>AE a.1 a.2,.frz,false⟩
theorem aFy:aF aT 193 aM3:=Oc aDD rfl aC [(121,aK3),(170,aK2),(126,aFx),(73,c73),(73,aFk)] ⟨T5,T4,MK,RD,MG,trivial⟩ fun a=>by kernel_rfl
def jE (p0:aO) (p1:Int×Int):Option (aO×Int×Int):=
 (AE p0.certs p1).bind fun a0=>
 bif a0.2.2 !=0 then
  some (aO.mk (0,0) (Field.mk []) (aW.mk 0 []) (aJ.mk (aR.mk [] [] []) [] []) [],0,a0.2.2)
 else
  (kM p0).bind fun r1=>
  (oZ p0.field p1 p0.now).bind fun a2=>
  bif !a2.2 then
   some (aO.mk r1.now r1.field a0.1 r1.agenda r1.due,a0.2.1,0)
  else
   (eT p0.agenda.slots).bind fun b3=>
   bif !b3 then
    some (aO.mk (0,0) (Field.mk []) (aW.mk 0 []) (aJ.mk (aR.mk [] [] []) [] []) [],0,18)
   else
    (dI p0.agenda a2.1 a0.2.1).bind fun a4=>
    (bM r1.due [(a0.2.1,a4.2)]).bind fun l5=>
    some (aO.mk r1.now r1.field a0.1 a4.1 l5,a0.2.1,0)
def aM4:bF:=⟨aB.cons (aG.agg bR) (aB.one (aG.agg (bY.row gU))),aG.tup (aB.cons (aG.agg bR) (aB.cons (aG.int .i64) (aB.one (aG.int .i64)))),fun a=>jE a.1 a.2,.frz,false⟩
theorem aFz:aF aT 149 aM4:=Oc aC1 rfl aC [(193,aM3),(32,c32),(32,YB),(124,aFt),(191,aK0),(192,aK1)] ⟨aFy,MH,GM,MJ,T2,T3,trivial⟩ fun a=>by kernel_rfl
def cV (s:((List (Int×Int))×Int×Int×Int×Int×Int×Int×(List (Int×Int×Int))×Int×(List (Int×Int×Int))×(List Int)×(List Bool)×(List Int)×(List (Int×Int×Int×Int×Int))×(List Int)×(List (Int×Int×Int)))):Option (bH ((List (Int×Int))×Int×Int×Int×Int×Int×Int×(List (Int×Int×Int))×Int×(List (Int×Int×Int))×(List Int)×(List Bool)×(List Int)×(List (Int×Int×Int×Int×Int))×(List Int)×(List (Int×Int×Int))) (bH ((List (Int×Int))×Int×Int×Int×(List (Int×Int×Int))×Int×(List (Int×Int×Int))×(List Int)×(List Bool)×(List Int)×(List (Int×Int×Int×Int×Int))×(List Int)×(List (Int×Int×Int))×(List (Int×Int×Int))×Int×Int×Int×Int×Int×(List (Int×Int×Int))×Int×(List (Int×Int×Int))×(List Int)×(List Bool)×(List Int)×(List (Int×Int×Int×Int×Int))×(List Int)×(List (Int×Int×Int))) (aO×Int))):=
 bif decide (s.2.1<(Int.ofNat s.1.length)) then
  (aL s.1 s.2.1).bind fun a0=>
  (rS (aW.mk s.2.2.2.2.2.2.2.2.1 s.2.2.2.2.2.2.2.2.2.1) a0).bind fun b1=>
  bif b1 then
   some (.next (s.1,aA .i64 (s.2.1+1),s.2.2))
  else
   (aL s.1 s.2.1).bind fun a2=>
   (jE (aO.mk (s.2.2.2.2.2.1,s.2.2.2.2.2.2.1) (Field.mk s.2.2.2.2.2.2.2.1) (aW.mk s.2.2.2.2.2.2.2.2.1 s.2.2.2.2.2.2.2.2.2.1) (aJ.mk (aR.mk s.2.2.2.2.2.2.2.2.2.2.1 s.2.2.2.2.2.2.2.2.2.2.2.1 s.2.2.2.2.2.2.2.2.2.2.2.2.1) s.2.2.2.2.2.2.2.2.2.2.2.2.2.1 s.2.2.2.2.2.2.2.2.2.2.2.2.2.2.1) s.2.2.2.2.2.2.2.2.2.2.2.2.2.2.2) a2).bind fun a3=>
   bif a3.2.2 !=0 then
    some (.done (.done (aO.mk (0,0) (Field.mk []) (aW.mk 0 []) (aJ.mk (aR.mk [] [] []) [] []) [],a3.2.2)))
   else
    some (.next (s.1,aA .i64 (s.2.1+1),s.2.2.1,s.2.2.2.1,s.2.2.2.2.1,a3.1.now.1,a3.1.now.2,a3.1.field.points,a3.1.certs.next_,a3.1.certs.list,a3.1.agenda.slots.uses,a3.1.agenda.slots.used,a3.1.agenda.slots.free,a3.1.agenda.heap,a3.1.agenda.where_,a3.1.due))
 else
  some (.done (.done (aO.mk (s.2.2.2.2.2.1,s.2.2.2.2.2.2.1) (Field.mk s.2.2.2.2.2.2.2.1) (aW.mk s.2.2.2.2.2.2.2.2.1 s.2.2.2.2.2.2.2.2.2.1) (aJ.mk (aR.mk s.2.2.2.2.2.2.2.2.2.2.1 s.2.2.2.2.2.2.2.2.2.2.2.1 s.2.2.2.2.2.2.2.2.2.2.2.2.1) s.2.2.2.2.2.2.2.2.2.2.2.2.2.1 s.2.2.2.2.2.2.2.2.2.2.2.2.2.2.1) s.2.2.2.2.2.2.2.2.2.2.2.2.2.2.2,0)))
def pA (s:((List (Int×Int))×Int×Int×Int×(List (Int×Int×Int))×Int×(List (Int×Int×Int))×(List Int)×(List Bool)×(List Int)×(List (Int×Int×Int×Int×Int))×(List Int)×(List (Int×Int×Int))×(List (Int×Int×Int))×Int×Int×Int×Int×Int×(List (Int×Int×Int))×Int×(List (Int×Int×Int))×(List Int)×(List Bool)×(List Int)×(List (Int×Int×Int×Int×Int))×(List Int)×(List (Int×Int×Int)))):Option (bH ((List (Int×Int))×Int×Int×Int×(List (Int×Int×Int))×Int×(List (Int×Int×Int))×(List Int)×(List Bool)×(List Int)×(List (Int×Int×Int×Int×Int))×(List Int)×(List (Int×Int×Int))×(List (Int×Int×Int))×Int×Int×Int×Int×Int×(List (Int×Int×Int))×Int×(List (Int×Int×Int))×(List Int)×(List Bool)×(List Int)×(List (Int×Int×Int×Int×Int))×(List Int)×(List (Int×Int×Int))) (aO×Int)):=
 bif decide (s.2.1<(Int.ofNat s.2.2.2.2.2.2.1.length)) then
  (aL s.2.2.2.2.2.2.1 s.2.1).bind fun a0=>
  (PA s.1 a0.2).bind fun b1=>
  bif !b1 then
   (aL s.2.2.2.2.2.2.1 s.2.1).bind fun a2=>
   (IZ (aO.mk (s.2.2.2.2.2.2.2.2.2.2.2.2.2.2.2.2.2.1,s.2.2.2.2.2.2.2.2.2.2.2.2.2.2.2.2.2.2.1) (Field.mk s.2.2.2.2.2.2.2.2.2.2.2.2.2.2.2.2.2.2.2.1) (aW.mk s.2.2.2.2.2.2.2.2.2.2.2.2.2.2.2.2.2.2.2.2.1 s.2.2.2.2.2.2.2.2.2.2.2.2.2.2.2.2.2.2.2.2.2.1) (aJ.mk (aR.mk s.2.2.2.2.2.2.2.2.2.2.2.2.2.2.2.2.2.2.2.2.2.2.1 s.2.2.2.2.2.2.2.2.2.2.2.2.2.2.2.2.2.2.2.2.2.2.2.1 s.2.2.2.2.2.2.2.2.2.2.2.2.2.2.2.2.2.2.2.2.2.2.2.2.1) s.2.2.2.2.2.2.2.2.2.2.2.2.2.2.2.2.2.2.2.2.2.2.2.2.2.1 s.2.2.2.2.2.2.2.2.2.2.2.2.2.2.2.2.2.2.2.2.2.2.2.2.2.2.1) s.2.2.2.2.2.2.2.2.2.2.2.2.2.2.2.2.2.2.2.2.2.2.2.2.2.2.2) a2.1).bind fun r3=>
   some (.next (s.1,aA .i64 (s.2.1+1),s.2.2.1,s.2.2.2.1,s.2.2.2.2.1,s.2.2.2.2.2.1,s.2.2.2.2.2.2.1,s.2.2.2.2.2.2.2.1,s.2.2.2.2.2.2.2.2.1,s.2.2.2.2.2.2.2.2.2.1,s.2.2.2.2.2.2.2.2.2.2.1,s.2.2.2.2.2.2.2.2.2.2.2.1,s.2.2.2.2.2.2.2.2.2.2.2.2.1,s.2.2.2.2.2.2.2.2.2.2.2.2.2.1,s.2.2.2.2.2.2.2.2.2.2.2.2.2.2.1,s.2.2.2.2.2.2.2.2.2.2.2.2.2.2.2.1,s.2.2.2.2.2.2.2.2.2.2.2.2.2.2.2.2.1,r3.now.1,r3.now.2,r3.field.points,r3.certs.next_,r3.certs.list,r3.agenda.slots.uses,r3.agenda.slots.used,r3.agenda.slots.free,r3.agenda.heap,r3.agenda.where_,r3.due))
  else
   some (.next (s.1,aA .i64 (s.2.1+1),s.2.2))
 else
  (sJ (Field.mk s.2.2.2.2.2.2.2.2.2.2.2.2.2.2.2.2.2.2.2.1) (Field.mk s.2.2.2.2.2.2.2.2.2.2.2.2.2.1)).bind fun b4=>
  bif !b4 then
   (BC (aO.mk (s.2.2.2.2.2.2.2.2.2.2.2.2.2.2.2.2.2.1,s.2.2.2.2.2.2.2.2.2.2.2.2.2.2.2.2.2.2.1) (Field.mk s.2.2.2.2.2.2.2.2.2.2.2.2.2.2.2.2.2.2.2.1) (aW.mk s.2.2.2.2.2.2.2.2.2.2.2.2.2.2.2.2.2.2.2.2.1 s.2.2.2.2.2.2.2.2.2.2.2.2.2.2.2.2.2.2.2.2.2.1) (aJ.mk (aR.mk s.2.2.2.2.2.2.2.2.2.2.2.2.2.2.2.2.2.2.2.2.2.2.1 s.2.2.2.2.2.2.2.2.2.2.2.2.2.2.2.2.2.2.2.2.2.2.2.1 s.2.2.2.2.2.2.2.2.2.2.2.2.2.2.2.2.2.2.2.2.2.2.2.2.1) s.2.2.2.2.2.2.2.2.2.2.2.2.2.2.2.2.2.2.2.2.2.2.2.2.2.1 s.2.2.2.2.2.2.2.2.2.2.2.2.2.2.2.2.2.2.2.2.2.2.2.2.2.2.1) s.2.2.2.2.2.2.2.2.2.2.2.2.2.2.2.2.2.2.2.2.2.2.2.2.2.2.2) (Field.mk s.2.2.2.2.2.2.2.2.2.2.2.2.2.1)).bind fun a5=>
   bif a5.2 !=0 then
    some (.done (aO.mk (0,0) (Field.mk []) (aW.mk 0 []) (aJ.mk (aR.mk [] [] []) [] []) [],a5.2))
   else
    aK cV (s.1,0,s.2.2.2.2.2.2.2.2.2.2.2.2.2.2.1,s.2.2.2.2.2.2.2.2.2.2.2.2.2.2.2.1,s.2.2.2.2.2.2.2.2.2.2.2.2.2.2.2.2.1,a5.1.now.1,a5.1.now.2,a5.1.field.points,a5.1.certs.next_,a5.1.certs.list,a5.1.agenda.slots.uses,a5.1.agenda.slots.used,a5.1.agenda.slots.free,a5.1.agenda.heap,a5.1.agenda.where_,a5.1.due)
  else
   aK cV (s.1,0,s.2.2.2.2.2.2.2.2.2.2.2.2.2.2)
def jX (p0:aO) (p1:Field) (p2:List (Int×Int)):Option (aO×Int):=
 (kM p0).bind fun r0=>
 aK pA (p2,0,p0.now.1,p0.now.2,p0.field.points,p0.certs.next_,p0.certs.list,p0.agenda.slots.uses,p0.agenda.slots.used,p0.agenda.slots.free,p0.agenda.heap,p0.agenda.where_,p0.due,p1.points,0,0,0,r0.now.1,r0.now.2,r0.field.points,r0.certs.next_,r0.certs.list,r0.agenda.slots.uses,r0.agenda.slots.used,r0.agenda.slots.free,r0.agenda.heap,r0.agenda.where_,r0.due)
def c87:bF:=⟨aB.cons (aG.agg bR) (aB.cons (aG.agg cF) (aB.one (aG.sl gU))),aG.tup (aB.cons (aG.agg bR) (aB.one (aG.int .i64))),fun a=>jX a.1 a.2.1 a.2.2,.frz,false⟩
theorem aK4:aF aT 87 c87:=Oc aKn rfl aC [(32,c32),(32,YB),(147,aMS),(146,aMV),(89,c89),(148,aM2),(126,aFx),(149,aM4)] ⟨MH,GM,aFl,aFo,YC,aFw,MK,aFz,trivial⟩ fun a=>by kernel_rfl
def fR (s:(Int×(List (Int×Int×Int))×Int×Int×Int×Int×Int×(List Int))):Option (bH (Int×(List (Int×Int×Int))×Int×Int×Int×Int×Int×(List Int)) dY):=
 bif decide (s.1<(Int.ofNat s.2.1.length)) then
  (cG s.2.2.2.2.2.2.2).bind fun l0=>
  (aL s.2.1 s.1).bind fun a1=>
  (bM l0 [a1.1]).bind fun l2=>
  (qP (Field.mk s.2.1) (s.2.2.1,s.2.2.2.1) l2 s.1).bind fun l3=>
  some (.next (aA .i64 (s.1+1),s.2.1,s.2.2.1,s.2.2.2.1,s.2.2.2.2.1,s.2.2.2.2.2.1,s.2.2.2.2.2.2.1,l3))
 else
  (tU (Field.mk s.2.1) (s.2.2.1,s.2.2.2.1)).bind fun r4=>
  (vE s.2.2.2.2.2.2.2).bind fun l5=>
  (jX r4 (Field.mk s.2.1) l5).bind fun a6=>
  some (.done (dY.mk a6.1 s.2.2.2.2.2.2.2))
def wR (p0:Field) (p1:Int×Int):Option dY:=
 aK fR (0,p0.points,p1.1,p1.2,0,0,0,[])
def c56:bF:=⟨aB.cons (aG.agg cF) (aB.one (aG.agg (bY.row gU))),aG.agg gP,fun a=>wR a.1 a.2,.frz,false⟩
theorem aK5:aF aT 56 c56:=Oc aJ6 rfl aC [(68,c68),(68,aMM),(115,aMQ),(57,c57),(57,aFj),(87,c87)] ⟨aKW,aFf,aFi,RC,MF,aK4,trivial⟩ fun a=>by kernel_rfl
def mR (p0:Field) (p1:Int×Int):Option (dY×Int):=
 (mO p0).bind fun n0=>
 bif n0 !=0 then
  (mO p0).bind fun n1=>
  some (dY.mk (aO.mk (0,0) (Field.mk []) (aW.mk 0 []) (aJ.mk (aR.mk [] [] []) [] []) []) [],n1)
 else
  (mP p1).bind fun n2=>
  bif n2 !=0 then
   some (dY.mk (aO.mk (0,0) (Field.mk []) (aW.mk 0 []) (aJ.mk (aR.mk [] [] []) [] []) []) [],8)
  else
   (wR p0 p1).bind fun r3=>
   some (r3,0)
def c18:bF:=⟨aB.cons (aG.agg cF) (aB.one (aG.agg (bY.row gU))),aG.tup (aB.cons (aG.agg gP) (aB.one (aG.int .i64))),fun a=>mR a.1 a.2,.frz,false⟩
theorem aK6:aF aT 18 c18:=Oc aJK rfl aC [(54,c54),(55,c55),(56,c56)] ⟨X8,RA,aK5,trivial⟩ fun a=>by kernel_rfl
def iJ (s:((List Int)×Int×Int×Int)):Option (bH ((List Int)×Int×Int×Int) Int):=
 bif decide (s.2.2.2<s.2.2.1) then
  (aL s.1 s.2.2.2).bind fun n0=>
  bif s.2.1==n0 then
   some (.done s.2.2.2)
  else
   some (.next (s.1,s.2.1,s.2.2.1,aA .i64 (s.2.2.2+1)))
 else
  some (.done (-1))
def kY (p0:List Int) (p1:Int):Option Int:=
 aK iJ (p0,p1,Int.ofNat p0.length,0)
def c43:bF:=⟨aB.cons (aG.sl ki) (aB.one (aG.int .i64)),aG.int .i64,fun a=>kY a.1 a.2,.pure,false⟩
theorem aK7:aF aT 43 c43:=Oc aJZ rfl aC [] trivial fun a=>by kernel_rfl
def iK (p0:List Int) (p1:Int):Option Bool:=
 (kY p0 p1).bind fun n0=>
 some (decide (0<=n0))
def c60:bF:=⟨aB.cons (aG.sl ki) (aB.one (aG.int .i64)),aG.bool,fun a=>iK a.1 a.2,.pure,false⟩
theorem aK8:aF aT 60 c60:=Oc aJ9 rfl aC [(43,c43)] ⟨aK7,trivial⟩ fun a=>by kernel_rfl
def nN (s:((List (Int×Int))×(List (Int×Int×Int))×Int×Int×Int×Int×(List (Int×Int×Int))×Int×(List (Int×Int×Int))×(List Int)×(List Bool)×(List Int)×(List (Int×Int×Int×Int×Int))×(List Int)×(List (Int×Int×Int))×(List Int))):Option (bH ((List (Int×Int))×(List (Int×Int×Int))×Int×Int×Int×Int×(List (Int×Int×Int))×Int×(List (Int×Int×Int))×(List Int)×(List Bool)×(List Int)×(List (Int×Int×Int×Int×Int))×(List Int)×(List (Int×Int×Int))×(List Int)) (bH ((List (Int×Int×Int))×Int×Int×Int×Int×(List (Int×Int×Int))×Int×(List (Int×Int×Int))×(List Int)×(List Bool)×(List Int)×(List (Int×Int×Int×Int×Int))×(List Int)×(List (Int×Int×Int))×(List Int)) Int)):=
 bif decide (s.2.2.2.1<s.2.2.1) then
  (aL s.2.1 s.2.2.2.1).bind fun a0=>
  (fB s.1 a0.2).bind fun b1=>
  bif !b1 then
   some (.done (.done 8))
  else
   (qM (Field.mk s.2.2.2.2.2.2.1) (s.2.2.2.2.1,s.2.2.2.2.2.1) a0.2.2 a0.2.1).bind fun b2=>
   bif !b2 then
    some (.done (.done 8))
   else
    some (.next (s.1,s.2.1,s.2.2.1,aA .i64 (s.2.2.2.1+1),s.2.2.2.2))
 else
  some (.done (.done 0))
def nO (s:((List (Int×Int×Int))×Int×Int×Int×Int×(List (Int×Int×Int))×Int×(List (Int×Int×Int))×(List Int)×(List Bool)×(List Int)×(List (Int×Int×Int×Int×Int))×(List Int)×(List (Int×Int×Int))×(List Int))):Option (bH ((List (Int×Int×Int))×Int×Int×Int×Int×(List (Int×Int×Int))×Int×(List (Int×Int×Int))×(List Int)×(List Bool)×(List Int)×(List (Int×Int×Int×Int×Int))×(List Int)×(List (Int×Int×Int))×(List Int)) Int):=
 bif decide (s.2.2.1<s.2.1) then
  (aL s.1 s.2.2.1).bind fun a0=>
  (iK s.2.2.2.2.2.2.2.2.2.2.2.2.2.2 a0.1).bind fun b1=>
  bif !b1 then
   some (.done 8)
  else
   some (.next (s.1,s.2.1,aA .i64 (s.2.2.1+1),s.2.2.2))
 else
  (mL s.2.2.2.2.2.2.2.2.2.2.2.2.2.2).bind fun l2=>
  bif (Int.ofNat l2.length) !=(Int.ofNat s.2.2.2.2.2.2.2.1.length) then
   some (.done 8)
  else
   aK nN (l2,s.2.2.2.2.2.2.2.1,Int.ofNat s.2.2.2.2.2.2.2.1.length,0,s.2.2.2)
def jF (p0:dY):Option Int:=
 (hU p0.clock).bind fun n0=>
 bif n0 !=0 then
  some 8
 else
  bif (Int.ofNat p0.heap.length) !=(Int.ofNat p0.clock.field.points.length) then
   some 8
  else
   aK nO (p0.clock.field.points,Int.ofNat p0.clock.field.points.length,0,p0.clock.now.1,p0.clock.now.2,p0.clock.field.points,p0.clock.certs.next_,p0.clock.certs.list,p0.clock.agenda.slots.uses,p0.clock.agenda.slots.used,p0.clock.agenda.slots.free,p0.clock.agenda.heap,p0.clock.agenda.where_,p0.clock.due,p0.heap)
def c25:bF:=⟨aB.one (aG.agg gP),aG.int .i64,fun a=>jF a,.pure,false⟩
theorem ML:aF aT 25 c25:=Oc aJR rfl aC [(59,c59),(60,c60),(53,c53),(61,c61),(62,c62)] ⟨IQ,aK8,Q5,X0,X6,trivial⟩ fun a=>by kernel_rfl
def qR (p0:dY):Option ((List (Int×Int))×Int):=
 (jF p0).bind fun n0=>
 bif n0 !=0 then
  some ([],n0)
 else
  (mL p0.heap).bind fun l1=>
  some (l1,0)
def c19:bF:=⟨aB.one (aG.agg gP),aG.tup (aB.cons (aG.sl gU) (aB.one (aG.int .i64))),fun a=>qR a,.frz,false⟩
theorem aK9:aF aT 19 c19:=Oc aJL rfl aC [(25,c25),(53,c53)] ⟨ML,Q5,trivial⟩ fun a=>by kernel_rfl
def nP (s:(Int×Int×(List (Int×Int×Int))×(List (Int×Int×Int)))):Option (bH (Int×Int×(List (Int×Int×Int))×(List (Int×Int×Int))) Bool):=
 bif decide (s.1<(Int.ofNat s.2.2.1.length)) then
  (aL s.2.2.1 s.1).bind fun a0=>
  (fD (Field.mk s.2.2.2) a0.2.1).bind fun n1=>
  bif decide (n1<0) then
   some (.done false)
  else
   (aL s.2.2.1 s.1).bind fun a2=>
   (fD (Field.mk s.2.2.2) a2.2.2).bind fun n3=>
   bif decide (n3<0) then
    some (.done false)
   else
    some (.next (aA .i64 (s.1+1),s.2))
 else
  some (.done true)
def tX (p0:aW) (p1:Field):Option Bool:=
 aK nP (0,p0.next_,p0.list,p1.points)
def aM6:bF:=⟨aB.cons (aG.agg eV) (aB.one (aG.agg cF)),aG.bool,fun a=>tX a.1 a.2,.pure,false⟩
theorem aFA:aF aT 122 aM6:=Oc aCD rfl aC [(64,c64)] ⟨IV,trivial⟩ fun a=>by kernel_rfl
def iS (s:(Int×Int×(List Int)×(List Bool)×(List Int)×(List Bool))):Option (bH (Int×Int×(List Int)×(List Bool)×(List Int)×(List Bool)) (bH (Int×Int×(List Int)×(List Bool)×(List Int)×(List Bool)) Int)):=
 bif decide (s.2.1<s.1) then
  (aL s.2.2.1 s.2.1).bind fun n0=>
  bif decide (n0<0) then
   some (.done (.done 8))
  else
   (aL s.2.2.1 s.2.1).bind fun n1=>
   bif decide (1000000<n1) then
    some (.done (.done 8))
   else
    (aL s.2.2.2.1 s.2.1).bind fun b2=>
    (aL s.2.2.2.2.2 s.2.1).bind fun b3=>
    bif b2==b3 then
     some (.done (.done 8))
    else
     (aL s.2.2.2.1 s.2.1).bind fun b4=>
     bif b4 then
      (aL s.2.2.1 s.2.1).bind fun n5=>
      bif decide (n5<1) then
       some (.done (.done 8))
      else
       some (.next (s.1,aA .i64 (s.2.1+1),s.2.2))
     else
      some (.next (s.1,aA .i64 (s.2.1+1),s.2.2))
 else
  some (.done (.done 0))
def nQ (s:(Int×Int×(List Int)×(List Bool)×(List Int)×(List Bool))):Option (bH (Int×Int×(List Int)×(List Bool)×(List Int)×(List Bool)) Int):=
 bif decide (s.2.1<(Int.ofNat s.2.2.2.2.1.length)) then
  (aL s.2.2.2.2.1 s.2.1).bind fun n0=>
  bif decide (n0<0) then
   some (.done 8)
  else
   (aL s.2.2.2.2.1 s.2.1).bind fun n1=>
   bif decide (s.1<=n1) then
    some (.done 8)
   else
    (aL s.2.2.2.2.1 s.2.1).bind fun n2=>
    (aL s.2.2.2.2.2 n2).bind fun b3=>
    bif b3 then
     some (.done 8)
    else
     (aL s.2.2.2.2.1 s.2.1).bind fun n4=>
     (aL s.2.2.2.2.2 n4).bind fun _=>
     some (.next (s.1,aA .i64 (s.2.1+1),s.2.2.1,s.2.2.2.1,s.2.2.2.2.1,cD s.2.2.2.2.2 n4 true))
 else
  aK iS (s.1,0,s.2.2)
def tY (p0:aR):Option Int:=
 bif decide ((Int.ofNat p0.uses.length)<1) then
  some 8
 else
  bif decide (200<(Int.ofNat p0.uses.length)) then
   some 8
  else
   bif (Int.ofNat p0.used.length) !=(Int.ofNat p0.uses.length) then
    some 8
   else
    bif decide ((Int.ofNat p0.uses.length)<(Int.ofNat p0.free.length)) then
     some 8
    else
     bif (Int.ofNat p0.uses.length)==(Int.ofNat p0.uses.length) then
      (yJ (Int.ofNat p0.uses.length) (false:Bool)).bind fun l0=>
      aK nQ (Int.ofNat p0.uses.length,0,p0.uses,p0.used,p0.free,l0)
     else
      none
def aM7:bF:=⟨aB.one (aG.agg dW),aG.int .i64,fun a=>tY a,.pure,false⟩
theorem aFB:aF aT 171 aM7:=Oc aDk rfl aC [] trivial fun a=>by kernel_rfl
def sL (p0:aR) (p1:Int×Int):Option Bool:=
 bif decide (0<=p1.1) then
  bif decide (p1.1<(Int.ofNat p0.uses.length)) then
   (aL p0.used p1.1).bind fun b0=>
   bif b0 then
    (aL p0.uses p1.1).bind fun n1=>
    some (n1==p1.2)
   else
    some false
  else
   some false
 else
  some false
def aLa:bF:=⟨aB.cons (aG.agg dW) (aB.one (aG.agg (bY.row gU))),aG.bool,fun a=>sL a.1 a.2,.pure,false⟩
theorem T6:aF aT 175 aLa:=Oc aDo rfl aC [] trivial fun a=>by kernel_rfl
def lT (s:(Int×Int×(List Int)×(List Bool)×(List Int)×(List (Int×Int×Int×Int×Int))×(List Int))):Option (bH (Int×Int×(List Int)×(List Bool)×(List Int)×(List (Int×Int×Int×Int×Int))×(List Int)) Bool):=
 bif decide (s.2.1<s.1) then
  (aL s.2.2.2.1 s.2.1).bind fun b0=>
  bif !b0 then
   (aL s.2.2.2.2.2.2 s.2.1).bind fun n1=>
   bif n1 !=(-1) then
    some (.done false)
   else
    some (.next (s.1,aA .i64 (s.2.1+1),s.2.2))
  else
   (aL s.2.2.2.2.2.2 s.2.1).bind fun n2=>
   bif decide (n2<0) then
    some (.done false)
   else
    bif decide ((Int.ofNat s.2.2.2.2.2.1.length)<=n2) then
     some (.done false)
    else
     (aL s.2.2.2.2.2.1 n2).bind fun a3=>
     bif a3.2.2.2.1 !=s.2.1 then
      some (.done false)
     else
      (aL s.2.2.2.2.2.1 n2).bind fun a4=>
      (sL (aR.mk s.2.2.1 s.2.2.2.1 s.2.2.2.2.1) a4.2.2.2).bind fun b5=>
      bif !b5 then
       some (.done false)
      else
       some (.next (s.1,aA .i64 (s.2.1+1),s.2.2))
 else
  some (.done true)
def rO (p0:aJ):Option Bool:=
 bif (Int.ofNat p0.where_.length) !=(Int.ofNat p0.slots.uses.length) then
  some false
 else
  bif (Int.ofNat p0.heap.length) !=(aA .i64 ((Int.ofNat p0.slots.uses.length) - (Int.ofNat p0.slots.free.length))) then
   some false
  else
   aK lT (Int.ofNat p0.slots.uses.length,0,p0.slots.uses,p0.slots.used,p0.slots.free,p0.heap,p0.where_)
def aM8:bF:=⟨aB.one (aG.agg bV),aG.bool,fun a=>rO a,.pure,false⟩
theorem aFC:aF aT 172 aM8:=Oc aDl rfl aC [(175,aLa)] ⟨T6,trivial⟩ fun a=>by kernel_rfl
def iT (s:(Int×Int×(List Int)×(List Bool)×(List Int)×(List (Int×Int×Int×Int×Int))×(List Int)×Int×Int×Int×Int×Int)):Option (bH (Int×Int×(List Int)×(List Bool)×(List Int)×(List (Int×Int×Int×Int×Int))×(List Int)×Int×Int×Int×Int×Int) (bH (Int×(List Int)×(List Bool)×(List Int)×(List (Int×Int×Int×Int×Int))×(List Int)) Int)):=
 bif decide (s.2.1<s.1) then
  (aL s.2.2.2.2.2.1 s.2.1).bind fun a0=>
  bif a0.2.2.1==s.2.2.2.2.2.2.2.2.2.1 then
   some (.done (.done 8))
  else
   some (.next (s.1,aA .i64 (s.2.1+1),s.2.2))
 else
  some (.done (.next (aA .i64 (s.1+1),s.2.2.1,s.2.2.2.1,s.2.2.2.2.1,s.2.2.2.2.2.1,s.2.2.2.2.2.2.1)))
def iU (s:(Int×(List Int)×(List Bool)×(List Int)×(List (Int×Int×Int×Int×Int))×(List Int))):Option (bH (Int×(List Int)×(List Bool)×(List Int)×(List (Int×Int×Int×Int×Int))×(List Int)) (bH (Int×(List Int)×(List Bool)×(List Int)×(List (Int×Int×Int×Int×Int))×(List Int)) Int)):=
 bif decide (s.1<(Int.ofNat s.2.2.2.2.1.length)) then
  (aL s.2.2.2.2.1 s.1).bind fun a0=>
  (aL s.2.2.2.2.1 (aA .i64 (Int.tdiv (aA .i64 (s.1-1)) 2))).bind fun a1=>
  (dE a0 a1).bind fun b2=>
  bif b2 then
   some (.done (.done 8))
  else
   some (.next (aA .i64 (s.1+1),s.2))
 else
  some (.done (.done 0))
def nR (s:(Int×(List Int)×(List Bool)×(List Int)×(List (Int×Int×Int×Int×Int))×(List Int))):Option (bH (Int×(List Int)×(List Bool)×(List Int)×(List (Int×Int×Int×Int×Int))×(List Int)) Int):=
 bif decide (s.1<(Int.ofNat s.2.2.2.2.1.length)) then
  (aL s.2.2.2.2.1 s.1).bind fun a0=>
  (mP (a0.1,a0.2.1)).bind fun n1=>
  bif n1 !=0 then
   some (.done 8)
  else
   bif decide (a0.2.2.1<0) then
    some (.done 8)
   else
    bif decide (1000000<a0.2.2.1) then
     some (.done 8)
    else
     aK iT (s.1,0,s.2.1,s.2.2.1,s.2.2.2.1,s.2.2.2.2.1,s.2.2.2.2.2,a0)
 else
  aK iU (1,s.2)
def qS (p0:aJ):Option Int:=
 (tY p0.slots).bind fun n0=>
 bif n0 !=0 then
  some 8
 else
  (rO p0).bind fun b1=>
  bif !b1 then
   some 8
  else
   aK nR (0,p0.slots.uses,p0.slots.used,p0.slots.free,p0.heap,p0.where_)
def aLb:bF:=⟨aB.one (aG.agg bV),aG.int .i64,fun a=>qS a,.pure,false⟩
theorem T7:aF aT 123 aLb:=Oc aCE rfl aC [(171,aM7),(172,aM8),(55,c55),(173,RE)] ⟨aFB,aFC,RA,AC,trivial⟩ fun a=>by kernel_rfl
def sM (p0:aJ) (p1:Int×Int):Option ((Int×Int×Int×Int×Int)×Int):=
 (qS p0).bind fun n0=>
 bif n0 !=0 then
  some ((0,0,0,0,0),8)
 else
  (sL p0.slots p1).bind fun b1=>
  bif !b1 then
   some ((0,0,0,0,0),6)
  else
   (aL p0.where_ p1.1).bind fun n2=>
   (aL p0.heap n2).bind fun a3=>
   some (a3,0)
def aM9:bF:=⟨aB.cons (aG.agg bV) (aB.one (aG.agg (bY.row gU))),aG.tup (aB.cons (aG.agg (bY.row iD)) (aB.one (aG.int .i64))),fun a=>sM a.1 a.2,.pure,false⟩
theorem aFD:aF aT 125 aM9:=Oc aCG rfl aC [(123,aLb),(175,aLa)] ⟨T7,T6,trivial⟩ fun a=>by kernel_rfl
def cQ (s:(Int×Int×Int×Int×(List (Int×Int×Int))×Int×(List (Int×Int×Int))×(List Int)×(List Bool)×(List Int)×(List (Int×Int×Int×Int×Int))×(List Int)×(List (Int×Int×Int)))):Option (bH (Int×Int×Int×Int×(List (Int×Int×Int))×Int×(List (Int×Int×Int))×(List Int)×(List Bool)×(List Int)×(List (Int×Int×Int×Int×Int))×(List Int)×(List (Int×Int×Int))) Int):=
 bif decide (s.2.1<(Int.ofNat s.2.2.2.2.2.2.1.length)) then
  (aL s.2.2.2.2.2.2.1 s.2.1).bind fun a0=>
  (oZ (Field.mk s.2.2.2.2.1) a0.2 (s.2.2.1,s.2.2.2.1)).bind fun a1=>
  bif !a1.2 then
   some (.next (s.1,aA .i64 (s.2.1+1),s.2.2))
  else
   bif decide ((Int.ofNat s.2.2.2.2.2.2.2.2.2.2.2.2.length)<=s.1) then
    some (.done 8)
   else
    (aL s.2.2.2.2.2.2.2.2.2.2.2.2 s.1).bind fun a2=>
    bif a2.1 !=a0.1 then
     some (.done 8)
    else
     (aL s.2.2.2.2.2.2.2.2.2.2.2.2 s.1).bind fun a3=>
     (sM (aJ.mk (aR.mk s.2.2.2.2.2.2.2.1 s.2.2.2.2.2.2.2.2.1 s.2.2.2.2.2.2.2.2.2.1) s.2.2.2.2.2.2.2.2.2.2.1 s.2.2.2.2.2.2.2.2.2.2.2.1) a3.2).bind fun a4=>
     bif a4.2 !=0 then
      some (.done 8)
     else
      bif a4.1.2.2.1 !=a0.1 then
       some (.done 8)
      else
       bif !((a4.1.1==a1.1.1)&&(a4.1.2.1==a1.1.2)) then
        some (.done 8)
       else
        some (.next (aA .i64 (s.1+1),aA .i64 (s.2.1+1),s.2.2))
 else
  bif s.1 !=(Int.ofNat s.2.2.2.2.2.2.2.2.2.2.2.2.length) then
   some (.done 8)
  else
   some (.done 0)
def tZ (p0:aO):Option Int:=
 (mP p0.now).bind fun n0=>
 bif n0 !=0 then
  some 8
 else
  (mO p0.field).bind fun n1=>
  bif n1 !=0 then
   some 8
  else
   (qQ p0.certs).bind fun n2=>
   bif n2 !=0 then
    some 8
   else
    (tX p0.certs p0.field).bind fun b3=>
    bif !b3 then
     some 8
    else
     (qS p0.agenda).bind fun n4=>
     bif n4 !=0 then
      some 8
     else
      bif (Int.ofNat p0.agenda.where_.length) !=200 then
       some 8
      else
       bif (Int.ofNat p0.agenda.heap.length) !=(Int.ofNat p0.due.length) then
        some 8
       else
        aK cQ (0,0,p0.now.1,p0.now.2,p0.field.points,p0.certs.next_,p0.certs.list,p0.agenda.slots.uses,p0.agenda.slots.used,p0.agenda.slots.free,p0.agenda.heap,p0.agenda.where_,p0.due)
def c63:bF:=⟨aB.one (aG.agg bR),aG.int .i64,fun a=>tZ a,.pure,false⟩
theorem aLc:aF aT 63 c63:=Oc aKc rfl aC [(55,c55),(54,c54),(121,aK3),(122,aM6),(123,aLb),(124,aFt),(125,aM9)] ⟨RA,X8,T5,aFA,T7,MJ,aFD,trivial⟩ fun a=>by kernel_rfl
def wS (p0:Int×Int) (p1:Field) (p2:Int×Int):Option Bool:=
 (fD p1 p0.2).bind fun n0=>
 (aL p1.points n0).bind fun a1=>
 (fD p1 p0.1).bind fun n2=>
 (aL p1.points n2).bind fun a3=>
 (mQ a1 a3 p2).bind fun b4=>
 some b4
def aNa:bF:=⟨aB.cons (aG.agg (bY.row gU)) (aB.cons (aG.agg cF) (aB.one (aG.agg (bY.row gU)))),aG.bool,fun a=>wS a.1 a.2.1 a.2.2,.pure,false⟩
theorem aFE:aF aT 127 aNa:=Oc aCI rfl aC [(64,c64),(176,aFe)] ⟨IV,MD,trivial⟩ fun a=>by kernel_rfl
def pQ (s:((List (Int×Int))×Int×Int×Int×(List (Int×Int×Int))×Int×(List (Int×Int×Int))×(List Int)×(List Bool)×(List Int)×(List (Int×Int×Int×Int×Int))×(List Int)×(List (Int×Int×Int)))):Option (bH ((List (Int×Int))×Int×Int×Int×(List (Int×Int×Int))×Int×(List (Int×Int×Int))×(List Int)×(List Bool)×(List Int)×(List (Int×Int×Int×Int×Int))×(List Int)×(List (Int×Int×Int))) Bool):=
 bif decide (s.2.1<(Int.ofNat s.1.length)) then
  (aL s.1 s.2.1).bind fun a0=>
  (rS (aW.mk s.2.2.2.2.2.1 s.2.2.2.2.2.2.1) a0).bind fun b1=>
  bif !b1 then
   some (.done false)
  else
   (aL s.1 s.2.1).bind fun a2=>
   (wS a2 (Field.mk s.2.2.2.2.1) (s.2.2.1,s.2.2.2.1)).bind fun b3=>
   bif !b3 then
    some (.done false)
   else
    some (.next (s.1,aA .i64 (s.2.1+1),s.2.2))
 else
  some (.done true)
def wT (p0:aO) (p1:List (Int×Int)):Option Bool:=
 bif (Int.ofNat p0.certs.list.length) !=(Int.ofNat p1.length) then
  some false
 else
  aK pQ (p1,0,p0.now.1,p0.now.2,p0.field.points,p0.certs.next_,p0.certs.list,p0.agenda.slots.uses,p0.agenda.slots.used,p0.agenda.slots.free,p0.agenda.heap,p0.agenda.where_,p0.due)
def c65:bF:=⟨aB.cons (aG.agg bR) (aB.one (aG.sl gU)),aG.bool,fun a=>wT a.1 a.2,.pure,false⟩
theorem aLd:aF aT 65 c65:=Oc aKe rfl aC [(126,aFx),(127,aNa)] ⟨MK,aFE,trivial⟩ fun a=>by kernel_rfl
def nS (s:(Int×Int×Int×Int×(List (Int×Int×Int))×Int×(List (Int×Int×Int))×(List Int)×(List Bool)×(List Int)×(List (Int×Int×Int×Int×Int))×(List Int)×(List (Int×Int×Int))×(List Int))):Option (bH (Int×Int×Int×Int×(List (Int×Int×Int))×Int×(List (Int×Int×Int))×(List Int)×(List Bool)×(List Int)×(List (Int×Int×Int×Int×Int))×(List Int)×(List (Int×Int×Int))×(List Int)) (bH (Int×Int×Int×(List (Int×Int×Int))×Int×(List (Int×Int×Int))×(List Int)×(List Bool)×(List Int)×(List (Int×Int×Int×Int×Int))×(List Int)×(List (Int×Int×Int))×(List Int)) Int)):=
 bif decide (s.2.1<s.1) then
  (aL s.2.2.2.2.2.2.2.2.2.2.2.2.2 s.2.1).bind fun n0=>
  (aL s.2.2.2.2.2.2.2.2.2.2.2.2.2 s.1).bind fun n1=>
  bif n0==n1 then
   some (.done (.done 8))
  else
   some (.next (s.1,aA .i64 (s.2.1+1),s.2.2))
 else
  some (.done (.next (aA .i64 (s.1+1),s.2.2)))
def gK (s:(Int×Int×Int×(List (Int×Int×Int))×Int×(List (Int×Int×Int))×(List Int)×(List Bool)×(List Int)×(List (Int×Int×Int×Int×Int))×(List Int)×(List (Int×Int×Int))×(List Int))):Option (bH (Int×Int×Int×(List (Int×Int×Int))×Int×(List (Int×Int×Int))×(List Int)×(List Bool)×(List Int)×(List (Int×Int×Int×Int×Int))×(List Int)×(List (Int×Int×Int))×(List Int)) Int):=
 bif decide (s.1<(Int.ofNat s.2.2.2.2.2.2.2.2.2.2.2.2.length)) then
  (aL s.2.2.2.2.2.2.2.2.2.2.2.2 s.1).bind fun n0=>
  (fD (Field.mk s.2.2.2.1) n0).bind fun n1=>
  bif decide (n1<0) then
   some (.done 8)
  else
   aK nS (s.1,0,s.2)
 else
  (vE s.2.2.2.2.2.2.2.2.2.2.2.2).bind fun l2=>
  (wT (aO.mk (s.2.1,s.2.2.1) (Field.mk s.2.2.2.1) (aW.mk s.2.2.2.2.1 s.2.2.2.2.2.1) (aJ.mk (aR.mk s.2.2.2.2.2.2.1 s.2.2.2.2.2.2.2.1 s.2.2.2.2.2.2.2.2.1) s.2.2.2.2.2.2.2.2.2.1 s.2.2.2.2.2.2.2.2.2.2.1) s.2.2.2.2.2.2.2.2.2.2.2.1) l2).bind fun b3=>
  bif !b3 then
   some (.done 8)
  else
   some (.done 0)
def fE (p0:dY):Option Int:=
 (tZ p0.clock).bind fun n0=>
 bif n0 !=0 then
  some 8
 else
  bif (Int.ofNat p0.heap.length) !=(Int.ofNat p0.clock.field.points.length) then
   some 8
  else
   aK gK (0,p0.clock.now.1,p0.clock.now.2,p0.clock.field.points,p0.clock.certs.next_,p0.clock.certs.list,p0.clock.agenda.slots.uses,p0.clock.agenda.slots.used,p0.clock.agenda.slots.free,p0.clock.agenda.heap,p0.clock.agenda.where_,p0.clock.due,p0.heap)
def c26:bF:=⟨aB.one (aG.agg gP),aG.int .i64,fun a=>fE a,.pure,false⟩
theorem MM:aF aT 26 c26:=Oc aJS rfl aC [(63,c63),(64,c64),(57,c57),(57,aFj),(65,c65)] ⟨aLc,IV,RC,MF,aLd,trivial⟩ fun a=>by kernel_rfl
def qT (p0:dY):Option ((List (Int×Int))×Int):=
 (fE p0).bind fun n0=>
 bif n0 !=0 then
  (fE p0).bind fun n1=>
  some ([],n1)
 else
  (vE p0.heap).bind fun l2=>
  some (l2,0)
def c20:bF:=⟨aB.one (aG.agg gP),aG.tup (aB.cons (aG.sl gU) (aB.one (aG.int .i64))),fun a=>qT a,.frz,false⟩
theorem aLe:aF aT 20 c20:=Oc aJM rfl aC [(26,c26),(57,c57),(57,aFj)] ⟨MM,RC,MF,trivial⟩ fun a=>by kernel_rfl
def nT (p0:dY):Option (Int×Int):=
 (jF p0).bind fun n0=>
 bif n0 !=0 then
  some (0,n0)
 else
  bif (Int.ofNat p0.heap.length)==0 then
   some (0,42)
  else
   (aL p0.heap 0).bind fun n1=>
   some (n1,0)
def c21:bF:=⟨aB.one (aG.agg gP),aG.tup (aB.cons (aG.int .i64) (aB.one (aG.int .i64))),fun a=>nT a,.pure,false⟩
theorem aLf:aF aT 21 c21:=Oc aJN rfl aC [(25,c25)] ⟨ML,trivial⟩ fun a=>by kernel_rfl
def nU (p0:dY):Option (Int×Int):=
 (fE p0).bind fun n0=>
 bif n0 !=0 then
  (fE p0).bind fun n1=>
  some (0,n1)
 else
  bif (Int.ofNat p0.heap.length)==0 then
   some (0,42)
  else
   (aL p0.heap 0).bind fun n2=>
   some (n2,0)
def c22:bF:=⟨aB.one (aG.agg gP),aG.tup (aB.cons (aG.int .i64) (aB.one (aG.int .i64))),fun a=>nU a,.pure,false⟩
theorem aLg:aF aT 22 c22:=Oc aJO rfl aC [(26,c26)] ⟨MM,trivial⟩ fun a=>by kernel_rfl
def CJ (p0:aJ):Option ((Int×Int×Int×Int×Int)×Int):=
 (hM p0).bind fun n0=>
 bif n0 !=0 then
  some ((0,0,0,0,0),n0)
 else
  bif (Int.ofNat p0.heap.length)==0 then
   some ((0,0,0,0,0),42)
  else
   (aL p0.heap 0).bind fun a1=>
   some (a1,0)
def aNc:bF:=⟨aB.one (aG.agg bV),aG.tup (aB.cons (aG.agg (bY.row iD)) (aB.one (aG.int .i64))),fun a=>CJ a,.pure,false⟩
theorem aFF:aF aT 116 aNc:=Oc aCx rfl aC [(118,VE)] ⟨DQ,trivial⟩ fun a=>by kernel_rfl
def CK (p0:aO):Option ((Int×Int×Int×Int×Int)×Int):=
 (hU p0).bind fun n0=>
 bif n0 !=0 then
  some ((0,0,0,0,0),n0)
 else
  (CJ p0.agenda).bind fun a1=>
  some a1
def c58:bF:=⟨aB.one (aG.agg bR),aG.tup (aB.cons (aG.agg (bY.row iD)) (aB.one (aG.int .i64))),fun a=>CK a,.pure,false⟩
theorem aLh:aF aT 58 c58:=Oc aJ7 rfl aC [(59,c59),(116,aNc)] ⟨IQ,aFF,trivial⟩ fun a=>by kernel_rfl
def sN (p0:dY):Option ((Int×Int×Int×Int×Int)×Int):=
 (jF p0).bind fun n0=>
 bif n0 !=0 then
  some ((0,0,0,0,0),n0)
 else
  (CK p0.clock).bind fun a1=>
  some a1
def c23:bF:=⟨aB.one (aG.agg gP),aG.tup (aB.cons (aG.agg (bY.row iD)) (aB.one (aG.int .i64))),fun a=>sN a,.pure,false⟩
theorem aLi:aF aT 23 c23:=Oc aJP rfl aC [(25,c25),(58,c58)] ⟨ML,aLh,trivial⟩ fun a=>by kernel_rfl
def sO (p0:dY):Option ((Int×Int×Int×Int×Int)×Int):=
 (fE p0).bind fun n0=>
 bif n0 !=0 then
  (fE p0).bind fun n1=>
  some ((0,0,0,0,0),n1)
 else
  bif (Int.ofNat p0.clock.agenda.heap.length)==0 then
   some ((0,0,0,0,0),42)
  else
   (aL p0.clock.agenda.heap 0).bind fun a2=>
   some (a2,0)
def c24:bF:=⟨aB.one (aG.agg gP),aG.tup (aB.cons (aG.agg (bY.row iD)) (aB.one (aG.int .i64))),fun a=>sO a,.pure,false⟩
theorem aLj:aF aT 24 c24:=Oc aJQ rfl aC [(26,c26)] ⟨MM,trivial⟩ fun a=>by kernel_rfl
def pR (s:(Int×Int×(List (Int×Int×Int))×Int×(List (Int×Int×Int)))):Option (bH (Int×Int×(List (Int×Int×Int))×Int×(List (Int×Int×Int))) Bool):=
 bif decide (s.1<(Int.ofNat s.2.2.1.length)) then
  (aL s.2.2.1 s.1).bind fun a0=>
  (aL s.2.2.2.2 s.1).bind fun a1=>
  bif !((a0.1==a1.1)&&((a0.2.1==a1.2.1)&&(a0.2.2==a1.2.2))) then
   some (.done false)
  else
   some (.next (aA .i64 (s.1+1),s.2))
 else
  some (.done true)
def wU (p0:aW) (p1:aW):Option Bool:=
 bif p0.next_ !=p1.next_ then
  some false
 else
  bif (Int.ofNat p0.list.length) !=(Int.ofNat p1.list.length) then
   some false
  else
   aK pR (0,p0.next_,p0.list,p1.next_,p1.list)
def c90:bF:=⟨aB.cons (aG.agg eV) (aB.one (aG.agg eV)),aG.bool,fun a=>wU a.1 a.2,.pure,false⟩
theorem aLk:aF aT 90 c90:=Oc aKp rfl aC [] trivial fun a=>by kernel_rfl
def kB (s:((List Int)×(List Int)×Int)):Option (bH ((List Int)×(List Int)×Int) Bool):=
 bif decide (s.2.2<(Int.ofNat s.1.length)) then
  (aL s.1 s.2.2).bind fun n0=>
  (aL s.2.1 s.2.2).bind fun n1=>
  bif n0 !=n1 then
   some (.done false)
  else
   some (.next (s.1,s.2.1,aA .i64 (s.2.2+1)))
 else
  some (.done true)
def iV (p0:List Int) (p1:List Int):Option Bool:=
 bif (Int.ofNat p0.length) !=(Int.ofNat p1.length) then
  some false
 else
  aK kB (p0,p1,0)
def aLl:bF:=⟨aB.cons (aG.sl ki) (aB.one (aG.sl ki)),aG.bool,fun a=>iV a.1 a.2,.pure,false⟩
theorem T8:aF aT 151 aLl:=Oc aC3 rfl aC [] trivial fun a=>by kernel_rfl
def jM (s:((List Bool)×(List Bool)×Int)):Option (bH ((List Bool)×(List Bool)×Int) Bool):=
 bif decide (s.2.2<(Int.ofNat s.1.length)) then
  (aL s.1 s.2.2).bind fun b0=>
  (aL s.2.1 s.2.2).bind fun b1=>
  bif !(b0==b1) then
   some (.done false)
  else
   some (.next (s.1,s.2.1,aA .i64 (s.2.2+1)))
 else
  some (.done true)
def lU (p0:List Bool) (p1:List Bool):Option Bool:=
 bif (Int.ofNat p0.length) !=(Int.ofNat p1.length) then
  some false
 else
  aK jM (p0,p1,0)
def aNd:bF:=⟨aB.cons (aG.sl kb) (aB.one (aG.sl kb)),aG.bool,fun a=>lU a.1 a.2,.pure,false⟩
theorem aFG:aF aT 194 aNd:=Oc aDE rfl aC [] trivial fun a=>by kernel_rfl
def CL (p0:aR) (p1:aR):Option Bool:=
 (iV p0.uses p1.uses).bind fun b0=>
 bif b0 then
  (lU p0.used p1.used).bind fun b1=>
  bif b1 then
   (iV p0.free p1.free).bind fun b2=>
   some b2
  else
   some false
 else
  some false
def aNe:bF:=⟨aB.cons (aG.agg dW) (aB.one (aG.agg dW)),aG.bool,fun a=>CL a.1 a.2,.pure,false⟩
theorem aFH:aF aT 150 aNe:=Oc aC2 rfl aC [(151,aLl),(194,aNd)] ⟨T8,aFG,trivial⟩ fun a=>by kernel_rfl
def pS (s:(Int×(List Int)×(List Bool)×(List Int)×(List (Int×Int×Int×Int×Int))×(List Int)×(List Int)×(List Bool)×(List Int)×(List (Int×Int×Int×Int×Int))×(List Int))):Option (bH (Int×(List Int)×(List Bool)×(List Int)×(List (Int×Int×Int×Int×Int))×(List Int)×(List Int)×(List Bool)×(List Int)×(List (Int×Int×Int×Int×Int))×(List Int)) Bool):=
 bif decide (s.1<(Int.ofNat s.2.2.2.2.1.length)) then
  (aL s.2.2.2.2.1 s.1).bind fun a0=>
  (aL s.2.2.2.2.2.2.2.2.2.1 s.1).bind fun a1=>
  bif !((a0.1==a1.1)&&((a0.2.1==a1.2.1)&&((a0.2.2.1==a1.2.2.1)&&((a0.2.2.2.1==a1.2.2.2.1)&&(a0.2.2.2.2==a1.2.2.2.2))))) then
   some (.done false)
  else
   some (.next (aA .i64 (s.1+1),s.2))
 else
  some (.done true)
def wV (p0:aJ) (p1:aJ):Option Bool:=
 (CL p0.slots p1.slots).bind fun b0=>
 bif !b0 then
  some false
 else
  (iV p0.where_ p1.where_).bind fun b1=>
  bif !b1 then
   some false
  else
   bif (Int.ofNat p0.heap.length) !=(Int.ofNat p1.heap.length) then
    some false
   else
    aK pS (0,p0.slots.uses,p0.slots.used,p0.slots.free,p0.heap,p0.where_,p1.slots.uses,p1.slots.used,p1.slots.free,p1.heap,p1.where_)
def c91:bF:=⟨aB.cons (aG.agg bV) (aB.one (aG.agg bV)),aG.bool,fun a=>wV a.1 a.2,.pure,false⟩
theorem aLm:aF aT 91 c91:=Oc aKq rfl aC [(150,aNe),(151,aLl)] ⟨aFH,T8,trivial⟩ fun a=>by kernel_rfl
def pT (s:(Int×Int×Int×(List (Int×Int×Int))×Int×(List (Int×Int×Int))×(List Int)×(List Bool)×(List Int)×(List (Int×Int×Int×Int×Int))×(List Int)×(List (Int×Int×Int))×Int×Int×(List (Int×Int×Int))×Int×(List (Int×Int×Int))×(List Int)×(List Bool)×(List Int)×(List (Int×Int×Int×Int×Int))×(List Int)×(List (Int×Int×Int)))):Option (bH (Int×Int×Int×(List (Int×Int×Int))×Int×(List (Int×Int×Int))×(List Int)×(List Bool)×(List Int)×(List (Int×Int×Int×Int×Int))×(List Int)×(List (Int×Int×Int))×Int×Int×(List (Int×Int×Int))×Int×(List (Int×Int×Int))×(List Int)×(List Bool)×(List Int)×(List (Int×Int×Int×Int×Int))×(List Int)×(List (Int×Int×Int))) Bool):=
 bif decide (s.1<(Int.ofNat s.2.2.2.2.2.2.2.2.2.2.2.1.length)) then
  (aL s.2.2.2.2.2.2.2.2.2.2.2.1 s.1).bind fun a0=>
  (aL s.2.2.2.2.2.2.2.2.2.2.2.2.2.2.2.2.2.2.2.2.2.2 s.1).bind fun a1=>
  bif !((a0.1==a1.1)&&((a0.2.1==a1.2.1)&&(a0.2.2==a1.2.2))) then
   some (.done false)
  else
   some (.next (aA .i64 (s.1+1),s.2))
 else
  some (.done true)
def wW (p0:aO) (p1:aO):Option Bool:=
 bif !((p0.now.1==p1.now.1)&&(p0.now.2==p1.now.2)) then
  some false
 else
  (sJ p0.field p1.field).bind fun b0=>
  bif !b0 then
   some false
  else
   (wU p0.certs p1.certs).bind fun b1=>
   bif !b1 then
    some false
   else
    (wV p0.agenda p1.agenda).bind fun b2=>
    bif !b2 then
     some false
    else
     bif (Int.ofNat p0.due.length) !=(Int.ofNat p1.due.length) then
      some false
     else
      aK pT (0,p0.now.1,p0.now.2,p0.field.points,p0.certs.next_,p0.certs.list,p0.agenda.slots.uses,p0.agenda.slots.used,p0.agenda.slots.free,p0.agenda.heap,p0.agenda.where_,p0.due,p1.now.1,p1.now.2,p1.field.points,p1.certs.next_,p1.certs.list,p1.agenda.slots.uses,p1.agenda.slots.used,p1.agenda.slots.free,p1.agenda.heap,p1.agenda.where_,p1.due)
def c40:bF:=⟨aB.cons (aG.agg bR) (aB.one (aG.agg bR)),aG.bool,fun a=>wW a.1 a.2,.pure,false⟩
theorem aLn:aF aT 40 c40:=Oc aJX rfl aC [(89,c89),(90,c90),(91,c91)] ⟨YC,aLk,aLm,trivial⟩ fun a=>by kernel_rfl
def kZ (s:((List Int)×(List Int)×Int)):Option (bH ((List Int)×(List Int)×Int) Bool):=
 bif decide (s.2.2<(Int.ofNat s.1.length)) then
  (aL s.1 s.2.2).bind fun n0=>
  (aL s.2.1 s.2.2).bind fun n1=>
  bif n0 !=n1 then
   some (.done false)
  else
   some (.next (s.1,s.2.1,aA .i64 (s.2.2+1)))
 else
  some (.done true)
def pU (p0:List Int) (p1:List Int):Option Bool:=
 bif (Int.ofNat p0.length) !=(Int.ofNat p1.length) then
  some false
 else
  aK kZ (p0,p1,0)
def c41:bF:=⟨aB.cons (aG.sl ki) (aB.one (aG.sl ki)),aG.bool,fun a=>pU a.1 a.2,.pure,false⟩
theorem aLo:aF aT 41 c41:=Oc aJY rfl aC [] trivial fun a=>by kernel_rfl
def wX (p0:dY) (p1:dY):Option Bool:=
 (wW p0.clock p1.clock).bind fun b0=>
 bif b0 then
  (pU p0.heap p1.heap).bind fun b1=>
  some b1
 else
  some false
def c12:bF:=⟨aB.cons (aG.agg gP) (aB.one (aG.agg gP)),aG.bool,fun a=>wX a.1 a.2,.pure,false⟩
theorem aLp:aF aT 12 c12:=Oc aJG rfl aC [(40,c40),(41,c41)] ⟨aLn,aLo,trivial⟩ fun a=>by kernel_rfl
def jN (s:((List (Int×Int))×(List (Int×Int))×Int)):Option (bH ((List (Int×Int))×(List (Int×Int))×Int) Bool):=
 bif decide (s.2.2<(Int.ofNat s.1.length)) then
  (aL s.1 s.2.2).bind fun a0=>
  (aL s.2.1 s.2.2).bind fun a1=>
  bif !((a0.1==a1.1)&&(a0.2==a1.2)) then
   some (.done false)
  else
   some (.next (s.1,s.2.1,aA .i64 (s.2.2+1)))
 else
  some (.done true)
def lV (p0:List (Int×Int)) (p1:List (Int×Int)):Option Bool:=
 bif (Int.ofNat p0.length) !=(Int.ofNat p1.length) then
  some false
 else
  aK jN (p0,p1,0)
def c13:bF:=⟨aB.cons (aG.sl gU) (aB.one (aG.sl gU)),aG.bool,fun a=>lV a.1 a.2,.pure,false⟩
theorem aLq:aF aT 13 c13:=Oc aJH rfl aC [] trivial fun a=>by kernel_rfl
def nV (p0:Field) (p1:Int×Int) (p2:dY):Option Bool:=
 (mK p0).bind fun b0=>
 bif b0 then
  some true
 else
  (qI p2).bind fun b1=>
  bif b1 then
   some true
  else
   (mN p0 p1).bind fun a2=>
   (mR p0 p1).bind fun a3=>
   (qR p2).bind fun a4=>
   (qT p2).bind fun a5=>
   (nT p2).bind fun a6=>
   (nU p2).bind fun a7=>
   (sN p2).bind fun a8=>
   (sO p2).bind fun a9=>
   (wX a2.1 a3.1).bind fun b10=>
   bif b10 then
    bif a2.2==a3.2 then
     (jF p2).bind fun n11=>
     (fE p2).bind fun n12=>
     bif n11==n12 then
      (lV a4.1 a5.1).bind fun b13=>
      bif b13 then
       bif a4.2==a5.2 then
        bif a6.1==a7.1 then
         bif a6.2==a7.2 then
          bif (a8.1.1==a9.1.1)&&((a8.1.2.1==a9.1.2.1)&&((a8.1.2.2.1==a9.1.2.2.1)&&((a8.1.2.2.2.1==a9.1.2.2.2.1)&&(a8.1.2.2.2.2==a9.1.2.2.2.2)))) then
           some (a8.2==a9.2)
          else
           some false
         else
          some false
        else
         some false
       else
        some false
      else
       some false
     else
      some false
    else
     some false
   else
    some false
def c5:bF:=⟨aB.cons (aG.agg cF) (aB.cons (aG.agg (bY.row gU)) (aB.one (aG.agg gP))),aG.bool,fun a=>nV a.1 a.2.1 a.2.2,.pure,false⟩
theorem aNf:aF aT 5 c5:=Oc aGm rfl aC [(16,c16),(7,c7),(17,c17),(18,c18),(19,c19),(20,c20),(21,c21),(22,c22),(23,c23),(24,c24),(12,c12),(25,c25),(26,c26),(13,c13)] ⟨XW,aL2,aKQ,aK6,aK9,aLe,aLf,aLg,aLi,aLj,aLp,ML,MM,aLq,trivial⟩ fun a=>by kernel_rfl
end
end Go.Proofs.YtmlghnibpjlchaaGreat
