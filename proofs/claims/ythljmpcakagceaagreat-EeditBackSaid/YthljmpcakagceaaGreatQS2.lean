/- Plain functions for what the functions of the seat compute. Printed by a program. -/
import Derived.Test.YthljmpcakagceaaGreatVm3
import Derived.Test.YthljmpcakagceaaGreatQXT
import Derived.Test.YthljmpcakagceaaGreatQS1
set_option maxRecDepth 100000
namespace Go.Proofs.YthljmpcakagceaaGreat
open Go.Vm
noncomputable section
abbrev Zt3:=bR×Int×Int×Int×Int×bR×Int×bR×(List Int)×(List Bool)×(List Int)×kV×(List Int)×bR×bR×Int×Int×Int×Int×Int×Int×bR×(List Int)×(List Bool)×(List Int)×kV×(List Int)×bR×bR
abbrev aSp:=bR×Int×Int×Int×Int×bR×Int×bR×(List Int)×(List Bool)×(List Int)×kV×(List Int)×bR×bR×Int×Int×Int
abbrev Zt7:=cH aSp (aQ×Int)
def dL (s:Zt3):Option (cH Zt3 Zt7):=
 match s with
 |(a,b,d,e,f,g,h,i,j,k,l,m,n,o,q,r,t,u,v,w,x,y,z,A,B,C,D,E,F)=>
  bif decide (d<b) then
   (aO a d).bind fun a0=>
   (sL (Field.mk q) a0.2 (e,f)).bind fun a1=>
   (qH o a0.1).bind fun a2=>
   bif a1.2.1 then
    bif a2.2 then
     (aO o a2.1).bind fun a3=>
     (vS (aI.mk (aR.mk z A B) C D) a3.2 a1.1).bind fun a4=>
     (aO o a2.1).bind fun a5=>
     (bF F [a5]).bind fun l6=>
     bif a4.2 !=0 then
      some (.done (.done (aQ.mk (0,0) (Field.mk []) (aV.mk 0 []) (aI.mk (aR.mk [] [] []) [] []) [],a4.2)))
     else
      some (.next (a,b,aA .i64 (d+1),e,f,g,h,i,j,k,l,m,n,o,q,r,t,u,v,w,x,y,a4.1.slots.uses,a4.1.slots.used,a4.1.slots.free,a4.1.heap,a4.1.where_,E,l6))
    else
     bif a1.2.1 then
      (mD (aI.mk (aR.mk z A B) C D) a1.1 a0.1).bind fun a7=>
      (bF F [(a0.1,a7.2.1)]).bind fun l8=>
      bif a7.2.2 !=0 then
       some (.done (.done (aQ.mk (0,0) (Field.mk []) (aV.mk 0 []) (aI.mk (aR.mk [] [] []) [] []) [],a7.2.2)))
      else
       some (.next (a,b,aA .i64 (d+1),e,f,g,h,i,j,k,l,m,n,o,q,r,t,u,v,w,x,y,a7.1.slots.uses,a7.1.slots.used,a7.1.slots.free,a7.1.heap,a7.1.where_,E,l8))
     else
      bif a2.2 then
       (aO o a2.1).bind fun a9=>
       (nE (aI.mk (aR.mk z A B) C D) a9.2).bind fun a10=>
       bif a10.2.2 !=0 then
        some (.done (.done (aQ.mk (0,0) (Field.mk []) (aV.mk 0 []) (aI.mk (aR.mk [] [] []) [] []) [],a10.2.2)))
       else
        some (.next (a,b,aA .i64 (d+1),e,f,g,h,i,j,k,l,m,n,o,q,r,t,u,v,w,x,y,a10.1.slots.uses,a10.1.slots.used,a10.1.slots.free,a10.1.heap,a10.1.where_,(E,F)))
      else
       bif a1.2.2 !=0 then
        some (.done (.done (aQ.mk (0,0) (Field.mk []) (aV.mk 0 []) (aI.mk (aR.mk [] [] []) [] []) [],a1.2.2)))
       else
        some (.next (a,b,aA .i64 (d+1),(e,f,g,h,i,j,k,l,m,n,o,q,r,t,u,v,w,x,y,z,A,B,C,D,E,F)))
   else
    bif a1.2.1 then
     (mD (aI.mk (aR.mk z A B) C D) a1.1 a0.1).bind fun a11=>
     (bF F [(a0.1,a11.2.1)]).bind fun l12=>
     bif a11.2.2 !=0 then
      some (.done (.done (aQ.mk (0,0) (Field.mk []) (aV.mk 0 []) (aI.mk (aR.mk [] [] []) [] []) [],a11.2.2)))
     else
      some (.next (a,b,aA .i64 (d+1),e,f,g,h,i,j,k,l,m,n,o,q,r,t,u,v,w,x,y,a11.1.slots.uses,a11.1.slots.used,a11.1.slots.free,a11.1.heap,a11.1.where_,E,l12))
    else
     bif a2.2 then
      (aO o a2.1).bind fun a13=>
      (nE (aI.mk (aR.mk z A B) C D) a13.2).bind fun a14=>
      bif a14.2.2 !=0 then
       some (.done (.done (aQ.mk (0,0) (Field.mk []) (aV.mk 0 []) (aI.mk (aR.mk [] [] []) [] []) [],a14.2.2)))
      else
       some (.next (a,b,aA .i64 (d+1),e,f,g,h,i,j,k,l,m,n,o,q,r,t,u,v,w,x,y,a14.1.slots.uses,a14.1.slots.used,a14.1.slots.free,a14.1.heap,a14.1.where_,(E,F)))
     else
      bif a1.2.2 !=0 then
       some (.done (.done (aQ.mk (0,0) (Field.mk []) (aV.mk 0 []) (aI.mk (aR.mk [] [] []) [] []) [],a1.2.2)))
      else
       some (.next (a,b,aA .i64 (d+1),(e,f,g,h,i,j,k,l,m,n,o,q,r,t,u,v,w,x,y,z,A,B,C,D,E,F)))
  else
   some (.done (.done (aQ.mk (v,w) (Field.mk E) (aV.mk x y) (aI.mk (aR.mk z A B) C D) F,0)))
def lN (s:aSp):Option Zt7:=
 bif decide (s.2.2.1<s.2.1) then
  (aO s.1 s.2.2.1).bind fun a0=>
  (kE (Field.mk s.2.2.2.2.2.2.2.2.2.2.2.2.2.2.1) a0.2.1).bind fun a1=>
  bif decide (a1.1<0) then
   some (.done (aQ.mk (0,0) (Field.mk []) (aV.mk 0 []) (aI.mk (aR.mk [] [] []) [] []) [],6))
  else
   (kE (Field.mk s.2.2.2.2.2.2.2.2.2.2.2.2.2.2.1) a0.2.2).bind fun a2=>
   bif decide (a2.1<0) then
    some (.done (aQ.mk (0,0) (Field.mk []) (aV.mk 0 []) (aI.mk (aR.mk [] [] []) [] []) [],6))
   else
    some (.next (s.1,s.2.1,aA .i64 (s.2.2.1+1),s.2.2.2))
 else
  (oB (aQ.mk (s.2.2.2.1,s.2.2.2.2.1) (Field.mk s.2.2.2.2.2.1) (aV.mk s.2.2.2.2.2.2.1 s.2.2.2.2.2.2.2.1) (aI.mk (aR.mk s.2.2.2.2.2.2.2.2.1 s.2.2.2.2.2.2.2.2.2.1 s.2.2.2.2.2.2.2.2.2.2.1) s.2.2.2.2.2.2.2.2.2.2.2.1 s.2.2.2.2.2.2.2.2.2.2.2.2.1) s.2.2.2.2.2.2.2.2.2.2.2.2.2.1)).bind fun r3=>
  (cD s.2.2.2.2.2.2.2.2.2.2.2.2.2.2.1).bind fun l4=>
  aH dL (s.2.2.2.2.2.2.2.1,Int.ofNat s.2.2.2.2.2.2.2.1.length,0,s.2.2.2.1,s.2.2.2.2.1,s.2.2.2.2.2.1,s.2.2.2.2.2.2.1,s.2.2.2.2.2.2.2.1,s.2.2.2.2.2.2.2.2.1,s.2.2.2.2.2.2.2.2.2.1,s.2.2.2.2.2.2.2.2.2.2.1,s.2.2.2.2.2.2.2.2.2.2.2.1,s.2.2.2.2.2.2.2.2.2.2.2.2.1,s.2.2.2.2.2.2.2.2.2.2.2.2.2.1,s.2.2.2.2.2.2.2.2.2.2.2.2.2.2.1,s.2.2.2.2.2.2.2.2.2.2.2.2.2.2.2.1,s.2.2.2.2.2.2.2.2.2.2.2.2.2.2.2.2.1,s.2.2.2.2.2.2.2.2.2.2.2.2.2.2.2.2.2,r3.now.1,r3.now.2,r3.certs.next_,r3.certs.list,r3.agenda.slots.uses,r3.agenda.slots.used,r3.agenda.slots.free,r3.agenda.heap,r3.agenda.where_,l4,[])
def qI (p0:aQ) (p1:Field):Option (aQ×Int):=
 (iA p0).bind fun n0=>
 bif n0 !=0 then
  some (aQ.mk (0,0) (Field.mk []) (aV.mk 0 []) (aI.mk (aR.mk [] [] []) [] []) [],n0)
 else
  (dE p1).bind fun n1=>
  bif n1 !=0 then
   some (aQ.mk (0,0) (Field.mk []) (aV.mk 0 []) (aI.mk (aR.mk [] [] []) [] []) [],n1)
  else
   aH lN (p0.certs.list,Int.ofNat p0.certs.list.length,0,p0.now.1,p0.now.2,p0.field.points,p0.certs.next_,p0.certs.list,p0.agenda.slots.uses,p0.agenda.slots.used,p0.agenda.slots.free,p0.agenda.heap,p0.agenda.where_,p0.due,p1.points,0,0,0)
def aSq:bJ:=⟨aC.cons (aM.agg bU) (aC.one (aM.agg bS)),aM.tup (aC.cons (aM.agg bU) (aC.one (aM.int .i64))),fun a=>qI a.1 a.2,.frz,false⟩
theorem aJO:aK tab 214 aSq:=Oc aHB rfl aG [(109,aAH),(99,c99),(221,aJh),(125,aJC),(125,ZA),(103,bJ.clone dV),(169,aJo),(179,aPI),(263,aSl),(264,aPM),(180,aPL)] ⟨HE,F4,QV,Q2,MV,uF,QX,ZB,aJK,ZF,ZE,trivial⟩ fun a=>by kernel_rfl
def E3 (p0:Int×Int×Int) (p1:Int×Int):Option Bool:=
 some ((p0.2.1==p1.1)&&(p0.2.2==p1.2))
def aSr:bJ:=⟨aC.cons (aM.agg (cJ.row dV)) (aC.one (aM.ref (cJ.row jS))),aM.bool,fun a=>E3 a.1 a.2,.pure,false⟩
theorem aJP:aK tab 215 aSr:=Oc aHC rfl aG [] trivial fun a=>by kernel_rfl
def nL (s:QK):Option (cH QK Int):=
 bif decide (s.2.2.2.2<s.2.2.2.1) then
  (aO s.1 s.2.2.2.2).bind fun a0=>
  (E3 a0 (s.2.1,s.2.2.1)).bind fun b1=>
  bif b1 then
   some (.done s.2.2.2.2)
  else
   some (.next (s.1,s.2.1,s.2.2.1,s.2.2.2.1,aA .i64 (s.2.2.2.2+1)))
 else
  some (.done (-1))
def iQ (p0:List (Int×Int×Int)) (p1:(Int×Int)):Option Int:=
 aH nL (p0,p1.1,p1.2,Int.ofNat p0.length,0)
def T0:bJ:=⟨aC.cons (aM.sl dV) (aC.one (aM.clo 215 (aC.one (aM.ref (cJ.row jS))))),aM.int .i64,fun a=>iQ a.1 a.2,.pure,false⟩
theorem T1:aK tab 222 T0:=Oc QG rfl aG [(215,aSr)] ⟨aJP,trivial⟩ fun a=>by kernel_rfl
def eG (p0:List (Int×Int×Int)) (p1:(Int×Int)):Option Bool:=
 (iQ p0 p1).bind fun n0=>
 some (decide (0<=n0))
def T2:bJ:=⟨aC.cons (aM.sl dV) (aC.one (aM.clo 215 (aC.one (aM.ref (cJ.row jS))))),aM.bool,fun a=>eG a.1 a.2,.pure,false⟩
theorem T3:aK tab 171 T2:=Oc QF rfl aG [(222,T0)] ⟨T1,trivial⟩ fun a=>by kernel_rfl
def dH (p0:Int):Option (aQ×Int×Int):=
 some (aQ.mk (0,0) (Field.mk []) (aV.mk 0 []) (aI.mk (aR.mk [] [] []) [] []) [],0,p0)
def aSs:bJ:=⟨aC.one (aM.int .i64),aM.tup (aC.cons (aM.agg bU) (aC.cons (aM.int .i64) (aC.one (aM.int .i64)))),fun a=>dH a,.frz,false⟩
theorem aJQ:aK tab 265 aSs:=Oc aH5 rfl aG [] trivial fun a=>by kernel_rfl
def F5 (p0:Int×Int×Int) (p1:Int×Int):Option Bool:=
 some ((p0.2.1==p1.1)&&(p0.2.2==p1.2))
def aSt:bJ:=⟨aC.cons (aM.agg (cJ.row dV)) (aC.one (aM.ref (cJ.row jS))),aM.bool,fun a=>F5 a.1 a.2,.pure,false⟩
theorem aJR:aK tab 295 aSt:=Oc aIm rfl aG [] trivial fun a=>by kernel_rfl
def dG (s:QK):Option (cH QK Int):=
 bif decide (s.2.2.2.2<s.2.2.2.1) then
  (aO s.1 s.2.2.2.2).bind fun a0=>
  (F5 a0 (s.2.1,s.2.2.1)).bind fun b1=>
  bif b1 then
   some (.done s.2.2.2.2)
  else
   some (.next (s.1,s.2.1,s.2.2.1,s.2.2.2.1,aA .i64 (s.2.2.2.2+1)))
 else
  some (.done (-1))
def fW (p0:List (Int×Int×Int)) (p1:(Int×Int)):Option Int:=
 aH dG (p0,p1.1,p1.2,Int.ofNat p0.length,0)
def T4:bJ:=⟨aC.cons (aM.sl dV) (aC.one (aM.clo 295 (aC.one (aM.ref (cJ.row jS))))),aM.int .i64,fun a=>fW a.1 a.2,.pure,false⟩
theorem T5:aK tab 222 T4:=Oc QG rfl aG [(295,aSt)] ⟨aJR,trivial⟩ fun a=>by kernel_rfl
def cL (p0:List (Int×Int×Int)) (p1:(Int×Int)):Option Bool:=
 (fW p0 p1).bind fun n0=>
 some (decide (0<=n0))
def T6:bJ:=⟨aC.cons (aM.sl dV) (aC.one (aM.clo 295 (aC.one (aM.ref (cJ.row jS))))),aM.bool,fun a=>cL a.1 a.2,.pure,false⟩
theorem T7:aK tab 171 T6:=Oc QF rfl aG [(222,T4)] ⟨T5,trivial⟩ fun a=>by kernel_rfl
def HF (p0:aV) (p1:Int×Int):Option (aV×Int×Int):=
 (sI p0).bind fun n0=>
 bif n0 !=0 then
  some (aV.mk 0 [],0,n0)
 else
  (wR p1).bind fun b1=>
  bif !b1 then
   some (aV.mk 0 [],0,8)
  else
   (cL p0.list p1).bind fun b2=>
   bif b2 then
    some (aV.mk 0 [],0,14)
   else
    bif (Int.ofNat p0.list.length)==200 then
     some (aV.mk 0 [],0,18)
    else
     bif p0.next_==1000000 then
      some (aV.mk 0 [],0,18)
     else
      (cD p0.list).bind fun l3=>
      (bF l3 [(p0.next_,p1)]).bind fun l4=>
      some (aV.mk (aA .i64 (p0.next_+1)) l4,p0.next_,0)
def aSu:bJ:=⟨aC.cons (aM.agg gZ) (aC.one (aM.agg (cJ.row jS))),aM.tup (aC.cons (aM.agg gZ) (aC.cons (aM.int .i64) (aC.one (aM.int .i64)))),fun a=>HF a.1 a.2,.frz,false⟩
theorem aJS:aK tab 266 aSu:=Oc aH6 rfl aG [(167,aI4),(217,aPw),(171,T6),(182,bJ.clone dV)] ⟨QS,Y4,T7,zV,trivial⟩ fun a=>by kernel_rfl
def iZ (p0:aQ) (p1:Int×Int):Option (aQ×Int×Int):=
 (iA p0).bind fun n0=>
 bif n0 !=0 then
  (dH n0).bind fun a1=>
  some a1
 else
  (HF p0.certs p1).bind fun a2=>
  bif a2.2.2==8 then
   (dH a2.2.2).bind fun a3=>
   some a3
  else
   (kE p0.field p1.1).bind fun a4=>
   bif decide (a4.1<0) then
    (dH 6).bind fun a5=>
    some a5
   else
    (kE p0.field p1.2).bind fun a6=>
    bif decide (a6.1<0) then
     (dH 6).bind fun a7=>
     some a7
    else
     bif a2.2.2 !=0 then
      (dH a2.2.2).bind fun a8=>
      some a8
     else
      (oB p0).bind fun r9=>
      (sL p0.field p1 p0.now).bind fun a10=>
      bif a10.2.2 !=0 then
       (dH a10.2.2).bind fun a11=>
       some a11
      else
       bif a10.2.1 then
        (mD p0.agenda a10.1 a2.2.1).bind fun a12=>
        bif a12.2.2 !=0 then
         (dH a12.2.2).bind fun a13=>
         some a13
        else
         (bF r9.due [(a2.2.1,a12.2.1)]).bind fun l14=>
         some (aQ.mk r9.now r9.field a2.1 a12.1 l14,a2.2.1,0)
       else
        some (aQ.mk r9.now r9.field a2.1 r9.agenda r9.due,a2.2.1,0)
def aSv:bJ:=⟨aC.cons (aM.agg bU) (aC.one (aM.agg (cJ.row jS))),aM.tup (aC.cons (aM.agg bU) (aC.cons (aM.int .i64) (aC.one (aM.int .i64)))),fun a=>iZ a.1 a.2,.frz,false⟩
theorem aJT:aK tab 216 aSv:=Oc aHD rfl aG [(109,aAH),(265,aSs),(266,aSu),(221,aJh),(125,aJC),(125,ZA),(169,aJo),(264,aPM)] ⟨HE,aJQ,aJS,QV,Q2,MV,QX,ZF,trivial⟩ fun a=>by kernel_rfl
abbrev aSw:=sB×bR×Int×Int×Int×Int×bR×Int×bR×(List Int)×(List Bool)×(List Int)×kV×(List Int)×bR×bR×Int×Int×Int
abbrev Zt6:=cH aSw (aQ×Int)
abbrev Zt9:=sB×Int×Int×Int×Int×bR×Int×bR×(List Int)×(List Bool)×(List Int)×kV×(List Int)×bR×Int×Int×Int
def dM (s:Zt9):Option (cH Zt9 Zt6):=
 bif decide (s.2.2.1<s.2.1) then
  (aO s.1 s.2.2.1).bind fun a0=>
  (eG s.2.2.2.2.2.2.2.1 a0).bind fun b1=>
  bif b1 then
   some (.next (s.1,s.2.1,aA .i64 (s.2.2.1+1),s.2.2.2))
  else
   (iZ (aQ.mk (s.2.2.2.1,s.2.2.2.2.1) (Field.mk s.2.2.2.2.2.1) (aV.mk s.2.2.2.2.2.2.1 s.2.2.2.2.2.2.2.1) (aI.mk (aR.mk s.2.2.2.2.2.2.2.2.1 s.2.2.2.2.2.2.2.2.2.1 s.2.2.2.2.2.2.2.2.2.2.1) s.2.2.2.2.2.2.2.2.2.2.2.1 s.2.2.2.2.2.2.2.2.2.2.2.2.1) s.2.2.2.2.2.2.2.2.2.2.2.2.2.1) a0).bind fun a2=>
   bif a2.2.2 !=0 then
    some (.done (.done (aQ.mk (0,0) (Field.mk []) (aV.mk 0 []) (aI.mk (aR.mk [] [] []) [] []) [],a2.2.2)))
   else
    some (.next (s.1,s.2.1,aA .i64 (s.2.2.1+1),a2.1.now.1,a2.1.now.2,a2.1.field.points,a2.1.certs.next_,a2.1.certs.list,a2.1.agenda.slots.uses,a2.1.agenda.slots.used,a2.1.agenda.slots.free,a2.1.agenda.heap,a2.1.agenda.where_,a2.1.due,s.2.2.2.2.2.2.2.2.2.2.2.2.2.2))
 else
  some (.done (.done (aQ.mk (s.2.2.2.1,s.2.2.2.2.1) (Field.mk s.2.2.2.2.2.1) (aV.mk s.2.2.2.2.2.2.1 s.2.2.2.2.2.2.2.1) (aI.mk (aR.mk s.2.2.2.2.2.2.2.2.1 s.2.2.2.2.2.2.2.2.2.1 s.2.2.2.2.2.2.2.2.2.2.1) s.2.2.2.2.2.2.2.2.2.2.2.1 s.2.2.2.2.2.2.2.2.2.2.2.2.1) s.2.2.2.2.2.2.2.2.2.2.2.2.2.1,0)))
def dB (s:aSw):Option Zt6:=
 match s with
 |(a,b,d,e,f,g,h,i,j,k,l,m,n,o,q,r,t,u,v)=>
  bif decide (e<d) then
   (aO b e).bind fun a0=>
   (fQ a a0.2).bind fun b1=>
   bif !b1 then
    (vR (aQ.mk (f,g) (Field.mk h) (aV.mk i j) (aI.mk (aR.mk k l m) n o) q) a0.1).bind fun a2=>
    some (.next (a,b,d,aA .i64 (e+1),a2.1.now.1,a2.1.now.2,a2.1.field.points,a2.1.certs.next_,a2.1.certs.list,a2.1.agenda.slots.uses,a2.1.agenda.slots.used,a2.1.agenda.slots.free,a2.1.agenda.heap,a2.1.agenda.where_,a2.1.due,(r,t,u,v)))
   else
    some (.next (a,b,d,aA .i64 (e+1),(f,g,h,i,j,k,l,m,n,o,q,r,t,u,v)))
  else
   (jN h r).bind fun b3=>
   bif !b3 then
    (qI (aQ.mk (f,g) (Field.mk h) (aV.mk i j) (aI.mk (aR.mk k l m) n o) q) (Field.mk r)).bind fun a4=>
    bif a4.2 !=0 then
     some (.done (aQ.mk (0,0) (Field.mk []) (aV.mk 0 []) (aI.mk (aR.mk [] [] []) [] []) [],a4.2))
    else
     aH dM (a,Int.ofNat a.length,0,a4.1.now.1,a4.1.now.2,a4.1.field.points,a4.1.certs.next_,a4.1.certs.list,a4.1.agenda.slots.uses,a4.1.agenda.slots.used,a4.1.agenda.slots.free,a4.1.agenda.heap,a4.1.agenda.where_,a4.1.due,(t,u,v))
   else
    aH dM (a,Int.ofNat a.length,0,f,g,h,i,j,k,l,m,n,o,q,(t,u,v))
def oC (p0:aQ) (p1:Field) (p2:List (Int×Int)):Option (aQ×Int):=
 aH dB (p2,p0.certs.list,Int.ofNat p0.certs.list.length,0,p0.now.1,p0.now.2,p0.field.points,p0.certs.next_,p0.certs.list,p0.agenda.slots.uses,p0.agenda.slots.used,p0.agenda.slots.free,p0.agenda.heap,p0.agenda.where_,p0.due,p1.points,0,0,0)
def aSx:bJ:=⟨aC.cons (aM.agg bU) (aC.cons (aM.agg bS) (aC.one (aM.sl jS))),aM.tup (aC.cons (aM.agg bU) (aC.one (aM.int .i64))),fun a=>oC a.1 a.2.1 a.2.2,.frz,false⟩
theorem aJU:aK tab 165 aSx:=Oc aGZ rfl aG [(163,aJr),(212,aSj),(213,aSk),(214,aSq),(171,T2),(216,aSv)] ⟨QZ,aJI,aJJ,aJO,T3,aJT,trivial⟩ fun a=>by kernel_rfl
abbrev aAL:=sB×sB×Int×Int×Int×Int×bR×Int×bR×(List Int)×(List Bool)×(List Int)×kV×(List Int)×bR×bR×Int×Int×Int
abbrev aSy:=cH aAL (aQ×Int)
abbrev Zt1:=cH aAL aSy
def fH (s:aAL):Option (cH aAL Zt1):=
 bif decide (s.2.2.2.1<s.2.2.1) then
  (aO s.2.1 s.2.2.2.1).bind fun a0=>
  (wT (Field.mk s.2.2.2.2.2.2.2.2.2.2.2.2.2.2.2.1) a0.1).bind fun a1=>
  (wT (Field.mk s.2.2.2.2.2.2.2.2.2.2.2.2.2.2.2.1) a0.2).bind fun a2=>
  bif a1.2 !=0 then
   some (.done (.done (.done (aQ.mk (0,0) (Field.mk []) (aV.mk 0 []) (aI.mk (aR.mk [] [] []) [] []) [],6))))
  else
   bif a2.2 !=0 then
    some (.done (.done (.done (aQ.mk (0,0) (Field.mk []) (aV.mk 0 []) (aI.mk (aR.mk [] [] []) [] []) [],6))))
   else
    some (.next (s.1,s.2.1,s.2.2.1,aA .i64 (s.2.2.2.1+1),s.2.2.2.2))
 else
  (wU (aQ.mk (s.2.2.2.2.1,s.2.2.2.2.2.1) (Field.mk s.2.2.2.2.2.2.1) (aV.mk s.2.2.2.2.2.2.2.1 s.2.2.2.2.2.2.2.2.1) (aI.mk (aR.mk s.2.2.2.2.2.2.2.2.2.1 s.2.2.2.2.2.2.2.2.2.2.1 s.2.2.2.2.2.2.2.2.2.2.2.1) s.2.2.2.2.2.2.2.2.2.2.2.2.1 s.2.2.2.2.2.2.2.2.2.2.2.2.2.1) s.2.2.2.2.2.2.2.2.2.2.2.2.2.2.1)).bind fun r3=>
  (oC r3 (Field.mk s.2.2.2.2.2.2.2.2.2.2.2.2.2.2.2.1) s.1).bind fun a4=>
  some (.done (.done (.done a4)))
def eM (s:aAL):Option Zt1:=
 bif decide (s.2.2.2.1<s.2.2.1) then
  (aO s.2.1 s.2.2.2.1).bind fun a0=>
  (jD s.1 0 s.2.2.2.1).bind fun l1=>
  (fQ l1 a0).bind fun b2=>
  bif b2 then
   some (.done (.done (aQ.mk (0,0) (Field.mk []) (aV.mk 0 []) (aI.mk (aR.mk [] [] []) [] []) [],14)))
  else
   some (.next (s.1,s.2.1,s.2.2.1,aA .i64 (s.2.2.2.1+1),s.2.2.2.2))
 else
  aH fH (s.1,s.1,Int.ofNat s.1.length,0,s.2.2.2.2)
def eN (s:aAL):Option aSy:=
 bif decide (s.2.2.2.1<s.2.2.1) then
  (aO s.2.1 s.2.2.2.1).bind fun a0=>
  bif decide (a0.1<0) then
   some (.done (aQ.mk (0,0) (Field.mk []) (aV.mk 0 []) (aI.mk (aR.mk [] [] []) [] []) [],8))
  else
   bif decide (a0.2<0) then
    some (.done (aQ.mk (0,0) (Field.mk []) (aV.mk 0 []) (aI.mk (aR.mk [] [] []) [] []) [],8))
   else
    bif decide (65535<a0.1) then
     some (.done (aQ.mk (0,0) (Field.mk []) (aV.mk 0 []) (aI.mk (aR.mk [] [] []) [] []) [],8))
    else
     bif decide (65535<a0.2) then
      some (.done (aQ.mk (0,0) (Field.mk []) (aV.mk 0 []) (aI.mk (aR.mk [] [] []) [] []) [],8))
     else
      bif a0.1==a0.2 then
       some (.done (aQ.mk (0,0) (Field.mk []) (aV.mk 0 []) (aI.mk (aR.mk [] [] []) [] []) [],8))
      else
       some (.next (s.1,s.2.1,s.2.2.1,aA .i64 (s.2.2.2.1+1),s.2.2.2.2))
 else
  aH eM (s.1,s.1,Int.ofNat s.1.length,0,s.2.2.2.2)
def kH (p0:aQ) (p1:Field) (p2:List (Int×Int)):Option (aQ×Int):=
 (iA p0).bind fun n0=>
 bif n0 !=0 then
  some (aQ.mk (0,0) (Field.mk []) (aV.mk 0 []) (aI.mk (aR.mk [] [] []) [] []) [],n0)
 else
  (dE p1).bind fun n1=>
  bif n1 !=0 then
   some (aQ.mk (0,0) (Field.mk []) (aV.mk 0 []) (aI.mk (aR.mk [] [] []) [] []) [],n1)
  else
   aH eN (p2,p2,Int.ofNat p2.length,0,p0.now.1,p0.now.2,p0.field.points,p0.certs.next_,p0.certs.list,p0.agenda.slots.uses,p0.agenda.slots.used,p0.agenda.slots.free,p0.agenda.heap,p0.agenda.where_,p0.due,p1.points,0,0,0)
def aJV:bJ:=⟨aC.cons (aM.agg bU) (aC.cons (aM.agg bS) (aC.one (aM.sl jS))),aM.tup (aC.cons (aM.agg bU) (aC.one (aM.int .i64))),fun a=>kH a.1 a.2.1 a.2.2,.frz,false⟩
theorem Q4:aK tab 108 aJV:=Oc aGp rfl aG [(109,aAH),(99,c99),(163,aJr),(164,aR9),(166,aSa),(166,aK2),(165,aSx)] ⟨HE,F4,QZ,aJx,aJy,aCu,aJU,trivial⟩ fun a=>by kernel_rfl
def gG (p0:bH) (p1:(Int×Int×Int)):Option (bH×Int):=
 (oS p0).bind fun n0=>
 bif n0 !=0 then
  some (bH.mk (aQ.mk (0,0) (Field.mk []) (aV.mk 0 []) (aI.mk (aR.mk [] [] []) [] []) []) (nK.mk 0 []),n0)
 else
  (xX p0.clock.field p1).bind fun a1=>
  bif a1.2 !=0 then
   some (bH.mk (aQ.mk (0,0) (Field.mk []) (aV.mk 0 []) (aI.mk (aR.mk [] [] []) [] []) []) (nK.mk 0 []),a1.2)
  else
   (qG a1.1 p0.clock.now).bind fun a2=>
   (oA a2.1).bind fun l3=>
   (kH p0.clock a1.1 l3).bind fun a4=>
   bif a4.2 !=0 then
    some (bH.mk (aQ.mk (0,0) (Field.mk []) (aV.mk 0 []) (aI.mk (aR.mk [] [] []) [] []) []) (nK.mk 0 []),a4.2)
   else
    some (bH.mk a4.1 a2.1,0)
def aCy:bJ:=⟨aC.cons (aM.agg dW) (aC.one (aM.clo 92 (aC.one (aM.ref (cJ.row dV))))),aM.tup (aC.cons (aM.agg dW) (aC.one (aM.int .i64))),fun a=>gG a.1 a.2,.frz,false⟩
theorem aAM:aK tab 91 aCy:=Oc WA rfl aG [(57,c57),(92,c92),(29,c29),(150,aJv),(108,aJV)] ⟨WL,aPH,QY,Q0,Q4,trivial⟩ fun a=>by kernel_rfl
def sN (p0:bH) (p1:Int×Int×Int):Option (bH×Int):=
 (gG p0 p1).bind fun a0=>
 some a0
def c38:bJ:=⟨aC.cons (aM.agg dW) (aC.one (aM.agg (cJ.row dV))),aM.tup (aC.cons (aM.agg dW) (aC.one (aM.int .i64))),fun a=>sN a.1 a.2,.frz,false⟩
theorem aCz:aK tab 38 c38:=Oc aOD rfl aG [(91,aCy)] ⟨aAM,trivial⟩ fun a=>by kernel_rfl
def kM (a:aAB):Option (Nat×Nat×bR):=
 bif (((decide (0<=a.1))&&(decide (a.1<=a.2.1)))&&(decide (a.2.1<=(Int.ofNat a.2.2.length))))&&(decide ((Int.ofNat a.2.2.length)<=(Int.ofNat a.2.2.length))) then
  bif a.1==a.2.1 then
   bif a.2.2.length==a.2.2.length then
    some (a.2.2.length,a.2.2.length,a.2.2)
   else
    none
  else
   (jD a.2.2 0 a.1).bind fun _=>
   bif ((decide (0<=a.2.1))&&(decide (a.2.1<=(Int.ofNat a.2.2.length))))&&(decide ((Int.ofNat a.2.2.length)<=(Int.ofNat a.2.2.length))) then
    bif ((a.2.2.drop (0+a.2.1.toNat)).take (((Int.ofNat a.2.2.length).toNat) -a.2.1.toNat)).isEmpty then
     bif ((decide (0<=(Int.ofNat a.1.toNat)))&&(decide ((Int.ofNat a.1.toNat)<=(Int.ofNat a.2.2.length))))&&(decide ((Int.ofNat a.2.2.length)<=(Int.ofNat a.2.2.length))) then
      bif Nat.beq (((Int.ofNat a.2.2.length).toNat) - ((Int.ofNat a.1.toNat).toNat)) 0 then
       bif a.2.2.length==a.2.2.length then
        some (a.1.toNat,a.2.2.length,a.2.2)
       else
        none
      else
       bif (Nat.ble ((0+((Int.ofNat a.1.toNat).toNat))+(((Int.ofNat a.2.2.length).toNat) - ((Int.ofNat a.1.toNat).toNat))) a.2.2.length)&&(!false) then
        bif ((eV a.2.2 (0+((Int.ofNat a.1.toNat).toNat)) (List.replicate (((Int.ofNat a.2.2.length).toNat) - ((Int.ofNat a.1.toNat).toNat)) (0,0,0))).length)==a.2.2.length then
         some (a.1.toNat,a.2.2.length,eV a.2.2 (0+((Int.ofNat a.1.toNat).toNat)) (List.replicate (((Int.ofNat a.2.2.length).toNat) - ((Int.ofNat a.1.toNat).toNat)) (0,0,0)))
        else
         none
       else
        none
     else
      none
    else
     bif Nat.ble (a.1.toNat+(((a.2.2.drop (0+a.2.1.toNat)).take (((Int.ofNat a.2.2.length).toNat) -a.2.1.toNat)).length)) a.2.2.length then
      bif (Nat.ble (a.1.toNat+(((a.2.2.drop (0+a.2.1.toNat)).take (((Int.ofNat a.2.2.length).toNat) -a.2.1.toNat)).length)) a.2.2.length)&&(!false) then
       bif ((decide (0<=(Int.ofNat (a.1.toNat+(((a.2.2.drop (0+a.2.1.toNat)).take (((Int.ofNat a.2.2.length).toNat) -a.2.1.toNat)).length)))))&&(decide ((Int.ofNat (a.1.toNat+(((a.2.2.drop (0+a.2.1.toNat)).take (((Int.ofNat a.2.2.length).toNat) -a.2.1.toNat)).length)))<=(Int.ofNat a.2.2.length))))&&(decide ((Int.ofNat a.2.2.length)<=(Int.ofNat a.2.2.length))) then
        bif Nat.beq (((Int.ofNat a.2.2.length).toNat) - ((Int.ofNat (a.1.toNat+(((a.2.2.drop (0+a.2.1.toNat)).take (((Int.ofNat a.2.2.length).toNat) -a.2.1.toNat)).length))).toNat)) 0 then
         bif ((eV a.2.2 a.1.toNat ((a.2.2.drop (0+a.2.1.toNat)).take (((Int.ofNat a.2.2.length).toNat) -a.2.1.toNat))).length)==a.2.2.length then
          some (a.1.toNat+(((a.2.2.drop (0+a.2.1.toNat)).take (((Int.ofNat a.2.2.length).toNat) -a.2.1.toNat)).length),a.2.2.length,eV a.2.2 a.1.toNat ((a.2.2.drop (0+a.2.1.toNat)).take (((Int.ofNat a.2.2.length).toNat) -a.2.1.toNat)))
         else
          none
        else
         bif (Nat.ble ((0+((Int.ofNat (a.1.toNat+(((a.2.2.drop (0+a.2.1.toNat)).take (((Int.ofNat a.2.2.length).toNat) -a.2.1.toNat)).length))).toNat))+(((Int.ofNat a.2.2.length).toNat) - ((Int.ofNat (a.1.toNat+(((a.2.2.drop (0+a.2.1.toNat)).take (((Int.ofNat a.2.2.length).toNat) -a.2.1.toNat)).length))).toNat))) ((eV a.2.2 a.1.toNat ((a.2.2.drop (0+a.2.1.toNat)).take (((Int.ofNat a.2.2.length).toNat) -a.2.1.toNat))).length))&&(!false) then
          bif ((eV (eV a.2.2 a.1.toNat ((a.2.2.drop (0+a.2.1.toNat)).take (((Int.ofNat a.2.2.length).toNat) -a.2.1.toNat))) (0+((Int.ofNat (a.1.toNat+(((a.2.2.drop (0+a.2.1.toNat)).take (((Int.ofNat a.2.2.length).toNat) -a.2.1.toNat)).length))).toNat)) (List.replicate (((Int.ofNat a.2.2.length).toNat) - ((Int.ofNat (a.1.toNat+(((a.2.2.drop (0+a.2.1.toNat)).take (((Int.ofNat a.2.2.length).toNat) -a.2.1.toNat)).length))).toNat)) (0,0,0))).length)==a.2.2.length then
           some (a.1.toNat+(((a.2.2.drop (0+a.2.1.toNat)).take (((Int.ofNat a.2.2.length).toNat) -a.2.1.toNat)).length),a.2.2.length,eV (eV a.2.2 a.1.toNat ((a.2.2.drop (0+a.2.1.toNat)).take (((Int.ofNat a.2.2.length).toNat) -a.2.1.toNat))) (0+((Int.ofNat (a.1.toNat+(((a.2.2.drop (0+a.2.1.toNat)).take (((Int.ofNat a.2.2.length).toNat) -a.2.1.toNat)).length))).toNat)) (List.replicate (((Int.ofNat a.2.2.length).toNat) - ((Int.ofNat (a.1.toNat+(((a.2.2.drop (0+a.2.1.toNat)).take (((Int.ofNat a.2.2.length).toNat) -a.2.1.toNat)).length))).toNat)) (0,0,0)))
          else
           none
         else
          none
       else
        none
      else
       none
     else
      none
   else
    none
 else
  none
def aCA:eC:=⟨[.i,.i,.l [.i .i64,.i .i64,.i .i64]],[.own 0 false,.int .i64 0,.int .i64 0],[.arr [.i .i64,.i .i64,.i .i64] []],[.n,.n,.l [.i .i64,.i .i64,.i .i64]],.pre 0 0 0 false,[.arr [.i .i64,.i .i64,.i .i64] []],fun a=>kM a⟩
theorem aAN:kU tab 105 aCA:=kU.of aGn (wd:=true) (cx:=(oX aG [] [] [] [])) (lY.make trivial trivial trivial) (fun a=>by kernel_rfl)
def kN (p0:Field) (p1:Int):Option (Field×Int):=
 (kG p0 p1).bind fun a0=>
 bif a0.2 !=0 then
  some (Field.mk [],a0.2)
 else
  (cD p0.points).bind fun l1=>
  (kM (a0.1,aA .i64 (a0.1+1),l1)).bind fun a2=>
  some (Field.mk (a2.2.2.take a2.1),0)
def c47:bJ:=⟨aC.cons (aM.agg bS) (aC.one (aM.int .i64)),aM.tup (aC.cons (aM.agg bS) (aC.one (aM.int .i64))),fun a=>kN a.1 a.2,.frz,false⟩
theorem aPN:aK tab 47 c47:=aK.of aOK (cx:=(oX aG [(104,aJw),(103,bJ.clone dV)] [(105,aCA)] [] [])) rfl (lY.make ⟨Q1,uF,trivial⟩ ⟨aAN,trivial⟩ trivial) (fun a=>by kernel_rfl)
def vT (p0:Field) (p1:Int):Option (Field×Int):=
 (kN p0 p1).bind fun a0=>
 some a0
def c98:bJ:=⟨aC.cons (aM.agg bS) (aC.one (aM.ref (cJ.int .i64))),aM.tup (aC.cons (aM.agg bS) (aC.one (aM.int .i64))),fun a=>vT a.1 a.2,.frz,false⟩
theorem aPO:aK tab 98 c98:=Oc aPc rfl aG [(47,c47)] ⟨aPN,trivial⟩ fun a=>by kernel_rfl
def fV (p0:bH) (p1:Int):Option (bH×Int):=
 (oS p0).bind fun n0=>
 bif n0 !=0 then
  some (bH.mk (aQ.mk (0,0) (Field.mk []) (aV.mk 0 []) (aI.mk (aR.mk [] [] []) [] []) []) (nK.mk 0 []),n0)
 else
  (vT p0.clock.field p1).bind fun a1=>
  bif a1.2 !=0 then
   some (bH.mk (aQ.mk (0,0) (Field.mk []) (aV.mk 0 []) (aI.mk (aR.mk [] [] []) [] []) []) (nK.mk 0 []),a1.2)
  else
   (qG a1.1 p0.clock.now).bind fun a2=>
   (oA a2.1).bind fun l3=>
   (kH p0.clock a1.1 l3).bind fun a4=>
   bif a4.2 !=0 then
    some (bH.mk (aQ.mk (0,0) (Field.mk []) (aV.mk 0 []) (aI.mk (aR.mk [] [] []) [] []) []) (nK.mk 0 []),a4.2)
   else
    some (bH.mk a4.1 a2.1,0)
def aCB:bJ:=⟨aC.cons (aM.agg dW) (aC.one (aM.clo 98 (aC.one (aM.ref (cJ.int .i64))))),aM.tup (aC.cons (aM.agg dW) (aC.one (aM.int .i64))),fun a=>fV a.1 a.2,.frz,false⟩
theorem aAO:aK tab 91 aCB:=Oc WA rfl aG [(57,c57),(98,c98),(29,c29),(150,aJv),(108,aJV)] ⟨WL,aPO,QY,Q0,Q4,trivial⟩ fun a=>by kernel_rfl
def oD (p0:bH) (p1:Int):Option (bH×Int):=
 (fV p0 p1).bind fun a0=>
 some a0
def c44:bJ:=⟨aC.cons (aM.agg dW) (aC.one (aM.int .i64)),aM.tup (aC.cons (aM.agg dW) (aC.one (aM.int .i64))),fun a=>oD a.1 a.2,.frz,false⟩
theorem aCC:aK tab 44 c44:=Oc aOH rfl aG [(91,aCB)] ⟨aAO,trivial⟩ fun a=>by kernel_rfl
abbrev aPP:=Int×Int×bR×Int×bR
abbrev aSz:=cH aPP Bool
def rG (s:aPP):Option aSz:=
 bif decide (s.1<(Int.ofNat s.2.2.1.length)) then
  (aO s.2.2.1 s.1).bind fun a0=>
  (aO s.2.2.2.2 s.1).bind fun a1=>
  bif !((a0.1==a1.1)&&((a0.2.1==a1.2.1)&&(a0.2.2==a1.2.2))) then
   some (.done false)
  else
   some (.next (aA .i64 (s.1+1),s.2))
 else
  some (.done true)
def iB (p0:nK) (p1:nK):Option Bool:=
 bif p0.root !=p1.root then
  some false
 else
  bif (Int.ofNat p0.nodes.length) !=(Int.ofNat p1.nodes.length) then
   some false
  else
   aH rG (0,p0.root,p0.nodes,p1.root,p1.nodes)
def c30:bJ:=⟨aC.cons (aM.agg wM) (aC.one (aM.agg wM)),aM.bool,fun a=>iB a.1 a.2,.pure,false⟩
theorem Q5:aK tab 30 c30:=Oc aOz rfl aG [] trivial fun a=>by kernel_rfl
def T8:Option Bool:=
 C3.bind fun r0=>
 (sN r0 (7,9,-1)).bind fun a1=>
 (oD a1.1 7).bind fun a2=>
 bif a1.2==0 then
  bif a2.2==0 then
   bif (Int.ofNat a1.1.tree.nodes.length)==4 then
    bif a1.1.tree.root==3 then
     (aO a1.1.tree.nodes 3).bind fun a3=>
     bif a3.2.1==0 then
      bif (Int.ofNat a2.1.tree.nodes.length)==3 then
       bif a2.1.tree.root==0 then
        C3.bind fun r4=>
        (iB a2.1.tree r4.tree).bind fun b5=>
        some b5
       else
        some false
      else
       some false
     else
      some false
    else
     some false
   else
    some false
  else
   some false
 else
  some false
def aUk:bJ:=⟨aC.nil,aM.bool,fun _=>T8,.pure,false⟩
theorem aJW:aK tab 42 aUk:=Oc aOF rfl aG [(97,c97),(38,c38),(44,c44),(30,c30)] ⟨aPu,aCz,aCC,Q5,trivial⟩ fun a=>by kernel_rfl
def c42:bJ:=⟨aC.nil,aM.bool,fun _=>some true,.pure,false⟩
end
theorem aPQ:aK tab 42 c42:=aK.at0 (@aJW (LP.of 1000000)) (by kernel_rfl)
section
variable [LP]
def uO (p0:Field):Option Bool:=
 bif decide (16<(Int.ofNat p0.points.length)) then
  bif decide ((Int.ofNat p0.points.length)<64) then
   some true
  else
   some (decide (70<(Int.ofNat p0.points.length)))
 else
  some (decide (70<(Int.ofNat p0.points.length)))
def c11:bJ:=⟨aC.one (aM.agg bS),aM.bool,fun a=>uO a,.pure,false⟩
theorem aPR:aK tab 11 c11:=Oc aOs rfl aG [] trivial fun a=>by kernel_rfl
def C8 (p0:aR):Option Bool:=
 bif decide (210<(Int.ofNat p0.uses.length)) then
  some true
 else
  bif decide (210<(Int.ofNat p0.used.length)) then
   some true
  else
   some (decide (210<(Int.ofNat p0.free.length)))
def aSB:bJ:=⟨aC.one (aM.agg gC),aM.bool,fun a=>C8 a,.pure,false⟩
theorem aJX:aK tab 201 aSB:=Oc aHr rfl aG [] trivial fun a=>by kernel_rfl
def C9 (p0:aI):Option Bool:=
 (C8 p0.slots).bind fun b0=>
 bif b0 then
  some true
 else
  bif decide (210<(Int.ofNat p0.heap.length)) then
   some true
  else
   some (decide (210<(Int.ofNat p0.where_.length)))
def aSC:bJ:=⟨aC.one (aM.agg cZ),aM.bool,fun a=>C9 a,.pure,false⟩
theorem aJY:aK tab 146 aSC:=Oc aGO rfl aG [(201,aSB)] ⟨aJX,trivial⟩ fun a=>by kernel_rfl
def uP (p0:aQ):Option Bool:=
 bif decide (40<(Int.ofNat p0.certs.list.length)) then
  some true
 else
  bif decide (40<(Int.ofNat p0.due.length)) then
   some true
  else
   (uO p0.field).bind fun b0=>
   bif b0 then
    some true
   else
    (C9 p0.agenda).bind fun b1=>
    some b1
def c87:bJ:=⟨aC.one (aM.agg bU),aM.bool,fun a=>uP a,.pure,false⟩
theorem aPS:aK tab 87 c87:=Oc aO6 rfl aG [(11,c11),(146,aSC)] ⟨aPR,aJY,trivial⟩ fun a=>by kernel_rfl
def DA (p0:nK):Option Bool:=
 some (decide (70<(Int.ofNat p0.nodes.length)))
def c88:bJ:=⟨aC.one (aM.agg wM),aM.bool,fun a=>DA a,.pure,false⟩
theorem aPT:aK tab 88 c88:=Oc aO7 rfl aG [] trivial fun a=>by kernel_rfl
def uQ (p0:bH):Option Bool:=
 (uP p0.clock).bind fun b0=>
 bif b0 then
  some true
 else
  (DA p0.tree).bind fun b1=>
  some b1
def c36:bJ:=⟨aC.one (aM.agg dW),aM.bool,fun a=>uQ a,.pure,false⟩
theorem aPU:aK tab 36 c36:=Oc aOC rfl aG [(87,c87),(88,c88)] ⟨aPS,aPT,trivial⟩ fun a=>by kernel_rfl
def F6 (p0:Field):Option Bool:=
 some (decide (10<(Int.ofNat p0.points.length)))
def c68:bJ:=⟨aC.one (aM.agg bS),aM.bool,fun a=>F6 a,.pure,false⟩
theorem aPV:aK tab 68 c68:=Oc aOT rfl aG [] trivial fun a=>by kernel_rfl
def rH (s:(Int×Int×bR×bR)):Option (cH (Int×Int×bR×bR) Bool):=
 bif decide (s.1<(Int.ofNat s.2.2.1.length)) then
  (aO s.2.2.1 s.1).bind fun a0=>
  (hO (Field.mk s.2.2.2) a0.2.1).bind fun n1=>
  bif decide (n1<0) then
   some (.done false)
  else
   (aO s.2.2.1 s.1).bind fun a2=>
   (hO (Field.mk s.2.2.2) a2.2.2).bind fun n3=>
   bif decide (n3<0) then
    some (.done false)
   else
    some (.next (aA .i64 (s.1+1),s.2))
 else
  some (.done true)
def xZ (p0:aV) (p1:Field):Option Bool:=
 aH rH (0,p0.next_,p0.list,p1.points)
def aSD:bJ:=⟨aC.cons (aM.agg gZ) (aC.one (aM.agg bS)),aM.bool,fun a=>xZ a.1 a.2,.pure,false⟩
theorem aJZ:aK tab 129 aSD:=Oc aGD rfl aG [(21,c21)] ⟨WI,trivial⟩ fun a=>by kernel_rfl
abbrev aCD:=Int×Int×(List Int)×(List Bool)×(List Int)×(List Bool)
def lO (s:aCD):Option (cH aCD (cH aCD Int)):=
 bif decide (s.2.1<s.1) then
  (aO s.2.2.1 s.2.1).bind fun n0=>
  bif decide (n0<0) then
   some (.done (.done 8))
  else
   (aO s.2.2.1 s.2.1).bind fun n1=>
   bif decide (1000000<n1) then
    some (.done (.done 8))
   else
    (aO s.2.2.2.1 s.2.1).bind fun b2=>
    (aO s.2.2.2.2.2 s.2.1).bind fun b3=>
    bif b2==b3 then
     some (.done (.done 8))
    else
     (aO s.2.2.2.1 s.2.1).bind fun b4=>
     bif b4 then
      (aO s.2.2.1 s.2.1).bind fun n5=>
      bif decide (n5<1) then
       some (.done (.done 8))
      else
       some (.next (s.1,aA .i64 (s.2.1+1),s.2.2))
     else
      some (.next (s.1,aA .i64 (s.2.1+1),s.2.2))
 else
  some (.done (.done 0))
def rI (s:aCD):Option (cH aCD Int):=
 bif decide (s.2.1<(Int.ofNat s.2.2.2.2.1.length)) then
  (aO s.2.2.2.2.1 s.2.1).bind fun n0=>
  bif decide (n0<0) then
   some (.done 8)
  else
   (aO s.2.2.2.2.1 s.2.1).bind fun n1=>
   bif decide (s.1<=n1) then
    some (.done 8)
   else
    (aO s.2.2.2.2.1 s.2.1).bind fun n2=>
    (aO s.2.2.2.2.2 n2).bind fun b3=>
    bif b3 then
     some (.done 8)
    else
     (aO s.2.2.2.2.1 s.2.1).bind fun n4=>
     (aO s.2.2.2.2.2 n4).bind fun _=>
     some (.next (s.1,aA .i64 (s.2.1+1),s.2.2.1,s.2.2.2.1,s.2.2.2.2.1,cB s.2.2.2.2.2 n4 true))
 else
  aH lO (s.1,0,s.2.2)
def yA (p0:aR):Option Int:=
 bif decide ((Int.ofNat p0.uses.length)<1) then
  some 8
 else
  bif decide (200<(Int.ofNat p0.uses.length)) then
   some 8
  else
   bif (Int.ofNat p0.used.length) !=(Int.ofNat p0.uses.length) then
    some 8
   else
    bif decide ((Int.ofNat p0.uses.length)<(Int.ofNat p0.free.length)) then
     some 8
    else
     bif (Int.ofNat p0.uses.length)==(Int.ofNat p0.uses.length) then
      (zR (Int.ofNat p0.uses.length) (false:Bool)).bind fun l0=>
      aH rI (Int.ofNat p0.uses.length,0,p0.uses,p0.used,p0.free,l0)
     else
      none
def aSE:bJ:=⟨aC.one (aM.agg gC),aM.int .i64,fun a=>yA a,.pure,false⟩
theorem aJ0:aK tab 189 aSE:=Oc aHh rfl aG [] trivial fun a=>by kernel_rfl
def wW (p0:aR) (p1:Int×Int):Option Bool:=
 bif decide (0<=p1.1) then
  bif decide (p1.1<(Int.ofNat p0.uses.length)) then
   (aO p0.used p1.1).bind fun b0=>
   bif b0 then
    (aO p0.uses p1.1).bind fun n1=>
    some (n1==p1.2)
   else
    some false
  else
   some false
 else
  some false
def aPW:bJ:=⟨aC.cons (aM.agg gC) (aC.one (aM.agg (cJ.row jS))),aM.bool,fun a=>wW a.1 a.2,.pure,false⟩
theorem ZG:aK tab 193 aPW:=Oc aHl rfl aG [] trivial fun a=>by kernel_rfl
def pK (s:aPh):Option (cH aPh Bool):=
 bif decide (s.2.1<s.1) then
  (aO s.2.2.2.1 s.2.1).bind fun b0=>
  bif !b0 then
   (aO s.2.2.2.2.2.2 s.2.1).bind fun n1=>
   bif n1 !=(-1) then
    some (.done false)
   else
    some (.next (s.1,aA .i64 (s.2.1+1),s.2.2))
  else
   (aO s.2.2.2.2.2.2 s.2.1).bind fun n2=>
   bif decide (n2<0) then
    some (.done false)
   else
    bif decide ((Int.ofNat s.2.2.2.2.2.1.length)<=n2) then
     some (.done false)
    else
     (aO s.2.2.2.2.2.1 n2).bind fun a3=>
     bif a3.2.2.2.1 !=s.2.1 then
      some (.done false)
     else
      (aO s.2.2.2.2.2.1 n2).bind fun a4=>
      (wW (aR.mk s.2.2.1 s.2.2.2.1 s.2.2.2.2.1) a4.2.2.2).bind fun b5=>
      bif !b5 then
       some (.done false)
      else
       some (.next (s.1,aA .i64 (s.2.1+1),s.2.2))
 else
  some (.done true)
def vU (p0:aI):Option Bool:=
 bif (Int.ofNat p0.where_.length) !=(Int.ofNat p0.slots.uses.length) then
  some false
 else
  bif (Int.ofNat p0.heap.length) !=(aA .i64 ((Int.ofNat p0.slots.uses.length) - (Int.ofNat p0.slots.free.length))) then
   some false
  else
   aH pK (Int.ofNat p0.slots.uses.length,0,p0.slots.uses,p0.slots.used,p0.slots.free,p0.heap,p0.where_)
def aSF:bJ:=⟨aC.one (aM.agg cZ),aM.bool,fun a=>vU a,.pure,false⟩
theorem aJ1:aK tab 190 aSF:=Oc aHi rfl aG [(193,aPW)] ⟨ZG,trivial⟩ fun a=>by kernel_rfl
abbrev aSG:=Int×Int×(List Int)×(List Bool)×(List Int)×kV×(List Int)×Int×Int×Int×Int×Int
abbrev aPX:=cH G9 Int
def lP (s:aSG):Option (cH aSG aPX):=
 bif decide (s.2.1<s.1) then
  (aO s.2.2.2.2.2.1 s.2.1).bind fun a0=>
  bif a0.2.2.1==s.2.2.2.2.2.2.2.2.2.1 then
   some (.done (.done 8))
  else
   some (.next (s.1,aA .i64 (s.2.1+1),s.2.2))
 else
  some (.done (.next (aA .i64 (s.1+1),s.2.2.1,s.2.2.2.1,s.2.2.2.2.1,s.2.2.2.2.2.1,s.2.2.2.2.2.2.1)))
def lQ (s:G9):Option (cH G9 aPX):=
 bif decide (s.1<(Int.ofNat s.2.2.2.2.1.length)) then
  (aO s.2.2.2.2.1 s.1).bind fun a0=>
  (aO s.2.2.2.2.1 (aA .i64 (Int.tdiv (aA .i64 (s.1-1)) 2))).bind fun a1=>
  (eK a0 a1).bind fun b2=>
  bif b2 then
   some (.done (.done 8))
  else
   some (.next (aA .i64 (s.1+1),s.2))
 else
  some (.done (.done 0))
def rJ (s:G9):Option aPX:=
 bif decide (s.1<(Int.ofNat s.2.2.2.2.1.length)) then
  (aO s.2.2.2.2.1 s.1).bind fun a0=>
  (qB (a0.1,a0.2.1)).bind fun n1=>
  bif n1 !=0 then
   some (.done 8)
  else
   bif decide (a0.2.2.1<0) then
    some (.done 8)
   else
    bif decide (1000000<a0.2.2.1) then
     some (.done 8)
    else
     aH lP (s.1,0,s.2.1,s.2.2.1,s.2.2.2.1,s.2.2.2.2.1,s.2.2.2.2.2,a0)
 else
  aH lQ (1,s.2)
def uR (p0:aI):Option Int:=
 (yA p0.slots).bind fun n0=>
 bif n0 !=0 then
  some 8
 else
  (vU p0).bind fun b1=>
  bif !b1 then
   some 8
  else
   aH rJ (0,p0.slots.uses,p0.slots.used,p0.slots.free,p0.heap,p0.where_)
def aPY:bJ:=⟨aC.one (aM.agg cZ),aM.int .i64,fun a=>uR a,.pure,false⟩
theorem ZH:aK tab 130 aPY:=Oc aGE rfl aG [(189,aSE),(190,aSF),(13,c13),(191,WE)] ⟨aJ0,aJ1,WC,D5,trivial⟩ fun a=>by kernel_rfl
def wX (p0:aI) (p1:Int×Int):Option ((Int×Int×Int×Int×Int)×Int):=
 (uR p0).bind fun n0=>
 bif n0 !=0 then
  some ((0,0,0,0,0),8)
 else
  (wW p0.slots p1).bind fun b1=>
  bif !b1 then
   some ((0,0,0,0,0),6)
  else
   (aO p0.where_ p1.1).bind fun n2=>
   (aO p0.heap n2).bind fun a3=>
   some (a3,0)
def aSH:bJ:=⟨aC.cons (aM.agg cZ) (aC.one (aM.agg (cJ.row jS))),aM.tup (aC.cons (aM.agg (cJ.row mG)) (aC.one (aM.int .i64))),fun a=>wX a.1 a.2,.pure,false⟩
theorem aJ2:aK tab 132 aSH:=Oc aGG rfl aG [(130,aPY),(193,aPW)] ⟨ZH,ZG,trivial⟩ fun a=>by kernel_rfl
def dN (s:aPe):Option aQV:=
 bif decide (s.2.1<(Int.ofNat s.2.2.2.2.2.2.1.length)) then
  (aO s.2.2.2.2.2.2.1 s.2.1).bind fun a0=>
  (sH (Field.mk s.2.2.2.2.1) a0.2 (s.2.2.1,s.2.2.2.1)).bind fun a1=>
  bif !a1.2 then
   some (.next (s.1,aA .i64 (s.2.1+1),s.2.2))
  else
   bif decide ((Int.ofNat s.2.2.2.2.2.2.2.2.2.2.2.2.length)<=s.1) then
    some (.done 8)
   else
    (aO s.2.2.2.2.2.2.2.2.2.2.2.2 s.1).bind fun a2=>
    bif a2.1 !=a0.1 then
     some (.done 8)
    else
     (aO s.2.2.2.2.2.2.2.2.2.2.2.2 s.1).bind fun a3=>
     (wX (aI.mk (aR.mk s.2.2.2.2.2.2.2.1 s.2.2.2.2.2.2.2.2.1 s.2.2.2.2.2.2.2.2.2.1) s.2.2.2.2.2.2.2.2.2.2.1 s.2.2.2.2.2.2.2.2.2.2.2.1) a3.2).bind fun a4=>
     bif a4.2 !=0 then
      some (.done 8)
     else
      bif a4.1.2.2.1 !=a0.1 then
       some (.done 8)
      else
       bif !((a4.1.1==a1.1.1)&&(a4.1.2.1==a1.1.2)) then
        some (.done 8)
       else
        some (.next (aA .i64 (s.1+1),aA .i64 (s.2.1+1),s.2.2))
 else
  bif s.1 !=(Int.ofNat s.2.2.2.2.2.2.2.2.2.2.2.2.length) then
   some (.done 8)
  else
   some (.done 0)
def yB (p0:aQ):Option Int:=
 (qB p0.now).bind fun n0=>
 bif n0 !=0 then
  some 8
 else
  (eA p0.field).bind fun n1=>
  bif n1 !=0 then
   some 8
  else
   (uJ p0.certs).bind fun n2=>
   bif n2 !=0 then
    some 8
   else
    (xZ p0.certs p0.field).bind fun b3=>
    bif !b3 then
     some 8
    else
     (uR p0.agenda).bind fun n4=>
     bif n4 !=0 then
      some 8
     else
      bif (Int.ofNat p0.agenda.where_.length) !=200 then
       some 8
      else
       bif (Int.ofNat p0.agenda.heap.length) !=(Int.ofNat p0.due.length) then
        some 8
       else
        aH dN (0,0,p0.now.1,p0.now.2,p0.field.points,p0.certs.next_,p0.certs.list,p0.agenda.slots.uses,p0.agenda.slots.used,p0.agenda.slots.free,p0.agenda.heap,p0.agenda.where_,p0.due)
def c77:bJ:=⟨aC.one (aM.agg bU),aM.int .i64,fun a=>yB a,.pure,false⟩
theorem aPZ:aK tab 77 c77:=Oc aOZ rfl aG [(13,c13),(12,c12),(128,aPs),(129,aSD),(130,aPY),(131,aIT),(132,aSH)] ⟨WC,aCd,Y2,aJZ,ZH,QP,aJ2,trivial⟩ fun a=>by kernel_rfl
def BA (p0:Int×Int) (p1:Field) (p2:Int×Int):Option Bool:=
 (hO p1 p0.2).bind fun n0=>
 (aO p1.points n0).bind fun a1=>
 (hO p1 p0.1).bind fun n2=>
 (aO p1.points n2).bind fun a3=>
 (qC a1 a3 p2).bind fun b4=>
 some b4
def aSI:bJ:=⟨aC.cons (aM.agg (cJ.row jS)) (aC.cons (aM.agg bS) (aC.one (aM.agg (cJ.row jS)))),aM.bool,fun a=>BA a.1 a.2.1 a.2.2,.pure,false⟩
theorem aJ3:aK tab 134 aSI:=Oc aGI rfl aG [(21,c21),(67,c67)] ⟨WI,WD,trivial⟩ fun a=>by kernel_rfl
abbrev aSJ:=sB×Int×Int×Int×bR×Int×bR×(List Int)×(List Bool)×(List Int)×kV×(List Int)×bR
def tL (s:aSJ):Option (cH aSJ Bool):=
 bif decide (s.2.1<(Int.ofNat s.1.length)) then
  (aO s.1 s.2.1).bind fun a0=>
  (wD (aV.mk s.2.2.2.2.2.1 s.2.2.2.2.2.2.1) a0).bind fun b1=>
  bif !b1 then
   some (.done false)
  else
   (aO s.1 s.2.1).bind fun a2=>
   (BA a2 (Field.mk s.2.2.2.2.1) (s.2.2.1,s.2.2.2.1)).bind fun b3=>
   bif !b3 then
    some (.done false)
   else
    some (.next (s.1,aA .i64 (s.2.1+1),s.2.2))
 else
  some (.done true)
def BB (p0:aQ) (p1:List (Int×Int)):Option Bool:=
 bif (Int.ofNat p0.certs.list.length) !=(Int.ofNat p1.length) then
  some false
 else
  aH tL (p1,0,p0.now.1,p0.now.2,p0.field.points,p0.certs.next_,p0.certs.list,p0.agenda.slots.uses,p0.agenda.slots.used,p0.agenda.slots.free,p0.agenda.heap,p0.agenda.where_,p0.due)
def c79:bJ:=⟨aC.cons (aM.agg bU) (aC.one (aM.sl jS)),aM.bool,fun a=>BB a.1 a.2,.pure,false⟩
theorem aP0:aK tab 79 c79:=Oc aO1 rfl aG [(133,aIX),(134,aSI)] ⟨QQ,aJ3,trivial⟩ fun a=>by kernel_rfl
def oE (p0:bH):Option Int:=
 (yB p0.clock).bind fun n0=>
 bif n0 !=0 then
  some 8
 else
  (sE p0.clock.field p0.clock.now).bind fun r1=>
  (iB r1 p0.tree).bind fun b2=>
  bif !b2 then
   some 8
  else
   (C1 r1).bind fun l3=>
   (BB p0.clock l3).bind fun b4=>
   bif !b4 then
    some 8
   else
    some 0
def c27:bJ:=⟨aC.one (aM.agg dW),aM.int .i64,fun a=>oE a,.pure,false⟩
theorem aCE:aK tab 27 c27:=Oc aOx rfl aG [(77,c77),(78,c78),(30,c30),(80,c80),(79,c79)] ⟨aPZ,aCk,Q5,aCl,aP0,trivial⟩ fun a=>by kernel_rfl
def zX (p0:bH):Option Bool:=
 (uQ p0).bind fun b0=>
 bif !b0 then
  (F6 p0.clock.field).bind fun b1=>
  bif !b1 then
   (oE p0).bind fun n2=>
   some (n2==0)
  else
   some false
 else
  some false
def c43:bJ:=⟨aC.one (aM.agg dW),aM.bool,fun a=>zX a,.pure,false⟩
theorem aP1:aK tab 43 c43:=Oc aOG rfl aG [(36,c36),(68,c68),(27,c27)] ⟨aPU,aPV,aCE,trivial⟩ fun a=>by kernel_rfl
def gH (p0:Field) (p1:Int×Int×Int):Option (Field×Int):=
 (dE p0).bind fun n0=>
 bif n0 !=0 then
  some (Field.mk [],n0)
 else
  (kC p1).bind fun n1=>
  bif n1 !=0 then
   some (Field.mk [],n1)
  else
   (kG p0 p1.1).bind fun a2=>
   bif a2.2 !=0 then
    some (Field.mk [],a2.2)
   else
    (cD p0.points).bind fun l3=>
    (aO l3 a2.1).bind fun _=>
    some (Field.mk (cB l3 a2.1 p1),0)
def c48:bJ:=⟨aC.cons (aM.agg bS) (aC.one (aM.agg (cJ.row dV))),aM.tup (aC.cons (aM.agg bS) (aC.one (aM.int .i64))),fun a=>gH a.1 a.2,.frz,false⟩
theorem aP2:aK tab 48 c48:=Oc aOL rfl aG [(99,c99),(100,aCs),(104,aJw),(103,bJ.clone dV)] ⟨F4,KR,Q1,uF,trivial⟩ fun a=>by kernel_rfl
def rL (p0:Field) (p1:Int×Int×Int):Option (Field×Int):=
 (gH p0 p1).bind fun a0=>
 some a0
def c95:bJ:=⟨aC.cons (aM.agg bS) (aC.one (aM.ref (cJ.row dV))),aM.tup (aC.cons (aM.agg bS) (aC.one (aM.int .i64))),fun a=>rL a.1 a.2,.frz,false⟩
theorem aP3:aK tab 95 c95:=Oc aPa rfl aG [(48,c48)] ⟨aP2,trivial⟩ fun a=>by kernel_rfl
def fB (p0:bH) (p1:(Int×Int×Int)):Option (bH×Int):=
 (oS p0).bind fun n0=>
 bif n0 !=0 then
  some (bH.mk (aQ.mk (0,0) (Field.mk []) (aV.mk 0 []) (aI.mk (aR.mk [] [] []) [] []) []) (nK.mk 0 []),n0)
 else
  (rL p0.clock.field p1).bind fun a1=>
  bif a1.2 !=0 then
   some (bH.mk (aQ.mk (0,0) (Field.mk []) (aV.mk 0 []) (aI.mk (aR.mk [] [] []) [] []) []) (nK.mk 0 []),a1.2)
  else
   (qG a1.1 p0.clock.now).bind fun a2=>
   (oA a2.1).bind fun l3=>
   (kH p0.clock a1.1 l3).bind fun a4=>
   bif a4.2 !=0 then
    some (bH.mk (aQ.mk (0,0) (Field.mk []) (aV.mk 0 []) (aI.mk (aR.mk [] [] []) [] []) []) (nK.mk 0 []),a4.2)
   else
    some (bH.mk a4.1 a2.1,0)
def aCF:bJ:=⟨aC.cons (aM.agg dW) (aC.one (aM.clo 95 (aC.one (aM.ref (cJ.row dV))))),aM.tup (aC.cons (aM.agg dW) (aC.one (aM.int .i64))),fun a=>fB a.1 a.2,.frz,false⟩
theorem aAP:aK tab 91 aCF:=Oc WA rfl aG [(57,c57),(95,c95),(29,c29),(150,aJv),(108,aJV)] ⟨WL,aP3,QY,Q0,Q4,trivial⟩ fun a=>by kernel_rfl
def gI (p0:bH) (p1:Int×Int×Int):Option (bH×Int):=
 (fB p0 p1).bind fun a0=>
 some a0
def c40:bJ:=⟨aC.cons (aM.agg dW) (aC.one (aM.agg (cJ.row dV))),aM.tup (aC.cons (aM.agg dW) (aC.one (aM.int .i64))),fun a=>gI a.1 a.2,.frz,false⟩
theorem aP4:aK tab 40 c40:=Oc aOE rfl aG [(91,aCF)] ⟨aAP,trivial⟩ fun a=>by kernel_rfl
def tM (s:aPP):Option aSz:=
 bif decide (s.1<(Int.ofNat s.2.2.1.length)) then
  (aO s.2.2.1 s.1).bind fun a0=>
  (aO s.2.2.2.2 s.1).bind fun a1=>
  bif !((a0.1==a1.1)&&((a0.2.1==a1.2.1)&&(a0.2.2==a1.2.2))) then
   some (.done false)
  else
   some (.next (aA .i64 (s.1+1),s.2))
 else
  some (.done true)
def BC (p0:aV) (p1:aV):Option Bool:=
 bif p0.next_ !=p1.next_ then
  some false
 else
  bif (Int.ofNat p0.list.length) !=(Int.ofNat p1.list.length) then
   some false
  else
   aH tM (0,p0.next_,p0.list,p1.next_,p1.list)
def aSK:bJ:=⟨aC.cons (aM.agg gZ) (aC.one (aM.agg gZ)),aM.bool,fun a=>BC a.1 a.2,.pure,false⟩
theorem aJ4:aK tab 144 aSK:=Oc aGM rfl aG [] trivial fun a=>by kernel_rfl
def nJ (s:((List Int)×(List Int)×Int)):Option (cH ((List Int)×(List Int)×Int) Bool):=
 bif decide (s.2.2<(Int.ofNat s.1.length)) then
  (aO s.1 s.2.2).bind fun n0=>
  (aO s.2.1 s.2.2).bind fun n1=>
  bif n0 !=n1 then
   some (.done false)
  else
   some (.next (s.1,s.2.1,aA .i64 (s.2.2+1)))
 else
  some (.done true)
def lR (p0:List Int) (p1:List Int):Option Bool:=
 bif (Int.ofNat p0.length) !=(Int.ofNat p1.length) then
  some false
 else
  aH nJ (p0,p1,0)
def aP5:bJ:=⟨aC.cons (aM.sl ki) (aC.one (aM.sl ki)),aM.bool,fun a=>lR a.1 a.2,.pure,false⟩
theorem ZI:aK tab 200 aP5:=Oc aHq rfl aG [] trivial fun a=>by kernel_rfl
def mL (s:((List Bool)×(List Bool)×Int)):Option (cH ((List Bool)×(List Bool)×Int) Bool):=
 bif decide (s.2.2<(Int.ofNat s.1.length)) then
  (aO s.1 s.2.2).bind fun b0=>
  (aO s.2.1 s.2.2).bind fun b1=>
  bif !(b0==b1) then
   some (.done false)
  else
   some (.next (s.1,s.2.1,aA .i64 (s.2.2+1)))
 else
  some (.done true)
def pL (p0:List Bool) (p1:List Bool):Option Bool:=
 bif (Int.ofNat p0.length) !=(Int.ofNat p1.length) then
  some false
 else
  aH mL (p0,p1,0)
def aSL:bJ:=⟨aC.cons (aM.sl kb) (aC.one (aM.sl kb)),aM.bool,fun a=>pL a.1 a.2,.pure,false⟩
theorem aJ5:aK tab 252 aSL:=Oc aHU rfl aG [] trivial fun a=>by kernel_rfl
def F7 (p0:aR) (p1:aR):Option Bool:=
 (lR p0.uses p1.uses).bind fun b0=>
 bif b0 then
  (pL p0.used p1.used).bind fun b1=>
  bif b1 then
   (lR p0.free p1.free).bind fun b2=>
   some b2
  else
   some false
 else
  some false
def aSM:bJ:=⟨aC.cons (aM.agg gC) (aC.one (aM.agg gC)),aM.bool,fun a=>F7 a.1 a.2,.pure,false⟩
theorem aJ6:aK tab 199 aSM:=Oc aHp rfl aG [(200,aP5),(252,aSL)] ⟨ZI,aJ5,trivial⟩ fun a=>by kernel_rfl
abbrev aSN:=Int×(List Int)×(List Bool)×(List Int)×kV×(List Int)×(List Int)×(List Bool)×(List Int)×kV×(List Int)
def tN (s:aSN):Option (cH aSN Bool):=
 bif decide (s.1<(Int.ofNat s.2.2.2.2.1.length)) then
  (aO s.2.2.2.2.1 s.1).bind fun a0=>
  (aO s.2.2.2.2.2.2.2.2.2.1 s.1).bind fun a1=>
  bif !((a0.1==a1.1)&&((a0.2.1==a1.2.1)&&((a0.2.2.1==a1.2.2.1)&&((a0.2.2.2.1==a1.2.2.2.1)&&(a0.2.2.2.2==a1.2.2.2.2))))) then
   some (.done false)
  else
   some (.next (aA .i64 (s.1+1),s.2))
 else
  some (.done true)
def BD (p0:aI) (p1:aI):Option Bool:=
 (F7 p0.slots p1.slots).bind fun b0=>
 bif !b0 then
  some false
 else
  (lR p0.where_ p1.where_).bind fun b1=>
  bif !b1 then
   some false
  else
   bif (Int.ofNat p0.heap.length) !=(Int.ofNat p1.heap.length) then
    some false
   else
    aH tN (0,p0.slots.uses,p0.slots.used,p0.slots.free,p0.heap,p0.where_,p1.slots.uses,p1.slots.used,p1.slots.free,p1.heap,p1.where_)
def aSO:bJ:=⟨aC.cons (aM.agg cZ) (aC.one (aM.agg cZ)),aM.bool,fun a=>BD a.1 a.2,.pure,false⟩
theorem aJ7:aK tab 145 aSO:=Oc aGN rfl aG [(199,aSM),(200,aP5)] ⟨aJ6,ZI,trivial⟩ fun a=>by kernel_rfl
abbrev Zt5:=Int×Int×Int×bR×Int×bR×(List Int)×(List Bool)×(List Int)×kV×(List Int)×bR×Int×Int×bR×Int×bR×(List Int)×(List Bool)×(List Int)×kV×(List Int)×bR
def tO (s:Zt5):Option (cH Zt5 Bool):=
 bif decide (s.1<(Int.ofNat s.2.2.2.2.2.2.2.2.2.2.2.1.length)) then
  (aO s.2.2.2.2.2.2.2.2.2.2.2.1 s.1).bind fun a0=>
  (aO s.2.2.2.2.2.2.2.2.2.2.2.2.2.2.2.2.2.2.2.2.2.2 s.1).bind fun a1=>
  bif !((a0.1==a1.1)&&((a0.2.1==a1.2.1)&&(a0.2.2==a1.2.2))) then
   some (.done false)
  else
   some (.next (aA .i64 (s.1+1),s.2))
 else
  some (.done true)
def BE (p0:aQ) (p1:aQ):Option Bool:=
 bif !((p0.now.1==p1.now.1)&&(p0.now.2==p1.now.2)) then
  some false
 else
  (mI p0.field p1.field).bind fun b0=>
  bif !b0 then
   some false
  else
   (BC p0.certs p1.certs).bind fun b1=>
   bif !b1 then
    some false
   else
    (BD p0.agenda p1.agenda).bind fun b2=>
    bif !b2 then
     some false
    else
     bif (Int.ofNat p0.due.length) !=(Int.ofNat p1.due.length) then
      some false
     else
      aH tO (0,p0.now.1,p0.now.2,p0.field.points,p0.certs.next_,p0.certs.list,p0.agenda.slots.uses,p0.agenda.slots.used,p0.agenda.slots.free,p0.agenda.heap,p0.agenda.where_,p0.due,p1.now.1,p1.now.2,p1.field.points,p1.certs.next_,p1.certs.list,p1.agenda.slots.uses,p1.agenda.slots.used,p1.agenda.slots.free,p1.agenda.heap,p1.agenda.where_,p1.due)
def c86:bJ:=⟨aC.cons (aM.agg bU) (aC.one (aM.agg bU)),aM.bool,fun a=>BE a.1 a.2,.pure,false⟩
theorem aP6:aK tab 86 c86:=Oc aO5 rfl aG [(45,c45),(144,aSK),(145,aSO)] ⟨WH,aJ4,aJ7,trivial⟩ fun a=>by kernel_rfl
def mM (p0:bH) (p1:bH):Option Bool:=
 (BE p0.clock p1.clock).bind fun b0=>
 bif b0 then
  (iB p0.tree p1.tree).bind fun b1=>
  some b1
 else
  some false
def c33:bJ:=⟨aC.cons (aM.agg dW) (aC.one (aM.agg dW)),aM.bool,fun a=>mM a.1 a.2,.pure,false⟩
theorem aP7:aK tab 33 c33:=Oc aOA rfl aG [(86,c86),(30,c30)] ⟨aP6,Q5,trivial⟩ fun a=>by kernel_rfl
def vA (p0:bH) (p1:Int×Int×Int) (p2:Int):Option Bool:=
 (Option.some true).bind fun b0=>
 (zX p0).bind fun b1=>
 bif !b1 then
  some b0
 else
  bif !b0 then
   some b0
  else
   (sN p0 p1).bind fun a2=>
   bif a2.2==0 then
    (oD a2.1 p1.1).bind fun a3=>
    bif a3.2 !=0 then
     bif a3.2 !=18 then
      some false
     else
      bif a3.2==0 then
       (oE a3.1).bind fun n4=>
       bif n4 !=0 then
        some false
       else
        (mI a3.1.clock.field p0.clock.field).bind fun b5=>
        bif !b5 then
         some false
        else
         (iB a3.1.tree p0.tree).bind fun b6=>
         bif !b6 then
          some false
         else
          bif decide (p2<0) then
           some b0
          else
           bif decide ((Int.ofNat p0.clock.field.points.length)<=p2) then
            some b0
           else
            (aO p0.clock.field.points p2).bind fun a7=>
            (gI p0 a7).bind fun a8=>
            bif b0 then
             bif a8.2==0 then
              (mM a8.1 p0).bind fun b9=>
              some b9
             else
              some false
            else
             some false
      else
       bif decide (p2<0) then
        some b0
       else
        bif decide ((Int.ofNat p0.clock.field.points.length)<=p2) then
         some b0
        else
         (aO p0.clock.field.points p2).bind fun a10=>
         (gI p0 a10).bind fun a11=>
         bif b0 then
          bif a11.2==0 then
           (mM a11.1 p0).bind fun b12=>
           some b12
          else
           some false
         else
          some false
    else
     bif a3.2==0 then
      (oE a3.1).bind fun n13=>
      bif n13 !=0 then
       some false
      else
       (mI a3.1.clock.field p0.clock.field).bind fun b14=>
       bif !b14 then
        some false
       else
        (iB a3.1.tree p0.tree).bind fun b15=>
        bif !b15 then
         some false
        else
         bif decide (p2<0) then
          some b0
         else
          bif decide ((Int.ofNat p0.clock.field.points.length)<=p2) then
           some b0
          else
           (aO p0.clock.field.points p2).bind fun a16=>
           (gI p0 a16).bind fun a17=>
           bif b0 then
            bif a17.2==0 then
             (mM a17.1 p0).bind fun b18=>
             some b18
            else
             some false
           else
            some false
     else
      bif decide (p2<0) then
       some b0
      else
       bif decide ((Int.ofNat p0.clock.field.points.length)<=p2) then
        some b0
       else
        (aO p0.clock.field.points p2).bind fun a19=>
        (gI p0 a19).bind fun a20=>
        bif b0 then
         bif a20.2==0 then
          (mM a20.1 p0).bind fun b21=>
          some b21
         else
          some false
        else
         some false
   else
    bif decide (p2<0) then
     some b0
    else
     bif decide ((Int.ofNat p0.clock.field.points.length)<=p2) then
      some b0
     else
      (aO p0.clock.field.points p2).bind fun a22=>
      (gI p0 a22).bind fun a23=>
      bif b0 then
       bif a23.2==0 then
        (mM a23.1 p0).bind fun b24=>
        some b24
       else
        some false
      else
       some false
def c8:bJ:=⟨aC.cons (aM.agg dW) (aC.cons (aM.agg (cJ.row dV)) (aC.one (aM.int .i64))),aM.bool,fun a=>vA a.1 a.2.1 a.2.2,.pure,false⟩
theorem aSP:aK tab 8 c8:=Oc aKZ rfl aG [(42,c42),(43,c43),(38,c38),(44,c44),(27,c27),(45,c45),(30,c30),(40,c40),(33,c33)] ⟨aPQ,aP1,aCz,aCC,aCE,WH,Q5,aP4,aP7,trivial⟩ fun a=>by kernel_rfl
end
end
end Go.Proofs.YthljmpcakagceaaGreat
