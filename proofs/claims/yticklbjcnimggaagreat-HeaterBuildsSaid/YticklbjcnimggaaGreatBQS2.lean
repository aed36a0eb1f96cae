/- Plain functions for what the functions of the seat compute. Printed by a program. -/
import Derived.Test.YticklbjcnimggaaGreatBVm3
import Derived.Test.YticklbjcnimggaaGreatBQXT
import Derived.Test.YticklbjcnimggaaGreatBQS1
set_option maxRecDepth 100000
namespace Go.Proofs.YticklbjcnimggaaGreat
open Go.Vm
noncomputable section
abbrev Zt4:=Int×Int×Int×bO×Int×bO×(List Int)×(List Bool)×(List Int)×jV×(List Int)×bO×bO×Int×Int×Int×Int×Int×bO×Int×bO×(List Int)×(List Bool)×(List Int)×jV×(List Int)×bO
def cL (s:Zt4):Option (cE Zt4 (aQ×Int)):=
 match s with
 |(a,b,d,e,f,g,h,i,j,k,l,m,n,o,q,r,t,u,v,w,x,y,z,A,B,C,D)=>
  bif decide (a<(Int.ofNat g.length)) then
   (aO g a).bind fun a0=>
   (pQ (aQ.mk (b,d) (Field.mk e) (aW.mk f g) (aI.mk (aR.mk h i j) k l) m) a0.1).bind fun n1=>
   (sA (Field.mk n) a0.2 (b,d)).bind fun a2=>
   bif a2.2 then
    bif decide (0<=n1) then
     (aO m n1).bind fun a3=>
     (sT (aI.mk (aR.mk y z A) B C) a3.2 a2.1).bind fun r4=>
     (aO m n1).bind fun a5=>
     (bH D [a5]).bind fun l6=>
     bif !a2.2 then
      bif decide (0<=n1) then
       (aO m n1).bind fun a7=>
       (jP r4 a7.2).bind fun r8=>
       bif !a2.2 then
        some (.next (aA .i64 (a+1),b,d,e,f,g,h,i,j,k,l,m,n,o,q,r,t,u,v,w,x,r8.slots.uses,r8.slots.used,r8.slots.free,r8.heap,r8.where_,l6))
       else
        bif decide (0<=n1) then
         some (.next (aA .i64 (a+1),b,d,e,f,g,h,i,j,k,l,m,n,o,q,r,t,u,v,w,x,r8.slots.uses,r8.slots.used,r8.slots.free,r8.heap,r8.where_,l6))
        else
         (gG r8.slots).bind fun b9=>
         bif !b9 then
          some (.done (aQ.mk (0,0) (Field.mk []) (aW.mk 0 []) (aI.mk (aR.mk [] [] []) [] []) [],18))
         else
          (eH r8 a2.1 a0.1).bind fun a10=>
          (bH l6 [(a0.1,a10.2)]).bind fun l11=>
          some (.next (aA .i64 (a+1),b,d,e,f,g,h,i,j,k,l,m,n,o,q,r,t,u,v,w,x,a10.1.slots.uses,a10.1.slots.used,a10.1.slots.free,a10.1.heap,a10.1.where_,l11))
      else
       bif !a2.2 then
        some (.next (aA .i64 (a+1),b,d,e,f,g,h,i,j,k,l,m,n,o,q,r,t,u,v,w,x,r4.slots.uses,r4.slots.used,r4.slots.free,r4.heap,r4.where_,l6))
       else
        bif decide (0<=n1) then
         some (.next (aA .i64 (a+1),b,d,e,f,g,h,i,j,k,l,m,n,o,q,r,t,u,v,w,x,r4.slots.uses,r4.slots.used,r4.slots.free,r4.heap,r4.where_,l6))
        else
         (gG r4.slots).bind fun b12=>
         bif !b12 then
          some (.done (aQ.mk (0,0) (Field.mk []) (aW.mk 0 []) (aI.mk (aR.mk [] [] []) [] []) [],18))
         else
          (eH r4 a2.1 a0.1).bind fun a13=>
          (bH l6 [(a0.1,a13.2)]).bind fun l14=>
          some (.next (aA .i64 (a+1),b,d,e,f,g,h,i,j,k,l,m,n,o,q,r,t,u,v,w,x,a13.1.slots.uses,a13.1.slots.used,a13.1.slots.free,a13.1.heap,a13.1.where_,l14))
     else
      bif !a2.2 then
       some (.next (aA .i64 (a+1),b,d,e,f,g,h,i,j,k,l,m,n,o,q,r,t,u,v,w,x,r4.slots.uses,r4.slots.used,r4.slots.free,r4.heap,r4.where_,l6))
      else
       bif decide (0<=n1) then
        some (.next (aA .i64 (a+1),b,d,e,f,g,h,i,j,k,l,m,n,o,q,r,t,u,v,w,x,r4.slots.uses,r4.slots.used,r4.slots.free,r4.heap,r4.where_,l6))
       else
        (gG r4.slots).bind fun b15=>
        bif !b15 then
         some (.done (aQ.mk (0,0) (Field.mk []) (aW.mk 0 []) (aI.mk (aR.mk [] [] []) [] []) [],18))
        else
         (eH r4 a2.1 a0.1).bind fun a16=>
         (bH l6 [(a0.1,a16.2)]).bind fun l17=>
         some (.next (aA .i64 (a+1),b,d,e,f,g,h,i,j,k,l,m,n,o,q,r,t,u,v,w,x,a16.1.slots.uses,a16.1.slots.used,a16.1.slots.free,a16.1.heap,a16.1.where_,l17))
    else
     bif !a2.2 then
      bif decide (0<=n1) then
       (aO m n1).bind fun a18=>
       (jP (aI.mk (aR.mk y z A) B C) a18.2).bind fun r19=>
       bif !a2.2 then
        some (.next (aA .i64 (a+1),b,d,e,f,g,h,i,j,k,l,m,n,o,q,r,t,u,v,w,x,r19.slots.uses,r19.slots.used,r19.slots.free,r19.heap,r19.where_,D))
       else
        bif decide (0<=n1) then
         some (.next (aA .i64 (a+1),b,d,e,f,g,h,i,j,k,l,m,n,o,q,r,t,u,v,w,x,r19.slots.uses,r19.slots.used,r19.slots.free,r19.heap,r19.where_,D))
        else
         (gG r19.slots).bind fun b20=>
         bif !b20 then
          some (.done (aQ.mk (0,0) (Field.mk []) (aW.mk 0 []) (aI.mk (aR.mk [] [] []) [] []) [],18))
         else
          (eH r19 a2.1 a0.1).bind fun a21=>
          (bH D [(a0.1,a21.2)]).bind fun l22=>
          some (.next (aA .i64 (a+1),b,d,e,f,g,h,i,j,k,l,m,n,o,q,r,t,u,v,w,x,a21.1.slots.uses,a21.1.slots.used,a21.1.slots.free,a21.1.heap,a21.1.where_,l22))
      else
       bif !a2.2 then
        some (.next (aA .i64 (a+1),(b,d,e,f,g,h,i,j,k,l,m,n,o,q,r,t,u,v,w,x,y,z,A,B,C,D)))
       else
        bif decide (0<=n1) then
         some (.next (aA .i64 (a+1),(b,d,e,f,g,h,i,j,k,l,m,n,o,q,r,t,u,v,w,x,y,z,A,B,C,D)))
        else
         (gG (aR.mk y z A)).bind fun b23=>
         bif !b23 then
          some (.done (aQ.mk (0,0) (Field.mk []) (aW.mk 0 []) (aI.mk (aR.mk [] [] []) [] []) [],18))
         else
          (eH (aI.mk (aR.mk y z A) B C) a2.1 a0.1).bind fun a24=>
          (bH D [(a0.1,a24.2)]).bind fun l25=>
          some (.next (aA .i64 (a+1),b,d,e,f,g,h,i,j,k,l,m,n,o,q,r,t,u,v,w,x,a24.1.slots.uses,a24.1.slots.used,a24.1.slots.free,a24.1.heap,a24.1.where_,l25))
     else
      bif !a2.2 then
       some (.next (aA .i64 (a+1),(b,d,e,f,g,h,i,j,k,l,m,n,o,q,r,t,u,v,w,x,y,z,A,B,C,D)))
      else
       bif decide (0<=n1) then
        some (.next (aA .i64 (a+1),(b,d,e,f,g,h,i,j,k,l,m,n,o,q,r,t,u,v,w,x,y,z,A,B,C,D)))
       else
        (gG (aR.mk y z A)).bind fun b26=>
        bif !b26 then
         some (.done (aQ.mk (0,0) (Field.mk []) (aW.mk 0 []) (aI.mk (aR.mk [] [] []) [] []) [],18))
        else
         (eH (aI.mk (aR.mk y z A) B C) a2.1 a0.1).bind fun a27=>
         (bH D [(a0.1,a27.2)]).bind fun l28=>
         some (.next (aA .i64 (a+1),b,d,e,f,g,h,i,j,k,l,m,n,o,q,r,t,u,v,w,x,a27.1.slots.uses,a27.1.slots.used,a27.1.slots.free,a27.1.heap,a27.1.where_,l28))
   else
    bif !a2.2 then
     bif decide (0<=n1) then
      (aO m n1).bind fun a29=>
      (jP (aI.mk (aR.mk y z A) B C) a29.2).bind fun r30=>
      bif !a2.2 then
       some (.next (aA .i64 (a+1),b,d,e,f,g,h,i,j,k,l,m,n,o,q,r,t,u,v,w,x,r30.slots.uses,r30.slots.used,r30.slots.free,r30.heap,r30.where_,D))
      else
       bif decide (0<=n1) then
        some (.next (aA .i64 (a+1),b,d,e,f,g,h,i,j,k,l,m,n,o,q,r,t,u,v,w,x,r30.slots.uses,r30.slots.used,r30.slots.free,r30.heap,r30.where_,D))
       else
        (gG r30.slots).bind fun b31=>
        bif !b31 then
         some (.done (aQ.mk (0,0) (Field.mk []) (aW.mk 0 []) (aI.mk (aR.mk [] [] []) [] []) [],18))
        else
         (eH r30 a2.1 a0.1).bind fun a32=>
         (bH D [(a0.1,a32.2)]).bind fun l33=>
         some (.next (aA .i64 (a+1),b,d,e,f,g,h,i,j,k,l,m,n,o,q,r,t,u,v,w,x,a32.1.slots.uses,a32.1.slots.used,a32.1.slots.free,a32.1.heap,a32.1.where_,l33))
     else
      bif !a2.2 then
       some (.next (aA .i64 (a+1),(b,d,e,f,g,h,i,j,k,l,m,n,o,q,r,t,u,v,w,x,y,z,A,B,C,D)))
      else
       bif decide (0<=n1) then
        some (.next (aA .i64 (a+1),(b,d,e,f,g,h,i,j,k,l,m,n,o,q,r,t,u,v,w,x,y,z,A,B,C,D)))
       else
        (gG (aR.mk y z A)).bind fun b34=>
        bif !b34 then
         some (.done (aQ.mk (0,0) (Field.mk []) (aW.mk 0 []) (aI.mk (aR.mk [] [] []) [] []) [],18))
        else
         (eH (aI.mk (aR.mk y z A) B C) a2.1 a0.1).bind fun a35=>
         (bH D [(a0.1,a35.2)]).bind fun l36=>
         some (.next (aA .i64 (a+1),b,d,e,f,g,h,i,j,k,l,m,n,o,q,r,t,u,v,w,x,a35.1.slots.uses,a35.1.slots.used,a35.1.slots.free,a35.1.heap,a35.1.where_,l36))
    else
     bif !a2.2 then
      some (.next (aA .i64 (a+1),(b,d,e,f,g,h,i,j,k,l,m,n,o,q,r,t,u,v,w,x,y,z,A,B,C,D)))
     else
      bif decide (0<=n1) then
       some (.next (aA .i64 (a+1),(b,d,e,f,g,h,i,j,k,l,m,n,o,q,r,t,u,v,w,x,y,z,A,B,C,D)))
      else
       (gG (aR.mk y z A)).bind fun b37=>
       bif !b37 then
        some (.done (aQ.mk (0,0) (Field.mk []) (aW.mk 0 []) (aI.mk (aR.mk [] [] []) [] []) [],18))
       else
        (eH (aI.mk (aR.mk y z A) B C) a2.1 a0.1).bind fun a38=>
        (bH D [(a0.1,a38.2)]).bind fun l39=>
        some (.next (aA .i64 (a+1),b,d,e,f,g,h,i,j,k,l,m,n,o,q,r,t,u,v,w,x,a38.1.slots.uses,a38.1.slots.used,a38.1.slots.free,a38.1.heap,a38.1.where_,l39))
  else
   some (.done (aQ.mk (t,u) (Field.mk v) (aW.mk w x) (aI.mk (aR.mk y z A) B C) D,0))
def mF (p0:aQ) (p1:Field):Option (aQ×Int):=
 (nC p0).bind fun r0=>
 (mZ p1).bind fun r1=>
 aH cL (0,p0.now.1,p0.now.2,p0.field.points,p0.certs.next_,p0.certs.list,p0.agenda.slots.uses,p0.agenda.slots.used,p0.agenda.slots.free,p0.agenda.heap,p0.agenda.where_,p0.due,p1.points,0,0,0,r0.now.1,r0.now.2,r1.points,r0.certs.next_,r0.certs.list,r0.agenda.slots.uses,r0.agenda.slots.used,r0.agenda.slots.free,r0.agenda.heap,r0.agenda.where_,[])
def aQI:bJ:=⟨aB.cons (aK.agg bN) (aB.one (aK.agg bW)),aK.tup (aB.cons (aK.agg bN) (aB.one (aK.int .i64))),fun a=>mF a.1 a.2,.frz,false⟩
theorem aHS:aJ aV 115 aQI:=Oc aEZ rfl aG [(26,c26),(26,aBv),(56,c56),(56,aBq),(166,aNS),(100,aHP),(168,aQE),(167,aNW),(169,aNY),(170,aNZ)] ⟨PO,JS,PM,JP,XV,PQ,aHQ,XW,XX,XY,trivial⟩ fun a=>by kernel_rfl
def uV (s:(Int×Int×bO×Int×Int)):Option (cE (Int×Int×bO×Int×Int) Bool):=
 bif decide (s.1<(Int.ofNat s.2.2.1.length)) then
  (aO s.2.2.1 s.1).bind fun a0=>
  bif (a0.2.1==s.2.2.2.1)&&(a0.2.2==s.2.2.2.2) then
   some (.done true)
  else
   some (.next (aA .i64 (s.1+1),s.2))
 else
  some (.done false)
def vC (p0:aW) (p1:Int×Int):Option Bool:=
 aH uV (0,p0.next_,p0.list,p1)
def aHT:bJ:=⟨aB.cons (aK.agg gH) (aB.one (aK.agg (cI.row iE))),aK.bool,fun a=>vC a.1 a.2,.pure,false⟩
theorem PR:aJ aV 103 aHT:=Oc aEP rfl aG [] trivial fun a=>by kernel_rfl
def vY (p0:Int×Int):Option Bool:=
 bif decide (0<=p0.1) then
  bif decide (p0.1<=65535) then
   bif decide (0<=p0.2) then
    bif decide (p0.2<=65535) then
     some (p0.1 !=p0.2)
    else
     some false
   else
    some false
  else
   some false
 else
  some false
def aN0:bJ:=⟨aB.one (aK.agg (cI.row iE)),aK.bool,fun a=>vY a,.pure,false⟩
theorem XZ:aJ aV 148 aN0:=Oc aFs rfl aG [] trivial fun a=>by kernel_rfl
def fV (s:(Int×Int×Int×bO×Int×Int×Int)):Option (cE (Int×Int×Int×bO×Int×Int×Int) aNX):=
 bif decide (s.2.1<s.1) then
  (aO s.2.2.2.1 s.2.1).bind fun a0=>
  bif (a0.2.1==s.2.2.2.2.2.1)&&(a0.2.2==s.2.2.2.2.2.2) then
   some (.done (.done 8))
  else
   some (.next (s.1,aA .i64 (s.2.1+1),s.2.2))
 else
  some (.done (.next (aA .i64 (s.1+1),s.2.2.1,s.2.2.2.1)))
def qO (s:aBk):Option aNX:=
 bif decide (s.1<(Int.ofNat s.2.2.length)) then
  (aO s.2.2 s.1).bind fun a0=>
  (vY a0.2).bind fun b1=>
  bif !b1 then
   some (.done 8)
  else
   bif decide (a0.1<0) then
    some (.done 8)
   else
    bif decide (s.2.1<=a0.1) then
     some (.done 8)
    else
     bif decide (0<s.1) then
      (aO s.2.2 (aA .i64 (s.1-1))).bind fun a2=>
      bif decide (a0.1<=a2.1) then
       some (.done 8)
      else
       aH fV (s.1,0,s.2.1,s.2.2,a0)
     else
      aH fV (s.1,0,s.2.1,s.2.2,a0)
 else
  some (.done 0)
def tU (p0:aW):Option Int:=
 bif decide (200<(Int.ofNat p0.list.length)) then
  some 8
 else
  bif decide (p0.next_<0) then
   some 8
  else
   bif decide (1000000<p0.next_) then
    some 8
   else
    aH qO (0,p0.next_,p0.list)
def c97:bJ:=⟨aB.one (aK.agg gH),aK.int .i64,fun a=>tU a,.pure,false⟩
theorem aBA:aJ aV 97 c97:=Oc aNg rfl aG [(148,aN0)] ⟨XZ,trivial⟩ fun a=>by kernel_rfl
def DF (p0:aW) (p1:Int×Int):Option (aW×Int×Int):=
 (tU p0).bind fun n0=>
 bif n0 !=0 then
  some (aW.mk 0 [],0,8)
 else
  (vY p1).bind fun b1=>
  bif !b1 then
   some (aW.mk 0 [],0,8)
  else
   (vC p0 p1).bind fun b2=>
   bif b2 then
    some (aW.mk 0 [],0,14)
   else
    bif (Int.ofNat p0.list.length)==200 then
     some (aW.mk 0 [],0,18)
    else
     bif p0.next_==1000000 then
      some (aW.mk 0 [],0,18)
     else
      (rY p0).bind fun r3=>
      (bH r3.list [(p0.next_,p1)]).bind fun l4=>
      some (aW.mk (aA .i64 (r3.next_+1)) l4,p0.next_,0)
def aQJ:bJ:=⟨aB.cons (aK.agg gH) (aB.one (aK.agg (cI.row iE))),aK.tup (aB.cons (aK.agg gH) (aB.cons (aK.int .i64) (aB.one (aK.int .i64)))),fun a=>DF a.1 a.2,.frz,false⟩
theorem aHU:aJ aV 171 aQJ:=Oc aFO rfl aG [(97,c97),(148,aN0),(103,aHT),(57,c57),(57,aHD)] ⟨aBA,XZ,PR,U2,PN,trivial⟩ fun a=>by kernel_rfl
def lF (p0:aQ) (p1:Int×Int):Option (aQ×Int×Int):=
 (DF p0.certs p1).bind fun a0=>
 bif a0.2.2 !=0 then
  some (aQ.mk (0,0) (Field.mk []) (aW.mk 0 []) (aI.mk (aR.mk [] [] []) [] []) [],0,a0.2.2)
 else
  (nC p0).bind fun r1=>
  (sA p0.field p1 p0.now).bind fun a2=>
  bif !a2.2 then
   some (aQ.mk r1.now r1.field a0.1 r1.agenda r1.due,a0.2.1,0)
  else
   (gG p0.agenda.slots).bind fun b3=>
   bif !b3 then
    some (aQ.mk (0,0) (Field.mk []) (aW.mk 0 []) (aI.mk (aR.mk [] [] []) [] []) [],0,18)
   else
    (eH p0.agenda a2.1 a0.2.1).bind fun a4=>
    (bH r1.due [(a0.2.1,a4.2)]).bind fun l5=>
    some (aQ.mk r1.now r1.field a0.1 a4.1 l5,a0.2.1,0)
def aQK:bJ:=⟨aB.cons (aK.agg bN) (aB.one (aK.agg (cI.row iE))),aK.tup (aB.cons (aK.agg bN) (aB.cons (aK.int .i64) (aB.one (aK.int .i64)))),fun a=>lF a.1 a.2,.frz,false⟩
theorem aHV:aJ aV 116 aQK:=Oc aE0 rfl aG [(171,aQJ),(26,c26),(26,aBv),(100,aHP),(169,aNY),(170,aNZ)] ⟨aHU,PO,JS,PQ,XX,XY,trivial⟩ fun a=>by kernel_rfl
abbrev aQL:=pX×Int×Int×Int×bO×Int×bO×(List Int)×(List Bool)×(List Int)×jV×(List Int)×bO×bO×Int×Int×Int×Int×Int×bO×Int×bO×(List Int)×(List Bool)×(List Int)×jV×(List Int)×bO
abbrev Zt2:=cE aQL (aQ×Int)
abbrev aQM:=pX×Int×Int×Int×Int×Int×Int×bO×Int×bO×(List Int)×(List Bool)×(List Int)×jV×(List Int)×bO
def dQ (s:aQM):Option (cE aQM Zt2):=
 bif decide (s.2.1<(Int.ofNat s.1.length)) then
  (aO s.1 s.2.1).bind fun a0=>
  (vC (aW.mk s.2.2.2.2.2.2.2.2.1 s.2.2.2.2.2.2.2.2.2.1) a0).bind fun b1=>
  bif b1 then
   some (.next (s.1,aA .i64 (s.2.1+1),s.2.2))
  else
   (aO s.1 s.2.1).bind fun a2=>
   (lF (aQ.mk (s.2.2.2.2.2.1,s.2.2.2.2.2.2.1) (Field.mk s.2.2.2.2.2.2.2.1) (aW.mk s.2.2.2.2.2.2.2.2.1 s.2.2.2.2.2.2.2.2.2.1) (aI.mk (aR.mk s.2.2.2.2.2.2.2.2.2.2.1 s.2.2.2.2.2.2.2.2.2.2.2.1 s.2.2.2.2.2.2.2.2.2.2.2.2.1) s.2.2.2.2.2.2.2.2.2.2.2.2.2.1 s.2.2.2.2.2.2.2.2.2.2.2.2.2.2.1) s.2.2.2.2.2.2.2.2.2.2.2.2.2.2.2) a2).bind fun a3=>
   bif a3.2.2 !=0 then
    some (.done (.done (aQ.mk (0,0) (Field.mk []) (aW.mk 0 []) (aI.mk (aR.mk [] [] []) [] []) [],a3.2.2)))
   else
    some (.next (s.1,aA .i64 (s.2.1+1),s.2.2.1,s.2.2.2.1,s.2.2.2.2.1,a3.1.now.1,a3.1.now.2,a3.1.field.points,a3.1.certs.next_,a3.1.certs.list,a3.1.agenda.slots.uses,a3.1.agenda.slots.used,a3.1.agenda.slots.free,a3.1.agenda.heap,a3.1.agenda.where_,a3.1.due))
 else
  some (.done (.done (aQ.mk (s.2.2.2.2.2.1,s.2.2.2.2.2.2.1) (Field.mk s.2.2.2.2.2.2.2.1) (aW.mk s.2.2.2.2.2.2.2.2.1 s.2.2.2.2.2.2.2.2.2.1) (aI.mk (aR.mk s.2.2.2.2.2.2.2.2.2.2.1 s.2.2.2.2.2.2.2.2.2.2.2.1 s.2.2.2.2.2.2.2.2.2.2.2.2.1) s.2.2.2.2.2.2.2.2.2.2.2.2.2.1 s.2.2.2.2.2.2.2.2.2.2.2.2.2.2.1) s.2.2.2.2.2.2.2.2.2.2.2.2.2.2.2,0)))
def dG (s:aQL):Option Zt2:=
 match s with
 |(a,b,d,e,f,g,h,i,j,k,l,m,n,o,q,r,t,u,v,w,x,y,z,A,B,C,D,E)=>
  bif decide (b<(Int.ofNat h.length)) then
   (aO h b).bind fun a0=>
   (GC a a0.2).bind fun b1=>
   bif !b1 then
    (aO h b).bind fun a2=>
    (vW (aQ.mk (u,v) (Field.mk w) (aW.mk x y) (aI.mk (aR.mk z A B) C D) E) a2.1).bind fun r3=>
    some (.next (a,aA .i64 (b+1),d,e,f,g,h,i,j,k,l,m,n,o,q,r,t,r3.now.1,r3.now.2,r3.field.points,r3.certs.next_,r3.certs.list,r3.agenda.slots.uses,r3.agenda.slots.used,r3.agenda.slots.free,r3.agenda.heap,r3.agenda.where_,r3.due))
   else
    some (.next (a,aA .i64 (b+1),(d,e,f,g,h,i,j,k,l,m,n,o,q,r,t,u,v,w,x,y,z,A,B,C,D,E)))
  else
   (vX (Field.mk w) (Field.mk o)).bind fun b4=>
   bif !b4 then
    (mF (aQ.mk (u,v) (Field.mk w) (aW.mk x y) (aI.mk (aR.mk z A B) C D) E) (Field.mk o)).bind fun a5=>
    bif a5.2 !=0 then
     some (.done (aQ.mk (0,0) (Field.mk []) (aW.mk 0 []) (aI.mk (aR.mk [] [] []) [] []) [],a5.2))
    else
     aH dQ (a,0,q,r,t,a5.1.now.1,a5.1.now.2,a5.1.field.points,a5.1.certs.next_,a5.1.certs.list,a5.1.agenda.slots.uses,a5.1.agenda.slots.used,a5.1.agenda.slots.free,a5.1.agenda.heap,a5.1.agenda.where_,a5.1.due)
   else
    aH dQ (a,0,(q,r,t,u,v,w,x,y,z,A,B,C,D,E))
def mG (p0:aQ) (p1:Field) (p2:List (Int×Int)):Option (aQ×Int):=
 (nC p0).bind fun r0=>
 aH dG (p2,0,p0.now.1,p0.now.2,p0.field.points,p0.certs.next_,p0.certs.list,p0.agenda.slots.uses,p0.agenda.slots.used,p0.agenda.slots.free,p0.agenda.heap,p0.agenda.where_,p0.due,p1.points,0,0,0,r0.now.1,r0.now.2,r0.field.points,r0.certs.next_,r0.certs.list,r0.agenda.slots.uses,r0.agenda.slots.used,r0.agenda.slots.free,r0.agenda.heap,r0.agenda.where_,r0.due)
def c67:bJ:=⟨aB.cons (aK.agg bN) (aB.cons (aK.agg bW) (aB.one (aK.sl iE))),aK.tup (aB.cons (aK.agg bN) (aB.one (aK.int .i64))),fun a=>mG a.1 a.2.1 a.2.2,.frz,false⟩
theorem aN1:aJ aV 67 c67:=Oc aMS rfl aG [(26,c26),(26,aBv),(113,aQu),(114,aQz),(68,c68),(115,aQI),(103,aHT),(116,aQK)] ⟨PO,JS,aHE,aHK,aBw,aHS,PR,aHV,trivial⟩ fun a=>by kernel_rfl
def mH (p0:aQ) (p1:Field):Option (dX×Int):=
 (rX p1 p0.now).bind fun r0=>
 (vV r0).bind fun l1=>
 (mG p0 p1 l1).bind fun a2=>
 bif a2.2 !=0 then
  some (dX.mk (aQ.mk (0,0) (Field.mk []) (aW.mk 0 []) (aI.mk (aR.mk [] [] []) [] []) []) (rO.mk 0 []),a2.2)
 else
  some (dX.mk a2.1 r0,0)
def c32:bJ:=⟨aB.cons (aK.agg bN) (aB.one (aK.agg bW)),aK.tup (aB.cons (aK.agg gL) (aB.one (aK.int .i64))),fun a=>mH a.1 a.2,.frz,false⟩
theorem aN2:aJ aV 32 c32:=Oc aMt rfl aG [(53,c53),(47,c47),(67,c67)] ⟨aBt,U1,aN1,trivial⟩ fun a=>by kernel_rfl
def pS (p0:Field) (p1:Int×Int):Option (dX×Int):=
 (pN p0).bind fun n0=>
 bif n0 !=0 then
  (pN p0).bind fun n1=>
  some (dX.mk (aQ.mk (0,0) (Field.mk []) (aW.mk 0 []) (aI.mk (aR.mk [] [] []) [] []) []) (rO.mk 0 []),n1)
 else
  (pO p1).bind fun n2=>
  bif n2 !=0 then
   some (dX.mk (aQ.mk (0,0) (Field.mk []) (aW.mk 0 []) (aI.mk (aR.mk [] [] []) [] []) []) (rO.mk 0 []),8)
  else
   (xE p0 p1).bind fun r3=>
   (mH r3 p0).bind fun a4=>
   some a4
def c17:bJ:=⟨aB.cons (aK.agg bW) (aB.one (aK.agg (cI.row iE))),aK.tup (aB.cons (aK.agg gL) (aB.one (aK.int .i64))),fun a=>pS a.1 a.2,.frz,false⟩
theorem aN3:aJ aV 17 c17:=Oc aMk rfl aG [(44,c44),(45,c45),(46,c46),(32,c32)] ⟨aBo,U0,aNN,aN2,trivial⟩ fun a=>by kernel_rfl
def CK (s:aNG):Option aP0:=
 bif decide (s.2.2.2<s.2.2.1) then
  (aO s.1 s.2.2.2).bind fun a0=>
  (aO s.2.1 s.2.2.2).bind fun a1=>
  bif !((a0.1==a1.1)&&((a0.2.1==a1.2.1)&&(a0.2.2==a1.2.2))) then
   some (.done false)
  else
   some (.next (s.1,s.2.1,s.2.2.1,aA .i64 (s.2.2.2+1)))
 else
  some (.done true)
def qP (p0:List (Int×Int×Int)) (p1:List (Int×Int×Int)):Option Bool:=
 bif (Int.ofNat p0.length) !=(Int.ofNat p1.length) then
  some false
 else
  aH CK (p0,p1,Int.ofNat p0.length,0)
def c50:bJ:=⟨aB.cons (aK.sl eM) (aB.one (aK.sl eM)),aK.bool,fun a=>qP a.1 a.2,.pure,false⟩
theorem aN4:aJ aV 50 c50:=Oc aMH rfl aG [] trivial fun a=>by kernel_rfl
def yC (p0:Int×Int×Int) (p1:List (Int×Int)):Option Bool:=
 (fF p1 p0.2).bind fun b0=>
 some (!b0)
def c94:bJ:=⟨aB.cons (aK.agg (cI.row eM)) (aB.one (aK.ref (cI.sl iE))),aK.bool,fun a=>yC a.1 a.2,.pure,false⟩
theorem aN5:aJ aV 94 c94:=Oc aNe rfl aG [(95,c95)] ⟨UT,trivial⟩ fun a=>by kernel_rfl
def bL (s:(bO×pX×Int×Int)):Option (cE (bO×pX×Int×Int) Int):=
 bif decide (s.2.2.2<s.2.2.1) then
  (aO s.1 s.2.2.2).bind fun a0=>
  (yC a0 s.2.1).bind fun b1=>
  bif b1 then
   some (.done s.2.2.2)
  else
   some (.next (s.1,s.2.1,s.2.2.1,aA .i64 (s.2.2.2+1)))
 else
  some (.done (-1))
def eS (p0:List (Int×Int×Int)) (p1:pX):Option Int:=
 aH bL (p0,p1,Int.ofNat p0.length,0)
def X0:bJ:=⟨aB.cons (aK.sl eM) (aB.one (aK.clo 94 (aB.one (aK.ref (cI.sl iE))))),aK.int .i64,fun a=>eS a.1 a.2,.pure,false⟩
theorem U7:aJ aV 147 X0:=Oc O8 rfl aG [(94,c94)] ⟨aN5,trivial⟩ fun a=>by kernel_rfl
def dU (p0:List (Int×Int×Int)) (p1:pX):Option Bool:=
 (eS p0 p1).bind fun n0=>
 some (decide (0<=n0))
def aBB:bJ:=⟨aB.cons (aK.sl eM) (aB.one (aK.clo 94 (aB.one (aK.ref (cI.sl iE))))),aK.bool,fun a=>dU a.1 a.2,.pure,false⟩
theorem ZQ:aJ aV 96 aBB:=Oc UN rfl aG [(147,X0)] ⟨U7,trivial⟩ fun a=>by kernel_rfl
def tV (p0:aQ) (p1:List (Int×Int)):Option Bool:=
 bif (Int.ofNat p1.length)==(Int.ofNat p0.certs.list.length) then
  (dU p0.certs.list p1).bind fun b0=>
  some (!b0)
 else
  some false
def c51:bJ:=⟨aB.cons (aK.agg bN) (aB.one (aK.sl iE)),aK.bool,fun a=>tV a.1 a.2,.pure,false⟩
theorem aN6:aJ aV 51 c51:=Oc aMI rfl aG [(96,aBB)] ⟨ZQ,trivial⟩ fun a=>by kernel_rfl
def lN (p0:dX):Option Int:=
 (gN p0.clock).bind fun n0=>
 bif n0 !=0 then
  some 8
 else
  (lC p0.clock.field p0.clock.now).bind fun a1=>
  bif a1.1.root !=p0.tree.root then
   some 8
  else
   (qP a1.1.nodes p0.tree.nodes).bind fun b2=>
   bif !b2 then
    some 8
   else
    (tV p0.clock a1.2).bind fun b3=>
    bif !b3 then
     some 8
    else
     some 0
def c22:bJ:=⟨aB.one (aK.agg gL),aK.int .i64,fun a=>lN a,.pure,false⟩
theorem U8:aJ aV 22 c22:=Oc aMp rfl aG [(49,c49),(40,c40),(50,c50),(51,c51)] ⟨LQ,UQ,aN4,aN6,trivial⟩ fun a=>by kernel_rfl
def qQ (p0:dX):Option (pX×Int):=
 (lN p0).bind fun n0=>
 bif n0 !=0 then
  some ([],n0)
 else
  (lC p0.clock.field p0.clock.now).bind fun a1=>
  some (a1.2,0)
def c18:bJ:=⟨aB.one (aK.agg gL),aK.tup (aB.cons (aK.sl iE) (aB.one (aK.int .i64))),fun a=>qQ a,.frz,false⟩
theorem aN7:aJ aV 18 c18:=Oc aMl rfl aG [(22,c22),(40,c40)] ⟨U8,UQ,trivial⟩ fun a=>by kernel_rfl
def qR (s:(Int×Int×bO×bO)):Option (cE (Int×Int×bO×bO) Bool):=
 bif decide (s.1<(Int.ofNat s.2.2.1.length)) then
  (aO s.2.2.1 s.1).bind fun a0=>
  (jJ (Field.mk s.2.2.2) a0.2.1).bind fun n1=>
  bif decide (n1<0) then
   some (.done false)
  else
   (aO s.2.2.1 s.1).bind fun a2=>
   (jJ (Field.mk s.2.2.2) a2.2.2).bind fun n3=>
   bif decide (n3<0) then
    some (.done false)
   else
    some (.next (aA .i64 (s.1+1),s.2))
 else
  some (.done true)
def xH (p0:aW) (p1:Field):Option Bool:=
 aH qR (0,p0.next_,p0.list,p1.points)
def c98:bJ:=⟨aB.cons (aK.agg gH) (aB.one (aK.agg bW)),aK.bool,fun a=>xH a.1 a.2,.pure,false⟩
theorem aN8:aJ aV 98 c98:=Oc aNh rfl aG [(65,c65)] ⟨U5,trivial⟩ fun a=>by kernel_rfl
abbrev aBC:=Int×Int×(List Int)×(List Bool)×(List Int)×(List Bool)
def kL (s:aBC):Option (cE aBC (cE aBC Int)):=
 bif decide (s.2.1<s.1) then
  (aO s.2.2.1 s.2.1).bind fun n0=>
  bif decide (n0<0) then
   some (.done (.done 8))
  else
   (aO s.2.2.1 s.2.1).bind fun n1=>
   bif decide (1000000<n1) then
    some (.done (.done 8))
   else
    (aO s.2.2.2.1 s.2.1).bind fun b2=>
    (aO s.2.2.2.2.2 s.2.1).bind fun b3=>
    bif b2==b3 then
     some (.done (.done 8))
    else
     (aO s.2.2.2.1 s.2.1).bind fun b4=>
     bif b4 then
      (aO s.2.2.1 s.2.1).bind fun n5=>
      bif decide (n5<1) then
       some (.done (.done 8))
      else
       some (.next (s.1,aA .i64 (s.2.1+1),s.2.2))
     else
      some (.next (s.1,aA .i64 (s.2.1+1),s.2.2))
 else
  some (.done (.done 0))
def qS (s:aBC):Option (cE aBC Int):=
 bif decide (s.2.1<(Int.ofNat s.2.2.2.2.1.length)) then
  (aO s.2.2.2.2.1 s.2.1).bind fun n0=>
  bif decide (n0<0) then
   some (.done 8)
  else
   (aO s.2.2.2.2.1 s.2.1).bind fun n1=>
   bif decide (s.1<=n1) then
    some (.done 8)
   else
    (aO s.2.2.2.2.1 s.2.1).bind fun n2=>
    (aO s.2.2.2.2.2 n2).bind fun b3=>
    bif b3 then
     some (.done 8)
    else
     (aO s.2.2.2.2.1 s.2.1).bind fun n4=>
     (aO s.2.2.2.2.2 n4).bind fun _=>
     some (.next (s.1,aA .i64 (s.2.1+1),s.2.2.1,s.2.2.2.1,s.2.2.2.2.1,bX s.2.2.2.2.2 n4 true))
 else
  aH kL (s.1,0,s.2.2)
def xI (p0:aR):Option Int:=
 bif decide ((Int.ofNat p0.uses.length)<1) then
  some 8
 else
  bif decide (200<(Int.ofNat p0.uses.length)) then
   some 8
  else
   bif (Int.ofNat p0.used.length) !=(Int.ofNat p0.uses.length) then
    some 8
   else
    bif decide ((Int.ofNat p0.uses.length)<(Int.ofNat p0.free.length)) then
     some 8
    else
     bif (Int.ofNat p0.uses.length)==(Int.ofNat p0.uses.length) then
      (tJ (Int.ofNat p0.uses.length) (false:Bool)).bind fun l0=>
      aH qS (Int.ofNat p0.uses.length,0,p0.uses,p0.used,p0.free,l0)
     else
      none
def aQN:bJ:=⟨aB.one (aK.agg fK),aK.int .i64,fun a=>xI a,.pure,false⟩
theorem aHW:aJ aV 149 aQN:=Oc aFt rfl aG [] trivial fun a=>by kernel_rfl
def vZ (p0:aR) (p1:Int×Int):Option Bool:=
 bif decide (0<=p1.1) then
  bif decide (p1.1<(Int.ofNat p0.uses.length)) then
   (aO p0.used p1.1).bind fun b0=>
   bif b0 then
    (aO p0.uses p1.1).bind fun n1=>
    some (n1==p1.2)
   else
    some false
  else
   some false
 else
  some false
def aN9:bJ:=⟨aB.cons (aK.agg fK) (aB.one (aK.agg (cI.row iE))),aK.bool,fun a=>vZ a.1 a.2,.pure,false⟩
theorem X1:aJ aV 153 aN9:=Oc aFx rfl aG [] trivial fun a=>by kernel_rfl
def oT (s:aNU):Option (cE aNU Bool):=
 bif decide (s.2.1<s.1) then
  (aO s.2.2.2.1 s.2.1).bind fun b0=>
  bif !b0 then
   (aO s.2.2.2.2.2.2 s.2.1).bind fun n1=>
   bif n1 !=(-1) then
    some (.done false)
   else
    some (.next (s.1,aA .i64 (s.2.1+1),s.2.2))
  else
   (aO s.2.2.2.2.2.2 s.2.1).bind fun n2=>
   bif decide (n2<0) then
    some (.done false)
   else
    bif decide ((Int.ofNat s.2.2.2.2.2.1.length)<=n2) then
     some (.done false)
    else
     (aO s.2.2.2.2.2.1 n2).bind fun a3=>
     bif a3.2.2.2.1 !=s.2.1 then
      some (.done false)
     else
      (aO s.2.2.2.2.2.1 n2).bind fun a4=>
      (vZ (aR.mk s.2.2.1 s.2.2.2.1 s.2.2.2.2.1) a4.2.2.2).bind fun b5=>
      bif !b5 then
       some (.done false)
      else
       some (.next (s.1,aA .i64 (s.2.1+1),s.2.2))
 else
  some (.done true)
def uW (p0:aI):Option Bool:=
 bif (Int.ofNat p0.where_.length) !=(Int.ofNat p0.slots.uses.length) then
  some false
 else
  bif (Int.ofNat p0.heap.length) !=(aA .i64 ((Int.ofNat p0.slots.uses.length) - (Int.ofNat p0.slots.free.length))) then
   some false
  else
   aH oT (Int.ofNat p0.slots.uses.length,0,p0.slots.uses,p0.slots.used,p0.slots.free,p0.heap,p0.where_)
def aQO:bJ:=⟨aB.one (aK.agg cS),aK.bool,fun a=>uW a,.pure,false⟩
theorem aHX:aJ aV 150 aQO:=Oc aFu rfl aG [(153,aN9)] ⟨X1,trivial⟩ fun a=>by kernel_rfl
abbrev aQP:=Int×Int×(List Int)×(List Bool)×(List Int)×jV×(List Int)×Int×Int×Int×Int×Int
abbrev aOa:=cE GD Int
def kM (s:aQP):Option (cE aQP aOa):=
 bif decide (s.2.1<s.1) then
  (aO s.2.2.2.2.2.1 s.2.1).bind fun a0=>
  bif a0.2.2.1==s.2.2.2.2.2.2.2.2.2.1 then
   some (.done (.done 8))
  else
   some (.next (s.1,aA .i64 (s.2.1+1),s.2.2))
 else
  some (.done (.next (aA .i64 (s.1+1),s.2.2.1,s.2.2.2.1,s.2.2.2.2.1,s.2.2.2.2.2.1,s.2.2.2.2.2.2.1)))
def kN (s:GD):Option (cE GD aOa):=
 bif decide (s.1<(Int.ofNat s.2.2.2.2.1.length)) then
  (aO s.2.2.2.2.1 s.1).bind fun a0=>
  (aO s.2.2.2.2.1 (aA .i64 (Int.tdiv (aA .i64 (s.1-1)) 2))).bind fun a1=>
  (eC a0 a1).bind fun b2=>
  bif b2 then
   some (.done (.done 8))
  else
   some (.next (aA .i64 (s.1+1),s.2))
 else
  some (.done (.done 0))
def qT (s:GD):Option aOa:=
 bif decide (s.1<(Int.ofNat s.2.2.2.2.1.length)) then
  (aO s.2.2.2.2.1 s.1).bind fun a0=>
  (pO (a0.1,a0.2.1)).bind fun n1=>
  bif n1 !=0 then
   some (.done 8)
  else
   bif decide (a0.2.2.1<0) then
    some (.done 8)
   else
    bif decide (1000000<a0.2.2.1) then
     some (.done 8)
    else
     aH kM (s.1,0,s.2.1,s.2.2.1,s.2.2.2.1,s.2.2.2.2.1,s.2.2.2.2.2,a0)
 else
  aH kN (1,s.2)
def tX (p0:aI):Option Int:=
 (xI p0.slots).bind fun n0=>
 bif n0 !=0 then
  some 8
 else
  (uW p0).bind fun b1=>
  bif !b1 then
   some 8
  else
   aH qT (0,p0.slots.uses,p0.slots.used,p0.slots.free,p0.heap,p0.where_)
def c99:bJ:=⟨aB.one (aK.agg cS),aK.int .i64,fun a=>tX a,.pure,false⟩
theorem aBD:aJ aV 99 c99:=Oc aNi rfl aG [(149,aQN),(150,aQO),(45,c45),(151,U3)] ⟨aHW,aHX,U0,DD,trivial⟩ fun a=>by kernel_rfl
def wB (p0:aI) (p1:Int×Int):Option ((Int×Int×Int×Int×Int)×Int):=
 (tX p0).bind fun n0=>
 bif n0 !=0 then
  some ((0,0,0,0,0),8)
 else
  (vZ p0.slots p1).bind fun b1=>
  bif !b1 then
   some ((0,0,0,0,0),6)
  else
   (aO p0.where_ p1.1).bind fun n2=>
   (aO p0.heap n2).bind fun a3=>
   some (a3,0)
def aQQ:bJ:=⟨aB.cons (aK.agg cS) (aB.one (aK.agg (cI.row iE))),aK.tup (aB.cons (aK.agg (cI.row lJ)) (aB.one (aK.int .i64))),fun a=>wB a.1 a.2,.pure,false⟩
theorem aHY:aJ aV 101 aQQ:=Oc aEN rfl aG [(99,c99),(153,aN9)] ⟨aBD,X1,trivial⟩ fun a=>by kernel_rfl
def dH (s:aNR):Option aQx:=
 bif decide (s.2.1<(Int.ofNat s.2.2.2.2.2.2.1.length)) then
  (aO s.2.2.2.2.2.2.1 s.2.1).bind fun a0=>
  (sA (Field.mk s.2.2.2.2.1) a0.2 (s.2.2.1,s.2.2.2.1)).bind fun a1=>
  bif !a1.2 then
   some (.next (s.1,aA .i64 (s.2.1+1),s.2.2))
  else
   bif decide ((Int.ofNat s.2.2.2.2.2.2.2.2.2.2.2.2.length)<=s.1) then
    some (.done 8)
   else
    (aO s.2.2.2.2.2.2.2.2.2.2.2.2 s.1).bind fun a2=>
    bif a2.1 !=a0.1 then
     some (.done 8)
    else
     (aO s.2.2.2.2.2.2.2.2.2.2.2.2 s.1).bind fun a3=>
     (wB (aI.mk (aR.mk s.2.2.2.2.2.2.2.1 s.2.2.2.2.2.2.2.2.1 s.2.2.2.2.2.2.2.2.2.1) s.2.2.2.2.2.2.2.2.2.2.1 s.2.2.2.2.2.2.2.2.2.2.2.1) a3.2).bind fun a4=>
     bif a4.2 !=0 then
      some (.done 8)
     else
      bif a4.1.2.2.1 !=a0.1 then
       some (.done 8)
      else
       bif !((a4.1.1==a1.1.1)&&(a4.1.2.1==a1.1.2)) then
        some (.done 8)
       else
        some (.next (aA .i64 (s.1+1),aA .i64 (s.2.1+1),s.2.2))
 else
  bif s.1 !=(Int.ofNat s.2.2.2.2.2.2.2.2.2.2.2.2.length) then
   some (.done 8)
  else
   some (.done 0)
def xJ (p0:aQ):Option Int:=
 (pO p0.now).bind fun n0=>
 bif n0 !=0 then
  some 8
 else
  (pN p0.field).bind fun n1=>
  bif n1 !=0 then
   some 8
  else
   (tU p0.certs).bind fun n2=>
   bif n2 !=0 then
    some 8
   else
    (xH p0.certs p0.field).bind fun b3=>
    bif !b3 then
     some 8
    else
     (tX p0.agenda).bind fun n4=>
     bif n4 !=0 then
      some 8
     else
      bif (Int.ofNat p0.agenda.where_.length) !=200 then
       some 8
      else
       bif (Int.ofNat p0.agenda.heap.length) !=(Int.ofNat p0.due.length) then
        some 8
       else
        aH dH (0,0,p0.now.1,p0.now.2,p0.field.points,p0.certs.next_,p0.certs.list,p0.agenda.slots.uses,p0.agenda.slots.used,p0.agenda.slots.free,p0.agenda.heap,p0.agenda.where_,p0.due)
def c52:bJ:=⟨aB.one (aK.agg bN),aK.int .i64,fun a=>xJ a,.pure,false⟩
theorem aOb:aJ aV 52 c52:=Oc aMJ rfl aG [(45,c45),(44,c44),(97,c97),(98,c98),(99,c99),(100,aHP),(101,aQQ)] ⟨U0,aBo,aBA,aN8,aBD,PQ,aHY,trivial⟩ fun a=>by kernel_rfl
abbrev aOc:=Int×Int×bO×Int×bO
abbrev aQR:=cE aOc Bool
def qU (s:aOc):Option aQR:=
 bif decide (s.1<(Int.ofNat s.2.2.1.length)) then
  (aO s.2.2.1 s.1).bind fun a0=>
  (aO s.2.2.2.2 s.1).bind fun a1=>
  bif !((a0.1==a1.1)&&((a0.2.1==a1.2.1)&&(a0.2.2==a1.2.2))) then
   some (.done false)
  else
   some (.next (aA .i64 (s.1+1),s.2))
 else
  some (.done true)
def pT (p0:rO) (p1:rO):Option Bool:=
 bif p0.root !=p1.root then
  some false
 else
  bif (Int.ofNat p0.nodes.length) !=(Int.ofNat p1.nodes.length) then
   some false
  else
   aH qU (0,p0.root,p0.nodes,p1.root,p1.nodes)
def c34:bJ:=⟨aB.cons (aK.agg xW) (aB.one (aK.agg xW)),aK.bool,fun a=>pT a.1 a.2,.pure,false⟩
theorem aBE:aJ aV 34 c34:=Oc aMv rfl aG [] trivial fun a=>by kernel_rfl
def AS (p0:Int×Int) (p1:Field) (p2:Int×Int):Option Bool:=
 (jJ p1 p0.2).bind fun n0=>
 (aO p1.points n0).bind fun a1=>
 (jJ p1 p0.1).bind fun n2=>
 (aO p1.points n2).bind fun a3=>
 (nA a1 a3 p2).bind fun b4=>
 some b4
def aQS:bJ:=⟨aB.cons (aK.agg (cI.row iE)) (aB.cons (aK.agg bW) (aB.one (aK.agg (cI.row iE)))),aK.bool,fun a=>AS a.1 a.2.1 a.2.2,.pure,false⟩
theorem aHZ:aJ aV 104 aQS:=Oc aEQ rfl aG [(65,c65),(140,aBr)] ⟨U5,JQ,trivial⟩ fun a=>by kernel_rfl
abbrev aQT:=pX×Int×Int×Int×bO×Int×bO×(List Int)×(List Bool)×(List Int)×jV×(List Int)×bO
def sU (s:aQT):Option (cE aQT Bool):=
 bif decide (s.2.1<(Int.ofNat s.1.length)) then
  (aO s.1 s.2.1).bind fun a0=>
  (vC (aW.mk s.2.2.2.2.2.1 s.2.2.2.2.2.2.1) a0).bind fun b1=>
  bif !b1 then
   some (.done false)
  else
   (aO s.1 s.2.1).bind fun a2=>
   (AS a2 (Field.mk s.2.2.2.2.1) (s.2.2.1,s.2.2.2.1)).bind fun b3=>
   bif !b3 then
    some (.done false)
   else
    some (.next (s.1,aA .i64 (s.2.1+1),s.2.2))
 else
  some (.done true)
def AT (p0:aQ) (p1:List (Int×Int)):Option Bool:=
 bif (Int.ofNat p0.certs.list.length) !=(Int.ofNat p1.length) then
  some false
 else
  aH sU (p1,0,p0.now.1,p0.now.2,p0.field.points,p0.certs.next_,p0.certs.list,p0.agenda.slots.uses,p0.agenda.slots.used,p0.agenda.slots.free,p0.agenda.heap,p0.agenda.where_,p0.due)
def c54:bJ:=⟨aB.cons (aK.agg bN) (aB.one (aK.sl iE)),aK.bool,fun a=>AT a.1 a.2,.pure,false⟩
theorem aOd:aJ aV 54 c54:=Oc aML rfl aG [(103,aHT),(104,aQS)] ⟨PR,aHZ,trivial⟩ fun a=>by kernel_rfl
def jK (p0:dX):Option Int:=
 (xJ p0.clock).bind fun n0=>
 bif n0 !=0 then
  some 8
 else
  (rX p0.clock.field p0.clock.now).bind fun r1=>
  (pT r1 p0.tree).bind fun b2=>
  bif !b2 then
   some 8
  else
   (vV r1).bind fun l3=>
   (AT p0.clock l3).bind fun b4=>
   bif !b4 then
    some 8
   else
    some 0
def c23:bJ:=⟨aB.one (aK.agg gL),aK.int .i64,fun a=>jK a,.pure,false⟩
theorem U9:aJ aV 23 c23:=Oc aMq rfl aG [(52,c52),(53,c53),(34,c34),(47,c47),(54,c54)] ⟨aOb,aBt,aBE,U1,aOd,trivial⟩ fun a=>by kernel_rfl
def tY (p0:dX):Option (pX×Int):=
 (jK p0).bind fun n0=>
 bif n0 !=0 then
  (jK p0).bind fun n1=>
  some ([],n1)
 else
  (vV p0.tree).bind fun l2=>
  some (l2,0)
def c19:bJ:=⟨aB.one (aK.agg gL),aK.tup (aB.cons (aK.sl iE) (aB.one (aK.int .i64))),fun a=>tY a,.frz,false⟩
theorem aOe:aJ aV 19 c19:=Oc aMm rfl aG [(23,c23),(47,c47)] ⟨U9,U1,trivial⟩ fun a=>by kernel_rfl
def mI (p0:dX):Option (Int×Int):=
 (lN p0).bind fun n0=>
 bif n0 !=0 then
  some (0,n0)
 else
  bif decide (p0.tree.root<0) then
   some (0,42)
  else
   (aO p0.tree.nodes p0.tree.root).bind fun a1=>
   some (a1.1,0)
def c20:bJ:=⟨aB.one (aK.agg gL),aK.tup (aB.cons (aK.int .i64) (aB.one (aK.int .i64))),fun a=>mI a,.pure,false⟩
theorem aOf:aJ aV 20 c20:=Oc aMn rfl aG [(22,c22)] ⟨U8,trivial⟩ fun a=>by kernel_rfl
def lY (s:(Int×Int×bO×Int×Int×Int×Int×Int)):Option (cE (Int×Int×bO×Int×Int×Int×Int×Int) Int):=
 bif decide (s.2.1<(Int.ofNat s.2.2.1.length)) then
  (aO s.2.2.1 s.2.1).bind fun a0=>
  bif a0.1 !=s.2.2.2.1 then
   (aO s.2.2.1 s.2.1).bind fun a1=>
   (nA a1 (s.2.2.2.1,s.2.2.2.2.1,s.2.2.2.2.2.1) s.2.2.2.2.2.2).bind fun b2=>
   bif b2 then
    some (.next (aA .i64 (s.1+1),aA .i64 (s.2.1+1),s.2.2))
   else
    some (.next (s.1,aA .i64 (s.2.1+1),s.2.2))
  else
   some (.next (s.1,aA .i64 (s.2.1+1),s.2.2))
 else
  some (.done s.1)
def uX (p0:Field) (p1:Int×Int×Int) (p2:Int×Int):Option Int:=
 aH lY (0,0,p0.points,p1.1,p1.2.1,p1.2.2,p2)
def c90:bJ:=⟨aB.cons (aK.agg bW) (aB.cons (aK.agg (cI.row eM)) (aB.one (aK.agg (cI.row iE)))),aK.int .i64,fun a=>uX a.1 a.2.1 a.2.2,.pure,false⟩
theorem aOg:aJ aV 90 c90:=Oc aNa rfl aG [(140,aBr)] ⟨JQ,trivial⟩ fun a=>by kernel_rfl
def kO (s:(Int×bO×Int×Int×(List Int))):Option (cE (Int×bO×Int×Int×(List Int)) (List Int)):=
 bif decide (s.1<(Int.ofNat s.2.1.length)) then
  (aO s.2.1 s.1).bind fun a0=>
  (uX (Field.mk s.2.1) a0 (s.2.2.1,s.2.2.2.1)).bind fun n1=>
  (aO s.2.1 s.1).bind fun a2=>
  (aO s.2.2.2.2 n1).bind fun _=>
  some (.next (aA .i64 (s.1+1),s.2.1,s.2.2.1,s.2.2.2.1,bX s.2.2.2.2 n1 a2.1))
 else
  some (.done s.2.2.2.2)
def oK (p0:Field) (p1:Int×Int):Option (List Int):=
 bif (Int.ofNat p0.points.length)==(Int.ofNat p0.points.length) then
  (tJ (Int.ofNat p0.points.length) (0:Int)).bind fun l0=>
  aH kO (0,p0.points,p1.1,p1.2,l0)
 else
  none
def c48:bJ:=⟨aB.cons (aK.agg bW) (aB.one (aK.agg (cI.row iE))),aK.sl ki,fun a=>oK a.1 a.2,.frz,false⟩
theorem aOh:aJ aV 48 c48:=Oc aMF rfl aG [(90,c90)] ⟨aOg,trivial⟩ fun a=>by kernel_rfl
def nV (p0:dX):Option (Int×Int):=
 (jK p0).bind fun n0=>
 bif n0 !=0 then
  (jK p0).bind fun n1=>
  some (0,n1)
 else
  bif (Int.ofNat p0.clock.field.points.length)==0 then
   some (0,42)
  else
   (oK p0.clock.field p0.clock.now).bind fun l2=>
   (aO l2 0).bind fun n3=>
   some (n3,0)
def c21:bJ:=⟨aB.one (aK.agg gL),aK.tup (aB.cons (aK.int .i64) (aB.one (aK.int .i64))),fun a=>nV a,.pure,false⟩
theorem aOi:aJ aV 21 c21:=Oc aMo rfl aG [(23,c23),(48,c48)] ⟨U9,aOh,trivial⟩ fun a=>by kernel_rfl
def sV (s:aOc):Option aQR:=
 bif decide (s.1<(Int.ofNat s.2.2.1.length)) then
  (aO s.2.2.1 s.1).bind fun a0=>
  (aO s.2.2.2.2 s.1).bind fun a1=>
  bif !((a0.1==a1.1)&&((a0.2.1==a1.2.1)&&(a0.2.2==a1.2.2))) then
   some (.done false)
  else
   some (.next (aA .i64 (s.1+1),s.2))
 else
  some (.done true)
def AU (p0:aW) (p1:aW):Option Bool:=
 bif p0.next_ !=p1.next_ then
  some false
 else
  bif (Int.ofNat p0.list.length) !=(Int.ofNat p1.list.length) then
   some false
  else
   aH sV (0,p0.next_,p0.list,p1.next_,p1.list)
def c69:bJ:=⟨aB.cons (aK.agg gH) (aB.one (aK.agg gH)),aK.bool,fun a=>AU a.1 a.2,.pure,false⟩
theorem aOj:aJ aV 69 c69:=Oc aMU rfl aG [] trivial fun a=>by kernel_rfl
def mN (s:((List Int)×(List Int)×Int)):Option (cE ((List Int)×(List Int)×Int) Bool):=
 bif decide (s.2.2<(Int.ofNat s.1.length)) then
  (aO s.1 s.2.2).bind fun n0=>
  (aO s.2.1 s.2.2).bind fun n1=>
  bif n0 !=n1 then
   some (.done false)
  else
   some (.next (s.1,s.2.1,aA .i64 (s.2.2+1)))
 else
  some (.done true)
def kQ (p0:List Int) (p1:List Int):Option Bool:=
 bif (Int.ofNat p0.length) !=(Int.ofNat p1.length) then
  some false
 else
  aH mN (p0,p1,0)
def aOk:bJ:=⟨aB.cons (aK.sl ki) (aB.one (aK.sl ki)),aK.bool,fun a=>kQ a.1 a.2,.pure,false⟩
theorem X2:aJ aV 118 aOk:=Oc aE2 rfl aG [] trivial fun a=>by kernel_rfl
def lO (s:((List Bool)×(List Bool)×Int)):Option (cE ((List Bool)×(List Bool)×Int) Bool):=
 bif decide (s.2.2<(Int.ofNat s.1.length)) then
  (aO s.1 s.2.2).bind fun b0=>
  (aO s.2.1 s.2.2).bind fun b1=>
  bif !(b0==b1) then
   some (.done false)
  else
   some (.next (s.1,s.2.1,aA .i64 (s.2.2+1)))
 else
  some (.done true)
def oU (p0:List Bool) (p1:List Bool):Option Bool:=
 bif (Int.ofNat p0.length) !=(Int.ofNat p1.length) then
  some false
 else
  aH lO (p0,p1,0)
def aQU:bJ:=⟨aB.cons (aK.sl kb) (aB.one (aK.sl kb)),aK.bool,fun a=>oU a.1 a.2,.pure,false⟩
theorem aH0:aJ aV 172 aQU:=Oc aFP rfl aG [] trivial fun a=>by kernel_rfl
def E1 (p0:aR) (p1:aR):Option Bool:=
 (kQ p0.uses p1.uses).bind fun b0=>
 bif b0 then
  (oU p0.used p1.used).bind fun b1=>
  bif b1 then
   (kQ p0.free p1.free).bind fun b2=>
   some b2
  else
   some false
 else
  some false
def aQV:bJ:=⟨aB.cons (aK.agg fK) (aB.one (aK.agg fK)),aK.bool,fun a=>E1 a.1 a.2,.pure,false⟩
theorem aH1:aJ aV 117 aQV:=Oc aE1 rfl aG [(118,aOk),(172,aQU)] ⟨X2,aH0,trivial⟩ fun a=>by kernel_rfl
abbrev aQW:=Int×(List Int)×(List Bool)×(List Int)×jV×(List Int)×(List Int)×(List Bool)×(List Int)×jV×(List Int)
def sW (s:aQW):Option (cE aQW Bool):=
 bif decide (s.1<(Int.ofNat s.2.2.2.2.1.length)) then
  (aO s.2.2.2.2.1 s.1).bind fun a0=>
  (aO s.2.2.2.2.2.2.2.2.2.1 s.1).bind fun a1=>
  bif !((a0.1==a1.1)&&((a0.2.1==a1.2.1)&&((a0.2.2.1==a1.2.2.1)&&((a0.2.2.2.1==a1.2.2.2.1)&&(a0.2.2.2.2==a1.2.2.2.2))))) then
   some (.done false)
  else
   some (.next (aA .i64 (s.1+1),s.2))
 else
  some (.done true)
def AV (p0:aI) (p1:aI):Option Bool:=
 (E1 p0.slots p1.slots).bind fun b0=>
 bif !b0 then
  some false
 else
  (kQ p0.where_ p1.where_).bind fun b1=>
  bif !b1 then
   some false
  else
   bif (Int.ofNat p0.heap.length) !=(Int.ofNat p1.heap.length) then
    some false
   else
    aH sW (0,p0.slots.uses,p0.slots.used,p0.slots.free,p0.heap,p0.where_,p1.slots.uses,p1.slots.used,p1.slots.free,p1.heap,p1.where_)
def c70:bJ:=⟨aB.cons (aK.agg cS) (aB.one (aK.agg cS)),aK.bool,fun a=>AV a.1 a.2,.pure,false⟩
theorem aOl:aJ aV 70 c70:=Oc aMV rfl aG [(117,aQV),(118,aOk)] ⟨aH1,X2,trivial⟩ fun a=>by kernel_rfl
abbrev Zt5:=Int×Int×Int×bO×Int×bO×(List Int)×(List Bool)×(List Int)×jV×(List Int)×bO×Int×Int×bO×Int×bO×(List Int)×(List Bool)×(List Int)×jV×(List Int)×bO
def sX (s:Zt5):Option (cE Zt5 Bool):=
 bif decide (s.1<(Int.ofNat s.2.2.2.2.2.2.2.2.2.2.2.1.length)) then
  (aO s.2.2.2.2.2.2.2.2.2.2.2.1 s.1).bind fun a0=>
  (aO s.2.2.2.2.2.2.2.2.2.2.2.2.2.2.2.2.2.2.2.2.2.2 s.1).bind fun a1=>
  bif !((a0.1==a1.1)&&((a0.2.1==a1.2.1)&&(a0.2.2==a1.2.2))) then
   some (.done false)
  else
   some (.next (aA .i64 (s.1+1),s.2))
 else
  some (.done true)
def AW (p0:aQ) (p1:aQ):Option Bool:=
 bif !((p0.now.1==p1.now.1)&&(p0.now.2==p1.now.2)) then
  some false
 else
  (vX p0.field p1.field).bind fun b0=>
  bif !b0 then
   some false
  else
   (AU p0.certs p1.certs).bind fun b1=>
   bif !b1 then
    some false
   else
    (AV p0.agenda p1.agenda).bind fun b2=>
    bif !b2 then
     some false
    else
     bif (Int.ofNat p0.due.length) !=(Int.ofNat p1.due.length) then
      some false
     else
      aH sX (0,p0.now.1,p0.now.2,p0.field.points,p0.certs.next_,p0.certs.list,p0.agenda.slots.uses,p0.agenda.slots.used,p0.agenda.slots.free,p0.agenda.heap,p0.agenda.where_,p0.due,p1.now.1,p1.now.2,p1.field.points,p1.certs.next_,p1.certs.list,p1.agenda.slots.uses,p1.agenda.slots.used,p1.agenda.slots.free,p1.agenda.heap,p1.agenda.where_,p1.due)
def c33:bJ:=⟨aB.cons (aK.agg bN) (aB.one (aK.agg bN)),aK.bool,fun a=>AW a.1 a.2,.pure,false⟩
theorem aOm:aJ aV 33 c33:=Oc aMu rfl aG [(68,c68),(69,c69),(70,c70)] ⟨aBw,aOj,aOl,trivial⟩ fun a=>by kernel_rfl
def AX (p0:dX) (p1:dX):Option Bool:=
 (AW p0.clock p1.clock).bind fun b0=>
 bif b0 then
  (pT p0.tree p1.tree).bind fun b1=>
  some b1
 else
  some false
def c10:bJ:=⟨aB.cons (aK.agg gL) (aB.one (aK.agg gL)),aK.bool,fun a=>AX a.1 a.2,.pure,false⟩
theorem aOn:aJ aV 10 c10:=Oc aMg rfl aG [(33,c33),(34,c34)] ⟨aOm,aBE,trivial⟩ fun a=>by kernel_rfl
def lP (s:(pX×pX×Int)):Option (cE (pX×pX×Int) Bool):=
 bif decide (s.2.2<(Int.ofNat s.1.length)) then
  (aO s.1 s.2.2).bind fun a0=>
  (aO s.2.1 s.2.2).bind fun a1=>
  bif !((a0.1==a1.1)&&(a0.2==a1.2)) then
   some (.done false)
  else
   some (.next (s.1,s.2.1,aA .i64 (s.2.2+1)))
 else
  some (.done true)
def oV (p0:List (Int×Int)) (p1:List (Int×Int)):Option Bool:=
 bif (Int.ofNat p0.length) !=(Int.ofNat p1.length) then
  some false
 else
  aH lP (p0,p1,0)
def c14:bJ:=⟨aB.cons (aK.sl iE) (aB.one (aK.sl iE)),aK.bool,fun a=>oV a.1 a.2,.pure,false⟩
theorem aOo:aJ aV 14 c14:=Oc aMh rfl aG [] trivial fun a=>by kernel_rfl
def pC (p0:Field) (p1:Int×Int) (p2:dX):Option Bool:=
 (pJ p0).bind fun b0=>
 bif b0 then
  some true
 else
  (tN p2).bind fun b1=>
  bif b1 then
   some true
  else
   (nS p0 p1).bind fun a2=>
   (pS p0 p1).bind fun a3=>
   (qQ p2).bind fun a4=>
   (tY p2).bind fun a5=>
   (mI p2).bind fun a6=>
   (nV p2).bind fun a7=>
   (AX a2.1 a3.1).bind fun b8=>
   bif b8 then
    bif a2.2==a3.2 then
     (lN p2).bind fun n9=>
     (jK p2).bind fun n10=>
     bif n9==n10 then
      (oV a4.1 a5.1).bind fun b11=>
      bif b11 then
       bif a4.2==a5.2 then
        bif a6.1==a7.1 then
         some (a6.2==a7.2)
        else
         some false
       else
        some false
      else
       some false
     else
      some false
    else
     some false
   else
    some false
def c5:bJ:=⟨aB.cons (aK.agg bW) (aB.cons (aK.agg (cI.row iE)) (aB.one (aK.agg gL))),aK.bool,fun a=>pC a.1 a.2.1 a.2.2,.pure,false⟩
theorem aQX:aJ aV 5 c5:=Oc aIR rfl aG [(15,c15),(6,c6),(16,c16),(17,c17),(18,c18),(19,c19),(20,c20),(21,c21),(10,c10),(22,c22),(23,c23),(14,c14)] ⟨aBd,aPb,aNK,aN3,aN7,aOe,aOf,aOi,aOn,U8,U9,aOo,trivial⟩ fun a=>by kernel_rfl
end
end Go.Proofs.YticklbjcnimggaaGreat
