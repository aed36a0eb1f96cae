/- Plain functions for what the functions of the seat compute. Printed by a program. -/
import Derived.Test.YthljmpcakagceaaGreatBVm3
import Derived.Test.YthljmpcakagceaaGreatBQXT
import Derived.Test.YthljmpcakagceaaGreatBQS1
set_option maxRecDepth 100000
namespace Go.Proofs.YthljmpcakagceaaGreat
open Go.Vm
noncomputable section
section
variable [LP]
def kM (c0:aHX) (s:aHY):Option (cL aHY NG):=
 bif decide ((Int.ofNat s.2.2.2.2.2.2.1)<=(aA .i64 ((aA .i64 (2*s.1))+1))) then
  bif s.2.1.length==c0.2.2.2.2.2.2.1.length then
   bif s.2.2.1.length==c0.2.2.2.2.2.2.2.length then
    some (.done (s.2.1,s.2.2.1))
   else
    none
  else
   none
 else
  bif decide ((aA .i64 ((aA .i64 ((aA .i64 (2*s.1))+1))+1))<(Int.ofNat s.2.2.2.2.2.2.1)) then
   (aO (s.2.1.take s.2.2.2.2.2.2.1) (aA .i64 ((aA .i64 ((aA .i64 (2*s.1))+1))+1))).bind fun a0=>
   (aO (s.2.1.take s.2.2.2.2.2.2.1) (aA .i64 ((aA .i64 (2*s.1))+1))).bind fun a1=>
   (eM a0 a1).bind fun b2=>
   bif b2 then
    (aO (s.2.1.take s.2.2.2.2.2.2.1) (aA .i64 ((aA .i64 ((aA .i64 (2*s.1))+1))+1))).bind fun a3=>
    (aO (s.2.1.take s.2.2.2.2.2.2.1) s.1).bind fun a4=>
    (eM a3 a4).bind fun b5=>
    bif !b5 then
     bif s.2.1.length==c0.2.2.2.2.2.2.1.length then
      bif s.2.2.1.length==c0.2.2.2.2.2.2.2.length then
       some (.done (s.2.1,s.2.2.1))
      else
       none
     else
      none
    else
     (gP (s.2.2.2.1,s.2.2.2.2.1,s.2.2.2.2.2.1,s.2.2.2.2.2.2.1,s.2.2.2.2.2.2.2,s.1,aA .i64 ((aA .i64 ((aA .i64 (2*s.1))+1))+1),s.2.1,s.2.2.1)).bind fun a6=>
     some (.next (aA .i64 ((aA .i64 ((aA .i64 (2*s.1))+1))+1),a6.1,a6.2,s.2.2.2))
   else
    (aO (s.2.1.take s.2.2.2.2.2.2.1) (aA .i64 ((aA .i64 (2*s.1))+1))).bind fun a7=>
    (aO (s.2.1.take s.2.2.2.2.2.2.1) s.1).bind fun a8=>
    (eM a7 a8).bind fun b9=>
    bif !b9 then
     bif s.2.1.length==c0.2.2.2.2.2.2.1.length then
      bif s.2.2.1.length==c0.2.2.2.2.2.2.2.length then
       some (.done (s.2.1,s.2.2.1))
      else
       none
     else
      none
    else
     (gP (s.2.2.2.1,s.2.2.2.2.1,s.2.2.2.2.2.1,s.2.2.2.2.2.2.1,s.2.2.2.2.2.2.2,s.1,aA .i64 ((aA .i64 (2*s.1))+1),s.2.1,s.2.2.1)).bind fun a10=>
     some (.next (aA .i64 ((aA .i64 (2*s.1))+1),a10.1,a10.2,s.2.2.2))
  else
   (aO (s.2.1.take s.2.2.2.2.2.2.1) (aA .i64 ((aA .i64 (2*s.1))+1))).bind fun a11=>
   (aO (s.2.1.take s.2.2.2.2.2.2.1) s.1).bind fun a12=>
   (eM a11 a12).bind fun b13=>
   bif !b13 then
    bif s.2.1.length==c0.2.2.2.2.2.2.1.length then
     bif s.2.2.1.length==c0.2.2.2.2.2.2.2.length then
      some (.done (s.2.1,s.2.2.1))
     else
      none
    else
     none
   else
    (gP (s.2.2.2.1,s.2.2.2.2.1,s.2.2.2.2.2.1,s.2.2.2.2.2.2.1,s.2.2.2.2.2.2.2,s.1,aA .i64 ((aA .i64 (2*s.1))+1),s.2.1,s.2.2.1)).bind fun a14=>
    some (.next (aA .i64 ((aA .i64 (2*s.1))+1),a14.1,a14.2,s.2.2.2))
def lG (a:aHX):Option NG:=
 aH (kM a) (a.2.2.2.2.2.1,a.2.2.2.2.2.2.1,a.2.2.2.2.2.2.2,a.1,a.2.1,a.2.2.1,a.2.2.2.1,a.2.2.2.2.1)
def V0:eE:=⟨[.l [.i .i64],.l [.b],.l [.i .i64],.n,.n,.i,.l [.i .i64,.i .i64,.i .i64,.i .i64,.i .i64],.l [.i .i64]],[.agg [.sl [.i .i64] [],.sl [.b] [],.sl [.i .i64] [],.pre 0 0 0 false,.own 1 false],.int .i64 0],[.arr [.i .i64,.i .i64,.i .i64,.i .i64,.i .i64] [],.arr [.i .i64] []],[.l [.i .i64,.i .i64,.i .i64,.i .i64,.i .i64],.l [.i .i64]],.tup [],[.arr [.i .i64,.i .i64,.i .i64,.i .i64,.i .i64] [],.arr [.i .i64] []],fun a=>lG a⟩
theorem OL:lN tab 288 V0:=lN.of X7 (wd:=false) (cx:=(pK aG [(191,VY)] [(286,FN),(286,FO)] [] [])) (mL.make ⟨DX,trivial⟩ ⟨vV,vW,trivial⟩ trivial) (fun a=>by kernel_rfl)
def kE (p0:aI) (p1:Int×Int):Option aI:=
 (mA p0).bind fun r0=>
 (aO r0.where_ p1.1).bind fun n1=>
 bif n1 !=(aA .i64 ((Int.ofNat r0.heap.length) -1)) then
  (fN (n1,aA .i64 ((Int.ofNat r0.heap.length) -1),r0.slots.uses,r0.slots.used,r0.slots.free,r0.heap,r0.where_)).bind fun a2=>
  (jM a2.2.2.2.1 0 (aA .i64 ((Int.ofNat r0.heap.length) -1))).bind fun _=>
  (aO a2.2.2.2.2 p1.1).bind fun _=>
  (qD (aS.mk a2.1 a2.2.1 a2.2.2.1) p1).bind fun r5=>
  bif n1 !=(aA .i64 ((Int.ofNat r0.heap.length) -1)) then
   (nU (r5.uses,r5.used,r5.free,(aA .i64 ((Int.ofNat r0.heap.length) -1)).toNat,a2.2.2.2.1.length,n1,a2.2.2.2.1,cA a2.2.2.2.2 p1.1 (-1))).bind fun a6=>
   (lG (r5.uses,r5.used,r5.free,(aA .i64 ((Int.ofNat r0.heap.length) -1)).toNat,a2.2.2.2.1.length,a6)).bind fun a7=>
   some (aI.mk r5 (a7.1.take ((aA .i64 ((Int.ofNat r0.heap.length) -1)).toNat)) a7.2)
  else
   some (aI.mk r5 (a2.2.2.2.1.take ((aA .i64 ((Int.ofNat r0.heap.length) -1)).toNat)) (cA a2.2.2.2.2 p1.1 (-1)))
 else
  (jM r0.heap 0 (aA .i64 ((Int.ofNat r0.heap.length) -1))).bind fun _=>
  (aO r0.where_ p1.1).bind fun _=>
  (qD r0.slots p1).bind fun r10=>
  bif n1 !=(aA .i64 ((Int.ofNat r0.heap.length) -1)) then
   (nU (r10.uses,r10.used,r10.free,(aA .i64 ((Int.ofNat r0.heap.length) -1)).toNat,r0.heap.length,n1,r0.heap,cA r0.where_ p1.1 (-1))).bind fun a11=>
   (lG (r10.uses,r10.used,r10.free,(aA .i64 ((Int.ofNat r0.heap.length) -1)).toNat,r0.heap.length,a11)).bind fun a12=>
   some (aI.mk r10 (a12.1.take ((aA .i64 ((Int.ofNat r0.heap.length) -1)).toNat)) a12.2)
  else
   some (aI.mk r10 (r0.heap.take ((aA .i64 ((Int.ofNat r0.heap.length) -1)).toNat)) (cA r0.where_ p1.1 (-1)))
def aO8:bK:=⟨aC.cons (aM.agg dD) (aC.one (aM.agg (cI.row kB))),aM.agg dD,fun a=>kE a.1 a.2,.frz,false⟩
theorem YW:aK tab 255 aO8:=aK.of aHq (cx:=(pK aG [(149,aAm),(149,OI),(287,aRF)] [(286,FN),(286,FO),(289,QM),(288,V0)] [] [])) rfl (mL.make ⟨GW,CV,aJf,trivial⟩ ⟨vV,vW,IQ,OL,trivial⟩ trivial) (fun a=>by kernel_rfl)
def wS (p0:aQ) (p1:Int):Option aQ:=
 (iZ p0).bind fun r0=>
 (tC p0.certs p1).bind fun r1=>
 (qC p0 p1).bind fun n2=>
 bif decide (0<=n2) then
  (aO p0.due n2).bind fun a3=>
  (kE p0.agenda a3.2).bind fun r4=>
  (jM p0.due 0 n2).bind fun l5=>
  (cB l5).bind fun l6=>
  (jM p0.due (aA .i64 (n2+1)) (Int.ofNat p0.due.length)).bind fun l7=>
  bif l7.isEmpty then
   some (aQ.mk r0.now r0.field r1 r4 l6)
  else
   (bE l6 l7).bind fun l8=>
   some (aQ.mk r0.now r0.field r1 r4 l8)
 else
  some (aQ.mk r0.now r0.field r1 r0.agenda r0.due)
def aRG:bK:=⟨aC.cons (aM.agg bU) (aC.one (aM.int .i64)),aM.agg bU,fun a=>wS a.1 a.2,.frz,false⟩
theorem aJg:aK tab 203 aRG:=Oc aGW rfl aG [(89,c89),(89,VP),(253,aRE),(254,aO7),(255,aO8)] ⟨IM,DS,aJe,YV,YW,trivial⟩ fun a=>by kernel_rfl
def tD (s:(Int×bN×bN)):Option (cL (Int×bN×bN) Bool):=
 bif decide (s.1<(Int.ofNat s.2.1.length)) then
  (aO s.2.1 s.1).bind fun a0=>
  (aO s.2.2 s.1).bind fun a1=>
  bif !((a0.1==a1.1)&&((a0.2.1==a1.2.1)&&(a0.2.2==a1.2.2))) then
   some (.done false)
  else
   some (.next (aA .i64 (s.1+1),s.2))
 else
  some (.done true)
def wT (p0:Field) (p1:Field):Option Bool:=
 bif (Int.ofNat p0.points.length) !=(Int.ofNat p1.points.length) then
  some false
 else
  aH tD (0,p0.points,p1.points)
def c45:bK:=⟨aC.cons (aM.agg bT) (aC.one (aM.agg bT)),aM.bool,fun a=>wT a.1 a.2,.pure,false⟩
theorem aCk:aK tab 45 c45:=Oc aNT rfl aG [] trivial fun a=>by kernel_rfl
def iD (c0:GT) (s:GT):Option (cL GT GT):=
 bif decide (0<s.1) then
  (aO s.2.2.2.2.1 s.1).bind fun a0=>
  (aO s.2.2.2.2.1 (aA .i64 (Int.tdiv (aA .i64 (s.1-1)) 2))).bind fun a1=>
  (eM a0 a1).bind fun b2=>
  bif b2 then
   (fN (s.1,aA .i64 (Int.tdiv (aA .i64 (s.1-1)) 2),s.2)).bind fun a3=>
   some (.next (aA .i64 (Int.tdiv (aA .i64 (s.1-1)) 2),a3))
  else
   bif s.2.1.length==c0.2.1.length then
    bif s.2.2.1.length==c0.2.2.1.length then
     bif s.2.2.2.1.length==c0.2.2.2.1.length then
      bif s.2.2.2.2.1.length==c0.2.2.2.2.1.length then
       bif s.2.2.2.2.2.length==c0.2.2.2.2.2.length then
        some (.done s)
       else
        none
      else
       none
     else
      none
    else
     none
   else
    none
 else
  bif s.2.1.length==c0.2.1.length then
   bif s.2.2.1.length==c0.2.2.1.length then
    bif s.2.2.2.1.length==c0.2.2.2.1.length then
     bif s.2.2.2.2.1.length==c0.2.2.2.2.1.length then
      bif s.2.2.2.2.2.length==c0.2.2.2.2.2.length then
       some (.done s)
      else
       none
     else
      none
    else
     none
   else
    none
  else
   none
def rE (a:GT):Option GT:=
 aH (iD a) a
def V1:eE:=⟨[.i,.l [.i .i64],.l [.b],.l [.i .i64],.l [.i .i64,.i .i64,.i .i64,.i .i64,.i .i64],.l [.i .i64]],[.agg [.own 0 false,.own 1 false,.own 2 false,.own 3 false,.own 4 false],.int .i64 0],[.arr [.i .i64] [],.arr [.b] [],.arr [.i .i64] [],.arr [.i .i64,.i .i64,.i .i64,.i .i64,.i .i64] [],.arr [.i .i64] []],[.i,.l [.i .i64],.l [.b],.l [.i .i64],.l [.i .i64,.i .i64,.i .i64,.i .i64,.i .i64],.l [.i .i64]],.int .i64 0,[.arr [.i .i64] [],.arr [.b] [],.arr [.i .i64] [],.arr [.i .i64,.i .i64,.i .i64,.i .i64,.i .i64] [],.arr [.i .i64] []],fun a=>rE a⟩
theorem OM:lN tab 289 V1:=lN.of P6 (wd:=false) (cx:=(pK aG [(191,VY)] [(286,FN),(286,FO)] [] [])) (mL.make ⟨DX,trivial⟩ ⟨vV,vW,trivial⟩ trivial) (fun a=>by kernel_rfl)
def kN (c0:GT) (s:GT):Option (cL GT aOs):=
 bif decide ((Int.ofNat s.2.2.2.2.1.length)<=(aA .i64 ((aA .i64 (2*s.1))+1))) then
  bif s.2.1.length==c0.2.1.length then
   bif s.2.2.1.length==c0.2.2.1.length then
    bif s.2.2.2.1.length==c0.2.2.2.1.length then
     bif s.2.2.2.2.1.length==c0.2.2.2.2.1.length then
      bif s.2.2.2.2.2.length==c0.2.2.2.2.2.length then
       some (.done s.2)
      else
       none
     else
      none
    else
     none
   else
    none
  else
   none
 else
  bif decide ((aA .i64 ((aA .i64 ((aA .i64 (2*s.1))+1))+1))<(Int.ofNat s.2.2.2.2.1.length)) then
   (aO s.2.2.2.2.1 (aA .i64 ((aA .i64 ((aA .i64 (2*s.1))+1))+1))).bind fun a0=>
   (aO s.2.2.2.2.1 (aA .i64 ((aA .i64 (2*s.1))+1))).bind fun a1=>
   (eM a0 a1).bind fun b2=>
   bif b2 then
    (aO s.2.2.2.2.1 (aA .i64 ((aA .i64 ((aA .i64 (2*s.1))+1))+1))).bind fun a3=>
    (aO s.2.2.2.2.1 s.1).bind fun a4=>
    (eM a3 a4).bind fun b5=>
    bif !b5 then
     bif s.2.1.length==c0.2.1.length then
      bif s.2.2.1.length==c0.2.2.1.length then
       bif s.2.2.2.1.length==c0.2.2.2.1.length then
        bif s.2.2.2.2.1.length==c0.2.2.2.2.1.length then
         bif s.2.2.2.2.2.length==c0.2.2.2.2.2.length then
          some (.done s.2)
         else
          none
        else
         none
       else
        none
      else
       none
     else
      none
    else
     (fN (s.1,aA .i64 ((aA .i64 ((aA .i64 (2*s.1))+1))+1),s.2)).bind fun a6=>
     some (.next (aA .i64 ((aA .i64 ((aA .i64 (2*s.1))+1))+1),a6))
   else
    (aO s.2.2.2.2.1 (aA .i64 ((aA .i64 (2*s.1))+1))).bind fun a7=>
    (aO s.2.2.2.2.1 s.1).bind fun a8=>
    (eM a7 a8).bind fun b9=>
    bif !b9 then
     bif s.2.1.length==c0.2.1.length then
      bif s.2.2.1.length==c0.2.2.1.length then
       bif s.2.2.2.1.length==c0.2.2.2.1.length then
        bif s.2.2.2.2.1.length==c0.2.2.2.2.1.length then
         bif s.2.2.2.2.2.length==c0.2.2.2.2.2.length then
          some (.done s.2)
         else
          none
        else
         none
       else
        none
      else
       none
     else
      none
    else
     (fN (s.1,aA .i64 ((aA .i64 (2*s.1))+1),s.2)).bind fun a10=>
     some (.next (aA .i64 ((aA .i64 (2*s.1))+1),a10))
  else
   (aO s.2.2.2.2.1 (aA .i64 ((aA .i64 (2*s.1))+1))).bind fun a11=>
   (aO s.2.2.2.2.1 s.1).bind fun a12=>
   (eM a11 a12).bind fun b13=>
   bif !b13 then
    bif s.2.1.length==c0.2.1.length then
     bif s.2.2.1.length==c0.2.2.1.length then
      bif s.2.2.2.1.length==c0.2.2.2.1.length then
       bif s.2.2.2.2.1.length==c0.2.2.2.2.1.length then
        bif s.2.2.2.2.2.length==c0.2.2.2.2.2.length then
         some (.done s.2)
        else
         none
       else
        none
      else
       none
     else
      none
    else
     none
   else
    (fN (s.1,aA .i64 ((aA .i64 (2*s.1))+1),s.2)).bind fun a14=>
    some (.next (aA .i64 ((aA .i64 (2*s.1))+1),a14))
def oJ (a:GT):Option aOs:=
 aH (kN a) a
def aCl:eE:=⟨[.i,.l [.i .i64],.l [.b],.l [.i .i64],.l [.i .i64,.i .i64,.i .i64,.i .i64,.i .i64],.l [.i .i64]],[.agg [.own 0 false,.own 1 false,.own 2 false,.own 3 false,.own 4 false],.int .i64 0],[.arr [.i .i64] [],.arr [.b] [],.arr [.i .i64] [],.arr [.i .i64,.i .i64,.i .i64,.i .i64,.i .i64] [],.arr [.i .i64] []],[.l [.i .i64],.l [.b],.l [.i .i64],.l [.i .i64,.i .i64,.i .i64,.i .i64,.i .i64],.l [.i .i64]],.tup [],[.arr [.i .i64] [],.arr [.b] [],.arr [.i .i64] [],.arr [.i .i64,.i .i64,.i .i64,.i .i64,.i .i64] [],.arr [.i .i64] []],fun a=>oJ a⟩
theorem aAt:lN tab 288 aCl:=lN.of X7 (wd:=false) (cx:=(pK aG [(191,VY)] [(286,FN),(286,FO)] [] [])) (mL.make ⟨DX,trivial⟩ ⟨vV,vW,trivial⟩ trivial) (fun a=>by kernel_rfl)
def tF (p0:aI) (p1:Int×Int) (p2:Int×Int):Option aI:=
 (mA p0).bind fun r0=>
 (aO r0.where_ p1.1).bind fun n1=>
 (aO r0.heap n1).bind fun a2=>
 (rE (n1,r0.slots.uses,r0.slots.used,r0.slots.free,cA r0.heap n1 (p2.1,p2.2,a2.2.2),r0.where_)).bind fun a3=>
 (oJ a3).bind fun a4=>
 some (aI.mk (aS.mk a4.1 a4.2.1 a4.2.2.1) a4.2.2.2.1 a4.2.2.2.2)
def aRH:bK:=⟨aC.cons (aM.agg dD) (aC.cons (aM.agg (cI.row kB)) (aC.one (aM.agg (cI.row kB)))),aM.agg dD,fun a=>tF a.1 a.2.1 a.2.2,.frz,false⟩
theorem aJh:aK tab 256 aRH:=aK.of aHr (cx:=(pK aG [(149,aAm),(149,OI)] [(289,QM),(288,V0),(289,V1),(288,aCl)] [] [])) rfl (mL.make ⟨GW,CV,trivial⟩ ⟨IQ,OL,OM,aAt,trivial⟩ trivial) (fun a=>by kernel_rfl)
def gQ (p0:aS):Option Bool:=
 bif decide (0<(Int.ofNat p0.free.length)) then
  (aO p0.free (aA .i64 ((Int.ofNat p0.free.length) -1))).bind fun n0=>
  (aO p0.uses n0).bind fun n1=>
  some (decide (n1<1000000))
 else
  some false
def aO9:bK:=⟨aC.one (aM.agg gJ),aM.bool,fun a=>gQ a,.pure,false⟩
theorem YX:aK tab 257 aO9:=Oc aHs rfl aG [] trivial fun a=>by kernel_rfl
def xX (p0:aS):Option (aS×(Int×Int)):=
 (nM p0).bind fun r0=>
 (aO r0.free (aA .i64 ((Int.ofNat r0.free.length) -1))).bind fun n1=>
 (jM r0.free 0 (aA .i64 ((Int.ofNat r0.free.length) -1))).bind fun _=>
 (aO r0.uses n1).bind fun n3=>
 (aO r0.uses n1).bind fun _=>
 (aO r0.used n1).bind fun _=>
 (aO (cA r0.uses n1 (aA .i64 (n3+1))) n1).bind fun n6=>
 some (aS.mk (cA r0.uses n1 (aA .i64 (n3+1))) (cA r0.used n1 true) (r0.free.take ((aA .i64 ((Int.ofNat r0.free.length) -1)).toNat)),n1,n6)
def aRI:bK:=⟨aC.one (aM.agg gJ),aM.tup (aC.cons (aM.agg gJ) (aC.one (aM.agg (cI.row kB)))),fun a=>xX a,.frz,false⟩
theorem aJi:aK tab 290 aRI:=Oc aHJ rfl aG [(202,aBZ),(202,SW)] ⟨J8,GV,trivial⟩ fun a=>by kernel_rfl
def oK (a:((List Int)×(List Bool)×(List Int)×Int×Int×kJ×(List Int))):Option NG:=
 (aO a.2.2.2.2.2.1 a.2.2.2.2.1).bind fun a0=>
 (aO a.2.2.2.2.2.1 a.2.2.2.1).bind fun a1=>
 (aO a.2.2.2.2.2.1 a.2.2.2.1).bind fun _=>
 (aO (cA a.2.2.2.2.2.1 a.2.2.2.1 a0) a.2.2.2.2.1).bind fun _=>
 (aO (cA (cA a.2.2.2.2.2.1 a.2.2.2.1 a0) a.2.2.2.2.1 a1) a.2.2.2.1).bind fun a4=>
 (aO (cA (cA a.2.2.2.2.2.1 a.2.2.2.1 a0) a.2.2.2.2.1 a1) a.2.2.2.2.1).bind fun a5=>
 (aO a.2.2.2.2.2.2 a4.2.2.2.1).bind fun _=>
 (aO (cA a.2.2.2.2.2.2 a4.2.2.2.1 a.2.2.2.1) a5.2.2.2.1).bind fun _=>
 bif ((cA (cA a.2.2.2.2.2.1 a.2.2.2.1 a0) a.2.2.2.2.1 a1).length)==a.2.2.2.2.2.1.length then
  bif ((cA (cA a.2.2.2.2.2.2 a4.2.2.2.1 a.2.2.2.1) a5.2.2.2.1 a.2.2.2.2.1).length)==a.2.2.2.2.2.2.length then
   some (cA (cA a.2.2.2.2.2.1 a.2.2.2.1 a0) a.2.2.2.2.1 a1,cA (cA a.2.2.2.2.2.2 a4.2.2.2.1 a.2.2.2.1) a5.2.2.2.1 a.2.2.2.2.1)
  else
   none
 else
  none
def aCm:eE:=⟨[.l [.i .i64],.l [.b],.l [.i .i64],.i,.i,.l [.i .i64,.i .i64,.i .i64,.i .i64,.i .i64],.l [.i .i64]],[.agg [.sl [.i .i64] [],.sl [.b] [],.sl [.i .i64] [],.own 0 false,.own 1 false],.int .i64 0,.int .i64 0],[.arr [.i .i64,.i .i64,.i .i64,.i .i64,.i .i64] [],.arr [.i .i64] []],[.l [.i .i64,.i .i64,.i .i64,.i .i64,.i .i64],.l [.i .i64]],.tup [],[.arr [.i .i64,.i .i64,.i .i64,.i .i64,.i .i64] [],.arr [.i .i64] []],fun a=>oK a⟩
theorem aAu:lN tab 286 aCm:=lN.of P5 (wd:=false) (cx:=(pK aG [] [] [] [])) (mL.make trivial trivial trivial) (fun a=>by kernel_rfl)
abbrev aRJ:=(List Int)×(List Bool)×(List Int)×Int×kJ×(List Int)
abbrev aRK:=Int×kJ×(List Int)×(List Int)×(List Bool)×(List Int)
def iE (c0:aRJ) (s:aRK):Option (cL aRK aH1):=
 bif decide (0<s.1) then
  (aO s.2.1 s.1).bind fun a0=>
  (aO s.2.1 (aA .i64 (Int.tdiv (aA .i64 (s.1-1)) 2))).bind fun a1=>
  (eM a0 a1).bind fun b2=>
  bif b2 then
   (oK (s.2.2.2.1,s.2.2.2.2.1,s.2.2.2.2.2,s.1,aA .i64 (Int.tdiv (aA .i64 (s.1-1)) 2),s.2.1,s.2.2.1)).bind fun a3=>
   some (.next (aA .i64 (Int.tdiv (aA .i64 (s.1-1)) 2),a3.1,a3.2,s.2.2.2))
  else
   bif s.2.1.length==c0.2.2.2.2.1.length then
    bif s.2.2.1.length==c0.2.2.2.2.2.length then
     some (.done (s.1,s.2.1,s.2.2.1))
    else
     none
   else
    none
 else
  bif s.2.1.length==c0.2.2.2.2.1.length then
   bif s.2.2.1.length==c0.2.2.2.2.2.length then
    some (.done (s.1,s.2.1,s.2.2.1))
   else
    none
  else
   none
def rF (a:aRJ):Option aH1:=
 aH (iE a) (a.2.2.2.1,a.2.2.2.2.1,a.2.2.2.2.2,a.1,a.2.1,a.2.2.1)
def aCn:eE:=⟨[.l [.i .i64],.l [.b],.l [.i .i64],.i,.l [.i .i64,.i .i64,.i .i64,.i .i64,.i .i64],.l [.i .i64]],[.agg [.sl [.i .i64] [],.sl [.b] [],.sl [.i .i64] [],.own 0 false,.own 1 false],.int .i64 0],[.arr [.i .i64,.i .i64,.i .i64,.i .i64,.i .i64] [],.arr [.i .i64] []],[.i,.l [.i .i64,.i .i64,.i .i64,.i .i64,.i .i64],.l [.i .i64]],.int .i64 0,[.arr [.i .i64,.i .i64,.i .i64,.i .i64,.i .i64] [],.arr [.i .i64] []],fun a=>rF a⟩
theorem aAv:lN tab 289 aCn:=lN.of P6 (wd:=true) (cx:=(pK aG [(191,VY)] [(286,FN),(286,FO),(286,aCm)] [] [])) (mL.make ⟨DX,trivial⟩ ⟨vV,vW,aAu,trivial⟩ trivial) (fun a=>by kernel_rfl)
def eT (p0:aI) (p1:Int×Int) (p2:Int):Option (aI×(Int×Int)):=
 (mA p0).bind fun r0=>
 (xX r0.slots).bind fun a1=>
 (bE r0.heap [(p1.1,p1.2,p2,a1.2)]).bind fun l2=>
 (aO r0.where_ a1.2.1).bind fun _=>
 (rF (a1.1.uses,a1.1.used,a1.1.free,aA .i64 ((Int.ofNat l2.length) -1),l2,cA r0.where_ a1.2.1 (aA .i64 ((Int.ofNat l2.length) -1)))).bind fun a4=>
 some (aI.mk a1.1 a4.2.1 a4.2.2,a1.2)
def aPa:bK:=⟨aC.cons (aM.agg dD) (aC.cons (aM.agg (cI.row kB)) (aC.one (aM.int .i64))),aM.tup (aC.cons (aM.agg dD) (aC.one (aM.agg (cI.row kB)))),fun a=>eT a.1 a.2.1 a.2.2,.frz,false⟩
theorem YY:aK tab 258 aPa:=aK.of aHt (cx:=(pK aG [(149,aAm),(149,OI),(290,aRI)] [(289,QM),(289,V1),(289,aCn)] [] [])) rfl (mL.make ⟨GW,CV,aJi,trivial⟩ ⟨IQ,OM,aAv,trivial⟩ trivial) (fun a=>by kernel_rfl)
abbrev Zt4:=Int×Int×Int×bN×Int×bN×(List Int)×(List Bool)×(List Int)×kJ×(List Int)×bN×bN×Int×Int×Int×Int×Int×bN×Int×bN×(List Int)×(List Bool)×(List Int)×kJ×(List Int)×bN
def cQ (s:Zt4):Option (cL Zt4 (aQ×Int)):=
 match s with
 |(a,b,d,e,f,g,h,i,j,k,l,m,n,o,q,r,t,u,v,w,x,y,z,A,B,C,D)=>
  bif decide (a<(Int.ofNat g.length)) then
   (aO g a).bind fun a0=>
   (qC (aQ.mk (b,d) (Field.mk e) (aV.mk f g) (aI.mk (aS.mk h i j) k l) m) a0.1).bind fun n1=>
   (sE (Field.mk n) a0.2 (b,d)).bind fun a2=>
   bif a2.2 then
    bif decide (0<=n1) then
     (aO m n1).bind fun a3=>
     (tF (aI.mk (aS.mk y z A) B C) a3.2 a2.1).bind fun r4=>
     (aO m n1).bind fun a5=>
     (bE D [a5]).bind fun l6=>
     bif !a2.2 then
      bif decide (0<=n1) then
       (aO m n1).bind fun a7=>
       (kE r4 a7.2).bind fun r8=>
       bif !a2.2 then
        some (.next (aA .i64 (a+1),b,d,e,f,g,h,i,j,k,l,m,n,o,q,r,t,u,v,w,x,r8.slots.uses,r8.slots.used,r8.slots.free,r8.heap,r8.where_,l6))
       else
        bif decide (0<=n1) then
         some (.next (aA .i64 (a+1),b,d,e,f,g,h,i,j,k,l,m,n,o,q,r,t,u,v,w,x,r8.slots.uses,r8.slots.used,r8.slots.free,r8.heap,r8.where_,l6))
        else
         (gQ r8.slots).bind fun b9=>
         bif !b9 then
          some (.done (aQ.mk (0,0) (Field.mk []) (aV.mk 0 []) (aI.mk (aS.mk [] [] []) [] []) [],18))
         else
          (eT r8 a2.1 a0.1).bind fun a10=>
          (bE l6 [(a0.1,a10.2)]).bind fun l11=>
          some (.next (aA .i64 (a+1),b,d,e,f,g,h,i,j,k,l,m,n,o,q,r,t,u,v,w,x,a10.1.slots.uses,a10.1.slots.used,a10.1.slots.free,a10.1.heap,a10.1.where_,l11))
      else
       bif !a2.2 then
        some (.next (aA .i64 (a+1),b,d,e,f,g,h,i,j,k,l,m,n,o,q,r,t,u,v,w,x,r4.slots.uses,r4.slots.used,r4.slots.free,r4.heap,r4.where_,l6))
       else
        bif decide (0<=n1) then
         some (.next (aA .i64 (a+1),b,d,e,f,g,h,i,j,k,l,m,n,o,q,r,t,u,v,w,x,r4.slots.uses,r4.slots.used,r4.slots.free,r4.heap,r4.where_,l6))
        else
         (gQ r4.slots).bind fun b12=>
         bif !b12 then
          some (.done (aQ.mk (0,0) (Field.mk []) (aV.mk 0 []) (aI.mk (aS.mk [] [] []) [] []) [],18))
         else
          (eT r4 a2.1 a0.1).bind fun a13=>
          (bE l6 [(a0.1,a13.2)]).bind fun l14=>
          some (.next (aA .i64 (a+1),b,d,e,f,g,h,i,j,k,l,m,n,o,q,r,t,u,v,w,x,a13.1.slots.uses,a13.1.slots.used,a13.1.slots.free,a13.1.heap,a13.1.where_,l14))
     else
      bif !a2.2 then
       some (.next (aA .i64 (a+1),b,d,e,f,g,h,i,j,k,l,m,n,o,q,r,t,u,v,w,x,r4.slots.uses,r4.slots.used,r4.slots.free,r4.heap,r4.where_,l6))
      else
       bif decide (0<=n1) then
        some (.next (aA .i64 (a+1),b,d,e,f,g,h,i,j,k,l,m,n,o,q,r,t,u,v,w,x,r4.slots.uses,r4.slots.used,r4.slots.free,r4.heap,r4.where_,l6))
       else
        (gQ r4.slots).bind fun b15=>
        bif !b15 then
         some (.done (aQ.mk (0,0) (Field.mk []) (aV.mk 0 []) (aI.mk (aS.mk [] [] []) [] []) [],18))
        else
         (eT r4 a2.1 a0.1).bind fun a16=>
         (bE l6 [(a0.1,a16.2)]).bind fun l17=>
         some (.next (aA .i64 (a+1),b,d,e,f,g,h,i,j,k,l,m,n,o,q,r,t,u,v,w,x,a16.1.slots.uses,a16.1.slots.used,a16.1.slots.free,a16.1.heap,a16.1.where_,l17))
    else
     bif !a2.2 then
      bif decide (0<=n1) then
       (aO m n1).bind fun a18=>
       (kE (aI.mk (aS.mk y z A) B C) a18.2).bind fun r19=>
       bif !a2.2 then
        some (.next (aA .i64 (a+1),b,d,e,f,g,h,i,j,k,l,m,n,o,q,r,t,u,v,w,x,r19.slots.uses,r19.slots.used,r19.slots.free,r19.heap,r19.where_,D))
       else
        bif decide (0<=n1) then
         some (.next (aA .i64 (a+1),b,d,e,f,g,h,i,j,k,l,m,n,o,q,r,t,u,v,w,x,r19.slots.uses,r19.slots.used,r19.slots.free,r19.heap,r19.where_,D))
        else
         (gQ r19.slots).bind fun b20=>
         bif !b20 then
          some (.done (aQ.mk (0,0) (Field.mk []) (aV.mk 0 []) (aI.mk (aS.mk [] [] []) [] []) [],18))
         else
          (eT r19 a2.1 a0.1).bind fun a21=>
          (bE D [(a0.1,a21.2)]).bind fun l22=>
          some (.next (aA .i64 (a+1),b,d,e,f,g,h,i,j,k,l,m,n,o,q,r,t,u,v,w,x,a21.1.slots.uses,a21.1.slots.used,a21.1.slots.free,a21.1.heap,a21.1.where_,l22))
      else
       bif !a2.2 then
        some (.next (aA .i64 (a+1),(b,d,e,f,g,h,i,j,k,l,m,n,o,q,r,t,u,v,w,x,y,z,A,B,C,D)))
       else
        bif decide (0<=n1) then
         some (.next (aA .i64 (a+1),(b,d,e,f,g,h,i,j,k,l,m,n,o,q,r,t,u,v,w,x,y,z,A,B,C,D)))
        else
         (gQ (aS.mk y z A)).bind fun b23=>
         bif !b23 then
          some (.done (aQ.mk (0,0) (Field.mk []) (aV.mk 0 []) (aI.mk (aS.mk [] [] []) [] []) [],18))
         else
          (eT (aI.mk (aS.mk y z A) B C) a2.1 a0.1).bind fun a24=>
          (bE D [(a0.1,a24.2)]).bind fun l25=>
          some (.next (aA .i64 (a+1),b,d,e,f,g,h,i,j,k,l,m,n,o,q,r,t,u,v,w,x,a24.1.slots.uses,a24.1.slots.used,a24.1.slots.free,a24.1.heap,a24.1.where_,l25))
     else
      bif !a2.2 then
       some (.next (aA .i64 (a+1),(b,d,e,f,g,h,i,j,k,l,m,n,o,q,r,t,u,v,w,x,y,z,A,B,C,D)))
      else
       bif decide (0<=n1) then
        some (.next (aA .i64 (a+1),(b,d,e,f,g,h,i,j,k,l,m,n,o,q,r,t,u,v,w,x,y,z,A,B,C,D)))
       else
        (gQ (aS.mk y z A)).bind fun b26=>
        bif !b26 then
         some (.done (aQ.mk (0,0) (Field.mk []) (aV.mk 0 []) (aI.mk (aS.mk [] [] []) [] []) [],18))
        else
         (eT (aI.mk (aS.mk y z A) B C) a2.1 a0.1).bind fun a27=>
         (bE D [(a0.1,a27.2)]).bind fun l28=>
         some (.next (aA .i64 (a+1),b,d,e,f,g,h,i,j,k,l,m,n,o,q,r,t,u,v,w,x,a27.1.slots.uses,a27.1.slots.used,a27.1.slots.free,a27.1.heap,a27.1.where_,l28))
   else
    bif !a2.2 then
     bif decide (0<=n1) then
      (aO m n1).bind fun a29=>
      (kE (aI.mk (aS.mk y z A) B C) a29.2).bind fun r30=>
      bif !a2.2 then
       some (.next (aA .i64 (a+1),b,d,e,f,g,h,i,j,k,l,m,n,o,q,r,t,u,v,w,x,r30.slots.uses,r30.slots.used,r30.slots.free,r30.heap,r30.where_,D))
      else
       bif decide (0<=n1) then
        some (.next (aA .i64 (a+1),b,d,e,f,g,h,i,j,k,l,m,n,o,q,r,t,u,v,w,x,r30.slots.uses,r30.slots.used,r30.slots.free,r30.heap,r30.where_,D))
       else
        (gQ r30.slots).bind fun b31=>
        bif !b31 then
         some (.done (aQ.mk (0,0) (Field.mk []) (aV.mk 0 []) (aI.mk (aS.mk [] [] []) [] []) [],18))
        else
         (eT r30 a2.1 a0.1).bind fun a32=>
         (bE D [(a0.1,a32.2)]).bind fun l33=>
         some (.next (aA .i64 (a+1),b,d,e,f,g,h,i,j,k,l,m,n,o,q,r,t,u,v,w,x,a32.1.slots.uses,a32.1.slots.used,a32.1.slots.free,a32.1.heap,a32.1.where_,l33))
     else
      bif !a2.2 then
       some (.next (aA .i64 (a+1),(b,d,e,f,g,h,i,j,k,l,m,n,o,q,r,t,u,v,w,x,y,z,A,B,C,D)))
      else
       bif decide (0<=n1) then
        some (.next (aA .i64 (a+1),(b,d,e,f,g,h,i,j,k,l,m,n,o,q,r,t,u,v,w,x,y,z,A,B,C,D)))
       else
        (gQ (aS.mk y z A)).bind fun b34=>
        bif !b34 then
         some (.done (aQ.mk (0,0) (Field.mk []) (aV.mk 0 []) (aI.mk (aS.mk [] [] []) [] []) [],18))
        else
         (eT (aI.mk (aS.mk y z A) B C) a2.1 a0.1).bind fun a35=>
         (bE D [(a0.1,a35.2)]).bind fun l36=>
         some (.next (aA .i64 (a+1),b,d,e,f,g,h,i,j,k,l,m,n,o,q,r,t,u,v,w,x,a35.1.slots.uses,a35.1.slots.used,a35.1.slots.free,a35.1.heap,a35.1.where_,l36))
    else
     bif !a2.2 then
      some (.next (aA .i64 (a+1),(b,d,e,f,g,h,i,j,k,l,m,n,o,q,r,t,u,v,w,x,y,z,A,B,C,D)))
     else
      bif decide (0<=n1) then
       some (.next (aA .i64 (a+1),(b,d,e,f,g,h,i,j,k,l,m,n,o,q,r,t,u,v,w,x,y,z,A,B,C,D)))
      else
       (gQ (aS.mk y z A)).bind fun b37=>
       bif !b37 then
        some (.done (aQ.mk (0,0) (Field.mk []) (aV.mk 0 []) (aI.mk (aS.mk [] [] []) [] []) [],18))
       else
        (eT (aI.mk (aS.mk y z A) B C) a2.1 a0.1).bind fun a38=>
        (bE D [(a0.1,a38.2)]).bind fun l39=>
        some (.next (aA .i64 (a+1),b,d,e,f,g,h,i,j,k,l,m,n,o,q,r,t,u,v,w,x,a38.1.slots.uses,a38.1.slots.used,a38.1.slots.free,a38.1.heap,a38.1.where_,l39))
  else
   some (.done (aQ.mk (t,u) (Field.mk v) (aV.mk w x) (aI.mk (aS.mk y z A) B C) D,0))
def mY (p0:aQ) (p1:Field):Option (aQ×Int):=
 (iZ p0).bind fun r0=>
 (lZ p1).bind fun r1=>
 aH cQ (0,p0.now.1,p0.now.2,p0.field.points,p0.certs.next_,p0.certs.list,p0.agenda.slots.uses,p0.agenda.slots.used,p0.agenda.slots.free,p0.agenda.heap,p0.agenda.where_,p0.due,p1.points,0,0,0,r0.now.1,r0.now.2,r1.points,r0.certs.next_,r0.certs.list,r0.agenda.slots.uses,r0.agenda.slots.used,r0.agenda.slots.free,r0.agenda.heap,r0.agenda.where_,[])
def aRL:bK:=⟨aC.cons (aM.agg bU) (aC.one (aM.agg bT)),aM.tup (aC.cons (aM.agg bU) (aC.one (aM.int .i64))),fun a=>mY a.1 a.2,.frz,false⟩
theorem aJj:aK tab 204 aRL:=Oc aGX rfl aG [(89,c89),(89,VP),(147,aBY),(147,SU),(254,aO7),(131,aI8),(256,aRH),(255,aO8),(257,aO9),(258,aPa)] ⟨IM,DS,J7,GU,YV,QK,aJh,YW,YX,YY,trivial⟩ fun a=>by kernel_rfl
def D0 (p0:aV) (p1:Int×Int):Option (aV×Int×Int):=
 (uI p0).bind fun n0=>
 bif n0 !=0 then
  some (aV.mk 0 [],0,8)
 else
  (wP p1).bind fun b1=>
  bif !b1 then
   some (aV.mk 0 [],0,8)
  else
   (vU p0 p1).bind fun b2=>
   bif b2 then
    some (aV.mk 0 [],0,14)
   else
    bif (Int.ofNat p0.list.length)==200 then
     some (aV.mk 0 [],0,18)
    else
     bif p0.next_==1000000 then
      some (aV.mk 0 [],0,18)
     else
      (pN p0).bind fun r3=>
      (bE r3.list [(p0.next_,p1)]).bind fun l4=>
      some (aV.mk (aA .i64 (r3.next_+1)) l4,p0.next_,0)
def aRM:bK:=⟨aC.cons (aM.agg gR) (aC.one (aM.agg (cI.row kB))),aM.tup (aC.cons (aM.agg gR) (aC.cons (aM.int .i64) (aC.one (aM.int .i64)))),fun a=>D0 a.1 a.2,.frz,false⟩
theorem aJk:aK tab 259 aRM:=Oc aHu rfl aG [(128,aOZ),(66,c66),(133,aJc),(148,aH4),(148,YA)] ⟨YS,aCb,QL,P9,L9,trivial⟩ fun a=>by kernel_rfl
def lV (p0:aQ) (p1:Int×Int):Option (aQ×Int×Int):=
 (D0 p0.certs p1).bind fun a0=>
 bif a0.2.2 !=0 then
  some (aQ.mk (0,0) (Field.mk []) (aV.mk 0 []) (aI.mk (aS.mk [] [] []) [] []) [],0,a0.2.2)
 else
  (iZ p0).bind fun r1=>
  (sE p0.field p1 p0.now).bind fun a2=>
  bif !a2.2 then
   some (aQ.mk r1.now r1.field a0.1 r1.agenda r1.due,a0.2.1,0)
  else
   (gQ p0.agenda.slots).bind fun b3=>
   bif !b3 then
    some (aQ.mk (0,0) (Field.mk []) (aV.mk 0 []) (aI.mk (aS.mk [] [] []) [] []) [],0,18)
   else
    (eT p0.agenda a2.1 a0.2.1).bind fun a4=>
    (bE r1.due [(a0.2.1,a4.2)]).bind fun l5=>
    some (aQ.mk r1.now r1.field a0.1 a4.1 l5,a0.2.1,0)
def aRN:bK:=⟨aC.cons (aM.agg bU) (aC.one (aM.agg (cI.row kB))),aM.tup (aC.cons (aM.agg bU) (aC.cons (aM.int .i64) (aC.one (aM.int .i64)))),fun a=>lV a.1 a.2,.frz,false⟩
theorem aJl:aK tab 205 aRN:=Oc aGY rfl aG [(259,aRM),(89,c89),(89,VP),(131,aI8),(257,aO9),(258,aPa)] ⟨aJk,IM,DS,QK,YX,YY,trivial⟩ fun a=>by kernel_rfl
abbrev aRO:=rW×Int×Int×Int×bN×Int×bN×(List Int)×(List Bool)×(List Int)×kJ×(List Int)×bN×bN×Int×Int×Int×Int×Int×bN×Int×bN×(List Int)×(List Bool)×(List Int)×kJ×(List Int)×bN
abbrev Zt2:=cL aRO (aQ×Int)
abbrev aRP:=rW×Int×Int×Int×Int×Int×Int×bN×Int×bN×(List Int)×(List Bool)×(List Int)×kJ×(List Int)×bN
def dY (s:aRP):Option (cL aRP Zt2):=
 bif decide (s.2.1<(Int.ofNat s.1.length)) then
  (aO s.1 s.2.1).bind fun a0=>
  (vU (aV.mk s.2.2.2.2.2.2.2.2.1 s.2.2.2.2.2.2.2.2.2.1) a0).bind fun b1=>
  bif b1 then
   some (.next (s.1,aA .i64 (s.2.1+1),s.2.2))
  else
   (aO s.1 s.2.1).bind fun a2=>
   (lV (aQ.mk (s.2.2.2.2.2.1,s.2.2.2.2.2.2.1) (Field.mk s.2.2.2.2.2.2.2.1) (aV.mk s.2.2.2.2.2.2.2.2.1 s.2.2.2.2.2.2.2.2.2.1) (aI.mk (aS.mk s.2.2.2.2.2.2.2.2.2.2.1 s.2.2.2.2.2.2.2.2.2.2.2.1 s.2.2.2.2.2.2.2.2.2.2.2.2.1) s.2.2.2.2.2.2.2.2.2.2.2.2.2.1 s.2.2.2.2.2.2.2.2.2.2.2.2.2.2.1) s.2.2.2.2.2.2.2.2.2.2.2.2.2.2.2) a2).bind fun a3=>
   bif a3.2.2 !=0 then
    some (.done (.done (aQ.mk (0,0) (Field.mk []) (aV.mk 0 []) (aI.mk (aS.mk [] [] []) [] []) [],a3.2.2)))
   else
    some (.next (s.1,aA .i64 (s.2.1+1),s.2.2.1,s.2.2.2.1,s.2.2.2.2.1,a3.1.now.1,a3.1.now.2,a3.1.field.points,a3.1.certs.next_,a3.1.certs.list,a3.1.agenda.slots.uses,a3.1.agenda.slots.used,a3.1.agenda.slots.free,a3.1.agenda.heap,a3.1.agenda.where_,a3.1.due))
 else
  some (.done (.done (aQ.mk (s.2.2.2.2.2.1,s.2.2.2.2.2.2.1) (Field.mk s.2.2.2.2.2.2.2.1) (aV.mk s.2.2.2.2.2.2.2.2.1 s.2.2.2.2.2.2.2.2.2.1) (aI.mk (aS.mk s.2.2.2.2.2.2.2.2.2.2.1 s.2.2.2.2.2.2.2.2.2.2.2.1 s.2.2.2.2.2.2.2.2.2.2.2.2.1) s.2.2.2.2.2.2.2.2.2.2.2.2.2.1 s.2.2.2.2.2.2.2.2.2.2.2.2.2.2.1) s.2.2.2.2.2.2.2.2.2.2.2.2.2.2.2,0)))
def dM (s:aRO):Option Zt2:=
 match s with
 |(a,b,d,e,f,g,h,i,j,k,l,m,n,o,q,r,t,u,v,w,x,y,z,A,B,C,D,E)=>
  bif decide (b<(Int.ofNat h.length)) then
   (aO h b).bind fun a0=>
   (GZ a a0.2).bind fun b1=>
   bif !b1 then
    (aO h b).bind fun a2=>
    (wS (aQ.mk (u,v) (Field.mk w) (aV.mk x y) (aI.mk (aS.mk z A B) C D) E) a2.1).bind fun r3=>
    some (.next (a,aA .i64 (b+1),d,e,f,g,h,i,j,k,l,m,n,o,q,r,t,r3.now.1,r3.now.2,r3.field.points,r3.certs.next_,r3.certs.list,r3.agenda.slots.uses,r3.agenda.slots.used,r3.agenda.slots.free,r3.agenda.heap,r3.agenda.where_,r3.due))
   else
    some (.next (a,aA .i64 (b+1),(d,e,f,g,h,i,j,k,l,m,n,o,q,r,t,u,v,w,x,y,z,A,B,C,D,E)))
  else
   (wT (Field.mk w) (Field.mk o)).bind fun b4=>
   bif !b4 then
    (mY (aQ.mk (u,v) (Field.mk w) (aV.mk x y) (aI.mk (aS.mk z A B) C D) E) (Field.mk o)).bind fun a5=>
    bif a5.2 !=0 then
     some (.done (aQ.mk (0,0) (Field.mk []) (aV.mk 0 []) (aI.mk (aS.mk [] [] []) [] []) [],a5.2))
    else
     aH dY (a,0,q,r,t,a5.1.now.1,a5.1.now.2,a5.1.field.points,a5.1.certs.next_,a5.1.certs.list,a5.1.agenda.slots.uses,a5.1.agenda.slots.used,a5.1.agenda.slots.free,a5.1.agenda.heap,a5.1.agenda.where_,a5.1.due)
   else
    aH dY (a,0,(q,r,t,u,v,w,x,y,z,A,B,C,D,E))
def mZ (p0:aQ) (p1:Field) (p2:List (Int×Int)):Option (aQ×Int):=
 (iZ p0).bind fun r0=>
 aH dM (p2,0,p0.now.1,p0.now.2,p0.field.points,p0.certs.next_,p0.certs.list,p0.agenda.slots.uses,p0.agenda.slots.used,p0.agenda.slots.free,p0.agenda.heap,p0.agenda.where_,p0.due,p1.points,0,0,0,r0.now.1,r0.now.2,r0.field.points,r0.certs.next_,r0.certs.list,r0.agenda.slots.uses,r0.agenda.slots.used,r0.agenda.slots.free,r0.agenda.heap,r0.agenda.where_,r0.due)
def aRQ:bK:=⟨aC.cons (aM.agg bU) (aC.cons (aM.agg bT) (aC.one (aM.sl kB))),aM.tup (aC.cons (aM.agg bU) (aC.one (aM.int .i64))),fun a=>mZ a.1 a.2.1 a.2.2,.frz,false⟩
theorem aJm:aK tab 151 aRQ:=Oc aGm rfl aG [(89,c89),(89,VP),(35,c35),(203,aRG),(45,c45),(204,aRL),(133,aJc),(205,aRN)] ⟨IM,DS,aO6,aJg,aCk,aJj,QL,aJl,trivial⟩ fun a=>by kernel_rfl
def nA (p0:aQ) (p1:Field):Option (bO×Int):=
 (sG p1 p0.now).bind fun r0=>
 (C0 r0).bind fun l1=>
 (mZ p0 p1 l1).bind fun a2=>
 bif a2.2 !=0 then
  some (bO.mk (aQ.mk (0,0) (Field.mk []) (aV.mk 0 []) (aI.mk (aS.mk [] [] []) [] []) []) (mM.mk 0 []),a2.2)
 else
  some (bO.mk a2.1 r0,0)
def c94:bK:=⟨aC.cons (aM.agg bU) (aC.one (aM.agg bT)),aM.tup (aC.cons (aM.agg dS) (aC.one (aM.int .i64))),fun a=>nA a.1 a.2,.frz,false⟩
theorem aCo:aK tab 94 c94:=Oc aOj rfl aG [(78,c78),(80,c80),(151,aRQ)] ⟨aCg,aCi,aJm,trivial⟩ fun a=>by kernel_rfl
def vX (p0:bO) (p1:Int×Int×Int):Option (bO×Int):=
 (nT p0).bind fun n0=>
 bif n0 !=0 then
  (nT p0).bind fun n1=>
  some (bO.mk (aQ.mk (0,0) (Field.mk []) (aV.mk 0 []) (aI.mk (aS.mk [] [] []) [] []) []) (mM.mk 0 []),n1)
 else
  (mX p0.clock.field p1).bind fun a2=>
  bif a2.2 !=0 then
   some (bO.mk (aQ.mk (0,0) (Field.mk []) (aV.mk 0 []) (aI.mk (aS.mk [] [] []) [] []) []) (mM.mk 0 []),a2.2)
  else
   (nA p0.clock a2.1).bind fun a3=>
   some a3
def c39:bK:=⟨aC.cons (aM.agg dS) (aC.one (aM.agg (cI.row dO))),aM.tup (aC.cons (aM.agg dS) (aC.one (aM.int .i64))),fun a=>vX a.1 a.2,.frz,false⟩
theorem aPb:aK tab 39 c39:=Oc aNQ rfl aG [(27,c27),(93,c93),(94,c94)] ⟨aCj,aO5,aCo,trivial⟩ fun a=>by kernel_rfl
def iQ (p0:Field) (p1:Int×Int×Int):Option (Field×Int):=
 (dE p0).bind fun n0=>
 bif n0 !=0 then
  some (Field.mk [],n0)
 else
  (jV p1).bind fun n1=>
  bif n1 !=0 then
   some (Field.mk [],n1)
  else
   (lR p0 p1.1).bind fun a2=>
   bif a2.2 !=0 then
    some (Field.mk [],a2.2)
   else
    (cB p0.points).bind fun l3=>
    (aO l3 a2.1).bind fun _=>
    some (Field.mk (cA l3 a2.1 p1),0)
def c48:bK:=⟨aC.cons (aM.agg bT) (aC.one (aM.agg (cI.row dO))),aM.tup (aC.cons (aM.agg bT) (aC.one (aM.int .i64))),fun a=>iQ a.1 a.2,.frz,false⟩
theorem aPc:aK tab 48 c48:=Oc aNV rfl aG [(99,c99),(100,aB1),(104,aOR),(103,bK.clone dO)] ⟨FK,J9,YK,wH,trivial⟩ fun a=>by kernel_rfl
def rG (p0:Field) (p1:Int×Int×Int):Option (Field×Int):=
 (iQ p0 p1).bind fun a0=>
 some a0
def c95:bK:=⟨aC.cons (aM.agg bT) (aC.one (aM.ref (cI.row dO))),aM.tup (aC.cons (aM.agg bT) (aC.one (aM.int .i64))),fun a=>rG a.1 a.2,.frz,false⟩
theorem aPd:aK tab 95 c95:=Oc aOk rfl aG [(48,c48)] ⟨aPc,trivial⟩ fun a=>by kernel_rfl
def dU (p0:bO) (p1:(Int×Int×Int)):Option (bO×Int):=
 (qV p0).bind fun n0=>
 bif n0 !=0 then
  some (bO.mk (aQ.mk (0,0) (Field.mk []) (aV.mk 0 []) (aI.mk (aS.mk [] [] []) [] []) []) (mM.mk 0 []),n0)
 else
  (rG p0.clock.field p1).bind fun a1=>
  bif a1.2 !=0 then
   some (bO.mk (aQ.mk (0,0) (Field.mk []) (aV.mk 0 []) (aI.mk (aS.mk [] [] []) [] []) []) (mM.mk 0 []),a1.2)
  else
   (oI a1.1 p0.clock.now).bind fun a2=>
   (jZ a2.1).bind fun l3=>
   (iU p0.clock a1.1 l3).bind fun a4=>
   bif a4.2 !=0 then
    some (bO.mk (aQ.mk (0,0) (Field.mk []) (aV.mk 0 []) (aI.mk (aS.mk [] [] []) [] []) []) (mM.mk 0 []),a4.2)
   else
    some (bO.mk a4.1 a2.1,0)
def aCp:bK:=⟨aC.cons (aM.agg dS) (aC.one (aM.clo 95 (aC.one (aM.ref (cI.row dO))))),aM.tup (aC.cons (aM.agg dS) (aC.one (aM.int .i64))),fun a=>dU a.1 a.2,.frz,false⟩
theorem aAw:aK tab 91 aCp:=Oc aBT rfl aG [(57,c57),(95,c95),(29,c29),(150,aOQ),(108,aOX)] ⟨aB3,aPd,VS,YJ,YR,trivial⟩ fun a=>by kernel_rfl
def oL (p0:bO) (p1:Int×Int×Int):Option (bO×Int):=
 (dU p0 p1).bind fun a0=>
 some a0
def c40:bK:=⟨aC.cons (aM.agg dS) (aC.one (aM.agg (cI.row dO))),aM.tup (aC.cons (aM.agg dS) (aC.one (aM.int .i64))),fun a=>oL a.1 a.2,.frz,false⟩
theorem aPe:aK tab 40 c40:=Oc aNR rfl aG [(91,aCp)] ⟨aAw,trivial⟩ fun a=>by kernel_rfl
def iR (p0:Field) (p1:Int×Int×Int):Option (Field×Int):=
 (lT p0).bind fun n0=>
 bif n0 !=0 then
  some (Field.mk [],n0)
 else
  (pY p1).bind fun n1=>
  bif n1 !=0 then
   some (Field.mk [],8)
  else
   (iK p0 p1.1).bind fun n2=>
   bif decide (n2<0) then
    some (Field.mk [],6)
   else
    (lZ p0).bind fun r3=>
    (aO r3.points n2).bind fun _=>
    some (Field.mk (cA r3.points n2 p1),0)
def c96:bK:=⟨aC.cons (aM.agg bT) (aC.one (aM.agg (cI.row dO))),aM.tup (aC.cons (aM.agg bT) (aC.one (aM.int .i64))),fun a=>iR a.1 a.2,.frz,false⟩
theorem aPf:aK tab 96 c96:=Oc aOl rfl aG [(12,c12),(52,c52),(21,c21),(147,aBY),(147,SU)] ⟨VX,VW,MB,J7,GU,trivial⟩ fun a=>by kernel_rfl
def oM (p0:bO) (p1:Int×Int×Int):Option (bO×Int):=
 (nT p0).bind fun n0=>
 bif n0 !=0 then
  (nT p0).bind fun n1=>
  some (bO.mk (aQ.mk (0,0) (Field.mk []) (aV.mk 0 []) (aI.mk (aS.mk [] [] []) [] []) []) (mM.mk 0 []),n1)
 else
  (iR p0.clock.field p1).bind fun a2=>
  bif a2.2 !=0 then
   some (bO.mk (aQ.mk (0,0) (Field.mk []) (aV.mk 0 []) (aI.mk (aS.mk [] [] []) [] []) []) (mM.mk 0 []),a2.2)
  else
   (nA p0.clock a2.1).bind fun a3=>
   some a3
def c41:bK:=⟨aC.cons (aM.agg dS) (aC.one (aM.agg (cI.row dO))),aM.tup (aC.cons (aM.agg dS) (aC.one (aM.int .i64))),fun a=>oM a.1 a.2,.frz,false⟩
theorem aPg:aK tab 41 c41:=Oc aNS rfl aG [(27,c27),(96,c96),(94,c94)] ⟨aCj,aPf,aCo,trivial⟩ fun a=>by kernel_rfl
def tG (s:aOt):Option aQC:=
 bif decide (s.1<(Int.ofNat s.2.2.1.length)) then
  (aO s.2.2.1 s.1).bind fun a0=>
  (aO s.2.2.2.2 s.1).bind fun a1=>
  bif !((a0.1==a1.1)&&((a0.2.1==a1.2.1)&&(a0.2.2==a1.2.2))) then
   some (.done false)
  else
   some (.next (aA .i64 (s.1+1),s.2))
 else
  some (.done true)
def A5 (p0:aV) (p1:aV):Option Bool:=
 bif p0.next_ !=p1.next_ then
  some false
 else
  bif (Int.ofNat p0.list.length) !=(Int.ofNat p1.list.length) then
   some false
  else
   aH tG (0,p0.next_,p0.list,p1.next_,p1.list)
def aRR:bK:=⟨aC.cons (aM.agg gR) (aC.one (aM.agg gR)),aM.bool,fun a=>A5 a.1 a.2,.pure,false⟩
theorem aJn:aK tab 144 aRR:=Oc aGi rfl aG [] trivial fun a=>by kernel_rfl
def nE (s:((List Int)×(List Int)×Int)):Option (cL ((List Int)×(List Int)×Int) Bool):=
 bif decide (s.2.2<(Int.ofNat s.1.length)) then
  (aO s.1 s.2.2).bind fun n0=>
  (aO s.2.1 s.2.2).bind fun n1=>
  bif n0 !=n1 then
   some (.done false)
  else
   some (.next (s.1,s.2.1,aA .i64 (s.2.2+1)))
 else
  some (.done true)
def lH (p0:List Int) (p1:List Int):Option Bool:=
 bif (Int.ofNat p0.length) !=(Int.ofNat p1.length) then
  some false
 else
  aH nE (p0,p1,0)
def aPh:bK:=⟨aC.cons (aM.sl ki) (aC.one (aM.sl ki)),aM.bool,fun a=>lH a.1 a.2,.pure,false⟩
theorem YZ:aK tab 200 aPh:=Oc aGU rfl aG [] trivial fun a=>by kernel_rfl
def mE (s:((List Bool)×(List Bool)×Int)):Option (cL ((List Bool)×(List Bool)×Int) Bool):=
 bif decide (s.2.2<(Int.ofNat s.1.length)) then
  (aO s.1 s.2.2).bind fun b0=>
  (aO s.2.1 s.2.2).bind fun b1=>
  bif !(b0==b1) then
   some (.done false)
  else
   some (.next (s.1,s.2.1,aA .i64 (s.2.2+1)))
 else
  some (.done true)
def pF (p0:List Bool) (p1:List Bool):Option Bool:=
 bif (Int.ofNat p0.length) !=(Int.ofNat p1.length) then
  some false
 else
  aH mE (p0,p1,0)
def aRS:bK:=⟨aC.cons (aM.sl kb) (aC.one (aM.sl kb)),aM.bool,fun a=>pF a.1 a.2,.pure,false⟩
theorem aJo:aK tab 252 aRS:=Oc aHn rfl aG [] trivial fun a=>by kernel_rfl
def FP (p0:aS) (p1:aS):Option Bool:=
 (lH p0.uses p1.uses).bind fun b0=>
 bif b0 then
  (pF p0.used p1.used).bind fun b1=>
  bif b1 then
   (lH p0.free p1.free).bind fun b2=>
   some b2
  else
   some false
 else
  some false
def aRT:bK:=⟨aC.cons (aM.agg gJ) (aC.one (aM.agg gJ)),aM.bool,fun a=>FP a.1 a.2,.pure,false⟩
theorem aJp:aK tab 199 aRT:=Oc aGT rfl aG [(200,aPh),(252,aRS)] ⟨YZ,aJo,trivial⟩ fun a=>by kernel_rfl
abbrev aRU:=Int×(List Int)×(List Bool)×(List Int)×kJ×(List Int)×(List Int)×(List Bool)×(List Int)×kJ×(List Int)
def tH (s:aRU):Option (cL aRU Bool):=
 bif decide (s.1<(Int.ofNat s.2.2.2.2.1.length)) then
  (aO s.2.2.2.2.1 s.1).bind fun a0=>
  (aO s.2.2.2.2.2.2.2.2.2.1 s.1).bind fun a1=>
  bif !((a0.1==a1.1)&&((a0.2.1==a1.2.1)&&((a0.2.2.1==a1.2.2.1)&&((a0.2.2.2.1==a1.2.2.2.1)&&(a0.2.2.2.2==a1.2.2.2.2))))) then
   some (.done false)
  else
   some (.next (aA .i64 (s.1+1),s.2))
 else
  some (.done true)
def A6 (p0:aI) (p1:aI):Option Bool:=
 (FP p0.slots p1.slots).bind fun b0=>
 bif !b0 then
  some false
 else
  (lH p0.where_ p1.where_).bind fun b1=>
  bif !b1 then
   some false
  else
   bif (Int.ofNat p0.heap.length) !=(Int.ofNat p1.heap.length) then
    some false
   else
    aH tH (0,p0.slots.uses,p0.slots.used,p0.slots.free,p0.heap,p0.where_,p1.slots.uses,p1.slots.used,p1.slots.free,p1.heap,p1.where_)
def aRV:bK:=⟨aC.cons (aM.agg dD) (aC.one (aM.agg dD)),aM.bool,fun a=>A6 a.1 a.2,.pure,false⟩
theorem aJq:aK tab 145 aRV:=Oc aGj rfl aG [(199,aRT),(200,aPh)] ⟨aJp,YZ,trivial⟩ fun a=>by kernel_rfl
abbrev Zt5:=Int×Int×Int×bN×Int×bN×(List Int)×(List Bool)×(List Int)×kJ×(List Int)×bN×Int×Int×bN×Int×bN×(List Int)×(List Bool)×(List Int)×kJ×(List Int)×bN
def tI (s:Zt5):Option (cL Zt5 Bool):=
 bif decide (s.1<(Int.ofNat s.2.2.2.2.2.2.2.2.2.2.2.1.length)) then
  (aO s.2.2.2.2.2.2.2.2.2.2.2.1 s.1).bind fun a0=>
  (aO s.2.2.2.2.2.2.2.2.2.2.2.2.2.2.2.2.2.2.2.2.2.2 s.1).bind fun a1=>
  bif !((a0.1==a1.1)&&((a0.2.1==a1.2.1)&&(a0.2.2==a1.2.2))) then
   some (.done false)
  else
   some (.next (aA .i64 (s.1+1),s.2))
 else
  some (.done true)
def A7 (p0:aQ) (p1:aQ):Option Bool:=
 bif !((p0.now.1==p1.now.1)&&(p0.now.2==p1.now.2)) then
  some false
 else
  (wT p0.field p1.field).bind fun b0=>
  bif !b0 then
   some false
  else
   (A5 p0.certs p1.certs).bind fun b1=>
   bif !b1 then
    some false
   else
    (A6 p0.agenda p1.agenda).bind fun b2=>
    bif !b2 then
     some false
    else
     bif (Int.ofNat p0.due.length) !=(Int.ofNat p1.due.length) then
      some false
     else
      aH tI (0,p0.now.1,p0.now.2,p0.field.points,p0.certs.next_,p0.certs.list,p0.agenda.slots.uses,p0.agenda.slots.used,p0.agenda.slots.free,p0.agenda.heap,p0.agenda.where_,p0.due,p1.now.1,p1.now.2,p1.field.points,p1.certs.next_,p1.certs.list,p1.agenda.slots.uses,p1.agenda.slots.used,p1.agenda.slots.free,p1.agenda.heap,p1.agenda.where_,p1.due)
def c86:bK:=⟨aC.cons (aM.agg bU) (aC.one (aM.agg bU)),aM.bool,fun a=>A7 a.1 a.2,.pure,false⟩
theorem aPi:aK tab 86 c86:=Oc aOe rfl aG [(45,c45),(144,aRR),(145,aRV)] ⟨aCk,aJn,aJq,trivial⟩ fun a=>by kernel_rfl
def sH (p0:bO) (p1:bO):Option Bool:=
 (A7 p0.clock p1.clock).bind fun b0=>
 bif b0 then
  (qA p0.tree p1.tree).bind fun b1=>
  some b1
 else
  some false
def c33:bK:=⟨aC.cons (aM.agg dS) (aC.one (aM.agg dS)),aM.bool,fun a=>sH a.1 a.2,.pure,false⟩
theorem aPj:aK tab 33 c33:=Oc aNM rfl aG [(86,c86),(30,c30)] ⟨aPi,aCh,trivial⟩ fun a=>by kernel_rfl
def uW (p0:bO) (p1:Int×Int×Int) (p2:Int×Int×Int):Option Bool:=
 (uB p0).bind fun b0=>
 bif b0 then
  some true
 else
  (wJ p0).bind fun r1=>
  (vS r1 p1).bind fun a2=>
  (vX p0 p1).bind fun a3=>
  (oL r1 p2).bind fun a4=>
  (oM p0 p2).bind fun a5=>
  (sH a2.1 a3.1).bind fun b6=>
  bif b6 then
   bif a2.2==a3.2 then
    (sH a4.1 a5.1).bind fun b7=>
    bif b7 then
     bif a4.2==a5.2 then
      (sH r1 p0).bind fun b8=>
      some b8
     else
      some false
    else
     some false
   else
    some false
  else
   some false
def c6:bK:=⟨aC.cons (aM.agg dS) (aC.cons (aM.agg (cI.row dO)) (aC.one (aM.agg (cI.row dO)))),aM.bool,fun a=>uW a.1 a.2.1 a.2.2,.pure,false⟩
theorem aRW:aK tab 6 c6:=Oc aKh rfl aG [(36,c36),(37,c37),(37,aQG),(38,c38),(39,c39),(40,c40),(41,c41),(33,c33)] ⟨aOz,aOC,aH5,aOY,aPb,aPe,aPg,aPj,trivial⟩ fun a=>by kernel_rfl
end
end
end Go.Proofs.YthljmpcakagceaaGreat
