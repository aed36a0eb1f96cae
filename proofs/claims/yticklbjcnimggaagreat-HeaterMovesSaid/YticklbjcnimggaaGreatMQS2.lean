/- Plain functions for what the functions of the seat compute. Printed by a program. -/
import Derived.Test.YticklbjcnimggaaGreatMVm3
import Derived.Test.YticklbjcnimggaaGreatMQXT
import Derived.Test.YticklbjcnimggaaGreatMQS1
set_option maxRecDepth 100000
namespace Go.Proofs.YticklbjcnimggaaGreat
open Go.Vm
noncomputable section
def kE (c0:aHE) (s:aHF):Option (cL aHF MY):=
 bif decide ((Int.ofNat s.2.2.2.2.2.2.1)<=(aA .i64 ((aA .i64 (2*s.1))+1))) then
  bif s.2.1.length==c0.2.2.2.2.2.2.1.length then
   bif s.2.2.1.length==c0.2.2.2.2.2.2.2.length then
    some (.done (s.2.1,s.2.2.1))
   else
    none
  else
   none
 else
  bif decide ((aA .i64 ((aA .i64 ((aA .i64 (2*s.1))+1))+1))<(Int.ofNat s.2.2.2.2.2.2.1)) then
   (aQ (s.2.1.take s.2.2.2.2.2.2.1) (aA .i64 ((aA .i64 ((aA .i64 (2*s.1))+1))+1))).bind fun a0=>
   (aQ (s.2.1.take s.2.2.2.2.2.2.1) (aA .i64 ((aA .i64 (2*s.1))+1))).bind fun a1=>
   (eC a0 a1).bind fun b2=>
   bif b2 then
    (aQ (s.2.1.take s.2.2.2.2.2.2.1) (aA .i64 ((aA .i64 ((aA .i64 (2*s.1))+1))+1))).bind fun a3=>
    (aQ (s.2.1.take s.2.2.2.2.2.2.1) s.1).bind fun a4=>
    (eC a3 a4).bind fun b5=>
    bif !b5 then
     bif s.2.1.length==c0.2.2.2.2.2.2.1.length then
      bif s.2.2.1.length==c0.2.2.2.2.2.2.2.length then
       some (.done (s.2.1,s.2.2.1))
      else
       none
     else
      none
    else
     (gM (s.2.2.2.1,s.2.2.2.2.1,s.2.2.2.2.2.1,s.2.2.2.2.2.2.1,s.2.2.2.2.2.2.2,s.1,aA .i64 ((aA .i64 ((aA .i64 (2*s.1))+1))+1),s.2.1,s.2.2.1)).bind fun a6=>
     some (.next (aA .i64 ((aA .i64 ((aA .i64 (2*s.1))+1))+1),a6.1,a6.2,s.2.2.2))
   else
    (aQ (s.2.1.take s.2.2.2.2.2.2.1) (aA .i64 ((aA .i64 (2*s.1))+1))).bind fun a7=>
    (aQ (s.2.1.take s.2.2.2.2.2.2.1) s.1).bind fun a8=>
    (eC a7 a8).bind fun b9=>
    bif !b9 then
     bif s.2.1.length==c0.2.2.2.2.2.2.1.length then
      bif s.2.2.1.length==c0.2.2.2.2.2.2.2.length then
       some (.done (s.2.1,s.2.2.1))
      else
       none
     else
      none
    else
     (gM (s.2.2.2.1,s.2.2.2.2.1,s.2.2.2.2.2.1,s.2.2.2.2.2.2.1,s.2.2.2.2.2.2.2,s.1,aA .i64 ((aA .i64 (2*s.1))+1),s.2.1,s.2.2.1)).bind fun a10=>
     some (.next (aA .i64 ((aA .i64 (2*s.1))+1),a10.1,a10.2,s.2.2.2))
  else
   (aQ (s.2.1.take s.2.2.2.2.2.2.1) (aA .i64 ((aA .i64 (2*s.1))+1))).bind fun a11=>
   (aQ (s.2.1.take s.2.2.2.2.2.2.1) s.1).bind fun a12=>
   (eC a11 a12).bind fun b13=>
   bif !b13 then
    bif s.2.1.length==c0.2.2.2.2.2.2.1.length then
     bif s.2.2.1.length==c0.2.2.2.2.2.2.2.length then
      some (.done (s.2.1,s.2.2.1))
     else
      none
    else
     none
   else
    (gM (s.2.2.2.1,s.2.2.2.2.1,s.2.2.2.2.2.1,s.2.2.2.2.2.2.1,s.2.2.2.2.2.2.2,s.1,aA .i64 ((aA .i64 (2*s.1))+1),s.2.1,s.2.2.1)).bind fun a14=>
    some (.next (aA .i64 ((aA .i64 (2*s.1))+1),a14.1,a14.2,s.2.2.2))
def kV (a:aHE):Option MY:=
 aI (kE a) (a.2.2.2.2.2.1,a.2.2.2.2.2.2.1,a.2.2.2.2.2.2.2,a.1,a.2.1,a.2.2.1,a.2.2.2.1,a.2.2.2.2.1)
def U1:dW:=⟨[.l [.i .i64],.l [.b],.l [.i .i64],.n,.n,.i,.l [.i .i64,.i .i64,.i .i64,.i .i64,.i .i64],.l [.i .i64]],[.agg [.sl [.i .i64] [],.sl [.b] [],.sl [.i .i64] [],.pre 0 0 0 false,.own 1 false],.int .i64 0],[.arr [.i .i64,.i .i64,.i .i64,.i .i64,.i .i64] [],.arr [.i .i64] []],[.l [.i .i64,.i .i64,.i .i64,.i .i64,.i .i64],.l [.i .i64]],.tup [],[.arr [.i .i64,.i .i64,.i .i64,.i .i64,.i .i64] [],.arr [.i .i64] []],fun a=>kV a⟩
theorem NW:lC aX 200 U1:=lC.of WY (wd:=false) (cx:=(pW aG [(151,U0)] [(198,E2),(198,E3)] [] [])) (mM.make ⟨DB,trivial⟩ ⟨vA,vB,trivial⟩ trivial) (fun a=>by kernel_rfl)
def jW (p0:aH) (p1:Int×Int):Option aH:=
 (lP p0).bind fun r0=>
 (aQ r0.where_ p1.1).bind fun n1=>
 bif n1 !=(aA .i64 ((Int.ofNat r0.heap.length) -1)) then
  (fL (n1,aA .i64 ((Int.ofNat r0.heap.length) -1),r0.slots.uses,r0.slots.used,r0.slots.free,r0.heap,r0.where_)).bind fun a2=>
  (jC a2.2.2.2.1 0 (aA .i64 ((Int.ofNat r0.heap.length) -1))).bind fun _=>
  (aQ a2.2.2.2.2 p1.1).bind fun _=>
  (pT (aR.mk a2.1 a2.2.1 a2.2.2.1) p1).bind fun r5=>
  bif n1 !=(aA .i64 ((Int.ofNat r0.heap.length) -1)) then
   (nC (r5.uses,r5.used,r5.free,(aA .i64 ((Int.ofNat r0.heap.length) -1)).toNat,a2.2.2.2.1.length,n1,a2.2.2.2.1,bY a2.2.2.2.2 p1.1 (-1))).bind fun a6=>
   (kV (r5.uses,r5.used,r5.free,(aA .i64 ((Int.ofNat r0.heap.length) -1)).toNat,a2.2.2.2.1.length,a6)).bind fun a7=>
   some (aH.mk r5 (a7.1.take ((aA .i64 ((Int.ofNat r0.heap.length) -1)).toNat)) a7.2)
  else
   some (aH.mk r5 (a2.2.2.2.1.take ((aA .i64 ((Int.ofNat r0.heap.length) -1)).toNat)) (bY a2.2.2.2.2 p1.1 (-1)))
 else
  (jC r0.heap 0 (aA .i64 ((Int.ofNat r0.heap.length) -1))).bind fun _=>
  (aQ r0.where_ p1.1).bind fun _=>
  (pT r0.slots p1).bind fun r10=>
  bif n1 !=(aA .i64 ((Int.ofNat r0.heap.length) -1)) then
   (nC (r10.uses,r10.used,r10.free,(aA .i64 ((Int.ofNat r0.heap.length) -1)).toNat,r0.heap.length,n1,r0.heap,bY r0.where_ p1.1 (-1))).bind fun a11=>
   (kV (r10.uses,r10.used,r10.free,(aA .i64 ((Int.ofNat r0.heap.length) -1)).toNat,r0.heap.length,a11)).bind fun a12=>
   some (aH.mk r10 (a12.1.take ((aA .i64 ((Int.ofNat r0.heap.length) -1)).toNat)) a12.2)
  else
   some (aH.mk r10 (r0.heap.take ((aA .i64 ((Int.ofNat r0.heap.length) -1)).toNat)) (bY r0.where_ p1.1 (-1)))
def aNT:bL:=⟨aC.cons (aN.agg cU) (aC.one (aN.agg (bZ.row gZ))),aN.agg cU,fun a=>jW a.1 a.2,.frz,false⟩
theorem XO:aM aX 167 aNT:=aM.of aFD (cx:=(pW aG [(58,c58),(58,Y8),(199,aQs)] [(198,E2),(198,E3),(201,PQ),(200,U1)] [] [])) rfl (mM.make ⟨LN,F8,aHD,trivial⟩ ⟨vA,vB,HQ,NW,trivial⟩ trivial) (fun a=>by kernel_rfl)
def pC (p0:aJ) (p1:Int):Option aJ:=
 (hZ p0).bind fun r0=>
 (sN p0.certs p1).bind fun r1=>
 (pS p0 p1).bind fun n2=>
 bif decide (0<=n2) then
  (aQ p0.due n2).bind fun a3=>
  (jW p0.agenda a3.2).bind fun r4=>
  (jC p0.due 0 n2).bind fun l5=>
  (cB l5).bind fun l6=>
  (jC p0.due (aA .i64 (n2+1)) (Int.ofNat p0.due.length)).bind fun l7=>
  bif l7.isEmpty then
   some (aJ.mk r0.now r0.field r1 r4 l6)
  else
   (bI l6 l7).bind fun l8=>
   some (aJ.mk r0.now r0.field r1 r4 l8)
 else
  some (aJ.mk r0.now r0.field r1 r0.agenda r0.due)
def aNU:bL:=⟨aC.cons (aN.agg bJ) (aC.one (aN.int .i64)),aN.agg bJ,fun a=>pC a.1 a.2,.frz,false⟩
theorem XP:aM aX 114 aNU:=Oc aER rfl aG [(26,c26),(26,RX),(165,aQr),(166,aNR),(167,aNT)] ⟨EX,AG,aHC,XN,XO,trivial⟩ fun a=>by kernel_rfl
def uV (p0:aJ):Option (aJ×(Int×Int×Int×Int×Int)×(Int×Int)):=
 (aQ p0.agenda.heap 0).bind fun a0=>
 (LR p0.certs a0.2.2.1).bind fun n1=>
 (aQ p0.certs.list n1).bind fun a2=>
 (pC p0 a0.2.2.1).bind fun r3=>
 some (aJ.mk (a0.1,a0.2.1) r3.field r3.certs r3.agenda r3.due,a0,a2.2)
def c82:bL:=⟨aC.one (aN.agg bJ),aN.tup (aC.cons (aN.agg bJ) (aC.cons (aN.agg (bZ.row jD)) (aC.one (aN.agg (bZ.row gZ))))),fun a=>uV a,.frz,false⟩
theorem aNV:aM aX 82 c82:=Oc aMO rfl aG [(135,aQp),(114,aNU)] ⟨aHB,XP,trivial⟩ fun a=>by kernel_rfl
def xF (s:(pB×Int×Int×Int)):Option (cL (pB×Int×Int×Int) Bool):=
 bif decide (s.2.1<(Int.ofNat s.1.length)) then
  (aQ s.1 s.2.1).bind fun a0=>
  bif (a0.1==s.2.2.1)&&(a0.2==s.2.2.2) then
   some (.done true)
  else
   some (.next (s.1,aA .i64 (s.2.1+1),s.2.2))
 else
  some (.done false)
def GD (p0:List (Int×Int)) (p1:Int×Int):Option Bool:=
 aI xF (p0,0,p1)
def aQt:bL:=⟨aC.cons (aN.sl gZ) (aC.one (aN.agg (bZ.row gZ))),aN.bool,fun a=>GD a.1 a.2,.pure,false⟩
theorem aHH:aM aX 113 aQt:=Oc aEQ rfl aG [] trivial fun a=>by kernel_rfl
def sO (s:(Int×bO×bO)):Option (cL (Int×bO×bO) Bool):=
 bif decide (s.1<(Int.ofNat s.2.1.length)) then
  (aQ s.2.1 s.1).bind fun a0=>
  (aQ s.2.2 s.1).bind fun a1=>
  bif !((a0.1==a1.1)&&((a0.2.1==a1.2.1)&&(a0.2.2==a1.2.2))) then
   some (.done false)
  else
   some (.next (aA .i64 (s.1+1),s.2))
 else
  some (.done true)
def vX (p0:Field) (p1:Field):Option Bool:=
 bif (Int.ofNat p0.points.length) !=(Int.ofNat p1.points.length) then
  some false
 else
  aI sO (0,p0.points,p1.points)
def c68:bL:=⟨aC.cons (aN.agg dA) (aC.one (aN.agg dA)),aN.bool,fun a=>vX a.1 a.2,.pure,false⟩
theorem aBt:aM aX 68 c68:=Oc aMB rfl aG [] trivial fun a=>by kernel_rfl
def hH (c0:GC) (s:GC):Option (cL GC GC):=
 bif decide (0<s.1) then
  (aQ s.2.2.2.2.1 s.1).bind fun a0=>
  (aQ s.2.2.2.2.1 (aA .i64 (Int.tdiv (aA .i64 (s.1-1)) 2))).bind fun a1=>
  (eC a0 a1).bind fun b2=>
  bif b2 then
   (fL (s.1,aA .i64 (Int.tdiv (aA .i64 (s.1-1)) 2),s.2)).bind fun a3=>
   some (.next (aA .i64 (Int.tdiv (aA .i64 (s.1-1)) 2),a3))
  else
   bif s.2.1.length==c0.2.1.length then
    bif s.2.2.1.length==c0.2.2.1.length then
     bif s.2.2.2.1.length==c0.2.2.2.1.length then
      bif s.2.2.2.2.1.length==c0.2.2.2.2.1.length then
       bif s.2.2.2.2.2.length==c0.2.2.2.2.2.length then
        some (.done s)
       else
        none
      else
       none
     else
      none
    else
     none
   else
    none
 else
  bif s.2.1.length==c0.2.1.length then
   bif s.2.2.1.length==c0.2.2.1.length then
    bif s.2.2.2.1.length==c0.2.2.2.1.length then
     bif s.2.2.2.2.1.length==c0.2.2.2.2.1.length then
      bif s.2.2.2.2.2.length==c0.2.2.2.2.2.length then
       some (.done s)
      else
       none
     else
      none
    else
     none
   else
    none
  else
   none
def qS (a:GC):Option GC:=
 aI (hH a) a
def U2:dW:=⟨[.i,.l [.i .i64],.l [.b],.l [.i .i64],.l [.i .i64,.i .i64,.i .i64,.i .i64,.i .i64],.l [.i .i64]],[.agg [.own 0 false,.own 1 false,.own 2 false,.own 3 false,.own 4 false],.int .i64 0],[.arr [.i .i64] [],.arr [.b] [],.arr [.i .i64] [],.arr [.i .i64,.i .i64,.i .i64,.i .i64,.i .i64] [],.arr [.i .i64] []],[.i,.l [.i .i64],.l [.b],.l [.i .i64],.l [.i .i64,.i .i64,.i .i64,.i .i64,.i .i64],.l [.i .i64]],.int .i64 0,[.arr [.i .i64] [],.arr [.b] [],.arr [.i .i64] [],.arr [.i .i64,.i .i64,.i .i64,.i .i64,.i .i64] [],.arr [.i .i64] []],fun a=>qS a⟩
theorem NX:lC aX 201 U2:=lC.of PB (wd:=false) (cx:=(pW aG [(151,U0)] [(198,E2),(198,E3)] [] [])) (mM.make ⟨DB,trivial⟩ ⟨vA,vB,trivial⟩ trivial) (fun a=>by kernel_rfl)
def kF (c0:GC) (s:GC):Option (cL GC aNS):=
 bif decide ((Int.ofNat s.2.2.2.2.1.length)<=(aA .i64 ((aA .i64 (2*s.1))+1))) then
  bif s.2.1.length==c0.2.1.length then
   bif s.2.2.1.length==c0.2.2.1.length then
    bif s.2.2.2.1.length==c0.2.2.2.1.length then
     bif s.2.2.2.2.1.length==c0.2.2.2.2.1.length then
      bif s.2.2.2.2.2.length==c0.2.2.2.2.2.length then
       some (.done s.2)
      else
       none
     else
      none
    else
     none
   else
    none
  else
   none
 else
  bif decide ((aA .i64 ((aA .i64 ((aA .i64 (2*s.1))+1))+1))<(Int.ofNat s.2.2.2.2.1.length)) then
   (aQ s.2.2.2.2.1 (aA .i64 ((aA .i64 ((aA .i64 (2*s.1))+1))+1))).bind fun a0=>
   (aQ s.2.2.2.2.1 (aA .i64 ((aA .i64 (2*s.1))+1))).bind fun a1=>
   (eC a0 a1).bind fun b2=>
   bif b2 then
    (aQ s.2.2.2.2.1 (aA .i64 ((aA .i64 ((aA .i64 (2*s.1))+1))+1))).bind fun a3=>
    (aQ s.2.2.2.2.1 s.1).bind fun a4=>
    (eC a3 a4).bind fun b5=>
    bif !b5 then
     bif s.2.1.length==c0.2.1.length then
      bif s.2.2.1.length==c0.2.2.1.length then
       bif s.2.2.2.1.length==c0.2.2.2.1.length then
        bif s.2.2.2.2.1.length==c0.2.2.2.2.1.length then
         bif s.2.2.2.2.2.length==c0.2.2.2.2.2.length then
          some (.done s.2)
         else
          none
        else
         none
       else
        none
      else
       none
     else
      none
    else
     (fL (s.1,aA .i64 ((aA .i64 ((aA .i64 (2*s.1))+1))+1),s.2)).bind fun a6=>
     some (.next (aA .i64 ((aA .i64 ((aA .i64 (2*s.1))+1))+1),a6))
   else
    (aQ s.2.2.2.2.1 (aA .i64 ((aA .i64 (2*s.1))+1))).bind fun a7=>
    (aQ s.2.2.2.2.1 s.1).bind fun a8=>
    (eC a7 a8).bind fun b9=>
    bif !b9 then
     bif s.2.1.length==c0.2.1.length then
      bif s.2.2.1.length==c0.2.2.1.length then
       bif s.2.2.2.1.length==c0.2.2.2.1.length then
        bif s.2.2.2.2.1.length==c0.2.2.2.2.1.length then
         bif s.2.2.2.2.2.length==c0.2.2.2.2.2.length then
          some (.done s.2)
         else
          none
        else
         none
       else
        none
      else
       none
     else
      none
    else
     (fL (s.1,aA .i64 ((aA .i64 (2*s.1))+1),s.2)).bind fun a10=>
     some (.next (aA .i64 ((aA .i64 (2*s.1))+1),a10))
  else
   (aQ s.2.2.2.2.1 (aA .i64 ((aA .i64 (2*s.1))+1))).bind fun a11=>
   (aQ s.2.2.2.2.1 s.1).bind fun a12=>
   (eC a11 a12).bind fun b13=>
   bif !b13 then
    bif s.2.1.length==c0.2.1.length then
     bif s.2.2.1.length==c0.2.2.1.length then
      bif s.2.2.2.1.length==c0.2.2.2.1.length then
       bif s.2.2.2.2.1.length==c0.2.2.2.2.1.length then
        bif s.2.2.2.2.2.length==c0.2.2.2.2.2.length then
         some (.done s.2)
        else
         none
       else
        none
      else
       none
     else
      none
    else
     none
   else
    (fL (s.1,aA .i64 ((aA .i64 (2*s.1))+1),s.2)).bind fun a14=>
    some (.next (aA .i64 ((aA .i64 (2*s.1))+1),a14))
def nR (a:GC):Option aNS:=
 aI (kF a) a
def aBu:dW:=⟨[.i,.l [.i .i64],.l [.b],.l [.i .i64],.l [.i .i64,.i .i64,.i .i64,.i .i64,.i .i64],.l [.i .i64]],[.agg [.own 0 false,.own 1 false,.own 2 false,.own 3 false,.own 4 false],.int .i64 0],[.arr [.i .i64] [],.arr [.b] [],.arr [.i .i64] [],.arr [.i .i64,.i .i64,.i .i64,.i .i64,.i .i64] [],.arr [.i .i64] []],[.l [.i .i64],.l [.b],.l [.i .i64],.l [.i .i64,.i .i64,.i .i64,.i .i64,.i .i64],.l [.i .i64]],.tup [],[.arr [.i .i64] [],.arr [.b] [],.arr [.i .i64] [],.arr [.i .i64,.i .i64,.i .i64,.i .i64,.i .i64] [],.arr [.i .i64] []],fun a=>nR a⟩
theorem ZF:lC aX 200 aBu:=lC.of WY (wd:=false) (cx:=(pW aG [(151,U0)] [(198,E2),(198,E3)] [] [])) (mM.make ⟨DB,trivial⟩ ⟨vA,vB,trivial⟩ trivial) (fun a=>by kernel_rfl)
def sP (p0:aH) (p1:Int×Int) (p2:Int×Int):Option aH:=
 (lP p0).bind fun r0=>
 (aQ r0.where_ p1.1).bind fun n1=>
 (aQ r0.heap n1).bind fun a2=>
 (qS (n1,r0.slots.uses,r0.slots.used,r0.slots.free,bY r0.heap n1 (p2.1,p2.2,a2.2.2),r0.where_)).bind fun a3=>
 (nR a3).bind fun a4=>
 some (aH.mk (aR.mk a4.1 a4.2.1 a4.2.2.1) a4.2.2.2.1 a4.2.2.2.2)
def aQu:bL:=⟨aC.cons (aN.agg cU) (aC.cons (aN.agg (bZ.row gZ)) (aC.one (aN.agg (bZ.row gZ)))),aN.agg cU,fun a=>sP a.1 a.2.1 a.2.2,.frz,false⟩
theorem aHI:aM aX 168 aQu:=aM.of aFE (cx:=(pW aG [(58,c58),(58,Y8)] [(201,PQ),(200,U1),(201,U2),(200,aBu)] [] [])) rfl (mM.make ⟨LN,F8,trivial⟩ ⟨HQ,NW,NX,ZF,trivial⟩ trivial) (fun a=>by kernel_rfl)
def gN (p0:aR):Option Bool:=
 bif decide (0<(Int.ofNat p0.free.length)) then
  (aQ p0.free (aA .i64 ((Int.ofNat p0.free.length) -1))).bind fun n0=>
  (aQ p0.uses n0).bind fun n1=>
  some (decide (n1<1000000))
 else
  some false
def aNW:bL:=⟨aC.one (aN.agg gG),aN.bool,fun a=>gN a,.pure,false⟩
theorem XQ:aM aX 169 aNW:=Oc aFF rfl aG [] trivial fun a=>by kernel_rfl
def xG (p0:aR):Option (aR×(Int×Int)):=
 (mX p0).bind fun r0=>
 (aQ r0.free (aA .i64 ((Int.ofNat r0.free.length) -1))).bind fun n1=>
 (jC r0.free 0 (aA .i64 ((Int.ofNat r0.free.length) -1))).bind fun _=>
 (aQ r0.uses n1).bind fun n3=>
 (aQ r0.uses n1).bind fun _=>
 (aQ r0.used n1).bind fun _=>
 (aQ (bY r0.uses n1 (aA .i64 (n3+1))) n1).bind fun n6=>
 some (aR.mk (bY r0.uses n1 (aA .i64 (n3+1))) (bY r0.used n1 true) (r0.free.take ((aA .i64 ((Int.ofNat r0.free.length) -1)).toNat)),n1,n6)
def aQv:bL:=⟨aC.one (aN.agg gG),aN.tup (aC.cons (aN.agg gG) (aC.one (aN.agg (bZ.row gZ)))),fun a=>xG a,.frz,false⟩
theorem aHJ:aM aX 202 aQv:=Oc aF8 rfl aG [(106,aA4),(106,RW)] ⟨JO,F7,trivial⟩ fun a=>by kernel_rfl
def nS (a:((List Int)×(List Bool)×(List Int)×Int×Int×jM×(List Int))):Option MY:=
 (aQ a.2.2.2.2.2.1 a.2.2.2.2.1).bind fun a0=>
 (aQ a.2.2.2.2.2.1 a.2.2.2.1).bind fun a1=>
 (aQ a.2.2.2.2.2.1 a.2.2.2.1).bind fun _=>
 (aQ (bY a.2.2.2.2.2.1 a.2.2.2.1 a0) a.2.2.2.2.1).bind fun _=>
 (aQ (bY (bY a.2.2.2.2.2.1 a.2.2.2.1 a0) a.2.2.2.2.1 a1) a.2.2.2.1).bind fun a4=>
 (aQ (bY (bY a.2.2.2.2.2.1 a.2.2.2.1 a0) a.2.2.2.2.1 a1) a.2.2.2.2.1).bind fun a5=>
 (aQ a.2.2.2.2.2.2 a4.2.2.2.1).bind fun _=>
 (aQ (bY a.2.2.2.2.2.2 a4.2.2.2.1 a.2.2.2.1) a5.2.2.2.1).bind fun _=>
 bif ((bY (bY a.2.2.2.2.2.1 a.2.2.2.1 a0) a.2.2.2.2.1 a1).length)==a.2.2.2.2.2.1.length then
  bif ((bY (bY a.2.2.2.2.2.2 a4.2.2.2.1 a.2.2.2.1) a5.2.2.2.1 a.2.2.2.2.1).length)==a.2.2.2.2.2.2.length then
   some (bY (bY a.2.2.2.2.2.1 a.2.2.2.1 a0) a.2.2.2.2.1 a1,bY (bY a.2.2.2.2.2.2 a4.2.2.2.1 a.2.2.2.1) a5.2.2.2.1 a.2.2.2.2.1)
  else
   none
 else
  none
def aBv:dW:=⟨[.l [.i .i64],.l [.b],.l [.i .i64],.i,.i,.l [.i .i64,.i .i64,.i .i64,.i .i64,.i .i64],.l [.i .i64]],[.agg [.sl [.i .i64] [],.sl [.b] [],.sl [.i .i64] [],.own 0 false,.own 1 false],.int .i64 0,.int .i64 0],[.arr [.i .i64,.i .i64,.i .i64,.i .i64,.i .i64] [],.arr [.i .i64] []],[.l [.i .i64,.i .i64,.i .i64,.i .i64,.i .i64],.l [.i .i64]],.tup [],[.arr [.i .i64,.i .i64,.i .i64,.i .i64,.i .i64] [],.arr [.i .i64] []],fun a=>nS a⟩
theorem ZG:lC aX 198 aBv:=lC.of PA (wd:=false) (cx:=(pW aG [] [] [] [])) (mM.make trivial trivial trivial) (fun a=>by kernel_rfl)
abbrev aQw:=(List Int)×(List Bool)×(List Int)×Int×jM×(List Int)
abbrev aQx:=Int×jM×(List Int)×(List Int)×(List Bool)×(List Int)
def hJ (c0:aQw) (s:aQx):Option (cL aQx aHG):=
 bif decide (0<s.1) then
  (aQ s.2.1 s.1).bind fun a0=>
  (aQ s.2.1 (aA .i64 (Int.tdiv (aA .i64 (s.1-1)) 2))).bind fun a1=>
  (eC a0 a1).bind fun b2=>
  bif b2 then
   (nS (s.2.2.2.1,s.2.2.2.2.1,s.2.2.2.2.2,s.1,aA .i64 (Int.tdiv (aA .i64 (s.1-1)) 2),s.2.1,s.2.2.1)).bind fun a3=>
   some (.next (aA .i64 (Int.tdiv (aA .i64 (s.1-1)) 2),a3.1,a3.2,s.2.2.2))
  else
   bif s.2.1.length==c0.2.2.2.2.1.length then
    bif s.2.2.1.length==c0.2.2.2.2.2.length then
     some (.done (s.1,s.2.1,s.2.2.1))
    else
     none
   else
    none
 else
  bif s.2.1.length==c0.2.2.2.2.1.length then
   bif s.2.2.1.length==c0.2.2.2.2.2.length then
    some (.done (s.1,s.2.1,s.2.2.1))
   else
    none
  else
   none
def qT (a:aQw):Option aHG:=
 aI (hJ a) (a.2.2.2.1,a.2.2.2.2.1,a.2.2.2.2.2,a.1,a.2.1,a.2.2.1)
def aBw:dW:=⟨[.l [.i .i64],.l [.b],.l [.i .i64],.i,.l [.i .i64,.i .i64,.i .i64,.i .i64,.i .i64],.l [.i .i64]],[.agg [.sl [.i .i64] [],.sl [.b] [],.sl [.i .i64] [],.own 0 false,.own 1 false],.int .i64 0],[.arr [.i .i64,.i .i64,.i .i64,.i .i64,.i .i64] [],.arr [.i .i64] []],[.i,.l [.i .i64,.i .i64,.i .i64,.i .i64,.i .i64],.l [.i .i64]],.int .i64 0,[.arr [.i .i64,.i .i64,.i .i64,.i .i64,.i .i64] [],.arr [.i .i64] []],fun a=>qT a⟩
theorem ZH:lC aX 201 aBw:=lC.of PB (wd:=true) (cx:=(pW aG [(151,U0)] [(198,E2),(198,E3),(198,aBv)] [] [])) (mM.make ⟨DB,trivial⟩ ⟨vA,vB,ZG,trivial⟩ trivial) (fun a=>by kernel_rfl)
def eH (p0:aH) (p1:Int×Int) (p2:Int):Option (aH×(Int×Int)):=
 (lP p0).bind fun r0=>
 (xG r0.slots).bind fun a1=>
 (bI r0.heap [(p1.1,p1.2,p2,a1.2)]).bind fun l2=>
 (aQ r0.where_ a1.2.1).bind fun _=>
 (qT (a1.1.uses,a1.1.used,a1.1.free,aA .i64 ((Int.ofNat l2.length) -1),l2,bY r0.where_ a1.2.1 (aA .i64 ((Int.ofNat l2.length) -1)))).bind fun a4=>
 some (aH.mk a1.1 a4.2.1 a4.2.2,a1.2)
def aNX:bL:=⟨aC.cons (aN.agg cU) (aC.cons (aN.agg (bZ.row gZ)) (aC.one (aN.int .i64))),aN.tup (aC.cons (aN.agg cU) (aC.one (aN.agg (bZ.row gZ)))),fun a=>eH a.1 a.2.1 a.2.2,.frz,false⟩
theorem XS:aM aX 170 aNX:=aM.of aFG (cx:=(pW aG [(58,c58),(58,Y8),(202,aQv)] [(201,PQ),(201,U2),(201,aBw)] [] [])) rfl (mM.make ⟨LN,F8,aHJ,trivial⟩ ⟨HQ,NX,ZH,trivial⟩ trivial) (fun a=>by kernel_rfl)
abbrev Zt4:=Int×Int×Int×bO×Int×bO×(List Int)×(List Bool)×(List Int)×jM×(List Int)×bO×bO×Int×Int×Int×Int×Int×bO×Int×bO×(List Int)×(List Bool)×(List Int)×jM×(List Int)×bO
def cM (s:Zt4):Option (cL Zt4 (aJ×Int)):=
 match s with
 |(a,b,d,e,f,g,h,i,j,k,l,m,n,o,q,r,t,u,v,w,x,y,z,A,B,C,D)=>
  bif decide (a<(Int.ofNat g.length)) then
   (aQ g a).bind fun a0=>
   (pS (aJ.mk (b,d) (Field.mk e) (aT.mk f g) (aH.mk (aR.mk h i j) k l) m) a0.1).bind fun n1=>
   (rU (Field.mk n) a0.2 (b,d)).bind fun a2=>
   bif a2.2 then
    bif decide (0<=n1) then
     (aQ m n1).bind fun a3=>
     (sP (aH.mk (aR.mk y z A) B C) a3.2 a2.1).bind fun r4=>
     (aQ m n1).bind fun a5=>
     (bI D [a5]).bind fun l6=>
     bif !a2.2 then
      bif decide (0<=n1) then
       (aQ m n1).bind fun a7=>
       (jW r4 a7.2).bind fun r8=>
       bif !a2.2 then
        some (.next (aA .i64 (a+1),b,d,e,f,g,h,i,j,k,l,m,n,o,q,r,t,u,v,w,x,r8.slots.uses,r8.slots.used,r8.slots.free,r8.heap,r8.where_,l6))
       else
        bif decide (0<=n1) then
         some (.next (aA .i64 (a+1),b,d,e,f,g,h,i,j,k,l,m,n,o,q,r,t,u,v,w,x,r8.slots.uses,r8.slots.used,r8.slots.free,r8.heap,r8.where_,l6))
        else
         (gN r8.slots).bind fun b9=>
         bif !b9 then
          some (.done (aJ.mk (0,0) (Field.mk []) (aT.mk 0 []) (aH.mk (aR.mk [] [] []) [] []) [],18))
         else
          (eH r8 a2.1 a0.1).bind fun a10=>
          (bI l6 [(a0.1,a10.2)]).bind fun l11=>
          some (.next (aA .i64 (a+1),b,d,e,f,g,h,i,j,k,l,m,n,o,q,r,t,u,v,w,x,a10.1.slots.uses,a10.1.slots.used,a10.1.slots.free,a10.1.heap,a10.1.where_,l11))
      else
       bif !a2.2 then
        some (.next (aA .i64 (a+1),b,d,e,f,g,h,i,j,k,l,m,n,o,q,r,t,u,v,w,x,r4.slots.uses,r4.slots.used,r4.slots.free,r4.heap,r4.where_,l6))
       else
        bif decide (0<=n1) then
         some (.next (aA .i64 (a+1),b,d,e,f,g,h,i,j,k,l,m,n,o,q,r,t,u,v,w,x,r4.slots.uses,r4.slots.used,r4.slots.free,r4.heap,r4.where_,l6))
        else
         (gN r4.slots).bind fun b12=>
         bif !b12 then
          some (.done (aJ.mk (0,0) (Field.mk []) (aT.mk 0 []) (aH.mk (aR.mk [] [] []) [] []) [],18))
         else
          (eH r4 a2.1 a0.1).bind fun a13=>
          (bI l6 [(a0.1,a13.2)]).bind fun l14=>
          some (.next (aA .i64 (a+1),b,d,e,f,g,h,i,j,k,l,m,n,o,q,r,t,u,v,w,x,a13.1.slots.uses,a13.1.slots.used,a13.1.slots.free,a13.1.heap,a13.1.where_,l14))
     else
      bif !a2.2 then
       some (.next (aA .i64 (a+1),b,d,e,f,g,h,i,j,k,l,m,n,o,q,r,t,u,v,w,x,r4.slots.uses,r4.slots.used,r4.slots.free,r4.heap,r4.where_,l6))
      else
       bif decide (0<=n1) then
        some (.next (aA .i64 (a+1),b,d,e,f,g,h,i,j,k,l,m,n,o,q,r,t,u,v,w,x,r4.slots.uses,r4.slots.used,r4.slots.free,r4.heap,r4.where_,l6))
       else
        (gN r4.slots).bind fun b15=>
        bif !b15 then
         some (.done (aJ.mk (0,0) (Field.mk []) (aT.mk 0 []) (aH.mk (aR.mk [] [] []) [] []) [],18))
        else
         (eH r4 a2.1 a0.1).bind fun a16=>
         (bI l6 [(a0.1,a16.2)]).bind fun l17=>
         some (.next (aA .i64 (a+1),b,d,e,f,g,h,i,j,k,l,m,n,o,q,r,t,u,v,w,x,a16.1.slots.uses,a16.1.slots.used,a16.1.slots.free,a16.1.heap,a16.1.where_,l17))
    else
     bif !a2.2 then
      bif decide (0<=n1) then
       (aQ m n1).bind fun a18=>
       (jW (aH.mk (aR.mk y z A) B C) a18.2).bind fun r19=>
       bif !a2.2 then
        some (.next (aA .i64 (a+1),b,d,e,f,g,h,i,j,k,l,m,n,o,q,r,t,u,v,w,x,r19.slots.uses,r19.slots.used,r19.slots.free,r19.heap,r19.where_,D))
       else
        bif decide (0<=n1) then
         some (.next (aA .i64 (a+1),b,d,e,f,g,h,i,j,k,l,m,n,o,q,r,t,u,v,w,x,r19.slots.uses,r19.slots.used,r19.slots.free,r19.heap,r19.where_,D))
        else
         (gN r19.slots).bind fun b20=>
         bif !b20 then
          some (.done (aJ.mk (0,0) (Field.mk []) (aT.mk 0 []) (aH.mk (aR.mk [] [] []) [] []) [],18))
         else
          (eH r19 a2.1 a0.1).bind fun a21=>
          (bI D [(a0.1,a21.2)]).bind fun l22=>
          some (.next (aA .i64 (a+1),b,d,e,f,g,h,i,j,k,l,m,n,o,q,r,t,u,v,w,x,a21.1.slots.uses,a21.1.slots.used,a21.1.slots.free,a21.1.heap,a21.1.where_,l22))
      else
       bif !a2.2 then
        some (.next (aA .i64 (a+1),(b,d,e,f,g,h,i,j,k,l,m,n,o,q,r,t,u,v,w,x,y,z,A,B,C,D)))
       else
        bif decide (0<=n1) then
         some (.next (aA .i64 (a+1),(b,d,e,f,g,h,i,j,k,l,m,n,o,q,r,t,u,v,w,x,y,z,A,B,C,D)))
        else
         (gN (aR.mk y z A)).bind fun b23=>
         bif !b23 then
          some (.done (aJ.mk (0,0) (Field.mk []) (aT.mk 0 []) (aH.mk (aR.mk [] [] []) [] []) [],18))
         else
          (eH (aH.mk (aR.mk y z A) B C) a2.1 a0.1).bind fun a24=>
          (bI D [(a0.1,a24.2)]).bind fun l25=>
          some (.next (aA .i64 (a+1),b,d,e,f,g,h,i,j,k,l,m,n,o,q,r,t,u,v,w,x,a24.1.slots.uses,a24.1.slots.used,a24.1.slots.free,a24.1.heap,a24.1.where_,l25))
     else
      bif !a2.2 then
       some (.next (aA .i64 (a+1),(b,d,e,f,g,h,i,j,k,l,m,n,o,q,r,t,u,v,w,x,y,z,A,B,C,D)))
      else
       bif decide (0<=n1) then
        some (.next (aA .i64 (a+1),(b,d,e,f,g,h,i,j,k,l,m,n,o,q,r,t,u,v,w,x,y,z,A,B,C,D)))
       else
        (gN (aR.mk y z A)).bind fun b26=>
        bif !b26 then
         some (.done (aJ.mk (0,0) (Field.mk []) (aT.mk 0 []) (aH.mk (aR.mk [] [] []) [] []) [],18))
        else
         (eH (aH.mk (aR.mk y z A) B C) a2.1 a0.1).bind fun a27=>
         (bI D [(a0.1,a27.2)]).bind fun l28=>
         some (.next (aA .i64 (a+1),b,d,e,f,g,h,i,j,k,l,m,n,o,q,r,t,u,v,w,x,a27.1.slots.uses,a27.1.slots.used,a27.1.slots.free,a27.1.heap,a27.1.where_,l28))
   else
    bif !a2.2 then
     bif decide (0<=n1) then
      (aQ m n1).bind fun a29=>
      (jW (aH.mk (aR.mk y z A) B C) a29.2).bind fun r30=>
      bif !a2.2 then
       some (.next (aA .i64 (a+1),b,d,e,f,g,h,i,j,k,l,m,n,o,q,r,t,u,v,w,x,r30.slots.uses,r30.slots.used,r30.slots.free,r30.heap,r30.where_,D))
      else
       bif decide (0<=n1) then
        some (.next (aA .i64 (a+1),b,d,e,f,g,h,i,j,k,l,m,n,o,q,r,t,u,v,w,x,r30.slots.uses,r30.slots.used,r30.slots.free,r30.heap,r30.where_,D))
       else
        (gN r30.slots).bind fun b31=>
        bif !b31 then
         some (.done (aJ.mk (0,0) (Field.mk []) (aT.mk 0 []) (aH.mk (aR.mk [] [] []) [] []) [],18))
        else
         (eH r30 a2.1 a0.1).bind fun a32=>
         (bI D [(a0.1,a32.2)]).bind fun l33=>
         some (.next (aA .i64 (a+1),b,d,e,f,g,h,i,j,k,l,m,n,o,q,r,t,u,v,w,x,a32.1.slots.uses,a32.1.slots.used,a32.1.slots.free,a32.1.heap,a32.1.where_,l33))
     else
      bif !a2.2 then
       some (.next (aA .i64 (a+1),(b,d,e,f,g,h,i,j,k,l,m,n,o,q,r,t,u,v,w,x,y,z,A,B,C,D)))
      else
       bif decide (0<=n1) then
        some (.next (aA .i64 (a+1),(b,d,e,f,g,h,i,j,k,l,m,n,o,q,r,t,u,v,w,x,y,z,A,B,C,D)))
       else
        (gN (aR.mk y z A)).bind fun b34=>
        bif !b34 then
         some (.done (aJ.mk (0,0) (Field.mk []) (aT.mk 0 []) (aH.mk (aR.mk [] [] []) [] []) [],18))
        else
         (eH (aH.mk (aR.mk y z A) B C) a2.1 a0.1).bind fun a35=>
         (bI D [(a0.1,a35.2)]).bind fun l36=>
         some (.next (aA .i64 (a+1),b,d,e,f,g,h,i,j,k,l,m,n,o,q,r,t,u,v,w,x,a35.1.slots.uses,a35.1.slots.used,a35.1.slots.free,a35.1.heap,a35.1.where_,l36))
    else
     bif !a2.2 then
      some (.next (aA .i64 (a+1),(b,d,e,f,g,h,i,j,k,l,m,n,o,q,r,t,u,v,w,x,y,z,A,B,C,D)))
     else
      bif decide (0<=n1) then
       some (.next (aA .i64 (a+1),(b,d,e,f,g,h,i,j,k,l,m,n,o,q,r,t,u,v,w,x,y,z,A,B,C,D)))
      else
       (gN (aR.mk y z A)).bind fun b37=>
       bif !b37 then
        some (.done (aJ.mk (0,0) (Field.mk []) (aT.mk 0 []) (aH.mk (aR.mk [] [] []) [] []) [],18))
       else
        (eH (aH.mk (aR.mk y z A) B C) a2.1 a0.1).bind fun a38=>
        (bI D [(a0.1,a38.2)]).bind fun l39=>
        some (.next (aA .i64 (a+1),b,d,e,f,g,h,i,j,k,l,m,n,o,q,r,t,u,v,w,x,a38.1.slots.uses,a38.1.slots.used,a38.1.slots.free,a38.1.heap,a38.1.where_,l39))
  else
   some (.done (aJ.mk (t,u) (Field.mk v) (aT.mk w x) (aH.mk (aR.mk y z A) B C) D,0))
def mJ (p0:aJ) (p1:Field):Option (aJ×Int):=
 (hZ p0).bind fun r0=>
 (oY p1).bind fun r1=>
 aI cM (0,p0.now.1,p0.now.2,p0.field.points,p0.certs.next_,p0.certs.list,p0.agenda.slots.uses,p0.agenda.slots.used,p0.agenda.slots.free,p0.agenda.heap,p0.agenda.where_,p0.due,p1.points,0,0,0,r0.now.1,r0.now.2,r1.points,r0.certs.next_,r0.certs.list,r0.agenda.slots.uses,r0.agenda.slots.used,r0.agenda.slots.free,r0.agenda.heap,r0.agenda.where_,[])
def aQy:bL:=⟨aC.cons (aN.agg bJ) (aC.one (aN.agg dA)),aN.tup (aC.cons (aN.agg bJ) (aC.one (aN.int .i64))),fun a=>mJ a.1 a.2,.frz,false⟩
theorem aHK:aM aX 115 aQy:=Oc aES rfl aG [(26,c26),(26,RX),(56,c56),(56,aGv),(166,aNR),(100,aHu),(168,aQu),(167,aNT),(169,aNW),(170,aNX)] ⟨EX,AG,UI,PD,XN,PO,aHI,XO,XQ,XS,trivial⟩ fun a=>by kernel_rfl
def DE (p0:aT) (p1:Int×Int):Option (aT×Int×Int):=
 (tP p0).bind fun n0=>
 bif n0 !=0 then
  some (aT.mk 0 [],0,8)
 else
  (vU p1).bind fun b1=>
  bif !b1 then
   some (aT.mk 0 [],0,8)
  else
   (uZ p0 p1).bind fun b2=>
   bif b2 then
    some (aT.mk 0 [],0,14)
   else
    bif (Int.ofNat p0.list.length)==200 then
     some (aT.mk 0 [],0,18)
    else
     bif p0.next_==1000000 then
      some (aT.mk 0 [],0,18)
     else
      (oZ p0).bind fun r3=>
      (bI r3.list [(p0.next_,p1)]).bind fun l4=>
      some (aT.mk (aA .i64 (r3.next_+1)) l4,p0.next_,0)
def aQz:bL:=⟨aC.cons (aN.agg gH) (aC.one (aN.agg (bZ.row gZ))),aN.tup (aC.cons (aN.agg gH) (aC.cons (aN.int .i64) (aC.one (aN.int .i64)))),fun a=>DE a.1 a.2,.frz,false⟩
theorem aHL:aM aX 171 aQz:=Oc aFH rfl aG [(97,c97),(148,aNB),(103,aHz),(57,c57),(57,aGw)] ⟨aBm,XI,PP,UJ,PE,trivial⟩ fun a=>by kernel_rfl
def lK (p0:aJ) (p1:Int×Int):Option (aJ×Int×Int):=
 (DE p0.certs p1).bind fun a0=>
 bif a0.2.2 !=0 then
  some (aJ.mk (0,0) (Field.mk []) (aT.mk 0 []) (aH.mk (aR.mk [] [] []) [] []) [],0,a0.2.2)
 else
  (hZ p0).bind fun r1=>
  (rU p0.field p1 p0.now).bind fun a2=>
  bif !a2.2 then
   some (aJ.mk r1.now r1.field a0.1 r1.agenda r1.due,a0.2.1,0)
  else
   (gN p0.agenda.slots).bind fun b3=>
   bif !b3 then
    some (aJ.mk (0,0) (Field.mk []) (aT.mk 0 []) (aH.mk (aR.mk [] [] []) [] []) [],0,18)
   else
    (eH p0.agenda a2.1 a0.2.1).bind fun a4=>
    (bI r1.due [(a0.2.1,a4.2)]).bind fun l5=>
    some (aJ.mk r1.now r1.field a0.1 a4.1 l5,a0.2.1,0)
def aQA:bL:=⟨aC.cons (aN.agg bJ) (aC.one (aN.agg (bZ.row gZ))),aN.tup (aC.cons (aN.agg bJ) (aC.cons (aN.int .i64) (aC.one (aN.int .i64)))),fun a=>lK a.1 a.2,.frz,false⟩
theorem aHM:aM aX 116 aQA:=Oc aET rfl aG [(171,aQz),(26,c26),(26,RX),(100,aHu),(169,aNW),(170,aNX)] ⟨aHL,EX,AG,PO,XQ,XS,trivial⟩ fun a=>by kernel_rfl
abbrev aQB:=pB×Int×Int×Int×bO×Int×bO×(List Int)×(List Bool)×(List Int)×jM×(List Int)×bO×bO×Int×Int×Int×Int×Int×bO×Int×bO×(List Int)×(List Bool)×(List Int)×jM×(List Int)×bO
abbrev Zt2:=cL aQB (aJ×Int)
abbrev aQC:=pB×Int×Int×Int×Int×Int×Int×bO×Int×bO×(List Int)×(List Bool)×(List Int)×jM×(List Int)×bO
def dR (s:aQC):Option (cL aQC Zt2):=
 bif decide (s.2.1<(Int.ofNat s.1.length)) then
  (aQ s.1 s.2.1).bind fun a0=>
  (uZ (aT.mk s.2.2.2.2.2.2.2.2.1 s.2.2.2.2.2.2.2.2.2.1) a0).bind fun b1=>
  bif b1 then
   some (.next (s.1,aA .i64 (s.2.1+1),s.2.2))
  else
   (aQ s.1 s.2.1).bind fun a2=>
   (lK (aJ.mk (s.2.2.2.2.2.1,s.2.2.2.2.2.2.1) (Field.mk s.2.2.2.2.2.2.2.1) (aT.mk s.2.2.2.2.2.2.2.2.1 s.2.2.2.2.2.2.2.2.2.1) (aH.mk (aR.mk s.2.2.2.2.2.2.2.2.2.2.1 s.2.2.2.2.2.2.2.2.2.2.2.1 s.2.2.2.2.2.2.2.2.2.2.2.2.1) s.2.2.2.2.2.2.2.2.2.2.2.2.2.1 s.2.2.2.2.2.2.2.2.2.2.2.2.2.2.1) s.2.2.2.2.2.2.2.2.2.2.2.2.2.2.2) a2).bind fun a3=>
   bif a3.2.2 !=0 then
    some (.done (.done (aJ.mk (0,0) (Field.mk []) (aT.mk 0 []) (aH.mk (aR.mk [] [] []) [] []) [],a3.2.2)))
   else
    some (.next (s.1,aA .i64 (s.2.1+1),s.2.2.1,s.2.2.2.1,s.2.2.2.2.1,a3.1.now.1,a3.1.now.2,a3.1.field.points,a3.1.certs.next_,a3.1.certs.list,a3.1.agenda.slots.uses,a3.1.agenda.slots.used,a3.1.agenda.slots.free,a3.1.agenda.heap,a3.1.agenda.where_,a3.1.due))
 else
  some (.done (.done (aJ.mk (s.2.2.2.2.2.1,s.2.2.2.2.2.2.1) (Field.mk s.2.2.2.2.2.2.2.1) (aT.mk s.2.2.2.2.2.2.2.2.1 s.2.2.2.2.2.2.2.2.2.1) (aH.mk (aR.mk s.2.2.2.2.2.2.2.2.2.2.1 s.2.2.2.2.2.2.2.2.2.2.2.1 s.2.2.2.2.2.2.2.2.2.2.2.2.1) s.2.2.2.2.2.2.2.2.2.2.2.2.2.1 s.2.2.2.2.2.2.2.2.2.2.2.2.2.2.1) s.2.2.2.2.2.2.2.2.2.2.2.2.2.2.2,0)))
def dI (s:aQB):Option Zt2:=
 match s with
 |(a,b,d,e,f,g,h,i,j,k,l,m,n,o,q,r,t,u,v,w,x,y,z,A,B,C,D,E)=>
  bif decide (b<(Int.ofNat h.length)) then
   (aQ h b).bind fun a0=>
   (GD a a0.2).bind fun b1=>
   bif !b1 then
    (aQ h b).bind fun a2=>
    (pC (aJ.mk (u,v) (Field.mk w) (aT.mk x y) (aH.mk (aR.mk z A B) C D) E) a2.1).bind fun r3=>
    some (.next (a,aA .i64 (b+1),d,e,f,g,h,i,j,k,l,m,n,o,q,r,t,r3.now.1,r3.now.2,r3.field.points,r3.certs.next_,r3.certs.list,r3.agenda.slots.uses,r3.agenda.slots.used,r3.agenda.slots.free,r3.agenda.heap,r3.agenda.where_,r3.due))
   else
    some (.next (a,aA .i64 (b+1),(d,e,f,g,h,i,j,k,l,m,n,o,q,r,t,u,v,w,x,y,z,A,B,C,D,E)))
  else
   (vX (Field.mk w) (Field.mk o)).bind fun b4=>
   bif !b4 then
    (mJ (aJ.mk (u,v) (Field.mk w) (aT.mk x y) (aH.mk (aR.mk z A B) C D) E) (Field.mk o)).bind fun a5=>
    bif a5.2 !=0 then
     some (.done (aJ.mk (0,0) (Field.mk []) (aT.mk 0 []) (aH.mk (aR.mk [] [] []) [] []) [],a5.2))
    else
     aI dR (a,0,q,r,t,a5.1.now.1,a5.1.now.2,a5.1.field.points,a5.1.certs.next_,a5.1.certs.list,a5.1.agenda.slots.uses,a5.1.agenda.slots.used,a5.1.agenda.slots.free,a5.1.agenda.heap,a5.1.agenda.where_,a5.1.due)
   else
    aI dR (a,0,(q,r,t,u,v,w,x,y,z,A,B,C,D,E))
def mK (p0:aJ) (p1:Field) (p2:List (Int×Int)):Option (aJ×Int):=
 (hZ p0).bind fun r0=>
 aI dI (p2,0,p0.now.1,p0.now.2,p0.field.points,p0.certs.next_,p0.certs.list,p0.agenda.slots.uses,p0.agenda.slots.used,p0.agenda.slots.free,p0.agenda.heap,p0.agenda.where_,p0.due,p1.points,0,0,0,r0.now.1,r0.now.2,r0.field.points,r0.certs.next_,r0.certs.list,r0.agenda.slots.uses,r0.agenda.slots.used,r0.agenda.slots.free,r0.agenda.heap,r0.agenda.where_,r0.due)
def c67:bL:=⟨aC.cons (aN.agg bJ) (aC.cons (aN.agg dA) (aC.one (aN.sl gZ))),aN.tup (aC.cons (aN.agg bJ) (aC.one (aN.int .i64))),fun a=>mK a.1 a.2.1 a.2.2,.frz,false⟩
theorem aNY:aM aX 67 c67:=Oc aMA rfl aG [(26,c26),(26,RX),(113,aQt),(114,aNU),(68,c68),(115,aQy),(103,aHz),(116,aQA)] ⟨EX,AG,aHH,XP,aBt,aHK,PP,aHM,trivial⟩ fun a=>by kernel_rfl
def mL (p0:aJ) (p1:Field):Option (cE×Int):=
 (rW p1 p0.now).bind fun r0=>
 (CK r0).bind fun l1=>
 (mK p0 p1 l1).bind fun a2=>
 bif a2.2 !=0 then
  some (cE.mk (aJ.mk (0,0) (Field.mk []) (aT.mk 0 []) (aH.mk (aR.mk [] [] []) [] []) []) (mW.mk 0 []),a2.2)
 else
  some (cE.mk a2.1 r0,0)
def c32:bL:=⟨aC.cons (aN.agg bJ) (aC.one (aN.agg dA)),aN.tup (aC.cons (aN.agg eZ) (aC.one (aN.int .i64))),fun a=>mL a.1 a.2,.frz,false⟩
theorem aNZ:aM aX 32 c32:=Oc aMa rfl aG [(53,c53),(47,c47),(67,c67)] ⟨aBq,aBs,aNY,trivial⟩ fun a=>by kernel_rfl
def xH (p0:aJ) (p1:Int×Int):Option aJ:=
 (hZ p0).bind fun r0=>
 some (aJ.mk p1 r0.field r0.certs r0.agenda r0.due)
def c83:bL:=⟨aC.cons (aN.agg bJ) (aC.one (aN.agg (bZ.row gZ))),aN.agg bJ,fun a=>xH a.1 a.2,.frz,false⟩
theorem aN0:aM aX 83 c83:=Oc aMP rfl aG [(26,c26),(26,RX)] ⟨EX,AG,trivial⟩ fun a=>by kernel_rfl
abbrev Zt9:=Int×Int×Int×Int×Int×Int×Int×Int×bO×Int×bO×(List Int)×(List Bool)×(List Int)×jM×(List Int)×bO×Int×bO×pB
def gP (s:Zt9):Option (cL Zt9 aBk):=
 match s with
 |(a,b,d,e,f,g,h,i,j,k,l,m,n,o,q,r,t,u,v,w)=>
  (xD (aJ.mk (h,i) (Field.mk j) (aT.mk k l) (aH.mk (aR.mk m n o) q r) t) (a,b)).bind fun b0=>
  bif b0 then
   (uV (aJ.mk (h,i) (Field.mk j) (aT.mk k l) (aH.mk (aR.mk m n o) q r) t)).bind fun a1=>
   (mL a1.1 a1.1.field).bind fun a2=>
   bif a2.2 !=0 then
    some (.done (cE.mk (aJ.mk (0,0) (Field.mk []) (aT.mk 0 []) (aH.mk (aR.mk [] [] []) [] []) []) (mW.mk 0 []),[],a2.2))
   else
    (bI w [a1.2.2]).bind fun l3=>
    some (.next (a,b,d,e,f,g,a2.1.clock.now.1,a2.1.clock.now.2,a2.1.clock.field.points,a2.1.clock.certs.next_,a2.1.clock.certs.list,a2.1.clock.agenda.slots.uses,a2.1.clock.agenda.slots.used,a2.1.clock.agenda.slots.free,a2.1.clock.agenda.heap,a2.1.clock.agenda.where_,a2.1.clock.due,a2.1.tree.root,a2.1.tree.nodes,l3))
  else
   (pA (cE.mk (aJ.mk (h,i) (Field.mk j) (aT.mk k l) (aH.mk (aR.mk m n o) q r) t) (mW.mk u v))).bind fun r4=>
   (xH r4.clock (a,b)).bind fun r5=>
   some (.done (cE.mk r5 r4.tree,w,0))
def E4 (p0:cE) (p1:Int×Int):Option aBk:=
 aI gP (p1.1,p1.2,0,0,0,0,p0.clock.now.1,p0.clock.now.2,p0.clock.field.points,p0.clock.certs.next_,p0.clock.certs.list,p0.clock.agenda.slots.uses,p0.clock.agenda.slots.used,p0.clock.agenda.slots.free,p0.clock.agenda.heap,p0.clock.agenda.where_,p0.clock.due,p0.tree.root,p0.tree.nodes,[])
def c42:bL:=⟨aC.cons (aN.agg eZ) (aC.one (aN.agg (bZ.row gZ))),aN.tup (aC.cons (aN.agg eZ) (aC.cons (aN.sl gZ) (aC.one (aN.int .i64)))),fun a=>E4 a.1 a.2,.frz,false⟩
theorem aN1:aM aX 42 c42:=Oc aMk rfl aG [(81,c81),(82,c82),(32,c32),(7,c7),(7,c7p),(83,c83)] ⟨aNQ,aNV,aNZ,aIF,aA6,aN0,trivial⟩ fun a=>by kernel_rfl
def jX (p0:cE) (p1:Int×Int):Option aBk:=
 (tU p0).bind fun n0=>
 bif n0 !=0 then
  (tU p0).bind fun n1=>
  some (cE.mk (aJ.mk (0,0) (Field.mk []) (aT.mk 0 []) (aH.mk (aR.mk [] [] []) [] []) []) (mW.mk 0 []),[],n1)
 else
  (jS p0.clock p1).bind fun n2=>
  bif n2 !=0 then
   (jS p0.clock p1).bind fun n3=>
   some (cE.mk (aJ.mk (0,0) (Field.mk []) (aT.mk 0 []) (aH.mk (aR.mk [] [] []) [] []) []) (mW.mk 0 []),[],n3)
  else
   (E4 p0 p1).bind fun a4=>
   some a4
def c13:bL:=⟨aC.cons (aN.agg eZ) (aC.one (aN.agg (bZ.row gZ))),aN.tup (aC.cons (aN.agg eZ) (aC.cons (aN.sl gZ) (aC.one (aN.int .i64)))),fun a=>jX a.1 a.2,.frz,false⟩
theorem aN2:aM aX 13 c13:=Oc aL3 rfl aG [(23,c23),(41,c41),(42,c42)] ⟨aNO,aNP,aN1,trivial⟩ fun a=>by kernel_rfl
def sQ (s:aNM):Option aQl:=
 bif decide (s.1<(Int.ofNat s.2.2.1.length)) then
  (aQ s.2.2.1 s.1).bind fun a0=>
  (aQ s.2.2.2.2 s.1).bind fun a1=>
  bif !((a0.1==a1.1)&&((a0.2.1==a1.2.1)&&(a0.2.2==a1.2.2))) then
   some (.done false)
  else
   some (.next (aA .i64 (s.1+1),s.2))
 else
  some (.done true)
def AT (p0:aT) (p1:aT):Option Bool:=
 bif p0.next_ !=p1.next_ then
  some false
 else
  bif (Int.ofNat p0.list.length) !=(Int.ofNat p1.list.length) then
   some false
  else
   aI sQ (0,p0.next_,p0.list,p1.next_,p1.list)
def c69:bL:=⟨aC.cons (aN.agg gH) (aC.one (aN.agg gH)),aN.bool,fun a=>AT a.1 a.2,.pure,false⟩
theorem aN3:aM aX 69 c69:=Oc aMC rfl aG [] trivial fun a=>by kernel_rfl
def mP (s:((List Int)×(List Int)×Int)):Option (cL ((List Int)×(List Int)×Int) Bool):=
 bif decide (s.2.2<(Int.ofNat s.1.length)) then
  (aQ s.1 s.2.2).bind fun n0=>
  (aQ s.2.1 s.2.2).bind fun n1=>
  bif n0 !=n1 then
   some (.done false)
  else
   some (.next (s.1,s.2.1,aA .i64 (s.2.2+1)))
 else
  some (.done true)
def kW (p0:List Int) (p1:List Int):Option Bool:=
 bif (Int.ofNat p0.length) !=(Int.ofNat p1.length) then
  some false
 else
  aI mP (p0,p1,0)
def aN4:bL:=⟨aC.cons (aN.sl ki) (aC.one (aN.sl ki)),aN.bool,fun a=>kW a.1 a.2,.pure,false⟩
theorem XT:aM aX 118 aN4:=Oc aEV rfl aG [] trivial fun a=>by kernel_rfl
def lT (s:((List Bool)×(List Bool)×Int)):Option (cL ((List Bool)×(List Bool)×Int) Bool):=
 bif decide (s.2.2<(Int.ofNat s.1.length)) then
  (aQ s.1 s.2.2).bind fun b0=>
  (aQ s.2.1 s.2.2).bind fun b1=>
  bif !(b0==b1) then
   some (.done false)
  else
   some (.next (s.1,s.2.1,aA .i64 (s.2.2+1)))
 else
  some (.done true)
def oS (p0:List Bool) (p1:List Bool):Option Bool:=
 bif (Int.ofNat p0.length) !=(Int.ofNat p1.length) then
  some false
 else
  aI lT (p0,p1,0)
def aQD:bL:=⟨aC.cons (aN.sl kb) (aC.one (aN.sl kb)),aN.bool,fun a=>oS a.1 a.2,.pure,false⟩
theorem aHN:aM aX 172 aQD:=Oc aFI rfl aG [] trivial fun a=>by kernel_rfl
def E5 (p0:aR) (p1:aR):Option Bool:=
 (kW p0.uses p1.uses).bind fun b0=>
 bif b0 then
  (oS p0.used p1.used).bind fun b1=>
  bif b1 then
   (kW p0.free p1.free).bind fun b2=>
   some b2
  else
   some false
 else
  some false
def aQE:bL:=⟨aC.cons (aN.agg gG) (aC.one (aN.agg gG)),aN.bool,fun a=>E5 a.1 a.2,.pure,false⟩
theorem aHO:aM aX 117 aQE:=Oc aEU rfl aG [(118,aN4),(172,aQD)] ⟨XT,aHN,trivial⟩ fun a=>by kernel_rfl
abbrev aQF:=Int×(List Int)×(List Bool)×(List Int)×jM×(List Int)×(List Int)×(List Bool)×(List Int)×jM×(List Int)
def sR (s:aQF):Option (cL aQF Bool):=
 bif decide (s.1<(Int.ofNat s.2.2.2.2.1.length)) then
  (aQ s.2.2.2.2.1 s.1).bind fun a0=>
  (aQ s.2.2.2.2.2.2.2.2.2.1 s.1).bind fun a1=>
  bif !((a0.1==a1.1)&&((a0.2.1==a1.2.1)&&((a0.2.2.1==a1.2.2.1)&&((a0.2.2.2.1==a1.2.2.2.1)&&(a0.2.2.2.2==a1.2.2.2.2))))) then
   some (.done false)
  else
   some (.next (aA .i64 (s.1+1),s.2))
 else
  some (.done true)
def AU (p0:aH) (p1:aH):Option Bool:=
 (E5 p0.slots p1.slots).bind fun b0=>
 bif !b0 then
  some false
 else
  (kW p0.where_ p1.where_).bind fun b1=>
  bif !b1 then
   some false
  else
   bif (Int.ofNat p0.heap.length) !=(Int.ofNat p1.heap.length) then
    some false
   else
    aI sR (0,p0.slots.uses,p0.slots.used,p0.slots.free,p0.heap,p0.where_,p1.slots.uses,p1.slots.used,p1.slots.free,p1.heap,p1.where_)
def c70:bL:=⟨aC.cons (aN.agg cU) (aC.one (aN.agg cU)),aN.bool,fun a=>AU a.1 a.2,.pure,false⟩
theorem aN5:aM aX 70 c70:=Oc aMD rfl aG [(117,aQE),(118,aN4)] ⟨aHO,XT,trivial⟩ fun a=>by kernel_rfl
abbrev Zt5:=Int×Int×Int×bO×Int×bO×(List Int)×(List Bool)×(List Int)×jM×(List Int)×bO×Int×Int×bO×Int×bO×(List Int)×(List Bool)×(List Int)×jM×(List Int)×bO
def sS (s:Zt5):Option (cL Zt5 Bool):=
 bif decide (s.1<(Int.ofNat s.2.2.2.2.2.2.2.2.2.2.2.1.length)) then
  (aQ s.2.2.2.2.2.2.2.2.2.2.2.1 s.1).bind fun a0=>
  (aQ s.2.2.2.2.2.2.2.2.2.2.2.2.2.2.2.2.2.2.2.2.2.2 s.1).bind fun a1=>
  bif !((a0.1==a1.1)&&((a0.2.1==a1.2.1)&&(a0.2.2==a1.2.2))) then
   some (.done false)
  else
   some (.next (aA .i64 (s.1+1),s.2))
 else
  some (.done true)
def AV (p0:aJ) (p1:aJ):Option Bool:=
 bif !((p0.now.1==p1.now.1)&&(p0.now.2==p1.now.2)) then
  some false
 else
  (vX p0.field p1.field).bind fun b0=>
  bif !b0 then
   some false
  else
   (AT p0.certs p1.certs).bind fun b1=>
   bif !b1 then
    some false
   else
    (AU p0.agenda p1.agenda).bind fun b2=>
    bif !b2 then
     some false
    else
     bif (Int.ofNat p0.due.length) !=(Int.ofNat p1.due.length) then
      some false
     else
      aI sS (0,p0.now.1,p0.now.2,p0.field.points,p0.certs.next_,p0.certs.list,p0.agenda.slots.uses,p0.agenda.slots.used,p0.agenda.slots.free,p0.agenda.heap,p0.agenda.where_,p0.due,p1.now.1,p1.now.2,p1.field.points,p1.certs.next_,p1.certs.list,p1.agenda.slots.uses,p1.agenda.slots.used,p1.agenda.slots.free,p1.agenda.heap,p1.agenda.where_,p1.due)
def c33:bL:=⟨aC.cons (aN.agg bJ) (aC.one (aN.agg bJ)),aN.bool,fun a=>AV a.1 a.2,.pure,false⟩
theorem aN6:aM aX 33 c33:=Oc aMb rfl aG [(68,c68),(69,c69),(70,c70)] ⟨aBt,aN3,aN5,trivial⟩ fun a=>by kernel_rfl
def vY (p0:cE) (p1:cE):Option Bool:=
 (AV p0.clock p1.clock).bind fun b0=>
 bif b0 then
  (pQ p0.tree p1.tree).bind fun b1=>
  some b1
 else
  some false
def c10:bL:=⟨aC.cons (aN.agg eZ) (aC.one (aN.agg eZ)),aN.bool,fun a=>vY a.1 a.2,.pure,false⟩
theorem aN7:aM aX 10 c10:=Oc aL0 rfl aG [(33,c33),(34,c34)] ⟨aN6,aBr,trivial⟩ fun a=>by kernel_rfl
def lV (s:(pB×pB×Int)):Option (cL (pB×pB×Int) Bool):=
 bif decide (s.2.2<(Int.ofNat s.1.length)) then
  (aQ s.1 s.2.2).bind fun a0=>
  (aQ s.2.1 s.2.2).bind fun a1=>
  bif !((a0.1==a1.1)&&(a0.2==a1.2)) then
   some (.done false)
  else
   some (.next (s.1,s.2.1,aA .i64 (s.2.2+1)))
 else
  some (.done true)
def oT (p0:List (Int×Int)) (p1:List (Int×Int)):Option Bool:=
 bif (Int.ofNat p0.length) !=(Int.ofNat p1.length) then
  some false
 else
  aI lV (p0,p1,0)
def c14:bL:=⟨aC.cons (aN.sl gZ) (aC.one (aN.sl gZ)),aN.bool,fun a=>oT a.1 a.2,.pure,false⟩
theorem aN8:aM aX 14 c14:=Oc aL4 rfl aG [] trivial fun a=>by kernel_rfl
def qU (p0:cE) (p1:Int×Int):Option Bool:=
 (tJ p0).bind fun b0=>
 bif b0 then
  some true
 else
  (EW p0.clock.field).bind fun b1=>
  bif b1 then
   some true
  else
   (pA p0).bind fun r2=>
   (iS r2 p1).bind fun a3=>
   (jX p0 p1).bind fun a4=>
   (vY a3.1 a4.1).bind fun b5=>
   bif b5 then
    (oT a3.2.1 a4.2.1).bind fun b6=>
    bif b6 then
     bif a3.2.2==a4.2.2 then
      (vY r2 p0).bind fun b7=>
      some b7
     else
      some false
    else
     some false
   else
    some false
def c4:bL:=⟨aC.cons (aN.agg eZ) (aC.one (aN.agg (bZ.row gZ))),aN.bool,fun a=>qU a.1 a.2,.pure,false⟩
theorem aQG:aM aX 4 c4:=Oc aIC rfl aG [(6,c6),(11,c11),(7,c7),(7,c7p),(12,c12),(13,c13),(10,c10),(14,c14)] ⟨aOX,aM6,aIF,aA6,aNy,aN2,aN7,aN8,trivial⟩ fun a=>by kernel_rfl
end
end Go.Proofs.YticklbjcnimggaaGreat
