/- Plain functions for what the functions of the seat compute. Printed by a program. -/
import Derived.Test.YticklbjcnimggaaGreatEVm3
import Derived.Test.YticklbjcnimggaaGreatEQXT
import Derived.Test.YticklbjcnimggaaGreatEQS1
set_option maxRecDepth 100000
namespace Go.Proofs.YticklbjcnimggaaGreat
open Go.Vm
noncomputable section
def mW (a:aGY):Option aG0:=
 aG (gU a) (a.2.2.2.2.2.1,a.2.2.2.2.2.2.1,a.2.2.2.2.2.2.2,a.1,a.2.1,a.2.2.1,a.2.2.2.1,a.2.2.2.2.1)
def O5:dR:=⟨[.l [.i .i64],.l [.b],.l [.i .i64],.n,.n,.i,.l [.i .i64,.i .i64,.i .i64,.i .i64,.i .i64],.l [.i .i64]],[.agg [.sl [.i .i64] [],.sl [.b] [],.sl [.i .i64] [],.pre 0 0 0 false,.own 1 false],.int .i64 0],[.arr [.i .i64,.i .i64,.i .i64,.i .i64,.i .i64] [],.arr [.i .i64] []],[.i,.l [.i .i64,.i .i64,.i .i64,.i .i64,.i .i64],.l [.i .i64]],.int .i64 0,[.arr [.i .i64,.i .i64,.i .i64,.i .i64,.i .i64] [],.arr [.i .i64] []],fun a=>mW a⟩
theorem HH:jV aU 201 O5:=jV.of OO (wd:=true) (cx:=(nZ aF [(151,UD)] [(198,ET),(198,EU)] [] [])) (lG.make ⟨C5,trivial⟩ ⟨uQ,uR,trivial⟩ trivial) (fun a=>by kernel_rfl)
def jZ (c0:aGY) (s:aGZ):Option (cH aGZ L8):=
 bif decide ((Int.ofNat s.2.2.2.2.2.2.1)<=(aA .i64 ((aA .i64 (2*s.1))+1))) then
  bif s.2.1.length==c0.2.2.2.2.2.2.1.length then
   bif s.2.2.1.length==c0.2.2.2.2.2.2.2.length then
    some (.done (s.2.1,s.2.2.1))
   else
    none
  else
   none
 else
  bif decide ((aA .i64 ((aA .i64 ((aA .i64 (2*s.1))+1))+1))<(Int.ofNat s.2.2.2.2.2.2.1)) then
   (aN (s.2.1.take s.2.2.2.2.2.2.1) (aA .i64 ((aA .i64 ((aA .i64 (2*s.1))+1))+1))).bind fun a0=>
   (aN (s.2.1.take s.2.2.2.2.2.2.1) (aA .i64 ((aA .i64 (2*s.1))+1))).bind fun a1=>
   (eA a0 a1).bind fun b2=>
   bif b2 then
    (aN (s.2.1.take s.2.2.2.2.2.2.1) (aA .i64 ((aA .i64 ((aA .i64 (2*s.1))+1))+1))).bind fun a3=>
    (aN (s.2.1.take s.2.2.2.2.2.2.1) s.1).bind fun a4=>
    (eA a3 a4).bind fun b5=>
    bif !b5 then
     bif s.2.1.length==c0.2.2.2.2.2.2.1.length then
      bif s.2.2.1.length==c0.2.2.2.2.2.2.2.length then
       some (.done (s.2.1,s.2.2.1))
      else
       none
     else
      none
    else
     (gD (s.2.2.2.1,s.2.2.2.2.1,s.2.2.2.2.2.1,s.2.2.2.2.2.2.1,s.2.2.2.2.2.2.2,s.1,aA .i64 ((aA .i64 ((aA .i64 (2*s.1))+1))+1),s.2.1,s.2.2.1)).bind fun a6=>
     some (.next (aA .i64 ((aA .i64 ((aA .i64 (2*s.1))+1))+1),a6.1,a6.2,s.2.2.2))
   else
    (aN (s.2.1.take s.2.2.2.2.2.2.1) (aA .i64 ((aA .i64 (2*s.1))+1))).bind fun a7=>
    (aN (s.2.1.take s.2.2.2.2.2.2.1) s.1).bind fun a8=>
    (eA a7 a8).bind fun b9=>
    bif !b9 then
     bif s.2.1.length==c0.2.2.2.2.2.2.1.length then
      bif s.2.2.1.length==c0.2.2.2.2.2.2.2.length then
       some (.done (s.2.1,s.2.2.1))
      else
       none
     else
      none
    else
     (gD (s.2.2.2.1,s.2.2.2.2.1,s.2.2.2.2.2.1,s.2.2.2.2.2.2.1,s.2.2.2.2.2.2.2,s.1,aA .i64 ((aA .i64 (2*s.1))+1),s.2.1,s.2.2.1)).bind fun a10=>
     some (.next (aA .i64 ((aA .i64 (2*s.1))+1),a10.1,a10.2,s.2.2.2))
  else
   (aN (s.2.1.take s.2.2.2.2.2.2.1) (aA .i64 ((aA .i64 (2*s.1))+1))).bind fun a11=>
   (aN (s.2.1.take s.2.2.2.2.2.2.1) s.1).bind fun a12=>
   (eA a11 a12).bind fun b13=>
   bif !b13 then
    bif s.2.1.length==c0.2.2.2.2.2.2.1.length then
     bif s.2.2.1.length==c0.2.2.2.2.2.2.2.length then
      some (.done (s.2.1,s.2.2.1))
     else
      none
    else
     none
   else
    (gD (s.2.2.2.1,s.2.2.2.2.1,s.2.2.2.2.2.1,s.2.2.2.2.2.2.1,s.2.2.2.2.2.2.2,s.1,aA .i64 ((aA .i64 (2*s.1))+1),s.2.1,s.2.2.1)).bind fun a14=>
    some (.next (aA .i64 ((aA .i64 (2*s.1))+1),a14.1,a14.2,s.2.2.2))
def kO (a:aGY):Option L8:=
 aG (jZ a) (a.2.2.2.2.2.1,a.2.2.2.2.2.2.1,a.2.2.2.2.2.2.2,a.1,a.2.1,a.2.2.1,a.2.2.2.1,a.2.2.2.2.1)
def UE:dR:=⟨[.l [.i .i64],.l [.b],.l [.i .i64],.n,.n,.i,.l [.i .i64,.i .i64,.i .i64,.i .i64,.i .i64],.l [.i .i64]],[.agg [.sl [.i .i64] [],.sl [.b] [],.sl [.i .i64] [],.pre 0 0 0 false,.own 1 false],.int .i64 0],[.arr [.i .i64,.i .i64,.i .i64,.i .i64,.i .i64] [],.arr [.i .i64] []],[.l [.i .i64,.i .i64,.i .i64,.i .i64,.i .i64],.l [.i .i64]],.tup [],[.arr [.i .i64,.i .i64,.i .i64,.i .i64,.i .i64] [],.arr [.i .i64] []],fun a=>kO a⟩
theorem M8:jV aU 200 UE:=jV.of V8 (wd:=false) (cx:=(nZ aF [(151,UD)] [(198,ET),(198,EU)] [] [])) (lG.make ⟨C5,trivial⟩ ⟨uQ,uR,trivial⟩ trivial) (fun a=>by kernel_rfl)
def jP (p0:aH) (p1:Int×Int):Option aH:=
 (lI p0).bind fun r0=>
 (aN r0.where_ p1.1).bind fun n1=>
 bif n1 !=(aA .i64 ((Int.ofNat r0.heap.length) -1)) then
  (fG (n1,aA .i64 ((Int.ofNat r0.heap.length) -1),r0.slots.uses,r0.slots.used,r0.slots.free,r0.heap,r0.where_)).bind fun a2=>
  (iI a2.2.2.2.1 0 (aA .i64 ((Int.ofNat r0.heap.length) -1))).bind fun _=>
  (aN a2.2.2.2.2 p1.1).bind fun _=>
  (pI (aQ.mk a2.1 a2.2.1 a2.2.2.1) p1).bind fun r5=>
  bif n1 !=(aA .i64 ((Int.ofNat r0.heap.length) -1)) then
   (mW (r5.uses,r5.used,r5.free,(aA .i64 ((Int.ofNat r0.heap.length) -1)).toNat,a2.2.2.2.1.length,n1,a2.2.2.2.1,bU a2.2.2.2.2 p1.1 (-1))).bind fun a6=>
   (kO (r5.uses,r5.used,r5.free,(aA .i64 ((Int.ofNat r0.heap.length) -1)).toNat,a2.2.2.2.1.length,a6)).bind fun a7=>
   some (aH.mk r5 (a7.1.take ((aA .i64 ((Int.ofNat r0.heap.length) -1)).toNat)) a7.2)
  else
   some (aH.mk r5 (a2.2.2.2.1.take ((aA .i64 ((Int.ofNat r0.heap.length) -1)).toNat)) (bU a2.2.2.2.2 p1.1 (-1)))
 else
  (iI r0.heap 0 (aA .i64 ((Int.ofNat r0.heap.length) -1))).bind fun _=>
  (aN r0.where_ p1.1).bind fun _=>
  (pI r0.slots p1).bind fun r10=>
  bif n1 !=(aA .i64 ((Int.ofNat r0.heap.length) -1)) then
   (mW (r10.uses,r10.used,r10.free,(aA .i64 ((Int.ofNat r0.heap.length) -1)).toNat,r0.heap.length,n1,r0.heap,bU r0.where_ p1.1 (-1))).bind fun a11=>
   (kO (r10.uses,r10.used,r10.free,(aA .i64 ((Int.ofNat r0.heap.length) -1)).toNat,r0.heap.length,a11)).bind fun a12=>
   some (aH.mk r10 (a12.1.take ((aA .i64 ((Int.ofNat r0.heap.length) -1)).toNat)) a12.2)
  else
   some (aH.mk r10 (r0.heap.take ((aA .i64 ((Int.ofNat r0.heap.length) -1)).toNat)) (bU r0.where_ p1.1 (-1)))
def aMX:bM:=⟨aB.cons (aL.agg cY) (aB.one (aL.agg (cJ.row jM))),aL.agg cY,fun a=>jP a.1 a.2,.frz,false⟩
theorem W0:aK aU 167 aMX:=aK.of aEW (cx:=(nZ aF [(58,c58),(58,YJ),(199,aPt)] [(198,ET),(198,EU),(201,O5),(200,UE)] [] [])) rfl (lG.make ⟨K2,F2,aGX,trivial⟩ ⟨uQ,uR,HH,M8,trivial⟩ trivial) (fun a=>by kernel_rfl)
def vP (p0:aP) (p1:Int):Option aP:=
 (iK p0).bind fun r0=>
 (sD p0.certs p1).bind fun r1=>
 (pH p0 p1).bind fun n2=>
 bif decide (0<=n2) then
  (aN p0.due n2).bind fun a3=>
  (jP p0.agenda a3.2).bind fun r4=>
  (iI p0.due 0 n2).bind fun l5=>
  (bX l5).bind fun l6=>
  (iI p0.due (aA .i64 (n2+1)) (Int.ofNat p0.due.length)).bind fun l7=>
  bif l7.isEmpty then
   some (aP.mk r0.now r0.field r1 r4 l6)
  else
   (bH l6 l7).bind fun l8=>
   some (aP.mk r0.now r0.field r1 r4 l8)
 else
  some (aP.mk r0.now r0.field r1 r0.agenda r0.due)
def aPu:bM:=⟨aB.cons (aL.agg bQ) (aB.one (aL.int .i64)),aL.agg bQ,fun a=>vP a.1 a.2,.frz,false⟩
theorem aG1:aK aU 114 aPu:=Oc aEc rfl aF [(26,c26),(26,T0),(165,aPs),(166,aMV),(167,aMX)] ⟨HE,CZ,aGW,WZ,W0,trivial⟩ fun a=>by kernel_rfl
def sE (s:(Int×bN×bN)):Option (cH (Int×bN×bN) Bool):=
 bif decide (s.1<(Int.ofNat s.2.1.length)) then
  (aN s.2.1 s.1).bind fun a0=>
  (aN s.2.2 s.1).bind fun a1=>
  bif !((a0.1==a1.1)&&((a0.2.1==a1.2.1)&&(a0.2.2==a1.2.2))) then
   some (.done false)
  else
   some (.next (aA .i64 (s.1+1),s.2))
 else
  some (.done true)
def vQ (p0:Field) (p1:Field):Option Bool:=
 bif (Int.ofNat p0.points.length) !=(Int.ofNat p1.points.length) then
  some false
 else
  aG sE (0,p0.points,p1.points)
def c68:bM:=⟨aB.cons (aL.agg bZ) (aB.one (aL.agg bZ)),aL.bool,fun a=>vQ a.1 a.2,.pure,false⟩
theorem aAV:aK aU 68 c68:=Oc aLI rfl aF [] trivial fun a=>by kernel_rfl
def gV (c0:F5) (s:F5):Option (cH F5 F5):=
 bif decide (0<s.1) then
  (aN s.2.2.2.2.1 s.1).bind fun a0=>
  (aN s.2.2.2.2.1 (aA .i64 (Int.tdiv (aA .i64 (s.1-1)) 2))).bind fun a1=>
  (eA a0 a1).bind fun b2=>
  bif b2 then
   (fG (s.1,aA .i64 (Int.tdiv (aA .i64 (s.1-1)) 2),s.2)).bind fun a3=>
   some (.next (aA .i64 (Int.tdiv (aA .i64 (s.1-1)) 2),a3))
  else
   bif s.2.1.length==c0.2.1.length then
    bif s.2.2.1.length==c0.2.2.1.length then
     bif s.2.2.2.1.length==c0.2.2.2.1.length then
      bif s.2.2.2.2.1.length==c0.2.2.2.2.1.length then
       bif s.2.2.2.2.2.length==c0.2.2.2.2.2.length then
        some (.done s)
       else
        none
      else
       none
     else
      none
    else
     none
   else
    none
 else
  bif s.2.1.length==c0.2.1.length then
   bif s.2.2.1.length==c0.2.2.1.length then
    bif s.2.2.2.1.length==c0.2.2.2.1.length then
     bif s.2.2.2.2.1.length==c0.2.2.2.2.1.length then
      bif s.2.2.2.2.2.length==c0.2.2.2.2.2.length then
       some (.done s)
      else
       none
     else
      none
    else
     none
   else
    none
  else
   none
def qH (a:F5):Option F5:=
 aG (gV a) a
def UF:dR:=⟨[.i,.l [.i .i64],.l [.b],.l [.i .i64],.l [.i .i64,.i .i64,.i .i64,.i .i64,.i .i64],.l [.i .i64]],[.agg [.own 0 false,.own 1 false,.own 2 false,.own 3 false,.own 4 false],.int .i64 0],[.arr [.i .i64] [],.arr [.b] [],.arr [.i .i64] [],.arr [.i .i64,.i .i64,.i .i64,.i .i64,.i .i64] [],.arr [.i .i64] []],[.i,.l [.i .i64],.l [.b],.l [.i .i64],.l [.i .i64,.i .i64,.i .i64,.i .i64,.i .i64],.l [.i .i64]],.int .i64 0,[.arr [.i .i64] [],.arr [.b] [],.arr [.i .i64] [],.arr [.i .i64,.i .i64,.i .i64,.i .i64,.i .i64] [],.arr [.i .i64] []],fun a=>qH a⟩
theorem M9:jV aU 201 UF:=jV.of OO (wd:=false) (cx:=(nZ aF [(151,UD)] [(198,ET),(198,EU)] [] [])) (lG.make ⟨C5,trivial⟩ ⟨uQ,uR,trivial⟩ trivial) (fun a=>by kernel_rfl)
def kA (c0:F5) (s:F5):Option (cH F5 aMW):=
 bif decide ((Int.ofNat s.2.2.2.2.1.length)<=(aA .i64 ((aA .i64 (2*s.1))+1))) then
  bif s.2.1.length==c0.2.1.length then
   bif s.2.2.1.length==c0.2.2.1.length then
    bif s.2.2.2.1.length==c0.2.2.2.1.length then
     bif s.2.2.2.2.1.length==c0.2.2.2.2.1.length then
      bif s.2.2.2.2.2.length==c0.2.2.2.2.2.length then
       some (.done s.2)
      else
       none
     else
      none
    else
     none
   else
    none
  else
   none
 else
  bif decide ((aA .i64 ((aA .i64 ((aA .i64 (2*s.1))+1))+1))<(Int.ofNat s.2.2.2.2.1.length)) then
   (aN s.2.2.2.2.1 (aA .i64 ((aA .i64 ((aA .i64 (2*s.1))+1))+1))).bind fun a0=>
   (aN s.2.2.2.2.1 (aA .i64 ((aA .i64 (2*s.1))+1))).bind fun a1=>
   (eA a0 a1).bind fun b2=>
   bif b2 then
    (aN s.2.2.2.2.1 (aA .i64 ((aA .i64 ((aA .i64 (2*s.1))+1))+1))).bind fun a3=>
    (aN s.2.2.2.2.1 s.1).bind fun a4=>
    (eA a3 a4).bind fun b5=>
    bif !b5 then
     bif s.2.1.length==c0.2.1.length then
      bif s.2.2.1.length==c0.2.2.1.length then
       bif s.2.2.2.1.length==c0.2.2.2.1.length then
        bif s.2.2.2.2.1.length==c0.2.2.2.2.1.length then
         bif s.2.2.2.2.2.length==c0.2.2.2.2.2.length then
          some (.done s.2)
         else
          none
        else
         none
       else
        none
      else
       none
     else
      none
    else
     (fG (s.1,aA .i64 ((aA .i64 ((aA .i64 (2*s.1))+1))+1),s.2)).bind fun a6=>
     some (.next (aA .i64 ((aA .i64 ((aA .i64 (2*s.1))+1))+1),a6))
   else
    (aN s.2.2.2.2.1 (aA .i64 ((aA .i64 (2*s.1))+1))).bind fun a7=>
    (aN s.2.2.2.2.1 s.1).bind fun a8=>
    (eA a7 a8).bind fun b9=>
    bif !b9 then
     bif s.2.1.length==c0.2.1.length then
      bif s.2.2.1.length==c0.2.2.1.length then
       bif s.2.2.2.1.length==c0.2.2.2.1.length then
        bif s.2.2.2.2.1.length==c0.2.2.2.2.1.length then
         bif s.2.2.2.2.2.length==c0.2.2.2.2.2.length then
          some (.done s.2)
         else
          none
        else
         none
       else
        none
      else
       none
     else
      none
    else
     (fG (s.1,aA .i64 ((aA .i64 (2*s.1))+1),s.2)).bind fun a10=>
     some (.next (aA .i64 ((aA .i64 (2*s.1))+1),a10))
  else
   (aN s.2.2.2.2.1 (aA .i64 ((aA .i64 (2*s.1))+1))).bind fun a11=>
   (aN s.2.2.2.2.1 s.1).bind fun a12=>
   (eA a11 a12).bind fun b13=>
   bif !b13 then
    bif s.2.1.length==c0.2.1.length then
     bif s.2.2.1.length==c0.2.2.1.length then
      bif s.2.2.2.1.length==c0.2.2.2.1.length then
       bif s.2.2.2.2.1.length==c0.2.2.2.2.1.length then
        bif s.2.2.2.2.2.length==c0.2.2.2.2.2.length then
         some (.done s.2)
        else
         none
       else
        none
      else
       none
     else
      none
    else
     none
   else
    (fG (s.1,aA .i64 ((aA .i64 (2*s.1))+1),s.2)).bind fun a14=>
    some (.next (aA .i64 ((aA .i64 (2*s.1))+1),a14))
def nK (a:F5):Option aMW:=
 aG (kA a) a
def aAW:dR:=⟨[.i,.l [.i .i64],.l [.b],.l [.i .i64],.l [.i .i64,.i .i64,.i .i64,.i .i64,.i .i64],.l [.i .i64]],[.agg [.own 0 false,.own 1 false,.own 2 false,.own 3 false,.own 4 false],.int .i64 0],[.arr [.i .i64] [],.arr [.b] [],.arr [.i .i64] [],.arr [.i .i64,.i .i64,.i .i64,.i .i64,.i .i64] [],.arr [.i .i64] []],[.l [.i .i64],.l [.b],.l [.i .i64],.l [.i .i64,.i .i64,.i .i64,.i .i64,.i .i64],.l [.i .i64]],.tup [],[.arr [.i .i64] [],.arr [.b] [],.arr [.i .i64] [],.arr [.i .i64,.i .i64,.i .i64,.i .i64,.i .i64] [],.arr [.i .i64] []],fun a=>nK a⟩
theorem YS:jV aU 200 aAW:=jV.of V8 (wd:=false) (cx:=(nZ aF [(151,UD)] [(198,ET),(198,EU)] [] [])) (lG.make ⟨C5,trivial⟩ ⟨uQ,uR,trivial⟩ trivial) (fun a=>by kernel_rfl)
def sF (p0:aH) (p1:Int×Int) (p2:Int×Int):Option aH:=
 (lI p0).bind fun r0=>
 (aN r0.where_ p1.1).bind fun n1=>
 (aN r0.heap n1).bind fun a2=>
 (qH (n1,r0.slots.uses,r0.slots.used,r0.slots.free,bU r0.heap n1 (p2.1,p2.2,a2.2.2),r0.where_)).bind fun a3=>
 (nK a3).bind fun a4=>
 some (aH.mk (aQ.mk a4.1 a4.2.1 a4.2.2.1) a4.2.2.2.1 a4.2.2.2.2)
def aPv:bM:=⟨aB.cons (aL.agg cY) (aB.cons (aL.agg (cJ.row jM)) (aB.one (aL.agg (cJ.row jM)))),aL.agg cY,fun a=>sF a.1 a.2.1 a.2.2,.frz,false⟩
theorem aG2:aK aU 168 aPv:=aK.of aEX (cx:=(nZ aF [(58,c58),(58,YJ)] [(201,O5),(200,UE),(201,UF),(200,aAW)] [] [])) rfl (lG.make ⟨K2,F2,trivial⟩ ⟨HH,M8,M9,YS,trivial⟩ trivial) (fun a=>by kernel_rfl)
def gE (p0:aQ):Option Bool:=
 bif decide (0<(Int.ofNat p0.free.length)) then
  (aN p0.free (aA .i64 ((Int.ofNat p0.free.length) -1))).bind fun n0=>
  (aN p0.uses n0).bind fun n1=>
  some (decide (n1<1000000))
 else
  some false
def aMY:bM:=⟨aB.one (aL.agg fY),aL.bool,fun a=>gE a,.pure,false⟩
theorem W3:aK aU 169 aMY:=Oc aEY rfl aF [] trivial fun a=>by kernel_rfl
def wZ (p0:aQ):Option (aQ×(Int×Int)):=
 (mM p0).bind fun r0=>
 (aN r0.free (aA .i64 ((Int.ofNat r0.free.length) -1))).bind fun n1=>
 (iI r0.free 0 (aA .i64 ((Int.ofNat r0.free.length) -1))).bind fun _=>
 (aN r0.uses n1).bind fun n3=>
 (aN r0.uses n1).bind fun _=>
 (aN r0.used n1).bind fun _=>
 (aN (bU r0.uses n1 (aA .i64 (n3+1))) n1).bind fun n6=>
 some (aQ.mk (bU r0.uses n1 (aA .i64 (n3+1))) (bU r0.used n1 true) (r0.free.take ((aA .i64 ((Int.ofNat r0.free.length) -1)).toNat)),n1,n6)
def aPw:bM:=⟨aB.one (aL.agg fY),aL.tup (aB.cons (aL.agg fY) (aB.one (aL.agg (cJ.row jM)))),fun a=>wZ a,.frz,false⟩
theorem aG3:aK aU 202 aPw:=Oc aFr rfl aF [(106,aAw),(106,Q9)] ⟨I6,F1,trivial⟩ fun a=>by kernel_rfl
def nL (a:((List Int)×(List Bool)×(List Int)×Int×Int×jW×(List Int))):Option L8:=
 (aN a.2.2.2.2.2.1 a.2.2.2.2.1).bind fun a0=>
 (aN a.2.2.2.2.2.1 a.2.2.2.1).bind fun a1=>
 (aN a.2.2.2.2.2.1 a.2.2.2.1).bind fun _=>
 (aN (bU a.2.2.2.2.2.1 a.2.2.2.1 a0) a.2.2.2.2.1).bind fun _=>
 (aN (bU (bU a.2.2.2.2.2.1 a.2.2.2.1 a0) a.2.2.2.2.1 a1) a.2.2.2.1).bind fun a4=>
 (aN (bU (bU a.2.2.2.2.2.1 a.2.2.2.1 a0) a.2.2.2.2.1 a1) a.2.2.2.2.1).bind fun a5=>
 (aN a.2.2.2.2.2.2 a4.2.2.2.1).bind fun _=>
 (aN (bU a.2.2.2.2.2.2 a4.2.2.2.1 a.2.2.2.1) a5.2.2.2.1).bind fun _=>
 bif ((bU (bU a.2.2.2.2.2.1 a.2.2.2.1 a0) a.2.2.2.2.1 a1).length)==a.2.2.2.2.2.1.length then
  bif ((bU (bU a.2.2.2.2.2.2 a4.2.2.2.1 a.2.2.2.1) a5.2.2.2.1 a.2.2.2.2.1).length)==a.2.2.2.2.2.2.length then
   some (bU (bU a.2.2.2.2.2.1 a.2.2.2.1 a0) a.2.2.2.2.1 a1,bU (bU a.2.2.2.2.2.2 a4.2.2.2.1 a.2.2.2.1) a5.2.2.2.1 a.2.2.2.2.1)
  else
   none
 else
  none
def aAX:dR:=⟨[.l [.i .i64],.l [.b],.l [.i .i64],.i,.i,.l [.i .i64,.i .i64,.i .i64,.i .i64,.i .i64],.l [.i .i64]],[.agg [.sl [.i .i64] [],.sl [.b] [],.sl [.i .i64] [],.own 0 false,.own 1 false],.int .i64 0,.int .i64 0],[.arr [.i .i64,.i .i64,.i .i64,.i .i64,.i .i64] [],.arr [.i .i64] []],[.l [.i .i64,.i .i64,.i .i64,.i .i64,.i .i64],.l [.i .i64]],.tup [],[.arr [.i .i64,.i .i64,.i .i64,.i .i64,.i .i64] [],.arr [.i .i64] []],fun a=>nL a⟩
theorem YT:jV aU 198 aAX:=jV.of ON (wd:=false) (cx:=(nZ aF [] [] [] [])) (lG.make trivial trivial trivial) (fun a=>by kernel_rfl)
abbrev aPx:=(List Int)×(List Bool)×(List Int)×Int×jW×(List Int)
abbrev aPy:=Int×jW×(List Int)×(List Int)×(List Bool)×(List Int)
def gW (c0:aPx) (s:aPy):Option (cH aPy aG0):=
 bif decide (0<s.1) then
  (aN s.2.1 s.1).bind fun a0=>
  (aN s.2.1 (aA .i64 (Int.tdiv (aA .i64 (s.1-1)) 2))).bind fun a1=>
  (eA a0 a1).bind fun b2=>
  bif b2 then
   (nL (s.2.2.2.1,s.2.2.2.2.1,s.2.2.2.2.2,s.1,aA .i64 (Int.tdiv (aA .i64 (s.1-1)) 2),s.2.1,s.2.2.1)).bind fun a3=>
   some (.next (aA .i64 (Int.tdiv (aA .i64 (s.1-1)) 2),a3.1,a3.2,s.2.2.2))
  else
   bif s.2.1.length==c0.2.2.2.2.1.length then
    bif s.2.2.1.length==c0.2.2.2.2.2.length then
     some (.done (s.1,s.2.1,s.2.2.1))
    else
     none
   else
    none
 else
  bif s.2.1.length==c0.2.2.2.2.1.length then
   bif s.2.2.1.length==c0.2.2.2.2.2.length then
    some (.done (s.1,s.2.1,s.2.2.1))
   else
    none
  else
   none
def qI (a:aPx):Option aG0:=
 aG (gW a) (a.2.2.2.1,a.2.2.2.2.1,a.2.2.2.2.2,a.1,a.2.1,a.2.2.1)
def aAY:dR:=⟨[.l [.i .i64],.l [.b],.l [.i .i64],.i,.l [.i .i64,.i .i64,.i .i64,.i .i64,.i .i64],.l [.i .i64]],[.agg [.sl [.i .i64] [],.sl [.b] [],.sl [.i .i64] [],.own 0 false,.own 1 false],.int .i64 0],[.arr [.i .i64,.i .i64,.i .i64,.i .i64,.i .i64] [],.arr [.i .i64] []],[.i,.l [.i .i64,.i .i64,.i .i64,.i .i64,.i .i64],.l [.i .i64]],.int .i64 0,[.arr [.i .i64,.i .i64,.i .i64,.i .i64,.i .i64] [],.arr [.i .i64] []],fun a=>qI a⟩
theorem YU:jV aU 201 aAY:=jV.of OO (wd:=true) (cx:=(nZ aF [(151,UD)] [(198,ET),(198,EU),(198,aAX)] [] [])) (lG.make ⟨C5,trivial⟩ ⟨uQ,uR,YT,trivial⟩ trivial) (fun a=>by kernel_rfl)
def eG (p0:aH) (p1:Int×Int) (p2:Int):Option (aH×(Int×Int)):=
 (lI p0).bind fun r0=>
 (wZ r0.slots).bind fun a1=>
 (bH r0.heap [(p1.1,p1.2,p2,a1.2)]).bind fun l2=>
 (aN r0.where_ a1.2.1).bind fun _=>
 (qI (a1.1.uses,a1.1.used,a1.1.free,aA .i64 ((Int.ofNat l2.length) -1),l2,bU r0.where_ a1.2.1 (aA .i64 ((Int.ofNat l2.length) -1)))).bind fun a4=>
 some (aH.mk a1.1 a4.2.1 a4.2.2,a1.2)
def aMZ:bM:=⟨aB.cons (aL.agg cY) (aB.cons (aL.agg (cJ.row jM)) (aB.one (aL.int .i64))),aL.tup (aB.cons (aL.agg cY) (aB.one (aL.agg (cJ.row jM)))),fun a=>eG a.1 a.2.1 a.2.2,.frz,false⟩
theorem W4:aK aU 170 aMZ:=aK.of aEZ (cx:=(nZ aF [(58,c58),(58,YJ),(202,aPw)] [(201,O5),(201,UF),(201,aAY)] [] [])) rfl (lG.make ⟨K2,F2,aG3,trivial⟩ ⟨HH,M9,YU,trivial⟩ trivial) (fun a=>by kernel_rfl)
abbrev Zt4:=Int×Int×Int×bN×Int×bN×(List Int)×(List Bool)×(List Int)×jW×(List Int)×bN×bN×Int×Int×Int×Int×Int×bN×Int×bN×(List Int)×(List Bool)×(List Int)×jW×(List Int)×bN
def cI (s:Zt4):Option (cH Zt4 (aP×Int)):=
 match s with
 |(a,b,d,e,f,g,h,i,j,k,l,m,n,o,q,r,t,u,v,w,x,y,z,A,B,C,D)=>
  bif decide (a<(Int.ofNat g.length)) then
   (aN g a).bind fun a0=>
   (pH (aP.mk (b,d) (Field.mk e) (aV.mk f g) (aH.mk (aQ.mk h i j) k l) m) a0.1).bind fun n1=>
   (rH (Field.mk n) a0.2 (b,d)).bind fun a2=>
   bif a2.2 then
    bif decide (0<=n1) then
     (aN m n1).bind fun a3=>
     (sF (aH.mk (aQ.mk y z A) B C) a3.2 a2.1).bind fun r4=>
     (aN m n1).bind fun a5=>
     (bH D [a5]).bind fun l6=>
     bif !a2.2 then
      bif decide (0<=n1) then
       (aN m n1).bind fun a7=>
       (jP r4 a7.2).bind fun r8=>
       bif !a2.2 then
        some (.next (aA .i64 (a+1),b,d,e,f,g,h,i,j,k,l,m,n,o,q,r,t,u,v,w,x,r8.slots.uses,r8.slots.used,r8.slots.free,r8.heap,r8.where_,l6))
       else
        bif decide (0<=n1) then
         some (.next (aA .i64 (a+1),b,d,e,f,g,h,i,j,k,l,m,n,o,q,r,t,u,v,w,x,r8.slots.uses,r8.slots.used,r8.slots.free,r8.heap,r8.where_,l6))
        else
         (gE r8.slots).bind fun b9=>
         bif !b9 then
          some (.done (aP.mk (0,0) (Field.mk []) (aV.mk 0 []) (aH.mk (aQ.mk [] [] []) [] []) [],18))
         else
          (eG r8 a2.1 a0.1).bind fun a10=>
          (bH l6 [(a0.1,a10.2)]).bind fun l11=>
          some (.next (aA .i64 (a+1),b,d,e,f,g,h,i,j,k,l,m,n,o,q,r,t,u,v,w,x,a10.1.slots.uses,a10.1.slots.used,a10.1.slots.free,a10.1.heap,a10.1.where_,l11))
      else
       bif !a2.2 then
        some (.next (aA .i64 (a+1),b,d,e,f,g,h,i,j,k,l,m,n,o,q,r,t,u,v,w,x,r4.slots.uses,r4.slots.used,r4.slots.free,r4.heap,r4.where_,l6))
       else
        bif decide (0<=n1) then
         some (.next (aA .i64 (a+1),b,d,e,f,g,h,i,j,k,l,m,n,o,q,r,t,u,v,w,x,r4.slots.uses,r4.slots.used,r4.slots.free,r4.heap,r4.where_,l6))
        else
         (gE r4.slots).bind fun b12=>
         bif !b12 then
          some (.done (aP.mk (0,0) (Field.mk []) (aV.mk 0 []) (aH.mk (aQ.mk [] [] []) [] []) [],18))
         else
          (eG r4 a2.1 a0.1).bind fun a13=>
          (bH l6 [(a0.1,a13.2)]).bind fun l14=>
          some (.next (aA .i64 (a+1),b,d,e,f,g,h,i,j,k,l,m,n,o,q,r,t,u,v,w,x,a13.1.slots.uses,a13.1.slots.used,a13.1.slots.free,a13.1.heap,a13.1.where_,l14))
     else
      bif !a2.2 then
       some (.next (aA .i64 (a+1),b,d,e,f,g,h,i,j,k,l,m,n,o,q,r,t,u,v,w,x,r4.slots.uses,r4.slots.used,r4.slots.free,r4.heap,r4.where_,l6))
      else
       bif decide (0<=n1) then
        some (.next (aA .i64 (a+1),b,d,e,f,g,h,i,j,k,l,m,n,o,q,r,t,u,v,w,x,r4.slots.uses,r4.slots.used,r4.slots.free,r4.heap,r4.where_,l6))
       else
        (gE r4.slots).bind fun b15=>
        bif !b15 then
         some (.done (aP.mk (0,0) (Field.mk []) (aV.mk 0 []) (aH.mk (aQ.mk [] [] []) [] []) [],18))
        else
         (eG r4 a2.1 a0.1).bind fun a16=>
         (bH l6 [(a0.1,a16.2)]).bind fun l17=>
         some (.next (aA .i64 (a+1),b,d,e,f,g,h,i,j,k,l,m,n,o,q,r,t,u,v,w,x,a16.1.slots.uses,a16.1.slots.used,a16.1.slots.free,a16.1.heap,a16.1.where_,l17))
    else
     bif !a2.2 then
      bif decide (0<=n1) then
       (aN m n1).bind fun a18=>
       (jP (aH.mk (aQ.mk y z A) B C) a18.2).bind fun r19=>
       bif !a2.2 then
        some (.next (aA .i64 (a+1),b,d,e,f,g,h,i,j,k,l,m,n,o,q,r,t,u,v,w,x,r19.slots.uses,r19.slots.used,r19.slots.free,r19.heap,r19.where_,D))
       else
        bif decide (0<=n1) then
         some (.next (aA .i64 (a+1),b,d,e,f,g,h,i,j,k,l,m,n,o,q,r,t,u,v,w,x,r19.slots.uses,r19.slots.used,r19.slots.free,r19.heap,r19.where_,D))
        else
         (gE r19.slots).bind fun b20=>
         bif !b20 then
          some (.done (aP.mk (0,0) (Field.mk []) (aV.mk 0 []) (aH.mk (aQ.mk [] [] []) [] []) [],18))
         else
          (eG r19 a2.1 a0.1).bind fun a21=>
          (bH D [(a0.1,a21.2)]).bind fun l22=>
          some (.next (aA .i64 (a+1),b,d,e,f,g,h,i,j,k,l,m,n,o,q,r,t,u,v,w,x,a21.1.slots.uses,a21.1.slots.used,a21.1.slots.free,a21.1.heap,a21.1.where_,l22))
      else
       bif !a2.2 then
        some (.next (aA .i64 (a+1),(b,d,e,f,g,h,i,j,k,l,m,n,o,q,r,t,u,v,w,x,y,z,A,B,C,D)))
       else
        bif decide (0<=n1) then
         some (.next (aA .i64 (a+1),(b,d,e,f,g,h,i,j,k,l,m,n,o,q,r,t,u,v,w,x,y,z,A,B,C,D)))
        else
         (gE (aQ.mk y z A)).bind fun b23=>
         bif !b23 then
          some (.done (aP.mk (0,0) (Field.mk []) (aV.mk 0 []) (aH.mk (aQ.mk [] [] []) [] []) [],18))
         else
          (eG (aH.mk (aQ.mk y z A) B C) a2.1 a0.1).bind fun a24=>
          (bH D [(a0.1,a24.2)]).bind fun l25=>
          some (.next (aA .i64 (a+1),b,d,e,f,g,h,i,j,k,l,m,n,o,q,r,t,u,v,w,x,a24.1.slots.uses,a24.1.slots.used,a24.1.slots.free,a24.1.heap,a24.1.where_,l25))
     else
      bif !a2.2 then
       some (.next (aA .i64 (a+1),(b,d,e,f,g,h,i,j,k,l,m,n,o,q,r,t,u,v,w,x,y,z,A,B,C,D)))
      else
       bif decide (0<=n1) then
        some (.next (aA .i64 (a+1),(b,d,e,f,g,h,i,j,k,l,m,n,o,q,r,t,u,v,w,x,y,z,A,B,C,D)))
       else
        (gE (aQ.mk y z A)).bind fun b26=>
        bif !b26 then
         some (.done (aP.mk (0,0) (Field.mk []) (aV.mk 0 []) (aH.mk (aQ.mk [] [] []) [] []) [],18))
        else
         (eG (aH.mk (aQ.mk y z A) B C) a2.1 a0.1).bind fun a27=>
         (bH D [(a0.1,a27.2)]).bind fun l28=>
         some (.next (aA .i64 (a+1),b,d,e,f,g,h,i,j,k,l,m,n,o,q,r,t,u,v,w,x,a27.1.slots.uses,a27.1.slots.used,a27.1.slots.free,a27.1.heap,a27.1.where_,l28))
   else
    bif !a2.2 then
     bif decide (0<=n1) then
      (aN m n1).bind fun a29=>
      (jP (aH.mk (aQ.mk y z A) B C) a29.2).bind fun r30=>
      bif !a2.2 then
       some (.next (aA .i64 (a+1),b,d,e,f,g,h,i,j,k,l,m,n,o,q,r,t,u,v,w,x,r30.slots.uses,r30.slots.used,r30.slots.free,r30.heap,r30.where_,D))
      else
       bif decide (0<=n1) then
        some (.next (aA .i64 (a+1),b,d,e,f,g,h,i,j,k,l,m,n,o,q,r,t,u,v,w,x,r30.slots.uses,r30.slots.used,r30.slots.free,r30.heap,r30.where_,D))
       else
        (gE r30.slots).bind fun b31=>
        bif !b31 then
         some (.done (aP.mk (0,0) (Field.mk []) (aV.mk 0 []) (aH.mk (aQ.mk [] [] []) [] []) [],18))
        else
         (eG r30 a2.1 a0.1).bind fun a32=>
         (bH D [(a0.1,a32.2)]).bind fun l33=>
         some (.next (aA .i64 (a+1),b,d,e,f,g,h,i,j,k,l,m,n,o,q,r,t,u,v,w,x,a32.1.slots.uses,a32.1.slots.used,a32.1.slots.free,a32.1.heap,a32.1.where_,l33))
     else
      bif !a2.2 then
       some (.next (aA .i64 (a+1),(b,d,e,f,g,h,i,j,k,l,m,n,o,q,r,t,u,v,w,x,y,z,A,B,C,D)))
      else
       bif decide (0<=n1) then
        some (.next (aA .i64 (a+1),(b,d,e,f,g,h,i,j,k,l,m,n,o,q,r,t,u,v,w,x,y,z,A,B,C,D)))
       else
        (gE (aQ.mk y z A)).bind fun b34=>
        bif !b34 then
         some (.done (aP.mk (0,0) (Field.mk []) (aV.mk 0 []) (aH.mk (aQ.mk [] [] []) [] []) [],18))
        else
         (eG (aH.mk (aQ.mk y z A) B C) a2.1 a0.1).bind fun a35=>
         (bH D [(a0.1,a35.2)]).bind fun l36=>
         some (.next (aA .i64 (a+1),b,d,e,f,g,h,i,j,k,l,m,n,o,q,r,t,u,v,w,x,a35.1.slots.uses,a35.1.slots.used,a35.1.slots.free,a35.1.heap,a35.1.where_,l36))
    else
     bif !a2.2 then
      some (.next (aA .i64 (a+1),(b,d,e,f,g,h,i,j,k,l,m,n,o,q,r,t,u,v,w,x,y,z,A,B,C,D)))
     else
      bif decide (0<=n1) then
       some (.next (aA .i64 (a+1),(b,d,e,f,g,h,i,j,k,l,m,n,o,q,r,t,u,v,w,x,y,z,A,B,C,D)))
      else
       (gE (aQ.mk y z A)).bind fun b37=>
       bif !b37 then
        some (.done (aP.mk (0,0) (Field.mk []) (aV.mk 0 []) (aH.mk (aQ.mk [] [] []) [] []) [],18))
       else
        (eG (aH.mk (aQ.mk y z A) B C) a2.1 a0.1).bind fun a38=>
        (bH D [(a0.1,a38.2)]).bind fun l39=>
        some (.next (aA .i64 (a+1),b,d,e,f,g,h,i,j,k,l,m,n,o,q,r,t,u,v,w,x,a38.1.slots.uses,a38.1.slots.used,a38.1.slots.free,a38.1.heap,a38.1.where_,l39))
  else
   some (.done (aP.mk (t,u) (Field.mk v) (aV.mk w x) (aH.mk (aQ.mk y z A) B C) D,0))
def mB (p0:aP) (p1:Field):Option (aP×Int):=
 (iK p0).bind fun r0=>
 (oS p1).bind fun r1=>
 aG cI (0,p0.now.1,p0.now.2,p0.field.points,p0.certs.next_,p0.certs.list,p0.agenda.slots.uses,p0.agenda.slots.used,p0.agenda.slots.free,p0.agenda.heap,p0.agenda.where_,p0.due,p1.points,0,0,0,r0.now.1,r0.now.2,r1.points,r0.certs.next_,r0.certs.list,r0.agenda.slots.uses,r0.agenda.slots.used,r0.agenda.slots.free,r0.agenda.heap,r0.agenda.where_,[])
def aPz:bM:=⟨aB.cons (aL.agg bQ) (aB.one (aL.agg bZ)),aL.tup (aB.cons (aL.agg bQ) (aB.one (aL.int .i64))),fun a=>mB a.1 a.2,.frz,false⟩
theorem aG4:aK aU 115 aPz:=Oc aEd rfl aF [(26,c26),(26,T0),(56,c56),(56,aFO),(166,aMV),(100,aGO),(168,aPv),(167,aMX),(169,aMY),(170,aMZ)] ⟨HE,CZ,TY,OQ,WZ,O3,aG2,W0,W3,W4,trivial⟩ fun a=>by kernel_rfl
def C8 (p0:aV) (p1:Int×Int):Option (aV×Int×Int):=
 (tH p0).bind fun n0=>
 bif n0 !=0 then
  some (aV.mk 0 [],0,8)
 else
  (vM p1).bind fun b1=>
  bif !b1 then
   some (aV.mk 0 [],0,8)
  else
   (uP p0 p1).bind fun b2=>
   bif b2 then
    some (aV.mk 0 [],0,14)
   else
    bif (Int.ofNat p0.list.length)==200 then
     some (aV.mk 0 [],0,18)
    else
     bif p0.next_==1000000 then
      some (aV.mk 0 [],0,18)
     else
      (oT p0).bind fun r3=>
      (bH r3.list [(p0.next_,p1)]).bind fun l4=>
      some (aV.mk (aA .i64 (r3.next_+1)) l4,p0.next_,0)
def aPA:bM:=⟨aB.cons (aL.agg gG) (aB.one (aL.agg (cJ.row jM))),aL.tup (aB.cons (aL.agg gG) (aB.cons (aL.int .i64) (aB.one (aL.int .i64)))),fun a=>C8 a.1 a.2,.frz,false⟩
theorem aG5:aK aU 171 aPA:=Oc aE0 rfl aF [(97,c97),(148,aME),(103,aGT),(57,c57),(57,aFP)] ⟨aAO,WU,O4,TZ,OR,trivial⟩ fun a=>by kernel_rfl
def lB (p0:aP) (p1:Int×Int):Option (aP×Int×Int):=
 (C8 p0.certs p1).bind fun a0=>
 bif a0.2.2 !=0 then
  some (aP.mk (0,0) (Field.mk []) (aV.mk 0 []) (aH.mk (aQ.mk [] [] []) [] []) [],0,a0.2.2)
 else
  (iK p0).bind fun r1=>
  (rH p0.field p1 p0.now).bind fun a2=>
  bif !a2.2 then
   some (aP.mk r1.now r1.field a0.1 r1.agenda r1.due,a0.2.1,0)
  else
   (gE p0.agenda.slots).bind fun b3=>
   bif !b3 then
    some (aP.mk (0,0) (Field.mk []) (aV.mk 0 []) (aH.mk (aQ.mk [] [] []) [] []) [],0,18)
   else
    (eG p0.agenda a2.1 a0.2.1).bind fun a4=>
    (bH r1.due [(a0.2.1,a4.2)]).bind fun l5=>
    some (aP.mk r1.now r1.field a0.1 a4.1 l5,a0.2.1,0)
def aPB:bM:=⟨aB.cons (aL.agg bQ) (aB.one (aL.agg (cJ.row jM))),aL.tup (aB.cons (aL.agg bQ) (aB.cons (aL.int .i64) (aB.one (aL.int .i64)))),fun a=>lB a.1 a.2,.frz,false⟩
theorem aG6:aK aU 116 aPB:=Oc aEe rfl aF [(171,aPA),(26,c26),(26,T0),(100,aGO),(169,aMY),(170,aMZ)] ⟨aG5,HE,CZ,O3,W3,W4,trivial⟩ fun a=>by kernel_rfl
abbrev aPC:=rD×Int×Int×Int×bN×Int×bN×(List Int)×(List Bool)×(List Int)×jW×(List Int)×bN×bN×Int×Int×Int×Int×Int×bN×Int×bN×(List Int)×(List Bool)×(List Int)×jW×(List Int)×bN
abbrev Zt2:=cH aPC (aP×Int)
abbrev aPD:=rD×Int×Int×Int×Int×Int×Int×bN×Int×bN×(List Int)×(List Bool)×(List Int)×jW×(List Int)×bN
def dO (s:aPD):Option (cH aPD Zt2):=
 bif decide (s.2.1<(Int.ofNat s.1.length)) then
  (aN s.1 s.2.1).bind fun a0=>
  (uP (aV.mk s.2.2.2.2.2.2.2.2.1 s.2.2.2.2.2.2.2.2.2.1) a0).bind fun b1=>
  bif b1 then
   some (.next (s.1,aA .i64 (s.2.1+1),s.2.2))
  else
   (aN s.1 s.2.1).bind fun a2=>
   (lB (aP.mk (s.2.2.2.2.2.1,s.2.2.2.2.2.2.1) (Field.mk s.2.2.2.2.2.2.2.1) (aV.mk s.2.2.2.2.2.2.2.2.1 s.2.2.2.2.2.2.2.2.2.1) (aH.mk (aQ.mk s.2.2.2.2.2.2.2.2.2.2.1 s.2.2.2.2.2.2.2.2.2.2.2.1 s.2.2.2.2.2.2.2.2.2.2.2.2.1) s.2.2.2.2.2.2.2.2.2.2.2.2.2.1 s.2.2.2.2.2.2.2.2.2.2.2.2.2.2.1) s.2.2.2.2.2.2.2.2.2.2.2.2.2.2.2) a2).bind fun a3=>
   bif a3.2.2 !=0 then
    some (.done (.done (aP.mk (0,0) (Field.mk []) (aV.mk 0 []) (aH.mk (aQ.mk [] [] []) [] []) [],a3.2.2)))
   else
    some (.next (s.1,aA .i64 (s.2.1+1),s.2.2.1,s.2.2.2.1,s.2.2.2.2.1,a3.1.now.1,a3.1.now.2,a3.1.field.points,a3.1.certs.next_,a3.1.certs.list,a3.1.agenda.slots.uses,a3.1.agenda.slots.used,a3.1.agenda.slots.free,a3.1.agenda.heap,a3.1.agenda.where_,a3.1.due))
 else
  some (.done (.done (aP.mk (s.2.2.2.2.2.1,s.2.2.2.2.2.2.1) (Field.mk s.2.2.2.2.2.2.2.1) (aV.mk s.2.2.2.2.2.2.2.2.1 s.2.2.2.2.2.2.2.2.2.1) (aH.mk (aQ.mk s.2.2.2.2.2.2.2.2.2.2.1 s.2.2.2.2.2.2.2.2.2.2.2.1 s.2.2.2.2.2.2.2.2.2.2.2.2.1) s.2.2.2.2.2.2.2.2.2.2.2.2.2.1 s.2.2.2.2.2.2.2.2.2.2.2.2.2.2.1) s.2.2.2.2.2.2.2.2.2.2.2.2.2.2.2,0)))
def dF (s:aPC):Option Zt2:=
 match s with
 |(a,b,d,e,f,g,h,i,j,k,l,m,n,o,q,r,t,u,v,w,x,y,z,A,B,C,D,E)=>
  bif decide (b<(Int.ofNat h.length)) then
   (aN h b).bind fun a0=>
   (F6 a a0.2).bind fun b1=>
   bif !b1 then
    (aN h b).bind fun a2=>
    (vP (aP.mk (u,v) (Field.mk w) (aV.mk x y) (aH.mk (aQ.mk z A B) C D) E) a2.1).bind fun r3=>
    some (.next (a,aA .i64 (b+1),d,e,f,g,h,i,j,k,l,m,n,o,q,r,t,r3.now.1,r3.now.2,r3.field.points,r3.certs.next_,r3.certs.list,r3.agenda.slots.uses,r3.agenda.slots.used,r3.agenda.slots.free,r3.agenda.heap,r3.agenda.where_,r3.due))
   else
    some (.next (a,aA .i64 (b+1),(d,e,f,g,h,i,j,k,l,m,n,o,q,r,t,u,v,w,x,y,z,A,B,C,D,E)))
  else
   (vQ (Field.mk w) (Field.mk o)).bind fun b4=>
   bif !b4 then
    (mB (aP.mk (u,v) (Field.mk w) (aV.mk x y) (aH.mk (aQ.mk z A B) C D) E) (Field.mk o)).bind fun a5=>
    bif a5.2 !=0 then
     some (.done (aP.mk (0,0) (Field.mk []) (aV.mk 0 []) (aH.mk (aQ.mk [] [] []) [] []) [],a5.2))
    else
     aG dO (a,0,q,r,t,a5.1.now.1,a5.1.now.2,a5.1.field.points,a5.1.certs.next_,a5.1.certs.list,a5.1.agenda.slots.uses,a5.1.agenda.slots.used,a5.1.agenda.slots.free,a5.1.agenda.heap,a5.1.agenda.where_,a5.1.due)
   else
    aG dO (a,0,(q,r,t,u,v,w,x,y,z,A,B,C,D,E))
def mC (p0:aP) (p1:Field) (p2:List (Int×Int)):Option (aP×Int):=
 (iK p0).bind fun r0=>
 aG dF (p2,0,p0.now.1,p0.now.2,p0.field.points,p0.certs.next_,p0.certs.list,p0.agenda.slots.uses,p0.agenda.slots.used,p0.agenda.slots.free,p0.agenda.heap,p0.agenda.where_,p0.due,p1.points,0,0,0,r0.now.1,r0.now.2,r0.field.points,r0.certs.next_,r0.certs.list,r0.agenda.slots.uses,r0.agenda.slots.used,r0.agenda.slots.free,r0.agenda.heap,r0.agenda.where_,r0.due)
def c67:bM:=⟨aB.cons (aL.agg bQ) (aB.cons (aL.agg bZ) (aB.one (aL.sl jM))),aL.tup (aB.cons (aL.agg bQ) (aB.one (aL.int .i64))),fun a=>mC a.1 a.2.1 a.2.2,.frz,false⟩
theorem aM0:aK aU 67 c67:=Oc aLH rfl aF [(26,c26),(26,T0),(113,aPq),(114,aPu),(68,c68),(115,aPz),(103,aGT),(116,aPB)] ⟨HE,CZ,aGV,aG1,aAV,aG4,O4,aG6,trivial⟩ fun a=>by kernel_rfl
def sG (p0:aP) (p1:Field):Option (dL×Int):=
 (rJ p1 p0.now).bind fun r0=>
 (CA r0).bind fun l1=>
 (mC p0 p1 l1).bind fun a2=>
 bif a2.2 !=0 then
  some (dL.mk (aP.mk (0,0) (Field.mk []) (aV.mk 0 []) (aH.mk (aQ.mk [] [] []) [] []) []) (oA.mk 0 []),a2.2)
 else
  some (dL.mk a2.1 r0,0)
def c32:bM:=⟨aB.cons (aL.agg bQ) (aB.one (aL.agg bZ)),aL.tup (aB.cons (aL.agg fE) (aB.one (aL.int .i64))),fun a=>sG a.1 a.2,.frz,false⟩
theorem aM1:aK aU 32 c32:=Oc aLj rfl aF [(53,c53),(47,c47),(67,c67)] ⟨aAS,aAU,aM0,trivial⟩ fun a=>by kernel_rfl
def oV (p0:dL) (p1:Int):Option (dL×Int):=
 (tM p0).bind fun n0=>
 bif n0 !=0 then
  (tM p0).bind fun n1=>
  some (dL.mk (aP.mk (0,0) (Field.mk []) (aV.mk 0 []) (aH.mk (aQ.mk [] [] []) [] []) []) (oA.mk 0 []),n1)
 else
  (mV p0.clock.field p1).bind fun a2=>
  bif a2.2 !=0 then
   some (dL.mk (aP.mk (0,0) (Field.mk []) (aV.mk 0 []) (aH.mk (aQ.mk [] [] []) [] []) []) (oA.mk 0 []),a2.2)
  else
   (sG p0.clock a2.1).bind fun a3=>
   some a3
def c9:bM:=⟨aB.cons (aL.agg fE) (aB.one (aL.int .i64)),aL.tup (aB.cons (aL.agg fE) (aB.one (aL.int .i64))),fun a=>oV a.1 a.2,.frz,false⟩
theorem aPE:aK aU 9 c9:=Oc aNS rfl aF [(23,c23),(31,c31),(32,c32)] ⟨aMS,aMU,aM1,trivial⟩ fun a=>by kernel_rfl
def sH (s:aMQ):Option aPm:=
 bif decide (s.1<(Int.ofNat s.2.2.1.length)) then
  (aN s.2.2.1 s.1).bind fun a0=>
  (aN s.2.2.2.2 s.1).bind fun a1=>
  bif !((a0.1==a1.1)&&((a0.2.1==a1.2.1)&&(a0.2.2==a1.2.2))) then
   some (.done false)
  else
   some (.next (aA .i64 (s.1+1),s.2))
 else
  some (.done true)
def AH (p0:aV) (p1:aV):Option Bool:=
 bif p0.next_ !=p1.next_ then
  some false
 else
  bif (Int.ofNat p0.list.length) !=(Int.ofNat p1.list.length) then
   some false
  else
   aG sH (0,p0.next_,p0.list,p1.next_,p1.list)
def c69:bM:=⟨aB.cons (aL.agg gG) (aB.one (aL.agg gG)),aL.bool,fun a=>AH a.1 a.2,.pure,false⟩
theorem aM2:aK aU 69 c69:=Oc aLJ rfl aF [] trivial fun a=>by kernel_rfl
def mG (s:((List Int)×(List Int)×Int)):Option (cH ((List Int)×(List Int)×Int) Bool):=
 bif decide (s.2.2<(Int.ofNat s.1.length)) then
  (aN s.1 s.2.2).bind fun n0=>
  (aN s.2.1 s.2.2).bind fun n1=>
  bif n0 !=n1 then
   some (.done false)
  else
   some (.next (s.1,s.2.1,aA .i64 (s.2.2+1)))
 else
  some (.done true)
def kQ (p0:List Int) (p1:List Int):Option Bool:=
 bif (Int.ofNat p0.length) !=(Int.ofNat p1.length) then
  some false
 else
  aG mG (p0,p1,0)
def aM3:bM:=⟨aB.cons (aL.sl ki) (aB.one (aL.sl ki)),aL.bool,fun a=>kQ a.1 a.2,.pure,false⟩
theorem W5:aK aU 118 aM3:=Oc aEg rfl aF [] trivial fun a=>by kernel_rfl
def lM (s:((List Bool)×(List Bool)×Int)):Option (cH ((List Bool)×(List Bool)×Int) Bool):=
 bif decide (s.2.2<(Int.ofNat s.1.length)) then
  (aN s.1 s.2.2).bind fun b0=>
  (aN s.2.1 s.2.2).bind fun b1=>
  bif !(b0==b1) then
   some (.done false)
  else
   some (.next (s.1,s.2.1,aA .i64 (s.2.2+1)))
 else
  some (.done true)
def oL (p0:List Bool) (p1:List Bool):Option Bool:=
 bif (Int.ofNat p0.length) !=(Int.ofNat p1.length) then
  some false
 else
  aG lM (p0,p1,0)
def aPF:bM:=⟨aB.cons (aL.sl kb) (aB.one (aL.sl kb)),aL.bool,fun a=>oL a.1 a.2,.pure,false⟩
theorem aG7:aK aU 172 aPF:=Oc aE1 rfl aF [] trivial fun a=>by kernel_rfl
def EV (p0:aQ) (p1:aQ):Option Bool:=
 (kQ p0.uses p1.uses).bind fun b0=>
 bif b0 then
  (oL p0.used p1.used).bind fun b1=>
  bif b1 then
   (kQ p0.free p1.free).bind fun b2=>
   some b2
  else
   some false
 else
  some false
def aPG:bM:=⟨aB.cons (aL.agg fY) (aB.one (aL.agg fY)),aL.bool,fun a=>EV a.1 a.2,.pure,false⟩
theorem aG8:aK aU 117 aPG:=Oc aEf rfl aF [(118,aM3),(172,aPF)] ⟨W5,aG7,trivial⟩ fun a=>by kernel_rfl
abbrev aPH:=Int×(List Int)×(List Bool)×(List Int)×jW×(List Int)×(List Int)×(List Bool)×(List Int)×jW×(List Int)
def sI (s:aPH):Option (cH aPH Bool):=
 bif decide (s.1<(Int.ofNat s.2.2.2.2.1.length)) then
  (aN s.2.2.2.2.1 s.1).bind fun a0=>
  (aN s.2.2.2.2.2.2.2.2.2.1 s.1).bind fun a1=>
  bif !((a0.1==a1.1)&&((a0.2.1==a1.2.1)&&((a0.2.2.1==a1.2.2.1)&&((a0.2.2.2.1==a1.2.2.2.1)&&(a0.2.2.2.2==a1.2.2.2.2))))) then
   some (.done false)
  else
   some (.next (aA .i64 (s.1+1),s.2))
 else
  some (.done true)
def AI (p0:aH) (p1:aH):Option Bool:=
 (EV p0.slots p1.slots).bind fun b0=>
 bif !b0 then
  some false
 else
  (kQ p0.where_ p1.where_).bind fun b1=>
  bif !b1 then
   some false
  else
   bif (Int.ofNat p0.heap.length) !=(Int.ofNat p1.heap.length) then
    some false
   else
    aG sI (0,p0.slots.uses,p0.slots.used,p0.slots.free,p0.heap,p0.where_,p1.slots.uses,p1.slots.used,p1.slots.free,p1.heap,p1.where_)
def c70:bM:=⟨aB.cons (aL.agg cY) (aB.one (aL.agg cY)),aL.bool,fun a=>AI a.1 a.2,.pure,false⟩
theorem aM4:aK aU 70 c70:=Oc aLK rfl aF [(117,aPG),(118,aM3)] ⟨aG8,W5,trivial⟩ fun a=>by kernel_rfl
abbrev Zt5:=Int×Int×Int×bN×Int×bN×(List Int)×(List Bool)×(List Int)×jW×(List Int)×bN×Int×Int×bN×Int×bN×(List Int)×(List Bool)×(List Int)×jW×(List Int)×bN
def sJ (s:Zt5):Option (cH Zt5 Bool):=
 bif decide (s.1<(Int.ofNat s.2.2.2.2.2.2.2.2.2.2.2.1.length)) then
  (aN s.2.2.2.2.2.2.2.2.2.2.2.1 s.1).bind fun a0=>
  (aN s.2.2.2.2.2.2.2.2.2.2.2.2.2.2.2.2.2.2.2.2.2.2 s.1).bind fun a1=>
  bif !((a0.1==a1.1)&&((a0.2.1==a1.2.1)&&(a0.2.2==a1.2.2))) then
   some (.done false)
  else
   some (.next (aA .i64 (s.1+1),s.2))
 else
  some (.done true)
def AJ (p0:aP) (p1:aP):Option Bool:=
 bif !((p0.now.1==p1.now.1)&&(p0.now.2==p1.now.2)) then
  some false
 else
  (vQ p0.field p1.field).bind fun b0=>
  bif !b0 then
   some false
  else
   (AH p0.certs p1.certs).bind fun b1=>
   bif !b1 then
    some false
   else
    (AI p0.agenda p1.agenda).bind fun b2=>
    bif !b2 then
     some false
    else
     bif (Int.ofNat p0.due.length) !=(Int.ofNat p1.due.length) then
      some false
     else
      aG sJ (0,p0.now.1,p0.now.2,p0.field.points,p0.certs.next_,p0.certs.list,p0.agenda.slots.uses,p0.agenda.slots.used,p0.agenda.slots.free,p0.agenda.heap,p0.agenda.where_,p0.due,p1.now.1,p1.now.2,p1.field.points,p1.certs.next_,p1.certs.list,p1.agenda.slots.uses,p1.agenda.slots.used,p1.agenda.slots.free,p1.agenda.heap,p1.agenda.where_,p1.due)
def c33:bM:=⟨aB.cons (aL.agg bQ) (aB.one (aL.agg bQ)),aL.bool,fun a=>AJ a.1 a.2,.pure,false⟩
theorem aM5:aK aU 33 c33:=Oc aLk rfl aF [(68,c68),(69,c69),(70,c70)] ⟨aAV,aM2,aM4,trivial⟩ fun a=>by kernel_rfl
def vR (p0:dL) (p1:dL):Option Bool:=
 (AJ p0.clock p1.clock).bind fun b0=>
 bif b0 then
  (pF p0.tree p1.tree).bind fun b1=>
  some b1
 else
  some false
def c10:bM:=⟨aB.cons (aL.agg fE) (aB.one (aL.agg fE)),aL.bool,fun a=>vR a.1 a.2,.pure,false⟩
theorem aM6:aK aU 10 c10:=Oc aK9 rfl aF [(33,c33),(34,c34)] ⟨aM5,aAT,trivial⟩ fun a=>by kernel_rfl
def rL (p0:dL) (p1:Int):Option Bool:=
 (sZ p0).bind fun b0=>
 bif b0 then
  some true
 else
  (vD p0).bind fun r1=>
  (oU r1 p1).bind fun a2=>
  (oV p0 p1).bind fun a3=>
  (vR a2.1 a3.1).bind fun b4=>
  bif b4 then
   bif a2.2==a3.2 then
    (vR r1 p0).bind fun b5=>
    some b5
   else
    some false
  else
   some false
def c3:bM:=⟨aB.cons (aL.agg fE) (aB.one (aL.int .i64)),aL.bool,fun a=>rL a.1 a.2,.pure,false⟩
theorem aPI:aK aU 3 c3:=Oc aHS rfl aF [(6,c6),(7,c7),(7,c7p),(8,c8),(9,c9),(10,c10)] ⟨aNV,aNW,aMb,aO4,aPE,aM6,trivial⟩ fun a=>by kernel_rfl
end
end Go.Proofs.YticklbjcnimggaaGreat
