/- Plain functions for what the functions of the seat compute. Printed by a program. -/
import Derived.Test.YtmlghnibpjlchaaGreatTVm3
import Derived.Test.YtmlghnibpjlchaaGreatTQXT
import Derived.Test.YtmlghnibpjlchaaGreatTQS1
set_option maxRecDepth 100000
namespace Go.Proofs.YtmlghnibpjlchaaGreat
open Go.Vm
noncomputable section
abbrev aPr:=Int×Int×Int×bN×Int×Int×bN
def kQ (s:aPr):Option (bX aPr aU):=
 bif decide (s.2.1<(Int.ofNat s.2.2.2.1.length)) then
  (aJ s.2.2.2.1 s.2.1).bind fun a0=>
  bif a0.1 !=s.1 then
   (aJ s.2.2.2.1 s.2.1).bind fun a1=>
   (bV s.2.2.2.2.2.2 [a1]).bind fun l2=>
   some (.next (s.1,aA .i64 (s.2.1+1),s.2.2.1,s.2.2.2.1,s.2.2.2.2.1,s.2.2.2.2.2.1,l2))
  else
   some (.next (s.1,aA .i64 (s.2.1+1),s.2.2))
 else
  some (.done (aU.mk s.2.2.2.2.2.1 s.2.2.2.2.2.2))
def sH (p0:aU) (p1:Int):Option aU:=
 aH kQ (p1,0,p0.next_,p0.list,0,p0.next_,[])
def aPs:bM:=⟨aD.cons (aM.agg gK) (aD.one (aM.int .i64)),aM.agg gK,fun a=>sH a.1 a.2,.frz,false⟩
theorem aHm:aK aX 187 aPs:=Oc aFk rfl aF [] trivial fun a=>by kernel_rfl
def qD (s:aMY):Option aPi:=
 bif decide (s.2.1<(Int.ofNat s.2.2.2.2.2.2.2.2.2.2.2.2.length)) then
  (aJ s.2.2.2.2.2.2.2.2.2.2.2.2 s.2.1).bind fun a0=>
  bif a0.1==s.1 then
   some (.done s.2.1)
  else
   some (.next (s.1,aA .i64 (s.2.1+1),s.2.2))
 else
  some (.done (-1))
def pE (p0:aP) (p1:Int):Option Int:=
 aH qD (p1,0,p0.now.1,p0.now.2,p0.field.points,p0.certs.next_,p0.certs.list,p0.agenda.slots.uses,p0.agenda.slots.used,p0.agenda.slots.free,p0.agenda.heap,p0.agenda.where_,p0.due)
def aM6:bM:=⟨aD.cons (aM.agg bR) (aD.one (aM.int .i64)),aM.int .i64,fun a=>pE a.1 a.2,.pure,false⟩
theorem W0:aK aX 188 aM6:=Oc aFl rfl aF [] trivial fun a=>by kernel_rfl
def pF (p0:aQ) (p1:Int×Int):Option aQ:=
 (mP p0).bind fun r0=>
 (aJ r0.used p1.1).bind fun _=>
 (bV r0.free [p1.1]).bind fun l2=>
 some (aQ.mk r0.uses (bJ r0.used p1.1 false) l2)
def aPt:bM:=⟨aD.cons (aM.agg gC) (aD.one (aM.agg (cR.row jY))),aM.agg gC,fun a=>pF a.1 a.2,.frz,false⟩
theorem aHn:aK aX 221 aPt:=Oc aFM rfl aF [(133,aAw),(133,RA)] ⟨I7,F3,trivial⟩ fun a=>by kernel_rfl
abbrev aM7:=(List Int)×(List Bool)×(List Int)×iD×(List Int)
def fH (a:aMR):Option aM7:=
 (aJ a.2.2.2.2.2.1 a.2.1).bind fun a0=>
 (aJ a.2.2.2.2.2.1 a.1).bind fun a1=>
 (aJ a.2.2.2.2.2.1 a.1).bind fun _=>
 (aJ (bJ a.2.2.2.2.2.1 a.1 a0) a.2.1).bind fun _=>
 (aJ (bJ (bJ a.2.2.2.2.2.1 a.1 a0) a.2.1 a1) a.1).bind fun a4=>
 (aJ (bJ (bJ a.2.2.2.2.2.1 a.1 a0) a.2.1 a1) a.2.1).bind fun a5=>
 (aJ a.2.2.2.2.2.2 a4.2.2.2.1).bind fun _=>
 (aJ (bJ a.2.2.2.2.2.2 a4.2.2.2.1 a.1) a5.2.2.2.1).bind fun _=>
 bif a.2.2.1.length==a.2.2.1.length then
  bif a.2.2.2.1.length==a.2.2.2.1.length then
   bif a.2.2.2.2.1.length==a.2.2.2.2.1.length then
    bif ((bJ (bJ a.2.2.2.2.2.1 a.1 a0) a.2.1 a1).length)==a.2.2.2.2.2.1.length then
     bif ((bJ (bJ a.2.2.2.2.2.2 a4.2.2.2.1 a.1) a5.2.2.2.1 a.2.1).length)==a.2.2.2.2.2.2.length then
      some (a.2.2.1,a.2.2.2.1,a.2.2.2.2.1,bJ (bJ a.2.2.2.2.2.1 a.1 a0) a.2.1 a1,bJ (bJ a.2.2.2.2.2.2 a4.2.2.2.1 a.1) a5.2.2.2.1 a.2.1)
     else
      none
    else
     none
   else
    none
  else
   none
 else
  none
def EW:dT:=⟨[.i,.i,.l [.i .i64],.l [.b],.l [.i .i64],.l [.i .i64,.i .i64,.i .i64,.i .i64,.i .i64],.l [.i .i64]],[.agg [.own 0 false,.own 1 false,.own 2 false,.own 3 false,.own 4 false],.int .i64 0,.int .i64 0],[.arr [.i .i64] [],.arr [.b] [],.arr [.i .i64] [],.arr [.i .i64,.i .i64,.i .i64,.i .i64,.i .i64] [],.arr [.i .i64] []],[.l [.i .i64],.l [.b],.l [.i .i64],.l [.i .i64,.i .i64,.i .i64,.i .i64,.i .i64],.l [.i .i64]],.tup [],[.arr [.i .i64] [],.arr [.b] [],.arr [.i .i64] [],.arr [.i .i64,.i .i64,.i .i64,.i .i64,.i .i64] [],.arr [.i .i64] []],fun a=>fH a⟩
theorem uX:lW aX 220 EW:=lW.of OQ (wd:=false) (cx:=(oN aF [] [] [] [])) (lX.make trivial trivial trivial) (fun a=>by kernel_rfl)
def gH (a:((List Int)×(List Bool)×(List Int)×Nat×Nat×Int×Int×iD×(List Int))):Option MG:=
 (aJ (a.2.2.2.2.2.2.2.1.take a.2.2.2.1) a.2.2.2.2.2.2.1).bind fun a0=>
 (aJ (a.2.2.2.2.2.2.2.1.take a.2.2.2.1) a.2.2.2.2.2.1).bind fun a1=>
 (aJ (a.2.2.2.2.2.2.2.1.take a.2.2.2.1) a.2.2.2.2.2.1).bind fun _=>
 (aJ ((bJ a.2.2.2.2.2.2.2.1 a.2.2.2.2.2.1 a0).take a.2.2.2.1) a.2.2.2.2.2.2.1).bind fun _=>
 (aJ ((bJ (bJ a.2.2.2.2.2.2.2.1 a.2.2.2.2.2.1 a0) a.2.2.2.2.2.2.1 a1).take a.2.2.2.1) a.2.2.2.2.2.1).bind fun a4=>
 (aJ ((bJ (bJ a.2.2.2.2.2.2.2.1 a.2.2.2.2.2.1 a0) a.2.2.2.2.2.2.1 a1).take a.2.2.2.1) a.2.2.2.2.2.2.1).bind fun a5=>
 (aJ a.2.2.2.2.2.2.2.2 a4.2.2.2.1).bind fun _=>
 (aJ (bJ a.2.2.2.2.2.2.2.2 a4.2.2.2.1 a.2.2.2.2.2.1) a5.2.2.2.1).bind fun _=>
 bif ((bJ (bJ a.2.2.2.2.2.2.2.1 a.2.2.2.2.2.1 a0) a.2.2.2.2.2.2.1 a1).length)==a.2.2.2.2.2.2.2.1.length then
  bif ((bJ (bJ a.2.2.2.2.2.2.2.2 a4.2.2.2.1 a.2.2.2.2.2.1) a5.2.2.2.1 a.2.2.2.2.2.2.1).length)==a.2.2.2.2.2.2.2.2.length then
   some (bJ (bJ a.2.2.2.2.2.2.2.1 a.2.2.2.2.2.1 a0) a.2.2.2.2.2.2.1 a1,bJ (bJ a.2.2.2.2.2.2.2.2 a4.2.2.2.1 a.2.2.2.2.2.1) a5.2.2.2.1 a.2.2.2.2.2.2.1)
  else
   none
 else
  none
def EX:dT:=⟨[.l [.i .i64],.l [.b],.l [.i .i64],.n,.n,.i,.i,.l [.i .i64,.i .i64,.i .i64,.i .i64,.i .i64],.l [.i .i64]],[.agg [.sl [.i .i64] [],.sl [.b] [],.sl [.i .i64] [],.pre 0 0 0 false,.own 1 false],.int .i64 0,.int .i64 0],[.arr [.i .i64,.i .i64,.i .i64,.i .i64,.i .i64] [],.arr [.i .i64] []],[.l [.i .i64,.i .i64,.i .i64,.i .i64,.i .i64],.l [.i .i64]],.tup [],[.arr [.i .i64,.i .i64,.i .i64,.i .i64,.i .i64] [],.arr [.i .i64] []],fun a=>gH a⟩
theorem uY:lW aX 220 EX:=lW.of OQ (wd:=false) (cx:=(oN aF [] [] [] [])) (lX.make trivial trivial trivial) (fun a=>by kernel_rfl)
abbrev aHo:=(List Int)×(List Bool)×(List Int)×Nat×Nat×Int×iD×(List Int)
abbrev aHp:=Int×iD×(List Int)×(List Int)×(List Bool)×(List Int)×Nat×Nat
abbrev aHq:=Int×iD×(List Int)
def gV (c0:aHo) (s:aHp):Option (bX aHp aHq):=
 bif decide (0<s.1) then
  (aJ (s.2.1.take s.2.2.2.2.2.2.1) s.1).bind fun a0=>
  (aJ (s.2.1.take s.2.2.2.2.2.2.1) (aA .i64 (Int.tdiv (aA .i64 (s.1-1)) 2))).bind fun a1=>
  (eB a0 a1).bind fun b2=>
  bif b2 then
   (gH (s.2.2.2.1,s.2.2.2.2.1,s.2.2.2.2.2.1,s.2.2.2.2.2.2.1,s.2.2.2.2.2.2.2,s.1,aA .i64 (Int.tdiv (aA .i64 (s.1-1)) 2),s.2.1,s.2.2.1)).bind fun a3=>
   some (.next (aA .i64 (Int.tdiv (aA .i64 (s.1-1)) 2),a3.1,a3.2,s.2.2.2))
  else
   bif s.2.1.length==c0.2.2.2.2.2.2.1.length then
    bif s.2.2.1.length==c0.2.2.2.2.2.2.2.length then
     some (.done (s.1,s.2.1,s.2.2.1))
    else
     none
   else
    none
 else
  bif s.2.1.length==c0.2.2.2.2.2.2.1.length then
   bif s.2.2.1.length==c0.2.2.2.2.2.2.2.length then
    some (.done (s.1,s.2.1,s.2.2.1))
   else
    none
  else
   none
def nB (a:aHo):Option aHq:=
 aH (gV a) (a.2.2.2.2.2.1,a.2.2.2.2.2.2.1,a.2.2.2.2.2.2.2,a.1,a.2.1,a.2.2.1,a.2.2.2.1,a.2.2.2.2.1)
def O8:dT:=⟨[.l [.i .i64],.l [.b],.l [.i .i64],.n,.n,.i,.l [.i .i64,.i .i64,.i .i64,.i .i64,.i .i64],.l [.i .i64]],[.agg [.sl [.i .i64] [],.sl [.b] [],.sl [.i .i64] [],.pre 0 0 0 false,.own 1 false],.int .i64 0],[.arr [.i .i64,.i .i64,.i .i64,.i .i64,.i .i64] [],.arr [.i .i64] []],[.i,.l [.i .i64,.i .i64,.i .i64,.i .i64,.i .i64],.l [.i .i64]],.int .i64 0,[.arr [.i .i64,.i .i64,.i .i64,.i .i64,.i .i64] [],.arr [.i .i64] []],fun a=>nB a⟩
theorem HJ:lW aX 223 O8:=lW.of OR (wd:=true) (cx:=(oN aF [(173,UG)] [(220,EW),(220,EX)] [] [])) (lX.make ⟨C8,trivial⟩ ⟨uX,uY,trivial⟩ trivial) (fun a=>by kernel_rfl)
def kE (c0:aHo) (s:aHp):Option (bX aHp MG):=
 bif decide ((Int.ofNat s.2.2.2.2.2.2.1)<=(aA .i64 ((aA .i64 (2*s.1))+1))) then
  bif s.2.1.length==c0.2.2.2.2.2.2.1.length then
   bif s.2.2.1.length==c0.2.2.2.2.2.2.2.length then
    some (.done (s.2.1,s.2.2.1))
   else
    none
  else
   none
 else
  bif decide ((aA .i64 ((aA .i64 ((aA .i64 (2*s.1))+1))+1))<(Int.ofNat s.2.2.2.2.2.2.1)) then
   (aJ (s.2.1.take s.2.2.2.2.2.2.1) (aA .i64 ((aA .i64 ((aA .i64 (2*s.1))+1))+1))).bind fun a0=>
   (aJ (s.2.1.take s.2.2.2.2.2.2.1) (aA .i64 ((aA .i64 (2*s.1))+1))).bind fun a1=>
   (eB a0 a1).bind fun b2=>
   bif b2 then
    (aJ (s.2.1.take s.2.2.2.2.2.2.1) (aA .i64 ((aA .i64 ((aA .i64 (2*s.1))+1))+1))).bind fun a3=>
    (aJ (s.2.1.take s.2.2.2.2.2.2.1) s.1).bind fun a4=>
    (eB a3 a4).bind fun b5=>
    bif !b5 then
     bif s.2.1.length==c0.2.2.2.2.2.2.1.length then
      bif s.2.2.1.length==c0.2.2.2.2.2.2.2.length then
       some (.done (s.2.1,s.2.2.1))
      else
       none
     else
      none
    else
     (gH (s.2.2.2.1,s.2.2.2.2.1,s.2.2.2.2.2.1,s.2.2.2.2.2.2.1,s.2.2.2.2.2.2.2,s.1,aA .i64 ((aA .i64 ((aA .i64 (2*s.1))+1))+1),s.2.1,s.2.2.1)).bind fun a6=>
     some (.next (aA .i64 ((aA .i64 ((aA .i64 (2*s.1))+1))+1),a6.1,a6.2,s.2.2.2))
   else
    (aJ (s.2.1.take s.2.2.2.2.2.2.1) (aA .i64 ((aA .i64 (2*s.1))+1))).bind fun a7=>
    (aJ (s.2.1.take s.2.2.2.2.2.2.1) s.1).bind fun a8=>
    (eB a7 a8).bind fun b9=>
    bif !b9 then
     bif s.2.1.length==c0.2.2.2.2.2.2.1.length then
      bif s.2.2.1.length==c0.2.2.2.2.2.2.2.length then
       some (.done (s.2.1,s.2.2.1))
      else
       none
     else
      none
    else
     (gH (s.2.2.2.1,s.2.2.2.2.1,s.2.2.2.2.2.1,s.2.2.2.2.2.2.1,s.2.2.2.2.2.2.2,s.1,aA .i64 ((aA .i64 (2*s.1))+1),s.2.1,s.2.2.1)).bind fun a10=>
     some (.next (aA .i64 ((aA .i64 (2*s.1))+1),a10.1,a10.2,s.2.2.2))
  else
   (aJ (s.2.1.take s.2.2.2.2.2.2.1) (aA .i64 ((aA .i64 (2*s.1))+1))).bind fun a11=>
   (aJ (s.2.1.take s.2.2.2.2.2.2.1) s.1).bind fun a12=>
   (eB a11 a12).bind fun b13=>
   bif !b13 then
    bif s.2.1.length==c0.2.2.2.2.2.2.1.length then
     bif s.2.2.1.length==c0.2.2.2.2.2.2.2.length then
      some (.done (s.2.1,s.2.2.1))
     else
      none
    else
     none
   else
    (gH (s.2.2.2.1,s.2.2.2.2.1,s.2.2.2.2.2.1,s.2.2.2.2.2.2.1,s.2.2.2.2.2.2.2,s.1,aA .i64 ((aA .i64 (2*s.1))+1),s.2.1,s.2.2.1)).bind fun a14=>
    some (.next (aA .i64 ((aA .i64 (2*s.1))+1),a14.1,a14.2,s.2.2.2))
def kS (a:aHo):Option MG:=
 aH (kE a) (a.2.2.2.2.2.1,a.2.2.2.2.2.2.1,a.2.2.2.2.2.2.2,a.1,a.2.1,a.2.2.1,a.2.2.2.1,a.2.2.2.2.1)
def UH:dT:=⟨[.l [.i .i64],.l [.b],.l [.i .i64],.n,.n,.i,.l [.i .i64,.i .i64,.i .i64,.i .i64,.i .i64],.l [.i .i64]],[.agg [.sl [.i .i64] [],.sl [.b] [],.sl [.i .i64] [],.pre 0 0 0 false,.own 1 false],.int .i64 0],[.arr [.i .i64,.i .i64,.i .i64,.i .i64,.i .i64] [],.arr [.i .i64] []],[.l [.i .i64,.i .i64,.i .i64,.i .i64,.i .i64],.l [.i .i64]],.tup [],[.arr [.i .i64,.i .i64,.i .i64,.i .i64,.i .i64] [],.arr [.i .i64] []],fun a=>kS a⟩
theorem NE:lW aX 222 UH:=lW.of WA (wd:=false) (cx:=(oN aF [(173,UG)] [(220,EW),(220,EX)] [] [])) (lX.make ⟨C8,trivial⟩ ⟨uX,uY,trivial⟩ trivial) (fun a=>by kernel_rfl)
def jR (p0:aG) (p1:Int×Int):Option aG:=
 (lL p0).bind fun r0=>
 (aJ r0.where_ p1.1).bind fun n1=>
 bif n1 !=(aA .i64 ((Int.ofNat r0.heap.length) -1)) then
  (fH (n1,aA .i64 ((Int.ofNat r0.heap.length) -1),r0.slots.uses,r0.slots.used,r0.slots.free,r0.heap,r0.where_)).bind fun a2=>
  (gF a2.2.2.2.1 0 (aA .i64 ((Int.ofNat r0.heap.length) -1))).bind fun _=>
  (aJ a2.2.2.2.2 p1.1).bind fun _=>
  (pF (aQ.mk a2.1 a2.2.1 a2.2.2.1) p1).bind fun r5=>
  bif n1 !=(aA .i64 ((Int.ofNat r0.heap.length) -1)) then
   (nB (r5.uses,r5.used,r5.free,(aA .i64 ((Int.ofNat r0.heap.length) -1)).toNat,a2.2.2.2.1.length,n1,a2.2.2.2.1,bJ a2.2.2.2.2 p1.1 (-1))).bind fun a6=>
   (kS (r5.uses,r5.used,r5.free,(aA .i64 ((Int.ofNat r0.heap.length) -1)).toNat,a2.2.2.2.1.length,a6)).bind fun a7=>
   some (aG.mk r5 (a7.1.take ((aA .i64 ((Int.ofNat r0.heap.length) -1)).toNat)) a7.2)
  else
   some (aG.mk r5 (a2.2.2.2.1.take ((aA .i64 ((Int.ofNat r0.heap.length) -1)).toNat)) (bJ a2.2.2.2.2 p1.1 (-1)))
 else
  (gF r0.heap 0 (aA .i64 ((Int.ofNat r0.heap.length) -1))).bind fun _=>
  (aJ r0.where_ p1.1).bind fun _=>
  (pF r0.slots p1).bind fun r10=>
  bif n1 !=(aA .i64 ((Int.ofNat r0.heap.length) -1)) then
   (nB (r10.uses,r10.used,r10.free,(aA .i64 ((Int.ofNat r0.heap.length) -1)).toNat,r0.heap.length,n1,r0.heap,bJ r0.where_ p1.1 (-1))).bind fun a11=>
   (kS (r10.uses,r10.used,r10.free,(aA .i64 ((Int.ofNat r0.heap.length) -1)).toNat,r0.heap.length,a11)).bind fun a12=>
   some (aG.mk r10 (a12.1.take ((aA .i64 ((Int.ofNat r0.heap.length) -1)).toNat)) a12.2)
  else
   some (aG.mk r10 (r0.heap.take ((aA .i64 ((Int.ofNat r0.heap.length) -1)).toNat)) (bJ r0.where_ p1.1 (-1)))
def aM8:bM:=⟨aD.cons (aM.agg cZ) (aD.one (aM.agg (cR.row jY))),aM.agg cZ,fun a=>jR a.1 a.2,.frz,false⟩
theorem W3:aK aX 189 aM8:=aK.of aFm (cx:=(oN aF [(74,c74),(74,YI),(221,aPt)] [(220,EW),(220,EX),(223,O8),(222,UH)] [] [])) rfl (lX.make ⟨K6,F4,aHn,trivial⟩ ⟨uX,uY,HJ,NE,trivial⟩ trivial) (fun a=>by kernel_rfl)
def vU (p0:aP) (p1:Int):Option aP:=
 (iO p0).bind fun r0=>
 (sH p0.certs p1).bind fun r1=>
 (pE p0 p1).bind fun n2=>
 bif decide (0<=n2) then
  (aJ p0.due n2).bind fun a3=>
  (jR p0.agenda a3.2).bind fun r4=>
  (gF p0.due 0 n2).bind fun l5=>
  (bO l5).bind fun l6=>
  (gF p0.due (aA .i64 (n2+1)) (Int.ofNat p0.due.length)).bind fun l7=>
  bif l7.isEmpty then
   some (aP.mk r0.now r0.field r1 r4 l6)
  else
   (bV l6 l7).bind fun l8=>
   some (aP.mk r0.now r0.field r1 r4 l8)
 else
  some (aP.mk r0.now r0.field r1 r0.agenda r0.due)
def aPu:bM:=⟨aD.cons (aM.agg bR) (aD.one (aM.int .i64)),aM.agg bR,fun a=>vU a.1 a.2,.frz,false⟩
theorem aHr:aK aX 146 aPu:=Oc aEN rfl aF [(32,c32),(32,T8),(187,aPs),(188,aM6),(189,aM8)] ⟨HE,C2,aHm,W0,W3,trivial⟩ fun a=>by kernel_rfl
def sI (s:(Int×bN×bN)):Option (bX (Int×bN×bN) Bool):=
 bif decide (s.1<(Int.ofNat s.2.1.length)) then
  (aJ s.2.1 s.1).bind fun a0=>
  (aJ s.2.2 s.1).bind fun a1=>
  bif !((a0.1==a1.1)&&((a0.2.1==a1.2.1)&&(a0.2.2==a1.2.2))) then
   some (.done false)
  else
   some (.next (aA .i64 (s.1+1),s.2))
 else
  some (.done true)
def vV (p0:Field) (p1:Field):Option Bool:=
 bif (Int.ofNat p0.points.length) !=(Int.ofNat p1.points.length) then
  some false
 else
  aH sI (0,p0.points,p1.points)
def c89:bM:=⟨aD.cons (aM.agg cA) (aD.one (aM.agg cA)),aM.bool,fun a=>vV a.1 a.2,.pure,false⟩
theorem aAR:aK aX 89 c89:=Oc aL7 rfl aF [] trivial fun a=>by kernel_rfl
def gW (c0:F7) (s:F7):Option (bX F7 F7):=
 bif decide (0<s.1) then
  (aJ s.2.2.2.2.1 s.1).bind fun a0=>
  (aJ s.2.2.2.2.1 (aA .i64 (Int.tdiv (aA .i64 (s.1-1)) 2))).bind fun a1=>
  (eB a0 a1).bind fun b2=>
  bif b2 then
   (fH (s.1,aA .i64 (Int.tdiv (aA .i64 (s.1-1)) 2),s.2)).bind fun a3=>
   some (.next (aA .i64 (Int.tdiv (aA .i64 (s.1-1)) 2),a3))
  else
   bif s.2.1.length==c0.2.1.length then
    bif s.2.2.1.length==c0.2.2.1.length then
     bif s.2.2.2.1.length==c0.2.2.2.1.length then
      bif s.2.2.2.2.1.length==c0.2.2.2.2.1.length then
       bif s.2.2.2.2.2.length==c0.2.2.2.2.2.length then
        some (.done s)
       else
        none
      else
       none
     else
      none
    else
     none
   else
    none
 else
  bif s.2.1.length==c0.2.1.length then
   bif s.2.2.1.length==c0.2.2.1.length then
    bif s.2.2.2.1.length==c0.2.2.2.1.length then
     bif s.2.2.2.2.1.length==c0.2.2.2.2.1.length then
      bif s.2.2.2.2.2.length==c0.2.2.2.2.2.length then
       some (.done s)
      else
       none
     else
      none
    else
     none
   else
    none
  else
   none
def qE (a:F7):Option F7:=
 aH (gW a) a
def UI:dT:=⟨[.i,.l [.i .i64],.l [.b],.l [.i .i64],.l [.i .i64,.i .i64,.i .i64,.i .i64,.i .i64],.l [.i .i64]],[.agg [.own 0 false,.own 1 false,.own 2 false,.own 3 false,.own 4 false],.int .i64 0],[.arr [.i .i64] [],.arr [.b] [],.arr [.i .i64] [],.arr [.i .i64,.i .i64,.i .i64,.i .i64,.i .i64] [],.arr [.i .i64] []],[.i,.l [.i .i64],.l [.b],.l [.i .i64],.l [.i .i64,.i .i64,.i .i64,.i .i64,.i .i64],.l [.i .i64]],.int .i64 0,[.arr [.i .i64] [],.arr [.b] [],.arr [.i .i64] [],.arr [.i .i64,.i .i64,.i .i64,.i .i64,.i .i64] [],.arr [.i .i64] []],fun a=>qE a⟩
theorem NF:lW aX 223 UI:=lW.of OR (wd:=false) (cx:=(oN aF [(173,UG)] [(220,EW),(220,EX)] [] [])) (lX.make ⟨C8,trivial⟩ ⟨uX,uY,trivial⟩ trivial) (fun a=>by kernel_rfl)
def kF (c0:F7) (s:F7):Option (bX F7 aM7):=
 bif decide ((Int.ofNat s.2.2.2.2.1.length)<=(aA .i64 ((aA .i64 (2*s.1))+1))) then
  bif s.2.1.length==c0.2.1.length then
   bif s.2.2.1.length==c0.2.2.1.length then
    bif s.2.2.2.1.length==c0.2.2.2.1.length then
     bif s.2.2.2.2.1.length==c0.2.2.2.2.1.length then
      bif s.2.2.2.2.2.length==c0.2.2.2.2.2.length then
       some (.done s.2)
      else
       none
     else
      none
    else
     none
   else
    none
  else
   none
 else
  bif decide ((aA .i64 ((aA .i64 ((aA .i64 (2*s.1))+1))+1))<(Int.ofNat s.2.2.2.2.1.length)) then
   (aJ s.2.2.2.2.1 (aA .i64 ((aA .i64 ((aA .i64 (2*s.1))+1))+1))).bind fun a0=>
   (aJ s.2.2.2.2.1 (aA .i64 ((aA .i64 (2*s.1))+1))).bind fun a1=>
   (eB a0 a1).bind fun b2=>
   bif b2 then
    (aJ s.2.2.2.2.1 (aA .i64 ((aA .i64 ((aA .i64 (2*s.1))+1))+1))).bind fun a3=>
    (aJ s.2.2.2.2.1 s.1).bind fun a4=>
    (eB a3 a4).bind fun b5=>
    bif !b5 then
     bif s.2.1.length==c0.2.1.length then
      bif s.2.2.1.length==c0.2.2.1.length then
       bif s.2.2.2.1.length==c0.2.2.2.1.length then
        bif s.2.2.2.2.1.length==c0.2.2.2.2.1.length then
         bif s.2.2.2.2.2.length==c0.2.2.2.2.2.length then
          some (.done s.2)
         else
          none
        else
         none
       else
        none
      else
       none
     else
      none
    else
     (fH (s.1,aA .i64 ((aA .i64 ((aA .i64 (2*s.1))+1))+1),s.2)).bind fun a6=>
     some (.next (aA .i64 ((aA .i64 ((aA .i64 (2*s.1))+1))+1),a6))
   else
    (aJ s.2.2.2.2.1 (aA .i64 ((aA .i64 (2*s.1))+1))).bind fun a7=>
    (aJ s.2.2.2.2.1 s.1).bind fun a8=>
    (eB a7 a8).bind fun b9=>
    bif !b9 then
     bif s.2.1.length==c0.2.1.length then
      bif s.2.2.1.length==c0.2.2.1.length then
       bif s.2.2.2.1.length==c0.2.2.2.1.length then
        bif s.2.2.2.2.1.length==c0.2.2.2.2.1.length then
         bif s.2.2.2.2.2.length==c0.2.2.2.2.2.length then
          some (.done s.2)
         else
          none
        else
         none
       else
        none
      else
       none
     else
      none
    else
     (fH (s.1,aA .i64 ((aA .i64 (2*s.1))+1),s.2)).bind fun a10=>
     some (.next (aA .i64 ((aA .i64 (2*s.1))+1),a10))
  else
   (aJ s.2.2.2.2.1 (aA .i64 ((aA .i64 (2*s.1))+1))).bind fun a11=>
   (aJ s.2.2.2.2.1 s.1).bind fun a12=>
   (eB a11 a12).bind fun b13=>
   bif !b13 then
    bif s.2.1.length==c0.2.1.length then
     bif s.2.2.1.length==c0.2.2.1.length then
      bif s.2.2.2.1.length==c0.2.2.2.1.length then
       bif s.2.2.2.2.1.length==c0.2.2.2.2.1.length then
        bif s.2.2.2.2.2.length==c0.2.2.2.2.2.length then
         some (.done s.2)
        else
         none
       else
        none
      else
       none
     else
      none
    else
     none
   else
    (fH (s.1,aA .i64 ((aA .i64 (2*s.1))+1),s.2)).bind fun a14=>
    some (.next (aA .i64 ((aA .i64 (2*s.1))+1),a14))
def nK (a:F7):Option aM7:=
 aH (kF a) a
def aAS:dT:=⟨[.i,.l [.i .i64],.l [.b],.l [.i .i64],.l [.i .i64,.i .i64,.i .i64,.i .i64,.i .i64],.l [.i .i64]],[.agg [.own 0 false,.own 1 false,.own 2 false,.own 3 false,.own 4 false],.int .i64 0],[.arr [.i .i64] [],.arr [.b] [],.arr [.i .i64] [],.arr [.i .i64,.i .i64,.i .i64,.i .i64,.i .i64] [],.arr [.i .i64] []],[.l [.i .i64],.l [.b],.l [.i .i64],.l [.i .i64,.i .i64,.i .i64,.i .i64,.i .i64],.l [.i .i64]],.tup [],[.arr [.i .i64] [],.arr [.b] [],.arr [.i .i64] [],.arr [.i .i64,.i .i64,.i .i64,.i .i64,.i .i64] [],.arr [.i .i64] []],fun a=>nK a⟩
theorem YO:lW aX 222 aAS:=lW.of WA (wd:=false) (cx:=(oN aF [(173,UG)] [(220,EW),(220,EX)] [] [])) (lX.make ⟨C8,trivial⟩ ⟨uX,uY,trivial⟩ trivial) (fun a=>by kernel_rfl)
def sJ (p0:aG) (p1:Int×Int) (p2:Int×Int):Option aG:=
 (lL p0).bind fun r0=>
 (aJ r0.where_ p1.1).bind fun n1=>
 (aJ r0.heap n1).bind fun a2=>
 (qE (n1,r0.slots.uses,r0.slots.used,r0.slots.free,bJ r0.heap n1 (p2.1,p2.2,a2.2.2),r0.where_)).bind fun a3=>
 (nK a3).bind fun a4=>
 some (aG.mk (aQ.mk a4.1 a4.2.1 a4.2.2.1) a4.2.2.2.1 a4.2.2.2.2)
def aPv:bM:=⟨aD.cons (aM.agg cZ) (aD.cons (aM.agg (cR.row jY)) (aD.one (aM.agg (cR.row jY)))),aM.agg cZ,fun a=>sJ a.1 a.2.1 a.2.2,.frz,false⟩
theorem aHs:aK aX 190 aPv:=aK.of aFn (cx:=(oN aF [(74,c74),(74,YI)] [(223,O8),(222,UH),(223,UI),(222,aAS)] [] [])) rfl (lX.make ⟨K6,F4,trivial⟩ ⟨HJ,NE,NF,YO,trivial⟩ trivial) (fun a=>by kernel_rfl)
def gI (p0:aQ):Option Bool:=
 bif decide (0<(Int.ofNat p0.free.length)) then
  (aJ p0.free (aA .i64 ((Int.ofNat p0.free.length) -1))).bind fun n0=>
  (aJ p0.uses n0).bind fun n1=>
  some (decide (n1<1000000))
 else
  some false
def aM9:bM:=⟨aD.one (aM.agg gC),aM.bool,fun a=>gI a,.pure,false⟩
theorem W4:aK aX 191 aM9:=Oc aFo rfl aF [] trivial fun a=>by kernel_rfl
def xH (p0:aQ):Option (aQ×(Int×Int)):=
 (mP p0).bind fun r0=>
 (aJ r0.free (aA .i64 ((Int.ofNat r0.free.length) -1))).bind fun n1=>
 (gF r0.free 0 (aA .i64 ((Int.ofNat r0.free.length) -1))).bind fun _=>
 (aJ r0.uses n1).bind fun n3=>
 (aJ r0.uses n1).bind fun _=>
 (aJ r0.used n1).bind fun _=>
 (aJ (bJ r0.uses n1 (aA .i64 (n3+1))) n1).bind fun n6=>
 some (aQ.mk (bJ r0.uses n1 (aA .i64 (n3+1))) (bJ r0.used n1 true) (r0.free.take ((aA .i64 ((Int.ofNat r0.free.length) -1)).toNat)),n1,n6)
def aPw:bM:=⟨aD.one (aM.agg gC),aM.tup (aD.cons (aM.agg gC) (aD.one (aM.agg (cR.row jY)))),fun a=>xH a,.frz,false⟩
theorem aHt:aK aX 224 aPw:=Oc aFN rfl aF [(133,aAw),(133,RA)] ⟨I7,F3,trivial⟩ fun a=>by kernel_rfl
def nL (a:((List Int)×(List Bool)×(List Int)×Int×Int×iD×(List Int))):Option MG:=
 (aJ a.2.2.2.2.2.1 a.2.2.2.2.1).bind fun a0=>
 (aJ a.2.2.2.2.2.1 a.2.2.2.1).bind fun a1=>
 (aJ a.2.2.2.2.2.1 a.2.2.2.1).bind fun _=>
 (aJ (bJ a.2.2.2.2.2.1 a.2.2.2.1 a0) a.2.2.2.2.1).bind fun _=>
 (aJ (bJ (bJ a.2.2.2.2.2.1 a.2.2.2.1 a0) a.2.2.2.2.1 a1) a.2.2.2.1).bind fun a4=>
 (aJ (bJ (bJ a.2.2.2.2.2.1 a.2.2.2.1 a0) a.2.2.2.2.1 a1) a.2.2.2.2.1).bind fun a5=>
 (aJ a.2.2.2.2.2.2 a4.2.2.2.1).bind fun _=>
 (aJ (bJ a.2.2.2.2.2.2 a4.2.2.2.1 a.2.2.2.1) a5.2.2.2.1).bind fun _=>
 bif ((bJ (bJ a.2.2.2.2.2.1 a.2.2.2.1 a0) a.2.2.2.2.1 a1).length)==a.2.2.2.2.2.1.length then
  bif ((bJ (bJ a.2.2.2.2.2.2 a4.2.2.2.1 a.2.2.2.1) a5.2.2.2.1 a.2.2.2.2.1).length)==a.2.2.2.2.2.2.length then
   some (bJ (bJ a.2.2.2.2.2.1 a.2.2.2.1 a0) a.2.2.2.2.1 a1,bJ (bJ a.2.2.2.2.2.2 a4.2.2.2.1 a.2.2.2.1) a5.2.2.2.1 a.2.2.2.2.1)
  else
   none
 else
  none
def aAT:dT:=⟨[.l [.i .i64],.l [.b],.l [.i .i64],.i,.i,.l [.i .i64,.i .i64,.i .i64,.i .i64,.i .i64],.l [.i .i64]],[.agg [.sl [.i .i64] [],.sl [.b] [],.sl [.i .i64] [],.own 0 false,.own 1 false],.int .i64 0,.int .i64 0],[.arr [.i .i64,.i .i64,.i .i64,.i .i64,.i .i64] [],.arr [.i .i64] []],[.l [.i .i64,.i .i64,.i .i64,.i .i64,.i .i64],.l [.i .i64]],.tup [],[.arr [.i .i64,.i .i64,.i .i64,.i .i64,.i .i64] [],.arr [.i .i64] []],fun a=>nL a⟩
theorem YP:lW aX 220 aAT:=lW.of OQ (wd:=false) (cx:=(oN aF [] [] [] [])) (lX.make trivial trivial trivial) (fun a=>by kernel_rfl)
abbrev aPx:=(List Int)×(List Bool)×(List Int)×Int×iD×(List Int)
abbrev aPy:=Int×iD×(List Int)×(List Int)×(List Bool)×(List Int)
def gX (c0:aPx) (s:aPy):Option (bX aPy aHq):=
 bif decide (0<s.1) then
  (aJ s.2.1 s.1).bind fun a0=>
  (aJ s.2.1 (aA .i64 (Int.tdiv (aA .i64 (s.1-1)) 2))).bind fun a1=>
  (eB a0 a1).bind fun b2=>
  bif b2 then
   (nL (s.2.2.2.1,s.2.2.2.2.1,s.2.2.2.2.2,s.1,aA .i64 (Int.tdiv (aA .i64 (s.1-1)) 2),s.2.1,s.2.2.1)).bind fun a3=>
   some (.next (aA .i64 (Int.tdiv (aA .i64 (s.1-1)) 2),a3.1,a3.2,s.2.2.2))
  else
   bif s.2.1.length==c0.2.2.2.2.1.length then
    bif s.2.2.1.length==c0.2.2.2.2.2.length then
     some (.done (s.1,s.2.1,s.2.2.1))
    else
     none
   else
    none
 else
  bif s.2.1.length==c0.2.2.2.2.1.length then
   bif s.2.2.1.length==c0.2.2.2.2.2.length then
    some (.done (s.1,s.2.1,s.2.2.1))
   else
    none
  else
   none
def qF (a:aPx):Option aHq:=
 aH (gX a) (a.2.2.2.1,a.2.2.2.2.1,a.2.2.2.2.2,a.1,a.2.1,a.2.2.1)
def aAU:dT:=⟨[.l [.i .i64],.l [.b],.l [.i .i64],.i,.l [.i .i64,.i .i64,.i .i64,.i .i64,.i .i64],.l [.i .i64]],[.agg [.sl [.i .i64] [],.sl [.b] [],.sl [.i .i64] [],.own 0 false,.own 1 false],.int .i64 0],[.arr [.i .i64,.i .i64,.i .i64,.i .i64,.i .i64] [],.arr [.i .i64] []],[.i,.l [.i .i64,.i .i64,.i .i64,.i .i64,.i .i64],.l [.i .i64]],.int .i64 0,[.arr [.i .i64,.i .i64,.i .i64,.i .i64,.i .i64] [],.arr [.i .i64] []],fun a=>qF a⟩
theorem YQ:lW aX 223 aAU:=lW.of OR (wd:=true) (cx:=(oN aF [(173,UG)] [(220,EW),(220,EX),(220,aAT)] [] [])) (lX.make ⟨C8,trivial⟩ ⟨uX,uY,YP,trivial⟩ trivial) (fun a=>by kernel_rfl)
def eH (p0:aG) (p1:Int×Int) (p2:Int):Option (aG×(Int×Int)):=
 (lL p0).bind fun r0=>
 (xH r0.slots).bind fun a1=>
 (bV r0.heap [(p1.1,p1.2,p2,a1.2)]).bind fun l2=>
 (aJ r0.where_ a1.2.1).bind fun _=>
 (qF (a1.1.uses,a1.1.used,a1.1.free,aA .i64 ((Int.ofNat l2.length) -1),l2,bJ r0.where_ a1.2.1 (aA .i64 ((Int.ofNat l2.length) -1)))).bind fun a4=>
 some (aG.mk a1.1 a4.2.1 a4.2.2,a1.2)
def aNa:bM:=⟨aD.cons (aM.agg cZ) (aD.cons (aM.agg (cR.row jY)) (aD.one (aM.int .i64))),aM.tup (aD.cons (aM.agg cZ) (aD.one (aM.agg (cR.row jY)))),fun a=>eH a.1 a.2.1 a.2.2,.frz,false⟩
theorem W5:aK aX 192 aNa:=aK.of aFp (cx:=(oN aF [(74,c74),(74,YI),(224,aPw)] [(223,O8),(223,UI),(223,aAU)] [] [])) rfl (lX.make ⟨K6,F4,aHt,trivial⟩ ⟨HJ,NF,YQ,trivial⟩ trivial) (fun a=>by kernel_rfl)
abbrev Zt6:=Int×Int×Int×bN×Int×bN×(List Int)×(List Bool)×(List Int)×iD×(List Int)×bN×bN×Int×Int×Int×Int×Int×bN×Int×bN×(List Int)×(List Bool)×(List Int)×iD×(List Int)×bN
def cH (s:Zt6):Option (bX Zt6 (aP×Int)):=
 match s with
 |(a,b,d,e,f,g,h,i,j,k,l,m,n,o,q,r,t,u,v,w,x,y,z,A,B,C,D)=>
  bif decide (a<(Int.ofNat g.length)) then
   (aJ g a).bind fun a0=>
   (pE (aP.mk (b,d) (Field.mk e) (aU.mk f g) (aG.mk (aQ.mk h i j) k l) m) a0.1).bind fun n1=>
   (rH (Field.mk n) a0.2 (b,d)).bind fun a2=>
   bif a2.2 then
    bif decide (0<=n1) then
     (aJ m n1).bind fun a3=>
     (sJ (aG.mk (aQ.mk y z A) B C) a3.2 a2.1).bind fun r4=>
     (aJ m n1).bind fun a5=>
     (bV D [a5]).bind fun l6=>
     bif !a2.2 then
      bif decide (0<=n1) then
       (aJ m n1).bind fun a7=>
       (jR r4 a7.2).bind fun r8=>
       bif !a2.2 then
        some (.next (aA .i64 (a+1),b,d,e,f,g,h,i,j,k,l,m,n,o,q,r,t,u,v,w,x,r8.slots.uses,r8.slots.used,r8.slots.free,r8.heap,r8.where_,l6))
       else
        bif decide (0<=n1) then
         some (.next (aA .i64 (a+1),b,d,e,f,g,h,i,j,k,l,m,n,o,q,r,t,u,v,w,x,r8.slots.uses,r8.slots.used,r8.slots.free,r8.heap,r8.where_,l6))
        else
         (gI r8.slots).bind fun b9=>
         bif !b9 then
          some (.done (aP.mk (0,0) (Field.mk []) (aU.mk 0 []) (aG.mk (aQ.mk [] [] []) [] []) [],18))
         else
          (eH r8 a2.1 a0.1).bind fun a10=>
          (bV l6 [(a0.1,a10.2)]).bind fun l11=>
          some (.next (aA .i64 (a+1),b,d,e,f,g,h,i,j,k,l,m,n,o,q,r,t,u,v,w,x,a10.1.slots.uses,a10.1.slots.used,a10.1.slots.free,a10.1.heap,a10.1.where_,l11))
      else
       bif !a2.2 then
        some (.next (aA .i64 (a+1),b,d,e,f,g,h,i,j,k,l,m,n,o,q,r,t,u,v,w,x,r4.slots.uses,r4.slots.used,r4.slots.free,r4.heap,r4.where_,l6))
       else
        bif decide (0<=n1) then
         some (.next (aA .i64 (a+1),b,d,e,f,g,h,i,j,k,l,m,n,o,q,r,t,u,v,w,x,r4.slots.uses,r4.slots.used,r4.slots.free,r4.heap,r4.where_,l6))
        else
         (gI r4.slots).bind fun b12=>
         bif !b12 then
          some (.done (aP.mk (0,0) (Field.mk []) (aU.mk 0 []) (aG.mk (aQ.mk [] [] []) [] []) [],18))
         else
          (eH r4 a2.1 a0.1).bind fun a13=>
          (bV l6 [(a0.1,a13.2)]).bind fun l14=>
          some (.next (aA .i64 (a+1),b,d,e,f,g,h,i,j,k,l,m,n,o,q,r,t,u,v,w,x,a13.1.slots.uses,a13.1.slots.used,a13.1.slots.free,a13.1.heap,a13.1.where_,l14))
     else
      bif !a2.2 then
       some (.next (aA .i64 (a+1),b,d,e,f,g,h,i,j,k,l,m,n,o,q,r,t,u,v,w,x,r4.slots.uses,r4.slots.used,r4.slots.free,r4.heap,r4.where_,l6))
      else
       bif decide (0<=n1) then
        some (.next (aA .i64 (a+1),b,d,e,f,g,h,i,j,k,l,m,n,o,q,r,t,u,v,w,x,r4.slots.uses,r4.slots.used,r4.slots.free,r4.heap,r4.where_,l6))
       else
        (gI r4.slots).bind fun b15=>
        bif !b15 then
         some (.done (aP.mk (0,0) (Field.mk []) (aU.mk 0 []) (aG.mk (aQ.mk [] [] []) [] []) [],18))
        else
         (eH r4 a2.1 a0.1).bind fun a16=>
         (bV l6 [(a0.1,a16.2)]).bind fun l17=>
         some (.next (aA .i64 (a+1),b,d,e,f,g,h,i,j,k,l,m,n,o,q,r,t,u,v,w,x,a16.1.slots.uses,a16.1.slots.used,a16.1.slots.free,a16.1.heap,a16.1.where_,l17))
    else
     bif !a2.2 then
      bif decide (0<=n1) then
       (aJ m n1).bind fun a18=>
       (jR (aG.mk (aQ.mk y z A) B C) a18.2).bind fun r19=>
       bif !a2.2 then
        some (.next (aA .i64 (a+1),b,d,e,f,g,h,i,j,k,l,m,n,o,q,r,t,u,v,w,x,r19.slots.uses,r19.slots.used,r19.slots.free,r19.heap,r19.where_,D))
       else
        bif decide (0<=n1) then
         some (.next (aA .i64 (a+1),b,d,e,f,g,h,i,j,k,l,m,n,o,q,r,t,u,v,w,x,r19.slots.uses,r19.slots.used,r19.slots.free,r19.heap,r19.where_,D))
        else
         (gI r19.slots).bind fun b20=>
         bif !b20 then
          some (.done (aP.mk (0,0) (Field.mk []) (aU.mk 0 []) (aG.mk (aQ.mk [] [] []) [] []) [],18))
         else
          (eH r19 a2.1 a0.1).bind fun a21=>
          (bV D [(a0.1,a21.2)]).bind fun l22=>
          some (.next (aA .i64 (a+1),b,d,e,f,g,h,i,j,k,l,m,n,o,q,r,t,u,v,w,x,a21.1.slots.uses,a21.1.slots.used,a21.1.slots.free,a21.1.heap,a21.1.where_,l22))
      else
       bif !a2.2 then
        some (.next (aA .i64 (a+1),(b,d,e,f,g,h,i,j,k,l,m,n,o,q,r,t,u,v,w,x,y,z,A,B,C,D)))
       else
        bif decide (0<=n1) then
         some (.next (aA .i64 (a+1),(b,d,e,f,g,h,i,j,k,l,m,n,o,q,r,t,u,v,w,x,y,z,A,B,C,D)))
        else
         (gI (aQ.mk y z A)).bind fun b23=>
         bif !b23 then
          some (.done (aP.mk (0,0) (Field.mk []) (aU.mk 0 []) (aG.mk (aQ.mk [] [] []) [] []) [],18))
         else
          (eH (aG.mk (aQ.mk y z A) B C) a2.1 a0.1).bind fun a24=>
          (bV D [(a0.1,a24.2)]).bind fun l25=>
          some (.next (aA .i64 (a+1),b,d,e,f,g,h,i,j,k,l,m,n,o,q,r,t,u,v,w,x,a24.1.slots.uses,a24.1.slots.used,a24.1.slots.free,a24.1.heap,a24.1.where_,l25))
     else
      bif !a2.2 then
       some (.next (aA .i64 (a+1),(b,d,e,f,g,h,i,j,k,l,m,n,o,q,r,t,u,v,w,x,y,z,A,B,C,D)))
      else
       bif decide (0<=n1) then
        some (.next (aA .i64 (a+1),(b,d,e,f,g,h,i,j,k,l,m,n,o,q,r,t,u,v,w,x,y,z,A,B,C,D)))
       else
        (gI (aQ.mk y z A)).bind fun b26=>
        bif !b26 then
         some (.done (aP.mk (0,0) (Field.mk []) (aU.mk 0 []) (aG.mk (aQ.mk [] [] []) [] []) [],18))
        else
         (eH (aG.mk (aQ.mk y z A) B C) a2.1 a0.1).bind fun a27=>
         (bV D [(a0.1,a27.2)]).bind fun l28=>
         some (.next (aA .i64 (a+1),b,d,e,f,g,h,i,j,k,l,m,n,o,q,r,t,u,v,w,x,a27.1.slots.uses,a27.1.slots.used,a27.1.slots.free,a27.1.heap,a27.1.where_,l28))
   else
    bif !a2.2 then
     bif decide (0<=n1) then
      (aJ m n1).bind fun a29=>
      (jR (aG.mk (aQ.mk y z A) B C) a29.2).bind fun r30=>
      bif !a2.2 then
       some (.next (aA .i64 (a+1),b,d,e,f,g,h,i,j,k,l,m,n,o,q,r,t,u,v,w,x,r30.slots.uses,r30.slots.used,r30.slots.free,r30.heap,r30.where_,D))
      else
       bif decide (0<=n1) then
        some (.next (aA .i64 (a+1),b,d,e,f,g,h,i,j,k,l,m,n,o,q,r,t,u,v,w,x,r30.slots.uses,r30.slots.used,r30.slots.free,r30.heap,r30.where_,D))
       else
        (gI r30.slots).bind fun b31=>
        bif !b31 then
         some (.done (aP.mk (0,0) (Field.mk []) (aU.mk 0 []) (aG.mk (aQ.mk [] [] []) [] []) [],18))
        else
         (eH r30 a2.1 a0.1).bind fun a32=>
         (bV D [(a0.1,a32.2)]).bind fun l33=>
         some (.next (aA .i64 (a+1),b,d,e,f,g,h,i,j,k,l,m,n,o,q,r,t,u,v,w,x,a32.1.slots.uses,a32.1.slots.used,a32.1.slots.free,a32.1.heap,a32.1.where_,l33))
     else
      bif !a2.2 then
       some (.next (aA .i64 (a+1),(b,d,e,f,g,h,i,j,k,l,m,n,o,q,r,t,u,v,w,x,y,z,A,B,C,D)))
      else
       bif decide (0<=n1) then
        some (.next (aA .i64 (a+1),(b,d,e,f,g,h,i,j,k,l,m,n,o,q,r,t,u,v,w,x,y,z,A,B,C,D)))
       else
        (gI (aQ.mk y z A)).bind fun b34=>
        bif !b34 then
         some (.done (aP.mk (0,0) (Field.mk []) (aU.mk 0 []) (aG.mk (aQ.mk [] [] []) [] []) [],18))
        else
         (eH (aG.mk (aQ.mk y z A) B C) a2.1 a0.1).bind fun a35=>
         (bV D [(a0.1,a35.2)]).bind fun l36=>
         some (.next (aA .i64 (a+1),b,d,e,f,g,h,i,j,k,l,m,n,o,q,r,t,u,v,w,x,a35.1.slots.uses,a35.1.slots.used,a35.1.slots.free,a35.1.heap,a35.1.where_,l36))
    else
     bif !a2.2 then
      some (.next (aA .i64 (a+1),(b,d,e,f,g,h,i,j,k,l,m,n,o,q,r,t,u,v,w,x,y,z,A,B,C,D)))
     else
      bif decide (0<=n1) then
       some (.next (aA .i64 (a+1),(b,d,e,f,g,h,i,j,k,l,m,n,o,q,r,t,u,v,w,x,y,z,A,B,C,D)))
      else
       (gI (aQ.mk y z A)).bind fun b37=>
       bif !b37 then
        some (.done (aP.mk (0,0) (Field.mk []) (aU.mk 0 []) (aG.mk (aQ.mk [] [] []) [] []) [],18))
       else
        (eH (aG.mk (aQ.mk y z A) B C) a2.1 a0.1).bind fun a38=>
        (bV D [(a0.1,a38.2)]).bind fun l39=>
        some (.next (aA .i64 (a+1),b,d,e,f,g,h,i,j,k,l,m,n,o,q,r,t,u,v,w,x,a38.1.slots.uses,a38.1.slots.used,a38.1.slots.free,a38.1.heap,a38.1.where_,l39))
  else
   some (.done (aP.mk (t,u) (Field.mk v) (aU.mk w x) (aG.mk (aQ.mk y z A) B C) D,0))
def mD (p0:aP) (p1:Field):Option (aP×Int):=
 (iO p0).bind fun r0=>
 (oP p1).bind fun r1=>
 aH cH (0,p0.now.1,p0.now.2,p0.field.points,p0.certs.next_,p0.certs.list,p0.agenda.slots.uses,p0.agenda.slots.used,p0.agenda.slots.free,p0.agenda.heap,p0.agenda.where_,p0.due,p1.points,0,0,0,r0.now.1,r0.now.2,r1.points,r0.certs.next_,r0.certs.list,r0.agenda.slots.uses,r0.agenda.slots.used,r0.agenda.slots.free,r0.agenda.heap,r0.agenda.where_,[])
def aPz:bM:=⟨aD.cons (aM.agg bR) (aD.one (aM.agg cA)),aM.tup (aD.cons (aM.agg bR) (aD.one (aM.int .i64))),fun a=>mD a.1 a.2,.frz,false⟩
theorem aHu:aK aX 148 aPz:=Oc aEP rfl aF [(32,c32),(32,T8),(72,c72),(72,aF6),(188,aM6),(124,aHc),(190,aPv),(189,aM8),(191,aM9),(192,aNa)] ⟨HE,C2,T6,OS,W0,O5,aHs,W3,W4,W5,trivial⟩ fun a=>by kernel_rfl
def DB (p0:aU) (p1:Int×Int):Option (aU×Int×Int):=
 (tM p0).bind fun n0=>
 bif n0 !=0 then
  some (aU.mk 0 [],0,8)
 else
  (vR p1).bind fun b1=>
  bif !b1 then
   some (aU.mk 0 [],0,8)
  else
   (uW p0 p1).bind fun b2=>
   bif b2 then
    some (aU.mk 0 [],0,14)
   else
    bif (Int.ofNat p0.list.length)==200 then
     some (aU.mk 0 [],0,18)
    else
     bif p0.next_==1000000 then
      some (aU.mk 0 [],0,18)
     else
      (oQ p0).bind fun r3=>
      (bV r3.list [(p0.next_,p1)]).bind fun l4=>
      some (aU.mk (aA .i64 (r3.next_+1)) l4,p0.next_,0)
def aPA:bM:=⟨aD.cons (aM.agg gK) (aD.one (aM.agg (cR.row jY))),aM.tup (aD.cons (aM.agg gK) (aD.cons (aM.int .i64) (aD.one (aM.int .i64)))),fun a=>DB a.1 a.2,.frz,false⟩
theorem aHv:aK aX 193 aPA:=Oc aFq rfl aF [(121,aMO),(170,aMM),(126,aHe),(73,c73),(73,aF7)] ⟨WT,WR,O6,T7,OT,trivial⟩ fun a=>by kernel_rfl
def lF (p0:aP) (p1:Int×Int):Option (aP×Int×Int):=
 (DB p0.certs p1).bind fun a0=>
 bif a0.2.2 !=0 then
  some (aP.mk (0,0) (Field.mk []) (aU.mk 0 []) (aG.mk (aQ.mk [] [] []) [] []) [],0,a0.2.2)
 else
  (iO p0).bind fun r1=>
  (rH p0.field p1 p0.now).bind fun a2=>
  bif !a2.2 then
   some (aP.mk r1.now r1.field a0.1 r1.agenda r1.due,a0.2.1,0)
  else
   (gI p0.agenda.slots).bind fun b3=>
   bif !b3 then
    some (aP.mk (0,0) (Field.mk []) (aU.mk 0 []) (aG.mk (aQ.mk [] [] []) [] []) [],0,18)
   else
    (eH p0.agenda a2.1 a0.2.1).bind fun a4=>
    (bV r1.due [(a0.2.1,a4.2)]).bind fun l5=>
    some (aP.mk r1.now r1.field a0.1 a4.1 l5,a0.2.1,0)
def aPB:bM:=⟨aD.cons (aM.agg bR) (aD.one (aM.agg (cR.row jY))),aM.tup (aD.cons (aM.agg bR) (aD.cons (aM.int .i64) (aD.one (aM.int .i64)))),fun a=>lF a.1 a.2,.frz,false⟩
theorem aHw:aK aX 149 aPB:=Oc aEQ rfl aF [(193,aPA),(32,c32),(32,T8),(124,aHc),(191,aM9),(192,aNa)] ⟨aHv,HE,C2,O5,W4,W5,trivial⟩ fun a=>by kernel_rfl
abbrev aPC:=xU×Int×Int×Int×bN×Int×bN×(List Int)×(List Bool)×(List Int)×iD×(List Int)×bN×bN×Int×Int×Int×Int×Int×bN×Int×bN×(List Int)×(List Bool)×(List Int)×iD×(List Int)×bN
abbrev Zt4:=bX aPC (aP×Int)
abbrev aPD:=xU×Int×Int×Int×Int×Int×Int×bN×Int×bN×(List Int)×(List Bool)×(List Int)×iD×(List Int)×bN
def dO (s:aPD):Option (bX aPD Zt4):=
 bif decide (s.2.1<(Int.ofNat s.1.length)) then
  (aJ s.1 s.2.1).bind fun a0=>
  (uW (aU.mk s.2.2.2.2.2.2.2.2.1 s.2.2.2.2.2.2.2.2.2.1) a0).bind fun b1=>
  bif b1 then
   some (.next (s.1,aA .i64 (s.2.1+1),s.2.2))
  else
   (aJ s.1 s.2.1).bind fun a2=>
   (lF (aP.mk (s.2.2.2.2.2.1,s.2.2.2.2.2.2.1) (Field.mk s.2.2.2.2.2.2.2.1) (aU.mk s.2.2.2.2.2.2.2.2.1 s.2.2.2.2.2.2.2.2.2.1) (aG.mk (aQ.mk s.2.2.2.2.2.2.2.2.2.2.1 s.2.2.2.2.2.2.2.2.2.2.2.1 s.2.2.2.2.2.2.2.2.2.2.2.2.1) s.2.2.2.2.2.2.2.2.2.2.2.2.2.1 s.2.2.2.2.2.2.2.2.2.2.2.2.2.2.1) s.2.2.2.2.2.2.2.2.2.2.2.2.2.2.2) a2).bind fun a3=>
   bif a3.2.2 !=0 then
    some (.done (.done (aP.mk (0,0) (Field.mk []) (aU.mk 0 []) (aG.mk (aQ.mk [] [] []) [] []) [],a3.2.2)))
   else
    some (.next (s.1,aA .i64 (s.2.1+1),s.2.2.1,s.2.2.2.1,s.2.2.2.2.1,a3.1.now.1,a3.1.now.2,a3.1.field.points,a3.1.certs.next_,a3.1.certs.list,a3.1.agenda.slots.uses,a3.1.agenda.slots.used,a3.1.agenda.slots.free,a3.1.agenda.heap,a3.1.agenda.where_,a3.1.due))
 else
  some (.done (.done (aP.mk (s.2.2.2.2.2.1,s.2.2.2.2.2.2.1) (Field.mk s.2.2.2.2.2.2.2.1) (aU.mk s.2.2.2.2.2.2.2.2.1 s.2.2.2.2.2.2.2.2.2.1) (aG.mk (aQ.mk s.2.2.2.2.2.2.2.2.2.2.1 s.2.2.2.2.2.2.2.2.2.2.2.1 s.2.2.2.2.2.2.2.2.2.2.2.2.1) s.2.2.2.2.2.2.2.2.2.2.2.2.2.1 s.2.2.2.2.2.2.2.2.2.2.2.2.2.2.1) s.2.2.2.2.2.2.2.2.2.2.2.2.2.2.2,0)))
def dG (s:aPC):Option Zt4:=
 match s with
 |(a,b,d,e,f,g,h,i,j,k,l,m,n,o,q,r,t,u,v,w,x,y,z,A,B,C,D,E)=>
  bif decide (b<(Int.ofNat h.length)) then
   (aJ h b).bind fun a0=>
   (F8 a a0.2).bind fun b1=>
   bif !b1 then
    (aJ h b).bind fun a2=>
    (vU (aP.mk (u,v) (Field.mk w) (aU.mk x y) (aG.mk (aQ.mk z A B) C D) E) a2.1).bind fun r3=>
    some (.next (a,aA .i64 (b+1),d,e,f,g,h,i,j,k,l,m,n,o,q,r,t,r3.now.1,r3.now.2,r3.field.points,r3.certs.next_,r3.certs.list,r3.agenda.slots.uses,r3.agenda.slots.used,r3.agenda.slots.free,r3.agenda.heap,r3.agenda.where_,r3.due))
   else
    some (.next (a,aA .i64 (b+1),(d,e,f,g,h,i,j,k,l,m,n,o,q,r,t,u,v,w,x,y,z,A,B,C,D,E)))
  else
   (vV (Field.mk w) (Field.mk o)).bind fun b4=>
   bif !b4 then
    (mD (aP.mk (u,v) (Field.mk w) (aU.mk x y) (aG.mk (aQ.mk z A B) C D) E) (Field.mk o)).bind fun a5=>
    bif a5.2 !=0 then
     some (.done (aP.mk (0,0) (Field.mk []) (aU.mk 0 []) (aG.mk (aQ.mk [] [] []) [] []) [],a5.2))
    else
     aH dO (a,0,q,r,t,a5.1.now.1,a5.1.now.2,a5.1.field.points,a5.1.certs.next_,a5.1.certs.list,a5.1.agenda.slots.uses,a5.1.agenda.slots.used,a5.1.agenda.slots.free,a5.1.agenda.heap,a5.1.agenda.where_,a5.1.due)
   else
    aH dO (a,0,(q,r,t,u,v,w,x,y,z,A,B,C,D,E))
def oA (p0:aP) (p1:Field) (p2:List (Int×Int)):Option (aP×Int):=
 (iO p0).bind fun r0=>
 aH dG (p2,0,p0.now.1,p0.now.2,p0.field.points,p0.certs.next_,p0.certs.list,p0.agenda.slots.uses,p0.agenda.slots.used,p0.agenda.slots.free,p0.agenda.heap,p0.agenda.where_,p0.due,p1.points,0,0,0,r0.now.1,r0.now.2,r0.field.points,r0.certs.next_,r0.certs.list,r0.agenda.slots.uses,r0.agenda.slots.used,r0.agenda.slots.free,r0.agenda.heap,r0.agenda.where_,r0.due)
def c87:bM:=⟨aD.cons (aM.agg bR) (aD.cons (aM.agg cA) (aD.one (aM.sl jY))),aM.tup (aD.cons (aM.agg bR) (aD.one (aM.int .i64))),fun a=>oA a.1 a.2.1 a.2.2,.frz,false⟩
theorem aNb:aK aX 87 c87:=Oc aL6 rfl aF [(32,c32),(32,T8),(147,aPq),(146,aPu),(89,c89),(148,aPz),(126,aHe),(149,aPB)] ⟨HE,C2,aHl,aHr,aAR,aHu,O6,aHw,trivial⟩ fun a=>by kernel_rfl
def oS (p0:aP) (p1:Field) (p2:List Int):Option (dH×Int):=
 (CC p2).bind fun l0=>
 (oA p0 p1 l0).bind fun a1=>
 bif a1.2 !=0 then
  some (dH.mk (aP.mk (0,0) (Field.mk []) (aU.mk 0 []) (aG.mk (aQ.mk [] [] []) [] []) []) [],a1.2)
 else
  some (dH.mk a1.1 p2,0)
def c49:bM:=⟨aD.cons (aM.agg bR) (aD.cons (aM.agg cA) (aD.one (aM.sl ki))),aM.tup (aD.cons (aM.agg iC) (aD.one (aM.int .i64))),fun a=>oS a.1 a.2.1 a.2.2,.frz,false⟩
theorem aNc:aK aX 49 c49:=Oc aLM rfl aF [(57,c57),(57,aM0),(87,c87)] ⟨aAP,WZ,aNb,trivial⟩ fun a=>by kernel_rfl
def oT (p0:dH) (p1:Int):Option (dH×Int):=
 (tQ p0).bind fun n0=>
 bif n0 !=0 then
  (tQ p0).bind fun n1=>
  some (dH.mk (aP.mk (0,0) (Field.mk []) (aU.mk 0 []) (aG.mk (aQ.mk [] [] []) [] []) []) [],n1)
 else
  (mY p0.clock.field p1).bind fun a2=>
  bif a2.2 !=0 then
   some (dH.mk (aP.mk (0,0) (Field.mk []) (aU.mk 0 []) (aG.mk (aQ.mk [] [] []) [] []) []) [],a2.2)
  else
   (xF p0.heap p1).bind fun n3=>
   (gF p0.heap 0 (aA .i64 ((Int.ofNat p0.heap.length) -1))).bind fun l4=>
   (bO l4).bind fun l5=>
   bif decide (n3<(aA .i64 ((Int.ofNat p0.heap.length) -1))) then
    (aJ p0.heap (aA .i64 ((Int.ofNat p0.heap.length) -1))).bind fun n6=>
    (aJ l5 n3).bind fun _=>
    (uT a2.1 p0.clock.now (bJ l5 n3 n6) n3).bind fun l8=>
    (oS p0.clock a2.1 l8).bind fun a9=>
    some a9
   else
    (oS p0.clock a2.1 l5).bind fun a10=>
    some a10
def c15:bM:=⟨aD.cons (aM.agg iC) (aD.one (aM.int .i64)),aM.tup (aD.cons (aM.agg iC) (aD.one (aM.int .i64))),fun a=>oT a.1 a.2,.frz,false⟩
theorem aNd:aK aX 15 c15:=Oc aLv rfl aF [(26,c26),(46,c46),(47,c47),(48,c48),(49,c49)] ⟨aM2,aM3,aAQ,aM5,aNc,trivial⟩ fun a=>by kernel_rfl
def sK (s:(Int×Int×bN×Int×bN)):Option (bX (Int×Int×bN×Int×bN) Bool):=
 bif decide (s.1<(Int.ofNat s.2.2.1.length)) then
  (aJ s.2.2.1 s.1).bind fun a0=>
  (aJ s.2.2.2.2 s.1).bind fun a1=>
  bif !((a0.1==a1.1)&&((a0.2.1==a1.2.1)&&(a0.2.2==a1.2.2))) then
   some (.done false)
  else
   some (.next (aA .i64 (s.1+1),s.2))
 else
  some (.done true)
def AM (p0:aU) (p1:aU):Option Bool:=
 bif p0.next_ !=p1.next_ then
  some false
 else
  bif (Int.ofNat p0.list.length) !=(Int.ofNat p1.list.length) then
   some false
  else
   aH sK (0,p0.next_,p0.list,p1.next_,p1.list)
def c90:bM:=⟨aD.cons (aM.agg gK) (aD.one (aM.agg gK)),aM.bool,fun a=>AM a.1 a.2,.pure,false⟩
theorem aNe:aK aX 90 c90:=Oc aL8 rfl aF [] trivial fun a=>by kernel_rfl
abbrev aHx:=(List Int)×(List Int)×Int
def mK (s:aHx):Option (bX aHx Bool):=
 bif decide (s.2.2<(Int.ofNat s.1.length)) then
  (aJ s.1 s.2.2).bind fun n0=>
  (aJ s.2.1 s.2.2).bind fun n1=>
  bif n0 !=n1 then
   some (.done false)
  else
   some (.next (s.1,s.2.1,aA .i64 (s.2.2+1)))
 else
  some (.done true)
def kT (p0:List Int) (p1:List Int):Option Bool:=
 bif (Int.ofNat p0.length) !=(Int.ofNat p1.length) then
  some false
 else
  aH mK (p0,p1,0)
def aNf:bM:=⟨aD.cons (aM.sl ki) (aD.one (aM.sl ki)),aM.bool,fun a=>kT a.1 a.2,.pure,false⟩
theorem W6:aK aX 151 aNf:=Oc aES rfl aF [] trivial fun a=>by kernel_rfl
def lQ (s:((List Bool)×(List Bool)×Int)):Option (bX ((List Bool)×(List Bool)×Int) Bool):=
 bif decide (s.2.2<(Int.ofNat s.1.length)) then
  (aJ s.1 s.2.2).bind fun b0=>
  (aJ s.2.1 s.2.2).bind fun b1=>
  bif !(b0==b1) then
   some (.done false)
  else
   some (.next (s.1,s.2.1,aA .i64 (s.2.2+1)))
 else
  some (.done true)
def oI (p0:List Bool) (p1:List Bool):Option Bool:=
 bif (Int.ofNat p0.length) !=(Int.ofNat p1.length) then
  some false
 else
  aH lQ (p0,p1,0)
def aPE:bM:=⟨aD.cons (aM.sl kb) (aD.one (aM.sl kb)),aM.bool,fun a=>oI a.1 a.2,.pure,false⟩
theorem aHy:aK aX 194 aPE:=Oc aFr rfl aF [] trivial fun a=>by kernel_rfl
def EY (p0:aQ) (p1:aQ):Option Bool:=
 (kT p0.uses p1.uses).bind fun b0=>
 bif b0 then
  (oI p0.used p1.used).bind fun b1=>
  bif b1 then
   (kT p0.free p1.free).bind fun b2=>
   some b2
  else
   some false
 else
  some false
def aPF:bM:=⟨aD.cons (aM.agg gC) (aD.one (aM.agg gC)),aM.bool,fun a=>EY a.1 a.2,.pure,false⟩
theorem aHz:aK aX 150 aPF:=Oc aER rfl aF [(151,aNf),(194,aPE)] ⟨W6,aHy,trivial⟩ fun a=>by kernel_rfl
abbrev aPG:=Int×(List Int)×(List Bool)×(List Int)×iD×(List Int)×(List Int)×(List Bool)×(List Int)×iD×(List Int)
def sL (s:aPG):Option (bX aPG Bool):=
 bif decide (s.1<(Int.ofNat s.2.2.2.2.1.length)) then
  (aJ s.2.2.2.2.1 s.1).bind fun a0=>
  (aJ s.2.2.2.2.2.2.2.2.2.1 s.1).bind fun a1=>
  bif !((a0.1==a1.1)&&((a0.2.1==a1.2.1)&&((a0.2.2.1==a1.2.2.1)&&((a0.2.2.2.1==a1.2.2.2.1)&&(a0.2.2.2.2==a1.2.2.2.2))))) then
   some (.done false)
  else
   some (.next (aA .i64 (s.1+1),s.2))
 else
  some (.done true)
def AN (p0:aG) (p1:aG):Option Bool:=
 (EY p0.slots p1.slots).bind fun b0=>
 bif !b0 then
  some false
 else
  (kT p0.where_ p1.where_).bind fun b1=>
  bif !b1 then
   some false
  else
   bif (Int.ofNat p0.heap.length) !=(Int.ofNat p1.heap.length) then
    some false
   else
    aH sL (0,p0.slots.uses,p0.slots.used,p0.slots.free,p0.heap,p0.where_,p1.slots.uses,p1.slots.used,p1.slots.free,p1.heap,p1.where_)
def c91:bM:=⟨aD.cons (aM.agg cZ) (aD.one (aM.agg cZ)),aM.bool,fun a=>AN a.1 a.2,.pure,false⟩
theorem aNg:aK aX 91 c91:=Oc aL9 rfl aF [(150,aPF),(151,aNf)] ⟨aHz,W6,trivial⟩ fun a=>by kernel_rfl
abbrev Zt7:=Int×Int×Int×bN×Int×bN×(List Int)×(List Bool)×(List Int)×iD×(List Int)×bN×Int×Int×bN×Int×bN×(List Int)×(List Bool)×(List Int)×iD×(List Int)×bN
def sM (s:Zt7):Option (bX Zt7 Bool):=
 bif decide (s.1<(Int.ofNat s.2.2.2.2.2.2.2.2.2.2.2.1.length)) then
  (aJ s.2.2.2.2.2.2.2.2.2.2.2.1 s.1).bind fun a0=>
  (aJ s.2.2.2.2.2.2.2.2.2.2.2.2.2.2.2.2.2.2.2.2.2.2 s.1).bind fun a1=>
  bif !((a0.1==a1.1)&&((a0.2.1==a1.2.1)&&(a0.2.2==a1.2.2))) then
   some (.done false)
  else
   some (.next (aA .i64 (s.1+1),s.2))
 else
  some (.done true)
def AO (p0:aP) (p1:aP):Option Bool:=
 bif !((p0.now.1==p1.now.1)&&(p0.now.2==p1.now.2)) then
  some false
 else
  (vV p0.field p1.field).bind fun b0=>
  bif !b0 then
   some false
  else
   (AM p0.certs p1.certs).bind fun b1=>
   bif !b1 then
    some false
   else
    (AN p0.agenda p1.agenda).bind fun b2=>
    bif !b2 then
     some false
    else
     bif (Int.ofNat p0.due.length) !=(Int.ofNat p1.due.length) then
      some false
     else
      aH sM (0,p0.now.1,p0.now.2,p0.field.points,p0.certs.next_,p0.certs.list,p0.agenda.slots.uses,p0.agenda.slots.used,p0.agenda.slots.free,p0.agenda.heap,p0.agenda.where_,p0.due,p1.now.1,p1.now.2,p1.field.points,p1.certs.next_,p1.certs.list,p1.agenda.slots.uses,p1.agenda.slots.used,p1.agenda.slots.free,p1.agenda.heap,p1.agenda.where_,p1.due)
def c40:bM:=⟨aD.cons (aM.agg bR) (aD.one (aM.agg bR)),aM.bool,fun a=>AO a.1 a.2,.pure,false⟩
theorem aNh:aK aX 40 c40:=Oc aLD rfl aF [(89,c89),(90,c90),(91,c91)] ⟨aAR,aNe,aNg,trivial⟩ fun a=>by kernel_rfl
def nM (s:aHx):Option (bX aHx Bool):=
 bif decide (s.2.2<(Int.ofNat s.1.length)) then
  (aJ s.1 s.2.2).bind fun n0=>
  (aJ s.2.1 s.2.2).bind fun n1=>
  bif n0 !=n1 then
   some (.done false)
  else
   some (.next (s.1,s.2.1,aA .i64 (s.2.2+1)))
 else
  some (.done true)
def sN (p0:List Int) (p1:List Int):Option Bool:=
 bif (Int.ofNat p0.length) !=(Int.ofNat p1.length) then
  some false
 else
  aH nM (p0,p1,0)
def c41:bM:=⟨aD.cons (aM.sl ki) (aD.one (aM.sl ki)),aM.bool,fun a=>sN a.1 a.2,.pure,false⟩
theorem aNi:aK aX 41 c41:=Oc aLE rfl aF [] trivial fun a=>by kernel_rfl
def vW (p0:dH) (p1:dH):Option Bool:=
 (AO p0.clock p1.clock).bind fun b0=>
 bif b0 then
  (sN p0.heap p1.heap).bind fun b1=>
  some b1
 else
  some false
def c12:bM:=⟨aD.cons (aM.agg iC) (aD.one (aM.agg iC)),aM.bool,fun a=>vW a.1 a.2,.pure,false⟩
theorem aNj:aK aX 12 c12:=Oc aLt rfl aF [(40,c40),(41,c41)] ⟨aNh,aNi,trivial⟩ fun a=>by kernel_rfl
def rI (p0:dH) (p1:Int):Option Bool:=
 (tF p0).bind fun b0=>
 bif b0 then
  some true
 else
  (vK p0).bind fun r1=>
  (oR r1 p1).bind fun a2=>
  (oT p0 p1).bind fun a3=>
  (vW a2.1 a3.1).bind fun b4=>
  bif b4 then
   bif a2.2==a3.2 then
    (vW r1 p0).bind fun b5=>
    some b5
   else
    some false
  else
   some false
def c4:bM:=⟨aD.cons (aM.agg iC) (aD.one (aM.int .i64)),aM.bool,fun a=>rI a.1 a.2,.pure,false⟩
theorem aPH:aK aX 4 c4:=Oc aIc rfl aF [(7,c7),(9,c9),(9,c9p),(14,c14),(15,c15),(12,c12)] ⟨aN1,aN2,aMm,aMK,aNd,aNj,trivial⟩ fun a=>by kernel_rfl
end
end Go.Proofs.YtmlghnibpjlchaaGreat
