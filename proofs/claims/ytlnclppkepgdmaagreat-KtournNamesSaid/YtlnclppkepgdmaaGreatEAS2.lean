/- Plain functions for what the functions of the seat compute. Printed by a program. -/
import Derived.Test.YtlnclppkepgdmaaGreatEVm3
import Derived.Test.YtlnclppkepgdmaaGreatEAXT
import Derived.Test.YtlnclppkepgdmaaGreatEAS1
set_option maxRecDepth 100000
namespace Go.Proofs.YtlnclppkepgdmaaGreat
open Go.Vm
noncomputable section
def iZ (N:Nat) (c0:((List Int)×(List Bool)×(List Int)×Int×Int×Int×Int×Int×Int×(List (Int×Int×Int×Int×Int))×(List Int))) (s:(Int×Int×(List (Int×Int×Int×Int×Int))×(List Int)×(List Int)×(List Bool)×(List Int)×Int×Int×Int×Int×Int)):Option (aY (Int×Int×(List (Int×Int×Int×Int×Int))×(List Int)×(List Int)×(List Bool)×(List Int)×Int×Int×Int×Int×Int) (aY (Int×(List (Int×Int×Int×Int×Int))×(List Int)×(List Int)×(List Bool)×(List Int)×Int×Int×Int×Int×Int) ((List (Int×Int×Int×Int×Int))×(List Int)))):=
 bif decide (s.2.1<(Int.ofNat s.2.2.1.length)) then
  bif decide ((aA .i64 (s.2.1+1))<(Int.ofNat s.2.2.1.length)) then
   (aK s.2.2.1 (aA .i64 (s.2.1+1))).bind fun a0=>
   (aK s.2.2.1 s.2.1).bind fun a1=>
   ((bQ N) a0 a1).bind fun n2=>
   bif decide (n2<0) then
    (aK s.2.2.1 (aA .i64 (s.2.1+1))).bind fun a3=>
    ((bQ N) a3 s.2.2.2.2.2.2.2).bind fun n4=>
    bif decide (0<=n4) then
     ((bZ N) (s.2.2.2.2.1,s.2.2.2.2.2.1,s.2.2.2.2.2.2.1,s.1,s.2.2.2.2.2.2.2.1,s.2.2.2.2.2.2.2.2.1,s.2.2.2.2.2.2.2.2.2.1,s.2.2.2.2.2.2.2.2.2.2.1,s.2.2.2.2.2.2.2.2.2.2.2,s.2.2.1,s.2.2.2.1)).bind fun a5=>
     bif a5.1.length==c0.2.2.2.2.2.2.2.2.2.1.length then
      bif a5.2.length==c0.2.2.2.2.2.2.2.2.2.2.length then
       some (.done (.done a5))
      else
       none
     else
      none
    else
     (aK s.2.2.1 (aA .i64 (s.2.1+1))).bind fun a6=>
     ((bZ N) (s.2.2.2.2.1,s.2.2.2.2.2.1,s.2.2.2.2.2.2.1,s.1,a6.1,a6.2.1,a6.2.2.1,a6.2.2.2.1,a6.2.2.2.2,s.2.2.1,s.2.2.2.1)).bind fun a7=>
     some (.next (aA .i64 (s.2.1+1),aA .i64 ((aA .i64 (2*(aA .i64 (s.2.1+1))))+1),a7.1,a7.2,s.2.2.2.2))
   else
    (aK s.2.2.1 s.2.1).bind fun a8=>
    ((bQ N) a8 s.2.2.2.2.2.2.2).bind fun n9=>
    bif decide (0<=n9) then
     ((bZ N) (s.2.2.2.2.1,s.2.2.2.2.2.1,s.2.2.2.2.2.2.1,s.1,s.2.2.2.2.2.2.2.1,s.2.2.2.2.2.2.2.2.1,s.2.2.2.2.2.2.2.2.2.1,s.2.2.2.2.2.2.2.2.2.2.1,s.2.2.2.2.2.2.2.2.2.2.2,s.2.2.1,s.2.2.2.1)).bind fun a10=>
     bif a10.1.length==c0.2.2.2.2.2.2.2.2.2.1.length then
      bif a10.2.length==c0.2.2.2.2.2.2.2.2.2.2.length then
       some (.done (.done a10))
      else
       none
     else
      none
    else
     (aK s.2.2.1 s.2.1).bind fun a11=>
     ((bZ N) (s.2.2.2.2.1,s.2.2.2.2.2.1,s.2.2.2.2.2.2.1,s.1,a11.1,a11.2.1,a11.2.2.1,a11.2.2.2.1,a11.2.2.2.2,s.2.2.1,s.2.2.2.1)).bind fun a12=>
     some (.next (s.2.1,aA .i64 ((aA .i64 (2*s.2.1))+1),a12.1,a12.2,s.2.2.2.2))
  else
   (aK s.2.2.1 s.2.1).bind fun a13=>
   ((bQ N) a13 s.2.2.2.2.2.2.2).bind fun n14=>
   bif decide (0<=n14) then
    ((bZ N) (s.2.2.2.2.1,s.2.2.2.2.2.1,s.2.2.2.2.2.2.1,s.1,s.2.2.2.2.2.2.2.1,s.2.2.2.2.2.2.2.2.1,s.2.2.2.2.2.2.2.2.2.1,s.2.2.2.2.2.2.2.2.2.2.1,s.2.2.2.2.2.2.2.2.2.2.2,s.2.2.1,s.2.2.2.1)).bind fun a15=>
    bif a15.1.length==c0.2.2.2.2.2.2.2.2.2.1.length then
     bif a15.2.length==c0.2.2.2.2.2.2.2.2.2.2.length then
      some (.done (.done a15))
     else
      none
    else
     none
   else
    (aK s.2.2.1 s.2.1).bind fun a16=>
    ((bZ N) (s.2.2.2.2.1,s.2.2.2.2.2.1,s.2.2.2.2.2.2.1,s.1,a16.1,a16.2.1,a16.2.2.1,a16.2.2.2.1,a16.2.2.2.2,s.2.2.1,s.2.2.2.1)).bind fun a17=>
    some (.next (s.2.1,aA .i64 ((aA .i64 (2*s.2.1))+1),a17.1,a17.2,s.2.2.2.2))
 else
  ((bZ N) (s.2.2.2.2.1,s.2.2.2.2.2.1,s.2.2.2.2.2.2.1,s.1,s.2.2.2.2.2.2.2.1,s.2.2.2.2.2.2.2.2.1,s.2.2.2.2.2.2.2.2.2.1,s.2.2.2.2.2.2.2.2.2.2.1,s.2.2.2.2.2.2.2.2.2.2.2,s.2.2.1,s.2.2.2.1)).bind fun a18=>
  bif a18.1.length==c0.2.2.2.2.2.2.2.2.2.1.length then
   bif a18.2.length==c0.2.2.2.2.2.2.2.2.2.2.length then
    some (.done (.done a18))
   else
    none
  else
   none
def pR (N:Nat) (c0:((List Int)×(List Bool)×(List Int)×Int×Int×Int×Int×Int×Int×(List (Int×Int×Int×Int×Int))×(List Int))) (s:(Int×(List (Int×Int×Int×Int×Int))×(List Int)×(List Int)×(List Bool)×(List Int)×Int×Int×Int×Int×Int)):Option (aY (Int×(List (Int×Int×Int×Int×Int))×(List Int)×(List Int)×(List Bool)×(List Int)×Int×Int×Int×Int×Int) ((List (Int×Int×Int×Int×Int))×(List Int))):=
 bif decide (0<s.1) then
  (aK s.2.1 (aA .i64 (Int.tdiv (aA .i64 (s.1-1)) 2))).bind fun a0=>
  ((bQ N) s.2.2.2.2.2.2 a0).bind fun n1=>
  bif decide (n1<0) then
   (aK s.2.1 (aA .i64 (Int.tdiv (aA .i64 (s.1-1)) 2))).bind fun a2=>
   ((bZ N) (s.2.2.2.1,s.2.2.2.2.1,s.2.2.2.2.2.1,s.1,a2.1,a2.2.1,a2.2.2.1,a2.2.2.2.1,a2.2.2.2.2,s.2.1,s.2.2.1)).bind fun a3=>
   some (.next (aA .i64 (Int.tdiv (aA .i64 (s.1-1)) 2),a3.1,a3.2,s.2.2.2))
  else
   (aR N) ((iZ N) c0) (s.1,aA .i64 ((aA .i64 (2*s.1))+1),s.2)
 else
  (aR N) ((iZ N) c0) (s.1,aA .i64 ((aA .i64 (2*s.1))+1),s.2)
def gW (N:Nat) (a:((List Int)×(List Bool)×(List Int)×Int×Int×Int×Int×Int×Int×(List (Int×Int×Int×Int×Int))×(List Int))):Option ((List (Int×Int×Int×Int×Int))×(List Int)):=
 (aR N) ((pR N) a) (a.2.2.2.1,a.2.2.2.2.2.2.2.2.2.1,a.2.2.2.2.2.2.2.2.2.2,a.1,a.2.1,a.2.2.1,a.2.2.2.2.1,a.2.2.2.2.2.1,a.2.2.2.2.2.2.1,a.2.2.2.2.2.2.2.1,a.2.2.2.2.2.2.2.2.1)
def LH (N:Nat):bV:=⟨[.l [.i .i64],.l [.b],.l [.i .i64],.i,.i,.i,.i,.i,.i,.l [.i .i64,.i .i64,.i .i64,.i .i64,.i .i64],.l [.i .i64]],[.agg [.sl [.i .i64] [],.sl [.b] [],.sl [.i .i64] [],.own 0 false,.own 1 false],.int .i64 0,.agg [.int .i64 0,.int .i64 0,.int .i64 0,.int .i64 0,.int .i64 0]],[.arr [.i .i64,.i .i64,.i .i64,.i .i64,.i .i64] [],.arr [.i .i64] []],[.l [.i .i64,.i .i64,.i .i64,.i .i64,.i .i64],.l [.i .i64]],.tup [],[.arr [.i .i64,.i .i64,.i .i64,.i .i64,.i .i64] [],.arr [.i .i64] []],fun a=>(gW N) a⟩
theorem FC (N:Nat):fW tab 287 (LH N):=fW.of MU (wd:=false) (cx:=(aN (aG N) [(196,(aA9 N))] [(306,(LG N)),(306,(R7 N))] [] [])) (aL.make ⟨(GT N),trivial⟩ ⟨(FB N),(OZ N),trivial⟩ trivial) (fun a=>by kernel_rfl)
def xF (N:Nat) (p0:aH) (p1:Int×Int) (p2:Int×Int):Option (aH×Int):=
 ((gT N) p0).bind fun n0=>
 ((cZ N) p2).bind fun n1=>
 bif (if n1>n0 then n1 else n0) !=0 then
  some (aH.mk (aM.mk [] [] []) [] [],if n1>n0 then n1 else n0)
 else
  ((pN N) p0 p1).bind fun a2=>
  bif a2.2 !=0 then
   some (aH.mk (aM.mk [] [] []) [] [],a2.2)
  else
   (bB p0.heap).bind fun l3=>
   (bB p0.where_).bind fun l4=>
   (aK l3 a2.1).bind fun a5=>
   ((gW N) (p0.slots.uses,p0.slots.used,p0.slots.free,a2.1,p2.1,p2.2,a5.2.2.1,a5.2.2.2.1,a5.2.2.2.2,l3,l4)).bind fun a6=>
   some (aH.mk p0.slots a6.1 a6.2,0)
def aIQ (N:Nat):aU:=⟨aC.cons (aE.agg bT) (aC.cons (aE.agg (bF.row eC)) (aC.one (aE.agg (bF.row eC)))),aE.tup (aC.cons (aE.agg bT) (aC.one (aE.int .i64))),fun a=>(xF N) a.1 a.2.1 a.2.2,.frz,false⟩
theorem aBJ (N:Nat):aB tab 289 (aIQ N):=aB.of aAl (cx:=(aN (aG N) [(129,(OV N)),(49,(RX N)),(238,(aHh N)),(183,aU.clone fH),(67,aU.clone ki)] [(287,(G0 N)),(287,(LH N))] [(286,OO)] [])) rfl (aL.make ⟨(xA N),(mZ N),(NF N),lN,iV,trivial⟩ ⟨(yX N),(FC N),trivial⟩ ⟨GJ,trivial⟩) (fun a=>by kernel_rfl)
def uA (_:Nat) (p0:Int×Int×Int×Int×Int) (p1:Int):Option Bool:=
 some (p0.2.2.1==p1)
def aIR (N:Nat):aU:=⟨aC.cons (aE.agg (bF.row fH)) (aC.one (aE.ref (bF.int .i64))),aE.bool,fun a=>(uA N) a.1 a.2,.pure,false⟩
theorem aBK (N:Nat):aB tab 309 (aIR N):=aB.of MX (cx:=(aN (aG N) [] [] [] [])) rfl (aL.make trivial trivial trivial) (fun a=>by kernel_rfl)
def gA (N:Nat) (s:((List (Int×Int×Int×Int×Int))×Int×Int×Int)):Option (aY ((List (Int×Int×Int×Int×Int))×Int×Int×Int) Int):=
 bif decide (s.2.2.2<s.2.2.1) then
  (aK s.1 s.2.2.2).bind fun a0=>
  ((uA N) a0 s.2.1).bind fun b1=>
  bif b1 then
   some (.done s.2.2.2)
  else
   some (.next (s.1,s.2.1,s.2.2.1,aA .i64 (s.2.2.2+1)))
 else
  some (.done (-1))
def dP (N:Nat) (p0:List (Int×Int×Int×Int×Int)) (p1:Int):Option Int:=
 (aR N) (gA N) (p0,p1,Int.ofNat p0.length,0)
def JL (N:Nat):aU:=⟨aC.cons (aE.sl fH) (aC.one (aE.clo 309 (aC.one (aE.ref (bF.int .i64))))),aE.int .i64,fun a=>(dP N) a.1 a.2,.pure,false⟩
theorem JM (N:Nat):aB tab 316 (JL N):=aB.of aAz (cx:=(aN (aG N) [(309,(aIR N))] [] [(309,XD)] [])) rfl (aL.make ⟨(aBK N),trivial⟩ trivial ⟨MX,trivial⟩) (fun a=>by kernel_rfl)
def dC (N:Nat) (p0:List (Int×Int×Int×Int×Int)) (p1:Int):Option Bool:=
 ((dP N) p0 p1).bind fun n0=>
 some (decide (0<=n0))
def JN (N:Nat):aU:=⟨aC.cons (aE.sl fH) (aC.one (aE.clo 309 (aC.one (aE.ref (bF.int .i64))))),aE.bool,fun a=>(dC N) a.1 a.2,.pure,false⟩
theorem JO (N:Nat):aB tab 308 (JN N):=aB.of aAv (cx:=(aN (aG N) [(316,(JL N))] [] [] [])) rfl (aL.make ⟨(JM N),trivial⟩ trivial trivial) (fun a=>by kernel_rfl)
def sB (_:Nat) (p0:List Int):Option ((List Int)×Int):=
 (fZ p0 0 (aA .i64 ((Int.ofNat p0.length) -1))).bind fun l0=>
 (bB l0).bind fun l1=>
 (aK p0 (aA .i64 ((Int.ofNat p0.length) -1))).bind fun n2=>
 some (l1,n2)
def aIS (N:Nat):aU:=⟨aC.one (aE.sl ki),aE.tup (aC.cons (aE.sl ki) (aC.one (aE.int .i64))),fun a=>(sB N) a,.frz,false⟩
theorem aBL (N:Nat):aB tab 317 (aIS N):=aB.of aAA (cx:=(aN (aG N) [(315,aU.clone ki)] [] [] [])) rfl (aL.make ⟨IY,trivial⟩ trivial trivial) (fun a=>by kernel_rfl)
def FD (N:Nat) (p0:aM):Option (aM×(Int×Int)×Int):=
 ((pJ N) p0).bind fun n0=>
 bif n0 !=0 then
  some (aM.mk [] [] [],(0,0),n0)
 else
  bif (Int.ofNat p0.free.length)==0 then
   some (aM.mk [] [] [],(0,0),18)
  else
   ((sB N) p0.free).bind fun a1=>
   (aK p0.uses a1.2).bind fun n2=>
   bif n2==1000000 then
    some (aM.mk [] [] [],(0,0),18)
   else
    (bB p0.uses).bind fun l3=>
    (bB p0.used).bind fun l4=>
    (aK l4 a1.2).bind fun _=>
    (aK l3 a1.2).bind fun n6=>
    (aK l3 a1.2).bind fun _=>
    (aK (bM l3 a1.2 (aA .i64 (n6+1))) a1.2).bind fun n8=>
    some (aM.mk (bM l3 a1.2 (aA .i64 (n6+1))) (bM l4 a1.2 true) a1.1,(a1.2,n8),0)
def aIT (N:Nat):aU:=⟨aC.one (aE.agg eJ),aE.tup (aC.cons (aE.agg eJ) (aC.cons (aE.agg (bF.row eC)) (aC.one (aE.int .i64)))),fun a=>(FD N) a,.frz,false⟩
theorem aBM (N:Nat):aB tab 310 (aIT N):=aB.of aAw (cx:=(aN (aG N) [(195,(aA0 N)),(317,(aIS N)),(67,aU.clone ki),(184,aU.clone kb)] [] [(304,Q3)] [])) rfl (aL.make ⟨(GR N),(aBL N),iV,lM,trivial⟩ trivial ⟨MV,trivial⟩) (fun a=>by kernel_rfl)
def mR (N:Nat) (p0:aH) (p1:Int×Int) (p2:Int):Option (aH×(Int×Int)×Int):=
 ((gT N) p0).bind fun n0=>
 ((cZ N) p1).bind fun n1=>
 bif (if n1>n0 then n1 else n0) !=0 then
  some (aH.mk (aM.mk [] [] []) [] [],(0,0),if n1>n0 then n1 else n0)
 else
  bif decide (p2<0) then
   some (aH.mk (aM.mk [] [] []) [] [],(0,0),2)
  else
   bif decide (1000000<p2) then
    some (aH.mk (aM.mk [] [] []) [] [],(0,0),2)
   else
    ((dC N) p0.heap p2).bind fun b2=>
    bif b2 then
     some (aH.mk (aM.mk [] [] []) [] [],(0,0),14)
    else
     ((FD N) p0.slots).bind fun a3=>
     bif a3.2.2 !=0 then
      some (aH.mk (aM.mk [] [] []) [] [],(0,0),a3.2.2)
     else
      (bB p0.heap).bind fun l4=>
      (bB p0.where_).bind fun l5=>
      (bD l4 [(p1.1,p1.2,p2,a3.2.1)]).bind fun l6=>
      ((gW N) (a3.1.uses,a3.1.used,a3.1.free,aA .i64 ((Int.ofNat l6.length) -1),p1.1,p1.2,p2,a3.2.1.1,a3.2.1.2,l6,l5)).bind fun a7=>
      some (aH.mk a3.1 a7.1 a7.2,a3.2.1,0)
def aHl (N:Nat):aU:=⟨aC.cons (aE.agg bT) (aC.cons (aE.agg (bF.row eC)) (aC.one (aE.int .i64))),aE.tup (aC.cons (aE.agg bT) (aC.cons (aE.agg (bF.row eC)) (aC.one (aE.int .i64)))),fun a=>(mR N) a.1 a.2.1 a.2.2,.frz,false⟩
theorem NI (N:Nat):aB tab 290 (aHl N):=aB.of aAm (cx:=(aN (aG N) [(129,(OV N)),(49,(RX N)),(308,(JN N)),(310,(aIT N)),(183,aU.clone fH),(67,aU.clone ki)] [(287,(G0 N)),(287,(LH N))] [(286,OO)] [])) rfl (aL.make ⟨(xA N),(mZ N),(JO N),(aBM N),lN,iV,trivial⟩ ⟨(yX N),(FC N),trivial⟩ ⟨GJ,trivial⟩) (fun a=>by kernel_rfl)
def DK (N:Nat) (s:((List (Int×Int×Int))×Int×Int×Int×Int×(List (Int×Int×Int))×Int×(List (Int×Int×Int))×(List Int)×(List Bool)×(List Int)×(List (Int×Int×Int×Int×Int))×(List Int)×(List (Int×Int×Int))×(List (Int×Int×Int))×Int×Int×Int×Int×Int×Int×(List (Int×Int×Int))×(List Int)×(List Bool)×(List Int)×(List (Int×Int×Int×Int×Int))×(List Int)×(List (Int×Int×Int))×(List (Int×Int×Int)))):Option (aY ((List (Int×Int×Int))×Int×Int×Int×Int×(List (Int×Int×Int))×Int×(List (Int×Int×Int))×(List Int)×(List Bool)×(List Int)×(List (Int×Int×Int×Int×Int))×(List Int)×(List (Int×Int×Int))×(List (Int×Int×Int))×Int×Int×Int×Int×Int×Int×(List (Int×Int×Int))×(List Int)×(List Bool)×(List Int)×(List (Int×Int×Int×Int×Int))×(List Int)×(List (Int×Int×Int))×(List (Int×Int×Int))) (aY ((List (Int×Int×Int))×Int×Int×Int×Int×(List (Int×Int×Int))×Int×(List (Int×Int×Int))×(List Int)×(List Bool)×(List Int)×(List (Int×Int×Int×Int×Int))×(List Int)×(List (Int×Int×Int))×(List (Int×Int×Int))×Int×Int×Int) (aJ×Int))):=
 bif decide (s.2.2.1<s.2.1) then
  (aK s.1 s.2.2.1).bind fun a0=>
  ((pM N) (Field.mk s.2.2.2.2.2.2.2.2.2.2.2.2.2.2.1) a0.2 (s.2.2.2.1,s.2.2.2.2.1)).bind fun a1=>
  ((sA N) s.2.2.2.2.2.2.2.2.2.2.2.2.2.1 a0.1).bind fun a2=>
  bif a1.2.1 then
   bif a2.2 then
    (aK s.2.2.2.2.2.2.2.2.2.2.2.2.2.1 a2.1).bind fun a3=>
    ((xF N) (aH.mk (aM.mk s.2.2.2.2.2.2.2.2.2.2.2.2.2.2.2.2.2.2.2.2.2.2.1 s.2.2.2.2.2.2.2.2.2.2.2.2.2.2.2.2.2.2.2.2.2.2.2.1 s.2.2.2.2.2.2.2.2.2.2.2.2.2.2.2.2.2.2.2.2.2.2.2.2.1) s.2.2.2.2.2.2.2.2.2.2.2.2.2.2.2.2.2.2.2.2.2.2.2.2.2.1 s.2.2.2.2.2.2.2.2.2.2.2.2.2.2.2.2.2.2.2.2.2.2.2.2.2.2.1) a3.2 a1.1).bind fun a4=>
    (aK s.2.2.2.2.2.2.2.2.2.2.2.2.2.1 a2.1).bind fun a5=>
    (bD s.2.2.2.2.2.2.2.2.2.2.2.2.2.2.2.2.2.2.2.2.2.2.2.2.2.2.2.2 [a5]).bind fun l6=>
    bif a4.2 !=0 then
     some (.done (.done (aJ.mk (0,0) (Field.mk []) (aQ.mk 0 []) (aH.mk (aM.mk [] [] []) [] []) [],a4.2)))
    else
     some (.next (s.1,s.2.1,aA .i64 (s.2.2.1+1),s.2.2.2.1,s.2.2.2.2.1,s.2.2.2.2.2.1,s.2.2.2.2.2.2.1,s.2.2.2.2.2.2.2.1,s.2.2.2.2.2.2.2.2.1,s.2.2.2.2.2.2.2.2.2.1,s.2.2.2.2.2.2.2.2.2.2.1,s.2.2.2.2.2.2.2.2.2.2.2.1,s.2.2.2.2.2.2.2.2.2.2.2.2.1,s.2.2.2.2.2.2.2.2.2.2.2.2.2.1,s.2.2.2.2.2.2.2.2.2.2.2.2.2.2.1,s.2.2.2.2.2.2.2.2.2.2.2.2.2.2.2.1,s.2.2.2.2.2.2.2.2.2.2.2.2.2.2.2.2.1,s.2.2.2.2.2.2.2.2.2.2.2.2.2.2.2.2.2.1,s.2.2.2.2.2.2.2.2.2.2.2.2.2.2.2.2.2.2.1,s.2.2.2.2.2.2.2.2.2.2.2.2.2.2.2.2.2.2.2.1,s.2.2.2.2.2.2.2.2.2.2.2.2.2.2.2.2.2.2.2.2.1,s.2.2.2.2.2.2.2.2.2.2.2.2.2.2.2.2.2.2.2.2.2.1,a4.1.slots.uses,a4.1.slots.used,a4.1.slots.free,a4.1.heap,a4.1.where_,s.2.2.2.2.2.2.2.2.2.2.2.2.2.2.2.2.2.2.2.2.2.2.2.2.2.2.2.1,l6))
   else
    bif a1.2.1 then
     ((mR N) (aH.mk (aM.mk s.2.2.2.2.2.2.2.2.2.2.2.2.2.2.2.2.2.2.2.2.2.2.1 s.2.2.2.2.2.2.2.2.2.2.2.2.2.2.2.2.2.2.2.2.2.2.2.1 s.2.2.2.2.2.2.2.2.2.2.2.2.2.2.2.2.2.2.2.2.2.2.2.2.1) s.2.2.2.2.2.2.2.2.2.2.2.2.2.2.2.2.2.2.2.2.2.2.2.2.2.1 s.2.2.2.2.2.2.2.2.2.2.2.2.2.2.2.2.2.2.2.2.2.2.2.2.2.2.1) a1.1 a0.1).bind fun a7=>
     (bD s.2.2.2.2.2.2.2.2.2.2.2.2.2.2.2.2.2.2.2.2.2.2.2.2.2.2.2.2 [(a0.1,a7.2.1)]).bind fun l8=>
     bif a7.2.2 !=0 then
      some (.done (.done (aJ.mk (0,0) (Field.mk []) (aQ.mk 0 []) (aH.mk (aM.mk [] [] []) [] []) [],a7.2.2)))
     else
      some (.next (s.1,s.2.1,aA .i64 (s.2.2.1+1),s.2.2.2.1,s.2.2.2.2.1,s.2.2.2.2.2.1,s.2.2.2.2.2.2.1,s.2.2.2.2.2.2.2.1,s.2.2.2.2.2.2.2.2.1,s.2.2.2.2.2.2.2.2.2.1,s.2.2.2.2.2.2.2.2.2.2.1,s.2.2.2.2.2.2.2.2.2.2.2.1,s.2.2.2.2.2.2.2.2.2.2.2.2.1,s.2.2.2.2.2.2.2.2.2.2.2.2.2.1,s.2.2.2.2.2.2.2.2.2.2.2.2.2.2.1,s.2.2.2.2.2.2.2.2.2.2.2.2.2.2.2.1,s.2.2.2.2.2.2.2.2.2.2.2.2.2.2.2.2.1,s.2.2.2.2.2.2.2.2.2.2.2.2.2.2.2.2.2.1,s.2.2.2.2.2.2.2.2.2.2.2.2.2.2.2.2.2.2.1,s.2.2.2.2.2.2.2.2.2.2.2.2.2.2.2.2.2.2.2.1,s.2.2.2.2.2.2.2.2.2.2.2.2.2.2.2.2.2.2.2.2.1,s.2.2.2.2.2.2.2.2.2.2.2.2.2.2.2.2.2.2.2.2.2.1,a7.1.slots.uses,a7.1.slots.used,a7.1.slots.free,a7.1.heap,a7.1.where_,s.2.2.2.2.2.2.2.2.2.2.2.2.2.2.2.2.2.2.2.2.2.2.2.2.2.2.2.1,l8))
    else
     bif a2.2 then
      (aK s.2.2.2.2.2.2.2.2.2.2.2.2.2.1 a2.1).bind fun a9=>
      ((jT N) (aH.mk (aM.mk s.2.2.2.2.2.2.2.2.2.2.2.2.2.2.2.2.2.2.2.2.2.2.1 s.2.2.2.2.2.2.2.2.2.2.2.2.2.2.2.2.2.2.2.2.2.2.2.1 s.2.2.2.2.2.2.2.2.2.2.2.2.2.2.2.2.2.2.2.2.2.2.2.2.1) s.2.2.2.2.2.2.2.2.2.2.2.2.2.2.2.2.2.2.2.2.2.2.2.2.2.1 s.2.2.2.2.2.2.2.2.2.2.2.2.2.2.2.2.2.2.2.2.2.2.2.2.2.2.1) a9.2).bind fun a10=>
      bif a10.2.2 !=0 then
       some (.done (.done (aJ.mk (0,0) (Field.mk []) (aQ.mk 0 []) (aH.mk (aM.mk [] [] []) [] []) [],a10.2.2)))
      else
       some (.next (s.1,s.2.1,aA .i64 (s.2.2.1+1),s.2.2.2.1,s.2.2.2.2.1,s.2.2.2.2.2.1,s.2.2.2.2.2.2.1,s.2.2.2.2.2.2.2.1,s.2.2.2.2.2.2.2.2.1,s.2.2.2.2.2.2.2.2.2.1,s.2.2.2.2.2.2.2.2.2.2.1,s.2.2.2.2.2.2.2.2.2.2.2.1,s.2.2.2.2.2.2.2.2.2.2.2.2.1,s.2.2.2.2.2.2.2.2.2.2.2.2.2.1,s.2.2.2.2.2.2.2.2.2.2.2.2.2.2.1,s.2.2.2.2.2.2.2.2.2.2.2.2.2.2.2.1,s.2.2.2.2.2.2.2.2.2.2.2.2.2.2.2.2.1,s.2.2.2.2.2.2.2.2.2.2.2.2.2.2.2.2.2.1,s.2.2.2.2.2.2.2.2.2.2.2.2.2.2.2.2.2.2.1,s.2.2.2.2.2.2.2.2.2.2.2.2.2.2.2.2.2.2.2.1,s.2.2.2.2.2.2.2.2.2.2.2.2.2.2.2.2.2.2.2.2.1,s.2.2.2.2.2.2.2.2.2.2.2.2.2.2.2.2.2.2.2.2.2.1,a10.1.slots.uses,a10.1.slots.used,a10.1.slots.free,a10.1.heap,a10.1.where_,s.2.2.2.2.2.2.2.2.2.2.2.2.2.2.2.2.2.2.2.2.2.2.2.2.2.2.2))
     else
      bif a1.2.2 !=0 then
       some (.done (.done (aJ.mk (0,0) (Field.mk []) (aQ.mk 0 []) (aH.mk (aM.mk [] [] []) [] []) [],a1.2.2)))
      else
       some (.next (s.1,s.2.1,aA .i64 (s.2.2.1+1),s.2.2.2))
  else
   bif a1.2.1 then
    ((mR N) (aH.mk (aM.mk s.2.2.2.2.2.2.2.2.2.2.2.2.2.2.2.2.2.2.2.2.2.2.1 s.2.2.2.2.2.2.2.2.2.2.2.2.2.2.2.2.2.2.2.2.2.2.2.1 s.2.2.2.2.2.2.2.2.2.2.2.2.2.2.2.2.2.2.2.2.2.2.2.2.1) s.2.2.2.2.2.2.2.2.2.2.2.2.2.2.2.2.2.2.2.2.2.2.2.2.2.1 s.2.2.2.2.2.2.2.2.2.2.2.2.2.2.2.2.2.2.2.2.2.2.2.2.2.2.1) a1.1 a0.1).bind fun a11=>
    (bD s.2.2.2.2.2.2.2.2.2.2.2.2.2.2.2.2.2.2.2.2.2.2.2.2.2.2.2.2 [(a0.1,a11.2.1)]).bind fun l12=>
    bif a11.2.2 !=0 then
     some (.done (.done (aJ.mk (0,0) (Field.mk []) (aQ.mk 0 []) (aH.mk (aM.mk [] [] []) [] []) [],a11.2.2)))
    else
     some (.next (s.1,s.2.1,aA .i64 (s.2.2.1+1),s.2.2.2.1,s.2.2.2.2.1,s.2.2.2.2.2.1,s.2.2.2.2.2.2.1,s.2.2.2.2.2.2.2.1,s.2.2.2.2.2.2.2.2.1,s.2.2.2.2.2.2.2.2.2.1,s.2.2.2.2.2.2.2.2.2.2.1,s.2.2.2.2.2.2.2.2.2.2.2.1,s.2.2.2.2.2.2.2.2.2.2.2.2.1,s.2.2.2.2.2.2.2.2.2.2.2.2.2.1,s.2.2.2.2.2.2.2.2.2.2.2.2.2.2.1,s.2.2.2.2.2.2.2.2.2.2.2.2.2.2.2.1,s.2.2.2.2.2.2.2.2.2.2.2.2.2.2.2.2.1,s.2.2.2.2.2.2.2.2.2.2.2.2.2.2.2.2.2.1,s.2.2.2.2.2.2.2.2.2.2.2.2.2.2.2.2.2.2.1,s.2.2.2.2.2.2.2.2.2.2.2.2.2.2.2.2.2.2.2.1,s.2.2.2.2.2.2.2.2.2.2.2.2.2.2.2.2.2.2.2.2.1,s.2.2.2.2.2.2.2.2.2.2.2.2.2.2.2.2.2.2.2.2.2.1,a11.1.slots.uses,a11.1.slots.used,a11.1.slots.free,a11.1.heap,a11.1.where_,s.2.2.2.2.2.2.2.2.2.2.2.2.2.2.2.2.2.2.2.2.2.2.2.2.2.2.2.1,l12))
   else
    bif a2.2 then
     (aK s.2.2.2.2.2.2.2.2.2.2.2.2.2.1 a2.1).bind fun a13=>
     ((jT N) (aH.mk (aM.mk s.2.2.2.2.2.2.2.2.2.2.2.2.2.2.2.2.2.2.2.2.2.2.1 s.2.2.2.2.2.2.2.2.2.2.2.2.2.2.2.2.2.2.2.2.2.2.2.1 s.2.2.2.2.2.2.2.2.2.2.2.2.2.2.2.2.2.2.2.2.2.2.2.2.1) s.2.2.2.2.2.2.2.2.2.2.2.2.2.2.2.2.2.2.2.2.2.2.2.2.2.1 s.2.2.2.2.2.2.2.2.2.2.2.2.2.2.2.2.2.2.2.2.2.2.2.2.2.2.1) a13.2).bind fun a14=>
     bif a14.2.2 !=0 then
      some (.done (.done (aJ.mk (0,0) (Field.mk []) (aQ.mk 0 []) (aH.mk (aM.mk [] [] []) [] []) [],a14.2.2)))
     else
      some (.next (s.1,s.2.1,aA .i64 (s.2.2.1+1),s.2.2.2.1,s.2.2.2.2.1,s.2.2.2.2.2.1,s.2.2.2.2.2.2.1,s.2.2.2.2.2.2.2.1,s.2.2.2.2.2.2.2.2.1,s.2.2.2.2.2.2.2.2.2.1,s.2.2.2.2.2.2.2.2.2.2.1,s.2.2.2.2.2.2.2.2.2.2.2.1,s.2.2.2.2.2.2.2.2.2.2.2.2.1,s.2.2.2.2.2.2.2.2.2.2.2.2.2.1,s.2.2.2.2.2.2.2.2.2.2.2.2.2.2.1,s.2.2.2.2.2.2.2.2.2.2.2.2.2.2.2.1,s.2.2.2.2.2.2.2.2.2.2.2.2.2.2.2.2.1,s.2.2.2.2.2.2.2.2.2.2.2.2.2.2.2.2.2.1,s.2.2.2.2.2.2.2.2.2.2.2.2.2.2.2.2.2.2.1,s.2.2.2.2.2.2.2.2.2.2.2.2.2.2.2.2.2.2.2.1,s.2.2.2.2.2.2.2.2.2.2.2.2.2.2.2.2.2.2.2.2.1,s.2.2.2.2.2.2.2.2.2.2.2.2.2.2.2.2.2.2.2.2.2.1,a14.1.slots.uses,a14.1.slots.used,a14.1.slots.free,a14.1.heap,a14.1.where_,s.2.2.2.2.2.2.2.2.2.2.2.2.2.2.2.2.2.2.2.2.2.2.2.2.2.2.2))
    else
     bif a1.2.2 !=0 then
      some (.done (.done (aJ.mk (0,0) (Field.mk []) (aQ.mk 0 []) (aH.mk (aM.mk [] [] []) [] []) [],a1.2.2)))
     else
      some (.next (s.1,s.2.1,aA .i64 (s.2.2.1+1),s.2.2.2))
 else
  some (.done (.done (aJ.mk (s.2.2.2.2.2.2.2.2.2.2.2.2.2.2.2.2.2.2.1,s.2.2.2.2.2.2.2.2.2.2.2.2.2.2.2.2.2.2.2.1) (Field.mk s.2.2.2.2.2.2.2.2.2.2.2.2.2.2.2.2.2.2.2.2.2.2.2.2.2.2.2.1) (aQ.mk s.2.2.2.2.2.2.2.2.2.2.2.2.2.2.2.2.2.2.2.2.1 s.2.2.2.2.2.2.2.2.2.2.2.2.2.2.2.2.2.2.2.2.2.1) (aH.mk (aM.mk s.2.2.2.2.2.2.2.2.2.2.2.2.2.2.2.2.2.2.2.2.2.2.1 s.2.2.2.2.2.2.2.2.2.2.2.2.2.2.2.2.2.2.2.2.2.2.2.1 s.2.2.2.2.2.2.2.2.2.2.2.2.2.2.2.2.2.2.2.2.2.2.2.2.1) s.2.2.2.2.2.2.2.2.2.2.2.2.2.2.2.2.2.2.2.2.2.2.2.2.2.1 s.2.2.2.2.2.2.2.2.2.2.2.2.2.2.2.2.2.2.2.2.2.2.2.2.2.2.1) s.2.2.2.2.2.2.2.2.2.2.2.2.2.2.2.2.2.2.2.2.2.2.2.2.2.2.2.2,0)))
def DL (N:Nat) (s:((List (Int×Int×Int))×Int×Int×Int×Int×(List (Int×Int×Int))×Int×(List (Int×Int×Int))×(List Int)×(List Bool)×(List Int)×(List (Int×Int×Int×Int×Int))×(List Int)×(List (Int×Int×Int))×(List (Int×Int×Int))×Int×Int×Int)):Option (aY ((List (Int×Int×Int))×Int×Int×Int×Int×(List (Int×Int×Int))×Int×(List (Int×Int×Int))×(List Int)×(List Bool)×(List Int)×(List (Int×Int×Int×Int×Int))×(List Int)×(List (Int×Int×Int))×(List (Int×Int×Int))×Int×Int×Int) (aJ×Int)):=
 bif decide (s.2.2.1<s.2.1) then
  (aK s.1 s.2.2.1).bind fun a0=>
  ((gP N) (Field.mk s.2.2.2.2.2.2.2.2.2.2.2.2.2.2.1) a0.2.1).bind fun a1=>
  bif decide (a1.1<0) then
   some (.done (aJ.mk (0,0) (Field.mk []) (aQ.mk 0 []) (aH.mk (aM.mk [] [] []) [] []) [],6))
  else
   ((gP N) (Field.mk s.2.2.2.2.2.2.2.2.2.2.2.2.2.2.1) a0.2.2).bind fun a2=>
   bif decide (a2.1<0) then
    some (.done (aJ.mk (0,0) (Field.mk []) (aQ.mk 0 []) (aH.mk (aM.mk [] [] []) [] []) [],6))
   else
    some (.next (s.1,s.2.1,aA .i64 (s.2.2.1+1),s.2.2.2))
 else
  ((iD N) (aJ.mk (s.2.2.2.1,s.2.2.2.2.1) (Field.mk s.2.2.2.2.2.1) (aQ.mk s.2.2.2.2.2.2.1 s.2.2.2.2.2.2.2.1) (aH.mk (aM.mk s.2.2.2.2.2.2.2.2.1 s.2.2.2.2.2.2.2.2.2.1 s.2.2.2.2.2.2.2.2.2.2.1) s.2.2.2.2.2.2.2.2.2.2.2.1 s.2.2.2.2.2.2.2.2.2.2.2.2.1) s.2.2.2.2.2.2.2.2.2.2.2.2.2.1)).bind fun r3=>
  (bB s.2.2.2.2.2.2.2.2.2.2.2.2.2.2.1).bind fun l4=>
  (aR N) (DK N) (s.2.2.2.2.2.2.2.1,Int.ofNat s.2.2.2.2.2.2.2.1.length,0,s.2.2.2.1,s.2.2.2.2.1,s.2.2.2.2.2.1,s.2.2.2.2.2.2.1,s.2.2.2.2.2.2.2.1,s.2.2.2.2.2.2.2.2.1,s.2.2.2.2.2.2.2.2.2.1,s.2.2.2.2.2.2.2.2.2.2.1,s.2.2.2.2.2.2.2.2.2.2.2.1,s.2.2.2.2.2.2.2.2.2.2.2.2.1,s.2.2.2.2.2.2.2.2.2.2.2.2.2.1,s.2.2.2.2.2.2.2.2.2.2.2.2.2.2.1,s.2.2.2.2.2.2.2.2.2.2.2.2.2.2.2.1,s.2.2.2.2.2.2.2.2.2.2.2.2.2.2.2.2.1,s.2.2.2.2.2.2.2.2.2.2.2.2.2.2.2.2.2,r3.now.1,r3.now.2,r3.certs.next_,r3.certs.list,r3.agenda.slots.uses,r3.agenda.slots.used,r3.agenda.slots.free,r3.agenda.heap,r3.agenda.where_,l4,[])
def AB (N:Nat) (p0:aJ) (p1:Field):Option (aJ×Int):=
 ((gQ N) p0).bind fun n0=>
 bif n0 !=0 then
  some (aJ.mk (0,0) (Field.mk []) (aQ.mk 0 []) (aH.mk (aM.mk [] [] []) [] []) [],n0)
 else
  ((gO N) p1).bind fun n1=>
  bif n1 !=0 then
   some (aJ.mk (0,0) (Field.mk []) (aQ.mk 0 []) (aH.mk (aM.mk [] [] []) [] []) [],n1)
  else
   (aR N) (DL N) (p0.certs.list,Int.ofNat p0.certs.list.length,0,p0.now.1,p0.now.2,p0.field.points,p0.certs.next_,p0.certs.list,p0.agenda.slots.uses,p0.agenda.slots.used,p0.agenda.slots.free,p0.agenda.heap,p0.agenda.where_,p0.due,p1.points,0,0,0)
def aIU (N:Nat):aU:=⟨aC.cons (aE.agg aZ) (aC.one (aE.agg bG)),aE.tup (aC.cons (aE.agg aZ) (aC.one (aE.int .i64))),fun a=>(AB N) a.1 a.2,.frz,false⟩
theorem aBN (N:Nat):aB tab 243 (aIU N):=aB.of Z1 (cx:=(aN (aG N) [(65,(c65 N)),(122,(LE N)),(198,(aBb N)),(114,(R4 N)),(114,(JG N)),(124,aU.clone cB),(130,(aBi N)),(175,(aHf N)),(289,(aIQ N)),(290,(aHl N)),(176,(aHi N))] [] [] [])) rfl (aL.make ⟨(yS N),(sP N),(GU N),(A0 N),(xD N),nY,(GW N),(ND N),(aBJ N),(NI N),(NG N),trivial⟩ trivial trivial) (fun a=>by kernel_rfl)
def uB (_:Nat) (p0:Int×Int×Int) (p1:Int×Int):Option Bool:=
 some ((p0.2.1==p1.1)&&(p0.2.2==p1.2))
def aIV (N:Nat):aU:=⟨aC.cons (aE.agg (bF.row cB)) (aC.one (aE.ref (bF.row eC))),aE.bool,fun a=>(uB N) a.1 a.2,.pure,false⟩
theorem aBO (N:Nat):aB tab 244 (aIV N):=aB.of MT (cx:=(aN (aG N) [] [] [] [])) rfl (aL.make trivial trivial trivial) (fun a=>by kernel_rfl)
def gG (N:Nat) (s:((List (Int×Int×Int))×Int×Int×Int×Int)):Option (aY ((List (Int×Int×Int))×Int×Int×Int×Int) Int):=
 bif decide (s.2.2.2.2<s.2.2.2.1) then
  (aK s.1 s.2.2.2.2).bind fun a0=>
  ((uB N) a0 (s.2.1,s.2.2.1)).bind fun b1=>
  bif b1 then
   some (.done s.2.2.2.2)
  else
   some (.next (s.1,s.2.1,s.2.2.1,s.2.2.2.1,aA .i64 (s.2.2.2.2+1)))
 else
  some (.done (-1))
def dW (N:Nat) (p0:List (Int×Int×Int)) (p1:(Int×Int)):Option Int:=
 (aR N) (gG N) (p0,p1.1,p1.2,Int.ofNat p0.length,0)
def JP (N:Nat):aU:=⟨aC.cons (aE.sl cB) (aC.one (aE.clo 244 (aC.one (aE.ref (bF.row eC))))),aE.int .i64,fun a=>(dW N) a.1 a.2,.pure,false⟩
theorem JQ (N:Nat):aB tab 214 (JP N):=aB.of GH (cx:=(aN (aG N) [(244,(aIV N))] [] [(244,V8)] [])) rfl (aL.make ⟨(aBO N),trivial⟩ trivial ⟨MT,trivial⟩) (fun a=>by kernel_rfl)
def dF (N:Nat) (p0:List (Int×Int×Int)) (p1:(Int×Int)):Option Bool:=
 ((dW N) p0 p1).bind fun n0=>
 some (decide (0<=n0))
def JR (N:Nat):aU:=⟨aC.cons (aE.sl cB) (aC.one (aE.clo 244 (aC.one (aE.ref (bF.row eC))))),aE.bool,fun a=>(dF N) a.1 a.2,.pure,false⟩
theorem JS (N:Nat):aB tab 139 (JR N):=aB.of GD (cx:=(aN (aG N) [(214,(JP N))] [] [] [])) rfl (aL.make ⟨(JQ N),trivial⟩ trivial trivial) (fun a=>by kernel_rfl)
def dB (_:Nat) (p0:Int):Option (aJ×Int×Int):=
 some (aJ.mk (0,0) (Field.mk []) (aQ.mk 0 []) (aH.mk (aM.mk [] [] []) [] []) [],0,p0)
def aIW (N:Nat):aU:=⟨aC.one (aE.int .i64),aE.tup (aC.cons (aE.agg aZ) (aC.cons (aE.int .i64) (aC.one (aE.int .i64)))),fun a=>(dB N) a,.frz,false⟩
theorem aBP (N:Nat):aB tab 291 (aIW N):=aB.of aAn (cx:=(aN (aG N) [] [] [] [])) rfl (aL.make trivial trivial trivial) (fun a=>by kernel_rfl)
def DM (_:Nat) (p0:Int×Int×Int) (p1:Int×Int):Option Bool:=
 some ((p0.2.1==p1.1)&&(p0.2.2==p1.2))
def aIX (N:Nat):aU:=⟨aC.cons (aE.agg (bF.row cB)) (aC.one (aE.ref (bF.row eC))),aE.bool,fun a=>(DM N) a.1 a.2,.pure,false⟩
theorem aBQ (N:Nat):aB tab 311 (aIX N):=aB.of MY (cx:=(aN (aG N) [] [] [] [])) rfl (aL.make trivial trivial trivial) (fun a=>by kernel_rfl)
def gX (N:Nat) (s:((List (Int×Int×Int))×Int×Int×Int×Int)):Option (aY ((List (Int×Int×Int))×Int×Int×Int×Int) Int):=
 bif decide (s.2.2.2.2<s.2.2.2.1) then
  (aK s.1 s.2.2.2.2).bind fun a0=>
  ((DM N) a0 (s.2.1,s.2.2.1)).bind fun b1=>
  bif b1 then
   some (.done s.2.2.2.2)
  else
   some (.next (s.1,s.2.1,s.2.2.1,s.2.2.2.1,aA .i64 (s.2.2.2.2+1)))
 else
  some (.done (-1))
def eL (N:Nat) (p0:List (Int×Int×Int)) (p1:(Int×Int)):Option Int:=
 (aR N) (gX N) (p0,p1.1,p1.2,Int.ofNat p0.length,0)
def JT (N:Nat):aU:=⟨aC.cons (aE.sl cB) (aC.one (aE.clo 311 (aC.one (aE.ref (bF.row eC))))),aE.int .i64,fun a=>(eL N) a.1 a.2,.pure,false⟩
theorem JU (N:Nat):aB tab 214 (JT N):=aB.of GH (cx:=(aN (aG N) [(311,(aIX N))] [] [(311,XG)] [])) rfl (aL.make ⟨(aBQ N),trivial⟩ trivial ⟨MY,trivial⟩) (fun a=>by kernel_rfl)
def dX (N:Nat) (p0:List (Int×Int×Int)) (p1:(Int×Int)):Option Bool:=
 ((eL N) p0 p1).bind fun n0=>
 some (decide (0<=n0))
def JV (N:Nat):aU:=⟨aC.cons (aE.sl cB) (aC.one (aE.clo 311 (aC.one (aE.ref (bF.row eC))))),aE.bool,fun a=>(dX N) a.1 a.2,.pure,false⟩
theorem JW (N:Nat):aB tab 139 (JV N):=aB.of GD (cx:=(aN (aG N) [(214,(JT N))] [] [] [])) rfl (aL.make ⟨(JU N),trivial⟩ trivial trivial) (fun a=>by kernel_rfl)
def JX (N:Nat) (p0:aQ) (p1:Int×Int):Option (aQ×Int×Int):=
 ((pI N) p0).bind fun n0=>
 bif n0 !=0 then
  some (aQ.mk 0 [],0,n0)
 else
  ((vE N) p1).bind fun b1=>
  bif !b1 then
   some (aQ.mk 0 [],0,8)
  else
   ((dX N) p0.list p1).bind fun b2=>
   bif b2 then
    some (aQ.mk 0 [],0,14)
   else
    bif (Int.ofNat p0.list.length)==200 then
     some (aQ.mk 0 [],0,18)
    else
     bif p0.next_==1000000 then
      some (aQ.mk 0 [],0,18)
     else
      (bB p0.list).bind fun l3=>
      (bD l3 [(p0.next_,p1)]).bind fun l4=>
      some (aQ.mk (aA .i64 (p0.next_+1)) l4,p0.next_,0)
def aIY (N:Nat):aU:=⟨aC.cons (aE.agg eT) (aC.one (aE.agg (bF.row eC))),aE.tup (aC.cons (aE.agg eT) (aC.cons (aE.int .i64) (aC.one (aE.int .i64)))),fun a=>(JX N) a.1 a.2,.frz,false⟩
theorem aBR (N:Nat):aB tab 292 (aIY N):=aB.of aAo (cx:=(aN (aG N) [(128,(aAX N)),(194,(aG2 N)),(139,(JV N)),(181,aU.clone cB)] [] [] [])) rfl (aL.make ⟨(GQ N),(M7 N),(JW N),nX,trivial⟩ trivial trivial) (fun a=>by kernel_rfl)
def uC (N:Nat) (p0:aJ) (p1:Int×Int):Option (aJ×Int×Int):=
 ((gQ N) p0).bind fun n0=>
 bif n0 !=0 then
  ((dB N) n0).bind fun a1=>
  some a1
 else
  ((JX N) p0.certs p1).bind fun a2=>
  bif a2.2.2==8 then
   ((dB N) a2.2.2).bind fun a3=>
   some a3
  else
   ((gP N) p0.field p1.1).bind fun a4=>
   bif decide (a4.1<0) then
    ((dB N) 6).bind fun a5=>
    some a5
   else
    ((gP N) p0.field p1.2).bind fun a6=>
    bif decide (a6.1<0) then
     ((dB N) 6).bind fun a7=>
     some a7
    else
     bif a2.2.2 !=0 then
      ((dB N) a2.2.2).bind fun a8=>
      some a8
     else
      ((iD N) p0).bind fun r9=>
      ((pM N) p0.field p1 p0.now).bind fun a10=>
      bif a10.2.2 !=0 then
       ((dB N) a10.2.2).bind fun a11=>
       some a11
      else
       bif a10.2.1 then
        ((mR N) p0.agenda a10.1 a2.2.1).bind fun a12=>
        bif a12.2.2 !=0 then
         ((dB N) a12.2.2).bind fun a13=>
         some a13
        else
         (bD r9.due [(a2.2.1,a12.2.1)]).bind fun l14=>
         some (aJ.mk r9.now r9.field a2.1 a12.1 l14,a2.2.1,0)
       else
        some (aJ.mk r9.now r9.field a2.1 r9.agenda r9.due,a2.2.1,0)
def aIZ (N:Nat):aU:=⟨aC.cons (aE.agg aZ) (aC.one (aE.agg (bF.row eC))),aE.tup (aC.cons (aE.agg aZ) (aC.cons (aE.int .i64) (aC.one (aE.int .i64)))),fun a=>(uC N) a.1 a.2,.frz,false⟩
theorem aBS (N:Nat):aB tab 245 (aIZ N):=aB.of Z2 (cx:=(aN (aG N) [(65,(c65 N)),(291,(aIW N)),(292,(aIY N)),(198,(aBb N)),(114,(R4 N)),(114,(JG N)),(130,(aBi N)),(290,(aHl N))] [] [] [])) rfl (aL.make ⟨(yS N),(aBP N),(aBR N),(GU N),(A0 N),(xD N),(GW N),(NI N),trivial⟩ trivial trivial) (fun a=>by kernel_rfl)
def sC (N:Nat) (s:((List (Int×Int))×Int×Int×Int×Int×(List (Int×Int×Int))×Int×(List (Int×Int×Int))×(List Int)×(List Bool)×(List Int)×(List (Int×Int×Int×Int×Int))×(List Int)×(List (Int×Int×Int))×Int×Int×Int)):Option (aY ((List (Int×Int))×Int×Int×Int×Int×(List (Int×Int×Int))×Int×(List (Int×Int×Int))×(List Int)×(List Bool)×(List Int)×(List (Int×Int×Int×Int×Int))×(List Int)×(List (Int×Int×Int))×Int×Int×Int) (aY ((List (Int×Int))×(List (Int×Int×Int))×Int×Int×Int×Int×(List (Int×Int×Int))×Int×(List (Int×Int×Int))×(List Int)×(List Bool)×(List Int)×(List (Int×Int×Int×Int×Int))×(List Int)×(List (Int×Int×Int))×(List (Int×Int×Int))×Int×Int×Int) (aJ×Int))):=
 bif decide (s.2.2.1<s.2.1) then
  (aK s.1 s.2.2.1).bind fun a0=>
  ((dF N) s.2.2.2.2.2.2.2.1 a0).bind fun b1=>
  bif b1 then
   some (.next (s.1,s.2.1,aA .i64 (s.2.2.1+1),s.2.2.2))
  else
   ((uC N) (aJ.mk (s.2.2.2.1,s.2.2.2.2.1) (Field.mk s.2.2.2.2.2.1) (aQ.mk s.2.2.2.2.2.2.1 s.2.2.2.2.2.2.2.1) (aH.mk (aM.mk s.2.2.2.2.2.2.2.2.1 s.2.2.2.2.2.2.2.2.2.1 s.2.2.2.2.2.2.2.2.2.2.1) s.2.2.2.2.2.2.2.2.2.2.2.1 s.2.2.2.2.2.2.2.2.2.2.2.2.1) s.2.2.2.2.2.2.2.2.2.2.2.2.2.1) a0).bind fun a2=>
   bif a2.2.2 !=0 then
    some (.done (.done (aJ.mk (0,0) (Field.mk []) (aQ.mk 0 []) (aH.mk (aM.mk [] [] []) [] []) [],a2.2.2)))
   else
    some (.next (s.1,s.2.1,aA .i64 (s.2.2.1+1),a2.1.now.1,a2.1.now.2,a2.1.field.points,a2.1.certs.next_,a2.1.certs.list,a2.1.agenda.slots.uses,a2.1.agenda.slots.used,a2.1.agenda.slots.free,a2.1.agenda.heap,a2.1.agenda.where_,a2.1.due,s.2.2.2.2.2.2.2.2.2.2.2.2.2.2))
 else
  some (.done (.done (aJ.mk (s.2.2.2.1,s.2.2.2.2.1) (Field.mk s.2.2.2.2.2.1) (aQ.mk s.2.2.2.2.2.2.1 s.2.2.2.2.2.2.2.1) (aH.mk (aM.mk s.2.2.2.2.2.2.2.2.1 s.2.2.2.2.2.2.2.2.2.1 s.2.2.2.2.2.2.2.2.2.2.1) s.2.2.2.2.2.2.2.2.2.2.2.1 s.2.2.2.2.2.2.2.2.2.2.2.2.1) s.2.2.2.2.2.2.2.2.2.2.2.2.2.1,0)))
def DN (N:Nat) (s:((List (Int×Int))×(List (Int×Int×Int))×Int×Int×Int×Int×(List (Int×Int×Int))×Int×(List (Int×Int×Int))×(List Int)×(List Bool)×(List Int)×(List (Int×Int×Int×Int×Int))×(List Int)×(List (Int×Int×Int))×(List (Int×Int×Int))×Int×Int×Int)):Option (aY ((List (Int×Int))×(List (Int×Int×Int))×Int×Int×Int×Int×(List (Int×Int×Int))×Int×(List (Int×Int×Int))×(List Int)×(List Bool)×(List Int)×(List (Int×Int×Int×Int×Int))×(List Int)×(List (Int×Int×Int))×(List (Int×Int×Int))×Int×Int×Int) (aJ×Int)):=
 bif decide (s.2.2.2.1<s.2.2.1) then
  (aK s.2.1 s.2.2.2.1).bind fun a0=>
  ((eV N) s.1 a0.2).bind fun b1=>
  bif !b1 then
   ((xE N) (aJ.mk (s.2.2.2.2.1,s.2.2.2.2.2.1) (Field.mk s.2.2.2.2.2.2.1) (aQ.mk s.2.2.2.2.2.2.2.1 s.2.2.2.2.2.2.2.2.1) (aH.mk (aM.mk s.2.2.2.2.2.2.2.2.2.1 s.2.2.2.2.2.2.2.2.2.2.1 s.2.2.2.2.2.2.2.2.2.2.2.1) s.2.2.2.2.2.2.2.2.2.2.2.2.1 s.2.2.2.2.2.2.2.2.2.2.2.2.2.1) s.2.2.2.2.2.2.2.2.2.2.2.2.2.2.1) a0.1).bind fun a2=>
   some (.next (s.1,s.2.1,s.2.2.1,aA .i64 (s.2.2.2.1+1),a2.1.now.1,a2.1.now.2,a2.1.field.points,a2.1.certs.next_,a2.1.certs.list,a2.1.agenda.slots.uses,a2.1.agenda.slots.used,a2.1.agenda.slots.free,a2.1.agenda.heap,a2.1.agenda.where_,a2.1.due,s.2.2.2.2.2.2.2.2.2.2.2.2.2.2.2))
  else
   some (.next (s.1,s.2.1,s.2.2.1,aA .i64 (s.2.2.2.1+1),s.2.2.2.2))
 else
  ((lW N) s.2.2.2.2.2.2.1 s.2.2.2.2.2.2.2.2.2.2.2.2.2.2.2.1).bind fun b3=>
  bif !b3 then
   ((AB N) (aJ.mk (s.2.2.2.2.1,s.2.2.2.2.2.1) (Field.mk s.2.2.2.2.2.2.1) (aQ.mk s.2.2.2.2.2.2.2.1 s.2.2.2.2.2.2.2.2.1) (aH.mk (aM.mk s.2.2.2.2.2.2.2.2.2.1 s.2.2.2.2.2.2.2.2.2.2.1 s.2.2.2.2.2.2.2.2.2.2.2.1) s.2.2.2.2.2.2.2.2.2.2.2.2.1 s.2.2.2.2.2.2.2.2.2.2.2.2.2.1) s.2.2.2.2.2.2.2.2.2.2.2.2.2.2.1) (Field.mk s.2.2.2.2.2.2.2.2.2.2.2.2.2.2.2.1)).bind fun a4=>
   bif a4.2 !=0 then
    some (.done (aJ.mk (0,0) (Field.mk []) (aQ.mk 0 []) (aH.mk (aM.mk [] [] []) [] []) [],a4.2))
   else
    (aR N) (sC N) (s.1,Int.ofNat s.1.length,0,a4.1.now.1,a4.1.now.2,a4.1.field.points,a4.1.certs.next_,a4.1.certs.list,a4.1.agenda.slots.uses,a4.1.agenda.slots.used,a4.1.agenda.slots.free,a4.1.agenda.heap,a4.1.agenda.where_,a4.1.due,s.2.2.2.2.2.2.2.2.2.2.2.2.2.2.2.2)
  else
   (aR N) (sC N) (s.1,Int.ofNat s.1.length,0,s.2.2.2.2.1,s.2.2.2.2.2.1,s.2.2.2.2.2.2.1,s.2.2.2.2.2.2.2.1,s.2.2.2.2.2.2.2.2.1,s.2.2.2.2.2.2.2.2.2.1,s.2.2.2.2.2.2.2.2.2.2.1,s.2.2.2.2.2.2.2.2.2.2.2.1,s.2.2.2.2.2.2.2.2.2.2.2.2.1,s.2.2.2.2.2.2.2.2.2.2.2.2.2.1,s.2.2.2.2.2.2.2.2.2.2.2.2.2.2.1,s.2.2.2.2.2.2.2.2.2.2.2.2.2.2.2.2)
def AC (N:Nat) (p0:aJ) (p1:Field) (p2:List (Int×Int)):Option (aJ×Int):=
 (aR N) (DN N) (p2,p0.certs.list,Int.ofNat p0.certs.list.length,0,p0.now.1,p0.now.2,p0.field.points,p0.certs.next_,p0.certs.list,p0.agenda.slots.uses,p0.agenda.slots.used,p0.agenda.slots.free,p0.agenda.heap,p0.agenda.where_,p0.due,p1.points,0,0,0)
def aI0 (N:Nat):aU:=⟨aC.cons (aE.agg aZ) (aC.cons (aE.agg bG) (aC.one (aE.sl eC))),aE.tup (aC.cons (aE.agg aZ) (aC.one (aE.int .i64))),fun a=>(AC N) a.1 a.2.1 a.2.2,.frz,false⟩
theorem aBT (N:Nat):aB tab 179 (aI0 N):=aB.of YY (cx:=(aN (aG N) [(138,(R0 N)),(241,(aIO N)),(242,(aIP N)),(243,(aIU N)),(139,(JR N)),(245,(aIZ N))] [] [] [])) rfl (aL.make ⟨(AZ N),(aBH N),(aBI N),(aBN N),(JS N),(aBS N),trivial⟩ trivial trivial) (fun a=>by kernel_rfl)
def DO (N:Nat) (s:((List (Int×Int))×(List (Int×Int))×Int×Int×Int×Int×(List (Int×Int×Int))×Int×(List (Int×Int×Int))×(List Int)×(List Bool)×(List Int)×(List (Int×Int×Int×Int×Int))×(List Int)×(List (Int×Int×Int))×(List (Int×Int×Int))×Int×Int×Int)):Option (aY ((List (Int×Int))×(List (Int×Int))×Int×Int×Int×Int×(List (Int×Int×Int))×Int×(List (Int×Int×Int))×(List Int)×(List Bool)×(List Int)×(List (Int×Int×Int×Int×Int))×(List Int)×(List (Int×Int×Int))×(List (Int×Int×Int))×Int×Int×Int) (aY ((List (Int×Int))×(List (Int×Int))×Int×Int×Int×Int×(List (Int×Int×Int))×Int×(List (Int×Int×Int))×(List Int)×(List Bool)×(List Int)×(List (Int×Int×Int×Int×Int))×(List Int)×(List (Int×Int×Int))×(List (Int×Int×Int))×Int×Int×Int) (aY ((List (Int×Int))×(List (Int×Int))×Int×Int×Int×Int×(List (Int×Int×Int))×Int×(List (Int×Int×Int))×(List Int)×(List Bool)×(List Int)×(List (Int×Int×Int×Int×Int))×(List Int)×(List (Int×Int×Int))×(List (Int×Int×Int))×Int×Int×Int) (aJ×Int)))):=
 bif decide (s.2.2.2.1<s.2.2.1) then
  (aK s.2.1 s.2.2.2.1).bind fun a0=>
  ((vG N) (Field.mk s.2.2.2.2.2.2.2.2.2.2.2.2.2.2.2.1) a0.1).bind fun a1=>
  ((vG N) (Field.mk s.2.2.2.2.2.2.2.2.2.2.2.2.2.2.2.1) a0.2).bind fun a2=>
  bif a1.2 !=0 then
   some (.done (.done (.done (aJ.mk (0,0) (Field.mk []) (aQ.mk 0 []) (aH.mk (aM.mk [] [] []) [] []) [],6))))
  else
   bif a2.2 !=0 then
    some (.done (.done (.done (aJ.mk (0,0) (Field.mk []) (aQ.mk 0 []) (aH.mk (aM.mk [] [] []) [] []) [],6))))
   else
    some (.next (s.1,s.2.1,s.2.2.1,aA .i64 (s.2.2.2.1+1),s.2.2.2.2))
 else
  ((vH N) (aJ.mk (s.2.2.2.2.1,s.2.2.2.2.2.1) (Field.mk s.2.2.2.2.2.2.1) (aQ.mk s.2.2.2.2.2.2.2.1 s.2.2.2.2.2.2.2.2.1) (aH.mk (aM.mk s.2.2.2.2.2.2.2.2.2.1 s.2.2.2.2.2.2.2.2.2.2.1 s.2.2.2.2.2.2.2.2.2.2.2.1) s.2.2.2.2.2.2.2.2.2.2.2.2.1 s.2.2.2.2.2.2.2.2.2.2.2.2.2.1) s.2.2.2.2.2.2.2.2.2.2.2.2.2.2.1)).bind fun r3=>
  ((AC N) r3 (Field.mk s.2.2.2.2.2.2.2.2.2.2.2.2.2.2.2.1) s.1).bind fun a4=>
  some (.done (.done (.done a4)))
def DP (N:Nat) (s:((List (Int×Int))×(List (Int×Int))×Int×Int×Int×Int×(List (Int×Int×Int))×Int×(List (Int×Int×Int))×(List Int)×(List Bool)×(List Int)×(List (Int×Int×Int×Int×Int))×(List Int)×(List (Int×Int×Int))×(List (Int×Int×Int))×Int×Int×Int)):Option (aY ((List (Int×Int))×(List (Int×Int))×Int×Int×Int×Int×(List (Int×Int×Int))×Int×(List (Int×Int×Int))×(List Int)×(List Bool)×(List Int)×(List (Int×Int×Int×Int×Int))×(List Int)×(List (Int×Int×Int))×(List (Int×Int×Int))×Int×Int×Int) (aY ((List (Int×Int))×(List (Int×Int))×Int×Int×Int×Int×(List (Int×Int×Int))×Int×(List (Int×Int×Int))×(List Int)×(List Bool)×(List Int)×(List (Int×Int×Int×Int×Int))×(List Int)×(List (Int×Int×Int))×(List (Int×Int×Int))×Int×Int×Int) (aJ×Int))):=
 bif decide (s.2.2.2.1<s.2.2.1) then
  (aK s.2.1 s.2.2.2.1).bind fun a0=>
  (fZ s.1 0 s.2.2.2.1).bind fun l1=>
  ((eV N) l1 a0).bind fun b2=>
  bif b2 then
   some (.done (.done (aJ.mk (0,0) (Field.mk []) (aQ.mk 0 []) (aH.mk (aM.mk [] [] []) [] []) [],14)))
  else
   some (.next (s.1,s.2.1,s.2.2.1,aA .i64 (s.2.2.2.1+1),s.2.2.2.2))
 else
  (aR N) (DO N) (s.1,s.1,Int.ofNat s.1.length,0,s.2.2.2.2)
def DQ (N:Nat) (s:((List (Int×Int))×(List (Int×Int))×Int×Int×Int×Int×(List (Int×Int×Int))×Int×(List (Int×Int×Int))×(List Int)×(List Bool)×(List Int)×(List (Int×Int×Int×Int×Int))×(List Int)×(List (Int×Int×Int))×(List (Int×Int×Int))×Int×Int×Int)):Option (aY ((List (Int×Int))×(List (Int×Int))×Int×Int×Int×Int×(List (Int×Int×Int))×Int×(List (Int×Int×Int))×(List Int)×(List Bool)×(List Int)×(List (Int×Int×Int×Int×Int))×(List Int)×(List (Int×Int×Int))×(List (Int×Int×Int))×Int×Int×Int) (aJ×Int)):=
 bif decide (s.2.2.2.1<s.2.2.1) then
  (aK s.2.1 s.2.2.2.1).bind fun a0=>
  bif decide (a0.1<0) then
   some (.done (aJ.mk (0,0) (Field.mk []) (aQ.mk 0 []) (aH.mk (aM.mk [] [] []) [] []) [],8))
  else
   bif decide (a0.2<0) then
    some (.done (aJ.mk (0,0) (Field.mk []) (aQ.mk 0 []) (aH.mk (aM.mk [] [] []) [] []) [],8))
   else
    bif decide (65535<a0.1) then
     some (.done (aJ.mk (0,0) (Field.mk []) (aQ.mk 0 []) (aH.mk (aM.mk [] [] []) [] []) [],8))
    else
     bif decide (65535<a0.2) then
      some (.done (aJ.mk (0,0) (Field.mk []) (aQ.mk 0 []) (aH.mk (aM.mk [] [] []) [] []) [],8))
     else
      bif a0.1==a0.2 then
       some (.done (aJ.mk (0,0) (Field.mk []) (aQ.mk 0 []) (aH.mk (aM.mk [] [] []) [] []) [],8))
      else
       some (.next (s.1,s.2.1,s.2.2.1,aA .i64 (s.2.2.2.1+1),s.2.2.2.2))
 else
  (aR N) (DP N) (s.1,s.1,Int.ofNat s.1.length,0,s.2.2.2.2)
def AD (N:Nat) (p0:aJ) (p1:Field) (p2:List (Int×Int)):Option (aJ×Int):=
 ((gQ N) p0).bind fun n0=>
 bif n0 !=0 then
  some (aJ.mk (0,0) (Field.mk []) (aQ.mk 0 []) (aH.mk (aM.mk [] [] []) [] []) [],n0)
 else
  ((gO N) p1).bind fun n1=>
  bif n1 !=0 then
   some (aJ.mk (0,0) (Field.mk []) (aQ.mk 0 []) (aH.mk (aM.mk [] [] []) [] []) [],n1)
  else
   (aR N) (DQ N) (p2,p2,Int.ofNat p2.length,0,p0.now.1,p0.now.2,p0.field.points,p0.certs.next_,p0.certs.list,p0.agenda.slots.uses,p0.agenda.slots.used,p0.agenda.slots.free,p0.agenda.heap,p0.agenda.where_,p0.due,p1.points,0,0,0)
def aI1 (N:Nat):aU:=⟨aC.cons (aE.agg aZ) (aC.cons (aE.agg bG) (aC.one (aE.sl eC))),aE.tup (aC.cons (aE.agg aZ) (aC.one (aE.int .i64))),fun a=>(AD N) a.1 a.2.1 a.2.2,.frz,false⟩
theorem aBU (N:Nat):aB tab 113 (aI1 N):=aB.of X1 (cx:=(aN (aG N) [(65,(c65 N)),(122,(LE N)),(138,(R0 N)),(178,(aIM N)),(180,(aIN N)),(180,(aCp N)),(179,(aI0 N))] [] [] [])) rfl (aL.make ⟨(yS N),(sP N),(AZ N),(aBF N),(aBG N),(R6 N),(aBT N),trivial⟩ trivial trivial) (fun a=>by kernel_rfl)
def lX (N:Nat) (p0:aJ) (p1:Field) (p2:List Int):Option (aT×Int):=
 ((kG N) p1 p0.now p2).bind fun a0=>
 ((AD N) p0 p1 a0.2).bind fun a1=>
 bif a1.2 !=0 then
  some (aT.mk (aJ.mk (0,0) (Field.mk []) (aQ.mk 0 []) (aH.mk (aM.mk [] [] []) [] []) []) (aP.mk [] []),a1.2)
 else
  some (aT.mk a1.1 a0.1,0)
def c52 (N:Nat):aU:=⟨aC.cons (aE.agg aZ) (aC.cons (aE.agg bG) (aC.one (aE.sl ki))),aE.tup (aC.cons (aE.agg fI) (aC.one (aE.int .i64))),fun a=>(lX N) a.1 a.2.1 a.2.2,.frz,false⟩
theorem R8 (N:Nat):aB tab 52 (c52 N):=aB.of aF6 (cx:=(aN (aG N) [(54,(c54 N)),(113,(aI1 N))] [] [] [])) rfl (aL.make ⟨(GY N),(aBU N),trivial⟩ trivial trivial) (fun a=>by kernel_rfl)
def DR (N:Nat) (p0:aJ) (p1:Int×Int):Option (aJ×Int):=
 ((rY N) p0 p1).bind fun a0=>
 bif a0.2==0 then
  bif a0.1 then
   some (aJ.mk (0,0) (Field.mk []) (aQ.mk 0 []) (aH.mk (aM.mk [] [] []) [] []) [],36)
  else
   bif a0.2 !=0 then
    some (aJ.mk (0,0) (Field.mk []) (aQ.mk 0 []) (aH.mk (aM.mk [] [] []) [] []) [],a0.2)
   else
    ((iD N) p0).bind fun r1=>
    some (aJ.mk p1 r1.field r1.certs r1.agenda r1.due,0)
 else
  bif a0.2 !=0 then
   some (aJ.mk (0,0) (Field.mk []) (aQ.mk 0 []) (aH.mk (aM.mk [] [] []) [] []) [],a0.2)
  else
   ((iD N) p0).bind fun r2=>
   some (aJ.mk p1 r2.field r2.certs r2.agenda r2.due,0)
def c53 (N:Nat):aU:=⟨aC.cons (aE.agg aZ) (aC.one (aE.agg (bF.row eC))),aE.tup (aC.cons (aE.agg aZ) (aC.one (aE.int .i64))),fun a=>(DR N) a.1 a.2,.frz,false⟩
theorem aHm (N:Nat):aB tab 53 (c53 N):=aB.of aF7 (cx:=(aN (aG N) [(111,(aHe N)),(114,(R4 N)),(114,(JG N))] [] [] [])) rfl (aL.make ⟨(NC N),(A0 N),(xD N),trivial⟩ trivial trivial) (fun a=>by kernel_rfl)
def xG (N:Nat) (s:(Int×Int×(List (Int×Int×Int))×Int×(List (Int×Int×Int))×(List Int)×(List Bool)×(List Int)×(List (Int×Int×Int×Int×Int))×(List Int)×(List (Int×Int×Int))×(List Int)×(List Int)×Int×Int×Int×Int×Int×(List (Int×Int)))):Option (aY (Int×Int×(List (Int×Int×Int))×Int×(List (Int×Int×Int))×(List Int)×(List Bool)×(List Int)×(List (Int×Int×Int×Int×Int))×(List Int)×(List (Int×Int×Int))×(List Int)×(List Int)×Int×Int×Int×Int×Int×(List (Int×Int))) (aT×(List (Int×Int))×Int)):=
 ((DI N) (aJ.mk (s.1,s.2.1) (Field.mk s.2.2.1) (aQ.mk s.2.2.2.1 s.2.2.2.2.1) (aH.mk (aM.mk s.2.2.2.2.2.1 s.2.2.2.2.2.2.1 s.2.2.2.2.2.2.2.1) s.2.2.2.2.2.2.2.2.1 s.2.2.2.2.2.2.2.2.2.1) s.2.2.2.2.2.2.2.2.2.2.1) (s.2.2.2.2.2.2.2.2.2.2.2.2.2.1,s.2.2.2.2.2.2.2.2.2.2.2.2.2.2.1)).bind fun a0=>
 bif a0.2.2.2 !=0 then
  ((DR N) (aJ.mk (s.1,s.2.1) (Field.mk s.2.2.1) (aQ.mk s.2.2.2.1 s.2.2.2.2.1) (aH.mk (aM.mk s.2.2.2.2.2.1 s.2.2.2.2.2.2.1 s.2.2.2.2.2.2.2.1) s.2.2.2.2.2.2.2.2.1 s.2.2.2.2.2.2.2.2.2.1) s.2.2.2.2.2.2.2.2.2.2.1) (s.2.2.2.2.2.2.2.2.2.2.2.2.2.1,s.2.2.2.2.2.2.2.2.2.2.2.2.2.2.1)).bind fun a1=>
  ((kG N) a1.1.field (s.2.2.2.2.2.2.2.2.2.2.2.2.2.1,s.2.2.2.2.2.2.2.2.2.2.2.2.2.2.1) s.2.2.2.2.2.2.2.2.2.2.2.1).bind fun a2=>
  some (.done (aT.mk a1.1 a2.1,s.2.2.2.2.2.2.2.2.2.2.2.2.2.2.2.2.2.2,0))
 else
  ((lX N) a0.1 a0.1.field s.2.2.2.2.2.2.2.2.2.2.2.1).bind fun a3=>
  bif a3.2 !=0 then
   some (.done (aT.mk (aJ.mk (0,0) (Field.mk []) (aQ.mk 0 []) (aH.mk (aM.mk [] [] []) [] []) []) (aP.mk [] []),[],a3.2))
  else
   (bD s.2.2.2.2.2.2.2.2.2.2.2.2.2.2.2.2.2.2 [a0.2.2.1]).bind fun l4=>
   some (.next (a3.1.clock.now.1,a3.1.clock.now.2,a3.1.clock.field.points,a3.1.clock.certs.next_,a3.1.clock.certs.list,a3.1.clock.agenda.slots.uses,a3.1.clock.agenda.slots.used,a3.1.clock.agenda.slots.free,a3.1.clock.agenda.heap,a3.1.clock.agenda.where_,a3.1.clock.due,a3.1.bracket.places,a3.1.bracket.wins,s.2.2.2.2.2.2.2.2.2.2.2.2.2.1,s.2.2.2.2.2.2.2.2.2.2.2.2.2.2.1,s.2.2.2.2.2.2.2.2.2.2.2.2.2.2.2.1,s.2.2.2.2.2.2.2.2.2.2.2.2.2.2.2.2.1,s.2.2.2.2.2.2.2.2.2.2.2.2.2.2.2.2.2.1,l4))
def bR (N:Nat) (p0:aT) (p1:Int×Int):Option (aT×(List (Int×Int))×Int):=
 ((dH N) p0).bind fun n0=>
 bif n0 !=0 then
  some (aT.mk (aJ.mk (0,0) (Field.mk []) (aQ.mk 0 []) (aH.mk (aM.mk [] [] []) [] []) []) (aP.mk [] []),[],n0)
 else
  ((cZ N) p1).bind fun n1=>
  bif n1 !=0 then
   some (aT.mk (aJ.mk (0,0) (Field.mk []) (aQ.mk 0 []) (aH.mk (aM.mk [] [] []) [] []) []) (aP.mk [] []),[],8)
  else
   ((oC N) p1 p0.clock.now).bind fun a2=>
   bif decide (a2.1<0) then
    some (aT.mk (aJ.mk (0,0) (Field.mk []) (aQ.mk 0 []) (aH.mk (aM.mk [] [] []) [] []) []) (aP.mk [] []),[],44)
   else
    (aR N) (xG N) (p0.clock.now.1,p0.clock.now.2,p0.clock.field.points,p0.clock.certs.next_,p0.clock.certs.list,p0.clock.agenda.slots.uses,p0.clock.agenda.slots.used,p0.clock.agenda.slots.free,p0.clock.agenda.heap,p0.clock.agenda.where_,p0.clock.due,p0.bracket.places,p0.bracket.wins,p1.1,p1.2,0,0,0,[])
def c12 (N:Nat):aU:=⟨aC.cons (aE.agg fI) (aC.one (aE.agg (bF.row eC))),aE.tup (aC.cons (aE.agg fI) (aC.cons (aE.sl eC) (aC.one (aE.int .i64)))),fun a=>(bR N) a.1 a.2,.frz,false⟩
theorem R9 (N:Nat):aB tab 12 (c12 N):=aB.of aFJ (cx:=(aN (aG N) [(23,(c23 N)),(49,(RX N)),(50,(c50 N)),(51,(c51 N)),(52,(c52 N)),(53,(c53 N)),(54,(c54 N))] [] [] [])) rfl (aL.make ⟨(GZ N),(mZ N),(LF N),(aHk N),(R8 N),(aHm N),(GY N),trivial⟩ trivial trivial) (fun a=>by kernel_rfl)
def JY (_:Nat) (s:(Int×Int×Int×(List Int)×(List Bool)×(List Int))):Option (aY (Int×Int×Int×(List Int)×(List Bool)×(List Int)) (aM×Int)):=
 bif decide (s.2.2.1<s.2.1) then
  (aK s.2.2.2.2.2 s.2.2.1).bind fun _=>
  some (.next (s.1,s.2.1,aA .i64 (s.2.2.1+1),s.2.2.2.1,s.2.2.2.2.1,bM s.2.2.2.2.2 s.2.2.1 (aA .i64 ((aA .i64 (s.1-1)) -s.2.2.1))))
 else
  some (.done (aM.mk s.2.2.2.1 s.2.2.2.2.1 s.2.2.2.2.2,0))
def JZ (N:Nat) (p0:Int):Option (aM×Int):=
 bif decide (p0<1) then
  some (aM.mk [] [] [],2)
 else
  bif decide (200<p0) then
   some (aM.mk [] [] [],2)
  else
   bif p0==p0 then
    (nS p0 (0:Int)).bind fun l0=>
    bif p0==p0 then
     (nS p0 (false:Bool)).bind fun l1=>
     bif p0==p0 then
      (nS p0 (0:Int)).bind fun l2=>
      (aR N) (JY N) (p0,p0,0,l0,l1,l2)
     else
      none
    else
     none
   else
    none
def aI2 (N:Nat):aU:=⟨aC.one (aE.int .i64),aE.tup (aC.cons (aE.agg eJ) (aC.one (aE.int .i64))),fun a=>(JZ N) a,.frz,false⟩
theorem aBV (N:Nat):aB tab 192 (aI2 N):=aB.of Y7 (cx:=(aN (aG N) [] [] [] [])) rfl (aL.make trivial trivial trivial) (fun a=>by kernel_rfl)
def AM (_:Nat) (p0:Int) (p1:Int):Option (Int×Int):=
 some (aA .u32 (kB .u64 (aA .u64 ((aA .u64 p0)*(aA .u64 p1))) 32),aA .u32 (aA .u64 ((aA .u64 p0)*(aA .u64 p1))))
def aI3 (N:Nat):aU:=⟨aC.cons (aE.int .u32) (aC.one (aE.int .u32)),aE.tup (aC.cons (aE.int .u32) (aC.one (aE.int .u32))),fun a=>(AM N) a.1 a.2,.pure,false⟩
theorem aBW (N:Nat):aB tab 250 (aI3 N):=aB.of Z6 (cx:=(aN (aG N) [] [] [] [])) rfl (aL.make trivial trivial trivial) (fun a=>by kernel_rfl)
def uD (N:Nat) (p0:Int) (p1:Int):Option (Int×Int):=
 ((fX N) p0 p1).bind fun a0=>
 some a0
def aHn (N:Nat):aU:=⟨aC.cons (aE.int .u64) (aC.one (aE.int .u64)),aE.tup (aC.cons (aE.int .u64) (aC.one (aE.int .u64))),fun a=>(uD N) a.1 a.2,.pure,false⟩
theorem NJ (N:Nat):aB tab 193 (aHn N):=aB.of Y8 (cx:=(aN (aG N) [(250,(aI3 N)),(172,(aA3 N))] [] [] [])) rfl (aL.make ⟨(aBW N),(GS N),trivial⟩ trivial trivial) (fun a=>by kernel_rfl)
def kH (_:Nat) (s:(Int×(List Int))):Option (aY (Int×(List Int)) (List Int)):=
 bif decide (s.1<(Int.ofNat s.2.length)) then
  bif ((decide (0<=s.1))&&(decide (s.1<=(Int.ofNat s.2.length))))&&(decide ((Int.ofNat s.2.length)<=(Int.ofNat s.2.length))) then
   (fZ s.2 0 s.1).bind fun _=>
   bif ((s.2.take s.1.toNat).take (((Int.ofNat s.2.length).toNat) -s.1.toNat)).isEmpty then
    some (.next (aA .i64 (s.1+0),s.2))
   else
    bif (Nat.ble ((0+s.1.toNat)+(((s.2.take s.1.toNat).take (((Int.ofNat s.2.length).toNat) -s.1.toNat)).length)) s.2.length)&&(!false) then
     some (.next (aA .i64 (s.1+(Int.ofNat (((s.2.take s.1.toNat).take (((Int.ofNat s.2.length).toNat) -s.1.toNat)).length))),eN s.2 (0+s.1.toNat) ((s.2.take s.1.toNat).take (((Int.ofNat s.2.length).toNat) -s.1.toNat))))
    else
     none
  else
   none
 else
  some (.done s.2)
def gC (N:Nat) (p0:List Int) (p1:Int):Option (List Int):=
 bif decide (p1<0) then
  none
 else
  ((uD N) (aA .u64 (Int.ofNat p0.length)) (aA .u64 p1)).bind fun a0=>
  bif decide (0<a0.1) then
   none
  else
   bif decide (9223372036854775807<a0.2) then
    none
   else
    bif (aA .i64 a0.2)==(aA .i64 a0.2) then
     (nS (aA .i64 a0.2) (0:Int)).bind fun l1=>
     bif (p0.take l1.length).isEmpty then
      (aR N) (kH N) (0,l1)
     else
      bif (Nat.ble (0+((p0.take l1.length).length)) l1.length)&&(!false) then
       (aR N) (kH N) (Int.ofNat ((p0.take l1.length).length),eN l1 0 (p0.take l1.length))
      else
       none
    else
     none
def aHo (N:Nat):aU:=⟨aC.cons (aE.sl ki) (aC.one (aE.int .i64)),aE.sl ki,fun a=>(gC N) a.1 a.2,.own,true⟩
def SA (N:Nat):aU:=⟨aC.cons (aE.sl ki) (aC.one (aE.int .i64)),aE.sl ki,fun a=>(gC N) a.1 a.2,.frz,false⟩
theorem NK (N:Nat):aB tab 125 (aHo N):=aB.of MM (cx:=(aN (aG N) [(193,(aHn N))] [] [] [])) rfl (aL.make ⟨(NJ N),trivial⟩ trivial trivial) (fun a=>by kernel_rfl)
theorem J0 (N:Nat):aB tab 125 (SA N):=aB.of MM (cx:=(aN (aG N) [(193,(aHn N))] [] [] [])) rfl (aL.make ⟨(NJ N),trivial⟩ trivial trivial) (fun a=>by kernel_rfl)
def DS (N:Nat) (p0:Int):Option (aH×Int):=
 ((JZ N) p0).bind fun a0=>
 bif a0.2 !=0 then
  some (aH.mk (aM.mk [] [] []) [] [],a0.2)
 else
  ((gC N) [-1] p0).bind fun l1=>
  some (aH.mk a0.1 [] l1,0)
def aI4 (N:Nat):aU:=⟨aC.one (aE.int .i64),aE.tup (aC.cons (aE.agg bT) (aC.one (aE.int .i64))),fun a=>(DS N) a,.frz,false⟩
theorem aBX (N:Nat):aB tab 123 (aI4 N):=aB.of X5 (cx:=(aN (aG N) [(192,(aI2 N)),(125,(aHo N)),(125,(SA N))] [] [] [])) rfl (aL.make ⟨(aBV N),(NK N),(J0 N),trivial⟩ trivial trivial) (fun a=>by kernel_rfl)
def FE (N:Nat) (p0:Field) (p1:Int×Int):Option (aJ×Int):=
 ((gO N) p0).bind fun n0=>
 bif n0 !=0 then
  some (aJ.mk (0,0) (Field.mk []) (aQ.mk 0 []) (aH.mk (aM.mk [] [] []) [] []) [],n0)
 else
  ((cZ N) p1).bind fun n1=>
  bif n1 !=0 then
   some (aJ.mk (0,0) (Field.mk []) (aQ.mk 0 []) (aH.mk (aM.mk [] [] []) [] []) [],n1)
  else
   ((DS N) 200).bind fun a2=>
   (bB p0.points).bind fun l3=>
   some (aJ.mk p1 (Field.mk l3) (aQ.mk 0 []) a2.1 [],a2.2)
def c59 (N:Nat):aU:=⟨aC.cons (aE.agg bG) (aC.one (aE.agg (bF.row eC))),aE.tup (aC.cons (aE.agg aZ) (aC.one (aE.int .i64))),fun a=>(FE N) a.1 a.2,.frz,false⟩
theorem aHp (N:Nat):aB tab 59 (c59 N):=aB.of aGa (cx:=(aN (aG N) [(122,(LE N)),(49,(RX N)),(123,(aI4 N)),(124,aU.clone cB)] [] [] [])) rfl (aL.make ⟨(sP N),(mZ N),(aBX N),nY,trivial⟩ trivial trivial) (fun a=>by kernel_rfl)
def AN (_:Nat) (s:((List (Int×Int×Int))×Int×Int×(List Int))):Option (aY ((List (Int×Int×Int))×Int×Int×(List Int)) (aY (Int×(List (Int×Int×Int))) (List Int))):=
 bif decide (s.2.2.1<s.2.1) then
  (aK s.1 s.2.2.1).bind fun a0=>
  (aK s.2.2.2 s.2.2.1).bind fun _=>
  some (.next (s.1,s.2.1,aA .i64 (s.2.2.1+1),bM s.2.2.2 s.2.2.1 a0.1))
 else
  some (.done (.done s.2.2.2))
def AO (N:Nat) (s:(Int×(List (Int×Int×Int)))):Option (aY (Int×(List (Int×Int×Int))) (List Int)):=
 bif decide (s.1<(Int.ofNat s.2.length)) then
  some (.next (aA .i64 (s.1*2),s.2))
 else
  ((gC N) [-1] s.1).bind fun l0=>
  (aR N) (AN N) (s.2,Int.ofNat s.2.length,0,l0)
def xH (N:Nat) (p0:Field):Option (List Int):=
 (aR N) (AO N) (1,p0.points)
def c60 (N:Nat):aU:=⟨aC.one (aE.agg bG),aE.sl ki,fun a=>(xH N) a,.frz,false⟩
theorem aHq (N:Nat):aB tab 60 (c60 N):=aB.of aGb (cx:=(aN (aG N) [(125,(aHo N)),(125,(SA N))] [] [] [])) rfl (aL.make ⟨(NK N),(J0 N),trivial⟩ trivial trivial) (fun a=>by kernel_rfl)
def jA (N:Nat) (p0:Field) (p1:Int×Int):Option (aT×Int):=
 ((FE N) p0 p1).bind fun a0=>
 bif a0.2 !=0 then
  some (aT.mk (aJ.mk (0,0) (Field.mk []) (aQ.mk 0 []) (aH.mk (aM.mk [] [] []) [] []) []) (aP.mk [] []),a0.2)
 else
  ((xH N) p0).bind fun l1=>
  ((lX N) a0.1 p0 l1).bind fun a2=>
  some a2
def c17 (N:Nat):aU:=⟨aC.cons (aE.agg bG) (aC.one (aE.agg (bF.row eC))),aE.tup (aC.cons (aE.agg fI) (aC.one (aE.int .i64))),fun a=>(jA N) a.1 a.2,.frz,false⟩
theorem SC (N:Nat):aB tab 17 (c17 N):=aB.of aFL (cx:=(aN (aG N) [(59,(c59 N)),(60,(c60 N)),(52,(c52 N))] [] [] [])) rfl (aL.make ⟨(aHp N),(aHq N),(R8 N),trivial⟩ trivial trivial) (fun a=>by kernel_rfl)
def yY (_:Nat) (s:((List Int)×(List Int)×Int)):Option (aY ((List Int)×(List Int)×Int) Bool):=
 bif decide (s.2.2<(Int.ofNat s.1.length)) then
  (aK s.1 s.2.2).bind fun n0=>
  (aK s.2.1 s.2.2).bind fun n1=>
  bif n0 !=n1 then
   some (.done false)
  else
   some (.next (s.1,s.2.1,aA .i64 (s.2.2+1)))
 else
  some (.done true)
def nE (N:Nat) (p0:List Int) (p1:List Int):Option Bool:=
 bif (Int.ofNat p0.length) !=(Int.ofNat p1.length) then
  some false
 else
  (aR N) (yY N) (p0,p1,0)
def c42 (N:Nat):aU:=⟨aC.cons (aE.sl ki) (aC.one (aE.sl ki)),aE.bool,fun a=>(nE N) a.1 a.2,.pure,false⟩
theorem aHr (N:Nat):aB tab 42 (c42 N):=aB.of aF1 (cx:=(aN (aG N) [] [] [] [])) rfl (aL.make trivial trivial trivial) (fun a=>by kernel_rfl)
def vI (N:Nat) (p0:aP) (p1:aP):Option Bool:=
 ((nE N) p0.places p1.places).bind fun b0=>
 bif b0 then
  ((nE N) p0.wins p1.wins).bind fun b1=>
  some b1
 else
  some false
def c58 (N:Nat):aU:=⟨aC.cons (aE.agg cN) (aC.one (aE.agg cN)),aE.bool,fun a=>(vI N) a.1 a.2,.pure,false⟩
theorem aHs (N:Nat):aB tab 58 (c58 N):=aB.of aF9 (cx:=(aN (aG N) [(42,(c42 N))] [] [] [])) rfl (aL.make ⟨(aHr N),trivial⟩ trivial trivial) (fun a=>by kernel_rfl)
def vJ (_:Nat) (s:((List (Int×Int))×(List (Int×Int))×Int)):Option (aY ((List (Int×Int))×(List (Int×Int))×Int) Bool):=
 bif decide (s.2.2<(Int.ofNat s.1.length)) then
  (aK s.1 s.2.2).bind fun a0=>
  (aK s.2.1 s.2.2).bind fun a1=>
  bif !((a0.1==a1.1)&&(a0.2==a1.2)) then
   some (.done false)
  else
   some (.next (s.1,s.2.1,aA .i64 (s.2.2+1)))
 else
  some (.done true)
def qG (N:Nat) (p0:List (Int×Int)) (p1:List (Int×Int)):Option Bool:=
 bif (Int.ofNat p0.length) !=(Int.ofNat p1.length) then
  some false
 else
  (aR N) (vJ N) (p0,p1,0)
def c15 (N:Nat):aU:=⟨aC.cons (aE.sl eC) (aC.one (aE.sl eC)),aE.bool,fun a=>(qG N) a.1 a.2,.pure,false⟩
theorem aHt (N:Nat):aB tab 15 (c15 N):=aB.of aFK (cx:=(aN (aG N) [] [] [] [])) rfl (aL.make trivial trivial trivial) (fun a=>by kernel_rfl)
def AE (N:Nat):Option Bool:=
 (kF N).bind fun r0=>
 ((gN N) 0).bind fun a1=>
 ((jA N) r0 a1).bind fun a2=>
 ((gN N) 2).bind fun a3=>
 ((bR N) a2.1 a3).bind fun a4=>
 ((dI N) a4.1).bind fun a5=>
 bif a2.2==0 then
  bif a4.2.2==0 then
   bif a5.2==0 then
    bif a5.1==1 then
     ((vI N) a2.1.bracket (aP.mk [1,2,5,-1] [2,2,5])).bind fun b6=>
     bif b6 then
      ((vI N) a4.1.bracket (aP.mk [1,2,5,-1] [1,1,5])).bind fun b7=>
      bif b7 then
       ((qG N) a4.2.1 [(1,2)]).bind fun b8=>
       some b8
      else
       some false
     else
      some false
    else
     some false
   else
    some false
  else
   some false
 else
  some false
def c28 (N:Nat):aU:=⟨aC.nil,aE.bool,fun _=>(AE N),.pure,false⟩
theorem aHu (N:Nat):aB tab 28 (c28 N):=aB.of aFT (cx:=(aN (aG N) [(25,(c25 N)),(26,(c26 N)),(17,(c17 N)),(12,(c12 N)),(21,(c21 N)),(58,(c58 N)),(15,(c15 N))] [] [] [])) rfl (aL.make ⟨(RA N),(RC N),(SC N),(R9 N),(R2 N),(aHs N),(aHt N),trivial⟩ trivial trivial) (fun a=>by kernel_rfl)
def gR (N:Nat) (s:(Int×Int×Int×(List (Int×Int×Int))×Int×(List (Int×Int×Int))×(List Int)×(List Bool)×(List Int)×(List (Int×Int×Int×Int×Int))×(List Int)×(List (Int×Int×Int))×(List Int)×(List Int))):Option (aY (Int×Int×Int×(List (Int×Int×Int))×Int×(List (Int×Int×Int))×(List Int)×(List Bool)×(List Int)×(List (Int×Int×Int×Int×Int))×(List Int)×(List (Int×Int×Int))×(List Int)×(List Int)) Bool):=
 bif decide (s.1<5) then
  ((pH N) (aT.mk (aJ.mk (s.2.1,s.2.2.1) (Field.mk s.2.2.2.1) (aQ.mk s.2.2.2.2.1 s.2.2.2.2.2.1) (aH.mk (aM.mk s.2.2.2.2.2.2.1 s.2.2.2.2.2.2.2.1 s.2.2.2.2.2.2.2.2.1) s.2.2.2.2.2.2.2.2.2.1 s.2.2.2.2.2.2.2.2.2.2.1) s.2.2.2.2.2.2.2.2.2.2.2.1) (aP.mk s.2.2.2.2.2.2.2.2.2.2.2.2.1 s.2.2.2.2.2.2.2.2.2.2.2.2.2))).bind fun r0=>
  bif s.1==0 then
   ((uZ N) r0.clock 0).bind fun r1=>
   ((fS N) (aT.mk r1 r0.bracket)).bind fun a2=>
   ((dI N) (aT.mk r1 r0.bracket)).bind fun a3=>
   ((bR N) (aT.mk r1 r0.bracket) (0,0)).bind fun a4=>
   ((dH N) (aT.mk r1 r0.bracket)).bind fun n5=>
   bif n5 !=8 then
    some (.done false)
   else
    bif a2.2 !=8 then
     some (.done false)
    else
     bif a3.2 !=8 then
      some (.done false)
     else
      bif a4.2.2 !=8 then
       some (.done false)
      else
       some (.next (aA .i64 (s.1+1),s.2))
  else
   bif s.1==1 then
    ((fS N) (aT.mk (aJ.mk (r0.clock.now.1,0) r0.clock.field r0.clock.certs r0.clock.agenda r0.clock.due) r0.bracket)).bind fun a6=>
    ((dI N) (aT.mk (aJ.mk (r0.clock.now.1,0) r0.clock.field r0.clock.certs r0.clock.agenda r0.clock.due) r0.bracket)).bind fun a7=>
    ((bR N) (aT.mk (aJ.mk (r0.clock.now.1,0) r0.clock.field r0.clock.certs r0.clock.agenda r0.clock.due) r0.bracket) (0,0)).bind fun a8=>
    ((dH N) (aT.mk (aJ.mk (r0.clock.now.1,0) r0.clock.field r0.clock.certs r0.clock.agenda r0.clock.due) r0.bracket)).bind fun n9=>
    bif n9 !=8 then
     some (.done false)
    else
     bif a6.2 !=8 then
      some (.done false)
     else
      bif a7.2 !=8 then
       some (.done false)
      else
       bif a8.2.2 !=8 then
        some (.done false)
       else
        some (.next (aA .i64 (s.1+1),s.2))
   else
    bif s.1==2 then
     (aK r0.bracket.places 3).bind fun _=>
     ((fS N) (aT.mk r0.clock (aP.mk (bM r0.bracket.places 3 7) r0.bracket.wins))).bind fun a11=>
     ((dI N) (aT.mk r0.clock (aP.mk (bM r0.bracket.places 3 7) r0.bracket.wins))).bind fun a12=>
     ((bR N) (aT.mk r0.clock (aP.mk (bM r0.bracket.places 3 7) r0.bracket.wins)) (0,0)).bind fun a13=>
     ((dH N) (aT.mk r0.clock (aP.mk (bM r0.bracket.places 3 7) r0.bracket.wins))).bind fun n14=>
     bif n14 !=8 then
      some (.done false)
     else
      bif a11.2 !=8 then
       some (.done false)
      else
       bif a12.2 !=8 then
        some (.done false)
       else
        bif a13.2.2 !=8 then
         some (.done false)
        else
         some (.next (aA .i64 (s.1+1),s.2))
    else
     bif s.1==3 then
      (aK r0.bracket.wins 0).bind fun _=>
      ((fS N) (aT.mk r0.clock (aP.mk r0.bracket.places (bM r0.bracket.wins 0 5)))).bind fun a16=>
      ((dI N) (aT.mk r0.clock (aP.mk r0.bracket.places (bM r0.bracket.wins 0 5)))).bind fun a17=>
      ((bR N) (aT.mk r0.clock (aP.mk r0.bracket.places (bM r0.bracket.wins 0 5))) (0,0)).bind fun a18=>
      ((dH N) (aT.mk r0.clock (aP.mk r0.bracket.places (bM r0.bracket.wins 0 5)))).bind fun n19=>
      bif n19 !=8 then
       some (.done false)
      else
       bif a16.2 !=8 then
        some (.done false)
       else
        bif a17.2 !=8 then
         some (.done false)
        else
         bif a18.2.2 !=8 then
          some (.done false)
         else
          some (.next (aA .i64 (s.1+1),s.2))
     else
      bif s.1==4 then
       (bD r0.bracket.places [-1]).bind fun l20=>
       (bD r0.bracket.wins [-1]).bind fun l21=>
       ((fS N) (aT.mk r0.clock (aP.mk l20 l21))).bind fun a22=>
       ((dI N) (aT.mk r0.clock (aP.mk l20 l21))).bind fun a23=>
       ((bR N) (aT.mk r0.clock (aP.mk l20 l21)) (0,0)).bind fun a24=>
       ((dH N) (aT.mk r0.clock (aP.mk l20 l21))).bind fun n25=>
       bif n25 !=8 then
        some (.done false)
       else
        bif a22.2 !=8 then
         some (.done false)
        else
         bif a23.2 !=8 then
          some (.done false)
         else
          bif a24.2.2 !=8 then
           some (.done false)
          else
           some (.next (aA .i64 (s.1+1),s.2))
      else
       ((fS N) r0).bind fun a26=>
       ((dI N) r0).bind fun a27=>
       ((bR N) r0 (0,0)).bind fun a28=>
       ((dH N) r0).bind fun n29=>
       bif n29 !=8 then
        some (.done false)
       else
        bif a26.2 !=8 then
         some (.done false)
        else
         bif a27.2 !=8 then
          some (.done false)
         else
          bif a28.2.2 !=8 then
           some (.done false)
          else
           some (.next (aA .i64 (s.1+1),s.2))
 else
  (nS 65 ((0,0,0):(Int×Int×Int))).bind fun l30=>
  ((gN N) 0).bind fun a31=>
  ((jA N) (Field.mk l30) a31).bind fun a32=>
  (kF N).bind fun r33=>
  ((jA N) r33 (1,0)).bind fun a34=>
  ((gN N) 0).bind fun a35=>
  ((jA N) (Field.mk []) a35).bind fun a36=>
  ((dI N) a36.1).bind fun a37=>
  ((gN N) (-1)).bind fun a38=>
  ((bR N) (aT.mk (aJ.mk (s.2.1,s.2.2.1) (Field.mk s.2.2.2.1) (aQ.mk s.2.2.2.2.1 s.2.2.2.2.2.1) (aH.mk (aM.mk s.2.2.2.2.2.2.1 s.2.2.2.2.2.2.2.1 s.2.2.2.2.2.2.2.2.1) s.2.2.2.2.2.2.2.2.2.1 s.2.2.2.2.2.2.2.2.2.2.1) s.2.2.2.2.2.2.2.2.2.2.2.1) (aP.mk s.2.2.2.2.2.2.2.2.2.2.2.2.1 s.2.2.2.2.2.2.2.2.2.2.2.2.2)) a38).bind fun a39=>
  ((bR N) (aT.mk (aJ.mk (s.2.1,s.2.2.1) (Field.mk s.2.2.2.1) (aQ.mk s.2.2.2.2.1 s.2.2.2.2.2.1) (aH.mk (aM.mk s.2.2.2.2.2.2.1 s.2.2.2.2.2.2.2.1 s.2.2.2.2.2.2.2.2.1) s.2.2.2.2.2.2.2.2.2.1 s.2.2.2.2.2.2.2.2.2.2.1) s.2.2.2.2.2.2.2.2.2.2.2.1) (aP.mk s.2.2.2.2.2.2.2.2.2.2.2.2.1 s.2.2.2.2.2.2.2.2.2.2.2.2.2)) (4,2)).bind fun a40=>
  ((pH N) (aT.mk (aJ.mk (s.2.1,s.2.2.1) (Field.mk s.2.2.2.1) (aQ.mk s.2.2.2.2.1 s.2.2.2.2.2.1) (aH.mk (aM.mk s.2.2.2.2.2.2.1 s.2.2.2.2.2.2.2.1 s.2.2.2.2.2.2.2.2.1) s.2.2.2.2.2.2.2.2.2.1 s.2.2.2.2.2.2.2.2.2.2.1) s.2.2.2.2.2.2.2.2.2.2.2.1) (aP.mk s.2.2.2.2.2.2.2.2.2.2.2.2.1 s.2.2.2.2.2.2.2.2.2.2.2.2.2))).bind fun r41=>
  ((gN N) 2).bind fun a42=>
  ((bR N) (aT.mk (aJ.mk r41.clock.now r41.clock.field (aQ.mk 1000000 r41.clock.certs.list) r41.clock.agenda r41.clock.due) r41.bracket) a42).bind fun a43=>
  ((gN N) 1).bind fun a44=>
  ((bR N) (aT.mk (aJ.mk r41.clock.now r41.clock.field (aQ.mk 1000000 r41.clock.certs.list) r41.clock.agenda r41.clock.due) r41.bracket) a44).bind fun a45=>
  (AE N).bind fun b46=>
  bif b46 then
   bif a32.2==4 then
    bif a34.2==8 then
     bif a36.2==0 then
      bif a37.2==42 then
       bif a39.2.2==44 then
        bif a40.2.2==8 then
         bif a43.2.2==18 then
          bif a45.2.2==0 then
           ((gN N) 1).bind fun a47=>
           bif (a45.1.clock.now.1==a47.1)&&(a45.1.clock.now.2==a47.2) then
            some (.done ((Int.ofNat a36.1.clock.certs.list.length)==0))
           else
            some (.done false)
          else
           some (.done false)
         else
          some (.done false)
        else
         some (.done false)
       else
        some (.done false)
      else
       some (.done false)
     else
      some (.done false)
    else
     some (.done false)
   else
    some (.done false)
  else
   some (.done false)
def gD (N:Nat):Option Bool:=
 (kF N).bind fun r0=>
 ((gN N) 0).bind fun a1=>
 ((rR N) r0 a1).bind fun a2=>
 bif a2.2 !=0 then
  some false
 else
  bif (Int.ofNat a2.1.bracket.places.length) !=4 then
   some false
  else
   bif (Int.ofNat a2.1.bracket.wins.length) !=3 then
    some false
   else
    (aR N) (gR N) (0,a2.1.clock.now.1,a2.1.clock.now.2,a2.1.clock.field.points,a2.1.clock.certs.next_,a2.1.clock.certs.list,a2.1.clock.agenda.slots.uses,a2.1.clock.agenda.slots.used,a2.1.clock.agenda.slots.free,a2.1.clock.agenda.heap,a2.1.clock.agenda.where_,a2.1.clock.due,a2.1.bracket.places,a2.1.bracket.wins)
def c5 (N:Nat):aU:=⟨aC.nil,aE.bool,fun _=>(gD N),.pure,false⟩
theorem aI5 (N:Nat):aB tab 5 (c5 N):=aB.of aCn (cx:=(aN (aG N) [(25,(c25 N)),(26,(c26 N)),(18,(c18 N)),(11,(c11 N)),(11,(aH8 N)),(27,(c27 N)),(19,(c19 N)),(21,(c21 N)),(12,(c12 N)),(23,(c23 N)),(17,(c17 N)),(28,(c28 N))] [] [] [])) rfl (aL.make ⟨(RA N),(RC N),(aGX N),(aGZ N),(aAU N),(RP N),(aHc N),(R2 N),(R9 N),(GZ N),(SC N),(aHu N),trivial⟩ trivial trivial) (fun a=>by kernel_rfl)
end
end Go.Proofs.YtlnclppkepgdmaaGreat
