/- Plain functions for what the functions of the seat compute. Printed by a program. -/
import Derived.Test.YtogihpogmfjoiaaGreatNVm3
import Derived.Test.YtogihpogmfjoiaaGreatNAXT
import Derived.Test.YtogihpogmfjoiaaGreatNAS1
open Int renaming ofNat->aa,tdiv->af
open List renaming replicate->ac
open Nat renaming ble->ae
set_option maxRecDepth 100000
namespace Go.Proofs.YtogihpogmfjoiaaGreat
open Go.Vm
noncomputable section
def jR (N:Nat) (c0:((List Int)×(List Bool)×(List Int)×Int×Int×Int×Int×Int×Int×(List (Int×Int×Int×Int×Int))×(List Int))) (s:(Int×Int×(List (Int×Int×Int×Int×Int))×(List Int)×(List Int)×(List Bool)×(List Int)×Int×Int×Int×Int×Int)):Option (aW (Int×Int×(List (Int×Int×Int×Int×Int))×(List Int)×(List Int)×(List Bool)×(List Int)×Int×Int×Int×Int×Int) (aW (Int×(List (Int×Int×Int×Int×Int))×(List Int)×(List Int)×(List Bool)×(List Int)×Int×Int×Int×Int×Int) ((List (Int×Int×Int×Int×Int))×(List Int)))):=
 bif decide (s.2.1<(aa s.2.2.1.length)) then
  bif decide ((aA .i64 (s.2.1+1))<(aa s.2.2.1.length)) then
   (aK s.2.2.1 (aA .i64 (s.2.1+1))).bind fun a0=>
   (aK s.2.2.1 s.2.1).bind fun a1=>
   ((bV N) a0 a1).bind fun n2=>
   bif decide (n2<0) then
    (aK s.2.2.1 (aA .i64 (s.2.1+1))).bind fun a3=>
    ((bV N) a3 s.2.2.2.2.2.2.2).bind fun n4=>
    bif decide (0<=n4) then
     ((cC N) (s.2.2.2.2.1,s.2.2.2.2.2.1,s.2.2.2.2.2.2.1,s.1,s.2.2.2.2.2.2.2.1,s.2.2.2.2.2.2.2.2.1,s.2.2.2.2.2.2.2.2.2.1,s.2.2.2.2.2.2.2.2.2.2.1,s.2.2.2.2.2.2.2.2.2.2.2,s.2.2.1,s.2.2.2.1)).bind fun a5=>
     bif a5.1.length==c0.2.2.2.2.2.2.2.2.2.1.length then
      bif a5.2.length==c0.2.2.2.2.2.2.2.2.2.2.length then
       some (.done (.done a5))
      else
       none
     else
      none
    else
     (aK s.2.2.1 (aA .i64 (s.2.1+1))).bind fun a6=>
     ((cC N) (s.2.2.2.2.1,s.2.2.2.2.2.1,s.2.2.2.2.2.2.1,s.1,a6.1,a6.2.1,a6.2.2.1,a6.2.2.2.1,a6.2.2.2.2,s.2.2.1,s.2.2.2.1)).bind fun a7=>
     some (.next (aA .i64 (s.2.1+1),aA .i64 ((aA .i64 (2*(aA .i64 (s.2.1+1))))+1),a7.1,a7.2,s.2.2.2.2))
   else
    (aK s.2.2.1 s.2.1).bind fun a8=>
    ((bV N) a8 s.2.2.2.2.2.2.2).bind fun n9=>
    bif decide (0<=n9) then
     ((cC N) (s.2.2.2.2.1,s.2.2.2.2.2.1,s.2.2.2.2.2.2.1,s.1,s.2.2.2.2.2.2.2.1,s.2.2.2.2.2.2.2.2.1,s.2.2.2.2.2.2.2.2.2.1,s.2.2.2.2.2.2.2.2.2.2.1,s.2.2.2.2.2.2.2.2.2.2.2,s.2.2.1,s.2.2.2.1)).bind fun a10=>
     bif a10.1.length==c0.2.2.2.2.2.2.2.2.2.1.length then
      bif a10.2.length==c0.2.2.2.2.2.2.2.2.2.2.length then
       some (.done (.done a10))
      else
       none
     else
      none
    else
     (aK s.2.2.1 s.2.1).bind fun a11=>
     ((cC N) (s.2.2.2.2.1,s.2.2.2.2.2.1,s.2.2.2.2.2.2.1,s.1,a11.1,a11.2.1,a11.2.2.1,a11.2.2.2.1,a11.2.2.2.2,s.2.2.1,s.2.2.2.1)).bind fun a12=>
     some (.next (s.2.1,aA .i64 ((aA .i64 (2*s.2.1))+1),a12.1,a12.2,s.2.2.2.2))
  else
   (aK s.2.2.1 s.2.1).bind fun a13=>
   ((bV N) a13 s.2.2.2.2.2.2.2).bind fun n14=>
   bif decide (0<=n14) then
    ((cC N) (s.2.2.2.2.1,s.2.2.2.2.2.1,s.2.2.2.2.2.2.1,s.1,s.2.2.2.2.2.2.2.1,s.2.2.2.2.2.2.2.2.1,s.2.2.2.2.2.2.2.2.2.1,s.2.2.2.2.2.2.2.2.2.2.1,s.2.2.2.2.2.2.2.2.2.2.2,s.2.2.1,s.2.2.2.1)).bind fun a15=>
    bif a15.1.length==c0.2.2.2.2.2.2.2.2.2.1.length then
     bif a15.2.length==c0.2.2.2.2.2.2.2.2.2.2.length then
      some (.done (.done a15))
     else
      none
    else
     none
   else
    (aK s.2.2.1 s.2.1).bind fun a16=>
    ((cC N) (s.2.2.2.2.1,s.2.2.2.2.2.1,s.2.2.2.2.2.2.1,s.1,a16.1,a16.2.1,a16.2.2.1,a16.2.2.2.1,a16.2.2.2.2,s.2.2.1,s.2.2.2.1)).bind fun a17=>
    some (.next (s.2.1,aA .i64 ((aA .i64 (2*s.2.1))+1),a17.1,a17.2,s.2.2.2.2))
 else
  ((cC N) (s.2.2.2.2.1,s.2.2.2.2.2.1,s.2.2.2.2.2.2.1,s.1,s.2.2.2.2.2.2.2.1,s.2.2.2.2.2.2.2.2.1,s.2.2.2.2.2.2.2.2.2.1,s.2.2.2.2.2.2.2.2.2.2.1,s.2.2.2.2.2.2.2.2.2.2.2,s.2.2.1,s.2.2.2.1)).bind fun a18=>
  bif a18.1.length==c0.2.2.2.2.2.2.2.2.2.1.length then
   bif a18.2.length==c0.2.2.2.2.2.2.2.2.2.2.length then
    some (.done (.done a18))
   else
    none
  else
   none
def qG (N:Nat) (c0:((List Int)×(List Bool)×(List Int)×Int×Int×Int×Int×Int×Int×(List (Int×Int×Int×Int×Int))×(List Int))) (s:(Int×(List (Int×Int×Int×Int×Int))×(List Int)×(List Int)×(List Bool)×(List Int)×Int×Int×Int×Int×Int)):Option (aW (Int×(List (Int×Int×Int×Int×Int))×(List Int)×(List Int)×(List Bool)×(List Int)×Int×Int×Int×Int×Int) ((List (Int×Int×Int×Int×Int))×(List Int))):=
 bif decide (0<s.1) then
  (aK s.2.1 (aA .i64 (af (aA .i64 (s.1-1)) 2))).bind fun a0=>
  ((bV N) s.2.2.2.2.2.2 a0).bind fun n1=>
  bif decide (n1<0) then
   (aK s.2.1 (aA .i64 (af (aA .i64 (s.1-1)) 2))).bind fun a2=>
   ((cC N) (s.2.2.2.1,s.2.2.2.2.1,s.2.2.2.2.2.1,s.1,a2.1,a2.2.1,a2.2.2.1,a2.2.2.2.1,a2.2.2.2.2,s.2.1,s.2.2.1)).bind fun a3=>
   some (.next (aA .i64 (af (aA .i64 (s.1-1)) 2),a3.1,a3.2,s.2.2.2))
  else
   (aS N) ((jR N) c0) (s.1,aA .i64 ((aA .i64 (2*s.1))+1),s.2)
 else
  (aS N) ((jR N) c0) (s.1,aA .i64 ((aA .i64 (2*s.1))+1),s.2)
def iD (N:Nat) (a:((List Int)×(List Bool)×(List Int)×Int×Int×Int×Int×Int×Int×(List (Int×Int×Int×Int×Int))×(List Int))):Option ((List (Int×Int×Int×Int×Int))×(List Int)):=
 (aS N) ((qG N) a) (a.2.2.2.1,a.2.2.2.2.2.2.2.2.2.1,a.2.2.2.2.2.2.2.2.2.2,a.1,a.2.1,a.2.2.1,a.2.2.2.2.1,a.2.2.2.2.2.1,a.2.2.2.2.2.2.1,a.2.2.2.2.2.2.2.1,a.2.2.2.2.2.2.2.2.1)
def MK (N:Nat):bW:=⟨[.l [.i .i64],.l [.b],.l [.i .i64],.i,.i,.i,.i,.i,.i,.l [.i .i64,.i .i64,.i .i64,.i .i64,.i .i64],.l [.i .i64]],[.agg [.sl [.i .i64] [],.sl [.b] [],.sl [.i .i64] [],.own 0 false,.own 1 false],.int .i64 0,.agg [.int .i64 0,.int .i64 0,.int .i64 0,.int .i64 0,.int .i64 0]],[.arr [.i .i64,.i .i64,.i .i64,.i .i64,.i .i64] [],.arr [.i .i64] []],[.l [.i .i64,.i .i64,.i .i64,.i .i64,.i .i64],.l [.i .i64]],.tup [],[.arr [.i .i64,.i .i64,.i .i64,.i .i64,.i .i64] [],.arr [.i .i64] []],fun a=>(iD N) a⟩
theorem GD (N:Nat):fL tab 286 (MK N):=fL.of NU (wd:=false) (cx:=(aM (aG N) [(192,(aCu N))] [(302,(MJ N)),(302,(TI N))] [] [])) (aL.make ⟨(HV N),trivial⟩ ⟨(GC N),(P9 N),trivial⟩ trivial) (fun a=>by kernel_rfl)
def yC (N:Nat) (p0:aH) (p1:Int×Int) (p2:Int×Int):Option (aH×Int):=
 ((jO N) p0).bind fun n0=>
 ((fA N) p2).bind fun n1=>
 bif (if n1>n0 then n1 else n0) !=0 then
  some (aH.mk (aO.mk [] [] []) [] [],if n1>n0 then n1 else n0)
 else
  ((qE N) p0 p1).bind fun a2=>
  bif a2.2 !=0 then
   some (aH.mk (aO.mk [] [] []) [] [],a2.2)
  else
   (aZ p0.heap).bind fun l3=>
   (aZ p0.where_).bind fun l4=>
   (aK l3 a2.1).bind fun a5=>
   ((iD N) (p0.slots.uses,p0.slots.used,p0.slots.free,a2.1,p2.1,p2.2,a5.2.2.1,a5.2.2.2.1,a5.2.2.2.2,l3,l4)).bind fun a6=>
   some (aH.mk p0.slots a6.1 a6.2,0)
def aKv (N:Nat):aU:=⟨aC.cons (aE.agg bY) (aC.cons (aE.agg (bJ.row fG)) (aC.one (aE.agg (bJ.row fG)))),aE.tup (aC.cons (aE.agg bY) (aC.one (aE.int .i64))),fun a=>(yC N) a.1 a.2.1 a.2.2,.frz,false⟩
theorem aC3 (N:Nat):aB tab 255 (aKv N):=aB.of aBi (cx:=(aM (aG N) [(139,(S6 N)),(121,(J7 N)),(280,(aIJ N)),(220,aU.clone gM),(40,aU.clone ki)] [(286,(IB N)),(286,(MK N))] [(285,PY)] [])) rfl (aL.make ⟨(BM N),(pX N),(ON N),mE,hO,trivial⟩ ⟨(zU N),(GD N),trivial⟩ ⟨HJ,trivial⟩) (fun a=>by kernel_rfl)
def uX (_:Nat) (p0:Int×Int×Int×Int×Int) (p1:Int):Option Bool:=
 some (p0.2.2.1==p1)
def aKw (N:Nat):aU:=⟨aC.cons (aE.agg (bJ.row gM)) (aC.one (aE.ref (bJ.int .i64))),aE.bool,fun a=>(uX N) a.1 a.2,.pure,false⟩
theorem aC4 (N:Nat):aB tab 288 (aKw N):=aB.of NV (cx:=(aM (aG N) [] [] [] [])) rfl (aL.make trivial trivial trivial) (fun a=>by kernel_rfl)
def gN (N:Nat) (s:((List (Int×Int×Int×Int×Int))×Int×Int×Int)):Option (aW ((List (Int×Int×Int×Int×Int))×Int×Int×Int) Int):=
 bif decide (s.2.2.2<s.2.2.1) then
  (aK s.1 s.2.2.2).bind fun a0=>
  ((uX N) a0 s.2.1).bind fun b1=>
  bif b1 then
   some (.done s.2.2.2)
  else
   some (.next (s.1,s.2.1,s.2.2.1,aA .i64 (s.2.2.2+1)))
 else
  some (.done (-1))
def dW (N:Nat) (p0:List (Int×Int×Int×Int×Int)) (p1:Int):Option Int:=
 (aS N) (gN N) (p0,p1,aa p0.length,0)
def KO (N:Nat):aU:=⟨aC.cons (aE.sl gM) (aC.one (aE.clo 288 (aC.one (aE.ref (bJ.int .i64))))),aE.int .i64,fun a=>(dW N) a.1 a.2,.pure,false⟩
theorem KP (N:Nat):aB tab 303 (KO N):=aB.of aBK (cx:=(aM (aG N) [(288,(aKw N))] [] [(288,YT)] [])) rfl (aL.make ⟨(aC4 N),trivial⟩ trivial ⟨NV,trivial⟩) (fun a=>by kernel_rfl)
def dJ (N:Nat) (p0:List (Int×Int×Int×Int×Int)) (p1:Int):Option Bool:=
 ((dW N) p0 p1).bind fun n0=>
 some (decide (0<=n0))
def KQ (N:Nat):aU:=⟨aC.cons (aE.sl gM) (aC.one (aE.clo 288 (aC.one (aE.ref (bJ.int .i64))))),aE.bool,fun a=>(dJ N) a.1 a.2,.pure,false⟩
theorem KR (N:Nat):aB tab 287 (KQ N):=aB.of aBA (cx:=(aM (aG N) [(303,(KO N))] [] [] [])) rfl (aL.make ⟨(KP N),trivial⟩ trivial trivial) (fun a=>by kernel_rfl)
def sO (_:Nat) (p0:List Int):Option ((List Int)×Int):=
 (fF p0 0 (aA .i64 ((aa p0.length) -1))).bind fun l0=>
 (aZ l0).bind fun l1=>
 (aK p0 (aA .i64 ((aa p0.length) -1))).bind fun n2=>
 some (l1,n2)
def aKx (N:Nat):aU:=⟨aC.one (aE.sl ki),aE.tup (aC.cons (aE.sl ki) (aC.one (aE.int .i64))),fun a=>(sO N) a,.frz,false⟩
theorem aC5 (N:Nat):aB tab 304 (aKx N):=aB.of aBL (cx:=(aM (aG N) [(308,aU.clone ki)] [] [] [])) rfl (aL.make ⟨J0,trivial⟩ trivial trivial) (fun a=>by kernel_rfl)
def GE (N:Nat) (p0:aO):Option (aO×(Int×Int)×Int):=
 ((pZ N) p0).bind fun n0=>
 bif n0 !=0 then
  some (aO.mk [] [] [],(0,0),n0)
 else
  bif (aa p0.free.length)==0 then
   some (aO.mk [] [] [],(0,0),18)
  else
   ((sO N) p0.free).bind fun a1=>
   (aK p0.uses a1.2).bind fun n2=>
   bif n2==1000000 then
    some (aO.mk [] [] [],(0,0),18)
   else
    (aZ p0.uses).bind fun l3=>
    (aZ p0.used).bind fun l4=>
    (aK l4 a1.2).bind fun _=>
    (aK l3 a1.2).bind fun n6=>
    (aK l3 a1.2).bind fun _=>
    (aK (bO l3 a1.2 (aA .i64 (n6+1))) a1.2).bind fun n8=>
    some (aO.mk (bO l3 a1.2 (aA .i64 (n6+1))) (bO l4 a1.2 true) a1.1,(a1.2,n8),0)
def aKy (N:Nat):aU:=⟨aC.one (aE.agg eG),aE.tup (aC.cons (aE.agg eG) (aC.cons (aE.agg (bJ.row fG)) (aC.one (aE.int .i64)))),fun a=>(GE N) a,.frz,false⟩
theorem aC6 (N:Nat):aB tab 289 (aKy N):=aB.of aBB (cx:=(aM (aG N) [(191,(aCk N)),(304,(aKx N)),(40,aU.clone ki),(221,aU.clone kb)] [] [(305,SG)] [])) rfl (aL.make ⟨(HT N),(aC5 N),hO,mD,trivial⟩ trivial ⟨NY,trivial⟩) (fun a=>by kernel_rfl)
def nJ (N:Nat) (p0:aH) (p1:Int×Int) (p2:Int):Option (aH×(Int×Int)×Int):=
 ((jO N) p0).bind fun n0=>
 ((fA N) p1).bind fun n1=>
 bif (if n1>n0 then n1 else n0) !=0 then
  some (aH.mk (aO.mk [] [] []) [] [],(0,0),if n1>n0 then n1 else n0)
 else
  bif decide (p2<0) then
   some (aH.mk (aO.mk [] [] []) [] [],(0,0),2)
  else
   bif decide (1000000<p2) then
    some (aH.mk (aO.mk [] [] []) [] [],(0,0),2)
   else
    ((dJ N) p0.heap p2).bind fun b2=>
    bif b2 then
     some (aH.mk (aO.mk [] [] []) [] [],(0,0),14)
    else
     ((GE N) p0.slots).bind fun a3=>
     bif a3.2.2 !=0 then
      some (aH.mk (aO.mk [] [] []) [] [],(0,0),a3.2.2)
     else
      (aZ p0.heap).bind fun l4=>
      (aZ p0.where_).bind fun l5=>
      (bD l4 [(p1.1,p1.2,p2,a3.2.1)]).bind fun l6=>
      ((iD N) (a3.1.uses,a3.1.used,a3.1.free,aA .i64 ((aa l6.length) -1),p1.1,p1.2,p2,a3.2.1.1,a3.2.1.2,l6,l5)).bind fun a7=>
      some (aH.mk a3.1 a7.1 a7.2,a3.2.1,0)
def aIL (N:Nat):aU:=⟨aC.cons (aE.agg bY) (aC.cons (aE.agg (bJ.row fG)) (aC.one (aE.int .i64))),aE.tup (aC.cons (aE.agg bY) (aC.cons (aE.agg (bJ.row fG)) (aC.one (aE.int .i64)))),fun a=>(nJ N) a.1 a.2.1 a.2.2,.frz,false⟩
theorem OP (N:Nat):aB tab 256 (aIL N):=aB.of aBj (cx:=(aM (aG N) [(139,(S6 N)),(121,(J7 N)),(287,(KQ N)),(289,(aKy N)),(220,aU.clone gM),(40,aU.clone ki)] [(286,(IB N)),(286,(MK N))] [(285,PY)] [])) rfl (aL.make ⟨(BM N),(pX N),(KR N),(aC6 N),mE,hO,trivial⟩ ⟨(zU N),(GD N),trivial⟩ ⟨HJ,trivial⟩) (fun a=>by kernel_rfl)
def EA (N:Nat) (s:((List (Int×Int×Int))×Int×Int×Int×Int×(List (Int×Int×Int))×Int×(List (Int×Int×Int))×(List Int)×(List Bool)×(List Int)×(List (Int×Int×Int×Int×Int))×(List Int)×(List (Int×Int×Int))×(List (Int×Int×Int))×Int×Int×Int×Int×Int×Int×(List (Int×Int×Int))×(List Int)×(List Bool)×(List Int)×(List (Int×Int×Int×Int×Int))×(List Int)×(List (Int×Int×Int))×(List (Int×Int×Int)))):Option (aW ((List (Int×Int×Int))×Int×Int×Int×Int×(List (Int×Int×Int))×Int×(List (Int×Int×Int))×(List Int)×(List Bool)×(List Int)×(List (Int×Int×Int×Int×Int))×(List Int)×(List (Int×Int×Int))×(List (Int×Int×Int))×Int×Int×Int×Int×Int×Int×(List (Int×Int×Int))×(List Int)×(List Bool)×(List Int)×(List (Int×Int×Int×Int×Int))×(List Int)×(List (Int×Int×Int))×(List (Int×Int×Int))) (aW ((List (Int×Int×Int))×Int×Int×Int×Int×(List (Int×Int×Int))×Int×(List (Int×Int×Int))×(List Int)×(List Bool)×(List Int)×(List (Int×Int×Int×Int×Int))×(List Int)×(List (Int×Int×Int))×(List (Int×Int×Int))×Int×Int×Int) (aJ×Int))):=
 bif decide (s.2.2.1<s.2.1) then
  (aK s.1 s.2.2.1).bind fun a0=>
  ((qC N) (Field.mk s.2.2.2.2.2.2.2.2.2.2.2.2.2.2.1) a0.2 (s.2.2.2.1,s.2.2.2.2.1)).bind fun a1=>
  ((sN N) s.2.2.2.2.2.2.2.2.2.2.2.2.2.1 a0.1).bind fun a2=>
  bif a1.2.1 then
   bif a2.2 then
    (aK s.2.2.2.2.2.2.2.2.2.2.2.2.2.1 a2.1).bind fun a3=>
    ((yC N) (aH.mk (aO.mk s.2.2.2.2.2.2.2.2.2.2.2.2.2.2.2.2.2.2.2.2.2.2.1 s.2.2.2.2.2.2.2.2.2.2.2.2.2.2.2.2.2.2.2.2.2.2.2.1 s.2.2.2.2.2.2.2.2.2.2.2.2.2.2.2.2.2.2.2.2.2.2.2.2.1) s.2.2.2.2.2.2.2.2.2.2.2.2.2.2.2.2.2.2.2.2.2.2.2.2.2.1 s.2.2.2.2.2.2.2.2.2.2.2.2.2.2.2.2.2.2.2.2.2.2.2.2.2.2.1) a3.2 a1.1).bind fun a4=>
    (aK s.2.2.2.2.2.2.2.2.2.2.2.2.2.1 a2.1).bind fun a5=>
    (bD s.2.2.2.2.2.2.2.2.2.2.2.2.2.2.2.2.2.2.2.2.2.2.2.2.2.2.2.2 [a5]).bind fun l6=>
    bif a4.2 !=0 then
     some (.done (.done (aJ.mk (0,0) (Field.mk []) (aQ.mk 0 []) (aH.mk (aO.mk [] [] []) [] []) [],a4.2)))
    else
     some (.next (s.1,s.2.1,aA .i64 (s.2.2.1+1),s.2.2.2.1,s.2.2.2.2.1,s.2.2.2.2.2.1,s.2.2.2.2.2.2.1,s.2.2.2.2.2.2.2.1,s.2.2.2.2.2.2.2.2.1,s.2.2.2.2.2.2.2.2.2.1,s.2.2.2.2.2.2.2.2.2.2.1,s.2.2.2.2.2.2.2.2.2.2.2.1,s.2.2.2.2.2.2.2.2.2.2.2.2.1,s.2.2.2.2.2.2.2.2.2.2.2.2.2.1,s.2.2.2.2.2.2.2.2.2.2.2.2.2.2.1,s.2.2.2.2.2.2.2.2.2.2.2.2.2.2.2.1,s.2.2.2.2.2.2.2.2.2.2.2.2.2.2.2.2.1,s.2.2.2.2.2.2.2.2.2.2.2.2.2.2.2.2.2.1,s.2.2.2.2.2.2.2.2.2.2.2.2.2.2.2.2.2.2.1,s.2.2.2.2.2.2.2.2.2.2.2.2.2.2.2.2.2.2.2.1,s.2.2.2.2.2.2.2.2.2.2.2.2.2.2.2.2.2.2.2.2.1,s.2.2.2.2.2.2.2.2.2.2.2.2.2.2.2.2.2.2.2.2.2.1,a4.1.slots.uses,a4.1.slots.used,a4.1.slots.free,a4.1.heap,a4.1.where_,s.2.2.2.2.2.2.2.2.2.2.2.2.2.2.2.2.2.2.2.2.2.2.2.2.2.2.2.1,l6))
   else
    bif a1.2.1 then
     ((nJ N) (aH.mk (aO.mk s.2.2.2.2.2.2.2.2.2.2.2.2.2.2.2.2.2.2.2.2.2.2.1 s.2.2.2.2.2.2.2.2.2.2.2.2.2.2.2.2.2.2.2.2.2.2.2.1 s.2.2.2.2.2.2.2.2.2.2.2.2.2.2.2.2.2.2.2.2.2.2.2.2.1) s.2.2.2.2.2.2.2.2.2.2.2.2.2.2.2.2.2.2.2.2.2.2.2.2.2.1 s.2.2.2.2.2.2.2.2.2.2.2.2.2.2.2.2.2.2.2.2.2.2.2.2.2.2.1) a1.1 a0.1).bind fun a7=>
     (bD s.2.2.2.2.2.2.2.2.2.2.2.2.2.2.2.2.2.2.2.2.2.2.2.2.2.2.2.2 [(a0.1,a7.2.1)]).bind fun l8=>
     bif a7.2.2 !=0 then
      some (.done (.done (aJ.mk (0,0) (Field.mk []) (aQ.mk 0 []) (aH.mk (aO.mk [] [] []) [] []) [],a7.2.2)))
     else
      some (.next (s.1,s.2.1,aA .i64 (s.2.2.1+1),s.2.2.2.1,s.2.2.2.2.1,s.2.2.2.2.2.1,s.2.2.2.2.2.2.1,s.2.2.2.2.2.2.2.1,s.2.2.2.2.2.2.2.2.1,s.2.2.2.2.2.2.2.2.2.1,s.2.2.2.2.2.2.2.2.2.2.1,s.2.2.2.2.2.2.2.2.2.2.2.1,s.2.2.2.2.2.2.2.2.2.2.2.2.1,s.2.2.2.2.2.2.2.2.2.2.2.2.2.1,s.2.2.2.2.2.2.2.2.2.2.2.2.2.2.1,s.2.2.2.2.2.2.2.2.2.2.2.2.2.2.2.1,s.2.2.2.2.2.2.2.2.2.2.2.2.2.2.2.2.1,s.2.2.2.2.2.2.2.2.2.2.2.2.2.2.2.2.2.1,s.2.2.2.2.2.2.2.2.2.2.2.2.2.2.2.2.2.2.1,s.2.2.2.2.2.2.2.2.2.2.2.2.2.2.2.2.2.2.2.1,s.2.2.2.2.2.2.2.2.2.2.2.2.2.2.2.2.2.2.2.2.1,s.2.2.2.2.2.2.2.2.2.2.2.2.2.2.2.2.2.2.2.2.2.1,a7.1.slots.uses,a7.1.slots.used,a7.1.slots.free,a7.1.heap,a7.1.where_,s.2.2.2.2.2.2.2.2.2.2.2.2.2.2.2.2.2.2.2.2.2.2.2.2.2.2.2.1,l8))
    else
     bif a2.2 then
      (aK s.2.2.2.2.2.2.2.2.2.2.2.2.2.1 a2.1).bind fun a9=>
      ((kN N) (aH.mk (aO.mk s.2.2.2.2.2.2.2.2.2.2.2.2.2.2.2.2.2.2.2.2.2.2.1 s.2.2.2.2.2.2.2.2.2.2.2.2.2.2.2.2.2.2.2.2.2.2.2.1 s.2.2.2.2.2.2.2.2.2.2.2.2.2.2.2.2.2.2.2.2.2.2.2.2.1) s.2.2.2.2.2.2.2.2.2.2.2.2.2.2.2.2.2.2.2.2.2.2.2.2.2.1 s.2.2.2.2.2.2.2.2.2.2.2.2.2.2.2.2.2.2.2.2.2.2.2.2.2.2.1) a9.2).bind fun a10=>
      bif a10.2.2 !=0 then
       some (.done (.done (aJ.mk (0,0) (Field.mk []) (aQ.mk 0 []) (aH.mk (aO.mk [] [] []) [] []) [],a10.2.2)))
      else
       some (.next (s.1,s.2.1,aA .i64 (s.2.2.1+1),s.2.2.2.1,s.2.2.2.2.1,s.2.2.2.2.2.1,s.2.2.2.2.2.2.1,s.2.2.2.2.2.2.2.1,s.2.2.2.2.2.2.2.2.1,s.2.2.2.2.2.2.2.2.2.1,s.2.2.2.2.2.2.2.2.2.2.1,s.2.2.2.2.2.2.2.2.2.2.2.1,s.2.2.2.2.2.2.2.2.2.2.2.2.1,s.2.2.2.2.2.2.2.2.2.2.2.2.2.1,s.2.2.2.2.2.2.2.2.2.2.2.2.2.2.1,s.2.2.2.2.2.2.2.2.2.2.2.2.2.2.2.1,s.2.2.2.2.2.2.2.2.2.2.2.2.2.2.2.2.1,s.2.2.2.2.2.2.2.2.2.2.2.2.2.2.2.2.2.1,s.2.2.2.2.2.2.2.2.2.2.2.2.2.2.2.2.2.2.1,s.2.2.2.2.2.2.2.2.2.2.2.2.2.2.2.2.2.2.2.1,s.2.2.2.2.2.2.2.2.2.2.2.2.2.2.2.2.2.2.2.2.1,s.2.2.2.2.2.2.2.2.2.2.2.2.2.2.2.2.2.2.2.2.2.1,a10.1.slots.uses,a10.1.slots.used,a10.1.slots.free,a10.1.heap,a10.1.where_,s.2.2.2.2.2.2.2.2.2.2.2.2.2.2.2.2.2.2.2.2.2.2.2.2.2.2.2))
     else
      bif a1.2.2 !=0 then
       some (.done (.done (aJ.mk (0,0) (Field.mk []) (aQ.mk 0 []) (aH.mk (aO.mk [] [] []) [] []) [],a1.2.2)))
      else
       some (.next (s.1,s.2.1,aA .i64 (s.2.2.1+1),s.2.2.2))
  else
   bif a1.2.1 then
    ((nJ N) (aH.mk (aO.mk s.2.2.2.2.2.2.2.2.2.2.2.2.2.2.2.2.2.2.2.2.2.2.1 s.2.2.2.2.2.2.2.2.2.2.2.2.2.2.2.2.2.2.2.2.2.2.2.1 s.2.2.2.2.2.2.2.2.2.2.2.2.2.2.2.2.2.2.2.2.2.2.2.2.1) s.2.2.2.2.2.2.2.2.2.2.2.2.2.2.2.2.2.2.2.2.2.2.2.2.2.1 s.2.2.2.2.2.2.2.2.2.2.2.2.2.2.2.2.2.2.2.2.2.2.2.2.2.2.1) a1.1 a0.1).bind fun a11=>
    (bD s.2.2.2.2.2.2.2.2.2.2.2.2.2.2.2.2.2.2.2.2.2.2.2.2.2.2.2.2 [(a0.1,a11.2.1)]).bind fun l12=>
    bif a11.2.2 !=0 then
     some (.done (.done (aJ.mk (0,0) (Field.mk []) (aQ.mk 0 []) (aH.mk (aO.mk [] [] []) [] []) [],a11.2.2)))
    else
     some (.next (s.1,s.2.1,aA .i64 (s.2.2.1+1),s.2.2.2.1,s.2.2.2.2.1,s.2.2.2.2.2.1,s.2.2.2.2.2.2.1,s.2.2.2.2.2.2.2.1,s.2.2.2.2.2.2.2.2.1,s.2.2.2.2.2.2.2.2.2.1,s.2.2.2.2.2.2.2.2.2.2.1,s.2.2.2.2.2.2.2.2.2.2.2.1,s.2.2.2.2.2.2.2.2.2.2.2.2.1,s.2.2.2.2.2.2.2.2.2.2.2.2.2.1,s.2.2.2.2.2.2.2.2.2.2.2.2.2.2.1,s.2.2.2.2.2.2.2.2.2.2.2.2.2.2.2.1,s.2.2.2.2.2.2.2.2.2.2.2.2.2.2.2.2.1,s.2.2.2.2.2.2.2.2.2.2.2.2.2.2.2.2.2.1,s.2.2.2.2.2.2.2.2.2.2.2.2.2.2.2.2.2.2.1,s.2.2.2.2.2.2.2.2.2.2.2.2.2.2.2.2.2.2.2.1,s.2.2.2.2.2.2.2.2.2.2.2.2.2.2.2.2.2.2.2.2.1,s.2.2.2.2.2.2.2.2.2.2.2.2.2.2.2.2.2.2.2.2.2.1,a11.1.slots.uses,a11.1.slots.used,a11.1.slots.free,a11.1.heap,a11.1.where_,s.2.2.2.2.2.2.2.2.2.2.2.2.2.2.2.2.2.2.2.2.2.2.2.2.2.2.2.1,l12))
   else
    bif a2.2 then
     (aK s.2.2.2.2.2.2.2.2.2.2.2.2.2.1 a2.1).bind fun a13=>
     ((kN N) (aH.mk (aO.mk s.2.2.2.2.2.2.2.2.2.2.2.2.2.2.2.2.2.2.2.2.2.2.1 s.2.2.2.2.2.2.2.2.2.2.2.2.2.2.2.2.2.2.2.2.2.2.2.1 s.2.2.2.2.2.2.2.2.2.2.2.2.2.2.2.2.2.2.2.2.2.2.2.2.1) s.2.2.2.2.2.2.2.2.2.2.2.2.2.2.2.2.2.2.2.2.2.2.2.2.2.1 s.2.2.2.2.2.2.2.2.2.2.2.2.2.2.2.2.2.2.2.2.2.2.2.2.2.2.1) a13.2).bind fun a14=>
     bif a14.2.2 !=0 then
      some (.done (.done (aJ.mk (0,0) (Field.mk []) (aQ.mk 0 []) (aH.mk (aO.mk [] [] []) [] []) [],a14.2.2)))
     else
      some (.next (s.1,s.2.1,aA .i64 (s.2.2.1+1),s.2.2.2.1,s.2.2.2.2.1,s.2.2.2.2.2.1,s.2.2.2.2.2.2.1,s.2.2.2.2.2.2.2.1,s.2.2.2.2.2.2.2.2.1,s.2.2.2.2.2.2.2.2.2.1,s.2.2.2.2.2.2.2.2.2.2.1,s.2.2.2.2.2.2.2.2.2.2.2.1,s.2.2.2.2.2.2.2.2.2.2.2.2.1,s.2.2.2.2.2.2.2.2.2.2.2.2.2.1,s.2.2.2.2.2.2.2.2.2.2.2.2.2.2.1,s.2.2.2.2.2.2.2.2.2.2.2.2.2.2.2.1,s.2.2.2.2.2.2.2.2.2.2.2.2.2.2.2.2.1,s.2.2.2.2.2.2.2.2.2.2.2.2.2.2.2.2.2.1,s.2.2.2.2.2.2.2.2.2.2.2.2.2.2.2.2.2.2.1,s.2.2.2.2.2.2.2.2.2.2.2.2.2.2.2.2.2.2.2.1,s.2.2.2.2.2.2.2.2.2.2.2.2.2.2.2.2.2.2.2.2.1,s.2.2.2.2.2.2.2.2.2.2.2.2.2.2.2.2.2.2.2.2.2.1,a14.1.slots.uses,a14.1.slots.used,a14.1.slots.free,a14.1.heap,a14.1.where_,s.2.2.2.2.2.2.2.2.2.2.2.2.2.2.2.2.2.2.2.2.2.2.2.2.2.2.2))
    else
     bif a1.2.2 !=0 then
      some (.done (.done (aJ.mk (0,0) (Field.mk []) (aQ.mk 0 []) (aH.mk (aO.mk [] [] []) [] []) [],a1.2.2)))
     else
      some (.next (s.1,s.2.1,aA .i64 (s.2.2.1+1),s.2.2.2))
 else
  some (.done (.done (aJ.mk (s.2.2.2.2.2.2.2.2.2.2.2.2.2.2.2.2.2.2.1,s.2.2.2.2.2.2.2.2.2.2.2.2.2.2.2.2.2.2.2.1) (Field.mk s.2.2.2.2.2.2.2.2.2.2.2.2.2.2.2.2.2.2.2.2.2.2.2.2.2.2.2.1) (aQ.mk s.2.2.2.2.2.2.2.2.2.2.2.2.2.2.2.2.2.2.2.2.1 s.2.2.2.2.2.2.2.2.2.2.2.2.2.2.2.2.2.2.2.2.2.1) (aH.mk (aO.mk s.2.2.2.2.2.2.2.2.2.2.2.2.2.2.2.2.2.2.2.2.2.2.1 s.2.2.2.2.2.2.2.2.2.2.2.2.2.2.2.2.2.2.2.2.2.2.2.1 s.2.2.2.2.2.2.2.2.2.2.2.2.2.2.2.2.2.2.2.2.2.2.2.2.1) s.2.2.2.2.2.2.2.2.2.2.2.2.2.2.2.2.2.2.2.2.2.2.2.2.2.1 s.2.2.2.2.2.2.2.2.2.2.2.2.2.2.2.2.2.2.2.2.2.2.2.2.2.2.1) s.2.2.2.2.2.2.2.2.2.2.2.2.2.2.2.2.2.2.2.2.2.2.2.2.2.2.2.2,0)))
def EB (N:Nat) (s:((List (Int×Int×Int))×Int×Int×Int×Int×(List (Int×Int×Int))×Int×(List (Int×Int×Int))×(List Int)×(List Bool)×(List Int)×(List (Int×Int×Int×Int×Int))×(List Int)×(List (Int×Int×Int))×(List (Int×Int×Int))×Int×Int×Int)):Option (aW ((List (Int×Int×Int))×Int×Int×Int×Int×(List (Int×Int×Int))×Int×(List (Int×Int×Int))×(List Int)×(List Bool)×(List Int)×(List (Int×Int×Int×Int×Int))×(List Int)×(List (Int×Int×Int))×(List (Int×Int×Int))×Int×Int×Int) (aJ×Int)):=
 bif decide (s.2.2.1<s.2.1) then
  (aK s.1 s.2.2.1).bind fun a0=>
  ((gY N) (Field.mk s.2.2.2.2.2.2.2.2.2.2.2.2.2.2.1) a0.2.1).bind fun a1=>
  bif decide (a1.1<0) then
   some (.done (aJ.mk (0,0) (Field.mk []) (aQ.mk 0 []) (aH.mk (aO.mk [] [] []) [] []) [],6))
  else
   ((gY N) (Field.mk s.2.2.2.2.2.2.2.2.2.2.2.2.2.2.1) a0.2.2).bind fun a2=>
   bif decide (a2.1<0) then
    some (.done (aJ.mk (0,0) (Field.mk []) (aQ.mk 0 []) (aH.mk (aO.mk [] [] []) [] []) [],6))
   else
    some (.next (s.1,s.2.1,aA .i64 (s.2.2.1+1),s.2.2.2))
 else
  ((mN N) (aJ.mk (s.2.2.2.1,s.2.2.2.2.1) (Field.mk s.2.2.2.2.2.1) (aQ.mk s.2.2.2.2.2.2.1 s.2.2.2.2.2.2.2.1) (aH.mk (aO.mk s.2.2.2.2.2.2.2.2.1 s.2.2.2.2.2.2.2.2.2.1 s.2.2.2.2.2.2.2.2.2.2.1) s.2.2.2.2.2.2.2.2.2.2.2.1 s.2.2.2.2.2.2.2.2.2.2.2.2.1) s.2.2.2.2.2.2.2.2.2.2.2.2.2.1)).bind fun r3=>
  (aZ s.2.2.2.2.2.2.2.2.2.2.2.2.2.2.1).bind fun l4=>
  (aS N) (EA N) (s.2.2.2.2.2.2.2.1,aa s.2.2.2.2.2.2.2.1.length,0,s.2.2.2.1,s.2.2.2.2.1,s.2.2.2.2.2.1,s.2.2.2.2.2.2.1,s.2.2.2.2.2.2.2.1,s.2.2.2.2.2.2.2.2.1,s.2.2.2.2.2.2.2.2.2.1,s.2.2.2.2.2.2.2.2.2.2.1,s.2.2.2.2.2.2.2.2.2.2.2.1,s.2.2.2.2.2.2.2.2.2.2.2.2.1,s.2.2.2.2.2.2.2.2.2.2.2.2.2.1,s.2.2.2.2.2.2.2.2.2.2.2.2.2.2.1,s.2.2.2.2.2.2.2.2.2.2.2.2.2.2.2.1,s.2.2.2.2.2.2.2.2.2.2.2.2.2.2.2.2.1,s.2.2.2.2.2.2.2.2.2.2.2.2.2.2.2.2.2,r3.now.1,r3.now.2,r3.certs.next_,r3.certs.list,r3.agenda.slots.uses,r3.agenda.slots.used,r3.agenda.slots.free,r3.agenda.heap,r3.agenda.where_,l4,[])
def A0 (N:Nat) (p0:aJ) (p1:Field):Option (aJ×Int):=
 ((jE N) p0).bind fun n0=>
 bif n0 !=0 then
  some (aJ.mk (0,0) (Field.mk []) (aQ.mk 0 []) (aH.mk (aO.mk [] [] []) [] []) [],n0)
 else
  ((gC N) p1).bind fun n1=>
  bif n1 !=0 then
   some (aJ.mk (0,0) (Field.mk []) (aQ.mk 0 []) (aH.mk (aO.mk [] [] []) [] []) [],n1)
  else
   (aS N) (EB N) (p0.certs.list,aa p0.certs.list.length,0,p0.now.1,p0.now.2,p0.field.points,p0.certs.next_,p0.certs.list,p0.agenda.slots.uses,p0.agenda.slots.used,p0.agenda.slots.free,p0.agenda.heap,p0.agenda.where_,p0.due,p1.points,0,0,0)
def aKz (N:Nat):aU:=⟨aC.cons (aE.agg bE) (aC.one (aE.agg bF)),aE.tup (aC.cons (aE.agg bE) (aC.one (aE.int .i64))),fun a=>(A0 N) a.1 a.2,.frz,false⟩
theorem aC7 (N:Nat):aB tab 215 (aKz N):=aB.of aAO (cx:=(aM (aG N) [(86,(c86 N)),(71,(c71 N)),(194,(aCw N)),(189,(aCV N)),(189,(OK N)),(75,aU.clone bX),(140,(aCD N)),(241,(aIH N)),(255,(aKv N)),(256,(aIL N)),(242,(aIK N))] [] [] [])) rfl (aL.make ⟨(D2 N),(wA N),(HW N),(IA N),(D7 N),nE,(HY N),(OL N),(aC3 N),(OP N),(OO N),trivial⟩ trivial trivial) (fun a=>by kernel_rfl)
def uY (_:Nat) (p0:Int×Int×Int) (p1:Int×Int):Option Bool:=
 some ((p0.2.1==p1.1)&&(p0.2.2==p1.2))
def aKA (N:Nat):aU:=⟨aC.cons (aE.agg (bJ.row bX)) (aC.one (aE.ref (bJ.row fG))),aE.bool,fun a=>(uY N) a.1 a.2,.pure,false⟩
theorem aC8 (N:Nat):aB tab 216 (aKA N):=aB.of NS (cx:=(aM (aG N) [] [] [] [])) rfl (aL.make trivial trivial trivial) (fun a=>by kernel_rfl)
def gS (N:Nat) (s:((List (Int×Int×Int))×Int×Int×Int×Int)):Option (aW ((List (Int×Int×Int))×Int×Int×Int×Int) Int):=
 bif decide (s.2.2.2.2<s.2.2.2.1) then
  (aK s.1 s.2.2.2.2).bind fun a0=>
  ((uY N) a0 (s.2.1,s.2.2.1)).bind fun b1=>
  bif b1 then
   some (.done s.2.2.2.2)
  else
   some (.next (s.1,s.2.1,s.2.2.1,s.2.2.2.1,aA .i64 (s.2.2.2.2+1)))
 else
  some (.done (-1))
def eC (N:Nat) (p0:List (Int×Int×Int)) (p1:(Int×Int)):Option Int:=
 (aS N) (gS N) (p0,p1.1,p1.2,aa p0.length,0)
def KS (N:Nat):aU:=⟨aC.cons (aE.sl bX) (aC.one (aE.clo 216 (aC.one (aE.ref (bJ.row fG))))),aE.int .i64,fun a=>(eC N) a.1 a.2,.pure,false⟩
theorem KT (N:Nat):aB tab 210 (KS N):=aB.of HG (cx:=(aM (aG N) [(216,(aKA N))] [] [(216,XC)] [])) rfl (aL.make ⟨(aC8 N),trivial⟩ trivial ⟨NS,trivial⟩) (fun a=>by kernel_rfl)
def dN (N:Nat) (p0:List (Int×Int×Int)) (p1:(Int×Int)):Option Bool:=
 ((eC N) p0 p1).bind fun n0=>
 some (decide (0<=n0))
def KU (N:Nat):aU:=⟨aC.cons (aE.sl bX) (aC.one (aE.clo 216 (aC.one (aE.ref (bJ.row fG))))),aE.bool,fun a=>(dN N) a.1 a.2,.pure,false⟩
theorem KV (N:Nat):aB tab 149 (KU N):=aB.of HE (cx:=(aM (aG N) [(210,(KS N))] [] [] [])) rfl (aL.make ⟨(KT N),trivial⟩ trivial trivial) (fun a=>by kernel_rfl)
def dH (_:Nat) (p0:Int):Option (aJ×Int×Int):=
 some (aJ.mk (0,0) (Field.mk []) (aQ.mk 0 []) (aH.mk (aO.mk [] [] []) [] []) [],0,p0)
def aKB (N:Nat):aU:=⟨aC.one (aE.int .i64),aE.tup (aC.cons (aE.agg bE) (aC.cons (aE.int .i64) (aC.one (aE.int .i64)))),fun a=>(dH N) a,.frz,false⟩
theorem aC9 (N:Nat):aB tab 257 (aKB N):=aB.of aBk (cx:=(aM (aG N) [] [] [] [])) rfl (aL.make trivial trivial trivial) (fun a=>by kernel_rfl)
def EC (_:Nat) (p0:Int×Int×Int) (p1:Int×Int):Option Bool:=
 some ((p0.2.1==p1.1)&&(p0.2.2==p1.2))
def aKC (N:Nat):aU:=⟨aC.cons (aE.agg (bJ.row bX)) (aC.one (aE.ref (bJ.row fG))),aE.bool,fun a=>(EC N) a.1 a.2,.pure,false⟩
theorem aDa (N:Nat):aB tab 290 (aKC N):=aB.of NW (cx:=(aM (aG N) [] [] [] [])) rfl (aL.make trivial trivial trivial) (fun a=>by kernel_rfl)
def iE (N:Nat) (s:((List (Int×Int×Int))×Int×Int×Int×Int)):Option (aW ((List (Int×Int×Int))×Int×Int×Int×Int) Int):=
 bif decide (s.2.2.2.2<s.2.2.2.1) then
  (aK s.1 s.2.2.2.2).bind fun a0=>
  ((EC N) a0 (s.2.1,s.2.2.1)).bind fun b1=>
  bif b1 then
   some (.done s.2.2.2.2)
  else
   some (.next (s.1,s.2.1,s.2.2.1,s.2.2.2.1,aA .i64 (s.2.2.2.2+1)))
 else
  some (.done (-1))
def eS (N:Nat) (p0:List (Int×Int×Int)) (p1:(Int×Int)):Option Int:=
 (aS N) (iE N) (p0,p1.1,p1.2,aa p0.length,0)
def KW (N:Nat):aU:=⟨aC.cons (aE.sl bX) (aC.one (aE.clo 290 (aC.one (aE.ref (bJ.row fG))))),aE.int .i64,fun a=>(eS N) a.1 a.2,.pure,false⟩
theorem KX (N:Nat):aB tab 210 (KW N):=aB.of HG (cx:=(aM (aG N) [(290,(aKC N))] [] [(290,YW)] [])) rfl (aL.make ⟨(aDa N),trivial⟩ trivial ⟨NW,trivial⟩) (fun a=>by kernel_rfl)
def eD (N:Nat) (p0:List (Int×Int×Int)) (p1:(Int×Int)):Option Bool:=
 ((eS N) p0 p1).bind fun n0=>
 some (decide (0<=n0))
def KY (N:Nat):aU:=⟨aC.cons (aE.sl bX) (aC.one (aE.clo 290 (aC.one (aE.ref (bJ.row fG))))),aE.bool,fun a=>(eD N) a.1 a.2,.pure,false⟩
theorem KZ (N:Nat):aB tab 149 (KY N):=aB.of HE (cx:=(aM (aG N) [(210,(KW N))] [] [] [])) rfl (aL.make ⟨(KX N),trivial⟩ trivial trivial) (fun a=>by kernel_rfl)
def K0 (N:Nat) (p0:aQ) (p1:Int×Int):Option (aQ×Int×Int):=
 ((pY N) p0).bind fun n0=>
 bif n0 !=0 then
  some (aQ.mk 0 [],0,n0)
 else
  ((wB N) p1).bind fun b1=>
  bif !b1 then
   some (aQ.mk 0 [],0,8)
  else
   ((eD N) p0.list p1).bind fun b2=>
   bif b2 then
    some (aQ.mk 0 [],0,14)
   else
    bif (aa p0.list.length)==200 then
     some (aQ.mk 0 [],0,18)
    else
     bif p0.next_==1000000 then
      some (aQ.mk 0 [],0,18)
     else
      (aZ p0.list).bind fun l3=>
      (bD l3 [(p0.next_,p1)]).bind fun l4=>
      some (aQ.mk (aA .i64 (p0.next_+1)) l4,p0.next_,0)
def aKD (N:Nat):aU:=⟨aC.cons (aE.agg eH) (aC.one (aE.agg (bJ.row fG))),aE.tup (aC.cons (aE.agg eH) (aC.cons (aE.int .i64) (aC.one (aE.int .i64)))),fun a=>(K0 N) a.1 a.2,.frz,false⟩
theorem aDb (N:Nat):aB tab 258 (aKD N):=aB.of aBl (cx:=(aM (aG N) [(138,(aCh N)),(190,(aIu N)),(149,(KY N)),(218,aU.clone bX)] [] [] [])) rfl (aL.make ⟨(HS N),(OE N),(KZ N),oN,trivial⟩ trivial trivial) (fun a=>by kernel_rfl)
def uZ (N:Nat) (p0:aJ) (p1:Int×Int):Option (aJ×Int×Int):=
 ((jE N) p0).bind fun n0=>
 bif n0 !=0 then
  ((dH N) n0).bind fun a1=>
  some a1
 else
  ((K0 N) p0.certs p1).bind fun a2=>
  bif a2.2.2==8 then
   ((dH N) a2.2.2).bind fun a3=>
   some a3
  else
   ((gY N) p0.field p1.1).bind fun a4=>
   bif decide (a4.1<0) then
    ((dH N) 6).bind fun a5=>
    some a5
   else
    ((gY N) p0.field p1.2).bind fun a6=>
    bif decide (a6.1<0) then
     ((dH N) 6).bind fun a7=>
     some a7
    else
     bif a2.2.2 !=0 then
      ((dH N) a2.2.2).bind fun a8=>
      some a8
     else
      ((mN N) p0).bind fun r9=>
      ((qC N) p0.field p1 p0.now).bind fun a10=>
      bif a10.2.2 !=0 then
       ((dH N) a10.2.2).bind fun a11=>
       some a11
      else
       bif a10.2.1 then
        ((nJ N) p0.agenda a10.1 a2.2.1).bind fun a12=>
        bif a12.2.2 !=0 then
         ((dH N) a12.2.2).bind fun a13=>
         some a13
        else
         (bD r9.due [(a2.2.1,a12.2.1)]).bind fun l14=>
         some (aJ.mk r9.now r9.field a2.1 a12.1 l14,a2.2.1,0)
       else
        some (aJ.mk r9.now r9.field a2.1 r9.agenda r9.due,a2.2.1,0)
def aKE (N:Nat):aU:=⟨aC.cons (aE.agg bE) (aC.one (aE.agg (bJ.row fG))),aE.tup (aC.cons (aE.agg bE) (aC.cons (aE.int .i64) (aC.one (aE.int .i64)))),fun a=>(uZ N) a.1 a.2,.frz,false⟩
theorem aDc (N:Nat):aB tab 217 (aKE N):=aB.of aAP (cx:=(aM (aG N) [(86,(c86 N)),(257,(aKB N)),(258,(aKD N)),(194,(aCw N)),(189,(aCV N)),(189,(OK N)),(140,(aCD N)),(256,(aIL N))] [] [] [])) rfl (aL.make ⟨(D2 N),(aC9 N),(aDb N),(HW N),(IA N),(D7 N),(HY N),(OP N),trivial⟩ trivial trivial) (fun a=>by kernel_rfl)
def sP (N:Nat) (s:((List (Int×Int))×Int×Int×Int×Int×(List (Int×Int×Int))×Int×(List (Int×Int×Int))×(List Int)×(List Bool)×(List Int)×(List (Int×Int×Int×Int×Int))×(List Int)×(List (Int×Int×Int))×Int×Int×Int)):Option (aW ((List (Int×Int))×Int×Int×Int×Int×(List (Int×Int×Int))×Int×(List (Int×Int×Int))×(List Int)×(List Bool)×(List Int)×(List (Int×Int×Int×Int×Int))×(List Int)×(List (Int×Int×Int))×Int×Int×Int) (aW ((List (Int×Int))×(List (Int×Int×Int))×Int×Int×Int×Int×(List (Int×Int×Int))×Int×(List (Int×Int×Int))×(List Int)×(List Bool)×(List Int)×(List (Int×Int×Int×Int×Int))×(List Int)×(List (Int×Int×Int))×(List (Int×Int×Int))×Int×Int×Int) (aJ×Int))):=
 bif decide (s.2.2.1<s.2.1) then
  (aK s.1 s.2.2.1).bind fun a0=>
  ((dN N) s.2.2.2.2.2.2.2.1 a0).bind fun b1=>
  bif b1 then
   some (.next (s.1,s.2.1,aA .i64 (s.2.2.1+1),s.2.2.2))
  else
   ((uZ N) (aJ.mk (s.2.2.2.1,s.2.2.2.2.1) (Field.mk s.2.2.2.2.2.1) (aQ.mk s.2.2.2.2.2.2.1 s.2.2.2.2.2.2.2.1) (aH.mk (aO.mk s.2.2.2.2.2.2.2.2.1 s.2.2.2.2.2.2.2.2.2.1 s.2.2.2.2.2.2.2.2.2.2.1) s.2.2.2.2.2.2.2.2.2.2.2.1 s.2.2.2.2.2.2.2.2.2.2.2.2.1) s.2.2.2.2.2.2.2.2.2.2.2.2.2.1) a0).bind fun a2=>
   bif a2.2.2 !=0 then
    some (.done (.done (aJ.mk (0,0) (Field.mk []) (aQ.mk 0 []) (aH.mk (aO.mk [] [] []) [] []) [],a2.2.2)))
   else
    some (.next (s.1,s.2.1,aA .i64 (s.2.2.1+1),a2.1.now.1,a2.1.now.2,a2.1.field.points,a2.1.certs.next_,a2.1.certs.list,a2.1.agenda.slots.uses,a2.1.agenda.slots.used,a2.1.agenda.slots.free,a2.1.agenda.heap,a2.1.agenda.where_,a2.1.due,s.2.2.2.2.2.2.2.2.2.2.2.2.2.2))
 else
  some (.done (.done (aJ.mk (s.2.2.2.1,s.2.2.2.2.1) (Field.mk s.2.2.2.2.2.1) (aQ.mk s.2.2.2.2.2.2.1 s.2.2.2.2.2.2.2.1) (aH.mk (aO.mk s.2.2.2.2.2.2.2.2.1 s.2.2.2.2.2.2.2.2.2.1 s.2.2.2.2.2.2.2.2.2.2.1) s.2.2.2.2.2.2.2.2.2.2.2.1 s.2.2.2.2.2.2.2.2.2.2.2.2.1) s.2.2.2.2.2.2.2.2.2.2.2.2.2.1,0)))
def ED (N:Nat) (s:((List (Int×Int))×(List (Int×Int×Int))×Int×Int×Int×Int×(List (Int×Int×Int))×Int×(List (Int×Int×Int))×(List Int)×(List Bool)×(List Int)×(List (Int×Int×Int×Int×Int))×(List Int)×(List (Int×Int×Int))×(List (Int×Int×Int))×Int×Int×Int)):Option (aW ((List (Int×Int))×(List (Int×Int×Int))×Int×Int×Int×Int×(List (Int×Int×Int))×Int×(List (Int×Int×Int))×(List Int)×(List Bool)×(List Int)×(List (Int×Int×Int×Int×Int))×(List Int)×(List (Int×Int×Int))×(List (Int×Int×Int))×Int×Int×Int) (aJ×Int)):=
 bif decide (s.2.2.2.1<s.2.2.1) then
  (aK s.2.1 s.2.2.2.1).bind fun a0=>
  ((fC N) s.1 a0.2).bind fun b1=>
  bif !b1 then
   ((yB N) (aJ.mk (s.2.2.2.2.1,s.2.2.2.2.2.1) (Field.mk s.2.2.2.2.2.2.1) (aQ.mk s.2.2.2.2.2.2.2.1 s.2.2.2.2.2.2.2.2.1) (aH.mk (aO.mk s.2.2.2.2.2.2.2.2.2.1 s.2.2.2.2.2.2.2.2.2.2.1 s.2.2.2.2.2.2.2.2.2.2.2.1) s.2.2.2.2.2.2.2.2.2.2.2.2.1 s.2.2.2.2.2.2.2.2.2.2.2.2.2.1) s.2.2.2.2.2.2.2.2.2.2.2.2.2.2.1) a0.1).bind fun a2=>
   some (.next (s.1,s.2.1,s.2.2.1,aA .i64 (s.2.2.2.1+1),a2.1.now.1,a2.1.now.2,a2.1.field.points,a2.1.certs.next_,a2.1.certs.list,a2.1.agenda.slots.uses,a2.1.agenda.slots.used,a2.1.agenda.slots.free,a2.1.agenda.heap,a2.1.agenda.where_,a2.1.due,s.2.2.2.2.2.2.2.2.2.2.2.2.2.2.2))
  else
   some (.next (s.1,s.2.1,s.2.2.1,aA .i64 (s.2.2.2.1+1),s.2.2.2.2))
 else
  ((mO N) s.2.2.2.2.2.2.1 s.2.2.2.2.2.2.2.2.2.2.2.2.2.2.2.1).bind fun b3=>
  bif !b3 then
   ((A0 N) (aJ.mk (s.2.2.2.2.1,s.2.2.2.2.2.1) (Field.mk s.2.2.2.2.2.2.1) (aQ.mk s.2.2.2.2.2.2.2.1 s.2.2.2.2.2.2.2.2.1) (aH.mk (aO.mk s.2.2.2.2.2.2.2.2.2.1 s.2.2.2.2.2.2.2.2.2.2.1 s.2.2.2.2.2.2.2.2.2.2.2.1) s.2.2.2.2.2.2.2.2.2.2.2.2.1 s.2.2.2.2.2.2.2.2.2.2.2.2.2.1) s.2.2.2.2.2.2.2.2.2.2.2.2.2.2.1) (Field.mk s.2.2.2.2.2.2.2.2.2.2.2.2.2.2.2.1)).bind fun a4=>
   bif a4.2 !=0 then
    some (.done (aJ.mk (0,0) (Field.mk []) (aQ.mk 0 []) (aH.mk (aO.mk [] [] []) [] []) [],a4.2))
   else
    (aS N) (sP N) (s.1,aa s.1.length,0,a4.1.now.1,a4.1.now.2,a4.1.field.points,a4.1.certs.next_,a4.1.certs.list,a4.1.agenda.slots.uses,a4.1.agenda.slots.used,a4.1.agenda.slots.free,a4.1.agenda.heap,a4.1.agenda.where_,a4.1.due,s.2.2.2.2.2.2.2.2.2.2.2.2.2.2.2.2)
  else
   (aS N) (sP N) (s.1,aa s.1.length,0,s.2.2.2.2.1,s.2.2.2.2.2.1,s.2.2.2.2.2.2.1,s.2.2.2.2.2.2.2.1,s.2.2.2.2.2.2.2.2.1,s.2.2.2.2.2.2.2.2.2.1,s.2.2.2.2.2.2.2.2.2.2.1,s.2.2.2.2.2.2.2.2.2.2.2.1,s.2.2.2.2.2.2.2.2.2.2.2.2.1,s.2.2.2.2.2.2.2.2.2.2.2.2.2.1,s.2.2.2.2.2.2.2.2.2.2.2.2.2.2.1,s.2.2.2.2.2.2.2.2.2.2.2.2.2.2.2.2)
def A2 (N:Nat) (p0:aJ) (p1:Field) (p2:List (Int×Int)):Option (aJ×Int):=
 (aS N) (ED N) (p2,p0.certs.list,aa p0.certs.list.length,0,p0.now.1,p0.now.2,p0.field.points,p0.certs.next_,p0.certs.list,p0.agenda.slots.uses,p0.agenda.slots.used,p0.agenda.slots.free,p0.agenda.heap,p0.agenda.where_,p0.due,p1.points,0,0,0)
def aKF (N:Nat):aU:=⟨aC.cons (aE.agg bE) (aC.cons (aE.agg bF) (aC.one (aE.sl fG))),aE.tup (aC.cons (aE.agg bE) (aC.one (aE.int .i64))),fun a=>(A2 N) a.1 a.2.1 a.2.2,.frz,false⟩
theorem aDd (N:Nat):aB tab 156 (aKF N):=aB.of aAg (cx:=(aM (aG N) [(148,(TA N)),(213,(aKt N)),(214,(aKu N)),(215,(aKz N)),(149,(KU N)),(217,(aKE N))] [] [] [])) rfl (aL.make ⟨(BN N),(aC1 N),(aC2 N),(aC7 N),(KV N),(aDc N),trivial⟩ trivial trivial) (fun a=>by kernel_rfl)
def EE (N:Nat) (s:((List (Int×Int))×(List (Int×Int))×Int×Int×Int×Int×(List (Int×Int×Int))×Int×(List (Int×Int×Int))×(List Int)×(List Bool)×(List Int)×(List (Int×Int×Int×Int×Int))×(List Int)×(List (Int×Int×Int))×(List (Int×Int×Int))×Int×Int×Int)):Option (aW ((List (Int×Int))×(List (Int×Int))×Int×Int×Int×Int×(List (Int×Int×Int))×Int×(List (Int×Int×Int))×(List Int)×(List Bool)×(List Int)×(List (Int×Int×Int×Int×Int))×(List Int)×(List (Int×Int×Int))×(List (Int×Int×Int))×Int×Int×Int) (aW ((List (Int×Int))×(List (Int×Int))×Int×Int×Int×Int×(List (Int×Int×Int))×Int×(List (Int×Int×Int))×(List Int)×(List Bool)×(List Int)×(List (Int×Int×Int×Int×Int))×(List Int)×(List (Int×Int×Int))×(List (Int×Int×Int))×Int×Int×Int) (aW ((List (Int×Int))×(List (Int×Int))×Int×Int×Int×Int×(List (Int×Int×Int))×Int×(List (Int×Int×Int))×(List Int)×(List Bool)×(List Int)×(List (Int×Int×Int×Int×Int))×(List Int)×(List (Int×Int×Int))×(List (Int×Int×Int))×Int×Int×Int) (aJ×Int)))):=
 bif decide (s.2.2.2.1<s.2.2.1) then
  (aK s.2.1 s.2.2.2.1).bind fun a0=>
  ((wE N) (Field.mk s.2.2.2.2.2.2.2.2.2.2.2.2.2.2.2.1) a0.1).bind fun a1=>
  ((wE N) (Field.mk s.2.2.2.2.2.2.2.2.2.2.2.2.2.2.2.1) a0.2).bind fun a2=>
  bif a1.2 !=0 then
   some (.done (.done (.done (aJ.mk (0,0) (Field.mk []) (aQ.mk 0 []) (aH.mk (aO.mk [] [] []) [] []) [],6))))
  else
   bif a2.2 !=0 then
    some (.done (.done (.done (aJ.mk (0,0) (Field.mk []) (aQ.mk 0 []) (aH.mk (aO.mk [] [] []) [] []) [],6))))
   else
    some (.next (s.1,s.2.1,s.2.2.1,aA .i64 (s.2.2.2.1+1),s.2.2.2.2))
 else
  ((wF N) (aJ.mk (s.2.2.2.2.1,s.2.2.2.2.2.1) (Field.mk s.2.2.2.2.2.2.1) (aQ.mk s.2.2.2.2.2.2.2.1 s.2.2.2.2.2.2.2.2.1) (aH.mk (aO.mk s.2.2.2.2.2.2.2.2.2.1 s.2.2.2.2.2.2.2.2.2.2.1 s.2.2.2.2.2.2.2.2.2.2.2.1) s.2.2.2.2.2.2.2.2.2.2.2.2.1 s.2.2.2.2.2.2.2.2.2.2.2.2.2.1) s.2.2.2.2.2.2.2.2.2.2.2.2.2.2.1)).bind fun r3=>
  ((A2 N) r3 (Field.mk s.2.2.2.2.2.2.2.2.2.2.2.2.2.2.2.1) s.1).bind fun a4=>
  some (.done (.done (.done a4)))
def EF (N:Nat) (s:((List (Int×Int))×(List (Int×Int))×Int×Int×Int×Int×(List (Int×Int×Int))×Int×(List (Int×Int×Int))×(List Int)×(List Bool)×(List Int)×(List (Int×Int×Int×Int×Int))×(List Int)×(List (Int×Int×Int))×(List (Int×Int×Int))×Int×Int×Int)):Option (aW ((List (Int×Int))×(List (Int×Int))×Int×Int×Int×Int×(List (Int×Int×Int))×Int×(List (Int×Int×Int))×(List Int)×(List Bool)×(List Int)×(List (Int×Int×Int×Int×Int))×(List Int)×(List (Int×Int×Int))×(List (Int×Int×Int))×Int×Int×Int) (aW ((List (Int×Int))×(List (Int×Int))×Int×Int×Int×Int×(List (Int×Int×Int))×Int×(List (Int×Int×Int))×(List Int)×(List Bool)×(List Int)×(List (Int×Int×Int×Int×Int))×(List Int)×(List (Int×Int×Int))×(List (Int×Int×Int))×Int×Int×Int) (aJ×Int))):=
 bif decide (s.2.2.2.1<s.2.2.1) then
  (aK s.2.1 s.2.2.2.1).bind fun a0=>
  (fF s.1 0 s.2.2.2.1).bind fun l1=>
  ((fC N) l1 a0).bind fun b2=>
  bif b2 then
   some (.done (.done (aJ.mk (0,0) (Field.mk []) (aQ.mk 0 []) (aH.mk (aO.mk [] [] []) [] []) [],14)))
  else
   some (.next (s.1,s.2.1,s.2.2.1,aA .i64 (s.2.2.2.1+1),s.2.2.2.2))
 else
  (aS N) (EE N) (s.1,s.1,aa s.1.length,0,s.2.2.2.2)
def EG (N:Nat) (s:((List (Int×Int))×(List (Int×Int))×Int×Int×Int×Int×(List (Int×Int×Int))×Int×(List (Int×Int×Int))×(List Int)×(List Bool)×(List Int)×(List (Int×Int×Int×Int×Int))×(List Int)×(List (Int×Int×Int))×(List (Int×Int×Int))×Int×Int×Int)):Option (aW ((List (Int×Int))×(List (Int×Int))×Int×Int×Int×Int×(List (Int×Int×Int))×Int×(List (Int×Int×Int))×(List Int)×(List Bool)×(List Int)×(List (Int×Int×Int×Int×Int))×(List Int)×(List (Int×Int×Int))×(List (Int×Int×Int))×Int×Int×Int) (aJ×Int)):=
 bif decide (s.2.2.2.1<s.2.2.1) then
  (aK s.2.1 s.2.2.2.1).bind fun a0=>
  bif decide (a0.1<0) then
   some (.done (aJ.mk (0,0) (Field.mk []) (aQ.mk 0 []) (aH.mk (aO.mk [] [] []) [] []) [],8))
  else
   bif decide (a0.2<0) then
    some (.done (aJ.mk (0,0) (Field.mk []) (aQ.mk 0 []) (aH.mk (aO.mk [] [] []) [] []) [],8))
   else
    bif decide (65535<a0.1) then
     some (.done (aJ.mk (0,0) (Field.mk []) (aQ.mk 0 []) (aH.mk (aO.mk [] [] []) [] []) [],8))
    else
     bif decide (65535<a0.2) then
      some (.done (aJ.mk (0,0) (Field.mk []) (aQ.mk 0 []) (aH.mk (aO.mk [] [] []) [] []) [],8))
     else
      bif a0.1==a0.2 then
       some (.done (aJ.mk (0,0) (Field.mk []) (aQ.mk 0 []) (aH.mk (aO.mk [] [] []) [] []) [],8))
      else
       some (.next (s.1,s.2.1,s.2.2.1,aA .i64 (s.2.2.2.1+1),s.2.2.2.2))
 else
  (aS N) (EF N) (s.1,s.1,aa s.1.length,0,s.2.2.2.2)
def A3 (N:Nat) (p0:aJ) (p1:Field) (p2:List (Int×Int)):Option (aJ×Int):=
 ((jE N) p0).bind fun n0=>
 bif n0 !=0 then
  some (aJ.mk (0,0) (Field.mk []) (aQ.mk 0 []) (aH.mk (aO.mk [] [] []) [] []) [],n0)
 else
  ((gC N) p1).bind fun n1=>
  bif n1 !=0 then
   some (aJ.mk (0,0) (Field.mk []) (aQ.mk 0 []) (aH.mk (aO.mk [] [] []) [] []) [],n1)
  else
   (aS N) (EG N) (p2,p2,aa p2.length,0,p0.now.1,p0.now.2,p0.field.points,p0.certs.next_,p0.certs.list,p0.agenda.slots.uses,p0.agenda.slots.used,p0.agenda.slots.free,p0.agenda.heap,p0.agenda.where_,p0.due,p1.points,0,0,0)
def c98 (N:Nat):aU:=⟨aC.cons (aE.agg bE) (aC.cons (aE.agg bF) (aC.one (aE.sl fG))),aE.tup (aC.cons (aE.agg bE) (aC.one (aE.int .i64))),fun a=>(A3 N) a.1 a.2.1 a.2.2,.frz,false⟩
theorem aIM (N:Nat):aB tab 98 (c98 N):=aB.of aH5 (cx:=(aM (aG N) [(86,(c86 N)),(71,(c71 N)),(148,(TA N)),(155,(aKj N)),(157,(aKk N)),(157,(aDL N)),(156,(aKF N))] [] [] [])) rfl (aL.make ⟨(D2 N),(wA N),(BN N),(aCQ N),(aCR N),(TF N),(aDd N),trivial⟩ trivial trivial) (fun a=>by kernel_rfl)
def cW (N:Nat) (p0:aJ) (p1:Field) (p2:List Int):Option (aN×Int):=
 ((nU N) p1 p0.now p2).bind fun a0=>
 ((AY N) a0.1).bind fun l1=>
 ((A3 N) p0 p1 l1).bind fun a2=>
 bif a2.2 !=0 then
  some (aN.mk (aJ.mk (0,0) (Field.mk []) (aQ.mk 0 []) (aH.mk (aO.mk [] [] []) [] []) []) (aR.mk [] []),a2.2)
 else
  some (aN.mk a2.1 a0.1,0)
def c45 (N:Nat):aU:=⟨aC.cons (aE.agg bE) (aC.cons (aE.agg bF) (aC.one (aE.sl ki))),aE.tup (aC.cons (aE.agg dC) (aC.one (aE.int .i64))),fun a=>(cW N) a.1 a.2.1 a.2.2,.frz,false⟩
theorem ML (N:Nat):aB tab 45 (c45 N):=aB.of aHC (cx:=(aM (aG N) [(97,(c97 N)),(99,(c99 N)),(98,(c98 N))] [] [] [])) rfl (aL.make ⟨(S9 N),(aIG N),(aIM N),trivial⟩ trivial trivial) (fun a=>by kernel_rfl)
def dF (N:Nat) (p0:aN) (p1:Int×Int×Int):Option (aN×Int):=
 ((hU N) p0).bind fun n0=>
 bif n0 !=0 then
  some (aN.mk (aJ.mk (0,0) (Field.mk []) (aQ.mk 0 []) (aH.mk (aO.mk [] [] []) [] []) []) (aR.mk [] []),n0)
 else
  ((F9 N) p0.clock.field p1).bind fun a1=>
  bif a1.2 !=0 then
   some (aN.mk (aJ.mk (0,0) (Field.mk []) (aQ.mk 0 []) (aH.mk (aO.mk [] [] []) [] []) []) (aR.mk [] []),a1.2)
  else
   (aZ p0.bracket.places).bind fun l2=>
   ((hY N) l2 (-1)).bind fun n3=>
   bif decide (n3<0) then
    ((gQ N) [-1] (aa l2.length)).bind fun l4=>
    bif l4.isEmpty then
     (aK l2 (aa l2.length)).bind fun _=>
     ((cW N) p0.clock a1.1 (bO l2 (aa l2.length) p1.1)).bind fun a6=>
     some a6
    else
     (bD l2 l4).bind fun l7=>
     (aK l7 (aa l2.length)).bind fun _=>
     ((cW N) p0.clock a1.1 (bO l7 (aa l2.length) p1.1)).bind fun a9=>
     some a9
   else
    (aK l2 n3).bind fun _=>
    ((cW N) p0.clock a1.1 (bO l2 n3 p1.1)).bind fun a11=>
    some a11
def c17 (N:Nat):aU:=⟨aC.cons (aE.agg dC) (aC.one (aE.agg (bJ.row bX))),aE.tup (aC.cons (aE.agg dC) (aC.one (aE.int .i64))),fun a=>(dF N) a.1 a.2,.frz,false⟩
theorem TJ (N:Nat):aB tab 17 (c17 N):=aB.of aHm (cx:=(aM (aG N) [(39,(c39 N)),(31,(c31 N)),(40,aU.clone ki),(41,(c41 N)),(44,(c44 N)),(44,(aIF N)),(45,(c45 N))] [] [] [])) rfl (aL.make ⟨(D4 N),(aIE N),hO,(MH N),(TE N),(OJ N),(ML N),trivial⟩ trivial trivial) (fun a=>by kernel_rfl)
def iK (_:Nat) (a:(Int×Int×(List (Int×Int×Int)))):Option (Nat×Nat×(List (Int×Int×Int))):=
 bif (((decide (0<=a.1))&&(decide (a.1<=a.2.1)))&&(decide (a.2.1<=(aa a.2.2.length))))&&(decide ((aa a.2.2.length)<=(aa a.2.2.length))) then
  bif a.1==a.2.1 then
   bif a.2.2.length==a.2.2.length then
    some (a.2.2.length,a.2.2.length,a.2.2)
   else
    none
  else
   (fF a.2.2 0 a.1).bind fun _=>
   bif ((decide (0<=a.2.1))&&(decide (a.2.1<=(aa a.2.2.length))))&&(decide ((aa a.2.2.length)<=(aa a.2.2.length))) then
    bif ((a.2.2.drop (0+a.2.1.toNat)).take (((aa a.2.2.length).toNat) -a.2.1.toNat)).isEmpty then
     bif ((decide (0<=(aa a.1.toNat)))&&(decide ((aa a.1.toNat)<=(aa a.2.2.length))))&&(decide ((aa a.2.2.length)<=(aa a.2.2.length))) then
      bif Nat.beq (((aa a.2.2.length).toNat) - ((aa a.1.toNat).toNat)) 0 then
       bif a.2.2.length==a.2.2.length then
        some (a.1.toNat,a.2.2.length,a.2.2)
       else
        none
      else
       bif (ae ((0+((aa a.1.toNat).toNat))+(((aa a.2.2.length).toNat) - ((aa a.1.toNat).toNat))) a.2.2.length)&&(!false) then
        bif ((dB a.2.2 (0+((aa a.1.toNat).toNat)) (ac (((aa a.2.2.length).toNat) - ((aa a.1.toNat).toNat)) (0,0,0))).length)==a.2.2.length then
         some (a.1.toNat,a.2.2.length,dB a.2.2 (0+((aa a.1.toNat).toNat)) (ac (((aa a.2.2.length).toNat) - ((aa a.1.toNat).toNat)) (0,0,0)))
        else
         none
       else
        none
     else
      none
    else
     bif ae (a.1.toNat+(((a.2.2.drop (0+a.2.1.toNat)).take (((aa a.2.2.length).toNat) -a.2.1.toNat)).length)) a.2.2.length then
      bif (ae (a.1.toNat+(((a.2.2.drop (0+a.2.1.toNat)).take (((aa a.2.2.length).toNat) -a.2.1.toNat)).length)) a.2.2.length)&&(!false) then
       bif ((decide (0<=(aa (a.1.toNat+(((a.2.2.drop (0+a.2.1.toNat)).take (((aa a.2.2.length).toNat) -a.2.1.toNat)).length)))))&&(decide ((aa (a.1.toNat+(((a.2.2.drop (0+a.2.1.toNat)).take (((aa a.2.2.length).toNat) -a.2.1.toNat)).length)))<=(aa a.2.2.length))))&&(decide ((aa a.2.2.length)<=(aa a.2.2.length))) then
        bif Nat.beq (((aa a.2.2.length).toNat) - ((aa (a.1.toNat+(((a.2.2.drop (0+a.2.1.toNat)).take (((aa a.2.2.length).toNat) -a.2.1.toNat)).length))).toNat)) 0 then
         bif ((dB a.2.2 a.1.toNat ((a.2.2.drop (0+a.2.1.toNat)).take (((aa a.2.2.length).toNat) -a.2.1.toNat))).length)==a.2.2.length then
          some (a.1.toNat+(((a.2.2.drop (0+a.2.1.toNat)).take (((aa a.2.2.length).toNat) -a.2.1.toNat)).length),a.2.2.length,dB a.2.2 a.1.toNat ((a.2.2.drop (0+a.2.1.toNat)).take (((aa a.2.2.length).toNat) -a.2.1.toNat)))
         else
          none
        else
         bif (ae ((0+((aa (a.1.toNat+(((a.2.2.drop (0+a.2.1.toNat)).take (((aa a.2.2.length).toNat) -a.2.1.toNat)).length))).toNat))+(((aa a.2.2.length).toNat) - ((aa (a.1.toNat+(((a.2.2.drop (0+a.2.1.toNat)).take (((aa a.2.2.length).toNat) -a.2.1.toNat)).length))).toNat))) ((dB a.2.2 a.1.toNat ((a.2.2.drop (0+a.2.1.toNat)).take (((aa a.2.2.length).toNat) -a.2.1.toNat))).length))&&(!false) then
          bif ((dB (dB a.2.2 a.1.toNat ((a.2.2.drop (0+a.2.1.toNat)).take (((aa a.2.2.length).toNat) -a.2.1.toNat))) (0+((aa (a.1.toNat+(((a.2.2.drop (0+a.2.1.toNat)).take (((aa a.2.2.length).toNat) -a.2.1.toNat)).length))).toNat)) (ac (((aa a.2.2.length).toNat) - ((aa (a.1.toNat+(((a.2.2.drop (0+a.2.1.toNat)).take (((aa a.2.2.length).toNat) -a.2.1.toNat)).length))).toNat)) (0,0,0))).length)==a.2.2.length then
           some (a.1.toNat+(((a.2.2.drop (0+a.2.1.toNat)).take (((aa a.2.2.length).toNat) -a.2.1.toNat)).length),a.2.2.length,dB (dB a.2.2 a.1.toNat ((a.2.2.drop (0+a.2.1.toNat)).take (((aa a.2.2.length).toNat) -a.2.1.toNat))) (0+((aa (a.1.toNat+(((a.2.2.drop (0+a.2.1.toNat)).take (((aa a.2.2.length).toNat) -a.2.1.toNat)).length))).toNat)) (ac (((aa a.2.2.length).toNat) - ((aa (a.1.toNat+(((a.2.2.drop (0+a.2.1.toNat)).take (((aa a.2.2.length).toNat) -a.2.1.toNat)).length))).toNat)) (0,0,0)))
          else
           none
         else
          none
       else
        none
      else
       none
     else
      none
   else
    none
 else
  none
def aDM (N:Nat):bW:=⟨[.i,.i,.l [.i .i64,.i .i64,.i .i64]],[.own 0 false,.int .i64 0,.int .i64 0],[.arr [.i .i64,.i .i64,.i .i64] []],[.n,.n,.l [.i .i64,.i .i64,.i .i64]],.pre 0 0 0 false,[.arr [.i .i64,.i .i64,.i .i64] []],fun a=>(iK N) a⟩
theorem TK (N:Nat):fL tab 77 (aDM N):=fL.of aHS (wd:=true) (cx:=(aM (aG N) [] [] [] [])) (aL.make trivial trivial trivial) (fun a=>by kernel_rfl)
def EH (N:Nat) (p0:Field) (p1:Int):Option (Field×Int):=
 ((nI N) p0 p1).bind fun a0=>
 bif a0.2 !=0 then
  some (Field.mk [],a0.2)
 else
  (aZ p0.points).bind fun l1=>
  ((iK N) (a0.1,aA .i64 (a0.1+1),l1)).bind fun a2=>
  some (Field.mk (a2.2.2.take a2.1),0)
def c32 (N:Nat):aU:=⟨aC.cons (aE.agg bF) (aC.one (aE.int .i64)),aE.tup (aC.cons (aE.agg bF) (aC.one (aE.int .i64))),fun a=>(EH N) a.1 a.2,.frz,false⟩
theorem aIN (N:Nat):aB tab 32 (c32 N):=aB.of aHw (cx:=(aM (aG N) [(76,(c76 N)),(75,aU.clone bX)] [(77,(aDM N))] [] [])) rfl (aL.make ⟨(MI N),nE,trivial⟩ ⟨(TK N),trivial⟩ trivial) (fun a=>by kernel_rfl)
def qH (_:Nat) (p0:Int):Option Bool:=
 some (decide (p0<0))
def c43 (N:Nat):aU:=⟨aC.one (aE.int .i64),aE.bool,fun a=>(qH N) a,.pure,false⟩
theorem aIO (N:Nat):aB tab 43 (c43 N):=aB.of aHB (cx:=(aM (aG N) [] [] [] [])) rfl (aL.make trivial trivial trivial) (fun a=>by kernel_rfl)
def fU (N:Nat) (c0:(List Int)) (s:(Int×Int×(List Int))):Option (aW (Int×Int×(List Int)) (aW (Int×Int×(List Int)) (Nat×Nat×(List Int)))):=
 bif decide (s.2.1<(aa s.2.2.length)) then
  (aK s.2.2 s.2.1).bind fun n0=>
  ((qH N) n0).bind fun b1=>
  bif !b1 then
   (aK s.2.2 s.1).bind fun _=>
   some (.next (aA .i64 (s.1+1),aA .i64 (s.2.1+1),bO s.2.2 s.1 n0))
  else
   some (.next (s.1,aA .i64 (s.2.1+1),s.2.2))
 else
  bif ((decide (0<=s.1))&&(decide (s.1<=(aa s.2.2.length))))&&(decide ((aa s.2.2.length)<=(aa s.2.2.length))) then
   bif Nat.beq (((aa s.2.2.length).toNat) -s.1.toNat) 0 then
    (fF s.2.2 0 s.1).bind fun _=>
    bif s.2.2.length==c0.length then
     some (.done (.done (s.1.toNat,s.2.2.length,s.2.2)))
    else
     none
   else
    bif (ae ((0+s.1.toNat)+(((aa s.2.2.length).toNat) -s.1.toNat)) s.2.2.length)&&(!false) then
     (fF (dB s.2.2 (0+s.1.toNat) (ac (((aa s.2.2.length).toNat) -s.1.toNat) 0)) 0 s.1).bind fun _=>
     bif ((dB s.2.2 (0+s.1.toNat) (ac (((aa s.2.2.length).toNat) -s.1.toNat) 0)).length)==c0.length then
      some (.done (.done (s.1.toNat,(dB s.2.2 (0+s.1.toNat) (ac (((aa s.2.2.length).toNat) -s.1.toNat) 0)).length,dB s.2.2 (0+s.1.toNat) (ac (((aa s.2.2.length).toNat) -s.1.toNat) 0))))
     else
      none
    else
     none
  else
   none
def fV (N:Nat) (c0:(List Int)) (s:(Int×Int×(List Int))):Option (aW (Int×Int×(List Int)) (Nat×Nat×(List Int))):=
 bif decide (s.2.1<s.1) then
  (aK s.2.2 s.2.1).bind fun n0=>
  ((qH N) n0).bind fun b1=>
  bif b1 then
   bif s.2.2.length==c0.length then
    bif s.2.1==(-1) then
     bif s.2.2.length==c0.length then
      some (.done (s.2.2.length,s.2.2.length,s.2.2))
     else
      none
    else
     (aS N) ((fU N) c0) (s.2.1,aA .i64 (s.2.1+1),s.2.2)
   else
    none
  else
   some (.next (s.1,aA .i64 (s.2.1+1),s.2.2))
 else
  bif s.2.2.length==c0.length then
   bif s.2.2.length==c0.length then
    some (.done (s.2.2.length,s.2.2.length,s.2.2))
   else
    none
  else
   none
def dI (N:Nat) (a:(List Int)):Option (Nat×Nat×(List Int)):=
 (aS N) ((fV N) a) (aa a.length,0,a)
def aDN (N:Nat):bW:=⟨[.l [.i .i64]],[.own 0 false,.clo 43 [] []],[.arr [.i .i64] []],[.n,.n,.l [.i .i64]],.pre 0 0 0 false,[.arr [.i .i64] []],fun a=>(dI N) a⟩
theorem TL (N:Nat):fL tab 42 (aDN N):=fL.of SP (wd:=true) (cx:=(aM (aG N) [(43,(c43 N))] [] [(95,UT)] [])) (aL.make ⟨(aIO N),trivial⟩ trivial ⟨zI,trivial⟩) (fun a=>by kernel_rfl)
def cH (N:Nat) (p0:aN) (p1:Int):Option (aN×Int):=
 ((hU N) p0).bind fun n0=>
 bif n0 !=0 then
  some (aN.mk (aJ.mk (0,0) (Field.mk []) (aQ.mk 0 []) (aH.mk (aO.mk [] [] []) [] []) []) (aR.mk [] []),n0)
 else
  ((EH N) p0.clock.field p1).bind fun a1=>
  bif a1.2 !=0 then
   some (aN.mk (aJ.mk (0,0) (Field.mk []) (aQ.mk 0 []) (aH.mk (aO.mk [] [] []) [] []) []) (aR.mk [] []),a1.2)
  else
   (aZ p0.bracket.places).bind fun l2=>
   ((hY N) l2 p1).bind fun n3=>
   (aK l2 n3).bind fun _=>
   bif decide (1<(aa ((bO l2 n3 (-1)).length))) then
    bif decide ((aA .i64 (4*(aa a1.1.points.length)))<=(aa ((bO l2 n3 (-1)).length))) then
     ((dI N) (bO l2 n3 (-1))).bind fun a5=>
     ((gQ N) [-1] (aA .i64 ((aA .i64 (af (aa ((bO l2 n3 (-1)).length)) 2)) - (aa a5.1)))).bind fun l6=>
     bif l6.isEmpty then
      ((cW N) p0.clock a1.1 (a5.2.2.take a5.1)).bind fun a7=>
      some a7
     else
      bif ae (a5.1+l6.length) a5.2.1 then
       bif (ae (a5.1+l6.length) a5.2.2.length)&&(!false) then
        ((cW N) p0.clock a1.1 ((dB a5.2.2 a5.1 l6).take (a5.1+l6.length))).bind fun a8=>
        some a8
       else
        none
      else
       (bD (a5.2.2.take a5.1) l6).bind fun l9=>
       bif ae a5.1 a5.2.2.length then
        ((cW N) p0.clock a1.1 l9).bind fun a10=>
        some a10
       else
        none
    else
     ((cW N) p0.clock a1.1 (bO l2 n3 (-1))).bind fun a11=>
     some a11
   else
    ((cW N) p0.clock a1.1 (bO l2 n3 (-1))).bind fun a12=>
    some a12
def c12 (N:Nat):aU:=⟨aC.cons (aE.agg dC) (aC.one (aE.int .i64)),aE.tup (aC.cons (aE.agg dC) (aC.one (aE.int .i64))),fun a=>(cH N) a.1 a.2,.frz,false⟩
theorem TM (N:Nat):aB tab 12 (c12 N):=aB.of aHj (cx:=(aM (aG N) [(39,(c39 N)),(32,(c32 N)),(40,aU.clone ki),(41,(c41 N)),(44,(c44 N)),(44,(aIF N)),(45,(c45 N))] [(42,(TB N)),(42,(aDN N))] [] [])) rfl (aL.make ⟨(D4 N),(aIN N),hO,(MH N),(TE N),(OJ N),(ML N),trivial⟩ ⟨(KH N),(TL N),trivial⟩ trivial) (fun a=>by kernel_rfl)
def yD (N:Nat) (p0:Field) (p1:Int×Int×Int):Option (Field×Int):=
 ((gC N) p0).bind fun n0=>
 bif n0 !=0 then
  some (Field.mk [],n0)
 else
  ((hP N) p1).bind fun n1=>
  bif n1 !=0 then
   some (Field.mk [],n1)
  else
   ((nI N) p0 p1.1).bind fun a2=>
   bif a2.2 !=0 then
    some (Field.mk [],a2.2)
   else
    (aZ p0.points).bind fun l3=>
    (aK l3 a2.1).bind fun _=>
    some (Field.mk (bO l3 a2.1 p1),0)
def c33 (N:Nat):aU:=⟨aC.cons (aE.agg bF) (aC.one (aE.agg (bJ.row bX))),aE.tup (aC.cons (aE.agg bF) (aC.one (aE.int .i64))),fun a=>(yD N) a.1 a.2,.frz,false⟩
theorem aIP (N:Nat):aB tab 33 (c33 N):=aB.of aHx (cx:=(aM (aG N) [(71,(c71 N)),(72,(c72 N)),(76,(c76 N)),(75,aU.clone bX)] [] [] [])) rfl (aL.make ⟨(wA N),(HR N),(MI N),nE,trivial⟩ trivial trivial) (fun a=>by kernel_rfl)
def jS (N:Nat) (p0:aN) (p1:Int×Int×Int):Option (aN×Int):=
 ((hU N) p0).bind fun n0=>
 bif n0 !=0 then
  some (aN.mk (aJ.mk (0,0) (Field.mk []) (aQ.mk 0 []) (aH.mk (aO.mk [] [] []) [] []) []) (aR.mk [] []),n0)
 else
  ((yD N) p0.clock.field p1).bind fun a1=>
  bif a1.2 !=0 then
   some (aN.mk (aJ.mk (0,0) (Field.mk []) (aQ.mk 0 []) (aH.mk (aO.mk [] [] []) [] []) []) (aR.mk [] []),a1.2)
  else
   ((cW N) p0.clock a1.1 p0.bracket.places).bind fun a2=>
   some a2
def c19 (N:Nat):aU:=⟨aC.cons (aE.agg dC) (aC.one (aE.agg (bJ.row bX))),aE.tup (aC.cons (aE.agg dC) (aC.one (aE.int .i64))),fun a=>(jS N) a.1 a.2,.frz,false⟩
theorem aIQ (N:Nat):aB tab 19 (c19 N):=aB.of aHn (cx:=(aM (aG N) [(39,(c39 N)),(33,(c33 N)),(45,(c45 N))] [] [] [])) rfl (aL.make ⟨(D4 N),(aIP N),(ML N),trivial⟩ trivial trivial) (fun a=>by kernel_rfl)
def wG (_:Nat) (p0:aR):Option aR:=
 (aZ p0.places).bind fun l0=>
 (aZ p0.wins).bind fun l1=>
 some (aR.mk l0 l1)
def c38 (N:Nat):aU:=⟨aC.one (aE.agg cL),aE.agg cL,fun a=>(wG N) a,.own,true⟩
def aIR (N:Nat):aU:=⟨aC.one (aE.agg cL),aE.agg cL,fun a=>(wG N) a,.frz,false⟩
theorem TN (N:Nat):aB tab 38 (c38 N):=aB.of SO (cx:=(aM (aG N) [] [] [] [])) rfl (aL.make trivial trivial trivial) (fun a=>by kernel_rfl)
theorem OQ (N:Nat):aB tab 38 (aIR N):=aB.of SO (cx:=(aM (aG N) [] [] [] [])) rfl (aL.make trivial trivial trivial) (fun a=>by kernel_rfl)
def qI (N:Nat) (p0:aN):Option aN:=
 ((iS N) p0.clock).bind fun r0=>
 ((wG N) p0.bracket).bind fun r1=>
 some (aN.mk r0 r1)
def c11 (N:Nat):aU:=⟨aC.one (aE.agg dC),aE.agg dC,fun a=>(qI N) a,.own,true⟩
def aKG (N:Nat):aU:=⟨aC.one (aE.agg dC),aE.agg dC,fun a=>(qI N) a,.frz,false⟩
theorem aIS (N:Nat):aB tab 11 (c11 N):=aB.of SM (cx:=(aM (aG N) [(37,(c37 N)),(37,(ME N)),(38,(c38 N)),(38,(aIR N))] [] [] [])) rfl (aL.make ⟨(zJ N),(tI N),(TN N),(OQ N),trivial⟩ trivial trivial) (fun a=>by kernel_rfl)
theorem aDe (N:Nat):aB tab 11 (aKG N):=aB.of SM (cx:=(aM (aG N) [(37,(c37 N)),(37,(ME N)),(38,(c38 N)),(38,(aIR N))] [] [] [])) rfl (aL.make ⟨(zJ N),(tI N),(TN N),(OQ N),trivial⟩ trivial trivial) (fun a=>by kernel_rfl)
def sQ (N:Nat) (p0:aR):Option (Int×Int):=
 ((nT N) p0).bind fun n0=>
 bif n0 !=0 then
  some (0,n0)
 else
  ((fB N) p0 0).bind fun n1=>
  bif decide (0<=n1) then
   some (n1,0)
  else
   some (0,42)
def c67 (N:Nat):aU:=⟨aC.one (aE.agg cL),aE.tup (aC.cons (aE.int .i64) (aC.one (aE.int .i64))),fun a=>(sQ N) a,.pure,false⟩
theorem aIT (N:Nat):aB tab 67 (c67 N):=aB.of aHL (cx:=(aM (aG N) [(87,(c87 N)),(120,(aCF N))] [] [] [])) rfl (aL.make ⟨(S7 N),(HZ N),trivial⟩ trivial trivial) (fun a=>by kernel_rfl)
def nW (N:Nat) (p0:aN):Option (Int×Int):=
 ((hU N) p0).bind fun n0=>
 bif n0 !=0 then
  some (0,n0)
 else
  ((sQ N) p0.bracket).bind fun a1=>
  some a1
def c28 (N:Nat):aU:=⟨aC.one (aE.agg dC),aE.tup (aC.cons (aE.int .i64) (aC.one (aE.int .i64))),fun a=>(nW N) a,.pure,false⟩
theorem aIU (N:Nat):aB tab 28 (c28 N):=aB.of aHt (cx:=(aM (aG N) [(39,(c39 N)),(67,(c67 N))] [] [] [])) rfl (aL.make ⟨(D4 N),(aIT N),trivial⟩ trivial trivial) (fun a=>by kernel_rfl)
def gZ (N:Nat) (p0:aN) (p1:Int):Option (Int×Int):=
 ((hU N) p0).bind fun n0=>
 bif n0 !=0 then
  some (0,n0)
 else
  ((hY N) p0.bracket.places p1).bind fun n1=>
  bif decide (p1<0) then
   some (0,6)
  else
   bif decide (n1<0) then
    some (0,6)
   else
    some (n1,0)
def c14 (N:Nat):aU:=⟨aC.cons (aE.agg dC) (aC.one (aE.int .i64)),aE.tup (aC.cons (aE.int .i64) (aC.one (aE.int .i64))),fun a=>(gZ N) a.1 a.2,.pure,false⟩
theorem aIV (N:Nat):aB tab 14 (c14 N):=aB.of aHk (cx:=(aM (aG N) [(39,(c39 N)),(41,(c41 N))] [] [] [])) rfl (aL.make ⟨(D4 N),(MH N),trivial⟩ trivial trivial) (fun a=>by kernel_rfl)
def zV (_:Nat) (s:((List Int)×(List Int)×Int)):Option (aW ((List Int)×(List Int)×Int) Bool):=
 bif decide (s.2.2<(aa s.1.length)) then
  (aK s.1 s.2.2).bind fun n0=>
  (aK s.2.1 s.2.2).bind fun n1=>
  bif n0 !=n1 then
   some (.done false)
  else
   some (.next (s.1,s.2.1,aA .i64 (s.2.2+1)))
 else
  some (.done true)
def cN (N:Nat) (p0:List Int) (p1:List Int):Option Bool:=
 bif (aa p0.length) !=(aa p1.length) then
  some false
 else
  (aS N) (zV N) (p0,p1,0)
def c29 (N:Nat):aU:=⟨aC.cons (aE.sl ki) (aC.one (aE.sl ki)),aE.bool,fun a=>(cN N) a.1 a.2,.pure,false⟩
theorem MM (N:Nat):aB tab 29 (c29 N):=aB.of aHu (cx:=(aM (aG N) [] [] [] [])) rfl (aL.make trivial trivial trivial) (fun a=>by kernel_rfl)
def sR (N:Nat):Option Bool:=
 (nF N).bind fun r0=>
 ((dF N) r0 (7,9,-1)).bind fun a1=>
 ((cH N) a1.1 7).bind fun a2=>
 bif a1.2==0 then
  bif a2.2==0 then
   ((cN N) a1.1.bracket.places [1,2,5,7]).bind fun b3=>
   bif b3 then
    bif (aa a1.1.bracket.wins.length)==3 then
     (aK a1.1.bracket.wins 0).bind fun n4=>
     bif n4==7 then
      ((cN N) a2.1.bracket.places [1,2,5,-1]).bind fun b5=>
      some b5
     else
      some false
    else
     some false
   else
    some false
  else
   some false
 else
  some false
def c21 (N:Nat):aU:=⟨aC.nil,aE.bool,fun _=>(sR N),.pure,false⟩
theorem aIW (N:Nat):aB tab 21 (c21 N):=aB.of aHo (cx:=(aM (aG N) [(25,(c25 N)),(17,(c17 N)),(12,(c12 N)),(29,(c29 N))] [] [] [])) rfl (aL.make ⟨(S5 N),(TJ N),(TM N),(MM N),trivial⟩ trivial trivial) (fun a=>by kernel_rfl)
def E1 (_:Nat) (s:(Int×Int×(List (Int×Int×Int))×Int×(List (Int×Int×Int)))):Option (aW (Int×Int×(List (Int×Int×Int))×Int×(List (Int×Int×Int))) Bool):=
 bif decide (s.1<(aa s.2.2.1.length)) then
  (aK s.2.2.1 s.1).bind fun a0=>
  (aK s.2.2.2.2 s.1).bind fun a1=>
  bif !((a0.1==a1.1)&&((a0.2.1==a1.2.1)&&(a0.2.2==a1.2.2))) then
   some (.done false)
  else
   some (.next (aA .i64 (s.1+1),s.2))
 else
  some (.done true)
def EI (N:Nat) (p0:aQ) (p1:aQ):Option Bool:=
 bif p0.next_ !=p1.next_ then
  some false
 else
  bif (aa p0.list.length) !=(aa p1.list.length) then
   some false
  else
   (aS N) (E1 N) (0,p0.next_,p0.list,p1.next_,p1.list)
def aKH (N:Nat):aU:=⟨aC.cons (aE.agg eH) (aC.one (aE.agg eH)),aE.bool,fun a=>(EI N) a.1 a.2,.pure,false⟩
theorem aDf (N:Nat):aB tab 104 (aKH N):=aB.of ZL (cx:=(aM (aG N) [] [] [] [])) rfl (aL.make trivial trivial trivial) (fun a=>by kernel_rfl)
def yE (_:Nat) (s:((List Int)×(List Int)×Int)):Option (aW ((List Int)×(List Int)×Int) Bool):=
 bif decide (s.2.2<(aa s.1.length)) then
  (aK s.1 s.2.2).bind fun n0=>
  (aK s.2.1 s.2.2).bind fun n1=>
  bif n0 !=n1 then
   some (.done false)
  else
   some (.next (s.1,s.2.1,aA .i64 (s.2.2+1)))
 else
  some (.done true)
def jT (N:Nat) (p0:List Int) (p1:List Int):Option Bool:=
 bif (aa p0.length) !=(aa p1.length) then
  some false
 else
  (aS N) (yE N) (p0,p1,0)
def aIX (N:Nat):aU:=⟨aC.cons (aE.sl ki) (aC.one (aE.sl ki)),aE.bool,fun a=>(jT N) a.1 a.2,.pure,false⟩
theorem OR (N:Nat):aB tab 165 (aIX N):=aB.of aAo (cx:=(aM (aG N) [] [] [] [])) rfl (aL.make trivial trivial trivial) (fun a=>by kernel_rfl)
def wH (_:Nat) (s:((List Bool)×(List Bool)×Int)):Option (aW ((List Bool)×(List Bool)×Int) Bool):=
 bif decide (s.2.2<(aa s.1.length)) then
  (aK s.1 s.2.2).bind fun b0=>
  (aK s.2.1 s.2.2).bind fun b1=>
  bif !(b0==b1) then
   some (.done false)
  else
   some (.next (s.1,s.2.1,aA .i64 (s.2.2+1)))
 else
  some (.done true)
def qW (N:Nat) (p0:List Bool) (p1:List Bool):Option Bool:=
 bif (aa p0.length) !=(aa p1.length) then
  some false
 else
  (aS N) (wH N) (p0,p1,0)
def aKI (N:Nat):aU:=⟨aC.cons (aE.sl kb) (aC.one (aE.sl kb)),aE.bool,fun a=>(qW N) a.1 a.2,.pure,false⟩
theorem aDg (N:Nat):aB tab 230 (aKI N):=aB.of aA1 (cx:=(aM (aG N) [] [] [] [])) rfl (aL.make trivial trivial trivial) (fun a=>by kernel_rfl)
def EJ (N:Nat) (p0:aO) (p1:aO):Option Bool:=
 ((jT N) p0.uses p1.uses).bind fun b0=>
 bif b0 then
  ((qW N) p0.used p1.used).bind fun b1=>
  bif b1 then
   ((jT N) p0.free p1.free).bind fun b2=>
   some b2
  else
   some false
 else
  some false
def aKJ (N:Nat):aU:=⟨aC.cons (aE.agg eG) (aC.one (aE.agg eG)),aE.bool,fun a=>(EJ N) a.1 a.2,.pure,false⟩
theorem aDh (N:Nat):aB tab 164 (aKJ N):=aB.of aAn (cx:=(aM (aG N) [(165,(aIX N)),(230,(aKI N))] [] [] [])) rfl (aL.make ⟨(OR N),(aDg N),trivial⟩ trivial trivial) (fun a=>by kernel_rfl)
def E2 (_:Nat) (s:(Int×(List Int)×(List Bool)×(List Int)×(List (Int×Int×Int×Int×Int))×(List Int)×(List Int)×(List Bool)×(List Int)×(List (Int×Int×Int×Int×Int))×(List Int))):Option (aW (Int×(List Int)×(List Bool)×(List Int)×(List (Int×Int×Int×Int×Int))×(List Int)×(List Int)×(List Bool)×(List Int)×(List (Int×Int×Int×Int×Int))×(List Int)) Bool):=
 bif decide (s.1<(aa s.2.2.2.2.1.length)) then
  (aK s.2.2.2.2.1 s.1).bind fun a0=>
  (aK s.2.2.2.2.2.2.2.2.2.1 s.1).bind fun a1=>
  bif !((a0.1==a1.1)&&((a0.2.1==a1.2.1)&&((a0.2.2.1==a1.2.2.1)&&((a0.2.2.2.1==a1.2.2.2.1)&&(a0.2.2.2.2==a1.2.2.2.2))))) then
   some (.done false)
  else
   some (.next (aA .i64 (s.1+1),s.2))
 else
  some (.done true)
def EK (N:Nat) (p0:aH) (p1:aH):Option Bool:=
 ((EJ N) p0.slots p1.slots).bind fun b0=>
 bif !b0 then
  some false
 else
  ((jT N) p0.where_ p1.where_).bind fun b1=>
  bif !b1 then
   some false
  else
   bif (aa p0.heap.length) !=(aa p1.heap.length) then
    some false
   else
    (aS N) (E2 N) (0,p0.slots.uses,p0.slots.used,p0.slots.free,p0.heap,p0.where_,p1.slots.uses,p1.slots.used,p1.slots.free,p1.heap,p1.where_)
def aKK (N:Nat):aU:=⟨aC.cons (aE.agg bY) (aC.one (aE.agg bY)),aE.bool,fun a=>(EK N) a.1 a.2,.pure,false⟩
theorem aDi (N:Nat):aB tab 105 (aKK N):=aB.of ZM (cx:=(aM (aG N) [(164,(aKJ N)),(165,(aIX N))] [] [] [])) rfl (aL.make ⟨(aDh N),(OR N),trivial⟩ trivial trivial) (fun a=>by kernel_rfl)
def E3 (_:Nat) (s:(Int×Int×Int×(List (Int×Int×Int))×Int×(List (Int×Int×Int))×(List Int)×(List Bool)×(List Int)×(List (Int×Int×Int×Int×Int))×(List Int)×(List (Int×Int×Int))×Int×Int×(List (Int×Int×Int))×Int×(List (Int×Int×Int))×(List Int)×(List Bool)×(List Int)×(List (Int×Int×Int×Int×Int))×(List Int)×(List (Int×Int×Int)))):Option (aW (Int×Int×Int×(List (Int×Int×Int))×Int×(List (Int×Int×Int))×(List Int)×(List Bool)×(List Int)×(List (Int×Int×Int×Int×Int))×(List Int)×(List (Int×Int×Int))×Int×Int×(List (Int×Int×Int))×Int×(List (Int×Int×Int))×(List Int)×(List Bool)×(List Int)×(List (Int×Int×Int×Int×Int))×(List Int)×(List (Int×Int×Int))) Bool):=
 bif decide (s.1<(aa s.2.2.2.2.2.2.2.2.2.2.2.1.length)) then
  (aK s.2.2.2.2.2.2.2.2.2.2.2.1 s.1).bind fun a0=>
  (aK s.2.2.2.2.2.2.2.2.2.2.2.2.2.2.2.2.2.2.2.2.2.2 s.1).bind fun a1=>
  bif !((a0.1==a1.1)&&((a0.2.1==a1.2.1)&&(a0.2.2==a1.2.2))) then
   some (.done false)
  else
   some (.next (aA .i64 (s.1+1),s.2))
 else
  some (.done true)
def EL (N:Nat) (p0:aJ) (p1:aJ):Option Bool:=
 bif !((p0.now.1==p1.now.1)&&(p0.now.2==p1.now.2)) then
  some false
 else
  ((vW N) p0.field p1.field).bind fun b0=>
  bif !b0 then
   some false
  else
   ((EI N) p0.certs p1.certs).bind fun b1=>
   bif !b1 then
    some false
   else
    ((EK N) p0.agenda p1.agenda).bind fun b2=>
    bif !b2 then
     some false
    else
     bif (aa p0.due.length) !=(aa p1.due.length) then
      some false
     else
      (aS N) (E3 N) (0,p0.now.1,p0.now.2,p0.field.points,p0.certs.next_,p0.certs.list,p0.agenda.slots.uses,p0.agenda.slots.used,p0.agenda.slots.free,p0.agenda.heap,p0.agenda.where_,p0.due,p1.now.1,p1.now.2,p1.field.points,p1.certs.next_,p1.certs.list,p1.agenda.slots.uses,p1.agenda.slots.used,p1.agenda.slots.free,p1.agenda.heap,p1.agenda.where_,p1.due)
def c49 (N:Nat):aU:=⟨aC.cons (aE.agg bE) (aC.one (aE.agg bE)),aE.bool,fun a=>(EL N) a.1 a.2,.pure,false⟩
theorem aIY (N:Nat):aB tab 49 (c49 N):=aB.of aHE (cx:=(aM (aG N) [(24,(c24 N)),(104,(aKH N)),(105,(aKK N))] [] [] [])) rfl (aL.make ⟨(S0 N),(aDf N),(aDi N),trivial⟩ trivial trivial) (fun a=>by kernel_rfl)
def EM (N:Nat) (p0:aR) (p1:aR):Option Bool:=
 ((cN N) p0.places p1.places).bind fun b0=>
 bif b0 then
  ((cN N) p0.wins p1.wins).bind fun b1=>
  some b1
 else
  some false
def c50 (N:Nat):aU:=⟨aC.cons (aE.agg cL) (aC.one (aE.agg cL)),aE.bool,fun a=>(EM N) a.1 a.2,.pure,false⟩
theorem aIZ (N:Nat):aB tab 50 (c50 N):=aB.of aHF (cx:=(aM (aG N) [(29,(c29 N))] [] [] [])) rfl (aL.make ⟨(MM N),trivial⟩ trivial trivial) (fun a=>by kernel_rfl)
def wI (N:Nat) (p0:aN) (p1:aN):Option Bool:=
 ((EL N) p0.clock p1.clock).bind fun b0=>
 bif b0 then
  ((EM N) p0.bracket p1.bracket).bind fun b1=>
  some b1
 else
  some false
def c16 (N:Nat):aU:=⟨aC.cons (aE.agg dC) (aC.one (aE.agg dC)),aE.bool,fun a=>(wI N) a.1 a.2,.pure,false⟩
theorem aI0 (N:Nat):aB tab 16 (c16 N):=aB.of aHl (cx:=(aM (aG N) [(49,(c49 N)),(50,(c50 N))] [] [] [])) rfl (aL.make ⟨(aIY N),(aIZ N),trivial⟩ trivial trivial) (fun a=>by kernel_rfl)
def fO (N:Nat) (s:(Int×Int×Int×Int×Int×Int×Int×Int×Int×Int×Int×Int×Int×Int×Int×(List (Int×Int×Int))×Int×(List (Int×Int×Int))×(List Int)×(List Bool)×(List Int)×(List (Int×Int×Int×Int×Int))×(List Int)×(List (Int×Int×Int))×(List Int)×(List Int)×Int×Int×(List (Int×Int×Int))×Int×(List (Int×Int×Int))×(List Int)×(List Bool)×(List Int)×(List (Int×Int×Int×Int×Int))×(List Int)×(List (Int×Int×Int))×(List Int)×(List Int)×Int×Int×(List (Int×Int×Int))×Int×(List (Int×Int×Int))×(List Int)×(List Bool)×(List Int)×(List (Int×Int×Int×Int×Int))×(List Int)×(List (Int×Int×Int))×(List Int)×(List Int)×(List (Int×Int×Int)))):Option (aW (Int×Int×Int×Int×Int×Int×Int×Int×Int×Int×Int×Int×Int×Int×Int×(List (Int×Int×Int))×Int×(List (Int×Int×Int))×(List Int)×(List Bool)×(List Int)×(List (Int×Int×Int×Int×Int))×(List Int)×(List (Int×Int×Int))×(List Int)×(List Int)×Int×Int×(List (Int×Int×Int))×Int×(List (Int×Int×Int))×(List Int)×(List Bool)×(List Int)×(List (Int×Int×Int×Int×Int))×(List Int)×(List (Int×Int×Int))×(List Int)×(List Int)×Int×Int×(List (Int×Int×Int))×Int×(List (Int×Int×Int))×(List Int)×(List Bool)×(List Int)×(List (Int×Int×Int×Int×Int))×(List Int)×(List (Int×Int×Int))×(List Int)×(List Int)×(List (Int×Int×Int))) Bool):=
 bif decide (s.2.2.2.2.2.2.2.2.2.2.2.2.1<64) then
  (bD s.2.2.2.2.2.2.2.2.2.2.2.2.2.2.2.2.2.2.2.2.2.2.2.2.2.2.2.2.2.2.2.2.2.2.2.2.2.2.2.2.2.2.2.2.2.2.2.2.2.2.2.2 [(s.2.2.2.2.2.2.2.2.2.2.2.2.1,s.2.2.2.2.2.2.2.2.2.2.2.2.1,0)]).bind fun l0=>
  some (.next (s.1,s.2.1,s.2.2.1,s.2.2.2.1,s.2.2.2.2.1,s.2.2.2.2.2.1,s.2.2.2.2.2.2.1,s.2.2.2.2.2.2.2.1,s.2.2.2.2.2.2.2.2.1,s.2.2.2.2.2.2.2.2.2.1,s.2.2.2.2.2.2.2.2.2.2.1,s.2.2.2.2.2.2.2.2.2.2.2.1,aA .i64 (s.2.2.2.2.2.2.2.2.2.2.2.2.1+1),s.2.2.2.2.2.2.2.2.2.2.2.2.2.1,s.2.2.2.2.2.2.2.2.2.2.2.2.2.2.1,s.2.2.2.2.2.2.2.2.2.2.2.2.2.2.2.1,s.2.2.2.2.2.2.2.2.2.2.2.2.2.2.2.2.1,s.2.2.2.2.2.2.2.2.2.2.2.2.2.2.2.2.2.1,s.2.2.2.2.2.2.2.2.2.2.2.2.2.2.2.2.2.2.1,s.2.2.2.2.2.2.2.2.2.2.2.2.2.2.2.2.2.2.2.1,s.2.2.2.2.2.2.2.2.2.2.2.2.2.2.2.2.2.2.2.2.1,s.2.2.2.2.2.2.2.2.2.2.2.2.2.2.2.2.2.2.2.2.2.1,s.2.2.2.2.2.2.2.2.2.2.2.2.2.2.2.2.2.2.2.2.2.2.1,s.2.2.2.2.2.2.2.2.2.2.2.2.2.2.2.2.2.2.2.2.2.2.2.1,s.2.2.2.2.2.2.2.2.2.2.2.2.2.2.2.2.2.2.2.2.2.2.2.2.1,s.2.2.2.2.2.2.2.2.2.2.2.2.2.2.2.2.2.2.2.2.2.2.2.2.2.1,s.2.2.2.2.2.2.2.2.2.2.2.2.2.2.2.2.2.2.2.2.2.2.2.2.2.2.1,s.2.2.2.2.2.2.2.2.2.2.2.2.2.2.2.2.2.2.2.2.2.2.2.2.2.2.2.1,s.2.2.2.2.2.2.2.2.2.2.2.2.2.2.2.2.2.2.2.2.2.2.2.2.2.2.2.2.1,s.2.2.2.2.2.2.2.2.2.2.2.2.2.2.2.2.2.2.2.2.2.2.2.2.2.2.2.2.2.1,s.2.2.2.2.2.2.2.2.2.2.2.2.2.2.2.2.2.2.2.2.2.2.2.2.2.2.2.2.2.2.1,s.2.2.2.2.2.2.2.2.2.2.2.2.2.2.2.2.2.2.2.2.2.2.2.2.2.2.2.2.2.2.2.1,s.2.2.2.2.2.2.2.2.2.2.2.2.2.2.2.2.2.2.2.2.2.2.2.2.2.2.2.2.2.2.2.2.1,s.2.2.2.2.2.2.2.2.2.2.2.2.2.2.2.2.2.2.2.2.2.2.2.2.2.2.2.2.2.2.2.2.2.1,s.2.2.2.2.2.2.2.2.2.2.2.2.2.2.2.2.2.2.2.2.2.2.2.2.2.2.2.2.2.2.2.2.2.2.1,s.2.2.2.2.2.2.2.2.2.2.2.2.2.2.2.2.2.2.2.2.2.2.2.2.2.2.2.2.2.2.2.2.2.2.2.1,s.2.2.2.2.2.2.2.2.2.2.2.2.2.2.2.2.2.2.2.2.2.2.2.2.2.2.2.2.2.2.2.2.2.2.2.2.1,s.2.2.2.2.2.2.2.2.2.2.2.2.2.2.2.2.2.2.2.2.2.2.2.2.2.2.2.2.2.2.2.2.2.2.2.2.2.1,s.2.2.2.2.2.2.2.2.2.2.2.2.2.2.2.2.2.2.2.2.2.2.2.2.2.2.2.2.2.2.2.2.2.2.2.2.2.2.1,s.2.2.2.2.2.2.2.2.2.2.2.2.2.2.2.2.2.2.2.2.2.2.2.2.2.2.2.2.2.2.2.2.2.2.2.2.2.2.2.1,s.2.2.2.2.2.2.2.2.2.2.2.2.2.2.2.2.2.2.2.2.2.2.2.2.2.2.2.2.2.2.2.2.2.2.2.2.2.2.2.2.1,s.2.2.2.2.2.2.2.2.2.2.2.2.2.2.2.2.2.2.2.2.2.2.2.2.2.2.2.2.2.2.2.2.2.2.2.2.2.2.2.2.2.1,s.2.2.2.2.2.2.2.2.2.2.2.2.2.2.2.2.2.2.2.2.2.2.2.2.2.2.2.2.2.2.2.2.2.2.2.2.2.2.2.2.2.2.1,s.2.2.2.2.2.2.2.2.2.2.2.2.2.2.2.2.2.2.2.2.2.2.2.2.2.2.2.2.2.2.2.2.2.2.2.2.2.2.2.2.2.2.2.1,s.2.2.2.2.2.2.2.2.2.2.2.2.2.2.2.2.2.2.2.2.2.2.2.2.2.2.2.2.2.2.2.2.2.2.2.2.2.2.2.2.2.2.2.2.1,s.2.2.2.2.2.2.2.2.2.2.2.2.2.2.2.2.2.2.2.2.2.2.2.2.2.2.2.2.2.2.2.2.2.2.2.2.2.2.2.2.2.2.2.2.2.1,s.2.2.2.2.2.2.2.2.2.2.2.2.2.2.2.2.2.2.2.2.2.2.2.2.2.2.2.2.2.2.2.2.2.2.2.2.2.2.2.2.2.2.2.2.2.2.1,s.2.2.2.2.2.2.2.2.2.2.2.2.2.2.2.2.2.2.2.2.2.2.2.2.2.2.2.2.2.2.2.2.2.2.2.2.2.2.2.2.2.2.2.2.2.2.2.1,s.2.2.2.2.2.2.2.2.2.2.2.2.2.2.2.2.2.2.2.2.2.2.2.2.2.2.2.2.2.2.2.2.2.2.2.2.2.2.2.2.2.2.2.2.2.2.2.2.1,s.2.2.2.2.2.2.2.2.2.2.2.2.2.2.2.2.2.2.2.2.2.2.2.2.2.2.2.2.2.2.2.2.2.2.2.2.2.2.2.2.2.2.2.2.2.2.2.2.2.1,s.2.2.2.2.2.2.2.2.2.2.2.2.2.2.2.2.2.2.2.2.2.2.2.2.2.2.2.2.2.2.2.2.2.2.2.2.2.2.2.2.2.2.2.2.2.2.2.2.2.2.1,s.2.2.2.2.2.2.2.2.2.2.2.2.2.2.2.2.2.2.2.2.2.2.2.2.2.2.2.2.2.2.2.2.2.2.2.2.2.2.2.2.2.2.2.2.2.2.2.2.2.2.2.1,l0))
 else
  ((oO N) 0).bind fun a1=>
  ((jC N) (Field.mk s.2.2.2.2.2.2.2.2.2.2.2.2.2.2.2.2.2.2.2.2.2.2.2.2.2.2.2.2.2.2.2.2.2.2.2.2.2.2.2.2.2.2.2.2.2.2.2.2.2.2.2.2) a1).bind fun a2=>
  ((dF N) a2.1 (64,0,0)).bind fun a3=>
  ((cH N) a2.1 63).bind fun a4=>
  ((dF N) a4.1 (100,0,0)).bind fun a5=>
  ((nW N) a5.1).bind fun a6=>
  ((cH N) (aN.mk (aJ.mk (s.2.2.2.2.2.2.2.2.2.2.2.2.2.1,s.2.2.2.2.2.2.2.2.2.2.2.2.2.2.1) (Field.mk s.2.2.2.2.2.2.2.2.2.2.2.2.2.2.2.1) (aQ.mk s.2.2.2.2.2.2.2.2.2.2.2.2.2.2.2.2.1 s.2.2.2.2.2.2.2.2.2.2.2.2.2.2.2.2.2.1) (aH.mk (aO.mk s.2.2.2.2.2.2.2.2.2.2.2.2.2.2.2.2.2.2.1 s.2.2.2.2.2.2.2.2.2.2.2.2.2.2.2.2.2.2.2.1 s.2.2.2.2.2.2.2.2.2.2.2.2.2.2.2.2.2.2.2.2.1) s.2.2.2.2.2.2.2.2.2.2.2.2.2.2.2.2.2.2.2.2.2.1 s.2.2.2.2.2.2.2.2.2.2.2.2.2.2.2.2.2.2.2.2.2.2.1) s.2.2.2.2.2.2.2.2.2.2.2.2.2.2.2.2.2.2.2.2.2.2.2.1) (aR.mk s.2.2.2.2.2.2.2.2.2.2.2.2.2.2.2.2.2.2.2.2.2.2.2.2.1 s.2.2.2.2.2.2.2.2.2.2.2.2.2.2.2.2.2.2.2.2.2.2.2.2.2.1)) 1).bind fun a7=>
  ((cH N) a7.1 2).bind fun a8=>
  ((gZ N) a8.1 5).bind fun a9=>
  ((gZ N) a8.1 (-1)).bind fun a10=>
  ((gZ N) (aN.mk (aJ.mk (0,0) (Field.mk []) (aQ.mk 0 []) (aH.mk (aO.mk [] [] []) [] []) []) (aR.mk [] [])) 5).bind fun a11=>
  ((cN N) a8.1.bracket.places [5,-1]).bind fun b12=>
  bif !b12 then
   some (.done false)
  else
   bif a7.2 !=0 then
    some (.done false)
   else
    bif a8.2 !=0 then
     some (.done false)
    else
     bif a9.2 !=0 then
      some (.done false)
     else
      bif a9.1 !=0 then
       some (.done false)
      else
       bif a10.2 !=6 then
        some (.done false)
       else
        bif a11.2 !=8 then
         some (.done false)
        else
         (sR N).bind fun b13=>
         bif b13 then
          bif s.2.2.2.2.2.2.2.1==0 then
           bif a2.2==0 then
            bif s.1==8 then
             bif s.2.1==8 then
              bif s.2.2.1==14 then
               bif s.2.2.2.1==6 then
                bif s.2.2.2.2.1==6 then
                 bif s.2.2.2.2.2.1==6 then
                  bif s.2.2.2.2.2.2.1==8 then
                   bif s.2.2.2.2.2.2.2.2.1==0 then
                    bif s.2.2.2.2.2.2.2.2.2.1==0 then
                     bif s.2.2.2.2.2.2.2.2.2.2.1==6 then
                      bif s.2.2.2.2.2.2.2.2.2.2.2.1==18 then
                       bif a3.2==18 then
                        bif a4.2==0 then
                         bif a5.2==0 then
                          bif a6.2==0 then
                           bif a6.1==62 then
                            ((wI N) (aN.mk (aJ.mk (s.2.2.2.2.2.2.2.2.2.2.2.2.2.2.2.2.2.2.2.2.2.2.2.2.2.2.2.2.2.2.2.2.2.2.2.2.2.2.2.1,s.2.2.2.2.2.2.2.2.2.2.2.2.2.2.2.2.2.2.2.2.2.2.2.2.2.2.2.2.2.2.2.2.2.2.2.2.2.2.2.2.1) (Field.mk s.2.2.2.2.2.2.2.2.2.2.2.2.2.2.2.2.2.2.2.2.2.2.2.2.2.2.2.2.2.2.2.2.2.2.2.2.2.2.2.2.2.1) (aQ.mk s.2.2.2.2.2.2.2.2.2.2.2.2.2.2.2.2.2.2.2.2.2.2.2.2.2.2.2.2.2.2.2.2.2.2.2.2.2.2.2.2.2.2.1 s.2.2.2.2.2.2.2.2.2.2.2.2.2.2.2.2.2.2.2.2.2.2.2.2.2.2.2.2.2.2.2.2.2.2.2.2.2.2.2.2.2.2.2.1) (aH.mk (aO.mk s.2.2.2.2.2.2.2.2.2.2.2.2.2.2.2.2.2.2.2.2.2.2.2.2.2.2.2.2.2.2.2.2.2.2.2.2.2.2.2.2.2.2.2.2.1 s.2.2.2.2.2.2.2.2.2.2.2.2.2.2.2.2.2.2.2.2.2.2.2.2.2.2.2.2.2.2.2.2.2.2.2.2.2.2.2.2.2.2.2.2.2.1 s.2.2.2.2.2.2.2.2.2.2.2.2.2.2.2.2.2.2.2.2.2.2.2.2.2.2.2.2.2.2.2.2.2.2.2.2.2.2.2.2.2.2.2.2.2.2.1) s.2.2.2.2.2.2.2.2.2.2.2.2.2.2.2.2.2.2.2.2.2.2.2.2.2.2.2.2.2.2.2.2.2.2.2.2.2.2.2.2.2.2.2.2.2.2.2.1 s.2.2.2.2.2.2.2.2.2.2.2.2.2.2.2.2.2.2.2.2.2.2.2.2.2.2.2.2.2.2.2.2.2.2.2.2.2.2.2.2.2.2.2.2.2.2.2.2.1) s.2.2.2.2.2.2.2.2.2.2.2.2.2.2.2.2.2.2.2.2.2.2.2.2.2.2.2.2.2.2.2.2.2.2.2.2.2.2.2.2.2.2.2.2.2.2.2.2.2.1) (aR.mk s.2.2.2.2.2.2.2.2.2.2.2.2.2.2.2.2.2.2.2.2.2.2.2.2.2.2.2.2.2.2.2.2.2.2.2.2.2.2.2.2.2.2.2.2.2.2.2.2.2.2.1 s.2.2.2.2.2.2.2.2.2.2.2.2.2.2.2.2.2.2.2.2.2.2.2.2.2.2.2.2.2.2.2.2.2.2.2.2.2.2.2.2.2.2.2.2.2.2.2.2.2.2.2.1)) (aN.mk (aJ.mk (s.2.2.2.2.2.2.2.2.2.2.2.2.2.2.2.2.2.2.2.2.2.2.2.2.2.2.2.2.2.2.2.2.2.2.2.2.2.2.2.1,s.2.2.2.2.2.2.2.2.2.2.2.2.2.2.2.2.2.2.2.2.2.2.2.2.2.2.2.2.2.2.2.2.2.2.2.2.2.2.2.2.1) (Field.mk s.2.2.2.2.2.2.2.2.2.2.2.2.2.2.2.2.2.2.2.2.2.2.2.2.2.2.2.2.2.2.2.2.2.2.2.2.2.2.2.2.2.1) (aQ.mk s.2.2.2.2.2.2.2.2.2.2.2.2.2.2.2.2.2.2.2.2.2.2.2.2.2.2.2.2.2.2.2.2.2.2.2.2.2.2.2.2.2.2.1 s.2.2.2.2.2.2.2.2.2.2.2.2.2.2.2.2.2.2.2.2.2.2.2.2.2.2.2.2.2.2.2.2.2.2.2.2.2.2.2.2.2.2.2.1) (aH.mk (aO.mk s.2.2.2.2.2.2.2.2.2.2.2.2.2.2.2.2.2.2.2.2.2.2.2.2.2.2.2.2.2.2.2.2.2.2.2.2.2.2.2.2.2.2.2.2.1 s.2.2.2.2.2.2.2.2.2.2.2.2.2.2.2.2.2.2.2.2.2.2.2.2.2.2.2.2.2.2.2.2.2.2.2.2.2.2.2.2.2.2.2.2.2.1 s.2.2.2.2.2.2.2.2.2.2.2.2.2.2.2.2.2.2.2.2.2.2.2.2.2.2.2.2.2.2.2.2.2.2.2.2.2.2.2.2.2.2.2.2.2.2.1) s.2.2.2.2.2.2.2.2.2.2.2.2.2.2.2.2.2.2.2.2.2.2.2.2.2.2.2.2.2.2.2.2.2.2.2.2.2.2.2.2.2.2.2.2.2.2.2.1 s.2.2.2.2.2.2.2.2.2.2.2.2.2.2.2.2.2.2.2.2.2.2.2.2.2.2.2.2.2.2.2.2.2.2.2.2.2.2.2.2.2.2.2.2.2.2.2.2.1) s.2.2.2.2.2.2.2.2.2.2.2.2.2.2.2.2.2.2.2.2.2.2.2.2.2.2.2.2.2.2.2.2.2.2.2.2.2.2.2.2.2.2.2.2.2.2.2.2.2.1) (aR.mk s.2.2.2.2.2.2.2.2.2.2.2.2.2.2.2.2.2.2.2.2.2.2.2.2.2.2.2.2.2.2.2.2.2.2.2.2.2.2.2.2.2.2.2.2.2.2.2.2.2.2.1 s.2.2.2.2.2.2.2.2.2.2.2.2.2.2.2.2.2.2.2.2.2.2.2.2.2.2.2.2.2.2.2.2.2.2.2.2.2.2.2.2.2.2.2.2.2.2.2.2.2.2.2.1))).bind fun b14=>
                            bif b14 then
                             bif (aa s.2.2.2.2.2.2.2.2.2.2.2.2.2.2.2.2.2.2.2.2.2.2.2.2.2.2.2.2.2.2.2.2.2.2.2.2.2.2.2.2.2.2.2.1.length)==0 then
                              ((cN N) s.2.2.2.2.2.2.2.2.2.2.2.2.2.2.2.2.2.2.2.2.2.2.2.2.2.2.2.2.2.2.2.2.2.2.2.2.2.1 [9]).bind fun b15=>
                              bif b15 then
                               ((cN N) s.2.2.2.2.2.2.2.2.2.2.2.2.2.2.2.2.2.2.2.2.2.2.2.2.2.2.2.2.2.2.2.2.2.2.2.2.2.2.2.2.2.2.2.2.2.2.2.2.2.2.1 [-1]).bind fun b16=>
                               some (.done b16)
                              else
                               some (.done false)
                             else
                              some (.done false)
                            else
                             some (.done false)
                           else
                            some (.done false)
                          else
                           some (.done false)
                         else
                          some (.done false)
                        else
                         some (.done false)
                       else
                        some (.done false)
                      else
                       some (.done false)
                     else
                      some (.done false)
                    else
                     some (.done false)
                   else
                    some (.done false)
                  else
                   some (.done false)
                 else
                  some (.done false)
                else
                 some (.done false)
               else
                some (.done false)
              else
               some (.done false)
             else
              some (.done false)
            else
             some (.done false)
           else
            some (.done false)
          else
           some (.done false)
         else
          some (.done false)
def hZ (N:Nat):Option Bool:=
 (nF N).bind fun r0=>
 ((dF N) (aN.mk (aJ.mk (0,0) (Field.mk []) (aQ.mk 0 []) (aH.mk (aO.mk [] [] []) [] []) []) (aR.mk [] [])) (-1,0,0)).bind fun a1=>
 ((dF N) r0 (-1,0,0)).bind fun a2=>
 ((dF N) r0 (5,0,0)).bind fun a3=>
 ((cH N) r0 6).bind fun a4=>
 ((cH N) r0 (-1)).bind fun a5=>
 ((jS N) r0 (6,0,0)).bind fun a6=>
 ((jS N) r0 (5,0,1048577)).bind fun a7=>
 ((oO N) 3).bind fun a8=>
 ((jC N) (Field.mk []) a8).bind fun a9=>
 ((dF N) a9.1 (9,0,0)).bind fun a10=>
 ((cH N) a10.1 9).bind fun a11=>
 ((cH N) a11.1 9).bind fun a12=>
 ((qI N) r0).bind fun r13=>
 ((dF N) (aN.mk (aJ.mk r13.clock.now r13.clock.field (aQ.mk 1000000 r13.clock.certs.list) r13.clock.agenda r13.clock.due) r13.bracket) (7,0,0)).bind fun a14=>
 (aS N) (fO N) (a1.2,a2.2,a3.2,a4.2,a5.2,a6.2,a7.2,a9.2,a10.2,a11.2,a12.2,a14.2,0,r0.clock.now.1,r0.clock.now.2,r0.clock.field.points,r0.clock.certs.next_,r0.clock.certs.list,r0.clock.agenda.slots.uses,r0.clock.agenda.slots.used,r0.clock.agenda.slots.free,r0.clock.agenda.heap,r0.clock.agenda.where_,r0.clock.due,r0.bracket.places,r0.bracket.wins,a10.1.clock.now.1,a10.1.clock.now.2,a10.1.clock.field.points,a10.1.clock.certs.next_,a10.1.clock.certs.list,a10.1.clock.agenda.slots.uses,a10.1.clock.agenda.slots.used,a10.1.clock.agenda.slots.free,a10.1.clock.agenda.heap,a10.1.clock.agenda.where_,a10.1.clock.due,a10.1.bracket.places,a10.1.bracket.wins,a11.1.clock.now.1,a11.1.clock.now.2,a11.1.clock.field.points,a11.1.clock.certs.next_,a11.1.clock.certs.list,a11.1.clock.agenda.slots.uses,a11.1.clock.agenda.slots.used,a11.1.clock.agenda.slots.free,a11.1.clock.agenda.heap,a11.1.clock.agenda.where_,a11.1.clock.due,a11.1.bracket.places,a11.1.bracket.wins,[])
def c7 (N:Nat):aU:=⟨aC.nil,aE.bool,fun _=>(hZ N),.pure,false⟩
theorem aKL (N:Nat):aB tab 7 (c7 N):=aB.of aDJ (cx:=(aM (aG N) [(25,(c25 N)),(17,(c17 N)),(12,(c12 N)),(19,(c19 N)),(27,(c27 N)),(26,(c26 N)),(11,(c11 N)),(11,(aKG N)),(28,(c28 N)),(14,(c14 N)),(29,(c29 N)),(21,(c21 N)),(16,(c16 N))] [] [] [])) rfl (aL.make ⟨(S5 N),(TJ N),(TM N),(aIQ N),(SX N),(S4 N),(aIS N),(aDe N),(aIU N),(aIV N),(MM N),(aIW N),(aI0 N),trivial⟩ trivial trivial) (fun a=>by kernel_rfl)
end
end Go.Proofs.YtogihpogmfjoiaaGreat
