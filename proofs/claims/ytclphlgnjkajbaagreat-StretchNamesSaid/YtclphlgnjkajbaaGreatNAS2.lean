/- Plain functions for what the functions of the seat compute. Printed by a program. -/
import Derived.Test.YtclphlgnjkajbaaGreatNVm3
import Derived.Test.YtclphlgnjkajbaaGreatNAXT
import Derived.Test.YtclphlgnjkajbaaGreatNAS1
open Int renaming ofNat->aa,tdiv->ac
open List renaming replicate->ae
open Nat renaming ble->af
set_option maxRecDepth 100000
namespace Go.Proofs.YtclphlgnjkajbaaGreat
open Go.Vm
noncomputable section
def cR (_:Nat) (a:((List Int)×(List Bool)×(List Int)×Int×Int×Int×Int×Int×Int×(List (Int×Int×Int×Int×Int))×(List Int))):Option ((List (Int×Int×Int×Int×Int))×(List Int)):=
 (aL a.2.2.2.2.2.2.2.2.2.1 a.2.2.2.1).bind fun _=>
 (aL a.2.2.2.2.2.2.2.2.2.2 a.2.2.2.2.2.2.2.1).bind fun _=>
 bif ((aZ a.2.2.2.2.2.2.2.2.2.1 a.2.2.2.1 (a.2.2.2.2.1,a.2.2.2.2.2.1,a.2.2.2.2.2.2.1,a.2.2.2.2.2.2.2.1,a.2.2.2.2.2.2.2.2.1)).length)==a.2.2.2.2.2.2.2.2.2.1.length then
  bif ((aZ a.2.2.2.2.2.2.2.2.2.2 a.2.2.2.2.2.2.2.1 a.2.2.2.1).length)==a.2.2.2.2.2.2.2.2.2.2.length then
   some (aZ a.2.2.2.2.2.2.2.2.2.1 a.2.2.2.1 (a.2.2.2.2.1,a.2.2.2.2.2.1,a.2.2.2.2.2.2.1,a.2.2.2.2.2.2.2.1,a.2.2.2.2.2.2.2.2.1),aZ a.2.2.2.2.2.2.2.2.2.2 a.2.2.2.2.2.2.2.1 a.2.2.2.1)
  else
   none
 else
  none
def aAg (N:Nat):cA:=⟨[.l [.i .i64],.l [.b],.l [.i .i64],.i,.i,.i,.i,.i,.i,.l [.i .i64,.i .i64,.i .i64,.i .i64,.i .i64],.l [.i .i64]],[.agg [.sl [.i .i64] [],.sl [.b] [],.sl [.i .i64] [],.own 0 false,.own 1 false],.int .i64 0,.agg [.int .i64 0,.int .i64 0,.int .i64 0,.int .i64 0,.int .i64 0]],[.arr [.i .i64,.i .i64,.i .i64,.i .i64,.i .i64] [],.arr [.i .i64] []],[.l [.i .i64,.i .i64,.i .i64,.i .i64,.i .i64],.l [.i .i64]],.tup [],[.arr [.i .i64,.i .i64,.i .i64,.i .i64,.i .i64] [],.arr [.i .i64] []],fun a=>(cR N) a⟩
theorem XG (N:Nat):eE tab 408 (aAg N):=eE.of UQ (wd:=false) (cx:=(aN (aK N) [] [] [] [])) (aM.make trivial trivial trivial) (fun a=>by kernel_rfl)
def lG (N:Nat) (c0:((List Int)×(List Bool)×(List Int)×Int×Int×Int×Int×Int×Int×(List (Int×Int×Int×Int×Int))×(List Int))) (s:(Int×Int×(List (Int×Int×Int×Int×Int))×(List Int)×(List Int)×(List Bool)×(List Int)×Int×Int×Int×Int×Int)):Option (aS (Int×Int×(List (Int×Int×Int×Int×Int))×(List Int)×(List Int)×(List Bool)×(List Int)×Int×Int×Int×Int×Int) (aS (Int×(List (Int×Int×Int×Int×Int))×(List Int)×(List Int)×(List Bool)×(List Int)×Int×Int×Int×Int×Int) ((List (Int×Int×Int×Int×Int))×(List Int)))):=
 bif decide (s.2.1<(aa s.2.2.1.length)) then
  bif decide ((aA .i64 (s.2.1+1))<(aa s.2.2.1.length)) then
   (aL s.2.2.1 (aA .i64 (s.2.1+1))).bind fun a0=>
   (aL s.2.2.1 s.2.1).bind fun a1=>
   ((cH N) a0 a1).bind fun n2=>
   bif decide (n2<0) then
    (aL s.2.2.1 (aA .i64 (s.2.1+1))).bind fun a3=>
    ((cH N) a3 s.2.2.2.2.2.2.2).bind fun n4=>
    bif decide (0<=n4) then
     ((cR N) (s.2.2.2.2.1,s.2.2.2.2.2.1,s.2.2.2.2.2.2.1,s.1,s.2.2.2.2.2.2.2.1,s.2.2.2.2.2.2.2.2.1,s.2.2.2.2.2.2.2.2.2.1,s.2.2.2.2.2.2.2.2.2.2.1,s.2.2.2.2.2.2.2.2.2.2.2,s.2.2.1,s.2.2.2.1)).bind fun a5=>
     bif a5.1.length==c0.2.2.2.2.2.2.2.2.2.1.length then
      bif a5.2.length==c0.2.2.2.2.2.2.2.2.2.2.length then
       some (.done (.done a5))
      else
       none
     else
      none
    else
     (aL s.2.2.1 (aA .i64 (s.2.1+1))).bind fun a6=>
     ((cR N) (s.2.2.2.2.1,s.2.2.2.2.2.1,s.2.2.2.2.2.2.1,s.1,a6.1,a6.2.1,a6.2.2.1,a6.2.2.2.1,a6.2.2.2.2,s.2.2.1,s.2.2.2.1)).bind fun a7=>
     some (.next (aA .i64 (s.2.1+1),aA .i64 ((aA .i64 (2*(aA .i64 (s.2.1+1))))+1),a7.1,a7.2,s.2.2.2.2))
   else
    (aL s.2.2.1 s.2.1).bind fun a8=>
    ((cH N) a8 s.2.2.2.2.2.2.2).bind fun n9=>
    bif decide (0<=n9) then
     ((cR N) (s.2.2.2.2.1,s.2.2.2.2.2.1,s.2.2.2.2.2.2.1,s.1,s.2.2.2.2.2.2.2.1,s.2.2.2.2.2.2.2.2.1,s.2.2.2.2.2.2.2.2.2.1,s.2.2.2.2.2.2.2.2.2.2.1,s.2.2.2.2.2.2.2.2.2.2.2,s.2.2.1,s.2.2.2.1)).bind fun a10=>
     bif a10.1.length==c0.2.2.2.2.2.2.2.2.2.1.length then
      bif a10.2.length==c0.2.2.2.2.2.2.2.2.2.2.length then
       some (.done (.done a10))
      else
       none
     else
      none
    else
     (aL s.2.2.1 s.2.1).bind fun a11=>
     ((cR N) (s.2.2.2.2.1,s.2.2.2.2.2.1,s.2.2.2.2.2.2.1,s.1,a11.1,a11.2.1,a11.2.2.1,a11.2.2.2.1,a11.2.2.2.2,s.2.2.1,s.2.2.2.1)).bind fun a12=>
     some (.next (s.2.1,aA .i64 ((aA .i64 (2*s.2.1))+1),a12.1,a12.2,s.2.2.2.2))
  else
   (aL s.2.2.1 s.2.1).bind fun a13=>
   ((cH N) a13 s.2.2.2.2.2.2.2).bind fun n14=>
   bif decide (0<=n14) then
    ((cR N) (s.2.2.2.2.1,s.2.2.2.2.2.1,s.2.2.2.2.2.2.1,s.1,s.2.2.2.2.2.2.2.1,s.2.2.2.2.2.2.2.2.1,s.2.2.2.2.2.2.2.2.2.1,s.2.2.2.2.2.2.2.2.2.2.1,s.2.2.2.2.2.2.2.2.2.2.2,s.2.2.1,s.2.2.2.1)).bind fun a15=>
    bif a15.1.length==c0.2.2.2.2.2.2.2.2.2.1.length then
     bif a15.2.length==c0.2.2.2.2.2.2.2.2.2.2.length then
      some (.done (.done a15))
     else
      none
    else
     none
   else
    (aL s.2.2.1 s.2.1).bind fun a16=>
    ((cR N) (s.2.2.2.2.1,s.2.2.2.2.2.1,s.2.2.2.2.2.2.1,s.1,a16.1,a16.2.1,a16.2.2.1,a16.2.2.2.1,a16.2.2.2.2,s.2.2.1,s.2.2.2.1)).bind fun a17=>
    some (.next (s.2.1,aA .i64 ((aA .i64 (2*s.2.1))+1),a17.1,a17.2,s.2.2.2.2))
 else
  ((cR N) (s.2.2.2.2.1,s.2.2.2.2.2.1,s.2.2.2.2.2.2.1,s.1,s.2.2.2.2.2.2.2.1,s.2.2.2.2.2.2.2.2.1,s.2.2.2.2.2.2.2.2.2.1,s.2.2.2.2.2.2.2.2.2.2.1,s.2.2.2.2.2.2.2.2.2.2.2,s.2.2.1,s.2.2.2.1)).bind fun a18=>
  bif a18.1.length==c0.2.2.2.2.2.2.2.2.2.1.length then
   bif a18.2.length==c0.2.2.2.2.2.2.2.2.2.2.length then
    some (.done (.done a18))
   else
    none
  else
   none
def sQ (N:Nat) (c0:((List Int)×(List Bool)×(List Int)×Int×Int×Int×Int×Int×Int×(List (Int×Int×Int×Int×Int))×(List Int))) (s:(Int×(List (Int×Int×Int×Int×Int))×(List Int)×(List Int)×(List Bool)×(List Int)×Int×Int×Int×Int×Int)):Option (aS (Int×(List (Int×Int×Int×Int×Int))×(List Int)×(List Int)×(List Bool)×(List Int)×Int×Int×Int×Int×Int) ((List (Int×Int×Int×Int×Int))×(List Int))):=
 bif decide (0<s.1) then
  (aL s.2.1 (aA .i64 (ac (aA .i64 (s.1-1)) 2))).bind fun a0=>
  ((cH N) s.2.2.2.2.2.2 a0).bind fun n1=>
  bif decide (n1<0) then
   (aL s.2.1 (aA .i64 (ac (aA .i64 (s.1-1)) 2))).bind fun a2=>
   ((cR N) (s.2.2.2.1,s.2.2.2.2.1,s.2.2.2.2.2.1,s.1,a2.1,a2.2.1,a2.2.2.1,a2.2.2.2.1,a2.2.2.2.2,s.2.1,s.2.2.1)).bind fun a3=>
   some (.next (aA .i64 (ac (aA .i64 (s.1-1)) 2),a3.1,a3.2,s.2.2.2))
  else
   (aO N) ((lG N) c0) (s.1,aA .i64 ((aA .i64 (2*s.1))+1),s.2)
 else
  (aO N) ((lG N) c0) (s.1,aA .i64 ((aA .i64 (2*s.1))+1),s.2)
def jO (N:Nat) (a:((List Int)×(List Bool)×(List Int)×Int×Int×Int×Int×Int×Int×(List (Int×Int×Int×Int×Int))×(List Int))):Option ((List (Int×Int×Int×Int×Int))×(List Int)):=
 (aO N) ((sQ N) a) (a.2.2.2.1,a.2.2.2.2.2.2.2.2.2.1,a.2.2.2.2.2.2.2.2.2.2,a.1,a.2.1,a.2.2.1,a.2.2.2.2.1,a.2.2.2.2.2.1,a.2.2.2.2.2.2.1,a.2.2.2.2.2.2.2.1,a.2.2.2.2.2.2.2.2.1)
def SX (N:Nat):cA:=⟨[.l [.i .i64],.l [.b],.l [.i .i64],.i,.i,.i,.i,.i,.i,.l [.i .i64,.i .i64,.i .i64,.i .i64,.i .i64],.l [.i .i64]],[.agg [.sl [.i .i64] [],.sl [.b] [],.sl [.i .i64] [],.own 0 false,.own 1 false],.int .i64 0,.agg [.int .i64 0,.int .i64 0,.int .i64 0,.int .i64 0,.int .i64 0]],[.arr [.i .i64,.i .i64,.i .i64,.i .i64,.i .i64] [],.arr [.i .i64] []],[.l [.i .i64,.i .i64,.i .i64,.i .i64,.i .i64],.l [.i .i64]],.tup [],[.arr [.i .i64,.i .i64,.i .i64,.i .i64,.i .i64] [],.arr [.i .i64] []],fun a=>(jO N) a⟩
theorem LC (N:Nat):eE tab 384 (SX N):=eE.of UM (wd:=false) (cx:=(aN (aK N) [(259,(aIJ N))] [(408,(SW N)),(408,(aAg N))] [] [])) (aM.make ⟨(M6 N),trivial⟩ ⟨(LB N),(XG N),trivial⟩ trivial) (fun a=>by kernel_rfl)
def A7 (N:Nat) (p0:aE) (p1:Int×Int) (p2:Int×Int):Option (aE×Int):=
 ((jE N) p0).bind fun n0=>
 ((cB N) p2).bind fun n1=>
 bif (if n1>n0 then n1 else n0) !=0 then
  some (aE.mk (aH.mk [] [] []) [] [],if n1>n0 then n1 else n0)
 else
  ((sN N) p0 p1).bind fun a2=>
  bif a2.2 !=0 then
   some (aE.mk (aH.mk [] [] []) [] [],a2.2)
  else
   (bG p0.heap).bind fun l3=>
   (bG p0.where_).bind fun l4=>
   (aL l3 a2.1).bind fun a5=>
   ((jO N) (p0.slots.uses,p0.slots.used,p0.slots.free,a2.1,p2.1,p2.2,a5.2.2.1,a5.2.2.2.1,a5.2.2.2.2,l3,l4)).bind fun a6=>
   some (aE.mk p0.slots a6.1 a6.2,0)
def aTd (N:Nat):aV:=⟨aC.cons (aF.agg cE) (aC.cons (aF.agg (bE.row cM)) (aC.one (aF.agg (bE.row cM)))),aF.tup (aC.cons (aF.agg cE) (aC.one (aF.int .i64))),fun a=>(A7 N) a.1 a.2.1 a.2.2,.frz,false⟩
theorem aJk (N:Nat):aB tab 336 (aTd N):=aB.of aHy (cx:=(aN (aK N) [(158,(W7 N)),(70,(Q9 N)),(381,(aRg N)),(255,aV.clone gP),(34,aV.clone ki)] [(384,(NG N)),(384,(SX N))] [(383,W4)] [])) rfl (aM.make ⟨(AX N),(kE N),(U4 N),oC,fM,trivial⟩ ⟨(CY N),(LC N),trivial⟩ ⟨MY,trivial⟩) (fun a=>by kernel_rfl)
def xP (_:Nat) (p0:Int×Int×Int×Int×Int) (p1:Int):Option Bool:=
 some (p0.2.2.1==p1)
def aTe (N:Nat):aV:=⟨aC.cons (aF.agg (bE.row gP)) (aC.one (aF.ref (bE.int .i64))),aF.bool,fun a=>(xP N) a.1 a.2,.pure,false⟩
theorem aJl (N:Nat):aB tab 386 (aTe N):=aB.of UN (cx:=(aN (aK N) [] [] [] [])) rfl (aM.make trivial trivial trivial) (fun a=>by kernel_rfl)
def iI (N:Nat) (s:((List (Int×Int×Int×Int×Int))×Int×Int×Int)):Option (aS ((List (Int×Int×Int×Int×Int))×Int×Int×Int) Int):=
 bif decide (s.2.2.2<s.2.2.1) then
  (aL s.1 s.2.2.2).bind fun a0=>
  ((xP N) a0 s.2.1).bind fun b1=>
  bif b1 then
   some (.done s.2.2.2)
  else
   some (.next (s.1,s.2.1,s.2.2.1,aA .i64 (s.2.2.2+1)))
 else
  some (.done (-1))
def eM (N:Nat) (p0:List (Int×Int×Int×Int×Int)) (p1:Int):Option Int:=
 (aO N) (iI N) (p0,p1,aa p0.length,0)
def P3 (N:Nat):aV:=⟨aC.cons (aF.sl gP) (aC.one (aF.clo 386 (aC.one (aF.ref (bE.int .i64))))),aF.int .i64,fun a=>(eM N) a.1 a.2,.pure,false⟩
theorem P4 (N:Nat):aB tab 409 (P3 N):=aB.of aIl (cx:=(aN (aK N) [(386,(aTe N))] [] [(386,aEK)] [])) rfl (aM.make ⟨(aJl N),trivial⟩ trivial ⟨UN,trivial⟩) (fun a=>by kernel_rfl)
def dX (N:Nat) (p0:List (Int×Int×Int×Int×Int)) (p1:Int):Option Bool:=
 ((eM N) p0 p1).bind fun n0=>
 some (decide (0<=n0))
def P5 (N:Nat):aV:=⟨aC.cons (aF.sl gP) (aC.one (aF.clo 386 (aC.one (aF.ref (bE.int .i64))))),aF.bool,fun a=>(dX N) a.1 a.2,.pure,false⟩
theorem P6 (N:Nat):aB tab 385 (P5 N):=aB.of aH5 (cx:=(aN (aK N) [(409,(P3 N))] [] [] [])) rfl (aM.make ⟨(P4 N),trivial⟩ trivial trivial) (fun a=>by kernel_rfl)
def vH (_:Nat) (p0:List Int):Option ((List Int)×Int):=
 (fI p0 0 (aA .i64 ((aa p0.length) -1))).bind fun l0=>
 (bG l0).bind fun l1=>
 (aL p0 (aA .i64 ((aa p0.length) -1))).bind fun n2=>
 some (l1,n2)
def aTf (N:Nat):aV:=⟨aC.one (aF.sl ki),aF.tup (aC.cons (aF.sl ki) (aC.one (aF.int .i64))),fun a=>(vH N) a,.frz,false⟩
theorem aJm (N:Nat):aB tab 410 (aTf N):=aB.of aIm (cx:=(aN (aK N) [(418,aV.clone ki)] [] [] [])) rfl (aM.make ⟨PF,trivial⟩ trivial trivial) (fun a=>by kernel_rfl)
def LD (N:Nat) (p0:aH):Option (aH×(Int×Int)×Int):=
 ((sH N) p0).bind fun n0=>
 bif n0 !=0 then
  some (aH.mk [] [] [],(0,0),n0)
 else
  bif (aa p0.free.length)==0 then
   some (aH.mk [] [] [],(0,0),18)
  else
   ((vH N) p0.free).bind fun a1=>
   (aL p0.uses a1.2).bind fun n2=>
   bif n2==1000000 then
    some (aH.mk [] [] [],(0,0),18)
   else
    (bG p0.uses).bind fun l3=>
    (bG p0.used).bind fun l4=>
    (aL l4 a1.2).bind fun _=>
    (aL l3 a1.2).bind fun n6=>
    (aL l3 a1.2).bind fun _=>
    (aL (aZ l3 a1.2 (aA .i64 (n6+1))) a1.2).bind fun n8=>
    some (aH.mk (aZ l3 a1.2 (aA .i64 (n6+1))) (aZ l4 a1.2 true) a1.1,(a1.2,n8),0)
def aTg (N:Nat):aV:=⟨aC.one (aF.agg eZ),aF.tup (aC.cons (aF.agg eZ) (aC.cons (aF.agg (bE.row cM)) (aC.one (aF.int .i64)))),fun a=>(LD N) a,.frz,false⟩
theorem aJn (N:Nat):aB tab 387 (aTg N):=aB.of aH6 (cx:=(aN (aK N) [(258,(aIA N)),(410,(aTf N)),(34,aV.clone ki),(256,aV.clone kb)] [] [(411,ZQ)] [])) rfl (aM.make ⟨(M4 N),(aJm N),fM,oB,trivial⟩ trivial ⟨UR,trivial⟩) (fun a=>by kernel_rfl)
def pS (N:Nat) (p0:aE) (p1:Int×Int) (p2:Int):Option (aE×(Int×Int)×Int):=
 ((jE N) p0).bind fun n0=>
 ((cB N) p1).bind fun n1=>
 bif (if n1>n0 then n1 else n0) !=0 then
  some (aE.mk (aH.mk [] [] []) [] [],(0,0),if n1>n0 then n1 else n0)
 else
  bif decide (p2<0) then
   some (aE.mk (aH.mk [] [] []) [] [],(0,0),2)
  else
   bif decide (1000000<p2) then
    some (aE.mk (aH.mk [] [] []) [] [],(0,0),2)
   else
    ((dX N) p0.heap p2).bind fun b2=>
    bif b2 then
     some (aE.mk (aH.mk [] [] []) [] [],(0,0),14)
    else
     ((LD N) p0.slots).bind fun a3=>
     bif a3.2.2 !=0 then
      some (aE.mk (aH.mk [] [] []) [] [],(0,0),a3.2.2)
     else
      (bG p0.heap).bind fun l4=>
      (bG p0.where_).bind fun l5=>
      (aR l4 [(p1.1,p1.2,p2,a3.2.1)]).bind fun l6=>
      ((jO N) (a3.1.uses,a3.1.used,a3.1.free,aA .i64 ((aa l6.length) -1),p1.1,p1.2,p2,a3.2.1.1,a3.2.1.2,l6,l5)).bind fun a7=>
      some (aE.mk a3.1 a7.1 a7.2,a3.2.1,0)
def aRj (N:Nat):aV:=⟨aC.cons (aF.agg cE) (aC.cons (aF.agg (bE.row cM)) (aC.one (aF.int .i64))),aF.tup (aC.cons (aF.agg cE) (aC.cons (aF.agg (bE.row cM)) (aC.one (aF.int .i64)))),fun a=>(pS N) a.1 a.2.1 a.2.2,.frz,false⟩
theorem U7 (N:Nat):aB tab 337 (aRj N):=aB.of aHz (cx:=(aN (aK N) [(158,(W7 N)),(70,(Q9 N)),(385,(P5 N)),(387,(aTg N)),(255,aV.clone gP),(34,aV.clone ki)] [(384,(NG N)),(384,(SX N))] [(383,W4)] [])) rfl (aM.make ⟨(AX N),(kE N),(P6 N),(aJn N),oC,fM,trivial⟩ ⟨(CY N),(LC N),trivial⟩ ⟨MY,trivial⟩) (fun a=>by kernel_rfl)
def HY (N:Nat) (s:((List (Int×Int×Int))×Int×Int×Int×Int×(List (Int×Int×Int))×Int×(List (Int×Int×Int))×(List Int)×(List Bool)×(List Int)×(List (Int×Int×Int×Int×Int))×(List Int)×(List (Int×Int×Int))×(List (Int×Int×Int))×Int×Int×Int×Int×Int×Int×(List (Int×Int×Int))×(List Int)×(List Bool)×(List Int)×(List (Int×Int×Int×Int×Int))×(List Int)×(List (Int×Int×Int))×(List (Int×Int×Int)))):Option (aS ((List (Int×Int×Int))×Int×Int×Int×Int×(List (Int×Int×Int))×Int×(List (Int×Int×Int))×(List Int)×(List Bool)×(List Int)×(List (Int×Int×Int×Int×Int))×(List Int)×(List (Int×Int×Int))×(List (Int×Int×Int))×Int×Int×Int×Int×Int×Int×(List (Int×Int×Int))×(List Int)×(List Bool)×(List Int)×(List (Int×Int×Int×Int×Int))×(List Int)×(List (Int×Int×Int))×(List (Int×Int×Int))) (aS ((List (Int×Int×Int))×Int×Int×Int×Int×(List (Int×Int×Int))×Int×(List (Int×Int×Int))×(List Int)×(List Bool)×(List Int)×(List (Int×Int×Int×Int×Int))×(List Int)×(List (Int×Int×Int))×(List (Int×Int×Int))×Int×Int×Int) (aG×Int))):=
 bif decide (s.2.2.1<s.2.1) then
  (aL s.1 s.2.2.1).bind fun a0=>
  ((sK N) (Field.mk s.2.2.2.2.2.2.2.2.2.2.2.2.2.2.1) a0.2 (s.2.2.2.1,s.2.2.2.2.1)).bind fun a1=>
  ((vG N) s.2.2.2.2.2.2.2.2.2.2.2.2.2.1 a0.1).bind fun a2=>
  bif a1.2.1 then
   bif a2.2 then
    (aL s.2.2.2.2.2.2.2.2.2.2.2.2.2.1 a2.1).bind fun a3=>
    ((A7 N) (aE.mk (aH.mk s.2.2.2.2.2.2.2.2.2.2.2.2.2.2.2.2.2.2.2.2.2.2.1 s.2.2.2.2.2.2.2.2.2.2.2.2.2.2.2.2.2.2.2.2.2.2.2.1 s.2.2.2.2.2.2.2.2.2.2.2.2.2.2.2.2.2.2.2.2.2.2.2.2.1) s.2.2.2.2.2.2.2.2.2.2.2.2.2.2.2.2.2.2.2.2.2.2.2.2.2.1 s.2.2.2.2.2.2.2.2.2.2.2.2.2.2.2.2.2.2.2.2.2.2.2.2.2.2.1) a3.2 a1.1).bind fun a4=>
    (aL s.2.2.2.2.2.2.2.2.2.2.2.2.2.1 a2.1).bind fun a5=>
    (aR s.2.2.2.2.2.2.2.2.2.2.2.2.2.2.2.2.2.2.2.2.2.2.2.2.2.2.2.2 [a5]).bind fun l6=>
    bif a4.2 !=0 then
     some (.done (.done (aG.mk (0,0) (Field.mk []) (aI.mk 0 []) (aE.mk (aH.mk [] [] []) [] []) [],a4.2)))
    else
     some (.next (s.1,s.2.1,aA .i64 (s.2.2.1+1),s.2.2.2.1,s.2.2.2.2.1,s.2.2.2.2.2.1,s.2.2.2.2.2.2.1,s.2.2.2.2.2.2.2.1,s.2.2.2.2.2.2.2.2.1,s.2.2.2.2.2.2.2.2.2.1,s.2.2.2.2.2.2.2.2.2.2.1,s.2.2.2.2.2.2.2.2.2.2.2.1,s.2.2.2.2.2.2.2.2.2.2.2.2.1,s.2.2.2.2.2.2.2.2.2.2.2.2.2.1,s.2.2.2.2.2.2.2.2.2.2.2.2.2.2.1,s.2.2.2.2.2.2.2.2.2.2.2.2.2.2.2.1,s.2.2.2.2.2.2.2.2.2.2.2.2.2.2.2.2.1,s.2.2.2.2.2.2.2.2.2.2.2.2.2.2.2.2.2.1,s.2.2.2.2.2.2.2.2.2.2.2.2.2.2.2.2.2.2.1,s.2.2.2.2.2.2.2.2.2.2.2.2.2.2.2.2.2.2.2.1,s.2.2.2.2.2.2.2.2.2.2.2.2.2.2.2.2.2.2.2.2.1,s.2.2.2.2.2.2.2.2.2.2.2.2.2.2.2.2.2.2.2.2.2.1,a4.1.slots.uses,a4.1.slots.used,a4.1.slots.free,a4.1.heap,a4.1.where_,s.2.2.2.2.2.2.2.2.2.2.2.2.2.2.2.2.2.2.2.2.2.2.2.2.2.2.2.1,l6))
   else
    bif a1.2.1 then
     ((pS N) (aE.mk (aH.mk s.2.2.2.2.2.2.2.2.2.2.2.2.2.2.2.2.2.2.2.2.2.2.1 s.2.2.2.2.2.2.2.2.2.2.2.2.2.2.2.2.2.2.2.2.2.2.2.1 s.2.2.2.2.2.2.2.2.2.2.2.2.2.2.2.2.2.2.2.2.2.2.2.2.1) s.2.2.2.2.2.2.2.2.2.2.2.2.2.2.2.2.2.2.2.2.2.2.2.2.2.1 s.2.2.2.2.2.2.2.2.2.2.2.2.2.2.2.2.2.2.2.2.2.2.2.2.2.2.1) a1.1 a0.1).bind fun a7=>
     (aR s.2.2.2.2.2.2.2.2.2.2.2.2.2.2.2.2.2.2.2.2.2.2.2.2.2.2.2.2 [(a0.1,a7.2.1)]).bind fun l8=>
     bif a7.2.2 !=0 then
      some (.done (.done (aG.mk (0,0) (Field.mk []) (aI.mk 0 []) (aE.mk (aH.mk [] [] []) [] []) [],a7.2.2)))
     else
      some (.next (s.1,s.2.1,aA .i64 (s.2.2.1+1),s.2.2.2.1,s.2.2.2.2.1,s.2.2.2.2.2.1,s.2.2.2.2.2.2.1,s.2.2.2.2.2.2.2.1,s.2.2.2.2.2.2.2.2.1,s.2.2.2.2.2.2.2.2.2.1,s.2.2.2.2.2.2.2.2.2.2.1,s.2.2.2.2.2.2.2.2.2.2.2.1,s.2.2.2.2.2.2.2.2.2.2.2.2.1,s.2.2.2.2.2.2.2.2.2.2.2.2.2.1,s.2.2.2.2.2.2.2.2.2.2.2.2.2.2.1,s.2.2.2.2.2.2.2.2.2.2.2.2.2.2.2.1,s.2.2.2.2.2.2.2.2.2.2.2.2.2.2.2.2.1,s.2.2.2.2.2.2.2.2.2.2.2.2.2.2.2.2.2.1,s.2.2.2.2.2.2.2.2.2.2.2.2.2.2.2.2.2.2.1,s.2.2.2.2.2.2.2.2.2.2.2.2.2.2.2.2.2.2.2.1,s.2.2.2.2.2.2.2.2.2.2.2.2.2.2.2.2.2.2.2.2.1,s.2.2.2.2.2.2.2.2.2.2.2.2.2.2.2.2.2.2.2.2.2.1,a7.1.slots.uses,a7.1.slots.used,a7.1.slots.free,a7.1.heap,a7.1.where_,s.2.2.2.2.2.2.2.2.2.2.2.2.2.2.2.2.2.2.2.2.2.2.2.2.2.2.2.1,l8))
    else
     bif a2.2 then
      (aL s.2.2.2.2.2.2.2.2.2.2.2.2.2.1 a2.1).bind fun a9=>
      ((mF N) (aE.mk (aH.mk s.2.2.2.2.2.2.2.2.2.2.2.2.2.2.2.2.2.2.2.2.2.2.1 s.2.2.2.2.2.2.2.2.2.2.2.2.2.2.2.2.2.2.2.2.2.2.2.1 s.2.2.2.2.2.2.2.2.2.2.2.2.2.2.2.2.2.2.2.2.2.2.2.2.1) s.2.2.2.2.2.2.2.2.2.2.2.2.2.2.2.2.2.2.2.2.2.2.2.2.2.1 s.2.2.2.2.2.2.2.2.2.2.2.2.2.2.2.2.2.2.2.2.2.2.2.2.2.2.1) a9.2).bind fun a10=>
      bif a10.2.2 !=0 then
       some (.done (.done (aG.mk (0,0) (Field.mk []) (aI.mk 0 []) (aE.mk (aH.mk [] [] []) [] []) [],a10.2.2)))
      else
       some (.next (s.1,s.2.1,aA .i64 (s.2.2.1+1),s.2.2.2.1,s.2.2.2.2.1,s.2.2.2.2.2.1,s.2.2.2.2.2.2.1,s.2.2.2.2.2.2.2.1,s.2.2.2.2.2.2.2.2.1,s.2.2.2.2.2.2.2.2.2.1,s.2.2.2.2.2.2.2.2.2.2.1,s.2.2.2.2.2.2.2.2.2.2.2.1,s.2.2.2.2.2.2.2.2.2.2.2.2.1,s.2.2.2.2.2.2.2.2.2.2.2.2.2.1,s.2.2.2.2.2.2.2.2.2.2.2.2.2.2.1,s.2.2.2.2.2.2.2.2.2.2.2.2.2.2.2.1,s.2.2.2.2.2.2.2.2.2.2.2.2.2.2.2.2.1,s.2.2.2.2.2.2.2.2.2.2.2.2.2.2.2.2.2.1,s.2.2.2.2.2.2.2.2.2.2.2.2.2.2.2.2.2.2.1,s.2.2.2.2.2.2.2.2.2.2.2.2.2.2.2.2.2.2.2.1,s.2.2.2.2.2.2.2.2.2.2.2.2.2.2.2.2.2.2.2.2.1,s.2.2.2.2.2.2.2.2.2.2.2.2.2.2.2.2.2.2.2.2.2.1,a10.1.slots.uses,a10.1.slots.used,a10.1.slots.free,a10.1.heap,a10.1.where_,s.2.2.2.2.2.2.2.2.2.2.2.2.2.2.2.2.2.2.2.2.2.2.2.2.2.2.2))
     else
      bif a1.2.2 !=0 then
       some (.done (.done (aG.mk (0,0) (Field.mk []) (aI.mk 0 []) (aE.mk (aH.mk [] [] []) [] []) [],a1.2.2)))
      else
       some (.next (s.1,s.2.1,aA .i64 (s.2.2.1+1),s.2.2.2))
  else
   bif a1.2.1 then
    ((pS N) (aE.mk (aH.mk s.2.2.2.2.2.2.2.2.2.2.2.2.2.2.2.2.2.2.2.2.2.2.1 s.2.2.2.2.2.2.2.2.2.2.2.2.2.2.2.2.2.2.2.2.2.2.2.1 s.2.2.2.2.2.2.2.2.2.2.2.2.2.2.2.2.2.2.2.2.2.2.2.2.1) s.2.2.2.2.2.2.2.2.2.2.2.2.2.2.2.2.2.2.2.2.2.2.2.2.2.1 s.2.2.2.2.2.2.2.2.2.2.2.2.2.2.2.2.2.2.2.2.2.2.2.2.2.2.1) a1.1 a0.1).bind fun a11=>
    (aR s.2.2.2.2.2.2.2.2.2.2.2.2.2.2.2.2.2.2.2.2.2.2.2.2.2.2.2.2 [(a0.1,a11.2.1)]).bind fun l12=>
    bif a11.2.2 !=0 then
     some (.done (.done (aG.mk (0,0) (Field.mk []) (aI.mk 0 []) (aE.mk (aH.mk [] [] []) [] []) [],a11.2.2)))
    else
     some (.next (s.1,s.2.1,aA .i64 (s.2.2.1+1),s.2.2.2.1,s.2.2.2.2.1,s.2.2.2.2.2.1,s.2.2.2.2.2.2.1,s.2.2.2.2.2.2.2.1,s.2.2.2.2.2.2.2.2.1,s.2.2.2.2.2.2.2.2.2.1,s.2.2.2.2.2.2.2.2.2.2.1,s.2.2.2.2.2.2.2.2.2.2.2.1,s.2.2.2.2.2.2.2.2.2.2.2.2.1,s.2.2.2.2.2.2.2.2.2.2.2.2.2.1,s.2.2.2.2.2.2.2.2.2.2.2.2.2.2.1,s.2.2.2.2.2.2.2.2.2.2.2.2.2.2.2.1,s.2.2.2.2.2.2.2.2.2.2.2.2.2.2.2.2.1,s.2.2.2.2.2.2.2.2.2.2.2.2.2.2.2.2.2.1,s.2.2.2.2.2.2.2.2.2.2.2.2.2.2.2.2.2.2.1,s.2.2.2.2.2.2.2.2.2.2.2.2.2.2.2.2.2.2.2.1,s.2.2.2.2.2.2.2.2.2.2.2.2.2.2.2.2.2.2.2.2.1,s.2.2.2.2.2.2.2.2.2.2.2.2.2.2.2.2.2.2.2.2.2.1,a11.1.slots.uses,a11.1.slots.used,a11.1.slots.free,a11.1.heap,a11.1.where_,s.2.2.2.2.2.2.2.2.2.2.2.2.2.2.2.2.2.2.2.2.2.2.2.2.2.2.2.1,l12))
   else
    bif a2.2 then
     (aL s.2.2.2.2.2.2.2.2.2.2.2.2.2.1 a2.1).bind fun a13=>
     ((mF N) (aE.mk (aH.mk s.2.2.2.2.2.2.2.2.2.2.2.2.2.2.2.2.2.2.2.2.2.2.1 s.2.2.2.2.2.2.2.2.2.2.2.2.2.2.2.2.2.2.2.2.2.2.2.1 s.2.2.2.2.2.2.2.2.2.2.2.2.2.2.2.2.2.2.2.2.2.2.2.2.1) s.2.2.2.2.2.2.2.2.2.2.2.2.2.2.2.2.2.2.2.2.2.2.2.2.2.1 s.2.2.2.2.2.2.2.2.2.2.2.2.2.2.2.2.2.2.2.2.2.2.2.2.2.2.1) a13.2).bind fun a14=>
     bif a14.2.2 !=0 then
      some (.done (.done (aG.mk (0,0) (Field.mk []) (aI.mk 0 []) (aE.mk (aH.mk [] [] []) [] []) [],a14.2.2)))
     else
      some (.next (s.1,s.2.1,aA .i64 (s.2.2.1+1),s.2.2.2.1,s.2.2.2.2.1,s.2.2.2.2.2.1,s.2.2.2.2.2.2.1,s.2.2.2.2.2.2.2.1,s.2.2.2.2.2.2.2.2.1,s.2.2.2.2.2.2.2.2.2.1,s.2.2.2.2.2.2.2.2.2.2.1,s.2.2.2.2.2.2.2.2.2.2.2.1,s.2.2.2.2.2.2.2.2.2.2.2.2.1,s.2.2.2.2.2.2.2.2.2.2.2.2.2.1,s.2.2.2.2.2.2.2.2.2.2.2.2.2.2.1,s.2.2.2.2.2.2.2.2.2.2.2.2.2.2.2.1,s.2.2.2.2.2.2.2.2.2.2.2.2.2.2.2.2.1,s.2.2.2.2.2.2.2.2.2.2.2.2.2.2.2.2.2.1,s.2.2.2.2.2.2.2.2.2.2.2.2.2.2.2.2.2.2.1,s.2.2.2.2.2.2.2.2.2.2.2.2.2.2.2.2.2.2.2.1,s.2.2.2.2.2.2.2.2.2.2.2.2.2.2.2.2.2.2.2.2.1,s.2.2.2.2.2.2.2.2.2.2.2.2.2.2.2.2.2.2.2.2.2.1,a14.1.slots.uses,a14.1.slots.used,a14.1.slots.free,a14.1.heap,a14.1.where_,s.2.2.2.2.2.2.2.2.2.2.2.2.2.2.2.2.2.2.2.2.2.2.2.2.2.2.2))
    else
     bif a1.2.2 !=0 then
      some (.done (.done (aG.mk (0,0) (Field.mk []) (aI.mk 0 []) (aE.mk (aH.mk [] [] []) [] []) [],a1.2.2)))
     else
      some (.next (s.1,s.2.1,aA .i64 (s.2.2.1+1),s.2.2.2))
 else
  some (.done (.done (aG.mk (s.2.2.2.2.2.2.2.2.2.2.2.2.2.2.2.2.2.2.1,s.2.2.2.2.2.2.2.2.2.2.2.2.2.2.2.2.2.2.2.1) (Field.mk s.2.2.2.2.2.2.2.2.2.2.2.2.2.2.2.2.2.2.2.2.2.2.2.2.2.2.2.1) (aI.mk s.2.2.2.2.2.2.2.2.2.2.2.2.2.2.2.2.2.2.2.2.1 s.2.2.2.2.2.2.2.2.2.2.2.2.2.2.2.2.2.2.2.2.2.1) (aE.mk (aH.mk s.2.2.2.2.2.2.2.2.2.2.2.2.2.2.2.2.2.2.2.2.2.2.1 s.2.2.2.2.2.2.2.2.2.2.2.2.2.2.2.2.2.2.2.2.2.2.2.1 s.2.2.2.2.2.2.2.2.2.2.2.2.2.2.2.2.2.2.2.2.2.2.2.2.1) s.2.2.2.2.2.2.2.2.2.2.2.2.2.2.2.2.2.2.2.2.2.2.2.2.2.1 s.2.2.2.2.2.2.2.2.2.2.2.2.2.2.2.2.2.2.2.2.2.2.2.2.2.2.1) s.2.2.2.2.2.2.2.2.2.2.2.2.2.2.2.2.2.2.2.2.2.2.2.2.2.2.2.2,0)))
def HZ (N:Nat) (s:((List (Int×Int×Int))×Int×Int×Int×Int×(List (Int×Int×Int))×Int×(List (Int×Int×Int))×(List Int)×(List Bool)×(List Int)×(List (Int×Int×Int×Int×Int))×(List Int)×(List (Int×Int×Int))×(List (Int×Int×Int))×Int×Int×Int)):Option (aS ((List (Int×Int×Int))×Int×Int×Int×Int×(List (Int×Int×Int))×Int×(List (Int×Int×Int))×(List Int)×(List Bool)×(List Int)×(List (Int×Int×Int×Int×Int))×(List Int)×(List (Int×Int×Int))×(List (Int×Int×Int))×Int×Int×Int) (aG×Int)):=
 bif decide (s.2.2.1<s.2.1) then
  (aL s.1 s.2.2.1).bind fun a0=>
  ((iW N) (Field.mk s.2.2.2.2.2.2.2.2.2.2.2.2.2.2.1) a0.2.1).bind fun a1=>
  bif decide (a1.1<0) then
   some (.done (aG.mk (0,0) (Field.mk []) (aI.mk 0 []) (aE.mk (aH.mk [] [] []) [] []) [],6))
  else
   ((iW N) (Field.mk s.2.2.2.2.2.2.2.2.2.2.2.2.2.2.1) a0.2.2).bind fun a2=>
   bif decide (a2.1<0) then
    some (.done (aG.mk (0,0) (Field.mk []) (aI.mk 0 []) (aE.mk (aH.mk [] [] []) [] []) [],6))
   else
    some (.next (s.1,s.2.1,aA .i64 (s.2.2.1+1),s.2.2.2))
 else
  ((kG N) (aG.mk (s.2.2.2.1,s.2.2.2.2.1) (Field.mk s.2.2.2.2.2.1) (aI.mk s.2.2.2.2.2.2.1 s.2.2.2.2.2.2.2.1) (aE.mk (aH.mk s.2.2.2.2.2.2.2.2.1 s.2.2.2.2.2.2.2.2.2.1 s.2.2.2.2.2.2.2.2.2.2.1) s.2.2.2.2.2.2.2.2.2.2.2.1 s.2.2.2.2.2.2.2.2.2.2.2.2.1) s.2.2.2.2.2.2.2.2.2.2.2.2.2.1)).bind fun r3=>
  (bG s.2.2.2.2.2.2.2.2.2.2.2.2.2.2.1).bind fun l4=>
  (aO N) (HY N) (s.2.2.2.2.2.2.2.1,aa s.2.2.2.2.2.2.2.1.length,0,s.2.2.2.1,s.2.2.2.2.1,s.2.2.2.2.2.1,s.2.2.2.2.2.2.1,s.2.2.2.2.2.2.2.1,s.2.2.2.2.2.2.2.2.1,s.2.2.2.2.2.2.2.2.2.1,s.2.2.2.2.2.2.2.2.2.2.1,s.2.2.2.2.2.2.2.2.2.2.2.1,s.2.2.2.2.2.2.2.2.2.2.2.2.1,s.2.2.2.2.2.2.2.2.2.2.2.2.2.1,s.2.2.2.2.2.2.2.2.2.2.2.2.2.2.1,s.2.2.2.2.2.2.2.2.2.2.2.2.2.2.2.1,s.2.2.2.2.2.2.2.2.2.2.2.2.2.2.2.2.1,s.2.2.2.2.2.2.2.2.2.2.2.2.2.2.2.2.2,r3.now.1,r3.now.2,r3.certs.next_,r3.certs.list,r3.agenda.slots.uses,r3.agenda.slots.used,r3.agenda.slots.free,r3.agenda.heap,r3.agenda.where_,l4,[])
def DS (N:Nat) (p0:aG) (p1:Field):Option (aG×Int):=
 ((fC N) p0).bind fun n0=>
 bif n0 !=0 then
  some (aG.mk (0,0) (Field.mk []) (aI.mk 0 []) (aE.mk (aH.mk [] [] []) [] []) [],n0)
 else
  ((fW N) p1).bind fun n1=>
  bif n1 !=0 then
   some (aG.mk (0,0) (Field.mk []) (aI.mk 0 []) (aE.mk (aH.mk [] [] []) [] []) [],n1)
  else
   (aO N) (HZ N) (p0.certs.list,aa p0.certs.list.length,0,p0.now.1,p0.now.2,p0.field.points,p0.certs.next_,p0.certs.list,p0.agenda.slots.uses,p0.agenda.slots.used,p0.agenda.slots.free,p0.agenda.heap,p0.agenda.where_,p0.due,p1.points,0,0,0)
def aTh (N:Nat):aV:=⟨aC.cons (aF.agg bB) (aC.one (aF.agg aT)),aF.tup (aC.cons (aF.agg bB) (aC.one (aF.int .i64))),fun a=>(DS N) a.1 a.2,.frz,false⟩
theorem aJo (N:Nat):aB tab 250 (aTh N):=aB.of aGU (cx:=(aN (aK N) [(81,(c81 N)),(76,(c76 N)),(261,(aIL N)),(243,(aAd N)),(243,(P0 N)),(78,aV.clone bO),(159,(aIS N)),(332,(aRe N)),(336,(aTd N)),(337,(aRj N)),(333,(aRh N))] [] [] [])) rfl (aM.make ⟨(sL N),(uQ N),(M7 N),(E8 N),(A5 N),nO,(M9 N),(U2 N),(aJk N),(U7 N),(U5 N),trivial⟩ trivial trivial) (fun a=>by kernel_rfl)
def xQ (_:Nat) (p0:Int×Int×Int) (p1:Int×Int):Option Bool:=
 some ((p0.2.1==p1.1)&&(p0.2.2==p1.2))
def aTi (N:Nat):aV:=⟨aC.cons (aF.agg (bE.row bO)) (aC.one (aF.ref (bE.row cM))),aF.bool,fun a=>(xQ N) a.1 a.2,.pure,false⟩
theorem aJp (N:Nat):aB tab 251 (aTi N):=aB.of UC (cx:=(aN (aK N) [] [] [] [])) rfl (aM.make trivial trivial trivial) (fun a=>by kernel_rfl)
def iQ (N:Nat) (s:((List (Int×Int×Int))×Int×Int×Int×Int)):Option (aS ((List (Int×Int×Int))×Int×Int×Int×Int) Int):=
 bif decide (s.2.2.2.2<s.2.2.2.1) then
  (aL s.1 s.2.2.2.2).bind fun a0=>
  ((xQ N) a0 (s.2.1,s.2.2.1)).bind fun b1=>
  bif b1 then
   some (.done s.2.2.2.2)
  else
   some (.next (s.1,s.2.1,s.2.2.1,s.2.2.2.1,aA .i64 (s.2.2.2.2+1)))
 else
  some (.done (-1))
def eU (N:Nat) (p0:List (Int×Int×Int)) (p1:(Int×Int)):Option Int:=
 (aO N) (iQ N) (p0,p1.1,p1.2,aa p0.length,0)
def P7 (N:Nat):aV:=⟨aC.cons (aF.sl bO) (aC.one (aF.clo 251 (aC.one (aF.ref (bE.row cM))))),aF.int .i64,fun a=>(eU N) a.1 a.2,.pure,false⟩
theorem P8 (N:Nat):aB tab 276 (P7 N):=aB.of E5 (cx:=(aN (aK N) [(251,(aTi N))] [] [(251,aC8)] [])) rfl (aM.make ⟨(aJp N),trivial⟩ trivial ⟨UC,trivial⟩) (fun a=>by kernel_rfl)
def eC (N:Nat) (p0:List (Int×Int×Int)) (p1:(Int×Int)):Option Bool:=
 ((eU N) p0 p1).bind fun n0=>
 some (decide (0<=n0))
def P9 (N:Nat):aV:=⟨aC.cons (aF.sl bO) (aC.one (aF.clo 251 (aC.one (aF.ref (bE.row cM))))),aF.bool,fun a=>(eC N) a.1 a.2,.pure,false⟩
theorem QA (N:Nat):aB tab 167 (P9 N):=aB.of E3 (cx:=(aN (aK N) [(276,(P7 N))] [] [] [])) rfl (aM.make ⟨(P8 N),trivial⟩ trivial trivial) (fun a=>by kernel_rfl)
def dV (_:Nat) (p0:Int):Option (aG×Int×Int):=
 some (aG.mk (0,0) (Field.mk []) (aI.mk 0 []) (aE.mk (aH.mk [] [] []) [] []) [],0,p0)
def aTj (N:Nat):aV:=⟨aC.one (aF.int .i64),aF.tup (aC.cons (aF.agg bB) (aC.cons (aF.int .i64) (aC.one (aF.int .i64)))),fun a=>(dV N) a,.frz,false⟩
theorem aJq (N:Nat):aB tab 338 (aTj N):=aB.of aHA (cx:=(aN (aK N) [] [] [] [])) rfl (aM.make trivial trivial trivial) (fun a=>by kernel_rfl)
def IA (_:Nat) (p0:Int×Int×Int) (p1:Int×Int):Option Bool:=
 some ((p0.2.1==p1.1)&&(p0.2.2==p1.2))
def aTk (N:Nat):aV:=⟨aC.cons (aF.agg (bE.row bO)) (aC.one (aF.ref (bE.row cM))),aF.bool,fun a=>(IA N) a.1 a.2,.pure,false⟩
theorem aJr (N:Nat):aB tab 388 (aTk N):=aB.of UO (cx:=(aN (aK N) [] [] [] [])) rfl (aM.make trivial trivial trivial) (fun a=>by kernel_rfl)
def jP (N:Nat) (s:((List (Int×Int×Int))×Int×Int×Int×Int)):Option (aS ((List (Int×Int×Int))×Int×Int×Int×Int) Int):=
 bif decide (s.2.2.2.2<s.2.2.2.1) then
  (aL s.1 s.2.2.2.2).bind fun a0=>
  ((IA N) a0 (s.2.1,s.2.2.1)).bind fun b1=>
  bif b1 then
   some (.done s.2.2.2.2)
  else
   some (.next (s.1,s.2.1,s.2.2.1,s.2.2.2.1,aA .i64 (s.2.2.2.2+1)))
 else
  some (.done (-1))
def fO (N:Nat) (p0:List (Int×Int×Int)) (p1:(Int×Int)):Option Int:=
 (aO N) (jP N) (p0,p1.1,p1.2,aa p0.length,0)
def QB (N:Nat):aV:=⟨aC.cons (aF.sl bO) (aC.one (aF.clo 388 (aC.one (aF.ref (bE.row cM))))),aF.int .i64,fun a=>(fO N) a.1 a.2,.pure,false⟩
theorem QC (N:Nat):aB tab 276 (QB N):=aB.of E5 (cx:=(aN (aK N) [(388,(aTk N))] [] [(388,aEN)] [])) rfl (aM.make ⟨(aJr N),trivial⟩ trivial ⟨UO,trivial⟩) (fun a=>by kernel_rfl)
def eV (N:Nat) (p0:List (Int×Int×Int)) (p1:(Int×Int)):Option Bool:=
 ((fO N) p0 p1).bind fun n0=>
 some (decide (0<=n0))
def QD (N:Nat):aV:=⟨aC.cons (aF.sl bO) (aC.one (aF.clo 388 (aC.one (aF.ref (bE.row cM))))),aF.bool,fun a=>(eV N) a.1 a.2,.pure,false⟩
theorem QE (N:Nat):aB tab 167 (QD N):=aB.of E3 (cx:=(aN (aK N) [(276,(QB N))] [] [] [])) rfl (aM.make ⟨(QC N),trivial⟩ trivial trivial) (fun a=>by kernel_rfl)
def QF (N:Nat) (p0:aI) (p1:Int×Int):Option (aI×Int×Int):=
 ((sG N) p0).bind fun n0=>
 bif n0 !=0 then
  some (aI.mk 0 [],0,n0)
 else
  ((zA N) p1).bind fun b1=>
  bif !b1 then
   some (aI.mk 0 [],0,8)
  else
   ((eV N) p0.list p1).bind fun b2=>
   bif b2 then
    some (aI.mk 0 [],0,14)
   else
    bif (aa p0.list.length)==200 then
     some (aI.mk 0 [],0,18)
    else
     bif p0.next_==1000000 then
      some (aI.mk 0 [],0,18)
     else
      (bG p0.list).bind fun l3=>
      (aR l3 [(p0.next_,p1)]).bind fun l4=>
      some (aI.mk (aA .i64 (p0.next_+1)) l4,p0.next_,0)
def aTl (N:Nat):aV:=⟨aC.cons (aF.agg eY) (aC.one (aF.agg (bE.row cM))),aF.tup (aC.cons (aF.agg eY) (aC.cons (aF.int .i64) (aC.one (aF.int .i64)))),fun a=>(QF N) a.1 a.2,.frz,false⟩
theorem aJs (N:Nat):aB tab 339 (aTl N):=aB.of aHB (cx:=(aN (aK N) [(157,(aIx N)),(257,(aQ0 N)),(167,(QD N)),(253,aV.clone bO)] [] [] [])) rfl (aM.make ⟨(M3 N),(UT N),(QE N),qW,trivial⟩ trivial trivial) (fun a=>by kernel_rfl)
def xR (N:Nat) (p0:aG) (p1:Int×Int):Option (aG×Int×Int):=
 ((fC N) p0).bind fun n0=>
 bif n0 !=0 then
  ((dV N) n0).bind fun a1=>
  some a1
 else
  ((QF N) p0.certs p1).bind fun a2=>
  bif a2.2.2==8 then
   ((dV N) a2.2.2).bind fun a3=>
   some a3
  else
   ((iW N) p0.field p1.1).bind fun a4=>
   bif decide (a4.1<0) then
    ((dV N) 6).bind fun a5=>
    some a5
   else
    ((iW N) p0.field p1.2).bind fun a6=>
    bif decide (a6.1<0) then
     ((dV N) 6).bind fun a7=>
     some a7
    else
     bif a2.2.2 !=0 then
      ((dV N) a2.2.2).bind fun a8=>
      some a8
     else
      ((kG N) p0).bind fun r9=>
      ((sK N) p0.field p1 p0.now).bind fun a10=>
      bif a10.2.2 !=0 then
       ((dV N) a10.2.2).bind fun a11=>
       some a11
      else
       bif a10.2.1 then
        ((pS N) p0.agenda a10.1 a2.2.1).bind fun a12=>
        bif a12.2.2 !=0 then
         ((dV N) a12.2.2).bind fun a13=>
         some a13
        else
         (aR r9.due [(a2.2.1,a12.2.1)]).bind fun l14=>
         some (aG.mk r9.now r9.field a2.1 a12.1 l14,a2.2.1,0)
       else
        some (aG.mk r9.now r9.field a2.1 r9.agenda r9.due,a2.2.1,0)
def aTm (N:Nat):aV:=⟨aC.cons (aF.agg bB) (aC.one (aF.agg (bE.row cM))),aF.tup (aC.cons (aF.agg bB) (aC.cons (aF.int .i64) (aC.one (aF.int .i64)))),fun a=>(xR N) a.1 a.2,.frz,false⟩
theorem aJt (N:Nat):aB tab 252 (aTm N):=aB.of aGV (cx:=(aN (aK N) [(81,(c81 N)),(338,(aTj N)),(339,(aTl N)),(261,(aIL N)),(243,(aAd N)),(243,(P0 N)),(159,(aIS N)),(337,(aRj N))] [] [] [])) rfl (aM.make ⟨(sL N),(aJq N),(aJs N),(M7 N),(E8 N),(A5 N),(M9 N),(U7 N),trivial⟩ trivial trivial) (fun a=>by kernel_rfl)
def vI (N:Nat) (s:((List (Int×Int))×Int×Int×Int×Int×(List (Int×Int×Int))×Int×(List (Int×Int×Int))×(List Int)×(List Bool)×(List Int)×(List (Int×Int×Int×Int×Int))×(List Int)×(List (Int×Int×Int))×Int×Int×Int)):Option (aS ((List (Int×Int))×Int×Int×Int×Int×(List (Int×Int×Int))×Int×(List (Int×Int×Int))×(List Int)×(List Bool)×(List Int)×(List (Int×Int×Int×Int×Int))×(List Int)×(List (Int×Int×Int))×Int×Int×Int) (aS ((List (Int×Int))×(List (Int×Int×Int))×Int×Int×Int×Int×(List (Int×Int×Int))×Int×(List (Int×Int×Int))×(List Int)×(List Bool)×(List Int)×(List (Int×Int×Int×Int×Int))×(List Int)×(List (Int×Int×Int))×(List (Int×Int×Int))×Int×Int×Int) (aG×Int))):=
 bif decide (s.2.2.1<s.2.1) then
  (aL s.1 s.2.2.1).bind fun a0=>
  ((eC N) s.2.2.2.2.2.2.2.1 a0).bind fun b1=>
  bif b1 then
   some (.next (s.1,s.2.1,aA .i64 (s.2.2.1+1),s.2.2.2))
  else
   ((xR N) (aG.mk (s.2.2.2.1,s.2.2.2.2.1) (Field.mk s.2.2.2.2.2.1) (aI.mk s.2.2.2.2.2.2.1 s.2.2.2.2.2.2.2.1) (aE.mk (aH.mk s.2.2.2.2.2.2.2.2.1 s.2.2.2.2.2.2.2.2.2.1 s.2.2.2.2.2.2.2.2.2.2.1) s.2.2.2.2.2.2.2.2.2.2.2.1 s.2.2.2.2.2.2.2.2.2.2.2.2.1) s.2.2.2.2.2.2.2.2.2.2.2.2.2.1) a0).bind fun a2=>
   bif a2.2.2 !=0 then
    some (.done (.done (aG.mk (0,0) (Field.mk []) (aI.mk 0 []) (aE.mk (aH.mk [] [] []) [] []) [],a2.2.2)))
   else
    some (.next (s.1,s.2.1,aA .i64 (s.2.2.1+1),a2.1.now.1,a2.1.now.2,a2.1.field.points,a2.1.certs.next_,a2.1.certs.list,a2.1.agenda.slots.uses,a2.1.agenda.slots.used,a2.1.agenda.slots.free,a2.1.agenda.heap,a2.1.agenda.where_,a2.1.due,s.2.2.2.2.2.2.2.2.2.2.2.2.2.2))
 else
  some (.done (.done (aG.mk (s.2.2.2.1,s.2.2.2.2.1) (Field.mk s.2.2.2.2.2.1) (aI.mk s.2.2.2.2.2.2.1 s.2.2.2.2.2.2.2.1) (aE.mk (aH.mk s.2.2.2.2.2.2.2.2.1 s.2.2.2.2.2.2.2.2.2.1 s.2.2.2.2.2.2.2.2.2.2.1) s.2.2.2.2.2.2.2.2.2.2.2.1 s.2.2.2.2.2.2.2.2.2.2.2.2.1) s.2.2.2.2.2.2.2.2.2.2.2.2.2.1,0)))
def IB (N:Nat) (s:((List (Int×Int))×(List (Int×Int×Int))×Int×Int×Int×Int×(List (Int×Int×Int))×Int×(List (Int×Int×Int))×(List Int)×(List Bool)×(List Int)×(List (Int×Int×Int×Int×Int))×(List Int)×(List (Int×Int×Int))×(List (Int×Int×Int))×Int×Int×Int)):Option (aS ((List (Int×Int))×(List (Int×Int×Int))×Int×Int×Int×Int×(List (Int×Int×Int))×Int×(List (Int×Int×Int))×(List Int)×(List Bool)×(List Int)×(List (Int×Int×Int×Int×Int))×(List Int)×(List (Int×Int×Int))×(List (Int×Int×Int))×Int×Int×Int) (aG×Int)):=
 bif decide (s.2.2.2.1<s.2.2.1) then
  (aL s.2.1 s.2.2.2.1).bind fun a0=>
  ((cL N) s.1 a0.2).bind fun b1=>
  bif !b1 then
   ((A6 N) (aG.mk (s.2.2.2.2.1,s.2.2.2.2.2.1) (Field.mk s.2.2.2.2.2.2.1) (aI.mk s.2.2.2.2.2.2.2.1 s.2.2.2.2.2.2.2.2.1) (aE.mk (aH.mk s.2.2.2.2.2.2.2.2.2.1 s.2.2.2.2.2.2.2.2.2.2.1 s.2.2.2.2.2.2.2.2.2.2.2.1) s.2.2.2.2.2.2.2.2.2.2.2.2.1 s.2.2.2.2.2.2.2.2.2.2.2.2.2.1) s.2.2.2.2.2.2.2.2.2.2.2.2.2.2.1) a0.1).bind fun a2=>
   some (.next (s.1,s.2.1,s.2.2.1,aA .i64 (s.2.2.2.1+1),a2.1.now.1,a2.1.now.2,a2.1.field.points,a2.1.certs.next_,a2.1.certs.list,a2.1.agenda.slots.uses,a2.1.agenda.slots.used,a2.1.agenda.slots.free,a2.1.agenda.heap,a2.1.agenda.where_,a2.1.due,s.2.2.2.2.2.2.2.2.2.2.2.2.2.2.2))
  else
   some (.next (s.1,s.2.1,s.2.2.1,aA .i64 (s.2.2.2.1+1),s.2.2.2.2))
 else
  ((oI N) s.2.2.2.2.2.2.1 s.2.2.2.2.2.2.2.2.2.2.2.2.2.2.2.1).bind fun b3=>
  bif !b3 then
   ((DS N) (aG.mk (s.2.2.2.2.1,s.2.2.2.2.2.1) (Field.mk s.2.2.2.2.2.2.1) (aI.mk s.2.2.2.2.2.2.2.1 s.2.2.2.2.2.2.2.2.1) (aE.mk (aH.mk s.2.2.2.2.2.2.2.2.2.1 s.2.2.2.2.2.2.2.2.2.2.1 s.2.2.2.2.2.2.2.2.2.2.2.1) s.2.2.2.2.2.2.2.2.2.2.2.2.1 s.2.2.2.2.2.2.2.2.2.2.2.2.2.1) s.2.2.2.2.2.2.2.2.2.2.2.2.2.2.1) (Field.mk s.2.2.2.2.2.2.2.2.2.2.2.2.2.2.2.1)).bind fun a4=>
   bif a4.2 !=0 then
    some (.done (aG.mk (0,0) (Field.mk []) (aI.mk 0 []) (aE.mk (aH.mk [] [] []) [] []) [],a4.2))
   else
    (aO N) (vI N) (s.1,aa s.1.length,0,a4.1.now.1,a4.1.now.2,a4.1.field.points,a4.1.certs.next_,a4.1.certs.list,a4.1.agenda.slots.uses,a4.1.agenda.slots.used,a4.1.agenda.slots.free,a4.1.agenda.heap,a4.1.agenda.where_,a4.1.due,s.2.2.2.2.2.2.2.2.2.2.2.2.2.2.2.2)
  else
   (aO N) (vI N) (s.1,aa s.1.length,0,s.2.2.2.2.1,s.2.2.2.2.2.1,s.2.2.2.2.2.2.1,s.2.2.2.2.2.2.2.1,s.2.2.2.2.2.2.2.2.1,s.2.2.2.2.2.2.2.2.2.1,s.2.2.2.2.2.2.2.2.2.2.1,s.2.2.2.2.2.2.2.2.2.2.2.1,s.2.2.2.2.2.2.2.2.2.2.2.2.1,s.2.2.2.2.2.2.2.2.2.2.2.2.2.1,s.2.2.2.2.2.2.2.2.2.2.2.2.2.2.1,s.2.2.2.2.2.2.2.2.2.2.2.2.2.2.2.2)
def vJ (N:Nat) (p0:aG) (p1:Field) (p2:List (Int×Int)):Option (aG×Int):=
 (aO N) (IB N) (p2,p0.certs.list,aa p0.certs.list.length,0,p0.now.1,p0.now.2,p0.field.points,p0.certs.next_,p0.certs.list,p0.agenda.slots.uses,p0.agenda.slots.used,p0.agenda.slots.free,p0.agenda.heap,p0.agenda.where_,p0.due,p1.points,0,0,0)
def aRk (N:Nat):aV:=⟨aC.cons (aF.agg bB) (aC.cons (aF.agg aT) (aC.one (aF.sl cM))),aF.tup (aC.cons (aF.agg bB) (aC.one (aF.int .i64))),fun a=>(vJ N) a.1 a.2.1 a.2.2,.frz,false⟩
theorem U8 (N:Nat):aB tab 155 (aRk N):=aB.of aFY (cx:=(aN (aK N) [(153,(NA N)),(248,(aTb N)),(249,(aTc N)),(250,(aTh N)),(167,(P9 N)),(252,(aTm N))] [] [] [])) rfl (aM.make ⟨(pK N),(aJi N),(aJj N),(aJo N),(QA N),(aJt N),trivial⟩ trivial trivial) (fun a=>by kernel_rfl)
def DT (N:Nat) (p0:bH) (p1:Int×Int):Option (bH×(Int×Int)×Int):=
 ((oH N) p0.clock p1).bind fun a0=>
 bif a0.2.2.2 !=0 then
  some (bH.mk (aG.mk (0,0) (Field.mk []) (aI.mk 0 []) (aE.mk (aH.mk [] [] []) [] []) []) [],(0,0),a0.2.2.2)
 else
  (bG p0.heap).bind fun l1=>
  ((dF N) l1 a0.2.2.1.1).bind fun n2=>
  ((dF N) l1 a0.2.2.1.2).bind fun n3=>
  (aL l1 n3).bind fun n4=>
  (aL l1 n2).bind fun n5=>
  (aL l1 n2).bind fun _=>
  (aL (aZ l1 n2 n4) n3).bind fun _=>
  ((uU N) (aZ (aZ l1 n2 n4) n3 n5)).bind fun l8=>
  ((vJ N) a0.1 a0.1.field l8).bind fun a9=>
  some (bH.mk a9.1 (aZ (aZ l1 n2 n4) n3 n5),a0.2.2.1,a9.2)
def aTn (N:Nat):aV:=⟨aC.cons (aF.agg fV) (aC.one (aF.agg (bE.row cM))),aF.tup (aC.cons (aF.agg fV) (aC.cons (aF.agg (bE.row cM)) (aC.one (aF.int .i64)))),fun a=>(DT N) a.1 a.2,.frz,false⟩
theorem aJu (N:Nat):aB tab 144 (aTn N):=aB.of aFP (cx:=(aN (aK N) [(146,(aAf N)),(34,aV.clone ki),(35,(c35 N)),(234,(aQ5 N)),(155,(aRk N))] [] [] [])) rfl (aM.make ⟨(E9 N),fM,(CT N),(UX N),(U8 N),trivial⟩ trivial trivial) (fun a=>by kernel_rfl)
def oJ (N:Nat) (p0:aG) (p1:Int×Int):Option (aG×Int):=
 ((vE N) p0 p1).bind fun a0=>
 bif a0.2==0 then
  bif a0.1 then
   some (aG.mk (0,0) (Field.mk []) (aI.mk 0 []) (aE.mk (aH.mk [] [] []) [] []) [],36)
  else
   bif a0.2 !=0 then
    some (aG.mk (0,0) (Field.mk []) (aI.mk 0 []) (aE.mk (aH.mk [] [] []) [] []) [],a0.2)
   else
    ((kG N) p0).bind fun r1=>
    some (aG.mk p1 r1.field r1.certs r1.agenda r1.due,0)
 else
  bif a0.2 !=0 then
   some (aG.mk (0,0) (Field.mk []) (aI.mk 0 []) (aE.mk (aH.mk [] [] []) [] []) [],a0.2)
  else
   ((kG N) p0).bind fun r2=>
   some (aG.mk p1 r2.field r2.certs r2.agenda r2.due,0)
def aAh (N:Nat):aV:=⟨aC.cons (aF.agg bB) (aC.one (aF.agg (bE.row cM))),aF.tup (aC.cons (aF.agg bB) (aC.one (aF.int .i64))),fun a=>(oJ N) a.1 a.2,.frz,false⟩
theorem FA (N:Nat):aB tab 145 (aAh N):=aB.of aFQ (cx:=(aN (aK N) [(242,(aRd N)),(243,(aAd N)),(243,(P0 N))] [] [] [])) rfl (aM.make ⟨(U1 N),(E8 N),(A5 N),trivial⟩ trivial trivial) (fun a=>by kernel_rfl)
def CZ (N:Nat) (s:(Int×Int×(List (Int×Int×Int))×Int×(List (Int×Int×Int))×(List Int)×(List Bool)×(List Int)×(List (Int×Int×Int×Int×Int))×(List Int)×(List (Int×Int×Int))×(List Int)×Int×Int×Int×Int×Int×(List (Int×Int)))):Option (aS (Int×Int×(List (Int×Int×Int))×Int×(List (Int×Int×Int))×(List Int)×(List Bool)×(List Int)×(List (Int×Int×Int×Int×Int))×(List Int)×(List (Int×Int×Int))×(List Int)×Int×Int×Int×Int×Int×(List (Int×Int))) (bH×(List (Int×Int))×Int)):=
 ((DT N) (bH.mk (aG.mk (s.1,s.2.1) (Field.mk s.2.2.1) (aI.mk s.2.2.2.1 s.2.2.2.2.1) (aE.mk (aH.mk s.2.2.2.2.2.1 s.2.2.2.2.2.2.1 s.2.2.2.2.2.2.2.1) s.2.2.2.2.2.2.2.2.1 s.2.2.2.2.2.2.2.2.2.1) s.2.2.2.2.2.2.2.2.2.2.1) s.2.2.2.2.2.2.2.2.2.2.2.1) (s.2.2.2.2.2.2.2.2.2.2.2.2.1,s.2.2.2.2.2.2.2.2.2.2.2.2.2.1)).bind fun a0=>
 bif a0.2.2==6 then
  ((oJ N) (aG.mk (s.1,s.2.1) (Field.mk s.2.2.1) (aI.mk s.2.2.2.1 s.2.2.2.2.1) (aE.mk (aH.mk s.2.2.2.2.2.1 s.2.2.2.2.2.2.1 s.2.2.2.2.2.2.2.1) s.2.2.2.2.2.2.2.2.1 s.2.2.2.2.2.2.2.2.2.1) s.2.2.2.2.2.2.2.2.2.2.1) (s.2.2.2.2.2.2.2.2.2.2.2.2.1,s.2.2.2.2.2.2.2.2.2.2.2.2.2.1)).bind fun a1=>
  (bG s.2.2.2.2.2.2.2.2.2.2.2.1).bind fun l2=>
  some (.done (bH.mk a1.1 l2,s.2.2.2.2.2.2.2.2.2.2.2.2.2.2.2.2.2,a1.2))
 else
  bif a0.2.2 !=0 then
   some (.done (bH.mk (aG.mk (0,0) (Field.mk []) (aI.mk 0 []) (aE.mk (aH.mk [] [] []) [] []) []) [],[],a0.2.2))
  else
   (aR s.2.2.2.2.2.2.2.2.2.2.2.2.2.2.2.2.2 [a0.2.1]).bind fun l3=>
   some (.next (a0.1.clock.now.1,a0.1.clock.now.2,a0.1.clock.field.points,a0.1.clock.certs.next_,a0.1.clock.certs.list,a0.1.clock.agenda.slots.uses,a0.1.clock.agenda.slots.used,a0.1.clock.agenda.slots.free,a0.1.clock.agenda.heap,a0.1.clock.agenda.where_,a0.1.clock.due,a0.1.heap,s.2.2.2.2.2.2.2.2.2.2.2.2.1,s.2.2.2.2.2.2.2.2.2.2.2.2.2.1,s.2.2.2.2.2.2.2.2.2.2.2.2.2.2.1,s.2.2.2.2.2.2.2.2.2.2.2.2.2.2.2.1,s.2.2.2.2.2.2.2.2.2.2.2.2.2.2.2.2.1,l3))
def xS (N:Nat) (p0:bH) (p1:Int×Int):Option (bH×(List (Int×Int))×Int):=
 ((kR N) p0).bind fun n0=>
 bif n0 !=0 then
  some (bH.mk (aG.mk (0,0) (Field.mk []) (aI.mk 0 []) (aE.mk (aH.mk [] [] []) [] []) []) [],[],n0)
 else
  ((cB N) p1).bind fun n1=>
  bif n1 !=0 then
   some (bH.mk (aG.mk (0,0) (Field.mk []) (aI.mk 0 []) (aE.mk (aH.mk [] [] []) [] []) []) [],[],8)
  else
   ((kQ N) p1 p0.clock.now).bind fun a2=>
   bif decide (a2.1<0) then
    some (bH.mk (aG.mk (0,0) (Field.mk []) (aI.mk 0 []) (aE.mk (aH.mk [] [] []) [] []) []) [],[],44)
   else
    (aO N) (CZ N) (p0.clock.now.1,p0.clock.now.2,p0.clock.field.points,p0.clock.certs.next_,p0.clock.certs.list,p0.clock.agenda.slots.uses,p0.clock.agenda.slots.used,p0.clock.agenda.slots.free,p0.clock.agenda.heap,p0.clock.agenda.where_,p0.clock.due,p0.heap,p1.1,p1.2,0,0,0,[])
def c72 (N:Nat):aV:=⟨aC.cons (aF.agg fV) (aC.one (aF.agg (bE.row cM))),aF.tup (aC.cons (aF.agg fV) (aC.cons (aF.sl cM) (aC.one (aF.int .i64)))),fun a=>(xS N) a.1 a.2,.frz,false⟩
theorem aRl (N:Nat):aB tab 72 (c72 N):=aB.of aQB (cx:=(aN (aK N) [(138,(W9 N)),(70,(Q9 N)),(143,(SQ N)),(144,(aTn N)),(145,(aAh N)),(34,aV.clone ki)] [] [] [])) rfl (aM.make ⟨(A0 N),(kE N),(wL N),(aJu N),(FA N),fM,trivial⟩ trivial trivial) (fun a=>by kernel_rfl)
def zE (_:Nat) (p0:aG):Option aG:=
 (bG p0.field.points).bind fun l0=>
 (bG p0.certs.list).bind fun l1=>
 (bG p0.due).bind fun l2=>
 (bG p0.agenda.heap).bind fun l3=>
 (bG p0.agenda.where_).bind fun l4=>
 (bG p0.agenda.slots.uses).bind fun l5=>
 (bG p0.agenda.slots.used).bind fun l6=>
 (bG p0.agenda.slots.free).bind fun l7=>
 some (aG.mk p0.now (Field.mk l0) (aI.mk p0.certs.next_ l1) (aE.mk (aH.mk l5 l6 l7) l3 l4) l2)
def aTo (N:Nat):aV:=⟨aC.one (aF.agg bB),aF.agg bB,fun a=>(zE N) a,.own,true⟩
def aLb (N:Nat):aV:=⟨aC.one (aF.agg bB),aF.agg bB,fun a=>(zE N) a,.frz,false⟩
theorem aJv (N:Nat):aB tab 156 (aTo N):=aB.of T3 (cx:=(aN (aK N) [(78,aV.clone bO),(253,aV.clone bO),(254,aV.clone bO),(255,aV.clone gP),(34,aV.clone ki),(256,aV.clone kb)] [] [] [])) rfl (aM.make ⟨nO,qW,AW,oC,fM,oB,trivial⟩ trivial trivial) (fun a=>by kernel_rfl)
theorem aAi (N:Nat):aB tab 156 (aLb N):=aB.of T3 (cx:=(aN (aK N) [(78,aV.clone bO),(253,aV.clone bO),(254,aV.clone bO),(255,aV.clone gP),(34,aV.clone ki),(256,aV.clone kb)] [] [] [])) rfl (aM.make ⟨nO,qW,AW,oC,fM,oB,trivial⟩ trivial trivial) (fun a=>by kernel_rfl)
def IC (N:Nat) (s:((List (Int×Int))×(List (Int×Int))×Int×Int×Int×Int×(List (Int×Int×Int))×Int×(List (Int×Int×Int))×(List Int)×(List Bool)×(List Int)×(List (Int×Int×Int×Int×Int))×(List Int)×(List (Int×Int×Int))×(List (Int×Int×Int))×Int×Int×Int)):Option (aS ((List (Int×Int))×(List (Int×Int))×Int×Int×Int×Int×(List (Int×Int×Int))×Int×(List (Int×Int×Int))×(List Int)×(List Bool)×(List Int)×(List (Int×Int×Int×Int×Int))×(List Int)×(List (Int×Int×Int))×(List (Int×Int×Int))×Int×Int×Int) (aS ((List (Int×Int))×(List (Int×Int))×Int×Int×Int×Int×(List (Int×Int×Int))×Int×(List (Int×Int×Int))×(List Int)×(List Bool)×(List Int)×(List (Int×Int×Int×Int×Int))×(List Int)×(List (Int×Int×Int))×(List (Int×Int×Int))×Int×Int×Int) (aS ((List (Int×Int))×(List (Int×Int))×Int×Int×Int×Int×(List (Int×Int×Int))×Int×(List (Int×Int×Int))×(List Int)×(List Bool)×(List Int)×(List (Int×Int×Int×Int×Int))×(List Int)×(List (Int×Int×Int))×(List (Int×Int×Int))×Int×Int×Int) (aG×Int)))):=
 bif decide (s.2.2.2.1<s.2.2.1) then
  (aL s.2.1 s.2.2.2.1).bind fun a0=>
  ((cC N) (Field.mk s.2.2.2.2.2.2.2.2.2.2.2.2.2.2.2.1) a0.1).bind fun a1=>
  ((cC N) (Field.mk s.2.2.2.2.2.2.2.2.2.2.2.2.2.2.2.1) a0.2).bind fun a2=>
  bif a1.2 !=0 then
   some (.done (.done (.done (aG.mk (0,0) (Field.mk []) (aI.mk 0 []) (aE.mk (aH.mk [] [] []) [] []) [],6))))
  else
   bif a2.2 !=0 then
    some (.done (.done (.done (aG.mk (0,0) (Field.mk []) (aI.mk 0 []) (aE.mk (aH.mk [] [] []) [] []) [],6))))
   else
    some (.next (s.1,s.2.1,s.2.2.1,aA .i64 (s.2.2.2.1+1),s.2.2.2.2))
 else
  ((zE N) (aG.mk (s.2.2.2.2.1,s.2.2.2.2.2.1) (Field.mk s.2.2.2.2.2.2.1) (aI.mk s.2.2.2.2.2.2.2.1 s.2.2.2.2.2.2.2.2.1) (aE.mk (aH.mk s.2.2.2.2.2.2.2.2.2.1 s.2.2.2.2.2.2.2.2.2.2.1 s.2.2.2.2.2.2.2.2.2.2.2.1) s.2.2.2.2.2.2.2.2.2.2.2.2.1 s.2.2.2.2.2.2.2.2.2.2.2.2.2.1) s.2.2.2.2.2.2.2.2.2.2.2.2.2.2.1)).bind fun r3=>
  ((vJ N) r3 (Field.mk s.2.2.2.2.2.2.2.2.2.2.2.2.2.2.2.1) s.1).bind fun a4=>
  some (.done (.done (.done a4)))
def ID (N:Nat) (s:((List (Int×Int))×(List (Int×Int))×Int×Int×Int×Int×(List (Int×Int×Int))×Int×(List (Int×Int×Int))×(List Int)×(List Bool)×(List Int)×(List (Int×Int×Int×Int×Int))×(List Int)×(List (Int×Int×Int))×(List (Int×Int×Int))×Int×Int×Int)):Option (aS ((List (Int×Int))×(List (Int×Int))×Int×Int×Int×Int×(List (Int×Int×Int))×Int×(List (Int×Int×Int))×(List Int)×(List Bool)×(List Int)×(List (Int×Int×Int×Int×Int))×(List Int)×(List (Int×Int×Int))×(List (Int×Int×Int))×Int×Int×Int) (aS ((List (Int×Int))×(List (Int×Int))×Int×Int×Int×Int×(List (Int×Int×Int))×Int×(List (Int×Int×Int))×(List Int)×(List Bool)×(List Int)×(List (Int×Int×Int×Int×Int))×(List Int)×(List (Int×Int×Int))×(List (Int×Int×Int))×Int×Int×Int) (aG×Int))):=
 bif decide (s.2.2.2.1<s.2.2.1) then
  (aL s.2.1 s.2.2.2.1).bind fun a0=>
  (fI s.1 0 s.2.2.2.1).bind fun l1=>
  ((cL N) l1 a0).bind fun b2=>
  bif b2 then
   some (.done (.done (aG.mk (0,0) (Field.mk []) (aI.mk 0 []) (aE.mk (aH.mk [] [] []) [] []) [],14)))
  else
   some (.next (s.1,s.2.1,s.2.2.1,aA .i64 (s.2.2.2.1+1),s.2.2.2.2))
 else
  (aO N) (IC N) (s.1,s.1,aa s.1.length,0,s.2.2.2.2)
def IE (N:Nat) (s:((List (Int×Int))×(List (Int×Int))×Int×Int×Int×Int×(List (Int×Int×Int))×Int×(List (Int×Int×Int))×(List Int)×(List Bool)×(List Int)×(List (Int×Int×Int×Int×Int))×(List Int)×(List (Int×Int×Int))×(List (Int×Int×Int))×Int×Int×Int)):Option (aS ((List (Int×Int))×(List (Int×Int))×Int×Int×Int×Int×(List (Int×Int×Int))×Int×(List (Int×Int×Int))×(List Int)×(List Bool)×(List Int)×(List (Int×Int×Int×Int×Int))×(List Int)×(List (Int×Int×Int))×(List (Int×Int×Int))×Int×Int×Int) (aG×Int)):=
 bif decide (s.2.2.2.1<s.2.2.1) then
  (aL s.2.1 s.2.2.2.1).bind fun a0=>
  bif decide (a0.1<0) then
   some (.done (aG.mk (0,0) (Field.mk []) (aI.mk 0 []) (aE.mk (aH.mk [] [] []) [] []) [],8))
  else
   bif decide (a0.2<0) then
    some (.done (aG.mk (0,0) (Field.mk []) (aI.mk 0 []) (aE.mk (aH.mk [] [] []) [] []) [],8))
   else
    bif decide (65535<a0.1) then
     some (.done (aG.mk (0,0) (Field.mk []) (aI.mk 0 []) (aE.mk (aH.mk [] [] []) [] []) [],8))
    else
     bif decide (65535<a0.2) then
      some (.done (aG.mk (0,0) (Field.mk []) (aI.mk 0 []) (aE.mk (aH.mk [] [] []) [] []) [],8))
     else
      bif a0.1==a0.2 then
       some (.done (aG.mk (0,0) (Field.mk []) (aI.mk 0 []) (aE.mk (aH.mk [] [] []) [] []) [],8))
      else
       some (.next (s.1,s.2.1,s.2.2.1,aA .i64 (s.2.2.2.1+1),s.2.2.2.2))
 else
  (aO N) (ID N) (s.1,s.1,aa s.1.length,0,s.2.2.2.2)
def fX (N:Nat) (p0:aG) (p1:Field) (p2:List (Int×Int)):Option (aG×Int):=
 ((fC N) p0).bind fun n0=>
 bif n0 !=0 then
  some (aG.mk (0,0) (Field.mk []) (aI.mk 0 []) (aE.mk (aH.mk [] [] []) [] []) [],n0)
 else
  ((fW N) p1).bind fun n1=>
  bif n1 !=0 then
   some (aG.mk (0,0) (Field.mk []) (aI.mk 0 []) (aE.mk (aH.mk [] [] []) [] []) [],n1)
  else
   (aO N) (IE N) (p2,p2,aa p2.length,0,p0.now.1,p0.now.2,p0.field.points,p0.certs.next_,p0.certs.list,p0.agenda.slots.uses,p0.agenda.slots.used,p0.agenda.slots.free,p0.agenda.heap,p0.agenda.where_,p0.due,p1.points,0,0,0)
def c80 (N:Nat):aV:=⟨aC.cons (aF.agg bB) (aC.cons (aF.agg aT) (aC.one (aF.sl cM))),aF.tup (aC.cons (aF.agg bB) (aC.one (aF.int .i64))),fun a=>(fX N) a.1 a.2.1 a.2.2,.frz,false⟩
theorem vK (N:Nat):aB tab 80 (c80 N):=aB.of aQI (cx:=(aN (aK N) [(81,(c81 N)),(76,(c76 N)),(153,(NA N)),(154,(W8 N)),(156,(aTo N)),(156,(aLb N)),(155,(aRk N))] [] [] [])) rfl (aM.make ⟨(sL N),(uQ N),(pK N),(AZ N),(aJv N),(aAi N),(U8 N),trivial⟩ trivial trivial) (fun a=>by kernel_rfl)
def vL (N:Nat) (p0:aG) (p1:Field) (p2:List Int):Option (bC×Int):=
 ((pN N) p1 p0.now p2).bind fun a0=>
 ((fX N) p0 p1 a0.2).bind fun a1=>
 bif a1.2 !=0 then
  some (bC.mk (aG.mk (0,0) (Field.mk []) (aI.mk 0 []) (aE.mk (aH.mk [] [] []) [] []) []) (aQ.mk [] []),a1.2)
 else
  some (bC.mk a1.1 a0.1,0)
def c30 (N:Nat):aV:=⟨aC.cons (aF.agg bB) (aC.cons (aF.agg aT) (aC.one (aF.sl ki))),aF.tup (aC.cons (aF.agg eR) (aC.one (aF.int .i64))),fun a=>(vL N) a.1 a.2.1 a.2.2,.frz,false⟩
theorem aRm (N:Nat):aB tab 30 (c30 N):=aB.of aQb (cx:=(aN (aK N) [(79,(c79 N)),(80,(c80 N))] [] [] [])) rfl (aM.make ⟨(ST N),(vK N),trivial⟩ trivial trivial) (fun a=>by kernel_rfl)
def A8 (N:Nat) (s:(Int×Int×(List (Int×Int×Int))×Int×(List (Int×Int×Int))×(List Int)×(List Bool)×(List Int)×(List (Int×Int×Int×Int×Int))×(List Int)×(List (Int×Int×Int))×(List Int)×(List Int)×Int×Int×Int×Int×Int×(List (Int×Int)))):Option (aS (Int×Int×(List (Int×Int×Int))×Int×(List (Int×Int×Int))×(List Int)×(List Bool)×(List Int)×(List (Int×Int×Int×Int×Int))×(List Int)×(List (Int×Int×Int))×(List Int)×(List Int)×Int×Int×Int×Int×Int×(List (Int×Int))) (bC×(List (Int×Int))×Int)):=
 ((oH N) (aG.mk (s.1,s.2.1) (Field.mk s.2.2.1) (aI.mk s.2.2.2.1 s.2.2.2.2.1) (aE.mk (aH.mk s.2.2.2.2.2.1 s.2.2.2.2.2.2.1 s.2.2.2.2.2.2.2.1) s.2.2.2.2.2.2.2.2.1 s.2.2.2.2.2.2.2.2.2.1) s.2.2.2.2.2.2.2.2.2.2.1) (s.2.2.2.2.2.2.2.2.2.2.2.2.2.1,s.2.2.2.2.2.2.2.2.2.2.2.2.2.2.1)).bind fun a0=>
 bif a0.2.2.2 !=0 then
  ((oJ N) (aG.mk (s.1,s.2.1) (Field.mk s.2.2.1) (aI.mk s.2.2.2.1 s.2.2.2.2.1) (aE.mk (aH.mk s.2.2.2.2.2.1 s.2.2.2.2.2.2.1 s.2.2.2.2.2.2.2.1) s.2.2.2.2.2.2.2.2.1 s.2.2.2.2.2.2.2.2.2.1) s.2.2.2.2.2.2.2.2.2.2.1) (s.2.2.2.2.2.2.2.2.2.2.2.2.2.1,s.2.2.2.2.2.2.2.2.2.2.2.2.2.2.1)).bind fun a1=>
  ((pN N) a1.1.field (s.2.2.2.2.2.2.2.2.2.2.2.2.2.1,s.2.2.2.2.2.2.2.2.2.2.2.2.2.2.1) s.2.2.2.2.2.2.2.2.2.2.2.1).bind fun a2=>
  some (.done (bC.mk a1.1 a2.1,s.2.2.2.2.2.2.2.2.2.2.2.2.2.2.2.2.2.2,0))
 else
  ((vL N) a0.1 a0.1.field s.2.2.2.2.2.2.2.2.2.2.2.1).bind fun a3=>
  bif a3.2 !=0 then
   some (.done (bC.mk (aG.mk (0,0) (Field.mk []) (aI.mk 0 []) (aE.mk (aH.mk [] [] []) [] []) []) (aQ.mk [] []),[],a3.2))
  else
   (aR s.2.2.2.2.2.2.2.2.2.2.2.2.2.2.2.2.2.2 [a0.2.2.1]).bind fun l4=>
   some (.next (a3.1.clock.now.1,a3.1.clock.now.2,a3.1.clock.field.points,a3.1.clock.certs.next_,a3.1.clock.certs.list,a3.1.clock.agenda.slots.uses,a3.1.clock.agenda.slots.used,a3.1.clock.agenda.slots.free,a3.1.clock.agenda.heap,a3.1.clock.agenda.where_,a3.1.clock.due,a3.1.bracket.places,a3.1.bracket.wins,s.2.2.2.2.2.2.2.2.2.2.2.2.2.1,s.2.2.2.2.2.2.2.2.2.2.2.2.2.2.1,s.2.2.2.2.2.2.2.2.2.2.2.2.2.2.2.1,s.2.2.2.2.2.2.2.2.2.2.2.2.2.2.2.2.1,s.2.2.2.2.2.2.2.2.2.2.2.2.2.2.2.2.2.1,l4))
def vM (N:Nat) (p0:bC) (p1:Int×Int):Option (bC×(List (Int×Int))×Int):=
 ((jF N) p0).bind fun n0=>
 bif n0 !=0 then
  some (bC.mk (aG.mk (0,0) (Field.mk []) (aI.mk 0 []) (aE.mk (aH.mk [] [] []) [] []) []) (aQ.mk [] []),[],n0)
 else
  ((cB N) p1).bind fun n1=>
  bif n1 !=0 then
   some (bC.mk (aG.mk (0,0) (Field.mk []) (aI.mk 0 []) (aE.mk (aH.mk [] [] []) [] []) []) (aQ.mk [] []),[],8)
  else
   ((kQ N) p1 p0.clock.now).bind fun a2=>
   bif decide (a2.1<0) then
    some (bC.mk (aG.mk (0,0) (Field.mk []) (aI.mk 0 []) (aE.mk (aH.mk [] [] []) [] []) []) (aQ.mk [] []),[],44)
   else
    (aO N) (A8 N) (p0.clock.now.1,p0.clock.now.2,p0.clock.field.points,p0.clock.certs.next_,p0.clock.certs.list,p0.clock.agenda.slots.uses,p0.clock.agenda.slots.used,p0.clock.agenda.slots.free,p0.clock.agenda.heap,p0.clock.agenda.where_,p0.clock.due,p0.bracket.places,p0.bracket.wins,p1.1,p1.2,0,0,0,[])
def c73 (N:Nat):aV:=⟨aC.cons (aF.agg eR) (aC.one (aF.agg (bE.row cM))),aF.tup (aC.cons (aF.agg eR) (aC.cons (aF.sl cM) (aC.one (aF.int .i64)))),fun a=>(vM N) a.1 a.2,.frz,false⟩
theorem aRn (N:Nat):aB tab 73 (c73 N):=aB.of aQC (cx:=(aN (aK N) [(32,(c32 N)),(70,(Q9 N)),(143,(SQ N)),(146,(aAf N)),(30,(c30 N)),(145,(aAh N)),(79,(c79 N))] [] [] [])) rfl (aM.make ⟨(HN N),(kE N),(wL N),(E9 N),(aRm N),(FA N),(ST N),trivial⟩ trivial trivial) (fun a=>by kernel_rfl)
def vN (N:Nat) (p0:aG) (p1:Field):Option (aW×Int):=
 ((pO N) p1 p0.now).bind fun a0=>
 ((fX N) p0 p1 a0.2).bind fun a1=>
 bif a1.2 !=0 then
  some (aW.mk (aG.mk (0,0) (Field.mk []) (aI.mk 0 []) (aE.mk (aH.mk [] [] []) [] []) []) (cK.mk 0 []),a1.2)
 else
  some (aW.mk a1.1 a0.1,0)
def aTp (N:Nat):aV:=⟨aC.cons (aF.agg bB) (aC.one (aF.agg aT)),aF.tup (aC.cons (aF.agg cX) (aC.one (aF.int .i64))),fun a=>(vN N) a.1 a.2,.frz,false⟩
theorem aJx (N:Nat):aB tab 147 (aTp N):=aB.of aFS (cx:=(aN (aK N) [(148,(aI5 N)),(80,(c80 N))] [] [] [])) rfl (aM.make ⟨(NE N),(vK N),trivial⟩ trivial trivial) (fun a=>by kernel_rfl)
def A9 (N:Nat) (s:(Int×Int×(List (Int×Int×Int))×Int×(List (Int×Int×Int))×(List Int)×(List Bool)×(List Int)×(List (Int×Int×Int×Int×Int))×(List Int)×(List (Int×Int×Int))×Int×(List (Int×Int×Int))×Int×Int×Int×Int×Int×Int×(List (Int×Int)))):Option (aS (Int×Int×(List (Int×Int×Int))×Int×(List (Int×Int×Int))×(List Int)×(List Bool)×(List Int)×(List (Int×Int×Int×Int×Int))×(List Int)×(List (Int×Int×Int))×Int×(List (Int×Int×Int))×Int×Int×Int×Int×Int×Int×(List (Int×Int))) (aW×(List (Int×Int))×Int)):=
 ((oH N) (aG.mk (s.1,s.2.1) (Field.mk s.2.2.1) (aI.mk s.2.2.2.1 s.2.2.2.2.1) (aE.mk (aH.mk s.2.2.2.2.2.1 s.2.2.2.2.2.2.1 s.2.2.2.2.2.2.2.1) s.2.2.2.2.2.2.2.2.1 s.2.2.2.2.2.2.2.2.2.1) s.2.2.2.2.2.2.2.2.2.2.1) (s.2.2.2.2.2.2.2.2.2.2.2.2.2.1,s.2.2.2.2.2.2.2.2.2.2.2.2.2.2.1)).bind fun a0=>
 bif a0.2.2.2 !=0 then
  ((oJ N) (aG.mk (s.1,s.2.1) (Field.mk s.2.2.1) (aI.mk s.2.2.2.1 s.2.2.2.2.1) (aE.mk (aH.mk s.2.2.2.2.2.1 s.2.2.2.2.2.2.1 s.2.2.2.2.2.2.2.1) s.2.2.2.2.2.2.2.2.1 s.2.2.2.2.2.2.2.2.2.1) s.2.2.2.2.2.2.2.2.2.2.1) (s.2.2.2.2.2.2.2.2.2.2.2.2.2.1,s.2.2.2.2.2.2.2.2.2.2.2.2.2.2.1)).bind fun a1=>
  ((pO N) a1.1.field (s.2.2.2.2.2.2.2.2.2.2.2.2.2.1,s.2.2.2.2.2.2.2.2.2.2.2.2.2.2.1)).bind fun a2=>
  some (.done (aW.mk a1.1 a2.1,s.2.2.2.2.2.2.2.2.2.2.2.2.2.2.2.2.2.2.2,0))
 else
  ((vN N) a0.1 a0.1.field).bind fun a3=>
  bif a3.2 !=0 then
   some (.done (aW.mk (aG.mk (0,0) (Field.mk []) (aI.mk 0 []) (aE.mk (aH.mk [] [] []) [] []) []) (cK.mk 0 []),[],a3.2))
  else
   (aR s.2.2.2.2.2.2.2.2.2.2.2.2.2.2.2.2.2.2.2 [a0.2.2.1]).bind fun l4=>
   some (.next (a3.1.clock.now.1,a3.1.clock.now.2,a3.1.clock.field.points,a3.1.clock.certs.next_,a3.1.clock.certs.list,a3.1.clock.agenda.slots.uses,a3.1.clock.agenda.slots.used,a3.1.clock.agenda.slots.free,a3.1.clock.agenda.heap,a3.1.clock.agenda.where_,a3.1.clock.due,a3.1.tree.root,a3.1.tree.nodes,s.2.2.2.2.2.2.2.2.2.2.2.2.2.1,s.2.2.2.2.2.2.2.2.2.2.2.2.2.2.1,s.2.2.2.2.2.2.2.2.2.2.2.2.2.2.2.1,s.2.2.2.2.2.2.2.2.2.2.2.2.2.2.2.2.1,s.2.2.2.2.2.2.2.2.2.2.2.2.2.2.2.2.2.1,s.2.2.2.2.2.2.2.2.2.2.2.2.2.2.2.2.2.2.1,l4))
def vO (N:Nat) (p0:aW) (p1:Int×Int):Option (aW×(List (Int×Int))×Int):=
 ((jG N) p0).bind fun n0=>
 bif n0 !=0 then
  some (aW.mk (aG.mk (0,0) (Field.mk []) (aI.mk 0 []) (aE.mk (aH.mk [] [] []) [] []) []) (cK.mk 0 []),[],n0)
 else
  ((cB N) p1).bind fun n1=>
  bif n1 !=0 then
   some (aW.mk (aG.mk (0,0) (Field.mk []) (aI.mk 0 []) (aE.mk (aH.mk [] [] []) [] []) []) (cK.mk 0 []),[],8)
  else
   ((kQ N) p1 p0.clock.now).bind fun a2=>
   bif decide (a2.1<0) then
    some (aW.mk (aG.mk (0,0) (Field.mk []) (aI.mk 0 []) (aE.mk (aH.mk [] [] []) [] []) []) (cK.mk 0 []),[],44)
   else
    (aO N) (A9 N) (p0.clock.now.1,p0.clock.now.2,p0.clock.field.points,p0.clock.certs.next_,p0.clock.certs.list,p0.clock.agenda.slots.uses,p0.clock.agenda.slots.used,p0.clock.agenda.slots.free,p0.clock.agenda.heap,p0.clock.agenda.where_,p0.clock.due,p0.tree.root,p0.tree.nodes,p1.1,p1.2,0,0,0,0,[])
def c74 (N:Nat):aV:=⟨aC.cons (aF.agg cX) (aC.one (aF.agg (bE.row cM))),aF.tup (aC.cons (aF.agg cX) (aC.cons (aF.sl cM) (aC.one (aF.int .i64)))),fun a=>(vO N) a.1 a.2,.frz,false⟩
theorem aRo (N:Nat):aB tab 74 (c74 N):=aB.of aQD (cx:=(aN (aK N) [(139,(XB N)),(70,(Q9 N)),(143,(SQ N)),(146,(aAf N)),(147,(aTp N)),(145,(aAh N)),(148,(aI5 N))] [] [] [])) rfl (aM.make ⟨(A3 N),(kE N),(wL N),(E9 N),(aJx N),(FA N),(NE N),trivial⟩ trivial trivial) (fun a=>by kernel_rfl)
def iX (N:Nat) (p0:aG) (p1:Field):Option (bA×Int):=
 ((pR N) p1 p0.now).bind fun a0=>
 ((fX N) p0 p1 a0.2).bind fun a1=>
 bif a1.2 !=0 then
  some (bA.mk (aG.mk (0,0) (Field.mk []) (aI.mk 0 []) (aE.mk (aH.mk [] [] []) [] []) []) [],a1.2)
 else
  some (bA.mk a1.1 a0.1,0)
def aAj (N:Nat):aV:=⟨aC.cons (aF.agg bB) (aC.one (aF.agg aT)),aF.tup (aC.cons (aF.agg cY) (aC.one (aF.int .i64))),fun a=>(iX N) a.1 a.2,.frz,false⟩
theorem FB (N:Nat):aB tab 149 (aAj N):=aB.of aFU (cx:=(aN (aK N) [(150,(aI9 N)),(80,(c80 N))] [] [] [])) rfl (aM.make ⟨(NF N),(vK N),trivial⟩ trivial trivial) (fun a=>by kernel_rfl)
def BA (N:Nat) (s:(Int×Int×(List (Int×Int×Int))×Int×(List (Int×Int×Int))×(List Int)×(List Bool)×(List Int)×(List (Int×Int×Int×Int×Int))×(List Int)×(List (Int×Int×Int))×(List Int)×Int×Int×Int×Int×Int×(List (Int×Int)))):Option (aS (Int×Int×(List (Int×Int×Int))×Int×(List (Int×Int×Int))×(List Int)×(List Bool)×(List Int)×(List (Int×Int×Int×Int×Int))×(List Int)×(List (Int×Int×Int))×(List Int)×Int×Int×Int×Int×Int×(List (Int×Int))) (bA×(List (Int×Int))×Int)):=
 ((oH N) (aG.mk (s.1,s.2.1) (Field.mk s.2.2.1) (aI.mk s.2.2.2.1 s.2.2.2.2.1) (aE.mk (aH.mk s.2.2.2.2.2.1 s.2.2.2.2.2.2.1 s.2.2.2.2.2.2.2.1) s.2.2.2.2.2.2.2.2.1 s.2.2.2.2.2.2.2.2.2.1) s.2.2.2.2.2.2.2.2.2.2.1) (s.2.2.2.2.2.2.2.2.2.2.2.2.1,s.2.2.2.2.2.2.2.2.2.2.2.2.2.1)).bind fun a0=>
 bif a0.2.2.2 !=0 then
  ((oJ N) (aG.mk (s.1,s.2.1) (Field.mk s.2.2.1) (aI.mk s.2.2.2.1 s.2.2.2.2.1) (aE.mk (aH.mk s.2.2.2.2.2.1 s.2.2.2.2.2.2.1 s.2.2.2.2.2.2.2.1) s.2.2.2.2.2.2.2.2.1 s.2.2.2.2.2.2.2.2.2.1) s.2.2.2.2.2.2.2.2.2.2.1) (s.2.2.2.2.2.2.2.2.2.2.2.2.1,s.2.2.2.2.2.2.2.2.2.2.2.2.2.1)).bind fun a1=>
  ((pR N) a1.1.field (s.2.2.2.2.2.2.2.2.2.2.2.2.1,s.2.2.2.2.2.2.2.2.2.2.2.2.2.1)).bind fun a2=>
  some (.done (bA.mk a1.1 a2.1,s.2.2.2.2.2.2.2.2.2.2.2.2.2.2.2.2.2,0))
 else
  ((iX N) a0.1 a0.1.field).bind fun a3=>
  bif a3.2 !=0 then
   some (.done (bA.mk (aG.mk (0,0) (Field.mk []) (aI.mk 0 []) (aE.mk (aH.mk [] [] []) [] []) []) [],[],a3.2))
  else
   (aR s.2.2.2.2.2.2.2.2.2.2.2.2.2.2.2.2.2 [a0.2.2.1]).bind fun l4=>
   some (.next (a3.1.clock.now.1,a3.1.clock.now.2,a3.1.clock.field.points,a3.1.clock.certs.next_,a3.1.clock.certs.list,a3.1.clock.agenda.slots.uses,a3.1.clock.agenda.slots.used,a3.1.clock.agenda.slots.free,a3.1.clock.agenda.heap,a3.1.clock.agenda.where_,a3.1.clock.due,a3.1.up,s.2.2.2.2.2.2.2.2.2.2.2.2.1,s.2.2.2.2.2.2.2.2.2.2.2.2.2.1,s.2.2.2.2.2.2.2.2.2.2.2.2.2.2.1,s.2.2.2.2.2.2.2.2.2.2.2.2.2.2.2.1,s.2.2.2.2.2.2.2.2.2.2.2.2.2.2.2.2.1,l4))
def vP (N:Nat) (p0:bA) (p1:Int×Int):Option (bA×(List (Int×Int))×Int):=
 ((jH N) p0).bind fun n0=>
 bif n0 !=0 then
  some (bA.mk (aG.mk (0,0) (Field.mk []) (aI.mk 0 []) (aE.mk (aH.mk [] [] []) [] []) []) [],[],n0)
 else
  ((cB N) p1).bind fun n1=>
  bif n1 !=0 then
   some (bA.mk (aG.mk (0,0) (Field.mk []) (aI.mk 0 []) (aE.mk (aH.mk [] [] []) [] []) []) [],[],8)
  else
   ((kQ N) p1 p0.clock.now).bind fun a2=>
   bif decide (a2.1<0) then
    some (bA.mk (aG.mk (0,0) (Field.mk []) (aI.mk 0 []) (aE.mk (aH.mk [] [] []) [] []) []) [],[],44)
   else
    (aO N) (BA N) (p0.clock.now.1,p0.clock.now.2,p0.clock.field.points,p0.clock.certs.next_,p0.clock.certs.list,p0.clock.agenda.slots.uses,p0.clock.agenda.slots.used,p0.clock.agenda.slots.free,p0.clock.agenda.heap,p0.clock.agenda.where_,p0.clock.due,p0.up,p1.1,p1.2,0,0,0,[])
def c75 (N:Nat):aV:=⟨aC.cons (aF.agg cY) (aC.one (aF.agg (bE.row cM))),aF.tup (aC.cons (aF.agg cY) (aC.cons (aF.sl cM) (aC.one (aF.int .i64)))),fun a=>(vP N) a.1 a.2,.frz,false⟩
theorem aRp (N:Nat):aB tab 75 (c75 N):=aB.of aQE (cx:=(aN (aK N) [(140,(XD N)),(70,(Q9 N)),(143,(SQ N)),(146,(aAf N)),(149,(aAj N)),(145,(aAh N)),(150,(aI9 N))] [] [] [])) rfl (aM.make ⟨(A4 N),(kE N),(wL N),(E9 N),(FB N),(FA N),(NF N),trivial⟩ trivial trivial) (fun a=>by kernel_rfl)
def oK (N:Nat) (p0:aY) (p1:Int×Int):Option (aY×(List (Int×Int))×Int):=
 ((jJ N) p0).bind fun n0=>
 bif n0 !=0 then
  some (aY.mk 0 (bH.mk (aG.mk (0,0) (Field.mk []) (aI.mk 0 []) (aE.mk (aH.mk [] [] []) [] []) []) []) (bC.mk (aG.mk (0,0) (Field.mk []) (aI.mk 0 []) (aE.mk (aH.mk [] [] []) [] []) []) (aQ.mk [] [])) (aW.mk (aG.mk (0,0) (Field.mk []) (aI.mk 0 []) (aE.mk (aH.mk [] [] []) [] []) []) (cK.mk 0 [])) (bA.mk (aG.mk (0,0) (Field.mk []) (aI.mk 0 []) (aE.mk (aH.mk [] [] []) [] []) []) []),[],n0)
 else
  ((cB N) p1).bind fun n1=>
  bif n1 !=0 then
   some (aY.mk 0 (bH.mk (aG.mk (0,0) (Field.mk []) (aI.mk 0 []) (aE.mk (aH.mk [] [] []) [] []) []) []) (bC.mk (aG.mk (0,0) (Field.mk []) (aI.mk 0 []) (aE.mk (aH.mk [] [] []) [] []) []) (aQ.mk [] [])) (aW.mk (aG.mk (0,0) (Field.mk []) (aI.mk 0 []) (aE.mk (aH.mk [] [] []) [] []) []) (cK.mk 0 [])) (bA.mk (aG.mk (0,0) (Field.mk []) (aI.mk 0 []) (aE.mk (aH.mk [] [] []) [] []) []) []),[],8)
  else
   ((kS N) p1).bind fun n2=>
   bif n2 !=0 then
    some (aY.mk 0 (bH.mk (aG.mk (0,0) (Field.mk []) (aI.mk 0 []) (aE.mk (aH.mk [] [] []) [] []) []) []) (bC.mk (aG.mk (0,0) (Field.mk []) (aI.mk 0 []) (aE.mk (aH.mk [] [] []) [] []) []) (aQ.mk [] [])) (aW.mk (aG.mk (0,0) (Field.mk []) (aI.mk 0 []) (aE.mk (aH.mk [] [] []) [] []) []) (cK.mk 0 [])) (bA.mk (aG.mk (0,0) (Field.mk []) (aI.mk 0 []) (aE.mk (aH.mk [] [] []) [] []) []) []),[],2)
   else
    bif p0.tag==1 then
     ((xS N) p0.heap p1).bind fun a3=>
     bif a3.2.2 !=0 then
      some (aY.mk 0 (bH.mk (aG.mk (0,0) (Field.mk []) (aI.mk 0 []) (aE.mk (aH.mk [] [] []) [] []) []) []) (bC.mk (aG.mk (0,0) (Field.mk []) (aI.mk 0 []) (aE.mk (aH.mk [] [] []) [] []) []) (aQ.mk [] [])) (aW.mk (aG.mk (0,0) (Field.mk []) (aI.mk 0 []) (aE.mk (aH.mk [] [] []) [] []) []) (cK.mk 0 [])) (bA.mk (aG.mk (0,0) (Field.mk []) (aI.mk 0 []) (aE.mk (aH.mk [] [] []) [] []) []) []),[],a3.2.2)
     else
      some (aY.mk p0.tag a3.1 p0.tourn p0.heater p0.hanger,a3.2.1,0)
    else
     bif p0.tag==2 then
      ((vM N) p0.tourn p1).bind fun a4=>
      bif a4.2.2 !=0 then
       some (aY.mk 0 (bH.mk (aG.mk (0,0) (Field.mk []) (aI.mk 0 []) (aE.mk (aH.mk [] [] []) [] []) []) []) (bC.mk (aG.mk (0,0) (Field.mk []) (aI.mk 0 []) (aE.mk (aH.mk [] [] []) [] []) []) (aQ.mk [] [])) (aW.mk (aG.mk (0,0) (Field.mk []) (aI.mk 0 []) (aE.mk (aH.mk [] [] []) [] []) []) (cK.mk 0 [])) (bA.mk (aG.mk (0,0) (Field.mk []) (aI.mk 0 []) (aE.mk (aH.mk [] [] []) [] []) []) []),[],a4.2.2)
      else
       some (aY.mk p0.tag p0.heap a4.1 p0.heater p0.hanger,a4.2.1,0)
     else
      bif p0.tag==3 then
       ((vO N) p0.heater p1).bind fun a5=>
       bif a5.2.2 !=0 then
        some (aY.mk 0 (bH.mk (aG.mk (0,0) (Field.mk []) (aI.mk 0 []) (aE.mk (aH.mk [] [] []) [] []) []) []) (bC.mk (aG.mk (0,0) (Field.mk []) (aI.mk 0 []) (aE.mk (aH.mk [] [] []) [] []) []) (aQ.mk [] [])) (aW.mk (aG.mk (0,0) (Field.mk []) (aI.mk 0 []) (aE.mk (aH.mk [] [] []) [] []) []) (cK.mk 0 [])) (bA.mk (aG.mk (0,0) (Field.mk []) (aI.mk 0 []) (aE.mk (aH.mk [] [] []) [] []) []) []),[],a5.2.2)
       else
        some (aY.mk p0.tag p0.heap p0.tourn a5.1 p0.hanger,a5.2.1,0)
      else
       ((vP N) p0.hanger p1).bind fun a6=>
       bif a6.2.2 !=0 then
        some (aY.mk 0 (bH.mk (aG.mk (0,0) (Field.mk []) (aI.mk 0 []) (aE.mk (aH.mk [] [] []) [] []) []) []) (bC.mk (aG.mk (0,0) (Field.mk []) (aI.mk 0 []) (aE.mk (aH.mk [] [] []) [] []) []) (aQ.mk [] [])) (aW.mk (aG.mk (0,0) (Field.mk []) (aI.mk 0 []) (aE.mk (aH.mk [] [] []) [] []) []) (cK.mk 0 [])) (bA.mk (aG.mk (0,0) (Field.mk []) (aI.mk 0 []) (aE.mk (aH.mk [] [] []) [] []) []) []),[],a6.2.2)
       else
        some (aY.mk p0.tag p0.heap p0.tourn p0.heater a6.1,a6.2.1,0)
def c26 (N:Nat):aV:=⟨aC.cons (aF.agg cI) (aC.one (aF.agg (bE.row cM))),aF.tup (aC.cons (aF.agg cI) (aC.cons (aF.sl cM) (aC.one (aF.int .i64)))),fun a=>(oK N) a.1 a.2,.frz,false⟩
theorem aAk (N:Nat):aB tab 26 (c26 N):=aB.of aP9 (cx:=(aN (aK N) [(69,(c69 N)),(70,(Q9 N)),(71,(c71 N)),(72,(c72 N)),(73,(c73 N)),(74,(c74 N)),(75,(c75 N))] [] [] [])) rfl (aM.make ⟨(HV N),(kE N),(aAa N),(aRl N),(aRn N),(aRo N),(aRp N),trivial⟩ trivial trivial) (fun a=>by kernel_rfl)
def oL (N:Nat) (p0:aY):Option Int:=
 ((zD N) p0).bind fun a0=>
 some (aa a0.2.1.points.length)
def c50 (N:Nat):aV:=⟨aC.one (aF.agg cI),aF.int .i64,fun a=>(oL N) a,.pure,false⟩
theorem aRq (N:Nat):aB tab 50 (c50 N):=aB.of aQk (cx:=(aN (aK N) [(49,(c49 N))] [] [] [])) rfl (aM.make ⟨(aAb N),trivial⟩ trivial trivial) (fun a=>by kernel_rfl)
def rB (N:Nat) (p0:Field) (p1:Int×Int×Int):Option (Field×Int):=
 ((fW N) p0).bind fun n0=>
 bif n0 !=0 then
  some (Field.mk [],n0)
 else
  ((jD N) p1).bind fun n1=>
  bif n1 !=0 then
   some (Field.mk [],n1)
  else
   ((zC N) p0 p1.1).bind fun a2=>
   bif a2.2 then
    some (Field.mk [],14)
   else
    bif (aa p0.points.length)==64 then
     some (Field.mk [],18)
    else
     (bG p0.points).bind fun l3=>
     (EZ l3 a2.1 [p1]).bind fun l4=>
     some (Field.mk l4,0)
def c33 (N:Nat):aV:=⟨aC.cons (aF.agg aT) (aC.one (aF.agg (bE.row bO))),aF.tup (aC.cons (aF.agg aT) (aC.one (aF.int .i64))),fun a=>(rB N) a.1 a.2,.frz,false⟩
theorem C0 (N:Nat):aB tab 33 (c33 N):=aB.of aQd (cx:=(aN (aK N) [(76,(c76 N)),(89,(c89 N)),(90,(c90 N)),(78,aV.clone bO)] [] [(91,.ins 3)] [])) rfl (aM.make ⟨(uQ N),(M2 N),(Z3 N),nO,trivial⟩ trivial ⟨aQT,trivial⟩) (fun a=>by kernel_rfl)
def IF (_:Nat) (s:((List Int)×Int×Int×(List (Int×Int)))):Option (aS ((List Int)×Int×Int×(List (Int×Int))) (List (Int×Int))):=
 bif decide (s.2.2.1<s.2.1) then
  (aL s.1 (aA .i64 (s.2.2.1+1))).bind fun n0=>
  (aL s.1 (aA .i64 (ac s.2.2.1 2))).bind fun n1=>
  (aR s.2.2.2 [(n0,n1)]).bind fun l2=>
  some (.next (s.1,s.2.1,aA .i64 (s.2.2.1+1),l2))
 else
  some (.done s.2.2.2)
def DU (N:Nat) (p0:List Int):Option (List (Int×Int)):=
 (aO N) (IF N) (p0,aA .i64 ((aa p0.length) - (if (aa p0.length)<1 then aa p0.length else 1)),0,[])
def aTq (N:Nat):aV:=⟨aC.one (aF.sl ki),aF.sl cM,fun a=>(DU N) a,.frz,false⟩
theorem aJy (N:Nat):aB tab 357 (aTq N):=aB.of aHK (cx:=(aN (aK N) [] [] [] [])) rfl (aM.make trivial trivial trivial) (fun a=>by kernel_rfl)
def cN (N:Nat) (p0:aG) (p1:Field) (p2:List Int):Option (bH×Int):=
 ((DU N) p2).bind fun l0=>
 ((fX N) p0 p1 l0).bind fun a1=>
 bif a1.2 !=0 then
  some (bH.mk (aG.mk (0,0) (Field.mk []) (aI.mk 0 []) (aE.mk (aH.mk [] [] []) [] []) []) [],a1.2)
 else
  some (bH.mk a1.1 p2,0)
def aJz (N:Nat):aV:=⟨aC.cons (aF.agg bB) (aC.cons (aF.agg aT) (aC.one (aF.sl ki))),aF.tup (aC.cons (aF.agg fV) (aC.one (aF.int .i64))),fun a=>(cN N) a.1 a.2.1 a.2.2,.frz,false⟩
theorem NH (N:Nat):aB tab 286 (aJz N):=aB.of aG9 (cx:=(aN (aK N) [(357,(aTq N)),(80,(c80 N))] [] [] [])) rfl (aM.make ⟨(aJy N),(vK N),trivial⟩ trivial trivial) (fun a=>by kernel_rfl)
def NI (N:Nat) (c0:(Int×Int×Int)) (c1:(List Int)) (s:(Int×Int×Int×(List (Int×Int×Int))×Int×(List (Int×Int×Int))×(List Int)×(List Bool)×(List Int)×(List (Int×Int×Int×Int×Int))×(List Int)×(List (Int×Int×Int))×(List Int)×Int×Int×Int×Int×Int×Int×(List (Int×Int×Int))×(List Int)×(List Int)×(List (Int×Int×Int))×Int×Int)):Option (aS (Int×Int×Int×(List (Int×Int×Int))×Int×(List (Int×Int×Int))×(List Int)×(List Bool)×(List Int)×(List (Int×Int×Int×Int×Int))×(List Int)×(List (Int×Int×Int))×(List Int)×Int×Int×Int×Int×Int×Int×(List (Int×Int×Int))×(List Int)×(List Int)×(List (Int×Int×Int))×Int×Int) (bH×Int)):=
 bif decide (0<s.1) then
  (aL s.2.2.2.2.2.2.2.2.2.2.2.2.2.2.2.2.2.2.2.2.2.1 s.1).bind fun n0=>
  ((cC N) (Field.mk s.2.2.2.2.2.2.2.2.2.2.2.2.2.2.2.2.2.2.2.2.2.2.1) n0).bind fun a1=>
  (aL s.2.2.2.2.2.2.2.2.2.2.2.2.2.2.2.2.2.2.2.2.2.1 (aA .i64 (ac (aA .i64 (s.1-1)) 2))).bind fun n2=>
  ((cC N) (Field.mk s.2.2.2.2.2.2.2.2.2.2.2.2.2.2.2.2.2.2.2.2.2.2.1) n2).bind fun a3=>
  ((cP N) a1.1 a3.1 s.2.2.2.2.2.2.2.2.2.2.2.2.2.2.2.2.2.2.2.2.2.2.2).bind fun a4=>
  bif s.2.2.2.2.2.2.2.2.2.2.2.2.2.2.2.2.2.2.2.2.1.length==s.2.2.2.2.2.2.2.2.2.2.2.2.2.2.2.2.2.2.2.2.1.length then
   bif s.2.2.2.2.2.2.2.2.2.2.2.2.2.2.2.2.2.2.2.2.2.1.length==s.2.2.2.2.2.2.2.2.2.2.2.2.2.2.2.2.2.2.2.2.2.1.length then
    bif a4.1 then
     (aL s.2.2.2.2.2.2.2.2.2.2.2.2.2.2.2.2.2.2.2.2.2.1 (aA .i64 (ac (aA .i64 (s.1-1)) 2))).bind fun n5=>
     (aL s.2.2.2.2.2.2.2.2.2.2.2.2.2.2.2.2.2.2.2.2.2.1 s.1).bind fun n6=>
     (aL s.2.2.2.2.2.2.2.2.2.2.2.2.2.2.2.2.2.2.2.2.2.1 s.1).bind fun _=>
     (aL (aZ s.2.2.2.2.2.2.2.2.2.2.2.2.2.2.2.2.2.2.2.2.2.1 s.1 n5) (aA .i64 (ac (aA .i64 (s.1-1)) 2))).bind fun _=>
     some (.next (aA .i64 (ac (aA .i64 (s.1-1)) 2),s.2.1,s.2.2.1,s.2.2.2.1,s.2.2.2.2.1,s.2.2.2.2.2.1,s.2.2.2.2.2.2.1,s.2.2.2.2.2.2.2.1,s.2.2.2.2.2.2.2.2.1,s.2.2.2.2.2.2.2.2.2.1,s.2.2.2.2.2.2.2.2.2.2.1,s.2.2.2.2.2.2.2.2.2.2.2.1,s.2.2.2.2.2.2.2.2.2.2.2.2.1,s.2.2.2.2.2.2.2.2.2.2.2.2.2.1,s.2.2.2.2.2.2.2.2.2.2.2.2.2.2.1,s.2.2.2.2.2.2.2.2.2.2.2.2.2.2.2.1,s.2.2.2.2.2.2.2.2.2.2.2.2.2.2.2.2.1,s.2.2.2.2.2.2.2.2.2.2.2.2.2.2.2.2.2.1,s.2.2.2.2.2.2.2.2.2.2.2.2.2.2.2.2.2.2.1,s.2.2.2.2.2.2.2.2.2.2.2.2.2.2.2.2.2.2.2.1,s.2.2.2.2.2.2.2.2.2.2.2.2.2.2.2.2.2.2.2.2.1,aZ (aZ s.2.2.2.2.2.2.2.2.2.2.2.2.2.2.2.2.2.2.2.2.2.1 s.1 n5) (aA .i64 (ac (aA .i64 (s.1-1)) 2)) n6,s.2.2.2.2.2.2.2.2.2.2.2.2.2.2.2.2.2.2.2.2.2.2))
    else
     bif s.2.2.2.2.2.2.2.2.2.2.2.2.2.2.2.2.2.2.2.2.1.length==[c0.1].length then
      bif s.2.2.2.2.2.2.2.2.2.2.2.2.2.2.2.2.2.2.2.2.2.1.length==c1.length then
       ((cN N) (aG.mk (s.2.1,s.2.2.1) (Field.mk s.2.2.2.1) (aI.mk s.2.2.2.2.1 s.2.2.2.2.2.1) (aE.mk (aH.mk s.2.2.2.2.2.2.1 s.2.2.2.2.2.2.2.1 s.2.2.2.2.2.2.2.2.1) s.2.2.2.2.2.2.2.2.2.1 s.2.2.2.2.2.2.2.2.2.2.1) s.2.2.2.2.2.2.2.2.2.2.2.1) (Field.mk s.2.2.2.2.2.2.2.2.2.2.2.2.2.2.2.2.2.2.2.1) s.2.2.2.2.2.2.2.2.2.2.2.2.2.2.2.2.2.2.2.2.2.1).bind fun a9=>
       some (.done a9)
      else
       none
     else
      none
   else
    none
  else
   none
 else
  bif s.2.2.2.2.2.2.2.2.2.2.2.2.2.2.2.2.2.2.2.2.1.length==[c0.1].length then
   bif s.2.2.2.2.2.2.2.2.2.2.2.2.2.2.2.2.2.2.2.2.2.1.length==c1.length then
    ((cN N) (aG.mk (s.2.1,s.2.2.1) (Field.mk s.2.2.2.1) (aI.mk s.2.2.2.2.1 s.2.2.2.2.2.1) (aE.mk (aH.mk s.2.2.2.2.2.2.1 s.2.2.2.2.2.2.2.1 s.2.2.2.2.2.2.2.2.1) s.2.2.2.2.2.2.2.2.2.1 s.2.2.2.2.2.2.2.2.2.2.1) s.2.2.2.2.2.2.2.2.2.2.2.1) (Field.mk s.2.2.2.2.2.2.2.2.2.2.2.2.2.2.2.2.2.2.2.1) s.2.2.2.2.2.2.2.2.2.2.2.2.2.2.2.2.2.2.2.2.2.1).bind fun a10=>
    some (.done a10)
   else
    none
  else
   none
def LE (N:Nat) (p0:bH) (p1:Int×Int×Int):Option (bH×Int):=
 ((kR N) p0).bind fun n0=>
 bif n0 !=0 then
  some (bH.mk (aG.mk (0,0) (Field.mk []) (aI.mk 0 []) (aE.mk (aH.mk [] [] []) [] []) []) [],n0)
 else
  ((rB N) p0.clock.field p1).bind fun a1=>
  bif a1.2 !=0 then
   some (bH.mk (aG.mk (0,0) (Field.mk []) (aI.mk 0 []) (aE.mk (aH.mk [] [] []) [] []) []) [],a1.2)
  else
   (bG p0.heap).bind fun l2=>
   (aR l2 [p1.1]).bind fun l3=>
   bif l3.length==l3.length then
    (aO N) ((NI N) p1 l3) (aA .i64 ((aa l3.length) -1),p0.clock.now.1,p0.clock.now.2,p0.clock.field.points,p0.clock.certs.next_,p0.clock.certs.list,p0.clock.agenda.slots.uses,p0.clock.agenda.slots.used,p0.clock.agenda.slots.free,p0.clock.agenda.heap,p0.clock.agenda.where_,p0.clock.due,p0.heap,p1.1,p1.2.1,p1.2.2,0,0,0,a1.1.points,[p1.1],l3,a1.1.points,p0.clock.now)
   else
    none
def aTr (N:Nat):aV:=⟨aC.cons (aF.agg fV) (aC.one (aF.agg (bE.row bO))),aF.tup (aC.cons (aF.agg fV) (aC.one (aF.int .i64))),fun a=>(LE N) a.1 a.2,.frz,false⟩
theorem aJA (N:Nat):aB tab 185 (aTr N):=aB.of aGd (cx:=(aN (aK N) [(138,(W9 N)),(33,(c33 N)),(34,aV.clone ki),(154,(W8 N)),(281,(NB N)),(286,(aJz N))] [] [(285,WY),(354,WZ),(355,W0),(356,W3)] [])) rfl (aM.make ⟨(A0 N),(C0 N),fM,(AZ N),(pM N),(NH N),trivial⟩ trivial ⟨MS,MV,MW,MX,trivial⟩) (fun a=>by kernel_rfl)
def EL (_:Nat) (p0:Int) (p1:Int):Option (Int×Int):=
 some (aA .u32 (hP .u64 (aA .u64 ((aA .u64 p0)*(aA .u64 p1))) 32),aA .u32 (aA .u64 ((aA .u64 p0)*(aA .u64 p1))))
def aTs (N:Nat):aV:=⟨aC.cons (aF.int .u32) (aC.one (aF.int .u32)),aF.tup (aC.cons (aF.int .u32) (aC.one (aF.int .u32))),fun a=>(EL N) a.1 a.2,.pure,false⟩
theorem aJB (N:Nat):aB tab 174 (aTs N):=aB.of aF7 (cx:=(aN (aK N) [] [] [] [])) rfl (aM.make trivial trivial trivial) (fun a=>by kernel_rfl)
def xT (N:Nat) (p0:Int) (p1:Int):Option (Int×Int):=
 ((iE N) p0 p1).bind fun a0=>
 some a0
def c92 (N:Nat):aV:=⟨aC.cons (aF.int .u64) (aC.one (aF.int .u64)),aF.tup (aC.cons (aF.int .u64) (aC.one (aF.int .u64))),fun a=>(xT N) a.1 a.2,.pure,false⟩
theorem aAl (N:Nat):aB tab 92 (c92 N):=aB.of aQU (cx:=(aN (aK N) [(174,(aTs N)),(175,(aID N))] [] [] [])) rfl (aM.make ⟨(aJB N),(M5 N),trivial⟩ trivial trivial) (fun a=>by kernel_rfl)
def mQ (_:Nat) (s:(Int×(List Int))):Option (aS (Int×(List Int)) (List Int)):=
 bif decide (s.1<(aa s.2.length)) then
  bif ((decide (0<=s.1))&&(decide (s.1<=(aa s.2.length))))&&(decide ((aa s.2.length)<=(aa s.2.length))) then
   (fI s.2 0 s.1).bind fun _=>
   bif ((s.2.take s.1.toNat).take (((aa s.2.length).toNat) -s.1.toNat)).isEmpty then
    some (.next (aA .i64 (s.1+0),s.2))
   else
    bif (af ((0+s.1.toNat)+(((s.2.take s.1.toNat).take (((aa s.2.length).toNat) -s.1.toNat)).length)) s.2.length)&&(!false) then
     some (.next (aA .i64 (s.1+(aa (((s.2.take s.1.toNat).take (((aa s.2.length).toNat) -s.1.toNat)).length))),dD s.2 (0+s.1.toNat) ((s.2.take s.1.toNat).take (((aa s.2.length).toNat) -s.1.toNat))))
    else
     none
  else
   none
 else
  some (.done s.2)
def iM (N:Nat) (p0:List Int) (p1:Int):Option (List Int):=
 bif decide (p1<0) then
  none
 else
  ((xT N) (aA .u64 (aa p0.length)) (aA .u64 p1)).bind fun a0=>
  bif decide (0<a0.1) then
   none
  else
   bif decide (9223372036854775807<a0.2) then
    none
   else
    bif (aA .i64 a0.2)==(aA .i64 a0.2) then
     (jL (aA .i64 a0.2) (0:Int)).bind fun l1=>
     bif (p0.take l1.length).isEmpty then
      (aO N) (mQ N) (0,l1)
     else
      bif (af (0+((p0.take l1.length).length)) l1.length)&&(!false) then
       (aO N) (mQ N) (aa ((p0.take l1.length).length),dD l1 0 (p0.take l1.length))
      else
       none
    else
     none
def c36 (N:Nat):aV:=⟨aC.cons (aF.sl ki) (aC.one (aF.int .i64)),aF.sl ki,fun a=>(iM N) a.1 a.2,.own,true⟩
def aRs (N:Nat):aV:=⟨aC.cons (aF.sl ki) (aC.one (aF.int .i64)),aF.sl ki,fun a=>(iM N) a.1 a.2,.frz,false⟩
theorem aAm (N:Nat):aB tab 36 (c36 N):=aB.of ZX (cx:=(aN (aK N) [(92,(c92 N))] [] [] [])) rfl (aM.make ⟨(aAl N),trivial⟩ trivial trivial) (fun a=>by kernel_rfl)
theorem U9 (N:Nat):aB tab 36 (aRs N):=aB.of ZX (cx:=(aN (aK N) [(92,(c92 N))] [] [] [])) rfl (aM.make ⟨(aAl N),trivial⟩ trivial trivial) (fun a=>by kernel_rfl)
def IG (_:Nat) (s:(Int×(List Int)×Int×Int×Nat×Nat×Nat×Int×Int×(List Int)×(List (Int×Int)))):Option (aS (Int×(List Int)×Int×Int×Nat×Nat×Nat×Int×Int×(List Int)×(List (Int×Int))) (aS ((List Int)×Int×Int×(List Int)×(List (Int×Int))) (List (Int×Int)))):=
 bif decide (s.2.2.2.2.2.2.2.2.1<s.2.2.2.2.2.2.2.1) then
  (aL ((s.2.2.2.2.2.2.2.2.2.1.drop s.2.2.2.2.1).take s.2.2.2.2.2.1) s.2.2.2.2.2.2.2.2.1).bind fun n0=>
  bif decide (0<=n0) then
   bif n0 !=s.1 then
    (aR s.2.2.2.2.2.2.2.2.2.2 [(n0,s.1)]).bind fun l1=>
    some (.next (s.1,s.2.1,s.2.2.1,s.2.2.2.1,s.2.2.2.2.1,s.2.2.2.2.2.1,s.2.2.2.2.2.2.1,s.2.2.2.2.2.2.2.1,aA .i64 (s.2.2.2.2.2.2.2.2.1+1),s.2.2.2.2.2.2.2.2.2.1,l1))
   else
    some (.next (s.1,s.2.1,s.2.2.1,s.2.2.2.1,s.2.2.2.2.1,s.2.2.2.2.2.1,s.2.2.2.2.2.2.1,s.2.2.2.2.2.2.2.1,aA .i64 (s.2.2.2.2.2.2.2.2.1+1),s.2.2.2.2.2.2.2.2.2))
  else
   some (.next (s.1,s.2.1,s.2.2.1,s.2.2.2.1,s.2.2.2.2.1,s.2.2.2.2.2.1,s.2.2.2.2.2.2.1,s.2.2.2.2.2.2.2.1,aA .i64 (s.2.2.2.2.2.2.2.2.1+1),s.2.2.2.2.2.2.2.2.2))
 else
  some (.done (.next (s.2.1,s.2.2.1,aA .i64 (s.2.2.2.1+1),s.2.2.2.2.2.2.2.2.2)))
def IH (N:Nat) (s:((List Int)×Int×Int×(List Int)×(List (Int×Int)))):Option (aS ((List Int)×Int×Int×(List Int)×(List (Int×Int))) (List (Int×Int))):=
 bif decide (s.2.2.1<s.2.1) then
  (aL s.1 s.2.2.1).bind fun n0=>
  bif ((decide (0<=(aA .i64 ((aA .i64 (2*s.2.2.1))+1))))&&(decide ((aA .i64 ((aA .i64 (2*s.2.2.1))+1))<=(aA .i64 ((aA .i64 (2*s.2.2.1))+3)))))&&(decide ((aA .i64 ((aA .i64 (2*s.2.2.1))+3))<=(aa s.2.2.2.1.length))) then
   (aO N) (IG N) (n0,s.1,s.2.1,s.2.2.1,0+((aA .i64 ((aA .i64 (2*s.2.2.1))+1)).toNat),((aA .i64 ((aA .i64 (2*s.2.2.1))+3)).toNat) - ((aA .i64 ((aA .i64 (2*s.2.2.1))+1)).toNat),s.2.2.2.1.length- ((aA .i64 ((aA .i64 (2*s.2.2.1))+1)).toNat),aa (((aA .i64 ((aA .i64 (2*s.2.2.1))+3)).toNat) - ((aA .i64 ((aA .i64 (2*s.2.2.1))+1)).toNat)),0,s.2.2.2)
  else
   none
 else
  some (.done s.2.2.2.2)
def DV (N:Nat) (p0:aQ):Option (List (Int×Int)):=
 (aAO p0.wins p0.places).bind fun l0=>
 (aO N) (IH N) (p0.wins,aa p0.wins.length,0,l0,[])
def c94 (N:Nat):aV:=⟨aC.one (aF.agg fD),aF.sl cM,fun a=>(DV N) a,.frz,false⟩
theorem aRt (N:Nat):aB tab 94 (c94 N):=aB.of aQW (cx:=(aN (aK N) [] [] [(179,.cat)] [])) rfl (aM.make trivial trivial ⟨aGc,trivial⟩) (fun a=>by kernel_rfl)
def dL (N:Nat) (p0:aG) (p1:Field) (p2:List Int):Option (bC×Int):=
 ((qE N) p1 p0.now p2).bind fun a0=>
 ((DV N) a0.1).bind fun l1=>
 ((fX N) p0 p1 l1).bind fun a2=>
 bif a2.2 !=0 then
  some (bC.mk (aG.mk (0,0) (Field.mk []) (aI.mk 0 []) (aE.mk (aH.mk [] [] []) [] []) []) (aQ.mk [] []),a2.2)
 else
  some (bC.mk a2.1 a0.1,0)
def c37 (N:Nat):aV:=⟨aC.cons (aF.agg bB) (aC.cons (aF.agg aT) (aC.one (aF.sl ki))),aF.tup (aC.cons (aF.agg eR) (aC.one (aF.int .i64))),fun a=>(dL N) a.1 a.2.1 a.2.2,.frz,false⟩
theorem SY (N:Nat):aB tab 37 (c37 N):=aB.of aQg (cx:=(aN (aK N) [(93,(c93 N)),(94,(c94 N)),(80,(c80 N))] [] [] [])) rfl (aM.make ⟨(Z5 N),(aRt N),(vK N),trivial⟩ trivial trivial) (fun a=>by kernel_rfl)
def LF (N:Nat) (p0:bC) (p1:Int×Int×Int):Option (bC×Int):=
 ((jF N) p0).bind fun n0=>
 bif n0 !=0 then
  some (bC.mk (aG.mk (0,0) (Field.mk []) (aI.mk 0 []) (aE.mk (aH.mk [] [] []) [] []) []) (aQ.mk [] []),n0)
 else
  ((rB N) p0.clock.field p1).bind fun a1=>
  bif a1.2 !=0 then
   some (bC.mk (aG.mk (0,0) (Field.mk []) (aI.mk 0 []) (aE.mk (aH.mk [] [] []) [] []) []) (aQ.mk [] []),a1.2)
  else
   (bG p0.bracket.places).bind fun l2=>
   ((dF N) l2 (-1)).bind fun n3=>
   bif decide (n3<0) then
    ((iM N) [-1] (aa l2.length)).bind fun l4=>
    bif l4.isEmpty then
     (aL l2 (aa l2.length)).bind fun _=>
     ((dL N) p0.clock a1.1 (aZ l2 (aa l2.length) p1.1)).bind fun a6=>
     some a6
    else
     (aR l2 l4).bind fun l7=>
     (aL l7 (aa l2.length)).bind fun _=>
     ((dL N) p0.clock a1.1 (aZ l7 (aa l2.length) p1.1)).bind fun a9=>
     some a9
   else
    (aL l2 n3).bind fun _=>
    ((dL N) p0.clock a1.1 (aZ l2 n3 p1.1)).bind fun a11=>
    some a11
def c12 (N:Nat):aV:=⟨aC.cons (aF.agg eR) (aC.one (aF.agg (bE.row bO))),aF.tup (aC.cons (aF.agg eR) (aC.one (aF.int .i64))),fun a=>(LF N) a.1 a.2,.frz,false⟩
theorem aRu (N:Nat):aB tab 12 (c12 N):=aB.of aP1 (cx:=(aN (aK N) [(32,(c32 N)),(33,(c33 N)),(34,aV.clone ki),(35,(c35 N)),(36,(c36 N)),(36,(aRs N)),(37,(c37 N))] [] [] [])) rfl (aM.make ⟨(HN N),(C0 N),fM,(CT N),(aAm N),(U9 N),(SY N),trivial⟩ trivial trivial) (fun a=>by kernel_rfl)
def DW (N:Nat) (p0:Field) (p1:Int×Int×Int):Option (Field×Int):=
 ((rB N) p0 p1).bind fun a0=>
 some a0
def aTt (N:Nat):aV:=⟨aC.cons (aF.agg aT) (aC.one (aF.ref (bE.row bO))),aF.tup (aC.cons (aF.agg aT) (aC.one (aF.int .i64))),fun a=>(DW N) a.1 a.2,.frz,false⟩
theorem aJC (N:Nat):aB tab 288 (aTt N):=aB.of UF (cx:=(aN (aK N) [(33,(c33 N))] [] [] [])) rfl (aM.make ⟨(C0 N),trivial⟩ trivial trivial) (fun a=>by kernel_rfl)
def II (_:Nat) (s:(Int×(List (Int×Int×Int))×Int×Int×Int×Int×Int×Int×(List (Int×Int×Int))×(List Int))):Option (aS (Int×(List (Int×Int×Int))×Int×Int×Int×Int×Int×Int×(List (Int×Int×Int))×(List Int)) (aS ((List (Int×Int×Int))×Int×Int×Int×(List (Int×Int×Int))×(List Int)) (List (Int×Int)))):=
 bif decide (s.2.2.2.2.2.2.1<2) then
  bif s.2.2.2.2.2.2.1==0 then
   bif decide (0<=s.2.2.2.2.1) then
    (aL s.2.2.2.2.2.2.2.2.2 s.2.2.2.2.1).bind fun _=>
    some (.next (s.1,s.2.1,s.2.2.1,s.2.2.2.1,s.2.2.2.2.1,s.2.2.2.2.2.1,aA .i64 (s.2.2.2.2.2.2.1+1),s.2.2.2.2.2.2.2.1,s.2.2.2.2.2.2.2.2.1,aZ s.2.2.2.2.2.2.2.2.2 s.2.2.2.2.1 s.1))
   else
    some (.next (s.1,s.2.1,s.2.2.1,s.2.2.2.1,s.2.2.2.2.1,s.2.2.2.2.2.1,aA .i64 (s.2.2.2.2.2.2.1+1),s.2.2.2.2.2.2.2))
  else
   bif s.2.2.2.2.2.2.1==1 then
    bif decide (0<=s.2.2.2.2.2.1) then
     (aL s.2.2.2.2.2.2.2.2.2 s.2.2.2.2.2.1).bind fun _=>
     some (.next (s.1,s.2.1,s.2.2.1,s.2.2.2.1,s.2.2.2.2.1,s.2.2.2.2.2.1,aA .i64 (s.2.2.2.2.2.2.1+1),s.2.2.2.2.2.2.2.1,s.2.2.2.2.2.2.2.2.1,aZ s.2.2.2.2.2.2.2.2.2 s.2.2.2.2.2.1 s.1))
    else
     some (.next (s.1,s.2.1,s.2.2.1,s.2.2.2.1,s.2.2.2.2.1,s.2.2.2.2.2.1,aA .i64 (s.2.2.2.2.2.2.1+1),s.2.2.2.2.2.2.2))
   else
    none
 else
  some (.done (.next (s.2.1,s.2.2.1,aA .i64 (s.2.2.2.1+1),s.2.2.2.2.2.2.2)))
def IJ (_:Nat) (s:((List (Int×Int×Int))×Int×Int×Int×(List (Int×Int×Int))×(List Int)×(List (Int×Int)))):Option (aS ((List (Int×Int×Int))×Int×Int×Int×(List (Int×Int×Int))×(List Int)×(List (Int×Int))) (aS ((List (Int×Int×Int))×Int×Int×Int×(List (Int×Int×Int))×(List Int)) (List (Int×Int)))):=
 bif decide (s.2.2.1<s.2.1) then
  (aL s.1 s.2.2.1).bind fun a0=>
  bif s.2.2.1 !=s.2.2.2.1 then
   (aL s.2.2.2.2.2.1 s.2.2.1).bind fun n1=>
   (aL s.2.2.2.2.1 n1).bind fun a2=>
   (aR s.2.2.2.2.2.2 [(a0.1,a2.1)]).bind fun l3=>
   some (.next (s.1,s.2.1,aA .i64 (s.2.2.1+1),s.2.2.2.1,s.2.2.2.2.1,s.2.2.2.2.2.1,l3))
  else
   some (.next (s.1,s.2.1,aA .i64 (s.2.2.1+1),s.2.2.2))
 else
  some (.done (.done s.2.2.2.2.2.2))
def IK (N:Nat) (s:((List (Int×Int×Int))×Int×Int×Int×(List (Int×Int×Int))×(List Int))):Option (aS ((List (Int×Int×Int))×Int×Int×Int×(List (Int×Int×Int))×(List Int)) (List (Int×Int))):=
 bif decide (s.2.2.1<s.2.1) then
  (aL s.1 s.2.2.1).bind fun a0=>
  (aO N) (II N) (s.2.2.1,s.1,s.2.1,s.2.2.1,a0.2.1,a0.2.2,0,s.2.2.2)
 else
  (aO N) (IJ N) (s.2.2.2.2.1,aa s.2.2.2.2.1.length,0,s.2.2.2.1,s.2.2.2.2.1,s.2.2.2.2.2,[])
def pT (N:Nat) (p0:cK):Option (List (Int×Int)):=
 bif (aa p0.nodes.length)==(aa p0.nodes.length) then
  (jL (aa p0.nodes.length) (0:Int)).bind fun l0=>
  (aO N) (IK N) (p0.nodes,aa p0.nodes.length,0,p0.root,p0.nodes,l0)
 else
  none
def aJD (N:Nat):aV:=⟨aC.one (aF.agg sF),aF.sl cM,fun a=>(pT N) a,.frz,false⟩
theorem NJ (N:Nat):aB tab 358 (aJD N):=aB.of aHL (cx:=(aN (aK N) [] [] [] [])) rfl (aM.make trivial trivial trivial) (fun a=>by kernel_rfl)
def iY (N:Nat) (p0:aW) (p1:(Int×Int×Int)):Option (aW×Int):=
 ((jG N) p0).bind fun n0=>
 bif n0 !=0 then
  some (aW.mk (aG.mk (0,0) (Field.mk []) (aI.mk 0 []) (aE.mk (aH.mk [] [] []) [] []) []) (cK.mk 0 []),n0)
 else
  ((DW N) p0.clock.field p1).bind fun a1=>
  bif a1.2 !=0 then
   some (aW.mk (aG.mk (0,0) (Field.mk []) (aI.mk 0 []) (aE.mk (aH.mk [] [] []) [] []) []) (cK.mk 0 []),a1.2)
  else
   ((rA N) a1.1 p0.clock.now).bind fun a2=>
   ((pT N) a2.1).bind fun l3=>
   ((fX N) p0.clock a1.1 l3).bind fun a4=>
   bif a4.2 !=0 then
    some (aW.mk (aG.mk (0,0) (Field.mk []) (aI.mk 0 []) (aE.mk (aH.mk [] [] []) [] []) []) (cK.mk 0 []),a4.2)
   else
    some (aW.mk a4.1 a2.1,0)
def QG (N:Nat):aV:=⟨aC.cons (aF.agg cX) (aC.one (aF.clo 288 (aC.one (aF.ref (bE.row bO))))),aF.tup (aC.cons (aF.agg cX) (aC.one (aF.int .i64))),fun a=>(iY N) a.1 a.2,.frz,false⟩
theorem QH (N:Nat):aB tab 287 (QG N):=aB.of MT (cx:=(aN (aK N) [(139,(XB N)),(288,(aTt N)),(33,(c33 N)),(245,(Z8 N)),(358,(aJD N)),(80,(c80 N))] [] [(288,aDt)] [])) rfl (aM.make ⟨(A3 N),(aJC N),(C0 N),(E7 N),(NJ N),(vK N),trivial⟩ trivial ⟨UF,trivial⟩) (fun a=>by kernel_rfl)
def LG (N:Nat) (p0:aW) (p1:Int×Int×Int):Option (aW×Int):=
 ((iY N) p0 p1).bind fun a0=>
 some a0
def aTu (N:Nat):aV:=⟨aC.cons (aF.agg cX) (aC.one (aF.agg (bE.row bO))),aF.tup (aC.cons (aF.agg cX) (aC.one (aF.int .i64))),fun a=>(LG N) a.1 a.2,.frz,false⟩
theorem aJE (N:Nat):aB tab 186 (aTu N):=aB.of aGe (cx:=(aN (aK N) [(287,(QG N))] [] [] [])) rfl (aM.make ⟨(QH N),trivial⟩ trivial trivial) (fun a=>by kernel_rfl)
def BB (N:Nat) (p0:Field) (p1:Int×Int×Int):Option (Field×Int):=
 ((rB N) p0 p1).bind fun a0=>
 some a0
def aTv (N:Nat):aV:=⟨aC.cons (aF.agg aT) (aC.one (aF.ref (bE.row bO))),aF.tup (aC.cons (aF.agg aT) (aC.one (aF.int .i64))),fun a=>(BB N) a.1 a.2,.frz,false⟩
theorem aJF (N:Nat):aB tab 290 (aTv N):=aB.of UG (cx:=(aN (aK N) [(33,(c33 N))] [] [] [])) rfl (aM.make ⟨(C0 N),trivial⟩ trivial trivial) (fun a=>by kernel_rfl)
def iF (N:Nat) (p0:bA) (p1:(Int×Int×Int)):Option (bA×Int):=
 ((jH N) p0).bind fun n0=>
 bif n0 !=0 then
  some (bA.mk (aG.mk (0,0) (Field.mk []) (aI.mk 0 []) (aE.mk (aH.mk [] [] []) [] []) []) [],n0)
 else
  ((BB N) p0.clock.field p1).bind fun a1=>
  bif a1.2 !=0 then
   some (bA.mk (aG.mk (0,0) (Field.mk []) (aI.mk 0 []) (aE.mk (aH.mk [] [] []) [] []) []) [],a1.2)
  else
   ((iX N) p0.clock a1.1).bind fun a2=>
   some a2
def QI (N:Nat):aV:=⟨aC.cons (aF.agg cY) (aC.one (aF.clo 290 (aC.one (aF.ref (bE.row bO))))),aF.tup (aC.cons (aF.agg cY) (aC.one (aF.int .i64))),fun a=>(iF N) a.1 a.2,.frz,false⟩
theorem QJ (N:Nat):aB tab 289 (QI N):=aB.of MU (cx:=(aN (aK N) [(140,(XD N)),(290,(aTv N)),(33,(c33 N)),(149,(aAj N))] [] [(290,aDw)] [])) rfl (aM.make ⟨(A4 N),(aJF N),(C0 N),(FB N),trivial⟩ trivial ⟨UG,trivial⟩) (fun a=>by kernel_rfl)
def IL (N:Nat) (p0:bA) (p1:Int×Int×Int):Option (bA×Int):=
 ((iF N) p0 p1).bind fun a0=>
 some a0
def aTw (N:Nat):aV:=⟨aC.cons (aF.agg cY) (aC.one (aF.agg (bE.row bO))),aF.tup (aC.cons (aF.agg cY) (aC.one (aF.int .i64))),fun a=>(IL N) a.1 a.2,.frz,false⟩
theorem aJG (N:Nat):aB tab 187 (aTw N):=aB.of aGf (cx:=(aN (aK N) [(289,(QI N))] [] [] [])) rfl (aM.make ⟨(QJ N),trivial⟩ trivial trivial) (fun a=>by kernel_rfl)
def dG (_:Nat) (p0:aY) (p1:Int):Option (aY×Int):=
 bif p1 !=0 then
  some (aY.mk 0 (bH.mk (aG.mk (0,0) (Field.mk []) (aI.mk 0 []) (aE.mk (aH.mk [] [] []) [] []) []) []) (bC.mk (aG.mk (0,0) (Field.mk []) (aI.mk 0 []) (aE.mk (aH.mk [] [] []) [] []) []) (aQ.mk [] [])) (aW.mk (aG.mk (0,0) (Field.mk []) (aI.mk 0 []) (aE.mk (aH.mk [] [] []) [] []) []) (cK.mk 0 [])) (bA.mk (aG.mk (0,0) (Field.mk []) (aI.mk 0 []) (aE.mk (aH.mk [] [] []) [] []) []) []),p1)
 else
  some (p0,0)
def aJH (N:Nat):aV:=⟨aC.cons (aF.agg cI) (aC.one (aF.int .i64)),aF.tup (aC.cons (aF.agg cI) (aC.one (aF.int .i64))),fun a=>(dG N) a.1 a.2,.frz,false⟩
theorem NK (N:Nat):aB tab 188 (aJH N):=aB.of aGg (cx:=(aN (aK N) [] [] [] [])) rfl (aM.make trivial trivial trivial) (fun a=>by kernel_rfl)
def IM (N:Nat) (p0:aY) (p1:Int×Int×Int):Option (aY×Int):=
 ((jJ N) p0).bind fun n0=>
 bif n0 !=0 then
  some (aY.mk 0 (bH.mk (aG.mk (0,0) (Field.mk []) (aI.mk 0 []) (aE.mk (aH.mk [] [] []) [] []) []) []) (bC.mk (aG.mk (0,0) (Field.mk []) (aI.mk 0 []) (aE.mk (aH.mk [] [] []) [] []) []) (aQ.mk [] [])) (aW.mk (aG.mk (0,0) (Field.mk []) (aI.mk 0 []) (aE.mk (aH.mk [] [] []) [] []) []) (cK.mk 0 [])) (bA.mk (aG.mk (0,0) (Field.mk []) (aI.mk 0 []) (aE.mk (aH.mk [] [] []) [] []) []) []),n0)
 else
  bif p0.tag==1 then
   ((LE N) p0.heap p1).bind fun a1=>
   ((dG N) (aY.mk p0.tag a1.1 p0.tourn p0.heater p0.hanger) a1.2).bind fun a2=>
   some a2
  else
   bif p0.tag==2 then
    ((LF N) p0.tourn p1).bind fun a3=>
    ((dG N) (aY.mk p0.tag p0.heap a3.1 p0.heater p0.hanger) a3.2).bind fun a4=>
    some a4
   else
    bif p0.tag==3 then
     ((LG N) p0.heater p1).bind fun a5=>
     ((dG N) (aY.mk p0.tag p0.heap p0.tourn a5.1 p0.hanger) a5.2).bind fun a6=>
     some a6
    else
     ((IL N) p0.hanger p1).bind fun a7=>
     ((dG N) (aY.mk p0.tag p0.heap p0.tourn p0.heater a7.1) a7.2).bind fun a8=>
     some a8
def aTx (N:Nat):aV:=⟨aC.cons (aF.agg cI) (aC.one (aF.agg (bE.row bO))),aF.tup (aC.cons (aF.agg cI) (aC.one (aF.int .i64))),fun a=>(IM N) a.1 a.2,.frz,false⟩
theorem aJI (N:Nat):aB tab 105 (aTx N):=aB.of aFo (cx:=(aN (aK N) [(69,(c69 N)),(185,(aTr N)),(12,(c12 N)),(186,(aTu N)),(187,(aTw N)),(188,(aJH N))] [] [] [])) rfl (aM.make ⟨(HV N),(aJA N),(aRu N),(aJE N),(aJG N),(NK N),trivial⟩ trivial trivial) (fun a=>by kernel_rfl)
def jU (_:Nat) (a:(Int×Int×(List (Int×Int×Int)))):Option (Nat×Nat×(List (Int×Int×Int))):=
 bif (((decide (0<=a.1))&&(decide (a.1<=a.2.1)))&&(decide (a.2.1<=(aa a.2.2.length))))&&(decide ((aa a.2.2.length)<=(aa a.2.2.length))) then
  bif a.1==a.2.1 then
   bif a.2.2.length==a.2.2.length then
    some (a.2.2.length,a.2.2.length,a.2.2)
   else
    none
  else
   (fI a.2.2 0 a.1).bind fun _=>
   bif ((decide (0<=a.2.1))&&(decide (a.2.1<=(aa a.2.2.length))))&&(decide ((aa a.2.2.length)<=(aa a.2.2.length))) then
    bif ((a.2.2.drop (0+a.2.1.toNat)).take (((aa a.2.2.length).toNat) -a.2.1.toNat)).isEmpty then
     bif ((decide (0<=(aa a.1.toNat)))&&(decide ((aa a.1.toNat)<=(aa a.2.2.length))))&&(decide ((aa a.2.2.length)<=(aa a.2.2.length))) then
      bif Nat.beq (((aa a.2.2.length).toNat) - ((aa a.1.toNat).toNat)) 0 then
       bif a.2.2.length==a.2.2.length then
        some (a.1.toNat,a.2.2.length,a.2.2)
       else
        none
      else
       bif (af ((0+((aa a.1.toNat).toNat))+(((aa a.2.2.length).toNat) - ((aa a.1.toNat).toNat))) a.2.2.length)&&(!false) then
        bif ((dD a.2.2 (0+((aa a.1.toNat).toNat)) (ae (((aa a.2.2.length).toNat) - ((aa a.1.toNat).toNat)) (0,0,0))).length)==a.2.2.length then
         some (a.1.toNat,a.2.2.length,dD a.2.2 (0+((aa a.1.toNat).toNat)) (ae (((aa a.2.2.length).toNat) - ((aa a.1.toNat).toNat)) (0,0,0)))
        else
         none
       else
        none
     else
      none
    else
     bif af (a.1.toNat+(((a.2.2.drop (0+a.2.1.toNat)).take (((aa a.2.2.length).toNat) -a.2.1.toNat)).length)) a.2.2.length then
      bif (af (a.1.toNat+(((a.2.2.drop (0+a.2.1.toNat)).take (((aa a.2.2.length).toNat) -a.2.1.toNat)).length)) a.2.2.length)&&(!false) then
       bif ((decide (0<=(aa (a.1.toNat+(((a.2.2.drop (0+a.2.1.toNat)).take (((aa a.2.2.length).toNat) -a.2.1.toNat)).length)))))&&(decide ((aa (a.1.toNat+(((a.2.2.drop (0+a.2.1.toNat)).take (((aa a.2.2.length).toNat) -a.2.1.toNat)).length)))<=(aa a.2.2.length))))&&(decide ((aa a.2.2.length)<=(aa a.2.2.length))) then
        bif Nat.beq (((aa a.2.2.length).toNat) - ((aa (a.1.toNat+(((a.2.2.drop (0+a.2.1.toNat)).take (((aa a.2.2.length).toNat) -a.2.1.toNat)).length))).toNat)) 0 then
         bif ((dD a.2.2 a.1.toNat ((a.2.2.drop (0+a.2.1.toNat)).take (((aa a.2.2.length).toNat) -a.2.1.toNat))).length)==a.2.2.length then
          some (a.1.toNat+(((a.2.2.drop (0+a.2.1.toNat)).take (((aa a.2.2.length).toNat) -a.2.1.toNat)).length),a.2.2.length,dD a.2.2 a.1.toNat ((a.2.2.drop (0+a.2.1.toNat)).take (((aa a.2.2.length).toNat) -a.2.1.toNat)))
         else
          none
        else
         bif (af ((0+((aa (a.1.toNat+(((a.2.2.drop (0+a.2.1.toNat)).take (((aa a.2.2.length).toNat) -a.2.1.toNat)).length))).toNat))+(((aa a.2.2.length).toNat) - ((aa (a.1.toNat+(((a.2.2.drop (0+a.2.1.toNat)).take (((aa a.2.2.length).toNat) -a.2.1.toNat)).length))).toNat))) ((dD a.2.2 a.1.toNat ((a.2.2.drop (0+a.2.1.toNat)).take (((aa a.2.2.length).toNat) -a.2.1.toNat))).length))&&(!false) then
          bif ((dD (dD a.2.2 a.1.toNat ((a.2.2.drop (0+a.2.1.toNat)).take (((aa a.2.2.length).toNat) -a.2.1.toNat))) (0+((aa (a.1.toNat+(((a.2.2.drop (0+a.2.1.toNat)).take (((aa a.2.2.length).toNat) -a.2.1.toNat)).length))).toNat)) (ae (((aa a.2.2.length).toNat) - ((aa (a.1.toNat+(((a.2.2.drop (0+a.2.1.toNat)).take (((aa a.2.2.length).toNat) -a.2.1.toNat)).length))).toNat)) (0,0,0))).length)==a.2.2.length then
           some (a.1.toNat+(((a.2.2.drop (0+a.2.1.toNat)).take (((aa a.2.2.length).toNat) -a.2.1.toNat)).length),a.2.2.length,dD (dD a.2.2 a.1.toNat ((a.2.2.drop (0+a.2.1.toNat)).take (((aa a.2.2.length).toNat) -a.2.1.toNat))) (0+((aa (a.1.toNat+(((a.2.2.drop (0+a.2.1.toNat)).take (((aa a.2.2.length).toNat) -a.2.1.toNat)).length))).toNat)) (ae (((aa a.2.2.length).toNat) - ((aa (a.1.toNat+(((a.2.2.drop (0+a.2.1.toNat)).take (((aa a.2.2.length).toNat) -a.2.1.toNat)).length))).toNat)) (0,0,0)))
          else
           none
         else
          none
       else
        none
      else
       none
     else
      none
   else
    none
 else
  none
def aLc (N:Nat):cA:=⟨[.i,.i,.l [.i .i64,.i .i64,.i .i64]],[.own 0 false,.int .i64 0,.int .i64 0],[.arr [.i .i64,.i .i64,.i .i64] []],[.n,.n,.l [.i .i64,.i .i64,.i .i64]],.pre 0 0 0 false,[.arr [.i .i64,.i .i64,.i .i64] []],fun a=>(jU N) a⟩
theorem aAn (N:Nat):eE tab 96 (aLc N):=eE.of aQY (wd:=true) (cx:=(aN (aK N) [] [] [] [])) (aM.make trivial trivial trivial) (fun a=>by kernel_rfl)
def oM (N:Nat) (p0:Field) (p1:Int):Option (Field×Int):=
 ((pL N) p0 p1).bind fun a0=>
 bif a0.2 !=0 then
  some (Field.mk [],a0.2)
 else
  (bG p0.points).bind fun l1=>
  ((jU N) (a0.1,aA .i64 (a0.1+1),l1)).bind fun a2=>
  some (Field.mk (a2.2.2.take a2.1),0)
def c38 (N:Nat):aV:=⟨aC.cons (aF.agg aT) (aC.one (aF.int .i64)),aF.tup (aC.cons (aF.agg aT) (aC.one (aF.int .i64))),fun a=>(oM N) a.1 a.2,.frz,false⟩
theorem C1 (N:Nat):aB tab 38 (c38 N):=aB.of aQh (cx:=(aN (aK N) [(95,(c95 N)),(78,aV.clone bO)] [(96,(aLc N))] [] [])) rfl (aM.make ⟨(SS N),nO,trivial⟩ ⟨(aAn N),trivial⟩ trivial) (fun a=>by kernel_rfl)
def J0 (N:Nat) (c0:(Int×Int×Int×(List (Int×Int×Int))×Int×(List (Int×Int×Int))×(List Int)×(List Bool)×(List Int)×(List (Int×Int×Int×Int×Int))×(List Int)×(List (Int×Int×Int))×(List Int)×Int×Int×Int×(List (Int×Int×Int))×(List Int)×(List (Int×Int×Int))×Int×Int×Nat×Nat)) (c1:(List Int)) (s:(Int×Int×Int×Int×Int×(List (Int×Int×Int))×Int×(List (Int×Int×Int))×(List Int)×(List Bool)×(List Int)×(List (Int×Int×Int×Int×Int))×(List Int)×(List (Int×Int×Int))×(List Int)×Int×Int×Int×(List (Int×Int×Int))×(List Int)×(List (Int×Int×Int))×Int×Int×Nat×Nat×Int×Int×Int×Int×Int×Int)):Option (aS (Int×Int×Int×Int×Int×(List (Int×Int×Int))×Int×(List (Int×Int×Int))×(List Int)×(List Bool)×(List Int)×(List (Int×Int×Int×Int×Int))×(List Int)×(List (Int×Int×Int))×(List Int)×Int×Int×Int×(List (Int×Int×Int))×(List Int)×(List (Int×Int×Int))×Int×Int×Nat×Nat×Int×Int×Int×Int×Int×Int) (aS (Int×Int×Int×(List (Int×Int×Int))×Int×(List (Int×Int×Int))×(List Int)×(List Bool)×(List Int)×(List (Int×Int×Int×Int×Int))×(List Int)×(List (Int×Int×Int))×(List Int)×Int×Int×Int×(List (Int×Int×Int))×(List Int)×(List (Int×Int×Int))×Int×Int×Nat×Nat×Int×Int×Int×Int×Int×Int) (aS (Int×Int×Int×(List (Int×Int×Int))×Int×(List (Int×Int×Int))×(List Int)×(List Bool)×(List Int)×(List (Int×Int×Int×Int×Int))×(List Int)×(List (Int×Int×Int))×(List Int)×Int×Int×Int×(List (Int×Int×Int))×(List Int)×(List (Int×Int×Int))×Int×Int×Nat×Nat) (bH×Int)))):=
 bif decide (s.2.2.1<=(aA .i64 ((aA .i64 (2*s.1))+2))) then
  bif decide (s.2.2.1<(aa s.2.2.2.2.2.2.2.2.2.2.2.2.2.2.2.2.2.2.2.2.2.2.2.1)) then
   (aL (s.2.2.2.2.2.2.2.2.2.2.2.2.2.2.2.2.2.2.2.1.take s.2.2.2.2.2.2.2.2.2.2.2.2.2.2.2.2.2.2.2.2.2.2.2.1) s.2.2.1).bind fun n0=>
   ((cC N) (Field.mk s.2.2.2.2.2.2.2.2.2.2.2.2.2.2.2.2.2.2.2.2.1) n0).bind fun a1=>
   (aL (s.2.2.2.2.2.2.2.2.2.2.2.2.2.2.2.2.2.2.2.1.take s.2.2.2.2.2.2.2.2.2.2.2.2.2.2.2.2.2.2.2.2.2.2.2.1) s.2.1).bind fun n2=>
   ((cC N) (Field.mk s.2.2.2.2.2.2.2.2.2.2.2.2.2.2.2.2.2.2.2.2.1) n2).bind fun a3=>
   ((cP N) a1.1 a3.1 (s.2.2.2.2.2.2.2.2.2.2.2.2.2.2.2.2.2.2.2.2.2.1,s.2.2.2.2.2.2.2.2.2.2.2.2.2.2.2.2.2.2.2.2.2.2.1)).bind fun a4=>
   bif s.2.2.2.2.2.2.2.2.2.2.2.2.2.2.2.2.2.2.2.1.length==s.2.2.2.2.2.2.2.2.2.2.2.2.2.2.2.2.2.2.2.1.length then
    bif a4.1 then
     some (.next (s.1,s.2.2.1,aA .i64 (s.2.2.1+1),s.2.2.2))
    else
     some (.next (s.1,s.2.1,aA .i64 (s.2.2.1+1),s.2.2.2))
   else
    none
  else
   bif s.2.1==s.1 then
    bif s.2.2.2.2.2.2.2.2.2.2.2.2.2.2.2.2.2.2.2.1.length==c0.2.2.2.2.2.2.2.2.2.2.2.2.2.2.2.2.2.1.length then
     ((cN N) (aG.mk (s.2.2.2.1,s.2.2.2.2.1) (Field.mk s.2.2.2.2.2.1) (aI.mk s.2.2.2.2.2.2.1 s.2.2.2.2.2.2.2.1) (aE.mk (aH.mk s.2.2.2.2.2.2.2.2.1 s.2.2.2.2.2.2.2.2.2.1 s.2.2.2.2.2.2.2.2.2.2.1) s.2.2.2.2.2.2.2.2.2.2.2.1 s.2.2.2.2.2.2.2.2.2.2.2.2.1) s.2.2.2.2.2.2.2.2.2.2.2.2.2.1) (Field.mk s.2.2.2.2.2.2.2.2.2.2.2.2.2.2.2.2.2.2.1) (s.2.2.2.2.2.2.2.2.2.2.2.2.2.2.2.2.2.2.2.1.take ((aA .i64 ((aa c1.length) -1)).toNat))).bind fun a5=>
     some (.done (.done (.done a5)))
    else
     none
   else
    (aL (s.2.2.2.2.2.2.2.2.2.2.2.2.2.2.2.2.2.2.2.1.take s.2.2.2.2.2.2.2.2.2.2.2.2.2.2.2.2.2.2.2.2.2.2.2.1) s.2.1).bind fun n6=>
    (aL (s.2.2.2.2.2.2.2.2.2.2.2.2.2.2.2.2.2.2.2.1.take s.2.2.2.2.2.2.2.2.2.2.2.2.2.2.2.2.2.2.2.2.2.2.2.1) s.1).bind fun n7=>
    (aL (s.2.2.2.2.2.2.2.2.2.2.2.2.2.2.2.2.2.2.2.1.take s.2.2.2.2.2.2.2.2.2.2.2.2.2.2.2.2.2.2.2.2.2.2.2.1) s.1).bind fun _=>
    (aL ((aZ s.2.2.2.2.2.2.2.2.2.2.2.2.2.2.2.2.2.2.2.1 s.1 n6).take s.2.2.2.2.2.2.2.2.2.2.2.2.2.2.2.2.2.2.2.2.2.2.2.1) s.2.1).bind fun _=>
    some (.done (.next (s.2.1,s.2.2.2.1,s.2.2.2.2.1,s.2.2.2.2.2.1,s.2.2.2.2.2.2.1,s.2.2.2.2.2.2.2.1,s.2.2.2.2.2.2.2.2.1,s.2.2.2.2.2.2.2.2.2.1,s.2.2.2.2.2.2.2.2.2.2.1,s.2.2.2.2.2.2.2.2.2.2.2.1,s.2.2.2.2.2.2.2.2.2.2.2.2.1,s.2.2.2.2.2.2.2.2.2.2.2.2.2.1,s.2.2.2.2.2.2.2.2.2.2.2.2.2.2.1,s.2.2.2.2.2.2.2.2.2.2.2.2.2.2.2.1,s.2.2.2.2.2.2.2.2.2.2.2.2.2.2.2.2.1,s.2.2.2.2.2.2.2.2.2.2.2.2.2.2.2.2.2.1,s.2.2.2.2.2.2.2.2.2.2.2.2.2.2.2.2.2.2.1,aZ (aZ s.2.2.2.2.2.2.2.2.2.2.2.2.2.2.2.2.2.2.2.1 s.1 n6) s.2.1 n7,s.2.2.2.2.2.2.2.2.2.2.2.2.2.2.2.2.2.2.2.2)))
 else
  bif s.2.1==s.1 then
   bif s.2.2.2.2.2.2.2.2.2.2.2.2.2.2.2.2.2.2.2.1.length==c0.2.2.2.2.2.2.2.2.2.2.2.2.2.2.2.2.2.1.length then
    ((cN N) (aG.mk (s.2.2.2.1,s.2.2.2.2.1) (Field.mk s.2.2.2.2.2.1) (aI.mk s.2.2.2.2.2.2.1 s.2.2.2.2.2.2.2.1) (aE.mk (aH.mk s.2.2.2.2.2.2.2.2.1 s.2.2.2.2.2.2.2.2.2.1 s.2.2.2.2.2.2.2.2.2.2.1) s.2.2.2.2.2.2.2.2.2.2.2.1 s.2.2.2.2.2.2.2.2.2.2.2.2.1) s.2.2.2.2.2.2.2.2.2.2.2.2.2.1) (Field.mk s.2.2.2.2.2.2.2.2.2.2.2.2.2.2.2.2.2.2.1) (s.2.2.2.2.2.2.2.2.2.2.2.2.2.2.2.2.2.2.2.1.take ((aA .i64 ((aa c1.length) -1)).toNat))).bind fun a10=>
    some (.done (.done (.done a10)))
   else
    none
  else
   (aL (s.2.2.2.2.2.2.2.2.2.2.2.2.2.2.2.2.2.2.2.1.take s.2.2.2.2.2.2.2.2.2.2.2.2.2.2.2.2.2.2.2.2.2.2.2.1) s.2.1).bind fun n11=>
   (aL (s.2.2.2.2.2.2.2.2.2.2.2.2.2.2.2.2.2.2.2.1.take s.2.2.2.2.2.2.2.2.2.2.2.2.2.2.2.2.2.2.2.2.2.2.2.1) s.1).bind fun n12=>
   (aL (s.2.2.2.2.2.2.2.2.2.2.2.2.2.2.2.2.2.2.2.1.take s.2.2.2.2.2.2.2.2.2.2.2.2.2.2.2.2.2.2.2.2.2.2.2.1) s.1).bind fun _=>
   (aL ((aZ s.2.2.2.2.2.2.2.2.2.2.2.2.2.2.2.2.2.2.2.1 s.1 n11).take s.2.2.2.2.2.2.2.2.2.2.2.2.2.2.2.2.2.2.2.2.2.2.2.1) s.2.1).bind fun _=>
   some (.done (.next (s.2.1,s.2.2.2.1,s.2.2.2.2.1,s.2.2.2.2.2.1,s.2.2.2.2.2.2.1,s.2.2.2.2.2.2.2.1,s.2.2.2.2.2.2.2.2.1,s.2.2.2.2.2.2.2.2.2.1,s.2.2.2.2.2.2.2.2.2.2.1,s.2.2.2.2.2.2.2.2.2.2.2.1,s.2.2.2.2.2.2.2.2.2.2.2.2.1,s.2.2.2.2.2.2.2.2.2.2.2.2.2.1,s.2.2.2.2.2.2.2.2.2.2.2.2.2.2.1,s.2.2.2.2.2.2.2.2.2.2.2.2.2.2.2.1,s.2.2.2.2.2.2.2.2.2.2.2.2.2.2.2.2.1,s.2.2.2.2.2.2.2.2.2.2.2.2.2.2.2.2.2.1,s.2.2.2.2.2.2.2.2.2.2.2.2.2.2.2.2.2.2.1,aZ (aZ s.2.2.2.2.2.2.2.2.2.2.2.2.2.2.2.2.2.2.2.1 s.1 n11) s.2.1 n12,s.2.2.2.2.2.2.2.2.2.2.2.2.2.2.2.2.2.2.2.2)))
def J1 (N:Nat) (c0:(Int×Int×Int×(List (Int×Int×Int))×Int×(List (Int×Int×Int))×(List Int)×(List Bool)×(List Int)×(List (Int×Int×Int×Int×Int))×(List Int)×(List (Int×Int×Int))×(List Int)×Int×Int×Int×(List (Int×Int×Int))×(List Int)×(List (Int×Int×Int))×Int×Int×Nat×Nat)) (c1:(List Int)) (s:(Int×Int×Int×(List (Int×Int×Int))×Int×(List (Int×Int×Int))×(List Int)×(List Bool)×(List Int)×(List (Int×Int×Int×Int×Int))×(List Int)×(List (Int×Int×Int))×(List Int)×Int×Int×Int×(List (Int×Int×Int))×(List Int)×(List (Int×Int×Int))×Int×Int×Nat×Nat×Int×Int×Int×Int×Int×Int)):Option (aS (Int×Int×Int×(List (Int×Int×Int))×Int×(List (Int×Int×Int))×(List Int)×(List Bool)×(List Int)×(List (Int×Int×Int×Int×Int))×(List Int)×(List (Int×Int×Int))×(List Int)×Int×Int×Int×(List (Int×Int×Int))×(List Int)×(List (Int×Int×Int))×Int×Int×Nat×Nat×Int×Int×Int×Int×Int×Int) (aS (Int×Int×Int×(List (Int×Int×Int))×Int×(List (Int×Int×Int))×(List Int)×(List Bool)×(List Int)×(List (Int×Int×Int×Int×Int))×(List Int)×(List (Int×Int×Int))×(List Int)×Int×Int×Int×(List (Int×Int×Int))×(List Int)×(List (Int×Int×Int))×Int×Int×Nat×Nat) (bH×Int))):=
 (aO N) ((J0 N) c0 c1) (s.1,s.1,aA .i64 ((aA .i64 (2*s.1))+1),s.2)
def J2 (N:Nat) (c0:(Int×Int×Int×(List (Int×Int×Int))×Int×(List (Int×Int×Int))×(List Int)×(List Bool)×(List Int)×(List (Int×Int×Int×Int×Int))×(List Int)×(List (Int×Int×Int))×(List Int)×Int×Int×Int×(List (Int×Int×Int))×(List Int)×(List (Int×Int×Int))×Int×Int×Nat×Nat)) (c1:(List Int)) (s:(Int×Int×Int×Int×Int×(List (Int×Int×Int))×Int×(List (Int×Int×Int))×(List Int)×(List Bool)×(List Int)×(List (Int×Int×Int×Int×Int))×(List Int)×(List (Int×Int×Int))×(List Int)×Int×Int×Int×(List (Int×Int×Int))×(List Int)×(List (Int×Int×Int))×Int×Int×Nat×Nat)):Option (aS (Int×Int×Int×Int×Int×(List (Int×Int×Int))×Int×(List (Int×Int×Int))×(List Int)×(List Bool)×(List Int)×(List (Int×Int×Int×Int×Int))×(List Int)×(List (Int×Int×Int))×(List Int)×Int×Int×Int×(List (Int×Int×Int))×(List Int)×(List (Int×Int×Int))×Int×Int×Nat×Nat) (aS (Int×Int×Int×(List (Int×Int×Int))×Int×(List (Int×Int×Int))×(List Int)×(List Bool)×(List Int)×(List (Int×Int×Int×Int×Int))×(List Int)×(List (Int×Int×Int))×(List Int)×Int×Int×Int×(List (Int×Int×Int))×(List Int)×(List (Int×Int×Int))×Int×Int×Nat×Nat) (aS (Int×Int×Int×(List (Int×Int×Int))×Int×(List (Int×Int×Int))×(List Int)×(List Bool)×(List Int)×(List (Int×Int×Int×Int×Int))×(List Int)×(List (Int×Int×Int))×(List Int)×Int×Int×Int×(List (Int×Int×Int))×(List Int)×(List (Int×Int×Int))×Int×Int×Nat×Nat) (bH×Int)))):=
 bif decide (s.2.2.1<=(aA .i64 ((aA .i64 (2*s.1))+2))) then
  bif decide (s.2.2.1<(aa s.2.2.2.2.2.2.2.2.2.2.2.2.2.2.2.2.2.2.2.2.2.2.2.1)) then
   (aL (s.2.2.2.2.2.2.2.2.2.2.2.2.2.2.2.2.2.2.2.1.take s.2.2.2.2.2.2.2.2.2.2.2.2.2.2.2.2.2.2.2.2.2.2.2.1) s.2.2.1).bind fun n0=>
   ((cC N) (Field.mk s.2.2.2.2.2.2.2.2.2.2.2.2.2.2.2.2.2.2.2.2.1) n0).bind fun a1=>
   (aL (s.2.2.2.2.2.2.2.2.2.2.2.2.2.2.2.2.2.2.2.1.take s.2.2.2.2.2.2.2.2.2.2.2.2.2.2.2.2.2.2.2.2.2.2.2.1) s.2.1).bind fun n2=>
   ((cC N) (Field.mk s.2.2.2.2.2.2.2.2.2.2.2.2.2.2.2.2.2.2.2.2.1) n2).bind fun a3=>
   ((cP N) a1.1 a3.1 (s.2.2.2.2.2.2.2.2.2.2.2.2.2.2.2.2.2.2.2.2.2.1,s.2.2.2.2.2.2.2.2.2.2.2.2.2.2.2.2.2.2.2.2.2.2.1)).bind fun a4=>
   bif s.2.2.2.2.2.2.2.2.2.2.2.2.2.2.2.2.2.2.2.1.length==s.2.2.2.2.2.2.2.2.2.2.2.2.2.2.2.2.2.2.2.1.length then
    bif a4.1 then
     some (.next (s.1,s.2.2.1,aA .i64 (s.2.2.1+1),s.2.2.2))
    else
     some (.next (s.1,s.2.1,aA .i64 (s.2.2.1+1),s.2.2.2))
   else
    none
  else
   bif s.2.1==s.1 then
    bif s.2.2.2.2.2.2.2.2.2.2.2.2.2.2.2.2.2.2.2.1.length==c0.2.2.2.2.2.2.2.2.2.2.2.2.2.2.2.2.2.1.length then
     ((cN N) (aG.mk (s.2.2.2.1,s.2.2.2.2.1) (Field.mk s.2.2.2.2.2.1) (aI.mk s.2.2.2.2.2.2.1 s.2.2.2.2.2.2.2.1) (aE.mk (aH.mk s.2.2.2.2.2.2.2.2.1 s.2.2.2.2.2.2.2.2.2.1 s.2.2.2.2.2.2.2.2.2.2.1) s.2.2.2.2.2.2.2.2.2.2.2.1 s.2.2.2.2.2.2.2.2.2.2.2.2.1) s.2.2.2.2.2.2.2.2.2.2.2.2.2.1) (Field.mk s.2.2.2.2.2.2.2.2.2.2.2.2.2.2.2.2.2.2.1) (s.2.2.2.2.2.2.2.2.2.2.2.2.2.2.2.2.2.2.2.1.take ((aA .i64 ((aa c1.length) -1)).toNat))).bind fun a5=>
     some (.done (.done (.done a5)))
    else
     none
   else
    (aL (s.2.2.2.2.2.2.2.2.2.2.2.2.2.2.2.2.2.2.2.1.take s.2.2.2.2.2.2.2.2.2.2.2.2.2.2.2.2.2.2.2.2.2.2.2.1) s.2.1).bind fun n6=>
    (aL (s.2.2.2.2.2.2.2.2.2.2.2.2.2.2.2.2.2.2.2.1.take s.2.2.2.2.2.2.2.2.2.2.2.2.2.2.2.2.2.2.2.2.2.2.2.1) s.1).bind fun n7=>
    (aL (s.2.2.2.2.2.2.2.2.2.2.2.2.2.2.2.2.2.2.2.1.take s.2.2.2.2.2.2.2.2.2.2.2.2.2.2.2.2.2.2.2.2.2.2.2.1) s.1).bind fun _=>
    (aL ((aZ s.2.2.2.2.2.2.2.2.2.2.2.2.2.2.2.2.2.2.2.1 s.1 n6).take s.2.2.2.2.2.2.2.2.2.2.2.2.2.2.2.2.2.2.2.2.2.2.2.1) s.2.1).bind fun _=>
    some (.done (.next (s.2.1,s.2.2.2.1,s.2.2.2.2.1,s.2.2.2.2.2.1,s.2.2.2.2.2.2.1,s.2.2.2.2.2.2.2.1,s.2.2.2.2.2.2.2.2.1,s.2.2.2.2.2.2.2.2.2.1,s.2.2.2.2.2.2.2.2.2.2.1,s.2.2.2.2.2.2.2.2.2.2.2.1,s.2.2.2.2.2.2.2.2.2.2.2.2.1,s.2.2.2.2.2.2.2.2.2.2.2.2.2.1,s.2.2.2.2.2.2.2.2.2.2.2.2.2.2.1,s.2.2.2.2.2.2.2.2.2.2.2.2.2.2.2.1,s.2.2.2.2.2.2.2.2.2.2.2.2.2.2.2.2.1,s.2.2.2.2.2.2.2.2.2.2.2.2.2.2.2.2.2.1,s.2.2.2.2.2.2.2.2.2.2.2.2.2.2.2.2.2.2.1,aZ (aZ s.2.2.2.2.2.2.2.2.2.2.2.2.2.2.2.2.2.2.2.1 s.1 n6) s.2.1 n7,s.2.2.2.2.2.2.2.2.2.2.2.2.2.2.2.2.2.2.2.2)))
 else
  bif s.2.1==s.1 then
   bif s.2.2.2.2.2.2.2.2.2.2.2.2.2.2.2.2.2.2.2.1.length==c0.2.2.2.2.2.2.2.2.2.2.2.2.2.2.2.2.2.1.length then
    ((cN N) (aG.mk (s.2.2.2.1,s.2.2.2.2.1) (Field.mk s.2.2.2.2.2.1) (aI.mk s.2.2.2.2.2.2.1 s.2.2.2.2.2.2.2.1) (aE.mk (aH.mk s.2.2.2.2.2.2.2.2.1 s.2.2.2.2.2.2.2.2.2.1 s.2.2.2.2.2.2.2.2.2.2.1) s.2.2.2.2.2.2.2.2.2.2.2.1 s.2.2.2.2.2.2.2.2.2.2.2.2.1) s.2.2.2.2.2.2.2.2.2.2.2.2.2.1) (Field.mk s.2.2.2.2.2.2.2.2.2.2.2.2.2.2.2.2.2.2.1) (s.2.2.2.2.2.2.2.2.2.2.2.2.2.2.2.2.2.2.2.1.take ((aA .i64 ((aa c1.length) -1)).toNat))).bind fun a10=>
    some (.done (.done (.done a10)))
   else
    none
  else
   (aL (s.2.2.2.2.2.2.2.2.2.2.2.2.2.2.2.2.2.2.2.1.take s.2.2.2.2.2.2.2.2.2.2.2.2.2.2.2.2.2.2.2.2.2.2.2.1) s.2.1).bind fun n11=>
   (aL (s.2.2.2.2.2.2.2.2.2.2.2.2.2.2.2.2.2.2.2.1.take s.2.2.2.2.2.2.2.2.2.2.2.2.2.2.2.2.2.2.2.2.2.2.2.1) s.1).bind fun n12=>
   (aL (s.2.2.2.2.2.2.2.2.2.2.2.2.2.2.2.2.2.2.2.1.take s.2.2.2.2.2.2.2.2.2.2.2.2.2.2.2.2.2.2.2.2.2.2.2.1) s.1).bind fun _=>
   (aL ((aZ s.2.2.2.2.2.2.2.2.2.2.2.2.2.2.2.2.2.2.2.1 s.1 n11).take s.2.2.2.2.2.2.2.2.2.2.2.2.2.2.2.2.2.2.2.2.2.2.2.1) s.2.1).bind fun _=>
   some (.done (.next (s.2.1,s.2.2.2.1,s.2.2.2.2.1,s.2.2.2.2.2.1,s.2.2.2.2.2.2.1,s.2.2.2.2.2.2.2.1,s.2.2.2.2.2.2.2.2.1,s.2.2.2.2.2.2.2.2.2.1,s.2.2.2.2.2.2.2.2.2.2.1,s.2.2.2.2.2.2.2.2.2.2.2.1,s.2.2.2.2.2.2.2.2.2.2.2.2.1,s.2.2.2.2.2.2.2.2.2.2.2.2.2.1,s.2.2.2.2.2.2.2.2.2.2.2.2.2.2.1,s.2.2.2.2.2.2.2.2.2.2.2.2.2.2.2.1,s.2.2.2.2.2.2.2.2.2.2.2.2.2.2.2.2.1,s.2.2.2.2.2.2.2.2.2.2.2.2.2.2.2.2.2.1,s.2.2.2.2.2.2.2.2.2.2.2.2.2.2.2.2.2.2.1,aZ (aZ s.2.2.2.2.2.2.2.2.2.2.2.2.2.2.2.2.2.2.2.1 s.1 n11) s.2.1 n12,s.2.2.2.2.2.2.2.2.2.2.2.2.2.2.2.2.2.2.2.2)))
def J3 (N:Nat) (c0:(Int×Int×Int×(List (Int×Int×Int))×Int×(List (Int×Int×Int))×(List Int)×(List Bool)×(List Int)×(List (Int×Int×Int×Int×Int))×(List Int)×(List (Int×Int×Int))×(List Int)×Int×Int×Int×(List (Int×Int×Int))×(List Int)×(List (Int×Int×Int))×Int×Int×Nat×Nat)) (c1:(List Int)) (s:(Int×Int×Int×(List (Int×Int×Int))×Int×(List (Int×Int×Int))×(List Int)×(List Bool)×(List Int)×(List (Int×Int×Int×Int×Int))×(List Int)×(List (Int×Int×Int))×(List Int)×Int×Int×Int×(List (Int×Int×Int))×(List Int)×(List (Int×Int×Int))×Int×Int×Nat×Nat)):Option (aS (Int×Int×Int×(List (Int×Int×Int))×Int×(List (Int×Int×Int))×(List Int)×(List Bool)×(List Int)×(List (Int×Int×Int×Int×Int))×(List Int)×(List (Int×Int×Int))×(List Int)×Int×Int×Int×(List (Int×Int×Int))×(List Int)×(List (Int×Int×Int))×Int×Int×Nat×Nat) (aS (Int×Int×Int×(List (Int×Int×Int))×Int×(List (Int×Int×Int))×(List Int)×(List Bool)×(List Int)×(List (Int×Int×Int×Int×Int))×(List Int)×(List (Int×Int×Int))×(List Int)×Int×Int×Int×(List (Int×Int×Int))×(List Int)×(List (Int×Int×Int))×Int×Int×Nat×Nat) (bH×Int))):=
 (aO N) ((J2 N) c0 c1) (s.1,s.1,aA .i64 ((aA .i64 (2*s.1))+1),s.2)
def J4 (N:Nat) (c0:(List Int)) (c1:Int) (c2:Int) (s:(Int×Int×Int×(List (Int×Int×Int))×Int×(List (Int×Int×Int))×(List Int)×(List Bool)×(List Int)×(List (Int×Int×Int×Int×Int))×(List Int)×(List (Int×Int×Int))×(List Int)×Int×Int×Int×(List (Int×Int×Int))×(List Int)×(List (Int×Int×Int))×Int×Int×Nat×Nat)):Option (aS (Int×Int×Int×(List (Int×Int×Int))×Int×(List (Int×Int×Int))×(List Int)×(List Bool)×(List Int)×(List (Int×Int×Int×Int×Int))×(List Int)×(List (Int×Int×Int))×(List Int)×Int×Int×Int×(List (Int×Int×Int))×(List Int)×(List (Int×Int×Int))×Int×Int×Nat×Nat) (bH×Int)):=
 bif decide (0<s.1) then
  (aL (s.2.2.2.2.2.2.2.2.2.2.2.2.2.2.2.2.2.1.take s.2.2.2.2.2.2.2.2.2.2.2.2.2.2.2.2.2.2.2.2.2.1) s.1).bind fun n0=>
  ((cC N) (Field.mk s.2.2.2.2.2.2.2.2.2.2.2.2.2.2.2.2.2.2.1) n0).bind fun a1=>
  (aL (s.2.2.2.2.2.2.2.2.2.2.2.2.2.2.2.2.2.1.take s.2.2.2.2.2.2.2.2.2.2.2.2.2.2.2.2.2.2.2.2.2.1) (aA .i64 (ac (aA .i64 (s.1-1)) 2))).bind fun n2=>
  ((cC N) (Field.mk s.2.2.2.2.2.2.2.2.2.2.2.2.2.2.2.2.2.2.1) n2).bind fun a3=>
  ((cP N) a1.1 a3.1 (s.2.2.2.2.2.2.2.2.2.2.2.2.2.2.2.2.2.2.2.1,s.2.2.2.2.2.2.2.2.2.2.2.2.2.2.2.2.2.2.2.2.1)).bind fun a4=>
  bif s.2.2.2.2.2.2.2.2.2.2.2.2.2.2.2.2.2.1.length==s.2.2.2.2.2.2.2.2.2.2.2.2.2.2.2.2.2.1.length then
   bif a4.1 then
    (aL (s.2.2.2.2.2.2.2.2.2.2.2.2.2.2.2.2.2.1.take s.2.2.2.2.2.2.2.2.2.2.2.2.2.2.2.2.2.2.2.2.2.1) (aA .i64 (ac (aA .i64 (s.1-1)) 2))).bind fun n5=>
    (aL (s.2.2.2.2.2.2.2.2.2.2.2.2.2.2.2.2.2.1.take s.2.2.2.2.2.2.2.2.2.2.2.2.2.2.2.2.2.2.2.2.2.1) s.1).bind fun n6=>
    (aL (s.2.2.2.2.2.2.2.2.2.2.2.2.2.2.2.2.2.1.take s.2.2.2.2.2.2.2.2.2.2.2.2.2.2.2.2.2.2.2.2.2.1) s.1).bind fun _=>
    (aL ((aZ s.2.2.2.2.2.2.2.2.2.2.2.2.2.2.2.2.2.1 s.1 n5).take s.2.2.2.2.2.2.2.2.2.2.2.2.2.2.2.2.2.2.2.2.2.1) (aA .i64 (ac (aA .i64 (s.1-1)) 2))).bind fun _=>
    some (.next (aA .i64 (ac (aA .i64 (s.1-1)) 2),s.2.1,s.2.2.1,s.2.2.2.1,s.2.2.2.2.1,s.2.2.2.2.2.1,s.2.2.2.2.2.2.1,s.2.2.2.2.2.2.2.1,s.2.2.2.2.2.2.2.2.1,s.2.2.2.2.2.2.2.2.2.1,s.2.2.2.2.2.2.2.2.2.2.1,s.2.2.2.2.2.2.2.2.2.2.2.1,s.2.2.2.2.2.2.2.2.2.2.2.2.1,s.2.2.2.2.2.2.2.2.2.2.2.2.2.1,s.2.2.2.2.2.2.2.2.2.2.2.2.2.2.1,s.2.2.2.2.2.2.2.2.2.2.2.2.2.2.2.1,s.2.2.2.2.2.2.2.2.2.2.2.2.2.2.2.2.1,aZ (aZ s.2.2.2.2.2.2.2.2.2.2.2.2.2.2.2.2.2.1 s.1 n5) (aA .i64 (ac (aA .i64 (s.1-1)) 2)) n6,s.2.2.2.2.2.2.2.2.2.2.2.2.2.2.2.2.2.2))
   else
    bif s.2.2.2.2.2.2.2.2.2.2.2.2.2.2.2.2.2.1.length==((aZ c0 c1 c2).length) then
     (aO N) ((J1 N) s c0) (s.1,s.2.1,s.2.2.1,s.2.2.2.1,s.2.2.2.2.1,s.2.2.2.2.2.1,s.2.2.2.2.2.2.1,s.2.2.2.2.2.2.2.1,s.2.2.2.2.2.2.2.2.1,s.2.2.2.2.2.2.2.2.2.1,s.2.2.2.2.2.2.2.2.2.2.1,s.2.2.2.2.2.2.2.2.2.2.2.1,s.2.2.2.2.2.2.2.2.2.2.2.2.1,s.2.2.2.2.2.2.2.2.2.2.2.2.2.1,s.2.2.2.2.2.2.2.2.2.2.2.2.2.2.1,s.2.2.2.2.2.2.2.2.2.2.2.2.2.2.2.1,s.2.2.2.2.2.2.2.2.2.2.2.2.2.2.2.2.1,s.2.2.2.2.2.2.2.2.2.2.2.2.2.2.2.2.2.1,s.2.2.2.2.2.2.2.2.2.2.2.2.2.2.2.2.2.2.1,s.2.2.2.2.2.2.2.2.2.2.2.2.2.2.2.2.2.2.2.1,s.2.2.2.2.2.2.2.2.2.2.2.2.2.2.2.2.2.2.2.2.1,s.2.2.2.2.2.2.2.2.2.2.2.2.2.2.2.2.2.2.2.2.2.1,s.2.2.2.2.2.2.2.2.2.2.2.2.2.2.2.2.2.2.2.2.2.2,a1.1.1,a1.1.2.1,a1.1.2.2,a3.1)
    else
     none
  else
   none
 else
  bif s.2.2.2.2.2.2.2.2.2.2.2.2.2.2.2.2.2.1.length==((aZ c0 c1 c2).length) then
   (aO N) ((J3 N) s c0) s
  else
   none
def IN (N:Nat) (p0:bH) (p1:Int):Option (bH×Int):=
 ((kR N) p0).bind fun n0=>
 bif n0 !=0 then
  some (bH.mk (aG.mk (0,0) (Field.mk []) (aI.mk 0 []) (aE.mk (aH.mk [] [] []) [] []) []) [],n0)
 else
  ((oM N) p0.clock.field p1).bind fun a1=>
  bif a1.2 !=0 then
   some (bH.mk (aG.mk (0,0) (Field.mk []) (aI.mk 0 []) (aE.mk (aH.mk [] [] []) [] []) []) [],a1.2)
  else
   (bG p0.heap).bind fun l2=>
   ((dF N) l2 p1).bind fun n3=>
   (aL l2 (aA .i64 ((aa l2.length) -1))).bind fun n4=>
   (aL l2 n3).bind fun _=>
   (fI (aZ l2 n3 n4) 0 (aA .i64 ((aa l2.length) -1))).bind fun _=>
   bif decide (n3<(aA .i64 ((aa l2.length) -1))) then
    bif ((aZ l2 n3 n4).length)==((aZ l2 n3 n4).length) then
     (aO N) ((J4 N) l2 n3 n4) (n3,p0.clock.now.1,p0.clock.now.2,p0.clock.field.points,p0.clock.certs.next_,p0.clock.certs.list,p0.clock.agenda.slots.uses,p0.clock.agenda.slots.used,p0.clock.agenda.slots.free,p0.clock.agenda.heap,p0.clock.agenda.where_,p0.clock.due,p0.heap,0,0,0,a1.1.points,aZ l2 n3 n4,a1.1.points,p0.clock.now.1,p0.clock.now.2,(aA .i64 ((aa l2.length) -1)).toNat,(aZ l2 n3 n4).length)
    else
     none
   else
    ((cN N) p0.clock a1.1 ((aZ l2 n3 n4).take ((aA .i64 ((aa l2.length) -1)).toNat))).bind fun a7=>
    some a7
def aTy (N:Nat):aV:=⟨aC.cons (aF.agg fV) (aC.one (aF.int .i64)),aF.tup (aC.cons (aF.agg fV) (aC.one (aF.int .i64))),fun a=>(IN N) a.1 a.2,.frz,false⟩
theorem aJJ (N:Nat):aB tab 189 (aTy N):=aB.of aGh (cx:=(aN (aK N) [(138,(W9 N)),(38,(c38 N)),(34,aV.clone ki),(35,(c35 N)),(154,(W8 N)),(281,(NB N)),(286,(aJz N))] [] [(285,WY),(354,WZ),(355,W0),(356,W3)] [])) rfl (aM.make ⟨(A0 N),(C1 N),fM,(CT N),(AZ N),(pM N),(NH N),trivial⟩ trivial ⟨MS,MV,MW,MX,trivial⟩) (fun a=>by kernel_rfl)
def sR (_:Nat) (p0:Int):Option Bool:=
 some (decide (p0<0))
def c40 (N:Nat):aV:=⟨aC.one (aF.int .i64),aF.bool,fun a=>(sR N) a,.pure,false⟩
theorem aRw (N:Nat):aB tab 40 (c40 N):=aB.of aQi (cx:=(aN (aK N) [] [] [] [])) rfl (aM.make trivial trivial trivial) (fun a=>by kernel_rfl)
def gQ (N:Nat) (c0:(List Int)) (s:(Int×Int×(List Int))):Option (aS (Int×Int×(List Int)) (aS (Int×Int×(List Int)) (Nat×Nat×(List Int)))):=
 bif decide (s.2.1<(aa s.2.2.length)) then
  (aL s.2.2 s.2.1).bind fun n0=>
  ((sR N) n0).bind fun b1=>
  bif !b1 then
   (aL s.2.2 s.1).bind fun _=>
   some (.next (aA .i64 (s.1+1),aA .i64 (s.2.1+1),aZ s.2.2 s.1 n0))
  else
   some (.next (s.1,aA .i64 (s.2.1+1),s.2.2))
 else
  bif ((decide (0<=s.1))&&(decide (s.1<=(aa s.2.2.length))))&&(decide ((aa s.2.2.length)<=(aa s.2.2.length))) then
   bif Nat.beq (((aa s.2.2.length).toNat) -s.1.toNat) 0 then
    (fI s.2.2 0 s.1).bind fun _=>
    bif s.2.2.length==c0.length then
     some (.done (.done (s.1.toNat,s.2.2.length,s.2.2)))
    else
     none
   else
    bif (af ((0+s.1.toNat)+(((aa s.2.2.length).toNat) -s.1.toNat)) s.2.2.length)&&(!false) then
     (fI (dD s.2.2 (0+s.1.toNat) (ae (((aa s.2.2.length).toNat) -s.1.toNat) 0)) 0 s.1).bind fun _=>
     bif ((dD s.2.2 (0+s.1.toNat) (ae (((aa s.2.2.length).toNat) -s.1.toNat) 0)).length)==c0.length then
      some (.done (.done (s.1.toNat,(dD s.2.2 (0+s.1.toNat) (ae (((aa s.2.2.length).toNat) -s.1.toNat) 0)).length,dD s.2.2 (0+s.1.toNat) (ae (((aa s.2.2.length).toNat) -s.1.toNat) 0))))
     else
      none
    else
     none
  else
   none
def gR (N:Nat) (c0:(List Int)) (s:(Int×Int×(List Int))):Option (aS (Int×Int×(List Int)) (Nat×Nat×(List Int))):=
 bif decide (s.2.1<s.1) then
  (aL s.2.2 s.2.1).bind fun n0=>
  ((sR N) n0).bind fun b1=>
  bif b1 then
   bif s.2.2.length==c0.length then
    bif s.2.1==(-1) then
     bif s.2.2.length==c0.length then
      some (.done (s.2.2.length,s.2.2.length,s.2.2))
     else
      none
    else
     (aO N) ((gQ N) c0) (s.2.1,aA .i64 (s.2.1+1),s.2.2)
   else
    none
  else
   some (.next (s.1,aA .i64 (s.2.1+1),s.2.2))
 else
  bif s.2.2.length==c0.length then
   bif s.2.2.length==c0.length then
    some (.done (s.2.2.length,s.2.2.length,s.2.2))
   else
    none
  else
   none
def dW (N:Nat) (a:(List Int)):Option (Nat×Nat×(List Int)):=
 (aO N) ((gR N) a) (aa a.length,0,a)
def aLd (N:Nat):cA:=⟨[.l [.i .i64]],[.own 0 false,.clo 40 [] []],[.arr [.i .i64] []],[.n,.n,.l [.i .i64]],.pre 0 0 0 false,[.arr [.i .i64] []],fun a=>(dW N) a⟩
theorem aAo (N:Nat):eE tab 39 (aLd N):=eE.of ZY (wd:=true) (cx:=(aN (aK N) [(40,(c40 N))] [] [(97,x97)] [])) (aM.make ⟨(aRw N),trivial⟩ trivial ⟨CP,trivial⟩) (fun a=>by kernel_rfl)
def IP (N:Nat) (p0:bC) (p1:Int):Option (bC×Int):=
 ((jF N) p0).bind fun n0=>
 bif n0 !=0 then
  some (bC.mk (aG.mk (0,0) (Field.mk []) (aI.mk 0 []) (aE.mk (aH.mk [] [] []) [] []) []) (aQ.mk [] []),n0)
 else
  ((oM N) p0.clock.field p1).bind fun a1=>
  bif a1.2 !=0 then
   some (bC.mk (aG.mk (0,0) (Field.mk []) (aI.mk 0 []) (aE.mk (aH.mk [] [] []) [] []) []) (aQ.mk [] []),a1.2)
  else
   (bG p0.bracket.places).bind fun l2=>
   ((dF N) l2 p1).bind fun n3=>
   (aL l2 n3).bind fun _=>
   bif decide (1<(aa ((aZ l2 n3 (-1)).length))) then
    bif decide ((aA .i64 (4*(aa a1.1.points.length)))<=(aa ((aZ l2 n3 (-1)).length))) then
     ((dW N) (aZ l2 n3 (-1))).bind fun a5=>
     ((iM N) [-1] (aA .i64 ((aA .i64 (ac (aa ((aZ l2 n3 (-1)).length)) 2)) - (aa a5.1)))).bind fun l6=>
     bif l6.isEmpty then
      ((dL N) p0.clock a1.1 (a5.2.2.take a5.1)).bind fun a7=>
      some a7
     else
      bif af (a5.1+l6.length) a5.2.1 then
       bif (af (a5.1+l6.length) a5.2.2.length)&&(!false) then
        ((dL N) p0.clock a1.1 ((dD a5.2.2 a5.1 l6).take (a5.1+l6.length))).bind fun a8=>
        some a8
       else
        none
      else
       (aR (a5.2.2.take a5.1) l6).bind fun l9=>
       bif af a5.1 a5.2.2.length then
        ((dL N) p0.clock a1.1 l9).bind fun a10=>
        some a10
       else
        none
    else
     ((dL N) p0.clock a1.1 (aZ l2 n3 (-1))).bind fun a11=>
     some a11
   else
    ((dL N) p0.clock a1.1 (aZ l2 n3 (-1))).bind fun a12=>
    some a12
def c13 (N:Nat):aV:=⟨aC.cons (aF.agg eR) (aC.one (aF.int .i64)),aF.tup (aC.cons (aF.agg eR) (aC.one (aF.int .i64))),fun a=>(IP N) a.1 a.2,.frz,false⟩
theorem aRx (N:Nat):aB tab 13 (c13 N):=aB.of aP2 (cx:=(aN (aK N) [(32,(c32 N)),(38,(c38 N)),(34,aV.clone ki),(35,(c35 N)),(36,(c36 N)),(36,(aRs N)),(37,(c37 N))] [(39,(Z7 N)),(39,(aLd N))] [] [])) rfl (aM.make ⟨(HN N),(C1 N),fM,(CT N),(aAm N),(U9 N),(SY N),trivial⟩ ⟨(PR N),(aAo N),trivial⟩ trivial) (fun a=>by kernel_rfl)
def BC (N:Nat) (p0:Field) (p1:Int):Option (Field×Int):=
 ((oM N) p0 p1).bind fun a0=>
 some a0
def aTz (N:Nat):aV:=⟨aC.cons (aF.agg aT) (aC.one (aF.ref (bE.int .i64))),aF.tup (aC.cons (aF.agg aT) (aC.one (aF.int .i64))),fun a=>(BC N) a.1 a.2,.frz,false⟩
theorem aJK (N:Nat):aB tab 291 (aTz N):=aB.of UH (cx:=(aN (aK N) [(38,(c38 N))] [] [] [])) rfl (aM.make ⟨(C1 N),trivial⟩ trivial trivial) (fun a=>by kernel_rfl)
def iN (N:Nat) (p0:aW) (p1:Int):Option (aW×Int):=
 ((jG N) p0).bind fun n0=>
 bif n0 !=0 then
  some (aW.mk (aG.mk (0,0) (Field.mk []) (aI.mk 0 []) (aE.mk (aH.mk [] [] []) [] []) []) (cK.mk 0 []),n0)
 else
  ((BC N) p0.clock.field p1).bind fun a1=>
  bif a1.2 !=0 then
   some (aW.mk (aG.mk (0,0) (Field.mk []) (aI.mk 0 []) (aE.mk (aH.mk [] [] []) [] []) []) (cK.mk 0 []),a1.2)
  else
   ((rA N) a1.1 p0.clock.now).bind fun a2=>
   ((pT N) a2.1).bind fun l3=>
   ((fX N) p0.clock a1.1 l3).bind fun a4=>
   bif a4.2 !=0 then
    some (aW.mk (aG.mk (0,0) (Field.mk []) (aI.mk 0 []) (aE.mk (aH.mk [] [] []) [] []) []) (cK.mk 0 []),a4.2)
   else
    some (aW.mk a4.1 a2.1,0)
def QK (N:Nat):aV:=⟨aC.cons (aF.agg cX) (aC.one (aF.clo 291 (aC.one (aF.ref (bE.int .i64))))),aF.tup (aC.cons (aF.agg cX) (aC.one (aF.int .i64))),fun a=>(iN N) a.1 a.2,.frz,false⟩
theorem QL (N:Nat):aB tab 287 (QK N):=aB.of MT (cx:=(aN (aK N) [(139,(XB N)),(291,(aTz N)),(38,(c38 N)),(245,(Z8 N)),(358,(aJD N)),(80,(c80 N))] [] [(291,aDy)] [])) rfl (aM.make ⟨(A3 N),(aJK N),(C1 N),(E7 N),(NJ N),(vK N),trivial⟩ trivial ⟨UH,trivial⟩) (fun a=>by kernel_rfl)
def IQ (N:Nat) (p0:aW) (p1:Int):Option (aW×Int):=
 ((iN N) p0 p1).bind fun a0=>
 some a0
def aTA (N:Nat):aV:=⟨aC.cons (aF.agg cX) (aC.one (aF.int .i64)),aF.tup (aC.cons (aF.agg cX) (aC.one (aF.int .i64))),fun a=>(IQ N) a.1 a.2,.frz,false⟩
theorem aJL (N:Nat):aB tab 190 (aTA N):=aB.of aGi (cx:=(aN (aK N) [(287,(QK N))] [] [] [])) rfl (aM.make ⟨(QL N),trivial⟩ trivial trivial) (fun a=>by kernel_rfl)
def xU (N:Nat) (p0:Field) (p1:Int):Option (Field×Int):=
 ((oM N) p0 p1).bind fun a0=>
 some a0
def aTB (N:Nat):aV:=⟨aC.cons (aF.agg aT) (aC.one (aF.ref (bE.int .i64))),aF.tup (aC.cons (aF.agg aT) (aC.one (aF.int .i64))),fun a=>(xU N) a.1 a.2,.frz,false⟩
theorem aJM (N:Nat):aB tab 292 (aTB N):=aB.of UI (cx:=(aN (aK N) [(38,(c38 N))] [] [] [])) rfl (aM.make ⟨(C1 N),trivial⟩ trivial trivial) (fun a=>by kernel_rfl)
def gZ (N:Nat) (p0:bA) (p1:Int):Option (bA×Int):=
 ((jH N) p0).bind fun n0=>
 bif n0 !=0 then
  some (bA.mk (aG.mk (0,0) (Field.mk []) (aI.mk 0 []) (aE.mk (aH.mk [] [] []) [] []) []) [],n0)
 else
  ((xU N) p0.clock.field p1).bind fun a1=>
  bif a1.2 !=0 then
   some (bA.mk (aG.mk (0,0) (Field.mk []) (aI.mk 0 []) (aE.mk (aH.mk [] [] []) [] []) []) [],a1.2)
  else
   ((iX N) p0.clock a1.1).bind fun a2=>
   some a2
def QM (N:Nat):aV:=⟨aC.cons (aF.agg cY) (aC.one (aF.clo 292 (aC.one (aF.ref (bE.int .i64))))),aF.tup (aC.cons (aF.agg cY) (aC.one (aF.int .i64))),fun a=>(gZ N) a.1 a.2,.frz,false⟩
theorem QN (N:Nat):aB tab 289 (QM N):=aB.of MU (cx:=(aN (aK N) [(140,(XD N)),(292,(aTB N)),(38,(c38 N)),(149,(aAj N))] [] [(292,aDA)] [])) rfl (aM.make ⟨(A4 N),(aJM N),(C1 N),(FB N),trivial⟩ trivial ⟨UI,trivial⟩) (fun a=>by kernel_rfl)
def DX (N:Nat) (p0:bA) (p1:Int):Option (bA×Int):=
 ((gZ N) p0 p1).bind fun a0=>
 some a0
def aTC (N:Nat):aV:=⟨aC.cons (aF.agg cY) (aC.one (aF.int .i64)),aF.tup (aC.cons (aF.agg cY) (aC.one (aF.int .i64))),fun a=>(DX N) a.1 a.2,.frz,false⟩
theorem aJN (N:Nat):aB tab 191 (aTC N):=aB.of aGj (cx:=(aN (aK N) [(289,(QM N))] [] [] [])) rfl (aM.make ⟨(QN N),trivial⟩ trivial trivial) (fun a=>by kernel_rfl)
def DY (N:Nat) (p0:aY) (p1:Int):Option (aY×Int):=
 ((jJ N) p0).bind fun n0=>
 bif n0 !=0 then
  some (aY.mk 0 (bH.mk (aG.mk (0,0) (Field.mk []) (aI.mk 0 []) (aE.mk (aH.mk [] [] []) [] []) []) []) (bC.mk (aG.mk (0,0) (Field.mk []) (aI.mk 0 []) (aE.mk (aH.mk [] [] []) [] []) []) (aQ.mk [] [])) (aW.mk (aG.mk (0,0) (Field.mk []) (aI.mk 0 []) (aE.mk (aH.mk [] [] []) [] []) []) (cK.mk 0 [])) (bA.mk (aG.mk (0,0) (Field.mk []) (aI.mk 0 []) (aE.mk (aH.mk [] [] []) [] []) []) []),n0)
 else
  bif p0.tag==1 then
   ((IN N) p0.heap p1).bind fun a1=>
   ((dG N) (aY.mk p0.tag a1.1 p0.tourn p0.heater p0.hanger) a1.2).bind fun a2=>
   some a2
  else
   bif p0.tag==2 then
    ((IP N) p0.tourn p1).bind fun a3=>
    ((dG N) (aY.mk p0.tag p0.heap a3.1 p0.heater p0.hanger) a3.2).bind fun a4=>
    some a4
   else
    bif p0.tag==3 then
     ((IQ N) p0.heater p1).bind fun a5=>
     ((dG N) (aY.mk p0.tag p0.heap p0.tourn a5.1 p0.hanger) a5.2).bind fun a6=>
     some a6
    else
     ((DX N) p0.hanger p1).bind fun a7=>
     ((dG N) (aY.mk p0.tag p0.heap p0.tourn p0.heater a7.1) a7.2).bind fun a8=>
     some a8
def aTD (N:Nat):aV:=⟨aC.cons (aF.agg cI) (aC.one (aF.int .i64)),aF.tup (aC.cons (aF.agg cI) (aC.one (aF.int .i64))),fun a=>(DY N) a.1 a.2,.frz,false⟩
theorem aJO (N:Nat):aB tab 106 (aTD N):=aB.of aFp (cx:=(aN (aK N) [(69,(c69 N)),(189,(aTy N)),(13,(c13 N)),(190,(aTA N)),(191,(aTC N)),(188,(aJH N))] [] [] [])) rfl (aM.make ⟨(HV N),(aJJ N),(aRx N),(aJL N),(aJN N),(NK N),trivial⟩ trivial trivial) (fun a=>by kernel_rfl)
def lH (N:Nat) (p0:Field) (p1:Int×Int×Int):Option (Field×Int):=
 ((fW N) p0).bind fun n0=>
 bif n0 !=0 then
  some (Field.mk [],n0)
 else
  ((jD N) p1).bind fun n1=>
  bif n1 !=0 then
   some (Field.mk [],n1)
  else
   ((pL N) p0 p1.1).bind fun a2=>
   bif a2.2 !=0 then
    some (Field.mk [],a2.2)
   else
    (bG p0.points).bind fun l3=>
    (aL l3 a2.1).bind fun _=>
    some (Field.mk (aZ l3 a2.1 p1),0)
def SZ (N:Nat):aV:=⟨aC.cons (aF.agg aT) (aC.one (aF.agg (bE.row bO))),aF.tup (aC.cons (aF.agg aT) (aC.one (aF.int .i64))),fun a=>(lH N) a.1 a.2,.frz,false⟩
theorem wM (N:Nat):aB tab 293 (SZ N):=aB.of aHa (cx:=(aN (aK N) [(76,(c76 N)),(89,(c89 N)),(95,(c95 N)),(78,aV.clone bO)] [] [] [])) rfl (aM.make ⟨(uQ N),(M2 N),(SS N),nO,trivial⟩ trivial trivial) (fun a=>by kernel_rfl)
def EM (N:Nat) (c0:(Int×Int×Int×(List (Int×Int×Int))×Int×(List (Int×Int×Int))×(List Int)×(List Bool)×(List Int)×(List (Int×Int×Int×Int×Int))×(List Int)×(List (Int×Int×Int))×(List Int)×Int×Int×Int×Int×Int×Int×(List (Int×Int×Int))×(List Int)×(List (Int×Int×Int))×Int×Int)) (s:(Int×Int×Int×Int×Int×(List (Int×Int×Int))×Int×(List (Int×Int×Int))×(List Int)×(List Bool)×(List Int)×(List (Int×Int×Int×Int×Int))×(List Int)×(List (Int×Int×Int))×(List Int)×Int×Int×Int×Int×Int×Int×(List (Int×Int×Int))×(List Int)×(List (Int×Int×Int))×Int×Int×Int×Int×Int×Int×Int×Int)):Option (aS (Int×Int×Int×Int×Int×(List (Int×Int×Int))×Int×(List (Int×Int×Int))×(List Int)×(List Bool)×(List Int)×(List (Int×Int×Int×Int×Int))×(List Int)×(List (Int×Int×Int))×(List Int)×Int×Int×Int×Int×Int×Int×(List (Int×Int×Int))×(List Int)×(List (Int×Int×Int))×Int×Int×Int×Int×Int×Int×Int×Int) (aS (Int×Int×Int×(List (Int×Int×Int))×Int×(List (Int×Int×Int))×(List Int)×(List Bool)×(List Int)×(List (Int×Int×Int×Int×Int))×(List Int)×(List (Int×Int×Int))×(List Int)×Int×Int×Int×Int×Int×Int×(List (Int×Int×Int))×(List Int)×(List (Int×Int×Int))×Int×Int×Int×Int×Int×Int×Int×Int) (aS (Int×Int×Int×(List (Int×Int×Int))×Int×(List (Int×Int×Int))×(List Int)×(List Bool)×(List Int)×(List (Int×Int×Int×Int×Int))×(List Int)×(List (Int×Int×Int))×(List Int)×Int×Int×Int×Int×Int×Int×(List (Int×Int×Int))×(List Int)×(List (Int×Int×Int))×Int×Int) (bH×Int)))):=
 bif decide (s.2.2.1<=(aA .i64 ((aA .i64 (2*s.1))+2))) then
  bif decide (s.2.2.1<(aa s.2.2.2.2.2.2.2.2.2.2.2.2.2.2.2.2.2.2.2.2.2.2.1.length)) then
   (aL s.2.2.2.2.2.2.2.2.2.2.2.2.2.2.2.2.2.2.2.2.2.2.1 s.2.2.1).bind fun n0=>
   ((cC N) (Field.mk s.2.2.2.2.2.2.2.2.2.2.2.2.2.2.2.2.2.2.2.2.2.2.2.1) n0).bind fun a1=>
   (aL s.2.2.2.2.2.2.2.2.2.2.2.2.2.2.2.2.2.2.2.2.2.2.1 s.2.1).bind fun n2=>
   ((cC N) (Field.mk s.2.2.2.2.2.2.2.2.2.2.2.2.2.2.2.2.2.2.2.2.2.2.2.1) n2).bind fun a3=>
   ((cP N) a1.1 a3.1 (s.2.2.2.2.2.2.2.2.2.2.2.2.2.2.2.2.2.2.2.2.2.2.2.2.1,s.2.2.2.2.2.2.2.2.2.2.2.2.2.2.2.2.2.2.2.2.2.2.2.2.2.1)).bind fun a4=>
   bif s.2.2.2.2.2.2.2.2.2.2.2.2.2.2.2.2.2.2.2.2.2.2.1.length==s.2.2.2.2.2.2.2.2.2.2.2.2.2.2.2.2.2.2.2.2.2.2.1.length then
    bif a4.1 then
     some (.next (s.1,s.2.2.1,aA .i64 (s.2.2.1+1),s.2.2.2))
    else
     some (.next (s.1,s.2.1,aA .i64 (s.2.2.1+1),s.2.2.2))
   else
    none
  else
   bif s.2.1==s.1 then
    bif s.2.2.2.2.2.2.2.2.2.2.2.2.2.2.2.2.2.2.2.2.2.2.1.length==c0.2.2.2.2.2.2.2.2.2.2.2.2.2.2.2.2.2.2.2.2.1.length then
     ((cN N) (aG.mk (s.2.2.2.1,s.2.2.2.2.1) (Field.mk s.2.2.2.2.2.1) (aI.mk s.2.2.2.2.2.2.1 s.2.2.2.2.2.2.2.1) (aE.mk (aH.mk s.2.2.2.2.2.2.2.2.1 s.2.2.2.2.2.2.2.2.2.1 s.2.2.2.2.2.2.2.2.2.2.1) s.2.2.2.2.2.2.2.2.2.2.2.1 s.2.2.2.2.2.2.2.2.2.2.2.2.1) s.2.2.2.2.2.2.2.2.2.2.2.2.2.1) (Field.mk s.2.2.2.2.2.2.2.2.2.2.2.2.2.2.2.2.2.2.2.2.2.1) s.2.2.2.2.2.2.2.2.2.2.2.2.2.2.2.2.2.2.2.2.2.2.1).bind fun a5=>
     some (.done (.done (.done a5)))
    else
     none
   else
    (aL s.2.2.2.2.2.2.2.2.2.2.2.2.2.2.2.2.2.2.2.2.2.2.1 s.2.1).bind fun n6=>
    (aL s.2.2.2.2.2.2.2.2.2.2.2.2.2.2.2.2.2.2.2.2.2.2.1 s.1).bind fun n7=>
    (aL s.2.2.2.2.2.2.2.2.2.2.2.2.2.2.2.2.2.2.2.2.2.2.1 s.1).bind fun _=>
    (aL (aZ s.2.2.2.2.2.2.2.2.2.2.2.2.2.2.2.2.2.2.2.2.2.2.1 s.1 n6) s.2.1).bind fun _=>
    some (.done (.next (s.2.1,s.2.2.2.1,s.2.2.2.2.1,s.2.2.2.2.2.1,s.2.2.2.2.2.2.1,s.2.2.2.2.2.2.2.1,s.2.2.2.2.2.2.2.2.1,s.2.2.2.2.2.2.2.2.2.1,s.2.2.2.2.2.2.2.2.2.2.1,s.2.2.2.2.2.2.2.2.2.2.2.1,s.2.2.2.2.2.2.2.2.2.2.2.2.1,s.2.2.2.2.2.2.2.2.2.2.2.2.2.1,s.2.2.2.2.2.2.2.2.2.2.2.2.2.2.1,s.2.2.2.2.2.2.2.2.2.2.2.2.2.2.2.1,s.2.2.2.2.2.2.2.2.2.2.2.2.2.2.2.2.1,s.2.2.2.2.2.2.2.2.2.2.2.2.2.2.2.2.2.1,s.2.2.2.2.2.2.2.2.2.2.2.2.2.2.2.2.2.2.1,s.2.2.2.2.2.2.2.2.2.2.2.2.2.2.2.2.2.2.2.1,s.2.2.2.2.2.2.2.2.2.2.2.2.2.2.2.2.2.2.2.2.1,s.2.2.2.2.2.2.2.2.2.2.2.2.2.2.2.2.2.2.2.2.2.1,aZ (aZ s.2.2.2.2.2.2.2.2.2.2.2.2.2.2.2.2.2.2.2.2.2.2.1 s.1 n6) s.2.1 n7,s.2.2.2.2.2.2.2.2.2.2.2.2.2.2.2.2.2.2.2.2.2.2.2)))
 else
  bif s.2.1==s.1 then
   bif s.2.2.2.2.2.2.2.2.2.2.2.2.2.2.2.2.2.2.2.2.2.2.1.length==c0.2.2.2.2.2.2.2.2.2.2.2.2.2.2.2.2.2.2.2.2.1.length then
    ((cN N) (aG.mk (s.2.2.2.1,s.2.2.2.2.1) (Field.mk s.2.2.2.2.2.1) (aI.mk s.2.2.2.2.2.2.1 s.2.2.2.2.2.2.2.1) (aE.mk (aH.mk s.2.2.2.2.2.2.2.2.1 s.2.2.2.2.2.2.2.2.2.1 s.2.2.2.2.2.2.2.2.2.2.1) s.2.2.2.2.2.2.2.2.2.2.2.1 s.2.2.2.2.2.2.2.2.2.2.2.2.1) s.2.2.2.2.2.2.2.2.2.2.2.2.2.1) (Field.mk s.2.2.2.2.2.2.2.2.2.2.2.2.2.2.2.2.2.2.2.2.2.1) s.2.2.2.2.2.2.2.2.2.2.2.2.2.2.2.2.2.2.2.2.2.2.1).bind fun a10=>
    some (.done (.done (.done a10)))
   else
    none
  else
   (aL s.2.2.2.2.2.2.2.2.2.2.2.2.2.2.2.2.2.2.2.2.2.2.1 s.2.1).bind fun n11=>
   (aL s.2.2.2.2.2.2.2.2.2.2.2.2.2.2.2.2.2.2.2.2.2.2.1 s.1).bind fun n12=>
   (aL s.2.2.2.2.2.2.2.2.2.2.2.2.2.2.2.2.2.2.2.2.2.2.1 s.1).bind fun _=>
   (aL (aZ s.2.2.2.2.2.2.2.2.2.2.2.2.2.2.2.2.2.2.2.2.2.2.1 s.1 n11) s.2.1).bind fun _=>
   some (.done (.next (s.2.1,s.2.2.2.1,s.2.2.2.2.1,s.2.2.2.2.2.1,s.2.2.2.2.2.2.1,s.2.2.2.2.2.2.2.1,s.2.2.2.2.2.2.2.2.1,s.2.2.2.2.2.2.2.2.2.1,s.2.2.2.2.2.2.2.2.2.2.1,s.2.2.2.2.2.2.2.2.2.2.2.1,s.2.2.2.2.2.2.2.2.2.2.2.2.1,s.2.2.2.2.2.2.2.2.2.2.2.2.2.1,s.2.2.2.2.2.2.2.2.2.2.2.2.2.2.1,s.2.2.2.2.2.2.2.2.2.2.2.2.2.2.2.1,s.2.2.2.2.2.2.2.2.2.2.2.2.2.2.2.2.1,s.2.2.2.2.2.2.2.2.2.2.2.2.2.2.2.2.2.1,s.2.2.2.2.2.2.2.2.2.2.2.2.2.2.2.2.2.2.1,s.2.2.2.2.2.2.2.2.2.2.2.2.2.2.2.2.2.2.2.1,s.2.2.2.2.2.2.2.2.2.2.2.2.2.2.2.2.2.2.2.2.1,s.2.2.2.2.2.2.2.2.2.2.2.2.2.2.2.2.2.2.2.2.2.1,aZ (aZ s.2.2.2.2.2.2.2.2.2.2.2.2.2.2.2.2.2.2.2.2.2.2.1 s.1 n11) s.2.1 n12,s.2.2.2.2.2.2.2.2.2.2.2.2.2.2.2.2.2.2.2.2.2.2.2)))
def EN (N:Nat) (c0:(Int×Int×Int×(List (Int×Int×Int))×Int×(List (Int×Int×Int))×(List Int)×(List Bool)×(List Int)×(List (Int×Int×Int×Int×Int))×(List Int)×(List (Int×Int×Int))×(List Int)×Int×Int×Int×Int×Int×Int×(List (Int×Int×Int))×(List Int)×(List (Int×Int×Int))×Int×Int)) (s:(Int×Int×Int×(List (Int×Int×Int))×Int×(List (Int×Int×Int))×(List Int)×(List Bool)×(List Int)×(List (Int×Int×Int×Int×Int))×(List Int)×(List (Int×Int×Int))×(List Int)×Int×Int×Int×Int×Int×Int×(List (Int×Int×Int))×(List Int)×(List (Int×Int×Int))×Int×Int×Int×Int×Int×Int×Int×Int)):Option (aS (Int×Int×Int×(List (Int×Int×Int))×Int×(List (Int×Int×Int))×(List Int)×(List Bool)×(List Int)×(List (Int×Int×Int×Int×Int))×(List Int)×(List (Int×Int×Int))×(List Int)×Int×Int×Int×Int×Int×Int×(List (Int×Int×Int))×(List Int)×(List (Int×Int×Int))×Int×Int×Int×Int×Int×Int×Int×Int) (aS (Int×Int×Int×(List (Int×Int×Int))×Int×(List (Int×Int×Int))×(List Int)×(List Bool)×(List Int)×(List (Int×Int×Int×Int×Int))×(List Int)×(List (Int×Int×Int))×(List Int)×Int×Int×Int×Int×Int×Int×(List (Int×Int×Int))×(List Int)×(List (Int×Int×Int))×Int×Int) (bH×Int))):=
 (aO N) ((EM N) c0) (s.1,s.1,aA .i64 ((aA .i64 (2*s.1))+1),s.2)
def EO (N:Nat) (c0:(Int×Int×Int×(List (Int×Int×Int))×Int×(List (Int×Int×Int))×(List Int)×(List Bool)×(List Int)×(List (Int×Int×Int×Int×Int))×(List Int)×(List (Int×Int×Int))×(List Int)×Int×Int×Int×Int×Int×Int×(List (Int×Int×Int))×(List Int)×(List (Int×Int×Int))×Int×Int)) (s:(Int×Int×Int×Int×Int×(List (Int×Int×Int))×Int×(List (Int×Int×Int))×(List Int)×(List Bool)×(List Int)×(List (Int×Int×Int×Int×Int))×(List Int)×(List (Int×Int×Int))×(List Int)×Int×Int×Int×Int×Int×Int×(List (Int×Int×Int))×(List Int)×(List (Int×Int×Int))×Int×Int)):Option (aS (Int×Int×Int×Int×Int×(List (Int×Int×Int))×Int×(List (Int×Int×Int))×(List Int)×(List Bool)×(List Int)×(List (Int×Int×Int×Int×Int))×(List Int)×(List (Int×Int×Int))×(List Int)×Int×Int×Int×Int×Int×Int×(List (Int×Int×Int))×(List Int)×(List (Int×Int×Int))×Int×Int) (aS (Int×Int×Int×(List (Int×Int×Int))×Int×(List (Int×Int×Int))×(List Int)×(List Bool)×(List Int)×(List (Int×Int×Int×Int×Int))×(List Int)×(List (Int×Int×Int))×(List Int)×Int×Int×Int×Int×Int×Int×(List (Int×Int×Int))×(List Int)×(List (Int×Int×Int))×Int×Int) (aS (Int×Int×Int×(List (Int×Int×Int))×Int×(List (Int×Int×Int))×(List Int)×(List Bool)×(List Int)×(List (Int×Int×Int×Int×Int))×(List Int)×(List (Int×Int×Int))×(List Int)×Int×Int×Int×Int×Int×Int×(List (Int×Int×Int))×(List Int)×(List (Int×Int×Int))×Int×Int) (bH×Int)))):=
 bif decide (s.2.2.1<=(aA .i64 ((aA .i64 (2*s.1))+2))) then
  bif decide (s.2.2.1<(aa s.2.2.2.2.2.2.2.2.2.2.2.2.2.2.2.2.2.2.2.2.2.2.1.length)) then
   (aL s.2.2.2.2.2.2.2.2.2.2.2.2.2.2.2.2.2.2.2.2.2.2.1 s.2.2.1).bind fun n0=>
   ((cC N) (Field.mk s.2.2.2.2.2.2.2.2.2.2.2.2.2.2.2.2.2.2.2.2.2.2.2.1) n0).bind fun a1=>
   (aL s.2.2.2.2.2.2.2.2.2.2.2.2.2.2.2.2.2.2.2.2.2.2.1 s.2.1).bind fun n2=>
   ((cC N) (Field.mk s.2.2.2.2.2.2.2.2.2.2.2.2.2.2.2.2.2.2.2.2.2.2.2.1) n2).bind fun a3=>
   ((cP N) a1.1 a3.1 s.2.2.2.2.2.2.2.2.2.2.2.2.2.2.2.2.2.2.2.2.2.2.2.2).bind fun a4=>
   bif s.2.2.2.2.2.2.2.2.2.2.2.2.2.2.2.2.2.2.2.2.2.2.1.length==s.2.2.2.2.2.2.2.2.2.2.2.2.2.2.2.2.2.2.2.2.2.2.1.length then
    bif a4.1 then
     some (.next (s.1,s.2.2.1,aA .i64 (s.2.2.1+1),s.2.2.2))
    else
     some (.next (s.1,s.2.1,aA .i64 (s.2.2.1+1),s.2.2.2))
   else
    none
  else
   bif s.2.1==s.1 then
    bif s.2.2.2.2.2.2.2.2.2.2.2.2.2.2.2.2.2.2.2.2.2.2.1.length==c0.2.2.2.2.2.2.2.2.2.2.2.2.2.2.2.2.2.2.2.2.1.length then
     ((cN N) (aG.mk (s.2.2.2.1,s.2.2.2.2.1) (Field.mk s.2.2.2.2.2.1) (aI.mk s.2.2.2.2.2.2.1 s.2.2.2.2.2.2.2.1) (aE.mk (aH.mk s.2.2.2.2.2.2.2.2.1 s.2.2.2.2.2.2.2.2.2.1 s.2.2.2.2.2.2.2.2.2.2.1) s.2.2.2.2.2.2.2.2.2.2.2.1 s.2.2.2.2.2.2.2.2.2.2.2.2.1) s.2.2.2.2.2.2.2.2.2.2.2.2.2.1) (Field.mk s.2.2.2.2.2.2.2.2.2.2.2.2.2.2.2.2.2.2.2.2.2.1) s.2.2.2.2.2.2.2.2.2.2.2.2.2.2.2.2.2.2.2.2.2.2.1).bind fun a5=>
     some (.done (.done (.done a5)))
    else
     none
   else
    (aL s.2.2.2.2.2.2.2.2.2.2.2.2.2.2.2.2.2.2.2.2.2.2.1 s.2.1).bind fun n6=>
    (aL s.2.2.2.2.2.2.2.2.2.2.2.2.2.2.2.2.2.2.2.2.2.2.1 s.1).bind fun n7=>
    (aL s.2.2.2.2.2.2.2.2.2.2.2.2.2.2.2.2.2.2.2.2.2.2.1 s.1).bind fun _=>
    (aL (aZ s.2.2.2.2.2.2.2.2.2.2.2.2.2.2.2.2.2.2.2.2.2.2.1 s.1 n6) s.2.1).bind fun _=>
    some (.done (.next (s.2.1,s.2.2.2.1,s.2.2.2.2.1,s.2.2.2.2.2.1,s.2.2.2.2.2.2.1,s.2.2.2.2.2.2.2.1,s.2.2.2.2.2.2.2.2.1,s.2.2.2.2.2.2.2.2.2.1,s.2.2.2.2.2.2.2.2.2.2.1,s.2.2.2.2.2.2.2.2.2.2.2.1,s.2.2.2.2.2.2.2.2.2.2.2.2.1,s.2.2.2.2.2.2.2.2.2.2.2.2.2.1,s.2.2.2.2.2.2.2.2.2.2.2.2.2.2.1,s.2.2.2.2.2.2.2.2.2.2.2.2.2.2.2.1,s.2.2.2.2.2.2.2.2.2.2.2.2.2.2.2.2.1,s.2.2.2.2.2.2.2.2.2.2.2.2.2.2.2.2.2.1,s.2.2.2.2.2.2.2.2.2.2.2.2.2.2.2.2.2.2.1,s.2.2.2.2.2.2.2.2.2.2.2.2.2.2.2.2.2.2.2.1,s.2.2.2.2.2.2.2.2.2.2.2.2.2.2.2.2.2.2.2.2.1,s.2.2.2.2.2.2.2.2.2.2.2.2.2.2.2.2.2.2.2.2.2.1,aZ (aZ s.2.2.2.2.2.2.2.2.2.2.2.2.2.2.2.2.2.2.2.2.2.2.1 s.1 n6) s.2.1 n7,s.2.2.2.2.2.2.2.2.2.2.2.2.2.2.2.2.2.2.2.2.2.2.2)))
 else
  bif s.2.1==s.1 then
   bif s.2.2.2.2.2.2.2.2.2.2.2.2.2.2.2.2.2.2.2.2.2.2.1.length==c0.2.2.2.2.2.2.2.2.2.2.2.2.2.2.2.2.2.2.2.2.1.length then
    ((cN N) (aG.mk (s.2.2.2.1,s.2.2.2.2.1) (Field.mk s.2.2.2.2.2.1) (aI.mk s.2.2.2.2.2.2.1 s.2.2.2.2.2.2.2.1) (aE.mk (aH.mk s.2.2.2.2.2.2.2.2.1 s.2.2.2.2.2.2.2.2.2.1 s.2.2.2.2.2.2.2.2.2.2.1) s.2.2.2.2.2.2.2.2.2.2.2.1 s.2.2.2.2.2.2.2.2.2.2.2.2.1) s.2.2.2.2.2.2.2.2.2.2.2.2.2.1) (Field.mk s.2.2.2.2.2.2.2.2.2.2.2.2.2.2.2.2.2.2.2.2.2.1) s.2.2.2.2.2.2.2.2.2.2.2.2.2.2.2.2.2.2.2.2.2.2.1).bind fun a10=>
    some (.done (.done (.done a10)))
   else
    none
  else
   (aL s.2.2.2.2.2.2.2.2.2.2.2.2.2.2.2.2.2.2.2.2.2.2.1 s.2.1).bind fun n11=>
   (aL s.2.2.2.2.2.2.2.2.2.2.2.2.2.2.2.2.2.2.2.2.2.2.1 s.1).bind fun n12=>
   (aL s.2.2.2.2.2.2.2.2.2.2.2.2.2.2.2.2.2.2.2.2.2.2.1 s.1).bind fun _=>
   (aL (aZ s.2.2.2.2.2.2.2.2.2.2.2.2.2.2.2.2.2.2.2.2.2.2.1 s.1 n11) s.2.1).bind fun _=>
   some (.done (.next (s.2.1,s.2.2.2.1,s.2.2.2.2.1,s.2.2.2.2.2.1,s.2.2.2.2.2.2.1,s.2.2.2.2.2.2.2.1,s.2.2.2.2.2.2.2.2.1,s.2.2.2.2.2.2.2.2.2.1,s.2.2.2.2.2.2.2.2.2.2.1,s.2.2.2.2.2.2.2.2.2.2.2.1,s.2.2.2.2.2.2.2.2.2.2.2.2.1,s.2.2.2.2.2.2.2.2.2.2.2.2.2.1,s.2.2.2.2.2.2.2.2.2.2.2.2.2.2.1,s.2.2.2.2.2.2.2.2.2.2.2.2.2.2.2.1,s.2.2.2.2.2.2.2.2.2.2.2.2.2.2.2.2.1,s.2.2.2.2.2.2.2.2.2.2.2.2.2.2.2.2.2.1,s.2.2.2.2.2.2.2.2.2.2.2.2.2.2.2.2.2.2.1,s.2.2.2.2.2.2.2.2.2.2.2.2.2.2.2.2.2.2.2.1,s.2.2.2.2.2.2.2.2.2.2.2.2.2.2.2.2.2.2.2.2.1,s.2.2.2.2.2.2.2.2.2.2.2.2.2.2.2.2.2.2.2.2.2.1,aZ (aZ s.2.2.2.2.2.2.2.2.2.2.2.2.2.2.2.2.2.2.2.2.2.2.1 s.1 n11) s.2.1 n12,s.2.2.2.2.2.2.2.2.2.2.2.2.2.2.2.2.2.2.2.2.2.2.2)))
def EP (N:Nat) (c0:(Int×Int×Int×(List (Int×Int×Int))×Int×(List (Int×Int×Int))×(List Int)×(List Bool)×(List Int)×(List (Int×Int×Int×Int×Int))×(List Int)×(List (Int×Int×Int))×(List Int)×Int×Int×Int×Int×Int×Int×(List (Int×Int×Int))×(List Int)×(List (Int×Int×Int))×Int×Int)) (s:(Int×Int×Int×(List (Int×Int×Int))×Int×(List (Int×Int×Int))×(List Int)×(List Bool)×(List Int)×(List (Int×Int×Int×Int×Int))×(List Int)×(List (Int×Int×Int))×(List Int)×Int×Int×Int×Int×Int×Int×(List (Int×Int×Int))×(List Int)×(List (Int×Int×Int))×Int×Int)):Option (aS (Int×Int×Int×(List (Int×Int×Int))×Int×(List (Int×Int×Int))×(List Int)×(List Bool)×(List Int)×(List (Int×Int×Int×Int×Int))×(List Int)×(List (Int×Int×Int))×(List Int)×Int×Int×Int×Int×Int×Int×(List (Int×Int×Int))×(List Int)×(List (Int×Int×Int))×Int×Int) (aS (Int×Int×Int×(List (Int×Int×Int))×Int×(List (Int×Int×Int))×(List Int)×(List Bool)×(List Int)×(List (Int×Int×Int×Int×Int))×(List Int)×(List (Int×Int×Int))×(List Int)×Int×Int×Int×Int×Int×Int×(List (Int×Int×Int))×(List Int)×(List (Int×Int×Int))×Int×Int) (bH×Int))):=
 (aO N) ((EO N) c0) (s.1,s.1,aA .i64 ((aA .i64 (2*s.1))+1),s.2)
def EQ (N:Nat) (c0:(List Int)) (s:(Int×Int×Int×(List (Int×Int×Int))×Int×(List (Int×Int×Int))×(List Int)×(List Bool)×(List Int)×(List (Int×Int×Int×Int×Int))×(List Int)×(List (Int×Int×Int))×(List Int)×Int×Int×Int×Int×Int×Int×(List (Int×Int×Int))×(List Int)×(List (Int×Int×Int))×Int×Int)):Option (aS (Int×Int×Int×(List (Int×Int×Int))×Int×(List (Int×Int×Int))×(List Int)×(List Bool)×(List Int)×(List (Int×Int×Int×Int×Int))×(List Int)×(List (Int×Int×Int))×(List Int)×Int×Int×Int×Int×Int×Int×(List (Int×Int×Int))×(List Int)×(List (Int×Int×Int))×Int×Int) (bH×Int)):=
 bif decide (0<s.1) then
  (aL s.2.2.2.2.2.2.2.2.2.2.2.2.2.2.2.2.2.2.2.2.1 s.1).bind fun n0=>
  ((cC N) (Field.mk s.2.2.2.2.2.2.2.2.2.2.2.2.2.2.2.2.2.2.2.2.2.1) n0).bind fun a1=>
  (aL s.2.2.2.2.2.2.2.2.2.2.2.2.2.2.2.2.2.2.2.2.1 (aA .i64 (ac (aA .i64 (s.1-1)) 2))).bind fun n2=>
  ((cC N) (Field.mk s.2.2.2.2.2.2.2.2.2.2.2.2.2.2.2.2.2.2.2.2.2.1) n2).bind fun a3=>
  ((cP N) a1.1 a3.1 s.2.2.2.2.2.2.2.2.2.2.2.2.2.2.2.2.2.2.2.2.2.2).bind fun a4=>
  bif s.2.2.2.2.2.2.2.2.2.2.2.2.2.2.2.2.2.2.2.2.1.length==s.2.2.2.2.2.2.2.2.2.2.2.2.2.2.2.2.2.2.2.2.1.length then
   bif a4.1 then
    (aL s.2.2.2.2.2.2.2.2.2.2.2.2.2.2.2.2.2.2.2.2.1 (aA .i64 (ac (aA .i64 (s.1-1)) 2))).bind fun n5=>
    (aL s.2.2.2.2.2.2.2.2.2.2.2.2.2.2.2.2.2.2.2.2.1 s.1).bind fun n6=>
    (aL s.2.2.2.2.2.2.2.2.2.2.2.2.2.2.2.2.2.2.2.2.1 s.1).bind fun _=>
    (aL (aZ s.2.2.2.2.2.2.2.2.2.2.2.2.2.2.2.2.2.2.2.2.1 s.1 n5) (aA .i64 (ac (aA .i64 (s.1-1)) 2))).bind fun _=>
    some (.next (aA .i64 (ac (aA .i64 (s.1-1)) 2),s.2.1,s.2.2.1,s.2.2.2.1,s.2.2.2.2.1,s.2.2.2.2.2.1,s.2.2.2.2.2.2.1,s.2.2.2.2.2.2.2.1,s.2.2.2.2.2.2.2.2.1,s.2.2.2.2.2.2.2.2.2.1,s.2.2.2.2.2.2.2.2.2.2.1,s.2.2.2.2.2.2.2.2.2.2.2.1,s.2.2.2.2.2.2.2.2.2.2.2.2.1,s.2.2.2.2.2.2.2.2.2.2.2.2.2.1,s.2.2.2.2.2.2.2.2.2.2.2.2.2.2.1,s.2.2.2.2.2.2.2.2.2.2.2.2.2.2.2.1,s.2.2.2.2.2.2.2.2.2.2.2.2.2.2.2.2.1,s.2.2.2.2.2.2.2.2.2.2.2.2.2.2.2.2.2.1,s.2.2.2.2.2.2.2.2.2.2.2.2.2.2.2.2.2.2.1,s.2.2.2.2.2.2.2.2.2.2.2.2.2.2.2.2.2.2.2.1,aZ (aZ s.2.2.2.2.2.2.2.2.2.2.2.2.2.2.2.2.2.2.2.2.1 s.1 n5) (aA .i64 (ac (aA .i64 (s.1-1)) 2)) n6,s.2.2.2.2.2.2.2.2.2.2.2.2.2.2.2.2.2.2.2.2.2))
   else
    bif s.2.2.2.2.2.2.2.2.2.2.2.2.2.2.2.2.2.2.2.2.1.length==c0.length then
     (aO N) ((EN N) s) (s.1,s.2.1,s.2.2.1,s.2.2.2.1,s.2.2.2.2.1,s.2.2.2.2.2.1,s.2.2.2.2.2.2.1,s.2.2.2.2.2.2.2.1,s.2.2.2.2.2.2.2.2.1,s.2.2.2.2.2.2.2.2.2.1,s.2.2.2.2.2.2.2.2.2.2.1,s.2.2.2.2.2.2.2.2.2.2.2.1,s.2.2.2.2.2.2.2.2.2.2.2.2.1,s.2.2.2.2.2.2.2.2.2.2.2.2.2.1,s.2.2.2.2.2.2.2.2.2.2.2.2.2.2.1,s.2.2.2.2.2.2.2.2.2.2.2.2.2.2.2.1,s.2.2.2.2.2.2.2.2.2.2.2.2.2.2.2.2.1,s.2.2.2.2.2.2.2.2.2.2.2.2.2.2.2.2.2.1,s.2.2.2.2.2.2.2.2.2.2.2.2.2.2.2.2.2.2.1,s.2.2.2.2.2.2.2.2.2.2.2.2.2.2.2.2.2.2.2.1,s.2.2.2.2.2.2.2.2.2.2.2.2.2.2.2.2.2.2.2.2.1,s.2.2.2.2.2.2.2.2.2.2.2.2.2.2.2.2.2.2.2.2.2.1,s.2.2.2.2.2.2.2.2.2.2.2.2.2.2.2.2.2.2.2.2.2.2.1,s.2.2.2.2.2.2.2.2.2.2.2.2.2.2.2.2.2.2.2.2.2.2.2,a1.1.1,a1.1.2.1,a1.1.2.2,a3.1)
    else
     none
  else
   none
 else
  bif s.2.2.2.2.2.2.2.2.2.2.2.2.2.2.2.2.2.2.2.2.1.length==c0.length then
   (aO N) ((EP N) s) s
  else
   none
def BD (N:Nat) (p0:bH) (p1:Int×Int×Int):Option (bH×Int):=
 ((kR N) p0).bind fun n0=>
 bif n0 !=0 then
  some (bH.mk (aG.mk (0,0) (Field.mk []) (aI.mk 0 []) (aE.mk (aH.mk [] [] []) [] []) []) [],n0)
 else
  ((lH N) p0.clock.field p1).bind fun a1=>
  bif a1.2 !=0 then
   some (bH.mk (aG.mk (0,0) (Field.mk []) (aI.mk 0 []) (aE.mk (aH.mk [] [] []) [] []) []) [],a1.2)
  else
   (bG p0.heap).bind fun l2=>
   bif l2.length==l2.length then
    ((dF N) l2 p1.1).bind fun n3=>
    (aO N) ((EQ N) l2) (n3,p0.clock.now.1,p0.clock.now.2,p0.clock.field.points,p0.clock.certs.next_,p0.clock.certs.list,p0.clock.agenda.slots.uses,p0.clock.agenda.slots.used,p0.clock.agenda.slots.free,p0.clock.agenda.heap,p0.clock.agenda.where_,p0.clock.due,p0.heap,p1.1,p1.2.1,p1.2.2,0,0,0,a1.1.points,l2,a1.1.points,p0.clock.now)
   else
    none
def aTE (N:Nat):aV:=⟨aC.cons (aF.agg fV) (aC.one (aF.agg (bE.row bO))),aF.tup (aC.cons (aF.agg fV) (aC.one (aF.int .i64))),fun a=>(BD N) a.1 a.2,.frz,false⟩
theorem aJP (N:Nat):aB tab 192 (aTE N):=aB.of aGk (cx:=(aN (aK N) [(138,(W9 N)),(293,(SZ N)),(34,aV.clone ki),(154,(W8 N)),(281,(NB N)),(35,(c35 N)),(286,(aJz N))] [] [(285,WY),(354,WZ),(355,W0),(356,W3)] [])) rfl (aM.make ⟨(A0 N),(wM N),fM,(AZ N),(pM N),(CT N),(NH N),trivial⟩ trivial ⟨MS,MV,MW,MX,trivial⟩) (fun a=>by kernel_rfl)
def BE (N:Nat) (p0:bC) (p1:Int×Int×Int):Option (bC×Int):=
 ((jF N) p0).bind fun n0=>
 bif n0 !=0 then
  some (bC.mk (aG.mk (0,0) (Field.mk []) (aI.mk 0 []) (aE.mk (aH.mk [] [] []) [] []) []) (aQ.mk [] []),n0)
 else
  ((lH N) p0.clock.field p1).bind fun a1=>
  bif a1.2 !=0 then
   some (bC.mk (aG.mk (0,0) (Field.mk []) (aI.mk 0 []) (aE.mk (aH.mk [] [] []) [] []) []) (aQ.mk [] []),a1.2)
  else
   ((dL N) p0.clock a1.1 p0.bracket.places).bind fun a2=>
   some a2
def aTF (N:Nat):aV:=⟨aC.cons (aF.agg eR) (aC.one (aF.agg (bE.row bO))),aF.tup (aC.cons (aF.agg eR) (aC.one (aF.int .i64))),fun a=>(BE N) a.1 a.2,.frz,false⟩
theorem aJQ (N:Nat):aB tab 193 (aTF N):=aB.of aGl (cx:=(aN (aK N) [(32,(c32 N)),(293,(SZ N)),(37,(c37 N))] [] [] [])) rfl (aM.make ⟨(HN N),(wM N),(SY N),trivial⟩ trivial trivial) (fun a=>by kernel_rfl)
def vQ (N:Nat) (p0:Field) (p1:Int×Int×Int):Option (Field×Int):=
 ((lH N) p0 p1).bind fun a0=>
 some a0
def aTG (N:Nat):aV:=⟨aC.cons (aF.agg aT) (aC.one (aF.ref (bE.row bO))),aF.tup (aC.cons (aF.agg aT) (aC.one (aF.int .i64))),fun a=>(vQ N) a.1 a.2,.frz,false⟩
theorem aJR (N:Nat):aB tab 294 (aTG N):=aB.of UJ (cx:=(aN (aK N) [(293,(SZ N))] [] [] [])) rfl (aM.make ⟨(wM N),trivial⟩ trivial trivial) (fun a=>by kernel_rfl)
def hJ (N:Nat) (p0:aW) (p1:(Int×Int×Int)):Option (aW×Int):=
 ((jG N) p0).bind fun n0=>
 bif n0 !=0 then
  some (aW.mk (aG.mk (0,0) (Field.mk []) (aI.mk 0 []) (aE.mk (aH.mk [] [] []) [] []) []) (cK.mk 0 []),n0)
 else
  ((vQ N) p0.clock.field p1).bind fun a1=>
  bif a1.2 !=0 then
   some (aW.mk (aG.mk (0,0) (Field.mk []) (aI.mk 0 []) (aE.mk (aH.mk [] [] []) [] []) []) (cK.mk 0 []),a1.2)
  else
   ((rA N) a1.1 p0.clock.now).bind fun a2=>
   ((pT N) a2.1).bind fun l3=>
   ((fX N) p0.clock a1.1 l3).bind fun a4=>
   bif a4.2 !=0 then
    some (aW.mk (aG.mk (0,0) (Field.mk []) (aI.mk 0 []) (aE.mk (aH.mk [] [] []) [] []) []) (cK.mk 0 []),a4.2)
   else
    some (aW.mk a4.1 a2.1,0)
def QO (N:Nat):aV:=⟨aC.cons (aF.agg cX) (aC.one (aF.clo 294 (aC.one (aF.ref (bE.row bO))))),aF.tup (aC.cons (aF.agg cX) (aC.one (aF.int .i64))),fun a=>(hJ N) a.1 a.2,.frz,false⟩
theorem QP (N:Nat):aB tab 287 (QO N):=aB.of MT (cx:=(aN (aK N) [(139,(XB N)),(294,(aTG N)),(293,(SZ N)),(245,(Z8 N)),(358,(aJD N)),(80,(c80 N))] [] [(294,aDD)] [])) rfl (aM.make ⟨(A3 N),(aJR N),(wM N),(E7 N),(NJ N),(vK N),trivial⟩ trivial ⟨UJ,trivial⟩) (fun a=>by kernel_rfl)
def BF (N:Nat) (p0:aW) (p1:Int×Int×Int):Option (aW×Int):=
 ((hJ N) p0 p1).bind fun a0=>
 some a0
def aTH (N:Nat):aV:=⟨aC.cons (aF.agg cX) (aC.one (aF.agg (bE.row bO))),aF.tup (aC.cons (aF.agg cX) (aC.one (aF.int .i64))),fun a=>(BF N) a.1 a.2,.frz,false⟩
theorem aJS (N:Nat):aB tab 194 (aTH N):=aB.of aGm (cx:=(aN (aK N) [(287,(QO N))] [] [] [])) rfl (aM.make ⟨(QP N),trivial⟩ trivial trivial) (fun a=>by kernel_rfl)
def tM (N:Nat) (p0:Field) (p1:Int×Int×Int):Option (Field×Int):=
 ((lH N) p0 p1).bind fun a0=>
 some a0
def aTI (N:Nat):aV:=⟨aC.cons (aF.agg aT) (aC.one (aF.ref (bE.row bO))),aF.tup (aC.cons (aF.agg aT) (aC.one (aF.int .i64))),fun a=>(tM N) a.1 a.2,.frz,false⟩
theorem aJT (N:Nat):aB tab 295 (aTI N):=aB.of UK (cx:=(aN (aK N) [(293,(SZ N))] [] [] [])) rfl (aM.make ⟨(wM N),trivial⟩ trivial trivial) (fun a=>by kernel_rfl)
def gG (N:Nat) (p0:bA) (p1:(Int×Int×Int)):Option (bA×Int):=
 ((jH N) p0).bind fun n0=>
 bif n0 !=0 then
  some (bA.mk (aG.mk (0,0) (Field.mk []) (aI.mk 0 []) (aE.mk (aH.mk [] [] []) [] []) []) [],n0)
 else
  ((tM N) p0.clock.field p1).bind fun a1=>
  bif a1.2 !=0 then
   some (bA.mk (aG.mk (0,0) (Field.mk []) (aI.mk 0 []) (aE.mk (aH.mk [] [] []) [] []) []) [],a1.2)
  else
   ((iX N) p0.clock a1.1).bind fun a2=>
   some a2
def QQ (N:Nat):aV:=⟨aC.cons (aF.agg cY) (aC.one (aF.clo 295 (aC.one (aF.ref (bE.row bO))))),aF.tup (aC.cons (aF.agg cY) (aC.one (aF.int .i64))),fun a=>(gG N) a.1 a.2,.frz,false⟩
theorem QR (N:Nat):aB tab 289 (QQ N):=aB.of MU (cx:=(aN (aK N) [(140,(XD N)),(295,(aTI N)),(293,(SZ N)),(149,(aAj N))] [] [(295,aDF)] [])) rfl (aM.make ⟨(A4 N),(aJT N),(wM N),(FB N),trivial⟩ trivial ⟨UK,trivial⟩) (fun a=>by kernel_rfl)
def xV (N:Nat) (p0:bA) (p1:Int×Int×Int):Option (bA×Int):=
 ((gG N) p0 p1).bind fun a0=>
 some a0
def aTJ (N:Nat):aV:=⟨aC.cons (aF.agg cY) (aC.one (aF.agg (bE.row bO))),aF.tup (aC.cons (aF.agg cY) (aC.one (aF.int .i64))),fun a=>(xV N) a.1 a.2,.frz,false⟩
theorem aJU (N:Nat):aB tab 195 (aTJ N):=aB.of aGn (cx:=(aN (aK N) [(289,(QQ N))] [] [] [])) rfl (aM.make ⟨(QR N),trivial⟩ trivial trivial) (fun a=>by kernel_rfl)
def xW (N:Nat) (p0:aY) (p1:Int×Int×Int):Option (aY×Int):=
 ((jJ N) p0).bind fun n0=>
 bif n0 !=0 then
  some (aY.mk 0 (bH.mk (aG.mk (0,0) (Field.mk []) (aI.mk 0 []) (aE.mk (aH.mk [] [] []) [] []) []) []) (bC.mk (aG.mk (0,0) (Field.mk []) (aI.mk 0 []) (aE.mk (aH.mk [] [] []) [] []) []) (aQ.mk [] [])) (aW.mk (aG.mk (0,0) (Field.mk []) (aI.mk 0 []) (aE.mk (aH.mk [] [] []) [] []) []) (cK.mk 0 [])) (bA.mk (aG.mk (0,0) (Field.mk []) (aI.mk 0 []) (aE.mk (aH.mk [] [] []) [] []) []) []),n0)
 else
  bif p0.tag==1 then
   ((BD N) p0.heap p1).bind fun a1=>
   ((dG N) (aY.mk p0.tag a1.1 p0.tourn p0.heater p0.hanger) a1.2).bind fun a2=>
   some a2
  else
   bif p0.tag==2 then
    ((BE N) p0.tourn p1).bind fun a3=>
    ((dG N) (aY.mk p0.tag p0.heap a3.1 p0.heater p0.hanger) a3.2).bind fun a4=>
    some a4
   else
    bif p0.tag==3 then
     ((BF N) p0.heater p1).bind fun a5=>
     ((dG N) (aY.mk p0.tag p0.heap p0.tourn a5.1 p0.hanger) a5.2).bind fun a6=>
     some a6
    else
     ((xV N) p0.hanger p1).bind fun a7=>
     ((dG N) (aY.mk p0.tag p0.heap p0.tourn p0.heater a7.1) a7.2).bind fun a8=>
     some a8
def aTK (N:Nat):aV:=⟨aC.cons (aF.agg cI) (aC.one (aF.agg (bE.row bO))),aF.tup (aC.cons (aF.agg cI) (aC.one (aF.int .i64))),fun a=>(xW N) a.1 a.2,.frz,false⟩
theorem aJV (N:Nat):aB tab 107 (aTK N):=aB.of aFq (cx:=(aN (aK N) [(69,(c69 N)),(192,(aTE N)),(193,(aTF N)),(194,(aTH N)),(195,(aTJ N)),(188,(aJH N))] [] [] [])) rfl (aM.make ⟨(HV N),(aJP N),(aJQ N),(aJS N),(aJU N),(NK N),trivial⟩ trivial trivial) (fun a=>by kernel_rfl)
def BG (N:Nat) (p0:aY) (p1:Int×Int×Int×Int×Int×Int×Int):Option (aY×(List (Int×Int))×Int):=
 bif p1.1==1 then
  ((IM N) p0 (p1.2.1,p1.2.2.1,p1.2.2.2.1)).bind fun a0=>
  some (a0.1,[],a0.2)
 else
  bif p1.1==2 then
   ((DY N) p0 p1.2.2.2.2.1).bind fun a1=>
   some (a1.1,[],a1.2)
  else
   bif p1.1==3 then
    ((xW N) p0 (p1.2.1,p1.2.2.1,p1.2.2.2.1)).bind fun a2=>
    some (a2.1,[],a2.2)
   else
    bif p1.1==4 then
     ((oK N) p0 p1.2.2.2.2.2).bind fun a3=>
     some a3
    else
     some (aY.mk 0 (bH.mk (aG.mk (0,0) (Field.mk []) (aI.mk 0 []) (aE.mk (aH.mk [] [] []) [] []) []) []) (bC.mk (aG.mk (0,0) (Field.mk []) (aI.mk 0 []) (aE.mk (aH.mk [] [] []) [] []) []) (aQ.mk [] [])) (aW.mk (aG.mk (0,0) (Field.mk []) (aI.mk 0 []) (aE.mk (aH.mk [] [] []) [] []) []) (cK.mk 0 [])) (bA.mk (aG.mk (0,0) (Field.mk []) (aI.mk 0 []) (aE.mk (aH.mk [] [] []) [] []) []) []),[],12)
def c51 (N:Nat):aV:=⟨aC.cons (aF.agg cI) (aC.one (aF.agg (bE.row PE))),aF.tup (aC.cons (aF.agg cI) (aC.cons (aF.sl cM) (aC.one (aF.int .i64)))),fun a=>(BG N) a.1 a.2,.frz,false⟩
theorem aRy (N:Nat):aB tab 51 (c51 N):=aB.of aQl (cx:=(aN (aK N) [(105,(aTx N)),(106,(aTD N)),(107,(aTK N)),(26,(c26 N))] [] [] [])) rfl (aM.make ⟨(aJI N),(aJO N),(aJV N),(aAk N),trivial⟩ trivial trivial) (fun a=>by kernel_rfl)
def sS (_:Nat) (p0:aY):Option Int:=
 some (aA .i64 ((aA .i64 ((aA .i64 (p0.heap.clock.certs.next_+p0.tourn.clock.certs.next_))+p0.heater.clock.certs.next_))+p0.hanger.clock.certs.next_))
def c52 (N:Nat):aV:=⟨aC.one (aF.agg cI),aF.int .i64,fun a=>(sS N) a,.pure,false⟩
theorem aRz (N:Nat):aB tab 52 (c52 N):=aB.of aQm (cx:=(aN (aK N) [] [] [] [])) rfl (aM.make trivial trivial trivial) (fun a=>by kernel_rfl)
def IR (N:Nat) (s:((List (Int×Int×Int×Int×Int×Int×Int))×Int×Int×Int×Int×Int×(List (Int×Int×Int))×Int×(List (Int×Int×Int))×(List Int)×(List Bool)×(List Int)×(List (Int×Int×Int×Int×Int))×(List Int)×(List (Int×Int×Int))×(List Int)×Int×Int×(List (Int×Int×Int))×Int×(List (Int×Int×Int))×(List Int)×(List Bool)×(List Int)×(List (Int×Int×Int×Int×Int))×(List Int)×(List (Int×Int×Int))×(List Int)×(List Int)×Int×Int×(List (Int×Int×Int))×Int×(List (Int×Int×Int))×(List Int)×(List Bool)×(List Int)×(List (Int×Int×Int×Int×Int))×(List Int)×(List (Int×Int×Int))×Int×(List (Int×Int×Int))×Int×Int×(List (Int×Int×Int))×Int×(List (Int×Int×Int))×(List Int)×(List Bool)×(List Int)×(List (Int×Int×Int×Int×Int))×(List Int)×(List (Int×Int×Int))×(List Int)×Int×Int×Int×Int×Int×Int×Int×Int×Int×Int×Int×Int×Int×Int×Int×Int×Int×Int×Int×Int×(List (Int×Int×Int))×Int×(List (Int×Int×Int))×(List Int)×(List Bool)×(List Int)×(List (Int×Int×Int×Int×Int))×(List Int)×(List (Int×Int×Int))×(List Int)×Int×Int×(List (Int×Int×Int))×Int×(List (Int×Int×Int))×(List Int)×(List Bool)×(List Int)×(List (Int×Int×Int×Int×Int))×(List Int)×(List (Int×Int×Int))×(List Int)×(List Int)×Int×Int×(List (Int×Int×Int))×Int×(List (Int×Int×Int))×(List Int)×(List Bool)×(List Int)×(List (Int×Int×Int×Int×Int))×(List Int)×(List (Int×Int×Int))×Int×(List (Int×Int×Int))×Int×Int×(List (Int×Int×Int))×Int×(List (Int×Int×Int))×(List Int)×(List Bool)×(List Int)×(List (Int×Int×Int×Int×Int))×(List Int)×(List (Int×Int×Int))×(List Int)×Int×Int×Int)):Option (aS ((List (Int×Int×Int×Int×Int×Int×Int))×Int×Int×Int×Int×Int×(List (Int×Int×Int))×Int×(List (Int×Int×Int))×(List Int)×(List Bool)×(List Int)×(List (Int×Int×Int×Int×Int))×(List Int)×(List (Int×Int×Int))×(List Int)×Int×Int×(List (Int×Int×Int))×Int×(List (Int×Int×Int))×(List Int)×(List Bool)×(List Int)×(List (Int×Int×Int×Int×Int))×(List Int)×(List (Int×Int×Int))×(List Int)×(List Int)×Int×Int×(List (Int×Int×Int))×Int×(List (Int×Int×Int))×(List Int)×(List Bool)×(List Int)×(List (Int×Int×Int×Int×Int))×(List Int)×(List (Int×Int×Int))×Int×(List (Int×Int×Int))×Int×Int×(List (Int×Int×Int))×Int×(List (Int×Int×Int))×(List Int)×(List Bool)×(List Int)×(List (Int×Int×Int×Int×Int))×(List Int)×(List (Int×Int×Int))×(List Int)×Int×Int×Int×Int×Int×Int×Int×Int×Int×Int×Int×Int×Int×Int×Int×Int×Int×Int×Int×Int×(List (Int×Int×Int))×Int×(List (Int×Int×Int))×(List Int)×(List Bool)×(List Int)×(List (Int×Int×Int×Int×Int))×(List Int)×(List (Int×Int×Int))×(List Int)×Int×Int×(List (Int×Int×Int))×Int×(List (Int×Int×Int))×(List Int)×(List Bool)×(List Int)×(List (Int×Int×Int×Int×Int))×(List Int)×(List (Int×Int×Int))×(List Int)×(List Int)×Int×Int×(List (Int×Int×Int))×Int×(List (Int×Int×Int))×(List Int)×(List Bool)×(List Int)×(List (Int×Int×Int×Int×Int))×(List Int)×(List (Int×Int×Int))×Int×(List (Int×Int×Int))×Int×Int×(List (Int×Int×Int))×Int×(List (Int×Int×Int))×(List Int)×(List Bool)×(List Int)×(List (Int×Int×Int×Int×Int))×(List Int)×(List (Int×Int×Int))×(List Int)×Int×Int×Int) (aY×(Int×Int×Int)×Int)):=
 bif decide (s.2.2.1<s.2.1) then
  (aL s.1 s.2.2.1).bind fun a0=>
  ((BG N) (aY.mk s.2.2.2.2.2.2.2.2.2.2.2.2.2.2.2.2.2.2.2.2.2.2.2.2.2.2.2.2.2.2.2.2.2.2.2.2.2.2.2.2.2.2.2.2.2.2.2.2.2.2.2.2.2.2.2.2.2.2.2.2.2.2.2.2.2.2.2.2.2.2.2.1 (bH.mk (aG.mk (s.2.2.2.2.2.2.2.2.2.2.2.2.2.2.2.2.2.2.2.2.2.2.2.2.2.2.2.2.2.2.2.2.2.2.2.2.2.2.2.2.2.2.2.2.2.2.2.2.2.2.2.2.2.2.2.2.2.2.2.2.2.2.2.2.2.2.2.2.2.2.2.2.1,s.2.2.2.2.2.2.2.2.2.2.2.2.2.2.2.2.2.2.2.2.2.2.2.2.2.2.2.2.2.2.2.2.2.2.2.2.2.2.2.2.2.2.2.2.2.2.2.2.2.2.2.2.2.2.2.2.2.2.2.2.2.2.2.2.2.2.2.2.2.2.2.2.2.1) (Field.mk s.2.2.2.2.2.2.2.2.2.2.2.2.2.2.2.2.2.2.2.2.2.2.2.2.2.2.2.2.2.2.2.2.2.2.2.2.2.2.2.2.2.2.2.2.2.2.2.2.2.2.2.2.2.2.2.2.2.2.2.2.2.2.2.2.2.2.2.2.2.2.2.2.2.2.1) (aI.mk s.2.2.2.2.2.2.2.2.2.2.2.2.2.2.2.2.2.2.2.2.2.2.2.2.2.2.2.2.2.2.2.2.2.2.2.2.2.2.2.2.2.2.2.2.2.2.2.2.2.2.2.2.2.2.2.2.2.2.2.2.2.2.2.2.2.2.2.2.2.2.2.2.2.2.2.1 s.2.2.2.2.2.2.2.2.2.2.2.2.2.2.2.2.2.2.2.2.2.2.2.2.2.2.2.2.2.2.2.2.2.2.2.2.2.2.2.2.2.2.2.2.2.2.2.2.2.2.2.2.2.2.2.2.2.2.2.2.2.2.2.2.2.2.2.2.2.2.2.2.2.2.2.2.1) (aE.mk (aH.mk s.2.2.2.2.2.2.2.2.2.2.2.2.2.2.2.2.2.2.2.2.2.2.2.2.2.2.2.2.2.2.2.2.2.2.2.2.2.2.2.2.2.2.2.2.2.2.2.2.2.2.2.2.2.2.2.2.2.2.2.2.2.2.2.2.2.2.2.2.2.2.2.2.2.2.2.2.2.1 s.2.2.2.2.2.2.2.2.2.2.2.2.2.2.2.2.2.2.2.2.2.2.2.2.2.2.2.2.2.2.2.2.2.2.2.2.2.2.2.2.2.2.2.2.2.2.2.2.2.2.2.2.2.2.2.2.2.2.2.2.2.2.2.2.2.2.2.2.2.2.2.2.2.2.2.2.2.2.1 s.2.2.2.2.2.2.2.2.2.2.2.2.2.2.2.2.2.2.2.2.2.2.2.2.2.2.2.2.2.2.2.2.2.2.2.2.2.2.2.2.2.2.2.2.2.2.2.2.2.2.2.2.2.2.2.2.2.2.2.2.2.2.2.2.2.2.2.2.2.2.2.2.2.2.2.2.2.2.2.1) s.2.2.2.2.2.2.2.2.2.2.2.2.2.2.2.2.2.2.2.2.2.2.2.2.2.2.2.2.2.2.2.2.2.2.2.2.2.2.2.2.2.2.2.2.2.2.2.2.2.2.2.2.2.2.2.2.2.2.2.2.2.2.2.2.2.2.2.2.2.2.2.2.2.2.2.2.2.2.2.2.1 s.2.2.2.2.2.2.2.2.2.2.2.2.2.2.2.2.2.2.2.2.2.2.2.2.2.2.2.2.2.2.2.2.2.2.2.2.2.2.2.2.2.2.2.2.2.2.2.2.2.2.2.2.2.2.2.2.2.2.2.2.2.2.2.2.2.2.2.2.2.2.2.2.2.2.2.2.2.2.2.2.2.1) s.2.2.2.2.2.2.2.2.2.2.2.2.2.2.2.2.2.2.2.2.2.2.2.2.2.2.2.2.2.2.2.2.2.2.2.2.2.2.2.2.2.2.2.2.2.2.2.2.2.2.2.2.2.2.2.2.2.2.2.2.2.2.2.2.2.2.2.2.2.2.2.2.2.2.2.2.2.2.2.2.2.2.1) s.2.2.2.2.2.2.2.2.2.2.2.2.2.2.2.2.2.2.2.2.2.2.2.2.2.2.2.2.2.2.2.2.2.2.2.2.2.2.2.2.2.2.2.2.2.2.2.2.2.2.2.2.2.2.2.2.2.2.2.2.2.2.2.2.2.2.2.2.2.2.2.2.2.2.2.2.2.2.2.2.2.2.2.1) (bC.mk (aG.mk (s.2.2.2.2.2.2.2.2.2.2.2.2.2.2.2.2.2.2.2.2.2.2.2.2.2.2.2.2.2.2.2.2.2.2.2.2.2.2.2.2.2.2.2.2.2.2.2.2.2.2.2.2.2.2.2.2.2.2.2.2.2.2.2.2.2.2.2.2.2.2.2.2.2.2.2.2.2.2.2.2.2.2.2.2.1,s.2.2.2.2.2.2.2.2.2.2.2.2.2.2.2.2.2.2.2.2.2.2.2.2.2.2.2.2.2.2.2.2.2.2.2.2.2.2.2.2.2.2.2.2.2.2.2.2.2.2.2.2.2.2.2.2.2.2.2.2.2.2.2.2.2.2.2.2.2.2.2.2.2.2.2.2.2.2.2.2.2.2.2.2.2.1) (Field.mk s.2.2.2.2.2.2.2.2.2.2.2.2.2.2.2.2.2.2.2.2.2.2.2.2.2.2.2.2.2.2.2.2.2.2.2.2.2.2.2.2.2.2.2.2.2.2.2.2.2.2.2.2.2.2.2.2.2.2.2.2.2.2.2.2.2.2.2.2.2.2.2.2.2.2.2.2.2.2.2.2.2.2.2.2.2.2.1) (aI.mk s.2.2.2.2.2.2.2.2.2.2.2.2.2.2.2.2.2.2.2.2.2.2.2.2.2.2.2.2.2.2.2.2.2.2.2.2.2.2.2.2.2.2.2.2.2.2.2.2.2.2.2.2.2.2.2.2.2.2.2.2.2.2.2.2.2.2.2.2.2.2.2.2.2.2.2.2.2.2.2.2.2.2.2.2.2.2.2.1 s.2.2.2.2.2.2.2.2.2.2.2.2.2.2.2.2.2.2.2.2.2.2.2.2.2.2.2.2.2.2.2.2.2.2.2.2.2.2.2.2.2.2.2.2.2.2.2.2.2.2.2.2.2.2.2.2.2.2.2.2.2.2.2.2.2.2.2.2.2.2.2.2.2.2.2.2.2.2.2.2.2.2.2.2.2.2.2.2.1) (aE.mk (aH.mk s.2.2.2.2.2.2.2.2.2.2.2.2.2.2.2.2.2.2.2.2.2.2.2.2.2.2.2.2.2.2.2.2.2.2.2.2.2.2.2.2.2.2.2.2.2.2.2.2.2.2.2.2.2.2.2.2.2.2.2.2.2.2.2.2.2.2.2.2.2.2.2.2.2.2.2.2.2.2.2.2.2.2.2.2.2.2.2.2.2.1 s.2.2.2.2.2.2.2.2.2.2.2.2.2.2.2.2.2.2.2.2.2.2.2.2.2.2.2.2.2.2.2.2.2.2.2.2.2.2.2.2.2.2.2.2.2.2.2.2.2.2.2.2.2.2.2.2.2.2.2.2.2.2.2.2.2.2.2.2.2.2.2.2.2.2.2.2.2.2.2.2.2.2.2.2.2.2.2.2.2.2.1 s.2.2.2.2.2.2.2.2.2.2.2.2.2.2.2.2.2.2.2.2.2.2.2.2.2.2.2.2.2.2.2.2.2.2.2.2.2.2.2.2.2.2.2.2.2.2.2.2.2.2.2.2.2.2.2.2.2.2.2.2.2.2.2.2.2.2.2.2.2.2.2.2.2.2.2.2.2.2.2.2.2.2.2.2.2.2.2.2.2.2.2.1) s.2.2.2.2.2.2.2.2.2.2.2.2.2.2.2.2.2.2.2.2.2.2.2.2.2.2.2.2.2.2.2.2.2.2.2.2.2.2.2.2.2.2.2.2.2.2.2.2.2.2.2.2.2.2.2.2.2.2.2.2.2.2.2.2.2.2.2.2.2.2.2.2.2.2.2.2.2.2.2.2.2.2.2.2.2.2.2.2.2.2.2.2.1 s.2.2.2.2.2.2.2.2.2.2.2.2.2.2.2.2.2.2.2.2.2.2.2.2.2.2.2.2.2.2.2.2.2.2.2.2.2.2.2.2.2.2.2.2.2.2.2.2.2.2.2.2.2.2.2.2.2.2.2.2.2.2.2.2.2.2.2.2.2.2.2.2.2.2.2.2.2.2.2.2.2.2.2.2.2.2.2.2.2.2.2.2.2.1) s.2.2.2.2.2.2.2.2.2.2.2.2.2.2.2.2.2.2.2.2.2.2.2.2.2.2.2.2.2.2.2.2.2.2.2.2.2.2.2.2.2.2.2.2.2.2.2.2.2.2.2.2.2.2.2.2.2.2.2.2.2.2.2.2.2.2.2.2.2.2.2.2.2.2.2.2.2.2.2.2.2.2.2.2.2.2.2.2.2.2.2.2.2.2.1) (aQ.mk s.2.2.2.2.2.2.2.2.2.2.2.2.2.2.2.2.2.2.2.2.2.2.2.2.2.2.2.2.2.2.2.2.2.2.2.2.2.2.2.2.2.2.2.2.2.2.2.2.2.2.2.2.2.2.2.2.2.2.2.2.2.2.2.2.2.2.2.2.2.2.2.2.2.2.2.2.2.2.2.2.2.2.2.2.2.2.2.2.2.2.2.2.2.2.2.1 s.2.2.2.2.2.2.2.2.2.2.2.2.2.2.2.2.2.2.2.2.2.2.2.2.2.2.2.2.2.2.2.2.2.2.2.2.2.2.2.2.2.2.2.2.2.2.2.2.2.2.2.2.2.2.2.2.2.2.2.2.2.2.2.2.2.2.2.2.2.2.2.2.2.2.2.2.2.2.2.2.2.2.2.2.2.2.2.2.2.2.2.2.2.2.2.2.1)) (aW.mk (aG.mk (s.2.2.2.2.2.2.2.2.2.2.2.2.2.2.2.2.2.2.2.2.2.2.2.2.2.2.2.2.2.2.2.2.2.2.2.2.2.2.2.2.2.2.2.2.2.2.2.2.2.2.2.2.2.2.2.2.2.2.2.2.2.2.2.2.2.2.2.2.2.2.2.2.2.2.2.2.2.2.2.2.2.2.2.2.2.2.2.2.2.2.2.2.2.2.2.2.2.1,s.2.2.2.2.2.2.2.2.2.2.2.2.2.2.2.2.2.2.2.2.2.2.2.2.2.2.2.2.2.2.2.2.2.2.2.2.2.2.2.2.2.2.2.2.2.2.2.2.2.2.2.2.2.2.2.2.2.2.2.2.2.2.2.2.2.2.2.2.2.2.2.2.2.2.2.2.2.2.2.2.2.2.2.2.2.2.2.2.2.2.2.2.2.2.2.2.2.2.1) (Field.mk s.2.2.2.2.2.2.2.2.2.2.2.2.2.2.2.2.2.2.2.2.2.2.2.2.2.2.2.2.2.2.2.2.2.2.2.2.2.2.2.2.2.2.2.2.2.2.2.2.2.2.2.2.2.2.2.2.2.2.2.2.2.2.2.2.2.2.2.2.2.2.2.2.2.2.2.2.2.2.2.2.2.2.2.2.2.2.2.2.2.2.2.2.2.2.2.2.2.2.2.1) (aI.mk s.2.2.2.2.2.2.2.2.2.2.2.2.2.2.2.2.2.2.2.2.2.2.2.2.2.2.2.2.2.2.2.2.2.2.2.2.2.2.2.2.2.2.2.2.2.2.2.2.2.2.2.2.2.2.2.2.2.2.2.2.2.2.2.2.2.2.2.2.2.2.2.2.2.2.2.2.2.2.2.2.2.2.2.2.2.2.2.2.2.2.2.2.2.2.2.2.2.2.2.2.1 s.2.2.2.2.2.2.2.2.2.2.2.2.2.2.2.2.2.2.2.2.2.2.2.2.2.2.2.2.2.2.2.2.2.2.2.2.2.2.2.2.2.2.2.2.2.2.2.2.2.2.2.2.2.2.2.2.2.2.2.2.2.2.2.2.2.2.2.2.2.2.2.2.2.2.2.2.2.2.2.2.2.2.2.2.2.2.2.2.2.2.2.2.2.2.2.2.2.2.2.2.2.1) (aE.mk (aH.mk s.2.2.2.2.2.2.2.2.2.2.2.2.2.2.2.2.2.2.2.2.2.2.2.2.2.2.2.2.2.2.2.2.2.2.2.2.2.2.2.2.2.2.2.2.2.2.2.2.2.2.2.2.2.2.2.2.2.2.2.2.2.2.2.2.2.2.2.2.2.2.2.2.2.2.2.2.2.2.2.2.2.2.2.2.2.2.2.2.2.2.2.2.2.2.2.2.2.2.2.2.2.2.1 s.2.2.2.2.2.2.2.2.2.2.2.2.2.2.2.2.2.2.2.2.2.2.2.2.2.2.2.2.2.2.2.2.2.2.2.2.2.2.2.2.2.2.2.2.2.2.2.2.2.2.2.2.2.2.2.2.2.2.2.2.2.2.2.2.2.2.2.2.2.2.2.2.2.2.2.2.2.2.2.2.2.2.2.2.2.2.2.2.2.2.2.2.2.2.2.2.2.2.2.2.2.2.2.1 s.2.2.2.2.2.2.2.2.2.2.2.2.2.2.2.2.2.2.2.2.2.2.2.2.2.2.2.2.2.2.2.2.2.2.2.2.2.2.2.2.2.2.2.2.2.2.2.2.2.2.2.2.2.2.2.2.2.2.2.2.2.2.2.2.2.2.2.2.2.2.2.2.2.2.2.2.2.2.2.2.2.2.2.2.2.2.2.2.2.2.2.2.2.2.2.2.2.2.2.2.2.2.2.2.1) s.2.2.2.2.2.2.2.2.2.2.2.2.2.2.2.2.2.2.2.2.2.2.2.2.2.2.2.2.2.2.2.2.2.2.2.2.2.2.2.2.2.2.2.2.2.2.2.2.2.2.2.2.2.2.2.2.2.2.2.2.2.2.2.2.2.2.2.2.2.2.2.2.2.2.2.2.2.2.2.2.2.2.2.2.2.2.2.2.2.2.2.2.2.2.2.2.2.2.2.2.2.2.2.2.2.1 s.2.2.2.2.2.2.2.2.2.2.2.2.2.2.2.2.2.2.2.2.2.2.2.2.2.2.2.2.2.2.2.2.2.2.2.2.2.2.2.2.2.2.2.2.2.2.2.2.2.2.2.2.2.2.2.2.2.2.2.2.2.2.2.2.2.2.2.2.2.2.2.2.2.2.2.2.2.2.2.2.2.2.2.2.2.2.2.2.2.2.2.2.2.2.2.2.2.2.2.2.2.2.2.2.2.2.1) s.2.2.2.2.2.2.2.2.2.2.2.2.2.2.2.2.2.2.2.2.2.2.2.2.2.2.2.2.2.2.2.2.2.2.2.2.2.2.2.2.2.2.2.2.2.2.2.2.2.2.2.2.2.2.2.2.2.2.2.2.2.2.2.2.2.2.2.2.2.2.2.2.2.2.2.2.2.2.2.2.2.2.2.2.2.2.2.2.2.2.2.2.2.2.2.2.2.2.2.2.2.2.2.2.2.2.2.1) (cK.mk s.2.2.2.2.2.2.2.2.2.2.2.2.2.2.2.2.2.2.2.2.2.2.2.2.2.2.2.2.2.2.2.2.2.2.2.2.2.2.2.2.2.2.2.2.2.2.2.2.2.2.2.2.2.2.2.2.2.2.2.2.2.2.2.2.2.2.2.2.2.2.2.2.2.2.2.2.2.2.2.2.2.2.2.2.2.2.2.2.2.2.2.2.2.2.2.2.2.2.2.2.2.2.2.2.2.2.2.2.1 s.2.2.2.2.2.2.2.2.2.2.2.2.2.2.2.2.2.2.2.2.2.2.2.2.2.2.2.2.2.2.2.2.2.2.2.2.2.2.2.2.2.2.2.2.2.2.2.2.2.2.2.2.2.2.2.2.2.2.2.2.2.2.2.2.2.2.2.2.2.2.2.2.2.2.2.2.2.2.2.2.2.2.2.2.2.2.2.2.2.2.2.2.2.2.2.2.2.2.2.2.2.2.2.2.2.2.2.2.2.1)) (bA.mk (aG.mk (s.2.2.2.2.2.2.2.2.2.2.2.2.2.2.2.2.2.2.2.2.2.2.2.2.2.2.2.2.2.2.2.2.2.2.2.2.2.2.2.2.2.2.2.2.2.2.2.2.2.2.2.2.2.2.2.2.2.2.2.2.2.2.2.2.2.2.2.2.2.2.2.2.2.2.2.2.2.2.2.2.2.2.2.2.2.2.2.2.2.2.2.2.2.2.2.2.2.2.2.2.2.2.2.2.2.2.2.2.2.2.1,s.2.2.2.2.2.2.2.2.2.2.2.2.2.2.2.2.2.2.2.2.2.2.2.2.2.2.2.2.2.2.2.2.2.2.2.2.2.2.2.2.2.2.2.2.2.2.2.2.2.2.2.2.2.2.2.2.2.2.2.2.2.2.2.2.2.2.2.2.2.2.2.2.2.2.2.2.2.2.2.2.2.2.2.2.2.2.2.2.2.2.2.2.2.2.2.2.2.2.2.2.2.2.2.2.2.2.2.2.2.2.2.1) (Field.mk s.2.2.2.2.2.2.2.2.2.2.2.2.2.2.2.2.2.2.2.2.2.2.2.2.2.2.2.2.2.2.2.2.2.2.2.2.2.2.2.2.2.2.2.2.2.2.2.2.2.2.2.2.2.2.2.2.2.2.2.2.2.2.2.2.2.2.2.2.2.2.2.2.2.2.2.2.2.2.2.2.2.2.2.2.2.2.2.2.2.2.2.2.2.2.2.2.2.2.2.2.2.2.2.2.2.2.2.2.2.2.2.2.1) (aI.mk s.2.2.2.2.2.2.2.2.2.2.2.2.2.2.2.2.2.2.2.2.2.2.2.2.2.2.2.2.2.2.2.2.2.2.2.2.2.2.2.2.2.2.2.2.2.2.2.2.2.2.2.2.2.2.2.2.2.2.2.2.2.2.2.2.2.2.2.2.2.2.2.2.2.2.2.2.2.2.2.2.2.2.2.2.2.2.2.2.2.2.2.2.2.2.2.2.2.2.2.2.2.2.2.2.2.2.2.2.2.2.2.2.2.1 s.2.2.2.2.2.2.2.2.2.2.2.2.2.2.2.2.2.2.2.2.2.2.2.2.2.2.2.2.2.2.2.2.2.2.2.2.2.2.2.2.2.2.2.2.2.2.2.2.2.2.2.2.2.2.2.2.2.2.2.2.2.2.2.2.2.2.2.2.2.2.2.2.2.2.2.2.2.2.2.2.2.2.2.2.2.2.2.2.2.2.2.2.2.2.2.2.2.2.2.2.2.2.2.2.2.2.2.2.2.2.2.2.2.2.1) (aE.mk (aH.mk s.2.2.2.2.2.2.2.2.2.2.2.2.2.2.2.2.2.2.2.2.2.2.2.2.2.2.2.2.2.2.2.2.2.2.2.2.2.2.2.2.2.2.2.2.2.2.2.2.2.2.2.2.2.2.2.2.2.2.2.2.2.2.2.2.2.2.2.2.2.2.2.2.2.2.2.2.2.2.2.2.2.2.2.2.2.2.2.2.2.2.2.2.2.2.2.2.2.2.2.2.2.2.2.2.2.2.2.2.2.2.2.2.2.2.2.1 s.2.2.2.2.2.2.2.2.2.2.2.2.2.2.2.2.2.2.2.2.2.2.2.2.2.2.2.2.2.2.2.2.2.2.2.2.2.2.2.2.2.2.2.2.2.2.2.2.2.2.2.2.2.2.2.2.2.2.2.2.2.2.2.2.2.2.2.2.2.2.2.2.2.2.2.2.2.2.2.2.2.2.2.2.2.2.2.2.2.2.2.2.2.2.2.2.2.2.2.2.2.2.2.2.2.2.2.2.2.2.2.2.2.2.2.2.1 s.2.2.2.2.2.2.2.2.2.2.2.2.2.2.2.2.2.2.2.2.2.2.2.2.2.2.2.2.2.2.2.2.2.2.2.2.2.2.2.2.2.2.2.2.2.2.2.2.2.2.2.2.2.2.2.2.2.2.2.2.2.2.2.2.2.2.2.2.2.2.2.2.2.2.2.2.2.2.2.2.2.2.2.2.2.2.2.2.2.2.2.2.2.2.2.2.2.2.2.2.2.2.2.2.2.2.2.2.2.2.2.2.2.2.2.2.2.1) s.2.2.2.2.2.2.2.2.2.2.2.2.2.2.2.2.2.2.2.2.2.2.2.2.2.2.2.2.2.2.2.2.2.2.2.2.2.2.2.2.2.2.2.2.2.2.2.2.2.2.2.2.2.2.2.2.2.2.2.2.2.2.2.2.2.2.2.2.2.2.2.2.2.2.2.2.2.2.2.2.2.2.2.2.2.2.2.2.2.2.2.2.2.2.2.2.2.2.2.2.2.2.2.2.2.2.2.2.2.2.2.2.2.2.2.2.2.2.1 s.2.2.2.2.2.2.2.2.2.2.2.2.2.2.2.2.2.2.2.2.2.2.2.2.2.2.2.2.2.2.2.2.2.2.2.2.2.2.2.2.2.2.2.2.2.2.2.2.2.2.2.2.2.2.2.2.2.2.2.2.2.2.2.2.2.2.2.2.2.2.2.2.2.2.2.2.2.2.2.2.2.2.2.2.2.2.2.2.2.2.2.2.2.2.2.2.2.2.2.2.2.2.2.2.2.2.2.2.2.2.2.2.2.2.2.2.2.2.2.1) s.2.2.2.2.2.2.2.2.2.2.2.2.2.2.2.2.2.2.2.2.2.2.2.2.2.2.2.2.2.2.2.2.2.2.2.2.2.2.2.2.2.2.2.2.2.2.2.2.2.2.2.2.2.2.2.2.2.2.2.2.2.2.2.2.2.2.2.2.2.2.2.2.2.2.2.2.2.2.2.2.2.2.2.2.2.2.2.2.2.2.2.2.2.2.2.2.2.2.2.2.2.2.2.2.2.2.2.2.2.2.2.2.2.2.2.2.2.2.2.2.1) s.2.2.2.2.2.2.2.2.2.2.2.2.2.2.2.2.2.2.2.2.2.2.2.2.2.2.2.2.2.2.2.2.2.2.2.2.2.2.2.2.2.2.2.2.2.2.2.2.2.2.2.2.2.2.2.2.2.2.2.2.2.2.2.2.2.2.2.2.2.2.2.2.2.2.2.2.2.2.2.2.2.2.2.2.2.2.2.2.2.2.2.2.2.2.2.2.2.2.2.2.2.2.2.2.2.2.2.2.2.2.2.2.2.2.2.2.2.2.2.2.2.1)) a0).bind fun a1=>
  bif a1.2.2 !=0 then
   some (.next (s.1,s.2.1,aA .i64 (s.2.2.1+1),s.2.2.2))
  else
   ((oL N) a1.1).bind fun n2=>
   some (.next (s.1,s.2.1,aA .i64 (s.2.2.1+1),s.2.2.2.1,s.2.2.2.2.1,s.2.2.2.2.2.1,s.2.2.2.2.2.2.1,s.2.2.2.2.2.2.2.1,s.2.2.2.2.2.2.2.2.1,s.2.2.2.2.2.2.2.2.2.1,s.2.2.2.2.2.2.2.2.2.2.1,s.2.2.2.2.2.2.2.2.2.2.2.1,s.2.2.2.2.2.2.2.2.2.2.2.2.1,s.2.2.2.2.2.2.2.2.2.2.2.2.2.1,s.2.2.2.2.2.2.2.2.2.2.2.2.2.2.1,s.2.2.2.2.2.2.2.2.2.2.2.2.2.2.2.1,s.2.2.2.2.2.2.2.2.2.2.2.2.2.2.2.2.1,s.2.2.2.2.2.2.2.2.2.2.2.2.2.2.2.2.2.1,s.2.2.2.2.2.2.2.2.2.2.2.2.2.2.2.2.2.2.1,s.2.2.2.2.2.2.2.2.2.2.2.2.2.2.2.2.2.2.2.1,s.2.2.2.2.2.2.2.2.2.2.2.2.2.2.2.2.2.2.2.2.1,s.2.2.2.2.2.2.2.2.2.2.2.2.2.2.2.2.2.2.2.2.2.1,s.2.2.2.2.2.2.2.2.2.2.2.2.2.2.2.2.2.2.2.2.2.2.1,s.2.2.2.2.2.2.2.2.2.2.2.2.2.2.2.2.2.2.2.2.2.2.2.1,s.2.2.2.2.2.2.2.2.2.2.2.2.2.2.2.2.2.2.2.2.2.2.2.2.1,s.2.2.2.2.2.2.2.2.2.2.2.2.2.2.2.2.2.2.2.2.2.2.2.2.2.1,s.2.2.2.2.2.2.2.2.2.2.2.2.2.2.2.2.2.2.2.2.2.2.2.2.2.2.1,s.2.2.2.2.2.2.2.2.2.2.2.2.2.2.2.2.2.2.2.2.2.2.2.2.2.2.2.1,s.2.2.2.2.2.2.2.2.2.2.2.2.2.2.2.2.2.2.2.2.2.2.2.2.2.2.2.2.1,s.2.2.2.2.2.2.2.2.2.2.2.2.2.2.2.2.2.2.2.2.2.2.2.2.2.2.2.2.2.1,s.2.2.2.2.2.2.2.2.2.2.2.2.2.2.2.2.2.2.2.2.2.2.2.2.2.2.2.2.2.2.1,s.2.2.2.2.2.2.2.2.2.2.2.2.2.2.2.2.2.2.2.2.2.2.2.2.2.2.2.2.2.2.2.1,s.2.2.2.2.2.2.2.2.2.2.2.2.2.2.2.2.2.2.2.2.2.2.2.2.2.2.2.2.2.2.2.2.1,s.2.2.2.2.2.2.2.2.2.2.2.2.2.2.2.2.2.2.2.2.2.2.2.2.2.2.2.2.2.2.2.2.2.1,s.2.2.2.2.2.2.2.2.2.2.2.2.2.2.2.2.2.2.2.2.2.2.2.2.2.2.2.2.2.2.2.2.2.2.1,s.2.2.2.2.2.2.2.2.2.2.2.2.2.2.2.2.2.2.2.2.2.2.2.2.2.2.2.2.2.2.2.2.2.2.2.1,s.2.2.2.2.2.2.2.2.2.2.2.2.2.2.2.2.2.2.2.2.2.2.2.2.2.2.2.2.2.2.2.2.2.2.2.2.1,s.2.2.2.2.2.2.2.2.2.2.2.2.2.2.2.2.2.2.2.2.2.2.2.2.2.2.2.2.2.2.2.2.2.2.2.2.2.1,s.2.2.2.2.2.2.2.2.2.2.2.2.2.2.2.2.2.2.2.2.2.2.2.2.2.2.2.2.2.2.2.2.2.2.2.2.2.2.1,s.2.2.2.2.2.2.2.2.2.2.2.2.2.2.2.2.2.2.2.2.2.2.2.2.2.2.2.2.2.2.2.2.2.2.2.2.2.2.2.1,s.2.2.2.2.2.2.2.2.2.2.2.2.2.2.2.2.2.2.2.2.2.2.2.2.2.2.2.2.2.2.2.2.2.2.2.2.2.2.2.2.1,s.2.2.2.2.2.2.2.2.2.2.2.2.2.2.2.2.2.2.2.2.2.2.2.2.2.2.2.2.2.2.2.2.2.2.2.2.2.2.2.2.2.1,s.2.2.2.2.2.2.2.2.2.2.2.2.2.2.2.2.2.2.2.2.2.2.2.2.2.2.2.2.2.2.2.2.2.2.2.2.2.2.2.2.2.2.1,s.2.2.2.2.2.2.2.2.2.2.2.2.2.2.2.2.2.2.2.2.2.2.2.2.2.2.2.2.2.2.2.2.2.2.2.2.2.2.2.2.2.2.2.1,s.2.2.2.2.2.2.2.2.2.2.2.2.2.2.2.2.2.2.2.2.2.2.2.2.2.2.2.2.2.2.2.2.2.2.2.2.2.2.2.2.2.2.2.2.1,s.2.2.2.2.2.2.2.2.2.2.2.2.2.2.2.2.2.2.2.2.2.2.2.2.2.2.2.2.2.2.2.2.2.2.2.2.2.2.2.2.2.2.2.2.2.1,s.2.2.2.2.2.2.2.2.2.2.2.2.2.2.2.2.2.2.2.2.2.2.2.2.2.2.2.2.2.2.2.2.2.2.2.2.2.2.2.2.2.2.2.2.2.2.1,s.2.2.2.2.2.2.2.2.2.2.2.2.2.2.2.2.2.2.2.2.2.2.2.2.2.2.2.2.2.2.2.2.2.2.2.2.2.2.2.2.2.2.2.2.2.2.2.1,s.2.2.2.2.2.2.2.2.2.2.2.2.2.2.2.2.2.2.2.2.2.2.2.2.2.2.2.2.2.2.2.2.2.2.2.2.2.2.2.2.2.2.2.2.2.2.2.2.1,s.2.2.2.2.2.2.2.2.2.2.2.2.2.2.2.2.2.2.2.2.2.2.2.2.2.2.2.2.2.2.2.2.2.2.2.2.2.2.2.2.2.2.2.2.2.2.2.2.2.1,s.2.2.2.2.2.2.2.2.2.2.2.2.2.2.2.2.2.2.2.2.2.2.2.2.2.2.2.2.2.2.2.2.2.2.2.2.2.2.2.2.2.2.2.2.2.2.2.2.2.2.1,s.2.2.2.2.2.2.2.2.2.2.2.2.2.2.2.2.2.2.2.2.2.2.2.2.2.2.2.2.2.2.2.2.2.2.2.2.2.2.2.2.2.2.2.2.2.2.2.2.2.2.2.1,s.2.2.2.2.2.2.2.2.2.2.2.2.2.2.2.2.2.2.2.2.2.2.2.2.2.2.2.2.2.2.2.2.2.2.2.2.2.2.2.2.2.2.2.2.2.2.2.2.2.2.2.2.1,s.2.2.2.2.2.2.2.2.2.2.2.2.2.2.2.2.2.2.2.2.2.2.2.2.2.2.2.2.2.2.2.2.2.2.2.2.2.2.2.2.2.2.2.2.2.2.2.2.2.2.2.2.2.1,s.2.2.2.2.2.2.2.2.2.2.2.2.2.2.2.2.2.2.2.2.2.2.2.2.2.2.2.2.2.2.2.2.2.2.2.2.2.2.2.2.2.2.2.2.2.2.2.2.2.2.2.2.2.2.1,s.2.2.2.2.2.2.2.2.2.2.2.2.2.2.2.2.2.2.2.2.2.2.2.2.2.2.2.2.2.2.2.2.2.2.2.2.2.2.2.2.2.2.2.2.2.2.2.2.2.2.2.2.2.2.2.1,s.2.2.2.2.2.2.2.2.2.2.2.2.2.2.2.2.2.2.2.2.2.2.2.2.2.2.2.2.2.2.2.2.2.2.2.2.2.2.2.2.2.2.2.2.2.2.2.2.2.2.2.2.2.2.2.2.1,s.2.2.2.2.2.2.2.2.2.2.2.2.2.2.2.2.2.2.2.2.2.2.2.2.2.2.2.2.2.2.2.2.2.2.2.2.2.2.2.2.2.2.2.2.2.2.2.2.2.2.2.2.2.2.2.2.2.1,s.2.2.2.2.2.2.2.2.2.2.2.2.2.2.2.2.2.2.2.2.2.2.2.2.2.2.2.2.2.2.2.2.2.2.2.2.2.2.2.2.2.2.2.2.2.2.2.2.2.2.2.2.2.2.2.2.2.2.1,s.2.2.2.2.2.2.2.2.2.2.2.2.2.2.2.2.2.2.2.2.2.2.2.2.2.2.2.2.2.2.2.2.2.2.2.2.2.2.2.2.2.2.2.2.2.2.2.2.2.2.2.2.2.2.2.2.2.2.2.1,s.2.2.2.2.2.2.2.2.2.2.2.2.2.2.2.2.2.2.2.2.2.2.2.2.2.2.2.2.2.2.2.2.2.2.2.2.2.2.2.2.2.2.2.2.2.2.2.2.2.2.2.2.2.2.2.2.2.2.2.2.1,s.2.2.2.2.2.2.2.2.2.2.2.2.2.2.2.2.2.2.2.2.2.2.2.2.2.2.2.2.2.2.2.2.2.2.2.2.2.2.2.2.2.2.2.2.2.2.2.2.2.2.2.2.2.2.2.2.2.2.2.2.2.1,s.2.2.2.2.2.2.2.2.2.2.2.2.2.2.2.2.2.2.2.2.2.2.2.2.2.2.2.2.2.2.2.2.2.2.2.2.2.2.2.2.2.2.2.2.2.2.2.2.2.2.2.2.2.2.2.2.2.2.2.2.2.2.1,s.2.2.2.2.2.2.2.2.2.2.2.2.2.2.2.2.2.2.2.2.2.2.2.2.2.2.2.2.2.2.2.2.2.2.2.2.2.2.2.2.2.2.2.2.2.2.2.2.2.2.2.2.2.2.2.2.2.2.2.2.2.2.2.1,s.2.2.2.2.2.2.2.2.2.2.2.2.2.2.2.2.2.2.2.2.2.2.2.2.2.2.2.2.2.2.2.2.2.2.2.2.2.2.2.2.2.2.2.2.2.2.2.2.2.2.2.2.2.2.2.2.2.2.2.2.2.2.2.2.1,s.2.2.2.2.2.2.2.2.2.2.2.2.2.2.2.2.2.2.2.2.2.2.2.2.2.2.2.2.2.2.2.2.2.2.2.2.2.2.2.2.2.2.2.2.2.2.2.2.2.2.2.2.2.2.2.2.2.2.2.2.2.2.2.2.2.1,s.2.2.2.2.2.2.2.2.2.2.2.2.2.2.2.2.2.2.2.2.2.2.2.2.2.2.2.2.2.2.2.2.2.2.2.2.2.2.2.2.2.2.2.2.2.2.2.2.2.2.2.2.2.2.2.2.2.2.2.2.2.2.2.2.2.2.1,s.2.2.2.2.2.2.2.2.2.2.2.2.2.2.2.2.2.2.2.2.2.2.2.2.2.2.2.2.2.2.2.2.2.2.2.2.2.2.2.2.2.2.2.2.2.2.2.2.2.2.2.2.2.2.2.2.2.2.2.2.2.2.2.2.2.2.2.1,s.2.2.2.2.2.2.2.2.2.2.2.2.2.2.2.2.2.2.2.2.2.2.2.2.2.2.2.2.2.2.2.2.2.2.2.2.2.2.2.2.2.2.2.2.2.2.2.2.2.2.2.2.2.2.2.2.2.2.2.2.2.2.2.2.2.2.2.2.1,s.2.2.2.2.2.2.2.2.2.2.2.2.2.2.2.2.2.2.2.2.2.2.2.2.2.2.2.2.2.2.2.2.2.2.2.2.2.2.2.2.2.2.2.2.2.2.2.2.2.2.2.2.2.2.2.2.2.2.2.2.2.2.2.2.2.2.2.2.2.1,s.2.2.2.2.2.2.2.2.2.2.2.2.2.2.2.2.2.2.2.2.2.2.2.2.2.2.2.2.2.2.2.2.2.2.2.2.2.2.2.2.2.2.2.2.2.2.2.2.2.2.2.2.2.2.2.2.2.2.2.2.2.2.2.2.2.2.2.2.2.2.1,a1.1.tag,a1.1.heap.clock.now.1,a1.1.heap.clock.now.2,a1.1.heap.clock.field.points,a1.1.heap.clock.certs.next_,a1.1.heap.clock.certs.list,a1.1.heap.clock.agenda.slots.uses,a1.1.heap.clock.agenda.slots.used,a1.1.heap.clock.agenda.slots.free,a1.1.heap.clock.agenda.heap,a1.1.heap.clock.agenda.where_,a1.1.heap.clock.due,a1.1.heap.heap,a1.1.tourn.clock.now.1,a1.1.tourn.clock.now.2,a1.1.tourn.clock.field.points,a1.1.tourn.clock.certs.next_,a1.1.tourn.clock.certs.list,a1.1.tourn.clock.agenda.slots.uses,a1.1.tourn.clock.agenda.slots.used,a1.1.tourn.clock.agenda.slots.free,a1.1.tourn.clock.agenda.heap,a1.1.tourn.clock.agenda.where_,a1.1.tourn.clock.due,a1.1.tourn.bracket.places,a1.1.tourn.bracket.wins,a1.1.heater.clock.now.1,a1.1.heater.clock.now.2,a1.1.heater.clock.field.points,a1.1.heater.clock.certs.next_,a1.1.heater.clock.certs.list,a1.1.heater.clock.agenda.slots.uses,a1.1.heater.clock.agenda.slots.used,a1.1.heater.clock.agenda.slots.free,a1.1.heater.clock.agenda.heap,a1.1.heater.clock.agenda.where_,a1.1.heater.clock.due,a1.1.heater.tree.root,a1.1.heater.tree.nodes,a1.1.hanger.clock.now.1,a1.1.hanger.clock.now.2,a1.1.hanger.clock.field.points,a1.1.hanger.clock.certs.next_,a1.1.hanger.clock.certs.list,a1.1.hanger.clock.agenda.slots.uses,a1.1.hanger.clock.agenda.slots.used,a1.1.hanger.clock.agenda.slots.free,a1.1.hanger.clock.agenda.heap,a1.1.hanger.clock.agenda.where_,a1.1.hanger.clock.due,a1.1.hanger.up,aA .i64 (s.2.2.2.2.2.2.2.2.2.2.2.2.2.2.2.2.2.2.2.2.2.2.2.2.2.2.2.2.2.2.2.2.2.2.2.2.2.2.2.2.2.2.2.2.2.2.2.2.2.2.2.2.2.2.2.2.2.2.2.2.2.2.2.2.2.2.2.2.2.2.2.2.2.2.2.2.2.2.2.2.2.2.2.2.2.2.2.2.2.2.2.2.2.2.2.2.2.2.2.2.2.2.2.2.2.2.2.2.2.2.2.2.2.2.2.2.2.2.2.2.2.2.1+(aa a1.2.1.length)),s.2.2.2.2.2.2.2.2.2.2.2.2.2.2.2.2.2.2.2.2.2.2.2.2.2.2.2.2.2.2.2.2.2.2.2.2.2.2.2.2.2.2.2.2.2.2.2.2.2.2.2.2.2.2.2.2.2.2.2.2.2.2.2.2.2.2.2.2.2.2.2.2.2.2.2.2.2.2.2.2.2.2.2.2.2.2.2.2.2.2.2.2.2.2.2.2.2.2.2.2.2.2.2.2.2.2.2.2.2.2.2.2.2.2.2.2.2.2.2.2.2.2.2.1,if n2>s.2.2.2.2.2.2.2.2.2.2.2.2.2.2.2.2.2.2.2.2.2.2.2.2.2.2.2.2.2.2.2.2.2.2.2.2.2.2.2.2.2.2.2.2.2.2.2.2.2.2.2.2.2.2.2.2.2.2.2.2.2.2.2.2.2.2.2.2.2.2.2.2.2.2.2.2.2.2.2.2.2.2.2.2.2.2.2.2.2.2.2.2.2.2.2.2.2.2.2.2.2.2.2.2.2.2.2.2.2.2.2.2.2.2.2.2.2.2.2.2.2.2.2.2 then n2 else s.2.2.2.2.2.2.2.2.2.2.2.2.2.2.2.2.2.2.2.2.2.2.2.2.2.2.2.2.2.2.2.2.2.2.2.2.2.2.2.2.2.2.2.2.2.2.2.2.2.2.2.2.2.2.2.2.2.2.2.2.2.2.2.2.2.2.2.2.2.2.2.2.2.2.2.2.2.2.2.2.2.2.2.2.2.2.2.2.2.2.2.2.2.2.2.2.2.2.2.2.2.2.2.2.2.2.2.2.2.2.2.2.2.2.2.2.2.2.2.2.2.2.2.2))
 else
  ((sS N) (aY.mk s.2.2.2.2.2.2.2.2.2.2.2.2.2.2.2.2.2.2.2.2.2.2.2.2.2.2.2.2.2.2.2.2.2.2.2.2.2.2.2.2.2.2.2.2.2.2.2.2.2.2.2.2.2.2.2.2.2.2.2.2.2.2.2.2.2.2.2.2.2.2.2.1 (bH.mk (aG.mk (s.2.2.2.2.2.2.2.2.2.2.2.2.2.2.2.2.2.2.2.2.2.2.2.2.2.2.2.2.2.2.2.2.2.2.2.2.2.2.2.2.2.2.2.2.2.2.2.2.2.2.2.2.2.2.2.2.2.2.2.2.2.2.2.2.2.2.2.2.2.2.2.2.1,s.2.2.2.2.2.2.2.2.2.2.2.2.2.2.2.2.2.2.2.2.2.2.2.2.2.2.2.2.2.2.2.2.2.2.2.2.2.2.2.2.2.2.2.2.2.2.2.2.2.2.2.2.2.2.2.2.2.2.2.2.2.2.2.2.2.2.2.2.2.2.2.2.2.1) (Field.mk s.2.2.2.2.2.2.2.2.2.2.2.2.2.2.2.2.2.2.2.2.2.2.2.2.2.2.2.2.2.2.2.2.2.2.2.2.2.2.2.2.2.2.2.2.2.2.2.2.2.2.2.2.2.2.2.2.2.2.2.2.2.2.2.2.2.2.2.2.2.2.2.2.2.2.1) (aI.mk s.2.2.2.2.2.2.2.2.2.2.2.2.2.2.2.2.2.2.2.2.2.2.2.2.2.2.2.2.2.2.2.2.2.2.2.2.2.2.2.2.2.2.2.2.2.2.2.2.2.2.2.2.2.2.2.2.2.2.2.2.2.2.2.2.2.2.2.2.2.2.2.2.2.2.2.1 s.2.2.2.2.2.2.2.2.2.2.2.2.2.2.2.2.2.2.2.2.2.2.2.2.2.2.2.2.2.2.2.2.2.2.2.2.2.2.2.2.2.2.2.2.2.2.2.2.2.2.2.2.2.2.2.2.2.2.2.2.2.2.2.2.2.2.2.2.2.2.2.2.2.2.2.2.1) (aE.mk (aH.mk s.2.2.2.2.2.2.2.2.2.2.2.2.2.2.2.2.2.2.2.2.2.2.2.2.2.2.2.2.2.2.2.2.2.2.2.2.2.2.2.2.2.2.2.2.2.2.2.2.2.2.2.2.2.2.2.2.2.2.2.2.2.2.2.2.2.2.2.2.2.2.2.2.2.2.2.2.2.1 s.2.2.2.2.2.2.2.2.2.2.2.2.2.2.2.2.2.2.2.2.2.2.2.2.2.2.2.2.2.2.2.2.2.2.2.2.2.2.2.2.2.2.2.2.2.2.2.2.2.2.2.2.2.2.2.2.2.2.2.2.2.2.2.2.2.2.2.2.2.2.2.2.2.2.2.2.2.2.1 s.2.2.2.2.2.2.2.2.2.2.2.2.2.2.2.2.2.2.2.2.2.2.2.2.2.2.2.2.2.2.2.2.2.2.2.2.2.2.2.2.2.2.2.2.2.2.2.2.2.2.2.2.2.2.2.2.2.2.2.2.2.2.2.2.2.2.2.2.2.2.2.2.2.2.2.2.2.2.2.1) s.2.2.2.2.2.2.2.2.2.2.2.2.2.2.2.2.2.2.2.2.2.2.2.2.2.2.2.2.2.2.2.2.2.2.2.2.2.2.2.2.2.2.2.2.2.2.2.2.2.2.2.2.2.2.2.2.2.2.2.2.2.2.2.2.2.2.2.2.2.2.2.2.2.2.2.2.2.2.2.2.1 s.2.2.2.2.2.2.2.2.2.2.2.2.2.2.2.2.2.2.2.2.2.2.2.2.2.2.2.2.2.2.2.2.2.2.2.2.2.2.2.2.2.2.2.2.2.2.2.2.2.2.2.2.2.2.2.2.2.2.2.2.2.2.2.2.2.2.2.2.2.2.2.2.2.2.2.2.2.2.2.2.2.1) s.2.2.2.2.2.2.2.2.2.2.2.2.2.2.2.2.2.2.2.2.2.2.2.2.2.2.2.2.2.2.2.2.2.2.2.2.2.2.2.2.2.2.2.2.2.2.2.2.2.2.2.2.2.2.2.2.2.2.2.2.2.2.2.2.2.2.2.2.2.2.2.2.2.2.2.2.2.2.2.2.2.2.1) s.2.2.2.2.2.2.2.2.2.2.2.2.2.2.2.2.2.2.2.2.2.2.2.2.2.2.2.2.2.2.2.2.2.2.2.2.2.2.2.2.2.2.2.2.2.2.2.2.2.2.2.2.2.2.2.2.2.2.2.2.2.2.2.2.2.2.2.2.2.2.2.2.2.2.2.2.2.2.2.2.2.2.2.1) (bC.mk (aG.mk (s.2.2.2.2.2.2.2.2.2.2.2.2.2.2.2.2.2.2.2.2.2.2.2.2.2.2.2.2.2.2.2.2.2.2.2.2.2.2.2.2.2.2.2.2.2.2.2.2.2.2.2.2.2.2.2.2.2.2.2.2.2.2.2.2.2.2.2.2.2.2.2.2.2.2.2.2.2.2.2.2.2.2.2.2.1,s.2.2.2.2.2.2.2.2.2.2.2.2.2.2.2.2.2.2.2.2.2.2.2.2.2.2.2.2.2.2.2.2.2.2.2.2.2.2.2.2.2.2.2.2.2.2.2.2.2.2.2.2.2.2.2.2.2.2.2.2.2.2.2.2.2.2.2.2.2.2.2.2.2.2.2.2.2.2.2.2.2.2.2.2.2.1) (Field.mk s.2.2.2.2.2.2.2.2.2.2.2.2.2.2.2.2.2.2.2.2.2.2.2.2.2.2.2.2.2.2.2.2.2.2.2.2.2.2.2.2.2.2.2.2.2.2.2.2.2.2.2.2.2.2.2.2.2.2.2.2.2.2.2.2.2.2.2.2.2.2.2.2.2.2.2.2.2.2.2.2.2.2.2.2.2.2.1) (aI.mk s.2.2.2.2.2.2.2.2.2.2.2.2.2.2.2.2.2.2.2.2.2.2.2.2.2.2.2.2.2.2.2.2.2.2.2.2.2.2.2.2.2.2.2.2.2.2.2.2.2.2.2.2.2.2.2.2.2.2.2.2.2.2.2.2.2.2.2.2.2.2.2.2.2.2.2.2.2.2.2.2.2.2.2.2.2.2.2.1 s.2.2.2.2.2.2.2.2.2.2.2.2.2.2.2.2.2.2.2.2.2.2.2.2.2.2.2.2.2.2.2.2.2.2.2.2.2.2.2.2.2.2.2.2.2.2.2.2.2.2.2.2.2.2.2.2.2.2.2.2.2.2.2.2.2.2.2.2.2.2.2.2.2.2.2.2.2.2.2.2.2.2.2.2.2.2.2.2.1) (aE.mk (aH.mk s.2.2.2.2.2.2.2.2.2.2.2.2.2.2.2.2.2.2.2.2.2.2.2.2.2.2.2.2.2.2.2.2.2.2.2.2.2.2.2.2.2.2.2.2.2.2.2.2.2.2.2.2.2.2.2.2.2.2.2.2.2.2.2.2.2.2.2.2.2.2.2.2.2.2.2.2.2.2.2.2.2.2.2.2.2.2.2.2.2.1 s.2.2.2.2.2.2.2.2.2.2.2.2.2.2.2.2.2.2.2.2.2.2.2.2.2.2.2.2.2.2.2.2.2.2.2.2.2.2.2.2.2.2.2.2.2.2.2.2.2.2.2.2.2.2.2.2.2.2.2.2.2.2.2.2.2.2.2.2.2.2.2.2.2.2.2.2.2.2.2.2.2.2.2.2.2.2.2.2.2.2.1 s.2.2.2.2.2.2.2.2.2.2.2.2.2.2.2.2.2.2.2.2.2.2.2.2.2.2.2.2.2.2.2.2.2.2.2.2.2.2.2.2.2.2.2.2.2.2.2.2.2.2.2.2.2.2.2.2.2.2.2.2.2.2.2.2.2.2.2.2.2.2.2.2.2.2.2.2.2.2.2.2.2.2.2.2.2.2.2.2.2.2.2.1) s.2.2.2.2.2.2.2.2.2.2.2.2.2.2.2.2.2.2.2.2.2.2.2.2.2.2.2.2.2.2.2.2.2.2.2.2.2.2.2.2.2.2.2.2.2.2.2.2.2.2.2.2.2.2.2.2.2.2.2.2.2.2.2.2.2.2.2.2.2.2.2.2.2.2.2.2.2.2.2.2.2.2.2.2.2.2.2.2.2.2.2.2.1 s.2.2.2.2.2.2.2.2.2.2.2.2.2.2.2.2.2.2.2.2.2.2.2.2.2.2.2.2.2.2.2.2.2.2.2.2.2.2.2.2.2.2.2.2.2.2.2.2.2.2.2.2.2.2.2.2.2.2.2.2.2.2.2.2.2.2.2.2.2.2.2.2.2.2.2.2.2.2.2.2.2.2.2.2.2.2.2.2.2.2.2.2.2.1) s.2.2.2.2.2.2.2.2.2.2.2.2.2.2.2.2.2.2.2.2.2.2.2.2.2.2.2.2.2.2.2.2.2.2.2.2.2.2.2.2.2.2.2.2.2.2.2.2.2.2.2.2.2.2.2.2.2.2.2.2.2.2.2.2.2.2.2.2.2.2.2.2.2.2.2.2.2.2.2.2.2.2.2.2.2.2.2.2.2.2.2.2.2.2.1) (aQ.mk s.2.2.2.2.2.2.2.2.2.2.2.2.2.2.2.2.2.2.2.2.2.2.2.2.2.2.2.2.2.2.2.2.2.2.2.2.2.2.2.2.2.2.2.2.2.2.2.2.2.2.2.2.2.2.2.2.2.2.2.2.2.2.2.2.2.2.2.2.2.2.2.2.2.2.2.2.2.2.2.2.2.2.2.2.2.2.2.2.2.2.2.2.2.2.2.1 s.2.2.2.2.2.2.2.2.2.2.2.2.2.2.2.2.2.2.2.2.2.2.2.2.2.2.2.2.2.2.2.2.2.2.2.2.2.2.2.2.2.2.2.2.2.2.2.2.2.2.2.2.2.2.2.2.2.2.2.2.2.2.2.2.2.2.2.2.2.2.2.2.2.2.2.2.2.2.2.2.2.2.2.2.2.2.2.2.2.2.2.2.2.2.2.2.1)) (aW.mk (aG.mk (s.2.2.2.2.2.2.2.2.2.2.2.2.2.2.2.2.2.2.2.2.2.2.2.2.2.2.2.2.2.2.2.2.2.2.2.2.2.2.2.2.2.2.2.2.2.2.2.2.2.2.2.2.2.2.2.2.2.2.2.2.2.2.2.2.2.2.2.2.2.2.2.2.2.2.2.2.2.2.2.2.2.2.2.2.2.2.2.2.2.2.2.2.2.2.2.2.2.1,s.2.2.2.2.2.2.2.2.2.2.2.2.2.2.2.2.2.2.2.2.2.2.2.2.2.2.2.2.2.2.2.2.2.2.2.2.2.2.2.2.2.2.2.2.2.2.2.2.2.2.2.2.2.2.2.2.2.2.2.2.2.2.2.2.2.2.2.2.2.2.2.2.2.2.2.2.2.2.2.2.2.2.2.2.2.2.2.2.2.2.2.2.2.2.2.2.2.2.1) (Field.mk s.2.2.2.2.2.2.2.2.2.2.2.2.2.2.2.2.2.2.2.2.2.2.2.2.2.2.2.2.2.2.2.2.2.2.2.2.2.2.2.2.2.2.2.2.2.2.2.2.2.2.2.2.2.2.2.2.2.2.2.2.2.2.2.2.2.2.2.2.2.2.2.2.2.2.2.2.2.2.2.2.2.2.2.2.2.2.2.2.2.2.2.2.2.2.2.2.2.2.2.1) (aI.mk s.2.2.2.2.2.2.2.2.2.2.2.2.2.2.2.2.2.2.2.2.2.2.2.2.2.2.2.2.2.2.2.2.2.2.2.2.2.2.2.2.2.2.2.2.2.2.2.2.2.2.2.2.2.2.2.2.2.2.2.2.2.2.2.2.2.2.2.2.2.2.2.2.2.2.2.2.2.2.2.2.2.2.2.2.2.2.2.2.2.2.2.2.2.2.2.2.2.2.2.2.1 s.2.2.2.2.2.2.2.2.2.2.2.2.2.2.2.2.2.2.2.2.2.2.2.2.2.2.2.2.2.2.2.2.2.2.2.2.2.2.2.2.2.2.2.2.2.2.2.2.2.2.2.2.2.2.2.2.2.2.2.2.2.2.2.2.2.2.2.2.2.2.2.2.2.2.2.2.2.2.2.2.2.2.2.2.2.2.2.2.2.2.2.2.2.2.2.2.2.2.2.2.2.1) (aE.mk (aH.mk s.2.2.2.2.2.2.2.2.2.2.2.2.2.2.2.2.2.2.2.2.2.2.2.2.2.2.2.2.2.2.2.2.2.2.2.2.2.2.2.2.2.2.2.2.2.2.2.2.2.2.2.2.2.2.2.2.2.2.2.2.2.2.2.2.2.2.2.2.2.2.2.2.2.2.2.2.2.2.2.2.2.2.2.2.2.2.2.2.2.2.2.2.2.2.2.2.2.2.2.2.2.2.1 s.2.2.2.2.2.2.2.2.2.2.2.2.2.2.2.2.2.2.2.2.2.2.2.2.2.2.2.2.2.2.2.2.2.2.2.2.2.2.2.2.2.2.2.2.2.2.2.2.2.2.2.2.2.2.2.2.2.2.2.2.2.2.2.2.2.2.2.2.2.2.2.2.2.2.2.2.2.2.2.2.2.2.2.2.2.2.2.2.2.2.2.2.2.2.2.2.2.2.2.2.2.2.2.1 s.2.2.2.2.2.2.2.2.2.2.2.2.2.2.2.2.2.2.2.2.2.2.2.2.2.2.2.2.2.2.2.2.2.2.2.2.2.2.2.2.2.2.2.2.2.2.2.2.2.2.2.2.2.2.2.2.2.2.2.2.2.2.2.2.2.2.2.2.2.2.2.2.2.2.2.2.2.2.2.2.2.2.2.2.2.2.2.2.2.2.2.2.2.2.2.2.2.2.2.2.2.2.2.2.1) s.2.2.2.2.2.2.2.2.2.2.2.2.2.2.2.2.2.2.2.2.2.2.2.2.2.2.2.2.2.2.2.2.2.2.2.2.2.2.2.2.2.2.2.2.2.2.2.2.2.2.2.2.2.2.2.2.2.2.2.2.2.2.2.2.2.2.2.2.2.2.2.2.2.2.2.2.2.2.2.2.2.2.2.2.2.2.2.2.2.2.2.2.2.2.2.2.2.2.2.2.2.2.2.2.2.1 s.2.2.2.2.2.2.2.2.2.2.2.2.2.2.2.2.2.2.2.2.2.2.2.2.2.2.2.2.2.2.2.2.2.2.2.2.2.2.2.2.2.2.2.2.2.2.2.2.2.2.2.2.2.2.2.2.2.2.2.2.2.2.2.2.2.2.2.2.2.2.2.2.2.2.2.2.2.2.2.2.2.2.2.2.2.2.2.2.2.2.2.2.2.2.2.2.2.2.2.2.2.2.2.2.2.2.1) s.2.2.2.2.2.2.2.2.2.2.2.2.2.2.2.2.2.2.2.2.2.2.2.2.2.2.2.2.2.2.2.2.2.2.2.2.2.2.2.2.2.2.2.2.2.2.2.2.2.2.2.2.2.2.2.2.2.2.2.2.2.2.2.2.2.2.2.2.2.2.2.2.2.2.2.2.2.2.2.2.2.2.2.2.2.2.2.2.2.2.2.2.2.2.2.2.2.2.2.2.2.2.2.2.2.2.2.1) (cK.mk s.2.2.2.2.2.2.2.2.2.2.2.2.2.2.2.2.2.2.2.2.2.2.2.2.2.2.2.2.2.2.2.2.2.2.2.2.2.2.2.2.2.2.2.2.2.2.2.2.2.2.2.2.2.2.2.2.2.2.2.2.2.2.2.2.2.2.2.2.2.2.2.2.2.2.2.2.2.2.2.2.2.2.2.2.2.2.2.2.2.2.2.2.2.2.2.2.2.2.2.2.2.2.2.2.2.2.2.2.1 s.2.2.2.2.2.2.2.2.2.2.2.2.2.2.2.2.2.2.2.2.2.2.2.2.2.2.2.2.2.2.2.2.2.2.2.2.2.2.2.2.2.2.2.2.2.2.2.2.2.2.2.2.2.2.2.2.2.2.2.2.2.2.2.2.2.2.2.2.2.2.2.2.2.2.2.2.2.2.2.2.2.2.2.2.2.2.2.2.2.2.2.2.2.2.2.2.2.2.2.2.2.2.2.2.2.2.2.2.2.1)) (bA.mk (aG.mk (s.2.2.2.2.2.2.2.2.2.2.2.2.2.2.2.2.2.2.2.2.2.2.2.2.2.2.2.2.2.2.2.2.2.2.2.2.2.2.2.2.2.2.2.2.2.2.2.2.2.2.2.2.2.2.2.2.2.2.2.2.2.2.2.2.2.2.2.2.2.2.2.2.2.2.2.2.2.2.2.2.2.2.2.2.2.2.2.2.2.2.2.2.2.2.2.2.2.2.2.2.2.2.2.2.2.2.2.2.2.2.1,s.2.2.2.2.2.2.2.2.2.2.2.2.2.2.2.2.2.2.2.2.2.2.2.2.2.2.2.2.2.2.2.2.2.2.2.2.2.2.2.2.2.2.2.2.2.2.2.2.2.2.2.2.2.2.2.2.2.2.2.2.2.2.2.2.2.2.2.2.2.2.2.2.2.2.2.2.2.2.2.2.2.2.2.2.2.2.2.2.2.2.2.2.2.2.2.2.2.2.2.2.2.2.2.2.2.2.2.2.2.2.2.1) (Field.mk s.2.2.2.2.2.2.2.2.2.2.2.2.2.2.2.2.2.2.2.2.2.2.2.2.2.2.2.2.2.2.2.2.2.2.2.2.2.2.2.2.2.2.2.2.2.2.2.2.2.2.2.2.2.2.2.2.2.2.2.2.2.2.2.2.2.2.2.2.2.2.2.2.2.2.2.2.2.2.2.2.2.2.2.2.2.2.2.2.2.2.2.2.2.2.2.2.2.2.2.2.2.2.2.2.2.2.2.2.2.2.2.2.1) (aI.mk s.2.2.2.2.2.2.2.2.2.2.2.2.2.2.2.2.2.2.2.2.2.2.2.2.2.2.2.2.2.2.2.2.2.2.2.2.2.2.2.2.2.2.2.2.2.2.2.2.2.2.2.2.2.2.2.2.2.2.2.2.2.2.2.2.2.2.2.2.2.2.2.2.2.2.2.2.2.2.2.2.2.2.2.2.2.2.2.2.2.2.2.2.2.2.2.2.2.2.2.2.2.2.2.2.2.2.2.2.2.2.2.2.2.1 s.2.2.2.2.2.2.2.2.2.2.2.2.2.2.2.2.2.2.2.2.2.2.2.2.2.2.2.2.2.2.2.2.2.2.2.2.2.2.2.2.2.2.2.2.2.2.2.2.2.2.2.2.2.2.2.2.2.2.2.2.2.2.2.2.2.2.2.2.2.2.2.2.2.2.2.2.2.2.2.2.2.2.2.2.2.2.2.2.2.2.2.2.2.2.2.2.2.2.2.2.2.2.2.2.2.2.2.2.2.2.2.2.2.2.1) (aE.mk (aH.mk s.2.2.2.2.2.2.2.2.2.2.2.2.2.2.2.2.2.2.2.2.2.2.2.2.2.2.2.2.2.2.2.2.2.2.2.2.2.2.2.2.2.2.2.2.2.2.2.2.2.2.2.2.2.2.2.2.2.2.2.2.2.2.2.2.2.2.2.2.2.2.2.2.2.2.2.2.2.2.2.2.2.2.2.2.2.2.2.2.2.2.2.2.2.2.2.2.2.2.2.2.2.2.2.2.2.2.2.2.2.2.2.2.2.2.2.1 s.2.2.2.2.2.2.2.2.2.2.2.2.2.2.2.2.2.2.2.2.2.2.2.2.2.2.2.2.2.2.2.2.2.2.2.2.2.2.2.2.2.2.2.2.2.2.2.2.2.2.2.2.2.2.2.2.2.2.2.2.2.2.2.2.2.2.2.2.2.2.2.2.2.2.2.2.2.2.2.2.2.2.2.2.2.2.2.2.2.2.2.2.2.2.2.2.2.2.2.2.2.2.2.2.2.2.2.2.2.2.2.2.2.2.2.2.1 s.2.2.2.2.2.2.2.2.2.2.2.2.2.2.2.2.2.2.2.2.2.2.2.2.2.2.2.2.2.2.2.2.2.2.2.2.2.2.2.2.2.2.2.2.2.2.2.2.2.2.2.2.2.2.2.2.2.2.2.2.2.2.2.2.2.2.2.2.2.2.2.2.2.2.2.2.2.2.2.2.2.2.2.2.2.2.2.2.2.2.2.2.2.2.2.2.2.2.2.2.2.2.2.2.2.2.2.2.2.2.2.2.2.2.2.2.2.1) s.2.2.2.2.2.2.2.2.2.2.2.2.2.2.2.2.2.2.2.2.2.2.2.2.2.2.2.2.2.2.2.2.2.2.2.2.2.2.2.2.2.2.2.2.2.2.2.2.2.2.2.2.2.2.2.2.2.2.2.2.2.2.2.2.2.2.2.2.2.2.2.2.2.2.2.2.2.2.2.2.2.2.2.2.2.2.2.2.2.2.2.2.2.2.2.2.2.2.2.2.2.2.2.2.2.2.2.2.2.2.2.2.2.2.2.2.2.2.1 s.2.2.2.2.2.2.2.2.2.2.2.2.2.2.2.2.2.2.2.2.2.2.2.2.2.2.2.2.2.2.2.2.2.2.2.2.2.2.2.2.2.2.2.2.2.2.2.2.2.2.2.2.2.2.2.2.2.2.2.2.2.2.2.2.2.2.2.2.2.2.2.2.2.2.2.2.2.2.2.2.2.2.2.2.2.2.2.2.2.2.2.2.2.2.2.2.2.2.2.2.2.2.2.2.2.2.2.2.2.2.2.2.2.2.2.2.2.2.2.1) s.2.2.2.2.2.2.2.2.2.2.2.2.2.2.2.2.2.2.2.2.2.2.2.2.2.2.2.2.2.2.2.2.2.2.2.2.2.2.2.2.2.2.2.2.2.2.2.2.2.2.2.2.2.2.2.2.2.2.2.2.2.2.2.2.2.2.2.2.2.2.2.2.2.2.2.2.2.2.2.2.2.2.2.2.2.2.2.2.2.2.2.2.2.2.2.2.2.2.2.2.2.2.2.2.2.2.2.2.2.2.2.2.2.2.2.2.2.2.2.2.1) s.2.2.2.2.2.2.2.2.2.2.2.2.2.2.2.2.2.2.2.2.2.2.2.2.2.2.2.2.2.2.2.2.2.2.2.2.2.2.2.2.2.2.2.2.2.2.2.2.2.2.2.2.2.2.2.2.2.2.2.2.2.2.2.2.2.2.2.2.2.2.2.2.2.2.2.2.2.2.2.2.2.2.2.2.2.2.2.2.2.2.2.2.2.2.2.2.2.2.2.2.2.2.2.2.2.2.2.2.2.2.2.2.2.2.2.2.2.2.2.2.2.1))).bind fun n3=>
  ((sS N) (aY.mk s.2.2.2.1 (bH.mk (aG.mk (s.2.2.2.2.1,s.2.2.2.2.2.1) (Field.mk s.2.2.2.2.2.2.1) (aI.mk s.2.2.2.2.2.2.2.1 s.2.2.2.2.2.2.2.2.1) (aE.mk (aH.mk s.2.2.2.2.2.2.2.2.2.1 s.2.2.2.2.2.2.2.2.2.2.1 s.2.2.2.2.2.2.2.2.2.2.2.1) s.2.2.2.2.2.2.2.2.2.2.2.2.1 s.2.2.2.2.2.2.2.2.2.2.2.2.2.1) s.2.2.2.2.2.2.2.2.2.2.2.2.2.2.1) s.2.2.2.2.2.2.2.2.2.2.2.2.2.2.2.1) (bC.mk (aG.mk (s.2.2.2.2.2.2.2.2.2.2.2.2.2.2.2.2.1,s.2.2.2.2.2.2.2.2.2.2.2.2.2.2.2.2.2.1) (Field.mk s.2.2.2.2.2.2.2.2.2.2.2.2.2.2.2.2.2.2.1) (aI.mk s.2.2.2.2.2.2.2.2.2.2.2.2.2.2.2.2.2.2.2.1 s.2.2.2.2.2.2.2.2.2.2.2.2.2.2.2.2.2.2.2.2.1) (aE.mk (aH.mk s.2.2.2.2.2.2.2.2.2.2.2.2.2.2.2.2.2.2.2.2.2.1 s.2.2.2.2.2.2.2.2.2.2.2.2.2.2.2.2.2.2.2.2.2.2.1 s.2.2.2.2.2.2.2.2.2.2.2.2.2.2.2.2.2.2.2.2.2.2.2.1) s.2.2.2.2.2.2.2.2.2.2.2.2.2.2.2.2.2.2.2.2.2.2.2.2.1 s.2.2.2.2.2.2.2.2.2.2.2.2.2.2.2.2.2.2.2.2.2.2.2.2.2.1) s.2.2.2.2.2.2.2.2.2.2.2.2.2.2.2.2.2.2.2.2.2.2.2.2.2.2.1) (aQ.mk s.2.2.2.2.2.2.2.2.2.2.2.2.2.2.2.2.2.2.2.2.2.2.2.2.2.2.2.1 s.2.2.2.2.2.2.2.2.2.2.2.2.2.2.2.2.2.2.2.2.2.2.2.2.2.2.2.2.1)) (aW.mk (aG.mk (s.2.2.2.2.2.2.2.2.2.2.2.2.2.2.2.2.2.2.2.2.2.2.2.2.2.2.2.2.2.1,s.2.2.2.2.2.2.2.2.2.2.2.2.2.2.2.2.2.2.2.2.2.2.2.2.2.2.2.2.2.2.1) (Field.mk s.2.2.2.2.2.2.2.2.2.2.2.2.2.2.2.2.2.2.2.2.2.2.2.2.2.2.2.2.2.2.2.1) (aI.mk s.2.2.2.2.2.2.2.2.2.2.2.2.2.2.2.2.2.2.2.2.2.2.2.2.2.2.2.2.2.2.2.2.1 s.2.2.2.2.2.2.2.2.2.2.2.2.2.2.2.2.2.2.2.2.2.2.2.2.2.2.2.2.2.2.2.2.2.1) (aE.mk (aH.mk s.2.2.2.2.2.2.2.2.2.2.2.2.2.2.2.2.2.2.2.2.2.2.2.2.2.2.2.2.2.2.2.2.2.2.1 s.2.2.2.2.2.2.2.2.2.2.2.2.2.2.2.2.2.2.2.2.2.2.2.2.2.2.2.2.2.2.2.2.2.2.2.1 s.2.2.2.2.2.2.2.2.2.2.2.2.2.2.2.2.2.2.2.2.2.2.2.2.2.2.2.2.2.2.2.2.2.2.2.2.1) s.2.2.2.2.2.2.2.2.2.2.2.2.2.2.2.2.2.2.2.2.2.2.2.2.2.2.2.2.2.2.2.2.2.2.2.2.2.1 s.2.2.2.2.2.2.2.2.2.2.2.2.2.2.2.2.2.2.2.2.2.2.2.2.2.2.2.2.2.2.2.2.2.2.2.2.2.2.1) s.2.2.2.2.2.2.2.2.2.2.2.2.2.2.2.2.2.2.2.2.2.2.2.2.2.2.2.2.2.2.2.2.2.2.2.2.2.2.2.1) (cK.mk s.2.2.2.2.2.2.2.2.2.2.2.2.2.2.2.2.2.2.2.2.2.2.2.2.2.2.2.2.2.2.2.2.2.2.2.2.2.2.2.2.1 s.2.2.2.2.2.2.2.2.2.2.2.2.2.2.2.2.2.2.2.2.2.2.2.2.2.2.2.2.2.2.2.2.2.2.2.2.2.2.2.2.2.1)) (bA.mk (aG.mk (s.2.2.2.2.2.2.2.2.2.2.2.2.2.2.2.2.2.2.2.2.2.2.2.2.2.2.2.2.2.2.2.2.2.2.2.2.2.2.2.2.2.2.1,s.2.2.2.2.2.2.2.2.2.2.2.2.2.2.2.2.2.2.2.2.2.2.2.2.2.2.2.2.2.2.2.2.2.2.2.2.2.2.2.2.2.2.2.1) (Field.mk s.2.2.2.2.2.2.2.2.2.2.2.2.2.2.2.2.2.2.2.2.2.2.2.2.2.2.2.2.2.2.2.2.2.2.2.2.2.2.2.2.2.2.2.2.1) (aI.mk s.2.2.2.2.2.2.2.2.2.2.2.2.2.2.2.2.2.2.2.2.2.2.2.2.2.2.2.2.2.2.2.2.2.2.2.2.2.2.2.2.2.2.2.2.2.1 s.2.2.2.2.2.2.2.2.2.2.2.2.2.2.2.2.2.2.2.2.2.2.2.2.2.2.2.2.2.2.2.2.2.2.2.2.2.2.2.2.2.2.2.2.2.2.1) (aE.mk (aH.mk s.2.2.2.2.2.2.2.2.2.2.2.2.2.2.2.2.2.2.2.2.2.2.2.2.2.2.2.2.2.2.2.2.2.2.2.2.2.2.2.2.2.2.2.2.2.2.2.1 s.2.2.2.2.2.2.2.2.2.2.2.2.2.2.2.2.2.2.2.2.2.2.2.2.2.2.2.2.2.2.2.2.2.2.2.2.2.2.2.2.2.2.2.2.2.2.2.2.1 s.2.2.2.2.2.2.2.2.2.2.2.2.2.2.2.2.2.2.2.2.2.2.2.2.2.2.2.2.2.2.2.2.2.2.2.2.2.2.2.2.2.2.2.2.2.2.2.2.2.1) s.2.2.2.2.2.2.2.2.2.2.2.2.2.2.2.2.2.2.2.2.2.2.2.2.2.2.2.2.2.2.2.2.2.2.2.2.2.2.2.2.2.2.2.2.2.2.2.2.2.2.1 s.2.2.2.2.2.2.2.2.2.2.2.2.2.2.2.2.2.2.2.2.2.2.2.2.2.2.2.2.2.2.2.2.2.2.2.2.2.2.2.2.2.2.2.2.2.2.2.2.2.2.2.1) s.2.2.2.2.2.2.2.2.2.2.2.2.2.2.2.2.2.2.2.2.2.2.2.2.2.2.2.2.2.2.2.2.2.2.2.2.2.2.2.2.2.2.2.2.2.2.2.2.2.2.2.2.1) s.2.2.2.2.2.2.2.2.2.2.2.2.2.2.2.2.2.2.2.2.2.2.2.2.2.2.2.2.2.2.2.2.2.2.2.2.2.2.2.2.2.2.2.2.2.2.2.2.2.2.2.2.2.1))).bind fun n4=>
  some (.done (aY.mk s.2.2.2.2.2.2.2.2.2.2.2.2.2.2.2.2.2.2.2.2.2.2.2.2.2.2.2.2.2.2.2.2.2.2.2.2.2.2.2.2.2.2.2.2.2.2.2.2.2.2.2.2.2.2.2.2.2.2.2.2.2.2.2.2.2.2.2.2.2.2.2.1 (bH.mk (aG.mk (s.2.2.2.2.2.2.2.2.2.2.2.2.2.2.2.2.2.2.2.2.2.2.2.2.2.2.2.2.2.2.2.2.2.2.2.2.2.2.2.2.2.2.2.2.2.2.2.2.2.2.2.2.2.2.2.2.2.2.2.2.2.2.2.2.2.2.2.2.2.2.2.2.1,s.2.2.2.2.2.2.2.2.2.2.2.2.2.2.2.2.2.2.2.2.2.2.2.2.2.2.2.2.2.2.2.2.2.2.2.2.2.2.2.2.2.2.2.2.2.2.2.2.2.2.2.2.2.2.2.2.2.2.2.2.2.2.2.2.2.2.2.2.2.2.2.2.2.1) (Field.mk s.2.2.2.2.2.2.2.2.2.2.2.2.2.2.2.2.2.2.2.2.2.2.2.2.2.2.2.2.2.2.2.2.2.2.2.2.2.2.2.2.2.2.2.2.2.2.2.2.2.2.2.2.2.2.2.2.2.2.2.2.2.2.2.2.2.2.2.2.2.2.2.2.2.2.1) (aI.mk s.2.2.2.2.2.2.2.2.2.2.2.2.2.2.2.2.2.2.2.2.2.2.2.2.2.2.2.2.2.2.2.2.2.2.2.2.2.2.2.2.2.2.2.2.2.2.2.2.2.2.2.2.2.2.2.2.2.2.2.2.2.2.2.2.2.2.2.2.2.2.2.2.2.2.2.1 s.2.2.2.2.2.2.2.2.2.2.2.2.2.2.2.2.2.2.2.2.2.2.2.2.2.2.2.2.2.2.2.2.2.2.2.2.2.2.2.2.2.2.2.2.2.2.2.2.2.2.2.2.2.2.2.2.2.2.2.2.2.2.2.2.2.2.2.2.2.2.2.2.2.2.2.2.1) (aE.mk (aH.mk s.2.2.2.2.2.2.2.2.2.2.2.2.2.2.2.2.2.2.2.2.2.2.2.2.2.2.2.2.2.2.2.2.2.2.2.2.2.2.2.2.2.2.2.2.2.2.2.2.2.2.2.2.2.2.2.2.2.2.2.2.2.2.2.2.2.2.2.2.2.2.2.2.2.2.2.2.2.1 s.2.2.2.2.2.2.2.2.2.2.2.2.2.2.2.2.2.2.2.2.2.2.2.2.2.2.2.2.2.2.2.2.2.2.2.2.2.2.2.2.2.2.2.2.2.2.2.2.2.2.2.2.2.2.2.2.2.2.2.2.2.2.2.2.2.2.2.2.2.2.2.2.2.2.2.2.2.2.1 s.2.2.2.2.2.2.2.2.2.2.2.2.2.2.2.2.2.2.2.2.2.2.2.2.2.2.2.2.2.2.2.2.2.2.2.2.2.2.2.2.2.2.2.2.2.2.2.2.2.2.2.2.2.2.2.2.2.2.2.2.2.2.2.2.2.2.2.2.2.2.2.2.2.2.2.2.2.2.2.1) s.2.2.2.2.2.2.2.2.2.2.2.2.2.2.2.2.2.2.2.2.2.2.2.2.2.2.2.2.2.2.2.2.2.2.2.2.2.2.2.2.2.2.2.2.2.2.2.2.2.2.2.2.2.2.2.2.2.2.2.2.2.2.2.2.2.2.2.2.2.2.2.2.2.2.2.2.2.2.2.2.1 s.2.2.2.2.2.2.2.2.2.2.2.2.2.2.2.2.2.2.2.2.2.2.2.2.2.2.2.2.2.2.2.2.2.2.2.2.2.2.2.2.2.2.2.2.2.2.2.2.2.2.2.2.2.2.2.2.2.2.2.2.2.2.2.2.2.2.2.2.2.2.2.2.2.2.2.2.2.2.2.2.2.1) s.2.2.2.2.2.2.2.2.2.2.2.2.2.2.2.2.2.2.2.2.2.2.2.2.2.2.2.2.2.2.2.2.2.2.2.2.2.2.2.2.2.2.2.2.2.2.2.2.2.2.2.2.2.2.2.2.2.2.2.2.2.2.2.2.2.2.2.2.2.2.2.2.2.2.2.2.2.2.2.2.2.2.1) s.2.2.2.2.2.2.2.2.2.2.2.2.2.2.2.2.2.2.2.2.2.2.2.2.2.2.2.2.2.2.2.2.2.2.2.2.2.2.2.2.2.2.2.2.2.2.2.2.2.2.2.2.2.2.2.2.2.2.2.2.2.2.2.2.2.2.2.2.2.2.2.2.2.2.2.2.2.2.2.2.2.2.2.1) (bC.mk (aG.mk (s.2.2.2.2.2.2.2.2.2.2.2.2.2.2.2.2.2.2.2.2.2.2.2.2.2.2.2.2.2.2.2.2.2.2.2.2.2.2.2.2.2.2.2.2.2.2.2.2.2.2.2.2.2.2.2.2.2.2.2.2.2.2.2.2.2.2.2.2.2.2.2.2.2.2.2.2.2.2.2.2.2.2.2.2.1,s.2.2.2.2.2.2.2.2.2.2.2.2.2.2.2.2.2.2.2.2.2.2.2.2.2.2.2.2.2.2.2.2.2.2.2.2.2.2.2.2.2.2.2.2.2.2.2.2.2.2.2.2.2.2.2.2.2.2.2.2.2.2.2.2.2.2.2.2.2.2.2.2.2.2.2.2.2.2.2.2.2.2.2.2.2.1) (Field.mk s.2.2.2.2.2.2.2.2.2.2.2.2.2.2.2.2.2.2.2.2.2.2.2.2.2.2.2.2.2.2.2.2.2.2.2.2.2.2.2.2.2.2.2.2.2.2.2.2.2.2.2.2.2.2.2.2.2.2.2.2.2.2.2.2.2.2.2.2.2.2.2.2.2.2.2.2.2.2.2.2.2.2.2.2.2.2.1) (aI.mk s.2.2.2.2.2.2.2.2.2.2.2.2.2.2.2.2.2.2.2.2.2.2.2.2.2.2.2.2.2.2.2.2.2.2.2.2.2.2.2.2.2.2.2.2.2.2.2.2.2.2.2.2.2.2.2.2.2.2.2.2.2.2.2.2.2.2.2.2.2.2.2.2.2.2.2.2.2.2.2.2.2.2.2.2.2.2.2.1 s.2.2.2.2.2.2.2.2.2.2.2.2.2.2.2.2.2.2.2.2.2.2.2.2.2.2.2.2.2.2.2.2.2.2.2.2.2.2.2.2.2.2.2.2.2.2.2.2.2.2.2.2.2.2.2.2.2.2.2.2.2.2.2.2.2.2.2.2.2.2.2.2.2.2.2.2.2.2.2.2.2.2.2.2.2.2.2.2.1) (aE.mk (aH.mk s.2.2.2.2.2.2.2.2.2.2.2.2.2.2.2.2.2.2.2.2.2.2.2.2.2.2.2.2.2.2.2.2.2.2.2.2.2.2.2.2.2.2.2.2.2.2.2.2.2.2.2.2.2.2.2.2.2.2.2.2.2.2.2.2.2.2.2.2.2.2.2.2.2.2.2.2.2.2.2.2.2.2.2.2.2.2.2.2.2.1 s.2.2.2.2.2.2.2.2.2.2.2.2.2.2.2.2.2.2.2.2.2.2.2.2.2.2.2.2.2.2.2.2.2.2.2.2.2.2.2.2.2.2.2.2.2.2.2.2.2.2.2.2.2.2.2.2.2.2.2.2.2.2.2.2.2.2.2.2.2.2.2.2.2.2.2.2.2.2.2.2.2.2.2.2.2.2.2.2.2.2.1 s.2.2.2.2.2.2.2.2.2.2.2.2.2.2.2.2.2.2.2.2.2.2.2.2.2.2.2.2.2.2.2.2.2.2.2.2.2.2.2.2.2.2.2.2.2.2.2.2.2.2.2.2.2.2.2.2.2.2.2.2.2.2.2.2.2.2.2.2.2.2.2.2.2.2.2.2.2.2.2.2.2.2.2.2.2.2.2.2.2.2.2.1) s.2.2.2.2.2.2.2.2.2.2.2.2.2.2.2.2.2.2.2.2.2.2.2.2.2.2.2.2.2.2.2.2.2.2.2.2.2.2.2.2.2.2.2.2.2.2.2.2.2.2.2.2.2.2.2.2.2.2.2.2.2.2.2.2.2.2.2.2.2.2.2.2.2.2.2.2.2.2.2.2.2.2.2.2.2.2.2.2.2.2.2.2.1 s.2.2.2.2.2.2.2.2.2.2.2.2.2.2.2.2.2.2.2.2.2.2.2.2.2.2.2.2.2.2.2.2.2.2.2.2.2.2.2.2.2.2.2.2.2.2.2.2.2.2.2.2.2.2.2.2.2.2.2.2.2.2.2.2.2.2.2.2.2.2.2.2.2.2.2.2.2.2.2.2.2.2.2.2.2.2.2.2.2.2.2.2.2.1) s.2.2.2.2.2.2.2.2.2.2.2.2.2.2.2.2.2.2.2.2.2.2.2.2.2.2.2.2.2.2.2.2.2.2.2.2.2.2.2.2.2.2.2.2.2.2.2.2.2.2.2.2.2.2.2.2.2.2.2.2.2.2.2.2.2.2.2.2.2.2.2.2.2.2.2.2.2.2.2.2.2.2.2.2.2.2.2.2.2.2.2.2.2.2.1) (aQ.mk s.2.2.2.2.2.2.2.2.2.2.2.2.2.2.2.2.2.2.2.2.2.2.2.2.2.2.2.2.2.2.2.2.2.2.2.2.2.2.2.2.2.2.2.2.2.2.2.2.2.2.2.2.2.2.2.2.2.2.2.2.2.2.2.2.2.2.2.2.2.2.2.2.2.2.2.2.2.2.2.2.2.2.2.2.2.2.2.2.2.2.2.2.2.2.2.1 s.2.2.2.2.2.2.2.2.2.2.2.2.2.2.2.2.2.2.2.2.2.2.2.2.2.2.2.2.2.2.2.2.2.2.2.2.2.2.2.2.2.2.2.2.2.2.2.2.2.2.2.2.2.2.2.2.2.2.2.2.2.2.2.2.2.2.2.2.2.2.2.2.2.2.2.2.2.2.2.2.2.2.2.2.2.2.2.2.2.2.2.2.2.2.2.2.1)) (aW.mk (aG.mk (s.2.2.2.2.2.2.2.2.2.2.2.2.2.2.2.2.2.2.2.2.2.2.2.2.2.2.2.2.2.2.2.2.2.2.2.2.2.2.2.2.2.2.2.2.2.2.2.2.2.2.2.2.2.2.2.2.2.2.2.2.2.2.2.2.2.2.2.2.2.2.2.2.2.2.2.2.2.2.2.2.2.2.2.2.2.2.2.2.2.2.2.2.2.2.2.2.2.1,s.2.2.2.2.2.2.2.2.2.2.2.2.2.2.2.2.2.2.2.2.2.2.2.2.2.2.2.2.2.2.2.2.2.2.2.2.2.2.2.2.2.2.2.2.2.2.2.2.2.2.2.2.2.2.2.2.2.2.2.2.2.2.2.2.2.2.2.2.2.2.2.2.2.2.2.2.2.2.2.2.2.2.2.2.2.2.2.2.2.2.2.2.2.2.2.2.2.2.1) (Field.mk s.2.2.2.2.2.2.2.2.2.2.2.2.2.2.2.2.2.2.2.2.2.2.2.2.2.2.2.2.2.2.2.2.2.2.2.2.2.2.2.2.2.2.2.2.2.2.2.2.2.2.2.2.2.2.2.2.2.2.2.2.2.2.2.2.2.2.2.2.2.2.2.2.2.2.2.2.2.2.2.2.2.2.2.2.2.2.2.2.2.2.2.2.2.2.2.2.2.2.2.1) (aI.mk s.2.2.2.2.2.2.2.2.2.2.2.2.2.2.2.2.2.2.2.2.2.2.2.2.2.2.2.2.2.2.2.2.2.2.2.2.2.2.2.2.2.2.2.2.2.2.2.2.2.2.2.2.2.2.2.2.2.2.2.2.2.2.2.2.2.2.2.2.2.2.2.2.2.2.2.2.2.2.2.2.2.2.2.2.2.2.2.2.2.2.2.2.2.2.2.2.2.2.2.2.1 s.2.2.2.2.2.2.2.2.2.2.2.2.2.2.2.2.2.2.2.2.2.2.2.2.2.2.2.2.2.2.2.2.2.2.2.2.2.2.2.2.2.2.2.2.2.2.2.2.2.2.2.2.2.2.2.2.2.2.2.2.2.2.2.2.2.2.2.2.2.2.2.2.2.2.2.2.2.2.2.2.2.2.2.2.2.2.2.2.2.2.2.2.2.2.2.2.2.2.2.2.2.1) (aE.mk (aH.mk s.2.2.2.2.2.2.2.2.2.2.2.2.2.2.2.2.2.2.2.2.2.2.2.2.2.2.2.2.2.2.2.2.2.2.2.2.2.2.2.2.2.2.2.2.2.2.2.2.2.2.2.2.2.2.2.2.2.2.2.2.2.2.2.2.2.2.2.2.2.2.2.2.2.2.2.2.2.2.2.2.2.2.2.2.2.2.2.2.2.2.2.2.2.2.2.2.2.2.2.2.2.2.1 s.2.2.2.2.2.2.2.2.2.2.2.2.2.2.2.2.2.2.2.2.2.2.2.2.2.2.2.2.2.2.2.2.2.2.2.2.2.2.2.2.2.2.2.2.2.2.2.2.2.2.2.2.2.2.2.2.2.2.2.2.2.2.2.2.2.2.2.2.2.2.2.2.2.2.2.2.2.2.2.2.2.2.2.2.2.2.2.2.2.2.2.2.2.2.2.2.2.2.2.2.2.2.2.1 s.2.2.2.2.2.2.2.2.2.2.2.2.2.2.2.2.2.2.2.2.2.2.2.2.2.2.2.2.2.2.2.2.2.2.2.2.2.2.2.2.2.2.2.2.2.2.2.2.2.2.2.2.2.2.2.2.2.2.2.2.2.2.2.2.2.2.2.2.2.2.2.2.2.2.2.2.2.2.2.2.2.2.2.2.2.2.2.2.2.2.2.2.2.2.2.2.2.2.2.2.2.2.2.2.1) s.2.2.2.2.2.2.2.2.2.2.2.2.2.2.2.2.2.2.2.2.2.2.2.2.2.2.2.2.2.2.2.2.2.2.2.2.2.2.2.2.2.2.2.2.2.2.2.2.2.2.2.2.2.2.2.2.2.2.2.2.2.2.2.2.2.2.2.2.2.2.2.2.2.2.2.2.2.2.2.2.2.2.2.2.2.2.2.2.2.2.2.2.2.2.2.2.2.2.2.2.2.2.2.2.2.1 s.2.2.2.2.2.2.2.2.2.2.2.2.2.2.2.2.2.2.2.2.2.2.2.2.2.2.2.2.2.2.2.2.2.2.2.2.2.2.2.2.2.2.2.2.2.2.2.2.2.2.2.2.2.2.2.2.2.2.2.2.2.2.2.2.2.2.2.2.2.2.2.2.2.2.2.2.2.2.2.2.2.2.2.2.2.2.2.2.2.2.2.2.2.2.2.2.2.2.2.2.2.2.2.2.2.2.1) s.2.2.2.2.2.2.2.2.2.2.2.2.2.2.2.2.2.2.2.2.2.2.2.2.2.2.2.2.2.2.2.2.2.2.2.2.2.2.2.2.2.2.2.2.2.2.2.2.2.2.2.2.2.2.2.2.2.2.2.2.2.2.2.2.2.2.2.2.2.2.2.2.2.2.2.2.2.2.2.2.2.2.2.2.2.2.2.2.2.2.2.2.2.2.2.2.2.2.2.2.2.2.2.2.2.2.2.1) (cK.mk s.2.2.2.2.2.2.2.2.2.2.2.2.2.2.2.2.2.2.2.2.2.2.2.2.2.2.2.2.2.2.2.2.2.2.2.2.2.2.2.2.2.2.2.2.2.2.2.2.2.2.2.2.2.2.2.2.2.2.2.2.2.2.2.2.2.2.2.2.2.2.2.2.2.2.2.2.2.2.2.2.2.2.2.2.2.2.2.2.2.2.2.2.2.2.2.2.2.2.2.2.2.2.2.2.2.2.2.2.1 s.2.2.2.2.2.2.2.2.2.2.2.2.2.2.2.2.2.2.2.2.2.2.2.2.2.2.2.2.2.2.2.2.2.2.2.2.2.2.2.2.2.2.2.2.2.2.2.2.2.2.2.2.2.2.2.2.2.2.2.2.2.2.2.2.2.2.2.2.2.2.2.2.2.2.2.2.2.2.2.2.2.2.2.2.2.2.2.2.2.2.2.2.2.2.2.2.2.2.2.2.2.2.2.2.2.2.2.2.2.1)) (bA.mk (aG.mk (s.2.2.2.2.2.2.2.2.2.2.2.2.2.2.2.2.2.2.2.2.2.2.2.2.2.2.2.2.2.2.2.2.2.2.2.2.2.2.2.2.2.2.2.2.2.2.2.2.2.2.2.2.2.2.2.2.2.2.2.2.2.2.2.2.2.2.2.2.2.2.2.2.2.2.2.2.2.2.2.2.2.2.2.2.2.2.2.2.2.2.2.2.2.2.2.2.2.2.2.2.2.2.2.2.2.2.2.2.2.2.1,s.2.2.2.2.2.2.2.2.2.2.2.2.2.2.2.2.2.2.2.2.2.2.2.2.2.2.2.2.2.2.2.2.2.2.2.2.2.2.2.2.2.2.2.2.2.2.2.2.2.2.2.2.2.2.2.2.2.2.2.2.2.2.2.2.2.2.2.2.2.2.2.2.2.2.2.2.2.2.2.2.2.2.2.2.2.2.2.2.2.2.2.2.2.2.2.2.2.2.2.2.2.2.2.2.2.2.2.2.2.2.2.1) (Field.mk s.2.2.2.2.2.2.2.2.2.2.2.2.2.2.2.2.2.2.2.2.2.2.2.2.2.2.2.2.2.2.2.2.2.2.2.2.2.2.2.2.2.2.2.2.2.2.2.2.2.2.2.2.2.2.2.2.2.2.2.2.2.2.2.2.2.2.2.2.2.2.2.2.2.2.2.2.2.2.2.2.2.2.2.2.2.2.2.2.2.2.2.2.2.2.2.2.2.2.2.2.2.2.2.2.2.2.2.2.2.2.2.2.1) (aI.mk s.2.2.2.2.2.2.2.2.2.2.2.2.2.2.2.2.2.2.2.2.2.2.2.2.2.2.2.2.2.2.2.2.2.2.2.2.2.2.2.2.2.2.2.2.2.2.2.2.2.2.2.2.2.2.2.2.2.2.2.2.2.2.2.2.2.2.2.2.2.2.2.2.2.2.2.2.2.2.2.2.2.2.2.2.2.2.2.2.2.2.2.2.2.2.2.2.2.2.2.2.2.2.2.2.2.2.2.2.2.2.2.2.2.1 s.2.2.2.2.2.2.2.2.2.2.2.2.2.2.2.2.2.2.2.2.2.2.2.2.2.2.2.2.2.2.2.2.2.2.2.2.2.2.2.2.2.2.2.2.2.2.2.2.2.2.2.2.2.2.2.2.2.2.2.2.2.2.2.2.2.2.2.2.2.2.2.2.2.2.2.2.2.2.2.2.2.2.2.2.2.2.2.2.2.2.2.2.2.2.2.2.2.2.2.2.2.2.2.2.2.2.2.2.2.2.2.2.2.2.1) (aE.mk (aH.mk s.2.2.2.2.2.2.2.2.2.2.2.2.2.2.2.2.2.2.2.2.2.2.2.2.2.2.2.2.2.2.2.2.2.2.2.2.2.2.2.2.2.2.2.2.2.2.2.2.2.2.2.2.2.2.2.2.2.2.2.2.2.2.2.2.2.2.2.2.2.2.2.2.2.2.2.2.2.2.2.2.2.2.2.2.2.2.2.2.2.2.2.2.2.2.2.2.2.2.2.2.2.2.2.2.2.2.2.2.2.2.2.2.2.2.2.1 s.2.2.2.2.2.2.2.2.2.2.2.2.2.2.2.2.2.2.2.2.2.2.2.2.2.2.2.2.2.2.2.2.2.2.2.2.2.2.2.2.2.2.2.2.2.2.2.2.2.2.2.2.2.2.2.2.2.2.2.2.2.2.2.2.2.2.2.2.2.2.2.2.2.2.2.2.2.2.2.2.2.2.2.2.2.2.2.2.2.2.2.2.2.2.2.2.2.2.2.2.2.2.2.2.2.2.2.2.2.2.2.2.2.2.2.2.1 s.2.2.2.2.2.2.2.2.2.2.2.2.2.2.2.2.2.2.2.2.2.2.2.2.2.2.2.2.2.2.2.2.2.2.2.2.2.2.2.2.2.2.2.2.2.2.2.2.2.2.2.2.2.2.2.2.2.2.2.2.2.2.2.2.2.2.2.2.2.2.2.2.2.2.2.2.2.2.2.2.2.2.2.2.2.2.2.2.2.2.2.2.2.2.2.2.2.2.2.2.2.2.2.2.2.2.2.2.2.2.2.2.2.2.2.2.2.1) s.2.2.2.2.2.2.2.2.2.2.2.2.2.2.2.2.2.2.2.2.2.2.2.2.2.2.2.2.2.2.2.2.2.2.2.2.2.2.2.2.2.2.2.2.2.2.2.2.2.2.2.2.2.2.2.2.2.2.2.2.2.2.2.2.2.2.2.2.2.2.2.2.2.2.2.2.2.2.2.2.2.2.2.2.2.2.2.2.2.2.2.2.2.2.2.2.2.2.2.2.2.2.2.2.2.2.2.2.2.2.2.2.2.2.2.2.2.2.1 s.2.2.2.2.2.2.2.2.2.2.2.2.2.2.2.2.2.2.2.2.2.2.2.2.2.2.2.2.2.2.2.2.2.2.2.2.2.2.2.2.2.2.2.2.2.2.2.2.2.2.2.2.2.2.2.2.2.2.2.2.2.2.2.2.2.2.2.2.2.2.2.2.2.2.2.2.2.2.2.2.2.2.2.2.2.2.2.2.2.2.2.2.2.2.2.2.2.2.2.2.2.2.2.2.2.2.2.2.2.2.2.2.2.2.2.2.2.2.2.1) s.2.2.2.2.2.2.2.2.2.2.2.2.2.2.2.2.2.2.2.2.2.2.2.2.2.2.2.2.2.2.2.2.2.2.2.2.2.2.2.2.2.2.2.2.2.2.2.2.2.2.2.2.2.2.2.2.2.2.2.2.2.2.2.2.2.2.2.2.2.2.2.2.2.2.2.2.2.2.2.2.2.2.2.2.2.2.2.2.2.2.2.2.2.2.2.2.2.2.2.2.2.2.2.2.2.2.2.2.2.2.2.2.2.2.2.2.2.2.2.2.1) s.2.2.2.2.2.2.2.2.2.2.2.2.2.2.2.2.2.2.2.2.2.2.2.2.2.2.2.2.2.2.2.2.2.2.2.2.2.2.2.2.2.2.2.2.2.2.2.2.2.2.2.2.2.2.2.2.2.2.2.2.2.2.2.2.2.2.2.2.2.2.2.2.2.2.2.2.2.2.2.2.2.2.2.2.2.2.2.2.2.2.2.2.2.2.2.2.2.2.2.2.2.2.2.2.2.2.2.2.2.2.2.2.2.2.2.2.2.2.2.2.2.1),(s.2.2.2.2.2.2.2.2.2.2.2.2.2.2.2.2.2.2.2.2.2.2.2.2.2.2.2.2.2.2.2.2.2.2.2.2.2.2.2.2.2.2.2.2.2.2.2.2.2.2.2.2.2.2.2.2.2.2.2.2.2.2.2.2.2.2.2.2.2.2.2.2.2.2.2.2.2.2.2.2.2.2.2.2.2.2.2.2.2.2.2.2.2.2.2.2.2.2.2.2.2.2.2.2.2.2.2.2.2.2.2.2.2.2.2.2.2.2.2.2.2.2.1,aA .i64 (n3-n4),s.2.2.2.2.2.2.2.2.2.2.2.2.2.2.2.2.2.2.2.2.2.2.2.2.2.2.2.2.2.2.2.2.2.2.2.2.2.2.2.2.2.2.2.2.2.2.2.2.2.2.2.2.2.2.2.2.2.2.2.2.2.2.2.2.2.2.2.2.2.2.2.2.2.2.2.2.2.2.2.2.2.2.2.2.2.2.2.2.2.2.2.2.2.2.2.2.2.2.2.2.2.2.2.2.2.2.2.2.2.2.2.2.2.2.2.2.2.2.2.2.2.2.2.2),0))
def pU (N:Nat) (p0:aY) (p1:List (Int×Int×Int×Int×Int×Int×Int)):Option (aY×(Int×Int×Int)×Int):=
 ((zD N) p0).bind fun a0=>
 bif a0.2.2 !=0 then
  some (aY.mk 0 (bH.mk (aG.mk (0,0) (Field.mk []) (aI.mk 0 []) (aE.mk (aH.mk [] [] []) [] []) []) []) (bC.mk (aG.mk (0,0) (Field.mk []) (aI.mk 0 []) (aE.mk (aH.mk [] [] []) [] []) []) (aQ.mk [] [])) (aW.mk (aG.mk (0,0) (Field.mk []) (aI.mk 0 []) (aE.mk (aH.mk [] [] []) [] []) []) (cK.mk 0 [])) (bA.mk (aG.mk (0,0) (Field.mk []) (aI.mk 0 []) (aE.mk (aH.mk [] [] []) [] []) []) []),(0,0,0),a0.2.2)
 else
  bif decide (120<(aa p1.length)) then
   some (aY.mk 0 (bH.mk (aG.mk (0,0) (Field.mk []) (aI.mk 0 []) (aE.mk (aH.mk [] [] []) [] []) []) []) (bC.mk (aG.mk (0,0) (Field.mk []) (aI.mk 0 []) (aE.mk (aH.mk [] [] []) [] []) []) (aQ.mk [] [])) (aW.mk (aG.mk (0,0) (Field.mk []) (aI.mk 0 []) (aE.mk (aH.mk [] [] []) [] []) []) (cK.mk 0 [])) (bA.mk (aG.mk (0,0) (Field.mk []) (aI.mk 0 []) (aE.mk (aH.mk [] [] []) [] []) []) []),(0,0,0),4)
  else
   ((oK N) p0 a0.1).bind fun a1=>
   ((oL N) p0).bind fun n2=>
   (aO N) (IR N) (p1,aa p1.length,0,p0.tag,p0.heap.clock.now.1,p0.heap.clock.now.2,p0.heap.clock.field.points,p0.heap.clock.certs.next_,p0.heap.clock.certs.list,p0.heap.clock.agenda.slots.uses,p0.heap.clock.agenda.slots.used,p0.heap.clock.agenda.slots.free,p0.heap.clock.agenda.heap,p0.heap.clock.agenda.where_,p0.heap.clock.due,p0.heap.heap,p0.tourn.clock.now.1,p0.tourn.clock.now.2,p0.tourn.clock.field.points,p0.tourn.clock.certs.next_,p0.tourn.clock.certs.list,p0.tourn.clock.agenda.slots.uses,p0.tourn.clock.agenda.slots.used,p0.tourn.clock.agenda.slots.free,p0.tourn.clock.agenda.heap,p0.tourn.clock.agenda.where_,p0.tourn.clock.due,p0.tourn.bracket.places,p0.tourn.bracket.wins,p0.heater.clock.now.1,p0.heater.clock.now.2,p0.heater.clock.field.points,p0.heater.clock.certs.next_,p0.heater.clock.certs.list,p0.heater.clock.agenda.slots.uses,p0.heater.clock.agenda.slots.used,p0.heater.clock.agenda.slots.free,p0.heater.clock.agenda.heap,p0.heater.clock.agenda.where_,p0.heater.clock.due,p0.heater.tree.root,p0.heater.tree.nodes,p0.hanger.clock.now.1,p0.hanger.clock.now.2,p0.hanger.clock.field.points,p0.hanger.clock.certs.next_,p0.hanger.clock.certs.list,p0.hanger.clock.agenda.slots.uses,p0.hanger.clock.agenda.slots.used,p0.hanger.clock.agenda.slots.free,p0.hanger.clock.agenda.heap,p0.hanger.clock.agenda.where_,p0.hanger.clock.due,p0.hanger.up,0,0,0,0,0,0,0,0,0,0,0,0,0,0,0,0,0,a1.1.tag,a1.1.heap.clock.now.1,a1.1.heap.clock.now.2,a1.1.heap.clock.field.points,a1.1.heap.clock.certs.next_,a1.1.heap.clock.certs.list,a1.1.heap.clock.agenda.slots.uses,a1.1.heap.clock.agenda.slots.used,a1.1.heap.clock.agenda.slots.free,a1.1.heap.clock.agenda.heap,a1.1.heap.clock.agenda.where_,a1.1.heap.clock.due,a1.1.heap.heap,a1.1.tourn.clock.now.1,a1.1.tourn.clock.now.2,a1.1.tourn.clock.field.points,a1.1.tourn.clock.certs.next_,a1.1.tourn.clock.certs.list,a1.1.tourn.clock.agenda.slots.uses,a1.1.tourn.clock.agenda.slots.used,a1.1.tourn.clock.agenda.slots.free,a1.1.tourn.clock.agenda.heap,a1.1.tourn.clock.agenda.where_,a1.1.tourn.clock.due,a1.1.tourn.bracket.places,a1.1.tourn.bracket.wins,a1.1.heater.clock.now.1,a1.1.heater.clock.now.2,a1.1.heater.clock.field.points,a1.1.heater.clock.certs.next_,a1.1.heater.clock.certs.list,a1.1.heater.clock.agenda.slots.uses,a1.1.heater.clock.agenda.slots.used,a1.1.heater.clock.agenda.slots.free,a1.1.heater.clock.agenda.heap,a1.1.heater.clock.agenda.where_,a1.1.heater.clock.due,a1.1.heater.tree.root,a1.1.heater.tree.nodes,a1.1.hanger.clock.now.1,a1.1.hanger.clock.now.2,a1.1.hanger.clock.field.points,a1.1.hanger.clock.certs.next_,a1.1.hanger.clock.certs.list,a1.1.hanger.clock.agenda.slots.uses,a1.1.hanger.clock.agenda.slots.used,a1.1.hanger.clock.agenda.slots.free,a1.1.hanger.clock.agenda.heap,a1.1.hanger.clock.agenda.where_,a1.1.hanger.clock.due,a1.1.hanger.up,0,0,n2)
def c18 (N:Nat):aV:=⟨aC.cons (aF.agg cI) (aC.one (aF.sl PE)),aF.tup (aC.cons (aF.agg cI) (aC.cons (aF.agg (bE.row bO)) (aC.one (aF.int .i64)))),fun a=>(pU N) a.1 a.2,.frz,false⟩
theorem aRA (N:Nat):aB tab 18 (c18 N):=aB.of aP3 (cx:=(aN (aK N) [(49,(c49 N)),(26,(c26 N)),(50,(c50 N)),(51,(c51 N)),(52,(c52 N))] [] [] [])) rfl (aM.make ⟨(aAb N),(aAk N),(aRq N),(aRy N),(aRz N),trivial⟩ trivial trivial) (fun a=>by kernel_rfl)
def IS (_:Nat) (p0:Int):Option (Int×Int):=
 some (p0,1)
def c11 (N:Nat):aV:=⟨aC.one (aF.int .i64),aF.agg (bE.row cM),fun a=>(IS N) a,.pure,false⟩
theorem aRB (N:Nat):aB tab 11 (c11 N):=aB.of aP0 (cx:=(aN (aK N) [] [] [] [])) rfl (aM.make trivial trivial trivial) (fun a=>by kernel_rfl)
def DZ (_:Nat) (p0:Int×Int×Int):Option Int:=
 bif decide (p0.1<0) then
  some 8
 else
  bif decide (65535<p0.1) then
   some 8
  else
   bif decide (p0.2.1<(-1048576)) then
    some 8
   else
    bif decide (1048576<p0.2.1) then
     some 8
    else
     bif decide (p0.2.2<(-1048576)) then
      some 8
     else
      bif decide (1048576<p0.2.2) then
       some 8
      else
       some 0
def aTL (N:Nat):aV:=⟨aC.one (aF.agg (bE.row bO)),aF.int .i64,fun a=>(DZ N) a,.pure,false⟩
theorem aJW (N:Nat):aB tab 213 (aTL N):=aB.of aGr (cx:=(aN (aK N) [] [] [] [])) rfl (aM.make trivial trivial trivial) (fun a=>by kernel_rfl)
def IT (_:Nat) (s:(Int×(List (Int×Int×Int)))):Option (aS (Int×(List (Int×Int×Int))) (aS (Int×(List (Int×Int×Int))) Int)):=
 bif decide (s.1<(aa s.2.length)) then
  (aL s.2 (aA .i64 (s.1-1))).bind fun a0=>
  (aL s.2 s.1).bind fun a1=>
  bif decide (a1.1<=a0.1) then
   some (.done (.done 32))
  else
   some (.next (aA .i64 (s.1+1),s.2))
 else
  some (.done (.done 0))
end
end Go.Proofs.YtclphlgnjkajbaaGreat
