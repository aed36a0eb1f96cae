/- Plain functions for what the functions of the seat compute. Printed by a program. -/
import Derived.Test.YtclphlgnjkajbaaGreatNVm3
import Derived.Test.YtclphlgnjkajbaaGreatNAXT
import Derived.Test.YtclphlgnjkajbaaGreatNAS2
open Int renaming ofNat->aa,tdiv->ac,tmod->ae
set_option maxRecDepth 100000
namespace Go.Proofs.YtclphlgnjkajbaaGreat
open Go.Vm
noncomputable section
def IU (N:Nat) (s:(Int×(List (Int×Int×Int)))):Option (aS (Int×(List (Int×Int×Int))) Int):=
 bif decide (s.1<(aa s.2.length)) then
  (aL s.2 s.1).bind fun a0=>
  ((DZ N) a0).bind fun n1=>
  bif n1 !=0 then
   some (.done 8)
  else
   some (.next (aA .i64 (s.1+1),s.2))
 else
  (aO N) (IT N) (1,s.2)
def fY (N:Nat) (p0:Field):Option Int:=
 bif decide (64<(aa p0.points.length)) then
  some 4
 else
  (aO N) (IU N) (0,p0.points)
def aAp (N:Nat):aV:=⟨aC.one (aF.agg aT),aF.int .i64,fun a=>(fY N) a,.pure,false⟩
theorem FC (N:Nat):aB tab 115 (aAp N):=aB.of aFu (cx:=(aN (aK N) [(213,(aTL N))] [] [] [])) rfl (aM.make ⟨(aJW N),trivial⟩ trivial trivial) (fun a=>by kernel_rfl)
def gD (_:Nat) (p0:Int):Option Int:=
 bif decide (p0<0) then
  some (aA .u64 ((aA .u64 (aA .i64 (0- (aA .i64 (p0+1)))))+1))
 else
  some (aA .u64 p0)
def aJX (N:Nat):aV:=⟨aC.one (aF.int .i64),aF.int .u64,fun a=>(gD N) a,.pure,false⟩
theorem NL (N:Nat):aB tab 215 (aJX N):=aB.of aGt (cx:=(aN (aK N) [] [] [] [])) rfl (aM.make trivial trivial trivial) (fun a=>by kernel_rfl)
def ES (_:Nat) (s:(Int×Int)):Option (aS (Int×Int) Int):=
 bif s.2 !=0 then
  bif s.2==0 then
   none
  else
   some (.next (s.2,ae s.1 s.2))
 else
  some (.done s.1)
def sU (N:Nat) (p0:Int) (p1:Int):Option Int:=
 (aO N) (ES N) (p0,p1)
def aRC (N:Nat):aV:=⟨aC.cons (aF.int .u64) (aC.one (aF.int .u64)),aF.int .u64,fun a=>(sU N) a.1 a.2,.pure,false⟩
theorem VA (N:Nat):aB tab 214 (aRC N):=aB.of aGs (cx:=(aN (aK N) [] [] [] [])) rfl (aM.make trivial trivial trivial) (fun a=>by kernel_rfl)
def iZ (N:Nat) (p0:Int×Int):Option Int:=
 bif decide (p0.2<1) then
  some 8
 else
  bif p0.1==(-9223372036854775808) then
   some 8
  else
   ((gD N) p0.1).bind fun n0=>
   ((sU N) n0 (aA .u64 p0.2)).bind fun n1=>
   bif n1 !=1 then
    some 8
   else
    some 0
def XH (N:Nat):aV:=⟨aC.one (aF.agg (bE.row cM)),aF.int .i64,fun a=>(iZ N) a,.pure,false⟩
theorem BH (N:Nat):aB tab 116 (XH N):=aB.of aFv (cx:=(aN (aK N) [(215,(aJX N)),(214,(aRC N))] [] [] [])) rfl (aM.make ⟨(NL N),(VA N),trivial⟩ trivial trivial) (fun a=>by kernel_rfl)
def QS (_:Nat) (s:(Int×Int×(List (Int×Int×Int)))):Option (aS (Int×Int×(List (Int×Int×Int))) Int):=
 bif decide (s.2.1<(aa s.2.2.length)) then
  (aL s.2.2 s.2.1).bind fun a0=>
  bif a0.1==s.1 then
   some (.done s.2.1)
  else
   some (.next (s.1,aA .i64 (s.2.1+1),s.2.2))
 else
  some (.done (-1))
def mR (N:Nat) (p0:Field) (p1:Int):Option Int:=
 (aO N) (QS N) (p1,0,p0.points)
def aAq (N:Nat):aV:=⟨aC.cons (aF.agg aT) (aC.one (aF.int .i64)),aF.int .i64,fun a=>(mR N) a.1 a.2,.pure,false⟩
theorem FD (N:Nat):aB tab 124 (aAq N):=aB.of aFC (cx:=(aN (aK N) [] [] [] [])) rfl (aM.make trivial trivial trivial) (fun a=>by kernel_rfl)
def xX (_:Nat) (p0:Int) (p1:Int):Option (Bool×Int×Int):=
 some (false,aA .u64 ((aA .u64 ((aA .u64 ((aA .u64 (ac p0 4294967296))*(aA .u64 (ac p1 4294967296))))+(aA .u64 (ac (aA .u64 ((aA .u64 ((aA .u64 (ac p0 4294967296))*(ae p1 4294967296)))+(aA .u64 (ac (aA .u64 ((ae p0 4294967296)*(ae p1 4294967296))) 4294967296)))) 4294967296))))+(aA .u64 (ac (aA .u64 ((aA .u64 ((ae p0 4294967296)*(aA .u64 (ac p1 4294967296))))+(ae (aA .u64 ((aA .u64 ((aA .u64 (ac p0 4294967296))*(ae p1 4294967296)))+(aA .u64 (ac (aA .u64 ((ae p0 4294967296)*(ae p1 4294967296))) 4294967296)))) 4294967296))) 4294967296))),aA .u64 ((aA .u64 ((ae (aA .u64 ((aA .u64 ((ae p0 4294967296)*(aA .u64 (ac p1 4294967296))))+(ae (aA .u64 ((aA .u64 ((aA .u64 (ac p0 4294967296))*(ae p1 4294967296)))+(aA .u64 (ac (aA .u64 ((ae p0 4294967296)*(ae p1 4294967296))) 4294967296)))) 4294967296))) 4294967296)*4294967296))+(ae (aA .u64 ((ae p0 4294967296)*(ae p1 4294967296))) 4294967296)))
def aTM (N:Nat):aV:=⟨aC.cons (aF.int .u64) (aC.one (aF.int .u64)),aF.agg (bE.row uP),fun a=>(xX N) a.1 a.2,.pure,false⟩
theorem aJY (N:Nat):aB tab 414 (aTM N):=aB.of aIp (cx:=(aN (aK N) [] [] [] [])) rfl (aM.make trivial trivial trivial) (fun a=>by kernel_rfl)
def jV (N:Nat) (p0:Int) (p1:Int):Option (Bool×Int×Int):=
 ((gD N) p0).bind fun n0=>
 ((gD N) p1).bind fun n1=>
 ((xX N) n0 n1).bind fun a2=>
 bif !((decide (p0<0))==(decide (p1<0))) then
  bif p0 !=0 then
   some (p1 !=0,a2.2)
  else
   some (false,a2.2)
 else
  some (false,a2.2)
def aRD (N:Nat):aV:=⟨aC.cons (aF.int .i64) (aC.one (aF.int .i64)),aF.agg (bE.row uP),fun a=>(jV N) a.1 a.2,.pure,false⟩
theorem VB (N:Nat):aB tab 393 (aRD N):=aB.of aIa (cx:=(aN (aK N) [(215,(aJX N)),(414,(aTM N))] [] [] [])) rfl (aM.make ⟨(NL N),(aJY N),trivial⟩ trivial trivial) (fun a=>by kernel_rfl)
def sV (_:Nat) (p0:Bool×Int×Int) (p1:Bool×Int×Int):Option Int:=
 bif p0.2.1 !=p1.2.1 then
  bif decide (p0.2.1<p1.2.1) then
   some (-1)
  else
   some 1
 else
  bif p0.2.2 !=p1.2.2 then
   bif decide (p0.2.2<p1.2.2) then
    some (-1)
   else
    some 1
  else
   some 0
def aRE (N:Nat):aV:=⟨aC.cons (aF.agg (bE.row uP)) (aC.one (aF.agg (bE.row uP))),aF.int .i64,fun a=>(sV N) a.1 a.2,.pure,false⟩
theorem VC (N:Nat):aB tab 395 (aRE N):=aB.of aIc (cx:=(aN (aK N) [] [] [] [])) rfl (aM.make trivial trivial trivial) (fun a=>by kernel_rfl)
def vR (_:Nat) (p0:Bool×Int×Int) (p1:Bool×Int×Int):Option (Bool×Int×Int):=
 bif decide (p0.2.2<p1.2.2) then
  some (false,aA .u64 ((aA .u64 (p0.2.1-p1.2.1)) -1),aA .u64 (p0.2.2-p1.2.2))
 else
  some (false,aA .u64 (p0.2.1-p1.2.1),aA .u64 (p0.2.2-p1.2.2))
def aTN (N:Nat):aV:=⟨aC.cons (aF.agg (bE.row uP)) (aC.one (aF.agg (bE.row uP))),aF.agg (bE.row uP),fun a=>(vR N) a.1 a.2,.pure,false⟩
theorem aJZ (N:Nat):aB tab 416 (aTN N):=aB.of aIr (cx:=(aN (aK N) [] [] [] [])) rfl (aM.make trivial trivial trivial) (fun a=>by kernel_rfl)
def IV (N:Nat) (p0:Bool×Int×Int) (p1:Bool×Int×Int):Option (Bool×Int×Int):=
 bif p0.1==p1.1 then
  bif decide ((aA .u64 (p0.2.2+p1.2.2))<p0.2.2) then
   some (p0.1,aA .u64 ((aA .u64 (p0.2.1+p1.2.1))+1),aA .u64 (p0.2.2+p1.2.2))
  else
   some (p0.1,aA .u64 (p0.2.1+p1.2.1),aA .u64 (p0.2.2+p1.2.2))
 else
  ((sV N) p0 p1).bind fun n0=>
  bif decide (0<=n0) then
   ((vR N) p0 p1).bind fun a1=>
   bif p0.1 then
    bif decide (0<a1.2.1) then
     some (true,a1.2)
    else
     some (decide (0<a1.2.2),a1.2)
   else
    some (false,a1.2)
  else
   ((vR N) p1 p0).bind fun a2=>
   some (p1.1,a2.2)
def aTO (N:Nat):aV:=⟨aC.cons (aF.agg (bE.row uP)) (aC.one (aF.agg (bE.row uP))),aF.agg (bE.row uP),fun a=>(IV N) a.1 a.2,.pure,false⟩
theorem aJ0 (N:Nat):aB tab 403 (aTO N):=aB.of aIg (cx:=(aN (aK N) [(395,(aRE N)),(416,(aTN N))] [] [] [])) rfl (aM.make ⟨(VC N),(aJZ N),trivial⟩ trivial trivial) (fun a=>by kernel_rfl)
def kH (_:Nat) (p0:Bool×Int×Int):Option Int:=
 bif p0.2.1==0 then
  bif p0.2.2==0 then
   some 0
  else
   bif p0.1 then
    some (-1)
   else
    some 1
 else
  bif p0.1 then
   some (-1)
  else
   some 1
def aRF (N:Nat):aV:=⟨aC.one (aF.agg (bE.row uP)),aF.int .i64,fun a=>(kH N) a,.pure,false⟩
theorem VD (N:Nat):aB tab 394 (aRF N):=aB.of aIb (cx:=(aN (aK N) [] [] [] [])) rfl (aM.make trivial trivial trivial) (fun a=>by kernel_rfl)
def LH (N:Nat) (p0:Int×Int×Int) (p1:Int×Int×Int) (p2:Int×Int):Option Int:=
 ((jV N) (aA .i64 (p0.2.1-p1.2.1)) p2.2).bind fun a0=>
 ((jV N) (aA .i64 (p0.2.2-p1.2.2)) p2.1).bind fun a1=>
 ((IV N) a0 a1).bind fun a2=>
 ((kH N) a2).bind fun n3=>
 some n3
def aTP (N:Nat):aV:=⟨aC.cons (aF.agg (bE.row bO)) (aC.cons (aF.agg (bE.row bO)) (aC.one (aF.agg (bE.row cM)))),aF.int .i64,fun a=>(LH N) a.1 a.2.1 a.2.2,.pure,false⟩
theorem aJ1 (N:Nat):aB tab 374 (aTP N):=aB.of aHW (cx:=(aN (aK N) [(393,(aRD N)),(403,(aTO N)),(394,(aRF N))] [] [] [])) rfl (aM.make ⟨(VB N),(aJ0 N),(VD N),trivial⟩ trivial trivial) (fun a=>by kernel_rfl)
def kU (N:Nat) (p0:Int×Int×Int) (p1:Int×Int×Int) (p2:Int×Int):Option Bool:=
 ((LH N) p0 p1 p2).bind fun n0=>
 bif n0 !=0 then
  some (decide (0<n0))
 else
  bif p0.2.2 !=p1.2.2 then
   some (decide (p1.2.2<p0.2.2))
  else
   some (decide (p0.1<p1.1))
def XI (N:Nat):aV:=⟨aC.cons (aF.agg (bE.row bO)) (aC.cons (aF.agg (bE.row bO)) (aC.one (aF.agg (bE.row cM)))),aF.bool,fun a=>(kU N) a.1 a.2.1 a.2.2,.pure,false⟩
theorem BI (N:Nat):aB tab 324 (XI N):=aB.of aHn (cx:=(aN (aK N) [(374,(aTP N))] [] [] [])) rfl (aM.make ⟨(aJ1 N),trivial⟩ trivial trivial) (fun a=>by kernel_rfl)
def D0 (N:Nat) (p0:Field) (p1:Int×Int) (p2:Int) (p3:Int):Option Bool:=
 ((mR N) p0 p2).bind fun n0=>
 (aL p0.points n0).bind fun a1=>
 ((mR N) p0 p3).bind fun n2=>
 (aL p0.points n2).bind fun a3=>
 ((kU N) a1 a3 p1).bind fun b4=>
 some b4
def aRG (N:Nat):aV:=⟨aC.cons (aF.agg aT) (aC.cons (aF.agg (bE.row cM)) (aC.cons (aF.int .i64) (aC.one (aF.int .i64)))),aF.bool,fun a=>(D0 N) a.1 a.2.1 a.2.2.1 a.2.2.2,.pure,false⟩
theorem VE (N:Nat):aB tab 311 (aRG N):=aB.of aHd (cx:=(aN (aK N) [(124,(aAq N)),(324,(XI N))] [] [] [])) rfl (aM.make ⟨(FD N),(BI N),trivial⟩ trivial trivial) (fun a=>by kernel_rfl)
def IW (N:Nat) (s:(Int×(List (Int×Int×Int))×Int×Int×(List Int))):Option (aS (Int×(List (Int×Int×Int))×Int×Int×(List Int)) (List Int)):=
 bif decide (0<s.1) then
  (aL s.2.2.2.2 s.1).bind fun n0=>
  (aL s.2.2.2.2 (aA .i64 (ac (aA .i64 (s.1-1)) 2))).bind fun n1=>
  ((D0 N) (Field.mk s.2.1) (s.2.2.1,s.2.2.2.1) n0 n1).bind fun b2=>
  bif b2 then
   (aL s.2.2.2.2 (aA .i64 (ac (aA .i64 (s.1-1)) 2))).bind fun n3=>
   (aL s.2.2.2.2 s.1).bind fun n4=>
   (aL s.2.2.2.2 s.1).bind fun _=>
   (aL (aZ s.2.2.2.2 s.1 n3) (aA .i64 (ac (aA .i64 (s.1-1)) 2))).bind fun _=>
   some (.next (aA .i64 (ac (aA .i64 (s.1-1)) 2),s.2.1,s.2.2.1,s.2.2.2.1,aZ (aZ s.2.2.2.2 s.1 n3) (aA .i64 (ac (aA .i64 (s.1-1)) 2)) n4))
  else
   some (.done s.2.2.2.2)
 else
  some (.done s.2.2.2.2)
def vS (N:Nat) (p0:Field) (p1:Int×Int) (p2:List Int) (p3:Int):Option (List Int):=
 (bG p2).bind fun l0=>
 (aO N) (IW N) (p3,p0.points,p1.1,p1.2,l0)
def aTQ (N:Nat):aV:=⟨aC.cons (aF.agg aT) (aC.cons (aF.agg (bE.row cM)) (aC.cons (aF.sl ki) (aC.one (aF.int .i64)))),aF.sl ki,fun a=>(vS N) a.1 a.2.1 a.2.2.1 a.2.2.2,.own,true⟩
def aLe (N:Nat):aV:=⟨aC.cons (aF.agg aT) (aC.cons (aF.agg (bE.row cM)) (aC.cons (aF.sl ki) (aC.one (aF.int .i64)))),aF.sl ki,fun a=>(vS N) a.1 a.2.1 a.2.2.1 a.2.2.2,.frz,false⟩
theorem aJ2 (N:Nat):aB tab 216 (aTQ N):=aB.of T9 (cx:=(aN (aK N) [(311,(aRG N))] [] [] [])) rfl (aM.make ⟨(VE N),trivial⟩ trivial trivial) (fun a=>by kernel_rfl)
theorem aAr (N:Nat):aB tab 216 (aLe N):=aB.of T9 (cx:=(aN (aK N) [(311,(aRG N))] [] [] [])) rfl (aM.make ⟨(VE N),trivial⟩ trivial trivial) (fun a=>by kernel_rfl)
def oN (_:Nat) (p0:Field):Option Field:=
 (bG p0.points).bind fun l0=>
 some (Field.mk l0)
def aAs (N:Nat):aV:=⟨aC.one (aF.agg aT),aF.agg aT,fun a=>(oN N) a,.own,true⟩
def QT (N:Nat):aV:=⟨aC.one (aF.agg aT),aF.agg aT,fun a=>(oN N) a,.frz,false⟩
theorem FE (N:Nat):aB tab 182 (aAs N):=aB.of T6 (cx:=(aN (aK N) [] [] [] [])) rfl (aM.make trivial trivial trivial) (fun a=>by kernel_rfl)
theorem BJ (N:Nat):aB tab 182 (QT N):=aB.of T6 (cx:=(aN (aK N) [] [] [] [])) rfl (aM.make trivial trivial trivial) (fun a=>by kernel_rfl)
def IX (_:Nat) (s:(Int×(List Int)×(List Bool)×(List Int))):Option (aS (Int×(List Int)×(List Bool)×(List Int)) aH):=
 bif decide (0<=s.1) then
  (aR s.2.2.2 [s.1]).bind fun l0=>
  some (.next (aA .i64 (s.1-1),s.2.1,s.2.2.1,l0))
 else
  some (.done (aH.mk s.2.1 s.2.2.1 s.2.2.2))
def D1 (N:Nat) (p0:Int):Option aH:=
 bif p0==p0 then
  (jL p0 (0:Int)).bind fun l0=>
  bif p0==p0 then
   (jL p0 (false:Bool)).bind fun l1=>
   (aO N) (IX N) (aA .i64 (p0-1),l0,l1,[])
  else
   none
 else
  none
def aTR (N:Nat):aV:=⟨aC.one (aF.int .i64),aF.agg eZ,fun a=>(D1 N) a,.frz,false⟩
theorem aJ3 (N:Nat):aB tab 317 (aTR N):=aB.of aHj (cx:=(aN (aK N) [] [] [] [])) rfl (aM.make trivial trivial trivial) (fun a=>by kernel_rfl)
def IY (_:Nat) (s:(Int×Int×(List Int)×(List Bool)×(List Int)×(List Int))):Option (aS (Int×Int×(List Int)×(List Bool)×(List Int)×(List Int)) aE):=
 bif decide (s.2.1<s.1) then
  (aR s.2.2.2.2.2 [-1]).bind fun l0=>
  some (.next (s.1,aA .i64 (s.2.1+1),s.2.2.1,s.2.2.2.1,s.2.2.2.2.1,l0))
 else
  some (.done (aE.mk (aH.mk s.2.2.1 s.2.2.2.1 s.2.2.2.2.1) [] s.2.2.2.2.2))
def D2 (N:Nat) (p0:Int):Option aE:=
 ((D1 N) p0).bind fun r0=>
 (aO N) (IY N) (p0,0,r0.uses,r0.used,r0.free,[])
def aTS (N:Nat):aV:=⟨aC.one (aF.int .i64),aF.agg cE,fun a=>(D2 N) a,.frz,false⟩
theorem aJ4 (N:Nat):aB tab 219 (aTS N):=aB.of aGw (cx:=(aN (aK N) [(317,(aTR N))] [] [] [])) rfl (aM.make ⟨(aJ3 N),trivial⟩ trivial trivial) (fun a=>by kernel_rfl)
def mS (N:Nat) (p0:Field) (p1:Int×Int):Option aG:=
 ((oN N) p0).bind fun r0=>
 ((D2 N) 200).bind fun r1=>
 some (aG.mk p1 r0 (aI.mk 0 []) r1 [])
def aAt (N:Nat):aV:=⟨aC.cons (aF.agg aT) (aC.one (aF.agg (bE.row cM))),aF.agg bB,fun a=>(mS N) a.1 a.2,.frz,false⟩
theorem FF (N:Nat):aB tab 119 (aAt N):=aB.of aFy (cx:=(aN (aK N) [(182,(aAs N)),(182,(QT N)),(219,(aTS N))] [] [] [])) rfl (aM.make ⟨(FE N),(BJ N),(aJ4 N),trivial⟩ trivial trivial) (fun a=>by kernel_rfl)
def QU (_:Nat) (s:((List Int)×Int×(List (Int×Int)))):Option (aS ((List Int)×Int×(List (Int×Int))) (List (Int×Int))):=
 bif decide (s.2.1<(aa s.1.length)) then
  (aL s.1 s.2.1).bind fun n0=>
  (aL s.1 (aA .i64 (ac (aA .i64 (s.2.1-1)) 2))).bind fun n1=>
  (aR s.2.2 [(n0,n1)]).bind fun l2=>
  some (.next (s.1,aA .i64 (s.2.1+1),l2))
 else
  some (.done s.2.2)
def IZ (N:Nat) (p0:List Int):Option (List (Int×Int)):=
 (aO N) (QU N) (p0,1,[])
def aTT (N:Nat):aV:=⟨aC.one (aF.sl ki),aF.sl cM,fun a=>(IZ N) a,.own,true⟩
def aLf (N:Nat):aV:=⟨aC.one (aF.sl ki),aF.sl cM,fun a=>(IZ N) a,.frz,false⟩
theorem aJ5 (N:Nat):aB tab 126 (aTT N):=aB.of T1 (cx:=(aN (aK N) [] [] [] [])) rfl (aM.make trivial trivial trivial) (fun a=>by kernel_rfl)
theorem aAu (N:Nat):aB tab 126 (aLf N):=aB.of T1 (cx:=(aN (aK N) [] [] [] [])) rfl (aM.make trivial trivial trivial) (fun a=>by kernel_rfl)
def sW (_:Nat) (p0:aI):Option aI:=
 (bG p0.list).bind fun l0=>
 some (aI.mk p0.next_ l0)
def aJ6 (N:Nat):aV:=⟨aC.one (aF.agg eY),aF.agg eY,fun a=>(sW N) a,.own,true⟩
def VF (N:Nat):aV:=⟨aC.one (aF.agg eY),aF.agg eY,fun a=>(sW N) a,.frz,false⟩
theorem NM (N:Nat):aB tab 183 (aJ6 N):=aB.of T7 (cx:=(aN (aK N) [] [] [] [])) rfl (aM.make trivial trivial trivial) (fun a=>by kernel_rfl)
theorem I0 (N:Nat):aB tab 183 (VF N):=aB.of T7 (cx:=(aN (aK N) [] [] [] [])) rfl (aM.make trivial trivial trivial) (fun a=>by kernel_rfl)
def oO (_:Nat) (p0:aH):Option aH:=
 (bG p0.uses).bind fun l0=>
 (bG p0.used).bind fun l1=>
 (bG p0.free).bind fun l2=>
 some (aH.mk l0 l1 l2)
def aAv (N:Nat):aV:=⟨aC.one (aF.agg eZ),aF.agg eZ,fun a=>(oO N) a,.own,true⟩
def QV (N:Nat):aV:=⟨aC.one (aF.agg eZ),aF.agg eZ,fun a=>(oO N) a,.frz,false⟩
theorem FG (N:Nat):aB tab 284 (aAv N):=aB.of UE (cx:=(aN (aK N) [] [] [] [])) rfl (aM.make trivial trivial trivial) (fun a=>by kernel_rfl)
theorem BK (N:Nat):aB tab 284 (QV N):=aB.of UE (cx:=(aN (aK N) [] [] [] [])) rfl (aM.make trivial trivial trivial) (fun a=>by kernel_rfl)
def lW (N:Nat) (p0:aE):Option aE:=
 ((oO N) p0.slots).bind fun r0=>
 (bG p0.heap).bind fun l1=>
 (bG p0.where_).bind fun l2=>
 some (aE.mk r0 l1 l2)
def XJ (N:Nat):aV:=⟨aC.one (aF.agg cE),aF.agg cE,fun a=>(lW N) a,.own,true⟩
def LJ (N:Nat):aV:=⟨aC.one (aF.agg cE),aF.agg cE,fun a=>(lW N) a,.frz,false⟩
theorem BL (N:Nat):aB tab 184 (XJ N):=aB.of T8 (cx:=(aN (aK N) [(284,(aAv N)),(284,(QV N))] [] [] [])) rfl (aM.make ⟨(FG N),(BK N),trivial⟩ trivial trivial) (fun a=>by kernel_rfl)
theorem vT (N:Nat):aB tab 184 (LJ N):=aB.of T8 (cx:=(aN (aK N) [(284,(aAv N)),(284,(QV N))] [] [] [])) rfl (aM.make ⟨(FG N),(BK N),trivial⟩ trivial trivial) (fun a=>by kernel_rfl)
def lX (N:Nat) (p0:aG):Option aG:=
 ((oN N) p0.field).bind fun r0=>
 ((sW N) p0.certs).bind fun r1=>
 ((lW N) p0.agenda).bind fun r2=>
 (bG p0.due).bind fun l3=>
 some (aG.mk p0.now r0 r1 r2 l3)
def aAw (N:Nat):aV:=⟨aC.one (aF.agg bB),aF.agg bB,fun a=>(lX N) a,.own,true⟩
def QW (N:Nat):aV:=⟨aC.one (aF.agg bB),aF.agg bB,fun a=>(lX N) a,.frz,false⟩
theorem FH (N:Nat):aB tab 101 (aAw N):=aB.of T0 (cx:=(aN (aK N) [(182,(aAs N)),(182,(QT N)),(183,(aJ6 N)),(183,(VF N)),(184,(XJ N)),(184,(LJ N))] [] [] [])) rfl (aM.make ⟨(FE N),(BJ N),(NM N),(I0 N),(BL N),(vT N),trivial⟩ trivial trivial) (fun a=>by kernel_rfl)
theorem BM (N:Nat):aB tab 101 (QW N):=aB.of T0 (cx:=(aN (aK N) [(182,(aAs N)),(182,(QT N)),(183,(aJ6 N)),(183,(VF N)),(184,(XJ N)),(184,(LJ N))] [] [] [])) rfl (aM.make ⟨(FE N),(BJ N),(NM N),(I0 N),(BL N),(vT N),trivial⟩ trivial trivial) (fun a=>by kernel_rfl)
def QX (_:Nat) (s:((List (Int×Int))×Int×Int×Int)):Option (aS ((List (Int×Int))×Int×Int×Int) Bool):=
 bif decide (s.2.1<(aa s.1.length)) then
  (aL s.1 s.2.1).bind fun a0=>
  bif (a0.1==s.2.2.1)&&(a0.2==s.2.2.2) then
   some (.done true)
  else
   some (.next (s.1,aA .i64 (s.2.1+1),s.2.2))
 else
  some (.done false)
def QY (N:Nat) (p0:List (Int×Int)) (p1:Int×Int):Option Bool:=
 (aO N) (QX N) (p0,0,p1)
def aTU (N:Nat):aV:=⟨aC.cons (aF.sl cM) (aC.one (aF.agg (bE.row cM))),aF.bool,fun a=>(QY N) a.1 a.2,.pure,false⟩
theorem aJ7 (N:Nat):aB tab 312 (aTU N):=aB.of aHe (cx:=(aN (aK N) [] [] [] [])) rfl (aM.make trivial trivial trivial) (fun a=>by kernel_rfl)
def C2 (_:Nat) (s:(Int×Int×Int×(List (Int×Int×Int))×Int×Int×(List (Int×Int×Int)))):Option (aS (Int×Int×Int×(List (Int×Int×Int))×Int×Int×(List (Int×Int×Int))) aI):=
 bif decide (s.2.1<(aa s.2.2.2.1.length)) then
  (aL s.2.2.2.1 s.2.1).bind fun a0=>
  bif a0.1 !=s.1 then
   (aL s.2.2.2.1 s.2.1).bind fun a1=>
   (aR s.2.2.2.2.2.2 [a1]).bind fun l2=>
   some (.next (s.1,aA .i64 (s.2.1+1),s.2.2.1,s.2.2.2.1,s.2.2.2.2.1,s.2.2.2.2.2.1,l2))
  else
   some (.next (s.1,aA .i64 (s.2.1+1),s.2.2))
 else
  some (.done (aI.mk s.2.2.2.2.2.1 s.2.2.2.2.2.2))
def xY (N:Nat) (p0:aI) (p1:Int):Option aI:=
 (aO N) (C2 N) (p1,0,p0.next_,p0.list,0,p0.next_,[])
def aTV (N:Nat):aV:=⟨aC.cons (aF.agg eY) (aC.one (aF.int .i64)),aF.agg eY,fun a=>(xY N) a.1 a.2,.frz,false⟩
theorem aJ8 (N:Nat):aB tab 366 (aTV N):=aB.of aHO (cx:=(aN (aK N) [] [] [] [])) rfl (aM.make trivial trivial trivial) (fun a=>by kernel_rfl)
def I1 (_:Nat) (s:(Int×Int×Int×Int×(List (Int×Int×Int))×Int×(List (Int×Int×Int))×(List Int)×(List Bool)×(List Int)×(List (Int×Int×Int×Int×Int))×(List Int)×(List (Int×Int×Int)))):Option (aS (Int×Int×Int×Int×(List (Int×Int×Int))×Int×(List (Int×Int×Int))×(List Int)×(List Bool)×(List Int)×(List (Int×Int×Int×Int×Int))×(List Int)×(List (Int×Int×Int))) Int):=
 bif decide (s.2.1<(aa s.2.2.2.2.2.2.2.2.2.2.2.2.length)) then
  (aL s.2.2.2.2.2.2.2.2.2.2.2.2 s.2.1).bind fun a0=>
  bif a0.1==s.1 then
   some (.done s.2.1)
  else
   some (.next (s.1,aA .i64 (s.2.1+1),s.2.2))
 else
  some (.done (-1))
def vU (N:Nat) (p0:aG) (p1:Int):Option Int:=
 (aO N) (I1 N) (p1,0,p0.now.1,p0.now.2,p0.field.points,p0.certs.next_,p0.certs.list,p0.agenda.slots.uses,p0.agenda.slots.used,p0.agenda.slots.free,p0.agenda.heap,p0.agenda.where_,p0.due)
def aRH (N:Nat):aV:=⟨aC.cons (aF.agg bB) (aC.one (aF.int .i64)),aF.int .i64,fun a=>(vU N) a.1 a.2,.pure,false⟩
theorem VG (N:Nat):aB tab 367 (aRH N):=aB.of aHP (cx:=(aN (aK N) [] [] [] [])) rfl (aM.make trivial trivial trivial) (fun a=>by kernel_rfl)
def vV (N:Nat) (p0:aH) (p1:Int×Int):Option aH:=
 ((oO N) p0).bind fun r0=>
 (aL r0.used p1.1).bind fun _=>
 (aR r0.free [p1.1]).bind fun l2=>
 some (aH.mk r0.uses (aZ r0.used p1.1 false) l2)
def aTW (N:Nat):aV:=⟨aC.cons (aF.agg eZ) (aC.one (aF.agg (bE.row cM))),aF.agg eZ,fun a=>(vV N) a.1 a.2,.frz,false⟩
theorem aJ9 (N:Nat):aB tab 398 (aTW N):=aB.of aId (cx:=(aN (aK N) [(284,(aAv N)),(284,(QV N))] [] [] [])) rfl (aM.make ⟨(FG N),(BK N),trivial⟩ trivial trivial) (fun a=>by kernel_rfl)
def xZ (N:Nat) (p0:Int×Int) (p1:Int×Int):Option Int:=
 ((jV N) p0.1 p1.2).bind fun a0=>
 ((jV N) p1.1 p0.2).bind fun a1=>
 ((kH N) a0).bind fun n2=>
 ((kH N) a1).bind fun n3=>
 bif n2 !=n3 then
  ((kH N) a0).bind fun n4=>
  ((kH N) a1).bind fun n5=>
  bif decide (n4<n5) then
   some (-1)
  else
   some 1
 else
  ((kH N) a0).bind fun n6=>
  bif decide (n6<0) then
   ((sV N) a1 a0).bind fun n7=>
   some n7
  else
   ((sV N) a0 a1).bind fun n8=>
   some n8
def aTX (N:Nat):aV:=⟨aC.cons (aF.agg (bE.row cM)) (aC.one (aF.agg (bE.row cM))),aF.int .i64,fun a=>(xZ N) a.1 a.2,.pure,false⟩
theorem aKa (N:Nat):aB tab 361 (aTX N):=aB.of aHM (cx:=(aN (aK N) [(393,(aRD N)),(394,(aRF N)),(395,(aRE N))] [] [] [])) rfl (aM.make ⟨(VB N),(VD N),(VC N),trivial⟩ trivial trivial) (fun a=>by kernel_rfl)
def eO (N:Nat) (p0:Int×Int×Int×Int×Int) (p1:Int×Int×Int×Int×Int):Option Bool:=
 ((xZ N) (p0.1,p0.2.1) (p1.1,p1.2.1)).bind fun n0=>
 bif decide (n0<0) then
  some true
 else
  bif n0==0 then
   some (decide (p0.2.2.1<p1.2.2.1))
  else
   some false
def XK (N:Nat):aV:=⟨aC.cons (aF.agg (bE.row gP)) (aC.one (aF.agg (bE.row gP))),aF.bool,fun a=>(eO N) a.1 a.2,.pure,false⟩
theorem BN (N:Nat):aB tab 321 (XK N):=aB.of aHl (cx:=(aN (aK N) [(361,(aTX N))] [] [] [])) rfl (aM.make ⟨(aKa N),trivial⟩ trivial trivial) (fun a=>by kernel_rfl)
def fF (_:Nat) (a:(Int×Int×(List Int)×(List Bool)×(List Int)×(List (Int×Int×Int×Int×Int))×(List Int))):Option ((List Int)×(List Bool)×(List Int)×(List (Int×Int×Int×Int×Int))×(List Int)):=
 (aL a.2.2.2.2.2.1 a.2.1).bind fun a0=>
 (aL a.2.2.2.2.2.1 a.1).bind fun a1=>
 (aL a.2.2.2.2.2.1 a.1).bind fun _=>
 (aL (aZ a.2.2.2.2.2.1 a.1 a0) a.2.1).bind fun _=>
 (aL (aZ (aZ a.2.2.2.2.2.1 a.1 a0) a.2.1 a1) a.1).bind fun a4=>
 (aL (aZ (aZ a.2.2.2.2.2.1 a.1 a0) a.2.1 a1) a.2.1).bind fun a5=>
 (aL a.2.2.2.2.2.2 a4.2.2.2.1).bind fun _=>
 (aL (aZ a.2.2.2.2.2.2 a4.2.2.2.1 a.1) a5.2.2.2.1).bind fun _=>
 bif a.2.2.1.length==a.2.2.1.length then
  bif a.2.2.2.1.length==a.2.2.2.1.length then
   bif a.2.2.2.2.1.length==a.2.2.2.2.1.length then
    bif ((aZ (aZ a.2.2.2.2.2.1 a.1 a0) a.2.1 a1).length)==a.2.2.2.2.2.1.length then
     bif ((aZ (aZ a.2.2.2.2.2.2 a4.2.2.2.1 a.1) a5.2.2.2.1 a.2.1).length)==a.2.2.2.2.2.2.length then
      some (a.2.2.1,a.2.2.2.1,a.2.2.2.2.1,aZ (aZ a.2.2.2.2.2.1 a.1 a0) a.2.1 a1,aZ (aZ a.2.2.2.2.2.2 a4.2.2.2.1 a.1) a5.2.2.2.1 a.2.1)
     else
      none
    else
     none
   else
    none
  else
   none
 else
  none
def zF (N:Nat):cA:=⟨[.i,.i,.l [.i .i64],.l [.b],.l [.i .i64],.l [.i .i64,.i .i64,.i .i64,.i .i64,.i .i64],.l [.i .i64]],[.agg [.own 0 false,.own 1 false,.own 2 false,.own 3 false,.own 4 false],.int .i64 0,.int .i64 0],[.arr [.i .i64] [],.arr [.b] [],.arr [.i .i64] [],.arr [.i .i64,.i .i64,.i .i64,.i .i64,.i .i64] [],.arr [.i .i64] []],[.l [.i .i64],.l [.b],.l [.i .i64],.l [.i .i64,.i .i64,.i .i64,.i .i64,.i .i64],.l [.i .i64]],.tup [],[.arr [.i .i64] [],.arr [.b] [],.arr [.i .i64] [],.arr [.i .i64,.i .i64,.i .i64,.i .i64,.i .i64] [],.arr [.i .i64] []],fun a=>(fF N) a⟩
theorem nS (N:Nat):eE tab 397 (zF N):=eE.of MZ (wd:=false) (cx:=(aN (aK N) [] [] [] [])) (aM.make trivial trivial trivial) (fun a=>by kernel_rfl)
def gS (_:Nat) (a:((List Int)×(List Bool)×(List Int)×Nat×Nat×Int×Int×(List (Int×Int×Int×Int×Int))×(List Int))):Option ((List (Int×Int×Int×Int×Int))×(List Int)):=
 (aL (a.2.2.2.2.2.2.2.1.take a.2.2.2.1) a.2.2.2.2.2.2.1).bind fun a0=>
 (aL (a.2.2.2.2.2.2.2.1.take a.2.2.2.1) a.2.2.2.2.2.1).bind fun a1=>
 (aL (a.2.2.2.2.2.2.2.1.take a.2.2.2.1) a.2.2.2.2.2.1).bind fun _=>
 (aL ((aZ a.2.2.2.2.2.2.2.1 a.2.2.2.2.2.1 a0).take a.2.2.2.1) a.2.2.2.2.2.2.1).bind fun _=>
 (aL ((aZ (aZ a.2.2.2.2.2.2.2.1 a.2.2.2.2.2.1 a0) a.2.2.2.2.2.2.1 a1).take a.2.2.2.1) a.2.2.2.2.2.1).bind fun a4=>
 (aL ((aZ (aZ a.2.2.2.2.2.2.2.1 a.2.2.2.2.2.1 a0) a.2.2.2.2.2.2.1 a1).take a.2.2.2.1) a.2.2.2.2.2.2.1).bind fun a5=>
 (aL a.2.2.2.2.2.2.2.2 a4.2.2.2.1).bind fun _=>
 (aL (aZ a.2.2.2.2.2.2.2.2 a4.2.2.2.1 a.2.2.2.2.2.1) a5.2.2.2.1).bind fun _=>
 bif ((aZ (aZ a.2.2.2.2.2.2.2.1 a.2.2.2.2.2.1 a0) a.2.2.2.2.2.2.1 a1).length)==a.2.2.2.2.2.2.2.1.length then
  bif ((aZ (aZ a.2.2.2.2.2.2.2.2 a4.2.2.2.1 a.2.2.2.2.2.1) a5.2.2.2.1 a.2.2.2.2.2.2.1).length)==a.2.2.2.2.2.2.2.2.length then
   some (aZ (aZ a.2.2.2.2.2.2.2.1 a.2.2.2.2.2.1 a0) a.2.2.2.2.2.2.1 a1,aZ (aZ a.2.2.2.2.2.2.2.2 a4.2.2.2.1 a.2.2.2.2.2.1) a5.2.2.2.1 a.2.2.2.2.2.2.1)
  else
   none
 else
  none
def zG (N:Nat):cA:=⟨[.l [.i .i64],.l [.b],.l [.i .i64],.n,.n,.i,.i,.l [.i .i64,.i .i64,.i .i64,.i .i64,.i .i64],.l [.i .i64]],[.agg [.sl [.i .i64] [],.sl [.b] [],.sl [.i .i64] [],.pre 0 0 0 false,.own 1 false],.int .i64 0,.int .i64 0],[.arr [.i .i64,.i .i64,.i .i64,.i .i64,.i .i64] [],.arr [.i .i64] []],[.l [.i .i64,.i .i64,.i .i64,.i .i64,.i .i64],.l [.i .i64]],.tup [],[.arr [.i .i64,.i .i64,.i .i64,.i .i64,.i .i64] [],.arr [.i .i64] []],fun a=>(gS N) a⟩
theorem nT (N:Nat):eE tab 397 (zG N):=eE.of MZ (wd:=false) (cx:=(aN (aK N) [] [] [] [])) (aM.make trivial trivial trivial) (fun a=>by kernel_rfl)
def BO (N:Nat) (c0:((List Int)×(List Bool)×(List Int)×Nat×Nat×Int×(List (Int×Int×Int×Int×Int))×(List Int))) (s:(Int×(List (Int×Int×Int×Int×Int))×(List Int)×(List Int)×(List Bool)×(List Int)×Nat×Nat)):Option (aS (Int×(List (Int×Int×Int×Int×Int))×(List Int)×(List Int)×(List Bool)×(List Int)×Nat×Nat) (Int×(List (Int×Int×Int×Int×Int))×(List Int))):=
 bif decide (0<s.1) then
  (aL (s.2.1.take s.2.2.2.2.2.2.1) s.1).bind fun a0=>
  (aL (s.2.1.take s.2.2.2.2.2.2.1) (aA .i64 (ac (aA .i64 (s.1-1)) 2))).bind fun a1=>
  ((eO N) a0 a1).bind fun b2=>
  bif b2 then
   ((gS N) (s.2.2.2.1,s.2.2.2.2.1,s.2.2.2.2.2.1,s.2.2.2.2.2.2.1,s.2.2.2.2.2.2.2,s.1,aA .i64 (ac (aA .i64 (s.1-1)) 2),s.2.1,s.2.2.1)).bind fun a3=>
   some (.next (aA .i64 (ac (aA .i64 (s.1-1)) 2),a3.1,a3.2,s.2.2.2))
  else
   bif s.2.1.length==c0.2.2.2.2.2.2.1.length then
    bif s.2.2.1.length==c0.2.2.2.2.2.2.2.length then
     some (.done (s.1,s.2.1,s.2.2.1))
    else
     none
   else
    none
 else
  bif s.2.1.length==c0.2.2.2.2.2.2.1.length then
   bif s.2.2.1.length==c0.2.2.2.2.2.2.2.length then
    some (.done (s.1,s.2.1,s.2.2.1))
   else
    none
  else
   none
def oP (N:Nat) (a:((List Int)×(List Bool)×(List Int)×Nat×Nat×Int×(List (Int×Int×Int×Int×Int))×(List Int))):Option (Int×(List (Int×Int×Int×Int×Int))×(List Int)):=
 (aO N) ((BO N) a) (a.2.2.2.2.2.1,a.2.2.2.2.2.2.1,a.2.2.2.2.2.2.2,a.1,a.2.1,a.2.2.1,a.2.2.2.1,a.2.2.2.2.1)
def NN (N:Nat):cA:=⟨[.l [.i .i64],.l [.b],.l [.i .i64],.n,.n,.i,.l [.i .i64,.i .i64,.i .i64,.i .i64,.i .i64],.l [.i .i64]],[.agg [.sl [.i .i64] [],.sl [.b] [],.sl [.i .i64] [],.pre 0 0 0 false,.own 1 false],.int .i64 0],[.arr [.i .i64,.i .i64,.i .i64,.i .i64,.i .i64] [],.arr [.i .i64] []],[.i,.l [.i .i64,.i .i64,.i .i64,.i .i64,.i .i64],.l [.i .i64]],.int .i64 0,[.arr [.i .i64,.i .i64,.i .i64,.i .i64,.i .i64] [],.arr [.i .i64] []],fun a=>(oP N) a⟩
theorem C3 (N:Nat):eE tab 400 (NN N):=eE.of M0 (wd:=true) (cx:=(aN (aK N) [(321,(XK N))] [(397,(zF N)),(397,(zG N))] [] [])) (aM.make ⟨(BN N),trivial⟩ ⟨(nS N),(nT N),trivial⟩ trivial) (fun a=>by kernel_rfl)
def wT (N:Nat) (c0:((List Int)×(List Bool)×(List Int)×Nat×Nat×Int×(List (Int×Int×Int×Int×Int))×(List Int))) (s:(Int×(List (Int×Int×Int×Int×Int))×(List Int)×(List Int)×(List Bool)×(List Int)×Nat×Nat)):Option (aS (Int×(List (Int×Int×Int×Int×Int))×(List Int)×(List Int)×(List Bool)×(List Int)×Nat×Nat) ((List (Int×Int×Int×Int×Int))×(List Int))):=
 bif decide ((aa s.2.2.2.2.2.2.1)<=(aA .i64 ((aA .i64 (2*s.1))+1))) then
  bif s.2.1.length==c0.2.2.2.2.2.2.1.length then
   bif s.2.2.1.length==c0.2.2.2.2.2.2.2.length then
    some (.done (s.2.1,s.2.2.1))
   else
    none
  else
   none
 else
  bif decide ((aA .i64 ((aA .i64 ((aA .i64 (2*s.1))+1))+1))<(aa s.2.2.2.2.2.2.1)) then
   (aL (s.2.1.take s.2.2.2.2.2.2.1) (aA .i64 ((aA .i64 ((aA .i64 (2*s.1))+1))+1))).bind fun a0=>
   (aL (s.2.1.take s.2.2.2.2.2.2.1) (aA .i64 ((aA .i64 (2*s.1))+1))).bind fun a1=>
   ((eO N) a0 a1).bind fun b2=>
   bif b2 then
    (aL (s.2.1.take s.2.2.2.2.2.2.1) (aA .i64 ((aA .i64 ((aA .i64 (2*s.1))+1))+1))).bind fun a3=>
    (aL (s.2.1.take s.2.2.2.2.2.2.1) s.1).bind fun a4=>
    ((eO N) a3 a4).bind fun b5=>
    bif !b5 then
     bif s.2.1.length==c0.2.2.2.2.2.2.1.length then
      bif s.2.2.1.length==c0.2.2.2.2.2.2.2.length then
       some (.done (s.2.1,s.2.2.1))
      else
       none
     else
      none
    else
     ((gS N) (s.2.2.2.1,s.2.2.2.2.1,s.2.2.2.2.2.1,s.2.2.2.2.2.2.1,s.2.2.2.2.2.2.2,s.1,aA .i64 ((aA .i64 ((aA .i64 (2*s.1))+1))+1),s.2.1,s.2.2.1)).bind fun a6=>
     some (.next (aA .i64 ((aA .i64 ((aA .i64 (2*s.1))+1))+1),a6.1,a6.2,s.2.2.2))
   else
    (aL (s.2.1.take s.2.2.2.2.2.2.1) (aA .i64 ((aA .i64 (2*s.1))+1))).bind fun a7=>
    (aL (s.2.1.take s.2.2.2.2.2.2.1) s.1).bind fun a8=>
    ((eO N) a7 a8).bind fun b9=>
    bif !b9 then
     bif s.2.1.length==c0.2.2.2.2.2.2.1.length then
      bif s.2.2.1.length==c0.2.2.2.2.2.2.2.length then
       some (.done (s.2.1,s.2.2.1))
      else
       none
     else
      none
    else
     ((gS N) (s.2.2.2.1,s.2.2.2.2.1,s.2.2.2.2.2.1,s.2.2.2.2.2.2.1,s.2.2.2.2.2.2.2,s.1,aA .i64 ((aA .i64 (2*s.1))+1),s.2.1,s.2.2.1)).bind fun a10=>
     some (.next (aA .i64 ((aA .i64 (2*s.1))+1),a10.1,a10.2,s.2.2.2))
  else
   (aL (s.2.1.take s.2.2.2.2.2.2.1) (aA .i64 ((aA .i64 (2*s.1))+1))).bind fun a11=>
   (aL (s.2.1.take s.2.2.2.2.2.2.1) s.1).bind fun a12=>
   ((eO N) a11 a12).bind fun b13=>
   bif !b13 then
    bif s.2.1.length==c0.2.2.2.2.2.2.1.length then
     bif s.2.2.1.length==c0.2.2.2.2.2.2.2.length then
      some (.done (s.2.1,s.2.2.1))
     else
      none
    else
     none
   else
    ((gS N) (s.2.2.2.1,s.2.2.2.2.1,s.2.2.2.2.2.1,s.2.2.2.2.2.2.1,s.2.2.2.2.2.2.2,s.1,aA .i64 ((aA .i64 (2*s.1))+1),s.2.1,s.2.2.1)).bind fun a14=>
    some (.next (aA .i64 ((aA .i64 (2*s.1))+1),a14.1,a14.2,s.2.2.2))
def lY (N:Nat) (a:((List Int)×(List Bool)×(List Int)×Nat×Nat×Int×(List (Int×Int×Int×Int×Int))×(List Int))):Option ((List (Int×Int×Int×Int×Int))×(List Int)):=
 (aO N) ((wT N) a) (a.2.2.2.2.2.1,a.2.2.2.2.2.2.1,a.2.2.2.2.2.2.2,a.1,a.2.1,a.2.2.1,a.2.2.2.1,a.2.2.2.2.1)
def S0 (N:Nat):cA:=⟨[.l [.i .i64],.l [.b],.l [.i .i64],.n,.n,.i,.l [.i .i64,.i .i64,.i .i64,.i .i64,.i .i64],.l [.i .i64]],[.agg [.sl [.i .i64] [],.sl [.b] [],.sl [.i .i64] [],.pre 0 0 0 false,.own 1 false],.int .i64 0],[.arr [.i .i64,.i .i64,.i .i64,.i .i64,.i .i64] [],.arr [.i .i64] []],[.l [.i .i64,.i .i64,.i .i64,.i .i64,.i .i64],.l [.i .i64]],.tup [],[.arr [.i .i64,.i .i64,.i .i64,.i .i64,.i .i64] [],.arr [.i .i64] []],fun a=>(lY N) a⟩
theorem LK (N:Nat):eE tab 399 (S0 N):=eE.of UP (wd:=false) (cx:=(aN (aK N) [(321,(XK N))] [(397,(zF N)),(397,(zG N))] [] [])) (aM.make ⟨(BN N),trivial⟩ ⟨(nS N),(nT N),trivial⟩ trivial) (fun a=>by kernel_rfl)
def jW (N:Nat) (p0:aE) (p1:Int×Int):Option aE:=
 ((lW N) p0).bind fun r0=>
 (aL r0.where_ p1.1).bind fun n1=>
 bif n1 !=(aA .i64 ((aa r0.heap.length) -1)) then
  ((fF N) (n1,aA .i64 ((aa r0.heap.length) -1),r0.slots.uses,r0.slots.used,r0.slots.free,r0.heap,r0.where_)).bind fun a2=>
  (fI a2.2.2.2.1 0 (aA .i64 ((aa r0.heap.length) -1))).bind fun _=>
  (aL a2.2.2.2.2 p1.1).bind fun _=>
  ((vV N) (aH.mk a2.1 a2.2.1 a2.2.2.1) p1).bind fun r5=>
  bif n1 !=(aA .i64 ((aa r0.heap.length) -1)) then
   ((oP N) (r5.uses,r5.used,r5.free,(aA .i64 ((aa r0.heap.length) -1)).toNat,a2.2.2.2.1.length,n1,a2.2.2.2.1,aZ a2.2.2.2.2 p1.1 (-1))).bind fun a6=>
   ((lY N) (r5.uses,r5.used,r5.free,(aA .i64 ((aa r0.heap.length) -1)).toNat,a2.2.2.2.1.length,a6)).bind fun a7=>
   some (aE.mk r5 (a7.1.take ((aA .i64 ((aa r0.heap.length) -1)).toNat)) a7.2)
  else
   some (aE.mk r5 (a2.2.2.2.1.take ((aA .i64 ((aa r0.heap.length) -1)).toNat)) (aZ a2.2.2.2.2 p1.1 (-1)))
 else
  (fI r0.heap 0 (aA .i64 ((aa r0.heap.length) -1))).bind fun _=>
  (aL r0.where_ p1.1).bind fun _=>
  ((vV N) r0.slots p1).bind fun r10=>
  bif n1 !=(aA .i64 ((aa r0.heap.length) -1)) then
   ((oP N) (r10.uses,r10.used,r10.free,(aA .i64 ((aa r0.heap.length) -1)).toNat,r0.heap.length,n1,r0.heap,aZ r0.where_ p1.1 (-1))).bind fun a11=>
   ((lY N) (r10.uses,r10.used,r10.free,(aA .i64 ((aa r0.heap.length) -1)).toNat,r0.heap.length,a11)).bind fun a12=>
   some (aE.mk r10 (a12.1.take ((aA .i64 ((aa r0.heap.length) -1)).toNat)) a12.2)
  else
   some (aE.mk r10 (r0.heap.take ((aA .i64 ((aa r0.heap.length) -1)).toNat)) (aZ r0.where_ p1.1 (-1)))
def aRI (N:Nat):aV:=⟨aC.cons (aF.agg cE) (aC.one (aF.agg (bE.row cM))),aF.agg cE,fun a=>(jW N) a.1 a.2,.frz,false⟩
theorem VH (N:Nat):aB tab 368 (aRI N):=aB.of aHQ (cx:=(aN (aK N) [(184,(XJ N)),(184,(LJ N)),(398,(aTW N))] [(397,(zF N)),(397,(zG N)),(400,(NN N)),(399,(S0 N))] [] [])) rfl (aM.make ⟨(BL N),(vT N),(aJ9 N),trivial⟩ ⟨(nS N),(nT N),(C3 N),(LK N),trivial⟩ trivial) (fun a=>by kernel_rfl)
def I2 (N:Nat) (p0:aG) (p1:Int):Option aG:=
 ((lX N) p0).bind fun r0=>
 ((xY N) p0.certs p1).bind fun r1=>
 ((vU N) p0 p1).bind fun n2=>
 bif decide (0<=n2) then
  (aL p0.due n2).bind fun a3=>
  ((jW N) p0.agenda a3.2).bind fun r4=>
  (fI p0.due 0 n2).bind fun l5=>
  (bG l5).bind fun l6=>
  (fI p0.due (aA .i64 (n2+1)) (aa p0.due.length)).bind fun l7=>
  bif l7.isEmpty then
   some (aG.mk r0.now r0.field r1 r4 l6)
  else
   (aR l6 l7).bind fun l8=>
   some (aG.mk r0.now r0.field r1 r4 l8)
 else
  some (aG.mk r0.now r0.field r1 r0.agenda r0.due)
def aTY (N:Nat):aV:=⟨aC.cons (aF.agg bB) (aC.one (aF.int .i64)),aF.agg bB,fun a=>(I2 N) a.1 a.2,.frz,false⟩
theorem aKb (N:Nat):aB tab 313 (aTY N):=aB.of aHf (cx:=(aN (aK N) [(101,(aAw N)),(101,(QW N)),(366,(aTV N)),(367,(aRH N)),(368,(aRI N))] [] [] [])) rfl (aM.make ⟨(FH N),(BM N),(aJ8 N),(VG N),(VH N),trivial⟩ trivial trivial) (fun a=>by kernel_rfl)
def J5 (_:Nat) (s:(Int×(List (Int×Int×Int))×(List (Int×Int×Int)))):Option (aS (Int×(List (Int×Int×Int))×(List (Int×Int×Int))) Bool):=
 bif decide (s.1<(aa s.2.1.length)) then
  (aL s.2.1 s.1).bind fun a0=>
  (aL s.2.2 s.1).bind fun a1=>
  bif !((a0.1==a1.1)&&((a0.2.1==a1.2.1)&&(a0.2.2==a1.2.2))) then
   some (.done false)
  else
   some (.next (aA .i64 (s.1+1),s.2))
 else
  some (.done true)
def zH (N:Nat) (p0:Field) (p1:Field):Option Bool:=
 bif (aa p0.points.length) !=(aa p1.points.length) then
  some false
 else
  (aO N) (J5 N) (0,p0.points,p1.points)
def aRJ (N:Nat):aV:=⟨aC.cons (aF.agg aT) (aC.one (aF.agg aT)),aF.bool,fun a=>(zH N) a.1 a.2,.pure,false⟩
theorem VI (N:Nat):aB tab 210 (aRJ N):=aB.of aGo (cx:=(aN (aK N) [] [] [] [])) rfl (aM.make trivial trivial trivial) (fun a=>by kernel_rfl)
def zI (_:Nat) (p0:Bool) (p1:Bool×Int×Int) (p2:Bool×Int×Int):Option ((Int×Int)×Int):=
 bif decide (0<p1.2.1) then
  some ((0,0),16)
 else
  bif decide (9223372036854775807<p1.2.2) then
   some ((0,0),16)
  else
   bif decide (0<p2.2.1) then
    some ((0,0),16)
   else
    bif decide (9223372036854775807<p2.2.2) then
     some ((0,0),16)
    else
     bif p0 then
      some ((aA .i64 (0- (aA .i64 p1.2.2)),aA .i64 p2.2.2),0)
     else
      some ((aA .i64 p1.2.2,aA .i64 p2.2.2),0)
def aTZ (N:Nat):aV:=⟨aC.cons aF.bool (aC.cons (aF.agg (bE.row uP)) (aC.one (aF.agg (bE.row uP)))),aF.tup (aC.cons (aF.agg (bE.row cM)) (aC.one (aF.int .i64))),fun a=>(zI N) a.1 a.2.1 a.2.2,.pure,false⟩
theorem aKc (N:Nat):aB tab 415 (aTZ N):=aB.of aIq (cx:=(aN (aK N) [] [] [] [])) rfl (aM.make trivial trivial trivial) (fun a=>by kernel_rfl)
def I3 (N:Nat) (p0:Int) (p1:Int):Option ((Int×Int)×Int):=
 bif p1==0 then
  some ((0,0),26)
 else
  ((gD N) p0).bind fun n0=>
  ((gD N) p1).bind fun n1=>
  ((sU N) n0 n1).bind fun n2=>
  bif !((decide (p0<0))==(decide (p1<0))) then
   ((gD N) p0).bind fun n3=>
   bif n2==0 then
    none
   else
    ((gD N) p1).bind fun n4=>
    bif n2==0 then
     none
    else
     ((zI N) (p0 !=0) (false,0,aA .u64 (ac n3 n2)) (false,0,aA .u64 (ac n4 n2))).bind fun a5=>
     some a5
  else
   ((gD N) p0).bind fun n6=>
   bif n2==0 then
    none
   else
    ((gD N) p1).bind fun n7=>
    bif n2==0 then
     none
    else
     ((zI N) false (false,0,aA .u64 (ac n6 n2)) (false,0,aA .u64 (ac n7 n2))).bind fun a8=>
     some a8
def aT0 (N:Nat):aV:=⟨aC.cons (aF.int .i64) (aC.one (aF.int .i64)),aF.tup (aC.cons (aF.agg (bE.row cM)) (aC.one (aF.int .i64))),fun a=>(I3 N) a.1 a.2,.pure,false⟩
theorem aKd (N:Nat):aB tab 402 (aT0 N):=aB.of aIf (cx:=(aN (aK N) [(215,(aJX N)),(214,(aRC N)),(415,(aTZ N))] [] [] [])) rfl (aM.make ⟨(NL N),(VA N),(aKc N),trivial⟩ trivial trivial) (fun a=>by kernel_rfl)
def LL (N:Nat) (p0:Int×Int×Int) (p1:Int×Int×Int):Option (Int×Int):=
 ((I3 N) (aA .i64 (p0.2.1-p1.2.1)) (aA .i64 (p1.2.2-p0.2.2))).bind fun a0=>
 some a0.1
def aT1 (N:Nat):aV:=⟨aC.cons (aF.agg (bE.row bO)) (aC.one (aF.agg (bE.row bO))),aF.agg (bE.row cM),fun a=>(LL N) a.1 a.2,.pure,false⟩
theorem aKe (N:Nat):aB tab 373 (aT1 N):=aB.of aHV (cx:=(aN (aK N) [(402,(aT0 N))] [] [] [])) rfl (aM.make ⟨(aKd N),trivial⟩ trivial trivial) (fun a=>by kernel_rfl)
def yA (N:Nat) (p0:Int×Int×Int) (p1:Int×Int×Int) (p2:Int×Int):Option ((Int×Int)×Bool):=
 ((kU N) p1 p0 p2).bind fun b0=>
 bif b0 then
  some (p2,true)
 else
  bif decide (p0.2.2<p1.2.2) then
   ((LL N) p0 p1).bind fun a1=>
   some (a1,true)
  else
   some ((0,0),false)
def aT2 (N:Nat):aV:=⟨aC.cons (aF.agg (bE.row bO)) (aC.cons (aF.agg (bE.row bO)) (aC.one (aF.agg (bE.row cM)))),aF.tup (aC.cons (aF.agg (bE.row cM)) (aC.one aF.bool)),fun a=>(yA N) a.1 a.2.1 a.2.2,.pure,false⟩
theorem aKf (N:Nat):aB tab 322 (aT2 N):=aB.of aHm (cx:=(aN (aK N) [(324,(XI N)),(373,(aT1 N))] [] [] [])) rfl (aM.make ⟨(BI N),(aKe N),trivial⟩ trivial trivial) (fun a=>by kernel_rfl)
def zJ (N:Nat) (p0:Field) (p1:Int×Int) (p2:Int×Int):Option ((Int×Int)×Bool):=
 ((mR N) p0 p1.2).bind fun n0=>
 (aL p0.points n0).bind fun a1=>
 ((mR N) p0 p1.1).bind fun n2=>
 (aL p0.points n2).bind fun a3=>
 ((yA N) a1 a3 p2).bind fun a4=>
 some a4
def aRK (N:Nat):aV:=⟨aC.cons (aF.agg aT) (aC.cons (aF.agg (bE.row cM)) (aC.one (aF.agg (bE.row cM)))),aF.tup (aC.cons (aF.agg (bE.row cM)) (aC.one aF.bool)),fun a=>(zJ N) a.1 a.2.1 a.2.2,.pure,false⟩
theorem VJ (N:Nat):aB tab 223 (aRK N):=aB.of aGy (cx:=(aN (aK N) [(124,(aAq N)),(322,(aT2 N))] [] [] [])) rfl (aM.make ⟨(FD N),(aKf N),trivial⟩ trivial trivial) (fun a=>by kernel_rfl)
def BP (N:Nat) (c0:(Int×(List Int)×(List Bool)×(List Int)×(List (Int×Int×Int×Int×Int))×(List Int))) (s:(Int×(List Int)×(List Bool)×(List Int)×(List (Int×Int×Int×Int×Int))×(List Int))):Option (aS (Int×(List Int)×(List Bool)×(List Int)×(List (Int×Int×Int×Int×Int))×(List Int)) (Int×(List Int)×(List Bool)×(List Int)×(List (Int×Int×Int×Int×Int))×(List Int))):=
 bif decide (0<s.1) then
  (aL s.2.2.2.2.1 s.1).bind fun a0=>
  (aL s.2.2.2.2.1 (aA .i64 (ac (aA .i64 (s.1-1)) 2))).bind fun a1=>
  ((eO N) a0 a1).bind fun b2=>
  bif b2 then
   ((fF N) (s.1,aA .i64 (ac (aA .i64 (s.1-1)) 2),s.2)).bind fun a3=>
   some (.next (aA .i64 (ac (aA .i64 (s.1-1)) 2),a3))
  else
   bif s.2.1.length==c0.2.1.length then
    bif s.2.2.1.length==c0.2.2.1.length then
     bif s.2.2.2.1.length==c0.2.2.2.1.length then
      bif s.2.2.2.2.1.length==c0.2.2.2.2.1.length then
       bif s.2.2.2.2.2.length==c0.2.2.2.2.2.length then
        some (.done s)
       else
        none
      else
       none
     else
      none
    else
     none
   else
    none
 else
  bif s.2.1.length==c0.2.1.length then
   bif s.2.2.1.length==c0.2.2.1.length then
    bif s.2.2.2.1.length==c0.2.2.2.1.length then
     bif s.2.2.2.2.1.length==c0.2.2.2.2.1.length then
      bif s.2.2.2.2.2.length==c0.2.2.2.2.2.length then
       some (.done s)
      else
       none
     else
      none
    else
     none
   else
    none
  else
   none
def vW (N:Nat) (a:(Int×(List Int)×(List Bool)×(List Int)×(List (Int×Int×Int×Int×Int))×(List Int))):Option (Int×(List Int)×(List Bool)×(List Int)×(List (Int×Int×Int×Int×Int))×(List Int)):=
 (aO N) ((BP N) a) a
def S1 (N:Nat):cA:=⟨[.i,.l [.i .i64],.l [.b],.l [.i .i64],.l [.i .i64,.i .i64,.i .i64,.i .i64,.i .i64],.l [.i .i64]],[.agg [.own 0 false,.own 1 false,.own 2 false,.own 3 false,.own 4 false],.int .i64 0],[.arr [.i .i64] [],.arr [.b] [],.arr [.i .i64] [],.arr [.i .i64,.i .i64,.i .i64,.i .i64,.i .i64] [],.arr [.i .i64] []],[.i,.l [.i .i64],.l [.b],.l [.i .i64],.l [.i .i64,.i .i64,.i .i64,.i .i64,.i .i64],.l [.i .i64]],.int .i64 0,[.arr [.i .i64] [],.arr [.b] [],.arr [.i .i64] [],.arr [.i .i64,.i .i64,.i .i64,.i .i64,.i .i64] [],.arr [.i .i64] []],fun a=>(vW N) a⟩
theorem LM (N:Nat):eE tab 400 (S1 N):=eE.of M0 (wd:=false) (cx:=(aN (aK N) [(321,(XK N))] [(397,(zF N)),(397,(zG N))] [] [])) (aM.make ⟨(BN N),trivial⟩ ⟨(nS N),(nT N),trivial⟩ trivial) (fun a=>by kernel_rfl)
def wU (N:Nat) (c0:(Int×(List Int)×(List Bool)×(List Int)×(List (Int×Int×Int×Int×Int))×(List Int))) (s:(Int×(List Int)×(List Bool)×(List Int)×(List (Int×Int×Int×Int×Int))×(List Int))):Option (aS (Int×(List Int)×(List Bool)×(List Int)×(List (Int×Int×Int×Int×Int))×(List Int)) ((List Int)×(List Bool)×(List Int)×(List (Int×Int×Int×Int×Int))×(List Int))):=
 bif decide ((aa s.2.2.2.2.1.length)<=(aA .i64 ((aA .i64 (2*s.1))+1))) then
  bif s.2.1.length==c0.2.1.length then
   bif s.2.2.1.length==c0.2.2.1.length then
    bif s.2.2.2.1.length==c0.2.2.2.1.length then
     bif s.2.2.2.2.1.length==c0.2.2.2.2.1.length then
      bif s.2.2.2.2.2.length==c0.2.2.2.2.2.length then
       some (.done s.2)
      else
       none
     else
      none
    else
     none
   else
    none
  else
   none
 else
  bif decide ((aA .i64 ((aA .i64 ((aA .i64 (2*s.1))+1))+1))<(aa s.2.2.2.2.1.length)) then
   (aL s.2.2.2.2.1 (aA .i64 ((aA .i64 ((aA .i64 (2*s.1))+1))+1))).bind fun a0=>
   (aL s.2.2.2.2.1 (aA .i64 ((aA .i64 (2*s.1))+1))).bind fun a1=>
   ((eO N) a0 a1).bind fun b2=>
   bif b2 then
    (aL s.2.2.2.2.1 (aA .i64 ((aA .i64 ((aA .i64 (2*s.1))+1))+1))).bind fun a3=>
    (aL s.2.2.2.2.1 s.1).bind fun a4=>
    ((eO N) a3 a4).bind fun b5=>
    bif !b5 then
     bif s.2.1.length==c0.2.1.length then
      bif s.2.2.1.length==c0.2.2.1.length then
       bif s.2.2.2.1.length==c0.2.2.2.1.length then
        bif s.2.2.2.2.1.length==c0.2.2.2.2.1.length then
         bif s.2.2.2.2.2.length==c0.2.2.2.2.2.length then
          some (.done s.2)
         else
          none
        else
         none
       else
        none
      else
       none
     else
      none
    else
     ((fF N) (s.1,aA .i64 ((aA .i64 ((aA .i64 (2*s.1))+1))+1),s.2)).bind fun a6=>
     some (.next (aA .i64 ((aA .i64 ((aA .i64 (2*s.1))+1))+1),a6))
   else
    (aL s.2.2.2.2.1 (aA .i64 ((aA .i64 (2*s.1))+1))).bind fun a7=>
    (aL s.2.2.2.2.1 s.1).bind fun a8=>
    ((eO N) a7 a8).bind fun b9=>
    bif !b9 then
     bif s.2.1.length==c0.2.1.length then
      bif s.2.2.1.length==c0.2.2.1.length then
       bif s.2.2.2.1.length==c0.2.2.2.1.length then
        bif s.2.2.2.2.1.length==c0.2.2.2.2.1.length then
         bif s.2.2.2.2.2.length==c0.2.2.2.2.2.length then
          some (.done s.2)
         else
          none
        else
         none
       else
        none
      else
       none
     else
      none
    else
     ((fF N) (s.1,aA .i64 ((aA .i64 (2*s.1))+1),s.2)).bind fun a10=>
     some (.next (aA .i64 ((aA .i64 (2*s.1))+1),a10))
  else
   (aL s.2.2.2.2.1 (aA .i64 ((aA .i64 (2*s.1))+1))).bind fun a11=>
   (aL s.2.2.2.2.1 s.1).bind fun a12=>
   ((eO N) a11 a12).bind fun b13=>
   bif !b13 then
    bif s.2.1.length==c0.2.1.length then
     bif s.2.2.1.length==c0.2.2.1.length then
      bif s.2.2.2.1.length==c0.2.2.2.1.length then
       bif s.2.2.2.2.1.length==c0.2.2.2.2.1.length then
        bif s.2.2.2.2.2.length==c0.2.2.2.2.2.length then
         some (.done s.2)
        else
         none
       else
        none
      else
       none
     else
      none
    else
     none
   else
    ((fF N) (s.1,aA .i64 ((aA .i64 (2*s.1))+1),s.2)).bind fun a14=>
    some (.next (aA .i64 ((aA .i64 (2*s.1))+1),a14))
def rC (N:Nat) (a:(Int×(List Int)×(List Bool)×(List Int)×(List (Int×Int×Int×Int×Int))×(List Int))):Option ((List Int)×(List Bool)×(List Int)×(List (Int×Int×Int×Int×Int))×(List Int)):=
 (aO N) ((wU N) a) a
def aAx (N:Nat):cA:=⟨[.i,.l [.i .i64],.l [.b],.l [.i .i64],.l [.i .i64,.i .i64,.i .i64,.i .i64,.i .i64],.l [.i .i64]],[.agg [.own 0 false,.own 1 false,.own 2 false,.own 3 false,.own 4 false],.int .i64 0],[.arr [.i .i64] [],.arr [.b] [],.arr [.i .i64] [],.arr [.i .i64,.i .i64,.i .i64,.i .i64,.i .i64] [],.arr [.i .i64] []],[.l [.i .i64],.l [.b],.l [.i .i64],.l [.i .i64,.i .i64,.i .i64,.i .i64,.i .i64],.l [.i .i64]],.tup [],[.arr [.i .i64] [],.arr [.b] [],.arr [.i .i64] [],.arr [.i .i64,.i .i64,.i .i64,.i .i64,.i .i64] [],.arr [.i .i64] []],fun a=>(rC N) a⟩
theorem XL (N:Nat):eE tab 399 (aAx N):=eE.of UP (wd:=false) (cx:=(aN (aK N) [(321,(XK N))] [(397,(zF N)),(397,(zG N))] [] [])) (aM.make ⟨(BN N),trivial⟩ ⟨(nS N),(nT N),trivial⟩ trivial) (fun a=>by kernel_rfl)
def yB (N:Nat) (p0:aE) (p1:Int×Int) (p2:Int×Int):Option aE:=
 ((lW N) p0).bind fun r0=>
 (aL r0.where_ p1.1).bind fun n1=>
 (aL r0.heap n1).bind fun a2=>
 ((vW N) (n1,r0.slots.uses,r0.slots.used,r0.slots.free,aZ r0.heap n1 (p2.1,p2.2,a2.2.2),r0.where_)).bind fun a3=>
 ((rC N) a3).bind fun a4=>
 some (aE.mk (aH.mk a4.1 a4.2.1 a4.2.2.1) a4.2.2.2.1 a4.2.2.2.2)
def aT3 (N:Nat):aV:=⟨aC.cons (aF.agg cE) (aC.cons (aF.agg (bE.row cM)) (aC.one (aF.agg (bE.row cM)))),aF.agg cE,fun a=>(yB N) a.1 a.2.1 a.2.2,.frz,false⟩
theorem aKg (N:Nat):aB tab 369 (aT3 N):=aB.of aHR (cx:=(aN (aK N) [(184,(XJ N)),(184,(LJ N))] [(400,(NN N)),(399,(S0 N)),(400,(S1 N)),(399,(aAx N))] [] [])) rfl (aM.make ⟨(BL N),(vT N),trivial⟩ ⟨(C3 N),(LK N),(LM N),(XL N),trivial⟩ trivial) (fun a=>by kernel_rfl)
def fL (_:Nat) (p0:aH):Option Bool:=
 bif decide (0<(aa p0.free.length)) then
  (aL p0.free (aA .i64 ((aa p0.free.length) -1))).bind fun n0=>
  (aL p0.uses n0).bind fun n1=>
  some (decide (n1<1000000))
 else
  some false
def aRL (N:Nat):aV:=⟨aC.one (aF.agg eZ),aF.bool,fun a=>(fL N) a,.pure,false⟩
theorem VK (N:Nat):aB tab 370 (aRL N):=aB.of aHS (cx:=(aN (aK N) [] [] [] [])) rfl (aM.make trivial trivial trivial) (fun a=>by kernel_rfl)
def D3 (N:Nat) (p0:aH):Option (aH×(Int×Int)):=
 ((oO N) p0).bind fun r0=>
 (aL r0.free (aA .i64 ((aa r0.free.length) -1))).bind fun n1=>
 (fI r0.free 0 (aA .i64 ((aa r0.free.length) -1))).bind fun _=>
 (aL r0.uses n1).bind fun n3=>
 (aL r0.uses n1).bind fun _=>
 (aL r0.used n1).bind fun _=>
 (aL (aZ r0.uses n1 (aA .i64 (n3+1))) n1).bind fun n6=>
 some (aH.mk (aZ r0.uses n1 (aA .i64 (n3+1))) (aZ r0.used n1 true) (r0.free.take ((aA .i64 ((aa r0.free.length) -1)).toNat)),n1,n6)
def aT4 (N:Nat):aV:=⟨aC.one (aF.agg eZ),aF.tup (aC.cons (aF.agg eZ) (aC.one (aF.agg (bE.row cM)))),fun a=>(D3 N) a,.frz,false⟩
theorem aKh (N:Nat):aB tab 401 (aT4 N):=aB.of aIe (cx:=(aN (aK N) [(284,(aAv N)),(284,(QV N))] [] [] [])) rfl (aM.make ⟨(FG N),(BK N),trivial⟩ trivial trivial) (fun a=>by kernel_rfl)
def rD (_:Nat) (a:((List Int)×(List Bool)×(List Int)×Int×Int×(List (Int×Int×Int×Int×Int))×(List Int))):Option ((List (Int×Int×Int×Int×Int))×(List Int)):=
 (aL a.2.2.2.2.2.1 a.2.2.2.2.1).bind fun a0=>
 (aL a.2.2.2.2.2.1 a.2.2.2.1).bind fun a1=>
 (aL a.2.2.2.2.2.1 a.2.2.2.1).bind fun _=>
 (aL (aZ a.2.2.2.2.2.1 a.2.2.2.1 a0) a.2.2.2.2.1).bind fun _=>
 (aL (aZ (aZ a.2.2.2.2.2.1 a.2.2.2.1 a0) a.2.2.2.2.1 a1) a.2.2.2.1).bind fun a4=>
 (aL (aZ (aZ a.2.2.2.2.2.1 a.2.2.2.1 a0) a.2.2.2.2.1 a1) a.2.2.2.2.1).bind fun a5=>
 (aL a.2.2.2.2.2.2 a4.2.2.2.1).bind fun _=>
 (aL (aZ a.2.2.2.2.2.2 a4.2.2.2.1 a.2.2.2.1) a5.2.2.2.1).bind fun _=>
 bif ((aZ (aZ a.2.2.2.2.2.1 a.2.2.2.1 a0) a.2.2.2.2.1 a1).length)==a.2.2.2.2.2.1.length then
  bif ((aZ (aZ a.2.2.2.2.2.2 a4.2.2.2.1 a.2.2.2.1) a5.2.2.2.1 a.2.2.2.2.1).length)==a.2.2.2.2.2.2.length then
   some (aZ (aZ a.2.2.2.2.2.1 a.2.2.2.1 a0) a.2.2.2.2.1 a1,aZ (aZ a.2.2.2.2.2.2 a4.2.2.2.1 a.2.2.2.1) a5.2.2.2.1 a.2.2.2.2.1)
  else
   none
 else
  none
def aAy (N:Nat):cA:=⟨[.l [.i .i64],.l [.b],.l [.i .i64],.i,.i,.l [.i .i64,.i .i64,.i .i64,.i .i64,.i .i64],.l [.i .i64]],[.agg [.sl [.i .i64] [],.sl [.b] [],.sl [.i .i64] [],.own 0 false,.own 1 false],.int .i64 0,.int .i64 0],[.arr [.i .i64,.i .i64,.i .i64,.i .i64,.i .i64] [],.arr [.i .i64] []],[.l [.i .i64,.i .i64,.i .i64,.i .i64,.i .i64],.l [.i .i64]],.tup [],[.arr [.i .i64,.i .i64,.i .i64,.i .i64,.i .i64] [],.arr [.i .i64] []],fun a=>(rD N) a⟩
theorem XM (N:Nat):eE tab 397 (aAy N):=eE.of MZ (wd:=false) (cx:=(aN (aK N) [] [] [] [])) (aM.make trivial trivial trivial) (fun a=>by kernel_rfl)
def BQ (N:Nat) (c0:((List Int)×(List Bool)×(List Int)×Int×(List (Int×Int×Int×Int×Int))×(List Int))) (s:(Int×(List (Int×Int×Int×Int×Int))×(List Int)×(List Int)×(List Bool)×(List Int))):Option (aS (Int×(List (Int×Int×Int×Int×Int))×(List Int)×(List Int)×(List Bool)×(List Int)) (Int×(List (Int×Int×Int×Int×Int))×(List Int))):=
 bif decide (0<s.1) then
  (aL s.2.1 s.1).bind fun a0=>
  (aL s.2.1 (aA .i64 (ac (aA .i64 (s.1-1)) 2))).bind fun a1=>
  ((eO N) a0 a1).bind fun b2=>
  bif b2 then
   ((rD N) (s.2.2.2.1,s.2.2.2.2.1,s.2.2.2.2.2,s.1,aA .i64 (ac (aA .i64 (s.1-1)) 2),s.2.1,s.2.2.1)).bind fun a3=>
   some (.next (aA .i64 (ac (aA .i64 (s.1-1)) 2),a3.1,a3.2,s.2.2.2))
  else
   bif s.2.1.length==c0.2.2.2.2.1.length then
    bif s.2.2.1.length==c0.2.2.2.2.2.length then
     some (.done (s.1,s.2.1,s.2.2.1))
    else
     none
   else
    none
 else
  bif s.2.1.length==c0.2.2.2.2.1.length then
   bif s.2.2.1.length==c0.2.2.2.2.2.length then
    some (.done (s.1,s.2.1,s.2.2.1))
   else
    none
  else
   none
def vX (N:Nat) (a:((List Int)×(List Bool)×(List Int)×Int×(List (Int×Int×Int×Int×Int))×(List Int))):Option (Int×(List (Int×Int×Int×Int×Int))×(List Int)):=
 (aO N) ((BQ N) a) (a.2.2.2.1,a.2.2.2.2.1,a.2.2.2.2.2,a.1,a.2.1,a.2.2.1)
def aAz (N:Nat):cA:=⟨[.l [.i .i64],.l [.b],.l [.i .i64],.i,.l [.i .i64,.i .i64,.i .i64,.i .i64,.i .i64],.l [.i .i64]],[.agg [.sl [.i .i64] [],.sl [.b] [],.sl [.i .i64] [],.own 0 false,.own 1 false],.int .i64 0],[.arr [.i .i64,.i .i64,.i .i64,.i .i64,.i .i64] [],.arr [.i .i64] []],[.i,.l [.i .i64,.i .i64,.i .i64,.i .i64,.i .i64],.l [.i .i64]],.int .i64 0,[.arr [.i .i64,.i .i64,.i .i64,.i .i64,.i .i64] [],.arr [.i .i64] []],fun a=>(vX N) a⟩
theorem XN (N:Nat):eE tab 400 (aAz N):=eE.of M0 (wd:=true) (cx:=(aN (aK N) [(321,(XK N))] [(397,(zF N)),(397,(zG N)),(397,(aAy N))] [] [])) (aM.make ⟨(BN N),trivial⟩ ⟨(nS N),(nT N),(XM N),trivial⟩ trivial) (fun a=>by kernel_rfl)
def dR (N:Nat) (p0:aE) (p1:Int×Int) (p2:Int):Option (aE×(Int×Int)):=
 ((lW N) p0).bind fun r0=>
 ((D3 N) r0.slots).bind fun a1=>
 (aR r0.heap [(p1.1,p1.2,p2,a1.2)]).bind fun l2=>
 (aL r0.where_ a1.2.1).bind fun _=>
 ((vX N) (a1.1.uses,a1.1.used,a1.1.free,aA .i64 ((aa l2.length) -1),l2,aZ r0.where_ a1.2.1 (aA .i64 ((aa l2.length) -1)))).bind fun a4=>
 some (aE.mk a1.1 a4.2.1 a4.2.2,a1.2)
def aRM (N:Nat):aV:=⟨aC.cons (aF.agg cE) (aC.cons (aF.agg (bE.row cM)) (aC.one (aF.int .i64))),aF.tup (aC.cons (aF.agg cE) (aC.one (aF.agg (bE.row cM)))),fun a=>(dR N) a.1 a.2.1 a.2.2,.frz,false⟩
theorem VL (N:Nat):aB tab 371 (aRM N):=aB.of aHT (cx:=(aN (aK N) [(184,(XJ N)),(184,(LJ N)),(401,(aT4 N))] [(400,(NN N)),(400,(S1 N)),(400,(aAz N))] [] [])) rfl (aM.make ⟨(BL N),(vT N),(aKh N),trivial⟩ ⟨(C3 N),(LM N),(XN N),trivial⟩ trivial) (fun a=>by kernel_rfl)
def C4 (N:Nat) (s:(Int×Int×Int×(List (Int×Int×Int))×Int×(List (Int×Int×Int))×(List Int)×(List Bool)×(List Int)×(List (Int×Int×Int×Int×Int))×(List Int)×(List (Int×Int×Int))×(List (Int×Int×Int))×Int×Int×Int×Int×Int×(List (Int×Int×Int))×Int×(List (Int×Int×Int))×(List Int)×(List Bool)×(List Int)×(List (Int×Int×Int×Int×Int))×(List Int)×(List (Int×Int×Int)))):Option (aS (Int×Int×Int×(List (Int×Int×Int))×Int×(List (Int×Int×Int))×(List Int)×(List Bool)×(List Int)×(List (Int×Int×Int×Int×Int))×(List Int)×(List (Int×Int×Int))×(List (Int×Int×Int))×Int×Int×Int×Int×Int×(List (Int×Int×Int))×Int×(List (Int×Int×Int))×(List Int)×(List Bool)×(List Int)×(List (Int×Int×Int×Int×Int))×(List Int)×(List (Int×Int×Int))) (aG×Int)):=
 bif decide (s.1<(aa s.2.2.2.2.2.1.length)) then
  (aL s.2.2.2.2.2.1 s.1).bind fun a0=>
  ((vU N) (aG.mk (s.2.1,s.2.2.1) (Field.mk s.2.2.2.1) (aI.mk s.2.2.2.2.1 s.2.2.2.2.2.1) (aE.mk (aH.mk s.2.2.2.2.2.2.1 s.2.2.2.2.2.2.2.1 s.2.2.2.2.2.2.2.2.1) s.2.2.2.2.2.2.2.2.2.1 s.2.2.2.2.2.2.2.2.2.2.1) s.2.2.2.2.2.2.2.2.2.2.2.1) a0.1).bind fun n1=>
  ((zJ N) (Field.mk s.2.2.2.2.2.2.2.2.2.2.2.2.1) a0.2 (s.2.1,s.2.2.1)).bind fun a2=>
  bif a2.2 then
   bif decide (0<=n1) then
    (aL s.2.2.2.2.2.2.2.2.2.2.2.1 n1).bind fun a3=>
    ((yB N) (aE.mk (aH.mk s.2.2.2.2.2.2.2.2.2.2.2.2.2.2.2.2.2.2.2.2.2.1 s.2.2.2.2.2.2.2.2.2.2.2.2.2.2.2.2.2.2.2.2.2.2.1 s.2.2.2.2.2.2.2.2.2.2.2.2.2.2.2.2.2.2.2.2.2.2.2.1) s.2.2.2.2.2.2.2.2.2.2.2.2.2.2.2.2.2.2.2.2.2.2.2.2.1 s.2.2.2.2.2.2.2.2.2.2.2.2.2.2.2.2.2.2.2.2.2.2.2.2.2.1) a3.2 a2.1).bind fun r4=>
    (aL s.2.2.2.2.2.2.2.2.2.2.2.1 n1).bind fun a5=>
    (aR s.2.2.2.2.2.2.2.2.2.2.2.2.2.2.2.2.2.2.2.2.2.2.2.2.2.2 [a5]).bind fun l6=>
    bif !a2.2 then
     bif decide (0<=n1) then
      (aL s.2.2.2.2.2.2.2.2.2.2.2.1 n1).bind fun a7=>
      ((jW N) r4 a7.2).bind fun r8=>
      bif !a2.2 then
       some (.next (aA .i64 (s.1+1),s.2.1,s.2.2.1,s.2.2.2.1,s.2.2.2.2.1,s.2.2.2.2.2.1,s.2.2.2.2.2.2.1,s.2.2.2.2.2.2.2.1,s.2.2.2.2.2.2.2.2.1,s.2.2.2.2.2.2.2.2.2.1,s.2.2.2.2.2.2.2.2.2.2.1,s.2.2.2.2.2.2.2.2.2.2.2.1,s.2.2.2.2.2.2.2.2.2.2.2.2.1,s.2.2.2.2.2.2.2.2.2.2.2.2.2.1,s.2.2.2.2.2.2.2.2.2.2.2.2.2.2.1,s.2.2.2.2.2.2.2.2.2.2.2.2.2.2.2.1,s.2.2.2.2.2.2.2.2.2.2.2.2.2.2.2.2.1,s.2.2.2.2.2.2.2.2.2.2.2.2.2.2.2.2.2.1,s.2.2.2.2.2.2.2.2.2.2.2.2.2.2.2.2.2.2.1,s.2.2.2.2.2.2.2.2.2.2.2.2.2.2.2.2.2.2.2.1,s.2.2.2.2.2.2.2.2.2.2.2.2.2.2.2.2.2.2.2.2.1,r8.slots.uses,r8.slots.used,r8.slots.free,r8.heap,r8.where_,l6))
      else
       bif decide (0<=n1) then
        some (.next (aA .i64 (s.1+1),s.2.1,s.2.2.1,s.2.2.2.1,s.2.2.2.2.1,s.2.2.2.2.2.1,s.2.2.2.2.2.2.1,s.2.2.2.2.2.2.2.1,s.2.2.2.2.2.2.2.2.1,s.2.2.2.2.2.2.2.2.2.1,s.2.2.2.2.2.2.2.2.2.2.1,s.2.2.2.2.2.2.2.2.2.2.2.1,s.2.2.2.2.2.2.2.2.2.2.2.2.1,s.2.2.2.2.2.2.2.2.2.2.2.2.2.1,s.2.2.2.2.2.2.2.2.2.2.2.2.2.2.1,s.2.2.2.2.2.2.2.2.2.2.2.2.2.2.2.1,s.2.2.2.2.2.2.2.2.2.2.2.2.2.2.2.2.1,s.2.2.2.2.2.2.2.2.2.2.2.2.2.2.2.2.2.1,s.2.2.2.2.2.2.2.2.2.2.2.2.2.2.2.2.2.2.1,s.2.2.2.2.2.2.2.2.2.2.2.2.2.2.2.2.2.2.2.1,s.2.2.2.2.2.2.2.2.2.2.2.2.2.2.2.2.2.2.2.2.1,r8.slots.uses,r8.slots.used,r8.slots.free,r8.heap,r8.where_,l6))
       else
        ((fL N) r8.slots).bind fun b9=>
        bif !b9 then
         some (.done (aG.mk (0,0) (Field.mk []) (aI.mk 0 []) (aE.mk (aH.mk [] [] []) [] []) [],18))
        else
         ((dR N) r8 a2.1 a0.1).bind fun a10=>
         (aR l6 [(a0.1,a10.2)]).bind fun l11=>
         some (.next (aA .i64 (s.1+1),s.2.1,s.2.2.1,s.2.2.2.1,s.2.2.2.2.1,s.2.2.2.2.2.1,s.2.2.2.2.2.2.1,s.2.2.2.2.2.2.2.1,s.2.2.2.2.2.2.2.2.1,s.2.2.2.2.2.2.2.2.2.1,s.2.2.2.2.2.2.2.2.2.2.1,s.2.2.2.2.2.2.2.2.2.2.2.1,s.2.2.2.2.2.2.2.2.2.2.2.2.1,s.2.2.2.2.2.2.2.2.2.2.2.2.2.1,s.2.2.2.2.2.2.2.2.2.2.2.2.2.2.1,s.2.2.2.2.2.2.2.2.2.2.2.2.2.2.2.1,s.2.2.2.2.2.2.2.2.2.2.2.2.2.2.2.2.1,s.2.2.2.2.2.2.2.2.2.2.2.2.2.2.2.2.2.1,s.2.2.2.2.2.2.2.2.2.2.2.2.2.2.2.2.2.2.1,s.2.2.2.2.2.2.2.2.2.2.2.2.2.2.2.2.2.2.2.1,s.2.2.2.2.2.2.2.2.2.2.2.2.2.2.2.2.2.2.2.2.1,a10.1.slots.uses,a10.1.slots.used,a10.1.slots.free,a10.1.heap,a10.1.where_,l11))
     else
      bif !a2.2 then
       some (.next (aA .i64 (s.1+1),s.2.1,s.2.2.1,s.2.2.2.1,s.2.2.2.2.1,s.2.2.2.2.2.1,s.2.2.2.2.2.2.1,s.2.2.2.2.2.2.2.1,s.2.2.2.2.2.2.2.2.1,s.2.2.2.2.2.2.2.2.2.1,s.2.2.2.2.2.2.2.2.2.2.1,s.2.2.2.2.2.2.2.2.2.2.2.1,s.2.2.2.2.2.2.2.2.2.2.2.2.1,s.2.2.2.2.2.2.2.2.2.2.2.2.2.1,s.2.2.2.2.2.2.2.2.2.2.2.2.2.2.1,s.2.2.2.2.2.2.2.2.2.2.2.2.2.2.2.1,s.2.2.2.2.2.2.2.2.2.2.2.2.2.2.2.2.1,s.2.2.2.2.2.2.2.2.2.2.2.2.2.2.2.2.2.1,s.2.2.2.2.2.2.2.2.2.2.2.2.2.2.2.2.2.2.1,s.2.2.2.2.2.2.2.2.2.2.2.2.2.2.2.2.2.2.2.1,s.2.2.2.2.2.2.2.2.2.2.2.2.2.2.2.2.2.2.2.2.1,r4.slots.uses,r4.slots.used,r4.slots.free,r4.heap,r4.where_,l6))
      else
       bif decide (0<=n1) then
        some (.next (aA .i64 (s.1+1),s.2.1,s.2.2.1,s.2.2.2.1,s.2.2.2.2.1,s.2.2.2.2.2.1,s.2.2.2.2.2.2.1,s.2.2.2.2.2.2.2.1,s.2.2.2.2.2.2.2.2.1,s.2.2.2.2.2.2.2.2.2.1,s.2.2.2.2.2.2.2.2.2.2.1,s.2.2.2.2.2.2.2.2.2.2.2.1,s.2.2.2.2.2.2.2.2.2.2.2.2.1,s.2.2.2.2.2.2.2.2.2.2.2.2.2.1,s.2.2.2.2.2.2.2.2.2.2.2.2.2.2.1,s.2.2.2.2.2.2.2.2.2.2.2.2.2.2.2.1,s.2.2.2.2.2.2.2.2.2.2.2.2.2.2.2.2.1,s.2.2.2.2.2.2.2.2.2.2.2.2.2.2.2.2.2.1,s.2.2.2.2.2.2.2.2.2.2.2.2.2.2.2.2.2.2.1,s.2.2.2.2.2.2.2.2.2.2.2.2.2.2.2.2.2.2.2.1,s.2.2.2.2.2.2.2.2.2.2.2.2.2.2.2.2.2.2.2.2.1,r4.slots.uses,r4.slots.used,r4.slots.free,r4.heap,r4.where_,l6))
       else
        ((fL N) r4.slots).bind fun b12=>
        bif !b12 then
         some (.done (aG.mk (0,0) (Field.mk []) (aI.mk 0 []) (aE.mk (aH.mk [] [] []) [] []) [],18))
        else
         ((dR N) r4 a2.1 a0.1).bind fun a13=>
         (aR l6 [(a0.1,a13.2)]).bind fun l14=>
         some (.next (aA .i64 (s.1+1),s.2.1,s.2.2.1,s.2.2.2.1,s.2.2.2.2.1,s.2.2.2.2.2.1,s.2.2.2.2.2.2.1,s.2.2.2.2.2.2.2.1,s.2.2.2.2.2.2.2.2.1,s.2.2.2.2.2.2.2.2.2.1,s.2.2.2.2.2.2.2.2.2.2.1,s.2.2.2.2.2.2.2.2.2.2.2.1,s.2.2.2.2.2.2.2.2.2.2.2.2.1,s.2.2.2.2.2.2.2.2.2.2.2.2.2.1,s.2.2.2.2.2.2.2.2.2.2.2.2.2.2.1,s.2.2.2.2.2.2.2.2.2.2.2.2.2.2.2.1,s.2.2.2.2.2.2.2.2.2.2.2.2.2.2.2.2.1,s.2.2.2.2.2.2.2.2.2.2.2.2.2.2.2.2.2.1,s.2.2.2.2.2.2.2.2.2.2.2.2.2.2.2.2.2.2.1,s.2.2.2.2.2.2.2.2.2.2.2.2.2.2.2.2.2.2.2.1,s.2.2.2.2.2.2.2.2.2.2.2.2.2.2.2.2.2.2.2.2.1,a13.1.slots.uses,a13.1.slots.used,a13.1.slots.free,a13.1.heap,a13.1.where_,l14))
    else
     bif !a2.2 then
      some (.next (aA .i64 (s.1+1),s.2.1,s.2.2.1,s.2.2.2.1,s.2.2.2.2.1,s.2.2.2.2.2.1,s.2.2.2.2.2.2.1,s.2.2.2.2.2.2.2.1,s.2.2.2.2.2.2.2.2.1,s.2.2.2.2.2.2.2.2.2.1,s.2.2.2.2.2.2.2.2.2.2.1,s.2.2.2.2.2.2.2.2.2.2.2.1,s.2.2.2.2.2.2.2.2.2.2.2.2.1,s.2.2.2.2.2.2.2.2.2.2.2.2.2.1,s.2.2.2.2.2.2.2.2.2.2.2.2.2.2.1,s.2.2.2.2.2.2.2.2.2.2.2.2.2.2.2.1,s.2.2.2.2.2.2.2.2.2.2.2.2.2.2.2.2.1,s.2.2.2.2.2.2.2.2.2.2.2.2.2.2.2.2.2.1,s.2.2.2.2.2.2.2.2.2.2.2.2.2.2.2.2.2.2.1,s.2.2.2.2.2.2.2.2.2.2.2.2.2.2.2.2.2.2.2.1,s.2.2.2.2.2.2.2.2.2.2.2.2.2.2.2.2.2.2.2.2.1,r4.slots.uses,r4.slots.used,r4.slots.free,r4.heap,r4.where_,l6))
     else
      bif decide (0<=n1) then
       some (.next (aA .i64 (s.1+1),s.2.1,s.2.2.1,s.2.2.2.1,s.2.2.2.2.1,s.2.2.2.2.2.1,s.2.2.2.2.2.2.1,s.2.2.2.2.2.2.2.1,s.2.2.2.2.2.2.2.2.1,s.2.2.2.2.2.2.2.2.2.1,s.2.2.2.2.2.2.2.2.2.2.1,s.2.2.2.2.2.2.2.2.2.2.2.1,s.2.2.2.2.2.2.2.2.2.2.2.2.1,s.2.2.2.2.2.2.2.2.2.2.2.2.2.1,s.2.2.2.2.2.2.2.2.2.2.2.2.2.2.1,s.2.2.2.2.2.2.2.2.2.2.2.2.2.2.2.1,s.2.2.2.2.2.2.2.2.2.2.2.2.2.2.2.2.1,s.2.2.2.2.2.2.2.2.2.2.2.2.2.2.2.2.2.1,s.2.2.2.2.2.2.2.2.2.2.2.2.2.2.2.2.2.2.1,s.2.2.2.2.2.2.2.2.2.2.2.2.2.2.2.2.2.2.2.1,s.2.2.2.2.2.2.2.2.2.2.2.2.2.2.2.2.2.2.2.2.1,r4.slots.uses,r4.slots.used,r4.slots.free,r4.heap,r4.where_,l6))
      else
       ((fL N) r4.slots).bind fun b15=>
       bif !b15 then
        some (.done (aG.mk (0,0) (Field.mk []) (aI.mk 0 []) (aE.mk (aH.mk [] [] []) [] []) [],18))
       else
        ((dR N) r4 a2.1 a0.1).bind fun a16=>
        (aR l6 [(a0.1,a16.2)]).bind fun l17=>
        some (.next (aA .i64 (s.1+1),s.2.1,s.2.2.1,s.2.2.2.1,s.2.2.2.2.1,s.2.2.2.2.2.1,s.2.2.2.2.2.2.1,s.2.2.2.2.2.2.2.1,s.2.2.2.2.2.2.2.2.1,s.2.2.2.2.2.2.2.2.2.1,s.2.2.2.2.2.2.2.2.2.2.1,s.2.2.2.2.2.2.2.2.2.2.2.1,s.2.2.2.2.2.2.2.2.2.2.2.2.1,s.2.2.2.2.2.2.2.2.2.2.2.2.2.1,s.2.2.2.2.2.2.2.2.2.2.2.2.2.2.1,s.2.2.2.2.2.2.2.2.2.2.2.2.2.2.2.1,s.2.2.2.2.2.2.2.2.2.2.2.2.2.2.2.2.1,s.2.2.2.2.2.2.2.2.2.2.2.2.2.2.2.2.2.1,s.2.2.2.2.2.2.2.2.2.2.2.2.2.2.2.2.2.2.1,s.2.2.2.2.2.2.2.2.2.2.2.2.2.2.2.2.2.2.2.1,s.2.2.2.2.2.2.2.2.2.2.2.2.2.2.2.2.2.2.2.2.1,a16.1.slots.uses,a16.1.slots.used,a16.1.slots.free,a16.1.heap,a16.1.where_,l17))
   else
    bif !a2.2 then
     bif decide (0<=n1) then
      (aL s.2.2.2.2.2.2.2.2.2.2.2.1 n1).bind fun a18=>
      ((jW N) (aE.mk (aH.mk s.2.2.2.2.2.2.2.2.2.2.2.2.2.2.2.2.2.2.2.2.2.1 s.2.2.2.2.2.2.2.2.2.2.2.2.2.2.2.2.2.2.2.2.2.2.1 s.2.2.2.2.2.2.2.2.2.2.2.2.2.2.2.2.2.2.2.2.2.2.2.1) s.2.2.2.2.2.2.2.2.2.2.2.2.2.2.2.2.2.2.2.2.2.2.2.2.1 s.2.2.2.2.2.2.2.2.2.2.2.2.2.2.2.2.2.2.2.2.2.2.2.2.2.1) a18.2).bind fun r19=>
      bif !a2.2 then
       some (.next (aA .i64 (s.1+1),s.2.1,s.2.2.1,s.2.2.2.1,s.2.2.2.2.1,s.2.2.2.2.2.1,s.2.2.2.2.2.2.1,s.2.2.2.2.2.2.2.1,s.2.2.2.2.2.2.2.2.1,s.2.2.2.2.2.2.2.2.2.1,s.2.2.2.2.2.2.2.2.2.2.1,s.2.2.2.2.2.2.2.2.2.2.2.1,s.2.2.2.2.2.2.2.2.2.2.2.2.1,s.2.2.2.2.2.2.2.2.2.2.2.2.2.1,s.2.2.2.2.2.2.2.2.2.2.2.2.2.2.1,s.2.2.2.2.2.2.2.2.2.2.2.2.2.2.2.1,s.2.2.2.2.2.2.2.2.2.2.2.2.2.2.2.2.1,s.2.2.2.2.2.2.2.2.2.2.2.2.2.2.2.2.2.1,s.2.2.2.2.2.2.2.2.2.2.2.2.2.2.2.2.2.2.1,s.2.2.2.2.2.2.2.2.2.2.2.2.2.2.2.2.2.2.2.1,s.2.2.2.2.2.2.2.2.2.2.2.2.2.2.2.2.2.2.2.2.1,r19.slots.uses,r19.slots.used,r19.slots.free,r19.heap,r19.where_,s.2.2.2.2.2.2.2.2.2.2.2.2.2.2.2.2.2.2.2.2.2.2.2.2.2.2))
      else
       bif decide (0<=n1) then
        some (.next (aA .i64 (s.1+1),s.2.1,s.2.2.1,s.2.2.2.1,s.2.2.2.2.1,s.2.2.2.2.2.1,s.2.2.2.2.2.2.1,s.2.2.2.2.2.2.2.1,s.2.2.2.2.2.2.2.2.1,s.2.2.2.2.2.2.2.2.2.1,s.2.2.2.2.2.2.2.2.2.2.1,s.2.2.2.2.2.2.2.2.2.2.2.1,s.2.2.2.2.2.2.2.2.2.2.2.2.1,s.2.2.2.2.2.2.2.2.2.2.2.2.2.1,s.2.2.2.2.2.2.2.2.2.2.2.2.2.2.1,s.2.2.2.2.2.2.2.2.2.2.2.2.2.2.2.1,s.2.2.2.2.2.2.2.2.2.2.2.2.2.2.2.2.1,s.2.2.2.2.2.2.2.2.2.2.2.2.2.2.2.2.2.1,s.2.2.2.2.2.2.2.2.2.2.2.2.2.2.2.2.2.2.1,s.2.2.2.2.2.2.2.2.2.2.2.2.2.2.2.2.2.2.2.1,s.2.2.2.2.2.2.2.2.2.2.2.2.2.2.2.2.2.2.2.2.1,r19.slots.uses,r19.slots.used,r19.slots.free,r19.heap,r19.where_,s.2.2.2.2.2.2.2.2.2.2.2.2.2.2.2.2.2.2.2.2.2.2.2.2.2.2))
       else
        ((fL N) r19.slots).bind fun b20=>
        bif !b20 then
         some (.done (aG.mk (0,0) (Field.mk []) (aI.mk 0 []) (aE.mk (aH.mk [] [] []) [] []) [],18))
        else
         ((dR N) r19 a2.1 a0.1).bind fun a21=>
         (aR s.2.2.2.2.2.2.2.2.2.2.2.2.2.2.2.2.2.2.2.2.2.2.2.2.2.2 [(a0.1,a21.2)]).bind fun l22=>
         some (.next (aA .i64 (s.1+1),s.2.1,s.2.2.1,s.2.2.2.1,s.2.2.2.2.1,s.2.2.2.2.2.1,s.2.2.2.2.2.2.1,s.2.2.2.2.2.2.2.1,s.2.2.2.2.2.2.2.2.1,s.2.2.2.2.2.2.2.2.2.1,s.2.2.2.2.2.2.2.2.2.2.1,s.2.2.2.2.2.2.2.2.2.2.2.1,s.2.2.2.2.2.2.2.2.2.2.2.2.1,s.2.2.2.2.2.2.2.2.2.2.2.2.2.1,s.2.2.2.2.2.2.2.2.2.2.2.2.2.2.1,s.2.2.2.2.2.2.2.2.2.2.2.2.2.2.2.1,s.2.2.2.2.2.2.2.2.2.2.2.2.2.2.2.2.1,s.2.2.2.2.2.2.2.2.2.2.2.2.2.2.2.2.2.1,s.2.2.2.2.2.2.2.2.2.2.2.2.2.2.2.2.2.2.1,s.2.2.2.2.2.2.2.2.2.2.2.2.2.2.2.2.2.2.2.1,s.2.2.2.2.2.2.2.2.2.2.2.2.2.2.2.2.2.2.2.2.1,a21.1.slots.uses,a21.1.slots.used,a21.1.slots.free,a21.1.heap,a21.1.where_,l22))
     else
      bif !a2.2 then
       some (.next (aA .i64 (s.1+1),s.2))
      else
       bif decide (0<=n1) then
        some (.next (aA .i64 (s.1+1),s.2))
       else
        ((fL N) (aH.mk s.2.2.2.2.2.2.2.2.2.2.2.2.2.2.2.2.2.2.2.2.2.1 s.2.2.2.2.2.2.2.2.2.2.2.2.2.2.2.2.2.2.2.2.2.2.1 s.2.2.2.2.2.2.2.2.2.2.2.2.2.2.2.2.2.2.2.2.2.2.2.1)).bind fun b23=>
        bif !b23 then
         some (.done (aG.mk (0,0) (Field.mk []) (aI.mk 0 []) (aE.mk (aH.mk [] [] []) [] []) [],18))
        else
         ((dR N) (aE.mk (aH.mk s.2.2.2.2.2.2.2.2.2.2.2.2.2.2.2.2.2.2.2.2.2.1 s.2.2.2.2.2.2.2.2.2.2.2.2.2.2.2.2.2.2.2.2.2.2.1 s.2.2.2.2.2.2.2.2.2.2.2.2.2.2.2.2.2.2.2.2.2.2.2.1) s.2.2.2.2.2.2.2.2.2.2.2.2.2.2.2.2.2.2.2.2.2.2.2.2.1 s.2.2.2.2.2.2.2.2.2.2.2.2.2.2.2.2.2.2.2.2.2.2.2.2.2.1) a2.1 a0.1).bind fun a24=>
         (aR s.2.2.2.2.2.2.2.2.2.2.2.2.2.2.2.2.2.2.2.2.2.2.2.2.2.2 [(a0.1,a24.2)]).bind fun l25=>
         some (.next (aA .i64 (s.1+1),s.2.1,s.2.2.1,s.2.2.2.1,s.2.2.2.2.1,s.2.2.2.2.2.1,s.2.2.2.2.2.2.1,s.2.2.2.2.2.2.2.1,s.2.2.2.2.2.2.2.2.1,s.2.2.2.2.2.2.2.2.2.1,s.2.2.2.2.2.2.2.2.2.2.1,s.2.2.2.2.2.2.2.2.2.2.2.1,s.2.2.2.2.2.2.2.2.2.2.2.2.1,s.2.2.2.2.2.2.2.2.2.2.2.2.2.1,s.2.2.2.2.2.2.2.2.2.2.2.2.2.2.1,s.2.2.2.2.2.2.2.2.2.2.2.2.2.2.2.1,s.2.2.2.2.2.2.2.2.2.2.2.2.2.2.2.2.1,s.2.2.2.2.2.2.2.2.2.2.2.2.2.2.2.2.2.1,s.2.2.2.2.2.2.2.2.2.2.2.2.2.2.2.2.2.2.1,s.2.2.2.2.2.2.2.2.2.2.2.2.2.2.2.2.2.2.2.1,s.2.2.2.2.2.2.2.2.2.2.2.2.2.2.2.2.2.2.2.2.1,a24.1.slots.uses,a24.1.slots.used,a24.1.slots.free,a24.1.heap,a24.1.where_,l25))
    else
     bif !a2.2 then
      some (.next (aA .i64 (s.1+1),s.2))
     else
      bif decide (0<=n1) then
       some (.next (aA .i64 (s.1+1),s.2))
      else
       ((fL N) (aH.mk s.2.2.2.2.2.2.2.2.2.2.2.2.2.2.2.2.2.2.2.2.2.1 s.2.2.2.2.2.2.2.2.2.2.2.2.2.2.2.2.2.2.2.2.2.2.1 s.2.2.2.2.2.2.2.2.2.2.2.2.2.2.2.2.2.2.2.2.2.2.2.1)).bind fun b26=>
       bif !b26 then
        some (.done (aG.mk (0,0) (Field.mk []) (aI.mk 0 []) (aE.mk (aH.mk [] [] []) [] []) [],18))
       else
        ((dR N) (aE.mk (aH.mk s.2.2.2.2.2.2.2.2.2.2.2.2.2.2.2.2.2.2.2.2.2.1 s.2.2.2.2.2.2.2.2.2.2.2.2.2.2.2.2.2.2.2.2.2.2.1 s.2.2.2.2.2.2.2.2.2.2.2.2.2.2.2.2.2.2.2.2.2.2.2.1) s.2.2.2.2.2.2.2.2.2.2.2.2.2.2.2.2.2.2.2.2.2.2.2.2.1 s.2.2.2.2.2.2.2.2.2.2.2.2.2.2.2.2.2.2.2.2.2.2.2.2.2.1) a2.1 a0.1).bind fun a27=>
        (aR s.2.2.2.2.2.2.2.2.2.2.2.2.2.2.2.2.2.2.2.2.2.2.2.2.2.2 [(a0.1,a27.2)]).bind fun l28=>
        some (.next (aA .i64 (s.1+1),s.2.1,s.2.2.1,s.2.2.2.1,s.2.2.2.2.1,s.2.2.2.2.2.1,s.2.2.2.2.2.2.1,s.2.2.2.2.2.2.2.1,s.2.2.2.2.2.2.2.2.1,s.2.2.2.2.2.2.2.2.2.1,s.2.2.2.2.2.2.2.2.2.2.1,s.2.2.2.2.2.2.2.2.2.2.2.1,s.2.2.2.2.2.2.2.2.2.2.2.2.1,s.2.2.2.2.2.2.2.2.2.2.2.2.2.1,s.2.2.2.2.2.2.2.2.2.2.2.2.2.2.1,s.2.2.2.2.2.2.2.2.2.2.2.2.2.2.2.1,s.2.2.2.2.2.2.2.2.2.2.2.2.2.2.2.2.1,s.2.2.2.2.2.2.2.2.2.2.2.2.2.2.2.2.2.1,s.2.2.2.2.2.2.2.2.2.2.2.2.2.2.2.2.2.2.1,s.2.2.2.2.2.2.2.2.2.2.2.2.2.2.2.2.2.2.2.1,s.2.2.2.2.2.2.2.2.2.2.2.2.2.2.2.2.2.2.2.2.1,a27.1.slots.uses,a27.1.slots.used,a27.1.slots.free,a27.1.heap,a27.1.where_,l28))
  else
   bif !a2.2 then
    bif decide (0<=n1) then
     (aL s.2.2.2.2.2.2.2.2.2.2.2.1 n1).bind fun a29=>
     ((jW N) (aE.mk (aH.mk s.2.2.2.2.2.2.2.2.2.2.2.2.2.2.2.2.2.2.2.2.2.1 s.2.2.2.2.2.2.2.2.2.2.2.2.2.2.2.2.2.2.2.2.2.2.1 s.2.2.2.2.2.2.2.2.2.2.2.2.2.2.2.2.2.2.2.2.2.2.2.1) s.2.2.2.2.2.2.2.2.2.2.2.2.2.2.2.2.2.2.2.2.2.2.2.2.1 s.2.2.2.2.2.2.2.2.2.2.2.2.2.2.2.2.2.2.2.2.2.2.2.2.2.1) a29.2).bind fun r30=>
     bif !a2.2 then
      some (.next (aA .i64 (s.1+1),s.2.1,s.2.2.1,s.2.2.2.1,s.2.2.2.2.1,s.2.2.2.2.2.1,s.2.2.2.2.2.2.1,s.2.2.2.2.2.2.2.1,s.2.2.2.2.2.2.2.2.1,s.2.2.2.2.2.2.2.2.2.1,s.2.2.2.2.2.2.2.2.2.2.1,s.2.2.2.2.2.2.2.2.2.2.2.1,s.2.2.2.2.2.2.2.2.2.2.2.2.1,s.2.2.2.2.2.2.2.2.2.2.2.2.2.1,s.2.2.2.2.2.2.2.2.2.2.2.2.2.2.1,s.2.2.2.2.2.2.2.2.2.2.2.2.2.2.2.1,s.2.2.2.2.2.2.2.2.2.2.2.2.2.2.2.2.1,s.2.2.2.2.2.2.2.2.2.2.2.2.2.2.2.2.2.1,s.2.2.2.2.2.2.2.2.2.2.2.2.2.2.2.2.2.2.1,s.2.2.2.2.2.2.2.2.2.2.2.2.2.2.2.2.2.2.2.1,s.2.2.2.2.2.2.2.2.2.2.2.2.2.2.2.2.2.2.2.2.1,r30.slots.uses,r30.slots.used,r30.slots.free,r30.heap,r30.where_,s.2.2.2.2.2.2.2.2.2.2.2.2.2.2.2.2.2.2.2.2.2.2.2.2.2.2))
     else
      bif decide (0<=n1) then
       some (.next (aA .i64 (s.1+1),s.2.1,s.2.2.1,s.2.2.2.1,s.2.2.2.2.1,s.2.2.2.2.2.1,s.2.2.2.2.2.2.1,s.2.2.2.2.2.2.2.1,s.2.2.2.2.2.2.2.2.1,s.2.2.2.2.2.2.2.2.2.1,s.2.2.2.2.2.2.2.2.2.2.1,s.2.2.2.2.2.2.2.2.2.2.2.1,s.2.2.2.2.2.2.2.2.2.2.2.2.1,s.2.2.2.2.2.2.2.2.2.2.2.2.2.1,s.2.2.2.2.2.2.2.2.2.2.2.2.2.2.1,s.2.2.2.2.2.2.2.2.2.2.2.2.2.2.2.1,s.2.2.2.2.2.2.2.2.2.2.2.2.2.2.2.2.1,s.2.2.2.2.2.2.2.2.2.2.2.2.2.2.2.2.2.1,s.2.2.2.2.2.2.2.2.2.2.2.2.2.2.2.2.2.2.1,s.2.2.2.2.2.2.2.2.2.2.2.2.2.2.2.2.2.2.2.1,s.2.2.2.2.2.2.2.2.2.2.2.2.2.2.2.2.2.2.2.2.1,r30.slots.uses,r30.slots.used,r30.slots.free,r30.heap,r30.where_,s.2.2.2.2.2.2.2.2.2.2.2.2.2.2.2.2.2.2.2.2.2.2.2.2.2.2))
      else
       ((fL N) r30.slots).bind fun b31=>
       bif !b31 then
        some (.done (aG.mk (0,0) (Field.mk []) (aI.mk 0 []) (aE.mk (aH.mk [] [] []) [] []) [],18))
       else
        ((dR N) r30 a2.1 a0.1).bind fun a32=>
        (aR s.2.2.2.2.2.2.2.2.2.2.2.2.2.2.2.2.2.2.2.2.2.2.2.2.2.2 [(a0.1,a32.2)]).bind fun l33=>
        some (.next (aA .i64 (s.1+1),s.2.1,s.2.2.1,s.2.2.2.1,s.2.2.2.2.1,s.2.2.2.2.2.1,s.2.2.2.2.2.2.1,s.2.2.2.2.2.2.2.1,s.2.2.2.2.2.2.2.2.1,s.2.2.2.2.2.2.2.2.2.1,s.2.2.2.2.2.2.2.2.2.2.1,s.2.2.2.2.2.2.2.2.2.2.2.1,s.2.2.2.2.2.2.2.2.2.2.2.2.1,s.2.2.2.2.2.2.2.2.2.2.2.2.2.1,s.2.2.2.2.2.2.2.2.2.2.2.2.2.2.1,s.2.2.2.2.2.2.2.2.2.2.2.2.2.2.2.1,s.2.2.2.2.2.2.2.2.2.2.2.2.2.2.2.2.1,s.2.2.2.2.2.2.2.2.2.2.2.2.2.2.2.2.2.1,s.2.2.2.2.2.2.2.2.2.2.2.2.2.2.2.2.2.2.1,s.2.2.2.2.2.2.2.2.2.2.2.2.2.2.2.2.2.2.2.1,s.2.2.2.2.2.2.2.2.2.2.2.2.2.2.2.2.2.2.2.2.1,a32.1.slots.uses,a32.1.slots.used,a32.1.slots.free,a32.1.heap,a32.1.where_,l33))
    else
     bif !a2.2 then
      some (.next (aA .i64 (s.1+1),s.2))
     else
      bif decide (0<=n1) then
       some (.next (aA .i64 (s.1+1),s.2))
      else
       ((fL N) (aH.mk s.2.2.2.2.2.2.2.2.2.2.2.2.2.2.2.2.2.2.2.2.2.1 s.2.2.2.2.2.2.2.2.2.2.2.2.2.2.2.2.2.2.2.2.2.2.1 s.2.2.2.2.2.2.2.2.2.2.2.2.2.2.2.2.2.2.2.2.2.2.2.1)).bind fun b34=>
       bif !b34 then
        some (.done (aG.mk (0,0) (Field.mk []) (aI.mk 0 []) (aE.mk (aH.mk [] [] []) [] []) [],18))
       else
        ((dR N) (aE.mk (aH.mk s.2.2.2.2.2.2.2.2.2.2.2.2.2.2.2.2.2.2.2.2.2.1 s.2.2.2.2.2.2.2.2.2.2.2.2.2.2.2.2.2.2.2.2.2.2.1 s.2.2.2.2.2.2.2.2.2.2.2.2.2.2.2.2.2.2.2.2.2.2.2.1) s.2.2.2.2.2.2.2.2.2.2.2.2.2.2.2.2.2.2.2.2.2.2.2.2.1 s.2.2.2.2.2.2.2.2.2.2.2.2.2.2.2.2.2.2.2.2.2.2.2.2.2.1) a2.1 a0.1).bind fun a35=>
        (aR s.2.2.2.2.2.2.2.2.2.2.2.2.2.2.2.2.2.2.2.2.2.2.2.2.2.2 [(a0.1,a35.2)]).bind fun l36=>
        some (.next (aA .i64 (s.1+1),s.2.1,s.2.2.1,s.2.2.2.1,s.2.2.2.2.1,s.2.2.2.2.2.1,s.2.2.2.2.2.2.1,s.2.2.2.2.2.2.2.1,s.2.2.2.2.2.2.2.2.1,s.2.2.2.2.2.2.2.2.2.1,s.2.2.2.2.2.2.2.2.2.2.1,s.2.2.2.2.2.2.2.2.2.2.2.1,s.2.2.2.2.2.2.2.2.2.2.2.2.1,s.2.2.2.2.2.2.2.2.2.2.2.2.2.1,s.2.2.2.2.2.2.2.2.2.2.2.2.2.2.1,s.2.2.2.2.2.2.2.2.2.2.2.2.2.2.2.1,s.2.2.2.2.2.2.2.2.2.2.2.2.2.2.2.2.1,s.2.2.2.2.2.2.2.2.2.2.2.2.2.2.2.2.2.1,s.2.2.2.2.2.2.2.2.2.2.2.2.2.2.2.2.2.2.1,s.2.2.2.2.2.2.2.2.2.2.2.2.2.2.2.2.2.2.2.1,s.2.2.2.2.2.2.2.2.2.2.2.2.2.2.2.2.2.2.2.2.1,a35.1.slots.uses,a35.1.slots.used,a35.1.slots.free,a35.1.heap,a35.1.where_,l36))
   else
    bif !a2.2 then
     some (.next (aA .i64 (s.1+1),s.2))
    else
     bif decide (0<=n1) then
      some (.next (aA .i64 (s.1+1),s.2))
     else
      ((fL N) (aH.mk s.2.2.2.2.2.2.2.2.2.2.2.2.2.2.2.2.2.2.2.2.2.1 s.2.2.2.2.2.2.2.2.2.2.2.2.2.2.2.2.2.2.2.2.2.2.1 s.2.2.2.2.2.2.2.2.2.2.2.2.2.2.2.2.2.2.2.2.2.2.2.1)).bind fun b37=>
      bif !b37 then
       some (.done (aG.mk (0,0) (Field.mk []) (aI.mk 0 []) (aE.mk (aH.mk [] [] []) [] []) [],18))
      else
       ((dR N) (aE.mk (aH.mk s.2.2.2.2.2.2.2.2.2.2.2.2.2.2.2.2.2.2.2.2.2.1 s.2.2.2.2.2.2.2.2.2.2.2.2.2.2.2.2.2.2.2.2.2.2.1 s.2.2.2.2.2.2.2.2.2.2.2.2.2.2.2.2.2.2.2.2.2.2.2.1) s.2.2.2.2.2.2.2.2.2.2.2.2.2.2.2.2.2.2.2.2.2.2.2.2.1 s.2.2.2.2.2.2.2.2.2.2.2.2.2.2.2.2.2.2.2.2.2.2.2.2.2.1) a2.1 a0.1).bind fun a38=>
       (aR s.2.2.2.2.2.2.2.2.2.2.2.2.2.2.2.2.2.2.2.2.2.2.2.2.2.2 [(a0.1,a38.2)]).bind fun l39=>
       some (.next (aA .i64 (s.1+1),s.2.1,s.2.2.1,s.2.2.2.1,s.2.2.2.2.1,s.2.2.2.2.2.1,s.2.2.2.2.2.2.1,s.2.2.2.2.2.2.2.1,s.2.2.2.2.2.2.2.2.1,s.2.2.2.2.2.2.2.2.2.1,s.2.2.2.2.2.2.2.2.2.2.1,s.2.2.2.2.2.2.2.2.2.2.2.1,s.2.2.2.2.2.2.2.2.2.2.2.2.1,s.2.2.2.2.2.2.2.2.2.2.2.2.2.1,s.2.2.2.2.2.2.2.2.2.2.2.2.2.2.1,s.2.2.2.2.2.2.2.2.2.2.2.2.2.2.2.1,s.2.2.2.2.2.2.2.2.2.2.2.2.2.2.2.2.1,s.2.2.2.2.2.2.2.2.2.2.2.2.2.2.2.2.2.1,s.2.2.2.2.2.2.2.2.2.2.2.2.2.2.2.2.2.2.1,s.2.2.2.2.2.2.2.2.2.2.2.2.2.2.2.2.2.2.2.1,s.2.2.2.2.2.2.2.2.2.2.2.2.2.2.2.2.2.2.2.2.1,a38.1.slots.uses,a38.1.slots.used,a38.1.slots.free,a38.1.heap,a38.1.where_,l39))
 else
  some (.done (aG.mk (s.2.2.2.2.2.2.2.2.2.2.2.2.2.2.2.2.1,s.2.2.2.2.2.2.2.2.2.2.2.2.2.2.2.2.2.1) (Field.mk s.2.2.2.2.2.2.2.2.2.2.2.2.2.2.2.2.2.2.1) (aI.mk s.2.2.2.2.2.2.2.2.2.2.2.2.2.2.2.2.2.2.2.1 s.2.2.2.2.2.2.2.2.2.2.2.2.2.2.2.2.2.2.2.2.1) (aE.mk (aH.mk s.2.2.2.2.2.2.2.2.2.2.2.2.2.2.2.2.2.2.2.2.2.1 s.2.2.2.2.2.2.2.2.2.2.2.2.2.2.2.2.2.2.2.2.2.2.1 s.2.2.2.2.2.2.2.2.2.2.2.2.2.2.2.2.2.2.2.2.2.2.2.1) s.2.2.2.2.2.2.2.2.2.2.2.2.2.2.2.2.2.2.2.2.2.2.2.2.1 s.2.2.2.2.2.2.2.2.2.2.2.2.2.2.2.2.2.2.2.2.2.2.2.2.2.1) s.2.2.2.2.2.2.2.2.2.2.2.2.2.2.2.2.2.2.2.2.2.2.2.2.2.2,0))
def yC (N:Nat) (p0:aG) (p1:Field):Option (aG×Int):=
 ((lX N) p0).bind fun r0=>
 ((oN N) p1).bind fun r1=>
 (aO N) (C4 N) (0,p0.now.1,p0.now.2,p0.field.points,p0.certs.next_,p0.certs.list,p0.agenda.slots.uses,p0.agenda.slots.used,p0.agenda.slots.free,p0.agenda.heap,p0.agenda.where_,p0.due,p1.points,0,0,0,r0.now.1,r0.now.2,r1.points,r0.certs.next_,r0.certs.list,r0.agenda.slots.uses,r0.agenda.slots.used,r0.agenda.slots.free,r0.agenda.heap,r0.agenda.where_,[])
def aT5 (N:Nat):aV:=⟨aC.cons (aF.agg bB) (aC.one (aF.agg aT)),aF.tup (aC.cons (aF.agg bB) (aC.one (aF.int .i64))),fun a=>(yC N) a.1 a.2,.frz,false⟩
theorem aKi (N:Nat):aB tab 314 (aT5 N):=aB.of aHg (cx:=(aN (aK N) [(101,(aAw N)),(101,(QW N)),(182,(aAs N)),(182,(QT N)),(367,(aRH N)),(223,(aRK N)),(369,(aT3 N)),(368,(aRI N)),(370,(aRL N)),(371,(aRM N))] [] [] [])) rfl (aM.make ⟨(FH N),(BM N),(FE N),(BJ N),(VG N),(VJ N),(aKg N),(VH N),(VK N),(VL N),trivial⟩ trivial trivial) (fun a=>by kernel_rfl)
def NO (_:Nat) (s:(Int×Int×(List (Int×Int×Int))×Int×Int)):Option (aS (Int×Int×(List (Int×Int×Int))×Int×Int) Bool):=
 bif decide (s.1<(aa s.2.2.1.length)) then
  (aL s.2.2.1 s.1).bind fun a0=>
  bif (a0.2.1==s.2.2.2.1)&&(a0.2.2==s.2.2.2.2) then
   some (.done true)
  else
   some (.next (aA .i64 (s.1+1),s.2))
 else
  some (.done false)
def C5 (N:Nat) (p0:aI) (p1:Int×Int):Option Bool:=
 (aO N) (NO N) (0,p0.next_,p0.list,p1)
def aRN (N:Nat):aV:=⟨aC.cons (aF.agg eY) (aC.one (aF.agg (bE.row cM))),aF.bool,fun a=>(C5 N) a.1 a.2,.pure,false⟩
theorem VM (N:Nat):aB tab 225 (aRN N):=aB.of aGz (cx:=(aN (aK N) [] [] [] [])) rfl (aM.make trivial trivial trivial) (fun a=>by kernel_rfl)
def zK (_:Nat) (p0:Int×Int):Option Bool:=
 bif decide (0<=p0.1) then
  bif decide (p0.1<=65535) then
   bif decide (0<=p0.2) then
    bif decide (p0.2<=65535) then
     some (p0.1 !=p0.2)
    else
     some false
   else
    some false
  else
   some false
 else
  some false
def aRO (N:Nat):aV:=⟨aC.one (aF.agg (bE.row cM)),aF.bool,fun a=>(zK N) a,.pure,false⟩
theorem VN (N:Nat):aB tab 318 (aRO N):=aB.of aHk (cx:=(aN (aK N) [] [] [] [])) rfl (aM.make trivial trivial trivial) (fun a=>by kernel_rfl)
def vY (_:Nat) (s:(Int×Int×Int×(List (Int×Int×Int))×Int×Int×Int)):Option (aS (Int×Int×Int×(List (Int×Int×Int))×Int×Int×Int) (aS (Int×Int×(List (Int×Int×Int))) Int)):=
 bif decide (s.2.1<s.1) then
  (aL s.2.2.2.1 s.2.1).bind fun a0=>
  bif (a0.2.1==s.2.2.2.2.2.1)&&(a0.2.2==s.2.2.2.2.2.2) then
   some (.done (.done 8))
  else
   some (.next (s.1,aA .i64 (s.2.1+1),s.2.2))
 else
  some (.done (.next (aA .i64 (s.1+1),s.2.2.1,s.2.2.2.1)))
def I4 (N:Nat) (s:(Int×Int×(List (Int×Int×Int)))):Option (aS (Int×Int×(List (Int×Int×Int))) Int):=
 bif decide (s.1<(aa s.2.2.length)) then
  (aL s.2.2 s.1).bind fun a0=>
  ((zK N) a0.2).bind fun b1=>
  bif !b1 then
   some (.done 8)
  else
   bif decide (a0.1<0) then
    some (.done 8)
   else
    bif decide (s.2.1<=a0.1) then
     some (.done 8)
    else
     bif decide (0<s.1) then
      (aL s.2.2 (aA .i64 (s.1-1))).bind fun a2=>
      bif decide (a0.1<=a2.1) then
       some (.done 8)
      else
       (aO N) (vY N) (s.1,0,s.2.1,s.2.2,a0)
     else
      (aO N) (vY N) (s.1,0,s.2.1,s.2.2,a0)
 else
  some (.done 0)
def D4 (N:Nat) (p0:aI):Option Int:=
 bif decide (200<(aa p0.list.length)) then
  some 8
 else
  bif decide (p0.next_<0) then
   some 8
  else
   bif decide (1000000<p0.next_) then
    some 8
   else
    (aO N) (I4 N) (0,p0.next_,p0.list)
def aT6 (N:Nat):aV:=⟨aC.one (aF.agg eY),aF.int .i64,fun a=>(D4 N) a,.pure,false⟩
theorem aKj (N:Nat):aB tab 220 (aT6 N):=aB.of aGx (cx:=(aN (aK N) [(318,(aRO N))] [] [] [])) rfl (aM.make ⟨(VN N),trivial⟩ trivial trivial) (fun a=>by kernel_rfl)
def LN (N:Nat) (p0:aI) (p1:Int×Int):Option (aI×Int×Int):=
 ((D4 N) p0).bind fun n0=>
 bif n0 !=0 then
  some (aI.mk 0 [],0,8)
 else
  ((zK N) p1).bind fun b1=>
  bif !b1 then
   some (aI.mk 0 [],0,8)
  else
   ((C5 N) p0 p1).bind fun b2=>
   bif b2 then
    some (aI.mk 0 [],0,14)
   else
    bif (aa p0.list.length)==200 then
     some (aI.mk 0 [],0,18)
    else
     bif p0.next_==1000000 then
      some (aI.mk 0 [],0,18)
     else
      ((sW N) p0).bind fun r3=>
      (aR r3.list [(p0.next_,p1)]).bind fun l4=>
      some (aI.mk (aA .i64 (r3.next_+1)) l4,p0.next_,0)
def aT7 (N:Nat):aV:=⟨aC.cons (aF.agg eY) (aC.one (aF.agg (bE.row cM))),aF.tup (aC.cons (aF.agg eY) (aC.cons (aF.int .i64) (aC.one (aF.int .i64)))),fun a=>(LN N) a.1 a.2,.frz,false⟩
theorem aKk (N:Nat):aB tab 372 (aT7 N):=aB.of aHU (cx:=(aN (aK N) [(220,(aT6 N)),(318,(aRO N)),(225,(aRN N)),(183,(aJ6 N)),(183,(VF N))] [] [] [])) rfl (aM.make ⟨(aKj N),(VN N),(VM N),(NM N),(I0 N),trivial⟩ trivial trivial) (fun a=>by kernel_rfl)
def D5 (N:Nat) (p0:aG) (p1:Int×Int):Option (aG×Int×Int):=
 ((LN N) p0.certs p1).bind fun a0=>
 bif a0.2.2 !=0 then
  some (aG.mk (0,0) (Field.mk []) (aI.mk 0 []) (aE.mk (aH.mk [] [] []) [] []) [],0,a0.2.2)
 else
  ((lX N) p0).bind fun r1=>
  ((zJ N) p0.field p1 p0.now).bind fun a2=>
  bif !a2.2 then
   some (aG.mk r1.now r1.field a0.1 r1.agenda r1.due,a0.2.1,0)
  else
   ((fL N) p0.agenda.slots).bind fun b3=>
   bif !b3 then
    some (aG.mk (0,0) (Field.mk []) (aI.mk 0 []) (aE.mk (aH.mk [] [] []) [] []) [],0,18)
   else
    ((dR N) p0.agenda a2.1 a0.2.1).bind fun a4=>
    (aR r1.due [(a0.2.1,a4.2)]).bind fun l5=>
    some (aG.mk r1.now r1.field a0.1 a4.1 l5,a0.2.1,0)
def aT8 (N:Nat):aV:=⟨aC.cons (aF.agg bB) (aC.one (aF.agg (bE.row cM))),aF.tup (aC.cons (aF.agg bB) (aC.cons (aF.int .i64) (aC.one (aF.int .i64)))),fun a=>(D5 N) a.1 a.2,.frz,false⟩
theorem aKl (N:Nat):aB tab 315 (aT8 N):=aB.of aHh (cx:=(aN (aK N) [(372,(aT7 N)),(101,(aAw N)),(101,(QW N)),(223,(aRK N)),(370,(aRL N)),(371,(aRM N))] [] [] [])) rfl (aM.make ⟨(aKk N),(FH N),(BM N),(VJ N),(VK N),(VL N),trivial⟩ trivial trivial) (fun a=>by kernel_rfl)
def rE (N:Nat) (s:((List (Int×Int))×Int×Int×Int×Int×Int×Int×(List (Int×Int×Int))×Int×(List (Int×Int×Int))×(List Int)×(List Bool)×(List Int)×(List (Int×Int×Int×Int×Int))×(List Int)×(List (Int×Int×Int)))):Option (aS ((List (Int×Int))×Int×Int×Int×Int×Int×Int×(List (Int×Int×Int))×Int×(List (Int×Int×Int))×(List Int)×(List Bool)×(List Int)×(List (Int×Int×Int×Int×Int))×(List Int)×(List (Int×Int×Int))) (aS ((List (Int×Int))×Int×Int×Int×(List (Int×Int×Int))×Int×(List (Int×Int×Int))×(List Int)×(List Bool)×(List Int)×(List (Int×Int×Int×Int×Int))×(List Int)×(List (Int×Int×Int))×(List (Int×Int×Int))×Int×Int×Int×Int×Int×(List (Int×Int×Int))×Int×(List (Int×Int×Int))×(List Int)×(List Bool)×(List Int)×(List (Int×Int×Int×Int×Int))×(List Int)×(List (Int×Int×Int))) (aG×Int))):=
 bif decide (s.2.1<(aa s.1.length)) then
  (aL s.1 s.2.1).bind fun a0=>
  ((C5 N) (aI.mk s.2.2.2.2.2.2.2.2.1 s.2.2.2.2.2.2.2.2.2.1) a0).bind fun b1=>
  bif b1 then
   some (.next (s.1,aA .i64 (s.2.1+1),s.2.2))
  else
   (aL s.1 s.2.1).bind fun a2=>
   ((D5 N) (aG.mk (s.2.2.2.2.2.1,s.2.2.2.2.2.2.1) (Field.mk s.2.2.2.2.2.2.2.1) (aI.mk s.2.2.2.2.2.2.2.2.1 s.2.2.2.2.2.2.2.2.2.1) (aE.mk (aH.mk s.2.2.2.2.2.2.2.2.2.2.1 s.2.2.2.2.2.2.2.2.2.2.2.1 s.2.2.2.2.2.2.2.2.2.2.2.2.1) s.2.2.2.2.2.2.2.2.2.2.2.2.2.1 s.2.2.2.2.2.2.2.2.2.2.2.2.2.2.1) s.2.2.2.2.2.2.2.2.2.2.2.2.2.2.2) a2).bind fun a3=>
   bif a3.2.2 !=0 then
    some (.done (.done (aG.mk (0,0) (Field.mk []) (aI.mk 0 []) (aE.mk (aH.mk [] [] []) [] []) [],a3.2.2)))
   else
    some (.next (s.1,aA .i64 (s.2.1+1),s.2.2.1,s.2.2.2.1,s.2.2.2.2.1,a3.1.now.1,a3.1.now.2,a3.1.field.points,a3.1.certs.next_,a3.1.certs.list,a3.1.agenda.slots.uses,a3.1.agenda.slots.used,a3.1.agenda.slots.free,a3.1.agenda.heap,a3.1.agenda.where_,a3.1.due))
 else
  some (.done (.done (aG.mk (s.2.2.2.2.2.1,s.2.2.2.2.2.2.1) (Field.mk s.2.2.2.2.2.2.2.1) (aI.mk s.2.2.2.2.2.2.2.2.1 s.2.2.2.2.2.2.2.2.2.1) (aE.mk (aH.mk s.2.2.2.2.2.2.2.2.2.2.1 s.2.2.2.2.2.2.2.2.2.2.2.1 s.2.2.2.2.2.2.2.2.2.2.2.2.1) s.2.2.2.2.2.2.2.2.2.2.2.2.2.1 s.2.2.2.2.2.2.2.2.2.2.2.2.2.2.1) s.2.2.2.2.2.2.2.2.2.2.2.2.2.2.2,0)))
def C6 (N:Nat) (s:((List (Int×Int))×Int×Int×Int×(List (Int×Int×Int))×Int×(List (Int×Int×Int))×(List Int)×(List Bool)×(List Int)×(List (Int×Int×Int×Int×Int))×(List Int)×(List (Int×Int×Int))×(List (Int×Int×Int))×Int×Int×Int×Int×Int×(List (Int×Int×Int))×Int×(List (Int×Int×Int))×(List Int)×(List Bool)×(List Int)×(List (Int×Int×Int×Int×Int))×(List Int)×(List (Int×Int×Int)))):Option (aS ((List (Int×Int))×Int×Int×Int×(List (Int×Int×Int))×Int×(List (Int×Int×Int))×(List Int)×(List Bool)×(List Int)×(List (Int×Int×Int×Int×Int))×(List Int)×(List (Int×Int×Int))×(List (Int×Int×Int))×Int×Int×Int×Int×Int×(List (Int×Int×Int))×Int×(List (Int×Int×Int))×(List Int)×(List Bool)×(List Int)×(List (Int×Int×Int×Int×Int))×(List Int)×(List (Int×Int×Int))) (aG×Int)):=
 bif decide (s.2.1<(aa s.2.2.2.2.2.2.1.length)) then
  (aL s.2.2.2.2.2.2.1 s.2.1).bind fun a0=>
  ((QY N) s.1 a0.2).bind fun b1=>
  bif !b1 then
   (aL s.2.2.2.2.2.2.1 s.2.1).bind fun a2=>
   ((I2 N) (aG.mk (s.2.2.2.2.2.2.2.2.2.2.2.2.2.2.2.2.2.1,s.2.2.2.2.2.2.2.2.2.2.2.2.2.2.2.2.2.2.1) (Field.mk s.2.2.2.2.2.2.2.2.2.2.2.2.2.2.2.2.2.2.2.1) (aI.mk s.2.2.2.2.2.2.2.2.2.2.2.2.2.2.2.2.2.2.2.2.1 s.2.2.2.2.2.2.2.2.2.2.2.2.2.2.2.2.2.2.2.2.2.1) (aE.mk (aH.mk s.2.2.2.2.2.2.2.2.2.2.2.2.2.2.2.2.2.2.2.2.2.2.1 s.2.2.2.2.2.2.2.2.2.2.2.2.2.2.2.2.2.2.2.2.2.2.2.1 s.2.2.2.2.2.2.2.2.2.2.2.2.2.2.2.2.2.2.2.2.2.2.2.2.1) s.2.2.2.2.2.2.2.2.2.2.2.2.2.2.2.2.2.2.2.2.2.2.2.2.2.1 s.2.2.2.2.2.2.2.2.2.2.2.2.2.2.2.2.2.2.2.2.2.2.2.2.2.2.1) s.2.2.2.2.2.2.2.2.2.2.2.2.2.2.2.2.2.2.2.2.2.2.2.2.2.2.2) a2.1).bind fun r3=>
   some (.next (s.1,aA .i64 (s.2.1+1),s.2.2.1,s.2.2.2.1,s.2.2.2.2.1,s.2.2.2.2.2.1,s.2.2.2.2.2.2.1,s.2.2.2.2.2.2.2.1,s.2.2.2.2.2.2.2.2.1,s.2.2.2.2.2.2.2.2.2.1,s.2.2.2.2.2.2.2.2.2.2.1,s.2.2.2.2.2.2.2.2.2.2.2.1,s.2.2.2.2.2.2.2.2.2.2.2.2.1,s.2.2.2.2.2.2.2.2.2.2.2.2.2.1,s.2.2.2.2.2.2.2.2.2.2.2.2.2.2.1,s.2.2.2.2.2.2.2.2.2.2.2.2.2.2.2.1,s.2.2.2.2.2.2.2.2.2.2.2.2.2.2.2.2.1,r3.now.1,r3.now.2,r3.field.points,r3.certs.next_,r3.certs.list,r3.agenda.slots.uses,r3.agenda.slots.used,r3.agenda.slots.free,r3.agenda.heap,r3.agenda.where_,r3.due))
  else
   some (.next (s.1,aA .i64 (s.2.1+1),s.2.2))
 else
  ((zH N) (Field.mk s.2.2.2.2.2.2.2.2.2.2.2.2.2.2.2.2.2.2.2.1) (Field.mk s.2.2.2.2.2.2.2.2.2.2.2.2.2.1)).bind fun b4=>
  bif !b4 then
   ((yC N) (aG.mk (s.2.2.2.2.2.2.2.2.2.2.2.2.2.2.2.2.2.1,s.2.2.2.2.2.2.2.2.2.2.2.2.2.2.2.2.2.2.1) (Field.mk s.2.2.2.2.2.2.2.2.2.2.2.2.2.2.2.2.2.2.2.1) (aI.mk s.2.2.2.2.2.2.2.2.2.2.2.2.2.2.2.2.2.2.2.2.1 s.2.2.2.2.2.2.2.2.2.2.2.2.2.2.2.2.2.2.2.2.2.1) (aE.mk (aH.mk s.2.2.2.2.2.2.2.2.2.2.2.2.2.2.2.2.2.2.2.2.2.2.1 s.2.2.2.2.2.2.2.2.2.2.2.2.2.2.2.2.2.2.2.2.2.2.2.1 s.2.2.2.2.2.2.2.2.2.2.2.2.2.2.2.2.2.2.2.2.2.2.2.2.1) s.2.2.2.2.2.2.2.2.2.2.2.2.2.2.2.2.2.2.2.2.2.2.2.2.2.1 s.2.2.2.2.2.2.2.2.2.2.2.2.2.2.2.2.2.2.2.2.2.2.2.2.2.2.1) s.2.2.2.2.2.2.2.2.2.2.2.2.2.2.2.2.2.2.2.2.2.2.2.2.2.2.2) (Field.mk s.2.2.2.2.2.2.2.2.2.2.2.2.2.1)).bind fun a5=>
   bif a5.2 !=0 then
    some (.done (aG.mk (0,0) (Field.mk []) (aI.mk 0 []) (aE.mk (aH.mk [] [] []) [] []) [],a5.2))
   else
    (aO N) (rE N) (s.1,0,s.2.2.2.2.2.2.2.2.2.2.2.2.2.2.1,s.2.2.2.2.2.2.2.2.2.2.2.2.2.2.2.1,s.2.2.2.2.2.2.2.2.2.2.2.2.2.2.2.2.1,a5.1.now.1,a5.1.now.2,a5.1.field.points,a5.1.certs.next_,a5.1.certs.list,a5.1.agenda.slots.uses,a5.1.agenda.slots.used,a5.1.agenda.slots.free,a5.1.agenda.heap,a5.1.agenda.where_,a5.1.due)
  else
   (aO N) (rE N) (s.1,0,s.2.2.2.2.2.2.2.2.2.2.2.2.2.2)
def jX (N:Nat) (p0:aG) (p1:Field) (p2:List (Int×Int)):Option (aG×Int):=
 ((lX N) p0).bind fun r0=>
 (aO N) (C6 N) (p2,0,p0.now.1,p0.now.2,p0.field.points,p0.certs.next_,p0.certs.list,p0.agenda.slots.uses,p0.agenda.slots.used,p0.agenda.slots.free,p0.agenda.heap,p0.agenda.where_,p0.due,p1.points,0,0,0,r0.now.1,r0.now.2,r0.field.points,r0.certs.next_,r0.certs.list,r0.agenda.slots.uses,r0.agenda.slots.used,r0.agenda.slots.free,r0.agenda.heap,r0.agenda.where_,r0.due)
def aAA (N:Nat):aV:=⟨aC.cons (aF.agg bB) (aC.cons (aF.agg aT) (aC.one (aF.sl cM))),aF.tup (aC.cons (aF.agg bB) (aC.one (aF.int .i64))),fun a=>(jX N) a.1 a.2.1 a.2.2,.frz,false⟩
theorem FI (N:Nat):aB tab 217 (aAA N):=aB.of aGu (cx:=(aN (aK N) [(101,(aAw N)),(101,(QW N)),(312,(aTU N)),(313,(aTY N)),(210,(aRJ N)),(314,(aT5 N)),(225,(aRN N)),(315,(aT8 N))] [] [] [])) rfl (aM.make ⟨(FH N),(BM N),(aJ7 N),(aKb N),(VI N),(aKi N),(VM N),(aKl N),trivial⟩ trivial trivial) (fun a=>by kernel_rfl)
def ET (N:Nat) (s:(Int×(List (Int×Int×Int))×Int×Int×Int×Int×Int×(List Int))):Option (aS (Int×(List (Int×Int×Int))×Int×Int×Int×Int×Int×(List Int)) bH):=
 bif decide (s.1<(aa s.2.1.length)) then
  (bG s.2.2.2.2.2.2.2).bind fun l0=>
  (aL s.2.1 s.1).bind fun a1=>
  (aR l0 [a1.1]).bind fun l2=>
  ((vS N) (Field.mk s.2.1) (s.2.2.1,s.2.2.2.1) l2 s.1).bind fun l3=>
  some (.next (aA .i64 (s.1+1),s.2.1,s.2.2.1,s.2.2.2.1,s.2.2.2.2.1,s.2.2.2.2.2.1,s.2.2.2.2.2.2.1,l3))
 else
  ((mS N) (Field.mk s.2.1) (s.2.2.1,s.2.2.2.1)).bind fun r4=>
  ((IZ N) s.2.2.2.2.2.2.2).bind fun l5=>
  ((jX N) r4 (Field.mk s.2.1) l5).bind fun a6=>
  some (.done (bH.mk a6.1 s.2.2.2.2.2.2.2))
def BS (N:Nat) (p0:Field) (p1:Int×Int):Option bH:=
 (aO N) (ET N) (0,p0.points,p1.1,p1.2,0,0,0,[])
def aT9 (N:Nat):aV:=⟨aC.cons (aF.agg aT) (aC.one (aF.agg (bE.row cM))),aF.agg fV,fun a=>(BS N) a.1 a.2,.frz,false⟩
theorem aKm (N:Nat):aB tab 117 (aT9 N):=aB.of aFw (cx:=(aN (aK N) [(216,(aTQ N)),(216,(aLe N)),(119,(aAt N)),(126,(aTT N)),(126,(aLf N)),(217,(aAA N))] [] [] [])) rfl (aM.make ⟨(aJ2 N),(aAr N),(FF N),(aJ5 N),(aAu N),(FI N),trivial⟩ trivial trivial) (fun a=>by kernel_rfl)
def D6 (N:Nat) (p0:Field) (p1:Int×Int):Option (bH×Int):=
 ((fY N) p0).bind fun n0=>
 bif n0 !=0 then
  ((fY N) p0).bind fun n1=>
  some (bH.mk (aG.mk (0,0) (Field.mk []) (aI.mk 0 []) (aE.mk (aH.mk [] [] []) [] []) []) [],n1)
 else
  ((iZ N) p1).bind fun n2=>
  bif n2 !=0 then
   some (bH.mk (aG.mk (0,0) (Field.mk []) (aI.mk 0 []) (aE.mk (aH.mk [] [] []) [] []) []) [],8)
  else
   ((BS N) p0 p1).bind fun r3=>
   some (r3,0)
def c59 (N:Nat):aV:=⟨aC.cons (aF.agg aT) (aC.one (aF.agg (bE.row cM))),aF.tup (aC.cons (aF.agg fV) (aC.one (aF.int .i64))),fun a=>(D6 N) a.1 a.2,.frz,false⟩
theorem aRP (N:Nat):aB tab 59 (c59 N):=aB.of aQs (cx:=(aN (aK N) [(115,(aAp N)),(116,(XH N)),(117,(aT9 N))] [] [] [])) rfl (aM.make ⟨(FC N),(BH N),(aKm N),trivial⟩ trivial trivial) (fun a=>by kernel_rfl)
def I5 (_:Nat) (s:(Int×Int×(List (Int×Int×Int))×(List Int))):Option (aS (Int×Int×(List (Int×Int×Int))×(List Int)) (aS (Int×(List (Int×Int×Int))) (List Int))):=
 bif decide (s.2.1<s.1) then
  bif decide (s.2.1<(aa s.2.2.1.length)) then
   (aL s.2.2.1 s.2.1).bind fun a0=>
   (aR s.2.2.2 [a0.1]).bind fun l1=>
   some (.next (s.1,aA .i64 (s.2.1+1),s.2.2.1,l1))
  else
   (aR s.2.2.2 [-1]).bind fun l2=>
   some (.next (s.1,aA .i64 (s.2.1+1),s.2.2.1,l2))
 else
  some (.done (.done s.2.2.2))
def I6 (N:Nat) (s:(Int×(List (Int×Int×Int)))):Option (aS (Int×(List (Int×Int×Int))) (List Int)):=
 bif decide (s.1<(aa s.2.length)) then
  some (.next (aA .i64 (s.1*2),s.2))
 else
  (aO N) (I5 N) (s.1,0,s.2,[])
def D7 (N:Nat) (p0:Field):Option (List Int):=
 (aO N) (I6 N) (1,p0.points)
def aUa (N:Nat):aV:=⟨aC.one (aF.agg aT),aF.sl ki,fun a=>(D7 N) a,.frz,false⟩
theorem aKn (N:Nat):aB tab 120 (aUa N):=aB.of aFz (cx:=(aN (aK N) [] [] [] [])) rfl (aM.make trivial trivial trivial) (fun a=>by kernel_rfl)
def oQ (_:Nat) (p0:aQ) (p1:Int):Option Int:=
 bif decide (p1<(aa p0.wins.length)) then
  (aL p0.wins p1).bind fun n0=>
  some n0
 else
  (aL p0.places (aA .i64 (p1- (aa p0.wins.length)))).bind fun n1=>
  some n1
def aRQ (N:Nat):aV:=⟨aC.cons (aF.agg fD) (aC.one (aF.int .i64)),aF.int .i64,fun a=>(oQ N) a.1 a.2,.pure,false⟩
theorem VO (N:Nat):aB tab 228 (aRQ N):=aB.of aGA (cx:=(aN (aK N) [] [] [] [])) rfl (aM.make trivial trivial trivial) (fun a=>by kernel_rfl)
def LO (N:Nat) (p0:Field) (p1:Int×Int) (p2:Int) (p3:Int):Option Int:=
 bif decide (p2<0) then
  some p3
 else
  bif decide (p3<0) then
   some p2
  else
   ((mR N) p0 p2).bind fun n0=>
   (aL p0.points n0).bind fun a1=>
   ((mR N) p0 p3).bind fun n2=>
   (aL p0.points n2).bind fun a3=>
   ((kU N) a1 a3 p1).bind fun b4=>
   bif b4 then
    some p2
   else
    some p3
def aUb (N:Nat):aV:=⟨aC.cons (aF.agg aT) (aC.cons (aF.agg (bE.row cM)) (aC.cons (aF.int .i64) (aC.one (aF.int .i64)))),aF.int .i64,fun a=>(LO N) a.1 a.2.1 a.2.2.1 a.2.2.2,.pure,false⟩
theorem aKo (N:Nat):aB tab 229 (aUb N):=aB.of aGB (cx:=(aN (aK N) [(124,(aAq N)),(324,(XI N))] [] [] [])) rfl (aM.make ⟨(FD N),(BI N),trivial⟩ trivial trivial) (fun a=>by kernel_rfl)
def I7 (N:Nat) (s:(Int×(List (Int×Int×Int))×Int×Int×(List Int)×(List Int))):Option (aS (Int×(List (Int×Int×Int))×Int×Int×(List Int)×(List Int)) aQ):=
 bif decide (0<=s.1) then
  ((oQ N) (aQ.mk s.2.2.2.2.1 s.2.2.2.2.2) (aA .i64 ((aA .i64 (2*s.1))+1))).bind fun n0=>
  ((oQ N) (aQ.mk s.2.2.2.2.1 s.2.2.2.2.2) (aA .i64 ((aA .i64 (2*s.1))+2))).bind fun n1=>
  ((LO N) (Field.mk s.2.1) (s.2.2.1,s.2.2.2.1) n0 n1).bind fun n2=>
  (aL s.2.2.2.2.2 s.1).bind fun _=>
  some (.next (aA .i64 (s.1-1),s.2.1,s.2.2.1,s.2.2.2.1,s.2.2.2.2.1,aZ s.2.2.2.2.2 s.1 n2))
 else
  some (.done (aQ.mk s.2.2.2.2.1 s.2.2.2.2.2))
def D8 (N:Nat) (p0:Field) (p1:Int×Int) (p2:List Int):Option aQ:=
 (bG p2).bind fun l0=>
 bif (aA .i64 ((aa p2.length) -1))==(aA .i64 ((aa p2.length) -1)) then
  (jL (aA .i64 ((aa p2.length) -1)) (0:Int)).bind fun l1=>
  (aO N) (I7 N) (aA .i64 ((aa l1.length) -1),p0.points,p1.1,p1.2,l0,l1)
 else
  none
def aUc (N:Nat):aV:=⟨aC.cons (aF.agg aT) (aC.cons (aF.agg (bE.row cM)) (aC.one (aF.sl ki))),aF.agg fD,fun a=>(D8 N) a.1 a.2.1 a.2.2,.frz,false⟩
theorem aKp (N:Nat):aB tab 316 (aUc N):=aB.of aHi (cx:=(aN (aK N) [(228,(aRQ N)),(229,(aUb N))] [] [] [])) rfl (aM.make ⟨(VO N),(aKo N),trivial⟩ trivial trivial) (fun a=>by kernel_rfl)
def I8 (N:Nat) (p0:Field) (p1:Int×Int) (p2:List Int):Option aQ:=
 ((D8 N) p0 p1 p2).bind fun r0=>
 some r0
def aUd (N:Nat):aV:=⟨aC.cons (aF.agg aT) (aC.cons (aF.agg (bE.row cM)) (aC.one (aF.sl ki))),aF.agg fD,fun a=>(I8 N) a.1 a.2.1 a.2.2,.frz,false⟩
theorem aKq (N:Nat):aB tab 218 (aUd N):=aB.of aGv (cx:=(aN (aK N) [(316,(aUc N))] [] [] [])) rfl (aM.make ⟨(aKp N),trivial⟩ trivial trivial) (fun a=>by kernel_rfl)
def QZ (N:Nat) (s:(Int×(List Int)×(List Int)×(List (Int×Int)))):Option (aS (Int×(List Int)×(List Int)×(List (Int×Int))) (List (Int×Int))):=
 bif decide (s.1<(aa s.2.2.1.length)) then
  ((oQ N) (aQ.mk s.2.1 s.2.2.1) (aA .i64 ((aA .i64 (2*s.1))+1))).bind fun n0=>
  ((oQ N) (aQ.mk s.2.1 s.2.2.1) (aA .i64 ((aA .i64 (2*s.1))+2))).bind fun n1=>
  bif decide (n0<0) then
   some (.next (aA .i64 (s.1+1),s.2))
  else
   bif decide (n1<0) then
    some (.next (aA .i64 (s.1+1),s.2))
   else
    (aL s.2.2.1 s.1).bind fun n2=>
    bif n2==n0 then
     (aR s.2.2.2 [(n1,n0)]).bind fun l3=>
     some (.next (aA .i64 (s.1+1),s.2.1,s.2.2.1,l3))
    else
     (aR s.2.2.2 [(n0,n1)]).bind fun l4=>
     some (.next (aA .i64 (s.1+1),s.2.1,s.2.2.1,l4))
 else
  some (.done s.2.2.2)
def Q0 (N:Nat) (p0:aQ):Option (List (Int×Int)):=
 (aO N) (QZ N) (0,p0.places,p0.wins,[])
def aUe (N:Nat):aV:=⟨aC.one (aF.agg fD),aF.sl cM,fun a=>(Q0 N) a,.frz,false⟩
theorem aKr (N:Nat):aB tab 132 (aUe N):=aB.of aFD (cx:=(aN (aK N) [(228,(aRQ N))] [] [] [])) rfl (aM.make ⟨(VO N),trivial⟩ trivial trivial) (fun a=>by kernel_rfl)
def yD (N:Nat) (p0:aG) (p1:Field) (p2:List Int):Option (bC×Int):=
 ((I8 N) p1 p0.now p2).bind fun r0=>
 ((Q0 N) r0).bind fun l1=>
 ((jX N) p0 p1 l1).bind fun a2=>
 bif a2.2 !=0 then
  some (bC.mk (aG.mk (0,0) (Field.mk []) (aI.mk 0 []) (aE.mk (aH.mk [] [] []) [] []) []) (aQ.mk [] []),a2.2)
 else
  some (bC.mk a2.1 r0,0)
def aUf (N:Nat):aV:=⟨aC.cons (aF.agg bB) (aC.cons (aF.agg aT) (aC.one (aF.sl ki))),aF.tup (aC.cons (aF.agg eR) (aC.one (aF.int .i64))),fun a=>(yD N) a.1 a.2.1 a.2.2,.frz,false⟩
theorem aKs (N:Nat):aB tab 118 (aUf N):=aB.of aFx (cx:=(aN (aK N) [(218,(aUd N)),(132,(aUe N)),(217,(aAA N))] [] [] [])) rfl (aM.make ⟨(aKq N),(aKr N),(FI N),trivial⟩ trivial trivial) (fun a=>by kernel_rfl)
def D9 (N:Nat) (p0:Field) (p1:Int×Int):Option (bC×Int):=
 ((fY N) p0).bind fun n0=>
 bif n0 !=0 then
  ((fY N) p0).bind fun n1=>
  some (bC.mk (aG.mk (0,0) (Field.mk []) (aI.mk 0 []) (aE.mk (aH.mk [] [] []) [] []) []) (aQ.mk [] []),n1)
 else
  ((iZ N) p1).bind fun n2=>
  bif n2 !=0 then
   some (bC.mk (aG.mk (0,0) (Field.mk []) (aI.mk 0 []) (aE.mk (aH.mk [] [] []) [] []) []) (aQ.mk [] []),8)
  else
   ((mS N) p0 p1).bind fun r3=>
   ((D7 N) p0).bind fun l4=>
   ((yD N) r3 p0 l4).bind fun a5=>
   some a5
def c60 (N:Nat):aV:=⟨aC.cons (aF.agg aT) (aC.one (aF.agg (bE.row cM))),aF.tup (aC.cons (aF.agg eR) (aC.one (aF.int .i64))),fun a=>(D9 N) a.1 a.2,.frz,false⟩
theorem aRR (N:Nat):aB tab 60 (c60 N):=aB.of aQt (cx:=(aN (aK N) [(115,(aAp N)),(116,(XH N)),(119,(aAt N)),(120,(aUa N)),(118,(aUf N))] [] [] [])) rfl (aM.make ⟨(FC N),(BH N),(FF N),(aKn N),(aKs N),trivial⟩ trivial trivial) (fun a=>by kernel_rfl)
def NP (N:Nat) (s:(Int×Int×Int×(List (Int×Int×Int))×Int×Int)):Option (aS (Int×Int×Int×(List (Int×Int×Int))×Int×Int) Int):=
 bif decide (s.2.2.1<s.1) then
  bif decide (s.2.1<0) then
   some (.next (s.1,s.2.2.1,aA .i64 (s.2.2.1+1),s.2.2.2))
  else
   (aL s.2.2.2.1 s.2.2.1).bind fun a0=>
   (aL s.2.2.2.1 s.2.1).bind fun a1=>
   ((kU N) a0 a1 s.2.2.2.2).bind fun b2=>
   bif b2 then
    some (.next (s.1,s.2.2.1,aA .i64 (s.2.2.1+1),s.2.2.2))
   else
    some (.next (s.1,s.2.1,aA .i64 (s.2.2.1+1),s.2.2.2))
 else
  some (.done s.2.1)
def LQ (N:Nat) (p0:Field) (p1:Int×Int) (p2:Int) (p3:Int):Option Int:=
 (aO N) (NP N) (p3,-1,p2,p0.points,p1)
def aUg (N:Nat):aV:=⟨aC.cons (aF.agg aT) (aC.cons (aF.agg (bE.row cM)) (aC.cons (aF.int .i64) (aC.one (aF.int .i64)))),aF.int .i64,fun a=>(LQ N) a.1 a.2.1 a.2.2.1 a.2.2.2,.pure,false⟩
theorem aKt (N:Nat):aB tab 375 (aUg N):=aB.of aHX (cx:=(aN (aK N) [(324,(XI N))] [] [] [])) rfl (aM.make ⟨(BI N),trivial⟩ trivial trivial) (fun a=>by kernel_rfl)
def zL (N:Nat) (self:((List (Int×Int×Int))×Int×Int×Int×Int×Int×(List (Int×Int×Int)))->Option (Int×(List (Int×Int×Int)))) (a:((List (Int×Int×Int))×Int×Int×Int×Int×Int×(List (Int×Int×Int)))):Option (Int×(List (Int×Int×Int))):=
 ((LQ N) (Field.mk a.1) (a.2.1,a.2.2.1) a.2.2.2.2.1 a.2.2.2.2.2.1).bind fun n0=>
 bif decide (0<=n0) then
  (self (a.1,a.2.1,a.2.2.1,a.2.2.2.1,a.2.2.2.2.1,n0,a.2.2.2.2.2.2)).bind fun a1=>
  (aL a1.2 n0).bind fun a2=>
  (self (a.1,a.2.1,a.2.2.1,a.2.2.2.1,aA .i64 (n0+1),a.2.2.2.2.2.1,aZ a1.2 n0 (a2.1,a1.1,a2.2.2))).bind fun a3=>
  (aL a3.2 n0).bind fun a4=>
  bif ((aZ a3.2 n0 (a4.1,a4.2.1,a3.1)).length)==a.2.2.2.2.2.2.length then
   some (n0,aZ a3.2 n0 (a4.1,a4.2.1,a3.1))
  else
   none
 else
  bif a.2.2.2.2.2.2.length==a.2.2.2.2.2.2.length then
   some (n0,a.2.2.2.2.2.2)
  else
   none
def hY (N:Nat):Nat->((List (Int×Int×Int))×Int×Int×Int×Int×Int×(List (Int×Int×Int)))->Option (Int×(List (Int×Int×Int)))
 |0,_=>none
 |n+1,a=>(zL N) ((hY N) n) a
def rF (N:Nat) (a:((List (Int×Int×Int))×Int×Int×Int×Int×Int×(List (Int×Int×Int)))):Option (Int×(List (Int×Int×Int))):=(hY N) 1000000 a
def aAB (N:Nat):cA:=⟨[.l [.i .i64,.i .i64,.i .i64],.i,.i,.i,.i,.i,.l [.i .i64,.i .i64,.i .i64]],[.agg [.sl [.i .i64,.i .i64,.i .i64] []],.agg [.int .i64 0,.int .i64 0],.agg [.int .i64 0,.own 0 false],.int .i64 0,.int .i64 0],[.arr [.i .i64,.i .i64,.i .i64] []],[.i,.l [.i .i64,.i .i64,.i .i64]],.int .i64 0,[.arr [.i .i64,.i .i64,.i .i64] []],fun a=>(rF N) a⟩
theorem I9 (N:Nat): ∀n,eE tab 325 ⟨[.l [.i .i64,.i .i64,.i .i64],.i,.i,.i,.i,.i,.l [.i .i64,.i .i64,.i .i64]],[.agg [.sl [.i .i64,.i .i64,.i .i64] []],.agg [.int .i64 0,.int .i64 0],.agg [.int .i64 0,.own 0 false],.int .i64 0,.int .i64 0],[.arr [.i .i64,.i .i64,.i .i64] []],[.i,.l [.i .i64,.i .i64,.i .i64]],.int .i64 0,[.arr [.i .i64,.i .i64,.i .i64] []],fun a=>(hY N) n a⟩
 |0=>eE.zero (fun _=>rfl)
 |n+1=>eE.of aHo (wd:=false) (cx:=(aN (aK N) [(375,(aUg N))] [(325,⟨[.l [.i .i64,.i .i64,.i .i64],.i,.i,.i,.i,.i,.l [.i .i64,.i .i64,.i .i64]],[.agg [.sl [.i .i64,.i .i64,.i .i64] []],.agg [.int .i64 0,.int .i64 0],.agg [.int .i64 0,.own 0 false],.int .i64 0,.int .i64 0],[.arr [.i .i64,.i .i64,.i .i64] []],[.i,.l [.i .i64,.i .i64,.i .i64]],.int .i64 0,[.arr [.i .i64,.i .i64,.i .i64] []],fun a=>(hY N) n a⟩)] [] [])) (aM.make ⟨(aKt N),trivial⟩ ⟨((I9 N) n),trivial⟩ trivial) (fun a=>by kernel_rfl)
theorem XO (N:Nat):eE tab 325 (aAB N):=(I9 N) 1000000
def J6 (N:Nat) (s:(Int×(List (Int×Int×Int))×Int×Int×Int×Int×(List (Int×Int×Int)))):Option (aS (Int×(List (Int×Int×Int))×Int×Int×Int×Int×(List (Int×Int×Int))) cK):=
 bif decide (s.1<(aa s.2.1.length)) then
  (aL s.2.1 s.1).bind fun a0=>
  (aR s.2.2.2.2.2.2 [(a0.1,0,0)]).bind fun l1=>
  some (.next (aA .i64 (s.1+1),s.2.1,s.2.2.1,s.2.2.2.1,s.2.2.2.2.1,s.2.2.2.2.2.1,l1))
 else
  ((rF N) (s.2.1,s.2.2.1,s.2.2.2.1,s.2.2.2.2.2.1,0,aa s.2.1.length,s.2.2.2.2.2.2)).bind fun a2=>
  some (.done (cK.mk a2.1 a2.2))
def JA (N:Nat) (p0:Field) (p1:Int×Int):Option cK:=
 (aO N) (J6 N) (0,p0.points,p1.1,p1.2,0,0,[])
def aUh (N:Nat):aV:=⟨aC.cons (aF.agg aT) (aC.one (aF.agg (bE.row cM))),aF.agg sF,fun a=>(JA N) a.1 a.2,.frz,false⟩
theorem aKu (N:Nat):aB tab 230 (aUh N):=aB.of aGC (cx:=(aN (aK N) [] [(325,(aAB N))] [] [])) rfl (aM.make trivial ⟨(XO N),trivial⟩ trivial) (fun a=>by kernel_rfl)
def JB (N:Nat) (p0:Field) (p1:Int×Int):Option cK:=
 ((JA N) p0 p1).bind fun r0=>
 some r0
def aUi (N:Nat):aV:=⟨aC.cons (aF.agg aT) (aC.one (aF.agg (bE.row cM))),aF.agg sF,fun a=>(JB N) a.1 a.2,.frz,false⟩
theorem aKv (N:Nat):aB tab 133 (aUi N):=aB.of aFE (cx:=(aN (aK N) [(230,(aUh N))] [] [] [])) rfl (aM.make ⟨(aKu N),trivial⟩ trivial trivial) (fun a=>by kernel_rfl)
def Q1 (_:Nat) (s:(Int×Int×Int×(List (Int×Int×Int))×(List (Int×Int)))):Option (aS (Int×Int×Int×(List (Int×Int×Int))×(List (Int×Int))) (aS (Int×Int×(List (Int×Int×Int))×(List (Int×Int))) (List (Int×Int)))):=
 bif decide (s.2.1<(aa s.2.2.2.1.length)) then
  (aL s.2.2.2.1 s.2.1).bind fun a0=>
  bif a0.2.1==s.1 then
   (aL s.2.2.2.1 s.1).bind fun a1=>
   (aL s.2.2.2.1 s.2.1).bind fun a2=>
   (aR s.2.2.2.2 [(a1.1,a2.1)]).bind fun l3=>
   some (.next (s.1,aA .i64 (s.2.1+1),s.2.2.1,s.2.2.2.1,l3))
  else
   (aL s.2.2.2.1 s.2.1).bind fun a4=>
   bif a4.2.2==s.1 then
    (aL s.2.2.2.1 s.1).bind fun a5=>
    (aL s.2.2.2.1 s.2.1).bind fun a6=>
    (aR s.2.2.2.2 [(a5.1,a6.1)]).bind fun l7=>
    some (.next (s.1,aA .i64 (s.2.1+1),s.2.2.1,s.2.2.2.1,l7))
   else
    some (.next (s.1,aA .i64 (s.2.1+1),s.2.2))
 else
  some (.done (.next (aA .i64 (s.1+1),s.2.2)))
def Q2 (N:Nat) (s:(Int×Int×(List (Int×Int×Int))×(List (Int×Int)))):Option (aS (Int×Int×(List (Int×Int×Int))×(List (Int×Int))) (List (Int×Int))):=
 bif decide (s.1<(aa s.2.2.1.length)) then
  (aO N) (Q1 N) (s.1,0,s.2)
 else
  some (.done s.2.2.2)
def Q3 (N:Nat) (p0:cK):Option (List (Int×Int)):=
 (aO N) (Q2 N) (0,p0.root,p0.nodes,[])
def aUj (N:Nat):aV:=⟨aC.one (aF.agg sF),aF.sl cM,fun a=>(Q3 N) a,.frz,false⟩
theorem aKw (N:Nat):aB tab 134 (aUj N):=aB.of aFF (cx:=(aN (aK N) [] [] [] [])) rfl (aM.make trivial trivial trivial) (fun a=>by kernel_rfl)
def yE (N:Nat) (p0:aG) (p1:Field):Option (aW×Int):=
 ((JB N) p1 p0.now).bind fun r0=>
 ((Q3 N) r0).bind fun l1=>
 ((jX N) p0 p1 l1).bind fun a2=>
 bif a2.2 !=0 then
  some (aW.mk (aG.mk (0,0) (Field.mk []) (aI.mk 0 []) (aE.mk (aH.mk [] [] []) [] []) []) (cK.mk 0 []),a2.2)
 else
  some (aW.mk a2.1 r0,0)
def aUk (N:Nat):aV:=⟨aC.cons (aF.agg bB) (aC.one (aF.agg aT)),aF.tup (aC.cons (aF.agg cX) (aC.one (aF.int .i64))),fun a=>(yE N) a.1 a.2,.frz,false⟩
theorem aKx (N:Nat):aB tab 121 (aUk N):=aB.of aFA (cx:=(aN (aK N) [(133,(aUi N)),(134,(aUj N)),(217,(aAA N))] [] [] [])) rfl (aM.make ⟨(aKv N),(aKw N),(FI N),trivial⟩ trivial trivial) (fun a=>by kernel_rfl)
def EA (N:Nat) (p0:Field) (p1:Int×Int):Option (aW×Int):=
 ((fY N) p0).bind fun n0=>
 bif n0 !=0 then
  ((fY N) p0).bind fun n1=>
  some (aW.mk (aG.mk (0,0) (Field.mk []) (aI.mk 0 []) (aE.mk (aH.mk [] [] []) [] []) []) (cK.mk 0 []),n1)
 else
  ((iZ N) p1).bind fun n2=>
  bif n2 !=0 then
   some (aW.mk (aG.mk (0,0) (Field.mk []) (aI.mk 0 []) (aE.mk (aH.mk [] [] []) [] []) []) (cK.mk 0 []),8)
  else
   ((mS N) p0 p1).bind fun r3=>
   ((yE N) r3 p0).bind fun a4=>
   some a4
def c61 (N:Nat):aV:=⟨aC.cons (aF.agg aT) (aC.one (aF.agg (bE.row cM))),aF.tup (aC.cons (aF.agg cX) (aC.one (aF.int .i64))),fun a=>(EA N) a.1 a.2,.frz,false⟩
theorem aRS (N:Nat):aB tab 61 (c61 N):=aB.of aQu (cx:=(aN (aK N) [(115,(aAp N)),(116,(XH N)),(119,(aAt N)),(121,(aUk N))] [] [] [])) rfl (aM.make ⟨(FC N),(BH N),(FF N),(aKx N),trivial⟩ trivial trivial) (fun a=>by kernel_rfl)
def EU (N:Nat) (s:(Int×Int×(List (Int×Int×Int))×Int×Int×Int×Int×Int)):Option (aS (Int×Int×(List (Int×Int×Int))×Int×Int×Int×Int×Int) Int):=
 bif decide (s.2.1<(aa s.2.2.1.length)) then
  (aL s.2.2.1 s.2.1).bind fun a0=>
  bif a0.1 !=s.2.2.2.1 then
   (aL s.2.2.1 s.2.1).bind fun a1=>
   ((kU N) a1 (s.2.2.2.1,s.2.2.2.2.1,s.2.2.2.2.2.1) s.2.2.2.2.2.2).bind fun b2=>
   bif b2 then
    some (.next (aA .i64 (s.1+1),aA .i64 (s.2.1+1),s.2.2))
   else
    some (.next (s.1,aA .i64 (s.2.1+1),s.2.2))
  else
   some (.next (s.1,aA .i64 (s.2.1+1),s.2.2))
 else
  some (.done s.1)
def BT (N:Nat) (p0:Field) (p1:Int×Int×Int) (p2:Int×Int):Option Int:=
 (aO N) (EU N) (0,0,p0.points,p1.1,p1.2.1,p1.2.2,p2)
def aUl (N:Nat):aV:=⟨aC.cons (aF.agg aT) (aC.cons (aF.agg (bE.row bO)) (aC.one (aF.agg (bE.row cM)))),aF.int .i64,fun a=>(BT N) a.1 a.2.1 a.2.2,.pure,false⟩
theorem aKy (N:Nat):aB tab 326 (aUl N):=aB.of aHp (cx:=(aN (aK N) [(324,(XI N))] [] [] [])) rfl (aM.make ⟨(BI N),trivial⟩ trivial trivial) (fun a=>by kernel_rfl)
def C7 (N:Nat) (s:(Int×(List (Int×Int×Int))×Int×Int×(List Int))):Option (aS (Int×(List (Int×Int×Int))×Int×Int×(List Int)) (List Int)):=
 bif decide (s.1<(aa s.2.1.length)) then
  (aL s.2.1 s.1).bind fun a0=>
  ((BT N) (Field.mk s.2.1) a0 (s.2.2.1,s.2.2.2.1)).bind fun n1=>
  (aL s.2.1 s.1).bind fun a2=>
  (aL s.2.2.2.2 n1).bind fun _=>
  some (.next (aA .i64 (s.1+1),s.2.1,s.2.2.1,s.2.2.2.1,aZ s.2.2.2.2 n1 a2.1))
 else
  some (.done s.2.2.2.2)
def yF (N:Nat) (p0:Field) (p1:Int×Int):Option (List Int):=
 bif (aa p0.points.length)==(aa p0.points.length) then
  (jL (aa p0.points.length) (0:Int)).bind fun l0=>
  (aO N) (C7 N) (0,p0.points,p1.1,p1.2,l0)
 else
  none
def aUm (N:Nat):aV:=⟨aC.cons (aF.agg aT) (aC.one (aF.agg (bE.row cM))),aF.sl ki,fun a=>(yF N) a.1 a.2,.frz,false⟩
theorem aKz (N:Nat):aB tab 232 (aUm N):=aB.of aGE (cx:=(aN (aK N) [(326,(aUl N))] [] [] [])) rfl (aM.make ⟨(aKy N),trivial⟩ trivial trivial) (fun a=>by kernel_rfl)
def J7 (_:Nat) (c0:(((List Int)×Int×Int)->(Option (List (Int×Int))))) (s:((List Int)×Int×Int×Int×(List (Int×Int))×(List Int))):Option (aS ((List Int)×Int×Int×Int×(List (Int×Int))×(List Int)) (aS ((List Int)×Int×Int×(List (Int×Int))) (List (Int×Int)))):=
 bif decide (s.2.2.2.1<(aa s.1.length)) then
  (aL s.1 s.2.2.2.1).bind fun n0=>
  bif decide (s.2.1<0) then
   none
  else
   bif (ae (hP .i64 n0 s.2.1) 2)==s.2.2.1 then
    (aL s.1 s.2.2.2.1).bind fun n1=>
    (aR s.2.2.2.2.2 [n1]).bind fun l2=>
    some (.next (s.1,s.2.1,s.2.2.1,aA .i64 (s.2.2.2.1+1),s.2.2.2.2.1,l2))
   else
    some (.next (s.1,s.2.1,s.2.2.1,aA .i64 (s.2.2.2.1+1),s.2.2.2.2))
 else
  (aL s.1 0).bind fun n3=>
  (c0 (s.2.2.2.2.2,n3,aA .i64 (s.2.1+1))).bind fun l4=>
  bif l4.isEmpty then
   some (.done (.next (s.1,s.2.1,aA .i64 (s.2.2.1+1),s.2.2.2.2.1)))
  else
   (aR s.2.2.2.2.1 l4).bind fun l5=>
   some (.done (.next (s.1,s.2.1,aA .i64 (s.2.2.1+1),l5)))
def J8 (N:Nat) (c0:(((List Int)×Int×Int)->(Option (List (Int×Int))))) (s:((List Int)×Int×Int×(List (Int×Int)))):Option (aS ((List Int)×Int×Int×(List (Int×Int))) (List (Int×Int))):=
 bif decide (s.2.2.1<2) then
  (aO N) ((J7 N) c0) (s.1,s.2.1,s.2.2.1,1,s.2.2.2,[])
 else
  some (.done s.2.2.2)
def NQ (N:Nat) (self:(List Int)×Int×Int->Option (List (Int×Int))) (a:(List Int)×Int×Int):Option (List (Int×Int)):=
 bif (aa a.1.length)==0 then
  some []
 else
  (aL a.1 0).bind fun n0=>
  (aO N) ((J8 N) self) (a.1,a.2.2,0,[(n0,a.2.1)])
def nQ (N:Nat):Nat->(List Int)×Int×Int->Option (List (Int×Int))
 |0,_=>none
 |n+1,a=>(NQ N) ((nQ N) n) a
def JC (N:Nat) (p0:List Int) (p1:Int) (p2:Int):Option (List (Int×Int)):=(nQ N) 1000000 (p0,p1,p2)
def aUn (N:Nat):aV:=⟨aC.cons (aF.sl ki) (aC.cons (aF.int .i64) (aC.one (aF.int .i64))),aF.sl cM,fun a=>(JC N) a.1 a.2.1 a.2.2,.frz,false⟩
theorem Q4 (N:Nat): ∀n,aB tab 231 ⟨aC.cons (aF.sl ki) (aC.cons (aF.int .i64) (aC.one (aF.int .i64))),aF.sl cM,fun a=>(nQ N) n a,.frz,false⟩
 |0=>aB.zero (fun _=>rfl)
 |n+1=>aB.of aGD (cx:=(aN (aK N) [(231,⟨aC.cons (aF.sl ki) (aC.cons (aF.int .i64) (aC.one (aF.int .i64))),aF.sl cM,fun a=>(nQ N) n a,.frz,false⟩)] [] [] [])) rfl (aM.make ⟨((Q4 N) n),trivial⟩ trivial trivial) (fun a=>by kernel_rfl)
theorem aKA (N:Nat):aB tab 231 (aUn N):=(Q4 N) 1000000
def Q5 (N:Nat) (s:((List (Int×Int))×Int×(List (Int×Int×Int))×(List Int))):Option (aS ((List (Int×Int))×Int×(List (Int×Int×Int))×(List Int)) (List Int)):=
 bif decide (s.2.1<(aa s.1.length)) then
  (aL s.1 s.2.1).bind fun a0=>
  ((mR N) (Field.mk s.2.2.1) a0.1).bind fun n1=>
  (aL s.1 s.2.1).bind fun a2=>
  (aL s.2.2.2 n1).bind fun _=>
  some (.next (s.1,aA .i64 (s.2.1+1),s.2.2.1,aZ s.2.2.2 n1 a2.2))
 else
  some (.done s.2.2.2)
def Q6 (N:Nat) (p0:Field) (p1:Int×Int):Option (List Int):=
 ((yF N) p0 p1).bind fun l0=>
 ((JC N) l0 (-1) 0).bind fun l1=>
 bif (aa p0.points.length)==(aa p0.points.length) then
  (jL (aa p0.points.length) (0:Int)).bind fun l2=>
  (aO N) (Q5 N) (l1,0,p0.points,l2)
 else
  none
def aUo (N:Nat):aV:=⟨aC.cons (aF.agg aT) (aC.one (aF.agg (bE.row cM))),aF.sl ki,fun a=>(Q6 N) a.1 a.2,.frz,false⟩
theorem aKB (N:Nat):aB tab 135 (aUo N):=aB.of aFG (cx:=(aN (aK N) [(232,(aUm N)),(231,(aUn N)),(124,(aAq N))] [] [] [])) rfl (aM.make ⟨(aKz N),(aKA N),(FD N),trivial⟩ trivial trivial) (fun a=>by kernel_rfl)
def Q7 (_:Nat) (s:((List Int)×Int×(List (Int×Int×Int))×(List (Int×Int)))):Option (aS ((List Int)×Int×(List (Int×Int×Int))×(List (Int×Int))) (List (Int×Int))):=
 bif decide (s.2.1<(aa s.1.length)) then
  (aL s.1 s.2.1).bind fun n0=>
  bif decide (0<=n0) then
   (aL s.2.2.1 s.2.1).bind fun a1=>
   (aL s.1 s.2.1).bind fun n2=>
   (aR s.2.2.2 [(a1.1,n2)]).bind fun l3=>
   some (.next (s.1,aA .i64 (s.2.1+1),s.2.2.1,l3))
  else
   some (.next (s.1,aA .i64 (s.2.1+1),s.2.2))
 else
  some (.done s.2.2.2)
def Q8 (N:Nat) (p0:Field) (p1:List Int):Option (List (Int×Int)):=
 (aO N) (Q7 N) (p1,0,p0.points,[])
def aUp (N:Nat):aV:=⟨aC.cons (aF.agg aT) (aC.one (aF.sl ki)),aF.sl cM,fun a=>(Q8 N) a.1 a.2,.frz,false⟩
theorem aKC (N:Nat):aB tab 136 (aUp N):=aB.of aFH (cx:=(aN (aK N) [] [] [] [])) rfl (aM.make trivial trivial trivial) (fun a=>by kernel_rfl)
def JD (N:Nat) (p0:aG) (p1:Field):Option (bA×Int):=
 ((Q6 N) p1 p0.now).bind fun l0=>
 ((Q8 N) p1 l0).bind fun l1=>
 ((jX N) p0 p1 l1).bind fun a2=>
 bif a2.2 !=0 then
  some (bA.mk (aG.mk (0,0) (Field.mk []) (aI.mk 0 []) (aE.mk (aH.mk [] [] []) [] []) []) [],a2.2)
 else
  some (bA.mk a2.1 l0,0)
def aUq (N:Nat):aV:=⟨aC.cons (aF.agg bB) (aC.one (aF.agg aT)),aF.tup (aC.cons (aF.agg cY) (aC.one (aF.int .i64))),fun a=>(JD N) a.1 a.2,.frz,false⟩
theorem aKD (N:Nat):aB tab 122 (aUq N):=aB.of aFB (cx:=(aN (aK N) [(135,(aUo N)),(136,(aUp N)),(217,(aAA N))] [] [] [])) rfl (aM.make ⟨(aKB N),(aKC N),(FI N),trivial⟩ trivial trivial) (fun a=>by kernel_rfl)
def EB (N:Nat) (p0:Field) (p1:Int×Int):Option (bA×Int):=
 ((fY N) p0).bind fun n0=>
 bif n0 !=0 then
  ((fY N) p0).bind fun n1=>
  some (bA.mk (aG.mk (0,0) (Field.mk []) (aI.mk 0 []) (aE.mk (aH.mk [] [] []) [] []) []) [],n1)
 else
  ((iZ N) p1).bind fun n2=>
  bif n2 !=0 then
   some (bA.mk (aG.mk (0,0) (Field.mk []) (aI.mk 0 []) (aE.mk (aH.mk [] [] []) [] []) []) [],8)
  else
   ((mS N) p0 p1).bind fun r3=>
   ((JD N) r3 p0).bind fun a4=>
   some a4
def c62 (N:Nat):aV:=⟨aC.cons (aF.agg aT) (aC.one (aF.agg (bE.row cM))),aF.tup (aC.cons (aF.agg cY) (aC.one (aF.int .i64))),fun a=>(EB N) a.1 a.2,.frz,false⟩
theorem aRT (N:Nat):aB tab 62 (c62 N):=aB.of aQv (cx:=(aN (aK N) [(115,(aAp N)),(116,(XH N)),(119,(aAt N)),(122,(aUq N))] [] [] [])) rfl (aM.make ⟨(FC N),(BH N),(FF N),(aKD N),trivial⟩ trivial trivial) (fun a=>by kernel_rfl)
def mT (N:Nat) (p0:Int×Int):Option Int:=
 ((iZ N) p0).bind fun n0=>
 bif n0 !=0 then
  ((iZ N) p0).bind fun n1=>
  some n1
 else
  bif decide (1073741824<p0.1) then
   some 2
  else
   bif decide (p0.1<(-1073741824)) then
    some 2
   else
    bif decide (1024<p0.2) then
     some 2
    else
     some 0
def c63 (N:Nat):aV:=⟨aC.one (aF.agg (bE.row cM)),aF.int .i64,fun a=>(mT N) a,.pure,false⟩
theorem aRU (N:Nat):aB tab 63 (c63 N):=aB.of aQw (cx:=(aN (aK N) [(116,(XH N))] [] [] [])) rfl (aM.make ⟨(BH N),trivial⟩ trivial trivial) (fun a=>by kernel_rfl)
def dS (_:Nat) (p0:aY) (p1:Int):Option (aY×Int):=
 bif p1 !=0 then
  some (aY.mk 0 (bH.mk (aG.mk (0,0) (Field.mk []) (aI.mk 0 []) (aE.mk (aH.mk [] [] []) [] []) []) []) (bC.mk (aG.mk (0,0) (Field.mk []) (aI.mk 0 []) (aE.mk (aH.mk [] [] []) [] []) []) (aQ.mk [] [])) (aW.mk (aG.mk (0,0) (Field.mk []) (aI.mk 0 []) (aE.mk (aH.mk [] [] []) [] []) []) (cK.mk 0 [])) (bA.mk (aG.mk (0,0) (Field.mk []) (aI.mk 0 []) (aE.mk (aH.mk [] [] []) [] []) []) []),p1)
 else
  some (p0,0)
def c64 (N:Nat):aV:=⟨aC.cons (aF.agg cI) (aC.one (aF.int .i64)),aF.tup (aC.cons (aF.agg cI) (aC.one (aF.int .i64))),fun a=>(dS N) a.1 a.2,.frz,false⟩
theorem aRV (N:Nat):aB tab 64 (c64 N):=aB.of aQx (cx:=(aN (aK N) [] [] [] [])) rfl (aM.make trivial trivial trivial) (fun a=>by kernel_rfl)
def LR (N:Nat) (p0:Int) (p1:Field) (p2:Int×Int):Option (aY×Int):=
 bif p0==1 then
  ((D6 N) p1 p2).bind fun a0=>
  bif a0.2==0 then
   ((mT N) p2).bind fun n1=>
   bif n1 !=0 then
    ((dS N) (aY.mk p0 a0.1 (bC.mk (aG.mk (0,0) (Field.mk []) (aI.mk 0 []) (aE.mk (aH.mk [] [] []) [] []) []) (aQ.mk [] [])) (aW.mk (aG.mk (0,0) (Field.mk []) (aI.mk 0 []) (aE.mk (aH.mk [] [] []) [] []) []) (cK.mk 0 [])) (bA.mk (aG.mk (0,0) (Field.mk []) (aI.mk 0 []) (aE.mk (aH.mk [] [] []) [] []) []) [])) 2).bind fun a2=>
    some a2
   else
    ((dS N) (aY.mk p0 a0.1 (bC.mk (aG.mk (0,0) (Field.mk []) (aI.mk 0 []) (aE.mk (aH.mk [] [] []) [] []) []) (aQ.mk [] [])) (aW.mk (aG.mk (0,0) (Field.mk []) (aI.mk 0 []) (aE.mk (aH.mk [] [] []) [] []) []) (cK.mk 0 [])) (bA.mk (aG.mk (0,0) (Field.mk []) (aI.mk 0 []) (aE.mk (aH.mk [] [] []) [] []) []) [])) a0.2).bind fun a3=>
    some a3
  else
   ((dS N) (aY.mk p0 a0.1 (bC.mk (aG.mk (0,0) (Field.mk []) (aI.mk 0 []) (aE.mk (aH.mk [] [] []) [] []) []) (aQ.mk [] [])) (aW.mk (aG.mk (0,0) (Field.mk []) (aI.mk 0 []) (aE.mk (aH.mk [] [] []) [] []) []) (cK.mk 0 [])) (bA.mk (aG.mk (0,0) (Field.mk []) (aI.mk 0 []) (aE.mk (aH.mk [] [] []) [] []) []) [])) a0.2).bind fun a4=>
   some a4
 else
  bif p0==2 then
   ((D9 N) p1 p2).bind fun a5=>
   bif a5.2==0 then
    ((mT N) p2).bind fun n6=>
    bif n6 !=0 then
     ((dS N) (aY.mk p0 (bH.mk (aG.mk (0,0) (Field.mk []) (aI.mk 0 []) (aE.mk (aH.mk [] [] []) [] []) []) []) a5.1 (aW.mk (aG.mk (0,0) (Field.mk []) (aI.mk 0 []) (aE.mk (aH.mk [] [] []) [] []) []) (cK.mk 0 [])) (bA.mk (aG.mk (0,0) (Field.mk []) (aI.mk 0 []) (aE.mk (aH.mk [] [] []) [] []) []) [])) 2).bind fun a7=>
     some a7
    else
     ((dS N) (aY.mk p0 (bH.mk (aG.mk (0,0) (Field.mk []) (aI.mk 0 []) (aE.mk (aH.mk [] [] []) [] []) []) []) a5.1 (aW.mk (aG.mk (0,0) (Field.mk []) (aI.mk 0 []) (aE.mk (aH.mk [] [] []) [] []) []) (cK.mk 0 [])) (bA.mk (aG.mk (0,0) (Field.mk []) (aI.mk 0 []) (aE.mk (aH.mk [] [] []) [] []) []) [])) a5.2).bind fun a8=>
     some a8
   else
    ((dS N) (aY.mk p0 (bH.mk (aG.mk (0,0) (Field.mk []) (aI.mk 0 []) (aE.mk (aH.mk [] [] []) [] []) []) []) a5.1 (aW.mk (aG.mk (0,0) (Field.mk []) (aI.mk 0 []) (aE.mk (aH.mk [] [] []) [] []) []) (cK.mk 0 [])) (bA.mk (aG.mk (0,0) (Field.mk []) (aI.mk 0 []) (aE.mk (aH.mk [] [] []) [] []) []) [])) a5.2).bind fun a9=>
    some a9
  else
   bif p0==3 then
    ((EA N) p1 p2).bind fun a10=>
    bif a10.2==0 then
     ((mT N) p2).bind fun n11=>
     bif n11 !=0 then
      ((dS N) (aY.mk p0 (bH.mk (aG.mk (0,0) (Field.mk []) (aI.mk 0 []) (aE.mk (aH.mk [] [] []) [] []) []) []) (bC.mk (aG.mk (0,0) (Field.mk []) (aI.mk 0 []) (aE.mk (aH.mk [] [] []) [] []) []) (aQ.mk [] [])) a10.1 (bA.mk (aG.mk (0,0) (Field.mk []) (aI.mk 0 []) (aE.mk (aH.mk [] [] []) [] []) []) [])) 2).bind fun a12=>
      some a12
     else
      ((dS N) (aY.mk p0 (bH.mk (aG.mk (0,0) (Field.mk []) (aI.mk 0 []) (aE.mk (aH.mk [] [] []) [] []) []) []) (bC.mk (aG.mk (0,0) (Field.mk []) (aI.mk 0 []) (aE.mk (aH.mk [] [] []) [] []) []) (aQ.mk [] [])) a10.1 (bA.mk (aG.mk (0,0) (Field.mk []) (aI.mk 0 []) (aE.mk (aH.mk [] [] []) [] []) []) [])) a10.2).bind fun a13=>
      some a13
    else
     ((dS N) (aY.mk p0 (bH.mk (aG.mk (0,0) (Field.mk []) (aI.mk 0 []) (aE.mk (aH.mk [] [] []) [] []) []) []) (bC.mk (aG.mk (0,0) (Field.mk []) (aI.mk 0 []) (aE.mk (aH.mk [] [] []) [] []) []) (aQ.mk [] [])) a10.1 (bA.mk (aG.mk (0,0) (Field.mk []) (aI.mk 0 []) (aE.mk (aH.mk [] [] []) [] []) []) [])) a10.2).bind fun a14=>
     some a14
   else
    bif p0==4 then
     ((EB N) p1 p2).bind fun a15=>
     bif a15.2==0 then
      ((mT N) p2).bind fun n16=>
      bif n16 !=0 then
       ((dS N) (aY.mk p0 (bH.mk (aG.mk (0,0) (Field.mk []) (aI.mk 0 []) (aE.mk (aH.mk [] [] []) [] []) []) []) (bC.mk (aG.mk (0,0) (Field.mk []) (aI.mk 0 []) (aE.mk (aH.mk [] [] []) [] []) []) (aQ.mk [] [])) (aW.mk (aG.mk (0,0) (Field.mk []) (aI.mk 0 []) (aE.mk (aH.mk [] [] []) [] []) []) (cK.mk 0 [])) a15.1) 2).bind fun a17=>
       some a17
      else
       ((dS N) (aY.mk p0 (bH.mk (aG.mk (0,0) (Field.mk []) (aI.mk 0 []) (aE.mk (aH.mk [] [] []) [] []) []) []) (bC.mk (aG.mk (0,0) (Field.mk []) (aI.mk 0 []) (aE.mk (aH.mk [] [] []) [] []) []) (aQ.mk [] [])) (aW.mk (aG.mk (0,0) (Field.mk []) (aI.mk 0 []) (aE.mk (aH.mk [] [] []) [] []) []) (cK.mk 0 [])) a15.1) a15.2).bind fun a18=>
       some a18
     else
      ((dS N) (aY.mk p0 (bH.mk (aG.mk (0,0) (Field.mk []) (aI.mk 0 []) (aE.mk (aH.mk [] [] []) [] []) []) []) (bC.mk (aG.mk (0,0) (Field.mk []) (aI.mk 0 []) (aE.mk (aH.mk [] [] []) [] []) []) (aQ.mk [] [])) (aW.mk (aG.mk (0,0) (Field.mk []) (aI.mk 0 []) (aE.mk (aH.mk [] [] []) [] []) []) (cK.mk 0 [])) a15.1) a15.2).bind fun a19=>
      some a19
    else
     ((dS N) (aY.mk p0 (bH.mk (aG.mk (0,0) (Field.mk []) (aI.mk 0 []) (aE.mk (aH.mk [] [] []) [] []) []) []) (bC.mk (aG.mk (0,0) (Field.mk []) (aI.mk 0 []) (aE.mk (aH.mk [] [] []) [] []) []) (aQ.mk [] [])) (aW.mk (aG.mk (0,0) (Field.mk []) (aI.mk 0 []) (aE.mk (aH.mk [] [] []) [] []) []) (cK.mk 0 [])) (bA.mk (aG.mk (0,0) (Field.mk []) (aI.mk 0 []) (aE.mk (aH.mk [] [] []) [] []) []) [])) 2).bind fun a20=>
     some a20
def c23 (N:Nat):aV:=⟨aC.cons (aF.int .u8) (aC.cons (aF.agg aT) (aC.one (aF.agg (bE.row cM)))),aF.tup (aC.cons (aF.agg cI) (aC.one (aF.int .i64))),fun a=>(LR N) a.1 a.2.1 a.2.2,.frz,false⟩
theorem aRW (N:Nat):aB tab 23 (c23 N):=aB.of aP7 (cx:=(aN (aK N) [(59,(c59 N)),(60,(c60 N)),(61,(c61 N)),(62,(c62 N)),(63,(c63 N)),(64,(c64 N))] [] [] [])) rfl (aM.make ⟨(aRP N),(aRR N),(aRS N),(aRT N),(aRU N),(aRV N),trivial⟩ trivial trivial) (fun a=>by kernel_rfl)
def C8 (_:Nat) (s:((List Int)×(List Int)×Int)):Option (aS ((List Int)×(List Int)×Int) Bool):=
 bif decide (s.2.2<(aa s.1.length)) then
  (aL s.1 s.2.2).bind fun n0=>
  (aL s.2.1 s.2.2).bind fun n1=>
  bif n0 !=n1 then
   some (.done false)
  else
   some (.next (s.1,s.2.1,aA .i64 (s.2.2+1)))
 else
  some (.done true)
def gE (N:Nat) (p0:List Int) (p1:List Int):Option Bool:=
 bif (aa p0.length) !=(aa p1.length) then
  some false
 else
  (aO N) (C8 N) (p0,p1,0)
def c24 (N:Nat):aV:=⟨aC.cons (aF.sl ki) (aC.one (aF.sl ki)),aF.bool,fun a=>(gE N) a.1 a.2,.pure,false⟩
theorem JE (N:Nat):aB tab 24 (c24 N):=aB.of aP8 (cx:=(aN (aK N) [] [] [] [])) rfl (aM.make trivial trivial trivial) (fun a=>by kernel_rfl)
def EC (N:Nat):Option Bool:=
 ((eF N) 5).bind fun a0=>
 ((gA N) [true,true,true,false,false,false]).bind fun a1=>
 ((jT N) [true,true,true,false,false,false]).bind fun a2=>
 bif a0.2==0 then
  bif a0.1==8 then
   bif a1.2==0 then
    ((gE N) a1.1 [1,2,4,4,2,1]).bind fun b3=>
    bif b3 then
     bif a2.2==0 then
      some (a2.1==4)
     else
      some false
    else
     some false
   else
    some false
  else
   some false
 else
  some false
def c8 (N:Nat):aV:=⟨aC.nil,aF.bool,fun _=>(EC N),.pure,false⟩
theorem aUr (N:Nat):aB tab 8 (c8 N):=aB.of aSt (cx:=(aN (aK N) [(21,(c21 N)),(9,(c9 N)),(22,(c22 N)),(24,(c24 N))] [] [] [])) rfl (aM.make ⟨(Z0 N),(aLa N),(Z1 N),(JE N),trivial⟩ trivial trivial) (fun a=>by kernel_rfl)
def J9 (_:Nat) (s:(Int×Int×(List (Int×Int×Int))×Int×(List (Int×Int×Int)))):Option (aS (Int×Int×(List (Int×Int×Int))×Int×(List (Int×Int×Int))) Bool):=
 bif decide (s.1<(aa s.2.2.1.length)) then
  (aL s.2.2.1 s.1).bind fun a0=>
  (aL s.2.2.2.2 s.1).bind fun a1=>
  bif !((a0.1==a1.1)&&((a0.2.1==a1.2.1)&&(a0.2.2==a1.2.2))) then
   some (.done false)
  else
   some (.next (aA .i64 (s.1+1),s.2))
 else
  some (.done true)
def JF (N:Nat) (p0:aI) (p1:aI):Option Bool:=
 bif p0.next_ !=p1.next_ then
  some false
 else
  bif (aa p0.list.length) !=(aa p1.list.length) then
   some false
  else
   (aO N) (J9 N) (0,p0.next_,p0.list,p1.next_,p1.list)
def aUs (N:Nat):aV:=⟨aC.cons (aF.agg eY) (aC.one (aF.agg eY)),aF.bool,fun a=>(JF N) a.1 a.2,.pure,false⟩
theorem aKE (N:Nat):aB tab 211 (aUs N):=aB.of aGp (cx:=(aN (aK N) [] [] [] [])) rfl (aM.make trivial trivial trivial) (fun a=>by kernel_rfl)
def BU (_:Nat) (s:((List Int)×(List Int)×Int)):Option (aS ((List Int)×(List Int)×Int) Bool):=
 bif decide (s.2.2<(aa s.1.length)) then
  (aL s.1 s.2.2).bind fun n0=>
  (aL s.2.1 s.2.2).bind fun n1=>
  bif n0 !=n1 then
   some (.done false)
  else
   some (.next (s.1,s.2.1,aA .i64 (s.2.2+1)))
 else
  some (.done true)
def lI (N:Nat) (p0:List Int) (p1:List Int):Option Bool:=
 bif (aa p0.length) !=(aa p1.length) then
  some false
 else
  (aO N) (BU N) (p0,p1,0)
def aRX (N:Nat):aV:=⟨aC.cons (aF.sl ki) (aC.one (aF.sl ki)),aF.bool,fun a=>(lI N) a.1 a.2,.pure,false⟩
theorem VP (N:Nat):aB tab 310 (aRX N):=aB.of aHc (cx:=(aN (aK N) [] [] [] [])) rfl (aM.make trivial trivial trivial) (fun a=>by kernel_rfl)
def zM (_:Nat) (s:((List Bool)×(List Bool)×Int)):Option (aS ((List Bool)×(List Bool)×Int) Bool):=
 bif decide (s.2.2<(aa s.1.length)) then
  (aL s.1 s.2.2).bind fun b0=>
  (aL s.2.1 s.2.2).bind fun b1=>
  bif !(b0==b1) then
   some (.done false)
  else
   some (.next (s.1,s.2.1,aA .i64 (s.2.2+1)))
 else
  some (.done true)
def tN (N:Nat) (p0:List Bool) (p1:List Bool):Option Bool:=
 bif (aa p0.length) !=(aa p1.length) then
  some false
 else
  (aO N) (zM N) (p0,p1,0)
def aUt (N:Nat):aV:=⟨aC.cons (aF.sl kb) (aC.one (aF.sl kb)),aF.bool,fun a=>(tN N) a.1 a.2,.pure,false⟩
theorem aKF (N:Nat):aB tab 365 (aUt N):=aB.of aHN (cx:=(aN (aK N) [] [] [] [])) rfl (aM.make trivial trivial trivial) (fun a=>by kernel_rfl)
def JG (N:Nat) (p0:aH) (p1:aH):Option Bool:=
 ((lI N) p0.uses p1.uses).bind fun b0=>
 bif b0 then
  ((tN N) p0.used p1.used).bind fun b1=>
  bif b1 then
   ((lI N) p0.free p1.free).bind fun b2=>
   some b2
  else
   some false
 else
  some false
def aUu (N:Nat):aV:=⟨aC.cons (aF.agg eZ) (aC.one (aF.agg eZ)),aF.bool,fun a=>(JG N) a.1 a.2,.pure,false⟩
theorem aKG (N:Nat):aB tab 309 (aUu N):=aB.of aHb (cx:=(aN (aK N) [(310,(aRX N)),(365,(aUt N))] [] [] [])) rfl (aM.make ⟨(VP N),(aKF N),trivial⟩ trivial trivial) (fun a=>by kernel_rfl)
def KA (_:Nat) (s:(Int×(List Int)×(List Bool)×(List Int)×(List (Int×Int×Int×Int×Int))×(List Int)×(List Int)×(List Bool)×(List Int)×(List (Int×Int×Int×Int×Int))×(List Int))):Option (aS (Int×(List Int)×(List Bool)×(List Int)×(List (Int×Int×Int×Int×Int))×(List Int)×(List Int)×(List Bool)×(List Int)×(List (Int×Int×Int×Int×Int))×(List Int)) Bool):=
 bif decide (s.1<(aa s.2.2.2.2.1.length)) then
  (aL s.2.2.2.2.1 s.1).bind fun a0=>
  (aL s.2.2.2.2.2.2.2.2.2.1 s.1).bind fun a1=>
  bif !((a0.1==a1.1)&&((a0.2.1==a1.2.1)&&((a0.2.2.1==a1.2.2.1)&&((a0.2.2.2.1==a1.2.2.2.1)&&(a0.2.2.2.2==a1.2.2.2.2))))) then
   some (.done false)
  else
   some (.next (aA .i64 (s.1+1),s.2))
 else
  some (.done true)
def JH (N:Nat) (p0:aE) (p1:aE):Option Bool:=
 ((JG N) p0.slots p1.slots).bind fun b0=>
 bif !b0 then
  some false
 else
  ((lI N) p0.where_ p1.where_).bind fun b1=>
  bif !b1 then
   some false
  else
   bif (aa p0.heap.length) !=(aa p1.heap.length) then
    some false
   else
    (aO N) (KA N) (0,p0.slots.uses,p0.slots.used,p0.slots.free,p0.heap,p0.where_,p1.slots.uses,p1.slots.used,p1.slots.free,p1.heap,p1.where_)
def aUv (N:Nat):aV:=⟨aC.cons (aF.agg cE) (aC.one (aF.agg cE)),aF.bool,fun a=>(JH N) a.1 a.2,.pure,false⟩
theorem aKH (N:Nat):aB tab 212 (aUv N):=aB.of aGq (cx:=(aN (aK N) [(309,(aUu N)),(310,(aRX N))] [] [] [])) rfl (aM.make ⟨(aKG N),(VP N),trivial⟩ trivial trivial) (fun a=>by kernel_rfl)
def KB (_:Nat) (s:(Int×Int×Int×(List (Int×Int×Int))×Int×(List (Int×Int×Int))×(List Int)×(List Bool)×(List Int)×(List (Int×Int×Int×Int×Int))×(List Int)×(List (Int×Int×Int))×Int×Int×(List (Int×Int×Int))×Int×(List (Int×Int×Int))×(List Int)×(List Bool)×(List Int)×(List (Int×Int×Int×Int×Int))×(List Int)×(List (Int×Int×Int)))):Option (aS (Int×Int×Int×(List (Int×Int×Int))×Int×(List (Int×Int×Int))×(List Int)×(List Bool)×(List Int)×(List (Int×Int×Int×Int×Int))×(List Int)×(List (Int×Int×Int))×Int×Int×(List (Int×Int×Int))×Int×(List (Int×Int×Int))×(List Int)×(List Bool)×(List Int)×(List (Int×Int×Int×Int×Int))×(List Int)×(List (Int×Int×Int))) Bool):=
 bif decide (s.1<(aa s.2.2.2.2.2.2.2.2.2.2.2.1.length)) then
  (aL s.2.2.2.2.2.2.2.2.2.2.2.1 s.1).bind fun a0=>
  (aL s.2.2.2.2.2.2.2.2.2.2.2.2.2.2.2.2.2.2.2.2.2.2 s.1).bind fun a1=>
  bif !((a0.1==a1.1)&&((a0.2.1==a1.2.1)&&(a0.2.2==a1.2.2))) then
   some (.done false)
  else
   some (.next (aA .i64 (s.1+1),s.2))
 else
  some (.done true)
def oR (N:Nat) (p0:aG) (p1:aG):Option Bool:=
 bif !((p0.now.1==p1.now.1)&&(p0.now.2==p1.now.2)) then
  some false
 else
  ((zH N) p0.field p1.field).bind fun b0=>
  bif !b0 then
   some false
  else
   ((JF N) p0.certs p1.certs).bind fun b1=>
   bif !b1 then
    some false
   else
    ((JH N) p0.agenda p1.agenda).bind fun b2=>
    bif !b2 then
     some false
    else
     bif (aa p0.due.length) !=(aa p1.due.length) then
      some false
     else
      (aO N) (KB N) (0,p0.now.1,p0.now.2,p0.field.points,p0.certs.next_,p0.certs.list,p0.agenda.slots.uses,p0.agenda.slots.used,p0.agenda.slots.free,p0.agenda.heap,p0.agenda.where_,p0.due,p1.now.1,p1.now.2,p1.field.points,p1.certs.next_,p1.certs.list,p1.agenda.slots.uses,p1.agenda.slots.used,p1.agenda.slots.free,p1.agenda.heap,p1.agenda.where_,p1.due)
def aAC (N:Nat):aV:=⟨aC.cons (aF.agg bB) (aC.one (aF.agg bB)),aF.bool,fun a=>(oR N) a.1 a.2,.pure,false⟩
theorem FJ (N:Nat):aB tab 112 (aAC N):=aB.of aFr (cx:=(aN (aK N) [(210,(aRJ N)),(211,(aUs N)),(212,(aUv N))] [] [] [])) rfl (aM.make ⟨(VI N),(aKE N),(aKH N),trivial⟩ trivial trivial) (fun a=>by kernel_rfl)
def JI (N:Nat) (p0:bH) (p1:bH):Option Bool:=
 ((oR N) p0.clock p1.clock).bind fun b0=>
 bif b0 then
  ((gE N) p0.heap p1.heap).bind fun b1=>
  some b1
 else
  some false
def c54 (N:Nat):aV:=⟨aC.cons (aF.agg fV) (aC.one (aF.agg fV)),aF.bool,fun a=>(JI N) a.1 a.2,.pure,false⟩
theorem aRY (N:Nat):aB tab 54 (c54 N):=aB.of aQn (cx:=(aN (aK N) [(112,(aAC N)),(24,(c24 N))] [] [] [])) rfl (aM.make ⟨(FJ N),(JE N),trivial⟩ trivial trivial) (fun a=>by kernel_rfl)
def JJ (N:Nat) (p0:aQ) (p1:aQ):Option Bool:=
 ((gE N) p0.places p1.places).bind fun b0=>
 bif b0 then
  ((gE N) p0.wins p1.wins).bind fun b1=>
  some b1
 else
  some false
def aUw (N:Nat):aV:=⟨aC.cons (aF.agg fD) (aC.one (aF.agg fD)),aF.bool,fun a=>(JJ N) a.1 a.2,.pure,false⟩
theorem aKI (N:Nat):aB tab 113 (aUw N):=aB.of aFs (cx:=(aN (aK N) [(24,(c24 N))] [] [] [])) rfl (aM.make ⟨(JE N),trivial⟩ trivial trivial) (fun a=>by kernel_rfl)
def JK (N:Nat) (p0:bC) (p1:bC):Option Bool:=
 ((oR N) p0.clock p1.clock).bind fun b0=>
 bif b0 then
  ((JJ N) p0.bracket p1.bracket).bind fun b1=>
  some b1
 else
  some false
def c55 (N:Nat):aV:=⟨aC.cons (aF.agg eR) (aC.one (aF.agg eR)),aF.bool,fun a=>(JK N) a.1 a.2,.pure,false⟩
theorem aRZ (N:Nat):aB tab 55 (c55 N):=aB.of aQo (cx:=(aN (aK N) [(112,(aAC N)),(113,(aUw N))] [] [] [])) rfl (aM.make ⟨(FJ N),(aKI N),trivial⟩ trivial trivial) (fun a=>by kernel_rfl)
def JL (_:Nat) (s:(Int×Int×(List (Int×Int×Int))×Int×(List (Int×Int×Int)))):Option (aS (Int×Int×(List (Int×Int×Int))×Int×(List (Int×Int×Int))) Bool):=
 bif decide (s.1<(aa s.2.2.1.length)) then
  (aL s.2.2.1 s.1).bind fun a0=>
  (aL s.2.2.2.2 s.1).bind fun a1=>
  bif !((a0.1==a1.1)&&((a0.2.1==a1.2.1)&&(a0.2.2==a1.2.2))) then
   some (.done false)
  else
   some (.next (aA .i64 (s.1+1),s.2))
 else
  some (.done true)
def ED (N:Nat) (p0:cK) (p1:cK):Option Bool:=
 bif p0.root !=p1.root then
  some false
 else
  bif (aa p0.nodes.length) !=(aa p1.nodes.length) then
   some false
  else
   (aO N) (JL N) (0,p0.root,p0.nodes,p1.root,p1.nodes)
def aUx (N:Nat):aV:=⟨aC.cons (aF.agg sF) (aC.one (aF.agg sF)),aF.bool,fun a=>(ED N) a.1 a.2,.pure,false⟩
theorem aKJ (N:Nat):aB tab 114 (aUx N):=aB.of aFt (cx:=(aN (aK N) [] [] [] [])) rfl (aM.make trivial trivial trivial) (fun a=>by kernel_rfl)
def JM (N:Nat) (p0:aW) (p1:aW):Option Bool:=
 ((oR N) p0.clock p1.clock).bind fun b0=>
 bif b0 then
  ((ED N) p0.tree p1.tree).bind fun b1=>
  some b1
 else
  some false
def c56 (N:Nat):aV:=⟨aC.cons (aF.agg cX) (aC.one (aF.agg cX)),aF.bool,fun a=>(JM N) a.1 a.2,.pure,false⟩
theorem aR0 (N:Nat):aB tab 56 (c56 N):=aB.of aQp (cx:=(aN (aK N) [(112,(aAC N)),(114,(aUx N))] [] [] [])) rfl (aM.make ⟨(FJ N),(aKJ N),trivial⟩ trivial trivial) (fun a=>by kernel_rfl)
def JN (N:Nat) (p0:bA) (p1:bA):Option Bool:=
 ((oR N) p0.clock p1.clock).bind fun b0=>
 bif b0 then
  ((gE N) p0.up p1.up).bind fun b1=>
  some b1
 else
  some false
def c57 (N:Nat):aV:=⟨aC.cons (aF.agg cY) (aC.one (aF.agg cY)),aF.bool,fun a=>(JN N) a.1 a.2,.pure,false⟩
theorem aR1 (N:Nat):aB tab 57 (c57 N):=aB.of aQq (cx:=(aN (aK N) [(112,(aAC N)),(24,(c24 N))] [] [] [])) rfl (aM.make ⟨(FJ N),(JE N),trivial⟩ trivial trivial) (fun a=>by kernel_rfl)
def JO (N:Nat) (p0:aY) (p1:aY):Option Bool:=
 bif p0.tag==p1.tag then
  ((JI N) p0.heap p1.heap).bind fun b0=>
  bif b0 then
   ((JK N) p0.tourn p1.tourn).bind fun b1=>
   bif b1 then
    ((JM N) p0.heater p1.heater).bind fun b2=>
    bif b2 then
     ((JN N) p0.hanger p1.hanger).bind fun b3=>
     some b3
    else
     some false
   else
    some false
  else
   some false
 else
  some false
def c20 (N:Nat):aV:=⟨aC.cons (aF.agg cI) (aC.one (aF.agg cI)),aF.bool,fun a=>(JO N) a.1 a.2,.pure,false⟩
theorem aR2 (N:Nat):aB tab 20 (c20 N):=aB.of aP4 (cx:=(aN (aK N) [(54,(c54 N)),(55,(c55 N)),(56,(c56 N)),(57,(c57 N))] [] [] [])) rfl (aM.make ⟨(aRY N),(aRZ N),(aR0 N),(aR1 N),trivial⟩ trivial trivial) (fun a=>by kernel_rfl)
def iJ (N:Nat) (s:(Int×Int×Int×Int×Int×Int×Int×Int×(List Int)×Int×Int×(List Bool))):Option (aS (Int×Int×Int×Int×Int×Int×Int×Int×(List Int)×Int×Int×(List Bool)) Bool):=
 bif decide (s.2.2.2.2.2.2.2.2.2.2.1<70) then
  (aL s.2.2.2.2.2.2.2.2.2.2.2 s.2.2.2.2.2.2.2.2.2.2.1).bind fun _=>
  some (.next (s.1,s.2.1,s.2.2.1,s.2.2.2.1,s.2.2.2.2.1,s.2.2.2.2.2.1,s.2.2.2.2.2.2.1,s.2.2.2.2.2.2.2.1,s.2.2.2.2.2.2.2.2.1,s.2.2.2.2.2.2.2.2.2.1,aA .i64 (s.2.2.2.2.2.2.2.2.2.2.1+1),aZ s.2.2.2.2.2.2.2.2.2.2.2 s.2.2.2.2.2.2.2.2.2.2.1 true))
 else
  ((gA N) s.2.2.2.2.2.2.2.2.2.2.2).bind fun a1=>
  ((jT N) s.2.2.2.2.2.2.2.2.2.2.2).bind fun a2=>
  (jL 121 ((0,0,0,0,0,0,0):(Int×Int×Int×Int×Int×Int×Int))).bind fun l3=>
  ((pU N) (aY.mk 0 (bH.mk (aG.mk (0,0) (Field.mk []) (aI.mk 0 []) (aE.mk (aH.mk [] [] []) [] []) []) []) (bC.mk (aG.mk (0,0) (Field.mk []) (aI.mk 0 []) (aE.mk (aH.mk [] [] []) [] []) []) (aQ.mk [] [])) (aW.mk (aG.mk (0,0) (Field.mk []) (aI.mk 0 []) (aE.mk (aH.mk [] [] []) [] []) []) (cK.mk 0 [])) (bA.mk (aG.mk (0,0) (Field.mk []) (aI.mk 0 []) (aE.mk (aH.mk [] [] []) [] []) []) [])) l3).bind fun a4=>
  ((IS N) 0).bind fun a5=>
  ((LR N) 2 (Field.mk [(3,0,0)]) a5).bind fun a6=>
  (jL 121 ((0,0,0,0,0,0,0):(Int×Int×Int×Int×Int×Int×Int))).bind fun l7=>
  ((pU N) a6.1 l7).bind fun a8=>
  ((IS N) (-1)).bind fun a9=>
  ((pU N) a6.1 [(5,0,0,0,0,0,0),(9,0,0,0,0,0,0),(1,3,0,0,0,0,0),(4,0,0,0,0,a9),(0,0,0,0,0,0,0)]).bind fun a10=>
  (EC N).bind fun b11=>
  bif b11 then
   bif a6.2==0 then
    bif s.1==2 then
     bif s.2.1==2 then
      bif s.2.2.2.1==0 then
       bif s.2.2.1==1 then
        bif s.2.2.2.2.2.1==0 then
         bif s.2.2.2.2.1==64 then
          bif s.2.2.2.2.2.2.1==4 then
           bif s.2.2.2.2.2.2.2.1==4 then
            bif s.2.2.2.2.2.2.2.2.2.1==0 then
             ((gE N) s.2.2.2.2.2.2.2.2.1 [1,1]).bind fun b12=>
             bif b12 then
              bif a1.2==0 then
               bif (aa a1.1.length)==70 then
                (aL a1.1 69).bind fun n13=>
                bif n13==64 then
                 bif a2.2==0 then
                  bif a2.1==63 then
                   bif a4.2.2==8 then
                    bif a8.2.2==4 then
                     bif a10.2.2==0 then
                      ((JO N) a10.1 a6.1).bind fun b14=>
                      bif b14 then
                       some (.done ((a10.2.1.1==0)&&((a10.2.1.2.1==0)&&(a10.2.1.2.2==1))))
                      else
                       some (.done false)
                     else
                      some (.done false)
                    else
                     some (.done false)
                   else
                    some (.done false)
                  else
                   some (.done false)
                 else
                  some (.done false)
                else
                 some (.done false)
               else
                some (.done false)
              else
               some (.done false)
             else
              some (.done false)
            else
             some (.done false)
           else
            some (.done false)
          else
           some (.done false)
         else
          some (.done false)
        else
         some (.done false)
       else
        some (.done false)
      else
       some (.done false)
     else
      some (.done false)
    else
     some (.done false)
   else
    some (.done false)
  else
   some (.done false)
def hZ (N:Nat):Option Bool:=
 ((eF N) (-1)).bind fun a0=>
 ((eF N) 65).bind fun a1=>
 ((eF N) 0).bind fun a2=>
 ((eF N) 64).bind fun a3=>
 (jL 1001 (false:Bool)).bind fun l4=>
 ((gA N) l4).bind fun a5=>
 (jL 1001 (false:Bool)).bind fun l6=>
 ((jT N) l6).bind fun a7=>
 (jL 2 (false:Bool)).bind fun l8=>
 ((gA N) l8).bind fun a9=>
 (jL 70 (false:Bool)).bind fun l10=>
 (aO N) (iJ N) (a0.2,a1.2,a2.1,a2.2,a3.1,a3.2,a5.2,a7.2,a9.1,a9.2,0,l10)
def c5 (N:Nat):aV:=⟨aC.nil,aF.bool,fun _=>(hZ N),.pure,false⟩
theorem aUy (N:Nat):aB tab 5 (c5 N):=aB.of aK9 (cx:=(aN (aK N) [(21,(c21 N)),(9,(c9 N)),(22,(c22 N)),(18,(c18 N)),(11,(c11 N)),(23,(c23 N)),(8,(c8 N)),(24,(c24 N)),(20,(c20 N))] [] [] [])) rfl (aM.make ⟨(Z0 N),(aLa N),(Z1 N),(aRA N),(aRB N),(aRW N),(aUr N),(JE N),(aR2 N),trivial⟩ trivial trivial) (fun a=>by kernel_rfl)
end
end Go.Proofs.YtclphlgnjkajbaaGreat
