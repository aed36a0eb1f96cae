/- Plain functions for what the functions of the seat compute. Printed by a program. -/
import Derived.Test.YtcljjehjppgijaaGreatNVm3
import Derived.Test.YtcljjehjppgijaaGreatNAXT
open Int renaming ofNat->aa,tdiv->ac,tmod->ae
open List renaming replicate->af
open Nat renaming ble->ag,beq->ah
set_option maxRecDepth 100000
namespace Go.Proofs.YtcljjehjppgijaaGreat
open Go.Vm
noncomputable section
theorem Oc {f:FuncId} {x:aG} {α β:Type} {args:aC α} {res:aE β} {kd:Kd} {fn:α->Option β} {ow:Bool} (hf:tab f=some (.code x)) (ho:S1 kd ow=true) (lp:Option Nat) (l:List (Nat×aU)) (h:uU tab l) (e: ∀a,aBW (aN lp l [] [] []) x args res kd a=fn a):aB tab f ⟨args,res,fn,kd,ow⟩:=aB.of hf (cx:=aN lp l [] [] []) ho (aM.make h trivial trivial) e
abbrev bY:List PT:=[.i .i64,.i .i64,.i .i64]
abbrev eF:List PT:=[.i .i64,.i .i64]
abbrev ki:List PT:=[.i .i64]
abbrev kb:List PT:=[.b]
abbrev fC:List PT:=[.i .i64,.i .i64,.i .i64,.i .i64,.i .i64]
abbrev rB:List PT:=[.b,.i .u64,.i .u64]
abbrev aG8:List PT:=[.i .i64,.i .i64,.i .i64,.i .i64]
abbrev kiu:List PT:=[.i .i64,.i .u64]
structure Field where
 points:List (Int×Int×Int)
def aW:bG Field:=bG.iso (bG.sl bY) (fun p=>⟨p⟩) (fun c=>c.points) (fun _=>rfl)
structure aL where
 uses:List Int
 used:List Bool
 free:List Int
def eD:bG aL:=bG.iso (bG.prod (bG.sl ki) (bG.prod (bG.sl kb) (bG.sl ki))) (fun p=>⟨p.1,p.2.1,p.2.2⟩) (fun c=>(c.uses,c.used,c.free)) (fun _=>rfl)
structure aF where
 slots:aL
 heap:List (Int×Int×Int×Int×Int)
 where_:List Int
def bW:bG aF:=bG.iso (bG.prod eD (bG.prod (bG.sl fC) (bG.sl ki))) (fun p=>⟨p.1,p.2.1,p.2.2⟩) (fun c=>(c.slots,c.heap,c.where_)) (fun _=>rfl)
structure aO where
 next_:Int
 list:List (Int×Int×Int)
def eP:bG aO:=bG.iso (bG.prod (bG.int .i64) (bG.sl bY)) (fun p=>⟨p.1,p.2⟩) (fun c=>(c.next_,c.list)) (fun _=>rfl)
structure aI where
 now:Int×Int
 field:Field
 certs:aO
 agenda:aF
 due:List (Int×Int×Int)
def aX:bG aI:=bG.iso (bG.prod (bG.row eF) (bG.prod aW (bG.prod eP (bG.prod bW (bG.sl bY))))) (fun p=>⟨p.1,p.2.1,p.2.2.1,p.2.2.2.1,p.2.2.2.2⟩) (fun c=>(c.now,c.field,c.certs,c.agenda,c.due)) (fun _=>rfl)
structure aP where
 clock:aI
 up:List Int
def bS:bG aP:=bG.iso (bG.prod aX (bG.sl ki)) (fun p=>⟨p.1,p.2⟩) (fun c=>(c.clock,c.up)) (fun _=>rfl)
theorem lR:aB tab 182 (aU.clone kb):=aB.clone YQ rfl
theorem QR:aB tab 283 (aU.add64):=aB.add64 aAa
theorem nS:aB tab 178 (aU.clone bY):=aB.clone YM rfl
theorem iX:aB tab 126 (aU.clone bY):=aB.clone XS rfl
theorem wO:aB tab 179 (aU.clone bY):=aB.clone YN rfl
theorem lS:aB tab 180 (aU.clone fC):=aB.clone YO rfl
theorem iY:aB tab 181 (aU.clone ki):=aB.clone YP rfl
theorem IJ:aB tab 294 (aU.clone ki):=aB.clone aAf rfl
def kI (_:Nat):Option Field:=
 some (Field.mk [(1,0,2),(2,6,-1),(5,0,0)])
def c8 (N:Nat):aU:=⟨aC.nil,aE.agg aW,fun _=>(kI N),.frz,false⟩
theorem aB2 (N:Nat):aB tab 8 (c8 N):=aB.of aG6 (cx:=(aN (aH N) [] [] [] [])) rfl (aM.make trivial trivial trivial) (fun a=>by kernel_rfl)
def hO (_:Nat) (p0:Int):Option (Int×Int):=
 some (p0,1)
def c9 (N:Nat):aU:=⟨aC.one (aE.int .i64),aE.agg (bG.row eF),fun a=>(hO N) a,.pure,false⟩
theorem aB3 (N:Nat):aB tab 9 (c9 N):=aB.of aG7 (cx:=(aN (aH N) [] [] [] [])) rfl (aM.make trivial trivial trivial) (fun a=>by kernel_rfl)
def zH (_:Nat) (p0:Int×Int×Int):Option Int:=
 bif decide (p0.1<0) then
  some 8
 else
  bif decide (65535<p0.1) then
   some 8
  else
   bif decide (p0.2.1<(-1048576)) then
    some 8
   else
    bif decide (1048576<p0.2.1) then
     some 8
    else
     bif decide (p0.2.2<(-1048576)) then
      some 8
     else
      bif decide (1048576<p0.2.2) then
       some 8
      else
       some 0
def c82 (N:Nat):aU:=⟨aC.one (aE.agg (bG.row bY)),aE.int .i64,fun a=>(zH N) a,.pure,false⟩
theorem aFX (N:Nat):aB tab 82 (c82 N):=aB.of aFS (cx:=(aN (aH N) [] [] [] [])) rfl (aM.make trivial trivial trivial) (fun a=>by kernel_rfl)
def CJ (_:Nat) (s:(Int×(List (Int×Int×Int)))):Option (bB (Int×(List (Int×Int×Int))) (bB (Int×(List (Int×Int×Int))) Int)):=
 bif decide (s.1<(aa s.2.length)) then
  (aK s.2 (aA .i64 (s.1-1))).bind fun a0=>
  (aK s.2 s.1).bind fun a1=>
  bif decide (a1.1<=a0.1) then
   some (.done (.done 32))
  else
   some (.next (aA .i64 (s.1+1),s.2))
 else
  some (.done (.done 0))
def CK (N:Nat) (s:(Int×(List (Int×Int×Int)))):Option (bB (Int×(List (Int×Int×Int))) Int):=
 bif decide (s.1<(aa s.2.length)) then
  (aK s.2 s.1).bind fun a0=>
  ((zH N) a0).bind fun n1=>
  bif n1 !=0 then
   some (.done 8)
  else
   some (.next (aA .i64 (s.1+1),s.2))
 else
  (aT N) (CJ N) (1,s.2)
def rC (N:Nat) (p0:Field):Option Int:=
 bif decide (64<(aa p0.points.length)) then
  some 4
 else
  (aT N) (CK N) (0,p0.points)
def c31 (N:Nat):aU:=⟨aC.one (aE.agg aW),aE.int .i64,fun a=>(rC N) a,.pure,false⟩
theorem aFY (N:Nat):aB tab 31 (c31 N):=aB.of aFt (cx:=(aN (aH N) [(82,(c82 N))] [] [] [])) rfl (aM.make ⟨(aFX N),trivial⟩ trivial trivial) (fun a=>by kernel_rfl)
def eS (_:Nat) (p0:Int):Option Int:=
 bif decide (p0<0) then
  some (aA .u64 ((aA .u64 (aA .i64 (0- (aA .i64 (p0+1)))))+1))
 else
  some (aA .u64 p0)
def c84 (N:Nat):aU:=⟨aC.one (aE.int .i64),aE.int .u64,fun a=>(eS N) a,.pure,false⟩
theorem KQ (N:Nat):aB tab 84 (c84 N):=aB.of aFU (cx:=(aN (aH N) [] [] [] [])) rfl (aM.make trivial trivial trivial) (fun a=>by kernel_rfl)
def AA (_:Nat) (s:(Int×Int)):Option (bB (Int×Int) Int):=
 bif s.2 !=0 then
  bif s.2==0 then
   none
  else
   some (.next (s.2,ae s.1 s.2))
 else
  some (.done s.1)
def oW (N:Nat) (p0:Int) (p1:Int):Option Int:=
 (aT N) (AA N) (p0,p1)
def c83 (N:Nat):aU:=⟨aC.cons (aE.int .u64) (aC.one (aE.int .u64)),aE.int .u64,fun a=>(oW N) a.1 a.2,.pure,false⟩
theorem QS (N:Nat):aB tab 83 (c83 N):=aB.of aFT (cx:=(aN (aH N) [] [] [] [])) rfl (aM.make trivial trivial trivial) (fun a=>by kernel_rfl)
def zI (N:Nat) (p0:Int×Int):Option Int:=
 bif decide (p0.2<1) then
  some 8
 else
  bif p0.1==(-9223372036854775808) then
   some 8
  else
   ((eS N) p0.1).bind fun n0=>
   ((oW N) n0 (aA .u64 p0.2)).bind fun n1=>
   bif n1 !=1 then
    some 8
   else
    some 0
def c32 (N:Nat):aU:=⟨aC.one (aE.agg (bG.row eF)),aE.int .i64,fun a=>(zI N) a,.pure,false⟩
theorem aFZ (N:Nat):aB tab 32 (c32 N):=aB.of aFu (cx:=(aN (aH N) [(84,(c84 N)),(83,(c83 N))] [] [] [])) rfl (aM.make ⟨(KQ N),(QS N),trivial⟩ trivial trivial) (fun a=>by kernel_rfl)
def lT (_:Nat) (p0:Field):Option Field:=
 (bC p0.points).bind fun l0=>
 some (Field.mk l0)
def QT (N:Nat):aU:=⟨aC.one (aE.agg aW),aE.agg aW,fun a=>(lT N) a,.own,true⟩
def IK (N:Nat):aU:=⟨aC.one (aE.agg aW),aE.agg aW,fun a=>(lT N) a,.frz,false⟩
theorem AO (N:Nat):aB tab 103 (QT N):=aB.of LZ (cx:=(aN (aH N) [] [] [] [])) rfl (aM.make trivial trivial trivial) (fun a=>by kernel_rfl)
theorem wP (N:Nat):aB tab 103 (IK N):=aB.of LZ (cx:=(aN (aH N) [] [] [] [])) rfl (aM.make trivial trivial trivial) (fun a=>by kernel_rfl)
def CL (_:Nat) (s:(Int×(List Int)×(List Bool)×(List Int))):Option (bB (Int×(List Int)×(List Bool)×(List Int)) aL):=
 bif decide (0<=s.1) then
  (bE s.2.2.2 [s.1]).bind fun l0=>
  some (.next (aA .i64 (s.1-1),s.2.1,s.2.2.1,l0))
 else
  some (.done (aL.mk s.2.1 s.2.2.1 s.2.2.2))
def zJ (N:Nat) (p0:Int):Option aL:=
 bif p0==p0 then
  (qR p0 (0:Int)).bind fun l0=>
  bif p0==p0 then
   (qR p0 (false:Bool)).bind fun l1=>
   (aT N) (CL N) (aA .i64 (p0-1),l0,l1,[])
  else
   none
 else
  none
def aG9 (N:Nat):aU:=⟨aC.one (aE.int .i64),aE.agg eD,fun a=>(zJ N) a,.frz,false⟩
theorem aAj (N:Nat):aB tab 164 (aG9 N):=aB.of YA (cx:=(aN (aH N) [] [] [] [])) rfl (aM.make trivial trivial trivial) (fun a=>by kernel_rfl)
def CN (_:Nat) (s:(Int×Int×(List Int)×(List Bool)×(List Int)×(List Int))):Option (bB (Int×Int×(List Int)×(List Bool)×(List Int)×(List Int)) aF):=
 bif decide (s.2.1<s.1) then
  (bE s.2.2.2.2.2 [-1]).bind fun l0=>
  some (.next (s.1,aA .i64 (s.2.1+1),s.2.2.1,s.2.2.2.1,s.2.2.2.2.1,l0))
 else
  some (.done (aF.mk (aL.mk s.2.2.1 s.2.2.2.1 s.2.2.2.2.1) [] s.2.2.2.2.2))
def zK (N:Nat) (p0:Int):Option aF:=
 ((zJ N) p0).bind fun r0=>
 (aT N) (CN N) (p0,0,r0.uses,r0.used,r0.free,[])
def aHa (N:Nat):aU:=⟨aC.one (aE.int .i64),aE.agg bW,fun a=>(zK N) a,.frz,false⟩
theorem aAk (N:Nat):aB tab 104 (aHa N):=aB.of XC (cx:=(aN (aH N) [(164,(aG9 N))] [] [] [])) rfl (aM.make ⟨(aAj N),trivial⟩ trivial trivial) (fun a=>by kernel_rfl)
def zL (N:Nat) (p0:Field) (p1:Int×Int):Option aI:=
 ((lT N) p0).bind fun r0=>
 ((zK N) 200).bind fun r1=>
 some (aI.mk p1 r0 (aO.mk 0 []) r1 [])
def c45 (N:Nat):aU:=⟨aC.cons (aE.agg aW) (aC.one (aE.agg (bG.row eF))),aE.agg aX,fun a=>(zL N) a.1 a.2,.frz,false⟩
theorem aF0 (N:Nat):aB tab 45 (c45 N):=aB.of aFx (cx:=(aN (aH N) [(103,(QT N)),(103,(IK N)),(104,(aHa N))] [] [] [])) rfl (aM.make ⟨(AO N),(wP N),(aAk N),trivial⟩ trivial trivial) (fun a=>by kernel_rfl)
def tL (_:Nat) (p0:Int) (p1:Int):Option (Bool×Int×Int):=
 some (false,aA .u64 ((aA .u64 ((aA .u64 ((aA .u64 (ac p0 4294967296))*(aA .u64 (ac p1 4294967296))))+(aA .u64 (ac (aA .u64 ((aA .u64 ((aA .u64 (ac p0 4294967296))*(ae p1 4294967296)))+(aA .u64 (ac (aA .u64 ((ae p0 4294967296)*(ae p1 4294967296))) 4294967296)))) 4294967296))))+(aA .u64 (ac (aA .u64 ((aA .u64 ((ae p0 4294967296)*(aA .u64 (ac p1 4294967296))))+(ae (aA .u64 ((aA .u64 ((aA .u64 (ac p0 4294967296))*(ae p1 4294967296)))+(aA .u64 (ac (aA .u64 ((ae p0 4294967296)*(ae p1 4294967296))) 4294967296)))) 4294967296))) 4294967296))),aA .u64 ((aA .u64 ((ae (aA .u64 ((aA .u64 ((ae p0 4294967296)*(aA .u64 (ac p1 4294967296))))+(ae (aA .u64 ((aA .u64 ((aA .u64 (ac p0 4294967296))*(ae p1 4294967296)))+(aA .u64 (ac (aA .u64 ((ae p0 4294967296)*(ae p1 4294967296))) 4294967296)))) 4294967296))) 4294967296)*4294967296))+(ae (aA .u64 ((ae p0 4294967296)*(ae p1 4294967296))) 4294967296)))
def aHb (N:Nat):aU:=⟨aC.cons (aE.int .u64) (aC.one (aE.int .u64)),aE.agg (bG.row rB),fun a=>(tL N) a.1 a.2,.pure,false⟩
theorem aAl (N:Nat):aB tab 137 (aHb N):=aB.of X0 (cx:=(aN (aH N) [] [] [] [])) rfl (aM.make trivial trivial trivial) (fun a=>by kernel_rfl)
def hP (N:Nat) (p0:Int) (p1:Int):Option (Bool×Int×Int):=
 ((eS N) p0).bind fun n0=>
 ((eS N) p1).bind fun n1=>
 ((tL N) n0 n1).bind fun a2=>
 bif !((decide (p0<0))==(decide (p1<0))) then
  bif p0 !=0 then
   some (p1 !=0,a2.2)
  else
   some (false,a2.2)
 else
  some (false,a2.2)
def c71 (N:Nat):aU:=⟨aC.cons (aE.int .i64) (aC.one (aE.int .i64)),aE.agg (bG.row rB),fun a=>(hP N) a.1 a.2,.pure,false⟩
theorem QU (N:Nat):aB tab 71 (c71 N):=aB.of aFP (cx:=(aN (aH N) [(84,(c84 N)),(137,(aHb N))] [] [] [])) rfl (aM.make ⟨(KQ N),(aAl N),trivial⟩ trivial trivial) (fun a=>by kernel_rfl)
def oX (_:Nat) (p0:Bool×Int×Int) (p1:Bool×Int×Int):Option Int:=
 bif p0.2.1 !=p1.2.1 then
  bif decide (p0.2.1<p1.2.1) then
   some (-1)
  else
   some 1
 else
  bif p0.2.2 !=p1.2.2 then
   bif decide (p0.2.2<p1.2.2) then
    some (-1)
   else
    some 1
  else
   some 0
def c73 (N:Nat):aU:=⟨aC.cons (aE.agg (bG.row rB)) (aC.one (aE.agg (bG.row rB))),aE.int .i64,fun a=>(oX N) a.1 a.2,.pure,false⟩
theorem QV (N:Nat):aB tab 73 (c73 N):=aB.of aFR (cx:=(aN (aH N) [] [] [] [])) rfl (aM.make trivial trivial trivial) (fun a=>by kernel_rfl)
def rD (_:Nat) (p0:Bool×Int×Int) (p1:Bool×Int×Int):Option (Bool×Int×Int):=
 bif decide (p0.2.2<p1.2.2) then
  some (false,aA .u64 ((aA .u64 (p0.2.1-p1.2.1)) -1),aA .u64 (p0.2.2-p1.2.2))
 else
  some (false,aA .u64 (p0.2.1-p1.2.1),aA .u64 (p0.2.2-p1.2.2))
def aHc (N:Nat):aU:=⟨aC.cons (aE.agg (bG.row rB)) (aC.one (aE.agg (bG.row rB))),aE.agg (bG.row rB),fun a=>(rD N) a.1 a.2,.pure,false⟩
theorem aAm (N:Nat):aB tab 260 (aHc N):=aB.of ZW (cx:=(aN (aH N) [] [] [] [])) rfl (aM.make trivial trivial trivial) (fun a=>by kernel_rfl)
def CO (N:Nat) (p0:Bool×Int×Int) (p1:Bool×Int×Int):Option (Bool×Int×Int):=
 bif p0.1==p1.1 then
  bif decide ((aA .u64 (p0.2.2+p1.2.2))<p0.2.2) then
   some (p0.1,aA .u64 ((aA .u64 (p0.2.1+p1.2.1))+1),aA .u64 (p0.2.2+p1.2.2))
  else
   some (p0.1,aA .u64 (p0.2.1+p1.2.1),aA .u64 (p0.2.2+p1.2.2))
 else
  ((oX N) p0 p1).bind fun n0=>
  bif decide (0<=n0) then
   ((rD N) p0 p1).bind fun a1=>
   bif p0.1 then
    bif decide (0<a1.2.1) then
     some (true,a1.2)
    else
     some (decide (0<a1.2.2),a1.2)
   else
    some (false,a1.2)
  else
   ((rD N) p1 p0).bind fun a2=>
   some (p1.1,a2.2)
def aHd (N:Nat):aU:=⟨aC.cons (aE.agg (bG.row rB)) (aC.one (aE.agg (bG.row rB))),aE.agg (bG.row rB),fun a=>(CO N) a.1 a.2,.pure,false⟩
theorem aAn (N:Nat):aB tab 215 (aHd N):=aB.of Y6 (cx:=(aN (aH N) [(73,(c73 N)),(260,(aHc N))] [] [] [])) rfl (aM.make ⟨(QV N),(aAm N),trivial⟩ trivial trivial) (fun a=>by kernel_rfl)
def iD (_:Nat) (p0:Bool×Int×Int):Option Int:=
 bif p0.2.1==0 then
  bif p0.2.2==0 then
   some 0
  else
   bif p0.1 then
    some (-1)
   else
    some 1
 else
  bif p0.1 then
   some (-1)
  else
   some 1
def c72 (N:Nat):aU:=⟨aC.one (aE.agg (bG.row rB)),aE.int .i64,fun a=>(iD N) a,.pure,false⟩
theorem QW (N:Nat):aB tab 72 (c72 N):=aB.of aFQ (cx:=(aN (aH N) [] [] [] [])) rfl (aM.make trivial trivial trivial) (fun a=>by kernel_rfl)
def EQ (N:Nat) (p0:Int×Int×Int) (p1:Int×Int×Int) (p2:Int×Int):Option Int:=
 ((hP N) (aA .i64 (p0.2.1-p1.2.1)) p2.2).bind fun a0=>
 ((hP N) (aA .i64 (p0.2.2-p1.2.2)) p2.1).bind fun a1=>
 ((CO N) a0 a1).bind fun a2=>
 ((iD N) a2).bind fun n3=>
 some n3
def aHe (N:Nat):aU:=⟨aC.cons (aE.agg (bG.row bY)) (aC.cons (aE.agg (bG.row bY)) (aC.one (aE.agg (bG.row eF)))),aE.int .i64,fun a=>(EQ N) a.1 a.2.1 a.2.2,.pure,false⟩
theorem aAo (N:Nat):aB tab 155 (aHe N):=aB.of X4 (cx:=(aN (aH N) [(71,(c71 N)),(215,(aHd N)),(72,(c72 N))] [] [] [])) rfl (aM.make ⟨(QU N),(aAn N),(QW N),trivial⟩ trivial trivial) (fun a=>by kernel_rfl)
def rE (N:Nat) (p0:Int×Int×Int) (p1:Int×Int×Int) (p2:Int×Int):Option Bool:=
 ((EQ N) p0 p1 p2).bind fun n0=>
 bif n0 !=0 then
  some (decide (0<n0))
 else
  bif p0.2.2 !=p1.2.2 then
   some (decide (p1.2.2<p0.2.2))
  else
   some (decide (p0.1<p1.1))
def c97 (N:Nat):aU:=⟨aC.cons (aE.agg (bG.row bY)) (aC.cons (aE.agg (bG.row bY)) (aC.one (aE.agg (bG.row eF)))),aE.bool,fun a=>(rE N) a.1 a.2.1 a.2.2,.pure,false⟩
theorem QX (N:Nat):aB tab 97 (c97 N):=aB.of aFW (cx:=(aN (aH N) [(155,(aHe N))] [] [] [])) rfl (aM.make ⟨(aAo N),trivial⟩ trivial trivial) (fun a=>by kernel_rfl)
def AB (N:Nat) (s:(Int×Int×(List (Int×Int×Int))×Int×Int×Int×Int×Int)):Option (bB (Int×Int×(List (Int×Int×Int))×Int×Int×Int×Int×Int) Int):=
 bif decide (s.2.1<(aa s.2.2.1.length)) then
  (aK s.2.2.1 s.2.1).bind fun a0=>
  bif a0.1 !=s.2.2.2.1 then
   (aK s.2.2.1 s.2.1).bind fun a1=>
   ((rE N) a1 (s.2.2.2.1,s.2.2.2.2.1,s.2.2.2.2.2.1) s.2.2.2.2.2.2).bind fun b2=>
   bif b2 then
    some (.next (aA .i64 (s.1+1),aA .i64 (s.2.1+1),s.2.2))
   else
    some (.next (s.1,aA .i64 (s.2.1+1),s.2.2))
  else
   some (.next (s.1,aA .i64 (s.2.1+1),s.2.2))
 else
  some (.done s.1)
def wQ (N:Nat) (p0:Field) (p1:Int×Int×Int) (p2:Int×Int):Option Int:=
 (aT N) (AB N) (0,0,p0.points,p1.1,p1.2.1,p1.2.2,p2)
def aHf (N:Nat):aU:=⟨aC.cons (aE.agg aW) (aC.cons (aE.agg (bG.row bY)) (aC.one (aE.agg (bG.row eF)))),aE.int .i64,fun a=>(wQ N) a.1 a.2.1 a.2.2,.pure,false⟩
theorem aAp (N:Nat):aB tab 217 (aHf N):=aB.of Y7 (cx:=(aN (aH N) [(97,(c97 N))] [] [] [])) rfl (aM.make ⟨(QX N),trivial⟩ trivial trivial) (fun a=>by kernel_rfl)
def yK (N:Nat) (s:(Int×(List (Int×Int×Int))×Int×Int×(List Int))):Option (bB (Int×(List (Int×Int×Int))×Int×Int×(List Int)) (List Int)):=
 bif decide (s.1<(aa s.2.1.length)) then
  (aK s.2.1 s.1).bind fun a0=>
  ((wQ N) (Field.mk s.2.1) a0 (s.2.2.1,s.2.2.2.1)).bind fun n1=>
  (aK s.2.1 s.1).bind fun a2=>
  (aK s.2.2.2.2 n1).bind fun _=>
  some (.next (aA .i64 (s.1+1),s.2.1,s.2.2.1,s.2.2.2.1,bM s.2.2.2.2 n1 a2.1))
 else
  some (.done s.2.2.2.2)
def tM (N:Nat) (p0:Field) (p1:Int×Int):Option (List Int):=
 bif (aa p0.points.length)==(aa p0.points.length) then
  (qR (aa p0.points.length) (0:Int)).bind fun l0=>
  (aT N) (yK N) (0,p0.points,p1.1,p1.2,l0)
 else
  none
def aHg (N:Nat):aU:=⟨aC.cons (aE.agg aW) (aC.one (aE.agg (bG.row eF))),aE.sl ki,fun a=>(tM N) a.1 a.2,.frz,false⟩
theorem aAq (N:Nat):aB tab 160 (aHg N):=aB.of X6 (cx:=(aN (aH N) [(217,(aHf N))] [] [] [])) rfl (aM.make ⟨(aAp N),trivial⟩ trivial trivial) (fun a=>by kernel_rfl)
def DP (_:Nat) (c0:(((List Int)×Int×Int)->(Option (List (Int×Int))))) (s:((List Int)×Int×Int×Int×(List (Int×Int))×(List Int))):Option (bB ((List Int)×Int×Int×Int×(List (Int×Int))×(List Int)) (bB ((List Int)×Int×Int×(List (Int×Int))) (List (Int×Int)))):=
 bif decide (s.2.2.2.1<(aa s.1.length)) then
  (aK s.1 s.2.2.2.1).bind fun n0=>
  bif decide (s.2.1<0) then
   none
  else
   bif (ae (gC .i64 n0 s.2.1) 2)==s.2.2.1 then
    (aK s.1 s.2.2.2.1).bind fun n1=>
    (bE s.2.2.2.2.2 [n1]).bind fun l2=>
    some (.next (s.1,s.2.1,s.2.2.1,aA .i64 (s.2.2.2.1+1),s.2.2.2.2.1,l2))
   else
    some (.next (s.1,s.2.1,s.2.2.1,aA .i64 (s.2.2.2.1+1),s.2.2.2.2))
 else
  (aK s.1 0).bind fun n3=>
  (c0 (s.2.2.2.2.2,n3,aA .i64 (s.2.1+1))).bind fun l4=>
  bif l4.isEmpty then
   some (.done (.next (s.1,s.2.1,aA .i64 (s.2.2.1+1),s.2.2.2.2.1)))
  else
   (bE s.2.2.2.2.1 l4).bind fun l5=>
   some (.done (.next (s.1,s.2.1,aA .i64 (s.2.2.1+1),l5)))
def DQ (N:Nat) (c0:(((List Int)×Int×Int)->(Option (List (Int×Int))))) (s:((List Int)×Int×Int×(List (Int×Int)))):Option (bB ((List Int)×Int×Int×(List (Int×Int))) (List (Int×Int))):=
 bif decide (s.2.2.1<2) then
  (aT N) ((DP N) c0) (s.1,s.2.1,s.2.2.1,1,s.2.2.2,[])
 else
  some (.done s.2.2.2)
def F5 (N:Nat) (self:(List Int)×Int×Int->Option (List (Int×Int))) (a:(List Int)×Int×Int):Option (List (Int×Int)):=
 bif (aa a.1.length)==0 then
  some []
 else
  (aK a.1 0).bind fun n0=>
  (aT N) ((DQ N) self) (a.1,a.2.2,0,[(n0,a.2.1)])
def lF (N:Nat):Nat->(List Int)×Int×Int->Option (List (Int×Int))
 |0,_=>none
 |n+1,a=>(F5 N) ((lF N) n) a
def CP (N:Nat) (p0:List Int) (p1:Int) (p2:Int):Option (List (Int×Int)):=(lF N) 1000000 (p0,p1,p2)
def aHh (N:Nat):aU:=⟨aC.cons (aE.sl ki) (aC.cons (aE.int .i64) (aC.one (aE.int .i64))),aE.sl eF,fun a=>(CP N) a.1 a.2.1 a.2.2,.frz,false⟩
theorem IL (N:Nat): ∀n,aB tab 159 ⟨aC.cons (aE.sl ki) (aC.cons (aE.int .i64) (aC.one (aE.int .i64))),aE.sl eF,fun a=>(lF N) n a,.frz,false⟩
 |0=>aB.zero (fun _=>rfl)
 |n+1=>aB.of X5 (cx:=(aN (aH N) [(159,⟨aC.cons (aE.sl ki) (aC.cons (aE.int .i64) (aC.one (aE.int .i64))),aE.sl eF,fun a=>(lF N) n a,.frz,false⟩)] [] [] [])) rfl (aM.make ⟨((IL N) n),trivial⟩ trivial trivial) (fun a=>by kernel_rfl)
theorem aAr (N:Nat):aB tab 159 (aHh N):=(IL N) 1000000
def IM (_:Nat) (s:(Int×Int×(List (Int×Int×Int)))):Option (bB (Int×Int×(List (Int×Int×Int))) Int):=
 bif decide (s.2.1<(aa s.2.2.length)) then
  (aK s.2.2 s.2.1).bind fun a0=>
  bif a0.1==s.1 then
   some (.done s.2.1)
  else
   some (.next (s.1,aA .i64 (s.2.1+1),s.2.2))
 else
  some (.done (-1))
def wR (N:Nat) (p0:Field) (p1:Int):Option Int:=
 (aT N) (IM N) (p1,0,p0.points)
def c40 (N:Nat):aU:=⟨aC.cons (aE.agg aW) (aC.one (aE.int .i64)),aE.int .i64,fun a=>(wR N) a.1 a.2,.pure,false⟩
theorem QY (N:Nat):aB tab 40 (c40 N):=aB.of aFv (cx:=(aN (aH N) [] [] [] [])) rfl (aM.make trivial trivial trivial) (fun a=>by kernel_rfl)
def IN (N:Nat) (s:((List (Int×Int))×Int×(List (Int×Int×Int))×(List Int))):Option (bB ((List (Int×Int))×Int×(List (Int×Int×Int))×(List Int)) (List Int)):=
 bif decide (s.2.1<(aa s.1.length)) then
  (aK s.1 s.2.1).bind fun a0=>
  ((wR N) (Field.mk s.2.2.1) a0.1).bind fun n1=>
  (aK s.1 s.2.1).bind fun a2=>
  (aK s.2.2.2 n1).bind fun _=>
  some (.next (s.1,aA .i64 (s.2.1+1),s.2.2.1,bM s.2.2.2 n1 a2.2))
 else
  some (.done s.2.2.2)
def IP (N:Nat) (p0:Field) (p1:Int×Int):Option (List Int):=
 ((tM N) p0 p1).bind fun l0=>
 ((CP N) l0 (-1) 0).bind fun l1=>
 bif (aa p0.points.length)==(aa p0.points.length) then
  (qR (aa p0.points.length) (0:Int)).bind fun l2=>
  (aT N) (IN N) (l1,0,p0.points,l2)
 else
  none
def aHi (N:Nat):aU:=⟨aC.cons (aE.agg aW) (aC.one (aE.agg (bG.row eF))),aE.sl ki,fun a=>(IP N) a.1 a.2,.frz,false⟩
theorem aAs (N:Nat):aB tab 100 (aHi N):=aB.of W9 (cx:=(aN (aH N) [(160,(aHg N)),(159,(aHh N)),(40,(c40 N))] [] [] [])) rfl (aM.make ⟨(aAq N),(aAr N),(QY N),trivial⟩ trivial trivial) (fun a=>by kernel_rfl)
def IQ (_:Nat) (s:((List Int)×Int×(List (Int×Int×Int))×(List (Int×Int)))):Option (bB ((List Int)×Int×(List (Int×Int×Int))×(List (Int×Int))) (List (Int×Int))):=
 bif decide (s.2.1<(aa s.1.length)) then
  (aK s.1 s.2.1).bind fun n0=>
  bif decide (0<=n0) then
   (aK s.2.2.1 s.2.1).bind fun a1=>
   (aK s.1 s.2.1).bind fun n2=>
   (bE s.2.2.2 [(a1.1,n2)]).bind fun l3=>
   some (.next (s.1,aA .i64 (s.2.1+1),s.2.2.1,l3))
  else
   some (.next (s.1,aA .i64 (s.2.1+1),s.2.2))
 else
  some (.done s.2.2.2)
def IR (N:Nat) (p0:Field) (p1:List Int):Option (List (Int×Int)):=
 (aT N) (IQ N) (p1,0,p0.points,[])
def aHj (N:Nat):aU:=⟨aC.cons (aE.agg aW) (aC.one (aE.sl ki)),aE.sl eF,fun a=>(IR N) a.1 a.2,.frz,false⟩
theorem aAt (N:Nat):aB tab 102 (aHj N):=aB.of XB (cx:=(aN (aH N) [] [] [] [])) rfl (aM.make trivial trivial trivial) (fun a=>by kernel_rfl)
def oY (_:Nat) (p0:aO):Option aO:=
 (bC p0.list).bind fun l0=>
 some (aO.mk p0.next_ l0)
def aAu (N:Nat):aU:=⟨aC.one (aE.agg eP),aE.agg eP,fun a=>(oY N) a,.own,true⟩
def MH (N:Nat):aU:=⟨aC.one (aE.agg eP),aE.agg eP,fun a=>(oY N) a,.frz,false⟩
theorem F6 (N:Nat):aB tab 105 (aAu N):=aB.of L0 (cx:=(aN (aH N) [] [] [] [])) rfl (aM.make trivial trivial trivial) (fun a=>by kernel_rfl)
theorem CQ (N:Nat):aB tab 105 (MH N):=aB.of L0 (cx:=(aN (aH N) [] [] [] [])) rfl (aM.make trivial trivial trivial) (fun a=>by kernel_rfl)
def lU (_:Nat) (p0:aL):Option aL:=
 (bC p0.uses).bind fun l0=>
 (bC p0.used).bind fun l1=>
 (bC p0.free).bind fun l2=>
 some (aL.mk l0 l1 l2)
def QZ (N:Nat):aU:=⟨aC.one (aE.agg eD),aE.agg eD,fun a=>(lU N) a,.own,true⟩
def IS (N:Nat):aU:=⟨aC.one (aE.agg eD),aE.agg eD,fun a=>(lU N) a,.frz,false⟩
theorem AP (N:Nat):aB tab 165 (QZ N):=aB.of L5 (cx:=(aN (aH N) [] [] [] [])) rfl (aM.make trivial trivial trivial) (fun a=>by kernel_rfl)
theorem wS (N:Nat):aB tab 165 (IS N):=aB.of L5 (cx:=(aN (aH N) [] [] [] [])) rfl (aM.make trivial trivial trivial) (fun a=>by kernel_rfl)
def jO (N:Nat) (p0:aF):Option aF:=
 ((lU N) p0.slots).bind fun r0=>
 (bC p0.heap).bind fun l1=>
 (bC p0.where_).bind fun l2=>
 some (aF.mk r0 l1 l2)
def N5 (N:Nat):aU:=⟨aC.one (aE.agg bW),aE.agg bW,fun a=>(jO N) a,.own,true⟩
def ES (N:Nat):aU:=⟨aC.one (aE.agg bW),aE.agg bW,fun a=>(jO N) a,.frz,false⟩
theorem wT (N:Nat):aB tab 106 (N5 N):=aB.of L1 (cx:=(aN (aH N) [(165,(QZ N)),(165,(IS N))] [] [] [])) rfl (aM.make ⟨(AP N),(wS N),trivial⟩ trivial trivial) (fun a=>by kernel_rfl)
theorem rF (N:Nat):aB tab 106 (ES N):=aB.of L1 (cx:=(aN (aH N) [(165,(QZ N)),(165,(IS N))] [] [] [])) rfl (aM.make ⟨(AP N),(wS N),trivial⟩ trivial trivial) (fun a=>by kernel_rfl)
def iE (N:Nat) (p0:aI):Option aI:=
 ((lT N) p0.field).bind fun r0=>
 ((oY N) p0.certs).bind fun r1=>
 ((jO N) p0.agenda).bind fun r2=>
 (bC p0.due).bind fun l3=>
 some (aI.mk p0.now r0 r1 r2 l3)
def c46 (N:Nat):aU:=⟨aC.one (aE.agg aX),aE.agg aX,fun a=>(iE N) a,.own,true⟩
def KR (N:Nat):aU:=⟨aC.one (aE.agg aX),aE.agg aX,fun a=>(iE N) a,.frz,false⟩
theorem yL (N:Nat):aB tab 46 (c46 N):=aB.of QN (cx:=(aN (aH N) [(103,(QT N)),(103,(IK N)),(105,(aAu N)),(105,(MH N)),(106,(N5 N)),(106,(ES N))] [] [] [])) rfl (aM.make ⟨(AO N),(wP N),(F6 N),(CQ N),(wT N),(rF N),trivial⟩ trivial trivial) (fun a=>by kernel_rfl)
theorem sK (N:Nat):aB tab 46 (KR N):=aB.of QN (cx:=(aN (aH N) [(103,(QT N)),(103,(IK N)),(105,(aAu N)),(105,(MH N)),(106,(N5 N)),(106,(ES N))] [] [] [])) rfl (aM.make ⟨(AO N),(wP N),(F6 N),(CQ N),(wT N),(rF N),trivial⟩ trivial trivial) (fun a=>by kernel_rfl)
def IT (_:Nat) (s:((List (Int×Int))×Int×Int×Int)):Option (bB ((List (Int×Int))×Int×Int×Int) Bool):=
 bif decide (s.2.1<(aa s.1.length)) then
  (aK s.1 s.2.1).bind fun a0=>
  bif (a0.1==s.2.2.1)&&(a0.2==s.2.2.2) then
   some (.done true)
  else
   some (.next (s.1,aA .i64 (s.2.1+1),s.2.2))
 else
  some (.done false)
def IU (N:Nat) (p0:List (Int×Int)) (p1:Int×Int):Option Bool:=
 (aT N) (IT N) (p0,0,p1)
def c28 (N:Nat):aU:=⟨aC.cons (aE.sl eF) (aC.one (aE.agg (bG.row eF))),aE.bool,fun a=>(IU N) a.1 a.2,.pure,false⟩
theorem aF2 (N:Nat):aB tab 28 (c28 N):=aB.of aFs (cx:=(aN (aH N) [] [] [] [])) rfl (aM.make trivial trivial trivial) (fun a=>by kernel_rfl)
def yM (_:Nat) (s:(Int×Int×Int×(List (Int×Int×Int))×Int×Int×(List (Int×Int×Int)))):Option (bB (Int×Int×Int×(List (Int×Int×Int))×Int×Int×(List (Int×Int×Int))) aO):=
 bif decide (s.2.1<(aa s.2.2.2.1.length)) then
  (aK s.2.2.2.1 s.2.1).bind fun a0=>
  bif a0.1 !=s.1 then
   (aK s.2.2.2.1 s.2.1).bind fun a1=>
   (bE s.2.2.2.2.2.2 [a1]).bind fun l2=>
   some (.next (s.1,aA .i64 (s.2.1+1),s.2.2.1,s.2.2.2.1,s.2.2.2.2.1,s.2.2.2.2.2.1,l2))
  else
   some (.next (s.1,aA .i64 (s.2.1+1),s.2.2))
 else
  some (.done (aO.mk s.2.2.2.2.2.1 s.2.2.2.2.2.2))
def tN (N:Nat) (p0:aO) (p1:Int):Option aO:=
 (aT N) (yM N) (p1,0,p0.next_,p0.list,0,p0.next_,[])
def c47 (N:Nat):aU:=⟨aC.cons (aE.agg eP) (aC.one (aE.int .i64)),aE.agg eP,fun a=>(tN N) a.1 a.2,.frz,false⟩
theorem aF3 (N:Nat):aB tab 47 (c47 N):=aB.of aFy (cx:=(aN (aH N) [] [] [] [])) rfl (aM.make trivial trivial trivial) (fun a=>by kernel_rfl)
def CR (_:Nat) (s:(Int×Int×Int×Int×(List (Int×Int×Int))×Int×(List (Int×Int×Int))×(List Int)×(List Bool)×(List Int)×(List (Int×Int×Int×Int×Int))×(List Int)×(List (Int×Int×Int)))):Option (bB (Int×Int×Int×Int×(List (Int×Int×Int))×Int×(List (Int×Int×Int))×(List Int)×(List Bool)×(List Int)×(List (Int×Int×Int×Int×Int))×(List Int)×(List (Int×Int×Int))) Int):=
 bif decide (s.2.1<(aa s.2.2.2.2.2.2.2.2.2.2.2.2.length)) then
  (aK s.2.2.2.2.2.2.2.2.2.2.2.2 s.2.1).bind fun a0=>
  bif a0.1==s.1 then
   some (.done s.2.1)
  else
   some (.next (s.1,aA .i64 (s.2.1+1),s.2.2))
 else
  some (.done (-1))
def rG (N:Nat) (p0:aI) (p1:Int):Option Int:=
 (aT N) (CR N) (p1,0,p0.now.1,p0.now.2,p0.field.points,p0.certs.next_,p0.certs.list,p0.agenda.slots.uses,p0.agenda.slots.used,p0.agenda.slots.free,p0.agenda.heap,p0.agenda.where_,p0.due)
def c48 (N:Nat):aU:=⟨aC.cons (aE.agg aX) (aC.one (aE.int .i64)),aE.int .i64,fun a=>(rG N) a.1 a.2,.pure,false⟩
theorem Q0 (N:Nat):aB tab 48 (c48 N):=aB.of aFz (cx:=(aN (aH N) [] [] [] [])) rfl (aM.make trivial trivial trivial) (fun a=>by kernel_rfl)
def rH (N:Nat) (p0:aL) (p1:Int×Int):Option aL:=
 ((lU N) p0).bind fun r0=>
 (aK r0.used p1.1).bind fun _=>
 (bE r0.free [p1.1]).bind fun l2=>
 some (aL.mk r0.uses (bM r0.used p1.1 false) l2)
def aHk (N:Nat):aU:=⟨aC.cons (aE.agg eD) (aC.one (aE.agg (bG.row eF))),aE.agg eD,fun a=>(rH N) a.1 a.2,.frz,false⟩
theorem aAv (N:Nat):aB tab 108 (aHk N):=aB.of XD (cx:=(aN (aH N) [(165,(QZ N)),(165,(IS N))] [] [] [])) rfl (aM.make ⟨(AP N),(wS N),trivial⟩ trivial trivial) (fun a=>by kernel_rfl)
def tO (N:Nat) (p0:Int×Int) (p1:Int×Int):Option Int:=
 ((hP N) p0.1 p1.2).bind fun a0=>
 ((hP N) p1.1 p0.2).bind fun a1=>
 ((iD N) a0).bind fun n2=>
 ((iD N) a1).bind fun n3=>
 bif n2 !=n3 then
  ((iD N) a0).bind fun n4=>
  ((iD N) a1).bind fun n5=>
  bif decide (n4<n5) then
   some (-1)
  else
   some 1
 else
  ((iD N) a0).bind fun n6=>
  bif decide (n6<0) then
   ((oX N) a1 a0).bind fun n7=>
   some n7
  else
   ((oX N) a0 a1).bind fun n8=>
   some n8
def c24 (N:Nat):aU:=⟨aC.cons (aE.agg (bG.row eF)) (aC.one (aE.agg (bG.row eF))),aE.int .i64,fun a=>(tO N) a.1 a.2,.pure,false⟩
theorem aF4 (N:Nat):aB tab 24 (c24 N):=aB.of aFq (cx:=(aN (aH N) [(71,(c71 N)),(72,(c72 N)),(73,(c73 N))] [] [] [])) rfl (aM.make ⟨(QU N),(QW N),(QV N),trivial⟩ trivial trivial) (fun a=>by kernel_rfl)
def dM (N:Nat) (p0:Int×Int×Int×Int×Int) (p1:Int×Int×Int×Int×Int):Option Bool:=
 ((tO N) (p0.1,p0.2.1) (p1.1,p1.2.1)).bind fun n0=>
 bif decide (n0<0) then
  some true
 else
  bif n0==0 then
   some (decide (p0.2.2.1<p1.2.2.1))
  else
   some false
def N6 (N:Nat):aU:=⟨aC.cons (aE.agg (bG.row fC)) (aC.one (aE.agg (bG.row fC))),aE.bool,fun a=>(dM N) a.1 a.2,.pure,false⟩
theorem wU (N:Nat):aB tab 166 (N6 N):=aB.of YB (cx:=(aN (aH N) [(24,(c24 N))] [] [] [])) rfl (aM.make ⟨(aF4 N),trivial⟩ trivial trivial) (fun a=>by kernel_rfl)
def dX (_:Nat) (a:(Int×Int×(List Int)×(List Bool)×(List Int)×(List (Int×Int×Int×Int×Int))×(List Int))):Option ((List Int)×(List Bool)×(List Int)×(List (Int×Int×Int×Int×Int))×(List Int)):=
 (aK a.2.2.2.2.2.1 a.2.1).bind fun a0=>
 (aK a.2.2.2.2.2.1 a.1).bind fun a1=>
 (aK a.2.2.2.2.2.1 a.1).bind fun _=>
 (aK (bM a.2.2.2.2.2.1 a.1 a0) a.2.1).bind fun _=>
 (aK (bM (bM a.2.2.2.2.2.1 a.1 a0) a.2.1 a1) a.1).bind fun a4=>
 (aK (bM (bM a.2.2.2.2.2.1 a.1 a0) a.2.1 a1) a.2.1).bind fun a5=>
 (aK a.2.2.2.2.2.2 a4.2.2.2.1).bind fun _=>
 (aK (bM a.2.2.2.2.2.2 a4.2.2.2.1 a.1) a5.2.2.2.1).bind fun _=>
 bif a.2.2.1.length==a.2.2.1.length then
  bif a.2.2.2.1.length==a.2.2.2.1.length then
   bif a.2.2.2.2.1.length==a.2.2.2.2.1.length then
    bif ((bM (bM a.2.2.2.2.2.1 a.1 a0) a.2.1 a1).length)==a.2.2.2.2.2.1.length then
     bif ((bM (bM a.2.2.2.2.2.2 a4.2.2.2.1 a.1) a5.2.2.2.1 a.2.1).length)==a.2.2.2.2.2.2.length then
      some (a.2.2.1,a.2.2.2.1,a.2.2.2.2.1,bM (bM a.2.2.2.2.2.1 a.1 a0) a.2.1 a1,bM (bM a.2.2.2.2.2.2 a4.2.2.2.1 a.1) a5.2.2.2.1 a.2.1)
     else
      none
    else
     none
   else
    none
  else
   none
 else
  none
def uW (N:Nat):bV:=⟨[.i,.i,.l [.i .i64],.l [.b],.l [.i .i64],.l [.i .i64,.i .i64,.i .i64,.i .i64,.i .i64],.l [.i .i64]],[.agg [.own 0 false,.own 1 false,.own 2 false,.own 3 false,.own 4 false],.int .i64 0,.int .i64 0],[.arr [.i .i64] [],.arr [.b] [],.arr [.i .i64] [],.arr [.i .i64,.i .i64,.i .i64,.i .i64,.i .i64] [],.arr [.i .i64] []],[.l [.i .i64],.l [.b],.l [.i .i64],.l [.i .i64,.i .i64,.i .i64,.i .i64,.i .i64],.l [.i .i64]],.tup [],[.arr [.i .i64] [],.arr [.b] [],.arr [.i .i64] [],.arr [.i .i64,.i .i64,.i .i64,.i .i64,.i .i64] [],.arr [.i .i64] []],fun a=>(dX N) a⟩
theorem lI (N:Nat):eE tab 107 (uW N):=eE.of F2 (wd:=false) (cx:=(aN (aH N) [] [] [] [])) (aM.make trivial trivial trivial) (fun a=>by kernel_rfl)
def fD (_:Nat) (a:((List Int)×(List Bool)×(List Int)×Nat×Nat×Int×Int×(List (Int×Int×Int×Int×Int))×(List Int))):Option ((List (Int×Int×Int×Int×Int))×(List Int)):=
 (aK (a.2.2.2.2.2.2.2.1.take a.2.2.2.1) a.2.2.2.2.2.2.1).bind fun a0=>
 (aK (a.2.2.2.2.2.2.2.1.take a.2.2.2.1) a.2.2.2.2.2.1).bind fun a1=>
 (aK (a.2.2.2.2.2.2.2.1.take a.2.2.2.1) a.2.2.2.2.2.1).bind fun _=>
 (aK ((bM a.2.2.2.2.2.2.2.1 a.2.2.2.2.2.1 a0).take a.2.2.2.1) a.2.2.2.2.2.2.1).bind fun _=>
 (aK ((bM (bM a.2.2.2.2.2.2.2.1 a.2.2.2.2.2.1 a0) a.2.2.2.2.2.2.1 a1).take a.2.2.2.1) a.2.2.2.2.2.1).bind fun a4=>
 (aK ((bM (bM a.2.2.2.2.2.2.2.1 a.2.2.2.2.2.1 a0) a.2.2.2.2.2.2.1 a1).take a.2.2.2.1) a.2.2.2.2.2.2.1).bind fun a5=>
 (aK a.2.2.2.2.2.2.2.2 a4.2.2.2.1).bind fun _=>
 (aK (bM a.2.2.2.2.2.2.2.2 a4.2.2.2.1 a.2.2.2.2.2.1) a5.2.2.2.1).bind fun _=>
 bif ((bM (bM a.2.2.2.2.2.2.2.1 a.2.2.2.2.2.1 a0) a.2.2.2.2.2.2.1 a1).length)==a.2.2.2.2.2.2.2.1.length then
  bif ((bM (bM a.2.2.2.2.2.2.2.2 a4.2.2.2.1 a.2.2.2.2.2.1) a5.2.2.2.1 a.2.2.2.2.2.2.1).length)==a.2.2.2.2.2.2.2.2.length then
   some (bM (bM a.2.2.2.2.2.2.2.1 a.2.2.2.2.2.1 a0) a.2.2.2.2.2.2.1 a1,bM (bM a.2.2.2.2.2.2.2.2 a4.2.2.2.1 a.2.2.2.2.2.1) a5.2.2.2.1 a.2.2.2.2.2.2.1)
  else
   none
 else
  none
def uX (N:Nat):bV:=⟨[.l [.i .i64],.l [.b],.l [.i .i64],.n,.n,.i,.i,.l [.i .i64,.i .i64,.i .i64,.i .i64,.i .i64],.l [.i .i64]],[.agg [.sl [.i .i64] [],.sl [.b] [],.sl [.i .i64] [],.pre 0 0 0 false,.own 1 false],.int .i64 0,.int .i64 0],[.arr [.i .i64,.i .i64,.i .i64,.i .i64,.i .i64] [],.arr [.i .i64] []],[.l [.i .i64,.i .i64,.i .i64,.i .i64,.i .i64],.l [.i .i64]],.tup [],[.arr [.i .i64,.i .i64,.i .i64,.i .i64,.i .i64] [],.arr [.i .i64] []],fun a=>(fD N) a⟩
theorem lJ (N:Nat):eE tab 107 (uX N):=eE.of F2 (wd:=false) (cx:=(aN (aH N) [] [] [] [])) (aM.make trivial trivial trivial) (fun a=>by kernel_rfl)
def wV (N:Nat) (c0:((List Int)×(List Bool)×(List Int)×Nat×Nat×Int×(List (Int×Int×Int×Int×Int))×(List Int))) (s:(Int×(List (Int×Int×Int×Int×Int))×(List Int)×(List Int)×(List Bool)×(List Int)×Nat×Nat)):Option (bB (Int×(List (Int×Int×Int×Int×Int))×(List Int)×(List Int)×(List Bool)×(List Int)×Nat×Nat) (Int×(List (Int×Int×Int×Int×Int))×(List Int))):=
 bif decide (0<s.1) then
  (aK (s.2.1.take s.2.2.2.2.2.2.1) s.1).bind fun a0=>
  (aK (s.2.1.take s.2.2.2.2.2.2.1) (aA .i64 (ac (aA .i64 (s.1-1)) 2))).bind fun a1=>
  ((dM N) a0 a1).bind fun b2=>
  bif b2 then
   ((fD N) (s.2.2.2.1,s.2.2.2.2.1,s.2.2.2.2.2.1,s.2.2.2.2.2.2.1,s.2.2.2.2.2.2.2,s.1,aA .i64 (ac (aA .i64 (s.1-1)) 2),s.2.1,s.2.2.1)).bind fun a3=>
   some (.next (aA .i64 (ac (aA .i64 (s.1-1)) 2),a3.1,a3.2,s.2.2.2))
  else
   bif s.2.1.length==c0.2.2.2.2.2.2.1.length then
    bif s.2.2.1.length==c0.2.2.2.2.2.2.2.length then
     some (.done (s.1,s.2.1,s.2.2.1))
    else
     none
   else
    none
 else
  bif s.2.1.length==c0.2.2.2.2.2.2.1.length then
   bif s.2.2.1.length==c0.2.2.2.2.2.2.2.length then
    some (.done (s.1,s.2.1,s.2.2.1))
   else
    none
  else
   none
def lV (N:Nat) (a:((List Int)×(List Bool)×(List Int)×Nat×Nat×Int×(List (Int×Int×Int×Int×Int))×(List Int))):Option (Int×(List (Int×Int×Int×Int×Int))×(List Int)):=
 (aT N) ((wV N) a) (a.2.2.2.2.2.1,a.2.2.2.2.2.2.1,a.2.2.2.2.2.2.2,a.1,a.2.1,a.2.2.1,a.2.2.2.1,a.2.2.2.2.1)
def F7 (N:Nat):bV:=⟨[.l [.i .i64],.l [.b],.l [.i .i64],.n,.n,.i,.l [.i .i64,.i .i64,.i .i64,.i .i64,.i .i64],.l [.i .i64]],[.agg [.sl [.i .i64] [],.sl [.b] [],.sl [.i .i64] [],.pre 0 0 0 false,.own 1 false],.int .i64 0],[.arr [.i .i64,.i .i64,.i .i64,.i .i64,.i .i64] [],.arr [.i .i64] []],[.i,.l [.i .i64,.i .i64,.i .i64,.i .i64,.i .i64],.l [.i .i64]],.int .i64 0,[.arr [.i .i64,.i .i64,.i .i64,.i .i64,.i .i64] [],.arr [.i .i64] []],fun a=>(lV N) a⟩
theorem yN (N:Nat):eE tab 110 (F7 N):=eE.of F3 (wd:=true) (cx:=(aN (aH N) [(166,(N6 N))] [(107,(uW N)),(107,(uX N))] [] [])) (aM.make ⟨(wU N),trivial⟩ ⟨(lI N),(lJ N),trivial⟩ trivial) (fun a=>by kernel_rfl)
def sO (N:Nat) (c0:((List Int)×(List Bool)×(List Int)×Nat×Nat×Int×(List (Int×Int×Int×Int×Int))×(List Int))) (s:(Int×(List (Int×Int×Int×Int×Int))×(List Int)×(List Int)×(List Bool)×(List Int)×Nat×Nat)):Option (bB (Int×(List (Int×Int×Int×Int×Int))×(List Int)×(List Int)×(List Bool)×(List Int)×Nat×Nat) ((List (Int×Int×Int×Int×Int))×(List Int))):=
 bif decide ((aa s.2.2.2.2.2.2.1)<=(aA .i64 ((aA .i64 (2*s.1))+1))) then
  bif s.2.1.length==c0.2.2.2.2.2.2.1.length then
   bif s.2.2.1.length==c0.2.2.2.2.2.2.2.length then
    some (.done (s.2.1,s.2.2.1))
   else
    none
  else
   none
 else
  bif decide ((aA .i64 ((aA .i64 ((aA .i64 (2*s.1))+1))+1))<(aa s.2.2.2.2.2.2.1)) then
   (aK (s.2.1.take s.2.2.2.2.2.2.1) (aA .i64 ((aA .i64 ((aA .i64 (2*s.1))+1))+1))).bind fun a0=>
   (aK (s.2.1.take s.2.2.2.2.2.2.1) (aA .i64 ((aA .i64 (2*s.1))+1))).bind fun a1=>
   ((dM N) a0 a1).bind fun b2=>
   bif b2 then
    (aK (s.2.1.take s.2.2.2.2.2.2.1) (aA .i64 ((aA .i64 ((aA .i64 (2*s.1))+1))+1))).bind fun a3=>
    (aK (s.2.1.take s.2.2.2.2.2.2.1) s.1).bind fun a4=>
    ((dM N) a3 a4).bind fun b5=>
    bif !b5 then
     bif s.2.1.length==c0.2.2.2.2.2.2.1.length then
      bif s.2.2.1.length==c0.2.2.2.2.2.2.2.length then
       some (.done (s.2.1,s.2.2.1))
      else
       none
     else
      none
    else
     ((fD N) (s.2.2.2.1,s.2.2.2.2.1,s.2.2.2.2.2.1,s.2.2.2.2.2.2.1,s.2.2.2.2.2.2.2,s.1,aA .i64 ((aA .i64 ((aA .i64 (2*s.1))+1))+1),s.2.1,s.2.2.1)).bind fun a6=>
     some (.next (aA .i64 ((aA .i64 ((aA .i64 (2*s.1))+1))+1),a6.1,a6.2,s.2.2.2))
   else
    (aK (s.2.1.take s.2.2.2.2.2.2.1) (aA .i64 ((aA .i64 (2*s.1))+1))).bind fun a7=>
    (aK (s.2.1.take s.2.2.2.2.2.2.1) s.1).bind fun a8=>
    ((dM N) a7 a8).bind fun b9=>
    bif !b9 then
     bif s.2.1.length==c0.2.2.2.2.2.2.1.length then
      bif s.2.2.1.length==c0.2.2.2.2.2.2.2.length then
       some (.done (s.2.1,s.2.2.1))
      else
       none
     else
      none
    else
     ((fD N) (s.2.2.2.1,s.2.2.2.2.1,s.2.2.2.2.2.1,s.2.2.2.2.2.2.1,s.2.2.2.2.2.2.2,s.1,aA .i64 ((aA .i64 (2*s.1))+1),s.2.1,s.2.2.1)).bind fun a10=>
     some (.next (aA .i64 ((aA .i64 (2*s.1))+1),a10.1,a10.2,s.2.2.2))
  else
   (aK (s.2.1.take s.2.2.2.2.2.2.1) (aA .i64 ((aA .i64 (2*s.1))+1))).bind fun a11=>
   (aK (s.2.1.take s.2.2.2.2.2.2.1) s.1).bind fun a12=>
   ((dM N) a11 a12).bind fun b13=>
   bif !b13 then
    bif s.2.1.length==c0.2.2.2.2.2.2.1.length then
     bif s.2.2.1.length==c0.2.2.2.2.2.2.2.length then
      some (.done (s.2.1,s.2.2.1))
     else
      none
    else
     none
   else
    ((fD N) (s.2.2.2.1,s.2.2.2.2.1,s.2.2.2.2.2.1,s.2.2.2.2.2.2.1,s.2.2.2.2.2.2.2,s.1,aA .i64 ((aA .i64 (2*s.1))+1),s.2.1,s.2.2.1)).bind fun a14=>
    some (.next (aA .i64 ((aA .i64 (2*s.1))+1),a14.1,a14.2,s.2.2.2))
def jP (N:Nat) (a:((List Int)×(List Bool)×(List Int)×Nat×Nat×Int×(List (Int×Int×Int×Int×Int))×(List Int))):Option ((List (Int×Int×Int×Int×Int))×(List Int)):=
 (aT N) ((sO N) a) (a.2.2.2.2.2.1,a.2.2.2.2.2.2.1,a.2.2.2.2.2.2.2,a.1,a.2.1,a.2.2.1,a.2.2.2.1,a.2.2.2.2.1)
def KS (N:Nat):bV:=⟨[.l [.i .i64],.l [.b],.l [.i .i64],.n,.n,.i,.l [.i .i64,.i .i64,.i .i64,.i .i64,.i .i64],.l [.i .i64]],[.agg [.sl [.i .i64] [],.sl [.b] [],.sl [.i .i64] [],.pre 0 0 0 false,.own 1 false],.int .i64 0],[.arr [.i .i64,.i .i64,.i .i64,.i .i64,.i .i64] [],.arr [.i .i64] []],[.l [.i .i64,.i .i64,.i .i64,.i .i64,.i .i64],.l [.i .i64]],.tup [],[.arr [.i .i64,.i .i64,.i .i64,.i .i64,.i .i64] [],.arr [.i .i64] []],fun a=>(jP N) a⟩
theorem ET (N:Nat):eE tab 109 (KS N):=eE.of L2 (wd:=false) (cx:=(aN (aH N) [(166,(N6 N))] [(107,(uW N)),(107,(uX N))] [] [])) (aM.make ⟨(wU N),trivial⟩ ⟨(lI N),(lJ N),trivial⟩ trivial) (fun a=>by kernel_rfl)
def hU (N:Nat) (p0:aF) (p1:Int×Int):Option aF:=
 ((jO N) p0).bind fun r0=>
 (aK r0.where_ p1.1).bind fun n1=>
 bif n1 !=(aA .i64 ((aa r0.heap.length) -1)) then
  ((dX N) (n1,aA .i64 ((aa r0.heap.length) -1),r0.slots.uses,r0.slots.used,r0.slots.free,r0.heap,r0.where_)).bind fun a2=>
  (fO a2.2.2.2.1 0 (aA .i64 ((aa r0.heap.length) -1))).bind fun _=>
  (aK a2.2.2.2.2 p1.1).bind fun _=>
  ((rH N) (aL.mk a2.1 a2.2.1 a2.2.2.1) p1).bind fun r5=>
  bif n1 !=(aA .i64 ((aa r0.heap.length) -1)) then
   ((lV N) (r5.uses,r5.used,r5.free,(aA .i64 ((aa r0.heap.length) -1)).toNat,a2.2.2.2.1.length,n1,a2.2.2.2.1,bM a2.2.2.2.2 p1.1 (-1))).bind fun a6=>
   ((jP N) (r5.uses,r5.used,r5.free,(aA .i64 ((aa r0.heap.length) -1)).toNat,a2.2.2.2.1.length,a6)).bind fun a7=>
   some (aF.mk r5 (a7.1.take ((aA .i64 ((aa r0.heap.length) -1)).toNat)) a7.2)
  else
   some (aF.mk r5 (a2.2.2.2.1.take ((aA .i64 ((aa r0.heap.length) -1)).toNat)) (bM a2.2.2.2.2 p1.1 (-1)))
 else
  (fO r0.heap 0 (aA .i64 ((aa r0.heap.length) -1))).bind fun _=>
  (aK r0.where_ p1.1).bind fun _=>
  ((rH N) r0.slots p1).bind fun r10=>
  bif n1 !=(aA .i64 ((aa r0.heap.length) -1)) then
   ((lV N) (r10.uses,r10.used,r10.free,(aA .i64 ((aa r0.heap.length) -1)).toNat,r0.heap.length,n1,r0.heap,bM r0.where_ p1.1 (-1))).bind fun a11=>
   ((jP N) (r10.uses,r10.used,r10.free,(aA .i64 ((aa r0.heap.length) -1)).toNat,r0.heap.length,a11)).bind fun a12=>
   some (aF.mk r10 (a12.1.take ((aA .i64 ((aa r0.heap.length) -1)).toNat)) a12.2)
  else
   some (aF.mk r10 (r0.heap.take ((aA .i64 ((aa r0.heap.length) -1)).toNat)) (bM r0.where_ p1.1 (-1)))
def c49 (N:Nat):aU:=⟨aC.cons (aE.agg bW) (aC.one (aE.agg (bG.row eF))),aE.agg bW,fun a=>(hU N) a.1 a.2,.frz,false⟩
theorem Q1 (N:Nat):aB tab 49 (c49 N):=aB.of aFA (cx:=(aN (aH N) [(106,(N5 N)),(106,(ES N)),(108,(aHk N))] [(107,(uW N)),(107,(uX N)),(110,(F7 N)),(109,(KS N))] [] [])) rfl (aM.make ⟨(wT N),(rF N),(aAv N),trivial⟩ ⟨(lI N),(lJ N),(yN N),(ET N),trivial⟩ trivial) (fun a=>by kernel_rfl)
def uY (N:Nat) (p0:aI) (p1:Int):Option aI:=
 ((iE N) p0).bind fun r0=>
 ((tN N) p0.certs p1).bind fun r1=>
 ((rG N) p0 p1).bind fun n2=>
 bif decide (0<=n2) then
  (aK p0.due n2).bind fun a3=>
  ((hU N) p0.agenda a3.2).bind fun r4=>
  (fO p0.due 0 n2).bind fun l5=>
  (bC l5).bind fun l6=>
  (fO p0.due (aA .i64 (n2+1)) (aa p0.due.length)).bind fun l7=>
  bif l7.isEmpty then
   some (aI.mk r0.now r0.field r1 r4 l6)
  else
   (bE l6 l7).bind fun l8=>
   some (aI.mk r0.now r0.field r1 r4 l8)
 else
  some (aI.mk r0.now r0.field r1 r0.agenda r0.due)
def c11 (N:Nat):aU:=⟨aC.cons (aE.agg aX) (aC.one (aE.int .i64)),aE.agg aX,fun a=>(uY N) a.1 a.2,.frz,false⟩
theorem Q2 (N:Nat):aB tab 11 (c11 N):=aB.of aFf (cx:=(aN (aH N) [(46,(c46 N)),(46,(KR N)),(47,(c47 N)),(48,(c48 N)),(49,(c49 N))] [] [] [])) rfl (aM.make ⟨(yL N),(sK N),(aF3 N),(Q0 N),(Q1 N),trivial⟩ trivial trivial) (fun a=>by kernel_rfl)
def DR (_:Nat) (s:(Int×(List (Int×Int×Int))×(List (Int×Int×Int)))):Option (bB (Int×(List (Int×Int×Int))×(List (Int×Int×Int))) Bool):=
 bif decide (s.1<(aa s.2.1.length)) then
  (aK s.2.1 s.1).bind fun a0=>
  (aK s.2.2 s.1).bind fun a1=>
  bif !((a0.1==a1.1)&&((a0.2.1==a1.2.1)&&(a0.2.2==a1.2.2))) then
   some (.done false)
  else
   some (.next (aA .i64 (s.1+1),s.2))
 else
  some (.done true)
def CS (N:Nat) (p0:Field) (p1:Field):Option Bool:=
 bif (aa p0.points.length) !=(aa p1.points.length) then
  some false
 else
  (aT N) (DR N) (0,p0.points,p1.points)
def aHl (N:Nat):aU:=⟨aC.cons (aE.agg aW) (aC.one (aE.agg aW)),aE.bool,fun a=>(CS N) a.1 a.2,.pure,false⟩
theorem aAw (N:Nat):aB tab 145 (aHl N):=aB.of X2 (cx:=(aN (aH N) [] [] [] [])) rfl (aM.make trivial trivial trivial) (fun a=>by kernel_rfl)
def uZ (_:Nat) (p0:Bool) (p1:Bool×Int×Int) (p2:Bool×Int×Int):Option ((Int×Int)×Int):=
 bif decide (0<p1.2.1) then
  some ((0,0),16)
 else
  bif decide (9223372036854775807<p1.2.2) then
   some ((0,0),16)
  else
   bif decide (0<p2.2.1) then
    some ((0,0),16)
   else
    bif decide (9223372036854775807<p2.2.2) then
     some ((0,0),16)
    else
     bif p0 then
      some ((aA .i64 (0- (aA .i64 p1.2.2)),aA .i64 p2.2.2),0)
     else
      some ((aA .i64 p1.2.2,aA .i64 p2.2.2),0)
def aHm (N:Nat):aU:=⟨aC.cons aE.bool (aC.cons (aE.agg (bG.row rB)) (aC.one (aE.agg (bG.row rB)))),aE.tup (aC.cons (aE.agg (bG.row eF)) (aC.one (aE.int .i64))),fun a=>(uZ N) a.1 a.2.1 a.2.2,.pure,false⟩
theorem aAx (N:Nat):aB tab 297 (aHm N):=aB.of aAi (cx:=(aN (aH N) [] [] [] [])) rfl (aM.make trivial trivial trivial) (fun a=>by kernel_rfl)
def CT (N:Nat) (p0:Int) (p1:Int):Option ((Int×Int)×Int):=
 bif p1==0 then
  some ((0,0),26)
 else
  ((eS N) p0).bind fun n0=>
  ((eS N) p1).bind fun n1=>
  ((oW N) n0 n1).bind fun n2=>
  bif !((decide (p0<0))==(decide (p1<0))) then
   ((eS N) p0).bind fun n3=>
   bif n2==0 then
    none
   else
    ((eS N) p1).bind fun n4=>
    bif n2==0 then
     none
    else
     ((uZ N) (p0 !=0) (false,0,aA .u64 (ac n3 n2)) (false,0,aA .u64 (ac n4 n2))).bind fun a5=>
     some a5
  else
   ((eS N) p0).bind fun n6=>
   bif n2==0 then
    none
   else
    ((eS N) p1).bind fun n7=>
    bif n2==0 then
     none
    else
     ((uZ N) false (false,0,aA .u64 (ac n6 n2)) (false,0,aA .u64 (ac n7 n2))).bind fun a8=>
     some a8
def aHn (N:Nat):aU:=⟨aC.cons (aE.int .i64) (aC.one (aE.int .i64)),aE.tup (aC.cons (aE.agg (bG.row eF)) (aC.one (aE.int .i64))),fun a=>(CT N) a.1 a.2,.pure,false⟩
theorem aAy (N:Nat):aB tab 292 (aHn N):=aB.of aAe (cx:=(aN (aH N) [(84,(c84 N)),(83,(c83 N)),(297,(aHm N))] [] [] [])) rfl (aM.make ⟨(KQ N),(QS N),(aAx N),trivial⟩ trivial trivial) (fun a=>by kernel_rfl)
def EU (N:Nat) (p0:Int×Int×Int) (p1:Int×Int×Int):Option (Int×Int):=
 ((CT N) (aA .i64 (p0.2.1-p1.2.1)) (aA .i64 (p1.2.2-p0.2.2))).bind fun a0=>
 some a0.1
def aHo (N:Nat):aU:=⟨aC.cons (aE.agg (bG.row bY)) (aC.one (aE.agg (bG.row bY))),aE.agg (bG.row eF),fun a=>(EU N) a.1 a.2,.pure,false⟩
theorem aAz (N:Nat):aB tab 277 (aHo N):=aB.of Z9 (cx:=(aN (aH N) [(292,(aHn N))] [] [] [])) rfl (aM.make ⟨(aAy N),trivial⟩ trivial trivial) (fun a=>by kernel_rfl)
def tP (N:Nat) (p0:Int×Int×Int) (p1:Int×Int×Int) (p2:Int×Int):Option ((Int×Int)×Bool):=
 ((rE N) p1 p0 p2).bind fun b0=>
 bif b0 then
  some (p2,true)
 else
  bif decide (p0.2.2<p1.2.2) then
   ((EU N) p0 p1).bind fun a1=>
   some (a1,true)
  else
   some ((0,0),false)
def aHp (N:Nat):aU:=⟨aC.cons (aE.agg (bG.row bY)) (aC.cons (aE.agg (bG.row bY)) (aC.one (aE.agg (bG.row eF)))),aE.tup (aC.cons (aE.agg (bG.row eF)) (aC.one aE.bool)),fun a=>(tP N) a.1 a.2.1 a.2.2,.pure,false⟩
theorem aAA (N:Nat):aB tab 244 (aHp N):=aB.of ZT (cx:=(aN (aH N) [(97,(c97 N)),(277,(aHo N))] [] [] [])) rfl (aM.make ⟨(QX N),(aAz N),trivial⟩ trivial trivial) (fun a=>by kernel_rfl)
def vA (N:Nat) (p0:Field) (p1:Int×Int) (p2:Int×Int):Option ((Int×Int)×Bool):=
 ((wR N) p0 p1.2).bind fun n0=>
 (aK p0.points n0).bind fun a1=>
 ((wR N) p0 p1.1).bind fun n2=>
 (aK p0.points n2).bind fun a3=>
 ((tP N) a1 a3 p2).bind fun a4=>
 some a4
def aF5 (N:Nat):aU:=⟨aC.cons (aE.agg aW) (aC.cons (aE.agg (bG.row eF)) (aC.one (aE.agg (bG.row eF)))),aE.tup (aC.cons (aE.agg (bG.row eF)) (aC.one aE.bool)),fun a=>(vA N) a.1 a.2.1 a.2.2,.pure,false⟩
theorem MI (N:Nat):aB tab 200 (aF5 N):=aB.of Y1 (cx:=(aN (aH N) [(40,(c40 N)),(244,(aHp N))] [] [] [])) rfl (aM.make ⟨(QY N),(aAA N),trivial⟩ trivial trivial) (fun a=>by kernel_rfl)
def wW (N:Nat) (c0:(Int×(List Int)×(List Bool)×(List Int)×(List (Int×Int×Int×Int×Int))×(List Int))) (s:(Int×(List Int)×(List Bool)×(List Int)×(List (Int×Int×Int×Int×Int))×(List Int))):Option (bB (Int×(List Int)×(List Bool)×(List Int)×(List (Int×Int×Int×Int×Int))×(List Int)) (Int×(List Int)×(List Bool)×(List Int)×(List (Int×Int×Int×Int×Int))×(List Int))):=
 bif decide (0<s.1) then
  (aK s.2.2.2.2.1 s.1).bind fun a0=>
  (aK s.2.2.2.2.1 (aA .i64 (ac (aA .i64 (s.1-1)) 2))).bind fun a1=>
  ((dM N) a0 a1).bind fun b2=>
  bif b2 then
   ((dX N) (s.1,aA .i64 (ac (aA .i64 (s.1-1)) 2),s.2)).bind fun a3=>
   some (.next (aA .i64 (ac (aA .i64 (s.1-1)) 2),a3))
  else
   bif s.2.1.length==c0.2.1.length then
    bif s.2.2.1.length==c0.2.2.1.length then
     bif s.2.2.2.1.length==c0.2.2.2.1.length then
      bif s.2.2.2.2.1.length==c0.2.2.2.2.1.length then
       bif s.2.2.2.2.2.length==c0.2.2.2.2.2.length then
        some (.done s)
       else
        none
      else
       none
     else
      none
    else
     none
   else
    none
 else
  bif s.2.1.length==c0.2.1.length then
   bif s.2.2.1.length==c0.2.2.1.length then
    bif s.2.2.2.1.length==c0.2.2.2.1.length then
     bif s.2.2.2.2.1.length==c0.2.2.2.2.1.length then
      bif s.2.2.2.2.2.length==c0.2.2.2.2.2.length then
       some (.done s)
      else
       none
     else
      none
    else
     none
   else
    none
  else
   none
def rI (N:Nat) (a:(Int×(List Int)×(List Bool)×(List Int)×(List (Int×Int×Int×Int×Int))×(List Int))):Option (Int×(List Int)×(List Bool)×(List Int)×(List (Int×Int×Int×Int×Int))×(List Int)):=
 (aT N) ((wW N) a) a
def KT (N:Nat):bV:=⟨[.i,.l [.i .i64],.l [.b],.l [.i .i64],.l [.i .i64,.i .i64,.i .i64,.i .i64,.i .i64],.l [.i .i64]],[.agg [.own 0 false,.own 1 false,.own 2 false,.own 3 false,.own 4 false],.int .i64 0],[.arr [.i .i64] [],.arr [.b] [],.arr [.i .i64] [],.arr [.i .i64,.i .i64,.i .i64,.i .i64,.i .i64] [],.arr [.i .i64] []],[.i,.l [.i .i64],.l [.b],.l [.i .i64],.l [.i .i64,.i .i64,.i .i64,.i .i64,.i .i64],.l [.i .i64]],.int .i64 0,[.arr [.i .i64] [],.arr [.b] [],.arr [.i .i64] [],.arr [.i .i64,.i .i64,.i .i64,.i .i64,.i .i64] [],.arr [.i .i64] []],fun a=>(rI N) a⟩
theorem EV (N:Nat):eE tab 110 (KT N):=eE.of F3 (wd:=false) (cx:=(aN (aH N) [(166,(N6 N))] [(107,(uW N)),(107,(uX N))] [] [])) (aM.make ⟨(wU N),trivial⟩ ⟨(lI N),(lJ N),trivial⟩ trivial) (fun a=>by kernel_rfl)
def sP (N:Nat) (c0:(Int×(List Int)×(List Bool)×(List Int)×(List (Int×Int×Int×Int×Int))×(List Int))) (s:(Int×(List Int)×(List Bool)×(List Int)×(List (Int×Int×Int×Int×Int))×(List Int))):Option (bB (Int×(List Int)×(List Bool)×(List Int)×(List (Int×Int×Int×Int×Int))×(List Int)) ((List Int)×(List Bool)×(List Int)×(List (Int×Int×Int×Int×Int))×(List Int))):=
 bif decide ((aa s.2.2.2.2.1.length)<=(aA .i64 ((aA .i64 (2*s.1))+1))) then
  bif s.2.1.length==c0.2.1.length then
   bif s.2.2.1.length==c0.2.2.1.length then
    bif s.2.2.2.1.length==c0.2.2.2.1.length then
     bif s.2.2.2.2.1.length==c0.2.2.2.2.1.length then
      bif s.2.2.2.2.2.length==c0.2.2.2.2.2.length then
       some (.done s.2)
      else
       none
     else
      none
    else
     none
   else
    none
  else
   none
 else
  bif decide ((aA .i64 ((aA .i64 ((aA .i64 (2*s.1))+1))+1))<(aa s.2.2.2.2.1.length)) then
   (aK s.2.2.2.2.1 (aA .i64 ((aA .i64 ((aA .i64 (2*s.1))+1))+1))).bind fun a0=>
   (aK s.2.2.2.2.1 (aA .i64 ((aA .i64 (2*s.1))+1))).bind fun a1=>
   ((dM N) a0 a1).bind fun b2=>
   bif b2 then
    (aK s.2.2.2.2.1 (aA .i64 ((aA .i64 ((aA .i64 (2*s.1))+1))+1))).bind fun a3=>
    (aK s.2.2.2.2.1 s.1).bind fun a4=>
    ((dM N) a3 a4).bind fun b5=>
    bif !b5 then
     bif s.2.1.length==c0.2.1.length then
      bif s.2.2.1.length==c0.2.2.1.length then
       bif s.2.2.2.1.length==c0.2.2.2.1.length then
        bif s.2.2.2.2.1.length==c0.2.2.2.2.1.length then
         bif s.2.2.2.2.2.length==c0.2.2.2.2.2.length then
          some (.done s.2)
         else
          none
        else
         none
       else
        none
      else
       none
     else
      none
    else
     ((dX N) (s.1,aA .i64 ((aA .i64 ((aA .i64 (2*s.1))+1))+1),s.2)).bind fun a6=>
     some (.next (aA .i64 ((aA .i64 ((aA .i64 (2*s.1))+1))+1),a6))
   else
    (aK s.2.2.2.2.1 (aA .i64 ((aA .i64 (2*s.1))+1))).bind fun a7=>
    (aK s.2.2.2.2.1 s.1).bind fun a8=>
    ((dM N) a7 a8).bind fun b9=>
    bif !b9 then
     bif s.2.1.length==c0.2.1.length then
      bif s.2.2.1.length==c0.2.2.1.length then
       bif s.2.2.2.1.length==c0.2.2.2.1.length then
        bif s.2.2.2.2.1.length==c0.2.2.2.2.1.length then
         bif s.2.2.2.2.2.length==c0.2.2.2.2.2.length then
          some (.done s.2)
         else
          none
        else
         none
       else
        none
      else
       none
     else
      none
    else
     ((dX N) (s.1,aA .i64 ((aA .i64 (2*s.1))+1),s.2)).bind fun a10=>
     some (.next (aA .i64 ((aA .i64 (2*s.1))+1),a10))
  else
   (aK s.2.2.2.2.1 (aA .i64 ((aA .i64 (2*s.1))+1))).bind fun a11=>
   (aK s.2.2.2.2.1 s.1).bind fun a12=>
   ((dM N) a11 a12).bind fun b13=>
   bif !b13 then
    bif s.2.1.length==c0.2.1.length then
     bif s.2.2.1.length==c0.2.2.1.length then
      bif s.2.2.2.1.length==c0.2.2.2.1.length then
       bif s.2.2.2.2.1.length==c0.2.2.2.2.1.length then
        bif s.2.2.2.2.2.length==c0.2.2.2.2.2.length then
         some (.done s.2)
        else
         none
       else
        none
      else
       none
     else
      none
    else
     none
   else
    ((dX N) (s.1,aA .i64 ((aA .i64 (2*s.1))+1),s.2)).bind fun a14=>
    some (.next (aA .i64 ((aA .i64 (2*s.1))+1),a14))
def nT (N:Nat) (a:(Int×(List Int)×(List Bool)×(List Int)×(List (Int×Int×Int×Int×Int))×(List Int))):Option ((List Int)×(List Bool)×(List Int)×(List (Int×Int×Int×Int×Int))×(List Int)):=
 (aT N) ((sP N) a) a
def Q3 (N:Nat):bV:=⟨[.i,.l [.i .i64],.l [.b],.l [.i .i64],.l [.i .i64,.i .i64,.i .i64,.i .i64,.i .i64],.l [.i .i64]],[.agg [.own 0 false,.own 1 false,.own 2 false,.own 3 false,.own 4 false],.int .i64 0],[.arr [.i .i64] [],.arr [.b] [],.arr [.i .i64] [],.arr [.i .i64,.i .i64,.i .i64,.i .i64,.i .i64] [],.arr [.i .i64] []],[.l [.i .i64],.l [.b],.l [.i .i64],.l [.i .i64,.i .i64,.i .i64,.i .i64,.i .i64],.l [.i .i64]],.tup [],[.arr [.i .i64] [],.arr [.b] [],.arr [.i .i64] [],.arr [.i .i64,.i .i64,.i .i64,.i .i64,.i .i64] [],.arr [.i .i64] []],fun a=>(nT N) a⟩
theorem N7 (N:Nat):eE tab 109 (Q3 N):=eE.of L2 (wd:=false) (cx:=(aN (aH N) [(166,(N6 N))] [(107,(uW N)),(107,(uX N))] [] [])) (aM.make ⟨(wU N),trivial⟩ ⟨(lI N),(lJ N),trivial⟩ trivial) (fun a=>by kernel_rfl)
def tQ (N:Nat) (p0:aF) (p1:Int×Int) (p2:Int×Int):Option aF:=
 ((jO N) p0).bind fun r0=>
 (aK r0.where_ p1.1).bind fun n1=>
 (aK r0.heap n1).bind fun a2=>
 ((rI N) (n1,r0.slots.uses,r0.slots.used,r0.slots.free,bM r0.heap n1 (p2.1,p2.2,a2.2.2),r0.where_)).bind fun a3=>
 ((nT N) a3).bind fun a4=>
 some (aF.mk (aL.mk a4.1 a4.2.1 a4.2.2.1) a4.2.2.2.1 a4.2.2.2.2)
def aHq (N:Nat):aU:=⟨aC.cons (aE.agg bW) (aC.cons (aE.agg (bG.row eF)) (aC.one (aE.agg (bG.row eF)))),aE.agg bW,fun a=>(tQ N) a.1 a.2.1 a.2.2,.frz,false⟩
theorem aAB (N:Nat):aB tab 218 (aHq N):=aB.of Y8 (cx:=(aN (aH N) [(106,(N5 N)),(106,(ES N))] [(110,(F7 N)),(109,(KS N)),(110,(KT N)),(109,(Q3 N))] [] [])) rfl (aM.make ⟨(wT N),(rF N),trivial⟩ ⟨(yN N),(ET N),(EV N),(N7 N),trivial⟩ trivial) (fun a=>by kernel_rfl)
def eB (_:Nat) (p0:aL):Option Bool:=
 bif decide (0<(aa p0.free.length)) then
  (aK p0.free (aA .i64 ((aa p0.free.length) -1))).bind fun n0=>
  (aK p0.uses n0).bind fun n1=>
  some (decide (n1<1000000))
 else
  some false
def aF6 (N:Nat):aU:=⟨aC.one (aE.agg eD),aE.bool,fun a=>(eB N) a,.pure,false⟩
theorem MJ (N:Nat):aB tab 219 (aF6 N):=aB.of Y9 (cx:=(aN (aH N) [] [] [] [])) rfl (aM.make trivial trivial trivial) (fun a=>by kernel_rfl)
def zM (N:Nat) (p0:aL):Option (aL×(Int×Int)):=
 ((lU N) p0).bind fun r0=>
 (aK r0.free (aA .i64 ((aa r0.free.length) -1))).bind fun n1=>
 (fO r0.free 0 (aA .i64 ((aa r0.free.length) -1))).bind fun _=>
 (aK r0.uses n1).bind fun n3=>
 (aK r0.uses n1).bind fun _=>
 (aK r0.used n1).bind fun _=>
 (aK (bM r0.uses n1 (aA .i64 (n3+1))) n1).bind fun n6=>
 some (aL.mk (bM r0.uses n1 (aA .i64 (n3+1))) (bM r0.used n1 true) (r0.free.take ((aA .i64 ((aa r0.free.length) -1)).toNat)),n1,n6)
def aHr (N:Nat):aU:=⟨aC.one (aE.agg eD),aE.tup (aC.cons (aE.agg eD) (aC.one (aE.agg (bG.row eF)))),fun a=>(zM N) a,.frz,false⟩
theorem aAC (N:Nat):aB tab 262 (aHr N):=aB.of ZX (cx:=(aN (aH N) [(165,(QZ N)),(165,(IS N))] [] [] [])) rfl (aM.make ⟨(AP N),(wS N),trivial⟩ trivial trivial) (fun a=>by kernel_rfl)
def nU (_:Nat) (a:((List Int)×(List Bool)×(List Int)×Int×Int×(List (Int×Int×Int×Int×Int))×(List Int))):Option ((List (Int×Int×Int×Int×Int))×(List Int)):=
 (aK a.2.2.2.2.2.1 a.2.2.2.2.1).bind fun a0=>
 (aK a.2.2.2.2.2.1 a.2.2.2.1).bind fun a1=>
 (aK a.2.2.2.2.2.1 a.2.2.2.1).bind fun _=>
 (aK (bM a.2.2.2.2.2.1 a.2.2.2.1 a0) a.2.2.2.2.1).bind fun _=>
 (aK (bM (bM a.2.2.2.2.2.1 a.2.2.2.1 a0) a.2.2.2.2.1 a1) a.2.2.2.1).bind fun a4=>
 (aK (bM (bM a.2.2.2.2.2.1 a.2.2.2.1 a0) a.2.2.2.2.1 a1) a.2.2.2.2.1).bind fun a5=>
 (aK a.2.2.2.2.2.2 a4.2.2.2.1).bind fun _=>
 (aK (bM a.2.2.2.2.2.2 a4.2.2.2.1 a.2.2.2.1) a5.2.2.2.1).bind fun _=>
 bif ((bM (bM a.2.2.2.2.2.1 a.2.2.2.1 a0) a.2.2.2.2.1 a1).length)==a.2.2.2.2.2.1.length then
  bif ((bM (bM a.2.2.2.2.2.2 a4.2.2.2.1 a.2.2.2.1) a5.2.2.2.1 a.2.2.2.2.1).length)==a.2.2.2.2.2.2.length then
   some (bM (bM a.2.2.2.2.2.1 a.2.2.2.1 a0) a.2.2.2.2.1 a1,bM (bM a.2.2.2.2.2.2 a4.2.2.2.1 a.2.2.2.1) a5.2.2.2.1 a.2.2.2.2.1)
  else
   none
 else
  none
def Q4 (N:Nat):bV:=⟨[.l [.i .i64],.l [.b],.l [.i .i64],.i,.i,.l [.i .i64,.i .i64,.i .i64,.i .i64,.i .i64],.l [.i .i64]],[.agg [.sl [.i .i64] [],.sl [.b] [],.sl [.i .i64] [],.own 0 false,.own 1 false],.int .i64 0,.int .i64 0],[.arr [.i .i64,.i .i64,.i .i64,.i .i64,.i .i64] [],.arr [.i .i64] []],[.l [.i .i64,.i .i64,.i .i64,.i .i64,.i .i64],.l [.i .i64]],.tup [],[.arr [.i .i64,.i .i64,.i .i64,.i .i64,.i .i64] [],.arr [.i .i64] []],fun a=>(nU N) a⟩
theorem N8 (N:Nat):eE tab 107 (Q4 N):=eE.of F2 (wd:=false) (cx:=(aN (aH N) [] [] [] [])) (aM.make trivial trivial trivial) (fun a=>by kernel_rfl)
def wX (N:Nat) (c0:((List Int)×(List Bool)×(List Int)×Int×(List (Int×Int×Int×Int×Int))×(List Int))) (s:(Int×(List (Int×Int×Int×Int×Int))×(List Int)×(List Int)×(List Bool)×(List Int))):Option (bB (Int×(List (Int×Int×Int×Int×Int))×(List Int)×(List Int)×(List Bool)×(List Int)) (Int×(List (Int×Int×Int×Int×Int))×(List Int))):=
 bif decide (0<s.1) then
  (aK s.2.1 s.1).bind fun a0=>
  (aK s.2.1 (aA .i64 (ac (aA .i64 (s.1-1)) 2))).bind fun a1=>
  ((dM N) a0 a1).bind fun b2=>
  bif b2 then
   ((nU N) (s.2.2.2.1,s.2.2.2.2.1,s.2.2.2.2.2,s.1,aA .i64 (ac (aA .i64 (s.1-1)) 2),s.2.1,s.2.2.1)).bind fun a3=>
   some (.next (aA .i64 (ac (aA .i64 (s.1-1)) 2),a3.1,a3.2,s.2.2.2))
  else
   bif s.2.1.length==c0.2.2.2.2.1.length then
    bif s.2.2.1.length==c0.2.2.2.2.2.length then
     some (.done (s.1,s.2.1,s.2.2.1))
    else
     none
   else
    none
 else
  bif s.2.1.length==c0.2.2.2.2.1.length then
   bif s.2.2.1.length==c0.2.2.2.2.2.length then
    some (.done (s.1,s.2.1,s.2.2.1))
   else
    none
  else
   none
def rJ (N:Nat) (a:((List Int)×(List Bool)×(List Int)×Int×(List (Int×Int×Int×Int×Int))×(List Int))):Option (Int×(List (Int×Int×Int×Int×Int))×(List Int)):=
 (aT N) ((wX N) a) (a.2.2.2.1,a.2.2.2.2.1,a.2.2.2.2.2,a.1,a.2.1,a.2.2.1)
def Q5 (N:Nat):bV:=⟨[.l [.i .i64],.l [.b],.l [.i .i64],.i,.l [.i .i64,.i .i64,.i .i64,.i .i64,.i .i64],.l [.i .i64]],[.agg [.sl [.i .i64] [],.sl [.b] [],.sl [.i .i64] [],.own 0 false,.own 1 false],.int .i64 0],[.arr [.i .i64,.i .i64,.i .i64,.i .i64,.i .i64] [],.arr [.i .i64] []],[.i,.l [.i .i64,.i .i64,.i .i64,.i .i64,.i .i64],.l [.i .i64]],.int .i64 0,[.arr [.i .i64,.i .i64,.i .i64,.i .i64,.i .i64] [],.arr [.i .i64] []],fun a=>(rJ N) a⟩
theorem N9 (N:Nat):eE tab 110 (Q5 N):=eE.of F3 (wd:=true) (cx:=(aN (aH N) [(166,(N6 N))] [(107,(uW N)),(107,(uX N)),(107,(Q4 N))] [] [])) (aM.make ⟨(wU N),trivial⟩ ⟨(lI N),(lJ N),(N8 N),trivial⟩ trivial) (fun a=>by kernel_rfl)
def cV (N:Nat) (p0:aF) (p1:Int×Int) (p2:Int):Option (aF×(Int×Int)):=
 ((jO N) p0).bind fun r0=>
 ((zM N) r0.slots).bind fun a1=>
 (bE r0.heap [(p1.1,p1.2,p2,a1.2)]).bind fun l2=>
 (aK r0.where_ a1.2.1).bind fun _=>
 ((rJ N) (a1.1.uses,a1.1.used,a1.1.free,aA .i64 ((aa l2.length) -1),l2,bM r0.where_ a1.2.1 (aA .i64 ((aa l2.length) -1)))).bind fun a4=>
 some (aF.mk a1.1 a4.2.1 a4.2.2,a1.2)
def aF7 (N:Nat):aU:=⟨aC.cons (aE.agg bW) (aC.cons (aE.agg (bG.row eF)) (aC.one (aE.int .i64))),aE.tup (aC.cons (aE.agg bW) (aC.one (aE.agg (bG.row eF)))),fun a=>(cV N) a.1 a.2.1 a.2.2,.frz,false⟩
theorem MK (N:Nat):aB tab 220 (aF7 N):=aB.of ZA (cx:=(aN (aH N) [(106,(N5 N)),(106,(ES N)),(262,(aHr N))] [(110,(F7 N)),(110,(KT N)),(110,(Q5 N))] [] [])) rfl (aM.make ⟨(wT N),(rF N),(aAC N),trivial⟩ ⟨(yN N),(EV N),(N9 N),trivial⟩ trivial) (fun a=>by kernel_rfl)
def yO (N:Nat) (s:(Int×Int×Int×(List (Int×Int×Int))×Int×(List (Int×Int×Int))×(List Int)×(List Bool)×(List Int)×(List (Int×Int×Int×Int×Int))×(List Int)×(List (Int×Int×Int))×(List (Int×Int×Int))×Int×Int×Int×Int×Int×(List (Int×Int×Int))×Int×(List (Int×Int×Int))×(List Int)×(List Bool)×(List Int)×(List (Int×Int×Int×Int×Int))×(List Int)×(List (Int×Int×Int)))):Option (bB (Int×Int×Int×(List (Int×Int×Int))×Int×(List (Int×Int×Int))×(List Int)×(List Bool)×(List Int)×(List (Int×Int×Int×Int×Int))×(List Int)×(List (Int×Int×Int))×(List (Int×Int×Int))×Int×Int×Int×Int×Int×(List (Int×Int×Int))×Int×(List (Int×Int×Int))×(List Int)×(List Bool)×(List Int)×(List (Int×Int×Int×Int×Int))×(List Int)×(List (Int×Int×Int))) (aI×Int)):=
 bif decide (s.1<(aa s.2.2.2.2.2.1.length)) then
  (aK s.2.2.2.2.2.1 s.1).bind fun a0=>
  ((rG N) (aI.mk (s.2.1,s.2.2.1) (Field.mk s.2.2.2.1) (aO.mk s.2.2.2.2.1 s.2.2.2.2.2.1) (aF.mk (aL.mk s.2.2.2.2.2.2.1 s.2.2.2.2.2.2.2.1 s.2.2.2.2.2.2.2.2.1) s.2.2.2.2.2.2.2.2.2.1 s.2.2.2.2.2.2.2.2.2.2.1) s.2.2.2.2.2.2.2.2.2.2.2.1) a0.1).bind fun n1=>
  ((vA N) (Field.mk s.2.2.2.2.2.2.2.2.2.2.2.2.1) a0.2 (s.2.1,s.2.2.1)).bind fun a2=>
  bif a2.2 then
   bif decide (0<=n1) then
    (aK s.2.2.2.2.2.2.2.2.2.2.2.1 n1).bind fun a3=>
    ((tQ N) (aF.mk (aL.mk s.2.2.2.2.2.2.2.2.2.2.2.2.2.2.2.2.2.2.2.2.2.1 s.2.2.2.2.2.2.2.2.2.2.2.2.2.2.2.2.2.2.2.2.2.2.1 s.2.2.2.2.2.2.2.2.2.2.2.2.2.2.2.2.2.2.2.2.2.2.2.1) s.2.2.2.2.2.2.2.2.2.2.2.2.2.2.2.2.2.2.2.2.2.2.2.2.1 s.2.2.2.2.2.2.2.2.2.2.2.2.2.2.2.2.2.2.2.2.2.2.2.2.2.1) a3.2 a2.1).bind fun r4=>
    (aK s.2.2.2.2.2.2.2.2.2.2.2.1 n1).bind fun a5=>
    (bE s.2.2.2.2.2.2.2.2.2.2.2.2.2.2.2.2.2.2.2.2.2.2.2.2.2.2 [a5]).bind fun l6=>
    bif !a2.2 then
     bif decide (0<=n1) then
      (aK s.2.2.2.2.2.2.2.2.2.2.2.1 n1).bind fun a7=>
      ((hU N) r4 a7.2).bind fun r8=>
      bif !a2.2 then
       some (.next (aA .i64 (s.1+1),s.2.1,s.2.2.1,s.2.2.2.1,s.2.2.2.2.1,s.2.2.2.2.2.1,s.2.2.2.2.2.2.1,s.2.2.2.2.2.2.2.1,s.2.2.2.2.2.2.2.2.1,s.2.2.2.2.2.2.2.2.2.1,s.2.2.2.2.2.2.2.2.2.2.1,s.2.2.2.2.2.2.2.2.2.2.2.1,s.2.2.2.2.2.2.2.2.2.2.2.2.1,s.2.2.2.2.2.2.2.2.2.2.2.2.2.1,s.2.2.2.2.2.2.2.2.2.2.2.2.2.2.1,s.2.2.2.2.2.2.2.2.2.2.2.2.2.2.2.1,s.2.2.2.2.2.2.2.2.2.2.2.2.2.2.2.2.1,s.2.2.2.2.2.2.2.2.2.2.2.2.2.2.2.2.2.1,s.2.2.2.2.2.2.2.2.2.2.2.2.2.2.2.2.2.2.1,s.2.2.2.2.2.2.2.2.2.2.2.2.2.2.2.2.2.2.2.1,s.2.2.2.2.2.2.2.2.2.2.2.2.2.2.2.2.2.2.2.2.1,r8.slots.uses,r8.slots.used,r8.slots.free,r8.heap,r8.where_,l6))
      else
       bif decide (0<=n1) then
        some (.next (aA .i64 (s.1+1),s.2.1,s.2.2.1,s.2.2.2.1,s.2.2.2.2.1,s.2.2.2.2.2.1,s.2.2.2.2.2.2.1,s.2.2.2.2.2.2.2.1,s.2.2.2.2.2.2.2.2.1,s.2.2.2.2.2.2.2.2.2.1,s.2.2.2.2.2.2.2.2.2.2.1,s.2.2.2.2.2.2.2.2.2.2.2.1,s.2.2.2.2.2.2.2.2.2.2.2.2.1,s.2.2.2.2.2.2.2.2.2.2.2.2.2.1,s.2.2.2.2.2.2.2.2.2.2.2.2.2.2.1,s.2.2.2.2.2.2.2.2.2.2.2.2.2.2.2.1,s.2.2.2.2.2.2.2.2.2.2.2.2.2.2.2.2.1,s.2.2.2.2.2.2.2.2.2.2.2.2.2.2.2.2.2.1,s.2.2.2.2.2.2.2.2.2.2.2.2.2.2.2.2.2.2.1,s.2.2.2.2.2.2.2.2.2.2.2.2.2.2.2.2.2.2.2.1,s.2.2.2.2.2.2.2.2.2.2.2.2.2.2.2.2.2.2.2.2.1,r8.slots.uses,r8.slots.used,r8.slots.free,r8.heap,r8.where_,l6))
       else
        ((eB N) r8.slots).bind fun b9=>
        bif !b9 then
         some (.done (aI.mk (0,0) (Field.mk []) (aO.mk 0 []) (aF.mk (aL.mk [] [] []) [] []) [],18))
        else
         ((cV N) r8 a2.1 a0.1).bind fun a10=>
         (bE l6 [(a0.1,a10.2)]).bind fun l11=>
         some (.next (aA .i64 (s.1+1),s.2.1,s.2.2.1,s.2.2.2.1,s.2.2.2.2.1,s.2.2.2.2.2.1,s.2.2.2.2.2.2.1,s.2.2.2.2.2.2.2.1,s.2.2.2.2.2.2.2.2.1,s.2.2.2.2.2.2.2.2.2.1,s.2.2.2.2.2.2.2.2.2.2.1,s.2.2.2.2.2.2.2.2.2.2.2.1,s.2.2.2.2.2.2.2.2.2.2.2.2.1,s.2.2.2.2.2.2.2.2.2.2.2.2.2.1,s.2.2.2.2.2.2.2.2.2.2.2.2.2.2.1,s.2.2.2.2.2.2.2.2.2.2.2.2.2.2.2.1,s.2.2.2.2.2.2.2.2.2.2.2.2.2.2.2.2.1,s.2.2.2.2.2.2.2.2.2.2.2.2.2.2.2.2.2.1,s.2.2.2.2.2.2.2.2.2.2.2.2.2.2.2.2.2.2.1,s.2.2.2.2.2.2.2.2.2.2.2.2.2.2.2.2.2.2.2.1,s.2.2.2.2.2.2.2.2.2.2.2.2.2.2.2.2.2.2.2.2.1,a10.1.slots.uses,a10.1.slots.used,a10.1.slots.free,a10.1.heap,a10.1.where_,l11))
     else
      bif !a2.2 then
       some (.next (aA .i64 (s.1+1),s.2.1,s.2.2.1,s.2.2.2.1,s.2.2.2.2.1,s.2.2.2.2.2.1,s.2.2.2.2.2.2.1,s.2.2.2.2.2.2.2.1,s.2.2.2.2.2.2.2.2.1,s.2.2.2.2.2.2.2.2.2.1,s.2.2.2.2.2.2.2.2.2.2.1,s.2.2.2.2.2.2.2.2.2.2.2.1,s.2.2.2.2.2.2.2.2.2.2.2.2.1,s.2.2.2.2.2.2.2.2.2.2.2.2.2.1,s.2.2.2.2.2.2.2.2.2.2.2.2.2.2.1,s.2.2.2.2.2.2.2.2.2.2.2.2.2.2.2.1,s.2.2.2.2.2.2.2.2.2.2.2.2.2.2.2.2.1,s.2.2.2.2.2.2.2.2.2.2.2.2.2.2.2.2.2.1,s.2.2.2.2.2.2.2.2.2.2.2.2.2.2.2.2.2.2.1,s.2.2.2.2.2.2.2.2.2.2.2.2.2.2.2.2.2.2.2.1,s.2.2.2.2.2.2.2.2.2.2.2.2.2.2.2.2.2.2.2.2.1,r4.slots.uses,r4.slots.used,r4.slots.free,r4.heap,r4.where_,l6))
      else
       bif decide (0<=n1) then
        some (.next (aA .i64 (s.1+1),s.2.1,s.2.2.1,s.2.2.2.1,s.2.2.2.2.1,s.2.2.2.2.2.1,s.2.2.2.2.2.2.1,s.2.2.2.2.2.2.2.1,s.2.2.2.2.2.2.2.2.1,s.2.2.2.2.2.2.2.2.2.1,s.2.2.2.2.2.2.2.2.2.2.1,s.2.2.2.2.2.2.2.2.2.2.2.1,s.2.2.2.2.2.2.2.2.2.2.2.2.1,s.2.2.2.2.2.2.2.2.2.2.2.2.2.1,s.2.2.2.2.2.2.2.2.2.2.2.2.2.2.1,s.2.2.2.2.2.2.2.2.2.2.2.2.2.2.2.1,s.2.2.2.2.2.2.2.2.2.2.2.2.2.2.2.2.1,s.2.2.2.2.2.2.2.2.2.2.2.2.2.2.2.2.2.1,s.2.2.2.2.2.2.2.2.2.2.2.2.2.2.2.2.2.2.1,s.2.2.2.2.2.2.2.2.2.2.2.2.2.2.2.2.2.2.2.1,s.2.2.2.2.2.2.2.2.2.2.2.2.2.2.2.2.2.2.2.2.1,r4.slots.uses,r4.slots.used,r4.slots.free,r4.heap,r4.where_,l6))
       else
        ((eB N) r4.slots).bind fun b12=>
        bif !b12 then
         some (.done (aI.mk (0,0) (Field.mk []) (aO.mk 0 []) (aF.mk (aL.mk [] [] []) [] []) [],18))
        else
         ((cV N) r4 a2.1 a0.1).bind fun a13=>
         (bE l6 [(a0.1,a13.2)]).bind fun l14=>
         some (.next (aA .i64 (s.1+1),s.2.1,s.2.2.1,s.2.2.2.1,s.2.2.2.2.1,s.2.2.2.2.2.1,s.2.2.2.2.2.2.1,s.2.2.2.2.2.2.2.1,s.2.2.2.2.2.2.2.2.1,s.2.2.2.2.2.2.2.2.2.1,s.2.2.2.2.2.2.2.2.2.2.1,s.2.2.2.2.2.2.2.2.2.2.2.1,s.2.2.2.2.2.2.2.2.2.2.2.2.1,s.2.2.2.2.2.2.2.2.2.2.2.2.2.1,s.2.2.2.2.2.2.2.2.2.2.2.2.2.2.1,s.2.2.2.2.2.2.2.2.2.2.2.2.2.2.2.1,s.2.2.2.2.2.2.2.2.2.2.2.2.2.2.2.2.1,s.2.2.2.2.2.2.2.2.2.2.2.2.2.2.2.2.2.1,s.2.2.2.2.2.2.2.2.2.2.2.2.2.2.2.2.2.2.1,s.2.2.2.2.2.2.2.2.2.2.2.2.2.2.2.2.2.2.2.1,s.2.2.2.2.2.2.2.2.2.2.2.2.2.2.2.2.2.2.2.2.1,a13.1.slots.uses,a13.1.slots.used,a13.1.slots.free,a13.1.heap,a13.1.where_,l14))
    else
     bif !a2.2 then
      some (.next (aA .i64 (s.1+1),s.2.1,s.2.2.1,s.2.2.2.1,s.2.2.2.2.1,s.2.2.2.2.2.1,s.2.2.2.2.2.2.1,s.2.2.2.2.2.2.2.1,s.2.2.2.2.2.2.2.2.1,s.2.2.2.2.2.2.2.2.2.1,s.2.2.2.2.2.2.2.2.2.2.1,s.2.2.2.2.2.2.2.2.2.2.2.1,s.2.2.2.2.2.2.2.2.2.2.2.2.1,s.2.2.2.2.2.2.2.2.2.2.2.2.2.1,s.2.2.2.2.2.2.2.2.2.2.2.2.2.2.1,s.2.2.2.2.2.2.2.2.2.2.2.2.2.2.2.1,s.2.2.2.2.2.2.2.2.2.2.2.2.2.2.2.2.1,s.2.2.2.2.2.2.2.2.2.2.2.2.2.2.2.2.2.1,s.2.2.2.2.2.2.2.2.2.2.2.2.2.2.2.2.2.2.1,s.2.2.2.2.2.2.2.2.2.2.2.2.2.2.2.2.2.2.2.1,s.2.2.2.2.2.2.2.2.2.2.2.2.2.2.2.2.2.2.2.2.1,r4.slots.uses,r4.slots.used,r4.slots.free,r4.heap,r4.where_,l6))
     else
      bif decide (0<=n1) then
       some (.next (aA .i64 (s.1+1),s.2.1,s.2.2.1,s.2.2.2.1,s.2.2.2.2.1,s.2.2.2.2.2.1,s.2.2.2.2.2.2.1,s.2.2.2.2.2.2.2.1,s.2.2.2.2.2.2.2.2.1,s.2.2.2.2.2.2.2.2.2.1,s.2.2.2.2.2.2.2.2.2.2.1,s.2.2.2.2.2.2.2.2.2.2.2.1,s.2.2.2.2.2.2.2.2.2.2.2.2.1,s.2.2.2.2.2.2.2.2.2.2.2.2.2.1,s.2.2.2.2.2.2.2.2.2.2.2.2.2.2.1,s.2.2.2.2.2.2.2.2.2.2.2.2.2.2.2.1,s.2.2.2.2.2.2.2.2.2.2.2.2.2.2.2.2.1,s.2.2.2.2.2.2.2.2.2.2.2.2.2.2.2.2.2.1,s.2.2.2.2.2.2.2.2.2.2.2.2.2.2.2.2.2.2.1,s.2.2.2.2.2.2.2.2.2.2.2.2.2.2.2.2.2.2.2.1,s.2.2.2.2.2.2.2.2.2.2.2.2.2.2.2.2.2.2.2.2.1,r4.slots.uses,r4.slots.used,r4.slots.free,r4.heap,r4.where_,l6))
      else
       ((eB N) r4.slots).bind fun b15=>
       bif !b15 then
        some (.done (aI.mk (0,0) (Field.mk []) (aO.mk 0 []) (aF.mk (aL.mk [] [] []) [] []) [],18))
       else
        ((cV N) r4 a2.1 a0.1).bind fun a16=>
        (bE l6 [(a0.1,a16.2)]).bind fun l17=>
        some (.next (aA .i64 (s.1+1),s.2.1,s.2.2.1,s.2.2.2.1,s.2.2.2.2.1,s.2.2.2.2.2.1,s.2.2.2.2.2.2.1,s.2.2.2.2.2.2.2.1,s.2.2.2.2.2.2.2.2.1,s.2.2.2.2.2.2.2.2.2.1,s.2.2.2.2.2.2.2.2.2.2.1,s.2.2.2.2.2.2.2.2.2.2.2.1,s.2.2.2.2.2.2.2.2.2.2.2.2.1,s.2.2.2.2.2.2.2.2.2.2.2.2.2.1,s.2.2.2.2.2.2.2.2.2.2.2.2.2.2.1,s.2.2.2.2.2.2.2.2.2.2.2.2.2.2.2.1,s.2.2.2.2.2.2.2.2.2.2.2.2.2.2.2.2.1,s.2.2.2.2.2.2.2.2.2.2.2.2.2.2.2.2.2.1,s.2.2.2.2.2.2.2.2.2.2.2.2.2.2.2.2.2.2.1,s.2.2.2.2.2.2.2.2.2.2.2.2.2.2.2.2.2.2.2.1,s.2.2.2.2.2.2.2.2.2.2.2.2.2.2.2.2.2.2.2.2.1,a16.1.slots.uses,a16.1.slots.used,a16.1.slots.free,a16.1.heap,a16.1.where_,l17))
   else
    bif !a2.2 then
     bif decide (0<=n1) then
      (aK s.2.2.2.2.2.2.2.2.2.2.2.1 n1).bind fun a18=>
      ((hU N) (aF.mk (aL.mk s.2.2.2.2.2.2.2.2.2.2.2.2.2.2.2.2.2.2.2.2.2.1 s.2.2.2.2.2.2.2.2.2.2.2.2.2.2.2.2.2.2.2.2.2.2.1 s.2.2.2.2.2.2.2.2.2.2.2.2.2.2.2.2.2.2.2.2.2.2.2.1) s.2.2.2.2.2.2.2.2.2.2.2.2.2.2.2.2.2.2.2.2.2.2.2.2.1 s.2.2.2.2.2.2.2.2.2.2.2.2.2.2.2.2.2.2.2.2.2.2.2.2.2.1) a18.2).bind fun r19=>
      bif !a2.2 then
       some (.next (aA .i64 (s.1+1),s.2.1,s.2.2.1,s.2.2.2.1,s.2.2.2.2.1,s.2.2.2.2.2.1,s.2.2.2.2.2.2.1,s.2.2.2.2.2.2.2.1,s.2.2.2.2.2.2.2.2.1,s.2.2.2.2.2.2.2.2.2.1,s.2.2.2.2.2.2.2.2.2.2.1,s.2.2.2.2.2.2.2.2.2.2.2.1,s.2.2.2.2.2.2.2.2.2.2.2.2.1,s.2.2.2.2.2.2.2.2.2.2.2.2.2.1,s.2.2.2.2.2.2.2.2.2.2.2.2.2.2.1,s.2.2.2.2.2.2.2.2.2.2.2.2.2.2.2.1,s.2.2.2.2.2.2.2.2.2.2.2.2.2.2.2.2.1,s.2.2.2.2.2.2.2.2.2.2.2.2.2.2.2.2.2.1,s.2.2.2.2.2.2.2.2.2.2.2.2.2.2.2.2.2.2.1,s.2.2.2.2.2.2.2.2.2.2.2.2.2.2.2.2.2.2.2.1,s.2.2.2.2.2.2.2.2.2.2.2.2.2.2.2.2.2.2.2.2.1,r19.slots.uses,r19.slots.used,r19.slots.free,r19.heap,r19.where_,s.2.2.2.2.2.2.2.2.2.2.2.2.2.2.2.2.2.2.2.2.2.2.2.2.2.2))
      else
       bif decide (0<=n1) then
        some (.next (aA .i64 (s.1+1),s.2.1,s.2.2.1,s.2.2.2.1,s.2.2.2.2.1,s.2.2.2.2.2.1,s.2.2.2.2.2.2.1,s.2.2.2.2.2.2.2.1,s.2.2.2.2.2.2.2.2.1,s.2.2.2.2.2.2.2.2.2.1,s.2.2.2.2.2.2.2.2.2.2.1,s.2.2.2.2.2.2.2.2.2.2.2.1,s.2.2.2.2.2.2.2.2.2.2.2.2.1,s.2.2.2.2.2.2.2.2.2.2.2.2.2.1,s.2.2.2.2.2.2.2.2.2.2.2.2.2.2.1,s.2.2.2.2.2.2.2.2.2.2.2.2.2.2.2.1,s.2.2.2.2.2.2.2.2.2.2.2.2.2.2.2.2.1,s.2.2.2.2.2.2.2.2.2.2.2.2.2.2.2.2.2.1,s.2.2.2.2.2.2.2.2.2.2.2.2.2.2.2.2.2.2.1,s.2.2.2.2.2.2.2.2.2.2.2.2.2.2.2.2.2.2.2.1,s.2.2.2.2.2.2.2.2.2.2.2.2.2.2.2.2.2.2.2.2.1,r19.slots.uses,r19.slots.used,r19.slots.free,r19.heap,r19.where_,s.2.2.2.2.2.2.2.2.2.2.2.2.2.2.2.2.2.2.2.2.2.2.2.2.2.2))
       else
        ((eB N) r19.slots).bind fun b20=>
        bif !b20 then
         some (.done (aI.mk (0,0) (Field.mk []) (aO.mk 0 []) (aF.mk (aL.mk [] [] []) [] []) [],18))
        else
         ((cV N) r19 a2.1 a0.1).bind fun a21=>
         (bE s.2.2.2.2.2.2.2.2.2.2.2.2.2.2.2.2.2.2.2.2.2.2.2.2.2.2 [(a0.1,a21.2)]).bind fun l22=>
         some (.next (aA .i64 (s.1+1),s.2.1,s.2.2.1,s.2.2.2.1,s.2.2.2.2.1,s.2.2.2.2.2.1,s.2.2.2.2.2.2.1,s.2.2.2.2.2.2.2.1,s.2.2.2.2.2.2.2.2.1,s.2.2.2.2.2.2.2.2.2.1,s.2.2.2.2.2.2.2.2.2.2.1,s.2.2.2.2.2.2.2.2.2.2.2.1,s.2.2.2.2.2.2.2.2.2.2.2.2.1,s.2.2.2.2.2.2.2.2.2.2.2.2.2.1,s.2.2.2.2.2.2.2.2.2.2.2.2.2.2.1,s.2.2.2.2.2.2.2.2.2.2.2.2.2.2.2.1,s.2.2.2.2.2.2.2.2.2.2.2.2.2.2.2.2.1,s.2.2.2.2.2.2.2.2.2.2.2.2.2.2.2.2.2.1,s.2.2.2.2.2.2.2.2.2.2.2.2.2.2.2.2.2.2.1,s.2.2.2.2.2.2.2.2.2.2.2.2.2.2.2.2.2.2.2.1,s.2.2.2.2.2.2.2.2.2.2.2.2.2.2.2.2.2.2.2.2.1,a21.1.slots.uses,a21.1.slots.used,a21.1.slots.free,a21.1.heap,a21.1.where_,l22))
     else
      bif !a2.2 then
       some (.next (aA .i64 (s.1+1),s.2))
      else
       bif decide (0<=n1) then
        some (.next (aA .i64 (s.1+1),s.2))
       else
        ((eB N) (aL.mk s.2.2.2.2.2.2.2.2.2.2.2.2.2.2.2.2.2.2.2.2.2.1 s.2.2.2.2.2.2.2.2.2.2.2.2.2.2.2.2.2.2.2.2.2.2.1 s.2.2.2.2.2.2.2.2.2.2.2.2.2.2.2.2.2.2.2.2.2.2.2.1)).bind fun b23=>
        bif !b23 then
         some (.done (aI.mk (0,0) (Field.mk []) (aO.mk 0 []) (aF.mk (aL.mk [] [] []) [] []) [],18))
        else
         ((cV N) (aF.mk (aL.mk s.2.2.2.2.2.2.2.2.2.2.2.2.2.2.2.2.2.2.2.2.2.1 s.2.2.2.2.2.2.2.2.2.2.2.2.2.2.2.2.2.2.2.2.2.2.1 s.2.2.2.2.2.2.2.2.2.2.2.2.2.2.2.2.2.2.2.2.2.2.2.1) s.2.2.2.2.2.2.2.2.2.2.2.2.2.2.2.2.2.2.2.2.2.2.2.2.1 s.2.2.2.2.2.2.2.2.2.2.2.2.2.2.2.2.2.2.2.2.2.2.2.2.2.1) a2.1 a0.1).bind fun a24=>
         (bE s.2.2.2.2.2.2.2.2.2.2.2.2.2.2.2.2.2.2.2.2.2.2.2.2.2.2 [(a0.1,a24.2)]).bind fun l25=>
         some (.next (aA .i64 (s.1+1),s.2.1,s.2.2.1,s.2.2.2.1,s.2.2.2.2.1,s.2.2.2.2.2.1,s.2.2.2.2.2.2.1,s.2.2.2.2.2.2.2.1,s.2.2.2.2.2.2.2.2.1,s.2.2.2.2.2.2.2.2.2.1,s.2.2.2.2.2.2.2.2.2.2.1,s.2.2.2.2.2.2.2.2.2.2.2.1,s.2.2.2.2.2.2.2.2.2.2.2.2.1,s.2.2.2.2.2.2.2.2.2.2.2.2.2.1,s.2.2.2.2.2.2.2.2.2.2.2.2.2.2.1,s.2.2.2.2.2.2.2.2.2.2.2.2.2.2.2.1,s.2.2.2.2.2.2.2.2.2.2.2.2.2.2.2.2.1,s.2.2.2.2.2.2.2.2.2.2.2.2.2.2.2.2.2.1,s.2.2.2.2.2.2.2.2.2.2.2.2.2.2.2.2.2.2.1,s.2.2.2.2.2.2.2.2.2.2.2.2.2.2.2.2.2.2.2.1,s.2.2.2.2.2.2.2.2.2.2.2.2.2.2.2.2.2.2.2.2.1,a24.1.slots.uses,a24.1.slots.used,a24.1.slots.free,a24.1.heap,a24.1.where_,l25))
    else
     bif !a2.2 then
      some (.next (aA .i64 (s.1+1),s.2))
     else
      bif decide (0<=n1) then
       some (.next (aA .i64 (s.1+1),s.2))
      else
       ((eB N) (aL.mk s.2.2.2.2.2.2.2.2.2.2.2.2.2.2.2.2.2.2.2.2.2.1 s.2.2.2.2.2.2.2.2.2.2.2.2.2.2.2.2.2.2.2.2.2.2.1 s.2.2.2.2.2.2.2.2.2.2.2.2.2.2.2.2.2.2.2.2.2.2.2.1)).bind fun b26=>
       bif !b26 then
        some (.done (aI.mk (0,0) (Field.mk []) (aO.mk 0 []) (aF.mk (aL.mk [] [] []) [] []) [],18))
       else
        ((cV N) (aF.mk (aL.mk s.2.2.2.2.2.2.2.2.2.2.2.2.2.2.2.2.2.2.2.2.2.1 s.2.2.2.2.2.2.2.2.2.2.2.2.2.2.2.2.2.2.2.2.2.2.1 s.2.2.2.2.2.2.2.2.2.2.2.2.2.2.2.2.2.2.2.2.2.2.2.1) s.2.2.2.2.2.2.2.2.2.2.2.2.2.2.2.2.2.2.2.2.2.2.2.2.1 s.2.2.2.2.2.2.2.2.2.2.2.2.2.2.2.2.2.2.2.2.2.2.2.2.2.1) a2.1 a0.1).bind fun a27=>
        (bE s.2.2.2.2.2.2.2.2.2.2.2.2.2.2.2.2.2.2.2.2.2.2.2.2.2.2 [(a0.1,a27.2)]).bind fun l28=>
        some (.next (aA .i64 (s.1+1),s.2.1,s.2.2.1,s.2.2.2.1,s.2.2.2.2.1,s.2.2.2.2.2.1,s.2.2.2.2.2.2.1,s.2.2.2.2.2.2.2.1,s.2.2.2.2.2.2.2.2.1,s.2.2.2.2.2.2.2.2.2.1,s.2.2.2.2.2.2.2.2.2.2.1,s.2.2.2.2.2.2.2.2.2.2.2.1,s.2.2.2.2.2.2.2.2.2.2.2.2.1,s.2.2.2.2.2.2.2.2.2.2.2.2.2.1,s.2.2.2.2.2.2.2.2.2.2.2.2.2.2.1,s.2.2.2.2.2.2.2.2.2.2.2.2.2.2.2.1,s.2.2.2.2.2.2.2.2.2.2.2.2.2.2.2.2.1,s.2.2.2.2.2.2.2.2.2.2.2.2.2.2.2.2.2.1,s.2.2.2.2.2.2.2.2.2.2.2.2.2.2.2.2.2.2.1,s.2.2.2.2.2.2.2.2.2.2.2.2.2.2.2.2.2.2.2.1,s.2.2.2.2.2.2.2.2.2.2.2.2.2.2.2.2.2.2.2.2.1,a27.1.slots.uses,a27.1.slots.used,a27.1.slots.free,a27.1.heap,a27.1.where_,l28))
  else
   bif !a2.2 then
    bif decide (0<=n1) then
     (aK s.2.2.2.2.2.2.2.2.2.2.2.1 n1).bind fun a29=>
     ((hU N) (aF.mk (aL.mk s.2.2.2.2.2.2.2.2.2.2.2.2.2.2.2.2.2.2.2.2.2.1 s.2.2.2.2.2.2.2.2.2.2.2.2.2.2.2.2.2.2.2.2.2.2.1 s.2.2.2.2.2.2.2.2.2.2.2.2.2.2.2.2.2.2.2.2.2.2.2.1) s.2.2.2.2.2.2.2.2.2.2.2.2.2.2.2.2.2.2.2.2.2.2.2.2.1 s.2.2.2.2.2.2.2.2.2.2.2.2.2.2.2.2.2.2.2.2.2.2.2.2.2.1) a29.2).bind fun r30=>
     bif !a2.2 then
      some (.next (aA .i64 (s.1+1),s.2.1,s.2.2.1,s.2.2.2.1,s.2.2.2.2.1,s.2.2.2.2.2.1,s.2.2.2.2.2.2.1,s.2.2.2.2.2.2.2.1,s.2.2.2.2.2.2.2.2.1,s.2.2.2.2.2.2.2.2.2.1,s.2.2.2.2.2.2.2.2.2.2.1,s.2.2.2.2.2.2.2.2.2.2.2.1,s.2.2.2.2.2.2.2.2.2.2.2.2.1,s.2.2.2.2.2.2.2.2.2.2.2.2.2.1,s.2.2.2.2.2.2.2.2.2.2.2.2.2.2.1,s.2.2.2.2.2.2.2.2.2.2.2.2.2.2.2.1,s.2.2.2.2.2.2.2.2.2.2.2.2.2.2.2.2.1,s.2.2.2.2.2.2.2.2.2.2.2.2.2.2.2.2.2.1,s.2.2.2.2.2.2.2.2.2.2.2.2.2.2.2.2.2.2.1,s.2.2.2.2.2.2.2.2.2.2.2.2.2.2.2.2.2.2.2.1,s.2.2.2.2.2.2.2.2.2.2.2.2.2.2.2.2.2.2.2.2.1,r30.slots.uses,r30.slots.used,r30.slots.free,r30.heap,r30.where_,s.2.2.2.2.2.2.2.2.2.2.2.2.2.2.2.2.2.2.2.2.2.2.2.2.2.2))
     else
      bif decide (0<=n1) then
       some (.next (aA .i64 (s.1+1),s.2.1,s.2.2.1,s.2.2.2.1,s.2.2.2.2.1,s.2.2.2.2.2.1,s.2.2.2.2.2.2.1,s.2.2.2.2.2.2.2.1,s.2.2.2.2.2.2.2.2.1,s.2.2.2.2.2.2.2.2.2.1,s.2.2.2.2.2.2.2.2.2.2.1,s.2.2.2.2.2.2.2.2.2.2.2.1,s.2.2.2.2.2.2.2.2.2.2.2.2.1,s.2.2.2.2.2.2.2.2.2.2.2.2.2.1,s.2.2.2.2.2.2.2.2.2.2.2.2.2.2.1,s.2.2.2.2.2.2.2.2.2.2.2.2.2.2.2.1,s.2.2.2.2.2.2.2.2.2.2.2.2.2.2.2.2.1,s.2.2.2.2.2.2.2.2.2.2.2.2.2.2.2.2.2.1,s.2.2.2.2.2.2.2.2.2.2.2.2.2.2.2.2.2.2.1,s.2.2.2.2.2.2.2.2.2.2.2.2.2.2.2.2.2.2.2.1,s.2.2.2.2.2.2.2.2.2.2.2.2.2.2.2.2.2.2.2.2.1,r30.slots.uses,r30.slots.used,r30.slots.free,r30.heap,r30.where_,s.2.2.2.2.2.2.2.2.2.2.2.2.2.2.2.2.2.2.2.2.2.2.2.2.2.2))
      else
       ((eB N) r30.slots).bind fun b31=>
       bif !b31 then
        some (.done (aI.mk (0,0) (Field.mk []) (aO.mk 0 []) (aF.mk (aL.mk [] [] []) [] []) [],18))
       else
        ((cV N) r30 a2.1 a0.1).bind fun a32=>
        (bE s.2.2.2.2.2.2.2.2.2.2.2.2.2.2.2.2.2.2.2.2.2.2.2.2.2.2 [(a0.1,a32.2)]).bind fun l33=>
        some (.next (aA .i64 (s.1+1),s.2.1,s.2.2.1,s.2.2.2.1,s.2.2.2.2.1,s.2.2.2.2.2.1,s.2.2.2.2.2.2.1,s.2.2.2.2.2.2.2.1,s.2.2.2.2.2.2.2.2.1,s.2.2.2.2.2.2.2.2.2.1,s.2.2.2.2.2.2.2.2.2.2.1,s.2.2.2.2.2.2.2.2.2.2.2.1,s.2.2.2.2.2.2.2.2.2.2.2.2.1,s.2.2.2.2.2.2.2.2.2.2.2.2.2.1,s.2.2.2.2.2.2.2.2.2.2.2.2.2.2.1,s.2.2.2.2.2.2.2.2.2.2.2.2.2.2.2.1,s.2.2.2.2.2.2.2.2.2.2.2.2.2.2.2.2.1,s.2.2.2.2.2.2.2.2.2.2.2.2.2.2.2.2.2.1,s.2.2.2.2.2.2.2.2.2.2.2.2.2.2.2.2.2.2.1,s.2.2.2.2.2.2.2.2.2.2.2.2.2.2.2.2.2.2.2.1,s.2.2.2.2.2.2.2.2.2.2.2.2.2.2.2.2.2.2.2.2.1,a32.1.slots.uses,a32.1.slots.used,a32.1.slots.free,a32.1.heap,a32.1.where_,l33))
    else
     bif !a2.2 then
      some (.next (aA .i64 (s.1+1),s.2))
     else
      bif decide (0<=n1) then
       some (.next (aA .i64 (s.1+1),s.2))
      else
       ((eB N) (aL.mk s.2.2.2.2.2.2.2.2.2.2.2.2.2.2.2.2.2.2.2.2.2.1 s.2.2.2.2.2.2.2.2.2.2.2.2.2.2.2.2.2.2.2.2.2.2.1 s.2.2.2.2.2.2.2.2.2.2.2.2.2.2.2.2.2.2.2.2.2.2.2.1)).bind fun b34=>
       bif !b34 then
        some (.done (aI.mk (0,0) (Field.mk []) (aO.mk 0 []) (aF.mk (aL.mk [] [] []) [] []) [],18))
       else
        ((cV N) (aF.mk (aL.mk s.2.2.2.2.2.2.2.2.2.2.2.2.2.2.2.2.2.2.2.2.2.1 s.2.2.2.2.2.2.2.2.2.2.2.2.2.2.2.2.2.2.2.2.2.2.1 s.2.2.2.2.2.2.2.2.2.2.2.2.2.2.2.2.2.2.2.2.2.2.2.1) s.2.2.2.2.2.2.2.2.2.2.2.2.2.2.2.2.2.2.2.2.2.2.2.2.1 s.2.2.2.2.2.2.2.2.2.2.2.2.2.2.2.2.2.2.2.2.2.2.2.2.2.1) a2.1 a0.1).bind fun a35=>
        (bE s.2.2.2.2.2.2.2.2.2.2.2.2.2.2.2.2.2.2.2.2.2.2.2.2.2.2 [(a0.1,a35.2)]).bind fun l36=>
        some (.next (aA .i64 (s.1+1),s.2.1,s.2.2.1,s.2.2.2.1,s.2.2.2.2.1,s.2.2.2.2.2.1,s.2.2.2.2.2.2.1,s.2.2.2.2.2.2.2.1,s.2.2.2.2.2.2.2.2.1,s.2.2.2.2.2.2.2.2.2.1,s.2.2.2.2.2.2.2.2.2.2.1,s.2.2.2.2.2.2.2.2.2.2.2.1,s.2.2.2.2.2.2.2.2.2.2.2.2.1,s.2.2.2.2.2.2.2.2.2.2.2.2.2.1,s.2.2.2.2.2.2.2.2.2.2.2.2.2.2.1,s.2.2.2.2.2.2.2.2.2.2.2.2.2.2.2.1,s.2.2.2.2.2.2.2.2.2.2.2.2.2.2.2.2.1,s.2.2.2.2.2.2.2.2.2.2.2.2.2.2.2.2.2.1,s.2.2.2.2.2.2.2.2.2.2.2.2.2.2.2.2.2.2.1,s.2.2.2.2.2.2.2.2.2.2.2.2.2.2.2.2.2.2.2.1,s.2.2.2.2.2.2.2.2.2.2.2.2.2.2.2.2.2.2.2.2.1,a35.1.slots.uses,a35.1.slots.used,a35.1.slots.free,a35.1.heap,a35.1.where_,l36))
   else
    bif !a2.2 then
     some (.next (aA .i64 (s.1+1),s.2))
    else
     bif decide (0<=n1) then
      some (.next (aA .i64 (s.1+1),s.2))
     else
      ((eB N) (aL.mk s.2.2.2.2.2.2.2.2.2.2.2.2.2.2.2.2.2.2.2.2.2.1 s.2.2.2.2.2.2.2.2.2.2.2.2.2.2.2.2.2.2.2.2.2.2.1 s.2.2.2.2.2.2.2.2.2.2.2.2.2.2.2.2.2.2.2.2.2.2.2.1)).bind fun b37=>
      bif !b37 then
       some (.done (aI.mk (0,0) (Field.mk []) (aO.mk 0 []) (aF.mk (aL.mk [] [] []) [] []) [],18))
      else
       ((cV N) (aF.mk (aL.mk s.2.2.2.2.2.2.2.2.2.2.2.2.2.2.2.2.2.2.2.2.2.1 s.2.2.2.2.2.2.2.2.2.2.2.2.2.2.2.2.2.2.2.2.2.2.1 s.2.2.2.2.2.2.2.2.2.2.2.2.2.2.2.2.2.2.2.2.2.2.2.1) s.2.2.2.2.2.2.2.2.2.2.2.2.2.2.2.2.2.2.2.2.2.2.2.2.1 s.2.2.2.2.2.2.2.2.2.2.2.2.2.2.2.2.2.2.2.2.2.2.2.2.2.1) a2.1 a0.1).bind fun a38=>
       (bE s.2.2.2.2.2.2.2.2.2.2.2.2.2.2.2.2.2.2.2.2.2.2.2.2.2.2 [(a0.1,a38.2)]).bind fun l39=>
       some (.next (aA .i64 (s.1+1),s.2.1,s.2.2.1,s.2.2.2.1,s.2.2.2.2.1,s.2.2.2.2.2.1,s.2.2.2.2.2.2.1,s.2.2.2.2.2.2.2.1,s.2.2.2.2.2.2.2.2.1,s.2.2.2.2.2.2.2.2.2.1,s.2.2.2.2.2.2.2.2.2.2.1,s.2.2.2.2.2.2.2.2.2.2.2.1,s.2.2.2.2.2.2.2.2.2.2.2.2.1,s.2.2.2.2.2.2.2.2.2.2.2.2.2.1,s.2.2.2.2.2.2.2.2.2.2.2.2.2.2.1,s.2.2.2.2.2.2.2.2.2.2.2.2.2.2.2.1,s.2.2.2.2.2.2.2.2.2.2.2.2.2.2.2.2.1,s.2.2.2.2.2.2.2.2.2.2.2.2.2.2.2.2.2.1,s.2.2.2.2.2.2.2.2.2.2.2.2.2.2.2.2.2.2.1,s.2.2.2.2.2.2.2.2.2.2.2.2.2.2.2.2.2.2.2.1,s.2.2.2.2.2.2.2.2.2.2.2.2.2.2.2.2.2.2.2.2.1,a38.1.slots.uses,a38.1.slots.used,a38.1.slots.free,a38.1.heap,a38.1.where_,l39))
 else
  some (.done (aI.mk (s.2.2.2.2.2.2.2.2.2.2.2.2.2.2.2.2.1,s.2.2.2.2.2.2.2.2.2.2.2.2.2.2.2.2.2.1) (Field.mk s.2.2.2.2.2.2.2.2.2.2.2.2.2.2.2.2.2.2.1) (aO.mk s.2.2.2.2.2.2.2.2.2.2.2.2.2.2.2.2.2.2.2.1 s.2.2.2.2.2.2.2.2.2.2.2.2.2.2.2.2.2.2.2.2.1) (aF.mk (aL.mk s.2.2.2.2.2.2.2.2.2.2.2.2.2.2.2.2.2.2.2.2.2.1 s.2.2.2.2.2.2.2.2.2.2.2.2.2.2.2.2.2.2.2.2.2.2.1 s.2.2.2.2.2.2.2.2.2.2.2.2.2.2.2.2.2.2.2.2.2.2.2.1) s.2.2.2.2.2.2.2.2.2.2.2.2.2.2.2.2.2.2.2.2.2.2.2.2.1 s.2.2.2.2.2.2.2.2.2.2.2.2.2.2.2.2.2.2.2.2.2.2.2.2.2.1) s.2.2.2.2.2.2.2.2.2.2.2.2.2.2.2.2.2.2.2.2.2.2.2.2.2.2,0))
def tR (N:Nat) (p0:aI) (p1:Field):Option (aI×Int):=
 ((iE N) p0).bind fun r0=>
 ((lT N) p1).bind fun r1=>
 (aT N) (yO N) (0,p0.now.1,p0.now.2,p0.field.points,p0.certs.next_,p0.certs.list,p0.agenda.slots.uses,p0.agenda.slots.used,p0.agenda.slots.free,p0.agenda.heap,p0.agenda.where_,p0.due,p1.points,0,0,0,r0.now.1,r0.now.2,r1.points,r0.certs.next_,r0.certs.list,r0.agenda.slots.uses,r0.agenda.slots.used,r0.agenda.slots.free,r0.agenda.heap,r0.agenda.where_,[])
def aHs (N:Nat):aU:=⟨aC.cons (aE.agg aX) (aC.one (aE.agg aW)),aE.tup (aC.cons (aE.agg aX) (aC.one (aE.int .i64))),fun a=>(tR N) a.1 a.2,.frz,false⟩
theorem aAD (N:Nat):aB tab 161 (aHs N):=aB.of X7 (cx:=(aN (aH N) [(46,(c46 N)),(46,(KR N)),(103,(QT N)),(103,(IK N)),(48,(c48 N)),(200,(aF5 N)),(218,(aHq N)),(49,(c49 N)),(219,(aF6 N)),(220,(aF7 N))] [] [] [])) rfl (aM.make ⟨(yL N),(sK N),(AO N),(wP N),(Q0 N),(MI N),(aAB N),(Q1 N),(MJ N),(MK N),trivial⟩ trivial trivial) (fun a=>by kernel_rfl)
def F8 (_:Nat) (s:(Int×Int×(List (Int×Int×Int))×Int×Int)):Option (bB (Int×Int×(List (Int×Int×Int))×Int×Int) Bool):=
 bif decide (s.1<(aa s.2.2.1.length)) then
  (aK s.2.2.1 s.1).bind fun a0=>
  bif (a0.2.1==s.2.2.2.1)&&(a0.2.2==s.2.2.2.2) then
   some (.done true)
  else
   some (.next (aA .i64 (s.1+1),s.2))
 else
  some (.done false)
def yP (N:Nat) (p0:aO) (p1:Int×Int):Option Bool:=
 (aT N) (F8 N) (0,p0.next_,p0.list,p1)
def aF8 (N:Nat):aU:=⟨aC.cons (aE.agg eP) (aC.one (aE.agg (bG.row eF))),aE.bool,fun a=>(yP N) a.1 a.2,.pure,false⟩
theorem ML (N:Nat):aB tab 162 (aF8 N):=aB.of X8 (cx:=(aN (aH N) [] [] [] [])) rfl (aM.make trivial trivial trivial) (fun a=>by kernel_rfl)
def vB (_:Nat) (p0:Int×Int):Option Bool:=
 bif decide (0<=p0.1) then
  bif decide (p0.1<=65535) then
   bif decide (0<=p0.2) then
    bif decide (p0.2<=65535) then
     some (p0.1 !=p0.2)
    else
     some false
   else
    some false
  else
   some false
 else
  some false
def c96 (N:Nat):aU:=⟨aC.one (aE.agg (bG.row eF)),aE.bool,fun a=>(vB N) a,.pure,false⟩
theorem Q6 (N:Nat):aB tab 96 (c96 N):=aB.of aFV (cx:=(aN (aH N) [] [] [] [])) rfl (aM.make trivial trivial trivial) (fun a=>by kernel_rfl)
def rL (_:Nat) (s:(Int×Int×Int×(List (Int×Int×Int))×Int×Int×Int)):Option (bB (Int×Int×Int×(List (Int×Int×Int))×Int×Int×Int) (bB (Int×Int×(List (Int×Int×Int))) Int)):=
 bif decide (s.2.1<s.1) then
  (aK s.2.2.2.1 s.2.1).bind fun a0=>
  bif (a0.2.1==s.2.2.2.2.2.1)&&(a0.2.2==s.2.2.2.2.2.2) then
   some (.done (.done 8))
  else
   some (.next (s.1,aA .i64 (s.2.1+1),s.2.2))
 else
  some (.done (.next (aA .i64 (s.1+1),s.2.2.1,s.2.2.2.1)))
def CU (N:Nat) (s:(Int×Int×(List (Int×Int×Int)))):Option (bB (Int×Int×(List (Int×Int×Int))) Int):=
 bif decide (s.1<(aa s.2.2.length)) then
  (aK s.2.2 s.1).bind fun a0=>
  ((vB N) a0.2).bind fun b1=>
  bif !b1 then
   some (.done 8)
  else
   bif decide (a0.1<0) then
    some (.done 8)
   else
    bif decide (s.2.1<=a0.1) then
     some (.done 8)
    else
     bif decide (0<s.1) then
      (aK s.2.2 (aA .i64 (s.1-1))).bind fun a2=>
      bif decide (a0.1<=a2.1) then
       some (.done 8)
      else
       (aT N) (rL N) (s.1,0,s.2.1,s.2.2,a0)
     else
      (aT N) (rL N) (s.1,0,s.2.1,s.2.2,a0)
 else
  some (.done 0)
def zN (N:Nat) (p0:aO):Option Int:=
 bif decide (200<(aa p0.list.length)) then
  some 8
 else
  bif decide (p0.next_<0) then
   some 8
  else
   bif decide (1000000<p0.next_) then
    some 8
   else
    (aT N) (CU N) (0,p0.next_,p0.list)
def aHt (N:Nat):aU:=⟨aC.one (aE.agg eP),aE.int .i64,fun a=>(zN N) a,.pure,false⟩
theorem aAE (N:Nat):aB tab 197 (aHt N):=aB.of Y0 (cx:=(aN (aH N) [(96,(c96 N))] [] [] [])) rfl (aM.make ⟨(Q6 N),trivial⟩ trivial trivial) (fun a=>by kernel_rfl)
def EW (N:Nat) (p0:aO) (p1:Int×Int):Option (aO×Int×Int):=
 ((zN N) p0).bind fun n0=>
 bif n0 !=0 then
  some (aO.mk 0 [],0,8)
 else
  ((vB N) p1).bind fun b1=>
  bif !b1 then
   some (aO.mk 0 [],0,8)
  else
   ((yP N) p0 p1).bind fun b2=>
   bif b2 then
    some (aO.mk 0 [],0,14)
   else
    bif (aa p0.list.length)==200 then
     some (aO.mk 0 [],0,18)
    else
     bif p0.next_==1000000 then
      some (aO.mk 0 [],0,18)
     else
      ((oY N) p0).bind fun r3=>
      (bE r3.list [(p0.next_,p1)]).bind fun l4=>
      some (aO.mk (aA .i64 (r3.next_+1)) l4,p0.next_,0)
def aHu (N:Nat):aU:=⟨aC.cons (aE.agg eP) (aC.one (aE.agg (bG.row eF))),aE.tup (aC.cons (aE.agg eP) (aC.cons (aE.int .i64) (aC.one (aE.int .i64)))),fun a=>(EW N) a.1 a.2,.frz,false⟩
theorem aAF (N:Nat):aB tab 221 (aHu N):=aB.of ZB (cx:=(aN (aH N) [(197,(aHt N)),(96,(c96 N)),(162,(aF8 N)),(105,(aAu N)),(105,(MH N))] [] [] [])) rfl (aM.make ⟨(aAE N),(Q6 N),(ML N),(F6 N),(CQ N),trivial⟩ trivial trivial) (fun a=>by kernel_rfl)
def zO (N:Nat) (p0:aI) (p1:Int×Int):Option (aI×Int×Int):=
 ((EW N) p0.certs p1).bind fun a0=>
 bif a0.2.2 !=0 then
  some (aI.mk (0,0) (Field.mk []) (aO.mk 0 []) (aF.mk (aL.mk [] [] []) [] []) [],0,a0.2.2)
 else
  ((iE N) p0).bind fun r1=>
  ((vA N) p0.field p1 p0.now).bind fun a2=>
  bif !a2.2 then
   some (aI.mk r1.now r1.field a0.1 r1.agenda r1.due,a0.2.1,0)
  else
   ((eB N) p0.agenda.slots).bind fun b3=>
   bif !b3 then
    some (aI.mk (0,0) (Field.mk []) (aO.mk 0 []) (aF.mk (aL.mk [] [] []) [] []) [],0,18)
   else
    ((cV N) p0.agenda a2.1 a0.2.1).bind fun a4=>
    (bE r1.due [(a0.2.1,a4.2)]).bind fun l5=>
    some (aI.mk r1.now r1.field a0.1 a4.1 l5,a0.2.1,0)
def aHv (N:Nat):aU:=⟨aC.cons (aE.agg aX) (aC.one (aE.agg (bG.row eF))),aE.tup (aC.cons (aE.agg aX) (aC.cons (aE.int .i64) (aC.one (aE.int .i64)))),fun a=>(zO N) a.1 a.2,.frz,false⟩
theorem aAG (N:Nat):aB tab 163 (aHv N):=aB.of X9 (cx:=(aN (aH N) [(221,(aHu N)),(46,(c46 N)),(46,(KR N)),(200,(aF5 N)),(219,(aF6 N)),(220,(aF7 N))] [] [] [])) rfl (aM.make ⟨(aAF N),(yL N),(sK N),(MI N),(MJ N),(MK N),trivial⟩ trivial trivial) (fun a=>by kernel_rfl)
def nV (N:Nat) (s:((List (Int×Int))×Int×Int×Int×Int×Int×Int×(List (Int×Int×Int))×Int×(List (Int×Int×Int))×(List Int)×(List Bool)×(List Int)×(List (Int×Int×Int×Int×Int))×(List Int)×(List (Int×Int×Int)))):Option (bB ((List (Int×Int))×Int×Int×Int×Int×Int×Int×(List (Int×Int×Int))×Int×(List (Int×Int×Int))×(List Int)×(List Bool)×(List Int)×(List (Int×Int×Int×Int×Int))×(List Int)×(List (Int×Int×Int))) (bB ((List (Int×Int))×Int×Int×Int×(List (Int×Int×Int))×Int×(List (Int×Int×Int))×(List Int)×(List Bool)×(List Int)×(List (Int×Int×Int×Int×Int))×(List Int)×(List (Int×Int×Int))×(List (Int×Int×Int))×Int×Int×Int×Int×Int×(List (Int×Int×Int))×Int×(List (Int×Int×Int))×(List Int)×(List Bool)×(List Int)×(List (Int×Int×Int×Int×Int))×(List Int)×(List (Int×Int×Int))) (aI×Int))):=
 bif decide (s.2.1<(aa s.1.length)) then
  (aK s.1 s.2.1).bind fun a0=>
  ((yP N) (aO.mk s.2.2.2.2.2.2.2.2.1 s.2.2.2.2.2.2.2.2.2.1) a0).bind fun b1=>
  bif b1 then
   some (.next (s.1,aA .i64 (s.2.1+1),s.2.2))
  else
   (aK s.1 s.2.1).bind fun a2=>
   ((zO N) (aI.mk (s.2.2.2.2.2.1,s.2.2.2.2.2.2.1) (Field.mk s.2.2.2.2.2.2.2.1) (aO.mk s.2.2.2.2.2.2.2.2.1 s.2.2.2.2.2.2.2.2.2.1) (aF.mk (aL.mk s.2.2.2.2.2.2.2.2.2.2.1 s.2.2.2.2.2.2.2.2.2.2.2.1 s.2.2.2.2.2.2.2.2.2.2.2.2.1) s.2.2.2.2.2.2.2.2.2.2.2.2.2.1 s.2.2.2.2.2.2.2.2.2.2.2.2.2.2.1) s.2.2.2.2.2.2.2.2.2.2.2.2.2.2.2) a2).bind fun a3=>
   bif a3.2.2 !=0 then
    some (.done (.done (aI.mk (0,0) (Field.mk []) (aO.mk 0 []) (aF.mk (aL.mk [] [] []) [] []) [],a3.2.2)))
   else
    some (.next (s.1,aA .i64 (s.2.1+1),s.2.2.1,s.2.2.2.1,s.2.2.2.2.1,a3.1.now.1,a3.1.now.2,a3.1.field.points,a3.1.certs.next_,a3.1.certs.list,a3.1.agenda.slots.uses,a3.1.agenda.slots.used,a3.1.agenda.slots.free,a3.1.agenda.heap,a3.1.agenda.where_,a3.1.due))
 else
  some (.done (.done (aI.mk (s.2.2.2.2.2.1,s.2.2.2.2.2.2.1) (Field.mk s.2.2.2.2.2.2.2.1) (aO.mk s.2.2.2.2.2.2.2.2.1 s.2.2.2.2.2.2.2.2.2.1) (aF.mk (aL.mk s.2.2.2.2.2.2.2.2.2.2.1 s.2.2.2.2.2.2.2.2.2.2.2.1 s.2.2.2.2.2.2.2.2.2.2.2.2.1) s.2.2.2.2.2.2.2.2.2.2.2.2.2.1 s.2.2.2.2.2.2.2.2.2.2.2.2.2.2.1) s.2.2.2.2.2.2.2.2.2.2.2.2.2.2.2,0)))
def yQ (N:Nat) (s:((List (Int×Int))×Int×Int×Int×(List (Int×Int×Int))×Int×(List (Int×Int×Int))×(List Int)×(List Bool)×(List Int)×(List (Int×Int×Int×Int×Int))×(List Int)×(List (Int×Int×Int))×(List (Int×Int×Int))×Int×Int×Int×Int×Int×(List (Int×Int×Int))×Int×(List (Int×Int×Int))×(List Int)×(List Bool)×(List Int)×(List (Int×Int×Int×Int×Int))×(List Int)×(List (Int×Int×Int)))):Option (bB ((List (Int×Int))×Int×Int×Int×(List (Int×Int×Int))×Int×(List (Int×Int×Int))×(List Int)×(List Bool)×(List Int)×(List (Int×Int×Int×Int×Int))×(List Int)×(List (Int×Int×Int))×(List (Int×Int×Int))×Int×Int×Int×Int×Int×(List (Int×Int×Int))×Int×(List (Int×Int×Int))×(List Int)×(List Bool)×(List Int)×(List (Int×Int×Int×Int×Int))×(List Int)×(List (Int×Int×Int))) (aI×Int)):=
 bif decide (s.2.1<(aa s.2.2.2.2.2.2.1.length)) then
  (aK s.2.2.2.2.2.2.1 s.2.1).bind fun a0=>
  ((IU N) s.1 a0.2).bind fun b1=>
  bif !b1 then
   (aK s.2.2.2.2.2.2.1 s.2.1).bind fun a2=>
   ((uY N) (aI.mk (s.2.2.2.2.2.2.2.2.2.2.2.2.2.2.2.2.2.1,s.2.2.2.2.2.2.2.2.2.2.2.2.2.2.2.2.2.2.1) (Field.mk s.2.2.2.2.2.2.2.2.2.2.2.2.2.2.2.2.2.2.2.1) (aO.mk s.2.2.2.2.2.2.2.2.2.2.2.2.2.2.2.2.2.2.2.2.1 s.2.2.2.2.2.2.2.2.2.2.2.2.2.2.2.2.2.2.2.2.2.1) (aF.mk (aL.mk s.2.2.2.2.2.2.2.2.2.2.2.2.2.2.2.2.2.2.2.2.2.2.1 s.2.2.2.2.2.2.2.2.2.2.2.2.2.2.2.2.2.2.2.2.2.2.2.1 s.2.2.2.2.2.2.2.2.2.2.2.2.2.2.2.2.2.2.2.2.2.2.2.2.1) s.2.2.2.2.2.2.2.2.2.2.2.2.2.2.2.2.2.2.2.2.2.2.2.2.2.1 s.2.2.2.2.2.2.2.2.2.2.2.2.2.2.2.2.2.2.2.2.2.2.2.2.2.2.1) s.2.2.2.2.2.2.2.2.2.2.2.2.2.2.2.2.2.2.2.2.2.2.2.2.2.2.2) a2.1).bind fun r3=>
   some (.next (s.1,aA .i64 (s.2.1+1),s.2.2.1,s.2.2.2.1,s.2.2.2.2.1,s.2.2.2.2.2.1,s.2.2.2.2.2.2.1,s.2.2.2.2.2.2.2.1,s.2.2.2.2.2.2.2.2.1,s.2.2.2.2.2.2.2.2.2.1,s.2.2.2.2.2.2.2.2.2.2.1,s.2.2.2.2.2.2.2.2.2.2.2.1,s.2.2.2.2.2.2.2.2.2.2.2.2.1,s.2.2.2.2.2.2.2.2.2.2.2.2.2.1,s.2.2.2.2.2.2.2.2.2.2.2.2.2.2.1,s.2.2.2.2.2.2.2.2.2.2.2.2.2.2.2.1,s.2.2.2.2.2.2.2.2.2.2.2.2.2.2.2.2.1,r3.now.1,r3.now.2,r3.field.points,r3.certs.next_,r3.certs.list,r3.agenda.slots.uses,r3.agenda.slots.used,r3.agenda.slots.free,r3.agenda.heap,r3.agenda.where_,r3.due))
  else
   some (.next (s.1,aA .i64 (s.2.1+1),s.2.2))
 else
  ((CS N) (Field.mk s.2.2.2.2.2.2.2.2.2.2.2.2.2.2.2.2.2.2.2.1) (Field.mk s.2.2.2.2.2.2.2.2.2.2.2.2.2.1)).bind fun b4=>
  bif !b4 then
   ((tR N) (aI.mk (s.2.2.2.2.2.2.2.2.2.2.2.2.2.2.2.2.2.1,s.2.2.2.2.2.2.2.2.2.2.2.2.2.2.2.2.2.2.1) (Field.mk s.2.2.2.2.2.2.2.2.2.2.2.2.2.2.2.2.2.2.2.1) (aO.mk s.2.2.2.2.2.2.2.2.2.2.2.2.2.2.2.2.2.2.2.2.1 s.2.2.2.2.2.2.2.2.2.2.2.2.2.2.2.2.2.2.2.2.2.1) (aF.mk (aL.mk s.2.2.2.2.2.2.2.2.2.2.2.2.2.2.2.2.2.2.2.2.2.2.1 s.2.2.2.2.2.2.2.2.2.2.2.2.2.2.2.2.2.2.2.2.2.2.2.1 s.2.2.2.2.2.2.2.2.2.2.2.2.2.2.2.2.2.2.2.2.2.2.2.2.1) s.2.2.2.2.2.2.2.2.2.2.2.2.2.2.2.2.2.2.2.2.2.2.2.2.2.1 s.2.2.2.2.2.2.2.2.2.2.2.2.2.2.2.2.2.2.2.2.2.2.2.2.2.2.1) s.2.2.2.2.2.2.2.2.2.2.2.2.2.2.2.2.2.2.2.2.2.2.2.2.2.2.2) (Field.mk s.2.2.2.2.2.2.2.2.2.2.2.2.2.1)).bind fun a5=>
   bif a5.2 !=0 then
    some (.done (aI.mk (0,0) (Field.mk []) (aO.mk 0 []) (aF.mk (aL.mk [] [] []) [] []) [],a5.2))
   else
    (aT N) (nV N) (s.1,0,s.2.2.2.2.2.2.2.2.2.2.2.2.2.2.1,s.2.2.2.2.2.2.2.2.2.2.2.2.2.2.2.1,s.2.2.2.2.2.2.2.2.2.2.2.2.2.2.2.2.1,a5.1.now.1,a5.1.now.2,a5.1.field.points,a5.1.certs.next_,a5.1.certs.list,a5.1.agenda.slots.uses,a5.1.agenda.slots.used,a5.1.agenda.slots.free,a5.1.agenda.heap,a5.1.agenda.where_,a5.1.due)
  else
   (aT N) (nV N) (s.1,0,s.2.2.2.2.2.2.2.2.2.2.2.2.2.2)
def tT (N:Nat) (p0:aI) (p1:Field) (p2:List (Int×Int)):Option (aI×Int):=
 ((iE N) p0).bind fun r0=>
 (aT N) (yQ N) (p2,0,p0.now.1,p0.now.2,p0.field.points,p0.certs.next_,p0.certs.list,p0.agenda.slots.uses,p0.agenda.slots.used,p0.agenda.slots.free,p0.agenda.heap,p0.agenda.where_,p0.due,p1.points,0,0,0,r0.now.1,r0.now.2,r0.field.points,r0.certs.next_,r0.certs.list,r0.agenda.slots.uses,r0.agenda.slots.used,r0.agenda.slots.free,r0.agenda.heap,r0.agenda.where_,r0.due)
def aHw (N:Nat):aU:=⟨aC.cons (aE.agg aX) (aC.cons (aE.agg aW) (aC.one (aE.sl eF))),aE.tup (aC.cons (aE.agg aX) (aC.one (aE.int .i64))),fun a=>(tT N) a.1 a.2.1 a.2.2,.frz,false⟩
theorem aAH (N:Nat):aB tab 101 (aHw N):=aB.of XA (cx:=(aN (aH N) [(46,(c46 N)),(46,(KR N)),(28,(c28 N)),(11,(c11 N)),(145,(aHl N)),(161,(aHs N)),(162,(aF8 N)),(163,(aHv N))] [] [] [])) rfl (aM.make ⟨(yL N),(sK N),(aF2 N),(Q2 N),(aAw N),(aAD N),(ML N),(aAG N),trivial⟩ trivial trivial) (fun a=>by kernel_rfl)
def CV (N:Nat) (p0:aI) (p1:Field):Option (aP×Int):=
 ((IP N) p1 p0.now).bind fun l0=>
 ((IR N) p1 l0).bind fun l1=>
 ((tT N) p0 p1 l1).bind fun a2=>
 bif a2.2 !=0 then
  some (aP.mk (aI.mk (0,0) (Field.mk []) (aO.mk 0 []) (aF.mk (aL.mk [] [] []) [] []) []) [],a2.2)
 else
  some (aP.mk a2.1 l0,0)
def c44 (N:Nat):aU:=⟨aC.cons (aE.agg aX) (aC.one (aE.agg aW)),aE.tup (aC.cons (aE.agg bS) (aC.one (aE.int .i64))),fun a=>(CV N) a.1 a.2,.frz,false⟩
theorem aF9 (N:Nat):aB tab 44 (c44 N):=aB.of aFw (cx:=(aN (aH N) [(100,(aHi N)),(102,(aHj N)),(101,(aHw N))] [] [] [])) rfl (aM.make ⟨(aAs N),(aAt N),(aAH N),trivial⟩ trivial trivial) (fun a=>by kernel_rfl)
def rM (N:Nat) (p0:Field) (p1:Int×Int):Option (aP×Int):=
 ((rC N) p0).bind fun n0=>
 bif n0 !=0 then
  ((rC N) p0).bind fun n1=>
  some (aP.mk (aI.mk (0,0) (Field.mk []) (aO.mk 0 []) (aF.mk (aL.mk [] [] []) [] []) []) [],n1)
 else
  ((zI N) p1).bind fun n2=>
  bif n2 !=0 then
   some (aP.mk (aI.mk (0,0) (Field.mk []) (aO.mk 0 []) (aF.mk (aL.mk [] [] []) [] []) []) [],8)
  else
   ((zL N) p0 p1).bind fun r3=>
   ((CV N) r3 p0).bind fun a4=>
   some a4
def c7 (N:Nat):aU:=⟨aC.cons (aE.agg aW) (aC.one (aE.agg (bG.row eF))),aE.tup (aC.cons (aE.agg bS) (aC.one (aE.int .i64))),fun a=>(rM N) a.1 a.2,.frz,false⟩
theorem aHx (N:Nat):aB tab 7 (c7 N):=aB.of aG5 (cx:=(aN (aH N) [(31,(c31 N)),(32,(c32 N)),(45,(c45 N)),(44,(c44 N))] [] [] [])) rfl (aM.make ⟨(aFY N),(aFZ N),(aF0 N),(aF9 N),trivial⟩ trivial trivial) (fun a=>by kernel_rfl)
def oZ (N:Nat) (p0:aP):Option aP:=
 ((iE N) p0.clock).bind fun r0=>
 (bC p0.up).bind fun l1=>
 some (aP.mk r0 l1)
def c10 (N:Nat):aU:=⟨aC.one (aE.agg bS),aE.agg bS,fun a=>(oZ N) a,.own,true⟩
def aHy (N:Nat):aU:=⟨aC.one (aE.agg bS),aE.agg bS,fun a=>(oZ N) a,.frz,false⟩
theorem aGa (N:Nat):aB tab 10 (c10 N):=aB.of QM (cx:=(aN (aH N) [(46,(c46 N)),(46,(KR N))] [] [] [])) rfl (aM.make ⟨(yL N),(sK N),trivial⟩ trivial trivial) (fun a=>by kernel_rfl)
theorem aAI (N:Nat):aB tab 10 (aHy N):=aB.of QM (cx:=(aN (aH N) [(46,(c46 N)),(46,(KR N))] [] [] [])) rfl (aM.make ⟨(yL N),(sK N),trivial⟩ trivial trivial) (fun a=>by kernel_rfl)
def iO (_:Nat) (p0:Int):Option Int:=
 bif decide (p0<0) then
  some (aA .u64 (0- (aA .u64 p0)))
 else
  some (aA .u64 p0)
def aAJ (N:Nat):aU:=⟨aC.one (aE.int .i64),aE.int .u64,fun a=>(iO N) a,.pure,false⟩
theorem F9 (N:Nat):aB tab 113 (aAJ N):=aB.of XF (cx:=(aN (aH N) [] [] [] [])) rfl (aM.make trivial trivial trivial) (fun a=>by kernel_rfl)
def GA (_:Nat) (s:(Int×Int)):Option (bB (Int×Int) Int):=
 bif decide (0<s.2) then
  bif s.2==0 then
   none
  else
   some (.next (s.2,ae s.1 s.2))
 else
  some (.done s.1)
def yR (N:Nat) (p0:Int) (p1:Int):Option Int:=
 (aT N) (GA N) (p0,p1)
def aGb (N:Nat):aU:=⟨aC.cons (aE.int .u64) (aC.one (aE.int .u64)),aE.int .u64,fun a=>(yR N) a.1 a.2,.pure,false⟩
theorem MM (N:Nat):aB tab 112 (aGb N):=aB.of XE (cx:=(aN (aH N) [] [] [] [])) rfl (aM.make trivial trivial trivial) (fun a=>by kernel_rfl)
def dD (N:Nat) (p0:Int×Int):Option Int:=
 bif decide (p0.2<1) then
  some 8
 else
  bif p0.1==(-9223372036854775808) then
   some 8
  else
   ((iO N) p0.1).bind fun n0=>
   ((yR N) (aA .u64 p0.2) n0).bind fun n1=>
   bif decide (1<n1) then
    some 8
   else
    some 0
def RX (N:Nat):aU:=⟨aC.one (aE.agg (bG.row eF)),aE.int .i64,fun a=>(dD N) a,.pure,false⟩
theorem pA (N:Nat):aB tab 52 (RX N):=aB.of aFD (cx:=(aN (aH N) [(113,(aAJ N)),(112,(aGb N))] [] [] [])) rfl (aM.make ⟨(F9 N),(MM N),trivial⟩ trivial trivial) (fun a=>by kernel_rfl)
def lW (_:Nat) (p0:Int):Option Bool:=
 bif decide (p0<(-1048576)) then
  some true
 else
  some (decide (1048576<p0))
def aHz (N:Nat):aU:=⟨aC.one (aE.int .i64),aE.bool,fun a=>(lW N) a,.pure,false⟩
theorem aAK (N:Nat):aB tab 183 (aHz N):=aB.of YR (cx:=(aN (aH N) [] [] [] [])) rfl (aM.make trivial trivial trivial) (fun a=>by kernel_rfl)
def gR (N:Nat) (p0:Int×Int×Int):Option Int:=
 bif decide (p0.1<0) then
  some 8
 else
  bif decide (65535<p0.1) then
   some 8
  else
   ((lW N) p0.2.1).bind fun b0=>
   bif b0 then
    some 8
   else
    ((lW N) p0.2.2).bind fun b1=>
    bif b1 then
     some 8
    else
     some 0
def Q7 (N:Nat):aU:=⟨aC.one (aE.agg (bG.row bY)),aE.int .i64,fun a=>(gR N) a,.pure,false⟩
theorem AQ (N:Nat):aB tab 123 (Q7 N):=aB.of XO (cx:=(aN (aH N) [(183,(aHz N))] [] [] [])) rfl (aM.make ⟨(aAK N),trivial⟩ trivial trivial) (fun a=>by kernel_rfl)
def CW (_:Nat) (s:((List (Int×Int×Int))×Int×Int×(List (Int×Int×Int)))):Option (bB ((List (Int×Int×Int))×Int×Int×(List (Int×Int×Int))) (bB ((List (Int×Int×Int))×Int×Int×(List (Int×Int×Int))) Int)):=
 bif decide (s.2.2.1<s.2.1) then
  (aK s.1 s.2.2.1).bind fun a0=>
  bif decide (0<s.2.2.1) then
   (aK s.2.2.2 (aA .i64 (s.2.2.1-1))).bind fun a1=>
   bif decide (a0.1<=a1.1) then
    some (.done (.done 32))
   else
    some (.next (s.1,s.2.1,aA .i64 (s.2.2.1+1),s.2.2.2))
  else
   some (.next (s.1,s.2.1,aA .i64 (s.2.2.1+1),s.2.2.2))
 else
  some (.done (.done 0))
def CX (N:Nat) (s:((List (Int×Int×Int))×Int×Int×(List (Int×Int×Int)))):Option (bB ((List (Int×Int×Int))×Int×Int×(List (Int×Int×Int))) Int):=
 bif decide (s.2.2.1<s.2.1) then
  (aK s.1 s.2.2.1).bind fun a0=>
  ((gR N) a0).bind fun n1=>
  bif n1 !=0 then
   some (.done n1)
  else
   some (.next (s.1,s.2.1,aA .i64 (s.2.2.1+1),s.2.2.2))
 else
  (aT N) (CW N) (s.2.2.2,aa s.2.2.2.length,0,s.2.2.2)
def fK (N:Nat) (p0:Field):Option Int:=
 bif decide (64<(aa p0.points.length)) then
  some 4
 else
  (aT N) (CX N) (p0.points,aa p0.points.length,0,p0.points)
def IV (N:Nat):aU:=⟨aC.one (aE.agg aW),aE.int .i64,fun a=>(fK N) a,.pure,false⟩
theorem pB (N:Nat):aB tab 122 (IV N):=aB.of XN (cx:=(aN (aH N) [(123,(Q7 N))] [] [] [])) rfl (aM.make ⟨(AQ N),trivial⟩ trivial trivial) (fun a=>by kernel_rfl)
def vC (_:Nat) (p0:Int×Int):Option Bool:=
 bif decide (0<=(if p0.2<p0.1 then p0.2 else p0.1)) then
  bif decide ((if p0.2>p0.1 then p0.2 else p0.1)<=65535) then
   some (p0.1 !=p0.2)
  else
   some false
 else
  some false
def aGc (N:Nat):aU:=⟨aC.one (aE.agg (bG.row eF)),aE.bool,fun a=>(vC N) a,.pure,false⟩
theorem MN (N:Nat):aB tab 189 (aGc N):=aB.of YU (cx:=(aN (aH N) [] [] [] [])) rfl (aM.make trivial trivial trivial) (fun a=>by kernel_rfl)
def DS (N:Nat) (s:(Int×(List (Int×Int×Int))×Int×Int×Int×(List (Int×Int×Int))×(List (List Int)))):Option (bB (Int×(List (Int×Int×Int))×Int×Int×Int×(List (Int×Int×Int))×(List (List Int))) Int):=
 bif decide (s.2.2.2.1<s.2.2.1) then
  (aK s.2.1 s.2.2.2.1).bind fun a0=>
  ((vC N) a0.2).bind fun b1=>
  bif !b1 then
   some (.done 8)
  else
   (R6 s.2.2.2.2.2.2 [a0.2.1,a0.2.2]).bind fun b2=>
   bif b2 then
    some (.done 8)
   else
    bif decide (a0.1<=s.1) then
     some (.done 8)
    else
     bif decide (s.2.2.2.2.1<=a0.1) then
      some (.done 8)
     else
      (R7 s.2.2.2.2.2.2 [a0.2.1,a0.2.2]).bind fun l3=>
      some (.next (a0.1,s.2.1,s.2.2.1,aA .i64 (s.2.2.2.1+1),s.2.2.2.2.1,s.2.2.2.2.2.1,l3))
 else
  some (.done 0)
def pC (N:Nat) (p0:aO):Option Int:=
 bif decide (200<(aa p0.list.length)) then
  some 8
 else
  bif decide (p0.next_<0) then
   some 8
  else
   bif decide (1000000<p0.next_) then
    some 8
   else
    (aT N) (DS N) (-1,p0.list,aa p0.list.length,0,p0.next_,p0.list,[])
def aAL (N:Nat):aU:=⟨aC.one (aE.agg eP),aE.int .i64,fun a=>(pC N) a,.pure,false⟩
theorem GB (N:Nat):aB tab 129 (aAL N):=aB.of XV (cx:=(aN (aH N) [(189,(aGc N))] [] [] [])) rfl (aM.make ⟨(MN N),trivial⟩ trivial trivial) (fun a=>by kernel_rfl)
def rN (_:Nat) (s:((List Bool)×Bool×Int×Int)):Option (bB ((List Bool)×Bool×Int×Int) Int):=
 bif decide (s.2.2.2<s.2.2.1) then
  (aK s.1 s.2.2.2).bind fun b0=>
  bif s.2.1==b0 then
   some (.done s.2.2.2)
  else
   some (.next (s.1,s.2.1,s.2.2.1,aA .i64 (s.2.2.2+1)))
 else
  some (.done (-1))
def mO (N:Nat) (p0:List Bool) (p1:Bool):Option Int:=
 (aT N) (rN N) (p0,p1,aa p0.length,0)
def aHA (N:Nat):aU:=⟨aC.cons (aE.sl kb) (aC.one aE.bool),aE.int .i64,fun a=>(mO N) a.1 a.2,.pure,false⟩
theorem aAM (N:Nat):aB tab 275 (aHA N):=aB.of Z7 (cx:=(aN (aH N) [] [] [] [])) rfl (aM.make trivial trivial trivial) (fun a=>by kernel_rfl)
def dE (N:Nat) (p0:List Bool) (p1:Bool):Option Bool:=
 ((mO N) p0 p1).bind fun n0=>
 some (decide (0<=n0))
def aHB (N:Nat):aU:=⟨aC.cons (aE.sl kb) (aC.one aE.bool),aE.bool,fun a=>(dE N) a.1 a.2,.pure,false⟩
theorem aAN (N:Nat):aB tab 238 (aHB N):=aB.of ZQ (cx:=(aN (aH N) [(275,(aHA N))] [] [] [])) rfl (aM.make ⟨(aAM N),trivial⟩ trivial trivial) (fun a=>by kernel_rfl)
def jW (_:Nat) (s:((List Int)×Int×Int×(List Int)×(List Bool)×(List Int))):Option (bB ((List Int)×Int×Int×(List Int)×(List Bool)×(List Int)) (bB ((List Int)×Int×Int×(List Int)×(List Bool)×(List Int)×Int×(List Bool)) Int)):=
 bif decide (s.2.2.1<s.2.1) then
  (aK s.1 s.2.2.1).bind fun n0=>
  bif decide (n0<0) then
   some (.done (.done 8))
  else
   bif decide (1000000<n0) then
    some (.done (.done 8))
   else
    bif n0==0 then
     (aK s.2.2.2.2.1 s.2.2.1).bind fun b1=>
     bif b1 then
      some (.done (.done 8))
     else
      some (.next (s.1,s.2.1,aA .i64 (s.2.2.1+1),s.2.2.2))
    else
     some (.next (s.1,s.2.1,aA .i64 (s.2.2.1+1),s.2.2.2))
 else
  some (.done (.done 0))
def DT (N:Nat) (c0:(List Bool)) (s:((List Int)×Int×Int×(List Int)×(List Bool)×(List Int)×Int×(List Bool))):Option (bB ((List Int)×Int×Int×(List Int)×(List Bool)×(List Int)×Int×(List Bool)) Int):=
 bif decide (s.2.2.1<s.2.1) then
  (aK s.1 s.2.2.1).bind fun n0=>
  bif decide (n0<0) then
   bif s.2.2.2.2.2.2.2.length==s.2.2.2.2.2.2.2.length then
    bif s.2.2.2.2.2.2.2.length==c0.length then
     bif s.2.2.2.2.2.2.2.length==c0.length then
      bif decide (0<=s.2.2.1) then
       some (.done 8)
      else
       ((dE N) s.2.2.2.2.2.2.2 false).bind fun b1=>
       bif b1 then
        some (.done 8)
       else
        (aT N) (jW N) (s.2.2.2.1,aa s.2.2.2.1.length,0,s.2.2.2.1,s.2.2.2.2.1,s.2.2.2.2.2.1)
     else
      none
    else
     none
   else
    none
  else
   bif decide (s.2.2.2.2.2.2.1<=n0) then
    bif s.2.2.2.2.2.2.2.length==s.2.2.2.2.2.2.2.length then
     bif s.2.2.2.2.2.2.2.length==c0.length then
      bif s.2.2.2.2.2.2.2.length==c0.length then
       bif decide (0<=s.2.2.1) then
        some (.done 8)
       else
        ((dE N) s.2.2.2.2.2.2.2 false).bind fun b2=>
        bif b2 then
         some (.done 8)
        else
         (aT N) (jW N) (s.2.2.2.1,aa s.2.2.2.1.length,0,s.2.2.2.1,s.2.2.2.2.1,s.2.2.2.2.2.1)
      else
       none
     else
      none
    else
     none
   else
    (aK s.2.2.2.2.2.2.2 n0).bind fun b3=>
    bif b3 then
     bif s.2.2.2.2.2.2.2.length==s.2.2.2.2.2.2.2.length then
      bif s.2.2.2.2.2.2.2.length==c0.length then
       bif s.2.2.2.2.2.2.2.length==c0.length then
        bif decide (0<=s.2.2.1) then
         some (.done 8)
        else
         ((dE N) s.2.2.2.2.2.2.2 false).bind fun b4=>
         bif b4 then
          some (.done 8)
         else
          (aT N) (jW N) (s.2.2.2.1,aa s.2.2.2.1.length,0,s.2.2.2.1,s.2.2.2.2.1,s.2.2.2.2.2.1)
       else
        none
      else
       none
     else
      none
    else
     (aK s.2.2.2.2.2.2.2 n0).bind fun _=>
     bif ((bM s.2.2.2.2.2.2.2 n0 true).length)==s.2.2.2.2.2.2.2.length then
      some (.next (s.1,s.2.1,aA .i64 (s.2.2.1+1),s.2.2.2.1,s.2.2.2.2.1,s.2.2.2.2.2.1,s.2.2.2.2.2.2.1,bM s.2.2.2.2.2.2.2 n0 true))
     else
      none
 else
  bif s.2.2.2.2.2.2.2.length==c0.length then
   bif s.2.2.2.2.2.2.2.length==c0.length then
    ((dE N) s.2.2.2.2.2.2.2 false).bind fun b6=>
    bif b6 then
     some (.done 8)
    else
     (aT N) (jW N) (s.2.2.2.1,aa s.2.2.2.1.length,0,s.2.2.2.1,s.2.2.2.2.1,s.2.2.2.2.2.1)
   else
    none
  else
   none
def pD (N:Nat) (p0:aL):Option Int:=
 bif decide ((aa p0.uses.length)<1) then
  some 8
 else
  bif decide (200<(aa p0.uses.length)) then
   some 8
  else
   bif (aa p0.used.length) !=(aa p0.uses.length) then
    some 8
   else
    (bC p0.used).bind fun l0=>
    (aT N) ((DT N) l0) (p0.free,aa p0.free.length,0,p0.uses,p0.used,p0.free,aa p0.uses.length,l0)
def aAO (N:Nat):aU:=⟨aC.one (aE.agg eD),aE.int .i64,fun a=>(pD N) a,.pure,false⟩
theorem GC (N:Nat):aB tab 190 (aAO N):=aB.of YV (cx:=(aN (aH N) [(182,aU.clone kb),(238,(aHB N))] [] [(236,VP),(274,WD),(237,VS)] [])) rfl (aM.make ⟨lR,(aAN N),trivial⟩ trivial ⟨ZO,Z6,ZP,trivial⟩) (fun a=>by kernel_rfl)
def CY (N:Nat) (p0:Int×Int) (p1:Int×Int):Option Int:=
 ((dD N) p0).bind fun n0=>
 ((dD N) p1).bind fun n1=>
 some (if n1>n0 then n1 else n0)
def aHC (N:Nat):aU:=⟨aC.cons (aE.agg (bG.row eF)) (aC.one (aE.agg (bG.row eF))),aE.int .i64,fun a=>(CY N) a.1 a.2,.pure,false⟩
theorem aAP (N:Nat):aB tab 114 (aHC N):=aB.of XG (cx:=(aN (aH N) [(52,(RX N))] [] [] [])) rfl (aM.make ⟨(pA N),trivial⟩ trivial trivial) (fun a=>by kernel_rfl)
def kS (_:Nat) (p0:Int):Option Bool:=
 some (p0 !=p0)
def aHD (N:Nat):aU:=⟨aC.one (aE.int .i64),aE.bool,fun a=>(kS N) a,.pure,false⟩
theorem aAQ (N:Nat):aB tab 167 (aHD N):=aB.of YC (cx:=(aN (aH N) [] [] [] [])) rfl (aM.make trivial trivial trivial) (fun a=>by kernel_rfl)
def iZ (N:Nat) (p0:Int) (p1:Int):Option Int:=
 ((kS N) p0).bind fun b0=>
 ((kS N) p1).bind fun b1=>
 bif b0 then
  bif b1 then
   some 0
  else
   some (-1)
 else
  bif b1 then
   some 1
  else
   bif decide (p0<p1) then
    some (-1)
   else
    bif decide (p1<p0) then
     some 1
    else
     some 0
def aGd (N:Nat):aU:=⟨aC.cons (aE.int .i64) (aC.one (aE.int .i64)),aE.int .i64,fun a=>(iZ N) a.1 a.2,.pure,false⟩
theorem MO (N:Nat):aB tab 115 (aGd N):=aB.of XH (cx:=(aN (aH N) [(167,(aHD N))] [] [] [])) rfl (aM.make ⟨(aAQ N),trivial⟩ trivial trivial) (fun a=>by kernel_rfl)
def fT (_:Nat) (p0:Int) (p1:Int):Option (Int×Int):=
 some (aA .u64 ((aA .u64 ((aA .u64 ((gC .u64 p0 32)*(gC .u64 p1 32)))+(gC .u64 (aA .u64 ((aA .u64 ((gC .u64 p0 32)*(nA .u64 p1 4294967295)))+(gC .u64 (aA .u64 ((nA .u64 p0 4294967295)*(nA .u64 p1 4294967295))) 32))) 32)))+(gC .u64 (aA .u64 ((nA .u64 (aA .u64 ((aA .u64 ((gC .u64 p0 32)*(nA .u64 p1 4294967295)))+(gC .u64 (aA .u64 ((nA .u64 p0 4294967295)*(nA .u64 p1 4294967295))) 32))) 4294967295)+(aA .u64 ((nA .u64 p0 4294967295)*(gC .u64 p1 32))))) 32)),aA .u64 (p0*p1))
def aAR (N:Nat):aU:=⟨aC.cons (aE.int .u64) (aC.one (aE.int .u64)),aE.tup (aC.cons (aE.int .u64) (aC.one (aE.int .u64))),fun a=>(fT N) a.1 a.2,.pure,false⟩
theorem GD (N:Nat):aB tab 169 (aAR N):=aB.of YE (cx:=(aN (aH N) [] [] [] [])) rfl (aM.make trivial trivial trivial) (fun a=>by kernel_rfl)
def rO (N:Nat) (p0:Int) (p1:Int):Option (Bool×Int×Int):=
 ((iO N) p0).bind fun n0=>
 ((iO N) p1).bind fun n1=>
 ((fT N) n0 n1).bind fun a2=>
 some (!((decide (p0<0))==(decide (p1<0))),a2)
def aHE (N:Nat):aU:=⟨aC.cons (aE.int .i64) (aC.one (aE.int .i64)),aE.agg (bG.row rB),fun a=>(rO N) a.1 a.2,.pure,false⟩
theorem aAS (N:Nat):aB tab 117 (aHE N):=aB.of XJ (cx:=(aN (aH N) [(113,(aAJ N)),(169,(aAR N))] [] [] [])) rfl (aM.make ⟨(F9 N),(GD N),trivial⟩ trivial trivial) (fun a=>by kernel_rfl)
def jQ (_:Nat) (p0:Int):Option Bool:=
 some (p0 !=p0)
def aHF (N:Nat):aU:=⟨aC.one (aE.int .u64),aE.bool,fun a=>(jQ N) a,.pure,false⟩
theorem aAT (N:Nat):aB tab 222 (aHF N):=aB.of ZC (cx:=(aN (aH N) [] [] [] [])) rfl (aM.make trivial trivial trivial) (fun a=>by kernel_rfl)
def iF (N:Nat) (p0:Int) (p1:Int):Option Int:=
 ((jQ N) p0).bind fun b0=>
 ((jQ N) p1).bind fun b1=>
 bif b0 then
  bif b1 then
   some 0
  else
   some (-1)
 else
  bif b1 then
   some 1
  else
   bif decide (p0<p1) then
    some (-1)
   else
    bif decide (p1<p0) then
     some 1
    else
     some 0
def aHG (N:Nat):aU:=⟨aC.cons (aE.int .u64) (aC.one (aE.int .u64)),aE.int .i64,fun a=>(iF N) a.1 a.2,.pure,false⟩
theorem aAU (N:Nat):aB tab 168 (aHG N):=aB.of YD (cx:=(aN (aH N) [(222,(aHF N))] [] [] [])) rfl (aM.make ⟨(aAT N),trivial⟩ trivial trivial) (fun a=>by kernel_rfl)
def tU (N:Nat) (p0:Bool×Int×Int) (p1:Bool×Int×Int):Option Int:=
 ((iF N) p0.2.1 p1.2.1).bind fun n0=>
 bif n0 !=0 then
  some n0
 else
  ((iF N) p0.2.2 p1.2.2).bind fun n1=>
  some n1
def aHH (N:Nat):aU:=⟨aC.cons (aE.agg (bG.row rB)) (aC.one (aE.agg (bG.row rB))),aE.int .i64,fun a=>(tU N) a.1 a.2,.pure,false⟩
theorem aAV (N:Nat):aB tab 116 (aHH N):=aB.of XI (cx:=(aN (aH N) [(168,(aHG N))] [] [] [])) rfl (aM.make ⟨(aAU N),trivial⟩ trivial trivial) (fun a=>by kernel_rfl)
def nW (N:Nat) (p0:Int×Int) (p1:Int×Int):Option (Int×Int):=
 ((CY N) p0 p1).bind fun n0=>
 bif n0 !=0 then
  some (0,n0)
 else
  bif !((decide (p0.1<0))==(decide (p1.1<0))) then
   ((iZ N) p0.1 p1.1).bind fun n1=>
   some (n1,0)
  else
   ((rO N) p0.1 p1.2).bind fun a2=>
   ((rO N) p1.1 p0.2).bind fun a3=>
   ((tU N) a2 a3).bind fun n4=>
   bif decide (p0.1<0) then
    some (aA .i64 (0-n4),0)
   else
    some (n4,0)
def c53 (N:Nat):aU:=⟨aC.cons (aE.agg (bG.row eF)) (aC.one (aE.agg (bG.row eF))),aE.tup (aC.cons (aE.int .i64) (aC.one (aE.int .i64))),fun a=>(nW N) a.1 a.2,.pure,false⟩
theorem KU (N:Nat):aB tab 53 (c53 N):=aB.of aFE (cx:=(aN (aH N) [(114,(aHC N)),(115,(aGd N)),(117,(aHE N)),(116,(aHH N))] [] [] [])) rfl (aM.make ⟨(aAP N),(MO N),(aAS N),(aAV N),trivial⟩ trivial trivial) (fun a=>by kernel_rfl)
def nB (_:Nat) (p0:Int):Option Bool:=
 some (p0 !=p0)
def aHI (N:Nat):aU:=⟨aC.one (aE.int .i64),aE.bool,fun a=>(nB N) a,.pure,false⟩
theorem aAW (N:Nat):aB tab 234 (aHI N):=aB.of ZN (cx:=(aN (aH N) [] [] [] [])) rfl (aM.make trivial trivial trivial) (fun a=>by kernel_rfl)
def dN (N:Nat) (p0:Int) (p1:Int):Option Int:=
 ((nB N) p0).bind fun b0=>
 ((nB N) p1).bind fun b1=>
 bif b0 then
  bif b1 then
   some 0
  else
   some (-1)
 else
  bif b1 then
   some 1
  else
   bif decide (p0<p1) then
    some (-1)
   else
    bif decide (p1<p0) then
     some 1
    else
     some 0
def KV (N:Nat):aU:=⟨aC.cons (aE.int .i64) (aC.one (aE.int .i64)),aE.int .i64,fun a=>(dN N) a.1 a.2,.pure,false⟩
theorem sL (N:Nat):aB tab 186 (KV N):=aB.of YT (cx:=(aN (aH N) [(234,(aHI N))] [] [] [])) rfl (aM.make ⟨(aAW N),trivial⟩ trivial trivial) (fun a=>by kernel_rfl)
def DU (_:Nat) (s:(Int×(List Int)×Int×Int)):Option (bB (Int×(List Int)×Int×Int) Int):=
 bif decide (s.2.2.2<s.2.2.1) then
  (aK s.2.1 s.2.2.2).bind fun n0=>
  bif n0 !=s.1 then
   some (.done n0)
  else
   some (.next (s.1,s.2.1,s.2.2.1,aA .i64 (s.2.2.2+1)))
 else
  some (.done s.1)
def vD (N:Nat) (p0:List Int):Option Int:=
 (aT N) (DU N) (0,p0,aa p0.length,0)
def aGe (N:Nat):aU:=⟨aC.one (aE.sl ki),aE.int .i64,fun a=>(vD N) a,.pure,false⟩
theorem MP (N:Nat):aB tab 208 (aGe N):=aB.of Y4 (cx:=(aN (aH N) [] [] [] [])) rfl (aM.make trivial trivial trivial) (fun a=>by kernel_rfl)
def bT (N:Nat) (p0:Int×Int×Int×Int×Int) (p1:Int×Int×Int×Int×Int):Option Int:=
 ((nW N) (p0.1,p0.2.1) (p1.1,p1.2.1)).bind fun a0=>
 ((dN N) p0.2.2.1 p1.2.2.1).bind fun n1=>
 ((vD N) [a0.1,n1]).bind fun n2=>
 some n2
def aAX (N:Nat):aU:=⟨aC.cons (aE.agg (bG.row fC)) (aC.one (aE.agg (bG.row fC))),aE.int .i64,fun a=>(bT N) a.1 a.2,.pure,false⟩
theorem GE (N:Nat):aB tab 191 (aAX N):=aB.of YW (cx:=(aN (aH N) [(53,(c53 N)),(186,(KV N)),(208,(aGe N))] [] [] [])) rfl (aM.make ⟨(KU N),(sL N),(MP N),trivial⟩ trivial trivial) (fun a=>by kernel_rfl)
def AC (N:Nat) (s:((List (Int×Int×Int×Int×Int))×Int×Int×(List Int)×(List Bool)×(List Int)×(List (Int×Int×Int×Int×Int))×(List Int)×(List (List Int)))):Option (bB ((List (Int×Int×Int×Int×Int))×Int×Int×(List Int)×(List Bool)×(List Int)×(List (Int×Int×Int×Int×Int))×(List Int)×(List (List Int))) (bB ((List Int)×Int×Int×(List Int)×(List Bool)×(List Int)×(List (Int×Int×Int×Int×Int))×(List Int)) Int)):=
 bif decide (s.2.2.1<s.2.1) then
  (aK s.1 s.2.2.1).bind fun a0=>
  ((dD N) (a0.1,a0.2.1)).bind fun n1=>
  bif n1 !=0 then
   some (.done (.done 8))
  else
   bif decide (a0.2.2.1<0) then
    some (.done (.done 8))
   else
    bif decide (1000000<a0.2.2.1) then
     some (.done (.done 8))
    else
     (R6 s.2.2.2.2.2.2.2.2 [a0.2.2.1]).bind fun b2=>
     bif b2 then
      some (.done (.done 8))
     else
      (R7 s.2.2.2.2.2.2.2.2 [a0.2.2.1]).bind fun l3=>
      bif decide (0<s.2.2.1) then
       (aK s.2.2.2.2.2.2.1 (aA .i64 (ac (aA .i64 (s.2.2.1-1)) 2))).bind fun a4=>
       ((bT N) a0 a4).bind fun n5=>
       bif decide (n5<0) then
        some (.done (.done 8))
       else
        some (.next (s.1,s.2.1,aA .i64 (s.2.2.1+1),s.2.2.2.1,s.2.2.2.2.1,s.2.2.2.2.2.1,s.2.2.2.2.2.2.1,s.2.2.2.2.2.2.2.1,l3))
      else
       some (.next (s.1,s.2.1,aA .i64 (s.2.2.1+1),s.2.2.2.1,s.2.2.2.2.1,s.2.2.2.2.2.1,s.2.2.2.2.2.2.1,s.2.2.2.2.2.2.2.1,l3))
 else
  some (.done (.done 0))
def AD (N:Nat) (s:((List Int)×Int×Int×(List Int)×(List Bool)×(List Int)×(List (Int×Int×Int×Int×Int))×(List Int))):Option (bB ((List Int)×Int×Int×(List Int)×(List Bool)×(List Int)×(List (Int×Int×Int×Int×Int))×(List Int)) Int):=
 bif decide (s.2.2.1<s.2.1) then
  (aK s.1 s.2.2.1).bind fun n0=>
  (aK s.2.2.2.2.1 s.2.2.1).bind fun b1=>
  bif !b1 then
   bif n0 !=(-1) then
    some (.done 8)
   else
    some (.next (s.1,s.2.1,aA .i64 (s.2.2.1+1),s.2.2.2))
  else
   bif decide (n0<0) then
    some (.done 8)
   else
    bif decide ((aa s.2.2.2.2.2.2.1.length)<=n0) then
     some (.done 8)
    else
     (aK s.2.2.2.2.2.2.1 n0).bind fun a2=>
     (aK s.2.2.2.1 s.2.2.1).bind fun n3=>
     bif !((a2.2.2.2.1==s.2.2.1)&&(a2.2.2.2.2==n3)) then
      some (.done 8)
     else
      some (.next (s.1,s.2.1,aA .i64 (s.2.2.1+1),s.2.2.2))
 else
  (aT N) (AC N) (s.2.2.2.2.2.2.1,aa s.2.2.2.2.2.2.1.length,0,s.2.2.2.1,s.2.2.2.2.1,s.2.2.2.2.2.1,s.2.2.2.2.2.2.1,s.2.2.2.2.2.2.2,[])
def gS (N:Nat) (p0:aF):Option Int:=
 ((pD N) p0.slots).bind fun n0=>
 bif n0 !=0 then
  some 8
 else
  bif (aa p0.where_.length) !=(aa p0.slots.used.length) then
   some 8
  else
   bif (aa p0.heap.length) !=(aA .i64 ((aa p0.slots.used.length) - (aa p0.slots.free.length))) then
    some 8
   else
    (aT N) (AD N) (p0.where_,aa p0.where_.length,0,p0.slots.uses,p0.slots.used,p0.slots.free,p0.heap,p0.where_)
def OA (N:Nat):aU:=⟨aC.one (aE.agg bW),aE.int .i64,fun a=>(gS N) a,.pure,false⟩
theorem wY (N:Nat):aB tab 130 (OA N):=aB.of XW (cx:=(aN (aH N) [(190,(aAO N)),(52,(RX N)),(191,(aAX N))] [] [] [])) rfl (aM.make ⟨(GC N),(pA N),(GE N),trivial⟩ trivial trivial) (fun a=>by kernel_rfl)
def nC (N:Nat) (p0:Int×Int×Int) (p1:Int):Option Int:=
 ((dN N) p0.1 p1).bind fun n0=>
 some n0
def aHJ (N:Nat):aU:=⟨aC.cons (aE.agg (bG.row bY)) (aC.one (aE.int .i64)),aE.int .i64,fun a=>(nC N) a.1 a.2,.pure,false⟩
theorem aAY (N:Nat):aB tab 239 (aHJ N):=aB.of ZR (cx:=(aN (aH N) [(186,(KV N))] [] [] [])) rfl (aM.make ⟨(sL N),trivial⟩ trivial trivial) (fun a=>by kernel_rfl)
def dY (N:Nat) (s:((List (Int×Int×Int))×Int×Int×Int×Int)):Option (bB ((List (Int×Int×Int))×Int×Int×Int×Int) (Int×Bool)):=
 bif decide (s.2.2.2.1<s.2.2.2.2) then
  (aK s.1 (aA .i64 (gC .u64 (aA .u64 (aA .i64 (s.2.2.2.1+s.2.2.2.2))) 1))).bind fun a0=>
  ((nC N) a0 s.2.1).bind fun n1=>
  bif decide (n1<0) then
   some (.next (s.1,s.2.1,s.2.2.1,aA .i64 ((aA .i64 (gC .u64 (aA .u64 (aA .i64 (s.2.2.2.1+s.2.2.2.2))) 1))+1),s.2.2.2.2))
  else
   some (.next (s.1,s.2.1,s.2.2.1,s.2.2.2.1,aA .i64 (gC .u64 (aA .u64 (aA .i64 (s.2.2.2.1+s.2.2.2.2))) 1)))
 else
  bif decide (s.2.2.2.1<s.2.2.1) then
   (aK s.1 s.2.2.2.1).bind fun a2=>
   ((nC N) a2 s.2.1).bind fun n3=>
   some (.done (s.2.2.2.1,n3==0))
  else
   some (.done (s.2.2.2.1,false))
def cC (N:Nat) (p0:List (Int×Int×Int)) (p1:Int) (_:Unit):Option (Int×Bool):=
 (aT N) (dY N) (p0,p1,aa p0.length,0,aa p0.length)
def IW (N:Nat):aU:=⟨aC.cons (aE.sl bY) (aC.cons (aE.int .i64) (aC.one (aE.clo 239 aC.nil))),aE.tup (aC.cons (aE.int .i64) (aC.one aE.bool)),fun a=>(cC N) a.1 a.2.1 a.2.2,.pure,false⟩
theorem IX (N:Nat):aB tab 184 (IW N):=aB.of L7 (cx:=(aN (aH N) [(239,(aHJ N))] [] [] [])) rfl (aM.make ⟨(aAY N),trivial⟩ trivial trivial) (fun a=>by kernel_rfl)
def gK (N:Nat) (p0:Field) (p1:Int):Option (Int×Int×Int):=
 ((cC N) p0.points p1 ()).bind fun a0=>
 bif !a0.2 then
  some (-1,0,0)
 else
  (aK p0.points a0.1).bind fun a1=>
  some a1
def aAZ (N:Nat):aU:=⟨aC.cons (aE.agg aW) (aC.one (aE.int .i64)),aE.agg (bG.row bY),fun a=>(gK N) a.1 a.2,.pure,false⟩
theorem GF (N:Nat):aB tab 193 (aAZ N):=aB.of YY (cx:=(aN (aH N) [(184,(IW N))] [] [] [])) rfl (aM.make ⟨(IX N),trivial⟩ trivial trivial) (fun a=>by kernel_rfl)
def pE (N:Nat) (p0:Int×Int×Int) (p1:Int×Int×Int) (p2:Int×Int):Option Int:=
 ((gR N) p0).bind fun n0=>
 ((gR N) p1).bind fun n1=>
 ((dD N) p2).bind fun n2=>
 bif (if n2>(if n1>n0 then n1 else n0) then n2 else if n1>n0 then n1 else n0) !=0 then
  some (if n2>(if n1>n0 then n1 else n0) then n2 else if n1>n0 then n1 else n0)
 else
  bif p0.1==p1.1 then
   some 2
  else
   some 0
def aA0 (N:Nat):aU:=⟨aC.cons (aE.agg (bG.row bY)) (aC.cons (aE.agg (bG.row bY)) (aC.one (aE.agg (bG.row eF)))),aE.int .i64,fun a=>(pE N) a.1 a.2.1 a.2.2,.pure,false⟩
theorem GG (N:Nat):aB tab 204 (aA0 N):=aB.of Y2 (cx:=(aN (aH N) [(123,(Q7 N)),(52,(RX N))] [] [] [])) rfl (aM.make ⟨(AQ N),(pA N),trivial⟩ trivial trivial) (fun a=>by kernel_rfl)
def DV (N:Nat) (s:(Int×Int×Int×Int×Int×Int×Int×Int×Int)):Option (bB (Int×Int×Int×Int×Int×Int×Int×Int×Int) (Int×Int)):=
 bif decide (s.2.2.2.2.1<2) then
  bif s.2.2.2.2.1==0 then
   ((fT N) (aA .u64 s.1) (aA .u64 s.2.1)).bind fun a0=>
   bif decide (s.1<0) then
    bif decide (s.2.1<0) then
     (lP s.2.2.2.2.2.2.2.2 a0.2 0).bind fun a1=>
     some (.next (s.1,s.2.1,s.2.2.1,s.2.2.2.1,aA .i64 (s.2.2.2.2.1+1),s.2.2.2.2.2.1,s.2.2.2.2.2.2.1,aA .i64 ((aA .i64 (s.2.2.2.2.2.2.2.1+(aA .i64 ((aA .i64 ((aA .i64 a0.1) -s.2.1)) -s.1))))+(aA .i64 a1.2)),a1.1))
    else
     (lP s.2.2.2.2.2.2.2.2 a0.2 0).bind fun a2=>
     some (.next (s.1,s.2.1,s.2.2.1,s.2.2.2.1,aA .i64 (s.2.2.2.2.1+1),s.2.2.2.2.2.1,s.2.2.2.2.2.2.1,aA .i64 ((aA .i64 (s.2.2.2.2.2.2.2.1+(aA .i64 ((aA .i64 a0.1) -s.2.1))))+(aA .i64 a2.2)),a2.1))
   else
    bif decide (s.2.1<0) then
     (lP s.2.2.2.2.2.2.2.2 a0.2 0).bind fun a3=>
     some (.next (s.1,s.2.1,s.2.2.1,s.2.2.2.1,aA .i64 (s.2.2.2.2.1+1),s.2.2.2.2.2.1,s.2.2.2.2.2.2.1,aA .i64 ((aA .i64 (s.2.2.2.2.2.2.2.1+(aA .i64 ((aA .i64 a0.1) -s.1))))+(aA .i64 a3.2)),a3.1))
    else
     (lP s.2.2.2.2.2.2.2.2 a0.2 0).bind fun a4=>
     some (.next (s.1,s.2.1,s.2.2.1,s.2.2.2.1,aA .i64 (s.2.2.2.2.1+1),s.2.2.2.2.2.1,s.2.2.2.2.2.2.1,aA .i64 ((aA .i64 (s.2.2.2.2.2.2.2.1+(aA .i64 a0.1)))+(aA .i64 a4.2)),a4.1))
  else
   bif s.2.2.2.2.1==1 then
    ((fT N) (aA .u64 s.2.2.1) (aA .u64 s.2.2.2.1)).bind fun a5=>
    bif decide (s.2.2.1<0) then
     bif decide (s.2.2.2.1<0) then
      (lP s.2.2.2.2.2.2.2.2 a5.2 0).bind fun a6=>
      some (.next (s.1,s.2.1,s.2.2.1,s.2.2.2.1,aA .i64 (s.2.2.2.2.1+1),s.2.2.2.2.2.1,s.2.2.2.2.2.2.1,aA .i64 ((aA .i64 (s.2.2.2.2.2.2.2.1+(aA .i64 ((aA .i64 ((aA .i64 a5.1) -s.2.2.2.1)) -s.2.2.1))))+(aA .i64 a6.2)),a6.1))
     else
      (lP s.2.2.2.2.2.2.2.2 a5.2 0).bind fun a7=>
      some (.next (s.1,s.2.1,s.2.2.1,s.2.2.2.1,aA .i64 (s.2.2.2.2.1+1),s.2.2.2.2.2.1,s.2.2.2.2.2.2.1,aA .i64 ((aA .i64 (s.2.2.2.2.2.2.2.1+(aA .i64 ((aA .i64 a5.1) -s.2.2.2.1))))+(aA .i64 a7.2)),a7.1))
    else
     bif decide (s.2.2.2.1<0) then
      (lP s.2.2.2.2.2.2.2.2 a5.2 0).bind fun a8=>
      some (.next (s.1,s.2.1,s.2.2.1,s.2.2.2.1,aA .i64 (s.2.2.2.2.1+1),s.2.2.2.2.2.1,s.2.2.2.2.2.2.1,aA .i64 ((aA .i64 (s.2.2.2.2.2.2.2.1+(aA .i64 ((aA .i64 a5.1) -s.2.2.1))))+(aA .i64 a8.2)),a8.1))
     else
      (lP s.2.2.2.2.2.2.2.2 a5.2 0).bind fun a9=>
      some (.next (s.1,s.2.1,s.2.2.1,s.2.2.2.1,aA .i64 (s.2.2.2.2.1+1),s.2.2.2.2.2.1,s.2.2.2.2.2.2.1,aA .i64 ((aA .i64 (s.2.2.2.2.2.2.2.1+(aA .i64 a5.1)))+(aA .i64 a9.2)),a9.1))
   else
    none
 else
  some (.done s.2.2.2.2.2.2.2)
def CZ (N:Nat) (p0:Int×Int×Int×Int):Option (Int×Int):=
 (aT N) (DV N) (p0.1,p0.2.1,p0.2.2.1,p0.2.2.2,0,0,0,0,0)
def aHK (N:Nat):aU:=⟨aC.one (aE.agg (bG.row aG8)),aE.agg (bG.row kiu),fun a=>(CZ N) a,.pure,false⟩
theorem aA1 (N:Nat):aB tab 259 (aHK N):=aB.of ZV (cx:=(aN (aH N) [(169,(aAR N)),(283,aU.add64)] [] [] [])) rfl (aM.make ⟨(GD N),QR,trivial⟩ trivial trivial) (fun a=>by kernel_rfl)
def lX (N:Nat) (p0:Int×Int×Int) (p1:Int×Int×Int) (p2:Int×Int):Option Int:=
 ((CZ N) (aA .i64 (p0.2.1-p1.2.1),p2.2,aA .i64 (p0.2.2-p1.2.2),p2.1)).bind fun a0=>
 bif !((a0.1==0)&&(a0.2==0)) then
  bif decide (a0.1<0) then
   some (-1)
  else
   some 1
 else
  ((iZ N) p0.2.2 p1.2.2).bind fun n1=>
  ((dN N) p1.1 p0.1).bind fun n2=>
  ((vD N) [n1,n2]).bind fun n3=>
  some n3
def aGf (N:Nat):aU:=⟨aC.cons (aE.agg (bG.row bY)) (aC.cons (aE.agg (bG.row bY)) (aC.one (aE.agg (bG.row eF)))),aE.int .i64,fun a=>(lX N) a.1 a.2.1 a.2.2,.pure,false⟩
theorem MQ (N:Nat):aB tab 213 (aGf N):=aB.of Y5 (cx:=(aN (aH N) [(259,(aHK N)),(115,(aGd N)),(186,(KV N)),(208,(aGe N))] [] [] [])) rfl (aM.make ⟨(aA1 N),(MO N),(sL N),(MP N),trivial⟩ trivial trivial) (fun a=>by kernel_rfl)
def zP (_:Nat) (p0:Bool×Int×Int) (p1:Int) (p2:Int):Option ((Int×Int)×Int):=
 bif decide (0<p0.2.1) then
  some ((0,0),16)
 else
  bif decide (9223372036854775807<p0.2.2) then
   some ((0,0),16)
  else
   bif decide (0<p1) then
    some ((0,0),16)
   else
    bif decide (9223372036854775807<p2) then
     some ((0,0),16)
    else
     bif p0.1 then
      some ((aA .i64 (0- (aA .i64 p0.2.2)),aA .i64 p2),0)
     else
      some ((aA .i64 p0.2.2,aA .i64 p2),0)
def aHL (N:Nat):aU:=⟨aC.cons (aE.agg (bG.row rB)) (aC.cons (aE.int .u64) (aC.one (aE.int .u64))),aE.tup (aC.cons (aE.agg (bG.row eF)) (aC.one (aE.int .i64))),fun a=>(zP N) a.1 a.2.1 a.2.2,.pure,false⟩
theorem aA2 (N:Nat):aB tab 246 (aHL N):=aB.of ZU (cx:=(aN (aH N) [] [] [] [])) rfl (aM.make trivial trivial trivial) (fun a=>by kernel_rfl)
def C0 (N:Nat) (p0:Int) (p1:Int):Option ((Int×Int)×Int):=
 bif p1==0 then
  some ((0,0),26)
 else
  ((iO N) p0).bind fun n0=>
  ((iO N) p1).bind fun n1=>
  ((yR N) n0 n1).bind fun n2=>
  ((iO N) p0).bind fun n3=>
  bif n2==0 then
   none
  else
   ((iO N) p1).bind fun n4=>
   bif n2==0 then
    none
   else
    ((zP N) (!((decide (p0<0))==(decide (p1<0))),0,aA .u64 (ac n3 n2)) 0 (aA .u64 (ac n4 n2))).bind fun a5=>
    some a5
def aHM (N:Nat):aU:=⟨aC.cons (aE.int .i64) (aC.one (aE.int .i64)),aE.tup (aC.cons (aE.agg (bG.row eF)) (aC.one (aE.int .i64))),fun a=>(C0 N) a.1 a.2,.pure,false⟩
theorem aA3 (N:Nat):aB tab 205 (aHM N):=aB.of Y3 (cx:=(aN (aH N) [(113,(aAJ N)),(112,(aGb N)),(246,(aHL N))] [] [] [])) rfl (aM.make ⟨(F9 N),(MM N),(aA2 N),trivial⟩ trivial trivial) (fun a=>by kernel_rfl)
def zQ (N:Nat) (p0:Int×Int×Int) (p1:Int×Int×Int):Option ((Int×Int)×Int):=
 ((pE N) p0 p1 (0,1)).bind fun n0=>
 bif n0 !=0 then
  some ((0,0),n0)
 else
  bif p0.2.2==p1.2.2 then
   some ((0,0),6)
  else
   ((C0 N) (aA .i64 (p0.2.1-p1.2.1)) (aA .i64 (p1.2.2-p0.2.2))).bind fun a1=>
   some a1
def aHN (N:Nat):aU:=⟨aC.cons (aE.agg (bG.row bY)) (aC.one (aE.agg (bG.row bY))),aE.tup (aC.cons (aE.agg (bG.row eF)) (aC.one (aE.int .i64))),fun a=>(zQ N) a.1 a.2,.pure,false⟩
theorem aA4 (N:Nat):aB tab 140 (aHN N):=aB.of X1 (cx:=(aN (aH N) [(204,(aA0 N)),(205,(aHM N))] [] [] [])) rfl (aM.make ⟨(GG N),(aA3 N),trivial⟩ trivial trivial) (fun a=>by kernel_rfl)
def wZ (N:Nat) (p0:Int×Int×Int) (p1:Int×Int×Int) (p2:Int×Int):Option ((Int×Int)×Bool×Int):=
 ((pE N) p0 p1 p2).bind fun n0=>
 bif n0 !=0 then
  some ((0,0),false,n0)
 else
  ((lX N) p1 p0 p2).bind fun n1=>
  bif decide (0<n1) then
   some (p2,true,0)
  else
   bif decide (p1.2.2<=p0.2.2) then
    some ((0,0),false,0)
   else
    ((zQ N) p0 p1).bind fun a2=>
    some (a2.1,a2.2==0,a2.2)
def aHO (N:Nat):aU:=⟨aC.cons (aE.agg (bG.row bY)) (aC.cons (aE.agg (bG.row bY)) (aC.one (aE.agg (bG.row eF)))),aE.tup (aC.cons (aE.agg (bG.row eF)) (aC.cons aE.bool (aC.one (aE.int .i64)))),fun a=>(wZ N) a.1 a.2.1 a.2.2,.pure,false⟩
theorem aA5 (N:Nat):aB tab 192 (aHO N):=aB.of YX (cx:=(aN (aH N) [(204,(aA0 N)),(213,(aGf N)),(140,(aHN N))] [] [] [])) rfl (aM.make ⟨(GG N),(MQ N),(aA4 N),trivial⟩ trivial trivial) (fun a=>by kernel_rfl)
def pF (N:Nat) (p0:Field) (p1:Int×Int) (p2:Int×Int):Option ((Int×Int)×Bool×Int):=
 ((gK N) p0 p1.2).bind fun a0=>
 ((gK N) p0 p1.1).bind fun a1=>
 ((wZ N) a0 a1 p2).bind fun a2=>
 some a2
def aA6 (N:Nat):aU:=⟨aC.cons (aE.agg aW) (aC.cons (aE.agg (bG.row eF)) (aC.one (aE.agg (bG.row eF)))),aE.tup (aC.cons (aE.agg (bG.row eF)) (aC.cons aE.bool (aC.one (aE.int .i64)))),fun a=>(pF N) a.1 a.2.1 a.2.2,.pure,false⟩
theorem GH (N:Nat):aB tab 131 (aA6 N):=aB.of XX (cx:=(aN (aH N) [(193,(aAZ N)),(192,(aHO N))] [] [] [])) rfl (aM.make ⟨(GF N),(aA5 N),trivial⟩ trivial trivial) (fun a=>by kernel_rfl)
def C1 (N:Nat) (s:((List (Int×Int×Int))×(List (Int×Int×Int))×Int×Int×Int×Int×(List (Int×Int×Int))×Int×(List (Int×Int×Int))×(List Int)×(List Bool)×(List Int)×(List (Int×Int×Int×Int×Int))×(List Int)×(List (Int×Int×Int)))):Option (bB ((List (Int×Int×Int))×(List (Int×Int×Int))×Int×Int×Int×Int×(List (Int×Int×Int))×Int×(List (Int×Int×Int))×(List Int)×(List Bool)×(List Int)×(List (Int×Int×Int×Int×Int))×(List Int)×(List (Int×Int×Int))) (bB (Int×Int×Int×Int×(List (Int×Int×Int))×Int×(List (Int×Int×Int))×(List Int)×(List Bool)×(List Int)×(List (Int×Int×Int×Int×Int))×(List Int)×(List (Int×Int×Int))×(List Int)) Int)):=
 bif decide (s.2.2.2.1<s.2.2.1) then
  (aK s.2.1 s.2.2.2.1).bind fun a0=>
  ((pF N) (Field.mk s.2.2.2.2.2.2.1) a0.2 (s.2.2.2.2.1,s.2.2.2.2.2.1)).bind fun a1=>
  bif a1.2.2 !=0 then
   some (.done (.done 8))
  else
   bif !a1.2.1 then
    some (.next (s.1,s.2.1,s.2.2.1,aA .i64 (s.2.2.2.1+1),s.2.2.2.2))
   else
    bif (aa s.1.length)==0 then
     some (.done (.done 8))
    else
     (aK s.1 0).bind fun a2=>
     bif a2.1 !=a0.1 then
      some (.done (.done 8))
     else
      (aK s.1 0).bind fun a3=>
      bif decide (a3.2.1<0) then
       some (.done (.done 8))
      else
       bif decide (200<=a3.2.1) then
        some (.done (.done 8))
       else
        (aK s.2.2.2.2.2.2.2.2.2.2.2.2.2.1 a3.2.1).bind fun n4=>
        bif decide (n4<0) then
         some (.done (.done 8))
        else
         (aK s.2.2.2.2.2.2.2.2.2.2.2.2.2.1 a3.2.1).bind fun n5=>
         (aK s.2.2.2.2.2.2.2.2.2.2.2.2.1 n5).bind fun a6=>
         bif !((a6.1==a1.1.1)&&((a6.2.1==a1.1.2)&&((a6.2.2.1==a0.1)&&((a6.2.2.2.1==a3.2.1)&&(a6.2.2.2.2==a3.2.2))))) then
          some (.done (.done 8))
         else
          (fO s.1 1 (aa s.1.length)).bind fun l7=>
          some (.next (l7,s.2.1,s.2.2.1,aA .i64 (s.2.2.2.1+1),s.2.2.2.2))
 else
  bif decide (0<(aa s.1.length)) then
   some (.done (.done 8))
  else
   some (.done (.done 0))
def C2 (N:Nat) (s:(Int×Int×Int×Int×(List (Int×Int×Int))×Int×(List (Int×Int×Int))×(List Int)×(List Bool)×(List Int)×(List (Int×Int×Int×Int×Int))×(List Int)×(List (Int×Int×Int))×(List Int))):Option (bB (Int×Int×Int×Int×(List (Int×Int×Int))×Int×(List (Int×Int×Int))×(List Int)×(List Bool)×(List Int)×(List (Int×Int×Int×Int×Int))×(List Int)×(List (Int×Int×Int))×(List Int)) Int):=
 bif decide (s.2.1<s.1) then
  (aK s.2.2.2.2.2.2.2.2.2.2.2.2.2 s.2.1).bind fun n0=>
  bif n0 !=0 then
   some (.done 8)
  else
   some (.next (s.1,aA .i64 (s.2.1+1),s.2.2))
 else
  bif (aa s.2.2.2.2.2.2.2.2.2.2.2.1.length) !=200 then
   some (.done 8)
  else
   bif (aa s.2.2.2.2.2.2.2.2.2.2.1.length) !=(aa s.2.2.2.2.2.2.2.2.2.2.2.2.1.length) then
    some (.done 8)
   else
    (aT N) (C1 N) (s.2.2.2.2.2.2.2.2.2.2.2.2.1,s.2.2.2.2.2.2.1,aa s.2.2.2.2.2.2.1.length,0,s.2.2.1,s.2.2.2.1,s.2.2.2.2.1,s.2.2.2.2.2.1,s.2.2.2.2.2.2.1,s.2.2.2.2.2.2.2.1,s.2.2.2.2.2.2.2.2.1,s.2.2.2.2.2.2.2.2.2.1,s.2.2.2.2.2.2.2.2.2.2.1,s.2.2.2.2.2.2.2.2.2.2.2.1,s.2.2.2.2.2.2.2.2.2.2.2.2.1)
def gL (N:Nat) (p0:aI):Option Int:=
 ((dD N) p0.now).bind fun n0=>
 ((fK N) p0.field).bind fun n1=>
 ((pC N) p0.certs).bind fun n2=>
 ((gS N) p0.agenda).bind fun n3=>
 (aT N) (C2 N) (aa ([n0,n1,n2,n3].length),0,p0.now.1,p0.now.2,p0.field.points,p0.certs.next_,p0.certs.list,p0.agenda.slots.uses,p0.agenda.slots.used,p0.agenda.slots.free,p0.agenda.heap,p0.agenda.where_,p0.due,[n0,n1,n2,n3])
def c64 (N:Nat):aU:=⟨aC.one (aE.agg aX),aE.int .i64,fun a=>(gL N) a,.pure,false⟩
theorem yS (N:Nat):aB tab 64 (c64 N):=aB.of aFL (cx:=(aN (aH N) [(52,(RX N)),(122,(IV N)),(129,(aAL N)),(130,(OA N)),(131,(aA6 N))] [] [] [])) rfl (aM.make ⟨(pA N),(pB N),(GB N),(wY N),(GH N),trivial⟩ trivial trivial) (fun a=>by kernel_rfl)
def pG (N:Nat) (p0:Int×Int×Int) (p1:Int×Int×Int) (p2:Int×Int):Option (Bool×Int):=
 ((pE N) p0 p1 p2).bind fun n0=>
 bif n0 !=0 then
  some (false,n0)
 else
  ((lX N) p0 p1 p2).bind fun n1=>
  some (decide (0<n1),0)
def aGh (N:Nat):aU:=⟨aC.cons (aE.agg (bG.row bY)) (aC.cons (aE.agg (bG.row bY)) (aC.one (aE.agg (bG.row eF)))),aE.tup (aC.cons aE.bool (aC.one (aE.int .i64))),fun a=>(pG N) a.1 a.2.1 a.2.2,.pure,false⟩
theorem MR (N:Nat):aB tab 151 (aGh N):=aB.of X3 (cx:=(aN (aH N) [(204,(aA0 N)),(213,(aGf N))] [] [] [])) rfl (aM.make ⟨(GG N),(MQ N),trivial⟩ trivial trivial) (fun a=>by kernel_rfl)
def rP (_:Nat) (c0:((Int×Int×Int×Int×(List (Int×Int×Int))×(List (Int×Int)))->(Option ((List (Int×Int×Int))×(List (Int×Int)))))) (c1:(Int×Int×Int×Int×(List (Int×Int×Int))×(List (Int×Int)))) (s:(Int×Int×Int×(List (Int×Int×Int))×(List (Int×Int))×Int×Int×Int×Int×Int×(List (Int×Int×Int))×(List (Int×Int×Int)))):Option (bB (Int×Int×Int×(List (Int×Int×Int))×(List (Int×Int))×Int×Int×Int×Int×Int×(List (Int×Int×Int))×(List (Int×Int×Int))) (bB (Int×Int×Nat×Nat×Nat×Int×Int×(List (Int×Int×Int))×(List (Int×Int))×Int×Int×Int×Int×Int) ((List (Int×Int×Int))×(List (Int×Int))))):=
 bif decide (s.2.2.1<s.2.1) then
  (aK s.2.2.2.1 s.2.2.1).bind fun a0=>
  bif a0.1 !=s.2.2.2.2.2.2.2.1 then
   bif decide (s.1<0) then
    none
   else
    bif (nA .i64 (gC .i64 a0.1 s.1) 1)==0 then
     (bE s.2.2.2.2.2.2.2.2.2.2.1 [a0]).bind fun l1=>
     bif (nA .i64 (gC .i64 a0.1 s.1) 1)==0 then
      some (.next (s.1,s.2.1,aA .i64 (s.2.2.1+1),s.2.2.2.1,s.2.2.2.2.1,s.2.2.2.2.2.1,s.2.2.2.2.2.2.1,s.2.2.2.2.2.2.2.1,s.2.2.2.2.2.2.2.2.1,s.2.2.2.2.2.2.2.2.2.1,l1,s.2.2.2.2.2.2.2.2.2.2.2))
     else
      bif (nA .i64 (gC .i64 a0.1 s.1) 1)==1 then
       none
      else
       none
    else
     bif (nA .i64 (gC .i64 a0.1 s.1) 1)==1 then
      (bE s.2.2.2.2.2.2.2.2.2.2.2 [a0]).bind fun l2=>
      bif (nA .i64 (gC .i64 a0.1 s.1) 1)==0 then
       none
      else
       bif (nA .i64 (gC .i64 a0.1 s.1) 1)==1 then
        some (.next (s.1,s.2.1,aA .i64 (s.2.2.1+1),s.2.2.2.1,s.2.2.2.2.1,s.2.2.2.2.2.1,s.2.2.2.2.2.2.1,s.2.2.2.2.2.2.2.1,s.2.2.2.2.2.2.2.2.1,s.2.2.2.2.2.2.2.2.2.1,s.2.2.2.2.2.2.2.2.2.2.1,l2))
       else
        none
     else
      none
  else
   some (.next (s.1,s.2.1,aA .i64 (s.2.2.1+1),s.2.2.2))
 else
  (c0 (s.2.2.2.2.2.1,s.2.2.2.2.2.2.1,s.2.2.2.2.2.2.2.1,aA .i64 (s.1+1),s.2.2.2.2.2.2.2.2.2.2.1,s.2.2.2.2.1)).bind fun a3=>
  (c0 (s.2.2.2.2.2.1,s.2.2.2.2.2.2.1,s.2.2.2.2.2.2.2.1,aA .i64 (s.1+1),s.2.2.2.2.2.2.2.2.2.2.2,a3.2)).bind fun a4=>
  bif s.2.2.2.1.length==c1.2.2.2.2.1.length then
   some (.done (.done (s.2.2.2.1,a4.2)))
  else
   none
def rQ (N:Nat) (c0:((Int×Int×Int×Int×(List (Int×Int×Int))×(List (Int×Int)))->(Option ((List (Int×Int×Int))×(List (Int×Int)))))) (c1:(Int×Int×Int×Int×(List (Int×Int×Int))×(List (Int×Int)))) (s:(Int×Int×Nat×Nat×Nat×Int×Int×(List (Int×Int×Int))×(List (Int×Int))×Int×Int×Int×Int×Int)):Option (bB (Int×Int×Nat×Nat×Nat×Int×Int×(List (Int×Int×Int))×(List (Int×Int))×Int×Int×Int×Int×Int) ((List (Int×Int×Int))×(List (Int×Int)))):=
 bif decide (s.2.2.2.2.2.2.1<s.2.2.2.2.2.1) then
  (aK ((s.2.2.2.2.2.2.2.1.drop s.2.2.1).take s.2.2.2.1) s.2.2.2.2.2.2.1).bind fun a0=>
  ((pG N) a0 s.2.2.2.2.2.2.2.2.2.2.2 (s.2.2.2.2.2.2.2.2.2.1,s.2.2.2.2.2.2.2.2.2.2.1)).bind fun a1=>
  bif a1.1 then
   some (.next (s.1,s.2.1,s.2.2.1,s.2.2.2.1,s.2.2.2.2.1,s.2.2.2.2.2.1,aA .i64 (s.2.2.2.2.2.2.1+1),s.2.2.2.2.2.2.2.1,s.2.2.2.2.2.2.2.2.1,s.2.2.2.2.2.2.2.2.2.1,s.2.2.2.2.2.2.2.2.2.2.1,a0))
  else
   some (.next (s.1,s.2.1,s.2.2.1,s.2.2.2.1,s.2.2.2.2.1,s.2.2.2.2.2.1,aA .i64 (s.2.2.2.2.2.2.1+1),s.2.2.2.2.2.2.2))
 else
  (aT N) ((rP N) c0 c1) (s.2.1,aa s.2.2.2.2.2.2.2.1.length,0,s.2.2.2.2.2.2.2.1,tD s.2.2.2.2.2.2.2.2.1 s.2.2.2.2.2.2.2.2.2.2.2.1 s.1,s.2.2.2.2.2.2.2.2.2.1,s.2.2.2.2.2.2.2.2.2.2.1,s.2.2.2.2.2.2.2.2.2.2.2.1,s.2.2.2.2.2.2.2.2.2.2.2.2.1,s.2.2.2.2.2.2.2.2.2.2.2.2.2,[],[])
def sQ (N:Nat) (self:(Int×Int×Int×Int×(List (Int×Int×Int))×(List (Int×Int)))->Option ((List (Int×Int×Int))×(List (Int×Int)))) (a:(Int×Int×Int×Int×(List (Int×Int×Int))×(List (Int×Int)))):Option ((List (Int×Int×Int))×(List (Int×Int))):=
 bif (aa a.2.2.2.2.1.length)==0 then
  bif a.2.2.2.2.1.length==a.2.2.2.2.1.length then
   some a.2.2.2.2
  else
   none
 else
  (aK a.2.2.2.2.1 0).bind fun a0=>
  bif ((decide (0<=1))&&(decide (1<=(aa a.2.2.2.2.1.length))))&&(decide ((aa a.2.2.2.2.1.length)<=(aa a.2.2.2.2.1.length))) then
   (aT N) ((rQ N) self a) (a.2.2.1,a.2.2.2.1,1,((aa a.2.2.2.2.1.length).toNat) -1,a.2.2.2.2.1.length-1,aa (((aa a.2.2.2.2.1.length).toNat) -1),0,a.2.2.2.2.1,a.2.2.2.2.2,a.1,a.2.1,a0)
  else
   none
def eW (N:Nat):Nat->(Int×Int×Int×Int×(List (Int×Int×Int))×(List (Int×Int)))->Option ((List (Int×Int×Int))×(List (Int×Int)))
 |0,_=>none
 |n+1,a=>(sQ N) ((eW N) n) a
def jA (N:Nat) (a:(Int×Int×Int×Int×(List (Int×Int×Int))×(List (Int×Int)))):Option ((List (Int×Int×Int))×(List (Int×Int))):=(eW N) 1000000 a
def KW (N:Nat):bV:=⟨[.i,.i,.i,.i,.l [.i .i64,.i .i64,.i .i64],.l [.i .i64,(.i .i64)]],[.own 0 false,.agg [.int .i64 0,.int .i64 0],.int .i64 0,.int .i64 0,.mp 1],[.arr [.i .i64,.i .i64,.i .i64] [],.tab (.i .i64) []],[.l [.i .i64,.i .i64,.i .i64],.l [.i .i64,(.i .i64)]],.tup [],[.arr [.i .i64,.i .i64,.i .i64] [],.tab (.i .i64) []],fun a=>(jA N) a⟩
theorem C3 (N:Nat): ∀n,eE tab 111 ⟨[.i,.i,.i,.i,.l [.i .i64,.i .i64,.i .i64],.l [.i .i64,(.i .i64)]],[.own 0 false,.agg [.int .i64 0,.int .i64 0],.int .i64 0,.int .i64 0,.mp 1],[.arr [.i .i64,.i .i64,.i .i64] [],.tab (.i .i64) []],[.l [.i .i64,.i .i64,.i .i64],.l [.i .i64,(.i .i64)]],.tup [],[.arr [.i .i64,.i .i64,.i .i64] [],.tab (.i .i64) []],fun a=>(eW N) n a⟩
 |0=>eE.zero (fun _=>rfl)
 |n+1=>eE.of L3 (wd:=false) (cx:=(aN (aH N) [(151,(aGh N))] [(111,⟨[.i,.i,.i,.i,.l [.i .i64,.i .i64,.i .i64],.l [.i .i64,(.i .i64)]],[.own 0 false,.agg [.int .i64 0,.int .i64 0],.int .i64 0,.int .i64 0,.mp 1],[.arr [.i .i64,.i .i64,.i .i64] [],.tab (.i .i64) []],[.l [.i .i64,.i .i64,.i .i64],.l [.i .i64,(.i .i64)]],.tup [],[.arr [.i .i64,.i .i64,.i .i64] [],.tab (.i .i64) []],fun a=>(eW N) n a⟩)] [] [])) (aM.make ⟨(MR N),trivial⟩ ⟨((C3 N) n),trivial⟩ trivial) (fun a=>by kernel_rfl)
theorem EX (N:Nat):eE tab 111 (KW N):=(C3 N) 1000000
def rR (N:Nat) (s:(Int×(List (Int×Int×Int))×Int×Int×(List (Int×Int))×Int×Int×Int×Int×Int×(List (Int×Int×Int))×(List (Int×Int×Int)))):Option (bB (Int×(List (Int×Int×Int))×Int×Int×(List (Int×Int))×Int×Int×Int×Int×Int×(List (Int×Int×Int))×(List (Int×Int×Int))) (bB ((List (Int×Int×Int))×Int×Int×(List (Int×Int×Int))×Int×Int×(List (Int×Int))×Int×Int×Int×Int×Int) (List (Int×Int)))):=
 bif decide (s.2.2.2.1<s.2.2.1) then
  (aK s.2.1 s.2.2.2.1).bind fun a0=>
  bif a0.1 !=s.2.2.2.2.2.2.2.1 then
   bif decide (s.1<0) then
    none
   else
    bif (nA .i64 (gC .i64 a0.1 s.1) 1)==0 then
     (bE s.2.2.2.2.2.2.2.2.2.2.1 [a0]).bind fun l1=>
     bif (nA .i64 (gC .i64 a0.1 s.1) 1)==0 then
      some (.next (s.1,s.2.1,s.2.2.1,aA .i64 (s.2.2.2.1+1),s.2.2.2.2.1,s.2.2.2.2.2.1,s.2.2.2.2.2.2.1,s.2.2.2.2.2.2.2.1,s.2.2.2.2.2.2.2.2.1,s.2.2.2.2.2.2.2.2.2.1,l1,s.2.2.2.2.2.2.2.2.2.2.2))
     else
      bif (nA .i64 (gC .i64 a0.1 s.1) 1)==1 then
       none
      else
       none
    else
     bif (nA .i64 (gC .i64 a0.1 s.1) 1)==1 then
      (bE s.2.2.2.2.2.2.2.2.2.2.2 [a0]).bind fun l2=>
      bif (nA .i64 (gC .i64 a0.1 s.1) 1)==0 then
       none
      else
       bif (nA .i64 (gC .i64 a0.1 s.1) 1)==1 then
        some (.next (s.1,s.2.1,s.2.2.1,aA .i64 (s.2.2.2.1+1),s.2.2.2.2.1,s.2.2.2.2.2.1,s.2.2.2.2.2.2.1,s.2.2.2.2.2.2.2.1,s.2.2.2.2.2.2.2.2.1,s.2.2.2.2.2.2.2.2.2.1,s.2.2.2.2.2.2.2.2.2.2.1,l2))
       else
        none
     else
      none
  else
   some (.next (s.1,s.2.1,s.2.2.1,aA .i64 (s.2.2.2.1+1),s.2.2.2.2))
 else
  ((jA N) (s.2.2.2.2.2.1,s.2.2.2.2.2.2.1,s.2.2.2.2.2.2.2.1,aA .i64 (s.1+1),s.2.2.2.2.2.2.2.2.2.2.1,s.2.2.2.2.1)).bind fun a3=>
  ((jA N) (s.2.2.2.2.2.1,s.2.2.2.2.2.2.1,s.2.2.2.2.2.2.2.1,aA .i64 (s.1+1),s.2.2.2.2.2.2.2.2.2.2.2,a3.2)).bind fun a4=>
  some (.done (.done a4.2))
def rS (N:Nat) (s:((List (Int×Int×Int))×Int×Int×(List (Int×Int×Int))×Int×Int×(List (Int×Int))×Int×Int×Int×Int×Int)):Option (bB ((List (Int×Int×Int))×Int×Int×(List (Int×Int×Int))×Int×Int×(List (Int×Int))×Int×Int×Int×Int×Int) (List (Int×Int))):=
 bif decide (s.2.2.2.2.2.1<s.2.2.2.2.1) then
  (aK s.2.2.2.1 s.2.2.2.2.2.1).bind fun a0=>
  ((pG N) a0 s.2.2.2.2.2.2.2.2.2 (s.2.2.2.2.2.2.2.1,s.2.2.2.2.2.2.2.2.1)).bind fun a1=>
  bif a1.1 then
   some (.next (s.1,s.2.1,s.2.2.1,s.2.2.2.1,s.2.2.2.2.1,aA .i64 (s.2.2.2.2.2.1+1),s.2.2.2.2.2.2.1,s.2.2.2.2.2.2.2.1,s.2.2.2.2.2.2.2.2.1,a0))
  else
   some (.next (s.1,s.2.1,s.2.2.1,s.2.2.2.1,s.2.2.2.2.1,aA .i64 (s.2.2.2.2.2.1+1),s.2.2.2.2.2.2))
 else
  (aT N) (rR N) (s.2.2.1,s.1,aa s.1.length,0,tD s.2.2.2.2.2.2.1 s.2.2.2.2.2.2.2.2.2.1 s.2.1,s.2.2.2.2.2.2.2.1,s.2.2.2.2.2.2.2.2.1,s.2.2.2.2.2.2.2.2.2.1,s.2.2.2.2.2.2.2.2.2.2.1,s.2.2.2.2.2.2.2.2.2.2.2,[],[])
def sR (N:Nat) (_:((List (Int×Int×Int))×Int×Int×Int×Int×(List (Int×Int)))->Option (List (Int×Int))) (a:((List (Int×Int×Int))×Int×Int×Int×Int×(List (Int×Int)))):Option (List (Int×Int)):=
 bif (aa a.1.length)==0 then
  some a.2.2.2.2.2
 else
  (aK a.1 0).bind fun a0=>
  (fO a.1 1 (aa a.1.length)).bind fun l1=>
  (aT N) (rS N) (a.1,a.2.2.2.1,a.2.2.2.2.1,l1,aa l1.length,0,a.2.2.2.2.2,a.2.1,a.2.2.1,a0)
def eX (N:Nat):Nat->((List (Int×Int×Int))×Int×Int×Int×Int×(List (Int×Int)))->Option (List (Int×Int))
 |0,_=>none
 |n+1,a=>(sR N) ((eX N) n) a
def mP (N:Nat) (a:((List (Int×Int×Int))×Int×Int×Int×Int×(List (Int×Int)))):Option (List (Int×Int)):=(eX N) 1000000 a
def Q8 (N:Nat):bV:=⟨[.l [.i .i64,.i .i64,.i .i64],.i,.i,.i,.i,.l [.i .i64,(.i .i64)]],[.sl [.i .i64,.i .i64,.i .i64] [],.agg [.int .i64 0,.int .i64 0],.int .i64 0,.int .i64 0,.mp 0],[.tab (.i .i64) []],[.l [.i .i64,(.i .i64)]],.tup [],[.tab (.i .i64) []],fun a=>(mP N) a⟩
theorem C4 (N:Nat): ∀n,eE tab 111 ⟨[.l [.i .i64,.i .i64,.i .i64],.i,.i,.i,.i,.l [.i .i64,(.i .i64)]],[.sl [.i .i64,.i .i64,.i .i64] [],.agg [.int .i64 0,.int .i64 0],.int .i64 0,.int .i64 0,.mp 0],[.tab (.i .i64) []],[.l [.i .i64,(.i .i64)]],.tup [],[.tab (.i .i64) []],fun a=>(eX N) n a⟩
 |0=>eE.zero (fun _=>rfl)
 |n+1=>eE.of L3 (wd:=true) (cx:=(aN (aH N) [(151,(aGh N))] [(111,⟨[.l [.i .i64,.i .i64,.i .i64],.i,.i,.i,.i,.l [.i .i64,(.i .i64)]],[.sl [.i .i64,.i .i64,.i .i64] [],.agg [.int .i64 0,.int .i64 0],.int .i64 0,.int .i64 0,.mp 0],[.tab (.i .i64) []],[.l [.i .i64,(.i .i64)]],.tup [],[.tab (.i .i64) []],fun a=>(eX N) n a⟩),(111,(KW N))] [] [])) (aM.make ⟨(MR N),trivial⟩ ⟨((C4 N) n),(EX N),trivial⟩ trivial) (fun a=>by kernel_rfl)
theorem OB (N:Nat):eE tab 111 (Q8 N):=(C4 N) 1000000
def C5 (_:Nat) (s:((List (Int×Int×Int))×Int×Int×(List (Int×Int))×(List Int)×(List (Int×Int)))):Option (bB ((List (Int×Int×Int))×Int×Int×(List (Int×Int))×(List Int)×(List (Int×Int))) ((List Int)×(List (Int×Int)))):=
 bif decide (s.2.2.1<s.2.1) then
  (aK s.1 s.2.2.1).bind fun a0=>
  (bE s.2.2.2.2.1 [qT 0 s.2.2.2.1 a0.1]).bind fun l1=>
  bif decide (0<=(qT 0 s.2.2.2.1 a0.1)) then
   (bE s.2.2.2.2.2 [(a0.1,qT 0 s.2.2.2.1 a0.1)]).bind fun l2=>
   some (.next (s.1,s.2.1,aA .i64 (s.2.2.1+1),s.2.2.2.1,l1,l2))
  else
   some (.next (s.1,s.2.1,aA .i64 (s.2.2.1+1),s.2.2.2.1,l1,s.2.2.2.2.2))
 else
  some (.done s.2.2.2.2)
def kJ (N:Nat) (p0:Field) (p1:Int×Int):Option ((List Int)×(List (Int×Int))):=
 ((mP N) (p0.points,p1.1,p1.2,-1,0,[])).bind fun l0=>
 (aT N) (C5 N) (p0.points,aa p0.points.length,0,l0,[],[])
def c50 (N:Nat):aU:=⟨aC.cons (aE.agg aW) (aC.one (aE.agg (bG.row eF))),aE.tup (aC.cons (aE.sl ki) (aC.one (aE.sl eF))),fun a=>(kJ N) a.1 a.2,.frz,false⟩
theorem GI (N:Nat):aB tab 50 (c50 N):=aB.of aFB (cx:=(aN (aH N) [] [(111,(KW N)),(111,(Q8 N))] [] [])) rfl (aM.make trivial ⟨(EX N),(OB N),trivial⟩ trivial) (fun a=>by kernel_rfl)
def sS (_:Nat) (s:((List Int)×(List Int)×Int×Int)):Option (bB ((List Int)×(List Int)×Int×Int) Bool):=
 bif decide (s.2.2.2<s.2.2.1) then
  (aK s.1 s.2.2.2).bind fun n0=>
  (aK s.2.1 s.2.2.2).bind fun n1=>
  bif n0 !=n1 then
   some (.done false)
  else
   some (.next (s.1,s.2.1,s.2.2.1,aA .i64 (s.2.2.2+1)))
 else
  some (.done true)
def nX (N:Nat) (p0:List Int) (p1:List Int):Option Bool:=
 bif (aa p0.length) !=(aa p1.length) then
  some false
 else
  (aT N) (sS N) (p0,p1,aa p0.length,0)
def c65 (N:Nat):aU:=⟨aC.cons (aE.sl ki) (aC.one (aE.sl ki)),aE.bool,fun a=>(nX N) a.1 a.2,.pure,false⟩
theorem aGi (N:Nat):aB tab 65 (c65 N):=aB.of aFM (cx:=(aN (aH N) [] [] [] [])) rfl (aM.make trivial trivial trivial) (fun a=>by kernel_rfl)
def rT (_:Nat) (s:((List (Int×Int))×Int×Int×Int×Int)):Option (bB ((List (Int×Int))×Int×Int×Int×Int) Int):=
 bif decide (s.2.2.1<s.2.1) then
  (aK s.1 s.2.2.1).bind fun a0=>
  bif (s.2.2.2.1==a0.1)&&(s.2.2.2.2==a0.2) then
   some (.done s.2.2.1)
  else
   some (.next (s.1,s.2.1,aA .i64 (s.2.2.1+1),s.2.2.2))
 else
  some (.done (-1))
def mQ (N:Nat) (p0:List (Int×Int)) (p1:Int×Int):Option Int:=
 (aT N) (rT N) (p0,aa p0.length,0,p1)
def aHQ (N:Nat):aU:=⟨aC.cons (aE.sl eF) (aC.one (aE.agg (bG.row eF))),aE.int .i64,fun a=>(mQ N) a.1 a.2,.pure,false⟩
theorem aA7 (N:Nat):aB tab 132 (aHQ N):=aB.of XY (cx:=(aN (aH N) [] [] [] [])) rfl (aM.make trivial trivial trivial) (fun a=>by kernel_rfl)
def eQ (N:Nat) (p0:List (Int×Int)) (p1:Int×Int):Option Bool:=
 ((mQ N) p0 p1).bind fun n0=>
 some (decide (0<=n0))
def c66 (N:Nat):aU:=⟨aC.cons (aE.sl eF) (aC.one (aE.agg (bG.row eF))),aE.bool,fun a=>(eQ N) a.1 a.2,.pure,false⟩
theorem KX (N:Nat):aB tab 66 (c66 N):=aB.of aFN (cx:=(aN (aH N) [(132,(aHQ N))] [] [] [])) rfl (aM.make ⟨(aA7 N),trivial⟩ trivial trivial) (fun a=>by kernel_rfl)
def AE (N:Nat) (s:((List (Int×Int))×(List (Int×Int×Int))×Int×Int)):Option (bB ((List (Int×Int))×(List (Int×Int×Int))×Int×Int) Int):=
 bif decide (s.2.2.2<s.2.2.1) then
  (aK s.2.1 s.2.2.2).bind fun a0=>
  ((eQ N) s.1 a0.2).bind fun b1=>
  bif !b1 then
   some (.done 8)
  else
   some (.next (s.1,s.2.1,s.2.2.1,aA .i64 (s.2.2.2+1)))
 else
  some (.done 0)
def cL (N:Nat) (p0:aP):Option Int:=
 ((gL N) p0.clock).bind fun n0=>
 bif n0 !=0 then
  some 8
 else
  ((kJ N) p0.clock.field p0.clock.now).bind fun a1=>
  ((nX N) a1.1 p0.up).bind fun b2=>
  bif !b2 then
   some 8
  else
   bif (aa a1.2.length) !=(aa p0.clock.certs.list.length) then
    some 8
   else
    (aT N) (AE N) (a1.2,p0.clock.certs.list,aa p0.clock.certs.list.length,0)
def c18 (N:Nat):aU:=⟨aC.one (aE.agg bS),aE.int .i64,fun a=>(cL N) a,.pure,false⟩
theorem vE (N:Nat):aB tab 18 (c18 N):=aB.of aFm (cx:=(aN (aH N) [(64,(c64 N)),(50,(c50 N)),(65,(c65 N)),(66,(c66 N))] [] [] [])) rfl (aM.make ⟨(yS N),(GI N),(aGi N),(KX N),trivial⟩ trivial trivial) (fun a=>by kernel_rfl)
def gT (N:Nat) (p0:aP):Option ((List (Int×Int))×Int):=
 ((cL N) p0).bind fun n0=>
 bif n0 !=0 then
  some ([],n0)
 else
  ((kJ N) p0.clock.field p0.clock.now).bind fun a1=>
  some (a1.2,0)
def c12 (N:Nat):aU:=⟨aC.one (aE.agg bS),aE.tup (aC.cons (aE.sl eF) (aC.one (aE.int .i64))),fun a=>(gT N) a,.frz,false⟩
theorem aGj (N:Nat):aB tab 12 (c12 N):=aB.of aFg (cx:=(aN (aH N) [(18,(c18 N)),(50,(c50 N))] [] [] [])) rfl (aM.make ⟨(vE N),(GI N),trivial⟩ trivial trivial) (fun a=>by kernel_rfl)
def sU (_:Nat) (s:((List Int)×Int×Int×Int)):Option (bB ((List Int)×Int×Int×Int) Int):=
 bif decide (s.2.2.2<s.2.2.1) then
  (aK s.1 s.2.2.2).bind fun n0=>
  bif s.2.1==n0 then
   some (.done s.2.2.2)
  else
   some (.next (s.1,s.2.1,s.2.2.1,aA .i64 (s.2.2.2+1)))
 else
  some (.done (-1))
def nY (N:Nat) (p0:List Int) (p1:Int):Option Int:=
 (aT N) (sU N) (p0,p1,aa p0.length,0)
def c51 (N:Nat):aU:=⟨aC.cons (aE.sl ki) (aC.one (aE.int .i64)),aE.int .i64,fun a=>(nY N) a.1 a.2,.pure,false⟩
theorem aGk (N:Nat):aB tab 51 (c51 N):=aB.of aFC (cx:=(aN (aH N) [] [] [] [])) rfl (aM.make trivial trivial trivial) (fun a=>by kernel_rfl)
def dW (N:Nat) (p0:aP):Option (Int×Int):=
 ((cL N) p0).bind fun n0=>
 bif n0 !=0 then
  some (0,n0)
 else
  ((nY N) p0.up (-1)).bind fun n1=>
  bif decide (n1<0) then
   some (0,42)
  else
   (aK p0.clock.field.points n1).bind fun a2=>
   some (a2.1,0)
def c13 (N:Nat):aU:=⟨aC.one (aE.agg bS),aE.tup (aC.cons (aE.int .i64) (aC.one (aE.int .i64))),fun a=>(dW N) a,.pure,false⟩
theorem Q9 (N:Nat):aB tab 13 (c13 N):=aB.of aFh (cx:=(aN (aH N) [(18,(c18 N)),(51,(c51 N))] [] [] [])) rfl (aM.make ⟨(vE N),(aGk N),trivial⟩ trivial trivial) (fun a=>by kernel_rfl)
def C6 (N:Nat) (p0:aF):Option ((Int×Int×Int×Int×Int)×Int):=
 ((gS N) p0).bind fun n0=>
 bif n0 !=0 then
  some ((0,0,0,0,0),n0)
 else
  bif (aa p0.heap.length)==0 then
   some ((0,0,0,0,0),42)
  else
   (aK p0.heap 0).bind fun a1=>
   some (a1,0)
def aHR (N:Nat):aU:=⟨aC.one (aE.agg bW),aE.tup (aC.cons (aE.agg (bG.row fC)) (aC.one (aE.int .i64))),fun a=>(C6 N) a,.pure,false⟩
theorem aA8 (N:Nat):aB tab 170 (aHR N):=aB.of YF (cx:=(aN (aH N) [(130,(OA N))] [] [] [])) rfl (aM.make ⟨(wY N),trivial⟩ trivial trivial) (fun a=>by kernel_rfl)
def rU (N:Nat) (p0:aI) (p1:Int×Int):Option (Bool×Int):=
 ((gL N) p0).bind fun n0=>
 ((dD N) p1).bind fun n1=>
 bif (if n1>n0 then n1 else n0) !=0 then
  some (false,if n1>n0 then n1 else n0)
 else
  ((nW N) p1 p0.now).bind fun a2=>
  bif decide (a2.1<0) then
   some (false,44)
  else
   ((C6 N) p0.agenda).bind fun a3=>
   bif a3.2 !=0 then
    some (false,0)
   else
    ((nW N) (a3.1.1,a3.1.2.1) p1).bind fun a4=>
    some (decide (a4.1<=0),0)
def aGl (N:Nat):aU:=⟨aC.cons (aE.agg aX) (aC.one (aE.agg (bG.row eF))),aE.tup (aC.cons aE.bool (aC.one (aE.int .i64))),fun a=>(rU N) a.1 a.2,.pure,false⟩
theorem MS (N:Nat):aB tab 118 (aGl N):=aB.of XK (cx:=(aN (aH N) [(64,(c64 N)),(52,(RX N)),(53,(c53 N)),(170,(aHR N))] [] [] [])) rfl (aM.make ⟨(yS N),(pA N),(KU N),(aA8 N),trivial⟩ trivial trivial) (fun a=>by kernel_rfl)
def rV (N:Nat) (p0:Int×Int×Int) (p1:Int):Option Int:=
 ((dN N) p0.1 p1).bind fun n0=>
 some n0
def aHS (N:Nat):aU:=⟨aC.cons (aE.agg (bG.row bY)) (aC.one (aE.int .i64)),aE.int .i64,fun a=>(rV N) a.1 a.2,.pure,false⟩
theorem aA9 (N:Nat):aB tab 264 (aHS N):=aB.of ZZ (cx:=(aN (aH N) [(186,(KV N))] [] [] [])) rfl (aM.make ⟨(sL N),trivial⟩ trivial trivial) (fun a=>by kernel_rfl)
def eJ (N:Nat) (s:((List (Int×Int×Int))×Int×Int×Int×Int)):Option (bB ((List (Int×Int×Int))×Int×Int×Int×Int) (Int×Bool)):=
 bif decide (s.2.2.2.1<s.2.2.2.2) then
  (aK s.1 (aA .i64 (gC .u64 (aA .u64 (aA .i64 (s.2.2.2.1+s.2.2.2.2))) 1))).bind fun a0=>
  ((rV N) a0 s.2.1).bind fun n1=>
  bif decide (n1<0) then
   some (.next (s.1,s.2.1,s.2.2.1,aA .i64 ((aA .i64 (gC .u64 (aA .u64 (aA .i64 (s.2.2.2.1+s.2.2.2.2))) 1))+1),s.2.2.2.2))
  else
   some (.next (s.1,s.2.1,s.2.2.1,s.2.2.2.1,aA .i64 (gC .u64 (aA .u64 (aA .i64 (s.2.2.2.1+s.2.2.2.2))) 1)))
 else
  bif decide (s.2.2.2.1<s.2.2.1) then
   (aK s.1 s.2.2.2.1).bind fun a2=>
   ((rV N) a2 s.2.1).bind fun n3=>
   some (.done (s.2.2.2.1,n3==0))
  else
   some (.done (s.2.2.2.1,false))
def cM (N:Nat) (p0:List (Int×Int×Int)) (p1:Int) (_:Unit):Option (Int×Bool):=
 (aT N) (eJ N) (p0,p1,aa p0.length,0,aa p0.length)
def IY (N:Nat):aU:=⟨aC.cons (aE.sl bY) (aC.cons (aE.int .i64) (aC.one (aE.clo 264 aC.nil))),aE.tup (aC.cons (aE.int .i64) (aC.one aE.bool)),fun a=>(cM N) a.1 a.2.1 a.2.2,.pure,false⟩
theorem IZ (N:Nat):aB tab 263 (IY N):=aB.of ZY (cx:=(aN (aH N) [(264,(aHS N))] [] [] [])) rfl (aM.make ⟨(aA9 N),trivial⟩ trivial trivial) (fun a=>by kernel_rfl)
def EY (N:Nat) (p0:aO) (p1:Int):Option (Int×Int):=
 ((pC N) p0).bind fun n0=>
 bif n0 !=0 then
  some (0,n0)
 else
  ((cM N) p0.list p1 ()).bind fun a1=>
  bif !a1.2 then
   some (0,6)
  else
   some (a1.1,0)
def aHT (N:Nat):aU:=⟨aC.cons (aE.agg eP) (aC.one (aE.int .i64)),aE.tup (aC.cons (aE.int .i64) (aC.one (aE.int .i64))),fun a=>(EY N) a.1 a.2,.pure,false⟩
theorem aBa (N:Nat):aB tab 223 (aHT N):=aB.of ZD (cx:=(aN (aH N) [(129,(aAL N)),(263,(IY N))] [] [] [])) rfl (aM.make ⟨(GB N),(IZ N),trivial⟩ trivial trivial) (fun a=>by kernel_rfl)
def iP (_:Nat) (a:(Int×Int×(List (Int×Int×Int)))):Option (Nat×Nat×(List (Int×Int×Int))):=
 bif (((decide (0<=a.1))&&(decide (a.1<=a.2.1)))&&(decide (a.2.1<=(aa a.2.2.length))))&&(decide ((aa a.2.2.length)<=(aa a.2.2.length))) then
  bif a.1==a.2.1 then
   bif a.2.2.length==a.2.2.length then
    some (a.2.2.length,a.2.2.length,a.2.2)
   else
    none
  else
   (fO a.2.2 0 a.1).bind fun _=>
   bif ((decide (0<=a.2.1))&&(decide (a.2.1<=(aa a.2.2.length))))&&(decide ((aa a.2.2.length)<=(aa a.2.2.length))) then
    bif ((a.2.2.drop (0+a.2.1.toNat)).take (((aa a.2.2.length).toNat) -a.2.1.toNat)).isEmpty then
     bif ((decide (0<=(aa a.1.toNat)))&&(decide ((aa a.1.toNat)<=(aa a.2.2.length))))&&(decide ((aa a.2.2.length)<=(aa a.2.2.length))) then
      bif ah (((aa a.2.2.length).toNat) - ((aa a.1.toNat).toNat)) 0 then
       bif a.2.2.length==a.2.2.length then
        some (a.1.toNat,a.2.2.length,a.2.2)
       else
        none
      else
       bif (ag ((0+((aa a.1.toNat).toNat))+(((aa a.2.2.length).toNat) - ((aa a.1.toNat).toNat))) a.2.2.length)&&(!false) then
        bif ((dP a.2.2 (0+((aa a.1.toNat).toNat)) (af (((aa a.2.2.length).toNat) - ((aa a.1.toNat).toNat)) (0,0,0))).length)==a.2.2.length then
         some (a.1.toNat,a.2.2.length,dP a.2.2 (0+((aa a.1.toNat).toNat)) (af (((aa a.2.2.length).toNat) - ((aa a.1.toNat).toNat)) (0,0,0)))
        else
         none
       else
        none
     else
      none
    else
     bif ag (a.1.toNat+(((a.2.2.drop (0+a.2.1.toNat)).take (((aa a.2.2.length).toNat) -a.2.1.toNat)).length)) a.2.2.length then
      bif (ag (a.1.toNat+(((a.2.2.drop (0+a.2.1.toNat)).take (((aa a.2.2.length).toNat) -a.2.1.toNat)).length)) a.2.2.length)&&(!false) then
       bif ((decide (0<=(aa (a.1.toNat+(((a.2.2.drop (0+a.2.1.toNat)).take (((aa a.2.2.length).toNat) -a.2.1.toNat)).length)))))&&(decide ((aa (a.1.toNat+(((a.2.2.drop (0+a.2.1.toNat)).take (((aa a.2.2.length).toNat) -a.2.1.toNat)).length)))<=(aa a.2.2.length))))&&(decide ((aa a.2.2.length)<=(aa a.2.2.length))) then
        bif ah (((aa a.2.2.length).toNat) - ((aa (a.1.toNat+(((a.2.2.drop (0+a.2.1.toNat)).take (((aa a.2.2.length).toNat) -a.2.1.toNat)).length))).toNat)) 0 then
         bif ((dP a.2.2 a.1.toNat ((a.2.2.drop (0+a.2.1.toNat)).take (((aa a.2.2.length).toNat) -a.2.1.toNat))).length)==a.2.2.length then
          some (a.1.toNat+(((a.2.2.drop (0+a.2.1.toNat)).take (((aa a.2.2.length).toNat) -a.2.1.toNat)).length),a.2.2.length,dP a.2.2 a.1.toNat ((a.2.2.drop (0+a.2.1.toNat)).take (((aa a.2.2.length).toNat) -a.2.1.toNat)))
         else
          none
        else
         bif (ag ((0+((aa (a.1.toNat+(((a.2.2.drop (0+a.2.1.toNat)).take (((aa a.2.2.length).toNat) -a.2.1.toNat)).length))).toNat))+(((aa a.2.2.length).toNat) - ((aa (a.1.toNat+(((a.2.2.drop (0+a.2.1.toNat)).take (((aa a.2.2.length).toNat) -a.2.1.toNat)).length))).toNat))) ((dP a.2.2 a.1.toNat ((a.2.2.drop (0+a.2.1.toNat)).take (((aa a.2.2.length).toNat) -a.2.1.toNat))).length))&&(!false) then
          bif ((dP (dP a.2.2 a.1.toNat ((a.2.2.drop (0+a.2.1.toNat)).take (((aa a.2.2.length).toNat) -a.2.1.toNat))) (0+((aa (a.1.toNat+(((a.2.2.drop (0+a.2.1.toNat)).take (((aa a.2.2.length).toNat) -a.2.1.toNat)).length))).toNat)) (af (((aa a.2.2.length).toNat) - ((aa (a.1.toNat+(((a.2.2.drop (0+a.2.1.toNat)).take (((aa a.2.2.length).toNat) -a.2.1.toNat)).length))).toNat)) (0,0,0))).length)==a.2.2.length then
           some (a.1.toNat+(((a.2.2.drop (0+a.2.1.toNat)).take (((aa a.2.2.length).toNat) -a.2.1.toNat)).length),a.2.2.length,dP (dP a.2.2 a.1.toNat ((a.2.2.drop (0+a.2.1.toNat)).take (((aa a.2.2.length).toNat) -a.2.1.toNat))) (0+((aa (a.1.toNat+(((a.2.2.drop (0+a.2.1.toNat)).take (((aa a.2.2.length).toNat) -a.2.1.toNat)).length))).toNat)) (af (((aa a.2.2.length).toNat) - ((aa (a.1.toNat+(((a.2.2.drop (0+a.2.1.toNat)).take (((aa a.2.2.length).toNat) -a.2.1.toNat)).length))).toNat)) (0,0,0)))
          else
           none
         else
          none
       else
        none
      else
       none
     else
      none
   else
    none
 else
  none
def RA (N:Nat):bV:=⟨[.i,.i,.l [.i .i64,.i .i64,.i .i64]],[.own 0 false,.int .i64 0,.int .i64 0],[.arr [.i .i64,.i .i64,.i .i64] []],[.n,.n,.l [.i .i64,.i .i64,.i .i64]],.pre 0 0 0 false,[.arr [.i .i64,.i .i64,.i .i64] []],fun a=>(iP N) a⟩
theorem OC (N:Nat):eE tab 224 (RA N):=eE.of ZE (wd:=true) (cx:=(aN (aH N) [] [] [] [])) (aM.make trivial trivial trivial) (fun a=>by kernel_rfl)
def zR (N:Nat) (p0:aO) (p1:Int):Option (aO×(Int×Int)×Int):=
 ((EY N) p0 p1).bind fun a0=>
 bif a0.2 !=0 then
  some (aO.mk 0 [],(0,0),a0.2)
 else
  (bC p0.list).bind fun l1=>
  ((iP N) (a0.1,aA .i64 (a0.1+1),l1)).bind fun a2=>
  (aK p0.list a0.1).bind fun a3=>
  some (aO.mk p0.next_ (a2.2.2.take a2.1),a3.2,0)
def aHU (N:Nat):aU:=⟨aC.cons (aE.agg eP) (aC.one (aE.int .i64)),aE.tup (aC.cons (aE.agg eP) (aC.cons (aE.agg (bG.row eF)) (aC.one (aE.int .i64)))),fun a=>(zR N) a.1 a.2,.frz,false⟩
theorem aBb (N:Nat):aB tab 171 (aHU N):=aB.of YG (cx:=(aN (aH N) [(223,(aHT N)),(178,aU.clone bY)] [(224,(RA N))] [] [])) rfl (aM.make ⟨(aBa N),nS,trivial⟩ ⟨(OC N),trivial⟩ trivial) (fun a=>by kernel_rfl)
def iG (_:Nat) (p0:aI):Option aI:=
 (bC p0.field.points).bind fun l0=>
 (bC p0.certs.list).bind fun l1=>
 (bC p0.due).bind fun l2=>
 (bC p0.agenda.heap).bind fun l3=>
 (bC p0.agenda.where_).bind fun l4=>
 (bC p0.agenda.slots.uses).bind fun l5=>
 (bC p0.agenda.slots.used).bind fun l6=>
 (bC p0.agenda.slots.free).bind fun l7=>
 some (aI.mk p0.now (Field.mk l0) (aO.mk p0.certs.next_ l1) (aF.mk (aL.mk l5 l6 l7) l3 l4) l2)
def RC (N:Nat):aU:=⟨aC.one (aE.agg aX),aE.agg aX,fun a=>(iG N) a,.own,true⟩
def I0 (N:Nat):aU:=⟨aC.one (aE.agg aX),aE.agg aX,fun a=>(iG N) a,.frz,false⟩
theorem AR (N:Nat):aB tab 121 (RC N):=aB.of L4 (cx:=(aN (aH N) [(126,aU.clone bY),(178,aU.clone bY),(179,aU.clone bY),(180,aU.clone fC),(181,aU.clone ki),(182,aU.clone kb)] [] [] [])) rfl (aM.make ⟨iX,nS,wO,lS,iY,lR,trivial⟩ trivial trivial) (fun a=>by kernel_rfl)
theorem xA (N:Nat):aB tab 121 (I0 N):=aB.of L4 (cx:=(aN (aH N) [(126,aU.clone bY),(178,aU.clone bY),(179,aU.clone bY),(180,aU.clone fC),(181,aU.clone ki),(182,aU.clone kb)] [] [] [])) rfl (aM.make ⟨iX,nS,wO,lS,iY,lR,trivial⟩ trivial trivial) (fun a=>by kernel_rfl)
def nD (N:Nat) (p0:Int×Int×Int) (p1:Int):Option Int:=
 ((dN N) p0.1 p1).bind fun n0=>
 some n0
def aHV (N:Nat):aU:=⟨aC.cons (aE.agg (bG.row bY)) (aC.one (aE.int .i64)),aE.int .i64,fun a=>(nD N) a.1 a.2,.pure,false⟩
theorem aBc (N:Nat):aB tab 226 (aHV N):=aB.of ZG (cx:=(aN (aH N) [(186,(KV N))] [] [] [])) rfl (aM.make ⟨(sL N),trivial⟩ trivial trivial) (fun a=>by kernel_rfl)
def eG (N:Nat) (s:((List (Int×Int×Int))×Int×Int×Int×Int)):Option (bB ((List (Int×Int×Int))×Int×Int×Int×Int) (Int×Bool)):=
 bif decide (s.2.2.2.1<s.2.2.2.2) then
  (aK s.1 (aA .i64 (gC .u64 (aA .u64 (aA .i64 (s.2.2.2.1+s.2.2.2.2))) 1))).bind fun a0=>
  ((nD N) a0 s.2.1).bind fun n1=>
  bif decide (n1<0) then
   some (.next (s.1,s.2.1,s.2.2.1,aA .i64 ((aA .i64 (gC .u64 (aA .u64 (aA .i64 (s.2.2.2.1+s.2.2.2.2))) 1))+1),s.2.2.2.2))
  else
   some (.next (s.1,s.2.1,s.2.2.1,s.2.2.2.1,aA .i64 (gC .u64 (aA .u64 (aA .i64 (s.2.2.2.1+s.2.2.2.2))) 1)))
 else
  bif decide (s.2.2.2.1<s.2.2.1) then
   (aK s.1 s.2.2.2.1).bind fun a2=>
   ((nD N) a2 s.2.1).bind fun n3=>
   some (.done (s.2.2.2.1,n3==0))
  else
   some (.done (s.2.2.2.1,false))
def cI (N:Nat) (p0:List (Int×Int×Int)) (p1:Int) (_:Unit):Option (Int×Bool):=
 (aT N) (eG N) (p0,p1,aa p0.length,0,aa p0.length)
def I1 (N:Nat):aU:=⟨aC.cons (aE.sl bY) (aC.cons (aE.int .i64) (aC.one (aE.clo 226 aC.nil))),aE.tup (aC.cons (aE.int .i64) (aC.one aE.bool)),fun a=>(cI N) a.1 a.2.1 a.2.2,.pure,false⟩
theorem I2 (N:Nat):aB tab 225 (I1 N):=aB.of ZF (cx:=(aN (aH N) [(226,(aHV N))] [] [] [])) rfl (aM.make ⟨(aBc N),trivial⟩ trivial trivial) (fun a=>by kernel_rfl)
def rW (N:Nat) (p0:List (Int×Int×Int)) (p1:Int):Option (Int×Bool):=
 ((cI N) p0 p1 ()).bind fun a0=>
 some a0
def aGm (N:Nat):aU:=⟨aC.cons (aE.sl bY) (aC.one (aE.int .i64)),aE.tup (aC.cons (aE.int .i64) (aC.one aE.bool)),fun a=>(rW N) a.1 a.2,.pure,false⟩
theorem MT (N:Nat):aB tab 172 (aGm N):=aB.of YH (cx:=(aN (aH N) [(225,(I1 N))] [] [] [])) rfl (aM.make ⟨(I2 N),trivial⟩ trivial trivial) (fun a=>by kernel_rfl)
def C7 (N:Nat) (p0:aL) (p1:Int×Int):Option (Bool×Int):=
 ((pD N) p0).bind fun n0=>
 bif n0 !=0 then
  some (false,n0)
 else
  bif decide (0<=p1.1) then
   bif decide (p1.1<(aa p0.used.length)) then
    (aK p0.used p1.1).bind fun b1=>
    bif b1 then
     (aK p0.uses p1.1).bind fun n2=>
     some (n2==p1.2,0)
    else
     some (false,0)
   else
    some (false,0)
  else
   some (false,0)
def aGn (N:Nat):aU:=⟨aC.cons (aE.agg eD) (aC.one (aE.agg (bG.row eF))),aE.tup (aC.cons aE.bool (aC.one (aE.int .i64))),fun a=>(C7 N) a.1 a.2,.pure,false⟩
theorem MU (N:Nat):aB tab 265 (aGn N):=aB.of Z0 (cx:=(aN (aH N) [(190,(aAO N))] [] [] [])) rfl (aM.make ⟨(GC N),trivial⟩ trivial trivial) (fun a=>by kernel_rfl)
def pH (N:Nat) (p0:aF) (p1:Int×Int):Option (Int×Int):=
 ((gS N) p0).bind fun n0=>
 bif n0 !=0 then
  some (0,n0)
 else
  ((C7 N) p0.slots p1).bind fun a1=>
  bif a1.2 !=0 then
   some (0,6)
  else
   bif !a1.1 then
    some (0,6)
   else
    (aK p0.where_ p1.1).bind fun n2=>
    some (n2,0)
def aGo (N:Nat):aU:=⟨aC.cons (aE.agg bW) (aC.one (aE.agg (bG.row eF))),aE.tup (aC.cons (aE.int .i64) (aC.one (aE.int .i64))),fun a=>(pH N) a.1 a.2,.pure,false⟩
theorem MV (N:Nat):aB tab 227 (aGo N):=aB.of ZH (cx:=(aN (aH N) [(130,(OA N)),(265,(aGn N))] [] [] [])) rfl (aM.make ⟨(wY N),(MU N),trivial⟩ trivial trivial) (fun a=>by kernel_rfl)
def pY (_:Nat) (p0:List Int) (p1:Int):Option (List Int):=
 (bC p0).bind fun l0=>
 (bE l0 [p1]).bind fun l1=>
 some l1
def aHW (N:Nat):aU:=⟨aC.cons (aE.sl ki) (aC.one (aE.int .i64)),aE.sl ki,fun a=>(pY N) a.1 a.2,.frz,false⟩
theorem aBd (N:Nat):aB tab 286 (aHW N):=aB.of aAb (cx:=(aN (aH N) [(294,aU.clone ki)] [] [] [])) rfl (aM.make ⟨IJ,trivial⟩ trivial trivial) (fun a=>by kernel_rfl)
def EZ (N:Nat) (p0:aL) (p1:Int×Int):Option (aL×Int):=
 ((C7 N) p0 p1).bind fun a0=>
 bif a0.2 !=0 then
  some (aL.mk [] [] [],a0.2)
 else
  bif !a0.1 then
   some (aL.mk [] [] [],6)
  else
   (bC p0.uses).bind fun l1=>
   (bC p0.used).bind fun l2=>
   ((pY N) p0.free p1.1).bind fun l3=>
   (aK l2 p1.1).bind fun _=>
   some (aL.mk l1 (bM l2 p1.1 false) l3,0)
def aHX (N:Nat):aU:=⟨aC.cons (aE.agg eD) (aC.one (aE.agg (bG.row eF))),aE.tup (aC.cons (aE.agg eD) (aC.one (aE.int .i64))),fun a=>(EZ N) a.1 a.2,.frz,false⟩
theorem aBe (N:Nat):aB tab 266 (aHX N):=aB.of Z1 (cx:=(aN (aH N) [(265,(aGn N)),(181,aU.clone ki),(182,aU.clone kb),(286,(aHW N))] [] [(285,QJ)] [])) rfl (aM.make ⟨(MU N),iY,lR,(aBd N),trivial⟩ trivial ⟨MD,trivial⟩) (fun a=>by kernel_rfl)
def bZ (_:Nat) (a:((List Int)×(List Bool)×(List Int)×Nat×Nat×Int×Int×Int×Int×Int×Int×(List (Int×Int×Int×Int×Int))×(List Int))):Option ((List (Int×Int×Int×Int×Int))×(List Int)):=
 (aK (a.2.2.2.2.2.2.2.2.2.2.2.1.take a.2.2.2.1) a.2.2.2.2.2.1).bind fun _=>
 (aK a.2.2.2.2.2.2.2.2.2.2.2.2 a.2.2.2.2.2.2.2.2.2.1).bind fun _=>
 bif ((bM a.2.2.2.2.2.2.2.2.2.2.2.1 a.2.2.2.2.2.1 (a.2.2.2.2.2.2.1,a.2.2.2.2.2.2.2.1,a.2.2.2.2.2.2.2.2.1,a.2.2.2.2.2.2.2.2.2.1,a.2.2.2.2.2.2.2.2.2.2.1)).length)==a.2.2.2.2.2.2.2.2.2.2.2.1.length then
  bif ((bM a.2.2.2.2.2.2.2.2.2.2.2.2 a.2.2.2.2.2.2.2.2.2.1 a.2.2.2.2.2.1).length)==a.2.2.2.2.2.2.2.2.2.2.2.2.length then
   some (bM a.2.2.2.2.2.2.2.2.2.2.2.1 a.2.2.2.2.2.1 (a.2.2.2.2.2.2.1,a.2.2.2.2.2.2.2.1,a.2.2.2.2.2.2.2.2.1,a.2.2.2.2.2.2.2.2.2.1,a.2.2.2.2.2.2.2.2.2.2.1),bM a.2.2.2.2.2.2.2.2.2.2.2.2 a.2.2.2.2.2.2.2.2.2.1 a.2.2.2.2.2.1)
  else
   none
 else
  none
def KY (N:Nat):bV:=⟨[.l [.i .i64],.l [.b],.l [.i .i64],.n,.n,.i,.i,.i,.i,.i,.i,.l [.i .i64,.i .i64,.i .i64,.i .i64,.i .i64],.l [.i .i64]],[.agg [.sl [.i .i64] [],.sl [.b] [],.sl [.i .i64] [],.pre 0 0 0 false,.own 1 false],.int .i64 0,.agg [.int .i64 0,.int .i64 0,.int .i64 0,.int .i64 0,.int .i64 0]],[.arr [.i .i64,.i .i64,.i .i64,.i .i64,.i .i64] [],.arr [.i .i64] []],[.l [.i .i64,.i .i64,.i .i64,.i .i64,.i .i64],.l [.i .i64]],.tup [],[.arr [.i .i64,.i .i64,.i .i64,.i .i64,.i .i64] [],.arr [.i .i64] []],fun a=>(bZ N) a⟩
theorem E0 (N:Nat):eE tab 287 (KY N):=eE.of ME (wd:=false) (cx:=(aN (aH N) [] [] [] [])) (aM.make trivial trivial trivial) (fun a=>by kernel_rfl)
def jB (N:Nat) (c0:((List Int)×(List Bool)×(List Int)×Nat×Nat×Int×Int×Int×Int×Int×Int×(List (Int×Int×Int×Int×Int))×(List Int))) (s:(Int×Int×(List (Int×Int×Int×Int×Int))×(List Int)×(List Int)×(List Bool)×(List Int)×Nat×Nat×Int×Int×Int×Int×Int)):Option (bB (Int×Int×(List (Int×Int×Int×Int×Int))×(List Int)×(List Int)×(List Bool)×(List Int)×Nat×Nat×Int×Int×Int×Int×Int) (bB (Int×(List (Int×Int×Int×Int×Int))×(List Int)×(List Int)×(List Bool)×(List Int)×Nat×Nat×Int×Int×Int×Int×Int) ((List (Int×Int×Int×Int×Int))×(List Int)))):=
 bif decide (s.2.1<(aa s.2.2.2.2.2.2.2.1)) then
  bif decide ((aA .i64 (s.2.1+1))<(aa s.2.2.2.2.2.2.2.1)) then
   (aK (s.2.2.1.take s.2.2.2.2.2.2.2.1) (aA .i64 (s.2.1+1))).bind fun a0=>
   (aK (s.2.2.1.take s.2.2.2.2.2.2.2.1) s.2.1).bind fun a1=>
   ((bT N) a0 a1).bind fun n2=>
   bif decide (n2<0) then
    (aK (s.2.2.1.take s.2.2.2.2.2.2.2.1) (aA .i64 (s.2.1+1))).bind fun a3=>
    ((bT N) a3 s.2.2.2.2.2.2.2.2.2).bind fun n4=>
    bif decide (0<=n4) then
     ((bZ N) (s.2.2.2.2.1,s.2.2.2.2.2.1,s.2.2.2.2.2.2.1,s.2.2.2.2.2.2.2.1,s.2.2.2.2.2.2.2.2.1,s.1,s.2.2.2.2.2.2.2.2.2.1,s.2.2.2.2.2.2.2.2.2.2.1,s.2.2.2.2.2.2.2.2.2.2.2.1,s.2.2.2.2.2.2.2.2.2.2.2.2.1,s.2.2.2.2.2.2.2.2.2.2.2.2.2,s.2.2.1,s.2.2.2.1)).bind fun a5=>
     bif a5.1.length==c0.2.2.2.2.2.2.2.2.2.2.2.1.length then
      bif a5.2.length==c0.2.2.2.2.2.2.2.2.2.2.2.2.length then
       some (.done (.done a5))
      else
       none
     else
      none
    else
     (aK (s.2.2.1.take s.2.2.2.2.2.2.2.1) (aA .i64 (s.2.1+1))).bind fun a6=>
     ((bZ N) (s.2.2.2.2.1,s.2.2.2.2.2.1,s.2.2.2.2.2.2.1,s.2.2.2.2.2.2.2.1,s.2.2.2.2.2.2.2.2.1,s.1,a6.1,a6.2.1,a6.2.2.1,a6.2.2.2.1,a6.2.2.2.2,s.2.2.1,s.2.2.2.1)).bind fun a7=>
     some (.next (aA .i64 (s.2.1+1),aA .i64 ((aA .i64 (2*(aA .i64 (s.2.1+1))))+1),a7.1,a7.2,s.2.2.2.2))
   else
    (aK (s.2.2.1.take s.2.2.2.2.2.2.2.1) s.2.1).bind fun a8=>
    ((bT N) a8 s.2.2.2.2.2.2.2.2.2).bind fun n9=>
    bif decide (0<=n9) then
     ((bZ N) (s.2.2.2.2.1,s.2.2.2.2.2.1,s.2.2.2.2.2.2.1,s.2.2.2.2.2.2.2.1,s.2.2.2.2.2.2.2.2.1,s.1,s.2.2.2.2.2.2.2.2.2.1,s.2.2.2.2.2.2.2.2.2.2.1,s.2.2.2.2.2.2.2.2.2.2.2.1,s.2.2.2.2.2.2.2.2.2.2.2.2.1,s.2.2.2.2.2.2.2.2.2.2.2.2.2,s.2.2.1,s.2.2.2.1)).bind fun a10=>
     bif a10.1.length==c0.2.2.2.2.2.2.2.2.2.2.2.1.length then
      bif a10.2.length==c0.2.2.2.2.2.2.2.2.2.2.2.2.length then
       some (.done (.done a10))
      else
       none
     else
      none
    else
     (aK (s.2.2.1.take s.2.2.2.2.2.2.2.1) s.2.1).bind fun a11=>
     ((bZ N) (s.2.2.2.2.1,s.2.2.2.2.2.1,s.2.2.2.2.2.2.1,s.2.2.2.2.2.2.2.1,s.2.2.2.2.2.2.2.2.1,s.1,a11.1,a11.2.1,a11.2.2.1,a11.2.2.2.1,a11.2.2.2.2,s.2.2.1,s.2.2.2.1)).bind fun a12=>
     some (.next (s.2.1,aA .i64 ((aA .i64 (2*s.2.1))+1),a12.1,a12.2,s.2.2.2.2))
  else
   (aK (s.2.2.1.take s.2.2.2.2.2.2.2.1) s.2.1).bind fun a13=>
   ((bT N) a13 s.2.2.2.2.2.2.2.2.2).bind fun n14=>
   bif decide (0<=n14) then
    ((bZ N) (s.2.2.2.2.1,s.2.2.2.2.2.1,s.2.2.2.2.2.2.1,s.2.2.2.2.2.2.2.1,s.2.2.2.2.2.2.2.2.1,s.1,s.2.2.2.2.2.2.2.2.2.1,s.2.2.2.2.2.2.2.2.2.2.1,s.2.2.2.2.2.2.2.2.2.2.2.1,s.2.2.2.2.2.2.2.2.2.2.2.2.1,s.2.2.2.2.2.2.2.2.2.2.2.2.2,s.2.2.1,s.2.2.2.1)).bind fun a15=>
    bif a15.1.length==c0.2.2.2.2.2.2.2.2.2.2.2.1.length then
     bif a15.2.length==c0.2.2.2.2.2.2.2.2.2.2.2.2.length then
      some (.done (.done a15))
     else
      none
    else
     none
   else
    (aK (s.2.2.1.take s.2.2.2.2.2.2.2.1) s.2.1).bind fun a16=>
    ((bZ N) (s.2.2.2.2.1,s.2.2.2.2.2.1,s.2.2.2.2.2.2.1,s.2.2.2.2.2.2.2.1,s.2.2.2.2.2.2.2.2.1,s.1,a16.1,a16.2.1,a16.2.2.1,a16.2.2.2.1,a16.2.2.2.2,s.2.2.1,s.2.2.2.1)).bind fun a17=>
    some (.next (s.2.1,aA .i64 ((aA .i64 (2*s.2.1))+1),a17.1,a17.2,s.2.2.2.2))
 else
  ((bZ N) (s.2.2.2.2.1,s.2.2.2.2.2.1,s.2.2.2.2.2.2.1,s.2.2.2.2.2.2.2.1,s.2.2.2.2.2.2.2.2.1,s.1,s.2.2.2.2.2.2.2.2.2.1,s.2.2.2.2.2.2.2.2.2.2.1,s.2.2.2.2.2.2.2.2.2.2.2.1,s.2.2.2.2.2.2.2.2.2.2.2.2.1,s.2.2.2.2.2.2.2.2.2.2.2.2.2,s.2.2.1,s.2.2.2.1)).bind fun a18=>
  bif a18.1.length==c0.2.2.2.2.2.2.2.2.2.2.2.1.length then
   bif a18.2.length==c0.2.2.2.2.2.2.2.2.2.2.2.2.length then
    some (.done (.done a18))
   else
    none
  else
   none
def pI (N:Nat) (c0:((List Int)×(List Bool)×(List Int)×Nat×Nat×Int×Int×Int×Int×Int×Int×(List (Int×Int×Int×Int×Int))×(List Int))) (s:(Int×(List (Int×Int×Int×Int×Int))×(List Int)×(List Int)×(List Bool)×(List Int)×Nat×Nat×Int×Int×Int×Int×Int)):Option (bB (Int×(List (Int×Int×Int×Int×Int))×(List Int)×(List Int)×(List Bool)×(List Int)×Nat×Nat×Int×Int×Int×Int×Int) ((List (Int×Int×Int×Int×Int))×(List Int))):=
 bif decide (0<s.1) then
  (aK (s.2.1.take s.2.2.2.2.2.2.1) (aA .i64 (ac (aA .i64 (s.1-1)) 2))).bind fun a0=>
  ((bT N) s.2.2.2.2.2.2.2.2 a0).bind fun n1=>
  bif decide (n1<0) then
   (aK (s.2.1.take s.2.2.2.2.2.2.1) (aA .i64 (ac (aA .i64 (s.1-1)) 2))).bind fun a2=>
   ((bZ N) (s.2.2.2.1,s.2.2.2.2.1,s.2.2.2.2.2.1,s.2.2.2.2.2.2.1,s.2.2.2.2.2.2.2.1,s.1,a2.1,a2.2.1,a2.2.2.1,a2.2.2.2.1,a2.2.2.2.2,s.2.1,s.2.2.1)).bind fun a3=>
   some (.next (aA .i64 (ac (aA .i64 (s.1-1)) 2),a3.1,a3.2,s.2.2.2))
  else
   (aT N) ((jB N) c0) (s.1,aA .i64 ((aA .i64 (2*s.1))+1),s.2)
 else
  (aT N) ((jB N) c0) (s.1,aA .i64 ((aA .i64 (2*s.1))+1),s.2)
def kV (N:Nat) (a:((List Int)×(List Bool)×(List Int)×Nat×Nat×Int×Int×Int×Int×Int×Int×(List (Int×Int×Int×Int×Int))×(List Int))):Option ((List (Int×Int×Int×Int×Int))×(List Int)):=
 (aT N) ((pI N) a) (a.2.2.2.2.2.1,a.2.2.2.2.2.2.2.2.2.2.2.1,a.2.2.2.2.2.2.2.2.2.2.2.2,a.1,a.2.1,a.2.2.1,a.2.2.2.1,a.2.2.2.2.1,a.2.2.2.2.2.2.1,a.2.2.2.2.2.2.2.1,a.2.2.2.2.2.2.2.2.1,a.2.2.2.2.2.2.2.2.2.1,a.2.2.2.2.2.2.2.2.2.2.1)
def GJ (N:Nat):bV:=⟨[.l [.i .i64],.l [.b],.l [.i .i64],.n,.n,.i,.i,.i,.i,.i,.i,.l [.i .i64,.i .i64,.i .i64,.i .i64,.i .i64],.l [.i .i64]],[.agg [.sl [.i .i64] [],.sl [.b] [],.sl [.i .i64] [],.pre 0 0 0 false,.own 1 false],.int .i64 0,.agg [.int .i64 0,.int .i64 0,.int .i64 0,.int .i64 0,.int .i64 0]],[.arr [.i .i64,.i .i64,.i .i64,.i .i64,.i .i64] [],.arr [.i .i64] []],[.l [.i .i64,.i .i64,.i .i64,.i .i64,.i .i64],.l [.i .i64]],.tup [],[.arr [.i .i64,.i .i64,.i .i64,.i .i64,.i .i64] [],.arr [.i .i64] []],fun a=>(kV N) a⟩
theorem yT (N:Nat):eE tab 268 (GJ N):=eE.of MC (wd:=false) (cx:=(aN (aH N) [(191,(aAX N))] [(287,(KY N))] [] [])) (aM.make ⟨(GE N),trivial⟩ ⟨(E0 N),trivial⟩ trivial) (fun a=>by kernel_rfl)
def tV (N:Nat) (p0:aF) (p1:Int):Option (aF×(Int×Int×Int×Int×Int)×Int):=
 (aK p0.heap p1).bind fun a0=>
 ((EZ N) p0.slots a0.2.2.2).bind fun a1=>
 bif a1.2 !=0 then
  some (aF.mk (aL.mk [] [] []) [] [],(0,0,0,0,0),a1.2)
 else
  (bC p0.heap).bind fun l2=>
  (bC p0.where_).bind fun l3=>
  (aK l2 (aA .i64 ((aa l2.length) -1))).bind fun a4=>
  (fO l2 0 (aA .i64 ((aa l2.length) -1))).bind fun _=>
  (aK l3 a0.2.2.2.1).bind fun _=>
  bif decide (p1<(aA .i64 ((aa l2.length) -1))) then
   ((kV N) (a1.1.uses,a1.1.used,a1.1.free,(aA .i64 ((aa l2.length) -1)).toNat,l2.length,p1,a4.1,a4.2.1,a4.2.2.1,a4.2.2.2.1,a4.2.2.2.2,l2,bM l3 a0.2.2.2.1 (-1))).bind fun a7=>
   some (aF.mk a1.1 (a7.1.take ((aA .i64 ((aa l2.length) -1)).toNat)) a7.2,a0,0)
  else
   some (aF.mk a1.1 (l2.take ((aA .i64 ((aa l2.length) -1)).toNat)) (bM l3 a0.2.2.2.1 (-1)),a0,0)
def aHY (N:Nat):aU:=⟨aC.cons (aE.agg bW) (aC.one (aE.int .i64)),aE.tup (aC.cons (aE.agg bW) (aC.cons (aE.agg (bG.row fC)) (aC.one (aE.int .i64)))),fun a=>(tV N) a.1 a.2,.frz,false⟩
theorem aBf (N:Nat):aB tab 228 (aHY N):=aB.of ZI (cx:=(aN (aH N) [(266,(aHX N)),(180,aU.clone fC),(181,aU.clone ki)] [(268,(GJ N))] [(267,N3)] [])) rfl (aM.make ⟨(aBe N),lS,iY,trivial⟩ ⟨(yT N),trivial⟩ ⟨F4,trivial⟩) (fun a=>by kernel_rfl)
def jX (N:Nat) (p0:aF) (p1:Int×Int):Option (aF×(Int×Int×Int×Int×Int)×Int):=
 ((pH N) p0 p1).bind fun a0=>
 bif a0.2 !=0 then
  some (aF.mk (aL.mk [] [] []) [] [],(0,0,0,0,0),a0.2)
 else
  ((tV N) p0 a0.1).bind fun a1=>
  some a1
def aGp (N:Nat):aU:=⟨aC.cons (aE.agg bW) (aC.one (aE.agg (bG.row eF))),aE.tup (aC.cons (aE.agg bW) (aC.cons (aE.agg (bG.row fC)) (aC.one (aE.int .i64)))),fun a=>(jX N) a.1 a.2,.frz,false⟩
theorem MW (N:Nat):aB tab 173 (aGp N):=aB.of YI (cx:=(aN (aH N) [(227,(aGo N)),(228,(aHY N))] [] [] [])) rfl (aM.make ⟨(MV N),(aBf N),trivial⟩ trivial trivial) (fun a=>by kernel_rfl)
def jC (_:Nat) (a:(Int×Int×(List (Int×Int×Int)))):Option (Nat×Nat×(List (Int×Int×Int))):=
 bif (((decide (0<=a.1))&&(decide (a.1<=a.2.1)))&&(decide (a.2.1<=(aa a.2.2.length))))&&(decide ((aa a.2.2.length)<=(aa a.2.2.length))) then
  bif a.1==a.2.1 then
   bif a.2.2.length==a.2.2.length then
    some (a.2.2.length,a.2.2.length,a.2.2)
   else
    none
  else
   (fO a.2.2 0 a.1).bind fun _=>
   bif ((decide (0<=a.2.1))&&(decide (a.2.1<=(aa a.2.2.length))))&&(decide ((aa a.2.2.length)<=(aa a.2.2.length))) then
    bif ((a.2.2.drop (0+a.2.1.toNat)).take (((aa a.2.2.length).toNat) -a.2.1.toNat)).isEmpty then
     bif ((decide (0<=(aa a.1.toNat)))&&(decide ((aa a.1.toNat)<=(aa a.2.2.length))))&&(decide ((aa a.2.2.length)<=(aa a.2.2.length))) then
      bif ah (((aa a.2.2.length).toNat) - ((aa a.1.toNat).toNat)) 0 then
       bif a.2.2.length==a.2.2.length then
        some (a.1.toNat,a.2.2.length,a.2.2)
       else
        none
      else
       bif (ag ((0+((aa a.1.toNat).toNat))+(((aa a.2.2.length).toNat) - ((aa a.1.toNat).toNat))) a.2.2.length)&&(!false) then
        bif ((dP a.2.2 (0+((aa a.1.toNat).toNat)) (af (((aa a.2.2.length).toNat) - ((aa a.1.toNat).toNat)) (0,0,0))).length)==a.2.2.length then
         some (a.1.toNat,a.2.2.length,dP a.2.2 (0+((aa a.1.toNat).toNat)) (af (((aa a.2.2.length).toNat) - ((aa a.1.toNat).toNat)) (0,0,0)))
        else
         none
       else
        none
     else
      none
    else
     bif ag (a.1.toNat+(((a.2.2.drop (0+a.2.1.toNat)).take (((aa a.2.2.length).toNat) -a.2.1.toNat)).length)) a.2.2.length then
      bif (ag (a.1.toNat+(((a.2.2.drop (0+a.2.1.toNat)).take (((aa a.2.2.length).toNat) -a.2.1.toNat)).length)) a.2.2.length)&&(!false) then
       bif ((decide (0<=(aa (a.1.toNat+(((a.2.2.drop (0+a.2.1.toNat)).take (((aa a.2.2.length).toNat) -a.2.1.toNat)).length)))))&&(decide ((aa (a.1.toNat+(((a.2.2.drop (0+a.2.1.toNat)).take (((aa a.2.2.length).toNat) -a.2.1.toNat)).length)))<=(aa a.2.2.length))))&&(decide ((aa a.2.2.length)<=(aa a.2.2.length))) then
        bif ah (((aa a.2.2.length).toNat) - ((aa (a.1.toNat+(((a.2.2.drop (0+a.2.1.toNat)).take (((aa a.2.2.length).toNat) -a.2.1.toNat)).length))).toNat)) 0 then
         bif ((dP a.2.2 a.1.toNat ((a.2.2.drop (0+a.2.1.toNat)).take (((aa a.2.2.length).toNat) -a.2.1.toNat))).length)==a.2.2.length then
          some (a.1.toNat+(((a.2.2.drop (0+a.2.1.toNat)).take (((aa a.2.2.length).toNat) -a.2.1.toNat)).length),a.2.2.length,dP a.2.2 a.1.toNat ((a.2.2.drop (0+a.2.1.toNat)).take (((aa a.2.2.length).toNat) -a.2.1.toNat)))
         else
          none
        else
         bif (ag ((0+((aa (a.1.toNat+(((a.2.2.drop (0+a.2.1.toNat)).take (((aa a.2.2.length).toNat) -a.2.1.toNat)).length))).toNat))+(((aa a.2.2.length).toNat) - ((aa (a.1.toNat+(((a.2.2.drop (0+a.2.1.toNat)).take (((aa a.2.2.length).toNat) -a.2.1.toNat)).length))).toNat))) ((dP a.2.2 a.1.toNat ((a.2.2.drop (0+a.2.1.toNat)).take (((aa a.2.2.length).toNat) -a.2.1.toNat))).length))&&(!false) then
          bif ((dP (dP a.2.2 a.1.toNat ((a.2.2.drop (0+a.2.1.toNat)).take (((aa a.2.2.length).toNat) -a.2.1.toNat))) (0+((aa (a.1.toNat+(((a.2.2.drop (0+a.2.1.toNat)).take (((aa a.2.2.length).toNat) -a.2.1.toNat)).length))).toNat)) (af (((aa a.2.2.length).toNat) - ((aa (a.1.toNat+(((a.2.2.drop (0+a.2.1.toNat)).take (((aa a.2.2.length).toNat) -a.2.1.toNat)).length))).toNat)) (0,0,0))).length)==a.2.2.length then
           some (a.1.toNat+(((a.2.2.drop (0+a.2.1.toNat)).take (((aa a.2.2.length).toNat) -a.2.1.toNat)).length),a.2.2.length,dP (dP a.2.2 a.1.toNat ((a.2.2.drop (0+a.2.1.toNat)).take (((aa a.2.2.length).toNat) -a.2.1.toNat))) (0+((aa (a.1.toNat+(((a.2.2.drop (0+a.2.1.toNat)).take (((aa a.2.2.length).toNat) -a.2.1.toNat)).length))).toNat)) (af (((aa a.2.2.length).toNat) - ((aa (a.1.toNat+(((a.2.2.drop (0+a.2.1.toNat)).take (((aa a.2.2.length).toNat) -a.2.1.toNat)).length))).toNat)) (0,0,0)))
          else
           none
         else
          none
       else
        none
      else
       none
     else
      none
   else
    none
 else
  none
def RD (N:Nat):bV:=⟨[.i,.i,.l [.i .i64,.i .i64,.i .i64]],[.own 0 false,.int .i64 0,.int .i64 0],[.arr [.i .i64,.i .i64,.i .i64] []],[.n,.n,.l [.i .i64,.i .i64,.i .i64]],.pre 0 0 0 false,[.arr [.i .i64,.i .i64,.i .i64] []],fun a=>(jC N) a⟩
theorem OD (N:Nat):eE tab 174 (RD N):=eE.of YJ (wd:=true) (cx:=(aN (aH N) [] [] [] [])) (aM.make trivial trivial trivial) (fun a=>by kernel_rfl)
def pJ (N:Nat) (p0:aI) (p1:Int):Option (aI×(Int×Int)×Int):=
 ((zR N) p0.certs p1).bind fun a0=>
 bif a0.2.2 !=0 then
  some (aI.mk (0,0) (Field.mk []) (aO.mk 0 []) (aF.mk (aL.mk [] [] []) [] []) [],a0.2)
 else
  ((iG N) p0).bind fun r1=>
  ((rW N) p0.due p1).bind fun a2=>
  bif a2.2 then
   (aK p0.due a2.1).bind fun a3=>
   ((jX N) p0.agenda a3.2).bind fun a4=>
   bif a4.2.2 !=0 then
    some (aI.mk (0,0) (Field.mk []) (aO.mk 0 []) (aF.mk (aL.mk [] [] []) [] []) [],a0.2.1,a4.2.2)
   else
    ((jC N) (a2.1,aA .i64 (a2.1+1),r1.due)).bind fun a5=>
    some (aI.mk r1.now r1.field a0.1 a4.1 (a5.2.2.take a5.1),a0.2.1,0)
  else
   some (aI.mk r1.now r1.field a0.1 r1.agenda r1.due,a0.2.1,0)
def aGq (N:Nat):aU:=⟨aC.cons (aE.agg aX) (aC.one (aE.int .i64)),aE.tup (aC.cons (aE.agg aX) (aC.cons (aE.agg (bG.row eF)) (aC.one (aE.int .i64)))),fun a=>(pJ N) a.1 a.2,.frz,false⟩
theorem MX (N:Nat):aB tab 119 (aGq N):=aB.of XL (cx:=(aN (aH N) [(171,(aHU N)),(121,(RC N)),(121,(I0 N)),(172,(aGm N)),(173,(aGp N))] [(174,(RD N))] [] [])) rfl (aM.make ⟨(aBb N),(AR N),(xA N),(MT N),(MW N),trivial⟩ ⟨(OD N),trivial⟩ trivial) (fun a=>by kernel_rfl)
def C8 (N:Nat) (p0:aI) (p1:Int×Int):Option (aI×(Int×Int×Int×Int×Int)×(Int×Int)×Int):=
 ((rU N) p0 p1).bind fun a0=>
 bif a0.2==0 then
  bif !a0.1 then
   some (aI.mk (0,0) (Field.mk []) (aO.mk 0 []) (aF.mk (aL.mk [] [] []) [] []) [],(0,0,0,0,0),(0,0),6)
  else
   bif a0.2 !=0 then
    some (aI.mk (0,0) (Field.mk []) (aO.mk 0 []) (aF.mk (aL.mk [] [] []) [] []) [],(0,0,0,0,0),(0,0),a0.2)
   else
    (aK p0.agenda.heap 0).bind fun a1=>
    ((pJ N) p0 a1.2.2.1).bind fun a2=>
    bif a2.2.2 !=0 then
     some (aI.mk (0,0) (Field.mk []) (aO.mk 0 []) (aF.mk (aL.mk [] [] []) [] []) [],(0,0,0,0,0),(0,0),a2.2.2)
    else
     some (aI.mk (a1.1,a1.2.1) a2.1.field a2.1.certs a2.1.agenda a2.1.due,a1,a2.2.1,0)
 else
  bif a0.2 !=0 then
   some (aI.mk (0,0) (Field.mk []) (aO.mk 0 []) (aF.mk (aL.mk [] [] []) [] []) [],(0,0,0,0,0),(0,0),a0.2)
  else
   (aK p0.agenda.heap 0).bind fun a3=>
   ((pJ N) p0 a3.2.2.1).bind fun a4=>
   bif a4.2.2 !=0 then
    some (aI.mk (0,0) (Field.mk []) (aO.mk 0 []) (aF.mk (aL.mk [] [] []) [] []) [],(0,0,0,0,0),(0,0),a4.2.2)
   else
    some (aI.mk (a3.1,a3.2.1) a4.1.field a4.1.certs a4.1.agenda a4.1.due,a3,a4.2.1,0)
def c54 (N:Nat):aU:=⟨aC.cons (aE.agg aX) (aC.one (aE.agg (bG.row eF))),aE.tup (aC.cons (aE.agg aX) (aC.cons (aE.agg (bG.row fC)) (aC.cons (aE.agg (bG.row eF)) (aC.one (aE.int .i64))))),fun a=>(C8 N) a.1 a.2,.frz,false⟩
theorem aGr (N:Nat):aB tab 54 (c54 N):=aB.of aFF (cx:=(aN (aH N) [(118,(aGl N)),(119,(aGq N))] [] [] [])) rfl (aM.make ⟨(MS N),(MX N),trivial⟩ trivial trivial) (fun a=>by kernel_rfl)
def pK (N:Nat) (p0:Int×Int×Int) (p1:Int):Option Int:=
 ((dN N) p0.1 p1).bind fun n0=>
 some n0
def aHZ (N:Nat):aU:=⟨aC.cons (aE.agg (bG.row bY)) (aC.one (aE.int .i64)),aE.int .i64,fun a=>(pK N) a.1 a.2,.pure,false⟩
theorem aBg (N:Nat):aB tab 185 (aHZ N):=aB.of YS (cx:=(aN (aH N) [(186,(KV N))] [] [] [])) rfl (aM.make ⟨(sL N),trivial⟩ trivial trivial) (fun a=>by kernel_rfl)
def eC (N:Nat) (s:((List (Int×Int×Int))×Int×Int×Int×Int)):Option (bB ((List (Int×Int×Int))×Int×Int×Int×Int) (Int×Bool)):=
 bif decide (s.2.2.2.1<s.2.2.2.2) then
  (aK s.1 (aA .i64 (gC .u64 (aA .u64 (aA .i64 (s.2.2.2.1+s.2.2.2.2))) 1))).bind fun a0=>
  ((pK N) a0 s.2.1).bind fun n1=>
  bif decide (n1<0) then
   some (.next (s.1,s.2.1,s.2.2.1,aA .i64 ((aA .i64 (gC .u64 (aA .u64 (aA .i64 (s.2.2.2.1+s.2.2.2.2))) 1))+1),s.2.2.2.2))
  else
   some (.next (s.1,s.2.1,s.2.2.1,s.2.2.2.1,aA .i64 (gC .u64 (aA .u64 (aA .i64 (s.2.2.2.1+s.2.2.2.2))) 1)))
 else
  bif decide (s.2.2.2.1<s.2.2.1) then
   (aK s.1 s.2.2.2.1).bind fun a2=>
   ((pK N) a2 s.2.1).bind fun n3=>
   some (.done (s.2.2.2.1,n3==0))
  else
   some (.done (s.2.2.2.1,false))
def cD (N:Nat) (p0:List (Int×Int×Int)) (p1:Int) (_:Unit):Option (Int×Bool):=
 (aT N) (eC N) (p0,p1,aa p0.length,0,aa p0.length)
def I3 (N:Nat):aU:=⟨aC.cons (aE.sl bY) (aC.cons (aE.int .i64) (aC.one (aE.clo 185 aC.nil))),aE.tup (aC.cons (aE.int .i64) (aC.one aE.bool)),fun a=>(cD N) a.1 a.2.1 a.2.2,.pure,false⟩
theorem I4 (N:Nat):aB tab 184 (I3 N):=aB.of L7 (cx:=(aN (aH N) [(185,(aHZ N))] [] [] [])) rfl (aM.make ⟨(aBg N),trivial⟩ trivial trivial) (fun a=>by kernel_rfl)
def vF (N:Nat) (p0:Field) (p1:Int):Option (Int×Bool):=
 ((cD N) p0.points p1 ()).bind fun a0=>
 some a0
def aGs (N:Nat):aU:=⟨aC.cons (aE.agg aW) (aC.one (aE.int .i64)),aE.tup (aC.cons (aE.int .i64) (aC.one aE.bool)),fun a=>(vF N) a.1 a.2,.pure,false⟩
theorem MY (N:Nat):aB tab 124 (aGs N):=aB.of XP (cx:=(aN (aH N) [(184,(I3 N))] [] [] [])) rfl (aM.make ⟨(I4 N),trivial⟩ trivial trivial) (fun a=>by kernel_rfl)
def mR (N:Nat) (p0:Field) (p1:Int):Option (Int×Int):=
 ((fK N) p0).bind fun n0=>
 bif n0 !=0 then
  some (0,n0)
 else
  ((vF N) p0 p1).bind fun a1=>
  bif !a1.2 then
   some (0,6)
  else
   some (a1.1,0)
def aBh (N:Nat):aU:=⟨aC.cons (aE.agg aW) (aC.one (aE.int .i64)),aE.tup (aC.cons (aE.int .i64) (aC.one (aE.int .i64))),fun a=>(mR N) a.1 a.2,.pure,false⟩
theorem GK (N:Nat):aB tab 127 (aBh N):=aB.of XT (cx:=(aN (aH N) [(122,(IV N)),(124,(aGs N))] [] [] [])) rfl (aM.make ⟨(pB N),(MY N),trivial⟩ trivial trivial) (fun a=>by kernel_rfl)
def vG (N:Nat) (p0:Field) (p1:Int):Option ((Int×Int×Int)×Int):=
 ((mR N) p0 p1).bind fun a0=>
 bif a0.2 !=0 then
  some ((0,0,0),a0.2)
 else
  (aK p0.points a0.1).bind fun a1=>
  some (a1,0)
def aH0 (N:Nat):aU:=⟨aC.cons (aE.agg aW) (aC.one (aE.int .i64)),aE.tup (aC.cons (aE.agg (bG.row bY)) (aC.one (aE.int .i64))),fun a=>(vG N) a.1 a.2,.pure,false⟩
theorem aBi (N:Nat):aB tab 175 (aH0 N):=aB.of YK (cx:=(aN (aH N) [(127,(aBh N))] [] [] [])) rfl (aM.make ⟨(GK N),trivial⟩ trivial trivial) (fun a=>by kernel_rfl)
def vH (_:Nat) (p0:aI):Option aI:=
 (bC p0.field.points).bind fun l0=>
 (bC p0.certs.list).bind fun l1=>
 (bC p0.due).bind fun l2=>
 (bC p0.agenda.heap).bind fun l3=>
 (bC p0.agenda.where_).bind fun l4=>
 (bC p0.agenda.slots.uses).bind fun l5=>
 (bC p0.agenda.slots.used).bind fun l6=>
 (bC p0.agenda.slots.free).bind fun l7=>
 some (aI.mk p0.now (Field.mk l0) (aO.mk p0.certs.next_ l1) (aF.mk (aL.mk l5 l6 l7) l3 l4) l2)
def aH1 (N:Nat):aU:=⟨aC.one (aE.agg aX),aE.agg aX,fun a=>(vH N) a,.own,true⟩
def aB5 (N:Nat):aU:=⟨aC.one (aE.agg aX),aE.agg aX,fun a=>(vH N) a,.frz,false⟩
theorem aBj (N:Nat):aB tab 177 (aH1 N):=aB.of L6 (cx:=(aN (aH N) [(126,aU.clone bY),(178,aU.clone bY),(179,aU.clone bY),(180,aU.clone fC),(181,aU.clone ki),(182,aU.clone kb)] [] [] [])) rfl (aM.make ⟨iX,nS,wO,lS,iY,lR,trivial⟩ trivial trivial) (fun a=>by kernel_rfl)
theorem RE (N:Nat):aB tab 177 (aB5 N):=aB.of L6 (cx:=(aN (aH N) [(126,aU.clone bY),(178,aU.clone bY),(179,aU.clone bY),(180,aU.clone fC),(181,aU.clone ki),(182,aU.clone kb)] [] [] [])) rfl (aM.make ⟨iX,nS,wO,lS,iY,lR,trivial⟩ trivial trivial) (fun a=>by kernel_rfl)
def xB (N:Nat) (p0:aI) (p1:Int):Option (aI×Int):=
 ((gL N) p0).bind fun n0=>
 bif n0 !=0 then
  some (aI.mk (0,0) (Field.mk []) (aO.mk 0 []) (aF.mk (aL.mk [] [] []) [] []) [],n0)
 else
  ((pJ N) p0 p1).bind fun a1=>
  some (a1.1,a1.2.2)
def aH2 (N:Nat):aU:=⟨aC.cons (aE.agg aX) (aC.one (aE.int .i64)),aE.tup (aC.cons (aE.agg aX) (aC.one (aE.int .i64))),fun a=>(xB N) a.1 a.2,.frz,false⟩
theorem aBk (N:Nat):aB tab 229 (aH2 N):=aB.of ZJ (cx:=(aN (aH N) [(64,(c64 N)),(119,(aGq N))] [] [] [])) rfl (aM.make ⟨(yS N),(MX N),trivial⟩ trivial trivial) (fun a=>by kernel_rfl)
def qC (_:Nat) (s:((List (Int×Int×Int))×(List (Int×Int×Int))×Int×Int)):Option (bB ((List (Int×Int×Int))×(List (Int×Int×Int))×Int×Int) Bool):=
 bif decide (s.2.2.2<s.2.2.1) then
  (aK s.1 s.2.2.2).bind fun a0=>
  (aK s.2.1 s.2.2.2).bind fun a1=>
  bif !((a0.1==a1.1)&&((a0.2.1==a1.2.1)&&(a0.2.2==a1.2.2))) then
   some (.done false)
  else
   some (.next (s.1,s.2.1,s.2.2.1,aA .i64 (s.2.2.2+1)))
 else
  some (.done true)
def lY (N:Nat) (p0:List (Int×Int×Int)) (p1:List (Int×Int×Int)):Option Bool:=
 bif (aa p0.length) !=(aa p1.length) then
  some false
 else
  (aT N) (qC N) (p0,p1,aa p0.length,0)
def aH3 (N:Nat):aU:=⟨aC.cons (aE.sl bY) (aC.one (aE.sl bY)),aE.bool,fun a=>(lY N) a.1 a.2,.pure,false⟩
theorem aBl (N:Nat):aB tab 230 (aH3 N):=aB.of ZK (cx:=(aN (aH N) [] [] [] [])) rfl (aM.make trivial trivial trivial) (fun a=>by kernel_rfl)
def cA (_:Nat) (a:((List Int)×(List Bool)×(List Int)×Int×Int×Int×Int×Int×Int×(List (Int×Int×Int×Int×Int))×(List Int))):Option ((List (Int×Int×Int×Int×Int))×(List Int)):=
 (aK a.2.2.2.2.2.2.2.2.2.1 a.2.2.2.1).bind fun _=>
 (aK a.2.2.2.2.2.2.2.2.2.2 a.2.2.2.2.2.2.2.1).bind fun _=>
 bif ((bM a.2.2.2.2.2.2.2.2.2.1 a.2.2.2.1 (a.2.2.2.2.1,a.2.2.2.2.2.1,a.2.2.2.2.2.2.1,a.2.2.2.2.2.2.2.1,a.2.2.2.2.2.2.2.2.1)).length)==a.2.2.2.2.2.2.2.2.2.1.length then
  bif ((bM a.2.2.2.2.2.2.2.2.2.2 a.2.2.2.2.2.2.2.1 a.2.2.2.1).length)==a.2.2.2.2.2.2.2.2.2.2.length then
   some (bM a.2.2.2.2.2.2.2.2.2.1 a.2.2.2.1 (a.2.2.2.2.1,a.2.2.2.2.2.1,a.2.2.2.2.2.2.1,a.2.2.2.2.2.2.2.1,a.2.2.2.2.2.2.2.2.1),bM a.2.2.2.2.2.2.2.2.2.2 a.2.2.2.2.2.2.2.1 a.2.2.2.1)
  else
   none
 else
  none
def RF (N:Nat):bV:=⟨[.l [.i .i64],.l [.b],.l [.i .i64],.i,.i,.i,.i,.i,.i,.l [.i .i64,.i .i64,.i .i64,.i .i64,.i .i64],.l [.i .i64]],[.agg [.sl [.i .i64] [],.sl [.b] [],.sl [.i .i64] [],.own 0 false,.own 1 false],.int .i64 0,.agg [.int .i64 0,.int .i64 0,.int .i64 0,.int .i64 0,.int .i64 0]],[.arr [.i .i64,.i .i64,.i .i64,.i .i64,.i .i64] [],.arr [.i .i64] []],[.l [.i .i64,.i .i64,.i .i64,.i .i64,.i .i64],.l [.i .i64]],.tup [],[.arr [.i .i64,.i .i64,.i .i64,.i .i64,.i .i64] [],.arr [.i .i64] []],fun a=>(cA N) a⟩
theorem OE (N:Nat):eE tab 287 (RF N):=eE.of ME (wd:=false) (cx:=(aN (aH N) [] [] [] [])) (aM.make trivial trivial trivial) (fun a=>by kernel_rfl)
def jD (N:Nat) (c0:((List Int)×(List Bool)×(List Int)×Int×Int×Int×Int×Int×Int×(List (Int×Int×Int×Int×Int))×(List Int))) (s:(Int×Int×(List (Int×Int×Int×Int×Int))×(List Int)×(List Int)×(List Bool)×(List Int)×Int×Int×Int×Int×Int)):Option (bB (Int×Int×(List (Int×Int×Int×Int×Int))×(List Int)×(List Int)×(List Bool)×(List Int)×Int×Int×Int×Int×Int) (bB (Int×(List (Int×Int×Int×Int×Int))×(List Int)×(List Int)×(List Bool)×(List Int)×Int×Int×Int×Int×Int) ((List (Int×Int×Int×Int×Int))×(List Int)))):=
 bif decide (s.2.1<(aa s.2.2.1.length)) then
  bif decide ((aA .i64 (s.2.1+1))<(aa s.2.2.1.length)) then
   (aK s.2.2.1 (aA .i64 (s.2.1+1))).bind fun a0=>
   (aK s.2.2.1 s.2.1).bind fun a1=>
   ((bT N) a0 a1).bind fun n2=>
   bif decide (n2<0) then
    (aK s.2.2.1 (aA .i64 (s.2.1+1))).bind fun a3=>
    ((bT N) a3 s.2.2.2.2.2.2.2).bind fun n4=>
    bif decide (0<=n4) then
     ((cA N) (s.2.2.2.2.1,s.2.2.2.2.2.1,s.2.2.2.2.2.2.1,s.1,s.2.2.2.2.2.2.2.1,s.2.2.2.2.2.2.2.2.1,s.2.2.2.2.2.2.2.2.2.1,s.2.2.2.2.2.2.2.2.2.2.1,s.2.2.2.2.2.2.2.2.2.2.2,s.2.2.1,s.2.2.2.1)).bind fun a5=>
     bif a5.1.length==c0.2.2.2.2.2.2.2.2.2.1.length then
      bif a5.2.length==c0.2.2.2.2.2.2.2.2.2.2.length then
       some (.done (.done a5))
      else
       none
     else
      none
    else
     (aK s.2.2.1 (aA .i64 (s.2.1+1))).bind fun a6=>
     ((cA N) (s.2.2.2.2.1,s.2.2.2.2.2.1,s.2.2.2.2.2.2.1,s.1,a6.1,a6.2.1,a6.2.2.1,a6.2.2.2.1,a6.2.2.2.2,s.2.2.1,s.2.2.2.1)).bind fun a7=>
     some (.next (aA .i64 (s.2.1+1),aA .i64 ((aA .i64 (2*(aA .i64 (s.2.1+1))))+1),a7.1,a7.2,s.2.2.2.2))
   else
    (aK s.2.2.1 s.2.1).bind fun a8=>
    ((bT N) a8 s.2.2.2.2.2.2.2).bind fun n9=>
    bif decide (0<=n9) then
     ((cA N) (s.2.2.2.2.1,s.2.2.2.2.2.1,s.2.2.2.2.2.2.1,s.1,s.2.2.2.2.2.2.2.1,s.2.2.2.2.2.2.2.2.1,s.2.2.2.2.2.2.2.2.2.1,s.2.2.2.2.2.2.2.2.2.2.1,s.2.2.2.2.2.2.2.2.2.2.2,s.2.2.1,s.2.2.2.1)).bind fun a10=>
     bif a10.1.length==c0.2.2.2.2.2.2.2.2.2.1.length then
      bif a10.2.length==c0.2.2.2.2.2.2.2.2.2.2.length then
       some (.done (.done a10))
      else
       none
     else
      none
    else
     (aK s.2.2.1 s.2.1).bind fun a11=>
     ((cA N) (s.2.2.2.2.1,s.2.2.2.2.2.1,s.2.2.2.2.2.2.1,s.1,a11.1,a11.2.1,a11.2.2.1,a11.2.2.2.1,a11.2.2.2.2,s.2.2.1,s.2.2.2.1)).bind fun a12=>
     some (.next (s.2.1,aA .i64 ((aA .i64 (2*s.2.1))+1),a12.1,a12.2,s.2.2.2.2))
  else
   (aK s.2.2.1 s.2.1).bind fun a13=>
   ((bT N) a13 s.2.2.2.2.2.2.2).bind fun n14=>
   bif decide (0<=n14) then
    ((cA N) (s.2.2.2.2.1,s.2.2.2.2.2.1,s.2.2.2.2.2.2.1,s.1,s.2.2.2.2.2.2.2.1,s.2.2.2.2.2.2.2.2.1,s.2.2.2.2.2.2.2.2.2.1,s.2.2.2.2.2.2.2.2.2.2.1,s.2.2.2.2.2.2.2.2.2.2.2,s.2.2.1,s.2.2.2.1)).bind fun a15=>
    bif a15.1.length==c0.2.2.2.2.2.2.2.2.2.1.length then
     bif a15.2.length==c0.2.2.2.2.2.2.2.2.2.2.length then
      some (.done (.done a15))
     else
      none
    else
     none
   else
    (aK s.2.2.1 s.2.1).bind fun a16=>
    ((cA N) (s.2.2.2.2.1,s.2.2.2.2.2.1,s.2.2.2.2.2.2.1,s.1,a16.1,a16.2.1,a16.2.2.1,a16.2.2.2.1,a16.2.2.2.2,s.2.2.1,s.2.2.2.1)).bind fun a17=>
    some (.next (s.2.1,aA .i64 ((aA .i64 (2*s.2.1))+1),a17.1,a17.2,s.2.2.2.2))
 else
  ((cA N) (s.2.2.2.2.1,s.2.2.2.2.2.1,s.2.2.2.2.2.2.1,s.1,s.2.2.2.2.2.2.2.1,s.2.2.2.2.2.2.2.2.1,s.2.2.2.2.2.2.2.2.2.1,s.2.2.2.2.2.2.2.2.2.2.1,s.2.2.2.2.2.2.2.2.2.2.2,s.2.2.1,s.2.2.2.1)).bind fun a18=>
  bif a18.1.length==c0.2.2.2.2.2.2.2.2.2.1.length then
   bif a18.2.length==c0.2.2.2.2.2.2.2.2.2.2.length then
    some (.done (.done a18))
   else
    none
  else
   none
def pL (N:Nat) (c0:((List Int)×(List Bool)×(List Int)×Int×Int×Int×Int×Int×Int×(List (Int×Int×Int×Int×Int))×(List Int))) (s:(Int×(List (Int×Int×Int×Int×Int))×(List Int)×(List Int)×(List Bool)×(List Int)×Int×Int×Int×Int×Int)):Option (bB (Int×(List (Int×Int×Int×Int×Int))×(List Int)×(List Int)×(List Bool)×(List Int)×Int×Int×Int×Int×Int) ((List (Int×Int×Int×Int×Int))×(List Int))):=
 bif decide (0<s.1) then
  (aK s.2.1 (aA .i64 (ac (aA .i64 (s.1-1)) 2))).bind fun a0=>
  ((bT N) s.2.2.2.2.2.2 a0).bind fun n1=>
  bif decide (n1<0) then
   (aK s.2.1 (aA .i64 (ac (aA .i64 (s.1-1)) 2))).bind fun a2=>
   ((cA N) (s.2.2.2.1,s.2.2.2.2.1,s.2.2.2.2.2.1,s.1,a2.1,a2.2.1,a2.2.2.1,a2.2.2.2.1,a2.2.2.2.2,s.2.1,s.2.2.1)).bind fun a3=>
   some (.next (aA .i64 (ac (aA .i64 (s.1-1)) 2),a3.1,a3.2,s.2.2.2))
  else
   (aT N) ((jD N) c0) (s.1,aA .i64 ((aA .i64 (2*s.1))+1),s.2)
 else
  (aT N) ((jD N) c0) (s.1,aA .i64 ((aA .i64 (2*s.1))+1),s.2)
def gY (N:Nat) (a:((List Int)×(List Bool)×(List Int)×Int×Int×Int×Int×Int×Int×(List (Int×Int×Int×Int×Int))×(List Int))):Option ((List (Int×Int×Int×Int×Int))×(List Int)):=
 (aT N) ((pL N) a) (a.2.2.2.1,a.2.2.2.2.2.2.2.2.2.1,a.2.2.2.2.2.2.2.2.2.2,a.1,a.2.1,a.2.2.1,a.2.2.2.2.1,a.2.2.2.2.2.1,a.2.2.2.2.2.2.1,a.2.2.2.2.2.2.2.1,a.2.2.2.2.2.2.2.2.1)
def KZ (N:Nat):bV:=⟨[.l [.i .i64],.l [.b],.l [.i .i64],.i,.i,.i,.i,.i,.i,.l [.i .i64,.i .i64,.i .i64,.i .i64,.i .i64],.l [.i .i64]],[.agg [.sl [.i .i64] [],.sl [.b] [],.sl [.i .i64] [],.own 0 false,.own 1 false],.int .i64 0,.agg [.int .i64 0,.int .i64 0,.int .i64 0,.int .i64 0,.int .i64 0]],[.arr [.i .i64,.i .i64,.i .i64,.i .i64,.i .i64] [],.arr [.i .i64] []],[.l [.i .i64,.i .i64,.i .i64,.i .i64,.i .i64],.l [.i .i64]],.tup [],[.arr [.i .i64,.i .i64,.i .i64,.i .i64,.i .i64] [],.arr [.i .i64] []],fun a=>(gY N) a⟩
theorem E1 (N:Nat):eE tab 268 (KZ N):=eE.of MC (wd:=false) (cx:=(aN (aH N) [(191,(aAX N))] [(287,(KY N)),(287,(RF N))] [] [])) (aM.make ⟨(GE N),trivial⟩ ⟨(E0 N),(OE N),trivial⟩ trivial) (fun a=>by kernel_rfl)
def xC (N:Nat) (p0:aF) (p1:Int×Int) (p2:Int×Int):Option (aF×Int):=
 ((gS N) p0).bind fun n0=>
 ((dD N) p2).bind fun n1=>
 bif (if n1>n0 then n1 else n0) !=0 then
  some (aF.mk (aL.mk [] [] []) [] [],if n1>n0 then n1 else n0)
 else
  ((pH N) p0 p1).bind fun a2=>
  bif a2.2 !=0 then
   some (aF.mk (aL.mk [] [] []) [] [],a2.2)
  else
   (bC p0.heap).bind fun l3=>
   (bC p0.where_).bind fun l4=>
   (aK l3 a2.1).bind fun a5=>
   ((gY N) (p0.slots.uses,p0.slots.used,p0.slots.free,a2.1,p2.1,p2.2,a5.2.2.1,a5.2.2.2.1,a5.2.2.2.2,l3,l4)).bind fun a6=>
   some (aF.mk p0.slots a6.1 a6.2,0)
def aH4 (N:Nat):aU:=⟨aC.cons (aE.agg bW) (aC.cons (aE.agg (bG.row eF)) (aC.one (aE.agg (bG.row eF)))),aE.tup (aC.cons (aE.agg bW) (aC.one (aE.int .i64))),fun a=>(xC N) a.1 a.2.1 a.2.2,.frz,false⟩
theorem aBm (N:Nat):aB tab 269 (aH4 N):=aB.of Z2 (cx:=(aN (aH N) [(130,(OA N)),(52,(RX N)),(227,(aGo N)),(180,aU.clone fC),(181,aU.clone ki)] [(268,(GJ N)),(268,(KZ N))] [(267,N3)] [])) rfl (aM.make ⟨(wY N),(pA N),(MV N),lS,iY,trivial⟩ ⟨(yT N),(E1 N),trivial⟩ ⟨F4,trivial⟩) (fun a=>by kernel_rfl)
def tX (_:Nat) (p0:Int×Int×Int×Int×Int) (p1:Int):Option Bool:=
 some (p0.2.2.1==p1)
def aH5 (N:Nat):aU:=⟨aC.cons (aE.agg (bG.row fC)) (aC.one (aE.ref (bG.int .i64))),aE.bool,fun a=>(tX N) a.1 a.2,.pure,false⟩
theorem aBn (N:Nat):aB tab 289 (aH5 N):=aB.of MF (cx:=(aN (aH N) [] [] [] [])) rfl (aM.make trivial trivial trivial) (fun a=>by kernel_rfl)
def fY (N:Nat) (s:((List (Int×Int×Int×Int×Int))×Int×Int×Int)):Option (bB ((List (Int×Int×Int×Int×Int))×Int×Int×Int) Int):=
 bif decide (s.2.2.2<s.2.2.1) then
  (aK s.1 s.2.2.2).bind fun a0=>
  ((tX N) a0 s.2.1).bind fun b1=>
  bif b1 then
   some (.done s.2.2.2)
  else
   some (.next (s.1,s.2.1,s.2.2.1,aA .i64 (s.2.2.2+1)))
 else
  some (.done (-1))
def dK (N:Nat) (p0:List (Int×Int×Int×Int×Int)) (p1:Int):Option Int:=
 (aT N) (fY N) (p0,p1,aa p0.length,0)
def I5 (N:Nat):aU:=⟨aC.cons (aE.sl fC) (aC.one (aE.clo 289 (aC.one (aE.ref (bG.int .i64))))),aE.int .i64,fun a=>(dK N) a.1 a.2,.pure,false⟩
theorem I6 (N:Nat):aB tab 295 (I5 N):=aB.of aAg (cx:=(aN (aH N) [(289,(aH5 N))] [] [(289,WM)] [])) rfl (aM.make ⟨(aBn N),trivial⟩ trivial ⟨MF,trivial⟩) (fun a=>by kernel_rfl)
def cY (N:Nat) (p0:List (Int×Int×Int×Int×Int)) (p1:Int):Option Bool:=
 ((dK N) p0 p1).bind fun n0=>
 some (decide (0<=n0))
def I7 (N:Nat):aU:=⟨aC.cons (aE.sl fC) (aC.one (aE.clo 289 (aC.one (aE.ref (bG.int .i64))))),aE.bool,fun a=>(cY N) a.1 a.2,.pure,false⟩
theorem I8 (N:Nat):aB tab 288 (I7 N):=aB.of aAc (cx:=(aN (aH N) [(295,(I5 N))] [] [] [])) rfl (aM.make ⟨(I6 N),trivial⟩ trivial trivial) (fun a=>by kernel_rfl)
def rX (_:Nat) (p0:List Int):Option ((List Int)×Int):=
 (fO p0 0 (aA .i64 ((aa p0.length) -1))).bind fun l0=>
 (bC l0).bind fun l1=>
 (aK p0 (aA .i64 ((aa p0.length) -1))).bind fun n2=>
 some (l1,n2)
def aH6 (N:Nat):aU:=⟨aC.one (aE.sl ki),aE.tup (aC.cons (aE.sl ki) (aC.one (aE.int .i64))),fun a=>(rX N) a,.frz,false⟩
theorem aBo (N:Nat):aB tab 296 (aH6 N):=aB.of aAh (cx:=(aN (aH N) [(294,aU.clone ki)] [] [] [])) rfl (aM.make ⟨IJ,trivial⟩ trivial trivial) (fun a=>by kernel_rfl)
def E2 (N:Nat) (p0:aL):Option (aL×(Int×Int)×Int):=
 ((pD N) p0).bind fun n0=>
 bif n0 !=0 then
  some (aL.mk [] [] [],(0,0),n0)
 else
  bif (aa p0.free.length)==0 then
   some (aL.mk [] [] [],(0,0),18)
  else
   ((rX N) p0.free).bind fun a1=>
   (aK p0.uses a1.2).bind fun n2=>
   bif n2==1000000 then
    some (aL.mk [] [] [],(0,0),18)
   else
    (bC p0.uses).bind fun l3=>
    (bC p0.used).bind fun l4=>
    (aK l4 a1.2).bind fun _=>
    (aK l3 a1.2).bind fun n6=>
    (aK l3 a1.2).bind fun _=>
    (aK (bM l3 a1.2 (aA .i64 (n6+1))) a1.2).bind fun n8=>
    some (aL.mk (bM l3 a1.2 (aA .i64 (n6+1))) (bM l4 a1.2 true) a1.1,(a1.2,n8),0)
def aH7 (N:Nat):aU:=⟨aC.one (aE.agg eD),aE.tup (aC.cons (aE.agg eD) (aC.cons (aE.agg (bG.row eF)) (aC.one (aE.int .i64)))),fun a=>(E2 N) a,.frz,false⟩
theorem aBp (N:Nat):aB tab 290 (aH7 N):=aB.of aAd (cx:=(aN (aH N) [(190,(aAO N)),(296,(aH6 N)),(181,aU.clone ki),(182,aU.clone kb)] [] [(285,QJ)] [])) rfl (aM.make ⟨(GC N),(aBo N),iY,lR,trivial⟩ trivial ⟨MD,trivial⟩) (fun a=>by kernel_rfl)
def mS (N:Nat) (p0:aF) (p1:Int×Int) (p2:Int):Option (aF×(Int×Int)×Int):=
 ((gS N) p0).bind fun n0=>
 ((dD N) p1).bind fun n1=>
 bif (if n1>n0 then n1 else n0) !=0 then
  some (aF.mk (aL.mk [] [] []) [] [],(0,0),if n1>n0 then n1 else n0)
 else
  bif decide (p2<0) then
   some (aF.mk (aL.mk [] [] []) [] [],(0,0),2)
  else
   bif decide (1000000<p2) then
    some (aF.mk (aL.mk [] [] []) [] [],(0,0),2)
   else
    ((cY N) p0.heap p2).bind fun b2=>
    bif b2 then
     some (aF.mk (aL.mk [] [] []) [] [],(0,0),14)
    else
     ((E2 N) p0.slots).bind fun a3=>
     bif a3.2.2 !=0 then
      some (aF.mk (aL.mk [] [] []) [] [],(0,0),a3.2.2)
     else
      (bC p0.heap).bind fun l4=>
      (bC p0.where_).bind fun l5=>
      (bE l4 [(p1.1,p1.2,p2,a3.2.1)]).bind fun l6=>
      ((gY N) (a3.1.uses,a3.1.used,a3.1.free,aA .i64 ((aa l6.length) -1),p1.1,p1.2,p2,a3.2.1.1,a3.2.1.2,l6,l5)).bind fun a7=>
      some (aF.mk a3.1 a7.1 a7.2,a3.2.1,0)
def aGt (N:Nat):aU:=⟨aC.cons (aE.agg bW) (aC.cons (aE.agg (bG.row eF)) (aC.one (aE.int .i64))),aE.tup (aC.cons (aE.agg bW) (aC.cons (aE.agg (bG.row eF)) (aC.one (aE.int .i64)))),fun a=>(mS N) a.1 a.2.1 a.2.2,.frz,false⟩
theorem MZ (N:Nat):aB tab 270 (aGt N):=aB.of Z3 (cx:=(aN (aH N) [(130,(OA N)),(52,(RX N)),(288,(I7 N)),(290,(aH7 N)),(180,aU.clone fC),(181,aU.clone ki)] [(268,(GJ N)),(268,(KZ N))] [(267,N3)] [])) rfl (aM.make ⟨(wY N),(pA N),(I8 N),(aBp N),lS,iY,trivial⟩ ⟨(yT N),(E1 N),trivial⟩ ⟨F4,trivial⟩) (fun a=>by kernel_rfl)
end
end Go.Proofs.YtcljjehjppgijaaGreat
