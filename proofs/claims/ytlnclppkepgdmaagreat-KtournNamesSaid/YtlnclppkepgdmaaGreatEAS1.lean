/- Plain functions for what the functions of the seat compute. Printed by a program. -/
import Derived.Test.YtlnclppkepgdmaaGreatEVm3
import Derived.Test.YtlnclppkepgdmaaGreatEAXT
set_option maxRecDepth 100000
namespace Go.Proofs.YtlnclppkepgdmaaGreat
open Go.Vm
noncomputable section
theorem Oc {f:FuncId} {x:aF} {α β:Type} {args:aC α} {res:aE β} {kd:Kd} {fn:α->Option β} {ow:Bool} (hf:tab f=some (.code x)) (ho:TG kd ow=true) (lp:Option Nat) (l:List (Nat×aU)) (h:uU tab l) (e: ∀a,aCi (aN lp l [] [] []) x args res kd a=fn a):aB tab f ⟨args,res,fn,kd,ow⟩:=aB.of hf (cx:=aN lp l [] [] []) ho (aL.make h trivial trivial) e
abbrev cB:List PT:=[.i .i64,.i .i64,.i .i64]
abbrev eC:List PT:=[.i .i64,.i .i64]
abbrev ki:List PT:=[.i .i64]
abbrev kb:List PT:=[.b]
abbrev fH:List PT:=[.i .i64,.i .i64,.i .i64,.i .i64,.i .i64]
abbrev rF:List PT:=[.b,.i .u64,.i .u64]
abbrev aHO:List PT:=[.i .i64,.i .i64,.i .i64,.i .i64]
abbrev kiu:List PT:=[.i .i64,.i .u64]
structure Field where
 points:List (Int×Int×Int)
def bG:bF Field:=bF.iso (bF.sl cB) (fun p=>⟨p⟩) (fun c=>c.points) (fun _=>rfl)
structure aM where
 uses:List Int
 used:List Bool
 free:List Int
def eJ:bF aM:=bF.iso (bF.prod (bF.sl ki) (bF.prod (bF.sl kb) (bF.sl ki))) (fun p=>⟨p.1,p.2.1,p.2.2⟩) (fun c=>(c.uses,c.used,c.free)) (fun _=>rfl)
structure aH where
 slots:aM
 heap:List (Int×Int×Int×Int×Int)
 where_:List Int
def bT:bF aH:=bF.iso (bF.prod eJ (bF.prod (bF.sl fH) (bF.sl ki))) (fun p=>⟨p.1,p.2.1,p.2.2⟩) (fun c=>(c.slots,c.heap,c.where_)) (fun _=>rfl)
structure aQ where
 next_:Int
 list:List (Int×Int×Int)
def eT:bF aQ:=bF.iso (bF.prod (bF.int .i64) (bF.sl cB)) (fun p=>⟨p.1,p.2⟩) (fun c=>(c.next_,c.list)) (fun _=>rfl)
structure aJ where
 now:Int×Int
 field:Field
 certs:aQ
 agenda:aH
 due:List (Int×Int×Int)
def aZ:bF aJ:=bF.iso (bF.prod (bF.row eC) (bF.prod bG (bF.prod eT (bF.prod bT (bF.sl cB))))) (fun p=>⟨p.1,p.2.1,p.2.2.1,p.2.2.2.1,p.2.2.2.2⟩) (fun c=>(c.now,c.field,c.certs,c.agenda,c.due)) (fun _=>rfl)
structure aP where
 places:List Int
 wins:List Int
def cN:bF aP:=bF.iso (bF.prod (bF.sl ki) (bF.sl ki)) (fun p=>⟨p.1,p.2⟩) (fun c=>(c.places,c.wins)) (fun _=>rfl)
structure aT where
 clock:aJ
 bracket:aP
def fI:bF aT:=bF.iso (bF.prod aZ cN) (fun p=>⟨p.1,p.2⟩) (fun c=>(c.clock,c.bracket)) (fun _=>rfl)
theorem lM:aB tab 184 (aU.clone kb):=aB.clone Y2 rfl
theorem Q9:aB tab 300 (aU.add64):=aB.add64 aAs
theorem iV:aB tab 67 (aU.clone ki):=aB.clone aGh rfl
theorem nX:aB tab 181 (aU.clone cB):=aB.clone YZ rfl
theorem nY:aB tab 124 (aU.clone cB):=aB.clone X6 rfl
theorem wT:aB tab 182 (aU.clone cB):=aB.clone Y0 rfl
theorem lN:aB tab 183 (aU.clone fH):=aB.clone Y1 rfl
theorem IY:aB tab 315 (aU.clone ki):=aB.clone aAy rfl
def kF (_:Nat):Option Field:=
 some (Field.mk [(1,0,2),(2,6,-1),(5,0,0)])
def c25 (N:Nat):aU:=⟨aC.nil,aE.agg bG,fun _=>(kF N),.frz,false⟩
theorem RA (N:Nat):aB tab 25 (c25 N):=aB.of aFQ (cx:=(aN (aG N) [] [] [] [])) rfl (aL.make trivial trivial trivial) (fun a=>by kernel_rfl)
def gN (_:Nat) (p0:Int):Option (Int×Int):=
 some (p0,1)
def c26 (N:Nat):aU:=⟨aC.one (aE.int .i64),aE.agg (bF.row eC),fun a=>(gN N) a,.pure,false⟩
theorem RC (N:Nat):aB tab 26 (c26 N):=aB.of aFR (cx:=(aN (aG N) [] [] [] [])) rfl (aL.make trivial trivial trivial) (fun a=>by kernel_rfl)
def zM (_:Nat) (p0:Int×Int×Int):Option Int:=
 bif decide (p0.1<0) then
  some 8
 else
  bif decide (65535<p0.1) then
   some 8
  else
   bif decide (p0.2.1<(-1048576)) then
    some 8
   else
    bif decide (1048576<p0.2.1) then
     some 8
    else
     bif decide (p0.2.2<(-1048576)) then
      some 8
     else
      bif decide (1048576<p0.2.2) then
       some 8
      else
       some 0
def c85 (N:Nat):aU:=⟨aC.one (aE.agg (bF.row cB)),aE.int .i64,fun a=>(zM N) a,.pure,false⟩
theorem aGE (N:Nat):aB tab 85 (c85 N):=aB.of aGs (cx:=(aN (aG N) [] [] [] [])) rfl (aL.make trivial trivial trivial) (fun a=>by kernel_rfl)
def CU (_:Nat) (s:(Int×(List (Int×Int×Int)))):Option (aY (Int×(List (Int×Int×Int))) (aY (Int×(List (Int×Int×Int))) Int)):=
 bif decide (s.1<(Int.ofNat s.2.length)) then
  (aK s.2 (aA .i64 (s.1-1))).bind fun a0=>
  (aK s.2 s.1).bind fun a1=>
  bif decide (a1.1<=a0.1) then
   some (.done (.done 32))
  else
   some (.next (aA .i64 (s.1+1),s.2))
 else
  some (.done (.done 0))
def CV (N:Nat) (s:(Int×(List (Int×Int×Int)))):Option (aY (Int×(List (Int×Int×Int))) Int):=
 bif decide (s.1<(Int.ofNat s.2.length)) then
  (aK s.2 s.1).bind fun a0=>
  ((zM N) a0).bind fun n1=>
  bif n1 !=0 then
   some (.done 8)
  else
   some (.next (aA .i64 (s.1+1),s.2))
 else
  (aR N) (CU N) (1,s.2)
def rG (N:Nat) (p0:Field):Option Int:=
 bif decide (64<(Int.ofNat p0.points.length)) then
  some 4
 else
  (aR N) (CV N) (0,p0.points)
def c29 (N:Nat):aU:=⟨aC.one (aE.agg bG),aE.int .i64,fun a=>(rG N) a,.pure,false⟩
theorem aGF (N:Nat):aB tab 29 (c29 N):=aB.of aFU (cx:=(aN (aG N) [(85,(c85 N))] [] [] [])) rfl (aL.make ⟨(aGE N),trivial⟩ trivial trivial) (fun a=>by kernel_rfl)
def eX (_:Nat) (p0:Int):Option Int:=
 bif decide (p0<0) then
  some (aA .u64 ((aA .u64 (aA .i64 (0- (aA .i64 (p0+1)))))+1))
 else
  some (aA .u64 p0)
def c95 (N:Nat):aU:=⟨aC.one (aE.int .i64),aE.int .u64,fun a=>(eX N) a,.pure,false⟩
theorem LA (N:Nat):aB tab 95 (c95 N):=aB.of aGA (cx:=(aN (aG N) [] [] [] [])) rfl (aL.make trivial trivial trivial) (fun a=>by kernel_rfl)
def AI (_:Nat) (s:(Int×Int)):Option (aY (Int×Int) Int):=
 bif s.2 !=0 then
  bif s.2==0 then
   none
  else
   some (.next (s.2,Int.tmod s.1 s.2))
 else
  some (.done s.1)
def pE (N:Nat) (p0:Int) (p1:Int):Option Int:=
 (aR N) (AI N) (p0,p1)
def c94 (N:Nat):aU:=⟨aC.cons (aE.int .u64) (aC.one (aE.int .u64)),aE.int .u64,fun a=>(pE N) a.1 a.2,.pure,false⟩
theorem RD (N:Nat):aB tab 94 (c94 N):=aB.of aGz (cx:=(aN (aG N) [] [] [] [])) rfl (aL.make trivial trivial trivial) (fun a=>by kernel_rfl)
def zN (N:Nat) (p0:Int×Int):Option Int:=
 bif decide (p0.2<1) then
  some 8
 else
  bif p0.1==(-9223372036854775808) then
   some 8
  else
   ((eX N) p0.1).bind fun n0=>
   ((pE N) n0 (aA .u64 p0.2)).bind fun n1=>
   bif n1 !=1 then
    some 8
   else
    some 0
def c36 (N:Nat):aU:=⟨aC.one (aE.agg (bF.row eC)),aE.int .i64,fun a=>(zN N) a,.pure,false⟩
theorem aGG (N:Nat):aB tab 36 (c36 N):=aB.of aFY (cx:=(aN (aG N) [(95,(c95 N)),(94,(c94 N))] [] [] [])) rfl (aL.make ⟨(LA N),(RD N),trivial⟩ trivial trivial) (fun a=>by kernel_rfl)
def lO (_:Nat) (p0:Field):Option Field:=
 (bB p0.points).bind fun l0=>
 some (Field.mk l0)
def c91 (N:Nat):aU:=⟨aC.one (aE.agg bG),aE.agg bG,fun a=>(lO N) a,.own,true⟩
def RE (N:Nat):aU:=⟨aC.one (aE.agg bG),aE.agg bG,fun a=>(lO N) a,.frz,false⟩
theorem GK (N:Nat):aB tab 91 (c91 N):=aB.of Q8 (cx:=(aN (aG N) [] [] [] [])) rfl (aL.make trivial trivial trivial) (fun a=>by kernel_rfl)
theorem AX (N:Nat):aB tab 91 (RE N):=aB.of Q8 (cx:=(aN (aG N) [] [] [] [])) rfl (aL.make trivial trivial trivial) (fun a=>by kernel_rfl)
def CW (_:Nat) (s:(Int×(List Int)×(List Bool)×(List Int))):Option (aY (Int×(List Int)×(List Bool)×(List Int)) aM):=
 bif decide (0<=s.1) then
  (bD s.2.2.2 [s.1]).bind fun l0=>
  some (.next (aA .i64 (s.1-1),s.2.1,s.2.2.1,l0))
 else
  some (.done (aM.mk s.2.1 s.2.2.1 s.2.2.2))
def zO (N:Nat) (p0:Int):Option aM:=
 bif p0==p0 then
  (nS p0 (0:Int)).bind fun l0=>
  bif p0==p0 then
   (nS p0 (false:Bool)).bind fun l1=>
   (aR N) (CW N) (aA .i64 (p0-1),l0,l1,[])
  else
   none
 else
  none
def aHQ (N:Nat):aU:=⟨aC.one (aE.int .i64),aE.agg eJ,fun a=>(zO N) a,.frz,false⟩
theorem aAB (N:Nat):aB tab 156 (aHQ N):=aB.of YL (cx:=(aN (aG N) [] [] [] [])) rfl (aL.make trivial trivial trivial) (fun a=>by kernel_rfl)
def CX (_:Nat) (s:(Int×Int×(List Int)×(List Bool)×(List Int)×(List Int))):Option (aY (Int×Int×(List Int)×(List Bool)×(List Int)×(List Int)) aH):=
 bif decide (s.2.1<s.1) then
  (bD s.2.2.2.2.2 [-1]).bind fun l0=>
  some (.next (s.1,aA .i64 (s.2.1+1),s.2.2.1,s.2.2.2.1,s.2.2.2.2.1,l0))
 else
  some (.done (aH.mk (aM.mk s.2.2.1 s.2.2.2.1 s.2.2.2.2.1) [] s.2.2.2.2.2))
def zP (N:Nat) (p0:Int):Option aH:=
 ((zO N) p0).bind fun r0=>
 (aR N) (CX N) (p0,0,r0.uses,r0.used,r0.free,[])
def c92 (N:Nat):aU:=⟨aC.one (aE.int .i64),aE.agg bT,fun a=>(zP N) a,.frz,false⟩
theorem aGH (N:Nat):aB tab 92 (c92 N):=aB.of aGy (cx:=(aN (aG N) [(156,(aHQ N))] [] [] [])) rfl (aL.make ⟨(aAB N),trivial⟩ trivial trivial) (fun a=>by kernel_rfl)
def zQ (N:Nat) (p0:Field) (p1:Int×Int):Option aJ:=
 ((lO N) p0).bind fun r0=>
 ((zP N) 200).bind fun r1=>
 some (aJ.mk p1 r0 (aQ.mk 0 []) r1 [])
def c33 (N:Nat):aU:=⟨aC.cons (aE.agg bG) (aC.one (aE.agg (bF.row eC))),aE.agg aZ,fun a=>(zQ N) a.1 a.2,.frz,false⟩
theorem aGI (N:Nat):aB tab 33 (c33 N):=aB.of aFX (cx:=(aN (aG N) [(91,(c91 N)),(91,(RE N)),(92,(c92 N))] [] [] [])) rfl (aL.make ⟨(GK N),(AX N),(aGH N),trivial⟩ trivial trivial) (fun a=>by kernel_rfl)
def CY (_:Nat) (s:(Int×Int×(List (Int×Int×Int))×(List Int))):Option (aY (Int×Int×(List (Int×Int×Int))×(List Int)) (aY (Int×(List (Int×Int×Int))) (List Int))):=
 bif decide (s.2.1<s.1) then
  bif decide (s.2.1<(Int.ofNat s.2.2.1.length)) then
   (aK s.2.2.1 s.2.1).bind fun a0=>
   (bD s.2.2.2 [a0.1]).bind fun l1=>
   some (.next (s.1,aA .i64 (s.2.1+1),s.2.2.1,l1))
  else
   (bD s.2.2.2 [-1]).bind fun l2=>
   some (.next (s.1,aA .i64 (s.2.1+1),s.2.2.1,l2))
 else
  some (.done (.done s.2.2.2))
def CZ (N:Nat) (s:(Int×(List (Int×Int×Int)))):Option (aY (Int×(List (Int×Int×Int))) (List Int)):=
 bif decide (s.1<(Int.ofNat s.2.length)) then
  some (.next (aA .i64 (s.1*2),s.2))
 else
  (aR N) (CY N) (s.1,0,s.2,[])
def zR (N:Nat) (p0:Field):Option (List Int):=
 (aR N) (CZ N) (1,p0.points)
def c61 (N:Nat):aU:=⟨aC.one (aE.agg bG),aE.sl ki,fun a=>(zR N) a,.frz,false⟩
theorem aGJ (N:Nat):aB tab 61 (c61 N):=aB.of aGc (cx:=(aN (aG N) [] [] [] [])) rfl (aL.make trivial trivial trivial) (fun a=>by kernel_rfl)
def lP (_:Nat) (p0:aP) (p1:Int):Option Int:=
 bif decide (p1<(Int.ofNat p0.wins.length)) then
  (aK p0.wins p1).bind fun n0=>
  some n0
 else
  (aK p0.places (aA .i64 (p1- (Int.ofNat p0.wins.length)))).bind fun n1=>
  some n1
def c40 (N:Nat):aU:=⟨aC.cons (aE.agg cN) (aC.one (aE.int .i64)),aE.int .i64,fun a=>(lP N) a.1 a.2,.pure,false⟩
theorem RF (N:Nat):aB tab 40 (c40 N):=aB.of aFZ (cx:=(aN (aG N) [] [] [] [])) rfl (aL.make trivial trivial trivial) (fun a=>by kernel_rfl)
def IZ (_:Nat) (s:(Int×Int×(List (Int×Int×Int)))):Option (aY (Int×Int×(List (Int×Int×Int))) Int):=
 bif decide (s.2.1<(Int.ofNat s.2.2.length)) then
  (aK s.2.2 s.2.1).bind fun a0=>
  bif a0.1==s.1 then
   some (.done s.2.1)
  else
   some (.next (s.1,aA .i64 (s.2.1+1),s.2.2))
 else
  some (.done (-1))
def rH (N:Nat) (p0:Field) (p1:Int):Option Int:=
 (aR N) (IZ N) (p1,0,p0.points)
def c97 (N:Nat):aU:=⟨aC.cons (aE.agg bG) (aC.one (aE.int .i64)),aE.int .i64,fun a=>(rH N) a.1 a.2,.pure,false⟩
theorem RG (N:Nat):aB tab 97 (c97 N):=aB.of aGC (cx:=(aN (aG N) [] [] [] [])) rfl (aL.make trivial trivial trivial) (fun a=>by kernel_rfl)
def tK (_:Nat) (p0:Int) (p1:Int):Option (Bool×Int×Int):=
 some (false,aA .u64 ((aA .u64 ((aA .u64 ((aA .u64 (Int.tdiv p0 4294967296))*(aA .u64 (Int.tdiv p1 4294967296))))+(aA .u64 (Int.tdiv (aA .u64 ((aA .u64 ((aA .u64 (Int.tdiv p0 4294967296))*(Int.tmod p1 4294967296)))+(aA .u64 (Int.tdiv (aA .u64 ((Int.tmod p0 4294967296)*(Int.tmod p1 4294967296))) 4294967296)))) 4294967296))))+(aA .u64 (Int.tdiv (aA .u64 ((aA .u64 ((Int.tmod p0 4294967296)*(aA .u64 (Int.tdiv p1 4294967296))))+(Int.tmod (aA .u64 ((aA .u64 ((aA .u64 (Int.tdiv p0 4294967296))*(Int.tmod p1 4294967296)))+(aA .u64 (Int.tdiv (aA .u64 ((Int.tmod p0 4294967296)*(Int.tmod p1 4294967296))) 4294967296)))) 4294967296))) 4294967296))),aA .u64 ((aA .u64 ((Int.tmod (aA .u64 ((aA .u64 ((Int.tmod p0 4294967296)*(aA .u64 (Int.tdiv p1 4294967296))))+(Int.tmod (aA .u64 ((aA .u64 ((aA .u64 (Int.tdiv p0 4294967296))*(Int.tmod p1 4294967296)))+(aA .u64 (Int.tdiv (aA .u64 ((Int.tmod p0 4294967296)*(Int.tmod p1 4294967296))) 4294967296)))) 4294967296))) 4294967296)*4294967296))+(Int.tmod (aA .u64 ((Int.tmod p0 4294967296)*(Int.tmod p1 4294967296))) 4294967296)))
def aHR (N:Nat):aU:=⟨aC.cons (aE.int .u64) (aC.one (aE.int .u64)),aE.agg (bF.row rF),fun a=>(tK N) a.1 a.2,.pure,false⟩
theorem aAC (N:Nat):aB tab 152 (aHR N):=aB.of YH (cx:=(aN (aG N) [] [] [] [])) rfl (aL.make trivial trivial trivial) (fun a=>by kernel_rfl)
def hM (N:Nat) (p0:Int) (p1:Int):Option (Bool×Int×Int):=
 ((eX N) p0).bind fun n0=>
 ((eX N) p1).bind fun n1=>
 ((tK N) n0 n1).bind fun a2=>
 bif !((decide (p0<0))==(decide (p1<0))) then
  bif p0 !=0 then
   some (p1 !=0,a2.2)
  else
   some (false,a2.2)
 else
  some (false,a2.2)
def c86 (N:Nat):aU:=⟨aC.cons (aE.int .i64) (aC.one (aE.int .i64)),aE.agg (bF.row rF),fun a=>(hM N) a.1 a.2,.pure,false⟩
theorem RH (N:Nat):aB tab 86 (c86 N):=aB.of aGt (cx:=(aN (aG N) [(95,(c95 N)),(152,(aHR N))] [] [] [])) rfl (aL.make ⟨(LA N),(aAC N),trivial⟩ trivial trivial) (fun a=>by kernel_rfl)
def pF (_:Nat) (p0:Bool×Int×Int) (p1:Bool×Int×Int):Option Int:=
 bif p0.2.1 !=p1.2.1 then
  bif decide (p0.2.1<p1.2.1) then
   some (-1)
  else
   some 1
 else
  bif p0.2.2 !=p1.2.2 then
   bif decide (p0.2.2<p1.2.2) then
    some (-1)
   else
    some 1
  else
   some 0
def c88 (N:Nat):aU:=⟨aC.cons (aE.agg (bF.row rF)) (aC.one (aE.agg (bF.row rF))),aE.int .i64,fun a=>(pF N) a.1 a.2,.pure,false⟩
theorem RI (N:Nat):aB tab 88 (c88 N):=aB.of aGv (cx:=(aN (aG N) [] [] [] [])) rfl (aL.make trivial trivial trivial) (fun a=>by kernel_rfl)
def rI (_:Nat) (p0:Bool×Int×Int) (p1:Bool×Int×Int):Option (Bool×Int×Int):=
 bif decide (p0.2.2<p1.2.2) then
  some (false,aA .u64 ((aA .u64 (p0.2.1-p1.2.1)) -1),aA .u64 (p0.2.2-p1.2.2))
 else
  some (false,aA .u64 (p0.2.1-p1.2.1),aA .u64 (p0.2.2-p1.2.2))
def aHS (N:Nat):aU:=⟨aC.cons (aE.agg (bF.row rF)) (aC.one (aE.agg (bF.row rF))),aE.agg (bF.row rF),fun a=>(rI N) a.1 a.2,.pure,false⟩
theorem aAD (N:Nat):aB tab 272 (aHS N):=aB.of aAe (cx:=(aN (aG N) [] [] [] [])) rfl (aL.make trivial trivial trivial) (fun a=>by kernel_rfl)
def C0 (N:Nat) (p0:Bool×Int×Int) (p1:Bool×Int×Int):Option (Bool×Int×Int):=
 bif p0.1==p1.1 then
  bif decide ((aA .u64 (p0.2.2+p1.2.2))<p0.2.2) then
   some (p0.1,aA .u64 ((aA .u64 (p0.2.1+p1.2.1))+1),aA .u64 (p0.2.2+p1.2.2))
  else
   some (p0.1,aA .u64 (p0.2.1+p1.2.1),aA .u64 (p0.2.2+p1.2.2))
 else
  ((pF N) p0 p1).bind fun n0=>
  bif decide (0<=n0) then
   ((rI N) p0 p1).bind fun a1=>
   bif p0.1 then
    bif decide (0<a1.2.1) then
     some (true,a1.2)
    else
     some (decide (0<a1.2.2),a1.2)
   else
    some (false,a1.2)
  else
   ((rI N) p1 p0).bind fun a2=>
   some (p1.1,a2.2)
def aHT (N:Nat):aU:=⟨aC.cons (aE.agg (bF.row rF)) (aC.one (aE.agg (bF.row rF))),aE.agg (bF.row rF),fun a=>(C0 N) a.1 a.2,.pure,false⟩
theorem aAE (N:Nat):aB tab 227 (aHT N):=aB.of ZN (cx:=(aN (aG N) [(88,(c88 N)),(272,(aHS N))] [] [] [])) rfl (aL.make ⟨(RI N),(aAD N),trivial⟩ trivial trivial) (fun a=>by kernel_rfl)
def iA (_:Nat) (p0:Bool×Int×Int):Option Int:=
 bif p0.2.1==0 then
  bif p0.2.2==0 then
   some 0
  else
   bif p0.1 then
    some (-1)
   else
    some 1
 else
  bif p0.1 then
   some (-1)
  else
   some 1
def c87 (N:Nat):aU:=⟨aC.one (aE.agg (bF.row rF)),aE.int .i64,fun a=>(iA N) a,.pure,false⟩
theorem RJ (N:Nat):aB tab 87 (c87 N):=aB.of aGu (cx:=(aN (aG N) [] [] [] [])) rfl (aL.make trivial trivial trivial) (fun a=>by kernel_rfl)
def E2 (N:Nat) (p0:Int×Int×Int) (p1:Int×Int×Int) (p2:Int×Int):Option Int:=
 ((hM N) (aA .i64 (p0.2.1-p1.2.1)) p2.2).bind fun a0=>
 ((hM N) (aA .i64 (p0.2.2-p1.2.2)) p2.1).bind fun a1=>
 ((C0 N) a0 a1).bind fun a2=>
 ((iA N) a2).bind fun n3=>
 some n3
def aHU (N:Nat):aU:=⟨aC.cons (aE.agg (bF.row cB)) (aC.cons (aE.agg (bF.row cB)) (aC.one (aE.agg (bF.row eC)))),aE.int .i64,fun a=>(E2 N) a.1 a.2.1 a.2.2,.pure,false⟩
theorem aAF (N:Nat):aB tab 160 (aHU N):=aB.of YN (cx:=(aN (aG N) [(86,(c86 N)),(227,(aHT N)),(87,(c87 N))] [] [] [])) rfl (aL.make ⟨(RH N),(aAE N),(RJ N),trivial⟩ trivial trivial) (fun a=>by kernel_rfl)
def rJ (N:Nat) (p0:Int×Int×Int) (p1:Int×Int×Int) (p2:Int×Int):Option Bool:=
 ((E2 N) p0 p1 p2).bind fun n0=>
 bif n0 !=0 then
  some (decide (0<n0))
 else
  bif p0.2.2 !=p1.2.2 then
   some (decide (p1.2.2<p0.2.2))
  else
   some (decide (p0.1<p1.1))
def c98 (N:Nat):aU:=⟨aC.cons (aE.agg (bF.row cB)) (aC.cons (aE.agg (bF.row cB)) (aC.one (aE.agg (bF.row eC)))),aE.bool,fun a=>(rJ N) a.1 a.2.1 a.2.2,.pure,false⟩
theorem RK (N:Nat):aB tab 98 (c98 N):=aB.of aGD (cx:=(aN (aG N) [(160,(aHU N))] [] [] [])) rfl (aL.make ⟨(aAF N),trivial⟩ trivial trivial) (fun a=>by kernel_rfl)
def E3 (N:Nat) (p0:Field) (p1:Int×Int) (p2:Int) (p3:Int):Option Int:=
 bif decide (p2<0) then
  some p3
 else
  bif decide (p3<0) then
   some p2
  else
   ((rH N) p0 p2).bind fun n0=>
   (aK p0.points n0).bind fun a1=>
   ((rH N) p0 p3).bind fun n2=>
   (aK p0.points n2).bind fun a3=>
   ((rJ N) a1 a3 p1).bind fun b4=>
   bif b4 then
    some p2
   else
    some p3
def c41 (N:Nat):aU:=⟨aC.cons (aE.agg bG) (aC.cons (aE.agg (bF.row eC)) (aC.cons (aE.int .i64) (aC.one (aE.int .i64)))),aE.int .i64,fun a=>(E3 N) a.1 a.2.1 a.2.2.1 a.2.2.2,.pure,false⟩
theorem aGK (N:Nat):aB tab 41 (c41 N):=aB.of aF0 (cx:=(aN (aG N) [(97,(c97 N)),(98,(c98 N))] [] [] [])) rfl (aL.make ⟨(RG N),(RK N),trivial⟩ trivial trivial) (fun a=>by kernel_rfl)
def C1 (N:Nat) (s:(Int×(List (Int×Int×Int))×Int×Int×(List Int)×(List Int))):Option (aY (Int×(List (Int×Int×Int))×Int×Int×(List Int)×(List Int)) aP):=
 bif decide (0<=s.1) then
  ((lP N) (aP.mk s.2.2.2.2.1 s.2.2.2.2.2) (aA .i64 ((aA .i64 (2*s.1))+1))).bind fun n0=>
  ((lP N) (aP.mk s.2.2.2.2.1 s.2.2.2.2.2) (aA .i64 ((aA .i64 (2*s.1))+2))).bind fun n1=>
  ((E3 N) (Field.mk s.2.1) (s.2.2.1,s.2.2.2.1) n0 n1).bind fun n2=>
  (aK s.2.2.2.2.2 s.1).bind fun _=>
  some (.next (aA .i64 (s.1-1),s.2.1,s.2.2.1,s.2.2.2.1,s.2.2.2.2.1,bM s.2.2.2.2.2 s.1 n2))
 else
  some (.done (aP.mk s.2.2.2.2.1 s.2.2.2.2.2))
def zS (N:Nat) (p0:Field) (p1:Int×Int) (p2:List Int):Option aP:=
 (bB p2).bind fun l0=>
 bif (aA .i64 ((Int.ofNat p2.length) -1))==(aA .i64 ((Int.ofNat p2.length) -1)) then
  (nS (aA .i64 ((Int.ofNat p2.length) -1)) (0:Int)).bind fun l1=>
  (aR N) (C1 N) (aA .i64 ((Int.ofNat l1.length) -1),p0.points,p1.1,p1.2,l0,l1)
 else
  none
def aHV (N:Nat):aU:=⟨aC.cons (aE.agg bG) (aC.cons (aE.agg (bF.row eC)) (aC.one (aE.sl ki))),aE.agg cN,fun a=>(zS N) a.1 a.2.1 a.2.2,.frz,false⟩
theorem aAG (N:Nat):aB tab 153 (aHV N):=aB.of YI (cx:=(aN (aG N) [(40,(c40 N)),(41,(c41 N))] [] [] [])) rfl (aL.make ⟨(RF N),(aGK N),trivial⟩ trivial trivial) (fun a=>by kernel_rfl)
def C2 (N:Nat) (p0:Field) (p1:Int×Int) (p2:List Int):Option aP:=
 ((zS N) p0 p1 p2).bind fun r0=>
 some r0
def c89 (N:Nat):aU:=⟨aC.cons (aE.agg bG) (aC.cons (aE.agg (bF.row eC)) (aC.one (aE.sl ki))),aE.agg cN,fun a=>(C2 N) a.1 a.2.1 a.2.2,.frz,false⟩
theorem aGL (N:Nat):aB tab 89 (c89 N):=aB.of aGw (cx:=(aN (aG N) [(153,(aHV N))] [] [] [])) rfl (aL.make ⟨(aAG N),trivial⟩ trivial trivial) (fun a=>by kernel_rfl)
def I0 (N:Nat) (s:(Int×(List Int)×(List Int)×(List (Int×Int)))):Option (aY (Int×(List Int)×(List Int)×(List (Int×Int))) (List (Int×Int))):=
 bif decide (s.1<(Int.ofNat s.2.2.1.length)) then
  ((lP N) (aP.mk s.2.1 s.2.2.1) (aA .i64 ((aA .i64 (2*s.1))+1))).bind fun n0=>
  ((lP N) (aP.mk s.2.1 s.2.2.1) (aA .i64 ((aA .i64 (2*s.1))+2))).bind fun n1=>
  bif decide (n0<0) then
   some (.next (aA .i64 (s.1+1),s.2))
  else
   bif decide (n1<0) then
    some (.next (aA .i64 (s.1+1),s.2))
   else
    (aK s.2.2.1 s.1).bind fun n2=>
    bif n2==n0 then
     (bD s.2.2.2 [(n1,n0)]).bind fun l3=>
     some (.next (aA .i64 (s.1+1),s.2.1,s.2.2.1,l3))
    else
     (bD s.2.2.2 [(n0,n1)]).bind fun l4=>
     some (.next (aA .i64 (s.1+1),s.2.1,s.2.2.1,l4))
 else
  some (.done s.2.2.2)
def I1 (N:Nat) (p0:aP):Option (List (Int×Int)):=
 (aR N) (I0 N) (0,p0.places,p0.wins,[])
def c62 (N:Nat):aU:=⟨aC.one (aE.agg cN),aE.sl eC,fun a=>(I1 N) a,.frz,false⟩
theorem aGM (N:Nat):aB tab 62 (c62 N):=aB.of aGd (cx:=(aN (aG N) [(40,(c40 N))] [] [] [])) rfl (aL.make ⟨(RF N),trivial⟩ trivial trivial) (fun a=>by kernel_rfl)
def pG (_:Nat) (p0:aQ):Option aQ:=
 (bB p0.list).bind fun l0=>
 some (aQ.mk p0.next_ l0)
def aAH (N:Nat):aU:=⟨aC.one (aE.agg eT),aE.agg eT,fun a=>(pG N) a,.own,true⟩
def MZ (N:Nat):aU:=⟨aC.one (aE.agg eT),aE.agg eT,fun a=>(pG N) a,.frz,false⟩
theorem GL (N:Nat):aB tab 103 (aAH N):=aB.of MI (cx:=(aN (aG N) [] [] [] [])) rfl (aL.make trivial trivial trivial) (fun a=>by kernel_rfl)
theorem C3 (N:Nat):aB tab 103 (MZ N):=aB.of MI (cx:=(aN (aG N) [] [] [] [])) rfl (aL.make trivial trivial trivial) (fun a=>by kernel_rfl)
def lQ (_:Nat) (p0:aM):Option aM:=
 (bB p0.uses).bind fun l0=>
 (bB p0.used).bind fun l1=>
 (bB p0.free).bind fun l2=>
 some (aM.mk l0 l1 l2)
def RM (N:Nat):aU:=⟨aC.one (aE.agg eJ),aE.agg eJ,fun a=>(lQ N) a,.own,true⟩
def I2 (N:Nat):aU:=⟨aC.one (aE.agg eJ),aE.agg eJ,fun a=>(lQ N) a,.frz,false⟩
theorem AY (N:Nat):aB tab 169 (RM N):=aB.of MQ (cx:=(aN (aG N) [] [] [] [])) rfl (aL.make trivial trivial trivial) (fun a=>by kernel_rfl)
theorem wU (N:Nat):aB tab 169 (I2 N):=aB.of MQ (cx:=(aN (aG N) [] [] [] [])) rfl (aL.make trivial trivial trivial) (fun a=>by kernel_rfl)
def jM (N:Nat) (p0:aH):Option aH:=
 ((lQ N) p0.slots).bind fun r0=>
 (bB p0.heap).bind fun l1=>
 (bB p0.where_).bind fun l2=>
 some (aH.mk r0 l1 l2)
def OQ (N:Nat):aU:=⟨aC.one (aE.agg bT),aE.agg bT,fun a=>(jM N) a,.own,true⟩
def E4 (N:Nat):aU:=⟨aC.one (aE.agg bT),aE.agg bT,fun a=>(jM N) a,.frz,false⟩
theorem wV (N:Nat):aB tab 104 (OQ N):=aB.of MJ (cx:=(aN (aG N) [(169,(RM N)),(169,(I2 N))] [] [] [])) rfl (aL.make ⟨(AY N),(wU N),trivial⟩ trivial trivial) (fun a=>by kernel_rfl)
theorem rL (N:Nat):aB tab 104 (E4 N):=aB.of MJ (cx:=(aN (aG N) [(169,(RM N)),(169,(I2 N))] [] [] [])) rfl (aL.make ⟨(AY N),(wU N),trivial⟩ trivial trivial) (fun a=>by kernel_rfl)
def iB (N:Nat) (p0:aJ):Option aJ:=
 ((lO N) p0.field).bind fun r0=>
 ((pG N) p0.certs).bind fun r1=>
 ((jM N) p0.agenda).bind fun r2=>
 (bB p0.due).bind fun l3=>
 some (aJ.mk p0.now r0 r1 r2 l3)
def c47 (N:Nat):aU:=⟨aC.one (aE.agg aZ),aE.agg aZ,fun a=>(iB N) a,.own,true⟩
def LB (N:Nat):aU:=⟨aC.one (aE.agg aZ),aE.agg aZ,fun a=>(iB N) a,.frz,false⟩
theorem yL (N:Nat):aB tab 47 (c47 N):=aB.of Q6 (cx:=(aN (aG N) [(91,(c91 N)),(91,(RE N)),(103,(aAH N)),(103,(MZ N)),(104,(OQ N)),(104,(E4 N))] [] [] [])) rfl (aL.make ⟨(GK N),(AX N),(GL N),(C3 N),(wV N),(rL N),trivial⟩ trivial trivial) (fun a=>by kernel_rfl)
theorem sO (N:Nat):aB tab 47 (LB N):=aB.of Q6 (cx:=(aN (aG N) [(91,(c91 N)),(91,(RE N)),(103,(aAH N)),(103,(MZ N)),(104,(OQ N)),(104,(E4 N))] [] [] [])) rfl (aL.make ⟨(GK N),(AX N),(GL N),(C3 N),(wV N),(rL N),trivial⟩ trivial trivial) (fun a=>by kernel_rfl)
def I3 (_:Nat) (s:((List (Int×Int))×Int×Int×Int)):Option (aY ((List (Int×Int))×Int×Int×Int) Bool):=
 bif decide (s.2.1<(Int.ofNat s.1.length)) then
  (aK s.1 s.2.1).bind fun a0=>
  bif (a0.1==s.2.2.1)&&(a0.2==s.2.2.2) then
   some (.done true)
  else
   some (.next (s.1,aA .i64 (s.2.1+1),s.2.2))
 else
  some (.done false)
def I4 (N:Nat) (p0:List (Int×Int)) (p1:Int×Int):Option Bool:=
 (aR N) (I3 N) (p0,0,p1)
def c44 (N:Nat):aU:=⟨aC.cons (aE.sl eC) (aC.one (aE.agg (bF.row eC))),aE.bool,fun a=>(I4 N) a.1 a.2,.pure,false⟩
theorem aGO (N:Nat):aB tab 44 (c44 N):=aB.of aF2 (cx:=(aN (aG N) [] [] [] [])) rfl (aL.make trivial trivial trivial) (fun a=>by kernel_rfl)
def yM (_:Nat) (s:(Int×Int×Int×(List (Int×Int×Int))×Int×Int×(List (Int×Int×Int)))):Option (aY (Int×Int×Int×(List (Int×Int×Int))×Int×Int×(List (Int×Int×Int))) aQ):=
 bif decide (s.2.1<(Int.ofNat s.2.2.2.1.length)) then
  (aK s.2.2.2.1 s.2.1).bind fun a0=>
  bif a0.1 !=s.1 then
   (aK s.2.2.2.1 s.2.1).bind fun a1=>
   (bD s.2.2.2.2.2.2 [a1]).bind fun l2=>
   some (.next (s.1,aA .i64 (s.2.1+1),s.2.2.1,s.2.2.2.1,s.2.2.2.2.1,s.2.2.2.2.2.1,l2))
  else
   some (.next (s.1,aA .i64 (s.2.1+1),s.2.2))
 else
  some (.done (aQ.mk s.2.2.2.2.2.1 s.2.2.2.2.2.2))
def tL (N:Nat) (p0:aQ) (p1:Int):Option aQ:=
 (aR N) (yM N) (p1,0,p0.next_,p0.list,0,p0.next_,[])
def c82 (N:Nat):aU:=⟨aC.cons (aE.agg eT) (aC.one (aE.int .i64)),aE.agg eT,fun a=>(tL N) a.1 a.2,.frz,false⟩
theorem aGP (N:Nat):aB tab 82 (c82 N):=aB.of aGp (cx:=(aN (aG N) [] [] [] [])) rfl (aL.make trivial trivial trivial) (fun a=>by kernel_rfl)
def C4 (_:Nat) (s:(Int×Int×Int×Int×(List (Int×Int×Int))×Int×(List (Int×Int×Int))×(List Int)×(List Bool)×(List Int)×(List (Int×Int×Int×Int×Int))×(List Int)×(List (Int×Int×Int)))):Option (aY (Int×Int×Int×Int×(List (Int×Int×Int))×Int×(List (Int×Int×Int))×(List Int)×(List Bool)×(List Int)×(List (Int×Int×Int×Int×Int))×(List Int)×(List (Int×Int×Int))) Int):=
 bif decide (s.2.1<(Int.ofNat s.2.2.2.2.2.2.2.2.2.2.2.2.length)) then
  (aK s.2.2.2.2.2.2.2.2.2.2.2.2 s.2.1).bind fun a0=>
  bif a0.1==s.1 then
   some (.done s.2.1)
  else
   some (.next (s.1,aA .i64 (s.2.1+1),s.2.2))
 else
  some (.done (-1))
def rM (N:Nat) (p0:aJ) (p1:Int):Option Int:=
 (aR N) (C4 N) (p1,0,p0.now.1,p0.now.2,p0.field.points,p0.certs.next_,p0.certs.list,p0.agenda.slots.uses,p0.agenda.slots.used,p0.agenda.slots.free,p0.agenda.heap,p0.agenda.where_,p0.due)
def c83 (N:Nat):aU:=⟨aC.cons (aE.agg aZ) (aC.one (aE.int .i64)),aE.int .i64,fun a=>(rM N) a.1 a.2,.pure,false⟩
theorem RN (N:Nat):aB tab 83 (c83 N):=aB.of aGq (cx:=(aN (aG N) [] [] [] [])) rfl (aL.make trivial trivial trivial) (fun a=>by kernel_rfl)
def rN (N:Nat) (p0:aM) (p1:Int×Int):Option aM:=
 ((lQ N) p0).bind fun r0=>
 (aK r0.used p1.1).bind fun _=>
 (bD r0.free [p1.1]).bind fun l2=>
 some (aM.mk r0.uses (bM r0.used p1.1 false) l2)
def aHW (N:Nat):aU:=⟨aC.cons (aE.agg eJ) (aC.one (aE.agg (bF.row eC))),aE.agg eJ,fun a=>(rN N) a.1 a.2,.frz,false⟩
theorem aAI (N:Nat):aB tab 149 (aHW N):=aB.of YG (cx:=(aN (aG N) [(169,(RM N)),(169,(I2 N))] [] [] [])) rfl (aL.make ⟨(AY N),(wU N),trivial⟩ trivial trivial) (fun a=>by kernel_rfl)
def tM (N:Nat) (p0:Int×Int) (p1:Int×Int):Option Int:=
 ((hM N) p0.1 p1.2).bind fun a0=>
 ((hM N) p1.1 p0.2).bind fun a1=>
 ((iA N) a0).bind fun n2=>
 ((iA N) a1).bind fun n3=>
 bif n2 !=n3 then
  ((iA N) a0).bind fun n4=>
  ((iA N) a1).bind fun n5=>
  bif decide (n4<n5) then
   some (-1)
  else
   some 1
 else
  ((iA N) a0).bind fun n6=>
  bif decide (n6<0) then
   ((pF N) a1 a0).bind fun n7=>
   some n7
  else
   ((pF N) a0 a1).bind fun n8=>
   some n8
def c31 (N:Nat):aU:=⟨aC.cons (aE.agg (bF.row eC)) (aC.one (aE.agg (bF.row eC))),aE.int .i64,fun a=>(tM N) a.1 a.2,.pure,false⟩
theorem aGQ (N:Nat):aB tab 31 (c31 N):=aB.of aFV (cx:=(aN (aG N) [(86,(c86 N)),(87,(c87 N)),(88,(c88 N))] [] [] [])) rfl (aL.make ⟨(RH N),(RJ N),(RI N),trivial⟩ trivial trivial) (fun a=>by kernel_rfl)
def dS (N:Nat) (p0:Int×Int×Int×Int×Int) (p1:Int×Int×Int×Int×Int):Option Bool:=
 ((tM N) (p0.1,p0.2.1) (p1.1,p1.2.1)).bind fun n0=>
 bif decide (n0<0) then
  some true
 else
  bif n0==0 then
   some (decide (p0.2.2.1<p1.2.2.1))
  else
   some false
def OR (N:Nat):aU:=⟨aC.cons (aE.agg (bF.row fH)) (aC.one (aE.agg (bF.row fH))),aE.bool,fun a=>(dS N) a.1 a.2,.pure,false⟩
theorem wW (N:Nat):aB tab 217 (OR N):=aB.of ZF (cx:=(aN (aG N) [(31,(c31 N))] [] [] [])) rfl (aL.make ⟨(aGQ N),trivial⟩ trivial trivial) (fun a=>by kernel_rfl)
def eD (_:Nat) (a:(Int×Int×(List Int)×(List Bool)×(List Int)×(List (Int×Int×Int×Int×Int))×(List Int))):Option ((List Int)×(List Bool)×(List Int)×(List (Int×Int×Int×Int×Int))×(List Int)):=
 (aK a.2.2.2.2.2.1 a.2.1).bind fun a0=>
 (aK a.2.2.2.2.2.1 a.1).bind fun a1=>
 (aK a.2.2.2.2.2.1 a.1).bind fun _=>
 (aK (bM a.2.2.2.2.2.1 a.1 a0) a.2.1).bind fun _=>
 (aK (bM (bM a.2.2.2.2.2.1 a.1 a0) a.2.1 a1) a.1).bind fun a4=>
 (aK (bM (bM a.2.2.2.2.2.1 a.1 a0) a.2.1 a1) a.2.1).bind fun a5=>
 (aK a.2.2.2.2.2.2 a4.2.2.2.1).bind fun _=>
 (aK (bM a.2.2.2.2.2.2 a4.2.2.2.1 a.1) a5.2.2.2.1).bind fun _=>
 bif a.2.2.1.length==a.2.2.1.length then
  bif a.2.2.2.1.length==a.2.2.2.1.length then
   bif a.2.2.2.2.1.length==a.2.2.2.2.1.length then
    bif ((bM (bM a.2.2.2.2.2.1 a.1 a0) a.2.1 a1).length)==a.2.2.2.2.2.1.length then
     bif ((bM (bM a.2.2.2.2.2.2 a4.2.2.2.1 a.1) a5.2.2.2.1 a.2.1).length)==a.2.2.2.2.2.2.length then
      some (a.2.2.1,a.2.2.2.1,a.2.2.2.2.1,bM (bM a.2.2.2.2.2.1 a.1 a0) a.2.1 a1,bM (bM a.2.2.2.2.2.2 a4.2.2.2.1 a.1) a5.2.2.2.1 a.2.1)
     else
      none
    else
     none
   else
    none
  else
   none
 else
  none
def uX (N:Nat):bV:=⟨[.i,.i,.l [.i .i64],.l [.b],.l [.i .i64],.l [.i .i64,.i .i64,.i .i64,.i .i64,.i .i64],.l [.i .i64]],[.agg [.own 0 false,.own 1 false,.own 2 false,.own 3 false,.own 4 false],.int .i64 0,.int .i64 0],[.arr [.i .i64] [],.arr [.b] [],.arr [.i .i64] [],.arr [.i .i64,.i .i64,.i .i64,.i .i64,.i .i64] [],.arr [.i .i64] []],[.l [.i .i64],.l [.b],.l [.i .i64],.l [.i .i64,.i .i64,.i .i64,.i .i64,.i .i64],.l [.i .i64]],.tup [],[.arr [.i .i64] [],.arr [.b] [],.arr [.i .i64] [],.arr [.i .i64,.i .i64,.i .i64,.i .i64,.i .i64] [],.arr [.i .i64] []],fun a=>(eD N) a⟩
theorem lD (N:Nat):fW tab 148 (uX N):=fW.of GE (wd:=false) (cx:=(aN (aG N) [] [] [] [])) (aL.make trivial trivial trivial) (fun a=>by kernel_rfl)
def fJ (_:Nat) (a:((List Int)×(List Bool)×(List Int)×Nat×Nat×Int×Int×(List (Int×Int×Int×Int×Int))×(List Int))):Option ((List (Int×Int×Int×Int×Int))×(List Int)):=
 (aK (a.2.2.2.2.2.2.2.1.take a.2.2.2.1) a.2.2.2.2.2.2.1).bind fun a0=>
 (aK (a.2.2.2.2.2.2.2.1.take a.2.2.2.1) a.2.2.2.2.2.1).bind fun a1=>
 (aK (a.2.2.2.2.2.2.2.1.take a.2.2.2.1) a.2.2.2.2.2.1).bind fun _=>
 (aK ((bM a.2.2.2.2.2.2.2.1 a.2.2.2.2.2.1 a0).take a.2.2.2.1) a.2.2.2.2.2.2.1).bind fun _=>
 (aK ((bM (bM a.2.2.2.2.2.2.2.1 a.2.2.2.2.2.1 a0) a.2.2.2.2.2.2.1 a1).take a.2.2.2.1) a.2.2.2.2.2.1).bind fun a4=>
 (aK ((bM (bM a.2.2.2.2.2.2.2.1 a.2.2.2.2.2.1 a0) a.2.2.2.2.2.2.1 a1).take a.2.2.2.1) a.2.2.2.2.2.2.1).bind fun a5=>
 (aK a.2.2.2.2.2.2.2.2 a4.2.2.2.1).bind fun _=>
 (aK (bM a.2.2.2.2.2.2.2.2 a4.2.2.2.1 a.2.2.2.2.2.1) a5.2.2.2.1).bind fun _=>
 bif ((bM (bM a.2.2.2.2.2.2.2.1 a.2.2.2.2.2.1 a0) a.2.2.2.2.2.2.1 a1).length)==a.2.2.2.2.2.2.2.1.length then
  bif ((bM (bM a.2.2.2.2.2.2.2.2 a4.2.2.2.1 a.2.2.2.2.2.1) a5.2.2.2.1 a.2.2.2.2.2.2.1).length)==a.2.2.2.2.2.2.2.2.length then
   some (bM (bM a.2.2.2.2.2.2.2.1 a.2.2.2.2.2.1 a0) a.2.2.2.2.2.2.1 a1,bM (bM a.2.2.2.2.2.2.2.2 a4.2.2.2.1 a.2.2.2.2.2.1) a5.2.2.2.1 a.2.2.2.2.2.2.1)
  else
   none
 else
  none
def uY (N:Nat):bV:=⟨[.l [.i .i64],.l [.b],.l [.i .i64],.n,.n,.i,.i,.l [.i .i64,.i .i64,.i .i64,.i .i64,.i .i64],.l [.i .i64]],[.agg [.sl [.i .i64] [],.sl [.b] [],.sl [.i .i64] [],.pre 0 0 0 false,.own 1 false],.int .i64 0,.int .i64 0],[.arr [.i .i64,.i .i64,.i .i64,.i .i64,.i .i64] [],.arr [.i .i64] []],[.l [.i .i64,.i .i64,.i .i64,.i .i64,.i .i64],.l [.i .i64]],.tup [],[.arr [.i .i64,.i .i64,.i .i64,.i .i64,.i .i64] [],.arr [.i .i64] []],fun a=>(fJ N) a⟩
theorem lE (N:Nat):fW tab 148 (uY N):=fW.of GE (wd:=false) (cx:=(aN (aG N) [] [] [] [])) (aL.make trivial trivial trivial) (fun a=>by kernel_rfl)
def wX (N:Nat) (c0:((List Int)×(List Bool)×(List Int)×Nat×Nat×Int×(List (Int×Int×Int×Int×Int))×(List Int))) (s:(Int×(List (Int×Int×Int×Int×Int))×(List Int)×(List Int)×(List Bool)×(List Int)×Nat×Nat)):Option (aY (Int×(List (Int×Int×Int×Int×Int))×(List Int)×(List Int)×(List Bool)×(List Int)×Nat×Nat) (Int×(List (Int×Int×Int×Int×Int))×(List Int))):=
 bif decide (0<s.1) then
  (aK (s.2.1.take s.2.2.2.2.2.2.1) s.1).bind fun a0=>
  (aK (s.2.1.take s.2.2.2.2.2.2.1) (aA .i64 (Int.tdiv (aA .i64 (s.1-1)) 2))).bind fun a1=>
  ((dS N) a0 a1).bind fun b2=>
  bif b2 then
   ((fJ N) (s.2.2.2.1,s.2.2.2.2.1,s.2.2.2.2.2.1,s.2.2.2.2.2.2.1,s.2.2.2.2.2.2.2,s.1,aA .i64 (Int.tdiv (aA .i64 (s.1-1)) 2),s.2.1,s.2.2.1)).bind fun a3=>
   some (.next (aA .i64 (Int.tdiv (aA .i64 (s.1-1)) 2),a3.1,a3.2,s.2.2.2))
  else
   bif s.2.1.length==c0.2.2.2.2.2.2.1.length then
    bif s.2.2.1.length==c0.2.2.2.2.2.2.2.length then
     some (.done (s.1,s.2.1,s.2.2.1))
    else
     none
   else
    none
 else
  bif s.2.1.length==c0.2.2.2.2.2.2.1.length then
   bif s.2.2.1.length==c0.2.2.2.2.2.2.2.length then
    some (.done (s.1,s.2.1,s.2.2.1))
   else
    none
  else
   none
def lR (N:Nat) (a:((List Int)×(List Bool)×(List Int)×Nat×Nat×Int×(List (Int×Int×Int×Int×Int))×(List Int))):Option (Int×(List (Int×Int×Int×Int×Int))×(List Int)):=
 (aR N) ((wX N) a) (a.2.2.2.2.2.1,a.2.2.2.2.2.2.1,a.2.2.2.2.2.2.2,a.1,a.2.1,a.2.2.1,a.2.2.2.1,a.2.2.2.2.1)
def GM (N:Nat):bV:=⟨[.l [.i .i64],.l [.b],.l [.i .i64],.n,.n,.i,.l [.i .i64,.i .i64,.i .i64,.i .i64,.i .i64],.l [.i .i64]],[.agg [.sl [.i .i64] [],.sl [.b] [],.sl [.i .i64] [],.pre 0 0 0 false,.own 1 false],.int .i64 0],[.arr [.i .i64,.i .i64,.i .i64,.i .i64,.i .i64] [],.arr [.i .i64] []],[.i,.l [.i .i64,.i .i64,.i .i64,.i .i64,.i .i64],.l [.i .i64]],.int .i64 0,[.arr [.i .i64,.i .i64,.i .i64,.i .i64,.i .i64] [],.arr [.i .i64] []],fun a=>(lR N) a⟩
theorem yN (N:Nat):fW tab 151 (GM N):=fW.of GF (wd:=true) (cx:=(aN (aG N) [(217,(OR N))] [(148,(uX N)),(148,(uY N))] [] [])) (aL.make ⟨(wW N),trivial⟩ ⟨(lD N),(lE N),trivial⟩ trivial) (fun a=>by kernel_rfl)
def sS (N:Nat) (c0:((List Int)×(List Bool)×(List Int)×Nat×Nat×Int×(List (Int×Int×Int×Int×Int))×(List Int))) (s:(Int×(List (Int×Int×Int×Int×Int))×(List Int)×(List Int)×(List Bool)×(List Int)×Nat×Nat)):Option (aY (Int×(List (Int×Int×Int×Int×Int))×(List Int)×(List Int)×(List Bool)×(List Int)×Nat×Nat) ((List (Int×Int×Int×Int×Int))×(List Int))):=
 bif decide ((Int.ofNat s.2.2.2.2.2.2.1)<=(aA .i64 ((aA .i64 (2*s.1))+1))) then
  bif s.2.1.length==c0.2.2.2.2.2.2.1.length then
   bif s.2.2.1.length==c0.2.2.2.2.2.2.2.length then
    some (.done (s.2.1,s.2.2.1))
   else
    none
  else
   none
 else
  bif decide ((aA .i64 ((aA .i64 ((aA .i64 (2*s.1))+1))+1))<(Int.ofNat s.2.2.2.2.2.2.1)) then
   (aK (s.2.1.take s.2.2.2.2.2.2.1) (aA .i64 ((aA .i64 ((aA .i64 (2*s.1))+1))+1))).bind fun a0=>
   (aK (s.2.1.take s.2.2.2.2.2.2.1) (aA .i64 ((aA .i64 (2*s.1))+1))).bind fun a1=>
   ((dS N) a0 a1).bind fun b2=>
   bif b2 then
    (aK (s.2.1.take s.2.2.2.2.2.2.1) (aA .i64 ((aA .i64 ((aA .i64 (2*s.1))+1))+1))).bind fun a3=>
    (aK (s.2.1.take s.2.2.2.2.2.2.1) s.1).bind fun a4=>
    ((dS N) a3 a4).bind fun b5=>
    bif !b5 then
     bif s.2.1.length==c0.2.2.2.2.2.2.1.length then
      bif s.2.2.1.length==c0.2.2.2.2.2.2.2.length then
       some (.done (s.2.1,s.2.2.1))
      else
       none
     else
      none
    else
     ((fJ N) (s.2.2.2.1,s.2.2.2.2.1,s.2.2.2.2.2.1,s.2.2.2.2.2.2.1,s.2.2.2.2.2.2.2,s.1,aA .i64 ((aA .i64 ((aA .i64 (2*s.1))+1))+1),s.2.1,s.2.2.1)).bind fun a6=>
     some (.next (aA .i64 ((aA .i64 ((aA .i64 (2*s.1))+1))+1),a6.1,a6.2,s.2.2.2))
   else
    (aK (s.2.1.take s.2.2.2.2.2.2.1) (aA .i64 ((aA .i64 (2*s.1))+1))).bind fun a7=>
    (aK (s.2.1.take s.2.2.2.2.2.2.1) s.1).bind fun a8=>
    ((dS N) a7 a8).bind fun b9=>
    bif !b9 then
     bif s.2.1.length==c0.2.2.2.2.2.2.1.length then
      bif s.2.2.1.length==c0.2.2.2.2.2.2.2.length then
       some (.done (s.2.1,s.2.2.1))
      else
       none
     else
      none
    else
     ((fJ N) (s.2.2.2.1,s.2.2.2.2.1,s.2.2.2.2.2.1,s.2.2.2.2.2.2.1,s.2.2.2.2.2.2.2,s.1,aA .i64 ((aA .i64 (2*s.1))+1),s.2.1,s.2.2.1)).bind fun a10=>
     some (.next (aA .i64 ((aA .i64 (2*s.1))+1),a10.1,a10.2,s.2.2.2))
  else
   (aK (s.2.1.take s.2.2.2.2.2.2.1) (aA .i64 ((aA .i64 (2*s.1))+1))).bind fun a11=>
   (aK (s.2.1.take s.2.2.2.2.2.2.1) s.1).bind fun a12=>
   ((dS N) a11 a12).bind fun b13=>
   bif !b13 then
    bif s.2.1.length==c0.2.2.2.2.2.2.1.length then
     bif s.2.2.1.length==c0.2.2.2.2.2.2.2.length then
      some (.done (s.2.1,s.2.2.1))
     else
      none
    else
     none
   else
    ((fJ N) (s.2.2.2.1,s.2.2.2.2.1,s.2.2.2.2.2.1,s.2.2.2.2.2.2.1,s.2.2.2.2.2.2.2,s.1,aA .i64 ((aA .i64 (2*s.1))+1),s.2.1,s.2.2.1)).bind fun a14=>
    some (.next (aA .i64 ((aA .i64 (2*s.1))+1),a14.1,a14.2,s.2.2.2))
def jN (N:Nat) (a:((List Int)×(List Bool)×(List Int)×Nat×Nat×Int×(List (Int×Int×Int×Int×Int))×(List Int))):Option ((List (Int×Int×Int×Int×Int))×(List Int)):=
 (aR N) ((sS N) a) (a.2.2.2.2.2.1,a.2.2.2.2.2.2.1,a.2.2.2.2.2.2.2,a.1,a.2.1,a.2.2.1,a.2.2.2.1,a.2.2.2.2.1)
def LC (N:Nat):bV:=⟨[.l [.i .i64],.l [.b],.l [.i .i64],.n,.n,.i,.l [.i .i64,.i .i64,.i .i64,.i .i64,.i .i64],.l [.i .i64]],[.agg [.sl [.i .i64] [],.sl [.b] [],.sl [.i .i64] [],.pre 0 0 0 false,.own 1 false],.int .i64 0],[.arr [.i .i64,.i .i64,.i .i64,.i .i64,.i .i64] [],.arr [.i .i64] []],[.l [.i .i64,.i .i64,.i .i64,.i .i64,.i .i64],.l [.i .i64]],.tup [],[.arr [.i .i64,.i .i64,.i .i64,.i .i64,.i .i64] [],.arr [.i .i64] []],fun a=>(jN N) a⟩
theorem E5 (N:Nat):fW tab 150 (LC N):=fW.of MP (wd:=false) (cx:=(aN (aG N) [(217,(OR N))] [(148,(uX N)),(148,(uY N))] [] [])) (aL.make ⟨(wW N),trivial⟩ ⟨(lD N),(lE N),trivial⟩ trivial) (fun a=>by kernel_rfl)
def hO (N:Nat) (p0:aH) (p1:Int×Int):Option aH:=
 ((jM N) p0).bind fun r0=>
 (aK r0.where_ p1.1).bind fun n1=>
 bif n1 !=(aA .i64 ((Int.ofNat r0.heap.length) -1)) then
  ((eD N) (n1,aA .i64 ((Int.ofNat r0.heap.length) -1),r0.slots.uses,r0.slots.used,r0.slots.free,r0.heap,r0.where_)).bind fun a2=>
  (fZ a2.2.2.2.1 0 (aA .i64 ((Int.ofNat r0.heap.length) -1))).bind fun _=>
  (aK a2.2.2.2.2 p1.1).bind fun _=>
  ((rN N) (aM.mk a2.1 a2.2.1 a2.2.2.1) p1).bind fun r5=>
  bif n1 !=(aA .i64 ((Int.ofNat r0.heap.length) -1)) then
   ((lR N) (r5.uses,r5.used,r5.free,(aA .i64 ((Int.ofNat r0.heap.length) -1)).toNat,a2.2.2.2.1.length,n1,a2.2.2.2.1,bM a2.2.2.2.2 p1.1 (-1))).bind fun a6=>
   ((jN N) (r5.uses,r5.used,r5.free,(aA .i64 ((Int.ofNat r0.heap.length) -1)).toNat,a2.2.2.2.1.length,a6)).bind fun a7=>
   some (aH.mk r5 (a7.1.take ((aA .i64 ((Int.ofNat r0.heap.length) -1)).toNat)) a7.2)
  else
   some (aH.mk r5 (a2.2.2.2.1.take ((aA .i64 ((Int.ofNat r0.heap.length) -1)).toNat)) (bM a2.2.2.2.2 p1.1 (-1)))
 else
  (fZ r0.heap 0 (aA .i64 ((Int.ofNat r0.heap.length) -1))).bind fun _=>
  (aK r0.where_ p1.1).bind fun _=>
  ((rN N) r0.slots p1).bind fun r10=>
  bif n1 !=(aA .i64 ((Int.ofNat r0.heap.length) -1)) then
   ((lR N) (r10.uses,r10.used,r10.free,(aA .i64 ((Int.ofNat r0.heap.length) -1)).toNat,r0.heap.length,n1,r0.heap,bM r0.where_ p1.1 (-1))).bind fun a11=>
   ((jN N) (r10.uses,r10.used,r10.free,(aA .i64 ((Int.ofNat r0.heap.length) -1)).toNat,r0.heap.length,a11)).bind fun a12=>
   some (aH.mk r10 (a12.1.take ((aA .i64 ((Int.ofNat r0.heap.length) -1)).toNat)) a12.2)
  else
   some (aH.mk r10 (r0.heap.take ((aA .i64 ((Int.ofNat r0.heap.length) -1)).toNat)) (bM r0.where_ p1.1 (-1)))
def c84 (N:Nat):aU:=⟨aC.cons (aE.agg bT) (aC.one (aE.agg (bF.row eC))),aE.agg bT,fun a=>(hO N) a.1 a.2,.frz,false⟩
theorem RO (N:Nat):aB tab 84 (c84 N):=aB.of aGr (cx:=(aN (aG N) [(104,(OQ N)),(104,(E4 N)),(149,(aHW N))] [(148,(uX N)),(148,(uY N)),(151,(GM N)),(150,(LC N))] [] [])) rfl (aL.make ⟨(wV N),(rL N),(aAI N),trivial⟩ ⟨(lD N),(lE N),(yN N),(E5 N),trivial⟩ trivial) (fun a=>by kernel_rfl)
def uZ (N:Nat) (p0:aJ) (p1:Int):Option aJ:=
 ((iB N) p0).bind fun r0=>
 ((tL N) p0.certs p1).bind fun r1=>
 ((rM N) p0 p1).bind fun n2=>
 bif decide (0<=n2) then
  (aK p0.due n2).bind fun a3=>
  ((hO N) p0.agenda a3.2).bind fun r4=>
  (fZ p0.due 0 n2).bind fun l5=>
  (bB l5).bind fun l6=>
  (fZ p0.due (aA .i64 (n2+1)) (Int.ofNat p0.due.length)).bind fun l7=>
  bif l7.isEmpty then
   some (aJ.mk r0.now r0.field r1 r4 l6)
  else
   (bD l6 l7).bind fun l8=>
   some (aJ.mk r0.now r0.field r1 r4 l8)
 else
  some (aJ.mk r0.now r0.field r1 r0.agenda r0.due)
def c27 (N:Nat):aU:=⟨aC.cons (aE.agg aZ) (aC.one (aE.int .i64)),aE.agg aZ,fun a=>(uZ N) a.1 a.2,.frz,false⟩
theorem RP (N:Nat):aB tab 27 (c27 N):=aB.of aFS (cx:=(aN (aG N) [(47,(c47 N)),(47,(LB N)),(82,(c82 N)),(83,(c83 N)),(84,(c84 N))] [] [] [])) rfl (aL.make ⟨(yL N),(sO N),(aGP N),(RN N),(RO N),trivial⟩ trivial trivial) (fun a=>by kernel_rfl)
def D0 (_:Nat) (s:(Int×(List (Int×Int×Int))×(List (Int×Int×Int)))):Option (aY (Int×(List (Int×Int×Int))×(List (Int×Int×Int))) Bool):=
 bif decide (s.1<(Int.ofNat s.2.1.length)) then
  (aK s.2.1 s.1).bind fun a0=>
  (aK s.2.2 s.1).bind fun a1=>
  bif !((a0.1==a1.1)&&((a0.2.1==a1.2.1)&&(a0.2.2==a1.2.2))) then
   some (.done false)
  else
   some (.next (aA .i64 (s.1+1),s.2))
 else
  some (.done true)
def C5 (N:Nat) (p0:Field) (p1:Field):Option Bool:=
 bif (Int.ofNat p0.points.length) !=(Int.ofNat p1.points.length) then
  some false
 else
  (aR N) (D0 N) (0,p0.points,p1.points)
def aHX (N:Nat):aU:=⟨aC.cons (aE.agg bG) (aC.one (aE.agg bG)),aE.bool,fun a=>(C5 N) a.1 a.2,.pure,false⟩
theorem aAJ (N:Nat):aB tab 119 (aHX N):=aB.of X3 (cx:=(aN (aG N) [] [] [] [])) rfl (aL.make trivial trivial trivial) (fun a=>by kernel_rfl)
def vA (_:Nat) (p0:Bool) (p1:Bool×Int×Int) (p2:Bool×Int×Int):Option ((Int×Int)×Int):=
 bif decide (0<p1.2.1) then
  some ((0,0),16)
 else
  bif decide (9223372036854775807<p1.2.2) then
   some ((0,0),16)
  else
   bif decide (0<p2.2.1) then
    some ((0,0),16)
   else
    bif decide (9223372036854775807<p2.2.2) then
     some ((0,0),16)
    else
     bif p0 then
      some ((aA .i64 (0- (aA .i64 p1.2.2)),aA .i64 p2.2.2),0)
     else
      some ((aA .i64 p1.2.2,aA .i64 p2.2.2),0)
def aHY (N:Nat):aU:=⟨aC.cons aE.bool (aC.cons (aE.agg (bF.row rF)) (aC.one (aE.agg (bF.row rF)))),aE.tup (aC.cons (aE.agg (bF.row eC)) (aC.one (aE.int .i64))),fun a=>(vA N) a.1 a.2.1 a.2.2,.pure,false⟩
theorem aAK (N:Nat):aB tab 312 (aHY N):=aB.of aAx (cx:=(aN (aG N) [] [] [] [])) rfl (aL.make trivial trivial trivial) (fun a=>by kernel_rfl)
def C6 (N:Nat) (p0:Int) (p1:Int):Option ((Int×Int)×Int):=
 bif p1==0 then
  some ((0,0),26)
 else
  ((eX N) p0).bind fun n0=>
  ((eX N) p1).bind fun n1=>
  ((pE N) n0 n1).bind fun n2=>
  bif !((decide (p0<0))==(decide (p1<0))) then
   ((eX N) p0).bind fun n3=>
   bif n2==0 then
    none
   else
    ((eX N) p1).bind fun n4=>
    bif n2==0 then
     none
    else
     ((vA N) (p0 !=0) (false,0,aA .u64 (Int.tdiv n3 n2)) (false,0,aA .u64 (Int.tdiv n4 n2))).bind fun a5=>
     some a5
  else
   ((eX N) p0).bind fun n6=>
   bif n2==0 then
    none
   else
    ((eX N) p1).bind fun n7=>
    bif n2==0 then
     none
    else
     ((vA N) false (false,0,aA .u64 (Int.tdiv n6 n2)) (false,0,aA .u64 (Int.tdiv n7 n2))).bind fun a8=>
     some a8
def aHZ (N:Nat):aU:=⟨aC.cons (aE.int .i64) (aC.one (aE.int .i64)),aE.tup (aC.cons (aE.agg (bF.row eC)) (aC.one (aE.int .i64))),fun a=>(C6 N) a.1 a.2,.pure,false⟩
theorem aAL (N:Nat):aB tab 296 (aHZ N):=aB.of aAr (cx:=(aN (aG N) [(95,(c95 N)),(94,(c94 N)),(312,(aHY N))] [] [] [])) rfl (aL.make ⟨(LA N),(RD N),(aAK N),trivial⟩ trivial trivial) (fun a=>by kernel_rfl)
def E6 (N:Nat) (p0:Int×Int×Int) (p1:Int×Int×Int):Option (Int×Int):=
 ((C6 N) (aA .i64 (p0.2.1-p1.2.1)) (aA .i64 (p1.2.2-p0.2.2))).bind fun a0=>
 some a0.1
def aH0 (N:Nat):aU:=⟨aC.cons (aE.agg (bF.row cB)) (aC.one (aE.agg (bF.row cB))),aE.agg (bF.row eC),fun a=>(E6 N) a.1 a.2,.pure,false⟩
theorem aAM (N:Nat):aB tab 261 (aH0 N):=aB.of aAb (cx:=(aN (aG N) [(296,(aHZ N))] [] [] [])) rfl (aL.make ⟨(aAL N),trivial⟩ trivial trivial) (fun a=>by kernel_rfl)
def tN (N:Nat) (p0:Int×Int×Int) (p1:Int×Int×Int) (p2:Int×Int):Option ((Int×Int)×Bool):=
 ((rJ N) p1 p0 p2).bind fun b0=>
 bif b0 then
  some (p2,true)
 else
  bif decide (p0.2.2<p1.2.2) then
   ((E6 N) p0 p1).bind fun a1=>
   some (a1,true)
  else
   some ((0,0),false)
def aH1 (N:Nat):aU:=⟨aC.cons (aE.agg (bF.row cB)) (aC.cons (aE.agg (bF.row cB)) (aC.one (aE.agg (bF.row eC)))),aE.tup (aC.cons (aE.agg (bF.row eC)) (aC.one aE.bool)),fun a=>(tN N) a.1 a.2.1 a.2.2,.pure,false⟩
theorem aAN (N:Nat):aB tab 218 (aH1 N):=aB.of ZG (cx:=(aN (aG N) [(98,(c98 N)),(261,(aH0 N))] [] [] [])) rfl (aL.make ⟨(RK N),(aAM N),trivial⟩ trivial trivial) (fun a=>by kernel_rfl)
def vB (N:Nat) (p0:Field) (p1:Int×Int) (p2:Int×Int):Option ((Int×Int)×Bool):=
 ((rH N) p0 p1.2).bind fun n0=>
 (aK p0.points n0).bind fun a1=>
 ((rH N) p0 p1.1).bind fun n2=>
 (aK p0.points n2).bind fun a3=>
 ((tN N) a1 a3 p2).bind fun a4=>
 some a4
def aGR (N:Nat):aU:=⟨aC.cons (aE.agg bG) (aC.cons (aE.agg (bF.row eC)) (aC.one (aE.agg (bF.row eC)))),aE.tup (aC.cons (aE.agg (bF.row eC)) (aC.one aE.bool)),fun a=>(vB N) a.1 a.2.1 a.2.2,.pure,false⟩
theorem M0 (N:Nat):aB tab 143 (aGR N):=aB.of YE (cx:=(aN (aG N) [(97,(c97 N)),(218,(aH1 N))] [] [] [])) rfl (aL.make ⟨(RG N),(aAN N),trivial⟩ trivial trivial) (fun a=>by kernel_rfl)
def wY (N:Nat) (c0:(Int×(List Int)×(List Bool)×(List Int)×(List (Int×Int×Int×Int×Int))×(List Int))) (s:(Int×(List Int)×(List Bool)×(List Int)×(List (Int×Int×Int×Int×Int))×(List Int))):Option (aY (Int×(List Int)×(List Bool)×(List Int)×(List (Int×Int×Int×Int×Int))×(List Int)) (Int×(List Int)×(List Bool)×(List Int)×(List (Int×Int×Int×Int×Int))×(List Int))):=
 bif decide (0<s.1) then
  (aK s.2.2.2.2.1 s.1).bind fun a0=>
  (aK s.2.2.2.2.1 (aA .i64 (Int.tdiv (aA .i64 (s.1-1)) 2))).bind fun a1=>
  ((dS N) a0 a1).bind fun b2=>
  bif b2 then
   ((eD N) (s.1,aA .i64 (Int.tdiv (aA .i64 (s.1-1)) 2),s.2)).bind fun a3=>
   some (.next (aA .i64 (Int.tdiv (aA .i64 (s.1-1)) 2),a3))
  else
   bif s.2.1.length==c0.2.1.length then
    bif s.2.2.1.length==c0.2.2.1.length then
     bif s.2.2.2.1.length==c0.2.2.2.1.length then
      bif s.2.2.2.2.1.length==c0.2.2.2.2.1.length then
       bif s.2.2.2.2.2.length==c0.2.2.2.2.2.length then
        some (.done s)
       else
        none
      else
       none
     else
      none
    else
     none
   else
    none
 else
  bif s.2.1.length==c0.2.1.length then
   bif s.2.2.1.length==c0.2.2.1.length then
    bif s.2.2.2.1.length==c0.2.2.2.1.length then
     bif s.2.2.2.2.1.length==c0.2.2.2.2.1.length then
      bif s.2.2.2.2.2.length==c0.2.2.2.2.2.length then
       some (.done s)
      else
       none
     else
      none
    else
     none
   else
    none
  else
   none
def rO (N:Nat) (a:(Int×(List Int)×(List Bool)×(List Int)×(List (Int×Int×Int×Int×Int))×(List Int))):Option (Int×(List Int)×(List Bool)×(List Int)×(List (Int×Int×Int×Int×Int))×(List Int)):=
 (aR N) ((wY N) a) a
def LD (N:Nat):bV:=⟨[.i,.l [.i .i64],.l [.b],.l [.i .i64],.l [.i .i64,.i .i64,.i .i64,.i .i64,.i .i64],.l [.i .i64]],[.agg [.own 0 false,.own 1 false,.own 2 false,.own 3 false,.own 4 false],.int .i64 0],[.arr [.i .i64] [],.arr [.b] [],.arr [.i .i64] [],.arr [.i .i64,.i .i64,.i .i64,.i .i64,.i .i64] [],.arr [.i .i64] []],[.i,.l [.i .i64],.l [.b],.l [.i .i64],.l [.i .i64,.i .i64,.i .i64,.i .i64,.i .i64],.l [.i .i64]],.int .i64 0,[.arr [.i .i64] [],.arr [.b] [],.arr [.i .i64] [],.arr [.i .i64,.i .i64,.i .i64,.i .i64,.i .i64] [],.arr [.i .i64] []],fun a=>(rO N) a⟩
theorem E7 (N:Nat):fW tab 151 (LD N):=fW.of GF (wd:=false) (cx:=(aN (aG N) [(217,(OR N))] [(148,(uX N)),(148,(uY N))] [] [])) (aL.make ⟨(wW N),trivial⟩ ⟨(lD N),(lE N),trivial⟩ trivial) (fun a=>by kernel_rfl)
def sT (N:Nat) (c0:(Int×(List Int)×(List Bool)×(List Int)×(List (Int×Int×Int×Int×Int))×(List Int))) (s:(Int×(List Int)×(List Bool)×(List Int)×(List (Int×Int×Int×Int×Int))×(List Int))):Option (aY (Int×(List Int)×(List Bool)×(List Int)×(List (Int×Int×Int×Int×Int))×(List Int)) ((List Int)×(List Bool)×(List Int)×(List (Int×Int×Int×Int×Int))×(List Int))):=
 bif decide ((Int.ofNat s.2.2.2.2.1.length)<=(aA .i64 ((aA .i64 (2*s.1))+1))) then
  bif s.2.1.length==c0.2.1.length then
   bif s.2.2.1.length==c0.2.2.1.length then
    bif s.2.2.2.1.length==c0.2.2.2.1.length then
     bif s.2.2.2.2.1.length==c0.2.2.2.2.1.length then
      bif s.2.2.2.2.2.length==c0.2.2.2.2.2.length then
       some (.done s.2)
      else
       none
     else
      none
    else
     none
   else
    none
  else
   none
 else
  bif decide ((aA .i64 ((aA .i64 ((aA .i64 (2*s.1))+1))+1))<(Int.ofNat s.2.2.2.2.1.length)) then
   (aK s.2.2.2.2.1 (aA .i64 ((aA .i64 ((aA .i64 (2*s.1))+1))+1))).bind fun a0=>
   (aK s.2.2.2.2.1 (aA .i64 ((aA .i64 (2*s.1))+1))).bind fun a1=>
   ((dS N) a0 a1).bind fun b2=>
   bif b2 then
    (aK s.2.2.2.2.1 (aA .i64 ((aA .i64 ((aA .i64 (2*s.1))+1))+1))).bind fun a3=>
    (aK s.2.2.2.2.1 s.1).bind fun a4=>
    ((dS N) a3 a4).bind fun b5=>
    bif !b5 then
     bif s.2.1.length==c0.2.1.length then
      bif s.2.2.1.length==c0.2.2.1.length then
       bif s.2.2.2.1.length==c0.2.2.2.1.length then
        bif s.2.2.2.2.1.length==c0.2.2.2.2.1.length then
         bif s.2.2.2.2.2.length==c0.2.2.2.2.2.length then
          some (.done s.2)
         else
          none
        else
         none
       else
        none
      else
       none
     else
      none
    else
     ((eD N) (s.1,aA .i64 ((aA .i64 ((aA .i64 (2*s.1))+1))+1),s.2)).bind fun a6=>
     some (.next (aA .i64 ((aA .i64 ((aA .i64 (2*s.1))+1))+1),a6))
   else
    (aK s.2.2.2.2.1 (aA .i64 ((aA .i64 (2*s.1))+1))).bind fun a7=>
    (aK s.2.2.2.2.1 s.1).bind fun a8=>
    ((dS N) a7 a8).bind fun b9=>
    bif !b9 then
     bif s.2.1.length==c0.2.1.length then
      bif s.2.2.1.length==c0.2.2.1.length then
       bif s.2.2.2.1.length==c0.2.2.2.1.length then
        bif s.2.2.2.2.1.length==c0.2.2.2.2.1.length then
         bif s.2.2.2.2.2.length==c0.2.2.2.2.2.length then
          some (.done s.2)
         else
          none
        else
         none
       else
        none
      else
       none
     else
      none
    else
     ((eD N) (s.1,aA .i64 ((aA .i64 (2*s.1))+1),s.2)).bind fun a10=>
     some (.next (aA .i64 ((aA .i64 (2*s.1))+1),a10))
  else
   (aK s.2.2.2.2.1 (aA .i64 ((aA .i64 (2*s.1))+1))).bind fun a11=>
   (aK s.2.2.2.2.1 s.1).bind fun a12=>
   ((dS N) a11 a12).bind fun b13=>
   bif !b13 then
    bif s.2.1.length==c0.2.1.length then
     bif s.2.2.1.length==c0.2.2.1.length then
      bif s.2.2.2.1.length==c0.2.2.2.1.length then
       bif s.2.2.2.2.1.length==c0.2.2.2.2.1.length then
        bif s.2.2.2.2.2.length==c0.2.2.2.2.2.length then
         some (.done s.2)
        else
         none
       else
        none
      else
       none
     else
      none
    else
     none
   else
    ((eD N) (s.1,aA .i64 ((aA .i64 (2*s.1))+1),s.2)).bind fun a14=>
    some (.next (aA .i64 ((aA .i64 (2*s.1))+1),a14))
def nZ (N:Nat) (a:(Int×(List Int)×(List Bool)×(List Int)×(List (Int×Int×Int×Int×Int))×(List Int))):Option ((List Int)×(List Bool)×(List Int)×(List (Int×Int×Int×Int×Int))×(List Int)):=
 (aR N) ((sT N) a) a
def RQ (N:Nat):bV:=⟨[.i,.l [.i .i64],.l [.b],.l [.i .i64],.l [.i .i64,.i .i64,.i .i64,.i .i64,.i .i64],.l [.i .i64]],[.agg [.own 0 false,.own 1 false,.own 2 false,.own 3 false,.own 4 false],.int .i64 0],[.arr [.i .i64] [],.arr [.b] [],.arr [.i .i64] [],.arr [.i .i64,.i .i64,.i .i64,.i .i64,.i .i64] [],.arr [.i .i64] []],[.l [.i .i64],.l [.b],.l [.i .i64],.l [.i .i64,.i .i64,.i .i64,.i .i64,.i .i64],.l [.i .i64]],.tup [],[.arr [.i .i64] [],.arr [.b] [],.arr [.i .i64] [],.arr [.i .i64,.i .i64,.i .i64,.i .i64,.i .i64] [],.arr [.i .i64] []],fun a=>(nZ N) a⟩
theorem OS (N:Nat):fW tab 150 (RQ N):=fW.of MP (wd:=false) (cx:=(aN (aG N) [(217,(OR N))] [(148,(uX N)),(148,(uY N))] [] [])) (aL.make ⟨(wW N),trivial⟩ ⟨(lD N),(lE N),trivial⟩ trivial) (fun a=>by kernel_rfl)
def tO (N:Nat) (p0:aH) (p1:Int×Int) (p2:Int×Int):Option aH:=
 ((jM N) p0).bind fun r0=>
 (aK r0.where_ p1.1).bind fun n1=>
 (aK r0.heap n1).bind fun a2=>
 ((rO N) (n1,r0.slots.uses,r0.slots.used,r0.slots.free,bM r0.heap n1 (p2.1,p2.2,a2.2.2),r0.where_)).bind fun a3=>
 ((nZ N) a3).bind fun a4=>
 some (aH.mk (aM.mk a4.1 a4.2.1 a4.2.2.1) a4.2.2.2.1 a4.2.2.2.2)
def aH2 (N:Nat):aU:=⟨aC.cons (aE.agg bT) (aC.cons (aE.agg (bF.row eC)) (aC.one (aE.agg (bF.row eC)))),aE.agg bT,fun a=>(tO N) a.1 a.2.1 a.2.2,.frz,false⟩
theorem aAO (N:Nat):aB tab 220 (aH2 N):=aB.of ZH (cx:=(aN (aG N) [(104,(OQ N)),(104,(E4 N))] [(151,(GM N)),(150,(LC N)),(151,(LD N)),(150,(RQ N))] [] [])) rfl (aL.make ⟨(wV N),(rL N),trivial⟩ ⟨(yN N),(E5 N),(E7 N),(OS N),trivial⟩ trivial) (fun a=>by kernel_rfl)
def eH (_:Nat) (p0:aM):Option Bool:=
 bif decide (0<(Int.ofNat p0.free.length)) then
  (aK p0.free (aA .i64 ((Int.ofNat p0.free.length) -1))).bind fun n0=>
  (aK p0.uses n0).bind fun n1=>
  some (decide (n1<1000000))
 else
  some false
def aGS (N:Nat):aU:=⟨aC.one (aE.agg eJ),aE.bool,fun a=>(eH N) a,.pure,false⟩
theorem M1 (N:Nat):aB tab 221 (aGS N):=aB.of ZI (cx:=(aN (aG N) [] [] [] [])) rfl (aL.make trivial trivial trivial) (fun a=>by kernel_rfl)
def zT (N:Nat) (p0:aM):Option (aM×(Int×Int)):=
 ((lQ N) p0).bind fun r0=>
 (aK r0.free (aA .i64 ((Int.ofNat r0.free.length) -1))).bind fun n1=>
 (fZ r0.free 0 (aA .i64 ((Int.ofNat r0.free.length) -1))).bind fun _=>
 (aK r0.uses n1).bind fun n3=>
 (aK r0.uses n1).bind fun _=>
 (aK r0.used n1).bind fun _=>
 (aK (bM r0.uses n1 (aA .i64 (n3+1))) n1).bind fun n6=>
 some (aM.mk (bM r0.uses n1 (aA .i64 (n3+1))) (bM r0.used n1 true) (r0.free.take ((aA .i64 ((Int.ofNat r0.free.length) -1)).toNat)),n1,n6)
def aH3 (N:Nat):aU:=⟨aC.one (aE.agg eJ),aE.tup (aC.cons (aE.agg eJ) (aC.one (aE.agg (bF.row eC)))),fun a=>(zT N) a,.frz,false⟩
theorem aAP (N:Nat):aB tab 262 (aH3 N):=aB.of aAc (cx:=(aN (aG N) [(169,(RM N)),(169,(I2 N))] [] [] [])) rfl (aL.make ⟨(AY N),(wU N),trivial⟩ trivial trivial) (fun a=>by kernel_rfl)
def oA (_:Nat) (a:((List Int)×(List Bool)×(List Int)×Int×Int×(List (Int×Int×Int×Int×Int))×(List Int))):Option ((List (Int×Int×Int×Int×Int))×(List Int)):=
 (aK a.2.2.2.2.2.1 a.2.2.2.2.1).bind fun a0=>
 (aK a.2.2.2.2.2.1 a.2.2.2.1).bind fun a1=>
 (aK a.2.2.2.2.2.1 a.2.2.2.1).bind fun _=>
 (aK (bM a.2.2.2.2.2.1 a.2.2.2.1 a0) a.2.2.2.2.1).bind fun _=>
 (aK (bM (bM a.2.2.2.2.2.1 a.2.2.2.1 a0) a.2.2.2.2.1 a1) a.2.2.2.1).bind fun a4=>
 (aK (bM (bM a.2.2.2.2.2.1 a.2.2.2.1 a0) a.2.2.2.2.1 a1) a.2.2.2.2.1).bind fun a5=>
 (aK a.2.2.2.2.2.2 a4.2.2.2.1).bind fun _=>
 (aK (bM a.2.2.2.2.2.2 a4.2.2.2.1 a.2.2.2.1) a5.2.2.2.1).bind fun _=>
 bif ((bM (bM a.2.2.2.2.2.1 a.2.2.2.1 a0) a.2.2.2.2.1 a1).length)==a.2.2.2.2.2.1.length then
  bif ((bM (bM a.2.2.2.2.2.2 a4.2.2.2.1 a.2.2.2.1) a5.2.2.2.1 a.2.2.2.2.1).length)==a.2.2.2.2.2.2.length then
   some (bM (bM a.2.2.2.2.2.1 a.2.2.2.1 a0) a.2.2.2.2.1 a1,bM (bM a.2.2.2.2.2.2 a4.2.2.2.1 a.2.2.2.1) a5.2.2.2.1 a.2.2.2.2.1)
  else
   none
 else
  none
def RR (N:Nat):bV:=⟨[.l [.i .i64],.l [.b],.l [.i .i64],.i,.i,.l [.i .i64,.i .i64,.i .i64,.i .i64,.i .i64],.l [.i .i64]],[.agg [.sl [.i .i64] [],.sl [.b] [],.sl [.i .i64] [],.own 0 false,.own 1 false],.int .i64 0,.int .i64 0],[.arr [.i .i64,.i .i64,.i .i64,.i .i64,.i .i64] [],.arr [.i .i64] []],[.l [.i .i64,.i .i64,.i .i64,.i .i64,.i .i64],.l [.i .i64]],.tup [],[.arr [.i .i64,.i .i64,.i .i64,.i .i64,.i .i64] [],.arr [.i .i64] []],fun a=>(oA N) a⟩
theorem OT (N:Nat):fW tab 148 (RR N):=fW.of GE (wd:=false) (cx:=(aN (aG N) [] [] [] [])) (aL.make trivial trivial trivial) (fun a=>by kernel_rfl)
def wZ (N:Nat) (c0:((List Int)×(List Bool)×(List Int)×Int×(List (Int×Int×Int×Int×Int))×(List Int))) (s:(Int×(List (Int×Int×Int×Int×Int))×(List Int)×(List Int)×(List Bool)×(List Int))):Option (aY (Int×(List (Int×Int×Int×Int×Int))×(List Int)×(List Int)×(List Bool)×(List Int)) (Int×(List (Int×Int×Int×Int×Int))×(List Int))):=
 bif decide (0<s.1) then
  (aK s.2.1 s.1).bind fun a0=>
  (aK s.2.1 (aA .i64 (Int.tdiv (aA .i64 (s.1-1)) 2))).bind fun a1=>
  ((dS N) a0 a1).bind fun b2=>
  bif b2 then
   ((oA N) (s.2.2.2.1,s.2.2.2.2.1,s.2.2.2.2.2,s.1,aA .i64 (Int.tdiv (aA .i64 (s.1-1)) 2),s.2.1,s.2.2.1)).bind fun a3=>
   some (.next (aA .i64 (Int.tdiv (aA .i64 (s.1-1)) 2),a3.1,a3.2,s.2.2.2))
  else
   bif s.2.1.length==c0.2.2.2.2.1.length then
    bif s.2.2.1.length==c0.2.2.2.2.2.length then
     some (.done (s.1,s.2.1,s.2.2.1))
    else
     none
   else
    none
 else
  bif s.2.1.length==c0.2.2.2.2.1.length then
   bif s.2.2.1.length==c0.2.2.2.2.2.length then
    some (.done (s.1,s.2.1,s.2.2.1))
   else
    none
  else
   none
def rP (N:Nat) (a:((List Int)×(List Bool)×(List Int)×Int×(List (Int×Int×Int×Int×Int))×(List Int))):Option (Int×(List (Int×Int×Int×Int×Int))×(List Int)):=
 (aR N) ((wZ N) a) (a.2.2.2.1,a.2.2.2.2.1,a.2.2.2.2.2,a.1,a.2.1,a.2.2.1)
def RS (N:Nat):bV:=⟨[.l [.i .i64],.l [.b],.l [.i .i64],.i,.l [.i .i64,.i .i64,.i .i64,.i .i64,.i .i64],.l [.i .i64]],[.agg [.sl [.i .i64] [],.sl [.b] [],.sl [.i .i64] [],.own 0 false,.own 1 false],.int .i64 0],[.arr [.i .i64,.i .i64,.i .i64,.i .i64,.i .i64] [],.arr [.i .i64] []],[.i,.l [.i .i64,.i .i64,.i .i64,.i .i64,.i .i64],.l [.i .i64]],.int .i64 0,[.arr [.i .i64,.i .i64,.i .i64,.i .i64,.i .i64] [],.arr [.i .i64] []],fun a=>(rP N) a⟩
theorem OU (N:Nat):fW tab 151 (RS N):=fW.of GF (wd:=true) (cx:=(aN (aG N) [(217,(OR N))] [(148,(uX N)),(148,(uY N)),(148,(RR N))] [] [])) (aL.make ⟨(wW N),trivial⟩ ⟨(lD N),(lE N),(OT N),trivial⟩ trivial) (fun a=>by kernel_rfl)
def cW (N:Nat) (p0:aH) (p1:Int×Int) (p2:Int):Option (aH×(Int×Int)):=
 ((jM N) p0).bind fun r0=>
 ((zT N) r0.slots).bind fun a1=>
 (bD r0.heap [(p1.1,p1.2,p2,a1.2)]).bind fun l2=>
 (aK r0.where_ a1.2.1).bind fun _=>
 ((rP N) (a1.1.uses,a1.1.used,a1.1.free,aA .i64 ((Int.ofNat l2.length) -1),l2,bM r0.where_ a1.2.1 (aA .i64 ((Int.ofNat l2.length) -1)))).bind fun a4=>
 some (aH.mk a1.1 a4.2.1 a4.2.2,a1.2)
def aGT (N:Nat):aU:=⟨aC.cons (aE.agg bT) (aC.cons (aE.agg (bF.row eC)) (aC.one (aE.int .i64))),aE.tup (aC.cons (aE.agg bT) (aC.one (aE.agg (bF.row eC)))),fun a=>(cW N) a.1 a.2.1 a.2.2,.frz,false⟩
theorem M2 (N:Nat):aB tab 222 (aGT N):=aB.of ZJ (cx:=(aN (aG N) [(104,(OQ N)),(104,(E4 N)),(262,(aH3 N))] [(151,(GM N)),(151,(LD N)),(151,(RS N))] [] [])) rfl (aL.make ⟨(wV N),(rL N),(aAP N),trivial⟩ ⟨(yN N),(E7 N),(OU N),trivial⟩ trivial) (fun a=>by kernel_rfl)
def yO (N:Nat) (s:(Int×Int×Int×(List (Int×Int×Int))×Int×(List (Int×Int×Int))×(List Int)×(List Bool)×(List Int)×(List (Int×Int×Int×Int×Int))×(List Int)×(List (Int×Int×Int))×(List (Int×Int×Int))×Int×Int×Int×Int×Int×(List (Int×Int×Int))×Int×(List (Int×Int×Int))×(List Int)×(List Bool)×(List Int)×(List (Int×Int×Int×Int×Int))×(List Int)×(List (Int×Int×Int)))):Option (aY (Int×Int×Int×(List (Int×Int×Int))×Int×(List (Int×Int×Int))×(List Int)×(List Bool)×(List Int)×(List (Int×Int×Int×Int×Int))×(List Int)×(List (Int×Int×Int))×(List (Int×Int×Int))×Int×Int×Int×Int×Int×(List (Int×Int×Int))×Int×(List (Int×Int×Int))×(List Int)×(List Bool)×(List Int)×(List (Int×Int×Int×Int×Int))×(List Int)×(List (Int×Int×Int))) (aJ×Int)):=
 bif decide (s.1<(Int.ofNat s.2.2.2.2.2.1.length)) then
  (aK s.2.2.2.2.2.1 s.1).bind fun a0=>
  ((rM N) (aJ.mk (s.2.1,s.2.2.1) (Field.mk s.2.2.2.1) (aQ.mk s.2.2.2.2.1 s.2.2.2.2.2.1) (aH.mk (aM.mk s.2.2.2.2.2.2.1 s.2.2.2.2.2.2.2.1 s.2.2.2.2.2.2.2.2.1) s.2.2.2.2.2.2.2.2.2.1 s.2.2.2.2.2.2.2.2.2.2.1) s.2.2.2.2.2.2.2.2.2.2.2.1) a0.1).bind fun n1=>
  ((vB N) (Field.mk s.2.2.2.2.2.2.2.2.2.2.2.2.1) a0.2 (s.2.1,s.2.2.1)).bind fun a2=>
  bif a2.2 then
   bif decide (0<=n1) then
    (aK s.2.2.2.2.2.2.2.2.2.2.2.1 n1).bind fun a3=>
    ((tO N) (aH.mk (aM.mk s.2.2.2.2.2.2.2.2.2.2.2.2.2.2.2.2.2.2.2.2.2.1 s.2.2.2.2.2.2.2.2.2.2.2.2.2.2.2.2.2.2.2.2.2.2.1 s.2.2.2.2.2.2.2.2.2.2.2.2.2.2.2.2.2.2.2.2.2.2.2.1) s.2.2.2.2.2.2.2.2.2.2.2.2.2.2.2.2.2.2.2.2.2.2.2.2.1 s.2.2.2.2.2.2.2.2.2.2.2.2.2.2.2.2.2.2.2.2.2.2.2.2.2.1) a3.2 a2.1).bind fun r4=>
    (aK s.2.2.2.2.2.2.2.2.2.2.2.1 n1).bind fun a5=>
    (bD s.2.2.2.2.2.2.2.2.2.2.2.2.2.2.2.2.2.2.2.2.2.2.2.2.2.2 [a5]).bind fun l6=>
    bif !a2.2 then
     bif decide (0<=n1) then
      (aK s.2.2.2.2.2.2.2.2.2.2.2.1 n1).bind fun a7=>
      ((hO N) r4 a7.2).bind fun r8=>
      bif !a2.2 then
       some (.next (aA .i64 (s.1+1),s.2.1,s.2.2.1,s.2.2.2.1,s.2.2.2.2.1,s.2.2.2.2.2.1,s.2.2.2.2.2.2.1,s.2.2.2.2.2.2.2.1,s.2.2.2.2.2.2.2.2.1,s.2.2.2.2.2.2.2.2.2.1,s.2.2.2.2.2.2.2.2.2.2.1,s.2.2.2.2.2.2.2.2.2.2.2.1,s.2.2.2.2.2.2.2.2.2.2.2.2.1,s.2.2.2.2.2.2.2.2.2.2.2.2.2.1,s.2.2.2.2.2.2.2.2.2.2.2.2.2.2.1,s.2.2.2.2.2.2.2.2.2.2.2.2.2.2.2.1,s.2.2.2.2.2.2.2.2.2.2.2.2.2.2.2.2.1,s.2.2.2.2.2.2.2.2.2.2.2.2.2.2.2.2.2.1,s.2.2.2.2.2.2.2.2.2.2.2.2.2.2.2.2.2.2.1,s.2.2.2.2.2.2.2.2.2.2.2.2.2.2.2.2.2.2.2.1,s.2.2.2.2.2.2.2.2.2.2.2.2.2.2.2.2.2.2.2.2.1,r8.slots.uses,r8.slots.used,r8.slots.free,r8.heap,r8.where_,l6))
      else
       bif decide (0<=n1) then
        some (.next (aA .i64 (s.1+1),s.2.1,s.2.2.1,s.2.2.2.1,s.2.2.2.2.1,s.2.2.2.2.2.1,s.2.2.2.2.2.2.1,s.2.2.2.2.2.2.2.1,s.2.2.2.2.2.2.2.2.1,s.2.2.2.2.2.2.2.2.2.1,s.2.2.2.2.2.2.2.2.2.2.1,s.2.2.2.2.2.2.2.2.2.2.2.1,s.2.2.2.2.2.2.2.2.2.2.2.2.1,s.2.2.2.2.2.2.2.2.2.2.2.2.2.1,s.2.2.2.2.2.2.2.2.2.2.2.2.2.2.1,s.2.2.2.2.2.2.2.2.2.2.2.2.2.2.2.1,s.2.2.2.2.2.2.2.2.2.2.2.2.2.2.2.2.1,s.2.2.2.2.2.2.2.2.2.2.2.2.2.2.2.2.2.1,s.2.2.2.2.2.2.2.2.2.2.2.2.2.2.2.2.2.2.1,s.2.2.2.2.2.2.2.2.2.2.2.2.2.2.2.2.2.2.2.1,s.2.2.2.2.2.2.2.2.2.2.2.2.2.2.2.2.2.2.2.2.1,r8.slots.uses,r8.slots.used,r8.slots.free,r8.heap,r8.where_,l6))
       else
        ((eH N) r8.slots).bind fun b9=>
        bif !b9 then
         some (.done (aJ.mk (0,0) (Field.mk []) (aQ.mk 0 []) (aH.mk (aM.mk [] [] []) [] []) [],18))
        else
         ((cW N) r8 a2.1 a0.1).bind fun a10=>
         (bD l6 [(a0.1,a10.2)]).bind fun l11=>
         some (.next (aA .i64 (s.1+1),s.2.1,s.2.2.1,s.2.2.2.1,s.2.2.2.2.1,s.2.2.2.2.2.1,s.2.2.2.2.2.2.1,s.2.2.2.2.2.2.2.1,s.2.2.2.2.2.2.2.2.1,s.2.2.2.2.2.2.2.2.2.1,s.2.2.2.2.2.2.2.2.2.2.1,s.2.2.2.2.2.2.2.2.2.2.2.1,s.2.2.2.2.2.2.2.2.2.2.2.2.1,s.2.2.2.2.2.2.2.2.2.2.2.2.2.1,s.2.2.2.2.2.2.2.2.2.2.2.2.2.2.1,s.2.2.2.2.2.2.2.2.2.2.2.2.2.2.2.1,s.2.2.2.2.2.2.2.2.2.2.2.2.2.2.2.2.1,s.2.2.2.2.2.2.2.2.2.2.2.2.2.2.2.2.2.1,s.2.2.2.2.2.2.2.2.2.2.2.2.2.2.2.2.2.2.1,s.2.2.2.2.2.2.2.2.2.2.2.2.2.2.2.2.2.2.2.1,s.2.2.2.2.2.2.2.2.2.2.2.2.2.2.2.2.2.2.2.2.1,a10.1.slots.uses,a10.1.slots.used,a10.1.slots.free,a10.1.heap,a10.1.where_,l11))
     else
      bif !a2.2 then
       some (.next (aA .i64 (s.1+1),s.2.1,s.2.2.1,s.2.2.2.1,s.2.2.2.2.1,s.2.2.2.2.2.1,s.2.2.2.2.2.2.1,s.2.2.2.2.2.2.2.1,s.2.2.2.2.2.2.2.2.1,s.2.2.2.2.2.2.2.2.2.1,s.2.2.2.2.2.2.2.2.2.2.1,s.2.2.2.2.2.2.2.2.2.2.2.1,s.2.2.2.2.2.2.2.2.2.2.2.2.1,s.2.2.2.2.2.2.2.2.2.2.2.2.2.1,s.2.2.2.2.2.2.2.2.2.2.2.2.2.2.1,s.2.2.2.2.2.2.2.2.2.2.2.2.2.2.2.1,s.2.2.2.2.2.2.2.2.2.2.2.2.2.2.2.2.1,s.2.2.2.2.2.2.2.2.2.2.2.2.2.2.2.2.2.1,s.2.2.2.2.2.2.2.2.2.2.2.2.2.2.2.2.2.2.1,s.2.2.2.2.2.2.2.2.2.2.2.2.2.2.2.2.2.2.2.1,s.2.2.2.2.2.2.2.2.2.2.2.2.2.2.2.2.2.2.2.2.1,r4.slots.uses,r4.slots.used,r4.slots.free,r4.heap,r4.where_,l6))
      else
       bif decide (0<=n1) then
        some (.next (aA .i64 (s.1+1),s.2.1,s.2.2.1,s.2.2.2.1,s.2.2.2.2.1,s.2.2.2.2.2.1,s.2.2.2.2.2.2.1,s.2.2.2.2.2.2.2.1,s.2.2.2.2.2.2.2.2.1,s.2.2.2.2.2.2.2.2.2.1,s.2.2.2.2.2.2.2.2.2.2.1,s.2.2.2.2.2.2.2.2.2.2.2.1,s.2.2.2.2.2.2.2.2.2.2.2.2.1,s.2.2.2.2.2.2.2.2.2.2.2.2.2.1,s.2.2.2.2.2.2.2.2.2.2.2.2.2.2.1,s.2.2.2.2.2.2.2.2.2.2.2.2.2.2.2.1,s.2.2.2.2.2.2.2.2.2.2.2.2.2.2.2.2.1,s.2.2.2.2.2.2.2.2.2.2.2.2.2.2.2.2.2.1,s.2.2.2.2.2.2.2.2.2.2.2.2.2.2.2.2.2.2.1,s.2.2.2.2.2.2.2.2.2.2.2.2.2.2.2.2.2.2.2.1,s.2.2.2.2.2.2.2.2.2.2.2.2.2.2.2.2.2.2.2.2.1,r4.slots.uses,r4.slots.used,r4.slots.free,r4.heap,r4.where_,l6))
       else
        ((eH N) r4.slots).bind fun b12=>
        bif !b12 then
         some (.done (aJ.mk (0,0) (Field.mk []) (aQ.mk 0 []) (aH.mk (aM.mk [] [] []) [] []) [],18))
        else
         ((cW N) r4 a2.1 a0.1).bind fun a13=>
         (bD l6 [(a0.1,a13.2)]).bind fun l14=>
         some (.next (aA .i64 (s.1+1),s.2.1,s.2.2.1,s.2.2.2.1,s.2.2.2.2.1,s.2.2.2.2.2.1,s.2.2.2.2.2.2.1,s.2.2.2.2.2.2.2.1,s.2.2.2.2.2.2.2.2.1,s.2.2.2.2.2.2.2.2.2.1,s.2.2.2.2.2.2.2.2.2.2.1,s.2.2.2.2.2.2.2.2.2.2.2.1,s.2.2.2.2.2.2.2.2.2.2.2.2.1,s.2.2.2.2.2.2.2.2.2.2.2.2.2.1,s.2.2.2.2.2.2.2.2.2.2.2.2.2.2.1,s.2.2.2.2.2.2.2.2.2.2.2.2.2.2.2.1,s.2.2.2.2.2.2.2.2.2.2.2.2.2.2.2.2.1,s.2.2.2.2.2.2.2.2.2.2.2.2.2.2.2.2.2.1,s.2.2.2.2.2.2.2.2.2.2.2.2.2.2.2.2.2.2.1,s.2.2.2.2.2.2.2.2.2.2.2.2.2.2.2.2.2.2.2.1,s.2.2.2.2.2.2.2.2.2.2.2.2.2.2.2.2.2.2.2.2.1,a13.1.slots.uses,a13.1.slots.used,a13.1.slots.free,a13.1.heap,a13.1.where_,l14))
    else
     bif !a2.2 then
      some (.next (aA .i64 (s.1+1),s.2.1,s.2.2.1,s.2.2.2.1,s.2.2.2.2.1,s.2.2.2.2.2.1,s.2.2.2.2.2.2.1,s.2.2.2.2.2.2.2.1,s.2.2.2.2.2.2.2.2.1,s.2.2.2.2.2.2.2.2.2.1,s.2.2.2.2.2.2.2.2.2.2.1,s.2.2.2.2.2.2.2.2.2.2.2.1,s.2.2.2.2.2.2.2.2.2.2.2.2.1,s.2.2.2.2.2.2.2.2.2.2.2.2.2.1,s.2.2.2.2.2.2.2.2.2.2.2.2.2.2.1,s.2.2.2.2.2.2.2.2.2.2.2.2.2.2.2.1,s.2.2.2.2.2.2.2.2.2.2.2.2.2.2.2.2.1,s.2.2.2.2.2.2.2.2.2.2.2.2.2.2.2.2.2.1,s.2.2.2.2.2.2.2.2.2.2.2.2.2.2.2.2.2.2.1,s.2.2.2.2.2.2.2.2.2.2.2.2.2.2.2.2.2.2.2.1,s.2.2.2.2.2.2.2.2.2.2.2.2.2.2.2.2.2.2.2.2.1,r4.slots.uses,r4.slots.used,r4.slots.free,r4.heap,r4.where_,l6))
     else
      bif decide (0<=n1) then
       some (.next (aA .i64 (s.1+1),s.2.1,s.2.2.1,s.2.2.2.1,s.2.2.2.2.1,s.2.2.2.2.2.1,s.2.2.2.2.2.2.1,s.2.2.2.2.2.2.2.1,s.2.2.2.2.2.2.2.2.1,s.2.2.2.2.2.2.2.2.2.1,s.2.2.2.2.2.2.2.2.2.2.1,s.2.2.2.2.2.2.2.2.2.2.2.1,s.2.2.2.2.2.2.2.2.2.2.2.2.1,s.2.2.2.2.2.2.2.2.2.2.2.2.2.1,s.2.2.2.2.2.2.2.2.2.2.2.2.2.2.1,s.2.2.2.2.2.2.2.2.2.2.2.2.2.2.2.1,s.2.2.2.2.2.2.2.2.2.2.2.2.2.2.2.2.1,s.2.2.2.2.2.2.2.2.2.2.2.2.2.2.2.2.2.1,s.2.2.2.2.2.2.2.2.2.2.2.2.2.2.2.2.2.2.1,s.2.2.2.2.2.2.2.2.2.2.2.2.2.2.2.2.2.2.2.1,s.2.2.2.2.2.2.2.2.2.2.2.2.2.2.2.2.2.2.2.2.1,r4.slots.uses,r4.slots.used,r4.slots.free,r4.heap,r4.where_,l6))
      else
       ((eH N) r4.slots).bind fun b15=>
       bif !b15 then
        some (.done (aJ.mk (0,0) (Field.mk []) (aQ.mk 0 []) (aH.mk (aM.mk [] [] []) [] []) [],18))
       else
        ((cW N) r4 a2.1 a0.1).bind fun a16=>
        (bD l6 [(a0.1,a16.2)]).bind fun l17=>
        some (.next (aA .i64 (s.1+1),s.2.1,s.2.2.1,s.2.2.2.1,s.2.2.2.2.1,s.2.2.2.2.2.1,s.2.2.2.2.2.2.1,s.2.2.2.2.2.2.2.1,s.2.2.2.2.2.2.2.2.1,s.2.2.2.2.2.2.2.2.2.1,s.2.2.2.2.2.2.2.2.2.2.1,s.2.2.2.2.2.2.2.2.2.2.2.1,s.2.2.2.2.2.2.2.2.2.2.2.2.1,s.2.2.2.2.2.2.2.2.2.2.2.2.2.1,s.2.2.2.2.2.2.2.2.2.2.2.2.2.2.1,s.2.2.2.2.2.2.2.2.2.2.2.2.2.2.2.1,s.2.2.2.2.2.2.2.2.2.2.2.2.2.2.2.2.1,s.2.2.2.2.2.2.2.2.2.2.2.2.2.2.2.2.2.1,s.2.2.2.2.2.2.2.2.2.2.2.2.2.2.2.2.2.2.1,s.2.2.2.2.2.2.2.2.2.2.2.2.2.2.2.2.2.2.2.1,s.2.2.2.2.2.2.2.2.2.2.2.2.2.2.2.2.2.2.2.2.1,a16.1.slots.uses,a16.1.slots.used,a16.1.slots.free,a16.1.heap,a16.1.where_,l17))
   else
    bif !a2.2 then
     bif decide (0<=n1) then
      (aK s.2.2.2.2.2.2.2.2.2.2.2.1 n1).bind fun a18=>
      ((hO N) (aH.mk (aM.mk s.2.2.2.2.2.2.2.2.2.2.2.2.2.2.2.2.2.2.2.2.2.1 s.2.2.2.2.2.2.2.2.2.2.2.2.2.2.2.2.2.2.2.2.2.2.1 s.2.2.2.2.2.2.2.2.2.2.2.2.2.2.2.2.2.2.2.2.2.2.2.1) s.2.2.2.2.2.2.2.2.2.2.2.2.2.2.2.2.2.2.2.2.2.2.2.2.1 s.2.2.2.2.2.2.2.2.2.2.2.2.2.2.2.2.2.2.2.2.2.2.2.2.2.1) a18.2).bind fun r19=>
      bif !a2.2 then
       some (.next (aA .i64 (s.1+1),s.2.1,s.2.2.1,s.2.2.2.1,s.2.2.2.2.1,s.2.2.2.2.2.1,s.2.2.2.2.2.2.1,s.2.2.2.2.2.2.2.1,s.2.2.2.2.2.2.2.2.1,s.2.2.2.2.2.2.2.2.2.1,s.2.2.2.2.2.2.2.2.2.2.1,s.2.2.2.2.2.2.2.2.2.2.2.1,s.2.2.2.2.2.2.2.2.2.2.2.2.1,s.2.2.2.2.2.2.2.2.2.2.2.2.2.1,s.2.2.2.2.2.2.2.2.2.2.2.2.2.2.1,s.2.2.2.2.2.2.2.2.2.2.2.2.2.2.2.1,s.2.2.2.2.2.2.2.2.2.2.2.2.2.2.2.2.1,s.2.2.2.2.2.2.2.2.2.2.2.2.2.2.2.2.2.1,s.2.2.2.2.2.2.2.2.2.2.2.2.2.2.2.2.2.2.1,s.2.2.2.2.2.2.2.2.2.2.2.2.2.2.2.2.2.2.2.1,s.2.2.2.2.2.2.2.2.2.2.2.2.2.2.2.2.2.2.2.2.1,r19.slots.uses,r19.slots.used,r19.slots.free,r19.heap,r19.where_,s.2.2.2.2.2.2.2.2.2.2.2.2.2.2.2.2.2.2.2.2.2.2.2.2.2.2))
      else
       bif decide (0<=n1) then
        some (.next (aA .i64 (s.1+1),s.2.1,s.2.2.1,s.2.2.2.1,s.2.2.2.2.1,s.2.2.2.2.2.1,s.2.2.2.2.2.2.1,s.2.2.2.2.2.2.2.1,s.2.2.2.2.2.2.2.2.1,s.2.2.2.2.2.2.2.2.2.1,s.2.2.2.2.2.2.2.2.2.2.1,s.2.2.2.2.2.2.2.2.2.2.2.1,s.2.2.2.2.2.2.2.2.2.2.2.2.1,s.2.2.2.2.2.2.2.2.2.2.2.2.2.1,s.2.2.2.2.2.2.2.2.2.2.2.2.2.2.1,s.2.2.2.2.2.2.2.2.2.2.2.2.2.2.2.1,s.2.2.2.2.2.2.2.2.2.2.2.2.2.2.2.2.1,s.2.2.2.2.2.2.2.2.2.2.2.2.2.2.2.2.2.1,s.2.2.2.2.2.2.2.2.2.2.2.2.2.2.2.2.2.2.1,s.2.2.2.2.2.2.2.2.2.2.2.2.2.2.2.2.2.2.2.1,s.2.2.2.2.2.2.2.2.2.2.2.2.2.2.2.2.2.2.2.2.1,r19.slots.uses,r19.slots.used,r19.slots.free,r19.heap,r19.where_,s.2.2.2.2.2.2.2.2.2.2.2.2.2.2.2.2.2.2.2.2.2.2.2.2.2.2))
       else
        ((eH N) r19.slots).bind fun b20=>
        bif !b20 then
         some (.done (aJ.mk (0,0) (Field.mk []) (aQ.mk 0 []) (aH.mk (aM.mk [] [] []) [] []) [],18))
        else
         ((cW N) r19 a2.1 a0.1).bind fun a21=>
         (bD s.2.2.2.2.2.2.2.2.2.2.2.2.2.2.2.2.2.2.2.2.2.2.2.2.2.2 [(a0.1,a21.2)]).bind fun l22=>
         some (.next (aA .i64 (s.1+1),s.2.1,s.2.2.1,s.2.2.2.1,s.2.2.2.2.1,s.2.2.2.2.2.1,s.2.2.2.2.2.2.1,s.2.2.2.2.2.2.2.1,s.2.2.2.2.2.2.2.2.1,s.2.2.2.2.2.2.2.2.2.1,s.2.2.2.2.2.2.2.2.2.2.1,s.2.2.2.2.2.2.2.2.2.2.2.1,s.2.2.2.2.2.2.2.2.2.2.2.2.1,s.2.2.2.2.2.2.2.2.2.2.2.2.2.1,s.2.2.2.2.2.2.2.2.2.2.2.2.2.2.1,s.2.2.2.2.2.2.2.2.2.2.2.2.2.2.2.1,s.2.2.2.2.2.2.2.2.2.2.2.2.2.2.2.2.1,s.2.2.2.2.2.2.2.2.2.2.2.2.2.2.2.2.2.1,s.2.2.2.2.2.2.2.2.2.2.2.2.2.2.2.2.2.2.1,s.2.2.2.2.2.2.2.2.2.2.2.2.2.2.2.2.2.2.2.1,s.2.2.2.2.2.2.2.2.2.2.2.2.2.2.2.2.2.2.2.2.1,a21.1.slots.uses,a21.1.slots.used,a21.1.slots.free,a21.1.heap,a21.1.where_,l22))
     else
      bif !a2.2 then
       some (.next (aA .i64 (s.1+1),s.2))
      else
       bif decide (0<=n1) then
        some (.next (aA .i64 (s.1+1),s.2))
       else
        ((eH N) (aM.mk s.2.2.2.2.2.2.2.2.2.2.2.2.2.2.2.2.2.2.2.2.2.1 s.2.2.2.2.2.2.2.2.2.2.2.2.2.2.2.2.2.2.2.2.2.2.1 s.2.2.2.2.2.2.2.2.2.2.2.2.2.2.2.2.2.2.2.2.2.2.2.1)).bind fun b23=>
        bif !b23 then
         some (.done (aJ.mk (0,0) (Field.mk []) (aQ.mk 0 []) (aH.mk (aM.mk [] [] []) [] []) [],18))
        else
         ((cW N) (aH.mk (aM.mk s.2.2.2.2.2.2.2.2.2.2.2.2.2.2.2.2.2.2.2.2.2.1 s.2.2.2.2.2.2.2.2.2.2.2.2.2.2.2.2.2.2.2.2.2.2.1 s.2.2.2.2.2.2.2.2.2.2.2.2.2.2.2.2.2.2.2.2.2.2.2.1) s.2.2.2.2.2.2.2.2.2.2.2.2.2.2.2.2.2.2.2.2.2.2.2.2.1 s.2.2.2.2.2.2.2.2.2.2.2.2.2.2.2.2.2.2.2.2.2.2.2.2.2.1) a2.1 a0.1).bind fun a24=>
         (bD s.2.2.2.2.2.2.2.2.2.2.2.2.2.2.2.2.2.2.2.2.2.2.2.2.2.2 [(a0.1,a24.2)]).bind fun l25=>
         some (.next (aA .i64 (s.1+1),s.2.1,s.2.2.1,s.2.2.2.1,s.2.2.2.2.1,s.2.2.2.2.2.1,s.2.2.2.2.2.2.1,s.2.2.2.2.2.2.2.1,s.2.2.2.2.2.2.2.2.1,s.2.2.2.2.2.2.2.2.2.1,s.2.2.2.2.2.2.2.2.2.2.1,s.2.2.2.2.2.2.2.2.2.2.2.1,s.2.2.2.2.2.2.2.2.2.2.2.2.1,s.2.2.2.2.2.2.2.2.2.2.2.2.2.1,s.2.2.2.2.2.2.2.2.2.2.2.2.2.2.1,s.2.2.2.2.2.2.2.2.2.2.2.2.2.2.2.1,s.2.2.2.2.2.2.2.2.2.2.2.2.2.2.2.2.1,s.2.2.2.2.2.2.2.2.2.2.2.2.2.2.2.2.2.1,s.2.2.2.2.2.2.2.2.2.2.2.2.2.2.2.2.2.2.1,s.2.2.2.2.2.2.2.2.2.2.2.2.2.2.2.2.2.2.2.1,s.2.2.2.2.2.2.2.2.2.2.2.2.2.2.2.2.2.2.2.2.1,a24.1.slots.uses,a24.1.slots.used,a24.1.slots.free,a24.1.heap,a24.1.where_,l25))
    else
     bif !a2.2 then
      some (.next (aA .i64 (s.1+1),s.2))
     else
      bif decide (0<=n1) then
       some (.next (aA .i64 (s.1+1),s.2))
      else
       ((eH N) (aM.mk s.2.2.2.2.2.2.2.2.2.2.2.2.2.2.2.2.2.2.2.2.2.1 s.2.2.2.2.2.2.2.2.2.2.2.2.2.2.2.2.2.2.2.2.2.2.1 s.2.2.2.2.2.2.2.2.2.2.2.2.2.2.2.2.2.2.2.2.2.2.2.1)).bind fun b26=>
       bif !b26 then
        some (.done (aJ.mk (0,0) (Field.mk []) (aQ.mk 0 []) (aH.mk (aM.mk [] [] []) [] []) [],18))
       else
        ((cW N) (aH.mk (aM.mk s.2.2.2.2.2.2.2.2.2.2.2.2.2.2.2.2.2.2.2.2.2.1 s.2.2.2.2.2.2.2.2.2.2.2.2.2.2.2.2.2.2.2.2.2.2.1 s.2.2.2.2.2.2.2.2.2.2.2.2.2.2.2.2.2.2.2.2.2.2.2.1) s.2.2.2.2.2.2.2.2.2.2.2.2.2.2.2.2.2.2.2.2.2.2.2.2.1 s.2.2.2.2.2.2.2.2.2.2.2.2.2.2.2.2.2.2.2.2.2.2.2.2.2.1) a2.1 a0.1).bind fun a27=>
        (bD s.2.2.2.2.2.2.2.2.2.2.2.2.2.2.2.2.2.2.2.2.2.2.2.2.2.2 [(a0.1,a27.2)]).bind fun l28=>
        some (.next (aA .i64 (s.1+1),s.2.1,s.2.2.1,s.2.2.2.1,s.2.2.2.2.1,s.2.2.2.2.2.1,s.2.2.2.2.2.2.1,s.2.2.2.2.2.2.2.1,s.2.2.2.2.2.2.2.2.1,s.2.2.2.2.2.2.2.2.2.1,s.2.2.2.2.2.2.2.2.2.2.1,s.2.2.2.2.2.2.2.2.2.2.2.1,s.2.2.2.2.2.2.2.2.2.2.2.2.1,s.2.2.2.2.2.2.2.2.2.2.2.2.2.1,s.2.2.2.2.2.2.2.2.2.2.2.2.2.2.1,s.2.2.2.2.2.2.2.2.2.2.2.2.2.2.2.1,s.2.2.2.2.2.2.2.2.2.2.2.2.2.2.2.2.1,s.2.2.2.2.2.2.2.2.2.2.2.2.2.2.2.2.2.1,s.2.2.2.2.2.2.2.2.2.2.2.2.2.2.2.2.2.2.1,s.2.2.2.2.2.2.2.2.2.2.2.2.2.2.2.2.2.2.2.1,s.2.2.2.2.2.2.2.2.2.2.2.2.2.2.2.2.2.2.2.2.1,a27.1.slots.uses,a27.1.slots.used,a27.1.slots.free,a27.1.heap,a27.1.where_,l28))
  else
   bif !a2.2 then
    bif decide (0<=n1) then
     (aK s.2.2.2.2.2.2.2.2.2.2.2.1 n1).bind fun a29=>
     ((hO N) (aH.mk (aM.mk s.2.2.2.2.2.2.2.2.2.2.2.2.2.2.2.2.2.2.2.2.2.1 s.2.2.2.2.2.2.2.2.2.2.2.2.2.2.2.2.2.2.2.2.2.2.1 s.2.2.2.2.2.2.2.2.2.2.2.2.2.2.2.2.2.2.2.2.2.2.2.1) s.2.2.2.2.2.2.2.2.2.2.2.2.2.2.2.2.2.2.2.2.2.2.2.2.1 s.2.2.2.2.2.2.2.2.2.2.2.2.2.2.2.2.2.2.2.2.2.2.2.2.2.1) a29.2).bind fun r30=>
     bif !a2.2 then
      some (.next (aA .i64 (s.1+1),s.2.1,s.2.2.1,s.2.2.2.1,s.2.2.2.2.1,s.2.2.2.2.2.1,s.2.2.2.2.2.2.1,s.2.2.2.2.2.2.2.1,s.2.2.2.2.2.2.2.2.1,s.2.2.2.2.2.2.2.2.2.1,s.2.2.2.2.2.2.2.2.2.2.1,s.2.2.2.2.2.2.2.2.2.2.2.1,s.2.2.2.2.2.2.2.2.2.2.2.2.1,s.2.2.2.2.2.2.2.2.2.2.2.2.2.1,s.2.2.2.2.2.2.2.2.2.2.2.2.2.2.1,s.2.2.2.2.2.2.2.2.2.2.2.2.2.2.2.1,s.2.2.2.2.2.2.2.2.2.2.2.2.2.2.2.2.1,s.2.2.2.2.2.2.2.2.2.2.2.2.2.2.2.2.2.1,s.2.2.2.2.2.2.2.2.2.2.2.2.2.2.2.2.2.2.1,s.2.2.2.2.2.2.2.2.2.2.2.2.2.2.2.2.2.2.2.1,s.2.2.2.2.2.2.2.2.2.2.2.2.2.2.2.2.2.2.2.2.1,r30.slots.uses,r30.slots.used,r30.slots.free,r30.heap,r30.where_,s.2.2.2.2.2.2.2.2.2.2.2.2.2.2.2.2.2.2.2.2.2.2.2.2.2.2))
     else
      bif decide (0<=n1) then
       some (.next (aA .i64 (s.1+1),s.2.1,s.2.2.1,s.2.2.2.1,s.2.2.2.2.1,s.2.2.2.2.2.1,s.2.2.2.2.2.2.1,s.2.2.2.2.2.2.2.1,s.2.2.2.2.2.2.2.2.1,s.2.2.2.2.2.2.2.2.2.1,s.2.2.2.2.2.2.2.2.2.2.1,s.2.2.2.2.2.2.2.2.2.2.2.1,s.2.2.2.2.2.2.2.2.2.2.2.2.1,s.2.2.2.2.2.2.2.2.2.2.2.2.2.1,s.2.2.2.2.2.2.2.2.2.2.2.2.2.2.1,s.2.2.2.2.2.2.2.2.2.2.2.2.2.2.2.1,s.2.2.2.2.2.2.2.2.2.2.2.2.2.2.2.2.1,s.2.2.2.2.2.2.2.2.2.2.2.2.2.2.2.2.2.1,s.2.2.2.2.2.2.2.2.2.2.2.2.2.2.2.2.2.2.1,s.2.2.2.2.2.2.2.2.2.2.2.2.2.2.2.2.2.2.2.1,s.2.2.2.2.2.2.2.2.2.2.2.2.2.2.2.2.2.2.2.2.1,r30.slots.uses,r30.slots.used,r30.slots.free,r30.heap,r30.where_,s.2.2.2.2.2.2.2.2.2.2.2.2.2.2.2.2.2.2.2.2.2.2.2.2.2.2))
      else
       ((eH N) r30.slots).bind fun b31=>
       bif !b31 then
        some (.done (aJ.mk (0,0) (Field.mk []) (aQ.mk 0 []) (aH.mk (aM.mk [] [] []) [] []) [],18))
       else
        ((cW N) r30 a2.1 a0.1).bind fun a32=>
        (bD s.2.2.2.2.2.2.2.2.2.2.2.2.2.2.2.2.2.2.2.2.2.2.2.2.2.2 [(a0.1,a32.2)]).bind fun l33=>
        some (.next (aA .i64 (s.1+1),s.2.1,s.2.2.1,s.2.2.2.1,s.2.2.2.2.1,s.2.2.2.2.2.1,s.2.2.2.2.2.2.1,s.2.2.2.2.2.2.2.1,s.2.2.2.2.2.2.2.2.1,s.2.2.2.2.2.2.2.2.2.1,s.2.2.2.2.2.2.2.2.2.2.1,s.2.2.2.2.2.2.2.2.2.2.2.1,s.2.2.2.2.2.2.2.2.2.2.2.2.1,s.2.2.2.2.2.2.2.2.2.2.2.2.2.1,s.2.2.2.2.2.2.2.2.2.2.2.2.2.2.1,s.2.2.2.2.2.2.2.2.2.2.2.2.2.2.2.1,s.2.2.2.2.2.2.2.2.2.2.2.2.2.2.2.2.1,s.2.2.2.2.2.2.2.2.2.2.2.2.2.2.2.2.2.1,s.2.2.2.2.2.2.2.2.2.2.2.2.2.2.2.2.2.2.1,s.2.2.2.2.2.2.2.2.2.2.2.2.2.2.2.2.2.2.2.1,s.2.2.2.2.2.2.2.2.2.2.2.2.2.2.2.2.2.2.2.2.1,a32.1.slots.uses,a32.1.slots.used,a32.1.slots.free,a32.1.heap,a32.1.where_,l33))
    else
     bif !a2.2 then
      some (.next (aA .i64 (s.1+1),s.2))
     else
      bif decide (0<=n1) then
       some (.next (aA .i64 (s.1+1),s.2))
      else
       ((eH N) (aM.mk s.2.2.2.2.2.2.2.2.2.2.2.2.2.2.2.2.2.2.2.2.2.1 s.2.2.2.2.2.2.2.2.2.2.2.2.2.2.2.2.2.2.2.2.2.2.1 s.2.2.2.2.2.2.2.2.2.2.2.2.2.2.2.2.2.2.2.2.2.2.2.1)).bind fun b34=>
       bif !b34 then
        some (.done (aJ.mk (0,0) (Field.mk []) (aQ.mk 0 []) (aH.mk (aM.mk [] [] []) [] []) [],18))
       else
        ((cW N) (aH.mk (aM.mk s.2.2.2.2.2.2.2.2.2.2.2.2.2.2.2.2.2.2.2.2.2.1 s.2.2.2.2.2.2.2.2.2.2.2.2.2.2.2.2.2.2.2.2.2.2.1 s.2.2.2.2.2.2.2.2.2.2.2.2.2.2.2.2.2.2.2.2.2.2.2.1) s.2.2.2.2.2.2.2.2.2.2.2.2.2.2.2.2.2.2.2.2.2.2.2.2.1 s.2.2.2.2.2.2.2.2.2.2.2.2.2.2.2.2.2.2.2.2.2.2.2.2.2.1) a2.1 a0.1).bind fun a35=>
        (bD s.2.2.2.2.2.2.2.2.2.2.2.2.2.2.2.2.2.2.2.2.2.2.2.2.2.2 [(a0.1,a35.2)]).bind fun l36=>
        some (.next (aA .i64 (s.1+1),s.2.1,s.2.2.1,s.2.2.2.1,s.2.2.2.2.1,s.2.2.2.2.2.1,s.2.2.2.2.2.2.1,s.2.2.2.2.2.2.2.1,s.2.2.2.2.2.2.2.2.1,s.2.2.2.2.2.2.2.2.2.1,s.2.2.2.2.2.2.2.2.2.2.1,s.2.2.2.2.2.2.2.2.2.2.2.1,s.2.2.2.2.2.2.2.2.2.2.2.2.1,s.2.2.2.2.2.2.2.2.2.2.2.2.2.1,s.2.2.2.2.2.2.2.2.2.2.2.2.2.2.1,s.2.2.2.2.2.2.2.2.2.2.2.2.2.2.2.1,s.2.2.2.2.2.2.2.2.2.2.2.2.2.2.2.2.1,s.2.2.2.2.2.2.2.2.2.2.2.2.2.2.2.2.2.1,s.2.2.2.2.2.2.2.2.2.2.2.2.2.2.2.2.2.2.1,s.2.2.2.2.2.2.2.2.2.2.2.2.2.2.2.2.2.2.2.1,s.2.2.2.2.2.2.2.2.2.2.2.2.2.2.2.2.2.2.2.2.1,a35.1.slots.uses,a35.1.slots.used,a35.1.slots.free,a35.1.heap,a35.1.where_,l36))
   else
    bif !a2.2 then
     some (.next (aA .i64 (s.1+1),s.2))
    else
     bif decide (0<=n1) then
      some (.next (aA .i64 (s.1+1),s.2))
     else
      ((eH N) (aM.mk s.2.2.2.2.2.2.2.2.2.2.2.2.2.2.2.2.2.2.2.2.2.1 s.2.2.2.2.2.2.2.2.2.2.2.2.2.2.2.2.2.2.2.2.2.2.1 s.2.2.2.2.2.2.2.2.2.2.2.2.2.2.2.2.2.2.2.2.2.2.2.1)).bind fun b37=>
      bif !b37 then
       some (.done (aJ.mk (0,0) (Field.mk []) (aQ.mk 0 []) (aH.mk (aM.mk [] [] []) [] []) [],18))
      else
       ((cW N) (aH.mk (aM.mk s.2.2.2.2.2.2.2.2.2.2.2.2.2.2.2.2.2.2.2.2.2.1 s.2.2.2.2.2.2.2.2.2.2.2.2.2.2.2.2.2.2.2.2.2.2.1 s.2.2.2.2.2.2.2.2.2.2.2.2.2.2.2.2.2.2.2.2.2.2.2.1) s.2.2.2.2.2.2.2.2.2.2.2.2.2.2.2.2.2.2.2.2.2.2.2.2.1 s.2.2.2.2.2.2.2.2.2.2.2.2.2.2.2.2.2.2.2.2.2.2.2.2.2.1) a2.1 a0.1).bind fun a38=>
       (bD s.2.2.2.2.2.2.2.2.2.2.2.2.2.2.2.2.2.2.2.2.2.2.2.2.2.2 [(a0.1,a38.2)]).bind fun l39=>
       some (.next (aA .i64 (s.1+1),s.2.1,s.2.2.1,s.2.2.2.1,s.2.2.2.2.1,s.2.2.2.2.2.1,s.2.2.2.2.2.2.1,s.2.2.2.2.2.2.2.1,s.2.2.2.2.2.2.2.2.1,s.2.2.2.2.2.2.2.2.2.1,s.2.2.2.2.2.2.2.2.2.2.1,s.2.2.2.2.2.2.2.2.2.2.2.1,s.2.2.2.2.2.2.2.2.2.2.2.2.1,s.2.2.2.2.2.2.2.2.2.2.2.2.2.1,s.2.2.2.2.2.2.2.2.2.2.2.2.2.2.1,s.2.2.2.2.2.2.2.2.2.2.2.2.2.2.2.1,s.2.2.2.2.2.2.2.2.2.2.2.2.2.2.2.2.1,s.2.2.2.2.2.2.2.2.2.2.2.2.2.2.2.2.2.1,s.2.2.2.2.2.2.2.2.2.2.2.2.2.2.2.2.2.2.1,s.2.2.2.2.2.2.2.2.2.2.2.2.2.2.2.2.2.2.2.1,s.2.2.2.2.2.2.2.2.2.2.2.2.2.2.2.2.2.2.2.2.1,a38.1.slots.uses,a38.1.slots.used,a38.1.slots.free,a38.1.heap,a38.1.where_,l39))
 else
  some (.done (aJ.mk (s.2.2.2.2.2.2.2.2.2.2.2.2.2.2.2.2.1,s.2.2.2.2.2.2.2.2.2.2.2.2.2.2.2.2.2.1) (Field.mk s.2.2.2.2.2.2.2.2.2.2.2.2.2.2.2.2.2.2.1) (aQ.mk s.2.2.2.2.2.2.2.2.2.2.2.2.2.2.2.2.2.2.2.1 s.2.2.2.2.2.2.2.2.2.2.2.2.2.2.2.2.2.2.2.2.1) (aH.mk (aM.mk s.2.2.2.2.2.2.2.2.2.2.2.2.2.2.2.2.2.2.2.2.2.1 s.2.2.2.2.2.2.2.2.2.2.2.2.2.2.2.2.2.2.2.2.2.2.1 s.2.2.2.2.2.2.2.2.2.2.2.2.2.2.2.2.2.2.2.2.2.2.2.1) s.2.2.2.2.2.2.2.2.2.2.2.2.2.2.2.2.2.2.2.2.2.2.2.2.1 s.2.2.2.2.2.2.2.2.2.2.2.2.2.2.2.2.2.2.2.2.2.2.2.2.2.1) s.2.2.2.2.2.2.2.2.2.2.2.2.2.2.2.2.2.2.2.2.2.2.2.2.2.2,0))
def tP (N:Nat) (p0:aJ) (p1:Field):Option (aJ×Int):=
 ((iB N) p0).bind fun r0=>
 ((lO N) p1).bind fun r1=>
 (aR N) (yO N) (0,p0.now.1,p0.now.2,p0.field.points,p0.certs.next_,p0.certs.list,p0.agenda.slots.uses,p0.agenda.slots.used,p0.agenda.slots.free,p0.agenda.heap,p0.agenda.where_,p0.due,p1.points,0,0,0,r0.now.1,r0.now.2,r1.points,r0.certs.next_,r0.certs.list,r0.agenda.slots.uses,r0.agenda.slots.used,r0.agenda.slots.free,r0.agenda.heap,r0.agenda.where_,[])
def aH4 (N:Nat):aU:=⟨aC.cons (aE.agg aZ) (aC.one (aE.agg bG)),aE.tup (aC.cons (aE.agg aZ) (aC.one (aE.int .i64))),fun a=>(tP N) a.1 a.2,.frz,false⟩
theorem aAQ (N:Nat):aB tab 154 (aH4 N):=aB.of YJ (cx:=(aN (aG N) [(47,(c47 N)),(47,(LB N)),(91,(c91 N)),(91,(RE N)),(83,(c83 N)),(143,(aGR N)),(220,(aH2 N)),(84,(c84 N)),(221,(aGS N)),(222,(aGT N))] [] [] [])) rfl (aL.make ⟨(yL N),(sO N),(GK N),(AX N),(RN N),(M0 N),(aAO N),(RO N),(M1 N),(M2 N),trivial⟩ trivial trivial) (fun a=>by kernel_rfl)
def GN (_:Nat) (s:(Int×Int×(List (Int×Int×Int))×Int×Int)):Option (aY (Int×Int×(List (Int×Int×Int))×Int×Int) Bool):=
 bif decide (s.1<(Int.ofNat s.2.2.1.length)) then
  (aK s.2.2.1 s.1).bind fun a0=>
  bif (a0.2.1==s.2.2.2.1)&&(a0.2.2==s.2.2.2.2) then
   some (.done true)
  else
   some (.next (aA .i64 (s.1+1),s.2))
 else
  some (.done false)
def yP (N:Nat) (p0:aQ) (p1:Int×Int):Option Bool:=
 (aR N) (GN N) (0,p0.next_,p0.list,p1)
def aGU (N:Nat):aU:=⟨aC.cons (aE.agg eT) (aC.one (aE.agg (bF.row eC))),aE.bool,fun a=>(yP N) a.1 a.2,.pure,false⟩
theorem M3 (N:Nat):aB tab 146 (aGU N):=aB.of YF (cx:=(aN (aG N) [] [] [] [])) rfl (aL.make trivial trivial trivial) (fun a=>by kernel_rfl)
def vC (_:Nat) (p0:Int×Int):Option Bool:=
 bif decide (0<=p0.1) then
  bif decide (p0.1<=65535) then
   bif decide (0<=p0.2) then
    bif decide (p0.2<=65535) then
     some (p0.1 !=p0.2)
    else
     some false
   else
    some false
  else
   some false
 else
  some false
def c96 (N:Nat):aU:=⟨aC.one (aE.agg (bF.row eC)),aE.bool,fun a=>(vC N) a,.pure,false⟩
theorem RU (N:Nat):aB tab 96 (c96 N):=aB.of aGB (cx:=(aN (aG N) [] [] [] [])) rfl (aL.make trivial trivial trivial) (fun a=>by kernel_rfl)
def rQ (_:Nat) (s:(Int×Int×Int×(List (Int×Int×Int))×Int×Int×Int)):Option (aY (Int×Int×Int×(List (Int×Int×Int))×Int×Int×Int) (aY (Int×Int×(List (Int×Int×Int))) Int)):=
 bif decide (s.2.1<s.1) then
  (aK s.2.2.2.1 s.2.1).bind fun a0=>
  bif (a0.2.1==s.2.2.2.2.2.1)&&(a0.2.2==s.2.2.2.2.2.2) then
   some (.done (.done 8))
  else
   some (.next (s.1,aA .i64 (s.2.1+1),s.2.2))
 else
  some (.done (.next (aA .i64 (s.1+1),s.2.2.1,s.2.2.2.1)))
def C7 (N:Nat) (s:(Int×Int×(List (Int×Int×Int)))):Option (aY (Int×Int×(List (Int×Int×Int))) Int):=
 bif decide (s.1<(Int.ofNat s.2.2.length)) then
  (aK s.2.2 s.1).bind fun a0=>
  ((vC N) a0.2).bind fun b1=>
  bif !b1 then
   some (.done 8)
  else
   bif decide (a0.1<0) then
    some (.done 8)
   else
    bif decide (s.2.1<=a0.1) then
     some (.done 8)
    else
     bif decide (0<s.1) then
      (aK s.2.2 (aA .i64 (s.1-1))).bind fun a2=>
      bif decide (a0.1<=a2.1) then
       some (.done 8)
      else
       (aR N) (rQ N) (s.1,0,s.2.1,s.2.2,a0)
     else
      (aR N) (rQ N) (s.1,0,s.2.1,s.2.2,a0)
 else
  some (.done 0)
def zU (N:Nat) (p0:aQ):Option Int:=
 bif decide (200<(Int.ofNat p0.list.length)) then
  some 8
 else
  bif decide (p0.next_<0) then
   some 8
  else
   bif decide (1000000<p0.next_) then
    some 8
   else
    (aR N) (C7 N) (0,p0.next_,p0.list)
def aH5 (N:Nat):aU:=⟨aC.one (aE.agg eT),aE.int .i64,fun a=>(zU N) a,.pure,false⟩
theorem aAR (N:Nat):aB tab 140 (aH5 N):=aB.of YD (cx:=(aN (aG N) [(96,(c96 N))] [] [] [])) rfl (aL.make ⟨(RU N),trivial⟩ trivial trivial) (fun a=>by kernel_rfl)
def E8 (N:Nat) (p0:aQ) (p1:Int×Int):Option (aQ×Int×Int):=
 ((zU N) p0).bind fun n0=>
 bif n0 !=0 then
  some (aQ.mk 0 [],0,8)
 else
  ((vC N) p1).bind fun b1=>
  bif !b1 then
   some (aQ.mk 0 [],0,8)
  else
   ((yP N) p0 p1).bind fun b2=>
   bif b2 then
    some (aQ.mk 0 [],0,14)
   else
    bif (Int.ofNat p0.list.length)==200 then
     some (aQ.mk 0 [],0,18)
    else
     bif p0.next_==1000000 then
      some (aQ.mk 0 [],0,18)
     else
      ((pG N) p0).bind fun r3=>
      (bD r3.list [(p0.next_,p1)]).bind fun l4=>
      some (aQ.mk (aA .i64 (r3.next_+1)) l4,p0.next_,0)
def aH6 (N:Nat):aU:=⟨aC.cons (aE.agg eT) (aC.one (aE.agg (bF.row eC))),aE.tup (aC.cons (aE.agg eT) (aC.cons (aE.int .i64) (aC.one (aE.int .i64)))),fun a=>(E8 N) a.1 a.2,.frz,false⟩
theorem aAS (N:Nat):aB tab 223 (aH6 N):=aB.of ZK (cx:=(aN (aG N) [(140,(aH5 N)),(96,(c96 N)),(146,(aGU N)),(103,(aAH N)),(103,(MZ N))] [] [] [])) rfl (aL.make ⟨(aAR N),(RU N),(M3 N),(GL N),(C3 N),trivial⟩ trivial trivial) (fun a=>by kernel_rfl)
def zV (N:Nat) (p0:aJ) (p1:Int×Int):Option (aJ×Int×Int):=
 ((E8 N) p0.certs p1).bind fun a0=>
 bif a0.2.2 !=0 then
  some (aJ.mk (0,0) (Field.mk []) (aQ.mk 0 []) (aH.mk (aM.mk [] [] []) [] []) [],0,a0.2.2)
 else
  ((iB N) p0).bind fun r1=>
  ((vB N) p0.field p1 p0.now).bind fun a2=>
  bif !a2.2 then
   some (aJ.mk r1.now r1.field a0.1 r1.agenda r1.due,a0.2.1,0)
  else
   ((eH N) p0.agenda.slots).bind fun b3=>
   bif !b3 then
    some (aJ.mk (0,0) (Field.mk []) (aQ.mk 0 []) (aH.mk (aM.mk [] [] []) [] []) [],0,18)
   else
    ((cW N) p0.agenda a2.1 a0.2.1).bind fun a4=>
    (bD r1.due [(a0.2.1,a4.2)]).bind fun l5=>
    some (aJ.mk r1.now r1.field a0.1 a4.1 l5,a0.2.1,0)
def aH7 (N:Nat):aU:=⟨aC.cons (aE.agg aZ) (aC.one (aE.agg (bF.row eC))),aE.tup (aC.cons (aE.agg aZ) (aC.cons (aE.int .i64) (aC.one (aE.int .i64)))),fun a=>(zV N) a.1 a.2,.frz,false⟩
theorem aAT (N:Nat):aB tab 155 (aH7 N):=aB.of YK (cx:=(aN (aG N) [(223,(aH6 N)),(47,(c47 N)),(47,(LB N)),(143,(aGR N)),(221,(aGS N)),(222,(aGT N))] [] [] [])) rfl (aL.make ⟨(aAS N),(yL N),(sO N),(M0 N),(M1 N),(M2 N),trivial⟩ trivial trivial) (fun a=>by kernel_rfl)
def oB (N:Nat) (s:((List (Int×Int))×Int×Int×Int×Int×Int×Int×(List (Int×Int×Int))×Int×(List (Int×Int×Int))×(List Int)×(List Bool)×(List Int)×(List (Int×Int×Int×Int×Int))×(List Int)×(List (Int×Int×Int)))):Option (aY ((List (Int×Int))×Int×Int×Int×Int×Int×Int×(List (Int×Int×Int))×Int×(List (Int×Int×Int))×(List Int)×(List Bool)×(List Int)×(List (Int×Int×Int×Int×Int))×(List Int)×(List (Int×Int×Int))) (aY ((List (Int×Int))×Int×Int×Int×(List (Int×Int×Int))×Int×(List (Int×Int×Int))×(List Int)×(List Bool)×(List Int)×(List (Int×Int×Int×Int×Int))×(List Int)×(List (Int×Int×Int))×(List (Int×Int×Int))×Int×Int×Int×Int×Int×(List (Int×Int×Int))×Int×(List (Int×Int×Int))×(List Int)×(List Bool)×(List Int)×(List (Int×Int×Int×Int×Int))×(List Int)×(List (Int×Int×Int))) (aJ×Int))):=
 bif decide (s.2.1<(Int.ofNat s.1.length)) then
  (aK s.1 s.2.1).bind fun a0=>
  ((yP N) (aQ.mk s.2.2.2.2.2.2.2.2.1 s.2.2.2.2.2.2.2.2.2.1) a0).bind fun b1=>
  bif b1 then
   some (.next (s.1,aA .i64 (s.2.1+1),s.2.2))
  else
   (aK s.1 s.2.1).bind fun a2=>
   ((zV N) (aJ.mk (s.2.2.2.2.2.1,s.2.2.2.2.2.2.1) (Field.mk s.2.2.2.2.2.2.2.1) (aQ.mk s.2.2.2.2.2.2.2.2.1 s.2.2.2.2.2.2.2.2.2.1) (aH.mk (aM.mk s.2.2.2.2.2.2.2.2.2.2.1 s.2.2.2.2.2.2.2.2.2.2.2.1 s.2.2.2.2.2.2.2.2.2.2.2.2.1) s.2.2.2.2.2.2.2.2.2.2.2.2.2.1 s.2.2.2.2.2.2.2.2.2.2.2.2.2.2.1) s.2.2.2.2.2.2.2.2.2.2.2.2.2.2.2) a2).bind fun a3=>
   bif a3.2.2 !=0 then
    some (.done (.done (aJ.mk (0,0) (Field.mk []) (aQ.mk 0 []) (aH.mk (aM.mk [] [] []) [] []) [],a3.2.2)))
   else
    some (.next (s.1,aA .i64 (s.2.1+1),s.2.2.1,s.2.2.2.1,s.2.2.2.2.1,a3.1.now.1,a3.1.now.2,a3.1.field.points,a3.1.certs.next_,a3.1.certs.list,a3.1.agenda.slots.uses,a3.1.agenda.slots.used,a3.1.agenda.slots.free,a3.1.agenda.heap,a3.1.agenda.where_,a3.1.due))
 else
  some (.done (.done (aJ.mk (s.2.2.2.2.2.1,s.2.2.2.2.2.2.1) (Field.mk s.2.2.2.2.2.2.2.1) (aQ.mk s.2.2.2.2.2.2.2.2.1 s.2.2.2.2.2.2.2.2.2.1) (aH.mk (aM.mk s.2.2.2.2.2.2.2.2.2.2.1 s.2.2.2.2.2.2.2.2.2.2.2.1 s.2.2.2.2.2.2.2.2.2.2.2.2.1) s.2.2.2.2.2.2.2.2.2.2.2.2.2.1 s.2.2.2.2.2.2.2.2.2.2.2.2.2.2.1) s.2.2.2.2.2.2.2.2.2.2.2.2.2.2.2,0)))
def yQ (N:Nat) (s:((List (Int×Int))×Int×Int×Int×(List (Int×Int×Int))×Int×(List (Int×Int×Int))×(List Int)×(List Bool)×(List Int)×(List (Int×Int×Int×Int×Int))×(List Int)×(List (Int×Int×Int))×(List (Int×Int×Int))×Int×Int×Int×Int×Int×(List (Int×Int×Int))×Int×(List (Int×Int×Int))×(List Int)×(List Bool)×(List Int)×(List (Int×Int×Int×Int×Int))×(List Int)×(List (Int×Int×Int)))):Option (aY ((List (Int×Int))×Int×Int×Int×(List (Int×Int×Int))×Int×(List (Int×Int×Int))×(List Int)×(List Bool)×(List Int)×(List (Int×Int×Int×Int×Int))×(List Int)×(List (Int×Int×Int))×(List (Int×Int×Int))×Int×Int×Int×Int×Int×(List (Int×Int×Int))×Int×(List (Int×Int×Int))×(List Int)×(List Bool)×(List Int)×(List (Int×Int×Int×Int×Int))×(List Int)×(List (Int×Int×Int))) (aJ×Int)):=
 bif decide (s.2.1<(Int.ofNat s.2.2.2.2.2.2.1.length)) then
  (aK s.2.2.2.2.2.2.1 s.2.1).bind fun a0=>
  ((I4 N) s.1 a0.2).bind fun b1=>
  bif !b1 then
   (aK s.2.2.2.2.2.2.1 s.2.1).bind fun a2=>
   ((uZ N) (aJ.mk (s.2.2.2.2.2.2.2.2.2.2.2.2.2.2.2.2.2.1,s.2.2.2.2.2.2.2.2.2.2.2.2.2.2.2.2.2.2.1) (Field.mk s.2.2.2.2.2.2.2.2.2.2.2.2.2.2.2.2.2.2.2.1) (aQ.mk s.2.2.2.2.2.2.2.2.2.2.2.2.2.2.2.2.2.2.2.2.1 s.2.2.2.2.2.2.2.2.2.2.2.2.2.2.2.2.2.2.2.2.2.1) (aH.mk (aM.mk s.2.2.2.2.2.2.2.2.2.2.2.2.2.2.2.2.2.2.2.2.2.2.1 s.2.2.2.2.2.2.2.2.2.2.2.2.2.2.2.2.2.2.2.2.2.2.2.1 s.2.2.2.2.2.2.2.2.2.2.2.2.2.2.2.2.2.2.2.2.2.2.2.2.1) s.2.2.2.2.2.2.2.2.2.2.2.2.2.2.2.2.2.2.2.2.2.2.2.2.2.1 s.2.2.2.2.2.2.2.2.2.2.2.2.2.2.2.2.2.2.2.2.2.2.2.2.2.2.1) s.2.2.2.2.2.2.2.2.2.2.2.2.2.2.2.2.2.2.2.2.2.2.2.2.2.2.2) a2.1).bind fun r3=>
   some (.next (s.1,aA .i64 (s.2.1+1),s.2.2.1,s.2.2.2.1,s.2.2.2.2.1,s.2.2.2.2.2.1,s.2.2.2.2.2.2.1,s.2.2.2.2.2.2.2.1,s.2.2.2.2.2.2.2.2.1,s.2.2.2.2.2.2.2.2.2.1,s.2.2.2.2.2.2.2.2.2.2.1,s.2.2.2.2.2.2.2.2.2.2.2.1,s.2.2.2.2.2.2.2.2.2.2.2.2.1,s.2.2.2.2.2.2.2.2.2.2.2.2.2.1,s.2.2.2.2.2.2.2.2.2.2.2.2.2.2.1,s.2.2.2.2.2.2.2.2.2.2.2.2.2.2.2.1,s.2.2.2.2.2.2.2.2.2.2.2.2.2.2.2.2.1,r3.now.1,r3.now.2,r3.field.points,r3.certs.next_,r3.certs.list,r3.agenda.slots.uses,r3.agenda.slots.used,r3.agenda.slots.free,r3.agenda.heap,r3.agenda.where_,r3.due))
  else
   some (.next (s.1,aA .i64 (s.2.1+1),s.2.2))
 else
  ((C5 N) (Field.mk s.2.2.2.2.2.2.2.2.2.2.2.2.2.2.2.2.2.2.2.1) (Field.mk s.2.2.2.2.2.2.2.2.2.2.2.2.2.1)).bind fun b4=>
  bif !b4 then
   ((tP N) (aJ.mk (s.2.2.2.2.2.2.2.2.2.2.2.2.2.2.2.2.2.1,s.2.2.2.2.2.2.2.2.2.2.2.2.2.2.2.2.2.2.1) (Field.mk s.2.2.2.2.2.2.2.2.2.2.2.2.2.2.2.2.2.2.2.1) (aQ.mk s.2.2.2.2.2.2.2.2.2.2.2.2.2.2.2.2.2.2.2.2.1 s.2.2.2.2.2.2.2.2.2.2.2.2.2.2.2.2.2.2.2.2.2.1) (aH.mk (aM.mk s.2.2.2.2.2.2.2.2.2.2.2.2.2.2.2.2.2.2.2.2.2.2.1 s.2.2.2.2.2.2.2.2.2.2.2.2.2.2.2.2.2.2.2.2.2.2.2.1 s.2.2.2.2.2.2.2.2.2.2.2.2.2.2.2.2.2.2.2.2.2.2.2.2.1) s.2.2.2.2.2.2.2.2.2.2.2.2.2.2.2.2.2.2.2.2.2.2.2.2.2.1 s.2.2.2.2.2.2.2.2.2.2.2.2.2.2.2.2.2.2.2.2.2.2.2.2.2.2.1) s.2.2.2.2.2.2.2.2.2.2.2.2.2.2.2.2.2.2.2.2.2.2.2.2.2.2.2) (Field.mk s.2.2.2.2.2.2.2.2.2.2.2.2.2.1)).bind fun a5=>
   bif a5.2 !=0 then
    some (.done (aJ.mk (0,0) (Field.mk []) (aQ.mk 0 []) (aH.mk (aM.mk [] [] []) [] []) [],a5.2))
   else
    (aR N) (oB N) (s.1,0,s.2.2.2.2.2.2.2.2.2.2.2.2.2.2.1,s.2.2.2.2.2.2.2.2.2.2.2.2.2.2.2.1,s.2.2.2.2.2.2.2.2.2.2.2.2.2.2.2.2.1,a5.1.now.1,a5.1.now.2,a5.1.field.points,a5.1.certs.next_,a5.1.certs.list,a5.1.agenda.slots.uses,a5.1.agenda.slots.used,a5.1.agenda.slots.free,a5.1.agenda.heap,a5.1.agenda.where_,a5.1.due)
  else
   (aR N) (oB N) (s.1,0,s.2.2.2.2.2.2.2.2.2.2.2.2.2.2)
def tQ (N:Nat) (p0:aJ) (p1:Field) (p2:List (Int×Int)):Option (aJ×Int):=
 ((iB N) p0).bind fun r0=>
 (aR N) (yQ N) (p2,0,p0.now.1,p0.now.2,p0.field.points,p0.certs.next_,p0.certs.list,p0.agenda.slots.uses,p0.agenda.slots.used,p0.agenda.slots.free,p0.agenda.heap,p0.agenda.where_,p0.due,p1.points,0,0,0,r0.now.1,r0.now.2,r0.field.points,r0.certs.next_,r0.certs.list,r0.agenda.slots.uses,r0.agenda.slots.used,r0.agenda.slots.free,r0.agenda.heap,r0.agenda.where_,r0.due)
def c90 (N:Nat):aU:=⟨aC.cons (aE.agg aZ) (aC.cons (aE.agg bG) (aC.one (aE.sl eC))),aE.tup (aC.cons (aE.agg aZ) (aC.one (aE.int .i64))),fun a=>(tQ N) a.1 a.2.1 a.2.2,.frz,false⟩
theorem aGV (N:Nat):aB tab 90 (c90 N):=aB.of aGx (cx:=(aN (aG N) [(47,(c47 N)),(47,(LB N)),(44,(c44 N)),(27,(c27 N)),(119,(aHX N)),(154,(aH4 N)),(146,(aGU N)),(155,(aH7 N))] [] [] [])) rfl (aL.make ⟨(yL N),(sO N),(aGO N),(RP N),(aAJ N),(aAQ N),(M3 N),(aAT N),trivial⟩ trivial trivial) (fun a=>by kernel_rfl)
def tR (N:Nat) (p0:aJ) (p1:Field) (p2:List Int):Option (aT×Int):=
 ((C2 N) p1 p0.now p2).bind fun r0=>
 ((I1 N) r0).bind fun l1=>
 ((tQ N) p0 p1 l1).bind fun a2=>
 bif a2.2 !=0 then
  some (aT.mk (aJ.mk (0,0) (Field.mk []) (aQ.mk 0 []) (aH.mk (aM.mk [] [] []) [] []) []) (aP.mk [] []),a2.2)
 else
  some (aT.mk a2.1 r0,0)
def c32 (N:Nat):aU:=⟨aC.cons (aE.agg aZ) (aC.cons (aE.agg bG) (aC.one (aE.sl ki))),aE.tup (aC.cons (aE.agg fI) (aC.one (aE.int .i64))),fun a=>(tR N) a.1 a.2.1 a.2.2,.frz,false⟩
theorem aGW (N:Nat):aB tab 32 (c32 N):=aB.of aFW (cx:=(aN (aG N) [(89,(c89 N)),(62,(c62 N)),(90,(c90 N))] [] [] [])) rfl (aL.make ⟨(aGL N),(aGM N),(aGV N),trivial⟩ trivial trivial) (fun a=>by kernel_rfl)
def rR (N:Nat) (p0:Field) (p1:Int×Int):Option (aT×Int):=
 ((rG N) p0).bind fun n0=>
 bif n0 !=0 then
  ((rG N) p0).bind fun n1=>
  some (aT.mk (aJ.mk (0,0) (Field.mk []) (aQ.mk 0 []) (aH.mk (aM.mk [] [] []) [] []) []) (aP.mk [] []),n1)
 else
  ((zN N) p1).bind fun n2=>
  bif n2 !=0 then
   some (aT.mk (aJ.mk (0,0) (Field.mk []) (aQ.mk 0 []) (aH.mk (aM.mk [] [] []) [] []) []) (aP.mk [] []),8)
  else
   ((zQ N) p0 p1).bind fun r3=>
   ((zR N) p0).bind fun l4=>
   ((tR N) r3 p0 l4).bind fun a5=>
   some a5
def c18 (N:Nat):aU:=⟨aC.cons (aE.agg bG) (aC.one (aE.agg (bF.row eC))),aE.tup (aC.cons (aE.agg fI) (aC.one (aE.int .i64))),fun a=>(rR N) a.1 a.2,.frz,false⟩
theorem aGX (N:Nat):aB tab 18 (c18 N):=aB.of aFM (cx:=(aN (aG N) [(29,(c29 N)),(36,(c36 N)),(33,(c33 N)),(61,(c61 N)),(32,(c32 N))] [] [] [])) rfl (aL.make ⟨(aGF N),(aGG N),(aGI N),(aGJ N),(aGW N),trivial⟩ trivial trivial) (fun a=>by kernel_rfl)
def vD (_:Nat) (p0:aP):Option aP:=
 (bB p0.places).bind fun l0=>
 (bB p0.wins).bind fun l1=>
 some (aP.mk l0 l1)
def c48 (N:Nat):aU:=⟨aC.one (aE.agg cN),aE.agg cN,fun a=>(vD N) a,.own,true⟩
def aGY (N:Nat):aU:=⟨aC.one (aE.agg cN),aE.agg cN,fun a=>(vD N) a,.frz,false⟩
theorem RW (N:Nat):aB tab 48 (c48 N):=aB.of Q7 (cx:=(aN (aG N) [] [] [] [])) rfl (aL.make trivial trivial trivial) (fun a=>by kernel_rfl)
theorem M4 (N:Nat):aB tab 48 (aGY N):=aB.of Q7 (cx:=(aN (aG N) [] [] [] [])) rfl (aL.make trivial trivial trivial) (fun a=>by kernel_rfl)
def pH (N:Nat) (p0:aT):Option aT:=
 ((iB N) p0.clock).bind fun r0=>
 ((vD N) p0.bracket).bind fun r1=>
 some (aT.mk r0 r1)
def c11 (N:Nat):aU:=⟨aC.one (aE.agg fI),aE.agg fI,fun a=>(pH N) a,.own,true⟩
def aH8 (N:Nat):aU:=⟨aC.one (aE.agg fI),aE.agg fI,fun a=>(pH N) a,.frz,false⟩
theorem aGZ (N:Nat):aB tab 11 (c11 N):=aB.of Q5 (cx:=(aN (aG N) [(47,(c47 N)),(47,(LB N)),(48,(c48 N)),(48,(aGY N))] [] [] [])) rfl (aL.make ⟨(yL N),(sO N),(RW N),(M4 N),trivial⟩ trivial trivial) (fun a=>by kernel_rfl)
theorem aAU (N:Nat):aB tab 11 (aH8 N):=aB.of Q5 (cx:=(aN (aG N) [(47,(c47 N)),(47,(LB N)),(48,(c48 N)),(48,(aGY N))] [] [] [])) rfl (aL.make ⟨(yL N),(sO N),(RW N),(M4 N),trivial⟩ trivial trivial) (fun a=>by kernel_rfl)
def iM (_:Nat) (p0:Int):Option Int:=
 bif decide (p0<0) then
  some (aA .u64 (0- (aA .u64 p0)))
 else
  some (aA .u64 p0)
def aAV (N:Nat):aU:=⟨aC.one (aE.int .i64),aE.int .u64,fun a=>(iM N) a,.pure,false⟩
theorem GO (N:Nat):aB tab 106 (aAV N):=aB.of XU (cx:=(aN (aG N) [] [] [] [])) rfl (aL.make trivial trivial trivial) (fun a=>by kernel_rfl)
def GP (_:Nat) (s:(Int×Int)):Option (aY (Int×Int) Int):=
 bif decide (0<s.2) then
  bif s.2==0 then
   none
  else
   some (.next (s.2,Int.tmod s.1 s.2))
 else
  some (.done s.1)
def yR (N:Nat) (p0:Int) (p1:Int):Option Int:=
 (aR N) (GP N) (p0,p1)
def aG0 (N:Nat):aU:=⟨aC.cons (aE.int .u64) (aC.one (aE.int .u64)),aE.int .u64,fun a=>(yR N) a.1 a.2,.pure,false⟩
theorem M5 (N:Nat):aB tab 105 (aG0 N):=aB.of XT (cx:=(aN (aG N) [] [] [] [])) rfl (aL.make trivial trivial trivial) (fun a=>by kernel_rfl)
def cZ (N:Nat) (p0:Int×Int):Option Int:=
 bif decide (p0.2<1) then
  some 8
 else
  bif p0.1==(-9223372036854775808) then
   some 8
  else
   ((iM N) p0.1).bind fun n0=>
   ((yR N) (aA .u64 p0.2) n0).bind fun n1=>
   bif decide (1<n1) then
    some 8
   else
    some 0
def RX (N:Nat):aU:=⟨aC.one (aE.agg (bF.row eC)),aE.int .i64,fun a=>(cZ N) a,.pure,false⟩
theorem mZ (N:Nat):aB tab 49 (RX N):=aB.of aF3 (cx:=(aN (aG N) [(106,(aAV N)),(105,(aG0 N))] [] [] [])) rfl (aL.make ⟨(GO N),(M5 N),trivial⟩ trivial trivial) (fun a=>by kernel_rfl)
def lS (_:Nat) (p0:Int):Option Bool:=
 bif decide (p0<(-1048576)) then
  some true
 else
  some (decide (1048576<p0))
def aH9 (N:Nat):aU:=⟨aC.one (aE.int .i64),aE.bool,fun a=>(lS N) a,.pure,false⟩
theorem aAW (N:Nat):aB tab 249 (aH9 N):=aB.of Z5 (cx:=(aN (aG N) [] [] [] [])) rfl (aL.make trivial trivial trivial) (fun a=>by kernel_rfl)
def lA (N:Nat) (p0:Int×Int×Int):Option Int:=
 bif decide (p0.1<0) then
  some 8
 else
  bif decide (65535<p0.1) then
   some 8
  else
   ((lS N) p0.2.1).bind fun b0=>
   bif b0 then
    some 8
   else
    ((lS N) p0.2.2).bind fun b1=>
    bif b1 then
     some 8
    else
     some 0
def aG1 (N:Nat):aU:=⟨aC.one (aE.agg (bF.row cB)),aE.int .i64,fun a=>(lA N) a,.pure,false⟩
theorem M6 (N:Nat):aB tab 191 (aG1 N):=aB.of Y6 (cx:=(aN (aG N) [(249,(aH9 N))] [] [] [])) rfl (aL.make ⟨(aAW N),trivial⟩ trivial trivial) (fun a=>by kernel_rfl)
def C8 (_:Nat) (s:((List (Int×Int×Int))×Int×Int×(List (Int×Int×Int)))):Option (aY ((List (Int×Int×Int))×Int×Int×(List (Int×Int×Int))) (aY ((List (Int×Int×Int))×Int×Int×(List (Int×Int×Int))) Int)):=
 bif decide (s.2.2.1<s.2.1) then
  (aK s.1 s.2.2.1).bind fun a0=>
  bif decide (0<s.2.2.1) then
   (aK s.2.2.2 (aA .i64 (s.2.2.1-1))).bind fun a1=>
   bif decide (a0.1<=a1.1) then
    some (.done (.done 32))
   else
    some (.next (s.1,s.2.1,aA .i64 (s.2.2.1+1),s.2.2.2))
  else
   some (.next (s.1,s.2.1,aA .i64 (s.2.2.1+1),s.2.2.2))
 else
  some (.done (.done 0))
def C9 (N:Nat) (s:((List (Int×Int×Int))×Int×Int×(List (Int×Int×Int)))):Option (aY ((List (Int×Int×Int))×Int×Int×(List (Int×Int×Int))) Int):=
 bif decide (s.2.2.1<s.2.1) then
  (aK s.1 s.2.2.1).bind fun a0=>
  ((lA N) a0).bind fun n1=>
  bif n1 !=0 then
   some (.done n1)
  else
   some (.next (s.1,s.2.1,aA .i64 (s.2.2.1+1),s.2.2.2))
 else
  (aR N) (C8 N) (s.2.2.2,Int.ofNat s.2.2.2.length,0,s.2.2.2)
def gO (N:Nat) (p0:Field):Option Int:=
 bif decide (64<(Int.ofNat p0.points.length)) then
  some 4
 else
  (aR N) (C9 N) (p0.points,Int.ofNat p0.points.length,0,p0.points)
def LE (N:Nat):aU:=⟨aC.one (aE.agg bG),aE.int .i64,fun a=>(gO N) a,.pure,false⟩
theorem sP (N:Nat):aB tab 122 (LE N):=aB.of X4 (cx:=(aN (aG N) [(191,(aG1 N))] [] [] [])) rfl (aL.make ⟨(M6 N),trivial⟩ trivial trivial) (fun a=>by kernel_rfl)
def vE (_:Nat) (p0:Int×Int):Option Bool:=
 bif decide (0<=(if p0.2<p0.1 then p0.2 else p0.1)) then
  bif decide ((if p0.2>p0.1 then p0.2 else p0.1)<=65535) then
   some (p0.1 !=p0.2)
  else
   some false
 else
  some false
def aG2 (N:Nat):aU:=⟨aC.one (aE.agg (bF.row eC)),aE.bool,fun a=>(vE N) a,.pure,false⟩
theorem M7 (N:Nat):aB tab 194 (aG2 N):=aB.of Y9 (cx:=(aN (aG N) [] [] [] [])) rfl (aL.make trivial trivial trivial) (fun a=>by kernel_rfl)
def D1 (N:Nat) (s:(Int×(List (Int×Int×Int))×Int×Int×Int×(List (Int×Int×Int))×(List (List Int)))):Option (aY (Int×(List (Int×Int×Int))×Int×Int×Int×(List (Int×Int×Int))×(List (List Int))) Int):=
 bif decide (s.2.2.2.1<s.2.2.1) then
  (aK s.2.1 s.2.2.2.1).bind fun a0=>
  ((vE N) a0.2).bind fun b1=>
  bif !b1 then
   some (.done 8)
  else
   (SN s.2.2.2.2.2.2 [a0.2.1,a0.2.2]).bind fun b2=>
   bif b2 then
    some (.done 8)
   else
    bif decide (a0.1<=s.1) then
     some (.done 8)
    else
     bif decide (s.2.2.2.2.1<=a0.1) then
      some (.done 8)
     else
      (SO s.2.2.2.2.2.2 [a0.2.1,a0.2.2]).bind fun l3=>
      some (.next (a0.1,s.2.1,s.2.2.1,aA .i64 (s.2.2.2.1+1),s.2.2.2.2.1,s.2.2.2.2.2.1,l3))
 else
  some (.done 0)
def pI (N:Nat) (p0:aQ):Option Int:=
 bif decide (200<(Int.ofNat p0.list.length)) then
  some 8
 else
  bif decide (p0.next_<0) then
   some 8
  else
   bif decide (1000000<p0.next_) then
    some 8
   else
    (aR N) (D1 N) (-1,p0.list,Int.ofNat p0.list.length,0,p0.next_,p0.list,[])
def aAX (N:Nat):aU:=⟨aC.one (aE.agg eT),aE.int .i64,fun a=>(pI N) a,.pure,false⟩
theorem GQ (N:Nat):aB tab 128 (aAX N):=aB.of X8 (cx:=(aN (aG N) [(194,(aG2 N))] [] [] [])) rfl (aL.make ⟨(M7 N),trivial⟩ trivial trivial) (fun a=>by kernel_rfl)
def rS (_:Nat) (s:((List Bool)×Bool×Int×Int)):Option (aY ((List Bool)×Bool×Int×Int) Int):=
 bif decide (s.2.2.2<s.2.2.1) then
  (aK s.1 s.2.2.2).bind fun b0=>
  bif s.2.1==b0 then
   some (.done s.2.2.2)
  else
   some (.next (s.1,s.2.1,s.2.2.1,aA .i64 (s.2.2.2+1)))
 else
  some (.done (-1))
def mP (N:Nat) (p0:List Bool) (p1:Bool):Option Int:=
 (aR N) (rS N) (p0,p1,Int.ofNat p0.length,0)
def aIa (N:Nat):aU:=⟨aC.cons (aE.sl kb) (aC.one aE.bool),aE.int .i64,fun a=>(mP N) a.1 a.2,.pure,false⟩
theorem aAY (N:Nat):aB tab 294 (aIa N):=aB.of aAq (cx:=(aN (aG N) [] [] [] [])) rfl (aL.make trivial trivial trivial) (fun a=>by kernel_rfl)
def dJ (N:Nat) (p0:List Bool) (p1:Bool):Option Bool:=
 ((mP N) p0 p1).bind fun n0=>
 some (decide (0<=n0))
def aIb (N:Nat):aU:=⟨aC.cons (aE.sl kb) (aC.one aE.bool),aE.bool,fun a=>(dJ N) a.1 a.2,.pure,false⟩
theorem aAZ (N:Nat):aB tab 252 (aIb N):=aB.of Z8 (cx:=(aN (aG N) [(294,(aIa N))] [] [] [])) rfl (aL.make ⟨(aAY N),trivial⟩ trivial trivial) (fun a=>by kernel_rfl)
def jS (_:Nat) (s:((List Int)×Int×Int×(List Int)×(List Bool)×(List Int))):Option (aY ((List Int)×Int×Int×(List Int)×(List Bool)×(List Int)) (aY ((List Int)×Int×Int×(List Int)×(List Bool)×(List Int)×Int×(List Bool)) Int)):=
 bif decide (s.2.2.1<s.2.1) then
  (aK s.1 s.2.2.1).bind fun n0=>
  bif decide (n0<0) then
   some (.done (.done 8))
  else
   bif decide (1000000<n0) then
    some (.done (.done 8))
   else
    bif n0==0 then
     (aK s.2.2.2.2.1 s.2.2.1).bind fun b1=>
     bif b1 then
      some (.done (.done 8))
     else
      some (.next (s.1,s.2.1,aA .i64 (s.2.2.1+1),s.2.2.2))
    else
     some (.next (s.1,s.2.1,aA .i64 (s.2.2.1+1),s.2.2.2))
 else
  some (.done (.done 0))
def D2 (N:Nat) (c0:(List Bool)) (s:((List Int)×Int×Int×(List Int)×(List Bool)×(List Int)×Int×(List Bool))):Option (aY ((List Int)×Int×Int×(List Int)×(List Bool)×(List Int)×Int×(List Bool)) Int):=
 bif decide (s.2.2.1<s.2.1) then
  (aK s.1 s.2.2.1).bind fun n0=>
  bif decide (n0<0) then
   bif s.2.2.2.2.2.2.2.length==s.2.2.2.2.2.2.2.length then
    bif s.2.2.2.2.2.2.2.length==c0.length then
     bif s.2.2.2.2.2.2.2.length==c0.length then
      bif decide (0<=s.2.2.1) then
       some (.done 8)
      else
       ((dJ N) s.2.2.2.2.2.2.2 false).bind fun b1=>
       bif b1 then
        some (.done 8)
       else
        (aR N) (jS N) (s.2.2.2.1,Int.ofNat s.2.2.2.1.length,0,s.2.2.2.1,s.2.2.2.2.1,s.2.2.2.2.2.1)
     else
      none
    else
     none
   else
    none
  else
   bif decide (s.2.2.2.2.2.2.1<=n0) then
    bif s.2.2.2.2.2.2.2.length==s.2.2.2.2.2.2.2.length then
     bif s.2.2.2.2.2.2.2.length==c0.length then
      bif s.2.2.2.2.2.2.2.length==c0.length then
       bif decide (0<=s.2.2.1) then
        some (.done 8)
       else
        ((dJ N) s.2.2.2.2.2.2.2 false).bind fun b2=>
        bif b2 then
         some (.done 8)
        else
         (aR N) (jS N) (s.2.2.2.1,Int.ofNat s.2.2.2.1.length,0,s.2.2.2.1,s.2.2.2.2.1,s.2.2.2.2.2.1)
      else
       none
     else
      none
    else
     none
   else
    (aK s.2.2.2.2.2.2.2 n0).bind fun b3=>
    bif b3 then
     bif s.2.2.2.2.2.2.2.length==s.2.2.2.2.2.2.2.length then
      bif s.2.2.2.2.2.2.2.length==c0.length then
       bif s.2.2.2.2.2.2.2.length==c0.length then
        bif decide (0<=s.2.2.1) then
         some (.done 8)
        else
         ((dJ N) s.2.2.2.2.2.2.2 false).bind fun b4=>
         bif b4 then
          some (.done 8)
         else
          (aR N) (jS N) (s.2.2.2.1,Int.ofNat s.2.2.2.1.length,0,s.2.2.2.1,s.2.2.2.2.1,s.2.2.2.2.2.1)
       else
        none
      else
       none
     else
      none
    else
     (aK s.2.2.2.2.2.2.2 n0).bind fun _=>
     bif ((bM s.2.2.2.2.2.2.2 n0 true).length)==s.2.2.2.2.2.2.2.length then
      some (.next (s.1,s.2.1,aA .i64 (s.2.2.1+1),s.2.2.2.1,s.2.2.2.2.1,s.2.2.2.2.2.1,s.2.2.2.2.2.2.1,bM s.2.2.2.2.2.2.2 n0 true))
     else
      none
 else
  bif s.2.2.2.2.2.2.2.length==c0.length then
   bif s.2.2.2.2.2.2.2.length==c0.length then
    ((dJ N) s.2.2.2.2.2.2.2 false).bind fun b6=>
    bif b6 then
     some (.done 8)
    else
     (aR N) (jS N) (s.2.2.2.1,Int.ofNat s.2.2.2.1.length,0,s.2.2.2.1,s.2.2.2.2.1,s.2.2.2.2.2.1)
   else
    none
  else
   none
def pJ (N:Nat) (p0:aM):Option Int:=
 bif decide ((Int.ofNat p0.uses.length)<1) then
  some 8
 else
  bif decide (200<(Int.ofNat p0.uses.length)) then
   some 8
  else
   bif (Int.ofNat p0.used.length) !=(Int.ofNat p0.uses.length) then
    some 8
   else
    (bB p0.used).bind fun l0=>
    (aR N) ((D2 N) l0) (p0.free,Int.ofNat p0.free.length,0,p0.uses,p0.used,p0.free,Int.ofNat p0.uses.length,l0)
def aA0 (N:Nat):aU:=⟨aC.one (aE.agg eJ),aE.int .i64,fun a=>(pJ N) a,.pure,false⟩
theorem GR (N:Nat):aB tab 195 (aA0 N):=aB.of ZA (cx:=(aN (aG N) [(184,aU.clone kb),(252,(aIb N))] [] [(200,K9),(134,IX),(251,WG)] [])) rfl (aL.make ⟨lM,(aAZ N),trivial⟩ trivial ⟨AW,wS,Z7,trivial⟩) (fun a=>by kernel_rfl)
def DA (N:Nat) (p0:Int×Int) (p1:Int×Int):Option Int:=
 ((cZ N) p0).bind fun n0=>
 ((cZ N) p1).bind fun n1=>
 some (if n1>n0 then n1 else n0)
def aIc (N:Nat):aU:=⟨aC.cons (aE.agg (bF.row eC)) (aC.one (aE.agg (bF.row eC))),aE.int .i64,fun a=>(DA N) a.1 a.2,.pure,false⟩
theorem aA1 (N:Nat):aB tab 107 (aIc N):=aB.of XV (cx:=(aN (aG N) [(49,(RX N))] [] [] [])) rfl (aL.make ⟨(mZ N),trivial⟩ trivial trivial) (fun a=>by kernel_rfl)
def kP (_:Nat) (p0:Int):Option Bool:=
 some (p0 !=p0)
def aId (N:Nat):aU:=⟨aC.one (aE.int .i64),aE.bool,fun a=>(kP N) a,.pure,false⟩
theorem aA2 (N:Nat):aB tab 170 (aId N):=aB.of YP (cx:=(aN (aG N) [] [] [] [])) rfl (aL.make trivial trivial trivial) (fun a=>by kernel_rfl)
def iW (N:Nat) (p0:Int) (p1:Int):Option Int:=
 ((kP N) p0).bind fun b0=>
 ((kP N) p1).bind fun b1=>
 bif b0 then
  bif b1 then
   some 0
  else
   some (-1)
 else
  bif b1 then
   some 1
  else
   bif decide (p0<p1) then
    some (-1)
   else
    bif decide (p1<p0) then
     some 1
    else
     some 0
def aG3 (N:Nat):aU:=⟨aC.cons (aE.int .i64) (aC.one (aE.int .i64)),aE.int .i64,fun a=>(iW N) a.1 a.2,.pure,false⟩
theorem M8 (N:Nat):aB tab 108 (aG3 N):=aB.of XW (cx:=(aN (aG N) [(170,(aId N))] [] [] [])) rfl (aL.make ⟨(aA2 N),trivial⟩ trivial trivial) (fun a=>by kernel_rfl)
def fX (_:Nat) (p0:Int) (p1:Int):Option (Int×Int):=
 some (aA .u64 ((aA .u64 ((aA .u64 ((kB .u64 p0 32)*(kB .u64 p1 32)))+(kB .u64 (aA .u64 ((aA .u64 ((kB .u64 p0 32)*(DX .u64 p1 4294967295)))+(kB .u64 (aA .u64 ((DX .u64 p0 4294967295)*(DX .u64 p1 4294967295))) 32))) 32)))+(kB .u64 (aA .u64 ((DX .u64 (aA .u64 ((aA .u64 ((kB .u64 p0 32)*(DX .u64 p1 4294967295)))+(kB .u64 (aA .u64 ((DX .u64 p0 4294967295)*(DX .u64 p1 4294967295))) 32))) 4294967295)+(aA .u64 ((DX .u64 p0 4294967295)*(kB .u64 p1 32))))) 32)),aA .u64 (p0*p1))
def aA3 (N:Nat):aU:=⟨aC.cons (aE.int .u64) (aC.one (aE.int .u64)),aE.tup (aC.cons (aE.int .u64) (aC.one (aE.int .u64))),fun a=>(fX N) a.1 a.2,.pure,false⟩
theorem GS (N:Nat):aB tab 172 (aA3 N):=aB.of YR (cx:=(aN (aG N) [] [] [] [])) rfl (aL.make trivial trivial trivial) (fun a=>by kernel_rfl)
def rT (N:Nat) (p0:Int) (p1:Int):Option (Bool×Int×Int):=
 ((iM N) p0).bind fun n0=>
 ((iM N) p1).bind fun n1=>
 ((fX N) n0 n1).bind fun a2=>
 some (!((decide (p0<0))==(decide (p1<0))),a2)
def aIe (N:Nat):aU:=⟨aC.cons (aE.int .i64) (aC.one (aE.int .i64)),aE.agg (bF.row rF),fun a=>(rT N) a.1 a.2,.pure,false⟩
theorem aA4 (N:Nat):aB tab 110 (aIe N):=aB.of XY (cx:=(aN (aG N) [(106,(aAV N)),(172,(aA3 N))] [] [] [])) rfl (aL.make ⟨(GO N),(GS N),trivial⟩ trivial trivial) (fun a=>by kernel_rfl)
def jO (_:Nat) (p0:Int):Option Bool:=
 some (p0 !=p0)
def aIf (N:Nat):aU:=⟨aC.one (aE.int .u64),aE.bool,fun a=>(jO N) a,.pure,false⟩
theorem aA5 (N:Nat):aB tab 233 (aIf N):=aB.of ZR (cx:=(aN (aG N) [] [] [] [])) rfl (aL.make trivial trivial trivial) (fun a=>by kernel_rfl)
def iC (N:Nat) (p0:Int) (p1:Int):Option Int:=
 ((jO N) p0).bind fun b0=>
 ((jO N) p1).bind fun b1=>
 bif b0 then
  bif b1 then
   some 0
  else
   some (-1)
 else
  bif b1 then
   some 1
  else
   bif decide (p0<p1) then
    some (-1)
   else
    bif decide (p1<p0) then
     some 1
    else
     some 0
def aIg (N:Nat):aU:=⟨aC.cons (aE.int .u64) (aC.one (aE.int .u64)),aE.int .i64,fun a=>(iC N) a.1 a.2,.pure,false⟩
theorem aA6 (N:Nat):aB tab 171 (aIg N):=aB.of YQ (cx:=(aN (aG N) [(233,(aIf N))] [] [] [])) rfl (aL.make ⟨(aA5 N),trivial⟩ trivial trivial) (fun a=>by kernel_rfl)
def tT (N:Nat) (p0:Bool×Int×Int) (p1:Bool×Int×Int):Option Int:=
 ((iC N) p0.2.1 p1.2.1).bind fun n0=>
 bif n0 !=0 then
  some n0
 else
  ((iC N) p0.2.2 p1.2.2).bind fun n1=>
  some n1
def aIh (N:Nat):aU:=⟨aC.cons (aE.agg (bF.row rF)) (aC.one (aE.agg (bF.row rF))),aE.int .i64,fun a=>(tT N) a.1 a.2,.pure,false⟩
theorem aA7 (N:Nat):aB tab 109 (aIh N):=aB.of XX (cx:=(aN (aG N) [(171,(aIg N))] [] [] [])) rfl (aL.make ⟨(aA6 N),trivial⟩ trivial trivial) (fun a=>by kernel_rfl)
def oC (N:Nat) (p0:Int×Int) (p1:Int×Int):Option (Int×Int):=
 ((DA N) p0 p1).bind fun n0=>
 bif n0 !=0 then
  some (0,n0)
 else
  bif !((decide (p0.1<0))==(decide (p1.1<0))) then
   ((iW N) p0.1 p1.1).bind fun n1=>
   some (n1,0)
  else
   ((rT N) p0.1 p1.2).bind fun a2=>
   ((rT N) p1.1 p0.2).bind fun a3=>
   ((tT N) a2 a3).bind fun n4=>
   bif decide (p0.1<0) then
    some (aA .i64 (0-n4),0)
   else
    some (n4,0)
def c50 (N:Nat):aU:=⟨aC.cons (aE.agg (bF.row eC)) (aC.one (aE.agg (bF.row eC))),aE.tup (aC.cons (aE.int .i64) (aC.one (aE.int .i64))),fun a=>(oC N) a.1 a.2,.pure,false⟩
theorem LF (N:Nat):aB tab 50 (c50 N):=aB.of aF4 (cx:=(aN (aG N) [(107,(aIc N)),(108,(aG3 N)),(110,(aIe N)),(109,(aIh N))] [] [] [])) rfl (aL.make ⟨(aA1 N),(M8 N),(aA4 N),(aA7 N),trivial⟩ trivial trivial) (fun a=>by kernel_rfl)
def nA (_:Nat) (p0:Int):Option Bool:=
 some (p0 !=p0)
def aIi (N:Nat):aU:=⟨aC.one (aE.int .i64),aE.bool,fun a=>(nA N) a,.pure,false⟩
theorem aA8 (N:Nat):aB tab 260 (aIi N):=aB.of aAa (cx:=(aN (aG N) [] [] [] [])) rfl (aL.make trivial trivial trivial) (fun a=>by kernel_rfl)
def dA (N:Nat) (p0:Int) (p1:Int):Option Int:=
 ((nA N) p0).bind fun b0=>
 ((nA N) p1).bind fun b1=>
 bif b0 then
  bif b1 then
   some 0
  else
   some (-1)
 else
  bif b1 then
   some 1
  else
   bif decide (p0<p1) then
    some (-1)
   else
    bif decide (p1<p0) then
     some 1
    else
     some 0
def I5 (N:Nat):aU:=⟨aC.cons (aE.int .i64) (aC.one (aE.int .i64)),aE.int .i64,fun a=>(dA N) a.1 a.2,.pure,false⟩
theorem pK (N:Nat):aB tab 232 (I5 N):=aB.of ZQ (cx:=(aN (aG N) [(260,(aIi N))] [] [] [])) rfl (aL.make ⟨(aA8 N),trivial⟩ trivial trivial) (fun a=>by kernel_rfl)
def D3 (_:Nat) (s:(Int×(List Int)×Int×Int)):Option (aY (Int×(List Int)×Int×Int) Int):=
 bif decide (s.2.2.2<s.2.2.1) then
  (aK s.2.1 s.2.2.2).bind fun n0=>
  bif n0 !=s.1 then
   some (.done n0)
  else
   some (.next (s.1,s.2.1,s.2.2.1,aA .i64 (s.2.2.2+1)))
 else
  some (.done s.1)
def vF (N:Nat) (p0:List Int):Option Int:=
 (aR N) (D3 N) (0,p0,Int.ofNat p0.length,0)
def aG4 (N:Nat):aU:=⟨aC.one (aE.sl ki),aE.int .i64,fun a=>(vF N) a,.pure,false⟩
theorem M9 (N:Nat):aB tab 231 (aG4 N):=aB.of ZP (cx:=(aN (aG N) [] [] [] [])) rfl (aL.make trivial trivial trivial) (fun a=>by kernel_rfl)
def bQ (N:Nat) (p0:Int×Int×Int×Int×Int) (p1:Int×Int×Int×Int×Int):Option Int:=
 ((oC N) (p0.1,p0.2.1) (p1.1,p1.2.1)).bind fun a0=>
 ((dA N) p0.2.2.1 p1.2.2.1).bind fun n1=>
 ((vF N) [a0.1,n1]).bind fun n2=>
 some n2
def aA9 (N:Nat):aU:=⟨aC.cons (aE.agg (bF.row fH)) (aC.one (aE.agg (bF.row fH))),aE.int .i64,fun a=>(bQ N) a.1 a.2,.pure,false⟩
theorem GT (N:Nat):aB tab 196 (aA9 N):=aB.of ZB (cx:=(aN (aG N) [(50,(c50 N)),(232,(I5 N)),(231,(aG4 N))] [] [] [])) rfl (aL.make ⟨(LF N),(pK N),(M9 N),trivial⟩ trivial trivial) (fun a=>by kernel_rfl)
def AJ (N:Nat) (s:((List (Int×Int×Int×Int×Int))×Int×Int×(List Int)×(List Bool)×(List Int)×(List (Int×Int×Int×Int×Int))×(List Int)×(List (List Int)))):Option (aY ((List (Int×Int×Int×Int×Int))×Int×Int×(List Int)×(List Bool)×(List Int)×(List (Int×Int×Int×Int×Int))×(List Int)×(List (List Int))) (aY ((List Int)×Int×Int×(List Int)×(List Bool)×(List Int)×(List (Int×Int×Int×Int×Int))×(List Int)) Int)):=
 bif decide (s.2.2.1<s.2.1) then
  (aK s.1 s.2.2.1).bind fun a0=>
  ((cZ N) (a0.1,a0.2.1)).bind fun n1=>
  bif n1 !=0 then
   some (.done (.done 8))
  else
   bif decide (a0.2.2.1<0) then
    some (.done (.done 8))
   else
    bif decide (1000000<a0.2.2.1) then
     some (.done (.done 8))
    else
     (SN s.2.2.2.2.2.2.2.2 [a0.2.2.1]).bind fun b2=>
     bif b2 then
      some (.done (.done 8))
     else
      (SO s.2.2.2.2.2.2.2.2 [a0.2.2.1]).bind fun l3=>
      bif decide (0<s.2.2.1) then
       (aK s.2.2.2.2.2.2.1 (aA .i64 (Int.tdiv (aA .i64 (s.2.2.1-1)) 2))).bind fun a4=>
       ((bQ N) a0 a4).bind fun n5=>
       bif decide (n5<0) then
        some (.done (.done 8))
       else
        some (.next (s.1,s.2.1,aA .i64 (s.2.2.1+1),s.2.2.2.1,s.2.2.2.2.1,s.2.2.2.2.2.1,s.2.2.2.2.2.2.1,s.2.2.2.2.2.2.2.1,l3))
      else
       some (.next (s.1,s.2.1,aA .i64 (s.2.2.1+1),s.2.2.2.1,s.2.2.2.2.1,s.2.2.2.2.2.1,s.2.2.2.2.2.2.1,s.2.2.2.2.2.2.2.1,l3))
 else
  some (.done (.done 0))
def AL (N:Nat) (s:((List Int)×Int×Int×(List Int)×(List Bool)×(List Int)×(List (Int×Int×Int×Int×Int))×(List Int))):Option (aY ((List Int)×Int×Int×(List Int)×(List Bool)×(List Int)×(List (Int×Int×Int×Int×Int))×(List Int)) Int):=
 bif decide (s.2.2.1<s.2.1) then
  (aK s.1 s.2.2.1).bind fun n0=>
  (aK s.2.2.2.2.1 s.2.2.1).bind fun b1=>
  bif !b1 then
   bif n0 !=(-1) then
    some (.done 8)
   else
    some (.next (s.1,s.2.1,aA .i64 (s.2.2.1+1),s.2.2.2))
  else
   bif decide (n0<0) then
    some (.done 8)
   else
    bif decide ((Int.ofNat s.2.2.2.2.2.2.1.length)<=n0) then
     some (.done 8)
    else
     (aK s.2.2.2.2.2.2.1 n0).bind fun a2=>
     (aK s.2.2.2.1 s.2.2.1).bind fun n3=>
     bif !((a2.2.2.2.1==s.2.2.1)&&(a2.2.2.2.2==n3)) then
      some (.done 8)
     else
      some (.next (s.1,s.2.1,aA .i64 (s.2.2.1+1),s.2.2.2))
 else
  (aR N) (AJ N) (s.2.2.2.2.2.2.1,Int.ofNat s.2.2.2.2.2.2.1.length,0,s.2.2.2.1,s.2.2.2.2.1,s.2.2.2.2.2.1,s.2.2.2.2.2.2.1,s.2.2.2.2.2.2.2,[])
def gT (N:Nat) (p0:aH):Option Int:=
 ((pJ N) p0.slots).bind fun n0=>
 bif n0 !=0 then
  some 8
 else
  bif (Int.ofNat p0.where_.length) !=(Int.ofNat p0.slots.used.length) then
   some 8
  else
   bif (Int.ofNat p0.heap.length) !=(aA .i64 ((Int.ofNat p0.slots.used.length) - (Int.ofNat p0.slots.free.length))) then
    some 8
   else
    (aR N) (AL N) (p0.where_,Int.ofNat p0.where_.length,0,p0.slots.uses,p0.slots.used,p0.slots.free,p0.heap,p0.where_)
def OV (N:Nat):aU:=⟨aC.one (aE.agg bT),aE.int .i64,fun a=>(gT N) a,.pure,false⟩
theorem xA (N:Nat):aB tab 129 (OV N):=aB.of X9 (cx:=(aN (aG N) [(195,(aA0 N)),(49,(RX N)),(196,(aA9 N))] [] [] [])) rfl (aL.make ⟨(GR N),(mZ N),(GT N),trivial⟩ trivial trivial) (fun a=>by kernel_rfl)
def nB (N:Nat) (p0:Int×Int×Int) (p1:Int):Option Int:=
 ((dA N) p0.1 p1).bind fun n0=>
 some n0
def aIj (N:Nat):aU:=⟨aC.cons (aE.agg (bF.row cB)) (aC.one (aE.int .i64)),aE.int .i64,fun a=>(nB N) a.1 a.2,.pure,false⟩
theorem aBa (N:Nat):aB tab 254 (aIj N):=aB.of Z9 (cx:=(aN (aG N) [(232,(I5 N))] [] [] [])) rfl (aL.make ⟨(pK N),trivial⟩ trivial trivial) (fun a=>by kernel_rfl)
def eE (N:Nat) (s:((List (Int×Int×Int))×Int×Int×Int×Int)):Option (aY ((List (Int×Int×Int))×Int×Int×Int×Int) (Int×Bool)):=
 bif decide (s.2.2.2.1<s.2.2.2.2) then
  (aK s.1 (aA .i64 (kB .u64 (aA .u64 (aA .i64 (s.2.2.2.1+s.2.2.2.2))) 1))).bind fun a0=>
  ((nB N) a0 s.2.1).bind fun n1=>
  bif decide (n1<0) then
   some (.next (s.1,s.2.1,s.2.2.1,aA .i64 ((aA .i64 (kB .u64 (aA .u64 (aA .i64 (s.2.2.2.1+s.2.2.2.2))) 1))+1),s.2.2.2.2))
  else
   some (.next (s.1,s.2.1,s.2.2.1,s.2.2.2.1,aA .i64 (kB .u64 (aA .u64 (aA .i64 (s.2.2.2.1+s.2.2.2.2))) 1)))
 else
  bif decide (s.2.2.2.1<s.2.2.1) then
   (aK s.1 s.2.2.2.1).bind fun a2=>
   ((nB N) a2 s.2.1).bind fun n3=>
   some (.done (s.2.2.2.1,n3==0))
  else
   some (.done (s.2.2.2.1,false))
def cC (N:Nat) (p0:List (Int×Int×Int)) (p1:Int) (_:Unit):Option (Int×Bool):=
 (aR N) (eE N) (p0,p1,Int.ofNat p0.length,0,Int.ofNat p0.length)
def I6 (N:Nat):aU:=⟨aC.cons (aE.sl cB) (aC.cons (aE.int .i64) (aC.one (aE.clo 254 aC.nil))),aE.tup (aC.cons (aE.int .i64) (aC.one aE.bool)),fun a=>(cC N) a.1 a.2.1 a.2.2,.pure,false⟩
theorem I7 (N:Nat):aB tab 253 (I6 N):=aB.of GI (cx:=(aN (aG N) [(254,(aIj N))] [] [] [])) rfl (aL.make ⟨(aBa N),trivial⟩ trivial trivial) (fun a=>by kernel_rfl)
def gP (N:Nat) (p0:Field) (p1:Int):Option (Int×Int×Int):=
 ((cC N) p0.points p1 ()).bind fun a0=>
 bif !a0.2 then
  some (-1,0,0)
 else
  (aK p0.points a0.1).bind fun a1=>
  some a1
def aBb (N:Nat):aU:=⟨aC.cons (aE.agg bG) (aC.one (aE.int .i64)),aE.agg (bF.row cB),fun a=>(gP N) a.1 a.2,.pure,false⟩
theorem GU (N:Nat):aB tab 198 (aBb N):=aB.of ZD (cx:=(aN (aG N) [(253,(I6 N))] [] [] [])) rfl (aL.make ⟨(I7 N),trivial⟩ trivial trivial) (fun a=>by kernel_rfl)
def pL (N:Nat) (p0:Int×Int×Int) (p1:Int×Int×Int) (p2:Int×Int):Option Int:=
 ((lA N) p0).bind fun n0=>
 ((lA N) p1).bind fun n1=>
 ((cZ N) p2).bind fun n2=>
 bif (if n2>(if n1>n0 then n1 else n0) then n2 else if n1>n0 then n1 else n0) !=0 then
  some (if n2>(if n1>n0 then n1 else n0) then n2 else if n1>n0 then n1 else n0)
 else
  bif p0.1==p1.1 then
   some 2
  else
   some 0
def aBc (N:Nat):aU:=⟨aC.cons (aE.agg (bF.row cB)) (aC.cons (aE.agg (bF.row cB)) (aC.one (aE.agg (bF.row eC)))),aE.int .i64,fun a=>(pL N) a.1 a.2.1 a.2.2,.pure,false⟩
theorem GV (N:Nat):aB tab 225 (aBc N):=aB.of ZL (cx:=(aN (aG N) [(191,(aG1 N)),(49,(RX N))] [] [] [])) rfl (aL.make ⟨(M6 N),(mZ N),trivial⟩ trivial trivial) (fun a=>by kernel_rfl)
def D4 (N:Nat) (s:(Int×Int×Int×Int×Int×Int×Int×Int×Int)):Option (aY (Int×Int×Int×Int×Int×Int×Int×Int×Int) (Int×Int)):=
 bif decide (s.2.2.2.2.1<2) then
  bif s.2.2.2.2.1==0 then
   ((fX N) (aA .u64 s.1) (aA .u64 s.2.1)).bind fun a0=>
   bif decide (s.1<0) then
    bif decide (s.2.1<0) then
     (lK s.2.2.2.2.2.2.2.2 a0.2 0).bind fun a1=>
     some (.next (s.1,s.2.1,s.2.2.1,s.2.2.2.1,aA .i64 (s.2.2.2.2.1+1),s.2.2.2.2.2.1,s.2.2.2.2.2.2.1,aA .i64 ((aA .i64 (s.2.2.2.2.2.2.2.1+(aA .i64 ((aA .i64 ((aA .i64 a0.1) -s.2.1)) -s.1))))+(aA .i64 a1.2)),a1.1))
    else
     (lK s.2.2.2.2.2.2.2.2 a0.2 0).bind fun a2=>
     some (.next (s.1,s.2.1,s.2.2.1,s.2.2.2.1,aA .i64 (s.2.2.2.2.1+1),s.2.2.2.2.2.1,s.2.2.2.2.2.2.1,aA .i64 ((aA .i64 (s.2.2.2.2.2.2.2.1+(aA .i64 ((aA .i64 a0.1) -s.2.1))))+(aA .i64 a2.2)),a2.1))
   else
    bif decide (s.2.1<0) then
     (lK s.2.2.2.2.2.2.2.2 a0.2 0).bind fun a3=>
     some (.next (s.1,s.2.1,s.2.2.1,s.2.2.2.1,aA .i64 (s.2.2.2.2.1+1),s.2.2.2.2.2.1,s.2.2.2.2.2.2.1,aA .i64 ((aA .i64 (s.2.2.2.2.2.2.2.1+(aA .i64 ((aA .i64 a0.1) -s.1))))+(aA .i64 a3.2)),a3.1))
    else
     (lK s.2.2.2.2.2.2.2.2 a0.2 0).bind fun a4=>
     some (.next (s.1,s.2.1,s.2.2.1,s.2.2.2.1,aA .i64 (s.2.2.2.2.1+1),s.2.2.2.2.2.1,s.2.2.2.2.2.2.1,aA .i64 ((aA .i64 (s.2.2.2.2.2.2.2.1+(aA .i64 a0.1)))+(aA .i64 a4.2)),a4.1))
  else
   bif s.2.2.2.2.1==1 then
    ((fX N) (aA .u64 s.2.2.1) (aA .u64 s.2.2.2.1)).bind fun a5=>
    bif decide (s.2.2.1<0) then
     bif decide (s.2.2.2.1<0) then
      (lK s.2.2.2.2.2.2.2.2 a5.2 0).bind fun a6=>
      some (.next (s.1,s.2.1,s.2.2.1,s.2.2.2.1,aA .i64 (s.2.2.2.2.1+1),s.2.2.2.2.2.1,s.2.2.2.2.2.2.1,aA .i64 ((aA .i64 (s.2.2.2.2.2.2.2.1+(aA .i64 ((aA .i64 ((aA .i64 a5.1) -s.2.2.2.1)) -s.2.2.1))))+(aA .i64 a6.2)),a6.1))
     else
      (lK s.2.2.2.2.2.2.2.2 a5.2 0).bind fun a7=>
      some (.next (s.1,s.2.1,s.2.2.1,s.2.2.2.1,aA .i64 (s.2.2.2.2.1+1),s.2.2.2.2.2.1,s.2.2.2.2.2.2.1,aA .i64 ((aA .i64 (s.2.2.2.2.2.2.2.1+(aA .i64 ((aA .i64 a5.1) -s.2.2.2.1))))+(aA .i64 a7.2)),a7.1))
    else
     bif decide (s.2.2.2.1<0) then
      (lK s.2.2.2.2.2.2.2.2 a5.2 0).bind fun a8=>
      some (.next (s.1,s.2.1,s.2.2.1,s.2.2.2.1,aA .i64 (s.2.2.2.2.1+1),s.2.2.2.2.2.1,s.2.2.2.2.2.2.1,aA .i64 ((aA .i64 (s.2.2.2.2.2.2.2.1+(aA .i64 ((aA .i64 a5.1) -s.2.2.1))))+(aA .i64 a8.2)),a8.1))
     else
      (lK s.2.2.2.2.2.2.2.2 a5.2 0).bind fun a9=>
      some (.next (s.1,s.2.1,s.2.2.1,s.2.2.2.1,aA .i64 (s.2.2.2.2.1+1),s.2.2.2.2.2.1,s.2.2.2.2.2.2.1,aA .i64 ((aA .i64 (s.2.2.2.2.2.2.2.1+(aA .i64 a5.1)))+(aA .i64 a9.2)),a9.1))
   else
    none
 else
  some (.done s.2.2.2.2.2.2.2)
def DB (N:Nat) (p0:Int×Int×Int×Int):Option (Int×Int):=
 (aR N) (D4 N) (p0.1,p0.2.1,p0.2.2.1,p0.2.2.2,0,0,0,0,0)
def aIk (N:Nat):aU:=⟨aC.one (aE.agg (bF.row aHO)),aE.agg (bF.row kiu),fun a=>(DB N) a,.pure,false⟩
theorem aBd (N:Nat):aB tab 271 (aIk N):=aB.of aAd (cx:=(aN (aG N) [(172,(aA3 N)),(300,aU.add64)] [] [] [])) rfl (aL.make ⟨(GS N),Q9,trivial⟩ trivial trivial) (fun a=>by kernel_rfl)
def lT (N:Nat) (p0:Int×Int×Int) (p1:Int×Int×Int) (p2:Int×Int):Option Int:=
 ((DB N) (aA .i64 (p0.2.1-p1.2.1),p2.2,aA .i64 (p0.2.2-p1.2.2),p2.1)).bind fun a0=>
 bif !((a0.1==0)&&(a0.2==0)) then
  bif decide (a0.1<0) then
   some (-1)
  else
   some 1
 else
  ((iW N) p0.2.2 p1.2.2).bind fun n1=>
  ((dA N) p1.1 p0.1).bind fun n2=>
  ((vF N) [n1,n2]).bind fun n3=>
  some n3
def aG5 (N:Nat):aU:=⟨aC.cons (aE.agg (bF.row cB)) (aC.cons (aE.agg (bF.row cB)) (aC.one (aE.agg (bF.row eC)))),aE.int .i64,fun a=>(lT N) a.1 a.2.1 a.2.2,.pure,false⟩
theorem NA (N:Nat):aB tab 226 (aG5 N):=aB.of ZM (cx:=(aN (aG N) [(271,(aIk N)),(108,(aG3 N)),(232,(I5 N)),(231,(aG4 N))] [] [] [])) rfl (aL.make ⟨(aBd N),(M8 N),(pK N),(M9 N),trivial⟩ trivial trivial) (fun a=>by kernel_rfl)
def zW (_:Nat) (p0:Bool×Int×Int) (p1:Int) (p2:Int):Option ((Int×Int)×Int):=
 bif decide (0<p0.2.1) then
  some ((0,0),16)
 else
  bif decide (9223372036854775807<p0.2.2) then
   some ((0,0),16)
  else
   bif decide (0<p1) then
    some ((0,0),16)
   else
    bif decide (9223372036854775807<p2) then
     some ((0,0),16)
    else
     bif p0.1 then
      some ((aA .i64 (0- (aA .i64 p0.2.2)),aA .i64 p2),0)
     else
      some ((aA .i64 p0.2.2,aA .i64 p2),0)
def aIl (N:Nat):aU:=⟨aC.cons (aE.agg (bF.row rF)) (aC.cons (aE.int .u64) (aC.one (aE.int .u64))),aE.tup (aC.cons (aE.agg (bF.row eC)) (aC.one (aE.int .i64))),fun a=>(zW N) a.1 a.2.1 a.2.2,.pure,false⟩
theorem aBe (N:Nat):aB tab 273 (aIl N):=aB.of aAf (cx:=(aN (aG N) [] [] [] [])) rfl (aL.make trivial trivial trivial) (fun a=>by kernel_rfl)
def DC (N:Nat) (p0:Int) (p1:Int):Option ((Int×Int)×Int):=
 bif p1==0 then
  some ((0,0),26)
 else
  ((iM N) p0).bind fun n0=>
  ((iM N) p1).bind fun n1=>
  ((yR N) n0 n1).bind fun n2=>
  ((iM N) p0).bind fun n3=>
  bif n2==0 then
   none
  else
   ((iM N) p1).bind fun n4=>
   bif n2==0 then
    none
   else
    ((zW N) (!((decide (p0<0))==(decide (p1<0))),0,aA .u64 (Int.tdiv n3 n2)) 0 (aA .u64 (Int.tdiv n4 n2))).bind fun a5=>
    some a5
def aIm (N:Nat):aU:=⟨aC.cons (aE.int .i64) (aC.one (aE.int .i64)),aE.tup (aC.cons (aE.agg (bF.row eC)) (aC.one (aE.int .i64))),fun a=>(DC N) a.1 a.2,.pure,false⟩
theorem aBf (N:Nat):aB tab 229 (aIm N):=aB.of ZO (cx:=(aN (aG N) [(106,(aAV N)),(105,(aG0 N)),(273,(aIl N))] [] [] [])) rfl (aL.make ⟨(GO N),(M5 N),(aBe N),trivial⟩ trivial trivial) (fun a=>by kernel_rfl)
def zX (N:Nat) (p0:Int×Int×Int) (p1:Int×Int×Int):Option ((Int×Int)×Int):=
 ((pL N) p0 p1 (0,1)).bind fun n0=>
 bif n0 !=0 then
  some ((0,0),n0)
 else
  bif p0.2.2==p1.2.2 then
   some ((0,0),6)
  else
   ((DC N) (aA .i64 (p0.2.1-p1.2.1)) (aA .i64 (p1.2.2-p0.2.2))).bind fun a1=>
   some a1
def aIn (N:Nat):aU:=⟨aC.cons (aE.agg (bF.row cB)) (aC.one (aE.agg (bF.row cB))),aE.tup (aC.cons (aE.agg (bF.row eC)) (aC.one (aE.int .i64))),fun a=>(zX N) a.1 a.2,.pure,false⟩
theorem aBg (N:Nat):aB tab 163 (aIn N):=aB.of YO (cx:=(aN (aG N) [(225,(aBc N)),(229,(aIm N))] [] [] [])) rfl (aL.make ⟨(GV N),(aBf N),trivial⟩ trivial trivial) (fun a=>by kernel_rfl)
def xB (N:Nat) (p0:Int×Int×Int) (p1:Int×Int×Int) (p2:Int×Int):Option ((Int×Int)×Bool×Int):=
 ((pL N) p0 p1 p2).bind fun n0=>
 bif n0 !=0 then
  some ((0,0),false,n0)
 else
  ((lT N) p1 p0 p2).bind fun n1=>
  bif decide (0<n1) then
   some (p2,true,0)
  else
   bif decide (p1.2.2<=p0.2.2) then
    some ((0,0),false,0)
   else
    ((zX N) p0 p1).bind fun a2=>
    some (a2.1,a2.2==0,a2.2)
def aIo (N:Nat):aU:=⟨aC.cons (aE.agg (bF.row cB)) (aC.cons (aE.agg (bF.row cB)) (aC.one (aE.agg (bF.row eC)))),aE.tup (aC.cons (aE.agg (bF.row eC)) (aC.cons aE.bool (aC.one (aE.int .i64)))),fun a=>(xB N) a.1 a.2.1 a.2.2,.pure,false⟩
theorem aBh (N:Nat):aB tab 197 (aIo N):=aB.of ZC (cx:=(aN (aG N) [(225,(aBc N)),(226,(aG5 N)),(163,(aIn N))] [] [] [])) rfl (aL.make ⟨(GV N),(NA N),(aBg N),trivial⟩ trivial trivial) (fun a=>by kernel_rfl)
def pM (N:Nat) (p0:Field) (p1:Int×Int) (p2:Int×Int):Option ((Int×Int)×Bool×Int):=
 ((gP N) p0 p1.2).bind fun a0=>
 ((gP N) p0 p1.1).bind fun a1=>
 ((xB N) a0 a1 p2).bind fun a2=>
 some a2
def aBi (N:Nat):aU:=⟨aC.cons (aE.agg bG) (aC.cons (aE.agg (bF.row eC)) (aC.one (aE.agg (bF.row eC)))),aE.tup (aC.cons (aE.agg (bF.row eC)) (aC.cons aE.bool (aC.one (aE.int .i64)))),fun a=>(pM N) a.1 a.2.1 a.2.2,.pure,false⟩
theorem GW (N:Nat):aB tab 130 (aBi N):=aB.of YA (cx:=(aN (aG N) [(198,(aBb N)),(197,(aIo N))] [] [] [])) rfl (aL.make ⟨(GU N),(aBh N),trivial⟩ trivial trivial) (fun a=>by kernel_rfl)
def DD (N:Nat) (s:((List (Int×Int×Int))×(List (Int×Int×Int))×Int×Int×Int×Int×(List (Int×Int×Int))×Int×(List (Int×Int×Int))×(List Int)×(List Bool)×(List Int)×(List (Int×Int×Int×Int×Int))×(List Int)×(List (Int×Int×Int)))):Option (aY ((List (Int×Int×Int))×(List (Int×Int×Int))×Int×Int×Int×Int×(List (Int×Int×Int))×Int×(List (Int×Int×Int))×(List Int)×(List Bool)×(List Int)×(List (Int×Int×Int×Int×Int))×(List Int)×(List (Int×Int×Int))) (aY (Int×Int×Int×Int×(List (Int×Int×Int))×Int×(List (Int×Int×Int))×(List Int)×(List Bool)×(List Int)×(List (Int×Int×Int×Int×Int))×(List Int)×(List (Int×Int×Int))×(List Int)) Int)):=
 bif decide (s.2.2.2.1<s.2.2.1) then
  (aK s.2.1 s.2.2.2.1).bind fun a0=>
  ((pM N) (Field.mk s.2.2.2.2.2.2.1) a0.2 (s.2.2.2.2.1,s.2.2.2.2.2.1)).bind fun a1=>
  bif a1.2.2 !=0 then
   some (.done (.done 8))
  else
   bif !a1.2.1 then
    some (.next (s.1,s.2.1,s.2.2.1,aA .i64 (s.2.2.2.1+1),s.2.2.2.2))
   else
    bif (Int.ofNat s.1.length)==0 then
     some (.done (.done 8))
    else
     (aK s.1 0).bind fun a2=>
     bif a2.1 !=a0.1 then
      some (.done (.done 8))
     else
      (aK s.1 0).bind fun a3=>
      bif decide (a3.2.1<0) then
       some (.done (.done 8))
      else
       bif decide (200<=a3.2.1) then
        some (.done (.done 8))
       else
        (aK s.2.2.2.2.2.2.2.2.2.2.2.2.2.1 a3.2.1).bind fun n4=>
        bif decide (n4<0) then
         some (.done (.done 8))
        else
         (aK s.2.2.2.2.2.2.2.2.2.2.2.2.2.1 a3.2.1).bind fun n5=>
         (aK s.2.2.2.2.2.2.2.2.2.2.2.2.1 n5).bind fun a6=>
         bif !((a6.1==a1.1.1)&&((a6.2.1==a1.1.2)&&((a6.2.2.1==a0.1)&&((a6.2.2.2.1==a3.2.1)&&(a6.2.2.2.2==a3.2.2))))) then
          some (.done (.done 8))
         else
          (fZ s.1 1 (Int.ofNat s.1.length)).bind fun l7=>
          some (.next (l7,s.2.1,s.2.2.1,aA .i64 (s.2.2.2.1+1),s.2.2.2.2))
 else
  bif decide (0<(Int.ofNat s.1.length)) then
   some (.done (.done 8))
  else
   some (.done (.done 0))
def DE (N:Nat) (s:(Int×Int×Int×Int×(List (Int×Int×Int))×Int×(List (Int×Int×Int))×(List Int)×(List Bool)×(List Int)×(List (Int×Int×Int×Int×Int))×(List Int)×(List (Int×Int×Int))×(List Int))):Option (aY (Int×Int×Int×Int×(List (Int×Int×Int))×Int×(List (Int×Int×Int))×(List Int)×(List Bool)×(List Int)×(List (Int×Int×Int×Int×Int))×(List Int)×(List (Int×Int×Int))×(List Int)) Int):=
 bif decide (s.2.1<s.1) then
  (aK s.2.2.2.2.2.2.2.2.2.2.2.2.2 s.2.1).bind fun n0=>
  bif n0 !=0 then
   some (.done 8)
  else
   some (.next (s.1,aA .i64 (s.2.1+1),s.2.2))
 else
  bif (Int.ofNat s.2.2.2.2.2.2.2.2.2.2.2.1.length) !=200 then
   some (.done 8)
  else
   bif (Int.ofNat s.2.2.2.2.2.2.2.2.2.2.1.length) !=(Int.ofNat s.2.2.2.2.2.2.2.2.2.2.2.2.1.length) then
    some (.done 8)
   else
    (aR N) (DD N) (s.2.2.2.2.2.2.2.2.2.2.2.2.1,s.2.2.2.2.2.2.1,Int.ofNat s.2.2.2.2.2.2.1.length,0,s.2.2.1,s.2.2.2.1,s.2.2.2.2.1,s.2.2.2.2.2.1,s.2.2.2.2.2.2.1,s.2.2.2.2.2.2.2.1,s.2.2.2.2.2.2.2.2.1,s.2.2.2.2.2.2.2.2.2.1,s.2.2.2.2.2.2.2.2.2.2.1,s.2.2.2.2.2.2.2.2.2.2.2.1,s.2.2.2.2.2.2.2.2.2.2.2.2.1)
def gQ (N:Nat) (p0:aJ):Option Int:=
 ((cZ N) p0.now).bind fun n0=>
 ((gO N) p0.field).bind fun n1=>
 ((pI N) p0.certs).bind fun n2=>
 ((gT N) p0.agenda).bind fun n3=>
 (aR N) (DE N) (Int.ofNat ([n0,n1,n2,n3].length),0,p0.now.1,p0.now.2,p0.field.points,p0.certs.next_,p0.certs.list,p0.agenda.slots.uses,p0.agenda.slots.used,p0.agenda.slots.free,p0.agenda.heap,p0.agenda.where_,p0.due,[n0,n1,n2,n3])
def c65 (N:Nat):aU:=⟨aC.one (aE.agg aZ),aE.int .i64,fun a=>(gQ N) a,.pure,false⟩
theorem yS (N:Nat):aB tab 65 (c65 N):=aB.of aGf (cx:=(aN (aG N) [(49,(RX N)),(122,(LE N)),(128,(aAX N)),(129,(OV N)),(130,(aBi N))] [] [] [])) rfl (aL.make ⟨(mZ N),(sP N),(GQ N),(xA N),(GW N),trivial⟩ trivial trivial) (fun a=>by kernel_rfl)
def qE (_:Nat) (p0:Int):Option Bool:=
 bif decide ((-1)<=p0) then
  some (decide (p0<=65535))
 else
  some false
def aIp (N:Nat):aU:=⟨aC.one (aE.int .i64),aE.bool,fun a=>(qE N) a,.pure,false⟩
theorem aBj (N:Nat):aB tab 133 (aIp N):=aB.of YB (cx:=(aN (aG N) [] [] [] [])) rfl (aL.make trivial trivial trivial) (fun a=>by kernel_rfl)
def eU (_:Nat) (p0:aP) (p1:Int):Option Int:=
 bif decide (0<=(aA .i64 (p1- (Int.ofNat p0.wins.length)))) then
  (aK p0.places (aA .i64 (p1- (Int.ofNat p0.wins.length)))).bind fun n0=>
  some n0
 else
  (aK p0.wins p1).bind fun n1=>
  some n1
def aBk (N:Nat):aU:=⟨aC.cons (aE.agg cN) (aC.one (aE.int .i64)),aE.int .i64,fun a=>(eU N) a.1 a.2,.pure,false⟩
theorem GX (N:Nat):aB tab 126 (aBk N):=aB.of X7 (cx:=(aN (aG N) [] [] [] [])) rfl (aL.make trivial trivial trivial) (fun a=>by kernel_rfl)
def oD (N:Nat) (s:((List Int)×Int×Int×(List Int)×(List Int))):Option (aY ((List Int)×Int×Int×(List Int)×(List Int)) (aY ((List Int)×Int×Int×(List Int)×(List Int)×(List (Int×Bool))) (aY ((List Int)×Int×Int×(List Int)×(List Int)×(List (Int×Bool))) Int))):=
 bif decide (s.2.2.1<s.2.1) then
  (aK s.1 s.2.2.1).bind fun n0=>
  ((eU N) (aP.mk s.2.2.2.1 s.2.2.2.2) (aA .i64 ((aA .i64 (2*s.2.2.1))+1))).bind fun n1=>
  ((eU N) (aP.mk s.2.2.2.1 s.2.2.2.2) (aA .i64 ((aA .i64 (2*s.2.2.1))+2))).bind fun n2=>
  bif n0 !=n1 then
   bif n0 !=n2 then
    some (.done (.done (.done 8)))
   else
    bif decide (n0<0) then
     bif decide (0<=(if n2>n1 then n2 else n1)) then
      some (.done (.done (.done 8)))
     else
      some (.next (s.1,s.2.1,aA .i64 (s.2.2.1+1),s.2.2.2))
    else
     some (.next (s.1,s.2.1,aA .i64 (s.2.2.1+1),s.2.2.2))
  else
   bif decide (n0<0) then
    bif decide (0<=(if n2>n1 then n2 else n1)) then
     some (.done (.done (.done 8)))
    else
     some (.next (s.1,s.2.1,aA .i64 (s.2.2.1+1),s.2.2.2))
   else
    some (.next (s.1,s.2.1,aA .i64 (s.2.2.1+1),s.2.2.2))
 else
  some (.done (.done (.done 0)))
def oE (N:Nat) (s:((List Int)×Int×Int×(List Int)×(List Int)×(List (Int×Bool)))):Option (aY ((List Int)×Int×Int×(List Int)×(List Int)×(List (Int×Bool))) (aY ((List Int)×Int×Int×(List Int)×(List Int)×(List (Int×Bool))) Int)):=
 bif decide (s.2.2.1<s.2.1) then
  (aK s.1 s.2.2.1).bind fun n0=>
  ((qE N) n0).bind fun b1=>
  bif !b1 then
   bif !(!(decide (0<=s.2.2.1))) then
    some (.done (.done 8))
   else
    (aR N) (oD N) (s.2.2.2.2.1,Int.ofNat s.2.2.2.2.1.length,0,s.2.2.2.1,s.2.2.2.2.1)
  else
   some (.next (s.1,s.2.1,aA .i64 (s.2.2.1+1),s.2.2.2))
 else
  (aR N) (oD N) (s.2.2.2.2.1,Int.ofNat s.2.2.2.2.1.length,0,s.2.2.2.1,s.2.2.2.2.1)
def yT (N:Nat) (s:((List Int)×Int×Int×(List Int)×(List Int)×(List (Int×Bool)))):Option (aY ((List Int)×Int×Int×(List Int)×(List Int)×(List (Int×Bool))) Int):=
 bif decide (s.2.2.1<s.2.1) then
  (aK s.1 s.2.2.1).bind fun n0=>
  bif !(!(tC false s.2.2.2.2.2 n0)) then
   bif !(!(decide (0<=s.2.2.1))) then
    some (.done 8)
   else
    (aR N) (oE N) (s.2.2.2.1,Int.ofNat s.2.2.2.1.length,0,s.2.2.2.1,s.2.2.2.2.1,nT s.2.2.2.2.2 n0 (decide (0<=n0)))
  else
   some (.next (s.1,s.2.1,aA .i64 (s.2.2.1+1),s.2.2.2.1,s.2.2.2.2.1,nT s.2.2.2.2.2 n0 (decide (0<=n0))))
 else
  (aR N) (oE N) (s.2.2.2.1,Int.ofNat s.2.2.2.1.length,0,s.2.2.2)
def nC (N:Nat) (p0:aP):Option Int:=
 bif decide ((Int.ofNat p0.places.length)<1) then
  some 8
 else
  bif decide (64<(Int.ofNat p0.places.length)) then
   some 8
  else
   bif (Int.ofNat p0.wins.length) !=(aA .i64 ((Int.ofNat p0.places.length) -1)) then
    some 8
   else
    (aR N) (yT N) (p0.places,Int.ofNat p0.places.length,0,p0.places,p0.wins,nT [] (-1) false)
def c66 (N:Nat):aU:=⟨aC.one (aE.agg cN),aE.int .i64,fun a=>(nC N) a,.pure,false⟩
theorem RY (N:Nat):aB tab 66 (c66 N):=aB.of aGg (cx:=(aN (aG N) [(133,(aIp N)),(126,(aBk N))] [] [(131,Q1),(132,OM),(200,K9),(134,IX),(201,ON),(199,Q2)] [])) rfl (aL.make ⟨(aBj N),(GX N),trivial⟩ trivial ⟨MN,GC,AW,wS,GG,MS,trivial⟩) (fun a=>by kernel_rfl)
def rU (_:Nat) (p0:Int) (p1:Int×Int×Int):Option Bool:=
 some (p0==p1.1)
def c72 (N:Nat):aU:=⟨aC.cons (aE.int .i64) (aC.one (aE.agg (bF.row cB))),aE.bool,fun a=>(rU N) a.1 a.2,.pure,false⟩
theorem aG7 (N:Nat):aB tab 72 (c72 N):=aB.of aGm (cx:=(aN (aG N) [] [] [] [])) rfl (aL.make trivial trivial trivial) (fun a=>by kernel_rfl)
def fA (N:Nat) (s:((List (Int×Int×Int))×(List Int)×Int×Int)):Option (aY ((List (Int×Int×Int))×(List Int)×Int×Int) Bool):=
 bif decide (s.2.2.2<s.2.2.1) then
  (aK s.2.1 s.2.2.2).bind fun n0=>
  (aK s.1 s.2.2.2).bind fun a1=>
  ((rU N) n0 a1).bind fun b2=>
  bif !b2 then
   some (.done false)
  else
   some (.next (s.1,s.2.1,s.2.2.1,aA .i64 (s.2.2.2+1)))
 else
  some (.done true)
def cX (N:Nat) (p0:List Int) (p1:List (Int×Int×Int)) (_:Unit):Option Bool:=
 bif (Int.ofNat p0.length) !=(Int.ofNat p1.length) then
  some false
 else
  (aR N) (fA N) (p1,p0,Int.ofNat p0.length,0)
def RZ (N:Nat):aU:=⟨aC.cons (aE.sl ki) (aC.cons (aE.sl cB) (aC.one (aE.clo 72 aC.nil))),aE.bool,fun a=>(cX N) a.1 a.2.1 a.2.2,.pure,false⟩
theorem OW (N:Nat):aB tab 71 (RZ N):=aB.of aGl (cx:=(aN (aG N) [(72,(c72 N))] [] [] [])) rfl (aL.make ⟨(aG7 N),trivial⟩ trivial trivial) (fun a=>by kernel_rfl)
def tU (N:Nat) (p0:Field) (p1:Int×Int):Option Int:=
 ((gO N) p0).bind fun n0=>
 bif n0 !=0 then
  some n0
 else
  ((cZ N) p1).bind fun n1=>
  some n1
def aIq (N:Nat):aU:=⟨aC.cons (aE.agg bG) (aC.one (aE.agg (bF.row eC))),aE.int .i64,fun a=>(tU N) a.1 a.2,.pure,false⟩
theorem aBl (N:Nat):aB tab 185 (aIq N):=aB.of Y3 (cx:=(aN (aG N) [(122,(LE N)),(49,(RX N))] [] [] [])) rfl (aL.make ⟨(sP N),(mZ N),trivial⟩ trivial trivial) (fun a=>by kernel_rfl)
def lU (N:Nat) (p0:Int×Int×Int) (p1:Int):Option Int:=
 ((dA N) p0.1 p1).bind fun n0=>
 some n0
def aIr (N:Nat):aU:=⟨aC.cons (aE.agg (bF.row cB)) (aC.one (aE.int .i64)),aE.int .i64,fun a=>(lU N) a.1 a.2,.pure,false⟩
theorem aBm (N:Nat):aB tab 293 (aIr N):=aB.of aAp (cx:=(aN (aG N) [(232,(I5 N))] [] [] [])) rfl (aL.make ⟨(pK N),trivial⟩ trivial trivial) (fun a=>by kernel_rfl)
def dZ (N:Nat) (s:((List (Int×Int×Int))×Int×Int×Int×Int)):Option (aY ((List (Int×Int×Int))×Int×Int×Int×Int) (Int×Bool)):=
 bif decide (s.2.2.2.1<s.2.2.2.2) then
  (aK s.1 (aA .i64 (kB .u64 (aA .u64 (aA .i64 (s.2.2.2.1+s.2.2.2.2))) 1))).bind fun a0=>
  ((lU N) a0 s.2.1).bind fun n1=>
  bif decide (n1<0) then
   some (.next (s.1,s.2.1,s.2.2.1,aA .i64 ((aA .i64 (kB .u64 (aA .u64 (aA .i64 (s.2.2.2.1+s.2.2.2.2))) 1))+1),s.2.2.2.2))
  else
   some (.next (s.1,s.2.1,s.2.2.1,s.2.2.2.1,aA .i64 (kB .u64 (aA .u64 (aA .i64 (s.2.2.2.1+s.2.2.2.2))) 1)))
 else
  bif decide (s.2.2.2.1<s.2.2.1) then
   (aK s.1 s.2.2.2.1).bind fun a2=>
   ((lU N) a2 s.2.1).bind fun n3=>
   some (.done (s.2.2.2.1,n3==0))
  else
   some (.done (s.2.2.2.1,false))
def bX (N:Nat) (p0:List (Int×Int×Int)) (p1:Int) (_:Unit):Option (Int×Bool):=
 (aR N) (dZ N) (p0,p1,Int.ofNat p0.length,0,Int.ofNat p0.length)
def I8 (N:Nat):aU:=⟨aC.cons (aE.sl cB) (aC.cons (aE.int .i64) (aC.one (aE.clo 293 aC.nil))),aE.tup (aC.cons (aE.int .i64) (aC.one aE.bool)),fun a=>(bX N) a.1 a.2.1 a.2.2,.pure,false⟩
theorem I9 (N:Nat):aB tab 253 (I8 N):=aB.of GI (cx:=(aN (aG N) [(293,(aIr N))] [] [] [])) rfl (aL.make ⟨(aBm N),trivial⟩ trivial trivial) (fun a=>by kernel_rfl)
def lB (N:Nat) (p0:Field) (p1:Int):Option (Int×Bool):=
 ((bX N) p0.points p1 ()).bind fun a0=>
 some a0
def aG8 (N:Nat):aU:=⟨aC.cons (aE.agg bG) (aC.one (aE.int .i64)),aE.tup (aC.cons (aE.int .i64) (aC.one aE.bool)),fun a=>(lB N) a.1 a.2,.pure,false⟩
theorem NB (N:Nat):aB tab 247 (aG8 N):=aB.of Z4 (cx:=(aN (aG N) [(253,(I8 N))] [] [] [])) rfl (aL.make ⟨(I9 N),trivial⟩ trivial trivial) (fun a=>by kernel_rfl)
def yU (N:Nat) (s:((List Int)×Int×Int×(List (Int×Int×Int)))):Option (aY ((List Int)×Int×Int×(List (Int×Int×Int))) Bool):=
 bif decide (s.2.2.1<s.2.1) then
  (aK s.1 s.2.2.1).bind fun n0=>
  ((lB N) (Field.mk s.2.2.2) n0).bind fun a1=>
  bif a1.2 then
   some (.next (s.1,s.2.1,aA .i64 (s.2.2.1+1),s.2.2.2))
  else
   bif !(n0==(-1)) then
    some (.done (!(decide (0<=s.2.2.1))))
   else
    some (.next (s.1,s.2.1,aA .i64 (s.2.2.1+1),s.2.2.2))
 else
  some (.done (!(decide (0<=(-1)))))
def tV (N:Nat) (p0:Field) (p1:List Int):Option Bool:=
 (aR N) (yU N) (p1,Int.ofNat p1.length,0,p0.points)
def aIs (N:Nat):aU:=⟨aC.cons (aE.agg bG) (aC.one (aE.sl ki)),aE.bool,fun a=>(tV N) a.1 a.2,.pure,false⟩
theorem aBn (N:Nat):aB tab 186 (aIs N):=aB.of Y4 (cx:=(aN (aG N) [(247,(aG8 N))] [] [(132,OM),(200,K9),(134,IX),(201,ON),(246,WB)] [])) rfl (aL.make ⟨(NB N),trivial⟩ trivial ⟨GC,AW,wS,GG,Z3,trivial⟩) (fun a=>by kernel_rfl)
def xC (N:Nat) (p0:Int×Int×Int) (p1:Int×Int×Int) (p2:Int×Int):Option (Bool×Int):=
 ((pL N) p0 p1 p2).bind fun n0=>
 bif n0 !=0 then
  some (false,n0)
 else
  ((lT N) p0 p1 p2).bind fun n1=>
  some (decide (0<n1),0)
def aIt (N:Nat):aU:=⟨aC.cons (aE.agg (bF.row cB)) (aC.cons (aE.agg (bF.row cB)) (aC.one (aE.agg (bF.row eC)))),aE.tup (aC.cons aE.bool (aC.one (aE.int .i64))),fun a=>(xC N) a.1 a.2.1 a.2.2,.pure,false⟩
theorem aBo (N:Nat):aB tab 159 (aIt N):=aB.of YM (cx:=(aN (aG N) [(225,(aBc N)),(226,(aG5 N))] [] [] [])) rfl (aL.make ⟨(GV N),(NA N),trivial⟩ trivial trivial) (fun a=>by kernel_rfl)
def rV (N:Nat) (p0:Field) (p1:Int×Int) (p2:Int) (p3:Int):Option Int:=
 bif decide ((if p3<p2 then p3 else p2)<0) then
  some (if p3>p2 then p3 else p2)
 else
  ((lB N) p0 p2).bind fun a0=>
  ((lB N) p0 p3).bind fun a1=>
  (aK p0.points a0.1).bind fun a2=>
  (aK p0.points a1.1).bind fun a3=>
  ((xC N) a2 a3 p1).bind fun a4=>
  bif a4.1 then
   some p2
  else
   some p3
def aIu (N:Nat):aU:=⟨aC.cons (aE.agg bG) (aC.cons (aE.agg (bF.row eC)) (aC.cons (aE.int .i64) (aC.one (aE.int .i64)))),aE.int .i64,fun a=>(rV N) a.1 a.2.1 a.2.2.1 a.2.2.2,.pure,false⟩
theorem aBp (N:Nat):aB tab 187 (aIu N):=aB.of Y5 (cx:=(aN (aG N) [(247,(aG8 N)),(159,(aIt N))] [] [] [])) rfl (aL.make ⟨(NB N),(aBo N),trivial⟩ trivial trivial) (fun a=>by kernel_rfl)
def yV (N:Nat) (s:(Int×(List (Int×Int×Int))×Int×Int×(List Int)×(List Int))):Option (aY (Int×(List (Int×Int×Int))×Int×Int×(List Int)×(List Int)) (aP×Int)):=
 bif decide (0<=s.1) then
  ((eU N) (aP.mk s.2.2.2.2.1 s.2.2.2.2.2) (aA .i64 ((aA .i64 (2*s.1))+1))).bind fun n0=>
  ((eU N) (aP.mk s.2.2.2.2.1 s.2.2.2.2.2) (aA .i64 ((aA .i64 (2*s.1))+2))).bind fun n1=>
  ((rV N) (Field.mk s.2.1) (s.2.2.1,s.2.2.2.1) n0 n1).bind fun n2=>
  (aK s.2.2.2.2.2 s.1).bind fun _=>
  some (.next (aA .i64 (s.1-1),s.2.1,s.2.2.1,s.2.2.2.1,s.2.2.2.2.1,bM s.2.2.2.2.2 s.1 n2))
 else
  some (.done (aP.mk s.2.2.2.2.1 s.2.2.2.2.2,0))
def oF (N:Nat) (s:(Int×(List (Int×Int×Int))×Int×Int×(List Int)×(List Int))):Option (aY (Int×(List (Int×Int×Int))×Int×Int×(List Int)×(List Int)) (aY ((List Int)×Int×Int×(List (Int×Int×Int))×Int×Int×(List (Int×Bool))) (aP×Int))):=
 bif decide (0<=s.1) then
  ((eU N) (aP.mk s.2.2.2.2.1 s.2.2.2.2.2) (aA .i64 ((aA .i64 (2*s.1))+1))).bind fun n0=>
  ((eU N) (aP.mk s.2.2.2.2.1 s.2.2.2.2.2) (aA .i64 ((aA .i64 (2*s.1))+2))).bind fun n1=>
  ((rV N) (Field.mk s.2.1) (s.2.2.1,s.2.2.2.1) n0 n1).bind fun n2=>
  (aK s.2.2.2.2.2 s.1).bind fun _=>
  some (.next (aA .i64 (s.1-1),s.2.1,s.2.2.1,s.2.2.2.1,s.2.2.2.2.1,bM s.2.2.2.2.2 s.1 n2))
 else
  some (.done (.done (aP.mk s.2.2.2.2.1 s.2.2.2.2.2,0)))
def yW (N:Nat) (c0:Int) (c1:(List Int)) (s:((List Int)×Int×Int×(List (Int×Int×Int))×Int×Int×(List (Int×Bool)))):Option (aY ((List Int)×Int×Int×(List (Int×Int×Int))×Int×Int×(List (Int×Bool))) (aP×Int)):=
 bif decide (s.2.2.1<s.2.1) then
  (aK s.1 s.2.2.1).bind fun n0=>
  bif !(!(tC false s.2.2.2.2.2.2 n0)) then
   bif !(!(decide (0<=s.2.2.1))) then
    some (.done (aP.mk [] [],14))
   else
    bif c0 !=0 then
     some (.done (aP.mk [] [],c0))
    else
     (bB c1).bind fun l1=>
     bif (aA .i64 ((Int.ofNat c1.length) -1))==(aA .i64 ((Int.ofNat c1.length) -1)) then
      (nS (aA .i64 ((Int.ofNat c1.length) -1)) (0:Int)).bind fun l2=>
      (aR N) (oF N) (aA .i64 ((Int.ofNat l2.length) -1),s.2.2.2.1,s.2.2.2.2.1,s.2.2.2.2.2.1,l1,l2)
     else
      none
  else
   some (.next (s.1,s.2.1,aA .i64 (s.2.2.1+1),s.2.2.2.1,s.2.2.2.2.1,s.2.2.2.2.2.1,nT s.2.2.2.2.2.2 n0 (decide (0<=n0))))
 else
  bif c0 !=0 then
   some (.done (aP.mk [] [],c0))
  else
   (bB c1).bind fun l3=>
   bif (aA .i64 ((Int.ofNat c1.length) -1))==(aA .i64 ((Int.ofNat c1.length) -1)) then
    (nS (aA .i64 ((Int.ofNat c1.length) -1)) (0:Int)).bind fun l4=>
    (aR N) (oF N) (aA .i64 ((Int.ofNat l4.length) -1),s.2.2.2.1,s.2.2.2.2.1,s.2.2.2.2.2.1,l3,l4)
   else
    none
def tX (N:Nat) (p0:Field) (p1:Int×Int) (p2:List Int):Option (aP×Int):=
 ((tU N) p0 p1).bind fun n0=>
 bif n0 !=0 then
  bif n0 !=0 then
   some (aP.mk [] [],n0)
  else
   (bB p2).bind fun l1=>
   bif (aA .i64 ((Int.ofNat p2.length) -1))==(aA .i64 ((Int.ofNat p2.length) -1)) then
    (nS (aA .i64 ((Int.ofNat p2.length) -1)) (0:Int)).bind fun l2=>
    (aR N) (yV N) (aA .i64 ((Int.ofNat l2.length) -1),p0.points,p1.1,p1.2,l1,l2)
   else
    none
 else
  bif decide ((Int.ofNat p2.length)<1) then
   some (aP.mk [] [],2)
  else
   bif decide (64<(Int.ofNat p2.length)) then
    some (aP.mk [] [],2)
   else
    ((tV N) p0 p2).bind fun b3=>
    bif !b3 then
     some (aP.mk [] [],6)
    else
     (aR N) ((yW N) n0 p2) (p2,Int.ofNat p2.length,0,p0.points,p1.1,p1.2,nT [] (-1) false)
def aIv (N:Nat):aU:=⟨aC.cons (aE.agg bG) (aC.cons (aE.agg (bF.row eC)) (aC.one (aE.sl ki))),aE.tup (aC.cons (aE.agg cN) (aC.one (aE.int .i64))),fun a=>(tX N) a.1 a.2.1 a.2.2,.frz,false⟩
theorem aBq (N:Nat):aB tab 115 (aIv N):=aB.of X2 (cx:=(aN (aG N) [(185,(aIq N)),(186,(aIs N)),(67,aU.clone ki),(126,(aBk N)),(187,(aIu N))] [] [(131,Q1),(132,OM),(200,K9),(134,IX),(201,ON),(199,Q2)] [])) rfl (aL.make ⟨(aBl N),(aBn N),iV,(GX N),(aBp N),trivial⟩ trivial ⟨MN,GC,AW,wS,GG,MS,trivial⟩) (fun a=>by kernel_rfl)
def D5 (_:Nat) (p0:Int) (p1:aP):Option Int:=
 bif decide (p0<(Int.ofNat p1.wins.length)) then
  (aK p1.wins p0).bind fun n0=>
  some n0
 else
  (aK p1.places (aA .i64 (p0- (Int.ofNat p1.wins.length)))).bind fun n1=>
  some n1
def aIw (N:Nat):aU:=⟨aC.cons (aE.int .i64) (aC.one (aE.ref cN)),aE.int .i64,fun a=>(D5 N) a.1 a.2,.pure,false⟩
theorem aBr (N:Nat):aB tab 116 (aIw N):=aB.of ML (cx:=(aN (aG N) [] [] [] [])) rfl (aL.make trivial trivial trivial) (fun a=>by kernel_rfl)
def DF (_:Nat) (s:((List Int)×Int×Int×(List Int)×(List Int)×(List (Int×Int)))):Option (aY ((List Int)×Int×Int×(List Int)×(List Int)×(List (Int×Int))) (aP×(List (Int×Int)))):=
 bif decide (s.2.2.1<s.2.1) then
  (aK s.1 s.2.2.1).bind fun n0=>
  bif decide ((aA .i64 ((aA .i64 (2*s.2.2.1))+1))<(Int.ofNat s.2.2.2.2.1.length)) then
   (aK s.2.2.2.2.1 (aA .i64 ((aA .i64 (2*s.2.2.1))+1))).bind fun n1=>
   bif s.2.2.2.2.2.length==s.2.2.2.2.2.length then
    bif decide ((aA .i64 ((aA .i64 (2*s.2.2.1))+2))<(Int.ofNat s.2.2.2.2.1.length)) then
     (aK s.2.2.2.2.1 (aA .i64 ((aA .i64 (2*s.2.2.1))+2))).bind fun n2=>
     bif s.2.2.2.2.2.length==s.2.2.2.2.2.length then
      bif decide (0<=n1) then
       bif decide (0<=n2) then
        (bD s.2.2.2.2.2 [(aA .i64 ((aA .i64 (n1+n2)) -n0),n0)]).bind fun l3=>
        some (.next (s.1,s.2.1,aA .i64 (s.2.2.1+1),s.2.2.2.1,s.2.2.2.2.1,l3))
       else
        some (.next (s.1,s.2.1,aA .i64 (s.2.2.1+1),s.2.2.2))
      else
       some (.next (s.1,s.2.1,aA .i64 (s.2.2.1+1),s.2.2.2))
     else
      none
    else
     (aK s.2.2.2.1 (aA .i64 ((aA .i64 ((aA .i64 (2*s.2.2.1))+2)) - (Int.ofNat s.2.2.2.2.1.length)))).bind fun n4=>
     bif s.2.2.2.2.2.length==s.2.2.2.2.2.length then
      bif decide (0<=n1) then
       bif decide (0<=n4) then
        (bD s.2.2.2.2.2 [(aA .i64 ((aA .i64 (n1+n4)) -n0),n0)]).bind fun l5=>
        some (.next (s.1,s.2.1,aA .i64 (s.2.2.1+1),s.2.2.2.1,s.2.2.2.2.1,l5))
       else
        some (.next (s.1,s.2.1,aA .i64 (s.2.2.1+1),s.2.2.2))
      else
       some (.next (s.1,s.2.1,aA .i64 (s.2.2.1+1),s.2.2.2))
     else
      none
   else
    none
  else
   (aK s.2.2.2.1 (aA .i64 ((aA .i64 ((aA .i64 (2*s.2.2.1))+1)) - (Int.ofNat s.2.2.2.2.1.length)))).bind fun n6=>
   bif s.2.2.2.2.2.length==s.2.2.2.2.2.length then
    bif decide ((aA .i64 ((aA .i64 (2*s.2.2.1))+2))<(Int.ofNat s.2.2.2.2.1.length)) then
     (aK s.2.2.2.2.1 (aA .i64 ((aA .i64 (2*s.2.2.1))+2))).bind fun n7=>
     bif s.2.2.2.2.2.length==s.2.2.2.2.2.length then
      bif decide (0<=n6) then
       bif decide (0<=n7) then
        (bD s.2.2.2.2.2 [(aA .i64 ((aA .i64 (n6+n7)) -n0),n0)]).bind fun l8=>
        some (.next (s.1,s.2.1,aA .i64 (s.2.2.1+1),s.2.2.2.1,s.2.2.2.2.1,l8))
       else
        some (.next (s.1,s.2.1,aA .i64 (s.2.2.1+1),s.2.2.2))
      else
       some (.next (s.1,s.2.1,aA .i64 (s.2.2.1+1),s.2.2.2))
     else
      none
    else
     (aK s.2.2.2.1 (aA .i64 ((aA .i64 ((aA .i64 (2*s.2.2.1))+2)) - (Int.ofNat s.2.2.2.2.1.length)))).bind fun n9=>
     bif s.2.2.2.2.2.length==s.2.2.2.2.2.length then
      bif decide (0<=n6) then
       bif decide (0<=n9) then
        (bD s.2.2.2.2.2 [(aA .i64 ((aA .i64 (n6+n9)) -n0),n0)]).bind fun l10=>
        some (.next (s.1,s.2.1,aA .i64 (s.2.2.1+1),s.2.2.2.1,s.2.2.2.2.1,l10))
       else
        some (.next (s.1,s.2.1,aA .i64 (s.2.2.1+1),s.2.2.2))
      else
       some (.next (s.1,s.2.1,aA .i64 (s.2.2.1+1),s.2.2.2))
     else
      none
   else
    none
 else
  some (.done (aP.mk s.2.2.2.1 s.2.2.2.2.1,s.2.2.2.2.2))
def kG (N:Nat) (p0:Field) (p1:Int×Int) (p2:List Int):Option (aP×(List (Int×Int))):=
 ((tX N) p0 p1 p2).bind fun a0=>
 (aR N) (DF N) (a0.1.wins,Int.ofNat a0.1.wins.length,0,a0.1.places,a0.1.wins,[])
def c54 (N:Nat):aU:=⟨aC.cons (aE.agg bG) (aC.cons (aE.agg (bF.row eC)) (aC.one (aE.sl ki))),aE.tup (aC.cons (aE.agg cN) (aC.one (aE.sl eC))),fun a=>(kG N) a.1 a.2.1 a.2.2,.frz,false⟩
theorem GY (N:Nat):aB tab 54 (c54 N):=aB.of aF8 (cx:=(aN (aG N) [(115,(aIv N)),(116,(aIw N))] [] [(116,TV)] [])) rfl (aL.make ⟨(aBq N),(aBr N),trivial⟩ trivial ⟨ML,trivial⟩) (fun a=>by kernel_rfl)
def sU (_:Nat) (s:((List Int)×(List Int)×Int×Int)):Option (aY ((List Int)×(List Int)×Int×Int) Bool):=
 bif decide (s.2.2.2<s.2.2.1) then
  (aK s.1 s.2.2.2).bind fun n0=>
  (aK s.2.1 s.2.2.2).bind fun n1=>
  bif n0 !=n1 then
   some (.done false)
  else
   some (.next (s.1,s.2.1,s.2.2.1,aA .i64 (s.2.2.2+1)))
 else
  some (.done true)
def oG (N:Nat) (p0:List Int) (p1:List Int):Option Bool:=
 bif (Int.ofNat p0.length) !=(Int.ofNat p1.length) then
  some false
 else
  (aR N) (sU N) (p0,p1,Int.ofNat p0.length,0)
def c73 (N:Nat):aU:=⟨aC.cons (aE.sl ki) (aC.one (aE.sl ki)),aE.bool,fun a=>(oG N) a.1 a.2,.pure,false⟩
theorem aG9 (N:Nat):aB tab 73 (c73 N):=aB.of aGn (cx:=(aN (aG N) [] [] [] [])) rfl (aL.make trivial trivial trivial) (fun a=>by kernel_rfl)
def rW (_:Nat) (s:((List (Int×Int))×Int×Int×Int×Int)):Option (aY ((List (Int×Int))×Int×Int×Int×Int) Int):=
 bif decide (s.2.2.1<s.2.1) then
  (aK s.1 s.2.2.1).bind fun a0=>
  bif (s.2.2.2.1==a0.1)&&(s.2.2.2.2==a0.2) then
   some (.done s.2.2.1)
  else
   some (.next (s.1,s.2.1,aA .i64 (s.2.2.1+1),s.2.2.2))
 else
  some (.done (-1))
def mQ (N:Nat) (p0:List (Int×Int)) (p1:Int×Int):Option Int:=
 (aR N) (rW N) (p0,Int.ofNat p0.length,0,p1)
def aIy (N:Nat):aU:=⟨aC.cons (aE.sl eC) (aC.one (aE.agg (bF.row eC))),aE.int .i64,fun a=>(mQ N) a.1 a.2,.pure,false⟩
theorem aBs (N:Nat):aB tab 213 (aIy N):=aB.of ZE (cx:=(aN (aG N) [] [] [] [])) rfl (aL.make trivial trivial trivial) (fun a=>by kernel_rfl)
def eV (N:Nat) (p0:List (Int×Int)) (p1:Int×Int):Option Bool:=
 ((mQ N) p0 p1).bind fun n0=>
 some (decide (0<=n0))
def R0 (N:Nat):aU:=⟨aC.cons (aE.sl eC) (aC.one (aE.agg (bF.row eC))),aE.bool,fun a=>(eV N) a.1 a.2,.pure,false⟩
theorem AZ (N:Nat):aB tab 138 (R0 N):=aB.of YC (cx:=(aN (aG N) [(213,(aIy N))] [] [] [])) rfl (aL.make ⟨(aBs N),trivial⟩ trivial trivial) (fun a=>by kernel_rfl)
def tY (N:Nat) (p0:Int×Int×Int) (p1:List (Int×Int)):Option Bool:=
 ((eV N) p1 p0.2).bind fun b0=>
 some (!b0)
def aIz (N:Nat):aU:=⟨aC.cons (aE.agg (bF.row cB)) (aC.one (aE.ref (bF.sl eC))),aE.bool,fun a=>(tY N) a.1 a.2,.pure,false⟩
theorem aBt (N:Nat):aB tab 137 (aIz N):=aB.of MO (cx:=(aN (aG N) [(138,(R0 N))] [] [] [])) rfl (aL.make ⟨(AZ N),trivial⟩ trivial trivial) (fun a=>by kernel_rfl)
def gF (N:Nat) (s:((List (Int×Int×Int))×(List (Int×Int))×Int×Int)):Option (aY ((List (Int×Int×Int))×(List (Int×Int))×Int×Int) Int):=
 bif decide (s.2.2.2<s.2.2.1) then
  (aK s.1 s.2.2.2).bind fun a0=>
  ((tY N) a0 s.2.1).bind fun b1=>
  bif b1 then
   some (.done s.2.2.2)
  else
   some (.next (s.1,s.2.1,s.2.2.1,aA .i64 (s.2.2.2+1)))
 else
  some (.done (-1))
def dV (N:Nat) (p0:List (Int×Int×Int)) (p1:(List (Int×Int))):Option Int:=
 (aR N) (gF N) (p0,p1,Int.ofNat p0.length,0)
def JA (N:Nat):aU:=⟨aC.cons (aE.sl cB) (aC.one (aE.clo 137 (aC.one (aE.ref (bF.sl eC))))),aE.int .i64,fun a=>(dV N) a.1 a.2,.pure,false⟩
theorem JB (N:Nat):aB tab 214 (JA N):=aB.of GH (cx:=(aN (aG N) [(137,(aIz N)),(138,(R0 N))] [] [(137,T9)] [])) rfl (aL.make ⟨(aBt N),(AZ N),trivial⟩ trivial ⟨MO,trivial⟩) (fun a=>by kernel_rfl)
def dE (N:Nat) (p0:List (Int×Int×Int)) (p1:(List (Int×Int))):Option Bool:=
 ((dV N) p0 p1).bind fun n0=>
 some (decide (0<=n0))
def JC (N:Nat):aU:=⟨aC.cons (aE.sl cB) (aC.one (aE.clo 137 (aC.one (aE.ref (bF.sl eC))))),aE.bool,fun a=>(dE N) a.1 a.2,.pure,false⟩
theorem JD (N:Nat):aB tab 139 (JC N):=aB.of GD (cx:=(aN (aG N) [(214,(JA N))] [] [] [])) rfl (aL.make ⟨(JB N),trivial⟩ trivial trivial) (fun a=>by kernel_rfl)
def zY (N:Nat) (p0:aJ) (p1:List (Int×Int)):Option Bool:=
 bif (Int.ofNat p1.length)==(Int.ofNat p0.certs.list.length) then
  ((dE N) p0.certs.list p1).bind fun b0=>
  some (!b0)
 else
  some false
def c74 (N:Nat):aU:=⟨aC.cons (aE.agg aZ) (aC.one (aE.sl eC)),aE.bool,fun a=>(zY N) a.1 a.2,.pure,false⟩
theorem aHa (N:Nat):aB tab 74 (c74 N):=aB.of aGo (cx:=(aN (aG N) [(139,(JC N))] [] [] [])) rfl (aL.make ⟨(JD N),trivial⟩ trivial trivial) (fun a=>by kernel_rfl)
def lV (_:Nat) (p0:Int):Option Bool:=
 some (decide (p0<0))
def c69 (N:Nat):aU:=⟨aC.one (aE.int .i64),aE.bool,fun a=>(lV N) a,.pure,false⟩
theorem aHb (N:Nat):aB tab 69 (c69 N):=aB.of aGj (cx:=(aN (aG N) [] [] [] [])) rfl (aL.make trivial trivial trivial) (fun a=>by kernel_rfl)
def eY (N:Nat) (c0:(List Int)) (s:(Int×Int×(List Int))):Option (aY (Int×Int×(List Int)) (aY (Int×Int×(List Int)) (Nat×Nat×(List Int)))):=
 bif decide (s.2.1<(Int.ofNat s.2.2.length)) then
  (aK s.2.2 s.2.1).bind fun n0=>
  ((lV N) n0).bind fun b1=>
  bif !b1 then
   (aK s.2.2 s.1).bind fun _=>
   some (.next (aA .i64 (s.1+1),aA .i64 (s.2.1+1),bM s.2.2 s.1 n0))
  else
   some (.next (s.1,aA .i64 (s.2.1+1),s.2.2))
 else
  bif ((decide (0<=s.1))&&(decide (s.1<=(Int.ofNat s.2.2.length))))&&(decide ((Int.ofNat s.2.2.length)<=(Int.ofNat s.2.2.length))) then
   bif Nat.beq (((Int.ofNat s.2.2.length).toNat) -s.1.toNat) 0 then
    (fZ s.2.2 0 s.1).bind fun _=>
    bif s.2.2.length==c0.length then
     some (.done (.done (s.1.toNat,s.2.2.length,s.2.2)))
    else
     none
   else
    bif (Nat.ble ((0+s.1.toNat)+(((Int.ofNat s.2.2.length).toNat) -s.1.toNat)) s.2.2.length)&&(!false) then
     (fZ (eN s.2.2 (0+s.1.toNat) (List.replicate (((Int.ofNat s.2.2.length).toNat) -s.1.toNat) 0)) 0 s.1).bind fun _=>
     bif ((eN s.2.2 (0+s.1.toNat) (List.replicate (((Int.ofNat s.2.2.length).toNat) -s.1.toNat) 0)).length)==c0.length then
      some (.done (.done (s.1.toNat,(eN s.2.2 (0+s.1.toNat) (List.replicate (((Int.ofNat s.2.2.length).toNat) -s.1.toNat) 0)).length,eN s.2.2 (0+s.1.toNat) (List.replicate (((Int.ofNat s.2.2.length).toNat) -s.1.toNat) 0))))
     else
      none
    else
     none
  else
   none
def eZ (N:Nat) (c0:(List Int)) (s:(Int×Int×(List Int))):Option (aY (Int×Int×(List Int)) (Nat×Nat×(List Int))):=
 bif decide (s.2.1<s.1) then
  (aK s.2.2 s.2.1).bind fun n0=>
  ((lV N) n0).bind fun b1=>
  bif b1 then
   bif s.2.2.length==c0.length then
    bif s.2.1==(-1) then
     bif s.2.2.length==c0.length then
      some (.done (s.2.2.length,s.2.2.length,s.2.2))
     else
      none
    else
     (aR N) ((eY N) c0) (s.2.1,aA .i64 (s.2.1+1),s.2.2)
   else
    none
  else
   some (.next (s.1,aA .i64 (s.2.1+1),s.2.2))
 else
  bif s.2.2.length==c0.length then
   bif s.2.2.length==c0.length then
    some (.done (s.2.2.length,s.2.2.length,s.2.2))
   else
    none
  else
   none
def cQ (N:Nat) (a:(List Int)):Option (Nat×Nat×(List Int)):=
 (aR N) ((eZ N) a) (Int.ofNat a.length,0,a)
def aCo (N:Nat):bV:=⟨[.l [.i .i64]],[.own 0 false,.clo 69 [] []],[.arr [.i .i64] []],[.n,.n,.l [.i .i64]],.pre 0 0 0 false,[.arr [.i .i64] []],fun a=>(cQ N) a⟩
theorem R1 (N:Nat):fW tab 68 (aCo N):=fW.of aGi (wd:=true) (cx:=(aN (aG N) [(69,(c69 N))] [] [(134,IX)] [])) (aL.make ⟨(aHb N),trivial⟩ trivial ⟨wS,trivial⟩) (fun a=>by kernel_rfl)
def dH (N:Nat) (p0:aT):Option Int:=
 ((gQ N) p0.clock).bind fun n0=>
 bif n0 !=0 then
  some 8
 else
  ((nC N) p0.bracket).bind fun n1=>
  bif n1 !=0 then
   some 8
  else
   bif (DX .i64 (Int.ofNat p0.bracket.places.length) (aA .i64 ((Int.ofNat p0.bracket.places.length) -1))) !=0 then
    some 8
   else
    (bB p0.bracket.places).bind fun l2=>
    ((cQ N) l2).bind fun a3=>
    (AT PS a3.1 a3.2.2).bind fun l4=>
    bif l4.length==a3.2.2.length then
     ((cX N) (l4.take a3.1) p0.clock.field.points ()).bind fun b5=>
     bif !b5 then
      some 8
     else
      ((kG N) p0.clock.field p0.clock.now p0.bracket.places).bind fun a6=>
      ((oG N) a6.1.wins p0.bracket.wins).bind fun b7=>
      bif !b7 then
       some 8
      else
       ((zY N) p0.clock a6.2).bind fun b8=>
       bif !b8 then
        some 8
       else
        some 0
    else
     none
def c23 (N:Nat):aU:=⟨aC.one (aE.agg fI),aE.int .i64,fun a=>(dH N) a,.pure,false⟩
theorem GZ (N:Nat):aB tab 23 (c23 N):=aB.of aFP (cx:=(aN (aG N) [(65,(c65 N)),(66,(c66 N)),(67,aU.clone ki),(71,(RZ N)),(54,(c54 N)),(73,(c73 N)),(74,(c74 N))] [(68,(aCo N))] [(70,.srt KP)] [])) rfl (aL.make ⟨(yS N),(RY N),iV,(OW N),(GY N),(aG9 N),(aHa N),trivial⟩ ⟨(R1 N),trivial⟩ ⟨aGk,trivial⟩) (fun a=>by kernel_rfl)
def fS (N:Nat) (p0:aT):Option ((List (Int×Int))×Int):=
 ((dH N) p0).bind fun n0=>
 bif n0 !=0 then
  some ([],n0)
 else
  ((kG N) p0.clock.field p0.clock.now p0.bracket.places).bind fun a1=>
  some (a1.2,0)
def c19 (N:Nat):aU:=⟨aC.one (aE.agg fI),aE.tup (aC.cons (aE.sl eC) (aC.one (aE.int .i64))),fun a=>(fS N) a,.frz,false⟩
theorem aHc (N:Nat):aB tab 19 (c19 N):=aB.of aFN (cx:=(aN (aG N) [(23,(c23 N)),(54,(c54 N))] [] [] [])) rfl (aL.make ⟨(GZ N),(GY N),trivial⟩ trivial trivial) (fun a=>by kernel_rfl)
def rX (N:Nat) (p0:aP):Option (Int×Int):=
 ((nC N) p0).bind fun n0=>
 bif n0 !=0 then
  some (0,n0)
 else
  ((eU N) p0 0).bind fun n1=>
  bif decide (0<=n1) then
   some (n1,0)
  else
   some (0,42)
def c63 (N:Nat):aU:=⟨aC.one (aE.agg cN),aE.tup (aC.cons (aE.int .i64) (aC.one (aE.int .i64))),fun a=>(rX N) a,.pure,false⟩
theorem aHd (N:Nat):aB tab 63 (c63 N):=aB.of aGe (cx:=(aN (aG N) [(66,(c66 N)),(126,(aBk N))] [] [] [])) rfl (aL.make ⟨(RY N),(GX N),trivial⟩ trivial trivial) (fun a=>by kernel_rfl)
def dI (N:Nat) (p0:aT):Option (Int×Int):=
 ((dH N) p0).bind fun n0=>
 bif n0 !=0 then
  some (0,n0)
 else
  ((rX N) p0.bracket).bind fun a1=>
  some a1
def c21 (N:Nat):aU:=⟨aC.one (aE.agg fI),aE.tup (aC.cons (aE.int .i64) (aC.one (aE.int .i64))),fun a=>(dI N) a,.pure,false⟩
theorem R2 (N:Nat):aB tab 21 (c21 N):=aB.of aFO (cx:=(aN (aG N) [(23,(c23 N)),(63,(c63 N))] [] [] [])) rfl (aL.make ⟨(GZ N),(aHd N),trivial⟩ trivial trivial) (fun a=>by kernel_rfl)
def DG (N:Nat) (p0:aH):Option ((Int×Int×Int×Int×Int)×Int):=
 ((gT N) p0).bind fun n0=>
 bif n0 !=0 then
  some ((0,0,0,0,0),n0)
 else
  bif (Int.ofNat p0.heap.length)==0 then
   some ((0,0,0,0,0),42)
  else
   (aK p0.heap 0).bind fun a1=>
   some (a1,0)
def aIB (N:Nat):aU:=⟨aC.one (aE.agg bT),aE.tup (aC.cons (aE.agg (bF.row fH)) (aC.one (aE.int .i64))),fun a=>(DG N) a,.pure,false⟩
theorem aBu (N:Nat):aB tab 173 (aIB N):=aB.of YS (cx:=(aN (aG N) [(129,(OV N))] [] [] [])) rfl (aL.make ⟨(xA N),trivial⟩ trivial trivial) (fun a=>by kernel_rfl)
def rY (N:Nat) (p0:aJ) (p1:Int×Int):Option (Bool×Int):=
 ((gQ N) p0).bind fun n0=>
 ((cZ N) p1).bind fun n1=>
 bif (if n1>n0 then n1 else n0) !=0 then
  some (false,if n1>n0 then n1 else n0)
 else
  ((oC N) p1 p0.now).bind fun a2=>
  bif decide (a2.1<0) then
   some (false,44)
  else
   ((DG N) p0.agenda).bind fun a3=>
   bif a3.2 !=0 then
    some (false,0)
   else
    ((oC N) (a3.1.1,a3.1.2.1) p1).bind fun a4=>
    some (decide (a4.1<=0),0)
def aHe (N:Nat):aU:=⟨aC.cons (aE.agg aZ) (aC.one (aE.agg (bF.row eC))),aE.tup (aC.cons aE.bool (aC.one (aE.int .i64))),fun a=>(rY N) a.1 a.2,.pure,false⟩
theorem NC (N:Nat):aB tab 111 (aHe N):=aB.of XZ (cx:=(aN (aG N) [(65,(c65 N)),(49,(RX N)),(50,(c50 N)),(173,(aIB N))] [] [] [])) rfl (aL.make ⟨(yS N),(mZ N),(LF N),(aBu N),trivial⟩ trivial trivial) (fun a=>by kernel_rfl)
def rZ (N:Nat) (p0:Int×Int×Int) (p1:Int):Option Int:=
 ((dA N) p0.1 p1).bind fun n0=>
 some n0
def aIC (N:Nat):aU:=⟨aC.cons (aE.agg (bF.row cB)) (aC.one (aE.int .i64)),aE.int .i64,fun a=>(rZ N) a.1 a.2,.pure,false⟩
theorem aBv (N:Nat):aB tab 283 (aIC N):=aB.of aAh (cx:=(aN (aG N) [(232,(I5 N))] [] [] [])) rfl (aL.make ⟨(pK N),trivial⟩ trivial trivial) (fun a=>by kernel_rfl)
def eO (N:Nat) (s:((List (Int×Int×Int))×Int×Int×Int×Int)):Option (aY ((List (Int×Int×Int))×Int×Int×Int×Int) (Int×Bool)):=
 bif decide (s.2.2.2.1<s.2.2.2.2) then
  (aK s.1 (aA .i64 (kB .u64 (aA .u64 (aA .i64 (s.2.2.2.1+s.2.2.2.2))) 1))).bind fun a0=>
  ((rZ N) a0 s.2.1).bind fun n1=>
  bif decide (n1<0) then
   some (.next (s.1,s.2.1,s.2.2.1,aA .i64 ((aA .i64 (kB .u64 (aA .u64 (aA .i64 (s.2.2.2.1+s.2.2.2.2))) 1))+1),s.2.2.2.2))
  else
   some (.next (s.1,s.2.1,s.2.2.1,s.2.2.2.1,aA .i64 (kB .u64 (aA .u64 (aA .i64 (s.2.2.2.1+s.2.2.2.2))) 1)))
 else
  bif decide (s.2.2.2.1<s.2.2.1) then
   (aK s.1 s.2.2.2.1).bind fun a2=>
   ((rZ N) a2 s.2.1).bind fun n3=>
   some (.done (s.2.2.2.1,n3==0))
  else
   some (.done (s.2.2.2.1,false))
def cK (N:Nat) (p0:List (Int×Int×Int)) (p1:Int) (_:Unit):Option (Int×Bool):=
 (aR N) (eO N) (p0,p1,Int.ofNat p0.length,0,Int.ofNat p0.length)
def JE (N:Nat):aU:=⟨aC.cons (aE.sl cB) (aC.cons (aE.int .i64) (aC.one (aE.clo 283 aC.nil))),aE.tup (aC.cons (aE.int .i64) (aC.one aE.bool)),fun a=>(cK N) a.1 a.2.1 a.2.2,.pure,false⟩
theorem JF (N:Nat):aB tab 282 (JE N):=aB.of aAg (cx:=(aN (aG N) [(283,(aIC N))] [] [] [])) rfl (aL.make ⟨(aBv N),trivial⟩ trivial trivial) (fun a=>by kernel_rfl)
def E9 (N:Nat) (p0:aQ) (p1:Int):Option (Int×Int):=
 ((pI N) p0).bind fun n0=>
 bif n0 !=0 then
  some (0,n0)
 else
  ((cK N) p0.list p1 ()).bind fun a1=>
  bif !a1.2 then
   some (0,6)
  else
   some (a1.1,0)
def aID (N:Nat):aU:=⟨aC.cons (aE.agg eT) (aC.one (aE.int .i64)),aE.tup (aC.cons (aE.int .i64) (aC.one (aE.int .i64))),fun a=>(E9 N) a.1 a.2,.pure,false⟩
theorem aBw (N:Nat):aB tab 234 (aID N):=aB.of ZS (cx:=(aN (aG N) [(128,(aAX N)),(282,(JE N))] [] [] [])) rfl (aL.make ⟨(GQ N),(JF N),trivial⟩ trivial trivial) (fun a=>by kernel_rfl)
def iN (_:Nat) (a:(Int×Int×(List (Int×Int×Int)))):Option (Nat×Nat×(List (Int×Int×Int))):=
 bif (((decide (0<=a.1))&&(decide (a.1<=a.2.1)))&&(decide (a.2.1<=(Int.ofNat a.2.2.length))))&&(decide ((Int.ofNat a.2.2.length)<=(Int.ofNat a.2.2.length))) then
  bif a.1==a.2.1 then
   bif a.2.2.length==a.2.2.length then
    some (a.2.2.length,a.2.2.length,a.2.2)
   else
    none
  else
   (fZ a.2.2 0 a.1).bind fun _=>
   bif ((decide (0<=a.2.1))&&(decide (a.2.1<=(Int.ofNat a.2.2.length))))&&(decide ((Int.ofNat a.2.2.length)<=(Int.ofNat a.2.2.length))) then
    bif ((a.2.2.drop (0+a.2.1.toNat)).take (((Int.ofNat a.2.2.length).toNat) -a.2.1.toNat)).isEmpty then
     bif ((decide (0<=(Int.ofNat a.1.toNat)))&&(decide ((Int.ofNat a.1.toNat)<=(Int.ofNat a.2.2.length))))&&(decide ((Int.ofNat a.2.2.length)<=(Int.ofNat a.2.2.length))) then
      bif Nat.beq (((Int.ofNat a.2.2.length).toNat) - ((Int.ofNat a.1.toNat).toNat)) 0 then
       bif a.2.2.length==a.2.2.length then
        some (a.1.toNat,a.2.2.length,a.2.2)
       else
        none
      else
       bif (Nat.ble ((0+((Int.ofNat a.1.toNat).toNat))+(((Int.ofNat a.2.2.length).toNat) - ((Int.ofNat a.1.toNat).toNat))) a.2.2.length)&&(!false) then
        bif ((eN a.2.2 (0+((Int.ofNat a.1.toNat).toNat)) (List.replicate (((Int.ofNat a.2.2.length).toNat) - ((Int.ofNat a.1.toNat).toNat)) (0,0,0))).length)==a.2.2.length then
         some (a.1.toNat,a.2.2.length,eN a.2.2 (0+((Int.ofNat a.1.toNat).toNat)) (List.replicate (((Int.ofNat a.2.2.length).toNat) - ((Int.ofNat a.1.toNat).toNat)) (0,0,0)))
        else
         none
       else
        none
     else
      none
    else
     bif Nat.ble (a.1.toNat+(((a.2.2.drop (0+a.2.1.toNat)).take (((Int.ofNat a.2.2.length).toNat) -a.2.1.toNat)).length)) a.2.2.length then
      bif (Nat.ble (a.1.toNat+(((a.2.2.drop (0+a.2.1.toNat)).take (((Int.ofNat a.2.2.length).toNat) -a.2.1.toNat)).length)) a.2.2.length)&&(!false) then
       bif ((decide (0<=(Int.ofNat (a.1.toNat+(((a.2.2.drop (0+a.2.1.toNat)).take (((Int.ofNat a.2.2.length).toNat) -a.2.1.toNat)).length)))))&&(decide ((Int.ofNat (a.1.toNat+(((a.2.2.drop (0+a.2.1.toNat)).take (((Int.ofNat a.2.2.length).toNat) -a.2.1.toNat)).length)))<=(Int.ofNat a.2.2.length))))&&(decide ((Int.ofNat a.2.2.length)<=(Int.ofNat a.2.2.length))) then
        bif Nat.beq (((Int.ofNat a.2.2.length).toNat) - ((Int.ofNat (a.1.toNat+(((a.2.2.drop (0+a.2.1.toNat)).take (((Int.ofNat a.2.2.length).toNat) -a.2.1.toNat)).length))).toNat)) 0 then
         bif ((eN a.2.2 a.1.toNat ((a.2.2.drop (0+a.2.1.toNat)).take (((Int.ofNat a.2.2.length).toNat) -a.2.1.toNat))).length)==a.2.2.length then
          some (a.1.toNat+(((a.2.2.drop (0+a.2.1.toNat)).take (((Int.ofNat a.2.2.length).toNat) -a.2.1.toNat)).length),a.2.2.length,eN a.2.2 a.1.toNat ((a.2.2.drop (0+a.2.1.toNat)).take (((Int.ofNat a.2.2.length).toNat) -a.2.1.toNat)))
         else
          none
        else
         bif (Nat.ble ((0+((Int.ofNat (a.1.toNat+(((a.2.2.drop (0+a.2.1.toNat)).take (((Int.ofNat a.2.2.length).toNat) -a.2.1.toNat)).length))).toNat))+(((Int.ofNat a.2.2.length).toNat) - ((Int.ofNat (a.1.toNat+(((a.2.2.drop (0+a.2.1.toNat)).take (((Int.ofNat a.2.2.length).toNat) -a.2.1.toNat)).length))).toNat))) ((eN a.2.2 a.1.toNat ((a.2.2.drop (0+a.2.1.toNat)).take (((Int.ofNat a.2.2.length).toNat) -a.2.1.toNat))).length))&&(!false) then
          bif ((eN (eN a.2.2 a.1.toNat ((a.2.2.drop (0+a.2.1.toNat)).take (((Int.ofNat a.2.2.length).toNat) -a.2.1.toNat))) (0+((Int.ofNat (a.1.toNat+(((a.2.2.drop (0+a.2.1.toNat)).take (((Int.ofNat a.2.2.length).toNat) -a.2.1.toNat)).length))).toNat)) (List.replicate (((Int.ofNat a.2.2.length).toNat) - ((Int.ofNat (a.1.toNat+(((a.2.2.drop (0+a.2.1.toNat)).take (((Int.ofNat a.2.2.length).toNat) -a.2.1.toNat)).length))).toNat)) (0,0,0))).length)==a.2.2.length then
           some (a.1.toNat+(((a.2.2.drop (0+a.2.1.toNat)).take (((Int.ofNat a.2.2.length).toNat) -a.2.1.toNat)).length),a.2.2.length,eN (eN a.2.2 a.1.toNat ((a.2.2.drop (0+a.2.1.toNat)).take (((Int.ofNat a.2.2.length).toNat) -a.2.1.toNat))) (0+((Int.ofNat (a.1.toNat+(((a.2.2.drop (0+a.2.1.toNat)).take (((Int.ofNat a.2.2.length).toNat) -a.2.1.toNat)).length))).toNat)) (List.replicate (((Int.ofNat a.2.2.length).toNat) - ((Int.ofNat (a.1.toNat+(((a.2.2.drop (0+a.2.1.toNat)).take (((Int.ofNat a.2.2.length).toNat) -a.2.1.toNat)).length))).toNat)) (0,0,0)))
          else
           none
         else
          none
       else
        none
      else
       none
     else
      none
   else
    none
 else
  none
def R3 (N:Nat):bV:=⟨[.i,.i,.l [.i .i64,.i .i64,.i .i64]],[.own 0 false,.int .i64 0,.int .i64 0],[.arr [.i .i64,.i .i64,.i .i64] []],[.n,.n,.l [.i .i64,.i .i64,.i .i64]],.pre 0 0 0 false,[.arr [.i .i64,.i .i64,.i .i64] []],fun a=>(iN N) a⟩
theorem OX (N:Nat):fW tab 235 (R3 N):=fW.of ZT (wd:=true) (cx:=(aN (aG N) [] [] [] [])) (aL.make trivial trivial trivial) (fun a=>by kernel_rfl)
def zZ (N:Nat) (p0:aQ) (p1:Int):Option (aQ×(Int×Int)×Int):=
 ((E9 N) p0 p1).bind fun a0=>
 bif a0.2 !=0 then
  some (aQ.mk 0 [],(0,0),a0.2)
 else
  (bB p0.list).bind fun l1=>
  ((iN N) (a0.1,aA .i64 (a0.1+1),l1)).bind fun a2=>
  (aK p0.list a0.1).bind fun a3=>
  some (aQ.mk p0.next_ (a2.2.2.take a2.1),a3.2,0)
def aIE (N:Nat):aU:=⟨aC.cons (aE.agg eT) (aC.one (aE.int .i64)),aE.tup (aC.cons (aE.agg eT) (aC.cons (aE.agg (bF.row eC)) (aC.one (aE.int .i64)))),fun a=>(zZ N) a.1 a.2,.frz,false⟩
theorem aBx (N:Nat):aB tab 174 (aIE N):=aB.of YT (cx:=(aN (aG N) [(234,(aID N)),(181,aU.clone cB)] [(235,(R3 N))] [] [])) rfl (aL.make ⟨(aBw N),nX,trivial⟩ ⟨(OX N),trivial⟩ trivial) (fun a=>by kernel_rfl)
def iD (_:Nat) (p0:aJ):Option aJ:=
 (bB p0.field.points).bind fun l0=>
 (bB p0.certs.list).bind fun l1=>
 (bB p0.due).bind fun l2=>
 (bB p0.agenda.heap).bind fun l3=>
 (bB p0.agenda.where_).bind fun l4=>
 (bB p0.agenda.slots.uses).bind fun l5=>
 (bB p0.agenda.slots.used).bind fun l6=>
 (bB p0.agenda.slots.free).bind fun l7=>
 some (aJ.mk p0.now (Field.mk l0) (aQ.mk p0.certs.next_ l1) (aH.mk (aM.mk l5 l6 l7) l3 l4) l2)
def R4 (N:Nat):aU:=⟨aC.one (aE.agg aZ),aE.agg aZ,fun a=>(iD N) a,.own,true⟩
def JG (N:Nat):aU:=⟨aC.one (aE.agg aZ),aE.agg aZ,fun a=>(iD N) a,.frz,false⟩
theorem A0 (N:Nat):aB tab 114 (R4 N):=aB.of MK (cx:=(aN (aG N) [(124,aU.clone cB),(181,aU.clone cB),(182,aU.clone cB),(183,aU.clone fH),(67,aU.clone ki),(184,aU.clone kb)] [] [] [])) rfl (aL.make ⟨nY,nX,wT,lN,iV,lM,trivial⟩ trivial trivial) (fun a=>by kernel_rfl)
theorem xD (N:Nat):aB tab 114 (JG N):=aB.of MK (cx:=(aN (aG N) [(124,aU.clone cB),(181,aU.clone cB),(182,aU.clone cB),(183,aU.clone fH),(67,aU.clone ki),(184,aU.clone kb)] [] [] [])) rfl (aL.make ⟨nY,nX,wT,lN,iV,lM,trivial⟩ trivial trivial) (fun a=>by kernel_rfl)
def nD (N:Nat) (p0:Int×Int×Int) (p1:Int):Option Int:=
 ((dA N) p0.1 p1).bind fun n0=>
 some n0
def aIF (N:Nat):aU:=⟨aC.cons (aE.agg (bF.row cB)) (aC.one (aE.int .i64)),aE.int .i64,fun a=>(nD N) a.1 a.2,.pure,false⟩
theorem aBy (N:Nat):aB tab 237 (aIF N):=aB.of ZV (cx:=(aN (aG N) [(232,(I5 N))] [] [] [])) rfl (aL.make ⟨(pK N),trivial⟩ trivial trivial) (fun a=>by kernel_rfl)
def eK (N:Nat) (s:((List (Int×Int×Int))×Int×Int×Int×Int)):Option (aY ((List (Int×Int×Int))×Int×Int×Int×Int) (Int×Bool)):=
 bif decide (s.2.2.2.1<s.2.2.2.2) then
  (aK s.1 (aA .i64 (kB .u64 (aA .u64 (aA .i64 (s.2.2.2.1+s.2.2.2.2))) 1))).bind fun a0=>
  ((nD N) a0 s.2.1).bind fun n1=>
  bif decide (n1<0) then
   some (.next (s.1,s.2.1,s.2.2.1,aA .i64 ((aA .i64 (kB .u64 (aA .u64 (aA .i64 (s.2.2.2.1+s.2.2.2.2))) 1))+1),s.2.2.2.2))
  else
   some (.next (s.1,s.2.1,s.2.2.1,s.2.2.2.1,aA .i64 (kB .u64 (aA .u64 (aA .i64 (s.2.2.2.1+s.2.2.2.2))) 1)))
 else
  bif decide (s.2.2.2.1<s.2.2.1) then
   (aK s.1 s.2.2.2.1).bind fun a2=>
   ((nD N) a2 s.2.1).bind fun n3=>
   some (.done (s.2.2.2.1,n3==0))
  else
   some (.done (s.2.2.2.1,false))
def cI (N:Nat) (p0:List (Int×Int×Int)) (p1:Int) (_:Unit):Option (Int×Bool):=
 (aR N) (eK N) (p0,p1,Int.ofNat p0.length,0,Int.ofNat p0.length)
def JH (N:Nat):aU:=⟨aC.cons (aE.sl cB) (aC.cons (aE.int .i64) (aC.one (aE.clo 237 aC.nil))),aE.tup (aC.cons (aE.int .i64) (aC.one aE.bool)),fun a=>(cI N) a.1 a.2.1 a.2.2,.pure,false⟩
theorem JI (N:Nat):aB tab 236 (JH N):=aB.of ZU (cx:=(aN (aG N) [(237,(aIF N))] [] [] [])) rfl (aL.make ⟨(aBy N),trivial⟩ trivial trivial) (fun a=>by kernel_rfl)
def sA (N:Nat) (p0:List (Int×Int×Int)) (p1:Int):Option (Int×Bool):=
 ((cI N) p0 p1 ()).bind fun a0=>
 some a0
def aHf (N:Nat):aU:=⟨aC.cons (aE.sl cB) (aC.one (aE.int .i64)),aE.tup (aC.cons (aE.int .i64) (aC.one aE.bool)),fun a=>(sA N) a.1 a.2,.pure,false⟩
theorem ND (N:Nat):aB tab 175 (aHf N):=aB.of YU (cx:=(aN (aG N) [(236,(JH N))] [] [] [])) rfl (aL.make ⟨(JI N),trivial⟩ trivial trivial) (fun a=>by kernel_rfl)
def DH (N:Nat) (p0:aM) (p1:Int×Int):Option (Bool×Int):=
 ((pJ N) p0).bind fun n0=>
 bif n0 !=0 then
  some (false,n0)
 else
  bif decide (0<=p1.1) then
   bif decide (p1.1<(Int.ofNat p0.used.length)) then
    (aK p0.used p1.1).bind fun b1=>
    bif b1 then
     (aK p0.uses p1.1).bind fun n2=>
     some (n2==p1.2,0)
    else
     some (false,0)
   else
    some (false,0)
  else
   some (false,0)
def aHg (N:Nat):aU:=⟨aC.cons (aE.agg eJ) (aC.one (aE.agg (bF.row eC))),aE.tup (aC.cons aE.bool (aC.one (aE.int .i64))),fun a=>(DH N) a.1 a.2,.pure,false⟩
theorem NE (N:Nat):aB tab 284 (aHg N):=aB.of aAi (cx:=(aN (aG N) [(195,(aA0 N))] [] [] [])) rfl (aL.make ⟨(GR N),trivial⟩ trivial trivial) (fun a=>by kernel_rfl)
def pN (N:Nat) (p0:aH) (p1:Int×Int):Option (Int×Int):=
 ((gT N) p0).bind fun n0=>
 bif n0 !=0 then
  some (0,n0)
 else
  ((DH N) p0.slots p1).bind fun a1=>
  bif a1.2 !=0 then
   some (0,6)
  else
   bif !a1.1 then
    some (0,6)
   else
    (aK p0.where_ p1.1).bind fun n2=>
    some (n2,0)
def aHh (N:Nat):aU:=⟨aC.cons (aE.agg bT) (aC.one (aE.agg (bF.row eC))),aE.tup (aC.cons (aE.int .i64) (aC.one (aE.int .i64))),fun a=>(pN N) a.1 a.2,.pure,false⟩
theorem NF (N:Nat):aB tab 238 (aHh N):=aB.of ZW (cx:=(aN (aG N) [(129,(OV N)),(284,(aHg N))] [] [] [])) rfl (aL.make ⟨(xA N),(NE N),trivial⟩ trivial trivial) (fun a=>by kernel_rfl)
def qF (_:Nat) (p0:List Int) (p1:Int):Option (List Int):=
 (bB p0).bind fun l0=>
 (bD l0 [p1]).bind fun l1=>
 some l1
def aIG (N:Nat):aU:=⟨aC.cons (aE.sl ki) (aC.one (aE.int .i64)),aE.sl ki,fun a=>(qF N) a.1 a.2,.frz,false⟩
theorem aBz (N:Nat):aB tab 305 (aIG N):=aB.of aAt (cx:=(aN (aG N) [(315,aU.clone ki)] [] [] [])) rfl (aL.make ⟨IY,trivial⟩ trivial trivial) (fun a=>by kernel_rfl)
def FA (N:Nat) (p0:aM) (p1:Int×Int):Option (aM×Int):=
 ((DH N) p0 p1).bind fun a0=>
 bif a0.2 !=0 then
  some (aM.mk [] [] [],a0.2)
 else
  bif !a0.1 then
   some (aM.mk [] [] [],6)
  else
   (bB p0.uses).bind fun l1=>
   (bB p0.used).bind fun l2=>
   ((qF N) p0.free p1.1).bind fun l3=>
   (aK l2 p1.1).bind fun _=>
   some (aM.mk l1 (bM l2 p1.1 false) l3,0)
def aIH (N:Nat):aU:=⟨aC.cons (aE.agg eJ) (aC.one (aE.agg (bF.row eC))),aE.tup (aC.cons (aE.agg eJ) (aC.one (aE.int .i64))),fun a=>(FA N) a.1 a.2,.frz,false⟩
theorem aBA (N:Nat):aB tab 285 (aIH N):=aB.of aAj (cx:=(aN (aG N) [(284,(aHg N)),(67,aU.clone ki),(184,aU.clone kb),(305,(aIG N))] [] [(304,Q3)] [])) rfl (aL.make ⟨(NE N),iV,lM,(aBz N),trivial⟩ trivial ⟨MV,trivial⟩) (fun a=>by kernel_rfl)
def bY (_:Nat) (a:((List Int)×(List Bool)×(List Int)×Nat×Nat×Int×Int×Int×Int×Int×Int×(List (Int×Int×Int×Int×Int))×(List Int))):Option ((List (Int×Int×Int×Int×Int))×(List Int)):=
 (aK (a.2.2.2.2.2.2.2.2.2.2.2.1.take a.2.2.2.1) a.2.2.2.2.2.1).bind fun _=>
 (aK a.2.2.2.2.2.2.2.2.2.2.2.2 a.2.2.2.2.2.2.2.2.2.1).bind fun _=>
 bif ((bM a.2.2.2.2.2.2.2.2.2.2.2.1 a.2.2.2.2.2.1 (a.2.2.2.2.2.2.1,a.2.2.2.2.2.2.2.1,a.2.2.2.2.2.2.2.2.1,a.2.2.2.2.2.2.2.2.2.1,a.2.2.2.2.2.2.2.2.2.2.1)).length)==a.2.2.2.2.2.2.2.2.2.2.2.1.length then
  bif ((bM a.2.2.2.2.2.2.2.2.2.2.2.2 a.2.2.2.2.2.2.2.2.2.1 a.2.2.2.2.2.1).length)==a.2.2.2.2.2.2.2.2.2.2.2.2.length then
   some (bM a.2.2.2.2.2.2.2.2.2.2.2.1 a.2.2.2.2.2.1 (a.2.2.2.2.2.2.1,a.2.2.2.2.2.2.2.1,a.2.2.2.2.2.2.2.2.1,a.2.2.2.2.2.2.2.2.2.1,a.2.2.2.2.2.2.2.2.2.2.1),bM a.2.2.2.2.2.2.2.2.2.2.2.2 a.2.2.2.2.2.2.2.2.2.1 a.2.2.2.2.2.1)
  else
   none
 else
  none
def LG (N:Nat):bV:=⟨[.l [.i .i64],.l [.b],.l [.i .i64],.n,.n,.i,.i,.i,.i,.i,.i,.l [.i .i64,.i .i64,.i .i64,.i .i64,.i .i64],.l [.i .i64]],[.agg [.sl [.i .i64] [],.sl [.b] [],.sl [.i .i64] [],.pre 0 0 0 false,.own 1 false],.int .i64 0,.agg [.int .i64 0,.int .i64 0,.int .i64 0,.int .i64 0,.int .i64 0]],[.arr [.i .i64,.i .i64,.i .i64,.i .i64,.i .i64] [],.arr [.i .i64] []],[.l [.i .i64,.i .i64,.i .i64,.i .i64,.i .i64],.l [.i .i64]],.tup [],[.arr [.i .i64,.i .i64,.i .i64,.i .i64,.i .i64] [],.arr [.i .i64] []],fun a=>(bY N) a⟩
theorem FB (N:Nat):fW tab 306 (LG N):=fW.of MW (wd:=false) (cx:=(aN (aG N) [] [] [] [])) (aL.make trivial trivial trivial) (fun a=>by kernel_rfl)
def iX (N:Nat) (c0:((List Int)×(List Bool)×(List Int)×Nat×Nat×Int×Int×Int×Int×Int×Int×(List (Int×Int×Int×Int×Int))×(List Int))) (s:(Int×Int×(List (Int×Int×Int×Int×Int))×(List Int)×(List Int)×(List Bool)×(List Int)×Nat×Nat×Int×Int×Int×Int×Int)):Option (aY (Int×Int×(List (Int×Int×Int×Int×Int))×(List Int)×(List Int)×(List Bool)×(List Int)×Nat×Nat×Int×Int×Int×Int×Int) (aY (Int×(List (Int×Int×Int×Int×Int))×(List Int)×(List Int)×(List Bool)×(List Int)×Nat×Nat×Int×Int×Int×Int×Int) ((List (Int×Int×Int×Int×Int))×(List Int)))):=
 bif decide (s.2.1<(Int.ofNat s.2.2.2.2.2.2.2.1)) then
  bif decide ((aA .i64 (s.2.1+1))<(Int.ofNat s.2.2.2.2.2.2.2.1)) then
   (aK (s.2.2.1.take s.2.2.2.2.2.2.2.1) (aA .i64 (s.2.1+1))).bind fun a0=>
   (aK (s.2.2.1.take s.2.2.2.2.2.2.2.1) s.2.1).bind fun a1=>
   ((bQ N) a0 a1).bind fun n2=>
   bif decide (n2<0) then
    (aK (s.2.2.1.take s.2.2.2.2.2.2.2.1) (aA .i64 (s.2.1+1))).bind fun a3=>
    ((bQ N) a3 s.2.2.2.2.2.2.2.2.2).bind fun n4=>
    bif decide (0<=n4) then
     ((bY N) (s.2.2.2.2.1,s.2.2.2.2.2.1,s.2.2.2.2.2.2.1,s.2.2.2.2.2.2.2.1,s.2.2.2.2.2.2.2.2.1,s.1,s.2.2.2.2.2.2.2.2.2.1,s.2.2.2.2.2.2.2.2.2.2.1,s.2.2.2.2.2.2.2.2.2.2.2.1,s.2.2.2.2.2.2.2.2.2.2.2.2.1,s.2.2.2.2.2.2.2.2.2.2.2.2.2,s.2.2.1,s.2.2.2.1)).bind fun a5=>
     bif a5.1.length==c0.2.2.2.2.2.2.2.2.2.2.2.1.length then
      bif a5.2.length==c0.2.2.2.2.2.2.2.2.2.2.2.2.length then
       some (.done (.done a5))
      else
       none
     else
      none
    else
     (aK (s.2.2.1.take s.2.2.2.2.2.2.2.1) (aA .i64 (s.2.1+1))).bind fun a6=>
     ((bY N) (s.2.2.2.2.1,s.2.2.2.2.2.1,s.2.2.2.2.2.2.1,s.2.2.2.2.2.2.2.1,s.2.2.2.2.2.2.2.2.1,s.1,a6.1,a6.2.1,a6.2.2.1,a6.2.2.2.1,a6.2.2.2.2,s.2.2.1,s.2.2.2.1)).bind fun a7=>
     some (.next (aA .i64 (s.2.1+1),aA .i64 ((aA .i64 (2*(aA .i64 (s.2.1+1))))+1),a7.1,a7.2,s.2.2.2.2))
   else
    (aK (s.2.2.1.take s.2.2.2.2.2.2.2.1) s.2.1).bind fun a8=>
    ((bQ N) a8 s.2.2.2.2.2.2.2.2.2).bind fun n9=>
    bif decide (0<=n9) then
     ((bY N) (s.2.2.2.2.1,s.2.2.2.2.2.1,s.2.2.2.2.2.2.1,s.2.2.2.2.2.2.2.1,s.2.2.2.2.2.2.2.2.1,s.1,s.2.2.2.2.2.2.2.2.2.1,s.2.2.2.2.2.2.2.2.2.2.1,s.2.2.2.2.2.2.2.2.2.2.2.1,s.2.2.2.2.2.2.2.2.2.2.2.2.1,s.2.2.2.2.2.2.2.2.2.2.2.2.2,s.2.2.1,s.2.2.2.1)).bind fun a10=>
     bif a10.1.length==c0.2.2.2.2.2.2.2.2.2.2.2.1.length then
      bif a10.2.length==c0.2.2.2.2.2.2.2.2.2.2.2.2.length then
       some (.done (.done a10))
      else
       none
     else
      none
    else
     (aK (s.2.2.1.take s.2.2.2.2.2.2.2.1) s.2.1).bind fun a11=>
     ((bY N) (s.2.2.2.2.1,s.2.2.2.2.2.1,s.2.2.2.2.2.2.1,s.2.2.2.2.2.2.2.1,s.2.2.2.2.2.2.2.2.1,s.1,a11.1,a11.2.1,a11.2.2.1,a11.2.2.2.1,a11.2.2.2.2,s.2.2.1,s.2.2.2.1)).bind fun a12=>
     some (.next (s.2.1,aA .i64 ((aA .i64 (2*s.2.1))+1),a12.1,a12.2,s.2.2.2.2))
  else
   (aK (s.2.2.1.take s.2.2.2.2.2.2.2.1) s.2.1).bind fun a13=>
   ((bQ N) a13 s.2.2.2.2.2.2.2.2.2).bind fun n14=>
   bif decide (0<=n14) then
    ((bY N) (s.2.2.2.2.1,s.2.2.2.2.2.1,s.2.2.2.2.2.2.1,s.2.2.2.2.2.2.2.1,s.2.2.2.2.2.2.2.2.1,s.1,s.2.2.2.2.2.2.2.2.2.1,s.2.2.2.2.2.2.2.2.2.2.1,s.2.2.2.2.2.2.2.2.2.2.2.1,s.2.2.2.2.2.2.2.2.2.2.2.2.1,s.2.2.2.2.2.2.2.2.2.2.2.2.2,s.2.2.1,s.2.2.2.1)).bind fun a15=>
    bif a15.1.length==c0.2.2.2.2.2.2.2.2.2.2.2.1.length then
     bif a15.2.length==c0.2.2.2.2.2.2.2.2.2.2.2.2.length then
      some (.done (.done a15))
     else
      none
    else
     none
   else
    (aK (s.2.2.1.take s.2.2.2.2.2.2.2.1) s.2.1).bind fun a16=>
    ((bY N) (s.2.2.2.2.1,s.2.2.2.2.2.1,s.2.2.2.2.2.2.1,s.2.2.2.2.2.2.2.1,s.2.2.2.2.2.2.2.2.1,s.1,a16.1,a16.2.1,a16.2.2.1,a16.2.2.2.1,a16.2.2.2.2,s.2.2.1,s.2.2.2.1)).bind fun a17=>
    some (.next (s.2.1,aA .i64 ((aA .i64 (2*s.2.1))+1),a17.1,a17.2,s.2.2.2.2))
 else
  ((bY N) (s.2.2.2.2.1,s.2.2.2.2.2.1,s.2.2.2.2.2.2.1,s.2.2.2.2.2.2.2.1,s.2.2.2.2.2.2.2.2.1,s.1,s.2.2.2.2.2.2.2.2.2.1,s.2.2.2.2.2.2.2.2.2.2.1,s.2.2.2.2.2.2.2.2.2.2.2.1,s.2.2.2.2.2.2.2.2.2.2.2.2.1,s.2.2.2.2.2.2.2.2.2.2.2.2.2,s.2.2.1,s.2.2.2.1)).bind fun a18=>
  bif a18.1.length==c0.2.2.2.2.2.2.2.2.2.2.2.1.length then
   bif a18.2.length==c0.2.2.2.2.2.2.2.2.2.2.2.2.length then
    some (.done (.done a18))
   else
    none
  else
   none
def pO (N:Nat) (c0:((List Int)×(List Bool)×(List Int)×Nat×Nat×Int×Int×Int×Int×Int×Int×(List (Int×Int×Int×Int×Int))×(List Int))) (s:(Int×(List (Int×Int×Int×Int×Int))×(List Int)×(List Int)×(List Bool)×(List Int)×Nat×Nat×Int×Int×Int×Int×Int)):Option (aY (Int×(List (Int×Int×Int×Int×Int))×(List Int)×(List Int)×(List Bool)×(List Int)×Nat×Nat×Int×Int×Int×Int×Int) ((List (Int×Int×Int×Int×Int))×(List Int))):=
 bif decide (0<s.1) then
  (aK (s.2.1.take s.2.2.2.2.2.2.1) (aA .i64 (Int.tdiv (aA .i64 (s.1-1)) 2))).bind fun a0=>
  ((bQ N) s.2.2.2.2.2.2.2.2 a0).bind fun n1=>
  bif decide (n1<0) then
   (aK (s.2.1.take s.2.2.2.2.2.2.1) (aA .i64 (Int.tdiv (aA .i64 (s.1-1)) 2))).bind fun a2=>
   ((bY N) (s.2.2.2.1,s.2.2.2.2.1,s.2.2.2.2.2.1,s.2.2.2.2.2.2.1,s.2.2.2.2.2.2.2.1,s.1,a2.1,a2.2.1,a2.2.2.1,a2.2.2.2.1,a2.2.2.2.2,s.2.1,s.2.2.1)).bind fun a3=>
   some (.next (aA .i64 (Int.tdiv (aA .i64 (s.1-1)) 2),a3.1,a3.2,s.2.2.2))
  else
   (aR N) ((iX N) c0) (s.1,aA .i64 ((aA .i64 (2*s.1))+1),s.2)
 else
  (aR N) ((iX N) c0) (s.1,aA .i64 ((aA .i64 (2*s.1))+1),s.2)
def kS (N:Nat) (a:((List Int)×(List Bool)×(List Int)×Nat×Nat×Int×Int×Int×Int×Int×Int×(List (Int×Int×Int×Int×Int))×(List Int))):Option ((List (Int×Int×Int×Int×Int))×(List Int)):=
 (aR N) ((pO N) a) (a.2.2.2.2.2.1,a.2.2.2.2.2.2.2.2.2.2.2.1,a.2.2.2.2.2.2.2.2.2.2.2.2,a.1,a.2.1,a.2.2.1,a.2.2.2.1,a.2.2.2.2.1,a.2.2.2.2.2.2.1,a.2.2.2.2.2.2.2.1,a.2.2.2.2.2.2.2.2.1,a.2.2.2.2.2.2.2.2.2.1,a.2.2.2.2.2.2.2.2.2.2.1)
def G0 (N:Nat):bV:=⟨[.l [.i .i64],.l [.b],.l [.i .i64],.n,.n,.i,.i,.i,.i,.i,.i,.l [.i .i64,.i .i64,.i .i64,.i .i64,.i .i64],.l [.i .i64]],[.agg [.sl [.i .i64] [],.sl [.b] [],.sl [.i .i64] [],.pre 0 0 0 false,.own 1 false],.int .i64 0,.agg [.int .i64 0,.int .i64 0,.int .i64 0,.int .i64 0,.int .i64 0]],[.arr [.i .i64,.i .i64,.i .i64,.i .i64,.i .i64] [],.arr [.i .i64] []],[.l [.i .i64,.i .i64,.i .i64,.i .i64,.i .i64],.l [.i .i64]],.tup [],[.arr [.i .i64,.i .i64,.i .i64,.i .i64,.i .i64] [],.arr [.i .i64] []],fun a=>(kS N) a⟩
theorem yX (N:Nat):fW tab 287 (G0 N):=fW.of MU (wd:=false) (cx:=(aN (aG N) [(196,(aA9 N))] [(306,(LG N))] [] [])) (aL.make ⟨(GT N),trivial⟩ ⟨(FB N),trivial⟩ trivial) (fun a=>by kernel_rfl)
def tZ (N:Nat) (p0:aH) (p1:Int):Option (aH×(Int×Int×Int×Int×Int)×Int):=
 (aK p0.heap p1).bind fun a0=>
 ((FA N) p0.slots a0.2.2.2).bind fun a1=>
 bif a1.2 !=0 then
  some (aH.mk (aM.mk [] [] []) [] [],(0,0,0,0,0),a1.2)
 else
  (bB p0.heap).bind fun l2=>
  (bB p0.where_).bind fun l3=>
  (aK l2 (aA .i64 ((Int.ofNat l2.length) -1))).bind fun a4=>
  (fZ l2 0 (aA .i64 ((Int.ofNat l2.length) -1))).bind fun _=>
  (aK l3 a0.2.2.2.1).bind fun _=>
  bif decide (p1<(aA .i64 ((Int.ofNat l2.length) -1))) then
   ((kS N) (a1.1.uses,a1.1.used,a1.1.free,(aA .i64 ((Int.ofNat l2.length) -1)).toNat,l2.length,p1,a4.1,a4.2.1,a4.2.2.1,a4.2.2.2.1,a4.2.2.2.2,l2,bM l3 a0.2.2.2.1 (-1))).bind fun a7=>
   some (aH.mk a1.1 (a7.1.take ((aA .i64 ((Int.ofNat l2.length) -1)).toNat)) a7.2,a0,0)
  else
   some (aH.mk a1.1 (l2.take ((aA .i64 ((Int.ofNat l2.length) -1)).toNat)) (bM l3 a0.2.2.2.1 (-1)),a0,0)
def aII (N:Nat):aU:=⟨aC.cons (aE.agg bT) (aC.one (aE.int .i64)),aE.tup (aC.cons (aE.agg bT) (aC.cons (aE.agg (bF.row fH)) (aC.one (aE.int .i64)))),fun a=>(tZ N) a.1 a.2,.frz,false⟩
theorem aBB (N:Nat):aB tab 239 (aII N):=aB.of ZX (cx:=(aN (aG N) [(285,(aIH N)),(183,aU.clone fH),(67,aU.clone ki)] [(287,(G0 N))] [(286,OO)] [])) rfl (aL.make ⟨(aBA N),lN,iV,trivial⟩ ⟨(yX N),trivial⟩ ⟨GJ,trivial⟩) (fun a=>by kernel_rfl)
def jT (N:Nat) (p0:aH) (p1:Int×Int):Option (aH×(Int×Int×Int×Int×Int)×Int):=
 ((pN N) p0 p1).bind fun a0=>
 bif a0.2 !=0 then
  some (aH.mk (aM.mk [] [] []) [] [],(0,0,0,0,0),a0.2)
 else
  ((tZ N) p0 a0.1).bind fun a1=>
  some a1
def aHi (N:Nat):aU:=⟨aC.cons (aE.agg bT) (aC.one (aE.agg (bF.row eC))),aE.tup (aC.cons (aE.agg bT) (aC.cons (aE.agg (bF.row fH)) (aC.one (aE.int .i64)))),fun a=>(jT N) a.1 a.2,.frz,false⟩
theorem NG (N:Nat):aB tab 176 (aHi N):=aB.of YV (cx:=(aN (aG N) [(238,(aHh N)),(239,(aII N))] [] [] [])) rfl (aL.make ⟨(NF N),(aBB N),trivial⟩ trivial trivial) (fun a=>by kernel_rfl)
def iY (_:Nat) (a:(Int×Int×(List (Int×Int×Int)))):Option (Nat×Nat×(List (Int×Int×Int))):=
 bif (((decide (0<=a.1))&&(decide (a.1<=a.2.1)))&&(decide (a.2.1<=(Int.ofNat a.2.2.length))))&&(decide ((Int.ofNat a.2.2.length)<=(Int.ofNat a.2.2.length))) then
  bif a.1==a.2.1 then
   bif a.2.2.length==a.2.2.length then
    some (a.2.2.length,a.2.2.length,a.2.2)
   else
    none
  else
   (fZ a.2.2 0 a.1).bind fun _=>
   bif ((decide (0<=a.2.1))&&(decide (a.2.1<=(Int.ofNat a.2.2.length))))&&(decide ((Int.ofNat a.2.2.length)<=(Int.ofNat a.2.2.length))) then
    bif ((a.2.2.drop (0+a.2.1.toNat)).take (((Int.ofNat a.2.2.length).toNat) -a.2.1.toNat)).isEmpty then
     bif ((decide (0<=(Int.ofNat a.1.toNat)))&&(decide ((Int.ofNat a.1.toNat)<=(Int.ofNat a.2.2.length))))&&(decide ((Int.ofNat a.2.2.length)<=(Int.ofNat a.2.2.length))) then
      bif Nat.beq (((Int.ofNat a.2.2.length).toNat) - ((Int.ofNat a.1.toNat).toNat)) 0 then
       bif a.2.2.length==a.2.2.length then
        some (a.1.toNat,a.2.2.length,a.2.2)
       else
        none
      else
       bif (Nat.ble ((0+((Int.ofNat a.1.toNat).toNat))+(((Int.ofNat a.2.2.length).toNat) - ((Int.ofNat a.1.toNat).toNat))) a.2.2.length)&&(!false) then
        bif ((eN a.2.2 (0+((Int.ofNat a.1.toNat).toNat)) (List.replicate (((Int.ofNat a.2.2.length).toNat) - ((Int.ofNat a.1.toNat).toNat)) (0,0,0))).length)==a.2.2.length then
         some (a.1.toNat,a.2.2.length,eN a.2.2 (0+((Int.ofNat a.1.toNat).toNat)) (List.replicate (((Int.ofNat a.2.2.length).toNat) - ((Int.ofNat a.1.toNat).toNat)) (0,0,0)))
        else
         none
       else
        none
     else
      none
    else
     bif Nat.ble (a.1.toNat+(((a.2.2.drop (0+a.2.1.toNat)).take (((Int.ofNat a.2.2.length).toNat) -a.2.1.toNat)).length)) a.2.2.length then
      bif (Nat.ble (a.1.toNat+(((a.2.2.drop (0+a.2.1.toNat)).take (((Int.ofNat a.2.2.length).toNat) -a.2.1.toNat)).length)) a.2.2.length)&&(!false) then
       bif ((decide (0<=(Int.ofNat (a.1.toNat+(((a.2.2.drop (0+a.2.1.toNat)).take (((Int.ofNat a.2.2.length).toNat) -a.2.1.toNat)).length)))))&&(decide ((Int.ofNat (a.1.toNat+(((a.2.2.drop (0+a.2.1.toNat)).take (((Int.ofNat a.2.2.length).toNat) -a.2.1.toNat)).length)))<=(Int.ofNat a.2.2.length))))&&(decide ((Int.ofNat a.2.2.length)<=(Int.ofNat a.2.2.length))) then
        bif Nat.beq (((Int.ofNat a.2.2.length).toNat) - ((Int.ofNat (a.1.toNat+(((a.2.2.drop (0+a.2.1.toNat)).take (((Int.ofNat a.2.2.length).toNat) -a.2.1.toNat)).length))).toNat)) 0 then
         bif ((eN a.2.2 a.1.toNat ((a.2.2.drop (0+a.2.1.toNat)).take (((Int.ofNat a.2.2.length).toNat) -a.2.1.toNat))).length)==a.2.2.length then
          some (a.1.toNat+(((a.2.2.drop (0+a.2.1.toNat)).take (((Int.ofNat a.2.2.length).toNat) -a.2.1.toNat)).length),a.2.2.length,eN a.2.2 a.1.toNat ((a.2.2.drop (0+a.2.1.toNat)).take (((Int.ofNat a.2.2.length).toNat) -a.2.1.toNat)))
         else
          none
        else
         bif (Nat.ble ((0+((Int.ofNat (a.1.toNat+(((a.2.2.drop (0+a.2.1.toNat)).take (((Int.ofNat a.2.2.length).toNat) -a.2.1.toNat)).length))).toNat))+(((Int.ofNat a.2.2.length).toNat) - ((Int.ofNat (a.1.toNat+(((a.2.2.drop (0+a.2.1.toNat)).take (((Int.ofNat a.2.2.length).toNat) -a.2.1.toNat)).length))).toNat))) ((eN a.2.2 a.1.toNat ((a.2.2.drop (0+a.2.1.toNat)).take (((Int.ofNat a.2.2.length).toNat) -a.2.1.toNat))).length))&&(!false) then
          bif ((eN (eN a.2.2 a.1.toNat ((a.2.2.drop (0+a.2.1.toNat)).take (((Int.ofNat a.2.2.length).toNat) -a.2.1.toNat))) (0+((Int.ofNat (a.1.toNat+(((a.2.2.drop (0+a.2.1.toNat)).take (((Int.ofNat a.2.2.length).toNat) -a.2.1.toNat)).length))).toNat)) (List.replicate (((Int.ofNat a.2.2.length).toNat) - ((Int.ofNat (a.1.toNat+(((a.2.2.drop (0+a.2.1.toNat)).take (((Int.ofNat a.2.2.length).toNat) -a.2.1.toNat)).length))).toNat)) (0,0,0))).length)==a.2.2.length then
           some (a.1.toNat+(((a.2.2.drop (0+a.2.1.toNat)).take (((Int.ofNat a.2.2.length).toNat) -a.2.1.toNat)).length),a.2.2.length,eN (eN a.2.2 a.1.toNat ((a.2.2.drop (0+a.2.1.toNat)).take (((Int.ofNat a.2.2.length).toNat) -a.2.1.toNat))) (0+((Int.ofNat (a.1.toNat+(((a.2.2.drop (0+a.2.1.toNat)).take (((Int.ofNat a.2.2.length).toNat) -a.2.1.toNat)).length))).toNat)) (List.replicate (((Int.ofNat a.2.2.length).toNat) - ((Int.ofNat (a.1.toNat+(((a.2.2.drop (0+a.2.1.toNat)).take (((Int.ofNat a.2.2.length).toNat) -a.2.1.toNat)).length))).toNat)) (0,0,0)))
          else
           none
         else
          none
       else
        none
      else
       none
     else
      none
   else
    none
 else
  none
def R5 (N:Nat):bV:=⟨[.i,.i,.l [.i .i64,.i .i64,.i .i64]],[.own 0 false,.int .i64 0,.int .i64 0],[.arr [.i .i64,.i .i64,.i .i64] []],[.n,.n,.l [.i .i64,.i .i64,.i .i64]],.pre 0 0 0 false,[.arr [.i .i64,.i .i64,.i .i64] []],fun a=>(iY N) a⟩
theorem OY (N:Nat):fW tab 177 (R5 N):=fW.of YW (wd:=true) (cx:=(aN (aG N) [] [] [] [])) (aL.make trivial trivial trivial) (fun a=>by kernel_rfl)
def pP (N:Nat) (p0:aJ) (p1:Int):Option (aJ×(Int×Int)×Int):=
 ((zZ N) p0.certs p1).bind fun a0=>
 bif a0.2.2 !=0 then
  some (aJ.mk (0,0) (Field.mk []) (aQ.mk 0 []) (aH.mk (aM.mk [] [] []) [] []) [],a0.2)
 else
  ((iD N) p0).bind fun r1=>
  ((sA N) p0.due p1).bind fun a2=>
  bif a2.2 then
   (aK p0.due a2.1).bind fun a3=>
   ((jT N) p0.agenda a3.2).bind fun a4=>
   bif a4.2.2 !=0 then
    some (aJ.mk (0,0) (Field.mk []) (aQ.mk 0 []) (aH.mk (aM.mk [] [] []) [] []) [],a0.2.1,a4.2.2)
   else
    ((iY N) (a2.1,aA .i64 (a2.1+1),r1.due)).bind fun a5=>
    some (aJ.mk r1.now r1.field a0.1 a4.1 (a5.2.2.take a5.1),a0.2.1,0)
  else
   some (aJ.mk r1.now r1.field a0.1 r1.agenda r1.due,a0.2.1,0)
def aHj (N:Nat):aU:=⟨aC.cons (aE.agg aZ) (aC.one (aE.int .i64)),aE.tup (aC.cons (aE.agg aZ) (aC.cons (aE.agg (bF.row eC)) (aC.one (aE.int .i64)))),fun a=>(pP N) a.1 a.2,.frz,false⟩
theorem NH (N:Nat):aB tab 112 (aHj N):=aB.of X0 (cx:=(aN (aG N) [(174,(aIE N)),(114,(R4 N)),(114,(JG N)),(175,(aHf N)),(176,(aHi N))] [(177,(R5 N))] [] [])) rfl (aL.make ⟨(aBx N),(A0 N),(xD N),(ND N),(NG N),trivial⟩ ⟨(OY N),trivial⟩ trivial) (fun a=>by kernel_rfl)
def DI (N:Nat) (p0:aJ) (p1:Int×Int):Option (aJ×(Int×Int×Int×Int×Int)×(Int×Int)×Int):=
 ((rY N) p0 p1).bind fun a0=>
 bif a0.2==0 then
  bif !a0.1 then
   some (aJ.mk (0,0) (Field.mk []) (aQ.mk 0 []) (aH.mk (aM.mk [] [] []) [] []) [],(0,0,0,0,0),(0,0),6)
  else
   bif a0.2 !=0 then
    some (aJ.mk (0,0) (Field.mk []) (aQ.mk 0 []) (aH.mk (aM.mk [] [] []) [] []) [],(0,0,0,0,0),(0,0),a0.2)
   else
    (aK p0.agenda.heap 0).bind fun a1=>
    ((pP N) p0 a1.2.2.1).bind fun a2=>
    bif a2.2.2 !=0 then
     some (aJ.mk (0,0) (Field.mk []) (aQ.mk 0 []) (aH.mk (aM.mk [] [] []) [] []) [],(0,0,0,0,0),(0,0),a2.2.2)
    else
     some (aJ.mk (a1.1,a1.2.1) a2.1.field a2.1.certs a2.1.agenda a2.1.due,a1,a2.2.1,0)
 else
  bif a0.2 !=0 then
   some (aJ.mk (0,0) (Field.mk []) (aQ.mk 0 []) (aH.mk (aM.mk [] [] []) [] []) [],(0,0,0,0,0),(0,0),a0.2)
  else
   (aK p0.agenda.heap 0).bind fun a3=>
   ((pP N) p0 a3.2.2.1).bind fun a4=>
   bif a4.2.2 !=0 then
    some (aJ.mk (0,0) (Field.mk []) (aQ.mk 0 []) (aH.mk (aM.mk [] [] []) [] []) [],(0,0,0,0,0),(0,0),a4.2.2)
   else
    some (aJ.mk (a3.1,a3.2.1) a4.1.field a4.1.certs a4.1.agenda a4.1.due,a3,a4.2.1,0)
def c51 (N:Nat):aU:=⟨aC.cons (aE.agg aZ) (aC.one (aE.agg (bF.row eC))),aE.tup (aC.cons (aE.agg aZ) (aC.cons (aE.agg (bF.row fH)) (aC.cons (aE.agg (bF.row eC)) (aC.one (aE.int .i64))))),fun a=>(DI N) a.1 a.2,.frz,false⟩
theorem aHk (N:Nat):aB tab 51 (c51 N):=aB.of aF5 (cx:=(aN (aG N) [(111,(aHe N)),(112,(aHj N))] [] [] [])) rfl (aL.make ⟨(NC N),(NH N),trivial⟩ trivial trivial) (fun a=>by kernel_rfl)
def pQ (N:Nat) (p0:Int×Int×Int) (p1:Int):Option Int:=
 ((dA N) p0.1 p1).bind fun n0=>
 some n0
def aIJ (N:Nat):aU:=⟨aC.cons (aE.agg (bF.row cB)) (aC.one (aE.int .i64)),aE.int .i64,fun a=>(pQ N) a.1 a.2,.pure,false⟩
theorem aBC (N:Nat):aB tab 307 (aIJ N):=aB.of aAu (cx:=(aN (aG N) [(232,(I5 N))] [] [] [])) rfl (aL.make ⟨(pK N),trivial⟩ trivial trivial) (fun a=>by kernel_rfl)
def eI (N:Nat) (s:((List (Int×Int×Int))×Int×Int×Int×Int)):Option (aY ((List (Int×Int×Int))×Int×Int×Int×Int) (Int×Bool)):=
 bif decide (s.2.2.2.1<s.2.2.2.2) then
  (aK s.1 (aA .i64 (kB .u64 (aA .u64 (aA .i64 (s.2.2.2.1+s.2.2.2.2))) 1))).bind fun a0=>
  ((pQ N) a0 s.2.1).bind fun n1=>
  bif decide (n1<0) then
   some (.next (s.1,s.2.1,s.2.2.1,aA .i64 ((aA .i64 (kB .u64 (aA .u64 (aA .i64 (s.2.2.2.1+s.2.2.2.2))) 1))+1),s.2.2.2.2))
  else
   some (.next (s.1,s.2.1,s.2.2.1,s.2.2.2.1,aA .i64 (kB .u64 (aA .u64 (aA .i64 (s.2.2.2.1+s.2.2.2.2))) 1)))
 else
  bif decide (s.2.2.2.1<s.2.2.1) then
   (aK s.1 s.2.2.2.1).bind fun a2=>
   ((pQ N) a2 s.2.1).bind fun n3=>
   some (.done (s.2.2.2.1,n3==0))
  else
   some (.done (s.2.2.2.1,false))
def cD (N:Nat) (p0:List (Int×Int×Int)) (p1:Int) (_:Unit):Option (Int×Bool):=
 (aR N) (eI N) (p0,p1,Int.ofNat p0.length,0,Int.ofNat p0.length)
def JJ (N:Nat):aU:=⟨aC.cons (aE.sl cB) (aC.cons (aE.int .i64) (aC.one (aE.clo 307 aC.nil))),aE.tup (aC.cons (aE.int .i64) (aC.one aE.bool)),fun a=>(cD N) a.1 a.2.1 a.2.2,.pure,false⟩
theorem JK (N:Nat):aB tab 253 (JJ N):=aB.of GI (cx:=(aN (aG N) [(307,(aIJ N))] [] [] [])) rfl (aL.make ⟨(aBC N),trivial⟩ trivial trivial) (fun a=>by kernel_rfl)
def DJ (N:Nat) (p0:Field) (p1:Int):Option (Int×Bool):=
 ((cD N) p0.points p1 ()).bind fun a0=>
 some a0
def aIK (N:Nat):aU:=⟨aC.cons (aE.agg bG) (aC.one (aE.int .i64)),aE.tup (aC.cons (aE.int .i64) (aC.one aE.bool)),fun a=>(DJ N) a.1 a.2,.pure,false⟩
theorem aBD (N:Nat):aB tab 288 (aIK N):=aB.of aAk (cx:=(aN (aG N) [(253,(JJ N))] [] [] [])) rfl (aL.make ⟨(JK N),trivial⟩ trivial trivial) (fun a=>by kernel_rfl)
def AA (N:Nat) (p0:Field) (p1:Int):Option (Int×Int):=
 ((gO N) p0).bind fun n0=>
 bif n0 !=0 then
  some (0,n0)
 else
  ((DJ N) p0 p1).bind fun a1=>
  bif !a1.2 then
   some (0,6)
  else
   some (a1.1,0)
def aIL (N:Nat):aU:=⟨aC.cons (aE.agg bG) (aC.one (aE.int .i64)),aE.tup (aC.cons (aE.int .i64) (aC.one (aE.int .i64))),fun a=>(AA N) a.1 a.2,.pure,false⟩
theorem aBE (N:Nat):aB tab 240 (aIL N):=aB.of ZY (cx:=(aN (aG N) [(122,(LE N)),(288,(aIK N))] [] [] [])) rfl (aL.make ⟨(sP N),(aBD N),trivial⟩ trivial trivial) (fun a=>by kernel_rfl)
def vG (N:Nat) (p0:Field) (p1:Int):Option ((Int×Int×Int)×Int):=
 ((AA N) p0 p1).bind fun a0=>
 bif a0.2 !=0 then
  some ((0,0,0),a0.2)
 else
  (aK p0.points a0.1).bind fun a1=>
  some (a1,0)
def aIM (N:Nat):aU:=⟨aC.cons (aE.agg bG) (aC.one (aE.int .i64)),aE.tup (aC.cons (aE.agg (bF.row cB)) (aC.one (aE.int .i64))),fun a=>(vG N) a.1 a.2,.pure,false⟩
theorem aBF (N:Nat):aB tab 178 (aIM N):=aB.of YX (cx:=(aN (aG N) [(240,(aIL N))] [] [] [])) rfl (aL.make ⟨(aBE N),trivial⟩ trivial trivial) (fun a=>by kernel_rfl)
def vH (_:Nat) (p0:aJ):Option aJ:=
 (bB p0.field.points).bind fun l0=>
 (bB p0.certs.list).bind fun l1=>
 (bB p0.due).bind fun l2=>
 (bB p0.agenda.heap).bind fun l3=>
 (bB p0.agenda.where_).bind fun l4=>
 (bB p0.agenda.slots.uses).bind fun l5=>
 (bB p0.agenda.slots.used).bind fun l6=>
 (bB p0.agenda.slots.free).bind fun l7=>
 some (aJ.mk p0.now (Field.mk l0) (aQ.mk p0.certs.next_ l1) (aH.mk (aM.mk l5 l6 l7) l3 l4) l2)
def aIN (N:Nat):aU:=⟨aC.one (aE.agg aZ),aE.agg aZ,fun a=>(vH N) a,.own,true⟩
def aCp (N:Nat):aU:=⟨aC.one (aE.agg aZ),aE.agg aZ,fun a=>(vH N) a,.frz,false⟩
theorem aBG (N:Nat):aB tab 180 (aIN N):=aB.of MR (cx:=(aN (aG N) [(124,aU.clone cB),(181,aU.clone cB),(182,aU.clone cB),(183,aU.clone fH),(67,aU.clone ki),(184,aU.clone kb)] [] [] [])) rfl (aL.make ⟨nY,nX,wT,lN,iV,lM,trivial⟩ trivial trivial) (fun a=>by kernel_rfl)
theorem R6 (N:Nat):aB tab 180 (aCp N):=aB.of MR (cx:=(aN (aG N) [(124,aU.clone cB),(181,aU.clone cB),(182,aU.clone cB),(183,aU.clone fH),(67,aU.clone ki),(184,aU.clone kb)] [] [] [])) rfl (aL.make ⟨nY,nX,wT,lN,iV,lM,trivial⟩ trivial trivial) (fun a=>by kernel_rfl)
def xE (N:Nat) (p0:aJ) (p1:Int):Option (aJ×Int):=
 ((gQ N) p0).bind fun n0=>
 bif n0 !=0 then
  some (aJ.mk (0,0) (Field.mk []) (aQ.mk 0 []) (aH.mk (aM.mk [] [] []) [] []) [],n0)
 else
  ((pP N) p0 p1).bind fun a1=>
  some (a1.1,a1.2.2)
def aIO (N:Nat):aU:=⟨aC.cons (aE.agg aZ) (aC.one (aE.int .i64)),aE.tup (aC.cons (aE.agg aZ) (aC.one (aE.int .i64))),fun a=>(xE N) a.1 a.2,.frz,false⟩
theorem aBH (N:Nat):aB tab 241 (aIO N):=aB.of ZZ (cx:=(aN (aG N) [(65,(c65 N)),(112,(aHj N))] [] [] [])) rfl (aL.make ⟨(yS N),(NH N),trivial⟩ trivial trivial) (fun a=>by kernel_rfl)
def qI (_:Nat) (s:((List (Int×Int×Int))×(List (Int×Int×Int))×Int×Int)):Option (aY ((List (Int×Int×Int))×(List (Int×Int×Int))×Int×Int) Bool):=
 bif decide (s.2.2.2<s.2.2.1) then
  (aK s.1 s.2.2.2).bind fun a0=>
  (aK s.2.1 s.2.2.2).bind fun a1=>
  bif !((a0.1==a1.1)&&((a0.2.1==a1.2.1)&&(a0.2.2==a1.2.2))) then
   some (.done false)
  else
   some (.next (s.1,s.2.1,s.2.2.1,aA .i64 (s.2.2.2+1)))
 else
  some (.done true)
def lW (N:Nat) (p0:List (Int×Int×Int)) (p1:List (Int×Int×Int)):Option Bool:=
 bif (Int.ofNat p0.length) !=(Int.ofNat p1.length) then
  some false
 else
  (aR N) (qI N) (p0,p1,Int.ofNat p0.length,0)
def aIP (N:Nat):aU:=⟨aC.cons (aE.sl cB) (aC.one (aE.sl cB)),aE.bool,fun a=>(lW N) a.1 a.2,.pure,false⟩
theorem aBI (N:Nat):aB tab 242 (aIP N):=aB.of Z0 (cx:=(aN (aG N) [] [] [] [])) rfl (aL.make trivial trivial trivial) (fun a=>by kernel_rfl)
def bZ (_:Nat) (a:((List Int)×(List Bool)×(List Int)×Int×Int×Int×Int×Int×Int×(List (Int×Int×Int×Int×Int))×(List Int))):Option ((List (Int×Int×Int×Int×Int))×(List Int)):=
 (aK a.2.2.2.2.2.2.2.2.2.1 a.2.2.2.1).bind fun _=>
 (aK a.2.2.2.2.2.2.2.2.2.2 a.2.2.2.2.2.2.2.1).bind fun _=>
 bif ((bM a.2.2.2.2.2.2.2.2.2.1 a.2.2.2.1 (a.2.2.2.2.1,a.2.2.2.2.2.1,a.2.2.2.2.2.2.1,a.2.2.2.2.2.2.2.1,a.2.2.2.2.2.2.2.2.1)).length)==a.2.2.2.2.2.2.2.2.2.1.length then
  bif ((bM a.2.2.2.2.2.2.2.2.2.2 a.2.2.2.2.2.2.2.1 a.2.2.2.1).length)==a.2.2.2.2.2.2.2.2.2.2.length then
   some (bM a.2.2.2.2.2.2.2.2.2.1 a.2.2.2.1 (a.2.2.2.2.1,a.2.2.2.2.2.1,a.2.2.2.2.2.2.1,a.2.2.2.2.2.2.2.1,a.2.2.2.2.2.2.2.2.1),bM a.2.2.2.2.2.2.2.2.2.2 a.2.2.2.2.2.2.2.1 a.2.2.2.1)
  else
   none
 else
  none
def R7 (N:Nat):bV:=⟨[.l [.i .i64],.l [.b],.l [.i .i64],.i,.i,.i,.i,.i,.i,.l [.i .i64,.i .i64,.i .i64,.i .i64,.i .i64],.l [.i .i64]],[.agg [.sl [.i .i64] [],.sl [.b] [],.sl [.i .i64] [],.own 0 false,.own 1 false],.int .i64 0,.agg [.int .i64 0,.int .i64 0,.int .i64 0,.int .i64 0,.int .i64 0]],[.arr [.i .i64,.i .i64,.i .i64,.i .i64,.i .i64] [],.arr [.i .i64] []],[.l [.i .i64,.i .i64,.i .i64,.i .i64,.i .i64],.l [.i .i64]],.tup [],[.arr [.i .i64,.i .i64,.i .i64,.i .i64,.i .i64] [],.arr [.i .i64] []],fun a=>(bZ N) a⟩
theorem OZ (N:Nat):fW tab 306 (R7 N):=fW.of MW (wd:=false) (cx:=(aN (aG N) [] [] [] [])) (aL.make trivial trivial trivial) (fun a=>by kernel_rfl)
end
end Go.Proofs.YtlnclppkepgdmaaGreat
