/- Plain functions for what the functions of the seat compute. Printed by a program. -/
import Derived.Test.YtbncnimfgdelaaaGreatDCVm3
import Derived.Test.YtbncnimfgdelaaaGreatDCQXT
set_option maxRecDepth 100000
namespace Go.Proofs.YtbncnimfgdelaaaGreat
open Go.Vm
noncomputable section
theorem Oc {f:FuncId} {x:aQ} {α β:Type} {args:aC α} {res:aL β} {kd:Kd} {fn:α->Option β} {ow:Bool} (hf:tab f=some (.code x)) (ho:aEa kd ow=true) (lp:Option Nat) (l:List (Nat×bO)) (h:GE tab l) (e: ∀a,aJ1 (wS lp l [] [] []) x args res kd a=fn a):aM tab f ⟨args,res,fn,kd,ow⟩:=aM.of hf (cx:=wS lp l [] [] []) ho (qQ.make h trivial trivial) e
abbrev eE:List PT:=[.i .i64,.i .i64,.i .i64]
abbrev lS:List PT:=[.i .i64,.i .i64]
abbrev ki:List PT:=[.i .i64]
abbrev kb:List PT:=[.b]
abbrev kU:List PT:=[.i .i64,.i .i64,.i .i64,.i .i64,.i .i64]
abbrev aPL:List PT:=[.i .i64,.i .i64,.i .i64,.i .i64]
abbrev kiu:List PT:=[.i .i64,.i .u64]
abbrev DH:List PT:=[.b,.i .u64,.i .u64]
structure Field where
 points:List (Int×Int×Int)
def bZ:cN Field:=cN.iso (cN.sl eE) (fun p=>⟨p⟩) (fun c=>c.points) (fun _=>rfl)
structure aT where
 uses:List Int
 used:List Bool
 free:List Int
def pM:cN aT:=cN.iso (cN.prod (cN.sl ki) (cN.prod (cN.sl kb) (cN.sl ki))) (fun p=>⟨p.1,p.2.1,p.2.2⟩) (fun c=>(c.uses,c.used,c.free)) (fun _=>rfl)
structure aI where
 slots:aT
 heap:List (Int×Int×Int×Int×Int)
 where_:List Int
def gW:cN aI:=cN.iso (cN.prod pM (cN.prod (cN.sl kU) (cN.sl ki))) (fun p=>⟨p.1,p.2.1,p.2.2⟩) (fun c=>(c.slots,c.heap,c.where_)) (fun _=>rfl)
structure aZ where
 next_:Int
 list:List (Int×Int×Int)
def qZ:cN aZ:=cN.iso (cN.prod (cN.int .i64) (cN.sl eE)) (fun p=>⟨p.1,p.2⟩) (fun c=>(c.next_,c.list)) (fun _=>rfl)
structure aP where
 now:Int×Int
 field:Field
 certs:aZ
 agenda:aI
 due:List (Int×Int×Int)
def dC:cN aP:=cN.iso (cN.prod (cN.row lS) (cN.prod bZ (cN.prod qZ (cN.prod gW (cN.sl eE))))) (fun p=>⟨p.1,p.2.1,p.2.2.1,p.2.2.2.1,p.2.2.2.2⟩) (fun c=>(c.now,c.field,c.certs,c.agenda,c.due)) (fun _=>rfl)
structure bA where
 clock:aP
 up:List Int
def dX:cN bA:=cN.iso (cN.prod dC (cN.sl ki)) (fun p=>⟨p.1,p.2⟩) (fun c=>(c.clock,c.up)) (fun _=>rfl)
theorem vW:aM tab 89 (bO.clone eE):=aM.clone aN7 rfl
theorem aCB:aM tab 277 (bO.add64):=aM.add64 aHL
theorem wU:aM tab 197 (bO.clone kb):=aM.clone aG7 rfl
theorem AG:aM tab 193 (bO.clone eE):=aM.clone aG3 rfl
theorem HP:aM tab 194 (bO.clone eE):=aM.clone aG4 rfl
theorem wV:aM tab 195 (bO.clone kU):=aM.clone aG5 rfl
theorem rA:aM tab 196 (bO.clone ki):=aM.clone aG6 rfl
theorem UA:aM tab 293 (bO.clone ki):=aM.clone aHU rfl
abbrev jB:aP:=aP.mk (0,0) (Field.mk []) (aZ.mk 0 []) (aI.mk (aT.mk [] [] []) [] []) []
section
abbrev sJ:=List (Int×Int×Int×Int×Int)
abbrev cQ:=List (Int×Int×Int)
abbrev jC:=List (Int×Int)
abbrev aAY:=jC×jC×Int×Int×Int×Int×cQ×Int×cQ×(List Int)×(List Bool)×(List Int)×sJ×(List Int)×cQ×cQ×Int×Int×Int
abbrev aPM:=bW aAY (aP×Int)
abbrev Zt1:=bW aAY aPM
abbrev Zt2:=cQ×Int×Int×Int×Int×cQ×Int×cQ×(List Int)×(List Bool)×(List Int)×sJ×(List Int)×cQ×cQ×Int×Int×Int×Int×Int×Int×cQ×(List Int)×(List Bool)×(List Int)×sJ×(List Int)×cQ×cQ
abbrev aPN:=jC×cQ×Int×Int×Int×Int×cQ×Int×cQ×(List Int)×(List Bool)×(List Int)×sJ×(List Int)×cQ×cQ×Int×Int×Int
abbrev Zt3:=bW aPN (aP×Int)
abbrev aPO:=cQ×Int×Int×Int×Int×cQ×Int×cQ×(List Int)×(List Bool)×(List Int)×sJ×(List Int)×cQ×cQ×Int×Int×Int
abbrev Zt4:=bW aPO (aP×Int)
abbrev Zt5:=cQ×cQ×Int×Int×Int×Int×cQ×Int×cQ×(List Int)×(List Bool)×(List Int)×sJ×(List Int)×cQ
abbrev Zt6:=Int×Int×cQ×Int×cQ×(List Int)×(List Bool)×(List Int)×sJ×(List Int)×cQ×(List Int)×Int×Int×Int×Int×Int×jC
abbrev Zt7:=jC×Int×Int×Int×Int×cQ×Int×cQ×(List Int)×(List Bool)×(List Int)×sJ×(List Int)×cQ×Int×Int×Int
abbrev aPP:=Int×Int×Int×Int×cQ×Int×cQ×(List Int)×(List Bool)×(List Int)×sJ×(List Int)×cQ×(List Int)
abbrev Zt9:=bW aPP Int
abbrev aPQ:=jC×Int×Int×Int×cQ×Int×cQ×(List Int)×(List Bool)×(List Int)×sJ×(List Int)×cQ
abbrev aPR:=Int×Int×Int×Int×cQ×Int×cQ×(List Int)×(List Bool)×(List Int)×sJ×(List Int)×cQ
abbrev aPS:=Int×sJ×(List Int)×(List Int)×(List Bool)×(List Int)×Nat×Nat×Int×Int×Int×Int×Int
abbrev aAZ:=sJ×(List Int)
abbrev aPT:=bW aPS aAZ
abbrev aPU:=Int×sJ×(List Int)×(List Int)×(List Bool)×(List Int)×Int×Int×Int×Int×Int
abbrev aPV:=bW aPU aAZ
abbrev aPW:=Int×Int×Nat×Nat×Nat×Int×Int×cQ×jC×Int×Int×Int×Int×Int
abbrev XH:=cQ×jC
abbrev aPX:=bW aPW XH
abbrev aPY:=sJ×Int×Int×(List Int)×(List Bool)×(List Int)×sJ×(List Int)×(List (List Int))
abbrev aPZ:=cQ×Int×Int×cQ×Int×Int×jC×Int×Int×Int×Int×Int
abbrev aP0:=bW aPZ jC
abbrev aP1:=Int×cQ×Int×Int×jC×Int×Int×Int×Int×Int×cQ×cQ
abbrev aP2:=Int×Int×Int×cQ×jC×Int×Int×Int×Int×Int×cQ×cQ
abbrev aP3:=Int×Int×sJ×(List Int)×(List Int)×(List Bool)×(List Int)×Nat×Nat×Int×Int×Int×Int×Int
abbrev aHV:=(List Int)×(List Bool)×(List Int)×Nat×Nat×Int×Int×Int×Int×Int×Int×sJ×(List Int)
abbrev aP4:=Int×Int×sJ×(List Int)×(List Int)×(List Bool)×(List Int)×Int×Int×Int×Int×Int
abbrev aP5:=Int×Int×(List Int)×(List Bool)×(List Int)×sJ×(List Int)×Int×Int×Int×Int×Int
abbrev aHW:=(List Int)×(List Bool)×(List Int)×Int×Int×Int×Int×Int×Int×sJ×(List Int)
abbrev aP6:=(List Int)×Int×Int×(List Int)×(List Bool)×(List Int)×sJ×(List Int)
abbrev aP7:=bW aP6 Int
abbrev aHX:=Int×(List Int)×(List Bool)×(List Int)×sJ×(List Int)
abbrev aOe:=bW aHX Int
abbrev aP8:=Int×Int×(List Int)×(List Bool)×(List Int)×sJ×(List Int)
abbrev aP9:=Int×cQ×Int×Int×Int×cQ×(List (List Int))
abbrev aQa:=(List Int)×Int×Int×(List Int)×(List Bool)×(List Int)×Int×(List Bool)
abbrev aQb:=bW aQa Int
abbrev aQc:=cQ×Int×Int×jC×(List Int)×jC
abbrev aHY:=cQ×Int×Int×Int×Int×jC
abbrev UB:=Int×Int×Int×Int×cQ×jC
abbrev RG:=cQ×Int×Int×Int×Int
abbrev aHZ:=bW RG (Int×Bool)
abbrev aCC:=cQ×Int×Int×cQ
abbrev aCD:=Int×Int×(List Int)×(List Bool)×(List Int)×(List Bool)
abbrev aA0:=Int×Int×cQ
abbrev aOf:=bW aA0 Int
abbrev aOg:=(List Int)×Int×Int×jC
abbrev aCE:=Int×cQ
variable [LP]
def KI:Option Field:=some (Field.mk [(1,0,2),(2,6,-1),(5,0,0)])
def c42:bO:=⟨aC.nil,aL.agg bZ,fun _=>KI,.frz,false⟩
theorem aOh:aM tab 42 c42:=Oc aND rfl aH [] trivial fun a=>by kernel_rfl
def NJ (p0:Int):Option (Int×Int):=some (p0,1)
def c43:bO:=⟨aC.one (aL.int .i64),aL.agg (cN.row lS),fun a=>NJ a,.pure,false⟩
theorem aOi:aM tab 43 c43:=Oc aNE rfl aH [] trivial fun a=>by kernel_rfl
def rB (p0:Int):Option Bool:=bif decide (p0<(-1048576)) then some true else some (decide (1048576<p0))
def aQd:bO:=⟨aC.one (aL.int .i64),aL.bool,fun a=>rB a,.pure,false⟩
theorem aH0:aM tab 141 aQd:=Oc aGA rfl aH [] trivial fun a=>by kernel_rfl
def kE (p0:Int×Int×Int):Option Int:=bif decide (p0.1<0) then some 8 else bif decide (65535<p0.1) then some 8 else (rB p0.2.1).bind fun b0=>bif b0 then some 8 else (rB p0.2.2).bind fun b1=>bif b1 then some 8 else some 0
def c86:bO:=⟨aC.one (aL.agg (cN.row eE)),aL.int .i64,fun a=>kE a,.pure,false⟩
theorem RH:aM tab 86 c86:=Oc aN4 rfl aH [(141,aQd)] ⟨aH0,trivial⟩ fun a=>by kernel_rfl
def jO (s:aCC):Option (bW aCC (bW aCC Int)):=bif decide (s.2.2.1<s.2.1) then (aN s.1 s.2.2.1).bind fun a0=>bif decide (0<s.2.2.1) then (aN s.2.2.2 (aA .i64 (s.2.2.1-1))).bind fun a1=>bif decide (a0.1<=a1.1) then some (.done (.done 32)) else some (.next (s.1,s.2.1,aA .i64 (s.2.2.1+1),s.2.2.2)) else some (.next (s.1,s.2.1,aA .i64 (s.2.2.1+1),s.2.2.2)) else some (.done (.done 0))
def nU (s:aCC):Option (bW aCC Int):=bif decide (s.2.2.1<s.2.1) then (aN s.1 s.2.2.1).bind fun a0=>(kE a0).bind fun n1=>bif n1 !=0 then some (.done n1) else some (.next (s.1,s.2.1,aA .i64 (s.2.2.1+1),s.2.2.2)) else aG jO (s.2.2.2,Int.ofNat s.2.2.2.length,0,s.2.2.2)
def dV (p0:Field):Option Int:=bif decide (64<(Int.ofNat p0.points.length)) then some 4 else aG nU (p0.points,Int.ofNat p0.points.length,0,p0.points)
def c85:bO:=⟨aC.one (aL.agg bZ),aL.int .i64,fun a=>dV a,.pure,false⟩
theorem GG:aM tab 85 c85:=Oc aN3 rfl aH [(86,c86)] ⟨RH,trivial⟩ fun a=>by kernel_rfl
def nE (p0:Int):Option Int:=bif decide (p0<0) then some (aA .u64 (0- (aA .u64 p0))) else some (aA .u64 p0)
def aH1:bO:=⟨aC.one (aL.int .i64),aL.int .u64,fun a=>nE a,.pure,false⟩
theorem RI:aM tab 129 aH1:=Oc aGt rfl aH [] trivial fun a=>by kernel_rfl
def vX (s:(Int×Int)):Option (bW (Int×Int) Int):=bif decide (0<s.2) then bif s.2==0 then none else some (.next (s.2,Int.tmod s.1 s.2)) else some (.done s.1)
def AH (p0:Int) (p1:Int):Option Int:=aG vX (p0,p1)
def aOj:bO:=⟨aC.cons (aL.int .u64) (aC.one (aL.int .u64)),aL.int .u64,fun a=>AH a.1 a.2,.pure,false⟩
theorem ZQ:aM tab 128 aOj:=Oc aGs rfl aH [] trivial fun a=>by kernel_rfl
def fV (p0:Int×Int):Option Int:=bif decide (p0.2<1) then some 8 else bif p0.1==(-9223372036854775808) then some 8 else (nE p0.1).bind fun n0=>(AH (aA .u64 p0.2) n0).bind fun n1=>bif decide (1<n1) then some 8 else some 0
def c72:bO:=⟨aC.one (aL.agg (cN.row lS)),aL.int .i64,fun a=>fV a,.pure,false⟩
theorem BM:aM tab 72 c72:=Oc aNW rfl aH [(129,aH1),(128,aOj)] ⟨RI,ZQ,trivial⟩ fun a=>by kernel_rfl
def KJ (s:(Int×Int×Int×(List Int)×(List Bool)×(List Int))):Option (bW (Int×Int×Int×(List Int)×(List Bool)×(List Int)) (aT×Int)):=bif decide (s.2.2.1<s.2.1) then (aN s.2.2.2.2.2 s.2.2.1).bind fun _=>some (.next (s.1,s.2.1,aA .i64 (s.2.2.1+1),s.2.2.2.1,s.2.2.2.2.1,cH s.2.2.2.2.2 s.2.2.1 (aA .i64 ((aA .i64 (s.1-1)) -s.2.2.1)))) else some (.done (aT.mk s.2.2.2.1 s.2.2.2.2.1 s.2.2.2.2.2,0))
def HQ (p0:Int):Option (aT×Int):=bif decide (p0<1) then some (aT.mk [] [] [],2) else bif decide (200<p0) then some (aT.mk [] [] [],2) else bif p0==p0 then (wQ p0 (0:Int)).bind fun l0=>bif p0==p0 then (wQ p0 (false:Bool)).bind fun l1=>bif p0==p0 then (wQ p0 (0:Int)).bind fun l2=>aG KJ (p0,p0,0,l0,l1,l2) else none else none else none
def aQf:bO:=⟨aC.one (aL.int .i64),aL.tup (aC.cons (aL.agg pM) (aC.one (aL.int .i64))),fun a=>HQ a,.frz,false⟩
theorem aH2:aM tab 164 aQf:=Oc aGI rfl aH [] trivial fun a=>by kernel_rfl
def K3 (p0:Int) (p1:Int):Option (Int×Int):=some (aA .u32 (kD .u64 (aA .u64 ((aA .u64 p0)*(aA .u64 p1))) 32),aA .u32 (aA .u64 ((aA .u64 p0)*(aA .u64 p1))))
def aQg:bO:=⟨aC.cons (aL.int .u32) (aC.one (aL.int .u32)),aL.tup (aC.cons (aL.int .u32) (aC.one (aL.int .u32))),fun a=>K3 a.1 a.2,.pure,false⟩
theorem aH3:aM tab 256 aQg:=Oc aHz rfl aH [] trivial fun a=>by kernel_rfl
def gT (p0:Int) (p1:Int):Option (Int×Int):=some (aA .u64 ((aA .u64 ((aA .u64 ((kD .u64 p0 32)*(kD .u64 p1 32)))+(kD .u64 (aA .u64 ((aA .u64 ((kD .u64 p0 32)*(sG .u64 p1 4294967295)))+(kD .u64 (aA .u64 ((sG .u64 p0 4294967295)*(sG .u64 p1 4294967295))) 32))) 32)))+(kD .u64 (aA .u64 ((sG .u64 (aA .u64 ((aA .u64 ((kD .u64 p0 32)*(sG .u64 p1 4294967295)))+(kD .u64 (aA .u64 ((sG .u64 p0 4294967295)*(sG .u64 p1 4294967295))) 32))) 4294967295)+(aA .u64 ((sG .u64 p0 4294967295)*(kD .u64 p1 32))))) 32)),aA .u64 (p0*p1))
def aH4:bO:=⟨aC.cons (aL.int .u64) (aC.one (aL.int .u64)),aL.tup (aC.cons (aL.int .u64) (aC.one (aL.int .u64))),fun a=>gT a.1 a.2,.pure,false⟩
theorem RJ:aM tab 187 aH4:=Oc aGX rfl aH [] trivial fun a=>by kernel_rfl
def zB (p0:Int) (p1:Int):Option (Int×Int):=(gT p0 p1).bind fun a0=>some a0
def aOk:bO:=⟨aC.cons (aL.int .u64) (aC.one (aL.int .u64)),aL.tup (aC.cons (aL.int .u64) (aC.one (aL.int .u64))),fun a=>zB a.1 a.2,.pure,false⟩
theorem ZR:aM tab 210 aOk:=Oc aHe rfl aH [(256,aQg),(187,aH4)] ⟨aH3,RJ,trivial⟩ fun a=>by kernel_rfl
def nV (s:(Int×(List Int))):Option (bW (Int×(List Int)) (List Int)):=bif decide (s.1<(Int.ofNat s.2.length)) then bif ((decide (0<=s.1))&&(decide (s.1<=(Int.ofNat s.2.length))))&&(decide ((Int.ofNat s.2.length)<=(Int.ofNat s.2.length))) then (iN s.2 0 s.1).bind fun _=>bif ((s.2.take s.1.toNat).take (((Int.ofNat s.2.length).toNat) -s.1.toNat)).isEmpty then some (.next (aA .i64 (s.1+0),s.2)) else bif (Nat.ble ((0+s.1.toNat)+(((s.2.take s.1.toNat).take (((Int.ofNat s.2.length).toNat) -s.1.toNat)).length)) s.2.length)&&(!false) then some (.next (aA .i64 (s.1+(Int.ofNat (((s.2.take s.1.toNat).take (((Int.ofNat s.2.length).toNat) -s.1.toNat)).length))),lR s.2 (0+s.1.toNat) ((s.2.take s.1.toNat).take (((Int.ofNat s.2.length).toNat) -s.1.toNat)))) else none else none else some (.done s.2)
def kF (p0:List Int) (p1:Int):Option (List Int):=bif decide (p1<0) then none else (zB (aA .u64 (Int.ofNat p0.length)) (aA .u64 p1)).bind fun a0=>bif decide (0<a0.1) then none else bif decide (9223372036854775807<a0.2) then none else bif (aA .i64 a0.2)==(aA .i64 a0.2) then (wQ (aA .i64 a0.2) (0:Int)).bind fun l1=>bif (p0.take l1.length).isEmpty then aG nV (0,l1) else bif (Nat.ble (0+((p0.take l1.length).length)) l1.length)&&(!false) then aG nV (Int.ofNat ((p0.take l1.length).length),lR l1 0 (p0.take l1.length)) else none else none
def aQh:bO:=⟨aC.cons (aL.sl ki) (aC.one (aL.int .i64)),aL.sl ki,fun a=>kF a.1 a.2,.own,true⟩
def aJ8:bO:=⟨aC.cons (aL.sl ki) (aC.one (aL.int .i64)),aL.sl ki,fun a=>kF a.1 a.2,.frz,false⟩
theorem aH5:aM tab 165 aQh:=Oc ZJ rfl aH [(210,aOk)] ⟨ZR,trivial⟩ fun a=>by kernel_rfl
theorem aCF:aM tab 165 aJ8:=Oc ZJ rfl aH [(210,aOk)] ⟨ZR,trivial⟩ fun a=>by kernel_rfl
def BN (p0:Int):Option (aI×Int):=(HQ p0).bind fun a0=>bif a0.2 !=0 then some (aI.mk (aT.mk [] [] []) [] [],a0.2) else (kF [-1] p0).bind fun l1=>some (aI.mk a0.1 [] l1,0)
def aQi:bO:=⟨aC.one (aL.int .i64),aL.tup (aC.cons (aL.agg gW) (aC.one (aL.int .i64))),fun a=>BN a,.frz,false⟩
theorem aH6:aM tab 105 aQi:=Oc aGd rfl aH [(164,aQf),(165,aQh),(165,aJ8)] ⟨aH2,aH5,aCF,trivial⟩ fun a=>by kernel_rfl
def EJ (p0:Field) (p1:Int×Int):Option (aP×Int):=(dV p0).bind fun n0=>bif n0 !=0 then some (jB,n0) else (fV p1).bind fun n1=>bif n1 !=0 then some (jB,n1) else (BN 200).bind fun a2=>(bX p0.points).bind fun l3=>some (aP.mk p1 (Field.mk l3) (aZ.mk 0 []) a2.1 [],a2.2)
def c53:bO:=⟨aC.cons (aL.agg bZ) (aC.one (aL.agg (cN.row lS))),aL.tup (aC.cons (aL.agg dC) (aC.one (aL.int .i64))),fun a=>EJ a.1 a.2,.frz,false⟩
theorem aOl:aM tab 53 c53:=Oc aNH rfl aH [(85,c85),(72,c72),(105,aQi),(89,bO.clone eE)] ⟨GG,BM,aH6,vW,trivial⟩ fun a=>by kernel_rfl
def sK (p0:Int×Int×Int) (p1:Int×Int×Int) (p2:Int×Int):Option Int:=(kE p0).bind fun n0=>(kE p1).bind fun n1=>(fV p2).bind fun n2=>bif (if n2>(if n1>n0 then n1 else n0) then n2 else if n1>n0 then n1 else n0) !=0 then some (if n2>(if n1>n0 then n1 else n0) then n2 else if n1>n0 then n1 else n0) else bif p0.1==p1.1 then some 2 else some 0
def aH7:bO:=⟨aC.cons (aL.agg (cN.row eE)) (aC.cons (aL.agg (cN.row eE)) (aC.one (aL.agg (cN.row lS)))),aL.int .i64,fun a=>sK a.1 a.2.1 a.2.2,.pure,false⟩
theorem RK:aM tab 203 aH7:=Oc aG9 rfl aH [(86,c86),(72,c72)] ⟨RH,BM,trivial⟩ fun a=>by kernel_rfl
def pC (s:(Int×Int×Int×Int×Int×Int×Int×Int×Int)):Option (bW (Int×Int×Int×Int×Int×Int×Int×Int×Int) (Int×Int)):=bif decide (s.2.2.2.2.1<2) then bif s.2.2.2.2.1==0 then (gT (aA .u64 s.1) (aA .u64 s.2.1)).bind fun a0=>bif decide (s.1<0) then bif decide (s.2.1<0) then (sI s.2.2.2.2.2.2.2.2 a0.2 0).bind fun a1=>some (.next (s.1,s.2.1,s.2.2.1,s.2.2.2.1,aA .i64 (s.2.2.2.2.1+1),s.2.2.2.2.2.1,s.2.2.2.2.2.2.1,aA .i64 ((aA .i64 (s.2.2.2.2.2.2.2.1+(aA .i64 ((aA .i64 ((aA .i64 a0.1) -s.2.1)) -s.1))))+(aA .i64 a1.2)),a1.1)) else (sI s.2.2.2.2.2.2.2.2 a0.2 0).bind fun a2=>some (.next (s.1,s.2.1,s.2.2.1,s.2.2.2.1,aA .i64 (s.2.2.2.2.1+1),s.2.2.2.2.2.1,s.2.2.2.2.2.2.1,aA .i64 ((aA .i64 (s.2.2.2.2.2.2.2.1+(aA .i64 ((aA .i64 a0.1) -s.2.1))))+(aA .i64 a2.2)),a2.1)) else bif decide (s.2.1<0) then (sI s.2.2.2.2.2.2.2.2 a0.2 0).bind fun a3=>some (.next (s.1,s.2.1,s.2.2.1,s.2.2.2.1,aA .i64 (s.2.2.2.2.1+1),s.2.2.2.2.2.1,s.2.2.2.2.2.2.1,aA .i64 ((aA .i64 (s.2.2.2.2.2.2.2.1+(aA .i64 ((aA .i64 a0.1) -s.1))))+(aA .i64 a3.2)),a3.1)) else (sI s.2.2.2.2.2.2.2.2 a0.2 0).bind fun a4=>some (.next (s.1,s.2.1,s.2.2.1,s.2.2.2.1,aA .i64 (s.2.2.2.2.1+1),s.2.2.2.2.2.1,s.2.2.2.2.2.2.1,aA .i64 ((aA .i64 (s.2.2.2.2.2.2.2.1+(aA .i64 a0.1)))+(aA .i64 a4.2)),a4.1)) else bif s.2.2.2.2.1==1 then (gT (aA .u64 s.2.2.1) (aA .u64 s.2.2.2.1)).bind fun a5=>bif decide (s.2.2.1<0) then bif decide (s.2.2.2.1<0) then (sI s.2.2.2.2.2.2.2.2 a5.2 0).bind fun a6=>some (.next (s.1,s.2.1,s.2.2.1,s.2.2.2.1,aA .i64 (s.2.2.2.2.1+1),s.2.2.2.2.2.1,s.2.2.2.2.2.2.1,aA .i64 ((aA .i64 (s.2.2.2.2.2.2.2.1+(aA .i64 ((aA .i64 ((aA .i64 a5.1) -s.2.2.2.1)) -s.2.2.1))))+(aA .i64 a6.2)),a6.1)) else (sI s.2.2.2.2.2.2.2.2 a5.2 0).bind fun a7=>some (.next (s.1,s.2.1,s.2.2.1,s.2.2.2.1,aA .i64 (s.2.2.2.2.1+1),s.2.2.2.2.2.1,s.2.2.2.2.2.2.1,aA .i64 ((aA .i64 (s.2.2.2.2.2.2.2.1+(aA .i64 ((aA .i64 a5.1) -s.2.2.2.1))))+(aA .i64 a7.2)),a7.1)) else bif decide (s.2.2.2.1<0) then (sI s.2.2.2.2.2.2.2.2 a5.2 0).bind fun a8=>some (.next (s.1,s.2.1,s.2.2.1,s.2.2.2.1,aA .i64 (s.2.2.2.2.1+1),s.2.2.2.2.2.1,s.2.2.2.2.2.2.1,aA .i64 ((aA .i64 (s.2.2.2.2.2.2.2.1+(aA .i64 ((aA .i64 a5.1) -s.2.2.1))))+(aA .i64 a8.2)),a8.1)) else (sI s.2.2.2.2.2.2.2.2 a5.2 0).bind fun a9=>some (.next (s.1,s.2.1,s.2.2.1,s.2.2.2.1,aA .i64 (s.2.2.2.2.1+1),s.2.2.2.2.2.1,s.2.2.2.2.2.2.1,aA .i64 ((aA .i64 (s.2.2.2.2.2.2.2.1+(aA .i64 a5.1)))+(aA .i64 a9.2)),a9.1)) else none else some (.done s.2.2.2.2.2.2.2)
def BO (p0:Int×Int×Int×Int):Option (Int×Int):=aG pC (p0.1,p0.2.1,p0.2.2.1,p0.2.2.2,0,0,0,0,0)
def aQj:bO:=⟨aC.one (aL.agg (cN.row aPL)),aL.agg (cN.row kiu),fun a=>BO a,.pure,false⟩
theorem aH8:aM tab 245 aQj:=Oc aHw rfl aH [(187,aH4),(277,bO.add64)] ⟨RJ,aCB,trivial⟩ fun a=>by kernel_rfl
def pN (p0:Int):Option Bool:=some (p0 !=p0)
def aQk:bO:=⟨aC.one (aL.int .i64),aL.bool,fun a=>pN a,.pure,false⟩
theorem aH9:aM tab 185 aQk:=Oc aGV rfl aH [] trivial fun a=>by kernel_rfl
def kG (p0:Int) (p1:Int):Option Int:=(pN p0).bind fun b0=>(pN p1).bind fun b1=>bif b0 then bif b1 then some 0 else some (-1) else bif b1 then some 1 else bif decide (p0<p1) then some (-1) else bif decide (p1<p0) then some 1 else some 0
def aOm:bO:=⟨aC.cons (aL.int .i64) (aC.one (aL.int .i64)),aL.int .i64,fun a=>kG a.1 a.2,.pure,false⟩
theorem ZS:aM tab 131 aOm:=Oc aGv rfl aH [(185,aQk)] ⟨aH9,trivial⟩ fun a=>by kernel_rfl
def tL (p0:Int):Option Bool:=some (p0 !=p0)
def aQl:bO:=⟨aC.one (aL.int .i64),aL.bool,fun a=>tL a,.pure,false⟩
theorem aIa:aM tab 199 aQl:=Oc aG8 rfl aH [] trivial fun a=>by kernel_rfl
def fL (p0:Int) (p1:Int):Option Int:=(tL p0).bind fun b0=>(tL p1).bind fun b1=>bif b0 then bif b1 then some 0 else some (-1) else bif b1 then some 1 else bif decide (p0<p1) then some (-1) else bif decide (p1<p0) then some 1 else some 0
def XI:bO:=⟨aC.cons (aL.int .i64) (aC.one (aL.int .i64)),aL.int .i64,fun a=>fL a.1 a.2,.pure,false⟩
theorem EK:aM tab 144 XI:=Oc aGC rfl aH [(199,aQl)] ⟨aIa,trivial⟩ fun a=>by kernel_rfl
def zC (s:(Int×(List Int)×Int×Int)):Option (bW (Int×(List Int)×Int×Int) Int):=bif decide (s.2.2.2<s.2.2.1) then (aN s.2.1 s.2.2.2).bind fun n0=>bif n0 !=s.1 then some (.done n0) else some (.next (s.1,s.2.1,s.2.2.1,aA .i64 (s.2.2.2+1))) else some (.done s.1)
def wW (p0:List Int):Option Int:=aG zC (0,p0,Int.ofNat p0.length,0)
def aOn:bO:=⟨aC.one (aL.sl ki),aL.int .i64,fun a=>wW a,.pure,false⟩
theorem ZT:aM tab 209 aOn:=Oc aHd rfl aH [] trivial fun a=>by kernel_rfl
def nW (p0:Int×Int×Int) (p1:Int×Int×Int) (p2:Int×Int):Option Int:=(BO (aA .i64 (p0.2.1-p1.2.1),p2.2,aA .i64 (p0.2.2-p1.2.2),p2.1)).bind fun a0=>bif !((a0.1==0)&&(a0.2==0)) then bif decide (a0.1<0) then some (-1) else some 1 else (kG p0.2.2 p1.2.2).bind fun n1=>(fL p1.1 p0.1).bind fun n2=>(wW [n1,n2]).bind fun n3=>some n3
def aOo:bO:=⟨aC.cons (aL.agg (cN.row eE)) (aC.cons (aL.agg (cN.row eE)) (aC.one (aL.agg (cN.row lS)))),aL.int .i64,fun a=>nW a.1 a.2.1 a.2.2,.pure,false⟩
theorem ZU:aM tab 204 aOo:=Oc aHa rfl aH [(245,aQj),(131,aOm),(144,XI),(209,aOn)] ⟨aH8,ZS,EK,ZT,trivial⟩ fun a=>by kernel_rfl
def mL (p0:Int×Int×Int) (p1:Int×Int×Int) (p2:Int×Int):Option (Bool×Int):=(sK p0 p1 p2).bind fun n0=>bif n0 !=0 then some (false,n0) else (nW p0 p1 p2).bind fun n1=>some (decide (0<n1),0)
def aOp:bO:=⟨aC.cons (aL.agg (cN.row eE)) (aC.cons (aL.agg (cN.row eE)) (aC.one (aL.agg (cN.row lS)))),aL.tup (aC.cons aL.bool (aC.one (aL.int .i64))),fun a=>mL a.1 a.2.1 a.2.2,.pure,false⟩
theorem ZV:aM tab 154 aOp:=Oc aGE rfl aH [(203,aH7),(204,aOo)] ⟨RK,ZU,trivial⟩ fun a=>by kernel_rfl
def hZ (c0:(UB->(Option XH))) (c1:UB) (s:aP2):Option (bW aP2 aPX):=match s with |(a,b,d,e,f,g,h,i,j,k,l,m)=>bif decide (d<b) then (aN e d).bind fun a0=>bif a0.1 !=i then bif decide (a<0) then none else bif (sG .i64 (kD .i64 a0.1 a) 1)==0 then (bI l [a0]).bind fun l1=>bif (sG .i64 (kD .i64 a0.1 a) 1)==0 then some (.next (a,b,aA .i64 (d+1),e,f,g,h,i,j,k,l1,m)) else bif (sG .i64 (kD .i64 a0.1 a) 1)==1 then none else none else bif (sG .i64 (kD .i64 a0.1 a) 1)==1 then (bI m [a0]).bind fun l2=>bif (sG .i64 (kD .i64 a0.1 a) 1)==0 then none else bif (sG .i64 (kD .i64 a0.1 a) 1)==1 then some (.next (a,b,aA .i64 (d+1),e,f,g,h,i,j,k,l,l2)) else none else none else some (.next (a,b,aA .i64 (d+1),(e,f,g,h,i,j,k,l,m))) else (c0 (g,h,i,aA .i64 (a+1),l,f)).bind fun a3=>(c0 (g,h,i,aA .i64 (a+1),m,a3.2)).bind fun a4=>bif e.length==c1.2.2.2.2.1.length then some (.done (.done (e,a4.2))) else none
def kH (c0:(UB->(Option XH))) (c1:UB) (s:aPW):Option aPX:=match s with |(a,b,d,e,f,g,h,i,j,k,l,m,n,o)=>bif decide (h<g) then (aN ((i.drop d).take e) h).bind fun a0=>(mL a0 (m,n,o) (k,l)).bind fun a1=>bif a1.1 then some (.next (a,b,d,e,f,g,aA .i64 (h+1),i,j,k,l,a0)) else some (.next (a,b,d,e,f,g,aA .i64 (h+1),(i,j,k,l,m,n,o))) else aG (hZ c0 c1) (b,Int.ofNat i.length,0,i,nL j m a,k,l,m,n,o,[],[])
def oW (self:UB->Option XH) (a:UB):Option XH:=bif (Int.ofNat a.2.2.2.2.1.length)==0 then bif a.2.2.2.2.1.length==a.2.2.2.2.1.length then some a.2.2.2.2 else none else (aN a.2.2.2.2.1 0).bind fun a0=>bif ((decide (0<=1))&&(decide (1<=(Int.ofNat a.2.2.2.2.1.length))))&&(decide ((Int.ofNat a.2.2.2.2.1.length)<=(Int.ofNat a.2.2.2.2.1.length))) then aG (kH self a) (a.2.2.1,a.2.2.2.1,1,((Int.ofNat a.2.2.2.2.1.length).toNat) -1,a.2.2.2.2.1.length-1,Int.ofNat (((Int.ofNat a.2.2.2.2.1.length).toNat) -1),0,a.2.2.2.2.1,a.2.2.2.2.2,a.1,a.2.1,a0) else none
def gQ:Nat->UB->Option XH |0,_=>none |n+1,a=>oW (gQ n) a
def gH (a:UB):Option XH:=gQ 1000000 a
def XJ:fR:=⟨[.i,.i,.i,.i,.l [.i .i64,.i .i64,.i .i64],.l [.i .i64,(.i .i64)]],[.own 0 false,.agg [.int .i64 0,.int .i64 0],.int .i64 0,.int .i64 0,.mp 1],[.arr [.i .i64,.i .i64,.i .i64] [],.tab (.i .i64) []],[.l [.i .i64,.i .i64,.i .i64],.l [.i .i64,(.i .i64)]],.tup [],[.arr [.i .i64,.i .i64,.i .i64] [],.tab (.i .i64) []],fun a=>gH a⟩
theorem NK: ∀n,qP tab 110 ⟨[.i,.i,.i,.i,.l [.i .i64,.i .i64,.i .i64],.l [.i .i64,(.i .i64)]],[.own 0 false,.agg [.int .i64 0,.int .i64 0],.int .i64 0,.int .i64 0,.mp 1],[.arr [.i .i64,.i .i64,.i .i64] [],.tab (.i .i64) []],[.l [.i .i64,.i .i64,.i .i64],.l [.i .i64,(.i .i64)]],.tup [],[.arr [.i .i64,.i .i64,.i .i64] [],.tab (.i .i64) []],fun a=>gQ n a⟩
 |0=>qP.zero (fun _=>rfl)
 |n+1=>qP.of ZG (wd:=false) (cx:=(wS aH [(154,aOp)] [(110,⟨[.i,.i,.i,.i,.l [.i .i64,.i .i64,.i .i64],.l [.i .i64,(.i .i64)]],[.own 0 false,.agg [.int .i64 0,.int .i64 0],.int .i64 0,.int .i64 0,.mp 1],[.arr [.i .i64,.i .i64,.i .i64] [],.tab (.i .i64) []],[.l [.i .i64,.i .i64,.i .i64],.l [.i .i64,(.i .i64)]],.tup [],[.arr [.i .i64,.i .i64,.i .i64] [],.tab (.i .i64) []],fun a=>gQ n a⟩)] [] [])) (qQ.make ⟨ZV,trivial⟩ ⟨(NK n),trivial⟩ trivial) (fun a=>by kernel_rfl)
theorem PX:qP tab 110 XJ:=NK 1000000
def iA (s:aP1):Option (bW aP1 aP0):=match s with |(a,b,d,e,f,g,h,i,j,k,l,m)=>bif decide (e<d) then (aN b e).bind fun a0=>bif a0.1 !=i then bif decide (a<0) then none else bif (sG .i64 (kD .i64 a0.1 a) 1)==0 then (bI l [a0]).bind fun l1=>bif (sG .i64 (kD .i64 a0.1 a) 1)==0 then some (.next (a,b,d,aA .i64 (e+1),f,g,h,i,j,k,l1,m)) else bif (sG .i64 (kD .i64 a0.1 a) 1)==1 then none else none else bif (sG .i64 (kD .i64 a0.1 a) 1)==1 then (bI m [a0]).bind fun l2=>bif (sG .i64 (kD .i64 a0.1 a) 1)==0 then none else bif (sG .i64 (kD .i64 a0.1 a) 1)==1 then some (.next (a,b,d,aA .i64 (e+1),f,g,h,i,j,k,l,l2)) else none else none else some (.next (a,b,d,aA .i64 (e+1),(f,g,h,i,j,k,l,m))) else (gH (g,h,i,aA .i64 (a+1),l,f)).bind fun a3=>(gH (g,h,i,aA .i64 (a+1),m,a3.2)).bind fun a4=>some (.done (.done a4.2))
def kI (s:aPZ):Option aP0:=match s with |(a,b,d,e,f,g,h,i,j,k,l,m)=>bif decide (g<f) then (aN e g).bind fun a0=>(mL a0 (k,l,m) (i,j)).bind fun a1=>bif a1.1 then some (.next (a,b,d,e,f,aA .i64 (g+1),h,i,j,a0)) else some (.next (a,b,d,e,f,aA .i64 (g+1),(h,i,j,k,l,m))) else aG iA (d,a,Int.ofNat a.length,0,nL h k b,i,j,k,l,m,[],[])
def lG (_:aHY->Option jC) (a:aHY):Option jC:=bif (Int.ofNat a.1.length)==0 then some a.2.2.2.2.2 else (aN a.1 0).bind fun a0=>(iN a.1 1 (Int.ofNat a.1.length)).bind fun l1=>aG kI (a.1,a.2.2.2.1,a.2.2.2.2.1,l1,Int.ofNat l1.length,0,a.2.2.2.2.2,a.2.1,a.2.2.1,a0)
def gR:Nat->aHY->Option jC |0,_=>none |n+1,a=>lG (gR n) a
def rC (a:aHY):Option jC:=gR 1000000 a
def aCG:fR:=⟨[.l [.i .i64,.i .i64,.i .i64],.i,.i,.i,.i,.l [.i .i64,(.i .i64)]],[.sl [.i .i64,.i .i64,.i .i64] [],.agg [.int .i64 0,.int .i64 0],.int .i64 0,.int .i64 0,.mp 0],[.tab (.i .i64) []],[.l [.i .i64,(.i .i64)]],.tup [],[.tab (.i .i64) []],fun a=>rC a⟩
theorem NL: ∀n,qP tab 110 ⟨[.l [.i .i64,.i .i64,.i .i64],.i,.i,.i,.i,.l [.i .i64,(.i .i64)]],[.sl [.i .i64,.i .i64,.i .i64] [],.agg [.int .i64 0,.int .i64 0],.int .i64 0,.int .i64 0,.mp 0],[.tab (.i .i64) []],[.l [.i .i64,(.i .i64)]],.tup [],[.tab (.i .i64) []],fun a=>gR n a⟩
 |0=>qP.zero (fun _=>rfl)
 |n+1=>qP.of ZG (wd:=true) (cx:=(wS aH [(154,aOp)] [(110,⟨[.l [.i .i64,.i .i64,.i .i64],.i,.i,.i,.i,.l [.i .i64,(.i .i64)]],[.sl [.i .i64,.i .i64,.i .i64] [],.agg [.int .i64 0,.int .i64 0],.int .i64 0,.int .i64 0,.mp 0],[.tab (.i .i64) []],[.l [.i .i64,(.i .i64)]],.tup [],[.tab (.i .i64) []],fun a=>gR n a⟩),(110,XJ)] [] [])) (qQ.make ⟨ZV,trivial⟩ ⟨(NL n),PX,trivial⟩ trivial) (fun a=>by kernel_rfl)
theorem aA1:qP tab 110 aCG:=NL 1000000
def rD (s:aQc):Option (bW aQc ((List Int)×jC)):=bif decide (s.2.2.1<s.2.1) then (aN s.1 s.2.2.1).bind fun a0=>(bI s.2.2.2.2.1 [lE 0 s.2.2.2.1 a0.1]).bind fun l1=>bif decide (0<=(lE 0 s.2.2.2.1 a0.1)) then (bI s.2.2.2.2.2 [(a0.1,lE 0 s.2.2.2.1 a0.1)]).bind fun l2=>some (.next (s.1,s.2.1,aA .i64 (s.2.2.1+1),s.2.2.2.1,l1,l2)) else some (.next (s.1,s.2.1,aA .i64 (s.2.2.1+1),s.2.2.2.1,l1,s.2.2.2.2.2)) else some (.done s.2.2.2.2)
def mH (p0:Field) (p1:Int×Int):Option ((List Int)×jC):=(rC (p0.points,p1.1,p1.2,-1,0,[])).bind fun l0=>aG rD (p0.points,Int.ofNat p0.points.length,0,l0,[],[])
def c57:bO:=⟨aC.cons (aL.agg bZ) (aC.one (aL.agg (cN.row lS))),aL.tup (aC.cons (aL.sl ki) (aC.one (aL.sl lS))),fun a=>mH a.1 a.2,.frz,false⟩
theorem XK:aM tab 57 c57:=aM.of aNJ (cx:=(wS aH [] [(110,XJ),(110,aCG)] [] [])) rfl (qQ.make trivial ⟨PX,aA1,trivial⟩ trivial) (fun a=>by kernel_rfl)
def wX (p0:Int×Int):Option Bool:=bif decide (0<=(if p0.2<p0.1 then p0.2 else p0.1)) then bif decide ((if p0.2>p0.1 then p0.2 else p0.1)<=65535) then some (p0.1 !=p0.2) else some false else some false
def aOq:bO:=⟨aC.one (aL.agg (cN.row lS)),aL.bool,fun a=>wX a,.pure,false⟩
theorem ZW:aM tab 174 aOq:=Oc aGL rfl aH [] trivial fun a=>by kernel_rfl
def tM (s:aP9):Option (bW aP9 Int):=bif decide (s.2.2.2.1<s.2.2.1) then (aN s.2.1 s.2.2.2.1).bind fun a0=>(wX a0.2).bind fun b1=>bif !b1 then some (.done 8) else (TK s.2.2.2.2.2.2 [a0.2.1,a0.2.2]).bind fun b2=>bif b2 then some (.done 8) else bif decide (a0.1<=s.1) then some (.done 8) else bif decide (s.2.2.2.2.1<=a0.1) then some (.done 8) else (TL s.2.2.2.2.2.2 [a0.2.1,a0.2.2]).bind fun l3=>some (.next (a0.1,s.2.1,s.2.2.1,aA .i64 (s.2.2.2.1+1),s.2.2.2.2.1,s.2.2.2.2.2.1,l3)) else some (.done 0)
def sL (p0:aZ):Option Int:=bif decide (200<(Int.ofNat p0.list.length)) then some 8 else bif decide (p0.next_<0) then some 8 else bif decide (1000000<p0.next_) then some 8 else aG tM (-1,p0.list,Int.ofNat p0.list.length,0,p0.next_,p0.list,[])
def aIb:bO:=⟨aC.one (aL.agg qZ),aL.int .i64,fun a=>sL a,.pure,false⟩
theorem RM:aM tab 114 aIb:=Oc aGg rfl aH [(174,aOq)] ⟨ZW,trivial⟩ fun a=>by kernel_rfl
def iB (s:((List Bool)×Bool×Int×Int)):Option (bW ((List Bool)×Bool×Int×Int) Int):=bif decide (s.2.2.2<s.2.2.1) then (aN s.1 s.2.2.2).bind fun b0=>bif s.2.1==b0 then some (.done s.2.2.2) else some (.next (s.1,s.2.1,s.2.2.1,aA .i64 (s.2.2.2+1))) else some (.done (-1))
def rE (p0:List Bool) (p1:Bool):Option Int:=aG iB (p0,p1,Int.ofNat p0.length,0)
def aQm:bO:=⟨aC.cons (aL.sl kb) (aC.one aL.bool),aL.int .i64,fun a=>rE a.1 a.2,.pure,false⟩
theorem aIc:aM tab 264 aQm:=Oc aHF rfl aH [] trivial fun a=>by kernel_rfl
def eJ (p0:List Bool) (p1:Bool):Option Bool:=(rE p0 p1).bind fun n0=>some (decide (0<=n0))
def aQn:bO:=⟨aC.cons (aL.sl kb) (aC.one aL.bool),aL.bool,fun a=>eJ a.1 a.2,.pure,false⟩
theorem aId:aM tab 224 aQn:=Oc aHm rfl aH [(264,aQm)] ⟨aIc,trivial⟩ fun a=>by kernel_rfl
def hM (s:((List Int)×Int×Int×(List Int)×(List Bool)×(List Int))):Option (bW ((List Int)×Int×Int×(List Int)×(List Bool)×(List Int)) aQb):=bif decide (s.2.2.1<s.2.1) then (aN s.1 s.2.2.1).bind fun n0=>bif decide (n0<0) then some (.done (.done 8)) else bif decide (1000000<n0) then some (.done (.done 8)) else bif n0==0 then (aN s.2.2.2.2.1 s.2.2.1).bind fun b1=>bif b1 then some (.done (.done 8)) else some (.next (s.1,s.2.1,aA .i64 (s.2.2.1+1),s.2.2.2)) else some (.next (s.1,s.2.1,aA .i64 (s.2.2.1+1),s.2.2.2)) else some (.done (.done 0))
def tN (c0:(List Bool)) (s:aQa):Option aQb:=match s with |(a,b,d,e,f,g,h,i)=>bif decide (d<b) then (aN a d).bind fun n0=>bif decide (n0<0) then bif i.length==i.length then bif i.length==c0.length then bif i.length==c0.length then bif decide (0<=d) then some (.done 8) else (eJ i false).bind fun b1=>bif b1 then some (.done 8) else aG hM (e,Int.ofNat e.length,0,e,f,g) else none else none else none else bif decide (h<=n0) then bif i.length==i.length then bif i.length==c0.length then bif i.length==c0.length then bif decide (0<=d) then some (.done 8) else (eJ i false).bind fun b2=>bif b2 then some (.done 8) else aG hM (e,Int.ofNat e.length,0,e,f,g) else none else none else none else (aN i n0).bind fun b3=>bif b3 then bif i.length==i.length then bif i.length==c0.length then bif i.length==c0.length then bif decide (0<=d) then some (.done 8) else (eJ i false).bind fun b4=>bif b4 then some (.done 8) else aG hM (e,Int.ofNat e.length,0,e,f,g) else none else none else none else (aN i n0).bind fun _=>bif ((cH i n0 true).length)==i.length then some (.next (a,b,aA .i64 (d+1),e,f,g,h,cH i n0 true)) else none else bif i.length==c0.length then bif i.length==c0.length then (eJ i false).bind fun b6=>bif b6 then some (.done 8) else aG hM (e,Int.ofNat e.length,0,e,f,g) else none else none
def sM (p0:aT):Option Int:=bif decide ((Int.ofNat p0.uses.length)<1) then some 8 else bif decide (200<(Int.ofNat p0.uses.length)) then some 8 else bif (Int.ofNat p0.used.length) !=(Int.ofNat p0.uses.length) then some 8 else (bX p0.used).bind fun l0=>aG (tN l0) (p0.free,Int.ofNat p0.free.length,0,p0.uses,p0.used,p0.free,Int.ofNat p0.uses.length,l0)
def aIe:bO:=⟨aC.one (aL.agg pM),aL.int .i64,fun a=>sM a,.pure,false⟩
theorem RN:aM tab 175 aIe:=aM.of aGM (cx:=(wS aH [(197,bO.clone kb),(224,aQn)] [] [(222,aFm),(263,aFJ),(223,aFo)] [])) rfl (qQ.make ⟨wU,aId,trivial⟩ trivial ⟨aHk,aHE,aHl,trivial⟩) (fun a=>by kernel_rfl)
def BP (p0:Int×Int) (p1:Int×Int):Option Int:=(fV p0).bind fun n0=>(fV p1).bind fun n1=>some (if n1>n0 then n1 else n0)
def aQo:bO:=⟨aC.cons (aL.agg (cN.row lS)) (aC.one (aL.agg (cN.row lS))),aL.int .i64,fun a=>BP a.1 a.2,.pure,false⟩
theorem aIf:aM tab 130 aQo:=Oc aGu rfl aH [(72,c72)] ⟨BM,trivial⟩ fun a=>by kernel_rfl
def uN (p0:Int) (p1:Int):Option (Bool×Int×Int):=(nE p0).bind fun n0=>(nE p1).bind fun n1=>(gT n0 n1).bind fun a2=>some (!((decide (p0<0))==(decide (p1<0))),a2)
def aQp:bO:=⟨aC.cons (aL.int .i64) (aC.one (aL.int .i64)),aL.agg (cN.row DH),fun a=>uN a.1 a.2,.pure,false⟩
theorem aIg:aM tab 133 aQp:=Oc aGx rfl aH [(129,aH1),(187,aH4)] ⟨RI,RJ,trivial⟩ fun a=>by kernel_rfl
def oM (p0:Int):Option Bool:=some (p0 !=p0)
def aQq:bO:=⟨aC.one (aL.int .u64),aL.bool,fun a=>oM a,.pure,false⟩
theorem aIh:aM tab 227 aQq:=Oc aHp rfl aH [] trivial fun a=>by kernel_rfl
def jP (p0:Int) (p1:Int):Option Int:=(oM p0).bind fun b0=>(oM p1).bind fun b1=>bif b0 then bif b1 then some 0 else some (-1) else bif b1 then some 1 else bif decide (p0<p1) then some (-1) else bif decide (p1<p0) then some 1 else some 0
def aQr:bO:=⟨aC.cons (aL.int .u64) (aC.one (aL.int .u64)),aL.int .i64,fun a=>jP a.1 a.2,.pure,false⟩
theorem aIi:aM tab 186 aQr:=Oc aGW rfl aH [(227,aQq)] ⟨aIh,trivial⟩ fun a=>by kernel_rfl
def tO (p0:Bool×Int×Int) (p1:Bool×Int×Int):Option Int:=(jP p0.2.1 p1.2.1).bind fun n0=>bif n0 !=0 then some n0 else (jP p0.2.2 p1.2.2).bind fun n1=>some n1
def aQs:bO:=⟨aC.cons (aL.agg (cN.row DH)) (aC.one (aL.agg (cN.row DH))),aL.int .i64,fun a=>tO a.1 a.2,.pure,false⟩
theorem aIj:aM tab 132 aQs:=Oc aGw rfl aH [(186,aQr)] ⟨aIi,trivial⟩ fun a=>by kernel_rfl
def sN (p0:Int×Int) (p1:Int×Int):Option (Int×Int):=(BP p0 p1).bind fun n0=>bif n0 !=0 then some (0,n0) else bif !((decide (p0.1<0))==(decide (p1.1<0))) then (kG p0.1 p1.1).bind fun n1=>some (n1,0) else (uN p0.1 p1.2).bind fun a2=>(uN p1.1 p0.2).bind fun a3=>(tO a2 a3).bind fun n4=>bif decide (p0.1<0) then some (aA .i64 (0-n4),0) else some (n4,0)
def c73:bO:=⟨aC.cons (aL.agg (cN.row lS)) (aC.one (aL.agg (cN.row lS))),aL.tup (aC.cons (aL.int .i64) (aC.one (aL.int .i64))),fun a=>sN a.1 a.2,.pure,false⟩
theorem XL:aM tab 73 c73:=Oc aNX rfl aH [(130,aQo),(131,aOm),(133,aQp),(132,aQs)] ⟨aIf,ZS,aIg,aIj,trivial⟩ fun a=>by kernel_rfl
def cB (p0:Int×Int×Int×Int×Int) (p1:Int×Int×Int×Int×Int):Option Int:=(sN (p0.1,p0.2.1) (p1.1,p1.2.1)).bind fun a0=>(fL p0.2.2.1 p1.2.2.1).bind fun n1=>(wW [a0.1,n1]).bind fun n2=>some n2
def aIk:bO:=⟨aC.cons (aL.agg (cN.row kU)) (aC.one (aL.agg (cN.row kU))),aL.int .i64,fun a=>cB a.1 a.2,.pure,false⟩
theorem RO:aM tab 176 aIk:=Oc aGN rfl aH [(73,c73),(144,XI),(209,aOn)] ⟨XL,EK,ZT,trivial⟩ fun a=>by kernel_rfl
def jX (s:aPY):Option (bW aPY aP7):=bif decide (s.2.2.1<s.2.1) then (aN s.1 s.2.2.1).bind fun a0=>(fV (a0.1,a0.2.1)).bind fun n1=>bif n1 !=0 then some (.done (.done 8)) else bif decide (a0.2.2.1<0) then some (.done (.done 8)) else bif decide (1000000<a0.2.2.1) then some (.done (.done 8)) else (TK s.2.2.2.2.2.2.2.2 [a0.2.2.1]).bind fun b2=>bif b2 then some (.done (.done 8)) else (TL s.2.2.2.2.2.2.2.2 [a0.2.2.1]).bind fun l3=>bif decide (0<s.2.2.1) then (aN s.2.2.2.2.2.2.1 (aA .i64 (Int.tdiv (aA .i64 (s.2.2.1-1)) 2))).bind fun a4=>(cB a0 a4).bind fun n5=>bif decide (n5<0) then some (.done (.done 8)) else some (.next (s.1,s.2.1,aA .i64 (s.2.2.1+1),s.2.2.2.1,s.2.2.2.2.1,s.2.2.2.2.2.1,s.2.2.2.2.2.2.1,s.2.2.2.2.2.2.2.1,l3)) else some (.next (s.1,s.2.1,aA .i64 (s.2.2.1+1),s.2.2.2.1,s.2.2.2.2.1,s.2.2.2.2.2.1,s.2.2.2.2.2.2.1,s.2.2.2.2.2.2.2.1,l3)) else some (.done (.done 0))
def mX (s:aP6):Option aP7:=bif decide (s.2.2.1<s.2.1) then (aN s.1 s.2.2.1).bind fun n0=>(aN s.2.2.2.2.1 s.2.2.1).bind fun b1=>bif !b1 then bif n0 !=(-1) then some (.done 8) else some (.next (s.1,s.2.1,aA .i64 (s.2.2.1+1),s.2.2.2)) else bif decide (n0<0) then some (.done 8) else bif decide ((Int.ofNat s.2.2.2.2.2.2.1.length)<=n0) then some (.done 8) else (aN s.2.2.2.2.2.2.1 n0).bind fun a2=>(aN s.2.2.2.1 s.2.2.1).bind fun n3=>bif !((a2.2.2.2.1==s.2.2.1)&&(a2.2.2.2.2==n3)) then some (.done 8) else some (.next (s.1,s.2.1,aA .i64 (s.2.2.1+1),s.2.2.2)) else aG jX (s.2.2.2.2.2.2.1,Int.ofNat s.2.2.2.2.2.2.1.length,0,s.2.2.2.1,s.2.2.2.2.1,s.2.2.2.2.2.1,s.2.2.2.2.2.2.1,s.2.2.2.2.2.2.2,[])
def kJ (p0:aI):Option Int:=(sM p0.slots).bind fun n0=>bif n0 !=0 then some 8 else bif (Int.ofNat p0.where_.length) !=(Int.ofNat p0.slots.used.length) then some 8 else bif (Int.ofNat p0.heap.length) !=(aA .i64 ((Int.ofNat p0.slots.used.length) - (Int.ofNat p0.slots.free.length))) then some 8 else aG mX (p0.where_,Int.ofNat p0.where_.length,0,p0.slots.uses,p0.slots.used,p0.slots.free,p0.heap,p0.where_)
def aA2:bO:=⟨aC.one (aL.agg gW),aL.int .i64,fun a=>kJ a,.pure,false⟩
theorem HR:aM tab 115 aA2:=Oc aGh rfl aH [(175,aIe),(72,c72),(176,aIk)] ⟨RN,BM,RO,trivial⟩ fun a=>by kernel_rfl
def zD (p0:Int×Int×Int) (p1:Int):Option Int:=(fL p0.1 p1).bind fun n0=>some n0
def aQt:bO:=⟨aC.cons (aL.agg (cN.row eE)) (aC.one (aL.int .i64)),aL.int .i64,fun a=>zD a.1 a.2,.pure,false⟩
theorem aIl:aM tab 225 aQt:=Oc aHn rfl aH [(144,XI)] ⟨EK,trivial⟩ fun a=>by kernel_rfl
def jI (s:RG):Option aHZ:=bif decide (s.2.2.2.1<s.2.2.2.2) then (aN s.1 (aA .i64 (kD .u64 (aA .u64 (aA .i64 (s.2.2.2.1+s.2.2.2.2))) 1))).bind fun a0=>(zD a0 s.2.1).bind fun n1=>bif decide (n1<0) then some (.next (s.1,s.2.1,s.2.2.1,aA .i64 ((aA .i64 (kD .u64 (aA .u64 (aA .i64 (s.2.2.2.1+s.2.2.2.2))) 1))+1),s.2.2.2.2)) else some (.next (s.1,s.2.1,s.2.2.1,s.2.2.2.1,aA .i64 (kD .u64 (aA .u64 (aA .i64 (s.2.2.2.1+s.2.2.2.2))) 1))) else bif decide (s.2.2.2.1<s.2.2.1) then (aN s.1 s.2.2.2.1).bind fun a2=>(zD a2 s.2.1).bind fun n3=>some (.done (s.2.2.2.1,n3==0)) else some (.done (s.2.2.2.1,false))
def cX (p0:List (Int×Int×Int)) (p1:Int) (_:Unit):Option (Int×Bool):=aG jI (p0,p1,Int.ofNat p0.length,0,Int.ofNat p0.length)
def UC:bO:=⟨aC.cons (aL.sl eE) (aC.cons (aL.int .i64) (aC.one (aL.clo 225 aC.nil))),aL.tup (aC.cons (aL.int .i64) (aC.one aL.bool)),fun a=>cX a.1 a.2.1 a.2.2,.pure,false⟩
theorem UD:aM tab 142 UC:=Oc ZI rfl aH [(225,aQt)] ⟨aIl,trivial⟩ fun a=>by kernel_rfl
def kK (p0:Field) (p1:Int):Option (Int×Int×Int):=(cX p0.points p1 ()).bind fun a0=>bif !a0.2 then some (-1,0,0) else (aN p0.points a0.1).bind fun a1=>some a1
def aIm:bO:=⟨aC.cons (aL.agg bZ) (aC.one (aL.int .i64)),aL.agg (cN.row eE),fun a=>kK a.1 a.2,.pure,false⟩
theorem RP:aM tab 178 aIm:=Oc aGP rfl aH [(142,UC)] ⟨UD,trivial⟩ fun a=>by kernel_rfl
def DI (p0:Bool×Int×Int) (p1:Int) (p2:Int):Option ((Int×Int)×Int):=bif decide (0<p0.2.1) then some ((0,0),16) else bif decide (9223372036854775807<p0.2.2) then some ((0,0),16) else bif decide (0<p1) then some ((0,0),16) else bif decide (9223372036854775807<p2) then some ((0,0),16) else bif p0.1 then some ((aA .i64 (0- (aA .i64 p0.2.2)),aA .i64 p2),0) else some ((aA .i64 p0.2.2,aA .i64 p2),0)
def aQu:bO:=⟨aC.cons (aL.agg (cN.row DH)) (aC.cons (aL.int .u64) (aC.one (aL.int .u64))),aL.tup (aC.cons (aL.agg (cN.row lS)) (aC.one (aL.int .i64))),fun a=>DI a.1 a.2.1 a.2.2,.pure,false⟩
theorem aIn:aM tab 247 aQu:=Oc aHy rfl aH [] trivial fun a=>by kernel_rfl
def BQ (p0:Int) (p1:Int):Option ((Int×Int)×Int):=bif p1==0 then some ((0,0),26) else (nE p0).bind fun n0=>(nE p1).bind fun n1=>(AH n0 n1).bind fun n2=>(nE p0).bind fun n3=>bif n2==0 then none else (nE p1).bind fun n4=>bif n2==0 then none else (DI (!((decide (p0<0))==(decide (p1<0))),0,aA .u64 (Int.tdiv n3 n2)) 0 (aA .u64 (Int.tdiv n4 n2))).bind fun a5=>some a5
def aQv:bO:=⟨aC.cons (aL.int .i64) (aC.one (aL.int .i64)),aL.tup (aC.cons (aL.agg (cN.row lS)) (aC.one (aL.int .i64))),fun a=>BQ a.1 a.2,.pure,false⟩
theorem aIo:aM tab 207 aQv:=Oc aHc rfl aH [(129,aH1),(128,aOj),(247,aQu)] ⟨RI,ZQ,aIn,trivial⟩ fun a=>by kernel_rfl
def DJ (p0:Int×Int×Int) (p1:Int×Int×Int):Option ((Int×Int)×Int):=(sK p0 p1 (0,1)).bind fun n0=>bif n0 !=0 then some ((0,0),n0) else bif p0.2.2==p1.2.2 then some ((0,0),6) else (BQ (aA .i64 (p0.2.1-p1.2.1)) (aA .i64 (p1.2.2-p0.2.2))).bind fun a1=>some a1
def aQw:bO:=⟨aC.cons (aL.agg (cN.row eE)) (aC.one (aL.agg (cN.row eE))),aL.tup (aC.cons (aL.agg (cN.row lS)) (aC.one (aL.int .i64))),fun a=>DJ a.1 a.2,.pure,false⟩
theorem aIp:aM tab 158 aQw:=Oc aGG rfl aH [(203,aH7),(207,aQv)] ⟨RK,aIo,trivial⟩ fun a=>by kernel_rfl
def vY (p0:Int×Int×Int) (p1:Int×Int×Int) (p2:Int×Int):Option ((Int×Int)×Bool×Int):=(sK p0 p1 p2).bind fun n0=>bif n0 !=0 then some ((0,0),false,n0) else (nW p1 p0 p2).bind fun n1=>bif decide (0<n1) then some (p2,true,0) else bif decide (p1.2.2<=p0.2.2) then some ((0,0),false,0) else (DJ p0 p1).bind fun a2=>some (a2.1,a2.2==0,a2.2)
def aQx:bO:=⟨aC.cons (aL.agg (cN.row eE)) (aC.cons (aL.agg (cN.row eE)) (aC.one (aL.agg (cN.row lS)))),aL.tup (aC.cons (aL.agg (cN.row lS)) (aC.cons aL.bool (aC.one (aL.int .i64)))),fun a=>vY a.1 a.2.1 a.2.2,.pure,false⟩
theorem aIq:aM tab 177 aQx:=Oc aGO rfl aH [(203,aH7),(204,aOo),(158,aQw)] ⟨RK,ZU,aIp,trivial⟩ fun a=>by kernel_rfl
def sO (p0:Field) (p1:Int×Int) (p2:Int×Int):Option ((Int×Int)×Bool×Int):=(kK p0 p1.2).bind fun a0=>(kK p0 p1.1).bind fun a1=>(vY a0 a1 p2).bind fun a2=>some a2
def aIr:bO:=⟨aC.cons (aL.agg bZ) (aC.cons (aL.agg (cN.row lS)) (aC.one (aL.agg (cN.row lS)))),aL.tup (aC.cons (aL.agg (cN.row lS)) (aC.cons aL.bool (aC.one (aL.int .i64)))),fun a=>sO a.1 a.2.1 a.2.2,.pure,false⟩
theorem RQ:aM tab 116 aIr:=Oc aGi rfl aH [(178,aIm),(177,aQx)] ⟨RP,aIq,trivial⟩ fun a=>by kernel_rfl
def cO (s:Zt5):Option (bW Zt5 Zt9):=bif decide (s.2.2.2.1<s.2.2.1) then (aN s.2.1 s.2.2.2.1).bind fun a0=>(sO (Field.mk s.2.2.2.2.2.2.1) a0.2 (s.2.2.2.2.1,s.2.2.2.2.2.1)).bind fun a1=>bif a1.2.2 !=0 then some (.done (.done 8)) else bif !a1.2.1 then some (.next (s.1,s.2.1,s.2.2.1,aA .i64 (s.2.2.2.1+1),s.2.2.2.2)) else bif (Int.ofNat s.1.length)==0 then some (.done (.done 8)) else (aN s.1 0).bind fun a2=>bif a2.1 !=a0.1 then some (.done (.done 8)) else (aN s.1 0).bind fun a3=>bif decide (a3.2.1<0) then some (.done (.done 8)) else bif decide (200<=a3.2.1) then some (.done (.done 8)) else (aN s.2.2.2.2.2.2.2.2.2.2.2.2.2.1 a3.2.1).bind fun n4=>bif decide (n4<0) then some (.done (.done 8)) else (aN s.2.2.2.2.2.2.2.2.2.2.2.2.2.1 a3.2.1).bind fun n5=>(aN s.2.2.2.2.2.2.2.2.2.2.2.2.1 n5).bind fun a6=>bif !((a6.1==a1.1.1)&&((a6.2.1==a1.1.2)&&((a6.2.2.1==a0.1)&&((a6.2.2.2.1==a3.2.1)&&(a6.2.2.2.2==a3.2.2))))) then some (.done (.done 8)) else (iN s.1 1 (Int.ofNat s.1.length)).bind fun l7=>some (.next (l7,s.2.1,s.2.2.1,aA .i64 (s.2.2.2.1+1),s.2.2.2.2)) else bif decide (0<(Int.ofNat s.1.length)) then some (.done (.done 8)) else some (.done (.done 0))
def fF (s:aPP):Option Zt9:=match s with |(a,b,d,e,f,g,h,i,j,k,l,m,n,o)=>bif decide (b<a) then (aN o b).bind fun n0=>bif n0 !=0 then some (.done 8) else some (.next (a,aA .i64 (b+1),(d,e,f,g,h,i,j,k,l,m,n,o))) else bif (Int.ofNat m.length) !=200 then some (.done 8) else bif (Int.ofNat l.length) !=(Int.ofNat n.length) then some (.done 8) else aG cO (n,h,Int.ofNat h.length,0,d,e,f,g,h,i,j,k,l,m,n)
def gU (p0:aP):Option Int:=(fV p0.now).bind fun n0=>(dV p0.field).bind fun n1=>(sL p0.certs).bind fun n2=>(kJ p0.agenda).bind fun n3=>aG fF (Int.ofNat ([n0,n1,n2,n3].length),0,p0.now.1,p0.now.2,p0.field.points,p0.certs.next_,p0.certs.list,p0.agenda.slots.uses,p0.agenda.slots.used,p0.agenda.slots.free,p0.agenda.heap,p0.agenda.where_,p0.due,[n0,n1,n2,n3])
def c62:bO:=⟨aC.one (aL.agg dC),aL.int .i64,fun a=>gU a,.pure,false⟩
theorem JL:aM tab 62 c62:=Oc aNN rfl aH [(72,c72),(85,c85),(114,aIb),(115,aA2),(116,aIr)] ⟨BM,GG,RM,HR,RQ,trivial⟩ fun a=>by kernel_rfl
def kL (s:(jC×Int×Int×Int×Int)):Option (bW (jC×Int×Int×Int×Int) Int):=bif decide (s.2.2.1<s.2.1) then (aN s.1 s.2.2.1).bind fun a0=>bif (s.2.2.2.1==a0.1)&&(s.2.2.2.2==a0.2) then some (.done s.2.2.1) else some (.next (s.1,s.2.1,aA .i64 (s.2.2.1+1),s.2.2.2)) else some (.done (-1))
def rF (p0:List (Int×Int)) (p1:Int×Int):Option Int:=aG kL (p0,Int.ofNat p0.length,0,p1)
def aQy:bO:=⟨aC.cons (aL.sl lS) (aC.one (aL.agg (cN.row lS))),aL.int .i64,fun a=>rF a.1 a.2,.pure,false⟩
theorem aIs:aM tab 117 aQy:=Oc aGj rfl aH [] trivial fun a=>by kernel_rfl
def fW (p0:List (Int×Int)) (p1:Int×Int):Option Bool:=(rF p0 p1).bind fun n0=>some (decide (0<=n0))
def c64:bO:=⟨aC.cons (aL.sl lS) (aC.one (aL.agg (cN.row lS))),aL.bool,fun a=>fW a.1 a.2,.pure,false⟩
theorem XM:aM tab 64 c64:=Oc aNP rfl aH [(117,aQy)] ⟨aIs,trivial⟩ fun a=>by kernel_rfl
def BS (p0:Int×Int×Int) (p1:Int):Option Int:=(fL p0.1 p1).bind fun n0=>some n0
def aQz:bO:=⟨aC.cons (aL.agg (cN.row eE)) (aC.one (aL.int .i64)),aL.int .i64,fun a=>BS a.1 a.2,.pure,false⟩
theorem aIt:aM tab 143 aQz:=Oc aGB rfl aH [(144,XI)] ⟨EK,trivial⟩ fun a=>by kernel_rfl
def jQ (s:RG):Option aHZ:=bif decide (s.2.2.2.1<s.2.2.2.2) then (aN s.1 (aA .i64 (kD .u64 (aA .u64 (aA .i64 (s.2.2.2.1+s.2.2.2.2))) 1))).bind fun a0=>(BS a0 s.2.1).bind fun n1=>bif decide (n1<0) then some (.next (s.1,s.2.1,s.2.2.1,aA .i64 ((aA .i64 (kD .u64 (aA .u64 (aA .i64 (s.2.2.2.1+s.2.2.2.2))) 1))+1),s.2.2.2.2)) else some (.next (s.1,s.2.1,s.2.2.1,s.2.2.2.1,aA .i64 (kD .u64 (aA .u64 (aA .i64 (s.2.2.2.1+s.2.2.2.2))) 1))) else bif decide (s.2.2.2.1<s.2.2.1) then (aN s.1 s.2.2.2.1).bind fun a2=>(BS a2 s.2.1).bind fun n3=>some (.done (s.2.2.2.1,n3==0)) else some (.done (s.2.2.2.1,false))
def cZ (p0:List (Int×Int×Int)) (p1:Int) (_:Unit):Option (Int×Bool):=aG jQ (p0,p1,Int.ofNat p0.length,0,Int.ofNat p0.length)
def UE:bO:=⟨aC.cons (aL.sl eE) (aC.cons (aL.int .i64) (aC.one (aL.clo 143 aC.nil))),aL.tup (aC.cons (aL.int .i64) (aC.one aL.bool)),fun a=>cZ a.1 a.2.1 a.2.2,.pure,false⟩
theorem UF:aM tab 142 UE:=Oc ZI rfl aH [(143,aQz)] ⟨aIt,trivial⟩ fun a=>by kernel_rfl
def kV (p0:Field) (p1:Int):Option (Int×Bool):=(cZ p0.points p1 ()).bind fun a0=>some a0
def c87:bO:=⟨aC.cons (aL.agg bZ) (aC.one (aL.int .i64)),aL.tup (aC.cons (aL.int .i64) (aC.one aL.bool)),fun a=>kV a.1 a.2,.pure,false⟩
theorem aCH:aM tab 87 c87:=Oc aN5 rfl aH [(142,UE)] ⟨UF,trivial⟩ fun a=>by kernel_rfl
def kM (p0:Field) (p1:Int):Option (Int×Int):=(dV p0).bind fun n0=>bif n0 !=0 then some (0,n0) else (kV p0 p1).bind fun a1=>bif !a1.2 then some (0,6) else some (a1.1,0)
def c90:bO:=⟨aC.cons (aL.agg bZ) (aC.one (aL.int .i64)),aL.tup (aC.cons (aL.int .i64) (aC.one (aL.int .i64))),fun a=>kM a.1 a.2,.pure,false⟩
theorem XN:aM tab 90 c90:=Oc aN8 rfl aH [(85,c85),(87,c87)] ⟨GG,aCH,trivial⟩ fun a=>by kernel_rfl
def wY (p0:Field) (p1:Int):Option ((Int×Int×Int)×Int):=(kM p0 p1).bind fun a0=>bif a0.2 !=0 then some ((0,0,0),a0.2) else (aN p0.points a0.1).bind fun a1=>some (a1,0)
def aQA:bO:=⟨aC.cons (aL.agg bZ) (aC.one (aL.int .i64)),aL.tup (aC.cons (aL.agg (cN.row eE)) (aC.one (aL.int .i64))),fun a=>wY a.1 a.2,.pure,false⟩
theorem aIu:aM tab 166 aQA:=Oc aGJ rfl aH [(90,c90)] ⟨XN,trivial⟩ fun a=>by kernel_rfl
def wZ (p0:aP):Option aP:=(bX p0.field.points).bind fun l0=>(bX p0.certs.list).bind fun l1=>(bX p0.due).bind fun l2=>(bX p0.agenda.heap).bind fun l3=>(bX p0.agenda.where_).bind fun l4=>(bX p0.agenda.slots.uses).bind fun l5=>(bX p0.agenda.slots.used).bind fun l6=>(bX p0.agenda.slots.free).bind fun l7=>some (aP.mk p0.now (Field.mk l0) (aZ.mk p0.certs.next_ l1) (aI.mk (aT.mk l5 l6 l7) l3 l4) l2)
def aQB:bO:=⟨aC.one (aL.agg dC),aL.agg dC,fun a=>wZ a,.own,true⟩
def aJ9:bO:=⟨aC.one (aL.agg dC),aL.agg dC,fun a=>wZ a,.frz,false⟩
theorem aIv:aM tab 168 aQB:=Oc ZK rfl aH [(89,bO.clone eE),(193,bO.clone eE),(194,bO.clone eE),(195,bO.clone kU),(196,bO.clone ki),(197,bO.clone kb)] ⟨vW,AG,HP,wV,rA,wU,trivial⟩ fun a=>by kernel_rfl
theorem aCI:aM tab 168 aJ9:=Oc ZK rfl aH [(89,bO.clone eE),(193,bO.clone eE),(194,bO.clone eE),(195,bO.clone kU),(196,bO.clone ki),(197,bO.clone kb)] ⟨vW,AG,HP,wV,rA,wU,trivial⟩ fun a=>by kernel_rfl
def uO (p0:Int×Int×Int) (p1:Int):Option Int:=(fL p0.1 p1).bind fun n0=>some n0
def aQC:bO:=⟨aC.cons (aL.agg (cN.row eE)) (aC.one (aL.int .i64)),aL.int .i64,fun a=>uO a.1 a.2,.pure,false⟩
theorem aIw:aM tab 267 aQC:=Oc aHI rfl aH [(144,XI)] ⟨EK,trivial⟩ fun a=>by kernel_rfl
def aS (s:RG):Option aHZ:=bif decide (s.2.2.2.1<s.2.2.2.2) then (aN s.1 (aA .i64 (kD .u64 (aA .u64 (aA .i64 (s.2.2.2.1+s.2.2.2.2))) 1))).bind fun a0=>(uO a0 s.2.1).bind fun n1=>bif decide (n1<0) then some (.next (s.1,s.2.1,s.2.2.1,aA .i64 ((aA .i64 (kD .u64 (aA .u64 (aA .i64 (s.2.2.2.1+s.2.2.2.2))) 1))+1),s.2.2.2.2)) else some (.next (s.1,s.2.1,s.2.2.1,s.2.2.2.1,aA .i64 (kD .u64 (aA .u64 (aA .i64 (s.2.2.2.1+s.2.2.2.2))) 1))) else bif decide (s.2.2.2.1<s.2.2.1) then (aN s.1 s.2.2.2.1).bind fun a2=>(uO a2 s.2.1).bind fun n3=>some (.done (s.2.2.2.1,n3==0)) else some (.done (s.2.2.2.1,false))
def aU (p0:List (Int×Int×Int)) (p1:Int) (_:Unit):Option (Int×Bool):=aG aS (p0,p1,Int.ofNat p0.length,0,Int.ofNat p0.length)
def UG:bO:=⟨aC.cons (aL.sl eE) (aC.cons (aL.int .i64) (aC.one (aL.clo 267 aC.nil))),aL.tup (aC.cons (aL.int .i64) (aC.one aL.bool)),fun a=>aU a.1 a.2.1 a.2.2,.pure,false⟩
theorem UH:aM tab 266 UG:=Oc aHH rfl aH [(267,aQC)] ⟨aIw,trivial⟩ fun a=>by kernel_rfl
def JM (p0:aZ) (p1:Int):Option (Int×Int):=(sL p0).bind fun n0=>bif n0 !=0 then some (0,n0) else (aU p0.list p1 ()).bind fun a1=>bif !a1.2 then some (0,6) else some (a1.1,0)
def aQD:bO:=⟨aC.cons (aL.agg qZ) (aC.one (aL.int .i64)),aL.tup (aC.cons (aL.int .i64) (aC.one (aL.int .i64))),fun a=>JM a.1 a.2,.pure,false⟩
theorem aIx:aM tab 228 aQD:=Oc aHq rfl aH [(114,aIb),(266,UG)] ⟨RM,UH,trivial⟩ fun a=>by kernel_rfl
def cU (a:aA0):Option (Nat×Nat×cQ):=bif (((decide (0<=a.1))&&(decide (a.1<=a.2.1)))&&(decide (a.2.1<=(Int.ofNat a.2.2.length))))&&(decide ((Int.ofNat a.2.2.length)<=(Int.ofNat a.2.2.length))) then bif a.1==a.2.1 then bif a.2.2.length==a.2.2.length then some (a.2.2.length,a.2.2.length,a.2.2) else none else (iN a.2.2 0 a.1).bind fun _=>bif ((decide (0<=a.2.1))&&(decide (a.2.1<=(Int.ofNat a.2.2.length))))&&(decide ((Int.ofNat a.2.2.length)<=(Int.ofNat a.2.2.length))) then bif ((a.2.2.drop (0+a.2.1.toNat)).take (((Int.ofNat a.2.2.length).toNat) -a.2.1.toNat)).isEmpty then bif ((decide (0<=(Int.ofNat a.1.toNat)))&&(decide ((Int.ofNat a.1.toNat)<=(Int.ofNat a.2.2.length))))&&(decide ((Int.ofNat a.2.2.length)<=(Int.ofNat a.2.2.length))) then bif Nat.beq (((Int.ofNat a.2.2.length).toNat) - ((Int.ofNat a.1.toNat).toNat)) 0 then bif a.2.2.length==a.2.2.length then some (a.1.toNat,a.2.2.length,a.2.2) else none else bif (Nat.ble ((0+((Int.ofNat a.1.toNat).toNat))+(((Int.ofNat a.2.2.length).toNat) - ((Int.ofNat a.1.toNat).toNat))) a.2.2.length)&&(!false) then bif ((lR a.2.2 (0+((Int.ofNat a.1.toNat).toNat)) (List.replicate (((Int.ofNat a.2.2.length).toNat) - ((Int.ofNat a.1.toNat).toNat)) (0,0,0))).length)==a.2.2.length then some (a.1.toNat,a.2.2.length,lR a.2.2 (0+((Int.ofNat a.1.toNat).toNat)) (List.replicate (((Int.ofNat a.2.2.length).toNat) - ((Int.ofNat a.1.toNat).toNat)) (0,0,0))) else none else none else none else bif Nat.ble (a.1.toNat+(((a.2.2.drop (0+a.2.1.toNat)).take (((Int.ofNat a.2.2.length).toNat) -a.2.1.toNat)).length)) a.2.2.length then bif (Nat.ble (a.1.toNat+(((a.2.2.drop (0+a.2.1.toNat)).take (((Int.ofNat a.2.2.length).toNat) -a.2.1.toNat)).length)) a.2.2.length)&&(!false) then bif ((decide (0<=(Int.ofNat (a.1.toNat+(((a.2.2.drop (0+a.2.1.toNat)).take (((Int.ofNat a.2.2.length).toNat) -a.2.1.toNat)).length)))))&&(decide ((Int.ofNat (a.1.toNat+(((a.2.2.drop (0+a.2.1.toNat)).take (((Int.ofNat a.2.2.length).toNat) -a.2.1.toNat)).length)))<=(Int.ofNat a.2.2.length))))&&(decide ((Int.ofNat a.2.2.length)<=(Int.ofNat a.2.2.length))) then bif Nat.beq (((Int.ofNat a.2.2.length).toNat) - ((Int.ofNat (a.1.toNat+(((a.2.2.drop (0+a.2.1.toNat)).take (((Int.ofNat a.2.2.length).toNat) -a.2.1.toNat)).length))).toNat)) 0 then bif ((lR a.2.2 a.1.toNat ((a.2.2.drop (0+a.2.1.toNat)).take (((Int.ofNat a.2.2.length).toNat) -a.2.1.toNat))).length)==a.2.2.length then some (a.1.toNat+(((a.2.2.drop (0+a.2.1.toNat)).take (((Int.ofNat a.2.2.length).toNat) -a.2.1.toNat)).length),a.2.2.length,lR a.2.2 a.1.toNat ((a.2.2.drop (0+a.2.1.toNat)).take (((Int.ofNat a.2.2.length).toNat) -a.2.1.toNat))) else none else bif (Nat.ble ((0+((Int.ofNat (a.1.toNat+(((a.2.2.drop (0+a.2.1.toNat)).take (((Int.ofNat a.2.2.length).toNat) -a.2.1.toNat)).length))).toNat))+(((Int.ofNat a.2.2.length).toNat) - ((Int.ofNat (a.1.toNat+(((a.2.2.drop (0+a.2.1.toNat)).take (((Int.ofNat a.2.2.length).toNat) -a.2.1.toNat)).length))).toNat))) ((lR a.2.2 a.1.toNat ((a.2.2.drop (0+a.2.1.toNat)).take (((Int.ofNat a.2.2.length).toNat) -a.2.1.toNat))).length))&&(!false) then bif ((lR (lR a.2.2 a.1.toNat ((a.2.2.drop (0+a.2.1.toNat)).take (((Int.ofNat a.2.2.length).toNat) -a.2.1.toNat))) (0+((Int.ofNat (a.1.toNat+(((a.2.2.drop (0+a.2.1.toNat)).take (((Int.ofNat a.2.2.length).toNat) -a.2.1.toNat)).length))).toNat)) (List.replicate (((Int.ofNat a.2.2.length).toNat) - ((Int.ofNat (a.1.toNat+(((a.2.2.drop (0+a.2.1.toNat)).take (((Int.ofNat a.2.2.length).toNat) -a.2.1.toNat)).length))).toNat)) (0,0,0))).length)==a.2.2.length then some (a.1.toNat+(((a.2.2.drop (0+a.2.1.toNat)).take (((Int.ofNat a.2.2.length).toNat) -a.2.1.toNat)).length),a.2.2.length,lR (lR a.2.2 a.1.toNat ((a.2.2.drop (0+a.2.1.toNat)).take (((Int.ofNat a.2.2.length).toNat) -a.2.1.toNat))) (0+((Int.ofNat (a.1.toNat+(((a.2.2.drop (0+a.2.1.toNat)).take (((Int.ofNat a.2.2.length).toNat) -a.2.1.toNat)).length))).toNat)) (List.replicate (((Int.ofNat a.2.2.length).toNat) - ((Int.ofNat (a.1.toNat+(((a.2.2.drop (0+a.2.1.toNat)).take (((Int.ofNat a.2.2.length).toNat) -a.2.1.toNat)).length))).toNat)) (0,0,0))) else none else none else none else none else none else none else none
def aCJ:fR:=⟨[.i,.i,.l [.i .i64,.i .i64,.i .i64]],[.own 0 false,.int .i64 0,.int .i64 0],[.arr [.i .i64,.i .i64,.i .i64] []],[.n,.n,.l [.i .i64,.i .i64,.i .i64]],.pre 0 0 0 false,[.arr [.i .i64,.i .i64,.i .i64] []],fun a=>cU a⟩
theorem aA3:qP tab 229 aCJ:=qP.of aHr (wd:=true) (cx:=(wS aH [] [] [] [])) (qQ.make trivial trivial trivial) (fun a=>by kernel_rfl)
def yG (p0:aZ) (p1:Int):Option (aZ×(Int×Int)×Int):=(JM p0 p1).bind fun a0=>bif a0.2 !=0 then some (aZ.mk 0 [],(0,0),a0.2) else (bX p0.list).bind fun l1=>(cU (a0.1,aA .i64 (a0.1+1),l1)).bind fun a2=>(aN p0.list a0.1).bind fun a3=>some (aZ.mk p0.next_ (a2.2.2.take a2.1),a3.2,0)
def aQE:bO:=⟨aC.cons (aL.agg qZ) (aC.one (aL.int .i64)),aL.tup (aC.cons (aL.agg qZ) (aC.cons (aL.agg (cN.row lS)) (aC.one (aL.int .i64)))),fun a=>yG a.1 a.2,.frz,false⟩
theorem aIy:aM tab 189 aQE:=aM.of aGZ (cx:=(wS aH [(228,aQD),(193,bO.clone eE)] [(229,aCJ)] [] [])) rfl (qQ.make ⟨aIx,AG,trivial⟩ ⟨aA3,trivial⟩ trivial) (fun a=>by kernel_rfl)
def kW (p0:aP):Option aP:=(bX p0.field.points).bind fun l0=>(bX p0.certs.list).bind fun l1=>(bX p0.due).bind fun l2=>(bX p0.agenda.heap).bind fun l3=>(bX p0.agenda.where_).bind fun l4=>(bX p0.agenda.slots.uses).bind fun l5=>(bX p0.agenda.slots.used).bind fun l6=>(bX p0.agenda.slots.free).bind fun l7=>some (aP.mk p0.now (Field.mk l0) (aZ.mk p0.certs.next_ l1) (aI.mk (aT.mk l5 l6 l7) l3 l4) l2)
def aCK:bO:=⟨aC.one (aL.agg dC),aL.agg dC,fun a=>kW a,.own,true⟩
def UI:bO:=⟨aC.one (aL.agg dC),aL.agg dC,fun a=>kW a,.frz,false⟩
theorem LF:aM tab 136 aCK:=Oc ZH rfl aH [(89,bO.clone eE),(193,bO.clone eE),(194,bO.clone eE),(195,bO.clone kU),(196,bO.clone ki),(197,bO.clone kb)] ⟨vW,AG,HP,wV,rA,wU,trivial⟩ fun a=>by kernel_rfl
theorem HS:aM tab 136 UI:=Oc ZH rfl aH [(89,bO.clone eE),(193,bO.clone eE),(194,bO.clone eE),(195,bO.clone kU),(196,bO.clone ki),(197,bO.clone kb)] ⟨vW,AG,HP,wV,rA,wU,trivial⟩ fun a=>by kernel_rfl
def zE (p0:Int×Int×Int) (p1:Int):Option Int:=(fL p0.1 p1).bind fun n0=>some n0
def aQF:bO:=⟨aC.cons (aL.agg (cN.row eE)) (aC.one (aL.int .i64)),aL.int .i64,fun a=>zE a.1 a.2,.pure,false⟩
theorem aIz:aM tab 231 aQF:=Oc aHt rfl aH [(144,XI)] ⟨EK,trivial⟩ fun a=>by kernel_rfl
def jU (s:RG):Option aHZ:=bif decide (s.2.2.2.1<s.2.2.2.2) then (aN s.1 (aA .i64 (kD .u64 (aA .u64 (aA .i64 (s.2.2.2.1+s.2.2.2.2))) 1))).bind fun a0=>(zE a0 s.2.1).bind fun n1=>bif decide (n1<0) then some (.next (s.1,s.2.1,s.2.2.1,aA .i64 ((aA .i64 (kD .u64 (aA .u64 (aA .i64 (s.2.2.2.1+s.2.2.2.2))) 1))+1),s.2.2.2.2)) else some (.next (s.1,s.2.1,s.2.2.1,s.2.2.2.1,aA .i64 (kD .u64 (aA .u64 (aA .i64 (s.2.2.2.1+s.2.2.2.2))) 1))) else bif decide (s.2.2.2.1<s.2.2.1) then (aN s.1 s.2.2.2.1).bind fun a2=>(zE a2 s.2.1).bind fun n3=>some (.done (s.2.2.2.1,n3==0)) else some (.done (s.2.2.2.1,false))
def dB (p0:List (Int×Int×Int)) (p1:Int) (_:Unit):Option (Int×Bool):=aG jU (p0,p1,Int.ofNat p0.length,0,Int.ofNat p0.length)
def UJ:bO:=⟨aC.cons (aL.sl eE) (aC.cons (aL.int .i64) (aC.one (aL.clo 231 aC.nil))),aL.tup (aC.cons (aL.int .i64) (aC.one aL.bool)),fun a=>dB a.1 a.2.1 a.2.2,.pure,false⟩
theorem UK:aM tab 230 UJ:=Oc aHs rfl aH [(231,aQF)] ⟨aIz,trivial⟩ fun a=>by kernel_rfl
def qI (p0:List (Int×Int×Int)) (p1:Int):Option (Int×Bool):=(dB p0 p1 ()).bind fun a0=>some a0
def aOs:bO:=⟨aC.cons (aL.sl eE) (aC.one (aL.int .i64)),aL.tup (aC.cons (aL.int .i64) (aC.one aL.bool)),fun a=>qI a.1 a.2,.pure,false⟩
theorem ZX:aM tab 190 aOs:=Oc aG0 rfl aH [(230,UJ)] ⟨UK,trivial⟩ fun a=>by kernel_rfl
def DK (p0:aT) (p1:Int×Int):Option (Bool×Int):=(sM p0).bind fun n0=>bif n0 !=0 then some (false,n0) else bif decide (0<=p1.1) then bif decide (p1.1<(Int.ofNat p0.used.length)) then (aN p0.used p1.1).bind fun b1=>bif b1 then (aN p0.uses p1.1).bind fun n2=>some (n2==p1.2,0) else some (false,0) else some (false,0) else some (false,0)
def aOt:bO:=⟨aC.cons (aL.agg pM) (aC.one (aL.agg (cN.row lS))),aL.tup (aC.cons aL.bool (aC.one (aL.int .i64))),fun a=>DK a.1 a.2,.pure,false⟩
theorem ZY:aM tab 268 aOt:=Oc aHJ rfl aH [(175,aIe)] ⟨RN,trivial⟩ fun a=>by kernel_rfl
def rG (p0:aI) (p1:Int×Int):Option (Int×Int):=(kJ p0).bind fun n0=>bif n0 !=0 then some (0,n0) else (DK p0.slots p1).bind fun a1=>bif a1.2 !=0 then some (0,6) else bif !a1.1 then some (0,6) else (aN p0.where_ p1.1).bind fun n2=>some (n2,0)
def aOu:bO:=⟨aC.cons (aL.agg gW) (aC.one (aL.agg (cN.row lS))),aL.tup (aC.cons (aL.int .i64) (aC.one (aL.int .i64))),fun a=>rG a.1 a.2,.pure,false⟩
theorem ZZ:aM tab 232 aOu:=Oc aHu rfl aH [(115,aA2),(268,aOt)] ⟨HR,ZY,trivial⟩ fun a=>by kernel_rfl
def vK (p0:List Int) (p1:Int):Option (List Int):=(bX p0).bind fun l0=>(bI l0 [p1]).bind fun l1=>some l1
def aQG:bO:=⟨aC.cons (aL.sl ki) (aC.one (aL.int .i64)),aL.sl ki,fun a=>vK a.1 a.2,.frz,false⟩
theorem aIA:aM tab 287 aQG:=Oc aHR rfl aH [(293,bO.clone ki)] ⟨UA,trivial⟩ fun a=>by kernel_rfl
def EL (p0:aT) (p1:Int×Int):Option (aT×Int):=(DK p0 p1).bind fun a0=>bif a0.2 !=0 then some (aT.mk [] [] [],a0.2) else bif !a0.1 then some (aT.mk [] [] [],6) else (bX p0.uses).bind fun l1=>(bX p0.used).bind fun l2=>(vK p0.free p1.1).bind fun l3=>(aN l2 p1.1).bind fun _=>some (aT.mk l1 (cH l2 p1.1 false) l3,0)
def aQH:bO:=⟨aC.cons (aL.agg pM) (aC.one (aL.agg (cN.row lS))),aL.tup (aC.cons (aL.agg pM) (aC.one (aL.int .i64))),fun a=>EL a.1 a.2,.frz,false⟩
theorem aIB:aM tab 269 aQH:=aM.of aHK (cx:=(wS aH [(268,aOt),(196,bO.clone ki),(197,bO.clone kb),(287,aQG)] [] [(286,aCy)] [])) rfl (qQ.make ⟨ZY,rA,wU,aIA,trivial⟩ trivial ⟨ZO,trivial⟩) (fun a=>by kernel_rfl)
def bR (a:aHV):Option aAZ:=(aN (a.2.2.2.2.2.2.2.2.2.2.2.1.take a.2.2.2.1) a.2.2.2.2.2.1).bind fun _=>(aN a.2.2.2.2.2.2.2.2.2.2.2.2 a.2.2.2.2.2.2.2.2.2.1).bind fun _=>bif ((cH a.2.2.2.2.2.2.2.2.2.2.2.1 a.2.2.2.2.2.1 (a.2.2.2.2.2.2.1,a.2.2.2.2.2.2.2.1,a.2.2.2.2.2.2.2.2.1,a.2.2.2.2.2.2.2.2.2.1,a.2.2.2.2.2.2.2.2.2.2.1)).length)==a.2.2.2.2.2.2.2.2.2.2.2.1.length then bif ((cH a.2.2.2.2.2.2.2.2.2.2.2.2 a.2.2.2.2.2.2.2.2.2.1 a.2.2.2.2.2.1).length)==a.2.2.2.2.2.2.2.2.2.2.2.2.length then some (cH a.2.2.2.2.2.2.2.2.2.2.2.1 a.2.2.2.2.2.1 (a.2.2.2.2.2.2.1,a.2.2.2.2.2.2.2.1,a.2.2.2.2.2.2.2.2.1,a.2.2.2.2.2.2.2.2.2.1,a.2.2.2.2.2.2.2.2.2.2.1),cH a.2.2.2.2.2.2.2.2.2.2.2.2 a.2.2.2.2.2.2.2.2.2.1 a.2.2.2.2.2.1) else none else none
def XO:fR:=⟨[.l [.i .i64],.l [.b],.l [.i .i64],.n,.n,.i,.i,.i,.i,.i,.i,.l [.i .i64,.i .i64,.i .i64,.i .i64,.i .i64],.l [.i .i64]],[.agg [.sl [.i .i64] [],.sl [.b] [],.sl [.i .i64] [],.pre 0 0 0 false,.own 1 false],.int .i64 0,.agg [.int .i64 0,.int .i64 0,.int .i64 0,.int .i64 0,.int .i64 0]],[.arr [.i .i64,.i .i64,.i .i64,.i .i64,.i .i64] [],.arr [.i .i64] []],[.l [.i .i64,.i .i64,.i .i64,.i .i64,.i .i64],.l [.i .i64]],.tup [],[.arr [.i .i64,.i .i64,.i .i64,.i .i64,.i .i64] [],.arr [.i .i64] []],fun a=>bR a⟩
theorem PY:qP tab 288 XO:=qP.of ZP (wd:=false) (cx:=(wS aH [] [] [] [])) (qQ.make trivial trivial trivial) (fun a=>by kernel_rfl)
def gI (c0:aHV) (s:aP3):Option (bW aP3 aPT):=match s with |(a,b,d,e,f,g,h,i,j,k,l,m,n,o)=>bif decide (b<(Int.ofNat i)) then bif decide ((aA .i64 (b+1))<(Int.ofNat i)) then (aN (d.take i) (aA .i64 (b+1))).bind fun a0=>(aN (d.take i) b).bind fun a1=>(cB a0 a1).bind fun n2=>bif decide (n2<0) then (aN (d.take i) (aA .i64 (b+1))).bind fun a3=>(cB a3 (k,l,m,n,o)).bind fun n4=>bif decide (0<=n4) then (bR (f,g,h,i,j,a,k,l,m,n,o,d,e)).bind fun a5=>bif a5.1.length==c0.2.2.2.2.2.2.2.2.2.2.2.1.length then bif a5.2.length==c0.2.2.2.2.2.2.2.2.2.2.2.2.length then some (.done (.done a5)) else none else none else (aN (d.take i) (aA .i64 (b+1))).bind fun a6=>(bR (f,g,h,i,j,a,a6.1,a6.2.1,a6.2.2.1,a6.2.2.2.1,a6.2.2.2.2,d,e)).bind fun a7=>some (.next (aA .i64 (b+1),aA .i64 ((aA .i64 (2*(aA .i64 (b+1))))+1),a7.1,a7.2,(f,g,h,i,j,k,l,m,n,o))) else (aN (d.take i) b).bind fun a8=>(cB a8 (k,l,m,n,o)).bind fun n9=>bif decide (0<=n9) then (bR (f,g,h,i,j,a,k,l,m,n,o,d,e)).bind fun a10=>bif a10.1.length==c0.2.2.2.2.2.2.2.2.2.2.2.1.length then bif a10.2.length==c0.2.2.2.2.2.2.2.2.2.2.2.2.length then some (.done (.done a10)) else none else none else (aN (d.take i) b).bind fun a11=>(bR (f,g,h,i,j,a,a11.1,a11.2.1,a11.2.2.1,a11.2.2.2.1,a11.2.2.2.2,d,e)).bind fun a12=>some (.next (b,aA .i64 ((aA .i64 (2*b))+1),a12.1,a12.2,(f,g,h,i,j,k,l,m,n,o))) else (aN (d.take i) b).bind fun a13=>(cB a13 (k,l,m,n,o)).bind fun n14=>bif decide (0<=n14) then (bR (f,g,h,i,j,a,k,l,m,n,o,d,e)).bind fun a15=>bif a15.1.length==c0.2.2.2.2.2.2.2.2.2.2.2.1.length then bif a15.2.length==c0.2.2.2.2.2.2.2.2.2.2.2.2.length then some (.done (.done a15)) else none else none else (aN (d.take i) b).bind fun a16=>(bR (f,g,h,i,j,a,a16.1,a16.2.1,a16.2.2.1,a16.2.2.2.1,a16.2.2.2.2,d,e)).bind fun a17=>some (.next (b,aA .i64 ((aA .i64 (2*b))+1),a17.1,a17.2,(f,g,h,i,j,k,l,m,n,o))) else (bR (f,g,h,i,j,a,k,l,m,n,o,d,e)).bind fun a18=>bif a18.1.length==c0.2.2.2.2.2.2.2.2.2.2.2.1.length then bif a18.2.length==c0.2.2.2.2.2.2.2.2.2.2.2.2.length then some (.done (.done a18)) else none else none
def eS (c0:aHV) (s:aPS):Option aPT:=bif decide (0<s.1) then (aN (s.2.1.take s.2.2.2.2.2.2.1) (aA .i64 (Int.tdiv (aA .i64 (s.1-1)) 2))).bind fun a0=>(cB s.2.2.2.2.2.2.2.2 a0).bind fun n1=>bif decide (n1<0) then (aN (s.2.1.take s.2.2.2.2.2.2.1) (aA .i64 (Int.tdiv (aA .i64 (s.1-1)) 2))).bind fun a2=>(bR (s.2.2.2.1,s.2.2.2.2.1,s.2.2.2.2.2.1,s.2.2.2.2.2.2.1,s.2.2.2.2.2.2.2.1,s.1,a2.1,a2.2.1,a2.2.2.1,a2.2.2.2.1,a2.2.2.2.2,s.2.1,s.2.2.1)).bind fun a3=>some (.next (aA .i64 (Int.tdiv (aA .i64 (s.1-1)) 2),a3.1,a3.2,s.2.2.2)) else aG (gI c0) (s.1,aA .i64 ((aA .i64 (2*s.1))+1),s.2) else aG (gI c0) (s.1,aA .i64 ((aA .i64 (2*s.1))+1),s.2)
def lH (a:aHV):Option aAZ:=aG (eS a) (a.2.2.2.2.2.1,a.2.2.2.2.2.2.2.2.2.2.2.1,a.2.2.2.2.2.2.2.2.2.2.2.2,a.1,a.2.1,a.2.2.1,a.2.2.2.1,a.2.2.2.2.1,a.2.2.2.2.2.2.1,a.2.2.2.2.2.2.2.1,a.2.2.2.2.2.2.2.2.1,a.2.2.2.2.2.2.2.2.2.1,a.2.2.2.2.2.2.2.2.2.2.1)
def RR:fR:=⟨[.l [.i .i64],.l [.b],.l [.i .i64],.n,.n,.i,.i,.i,.i,.i,.i,.l [.i .i64,.i .i64,.i .i64,.i .i64,.i .i64],.l [.i .i64]],[.agg [.sl [.i .i64] [],.sl [.b] [],.sl [.i .i64] [],.pre 0 0 0 false,.own 1 false],.int .i64 0,.agg [.int .i64 0,.int .i64 0,.int .i64 0,.int .i64 0,.int .i64 0]],[.arr [.i .i64,.i .i64,.i .i64,.i .i64,.i .i64] [],.arr [.i .i64] []],[.l [.i .i64,.i .i64,.i .i64,.i .i64,.i .i64],.l [.i .i64]],.tup [],[.arr [.i .i64,.i .i64,.i .i64,.i .i64,.i .i64] [],.arr [.i .i64] []],fun a=>lH a⟩
theorem JN:qP tab 271 RR:=qP.of ZN (wd:=false) (cx:=(wS aH [(176,aIk)] [(288,XO)] [] [])) (qQ.make ⟨RO,trivial⟩ ⟨PY,trivial⟩ trivial) (fun a=>by kernel_rfl)
def tP (p0:aI) (p1:Int):Option (aI×(Int×Int×Int×Int×Int)×Int):=(aN p0.heap p1).bind fun a0=>(EL p0.slots a0.2.2.2).bind fun a1=>bif a1.2 !=0 then some (aI.mk (aT.mk [] [] []) [] [],(0,0,0,0,0),a1.2) else (bX p0.heap).bind fun l2=>(bX p0.where_).bind fun l3=>(aN l2 (aA .i64 ((Int.ofNat l2.length) -1))).bind fun a4=>(iN l2 0 (aA .i64 ((Int.ofNat l2.length) -1))).bind fun _=>(aN l3 a0.2.2.2.1).bind fun _=>bif decide (p1<(aA .i64 ((Int.ofNat l2.length) -1))) then (lH (a1.1.uses,a1.1.used,a1.1.free,(aA .i64 ((Int.ofNat l2.length) -1)).toNat,l2.length,p1,a4.1,a4.2.1,a4.2.2.1,a4.2.2.2.1,a4.2.2.2.2,l2,cH l3 a0.2.2.2.1 (-1))).bind fun a7=>some (aI.mk a1.1 (a7.1.take ((aA .i64 ((Int.ofNat l2.length) -1)).toNat)) a7.2,a0,0) else some (aI.mk a1.1 (l2.take ((aA .i64 ((Int.ofNat l2.length) -1)).toNat)) (cH l3 a0.2.2.2.1 (-1)),a0,0)
def aQI:bO:=⟨aC.cons (aL.agg gW) (aC.one (aL.int .i64)),aL.tup (aC.cons (aL.agg gW) (aC.cons (aL.agg (cN.row kU)) (aC.one (aL.int .i64)))),fun a=>tP a.1 a.2,.frz,false⟩
theorem aIC:aM tab 233 aQI:=aM.of aHv (cx:=(wS aH [(269,aQH),(195,bO.clone kU),(196,bO.clone ki)] [(271,RR)] [(270,aAW)] [])) rfl (qQ.make ⟨aIB,wV,rA,trivial⟩ ⟨JN,trivial⟩ ⟨RF,trivial⟩) (fun a=>by kernel_rfl)
def nF (p0:aI) (p1:Int×Int):Option (aI×(Int×Int×Int×Int×Int)×Int):=(rG p0 p1).bind fun a0=>bif a0.2 !=0 then some (aI.mk (aT.mk [] [] []) [] [],(0,0,0,0,0),a0.2) else (tP p0 a0.1).bind fun a1=>some a1
def aOv:bO:=⟨aC.cons (aL.agg gW) (aC.one (aL.agg (cN.row lS))),aL.tup (aC.cons (aL.agg gW) (aC.cons (aL.agg (cN.row kU)) (aC.one (aL.int .i64)))),fun a=>nF a.1 a.2,.frz,false⟩
theorem Z0:aM tab 191 aOv:=Oc aG1 rfl aH [(232,aOu),(233,aQI)] ⟨ZZ,aIC,trivial⟩ fun a=>by kernel_rfl
def mM (a:aA0):Option (Nat×Nat×cQ):= cU a
def aCL:fR:=⟨[.i,.i,.l [.i .i64,.i .i64,.i .i64]],[.own 0 false,.int .i64 0,.int .i64 0],[.arr [.i .i64,.i .i64,.i .i64] []],[.n,.n,.l [.i .i64,.i .i64,.i .i64]],.pre 0 0 0 false,[.arr [.i .i64,.i .i64,.i .i64] []],fun a=>mM a⟩
theorem aA4:qP tab 192 aCL:=qP.of aG2 (wd:=true) (cx:=(wS aH [] [] [] [])) (qQ.make trivial trivial trivial) (fun a=>by kernel_rfl)
def nX (p0:aP) (p1:Int):Option (aP×(Int×Int)×Int):=(yG p0.certs p1).bind fun a0=>bif a0.2.2 !=0 then some (jB,a0.2) else (kW p0).bind fun r1=>(qI p0.due p1).bind fun a2=>bif a2.2 then (aN p0.due a2.1).bind fun a3=>(nF p0.agenda a3.2).bind fun a4=>bif a4.2.2 !=0 then some (jB,a0.2.1,a4.2.2) else (mM (a2.1,aA .i64 (a2.1+1),r1.due)).bind fun a5=>some (aP.mk r1.now r1.field a0.1 a4.1 (a5.2.2.take a5.1),a0.2.1,0) else some (aP.mk r1.now r1.field a0.1 r1.agenda r1.due,a0.2.1,0)
def aOw:bO:=⟨aC.cons (aL.agg dC) (aC.one (aL.int .i64)),aL.tup (aC.cons (aL.agg dC) (aC.cons (aL.agg (cN.row lS)) (aC.one (aL.int .i64)))),fun a=>nX a.1 a.2,.frz,false⟩
theorem Z1:aM tab 135 aOw:=aM.of aGz (cx:=(wS aH [(189,aQE),(136,aCK),(136,UI),(190,aOs),(191,aOv)] [(192,aCL)] [] [])) rfl (qQ.make ⟨aIy,LF,HS,ZX,Z0,trivial⟩ ⟨aA4,trivial⟩ trivial) (fun a=>by kernel_rfl)
def vZ (p0:aP) (p1:Int):Option (aP×Int):=(gU p0).bind fun n0=>bif n0 !=0 then some (jB,n0) else (nX p0 p1).bind fun a1=>some (a1.1,a1.2.2)
def aQJ:bO:=⟨aC.cons (aL.agg dC) (aC.one (aL.int .i64)),aL.tup (aC.cons (aL.agg dC) (aC.one (aL.int .i64))),fun a=>vZ a.1 a.2,.frz,false⟩
theorem aID:aM tab 211 aQJ:=Oc aHf rfl aH [(62,c62),(135,aOw)] ⟨JL,Z1,trivial⟩ fun a=>by kernel_rfl
def jT (s:(cQ×cQ×Int×Int)):Option (bW (cQ×cQ×Int×Int) Bool):=bif decide (s.2.2.2<s.2.2.1) then (aN s.1 s.2.2.2).bind fun a0=>(aN s.2.1 s.2.2.2).bind fun a1=>bif !((a0.1==a1.1)&&((a0.2.1==a1.2.1)&&(a0.2.2==a1.2.2))) then some (.done false) else some (.next (s.1,s.2.1,s.2.2.1,aA .i64 (s.2.2.2+1))) else some (.done true)
def mN (p0:List (Int×Int×Int)) (p1:List (Int×Int×Int)):Option Bool:=bif (Int.ofNat p0.length) !=(Int.ofNat p1.length) then some false else aG jT (p0,p1,Int.ofNat p0.length,0)
def aQK:bO:=⟨aC.cons (aL.sl eE) (aC.one (aL.sl eE)),aL.bool,fun a=>mN a.1 a.2,.pure,false⟩
theorem aIE:aM tab 212 aQK:=Oc aHg rfl aH [] trivial fun a=>by kernel_rfl
def bS (a:aHW):Option aAZ:=(aN a.2.2.2.2.2.2.2.2.2.1 a.2.2.2.1).bind fun _=>(aN a.2.2.2.2.2.2.2.2.2.2 a.2.2.2.2.2.2.2.1).bind fun _=>bif ((cH a.2.2.2.2.2.2.2.2.2.1 a.2.2.2.1 (a.2.2.2.2.1,a.2.2.2.2.2.1,a.2.2.2.2.2.2.1,a.2.2.2.2.2.2.2.1,a.2.2.2.2.2.2.2.2.1)).length)==a.2.2.2.2.2.2.2.2.2.1.length then bif ((cH a.2.2.2.2.2.2.2.2.2.2 a.2.2.2.2.2.2.2.1 a.2.2.2.1).length)==a.2.2.2.2.2.2.2.2.2.2.length then some (cH a.2.2.2.2.2.2.2.2.2.1 a.2.2.2.1 (a.2.2.2.2.1,a.2.2.2.2.2.1,a.2.2.2.2.2.2.1,a.2.2.2.2.2.2.2.1,a.2.2.2.2.2.2.2.2.1),cH a.2.2.2.2.2.2.2.2.2.2 a.2.2.2.2.2.2.2.1 a.2.2.2.1) else none else none
def aCM:fR:=⟨[.l [.i .i64],.l [.b],.l [.i .i64],.i,.i,.i,.i,.i,.i,.l [.i .i64,.i .i64,.i .i64,.i .i64,.i .i64],.l [.i .i64]],[.agg [.sl [.i .i64] [],.sl [.b] [],.sl [.i .i64] [],.own 0 false,.own 1 false],.int .i64 0,.agg [.int .i64 0,.int .i64 0,.int .i64 0,.int .i64 0,.int .i64 0]],[.arr [.i .i64,.i .i64,.i .i64,.i .i64,.i .i64] [],.arr [.i .i64] []],[.l [.i .i64,.i .i64,.i .i64,.i .i64,.i .i64],.l [.i .i64]],.tup [],[.arr [.i .i64,.i .i64,.i .i64,.i .i64,.i .i64] [],.arr [.i .i64] []],fun a=>bS a⟩
theorem aA5:qP tab 288 aCM:=qP.of ZP (wd:=false) (cx:=(wS aH [] [] [] [])) (qQ.make trivial trivial trivial) (fun a=>by kernel_rfl)
def gJ (c0:aHW) (s:aP4):Option (bW aP4 aPV):=match s with |(a,b,d,e,f,g,h,i,j,k,l,m)=>bif decide (b<(Int.ofNat d.length)) then bif decide ((aA .i64 (b+1))<(Int.ofNat d.length)) then (aN d (aA .i64 (b+1))).bind fun a0=>(aN d b).bind fun a1=>(cB a0 a1).bind fun n2=>bif decide (n2<0) then (aN d (aA .i64 (b+1))).bind fun a3=>(cB a3 (i,j,k,l,m)).bind fun n4=>bif decide (0<=n4) then (bS (f,g,h,a,i,j,k,l,m,d,e)).bind fun a5=>bif a5.1.length==c0.2.2.2.2.2.2.2.2.2.1.length then bif a5.2.length==c0.2.2.2.2.2.2.2.2.2.2.length then some (.done (.done a5)) else none else none else (aN d (aA .i64 (b+1))).bind fun a6=>(bS (f,g,h,a,a6.1,a6.2.1,a6.2.2.1,a6.2.2.2.1,a6.2.2.2.2,d,e)).bind fun a7=>some (.next (aA .i64 (b+1),aA .i64 ((aA .i64 (2*(aA .i64 (b+1))))+1),a7.1,a7.2,(f,g,h,i,j,k,l,m))) else (aN d b).bind fun a8=>(cB a8 (i,j,k,l,m)).bind fun n9=>bif decide (0<=n9) then (bS (f,g,h,a,i,j,k,l,m,d,e)).bind fun a10=>bif a10.1.length==c0.2.2.2.2.2.2.2.2.2.1.length then bif a10.2.length==c0.2.2.2.2.2.2.2.2.2.2.length then some (.done (.done a10)) else none else none else (aN d b).bind fun a11=>(bS (f,g,h,a,a11.1,a11.2.1,a11.2.2.1,a11.2.2.2.1,a11.2.2.2.2,d,e)).bind fun a12=>some (.next (b,aA .i64 ((aA .i64 (2*b))+1),a12.1,a12.2,(f,g,h,i,j,k,l,m))) else (aN d b).bind fun a13=>(cB a13 (i,j,k,l,m)).bind fun n14=>bif decide (0<=n14) then (bS (f,g,h,a,i,j,k,l,m,d,e)).bind fun a15=>bif a15.1.length==c0.2.2.2.2.2.2.2.2.2.1.length then bif a15.2.length==c0.2.2.2.2.2.2.2.2.2.2.length then some (.done (.done a15)) else none else none else (aN d b).bind fun a16=>(bS (f,g,h,a,a16.1,a16.2.1,a16.2.2.1,a16.2.2.2.1,a16.2.2.2.2,d,e)).bind fun a17=>some (.next (b,aA .i64 ((aA .i64 (2*b))+1),a17.1,a17.2,(f,g,h,i,j,k,l,m))) else (bS (f,g,h,a,i,j,k,l,m,d,e)).bind fun a18=>bif a18.1.length==c0.2.2.2.2.2.2.2.2.2.1.length then bif a18.2.length==c0.2.2.2.2.2.2.2.2.2.2.length then some (.done (.done a18)) else none else none
def eT (c0:aHW) (s:aPU):Option aPV:=bif decide (0<s.1) then (aN s.2.1 (aA .i64 (Int.tdiv (aA .i64 (s.1-1)) 2))).bind fun a0=>(cB s.2.2.2.2.2.2 a0).bind fun n1=>bif decide (n1<0) then (aN s.2.1 (aA .i64 (Int.tdiv (aA .i64 (s.1-1)) 2))).bind fun a2=>(bS (s.2.2.2.1,s.2.2.2.2.1,s.2.2.2.2.2.1,s.1,a2.1,a2.2.1,a2.2.2.1,a2.2.2.2.1,a2.2.2.2.2,s.2.1,s.2.2.1)).bind fun a3=>some (.next (aA .i64 (Int.tdiv (aA .i64 (s.1-1)) 2),a3.1,a3.2,s.2.2.2)) else aG (gJ c0) (s.1,aA .i64 ((aA .i64 (2*s.1))+1),s.2) else aG (gJ c0) (s.1,aA .i64 ((aA .i64 (2*s.1))+1),s.2)
def fB (a:aHW):Option aAZ:=aG (eT a) (a.2.2.2.1,a.2.2.2.2.2.2.2.2.2.1,a.2.2.2.2.2.2.2.2.2.2,a.1,a.2.1,a.2.2.1,a.2.2.2.2.1,a.2.2.2.2.2.1,a.2.2.2.2.2.2.1,a.2.2.2.2.2.2.2.1,a.2.2.2.2.2.2.2.2.1)
def XP:fR:=⟨[.l [.i .i64],.l [.b],.l [.i .i64],.i,.i,.i,.i,.i,.i,.l [.i .i64,.i .i64,.i .i64,.i .i64,.i .i64],.l [.i .i64]],[.agg [.sl [.i .i64] [],.sl [.b] [],.sl [.i .i64] [],.own 0 false,.own 1 false],.int .i64 0,.agg [.int .i64 0,.int .i64 0,.int .i64 0,.int .i64 0,.int .i64 0]],[.arr [.i .i64,.i .i64,.i .i64,.i .i64,.i .i64] [],.arr [.i .i64] []],[.l [.i .i64,.i .i64,.i .i64,.i .i64,.i .i64],.l [.i .i64]],.tup [],[.arr [.i .i64,.i .i64,.i .i64,.i .i64,.i .i64] [],.arr [.i .i64] []],fun a=>fB a⟩
theorem PZ:qP tab 271 XP:=qP.of ZN (wd:=false) (cx:=(wS aH [(176,aIk)] [(288,XO),(288,aCM)] [] [])) (qQ.make ⟨RO,trivial⟩ ⟨PY,aA5,trivial⟩ trivial) (fun a=>by kernel_rfl)
def wB (p0:aI) (p1:Int×Int) (p2:Int×Int):Option (aI×Int):=(kJ p0).bind fun n0=>(fV p2).bind fun n1=>bif (if n1>n0 then n1 else n0) !=0 then some (aI.mk (aT.mk [] [] []) [] [],if n1>n0 then n1 else n0) else (rG p0 p1).bind fun a2=>bif a2.2 !=0 then some (aI.mk (aT.mk [] [] []) [] [],a2.2) else (bX p0.heap).bind fun l3=>(bX p0.where_).bind fun l4=>(aN l3 a2.1).bind fun a5=>(fB (p0.slots.uses,p0.slots.used,p0.slots.free,a2.1,p2.1,p2.2,a5.2.2.1,a5.2.2.2.1,a5.2.2.2.2,l3,l4)).bind fun a6=>some (aI.mk p0.slots a6.1 a6.2,0)
def aQL:bO:=⟨aC.cons (aL.agg gW) (aC.cons (aL.agg (cN.row lS)) (aC.one (aL.agg (cN.row lS)))),aL.tup (aC.cons (aL.agg gW) (aC.one (aL.int .i64))),fun a=>wB a.1 a.2.1 a.2.2,.frz,false⟩
theorem aIF:aM tab 257 aQL:=aM.of aHA (cx:=(wS aH [(115,aA2),(72,c72),(232,aOu),(195,bO.clone kU),(196,bO.clone ki)] [(271,RR),(271,XP)] [(270,aAW)] [])) rfl (qQ.make ⟨HR,BM,ZZ,wV,rA,trivial⟩ ⟨JN,PZ,trivial⟩ ⟨RF,trivial⟩) (fun a=>by kernel_rfl)
def zF (p0:Int×Int×Int×Int×Int) (p1:Int):Option Bool:=some (p0.2.2.1==p1)
def aQM:bO:=⟨aC.cons (aL.agg (cN.row kU)) (aC.one (aL.ref (cN.int .i64))),aL.bool,fun a=>zF a.1 a.2,.pure,false⟩
theorem aIG:aM tab 282 aQM:=Oc aHN rfl aH [] trivial fun a=>by kernel_rfl
def cR (s:(sJ×Int×Int×Int)):Option (bW (sJ×Int×Int×Int) Int):=bif decide (s.2.2.2<s.2.2.1) then (aN s.1 s.2.2.2).bind fun a0=>(zF a0 s.2.1).bind fun b1=>bif b1 then some (.done s.2.2.2) else some (.next (s.1,s.2.1,s.2.2.1,aA .i64 (s.2.2.2+1))) else some (.done (-1))
def eV (p0:List (Int×Int×Int×Int×Int)) (p1:Int):Option Int:=aG cR (p0,p1,Int.ofNat p0.length,0)
def UL:bO:=⟨aC.cons (aL.sl kU) (aC.one (aL.clo 282 (aC.one (aL.ref (cN.int .i64))))),aL.int .i64,fun a=>eV a.1 a.2,.pure,false⟩
theorem UM:aM tab 291 UL:=Oc aHS rfl aH [(282,aQM)] ⟨aIG,trivial⟩ fun a=>by kernel_rfl
def cS (p0:List (Int×Int×Int×Int×Int)) (p1:Int):Option Bool:=(eV p0 p1).bind fun n0=>some (decide (0<=n0))
def UN:bO:=⟨aC.cons (aL.sl kU) (aC.one (aL.clo 282 (aC.one (aL.ref (cN.int .i64))))),aL.bool,fun a=>cS a.1 a.2,.pure,false⟩
theorem UO:aM tab 281 UN:=Oc aHM rfl aH [(291,UL)] ⟨UM,trivial⟩ fun a=>by kernel_rfl
def xA (p0:List Int):Option ((List Int)×Int):=(iN p0 0 (aA .i64 ((Int.ofNat p0.length) -1))).bind fun l0=>(bX l0).bind fun l1=>(aN p0 (aA .i64 ((Int.ofNat p0.length) -1))).bind fun n2=>some (l1,n2)
def aQN:bO:=⟨aC.one (aL.sl ki),aL.tup (aC.cons (aL.sl ki) (aC.one (aL.int .i64))),fun a=>xA a,.frz,false⟩
theorem aIH:aM tab 292 aQN:=Oc aHT rfl aH [(293,bO.clone ki)] ⟨UA,trivial⟩ fun a=>by kernel_rfl
def EM (p0:aT):Option (aT×(Int×Int)×Int):=(sM p0).bind fun n0=>bif n0 !=0 then some (aT.mk [] [] [],(0,0),n0) else bif (Int.ofNat p0.free.length)==0 then some (aT.mk [] [] [],(0,0),18) else (xA p0.free).bind fun a1=>(aN p0.uses a1.2).bind fun n2=>bif n2==1000000 then some (aT.mk [] [] [],(0,0),18) else (bX p0.uses).bind fun l3=>(bX p0.used).bind fun l4=>(aN l4 a1.2).bind fun _=>(aN l3 a1.2).bind fun n6=>(aN l3 a1.2).bind fun _=>(aN (cH l3 a1.2 (aA .i64 (n6+1))) a1.2).bind fun n8=>some (aT.mk (cH l3 a1.2 (aA .i64 (n6+1))) (cH l4 a1.2 true) a1.1,(a1.2,n8),0)
def aQO:bO:=⟨aC.one (aL.agg pM),aL.tup (aC.cons (aL.agg pM) (aC.cons (aL.agg (cN.row lS)) (aC.one (aL.int .i64)))),fun a=>EM a,.frz,false⟩
theorem aII:aM tab 283 aQO:=aM.of aHO (cx:=(wS aH [(175,aIe),(292,aQN),(196,bO.clone ki),(197,bO.clone kb)] [] [(286,aCy)] [])) rfl (qQ.make ⟨RN,aIH,rA,wU,trivial⟩ trivial ⟨ZO,trivial⟩) (fun a=>by kernel_rfl)
def mI (p0:aI) (p1:Int×Int) (p2:Int):Option (aI×(Int×Int)×Int):=(kJ p0).bind fun n0=>(fV p1).bind fun n1=>bif (if n1>n0 then n1 else n0) !=0 then some (aI.mk (aT.mk [] [] []) [] [],(0,0),if n1>n0 then n1 else n0) else bif decide (p2<0) then some (aI.mk (aT.mk [] [] []) [] [],(0,0),2) else bif decide (1000000<p2) then some (aI.mk (aT.mk [] [] []) [] [],(0,0),2) else (cS p0.heap p2).bind fun b2=>bif b2 then some (aI.mk (aT.mk [] [] []) [] [],(0,0),14) else (EM p0.slots).bind fun a3=>bif a3.2.2 !=0 then some (aI.mk (aT.mk [] [] []) [] [],(0,0),a3.2.2) else (bX p0.heap).bind fun l4=>(bX p0.where_).bind fun l5=>(bI l4 [(p1.1,p1.2,p2,a3.2.1)]).bind fun l6=>(fB (a3.1.uses,a3.1.used,a3.1.free,aA .i64 ((Int.ofNat l6.length) -1),p1.1,p1.2,p2,a3.2.1.1,a3.2.1.2,l6,l5)).bind fun a7=>some (aI.mk a3.1 a7.1 a7.2,a3.2.1,0)
def aOx:bO:=⟨aC.cons (aL.agg gW) (aC.cons (aL.agg (cN.row lS)) (aC.one (aL.int .i64))),aL.tup (aC.cons (aL.agg gW) (aC.cons (aL.agg (cN.row lS)) (aC.one (aL.int .i64)))),fun a=>mI a.1 a.2.1 a.2.2,.frz,false⟩
theorem Z2:aM tab 258 aOx:=aM.of aHB (cx:=(wS aH [(115,aA2),(72,c72),(281,UN),(283,aQO),(195,bO.clone kU),(196,bO.clone ki)] [(271,RR),(271,XP)] [(270,aAW)] [])) rfl (qQ.make ⟨HR,BM,UO,aII,wV,rA,trivial⟩ ⟨JN,PZ,trivial⟩ ⟨RF,trivial⟩) (fun a=>by kernel_rfl)
def dM (s:Zt2):Option (bW Zt2 Zt4):=match s with |(a,b,d,e,f,g,h,i,j,k,l,m,n,o,q,r,t,u,v,w,x,y,z,A,B,C,D,E,F)=>bif decide (d<b) then (aN a d).bind fun a0=>(sO (Field.mk q) a0.2 (e,f)).bind fun a1=>(qI o a0.1).bind fun a2=>bif a1.2.1 then bif a2.2 then (aN o a2.1).bind fun a3=>(wB (aI.mk (aT.mk z A B) C D) a3.2 a1.1).bind fun a4=>(aN o a2.1).bind fun a5=>(bI F [a5]).bind fun l6=>bif a4.2 !=0 then some (.done (.done (jB,a4.2))) else some (.next (a,b,aA .i64 (d+1),e,f,g,h,i,j,k,l,m,n,o,q,r,t,u,v,w,x,y,a4.1.slots.uses,a4.1.slots.used,a4.1.slots.free,a4.1.heap,a4.1.where_,E,l6)) else bif a1.2.1 then (mI (aI.mk (aT.mk z A B) C D) a1.1 a0.1).bind fun a7=>(bI F [(a0.1,a7.2.1)]).bind fun l8=>bif a7.2.2 !=0 then some (.done (.done (jB,a7.2.2))) else some (.next (a,b,aA .i64 (d+1),e,f,g,h,i,j,k,l,m,n,o,q,r,t,u,v,w,x,y,a7.1.slots.uses,a7.1.slots.used,a7.1.slots.free,a7.1.heap,a7.1.where_,E,l8)) else bif a2.2 then (aN o a2.1).bind fun a9=>(nF (aI.mk (aT.mk z A B) C D) a9.2).bind fun a10=>bif a10.2.2 !=0 then some (.done (.done (jB,a10.2.2))) else some (.next (a,b,aA .i64 (d+1),e,f,g,h,i,j,k,l,m,n,o,q,r,t,u,v,w,x,y,a10.1.slots.uses,a10.1.slots.used,a10.1.slots.free,a10.1.heap,a10.1.where_,(E,F))) else bif a1.2.2 !=0 then some (.done (.done (jB,a1.2.2))) else some (.next (a,b,aA .i64 (d+1),(e,f,g,h,i,j,k,l,m,n,o,q,r,t,u,v,w,x,y,z,A,B,C,D,E,F))) else bif a1.2.1 then (mI (aI.mk (aT.mk z A B) C D) a1.1 a0.1).bind fun a11=>(bI F [(a0.1,a11.2.1)]).bind fun l12=>bif a11.2.2 !=0 then some (.done (.done (jB,a11.2.2))) else some (.next (a,b,aA .i64 (d+1),e,f,g,h,i,j,k,l,m,n,o,q,r,t,u,v,w,x,y,a11.1.slots.uses,a11.1.slots.used,a11.1.slots.free,a11.1.heap,a11.1.where_,E,l12)) else bif a2.2 then (aN o a2.1).bind fun a13=>(nF (aI.mk (aT.mk z A B) C D) a13.2).bind fun a14=>bif a14.2.2 !=0 then some (.done (.done (jB,a14.2.2))) else some (.next (a,b,aA .i64 (d+1),e,f,g,h,i,j,k,l,m,n,o,q,r,t,u,v,w,x,y,a14.1.slots.uses,a14.1.slots.used,a14.1.slots.free,a14.1.heap,a14.1.where_,(E,F))) else bif a1.2.2 !=0 then some (.done (.done (jB,a1.2.2))) else some (.next (a,b,aA .i64 (d+1),(e,f,g,h,i,j,k,l,m,n,o,q,r,t,u,v,w,x,y,z,A,B,C,D,E,F))) else some (.done (.done (aP.mk (v,w) (Field.mk E) (aZ.mk x y) (aI.mk (aT.mk z A B) C D) F,0)))
def lT (s:aPO):Option Zt4:=match s with |(a,b,d,e,f,g,h,i,j,k,l,m,n,o,q,r,t,u)=>bif decide (d<b) then (aN a d).bind fun a0=>(kK (Field.mk q) a0.2.1).bind fun a1=>bif decide (a1.1<0) then some (.done (jB,6)) else (kK (Field.mk q) a0.2.2).bind fun a2=>bif decide (a2.1<0) then some (.done (jB,6)) else some (.next (a,b,aA .i64 (d+1),(e,f,g,h,i,j,k,l,m,n,o,q,r,t,u))) else (kW (aP.mk (e,f) (Field.mk g) (aZ.mk h i) (aI.mk (aT.mk j k l) m n) o)).bind fun r3=>(bX q).bind fun l4=>aG dM (i,Int.ofNat i.length,0,e,f,g,h,i,j,k,l,m,n,o,q,r,t,u,r3.now.1,r3.now.2,r3.certs.next_,r3.certs.list,r3.agenda.slots.uses,r3.agenda.slots.used,r3.agenda.slots.free,r3.agenda.heap,r3.agenda.where_,l4,[])
def qJ (p0:aP) (p1:Field):Option (aP×Int):=(gU p0).bind fun n0=>bif n0 !=0 then some (jB,n0) else (dV p1).bind fun n1=>bif n1 !=0 then some (jB,n1) else aG lT (p0.certs.list,Int.ofNat p0.certs.list.length,0,p0.now.1,p0.now.2,p0.field.points,p0.certs.next_,p0.certs.list,p0.agenda.slots.uses,p0.agenda.slots.used,p0.agenda.slots.free,p0.agenda.heap,p0.agenda.where_,p0.due,p1.points,0,0,0)
def aQP:bO:=⟨aC.cons (aL.agg dC) (aC.one (aL.agg bZ)),aL.tup (aC.cons (aL.agg dC) (aC.one (aL.int .i64))),fun a=>qJ a.1 a.2,.frz,false⟩
theorem aIJ:aM tab 213 aQP:=Oc aHh rfl aH [(62,c62),(85,c85),(178,aIm),(136,aCK),(136,UI),(89,bO.clone eE),(116,aIr),(190,aOs),(257,aQL),(258,aOx),(191,aOv)] ⟨JL,GG,RP,LF,HS,vW,RQ,ZX,aIF,Z2,Z0,trivial⟩ fun a=>by kernel_rfl
def FH (p0:Int×Int×Int) (p1:Int×Int):Option Bool:=some ((p0.2.1==p1.1)&&(p0.2.2==p1.2))
def aQQ:bO:=⟨aC.cons (aL.agg (cN.row eE)) (aC.one (aL.ref (cN.row lS))),aL.bool,fun a=>FH a.1 a.2,.pure,false⟩
theorem aIK:aM tab 215 aQQ:=Oc aHi rfl aH [] trivial fun a=>by kernel_rfl
def nN (s:RG):Option (bW RG Int):=bif decide (s.2.2.2.2<s.2.2.2.1) then (aN s.1 s.2.2.2.2).bind fun a0=>(FH a0 (s.2.1,s.2.2.1)).bind fun b1=>bif b1 then some (.done s.2.2.2.2) else some (.next (s.1,s.2.1,s.2.2.1,s.2.2.2.1,aA .i64 (s.2.2.2.2+1))) else some (.done (-1))
def iU (p0:List (Int×Int×Int)) (p1:(Int×Int)):Option Int:=aG nN (p0,p1.1,p1.2,Int.ofNat p0.length,0)
def UP:bO:=⟨aC.cons (aL.sl eE) (aC.one (aL.clo 215 (aC.one (aL.ref (cN.row lS))))),aL.int .i64,fun a=>iU a.1 a.2,.pure,false⟩
theorem UQ:aM tab 259 UP:=Oc ZM rfl aH [(215,aQQ)] ⟨aIK,trivial⟩ fun a=>by kernel_rfl
def eG (p0:List (Int×Int×Int)) (p1:(Int×Int)):Option Bool:=(iU p0 p1).bind fun n0=>some (decide (0<=n0))
def UR:bO:=⟨aC.cons (aL.sl eE) (aC.one (aL.clo 215 (aC.one (aL.ref (cN.row lS))))),aL.bool,fun a=>eG a.1 a.2,.pure,false⟩
theorem US:aM tab 214 UR:=Oc ZL rfl aH [(259,UP)] ⟨UQ,trivial⟩ fun a=>by kernel_rfl
def dI (p0:Int):Option (aP×Int×Int):=some (jB,0,p0)
def aQR:bO:=⟨aC.one (aL.int .i64),aL.tup (aC.cons (aL.agg dC) (aC.cons (aL.int .i64) (aC.one (aL.int .i64)))),fun a=>dI a,.frz,false⟩
theorem aIL:aM tab 260 aQR:=Oc aHC rfl aH [] trivial fun a=>by kernel_rfl
def GH (p0:Int×Int×Int) (p1:Int×Int):Option Bool:=some ((p0.2.1==p1.1)&&(p0.2.2==p1.2))
def aQS:bO:=⟨aC.cons (aL.agg (cN.row eE)) (aC.one (aL.ref (cN.row lS))),aL.bool,fun a=>GH a.1 a.2,.pure,false⟩
theorem aIM:aM tab 284 aQS:=Oc aHP rfl aH [] trivial fun a=>by kernel_rfl
def dH (s:RG):Option (bW RG Int):=bif decide (s.2.2.2.2<s.2.2.2.1) then (aN s.1 s.2.2.2.2).bind fun a0=>(GH a0 (s.2.1,s.2.2.1)).bind fun b1=>bif b1 then some (.done s.2.2.2.2) else some (.next (s.1,s.2.1,s.2.2.1,s.2.2.2.1,aA .i64 (s.2.2.2.2+1))) else some (.done (-1))
def gA (p0:List (Int×Int×Int)) (p1:(Int×Int)):Option Int:=aG dH (p0,p1.1,p1.2,Int.ofNat p0.length,0)
def UT:bO:=⟨aC.cons (aL.sl eE) (aC.one (aL.clo 284 (aC.one (aL.ref (cN.row lS))))),aL.int .i64,fun a=>gA a.1 a.2,.pure,false⟩
theorem UU:aM tab 259 UT:=Oc ZM rfl aH [(284,aQS)] ⟨aIM,trivial⟩ fun a=>by kernel_rfl
def cC (p0:List (Int×Int×Int)) (p1:(Int×Int)):Option Bool:=(gA p0 p1).bind fun n0=>some (decide (0<=n0))
def UV:bO:=⟨aC.cons (aL.sl eE) (aC.one (aL.clo 284 (aC.one (aL.ref (cN.row lS))))),aL.bool,fun a=>cC a.1 a.2,.pure,false⟩
theorem UW:aM tab 214 UV:=Oc ZL rfl aH [(259,UT)] ⟨UU,trivial⟩ fun a=>by kernel_rfl
def HT (p0:aZ) (p1:Int×Int):Option (aZ×Int×Int):=(sL p0).bind fun n0=>bif n0 !=0 then some (aZ.mk 0 [],0,n0) else (wX p1).bind fun b1=>bif !b1 then some (aZ.mk 0 [],0,8) else (cC p0.list p1).bind fun b2=>bif b2 then some (aZ.mk 0 [],0,14) else bif (Int.ofNat p0.list.length)==200 then some (aZ.mk 0 [],0,18) else bif p0.next_==1000000 then some (aZ.mk 0 [],0,18) else (bX p0.list).bind fun l3=>(bI l3 [(p0.next_,p1)]).bind fun l4=>some (aZ.mk (aA .i64 (p0.next_+1)) l4,p0.next_,0)
def aQT:bO:=⟨aC.cons (aL.agg qZ) (aC.one (aL.agg (cN.row lS))),aL.tup (aC.cons (aL.agg qZ) (aC.cons (aL.int .i64) (aC.one (aL.int .i64)))),fun a=>HT a.1 a.2,.frz,false⟩
theorem aIN:aM tab 261 aQT:=Oc aHD rfl aH [(114,aIb),(174,aOq),(214,UV),(193,bO.clone eE)] ⟨RM,ZW,UW,AG,trivial⟩ fun a=>by kernel_rfl
def jF (p0:aP) (p1:Int×Int):Option (aP×Int×Int):=(gU p0).bind fun n0=>bif n0 !=0 then (dI n0).bind fun a1=>some a1 else (HT p0.certs p1).bind fun a2=>bif a2.2.2==8 then (dI a2.2.2).bind fun a3=>some a3 else (kK p0.field p1.1).bind fun a4=>bif decide (a4.1<0) then (dI 6).bind fun a5=>some a5 else (kK p0.field p1.2).bind fun a6=>bif decide (a6.1<0) then (dI 6).bind fun a7=>some a7 else bif a2.2.2 !=0 then (dI a2.2.2).bind fun a8=>some a8 else (kW p0).bind fun r9=>(sO p0.field p1 p0.now).bind fun a10=>bif a10.2.2 !=0 then (dI a10.2.2).bind fun a11=>some a11 else bif a10.2.1 then (mI p0.agenda a10.1 a2.2.1).bind fun a12=>bif a12.2.2 !=0 then (dI a12.2.2).bind fun a13=>some a13 else (bI r9.due [(a2.2.1,a12.2.1)]).bind fun l14=>some (aP.mk r9.now r9.field a2.1 a12.1 l14,a2.2.1,0) else some (aP.mk r9.now r9.field a2.1 r9.agenda r9.due,a2.2.1,0)
def aQU:bO:=⟨aC.cons (aL.agg dC) (aC.one (aL.agg (cN.row lS))),aL.tup (aC.cons (aL.agg dC) (aC.cons (aL.int .i64) (aC.one (aL.int .i64)))),fun a=>jF a.1 a.2,.frz,false⟩
theorem aIO:aM tab 216 aQU:=Oc aHj rfl aH [(62,c62),(260,aQR),(261,aQT),(178,aIm),(136,aCK),(136,UI),(116,aIr),(258,aOx)] ⟨JL,aIL,aIN,RP,LF,HS,RQ,Z2,trivial⟩ fun a=>by kernel_rfl
def fG (s:Zt7):Option (bW Zt7 Zt3):=match s with |(a,b,d,e,f,g,h,i,j,k,l,m,n,o,q,r,t)=>bif decide (d<b) then (aN a d).bind fun a0=>(eG i a0).bind fun b1=>bif b1 then some (.next (a,b,aA .i64 (d+1),(e,f,g,h,i,j,k,l,m,n,o,q,r,t))) else (jF (aP.mk (e,f) (Field.mk g) (aZ.mk h i) (aI.mk (aT.mk j k l) m n) o) a0).bind fun a2=>bif a2.2.2 !=0 then some (.done (.done (jB,a2.2.2))) else some (.next (a,b,aA .i64 (d+1),a2.1.now.1,a2.1.now.2,a2.1.field.points,a2.1.certs.next_,a2.1.certs.list,a2.1.agenda.slots.uses,a2.1.agenda.slots.used,a2.1.agenda.slots.free,a2.1.agenda.heap,a2.1.agenda.where_,a2.1.due,(q,r,t))) else some (.done (.done (aP.mk (e,f) (Field.mk g) (aZ.mk h i) (aI.mk (aT.mk j k l) m n) o,0)))
def dN (s:aPN):Option Zt3:=match s with |(a,b,d,e,f,g,h,i,j,k,l,m,n,o,q,r,t,u,v)=>bif decide (e<d) then (aN b e).bind fun a0=>(fW a a0.2).bind fun b1=>bif !b1 then (vZ (aP.mk (f,g) (Field.mk h) (aZ.mk i j) (aI.mk (aT.mk k l m) n o) q) a0.1).bind fun a2=>some (.next (a,b,d,aA .i64 (e+1),a2.1.now.1,a2.1.now.2,a2.1.field.points,a2.1.certs.next_,a2.1.certs.list,a2.1.agenda.slots.uses,a2.1.agenda.slots.used,a2.1.agenda.slots.free,a2.1.agenda.heap,a2.1.agenda.where_,a2.1.due,(r,t,u,v))) else some (.next (a,b,d,aA .i64 (e+1),(f,g,h,i,j,k,l,m,n,o,q,r,t,u,v))) else (mN h r).bind fun b3=>bif !b3 then (qJ (aP.mk (f,g) (Field.mk h) (aZ.mk i j) (aI.mk (aT.mk k l m) n o) q) (Field.mk r)).bind fun a4=>bif a4.2 !=0 then some (.done (jB,a4.2)) else aG fG (a,Int.ofNat a.length,0,a4.1.now.1,a4.1.now.2,a4.1.field.points,a4.1.certs.next_,a4.1.certs.list,a4.1.agenda.slots.uses,a4.1.agenda.slots.used,a4.1.agenda.slots.free,a4.1.agenda.heap,a4.1.agenda.where_,a4.1.due,(t,u,v)) else aG fG (a,Int.ofNat a.length,0,f,g,h,i,j,k,l,m,n,o,q,(t,u,v))
def nY (p0:aP) (p1:Field) (p2:List (Int×Int)):Option (aP×Int):=aG dN (p2,p0.certs.list,Int.ofNat p0.certs.list.length,0,p0.now.1,p0.now.2,p0.field.points,p0.certs.next_,p0.certs.list,p0.agenda.slots.uses,p0.agenda.slots.used,p0.agenda.slots.free,p0.agenda.heap,p0.agenda.where_,p0.due,p1.points,0,0,0)
def aQV:bO:=⟨aC.cons (aL.agg dC) (aC.cons (aL.agg bZ) (aC.one (aL.sl lS))),aL.tup (aC.cons (aL.agg dC) (aC.one (aL.int .i64))),fun a=>nY a.1 a.2.1 a.2.2,.frz,false⟩
theorem aIP:aM tab 167 aQV:=Oc aGK rfl aH [(64,c64),(211,aQJ),(212,aQK),(213,aQP),(214,UR),(216,aQU)] ⟨XM,aID,aIE,aIJ,US,aIO,trivial⟩ fun a=>by kernel_rfl
def fH (s:aAY):Option (bW aAY Zt1):=match s with |(a,b,d,e,f,g,h,i,j,k,l,m,n,o,q,r,t,u,v)=>bif decide (e<d) then (aN b e).bind fun a0=>(wY (Field.mk r) a0.1).bind fun a1=>(wY (Field.mk r) a0.2).bind fun a2=>bif a1.2 !=0 then some (.done (.done (.done (jB,6)))) else bif a2.2 !=0 then some (.done (.done (.done (jB,6)))) else some (.next (a,b,d,aA .i64 (e+1),(f,g,h,i,j,k,l,m,n,o,q,r,t,u,v))) else (wZ (aP.mk (f,g) (Field.mk h) (aZ.mk i j) (aI.mk (aT.mk k l m) n o) q)).bind fun r3=>(nY r3 (Field.mk r) a).bind fun a4=>some (.done (.done (.done a4)))
def eK (s:aAY):Option Zt1:=bif decide (s.2.2.2.1<s.2.2.1) then (aN s.2.1 s.2.2.2.1).bind fun a0=>(iN s.1 0 s.2.2.2.1).bind fun l1=>(fW l1 a0).bind fun b2=>bif b2 then some (.done (.done (jB,14))) else some (.next (s.1,s.2.1,s.2.2.1,aA .i64 (s.2.2.2.1+1),s.2.2.2.2)) else aG fH (s.1,s.1,Int.ofNat s.1.length,0,s.2.2.2.2)
def eL (s:aAY):Option aPM:=bif decide (s.2.2.2.1<s.2.2.1) then (aN s.2.1 s.2.2.2.1).bind fun a0=>bif decide (a0.1<0) then some (.done (jB,8)) else bif decide (a0.2<0) then some (.done (jB,8)) else bif decide (65535<a0.1) then some (.done (jB,8)) else bif decide (65535<a0.2) then some (.done (jB,8)) else bif a0.1==a0.2 then some (.done (jB,8)) else some (.next (s.1,s.2.1,s.2.2.1,aA .i64 (s.2.2.2.1+1),s.2.2.2.2)) else aG eK (s.1,s.1,Int.ofNat s.1.length,0,s.2.2.2.2)
def nZ (p0:aP) (p1:Field) (p2:List (Int×Int)):Option (aP×Int):=(gU p0).bind fun n0=>bif n0 !=0 then some (jB,n0) else (dV p1).bind fun n1=>bif n1 !=0 then some (jB,n1) else aG eL (p2,p2,Int.ofNat p2.length,0,p0.now.1,p0.now.2,p0.field.points,p0.certs.next_,p0.certs.list,p0.agenda.slots.uses,p0.agenda.slots.used,p0.agenda.slots.free,p0.agenda.heap,p0.agenda.where_,p0.due,p1.points,0,0,0)
def aQW:bO:=⟨aC.cons (aL.agg dC) (aC.cons (aL.agg bZ) (aC.one (aL.sl lS))),aL.tup (aC.cons (aL.agg dC) (aC.one (aL.int .i64))),fun a=>nZ a.1 a.2.1 a.2.2,.frz,false⟩
theorem aIQ:aM tab 106 aQW:=Oc aGe rfl aH [(62,c62),(85,c85),(64,c64),(166,aQA),(168,aQB),(168,aJ9),(167,aQV)] ⟨JL,GG,XM,aIu,aIv,aCI,aIP,trivial⟩ fun a=>by kernel_rfl
def dO (p0:aP) (p1:Field):Option (bA×Int):=(mH p1 p0.now).bind fun a0=>(nZ p0 p1 a0.2).bind fun a1=>bif a1.2 !=0 then some (bA.mk jB [],a1.2) else some (bA.mk a1.1 a0.1,0)
def c54:bO:=⟨aC.cons (aL.agg dC) (aC.one (aL.agg bZ)),aL.tup (aC.cons (aL.agg dX) (aC.one (aL.int .i64))),fun a=>dO a.1 a.2,.frz,false⟩
theorem NM:aM tab 54 c54:=Oc aNI rfl aH [(57,c57),(106,aQW)] ⟨XK,aIQ,trivial⟩ fun a=>by kernel_rfl
def jD (p0:Field) (p1:Int×Int):Option (bA×Int):=(EJ p0 p1).bind fun a0=>bif a0.2 !=0 then some (bA.mk jB [],a0.2) else (dO a0.1 p0).bind fun a1=>some a1
def c12:bO:=⟨aC.cons (aL.agg bZ) (aC.one (aL.agg (cN.row lS))),aL.tup (aC.cons (aL.agg dX) (aC.one (aL.int .i64))),fun a=>jD a.1 a.2,.frz,false⟩
theorem aCN:aM tab 12 c12:=Oc aNj rfl aH [(53,c53),(54,c54)] ⟨aOl,NM,trivial⟩ fun a=>by kernel_rfl
def lI (s:((List Int)×(List Int)×Int×Int)):Option (bW ((List Int)×(List Int)×Int×Int) Bool):=bif decide (s.2.2.2<s.2.2.1) then (aN s.1 s.2.2.2).bind fun n0=>(aN s.2.1 s.2.2.2).bind fun n1=>bif n0 !=n1 then some (.done false) else some (.next (s.1,s.2.1,s.2.2.1,aA .i64 (s.2.2.2+1))) else some (.done true)
def oN (p0:List Int) (p1:List Int):Option Bool:=bif (Int.ofNat p0.length) !=(Int.ofNat p1.length) then some false else aG lI (p0,p1,Int.ofNat p0.length,0)
def c63:bO:=⟨aC.cons (aL.sl ki) (aC.one (aL.sl ki)),aL.bool,fun a=>oN a.1 a.2,.pure,false⟩
theorem aOy:aM tab 63 c63:=Oc aNO rfl aH [] trivial fun a=>by kernel_rfl
def mY (s:(jC×cQ×Int×Int)):Option (bW (jC×cQ×Int×Int) Int):=bif decide (s.2.2.2<s.2.2.1) then (aN s.2.1 s.2.2.2).bind fun a0=>(fW s.1 a0.2).bind fun b1=>bif !b1 then some (.done 8) else some (.next (s.1,s.2.1,s.2.2.1,aA .i64 (s.2.2.2+1))) else some (.done 0)
def kN (p0:bA):Option Int:=(gU p0.clock).bind fun n0=>bif n0 !=0 then some 8 else (mH p0.clock.field p0.clock.now).bind fun a1=>(oN a1.1 p0.up).bind fun b2=>bif !b2 then some 8 else bif (Int.ofNat a1.2.length) !=(Int.ofNat p0.clock.certs.list.length) then some 8 else aG mY (a1.2,p0.clock.certs.list,Int.ofNat p0.clock.certs.list.length,0)
def c19:bO:=⟨aC.one (aL.agg dX),aL.int .i64,fun a=>kN a,.pure,false⟩
theorem NN:aM tab 19 c19:=Oc aNl rfl aH [(62,c62),(57,c57),(63,c63),(64,c64)] ⟨JL,XK,aOy,XM,trivial⟩ fun a=>by kernel_rfl
def NO (p0:aI):Option ((Int×Int×Int×Int×Int)×Int):=(kJ p0).bind fun n0=>bif n0 !=0 then some ((0,0,0,0,0),n0) else bif (Int.ofNat p0.heap.length)==0 then some ((0,0,0,0,0),42) else (aN p0.heap 0).bind fun a1=>some (a1,0)
def aQX:bO:=⟨aC.one (aL.agg gW),aL.tup (aC.cons (aL.agg (cN.row kU)) (aC.one (aL.int .i64))),fun a=>NO a,.pure,false⟩
theorem aIR:aM tab 188 aQX:=Oc aGY rfl aH [(115,aA2)] ⟨HR,trivial⟩ fun a=>by kernel_rfl
def DL (p0:aP) (p1:Int×Int):Option (Bool×Int):=(gU p0).bind fun n0=>(fV p1).bind fun n1=>bif (if n1>n0 then n1 else n0) !=0 then some (false,if n1>n0 then n1 else n0) else (sN p1 p0.now).bind fun a2=>bif decide (a2.1<0) then some (false,44) else (NO p0.agenda).bind fun a3=>bif a3.2 !=0 then some (false,0) else (sN (a3.1.1,a3.1.2.1) p1).bind fun a4=>some (decide (a4.1<=0),0)
def aOz:bO:=⟨aC.cons (aL.agg dC) (aC.one (aL.agg (cN.row lS))),aL.tup (aC.cons aL.bool (aC.one (aL.int .i64))),fun a=>DL a.1 a.2,.pure,false⟩
theorem Z3:aM tab 134 aOz:=Oc aGy rfl aH [(62,c62),(72,c72),(73,c73),(188,aQX)] ⟨JL,BM,XL,aIR,trivial⟩ fun a=>by kernel_rfl
def NP (p0:aP) (p1:Int×Int):Option (aP×(Int×Int×Int×Int×Int)×(Int×Int)×Int):=(DL p0 p1).bind fun a0=>bif a0.2==0 then bif !a0.1 then some (jB,(0,0,0,0,0),(0,0),6) else bif a0.2 !=0 then some (jB,(0,0,0,0,0),(0,0),a0.2) else (aN p0.agenda.heap 0).bind fun a1=>(nX p0 a1.2.2.1).bind fun a2=>bif a2.2.2 !=0 then some (jB,(0,0,0,0,0),(0,0),a2.2.2) else some (aP.mk (a1.1,a1.2.1) a2.1.field a2.1.certs a2.1.agenda a2.1.due,a1,a2.2.1,0) else bif a0.2 !=0 then some (jB,(0,0,0,0,0),(0,0),a0.2) else (aN p0.agenda.heap 0).bind fun a3=>(nX p0 a3.2.2.1).bind fun a4=>bif a4.2.2 !=0 then some (jB,(0,0,0,0,0),(0,0),a4.2.2) else some (aP.mk (a3.1,a3.2.1) a4.1.field a4.1.certs a4.1.agenda a4.1.due,a3,a4.2.1,0)
def c74:bO:=⟨aC.cons (aL.agg dC) (aC.one (aL.agg (cN.row lS))),aL.tup (aC.cons (aL.agg dC) (aC.cons (aL.agg (cN.row kU)) (aC.cons (aL.agg (cN.row lS)) (aC.one (aL.int .i64))))),fun a=>NP a.1 a.2,.frz,false⟩
theorem aOA:aM tab 74 c74:=Oc aNY rfl aH [(134,aOz),(135,aOw)] ⟨Z3,Z1,trivial⟩ fun a=>by kernel_rfl
def NQ (p0:aP) (p1:Int×Int):Option (aP×Int):=(DL p0 p1).bind fun a0=>bif a0.2==0 then bif a0.1 then some (jB,36) else bif a0.2 !=0 then some (jB,a0.2) else (kW p0).bind fun r1=>some (aP.mk p1 r1.field r1.certs r1.agenda r1.due,0) else bif a0.2 !=0 then some (jB,a0.2) else (kW p0).bind fun r2=>some (aP.mk p1 r2.field r2.certs r2.agenda r2.due,0)
def c75:bO:=⟨aC.cons (aL.agg dC) (aC.one (aL.agg (cN.row lS))),aL.tup (aC.cons (aL.agg dC) (aC.one (aL.int .i64))),fun a=>NQ a.1 a.2,.frz,false⟩
theorem aOB:aM tab 75 c75:=Oc aNZ rfl aH [(134,aOz),(136,aCK),(136,UI)] ⟨Z3,LF,HS,trivial⟩ fun a=>by kernel_rfl
def HU (s:Zt6):Option (bW Zt6 (bA×jC×Int)):=match s with |(a,b,d,e,f,g,h,i,j,k,l,m,n,o,q,r,t,u)=>(NP (aP.mk (a,b) (Field.mk d) (aZ.mk e f) (aI.mk (aT.mk g h i) j k) l) (n,o)).bind fun a0=>bif a0.2.2.2 !=0 then (NQ (aP.mk (a,b) (Field.mk d) (aZ.mk e f) (aI.mk (aT.mk g h i) j k) l) (n,o)).bind fun a1=>(mH a1.1.field (n,o)).bind fun a2=>some (.done (bA.mk a1.1 a2.1,u,0)) else (dO a0.1 a0.1.field).bind fun a3=>bif a3.2 !=0 then some (.done (bA.mk jB [],[],a3.2)) else (bI u [a0.2.2.1]).bind fun l4=>some (.next (a3.1.clock.now.1,a3.1.clock.now.2,a3.1.clock.field.points,a3.1.clock.certs.next_,a3.1.clock.certs.list,a3.1.clock.agenda.slots.uses,a3.1.clock.agenda.slots.used,a3.1.clock.agenda.slots.free,a3.1.clock.agenda.heap,a3.1.clock.agenda.where_,a3.1.clock.due,a3.1.up,n,o,q,r,t,l4))
def DM (p0:bA) (p1:Int×Int):Option (bA×jC×Int):=(kN p0).bind fun n0=>bif n0 !=0 then some (bA.mk jB [],[],n0) else (fV p1).bind fun n1=>bif n1 !=0 then some (bA.mk jB [],[],8) else (sN p1 p0.clock.now).bind fun a2=>bif decide (a2.1<0) then some (bA.mk jB [],[],44) else aG HU (p0.clock.now.1,p0.clock.now.2,p0.clock.field.points,p0.clock.certs.next_,p0.clock.certs.list,p0.clock.agenda.slots.uses,p0.clock.agenda.slots.used,p0.clock.agenda.slots.free,p0.clock.agenda.heap,p0.clock.agenda.where_,p0.clock.due,p0.up,p1.1,p1.2,0,0,0,[])
def c28:bO:=⟨aC.cons (aL.agg dX) (aC.one (aL.agg (cN.row lS))),aL.tup (aC.cons (aL.agg dX) (aC.cons (aL.sl lS) (aC.one (aL.int .i64)))),fun a=>DM a.1 a.2,.frz,false⟩
theorem aOC:aM tab 28 c28:=Oc aNt rfl aH [(19,c19),(72,c72),(73,c73),(74,c74),(54,c54),(75,c75),(57,c57)] ⟨NN,BM,XL,aOA,NM,aOB,XK,trivial⟩ fun a=>by kernel_rfl
def E2 (s:((List Int)×Int×Int×Int)):Option (bW ((List Int)×Int×Int×Int) Int):=bif decide (s.2.2.2<s.2.2.1) then (aN s.1 s.2.2.2).bind fun n0=>bif s.2.1==n0 then some (.done s.2.2.2) else some (.next (s.1,s.2.1,s.2.2.1,aA .i64 (s.2.2.2+1))) else some (.done (-1))
def AI (p0:List Int) (p1:Int):Option Int:=aG E2 (p0,p1,Int.ofNat p0.length,0)
def c59:bO:=⟨aC.cons (aL.sl ki) (aC.one (aL.int .i64)),aL.int .i64,fun a=>AI a.1 a.2,.pure,false⟩
theorem aOD:aM tab 59 c59:=Oc aNL rfl aH [] trivial fun a=>by kernel_rfl
def FI (p0:bA):Option (Int×Int):=(kN p0).bind fun n0=>bif n0 !=0 then some (0,n0) else (AI p0.up (-1)).bind fun n1=>bif decide (n1<0) then some (0,42) else (aN p0.clock.field.points n1).bind fun a2=>some (a2.1,0)
def c16:bO:=⟨aC.one (aL.agg dX),aL.tup (aC.cons (aL.int .i64) (aC.one (aL.int .i64))),fun a=>FI a,.pure,false⟩
theorem aOE:aM tab 16 c16:=Oc aNk rfl aH [(19,c19),(59,c59)] ⟨NN,aOD,trivial⟩ fun a=>by kernel_rfl
def oO (s:((List Int)×(List Int)×Int)):Option (bW ((List Int)×(List Int)×Int) Bool):=bif decide (s.2.2<(Int.ofNat s.1.length)) then (aN s.1 s.2.2).bind fun n0=>(aN s.2.1 s.2.2).bind fun n1=>bif n0 !=n1 then some (.done false) else some (.next (s.1,s.2.1,aA .i64 (s.2.2+1))) else some (.done true)
def fI (p0:List Int) (p1:List Int):Option Bool:=bif (Int.ofNat p0.length) !=(Int.ofNat p1.length) then some false else aG oO (p0,p1,0)
def c41:bO:=⟨aC.cons (aL.sl ki) (aC.one (aL.sl ki)),aL.bool,fun a=>fI a.1 a.2,.pure,false⟩
theorem XQ:aM tab 41 c41:=Oc aNC rfl aH [] trivial fun a=>by kernel_rfl
def GI (s:(jC×jC×Int)):Option (bW (jC×jC×Int) Bool):=bif decide (s.2.2<(Int.ofNat s.1.length)) then (aN s.1 s.2.2).bind fun a0=>(aN s.2.1 s.2.2).bind fun a1=>bif !((a0.1==a1.1)&&(a0.2==a1.2)) then some (.done false) else some (.next (s.1,s.2.1,aA .i64 (s.2.2+1))) else some (.done true)
def CQ (p0:List (Int×Int)) (p1:List (Int×Int)):Option Bool:=bif (Int.ofNat p0.length) !=(Int.ofNat p1.length) then some false else aG GI (p0,p1,0)
def c21:bO:=⟨aC.cons (aL.sl lS) (aC.one (aL.sl lS)),aL.bool,fun a=>CQ a.1 a.2,.pure,false⟩
theorem aOF:aM tab 21 c21:=Oc aNn rfl aH [] trivial fun a=>by kernel_rfl
def UX:Option Bool:=KI.bind fun r0=>(NJ 0).bind fun a1=>(jD r0 a1).bind fun a2=>(NJ 2).bind fun a3=>(DM a2.1 a3).bind fun a4=>(FI a4.1).bind fun a5=>bif a2.2==0 then bif a4.2.2==0 then bif a5.2==0 then bif a5.1==1 then (fI a2.1.up [2,-1,1]).bind fun b6=>bif b6 then (fI a4.1.up [-1,1,1]).bind fun b7=>bif b7 then (CQ a4.2.1 [(1,2)]).bind fun b8=>some b8 else some false else some false else some false else some false else some false else some false
def aSS:bO:=⟨aC.nil,aL.bool,fun _=>UX,.pure,false⟩
theorem aIS:aM tab 22 aSS:=Oc aNo rfl aH [(42,c42),(43,c43),(12,c12),(28,c28),(16,c16),(41,c41),(21,c21)] ⟨aOh,aOi,aCN,aOC,aOE,XQ,aOF,trivial⟩ fun a=>by kernel_rfl
def c22:bO:=⟨aC.nil,aL.bool,fun _=>some true,.pure,false⟩
end
theorem aOG:aM tab 22 c22:=aM.at0 (@aIS (LP.of 1000000)) (by kernel_rfl)
section
variable [LP]
def uP (p0:Field):Option Bool:=bif decide (16<(Int.ofNat p0.points.length)) then bif decide ((Int.ofNat p0.points.length)<64) then some true else some (decide (70<(Int.ofNat p0.points.length))) else some (decide (70<(Int.ofNat p0.points.length)))
def c10:bO:=⟨aC.one (aL.agg bZ),aL.bool,fun a=>uP a,.pure,false⟩
theorem aOH:aM tab 10 c10:=Oc aNh rfl aH [] trivial fun a=>by kernel_rfl
def DN (p0:aT):Option Bool:=bif decide (210<(Int.ofNat p0.uses.length)) then some true else bif decide (210<(Int.ofNat p0.used.length)) then some true else some (decide (210<(Int.ofNat p0.free.length)))
def aQY:bO:=⟨aC.one (aL.agg pM),aL.bool,fun a=>DN a,.pure,false⟩
theorem aIT:aM tab 163 aQY:=Oc aGH rfl aH [] trivial fun a=>by kernel_rfl
def DO (p0:aI):Option Bool:=(DN p0.slots).bind fun b0=>bif b0 then some true else bif decide (210<(Int.ofNat p0.heap.length)) then some true else some (decide (210<(Int.ofNat p0.where_.length)))
def aQZ:bO:=⟨aC.one (aL.agg gW),aL.bool,fun a=>DO a,.pure,false⟩
theorem aIU:aM tab 104 aQZ:=Oc aGc rfl aH [(163,aQY)] ⟨aIT,trivial⟩ fun a=>by kernel_rfl
def uQ (p0:aP):Option Bool:=bif decide (40<(Int.ofNat p0.certs.list.length)) then some true else bif decide (40<(Int.ofNat p0.due.length)) then some true else (uP p0.field).bind fun b0=>bif b0 then some true else (DO p0.agenda).bind fun b1=>some b1
def c52:bO:=⟨aC.one (aL.agg dC),aL.bool,fun a=>uQ a,.pure,false⟩
theorem aOI:aM tab 52 c52:=Oc aNG rfl aH [(10,c10),(104,aQZ)] ⟨aOH,aIU,trivial⟩ fun a=>by kernel_rfl
def uR (p0:bA):Option Bool:=(uQ p0.clock).bind fun b0=>bif b0 then some true else some (decide (70<(Int.ofNat p0.up.length)))
def c11:bO:=⟨aC.one (aL.agg dX),aL.bool,fun a=>uR a,.pure,false⟩
theorem aOJ:aM tab 11 c11:=Oc aNi rfl aH [(52,c52)] ⟨aOI,trivial⟩ fun a=>by kernel_rfl
def GJ (p0:Field):Option Bool:=some (decide (10<(Int.ofNat p0.points.length)))
def c26:bO:=⟨aC.one (aL.agg bZ),aL.bool,fun a=>GJ a,.pure,false⟩
theorem aOK:aM tab 26 c26:=Oc aNs rfl aH [] trivial fun a=>by kernel_rfl
def iP (p0:Int):Option Int:=bif decide (p0<0) then some (aA .u64 ((aA .u64 (aA .i64 (0- (aA .i64 (p0+1)))))+1)) else some (aA .u64 p0)
def c70:bO:=⟨aC.one (aL.int .i64),aL.int .u64,fun a=>iP a,.pure,false⟩
theorem XS:aM tab 70 c70:=Oc aNV rfl aH [] trivial fun a=>by kernel_rfl
def pO (s:(Int×Int)):Option (bW (Int×Int) Int):=bif s.2 !=0 then bif s.2==0 then none else some (.next (s.2,Int.tmod s.1 s.2)) else some (.done s.1)
def rH (p0:Int) (p1:Int):Option Int:=aG pO (p0,p1)
def c69:bO:=⟨aC.cons (aL.int .u64) (aC.one (aL.int .u64)),aL.int .u64,fun a=>rH a.1 a.2,.pure,false⟩
theorem aCO:aM tab 69 c69:=Oc aNU rfl aH [] trivial fun a=>by kernel_rfl
def uT (p0:Int×Int):Option Int:=bif decide (p0.2<1) then some 8 else bif p0.1==(-9223372036854775808) then some 8 else (iP p0.1).bind fun n0=>(rH n0 (aA .u64 p0.2)).bind fun n1=>bif n1 !=1 then some 8 else some 0
def c24:bO:=⟨aC.one (aL.agg (cN.row lS)),aL.int .i64,fun a=>uT a,.pure,false⟩
theorem aCP:aM tab 24 c24:=Oc aNq rfl aH [(70,c70),(69,c69)] ⟨XS,aCO,trivial⟩ fun a=>by kernel_rfl
def qK (p0:Int×Int×Int):Option Int:=bif decide (p0.1<0) then some 8 else bif decide (65535<p0.1) then some 8 else bif decide (p0.2.1<(-1048576)) then some 8 else bif decide (1048576<p0.2.1) then some 8 else bif decide (p0.2.2<(-1048576)) then some 8 else bif decide (1048576<p0.2.2) then some 8 else some 0
def c68:bO:=⟨aC.one (aL.agg (cN.row eE)),aL.int .i64,fun a=>qK a,.pure,false⟩
theorem aOL:aM tab 68 c68:=Oc aNT rfl aH [] trivial fun a=>by kernel_rfl
def jR (s:aCE):Option (bW aCE (bW aCE Int)):=bif decide (s.1<(Int.ofNat s.2.length)) then (aN s.2 (aA .i64 (s.1-1))).bind fun a0=>(aN s.2 s.1).bind fun a1=>bif decide (a1.1<=a0.1) then some (.done (.done 32)) else some (.next (aA .i64 (s.1+1),s.2)) else some (.done (.done 0))
def oA (s:aCE):Option (bW aCE Int):=bif decide (s.1<(Int.ofNat s.2.length)) then (aN s.2 s.1).bind fun a0=>(qK a0).bind fun n1=>bif n1 !=0 then some (.done 8) else some (.next (aA .i64 (s.1+1),s.2)) else aG jR (1,s.2)
def iC (p0:Field):Option Int:=bif decide (64<(Int.ofNat p0.points.length)) then some 4 else aG oA (0,p0.points)
def c23:bO:=⟨aC.one (aL.agg bZ),aL.int .i64,fun a=>iC a,.pure,false⟩
theorem aOM:aM tab 23 c23:=Oc aNp rfl aH [(68,c68)] ⟨aOL,trivial⟩ fun a=>by kernel_rfl
def xB (p0:Int×Int):Option Bool:=bif decide (0<=p0.1) then bif decide (p0.1<=65535) then bif decide (0<=p0.2) then bif decide (p0.2<=65535) then some (p0.1 !=p0.2) else some false else some false else some false else some false
def c99:bO:=⟨aC.one (aL.agg (cN.row lS)),aL.bool,fun a=>xB a,.pure,false⟩
theorem aON:aM tab 99 c99:=Oc aOd rfl aH [] trivial fun a=>by kernel_rfl
def gK (s:(Int×Int×Int×cQ×Int×Int×Int)):Option (bW (Int×Int×Int×cQ×Int×Int×Int) aOf):=bif decide (s.2.1<s.1) then (aN s.2.2.2.1 s.2.1).bind fun a0=>bif (a0.2.1==s.2.2.2.2.2.1)&&(a0.2.2==s.2.2.2.2.2.2) then some (.done (.done 8)) else some (.next (s.1,aA .i64 (s.2.1+1),s.2.2)) else some (.done (.next (aA .i64 (s.1+1),s.2.2.1,s.2.2.2.1)))
def rI (s:aA0):Option aOf:=bif decide (s.1<(Int.ofNat s.2.2.length)) then (aN s.2.2 s.1).bind fun a0=>(xB a0.2).bind fun b1=>bif !b1 then some (.done 8) else bif decide (a0.1<0) then some (.done 8) else bif decide (s.2.1<=a0.1) then some (.done 8) else bif decide (0<s.1) then (aN s.2.2 (aA .i64 (s.1-1))).bind fun a2=>bif decide (a0.1<=a2.1) then some (.done 8) else aG gK (s.1,0,s.2.1,s.2.2,a0) else aG gK (s.1,0,s.2.1,s.2.2,a0) else some (.done 0)
def uU (p0:aZ):Option Int:=bif decide (200<(Int.ofNat p0.list.length)) then some 8 else bif decide (p0.next_<0) then some 8 else bif decide (1000000<p0.next_) then some 8 else aG rI (0,p0.next_,p0.list)
def aQ0:bO:=⟨aC.one (aL.agg qZ),aL.int .i64,fun a=>uU a,.pure,false⟩
theorem aIV:aM tab 118 aQ0:=Oc aGk rfl aH [(99,c99)] ⟨aON,trivial⟩ fun a=>by kernel_rfl
def uV (s:aA0):Option aOf:=bif decide (s.2.1<(Int.ofNat s.2.2.length)) then (aN s.2.2 s.2.1).bind fun a0=>bif a0.1==s.1 then some (.done s.2.1) else some (.next (s.1,aA .i64 (s.2.1+1),s.2.2)) else some (.done (-1))
def gX (p0:Field) (p1:Int):Option Int:=aG uV (p1,0,p0.points)
def c25:bO:=⟨aC.cons (aL.agg bZ) (aC.one (aL.int .i64)),aL.int .i64,fun a=>gX a.1 a.2,.pure,false⟩
theorem RS:aM tab 25 c25:=Oc aNr rfl aH [] trivial fun a=>by kernel_rfl
def rJ (s:(Int×Int×cQ×cQ)):Option (bW (Int×Int×cQ×cQ) Bool):=bif decide (s.1<(Int.ofNat s.2.2.1.length)) then (aN s.2.2.1 s.1).bind fun a0=>(gX (Field.mk s.2.2.2) a0.2.1).bind fun n1=>bif decide (n1<0) then some (.done false) else (aN s.2.2.1 s.1).bind fun a2=>(gX (Field.mk s.2.2.2) a2.2.2).bind fun n3=>bif decide (n3<0) then some (.done false) else some (.next (aA .i64 (s.1+1),s.2)) else some (.done true)
def yH (p0:aZ) (p1:Field):Option Bool:=aG rJ (0,p0.next_,p0.list,p1.points)
def aQ2:bO:=⟨aC.cons (aL.agg qZ) (aC.one (aL.agg bZ)),aL.bool,fun a=>yH a.1 a.2,.pure,false⟩
theorem aIW:aM tab 119 aQ2:=Oc aGl rfl aH [(25,c25)] ⟨RS,trivial⟩ fun a=>by kernel_rfl
def lU (s:aCD):Option (bW aCD (bW aCD Int)):=bif decide (s.2.1<s.1) then (aN s.2.2.1 s.2.1).bind fun n0=>bif decide (n0<0) then some (.done (.done 8)) else (aN s.2.2.1 s.2.1).bind fun n1=>bif decide (1000000<n1) then some (.done (.done 8)) else (aN s.2.2.2.1 s.2.1).bind fun b2=>(aN s.2.2.2.2.2 s.2.1).bind fun b3=>bif b2==b3 then some (.done (.done 8)) else (aN s.2.2.2.1 s.2.1).bind fun b4=>bif b4 then (aN s.2.2.1 s.2.1).bind fun n5=>bif decide (n5<1) then some (.done (.done 8)) else some (.next (s.1,aA .i64 (s.2.1+1),s.2.2)) else some (.next (s.1,aA .i64 (s.2.1+1),s.2.2)) else some (.done (.done 0))
def rL (s:aCD):Option (bW aCD Int):=bif decide (s.2.1<(Int.ofNat s.2.2.2.2.1.length)) then (aN s.2.2.2.2.1 s.2.1).bind fun n0=>bif decide (n0<0) then some (.done 8) else (aN s.2.2.2.2.1 s.2.1).bind fun n1=>bif decide (s.1<=n1) then some (.done 8) else (aN s.2.2.2.2.1 s.2.1).bind fun n2=>(aN s.2.2.2.2.2 n2).bind fun b3=>bif b3 then some (.done 8) else (aN s.2.2.2.2.1 s.2.1).bind fun n4=>(aN s.2.2.2.2.2 n4).bind fun _=>some (.next (s.1,aA .i64 (s.2.1+1),s.2.2.1,s.2.2.2.1,s.2.2.2.2.1,cH s.2.2.2.2.2 n4 true)) else aG lU (s.1,0,s.2.2)
def yI (p0:aT):Option Int:=bif decide ((Int.ofNat p0.uses.length)<1) then some 8 else bif decide (200<(Int.ofNat p0.uses.length)) then some 8 else bif (Int.ofNat p0.used.length) !=(Int.ofNat p0.uses.length) then some 8 else bif decide ((Int.ofNat p0.uses.length)<(Int.ofNat p0.free.length)) then some 8 else bif (Int.ofNat p0.uses.length)==(Int.ofNat p0.uses.length) then (wQ (Int.ofNat p0.uses.length) (false:Bool)).bind fun l0=>aG rL (Int.ofNat p0.uses.length,0,p0.uses,p0.used,p0.free,l0) else none
def aQ3:bO:=⟨aC.one (aL.agg pM),aL.int .i64,fun a=>yI a,.pure,false⟩
theorem aIX:aM tab 179 aQ3:=Oc aGQ rfl aH [] trivial fun a=>by kernel_rfl
def xC (p0:aT) (p1:Int×Int):Option Bool:=bif decide (0<=p1.1) then bif decide (p1.1<(Int.ofNat p0.uses.length)) then (aN p0.used p1.1).bind fun b0=>bif b0 then (aN p0.uses p1.1).bind fun n1=>some (n1==p1.2) else some false else some false else some false
def aOO:bO:=⟨aC.cons (aL.agg pM) (aC.one (aL.agg (cN.row lS))),aL.bool,fun a=>xC a.1 a.2,.pure,false⟩
theorem Z4:aM tab 183 aOO:=Oc aGU rfl aH [] trivial fun a=>by kernel_rfl
def pP (s:aP8):Option (bW aP8 Bool):=bif decide (s.2.1<s.1) then (aN s.2.2.2.1 s.2.1).bind fun b0=>bif !b0 then (aN s.2.2.2.2.2.2 s.2.1).bind fun n1=>bif n1 !=(-1) then some (.done false) else some (.next (s.1,aA .i64 (s.2.1+1),s.2.2)) else (aN s.2.2.2.2.2.2 s.2.1).bind fun n2=>bif decide (n2<0) then some (.done false) else bif decide ((Int.ofNat s.2.2.2.2.2.1.length)<=n2) then some (.done false) else (aN s.2.2.2.2.2.1 n2).bind fun a3=>bif a3.2.2.2.1 !=s.2.1 then some (.done false) else (aN s.2.2.2.2.2.1 n2).bind fun a4=>(xC (aT.mk s.2.2.1 s.2.2.2.1 s.2.2.2.2.1) a4.2.2.2).bind fun b5=>bif !b5 then some (.done false) else some (.next (s.1,aA .i64 (s.2.1+1),s.2.2)) else some (.done true)
def wC (p0:aI):Option Bool:=bif (Int.ofNat p0.where_.length) !=(Int.ofNat p0.slots.uses.length) then some false else bif (Int.ofNat p0.heap.length) !=(aA .i64 ((Int.ofNat p0.slots.uses.length) - (Int.ofNat p0.slots.free.length))) then some false else aG pP (Int.ofNat p0.slots.uses.length,0,p0.slots.uses,p0.slots.used,p0.slots.free,p0.heap,p0.where_)
def aQ4:bO:=⟨aC.one (aL.agg gW),aL.bool,fun a=>wC a,.pure,false⟩
theorem aIY:aM tab 180 aQ4:=Oc aGR rfl aH [(183,aOO)] ⟨Z4,trivial⟩ fun a=>by kernel_rfl
def tQ (p0:Int) (p1:Int):Option (Bool×Int×Int):=some (false,aA .u64 ((aA .u64 ((aA .u64 ((aA .u64 (Int.tdiv p0 4294967296))*(aA .u64 (Int.tdiv p1 4294967296))))+(aA .u64 (Int.tdiv (aA .u64 ((aA .u64 ((aA .u64 (Int.tdiv p0 4294967296))*(Int.tmod p1 4294967296)))+(aA .u64 (Int.tdiv (aA .u64 ((Int.tmod p0 4294967296)*(Int.tmod p1 4294967296))) 4294967296)))) 4294967296))))+(aA .u64 (Int.tdiv (aA .u64 ((aA .u64 ((Int.tmod p0 4294967296)*(aA .u64 (Int.tdiv p1 4294967296))))+(Int.tmod (aA .u64 ((aA .u64 ((aA .u64 (Int.tdiv p0 4294967296))*(Int.tmod p1 4294967296)))+(aA .u64 (Int.tdiv (aA .u64 ((Int.tmod p0 4294967296)*(Int.tmod p1 4294967296))) 4294967296)))) 4294967296))) 4294967296))),aA .u64 ((aA .u64 ((Int.tmod (aA .u64 ((aA .u64 ((Int.tmod p0 4294967296)*(aA .u64 (Int.tdiv p1 4294967296))))+(Int.tmod (aA .u64 ((aA .u64 ((aA .u64 (Int.tdiv p0 4294967296))*(Int.tmod p1 4294967296)))+(aA .u64 (Int.tdiv (aA .u64 ((Int.tmod p0 4294967296)*(Int.tmod p1 4294967296))) 4294967296)))) 4294967296))) 4294967296)*4294967296))+(Int.tmod (aA .u64 ((Int.tmod p0 4294967296)*(Int.tmod p1 4294967296))) 4294967296)))
def aQ5:bO:=⟨aC.cons (aL.int .u64) (aC.one (aL.int .u64)),aL.agg (cN.row DH),fun a=>tQ a.1 a.2,.pure,false⟩
theorem aIZ:aM tab 151 aQ5:=Oc aGD rfl aH [] trivial fun a=>by kernel_rfl
def kX (p0:Int) (p1:Int):Option (Bool×Int×Int):=(iP p0).bind fun n0=>(iP p1).bind fun n1=>(tQ n0 n1).bind fun a2=>bif !((decide (p0<0))==(decide (p1<0))) then bif p0 !=0 then some (p1 !=0,a2.2) else some (false,a2.2) else some (false,a2.2)
def c95:bO:=⟨aC.cons (aL.int .i64) (aC.one (aL.int .i64)),aL.agg (cN.row DH),fun a=>kX a.1 a.2,.pure,false⟩
theorem aCQ:aM tab 95 c95:=Oc aOa rfl aH [(70,c70),(151,aQ5)] ⟨XS,aIZ,trivial⟩ fun a=>by kernel_rfl
def mO (p0:Bool×Int×Int):Option Int:=bif p0.2.1==0 then bif p0.2.2==0 then some 0 else bif p0.1 then some (-1) else some 1 else bif p0.1 then some (-1) else some 1
def c96:bO:=⟨aC.one (aL.agg (cN.row DH)),aL.int .i64,fun a=>mO a,.pure,false⟩
theorem aCR:aM tab 96 c96:=Oc aOb rfl aH [] trivial fun a=>by kernel_rfl
def sP (p0:Bool×Int×Int) (p1:Bool×Int×Int):Option Int:=bif p0.2.1 !=p1.2.1 then bif decide (p0.2.1<p1.2.1) then some (-1) else some 1 else bif p0.2.2 !=p1.2.2 then bif decide (p0.2.2<p1.2.2) then some (-1) else some 1 else some 0
def c97:bO:=⟨aC.cons (aL.agg (cN.row DH)) (aC.one (aL.agg (cN.row DH))),aL.int .i64,fun a=>sP a.1 a.2,.pure,false⟩
theorem aCS:aM tab 97 c97:=Oc aOc rfl aH [] trivial fun a=>by kernel_rfl
def tR (p0:Int×Int) (p1:Int×Int):Option Int:=(kX p0.1 p1.2).bind fun a0=>(kX p1.1 p0.2).bind fun a1=>(mO a0).bind fun n2=>(mO a1).bind fun n3=>bif n2 !=n3 then (mO a0).bind fun n4=>(mO a1).bind fun n5=>bif decide (n4<n5) then some (-1) else some 1 else (mO a0).bind fun n6=>bif decide (n6<0) then (sP a1 a0).bind fun n7=>some n7 else (sP a0 a1).bind fun n8=>some n8
def c45:bO:=⟨aC.cons (aL.agg (cN.row lS)) (aC.one (aL.agg (cN.row lS))),aL.int .i64,fun a=>tR a.1 a.2,.pure,false⟩
theorem aOP:aM tab 45 c45:=Oc aNF rfl aH [(95,c95),(96,c96),(97,c97)] ⟨aCQ,aCR,aCS,trivial⟩ fun a=>by kernel_rfl
def eM (p0:Int×Int×Int×Int×Int) (p1:Int×Int×Int×Int×Int):Option Bool:=(tR (p0.1,p0.2.1) (p1.1,p1.2.1)).bind fun n0=>bif decide (n0<0) then some true else bif n0==0 then some (decide (p0.2.2.1<p1.2.2.1)) else some false
def aQ6:bO:=⟨aC.cons (aL.agg (cN.row kU)) (aC.one (aL.agg (cN.row kU))),aL.bool,fun a=>eM a.1 a.2,.pure,false⟩
theorem aI0:aM tab 181 aQ6:=Oc aGS rfl aH [(45,c45)] ⟨aOP,trivial⟩ fun a=>by kernel_rfl
def lV (s:aP5):Option (bW aP5 aOe):=bif decide (s.2.1<s.1) then (aN s.2.2.2.2.2.1 s.2.1).bind fun a0=>bif a0.2.2.1==s.2.2.2.2.2.2.2.2.2.1 then some (.done (.done 8)) else some (.next (s.1,aA .i64 (s.2.1+1),s.2.2)) else some (.done (.next (aA .i64 (s.1+1),s.2.2.1,s.2.2.2.1,s.2.2.2.2.1,s.2.2.2.2.2.1,s.2.2.2.2.2.2.1)))
def lW (s:aHX):Option (bW aHX aOe):=bif decide (s.1<(Int.ofNat s.2.2.2.2.1.length)) then (aN s.2.2.2.2.1 s.1).bind fun a0=>(aN s.2.2.2.2.1 (aA .i64 (Int.tdiv (aA .i64 (s.1-1)) 2))).bind fun a1=>(eM a0 a1).bind fun b2=>bif b2 then some (.done (.done 8)) else some (.next (aA .i64 (s.1+1),s.2)) else some (.done (.done 0))
def rM (s:aHX):Option aOe:=bif decide (s.1<(Int.ofNat s.2.2.2.2.1.length)) then (aN s.2.2.2.2.1 s.1).bind fun a0=>(uT (a0.1,a0.2.1)).bind fun n1=>bif n1 !=0 then some (.done 8) else bif decide (a0.2.2.1<0) then some (.done 8) else bif decide (1000000<a0.2.2.1) then some (.done 8) else aG lV (s.1,0,s.2.1,s.2.2.1,s.2.2.2.1,s.2.2.2.2.1,s.2.2.2.2.2,a0) else aG lW (1,s.2)
def uW (p0:aI):Option Int:=(yI p0.slots).bind fun n0=>bif n0 !=0 then some 8 else (wC p0).bind fun b1=>bif !b1 then some 8 else aG rM (0,p0.slots.uses,p0.slots.used,p0.slots.free,p0.heap,p0.where_)
def aOQ:bO:=⟨aC.one (aL.agg gW),aL.int .i64,fun a=>uW a,.pure,false⟩
theorem Z5:aM tab 120 aOQ:=Oc aGm rfl aH [(179,aQ3),(180,aQ4),(24,c24),(181,aQ6)] ⟨aIX,aIY,aCP,aI0,trivial⟩ fun a=>by kernel_rfl
def uX (p0:Bool×Int×Int) (p1:Bool×Int×Int):Option (Bool×Int×Int):=bif decide (p0.2.2<p1.2.2) then some (false,aA .u64 ((aA .u64 (p0.2.1-p1.2.1)) -1),aA .u64 (p0.2.2-p1.2.2)) else some (false,aA .u64 (p0.2.1-p1.2.1),aA .u64 (p0.2.2-p1.2.2))
def aQ7:bO:=⟨aC.cons (aL.agg (cN.row DH)) (aC.one (aL.agg (cN.row DH))),aL.agg (cN.row DH),fun a=>uX a.1 a.2,.pure,false⟩
theorem aI1:aM tab 246 aQ7:=Oc aHx rfl aH [] trivial fun a=>by kernel_rfl
def BT (p0:Bool×Int×Int) (p1:Bool×Int×Int):Option (Bool×Int×Int):=bif p0.1==p1.1 then bif decide ((aA .u64 (p0.2.2+p1.2.2))<p0.2.2) then some (p0.1,aA .u64 ((aA .u64 (p0.2.1+p1.2.1))+1),aA .u64 (p0.2.2+p1.2.2)) else some (p0.1,aA .u64 (p0.2.1+p1.2.1),aA .u64 (p0.2.2+p1.2.2)) else (sP p0 p1).bind fun n0=>bif decide (0<=n0) then (uX p0 p1).bind fun a1=>bif p0.1 then bif decide (0<a1.2.1) then some (true,a1.2) else some (decide (0<a1.2.2),a1.2) else some (false,a1.2) else (uX p1 p0).bind fun a2=>some (p1.1,a2.2)
def aQ8:bO:=⟨aC.cons (aL.agg (cN.row DH)) (aC.one (aL.agg (cN.row DH))),aL.agg (cN.row DH),fun a=>BT a.1 a.2,.pure,false⟩
theorem aI2:aM tab 205 aQ8:=Oc aHb rfl aH [(97,c97),(246,aQ7)] ⟨aCS,aI1,trivial⟩ fun a=>by kernel_rfl
def EN (p0:Int×Int×Int) (p1:Int×Int×Int) (p2:Int×Int):Option Int:=(kX (aA .i64 (p0.2.1-p1.2.1)) p2.2).bind fun a0=>(kX (aA .i64 (p0.2.2-p1.2.2)) p2.1).bind fun a1=>(BT a0 a1).bind fun a2=>(mO a2).bind fun n3=>some n3
def aQ9:bO:=⟨aC.cons (aL.agg (cN.row eE)) (aC.cons (aL.agg (cN.row eE)) (aC.one (aL.agg (cN.row lS)))),aL.int .i64,fun a=>EN a.1 a.2.1 a.2.2,.pure,false⟩
theorem aI3:aM tab 155 aQ9:=Oc aGF rfl aH [(95,c95),(205,aQ8),(96,c96)] ⟨aCQ,aI2,aCR,trivial⟩ fun a=>by kernel_rfl
def qL (p0:Int×Int×Int) (p1:Int×Int×Int) (p2:Int×Int):Option Bool:=(EN p0 p1 p2).bind fun n0=>bif n0 !=0 then some (decide (0<n0)) else bif p0.2.2 !=p1.2.2 then some (decide (p1.2.2<p0.2.2)) else some (decide (p0.1<p1.1))
def aI4:bO:=⟨aC.cons (aL.agg (cN.row eE)) (aC.cons (aL.agg (cN.row eE)) (aC.one (aL.agg (cN.row lS)))),aL.bool,fun a=>qL a.1 a.2.1 a.2.2,.pure,false⟩
theorem RU:aM tab 100 aI4:=Oc aGb rfl aH [(155,aQ9)] ⟨aI3,trivial⟩ fun a=>by kernel_rfl
def sQ (p0:Bool) (p1:Bool×Int×Int) (p2:Bool×Int×Int):Option ((Int×Int)×Int):=bif decide (0<p1.2.1) then some ((0,0),16) else bif decide (9223372036854775807<p1.2.2) then some ((0,0),16) else bif decide (0<p2.2.1) then some ((0,0),16) else bif decide (9223372036854775807<p2.2.2) then some ((0,0),16) else bif p0 then some ((aA .i64 (0- (aA .i64 p1.2.2)),aA .i64 p2.2.2),0) else some ((aA .i64 p1.2.2,aA .i64 p2.2.2),0)
def aRa:bO:=⟨aC.cons aL.bool (aC.cons (aL.agg (cN.row DH)) (aC.one (aL.agg (cN.row DH)))),aL.tup (aC.cons (aL.agg (cN.row lS)) (aC.one (aL.int .i64))),fun a=>sQ a.1 a.2.1 a.2.2,.pure,false⟩
theorem aI5:aM tab 285 aRa:=Oc aHQ rfl aH [] trivial fun a=>by kernel_rfl
def oB (p0:Int) (p1:Int):Option ((Int×Int)×Int):=bif p1==0 then some ((0,0),26) else (iP p0).bind fun n0=>(iP p1).bind fun n1=>(rH n0 n1).bind fun n2=>bif !((decide (p0<0))==(decide (p1<0))) then (iP p0).bind fun n3=>bif n2==0 then none else (iP p1).bind fun n4=>bif n2==0 then none else (sQ (p0 !=0) (false,0,aA .u64 (Int.tdiv n3 n2)) (false,0,aA .u64 (Int.tdiv n4 n2))).bind fun a5=>some a5 else (iP p0).bind fun n6=>bif n2==0 then none else (iP p1).bind fun n7=>bif n2==0 then none else (sQ false (false,0,aA .u64 (Int.tdiv n6 n2)) (false,0,aA .u64 (Int.tdiv n7 n2))).bind fun a8=>some a8
def aRb:bO:=⟨aC.cons (aL.int .i64) (aC.one (aL.int .i64)),aL.tup (aC.cons (aL.agg (cN.row lS)) (aC.one (aL.int .i64))),fun a=>oB a.1 a.2,.pure,false⟩
theorem aI6:aM tab 265 aRb:=Oc aHG rfl aH [(70,c70),(69,c69),(285,aRa)] ⟨XS,aCO,aI5,trivial⟩ fun a=>by kernel_rfl
def EO (p0:Int×Int×Int) (p1:Int×Int×Int):Option (Int×Int):=(oB (aA .i64 (p0.2.1-p1.2.1)) (aA .i64 (p1.2.2-p0.2.2))).bind fun a0=>some a0.1
def aRc:bO:=⟨aC.cons (aL.agg (cN.row eE)) (aC.one (aL.agg (cN.row eE))),aL.agg (cN.row lS),fun a=>EO a.1 a.2,.pure,false⟩
theorem aI7:aM tab 226 aRc:=Oc aHo rfl aH [(265,aRb)] ⟨aI6,trivial⟩ fun a=>by kernel_rfl
def tT (p0:Int×Int×Int) (p1:Int×Int×Int) (p2:Int×Int):Option ((Int×Int)×Bool):=(qL p1 p0 p2).bind fun b0=>bif b0 then some (p2,true) else bif decide (p0.2.2<p1.2.2) then (EO p0 p1).bind fun a1=>some (a1,true) else some ((0,0),false)
def aRd:bO:=⟨aC.cons (aL.agg (cN.row eE)) (aC.cons (aL.agg (cN.row eE)) (aC.one (aL.agg (cN.row lS)))),aL.tup (aC.cons (aL.agg (cN.row lS)) (aC.one aL.bool)),fun a=>tT a.1 a.2.1 a.2.2,.pure,false⟩
theorem aI8:aM tab 182 aRd:=Oc aGT rfl aH [(100,aI4),(226,aRc)] ⟨RU,aI7,trivial⟩ fun a=>by kernel_rfl
def sR (p0:Field) (p1:Int×Int) (p2:Int×Int):Option ((Int×Int)×Bool):=(gX p0 p1.2).bind fun n0=>(aN p0.points n0).bind fun a1=>(gX p0 p1.1).bind fun n2=>(aN p0.points n2).bind fun a3=>(tT a1 a3 p2).bind fun a4=>some a4
def aRe:bO:=⟨aC.cons (aL.agg bZ) (aC.cons (aL.agg (cN.row lS)) (aC.one (aL.agg (cN.row lS)))),aL.tup (aC.cons (aL.agg (cN.row lS)) (aC.one aL.bool)),fun a=>sR a.1 a.2.1 a.2.2,.pure,false⟩
theorem aI9:aM tab 121 aRe:=Oc aGn rfl aH [(25,c25),(182,aRd)] ⟨RS,aI8,trivial⟩ fun a=>by kernel_rfl
def xD (p0:aI) (p1:Int×Int):Option ((Int×Int×Int×Int×Int)×Int):=(uW p0).bind fun n0=>bif n0 !=0 then some ((0,0,0,0,0),8) else (xC p0.slots p1).bind fun b1=>bif !b1 then some ((0,0,0,0,0),6) else (aN p0.where_ p1.1).bind fun n2=>(aN p0.heap n2).bind fun a3=>some (a3,0)
def aRf:bO:=⟨aC.cons (aL.agg gW) (aC.one (aL.agg (cN.row lS))),aL.tup (aC.cons (aL.agg (cN.row kU)) (aC.one (aL.int .i64))),fun a=>xD a.1 a.2,.pure,false⟩
theorem aJa:aM tab 122 aRf:=Oc aGo rfl aH [(120,aOQ),(183,aOO)] ⟨Z5,Z4,trivial⟩ fun a=>by kernel_rfl
def dP (s:aPR):Option (bW aPR Int):=bif decide (s.2.1<(Int.ofNat s.2.2.2.2.2.2.1.length)) then (aN s.2.2.2.2.2.2.1 s.2.1).bind fun a0=>(sR (Field.mk s.2.2.2.2.1) a0.2 (s.2.2.1,s.2.2.2.1)).bind fun a1=>bif !a1.2 then some (.next (s.1,aA .i64 (s.2.1+1),s.2.2)) else bif decide ((Int.ofNat s.2.2.2.2.2.2.2.2.2.2.2.2.length)<=s.1) then some (.done 8) else (aN s.2.2.2.2.2.2.2.2.2.2.2.2 s.1).bind fun a2=>bif a2.1 !=a0.1 then some (.done 8) else (aN s.2.2.2.2.2.2.2.2.2.2.2.2 s.1).bind fun a3=>(xD (aI.mk (aT.mk s.2.2.2.2.2.2.2.1 s.2.2.2.2.2.2.2.2.1 s.2.2.2.2.2.2.2.2.2.1) s.2.2.2.2.2.2.2.2.2.2.1 s.2.2.2.2.2.2.2.2.2.2.2.1) a3.2).bind fun a4=>bif a4.2 !=0 then some (.done 8) else bif a4.1.2.2.1 !=a0.1 then some (.done 8) else bif !((a4.1.1==a1.1.1)&&(a4.1.2.1==a1.1.2)) then some (.done 8) else some (.next (aA .i64 (s.1+1),aA .i64 (s.2.1+1),s.2.2)) else bif s.1 !=(Int.ofNat s.2.2.2.2.2.2.2.2.2.2.2.2.length) then some (.done 8) else some (.done 0)
def yJ (p0:aP):Option Int:=(uT p0.now).bind fun n0=>bif n0 !=0 then some 8 else (iC p0.field).bind fun n1=>bif n1 !=0 then some 8 else (uU p0.certs).bind fun n2=>bif n2 !=0 then some 8 else (yH p0.certs p0.field).bind fun b3=>bif !b3 then some 8 else (uW p0.agenda).bind fun n4=>bif n4 !=0 then some 8 else bif (Int.ofNat p0.agenda.where_.length) !=200 then some 8 else bif (Int.ofNat p0.agenda.heap.length) !=(Int.ofNat p0.due.length) then some 8 else aG dP (0,0,p0.now.1,p0.now.2,p0.field.points,p0.certs.next_,p0.certs.list,p0.agenda.slots.uses,p0.agenda.slots.used,p0.agenda.slots.free,p0.agenda.heap,p0.agenda.where_,p0.due)
def c65:bO:=⟨aC.one (aL.agg dC),aL.int .i64,fun a=>yJ a,.pure,false⟩
theorem aOR:aM tab 65 c65:=Oc aNQ rfl aH [(24,c24),(23,c23),(118,aQ0),(119,aQ2),(120,aOQ),(121,aRe),(122,aRf)] ⟨aCP,aOM,aIV,aIW,Z5,aI9,aJa,trivial⟩ fun a=>by kernel_rfl
def mZ (s:(Int×Int×cQ×Int×Int×Int×Int×Int)):Option (bW (Int×Int×cQ×Int×Int×Int×Int×Int) Int):=bif decide (s.2.1<(Int.ofNat s.2.2.1.length)) then (aN s.2.2.1 s.2.1).bind fun a0=>bif a0.1 !=s.2.2.2.1 then (aN s.2.2.1 s.2.1).bind fun a1=>(qL a1 (s.2.2.2.1,s.2.2.2.2.1,s.2.2.2.2.2.1) s.2.2.2.2.2.2).bind fun b2=>bif b2 then some (.next (aA .i64 (s.1+1),aA .i64 (s.2.1+1),s.2.2)) else some (.next (s.1,aA .i64 (s.2.1+1),s.2.2)) else some (.next (s.1,aA .i64 (s.2.1+1),s.2.2)) else some (.done s.1)
def wD (p0:Field) (p1:Int×Int×Int) (p2:Int×Int):Option Int:=aG mZ (0,0,p0.points,p1.1,p1.2.1,p1.2.2,p2)
def aRg:bO:=⟨aC.cons (aL.agg bZ) (aC.cons (aL.agg (cN.row eE)) (aC.one (aL.agg (cN.row lS)))),aL.int .i64,fun a=>wD a.1 a.2.1 a.2.2,.pure,false⟩
theorem aJb:aM tab 111 aRg:=Oc aGf rfl aH [(100,aI4)] ⟨RU,trivial⟩ fun a=>by kernel_rfl
def lX (s:(Int×cQ×Int×Int×(List Int))):Option (bW (Int×cQ×Int×Int×(List Int)) (List Int)):=bif decide (s.1<(Int.ofNat s.2.1.length)) then (aN s.2.1 s.1).bind fun a0=>(wD (Field.mk s.2.1) a0 (s.2.2.1,s.2.2.2.1)).bind fun n1=>(aN s.2.1 s.1).bind fun a2=>(aN s.2.2.2.2 n1).bind fun _=>some (.next (aA .i64 (s.1+1),s.2.1,s.2.2.1,s.2.2.2.1,cH s.2.2.2.2 n1 a2.1)) else some (.done s.2.2.2.2)
def tU (p0:Field) (p1:Int×Int):Option (List Int):=bif (Int.ofNat p0.points.length)==(Int.ofNat p0.points.length) then (wQ (Int.ofNat p0.points.length) (0:Int)).bind fun l0=>aG lX (0,p0.points,p1.1,p1.2,l0) else none
def c60:bO:=⟨aC.cons (aL.agg bZ) (aC.one (aL.agg (cN.row lS))),aL.sl ki,fun a=>tU a.1 a.2,.frz,false⟩
theorem aOS:aM tab 60 c60:=Oc aNM rfl aH [(111,aRg)] ⟨aJb,trivial⟩ fun a=>by kernel_rfl
def pD (c0:(((List Int)×Int×Int)->(Option jC))) (s:((List Int)×Int×Int×Int×jC×(List Int))):Option (bW ((List Int)×Int×Int×Int×jC×(List Int)) (bW aOg jC)):=bif decide (s.2.2.2.1<(Int.ofNat s.1.length)) then (aN s.1 s.2.2.2.1).bind fun n0=>bif decide (s.2.1<0) then none else bif (Int.tmod (kD .i64 n0 s.2.1) 2)==s.2.2.1 then (aN s.1 s.2.2.2.1).bind fun n1=>(bI s.2.2.2.2.2 [n1]).bind fun l2=>some (.next (s.1,s.2.1,s.2.2.1,aA .i64 (s.2.2.2.1+1),s.2.2.2.2.1,l2)) else some (.next (s.1,s.2.1,s.2.2.1,aA .i64 (s.2.2.2.1+1),s.2.2.2.2)) else (aN s.1 0).bind fun n3=>(c0 (s.2.2.2.2.2,n3,aA .i64 (s.2.1+1))).bind fun l4=>bif l4.isEmpty then some (.done (.next (s.1,s.2.1,aA .i64 (s.2.2.1+1),s.2.2.2.2.1))) else (bI s.2.2.2.2.1 l4).bind fun l5=>some (.done (.next (s.1,s.2.1,aA .i64 (s.2.2.1+1),l5)))
def tV (c0:(((List Int)×Int×Int)->(Option jC))) (s:aOg):Option (bW aOg jC):=bif decide (s.2.2.1<2) then aG (pD c0) (s.1,s.2.1,s.2.2.1,1,s.2.2.2,[]) else some (.done s.2.2.2)
def BU (self:(List Int)×Int×Int->Option jC) (a:(List Int)×Int×Int):Option jC:=bif (Int.ofNat a.1.length)==0 then some [] else (aN a.1 0).bind fun n0=>aG (tV self) (a.1,a.2.2,0,[(n0,a.2.1)])
def hO:Nat->(List Int)×Int×Int->Option jC |0,_=>none |n+1,a=>BU (hO n) a
def GK (p0:List Int) (p1:Int) (p2:Int):Option jC:=hO 1000000 (p0,p1,p2)
def aRh:bO:=⟨aC.cons (aL.sl ki) (aC.cons (aL.int .i64) (aC.one (aL.int .i64))),aL.sl lS,fun a=>GK a.1 a.2.1 a.2.2,.frz,false⟩
theorem UY: ∀n,aM tab 123 ⟨aC.cons (aL.sl ki) (aC.cons (aL.int .i64) (aC.one (aL.int .i64))),aL.sl lS,fun a=>hO n a,.frz,false⟩
 |0=>aM.zero (fun _=>rfl)
 |n+1=>Oc aGp rfl aH [(123,⟨aC.cons (aL.sl ki) (aC.cons (aL.int .i64) (aC.one (aL.int .i64))),aL.sl lS,fun a=>hO n a,.frz,false⟩)] ⟨(UY n),trivial⟩ fun a=>by kernel_rfl
theorem aJc:aM tab 123 aRh:=UY 1000000
def yK (s:(jC×Int×cQ×(List Int))):Option (bW (jC×Int×cQ×(List Int)) (List Int)):=bif decide (s.2.1<(Int.ofNat s.1.length)) then (aN s.1 s.2.1).bind fun a0=>(gX (Field.mk s.2.2.1) a0.1).bind fun n1=>(aN s.1 s.2.1).bind fun a2=>(aN s.2.2.2 n1).bind fun _=>some (.next (s.1,aA .i64 (s.2.1+1),s.2.2.1,cH s.2.2.2 n1 a2.2)) else some (.done s.2.2.2)
def AJ (p0:Field) (p1:Int×Int):Option (List Int):=(tU p0 p1).bind fun l0=>(GK l0 (-1) 0).bind fun l1=>bif (Int.ofNat p0.points.length)==(Int.ofNat p0.points.length) then (wQ (Int.ofNat p0.points.length) (0:Int)).bind fun l2=>aG yK (l1,0,p0.points,l2) else none
def c66:bO:=⟨aC.cons (aL.agg bZ) (aC.one (aL.agg (cN.row lS))),aL.sl ki,fun a=>AJ a.1 a.2,.frz,false⟩
theorem aOT:aM tab 66 c66:=Oc aNR rfl aH [(60,c60),(123,aRh),(25,c25)] ⟨aOS,aJc,RS,trivial⟩ fun a=>by kernel_rfl
def yL (s:((List Int)×Int×cQ×jC)):Option (bW ((List Int)×Int×cQ×jC) jC):=bif decide (s.2.1<(Int.ofNat s.1.length)) then (aN s.1 s.2.1).bind fun n0=>bif decide (0<=n0) then (aN s.2.2.1 s.2.1).bind fun a1=>(aN s.1 s.2.1).bind fun n2=>(bI s.2.2.2 [(a1.1,n2)]).bind fun l3=>some (.next (s.1,aA .i64 (s.2.1+1),s.2.2.1,l3)) else some (.next (s.1,aA .i64 (s.2.1+1),s.2.2)) else some (.done s.2.2.2)
def AL (p0:Field) (p1:List Int):Option jC:=aG yL (p1,0,p0.points,[])
def c58:bO:=⟨aC.cons (aL.agg bZ) (aC.one (aL.sl ki)),aL.sl lS,fun a=>AL a.1 a.2,.frz,false⟩
theorem aOU:aM tab 58 c58:=Oc aNK rfl aH [] trivial fun a=>by kernel_rfl
def wE (s:(Int×Int×cQ×Int×Int)):Option (bW (Int×Int×cQ×Int×Int) Bool):=bif decide (s.1<(Int.ofNat s.2.2.1.length)) then (aN s.2.2.1 s.1).bind fun a0=>bif (a0.2.1==s.2.2.2.1)&&(a0.2.2==s.2.2.2.2) then some (.done true) else some (.next (aA .i64 (s.1+1),s.2)) else some (.done false)
def wK (p0:aZ) (p1:Int×Int):Option Bool:=aG wE (0,p0.next_,p0.list,p1)
def aRi:bO:=⟨aC.cons (aL.agg qZ) (aC.one (aL.agg (cN.row lS))),aL.bool,fun a=>wK a.1 a.2,.pure,false⟩
theorem aJd:aM tab 124 aRi:=Oc aGq rfl aH [] trivial fun a=>by kernel_rfl
def BV (p0:Int×Int) (p1:Field) (p2:Int×Int):Option Bool:=(gX p1 p0.2).bind fun n0=>(aN p1.points n0).bind fun a1=>(gX p1 p0.1).bind fun n2=>(aN p1.points n2).bind fun a3=>(qL a1 a3 p2).bind fun b4=>some b4
def aRj:bO:=⟨aC.cons (aL.agg (cN.row lS)) (aC.cons (aL.agg bZ) (aC.one (aL.agg (cN.row lS)))),aL.bool,fun a=>BV a.1 a.2.1 a.2.2,.pure,false⟩
theorem aJe:aM tab 125 aRj:=Oc aGr rfl aH [(25,c25),(100,aI4)] ⟨RS,RU,trivial⟩ fun a=>by kernel_rfl
def tX (s:aPQ):Option (bW aPQ Bool):=bif decide (s.2.1<(Int.ofNat s.1.length)) then (aN s.1 s.2.1).bind fun a0=>(wK (aZ.mk s.2.2.2.2.2.1 s.2.2.2.2.2.2.1) a0).bind fun b1=>bif !b1 then some (.done false) else (aN s.1 s.2.1).bind fun a2=>(BV a2 (Field.mk s.2.2.2.2.1) (s.2.2.1,s.2.2.2.1)).bind fun b3=>bif !b3 then some (.done false) else some (.next (s.1,aA .i64 (s.2.1+1),s.2.2)) else some (.done true)
def BW (p0:aP) (p1:List (Int×Int)):Option Bool:=bif (Int.ofNat p0.certs.list.length) !=(Int.ofNat p1.length) then some false else aG tX (p1,0,p0.now.1,p0.now.2,p0.field.points,p0.certs.next_,p0.certs.list,p0.agenda.slots.uses,p0.agenda.slots.used,p0.agenda.slots.free,p0.agenda.heap,p0.agenda.where_,p0.due)
def c67:bO:=⟨aC.cons (aL.agg dC) (aC.one (aL.sl lS)),aL.bool,fun a=>BW a.1 a.2,.pure,false⟩
theorem aOV:aM tab 67 c67:=Oc aNS rfl aH [(124,aRi),(125,aRj)] ⟨aJd,aJe,trivial⟩ fun a=>by kernel_rfl
def eN (p0:bA):Option Int:=(yJ p0.clock).bind fun n0=>bif n0 !=0 then some 8 else (AJ p0.clock.field p0.clock.now).bind fun l1=>(fI l1 p0.up).bind fun b2=>bif !b2 then some 8 else (AL p0.clock.field l1).bind fun l3=>(BW p0.clock l3).bind fun b4=>bif !b4 then some 8 else some 0
def c20:bO:=⟨aC.one (aL.agg dX),aL.int .i64,fun a=>eN a,.pure,false⟩
theorem aCT:aM tab 20 c20:=Oc aNm rfl aH [(65,c65),(66,c66),(41,c41),(58,c58),(67,c67)] ⟨aOR,aOT,XQ,aOU,aOV,trivial⟩ fun a=>by kernel_rfl
def AM (p0:bA):Option Bool:=(uR p0).bind fun b0=>bif !b0 then (GJ p0.clock.field).bind fun b1=>bif !b1 then (eN p0).bind fun n2=>some (n2==0) else some false else some false
def c36:bO:=⟨aC.one (aL.agg dX),aL.bool,fun a=>AM a,.pure,false⟩
theorem aOW:aM tab 36 c36:=Oc aNx rfl aH [(11,c11),(26,c26),(20,c20)] ⟨aOJ,aOK,aCT,trivial⟩ fun a=>by kernel_rfl
def jY (p0:Field) (p1:Int×Int×Int):Option (Field×Int):=(dV p0).bind fun n0=>bif n0 !=0 then some (Field.mk [],n0) else (kE p1).bind fun n1=>bif n1 !=0 then some (Field.mk [],n1) else (kV p0 p1.1).bind fun a2=>bif a2.2 then some (Field.mk [],14) else bif (Int.ofNat p0.points.length)==64 then some (Field.mk [],18) else (bX p0.points).bind fun l3=>(EC l3 a2.1 [p1]).bind fun l4=>some (Field.mk l4,0)
def c37:bO:=⟨aC.cons (aL.agg bZ) (aC.one (aL.agg (cN.row eE))),aL.tup (aC.cons (aL.agg bZ) (aC.one (aL.int .i64))),fun a=>jY a.1 a.2,.frz,false⟩
theorem aCU:aM tab 37 c37:=aM.of aNy (cx:=(wS aH [(85,c85),(86,c86),(87,c87),(89,bO.clone eE)] [] [(88,.ins 3)] [])) rfl (qQ.make ⟨GG,RH,aCH,vW,trivial⟩ trivial ⟨aN6,trivial⟩) (fun a=>by kernel_rfl)
def wF (p0:Field) (p1:Int×Int×Int):Option (Field×Int):=(jY p0 p1).bind fun a0=>some a0
def c79:bO:=⟨aC.cons (aL.agg bZ) (aC.one (aL.ref (cN.row eE))),aL.tup (aC.cons (aL.agg bZ) (aC.one (aL.int .i64))),fun a=>wF a.1 a.2,.frz,false⟩
theorem aOX:aM tab 79 c79:=Oc aN0 rfl aH [(37,c37)] ⟨aCU,trivial⟩ fun a=>by kernel_rfl
def fM (p0:bA) (p1:(Int×Int×Int)):Option (bA×Int):=(kN p0).bind fun n0=>bif n0 !=0 then some (bA.mk jB [],n0) else (wF p0.clock.field p1).bind fun a1=>bif a1.2 !=0 then some (bA.mk jB [],a1.2) else (dO p0.clock a1.1).bind fun a2=>some a2
def aCV:bO:=⟨aC.cons (aL.agg dX) (aC.one (aL.clo 79 (aC.one (aL.ref (cN.row eE))))),aL.tup (aC.cons (aL.agg dX) (aC.one (aL.int .i64))),fun a=>fM a.1 a.2,.frz,false⟩
theorem aA6:aM tab 78 aCV:=Oc XG rfl aH [(19,c19),(79,c79),(54,c54)] ⟨NN,aOX,NM,trivial⟩ fun a=>by kernel_rfl
def xE (p0:bA) (p1:Int×Int×Int):Option (bA×Int):=(fM p0 p1).bind fun a0=>some a0
def c30:bO:=⟨aC.cons (aL.agg dX) (aC.one (aL.agg (cN.row eE))),aL.tup (aC.cons (aL.agg dX) (aC.one (aL.int .i64))),fun a=>xE a.1 a.2,.frz,false⟩
theorem aOY:aM tab 30 c30:=Oc aNu rfl aH [(78,aCV)] ⟨aA6,trivial⟩ fun a=>by kernel_rfl
def kY (a:aA0):Option (Nat×Nat×cQ):= cU a
def aKa:fR:=⟨[.i,.i,.l [.i .i64,.i .i64,.i .i64]],[.own 0 false,.int .i64 0,.int .i64 0],[.arr [.i .i64,.i .i64,.i .i64] []],[.n,.n,.l [.i .i64,.i .i64,.i .i64]],.pre 0 0 0 false,[.arr [.i .i64,.i .i64,.i .i64] []],fun a=>kY a⟩
theorem aCW:qP tab 91 aKa:=qP.of aN9 (wd:=true) (cx:=(wS aH [] [] [] [])) (qQ.make trivial trivial trivial) (fun a=>by kernel_rfl)
def kZ (p0:Field) (p1:Int):Option (Field×Int):=(kM p0 p1).bind fun a0=>bif a0.2 !=0 then some (Field.mk [],a0.2) else (bX p0.points).bind fun l1=>(kY (a0.1,aA .i64 (a0.1+1),l1)).bind fun a2=>some (Field.mk (a2.2.2.take a2.1),0)
end
end
end Go.Proofs.YtbncnimfgdelaaaGreat
