/- Plain functions for what the functions of the seat compute. Printed by a program. -/
import Derived.Test.YthljmpcakagceaaGreatEVm3
import Derived.Test.YthljmpcakagceaaGreatEQXT
set_option maxRecDepth 100000
namespace Go.Proofs.YthljmpcakagceaaGreat
open Go.Vm
noncomputable section
theorem Oc {f:FuncId} {x:aQ} {α β:Type} {args:aE α} {res:aP β} {kd:Kd} {fn:α->Option β} {ow:Bool} (hf:tab f=some (.code x)) (ho:aDl kd ow=true) (lp:Option Nat) (l:List (Nat×bS)) (h:FV tab l) (e: ∀a,aJU (vX lp l [] [] []) x args res kd a=fn a):aN tab f ⟨args,res,fn,kd,ow⟩:=aN.of hf (cx:=vX lp l [] [] []) ho (pN.make h trivial trivial) e
abbrev uK:ByteArray:=ByteArray.mk (Array.mk [0,1,2,2,3,3,3,3,4,4,4,4,4,4,4,4,5,5,5,5,5,5,5,5,5,5,5,5,5,5,5,5,6,6,6,6,6,6,6,6,6,6,6,6,6,6,6,6,6,6,6,6,6,6,6,6,6,6,6,6,6,6,6,6,7,7,7,7,7,7,7,7,7,7,7,7,7,7,7,7,7,7,7,7,7,7,7,7,7,7,7,7,7,7,7,7,7,7,7,7,7,7,7,7,7,7,7,7,7,7,7,7,7,7,7,7,7,7,7,7,7,7,7,7,7,7,7,7,8,8,8,8,8,8,8,8,8,8,8,8,8,8,8,8,8,8,8,8,8,8,8,8,8,8,8,8,8,8,8,8,8,8,8,8,8,8,8,8,8,8,8,8,8,8,8,8,8,8,8,8,8,8,8,8,8,8,8,8,8,8,8,8,8,8,8,8,8,8,8,8,8,8,8,8,8,8,8,8,8,8,8,8,8,8,8,8,8,8,8,8,8,8,8,8,8,8,8,8,8,8,8,8,8,8,8,8,8,8,8,8,8,8,8,8,8,8,8,8,8,8,8,8,8,8,8,8])
abbrev eT:List PT:=[.i .i64,.i .i64,.i .i64]
abbrev jC:List PT:=[.i .i64,.i .i64]
abbrev ki:List PT:=[.i .i64]
abbrev kb:List PT:=[.b]
abbrev kE:List PT:=[.i .i64,.i .i64,.i .i64,.i .i64,.i .i64]
abbrev aPI:List PT:=[.i .i64,.i .i64,.i .i64,.i .i64]
abbrev kiu:List PT:=[.i .i64,.i .u64]
abbrev C5:List PT:=[.b,.i .u64,.i .u64]
structure Field where
 points:List (Int×Int×Int)
def dQ:cN Field:=cN.iso (cN.sl eT) (fun p=>⟨p⟩) (fun c=>c.points) (fun _=>rfl)
structure aR where
 uses:List Int
 used:List Bool
 free:List Int
def oN:cN aR:=cN.iso (cN.prod (cN.sl ki) (cN.prod (cN.sl kb) (cN.sl ki))) (fun p=>⟨p.1,p.2.1,p.2.2⟩) (fun c=>(c.uses,c.used,c.free)) (fun _=>rfl)
structure aG where
 slots:aR
 heap:List (Int×Int×Int×Int×Int)
 where_:List Int
def gM:cN aG:=cN.iso (cN.prod oN (cN.prod (cN.sl kE) (cN.sl ki))) (fun p=>⟨p.1,p.2.1,p.2.2⟩) (fun c=>(c.slots,c.heap,c.where_)) (fun _=>rfl)
structure aU where
 next_:Int
 list:List (Int×Int×Int)
def pX:cN aU:=cN.iso (cN.prod (cN.int .i64) (cN.sl eT)) (fun p=>⟨p.1,p.2⟩) (fun c=>(c.next_,c.list)) (fun _=>rfl)
structure aJ where
 now:Int×Int
 field:Field
 certs:aU
 agenda:aG
 due:List (Int×Int×Int)
def cW:cN aJ:=cN.iso (cN.prod (cN.row jC) (cN.prod dQ (cN.prod pX (cN.prod gM (cN.sl eT))))) (fun p=>⟨p.1,p.2.1,p.2.2.1,p.2.2.2.1,p.2.2.2.2⟩) (fun c=>(c.now,c.field,c.certs,c.agenda,c.due)) (fun _=>rfl)
structure oD where
 root:Int
 nodes:List (Int×Int×Int)
def yK:cN oD:=cN.iso (cN.prod (cN.int .i64) (cN.sl eT)) (fun p=>⟨p.1,p.2⟩) (fun c=>(c.root,c.nodes)) (fun _=>rfl)
structure cX where
 clock:aJ
 tree:oD
def jV:cN cX:=cN.iso (cN.prod cW yK) (fun p=>⟨p.1,p.2⟩) (fun c=>(c.clock,c.tree)) (fun _=>rfl)
theorem vZ:aN tab 103 (bS.clone eT):=aN.clone aFO rfl
theorem aBL:aN tab 242 (bS.add64):=aN.add64 aHj
theorem wB:aN tab 186 (bS.clone kb):=aN.clone aGH rfl
theorem zV:aN tab 182 (bS.clone eT):=aN.clone aGD rfl
theorem G7:aN tab 183 (bS.clone eT):=aN.clone aGE rfl
theorem wC:aN tab 184 (bS.clone kE):=aN.clone aGF rfl
theorem pY:aN tab 185 (bS.clone ki):=aN.clone aGG rfl
theorem S5:aN tab 306 (bS.clone ki):=aN.clone aHJ rfl
section
abbrev rH:=List (Int×Int×Int×Int×Int)
abbrev cE:=List (Int×Int×Int)
abbrev oE:=List (Int×Int)
abbrev aAd:=oE×oE×Int×Int×Int×Int×cE×Int×cE×(List Int)×(List Bool)×(List Int)×rH×(List Int)×cE×cE×Int×Int×Int
abbrev aPJ:=cA aAd (aJ×Int)
abbrev Zt1:=cA aAd aPJ
abbrev Zt2:=cE×Int×Int×Int×Int×cE×Int×cE×(List Int)×(List Bool)×(List Int)×rH×(List Int)×cE×cE×Int×Int×Int×Int×Int×Int×cE×(List Int)×(List Bool)×(List Int)×rH×(List Int)×cE×cE
abbrev aPK:=oE×cE×Int×Int×Int×Int×cE×Int×cE×(List Int)×(List Bool)×(List Int)×rH×(List Int)×cE×cE×Int×Int×Int
abbrev Zt3:=cA aPK (aJ×Int)
abbrev aPL:=cE×Int×Int×Int×Int×cE×Int×cE×(List Int)×(List Bool)×(List Int)×rH×(List Int)×cE×cE×Int×Int×Int
abbrev Zt5:=cA aPL (aJ×Int)
abbrev Zt6:=Int×Int×cE×Int×cE×(List Int)×(List Bool)×(List Int)×rH×(List Int)×cE×Int×cE×Int×Int×Int×Int×Int×Int×oE
abbrev Zt7:=cE×cE×Int×Int×Int×Int×cE×Int×cE×(List Int)×(List Bool)×(List Int)×rH×(List Int)×cE
abbrev Zt8:=oE×Int×Int×Int×Int×cE×Int×cE×(List Int)×(List Bool)×(List Int)×rH×(List Int)×cE×Int×Int×Int
abbrev aPM:=Int×Int×Int×Int×cE×Int×cE×(List Int)×(List Bool)×(List Int)×rH×(List Int)×cE×(List Int)
abbrev Zt9:=cA aPM Int
abbrev aPN:=oE×Int×Int×Int×cE×Int×cE×(List Int)×(List Bool)×(List Int)×rH×(List Int)×cE
abbrev aPO:=Int×Int×Int×Int×cE×Int×cE×(List Int)×(List Bool)×(List Int)×rH×(List Int)×cE
abbrev aPP:=Int×rH×(List Int)×(List Int)×(List Bool)×(List Int)×Nat×Nat×Int×Int×Int×Int×Int
abbrev aAe:=rH×(List Int)
abbrev aPQ:=cA aPP aAe
abbrev aPR:=cA (Int×Int×Int×Int×cE×(List Int)) (oD×oE)
abbrev aPS:=cE×Int×Int×Int×Int×cE×(List Int)
abbrev aN9:=cA aPS aPR
abbrev aPT:=Int×rH×(List Int)×(List Int)×(List Bool)×(List Int)×Int×Int×Int×Int×Int
abbrev aPU:=cA aPT aAe
abbrev aPV:=Nat×Nat×Int×cE×Int×Int×cE×Int×Int×Int×Int×cE×(List Int)×Int×Int×Int×Int×Int×Int
abbrev aPW:=rH×Int×Int×(List Int)×(List Bool)×(List Int)×rH×(List Int)×(List (List Int))
abbrev aPX:=Nat×Nat×cE×Int×Int×cE×Int×Int×Int×Int×cE×(List Int)
abbrev aPY:=cA aPX (oD×Int)
abbrev aPZ:=Int×Int×rH×(List Int)×(List Int)×(List Bool)×(List Int)×Nat×Nat×Int×Int×Int×Int×Int
abbrev aHK:=(List Int)×(List Bool)×(List Int)×Nat×Nat×Int×Int×Int×Int×Int×Int×rH×(List Int)
abbrev aP0:=Int×Int×rH×(List Int)×(List Int)×(List Bool)×(List Int)×Int×Int×Int×Int×Int
abbrev aP1:=Int×Int×(List Int)×(List Bool)×(List Int)×rH×(List Int)×Int×Int×Int×Int×Int
abbrev aHL:=(List Int)×(List Bool)×(List Int)×Int×Int×Int×Int×Int×Int×rH×(List Int)
abbrev aP2:=(List Int)×Int×Int×(List Int)×(List Bool)×(List Int)×rH×(List Int)
abbrev aP3:=cA aP2 Int
abbrev aP4:=Int×cE×Int×Int×Int×Int×Int×Int×Int×cE×(List Int)
abbrev aP5:=cE×Int×Int×Int×Int×cE×(List Int)×oE
abbrev aHM:=Int×(List Int)×(List Bool)×(List Int)×rH×(List Int)
abbrev aOa:=cA aHM Int
abbrev aP6:=Int×Int×(List Int)×(List Bool)×(List Int)×rH×(List Int)
abbrev aP7:=Int×cE×Int×Int×Int×cE×(List (List Int))
abbrev aP8:=(List Int)×Int×Int×(List Int)×(List Bool)×(List Int)×Int×(List Bool)
abbrev aP9:=cA aP8 Int
abbrev aQa:=cA (Int×Int×cE×oE) oE
abbrev aHN:=cE×Int×Int×Int×Int×Int×cE
abbrev aQb:=Int×cE×Int×Int×Int×Int×cE
abbrev aOb:=cE×cE×Int×Int
abbrev aQc:=cA aOb Bool
abbrev QJ:=cE×Int×Int×Int×Int
abbrev aHO:=cA QJ (Int×Bool)
abbrev aBM:=cE×Int×Int×cE
abbrev aBN:=Int×Int×(List Int)×(List Bool)×(List Int)×(List Bool)
abbrev aHP:=Int×Int×cE×Int×Int
abbrev aBO:=Int×Int×cE
abbrev aOc:=cA aBO Int
abbrev QK:=Int×cE
abbrev QL:=Int×Int×Int×cE×Int×Int
variable [LP]
def JV:Option Field:=some (Field.mk [(1,0,2),(2,6,-1),(5,0,0)])
def c50:bS:=⟨aE.nil,aP.agg dQ,fun _=>JV,.frz,false⟩
theorem aOd:aN tab 50 c50:=Oc aNG rfl aK [] trivial fun a=>by kernel_rfl
def MO (p0:Int):Option (Int×Int):=some (p0,1)
def c51:bS:=⟨aE.one (aP.int .i64),aP.agg (cN.row jC),fun a=>MO a,.pure,false⟩
theorem aOe:aN tab 51 c51:=Oc aNH rfl aK [] trivial fun a=>by kernel_rfl
def pZ (p0:Int):Option Bool:=bif decide (p0<(-1048576)) then some true else some (decide (1048576<p0))
def aQd:bS:=⟨aE.one (aP.int .i64),aP.bool,fun a=>pZ a,.pure,false⟩
theorem aHQ:aN tab 154 aQd:=Oc aGi rfl aK [] trivial fun a=>by kernel_rfl
def nP (p0:Int×Int×Int):Option Int:=bif decide (p0.1<0) then some 8 else bif decide (65535<p0.1) then some 8 else (pZ p0.2.1).bind fun b0=>bif b0 then some 8 else (pZ p0.2.2).bind fun b1=>bif b1 then some 8 else some 0
def aOf:bS:=⟨aE.one (aP.agg (cN.row eT)),aP.int .i64,fun a=>nP a,.pure,false⟩
theorem YC:aN tab 100 aOf:=Oc aFM rfl aK [(154,aQd)] ⟨aHQ,trivial⟩ fun a=>by kernel_rfl
def jD (s:aBM):Option (cA aBM (cA aBM Int)):=bif decide (s.2.2.1<s.2.1) then (aO s.1 s.2.2.1).bind fun a0=>bif decide (0<s.2.2.1) then (aO s.2.2.2 (aA .i64 (s.2.2.1-1))).bind fun a1=>bif decide (a0.1<=a1.1) then some (.done (.done 32)) else some (.next (s.1,s.2.1,aA .i64 (s.2.2.1+1),s.2.2.2)) else some (.next (s.1,s.2.1,aA .i64 (s.2.2.1+1),s.2.2.2)) else some (.done (.done 0))
def nC (s:aBM):Option (cA aBM Int):=bif decide (s.2.2.1<s.2.1) then (aO s.1 s.2.2.1).bind fun a0=>(nP a0).bind fun n1=>bif n1 !=0 then some (.done n1) else some (.next (s.1,s.2.1,aA .i64 (s.2.2.1+1),s.2.2.2)) else aH jD (s.2.2.2,Int.ofNat s.2.2.2.length,0,s.2.2.2)
def eK (p0:Field):Option Int:=bif decide (64<(Int.ofNat p0.points.length)) then some 4 else aH nC (p0.points,Int.ofNat p0.points.length,0,p0.points)
def c99:bS:=⟨aE.one (aP.agg dQ),aP.int .i64,fun a=>eK a,.pure,false⟩
theorem FX:aN tab 99 c99:=Oc aN8 rfl aK [(100,aOf)] ⟨YC,trivial⟩ fun a=>by kernel_rfl
def mM (p0:Int):Option Int:=bif decide (p0<0) then some (aA .u64 (0- (aA .u64 p0))) else some (aA .u64 p0)
def aHR:bS:=⟨aE.one (aP.int .i64),aP.int .u64,fun a=>mM a,.pure,false⟩
theorem QM:aN tab 118 aHR:=Oc aFZ rfl aK [] trivial fun a=>by kernel_rfl
def vB (s:(Int×Int)):Option (cA (Int×Int) Int):=bif decide (0<s.2) then bif s.2==0 then none else some (.next (s.2,Int.tmod s.1 s.2)) else some (.done s.1)
def zW (p0:Int) (p1:Int):Option Int:=aH vB (p0,p1)
def aOg:bS:=⟨aE.cons (aP.int .u64) (aE.one (aP.int .u64)),aP.int .u64,fun a=>zW a.1 a.2,.pure,false⟩
theorem YD:aN tab 117 aOg:=Oc aFY rfl aK [] trivial fun a=>by kernel_rfl
def dZ (p0:Int×Int):Option Int:=bif decide (p0.2<1) then some 8 else bif p0.1==(-9223372036854775808) then some 8 else (mM p0.1).bind fun n0=>(zW (aA .u64 p0.2) n0).bind fun n1=>bif decide (1<n1) then some 8 else some 0
def c72:bS:=⟨aE.one (aP.agg (cN.row jC)),aP.int .i64,fun a=>dZ a,.pure,false⟩
theorem wD:aN tab 72 c72:=Oc aNV rfl aK [(118,aHR),(117,aOg)] ⟨QM,YD,trivial⟩ fun a=>by kernel_rfl
def S6 (s:(Int×Int×Int×(List Int)×(List Bool)×(List Int))):Option (cA (Int×Int×Int×(List Int)×(List Bool)×(List Int)) (aR×Int)):=bif decide (s.2.2.1<s.2.1) then (aO s.2.2.2.2.2 s.2.2.1).bind fun _=>some (.next (s.1,s.2.1,aA .i64 (s.2.2.1+1),s.2.2.2.1,s.2.2.2.2.1,bZ s.2.2.2.2.2 s.2.2.1 (aA .i64 ((aA .i64 (s.1-1)) -s.2.2.1)))) else some (.done (aR.mk s.2.2.2.1 s.2.2.2.2.1 s.2.2.2.2.2,0))
def S7 (p0:Int):Option (aR×Int):=bif decide (p0<1) then some (aR.mk [] [] [],2) else bif decide (200<p0) then some (aR.mk [] [] [],2) else bif p0==p0 then (B2 p0 (0:Int)).bind fun l0=>bif p0==p0 then (B2 p0 (false:Bool)).bind fun l1=>bif p0==p0 then (B2 p0 (0:Int)).bind fun l2=>aH S6 (p0,p0,0,l0,l1,l2) else none else none else none
def aQe:bS:=⟨aE.one (aP.int .i64),aP.tup (aE.cons (aP.agg oN) (aE.one (aP.int .i64))),fun a=>S7 a,.frz,false⟩
theorem aHS:aN tab 161 aQe:=Oc aGm rfl aK [] trivial fun a=>by kernel_rfl
def KB (p0:Int) (p1:Int):Option (Int×Int):=some (aA .u32 (iQ .u64 (aA .u64 ((aA .u64 p0)*(aA .u64 p1))) 32),aA .u32 (aA .u64 ((aA .u64 p0)*(aA .u64 p1))))
def aQf:bS:=⟨aE.cons (aP.int .u32) (aE.one (aP.int .u32)),aP.tup (aE.cons (aP.int .u32) (aE.one (aP.int .u32))),fun a=>KB a.1 a.2,.pure,false⟩
theorem aHT:aN tab 262 aQf:=Oc aHl rfl aK [] trivial fun a=>by kernel_rfl
def iI (p0:Int) (p1:Int):Option (Int×Int):=some (aA .u64 ((aA .u64 ((aA .u64 ((iQ .u64 p0 32)*(iQ .u64 p1 32)))+(iQ .u64 (aA .u64 ((aA .u64 ((iQ .u64 p0 32)*(J8 .u64 p1 4294967295)))+(iQ .u64 (aA .u64 ((J8 .u64 p0 4294967295)*(J8 .u64 p1 4294967295))) 32))) 32)))+(iQ .u64 (aA .u64 ((J8 .u64 (aA .u64 ((aA .u64 ((iQ .u64 p0 32)*(J8 .u64 p1 4294967295)))+(iQ .u64 (aA .u64 ((J8 .u64 p0 4294967295)*(J8 .u64 p1 4294967295))) 32))) 4294967295)+(aA .u64 ((J8 .u64 p0 4294967295)*(iQ .u64 p1 32))))) 32)),aA .u64 (p0*p1))
def aHU:bS:=⟨aE.cons (aP.int .u64) (aE.one (aP.int .u64)),aP.tup (aE.cons (aP.int .u64) (aE.one (aP.int .u64))),fun a=>iI a.1 a.2,.pure,false⟩
theorem QN:aN tab 176 aHU:=Oc aGx rfl aK [] trivial fun a=>by kernel_rfl
def E3 (p0:Int) (p1:Int):Option (Int×Int):=(iI p0 p1).bind fun a0=>some a0
def aOh:bS:=⟨aE.cons (aP.int .u64) (aE.one (aP.int .u64)),aP.tup (aE.cons (aP.int .u64) (aE.one (aP.int .u64))),fun a=>E3 a.1 a.2,.pure,false⟩
theorem YE:aN tab 210 aOh:=Oc aGV rfl aK [(262,aQf),(176,aHU)] ⟨aHT,QN,trivial⟩ fun a=>by kernel_rfl
def tH (s:(Int×(List Int))):Option (cA (Int×(List Int)) (List Int)):=bif decide (s.1<(Int.ofNat s.2.length)) then bif ((decide (0<=s.1))&&(decide (s.1<=(Int.ofNat s.2.length))))&&(decide ((Int.ofNat s.2.length)<=(Int.ofNat s.2.length))) then (iZ s.2 0 s.1).bind fun _=>bif ((s.2.take s.1.toNat).take (((Int.ofNat s.2.length).toNat) -s.1.toNat)).isEmpty then some (.next (aA .i64 (s.1+0),s.2)) else bif (Nat.ble ((0+s.1.toNat)+(((s.2.take s.1.toNat).take (((Int.ofNat s.2.length).toNat) -s.1.toNat)).length)) s.2.length)&&(!false) then some (.next (aA .i64 (s.1+(Int.ofNat (((s.2.take s.1.toNat).take (((Int.ofNat s.2.length).toNat) -s.1.toNat)).length))),hM s.2 (0+s.1.toNat) ((s.2.take s.1.toNat).take (((Int.ofNat s.2.length).toNat) -s.1.toNat)))) else none else none else some (.done s.2)
def qA (p0:List Int) (p1:Int):Option (List Int):=bif decide (p1<0) then none else (E3 (aA .u64 (Int.ofNat p0.length)) (aA .u64 p1)).bind fun a0=>bif decide (0<a0.1) then none else bif decide (9223372036854775807<a0.2) then none else bif (aA .i64 a0.2)==(aA .i64 a0.2) then (B2 (aA .i64 a0.2) (0:Int)).bind fun l1=>bif (p0.take l1.length).isEmpty then aH tH (0,l1) else bif (Nat.ble (0+((p0.take l1.length).length)) l1.length)&&(!false) then aH tH (Int.ofNat ((p0.take l1.length).length),hM l1 0 (p0.take l1.length)) else none else none
def aQg:bS:=⟨aE.cons (aP.sl ki) (aE.one (aP.int .i64)),aP.sl ki,fun a=>qA a.1 a.2,.own,true⟩
def aJ1:bS:=⟨aE.cons (aP.sl ki) (aE.one (aP.int .i64)),aP.sl ki,fun a=>qA a.1 a.2,.frz,false⟩
theorem aHV:aN tab 162 aQg:=Oc X7 rfl aK [(210,aOh)] ⟨YE,trivial⟩ fun a=>by kernel_rfl
theorem aBP:aN tab 162 aJ1:=Oc X7 rfl aK [(210,aOh)] ⟨YE,trivial⟩ fun a=>by kernel_rfl
def MP (p0:Int):Option (aG×Int):=(S7 p0).bind fun a0=>bif a0.2 !=0 then some (aG.mk (aR.mk [] [] []) [] [],a0.2) else (qA [-1] p0).bind fun l1=>some (aG.mk a0.1 [] l1,0)
def aQh:bS:=⟨aE.one (aP.int .i64),aP.tup (aE.cons (aP.agg gM) (aE.one (aP.int .i64))),fun a=>MP a,.frz,false⟩
theorem aHW:aN tab 107 aQh:=Oc aFR rfl aK [(161,aQe),(162,aQg),(162,aJ1)] ⟨aHS,aHV,aBP,trivial⟩ fun a=>by kernel_rfl
def O1 (p0:Field) (p1:Int×Int):Option (aJ×Int):=(eK p0).bind fun n0=>bif n0 !=0 then some (aJ.mk (0,0) (Field.mk []) (aU.mk 0 []) (aG.mk (aR.mk [] [] []) [] []) [],n0) else (dZ p1).bind fun n1=>bif n1 !=0 then some (aJ.mk (0,0) (Field.mk []) (aU.mk 0 []) (aG.mk (aR.mk [] [] []) [] []) [],n1) else (MP 200).bind fun a2=>(cC p0.points).bind fun l3=>some (aJ.mk p1 (Field.mk l3) (aU.mk 0 []) a2.1 [],a2.2)
def c55:bS:=⟨aE.cons (aP.agg dQ) (aE.one (aP.agg (cN.row jC))),aP.tup (aE.cons (aP.agg cW) (aE.one (aP.int .i64))),fun a=>O1 a.1 a.2,.frz,false⟩
theorem aOi:aN tab 55 c55:=Oc aNL rfl aK [(99,c99),(72,c72),(107,aQh),(103,bS.clone eT)] ⟨FX,wD,aHW,vZ,trivial⟩ fun a=>by kernel_rfl
def A5 (p0:Field) (p1:Int×Int):Option Int:=(eK p0).bind fun n0=>bif n0 !=0 then some n0 else (dZ p1).bind fun n1=>some n1
def c81:bS:=⟨aE.cons (aP.agg dQ) (aE.one (aP.agg (cN.row jC))),aP.int .i64,fun a=>A5 a.1 a.2,.pure,false⟩
theorem aOj:aN tab 81 c81:=Oc aN4 rfl aK [(99,c99),(72,c72)] ⟨FX,wD,trivial⟩ fun a=>by kernel_rfl
def rI (p0:Int×Int×Int) (p1:Int×Int×Int) (p2:Int×Int):Option Int:=(nP p0).bind fun n0=>(nP p1).bind fun n1=>(dZ p2).bind fun n2=>bif (if n2>(if n1>n0 then n1 else n0) then n2 else if n1>n0 then n1 else n0) !=0 then some (if n2>(if n1>n0 then n1 else n0) then n2 else if n1>n0 then n1 else n0) else bif p0.1==p1.1 then some 2 else some 0
def aHX:bS:=⟨aE.cons (aP.agg (cN.row eT)) (aE.cons (aP.agg (cN.row eT)) (aE.one (aP.agg (cN.row jC)))),aP.int .i64,fun a=>rI a.1 a.2.1 a.2.2,.pure,false⟩
theorem QO:aN tab 135 aHX:=Oc aGe rfl aK [(100,aOf),(72,c72)] ⟨YC,wD,trivial⟩ fun a=>by kernel_rfl
def oF (s:(Int×Int×Int×Int×Int×Int×Int×Int×Int)):Option (cA (Int×Int×Int×Int×Int×Int×Int×Int×Int) (Int×Int)):=bif decide (s.2.2.2.2.1<2) then bif s.2.2.2.2.1==0 then (iI (aA .u64 s.1) (aA .u64 s.2.1)).bind fun a0=>bif decide (s.1<0) then bif decide (s.2.1<0) then (rG s.2.2.2.2.2.2.2.2 a0.2 0).bind fun a1=>some (.next (s.1,s.2.1,s.2.2.1,s.2.2.2.1,aA .i64 (s.2.2.2.2.1+1),s.2.2.2.2.2.1,s.2.2.2.2.2.2.1,aA .i64 ((aA .i64 (s.2.2.2.2.2.2.2.1+(aA .i64 ((aA .i64 ((aA .i64 a0.1) -s.2.1)) -s.1))))+(aA .i64 a1.2)),a1.1)) else (rG s.2.2.2.2.2.2.2.2 a0.2 0).bind fun a2=>some (.next (s.1,s.2.1,s.2.2.1,s.2.2.2.1,aA .i64 (s.2.2.2.2.1+1),s.2.2.2.2.2.1,s.2.2.2.2.2.2.1,aA .i64 ((aA .i64 (s.2.2.2.2.2.2.2.1+(aA .i64 ((aA .i64 a0.1) -s.2.1))))+(aA .i64 a2.2)),a2.1)) else bif decide (s.2.1<0) then (rG s.2.2.2.2.2.2.2.2 a0.2 0).bind fun a3=>some (.next (s.1,s.2.1,s.2.2.1,s.2.2.2.1,aA .i64 (s.2.2.2.2.1+1),s.2.2.2.2.2.1,s.2.2.2.2.2.2.1,aA .i64 ((aA .i64 (s.2.2.2.2.2.2.2.1+(aA .i64 ((aA .i64 a0.1) -s.1))))+(aA .i64 a3.2)),a3.1)) else (rG s.2.2.2.2.2.2.2.2 a0.2 0).bind fun a4=>some (.next (s.1,s.2.1,s.2.2.1,s.2.2.2.1,aA .i64 (s.2.2.2.2.1+1),s.2.2.2.2.2.1,s.2.2.2.2.2.2.1,aA .i64 ((aA .i64 (s.2.2.2.2.2.2.2.1+(aA .i64 a0.1)))+(aA .i64 a4.2)),a4.1)) else bif s.2.2.2.2.1==1 then (iI (aA .u64 s.2.2.1) (aA .u64 s.2.2.2.1)).bind fun a5=>bif decide (s.2.2.1<0) then bif decide (s.2.2.2.1<0) then (rG s.2.2.2.2.2.2.2.2 a5.2 0).bind fun a6=>some (.next (s.1,s.2.1,s.2.2.1,s.2.2.2.1,aA .i64 (s.2.2.2.2.1+1),s.2.2.2.2.2.1,s.2.2.2.2.2.2.1,aA .i64 ((aA .i64 (s.2.2.2.2.2.2.2.1+(aA .i64 ((aA .i64 ((aA .i64 a5.1) -s.2.2.2.1)) -s.2.2.1))))+(aA .i64 a6.2)),a6.1)) else (rG s.2.2.2.2.2.2.2.2 a5.2 0).bind fun a7=>some (.next (s.1,s.2.1,s.2.2.1,s.2.2.2.1,aA .i64 (s.2.2.2.2.1+1),s.2.2.2.2.2.1,s.2.2.2.2.2.2.1,aA .i64 ((aA .i64 (s.2.2.2.2.2.2.2.1+(aA .i64 ((aA .i64 a5.1) -s.2.2.2.1))))+(aA .i64 a7.2)),a7.1)) else bif decide (s.2.2.2.1<0) then (rG s.2.2.2.2.2.2.2.2 a5.2 0).bind fun a8=>some (.next (s.1,s.2.1,s.2.2.1,s.2.2.2.1,aA .i64 (s.2.2.2.2.1+1),s.2.2.2.2.2.1,s.2.2.2.2.2.2.1,aA .i64 ((aA .i64 (s.2.2.2.2.2.2.2.1+(aA .i64 ((aA .i64 a5.1) -s.2.2.1))))+(aA .i64 a8.2)),a8.1)) else (rG s.2.2.2.2.2.2.2.2 a5.2 0).bind fun a9=>some (.next (s.1,s.2.1,s.2.2.1,s.2.2.2.1,aA .i64 (s.2.2.2.2.1+1),s.2.2.2.2.2.1,s.2.2.2.2.2.2.1,aA .i64 ((aA .i64 (s.2.2.2.2.2.2.2.1+(aA .i64 a5.1)))+(aA .i64 a9.2)),a9.1)) else none else some (.done s.2.2.2.2.2.2.2)
def A6 (p0:Int×Int×Int×Int):Option (Int×Int):=aH oF (p0.1,p0.2.1,p0.2.2.1,p0.2.2.2,0,0,0,0,0)
def aQi:bS:=⟨aE.one (aP.agg (cN.row aPI)),aP.agg (cN.row kiu),fun a=>A6 a,.pure,false⟩
theorem aHY:aN tab 194 aQi:=Oc aGP rfl aK [(176,aHU),(242,bS.add64)] ⟨QN,aBL,trivial⟩ fun a=>by kernel_rfl
def oO (p0:Int):Option Bool:=some (p0 !=p0)
def aQj:bS:=⟨aE.one (aP.int .i64),aP.bool,fun a=>oO a,.pure,false⟩
theorem aHZ:aN tab 174 aQj:=Oc aGv rfl aK [] trivial fun a=>by kernel_rfl
def jW (p0:Int) (p1:Int):Option Int:=(oO p0).bind fun b0=>(oO p1).bind fun b1=>bif b0 then bif b1 then some 0 else some (-1) else bif b1 then some 1 else bif decide (p0<p1) then some (-1) else bif decide (p1<p0) then some 1 else some 0
def aOk:bS:=⟨aE.cons (aP.int .i64) (aE.one (aP.int .i64)),aP.int .i64,fun a=>jW a.1 a.2,.pure,false⟩
theorem YF:aN tab 120 aOk:=Oc aF1 rfl aK [(174,aQj)] ⟨aHZ,trivial⟩ fun a=>by kernel_rfl
def sI (p0:Int):Option Bool:=some (p0 !=p0)
def aQk:bS:=⟨aE.one (aP.int .i64),aP.bool,fun a=>sI a,.pure,false⟩
theorem aH0:aN tab 207 aQk:=Oc aGT rfl aK [] trivial fun a=>by kernel_rfl
def fM (p0:Int) (p1:Int):Option Int:=(sI p0).bind fun b0=>(sI p1).bind fun b1=>bif b0 then bif b1 then some 0 else some (-1) else bif b1 then some 1 else bif decide (p0<p1) then some (-1) else bif decide (p1<p0) then some 1 else some 0
def V0:bS:=⟨aE.cons (aP.int .i64) (aE.one (aP.int .i64)),aP.int .i64,fun a=>fM a.1 a.2,.pure,false⟩
theorem D9:aN tab 157 V0:=Oc aGk rfl aK [(207,aQk)] ⟨aH0,trivial⟩ fun a=>by kernel_rfl
def yL (s:(Int×(List Int)×Int×Int)):Option (cA (Int×(List Int)×Int×Int) Int):=bif decide (s.2.2.2<s.2.2.1) then (aO s.2.1 s.2.2.2).bind fun n0=>bif n0 !=s.1 then some (.done n0) else some (.next (s.1,s.2.1,s.2.2.1,aA .i64 (s.2.2.2+1))) else some (.done s.1)
def wE (p0:List Int):Option Int:=aH yL (0,p0,Int.ofNat p0.length,0)
def aOl:bS:=⟨aE.one (aP.sl ki),aP.int .i64,fun a=>wE a,.pure,false⟩
theorem YG:aN tab 195 aOl:=Oc aGQ rfl aK [] trivial fun a=>by kernel_rfl
def nD (p0:Int×Int×Int) (p1:Int×Int×Int) (p2:Int×Int):Option Int:=(A6 (aA .i64 (p0.2.1-p1.2.1),p2.2,aA .i64 (p0.2.2-p1.2.2),p2.1)).bind fun a0=>bif !((a0.1==0)&&(a0.2==0)) then bif decide (a0.1<0) then some (-1) else some 1 else (jW p0.2.2 p1.2.2).bind fun n1=>(fM p1.1 p0.1).bind fun n2=>(wE [n1,n2]).bind fun n3=>some n3
def aOm:bS:=⟨aE.cons (aP.agg (cN.row eT)) (aE.cons (aP.agg (cN.row eT)) (aE.one (aP.agg (cN.row jC)))),aP.int .i64,fun a=>nD a.1 a.2.1 a.2.2,.pure,false⟩
theorem YH:aN tab 136 aOm:=Oc aGf rfl aK [(194,aQi),(120,aOk),(157,V0),(195,aOl)] ⟨aHY,YF,D9,YG,trivial⟩ fun a=>by kernel_rfl
def jX (p0:Int×Int×Int) (p1:Int×Int×Int) (p2:Int×Int):Option (Bool×Int):=(rI p0 p1 p2).bind fun n0=>bif n0 !=0 then some (false,n0) else (nD p0 p1 p2).bind fun n1=>some (decide (0<n1),0)
def c82:bS:=⟨aE.cons (aP.agg (cN.row eT)) (aE.cons (aP.agg (cN.row eT)) (aE.one (aP.agg (cN.row jC)))),aP.tup (aE.cons aP.bool (aE.one (aP.int .i64))),fun a=>jX a.1 a.2.1 a.2.2,.pure,false⟩
theorem V1:aN tab 82 c82:=Oc aN5 rfl aK [(135,aHX),(136,aOm)] ⟨QO,YH,trivial⟩ fun a=>by kernel_rfl
def qB (s:aPV):Option (cA aPV aPY):=match s with |(a,b,d,e,f,g,h,i,j,k,l,m,n,o,q,r,t,u,v)=>bif decide (0<(Int.ofNat a)) then (aO (n.take a) (aA .i64 ((Int.ofNat a) -1))).bind fun n0=>(aO h n0).bind fun a1=>(jX a1 (o,q,r) (i,j)).bind fun a2=>bif a2.1 then bif decide (0<(Int.ofNat a)) then (aO (n.take a) (aA .i64 ((Int.ofNat a) -1))).bind fun n3=>(aO m n3).bind fun a4=>(bK (bZ m n3 (a4.1,a4.2.1,d)) [(t,u,v)]).bind fun l5=>bif Nat.ble (a+[d].length) b then bif (Nat.ble (a+[d].length) n.length)&&(!false) then some (.done (.next (a+[d].length,b,e,f,aA .i64 (g+1),h,i,j,k,l,l5,hM n a [d]))) else none else (bK (n.take a) [d]).bind fun l6=>bif Nat.ble a n.length then some (.done (.next (l6.length,l6.length,e,f,aA .i64 (g+1),h,i,j,k,l,l5,l6))) else none else (bK m [(t,u,v)]).bind fun l7=>bif Nat.ble (a+[d].length) b then bif (Nat.ble (a+[d].length) n.length)&&(!false) then some (.done (.next (a+[d].length,b,e,f,aA .i64 (g+1),h,i,j,k,d,l7,hM n a [d]))) else none else (bK (n.take a) [d]).bind fun l8=>bif Nat.ble a n.length then some (.done (.next (l8.length,l8.length,e,f,aA .i64 (g+1),h,i,j,k,d,l7,l8))) else none else bif (decide (0<=(aA .i64 ((Int.ofNat a) -1))))&&(decide ((aA .i64 ((Int.ofNat a) -1))<=(Int.ofNat b))) then some (.next ((aA .i64 ((Int.ofNat a) -1)).toNat,b,d,e,f,g,h,i,j,k,l,m,n,o,q,r,t,n0,v)) else none else bif decide (0<(Int.ofNat a)) then (aO (n.take a) (aA .i64 ((Int.ofNat a) -1))).bind fun n9=>(aO m n9).bind fun a10=>(bK (bZ m n9 (a10.1,a10.2.1,d)) [(t,u,v)]).bind fun l11=>bif Nat.ble (a+[d].length) b then bif (Nat.ble (a+[d].length) n.length)&&(!false) then some (.done (.next (a+[d].length,b,e,f,aA .i64 (g+1),h,i,j,k,l,l11,hM n a [d]))) else none else (bK (n.take a) [d]).bind fun l12=>bif Nat.ble a n.length then some (.done (.next (l12.length,l12.length,e,f,aA .i64 (g+1),h,i,j,k,l,l11,l12))) else none else (bK m [(t,u,v)]).bind fun l13=>bif Nat.ble (a+[d].length) b then bif (Nat.ble (a+[d].length) n.length)&&(!false) then some (.done (.next (a+[d].length,b,e,f,aA .i64 (g+1),h,i,j,k,d,l13,hM n a [d]))) else none else (bK (n.take a) [d]).bind fun l14=>bif Nat.ble a n.length then some (.done (.next (l14.length,l14.length,e,f,aA .i64 (g+1),h,i,j,k,d,l13,l14))) else none
def nQ (s:aPX):Option aPY:=bif decide (s.2.2.2.2.1<s.2.2.2.1) then (aO s.2.2.1 s.2.2.2.2.1).bind fun a0=>aH qB (s.1,s.2.1,s.2.2.2.2.1,s.2.2.1,s.2.2.2.1,s.2.2.2.2.1,s.2.2.2.2.2.1,s.2.2.2.2.2.2.1,s.2.2.2.2.2.2.2.1,s.2.2.2.2.2.2.2.2.1,s.2.2.2.2.2.2.2.2.2.1,s.2.2.2.2.2.2.2.2.2.2.1,s.2.2.2.2.2.2.2.2.2.2.2,a0.1,a0.2.1,a0.2.2,a0.1,-1,-1) else some (.done (oD.mk s.2.2.2.2.2.2.2.2.2.1 s.2.2.2.2.2.2.2.2.2.2.1,0))
def zX (p0:Field) (p1:Int×Int):Option (oD×Int):=(A5 p0 p1).bind fun n0=>bif n0 !=0 then some (oD.mk 0 [],n0) else aH nQ (0,0,p0.points,Int.ofNat p0.points.length,0,p0.points,p1.1,p1.2,0,-1,[],[])
def c29:bS:=⟨aE.cons (aP.agg dQ) (aE.one (aP.agg (cN.row jC))),aP.tup (aE.cons (aP.agg yK) (aE.one (aP.int .i64))),fun a=>zX a.1 a.2,.frz,false⟩
theorem aBQ:aN tab 29 c29:=Oc aNB rfl aK [(81,c81),(82,c82)] ⟨aOj,V1,trivial⟩ fun a=>by kernel_rfl
def jE (s:aP4):Option (cA aP4 aN9):=bif decide (s.2.2.2.2.2.2.1<2) then bif s.2.2.2.2.2.2.1==0 then bif decide (0<=s.2.2.2.2.1) then (aO s.2.2.2.2.2.2.2.2.2.2 s.2.2.2.2.1).bind fun _=>some (.next (s.1,s.2.1,s.2.2.1,s.2.2.2.1,s.2.2.2.2.1,s.2.2.2.2.2.1,aA .i64 (s.2.2.2.2.2.2.1+1),s.2.2.2.2.2.2.2.1,s.2.2.2.2.2.2.2.2.1,s.2.2.2.2.2.2.2.2.2.1,bZ s.2.2.2.2.2.2.2.2.2.2 s.2.2.2.2.1 s.1)) else some (.next (s.1,s.2.1,s.2.2.1,s.2.2.2.1,s.2.2.2.2.1,s.2.2.2.2.2.1,aA .i64 (s.2.2.2.2.2.2.1+1),s.2.2.2.2.2.2.2)) else bif s.2.2.2.2.2.2.1==1 then bif decide (0<=s.2.2.2.2.2.1) then (aO s.2.2.2.2.2.2.2.2.2.2 s.2.2.2.2.2.1).bind fun _=>some (.next (s.1,s.2.1,s.2.2.1,s.2.2.2.1,s.2.2.2.2.1,s.2.2.2.2.2.1,aA .i64 (s.2.2.2.2.2.2.1+1),s.2.2.2.2.2.2.2.1,s.2.2.2.2.2.2.2.2.1,s.2.2.2.2.2.2.2.2.2.1,bZ s.2.2.2.2.2.2.2.2.2.2 s.2.2.2.2.2.1 s.1)) else some (.next (s.1,s.2.1,s.2.2.1,s.2.2.2.1,s.2.2.2.2.1,s.2.2.2.2.2.1,aA .i64 (s.2.2.2.2.2.2.1+1),s.2.2.2.2.2.2.2)) else none else some (.done (.next (s.2.1,s.2.2.1,aA .i64 (s.2.2.2.1+1),s.2.2.2.2.2.2.2)))
def kY (s:aP5):Option (cA aP5 aN9):=bif decide (s.2.2.1<s.2.1) then (aO s.1 s.2.2.1).bind fun a0=>(aO s.2.2.2.2.2.2.1 s.2.2.1).bind fun n1=>bif decide (0<=n1) then (aO s.2.2.2.2.2.2.1 s.2.2.1).bind fun n2=>(aO s.2.2.2.2.2.1 n2).bind fun a3=>(bK s.2.2.2.2.2.2.2 [(a0.1,a3.1)]).bind fun l4=>some (.next (s.1,s.2.1,aA .i64 (s.2.2.1+1),s.2.2.2.1,s.2.2.2.2.1,s.2.2.2.2.2.1,s.2.2.2.2.2.2.1,l4)) else some (.next (s.1,s.2.1,aA .i64 (s.2.2.1+1),s.2.2.2)) else some (.done (.done (.done (oD.mk s.2.2.2.2.1 s.2.2.2.2.2.1,s.2.2.2.2.2.2.2))))
def kZ (s:aPS):Option aN9:=bif decide (s.2.2.1<s.2.1) then (aO s.1 s.2.2.1).bind fun a0=>aH jE (s.2.2.1,s.1,s.2.1,s.2.2.1,a0.2.1,a0.2.2,0,s.2.2.2) else aH kY (s.2.2.2.2.2.1,Int.ofNat s.2.2.2.2.2.1.length,0,s.2.2.2.1,s.2.2.2.2.1,s.2.2.2.2.2.1,s.2.2.2.2.2.2,[])
def lA (s:(Int×Int×Int×Int×cE×(List Int))):Option aPR:=bif decide (s.2.1<s.1) then (aO s.2.2.2.2.2 s.2.1).bind fun _=>some (.next (s.1,aA .i64 (s.2.1+1),s.2.2.1,s.2.2.2.1,s.2.2.2.2.1,bZ s.2.2.2.2.2 s.2.1 (-1))) else aH kZ (s.2.2.2.2.1,Int.ofNat s.2.2.2.2.1.length,0,s.2.2)
def iT (p0:Field) (p1:Int×Int):Option (oD×oE):=(zX p0 p1).bind fun a0=>bif (Int.ofNat a0.1.nodes.length)==(Int.ofNat a0.1.nodes.length) then (B2 (Int.ofNat a0.1.nodes.length) (0:Int)).bind fun l1=>aH lA (Int.ofNat l1.length,0,0,a0.1.root,a0.1.nodes,l1) else none
def c58:bS:=⟨aE.cons (aP.agg dQ) (aE.one (aP.agg (cN.row jC))),aP.tup (aE.cons (aP.agg yK) (aE.one (aP.sl jC))),fun a=>iT a.1 a.2,.frz,false⟩
theorem QP:aN tab 58 c58:=Oc aNO rfl aK [(29,c29)] ⟨aBQ,trivial⟩ fun a=>by kernel_rfl
def wF (p0:Int×Int):Option Bool:=bif decide (0<=(if p0.2<p0.1 then p0.2 else p0.1)) then bif decide ((if p0.2>p0.1 then p0.2 else p0.1)<=65535) then some (p0.1 !=p0.2) else some false else some false
def aOn:bS:=⟨aE.one (aP.agg (cN.row jC)),aP.bool,fun a=>wF a,.pure,false⟩
theorem YI:aN tab 217 aOn:=Oc aG2 rfl aK [] trivial fun a=>by kernel_rfl
def sJ (s:aP7):Option (cA aP7 Int):=bif decide (s.2.2.2.1<s.2.2.1) then (aO s.2.1 s.2.2.2.1).bind fun a0=>(wF a0.2).bind fun b1=>bif !b1 then some (.done 8) else (SC s.2.2.2.2.2.2 [a0.2.1,a0.2.2]).bind fun b2=>bif b2 then some (.done 8) else bif decide (a0.1<=s.1) then some (.done 8) else bif decide (s.2.2.2.2.1<=a0.1) then some (.done 8) else (SD s.2.2.2.2.2.2 [a0.2.1,a0.2.2]).bind fun l3=>some (.next (a0.1,s.2.1,s.2.2.1,aA .i64 (s.2.2.2.1+1),s.2.2.2.2.1,s.2.2.2.2.2.1,l3)) else some (.done 0)
def rJ (p0:aU):Option Int:=bif decide (200<(Int.ofNat p0.list.length)) then some 8 else bif decide (p0.next_<0) then some 8 else bif decide (1000000<p0.next_) then some 8 else aH sJ (-1,p0.list,Int.ofNat p0.list.length,0,p0.next_,p0.list,[])
def aH1:bS:=⟨aE.one (aP.agg pX),aP.int .i64,fun a=>rJ a,.pure,false⟩
theorem QQ:aN tab 167 aH1:=Oc aGq rfl aK [(217,aOn)] ⟨YI,trivial⟩ fun a=>by kernel_rfl
def gY (s:((List Bool)×Bool×Int×Int)):Option (cA ((List Bool)×Bool×Int×Int) Int):=bif decide (s.2.2.2<s.2.2.1) then (aO s.1 s.2.2.2).bind fun b0=>bif s.2.1==b0 then some (.done s.2.2.2) else some (.next (s.1,s.2.1,s.2.2.1,aA .i64 (s.2.2.2+1))) else some (.done (-1))
def qC (p0:List Bool) (p1:Bool):Option Int:=aH gY (p0,p1,Int.ofNat p0.length,0)
def aQm:bS:=⟨aE.cons (aP.sl kb) (aE.one aP.bool),aP.int .i64,fun a=>qC a.1 a.2,.pure,false⟩
theorem aH2:aN tab 297 aQm:=Oc aHE rfl aK [] trivial fun a=>by kernel_rfl
def eL (p0:List Bool) (p1:Bool):Option Bool:=(qC p0 p1).bind fun n0=>some (decide (0<=n0))
def aQn:bS:=⟨aE.cons (aP.sl kb) (aE.one aP.bool),aP.bool,fun a=>eL a.1 a.2,.pure,false⟩
theorem aH3:aN tab 269 aQn:=Oc aHs rfl aK [(297,aQm)] ⟨aH2,trivial⟩ fun a=>by kernel_rfl
def gU (s:((List Int)×Int×Int×(List Int)×(List Bool)×(List Int))):Option (cA ((List Int)×Int×Int×(List Int)×(List Bool)×(List Int)) aP9):=bif decide (s.2.2.1<s.2.1) then (aO s.1 s.2.2.1).bind fun n0=>bif decide (n0<0) then some (.done (.done 8)) else bif decide (1000000<n0) then some (.done (.done 8)) else bif n0==0 then (aO s.2.2.2.2.1 s.2.2.1).bind fun b1=>bif b1 then some (.done (.done 8)) else some (.next (s.1,s.2.1,aA .i64 (s.2.2.1+1),s.2.2.2)) else some (.next (s.1,s.2.1,aA .i64 (s.2.2.1+1),s.2.2.2)) else some (.done (.done 0))
def sK (c0:(List Bool)) (s:aP8):Option aP9:=bif decide (s.2.2.1<s.2.1) then (aO s.1 s.2.2.1).bind fun n0=>bif decide (n0<0) then bif s.2.2.2.2.2.2.2.length==s.2.2.2.2.2.2.2.length then bif s.2.2.2.2.2.2.2.length==c0.length then bif s.2.2.2.2.2.2.2.length==c0.length then bif decide (0<=s.2.2.1) then some (.done 8) else (eL s.2.2.2.2.2.2.2 false).bind fun b1=>bif b1 then some (.done 8) else aH gU (s.2.2.2.1,Int.ofNat s.2.2.2.1.length,0,s.2.2.2.1,s.2.2.2.2.1,s.2.2.2.2.2.1) else none else none else none else bif decide (s.2.2.2.2.2.2.1<=n0) then bif s.2.2.2.2.2.2.2.length==s.2.2.2.2.2.2.2.length then bif s.2.2.2.2.2.2.2.length==c0.length then bif s.2.2.2.2.2.2.2.length==c0.length then bif decide (0<=s.2.2.1) then some (.done 8) else (eL s.2.2.2.2.2.2.2 false).bind fun b2=>bif b2 then some (.done 8) else aH gU (s.2.2.2.1,Int.ofNat s.2.2.2.1.length,0,s.2.2.2.1,s.2.2.2.2.1,s.2.2.2.2.2.1) else none else none else none else (aO s.2.2.2.2.2.2.2 n0).bind fun b3=>bif b3 then bif s.2.2.2.2.2.2.2.length==s.2.2.2.2.2.2.2.length then bif s.2.2.2.2.2.2.2.length==c0.length then bif s.2.2.2.2.2.2.2.length==c0.length then bif decide (0<=s.2.2.1) then some (.done 8) else (eL s.2.2.2.2.2.2.2 false).bind fun b4=>bif b4 then some (.done 8) else aH gU (s.2.2.2.1,Int.ofNat s.2.2.2.1.length,0,s.2.2.2.1,s.2.2.2.2.1,s.2.2.2.2.2.1) else none else none else none else (aO s.2.2.2.2.2.2.2 n0).bind fun _=>bif ((bZ s.2.2.2.2.2.2.2 n0 true).length)==s.2.2.2.2.2.2.2.length then some (.next (s.1,s.2.1,aA .i64 (s.2.2.1+1),s.2.2.2.1,s.2.2.2.2.1,s.2.2.2.2.2.1,s.2.2.2.2.2.2.1,bZ s.2.2.2.2.2.2.2 n0 true)) else none else bif s.2.2.2.2.2.2.2.length==c0.length then bif s.2.2.2.2.2.2.2.length==c0.length then (eL s.2.2.2.2.2.2.2 false).bind fun b6=>bif b6 then some (.done 8) else aH gU (s.2.2.2.1,Int.ofNat s.2.2.2.1.length,0,s.2.2.2.1,s.2.2.2.2.1,s.2.2.2.2.2.1) else none else none
def rL (p0:aR):Option Int:=bif decide ((Int.ofNat p0.uses.length)<1) then some 8 else bif decide (200<(Int.ofNat p0.uses.length)) then some 8 else bif (Int.ofNat p0.used.length) !=(Int.ofNat p0.uses.length) then some 8 else (cC p0.used).bind fun l0=>aH (sK l0) (p0.free,Int.ofNat p0.free.length,0,p0.uses,p0.used,p0.free,Int.ofNat p0.uses.length,l0)
def aH4:bS:=⟨aE.one (aP.agg oN),aP.int .i64,fun a=>rL a,.pure,false⟩
theorem QR:aN tab 218 aH4:=aN.of aG3 (cx:=(vX aK [(186,bS.clone kb),(269,aQn)] [] [(267,aE8),(296,aFu),(268,aFa)] [])) rfl (pN.make ⟨wB,aH3,trivial⟩ trivial ⟨aHq,aHD,aHr,trivial⟩) (fun a=>by kernel_rfl)
def A7 (p0:Int×Int) (p1:Int×Int):Option Int:=(dZ p0).bind fun n0=>(dZ p1).bind fun n1=>some (if n1>n0 then n1 else n0)
def aQo:bS:=⟨aE.cons (aP.agg (cN.row jC)) (aE.one (aP.agg (cN.row jC))),aP.int .i64,fun a=>A7 a.1 a.2,.pure,false⟩
theorem aH5:aN tab 119 aQo:=Oc aF0 rfl aK [(72,c72)] ⟨wD,trivial⟩ fun a=>by kernel_rfl
def tI (p0:Int) (p1:Int):Option (Bool×Int×Int):=(mM p0).bind fun n0=>(mM p1).bind fun n1=>(iI n0 n1).bind fun a2=>some (!((decide (p0<0))==(decide (p1<0))),a2)
def aQp:bS:=⟨aE.cons (aP.int .i64) (aE.one (aP.int .i64)),aP.agg (cN.row C5),fun a=>tI a.1 a.2,.pure,false⟩
theorem aH6:aN tab 122 aQp:=Oc aF3 rfl aK [(118,aHR),(176,aHU)] ⟨QM,QN,trivial⟩ fun a=>by kernel_rfl
def nR (p0:Int):Option Bool:=some (p0 !=p0)
def aQq:bS:=⟨aE.one (aP.int .u64),aP.bool,fun a=>nR a,.pure,false⟩
theorem aH7:aN tab 224 aQq:=Oc aG8 rfl aK [] trivial fun a=>by kernel_rfl
def jF (p0:Int) (p1:Int):Option Int:=(nR p0).bind fun b0=>(nR p1).bind fun b1=>bif b0 then bif b1 then some 0 else some (-1) else bif b1 then some 1 else bif decide (p0<p1) then some (-1) else bif decide (p1<p0) then some 1 else some 0
def aQr:bS:=⟨aE.cons (aP.int .u64) (aE.one (aP.int .u64)),aP.int .i64,fun a=>jF a.1 a.2,.pure,false⟩
theorem aH8:aN tab 175 aQr:=Oc aGw rfl aK [(224,aQq)] ⟨aH7,trivial⟩ fun a=>by kernel_rfl
def sL (p0:Bool×Int×Int) (p1:Bool×Int×Int):Option Int:=(jF p0.2.1 p1.2.1).bind fun n0=>bif n0 !=0 then some n0 else (jF p0.2.2 p1.2.2).bind fun n1=>some n1
def aQs:bS:=⟨aE.cons (aP.agg (cN.row C5)) (aE.one (aP.agg (cN.row C5))),aP.int .i64,fun a=>sL a.1 a.2,.pure,false⟩
theorem aH9:aN tab 121 aQs:=Oc aF2 rfl aK [(175,aQr)] ⟨aH8,trivial⟩ fun a=>by kernel_rfl
def rM (p0:Int×Int) (p1:Int×Int):Option (Int×Int):=(A7 p0 p1).bind fun n0=>bif n0 !=0 then some (0,n0) else bif !((decide (p0.1<0))==(decide (p1.1<0))) then (jW p0.1 p1.1).bind fun n1=>some (n1,0) else (tI p0.1 p1.2).bind fun a2=>(tI p1.1 p0.2).bind fun a3=>(sL a2 a3).bind fun n4=>bif decide (p0.1<0) then some (aA .i64 (0-n4),0) else some (n4,0)
def c73:bS:=⟨aE.cons (aP.agg (cN.row jC)) (aE.one (aP.agg (cN.row jC))),aP.tup (aE.cons (aP.int .i64) (aE.one (aP.int .i64))),fun a=>rM a.1 a.2,.pure,false⟩
theorem V2:aN tab 73 c73:=Oc aNW rfl aK [(119,aQo),(120,aOk),(122,aQp),(121,aQs)] ⟨aH5,YF,aH6,aH9,trivial⟩ fun a=>by kernel_rfl
def cH (p0:Int×Int×Int×Int×Int) (p1:Int×Int×Int×Int×Int):Option Int:=(rM (p0.1,p0.2.1) (p1.1,p1.2.1)).bind fun a0=>(fM p0.2.2.1 p1.2.2.1).bind fun n1=>(wE [a0.1,n1]).bind fun n2=>some n2
def aIa:bS:=⟨aE.cons (aP.agg (cN.row kE)) (aE.one (aP.agg (cN.row kE))),aP.int .i64,fun a=>cH a.1 a.2,.pure,false⟩
theorem QS:aN tab 219 aIa:=Oc aG4 rfl aK [(73,c73),(157,V0),(195,aOl)] ⟨V2,D9,YG,trivial⟩ fun a=>by kernel_rfl
def jQ (s:aPW):Option (cA aPW aP3):=bif decide (s.2.2.1<s.2.1) then (aO s.1 s.2.2.1).bind fun a0=>(dZ (a0.1,a0.2.1)).bind fun n1=>bif n1 !=0 then some (.done (.done 8)) else bif decide (a0.2.2.1<0) then some (.done (.done 8)) else bif decide (1000000<a0.2.2.1) then some (.done (.done 8)) else (SC s.2.2.2.2.2.2.2.2 [a0.2.2.1]).bind fun b2=>bif b2 then some (.done (.done 8)) else (SD s.2.2.2.2.2.2.2.2 [a0.2.2.1]).bind fun l3=>bif decide (0<s.2.2.1) then (aO s.2.2.2.2.2.2.1 (aA .i64 (Int.tdiv (aA .i64 (s.2.2.1-1)) 2))).bind fun a4=>(cH a0 a4).bind fun n5=>bif decide (n5<0) then some (.done (.done 8)) else some (.next (s.1,s.2.1,aA .i64 (s.2.2.1+1),s.2.2.2.1,s.2.2.2.2.1,s.2.2.2.2.2.1,s.2.2.2.2.2.2.1,s.2.2.2.2.2.2.2.1,l3)) else some (.next (s.1,s.2.1,aA .i64 (s.2.2.1+1),s.2.2.2.1,s.2.2.2.2.1,s.2.2.2.2.2.1,s.2.2.2.2.2.2.1,s.2.2.2.2.2.2.2.1,l3)) else some (.done (.done 0))
def mG (s:aP2):Option aP3:=bif decide (s.2.2.1<s.2.1) then (aO s.1 s.2.2.1).bind fun n0=>(aO s.2.2.2.2.1 s.2.2.1).bind fun b1=>bif !b1 then bif n0 !=(-1) then some (.done 8) else some (.next (s.1,s.2.1,aA .i64 (s.2.2.1+1),s.2.2.2)) else bif decide (n0<0) then some (.done 8) else bif decide ((Int.ofNat s.2.2.2.2.2.2.1.length)<=n0) then some (.done 8) else (aO s.2.2.2.2.2.2.1 n0).bind fun a2=>(aO s.2.2.2.1 s.2.2.1).bind fun n3=>bif !((a2.2.2.2.1==s.2.2.1)&&(a2.2.2.2.2==n3)) then some (.done 8) else some (.next (s.1,s.2.1,aA .i64 (s.2.2.1+1),s.2.2.2)) else aH jQ (s.2.2.2.2.2.2.1,Int.ofNat s.2.2.2.2.2.2.1.length,0,s.2.2.2.1,s.2.2.2.2.1,s.2.2.2.2.2.1,s.2.2.2.2.2.2.1,s.2.2.2.2.2.2.2,[])
def jY (p0:aG):Option Int:=(rL p0.slots).bind fun n0=>bif n0 !=0 then some 8 else bif (Int.ofNat p0.where_.length) !=(Int.ofNat p0.slots.used.length) then some 8 else bif (Int.ofNat p0.heap.length) !=(aA .i64 ((Int.ofNat p0.slots.used.length) - (Int.ofNat p0.slots.free.length))) then some 8 else aH mG (p0.where_,Int.ofNat p0.where_.length,0,p0.slots.uses,p0.slots.used,p0.slots.free,p0.heap,p0.where_)
def aAf:bS:=⟨aE.one (aP.agg gM),aP.int .i64,fun a=>jY a,.pure,false⟩
theorem G8:aN tab 168 aAf:=Oc aGr rfl aK [(218,aH4),(72,c72),(219,aIa)] ⟨QR,wD,QS,trivial⟩ fun a=>by kernel_rfl
def yM (p0:Int×Int×Int) (p1:Int):Option Int:=(fM p0.1 p1).bind fun n0=>some n0
def aQt:bS:=⟨aE.cons (aP.agg (cN.row eT)) (aE.one (aP.int .i64)),aP.int .i64,fun a=>yM a.1 a.2,.pure,false⟩
theorem aIb:aN tab 270 aQt:=Oc aHt rfl aK [(157,V0)] ⟨D9,trivial⟩ fun a=>by kernel_rfl
def iW (s:QJ):Option aHO:=bif decide (s.2.2.2.1<s.2.2.2.2) then (aO s.1 (aA .i64 (iQ .u64 (aA .u64 (aA .i64 (s.2.2.2.1+s.2.2.2.2))) 1))).bind fun a0=>(yM a0 s.2.1).bind fun n1=>bif decide (n1<0) then some (.next (s.1,s.2.1,s.2.2.1,aA .i64 ((aA .i64 (iQ .u64 (aA .u64 (aA .i64 (s.2.2.2.1+s.2.2.2.2))) 1))+1),s.2.2.2.2)) else some (.next (s.1,s.2.1,s.2.2.1,s.2.2.2.1,aA .i64 (iQ .u64 (aA .u64 (aA .i64 (s.2.2.2.1+s.2.2.2.2))) 1))) else bif decide (s.2.2.2.1<s.2.2.1) then (aO s.1 s.2.2.2.1).bind fun a2=>(yM a2 s.2.1).bind fun n3=>some (.done (s.2.2.2.1,n3==0)) else some (.done (s.2.2.2.1,false))
def cY (p0:List (Int×Int×Int)) (p1:Int) (_:Unit):Option (Int×Bool):=aH iW (p0,p1,Int.ofNat p0.length,0,Int.ofNat p0.length)
def S8:bS:=⟨aE.cons (aP.sl eT) (aE.cons (aP.int .i64) (aE.one (aP.clo 270 aE.nil))),aP.tup (aE.cons (aP.int .i64) (aE.one aP.bool)),fun a=>cY a.1 a.2.1 a.2.2,.pure,false⟩
theorem S9:aN tab 155 S8:=Oc X6 rfl aK [(270,aQt)] ⟨aIb,trivial⟩ fun a=>by kernel_rfl
def jZ (p0:Field) (p1:Int):Option (Int×Int×Int):=(cY p0.points p1 ()).bind fun a0=>bif !a0.2 then some (-1,0,0) else (aO p0.points a0.1).bind fun a1=>some a1
def aIc:bS:=⟨aE.cons (aP.agg dQ) (aE.one (aP.int .i64)),aP.agg (cN.row eT),fun a=>jZ a.1 a.2,.pure,false⟩
theorem QT:aN tab 221 aIc:=Oc aG6 rfl aK [(155,S8)] ⟨S9,trivial⟩ fun a=>by kernel_rfl
def C6 (p0:Bool×Int×Int) (p1:Int) (p2:Int):Option ((Int×Int)×Int):=bif decide (0<p0.2.1) then some ((0,0),16) else bif decide (9223372036854775807<p0.2.2) then some ((0,0),16) else bif decide (0<p1) then some ((0,0),16) else bif decide (9223372036854775807<p2) then some ((0,0),16) else bif p0.1 then some ((aA .i64 (0- (aA .i64 p0.2.2)),aA .i64 p2),0) else some ((aA .i64 p0.2.2,aA .i64 p2),0)
def aQu:bS:=⟨aE.cons (aP.agg (cN.row C5)) (aE.cons (aP.int .u64) (aE.one (aP.int .u64))),aP.tup (aE.cons (aP.agg (cN.row jC)) (aE.one (aP.int .i64))),fun a=>C6 a.1 a.2.1 a.2.2,.pure,false⟩
theorem aId:aN tab 243 aQu:=Oc aHk rfl aK [] trivial fun a=>by kernel_rfl
def A8 (p0:Int) (p1:Int):Option ((Int×Int)×Int):=bif p1==0 then some ((0,0),26) else (mM p0).bind fun n0=>(mM p1).bind fun n1=>(zW n0 n1).bind fun n2=>(mM p0).bind fun n3=>bif n2==0 then none else (mM p1).bind fun n4=>bif n2==0 then none else (C6 (!((decide (p0<0))==(decide (p1<0))),0,aA .u64 (Int.tdiv n3 n2)) 0 (aA .u64 (Int.tdiv n4 n2))).bind fun a5=>some a5
def aQv:bS:=⟨aE.cons (aP.int .i64) (aE.one (aP.int .i64)),aP.tup (aE.cons (aP.agg (cN.row jC)) (aE.one (aP.int .i64))),fun a=>A8 a.1 a.2,.pure,false⟩
theorem aIe:aN tab 197 aQv:=Oc aGR rfl aK [(118,aHR),(117,aOg),(243,aQu)] ⟨QM,YD,aId,trivial⟩ fun a=>by kernel_rfl
def C7 (p0:Int×Int×Int) (p1:Int×Int×Int):Option ((Int×Int)×Int):=(rI p0 p1 (0,1)).bind fun n0=>bif n0 !=0 then some ((0,0),n0) else bif p0.2.2==p1.2.2 then some ((0,0),6) else (A8 (aA .i64 (p0.2.1-p1.2.1)) (aA .i64 (p1.2.2-p0.2.2))).bind fun a1=>some a1
def aQw:bS:=⟨aE.cons (aP.agg (cN.row eT)) (aE.one (aP.agg (cN.row eT))),aP.tup (aE.cons (aP.agg (cN.row jC)) (aE.one (aP.int .i64))),fun a=>C7 a.1 a.2,.pure,false⟩
theorem aIf:aN tab 139 aQw:=Oc aGg rfl aK [(135,aHX),(197,aQv)] ⟨QO,aIe,trivial⟩ fun a=>by kernel_rfl
def vC (p0:Int×Int×Int) (p1:Int×Int×Int) (p2:Int×Int):Option ((Int×Int)×Bool×Int):=(rI p0 p1 p2).bind fun n0=>bif n0 !=0 then some ((0,0),false,n0) else (nD p1 p0 p2).bind fun n1=>bif decide (0<n1) then some (p2,true,0) else bif decide (p1.2.2<=p0.2.2) then some ((0,0),false,0) else (C7 p0 p1).bind fun a2=>some (a2.1,a2.2==0,a2.2)
def aQx:bS:=⟨aE.cons (aP.agg (cN.row eT)) (aE.cons (aP.agg (cN.row eT)) (aE.one (aP.agg (cN.row jC)))),aP.tup (aE.cons (aP.agg (cN.row jC)) (aE.cons aP.bool (aE.one (aP.int .i64)))),fun a=>vC a.1 a.2.1 a.2.2,.pure,false⟩
theorem aIg:aN tab 220 aQx:=Oc aG5 rfl aK [(135,aHX),(136,aOm),(139,aQw)] ⟨QO,YH,aIf,trivial⟩ fun a=>by kernel_rfl
def rN (p0:Field) (p1:Int×Int) (p2:Int×Int):Option ((Int×Int)×Bool×Int):=(jZ p0 p1.2).bind fun a0=>(jZ p0 p1.1).bind fun a1=>(vC a0 a1 p2).bind fun a2=>some a2
def aIh:bS:=⟨aE.cons (aP.agg dQ) (aE.cons (aP.agg (cN.row jC)) (aE.one (aP.agg (cN.row jC)))),aP.tup (aE.cons (aP.agg (cN.row jC)) (aE.cons aP.bool (aE.one (aP.int .i64)))),fun a=>rN a.1 a.2.1 a.2.2,.pure,false⟩
theorem QU:aN tab 169 aIh:=Oc aGs rfl aK [(221,aIc),(220,aQx)] ⟨QT,aIg,trivial⟩ fun a=>by kernel_rfl
def cQ (s:Zt7):Option (cA Zt7 Zt9):=bif decide (s.2.2.2.1<s.2.2.1) then (aO s.2.1 s.2.2.2.1).bind fun a0=>(rN (Field.mk s.2.2.2.2.2.2.1) a0.2 (s.2.2.2.2.1,s.2.2.2.2.2.1)).bind fun a1=>bif a1.2.2 !=0 then some (.done (.done 8)) else bif !a1.2.1 then some (.next (s.1,s.2.1,s.2.2.1,aA .i64 (s.2.2.2.1+1),s.2.2.2.2)) else bif (Int.ofNat s.1.length)==0 then some (.done (.done 8)) else (aO s.1 0).bind fun a2=>bif a2.1 !=a0.1 then some (.done (.done 8)) else (aO s.1 0).bind fun a3=>bif decide (a3.2.1<0) then some (.done (.done 8)) else bif decide (200<=a3.2.1) then some (.done (.done 8)) else (aO s.2.2.2.2.2.2.2.2.2.2.2.2.2.1 a3.2.1).bind fun n4=>bif decide (n4<0) then some (.done (.done 8)) else (aO s.2.2.2.2.2.2.2.2.2.2.2.2.2.1 a3.2.1).bind fun n5=>(aO s.2.2.2.2.2.2.2.2.2.2.2.2.1 n5).bind fun a6=>bif !((a6.1==a1.1.1)&&((a6.2.1==a1.1.2)&&((a6.2.2.1==a0.1)&&((a6.2.2.2.1==a3.2.1)&&(a6.2.2.2.2==a3.2.2))))) then some (.done (.done 8)) else (iZ s.1 1 (Int.ofNat s.1.length)).bind fun l7=>some (.next (l7,s.2.1,s.2.2.1,aA .i64 (s.2.2.2.1+1),s.2.2.2.2)) else bif decide (0<(Int.ofNat s.1.length)) then some (.done (.done 8)) else some (.done (.done 0))
def fI (s:aPM):Option Zt9:=bif decide (s.2.1<s.1) then (aO s.2.2.2.2.2.2.2.2.2.2.2.2.2 s.2.1).bind fun n0=>bif n0 !=0 then some (.done 8) else some (.next (s.1,aA .i64 (s.2.1+1),s.2.2)) else bif (Int.ofNat s.2.2.2.2.2.2.2.2.2.2.2.1.length) !=200 then some (.done 8) else bif (Int.ofNat s.2.2.2.2.2.2.2.2.2.2.1.length) !=(Int.ofNat s.2.2.2.2.2.2.2.2.2.2.2.2.1.length) then some (.done 8) else aH cQ (s.2.2.2.2.2.2.2.2.2.2.2.2.1,s.2.2.2.2.2.2.1,Int.ofNat s.2.2.2.2.2.2.1.length,0,s.2.2.1,s.2.2.2.1,s.2.2.2.2.1,s.2.2.2.2.2.1,s.2.2.2.2.2.2.1,s.2.2.2.2.2.2.2.1,s.2.2.2.2.2.2.2.2.1,s.2.2.2.2.2.2.2.2.2.1,s.2.2.2.2.2.2.2.2.2.2.1,s.2.2.2.2.2.2.2.2.2.2.2.1,s.2.2.2.2.2.2.2.2.2.2.2.2.1)
def gK (p0:aJ):Option Int:=(dZ p0.now).bind fun n0=>(eK p0.field).bind fun n1=>(rJ p0.certs).bind fun n2=>(jY p0.agenda).bind fun n3=>aH fI (Int.ofNat ([n0,n1,n2,n3].length),0,p0.now.1,p0.now.2,p0.field.points,p0.certs.next_,p0.certs.list,p0.agenda.slots.uses,p0.agenda.slots.used,p0.agenda.slots.free,p0.agenda.heap,p0.agenda.where_,p0.due,[n0,n1,n2,n3])
def V3:bS:=⟨aE.one (aP.agg cW),aP.int .i64,fun a=>gK a,.pure,false⟩
theorem EA:aN tab 109 V3:=Oc aFT rfl aK [(72,c72),(99,c99),(167,aH1),(168,aAf),(169,aIh)] ⟨wD,FX,QQ,G8,QU,trivial⟩ fun a=>by kernel_rfl
def kA (s:(oE×Int×Int×Int×Int)):Option (cA (oE×Int×Int×Int×Int) Int):=bif decide (s.2.2.1<s.2.1) then (aO s.1 s.2.2.1).bind fun a0=>bif (s.2.2.2.1==a0.1)&&(s.2.2.2.2==a0.2) then some (.done s.2.2.1) else some (.next (s.1,s.2.1,aA .i64 (s.2.2.1+1),s.2.2.2)) else some (.done (-1))
def qD (p0:List (Int×Int)) (p1:Int×Int):Option Int:=aH kA (p0,Int.ofNat p0.length,0,p1)
def aQy:bS:=⟨aE.cons (aP.sl jC) (aE.one (aP.agg (cN.row jC))),aP.int .i64,fun a=>qD a.1 a.2,.pure,false⟩
theorem aIi:aN tab 211 aQy:=Oc aGW rfl aK [] trivial fun a=>by kernel_rfl
def fR (p0:List (Int×Int)) (p1:Int×Int):Option Bool:=(qD p0 p1).bind fun n0=>some (decide (0<=n0))
def aIj:bS:=⟨aE.cons (aP.sl jC) (aE.one (aP.agg (cN.row jC))),aP.bool,fun a=>fR a.1 a.2,.pure,false⟩
theorem QV:aN tab 163 aIj:=Oc aGn rfl aK [(211,aQy)] ⟨aIi,trivial⟩ fun a=>by kernel_rfl
def A9 (p0:Int×Int×Int) (p1:Int):Option Int:=(fM p0.1 p1).bind fun n0=>some n0
def aQz:bS:=⟨aE.cons (aP.agg (cN.row eT)) (aE.one (aP.int .i64)),aP.int .i64,fun a=>A9 a.1 a.2,.pure,false⟩
theorem aIk:aN tab 156 aQz:=Oc aGj rfl aK [(157,V0)] ⟨D9,trivial⟩ fun a=>by kernel_rfl
def jG (s:QJ):Option aHO:=bif decide (s.2.2.2.1<s.2.2.2.2) then (aO s.1 (aA .i64 (iQ .u64 (aA .u64 (aA .i64 (s.2.2.2.1+s.2.2.2.2))) 1))).bind fun a0=>(A9 a0 s.2.1).bind fun n1=>bif decide (n1<0) then some (.next (s.1,s.2.1,s.2.2.1,aA .i64 ((aA .i64 (iQ .u64 (aA .u64 (aA .i64 (s.2.2.2.1+s.2.2.2.2))) 1))+1),s.2.2.2.2)) else some (.next (s.1,s.2.1,s.2.2.1,s.2.2.2.1,aA .i64 (iQ .u64 (aA .u64 (aA .i64 (s.2.2.2.1+s.2.2.2.2))) 1))) else bif decide (s.2.2.2.1<s.2.2.1) then (aO s.1 s.2.2.2.1).bind fun a2=>(A9 a2 s.2.1).bind fun n3=>some (.done (s.2.2.2.1,n3==0)) else some (.done (s.2.2.2.1,false))
def dA (p0:List (Int×Int×Int)) (p1:Int) (_:Unit):Option (Int×Bool):=aH jG (p0,p1,Int.ofNat p0.length,0,Int.ofNat p0.length)
def TA:bS:=⟨aE.cons (aP.sl eT) (aE.cons (aP.int .i64) (aE.one (aP.clo 156 aE.nil))),aP.tup (aE.cons (aP.int .i64) (aE.one aP.bool)),fun a=>dA a.1 a.2.1 a.2.2,.pure,false⟩
theorem TB:aN tab 155 TA:=Oc X6 rfl aK [(156,aQz)] ⟨aIk,trivial⟩ fun a=>by kernel_rfl
def FY (p0:Field) (p1:Int):Option (Int×Bool):=(dA p0.points p1 ()).bind fun a0=>some a0
def aQA:bS:=⟨aE.cons (aP.agg dQ) (aE.one (aP.int .i64)),aP.tup (aE.cons (aP.int .i64) (aE.one aP.bool)),fun a=>FY a.1 a.2,.pure,false⟩
theorem aIl:aN tab 101 aQA:=Oc aFN rfl aK [(155,TA)] ⟨TB,trivial⟩ fun a=>by kernel_rfl
def C8 (p0:Field) (p1:Int):Option (Int×Int):=(eK p0).bind fun n0=>bif n0 !=0 then some (0,n0) else (FY p0 p1).bind fun a1=>bif !a1.2 then some (0,6) else some (a1.1,0)
def aQB:bS:=⟨aE.cons (aP.agg dQ) (aE.one (aP.int .i64)),aP.tup (aE.cons (aP.int .i64) (aE.one (aP.int .i64))),fun a=>C8 a.1 a.2,.pure,false⟩
theorem aIm:aN tab 104 aQB:=Oc aFP rfl aK [(99,c99),(101,aQA)] ⟨FX,aIl,trivial⟩ fun a=>by kernel_rfl
def wG (p0:Field) (p1:Int):Option ((Int×Int×Int)×Int):=(C8 p0 p1).bind fun a0=>bif a0.2 !=0 then some ((0,0,0),a0.2) else (aO p0.points a0.1).bind fun a1=>some (a1,0)
def aQC:bS:=⟨aE.cons (aP.agg dQ) (aE.one (aP.int .i64)),aP.tup (aE.cons (aP.agg (cN.row eT)) (aE.one (aP.int .i64))),fun a=>wG a.1 a.2,.pure,false⟩
theorem aIn:aN tab 164 aQC:=Oc aGo rfl aK [(104,aQB)] ⟨aIm,trivial⟩ fun a=>by kernel_rfl
def wH (p0:aJ):Option aJ:=(cC p0.field.points).bind fun l0=>(cC p0.certs.list).bind fun l1=>(cC p0.due).bind fun l2=>(cC p0.agenda.heap).bind fun l3=>(cC p0.agenda.where_).bind fun l4=>(cC p0.agenda.slots.uses).bind fun l5=>(cC p0.agenda.slots.used).bind fun l6=>(cC p0.agenda.slots.free).bind fun l7=>some (aJ.mk p0.now (Field.mk l0) (aU.mk p0.certs.next_ l1) (aG.mk (aR.mk l5 l6 l7) l3 l4) l2)
def aQD:bS:=⟨aE.one (aP.agg cW),aP.agg cW,fun a=>wH a,.own,true⟩
def aJ2:bS:=⟨aE.one (aP.agg cW),aP.agg cW,fun a=>wH a,.frz,false⟩
theorem aIo:aN tab 166 aQD:=Oc X8 rfl aK [(103,bS.clone eT),(182,bS.clone eT),(183,bS.clone eT),(184,bS.clone kE),(185,bS.clone ki),(186,bS.clone kb)] ⟨vZ,zV,G7,wC,pY,wB,trivial⟩ fun a=>by kernel_rfl
theorem aBR:aN tab 166 aJ2:=Oc X8 rfl aK [(103,bS.clone eT),(182,bS.clone eT),(183,bS.clone eT),(184,bS.clone kE),(185,bS.clone ki),(186,bS.clone kb)] ⟨vZ,zV,G7,wC,pY,wB,trivial⟩ fun a=>by kernel_rfl
def tJ (p0:Int×Int×Int) (p1:Int):Option Int:=(fM p0.1 p1).bind fun n0=>some n0
def aQE:bS:=⟨aE.cons (aP.agg (cN.row eT)) (aE.one (aP.int .i64)),aP.int .i64,fun a=>tJ a.1 a.2,.pure,false⟩
theorem aIp:aN tab 272 aQE:=Oc aHv rfl aK [(157,V0)] ⟨D9,trivial⟩ fun a=>by kernel_rfl
def aT (s:QJ):Option aHO:=bif decide (s.2.2.2.1<s.2.2.2.2) then (aO s.1 (aA .i64 (iQ .u64 (aA .u64 (aA .i64 (s.2.2.2.1+s.2.2.2.2))) 1))).bind fun a0=>(tJ a0 s.2.1).bind fun n1=>bif decide (n1<0) then some (.next (s.1,s.2.1,s.2.2.1,aA .i64 ((aA .i64 (iQ .u64 (aA .u64 (aA .i64 (s.2.2.2.1+s.2.2.2.2))) 1))+1),s.2.2.2.2)) else some (.next (s.1,s.2.1,s.2.2.1,s.2.2.2.1,aA .i64 (iQ .u64 (aA .u64 (aA .i64 (s.2.2.2.1+s.2.2.2.2))) 1))) else bif decide (s.2.2.2.1<s.2.2.1) then (aO s.1 s.2.2.2.1).bind fun a2=>(tJ a2 s.2.1).bind fun n3=>some (.done (s.2.2.2.1,n3==0)) else some (.done (s.2.2.2.1,false))
def aV (p0:List (Int×Int×Int)) (p1:Int) (_:Unit):Option (Int×Bool):=aH aT (p0,p1,Int.ofNat p0.length,0,Int.ofNat p0.length)
def TC:bS:=⟨aE.cons (aP.sl eT) (aE.cons (aP.int .i64) (aE.one (aP.clo 272 aE.nil))),aP.tup (aE.cons (aP.int .i64) (aE.one aP.bool)),fun a=>aV a.1 a.2.1 a.2.2,.pure,false⟩
theorem TD:aN tab 271 TC:=Oc aHu rfl aK [(272,aQE)] ⟨aIp,trivial⟩ fun a=>by kernel_rfl
def I0 (p0:aU) (p1:Int):Option (Int×Int):=(rJ p0).bind fun n0=>bif n0 !=0 then some (0,n0) else (aV p0.list p1 ()).bind fun a1=>bif !a1.2 then some (0,6) else some (a1.1,0)
def aQF:bS:=⟨aE.cons (aP.agg pX) (aE.one (aP.int .i64)),aP.tup (aE.cons (aP.int .i64) (aE.one (aP.int .i64))),fun a=>I0 a.1 a.2,.pure,false⟩
theorem aIq:aN tab 225 aQF:=Oc aG9 rfl aK [(167,aH1),(271,TC)] ⟨QQ,TD,trivial⟩ fun a=>by kernel_rfl
def eH (a:aBO):Option (Nat×Nat×cE):=bif (((decide (0<=a.1))&&(decide (a.1<=a.2.1)))&&(decide (a.2.1<=(Int.ofNat a.2.2.length))))&&(decide ((Int.ofNat a.2.2.length)<=(Int.ofNat a.2.2.length))) then bif a.1==a.2.1 then bif a.2.2.length==a.2.2.length then some (a.2.2.length,a.2.2.length,a.2.2) else none else (iZ a.2.2 0 a.1).bind fun _=>bif ((decide (0<=a.2.1))&&(decide (a.2.1<=(Int.ofNat a.2.2.length))))&&(decide ((Int.ofNat a.2.2.length)<=(Int.ofNat a.2.2.length))) then bif ((a.2.2.drop (0+a.2.1.toNat)).take (((Int.ofNat a.2.2.length).toNat) -a.2.1.toNat)).isEmpty then bif ((decide (0<=(Int.ofNat a.1.toNat)))&&(decide ((Int.ofNat a.1.toNat)<=(Int.ofNat a.2.2.length))))&&(decide ((Int.ofNat a.2.2.length)<=(Int.ofNat a.2.2.length))) then bif Nat.beq (((Int.ofNat a.2.2.length).toNat) - ((Int.ofNat a.1.toNat).toNat)) 0 then bif a.2.2.length==a.2.2.length then some (a.1.toNat,a.2.2.length,a.2.2) else none else bif (Nat.ble ((0+((Int.ofNat a.1.toNat).toNat))+(((Int.ofNat a.2.2.length).toNat) - ((Int.ofNat a.1.toNat).toNat))) a.2.2.length)&&(!false) then bif ((hM a.2.2 (0+((Int.ofNat a.1.toNat).toNat)) (List.replicate (((Int.ofNat a.2.2.length).toNat) - ((Int.ofNat a.1.toNat).toNat)) (0,0,0))).length)==a.2.2.length then some (a.1.toNat,a.2.2.length,hM a.2.2 (0+((Int.ofNat a.1.toNat).toNat)) (List.replicate (((Int.ofNat a.2.2.length).toNat) - ((Int.ofNat a.1.toNat).toNat)) (0,0,0))) else none else none else none else bif Nat.ble (a.1.toNat+(((a.2.2.drop (0+a.2.1.toNat)).take (((Int.ofNat a.2.2.length).toNat) -a.2.1.toNat)).length)) a.2.2.length then bif (Nat.ble (a.1.toNat+(((a.2.2.drop (0+a.2.1.toNat)).take (((Int.ofNat a.2.2.length).toNat) -a.2.1.toNat)).length)) a.2.2.length)&&(!false) then bif ((decide (0<=(Int.ofNat (a.1.toNat+(((a.2.2.drop (0+a.2.1.toNat)).take (((Int.ofNat a.2.2.length).toNat) -a.2.1.toNat)).length)))))&&(decide ((Int.ofNat (a.1.toNat+(((a.2.2.drop (0+a.2.1.toNat)).take (((Int.ofNat a.2.2.length).toNat) -a.2.1.toNat)).length)))<=(Int.ofNat a.2.2.length))))&&(decide ((Int.ofNat a.2.2.length)<=(Int.ofNat a.2.2.length))) then bif Nat.beq (((Int.ofNat a.2.2.length).toNat) - ((Int.ofNat (a.1.toNat+(((a.2.2.drop (0+a.2.1.toNat)).take (((Int.ofNat a.2.2.length).toNat) -a.2.1.toNat)).length))).toNat)) 0 then bif ((hM a.2.2 a.1.toNat ((a.2.2.drop (0+a.2.1.toNat)).take (((Int.ofNat a.2.2.length).toNat) -a.2.1.toNat))).length)==a.2.2.length then some (a.1.toNat+(((a.2.2.drop (0+a.2.1.toNat)).take (((Int.ofNat a.2.2.length).toNat) -a.2.1.toNat)).length),a.2.2.length,hM a.2.2 a.1.toNat ((a.2.2.drop (0+a.2.1.toNat)).take (((Int.ofNat a.2.2.length).toNat) -a.2.1.toNat))) else none else bif (Nat.ble ((0+((Int.ofNat (a.1.toNat+(((a.2.2.drop (0+a.2.1.toNat)).take (((Int.ofNat a.2.2.length).toNat) -a.2.1.toNat)).length))).toNat))+(((Int.ofNat a.2.2.length).toNat) - ((Int.ofNat (a.1.toNat+(((a.2.2.drop (0+a.2.1.toNat)).take (((Int.ofNat a.2.2.length).toNat) -a.2.1.toNat)).length))).toNat))) ((hM a.2.2 a.1.toNat ((a.2.2.drop (0+a.2.1.toNat)).take (((Int.ofNat a.2.2.length).toNat) -a.2.1.toNat))).length))&&(!false) then bif ((hM (hM a.2.2 a.1.toNat ((a.2.2.drop (0+a.2.1.toNat)).take (((Int.ofNat a.2.2.length).toNat) -a.2.1.toNat))) (0+((Int.ofNat (a.1.toNat+(((a.2.2.drop (0+a.2.1.toNat)).take (((Int.ofNat a.2.2.length).toNat) -a.2.1.toNat)).length))).toNat)) (List.replicate (((Int.ofNat a.2.2.length).toNat) - ((Int.ofNat (a.1.toNat+(((a.2.2.drop (0+a.2.1.toNat)).take (((Int.ofNat a.2.2.length).toNat) -a.2.1.toNat)).length))).toNat)) (0,0,0))).length)==a.2.2.length then some (a.1.toNat+(((a.2.2.drop (0+a.2.1.toNat)).take (((Int.ofNat a.2.2.length).toNat) -a.2.1.toNat)).length),a.2.2.length,hM (hM a.2.2 a.1.toNat ((a.2.2.drop (0+a.2.1.toNat)).take (((Int.ofNat a.2.2.length).toNat) -a.2.1.toNat))) (0+((Int.ofNat (a.1.toNat+(((a.2.2.drop (0+a.2.1.toNat)).take (((Int.ofNat a.2.2.length).toNat) -a.2.1.toNat)).length))).toNat)) (List.replicate (((Int.ofNat a.2.2.length).toNat) - ((Int.ofNat (a.1.toNat+(((a.2.2.drop (0+a.2.1.toNat)).take (((Int.ofNat a.2.2.length).toNat) -a.2.1.toNat)).length))).toNat)) (0,0,0))) else none else none else none else none else none else none else none
def aBS:fH:=⟨[.i,.i,.l [.i .i64,.i .i64,.i .i64]],[.own 0 false,.int .i64 0,.int .i64 0],[.arr [.i .i64,.i .i64,.i .i64] []],[.n,.n,.l [.i .i64,.i .i64,.i .i64]],.pre 0 0 0 false,[.arr [.i .i64,.i .i64,.i .i64] []],fun a=>eH a⟩
theorem aAg:oC tab 226 aBS:=oC.of aHa (wd:=true) (cx:=(vX aK [] [] [] [])) (pN.make trivial trivial trivial) (fun a=>by kernel_rfl)
def xN (p0:aU) (p1:Int):Option (aU×(Int×Int)×Int):=(I0 p0 p1).bind fun a0=>bif a0.2 !=0 then some (aU.mk 0 [],(0,0),a0.2) else (cC p0.list).bind fun l1=>(eH (a0.1,aA .i64 (a0.1+1),l1)).bind fun a2=>(aO p0.list a0.1).bind fun a3=>some (aU.mk p0.next_ (a2.2.2.take a2.1),a3.2,0)
def aQG:bS:=⟨aE.cons (aP.agg pX) (aE.one (aP.int .i64)),aP.tup (aE.cons (aP.agg pX) (aE.cons (aP.agg (cN.row jC)) (aE.one (aP.int .i64)))),fun a=>xN a.1 a.2,.frz,false⟩
theorem aIr:aN tab 178 aQG:=aN.of aGz (cx:=(vX aK [(225,aQF),(182,bS.clone eT)] [(226,aBS)] [] [])) rfl (pN.make ⟨aIq,zV,trivial⟩ ⟨aAg,trivial⟩ trivial) (fun a=>by kernel_rfl)
def kF (p0:aJ):Option aJ:=(cC p0.field.points).bind fun l0=>(cC p0.certs.list).bind fun l1=>(cC p0.due).bind fun l2=>(cC p0.agenda.heap).bind fun l3=>(cC p0.agenda.where_).bind fun l4=>(cC p0.agenda.slots.uses).bind fun l5=>(cC p0.agenda.slots.used).bind fun l6=>(cC p0.agenda.slots.free).bind fun l7=>some (aJ.mk p0.now (Field.mk l0) (aU.mk p0.certs.next_ l1) (aG.mk (aR.mk l5 l6 l7) l3 l4) l2)
def aBT:bS:=⟨aE.one (aP.agg cW),aP.agg cW,fun a=>kF a,.own,true⟩
def TE:bS:=⟨aE.one (aP.agg cW),aP.agg cW,fun a=>kF a,.frz,false⟩
theorem KP:aN tab 125 aBT:=Oc X4 rfl aK [(103,bS.clone eT),(182,bS.clone eT),(183,bS.clone eT),(184,bS.clone kE),(185,bS.clone ki),(186,bS.clone kb)] ⟨vZ,zV,G7,wC,pY,wB,trivial⟩ fun a=>by kernel_rfl
theorem G9:aN tab 125 TE:=Oc X4 rfl aK [(103,bS.clone eT),(182,bS.clone eT),(183,bS.clone eT),(184,bS.clone kE),(185,bS.clone ki),(186,bS.clone kb)] ⟨vZ,zV,G7,wC,pY,wB,trivial⟩ fun a=>by kernel_rfl
def yN (p0:Int×Int×Int) (p1:Int):Option Int:=(fM p0.1 p1).bind fun n0=>some n0
def aQH:bS:=⟨aE.cons (aP.agg (cN.row eT)) (aE.one (aP.int .i64)),aP.int .i64,fun a=>yN a.1 a.2,.pure,false⟩
theorem aIs:aN tab 228 aQH:=Oc aHc rfl aK [(157,V0)] ⟨D9,trivial⟩ fun a=>by kernel_rfl
def jO (s:QJ):Option aHO:=bif decide (s.2.2.2.1<s.2.2.2.2) then (aO s.1 (aA .i64 (iQ .u64 (aA .u64 (aA .i64 (s.2.2.2.1+s.2.2.2.2))) 1))).bind fun a0=>(yN a0 s.2.1).bind fun n1=>bif decide (n1<0) then some (.next (s.1,s.2.1,s.2.2.1,aA .i64 ((aA .i64 (iQ .u64 (aA .u64 (aA .i64 (s.2.2.2.1+s.2.2.2.2))) 1))+1),s.2.2.2.2)) else some (.next (s.1,s.2.1,s.2.2.1,s.2.2.2.1,aA .i64 (iQ .u64 (aA .u64 (aA .i64 (s.2.2.2.1+s.2.2.2.2))) 1))) else bif decide (s.2.2.2.1<s.2.2.1) then (aO s.1 s.2.2.2.1).bind fun a2=>(yN a2 s.2.1).bind fun n3=>some (.done (s.2.2.2.1,n3==0)) else some (.done (s.2.2.2.1,false))
def dB (p0:List (Int×Int×Int)) (p1:Int) (_:Unit):Option (Int×Bool):=aH jO (p0,p1,Int.ofNat p0.length,0,Int.ofNat p0.length)
def TF:bS:=⟨aE.cons (aP.sl eT) (aE.cons (aP.int .i64) (aE.one (aP.clo 228 aE.nil))),aP.tup (aE.cons (aP.int .i64) (aE.one aP.bool)),fun a=>dB a.1 a.2.1 a.2.2,.pure,false⟩
theorem TG:aN tab 227 TF:=Oc aHb rfl aK [(228,aQH)] ⟨aIs,trivial⟩ fun a=>by kernel_rfl
def pF (p0:List (Int×Int×Int)) (p1:Int):Option (Int×Bool):=(dB p0 p1 ()).bind fun a0=>some a0
def aOo:bS:=⟨aE.cons (aP.sl eT) (aE.one (aP.int .i64)),aP.tup (aE.cons (aP.int .i64) (aE.one aP.bool)),fun a=>pF a.1 a.2,.pure,false⟩
theorem YJ:aN tab 179 aOo:=Oc aGA rfl aK [(227,TF)] ⟨TG,trivial⟩ fun a=>by kernel_rfl
def C9 (p0:aR) (p1:Int×Int):Option (Bool×Int):=(rL p0).bind fun n0=>bif n0 !=0 then some (false,n0) else bif decide (0<=p1.1) then bif decide (p1.1<(Int.ofNat p0.used.length)) then (aO p0.used p1.1).bind fun b1=>bif b1 then (aO p0.uses p1.1).bind fun n2=>some (n2==p1.2,0) else some (false,0) else some (false,0) else some (false,0)
def aOp:bS:=⟨aE.cons (aP.agg oN) (aE.one (aP.agg (cN.row jC))),aP.tup (aE.cons aP.bool (aE.one (aP.int .i64))),fun a=>C9 a.1 a.2,.pure,false⟩
theorem YK:aN tab 273 aOp:=Oc aHw rfl aK [(218,aH4)] ⟨QR,trivial⟩ fun a=>by kernel_rfl
def qE (p0:aG) (p1:Int×Int):Option (Int×Int):=(jY p0).bind fun n0=>bif n0 !=0 then some (0,n0) else (C9 p0.slots p1).bind fun a1=>bif a1.2 !=0 then some (0,6) else bif !a1.1 then some (0,6) else (aO p0.where_ p1.1).bind fun n2=>some (n2,0)
def aOq:bS:=⟨aE.cons (aP.agg gM) (aE.one (aP.agg (cN.row jC))),aP.tup (aE.cons (aP.int .i64) (aE.one (aP.int .i64))),fun a=>qE a.1 a.2,.pure,false⟩
theorem YL:aN tab 229 aOq:=Oc aHd rfl aK [(168,aAf),(273,aOp)] ⟨G8,YK,trivial⟩ fun a=>by kernel_rfl
def uL (p0:List Int) (p1:Int):Option (List Int):=(cC p0).bind fun l0=>(bK l0 [p1]).bind fun l1=>some l1
def aQI:bS:=⟨aE.cons (aP.sl ki) (aE.one (aP.int .i64)),aP.sl ki,fun a=>uL a.1 a.2,.frz,false⟩
theorem aIt:aN tab 299 aQI:=Oc aHF rfl aK [(306,bS.clone ki)] ⟨S5,trivial⟩ fun a=>by kernel_rfl
def EB (p0:aR) (p1:Int×Int):Option (aR×Int):=(C9 p0 p1).bind fun a0=>bif a0.2 !=0 then some (aR.mk [] [] [],a0.2) else bif !a0.1 then some (aR.mk [] [] [],6) else (cC p0.uses).bind fun l1=>(cC p0.used).bind fun l2=>(uL p0.free p1.1).bind fun l3=>(aO l2 p1.1).bind fun _=>some (aR.mk l1 (bZ l2 p1.1 false) l3,0)
def aQJ:bS:=⟨aE.cons (aP.agg oN) (aE.one (aP.agg (cN.row jC))),aP.tup (aE.cons (aP.agg oN) (aE.one (aP.int .i64))),fun a=>EB a.1 a.2,.frz,false⟩
theorem aIu:aN tab 274 aQJ:=aN.of aHx (cx:=(vX aK [(273,aOp),(185,bS.clone ki),(186,bS.clone kb),(299,aQI)] [] [(298,aBK)] [])) rfl (pN.make ⟨YK,pY,wB,aIt,trivial⟩ trivial ⟨YA,trivial⟩) (fun a=>by kernel_rfl)
def bV (a:aHK):Option aAe:=(aO (a.2.2.2.2.2.2.2.2.2.2.2.1.take a.2.2.2.1) a.2.2.2.2.2.1).bind fun _=>(aO a.2.2.2.2.2.2.2.2.2.2.2.2 a.2.2.2.2.2.2.2.2.2.1).bind fun _=>bif ((bZ a.2.2.2.2.2.2.2.2.2.2.2.1 a.2.2.2.2.2.1 (a.2.2.2.2.2.2.1,a.2.2.2.2.2.2.2.1,a.2.2.2.2.2.2.2.2.1,a.2.2.2.2.2.2.2.2.2.1,a.2.2.2.2.2.2.2.2.2.2.1)).length)==a.2.2.2.2.2.2.2.2.2.2.2.1.length then bif ((bZ a.2.2.2.2.2.2.2.2.2.2.2.2 a.2.2.2.2.2.2.2.2.2.1 a.2.2.2.2.2.1).length)==a.2.2.2.2.2.2.2.2.2.2.2.2.length then some (bZ a.2.2.2.2.2.2.2.2.2.2.2.1 a.2.2.2.2.2.1 (a.2.2.2.2.2.2.1,a.2.2.2.2.2.2.2.1,a.2.2.2.2.2.2.2.2.1,a.2.2.2.2.2.2.2.2.2.1,a.2.2.2.2.2.2.2.2.2.2.1),bZ a.2.2.2.2.2.2.2.2.2.2.2.2 a.2.2.2.2.2.2.2.2.2.1 a.2.2.2.2.2.1) else none else none
def V4:fH:=⟨[.l [.i .i64],.l [.b],.l [.i .i64],.n,.n,.i,.i,.i,.i,.i,.i,.l [.i .i64,.i .i64,.i .i64,.i .i64,.i .i64],.l [.i .i64]],[.agg [.sl [.i .i64] [],.sl [.b] [],.sl [.i .i64] [],.pre 0 0 0 false,.own 1 false],.int .i64 0,.agg [.int .i64 0,.int .i64 0,.int .i64 0,.int .i64 0,.int .i64 0]],[.arr [.i .i64,.i .i64,.i .i64,.i .i64,.i .i64] [],.arr [.i .i64] []],[.l [.i .i64,.i .i64,.i .i64,.i .i64,.i .i64],.l [.i .i64]],.tup [],[.arr [.i .i64,.i .i64,.i .i64,.i .i64,.i .i64] [],.arr [.i .i64] []],fun a=>bV a⟩
theorem O2:oC tab 300 V4:=oC.of YB (wd:=false) (cx:=(vX aK [] [] [] [])) (pN.make trivial trivial trivial) (fun a=>by kernel_rfl)
def gD (c0:aHK) (s:aPZ):Option (cA aPZ aPQ):=match s with |(a,b,d,e,f,g,h,i,j,k,l,m,n,o)=>bif decide (b<(Int.ofNat i)) then bif decide ((aA .i64 (b+1))<(Int.ofNat i)) then (aO (d.take i) (aA .i64 (b+1))).bind fun a0=>(aO (d.take i) b).bind fun a1=>(cH a0 a1).bind fun n2=>bif decide (n2<0) then (aO (d.take i) (aA .i64 (b+1))).bind fun a3=>(cH a3 (k,l,m,n,o)).bind fun n4=>bif decide (0<=n4) then (bV (f,g,h,i,j,a,k,l,m,n,o,d,e)).bind fun a5=>bif a5.1.length==c0.2.2.2.2.2.2.2.2.2.2.2.1.length then bif a5.2.length==c0.2.2.2.2.2.2.2.2.2.2.2.2.length then some (.done (.done a5)) else none else none else (aO (d.take i) (aA .i64 (b+1))).bind fun a6=>(bV (f,g,h,i,j,a,a6.1,a6.2.1,a6.2.2.1,a6.2.2.2.1,a6.2.2.2.2,d,e)).bind fun a7=>some (.next (aA .i64 (b+1),aA .i64 ((aA .i64 (2*(aA .i64 (b+1))))+1),a7.1,a7.2,(f,g,h,i,j,k,l,m,n,o))) else (aO (d.take i) b).bind fun a8=>(cH a8 (k,l,m,n,o)).bind fun n9=>bif decide (0<=n9) then (bV (f,g,h,i,j,a,k,l,m,n,o,d,e)).bind fun a10=>bif a10.1.length==c0.2.2.2.2.2.2.2.2.2.2.2.1.length then bif a10.2.length==c0.2.2.2.2.2.2.2.2.2.2.2.2.length then some (.done (.done a10)) else none else none else (aO (d.take i) b).bind fun a11=>(bV (f,g,h,i,j,a,a11.1,a11.2.1,a11.2.2.1,a11.2.2.2.1,a11.2.2.2.2,d,e)).bind fun a12=>some (.next (b,aA .i64 ((aA .i64 (2*b))+1),a12.1,a12.2,(f,g,h,i,j,k,l,m,n,o))) else (aO (d.take i) b).bind fun a13=>(cH a13 (k,l,m,n,o)).bind fun n14=>bif decide (0<=n14) then (bV (f,g,h,i,j,a,k,l,m,n,o,d,e)).bind fun a15=>bif a15.1.length==c0.2.2.2.2.2.2.2.2.2.2.2.1.length then bif a15.2.length==c0.2.2.2.2.2.2.2.2.2.2.2.2.length then some (.done (.done a15)) else none else none else (aO (d.take i) b).bind fun a16=>(bV (f,g,h,i,j,a,a16.1,a16.2.1,a16.2.2.1,a16.2.2.2.1,a16.2.2.2.2,d,e)).bind fun a17=>some (.next (b,aA .i64 ((aA .i64 (2*b))+1),a17.1,a17.2,(f,g,h,i,j,k,l,m,n,o))) else (bV (f,g,h,i,j,a,k,l,m,n,o,d,e)).bind fun a18=>bif a18.1.length==c0.2.2.2.2.2.2.2.2.2.2.2.1.length then bif a18.2.length==c0.2.2.2.2.2.2.2.2.2.2.2.2.length then some (.done (.done a18)) else none else none
def eU (c0:aHK) (s:aPP):Option aPQ:=bif decide (0<s.1) then (aO (s.2.1.take s.2.2.2.2.2.2.1) (aA .i64 (Int.tdiv (aA .i64 (s.1-1)) 2))).bind fun a0=>(cH s.2.2.2.2.2.2.2.2 a0).bind fun n1=>bif decide (n1<0) then (aO (s.2.1.take s.2.2.2.2.2.2.1) (aA .i64 (Int.tdiv (aA .i64 (s.1-1)) 2))).bind fun a2=>(bV (s.2.2.2.1,s.2.2.2.2.1,s.2.2.2.2.2.1,s.2.2.2.2.2.2.1,s.2.2.2.2.2.2.2.1,s.1,a2.1,a2.2.1,a2.2.2.1,a2.2.2.2.1,a2.2.2.2.2,s.2.1,s.2.2.1)).bind fun a3=>some (.next (aA .i64 (Int.tdiv (aA .i64 (s.1-1)) 2),a3.1,a3.2,s.2.2.2)) else aH (gD c0) (s.1,aA .i64 ((aA .i64 (2*s.1))+1),s.2) else aH (gD c0) (s.1,aA .i64 ((aA .i64 (2*s.1))+1),s.2)
def kM (a:aHK):Option aAe:=aH (eU a) (a.2.2.2.2.2.1,a.2.2.2.2.2.2.2.2.2.2.2.1,a.2.2.2.2.2.2.2.2.2.2.2.2,a.1,a.2.1,a.2.2.1,a.2.2.2.1,a.2.2.2.2.1,a.2.2.2.2.2.2.1,a.2.2.2.2.2.2.2.1,a.2.2.2.2.2.2.2.2.1,a.2.2.2.2.2.2.2.2.2.1,a.2.2.2.2.2.2.2.2.2.2.1)
def QW:fH:=⟨[.l [.i .i64],.l [.b],.l [.i .i64],.n,.n,.i,.i,.i,.i,.i,.i,.l [.i .i64,.i .i64,.i .i64,.i .i64,.i .i64],.l [.i .i64]],[.agg [.sl [.i .i64] [],.sl [.b] [],.sl [.i .i64] [],.pre 0 0 0 false,.own 1 false],.int .i64 0,.agg [.int .i64 0,.int .i64 0,.int .i64 0,.int .i64 0,.int .i64 0]],[.arr [.i .i64,.i .i64,.i .i64,.i .i64,.i .i64] [],.arr [.i .i64] []],[.l [.i .i64,.i .i64,.i .i64,.i .i64,.i .i64],.l [.i .i64]],.tup [],[.arr [.i .i64,.i .i64,.i .i64,.i .i64,.i .i64] [],.arr [.i .i64] []],fun a=>kM a⟩
theorem I1:oC tab 276 QW:=oC.of X9 (wd:=false) (cx:=(vX aK [(219,aIa)] [(300,V4)] [] [])) (pN.make ⟨QS,trivial⟩ ⟨O2,trivial⟩ trivial) (fun a=>by kernel_rfl)
def sM (p0:aG) (p1:Int):Option (aG×(Int×Int×Int×Int×Int)×Int):=(aO p0.heap p1).bind fun a0=>(EB p0.slots a0.2.2.2).bind fun a1=>bif a1.2 !=0 then some (aG.mk (aR.mk [] [] []) [] [],(0,0,0,0,0),a1.2) else (cC p0.heap).bind fun l2=>(cC p0.where_).bind fun l3=>(aO l2 (aA .i64 ((Int.ofNat l2.length) -1))).bind fun a4=>(iZ l2 0 (aA .i64 ((Int.ofNat l2.length) -1))).bind fun _=>(aO l3 a0.2.2.2.1).bind fun _=>bif decide (p1<(aA .i64 ((Int.ofNat l2.length) -1))) then (kM (a1.1.uses,a1.1.used,a1.1.free,(aA .i64 ((Int.ofNat l2.length) -1)).toNat,l2.length,p1,a4.1,a4.2.1,a4.2.2.1,a4.2.2.2.1,a4.2.2.2.2,l2,bZ l3 a0.2.2.2.1 (-1))).bind fun a7=>some (aG.mk a1.1 (a7.1.take ((aA .i64 ((Int.ofNat l2.length) -1)).toNat)) a7.2,a0,0) else some (aG.mk a1.1 (l2.take ((aA .i64 ((Int.ofNat l2.length) -1)).toNat)) (bZ l3 a0.2.2.2.1 (-1)),a0,0)
def aQK:bS:=⟨aE.cons (aP.agg gM) (aE.one (aP.int .i64)),aP.tup (aE.cons (aP.agg gM) (aE.cons (aP.agg (cN.row kE)) (aE.one (aP.int .i64)))),fun a=>sM a.1 a.2,.frz,false⟩
theorem aIv:aN tab 230 aQK:=aN.of aHe (cx:=(vX aK [(274,aQJ),(184,bS.clone kE),(185,bS.clone ki)] [(276,QW)] [(275,aAc)] [])) rfl (pN.make ⟨aIu,wC,pY,trivial⟩ ⟨I1,trivial⟩ ⟨QI,trivial⟩) (fun a=>by kernel_rfl)
def mN (p0:aG) (p1:Int×Int):Option (aG×(Int×Int×Int×Int×Int)×Int):=(qE p0 p1).bind fun a0=>bif a0.2 !=0 then some (aG.mk (aR.mk [] [] []) [] [],(0,0,0,0,0),a0.2) else (sM p0 a0.1).bind fun a1=>some a1
def aOr:bS:=⟨aE.cons (aP.agg gM) (aE.one (aP.agg (cN.row jC))),aP.tup (aE.cons (aP.agg gM) (aE.cons (aP.agg (cN.row kE)) (aE.one (aP.int .i64)))),fun a=>mN a.1 a.2,.frz,false⟩
theorem YM:aN tab 180 aOr:=Oc aGB rfl aK [(229,aOq),(230,aQK)] ⟨YL,aIv,trivial⟩ fun a=>by kernel_rfl
def lX (a:aBO):Option (Nat×Nat×cE):= eH a
def aBU:fH:=⟨[.i,.i,.l [.i .i64,.i .i64,.i .i64]],[.own 0 false,.int .i64 0,.int .i64 0],[.arr [.i .i64,.i .i64,.i .i64] []],[.n,.n,.l [.i .i64,.i .i64,.i .i64]],.pre 0 0 0 false,[.arr [.i .i64,.i .i64,.i .i64] []],fun a=>lX a⟩
theorem aAh:oC tab 181 aBU:=oC.of aGC (wd:=true) (cx:=(vX aK [] [] [] [])) (pN.make trivial trivial trivial) (fun a=>by kernel_rfl)
def lY (p0:aJ) (p1:Int):Option (aJ×(Int×Int)×Int):=(xN p0.certs p1).bind fun a0=>bif a0.2.2 !=0 then some (aJ.mk (0,0) (Field.mk []) (aU.mk 0 []) (aG.mk (aR.mk [] [] []) [] []) [],a0.2) else (kF p0).bind fun r1=>(pF p0.due p1).bind fun a2=>bif a2.2 then (aO p0.due a2.1).bind fun a3=>(mN p0.agenda a3.2).bind fun a4=>bif a4.2.2 !=0 then some (aJ.mk (0,0) (Field.mk []) (aU.mk 0 []) (aG.mk (aR.mk [] [] []) [] []) [],a0.2.1,a4.2.2) else (lX (a2.1,aA .i64 (a2.1+1),r1.due)).bind fun a5=>some (aJ.mk r1.now r1.field a0.1 a4.1 (a5.2.2.take a5.1),a0.2.1,0) else some (aJ.mk r1.now r1.field a0.1 r1.agenda r1.due,a0.2.1,0)
def aOs:bS:=⟨aE.cons (aP.agg cW) (aE.one (aP.int .i64)),aP.tup (aE.cons (aP.agg cW) (aE.cons (aP.agg (cN.row jC)) (aE.one (aP.int .i64)))),fun a=>lY a.1 a.2,.frz,false⟩
theorem YN:aN tab 124 aOs:=aN.of aF5 (cx:=(vX aK [(178,aQG),(125,aBT),(125,TE),(179,aOo),(180,aOr)] [(181,aBU)] [] [])) rfl (pN.make ⟨aIr,KP,G9,YJ,YM,trivial⟩ ⟨aAh,trivial⟩ trivial) (fun a=>by kernel_rfl)
def vD (p0:aJ) (p1:Int):Option (aJ×Int):=(gK p0).bind fun n0=>bif n0 !=0 then some (aJ.mk (0,0) (Field.mk []) (aU.mk 0 []) (aG.mk (aR.mk [] [] []) [] []) [],n0) else (lY p0 p1).bind fun a1=>some (a1.1,a1.2.2)
def aQL:bS:=⟨aE.cons (aP.agg cW) (aE.one (aP.int .i64)),aP.tup (aE.cons (aP.agg cW) (aE.one (aP.int .i64))),fun a=>vD a.1 a.2,.frz,false⟩
theorem aIw:aN tab 212 aQL:=Oc aGX rfl aK [(109,V3),(124,aOs)] ⟨EA,YN,trivial⟩ fun a=>by kernel_rfl
def jN (s:aOb):Option aQc:=bif decide (s.2.2.2<s.2.2.1) then (aO s.1 s.2.2.2).bind fun a0=>(aO s.2.1 s.2.2.2).bind fun a1=>bif !((a0.1==a1.1)&&((a0.2.1==a1.2.1)&&(a0.2.2==a1.2.2))) then some (.done false) else some (.next (s.1,s.2.1,s.2.2.1,aA .i64 (s.2.2.2+1))) else some (.done true)
def jH (p0:List (Int×Int×Int)) (p1:List (Int×Int×Int)):Option Bool:=bif (Int.ofNat p0.length) !=(Int.ofNat p1.length) then some false else aH jN (p0,p1,Int.ofNat p0.length,0)
def aQM:bS:=⟨aE.cons (aP.sl eT) (aE.one (aP.sl eT)),aP.bool,fun a=>jH a.1 a.2,.pure,false⟩
theorem aIx:aN tab 213 aQM:=Oc aGY rfl aK [] trivial fun a=>by kernel_rfl
def bW (a:aHL):Option aAe:=(aO a.2.2.2.2.2.2.2.2.2.1 a.2.2.2.1).bind fun _=>(aO a.2.2.2.2.2.2.2.2.2.2 a.2.2.2.2.2.2.2.1).bind fun _=>bif ((bZ a.2.2.2.2.2.2.2.2.2.1 a.2.2.2.1 (a.2.2.2.2.1,a.2.2.2.2.2.1,a.2.2.2.2.2.2.1,a.2.2.2.2.2.2.2.1,a.2.2.2.2.2.2.2.2.1)).length)==a.2.2.2.2.2.2.2.2.2.1.length then bif ((bZ a.2.2.2.2.2.2.2.2.2.2 a.2.2.2.2.2.2.2.1 a.2.2.2.1).length)==a.2.2.2.2.2.2.2.2.2.2.length then some (bZ a.2.2.2.2.2.2.2.2.2.1 a.2.2.2.1 (a.2.2.2.2.1,a.2.2.2.2.2.1,a.2.2.2.2.2.2.1,a.2.2.2.2.2.2.2.1,a.2.2.2.2.2.2.2.2.1),bZ a.2.2.2.2.2.2.2.2.2.2 a.2.2.2.2.2.2.2.1 a.2.2.2.1) else none else none
def aBV:fH:=⟨[.l [.i .i64],.l [.b],.l [.i .i64],.i,.i,.i,.i,.i,.i,.l [.i .i64,.i .i64,.i .i64,.i .i64,.i .i64],.l [.i .i64]],[.agg [.sl [.i .i64] [],.sl [.b] [],.sl [.i .i64] [],.own 0 false,.own 1 false],.int .i64 0,.agg [.int .i64 0,.int .i64 0,.int .i64 0,.int .i64 0,.int .i64 0]],[.arr [.i .i64,.i .i64,.i .i64,.i .i64,.i .i64] [],.arr [.i .i64] []],[.l [.i .i64,.i .i64,.i .i64,.i .i64,.i .i64],.l [.i .i64]],.tup [],[.arr [.i .i64,.i .i64,.i .i64,.i .i64,.i .i64] [],.arr [.i .i64] []],fun a=>bW a⟩
theorem aAi:oC tab 300 aBV:=oC.of YB (wd:=false) (cx:=(vX aK [] [] [] [])) (pN.make trivial trivial trivial) (fun a=>by kernel_rfl)
def gE (c0:aHL) (s:aP0):Option (cA aP0 aPU):=match s with |(a,b,d,e,f,g,h,i,j,k,l,m)=>bif decide (b<(Int.ofNat d.length)) then bif decide ((aA .i64 (b+1))<(Int.ofNat d.length)) then (aO d (aA .i64 (b+1))).bind fun a0=>(aO d b).bind fun a1=>(cH a0 a1).bind fun n2=>bif decide (n2<0) then (aO d (aA .i64 (b+1))).bind fun a3=>(cH a3 (i,j,k,l,m)).bind fun n4=>bif decide (0<=n4) then (bW (f,g,h,a,i,j,k,l,m,d,e)).bind fun a5=>bif a5.1.length==c0.2.2.2.2.2.2.2.2.2.1.length then bif a5.2.length==c0.2.2.2.2.2.2.2.2.2.2.length then some (.done (.done a5)) else none else none else (aO d (aA .i64 (b+1))).bind fun a6=>(bW (f,g,h,a,a6.1,a6.2.1,a6.2.2.1,a6.2.2.2.1,a6.2.2.2.2,d,e)).bind fun a7=>some (.next (aA .i64 (b+1),aA .i64 ((aA .i64 (2*(aA .i64 (b+1))))+1),a7.1,a7.2,(f,g,h,i,j,k,l,m))) else (aO d b).bind fun a8=>(cH a8 (i,j,k,l,m)).bind fun n9=>bif decide (0<=n9) then (bW (f,g,h,a,i,j,k,l,m,d,e)).bind fun a10=>bif a10.1.length==c0.2.2.2.2.2.2.2.2.2.1.length then bif a10.2.length==c0.2.2.2.2.2.2.2.2.2.2.length then some (.done (.done a10)) else none else none else (aO d b).bind fun a11=>(bW (f,g,h,a,a11.1,a11.2.1,a11.2.2.1,a11.2.2.2.1,a11.2.2.2.2,d,e)).bind fun a12=>some (.next (b,aA .i64 ((aA .i64 (2*b))+1),a12.1,a12.2,(f,g,h,i,j,k,l,m))) else (aO d b).bind fun a13=>(cH a13 (i,j,k,l,m)).bind fun n14=>bif decide (0<=n14) then (bW (f,g,h,a,i,j,k,l,m,d,e)).bind fun a15=>bif a15.1.length==c0.2.2.2.2.2.2.2.2.2.1.length then bif a15.2.length==c0.2.2.2.2.2.2.2.2.2.2.length then some (.done (.done a15)) else none else none else (aO d b).bind fun a16=>(bW (f,g,h,a,a16.1,a16.2.1,a16.2.2.1,a16.2.2.2.1,a16.2.2.2.2,d,e)).bind fun a17=>some (.next (b,aA .i64 ((aA .i64 (2*b))+1),a17.1,a17.2,(f,g,h,i,j,k,l,m))) else (bW (f,g,h,a,i,j,k,l,m,d,e)).bind fun a18=>bif a18.1.length==c0.2.2.2.2.2.2.2.2.2.1.length then bif a18.2.length==c0.2.2.2.2.2.2.2.2.2.2.length then some (.done (.done a18)) else none else none
def eV (c0:aHL) (s:aPT):Option aPU:=bif decide (0<s.1) then (aO s.2.1 (aA .i64 (Int.tdiv (aA .i64 (s.1-1)) 2))).bind fun a0=>(cH s.2.2.2.2.2.2 a0).bind fun n1=>bif decide (n1<0) then (aO s.2.1 (aA .i64 (Int.tdiv (aA .i64 (s.1-1)) 2))).bind fun a2=>(bW (s.2.2.2.1,s.2.2.2.2.1,s.2.2.2.2.2.1,s.1,a2.1,a2.2.1,a2.2.2.1,a2.2.2.2.1,a2.2.2.2.2,s.2.1,s.2.2.1)).bind fun a3=>some (.next (aA .i64 (Int.tdiv (aA .i64 (s.1-1)) 2),a3.1,a3.2,s.2.2.2)) else aH (gE c0) (s.1,aA .i64 ((aA .i64 (2*s.1))+1),s.2) else aH (gE c0) (s.1,aA .i64 ((aA .i64 (2*s.1))+1),s.2)
def fC (a:aHL):Option aAe:=aH (eV a) (a.2.2.2.1,a.2.2.2.2.2.2.2.2.2.1,a.2.2.2.2.2.2.2.2.2.2,a.1,a.2.1,a.2.2.1,a.2.2.2.2.1,a.2.2.2.2.2.1,a.2.2.2.2.2.2.1,a.2.2.2.2.2.2.2.1,a.2.2.2.2.2.2.2.2.1)
def V5:fH:=⟨[.l [.i .i64],.l [.b],.l [.i .i64],.i,.i,.i,.i,.i,.i,.l [.i .i64,.i .i64,.i .i64,.i .i64,.i .i64],.l [.i .i64]],[.agg [.sl [.i .i64] [],.sl [.b] [],.sl [.i .i64] [],.own 0 false,.own 1 false],.int .i64 0,.agg [.int .i64 0,.int .i64 0,.int .i64 0,.int .i64 0,.int .i64 0]],[.arr [.i .i64,.i .i64,.i .i64,.i .i64,.i .i64] [],.arr [.i .i64] []],[.l [.i .i64,.i .i64,.i .i64,.i .i64,.i .i64],.l [.i .i64]],.tup [],[.arr [.i .i64,.i .i64,.i .i64,.i .i64,.i .i64] [],.arr [.i .i64] []],fun a=>fC a⟩
theorem O3:oC tab 276 V5:=oC.of X9 (wd:=false) (cx:=(vX aK [(219,aIa)] [(300,V4),(300,aBV)] [] [])) (pN.make ⟨QS,trivial⟩ ⟨O2,aAi,trivial⟩ trivial) (fun a=>by kernel_rfl)
def vE (p0:aG) (p1:Int×Int) (p2:Int×Int):Option (aG×Int):=(jY p0).bind fun n0=>(dZ p2).bind fun n1=>bif (if n1>n0 then n1 else n0) !=0 then some (aG.mk (aR.mk [] [] []) [] [],if n1>n0 then n1 else n0) else (qE p0 p1).bind fun a2=>bif a2.2 !=0 then some (aG.mk (aR.mk [] [] []) [] [],a2.2) else (cC p0.heap).bind fun l3=>(cC p0.where_).bind fun l4=>(aO l3 a2.1).bind fun a5=>(fC (p0.slots.uses,p0.slots.used,p0.slots.free,a2.1,p2.1,p2.2,a5.2.2.1,a5.2.2.2.1,a5.2.2.2.2,l3,l4)).bind fun a6=>some (aG.mk p0.slots a6.1 a6.2,0)
def aQN:bS:=⟨aE.cons (aP.agg gM) (aE.cons (aP.agg (cN.row jC)) (aE.one (aP.agg (cN.row jC)))),aP.tup (aE.cons (aP.agg gM) (aE.one (aP.int .i64))),fun a=>vE a.1 a.2.1 a.2.2,.frz,false⟩
theorem aIy:aN tab 263 aQN:=aN.of aHm (cx:=(vX aK [(168,aAf),(72,c72),(229,aOq),(184,bS.clone kE),(185,bS.clone ki)] [(276,QW),(276,V5)] [(275,aAc)] [])) rfl (pN.make ⟨G8,wD,YL,wC,pY,trivial⟩ ⟨I1,O3,trivial⟩ ⟨QI,trivial⟩) (fun a=>by kernel_rfl)
def yO (p0:Int×Int×Int×Int×Int) (p1:Int):Option Bool:=some (p0.2.2.1==p1)
def aQO:bS:=⟨aE.cons (aP.agg (cN.row kE)) (aE.one (aP.ref (cN.int .i64))),aP.bool,fun a=>yO a.1 a.2,.pure,false⟩
theorem aIz:aN tab 293 aQO:=Oc aHA rfl aK [] trivial fun a=>by kernel_rfl
def cR (s:(rH×Int×Int×Int)):Option (cA (rH×Int×Int×Int) Int):=bif decide (s.2.2.2<s.2.2.1) then (aO s.1 s.2.2.2).bind fun a0=>(yO a0 s.2.1).bind fun b1=>bif b1 then some (.done s.2.2.2) else some (.next (s.1,s.2.1,s.2.2.1,aA .i64 (s.2.2.2+1))) else some (.done (-1))
def eW (p0:List (Int×Int×Int×Int×Int)) (p1:Int):Option Int:=aH cR (p0,p1,Int.ofNat p0.length,0)
def TH:bS:=⟨aE.cons (aP.sl kE) (aE.one (aP.clo 293 (aE.one (aP.ref (cN.int .i64))))),aP.int .i64,fun a=>eW a.1 a.2,.pure,false⟩
theorem TI:aN tab 304 TH:=Oc aHH rfl aK [(293,aQO)] ⟨aIz,trivial⟩ fun a=>by kernel_rfl
def cS (p0:List (Int×Int×Int×Int×Int)) (p1:Int):Option Bool:=(eW p0 p1).bind fun n0=>some (decide (0<=n0))
def TJ:bS:=⟨aE.cons (aP.sl kE) (aE.one (aP.clo 293 (aE.one (aP.ref (cN.int .i64))))),aP.bool,fun a=>cS a.1 a.2,.pure,false⟩
theorem TK:aN tab 292 TJ:=Oc aHz rfl aK [(304,TH)] ⟨TI,trivial⟩ fun a=>by kernel_rfl
def wI (p0:List Int):Option ((List Int)×Int):=(iZ p0 0 (aA .i64 ((Int.ofNat p0.length) -1))).bind fun l0=>(cC l0).bind fun l1=>(aO p0 (aA .i64 ((Int.ofNat p0.length) -1))).bind fun n2=>some (l1,n2)
def aQP:bS:=⟨aE.one (aP.sl ki),aP.tup (aE.cons (aP.sl ki) (aE.one (aP.int .i64))),fun a=>wI a,.frz,false⟩
theorem aIA:aN tab 305 aQP:=Oc aHI rfl aK [(306,bS.clone ki)] ⟨S5,trivial⟩ fun a=>by kernel_rfl
def EC (p0:aR):Option (aR×(Int×Int)×Int):=(rL p0).bind fun n0=>bif n0 !=0 then some (aR.mk [] [] [],(0,0),n0) else bif (Int.ofNat p0.free.length)==0 then some (aR.mk [] [] [],(0,0),18) else (wI p0.free).bind fun a1=>(aO p0.uses a1.2).bind fun n2=>bif n2==1000000 then some (aR.mk [] [] [],(0,0),18) else (cC p0.uses).bind fun l3=>(cC p0.used).bind fun l4=>(aO l4 a1.2).bind fun _=>(aO l3 a1.2).bind fun n6=>(aO l3 a1.2).bind fun _=>(aO (bZ l3 a1.2 (aA .i64 (n6+1))) a1.2).bind fun n8=>some (aR.mk (bZ l3 a1.2 (aA .i64 (n6+1))) (bZ l4 a1.2 true) a1.1,(a1.2,n8),0)
def aQQ:bS:=⟨aE.one (aP.agg oN),aP.tup (aE.cons (aP.agg oN) (aE.cons (aP.agg (cN.row jC)) (aE.one (aP.int .i64)))),fun a=>EC a,.frz,false⟩
theorem aIB:aN tab 294 aQQ:=aN.of aHB (cx:=(vX aK [(218,aH4),(305,aQP),(185,bS.clone ki),(186,bS.clone kb)] [] [(298,aBK)] [])) rfl (pN.make ⟨QR,aIA,pY,wB,trivial⟩ trivial ⟨YA,trivial⟩) (fun a=>by kernel_rfl)
def lQ (p0:aG) (p1:Int×Int) (p2:Int):Option (aG×(Int×Int)×Int):=(jY p0).bind fun n0=>(dZ p1).bind fun n1=>bif (if n1>n0 then n1 else n0) !=0 then some (aG.mk (aR.mk [] [] []) [] [],(0,0),if n1>n0 then n1 else n0) else bif decide (p2<0) then some (aG.mk (aR.mk [] [] []) [] [],(0,0),2) else bif decide (1000000<p2) then some (aG.mk (aR.mk [] [] []) [] [],(0,0),2) else (cS p0.heap p2).bind fun b2=>bif b2 then some (aG.mk (aR.mk [] [] []) [] [],(0,0),14) else (EC p0.slots).bind fun a3=>bif a3.2.2 !=0 then some (aG.mk (aR.mk [] [] []) [] [],(0,0),a3.2.2) else (cC p0.heap).bind fun l4=>(cC p0.where_).bind fun l5=>(bK l4 [(p1.1,p1.2,p2,a3.2.1)]).bind fun l6=>(fC (a3.1.uses,a3.1.used,a3.1.free,aA .i64 ((Int.ofNat l6.length) -1),p1.1,p1.2,p2,a3.2.1.1,a3.2.1.2,l6,l5)).bind fun a7=>some (aG.mk a3.1 a7.1 a7.2,a3.2.1,0)
def aOt:bS:=⟨aE.cons (aP.agg gM) (aE.cons (aP.agg (cN.row jC)) (aE.one (aP.int .i64))),aP.tup (aE.cons (aP.agg gM) (aE.cons (aP.agg (cN.row jC)) (aE.one (aP.int .i64)))),fun a=>lQ a.1 a.2.1 a.2.2,.frz,false⟩
theorem YO:aN tab 264 aOt:=aN.of aHn (cx:=(vX aK [(168,aAf),(72,c72),(292,TJ),(294,aQQ),(184,bS.clone kE),(185,bS.clone ki)] [(276,QW),(276,V5)] [(275,aAc)] [])) rfl (pN.make ⟨G8,wD,TK,aIB,wC,pY,trivial⟩ ⟨I1,O3,trivial⟩ ⟨QI,trivial⟩) (fun a=>by kernel_rfl)
def dJ (s:Zt2):Option (cA Zt2 Zt5):=match s with |(a,b,d,e,f,g,h,i,j,k,l,m,n,o,q,r,t,u,v,w,x,y,z,A,B,C,D,E,F)=>bif decide (d<b) then (aO a d).bind fun a0=>(rN (Field.mk q) a0.2 (e,f)).bind fun a1=>(pF o a0.1).bind fun a2=>bif a1.2.1 then bif a2.2 then (aO o a2.1).bind fun a3=>(vE (aG.mk (aR.mk z A B) C D) a3.2 a1.1).bind fun a4=>(aO o a2.1).bind fun a5=>(bK F [a5]).bind fun l6=>bif a4.2 !=0 then some (.done (.done (aJ.mk (0,0) (Field.mk []) (aU.mk 0 []) (aG.mk (aR.mk [] [] []) [] []) [],a4.2))) else some (.next (a,b,aA .i64 (d+1),e,f,g,h,i,j,k,l,m,n,o,q,r,t,u,v,w,x,y,a4.1.slots.uses,a4.1.slots.used,a4.1.slots.free,a4.1.heap,a4.1.where_,E,l6)) else bif a1.2.1 then (lQ (aG.mk (aR.mk z A B) C D) a1.1 a0.1).bind fun a7=>(bK F [(a0.1,a7.2.1)]).bind fun l8=>bif a7.2.2 !=0 then some (.done (.done (aJ.mk (0,0) (Field.mk []) (aU.mk 0 []) (aG.mk (aR.mk [] [] []) [] []) [],a7.2.2))) else some (.next (a,b,aA .i64 (d+1),e,f,g,h,i,j,k,l,m,n,o,q,r,t,u,v,w,x,y,a7.1.slots.uses,a7.1.slots.used,a7.1.slots.free,a7.1.heap,a7.1.where_,E,l8)) else bif a2.2 then (aO o a2.1).bind fun a9=>(mN (aG.mk (aR.mk z A B) C D) a9.2).bind fun a10=>bif a10.2.2 !=0 then some (.done (.done (aJ.mk (0,0) (Field.mk []) (aU.mk 0 []) (aG.mk (aR.mk [] [] []) [] []) [],a10.2.2))) else some (.next (a,b,aA .i64 (d+1),e,f,g,h,i,j,k,l,m,n,o,q,r,t,u,v,w,x,y,a10.1.slots.uses,a10.1.slots.used,a10.1.slots.free,a10.1.heap,a10.1.where_,(E,F))) else bif a1.2.2 !=0 then some (.done (.done (aJ.mk (0,0) (Field.mk []) (aU.mk 0 []) (aG.mk (aR.mk [] [] []) [] []) [],a1.2.2))) else some (.next (a,b,aA .i64 (d+1),(e,f,g,h,i,j,k,l,m,n,o,q,r,t,u,v,w,x,y,z,A,B,C,D,E,F))) else bif a1.2.1 then (lQ (aG.mk (aR.mk z A B) C D) a1.1 a0.1).bind fun a11=>(bK F [(a0.1,a11.2.1)]).bind fun l12=>bif a11.2.2 !=0 then some (.done (.done (aJ.mk (0,0) (Field.mk []) (aU.mk 0 []) (aG.mk (aR.mk [] [] []) [] []) [],a11.2.2))) else some (.next (a,b,aA .i64 (d+1),e,f,g,h,i,j,k,l,m,n,o,q,r,t,u,v,w,x,y,a11.1.slots.uses,a11.1.slots.used,a11.1.slots.free,a11.1.heap,a11.1.where_,E,l12)) else bif a2.2 then (aO o a2.1).bind fun a13=>(mN (aG.mk (aR.mk z A B) C D) a13.2).bind fun a14=>bif a14.2.2 !=0 then some (.done (.done (aJ.mk (0,0) (Field.mk []) (aU.mk 0 []) (aG.mk (aR.mk [] [] []) [] []) [],a14.2.2))) else some (.next (a,b,aA .i64 (d+1),e,f,g,h,i,j,k,l,m,n,o,q,r,t,u,v,w,x,y,a14.1.slots.uses,a14.1.slots.used,a14.1.slots.free,a14.1.heap,a14.1.where_,(E,F))) else bif a1.2.2 !=0 then some (.done (.done (aJ.mk (0,0) (Field.mk []) (aU.mk 0 []) (aG.mk (aR.mk [] [] []) [] []) [],a1.2.2))) else some (.next (a,b,aA .i64 (d+1),(e,f,g,h,i,j,k,l,m,n,o,q,r,t,u,v,w,x,y,z,A,B,C,D,E,F))) else some (.done (.done (aJ.mk (v,w) (Field.mk E) (aU.mk x y) (aG.mk (aR.mk z A B) C D) F,0)))
def lB (s:aPL):Option Zt5:=bif decide (s.2.2.1<s.2.1) then (aO s.1 s.2.2.1).bind fun a0=>(jZ (Field.mk s.2.2.2.2.2.2.2.2.2.2.2.2.2.2.1) a0.2.1).bind fun a1=>bif decide (a1.1<0) then some (.done (aJ.mk (0,0) (Field.mk []) (aU.mk 0 []) (aG.mk (aR.mk [] [] []) [] []) [],6)) else (jZ (Field.mk s.2.2.2.2.2.2.2.2.2.2.2.2.2.2.1) a0.2.2).bind fun a2=>bif decide (a2.1<0) then some (.done (aJ.mk (0,0) (Field.mk []) (aU.mk 0 []) (aG.mk (aR.mk [] [] []) [] []) [],6)) else some (.next (s.1,s.2.1,aA .i64 (s.2.2.1+1),s.2.2.2)) else (kF (aJ.mk (s.2.2.2.1,s.2.2.2.2.1) (Field.mk s.2.2.2.2.2.1) (aU.mk s.2.2.2.2.2.2.1 s.2.2.2.2.2.2.2.1) (aG.mk (aR.mk s.2.2.2.2.2.2.2.2.1 s.2.2.2.2.2.2.2.2.2.1 s.2.2.2.2.2.2.2.2.2.2.1) s.2.2.2.2.2.2.2.2.2.2.2.1 s.2.2.2.2.2.2.2.2.2.2.2.2.1) s.2.2.2.2.2.2.2.2.2.2.2.2.2.1)).bind fun r3=>(cC s.2.2.2.2.2.2.2.2.2.2.2.2.2.2.1).bind fun l4=>aH dJ (s.2.2.2.2.2.2.2.1,Int.ofNat s.2.2.2.2.2.2.2.1.length,0,s.2.2.2.1,s.2.2.2.2.1,s.2.2.2.2.2.1,s.2.2.2.2.2.2.1,s.2.2.2.2.2.2.2.1,s.2.2.2.2.2.2.2.2.1,s.2.2.2.2.2.2.2.2.2.1,s.2.2.2.2.2.2.2.2.2.2.1,s.2.2.2.2.2.2.2.2.2.2.2.1,s.2.2.2.2.2.2.2.2.2.2.2.2.1,s.2.2.2.2.2.2.2.2.2.2.2.2.2.1,s.2.2.2.2.2.2.2.2.2.2.2.2.2.2.1,s.2.2.2.2.2.2.2.2.2.2.2.2.2.2.2.1,s.2.2.2.2.2.2.2.2.2.2.2.2.2.2.2.2.1,s.2.2.2.2.2.2.2.2.2.2.2.2.2.2.2.2.2,r3.now.1,r3.now.2,r3.certs.next_,r3.certs.list,r3.agenda.slots.uses,r3.agenda.slots.used,r3.agenda.slots.free,r3.agenda.heap,r3.agenda.where_,l4,[])
def pG (p0:aJ) (p1:Field):Option (aJ×Int):=(gK p0).bind fun n0=>bif n0 !=0 then some (aJ.mk (0,0) (Field.mk []) (aU.mk 0 []) (aG.mk (aR.mk [] [] []) [] []) [],n0) else (eK p1).bind fun n1=>bif n1 !=0 then some (aJ.mk (0,0) (Field.mk []) (aU.mk 0 []) (aG.mk (aR.mk [] [] []) [] []) [],n1) else aH lB (p0.certs.list,Int.ofNat p0.certs.list.length,0,p0.now.1,p0.now.2,p0.field.points,p0.certs.next_,p0.certs.list,p0.agenda.slots.uses,p0.agenda.slots.used,p0.agenda.slots.free,p0.agenda.heap,p0.agenda.where_,p0.due,p1.points,0,0,0)
def aQR:bS:=⟨aE.cons (aP.agg cW) (aE.one (aP.agg dQ)),aP.tup (aE.cons (aP.agg cW) (aE.one (aP.int .i64))),fun a=>pG a.1 a.2,.frz,false⟩
theorem aIC:aN tab 214 aQR:=Oc aGZ rfl aK [(109,V3),(99,c99),(221,aIc),(125,aBT),(125,TE),(103,bS.clone eT),(169,aIh),(179,aOo),(263,aQN),(264,aOt),(180,aOr)] ⟨EA,FX,QT,KP,G9,vZ,QU,YJ,aIy,YO,YM,trivial⟩ fun a=>by kernel_rfl
def E4 (p0:Int×Int×Int) (p1:Int×Int):Option Bool:=some ((p0.2.1==p1.1)&&(p0.2.2==p1.2))
def aQS:bS:=⟨aE.cons (aP.agg (cN.row eT)) (aE.one (aP.ref (cN.row jC))),aP.bool,fun a=>E4 a.1 a.2,.pure,false⟩
theorem aID:aN tab 215 aQS:=Oc aG0 rfl aK [] trivial fun a=>by kernel_rfl
def mV (s:QJ):Option (cA QJ Int):=bif decide (s.2.2.2.2<s.2.2.2.1) then (aO s.1 s.2.2.2.2).bind fun a0=>(E4 a0 (s.2.1,s.2.2.1)).bind fun b1=>bif b1 then some (.done s.2.2.2.2) else some (.next (s.1,s.2.1,s.2.2.1,s.2.2.2.1,aA .i64 (s.2.2.2.2+1))) else some (.done (-1))
def iN (p0:List (Int×Int×Int)) (p1:(Int×Int)):Option Int:=aH mV (p0,p1.1,p1.2,Int.ofNat p0.length,0)
def TL:bS:=⟨aE.cons (aP.sl eT) (aE.one (aP.clo 215 (aE.one (aP.ref (cN.row jC))))),aP.int .i64,fun a=>iN a.1 a.2,.pure,false⟩
theorem TM:aN tab 222 TL:=Oc QH rfl aK [(215,aQS)] ⟨aID,trivial⟩ fun a=>by kernel_rfl
def eF (p0:List (Int×Int×Int)) (p1:(Int×Int)):Option Bool:=(iN p0 p1).bind fun n0=>some (decide (0<=n0))
def TN:bS:=⟨aE.cons (aP.sl eT) (aE.one (aP.clo 215 (aE.one (aP.ref (cN.row jC))))),aP.bool,fun a=>eF a.1 a.2,.pure,false⟩
theorem TO:aN tab 171 TN:=Oc QG rfl aK [(222,TL)] ⟨TM,trivial⟩ fun a=>by kernel_rfl
def dG (p0:Int):Option (aJ×Int×Int):=some (aJ.mk (0,0) (Field.mk []) (aU.mk 0 []) (aG.mk (aR.mk [] [] []) [] []) [],0,p0)
def aQT:bS:=⟨aE.one (aP.int .i64),aP.tup (aE.cons (aP.agg cW) (aE.cons (aP.int .i64) (aE.one (aP.int .i64)))),fun a=>dG a,.frz,false⟩
theorem aIE:aN tab 265 aQT:=Oc aHo rfl aK [] trivial fun a=>by kernel_rfl
def FZ (p0:Int×Int×Int) (p1:Int×Int):Option Bool:=some ((p0.2.1==p1.1)&&(p0.2.2==p1.2))
def aQU:bS:=⟨aE.cons (aP.agg (cN.row eT)) (aE.one (aP.ref (cN.row jC))),aP.bool,fun a=>FZ a.1 a.2,.pure,false⟩
theorem aIF:aN tab 295 aQU:=Oc aHC rfl aK [] trivial fun a=>by kernel_rfl
def dF (s:QJ):Option (cA QJ Int):=bif decide (s.2.2.2.2<s.2.2.2.1) then (aO s.1 s.2.2.2.2).bind fun a0=>(FZ a0 (s.2.1,s.2.2.1)).bind fun b1=>bif b1 then some (.done s.2.2.2.2) else some (.next (s.1,s.2.1,s.2.2.1,s.2.2.2.1,aA .i64 (s.2.2.2.2+1))) else some (.done (-1))
def fU (p0:List (Int×Int×Int)) (p1:(Int×Int)):Option Int:=aH dF (p0,p1.1,p1.2,Int.ofNat p0.length,0)
def TP:bS:=⟨aE.cons (aP.sl eT) (aE.one (aP.clo 295 (aE.one (aP.ref (cN.row jC))))),aP.int .i64,fun a=>fU a.1 a.2,.pure,false⟩
theorem TQ:aN tab 222 TP:=Oc QH rfl aK [(295,aQU)] ⟨aIF,trivial⟩ fun a=>by kernel_rfl
def cI (p0:List (Int×Int×Int)) (p1:(Int×Int)):Option Bool:=(fU p0 p1).bind fun n0=>some (decide (0<=n0))
def TR:bS:=⟨aE.cons (aP.sl eT) (aE.one (aP.clo 295 (aE.one (aP.ref (cN.row jC))))),aP.bool,fun a=>cI a.1 a.2,.pure,false⟩
theorem TS:aN tab 171 TR:=Oc QG rfl aK [(222,TP)] ⟨TQ,trivial⟩ fun a=>by kernel_rfl
def HA (p0:aU) (p1:Int×Int):Option (aU×Int×Int):=(rJ p0).bind fun n0=>bif n0 !=0 then some (aU.mk 0 [],0,n0) else (wF p1).bind fun b1=>bif !b1 then some (aU.mk 0 [],0,8) else (cI p0.list p1).bind fun b2=>bif b2 then some (aU.mk 0 [],0,14) else bif (Int.ofNat p0.list.length)==200 then some (aU.mk 0 [],0,18) else bif p0.next_==1000000 then some (aU.mk 0 [],0,18) else (cC p0.list).bind fun l3=>(bK l3 [(p0.next_,p1)]).bind fun l4=>some (aU.mk (aA .i64 (p0.next_+1)) l4,p0.next_,0)
def aQV:bS:=⟨aE.cons (aP.agg pX) (aE.one (aP.agg (cN.row jC))),aP.tup (aE.cons (aP.agg pX) (aE.cons (aP.int .i64) (aE.one (aP.int .i64)))),fun a=>HA a.1 a.2,.frz,false⟩
theorem aIG:aN tab 266 aQV:=Oc aHp rfl aK [(167,aH1),(217,aOn),(171,TR),(182,bS.clone eT)] ⟨QQ,YI,TS,zV,trivial⟩ fun a=>by kernel_rfl
def iU (p0:aJ) (p1:Int×Int):Option (aJ×Int×Int):=(gK p0).bind fun n0=>bif n0 !=0 then (dG n0).bind fun a1=>some a1 else (HA p0.certs p1).bind fun a2=>bif a2.2.2==8 then (dG a2.2.2).bind fun a3=>some a3 else (jZ p0.field p1.1).bind fun a4=>bif decide (a4.1<0) then (dG 6).bind fun a5=>some a5 else (jZ p0.field p1.2).bind fun a6=>bif decide (a6.1<0) then (dG 6).bind fun a7=>some a7 else bif a2.2.2 !=0 then (dG a2.2.2).bind fun a8=>some a8 else (kF p0).bind fun r9=>(rN p0.field p1 p0.now).bind fun a10=>bif a10.2.2 !=0 then (dG a10.2.2).bind fun a11=>some a11 else bif a10.2.1 then (lQ p0.agenda a10.1 a2.2.1).bind fun a12=>bif a12.2.2 !=0 then (dG a12.2.2).bind fun a13=>some a13 else (bK r9.due [(a2.2.1,a12.2.1)]).bind fun l14=>some (aJ.mk r9.now r9.field a2.1 a12.1 l14,a2.2.1,0) else some (aJ.mk r9.now r9.field a2.1 r9.agenda r9.due,a2.2.1,0)
def aQW:bS:=⟨aE.cons (aP.agg cW) (aE.one (aP.agg (cN.row jC))),aP.tup (aE.cons (aP.agg cW) (aE.cons (aP.int .i64) (aE.one (aP.int .i64)))),fun a=>iU a.1 a.2,.frz,false⟩
theorem aIH:aN tab 216 aQW:=Oc aG1 rfl aK [(109,V3),(265,aQT),(266,aQV),(221,aIc),(125,aBT),(125,TE),(169,aIh),(264,aOt)] ⟨EA,aIE,aIG,QT,KP,G9,QU,YO,trivial⟩ fun a=>by kernel_rfl
def fJ (s:Zt8):Option (cA Zt8 Zt3):=bif decide (s.2.2.1<s.2.1) then (aO s.1 s.2.2.1).bind fun a0=>(eF s.2.2.2.2.2.2.2.1 a0).bind fun b1=>bif b1 then some (.next (s.1,s.2.1,aA .i64 (s.2.2.1+1),s.2.2.2)) else (iU (aJ.mk (s.2.2.2.1,s.2.2.2.2.1) (Field.mk s.2.2.2.2.2.1) (aU.mk s.2.2.2.2.2.2.1 s.2.2.2.2.2.2.2.1) (aG.mk (aR.mk s.2.2.2.2.2.2.2.2.1 s.2.2.2.2.2.2.2.2.2.1 s.2.2.2.2.2.2.2.2.2.2.1) s.2.2.2.2.2.2.2.2.2.2.2.1 s.2.2.2.2.2.2.2.2.2.2.2.2.1) s.2.2.2.2.2.2.2.2.2.2.2.2.2.1) a0).bind fun a2=>bif a2.2.2 !=0 then some (.done (.done (aJ.mk (0,0) (Field.mk []) (aU.mk 0 []) (aG.mk (aR.mk [] [] []) [] []) [],a2.2.2))) else some (.next (s.1,s.2.1,aA .i64 (s.2.2.1+1),a2.1.now.1,a2.1.now.2,a2.1.field.points,a2.1.certs.next_,a2.1.certs.list,a2.1.agenda.slots.uses,a2.1.agenda.slots.used,a2.1.agenda.slots.free,a2.1.agenda.heap,a2.1.agenda.where_,a2.1.due,s.2.2.2.2.2.2.2.2.2.2.2.2.2.2)) else some (.done (.done (aJ.mk (s.2.2.2.1,s.2.2.2.2.1) (Field.mk s.2.2.2.2.2.1) (aU.mk s.2.2.2.2.2.2.1 s.2.2.2.2.2.2.2.1) (aG.mk (aR.mk s.2.2.2.2.2.2.2.2.1 s.2.2.2.2.2.2.2.2.2.1 s.2.2.2.2.2.2.2.2.2.2.1) s.2.2.2.2.2.2.2.2.2.2.2.1 s.2.2.2.2.2.2.2.2.2.2.2.2.1) s.2.2.2.2.2.2.2.2.2.2.2.2.2.1,0)))
def eM (s:aPK):Option Zt3:=match s with |(a,b,d,e,f,g,h,i,j,k,l,m,n,o,q,r,t,u,v)=>bif decide (e<d) then (aO b e).bind fun a0=>(fR a a0.2).bind fun b1=>bif !b1 then (vD (aJ.mk (f,g) (Field.mk h) (aU.mk i j) (aG.mk (aR.mk k l m) n o) q) a0.1).bind fun a2=>some (.next (a,b,d,aA .i64 (e+1),a2.1.now.1,a2.1.now.2,a2.1.field.points,a2.1.certs.next_,a2.1.certs.list,a2.1.agenda.slots.uses,a2.1.agenda.slots.used,a2.1.agenda.slots.free,a2.1.agenda.heap,a2.1.agenda.where_,a2.1.due,(r,t,u,v))) else some (.next (a,b,d,aA .i64 (e+1),(f,g,h,i,j,k,l,m,n,o,q,r,t,u,v))) else (jH h r).bind fun b3=>bif !b3 then (pG (aJ.mk (f,g) (Field.mk h) (aU.mk i j) (aG.mk (aR.mk k l m) n o) q) (Field.mk r)).bind fun a4=>bif a4.2 !=0 then some (.done (aJ.mk (0,0) (Field.mk []) (aU.mk 0 []) (aG.mk (aR.mk [] [] []) [] []) [],a4.2)) else aH fJ (a,Int.ofNat a.length,0,a4.1.now.1,a4.1.now.2,a4.1.field.points,a4.1.certs.next_,a4.1.certs.list,a4.1.agenda.slots.uses,a4.1.agenda.slots.used,a4.1.agenda.slots.free,a4.1.agenda.heap,a4.1.agenda.where_,a4.1.due,(t,u,v)) else aH fJ (a,Int.ofNat a.length,0,f,g,h,i,j,k,l,m,n,o,q,(t,u,v))
def tK (p0:aJ) (p1:Field) (p2:List (Int×Int)):Option (aJ×Int):=aH eM (p2,p0.certs.list,Int.ofNat p0.certs.list.length,0,p0.now.1,p0.now.2,p0.field.points,p0.certs.next_,p0.certs.list,p0.agenda.slots.uses,p0.agenda.slots.used,p0.agenda.slots.free,p0.agenda.heap,p0.agenda.where_,p0.due,p1.points,0,0,0)
def aQX:bS:=⟨aE.cons (aP.agg cW) (aE.cons (aP.agg dQ) (aE.one (aP.sl jC))),aP.tup (aE.cons (aP.agg cW) (aE.one (aP.int .i64))),fun a=>tK a.1 a.2.1 a.2.2,.frz,false⟩
theorem aII:aN tab 165 aQX:=Oc aGp rfl aK [(163,aIj),(212,aQL),(213,aQM),(214,aQR),(171,TN),(216,aQW)] ⟨QV,aIw,aIx,aIC,TO,aIH,trivial⟩ fun a=>by kernel_rfl
def fK (s:aAd):Option (cA aAd Zt1):=bif decide (s.2.2.2.1<s.2.2.1) then (aO s.2.1 s.2.2.2.1).bind fun a0=>(wG (Field.mk s.2.2.2.2.2.2.2.2.2.2.2.2.2.2.2.1) a0.1).bind fun a1=>(wG (Field.mk s.2.2.2.2.2.2.2.2.2.2.2.2.2.2.2.1) a0.2).bind fun a2=>bif a1.2 !=0 then some (.done (.done (.done (aJ.mk (0,0) (Field.mk []) (aU.mk 0 []) (aG.mk (aR.mk [] [] []) [] []) [],6)))) else bif a2.2 !=0 then some (.done (.done (.done (aJ.mk (0,0) (Field.mk []) (aU.mk 0 []) (aG.mk (aR.mk [] [] []) [] []) [],6)))) else some (.next (s.1,s.2.1,s.2.2.1,aA .i64 (s.2.2.2.1+1),s.2.2.2.2)) else (wH (aJ.mk (s.2.2.2.2.1,s.2.2.2.2.2.1) (Field.mk s.2.2.2.2.2.2.1) (aU.mk s.2.2.2.2.2.2.2.1 s.2.2.2.2.2.2.2.2.1) (aG.mk (aR.mk s.2.2.2.2.2.2.2.2.2.1 s.2.2.2.2.2.2.2.2.2.2.1 s.2.2.2.2.2.2.2.2.2.2.2.1) s.2.2.2.2.2.2.2.2.2.2.2.2.1 s.2.2.2.2.2.2.2.2.2.2.2.2.2.1) s.2.2.2.2.2.2.2.2.2.2.2.2.2.2.1)).bind fun r3=>(tK r3 (Field.mk s.2.2.2.2.2.2.2.2.2.2.2.2.2.2.2.1) s.1).bind fun a4=>some (.done (.done (.done a4)))
def eN (s:aAd):Option Zt1:=bif decide (s.2.2.2.1<s.2.2.1) then (aO s.2.1 s.2.2.2.1).bind fun a0=>(iZ s.1 0 s.2.2.2.1).bind fun l1=>(fR l1 a0).bind fun b2=>bif b2 then some (.done (.done (aJ.mk (0,0) (Field.mk []) (aU.mk 0 []) (aG.mk (aR.mk [] [] []) [] []) [],14))) else some (.next (s.1,s.2.1,s.2.2.1,aA .i64 (s.2.2.2.1+1),s.2.2.2.2)) else aH fK (s.1,s.1,Int.ofNat s.1.length,0,s.2.2.2.2)
def eO (s:aAd):Option aPJ:=bif decide (s.2.2.2.1<s.2.2.1) then (aO s.2.1 s.2.2.2.1).bind fun a0=>bif decide (a0.1<0) then some (.done (aJ.mk (0,0) (Field.mk []) (aU.mk 0 []) (aG.mk (aR.mk [] [] []) [] []) [],8)) else bif decide (a0.2<0) then some (.done (aJ.mk (0,0) (Field.mk []) (aU.mk 0 []) (aG.mk (aR.mk [] [] []) [] []) [],8)) else bif decide (65535<a0.1) then some (.done (aJ.mk (0,0) (Field.mk []) (aU.mk 0 []) (aG.mk (aR.mk [] [] []) [] []) [],8)) else bif decide (65535<a0.2) then some (.done (aJ.mk (0,0) (Field.mk []) (aU.mk 0 []) (aG.mk (aR.mk [] [] []) [] []) [],8)) else bif a0.1==a0.2 then some (.done (aJ.mk (0,0) (Field.mk []) (aU.mk 0 []) (aG.mk (aR.mk [] [] []) [] []) [],8)) else some (.next (s.1,s.2.1,s.2.2.1,aA .i64 (s.2.2.2.1+1),s.2.2.2.2)) else aH eN (s.1,s.1,Int.ofNat s.1.length,0,s.2.2.2.2)
def pH (p0:aJ) (p1:Field) (p2:List (Int×Int)):Option (aJ×Int):=(gK p0).bind fun n0=>bif n0 !=0 then some (aJ.mk (0,0) (Field.mk []) (aU.mk 0 []) (aG.mk (aR.mk [] [] []) [] []) [],n0) else (eK p1).bind fun n1=>bif n1 !=0 then some (aJ.mk (0,0) (Field.mk []) (aU.mk 0 []) (aG.mk (aR.mk [] [] []) [] []) [],n1) else aH eO (p2,p2,Int.ofNat p2.length,0,p0.now.1,p0.now.2,p0.field.points,p0.certs.next_,p0.certs.list,p0.agenda.slots.uses,p0.agenda.slots.used,p0.agenda.slots.free,p0.agenda.heap,p0.agenda.where_,p0.due,p1.points,0,0,0)
def aQY:bS:=⟨aE.cons (aP.agg cW) (aE.cons (aP.agg dQ) (aE.one (aP.sl jC))),aP.tup (aE.cons (aP.agg cW) (aE.one (aP.int .i64))),fun a=>pH a.1 a.2.1 a.2.2,.frz,false⟩
theorem aIJ:aN tab 108 aQY:=Oc aFS rfl aK [(109,V3),(99,c99),(163,aIj),(164,aQC),(166,aQD),(166,aJ2),(165,aQX)] ⟨EA,FX,QV,aIn,aIo,aBR,aII,trivial⟩ fun a=>by kernel_rfl
def jI (p0:aJ) (p1:Field):Option (cX×Int):=(iT p1 p0.now).bind fun a0=>(pH p0 p1 a0.2).bind fun a1=>bif a1.2 !=0 then some (cX.mk (aJ.mk (0,0) (Field.mk []) (aU.mk 0 []) (aG.mk (aR.mk [] [] []) [] []) []) (oD.mk 0 []),a1.2) else some (cX.mk a1.1 a0.1,0)
def c56:bS:=⟨aE.cons (aP.agg cW) (aE.one (aP.agg dQ)),aP.tup (aE.cons (aP.agg jV) (aE.one (aP.int .i64))),fun a=>jI a.1 a.2,.frz,false⟩
theorem aBW:aN tab 56 c56:=Oc aNM rfl aK [(58,c58),(108,aQY)] ⟨QP,aIJ,trivial⟩ fun a=>by kernel_rfl
def HB (p0:Field) (p1:Int×Int):Option (cX×Int):=(O1 p0 p1).bind fun a0=>bif a0.2 !=0 then some (cX.mk (aJ.mk (0,0) (Field.mk []) (aU.mk 0 []) (aG.mk (aR.mk [] [] []) [] []) []) (oD.mk 0 []),a0.2) else (jI a0.1 p0).bind fun a1=>some a1
def c14:bS:=⟨aE.cons (aP.agg dQ) (aE.one (aP.agg (cN.row jC))),aP.tup (aE.cons (aP.agg jV) (aE.one (aP.int .i64))),fun a=>HB a.1 a.2,.frz,false⟩
theorem aOu:aN tab 14 c14:=Oc aNp rfl aK [(55,c55),(56,c56)] ⟨aOi,aBW,trivial⟩ fun a=>by kernel_rfl
def DA (s:aOb):Option aQc:=bif decide (s.2.2.2<s.2.2.1) then (aO s.1 s.2.2.2).bind fun a0=>(aO s.2.1 s.2.2.2).bind fun a1=>bif !((a0.1==a1.1)&&((a0.2.1==a1.2.1)&&(a0.2.2==a1.2.2))) then some (.done false) else some (.next (s.1,s.2.1,s.2.2.1,aA .i64 (s.2.2.2+1))) else some (.done true)
def qF (p0:List (Int×Int×Int)) (p1:List (Int×Int×Int)):Option Bool:=bif (Int.ofNat p0.length) !=(Int.ofNat p1.length) then some false else aH DA (p0,p1,Int.ofNat p0.length,0)
def aQZ:bS:=⟨aE.cons (aP.sl eT) (aE.one (aP.sl eT)),aP.bool,fun a=>qF a.1 a.2,.pure,false⟩
theorem aIK:aN tab 110 aQZ:=Oc aFU rfl aK [] trivial fun a=>by kernel_rfl
def yP (p0:Int×Int×Int) (p1:List (Int×Int)):Option Bool:=(fR p1 p0.2).bind fun b0=>some (!b0)
def aQ0:bS:=⟨aE.cons (aP.agg (cN.row eT)) (aE.one (aP.ref (cN.sl jC))),aP.bool,fun a=>yP a.1 a.2,.pure,false⟩
theorem aIL:aN tab 170 aQ0:=Oc aGt rfl aK [(163,aIj)] ⟨QV,trivial⟩ fun a=>by kernel_rfl
def bQ (s:(cE×oE×Int×Int)):Option (cA (cE×oE×Int×Int) Int):=bif decide (s.2.2.2<s.2.2.1) then (aO s.1 s.2.2.2).bind fun a0=>(yP a0 s.2.1).bind fun b1=>bif b1 then some (.done s.2.2.2) else some (.next (s.1,s.2.1,s.2.2.1,aA .i64 (s.2.2.2+1))) else some (.done (-1))
def fD (p0:List (Int×Int×Int)) (p1:oE):Option Int:=aH bQ (p0,p1,Int.ofNat p0.length,0)
def TU:bS:=⟨aE.cons (aP.sl eT) (aE.one (aP.clo 170 (aE.one (aP.ref (cN.sl jC))))),aP.int .i64,fun a=>fD a.1 a.2,.pure,false⟩
theorem TV:aN tab 222 TU:=Oc QH rfl aK [(170,aQ0)] ⟨aIL,trivial⟩ fun a=>by kernel_rfl
def eG (p0:List (Int×Int×Int)) (p1:oE):Option Bool:=(fD p0 p1).bind fun n0=>some (decide (0<=n0))
def TW:bS:=⟨aE.cons (aP.sl eT) (aE.one (aP.clo 170 (aE.one (aP.ref (cN.sl jC))))),aP.bool,fun a=>eG a.1 a.2,.pure,false⟩
theorem TX:aN tab 171 TW:=Oc QG rfl aK [(222,TU)] ⟨TV,trivial⟩ fun a=>by kernel_rfl
def tL (p0:aJ) (p1:List (Int×Int)):Option Bool:=bif (Int.ofNat p1.length)==(Int.ofNat p0.certs.list.length) then (eG p0.certs.list p1).bind fun b0=>some (!b0) else some false
def aQ1:bS:=⟨aE.cons (aP.agg cW) (aE.one (aP.sl jC)),aP.bool,fun a=>tL a.1 a.2,.pure,false⟩
theorem aIM:aN tab 111 aQ1:=Oc aFV rfl aK [(171,TW)] ⟨TX,trivial⟩ fun a=>by kernel_rfl
def nS (p0:cX):Option Int:=(gK p0.clock).bind fun n0=>bif n0 !=0 then some 8 else (iT p0.clock.field p0.clock.now).bind fun a1=>bif a1.1.root !=p0.tree.root then some 8 else (qF a1.1.nodes p0.tree.nodes).bind fun b2=>bif !b2 then some 8 else (tL p0.clock a1.2).bind fun b3=>bif !b3 then some 8 else some 0
def c57:bS:=⟨aE.one (aP.agg jV),aP.int .i64,fun a=>nS a,.pure,false⟩
theorem V6:aN tab 57 c57:=Oc aNN rfl aK [(109,V3),(58,c58),(110,aQZ),(111,aQ1)] ⟨EA,QP,aIK,aIM,trivial⟩ fun a=>by kernel_rfl
def F0 (p0:aG):Option ((Int×Int×Int×Int×Int)×Int):=(jY p0).bind fun n0=>bif n0 !=0 then some ((0,0,0,0,0),n0) else bif (Int.ofNat p0.heap.length)==0 then some ((0,0,0,0,0),42) else (aO p0.heap 0).bind fun a1=>some (a1,0)
def aQ2:bS:=⟨aE.one (aP.agg gM),aP.tup (aE.cons (aP.agg (cN.row kE)) (aE.one (aP.int .i64))),fun a=>F0 a,.pure,false⟩
theorem aIN:aN tab 177 aQ2:=Oc aGy rfl aK [(168,aAf)] ⟨G8,trivial⟩ fun a=>by kernel_rfl
def tM (p0:aJ) (p1:Int×Int):Option (Bool×Int):=(gK p0).bind fun n0=>(dZ p1).bind fun n1=>bif (if n1>n0 then n1 else n0) !=0 then some (false,if n1>n0 then n1 else n0) else (rM p1 p0.now).bind fun a2=>bif decide (a2.1<0) then some (false,44) else (F0 p0.agenda).bind fun a3=>bif a3.2 !=0 then some (false,0) else (rM (a3.1.1,a3.1.2.1) p1).bind fun a4=>some (decide (a4.1<=0),0)
def aOv:bS:=⟨aE.cons (aP.agg cW) (aE.one (aP.agg (cN.row jC))),aP.tup (aE.cons aP.bool (aE.one (aP.int .i64))),fun a=>tM a.1 a.2,.pure,false⟩
theorem YP:aN tab 123 aOv:=Oc aF4 rfl aK [(109,V3),(72,c72),(73,c73),(177,aQ2)] ⟨EA,wD,V2,aIN,trivial⟩ fun a=>by kernel_rfl
def rO (p0:aJ) (p1:Int×Int):Option (aJ×(Int×Int×Int×Int×Int)×(Int×Int)×Int):=(tM p0 p1).bind fun a0=>bif a0.2==0 then bif !a0.1 then some (aJ.mk (0,0) (Field.mk []) (aU.mk 0 []) (aG.mk (aR.mk [] [] []) [] []) [],(0,0,0,0,0),(0,0),6) else bif a0.2 !=0 then some (aJ.mk (0,0) (Field.mk []) (aU.mk 0 []) (aG.mk (aR.mk [] [] []) [] []) [],(0,0,0,0,0),(0,0),a0.2) else (aO p0.agenda.heap 0).bind fun a1=>(lY p0 a1.2.2.1).bind fun a2=>bif a2.2.2 !=0 then some (aJ.mk (0,0) (Field.mk []) (aU.mk 0 []) (aG.mk (aR.mk [] [] []) [] []) [],(0,0,0,0,0),(0,0),a2.2.2) else some (aJ.mk (a1.1,a1.2.1) a2.1.field a2.1.certs a2.1.agenda a2.1.due,a1,a2.2.1,0) else bif a0.2 !=0 then some (aJ.mk (0,0) (Field.mk []) (aU.mk 0 []) (aG.mk (aR.mk [] [] []) [] []) [],(0,0,0,0,0),(0,0),a0.2) else (aO p0.agenda.heap 0).bind fun a3=>(lY p0 a3.2.2.1).bind fun a4=>bif a4.2.2 !=0 then some (aJ.mk (0,0) (Field.mk []) (aU.mk 0 []) (aG.mk (aR.mk [] [] []) [] []) [],(0,0,0,0,0),(0,0),a4.2.2) else some (aJ.mk (a3.1,a3.2.1) a4.1.field a4.1.certs a4.1.agenda a4.1.due,a3,a4.2.1,0)
def c74:bS:=⟨aE.cons (aP.agg cW) (aE.one (aP.agg (cN.row jC))),aP.tup (aE.cons (aP.agg cW) (aE.cons (aP.agg (cN.row kE)) (aE.cons (aP.agg (cN.row jC)) (aE.one (aP.int .i64))))),fun a=>rO a.1 a.2,.frz,false⟩
theorem aOw:aN tab 74 c74:=Oc aNX rfl aK [(123,aOv),(124,aOs)] ⟨YP,YN,trivial⟩ fun a=>by kernel_rfl
def BA (p0:aJ) (p1:Int×Int):Option (aJ×Int):=(tM p0 p1).bind fun a0=>bif a0.2==0 then bif a0.1 then some (aJ.mk (0,0) (Field.mk []) (aU.mk 0 []) (aG.mk (aR.mk [] [] []) [] []) [],36) else bif a0.2 !=0 then some (aJ.mk (0,0) (Field.mk []) (aU.mk 0 []) (aG.mk (aR.mk [] [] []) [] []) [],a0.2) else (kF p0).bind fun r1=>some (aJ.mk p1 r1.field r1.certs r1.agenda r1.due,0) else bif a0.2 !=0 then some (aJ.mk (0,0) (Field.mk []) (aU.mk 0 []) (aG.mk (aR.mk [] [] []) [] []) [],a0.2) else (kF p0).bind fun r2=>some (aJ.mk p1 r2.field r2.certs r2.agenda r2.due,0)
def c75:bS:=⟨aE.cons (aP.agg cW) (aE.one (aP.agg (cN.row jC))),aP.tup (aE.cons (aP.agg cW) (aE.one (aP.int .i64))),fun a=>BA a.1 a.2,.frz,false⟩
theorem aOx:aN tab 75 c75:=Oc aNY rfl aK [(123,aOv),(125,aBT),(125,TE)] ⟨YP,KP,G9,trivial⟩ fun a=>by kernel_rfl
def iB (s:Zt6):Option (cA Zt6 (cX×oE×Int)):=(rO (aJ.mk (s.1,s.2.1) (Field.mk s.2.2.1) (aU.mk s.2.2.2.1 s.2.2.2.2.1) (aG.mk (aR.mk s.2.2.2.2.2.1 s.2.2.2.2.2.2.1 s.2.2.2.2.2.2.2.1) s.2.2.2.2.2.2.2.2.1 s.2.2.2.2.2.2.2.2.2.1) s.2.2.2.2.2.2.2.2.2.2.1) (s.2.2.2.2.2.2.2.2.2.2.2.2.2.1,s.2.2.2.2.2.2.2.2.2.2.2.2.2.2.1)).bind fun a0=>bif a0.2.2.2 !=0 then (BA (aJ.mk (s.1,s.2.1) (Field.mk s.2.2.1) (aU.mk s.2.2.2.1 s.2.2.2.2.1) (aG.mk (aR.mk s.2.2.2.2.2.1 s.2.2.2.2.2.2.1 s.2.2.2.2.2.2.2.1) s.2.2.2.2.2.2.2.2.1 s.2.2.2.2.2.2.2.2.2.1) s.2.2.2.2.2.2.2.2.2.2.1) (s.2.2.2.2.2.2.2.2.2.2.2.2.2.1,s.2.2.2.2.2.2.2.2.2.2.2.2.2.2.1)).bind fun a1=>(iT a1.1.field (s.2.2.2.2.2.2.2.2.2.2.2.2.2.1,s.2.2.2.2.2.2.2.2.2.2.2.2.2.2.1)).bind fun a2=>some (.done (cX.mk a1.1 a2.1,s.2.2.2.2.2.2.2.2.2.2.2.2.2.2.2.2.2.2.2,0)) else (jI a0.1 a0.1.field).bind fun a3=>bif a3.2 !=0 then some (.done (cX.mk (aJ.mk (0,0) (Field.mk []) (aU.mk 0 []) (aG.mk (aR.mk [] [] []) [] []) []) (oD.mk 0 []),[],a3.2)) else (bK s.2.2.2.2.2.2.2.2.2.2.2.2.2.2.2.2.2.2.2 [a0.2.2.1]).bind fun l4=>some (.next (a3.1.clock.now.1,a3.1.clock.now.2,a3.1.clock.field.points,a3.1.clock.certs.next_,a3.1.clock.certs.list,a3.1.clock.agenda.slots.uses,a3.1.clock.agenda.slots.used,a3.1.clock.agenda.slots.free,a3.1.clock.agenda.heap,a3.1.clock.agenda.where_,a3.1.clock.due,a3.1.tree.root,a3.1.tree.nodes,s.2.2.2.2.2.2.2.2.2.2.2.2.2.1,s.2.2.2.2.2.2.2.2.2.2.2.2.2.2.1,s.2.2.2.2.2.2.2.2.2.2.2.2.2.2.2.1,s.2.2.2.2.2.2.2.2.2.2.2.2.2.2.2.2.1,s.2.2.2.2.2.2.2.2.2.2.2.2.2.2.2.2.2.1,s.2.2.2.2.2.2.2.2.2.2.2.2.2.2.2.2.2.2.1,l4))
def nE (p0:cX) (p1:Int×Int):Option (cX×oE×Int):=(nS p0).bind fun n0=>bif n0 !=0 then some (cX.mk (aJ.mk (0,0) (Field.mk []) (aU.mk 0 []) (aG.mk (aR.mk [] [] []) [] []) []) (oD.mk 0 []),[],n0) else (dZ p1).bind fun n1=>bif n1 !=0 then some (cX.mk (aJ.mk (0,0) (Field.mk []) (aU.mk 0 []) (aG.mk (aR.mk [] [] []) [] []) []) (oD.mk 0 []),[],8) else (rM p1 p0.clock.now).bind fun a2=>bif decide (a2.1<0) then some (cX.mk (aJ.mk (0,0) (Field.mk []) (aU.mk 0 []) (aG.mk (aR.mk [] [] []) [] []) []) (oD.mk 0 []),[],44) else aH iB (p0.clock.now.1,p0.clock.now.2,p0.clock.field.points,p0.clock.certs.next_,p0.clock.certs.list,p0.clock.agenda.slots.uses,p0.clock.agenda.slots.used,p0.clock.agenda.slots.free,p0.clock.agenda.heap,p0.clock.agenda.where_,p0.clock.due,p0.tree.root,p0.tree.nodes,p1.1,p1.2,0,0,0,0,[])
def c24:bS:=⟨aE.cons (aP.agg jV) (aE.one (aP.agg (cN.row jC))),aP.tup (aE.cons (aP.agg jV) (aE.cons (aP.sl jC) (aE.one (aP.int .i64)))),fun a=>nE a.1 a.2,.frz,false⟩
theorem aBX:aN tab 24 c24:=Oc aNw rfl aK [(57,c57),(72,c72),(73,c73),(74,c74),(56,c56),(75,c75),(58,c58)] ⟨V6,wD,V2,aOw,aBW,aOx,QP,trivial⟩ fun a=>by kernel_rfl
def kG (p0:cX):Option (Int×Int):=(nS p0).bind fun n0=>bif n0 !=0 then some (0,n0) else bif decide (p0.tree.root<0) then some (0,42) else (aO p0.tree.nodes p0.tree.root).bind fun a1=>some (a1.1,0)
def c25:bS:=⟨aE.one (aP.agg jV),aP.tup (aE.cons (aP.int .i64) (aE.one (aP.int .i64))),fun a=>kG a,.pure,false⟩
theorem aBY:aN tab 25 c25:=Oc aNx rfl aK [(57,c57)] ⟨V6,trivial⟩ fun a=>by kernel_rfl
def qG (s:(Int×Int×cE×Int×cE)):Option (cA (Int×Int×cE×Int×cE) Bool):=bif decide (s.1<(Int.ofNat s.2.2.1.length)) then (aO s.2.2.1 s.1).bind fun a0=>(aO s.2.2.2.2 s.1).bind fun a1=>bif !((a0.1==a1.1)&&((a0.2.1==a1.2.1)&&(a0.2.2==a1.2.2))) then some (.done false) else some (.next (aA .i64 (s.1+1),s.2)) else some (.done true)
def lR (p0:oD) (p1:oD):Option Bool:=bif p0.root !=p1.root then some false else bif (Int.ofNat p0.nodes.length) !=(Int.ofNat p1.nodes.length) then some false else aH qG (0,p0.root,p0.nodes,p1.root,p1.nodes)
def c30:bS:=⟨aE.cons (aP.agg yK) (aE.one (aP.agg yK)),aP.bool,fun a=>lR a.1 a.2,.pure,false⟩
theorem V7:aN tab 30 c30:=Oc aNC rfl aK [] trivial fun a=>by kernel_rfl
def F1 (s:(oE×oE×Int)):Option (cA (oE×oE×Int) Bool):=bif decide (s.2.2<(Int.ofNat s.1.length)) then (aO s.1 s.2.2).bind fun a0=>(aO s.2.1 s.2.2).bind fun a1=>bif !((a0.1==a1.1)&&(a0.2==a1.2)) then some (.done false) else some (.next (s.1,s.2.1,aA .i64 (s.2.2+1))) else some (.done true)
def B8 (p0:List (Int×Int)) (p1:List (Int×Int)):Option Bool:=bif (Int.ofNat p0.length) !=(Int.ofNat p1.length) then some false else aH F1 (p0,p1,0)
def c34:bS:=⟨aE.cons (aP.sl jC) (aE.one (aP.sl jC)),aP.bool,fun a=>B8 a.1 a.2,.pure,false⟩
theorem aOy:aN tab 34 c34:=Oc aND rfl aK [] trivial fun a=>by kernel_rfl
def TY:Option Bool:=JV.bind fun r0=>(MO 0).bind fun a1=>(HB r0 a1).bind fun a2=>(MO 2).bind fun a3=>(nE a2.1 a3).bind fun a4=>(kG a4.1).bind fun a5=>bif a2.2==0 then bif a4.2.2==0 then bif a5.2==0 then bif a5.1==1 then (lR a2.1.tree (oD.mk 1 [(1,-1,-1),(2,0,2),(5,-1,-1)])).bind fun b6=>bif b6 then (lR a4.1.tree (oD.mk 0 [(1,-1,1),(2,-1,2),(5,-1,-1)])).bind fun b7=>bif b7 then (B8 a4.2.1 [(1,2)]).bind fun b8=>some b8 else some false else some false else some false else some false else some false else some false
def aS8:bS:=⟨aE.nil,aP.bool,fun _=>TY,.pure,false⟩
theorem aIO:aN tab 10 aS8:=Oc aNl rfl aK [(50,c50),(51,c51),(14,c14),(24,c24),(25,c25),(30,c30),(34,c34)] ⟨aOd,aOe,aOu,aBX,aBY,V7,aOy,trivial⟩ fun a=>by kernel_rfl
def c10:bS:=⟨aE.nil,aP.bool,fun _=>some true,.pure,false⟩
end
theorem aOz:aN tab 10 c10:=aN.at0 (@aIO (LP.of 1000000)) (by kernel_rfl)
section
variable [LP]
def tN (p0:Field):Option Bool:=bif decide (16<(Int.ofNat p0.points.length)) then bif decide ((Int.ofNat p0.points.length)<64) then some true else some (decide (70<(Int.ofNat p0.points.length))) else some (decide (70<(Int.ofNat p0.points.length)))
def c11:bS:=⟨aE.one (aP.agg dQ),aP.bool,fun a=>tN a,.pure,false⟩
theorem aOA:aN tab 11 c11:=Oc aNm rfl aK [] trivial fun a=>by kernel_rfl
def DB (p0:aR):Option Bool:=bif decide (210<(Int.ofNat p0.uses.length)) then some true else bif decide (210<(Int.ofNat p0.used.length)) then some true else some (decide (210<(Int.ofNat p0.free.length)))
def aQ3:bS:=⟨aE.one (aP.agg oN),aP.bool,fun a=>DB a,.pure,false⟩
theorem aIP:aN tab 201 aQ3:=Oc aGS rfl aK [] trivial fun a=>by kernel_rfl
def DC (p0:aG):Option Bool:=(DB p0.slots).bind fun b0=>bif b0 then some true else bif decide (210<(Int.ofNat p0.heap.length)) then some true else some (decide (210<(Int.ofNat p0.where_.length)))
def aQ4:bS:=⟨aE.one (aP.agg gM),aP.bool,fun a=>DC a,.pure,false⟩
theorem aIQ:aN tab 146 aQ4:=Oc aGh rfl aK [(201,aQ3)] ⟨aIP,trivial⟩ fun a=>by kernel_rfl
def tO (p0:aJ):Option Bool:=bif decide (40<(Int.ofNat p0.certs.list.length)) then some true else bif decide (40<(Int.ofNat p0.due.length)) then some true else (tN p0.field).bind fun b0=>bif b0 then some true else (DC p0.agenda).bind fun b1=>some b1
def c87:bS:=⟨aE.one (aP.agg cW),aP.bool,fun a=>tO a,.pure,false⟩
theorem aOB:aN tab 87 c87:=Oc aN6 rfl aK [(11,c11),(146,aQ4)] ⟨aOA,aIQ,trivial⟩ fun a=>by kernel_rfl
def DD (p0:oD):Option Bool:=some (decide (70<(Int.ofNat p0.nodes.length)))
def c88:bS:=⟨aE.one (aP.agg yK),aP.bool,fun a=>DD a,.pure,false⟩
theorem aOC:aN tab 88 c88:=Oc aN7 rfl aK [] trivial fun a=>by kernel_rfl
def tP (p0:cX):Option Bool:=(tO p0.clock).bind fun b0=>bif b0 then some true else (DD p0.tree).bind fun b1=>some b1
def c36:bS:=⟨aE.one (aP.agg jV),aP.bool,fun a=>tP a,.pure,false⟩
theorem aOD:aN tab 36 c36:=Oc aNF rfl aK [(87,c87),(88,c88)] ⟨aOB,aOC,trivial⟩ fun a=>by kernel_rfl
def F2 (p0:Field):Option Bool:=some (decide (10<(Int.ofNat p0.points.length)))
def c68:bS:=⟨aE.one (aP.agg dQ),aP.bool,fun a=>F2 a,.pure,false⟩
theorem aOE:aN tab 68 c68:=Oc aNR rfl aK [] trivial fun a=>by kernel_rfl
def iJ (p0:Int):Option Int:=bif decide (p0<0) then some (aA .u64 ((aA .u64 (aA .i64 (0- (aA .i64 (p0+1)))))+1)) else some (aA .u64 p0)
def c54:bS:=⟨aE.one (aP.int .i64),aP.int .u64,fun a=>iJ a,.pure,false⟩
theorem V8:aN tab 54 c54:=Oc aNK rfl aK [] trivial fun a=>by kernel_rfl
def oP (s:(Int×Int)):Option (cA (Int×Int) Int):=bif s.2 !=0 then bif s.2==0 then none else some (.next (s.2,Int.tmod s.1 s.2)) else some (.done s.1)
def qH (p0:Int) (p1:Int):Option Int:=aH oP (p0,p1)
def c53:bS:=⟨aE.cons (aP.int .u64) (aE.one (aP.int .u64)),aP.int .u64,fun a=>qH a.1 a.2,.pure,false⟩
theorem aBZ:aN tab 53 c53:=Oc aNJ rfl aK [] trivial fun a=>by kernel_rfl
def pI (p0:Int×Int):Option Int:=bif decide (p0.2<1) then some 8 else bif p0.1==(-9223372036854775808) then some 8 else (iJ p0.1).bind fun n0=>(qH n0 (aA .u64 p0.2)).bind fun n1=>bif n1 !=1 then some 8 else some 0
def c13:bS:=⟨aE.one (aP.agg (cN.row jC)),aP.int .i64,fun a=>pI a,.pure,false⟩
theorem V9:aN tab 13 c13:=Oc aNo rfl aK [(54,c54),(53,c53)] ⟨V8,aBZ,trivial⟩ fun a=>by kernel_rfl
def xO (p0:Int×Int×Int):Option Int:=bif decide (p0.1<0) then some 8 else bif decide (65535<p0.1) then some 8 else bif decide (p0.2.1<(-1048576)) then some 8 else bif decide (1048576<p0.2.1) then some 8 else bif decide (p0.2.2<(-1048576)) then some 8 else bif decide (1048576<p0.2.2) then some 8 else some 0
def c52:bS:=⟨aE.one (aP.agg (cN.row eT)),aP.int .i64,fun a=>xO a,.pure,false⟩
theorem aOF:aN tab 52 c52:=Oc aNI rfl aK [] trivial fun a=>by kernel_rfl
def jJ (s:QK):Option (cA QK (cA QK Int)):=bif decide (s.1<(Int.ofNat s.2.length)) then (aO s.2 (aA .i64 (s.1-1))).bind fun a0=>(aO s.2 s.1).bind fun a1=>bif decide (a1.1<=a0.1) then some (.done (.done 32)) else some (.next (aA .i64 (s.1+1),s.2)) else some (.done (.done 0))
def nF (s:QK):Option (cA QK Int):=bif decide (s.1<(Int.ofNat s.2.length)) then (aO s.2 s.1).bind fun a0=>(xO a0).bind fun n1=>bif n1 !=0 then some (.done 8) else some (.next (aA .i64 (s.1+1),s.2)) else aH jJ (1,s.2)
def xP (p0:Field):Option Int:=bif decide (64<(Int.ofNat p0.points.length)) then some 4 else aH nF (0,p0.points)
def c12:bS:=⟨aE.one (aP.agg dQ),aP.int .i64,fun a=>xP a,.pure,false⟩
theorem aOG:aN tab 12 c12:=Oc aNn rfl aK [(52,c52)] ⟨aOF,trivial⟩ fun a=>by kernel_rfl
def rQ (p0:Int×Int):Option Bool:=bif decide (0<=p0.1) then bif decide (p0.1<=65535) then bif decide (0<=p0.2) then bif decide (p0.2<=65535) then some (p0.1 !=p0.2) else some false else some false else some false else some false
def c66:bS:=⟨aE.one (aP.agg (cN.row jC)),aP.bool,fun a=>rQ a,.pure,false⟩
theorem aB0:aN tab 66 c66:=Oc aNP rfl aK [] trivial fun a=>by kernel_rfl
def gF (s:(Int×Int×Int×cE×Int×Int×Int)):Option (cA (Int×Int×Int×cE×Int×Int×Int) aOc):=bif decide (s.2.1<s.1) then (aO s.2.2.2.1 s.2.1).bind fun a0=>bif (a0.2.1==s.2.2.2.2.2.1)&&(a0.2.2==s.2.2.2.2.2.2) then some (.done (.done 8)) else some (.next (s.1,aA .i64 (s.2.1+1),s.2.2)) else some (.done (.next (aA .i64 (s.1+1),s.2.2.1,s.2.2.2.1)))
def qI (s:aBO):Option aOc:=bif decide (s.1<(Int.ofNat s.2.2.length)) then (aO s.2.2 s.1).bind fun a0=>(rQ a0.2).bind fun b1=>bif !b1 then some (.done 8) else bif decide (a0.1<0) then some (.done 8) else bif decide (s.2.1<=a0.1) then some (.done 8) else bif decide (0<s.1) then (aO s.2.2 (aA .i64 (s.1-1))).bind fun a2=>bif decide (a0.1<=a2.1) then some (.done 8) else aH gF (s.1,0,s.2.1,s.2.2,a0) else aH gF (s.1,0,s.2.1,s.2.2,a0) else some (.done 0)
def tQ (p0:aU):Option Int:=bif decide (200<(Int.ofNat p0.list.length)) then some 8 else bif decide (p0.next_<0) then some 8 else bif decide (1000000<p0.next_) then some 8 else aH qI (0,p0.next_,p0.list)
def aQ5:bS:=⟨aE.one (aP.agg pX),aP.int .i64,fun a=>tQ a,.pure,false⟩
theorem aIR:aN tab 128 aQ5:=Oc aF7 rfl aK [(66,c66)] ⟨aB0,trivial⟩ fun a=>by kernel_rfl
def tR (s:aBO):Option aOc:=bif decide (s.2.1<(Int.ofNat s.2.2.length)) then (aO s.2.2 s.2.1).bind fun a0=>bif a0.1==s.1 then some (.done s.2.1) else some (.next (s.1,aA .i64 (s.2.1+1),s.2.2)) else some (.done (-1))
def gN (p0:Field) (p1:Int):Option Int:=aH tR (p1,0,p0.points)
def c21:bS:=⟨aE.cons (aP.agg dQ) (aE.one (aP.int .i64)),aP.int .i64,fun a=>gN a.1 a.2,.pure,false⟩
theorem MQ:aN tab 21 c21:=Oc aNt rfl aK [] trivial fun a=>by kernel_rfl
def qJ (s:(Int×Int×cE×cE)):Option (cA (Int×Int×cE×cE) Bool):=bif decide (s.1<(Int.ofNat s.2.2.1.length)) then (aO s.2.2.1 s.1).bind fun a0=>(gN (Field.mk s.2.2.2) a0.2.1).bind fun n1=>bif decide (n1<0) then some (.done false) else (aO s.2.2.1 s.1).bind fun a2=>(gN (Field.mk s.2.2.2) a2.2.2).bind fun n3=>bif decide (n3<0) then some (.done false) else some (.next (aA .i64 (s.1+1),s.2)) else some (.done true)
def xQ (p0:aU) (p1:Field):Option Bool:=aH qJ (0,p0.next_,p0.list,p1.points)
def aQ6:bS:=⟨aE.cons (aP.agg pX) (aE.one (aP.agg dQ)),aP.bool,fun a=>xQ a.1 a.2,.pure,false⟩
theorem aIS:aN tab 129 aQ6:=Oc aF8 rfl aK [(21,c21)] ⟨MQ,trivial⟩ fun a=>by kernel_rfl
def lC (s:aBN):Option (cA aBN (cA aBN Int)):=bif decide (s.2.1<s.1) then (aO s.2.2.1 s.2.1).bind fun n0=>bif decide (n0<0) then some (.done (.done 8)) else (aO s.2.2.1 s.2.1).bind fun n1=>bif decide (1000000<n1) then some (.done (.done 8)) else (aO s.2.2.2.1 s.2.1).bind fun b2=>(aO s.2.2.2.2.2 s.2.1).bind fun b3=>bif b2==b3 then some (.done (.done 8)) else (aO s.2.2.2.1 s.2.1).bind fun b4=>bif b4 then (aO s.2.2.1 s.2.1).bind fun n5=>bif decide (n5<1) then some (.done (.done 8)) else some (.next (s.1,aA .i64 (s.2.1+1),s.2.2)) else some (.next (s.1,aA .i64 (s.2.1+1),s.2.2)) else some (.done (.done 0))
def qK (s:aBN):Option (cA aBN Int):=bif decide (s.2.1<(Int.ofNat s.2.2.2.2.1.length)) then (aO s.2.2.2.2.1 s.2.1).bind fun n0=>bif decide (n0<0) then some (.done 8) else (aO s.2.2.2.2.1 s.2.1).bind fun n1=>bif decide (s.1<=n1) then some (.done 8) else (aO s.2.2.2.2.1 s.2.1).bind fun n2=>(aO s.2.2.2.2.2 n2).bind fun b3=>bif b3 then some (.done 8) else (aO s.2.2.2.2.1 s.2.1).bind fun n4=>(aO s.2.2.2.2.2 n4).bind fun _=>some (.next (s.1,aA .i64 (s.2.1+1),s.2.2.1,s.2.2.2.1,s.2.2.2.2.1,bZ s.2.2.2.2.2 n4 true)) else aH lC (s.1,0,s.2.2)
def xR (p0:aR):Option Int:=bif decide ((Int.ofNat p0.uses.length)<1) then some 8 else bif decide (200<(Int.ofNat p0.uses.length)) then some 8 else bif (Int.ofNat p0.used.length) !=(Int.ofNat p0.uses.length) then some 8 else bif decide ((Int.ofNat p0.uses.length)<(Int.ofNat p0.free.length)) then some 8 else bif (Int.ofNat p0.uses.length)==(Int.ofNat p0.uses.length) then (B2 (Int.ofNat p0.uses.length) (false:Bool)).bind fun l0=>aH qK (Int.ofNat p0.uses.length,0,p0.uses,p0.used,p0.free,l0) else none
def aQ7:bS:=⟨aE.one (aP.agg oN),aP.int .i64,fun a=>xR a,.pure,false⟩
theorem aIT:aN tab 189 aQ7:=Oc aGK rfl aK [] trivial fun a=>by kernel_rfl
def wJ (p0:aR) (p1:Int×Int):Option Bool:=bif decide (0<=p1.1) then bif decide (p1.1<(Int.ofNat p0.uses.length)) then (aO p0.used p1.1).bind fun b0=>bif b0 then (aO p0.uses p1.1).bind fun n1=>some (n1==p1.2) else some false else some false else some false
def aOH:bS:=⟨aE.cons (aP.agg oN) (aE.one (aP.agg (cN.row jC))),aP.bool,fun a=>wJ a.1 a.2,.pure,false⟩
theorem YQ:aN tab 193 aOH:=Oc aGO rfl aK [] trivial fun a=>by kernel_rfl
def oQ (s:aP6):Option (cA aP6 Bool):=bif decide (s.2.1<s.1) then (aO s.2.2.2.1 s.2.1).bind fun b0=>bif !b0 then (aO s.2.2.2.2.2.2 s.2.1).bind fun n1=>bif n1 !=(-1) then some (.done false) else some (.next (s.1,aA .i64 (s.2.1+1),s.2.2)) else (aO s.2.2.2.2.2.2 s.2.1).bind fun n2=>bif decide (n2<0) then some (.done false) else bif decide ((Int.ofNat s.2.2.2.2.2.1.length)<=n2) then some (.done false) else (aO s.2.2.2.2.2.1 n2).bind fun a3=>bif a3.2.2.2.1 !=s.2.1 then some (.done false) else (aO s.2.2.2.2.2.1 n2).bind fun a4=>(wJ (aR.mk s.2.2.1 s.2.2.2.1 s.2.2.2.2.1) a4.2.2.2).bind fun b5=>bif !b5 then some (.done false) else some (.next (s.1,aA .i64 (s.2.1+1),s.2.2)) else some (.done true)
def vF (p0:aG):Option Bool:=bif (Int.ofNat p0.where_.length) !=(Int.ofNat p0.slots.uses.length) then some false else bif (Int.ofNat p0.heap.length) !=(aA .i64 ((Int.ofNat p0.slots.uses.length) - (Int.ofNat p0.slots.free.length))) then some false else aH oQ (Int.ofNat p0.slots.uses.length,0,p0.slots.uses,p0.slots.used,p0.slots.free,p0.heap,p0.where_)
def aQ8:bS:=⟨aE.one (aP.agg gM),aP.bool,fun a=>vF a,.pure,false⟩
theorem aIU:aN tab 190 aQ8:=Oc aGL rfl aK [(193,aOH)] ⟨YQ,trivial⟩ fun a=>by kernel_rfl
def sN (p0:Int) (p1:Int):Option (Bool×Int×Int):=some (false,aA .u64 ((aA .u64 ((aA .u64 ((aA .u64 (Int.tdiv p0 4294967296))*(aA .u64 (Int.tdiv p1 4294967296))))+(aA .u64 (Int.tdiv (aA .u64 ((aA .u64 ((aA .u64 (Int.tdiv p0 4294967296))*(Int.tmod p1 4294967296)))+(aA .u64 (Int.tdiv (aA .u64 ((Int.tmod p0 4294967296)*(Int.tmod p1 4294967296))) 4294967296)))) 4294967296))))+(aA .u64 (Int.tdiv (aA .u64 ((aA .u64 ((Int.tmod p0 4294967296)*(aA .u64 (Int.tdiv p1 4294967296))))+(Int.tmod (aA .u64 ((aA .u64 ((aA .u64 (Int.tdiv p0 4294967296))*(Int.tmod p1 4294967296)))+(aA .u64 (Int.tdiv (aA .u64 ((Int.tmod p0 4294967296)*(Int.tmod p1 4294967296))) 4294967296)))) 4294967296))) 4294967296))),aA .u64 ((aA .u64 ((Int.tmod (aA .u64 ((aA .u64 ((Int.tmod p0 4294967296)*(aA .u64 (Int.tdiv p1 4294967296))))+(Int.tmod (aA .u64 ((aA .u64 ((aA .u64 (Int.tdiv p0 4294967296))*(Int.tmod p1 4294967296)))+(aA .u64 (Int.tdiv (aA .u64 ((Int.tmod p0 4294967296)*(Int.tmod p1 4294967296))) 4294967296)))) 4294967296))) 4294967296)*4294967296))+(Int.tmod (aA .u64 ((Int.tmod p0 4294967296)*(Int.tmod p1 4294967296))) 4294967296)))
def aQ9:bS:=⟨aE.cons (aP.int .u64) (aE.one (aP.int .u64)),aP.agg (cN.row C5),fun a=>sN a.1 a.2,.pure,false⟩
theorem aIV:aN tab 116 aQ9:=Oc aFX rfl aK [] trivial fun a=>by kernel_rfl
def kH (p0:Int) (p1:Int):Option (Bool×Int×Int):=(iJ p0).bind fun n0=>(iJ p1).bind fun n1=>(sN n0 n1).bind fun a2=>bif !((decide (p0<0))==(decide (p1<0))) then bif p0 !=0 then some (p1 !=0,a2.2) else some (false,a2.2) else some (false,a2.2)
def c69:bS:=⟨aE.cons (aP.int .i64) (aE.one (aP.int .i64)),aP.agg (cN.row C5),fun a=>kH a.1 a.2,.pure,false⟩
theorem aB1:aN tab 69 c69:=Oc aNS rfl aK [(54,c54),(116,aQ9)] ⟨V8,aIV,trivial⟩ fun a=>by kernel_rfl
def lZ (p0:Bool×Int×Int):Option Int:=bif p0.2.1==0 then bif p0.2.2==0 then some 0 else bif p0.1 then some (-1) else some 1 else bif p0.1 then some (-1) else some 1
def c70:bS:=⟨aE.one (aP.agg (cN.row C5)),aP.int .i64,fun a=>lZ a,.pure,false⟩
theorem aB2:aN tab 70 c70:=Oc aNT rfl aK [] trivial fun a=>by kernel_rfl
def rR (p0:Bool×Int×Int) (p1:Bool×Int×Int):Option Int:=bif p0.2.1 !=p1.2.1 then bif decide (p0.2.1<p1.2.1) then some (-1) else some 1 else bif p0.2.2 !=p1.2.2 then bif decide (p0.2.2<p1.2.2) then some (-1) else some 1 else some 0
def c71:bS:=⟨aE.cons (aP.agg (cN.row C5)) (aE.one (aP.agg (cN.row C5))),aP.int .i64,fun a=>rR a.1 a.2,.pure,false⟩
theorem aB3:aN tab 71 c71:=Oc aNU rfl aK [] trivial fun a=>by kernel_rfl
def mO (p0:Int×Int) (p1:Int×Int):Option Int:=(kH p0.1 p1.2).bind fun a0=>(kH p1.1 p0.2).bind fun a1=>(lZ a0).bind fun n2=>(lZ a1).bind fun n3=>bif n2 !=n3 then (lZ a0).bind fun n4=>(lZ a1).bind fun n5=>bif decide (n4<n5) then some (-1) else some 1 else (lZ a0).bind fun n6=>bif decide (n6<0) then (rR a1 a0).bind fun n7=>some n7 else (rR a0 a1).bind fun n8=>some n8
def c23:bS:=⟨aE.cons (aP.agg (cN.row jC)) (aE.one (aP.agg (cN.row jC))),aP.int .i64,fun a=>mO a.1 a.2,.pure,false⟩
theorem WA:aN tab 23 c23:=Oc aNv rfl aK [(69,c69),(70,c70),(71,c71)] ⟨aB1,aB2,aB3,trivial⟩ fun a=>by kernel_rfl
def eQ (p0:Int×Int×Int×Int×Int) (p1:Int×Int×Int×Int×Int):Option Bool:=(mO (p0.1,p0.2.1) (p1.1,p1.2.1)).bind fun n0=>bif decide (n0<0) then some true else bif n0==0 then some (decide (p0.2.2.1<p1.2.2.1)) else some false
def aRa:bS:=⟨aE.cons (aP.agg (cN.row kE)) (aE.one (aP.agg (cN.row kE))),aP.bool,fun a=>eQ a.1 a.2,.pure,false⟩
theorem aIW:aN tab 191 aRa:=Oc aGM rfl aK [(23,c23)] ⟨WA,trivial⟩ fun a=>by kernel_rfl
def lD (s:aP1):Option (cA aP1 aOa):=bif decide (s.2.1<s.1) then (aO s.2.2.2.2.2.1 s.2.1).bind fun a0=>bif a0.2.2.1==s.2.2.2.2.2.2.2.2.2.1 then some (.done (.done 8)) else some (.next (s.1,aA .i64 (s.2.1+1),s.2.2)) else some (.done (.next (aA .i64 (s.1+1),s.2.2.1,s.2.2.2.1,s.2.2.2.2.1,s.2.2.2.2.2.1,s.2.2.2.2.2.2.1)))
def lF (s:aHM):Option (cA aHM aOa):=bif decide (s.1<(Int.ofNat s.2.2.2.2.1.length)) then (aO s.2.2.2.2.1 s.1).bind fun a0=>(aO s.2.2.2.2.1 (aA .i64 (Int.tdiv (aA .i64 (s.1-1)) 2))).bind fun a1=>(eQ a0 a1).bind fun b2=>bif b2 then some (.done (.done 8)) else some (.next (aA .i64 (s.1+1),s.2)) else some (.done (.done 0))
def qL (s:aHM):Option aOa:=bif decide (s.1<(Int.ofNat s.2.2.2.2.1.length)) then (aO s.2.2.2.2.1 s.1).bind fun a0=>(pI (a0.1,a0.2.1)).bind fun n1=>bif n1 !=0 then some (.done 8) else bif decide (a0.2.2.1<0) then some (.done 8) else bif decide (1000000<a0.2.2.1) then some (.done 8) else aH lD (s.1,0,s.2.1,s.2.2.1,s.2.2.2.1,s.2.2.2.2.1,s.2.2.2.2.2,a0) else aH lF (1,s.2)
def tT (p0:aG):Option Int:=(xR p0.slots).bind fun n0=>bif n0 !=0 then some 8 else (vF p0).bind fun b1=>bif !b1 then some 8 else aH qL (0,p0.slots.uses,p0.slots.used,p0.slots.free,p0.heap,p0.where_)
def aOI:bS:=⟨aE.one (aP.agg gM),aP.int .i64,fun a=>tT a,.pure,false⟩
theorem YR:aN tab 130 aOI:=Oc aF9 rfl aK [(189,aQ7),(190,aQ8),(13,c13),(191,aRa)] ⟨aIT,aIU,V9,aIW,trivial⟩ fun a=>by kernel_rfl
def tU (p0:Bool×Int×Int) (p1:Bool×Int×Int):Option (Bool×Int×Int):=bif decide (p0.2.2<p1.2.2) then some (false,aA .u64 ((aA .u64 (p0.2.1-p1.2.1)) -1),aA .u64 (p0.2.2-p1.2.2)) else some (false,aA .u64 (p0.2.1-p1.2.1),aA .u64 (p0.2.2-p1.2.2))
def aRb:bS:=⟨aE.cons (aP.agg (cN.row C5)) (aE.one (aP.agg (cN.row C5))),aP.agg (cN.row C5),fun a=>tU a.1 a.2,.pure,false⟩
theorem aIX:aN tab 223 aRb:=Oc aG7 rfl aK [] trivial fun a=>by kernel_rfl
def BB (p0:Bool×Int×Int) (p1:Bool×Int×Int):Option (Bool×Int×Int):=bif p0.1==p1.1 then bif decide ((aA .u64 (p0.2.2+p1.2.2))<p0.2.2) then some (p0.1,aA .u64 ((aA .u64 (p0.2.1+p1.2.1))+1),aA .u64 (p0.2.2+p1.2.2)) else some (p0.1,aA .u64 (p0.2.1+p1.2.1),aA .u64 (p0.2.2+p1.2.2)) else (rR p0 p1).bind fun n0=>bif decide (0<=n0) then (tU p0 p1).bind fun a1=>bif p0.1 then bif decide (0<a1.2.1) then some (true,a1.2) else some (decide (0<a1.2.2),a1.2) else some (false,a1.2) else (tU p1 p0).bind fun a2=>some (p1.1,a2.2)
def aRc:bS:=⟨aE.cons (aP.agg (cN.row C5)) (aE.one (aP.agg (cN.row C5))),aP.agg (cN.row C5),fun a=>BB a.1 a.2,.pure,false⟩
theorem aIY:aN tab 173 aRc:=Oc aGu rfl aK [(71,c71),(223,aRb)] ⟨aB3,aIX,trivial⟩ fun a=>by kernel_rfl
def ED (p0:Int×Int×Int) (p1:Int×Int×Int) (p2:Int×Int):Option Int:=(kH (aA .i64 (p0.2.1-p1.2.1)) p2.2).bind fun a0=>(kH (aA .i64 (p0.2.2-p1.2.2)) p2.1).bind fun a1=>(BB a0 a1).bind fun a2=>(lZ a2).bind fun n3=>some n3
def aRd:bS:=⟨aE.cons (aP.agg (cN.row eT)) (aE.cons (aP.agg (cN.row eT)) (aE.one (aP.agg (cN.row jC)))),aP.int .i64,fun a=>ED a.1 a.2.1 a.2.2,.pure,false⟩
theorem aIZ:aN tab 115 aRd:=Oc aFW rfl aK [(69,c69),(173,aRc),(70,c70)] ⟨aB1,aIY,aB2,trivial⟩ fun a=>by kernel_rfl
def nG (p0:Int×Int×Int) (p1:Int×Int×Int) (p2:Int×Int):Option Bool:=(ED p0 p1 p2).bind fun n0=>bif n0 !=0 then some (decide (0<n0)) else bif p0.2.2 !=p1.2.2 then some (decide (p1.2.2<p0.2.2)) else some (decide (p0.1<p1.1))
def c67:bS:=⟨aE.cons (aP.agg (cN.row eT)) (aE.cons (aP.agg (cN.row eT)) (aE.one (aP.agg (cN.row jC)))),aP.bool,fun a=>nG a.1 a.2.1 a.2.2,.pure,false⟩
theorem QX:aN tab 67 c67:=Oc aNQ rfl aK [(115,aRd)] ⟨aIZ,trivial⟩ fun a=>by kernel_rfl
def rS (p0:Bool) (p1:Bool×Int×Int) (p2:Bool×Int×Int):Option ((Int×Int)×Int):=bif decide (0<p1.2.1) then some ((0,0),16) else bif decide (9223372036854775807<p1.2.2) then some ((0,0),16) else bif decide (0<p2.2.1) then some ((0,0),16) else bif decide (9223372036854775807<p2.2.2) then some ((0,0),16) else bif p0 then some ((aA .i64 (0- (aA .i64 p1.2.2)),aA .i64 p2.2.2),0) else some ((aA .i64 p1.2.2,aA .i64 p2.2.2),0)
def aRf:bS:=⟨aE.cons aP.bool (aE.cons (aP.agg (cN.row C5)) (aE.one (aP.agg (cN.row C5)))),aP.tup (aE.cons (aP.agg (cN.row jC)) (aE.one (aP.int .i64))),fun a=>rS a.1 a.2.1 a.2.2,.pure,false⟩
theorem aI0:aN tab 302 aRf:=Oc aHG rfl aK [] trivial fun a=>by kernel_rfl
def nH (p0:Int) (p1:Int):Option ((Int×Int)×Int):=bif p1==0 then some ((0,0),26) else (iJ p0).bind fun n0=>(iJ p1).bind fun n1=>(qH n0 n1).bind fun n2=>bif !((decide (p0<0))==(decide (p1<0))) then (iJ p0).bind fun n3=>bif n2==0 then none else (iJ p1).bind fun n4=>bif n2==0 then none else (rS (p0 !=0) (false,0,aA .u64 (Int.tdiv n3 n2)) (false,0,aA .u64 (Int.tdiv n4 n2))).bind fun a5=>some a5 else (iJ p0).bind fun n6=>bif n2==0 then none else (iJ p1).bind fun n7=>bif n2==0 then none else (rS false (false,0,aA .u64 (Int.tdiv n6 n2)) (false,0,aA .u64 (Int.tdiv n7 n2))).bind fun a8=>some a8
def aRg:bS:=⟨aE.cons (aP.int .i64) (aE.one (aP.int .i64)),aP.tup (aE.cons (aP.agg (cN.row jC)) (aE.one (aP.int .i64))),fun a=>nH a.1 a.2,.pure,false⟩
theorem aI1:aN tab 282 aRg:=Oc aHy rfl aK [(54,c54),(53,c53),(302,aRf)] ⟨V8,aBZ,aI0,trivial⟩ fun a=>by kernel_rfl
def EE (p0:Int×Int×Int) (p1:Int×Int×Int):Option (Int×Int):=(nH (aA .i64 (p0.2.1-p1.2.1)) (aA .i64 (p1.2.2-p0.2.2))).bind fun a0=>some a0.1
def aRh:bS:=⟨aE.cons (aP.agg (cN.row eT)) (aE.one (aP.agg (cN.row eT))),aP.agg (cN.row jC),fun a=>EE a.1 a.2,.pure,false⟩
theorem aI2:aN tab 241 aRh:=Oc aHi rfl aK [(282,aRg)] ⟨aI1,trivial⟩ fun a=>by kernel_rfl
def sO (p0:Int×Int×Int) (p1:Int×Int×Int) (p2:Int×Int):Option ((Int×Int)×Bool):=(nG p1 p0 p2).bind fun b0=>bif b0 then some (p2,true) else bif decide (p0.2.2<p1.2.2) then (EE p0 p1).bind fun a1=>some (a1,true) else some ((0,0),false)
def aRi:bS:=⟨aE.cons (aP.agg (cN.row eT)) (aE.cons (aP.agg (cN.row eT)) (aE.one (aP.agg (cN.row jC)))),aP.tup (aE.cons (aP.agg (cN.row jC)) (aE.one aP.bool)),fun a=>sO a.1 a.2.1 a.2.2,.pure,false⟩
theorem aI3:aN tab 192 aRi:=Oc aGN rfl aK [(67,c67),(241,aRh)] ⟨QX,aI2,trivial⟩ fun a=>by kernel_rfl
def rT (p0:Field) (p1:Int×Int) (p2:Int×Int):Option ((Int×Int)×Bool):=(gN p0 p1.2).bind fun n0=>(aO p0.points n0).bind fun a1=>(gN p0 p1.1).bind fun n2=>(aO p0.points n2).bind fun a3=>(sO a1 a3 p2).bind fun a4=>some a4
def aRj:bS:=⟨aE.cons (aP.agg dQ) (aE.cons (aP.agg (cN.row jC)) (aE.one (aP.agg (cN.row jC)))),aP.tup (aE.cons (aP.agg (cN.row jC)) (aE.one aP.bool)),fun a=>rT a.1 a.2.1 a.2.2,.pure,false⟩
theorem aI4:aN tab 131 aRj:=Oc aGa rfl aK [(21,c21),(192,aRi)] ⟨MQ,aI3,trivial⟩ fun a=>by kernel_rfl
def wK (p0:aG) (p1:Int×Int):Option ((Int×Int×Int×Int×Int)×Int):=(tT p0).bind fun n0=>bif n0 !=0 then some ((0,0,0,0,0),8) else (wJ p0.slots p1).bind fun b1=>bif !b1 then some ((0,0,0,0,0),6) else (aO p0.where_ p1.1).bind fun n2=>(aO p0.heap n2).bind fun a3=>some (a3,0)
def aRk:bS:=⟨aE.cons (aP.agg gM) (aE.one (aP.agg (cN.row jC))),aP.tup (aE.cons (aP.agg (cN.row kE)) (aE.one (aP.int .i64))),fun a=>wK a.1 a.2,.pure,false⟩
theorem aI5:aN tab 132 aRk:=Oc aGb rfl aK [(130,aOI),(193,aOH)] ⟨YR,YQ,trivial⟩ fun a=>by kernel_rfl
def dK (s:aPO):Option (cA aPO Int):=bif decide (s.2.1<(Int.ofNat s.2.2.2.2.2.2.1.length)) then (aO s.2.2.2.2.2.2.1 s.2.1).bind fun a0=>(rT (Field.mk s.2.2.2.2.1) a0.2 (s.2.2.1,s.2.2.2.1)).bind fun a1=>bif !a1.2 then some (.next (s.1,aA .i64 (s.2.1+1),s.2.2)) else bif decide ((Int.ofNat s.2.2.2.2.2.2.2.2.2.2.2.2.length)<=s.1) then some (.done 8) else (aO s.2.2.2.2.2.2.2.2.2.2.2.2 s.1).bind fun a2=>bif a2.1 !=a0.1 then some (.done 8) else (aO s.2.2.2.2.2.2.2.2.2.2.2.2 s.1).bind fun a3=>(wK (aG.mk (aR.mk s.2.2.2.2.2.2.2.1 s.2.2.2.2.2.2.2.2.1 s.2.2.2.2.2.2.2.2.2.1) s.2.2.2.2.2.2.2.2.2.2.1 s.2.2.2.2.2.2.2.2.2.2.2.1) a3.2).bind fun a4=>bif a4.2 !=0 then some (.done 8) else bif a4.1.2.2.1 !=a0.1 then some (.done 8) else bif !((a4.1.1==a1.1.1)&&(a4.1.2.1==a1.1.2)) then some (.done 8) else some (.next (aA .i64 (s.1+1),aA .i64 (s.2.1+1),s.2.2)) else bif s.1 !=(Int.ofNat s.2.2.2.2.2.2.2.2.2.2.2.2.length) then some (.done 8) else some (.done 0)
def xS (p0:aJ):Option Int:=(pI p0.now).bind fun n0=>bif n0 !=0 then some 8 else (xP p0.field).bind fun n1=>bif n1 !=0 then some 8 else (tQ p0.certs).bind fun n2=>bif n2 !=0 then some 8 else (xQ p0.certs p0.field).bind fun b3=>bif !b3 then some 8 else (tT p0.agenda).bind fun n4=>bif n4 !=0 then some 8 else bif (Int.ofNat p0.agenda.where_.length) !=200 then some 8 else bif (Int.ofNat p0.agenda.heap.length) !=(Int.ofNat p0.due.length) then some 8 else aH dK (0,0,p0.now.1,p0.now.2,p0.field.points,p0.certs.next_,p0.certs.list,p0.agenda.slots.uses,p0.agenda.slots.used,p0.agenda.slots.free,p0.agenda.heap,p0.agenda.where_,p0.due)
def c77:bS:=⟨aE.one (aP.agg cW),aP.int .i64,fun a=>xS a,.pure,false⟩
theorem aOJ:aN tab 77 c77:=Oc aN0 rfl aK [(13,c13),(12,c12),(128,aQ5),(129,aQ6),(130,aOI),(131,aRj),(132,aRk)] ⟨V9,aOG,aIR,aIS,YR,aI4,aI5,trivial⟩ fun a=>by kernel_rfl
def kB (s:QL):Option (cA QL Int):=bif decide (s.2.2.1<s.1) then bif decide (s.2.1<0) then some (.next (s.1,s.2.2.1,aA .i64 (s.2.2.1+1),s.2.2.2)) else (aO s.2.2.2.1 s.2.2.1).bind fun a0=>(aO s.2.2.2.1 s.2.1).bind fun a1=>(nG a0 a1 s.2.2.2.2).bind fun b2=>bif b2 then some (.next (s.1,s.2.2.1,aA .i64 (s.2.2.1+1),s.2.2.2)) else some (.next (s.1,s.2.1,aA .i64 (s.2.2.1+1),s.2.2.2)) else some (.done s.2.1)
def vN (p0:Field) (p1:Int×Int) (p2:Int) (p3:Int):Option Int:=aH kB (p3,-1,p2,p0.points,p1)
def aRl:bS:=⟨aE.cons (aP.agg dQ) (aE.cons (aP.agg (cN.row jC)) (aE.cons (aP.int .i64) (aE.one (aP.int .i64)))),aP.int .i64,fun a=>vN a.1 a.2.1 a.2.2.1 a.2.2.2,.pure,false⟩
theorem aI6:aN tab 209 aRl:=Oc aGU rfl aK [(67,c67)] ⟨QX,trivial⟩ fun a=>by kernel_rfl
def fP (self:aHN->Option QK) (a:aHN):Option QK:=(vN (Field.mk a.1) (a.2.1,a.2.2.1) a.2.2.2.2.1 a.2.2.2.2.2.1).bind fun n0=>bif decide (0<=n0) then (self (a.1,a.2.1,a.2.2.1,a.2.2.2.1,a.2.2.2.2.1,n0,a.2.2.2.2.2.2)).bind fun a1=>(aO a1.2 n0).bind fun a2=>(self (a.1,a.2.1,a.2.2.1,a.2.2.2.1,aA .i64 (n0+1),a.2.2.2.2.2.1,bZ a1.2 n0 (a2.1,a1.1,a2.2.2))).bind fun a3=>(aO a3.2 n0).bind fun a4=>bif ((bZ a3.2 n0 (a4.1,a4.2.1,a3.1)).length)==a.2.2.2.2.2.2.length then some (n0,bZ a3.2 n0 (a4.1,a4.2.1,a3.1)) else none else bif a.2.2.2.2.2.2.length==a.2.2.2.2.2.2.length then some (n0,a.2.2.2.2.2.2) else none
def jK:Nat->aHN->Option QK |0,_=>none |n+1,a=>fP (jK n) a
def rU (a:aHN):Option QK:=jK 1000000 a
def aB4:fH:=⟨[.l [.i .i64,.i .i64,.i .i64],.i,.i,.i,.i,.i,.l [.i .i64,.i .i64,.i .i64]],[.agg [.sl [.i .i64,.i .i64,.i .i64] []],.agg [.int .i64 0,.int .i64 0],.agg [.int .i64 0,.own 0 false],.int .i64 0,.int .i64 0],[.arr [.i .i64,.i .i64,.i .i64] []],[.i,.l [.i .i64,.i .i64,.i .i64]],.int .i64 0,[.arr [.i .i64,.i .i64,.i .i64] []],fun a=>rU a⟩
theorem MR: ∀n,oC tab 160 ⟨[.l [.i .i64,.i .i64,.i .i64],.i,.i,.i,.i,.i,.l [.i .i64,.i .i64,.i .i64]],[.agg [.sl [.i .i64,.i .i64,.i .i64] []],.agg [.int .i64 0,.int .i64 0],.agg [.int .i64 0,.own 0 false],.int .i64 0,.int .i64 0],[.arr [.i .i64,.i .i64,.i .i64] []],[.i,.l [.i .i64,.i .i64,.i .i64]],.int .i64 0,[.arr [.i .i64,.i .i64,.i .i64] []],fun a=>jK n a⟩
 |0=>oC.zero (fun _=>rfl)
 |n+1=>oC.of aGl (wd:=false) (cx:=(vX aK [(209,aRl)] [(160,⟨[.l [.i .i64,.i .i64,.i .i64],.i,.i,.i,.i,.i,.l [.i .i64,.i .i64,.i .i64]],[.agg [.sl [.i .i64,.i .i64,.i .i64] []],.agg [.int .i64 0,.int .i64 0],.agg [.int .i64 0,.own 0 false],.int .i64 0,.int .i64 0],[.arr [.i .i64,.i .i64,.i .i64] []],[.i,.l [.i .i64,.i .i64,.i .i64]],.int .i64 0,[.arr [.i .i64,.i .i64,.i .i64] []],fun a=>jK n a⟩)] [] [])) (pN.make ⟨aI6,trivial⟩ ⟨(MR n),trivial⟩ trivial) (fun a=>by kernel_rfl)
theorem aAj:oC tab 160 aB4:=MR 1000000
def oG (s:aQb):Option (cA aQb oD):=bif decide (s.1<(Int.ofNat s.2.1.length)) then (aO s.2.1 s.1).bind fun a0=>(bK s.2.2.2.2.2.2 [(a0.1,0,0)]).bind fun l1=>some (.next (aA .i64 (s.1+1),s.2.1,s.2.2.1,s.2.2.2.1,s.2.2.2.2.1,s.2.2.2.2.2.1,l1)) else (rU (s.2.1,s.2.2.1,s.2.2.2.1,s.2.2.2.2.2.1,0,Int.ofNat s.2.1.length,s.2.2.2.2.2.2)).bind fun a2=>some (.done (oD.mk a2.1 a2.2))
def F3 (p0:Field) (p1:Int×Int):Option oD:=aH oG (0,p0.points,p1.1,p1.2,0,0,[])
def aRm:bS:=⟨aE.cons (aP.agg dQ) (aE.one (aP.agg (cN.row jC))),aP.agg yK,fun a=>F3 a.1 a.2,.frz,false⟩
theorem aI7:aN tab 106 aRm:=aN.of aFQ (cx:=(vX aK [] [(160,aB4)] [] [])) rfl (pN.make trivial ⟨aAj,trivial⟩ trivial) (fun a=>by kernel_rfl)
def rV (p0:Field) (p1:Int×Int):Option oD:=(F3 p0 p1).bind fun r0=>some r0
def c78:bS:=⟨aE.cons (aP.agg dQ) (aE.one (aP.agg (cN.row jC))),aP.agg yK,fun a=>rV a.1 a.2,.frz,false⟩
theorem aOK:aN tab 78 c78:=Oc aN1 rfl aK [(106,aRm)] ⟨aI7,trivial⟩ fun a=>by kernel_rfl
def pJ (s:(Int×Int×Int×cE×oE)):Option (cA (Int×Int×Int×cE×oE) aQa):=bif decide (s.2.1<(Int.ofNat s.2.2.2.1.length)) then (aO s.2.2.2.1 s.2.1).bind fun a0=>bif a0.2.1==s.1 then (aO s.2.2.2.1 s.1).bind fun a1=>(aO s.2.2.2.1 s.2.1).bind fun a2=>(bK s.2.2.2.2 [(a1.1,a2.1)]).bind fun l3=>some (.next (s.1,aA .i64 (s.2.1+1),s.2.2.1,s.2.2.2.1,l3)) else (aO s.2.2.2.1 s.2.1).bind fun a4=>bif a4.2.2==s.1 then (aO s.2.2.2.1 s.1).bind fun a5=>(aO s.2.2.2.1 s.2.1).bind fun a6=>(bK s.2.2.2.2 [(a5.1,a6.1)]).bind fun l7=>some (.next (s.1,aA .i64 (s.2.1+1),s.2.2.1,s.2.2.2.1,l7)) else some (.next (s.1,aA .i64 (s.2.1+1),s.2.2)) else some (.done (.next (aA .i64 (s.1+1),s.2.2)))
def tV (s:(Int×Int×cE×oE)):Option aQa:=bif decide (s.1<(Int.ofNat s.2.2.1.length)) then aH pJ (s.1,0,s.2) else some (.done s.2.2.2)
def DE (p0:oD):Option oE:=aH tV (0,p0.root,p0.nodes,[])
def c80:bS:=⟨aE.one (aP.agg yK),aP.sl jC,fun a=>DE a,.frz,false⟩
theorem aOL:aN tab 80 c80:=Oc aN3 rfl aK [] trivial fun a=>by kernel_rfl
def vG (s:aHP):Option (cA aHP Bool):=bif decide (s.1<(Int.ofNat s.2.2.1.length)) then (aO s.2.2.1 s.1).bind fun a0=>bif (a0.2.1==s.2.2.2.1)&&(a0.2.2==s.2.2.2.2) then some (.done true) else some (.next (aA .i64 (s.1+1),s.2)) else some (.done false)
def vO (p0:aU) (p1:Int×Int):Option Bool:=aH vG (0,p0.next_,p0.list,p1)
def aRn:bS:=⟨aE.cons (aP.agg pX) (aE.one (aP.agg (cN.row jC))),aP.bool,fun a=>vO a.1 a.2,.pure,false⟩
theorem aI8:aN tab 133 aRn:=Oc aGc rfl aK [] trivial fun a=>by kernel_rfl
def BC (p0:Int×Int) (p1:Field) (p2:Int×Int):Option Bool:=(gN p1 p0.2).bind fun n0=>(aO p1.points n0).bind fun a1=>(gN p1 p0.1).bind fun n2=>(aO p1.points n2).bind fun a3=>(nG a1 a3 p2).bind fun b4=>some b4
def aRo:bS:=⟨aE.cons (aP.agg (cN.row jC)) (aE.cons (aP.agg dQ) (aE.one (aP.agg (cN.row jC)))),aP.bool,fun a=>BC a.1 a.2.1 a.2.2,.pure,false⟩
theorem aI9:aN tab 134 aRo:=Oc aGd rfl aK [(21,c21),(67,c67)] ⟨MQ,QX,trivial⟩ fun a=>by kernel_rfl
def sP (s:aPN):Option (cA aPN Bool):=bif decide (s.2.1<(Int.ofNat s.1.length)) then (aO s.1 s.2.1).bind fun a0=>(vO (aU.mk s.2.2.2.2.2.1 s.2.2.2.2.2.2.1) a0).bind fun b1=>bif !b1 then some (.done false) else (aO s.1 s.2.1).bind fun a2=>(BC a2 (Field.mk s.2.2.2.2.1) (s.2.2.1,s.2.2.2.1)).bind fun b3=>bif !b3 then some (.done false) else some (.next (s.1,aA .i64 (s.2.1+1),s.2.2)) else some (.done true)
def BD (p0:aJ) (p1:List (Int×Int)):Option Bool:=bif (Int.ofNat p0.certs.list.length) !=(Int.ofNat p1.length) then some false else aH sP (p1,0,p0.now.1,p0.now.2,p0.field.points,p0.certs.next_,p0.certs.list,p0.agenda.slots.uses,p0.agenda.slots.used,p0.agenda.slots.free,p0.agenda.heap,p0.agenda.where_,p0.due)
def c79:bS:=⟨aE.cons (aP.agg cW) (aE.one (aP.sl jC)),aP.bool,fun a=>BD a.1 a.2,.pure,false⟩
theorem aOM:aN tab 79 c79:=Oc aN2 rfl aK [(133,aRn),(134,aRo)] ⟨aI8,aI9,trivial⟩ fun a=>by kernel_rfl
def pK (p0:cX):Option Int:=(xS p0.clock).bind fun n0=>bif n0 !=0 then some 8 else (rV p0.clock.field p0.clock.now).bind fun r1=>(lR r1 p0.tree).bind fun b2=>bif !b2 then some 8 else (DE r1).bind fun l3=>(BD p0.clock l3).bind fun b4=>bif !b4 then some 8 else some 0
def c27:bS:=⟨aE.one (aP.agg jV),aP.int .i64,fun a=>pK a,.pure,false⟩
theorem aB5:aN tab 27 c27:=Oc aNz rfl aK [(77,c77),(78,c78),(30,c30),(80,c80),(79,c79)] ⟨aOJ,aOK,V7,aOL,aOM,trivial⟩ fun a=>by kernel_rfl
def zY (p0:cX):Option Bool:=(tP p0).bind fun b0=>bif !b0 then (F2 p0.clock.field).bind fun b1=>bif !b1 then (pK p0).bind fun n2=>some (n2==0) else some false else some false
def c22:bS:=⟨aE.one (aP.agg jV),aP.bool,fun a=>zY a,.pure,false⟩
theorem aON:aN tab 22 c22:=Oc aNu rfl aK [(36,c36),(68,c68),(27,c27)] ⟨aOD,aOE,aB5,trivial⟩ fun a=>by kernel_rfl
def KC (p0:Int):Option Int:=bif decide (65536<=p0) then bif decide (256<=(iQ .u32 p0 16)) then (uS uK (aA .u8 (iQ .u32 (iQ .u32 p0 16) 8))).bind fun n0=>some (aA .i64 (24+(aA .i64 n0))) else (uS uK (aA .u8 (iQ .u32 p0 16))).bind fun n1=>some (aA .i64 (16+(aA .i64 n1))) else bif decide (256<=p0) then (uS uK (aA .u8 (iQ .u32 p0 8))).bind fun n2=>some (aA .i64 (8+(aA .i64 n2))) else (uS uK (aA .u8 p0)).bind fun n3=>some (aA .i64 (0+(aA .i64 n3)))
def aRp:bS:=⟨aE.one (aP.int .u32),aP.int .i64,fun a=>KC a,.pure,false⟩
theorem aJa:aN tab 239 aRp:=Oc aHg rfl aK [] trivial fun a=>by kernel_rfl
end
end
end Go.Proofs.YthljmpcakagceaaGreat
